/- Lemmas: an abstract interpreter, and what the functions compute. -/
import Derived.Test.YtkccmbjmlpnejaaDoorL
import Derived.Test.YtkccmbjmlpnejaaDoorK
import Derived.Test.YtkccmbjmlpnejaaDoorI
import Derived.Test.YtkccmbjmlpnejaaDoorE
import Derived.Test.YtkccmbjmlpnejaaDoorT
import Derived.KernelRfl
set_option linter.unusedSimpArgs false
set_option linter.unusedVariables false
set_option linter.unusedSectionVars false
section
namespace Go.Abs
end Go.Abs
end

section
namespace Go.Abs
structure z0f where
 id : Int
 ty : Int
 uses : Int
 beg : Int
 fin : Int
 ver : Int
 par : Int
 raw : Bool
 dig : List UInt8
def z2q (m : z0f) : List z2a := [i64 m.id, i64 m.ty, i64 m.uses, i64 m.beg, i64 m.fin, i64 m.ver, i64 m.par, bo m.raw] ++ bys m.dig
structure z3s where
 time : Int
 kind : Int
 req : Int
 mode : Int
 cmd : Cmd
 dig : List UInt8
 made : List z0f
 gone : List Int
def z0b (l : List z0f) : List z2a := l.flatMap z2q
def z7k (nc nm ng : Option Bool) (x : z3s) : List z2a := [i64 x.time, i64 x.kind, i64 x.req, i64 x.mode] ++ z2o x.cmd nc ++ bys x.dig ++ [.sl .plain nm x.made.length (z0b x.made), .sl .plain ng x.gone.length (z6j x.gone)]
def z0f.ok (m : z0f) : Prop := z6k m.id ∧ z6k m.ty ∧ z6k m.uses ∧ z6k m.beg ∧ z6k m.fin ∧ z6k m.ver ∧ z6k m.par ∧ m.dig.length = 16
def z3s.ok (x : z3s) : Prop := z6k x.time ∧ z6k x.kind ∧ z6k x.req ∧ z6k x.mode ∧ x.cmd.ok ∧ x.dig.length = 16 ∧ (∀ m ∈ x.made, m.ok) ∧ ∀ n ∈ x.gone, z6k n
def z7bd (b : Bool) : Int := if b then 1 else 0
def z8sa (m : z0f) : List Int := [m.id, m.ty, m.uses, m.beg, m.fin, m.ver, m.par, z7bd m.raw]
def z9Na (m : z0f) : List UInt8 := z9q (z8sa m) ++ m.dig
def z5Fa (x : z3s) : List UInt8 := z9q [x.time, x.kind, x.req, x.mode] ++ (z90 (z96 x.cmd) ++ (x.dig ++ (z7v x.made.length ++ (x.made.flatMap z9Na ++ z9q x.gone))))
theorem z37a {m : z0f} (h : m.ok) : ∀ x ∈ z8sa m, z6k x := by
 obtain ⟨h1, h2, h3, h4, h5, h6, h7, _⟩ := h
 intro x hx
 simp only [z8sa, List.mem_cons, List.not_mem_nil, or_false] at hx
 rcases hx with rfl | rfl | rfl | rfl | rfl | rfl | rfl | rfl
 all_goals first | assumption | skip
 unfold z7bd
 split <;> exact ⟨by omega, by omega⟩
def z3s.small (x : z3s) : Prop := x.ok ∧ x.cmd.small ∧ x.made.length ≤ 1000000 ∧ x.gone.length ≤ 1000000
end Go.Abs
end

section
namespace Go.Abs
instance : DecidableEq z0f := fun a b => decidable_of_iff (a.id = b.id ∧ a.ty = b.ty ∧ a.uses = b.uses ∧ a.beg = b.beg ∧ a.fin = b.fin ∧ a.ver = b.ver ∧ a.par = b.par ∧ a.raw = b.raw ∧ a.dig = b.dig) (by
 cases a; cases b; simp)
def inR (n lo hi : Int) : Bool := decide (lo ≤ n) && decide (n ≤ hi)
def z9la : Int := 2147483647
def z13a : Int := 1099511627776
def z8cb (k : Int) : Bool := decide (k ∈ ([2, 4, 5, 6, 8, 10, 15, 19] : List Int))
def z9Da (c : Cmd) : Cmd := if z8cb c.kind = true then { c with data := [] } else c
def z6Wb : List UInt8 := z9c 16
def z1wa (t m : Int) : z3s := ⟨t, 0, 0, m, z8C, z6Wb, [], []⟩
def z80 (x y : z3s) : Bool := x.time == y.time && x.kind == y.kind && x.req == y.req && x.mode == y.mode && decide (x.dig = y.dig) && z6za x.cmd y.cmd && decide (x.made = y.made) && decide (x.gone = y.gone)
def z3ha (m : z0f) : Bool := inR m.id 1 z9la && inR m.ver 1 z9la && inR m.par 0 z9la && inR m.ty 0 31 && z5ua m.uses && inR m.beg 0 m.fin && inR m.fin 0 z13a
def okE (x : z3s) : Bool := inR x.time 0 z13a && inR x.req 0 z9la && inR x.mode 1 5 && decide (x.made.length ≤ 4096) && decide (x.gone.length ≤ 4096) && x.made.all z3ha &&
 (if x.kind = 0 then z80 x (z1wa x.time x.mode) else inR x.kind 1 27 && (x.cmd.kind == x.kind) && (!z8cb x.kind || decide (x.cmd.data = [])))
structure z4q where
 time : Int
 mode : Int
 ents : Int
 next : Int
 keys : List z0f
def z5Ea : z4q := ⟨0, 1, 0, 1, []⟩
def z9A : z4q := ⟨0, 0, 0, 0, []⟩
def z6X (l : List z0f) (i : Int) : Nat := l.findIdx fun m => decide (m.id = i)
def z6Sb (l : List z0f) (i : Int) : Option (List z0f) := if z6X l i < l.length then some (l.eraseIdx (z6X l i)) else none
def z60 : List Int → List z0f → Option (List z0f)
 | [], l => some l
 | i :: is, l => (z6Sb l i).bind (z60 is)
def z0Jc (m : z0f) : z0f := { m with uses := z5hb m.uses 176 }
def z01c : z0f := ⟨0, 0, 0, 0, 0, 0, 0, false, z6Wb⟩
def z8ra (x : z3s) (l : List z0f) : Option (List z0f) :=
 if x.kind = 13 then (if z6X l x.cmd.key < l.length then some (l.set (z6X l x.cmd.key) (z0Jc (l.getD (z6X l x.cmd.key) z01c))) else none) else some l
def z5gb : List z0f → Int → Bool
 | [], _ => true
 | m :: l, n => (m.id == n) && z5gb l (n + 1)
structure z4ad where
 v : z4q
 e : Int
def z3va (v : z4q) (x : z3s) : z4ad :=
 if okE x = true then (if x.time < v.time then ⟨z9A, 20⟩ else match (z60 x.gone v.keys).bind (z8ra x) with
  | none => ⟨z9A, 7⟩
  | some l => if z5gb x.made v.next = true then (if z9la < v.next + x.made.length then ⟨z9A, 2⟩ else ⟨⟨x.time, x.mode, v.ents + 1, v.next + x.made.length, l ++ x.made⟩, 0⟩) else ⟨z9A, 7⟩)
 else ⟨z9A, 1⟩
def z5Y (m : z0f) (now : Int) : Bool := decide (m.beg ≤ now) && decide (now < m.fin)
def z4xa (v : z4q) (now : Int) : List z0f := v.keys.filter fun m => z5Y m now
/-! ### What stays true -/
theorem z0ec {l l' : List z0f} {i : Int} (h : z6Sb l i = some l') : l'.Sublist l := by
 unfold z6Sb at h
 split at h
 ·rw [← Option.some.inj h]; exact List.eraseIdx_sublist l _
 ·cases h
theorem z9cb : ∀ {is : List Int} {l l' : List z0f}, z60 is l = some l' → l'.Sublist l
 | [], l, l', h => by rw [← Option.some.inj h]; exact List.Sublist.refl _
 | i :: is, l, l', h => by
  rw [z60] at h
  cases hd : z6Sb l i with
  | none => rw [hd] at h; cases h
  | some l1 =>
   rw [hd] at h
   exact (z9cb h).trans (z0ec hd)
theorem z0ic {l : List z0f} {i : Int} (h : z6X l i < l.length) : (l.getD (z6X l i) z01c).id = i := by
 have h' : decide ((l[z6X l i]).id = i) = true := List.findIdx_getElem (p := fun m : z0f => decide (m.id = i)) (xs := l) (w := h)
 rw [List.getD, List.getElem?_eq_getElem h]
 exact of_decide_eq_true h'
theorem z7ec {x : z3s} {l l' : List z0f} (h : z8ra x l = some l') : l'.map (·.id) = l.map (·.id) := by
 unfold z8ra at h
 split at h
 ·split at h
  ·rename_i h1 h2
   rw [← Option.some.inj h, List.map_set]
   apply List.ext_getElem?
   intro j
   rw [List.getElem?_set]
   split
   ·rename_i e
    subst e
    rw [if_pos (by simpa using h2), List.getElem?_map, List.getElem?_eq_getElem h2, List.getD, List.getElem?_eq_getElem h2]; rfl
   ·rfl
  ·cases h
 ·rw [← Option.some.inj h]
theorem z9gc {x : z3s} {l l' : List z0f} (h : z8ra x l = some l') {m : z0f} (hm : m ∈ l') : m ∈ l ∨ (x.kind = 13 ∧ ∃ o ∈ l, o.id = x.cmd.key ∧ m = z0Jc o) := by
 unfold z8ra at h
 split at h
 ·rename_i h1
  split at h
  ·rename_i h2
   rw [← Option.some.inj h] at hm
   rcases List.mem_or_eq_of_mem_set hm with hm | rfl
   ·exact .inl hm
   ·refine .inr ⟨h1, _, ?_, z0ic h2, rfl⟩
    rw [List.getD, List.getElem?_eq_getElem h2]
    exact List.getElem_mem h2
  ·cases h
 ·rw [← Option.some.inj h] at hm; exact .inl hm
end Go.Abs
end

section
namespace Go.Abs
/-! ### Lists of values of one width -/
def gLw {α : Type} (w : Nat) (g : List z2a → α) (n : Nat) (cs : List z2a) : List α := (List.range n).map fun i => g ((cs.drop (i * w)).take w)
theorem z9ha {α : Type} {w : Nat} {enc : α → List z2a} {P : α → Prop} (h1 : ∀ a, P a → (enc a).length = w) : ∀ (l : List α) (i : Nat), (∀ a ∈ l, P a) → (l.flatMap enc).drop (i * w) = (l.drop i).flatMap enc
 | [], i, _ => by simp
 | a :: l, 0, _ => by simp
 | a :: l, i + 1, h => by
  rw [List.drop_succ_cons, ← z9ha h1 l i (fun b hb => h b (by simp [hb])), List.flatMap_cons, show (i + 1) * w = (enc a).length + i * w by rw [h1 a (h a (by simp)), Nat.succ_mul, Nat.add_comm], ← List.drop_drop, List.drop_left]
theorem z4uc {α : Type} {w : Nat} {g : List z2a → α} {enc : α → List z2a} {P : α → Prop} (h1 : ∀ a, P a → (enc a).length = w) (h2 : ∀ a, P a → g (enc a) = a) (l : List α) (h : ∀ a ∈ l, P a) : gLw w g l.length (l.flatMap enc) = l := by
 apply List.ext_getElem
 ·simp [gLw]
 ·intro i a1 a2
  simp only [gLw, List.getElem_map, List.getElem_range]
  have hm := h _ (List.getElem_mem a2)
  rw [z9ha h1 l i h, List.drop_eq_getElem_cons a2, List.flatMap_cons, ← h1 _ hm, List.take_left, h2 _ hm]
def z3vb (l : List z2a) : z0f := ⟨asI (nth l 0), asI (nth l 1), asI (nth l 2), asI (nth l 3), asI (nth l 4), asI (nth l 5), asI (nth l 6), asB (nth l 7), gBs (l.drop 8)⟩
theorem z8ea (m : z0f) : z3vb (z2q m) = m := by
 simp [z3vb, z2q, nth]
theorem z3o {m : z0f} (h : m.dig.length = 16) : (z2q m).length = 24 := by simp [z2q, h]
def z9Y (n : Nat) (cs : List z2a) : List z0f := gLw 24 z3vb n cs
def z3Ka (m : z0f) : Prop := m.dig.length = 16
theorem z4F {l : List z0f} (h : ∀ m ∈ l, z3Ka m) : z9Y l.length (z0b l) = l := z4uc (enc := z2q) (P := z3Ka) (fun a ha => z3o ha) (fun a _ => z8ea a) l h
def gNn (d : z2a) : Nat := match d with | .sl _ _ n _ => n | _ => 0
def z5Ua (l : List z2a) : z3s := ⟨asI (nth l 0), asI (nth l 1), asI (nth l 2), asI (nth l 3), z0Ga (l.drop 4), gBs ((l.drop 12).take 16), z9Y (gNn (nth l 28)) (gCs (nth l 28)), gIs (gCs (nth l 29))⟩
theorem z4Xa {nc nm ng : Option Bool} {x : z3s} (hd : x.dig.length = 16) (hm : ∀ m ∈ x.made, z3Ka m) : z5Ua (z7k nc nm ng x) = x := by
 have e1 : (z7k nc nm ng x).drop 4 = z2o x.cmd nc ++ (bys x.dig ++ [.sl .plain nm x.made.length (z0b x.made), .sl .plain ng x.gone.length (z6j x.gone)]) := by simp [z7k]
 have e2 : (z7k nc nm ng x).drop 12 = bys x.dig ++ [.sl .plain nm x.made.length (z0b x.made), .sl .plain ng x.gone.length (z6j x.gone)] := by
  rw [show 12 = 4 + 8 by rfl, ← List.drop_drop, e1]; rfl
 have e3 : (z7k nc nm ng x).drop 28 = [.sl .plain nm x.made.length (z0b x.made), .sl .plain ng x.gone.length (z6j x.gone)] := by
  rw [show 28 = 12 + 16 by rfl, ← List.drop_drop, e2, List.drop_left' (by simp [hd])]
 have e4 : nth (z7k nc nm ng x) 28 = .sl .plain nm x.made.length (z0b x.made) := by
  have := congrArg (fun l => nth l 0) e3
  simpa [nth] using this
 have e5 : nth (z7k nc nm ng x) 29 = .sl .plain ng x.gone.length (z6j x.gone) := by
  have := congrArg (fun l => nth l 1) e3
  simpa [nth] using this
 have e6 : ∀ r, z0Ga (z2o x.cmd nc ++ r) = x.cmd := fun r => z4pa x.cmd nc
 rw [z5Ua, e4, e5, e1, e2, e6, List.take_left' (by simp [hd])]
 simp only [gNn, gCs, z4F hm]
 simp [z7k, nth]
end Go.Abs
end

section
namespace Go.Abs
def z2g (nk : Option Bool) (v : z4q) : List z2a := [i64 v.time, i64 v.mode, i64 v.ents, i64 v.next, .sl .plain nk v.keys.length (z0b v.keys)]
def z4Ea (l : List z2a) : z4q := ⟨asI (nth l 0), asI (nth l 1), asI (nth l 2), asI (nth l 3), z9Y (gNn (nth l 4)) (gCs (nth l 4))⟩
theorem z6Na {nk : Option Bool} {v : z4q} (h : ∀ m ∈ v.keys, z3Ka m) : z4Ea (z2g nk v) = v := by
 simp only [z4Ea, z2g, nth, List.getD_cons_zero, List.getD_cons_succ, gNn, gCs, z4F h]
 simp
def z8Dc (nl : Option Bool) (l : List z0f) : z2a := .sl .plain nl l.length (z0b l)
def z4d (l : List z0f) : Prop := ∀ m ∈ l, m.ok
theorem z6b {l : List z0f} (h : z4d l) : ∀ m ∈ l, z3Ka m := fun m hm => (h m hm).2.2.2.2.2.2.2
theorem z0d {l : List z0f} (h : ∀ m ∈ l, z3Ka m) : (z0b l).length = l.length * 24 := by
 induction l with
 | nil => rfl
 | cons a l ih =>
  have := ih fun m hm => h m (by simp [hm])
  rw [z0b] at this ⊢
  rw [List.flatMap_cons, List.length_append, this, z3o (h a (by simp)), List.length_cons]; omega
theorem z6d {nc nm ng : Option Bool} {x : z3s} (h : x.dig.length = 16) : (z7k nc nm ng x).length = 30 := by simp [z7k, z2o, h]
/-! ### Small parts -/
def z8Fb : z5a := ⟨fun ds => ∃ n lo hi : Int, ds = [i64 n, i64 lo, i64 hi], fun ds => bo (inR (asI (nth ds 0)) (asI (nth ds 1)) (asI (nth ds 2)))⟩
@[simp] theorem z93a (n lo hi : Int) : z8Fb.pre [i64 n, i64 lo, i64 hi] = True := eq_true ⟨n, lo, hi, rfl⟩
@[simp] theorem z5va (n lo hi : Int) : z8Fb.post [i64 n, i64 lo, i64 hi] = bo (inR n lo hi) := rfl
def z1Tb : z5a := ⟨fun ds => ∃ k : Int, ds = [i64 k], fun ds => bo (z8cb (asI (nth ds 0)))⟩
@[simp] theorem z06c (k : Int) : z1Tb.pre [i64 k] = True := eq_true ⟨k, rfl⟩
@[simp] theorem z2Ab (k : Int) : z1Tb.post [i64 k] = bo (z8cb k) := rfl
def z1oa : z5a := ⟨fun ds => ∃ (c : Cmd) (nl : Option Bool), c.small ∧ ds = [.agg (z2o c nl)], fun ds => .agg (z2o (z9Da (z0Ga (gCs (nth ds 0)))) none)⟩
theorem z3Ja {c : Cmd} {nl : Option Bool} (h : c.small) : z1oa.pre [.agg (z2o c nl)] = True := eq_true ⟨c, nl, h, rfl⟩
theorem z0wa (c : Cmd) (nl : Option Bool) : z1oa.post [.agg (z2o c nl)] = .agg (z2o (z9Da c) none) := by
 show z2a.agg (z2o (z9Da (z0Ga (z2o c nl))) none) = _
 rw [z4pa]
def gNc (d : z2a) : Option Bool := match d with | .agg l => (match nth l 7 with | .sl _ nl _ _ => nl | _ => none) | _ => none
def z41a : z5a := ⟨z1oa.pre, fun ds => .agg (z2o (z9Da (z0Ga (gCs (nth ds 0)))) (gNc (nth ds 0)))⟩
theorem z5Hb {c : Cmd} {nl : Option Bool} (h : c.small) : z41a.pre [.agg (z2o c nl)] = True := eq_true ⟨c, nl, h, rfl⟩
theorem z2Sa (c : Cmd) (nl : Option Bool) : z41a.post [.agg (z2o c nl)] = .agg (z2o (z9Da c) nl) := by
 show z2a.agg (z2o (z9Da (z0Ga (z2o c nl))) (gNc (.agg (z2o c nl)))) = _
 rw [z4pa]; rfl
def mkE (now : Int) (c : Cmd) (req mode : Int) (made : List z0f) (gone : List Int) : z3s := ⟨now, c.kind, req, mode, z9Da c, z7L 7 [z96 c], made, gone⟩
def z2Mb : z5a := ⟨fun ds => ∃ (now req mode : Int) (c : Cmd) (nc nm ng : Option Bool) (made : List z0f) (gone : List Int), c.small ∧ z4d made ∧ made.length ≤ 1000000 ∧ gone.length ≤ 1000000 ∧ ds = [i64 now, .agg (z2o c nc), i64 req, i64 mode, z8Dc nm made, .sl .plain ng gone.length (z6j gone)],
 fun ds => .agg (z7k none none none (mkE (asI (nth ds 0)) (z0Ga (gCs (nth ds 1))) (asI (nth ds 2)) (asI (nth ds 3)) (z9Y (gNn (nth ds 4)) (gCs (nth ds 4))) (gIs (gCs (nth ds 5)))))⟩
theorem z3cc {now req mode : Int} {c : Cmd} {nc nm ng : Option Bool} {made : List z0f} {gone : List Int} (h : c.small) (hm : z4d made) (h1 : made.length ≤ 1000000) (h2 : gone.length ≤ 1000000) : z2Mb.pre [i64 now, .agg (z2o c nc), i64 req, i64 mode, .sl .plain nm made.length (z0b made), .sl .plain ng gone.length (z6j gone)] = True := eq_true ⟨now, req, mode, c, nc, nm, ng, made, gone, h, hm, h1, h2, rfl⟩
theorem z56a {now req mode : Int} {c : Cmd} {nc nm ng : Option Bool} {made : List z0f} {gone : List Int} (hm : z4d made) (n : Nat) : z2Mb.post [i64 now, .agg (z2o c nc), i64 req, i64 mode, .sl .plain nm made.length (z0b made), .sl .plain ng n (z6j gone)] = .agg (z7k none none none (mkE now c req mode made gone)) := by
 show z2a.agg (z7k none none none (mkE now (z0Ga (z2o c nc)) req mode (z9Y made.length (z0b made)) (gIs (z6j gone)))) = _
 rw [z4pa, z4F (z6b hm), z66a]
def z4Xb : z5a := ⟨fun ds => ∃ t m : Int, ds = [i64 t, i64 m], fun ds => .agg (z7k none none none (z1wa (asI (nth ds 0)) (asI (nth ds 1))))⟩
@[simp] theorem z28c (t m : Int) : z4Xb.pre [i64 t, i64 m] = True := eq_true ⟨t, m, rfl⟩
@[simp] theorem z9Eb (t m : Int) : z4Xb.post [i64 t, i64 m] = .agg (z7k none none none (z1wa t m)) := rfl
/-! ### Entries -/
def z5tb (ds : List z2a) : Prop := ∃ (nc nm ng : Option Bool) (x : z3s), x.small ∧ ds = [.agg (z7k nc nm ng x)]
theorem z3db {nc nm ng : Option Bool} {x : z3s} (h : x.small) : z5Ua (z7k nc nm ng x) = x := z4Xa h.1.2.2.2.2.2.1 (z6b h.1.2.2.2.2.2.2.1)
def z47a : z5a := ⟨z5tb, fun ds => bo (okE (z5Ua (gCs (nth ds 0))))⟩
theorem z8Oa {nc nm ng : Option Bool} {x : z3s} (h : x.small) : z47a.pre [.agg (z7k nc nm ng x)] = True := eq_true ⟨nc, nm, ng, x, h, rfl⟩
theorem z2ha {nc nm ng : Option Bool} {x : z3s} (h : x.small) : z47a.post [.agg (z7k nc nm ng x)] = bo (okE x) := by
 show bo (okE (z5Ua (z7k nc nm ng x))) = _
 rw [z3db h]
def z1Ra : z5a := ⟨z5tb, fun ds => st (z5Fa (z5Ua (gCs (nth ds 0))))⟩
theorem z4cb {nc nm ng : Option Bool} {x : z3s} (h : x.small) : z1Ra.pre [.agg (z7k nc nm ng x)] = True := eq_true ⟨nc, nm, ng, x, h, rfl⟩
theorem z9ya {nc nm ng : Option Bool} {x : z3s} (h : x.small) : z1Ra.post [.agg (z7k nc nm ng x)] = st (z5Fa x) := by
 show st (z5Fa (z5Ua (z7k nc nm ng x))) = _
 rw [z3db h]
def z00a : z5a := ⟨z5tb, fun ds => .agg (bys (z7L 8 [z5Fa (z5Ua (gCs (nth ds 0)))]))⟩
theorem z88a {nc nm ng : Option Bool} {x : z3s} (h : x.small) : z00a.pre [.agg (z7k nc nm ng x)] = True := eq_true ⟨nc, nm, ng, x, h, rfl⟩
theorem z2ya {nc nm ng : Option Bool} {x : z3s} (h : x.small) : z00a.post [.agg (z7k nc nm ng x)] = .agg (bys (z7L 8 [z5Fa x])) := by
 show z2a.agg (bys (z7L 8 [z5Fa (z5Ua (z7k nc nm ng x))])) = _
 rw [z3db h]
def z6Va : z5a := ⟨fun ds => ∃ (nc nm ng nc' nm' ng' : Option Bool) (x y : z3s), x.small ∧ y.small ∧ ds = [.agg (z7k nc nm ng x), .agg (z7k nc' nm' ng' y)], fun ds => bo (z80 (z5Ua (gCs (nth ds 0))) (z5Ua (gCs (nth ds 1))))⟩
theorem z67a {nc nm ng nc' nm' ng' : Option Bool} {x y : z3s} (h : x.small) (h' : y.small) : z6Va.pre [.agg (z7k nc nm ng x), .agg (z7k nc' nm' ng' y)] = True := eq_true ⟨nc, nm, ng, nc', nm', ng', x, y, h, h', rfl⟩
theorem z1Aa {nc nm ng nc' nm' ng' : Option Bool} {x y : z3s} (h : x.small) (h' : y.small) : z6Va.post [.agg (z7k nc nm ng x), .agg (z7k nc' nm' ng' y)] = bo (z80 x y) := by
 show bo (z80 (z5Ua (z7k nc nm ng x)) (z5Ua (z7k nc' nm' ng' y))) = _
 rw [z3db h, z3db h']
/-! ### Views -/
def vOk (v : z4q) : Prop := z4d v.keys ∧ v.keys.length ≤ 1000000 ∧ z6k v.time ∧ (0 ≤ v.ents ∧ v.ents ≤ 1000000) ∧ (0 ≤ v.next ∧ v.next ≤ z9la)
def z5ib : z5a := ⟨fun ds => ds = [], fun _ => .agg (z2g none z5Ea)⟩
@[simp] theorem z77c : z5ib.pre [] = True := eq_true rfl
@[simp] theorem z85a (ds : List z2a) : z5ib.post ds = .agg (z2g none z5Ea) := rfl
def z6ib : z5a := ⟨fun ds => ∃ (nk nc nm ng : Option Bool) (v : z4q) (x : z3s), vOk v ∧ x.small ∧ ds = [.agg (z2g nk v), .agg (z7k nc nm ng x)],
 fun ds => let r := z3va (z4Ea (gCs (nth ds 0))) (z5Ua (gCs (nth ds 1))); .tup [.agg (z2g none r.v), i64 r.e]⟩
theorem z0Ca {nk nc nm ng : Option Bool} {v : z4q} {x : z3s} (h : vOk v) (hx : x.small) : z6ib.pre [.agg (z2g nk v), .agg (z7k nc nm ng x)] = True := eq_true ⟨nk, nc, nm, ng, v, x, h, hx, rfl⟩
theorem z0ba {nk nc nm ng : Option Bool} {v : z4q} {x : z3s} (h : vOk v) (hx : x.small) : z6ib.post [.agg (z2g nk v), .agg (z7k nc nm ng x)] = .tup [.agg (z2g none (z3va v x).v), i64 (z3va v x).e] := by
 show (let r := z3va (z4Ea (z2g nk v)) (z5Ua (z7k nc nm ng x)); z2a.tup [.agg (z2g none r.v), i64 r.e]) = _
 rw [z6Na (z6b h.1), z3db hx]
def z6fb : z5a := ⟨fun ds => ∃ (nk : Option Bool) (v : z4q) (now : Int), z4d v.keys ∧ v.keys.length ≤ 1000000 ∧ ds = [.agg (z2g nk v), i64 now], fun ds => let l := z4xa (z4Ea (gCs (nth ds 0))) (asI (nth ds 1)); .sl (.own 24) none l.length (z0b l)⟩
theorem z90a {nk : Option Bool} {v : z4q} (now : Int) (h : z4d v.keys) (h1 : v.keys.length ≤ 1000000) : z6fb.pre [.agg (z2g nk v), i64 now] = True := eq_true ⟨nk, v, now, h, h1, rfl⟩
theorem z7ma {nk : Option Bool} {v : z4q} (now : Int) (h : z4d v.keys) : z6fb.post [.agg (z2g nk v), i64 now] = .sl (.own 24) none (z4xa v now).length (z0b (z4xa v now)) := by
 show (let l := z4xa (z4Ea (z2g nk v)) now; z2a.sl (.own 24) none l.length (z0b l)) = _
 rw [z6Na (z6b h)]
end Go.Abs
end

section
namespace Go.Abs
theorem z3n (a x : z2a) (l xs : List z2a) : splice (a :: l) 0 (x :: xs) = x :: splice l 0 xs := by simp [splice]
theorem z6m (l : List z2a) : splice l 0 [] = l := by simp [splice]
theorem z9P {a b : List UInt8} (h : b.length = a.length) (r s : List z2a) : splice (bys a ++ r) 0 (bys b ++ s) = bys b ++ splice r 0 s := by
 have h1 : (bys b).length = (bys a).length := by simpa using h
 simp only [splice, List.take_zero, List.nil_append, Nat.zero_add, List.length_append, h1, ← List.drop_drop, List.drop_left, List.append_assoc]
theorem z7ga {a b : List UInt8} (h : b.length = a.length) (r : List z2a) : splice (bys a ++ r) 0 (bys b) = bys b ++ r := by
 have h1 : (bys b).length = (bys a).length := by simpa using h
 simp only [splice, List.take_zero, List.nil_append, Nat.zero_add, h1, List.drop_left]
theorem z2Lc {a b : List UInt8} (h : b.length = a.length) : splice (bys a) 0 (bys b) = bys b := by
 have := z7ga h []
 simpa using this
theorem z2mb {a : List UInt8} (h : a.length = 16) (r : List z2a) (n : Nat) (xs : List z2a) : splice (bys a ++ r) (16 + n) xs = bys a ++ splice r n xs := by
 rw [z2V (by simp [h])]
 simp [h]
theorem z3na {a : List UInt8} (h : a.length = 16) (x y z : z2a) : splice (bys a ++ [x, y]) 16 [z] = bys a ++ [z, y] := by
 have := z2mb h [x, y] 0 [z]
 simpa using this
theorem z9na {a : List UInt8} (h : a.length = 16) (x y z : z2a) : splice (bys a ++ [x, y]) 17 [z] = bys a ++ [x, z] := by
 have := z2mb h [x, y] 1 [z]
 simpa using this
theorem tk_b {d : List UInt8} (h : d.length = 16) (r : List z2a) : (bys d ++ r).take 16 = bys d := by
 rw [List.take_append_of_le_length (by simp [h]), List.take_of_length_le (by simp [h])]
theorem z6Ca {d : List UInt8} (h : d.length = 16) (x y : z2a) : (bys d ++ [x, y]).take 18 = bys d ++ [x, y] := List.take_of_length_le (by simp [h])
theorem z1Pc {d : List UInt8} (h : d.length = 16) : (bys d).take 16 = bys d := List.take_of_length_le (by simp [h])
theorem z2yb {d : List UInt8} (h : d.length = 16) (r : List z2a) : (bys d ++ r).drop 16 = r := List.drop_left' (by simp [h])
theorem z9Pa {d : List UInt8} (h : d.length = 16) (x y : z2a) : (bys d ++ [x, y]).drop 17 = [y] := by
 rw [show 17 = 16 + 1 by rfl, ← List.drop_drop, z2yb h]; rfl
theorem z7ca (l : List UInt8) : (∀ c ∈ bys l, z5d c) = True := eq_true fun c hc => by
 simp only [bys, List.mem_map] at hc
 obtain ⟨x, _, rfl⟩ := hc
 trivial
theorem z4va (l : List UInt8) : (∀ c ∈ bys l, z2f c = false) = True := eq_true fun c hc => by
 simp only [bys, List.mem_map] at hc
 obtain ⟨x, _, rfl⟩ := hc
 rfl
@[simp] theorem z5qc (l : List z0f) : z7h (z0b l) = true := by
 refine (z5n _).2 fun c hc => ?_
 obtain ⟨m, _, h⟩ := List.mem_flatMap.1 hc
 rcases List.mem_append.1 h with h | h
 ·simp only [List.mem_cons, List.not_mem_nil, or_false] at h
  rcases h with rfl | rfl | rfl | rfl | rfl | rfl | rfl | rfl <;> rfl
 ·simp only [bys, List.mem_map] at h
  obtain ⟨x, _, rfl⟩ := h
  rfl
theorem z5F {m : z0f} : ∀ c ∈ z2q m, z5f c = true ∧ z5d c := by
 intro c hc
 rcases List.mem_append.1 hc with h | h
 ·simp only [List.mem_cons, List.not_mem_nil, or_false] at h
  rcases h with rfl | rfl | rfl | rfl | rfl | rfl | rfl | rfl <;> exact ⟨rfl, trivial⟩
 ·simp only [bys, List.mem_map] at h
  obtain ⟨x, _, rfl⟩ := h
  exact ⟨rfl, trivial⟩
theorem z4mb {l : List z0f} : ∀ c ∈ z0b l, z5f c = true ∧ z5d c := by
 intro c hc
 obtain ⟨m, _, h⟩ := List.mem_flatMap.1 hc
 exact z5F c h
@[simp] theorem z6Ta (nc nm ng : Option Bool) (x : z3s) : z7h (z7k nc nm ng x) = true := by simp [z7k, z2o]
/-! ### an entry's cells, by name -/
@[simp] theorem ent_0 (nc nm ng : Option Bool) (x : z3s) : hdA (z7k nc nm ng x) = i64 x.time := rfl
@[simp] theorem ent_1 (nc nm ng : Option Bool) (x : z3s) : hdA ((z7k nc nm ng x).drop 1) = i64 x.kind := rfl
@[simp] theorem ent_1t (nc nm ng : Option Bool) (x : z3s) : hdA (z7k nc nm ng x).tail = i64 x.kind := rfl
@[simp] theorem ent_2 (nc nm ng : Option Bool) (x : z3s) : hdA ((z7k nc nm ng x).drop 2) = i64 x.req := rfl
@[simp] theorem ent_3 (nc nm ng : Option Bool) (x : z3s) : hdA ((z7k nc nm ng x).drop 3) = i64 x.mode := rfl
@[simp] theorem ent_4 (nc nm ng : Option Bool) (x : z3s) : hdA ((z7k nc nm ng x).drop 4) = i64 x.cmd.kind := rfl
@[simp] theorem ent_5 (nc nm ng : Option Bool) (x : z3s) : hdA ((z7k nc nm ng x).drop 5) = i64 x.cmd.key := rfl
@[simp] theorem ent_10 (nc nm ng : Option Bool) (x : z3s) : hdA ((z7k nc nm ng x).drop 10) = st x.cmd.data := rfl
@[simp] theorem z9dd (nc nm ng : Option Bool) (x : z3s) : ((z7k nc nm ng x).drop 4).take 8 = z2o x.cmd nc := rfl
theorem z0ob (nc nm ng : Option Bool) (x : z3s) : (z7k nc nm ng x).drop 12 = bys x.dig ++ [.sl .plain nm x.made.length (z0b x.made), .sl .plain ng x.gone.length (z6j x.gone)] := by
 rw [show z7k nc nm ng x = ([i64 x.time, i64 x.kind, i64 x.req, i64 x.mode] ++ z2o x.cmd nc) ++ (bys x.dig ++ [.sl .plain nm x.made.length (z0b x.made), .sl .plain ng x.gone.length (z6j x.gone)]) by simp [z7k]]
 exact List.drop_left' rfl
theorem z5za {nc nm ng : Option Bool} {x : z3s} (h : x.dig.length = 16) : ((z7k nc nm ng x).drop 12).take 16 = bys x.dig := by rw [z0ob, tk_b h]
theorem z7sb {nc nm ng : Option Bool} {x : z3s} (h : x.dig.length = 16) : (z7k nc nm ng x).drop 28 = [.sl .plain nm x.made.length (z0b x.made), .sl .plain ng x.gone.length (z6j x.gone)] := by
 rw [show 28 = 12 + 16 by rfl, ← List.drop_drop, z0ob, z2yb h]
theorem z2ka {nc nm ng : Option Bool} {x : z3s} (h : x.dig.length = 16) : hdA ((z7k nc nm ng x).drop 28) = .sl .plain nm x.made.length (z0b x.made) := by rw [z7sb h]; rfl
theorem z9sa {nc nm ng : Option Bool} {x : z3s} (h : x.dig.length = 16) : hdA ((z7k nc nm ng x).drop 29) = .sl .plain ng x.gone.length (z6j x.gone) := by
 rw [show 29 = 28 + 1 by rfl, ← List.drop_drop, z7sb h]; rfl
theorem z8q {nc nm ng : Option Bool} {x : z3s} (h : x.dig.length = 16) : (z7k nc nm ng x).take 30 = z7k nc nm ng x := List.take_of_length_le (by rw [z6d h]; exact Nat.le_refl _)
theorem z3ob {nc nm ng : Option Bool} {x : z3s} : ∀ c ∈ z7k nc nm ng x, z5d c ∧ z2f c = false := by
 intro c hc
 simp only [z7k, z2o, List.mem_append, List.mem_cons, List.not_mem_nil, or_false, bys, List.mem_map] at hc
 rcases hc with (((h | h | h | h) | (h | h | h | h | h | h | h | h)) | ⟨u, _, h⟩) | (h | h) <;> subst h <;> exact ⟨trivial, rfl⟩
@[simp] theorem z90c (nc nm ng : Option Bool) (x : z3s) : (∀ c ∈ z7k nc nm ng x, z5d c) = True := eq_true fun c hc => (z3ob c hc).1
@[simp] theorem z6bd (nc nm ng : Option Bool) (x : z3s) : (∀ c ∈ z7k nc nm ng x, z2f c = false) = True := eq_true fun c hc => (z3ob c hc).2
@[simp] theorem z8sc (l : List z0f) : z2i (z0b l) = [] := by
 induction l with
 | nil => rfl
 | cons a l ih =>
  rw [z0b] at ih ⊢
  rw [List.flatMap_cons, z3L, ih]
  simp [z2q, z2i]
@[simp] theorem z4Fc (nc nm ng : Option Bool) (x : z3s) : z2i (z7k nc nm ng x) = [] := by simp [z7k, z2o, z2i]
theorem z0o {nc nm ng : Option Bool} {x : z3s} (h : x.dig.length = 16) {zs : List z2a} (hz : zs.length = 30) : splice zs 0 (z7k nc nm ng x) = z7k nc nm ng x := z9f (by rw [z6d h, hz])
@[simp] theorem z0Uc : z6Wb.length = 16 := rfl
end Go.Abs
end

section
namespace Go.Abs
set_option maxRecDepth 100000
theorem z5Cc (E : Env) : ∀ ds, z8Fb.pre ds → ds.length = z1l.n ∧ awp E z1l.body (z9u z1l.res (z8Fb.post ds)) (z8c z1l.wr ds) := by
 rintro _ ⟨n, lo, hi, rfl⟩
 rw [z5va]
 by_cases h1 : lo ≤ n
 ·by_cases h2 : n ≤ hi
  ·simp (maxSteps := 1000000) (disch := first | omega | (simp; done) | (simp; omega)) [z7a, z1a, z0a, z1l, inR, h1, h2]
  ·simp (maxSteps := 1000000) (disch := first | omega | (simp; done) | (simp; omega)) [z7a, z1a, z0a, z1l, inR, h1, h2]
 ·simp (maxSteps := 1000000) (disch := first | omega | (simp; done) | (simp; omega)) [z7a, z1a, z0a, z1l, inR, h1]
/-! ### a number in a list -/
def z8Nb (l : List Int) (x : Int) : Nat := l.findIdx fun y => decide (y = x)
def z5Sb (l : List Int) (x : Int) : Int := if z8Nb l x < l.length then (z8Nb l x : Int) else -1
def z1Na : z5a := ⟨fun ds => ∃ (nl : Option Bool) (l : List Int) (x : Int), l.length ≤ 1000000000 ∧ ds = [.sl .plain nl l.length (z6j l), i64 x], fun ds => i64 (z5Sb (gIs (gCs (nth ds 0))) (asI (nth ds 1)))⟩
theorem z48a {nl : Option Bool} {n : Nat} {l : List Int} {x : Int} (h : l.length ≤ 1000000000) (hn : n = l.length) : z1Na.pre [.sl .plain nl n (z6j l), i64 x] = True := eq_true ⟨nl, l, x, h, by rw [hn]⟩
theorem z8Sa (nl : Option Bool) (n : Nat) (l : List Int) (x : Int) : z1Na.post [.sl .plain nl n (z6j l), i64 x] = i64 (z5Sb l x) := by simp [z1Na, nth]
theorem z7hc {l : List Int} {x : Int} {i : Nat} (hi : i < l.length) (h0 : ∀ j < i, atI l j ≠ x) (h : atI l i = x) : z8Nb l x = i := by
 have ha : ∀ j (hj : j < l.length), atI l j = l[j] := fun j hj => by simp [atI, List.getD, List.getElem?_eq_getElem hj]
 apply Nat.le_antisymm
 ·apply Nat.le_of_not_lt
  intro hlt
  have := List.not_of_lt_findIdx (p := fun y => decide (y = x)) (xs := l) hlt
  rw [ha i hi] at h
  simp [h] at this
 ·apply Nat.le_of_not_lt
  intro hlt
  have hl : z8Nb l x < l.length := by omega
  have h1 : decide (l[z8Nb l x] = x) = true := List.findIdx_getElem (p := fun y => decide (y = x)) (xs := l) (w := hl)
  exact h0 _ hlt (by rw [ha _ hl]; exact of_decide_eq_true h1)
theorem z54b {l : List Int} {x : Int} (h0 : ∀ j < l.length, atI l j ≠ x) : z8Nb l x = l.length := by
 apply Nat.le_antisymm (List.findIdx_le_length)
 apply Nat.le_of_not_lt
 intro hl
 have h1 : decide (l[z8Nb l x] = x) = true := List.findIdx_getElem (p := fun y => decide (y = x)) (xs := l) (w := hl)
 exact h0 _ hl (by simp only [atI, List.getD, List.getElem?_eq_getElem hl]; exact of_decide_eq_true h1)
theorem z48b (E : Env) : ∀ ds, z1Na.pre ds → ds.length = z7o.n ∧ awp E z7o.body (z9u z7o.res (z1Na.post ds)) (z8c z7o.wr ds) := by
 rintro _ ⟨nl, l, x, hl, rfl⟩
 rw [z8Sa]
 simp (maxSteps := 1000000) (disch := first | omega | (simp; done) | (simp; omega)) [z7a, z1a, z0a, z7o]
 refine z3a fun Q0 hQ0 => ?_
 refine z7d (fun i : Nat => ⟨[(0, .sl .plain nl l.length (z6j l)), (1, i64 x)], [(7, i64 l.length), (8, i64 i)], []⟩)
  (fun i => l.length - i) (fun i => i ≤ l.length ∧ ∀ j < i, atI l j ≠ x) 0 (by simp) (by simp) fun i hi => ?_
 obtain ⟨hi, he⟩ := hi
 refine z3a fun Q1 hQ1 => ?_
 by_cases h1 : i < l.length
 ·by_cases h2 : x = atI l i
  ·have hp := z7hc h1 he h2.symm
   have hR : z5Sb l x = (i : Int) := by rw [z5Sb, hp, if_pos h1]
   simp (maxSteps := 1000000) (disch := first | omega | (simp; done) | (simp; omega)) [z7a, z1a, z0a, z4B, z5S, kT, kF, dT, dF, z1ga, h1, h2, hQ1, hQ0]
   exact ⟨by omega, by rw [← h2, hR]⟩
  ·simp (maxSteps := 1000000) (disch := first | omega | (simp; done) | (simp; omega)) [z7a, z1a, z0a, z4B, z5S, kT, kF, dT, dF, z1ga, h1, h2, hQ1]
   refine ⟨by omega, i + 1, by omega, ⟨by omega, fun j hj => ?_⟩, by omega⟩
   ·rcases Nat.lt_or_eq_of_le (Nat.lt_succ_iff.1 hj) with h | h
    ·exact he j h
    ·rw [h]; exact fun e => h2 e.symm
 ·have hl' : i = l.length := by omega
  have hp := z54b (l := l) (x := x) (fun j hj => he j (by omega))
  have hR : z5Sb l x = -1 := by rw [z5Sb, hp, if_neg (by omega)]
  simp (maxSteps := 1000000) (disch := first | omega | (simp; done) | (simp; omega)) [z7a, z1a, z0a, z4B, kT, kF, dT, dF, h1, hQ1, hQ0, z35, hR]
def z3Ea : z5a := ⟨z1Na.pre, fun ds => bo (decide (asI (nth ds 1) ∈ gIs (gCs (nth ds 0))))⟩
theorem z0Fb {nl : Option Bool} {n : Nat} {l : List Int} {x : Int} (h : l.length ≤ 1000000000) (hn : n = l.length) : z3Ea.pre [.sl .plain nl n (z6j l), i64 x] = True := z48a h hn
theorem z4Wa (nl : Option Bool) (n : Nat) (l : List Int) (x : Int) : z3Ea.post [.sl .plain nl n (z6j l), i64 x] = bo (decide (x ∈ l)) := by simp [z3Ea, nth]
theorem z4Jb (l : List Int) (x : Int) : decide (0 ≤ z5Sb l x) = decide (x ∈ l) := by
 have : z8Nb l x < l.length ↔ x ∈ l := by
  rw [z8Nb, List.findIdx_lt_length]
  simp
 unfold z5Sb
 by_cases h : x ∈ l
 ·rw [if_pos (this.2 h)]; simp [h]
 ·rw [if_neg (fun e => h (this.1 e))]; simp [h]
theorem z2ic (E : Env) (h314 : E.G 314 = z1Na) : ∀ ds, z3Ea.pre ds → ds.length = z5k.n ∧ awp E z5k.body (z9u z5k.res (z3Ea.post ds)) (z8c z5k.wr ds) := by
 rintro _ ⟨nl, l, x, hl, rfl⟩
 rw [z4Wa, ← z4Jb]
 simp (maxSteps := 1000000) (disch := first | omega | (simp; done) | (simp; omega)) [z7a, z1a, z0a, z5k, h314, z48a, z8Sa]
theorem z5Kc (E : Env) (h312 : E.G 312 = z3Ea) : ∀ ds, z1Tb.pre ds → ds.length = z8o.n ∧ awp E z8o.body (z9u z8o.res (z1Tb.post ds)) (z8c z8o.wr ds) := by
 rintro _ ⟨k, rfl⟩
 rw [z2Ab]
 have hp : z3Ea.pre [.sl .plain (some false) 8 [i64 2, i64 4, i64 5, i64 6, i64 8, i64 10, i64 15, i64 19], i64 k] = True := z0Fb (l := [2, 4, 5, 6, 8, 10, 15, 19]) (by simp) rfl
 have hq : z3Ea.post [.sl .plain (some false) 8 [i64 2, i64 4, i64 5, i64 6, i64 8, i64 10, i64 15, i64 19], i64 k] = bo (z8cb k) := z4Wa (some false) 8 [2, 4, 5, 6, 8, 10, 15, 19] k
 simp (maxSteps := 1000000) (disch := first | omega | (simp; done) | (simp; omega)) [z7a, z1a, z0a, z8o, h312, hp, hq]
/-! ### copies -/
def z2va : z5a := ⟨fun ds => ∃ (nl : Option Bool) (l : List Int), l.length ≤ 1000000000 ∧ ds = [.sl .plain nl l.length (z6j l)], fun ds => .sl (.own 1) none (gNn (nth ds 0)) (z6j (gIs (gCs (nth ds 0))))⟩
theorem z2La {nl : Option Bool} {n : Nat} {l : List Int} (h : l.length ≤ 1000000000) (hn : n = l.length) : z2va.pre [.sl .plain nl n (z6j l)] = True := eq_true ⟨nl, l, h, by rw [hn]⟩
theorem z2oa (nl : Option Bool) (n : Nat) (l : List Int) : z2va.post [.sl .plain nl n (z6j l)] = .sl (.own 1) none n (z6j l) := by
 show z2a.sl (.own 1) none n (z6j (gIs (z6j l))) = _
 rw [z66a]
def z7Kb : z5a := ⟨fun ds => z2va.pre ds ∧ ∀ d, ds[0]? = some d → z3Ma d, z2va.post⟩
theorem z5ac (E : Env) : ∀ ds, z7Kb.pre ds → ds.length = z8h.n ∧ awp E z8h.body (z9u z8h.res (z7Kb.post ds)) (z8c z8h.wr ds) := by
 rintro _ ⟨⟨nl, l, hn, rfl⟩, hk⟩
 have hk := hk _ rfl
 rw [show z7Kb.post [.sl .plain nl l.length (z6j l)] = .sl (.own 1) none l.length (z6j l) from z2oa nl _ l]
 match nl, hk with
 | some true, hk =>
  have h0 : l = [] := List.length_eq_zero_iff.1 hk.1
  subst h0
  simp (maxSteps := 1000000) (disch := first | omega | (simp; done) | (simp; omega)) [z7a, z1a, z0a, z8h, kT]
 | some false, _ =>
  simp (maxSteps := 1000000) (disch := first | omega | (simp; done) | (simp; omega)) [z7a, z1a, z0a, z8h, z1V, kF]
  exact ⟨by omega, by omega⟩
theorem z2Qb : ∀ ds d b, z2va.pre ds → ds[0]? = some d → z2va.pre (ds.set 0 (z1Pa b d)) ∧ z2va.post (ds.set 0 (z1Pa b d)) = z2va.post ds := by
 rintro _ d b ⟨nl, l, hn, rfl⟩ hd
 simp only [List.getElem?_cons_zero, Option.some.injEq] at hd
 subst hd
 cases nl with
 | none => exact ⟨⟨some b, l, hn, rfl⟩, rfl⟩
 | some c => exact ⟨⟨some c, l, hn, rfl⟩, rfl⟩
def z8ua : z5a := ⟨fun ds => ∃ (nl : Option Bool) (l : List z0f), (z4d l ∧ l.length ≤ 1000000) ∧ ds = [.sl .plain nl l.length (z0b l)], fun ds => .sl (.own 24) none (gNn (nth ds 0)) (z0b (z9Y (gNn (nth ds 0)) (gCs (nth ds 0))))⟩
theorem z29a {nl : Option Bool} {l : List z0f} (h : z4d l) (h1 : l.length ≤ 1000000) : z8ua.pre [.sl .plain nl l.length (z0b l)] = True := eq_true ⟨nl, l, ⟨h, h1⟩, rfl⟩
theorem z8ya {nl : Option Bool} {l : List z0f} (h : z4d l) : z8ua.post [.sl .plain nl l.length (z0b l)] = .sl (.own 24) none l.length (z0b l) := by
 show z2a.sl (.own 24) none l.length (z0b (z9Y l.length (z0b l))) = _
 rw [z4F (z6b h)]
def z5Lb : z5a := ⟨fun ds => z8ua.pre ds ∧ ∀ d, ds[0]? = some d → z3Ma d, z8ua.post⟩
set_option maxHeartbeats 4000000 in
theorem z7dc (E : Env) : ∀ ds, z5Lb.pre ds → ds.length = z9g.n ∧ awp E z9g.body (z9u z9g.res (z5Lb.post ds)) (z8c z9g.wr ds) := by
 rintro _ ⟨⟨nl, l, ⟨h16, hn⟩, rfl⟩, hk⟩
 have hk := hk _ rfl
 rw [show z5Lb.post [.sl .plain nl l.length (z0b l)] = .sl (.own 24) none l.length (z0b l) from z8ya h16]
 match nl, hk with
 | some true, hk =>
  have h0 : l = [] := List.length_eq_zero_iff.1 hk.1
  subst h0
  simp (maxSteps := 1000000) (disch := first | omega | (simp; done) | (simp; omega)) [z7a, z1a, z0a, z9g, kT]
  rfl
 | some false, _ =>
  have hlen := z0d (z6b h16)
  simp (maxSteps := 1000000) (disch := first | omega | (simp; done) | (simp; omega)) [z7a, z1a, z0a, z9g, z4P, kF, hlen]
  exact ⟨by omega, by omega, z4mb⟩
theorem z8Cb : ∀ ds d b, z8ua.pre ds → ds[0]? = some d → z8ua.pre (ds.set 0 (z1Pa b d)) ∧ z8ua.post (ds.set 0 (z1Pa b d)) = z8ua.post ds := by
 rintro _ d b ⟨nl, l, hn, rfl⟩ hd
 simp only [List.getElem?_cons_zero, Option.some.injEq] at hd
 subst hd
 cases nl with
 | none => exact ⟨⟨some b, l, hn, rfl⟩, rfl⟩
 | some c => exact ⟨⟨some c, l, hn, rfl⟩, rfl⟩
/-! ### commands without what is secret -/
theorem z3ib {c : Cmd} (h : c.small) : (z9Da c).small := by
 unfold z9Da
 split
 ·exact ⟨h.1, by simp, h.2.2⟩
 ·exact h
theorem z9Nc (E : Env) (h293 : E.G 293 = z1Tb) (h291 : E.G 291 = z2va) : ∀ ds, z1oa.pre ds → ds.length = z5o.n ∧ awp E z5o.body (z9u z5o.res (z1oa.post ds)) (z8c z5o.wr ds) := by
 rintro _ ⟨c, nl, hc, rfl⟩
 rw [z0wa]
 obtain ⟨k1, k2, k3, k4, k5, k6, dt, ls⟩ := c
 have hl := hc.2.2
 simp only at hl
 by_cases hs : z8cb k1 = true
 ·simp (maxSteps := 1000000) (disch := first | omega | (simp; done) | (simp; omega)) [z7a, z1a, z0a, z5o, z7V, z2o, h293, h291, kT, hs, z2La, z2oa, z9Da, z3n, z6m]
 ·simp only [Bool.not_eq_true] at hs
  simp (maxSteps := 1000000) (disch := first | omega | (simp; done) | (simp; omega)) [z7a, z1a, z0a, z5o, z7V, z2o, h293, h291, kF, hs, z2La, z2oa, z9Da, z3n, z6m]
theorem z9Dc (E : Env) : ∀ ds, z4Xb.pre ds → ds.length = z8t.n ∧ awp E z8t.body (z9u z8t.res (z4Xb.post ds)) (z8c z8t.wr ds) := by
 rintro _ ⟨t, m, rfl⟩
 rw [z9Eb]
 simp (maxSteps := 1000000) (disch := first | omega | (simp; done) | (simp; omega)) [z7a, z1a, z0a, z8t, z7k, z1wa, z8C, z2o, z3n, z6m, z9P (a := z9c 16) (b := z9c 16) rfl, z6Ca (d := z9c 16) rfl, or_imp, forall_and, z7ca, z4va]
 rfl
theorem z8Cc (E : Env) : ∀ ds, z5ib.pre ds → ds.length = z5u.n ∧ awp E z5u.body (z9u z5u.res (z5ib.post ds)) (z8c z5u.wr ds) := by
 rintro _ rfl
 rw [z85a]
 simp (maxSteps := 1000000) (disch := first | omega | (simp; done) | (simp; omega)) [z7a, z1a, z0a, z5u, z2g, z5Ea, z3n, z6m, z0b]
theorem z4Bc (E : Env) (h289 : E.G 289 = z1oa) (h131 : E.G 131 = z0la) (h290 : E.G 290 = z8ua) (h291 : E.G 291 = z2va) : ∀ ds, z2Mb.pre ds → ds.length = z0u.n ∧ awp E z0u.body (z9u z0u.res (z2Mb.post ds)) (z8c z0u.wr ds) := by
 rintro _ ⟨now, req, mode, c, nc, nm, ng, made, gone, hc, hm, h1, h2, rfl⟩
 unfold z8Dc
 rw [z56a hm]
 have e1 : ∀ nl, z1oa.pre [.agg (z2o c nl)] = True := fun nl => z3Ja hc
 have hd : (z7L 7 [z96 c]).length = 16 := z3E _ _
 have hp := z3Ja (nl := nc) hc
 have hq := z0wa c nc
 have hp' := z0cb (nl := nc) hc
 have hq' := z4oa c nc
 have hk : (z9Da c).kind = c.kind := by unfold z9Da; split <;> rfl
 generalize hD : z7L 7 [z96 c] = D at *
 generalize hC : z9Da c = c' at *
 obtain ⟨k1, k2, k3, k4, k5, k6, dt, ls⟩ := c
 obtain ⟨j1, j2, j3, j4, j5, j6, dt', ls'⟩ := c'
 simp only [z2o] at hp hq hp' hq' hk
 simp (maxSteps := 1000000) (disch := first | omega | (simp; done) | (simp; omega)) [z7a, z1a, z0a, z0u, h289, h131, h290, h291, z2o, hp, hq, hp', hq', z29a hm h1, z8ya hm, z2La, z2oa, z3n, z6m, z9P (a := z9c 16) (b := D) hd, z7ga (a := z9c 16) (b := D) hd, z3na (a := D) hd, z9na (a := D) hd, z6Ca hd, hd, or_imp, forall_and, z7ca, z4va]
 subst hk
 simp [z7k, mkE, hC, hD, z2o]
end Go.Abs
end

section
namespace Go.Abs
set_option maxRecDepth 100000
def atD (l : List z0f) (i : Nat) : z0f := l.getD i z01c
theorem z4ba {l : List z0f} {i : Nat} (h : i < l.length) : atD l i = l[i] := by simp [atD, List.getD, List.getElem?_eq_getElem h]
theorem z4fa {l : List z0f} {i : Nat} (h : i < l.length) : atD l i ∈ l := by rw [z4ba h]; exact List.getElem_mem h
theorem z8xa {l : List z0f} (h : z4d l) {i : Nat} (hi : i < l.length) : ((z0b l).drop (i * 24)).take 24 = z2q (atD l i) := by
 have e1 := z9ha (enc := z2q) (P := z3Ka) (w := 24) (fun a ha => z3o ha) l i (z6b h)
 have hd := z6b h _ (List.getElem_mem hi)
 rw [show z0b l = l.flatMap z2q from rfl, e1, List.drop_eq_getElem_cons hi, List.flatMap_cons, List.take_left' (z3o hd), z4ba hi]
/-! ### a key's cells, by name -/
@[simp] theorem mad_0 (m : z0f) : hdA (z2q m) = i64 m.id := rfl
@[simp] theorem mad_1 (m : z0f) : hdA ((z2q m).drop 1) = i64 m.ty := rfl
@[simp] theorem mad_1t (m : z0f) : hdA (z2q m).tail = i64 m.ty := rfl
@[simp] theorem mad_2 (m : z0f) : hdA ((z2q m).drop 2) = i64 m.uses := rfl
@[simp] theorem mad_3 (m : z0f) : hdA ((z2q m).drop 3) = i64 m.beg := rfl
@[simp] theorem mad_4 (m : z0f) : hdA ((z2q m).drop 4) = i64 m.fin := rfl
@[simp] theorem mad_5 (m : z0f) : hdA ((z2q m).drop 5) = i64 m.ver := rfl
@[simp] theorem mad_6 (m : z0f) : hdA ((z2q m).drop 6) = i64 m.par := rfl
@[simp] theorem mad_7 (m : z0f) : hdA ((z2q m).drop 7) = bo m.raw := rfl
@[simp] theorem mad_8 (m : z0f) : (z2q m).drop 8 = bys m.dig := rfl
theorem z3F (m : z0f) : (∀ c ∈ z2q m, z5d c) = True := eq_true fun c hc => (z5F c hc).2
theorem z4Q (m : z0f) : (∀ c ∈ z2q m, z2f c = false) = True := eq_true fun c hc => by
 rcases List.mem_append.1 hc with h | h
 ·simp only [List.mem_cons, List.not_mem_nil, or_false] at h
  rcases h with rfl | rfl | rfl | rfl | rfl | rfl | rfl | rfl <;> rfl
 ·simp only [bys, List.mem_map] at h
  obtain ⟨x, _, rfl⟩ := h
  rfl
theorem z1ua {m : z0f} (h : m.dig.length = 16) : (z2q m).take 24 = z2q m := List.take_of_length_le (by rw [z3o h]; exact Nat.le_refl _)
theorem z8la {m : z0f} (h : m.dig.length = 16) {zs : List z2a} (hz : zs.length = 24) : splice zs 0 (z2q m) = z2q m := z9f (by rw [z3o h, hz])
@[simp] theorem z8Wc (m : z0f) : z7h (z2q m) = true := (z5n _).2 fun c hc => (z5F c hc).1
@[simp] theorem z9Xc (m : z0f) : z2i (z2q m) = [] := by simp [z2q, z2i]
theorem z4Qa {l : List z0f} {p : z0f → Bool} {i : Nat} (h : i < l.length) : (l.take (i + 1)).filter p = (l.take i).filter p ++ (if p (atD l i) then [atD l i] else []) := by
 rw [List.take_succ_eq_append_getElem h, List.filter_append, z4ba h]
 congr 1
 cases hp : p l[i] <;> simp [List.filter, hp]
theorem z43 (a b : List z0f) : z0b (a ++ b) = z0b a ++ z0b b := by simp [z0b]
theorem z8Na (m : z0f) : z0b [m] = z2q m := by simp [z0b]
set_option maxHeartbeats 8000000 in
theorem z9Ec (E : Env) : ∀ ds, z6fb.pre ds → ds.length = z6u.n ∧ awp E z6u.body (z9u z6u.res (z6fb.post ds)) (z8c z6u.wr ds) := by
 rintro _ ⟨nk, v, now, h16, hl, rfl⟩
 rw [z7ma now h16]
 have hlen := z0d (z6b h16)
 obtain ⟨t, m, e, n, ks⟩ := v
 simp only at h16 hl hlen
 simp only [z4xa]
 simp (maxSteps := 1000000) (disch := first | omega | (simp; done) | (simp; omega)) [z7a, z1a, z0a, z6u, z2g]
 refine z3a fun Q0 hQ0 => ?_
 refine z7d (fun i : Nat => ⟨[(0, .agg [i64 t, i64 m, i64 e, i64 n, .sl .plain nk ks.length (z0b ks)]), (1, i64 now)], [(4, .sl (.own 24) none ((ks.take i).filter fun m => z5Y m now).length (z0b ((ks.take i).filter fun m => z5Y m now))), (8, .sl .plain nk ks.length (z0b ks)), (9, i64 ks.length), (10, i64 i)], [(2, some [i64 t, i64 m, i64 e, i64 n, .sl .plain nk ks.length (z0b ks)])]⟩)
  (fun i => ks.length - i) (fun i => i ≤ ks.length) 0 (by simp [z0b]) (by simp) fun i hi => ?_
 refine z3a fun Q1 hQ1 => ?_
 by_cases h1 : i < ks.length
 ·have hm := h16 _ (z4fa h1)
  have hd := hm.2.2.2.2.2.2.2
  have ha := z8xa h16 h1
  have hml := z3o hd
  have hf := z4Qa (p := fun m => z5Y m now) h1
  have hle : 24 ≤ ks.length * 24 - i * 24 := by omega
  have hle2 : i * 24 ≤ ks.length * 24 := by omega
  have hFl : ((ks.take i).filter fun m => z5Y m now).length ≤ i := Nat.le_trans (List.length_filter_le _ _) (by rw [List.length_take]; omega)
  generalize hX : atD ks i = x at *
  generalize hF : (ks.take i).filter (fun m => z5Y m now) = F at *
  have sp : splice (i64 0 :: i64 0 :: i64 0 :: i64 0 :: i64 0 :: i64 0 :: i64 0 :: bo false :: bys (z9c 16)) 0 (z2q x) = z2q x := z8la hd rfl
  have sp' : splice [i64 0, i64 0, i64 0, i64 0, i64 0, i64 0, i64 0, bo false, u8 0, u8 0, u8 0, u8 0, u8 0, u8 0, u8 0, u8 0, u8 0, u8 0, u8 0, u8 0, u8 0, u8 0, u8 0, u8 0] 0 (z2q x) = z2q x := z8la hd rfl
  by_cases h2 : x.beg ≤ now
  ·by_cases h3 : now < x.fin
   ·have hz : z5Y x now = true := by simp [z5Y, h2, h3]
    rw [hz] at hf
    simp only [if_true] at hf
    simp (maxSteps := 1000000) (disch := first | omega | (simp; done) | (simp; omega)) [z7a, z1a, z0a, z5z, z8M, kT, kF, dT, dF, h1, ha, hlen, hle, hle2, hml, z3F, z4Q, z1ua hd, sp, sp', h2, h3, hQ1]
    exact ⟨⟨by omega, by omega, fun c hc => z5F c hc⟩, i + 1, by omega, by omega, ⟨by rw [hf]; simp, by rw [hf, z43, z8Na]⟩, by omega⟩
   ·have hz : z5Y x now = false := by simp [z5Y, h3]
    rw [hz] at hf
    simp only [Bool.false_eq_true, if_false, List.append_nil] at hf
    simp (maxSteps := 1000000) (disch := first | omega | (simp; done) | (simp; omega)) [z7a, z1a, z0a, z5z, z8M, kT, kF, dT, dF, h1, ha, hlen, hle, hle2, hml, z3F, z4Q, z1ua hd, sp, sp', h2, h3, hQ1]
    exact ⟨i + 1, by omega, by omega, ⟨by rw [hf], by rw [hf]⟩, by omega⟩
  ·have hz : z5Y x now = false := by simp [z5Y, h2]
   rw [hz] at hf
   simp only [Bool.false_eq_true, if_false, List.append_nil] at hf
   simp (maxSteps := 1000000) (disch := first | omega | (simp; done) | (simp; omega)) [z7a, z1a, z0a, z5z, z8M, kT, kF, dT, dF, h1, ha, hlen, hle, hle2, hml, z3F, z4Q, z1ua hd, sp, sp', h2, hQ1]
   exact ⟨i + 1, by omega, by omega, ⟨by rw [hf], by rw [hf]⟩, by omega⟩
 ·obtain rfl : i = ks.length := by omega
  simp (maxSteps := 1000000) (disch := first | omega | (simp; done) | (simp; omega)) [z7a, z1a, z0a, z5z, kT, kF, dT, dF, hQ1, hQ0, z1ea, List.take_length]
end Go.Abs
end

section
namespace Go.Abs
theorem z9Za (v : BitVec 64) : IntKind.i64.wrap (v.toNat : Int) = v.toInt := by
 have h := v.isLt
 rw [BitVec.toInt_eq_toNat_cond]
 show (let m := (v.toNat : Int) % 2 ^ 64; if true && decide (2 ^ (64 - 1) ≤ m) then m - 2 ^ 64 else m) = _
 simp only [Bool.true_and, decide_eq_true_eq, show (2 : Int) ^ (64 - 1) = 9223372036854775808 from rfl, show (2 : Int) ^ 64 = 18446744073709551616 from rfl, show (2 : Nat) ^ 64 = 18446744073709551616 from rfl]
 have h : v.toNat < 18446744073709551616 := h
 split <;> split <;> omega
theorem z7Sa {n : Int} (h : z6k n) : (BitVec.ofInt 64 n).toInt = n := by
 obtain ⟨h1, h2⟩ := h
 rw [BitVec.toInt_ofInt]
 rw [Int.bmod_def]
 split <;> omega
theorem z8Jc (x c : BitVec 64) : x &&& ~~~c = 0#64 ↔ x &&& c = x := by
 constructor
 ·intro h
  apply BitVec.eq_of_getLsbD_eq
  intro i hi
  have := congrArg (fun v => v.getLsbD i) h
  simp [hi] at this ⊢
  exact this
 ·intro h
  apply BitVec.eq_of_getLsbD_eq
  intro i hi
  have := congrArg (fun v => v.getLsbD i) h
  simp [hi] at this ⊢
  exact this
theorem z1ub {n : Int} (h : z6k n) : z5ua n = (z5hb n 956 == n) := by
 have e1 : z9Ia n 956 = (BitVec.ofInt 64 n &&& ~~~ BitVec.ofInt 64 956).toInt := z9Za _
 have e2 : z5hb n 956 = (BitVec.ofInt 64 n &&& BitVec.ofInt 64 956).toInt := z9Za _
 rw [Bool.eq_iff_iff, z5ua, beq_iff_eq, beq_iff_eq, e1, e2]
 have z : (0 : Int) = (0#64 : BitVec 64).toInt := by decide
 rw [z, BitVec.toInt_inj, z8Jc]
 constructor
 ·intro e; rw [e, z7Sa h]
 ·intro e
  have := (BitVec.toInt_inj (x := BitVec.ofInt 64 n &&& BitVec.ofInt 64 956) (y := BitVec.ofInt 64 n)).1 (by rw [e, z7Sa h])
  exact this
end Go.Abs
end

section
namespace Go.Abs
def M32 : Nat := 4294967296
def rx (y n : Nat) : Nat := Nat.shiftRight y n
def dbl (x : Nat) : Nat := Nat.mul 4294967297 x
theorem z3oa (x : UInt32) {n : Nat} (hn : n ≤ 32) : (z40 x n).toNat = rx (dbl x.toNat) n % 2 ^ 32 := by
 have hx := x.toNat_lt
 have e1 : (z40 x n).toNat = (x.toNat >>> n) ||| ((x.toNat <<< (32 - n)) % 2 ^ 32) := by
  rw [z40, UInt32.toNat_or]
  show (x.toBitVec >>> n).toNat ||| (x.toBitVec <<< (32 - n)).toNat = _
  rw [BitVec.toNat_ushiftRight, BitVec.toNat_shiftLeft]
  rfl
 have e2 : rx (dbl x.toNat) n = (2 ^ 32 * x.toNat + x.toNat) >>> n := by
  show (4294967297 * x.toNat) >>> n = _
  congr 1
  omega
 rw [e1, e2]
 apply Nat.eq_of_testBit_eq
 intro i
 rw [Nat.testBit_or, Nat.testBit_shiftRight, Nat.testBit_mod_two_pow, Nat.testBit_shiftLeft, Nat.testBit_mod_two_pow, Nat.testBit_shiftRight, Nat.testBit_two_pow_mul_add _ hx]
 by_cases hi : i < 32
 ·by_cases h : n + i < 32
  ·have h0 : ¬ 32 - n ≤ i := by omega
   simp [hi, h, h0]
  ·have h0 : 32 - n ≤ i := by omega
   have hf : x.toNat.testBit (n + i) = false := Nat.testBit_lt_two_pow (Nat.lt_of_lt_of_le hx (Nat.pow_le_pow_right (by decide) (by omega)))
   simp [hi, h, h0, hf]
   congr 1
   omega
 ·have hf : x.toNat.testBit (n + i) = false := Nat.testBit_lt_two_pow (Nat.lt_of_lt_of_le hx (Nat.pow_le_pow_right (by decide) (by omega)))
  simp [hi, hf]
def xo3 (y i j k : Nat) : Nat := Nat.mod (Nat.xor (Nat.xor (rx y i) (rx y j)) (rx y k)) M32
theorem z9Qb (x : UInt32) {i j k : Nat} (hi : i ≤ 32) (hj : j ≤ 32) (hk : k ≤ 32) : (z40 x i ^^^ z40 x j ^^^ z40 x k).toNat = xo3 (dbl x.toNat) i j k := by
 rw [UInt32.toNat_xor, UInt32.toNat_xor, z3oa x hi, z3oa x hj, z3oa x hk]
 show _ = ((rx (dbl x.toNat) i ^^^ rx (dbl x.toNat) j) ^^^ rx (dbl x.toNat) k) % 2 ^ 32
 rw [Nat.xor_mod_two_pow, Nat.xor_mod_two_pow]
def xo2 (x y i j k : Nat) : Nat := Nat.xor (Nat.mod (Nat.xor (rx y i) (rx y j)) M32) (Nat.shiftRight x k)
theorem z2Vb (x : UInt32) {i j : Nat} (k : Nat) (hi : i ≤ 32) (hj : j ≤ 32) : (z40 x i ^^^ z40 x j ^^^ z7La x k).toNat = xo2 x.toNat (dbl x.toNat) i j k := by
 rw [UInt32.toNat_xor, UInt32.toNat_xor, z3oa x hi, z3oa x hj]
 show _ = ((rx (dbl x.toNat) i ^^^ rx (dbl x.toNat) j) % 2 ^ 32) ^^^ (x.toNat >>> k)
 rw [Nat.xor_mod_two_pow]
 rfl
structure N8 where
 a : Nat
 b : Nat
 c : Nat
 d : Nat
 e : Nat
 f : Nat
 g : Nat
 h : Nat
def toN (s : H8) : N8 := ⟨s.a.toNat, s.b.toNat, s.c.toNat, s.d.toNat, s.e.toNat, s.f.toNat, s.g.toNat, s.h.toNat⟩
def z8Xc (k w : Nat) (s : N8) : N8 :=
 (fun x y => N8.mk (Nat.mod (Nat.add x y) M32) s.a s.b s.c (Nat.mod (Nat.add s.d x) M32) s.e s.f s.g)
  (Nat.add (Nat.add (Nat.add (Nat.add s.h (xo3 (dbl s.e) 6 11 25)) (Nat.xor (Nat.land s.e s.f) (Nat.land (Nat.sub 4294967295 s.e) s.g))) k) w)
  (Nat.add (xo3 (dbl s.a) 2 13 22) (Nat.xor (Nat.xor (Nat.land s.a s.b) (Nat.land s.a s.c)) (Nat.land s.b s.c)))
theorem z5cd (k w : UInt32) (s : H8) : toN (rnd k w s) = z8Xc k.toNat w.toNat (toN s) := by
 have h1 := z9Qb s.e (i := 6) (j := 11) (k := 25) (by decide) (by decide) (by decide)
 have h2 := z9Qb s.a (i := 2) (j := 13) (k := 22) (by decide) (by decide) (by decide)
 have h3 : (~~~s.e).toNat = 4294967295 - s.e.toNat := by rw [UInt32.toNat_not]; rfl
 simp only [toN, rnd, z8Xc, N8.mk.injEq, and_true, true_and]
 rw [← h1, ← h2]
 generalize (z40 s.e 6 ^^^ z40 s.e 11 ^^^ z40 s.e 25) = S1
 generalize (z40 s.a 2 ^^^ z40 s.a 13 ^^^ z40 s.a 22) = S0
 simp only [UInt32.toNat_add, UInt32.toNat_xor, UInt32.toNat_and, h3]
 show _ = (_ + _ + ((s.e.toNat &&& s.f.toNat) ^^^ ((4294967295 - s.e.toNat) &&& s.g.toNat)) + _ + _ + (_ + ((s.a.toNat &&& s.b.toNat) ^^^ (s.a.toNat &&& s.c.toNat) ^^^ (s.b.toNat &&& s.c.toNat)))) % M32 ∧ _ = (s.d.toNat + (_ + _ + ((s.e.toNat &&& s.f.toNat) ^^^ ((4294967295 - s.e.toNat) &&& s.g.toNat)) + _ + _)) % M32
 simp only [M32]
 omega
def z2db : List Nat → List Nat → N8 → N8
 | [], _, s => s
 | _ :: _, [], s => s
 | k :: ks, w :: ws, s => z2db ks ws (z8Xc k w s)
theorem z1Ia (k w : Nat) : ∀ (ks ws : List Nat) (s : N8), ks.length = ws.length → z2db (ks ++ [k]) (ws ++ [w]) s = z8Xc k w (z2db ks ws s)
 | [], [], s, _ => rfl
 | [], _ :: _, _, h => by simp at h
 | _ :: _, [], _, h => by simp at h
 | k' :: ks, w' :: ws, s, h => by
  simp only [List.cons_append, z2db]
  exact z1Ia k w ks ws _ (by simpa using h)
def n32 (l : List UInt32) : List Nat := l.map UInt32.toNat
theorem z9Rb {l : List UInt32} {i : Nat} (h : i < l.length) : l.take (i + 1) = l.take i ++ [z5q l i] := by
 rw [List.take_succ_eq_append_getElem h, z5q, List.getD, List.getElem?_eq_getElem h]; rfl
theorem z5Vb (w : List UInt32) (s : H8) (hw : w.length = 64) : ∀ t, t ≤ 64 → toN (z0Ea w s t) = z2db (n32 (kc.take t)) (n32 (w.take t)) (toN s)
 | 0, _ => rfl
 | t + 1, h => by
  have hk : kc.length = 64 := rfl
  have e1 : n32 (kc.take (t + 1)) = n32 (kc.take t) ++ [(z5q kc t).toNat] := by rw [z9Rb (l := kc) (by omega)]; simp [n32]
  have e2 : n32 (w.take (t + 1)) = n32 (w.take t) ++ [(z5q w t).toNat] := by rw [z9Rb (l := w) (by omega)]; simp [n32]
  rw [z0Ea, z5cd, z5Vb w s hw t (by omega), e1, e2]
  exact (z1Ia _ _ _ _ _ (by simp [n32]; omega)).symm
def z31c : Nat → List Nat → List Nat
 | 0, acc => acc
 | n + 1, acc => z31c n ((fun p q => Nat.mod (Nat.add (Nat.add (Nat.add (acc.getD 15 0) (xo2 p (dbl p) 7 18 3)) (acc.getD 6 0)) (xo2 q (dbl q) 17 19 10)) M32) (acc.getD 14 0) (acc.getD 1 0) :: acc)
theorem z1cb (w : List UInt32) {i : Nat} (h : i < w.length) : (n32 w.reverse).getD i 0 = (z5q w (w.length - 1 - i)).toNat := by
 rw [n32, List.getD, List.getElem?_map, List.getElem?_eq_getElem (by simpa using h), List.getElem_reverse, z5q, List.getD, List.getElem?_eq_getElem (by omega)]
 rfl
theorem z7vb (b : List UInt8) : ∀ (n t : Nat), 16 ≤ t → z31c n (n32 (z8k b t).reverse) = n32 (z8k b (t + n)).reverse
 | 0, _, _ => rfl
 | n + 1, t, ht => by
  have hl := z7q b t
  rw [z31c, z1cb _ (by omega), z1cb _ (by omega), z1cb _ (by omega), z1cb _ (by omega), hl]
  have hs : n32 (z8k b (t + 1)).reverse = (z8Ea b t (z8k b t)).toNat :: n32 (z8k b t).reverse := by simp [z8k, n32]
  have e : (z8Ea b t (z8k b t)).toNat = Nat.mod (Nat.add (Nat.add (Nat.add (z5q (z8k b t) (t - 1 - 15)).toNat (xo2 (z5q (z8k b t) (t - 1 - 14)).toNat (dbl (z5q (z8k b t) (t - 1 - 14)).toNat) 7 18 3)) (z5q (z8k b t) (t - 1 - 6)).toNat) (xo2 (z5q (z8k b t) (t - 1 - 1)).toNat (dbl (z5q (z8k b t) (t - 1 - 1)).toNat) 17 19 10)) M32 := by
   rw [z8Ea, if_neg (by omega), sg0, sg1, UInt32.toNat_add, UInt32.toNat_add, UInt32.toNat_add, z2Vb _ 3 (by decide) (by decide), z2Vb _ 10 (by decide) (by decide)]
   simp only [Nat.sub_sub]
   show _ = (_ + _ + _ + _) % M32
   simp only [M32, Nat.reduceAdd]
   omega
  have e' := (congrArg (· :: n32 (z8k b t).reverse) e).symm.trans hs.symm
  have h' := z7vb b n (t + 1) (by omega)
  rw [← e', Nat.add_assoc, Nat.add_comm 1 n] at h'
  exact h'
def wd (b : List UInt8) (t : Nat) : Nat := Nat.add (Nat.mul 256 (Nat.add (Nat.mul 256 (Nat.add (Nat.mul 256 (at8 b (4 * t)).toNat) (at8 b (4 * t + 1)).toNat)) (at8 b (4 * t + 2)).toNat)) (at8 b (4 * t + 3)).toNat
theorem or8 {x : UInt32} {N : Nat} (hx : x.toNat = N) (hN : N < 16777216) (c : UInt8) : (z5ja x 8 ||| c.toUInt32).toNat = 256 * N + c.toNat := by
 subst hx
 have hc := c.toNat_lt
 rw [UInt32.toNat_or]
 show ((x.toBitVec <<< 8).toNat ||| c.toUInt32.toNat) = _
 rw [BitVec.toNat_shiftLeft, UInt8.toNat_toUInt32]
 show (x.toNat <<< 8 % 2 ^ 32 ||| c.toNat) = _
 rw [Nat.mod_eq_of_lt (by rw [Nat.shiftLeft_eq]; omega), ← Nat.shiftLeft_add_eq_or_of_lt (by omega), Nat.shiftLeft_eq]
 omega
theorem z5gd (b : List UInt8) (t : Nat) : (ldw b t 4).toNat = wd b t := by
 have h0 := (at8 b (4 * t)).toNat_lt
 have h1 := (at8 b (4 * t + 1)).toNat_lt
 have h2 := (at8 b (4 * t + 2)).toNat_lt
 have e1 : (ldw b t 1).toNat = (at8 b (4 * t)).toNat := by rw [ldw, ldw, or8 (N := 0) rfl (by decide)]; simp
 have e2 : (ldw b t 2).toNat = 256 * (at8 b (4 * t)).toNat + (at8 b (4 * t + 1)).toNat := by rw [ldw, or8 e1 (by omega)]
 have e3 : (ldw b t 3).toNat = 256 * (256 * (at8 b (4 * t)).toNat + (at8 b (4 * t + 1)).toNat) + (at8 b (4 * t + 2)).toNat := by rw [ldw, or8 e2 (by omega)]
 rw [ldw, or8 e3 (by omega)]
 rfl
def z0uc : Nat → List UInt8 → List Nat → List Nat
 | n + 1, a :: b :: c :: d :: r, acc => z0uc n r (Nat.add (Nat.mul 256 (Nat.add (Nat.mul 256 (Nat.add (Nat.mul 256 a.toNat) b.toNat)) c.toNat)) d.toNat :: acc)
 | _, _, acc => acc
theorem z7Sb (b : List UInt8) (hb : b.length = 64) : ∀ (n t : Nat), n + t = 16 → z0uc n (b.drop (4 * t)) (n32 (z8k b t).reverse) = n32 (z8k b 16).reverse
 | 0, t, h => by
  have : t = 16 := by omega
  subst this
  rfl
 | n + 1, t, h => by
  have hd : b.drop (4 * t) = at8 b (4 * t) :: at8 b (4 * t + 1) :: at8 b (4 * t + 2) :: at8 b (4 * t + 3) :: b.drop (4 * (t + 1)) := by
   rw [List.drop_eq_getElem_cons (by omega), List.drop_eq_getElem_cons (by omega), List.drop_eq_getElem_cons (by omega), List.drop_eq_getElem_cons (by omega)]
   simp only [at8, List.getD, List.getElem?_eq_getElem (show 4 * t < b.length by omega), List.getElem?_eq_getElem (show 4 * t + 1 < b.length by omega), List.getElem?_eq_getElem (show 4 * t + 2 < b.length by omega), List.getElem?_eq_getElem (show 4 * t + 3 < b.length by omega), Option.getD_some]
   rfl
  have hs : n32 (z8k b (t + 1)).reverse = wd b t :: n32 (z8k b t).reverse := by
   have : z8Ea b t (z8k b t) = ldw b t 4 := by rw [z8Ea, if_pos (by omega)]
   simp [z8k, n32, this, z5gd]
  rw [hd, z0uc]
  show z0uc n _ (wd b t :: _) = _
  rw [← hs, z7Sb b hb n (t + 1) (by omega)]
def kcN : List Nat := n32 kc
def z7cb (s : N8) (b : List UInt8) : N8 :=
 (fun r => N8.mk (Nat.mod (Nat.add s.a r.a) M32) (Nat.mod (Nat.add s.b r.b) M32) (Nat.mod (Nat.add s.c r.c) M32) (Nat.mod (Nat.add s.d r.d) M32) (Nat.mod (Nat.add s.e r.e) M32) (Nat.mod (Nat.add s.f r.f) M32) (Nat.mod (Nat.add s.g r.g) M32) (Nat.mod (Nat.add s.h r.h) M32))
  (z2db kcN (z31c 48 (z0uc 16 b [])).reverse s)
theorem z44b (s : H8) (b : List UInt8) (hb : b.length = 64) : toN (z9Qa s b) = z7cb (toN s) b := by
 have hw := z7Sb b hb 16 0 rfl
 have e0 : b.drop (4 * 0) = b := rfl
 have e1 : n32 (z8k b 0).reverse = [] := rfl
 rw [e0, e1] at hw
 have hs := z7vb b 48 16 (by decide)
 have hr := z5Vb (z8k b 64) s (z7q b 64) 64 (by decide)
 rw [List.take_of_length_le (l := z8k b 64) (by rw [z7q]; decide), List.take_of_length_le (l := kc) (i := 64) (Nat.le_refl _)] at hr
 have hrev : (n32 (z8k b 64).reverse).reverse = n32 (z8k b 64) := by simp [n32]
 unfold z7cb
 rw [hw, hs, hrev, kcN, ← hr]
 simp only [z9Qa, H8.add, toN, N8.mk.injEq]
 exact ⟨UInt32.toNat_add _ _, UInt32.toNat_add _ _, UInt32.toNat_add _ _, UInt32.toNat_add _ _, UInt32.toNat_add _ _, UInt32.toNat_add _ _, UInt32.toNat_add _ _, UInt32.toNat_add _ _⟩
def z69b : Nat → List UInt8 → N8 → N8
 | 0, _, s => s
 | k + 1, m, s => z69b k (m.drop 64) (z7cb s (m.take 64))
theorem z7Qa : ∀ (k : Nat) (m : List UInt8) (s : N8), z69b (k + 1) m s = z7cb (z69b k m s) ((m.drop (64 * k)).take 64)
 | 0, _, _ => rfl
 | k + 1, m, s => by
  rw [z69b, z7Qa k, List.drop_drop, show 64 + 64 * k = 64 * (k + 1) by omega]
  rfl
theorem z7Kc (m : List UInt8) (s : H8) : ∀ k, 64 * k ≤ m.length → toN (blk m s k) = z69b k m (toN s)
 | 0, _ => rfl
 | k + 1, h => by rw [blk, z44b _ _ (by simp; omega), z7Kc m s k (by omega), z7Qa]
def o4 (x : Nat) : List UInt8 := [UInt8.ofNat (Nat.shiftRight x 24), UInt8.ofNat (Nat.shiftRight x 16), UInt8.ofNat (Nat.shiftRight x 8), UInt8.ofNat x]
def z71c (s : N8) : List UInt8 := o4 s.a ++ (o4 s.b ++ (o4 s.c ++ (o4 s.d ++ (o4 s.e ++ (o4 s.f ++ (o4 s.g ++ o4 s.h))))))
theorem z6Nc (x : UInt32) (n : Nat) : (z7La x n).toUInt8 = UInt8.ofNat (Nat.shiftRight x.toNat n) := by
 apply UInt8.toNat_inj.1
 rw [UInt32.toNat_toUInt8, UInt8.toNat_ofNat']
 show (x.toBitVec >>> n).toNat % 256 = (x.toNat >>> n) % 256
 rw [BitVec.toNat_ushiftRight]
 rfl
theorem z9ad (h : H8) : z8hb h 32 = z71c (toN h) := by
 simp only [z8hb, z71c, o4, toN, List.nil_append, List.append_assoc, List.cons_append, z6Nc]
 rfl
def z3Cc (n : Nat) : List UInt8 := 128 :: (z9c (Nat.mod (Nat.sub 119 (Nat.mod n 64)) 64) ++ [UInt8.ofNat (Nat.shiftRight (Nat.mul 8 n) 56), UInt8.ofNat (Nat.shiftRight (Nat.mul 8 n) 48), UInt8.ofNat (Nat.shiftRight (Nat.mul 8 n) 40), UInt8.ofNat (Nat.shiftRight (Nat.mul 8 n) 32), UInt8.ofNat (Nat.shiftRight (Nat.mul 8 n) 24), UInt8.ofNat (Nat.shiftRight (Nat.mul 8 n) 16), UInt8.ofNat (Nat.shiftRight (Nat.mul 8 n) 8), UInt8.ofNat (Nat.mul 8 n)])
theorem z53b {x : UInt64} {N : Nat} (hx : x.toNat = N) (n : Nat) : (z2Ea x n).toUInt8 = UInt8.ofNat (Nat.shiftRight N n) := by
 apply UInt8.toNat_inj.1
 rw [UInt64.toNat_toUInt8, UInt8.toNat_ofNat']
 show (x.toBitVec >>> n).toNat % 256 = (N >>> n) % 256
 rw [BitVec.toNat_ushiftRight]
 subst hx
 rfl
theorem z35c {n : Nat} (h : n < 1099511627776) : z71a (UInt64.ofNat n) = z3Cc n := by
 have h1 : (UInt64.ofNat n).toNat = n := by rw [UInt64.toNat_ofNat']; omega
 have h2 : (8 * UInt64.ofNat n).toNat = 8 * n := by
  rw [UInt64.toNat_mul, h1]
  have : (8 : UInt64).toNat = 8 := rfl
  rw [this]; omega
 simp only [z71a, h1, z3Cc, be8, List.nil_append, List.append_assoc, List.cons_append, z53b h2, z3Fa]
 rfl
def ivN : N8 := toN iv
def shaN (b : List UInt8) : List UInt8 := (fun m => z71c (z69b (Nat.div m.length 64) m ivN)) (b ++ z3Cc b.length)
theorem z73b {b : List UInt8} (h : b.length < 1099511000000) : sha b = shaN b := by
 obtain ⟨h1, h2, h3⟩ := z6ra (b := b) (by omega)
 rw [z4rb h, z9ad, z7Kc _ _ _ (by omega)]
 show _ = z71c (z69b ((b ++ z3Cc b.length).length / 64) (b ++ z3Cc b.length) ivN)
 rw [← z35c (by omega)]
 rfl
end Go.Abs
end

section
namespace Go.Abs
def dEx : Cmd := ⟨1, 0, 0, 2, 0, 0, [], []⟩
def mEx : z0f := ⟨1, 2, 0, 0, 9, 1, 0, false, z6Wb⟩
def DEx : List UInt8 := [169, 165, 62, 53, 164, 222, 79, 165, 246, 192, 150, 189, 233, 112, 29, 80]
def xEx (d : List UInt8) : z3s := ⟨5, 1, 0, 1, dEx, d, [mEx], []⟩
theorem z6Ub : z7L 7 [z96 dEx] = DEx := by
 rw [z7L, z73b (by decide +kernel)]
 kernel_rfl
theorem z7Ac : z7L 8 [z5Fa (xEx DEx)] = [164, 204, 154, 203, 156, 58, 163, 22, 115, 26, 207, 131, 155, 88, 134, 22] := by
 rw [z7L, z73b (by decide +kernel)]
 kernel_rfl
theorem z4Kc : z7L 8 [z5Fa (z1wa 5 1)] = [1, 26, 216, 140, 128, 18, 255, 112, 18, 42, 81, 54, 18, 154, 119, 222] := by
 rw [z7L, z73b (by decide +kernel)]
 kernel_rfl
theorem okEx (d : List UInt8) : okE (xEx d) = true := by rfl
def vEx : z4q := ⟨5, 1, 1, 2, [mEx]⟩
theorem z67c (d : List UInt8) : z3va z5Ea (xEx d) = ⟨vEx, 0⟩ := by rfl
theorem z9uc (d : List UInt8) : z3va vEx (xEx d) = ⟨z9A, 7⟩ := by rfl
theorem z59b : z3va vEx (z1wa 4 3) = ⟨z9A, 20⟩ := by rfl
theorem z7Lc : z3va vEx (z1wa 6 3) = ⟨⟨6, 3, 2, 2, [mEx]⟩, 0⟩ := by rfl
theorem z9bc : (z4xa vEx 8).length = 1 := by rfl
theorem z4cc : (z4xa vEx 9).length = 0 := by rfl
end Go.Abs
end
