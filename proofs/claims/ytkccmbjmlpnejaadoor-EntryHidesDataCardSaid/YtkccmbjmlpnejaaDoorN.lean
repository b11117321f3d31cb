/- Lemmas: an abstract interpreter, and what the functions compute. -/
import Derived.Test.YtkccmbjmlpnejaaDoorL
import Derived.Test.YtkccmbjmlpnejaaDoorK
import Derived.Test.YtkccmbjmlpnejaaDoorI
import Derived.Test.YtkccmbjmlpnejaaDoorE
import Derived.Test.YtkccmbjmlpnejaaDoorT
import Derived.KernelRfl
set_option linter.unusedSimpArgs false
set_option linter.unusedVariables false
set_option linter.unusedSectionVars false
section
namespace Go.Abs
theorem z68a : ∀ (l : List Int) (r : List UInt8), (∀ x ∈ l, z3f x) → z5ta l.length (l.flatMap z7m ++ r) = (l, r, 0)
 | [], r, _ => rfl
 | n :: l, r, h => by
  have e : (n :: l).flatMap z7m ++ r = z7m n ++ (l.flatMap z7m ++ r) := by simp
  have g := z0La (h n (by simp)) (l.flatMap z7m ++ r)
  rw [e, List.length_cons, z5Pb (by rw [g]), g]
  simp only [List.drop_left]
  rw [z68a l r (fun x hx => h x (by simp [hx]))]
theorem z4rb {c : Cmd} (h : c.small) : d1 (z3P c) = (six c, z1P c.data ++ z3j c.list, 0) := z68a (six c) _ (z6Nb h.1)
theorem z6Sb {c : Cmd} (h : c.small) : d2 (z3P c) = (c.data, (z1P c.data).length, 0) := by
 have := h.2.1
 rw [d2, b1, z4rb h]; exact z9yb (by omega) _
theorem z2xc {c : Cmd} (h : c.small) : b2 (z3P c) = z3j c.list := by
 rw [b2, z6Sb h, b1, z4rb h]; simp [aft]
theorem z8Ac {c : Cmd} (h : c.small) : d3 (z3P c) = (c.list, (z3j c.list).length, 0) := by
 have := h.2.2
 have e := z5qb (l := c.list) (by omega) h.1.2.2.2.2.2.2 []
 rw [List.append_nil] at e
 rw [d3, z2xc h]; exact e
theorem z5Ub {c : Cmd} (h : c.small) : c3 (z3P c) = c := by
 have e1 : c1 (z3P c) = z7rc (six c) [] [] := by
  rw [c1, z4rb h]; rfl
 rw [c3, z8Ac h, c2, z6Sb h, e1]; rfl
theorem z0wb {c d : Cmd} (hc : c.small) (hd : d.small) (h : z3P c = z3P d) : c = d := by rw [← z5Ub hc, h, z5Ub hd]
theorem z5Sa (c d : Cmd) : z2la c d = true ↔ c = d := by
 obtain ⟨k1, k2, k3, k4, k5, k6, dt, ls⟩ := c
 obtain ⟨j1, j2, j3, j4, j5, j6, dt', ls'⟩ := d
 simp [z2la, and_assoc]
theorem z1fb (c : Cmd) : z2la c c = true := (z5Sa c c).2 rfl
end Go.Abs
end

section
namespace Go.Abs
structure z4j where
 id : Int
 ty : Int
 uses : Int
 beg : Int
 fin : Int
 ver : Int
 par : Int
 raw : Bool
 dig : List UInt8
def z8u (m : z4j) : List z2a := [i64 m.id, i64 m.ty, i64 m.uses, i64 m.beg, i64 m.fin, i64 m.ver, i64 m.par, bo m.raw] ++ bys m.dig
structure z6w where
 time : Int
 kind : Int
 req : Int
 mode : Int
 cmd : Cmd
 dig : List UInt8
 made : List z4j
 gone : List Int
def z8d (l : List z4j) : List z2a := l.flatMap z8u
def z5k (nc nm ng : Option Bool) (x : z6w) : List z2a := [i64 x.time, i64 x.kind, i64 x.req, i64 x.mode] ++ z2k x.cmd nc ++ bys x.dig ++ [.sl .plain nm x.made.length (z8d x.made), .sl .plain ng x.gone.length (z3i x.gone)]
def z4j.ok (m : z4j) : Prop := z3f m.id ∧ z3f m.ty ∧ z3f m.uses ∧ z3f m.beg ∧ z3f m.fin ∧ z3f m.ver ∧ z3f m.par ∧ m.dig.length = 16
def z6w.ok (x : z6w) : Prop := z3f x.time ∧ z3f x.kind ∧ z3f x.req ∧ z3f x.mode ∧ x.cmd.ok ∧ x.dig.length = 16 ∧ (∀ m ∈ x.made, m.ok) ∧ ∀ n ∈ x.gone, z3f n
def z4gc (b : Bool) : Int := if b then 1 else 0
def z7C (m : z4j) : List Int := [m.id, m.ty, m.uses, m.beg, m.fin, m.ver, m.par, z4gc m.raw]
def z5ca (m : z4j) : List UInt8 := z3j (z7C m) ++ m.dig
def z08 (x : z6w) : List UInt8 := z3j [x.time, x.kind, x.req, x.mode] ++ (z1P (z3P x.cmd) ++ (x.dig ++ (z7m x.made.length ++ (x.made.flatMap z5ca ++ z3j x.gone))))
theorem z9Na : ∀ {l l' : List Int} {r r' : List UInt8}, l.length = l'.length → (∀ x ∈ l, z3f x) → (∀ x ∈ l', z3f x) → l.flatMap z7m ++ r = l'.flatMap z7m ++ r' → l = l' ∧ r = r'
 | [], [], _, _, _, _, _, h => ⟨rfl, by simpa using h⟩
 | a :: l, b :: l', r, r', hl, h1, h2, h => by
  rw [List.flatMap_cons, List.flatMap_cons, List.append_assoc, List.append_assoc] at h
  obtain ⟨e1, e2⟩ := z40 (h1 a (by simp)) (h2 b (by simp)) h
  obtain ⟨e3, e4⟩ := z9Na (by simpa using hl) (fun x hx => h1 x (by simp [hx])) (fun x hx => h2 x (by simp [hx])) e2
  exact ⟨by rw [e1, e3], e4⟩
theorem z39 {l l' : List Int} {r r' : List UInt8} (h1 : ∀ x ∈ l, z3f x) (h2 : ∀ x ∈ l', z3f x) (n1 : l.length ≤ 9223372036854775807) (n2 : l'.length ≤ 9223372036854775807) (h : z3j l ++ r = z3j l' ++ r') : l = l' ∧ r = r' := by
 rw [z3j, z3j, List.append_assoc, List.append_assoc] at h
 obtain ⟨e1, e2⟩ := z40 ⟨by omega, by omega⟩ ⟨by omega, by omega⟩ h
 exact z9Na (by omega) h1 h2 e2
theorem z7na {m : z4j} (h : m.ok) : ∀ x ∈ z7C m, z3f x := by
 obtain ⟨h1, h2, h3, h4, h5, h6, h7, _⟩ := h
 intro x hx
 simp only [z7C, List.mem_cons, List.not_mem_nil, or_false] at hx
 rcases hx with rfl | rfl | rfl | rfl | rfl | rfl | rfl | rfl
 all_goals first | assumption | skip
 unfold z4gc
 split <;> exact ⟨by omega, by omega⟩
theorem z7Ua {m m' : z4j} (h : m.ok) (h' : m'.ok) {r r' : List UInt8} (e : z5ca m ++ r = z5ca m' ++ r') : m = m' ∧ r = r' := by
 rw [z5ca, z5ca, List.append_assoc, List.append_assoc] at e
 obtain ⟨e1, e2⟩ := z39 (z7na h) (z7na h') (by simp [z7C]) (by simp [z7C]) e
 obtain ⟨e3, e4⟩ := List.append_inj e2 (by rw [h.2.2.2.2.2.2.2, h'.2.2.2.2.2.2.2])
 refine ⟨?_, e4⟩
 obtain ⟨a1, a2, a3, a4, a5, a6, a7, a8, a9⟩ := m
 obtain ⟨b1, b2, b3, b4, b5, b6, b7, b8, b9⟩ := m'
 simp only [z7C, List.cons.injEq, and_true] at e1
 obtain ⟨rfl, rfl, rfl, rfl, rfl, rfl, rfl, e8⟩ := e1
 have e3 : a9 = b9 := e3
 subst e3
 cases a8 <;> cases b8 <;> simp [z4gc] at e8 ⊢
theorem z5Va : ∀ {l l' : List z4j} {r r' : List UInt8}, l.length = l'.length → (∀ x ∈ l, x.ok) → (∀ x ∈ l', x.ok) → l.flatMap z5ca ++ r = l'.flatMap z5ca ++ r' → l = l' ∧ r = r'
 | [], [], _, _, _, _, _, h => ⟨rfl, by simpa using h⟩
 | a :: l, b :: l', r, r', hl, h1, h2, h => by
  rw [List.flatMap_cons, List.flatMap_cons, List.append_assoc, List.append_assoc] at h
  obtain ⟨e1, e2⟩ := z7Ua (h1 a (by simp)) (h2 b (by simp)) h
  obtain ⟨e3, e4⟩ := z5Va (by simpa using hl) (fun x hx => h1 x (by simp [hx])) (fun x hx => h2 x (by simp [hx])) e2
  exact ⟨by rw [e1, e3], e4⟩
def z6w.small (x : z6w) : Prop := x.ok ∧ x.cmd.small ∧ x.made.length ≤ 1000000 ∧ x.gone.length ≤ 1000000
theorem z4Bb {x y : z6w} (hx : x.small) (hy : y.small) (h : z08 x = z08 y) : x = y := by
 obtain ⟨⟨x1, x2, x3, x4, x5, x6, x7, x8⟩, xc, xm, xg⟩ := hx
 obtain ⟨⟨y1, y2, y3, y4, y5, y6, y7, y8⟩, yc, ym, yg⟩ := hy
 rw [z08, z08] at h
 have four : ∀ {a b c d : Int}, z3f a → z3f b → z3f c → z3f d → ∀ z ∈ [a, b, c, d], z3f z := by
  intro a b c d ha hb hc hd z hz
  simp only [List.mem_cons, List.not_mem_nil, or_false] at hz
  rcases hz with rfl | rfl | rfl | rfl <;> assumption
 obtain ⟨e1, h⟩ := z39 (four x1 x2 x3 x4) (four y1 y2 y3 y4) (by simp) (by simp) h
 have lx := z78 xc
 have ly := z78 yc
 obtain ⟨e2, h⟩ := z6Wa (by omega) (by omega) h
 have e2 := z0wb xc yc e2
 obtain ⟨e3, h⟩ := List.append_inj h (by rw [x6, y6])
 obtain ⟨e4, h⟩ := z40 ⟨by omega, by omega⟩ ⟨by omega, by omega⟩ h
 obtain ⟨e5, h⟩ := z5Va (by omega) x7 y7 h
 obtain ⟨e6, _⟩ := z39 (r := []) (r' := []) x8 y8 (by omega) (by omega) (by simpa using h)
 obtain ⟨a1, a2, a3, a4, a5, a6, a7, a8⟩ := x
 obtain ⟨b1, b2, b3, b4, b5, b6, b7, b8⟩ := y
 simp only [List.cons.injEq, and_true] at e1
 obtain ⟨rfl, rfl, rfl, rfl⟩ := e1
 simp only at e2 e3 e5 e6
 subst e2 e3 e5 e6
 rfl
end Go.Abs
end

section
namespace Go.Abs
instance : DecidableEq z4j := fun a b => decidable_of_iff (a.id = b.id ∧ a.ty = b.ty ∧ a.uses = b.uses ∧ a.beg = b.beg ∧ a.fin = b.fin ∧ a.ver = b.ver ∧ a.par = b.par ∧ a.raw = b.raw ∧ a.dig = b.dig) (by
 cases a; cases b; simp)
def inR (n lo hi : Int) : Bool := decide (lo ≤ n) && decide (n ≤ hi)
def z0ua : Int := 2147483647
def z1Za : Int := 1099511627776
def z7La (k : Int) : Bool := decide (k ∈ ([2, 4, 5, 6, 8, 10, 15, 19] : List Int))
def z4la (c : Cmd) : Cmd := if z7La c.kind = true then { c with data := [] } else c
def z6Tb : List UInt8 := z2c 16
def z1sa (t m : Int) : z6w := ⟨t, 0, 0, m, z9y, z6Tb, [], []⟩
def z2L (x y : z6w) : Bool := x.time == y.time && x.kind == y.kind && x.req == y.req && x.mode == y.mode && decide (x.dig = y.dig) && z2la x.cmd y.cmd && decide (x.made = y.made) && decide (x.gone = y.gone)
theorem z9Ba (x y : z6w) : z2L x y = true ↔ x = y := by
 obtain ⟨a1, a2, a3, a4, a5, a6, a7, a8⟩ := x
 obtain ⟨b1, b2, b3, b4, b5, b6, b7, b8⟩ := y
 simp only [z2L, Bool.and_eq_true, beq_iff_eq, decide_eq_true_eq, z5Sa, z6w.mk.injEq]
 constructor
 ·rintro ⟨⟨⟨⟨⟨⟨⟨h1, h2⟩, h3⟩, h4⟩, h5⟩, h6⟩, h7⟩, h8⟩
  exact ⟨h1, h2, h3, h4, h6, h5, h7, h8⟩
 ·rintro ⟨h1, h2, h3, h4, h6, h5, h7, h8⟩
  exact ⟨⟨⟨⟨⟨⟨⟨h1, h2⟩, h3⟩, h4⟩, h5⟩, h6⟩, h7⟩, h8⟩
def z2ha (m : z4j) : Bool := inR m.id 1 z0ua && inR m.ver 1 z0ua && inR m.par 0 z0ua && inR m.ty 0 31 && z9ta m.uses && inR m.beg 0 m.fin && inR m.fin 0 z1Za
def okE (x : z6w) : Bool := inR x.time 0 z1Za && inR x.req 0 z0ua && inR x.mode 1 5 && decide (x.made.length ≤ 4096) && decide (x.gone.length ≤ 4096) && x.made.all z2ha &&
 (if x.kind = 0 then z2L x (z1sa x.time x.mode) else inR x.kind 1 27 && (x.cmd.kind == x.kind) && (!z7La x.kind || decide (x.cmd.data = [])))
structure z0V where
 time : Int
 mode : Int
 ents : Int
 next : Int
 keys : List z4j
def z2bb : z0V := ⟨0, 1, 0, 1, []⟩
def z0ka : z0V := ⟨0, 0, 0, 0, []⟩
def z9Cc (l : List z4j) (i : Int) : Nat := l.findIdx fun m => decide (m.id = i)
def delM (l : List z4j) (i : Int) : Option (List z4j) := if z9Cc l i < l.length then some (l.eraseIdx (z9Cc l i)) else none
def z34b : List Int → List z4j → Option (List z4j)
 | [], l => some l
 | i :: is, l => (delM l i).bind (z34b is)
def useM (m : z4j) : z4j := { m with uses := z1Nb m.uses 176 }
def z9ad : z4j := ⟨0, 0, 0, 0, 0, 0, 0, false, z6Tb⟩
def rotM (x : z6w) (l : List z4j) : Option (List z4j) :=
 if x.kind = 13 then (if z9Cc l x.cmd.key < l.length then some (l.set (z9Cc l x.cmd.key) (useM (l.getD (z9Cc l x.cmd.key) z9ad))) else none) else some l
def z6Jb : List z4j → Int → Bool
 | [], _ => true
 | m :: l, n => (m.id == n) && z6Jb l (n + 1)
structure AppO where
 v : z0V
 e : Int
def z9Wa (v : z0V) (x : z6w) : AppO :=
 if okE x = true then (if x.time < v.time then ⟨z0ka, 20⟩ else match (z34b x.gone v.keys).bind (rotM x) with
  | none => ⟨z0ka, 7⟩
  | some l => if z6Jb x.made v.next = true then (if z0ua < v.next + x.made.length then ⟨z0ka, 2⟩ else ⟨⟨x.time, x.mode, v.ents + 1, v.next + x.made.length, l ++ x.made⟩, 0⟩) else ⟨z0ka, 7⟩)
 else ⟨z0ka, 1⟩
def z7ta (m : z4j) (now : Int) : Bool := decide (m.beg ≤ now) && decide (now < m.fin)
def z10a (v : z0V) (now : Int) : List z4j := v.keys.filter fun m => z7ta m now
/-! ### What stays true -/
end Go.Abs
end

section
namespace Go.Abs
/-! ### Lists of values of one width -/
def gLw {α : Type} (w : Nat) (g : List z2a → α) (n : Nat) (cs : List z2a) : List α := (List.range n).map fun i => g ((cs.drop (i * w)).take w)
theorem z7va {α : Type} {w : Nat} {enc : α → List z2a} {P : α → Prop} (h1 : ∀ a, P a → (enc a).length = w) : ∀ (l : List α) (i : Nat), (∀ a ∈ l, P a) → (l.flatMap enc).drop (i * w) = (l.drop i).flatMap enc
 | [], i, _ => by simp
 | a :: l, 0, _ => by simp
 | a :: l, i + 1, h => by
  rw [List.drop_succ_cons, ← z7va h1 l i (fun b hb => h b (by simp [hb])), List.flatMap_cons, show (i + 1) * w = (enc a).length + i * w by rw [h1 a (h a (by simp)), Nat.succ_mul, Nat.add_comm], ← List.drop_drop, List.drop_left]
theorem z5oc {α : Type} {w : Nat} {g : List z2a → α} {enc : α → List z2a} {P : α → Prop} (h1 : ∀ a, P a → (enc a).length = w) (h2 : ∀ a, P a → g (enc a) = a) (l : List α) (h : ∀ a ∈ l, P a) : gLw w g l.length (l.flatMap enc) = l := by
 apply List.ext_getElem
 ·simp [gLw]
 ·intro i a1 a2
  simp only [gLw, List.getElem_map, List.getElem_range]
  have hm := h _ (List.getElem_mem a2)
  rw [z7va h1 l i h, List.drop_eq_getElem_cons a2, List.flatMap_cons, ← h1 _ hm, List.take_left, h2 _ hm]
def z4Db (l : List z2a) : z4j := ⟨asI (nth l 0), asI (nth l 1), asI (nth l 2), asI (nth l 3), asI (nth l 4), asI (nth l 5), asI (nth l 6), asB (nth l 7), gBs (l.drop 8)⟩
theorem z5oa (m : z4j) : z4Db (z8u m) = m := by
 simp [z4Db, z8u, nth]
theorem z9p {m : z4j} (h : m.dig.length = 16) : (z8u m).length = 24 := by simp [z8u, h]
def z0da (n : Nat) (cs : List z2a) : List z4j := gLw 24 z4Db n cs
def z4Sa (m : z4j) : Prop := m.dig.length = 16
theorem z8V {l : List z4j} (h : ∀ m ∈ l, z4Sa m) : z0da l.length (z8d l) = l := z5oc (enc := z8u) (P := z4Sa) (fun a ha => z9p ha) (fun a _ => z5oa a) l h
def gNn (d : z2a) : Nat := match d with | .sl _ _ n _ => n | _ => 0
def z6Sa (l : List z2a) : z6w := ⟨asI (nth l 0), asI (nth l 1), asI (nth l 2), asI (nth l 3), z7Ca (l.drop 4), gBs ((l.drop 12).take 16), z0da (gNn (nth l 28)) (gCs (nth l 28)), gIs (gCs (nth l 29))⟩
theorem z1Ra {nc nm ng : Option Bool} {x : z6w} (hd : x.dig.length = 16) (hm : ∀ m ∈ x.made, z4Sa m) : z6Sa (z5k nc nm ng x) = x := by
 have e1 : (z5k nc nm ng x).drop 4 = z2k x.cmd nc ++ (bys x.dig ++ [.sl .plain nm x.made.length (z8d x.made), .sl .plain ng x.gone.length (z3i x.gone)]) := by simp [z5k]
 have e2 : (z5k nc nm ng x).drop 12 = bys x.dig ++ [.sl .plain nm x.made.length (z8d x.made), .sl .plain ng x.gone.length (z3i x.gone)] := by
  rw [show 12 = 4 + 8 by rfl, ← List.drop_drop, e1]; rfl
 have e3 : (z5k nc nm ng x).drop 28 = [.sl .plain nm x.made.length (z8d x.made), .sl .plain ng x.gone.length (z3i x.gone)] := by
  rw [show 28 = 12 + 16 by rfl, ← List.drop_drop, e2, List.drop_left' (by simp [hd])]
 have e4 : nth (z5k nc nm ng x) 28 = .sl .plain nm x.made.length (z8d x.made) := by
  have := congrArg (fun l => nth l 0) e3
  simpa [nth] using this
 have e5 : nth (z5k nc nm ng x) 29 = .sl .plain ng x.gone.length (z3i x.gone) := by
  have := congrArg (fun l => nth l 1) e3
  simpa [nth] using this
 have e6 : ∀ r, z7Ca (z2k x.cmd nc ++ r) = x.cmd := fun r => z8ea x.cmd nc
 rw [z6Sa, e4, e5, e1, e2, e6, List.take_left' (by simp [hd])]
 simp only [gNn, gCs, z8V hm]
 simp [z5k, nth]
end Go.Abs
end

section
namespace Go.Abs
def z0q (nk : Option Bool) (v : z0V) : List z2a := [i64 v.time, i64 v.mode, i64 v.ents, i64 v.next, .sl .plain nk v.keys.length (z8d v.keys)]
def z2eb (l : List z2a) : z0V := ⟨asI (nth l 0), asI (nth l 1), asI (nth l 2), asI (nth l 3), z0da (gNn (nth l 4)) (gCs (nth l 4))⟩
theorem z8hb {nk : Option Bool} {v : z0V} (h : ∀ m ∈ v.keys, z4Sa m) : z2eb (z0q nk v) = v := by
 simp only [z2eb, z0q, nth, List.getD_cons_zero, List.getD_cons_succ, gNn, gCs, z8V h]
 simp
def z2Wb (nl : Option Bool) (l : List z4j) : z2a := .sl .plain nl l.length (z8d l)
def z8o (l : List z4j) : Prop := ∀ m ∈ l, m.ok
theorem z0h {l : List z4j} (h : z8o l) : ∀ m ∈ l, z4Sa m := fun m hm => (h m hm).2.2.2.2.2.2.2
theorem z6p {l : List z4j} (h : ∀ m ∈ l, z4Sa m) : (z8d l).length = l.length * 24 := by
 induction l with
 | nil => rfl
 | cons a l ih =>
  have := ih fun m hm => h m (by simp [hm])
  rw [z8d] at this ⊢
  rw [List.flatMap_cons, List.length_append, this, z9p (h a (by simp)), List.length_cons]; omega
theorem z9c {nc nm ng : Option Bool} {x : z6w} (h : x.dig.length = 16) : (z5k nc nm ng x).length = 30 := by simp [z5k, z2k, h]
/-! ### Small parts -/
def z1Lb : z4a := ⟨fun ds => ∃ n lo hi : Int, ds = [i64 n, i64 lo, i64 hi], fun ds => bo (inR (asI (nth ds 0)) (asI (nth ds 1)) (asI (nth ds 2)))⟩
@[simp] theorem z4Ya (n lo hi : Int) : z1Lb.pre [i64 n, i64 lo, i64 hi] = True := eq_true ⟨n, lo, hi, rfl⟩
@[simp] theorem z4wa (n lo hi : Int) : z1Lb.post [i64 n, i64 lo, i64 hi] = bo (inR n lo hi) := rfl
def z0Ob : z4a := ⟨fun ds => ∃ k : Int, ds = [i64 k], fun ds => bo (z7La (asI (nth ds 0)))⟩
@[simp] theorem z83c (k : Int) : z0Ob.pre [i64 k] = True := eq_true ⟨k, rfl⟩
@[simp] theorem z9Bb (k : Int) : z0Ob.post [i64 k] = bo (z7La k) := rfl
def z5ka : z4a := ⟨fun ds => ∃ (c : Cmd) (nl : Option Bool), c.small ∧ ds = [.agg (z2k c nl)], fun ds => .agg (z2k (z4la (z7Ca (gCs (nth ds 0)))) none)⟩
theorem z4xa {c : Cmd} {nl : Option Bool} (h : c.small) : z5ka.pre [.agg (z2k c nl)] = True := eq_true ⟨c, nl, h, rfl⟩
theorem z0pa (c : Cmd) (nl : Option Bool) : z5ka.post [.agg (z2k c nl)] = .agg (z2k (z4la c) none) := by
 show z2a.agg (z2k (z4la (z7Ca (z2k c nl))) none) = _
 rw [z8ea]
def gNc (d : z2a) : Option Bool := match d with | .agg l => (match nth l 7 with | .sl _ nl _ _ => nl | _ => none) | _ => none
def z2Na : z4a := ⟨z5ka.pre, fun ds => .agg (z2k (z4la (z7Ca (gCs (nth ds 0)))) (gNc (nth ds 0)))⟩
theorem z6La {c : Cmd} {nl : Option Bool} (h : c.small) : z2Na.pre [.agg (z2k c nl)] = True := eq_true ⟨c, nl, h, rfl⟩
theorem z7ma (c : Cmd) (nl : Option Bool) : z2Na.post [.agg (z2k c nl)] = .agg (z2k (z4la c) nl) := by
 show z2a.agg (z2k (z4la (z7Ca (z2k c nl))) (gNc (.agg (z2k c nl)))) = _
 rw [z8ea]; rfl
def mkE (now : Int) (c : Cmd) (req mode : Int) (made : List z4j) (gone : List Int) : z6w := ⟨now, c.kind, req, mode, z4la c, z2p 7 [z3P c], made, gone⟩
def z8Wa : z4a := ⟨fun ds => ∃ (now req mode : Int) (c : Cmd) (nc nm ng : Option Bool) (made : List z4j) (gone : List Int), c.small ∧ z8o made ∧ made.length ≤ 1000000 ∧ gone.length ≤ 1000000 ∧ ds = [i64 now, .agg (z2k c nc), i64 req, i64 mode, z2Wb nm made, .sl .plain ng gone.length (z3i gone)],
 fun ds => .agg (z5k none none none (mkE (asI (nth ds 0)) (z7Ca (gCs (nth ds 1))) (asI (nth ds 2)) (asI (nth ds 3)) (z0da (gNn (nth ds 4)) (gCs (nth ds 4))) (gIs (gCs (nth ds 5)))))⟩
theorem z4za {now req mode : Int} {c : Cmd} {nc nm ng : Option Bool} {made : List z4j} {gone : List Int} (h : c.small) (hm : z8o made) (h1 : made.length ≤ 1000000) (h2 : gone.length ≤ 1000000) : z8Wa.pre [i64 now, .agg (z2k c nc), i64 req, i64 mode, .sl .plain nm made.length (z8d made), .sl .plain ng gone.length (z3i gone)] = True := eq_true ⟨now, req, mode, c, nc, nm, ng, made, gone, h, hm, h1, h2, rfl⟩
theorem z6la {now req mode : Int} {c : Cmd} {nc nm ng : Option Bool} {made : List z4j} {gone : List Int} (hm : z8o made) (n : Nat) : z8Wa.post [i64 now, .agg (z2k c nc), i64 req, i64 mode, .sl .plain nm made.length (z8d made), .sl .plain ng n (z3i gone)] = .agg (z5k none none none (mkE now c req mode made gone)) := by
 show z2a.agg (z5k none none none (mkE now (z7Ca (z2k c nc)) req mode (z0da made.length (z8d made)) (gIs (z3i gone)))) = _
 rw [z8ea, z8V (z0h hm), z2La]
def z17a : z4a := ⟨fun ds => ∃ t m : Int, ds = [i64 t, i64 m], fun ds => .agg (z5k none none none (z1sa (asI (nth ds 0)) (asI (nth ds 1))))⟩
@[simp] theorem z69c (t m : Int) : z17a.pre [i64 t, i64 m] = True := eq_true ⟨t, m, rfl⟩
@[simp] theorem z48a (t m : Int) : z17a.post [i64 t, i64 m] = .agg (z5k none none none (z1sa t m)) := rfl
/-! ### Entries -/
def z3ob (ds : List z2a) : Prop := ∃ (nc nm ng : Option Bool) (x : z6w), x.small ∧ ds = [.agg (z5k nc nm ng x)]
theorem z2db {nc nm ng : Option Bool} {x : z6w} (h : x.small) : z6Sa (z5k nc nm ng x) = x := z1Ra h.1.2.2.2.2.2.1 (z0h h.1.2.2.2.2.2.2.1)
def z9Ya : z4a := ⟨z3ob, fun ds => bo (okE (z6Sa (gCs (nth ds 0))))⟩
theorem z3Ha {nc nm ng : Option Bool} {x : z6w} (h : x.small) : z9Ya.pre [.agg (z5k nc nm ng x)] = True := eq_true ⟨nc, nm, ng, x, h, rfl⟩
theorem z1ha {nc nm ng : Option Bool} {x : z6w} (h : x.small) : z9Ya.post [.agg (z5k nc nm ng x)] = bo (okE x) := by
 show bo (okE (z6Sa (z5k nc nm ng x))) = _
 rw [z2db h]
def z1ia : z4a := ⟨z3ob, fun ds => st (z08 (z6Sa (gCs (nth ds 0))))⟩
theorem z4ha {nc nm ng : Option Bool} {x : z6w} (h : x.small) : z1ia.pre [.agg (z5k nc nm ng x)] = True := eq_true ⟨nc, nm, ng, x, h, rfl⟩
theorem z2S {nc nm ng : Option Bool} {x : z6w} (h : x.small) : z1ia.post [.agg (z5k nc nm ng x)] = st (z08 x) := by
 show st (z08 (z6Sa (z5k nc nm ng x))) = _
 rw [z2db h]
def z4oa : z4a := ⟨z3ob, fun ds => .agg (bys (z2p 8 [z08 (z6Sa (gCs (nth ds 0)))]))⟩
theorem z2oa {nc nm ng : Option Bool} {x : z6w} (h : x.small) : z4oa.pre [.agg (z5k nc nm ng x)] = True := eq_true ⟨nc, nm, ng, x, h, rfl⟩
theorem z6X {nc nm ng : Option Bool} {x : z6w} (h : x.small) : z4oa.post [.agg (z5k nc nm ng x)] = .agg (bys (z2p 8 [z08 x])) := by
 show z2a.agg (bys (z2p 8 [z08 (z6Sa (z5k nc nm ng x))])) = _
 rw [z2db h]
def z8ha : z4a := ⟨fun ds => ∃ (nc nm ng nc' nm' ng' : Option Bool) (x y : z6w), x.small ∧ y.small ∧ ds = [.agg (z5k nc nm ng x), .agg (z5k nc' nm' ng' y)], fun ds => bo (z2L (z6Sa (gCs (nth ds 0))) (z6Sa (gCs (nth ds 1))))⟩
theorem z88 {nc nm ng nc' nm' ng' : Option Bool} {x y : z6w} (h : x.small) (h' : y.small) : z8ha.pre [.agg (z5k nc nm ng x), .agg (z5k nc' nm' ng' y)] = True := eq_true ⟨nc, nm, ng, nc', nm', ng', x, y, h, h', rfl⟩
theorem z3M {nc nm ng nc' nm' ng' : Option Bool} {x y : z6w} (h : x.small) (h' : y.small) : z8ha.post [.agg (z5k nc nm ng x), .agg (z5k nc' nm' ng' y)] = bo (z2L x y) := by
 show bo (z2L (z6Sa (z5k nc nm ng x)) (z6Sa (z5k nc' nm' ng' y))) = _
 rw [z2db h, z2db h']
/-! ### Views -/
def vOk (v : z0V) : Prop := z8o v.keys ∧ v.keys.length ≤ 1000000 ∧ z3f v.time ∧ (0 ≤ v.ents ∧ v.ents ≤ 1000000) ∧ (0 ≤ v.next ∧ v.next ≤ z0ua)
def z0Yb : z4a := ⟨fun ds => ds = [], fun _ => .agg (z0q none z2bb)⟩
@[simp] theorem z0Zc : z0Yb.pre [] = True := eq_true rfl
@[simp] theorem z8zb (ds : List z2a) : z0Yb.post ds = .agg (z0q none z2bb) := rfl
def appC : z4a := ⟨fun ds => ∃ (nk nc nm ng : Option Bool) (v : z0V) (x : z6w), vOk v ∧ x.small ∧ ds = [.agg (z0q nk v), .agg (z5k nc nm ng x)],
 fun ds => let r := z9Wa (z2eb (gCs (nth ds 0))) (z6Sa (gCs (nth ds 1))); .tup [.agg (z0q none r.v), i64 r.e]⟩
theorem z7Hb {nk nc nm ng : Option Bool} {v : z0V} {x : z6w} (h : vOk v) (hx : x.small) : appC.post [.agg (z0q nk v), .agg (z5k nc nm ng x)] = .tup [.agg (z0q none (z9Wa v x).v), i64 (z9Wa v x).e] := by
 show (let r := z9Wa (z2eb (z0q nk v)) (z6Sa (z5k nc nm ng x)); z2a.tup [.agg (z0q none r.v), i64 r.e]) = _
 rw [z8hb (z0h h.1), z2db hx]
def z04b : z4a := ⟨fun ds => ∃ (nk : Option Bool) (v : z0V) (now : Int), z8o v.keys ∧ v.keys.length ≤ 1000000 ∧ ds = [.agg (z0q nk v), i64 now], fun ds => let l := z10a (z2eb (gCs (nth ds 0))) (asI (nth ds 1)); .sl (.own 24) none l.length (z8d l)⟩
theorem z3pb {nk : Option Bool} {v : z0V} (now : Int) (h : z8o v.keys) (h1 : v.keys.length ≤ 1000000) : z04b.pre [.agg (z0q nk v), i64 now] = True := eq_true ⟨nk, v, now, h, h1, rfl⟩
theorem z0Ia {nk : Option Bool} {v : z0V} (now : Int) (h : z8o v.keys) : z04b.post [.agg (z0q nk v), i64 now] = .sl (.own 24) none (z10a v now).length (z8d (z10a v now)) := by
 show (let l := z10a (z2eb (z0q nk v)) now; z2a.sl (.own 24) none l.length (z8d l)) = _
 rw [z8hb (z0h h)]
end Go.Abs
end

section
namespace Go.Abs
theorem z1s (a x : z2a) (l xs : List z2a) : splice (a :: l) 0 (x :: xs) = x :: splice l 0 xs := by simp [splice]
theorem z3r (l : List z2a) : splice l 0 [] = l := by simp [splice]
theorem z1I {a b : List UInt8} (h : b.length = a.length) (r s : List z2a) : splice (bys a ++ r) 0 (bys b ++ s) = bys b ++ splice r 0 s := by
 have h1 : (bys b).length = (bys a).length := by simpa using h
 simp only [splice, List.take_zero, List.nil_append, Nat.zero_add, List.length_append, h1, ← List.drop_drop, List.drop_left, List.append_assoc]
theorem z54 {a b : List UInt8} (h : b.length = a.length) (r : List z2a) : splice (bys a ++ r) 0 (bys b) = bys b ++ r := by
 have h1 : (bys b).length = (bys a).length := by simpa using h
 simp only [splice, List.take_zero, List.nil_append, Nat.zero_add, h1, List.drop_left]
theorem z6uc {a b : List UInt8} (h : b.length = a.length) : splice (bys a) 0 (bys b) = bys b := by
 have := z54 h []
 simpa using this
theorem z8ib {a : List UInt8} (h : a.length = 16) (r : List z2a) (n : Nat) (xs : List z2a) : splice (bys a ++ r) (16 + n) xs = bys a ++ splice r n xs := by
 rw [z2T (by simp [h])]
 simp [h]
theorem z6ja {a : List UInt8} (h : a.length = 16) (x y z : z2a) : splice (bys a ++ [x, y]) 16 [z] = bys a ++ [z, y] := by
 have := z8ib h [x, y] 0 [z]
 simpa using this
theorem z7ia {a : List UInt8} (h : a.length = 16) (x y z : z2a) : splice (bys a ++ [x, y]) 17 [z] = bys a ++ [x, z] := by
 have := z8ib h [x, y] 1 [z]
 simpa using this
theorem tk_b {d : List UInt8} (h : d.length = 16) (r : List z2a) : (bys d ++ r).take 16 = bys d := by
 rw [List.take_append_of_le_length (by simp [h]), List.take_of_length_le (by simp [h])]
theorem z6ra {d : List UInt8} (h : d.length = 16) (x y : z2a) : (bys d ++ [x, y]).take 18 = bys d ++ [x, y] := List.take_of_length_le (by simp [h])
theorem z0yc {d : List UInt8} (h : d.length = 16) : (bys d).take 16 = bys d := List.take_of_length_le (by simp [h])
theorem z0lb {d : List UInt8} (h : d.length = 16) (r : List z2a) : (bys d ++ r).drop 16 = r := List.drop_left' (by simp [h])
theorem z7Ha {d : List UInt8} (h : d.length = 16) (x y : z2a) : (bys d ++ [x, y]).drop 17 = [y] := by
 rw [show 17 = 16 + 1 by rfl, ← List.drop_drop, z0lb h]; rfl
theorem z7Z (l : List UInt8) : (∀ c ∈ bys l, z1d c) = True := eq_true fun c hc => by
 simp only [bys, List.mem_map] at hc
 obtain ⟨x, _, rfl⟩ := hc
 trivial
theorem z8na (l : List UInt8) : (∀ c ∈ bys l, z3g c = false) = True := eq_true fun c hc => by
 simp only [bys, List.mem_map] at hc
 obtain ⟨x, _, rfl⟩ := hc
 rfl
@[simp] theorem z9ic (l : List z4j) : z5h (z8d l) = true := by
 refine (z8p _).2 fun c hc => ?_
 obtain ⟨m, _, h⟩ := List.mem_flatMap.1 hc
 rcases List.mem_append.1 h with h | h
 ·simp only [List.mem_cons, List.not_mem_nil, or_false] at h
  rcases h with rfl | rfl | rfl | rfl | rfl | rfl | rfl | rfl <;> rfl
 ·simp only [bys, List.mem_map] at h
  obtain ⟨x, _, rfl⟩ := h
  rfl
theorem z28 {m : z4j} : ∀ c ∈ z8u m, z8e c = true ∧ z1d c := by
 intro c hc
 rcases List.mem_append.1 hc with h | h
 ·simp only [List.mem_cons, List.not_mem_nil, or_false] at h
  rcases h with rfl | rfl | rfl | rfl | rfl | rfl | rfl | rfl <;> exact ⟨rfl, trivial⟩
 ·simp only [bys, List.mem_map] at h
  obtain ⟨x, _, rfl⟩ := h
  exact ⟨rfl, trivial⟩
theorem z9Aa {l : List z4j} : ∀ c ∈ z8d l, z8e c = true ∧ z1d c := by
 intro c hc
 obtain ⟨m, _, h⟩ := List.mem_flatMap.1 hc
 exact z28 c h
@[simp] theorem z8oc (nc nm ng : Option Bool) (x : z6w) : z5h (z5k nc nm ng x) = true := by simp [z5k, z2k]
/-! ### an entry's cells, by name -/
@[simp] theorem ent_0 (nc nm ng : Option Bool) (x : z6w) : hdA (z5k nc nm ng x) = i64 x.time := rfl
@[simp] theorem ent_1 (nc nm ng : Option Bool) (x : z6w) : hdA ((z5k nc nm ng x).drop 1) = i64 x.kind := rfl
@[simp] theorem ent_1t (nc nm ng : Option Bool) (x : z6w) : hdA (z5k nc nm ng x).tail = i64 x.kind := rfl
@[simp] theorem ent_2 (nc nm ng : Option Bool) (x : z6w) : hdA ((z5k nc nm ng x).drop 2) = i64 x.req := rfl
@[simp] theorem ent_3 (nc nm ng : Option Bool) (x : z6w) : hdA ((z5k nc nm ng x).drop 3) = i64 x.mode := rfl
@[simp] theorem ent_4 (nc nm ng : Option Bool) (x : z6w) : hdA ((z5k nc nm ng x).drop 4) = i64 x.cmd.kind := rfl
@[simp] theorem ent_5 (nc nm ng : Option Bool) (x : z6w) : hdA ((z5k nc nm ng x).drop 5) = i64 x.cmd.key := rfl
@[simp] theorem ent_10 (nc nm ng : Option Bool) (x : z6w) : hdA ((z5k nc nm ng x).drop 10) = st x.cmd.data := rfl
@[simp] theorem z85c (nc nm ng : Option Bool) (x : z6w) : ((z5k nc nm ng x).drop 4).take 8 = z2k x.cmd nc := rfl
theorem z3hb (nc nm ng : Option Bool) (x : z6w) : (z5k nc nm ng x).drop 12 = bys x.dig ++ [.sl .plain nm x.made.length (z8d x.made), .sl .plain ng x.gone.length (z3i x.gone)] := by
 rw [show z5k nc nm ng x = ([i64 x.time, i64 x.kind, i64 x.req, i64 x.mode] ++ z2k x.cmd nc) ++ (bys x.dig ++ [.sl .plain nm x.made.length (z8d x.made), .sl .plain ng x.gone.length (z3i x.gone)]) by simp [z5k]]
 exact List.drop_left' rfl
theorem z19 {nc nm ng : Option Bool} {x : z6w} (h : x.dig.length = 16) : ((z5k nc nm ng x).drop 12).take 16 = bys x.dig := by rw [z3hb, tk_b h]
theorem z9hb {nc nm ng : Option Bool} {x : z6w} (h : x.dig.length = 16) : (z5k nc nm ng x).drop 28 = [.sl .plain nm x.made.length (z8d x.made), .sl .plain ng x.gone.length (z3i x.gone)] := by
 rw [show 28 = 12 + 16 by rfl, ← List.drop_drop, z3hb, z0lb h]
theorem z9ba {nc nm ng : Option Bool} {x : z6w} (h : x.dig.length = 16) : hdA ((z5k nc nm ng x).drop 28) = .sl .plain nm x.made.length (z8d x.made) := by rw [z9hb h]; rfl
theorem z1fa {nc nm ng : Option Bool} {x : z6w} (h : x.dig.length = 16) : hdA ((z5k nc nm ng x).drop 29) = .sl .plain ng x.gone.length (z3i x.gone) := by
 rw [show 29 = 28 + 1 by rfl, ← List.drop_drop, z9hb h]; rfl
theorem z5m {nc nm ng : Option Bool} {x : z6w} (h : x.dig.length = 16) : (z5k nc nm ng x).take 30 = z5k nc nm ng x := List.take_of_length_le (by rw [z9c h]; exact Nat.le_refl _)
theorem z6gb {nc nm ng : Option Bool} {x : z6w} : ∀ c ∈ z5k nc nm ng x, z1d c ∧ z3g c = false := by
 intro c hc
 simp only [z5k, z2k, List.mem_append, List.mem_cons, List.not_mem_nil, or_false, bys, List.mem_map] at hc
 rcases hc with (((h | h | h | h) | (h | h | h | h | h | h | h | h)) | ⟨u, _, h⟩) | (h | h) <;> subst h <;> exact ⟨trivial, rfl⟩
@[simp] theorem z2Sc (nc nm ng : Option Bool) (x : z6w) : (∀ c ∈ z5k nc nm ng x, z1d c) = True := eq_true fun c hc => (z6gb c hc).1
@[simp] theorem z86c (nc nm ng : Option Bool) (x : z6w) : (∀ c ∈ z5k nc nm ng x, z3g c = false) = True := eq_true fun c hc => (z6gb c hc).2
@[simp] theorem z8lc (l : List z4j) : z4k (z8d l) = [] := by
 induction l with
 | nil => rfl
 | cons a l ih =>
  rw [z8d] at ih ⊢
  rw [List.flatMap_cons, z9ca, ih]
  simp [z8u, z4k]
@[simp] theorem z6xc (nc nm ng : Option Bool) (x : z6w) : z4k (z5k nc nm ng x) = [] := by simp [z5k, z2k, z4k]
theorem z1j {nc nm ng : Option Bool} {x : z6w} (h : x.dig.length = 16) {zs : List z2a} (hz : zs.length = 30) : splice zs 0 (z5k nc nm ng x) = z5k nc nm ng x := z0f (by rw [z9c h, hz])
@[simp] theorem z8Uc : z6Tb.length = 16 := rfl
end Go.Abs
end

section
namespace Go.Abs
set_option maxRecDepth 100000
theorem z5Gc (E : Env) : ∀ ds, z1Lb.pre ds → ds.length = z7k.n ∧ awp E z7k.body (z9t z7k.res (z1Lb.post ds)) (z6c z7k.wr ds) := by
 rintro _ ⟨n, lo, hi, rfl⟩
 rw [z4wa]
 by_cases h1 : lo ≤ n
 ·by_cases h2 : n ≤ hi
  ·simp (maxSteps := 1000000) (disch := first | omega | (simp; done) | (simp; omega)) [z7a, z1a, z0a, z7k, inR, h1, h2]
  ·simp (maxSteps := 1000000) (disch := first | omega | (simp; done) | (simp; omega)) [z7a, z1a, z0a, z7k, inR, h1, h2]
 ·simp (maxSteps := 1000000) (disch := first | omega | (simp; done) | (simp; omega)) [z7a, z1a, z0a, z7k, inR, h1]
/-! ### a number in a list -/
def z6Cb (l : List Int) (x : Int) : Nat := l.findIdx fun y => decide (y = x)
def z2Pb (l : List Int) (x : Int) : Int := if z6Cb l x < l.length then (z6Cb l x : Int) else -1
def z2Ka : z4a := ⟨fun ds => ∃ (nl : Option Bool) (l : List Int) (x : Int), l.length ≤ 1000000000 ∧ ds = [.sl .plain nl l.length (z3i l), i64 x], fun ds => i64 (z2Pb (gIs (gCs (nth ds 0))) (asI (nth ds 1)))⟩
theorem z16a {nl : Option Bool} {n : Nat} {l : List Int} {x : Int} (h : l.length ≤ 1000000000) (hn : n = l.length) : z2Ka.pre [.sl .plain nl n (z3i l), i64 x] = True := eq_true ⟨nl, l, x, h, by rw [hn]⟩
theorem z6Ua (nl : Option Bool) (n : Nat) (l : List Int) (x : Int) : z2Ka.post [.sl .plain nl n (z3i l), i64 x] = i64 (z2Pb l x) := by simp [z2Ka, nth]
theorem z42b {l : List Int} {x : Int} {i : Nat} (hi : i < l.length) (h0 : ∀ j < i, atI l j ≠ x) (h : atI l i = x) : z6Cb l x = i := by
 have ha : ∀ j (hj : j < l.length), atI l j = l[j] := fun j hj => by simp [atI, List.getD, List.getElem?_eq_getElem hj]
 apply Nat.le_antisymm
 ·apply Nat.le_of_not_lt
  intro hlt
  have := List.not_of_lt_findIdx (p := fun y => decide (y = x)) (xs := l) hlt
  rw [ha i hi] at h
  simp [h] at this
 ·apply Nat.le_of_not_lt
  intro hlt
  have hl : z6Cb l x < l.length := by omega
  have h1 : decide (l[z6Cb l x] = x) = true := List.findIdx_getElem (p := fun y => decide (y = x)) (xs := l) (w := hl)
  exact h0 _ hlt (by rw [ha _ hl]; exact of_decide_eq_true h1)
theorem z3Xb {l : List Int} {x : Int} (h0 : ∀ j < l.length, atI l j ≠ x) : z6Cb l x = l.length := by
 apply Nat.le_antisymm (List.findIdx_le_length)
 apply Nat.le_of_not_lt
 intro hl
 have h1 : decide (l[z6Cb l x] = x) = true := List.findIdx_getElem (p := fun y => decide (y = x)) (xs := l) (w := hl)
 exact h0 _ hl (by simp only [atI, List.getD, List.getElem?_eq_getElem hl]; exact of_decide_eq_true h1)
theorem z1Yb (E : Env) : ∀ ds, z2Ka.pre ds → ds.length = z3n.n ∧ awp E z3n.body (z9t z3n.res (z2Ka.post ds)) (z6c z3n.wr ds) := by
 rintro _ ⟨nl, l, x, hl, rfl⟩
 rw [z6Ua]
 simp (maxSteps := 1000000) (disch := first | omega | (simp; done) | (simp; omega)) [z7a, z1a, z0a, z3n]
 refine z3a fun Q0 hQ0 => ?_
 refine z3d (fun i : Nat => ⟨[(0, .sl .plain nl l.length (z3i l)), (1, i64 x)], [(7, i64 l.length), (8, i64 i)], []⟩)
  (fun i => l.length - i) (fun i => i ≤ l.length ∧ ∀ j < i, atI l j ≠ x) 0 (by simp) (by simp) fun i hi => ?_
 obtain ⟨hi, he⟩ := hi
 refine z3a fun Q1 hQ1 => ?_
 by_cases h1 : i < l.length
 ·by_cases h2 : x = atI l i
  ·have hp := z42b h1 he h2.symm
   have hR : z2Pb l x = (i : Int) := by rw [z2Pb, hp, if_pos h1]
   simp (maxSteps := 1000000) (disch := first | omega | (simp; done) | (simp; omega)) [z7a, z1a, z0a, z8z, z9Q, kT, kF, dT, dF, z03, h1, h2, hQ1, hQ0]
   exact ⟨by omega, by rw [← h2, hR]⟩
  ·simp (maxSteps := 1000000) (disch := first | omega | (simp; done) | (simp; omega)) [z7a, z1a, z0a, z8z, z9Q, kT, kF, dT, dF, z03, h1, h2, hQ1]
   refine ⟨by omega, i + 1, by omega, ⟨by omega, fun j hj => ?_⟩, by omega⟩
   ·rcases Nat.lt_or_eq_of_le (Nat.lt_succ_iff.1 hj) with h | h
    ·exact he j h
    ·rw [h]; exact fun e => h2 e.symm
 ·have hl' : i = l.length := by omega
  have hp := z3Xb (l := l) (x := x) (fun j hj => he j (by omega))
  have hR : z2Pb l x = -1 := by rw [z2Pb, hp, if_neg (by omega)]
  simp (maxSteps := 1000000) (disch := first | omega | (simp; done) | (simp; omega)) [z7a, z1a, z0a, z8z, kT, kF, dT, dF, h1, hQ1, hQ0, z07, hR]
def z6Da : z4a := ⟨z2Ka.pre, fun ds => bo (decide (asI (nth ds 1) ∈ gIs (gCs (nth ds 0))))⟩
theorem z9Cb {nl : Option Bool} {n : Nat} {l : List Int} {x : Int} (h : l.length ≤ 1000000000) (hn : n = l.length) : z6Da.pre [.sl .plain nl n (z3i l), i64 x] = True := z16a h hn
theorem z9Va (nl : Option Bool) (n : Nat) (l : List Int) (x : Int) : z6Da.post [.sl .plain nl n (z3i l), i64 x] = bo (decide (x ∈ l)) := by simp [z6Da, nth]
theorem z7zb (l : List Int) (x : Int) : decide (0 ≤ z2Pb l x) = decide (x ∈ l) := by
 have : z6Cb l x < l.length ↔ x ∈ l := by
  rw [z6Cb, List.findIdx_lt_length]
  simp
 unfold z2Pb
 by_cases h : x ∈ l
 ·rw [if_pos (this.2 h)]; simp [h]
 ·rw [if_neg (fun e => h (this.1 e))]; simp [h]
theorem z51b (E : Env) (h314 : E.G 314 = z2Ka) : ∀ ds, z6Da.pre ds → ds.length = z5j.n ∧ awp E z5j.body (z9t z5j.res (z6Da.post ds)) (z6c z5j.wr ds) := by
 rintro _ ⟨nl, l, x, hl, rfl⟩
 rw [z9Va, ← z7zb]
 simp (maxSteps := 1000000) (disch := first | omega | (simp; done) | (simp; omega)) [z7a, z1a, z0a, z5j, h314, z16a, z6Ua]
theorem z9sc (E : Env) (h312 : E.G 312 = z6Da) : ∀ ds, z0Ob.pre ds → ds.length = z6n.n ∧ awp E z6n.body (z9t z6n.res (z0Ob.post ds)) (z6c z6n.wr ds) := by
 rintro _ ⟨k, rfl⟩
 rw [z9Bb]
 have hp : z6Da.pre [.sl .plain (some false) 8 [i64 2, i64 4, i64 5, i64 6, i64 8, i64 10, i64 15, i64 19], i64 k] = True := z9Cb (l := [2, 4, 5, 6, 8, 10, 15, 19]) (by simp) rfl
 have hq : z6Da.post [.sl .plain (some false) 8 [i64 2, i64 4, i64 5, i64 6, i64 8, i64 10, i64 15, i64 19], i64 k] = bo (z7La k) := z9Va (some false) 8 [2, 4, 5, 6, 8, 10, 15, 19] k
 simp (maxSteps := 1000000) (disch := first | omega | (simp; done) | (simp; omega)) [z7a, z1a, z0a, z6n, h312, hp, hq]
/-! ### copies -/
def z1ua : z4a := ⟨fun ds => ∃ (nl : Option Bool) (l : List Int), l.length ≤ 1000000000 ∧ ds = [.sl .plain nl l.length (z3i l)], fun ds => .sl (.own 1) none (gNn (nth ds 0)) (z3i (gIs (gCs (nth ds 0))))⟩
theorem z0Ha {nl : Option Bool} {n : Nat} {l : List Int} (h : l.length ≤ 1000000000) (hn : n = l.length) : z1ua.pre [.sl .plain nl n (z3i l)] = True := eq_true ⟨nl, l, h, by rw [hn]⟩
theorem z2pa (nl : Option Bool) (n : Nat) (l : List Int) : z1ua.post [.sl .plain nl n (z3i l)] = .sl (.own 1) none n (z3i l) := by
 show z2a.sl (.own 1) none n (z3i (gIs (z3i l))) = _
 rw [z2La]
def z7Mb : z4a := ⟨fun ds => z1ua.pre ds ∧ ∀ d, ds[0]? = some d → z8Ia d, z1ua.post⟩
theorem z4Wb (E : Env) : ∀ ds, z7Mb.pre ds → ds.length = z1h.n ∧ awp E z1h.body (z9t z1h.res (z7Mb.post ds)) (z6c z1h.wr ds) := by
 rintro _ ⟨⟨nl, l, hn, rfl⟩, hk⟩
 have hk := hk _ rfl
 rw [show z7Mb.post [.sl .plain nl l.length (z3i l)] = .sl (.own 1) none l.length (z3i l) from z2pa nl _ l]
 match nl, hk with
 | some true, hk =>
  have h0 : l = [] := List.length_eq_zero_iff.1 hk.1
  subst h0
  simp (maxSteps := 1000000) (disch := first | omega | (simp; done) | (simp; omega)) [z7a, z1a, z0a, z1h, kT]
 | some false, _ =>
  simp (maxSteps := 1000000) (disch := first | omega | (simp; done) | (simp; omega)) [z7a, z1a, z0a, z1h, z3T, kF]
  exact ⟨by omega, by omega⟩
theorem z7Bb : ∀ ds d b, z1ua.pre ds → ds[0]? = some d → z1ua.pre (ds.set 0 (z6Na b d)) ∧ z1ua.post (ds.set 0 (z6Na b d)) = z1ua.post ds := by
 rintro _ d b ⟨nl, l, hn, rfl⟩ hd
 simp only [List.getElem?_cons_zero, Option.some.injEq] at hd
 subst hd
 cases nl with
 | none => exact ⟨⟨some b, l, hn, rfl⟩, rfl⟩
 | some c => exact ⟨⟨some c, l, hn, rfl⟩, rfl⟩
def z4ta : z4a := ⟨fun ds => ∃ (nl : Option Bool) (l : List z4j), (z8o l ∧ l.length ≤ 1000000) ∧ ds = [.sl .plain nl l.length (z8d l)], fun ds => .sl (.own 24) none (gNn (nth ds 0)) (z8d (z0da (gNn (nth ds 0)) (gCs (nth ds 0))))⟩
theorem z54a {nl : Option Bool} {l : List z4j} (h : z8o l) (h1 : l.length ≤ 1000000) : z4ta.pre [.sl .plain nl l.length (z8d l)] = True := eq_true ⟨nl, l, ⟨h, h1⟩, rfl⟩
theorem z5ya {nl : Option Bool} {l : List z4j} (h : z8o l) : z4ta.post [.sl .plain nl l.length (z8d l)] = .sl (.own 24) none l.length (z8d l) := by
 show z2a.sl (.own 24) none l.length (z8d (z0da l.length (z8d l))) = _
 rw [z8V (z0h h)]
def z0Fb : z4a := ⟨fun ds => z4ta.pre ds ∧ ∀ d, ds[0]? = some d → z8Ia d, z4ta.post⟩
set_option maxHeartbeats 4000000 in
theorem z67b (E : Env) : ∀ ds, z0Fb.pre ds → ds.length = z2g.n ∧ awp E z2g.body (z9t z2g.res (z0Fb.post ds)) (z6c z2g.wr ds) := by
 rintro _ ⟨⟨nl, l, ⟨h16, hn⟩, rfl⟩, hk⟩
 have hk := hk _ rfl
 rw [show z0Fb.post [.sl .plain nl l.length (z8d l)] = .sl (.own 24) none l.length (z8d l) from z5ya h16]
 match nl, hk with
 | some true, hk =>
  have h0 : l = [] := List.length_eq_zero_iff.1 hk.1
  subst h0
  simp (maxSteps := 1000000) (disch := first | omega | (simp; done) | (simp; omega)) [z7a, z1a, z0a, z2g, kT]
  rfl
 | some false, _ =>
  have hlen := z6p (z0h h16)
  simp (maxSteps := 1000000) (disch := first | omega | (simp; done) | (simp; omega)) [z7a, z1a, z0a, z2g, z0N, kF, hlen]
  exact ⟨by omega, by omega, z9Aa⟩
theorem z4Ib : ∀ ds d b, z4ta.pre ds → ds[0]? = some d → z4ta.pre (ds.set 0 (z6Na b d)) ∧ z4ta.post (ds.set 0 (z6Na b d)) = z4ta.post ds := by
 rintro _ d b ⟨nl, l, hn, rfl⟩ hd
 simp only [List.getElem?_cons_zero, Option.some.injEq] at hd
 subst hd
 cases nl with
 | none => exact ⟨⟨some b, l, hn, rfl⟩, rfl⟩
 | some c => exact ⟨⟨some c, l, hn, rfl⟩, rfl⟩
/-! ### commands without what is secret -/
theorem z4ga {c : Cmd} (h : c.small) : (z4la c).small := by
 unfold z4la
 split
 ·exact ⟨h.1, by simp, h.2.2⟩
 ·exact h
theorem z0Fc (E : Env) (h293 : E.G 293 = z0Ob) (h291 : E.G 291 = z1ua) : ∀ ds, z5ka.pre ds → ds.length = z0n.n ∧ awp E z0n.body (z9t z0n.res (z5ka.post ds)) (z6c z0n.wr ds) := by
 rintro _ ⟨c, nl, hc, rfl⟩
 rw [z0pa]
 obtain ⟨k1, k2, k3, k4, k5, k6, dt, ls⟩ := c
 have hl := hc.2.2
 simp only at hl
 by_cases hs : z7La k1 = true
 ·simp (maxSteps := 1000000) (disch := first | omega | (simp; done) | (simp; omega)) [z7a, z1a, z0a, z0n, z3U, z2k, h293, h291, kT, hs, z0Ha, z2pa, z4la, z1s, z3r]
 ·simp only [Bool.not_eq_true] at hs
  simp (maxSteps := 1000000) (disch := first | omega | (simp; done) | (simp; omega)) [z7a, z1a, z0a, z0n, z3U, z2k, h293, h291, kF, hs, z0Ha, z2pa, z4la, z1s, z3r]
theorem z7Bc (E : Env) : ∀ ds, z17a.pre ds → ds.length = z9s.n ∧ awp E z9s.body (z9t z9s.res (z17a.post ds)) (z6c z9s.wr ds) := by
 rintro _ ⟨t, m, rfl⟩
 rw [z48a]
 simp (maxSteps := 1000000) (disch := first | omega | (simp; done) | (simp; omega)) [z7a, z1a, z0a, z9s, z5k, z1sa, z9y, z2k, z1s, z3r, z1I (a := z2c 16) (b := z2c 16) rfl, z6ra (d := z2c 16) rfl, or_imp, forall_and, z7Z, z8na]
 rfl
theorem z6sc (E : Env) : ∀ ds, z0Yb.pre ds → ds.length = z2s.n ∧ awp E z2s.body (z9t z2s.res (z0Yb.post ds)) (z6c z2s.wr ds) := by
 rintro _ rfl
 rw [z8zb]
 simp (maxSteps := 1000000) (disch := first | omega | (simp; done) | (simp; omega)) [z7a, z1a, z0a, z2s, z0q, z2bb, z1s, z3r, z8d]
theorem z1tc (E : Env) (h289 : E.G 289 = z5ka) (h131 : E.G 131 = z2ia) (h290 : E.G 290 = z4ta) (h291 : E.G 291 = z1ua) : ∀ ds, z8Wa.pre ds → ds.length = z3s.n ∧ awp E z3s.body (z9t z3s.res (z8Wa.post ds)) (z6c z3s.wr ds) := by
 rintro _ ⟨now, req, mode, c, nc, nm, ng, made, gone, hc, hm, h1, h2, rfl⟩
 unfold z2Wb
 rw [z6la hm]
 have e1 : ∀ nl, z5ka.pre [.agg (z2k c nl)] = True := fun nl => z4xa hc
 have hd : (z2p 7 [z3P c]).length = 16 := z8m _ _
 have hp := z4xa (nl := nc) hc
 have hq := z0pa c nc
 have hp' := z3Ma (nl := nc) hc
 have hq' := z7ca c nc
 have hk : (z4la c).kind = c.kind := by unfold z4la; split <;> rfl
 generalize hD : z2p 7 [z3P c] = D at *
 generalize hC : z4la c = c' at *
 obtain ⟨k1, k2, k3, k4, k5, k6, dt, ls⟩ := c
 obtain ⟨j1, j2, j3, j4, j5, j6, dt', ls'⟩ := c'
 simp only [z2k] at hp hq hp' hq' hk
 simp (maxSteps := 1000000) (disch := first | omega | (simp; done) | (simp; omega)) [z7a, z1a, z0a, z3s, h289, h131, h290, h291, z2k, hp, hq, hp', hq', z54a hm h1, z5ya hm, z0Ha, z2pa, z1s, z3r, z1I (a := z2c 16) (b := D) hd, z54 (a := z2c 16) (b := D) hd, z6ja (a := D) hd, z7ia (a := D) hd, z6ra hd, hd, or_imp, forall_and, z7Z, z8na]
 subst hk
 simp [z5k, mkE, hC, hD, z2k]
end Go.Abs
end

section
namespace Go.Abs
set_option maxRecDepth 100000
def atD (l : List z4j) (i : Nat) : z4j := l.getD i z9ad
theorem z2ka {l : List z4j} {i : Nat} (h : i < l.length) : atD l i = l[i] := by simp [atD, List.getD, List.getElem?_eq_getElem h]
theorem z7qa {l : List z4j} {i : Nat} (h : i < l.length) : atD l i ∈ l := by rw [z2ka h]; exact List.getElem_mem h
theorem z6Oa {l : List z4j} (h : z8o l) {i : Nat} (hi : i < l.length) : ((z8d l).drop (i * 24)).take 24 = z8u (atD l i) := by
 have e1 := z7va (enc := z8u) (P := z4Sa) (w := 24) (fun a ha => z9p ha) l i (z0h h)
 have hd := z0h h _ (List.getElem_mem hi)
 rw [show z8d l = l.flatMap z8u from rfl, e1, List.drop_eq_getElem_cons hi, List.flatMap_cons, List.take_left' (z9p hd), z2ka hi]
/-! ### a key's cells, by name -/
@[simp] theorem mad_0 (m : z4j) : hdA (z8u m) = i64 m.id := rfl
@[simp] theorem mad_1 (m : z4j) : hdA ((z8u m).drop 1) = i64 m.ty := rfl
@[simp] theorem mad_1t (m : z4j) : hdA (z8u m).tail = i64 m.ty := rfl
@[simp] theorem mad_2 (m : z4j) : hdA ((z8u m).drop 2) = i64 m.uses := rfl
@[simp] theorem mad_3 (m : z4j) : hdA ((z8u m).drop 3) = i64 m.beg := rfl
@[simp] theorem mad_4 (m : z4j) : hdA ((z8u m).drop 4) = i64 m.fin := rfl
@[simp] theorem mad_5 (m : z4j) : hdA ((z8u m).drop 5) = i64 m.ver := rfl
@[simp] theorem mad_6 (m : z4j) : hdA ((z8u m).drop 6) = i64 m.par := rfl
@[simp] theorem mad_7 (m : z4j) : hdA ((z8u m).drop 7) = bo m.raw := rfl
@[simp] theorem mad_8 (m : z4j) : (z8u m).drop 8 = bys m.dig := rfl
theorem z5L (m : z4j) : (∀ c ∈ z8u m, z1d c) = True := eq_true fun c hc => (z28 c hc).2
theorem z9Y (m : z4j) : (∀ c ∈ z8u m, z3g c = false) = True := eq_true fun c hc => by
 rcases List.mem_append.1 hc with h | h
 ·simp only [List.mem_cons, List.not_mem_nil, or_false] at h
  rcases h with rfl | rfl | rfl | rfl | rfl | rfl | rfl | rfl <;> rfl
 ·simp only [bys, List.mem_map] at h
  obtain ⟨x, _, rfl⟩ := h
  rfl
theorem z2Sa {m : z4j} (h : m.dig.length = 16) : (z8u m).take 24 = z8u m := List.take_of_length_le (by rw [z9p h]; exact Nat.le_refl _)
theorem z0ra {m : z4j} (h : m.dig.length = 16) {zs : List z2a} (hz : zs.length = 24) : splice zs 0 (z8u m) = z8u m := z0f (by rw [z9p h, hz])
@[simp] theorem z1Xc (m : z4j) : z5h (z8u m) = true := (z8p _).2 fun c hc => (z28 c hc).1
@[simp] theorem z5Oc (m : z4j) : z4k (z8u m) = [] := by simp [z8u, z4k]
theorem z7qb {l : List z4j} {p : z4j → Bool} {i : Nat} (h : i < l.length) : (l.take (i + 1)).filter p = (l.take i).filter p ++ (if p (atD l i) then [atD l i] else []) := by
 rw [List.take_succ_eq_append_getElem h, List.filter_append, z2ka h]
 congr 1
 cases hp : p l[i] <;> simp [List.filter, hp]
theorem z18a (a b : List z4j) : z8d (a ++ b) = z8d a ++ z8d b := by simp [z8d]
theorem z86a (m : z4j) : z8d [m] = z8u m := by simp [z8d]
set_option maxHeartbeats 8000000 in
theorem z9vc (E : Env) : ∀ ds, z04b.pre ds → ds.length = z7s.n ∧ awp E z7s.body (z9t z7s.res (z04b.post ds)) (z6c z7s.wr ds) := by
 rintro _ ⟨nk, v, now, h16, hl, rfl⟩
 rw [z0Ia now h16]
 have hlen := z6p (z0h h16)
 obtain ⟨t, m, e, n, ks⟩ := v
 simp only at h16 hl hlen
 simp only [z10a]
 simp (maxSteps := 1000000) (disch := first | omega | (simp; done) | (simp; omega)) [z7a, z1a, z0a, z7s, z0q]
 refine z3a fun Q0 hQ0 => ?_
 refine z3d (fun i : Nat => ⟨[(0, .agg [i64 t, i64 m, i64 e, i64 n, .sl .plain nk ks.length (z8d ks)]), (1, i64 now)], [(4, .sl (.own 24) none ((ks.take i).filter fun m => z7ta m now).length (z8d ((ks.take i).filter fun m => z7ta m now))), (8, .sl .plain nk ks.length (z8d ks)), (9, i64 ks.length), (10, i64 i)], [(2, some [i64 t, i64 m, i64 e, i64 n, .sl .plain nk ks.length (z8d ks)])]⟩)
  (fun i => ks.length - i) (fun i => i ≤ ks.length) 0 (by simp [z8d]) (by simp) fun i hi => ?_
 refine z3a fun Q1 hQ1 => ?_
 by_cases h1 : i < ks.length
 ·have hm := h16 _ (z7qa h1)
  have hd := hm.2.2.2.2.2.2.2
  have ha := z6Oa h16 h1
  have hml := z9p hd
  have hf := z7qb (p := fun m => z7ta m now) h1
  have hle : 24 ≤ ks.length * 24 - i * 24 := by omega
  have hle2 : i * 24 ≤ ks.length * 24 := by omega
  have hFl : ((ks.take i).filter fun m => z7ta m now).length ≤ i := Nat.le_trans (List.length_filter_le _ _) (by rw [List.length_take]; omega)
  generalize hX : atD ks i = x at *
  generalize hF : (ks.take i).filter (fun m => z7ta m now) = F at *
  have sp : splice (i64 0 :: i64 0 :: i64 0 :: i64 0 :: i64 0 :: i64 0 :: i64 0 :: bo false :: bys (z2c 16)) 0 (z8u x) = z8u x := z0ra hd rfl
  have sp' : splice [i64 0, i64 0, i64 0, i64 0, i64 0, i64 0, i64 0, bo false, u8 0, u8 0, u8 0, u8 0, u8 0, u8 0, u8 0, u8 0, u8 0, u8 0, u8 0, u8 0, u8 0, u8 0, u8 0, u8 0] 0 (z8u x) = z8u x := z0ra hd rfl
  by_cases h2 : x.beg ≤ now
  ·by_cases h3 : now < x.fin
   ·have hz : z7ta x now = true := by simp [z7ta, h2, h3]
    rw [hz] at hf
    simp only [if_true] at hf
    simp (maxSteps := 1000000) (disch := first | omega | (simp; done) | (simp; omega)) [z7a, z1a, z0a, z1z, z8L, kT, kF, dT, dF, h1, ha, hlen, hle, hle2, hml, z5L, z9Y, z2Sa hd, sp, sp', h2, h3, hQ1]
    exact ⟨⟨by omega, by omega, fun c hc => z28 c hc⟩, i + 1, by omega, by omega, ⟨by rw [hf]; simp, by rw [hf, z18a, z86a]⟩, by omega⟩
   ·have hz : z7ta x now = false := by simp [z7ta, h3]
    rw [hz] at hf
    simp only [Bool.false_eq_true, if_false, List.append_nil] at hf
    simp (maxSteps := 1000000) (disch := first | omega | (simp; done) | (simp; omega)) [z7a, z1a, z0a, z1z, z8L, kT, kF, dT, dF, h1, ha, hlen, hle, hle2, hml, z5L, z9Y, z2Sa hd, sp, sp', h2, h3, hQ1]
    exact ⟨i + 1, by omega, by omega, ⟨by rw [hf], by rw [hf]⟩, by omega⟩
  ·have hz : z7ta x now = false := by simp [z7ta, h2]
   rw [hz] at hf
   simp only [Bool.false_eq_true, if_false, List.append_nil] at hf
   simp (maxSteps := 1000000) (disch := first | omega | (simp; done) | (simp; omega)) [z7a, z1a, z0a, z1z, z8L, kT, kF, dT, dF, h1, ha, hlen, hle, hle2, hml, z5L, z9Y, z2Sa hd, sp, sp', h2, hQ1]
   exact ⟨i + 1, by omega, by omega, ⟨by rw [hf], by rw [hf]⟩, by omega⟩
 ·obtain rfl : i = ks.length := by omega
  simp (maxSteps := 1000000) (disch := first | omega | (simp; done) | (simp; omega)) [z7a, z1a, z0a, z1z, kT, kF, dT, dF, hQ1, hQ0, z3da, List.take_length]
end Go.Abs
end

section
namespace Go.Abs
theorem z0pb (v : BitVec 64) : IntKind.i64.wrap (v.toNat : Int) = v.toInt := by
 have h := v.isLt
 rw [BitVec.toInt_eq_toNat_cond]
 show (let m := (v.toNat : Int) % 2 ^ 64; if true && decide (2 ^ (64 - 1) ≤ m) then m - 2 ^ 64 else m) = _
 simp only [Bool.true_and, decide_eq_true_eq, show (2 : Int) ^ (64 - 1) = 9223372036854775808 from rfl, show (2 : Int) ^ 64 = 18446744073709551616 from rfl, show (2 : Nat) ^ 64 = 18446744073709551616 from rfl]
 have h : v.toNat < 18446744073709551616 := h
 split <;> split <;> omega
theorem z6Ta {n : Int} (h : z3f n) : (BitVec.ofInt 64 n).toInt = n := by
 obtain ⟨h1, h2⟩ := h
 rw [BitVec.toInt_ofInt]
 rw [Int.bmod_def]
 split <;> omega
theorem z8Fc (x c : BitVec 64) : x &&& ~~~c = 0#64 ↔ x &&& c = x := by
 constructor
 ·intro h
  apply BitVec.eq_of_getLsbD_eq
  intro i hi
  have := congrArg (fun v => v.getLsbD i) h
  simp [hi] at this ⊢
  exact this
 ·intro h
  apply BitVec.eq_of_getLsbD_eq
  intro i hi
  have := congrArg (fun v => v.getLsbD i) h
  simp [hi] at this ⊢
  exact this
theorem z8mb {n : Int} (h : z3f n) : z9ta n = (z1Nb n 956 == n) := by
 have e1 : z7Ka n 956 = (BitVec.ofInt 64 n &&& ~~~ BitVec.ofInt 64 956).toInt := z0pb _
 have e2 : z1Nb n 956 = (BitVec.ofInt 64 n &&& BitVec.ofInt 64 956).toInt := z0pb _
 rw [Bool.eq_iff_iff, z9ta, beq_iff_eq, beq_iff_eq, e1, e2]
 have z : (0 : Int) = (0#64 : BitVec 64).toInt := by decide
 rw [z, BitVec.toInt_inj, z8Fc]
 constructor
 ·intro e; rw [e, z6Ta h]
 ·intro e
  have := (BitVec.toInt_inj (x := BitVec.ofInt 64 n &&& BitVec.ofInt 64 956) (y := BitVec.ofInt 64 n)).1 (by rw [e, z6Ta h])
  exact this
end Go.Abs
end

section
namespace Go.Abs
def M32 : Nat := 4294967296
def rx (y n : Nat) : Nat := Nat.shiftRight y n
def dbl (x : Nat) : Nat := Nat.mul 4294967297 x
theorem z7la (x : UInt32) {n : Nat} (hn : n ≤ 32) : (z0Z x n).toNat = rx (dbl x.toNat) n % 2 ^ 32 := by
 have hx := x.toNat_lt
 have e1 : (z0Z x n).toNat = (x.toNat >>> n) ||| ((x.toNat <<< (32 - n)) % 2 ^ 32) := by
  rw [z0Z, UInt32.toNat_or]
  show (x.toBitVec >>> n).toNat ||| (x.toBitVec <<< (32 - n)).toNat = _
  rw [BitVec.toNat_ushiftRight, BitVec.toNat_shiftLeft]
  rfl
 have e2 : rx (dbl x.toNat) n = (2 ^ 32 * x.toNat + x.toNat) >>> n := by
  show (4294967297 * x.toNat) >>> n = _
  congr 1
  omega
 rw [e1, e2]
 apply Nat.eq_of_testBit_eq
 intro i
 rw [Nat.testBit_or, Nat.testBit_shiftRight, Nat.testBit_mod_two_pow, Nat.testBit_shiftLeft, Nat.testBit_mod_two_pow, Nat.testBit_shiftRight, Nat.testBit_two_pow_mul_add _ hx]
 by_cases hi : i < 32
 ·by_cases h : n + i < 32
  ·have h0 : ¬ 32 - n ≤ i := by omega
   simp [hi, h, h0]
  ·have h0 : 32 - n ≤ i := by omega
   have hf : x.toNat.testBit (n + i) = false := Nat.testBit_lt_two_pow (Nat.lt_of_lt_of_le hx (Nat.pow_le_pow_right (by decide) (by omega)))
   simp [hi, h, h0, hf]
   congr 1
   omega
 ·have hf : x.toNat.testBit (n + i) = false := Nat.testBit_lt_two_pow (Nat.lt_of_lt_of_le hx (Nat.pow_le_pow_right (by decide) (by omega)))
  simp [hi, hf]
def xo3 (y i j k : Nat) : Nat := Nat.mod (Nat.xor (Nat.xor (rx y i) (rx y j)) (rx y k)) M32
theorem z9Ub (x : UInt32) {i j k : Nat} (hi : i ≤ 32) (hj : j ≤ 32) (hk : k ≤ 32) : (z0Z x i ^^^ z0Z x j ^^^ z0Z x k).toNat = xo3 (dbl x.toNat) i j k := by
 rw [UInt32.toNat_xor, UInt32.toNat_xor, z7la x hi, z7la x hj, z7la x hk]
 show _ = ((rx (dbl x.toNat) i ^^^ rx (dbl x.toNat) j) ^^^ rx (dbl x.toNat) k) % 2 ^ 32
 rw [Nat.xor_mod_two_pow, Nat.xor_mod_two_pow]
def xo2 (x y i j k : Nat) : Nat := Nat.xor (Nat.mod (Nat.xor (rx y i) (rx y j)) M32) (Nat.shiftRight x k)
theorem z6Qb (x : UInt32) {i j : Nat} (k : Nat) (hi : i ≤ 32) (hj : j ≤ 32) : (z0Z x i ^^^ z0Z x j ^^^ z9Ma x k).toNat = xo2 x.toNat (dbl x.toNat) i j k := by
 rw [UInt32.toNat_xor, UInt32.toNat_xor, z7la x hi, z7la x hj]
 show _ = ((rx (dbl x.toNat) i ^^^ rx (dbl x.toNat) j) % 2 ^ 32) ^^^ (x.toNat >>> k)
 rw [Nat.xor_mod_two_pow]
 rfl
structure N8 where
 a : Nat
 b : Nat
 c : Nat
 d : Nat
 e : Nat
 f : Nat
 g : Nat
 h : Nat
def toN (s : H8) : N8 := ⟨s.a.toNat, s.b.toNat, s.c.toNat, s.d.toNat, s.e.toNat, s.f.toNat, s.g.toNat, s.h.toNat⟩
def z1Wc (k w : Nat) (s : N8) : N8 :=
 (fun x y => N8.mk (Nat.mod (Nat.add x y) M32) s.a s.b s.c (Nat.mod (Nat.add s.d x) M32) s.e s.f s.g)
  (Nat.add (Nat.add (Nat.add (Nat.add s.h (xo3 (dbl s.e) 6 11 25)) (Nat.xor (Nat.land s.e s.f) (Nat.land (Nat.sub 4294967295 s.e) s.g))) k) w)
  (Nat.add (xo3 (dbl s.a) 2 13 22) (Nat.xor (Nat.xor (Nat.land s.a s.b) (Nat.land s.a s.c)) (Nat.land s.b s.c)))
theorem z99c (k w : UInt32) (s : H8) : toN (rnd k w s) = z1Wc k.toNat w.toNat (toN s) := by
 have h1 := z9Ub s.e (i := 6) (j := 11) (k := 25) (by decide) (by decide) (by decide)
 have h2 := z9Ub s.a (i := 2) (j := 13) (k := 22) (by decide) (by decide) (by decide)
 have h3 : (~~~s.e).toNat = 4294967295 - s.e.toNat := by rw [UInt32.toNat_not]; rfl
 simp only [toN, rnd, z1Wc, N8.mk.injEq, and_true, true_and]
 rw [← h1, ← h2]
 generalize (z0Z s.e 6 ^^^ z0Z s.e 11 ^^^ z0Z s.e 25) = S1
 generalize (z0Z s.a 2 ^^^ z0Z s.a 13 ^^^ z0Z s.a 22) = S0
 simp only [UInt32.toNat_add, UInt32.toNat_xor, UInt32.toNat_and, h3]
 show _ = (_ + _ + ((s.e.toNat &&& s.f.toNat) ^^^ ((4294967295 - s.e.toNat) &&& s.g.toNat)) + _ + _ + (_ + ((s.a.toNat &&& s.b.toNat) ^^^ (s.a.toNat &&& s.c.toNat) ^^^ (s.b.toNat &&& s.c.toNat)))) % M32 ∧ _ = (s.d.toNat + (_ + _ + ((s.e.toNat &&& s.f.toNat) ^^^ ((4294967295 - s.e.toNat) &&& s.g.toNat)) + _ + _)) % M32
 simp only [M32]
 omega
def z6eb : List Nat → List Nat → N8 → N8
 | [], _, s => s
 | _ :: _, [], s => s
 | k :: ks, w :: ws, s => z6eb ks ws (z1Wc k w s)
theorem z4Ea (k w : Nat) : ∀ (ks ws : List Nat) (s : N8), ks.length = ws.length → z6eb (ks ++ [k]) (ws ++ [w]) s = z1Wc k w (z6eb ks ws s)
 | [], [], s, _ => rfl
 | [], _ :: _, _, h => by simp at h
 | _ :: _, [], _, h => by simp at h
 | k' :: ks, w' :: ws, s, h => by
  simp only [List.cons_append, z6eb]
  exact z4Ea k w ks ws _ (by simpa using h)
def n32 (l : List UInt32) : List Nat := l.map UInt32.toNat
theorem z0Ub {l : List UInt32} {i : Nat} (h : i < l.length) : l.take (i + 1) = l.take i ++ [z0p l i] := by
 rw [List.take_succ_eq_append_getElem h, z0p, List.getD, List.getElem?_eq_getElem h]; rfl
theorem z7Tb (w : List UInt32) (s : H8) (hw : w.length = 64) : ∀ t, t ≤ 64 → toN (z8Ca w s t) = z6eb (n32 (kc.take t)) (n32 (w.take t)) (toN s)
 | 0, _ => rfl
 | t + 1, h => by
  have hk : kc.length = 64 := rfl
  have e1 : n32 (kc.take (t + 1)) = n32 (kc.take t) ++ [(z0p kc t).toNat] := by rw [z0Ub (l := kc) (by omega)]; simp [n32]
  have e2 : n32 (w.take (t + 1)) = n32 (w.take t) ++ [(z0p w t).toNat] := by rw [z0Ub (l := w) (by omega)]; simp [n32]
  rw [z8Ca, z99c, z7Tb w s hw t (by omega), e1, e2]
  exact (z4Ea _ _ _ _ _ (by simp [n32]; omega)).symm
def z4Vc : Nat → List Nat → List Nat
 | 0, acc => acc
 | n + 1, acc => z4Vc n ((fun p q => Nat.mod (Nat.add (Nat.add (Nat.add (acc.getD 15 0) (xo2 p (dbl p) 7 18 3)) (acc.getD 6 0)) (xo2 q (dbl q) 17 19 10)) M32) (acc.getD 14 0) (acc.getD 1 0) :: acc)
theorem z49a (w : List UInt32) {i : Nat} (h : i < w.length) : (n32 w.reverse).getD i 0 = (z0p w (w.length - 1 - i)).toNat := by
 rw [n32, List.getD, List.getElem?_map, List.getElem?_eq_getElem (by simpa using h), List.getElem_reverse, z0p, List.getD, List.getElem?_eq_getElem (by omega)]
 rfl
theorem z7jb (b : List UInt8) : ∀ (n t : Nat), 16 ≤ t → z4Vc n (n32 (z3k b t).reverse) = n32 (z3k b (t + n)).reverse
 | 0, _, _ => rfl
 | n + 1, t, ht => by
  have hl := z7p b t
  rw [z4Vc, z49a _ (by omega), z49a _ (by omega), z49a _ (by omega), z49a _ (by omega), hl]
  have hs : n32 (z3k b (t + 1)).reverse = (z9Ca b t (z3k b t)).toNat :: n32 (z3k b t).reverse := by simp [z3k, n32]
  have e : (z9Ca b t (z3k b t)).toNat = Nat.mod (Nat.add (Nat.add (Nat.add (z0p (z3k b t) (t - 1 - 15)).toNat (xo2 (z0p (z3k b t) (t - 1 - 14)).toNat (dbl (z0p (z3k b t) (t - 1 - 14)).toNat) 7 18 3)) (z0p (z3k b t) (t - 1 - 6)).toNat) (xo2 (z0p (z3k b t) (t - 1 - 1)).toNat (dbl (z0p (z3k b t) (t - 1 - 1)).toNat) 17 19 10)) M32 := by
   rw [z9Ca, if_neg (by omega), sg0, sg1, UInt32.toNat_add, UInt32.toNat_add, UInt32.toNat_add, z6Qb _ 3 (by decide) (by decide), z6Qb _ 10 (by decide) (by decide)]
   simp only [Nat.sub_sub]
   show _ = (_ + _ + _ + _) % M32
   simp only [M32, Nat.reduceAdd]
   omega
  have e' := (congrArg (· :: n32 (z3k b t).reverse) e).symm.trans hs.symm
  have h' := z7jb b n (t + 1) (by omega)
  rw [← e', Nat.add_assoc, Nat.add_comm 1 n] at h'
  exact h'
def wd (b : List UInt8) (t : Nat) : Nat := Nat.add (Nat.mul 256 (Nat.add (Nat.mul 256 (Nat.add (Nat.mul 256 (at8 b (4 * t)).toNat) (at8 b (4 * t + 1)).toNat)) (at8 b (4 * t + 2)).toNat)) (at8 b (4 * t + 3)).toNat
theorem or8 {x : UInt32} {N : Nat} (hx : x.toNat = N) (hN : N < 16777216) (c : UInt8) : (z3ia x 8 ||| c.toUInt32).toNat = 256 * N + c.toNat := by
 subst hx
 have hc := c.toNat_lt
 rw [UInt32.toNat_or]
 show ((x.toBitVec <<< 8).toNat ||| c.toUInt32.toNat) = _
 rw [BitVec.toNat_shiftLeft, UInt8.toNat_toUInt32]
 show (x.toNat <<< 8 % 2 ^ 32 ||| c.toNat) = _
 rw [Nat.mod_eq_of_lt (by rw [Nat.shiftLeft_eq]; omega), ← Nat.shiftLeft_add_eq_or_of_lt (by omega), Nat.shiftLeft_eq]
 omega
theorem z90c (b : List UInt8) (t : Nat) : (ldw b t 4).toNat = wd b t := by
 have h0 := (at8 b (4 * t)).toNat_lt
 have h1 := (at8 b (4 * t + 1)).toNat_lt
 have h2 := (at8 b (4 * t + 2)).toNat_lt
 have e1 : (ldw b t 1).toNat = (at8 b (4 * t)).toNat := by rw [ldw, ldw, or8 (N := 0) rfl (by decide)]; simp
 have e2 : (ldw b t 2).toNat = 256 * (at8 b (4 * t)).toNat + (at8 b (4 * t + 1)).toNat := by rw [ldw, or8 e1 (by omega)]
 have e3 : (ldw b t 3).toNat = 256 * (256 * (at8 b (4 * t)).toNat + (at8 b (4 * t + 1)).toNat) + (at8 b (4 * t + 2)).toNat := by rw [ldw, or8 e2 (by omega)]
 rw [ldw, or8 e3 (by omega)]
 rfl
def z5sc : Nat → List UInt8 → List Nat → List Nat
 | n + 1, a :: b :: c :: d :: r, acc => z5sc n r (Nat.add (Nat.mul 256 (Nat.add (Nat.mul 256 (Nat.add (Nat.mul 256 a.toNat) b.toNat)) c.toNat)) d.toNat :: acc)
 | _, _, acc => acc
theorem z2Rb (b : List UInt8) (hb : b.length = 64) : ∀ (n t : Nat), n + t = 16 → z5sc n (b.drop (4 * t)) (n32 (z3k b t).reverse) = n32 (z3k b 16).reverse
 | 0, t, h => by
  have : t = 16 := by omega
  subst this
  rfl
 | n + 1, t, h => by
  have hd : b.drop (4 * t) = at8 b (4 * t) :: at8 b (4 * t + 1) :: at8 b (4 * t + 2) :: at8 b (4 * t + 3) :: b.drop (4 * (t + 1)) := by
   rw [List.drop_eq_getElem_cons (by omega), List.drop_eq_getElem_cons (by omega), List.drop_eq_getElem_cons (by omega), List.drop_eq_getElem_cons (by omega)]
   simp only [at8, List.getD, List.getElem?_eq_getElem (show 4 * t < b.length by omega), List.getElem?_eq_getElem (show 4 * t + 1 < b.length by omega), List.getElem?_eq_getElem (show 4 * t + 2 < b.length by omega), List.getElem?_eq_getElem (show 4 * t + 3 < b.length by omega), Option.getD_some]
   rfl
  have hs : n32 (z3k b (t + 1)).reverse = wd b t :: n32 (z3k b t).reverse := by
   have : z9Ca b t (z3k b t) = ldw b t 4 := by rw [z9Ca, if_pos (by omega)]
   simp [z3k, n32, this, z90c]
  rw [hd, z5sc]
  show z5sc n _ (wd b t :: _) = _
  rw [← hs, z2Rb b hb n (t + 1) (by omega)]
def kcN : List Nat := n32 kc
def z66a (s : N8) (b : List UInt8) : N8 :=
 (fun r => N8.mk (Nat.mod (Nat.add s.a r.a) M32) (Nat.mod (Nat.add s.b r.b) M32) (Nat.mod (Nat.add s.c r.c) M32) (Nat.mod (Nat.add s.d r.d) M32) (Nat.mod (Nat.add s.e r.e) M32) (Nat.mod (Nat.add s.f r.f) M32) (Nat.mod (Nat.add s.g r.g) M32) (Nat.mod (Nat.add s.h r.h) M32))
  (z6eb kcN (z4Vc 48 (z5sc 16 b [])).reverse s)
theorem z11b (s : H8) (b : List UInt8) (hb : b.length = 64) : toN (z3Va s b) = z66a (toN s) b := by
 have hw := z2Rb b hb 16 0 rfl
 have e0 : b.drop (4 * 0) = b := rfl
 have e1 : n32 (z3k b 0).reverse = [] := rfl
 rw [e0, e1] at hw
 have hs := z7jb b 48 16 (by decide)
 have hr := z7Tb (z3k b 64) s (z7p b 64) 64 (by decide)
 rw [List.take_of_length_le (l := z3k b 64) (by rw [z7p]; decide), List.take_of_length_le (l := kc) (i := 64) (Nat.le_refl _)] at hr
 have hrev : (n32 (z3k b 64).reverse).reverse = n32 (z3k b 64) := by simp [n32]
 unfold z66a
 rw [hw, hs, hrev, kcN, ← hr]
 simp only [z3Va, H8.add, toN, N8.mk.injEq]
 exact ⟨UInt32.toNat_add _ _, UInt32.toNat_add _ _, UInt32.toNat_add _ _, UInt32.toNat_add _ _, UInt32.toNat_add _ _, UInt32.toNat_add _ _, UInt32.toNat_add _ _, UInt32.toNat_add _ _⟩
def z43b : Nat → List UInt8 → N8 → N8
 | 0, _, s => s
 | k + 1, m, s => z43b k (m.drop 64) (z66a s (m.take 64))
theorem z7Na : ∀ (k : Nat) (m : List UInt8) (s : N8), z43b (k + 1) m s = z66a (z43b k m s) ((m.drop (64 * k)).take 64)
 | 0, _, _ => rfl
 | k + 1, m, s => by
  rw [z43b, z7Na k, List.drop_drop, show 64 + 64 * k = 64 * (k + 1) by omega]
  rfl
theorem z0vc (m : List UInt8) (s : H8) : ∀ k, 64 * k ≤ m.length → toN (blk m s k) = z43b k m (toN s)
 | 0, _ => rfl
 | k + 1, h => by rw [blk, z11b _ _ (by simp; omega), z0vc m s k (by omega), z7Na]
def o4 (x : Nat) : List UInt8 := [UInt8.ofNat (Nat.shiftRight x 24), UInt8.ofNat (Nat.shiftRight x 16), UInt8.ofNat (Nat.shiftRight x 8), UInt8.ofNat x]
def z7Uc (s : N8) : List UInt8 := o4 s.a ++ (o4 s.b ++ (o4 s.c ++ (o4 s.d ++ (o4 s.e ++ (o4 s.f ++ (o4 s.g ++ o4 s.h))))))
theorem z1pc (x : UInt32) (n : Nat) : (z9Ma x n).toUInt8 = UInt8.ofNat (Nat.shiftRight x.toNat n) := by
 apply UInt8.toNat_inj.1
 rw [UInt32.toNat_toUInt8, UInt8.toNat_ofNat']
 show (x.toBitVec >>> n).toNat % 256 = (x.toNat >>> n) % 256
 rw [BitVec.toNat_ushiftRight]
 rfl
theorem z87c (h : H8) : z5ab h 32 = z7Uc (toN h) := by
 simp only [z5ab, z7Uc, o4, toN, List.nil_append, List.append_assoc, List.cons_append, z1pc]
 rfl
def z4tc (n : Nat) : List UInt8 := 128 :: (z2c (Nat.mod (Nat.sub 119 (Nat.mod n 64)) 64) ++ [UInt8.ofNat (Nat.shiftRight (Nat.mul 8 n) 56), UInt8.ofNat (Nat.shiftRight (Nat.mul 8 n) 48), UInt8.ofNat (Nat.shiftRight (Nat.mul 8 n) 40), UInt8.ofNat (Nat.shiftRight (Nat.mul 8 n) 32), UInt8.ofNat (Nat.shiftRight (Nat.mul 8 n) 24), UInt8.ofNat (Nat.shiftRight (Nat.mul 8 n) 16), UInt8.ofNat (Nat.shiftRight (Nat.mul 8 n) 8), UInt8.ofNat (Nat.mul 8 n)])
theorem z18b {x : UInt64} {N : Nat} (hx : x.toNat = N) (n : Nat) : (z2Da x n).toUInt8 = UInt8.ofNat (Nat.shiftRight N n) := by
 apply UInt8.toNat_inj.1
 rw [UInt64.toNat_toUInt8, UInt8.toNat_ofNat']
 show (x.toBitVec >>> n).toNat % 256 = (N >>> n) % 256
 rw [BitVec.toNat_ushiftRight]
 subst hx
 rfl
theorem z20c {n : Nat} (h : n < 1099511627776) : z32a (UInt64.ofNat n) = z4tc n := by
 have h1 : (UInt64.ofNat n).toNat = n := by rw [UInt64.toNat_ofNat']; omega
 have h2 : (8 * UInt64.ofNat n).toNat = 8 * n := by
  rw [UInt64.toNat_mul, h1]
  have : (8 : UInt64).toNat = 8 := rfl
  rw [this]; omega
 simp only [z32a, h1, z4tc, be8, List.nil_append, List.append_assoc, List.cons_append, z18b h2, z1Da]
 rfl
def ivN : N8 := toN iv
def shaN (b : List UInt8) : List UInt8 := (fun m => z7Uc (z43b (Nat.div m.length 64) m ivN)) (b ++ z4tc b.length)
theorem z6bc {b : List UInt8} (h : b.length < 1099511000000) : sha b = shaN b := by
 obtain ⟨h1, h2, h3⟩ := z9ra (b := b) (by omega)
 rw [z8kb h, z87c, z0vc _ _ _ (by omega)]
 show _ = z7Uc (z43b ((b ++ z4tc b.length).length / 64) (b ++ z4tc b.length) ivN)
 rw [← z20c (by omega)]
 rfl
end Go.Abs
end

section
namespace Go.Abs
def dEx : Cmd := ⟨1, 0, 0, 2, 0, 0, [], []⟩
def mEx : z4j := ⟨1, 2, 0, 0, 9, 1, 0, false, z6Tb⟩
def DEx : List UInt8 := [169, 165, 62, 53, 164, 222, 79, 165, 246, 192, 150, 189, 233, 112, 29, 80]
def xEx (d : List UInt8) : z6w := ⟨5, 1, 0, 1, dEx, d, [mEx], []⟩
theorem z1Sb : z2p 7 [z3P dEx] = DEx := by
 rw [z2p, z6bc (by decide +kernel)]
 kernel_rfl
theorem z4Ic : z2p 8 [z08 (xEx DEx)] = [164, 204, 154, 203, 156, 58, 163, 22, 115, 26, 207, 131, 155, 88, 134, 22] := by
 rw [z2p, z6bc (by decide +kernel)]
 kernel_rfl
theorem z1xc : z2p 8 [z08 (z1sa 5 1)] = [1, 26, 216, 140, 128, 18, 255, 112, 18, 42, 81, 54, 18, 154, 119, 222] := by
 rw [z2p, z6bc (by decide +kernel)]
 kernel_rfl
theorem okEx (d : List UInt8) : okE (xEx d) = true := by rfl
def vEx : z0V := ⟨5, 1, 1, 2, [mEx]⟩
theorem z25c (d : List UInt8) : z9Wa z2bb (xEx d) = ⟨vEx, 0⟩ := by rfl
theorem z4oc (d : List UInt8) : z9Wa vEx (xEx d) = ⟨z0ka, 7⟩ := by rfl
theorem z66b : z9Wa vEx (z1sa 4 3) = ⟨z0ka, 20⟩ := by rfl
theorem z1sc : z9Wa vEx (z1sa 6 3) = ⟨⟨6, 3, 2, 2, [mEx]⟩, 0⟩ := by rfl
theorem z19b : (z10a vEx 8).length = 1 := by rfl
theorem z2bc : (z10a vEx 9).length = 0 := by rfl
end Go.Abs
end
