/- Lemmas: an abstract interpreter, and what the functions compute. -/
import Derived.Test.YtkccmbjmlpnejaaDoorV
import Derived.Test.YtkccmbjmlpnejaaDoorP
import Derived.Test.YtkccmbjmlpnejaaDoorN
set_option linter.unusedSimpArgs false
set_option linter.unusedVariables false
set_option linter.unusedSectionVars false
section
namespace Go.Abs
set_option maxRecDepth 100000
theorem z1Ja (n c : Int) : z6k (z5hb n c) := by
 have e : z5hb n c = (BitVec.ofInt 64 n &&& BitVec.ofInt 64 c).toInt := z9Za _
 rw [e]
 generalize BitVec.ofInt 64 n &&& BitVec.ofInt 64 c = b
 have h1 := BitVec.le_toInt b
 have h2 := BitVec.toInt_lt (x := b)
 have e1 : (2 : Int) ^ (64 - 1) = 9223372036854775808 := rfl
 rw [e1] at h1 h2
 exact ⟨by omega, by omega⟩
def z5ic (v : z4q) (x : z3s) (l : List z0f) : z4ad := if z5gb x.made v.next = true then (if z9la < v.next + x.made.length then ⟨z9A, 2⟩ else ⟨⟨x.time, x.mode, v.ents + 1, v.next + x.made.length, l ++ x.made⟩, 0⟩) else ⟨z9A, 7⟩
def z6Cb (v : z4q) (x : z3s) : Option (List z0f) → z4ad
 | none => ⟨z9A, 7⟩
 | some l => z5ic v x l
theorem z3Vb {v : z4q} {x : z3s} (h : okE x = true) (ht : ¬ x.time < v.time) : z3va v x = z6Cb v x ((z60 x.gone v.keys).bind (z8ra x)) := by
 unfold z3va
 rw [if_pos h, if_neg ht]
 cases (z60 x.gone v.keys).bind (z8ra x) <;> rfl
set_option maxHeartbeats 16000000 in
theorem z42a (E : Env) {nc nm ng : Option Bool} {vt vm ve vn : Int} {vk : List z0f} {x : z3s} (hx : x.small) {a0 a1 a2 : z2a} {l : List z0f} (k16 : z4d l) (kl : l.length ≤ 1000000) (ke0 : 0 ≤ ve) (ke1 : ve ≤ 1000000) (kn0 : 0 ≤ vn) (kn1 : vn ≤ 2147483647) :
  awp E z4p (z9u [.cell 4 (some 5) 4, .t 5] (.tup [.agg (z2g none (z5ic ⟨vt, vm, ve, vn, vk⟩ x l).v), i64 (z5ic ⟨vt, vm, ve, vn, vk⟩ x l).e])) ⟨[(2, a2), (3, .ep (z7k nc nm ng x)), (0, a0), (1, a1)], [(4, .bp 4 0), (6, .bp 6 0)], [(4, some [i64 0, i64 0, i64 0, i64 0, .sl .plain none 0 []]), (6, some [i64 x.time, i64 x.mode, i64 (ve + 1), i64 vn, .sl (.own 24) none l.length (z0b l)]), (8, none)]⟩ := by
 have hd := hx.1.2.2.2.2.2.1
 have h16 := hx.1.2.2.2.2.2.2.1
 have hml := hx.2.2.1
 have hl := z6d (nc := nc) (nm := nm) (ng := ng) hd
 have e28 := z2ka (nc := nc) (nm := nm) (ng := ng) hd
 have hlen := z0d (z6b h16)
 have hkl := z0d (z6b k16)
 unfold z5ic
 simp only
 refine z3a fun Q0 hQ0 => ?_
 simp only [z4p]
 refine z2s fun B hB => ?_
 simp (maxSteps := 1000000) (disch := first | omega | (simp; done) | (simp; omega)) [z7a, z1a, z0a, hl, e28]
 refine z3a fun Q3 hQ3 => ?_
 refine z7d (fun i : Nat => ⟨[(2, a2), (3, .ep (z7k nc nm ng x)), (0, a0), (1, a1)], [(4, .bp 4 0), (6, .bp 6 0), (80, .sl .plain nm x.made.length (z0b x.made)), (81, i64 x.made.length), (82, i64 i)],
   [(4, some [i64 0, i64 0, i64 0, i64 0, .sl .plain none 0 []]), (6, some [i64 x.time, i64 x.mode, i64 (ve + 1), i64 (vn + i), .sl (.own 24) none (l.length + i) (z0b (l ++ x.made.take i))]), (8, none)]⟩)
  (fun i => x.made.length - i) (fun i => i ≤ x.made.length ∧ ∀ j < i, (atD x.made j).id = vn + j) 0 (by simp) (by simp) fun i hi => ?_
 obtain ⟨hi, he⟩ := hi
 refine z3a fun Q4 hQ4 => ?_
 by_cases h1 : i < x.made.length
 ·have hm := h16 _ (z4fa h1)
  have hmd := hm.2.2.2.2.2.2.2
  have ha := z8xa h16 h1
  have hmll := z3o hmd
  have hle : 24 ≤ x.made.length * 24 - i * 24 := by omega
  have hle2 : i * 24 ≤ x.made.length * 24 := by omega
  have htak : l ++ x.made.take (i + 1) = (l ++ x.made.take i) ++ [atD x.made i] := by
   rw [List.take_succ_eq_append_getElem h1, z4ba h1, List.append_assoc]
  generalize hX : atD x.made i = m at *
  have sp : splice (i64 0 :: i64 0 :: i64 0 :: i64 0 :: i64 0 :: i64 0 :: i64 0 :: bo false :: bys (z9c 16)) 0 (z2q m) = z2q m := z8la hmd rfl
  have sp' : splice [i64 0, i64 0, i64 0, i64 0, i64 0, i64 0, i64 0, bo false, u8 0, u8 0, u8 0, u8 0, u8 0, u8 0, u8 0, u8 0, u8 0, u8 0, u8 0, u8 0, u8 0, u8 0, u8 0, u8 0] 0 (z2q m) = z2q m := z8la hmd rfl
  have mtk := z1ua hmd
  generalize hV : l ++ x.made.take i = V at *
  by_cases h2 : m.id = vn + i
  ·simp (maxSteps := 1000000) (disch := first | omega | (simp; done) | (simp; omega)) [z7a, z1a, z0a, z2B, z9Q, z55, kT, kF, h1, hl, hlen, hle, hle2, ha, hmll, sp, sp', mtk, z3F, z4Q, h2, hQ4]
   refine ⟨⟨by omega, by omega, fun c hc => z5F c hc⟩, i + 1, by omega, ⟨by omega, fun j hj => ?_⟩, by omega, by omega, by omega, by rw [htak, z43, z8Na]⟩
   rcases Nat.lt_or_eq_of_le (Nat.lt_succ_iff.1 hj) with h | h
   ·exact he j h
   ·rw [h, hX]; exact h2
  ·have hz : z5gb x.made vn = false := by
    cases hc : z5gb x.made vn
    ·rfl
    ·have := (z7Aa _ _).1 hc i h1
     rw [hX] at this
     exact absurd this h2
   rw [hz] at hQ0
   simp (maxSteps := 1000000) (disch := first | omega | (simp; done) | (simp; omega)) [z7a, z1a, z0a, z2B, z9Q, kT, kF, h1, hl, hlen, hle, hle2, ha, hmll, sp, mtk, z3F, z4Q, h2, hQ4, hQ3, hQ0, z3n, z6m, z2g, z9A, z5B]
 ·have hie : i = x.made.length := by omega
  subst hie
  have hz : z5gb x.made vn = true := (z7Aa _ _).2 he
  rw [List.take_length] at *
  rw [if_pos hz] at hQ0
  simp (maxSteps := 1000000) (disch := first | omega | (simp; done) | (simp; omega)) [z7a, z1a, z0a, z2B, kT, kF, h1, hQ4, hQ3]
  rw [hB]; clear hB
  by_cases h4 : z9la < vn + x.made.length
  ·rw [if_pos h4] at hQ0
   simp only [z9la] at h4
   simp (maxSteps := 1000000) (disch := first | omega | (simp; done) | (simp; omega)) [z7a, z1a, z0a, z3Q, kT, kF, h4, hQ0, z3n, z6m, z2g, z9A, z5B]
  ·rw [if_neg h4] at hQ0
   simp only [z9la] at h4
   simp (maxSteps := 1000000) (disch := first | omega | (simp; done) | (simp; omega)) [z7a, z1a, z0a, z3Q, z95, kT, kF, h4, hQ0, z3n, z6m, z2g]
end Go.Abs
end

section
namespace Go.Abs
set_option maxRecDepth 100000
@[simp] theorem z0mc : z8Da .undef = true := rfl
@[simp] theorem z79c (id o : Nat) : z8Da (.bp id o) = true := rfl
@[simp] theorem z8Tc (n : Int) : z8Da (i64 n) = true := rfl
@[simp] theorem z2dd (nl : Option Bool) (n : Nat) : z8Da (.sl .plain nl n []) = true := rfl
@[simp] theorem z82c (k n : Nat) (nl : Option Bool) (cs : List z2a) : z8Da (.sl (.own k) nl n cs) = z4c cs := rfl
@[simp] theorem z1yc (ids : List Nat) (bx : Nat → List z2a) (n : Int) : z9ta ids bx (i64 n) = i64 n := rfl
@[simp] theorem z6Qc (n : Int) : z2f (i64 n) = false := rfl
@[simp] theorem z86c (l : List z2a) : z2f (.ep l) = false := rfl
theorem z5Ja (l : List z0f) (k : Int) : z2Fa (fun m => decide (m.id = k)) l = if z6X l k < l.length then (z6X l k : Int) else -1 := rfl
theorem z1Ga {g : List Int} {i : Nat} (h : i < g.length) (l : List z0f) : z60 (g.drop i) l = (z6Sb l (g.getD i 0)).bind (z60 (g.drop (i + 1))) := by
 rw [List.drop_eq_getElem_cons h, z60]
 simp [List.getD, List.getElem?_eq_getElem h]
theorem z7Vb {l : List z0f} {k : Int} (h : ¬ z6X l k < l.length) : z6Sb l k = none := if_neg h
theorem z3Rb {l : List z0f} {k : Int} (h : z6X l k < l.length) : z6Sb l k = some (l.eraseIdx (z6X l k)) := if_pos h
theorem z1Oa {l : List Int} {i : Nat} (h : i < l.length) : hdA ((z6j l).drop i) = i64 (l.getD i 0) := by
 rw [z6j, ← List.map_drop, List.drop_eq_getElem_cons h]
 simp [List.getD, List.getElem?_eq_getElem h, hdA]
theorem z1db {l : List Int} {i : Nat} (h : i < l.length) : hdA (z6j (l.drop i)) = i64 (l.getD i 0) := by
 rw [← z1Oa h, z6j, z6j, List.map_drop]
theorem z7Oa (l : List Int) : (z6j l).length = l.length := by simp [z6j]
theorem z4Tb (l : List z0f) (m : Nat) : z0b l ++ List.replicate (m * 24) .undef = z1r l (l.length + m) := by
 rw [z1r, Nat.add_sub_cancel_left]
theorem z6Da {l : List z0f} (h : z4d l) (c : Nat) : (z1r l c).take (l.length * 24) = z0b l := by
 rw [z1r, List.take_left' (z0d (z6b h))]
theorem z7Ba : ∀ l : List z0f, z4c (z0b l) = true
 | [] => rfl
 | m :: l => by
  rw [show z0b (m :: l) = z2q m ++ z0b l from List.flatMap_cons]
  have h1 : ∀ a b : List z2a, z4c (a ++ b) = (z4c a && z4c b) := fun a => by
   induction a with
   | nil => intro b; simp [z4c]
   | cons x a ih => intro b; simp [z4c, ih, Bool.and_assoc]
  rw [h1, z7Ba l, Bool.and_true]
  have h2 : ∀ l : List UInt8, z4c (bys l) = true := fun l => by
   induction l with
   | nil => rfl
   | cons x l ih => show (z6f (u8 x) && z4c (bys l)) = true; rw [ih]; rfl
  simp [z2q, h1, h2, z4c, z6f]
theorem z9cc {f : Nat → Option (List z2a)} {bs : List Nat} {k : Int} (h8 : 8 ∈ bs) (h : f 8 = some [i64 k]) : z1x bs f (.fn 305 [] [.bp 8 0]) := ⟨fun _ h => (by cases h), fun v hv => by
 rw [List.mem_singleton] at hv
 subst hv
 exact ⟨h8, [i64 k], h, by simp⟩⟩
theorem z2sa {l : List z0f} {c p : Nat} (hp : p < l.length) : z1r l c = z0b (l.take p) ++ (z2q (atD l p) ++ (z0b (l.drop (p + 1)) ++ List.replicate ((c - l.length) * 24) .undef)) := by
 have e : l = l.take p ++ (atD l p :: l.drop (p + 1)) := by rw [z4ba hp, ← List.drop_eq_getElem_cons hp, List.take_append_drop]
 rw [z1r]
 conv => lhs; rw [show z0b l = z0b (l.take p ++ (atD l p :: l.drop (p + 1))) from congrArg z0b e]
 rw [z43, show z0b (atD l p :: l.drop (p + 1)) = z2q (atD l p) ++ z0b (l.drop (p + 1)) from List.flatMap_cons, List.append_assoc, List.append_assoc]
theorem z39a {l : List z0f} {c p : Nat} (h : z4d l) (hp : p < l.length) : hdA ((z1r l c).drop (p * 24 + 2)) = i64 (atD l p).uses := by
 have h' : z4d (l.take p) := fun m hm => h m (List.mem_of_mem_take hm)
 have hl : (z0b (l.take p)).length = p * 24 := by rw [z0d (z6b h'), List.length_take, Nat.min_eq_left (by omega)]
 rw [z2sa hp, ← List.drop_drop, List.drop_left' hl]
 rfl
theorem z5cb {l : List z0f} {c p : Nat} (h : z4d l) (hp : p < l.length) (z : Int) : splice (z1r l c) (p * 24 + 2) [i64 z] = z1r (l.set p { atD l p with uses := z }) c := by
 have h' : z4d (l.take p) := fun m hm => h m (List.mem_of_mem_take hm)
 have hl : (z0b (l.take p)).length = p * 24 := by rw [z0d (z6b h'), List.length_take, Nat.min_eq_left (by omega)]
 have e2 := z2sa (l := l.set p { atD l p with uses := z }) (c := c) (p := p) (by simpa using hp)
 have e3 : atD (l.set p { atD l p with uses := z }) p = { atD l p with uses := z } := by simp [atD, List.getD, hp]
 rw [e3, List.take_set_of_le (Nat.le_refl _), List.drop_set_of_lt (by omega), List.length_set] at e2
 rw [e2, z2sa hp, z2V (by omega), hl, Nat.add_sub_cancel_left]
 rfl
theorem z1id : ∀ l : List UInt8, ∀ c ∈ bys l, z5f c = true := fun l c h => by
 obtain ⟨b, _, rfl⟩ := List.mem_map.1 h
 rfl
theorem z8Wa (l : List z0f) (c : Nat) : (∀ d ∈ z1r l c, z5f d = true) = True := eq_true fun d h => by
 rcases List.mem_append.1 h with h | h
 ·obtain ⟨m, _, hm⟩ := List.mem_flatMap.1 h
  rw [z2q] at hm
  rcases List.mem_append.1 hm with hm | hm
  ·simp only [List.mem_cons, List.not_mem_nil, or_false] at hm
   rcases hm with h | h | h | h | h | h | h | h <;> subst h <;> rfl
  ·exact z1id _ d hm
 ·rw [List.eq_of_mem_replicate h]; rfl
theorem z6cc (l : List z0f) (c : Nat) : z7h (z1r l c) = true := (z5n _).2 (of_eq_true (z8Wa l c))
theorem z4Vb (m : List (Nat × Nat)) : ∀ l : List z2a, (∀ d ∈ l, ren m d = d) → z4ua m l = l
 | [], _ => rfl
 | x :: l, h => by show ren m x :: z4ua m l = _; rw [h x (by simp), z4Vb m l (fun d hd => h d (by simp [hd]))]
theorem z4Lb (m : List (Nat × Nat)) (l : List z0f) (c : Nat) : z4ua m (z1r l c) = z1r l c := z4Vb m _ fun d h => by
 rcases List.mem_append.1 h with h | h
 ·obtain ⟨m', _, hm⟩ := List.mem_flatMap.1 h
  rw [z2q] at hm
  rcases List.mem_append.1 hm with hm | hm
  ·simp only [List.mem_cons, List.not_mem_nil, or_false] at hm
   rcases hm with h | h | h | h | h | h | h | h <;> subst h <;> rfl
  ·obtain ⟨b, _, rfl⟩ := List.mem_map.1 hm
   rfl
 ·rw [List.eq_of_mem_replicate h]; rfl
theorem z2tc {f : Nat → Option (List z2a)} {bs : List Nat} {l : List z2a} : z1x bs f (.fn 308 [] [.ep l]) = True := eq_true ⟨fun _ h => (by cases h), fun v h => by rw [List.mem_singleton] at h; subst h; rfl⟩
theorem z4tc (E : Env) {Q : z9p → ASt → Prop} {o : List (Nat × z2a)} {V4 : List z2a} {a b d e : Int} {l : List z0f} {c : Nat} (l16 : z4d l) (lc : l.length ≤ c) (V4r : z2i V4 = [])
  (h : awp E z4p Q ⟨o, [(4, .bp 4 0), (6, .bp 6 0)], [(4, some V4), (6, some [i64 a, i64 b, i64 d, i64 e, .sl (.own 24) none l.length (z0b l)]), (8, none)]⟩) :
  awp E (.ghost (.norm [4, 6, 8, 500006]) (.ghost (.coolB 6 4 500006) (.ghost (.norm [4, 6, 8, 500006]) (.ghost (.drop [500006]) z4p)))) Q ⟨o, [(4, .bp 4 0), (6, .bp 6 0)], [(4, some V4), (6, some [i64 a, i64 b, i64 d, i64 e, .bv 500006 24 0 l.length c]), (8, none), (500006, some (z1r l c))]⟩ := by
 have hrt := z6Da l16 c
 have hrl := z3ga l16 lc
 have e0 : z5b (.norm [4, 6, 8, 500006]) ⟨o, [(4, .bp 4 0), (6, .bp 6 0)], [(4, some V4), (6, some [i64 a, i64 b, i64 d, i64 e, .bv 500006 24 0 l.length c]), (8, none), (500006, some (z1r l c))]⟩ = ⟨o, [(4, .bp 4 0), (6, .bp 6 0)], [(4, some V4), (6, some [i64 a, i64 b, i64 d, i64 e, .bv 500006 24 0 l.length c]), (8, none), (500006, some (z1r l c))]⟩ := rfl
 have e1 : z5b (.coolB 6 4 500006) ⟨o, [(4, .bp 4 0), (6, .bp 6 0)], [(4, some V4), (6, some [i64 a, i64 b, i64 d, i64 e, .bv 500006 24 0 l.length c]), (8, none), (500006, some (z1r l c))]⟩ = ⟨o, [(4, .bp 4 0), (6, .bp 6 0)], [(6, some [i64 a, i64 b, i64 d, i64 e, .sl (.own 24) none l.length (z0b l)]), (500006, none), (4, some V4), (6, some [i64 a, i64 b, i64 d, i64 e, .bv 500006 24 0 l.length c]), (8, none), (500006, some (z1r l c))]⟩ := by
  rw [z3Bb (j := 500006) (k := 24) (q := 0) (n := l.length) (c := c) (cs := z1r l c) (bs := [i64 a, i64 b, i64 d, i64 e, .bv 500006 24 0 l.length c]) rfl rfl rfl, hrt]
  rfl
 have e2 : z5b (.norm [4, 6, 8, 500006]) ⟨o, [(4, .bp 4 0), (6, .bp 6 0)], [(6, some [i64 a, i64 b, i64 d, i64 e, .sl (.own 24) none l.length (z0b l)]), (500006, none), (4, some V4), (6, some [i64 a, i64 b, i64 d, i64 e, .bv 500006 24 0 l.length c]), (8, none), (500006, some (z1r l c))]⟩ = ⟨o, [(4, .bp 4 0), (6, .bp 6 0)], [(4, some V4), (6, some [i64 a, i64 b, i64 d, i64 e, .sl (.own 24) none l.length (z0b l)]), (8, none), (500006, none)]⟩ := rfl
 have hm := z7Ba l
 have hr : z2i (z0b l) = [] := by simp
 rw [z9fa, e0]
 refine ⟨by simp [z7r], ?_⟩
 rw [z9fa, e1]
 refine ⟨?_, ?_⟩
 ·simp [z7r, z4lc]
  exact ⟨⟨lc, hrl, by rw [hrt]; exact hm⟩, by rw [V4r]; simp⟩
 rw [z9fa, e2]
 refine ⟨?_, ?_⟩
 ·simp [z7r]
 rw [z9fa]
 refine ⟨?_, ?_⟩
 ·simp [z7r, V4r, hr]
  skip
 exact h
attribute [local simp] z53a fnd
set_option maxHeartbeats 32000000 in
theorem z49b (E : Env) (h300 : E.G 300 = z47a) (h290 : E.G 290 = z8ua) (h306 : E.G 306 = z52a) (h309 : E.G 309 = z21a) (hC307 : E.C 307 = z8gb) : ∀ ds, z6ib.pre ds → ds.length = z9k.n ∧ awp E z9k.body (z9u z9k.res (z6ib.post ds)) (z8c z9k.wr ds) := by
 rintro _ ⟨nk, nc, nm, ng, v, x, hv, hx, rfl⟩
 rw [z0ba hv hx]
 have hd := hx.1.2.2.2.2.2.1
 have h16 := hx.1.2.2.2.2.2.2.1
 have hml := hx.2.2.1
 have hgl := hx.2.2.2
 have hl := z6d (nc := nc) (nm := nm) (ng := ng) hd
 have htk := z8q (nc := nc) (nm := nm) (ng := ng) hd
 have e28 := z2ka (nc := nc) (nm := nm) (ng := ng) hd
 have e29 := z9sa (nc := nc) (nm := nm) (ng := ng) hd
 have hlen := z0d (z6b h16)
 obtain ⟨k16, kl, kt, ⟨ke0, ke1⟩, kn0, kn1⟩ := hv
 simp only [z9la] at kn1
 have hp := z8Oa (nc := nc) (nm := nm) (ng := ng) hx
 have hq := z2ha (nc := nc) (nm := nm) (ng := ng) hx
 cases c1 : okE x
 ·have hz : z3va v x = ⟨z9A, 1⟩ := by simp [z3va, c1]
  rw [hz]
  simp (maxSteps := 1000000) (disch := first | omega | (simp; done) | (simp; omega)) [z7a, z1a, z0a, z9k, z2g, hl, htk, h300, hp, hq, c1, kT, kF, z9A, z3n, z6m, z0b]
  skip
 have hlim := z4ga c1
 by_cases c2 : x.time < v.time
 ·have hz : z3va v x = ⟨z9A, 20⟩ := by simp [z3va, c1, c2]
  rw [hz]
  simp (maxSteps := 1000000) (disch := first | omega | (simp; done) | (simp; omega)) [z7a, z1a, z0a, z9k, z2g, hl, htk, h300, hp, hq, c1, c2, kT, kF, z9A, z3n, z6m, z0b]
  skip
 rw [z3Vb c1 c2]
 have hcp := z29a (nl := nk) k16 kl
 have hcq := z8ya (nl := nk) k16
 obtain ⟨vt, vm, ve, vn, vk⟩ := v
 simp only at k16 kl kt ke0 ke1 kn0 kn1 hcp hcq c2 ⊢
 have hkl := z0d (z6b k16)
 generalize hR : z6Cb ⟨vt, vm, ve, vn, vk⟩ x ((z60 x.gone vk).bind (z8ra x)) = R
 simp (maxSteps := 1000000) (disch := first | omega | (simp; done) | (simp; omega)) [z7a, z1a, z0a, z9k, z2g, hl, htk, h300, hp, hq, c1, c2, kT, kF]
 refine z3a fun Q0 hQ0 => ?_
 simp only [z59]
 rw [z9F]
 refine z3a fun Q5 hQ5 => ?_
 rw [z0x]
 refine z7Ca 12 fun T hT => ?_
 simp (maxSteps := 1000000) (disch := first | omega | (simp; done) | (simp; omega)) [z7a, z1a, z0a, List.take, List.drop, hl, h290, hcp, hcq]
 rw [hT]; clear hT
 refine z7Ca 1 fun T hT => ?_
 simp only [List.drop, List.take, List.cons_append, List.nil_append, z6Ya]
 simp (maxSteps := 1000000) (disch := first | omega | (simp; done) | (simp; omega)) [z7a, z1a, z0a, z3n, z6m]
 rw [hT]; clear hT
 refine z7Ca 1 fun T hT => ?_
 simp only [List.drop, List.take, List.cons_append, List.nil_append, z6Ya]
 simp (maxSteps := 1000000) (disch := first | omega | (simp; done) | (simp; omega)) [z7a, z1a, z0a, z3n, z6m]
 rw [hT]; clear hT
 simp only [List.drop, List.take, List.cons_append, List.nil_append, z6Ya]
 simp (maxSteps := 1000000) (disch := first | omega | (simp; done) | (simp; omega)) [z7a, z1a, z0a, z3n, z6m]
 rw [hQ5]; clear hQ5
 simp only [z1va]
 rw [z3Lb]
 by_cases hv0 : vk = []
 ·right
  subst hv0
  simp only [z18]
  refine z2s fun B hB => ?_
  simp (maxSteps := 1000000) (disch := first | omega | (simp; done) | (simp; omega)) [z7a, z1a, z0a, hl, e29, z5B]
  refine z3a fun Q1 hQ1 => ?_
  refine z7d (fun _ : Nat => ⟨[(2, .ep [i64 vt, i64 vm, i64 ve, i64 vn, .sl .plain nk 0 []]), (3, .ep (z7k nc nm ng x)), (0, .agg [i64 vt, i64 vm, i64 ve, i64 vn, .sl .plain nk 0 []]), (1, .agg (z7k nc nm ng x))], [(4, .bp 4 0), (6, .bp 6 0), (39, .sl .plain ng x.gone.length (z6j x.gone)), (40, i64 x.gone.length), (41, i64 0)],
   [(4, some [i64 0, i64 0, i64 0, i64 0, .sl .plain none 0 []]), (6, some [i64 x.time, i64 x.mode, i64 (ve + 1), i64 vn, .sl (.own 24) none 0 []])]⟩)
   (fun _ => 0) (fun _ => True) 0 (by simp) trivial fun i _ => ?_
  refine z3a fun Q2 hQ2 => ?_
  by_cases hg : x.gone.length = 0
  ·have hg0 : x.gone = [] := List.length_eq_zero_iff.1 hg
   rw [hg0] at hR
   simp only [z60, Option.bind_some] at hR
   simp (maxSteps := 1000000) (disch := first | omega | (simp; done) | (simp; omega)) [z7a, z1a, z0a, z7S, hg, kT, kF, dT, dF, hQ2, hQ1]
   rw [hB]; clear hB
   simp only [z06]
   refine z2s fun B hB => ?_
   by_cases hk : x.kind = 13
   ·have hz : z8ra x [] = none := by simp [z8ra, hk, z6X]
    rw [hz] at hR
    have p2 := z19a (nl := none) (nc := nc) (nm := nm) (ng := ng) (l := []) (x := x) (by intro m hm; cases hm) (by simp) hx
    have q2 := z5ya none nc nm ng (l := []) x (by intro m hm; cases hm)
    rw [z5B] at p2 q2
    simp only [List.length_nil] at p2 q2
    rw [show z2Fa (fun m => decide (m.id = x.cmd.key)) [] = -1 from rfl] at q2
    have ok2 : z1x [] (fun _ => none) (.fn 308 [] [.ep (z7k nc nm ng x)]) = True := eq_true ⟨fun _ h => (by cases h), fun v h => by rw [List.mem_singleton] at h; subst h; rfl⟩
    subst hR
    simp (maxSteps := 1000000) (disch := first | omega | (simp; done) | (simp; omega)) [z7a, z1a, z0a, hl, hk, h309, p2, q2, ok2, z1o, z0s, kT, kF, dT, dF, hQ0, z6Cb, z9A, z3n, z6m, z5B]
    skip
   ·have hz : z8ra x [] = some [] := by simp [z8ra, hk]
    rw [hz] at hR
    simp (maxSteps := 1000000) (disch := first | omega | (simp; done) | (simp; omega)) [z7a, z1a, z0a, hl, hk, kT, kF, dT, dF]
    rw [hB]; clear hB
    rw [hQ0, ← hR]
    exact z42a E (nc := nc) (nm := nm) (ng := ng) (vt := vt) (vm := vm) (ve := ve) (vn := vn) (vk := []) hx (l := []) (by intro m hm; cases hm) (by simp) ke0 ke1 kn0 kn1
  ·have hz : z60 x.gone [] = none := by
    cases hgg : x.gone with
    | nil => rw [hgg] at hg; exact absurd rfl hg
    | cons a r => simp [z60, z6Sb, z6X]
   rw [hz] at hR
   have hlt : (0 : Int) < x.gone.length := by omega
   have ha := z1Oa (l := x.gone) (i := 0) (by omega)
   have hil := z7Oa x.gone
   generalize x.gone.getD 0 0 = k at *
   rw [List.drop_zero] at ha
   have p1 := z2cb (nl := none) (l := []) k (by intro m hm; cases hm) (by simp)
   have q1 := z3xa none (l := []) k (by intro m hm; cases hm)
   rw [z5B] at p1 q1
   simp only [List.length_nil] at p1 q1
   rw [show z2Fa (fun m => decide (m.id = k)) [] = -1 from rfl] at q1
   subst hR
   simp (maxSteps := 1000000) (disch := first | omega | (simp; done) | (simp; omega)) [z7a, z1a, z0a, z7S, z89, hlt, ha, hil, h306, p1, q1, z1o, z0s, kT, kF, dT, dF, hQ2, hQ1, hQ0, z6Cb, z9A, z3n, z6m, z5B]
   exact ⟨by omega, by omega, z9cc (k := k) (by simp) (by simp)⟩
 ·left
  have hpos : 0 < vk.length := List.length_pos_iff.2 hv0
  rw [z1Xa]
  refine ⟨?_, fun m => ?_⟩
  ·simp [z2za, hpos, z7Ba]
  rw [z2xb (k := 24) (n := vk.length) (nl := none) (cs := z0b vk) (bs := [i64 x.time, i64 x.mode, i64 (ve + 1), i64 vn, .sl (.own 24) none vk.length (z0b vk)]) (by simp) (by rfl), z4Tb]
  have hcn : vk.length ≤ vk.length + m := by omega
  generalize vk.length + m = c at *
  rw [z9fa]
  refine ⟨by simp [z7r], ?_⟩
  rw [z36b]
  simp only [z82]
  refine z2s fun B hB => ?_
  simp (maxSteps := 1000000) (disch := first | omega | (simp; done) | (simp; omega)) [z7a, z1a, z0a, hl, e29]
  refine z3a fun Q1 hQ1 => ?_
  refine z7d (fun a : Nat × List z0f => ⟨[(2, .ep [i64 vt, i64 vm, i64 ve, i64 vn, .sl .plain nk vk.length (z0b vk)]), (3, .ep (z7k nc nm ng x)), (0, .agg [i64 vt, i64 vm, i64 ve, i64 vn, .sl .plain nk vk.length (z0b vk)]), (1, .agg (z7k nc nm ng x))], [(4, .bp 4 0), (6, .bp 6 0), (39, .sl .plain ng x.gone.length (z6j x.gone)), (40, i64 x.gone.length), (41, i64 a.1)],
   [(4, some [i64 0, i64 0, i64 0, i64 0, .sl .plain none 0 []]), (6, some [i64 x.time, i64 x.mode, i64 (ve + 1), i64 vn, .bv 500006 24 0 a.2.length c]), (500006, some (z1r a.2 c))]⟩)
   (fun a => x.gone.length - a.1) (fun a => a.1 ≤ x.gone.length ∧ z4d a.2 ∧ a.2.length ≤ c ∧ a.2.length ≤ 1000000 ∧ z60 x.gone vk = z60 (x.gone.drop a.1) a.2) (0, vk) (by simp) (by simp; exact ⟨k16, hcn, kl⟩) fun ⟨i, l⟩ hi => ?_
  obtain ⟨hi, l16, lc, ll, hgo⟩ := hi
  simp only at hi l16 lc ll hgo ⊢
  refine z3a fun Q2 hQ2 => ?_
  have hil := z7Oa x.gone
  have hrl := z3ga l16 lc
  have hrt := z6Da l16 c
  by_cases hg : i < x.gone.length
  ·have ha := z1Oa hg
   have ha' := z1db hg
   have hgd := z1Ga hg l
   generalize x.gone.getD i 0 = k at *
   have p1 := z2cb (nl := some false) k l16 ll
   have q1 := z3xa (some false) k l16
   rw [z5Ja] at q1
   by_cases hp : z6X l k < l.length
   ·rw [if_pos hp] at q1
    rw [z3Rb hp] at hgd
    have l16' : z4d (l.eraseIdx (z6X l k)) := fun m hm => l16 m (List.mem_of_mem_eraseIdx hm)
    have le' : (l.eraseIdx (z6X l k)).length = l.length - 1 := List.length_eraseIdx_of_lt hp
    have pw : ∀ bs : Nat → List z2a, bs 500000 = z1r l c → z8gb.pre [.bv 500000 24 0 l.length c, i64 (z6X l k), i64 ((z6X l k : Int) + 1)] bs = True := fun bs hb => eq_true ⟨l, c, z6X l k, l16, lc, ll, hp, rfl, hb⟩
    have pv : ∀ (bs : Nat → List z2a) (j : Nat), bs 500000 = z1r l c → z8gb.out [.bv 500000 24 0 l.length c, i64 (z6X l k), i64 ((z6X l k : Int) + 1)] bs j = z1r (l.eraseIdx (z6X l k)) c := fun bs j hb => z07a l16 hb j
    simp (maxSteps := 1000000) (disch := first | omega | (simp; done) | (simp; omega)) [z7a, z1a, z0a, z5x, z7O, z72, hg, ha, ha', hil, hrl, hrt, h306, p1, q1, z8Wa, z1o, z0s, kT, kF, dT, dF, okW, z5yb, hC307, z8cc, z22c, pw, pv, hQ2, z4Lb, z6ma]
    exact ⟨by omega, ⟨by omega, z9cc (k := k) (by simp) (by simp)⟩, z6cc _ _, i + 1, by omega, l.eraseIdx (z6X l k), ⟨by omega, l16', by omega, by omega, by rw [hgo, hgd]; rfl⟩, by omega, by omega, rfl⟩
   ·rw [if_neg hp] at q1
    rw [z7Vb hp] at hgd
    rw [hgo, hgd] at hR
    simp only [Option.bind_none] at hR
    subst hR
    simp (maxSteps := 1000000) (disch := first | omega | (simp; done) | (simp; omega)) [z7a, z1a, z0a, z5x, z7O, hg, ha, ha', hil, hrl, hrt, h306, p1, q1, z8Wa, z1o, z0s, kT, kF, dT, dF, hQ2, hQ1, hQ0, z6Cb, z9A, z3n, z6m, z5B]
    exact ⟨by omega, by omega, z9cc (k := k) (by simp) (by simp)⟩
  ·have hie : i = x.gone.length := by omega
   subst hie
   rw [List.drop_length, z60] at hgo
   rw [hgo] at hR
   simp only [Option.bind_some] at hR
   simp (maxSteps := 1000000) (disch := first | omega | (simp; done) | (simp; omega)) [z7a, z1a, z0a, z5x, hg, kT, kF, dT, dF, hQ2, hQ1]
   rw [hB]; clear hB
   simp only [z31]
   refine z2s fun B hB => ?_
   by_cases hk : x.kind = 13
   ·have p2 := z19a (nl := some false) (nc := nc) (nm := nm) (ng := ng) l16 ll hx
    have q2 := z5ya (some false) nc nm ng x l16
    rw [z5Ja] at q2
    by_cases hp : z6X l x.cmd.key < l.length
    ·rw [if_pos hp] at q2
     have r2 := z39a (c := c) l16 hp
     have rs := fun z => z5cb (c := c) l16 hp z
     simp (maxSteps := 1000000) (disch := first | omega | (simp; done) | (simp; omega)) [z7a, z1a, z0a, z04, hl, hk, hrl, hrt, h309, p2, q2, r2, rs, z2tc, z8Wa, z1o, z0s, kT, kF, dT, dF]
     refine ⟨by omega, hp, by omega, hp, by omega, ?_⟩
     have hz : z8ra x l = some (l.set (z6X l x.cmd.key) { atD l (z6X l x.cmd.key) with uses := z5hb (atD l (z6X l x.cmd.key)).uses 176 }) := by simp [z8ra, hk, hp, z0Jc, z4ba hp]
     rw [hz] at hR
     have l16' : z4d (l.set (z6X l x.cmd.key) { atD l (z6X l x.cmd.key) with uses := z5hb (atD l (z6X l x.cmd.key)).uses 176 }) := fun m hm => by
      rcases List.mem_or_eq_of_mem_set hm with h | h
      ·exact l16 m h
      ·have := l16 _ (z4fa hp)
       rw [h]
       exact ⟨this.1, this.2.1, z1Ja _ _, this.2.2.2⟩
     rw [hB]; clear hB
     have hkc := z4tc E (Q := Q0) (o := [(2, .ep [i64 vt, i64 vm, i64 ve, i64 vn, .sl .plain nk vk.length (z0b vk)]), (3, .ep (z7k nc nm ng x)), (0, .agg [i64 vt, i64 vm, i64 ve, i64 vn, .sl .plain nk vk.length (z0b vk)]), (1, .agg (z7k nc nm ng x))]) (V4 := [i64 0, i64 0, i64 0, i64 0, .sl .plain none 0 []]) (a := x.time) (b := x.mode) (d := ve + 1) (e := vn) (c := c) l16' (by rw [List.length_set]; exact lc) (by rfl)
     rw [List.length_set] at hkc
     refine hkc ?_
     rw [hQ0, ← hR]
     have hat := z42a E (nc := nc) (nm := nm) (ng := ng) (vt := vt) (vm := vm) (ve := ve) (vn := vn) (vk := vk) (a0 := .agg [i64 vt, i64 vm, i64 ve, i64 vn, .sl .plain nk vk.length (z0b vk)]) (a1 := .agg (z7k nc nm ng x)) (a2 := .ep [i64 vt, i64 vm, i64 ve, i64 vn, .sl .plain nk vk.length (z0b vk)]) hx l16' (by rw [List.length_set]; exact ll) ke0 ke1 kn0 kn1
     rw [List.length_set] at hat
     exact hat
    ·rw [if_neg hp] at q2
     have hz : z8ra x l = none := by simp [z8ra, hk, hp]
     rw [hz] at hR
     subst hR
     simp (maxSteps := 1000000) (disch := first | omega | (simp; done) | (simp; omega)) [z7a, z1a, z0a, hl, hk, hrl, hrt, h309, p2, q2, z2tc, z8Wa, z1o, z0s, kT, kF, dT, dF, hQ0, z6Cb, z9A, z3n, z6m, z5B]
     omega
   ·have hz : z8ra x l = some l := by simp [z8ra, hk]
    rw [hz] at hR
    simp (maxSteps := 1000000) (disch := first | omega | (simp; done) | (simp; omega)) [z7a, z1a, z0a, hl, hk, kT, kF, dT, dF]
    rw [hB]; clear hB
    refine z4tc E l16 lc (by rfl) ?_
    rw [hQ0, ← hR]
    exact z42a E (nc := nc) (nm := nm) (ng := ng) (vt := vt) (vm := vm) (ve := ve) (vn := vn) (vk := vk) hx l16 ll ke0 ke1 kn0 kn1
end Go.Abs
end
