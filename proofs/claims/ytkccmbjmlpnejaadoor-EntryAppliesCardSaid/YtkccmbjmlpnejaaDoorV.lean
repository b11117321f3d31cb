/- Lemmas: an abstract interpreter, and what the functions compute. -/
import Derived.Test.YtkccmbjmlpnejaaDoorT
import Derived.Test.YtkccmbjmlpnejaaDoorN
import Derived.Test.YtkccmbjmlpnejaaDoorD
import Derived.Test.YtkccmbjmlpnejaaDoorP
set_option linter.unusedSimpArgs false
set_option linter.unusedVariables false
set_option linter.unusedSectionVars false
section
namespace Go.Abs
set_option maxRecDepth 100000
def z1r (l : List z0f) (c : Nat) : List z2a := z0b l ++ List.replicate ((c - l.length) * 24) .undef
theorem z3ga {l : List z0f} {c : Nat} (h : z4d l) (hc : l.length ≤ c) : (z1r l c).length = c * 24 := by
 rw [z1r, List.length_append, z0d (z6b h), List.length_replicate, Nat.sub_mul]
 have : l.length * 24 ≤ c * 24 := Nat.mul_le_mul_right _ hc
 omega
theorem z8Pa {l : List z0f} (h : z4d l) (i : Nat) : (z0b l).drop (i * 24) = z0b (l.drop i) := z9ha (enc := z2q) (P := z3Ka) (fun a ha => z3o ha) l i (z6b h)
theorem z9Sa {l : List z0f} (h : z4d l) (i : Nat) : (z0b l).take (i * 24) = z0b (l.take i) := by
 by_cases hi : i ≤ l.length
 ·have e : z0b l = z0b (l.take i) ++ z0b (l.drop i) := by rw [← z43, List.take_append_drop]
  have h' : z4d (l.take i) := fun m hm => h m (List.mem_of_mem_take hm)
  rw [e, List.take_left' (by rw [z0d (z6b h'), List.length_take, Nat.min_eq_left hi])]
 ·rw [List.take_of_length_le (by rw [z0d (z6b h)]; exact Nat.mul_le_mul_right _ (by omega)), List.take_of_length_le (by omega)]
theorem z0Ib {l : List z0f} {c i : Nat} (h : z4d l) (hc : l.length ≤ c) (hi : i ≤ l.length) : ((z1r l c).drop (i * 24)).take ((l.length - i) * 24) = z0b (l.drop i) := by
 have hl : i * 24 ≤ (z0b l).length := by rw [z0d (z6b h)]; exact Nat.mul_le_mul_right _ hi
 have h' : z4d (l.drop i) := fun m hm => h m (List.mem_of_mem_drop hm)
 rw [z1r, List.drop_append_of_le_length hl, z8Pa h, List.take_left' (by rw [z0d (z6b h'), List.length_drop])]
theorem z0Db {l : List z0f} {c i : Nat} (h : z4d l) (hc : l.length ≤ c) (hi : i < l.length) : splice (z1r l c) (i * 24) (z0b (l.drop (i + 1))) = z0b (l.eraseIdx i) ++ ((z0b l).drop ((l.length - 1) * 24) ++ List.replicate ((c - l.length) * 24) .undef) := by
 have h' : z4d (l.drop (i + 1)) := fun m hm => h m (List.mem_of_mem_drop hm)
 have hl := z0d (z6b h)
 have hk : i * 24 ≤ (z0b l).length := by rw [hl]; exact Nat.mul_le_mul_right _ (by omega)
 have hk2 : (l.length - 1) * 24 ≤ (z0b l).length := by rw [hl]; exact Nat.mul_le_mul_right _ (by omega)
 have e : i * 24 + (z0b (l.drop (i + 1))).length = (l.length - 1) * 24 := by rw [z0d (z6b h'), List.length_drop, ← Nat.add_mul]; congr 1; omega
 rw [splice, e, z1r, List.take_append_of_le_length hk, List.drop_append_of_le_length hk2, z9Sa h, ← z43, List.eraseIdx_eq_take_drop_succ]
theorem z6Ab {l : List z0f} {c i : Nat} (h : z4d l) (hc : l.length ≤ c) (hi : i < l.length) : splice (z0b (l.eraseIdx i) ++ ((z0b l).drop ((l.length - 1) * 24) ++ List.replicate ((c - l.length) * 24) .undef)) ((l.length - 1) * 24) (List.replicate 24 .undef) = z1r (l.eraseIdx i) c := by
 have h' : z4d (l.eraseIdx i) := fun m hm => h m (List.mem_of_mem_eraseIdx hm)
 have hl := z0d (z6b h)
 have hl' := z0d (z6b h')
 have he : (l.eraseIdx i).length = l.length - 1 := List.length_eraseIdx_of_lt hi
 rw [he] at hl'
 have hd : ((z0b l).drop ((l.length - 1) * 24)).length = 24 := by rw [List.length_drop, hl, ← Nat.sub_mul]; omega
 rw [splice, List.take_left' hl', List.length_replicate, ← List.drop_drop, List.drop_left' hl', List.drop_left' hd, z1r, he, List.append_assoc, List.replicate_append_replicate]
 congr 2
 omega
def gCap (d : z2a) : Nat := match d with | .bv _ _ _ _ c => c | _ => 0
def z8gb : CW := ⟨[0], [500000], [], fun ds bs => ∃ (l : List z0f) (c i : Nat), z4d l ∧ l.length ≤ c ∧ l.length ≤ 1000000 ∧ i < l.length ∧ ds = [.bv 500000 24 0 l.length c, i64 i, i64 ((i : Int) + 1)] ∧ bs 500000 = z1r l c,
 fun ds _ => .bv 500000 24 0 (z5w (nth ds 0) - 1) (gCap (nth ds 0)),
 fun ds bs _ => z1r ((z9Y (z5w (nth ds 0)) ((bs 500000).take (z5w (nth ds 0) * 24))).eraseIdx (asI (nth ds 1)).toNat) (gCap (nth ds 0))⟩
@[simp] theorem z0qb : z8gb.hold = [0] := rfl
@[simp] theorem z3ec : z8gb.bx = [500000] := rfl
@[simp] theorem z56b : z8gb.nb = [] := rfl
@[simp] theorem z0Oc (n c : Nat) (x y : z2a) (bs : Nat → List z2a) : z8gb.post [.bv 500000 24 0 n c, x, y] bs = .bv 500000 24 0 (n - 1) c := rfl
theorem z07a {l : List z0f} {c i : Nat} {y : z2a} {bs : Nat → List z2a} (h : z4d l) (hb : bs 500000 = z1r l c) (j : Nat) : z8gb.out [.bv 500000 24 0 l.length c, i64 i, y] bs j = z1r (l.eraseIdx i) c := by
 show z1r ((z9Y l.length ((bs 500000).take (l.length * 24))).eraseIdx (asI (i64 (i : Int))).toNat) c = _
 have e : (z1r l c).take (l.length * 24) = z0b l := by rw [z1r, List.take_left' (z0d (z6b h))]
 rw [hb, e, z4F (z6b h)]
 rfl
theorem z6hb (l : List z0f) : (∀ c ∈ z0b l, z5d c ∧ z2f c = false) = True := eq_true fun c hc => by
 obtain ⟨m, _, h⟩ := List.mem_flatMap.1 hc
 exact ⟨(z5F c h).2, of_eq_true (z4Q m) c h⟩
theorem z9Xa : ∀ n : Nat, z2i (List.replicate n z2a.undef) = []
 | 0 => rfl
 | n + 1 => by rw [List.replicate_succ]; show z9r .undef ++ z2i (List.replicate n .undef) = []; rw [z9Xa n]; rfl
theorem z6ma (l : List z0f) (c : Nat) : z2i (z1r l c) = [] := by
 rw [z1r, z3L, z9Xa, List.append_nil]
 induction l with
 | nil => rfl
 | cons m l ih => rw [show z0b (m :: l) = z2q m ++ z0b l from List.flatMap_cons, z3L, ih]; simp [z2q, z2i]
set_option maxHeartbeats 4000000 in
theorem z8Ac (E : Env) : ∀ ds bs p, z8gb.pre ds bs → ds.length = z1j.n ∧ awp E z1j.body (z92c z1j.res z8gb p ds bs) (z3Qa z8gb p ds bs) := by
 rintro _ bs p ⟨l, c, i, h16, hc, hm, hi, rfl, hb⟩
 have hout := fun j => z07a (c := c) (i := i) (y := i64 ((i : Int) + 1)) h16 hb j
 have hrl := z3ga h16 hc
 have k1 := z0Ib h16 hc (i := i + 1) (by omega)
 have k2 := z0Db h16 hc hi
 have k3 := z6Ab h16 hc hi
 have he : (l.eraseIdx i).length = l.length - 1 := List.length_eraseIdx_of_lt hi
 generalize hR : z1r l c = R at *
 have b1 : (i : Int) + 1 ≤ l.length := by omega
 have hne : ((i : Int) == (i : Int) + 1) = false := beq_false_of_ne (by omega)
 have b2 : ((i : Int) + 1).toNat = i + 1 := by omega
 have hl1 : l.length - (i + 1) + i = l.length - 1 := by omega
 have hcs := z6hb (l.drop (i + 1))
 simp (maxSteps := 1000000) (disch := first | omega | (simp; done) | (simp; omega)) [z7a, z1a, z0a, z1j, z3Qa, z2dc, hb, b1]
 refine ⟨⟨by omega, by omega⟩, ?_⟩
 simp (maxSteps := 1000000) (disch := first | omega | (simp; done) | (simp; omega)) [z7a, z1a, z0a, hne, kF]
 rw [z0nb]
 refine ⟨p 0, ⟨500000, by simp, ⟨24, 0, l.length, c, by simp⟩, 24, 0, l.length, c, by simp⟩, fun V hV => ?_⟩
 rw [z1qb]
 have h16' : z4d (l.eraseIdx i) := fun m hm => h16 m (List.mem_of_mem_eraseIdx hm)
 have L1 := z0d (z6b h16')
 have L2 := z0d (z6b h16)
 rw [he] at L1
 have e1 : i + (l.length - (i + 1)) = l.length - 1 := by omega
 have e2 : ((i : Int) + ((l.length - (i + 1) : Nat) : Int)).toNat = l.length - 1 := by omega
 have e3 : l.length - (l.length - 1) = 1 := by omega
 simp (maxSteps := 1000000) (disch := first | omega | (simp; done) | (simp; omega)) [z7a, z1a, z0a, z9N, b1, b2, hrl, k1, k2, hcs]
 simp only [e1, e2, e3, L1, L2, Nat.one_mul, k3]
 refine ⟨by omega, by omega, ⟨⟨by omega, by omega, by omega⟩, by omega⟩, ⟨by omega, by omega, by omega⟩, by omega, ?_⟩
 have hpu : z2i (z1r (l.eraseIdx i) c) = [] := z6ma _ _
 refine ⟨by simp, by simp [z8ma], fun j hj => .inr ?_, fun j hj => ?_, by simp, fun j hj id hid => ?_⟩
 ·simp only [z0qb, List.mem_singleton] at hj
  subst hj
  exact ⟨8, V, 500000, 24, 0, l.length, c, 24, 0, l.length, c, by simp, hV, by simp, rfl⟩
 ·simp only [z3ec, z56b, List.append_nil, List.mem_singleton] at hj
  subst hj
  simp [hout]
 ·rw [hout, hpu] at hid
  cases hid
end Go.Abs
end

section
namespace Go.Abs
set_option maxRecDepth 100000
def gEp (d : z2a) : List z2a := match d with | .ep cs => cs | _ => []
def z5Za : z5a := ⟨fun ds => ∃ (m : z0f) (i : Int), m.ok ∧ ds = [.agg (z2q m), .ep [i64 i]], fun ds => bo (decide ((z3vb (gCs (nth ds 0))).id = asI (nth (gEp (nth ds 1)) 0)))⟩
theorem z97a {m : z0f} (i : Int) (h : m.ok) : z5Za.pre [.agg (z2q m), .ep [i64 i]] = True := eq_true ⟨m, i, h, rfl⟩
theorem z5Ba (m : z0f) (i : Int) : z5Za.post [.agg (z2q m), .ep [i64 i]] = bo (decide (m.id = i)) := by
 show bo (decide ((z3vb (z2q m)).id = i)) = _
 rw [z8ea]
theorem z8Zb (E : Env) : ∀ ds, z5Za.pre ds → ds.length = z9m.n ∧ awp E z9m.body (z9u z9m.res (z5Za.post ds)) (z8c z9m.wr ds) := by
 rintro _ ⟨m, i, hm, rfl⟩
 rw [z5Ba]
 have hd := hm.2.2.2.2.2.2.2
 have hl := z3o hd
 have h0 : hdA (z2q m) = i64 m.id := rfl
 simp (maxSteps := 1000000) (disch := first | omega | (simp; done) | (simp; omega)) [z7a, z1a, z0a, z9m, hl, z3lb, z25b, z78c hd, h0]
 rfl
def z83a : z5a := ⟨fun ds => ∃ (m : z0f) (nc nm ng : Option Bool) (x : z3s), m.ok ∧ x.small ∧ ds = [.agg (z2q m), .ep (z7k nc nm ng x)], fun ds => bo (decide ((z3vb (gCs (nth ds 0))).id = asI (nth (gEp (nth ds 1)) 5)))⟩
theorem z7Cb {m : z0f} {nc nm ng : Option Bool} {x : z3s} (h : m.ok) (hx : x.small) : z83a.pre [.agg (z2q m), .ep (z7k nc nm ng x)] = True := eq_true ⟨m, nc, nm, ng, x, h, hx, rfl⟩
theorem z5Qa (m : z0f) (nc nm ng : Option Bool) (x : z3s) : z83a.post [.agg (z2q m), .ep (z7k nc nm ng x)] = bo (decide (m.id = x.cmd.key)) := by
 show bo (decide ((z3vb (z2q m)).id = x.cmd.key)) = _
 rw [z8ea]
theorem z42b (E : Env) : ∀ ds, z83a.pre ds → ds.length = z7m.n ∧ awp E z7m.body (z9u z7m.res (z83a.post ds)) (z8c z7m.wr ds) := by
 rintro _ ⟨m, nc, nm, ng, x, hm, hx, rfl⟩
 rw [z5Qa]
 have hd := hm.2.2.2.2.2.2.2
 have hl := z3o hd
 have h0 : hdA (z2q m) = i64 m.id := rfl
 have hle := z6d (nc := nc) (nm := nm) (ng := ng) hx.1.2.2.2.2.2.1
 simp (maxSteps := 1000000) (disch := first | omega | (simp; done) | (simp; omega)) [z7a, z1a, z0a, z7m, hl, z3lb, z25b, z78c hd, h0, hle]
 rfl
def z52a : z5a := ⟨fun ds => ∃ (nl : Option Bool) (l : List z0f) (k : Int), z4d l ∧ l.length ≤ 1000000 ∧ ds = [.sl .plain nl l.length (z0b l), .fn 305 [] [.ep [i64 k]]], fun ds => i64 (z2Fa (fun m => decide (m.id = (match nth ds 1 with | .fn _ _ [d] => asI (nth (gEp d) 0) | _ => 0))) (z9Y (gNn (nth ds 0)) (gCs (nth ds 0))))⟩
theorem z2cb {nl : Option Bool} {l : List z0f} (k : Int) (h : z4d l) (h1 : l.length ≤ 1000000) : z52a.pre [.sl .plain nl l.length (z0b l), .fn 305 [] [.ep [i64 k]]] = True := eq_true ⟨nl, l, k, h, h1, rfl⟩
theorem z3xa (nl : Option Bool) {l : List z0f} (k : Int) (h : z4d l) : z52a.post [.sl .plain nl l.length (z0b l), .fn 305 [] [.ep [i64 k]]] = i64 (z2Fa (fun m => decide (m.id = k)) l) := by
 show i64 (z2Fa (fun m => decide (m.id = k)) (z9Y l.length (z0b l))) = _
 rw [z4F (z6b h)]
set_option maxHeartbeats 4000000 in
theorem z85b (E : Env) (h305 : E.G 305 = z5Za) : ∀ ds, z52a.pre ds → ds.length = z7b.n ∧ awp E z7b.body (z9u z7b.res (z52a.post ds)) (z8c z7b.wr ds) := by
 rintro _ ⟨nl, l, k, h16, hl, rfl⟩
 rw [z3xa nl k h16]
 have hlen := z0d (z6b h16)
 simp (maxSteps := 1000000) (disch := first | omega | (simp; done) | (simp; omega)) [z7a, z1a, z0a, z7b]
 refine z3a fun Q0 hQ0 => ?_
 refine z7d (fun i : Nat => ⟨[(0, .sl .plain nl l.length (z0b l)), (1, .fn 305 [] [.ep [i64 k]])], [(7, i64 l.length), (8, i64 i)], []⟩)
  (fun i => l.length - i) (fun i => i ≤ l.length ∧ ∀ j < i, decide ((atM l j).id = k) = false) 0 (by simp) (by simp) fun i hi => ?_
 obtain ⟨hi, he⟩ := hi
 refine z3a fun Q1 hQ1 => ?_
 by_cases h1 : i < l.length
 ·have hm := h16 _ (z2la h1)
  have ha := z8da h16 h1
  have hle := z4Ka h16 h1
  have hle' : i * 24 ≤ l.length * 24 := by omega
  have hle2 : 24 ≤ l.length * 24 - i * 24 := by omega
  by_cases h2 : (atM l i).id = k
  ·have hR := z9La (p := fun m => decide (m.id = k)) h1 he (by simpa using h2)
   simp (maxSteps := 1000000) (disch := first | omega | (simp; done) | (simp; omega)) [z7a, z1a, z0a, z6e, z1i, kT, kF, dT, dF, h1, ha, hlen, hle', hle2, h305, z97a _ hm, z5Ba, h2, z4C, hQ1, hQ0, hR]
  ·simp (maxSteps := 1000000) (disch := first | omega | (simp; done) | (simp; omega)) [z7a, z1a, z0a, z6e, z1i, kT, kF, dT, dF, h1, ha, hlen, hle', hle2, h305, z97a _ hm, z5Ba, h2, z4C, hQ1]
   refine ⟨i + 1, by omega, ⟨by omega, fun j hj => ?_⟩, by omega⟩
   rcases Nat.lt_or_eq_of_le (Nat.lt_succ_iff.1 hj) with h | h
   ·simpa using he j h
   ·rw [h]; simpa using h2
 ·have hl' : i = l.length := by omega
  have hR := z4Oa (p := fun m => decide (m.id = k)) (l := l) (fun j hj => he j (by omega))
  simp (maxSteps := 1000000) (disch := first | omega | (simp; done) | (simp; omega)) [z7a, z1a, z0a, z6e, kT, kF, dT, dF, h1, hQ1, hQ0, z4m, hR]
def z21a : z5a := ⟨fun ds => ∃ (nl nc nm ng : Option Bool) (l : List z0f) (x : z3s), z4d l ∧ l.length ≤ 1000000 ∧ x.small ∧ ds = [.sl .plain nl l.length (z0b l), .fn 308 [] [.ep (z7k nc nm ng x)]], fun ds => i64 (z2Fa (fun m => decide (m.id = (match nth ds 1 with | .fn _ _ [d] => asI (nth (gEp d) 5) | _ => 0))) (z9Y (gNn (nth ds 0)) (gCs (nth ds 0))))⟩
theorem z19a {nl nc nm ng : Option Bool} {l : List z0f} {x : z3s} (h : z4d l) (h1 : l.length ≤ 1000000) (hx : x.small) : z21a.pre [.sl .plain nl l.length (z0b l), .fn 308 [] [.ep (z7k nc nm ng x)]] = True := eq_true ⟨nl, nc, nm, ng, l, x, h, h1, hx, rfl⟩
theorem z5ya (nl nc nm ng : Option Bool) {l : List z0f} (x : z3s) (h : z4d l) : z21a.post [.sl .plain nl l.length (z0b l), .fn 308 [] [.ep (z7k nc nm ng x)]] = i64 (z2Fa (fun m => decide (m.id = x.cmd.key)) l) := by
 show i64 (z2Fa (fun m => decide (m.id = x.cmd.key)) (z9Y l.length (z0b l))) = _
 rw [z4F (z6b h)]
set_option maxHeartbeats 4000000 in
theorem z14b (E : Env) (h308 : E.G 308 = z83a) : ∀ ds, z21a.pre ds → ds.length = z8b.n ∧ awp E z8b.body (z9u z8b.res (z21a.post ds)) (z8c z8b.wr ds) := by
 rintro _ ⟨nl, nc, nm, ng, l, x, h16, hl, hx, rfl⟩
 rw [z5ya nl nc nm ng x h16]
 have hlen := z0d (z6b h16)
 have p2 := fun (m : z0f) (hm : m.ok) => z7Cb (nc := nc) (nm := nm) (ng := ng) hm hx
 have q2 := fun (m : z0f) => z5Qa m nc nm ng x
 generalize hk : x.cmd.key = k at *
 have hpu : z7h (z7k nc nm ng x) = true := z6Ta nc nm ng x
 generalize z7k nc nm ng x = X at *
 simp (maxSteps := 1000000) (disch := first | omega | (simp; done) | (simp; omega)) [z7a, z1a, z0a, z8b]
 refine z3a fun Q0 hQ0 => ?_
 refine z7d (fun i : Nat => ⟨[(0, .sl .plain nl l.length (z0b l)), (1, .fn 308 [] [.ep X])], [(7, i64 l.length), (8, i64 i)], []⟩)
  (fun i => l.length - i) (fun i => i ≤ l.length ∧ ∀ j < i, decide ((atM l j).id = k) = false) 0 (by simp) (by simp) fun i hi => ?_
 obtain ⟨hi, he⟩ := hi
 refine z3a fun Q1 hQ1 => ?_
 by_cases h1 : i < l.length
 ·have hm := h16 _ (z2la h1)
  have ha := z8da h16 h1
  have hle := z4Ka h16 h1
  have hle' : i * 24 ≤ l.length * 24 := by omega
  have hle2 : 24 ≤ l.length * 24 - i * 24 := by omega
  have p3 := p2 _ hm
  by_cases h2 : (atM l i).id = k
  ·have hR := z9La (p := fun m => decide (m.id = k)) h1 he (by simpa using h2)
   simp (maxSteps := 1000000) (disch := first | omega | (simp; done) | (simp; omega)) [z7a, z1a, z0a, z5e, z0i, kT, kF, dT, dF, h1, ha, hlen, hle', hle2, h308, p3, q2, h2, z4C, hQ1, hQ0, hR, hpu]
  ·simp (maxSteps := 1000000) (disch := first | omega | (simp; done) | (simp; omega)) [z7a, z1a, z0a, z5e, z0i, kT, kF, dT, dF, h1, ha, hlen, hle', hle2, h308, p3, q2, h2, z4C, hQ1, hpu]
   refine ⟨i + 1, by omega, ⟨by omega, fun j hj => ?_⟩, by omega⟩
   rcases Nat.lt_or_eq_of_le (Nat.lt_succ_iff.1 hj) with h | h
   ·simpa using he j h
   ·rw [h]; simpa using h2
 ·have hl' : i = l.length := by omega
  have hR := z4Oa (p := fun m => decide (m.id = k)) (l := l) (fun j hj => he j (by omega))
  simp (maxSteps := 1000000) (disch := first | omega | (simp; done) | (simp; omega)) [z7a, z1a, z0a, z5e, kT, kF, dT, dF, h1, hQ1, hQ0, z2m, hR]
end Go.Abs
end
