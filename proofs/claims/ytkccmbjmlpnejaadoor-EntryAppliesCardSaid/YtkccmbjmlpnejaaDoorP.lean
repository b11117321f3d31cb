/- Lemmas: an abstract interpreter, and what the functions compute. -/
import Derived.Test.YtkccmbjmlpnejaaDoorN
import Derived.Test.YtkccmbjmlpnejaaDoorD
import Derived.KernelRfl
set_option linter.unusedSimpArgs false
set_option linter.unusedVariables false
set_option linter.unusedSectionVars false
section
namespace Go.Abs
set_option maxRecDepth 100000
def z8hc : z5a := ⟨fun ds => ∃ m : z0f, m.ok ∧ ds = [.agg (z2q m)], fun ds => bo (z3ha (z3vb (gCs (nth ds 0))))⟩
theorem z9fc {m : z0f} (h : m.ok) : z8hc.pre [.agg (z2q m)] = True := eq_true ⟨m, h, rfl⟩
theorem z27a (m : z0f) : z8hc.post [.agg (z2q m)] = bo (z3ha m) := by
 show bo (z3ha (z3vb (z2q m))) = _
 rw [z8ea]
set_option maxHeartbeats 4000000 in
theorem z9Hc (E : Env) (h295 : E.G 295 = z8Fb) : ∀ ds, z8hc.pre ds → ds.length = z4n.n ∧ awp E z4n.body (z9u z4n.res (z8hc.post ds)) (z8c z4n.wr ds) := by
 rintro _ ⟨m, hm, rfl⟩
 rw [z27a]
 have hd := hm.2.2.2.2.2.2.2
 have hl := z3o hd
 obtain ⟨Z, hZ⟩ : ∃ Z, Z = z3ha m := ⟨_, rfl⟩
 rw [← hZ]
 refine ⟨rfl, ?_⟩
 simp only [z4n]
 refine z3a fun Q9 hQ9 => ?_
 refine z2s fun B hB => ?_
 simp (maxSteps := 1000000) (disch := first | omega | (simp; done) | (simp; omega)) [z7a, z1a, z0a, hl, z3F, z4Q]
 rw [hB]; clear hB
 rw [z9F]
 refine z3a fun Q1 hQ1 => ?_
 rw [z0x]
 refine z4b fun T hT => ?_
 simp (maxSteps := 1000000) (disch := first | omega | (simp; done) | (simp; omega)) [z7a, z1a, z0a, z42, hl, h295]
 by_cases c1 : inR m.id 1 2147483647 = true
 rotate_left
 ·refine z7c false 6 2 (by simp [c1]) (by rw [hT]; kernel_rfl) (by rw [hT]; kernel_rfl) ?_
  have hz : Z = false := by rw [hZ]; simp [z3ha, z9la, z13a, z5ua, c1]
  simp (maxSteps := 1000000) (disch := first | omega | (simp; done) | (simp; omega)) [z7a, z1a, z0a, hQ1, hQ9, hz]
 rw [hT]; clear hT
 refine z4b fun T hT => ?_
 simp (maxSteps := 1000000) (disch := first | omega | (simp; done) | (simp; omega)) [z7a, z1a, z0a, z03, hl, h295, c1]
 by_cases c2 : inR m.ver 1 2147483647 = true
 rotate_left
 ·refine z7c false 11 2 (by simp [c2]) (by rw [hT]; kernel_rfl) (by rw [hT]; kernel_rfl) ?_
  have hz : Z = false := by rw [hZ]; simp [z3ha, z9la, z13a, z5ua, c2]
  simp (maxSteps := 1000000) (disch := first | omega | (simp; done) | (simp; omega)) [z7a, z1a, z0a, hQ1, hQ9, hz]
 rw [hT]; clear hT
 refine z4b fun T hT => ?_
 simp (maxSteps := 1000000) (disch := first | omega | (simp; done) | (simp; omega)) [z7a, z1a, z0a, z12, hl, h295, c1, c2]
 by_cases c3 : inR m.par 0 2147483647 = true
 rotate_left
 ·refine z7c false 16 2 (by simp [c3]) (by rw [hT]; kernel_rfl) (by rw [hT]; kernel_rfl) ?_
  have hz : Z = false := by rw [hZ]; simp [z3ha, z9la, z13a, z5ua, c3]
  simp (maxSteps := 1000000) (disch := first | omega | (simp; done) | (simp; omega)) [z7a, z1a, z0a, hQ1, hQ9, hz]
 rw [hT]; clear hT
 refine z4b fun T hT => ?_
 simp (maxSteps := 1000000) (disch := first | omega | (simp; done) | (simp; omega)) [z7a, z1a, z0a, z21, hl, h295, c1, c2, c3]
 by_cases c4 : inR m.ty 0 31 = true
 rotate_left
 ·refine z7c false 21 2 (by simp [c4]) (by rw [hT]; kernel_rfl) (by rw [hT]; kernel_rfl) ?_
  have hz : Z = false := by rw [hZ]; simp [z3ha, z9la, z13a, z5ua, c4]
  simp (maxSteps := 1000000) (disch := first | omega | (simp; done) | (simp; omega)) [z7a, z1a, z0a, hQ1, hQ9, hz]
 rw [hT]; clear hT
 refine z4b fun T hT => ?_
 simp (maxSteps := 1000000) (disch := first | omega | (simp; done) | (simp; omega)) [z7a, z1a, z0a, z71, hl, h295, c1, c2, c3, c4]
 by_cases c5 : z9Ia m.uses 956 = 0
 rotate_left
 ·refine z7c false 27 2 (by simp [c5]) (by rw [hT]; kernel_rfl) (by rw [hT]; kernel_rfl) ?_
  have hz : Z = false := by rw [hZ]; simp [z3ha, z9la, z13a, z5ua, c5]
  simp (maxSteps := 1000000) (disch := first | omega | (simp; done) | (simp; omega)) [z7a, z1a, z0a, hQ1, hQ9, hz]
 rw [hT]; clear hT
 refine z4b fun T hT => ?_
 simp (maxSteps := 1000000) (disch := first | omega | (simp; done) | (simp; omega)) [z7a, z1a, z0a, z91, hl, h295, c1, c2, c3, c4, c5]
 by_cases c6 : inR m.beg 0 m.fin = true
 rotate_left
 ·refine z7c false 34 2 (by simp [c6]) (by rw [hT]; kernel_rfl) (by rw [hT]; kernel_rfl) ?_
  have hz : Z = false := by rw [hZ]; simp [z3ha, z9la, z13a, z5ua, c6]
  simp (maxSteps := 1000000) (disch := first | omega | (simp; done) | (simp; omega)) [z7a, z1a, z0a, hQ1, hQ9, hz]
 rw [hT]; clear hT
 by_cases c7 : inR m.fin 0 1099511627776 = true
 rotate_left
 ·have hz : Z = false := by rw [hZ]; simp [z3ha, z9la, z13a, z5ua, c7]
  simp (maxSteps := 1000000) (disch := first | omega | (simp; done) | (simp; omega)) [z7a, z1a, z0a, hQ1, hQ9, hz, z5N, hl, h295, c1, c2, c3, c4, c5, c6, c7]
 have hz : Z = true := by rw [hZ]; simp [z3ha, z9la, z13a, z5ua, c1, c2, c3, c4, c5, c6, c7]
 simp (maxSteps := 1000000) (disch := first | omega | (simp; done) | (simp; omega)) [z7a, z1a, z0a, z5N, hl, h295, c1, c2, c3, c4, c5, c6, c7, hQ1, hQ9, hz]
def z02b : z2a := .fn 297 [] [.ep [.fn 296 [] []]]
def z6dc : z5a := ⟨fun ds => ∃ m : z0f, m.ok ∧ ds = [.agg (z2q m), .ep [.fn 296 [] []]], fun ds => bo (!z3ha (z3vb (gCs (nth ds 0))))⟩
theorem z9ob {m : z0f} (h : m.ok) : z6dc.pre [.agg (z2q m), .ep [.fn 296 [] []]] = True := eq_true ⟨m, h, rfl⟩
theorem z6Ma (m : z0f) : z6dc.post [.agg (z2q m), .ep [.fn 296 [] []]] = bo (!z3ha m) := by
 show bo (!z3ha (z3vb (z2q m))) = _
 rw [z8ea]
theorem z3lb (m : z0f) : (∀ c ∈ z2q m, z5d c) = True := eq_true fun c hc => (z5F c hc).2
theorem z25b (m : z0f) : (∀ c ∈ z2q m, z2f c = false) = True := eq_true fun c hc => by
 rcases List.mem_append.1 hc with h | h
 ·simp only [List.mem_cons, List.not_mem_nil, or_false] at h
  rcases h with rfl | rfl | rfl | rfl | rfl | rfl | rfl | rfl <;> rfl
 ·simp only [bys, List.mem_map] at h
  obtain ⟨x, _, rfl⟩ := h
  rfl
theorem z78c {m : z0f} (h : m.dig.length = 16) : (z2q m).take 24 = z2q m := List.take_of_length_le (by rw [z3o h]; exact Nat.le_refl _)
@[simp] theorem z2Oc (m : z0f) : z7h (z2q m) = true := (z5n _).2 fun c hc => (z5F c hc).1
@[simp] theorem z6Ic (m : z0f) : z2i (z2q m) = [] := by simp [z2q, z2i]
theorem z0Fc (E : Env) (h296 : E.G 296 = z8hc) : ∀ ds, z6dc.pre ds → ds.length = z1n.n ∧ awp E z1n.body (z9u z1n.res (z6dc.post ds)) (z8c z1n.wr ds) := by
 rintro _ ⟨m, hm, rfl⟩
 rw [z6Ma]
 have hd := hm.2.2.2.2.2.2.2
 have hl := z3o hd
 simp (maxSteps := 1000000) (disch := first | omega | (simp; done) | (simp; omega)) [z7a, z1a, z0a, z1n, h296, z9fc hm, z27a, hl, z3lb, z25b, z78c hd, z4C]
/-! ### the first key that .. -/
def z2Fa (p : z0f → Bool) (l : List z0f) : Int := if l.findIdx p < l.length then (l.findIdx p : Int) else -1
def atM (l : List z0f) (i : Nat) : z0f := l.getD i z01c
theorem z7aa {l : List z0f} {i : Nat} (h : i < l.length) : atM l i = l[i] := by simp [atM, List.getD, List.getElem?_eq_getElem h]
theorem z2la {l : List z0f} {i : Nat} (h : i < l.length) : atM l i ∈ l := by rw [z7aa h]; exact List.getElem_mem h
theorem z9La {p : z0f → Bool} {l : List z0f} {i : Nat} (hi : i < l.length) (h0 : ∀ j < i, p (atM l j) = false) (h : p (atM l i) = true) : z2Fa p l = i := by
 have e : l.findIdx p = i := by
  apply Nat.le_antisymm
  ·apply Nat.le_of_not_lt
   intro hlt
   have := List.not_of_lt_findIdx (p := p) (xs := l) hlt
   rw [z7aa hi] at h
   rw [h] at this
   cases this
  ·apply Nat.le_of_not_lt
   intro hlt
   have hl : l.findIdx p < l.length := by omega
   have h1 : p l[l.findIdx p] = true := List.findIdx_getElem (w := hl)
   have h2 := h0 _ hlt
   rw [z7aa hl, h1] at h2
   cases h2
 rw [z2Fa, e, if_pos hi]
theorem z4Oa {p : z0f → Bool} {l : List z0f} (h0 : ∀ j < l.length, p (atM l j) = false) : z2Fa p l = -1 := by
 rw [z2Fa, if_neg]
 intro hl
 have h1 : p l[l.findIdx p] = true := List.findIdx_getElem (w := hl)
 have h2 := h0 _ hl
 rw [z7aa hl, h1] at h2
 cases h2
theorem z0Lb (p : z0f → Bool) (l : List z0f) : decide (0 ≤ z2Fa p l) = l.any p := by
 have : l.findIdx p < l.length ↔ l.any p = true := by rw [List.findIdx_lt_length, List.any_eq_true]
 unfold z2Fa
 cases h : l.any p
 ·rw [if_neg (fun e => by rw [this.1 e] at h; cases h)]; rfl
 ·rw [if_pos (this.2 h)]; simp
theorem z8da {l : List z0f} (h : z4d l) {i : Nat} (hi : i < l.length) : ((z0b l).drop (i * 24)).take 24 = z2q (atM l i) := by
 have e1 := z9ha (enc := z2q) (P := z3Ka) (w := 24) (fun a ha => z3o ha) l i (z6b h)
 have hd := z6b h _ (List.getElem_mem hi)
 rw [show z0b l = l.flatMap z2q from rfl, e1, List.drop_eq_getElem_cons hi, List.flatMap_cons, List.take_left' (z3o hd), z7aa hi]
theorem z4Ka {l : List z0f} (h : z4d l) {i : Nat} (hi : i < l.length) : i * 24 + 24 ≤ (z0b l).length := by
 rw [z0d (z6b h)]
 omega
def z6Qa : z5a := ⟨fun ds => ∃ (nl : Option Bool) (l : List z0f), z4d l ∧ l.length ≤ 1000000 ∧ ds = [.sl .plain nl l.length (z0b l), z02b], fun ds => i64 (z2Fa (fun m => !z3ha m) (z9Y (gNn (nth ds 0)) (gCs (nth ds 0))))⟩
theorem z28a {nl : Option Bool} {l : List z0f} (h : z4d l) (h1 : l.length ≤ 1000000) : z6Qa.pre [.sl .plain nl l.length (z0b l), .fn 297 [] [.ep [.fn 296 [] []]]] = True := eq_true ⟨nl, l, h, h1, rfl⟩
theorem z0Wa (nl : Option Bool) {l : List z0f} (h : z4d l) : z6Qa.post [.sl .plain nl l.length (z0b l), .fn 297 [] [.ep [.fn 296 [] []]]] = i64 (z2Fa (fun m => !z3ha m) l) := by
 show i64 (z2Fa (fun m => !z3ha m) (z9Y l.length (z0b l))) = _
 rw [z4F (z6b h)]
set_option maxHeartbeats 4000000 in
theorem z09b (E : Env) (h297 : E.G 297 = z6dc) : ∀ ds, z6Qa.pre ds → ds.length = z9b.n ∧ awp E z9b.body (z9u z9b.res (z6Qa.post ds)) (z8c z9b.wr ds) := by
 rintro _ ⟨nl, l, h16, hl, rfl⟩
 unfold z02b
 rw [z0Wa nl h16]
 have hlen := z0d (z6b h16)
 simp (maxSteps := 1000000) (disch := first | omega | (simp; done) | (simp; omega)) [z7a, z1a, z0a, z9b]
 refine z3a fun Q0 hQ0 => ?_
 refine z7d (fun i : Nat => ⟨[(0, .sl .plain nl l.length (z0b l)), (1, .fn 297 [] [.ep [.fn 296 [] []]])], [(7, i64 l.length), (8, i64 i)], []⟩)
  (fun i => l.length - i) (fun i => i ≤ l.length ∧ ∀ j < i, (!z3ha (atM l j)) = false) 0 (by simp) (by simp) fun i hi => ?_
 obtain ⟨hi, he⟩ := hi
 refine z3a fun Q1 hQ1 => ?_
 by_cases h1 : i < l.length
 ·have hm := h16 _ (z2la h1)
  have ha := z8da h16 h1
  have hle := z4Ka h16 h1
  have hle' : i * 24 ≤ l.length * 24 := by omega
  have hle2 : 24 ≤ l.length * 24 - i * 24 := by omega
  cases h2 : z3ha (atM l i)
  ·have hR := z9La (p := fun m => !z3ha m) h1 he (by rw [h2]; rfl)
   simp (maxSteps := 1000000) (disch := first | omega | (simp; done) | (simp; omega)) [z7a, z1a, z0a, z7e, z9h, kT, kF, dT, dF, h1, ha, hlen, hle', hle2, h297, z9ob hm, z6Ma, h2, z4C, hQ1, hQ0, hR]
  ·simp (maxSteps := 1000000) (disch := first | omega | (simp; done) | (simp; omega)) [z7a, z1a, z0a, z7e, z9h, kT, kF, dT, dF, h1, ha, hlen, hle', hle2, h297, z9ob hm, z6Ma, h2, z4C, hQ1]
   refine ⟨i + 1, by omega, ⟨by omega, fun j hj => ?_⟩, by omega⟩
   rcases Nat.lt_or_eq_of_le (Nat.lt_succ_iff.1 hj) with h | h
   ·simpa using he j h
   ·rw [h]; simpa using h2
 ·have hl' : i = l.length := by omega
  have hR := z4Oa (p := fun m => !z3ha m) (l := l) (fun j hj => he j (by omega))
  simp (maxSteps := 1000000) (disch := first | omega | (simp; done) | (simp; omega)) [z7a, z1a, z0a, z7e, kT, kF, dT, dF, h1, hQ1, hQ0, z3m, hR]
def z11a : z5a := ⟨z6Qa.pre, fun ds => bo (!(z9Y (gNn (nth ds 0)) (gCs (nth ds 0))).all z3ha)⟩
theorem z9Ma {nl : Option Bool} {l : List z0f} (h : z4d l) (h1 : l.length ≤ 1000000) : z11a.pre [.sl .plain nl l.length (z0b l), .fn 297 [] [.ep [.fn 296 [] []]]] = True := z28a h h1
theorem z3pa (nl : Option Bool) {l : List z0f} (h : z4d l) : z11a.post [.sl .plain nl l.length (z0b l), .fn 297 [] [.ep [.fn 296 [] []]]] = bo (!l.all z3ha) := by
 show bo (!(z9Y l.length (z0b l)).all z3ha) = _
 rw [z4F (z6b h)]
theorem z0jc (E : Env) (h313 : E.G 313 = z6Qa) : ∀ ds, z11a.pre ds → ds.length = z1b.n ∧ awp E z1b.body (z9u z1b.res (z11a.post ds)) (z8c z1b.wr ds) := by
 rintro _ ⟨nl, l, h16, hl, rfl⟩
 unfold z02b
 rw [z3pa nl h16, List.all_eq_not_any_not, Bool.not_not, ← z0Lb]
 simp (maxSteps := 1000000) (disch := first | omega | (simp; done) | (simp; omega)) [z7a, z1a, z0a, z1b, h313, z28a h16 hl, z0Wa nl h16, z5na, z1o, z0s]
end Go.Abs
end

section
namespace Go.Abs
set_option maxRecDepth 100000
theorem z15 (n lo hi : Int) : inR n lo hi = true ↔ lo ≤ n ∧ n ≤ hi := by simp [inR]
theorem z4ga {x : z3s} (h : okE x = true) : 0 ≤ x.time ∧ x.time ≤ 1099511627776 ∧ 0 ≤ x.req ∧ x.req ≤ 2147483647 ∧ 1 ≤ x.mode ∧ x.mode ≤ 5 ∧ x.made.length ≤ 4096 ∧ x.gone.length ≤ 4096 := by
 simp only [okE, z15, Bool.and_eq_true, decide_eq_true_eq] at h
 simp only [z9la, z13a] at h
 omega
theorem z1ba : z8C.small := by
 refine ⟨⟨?_, ?_, ?_, ?_, ?_, ?_, ?_⟩, by simp [z8C], by simp [z8C]⟩ <;> simp [z8C, z6k]
theorem z6ha {t m : Int} (ht : z6k t) (hm : z6k m) : (z1wa t m).small := by
 refine ⟨⟨ht, by simp [z1wa, z6k], by simp [z1wa, z6k], hm, z1ba.1, rfl, fun _ h => (by cases h), fun _ h => (by cases h)⟩, z1ba, by simp [z1wa], by simp [z1wa]⟩
set_option maxHeartbeats 8000000 in
theorem z40b (E : Env) (h295 : E.G 295 = z8Fb) (h298 : E.G 298 = z11a) (h294 : E.G 294 = z4Xb) (h299 : E.G 299 = z6Va) (h293 : E.G 293 = z1Tb) : ∀ ds, z47a.pre ds → ds.length = z0r.n ∧ awp E z0r.body (z9u z0r.res (z47a.post ds)) (z8c z0r.wr ds) := by
 rintro _ ⟨nc, nm, ng, x, hx, rfl⟩
 rw [z2ha hx]
 have hm16 := hx.1.2.2.2.2.2.2.1
 have hd := hx.1.2.2.2.2.2.1
 have hml := hx.2.2.1
 have hgl := hx.2.2.2
 have hmp := z6ha hx.1.1 hx.1.2.2.2.1
 have hl := z6d (nc := nc) (nm := nm) (ng := ng) hd
 have htk := z8q (nc := nc) (nm := nm) (ng := ng) hd
 have h28 := z2ka (nc := nc) (nm := nm) (ng := ng) hd
 have h29 := z9sa (nc := nc) (nm := nm) (ng := ng) hd
 obtain ⟨Z, hZ⟩ : ∃ Z, Z = okE x := ⟨_, rfl⟩
 rw [← hZ]
 refine ⟨rfl, ?_⟩
 simp only [z0r]
 refine z3a fun Q9 hQ9 => ?_
 refine z2s fun B hB => ?_
 simp (maxSteps := 1000000) (disch := first | omega | (simp; done) | (simp; omega)) [z7a, z1a, z0a, hl]
 rw [hB]; clear hB
 rw [z9F]
 refine z3a fun Q1 hQ1 => ?_
 rw [z9F]
 refine z3a fun Q2 hQ2 => ?_
 rw [z0x]
 refine z4b fun T hT => ?_
 simp (maxSteps := 1000000) (disch := first | omega | (simp; done) | (simp; omega)) [z7a, z1a, z0a, z8ba, hl, h295, h28, h29]
 by_cases c1 : inR x.time 0 1099511627776 = true
 rotate_left
 ·refine z7c true 8 31 (by simp [c1]) (by rw [hT]; kernel_rfl) (by rw [hT]; kernel_rfl) ?_
  have hz : Z = false := by
   cases hc : okE x
   ·rw [hZ, hc]
   ·have hq := z4ga hc
    exfalso
    first | omega | (have := mt (z15 _ _ _).2 c1; omega)
  simp (maxSteps := 1000000) (disch := first | omega | (simp; done) | (simp; omega)) [z7a, z1a, z0a, hQ2, hQ1, hQ9, kT, hz]
 rw [hT]; clear hT
 refine z4b fun T hT => ?_
 simp (maxSteps := 1000000) (disch := first | omega | (simp; done) | (simp; omega)) [z7a, z1a, z0a, z5ca, hl, h295, h28, h29, c1]
 by_cases c2 : inR x.req 0 2147483647 = true
 rotate_left
 ·refine z7c true 14 31 (by simp [c2]) (by rw [hT]; kernel_rfl) (by rw [hT]; kernel_rfl) ?_
  have hz : Z = false := by
   cases hc : okE x
   ·rw [hZ, hc]
   ·have hq := z4ga hc
    exfalso
    first | omega | (have := mt (z15 _ _ _).2 c2; omega)
  simp (maxSteps := 1000000) (disch := first | omega | (simp; done) | (simp; omega)) [z7a, z1a, z0a, hQ2, hQ1, hQ9, kT, hz]
 rw [hT]; clear hT
 refine z4b fun T hT => ?_
 simp (maxSteps := 1000000) (disch := first | omega | (simp; done) | (simp; omega)) [z7a, z1a, z0a, z2ca, hl, h295, h28, h29, c1, c2]
 by_cases c3 : inR x.mode 1 5 = true
 rotate_left
 ·refine z7c true 20 31 (by simp [c3]) (by rw [hT]; kernel_rfl) (by rw [hT]; kernel_rfl) ?_
  have hz : Z = false := by
   cases hc : okE x
   ·rw [hZ, hc]
   ·have hq := z4ga hc
    exfalso
    first | omega | (have := mt (z15 _ _ _).2 c3; omega)
  simp (maxSteps := 1000000) (disch := first | omega | (simp; done) | (simp; omega)) [z7a, z1a, z0a, hQ2, hQ1, hQ9, kT, hz]
 rw [hT]; clear hT
 refine z4b fun T hT => ?_
 simp (maxSteps := 1000000) (disch := first | omega | (simp; done) | (simp; omega)) [z7a, z1a, z0a, z9ca, hl, h295, h28, h29, c1, c2, c3]
 by_cases n4 : 4096 < (x.made.length : Int)
 ·refine z7c true 26 31 (by simp [n4]) (by rw [hT]; kernel_rfl) (by rw [hT]; kernel_rfl) ?_
  have hz : Z = false := by
   cases hc : okE x
   ·rw [hZ, hc]
   ·have hq := z4ga hc
    exfalso
    first | omega | (have := mt (z15 _ _ _).2 n4; omega)
  simp (maxSteps := 1000000) (disch := first | omega | (simp; done) | (simp; omega)) [z7a, z1a, z0a, hQ2, hQ1, hQ9, kT, hz]
 rw [hT]; clear hT
 by_cases n5 : 4096 < (x.gone.length : Int)
 ·have hz : Z = false := by
   cases hc : okE x
   ·rw [hZ, hc]
   ·have hq := z4ga hc
    exfalso
    first | omega | (have := mt (z15 _ _ _).2 n5; omega)
  simp (maxSteps := 1000000) (disch := first | omega | (simp; done) | (simp; omega)) [z7a, z1a, z0a, hQ2, hQ1, hQ9, kT, hz, z2W, hl, h295, h28, h29, c1, c2, c3, n4, n5]
 simp (maxSteps := 1000000) (disch := first | omega | (simp; done) | (simp; omega)) [z7a, z1a, z0a, z2W, hl, h295, h28, h29, c1, c2, c3, n4, n5, hQ2, hQ1, kF]
 have q4 : x.made.length ≤ 4096 := by omega
 have q5 : x.gone.length ≤ 4096 := by omega
 cases c6 : x.made.all z3ha
 ·have hz : Z = false := by simp only [hZ, okE, c6]; simp
  simp (maxSteps := 1000000) (disch := first | omega | (simp; done) | (simp; omega)) [z7a, z1a, z0a, z2F, h298, z9Ma hm16 hml, z3pa nm hm16, z5na, z1o, z0s, hl, c6, h28, kT, kF, hQ9, hz]
 have hzz : Z = if x.kind = 0 then z80 x (z1wa x.time x.mode) else inR x.kind 1 27 && (x.cmd.kind == x.kind) && (!z8cb x.kind || decide (x.cmd.data = [])) := by
  simp only [hZ, okE, c6, c3, q4, q5, z13a, z9la, c1, c2, decide_true, Bool.true_and, Bool.and_true]
 by_cases hk : x.kind = 0
 ·rw [if_pos hk] at hzz
  simp (maxSteps := 1000000) (disch := first | omega | (simp; done) | (simp; omega)) [z7a, z1a, z0a, z2F, z3W, h298, z9Ma hm16 hml, z3pa nm hm16, z5na, z1o, z0s, hl, htk, c6, h28, kT, kF, hk, h294, h299, z67a hx hmp, z1Aa hx hmp, hQ9, hzz]
 rw [if_neg hk] at hzz
 have hk' : (x.kind == 0) = false := by simpa using hk
 simp (maxSteps := 1000000) (disch := first | omega | (simp; done) | (simp; omega)) [z7a, z1a, z0a, z2F, z3W, h298, z9Ma hm16 hml, z3pa nm hm16, z5na, z1o, z0s, hl, c6, h28, kT, kF, hk, hk']
 simp only [z9ba]
 rw [z9F]
 refine z3a fun Q3 hQ3 => ?_
 rw [z0x]
 by_cases c7 : inR x.kind 1 27 = true
 rotate_left
 ·have hz : Z = false := by rw [hzz]; simp [c7]
  simp (maxSteps := 1000000) (disch := first | omega | (simp; done) | (simp; omega)) [z7a, z1a, z0a, z9V, z1F, z6w, hl, h295, c7, hQ3, hQ9, hz]
 refine z4b fun T hT => ?_
 simp (maxSteps := 1000000) (disch := first | omega | (simp; done) | (simp; omega)) [z7a, z1a, z0a, z9V, hl, h295, c7]
 rw [hT]; clear hT
 by_cases c8 : x.cmd.kind = x.kind
 rotate_left
 ·have hz : Z = false := by rw [hzz]; simp [c8]
  have c8' : (x.cmd.kind == x.kind) = false := by simpa using c8
  simp (maxSteps := 1000000) (disch := first | omega | (simp; done) | (simp; omega)) [z7a, z1a, z0a, z1F, z6w, hl, c7, c8', hQ3, hQ9, hz]
 refine z4b fun T hT => ?_
 simp (maxSteps := 1000000) (disch := first | omega | (simp; done) | (simp; omega)) [z7a, z1a, z0a, z1F, hl, h295, c7, c8]
 rw [hT]; clear hT
 cases c9 : z8cb x.kind
 ·have hz : Z = true := by rw [hzz]; simp [c7, c8, c9]
  simp (maxSteps := 1000000) (disch := first | omega | (simp; done) | (simp; omega)) [z7a, z1a, z0a, z6w, h293, hl, c7, c8, c9, hQ3, hQ9, hz]
 have hz : Z = decide (x.cmd.data = []) := by rw [hzz]; simp [c7, c8, c9]
 simp (maxSteps := 1000000) (disch := first | omega | (simp; done) | (simp; omega)) [z7a, z1a, z0a, z6w, h293, hl, c7, c8, c9, hQ3, hQ9, hz]
end Go.Abs
end

section
namespace Go.Abs
set_option maxRecDepth 100000
theorem z2ec {l : List UInt8} (h : l.length = 16) : ∃ a b c d e f g i j k m n o p q r, l = [a, b, c, d, e, f, g, i, j, k, m, n, o, p, q, r] := by
 match l, h with
 | [a, b, c, d, e, f, g, i, j, k, m, n, o, p, q, r], _ => exact ⟨a, b, c, d, e, f, g, i, j, k, m, n, o, p, q, r, rfl⟩
theorem eqM {x y : z0f} (hx : x.dig.length = 16) (hy : y.dig.length = 16) : z1P kM (z2q x) (z2q y) = decide (x = y) := by
 obtain ⟨x1, x2, x3, x4, x5, x6, x7, x8, xd⟩ := x
 obtain ⟨y1, y2, y3, y4, y5, y6, y7, y8, yd⟩ := y
 simp only at hx hy
 obtain ⟨a, b, c, d, e, f, g, i, j, k, m, n, o, p, q, r, rfl⟩ := z2ec hx
 obtain ⟨a', b', c', d', e', f', g', i', j', k', m', n', o', p', q', r', rfl⟩ := z2ec hy
 have h8 : ∀ u v : UInt8, ((u.toNat : Int) == v.toNat) = (u == v) := fun u v => by
  rw [Bool.eq_iff_iff, beq_iff_eq, beq_iff_eq]
  constructor
  ·intro h; exact UInt8.toNat_inj.1 (by omega)
  ·rintro rfl; rfl
 rw [Bool.eq_iff_iff]
 simp [kM, z1P, z0Zc, z2q, bys, h8, z0f.mk.injEq]
theorem z7Zc {x : z0f} (hx : x.dig.length = 16) : z7C kM (z2q x) = True := by
 obtain ⟨x1, x2, x3, x4, x5, x6, x7, x8, xd⟩ := x
 simp only at hx
 obtain ⟨a, b, c, d, e, f, g, i, j, k, m, n, o, p, q, r, rfl⟩ := z2ec hx
 refine eq_true ?_
 repeat' first | exact trivial | exact rfl | refine And.intro ?_ ?_
def z66 : z5a := ⟨fun ds => ∃ (nl nl' : Option Bool) (a b : List z0f), z4d a ∧ z4d b ∧ a.length ≤ 1000000 ∧ ds = [.sl .plain nl a.length (z0b a), .sl .plain nl' b.length (z0b b)],
 fun ds => bo (decide (z9Y (gNn (nth ds 0)) (gCs (nth ds 0)) = z9Y (gNn (nth ds 1)) (gCs (nth ds 1))))⟩
theorem z4za {nl nl' : Option Bool} {a b : List z0f} (h : z4d a) (h' : z4d b) (hl : a.length ≤ 1000000) : z66.pre [.sl .plain nl a.length (z0b a), .sl .plain nl' b.length (z0b b)] = True := eq_true ⟨nl, nl', a, b, h, h', hl, rfl⟩
theorem z75 (nl nl' : Option Bool) {a b : List z0f} (h : z4d a) (h' : z4d b) : z66.post [.sl .plain nl a.length (z0b a), .sl .plain nl' b.length (z0b b)] = bo (decide (a = b)) := by
 show bo (decide (z9Y a.length (z0b a) = z9Y b.length (z0b b))) = _
 rw [z4F (z6b h), z4F (z6b h')]
theorem z3wb {a b : List z0f} (h : a.length = b.length) (he : a.take a.length = b.take a.length) : a = b := by
 rw [List.take_length, h, List.take_length] at he
 exact he
set_option maxHeartbeats 4000000 in
theorem z1Kb (E : Env) : ∀ ds, z66.pre ds → ds.length = z0h.n ∧ awp E z0h.body (z9u z0h.res (z66.post ds)) (z8c z0h.wr ds) := by
 rintro _ ⟨nl, nl', a, b, ha, hb, hl, rfl⟩
 rw [z75 nl nl' ha hb]
 by_cases h : a.length = b.length
 rotate_left
 ·have hz : decide (a = b) = false := by simpa using fun e : a = b => h (by rw [e])
  have h' : ¬ ((a.length : Int) = b.length) := by omega
  simp (maxSteps := 1000000) (disch := first | omega | (simp; done) | (simp; omega)) [z7a, z1a, z0a, z0h, z3x, h', kT, kF, hz]
 have h' : ((a.length : Int) = b.length) := by omega
 have hla := z0d (z6b ha)
 have hlb := z0d (z6b hb)
 simp (maxSteps := 1000000) (disch := first | omega | (simp; done) | (simp; omega)) [z7a, z1a, z0a, z0h, z3x, h', kT, kF]
 refine z3a fun Q0 hQ0 => ?_
 refine z7d (fun i : Nat => ⟨[(0, .sl .plain nl a.length (z0b a)), (1, .sl .plain nl' b.length (z0b b))], [(12, i64 a.length), (13, i64 i)], []⟩)
  (fun i => a.length - i) (fun i => i ≤ a.length ∧ a.take i = b.take i) 0 (by simp [h']) (by simp) fun i hi => ?_
 obtain ⟨hi, he⟩ := hi
 refine z3a fun Q1 hQ1 => ?_
 by_cases h1 : i < a.length
 ·have h3 : i < b.length := by omega
  have e1 := z8da ha h1
  have e2 := z8da hb h3
  have l1 : 24 ≤ a.length * 24 - i * 24 := by omega
  have l2 : 24 ≤ b.length * 24 - i * 24 := by omega
  have l3 : i * 24 ≤ a.length * 24 := by omega
  have l4 : i * 24 ≤ b.length * 24 := by omega
  have d1 := (ha _ (z2la h1)).2.2.2.2.2.2.2
  have d2 := (hb _ (z2la h3)).2.2.2.2.2.2.2
  have hq := eqM d1 d2
  have ho1 := z7Zc d1
  have ho2 := z7Zc d2
  by_cases h2 : atM a i = atM b i
  ·rw [← h2] at e2 ho2 hq
   simp only [decide_true] at hq
   simp (maxSteps := 1000000) (disch := first | omega | (simp; done) | (simp; omega)) [z7a, z1a, z0a, z1q, z2x, kT, kF, dT, dF, h1, h3, hla, hlb, e1, e2, l1, l2, l3, l4, hq, ho1, hQ1]
   refine ⟨i + 1, by omega, ⟨by omega, ?_⟩, by omega⟩
   rw [List.take_succ_eq_append_getElem h1, List.take_succ_eq_append_getElem h3, he, ← z7aa h1, ← z7aa h3, h2]
  ·have hz : decide (a = b) = false := by simpa using fun e : a = b => h2 (by rw [e])
   have hq' : z1P kM (z2q (atM a i)) (z2q (atM b i)) = false := by rw [hq]; simpa using h2
   simp (maxSteps := 1000000) (disch := first | omega | (simp; done) | (simp; omega)) [z7a, z1a, z0a, z1q, z2x, kT, kF, dT, dF, h1, h3, hla, hlb, e1, e2, l1, l2, l3, l4, hq', ho1, ho2, hQ1, hQ0, hz]
 ·have e : i = a.length := by omega
  subst e
  have hz : decide (a = b) = true := by simpa using z3wb h he
  simp (maxSteps := 1000000) (disch := first | omega | (simp; done) | (simp; omega)) [z7a, z1a, z0a, z1q, z8P, kT, kF, dT, dF, hQ1, hQ0, hz]
theorem z7Qb (a b : List Int) : decide (a = b) = (a == b) := by rw [Bool.eq_iff_iff]; simp
set_option maxHeartbeats 8000000 in
theorem z0Eb (E : Env) (h133 : E.G 133 = z08) (h301 : E.G 301 = z66) (h132 : E.G 132 = z1K) : ∀ ds, z6Va.pre ds → ds.length = z9t.n ∧ awp E z9t.body (z9u z9t.res (z6Va.post ds)) (z8c z9t.wr ds) := by
 rintro _ ⟨nc, nm, ng, nc', nm', ng', x, y, hx, hy, rfl⟩
 rw [z1Aa hx hy]
 have hd := hx.1.2.2.2.2.2.1
 have hd' := hy.1.2.2.2.2.2.1
 have hl := z6d (nc := nc) (nm := nm) (ng := ng) hd
 have hl' := z6d (nc := nc') (nm := nm') (ng := ng') hd'
 have h28 := z2ka (nc := nc) (nm := nm) (ng := ng) hd
 have h29 := z9sa (nc := nc) (nm := nm) (ng := ng) hd
 have h28' := z2ka (nc := nc') (nm := nm') (ng := ng') hd'
 have h29' := z9sa (nc := nc') (nm := nm') (ng := ng') hd'
 have hg := z5za (nc := nc) (nm := nm) (ng := ng) hd
 have hg' := z5za (nc := nc') (nm := nm') (ng := ng') hd'
 have hm := hx.1.2.2.2.2.2.2.1
 have hm' := hy.1.2.2.2.2.2.2.1
 have hgl := hx.2.2.2
 obtain ⟨Z, hZ⟩ : ∃ Z, Z = z80 x y := ⟨_, rfl⟩
 rw [← hZ]
 have eqd := z2b hd hd'
 have p1 := z3za (nl := nc) (nl' := nc') hx.2.1 hy.2.1
 have q1 := z09 x.cmd y.cmd nc nc'
 have p2 := z4za (nl := nm) (nl' := nm') hm hm' hx.2.2.1
 have q2 := z75 nm nm' hm hm'
 refine ⟨rfl, ?_⟩
 simp only [z9t]
 refine z3a fun Q9 hQ9 => ?_
 refine z2s fun B hB => ?_
 simp (maxSteps := 1000000) (disch := first | omega | (simp; done) | (simp; omega)) [z7a, z1a, z0a, hl, hl']
 rw [hB]; clear hB
 rw [z9F]
 refine z3a fun Q1 hQ1 => ?_
 rw [z0x]
 refine z4b fun T hT => ?_
 simp (maxSteps := 1000000) (disch := first | omega | (simp; done) | (simp; omega)) [z7a, z1a, z0a, z3ea, hl, hl', h28, h29, h28', h29', hg, hg', eqd, hd, hd', h133, h301, h132, p1, q1, p2, q2]
 by_cases c1 : x.time = y.time
 rotate_left
 ·refine z7c false 10 4 (by simp [c1]) (by rw [hT]; kernel_rfl) (by rw [hT]; kernel_rfl) ?_
  have hz : Z = false := by rw [hZ]; simp [z80, c1]
  simp (maxSteps := 1000000) (disch := first | omega | (simp; done) | (simp; omega)) [z7a, z1a, z0a, hQ1, hQ9, hz]
 rw [hT]; clear hT
 refine z4b fun T hT => ?_
 simp (maxSteps := 1000000) (disch := first | omega | (simp; done) | (simp; omega)) [z7a, z1a, z0a, z0ga, hl, hl', h28, h29, h28', h29', hg, hg', eqd, hd, hd', h133, h301, h132, p1, q1, p2, q2, c1]
 by_cases c2 : x.kind = y.kind
 rotate_left
 ·refine z7c false 17 4 (by simp [c2]) (by rw [hT]; kernel_rfl) (by rw [hT]; kernel_rfl) ?_
  have hz : Z = false := by rw [hZ]; simp [z80, c2]
  simp (maxSteps := 1000000) (disch := first | omega | (simp; done) | (simp; omega)) [z7a, z1a, z0a, hQ1, hQ9, hz]
 rw [hT]; clear hT
 refine z4b fun T hT => ?_
 simp (maxSteps := 1000000) (disch := first | omega | (simp; done) | (simp; omega)) [z7a, z1a, z0a, z5ga, hl, hl', h28, h29, h28', h29', hg, hg', eqd, hd, hd', h133, h301, h132, p1, q1, p2, q2, c1, c2]
 by_cases c3 : x.req = y.req
 rotate_left
 ·refine z7c false 24 4 (by simp [c3]) (by rw [hT]; kernel_rfl) (by rw [hT]; kernel_rfl) ?_
  have hz : Z = false := by rw [hZ]; simp [z80, c3]
  simp (maxSteps := 1000000) (disch := first | omega | (simp; done) | (simp; omega)) [z7a, z1a, z0a, hQ1, hQ9, hz]
 rw [hT]; clear hT
 refine z4b fun T hT => ?_
 simp (maxSteps := 1000000) (disch := first | omega | (simp; done) | (simp; omega)) [z7a, z1a, z0a, z6fa, hl, hl', h28, h29, h28', h29', hg, hg', eqd, hd, hd', h133, h301, h132, p1, q1, p2, q2, c1, c2, c3]
 by_cases c4 : x.mode = y.mode
 rotate_left
 ·refine z7c false 31 4 (by simp [c4]) (by rw [hT]; kernel_rfl) (by rw [hT]; kernel_rfl) ?_
  have hz : Z = false := by rw [hZ]; simp [z80, c4]
  simp (maxSteps := 1000000) (disch := first | omega | (simp; done) | (simp; omega)) [z7a, z1a, z0a, hQ1, hQ9, hz]
 rw [hT]; clear hT
 refine z4b fun T hT => ?_
 simp (maxSteps := 1000000) (disch := first | omega | (simp; done) | (simp; omega)) [z7a, z1a, z0a, z2ea, hl, hl', h28, h29, h28', h29', hg, hg', eqd, hd, hd', h133, h301, h132, p1, q1, p2, q2, c1, c2, c3, c4]
 by_cases c5 : x.dig = y.dig
 rotate_left
 ·refine z7c false 38 4 (by simp [c5]) (by rw [hT]; kernel_rfl) (by rw [hT]; kernel_rfl) ?_
  have hz : Z = false := by rw [hZ]; simp [z80, c5]
  simp (maxSteps := 1000000) (disch := first | omega | (simp; done) | (simp; omega)) [z7a, z1a, z0a, hQ1, hQ9, hz]
 rw [hT]; clear hT
 refine z4b fun T hT => ?_
 simp (maxSteps := 1000000) (disch := first | omega | (simp; done) | (simp; omega)) [z7a, z1a, z0a, z1ha, hl, hl', h28, h29, h28', h29', hg, hg', eqd, hd, hd', h133, h301, h132, p1, q1, p2, q2, c1, c2, c3, c4, c5]
 by_cases c6 : z6za x.cmd y.cmd = true
 rotate_left
 ·refine z7c false 45 4 (by simp [c6]) (by rw [hT]; kernel_rfl) (by rw [hT]; kernel_rfl) ?_
  have hz : Z = false := by rw [hZ]; simp [z80, c6]
  simp (maxSteps := 1000000) (disch := first | omega | (simp; done) | (simp; omega)) [z7a, z1a, z0a, hQ1, hQ9, hz]
 rw [hT]; clear hT
 refine z4b fun T hT => ?_
 simp (maxSteps := 1000000) (disch := first | omega | (simp; done) | (simp; omega)) [z7a, z1a, z0a, z5ea, hl, hl', h28, h29, h28', h29', hg, hg', eqd, hd, hd', h133, h301, h132, p1, q1, p2, q2, c1, c2, c3, c4, c5, c6]
 by_cases c7 : x.made = y.made
 rotate_left
 ·refine z7c false 52 4 (by simp [c7]) (by rw [hT]; kernel_rfl) (by rw [hT]; kernel_rfl) ?_
  have hz : Z = false := by rw [hZ]; simp [z80, c7]
  simp (maxSteps := 1000000) (disch := first | omega | (simp; done) | (simp; omega)) [z7a, z1a, z0a, hQ1, hQ9, hz]
 rw [hT]; clear hT
 have hz : Z = (x.gone == y.gone) := by
  rw [← z7Qb, hZ]
  simp [z80, c1, c2, c3, c4, c5, c6, c7]
 simp (maxSteps := 1000000) (disch := first | omega | (simp; done) | (simp; omega)) [z7a, z1a, z0a, z8fa, hl, hl', h28, h29, h28', h29', hg, hg', eqd, hd, hd', h133, h301, h132, p1, q1, p2, q2, z1za, c1, c2, c3, c4, c5, c6, c7, hQ1, hQ9, hz]
end Go.Abs
end

section
namespace Go.Abs
set_option maxRecDepth 100000
theorem z7Aa : ∀ (l : List z0f) (n : Int), z5gb l n = true ↔ ∀ j < l.length, (atD l j).id = n + j
 | [], n => by simp [z5gb]
 | a :: l, n => by
  rw [z5gb, Bool.and_eq_true, beq_iff_eq, z7Aa l (n + 1)]
  constructor
  ·rintro ⟨h1, h2⟩ j hj
   cases j with
   | zero => simpa [atD] using h1
   | succ j =>
    have := h2 j (by simpa using hj)
    simp only [atD, List.getD_cons_succ] at this ⊢
    omega
  ·intro h
   refine ⟨by simpa [atD] using h 0 (by simp), fun j hj => ?_⟩
   have := h (j + 1) (by simpa using hj)
   simp only [atD, List.getD_cons_succ] at this ⊢
   omega
theorem z5B : z0b [] = [] := rfl
end Go.Abs
end
