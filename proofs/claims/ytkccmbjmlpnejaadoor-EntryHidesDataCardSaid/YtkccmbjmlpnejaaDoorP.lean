/- Lemmas: an abstract interpreter, and what the functions compute. -/
import Derived.Test.YtkccmbjmlpnejaaDoorN
import Derived.Test.YtkccmbjmlpnejaaDoorD
import Derived.KernelRfl
set_option linter.unusedSimpArgs false
set_option linter.unusedVariables false
set_option linter.unusedSectionVars false
section
namespace Go.Abs
set_option maxRecDepth 100000
def z71b : z4a := ⟨fun ds => ∃ m : z4j, m.ok ∧ ds = [.agg (z8u m)], fun ds => bo (z2ha (z4Db (gCs (nth ds 0))))⟩
theorem z5Wb {m : z4j} (h : m.ok) : z71b.pre [.agg (z8u m)] = True := eq_true ⟨m, h, rfl⟩
theorem z98a (m : z4j) : z71b.post [.agg (z8u m)] = bo (z2ha m) := by
 show bo (z2ha (z4Db (z8u m))) = _
 rw [z5oa]
set_option maxHeartbeats 4000000 in
theorem z1Ec (E : Env) (h295 : E.G 295 = z1Lb) : ∀ ds, z71b.pre ds → ds.length = z6m.n ∧ awp E z6m.body (z9t z6m.res (z71b.post ds)) (z6c z6m.wr ds) := by
 rintro _ ⟨m, hm, rfl⟩
 rw [z98a]
 have hd := hm.2.2.2.2.2.2.2
 have hl := z9p hd
 obtain ⟨Z, hZ⟩ : ∃ Z, Z = z2ha m := ⟨_, rfl⟩
 rw [← hZ]
 refine ⟨rfl, ?_⟩
 simp only [z6m]
 refine z3a fun Q9 hQ9 => ?_
 refine z9j fun B hB => ?_
 simp (maxSteps := 1000000) (disch := first | omega | (simp; done) | (simp; omega)) [z7a, z1a, z0a, hl, z5L, z9Y]
 rw [hB]; clear hB
 rw [z8y]
 refine z3a fun Q1 hQ1 => ?_
 rw [z2r]
 refine z2b fun T hT => ?_
 simp (maxSteps := 1000000) (disch := first | omega | (simp; done) | (simp; omega)) [z7a, z1a, z0a, z22, hl, h295]
 by_cases c1 : inR m.id 1 2147483647 = true
 rotate_left
 ·refine z7b false 6 2 (by simp [c1]) (by rw [hT]; kernel_rfl) (by rw [hT]; kernel_rfl) ?_
  have hz : Z = false := by rw [hZ]; simp [z2ha, z0ua, z1Za, z9ta, c1]
  simp (maxSteps := 1000000) (disch := first | omega | (simp; done) | (simp; omega)) [z7a, z1a, z0a, hQ1, hQ9, hz]
 rw [hT]; clear hT
 refine z2b fun T hT => ?_
 simp (maxSteps := 1000000) (disch := first | omega | (simp; done) | (simp; omega)) [z7a, z1a, z0a, z9Z, hl, h295, c1]
 by_cases c2 : inR m.ver 1 2147483647 = true
 rotate_left
 ·refine z7b false 11 2 (by simp [c2]) (by rw [hT]; kernel_rfl) (by rw [hT]; kernel_rfl) ?_
  have hz : Z = false := by rw [hZ]; simp [z2ha, z0ua, z1Za, z9ta, c2]
  simp (maxSteps := 1000000) (disch := first | omega | (simp; done) | (simp; omega)) [z7a, z1a, z0a, hQ1, hQ9, hz]
 rw [hT]; clear hT
 refine z2b fun T hT => ?_
 simp (maxSteps := 1000000) (disch := first | omega | (simp; done) | (simp; omega)) [z7a, z1a, z0a, z90, hl, h295, c1, c2]
 by_cases c3 : inR m.par 0 2147483647 = true
 rotate_left
 ·refine z7b false 16 2 (by simp [c3]) (by rw [hT]; kernel_rfl) (by rw [hT]; kernel_rfl) ?_
  have hz : Z = false := by rw [hZ]; simp [z2ha, z0ua, z1Za, z9ta, c3]
  simp (maxSteps := 1000000) (disch := first | omega | (simp; done) | (simp; omega)) [z7a, z1a, z0a, hQ1, hQ9, hz]
 rw [hT]; clear hT
 refine z2b fun T hT => ?_
 simp (maxSteps := 1000000) (disch := first | omega | (simp; done) | (simp; omega)) [z7a, z1a, z0a, z02, hl, h295, c1, c2, c3]
 by_cases c4 : inR m.ty 0 31 = true
 rotate_left
 ·refine z7b false 21 2 (by simp [c4]) (by rw [hT]; kernel_rfl) (by rw [hT]; kernel_rfl) ?_
  have hz : Z = false := by rw [hZ]; simp [z2ha, z0ua, z1Za, z9ta, c4]
  simp (maxSteps := 1000000) (disch := first | omega | (simp; done) | (simp; omega)) [z7a, z1a, z0a, hQ1, hQ9, hz]
 rw [hT]; clear hT
 refine z2b fun T hT => ?_
 simp (maxSteps := 1000000) (disch := first | omega | (simp; done) | (simp; omega)) [z7a, z1a, z0a, z70, hl, h295, c1, c2, c3, c4]
 by_cases c5 : z7Ka m.uses 956 = 0
 rotate_left
 ·refine z7b false 27 2 (by simp [c5]) (by rw [hT]; kernel_rfl) (by rw [hT]; kernel_rfl) ?_
  have hz : Z = false := by rw [hZ]; simp [z2ha, z0ua, z1Za, z9ta, c5]
  simp (maxSteps := 1000000) (disch := first | omega | (simp; done) | (simp; omega)) [z7a, z1a, z0a, hQ1, hQ9, hz]
 rw [hT]; clear hT
 refine z2b fun T hT => ?_
 simp (maxSteps := 1000000) (disch := first | omega | (simp; done) | (simp; omega)) [z7a, z1a, z0a, z20, hl, h295, c1, c2, c3, c4, c5]
 by_cases c6 : inR m.beg 0 m.fin = true
 rotate_left
 ·refine z7b false 34 2 (by simp [c6]) (by rw [hT]; kernel_rfl) (by rw [hT]; kernel_rfl) ?_
  have hz : Z = false := by rw [hZ]; simp [z2ha, z0ua, z1Za, z9ta, c6]
  simp (maxSteps := 1000000) (disch := first | omega | (simp; done) | (simp; omega)) [z7a, z1a, z0a, hQ1, hQ9, hz]
 rw [hT]; clear hT
 by_cases c7 : inR m.fin 0 1099511627776 = true
 rotate_left
 ·have hz : Z = false := by rw [hZ]; simp [z2ha, z0ua, z1Za, z9ta, c7]
  simp (maxSteps := 1000000) (disch := first | omega | (simp; done) | (simp; omega)) [z7a, z1a, z0a, hQ1, hQ9, hz, z0K, hl, h295, c1, c2, c3, c4, c5, c6, c7]
 have hz : Z = true := by rw [hZ]; simp [z2ha, z0ua, z1Za, z9ta, c1, c2, c3, c4, c5, c6, c7]
 simp (maxSteps := 1000000) (disch := first | omega | (simp; done) | (simp; omega)) [z7a, z1a, z0a, z0K, hl, h295, c1, c2, c3, c4, c5, c6, c7, hQ1, hQ9, hz]
def z90b : z2a := .fn 297 [] [.ep [.fn 296 [] []]]
def z85b : z4a := ⟨fun ds => ∃ m : z4j, m.ok ∧ ds = [.agg (z8u m), .ep [.fn 296 [] []]], fun ds => bo (!z2ha (z4Db (gCs (nth ds 0))))⟩
theorem z3ib {m : z4j} (h : m.ok) : z85b.pre [.agg (z8u m), .ep [.fn 296 [] []]] = True := eq_true ⟨m, h, rfl⟩
theorem z1Ma (m : z4j) : z85b.post [.agg (z8u m), .ep [.fn 296 [] []]] = bo (!z2ha m) := by
 show bo (!z2ha (z4Db (z8u m))) = _
 rw [z5oa]
theorem z9zc (m : z4j) : (∀ c ∈ z8u m, z1d c) = True := eq_true fun c hc => (z28 c hc).2
theorem z7Yc (m : z4j) : (∀ c ∈ z8u m, z3g c = false) = True := eq_true fun c hc => by
 rcases List.mem_append.1 hc with h | h
 ·simp only [List.mem_cons, List.not_mem_nil, or_false] at h
  rcases h with rfl | rfl | rfl | rfl | rfl | rfl | rfl | rfl <;> rfl
 ·simp only [bys, List.mem_map] at h
  obtain ⟨x, _, rfl⟩ := h
  rfl
theorem tk_m {m : z4j} (h : m.dig.length = 16) : (z8u m).take 24 = z8u m := List.take_of_length_le (by rw [z9p h]; exact Nat.le_refl _)
@[simp] theorem z5qc (m : z4j) : z5h (z8u m) = true := (z8p _).2 fun c hc => (z28 c hc).1
@[simp] theorem z2Bc (m : z4j) : z4k (z8u m) = [] := by simp [z8u, z4k]
theorem z3zc (E : Env) (h296 : E.G 296 = z71b) : ∀ ds, z85b.pre ds → ds.length = z4m.n ∧ awp E z4m.body (z9t z4m.res (z85b.post ds)) (z6c z4m.wr ds) := by
 rintro _ ⟨m, hm, rfl⟩
 rw [z1Ma]
 have hd := hm.2.2.2.2.2.2.2
 have hl := z9p hd
 simp (maxSteps := 1000000) (disch := first | omega | (simp; done) | (simp; omega)) [z7a, z1a, z0a, z4m, h296, z5Wb hm, z98a, hl, z9zc, z7Yc, tk_m hd, z2N]
/-! ### the first key that .. -/
def z4Mb (p : z4j → Bool) (l : List z4j) : Int := if l.findIdx p < l.length then (l.findIdx p : Int) else -1
def atM (l : List z4j) (i : Nat) : z4j := l.getD i z9ad
theorem z49 {l : List z4j} {i : Nat} (h : i < l.length) : atM l i = l[i] := by simp [atM, List.getD, List.getElem?_eq_getElem h]
theorem z4Ba {l : List z4j} {i : Nat} (h : i < l.length) : atM l i ∈ l := by rw [z49 h]; exact List.getElem_mem h
theorem z4Xb {p : z4j → Bool} {l : List z4j} {i : Nat} (hi : i < l.length) (h0 : ∀ j < i, p (atM l j) = false) (h : p (atM l i) = true) : z4Mb p l = i := by
 have e : l.findIdx p = i := by
  apply Nat.le_antisymm
  ·apply Nat.le_of_not_lt
   intro hlt
   have := List.not_of_lt_findIdx (p := p) (xs := l) hlt
   rw [z49 hi] at h
   rw [h] at this
   cases this
  ·apply Nat.le_of_not_lt
   intro hlt
   have hl : l.findIdx p < l.length := by omega
   have h1 : p l[l.findIdx p] = true := List.findIdx_getElem (w := hl)
   have h2 := h0 _ hlt
   rw [z49 hl, h1] at h2
   cases h2
 rw [z4Mb, e, if_pos hi]
theorem z26b {p : z4j → Bool} {l : List z4j} (h0 : ∀ j < l.length, p (atM l j) = false) : z4Mb p l = -1 := by
 rw [z4Mb, if_neg]
 intro hl
 have h1 : p l[l.findIdx p] = true := List.findIdx_getElem (w := hl)
 have h2 := h0 _ hl
 rw [z49 hl, h1] at h2
 cases h2
theorem z2Ib (p : z4j → Bool) (l : List z4j) : decide (0 ≤ z4Mb p l) = l.any p := by
 have : l.findIdx p < l.length ↔ l.any p = true := by rw [List.findIdx_lt_length, List.any_eq_true]
 unfold z4Mb
 cases h : l.any p
 ·rw [if_neg (fun e => by rw [this.1 e] at h; cases h)]; rfl
 ·rw [if_pos (this.2 h)]; simp
theorem z2xa {l : List z4j} (h : z8o l) {i : Nat} (hi : i < l.length) : ((z8d l).drop (i * 24)).take 24 = z8u (atM l i) := by
 have e1 := z7va (enc := z8u) (P := z4Sa) (w := 24) (fun a ha => z9p ha) l i (z0h h)
 have hd := z0h h _ (List.getElem_mem hi)
 rw [show z8d l = l.flatMap z8u from rfl, e1, List.drop_eq_getElem_cons hi, List.flatMap_cons, List.take_left' (z9p hd), z49 hi]
theorem z4Vb {l : List z4j} (h : z8o l) {i : Nat} (hi : i < l.length) : i * 24 + 24 ≤ (z8d l).length := by
 rw [z6p (z0h h)]
 omega
def z9Ta : z4a := ⟨fun ds => ∃ (nl : Option Bool) (l : List z4j), z8o l ∧ l.length ≤ 1000000 ∧ ds = [.sl .plain nl l.length (z8d l), z90b], fun ds => i64 (z4Mb (fun m => !z2ha m) (z0da (gNn (nth ds 0)) (gCs (nth ds 0))))⟩
theorem z14a {nl : Option Bool} {l : List z4j} (h : z8o l) (h1 : l.length ≤ 1000000) : z9Ta.pre [.sl .plain nl l.length (z8d l), .fn 297 [] [.ep [.fn 296 [] []]]] = True := eq_true ⟨nl, l, h, h1, rfl⟩
theorem z8Va (nl : Option Bool) {l : List z4j} (h : z8o l) : z9Ta.post [.sl .plain nl l.length (z8d l), .fn 297 [] [.ep [.fn 296 [] []]]] = i64 (z4Mb (fun m => !z2ha m) l) := by
 show i64 (z4Mb (fun m => !z2ha m) (z0da l.length (z8d l))) = _
 rw [z8V (z0h h)]
set_option maxHeartbeats 4000000 in
theorem z55b (E : Env) (h297 : E.G 297 = z85b) : ∀ ds, z9Ta.pre ds → ds.length = z6b.n ∧ awp E z6b.body (z9t z6b.res (z9Ta.post ds)) (z6c z6b.wr ds) := by
 rintro _ ⟨nl, l, h16, hl, rfl⟩
 unfold z90b
 rw [z8Va nl h16]
 have hlen := z6p (z0h h16)
 simp (maxSteps := 1000000) (disch := first | omega | (simp; done) | (simp; omega)) [z7a, z1a, z0a, z6b]
 refine z3a fun Q0 hQ0 => ?_
 refine z3d (fun i : Nat => ⟨[(0, .sl .plain nl l.length (z8d l)), (1, .fn 297 [] [.ep [.fn 296 [] []]])], [(7, i64 l.length), (8, i64 i)], []⟩)
  (fun i => l.length - i) (fun i => i ≤ l.length ∧ ∀ j < i, (!z2ha (atM l j)) = false) 0 (by simp) (by simp) fun i hi => ?_
 obtain ⟨hi, he⟩ := hi
 refine z3a fun Q1 hQ1 => ?_
 by_cases h1 : i < l.length
 ·have hm := h16 _ (z4Ba h1)
  have ha := z2xa h16 h1
  have hle := z4Vb h16 h1
  have hle' : i * 24 ≤ l.length * 24 := by omega
  have hle2 : 24 ≤ l.length * 24 - i * 24 := by omega
  cases h2 : z2ha (atM l i)
  ·have hR := z4Xb (p := fun m => !z2ha m) h1 he (by rw [h2]; rfl)
   simp (maxSteps := 1000000) (disch := first | omega | (simp; done) | (simp; omega)) [z7a, z1a, z0a, z0e, z2h, kT, kF, dT, dF, h1, ha, hlen, hle', hle2, h297, z3ib hm, z1Ma, h2, z2N, hQ1, hQ0, hR]
  ·simp (maxSteps := 1000000) (disch := first | omega | (simp; done) | (simp; omega)) [z7a, z1a, z0a, z0e, z2h, kT, kF, dT, dF, h1, ha, hlen, hle', hle2, h297, z3ib hm, z1Ma, h2, z2N, hQ1]
   refine ⟨i + 1, by omega, ⟨by omega, fun j hj => ?_⟩, by omega⟩
   rcases Nat.lt_or_eq_of_le (Nat.lt_succ_iff.1 hj) with h | h
   ·simpa using he j h
   ·rw [h]; simpa using h2
 ·have hl' : i = l.length := by omega
  have hR := z26b (p := fun m => !z2ha m) (l := l) (fun j hj => he j (by omega))
  simp (maxSteps := 1000000) (disch := first | omega | (simp; done) | (simp; omega)) [z7a, z1a, z0a, z0e, kT, kF, dT, dF, h1, hQ1, hQ0, z8l, hR]
def z8Za : z4a := ⟨z9Ta.pre, fun ds => bo (!(z0da (gNn (nth ds 0)) (gCs (nth ds 0))).all z2ha)⟩
theorem z9Ia {nl : Option Bool} {l : List z4j} (h : z8o l) (h1 : l.length ≤ 1000000) : z8Za.pre [.sl .plain nl l.length (z8d l), .fn 297 [] [.ep [.fn 296 [] []]]] = True := z14a h h1
theorem z4pa (nl : Option Bool) {l : List z4j} (h : z8o l) : z8Za.post [.sl .plain nl l.length (z8d l), .fn 297 [] [.ep [.fn 296 [] []]]] = bo (!l.all z2ha) := by
 show bo (!(z0da l.length (z8d l)).all z2ha) = _
 rw [z8V (z0h h)]
theorem z8Zb (E : Env) (h313 : E.G 313 = z9Ta) : ∀ ds, z8Za.pre ds → ds.length = z4b.n ∧ awp E z4b.body (z9t z4b.res (z8Za.post ds)) (z6c z4b.wr ds) := by
 rintro _ ⟨nl, l, h16, hl, rfl⟩
 unfold z90b
 rw [z4pa nl h16, List.all_eq_not_any_not, Bool.not_not, ← z2Ib]
 simp (maxSteps := 1000000) (disch := first | omega | (simp; done) | (simp; omega)) [z7a, z1a, z0a, z4b, h313, z14a h16 hl, z8Va nl h16, z9ma, z7q, z2z]
end Go.Abs
end

section
namespace Go.Abs
set_option maxRecDepth 100000
theorem z13 (n lo hi : Int) : inR n lo hi = true ↔ lo ≤ n ∧ n ≤ hi := by simp [inR]
theorem z3la {x : z6w} (h : okE x = true) : 0 ≤ x.time ∧ x.time ≤ 1099511627776 ∧ 0 ≤ x.req ∧ x.req ≤ 2147483647 ∧ 1 ≤ x.mode ∧ x.mode ≤ 5 ∧ x.made.length ≤ 4096 ∧ x.gone.length ≤ 4096 := by
 simp only [okE, z13, Bool.and_eq_true, decide_eq_true_eq] at h
 simp only [z0ua, z1Za] at h
 omega
theorem z68 : z9y.small := by
 refine ⟨⟨?_, ?_, ?_, ?_, ?_, ?_, ?_⟩, by simp [z9y], by simp [z9y]⟩ <;> simp [z9y, z3f]
theorem z94 {t m : Int} (ht : z3f t) (hm : z3f m) : (z1sa t m).small := by
 refine ⟨⟨ht, by simp [z1sa, z3f], by simp [z1sa, z3f], hm, z68.1, rfl, fun _ h => (by cases h), fun _ h => (by cases h)⟩, z68, by simp [z1sa], by simp [z1sa]⟩
set_option maxHeartbeats 8000000 in
theorem z7bc (E : Env) (h295 : E.G 295 = z1Lb) (h298 : E.G 298 = z8Za) (h294 : E.G 294 = z17a) (h299 : E.G 299 = z8ha) (h293 : E.G 293 = z0Ob) : ∀ ds, z9Ya.pre ds → ds.length = z4p.n ∧ awp E z4p.body (z9t z4p.res (z9Ya.post ds)) (z6c z4p.wr ds) := by
 rintro _ ⟨nc, nm, ng, x, hx, rfl⟩
 rw [z1ha hx]
 have hm16 := hx.1.2.2.2.2.2.2.1
 have hd := hx.1.2.2.2.2.2.1
 have hml := hx.2.2.1
 have hgl := hx.2.2.2
 have hmp := z94 hx.1.1 hx.1.2.2.2.1
 have hl := z9c (nc := nc) (nm := nm) (ng := ng) hd
 have htk := z5m (nc := nc) (nm := nm) (ng := ng) hd
 have h28 := z9ba (nc := nc) (nm := nm) (ng := ng) hd
 have h29 := z1fa (nc := nc) (nm := nm) (ng := ng) hd
 obtain ⟨Z, hZ⟩ : ∃ Z, Z = okE x := ⟨_, rfl⟩
 rw [← hZ]
 refine ⟨rfl, ?_⟩
 simp only [z4p]
 refine z3a fun Q9 hQ9 => ?_
 refine z9j fun B hB => ?_
 simp (maxSteps := 1000000) (disch := first | omega | (simp; done) | (simp; omega)) [z7a, z1a, z0a, hl]
 rw [hB]; clear hB
 rw [z8y]
 refine z3a fun Q1 hQ1 => ?_
 rw [z8y]
 refine z3a fun Q2 hQ2 => ?_
 rw [z2r]
 refine z2b fun T hT => ?_
 simp (maxSteps := 1000000) (disch := first | omega | (simp; done) | (simp; omega)) [z7a, z1a, z0a, z59, hl, h295, h28, h29]
 by_cases c1 : inR x.time 0 1099511627776 = true
 rotate_left
 ·refine z7b true 8 31 (by simp [c1]) (by rw [hT]; kernel_rfl) (by rw [hT]; kernel_rfl) ?_
  have hz : Z = false := by
   cases hc : okE x
   ·rw [hZ, hc]
   ·have hq := z3la hc
    exfalso
    first | omega | (have := mt (z13 _ _ _).2 c1; omega)
  simp (maxSteps := 1000000) (disch := first | omega | (simp; done) | (simp; omega)) [z7a, z1a, z0a, hQ2, hQ1, hQ9, kT, hz]
 rw [hT]; clear hT
 refine z2b fun T hT => ?_
 simp (maxSteps := 1000000) (disch := first | omega | (simp; done) | (simp; omega)) [z7a, z1a, z0a, z1aa, hl, h295, h28, h29, c1]
 by_cases c2 : inR x.req 0 2147483647 = true
 rotate_left
 ·refine z7b true 14 31 (by simp [c2]) (by rw [hT]; kernel_rfl) (by rw [hT]; kernel_rfl) ?_
  have hz : Z = false := by
   cases hc : okE x
   ·rw [hZ, hc]
   ·have hq := z3la hc
    exfalso
    first | omega | (have := mt (z13 _ _ _).2 c2; omega)
  simp (maxSteps := 1000000) (disch := first | omega | (simp; done) | (simp; omega)) [z7a, z1a, z0a, hQ2, hQ1, hQ9, kT, hz]
 rw [hT]; clear hT
 refine z2b fun T hT => ?_
 simp (maxSteps := 1000000) (disch := first | omega | (simp; done) | (simp; omega)) [z7a, z1a, z0a, z5aa, hl, h295, h28, h29, c1, c2]
 by_cases c3 : inR x.mode 1 5 = true
 rotate_left
 ·refine z7b true 20 31 (by simp [c3]) (by rw [hT]; kernel_rfl) (by rw [hT]; kernel_rfl) ?_
  have hz : Z = false := by
   cases hc : okE x
   ·rw [hZ, hc]
   ·have hq := z3la hc
    exfalso
    first | omega | (have := mt (z13 _ _ _).2 c3; omega)
  simp (maxSteps := 1000000) (disch := first | omega | (simp; done) | (simp; omega)) [z7a, z1a, z0a, hQ2, hQ1, hQ9, kT, hz]
 rw [hT]; clear hT
 refine z2b fun T hT => ?_
 simp (maxSteps := 1000000) (disch := first | omega | (simp; done) | (simp; omega)) [z7a, z1a, z0a, z6aa, hl, h295, h28, h29, c1, c2, c3]
 by_cases n4 : 4096 < (x.made.length : Int)
 ·refine z7b true 26 31 (by simp [n4]) (by rw [hT]; kernel_rfl) (by rw [hT]; kernel_rfl) ?_
  have hz : Z = false := by
   cases hc : okE x
   ·rw [hZ, hc]
   ·have hq := z3la hc
    exfalso
    first | omega | (have := mt (z13 _ _ _).2 n4; omega)
  simp (maxSteps := 1000000) (disch := first | omega | (simp; done) | (simp; omega)) [z7a, z1a, z0a, hQ2, hQ1, hQ9, kT, hz]
 rw [hT]; clear hT
 by_cases n5 : 4096 < (x.gone.length : Int)
 ·have hz : Z = false := by
   cases hc : okE x
   ·rw [hZ, hc]
   ·have hq := z3la hc
    exfalso
    first | omega | (have := mt (z13 _ _ _).2 n5; omega)
  simp (maxSteps := 1000000) (disch := first | omega | (simp; done) | (simp; omega)) [z7a, z1a, z0a, hQ2, hQ1, hQ9, kT, hz, z1U, hl, h295, h28, h29, c1, c2, c3, n4, n5]
 simp (maxSteps := 1000000) (disch := first | omega | (simp; done) | (simp; omega)) [z7a, z1a, z0a, z1U, hl, h295, h28, h29, c1, c2, c3, n4, n5, hQ2, hQ1, kF]
 have q4 : x.made.length ≤ 4096 := by omega
 have q5 : x.gone.length ≤ 4096 := by omega
 cases c6 : x.made.all z2ha
 ·have hz : Z = false := by simp only [hZ, okE, c6]; simp
  simp (maxSteps := 1000000) (disch := first | omega | (simp; done) | (simp; omega)) [z7a, z1a, z0a, z3D, h298, z9Ia hm16 hml, z4pa nm hm16, z9ma, z7q, z2z, hl, c6, h28, kT, kF, hQ9, hz]
 have hzz : Z = if x.kind = 0 then z2L x (z1sa x.time x.mode) else inR x.kind 1 27 && (x.cmd.kind == x.kind) && (!z7La x.kind || decide (x.cmd.data = [])) := by
  simp only [hZ, okE, c6, c3, q4, q5, z1Za, z0ua, c1, c2, decide_true, Bool.true_and, Bool.and_true]
 by_cases hk : x.kind = 0
 ·rw [if_pos hk] at hzz
  simp (maxSteps := 1000000) (disch := first | omega | (simp; done) | (simp; omega)) [z7a, z1a, z0a, z3D, z2U, h298, z9Ia hm16 hml, z4pa nm hm16, z9ma, z7q, z2z, hl, htk, c6, h28, kT, kF, hk, h294, h299, z88 hx hmp, z3M hx hmp, hQ9, hzz]
 rw [if_neg hk] at hzz
 have hk' : (x.kind == 0) = false := by simpa using hk
 simp (maxSteps := 1000000) (disch := first | omega | (simp; done) | (simp; omega)) [z7a, z1a, z0a, z3D, z2U, h298, z9Ia hm16 hml, z4pa nm hm16, z9ma, z7q, z2z, hl, c6, h28, kT, kF, hk, hk']
 simp only [z0aa]
 rw [z8y]
 refine z3a fun Q3 hQ3 => ?_
 rw [z2r]
 by_cases c7 : inR x.kind 1 27 = true
 rotate_left
 ·have hz : Z = false := by rw [hzz]; simp [c7]
  simp (maxSteps := 1000000) (disch := first | omega | (simp; done) | (simp; omega)) [z7a, z1a, z0a, z6U, z6D, z6u, hl, h295, c7, hQ3, hQ9, hz]
 refine z2b fun T hT => ?_
 simp (maxSteps := 1000000) (disch := first | omega | (simp; done) | (simp; omega)) [z7a, z1a, z0a, z6U, hl, h295, c7]
 rw [hT]; clear hT
 by_cases c8 : x.cmd.kind = x.kind
 rotate_left
 ·have hz : Z = false := by rw [hzz]; simp [c8]
  have c8' : (x.cmd.kind == x.kind) = false := by simpa using c8
  simp (maxSteps := 1000000) (disch := first | omega | (simp; done) | (simp; omega)) [z7a, z1a, z0a, z6D, z6u, hl, c7, c8', hQ3, hQ9, hz]
 refine z2b fun T hT => ?_
 simp (maxSteps := 1000000) (disch := first | omega | (simp; done) | (simp; omega)) [z7a, z1a, z0a, z6D, hl, h295, c7, c8]
 rw [hT]; clear hT
 cases c9 : z7La x.kind
 ·have hz : Z = true := by rw [hzz]; simp [c7, c8, c9]
  simp (maxSteps := 1000000) (disch := first | omega | (simp; done) | (simp; omega)) [z7a, z1a, z0a, z6u, h293, hl, c7, c8, c9, hQ3, hQ9, hz]
 have hz : Z = decide (x.cmd.data = []) := by rw [hzz]; simp [c7, c8, c9]
 simp (maxSteps := 1000000) (disch := first | omega | (simp; done) | (simp; omega)) [z7a, z1a, z0a, z6u, h293, hl, c7, c8, c9, hQ3, hQ9, hz]
end Go.Abs
end

section
namespace Go.Abs
set_option maxRecDepth 100000
theorem z7Zb {l : List UInt8} (h : l.length = 16) : ∃ a b c d e f g i j k m n o p q r, l = [a, b, c, d, e, f, g, i, j, k, m, n, o, p, q, r] := by
 match l, h with
 | [a, b, c, d, e, f, g, i, j, k, m, n, o, p, q, r], _ => exact ⟨a, b, c, d, e, f, g, i, j, k, m, n, o, p, q, r, rfl⟩
theorem eqM {x y : z4j} (hx : x.dig.length = 16) (hy : y.dig.length = 16) : z7J kM (z8u x) (z8u y) = decide (x = y) := by
 obtain ⟨x1, x2, x3, x4, x5, x6, x7, x8, xd⟩ := x
 obtain ⟨y1, y2, y3, y4, y5, y6, y7, y8, yd⟩ := y
 simp only at hx hy
 obtain ⟨a, b, c, d, e, f, g, i, j, k, m, n, o, p, q, r, rfl⟩ := z7Zb hx
 obtain ⟨a', b', c', d', e', f', g', i', j', k', m', n', o', p', q', r', rfl⟩ := z7Zb hy
 have h8 : ∀ u v : UInt8, ((u.toNat : Int) == v.toNat) = (u == v) := fun u v => by
  rw [Bool.eq_iff_iff, beq_iff_eq, beq_iff_eq]
  constructor
  ·intro h; exact UInt8.toNat_inj.1 (by omega)
  ·rintro rfl; rfl
 rw [Bool.eq_iff_iff]
 simp [kM, z7J, z4Nc, z8u, bys, h8, z4j.mk.injEq]
theorem z8Sc {x : z4j} (hx : x.dig.length = 16) : z0B kM (z8u x) = True := by
 obtain ⟨x1, x2, x3, x4, x5, x6, x7, x8, xd⟩ := x
 simp only at hx
 obtain ⟨a, b, c, d, e, f, g, i, j, k, m, n, o, p, q, r, rfl⟩ := z7Zb hx
 refine eq_true ?_
 repeat' first | exact trivial | exact rfl | refine And.intro ?_ ?_
def z3za : z4a := ⟨fun ds => ∃ (nl nl' : Option Bool) (a b : List z4j), z8o a ∧ z8o b ∧ a.length ≤ 1000000 ∧ ds = [.sl .plain nl a.length (z8d a), .sl .plain nl' b.length (z8d b)],
 fun ds => bo (decide (z0da (gNn (nth ds 0)) (gCs (nth ds 0)) = z0da (gNn (nth ds 1)) (gCs (nth ds 1))))⟩
theorem z8jb {nl nl' : Option Bool} {a b : List z4j} (h : z8o a) (h' : z8o b) (hl : a.length ≤ 1000000) : z3za.pre [.sl .plain nl a.length (z8d a), .sl .plain nl' b.length (z8d b)] = True := eq_true ⟨nl, nl', a, b, h, h', hl, rfl⟩
theorem z0Fa (nl nl' : Option Bool) {a b : List z4j} (h : z8o a) (h' : z8o b) : z3za.post [.sl .plain nl a.length (z8d a), .sl .plain nl' b.length (z8d b)] = bo (decide (a = b)) := by
 show bo (decide (z0da a.length (z8d a) = z0da b.length (z8d b))) = _
 rw [z8V (z0h h), z8V (z0h h')]
theorem z2ac {a b : List z4j} (h : a.length = b.length) (he : a.take a.length = b.take a.length) : a = b := by
 rw [List.take_length, h, List.take_length] at he
 exact he
set_option maxHeartbeats 4000000 in
theorem z0xb (E : Env) : ∀ ds, z3za.pre ds → ds.length = z1g.n ∧ awp E z1g.body (z9t z1g.res (z3za.post ds)) (z6c z1g.wr ds) := by
 rintro _ ⟨nl, nl', a, b, ha, hb, hl, rfl⟩
 rw [z0Fa nl nl' ha hb]
 by_cases h : a.length = b.length
 rotate_left
 ·have hz : decide (a = b) = false := by simpa using fun e : a = b => h (by rw [e])
  have h' : ¬ ((a.length : Int) = b.length) := by omega
  simp (maxSteps := 1000000) (disch := first | omega | (simp; done) | (simp; omega)) [z7a, z1a, z0a, z1g, z9v, h', kT, kF, hz]
 have h' : ((a.length : Int) = b.length) := by omega
 have hla := z6p (z0h ha)
 have hlb := z6p (z0h hb)
 simp (maxSteps := 1000000) (disch := first | omega | (simp; done) | (simp; omega)) [z7a, z1a, z0a, z1g, z9v, h', kT, kF]
 refine z3a fun Q0 hQ0 => ?_
 refine z3d (fun i : Nat => ⟨[(0, .sl .plain nl a.length (z8d a)), (1, .sl .plain nl' b.length (z8d b))], [(12, i64 a.length), (13, i64 i)], []⟩)
  (fun i => a.length - i) (fun i => i ≤ a.length ∧ a.take i = b.take i) 0 (by simp [h']) (by simp) fun i hi => ?_
 obtain ⟨hi, he⟩ := hi
 refine z3a fun Q1 hQ1 => ?_
 by_cases h1 : i < a.length
 ·have h3 : i < b.length := by omega
  have e1 := z2xa ha h1
  have e2 := z2xa hb h3
  have l1 : 24 ≤ a.length * 24 - i * 24 := by omega
  have l2 : 24 ≤ b.length * 24 - i * 24 := by omega
  have l3 : i * 24 ≤ a.length * 24 := by omega
  have l4 : i * 24 ≤ b.length * 24 := by omega
  have d1 := (ha _ (z4Ba h1)).2.2.2.2.2.2.2
  have d2 := (hb _ (z4Ba h3)).2.2.2.2.2.2.2
  have hq := eqM d1 d2
  have ho1 := z8Sc d1
  have ho2 := z8Sc d2
  by_cases h2 : atM a i = atM b i
  ·rw [← h2] at e2 ho2 hq
   simp only [decide_true] at hq
   simp (maxSteps := 1000000) (disch := first | omega | (simp; done) | (simp; omega)) [z7a, z1a, z0a, z4o, z8v, kT, kF, dT, dF, h1, h3, hla, hlb, e1, e2, l1, l2, l3, l4, hq, ho1, hQ1]
   refine ⟨i + 1, by omega, ⟨by omega, ?_⟩, by omega⟩
   rw [List.take_succ_eq_append_getElem h1, List.take_succ_eq_append_getElem h3, he, ← z49 h1, ← z49 h3, h2]
  ·have hz : decide (a = b) = false := by simpa using fun e : a = b => h2 (by rw [e])
   have hq' : z7J kM (z8u (atM a i)) (z8u (atM b i)) = false := by rw [hq]; simpa using h2
   simp (maxSteps := 1000000) (disch := first | omega | (simp; done) | (simp; omega)) [z7a, z1a, z0a, z4o, z8v, kT, kF, dT, dF, h1, h3, hla, hlb, e1, e2, l1, l2, l3, l4, hq', ho1, ho2, hQ1, hQ0, hz]
 ·have e : i = a.length := by omega
  subst e
  have hz : decide (a = b) = true := by simpa using z2ac h he
  simp (maxSteps := 1000000) (disch := first | omega | (simp; done) | (simp; omega)) [z7a, z1a, z0a, z4o, z3O, kT, kF, dT, dF, hQ1, hQ0, hz]
theorem z2Ab (a b : List Int) : decide (a = b) = (a == b) := by rw [Bool.eq_iff_iff]; simp
set_option maxHeartbeats 8000000 in
theorem z3Hb (E : Env) (h133 : E.G 133 = z4X) (h301 : E.G 301 = z3za) (h132 : E.G 132 = z4H) : ∀ ds, z8ha.pre ds → ds.length = z5s.n ∧ awp E z5s.body (z9t z5s.res (z8ha.post ds)) (z6c z5s.wr ds) := by
 rintro _ ⟨nc, nm, ng, nc', nm', ng', x, y, hx, hy, rfl⟩
 rw [z3M hx hy]
 have hd := hx.1.2.2.2.2.2.1
 have hd' := hy.1.2.2.2.2.2.1
 have hl := z9c (nc := nc) (nm := nm) (ng := ng) hd
 have hl' := z9c (nc := nc') (nm := nm') (ng := ng') hd'
 have h28 := z9ba (nc := nc) (nm := nm) (ng := ng) hd
 have h29 := z1fa (nc := nc) (nm := nm) (ng := ng) hd
 have h28' := z9ba (nc := nc') (nm := nm') (ng := ng') hd'
 have h29' := z1fa (nc := nc') (nm := nm') (ng := ng') hd'
 have hg := z19 (nc := nc) (nm := nm) (ng := ng) hd
 have hg' := z19 (nc := nc') (nm := nm') (ng := ng') hd'
 have hm := hx.1.2.2.2.2.2.2.1
 have hm' := hy.1.2.2.2.2.2.2.1
 have hgl := hx.2.2.2
 obtain ⟨Z, hZ⟩ : ∃ Z, Z = z2L x y := ⟨_, rfl⟩
 rw [← hZ]
 have eqd := z1b hd hd'
 have p1 := z2ea (nl := nc) (nl' := nc') hx.2.1 hy.2.1
 have q1 := z5Q x.cmd y.cmd nc nc'
 have p2 := z8jb (nl := nm) (nl' := nm') hm hm' hx.2.2.1
 have q2 := z0Fa nm nm' hm hm'
 refine ⟨rfl, ?_⟩
 simp only [z5s]
 refine z3a fun Q9 hQ9 => ?_
 refine z9j fun B hB => ?_
 simp (maxSteps := 1000000) (disch := first | omega | (simp; done) | (simp; omega)) [z7a, z1a, z0a, hl, hl']
 rw [hB]; clear hB
 rw [z8y]
 refine z3a fun Q1 hQ1 => ?_
 rw [z2r]
 refine z2b fun T hT => ?_
 simp (maxSteps := 1000000) (disch := first | omega | (simp; done) | (simp; omega)) [z7a, z1a, z0a, z3fa, hl, hl', h28, h29, h28', h29', hg, hg', eqd, hd, hd', h133, h301, h132, p1, q1, p2, q2]
 by_cases c1 : x.time = y.time
 rotate_left
 ·refine z7b false 10 4 (by simp [c1]) (by rw [hT]; kernel_rfl) (by rw [hT]; kernel_rfl) ?_
  have hz : Z = false := by rw [hZ]; simp [z2L, c1]
  simp (maxSteps := 1000000) (disch := first | omega | (simp; done) | (simp; omega)) [z7a, z1a, z0a, hQ1, hQ9, hz]
 rw [hT]; clear hT
 refine z2b fun T hT => ?_
 simp (maxSteps := 1000000) (disch := first | omega | (simp; done) | (simp; omega)) [z7a, z1a, z0a, z7ea, hl, hl', h28, h29, h28', h29', hg, hg', eqd, hd, hd', h133, h301, h132, p1, q1, p2, q2, c1]
 by_cases c2 : x.kind = y.kind
 rotate_left
 ·refine z7b false 17 4 (by simp [c2]) (by rw [hT]; kernel_rfl) (by rw [hT]; kernel_rfl) ?_
  have hz : Z = false := by rw [hZ]; simp [z2L, c2]
  simp (maxSteps := 1000000) (disch := first | omega | (simp; done) | (simp; omega)) [z7a, z1a, z0a, hQ1, hQ9, hz]
 rw [hT]; clear hT
 refine z2b fun T hT => ?_
 simp (maxSteps := 1000000) (disch := first | omega | (simp; done) | (simp; omega)) [z7a, z1a, z0a, z7da, hl, hl', h28, h29, h28', h29', hg, hg', eqd, hd, hd', h133, h301, h132, p1, q1, p2, q2, c1, c2]
 by_cases c3 : x.req = y.req
 rotate_left
 ·refine z7b false 24 4 (by simp [c3]) (by rw [hT]; kernel_rfl) (by rw [hT]; kernel_rfl) ?_
  have hz : Z = false := by rw [hZ]; simp [z2L, c3]
  simp (maxSteps := 1000000) (disch := first | omega | (simp; done) | (simp; omega)) [z7a, z1a, z0a, hQ1, hQ9, hz]
 rw [hT]; clear hT
 refine z2b fun T hT => ?_
 simp (maxSteps := 1000000) (disch := first | omega | (simp; done) | (simp; omega)) [z7a, z1a, z0a, z1da, hl, hl', h28, h29, h28', h29', hg, hg', eqd, hd, hd', h133, h301, h132, p1, q1, p2, q2, c1, c2, c3]
 by_cases c4 : x.mode = y.mode
 rotate_left
 ·refine z7b false 31 4 (by simp [c4]) (by rw [hT]; kernel_rfl) (by rw [hT]; kernel_rfl) ?_
  have hz : Z = false := by rw [hZ]; simp [z2L, c4]
  simp (maxSteps := 1000000) (disch := first | omega | (simp; done) | (simp; omega)) [z7a, z1a, z0a, hQ1, hQ9, hz]
 rw [hT]; clear hT
 refine z2b fun T hT => ?_
 simp (maxSteps := 1000000) (disch := first | omega | (simp; done) | (simp; omega)) [z7a, z1a, z0a, z2ca, hl, hl', h28, h29, h28', h29', hg, hg', eqd, hd, hd', h133, h301, h132, p1, q1, p2, q2, c1, c2, c3, c4]
 by_cases c5 : x.dig = y.dig
 rotate_left
 ·refine z7b false 38 4 (by simp [c5]) (by rw [hT]; kernel_rfl) (by rw [hT]; kernel_rfl) ?_
  have hz : Z = false := by rw [hZ]; simp [z2L, c5]
  simp (maxSteps := 1000000) (disch := first | omega | (simp; done) | (simp; omega)) [z7a, z1a, z0a, hQ1, hQ9, hz]
 rw [hT]; clear hT
 refine z2b fun T hT => ?_
 simp (maxSteps := 1000000) (disch := first | omega | (simp; done) | (simp; omega)) [z7a, z1a, z0a, z8da, hl, hl', h28, h29, h28', h29', hg, hg', eqd, hd, hd', h133, h301, h132, p1, q1, p2, q2, c1, c2, c3, c4, c5]
 by_cases c6 : z2la x.cmd y.cmd = true
 rotate_left
 ·refine z7b false 45 4 (by simp [c6]) (by rw [hT]; kernel_rfl) (by rw [hT]; kernel_rfl) ?_
  have hz : Z = false := by rw [hZ]; simp [z2L, c6]
  simp (maxSteps := 1000000) (disch := first | omega | (simp; done) | (simp; omega)) [z7a, z1a, z0a, hQ1, hQ9, hz]
 rw [hT]; clear hT
 refine z2b fun T hT => ?_
 simp (maxSteps := 1000000) (disch := first | omega | (simp; done) | (simp; omega)) [z7a, z1a, z0a, z0ca, hl, hl', h28, h29, h28', h29', hg, hg', eqd, hd, hd', h133, h301, h132, p1, q1, p2, q2, c1, c2, c3, c4, c5, c6]
 by_cases c7 : x.made = y.made
 rotate_left
 ·refine z7b false 52 4 (by simp [c7]) (by rw [hT]; kernel_rfl) (by rw [hT]; kernel_rfl) ?_
  have hz : Z = false := by rw [hZ]; simp [z2L, c7]
  simp (maxSteps := 1000000) (disch := first | omega | (simp; done) | (simp; omega)) [z7a, z1a, z0a, hQ1, hQ9, hz]
 rw [hT]; clear hT
 have hz : Z = (x.gone == y.gone) := by
  rw [← z2Ab, hZ]
  simp [z2L, c1, c2, c3, c4, c5, c6, c7]
 simp (maxSteps := 1000000) (disch := first | omega | (simp; done) | (simp; omega)) [z7a, z1a, z0a, z9ea, hl, hl', h28, h29, h28', h29', hg, hg', eqd, hd, hd', h133, h301, h132, p1, q1, p2, q2, z6za, c1, c2, c3, c4, c5, c6, c7, hQ1, hQ9, hz]
end Go.Abs
end

section
namespace Go.Abs
set_option maxRecDepth 100000
theorem z2ab {v : z0V} {x : z6w} (h : okE x = true) (ht : ¬ x.time < v.time) (hg : x.gone = []) (hk : ¬ x.kind = 13) : z9Wa v x = if z6Jb x.made v.next = true then (if z0ua < v.next + x.made.length then ⟨z0ka, 2⟩ else ⟨⟨x.time, x.mode, v.ents + 1, v.next + x.made.length, v.keys ++ x.made⟩, 0⟩) else ⟨z0ka, 7⟩ := by
 unfold z9Wa
 rw [if_pos h, if_neg ht, hg]
 simp only [z34b, Option.bind_some, rotM, if_neg hk]
theorem z1Xa : ∀ (l : List z4j) (n : Int), z6Jb l n = true ↔ ∀ j < l.length, (atD l j).id = n + j
 | [], n => by simp [z6Jb]
 | a :: l, n => by
  rw [z6Jb, Bool.and_eq_true, beq_iff_eq, z1Xa l (n + 1)]
  constructor
  ·rintro ⟨h1, h2⟩ j hj
   cases j with
   | zero => simpa [atD] using h1
   | succ j =>
    have := h2 j (by simpa using hj)
    simp only [atD, List.getD_cons_succ] at this ⊢
    omega
  ·intro h
   refine ⟨by simpa [atD] using h 0 (by simp), fun j hj => ?_⟩
   have := h (j + 1) (by simpa using hj)
   simp only [atD, List.getD_cons_succ] at this ⊢
   omega
theorem z47a : z8d [] = [] := rfl
def z9Za : z4a := ⟨fun ds => ∃ (nk nc nm ng : Option Bool) (v : z0V) (x : z6w), vOk v ∧ x.small ∧ x.gone = [] ∧ ¬ x.kind = 13 ∧ ds = [.agg (z0q nk v), .agg (z5k nc nm ng x)], appC.post⟩
theorem z9ua {nk nc nm ng : Option Bool} {v : z0V} {x : z6w} (h : vOk v) (hx : x.small) (hg : x.gone = []) (hk : ¬ x.kind = 13) : z9Za.pre [.agg (z0q nk v), .agg (z5k nc nm ng x)] = True := eq_true ⟨nk, nc, nm, ng, v, x, h, hx, hg, hk, rfl⟩
theorem z4ea {nk nc nm ng : Option Bool} {v : z0V} {x : z6w} (h : vOk v) (hx : x.small) : z9Za.post [.agg (z0q nk v), .agg (z5k nc nm ng x)] = .tup [.agg (z0q none (z9Wa v x).v), i64 (z9Wa v x).e] := z7Hb h hx
set_option maxHeartbeats 16000000 in
theorem z28b (E : Env) (h300 : E.G 300 = z9Ya) (h290 : E.G 290 = z4ta) : ∀ ds, z9Za.pre ds → ds.length = z9l.n ∧ awp E z9l.body (z9t z9l.res (z9Za.post ds)) (z6c z9l.wr ds) := by
 rintro _ ⟨nk, nc, nm, ng, v, x, hv, hx, hgo, hk13, rfl⟩
 rw [z4ea hv hx]
 have hd := hx.1.2.2.2.2.2.1
 have h16 := hx.1.2.2.2.2.2.2.1
 have hml := hx.2.2.1
 have hl := z9c (nc := nc) (nm := nm) (ng := ng) hd
 have htk := z5m (nc := nc) (nm := nm) (ng := ng) hd
 have e28 := z9ba (nc := nc) (nm := nm) (ng := ng) hd
 have e29 := z1fa (nc := nc) (nm := nm) (ng := ng) hd
 rw [hgo] at e29
 have hlen := z6p (z0h h16)
 obtain ⟨k16, kl, kt, ⟨ke0, ke1⟩, kn0, kn1⟩ := hv
 simp only [z0ua] at kn1
 have hp := z3Ha (nc := nc) (nm := nm) (ng := ng) hx
 have hq := z1ha (nc := nc) (nm := nm) (ng := ng) hx
 cases c1 : okE x
 ·have hz : z9Wa v x = ⟨z0ka, 1⟩ := by simp [z9Wa, c1]
  rw [hz]
  simp (maxSteps := 1000000) (disch := first | omega | (simp; done) | (simp; omega)) [z7a, z1a, z0a, z9l, z0q, hl, htk, h300, hp, hq, c1, kT, kF, z0ka, z1s, z3r, z8d]
 have hlim := z3la c1
 by_cases c2 : x.time < v.time
 ·have hz : z9Wa v x = ⟨z0ka, 20⟩ := by simp [z9Wa, c1, c2]
  rw [hz]
  simp (maxSteps := 1000000) (disch := first | omega | (simp; done) | (simp; omega)) [z7a, z1a, z0a, z9l, z0q, hl, htk, h300, hp, hq, c1, c2, kT, kF, z0ka, z1s, z3r, z8d]
 rw [z2ab c1 c2 hgo hk13]
 have hcp := z54a (nl := nk) k16 kl
 have hcq := z5ya (nl := nk) k16
 obtain ⟨vt, vm, ve, vn, vk⟩ := v
 simp only at k16 kl kt ke0 ke1 kn0 kn1 hcp hcq c2 ⊢
 have hkl := z6p (z0h k16)
 simp (maxSteps := 1000000) (disch := first | omega | (simp; done) | (simp; omega)) [z7a, z1a, z0a, z9l, z0q, hl, htk, h300, hp, hq, c1, c2, kT, kF]
 refine z3a fun Q0 hQ0 => ?_
 simp only [z1ba]
 rw [z8y]
 refine z3a fun Q5 hQ5 => ?_
 rw [z2r]
 refine z2Aa 12 fun T hT => ?_
 simp (maxSteps := 1000000) (disch := first | omega | (simp; done) | (simp; omega)) [z7a, z1a, z0a, List.take, List.drop, hl, h290, hcp, hcq]
 rw [hT]; clear hT
 refine z2Aa 1 fun T hT => ?_
 simp only [List.drop, List.take, List.cons_append, List.nil_append, z7Wa]
 simp (maxSteps := 1000000) (disch := first | omega | (simp; done) | (simp; omega)) [z7a, z1a, z0a, z1s, z3r]
 rw [hT]; clear hT
 refine z2Aa 1 fun T hT => ?_
 simp only [List.drop, List.take, List.cons_append, List.nil_append, z7Wa]
 simp (maxSteps := 1000000) (disch := first | omega | (simp; done) | (simp; omega)) [z7a, z1a, z0a, z1s, z3r]
 rw [hT]; clear hT
 simp only [List.drop, List.take, List.cons_append, List.nil_append, z7Wa]
 simp (maxSteps := 1000000) (disch := first | omega | (simp; done) | (simp; omega)) [z7a, z1a, z0a, z1s, z3r]
 simp (maxSteps := 1000000) (disch := first | omega | (simp; done) | (simp; omega)) [z7a, z1a, z0a, hQ5, hl, e29]
 refine z3a fun Q1 hQ1 => ?_
 refine z3d (fun _ : Nat => ⟨[(0, .agg [i64 vt, i64 vm, i64 ve, i64 vn, .sl .plain nk vk.length (z8d vk)]), (1, .agg (z5k nc nm ng x))], [(3, .bp 3 0), (4, .bp 4 0), (6, .bp 6 0), (39, .sl .plain ng 0 []), (40, i64 0), (41, i64 0)],
   [(2, some [i64 vt, i64 vm, i64 ve, i64 vn, .sl .plain nk vk.length (z8d vk)]), (3, some (z5k nc nm ng x)), (4, some [i64 0, i64 0, i64 0, i64 0, .sl (.own 24) none 0 []]), (6, some [i64 x.time, i64 x.mode, i64 (ve + 1), i64 vn, .sl (.own 24) none vk.length (z8d vk)])]⟩)
  (fun _ => 0) (fun _ => True) 0 (by simp) trivial fun i _ => ?_
 refine z3a fun Q2 hQ2 => ?_
 simp (maxSteps := 1000000) (disch := first | omega | (simp; done) | (simp; omega)) [z7a, z1a, z0a, z4ba, kT, kF, hQ2, hQ1]
 simp only [z8aa]
 refine z9j fun B hB => ?_
 simp (maxSteps := 1000000) (disch := first | omega | (simp; done) | (simp; omega)) [z7a, z1a, z0a, hl, kF, hk13]
 rw [hB]; clear hB
 simp only [z79]
 refine z9j fun B hB => ?_
 simp (maxSteps := 1000000) (disch := first | omega | (simp; done) | (simp; omega)) [z7a, z1a, z0a, hl, e28]
 refine z3a fun Q3 hQ3 => ?_
 refine z3d (fun i : Nat => ⟨[(0, .agg [i64 vt, i64 vm, i64 ve, i64 vn, .sl .plain nk vk.length (z8d vk)]), (1, .agg (z5k nc nm ng x))], [(4, .bp 4 0), (6, .bp 6 0), (80, .sl .plain nm x.made.length (z8d x.made)), (81, i64 x.made.length), (82, i64 i)],
   [(2, some [i64 vt, i64 vm, i64 ve, i64 vn, .sl .plain nk vk.length (z8d vk)]), (3, some (z5k nc nm ng x)), (4, some [i64 0, i64 0, i64 0, i64 0, .sl (.own 24) none 0 []]), (6, some [i64 x.time, i64 x.mode, i64 (ve + 1), i64 (vn + i), .sl (.own 24) none (vk.length + i) (z8d (vk ++ x.made.take i))]), (8, none)]⟩)
  (fun i => x.made.length - i) (fun i => i ≤ x.made.length ∧ ∀ j < i, (atD x.made j).id = vn + j) 0 (by simp) (by simp) fun i hi => ?_
 obtain ⟨hi, he⟩ := hi
 refine z3a fun Q4 hQ4 => ?_
 by_cases h1 : i < x.made.length
 ·have hm := h16 _ (z7qa h1)
  have hmd := hm.2.2.2.2.2.2.2
  have ha := z6Oa h16 h1
  have hmll := z9p hmd
  have hle : 24 ≤ x.made.length * 24 - i * 24 := by omega
  have hle2 : i * 24 ≤ x.made.length * 24 := by omega
  have htak : vk ++ x.made.take (i + 1) = (vk ++ x.made.take i) ++ [atD x.made i] := by
   rw [List.take_succ_eq_append_getElem h1, z2ka h1, List.append_assoc]
  generalize hX : atD x.made i = m at *
  have sp : splice (i64 0 :: i64 0 :: i64 0 :: i64 0 :: i64 0 :: i64 0 :: i64 0 :: bo false :: bys (z2c 16)) 0 (z8u m) = z8u m := z0ra hmd rfl
  have sp' : splice [i64 0, i64 0, i64 0, i64 0, i64 0, i64 0, i64 0, bo false, u8 0, u8 0, u8 0, u8 0, u8 0, u8 0, u8 0, u8 0, u8 0, u8 0, u8 0, u8 0, u8 0, u8 0, u8 0, u8 0] 0 (z8u m) = z8u m := z0ra hmd rfl
  have mtk := z2Sa hmd
  generalize hV : vk ++ x.made.take i = V at *
  by_cases h2 : m.id = vn + i
  ·simp (maxSteps := 1000000) (disch := first | omega | (simp; done) | (simp; omega)) [z7a, z1a, z0a, z2D, z4U, z2ba, kT, kF, h1, hl, hlen, hle, hle2, ha, hmll, sp, sp', mtk, z5L, z9Y, h2, hQ4]
   refine ⟨⟨by omega, by omega, fun c hc => z28 c hc⟩, i + 1, by omega, ⟨by omega, fun j hj => ?_⟩, by omega, by omega, by omega, by rw [htak, z18a, z86a]⟩
   rcases Nat.lt_or_eq_of_le (Nat.lt_succ_iff.1 hj) with h | h
   ·exact he j h
   ·rw [h, hX]; exact h2
  ·have hz : z6Jb x.made vn = false := by
    cases hc : z6Jb x.made vn
    ·rfl
    ·have := (z1Xa _ _).1 hc i h1
     rw [hX] at this
     exact absurd this h2
   rw [hz] at hQ0
   simp (maxSteps := 1000000) (disch := first | omega | (simp; done) | (simp; omega)) [z7a, z1a, z0a, z2D, z4U, kT, kF, h1, hl, hlen, hle, hle2, ha, hmll, sp, mtk, z5L, z9Y, h2, hQ4, hQ3, hQ0, z1s, z3r, z0q, z0ka, z47a]
 ·have hie : i = x.made.length := by omega
  subst hie
  have hz : z6Jb x.made vn = true := (z1Xa _ _).2 he
  rw [List.take_length] at *
  rw [if_pos hz] at hQ0
  simp (maxSteps := 1000000) (disch := first | omega | (simp; done) | (simp; omega)) [z7a, z1a, z0a, z2D, kT, kF, h1, hQ4, hQ3]
  rw [hB]; clear hB
  by_cases h4 : z0ua < vn + x.made.length
  ·rw [if_pos h4] at hQ0
   simp only [z0ua] at h4
   simp (maxSteps := 1000000) (disch := first | omega | (simp; done) | (simp; omega)) [z7a, z1a, z0a, z5U, kT, kF, h4, hQ0, z1s, z3r, z0q, z0ka, z47a]
  ·rw [if_neg h4] at hQ0
   simp only [z0ua] at h4
   simp (maxSteps := 1000000) (disch := first | omega | (simp; done) | (simp; omega)) [z7a, z1a, z0a, z5U, z4aa, kT, kF, h4, hQ0, z1s, z3r, z0q]
end Go.Abs
end
