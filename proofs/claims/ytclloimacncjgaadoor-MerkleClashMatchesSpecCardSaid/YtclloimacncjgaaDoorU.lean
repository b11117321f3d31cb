/- Lemmas: an abstract interpreter, and what the functions compute. -/
import Derived.Test.YtclloimacncjgaaDoorT
import Derived.Test.YtclloimacncjgaaDoorS
import Derived.Test.YtclloimacncjgaaDoorQ
import Derived.Test.YtclloimacncjgaaDoorR
set_option linter.unusedSimpArgs false
set_option linter.unusedVariables false
set_option linter.unusedSectionVars false
section
namespace Go.Abs
set_option maxRecDepth 100000
def shK (X : List UInt8) (i : Nat) : List UInt8 := X.take i ++ zeros (16 - i)
theorem shK_len {X : List UInt8} (hX : X.length = 32) {i : Nat} (h : i ≤ 16) : (shK X i).length = 16 := by
  simp [shK, hX]; omega
theorem shK_set {X : List UInt8} (hX : X.length = 32) {i : Nat} (h : i < 16) : (shK X i).set i (at8 X i) = shK X (i + 1) := by
  have ht : (X.take i).length = i := by rw [List.length_take]; omega
  have e : zeros (16 - i) = 0 :: zeros (16 - (i + 1)) := by
    rw [show 16 - i = (16 - (i + 1)) + 1 by omega]; rfl
  rw [shK, shK, List.set_append_right _ _ (by omega), ht, Nat.sub_self, e, List.set_cons_zero, List.take_succ_eq_append_getElem (by omega), List.append_assoc]
  simp [at8, List.getD, List.getElem?_eq_getElem (show i < X.length by omega)]
theorem shK_all {X : List UInt8} : shK X 16 = X.take 16 := by simp [shK, zeros]
theorem shK_0 (X : List UInt8) : shK X 0 = zeros 16 := by simp [shK]
def sh8C : Contract := ⟨fun ds => ∃ (nl : Option Bool) (b : List UInt8), b.length ≤ 1000000 ∧ ds = [.sl .plain nl b.length (bys b)], fun ds => .agg (bys (shortB (gBs (gCs (nth ds 0)))))⟩
theorem sh8_pre {nl : Option Bool} {n : Nat} {b : List UInt8} (h : b.length ≤ 1000000) (hn : n = b.length) : sh8C.pre [.sl .plain nl n (bys b)] = True := eq_true ⟨nl, b, h, by rw [hn]⟩
theorem sh8_post (nl : Option Bool) (n : Nat) (b : List UInt8) : sh8C.post [.sl .plain nl n (bys b)] = .agg (bys (shortB b)) := by
  show AVal.agg (bys (shortB (gBs (bys b)))) = _
  simp
set_option maxHeartbeats 4000000 in
theorem sh8_ok (E : Env) (h3 : E.G 3 = hsumC) : ∀ ds, sh8C.pre ds → ds.length = f_custodylaw08_short.n ∧ awp E f_custodylaw08_short.body (retQ f_custodylaw08_short.res (sh8C.post ds)) (initSt f_custodylaw08_short.wr ds) := by
  rintro _ ⟨nl, b, hb, rfl⟩
  rw [sh8_post, shortB]
  have e1 : hsumC.pre [.sl .plain nl b.length (bys b)] = True := hsum_pre rfl (by omega)
  have e2 : hsumC.post [.sl .plain nl b.length (bys b)] = .agg (bys (sha b)) := hsum_post _ _ _
  have hX := sha_len b
  generalize sha b = X at *
  have hx := take_l16 (show (X.take 16).length = 16 by rw [List.length_take]; omega)
  have bX : (bys X).length = 32 := by simpa using hX
  simp (maxSteps := 1000000) (disch := first | omega | (simp; done) | (simp; omega)) [W_id, bys_app, bys_snoc, f_custodylaw08_short, h3, e1, e2, splice_full, bX, hX]
  refine awp_name fun Q1 hQ1 => ?_
  refine awp_for (fun i : Nat => ⟨[(0, .sl .plain nl b.length (bys b))], [(2, .bp 2 0), (3, .bp 3 0), (4, .bp 4 0), (5, i64 i)], [(2, some (bys (zeros 16))), (3, some (bys X)), (4, some (bys (shK X i)))]⟩) (fun i => 16 - i) (fun i => i ≤ 16) 0 (by simp [shK_0]) (by simp) fun i hi => ?_
  have sl := shK_len hX hi
  by_cases h : i < 16
  · have lt : (i : Int) < 16 := by omega
    have st := shK_set hX h
    simp (maxSteps := 1000000) (disch := first | omega | (simp; done) | (simp; omega)) [W_id, bys_app, bys_snoc, f_custodylaw08_short_l0, f_custodylaw08_short_r0, lt, kT, kF, dT, dF, hX, sl, hd_bys, splice_bys, st]
    exact ⟨by omega, by omega, by omega, i + 1, by omega, by omega, by omega, rfl⟩
  · have lt : ¬ (i : Int) < 16 := by omega
    have e : i = 16 := by omega
    subst e
    rw [shK_all] at sl ⊢
    simp (maxSteps := 1000000) (disch := first | omega | (simp; done) | (simp; omega)) [W_id, bys_app, bys_snoc, f_custodylaw08_short_l0, f_custodylaw08_short_r1, lt, kT, kF, dT, dF, hQ1, hX, sl, hx, splice_full]
/-! ### Whether two inputs collide -/
def mxC (l : List (Bool × List UInt8)) : List AVal := l.map fun b => .sl (if b.1 then .own 1 else .plain) (some false) b.2.length (bys b.2)
@[simp] theorem mxC_len (l : List (Bool × List UInt8)) : (mxC l).length = l.length := by simp [mxC]
@[simp] theorem pureL_mxC : ∀ l : List (Bool × List UInt8), pureL (mxC l) = true
  | [] => rfl
  | x :: l => by
    show (pureB (.sl (if x.1 then .own 1 else .plain) (some false) x.2.length (bys x.2)) && pureL (mxC l)) = true
    rw [pureL_mxC l]
    cases x.1 <;> rfl
end Go.Abs
end

section
namespace Go.Abs
set_option maxRecDepth 100000
def lawKC : Contract := trueC fun ds => ∃ (o r : List UInt8) (n i : Int) (d : List UInt8) (nl : Option Bool) (p : List (List UInt8)) (b : List UInt8) (nl' : Option Bool) (q : List (List UInt8)), o.length = 16 ∧ r.length = 16 ∧ inI n ∧ inI i ∧ d.length = 16 ∧ is16 p ∧ b.length = 16 ∧ is16 q ∧ ds = [.agg (inL o r n i d (dgsA nl p)), .agg (bys b), dgsA nl' q]
theorem cl_small {n i : Int} {d b : List UInt8} {p q : List (List UInt8)} (hd : d.length = 16) (hb : b.length = 16) (hp : is16 p) (hq : is16 q) {u v : List UInt8} (h : clN n i d b p q = some (u, v)) : u.length ≤ 51 ∧ v.length ≤ 51 := by
  unfold clN at h
  cases hx : inpsI n i d p with
  | none => rw [hx] at h; cases h
  | some x =>
    cases hy : inpsI n i b q with
    | none => rw [hx, hy] at h; cases h
    | some y =>
      rw [hx, hy] at h
      simp only at h
      split at h
      · obtain ⟨_, _, s1⟩ := inpsI_some hd hp hx
        obtain ⟨_, _, s2⟩ := inpsI_some hb hq hy
        have hm := List.mem_of_find?_eq_some h
        obtain ⟨m1, m2⟩ := List.of_mem_zip (List.mem_reverse.1 hm)
        exact ⟨s1 _ m1, s2 _ m2⟩
      · cases h
theorem st_nilL : AVal.lit (Value.string (bytesOf [])) = st [] := rfl
set_option maxHeartbeats 16000000 in
theorem law_KC_ok (E : Env) (h215 : E.G 215 = sanC) (h178 : E.G 178 = clC) (h207 : E.G 207 = rclC) (h173 : E.G 173 = vfyC) (h200 : E.G 200 = samC) (h219 : E.G 219 = sh8C) : ∀ ds, lawKC.pre ds → ds.length = f_custodylaw08_MerkleClashMatchesSpec.n ∧ awp E f_custodylaw08_MerkleClashMatchesSpec.body (retQ f_custodylaw08_MerkleClashMatchesSpec.res (lawKC.post ds)) (initSt f_custodylaw08_MerkleClashMatchesSpec.wr ds) := by
  rintro _ ⟨o, r, n, i, d, nl, p, b, nl', q, ho, hr, hn, hi, hd, hp, hb, hq, rfl⟩
  rw [show lawKC.post [.agg (inL o r n i d (dgsA nl p)), .agg (bys b), dgsA nl' q] = bo true from rfl]
  unfold dgsA
  have e0 := inL_len (n := n) (i := i) (s := .sl .plain nl p.length (bys (dgs p))) ho hr hd
  have e2 := inL_16 (d := d) (n := n) (i := i) (s := .sl .plain nl p.length (bys (dgs p))) ho hr
  have e3 := inL_32 (d := d) (n := n) (i := i) (s := .sl .plain nl p.length (bys (dgs p))) ho hr
  have e4 := inL_33 (d := d) (n := n) (i := i) (s := .sl .plain nl p.length (bys (dgs p))) ho hr
  have e5 := inL_34 (n := n) (i := i) (s := .sl .plain nl p.length (bys (dgs p))) ho hr hd
  have e6 := inL_50 (n := n) (i := i) (s := .sl .plain nl p.length (bys (dgs p))) ho hr hd
  have e7 := @inL_cell o r d n i .plain nl p.length (bys (dgs p))
  have e8 := @inL_own o r d n i nl p.length (bys (dgs p))
  have e9 := @inL_pure o r d n i .plain nl p.length (bys (dgs p))
  have e10 := @inL_refs o r d n i .plain nl p.length (bys (dgs p))
  generalize inL o r n i d (.sl .plain nl p.length (bys (dgs p))) = S at *
  have tkb := take_l16 hb
  by_cases h : p.length ≤ 70
  · have hc : ¬ (70 : Int) < (p.length : Int) := by omega
    by_cases h' : q.length ≤ 70
    · have hc' : ¬ (70 : Int) < (q.length : Int) := by omega
      have a1 := vfyC_pre (r := r) (n := n) (i := i) (d := d) (nl := nl) hr hn.2 hd hp (by omega)
      have a2 := vfyC_post (r := r) (n := n) (i := i) (d := d) (nl := nl) hp
      have b1 := vfyC_pre (r := r) (n := n) (i := i) (d := b) (nl := nl') hr hn.2 hb hq (by omega)
      have b2 := vfyC_post (r := r) (n := n) (i := i) (d := b) (nl := nl') hq
      have c1 := clC_pre (n := n) (i := i) (a := d) (b := b) (nl := nl) (nl' := nl') hn.2 hd hb hp (by omega) hq (by omega)
      have c2 := clC_post (n := n) (i := i) (a := d) (b := b) (nl := nl) (nl' := nl') hp hq
      have d1 := rclC_pre (n := n) (i := i) (a := d) (b := b) (nl := nl) (nl' := nl') hn.2 hd hb hp (by omega) hq (by omega)
      have d2 := rclC_post (n := n) (i := i) (a := d) (b := b) (nl := nl) (nl' := nl') hp hq
      have s1 := samC_pre (nl := nl) (nl' := nl') hp hq (by omega) (by omega) rfl rfl rfl rfl
      have s2 := samC_post (M := .plain) (M' := .plain) (nl := nl) (nl' := nl') hp hq rfl rfl rfl rfl
      have key := fun hc hx hy => cl_none (r := r) (n := n) (i := i) hd hb hp hq hc hx hy
      have kes := fun u v hc => cl_some (n := n) (i := i) (u := u) (v := v) hd hb hp hq hc
      have sml := fun u v hc => cl_small (n := n) (i := i) (u := u) (v := v) hd hb hp hq hc
      have eqb := eqCells_ks8 hd hb
      generalize vfyN r n i d p = x at *
      generalize vfyN r n i b q = y at *
      generalize clN n i d b p q = C at *
      by_cases hdb : d = b
      · rw [decide_eq_true hdb] at eqb
        cases C with
        | none =>
          rw [clA] at c2
          rw [rclA] at d2
          have key := key rfl
          clear kes sml
          cases x <;> cases y <;> (try rw [decide_eq_true (key rfl rfl).2] at s2) <;> (clear key) <;> (
            simp (maxSteps := 1000000) (disch := first | omega | (simp; done) | (simp; omega)) [W_id, bys_app, bys_snoc, f_custodylaw08_MerkleClashMatchesSpec, f_custodylaw08_MerkleClashMatchesSpec_r0, f_custodylaw08_MerkleClashMatchesSpec_r1, f_custodylaw08_MerkleClashMatchesSpec_r2, h215, san8_pre, san8_post, hc, hc', kT, kF, dT, dF, e0, e2, e3, e4, e5, e6, e7, e8, e9, e10, tkb, hb, h178, c1, c2, h207, d1, d2, h173, a1, a2, b1, b2, eqb, h200, s1, s2, spl_3, st_nilL]
            exact ⟨⟨e7, e8⟩, hd⟩)
        | some w =>
          obtain ⟨u, v⟩ := w
          rw [clA] at c2
          rw [rclA] at d2
          obtain ⟨k1, k2⟩ := kes u v rfl
          obtain ⟨k3, k4⟩ := sml u v rfl
          clear key kes sml
          have q1 : sh8C.pre [.sl .plain (some false) u.length (bys u)] = True := sh8_pre (by omega) rfl
          have q2 := sh8_post (some false) u.length u
          have q3 : sh8C.pre [.sl .plain (some false) v.length (bys v)] = True := sh8_pre (by omega) rfl
          have q4 := sh8_post (some false) v.length v
          have hu := shortB_len u
          rw [← k2] at q4
          generalize shortB u = su at *
          have eqs := eqCells_ks8 hu hu
          rw [decide_eq_true rfl] at eqs
          have tks := take_l16 hu
          generalize decide (p = q) = pq at *
          cases pq <;> cases x <;> cases y <;> (
            simp (maxSteps := 1000000) (disch := first | omega | (simp; done) | (simp; omega)) [W_id, bys_app, bys_snoc, f_custodylaw08_MerkleClashMatchesSpec, f_custodylaw08_MerkleClashMatchesSpec_r0, f_custodylaw08_MerkleClashMatchesSpec_r1, f_custodylaw08_MerkleClashMatchesSpec_r2, h215, san8_pre, san8_post, hc, hc', kT, kF, dT, dF, e0, e2, e3, e4, e5, e6, e7, e8, e9, e10, tkb, hb, h178, c1, c2, h207, d1, d2, h173, a1, a2, b1, b2, eqb, h200, s1, s2, spl_3, st_nilL, k1, h219, q1, q2, q3, q4, eqs, tks]
            exact ⟨⟨e7, e8⟩, hd, hu⟩)
      · rw [decide_eq_false hdb] at eqb
        cases C with
        | none =>
          rw [clA] at c2
          rw [rclA] at d2
          have key : ¬ (x = true ∧ y = true) := fun hh => hdb (key rfl hh.1 hh.2).1
          clear kes sml
          cases x <;> cases y <;> (first | exact absurd ⟨rfl, rfl⟩ key | skip) <;> (
            simp (maxSteps := 1000000) (disch := first | omega | (simp; done) | (simp; omega)) [W_id, bys_app, bys_snoc, f_custodylaw08_MerkleClashMatchesSpec, f_custodylaw08_MerkleClashMatchesSpec_r0, f_custodylaw08_MerkleClashMatchesSpec_r1, f_custodylaw08_MerkleClashMatchesSpec_r2, h215, san8_pre, san8_post, hc, hc', kT, kF, dT, dF, e0, e2, e3, e4, e5, e6, e7, e8, e9, e10, tkb, hb, h178, c1, c2, h207, d1, d2, h173, a1, a2, b1, b2, eqb, spl_3, st_nilL]
            exact ⟨⟨e7, e8⟩, hd⟩)
        | some w =>
          obtain ⟨u, v⟩ := w
          rw [clA] at c2
          rw [rclA] at d2
          obtain ⟨k1, k2⟩ := kes u v rfl
          obtain ⟨k3, k4⟩ := sml u v rfl
          clear key kes sml
          have q1 : sh8C.pre [.sl .plain (some false) u.length (bys u)] = True := sh8_pre (by omega) rfl
          have q2 := sh8_post (some false) u.length u
          have q3 : sh8C.pre [.sl .plain (some false) v.length (bys v)] = True := sh8_pre (by omega) rfl
          have q4 := sh8_post (some false) v.length v
          have hu := shortB_len u
          rw [← k2] at q4
          generalize shortB u = su at *
          have eqs := eqCells_ks8 hu hu
          rw [decide_eq_true rfl] at eqs
          have tks := take_l16 hu
          cases x <;> cases y <;> (
            simp (maxSteps := 1000000) (disch := first | omega | (simp; done) | (simp; omega)) [W_id, bys_app, bys_snoc, f_custodylaw08_MerkleClashMatchesSpec, f_custodylaw08_MerkleClashMatchesSpec_r0, f_custodylaw08_MerkleClashMatchesSpec_r1, f_custodylaw08_MerkleClashMatchesSpec_r2, h215, san8_pre, san8_post, hc, hc', kT, kF, dT, dF, e0, e2, e3, e4, e5, e6, e7, e8, e9, e10, tkb, hb, h178, c1, c2, h207, d1, d2, h173, a1, a2, b1, b2, eqb, spl_3, st_nilL, k1, h219, q1, q2, q3, q4, eqs, tks]
            exact ⟨⟨e7, e8⟩, hd, hu⟩)
    · have hc' : (70 : Int) < (q.length : Int) := by omega
      simp (maxSteps := 1000000) (disch := first | omega | (simp; done) | (simp; omega)) [W_id, bys_app, bys_snoc, f_custodylaw08_MerkleClashMatchesSpec, h215, san8_pre, san8_post, hc, hc', kT, kF, dT, dF, e0, e6, e7, e8, e9, e10, tkb, hb]
      exact ⟨e7, e8⟩
  · have hc : (70 : Int) < (p.length : Int) := by omega
    simp (maxSteps := 1000000) (disch := first | omega | (simp; done) | (simp; omega)) [W_id, bys_app, bys_snoc, f_custodylaw08_MerkleClashMatchesSpec, h215, san8_pre, san8_post, hc, kT, kF, dT, dF, e0, e6, e7, e8, e9, e10, tkb, hb]
    exact ⟨e7, e8⟩
end Go.Abs
end

section
namespace Go.Abs
set_option maxRecDepth 100000
section
variable {o r a b : List UInt8} {m n i : Int} {s1 s2 s3 : AVal}
end
end Go.Abs
end

section
namespace Go.Abs
theorem lawKC_pre (as : List AVal) (h : hasA [vinG, .arr 16 (.int .u8), .sl (.arr 16 (.int .u8))] as) : lawKC.pre as := by
  simp only [hasA] at h
  obtain ⟨c0, _, rfl, h0, c1, _, rfl, h1, c2, _, rfl, h2, rfl⟩ := h
  obtain ⟨o, r, n, i, d, p, ho, hr, hn, hi, hd, hp, rfl⟩ := has_vin h0
  obtain ⟨b, hb, rfl⟩ := has_arr8 h1
  obtain ⟨q, hq, rfl⟩ := has_dgs h2
  exact ⟨o, r, n, i, d, none, p, b, none, q, ho, hr, hn, hi, hd, hp, hb, hq, rfl⟩
end Go.Abs
end
