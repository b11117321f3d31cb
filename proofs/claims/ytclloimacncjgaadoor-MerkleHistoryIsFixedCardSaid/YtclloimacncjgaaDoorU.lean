/- Lemmas: an abstract interpreter, and what the functions compute. -/
import Derived.Test.YtclloimacncjgaaDoorT
import Derived.Test.YtclloimacncjgaaDoorS
import Derived.Test.YtclloimacncjgaaDoorQ
import Derived.Test.YtclloimacncjgaaDoorR
set_option linter.unusedSimpArgs false
set_option linter.unusedVariables false
set_option linter.unusedSectionVars false
section
namespace Go.Abs
set_option maxRecDepth 100000
def shK (X : List UInt8) (i : Nat) : List UInt8 := X.take i ++ zeros (16 - i)
theorem shK_len {X : List UInt8} (hX : X.length = 32) {i : Nat} (h : i ≤ 16) : (shK X i).length = 16 := by
  simp [shK, hX]; omega
theorem shK_set {X : List UInt8} (hX : X.length = 32) {i : Nat} (h : i < 16) : (shK X i).set i (at8 X i) = shK X (i + 1) := by
  have ht : (X.take i).length = i := by rw [List.length_take]; omega
  have e : zeros (16 - i) = 0 :: zeros (16 - (i + 1)) := by
    rw [show 16 - i = (16 - (i + 1)) + 1 by omega]; rfl
  rw [shK, shK, List.set_append_right _ _ (by omega), ht, Nat.sub_self, e, List.set_cons_zero, List.take_succ_eq_append_getElem (by omega), List.append_assoc]
  simp [at8, List.getD, List.getElem?_eq_getElem (show i < X.length by omega)]
theorem shK_all {X : List UInt8} : shK X 16 = X.take 16 := by simp [shK, zeros]
theorem shK_0 (X : List UInt8) : shK X 0 = zeros 16 := by simp [shK]
def sh8C : Contract := ⟨fun ds => ∃ (nl : Option Bool) (b : List UInt8), b.length ≤ 1000000 ∧ ds = [.sl .plain nl b.length (bys b)], fun ds => .agg (bys (shortB (gBs (gCs (nth ds 0)))))⟩
theorem sh8_pre {nl : Option Bool} {n : Nat} {b : List UInt8} (h : b.length ≤ 1000000) (hn : n = b.length) : sh8C.pre [.sl .plain nl n (bys b)] = True := eq_true ⟨nl, b, h, by rw [hn]⟩
theorem sh8_post (nl : Option Bool) (n : Nat) (b : List UInt8) : sh8C.post [.sl .plain nl n (bys b)] = .agg (bys (shortB b)) := by
  show AVal.agg (bys (shortB (gBs (bys b)))) = _
  simp
set_option maxHeartbeats 4000000 in
theorem sh8_ok (E : Env) (h3 : E.G 3 = hsumC) : ∀ ds, sh8C.pre ds → ds.length = f_custodylaw08_short.n ∧ awp E f_custodylaw08_short.body (retQ f_custodylaw08_short.res (sh8C.post ds)) (initSt f_custodylaw08_short.wr ds) := by
  rintro _ ⟨nl, b, hb, rfl⟩
  rw [sh8_post, shortB]
  have e1 : hsumC.pre [.sl .plain nl b.length (bys b)] = True := hsum_pre rfl (by omega)
  have e2 : hsumC.post [.sl .plain nl b.length (bys b)] = .agg (bys (sha b)) := hsum_post _ _ _
  have hX := sha_len b
  generalize sha b = X at *
  have hx := take_l16 (show (X.take 16).length = 16 by rw [List.length_take]; omega)
  have bX : (bys X).length = 32 := by simpa using hX
  simp (maxSteps := 1000000) (disch := first | omega | (simp; done) | (simp; omega)) [W_id, bys_app, bys_snoc, f_custodylaw08_short, h3, e1, e2, splice_full, bX, hX]
  refine awp_name fun Q1 hQ1 => ?_
  refine awp_for (fun i : Nat => ⟨[(0, .sl .plain nl b.length (bys b))], [(2, .bp 2 0), (3, .bp 3 0), (4, .bp 4 0), (5, i64 i)], [(2, some (bys (zeros 16))), (3, some (bys X)), (4, some (bys (shK X i)))]⟩) (fun i => 16 - i) (fun i => i ≤ 16) 0 (by simp [shK_0]) (by simp) fun i hi => ?_
  have sl := shK_len hX hi
  by_cases h : i < 16
  · have lt : (i : Int) < 16 := by omega
    have st := shK_set hX h
    simp (maxSteps := 1000000) (disch := first | omega | (simp; done) | (simp; omega)) [W_id, bys_app, bys_snoc, f_custodylaw08_short_l0, f_custodylaw08_short_r0, lt, kT, kF, dT, dF, hX, sl, hd_bys, splice_bys, st]
    exact ⟨by omega, by omega, by omega, i + 1, by omega, by omega, by omega, rfl⟩
  · have lt : ¬ (i : Int) < 16 := by omega
    have e : i = 16 := by omega
    subst e
    rw [shK_all] at sl ⊢
    simp (maxSteps := 1000000) (disch := first | omega | (simp; done) | (simp; omega)) [W_id, bys_app, bys_snoc, f_custodylaw08_short_l0, f_custodylaw08_short_r1, lt, kT, kF, dT, dF, hQ1, hX, sl, hx, splice_full]
/-! ### Whether two inputs collide -/
def mxC (l : List (Bool × List UInt8)) : List AVal := l.map fun b => .sl (if b.1 then .own 1 else .plain) (some false) b.2.length (bys b.2)
@[simp] theorem mxC_len (l : List (Bool × List UInt8)) : (mxC l).length = l.length := by simp [mxC]
theorem mxC_at {l : List (Bool × List UInt8)} {i : Nat} (h : i < l.length) : ∃ c : Bool, hdA ((mxC l).drop i) = .sl (if c then .own 1 else .plain) (some false) ((l.map (·.2)).getD i []).length (bys ((l.map (·.2)).getD i [])) := by
  refine ⟨l[i].1, ?_⟩
  rw [mxC, ← List.map_drop, List.drop_eq_getElem_cons h, List.map_cons, List.getD, List.getElem?_map, List.getElem?_eq_getElem h]; rfl
@[simp] theorem pureL_mxC : ∀ l : List (Bool × List UInt8), pureL (mxC l) = true
  | [] => rfl
  | x :: l => by
    show (pureB (.sl (if x.1 then .own 1 else .plain) (some false) x.2.length (bys x.2)) && pureL (mxC l)) = true
    rw [pureL_mxC l]
    cases x.1 <;> rfl
def gMx (cs : List AVal) : List (List UInt8) := cs.map fun c => gBs (gCs c)
theorem gMx_mxC : ∀ l : List (Bool × List UInt8), gMx (mxC l) = l.map (·.2)
  | [] => rfl
  | x :: l => by
    have := gMx_mxC l
    simp only [gMx, mxC, List.map_cons] at this ⊢
    rw [this]
    simp
def colC : Contract := ⟨fun ds => ∃ (nl : Option Bool) (l : List (Bool × List UInt8)), l.length ≤ 1000000 ∧ (∀ b ∈ l, b.2.length ≤ 51) ∧ ds = [.sl .plain nl l.length (mxC l)], fun ds => bo (coll (gMx (gCs (nth ds 0))))⟩
theorem col_pre {nl : Option Bool} {n : Nat} {cs : List AVal} {l : List (Bool × List UInt8)} (hl : l.length ≤ 1000000) (hs : ∀ b ∈ l, b.2.length ≤ 51) (hn : n = l.length) (hc : cs = mxC l) : colC.pre [.sl .plain nl n cs] = True := eq_true ⟨nl, l, hl, hs, by rw [hn, hc]⟩
theorem col_post {nl : Option Bool} {n : Nat} {cs : List AVal} {l : List (Bool × List UInt8)} (hc : cs = mxC l) : colC.post [.sl .plain nl n cs] = bo (coll (l.map (·.2))) := by
  show bo (coll (gMx cs)) = _
  rw [hc, gMx_mxC]
theorem coll_t {l : List (List UInt8)} {i k : Nat} (hi : i < l.length) (hk : k < i) (h : prC l i k = true) : coll l = true := List.any_eq_true.2 ⟨i, by simpa using hi, List.any_eq_true.2 ⟨k, by simpa using hk, h⟩⟩
theorem coll_f {l : List (List UInt8)} (h : ∀ i < l.length, ∀ k < i, prC l i k = false) : coll l = false := by
  refine Bool.eq_false_iff.2 fun hc => ?_
  obtain ⟨i, hi, hc⟩ := List.any_eq_true.1 hc
  obtain ⟨k, hk, hc⟩ := List.any_eq_true.1 hc
  rw [h i (by simpa using hi) k (by simpa using hk)] at hc
  cases hc
set_option maxHeartbeats 8000000 in
theorem col_ok (E : Env) (h219 : E.G 219 = sh8C) : ∀ ds, colC.pre ds → ds.length = f_custodylaw08_collides.n ∧ awp E f_custodylaw08_collides.body (retQ f_custodylaw08_collides.res (colC.post ds)) (initSt f_custodylaw08_collides.wr ds) := by
  rintro _ ⟨nl, l, hl, hs, rfl⟩
  rw [col_post rfl]
  have ml := mxC_len l
  have pm := pureL_mxC l
  have at' := fun i (h : i < l.length) => mxC_at h
  have sz : ∀ i, i < l.length → ((l.map (·.2)).getD i []).length ≤ 51 := fun i hi => by
    rw [List.getD, List.getElem?_map, List.getElem?_eq_getElem hi]
    exact hs _ (List.getElem_mem hi)
  have ct := fun i k (hi : i < l.length) => coll_t (l := l.map (·.2)) (i := i) (k := k) (by simpa using hi)
  have cf := coll_f (l := l.map (·.2))
  rw [List.length_map] at cf
  have pr : ∀ i k, prC (l.map (·.2)) i k = ((decide (¬ (l.map (·.2)).getD i [] = (l.map (·.2)).getD k [])) && decide (shortB ((l.map (·.2)).getD i []) = shortB ((l.map (·.2)).getD k []))) := fun _ _ => rfl
  clear hs
  generalize l.map (·.2) = L at *
  generalize mxC l = cs at *
  generalize l.length = n at *
  simp (maxSteps := 1000000) (disch := first | omega | (simp; done) | (simp; omega)) [W_id, bys_app, bys_snoc, f_custodylaw08_collides]
  refine awp_name fun Q0 hQ0 => ?_
  refine awp_for (fun i : Nat => ⟨[(0, .sl .plain nl n cs)], [(3, i64 i)], []⟩) (fun i => n - i) (fun i => i ≤ n ∧ ∀ i' < i, ∀ k < i', prC L i' k = false) 0 (by simp) ⟨by omega, fun i' h => by omega⟩ fun i hi => ?_
  obtain ⟨hi, hno⟩ := hi
  refine awp_name fun Q1 hQ1 => ?_
  by_cases h : i < n
  · have lt : (i : Int) < n := by omega
    simp (maxSteps := 1000000) (disch := first | omega | (simp; done) | (simp; omega)) [W_id, bys_app, bys_snoc, f_custodylaw08_collides_l0, f_custodylaw08_collides_r0, lt, kT, kF, dT, dF]
    refine awp_name fun Q2 hQ2 => ?_
    refine awp_for (fun k : Nat => ⟨[(0, .sl .plain nl n cs)], [(3, i64 i), (4, i64 k)], []⟩) (fun k => i - k) (fun k => k ≤ i ∧ ∀ k' < k, prC L i k' = false) 0 (by simp) ⟨by omega, fun k' h => by omega⟩ fun k hk => ?_
    obtain ⟨hk, hnk⟩ := hk
    by_cases hki : k < i
    · have lk : (k : Int) < i := by omega
      obtain ⟨c1, a1⟩ := at' i h
      obtain ⟨c2, a2⟩ := at' k (by omega)
      have z1 := sz i h
      have z2 := sz k (by omega)
      have ct' := ct i k h hki
      rw [pr] at ct'
      have hpk : prC L i k = false → ∀ k' < k + 1, prC L i k' = false := fun hp k' hk' => by
        rcases Nat.lt_or_eq_of_le (Nat.lt_succ_iff.1 hk') with e | e
        · exact hnk k' e
        · rw [e]; exact hp
      rw [pr] at hpk
      clear at' sz ct cf pr hnk
      generalize L.getD i [] = u at *
      generalize L.getD k [] = v at *
      have q1 : sh8C.pre [.sl .plain (some false) u.length (bys u)] = True := sh8_pre (by omega) rfl
      have q2 := sh8_post (some false) u.length u
      have q3 : sh8C.pre [.sl .plain (some false) v.length (bys v)] = True := sh8_pre (by omega) rfl
      have q4 := sh8_post (some false) v.length v
      have hu := shortB_len u
      have hv := shortB_len v
      generalize shortB u = su at *
      generalize shortB v = sv at *
      have eqb := eqCells_ks8 hu hv
      have tku := take_l16 hu
      have tkv := take_l16 hv
      by_cases huv : u = v
      · have hp2 := hpk (by rw [huv]; simp)
        subst huv
        cases c1 <;> cases c2 <;> simp only [Bool.false_eq_true, if_true, if_false] at a1 a2 <;> (
          simp (maxSteps := 1000000) (disch := first | omega | (simp; done) | (simp; omega)) [W_id, bys_app, bys_snoc, f_custodylaw08_collides_l1, f_custodylaw08_collides_r1, lk, kT, kF, dT, dF, a1, a2, hQ1, hQ2]
          exact ⟨h, by omega, by omega, by omega, k + 1, by omega, ⟨by omega, hp2⟩, by omega⟩)
      · by_cases hss : su = sv
        · have ct2 := ct' (by rw [decide_eq_true huv, decide_eq_true hss]; rfl)
          rw [decide_eq_true hss] at eqb
          clear ct'
          have hQf : Q0 = Q0 := rfl
          cases c1 <;> cases c2 <;> simp only [Bool.false_eq_true, if_true, if_false] at a1 a2 <;> (
            simp (maxSteps := 1000000) (disch := first | omega | (simp; done) | (simp; omega)) [W_id, bys_app, bys_snoc, f_custodylaw08_collides_l1, f_custodylaw08_collides_r1, lk, kT, kF, dT, dF, a1, a2, hQ1, hQ2, huv, h219, q1, q2, q3, q4, eqb]
            refine ⟨h, by omega, by omega, by omega, h, by omega, by omega, by omega, ⟨hu, hv⟩, ?_⟩
            simp (maxSteps := 1000000) (disch := first | omega | (simp; done) | (simp; omega)) [W_id, bys_app, bys_snoc, hQ0, ct2]
            skip)
        · have hp2 := hpk (by rw [decide_eq_false hss]; simp)
          rw [decide_eq_false hss] at eqb
          cases c1 <;> cases c2 <;> simp only [Bool.false_eq_true, if_true, if_false] at a1 a2 <;> (
            simp (maxSteps := 1000000) (disch := first | omega | (simp; done) | (simp; omega)) [W_id, bys_app, bys_snoc, f_custodylaw08_collides_l1, f_custodylaw08_collides_r1, lk, kT, kF, dT, dF, a1, a2, hQ1, hQ2, huv, h219, q1, q2, q3, q4, eqb]
            exact ⟨h, by omega, by omega, by omega, h, by omega, by omega, by omega, ⟨hu, hv⟩, k + 1, by omega, ⟨by omega, hp2⟩, by omega⟩)
    · have lk : ¬ (k : Int) < i := by omega
      simp (maxSteps := 1000000) (disch := first | omega | (simp; done) | (simp; omega)) [W_id, bys_app, bys_snoc, f_custodylaw08_collides_l1, lk, kT, kF, dT, dF, hQ2, hQ1]
      have e : k = i := by omega
      subst e
      refine ⟨k + 1, by omega, ⟨by omega, fun i' hi' j hj => ?_⟩, by omega⟩
      rcases Nat.lt_or_eq_of_le (Nat.lt_succ_iff.1 hi') with e | e
      · exact hno i' e j hj
      · subst e; exact hnk j hj
  · have lt : ¬ (i : Int) < n := by omega
    simp (maxSteps := 1000000) (disch := first | omega | (simp; done) | (simp; omega)) [W_id, bys_app, bys_snoc, f_custodylaw08_collides_l0, lt, kT, kF, dT, dF, hQ1, hQ0, f_custodylaw08_collides_r2]
    have e : i = n := by omega
    subst e
    rw [cf hno]
end Go.Abs
end

section
namespace Go.Abs
set_option maxRecDepth 100000
end Go.Abs
end

section
namespace Go.Abs
set_option maxRecDepth 100000
def hiL (o r : List UInt8) (m n i : Int) (a b : List UInt8) (s1 s2 s3 : AVal) : List AVal := bys o ++ (bys r ++ (i64 m :: i64 n :: i64 i :: (bys a ++ (bys b ++ [s1, s2, s3]))))
section
variable {o r a b : List UInt8} {m n i : Int} {s1 s2 s3 : AVal}
theorem hiL_len (ho : o.length = 16) (hr : r.length = 16) (ha : a.length = 16) (hb : b.length = 16) : (hiL o r m n i a b s1 s2 s3).length = 70 := by simp [hiL, ho, hr, ha, hb]
theorem hiL_0 (ho : o.length = 16) : (hiL o r m n i a b s1 s2 s3).take 16 = bys o := by rw [hiL, ← bl16 ho, List.take_left]
theorem hiL_d16 (ho : o.length = 16) : (hiL o r m n i a b s1 s2 s3).drop 16 = bys r ++ (i64 m :: i64 n :: i64 i :: (bys a ++ (bys b ++ [s1, s2, s3]))) := by rw [hiL, ← bl16 ho, List.drop_left]
theorem hiL_16 (ho : o.length = 16) (hr : r.length = 16) : ((hiL o r m n i a b s1 s2 s3).drop 16).take 16 = bys r := by rw [hiL_d16 ho, ← bl16 hr, List.take_left]
theorem hiL_d32 (ho : o.length = 16) (hr : r.length = 16) : (hiL o r m n i a b s1 s2 s3).drop 32 = i64 m :: i64 n :: i64 i :: (bys a ++ (bys b ++ [s1, s2, s3])) := by
  rw [show 32 = 16 + 16 from rfl, ← List.drop_drop, hiL_d16 ho, ← bl16 hr, List.drop_left]
theorem hiL_32 (ho : o.length = 16) (hr : r.length = 16) : hdA ((hiL o r m n i a b s1 s2 s3).drop 32) = i64 m := by rw [hiL_d32 ho hr]; rfl
theorem hiL_33 (ho : o.length = 16) (hr : r.length = 16) : hdA ((hiL o r m n i a b s1 s2 s3).drop 33) = i64 n := by
  rw [show 33 = 32 + 1 from rfl, ← List.drop_drop, hiL_d32 ho hr]; rfl
theorem hiL_34 (ho : o.length = 16) (hr : r.length = 16) : hdA ((hiL o r m n i a b s1 s2 s3).drop 34) = i64 i := by
  rw [show 34 = 32 + 2 from rfl, ← List.drop_drop, hiL_d32 ho hr]; rfl
theorem hiL_d35 (ho : o.length = 16) (hr : r.length = 16) : (hiL o r m n i a b s1 s2 s3).drop 35 = bys a ++ (bys b ++ [s1, s2, s3]) := by
  rw [show 35 = 32 + 3 from rfl, ← List.drop_drop, hiL_d32 ho hr]; rfl
theorem hiL_35 (ho : o.length = 16) (hr : r.length = 16) (ha : a.length = 16) : ((hiL o r m n i a b s1 s2 s3).drop 35).take 16 = bys a := by rw [hiL_d35 ho hr, ← bl16 ha, List.take_left]
theorem hiL_d51 (ho : o.length = 16) (hr : r.length = 16) (ha : a.length = 16) : (hiL o r m n i a b s1 s2 s3).drop 51 = bys b ++ [s1, s2, s3] := by
  rw [show 51 = 35 + 16 from rfl, ← List.drop_drop, hiL_d35 ho hr, ← bl16 ha, List.drop_left]
theorem hiL_51 (ho : o.length = 16) (hr : r.length = 16) (ha : a.length = 16) (hb : b.length = 16) : ((hiL o r m n i a b s1 s2 s3).drop 51).take 16 = bys b := by rw [hiL_d51 ho hr ha, ← bl16 hb, List.take_left]
theorem hiL_d67 (ho : o.length = 16) (hr : r.length = 16) (ha : a.length = 16) (hb : b.length = 16) : (hiL o r m n i a b s1 s2 s3).drop 67 = [s1, s2, s3] := by
  rw [show 67 = 51 + 16 from rfl, ← List.drop_drop, hiL_d51 ho hr ha, ← bl16 hb, List.drop_left]
theorem hiL_67 (ho : o.length = 16) (hr : r.length = 16) (ha : a.length = 16) (hb : b.length = 16) : hdA ((hiL o r m n i a b s1 s2 s3).drop 67) = s1 := by rw [hiL_d67 ho hr ha hb]; rfl
theorem hiL_68 (ho : o.length = 16) (hr : r.length = 16) (ha : a.length = 16) (hb : b.length = 16) : hdA ((hiL o r m n i a b s1 s2 s3).drop 68) = s2 := by
  rw [show 68 = 67 + 1 from rfl, ← List.drop_drop, hiL_d67 ho hr ha hb]; rfl
theorem hiL_69 (ho : o.length = 16) (hr : r.length = 16) (ha : a.length = 16) (hb : b.length = 16) : hdA ((hiL o r m n i a b s1 s2 s3).drop 69) = s3 := by
  rw [show 69 = 67 + 2 from rfl, ← List.drop_drop, hiL_d67 ho hr ha hb]; rfl
end
theorem hiL_cell {o r a b : List UInt8} {m n i : Int} {x y z : Option Bool} {k1 k2 k3 : Nat} {c1 c2 c3 : List AVal} : ∀ c ∈ hiL o r m n i a b (.sl .plain x k1 c1) (.sl .plain y k2 c2) (.sl .plain z k3 c3), isCell c := by
  simp [hiL, or_imp, forall_and]
theorem hiL_own {o r a b : List UInt8} {m n i : Int} {x y z : Option Bool} {k1 k2 k3 : Nat} {c1 c2 c3 : List AVal} : ∀ c ∈ hiL o r m n i a b (.sl .plain x k1 c1) (.sl .plain y k2 c2) (.sl .plain z k3 c3), ownTop c = false := by
  simp [hiL, or_imp, forall_and]
theorem hiL_pure {o r a b : List UInt8} {m n i : Int} {x y z : Option Bool} {k1 k2 k3 : Nat} {c1 c2 c3 : List AVal} : pureL (hiL o r m n i a b (.sl .plain x k1 c1) (.sl .plain y k2 c2) (.sl .plain z k3 c3)) = true := by
  simp [hiL]
theorem hiL_refs {o r a b : List UInt8} {m n i : Int} {x y z : Option Bool} {k1 k2 k3 : Nat} {c1 c2 c3 : List AVal} : refsL (hiL o r m n i a b (.sl .plain x k1 c1) (.sl .plain y k2 c2) (.sl .plain z k3 c3)) = [] := by
  simp [hiL]
theorem mxC_three (x y z : List (List UInt8)) : blsC x ++ blsC y ++ plC z = mxC (x.map (true, ·) ++ y.map (true, ·) ++ z.map (false, ·)) := by
  simp [mxC, blsC, plC, Function.comp_def]
theorem mx_three (x y z : List (List UInt8)) : (x.map (true, ·) ++ y.map (true, ·) ++ z.map (false, ·)).map (·.2) = x ++ y ++ z := by
  simp [Function.comp_def]
theorem riL_small {r : List UInt8} {n i : Int} {d : List UInt8} {p : List (List UInt8)} (hd : d.length = 16) (hp : is16 p) (h : vfyN r n i d p = true) : (riL n i d p).length = p.length + 1 ∧ ∀ c ∈ riL n i d p, c.length ≤ 51 := by
  unfold vfyN at h
  cases hx : inpsI n i d p with
  | none => rw [hx] at h; cases h
  | some x =>
    obtain ⟨_, l1, l2⟩ := inpsI_some hd hp hx
    rw [riL_some hx]
    exact ⟨l1, l2⟩
def lawKH : Contract := trueC fun ds => ∃ (o r : List UInt8) (m n i : Int) (a b : List UInt8) (x y z : Option Bool) (p q l : List (List UInt8)), o.length = 16 ∧ r.length = 16 ∧ inI m ∧ inI n ∧ inI i ∧ a.length = 16 ∧ b.length = 16 ∧ is16 p ∧ is16 q ∧ is16 l ∧ ds = [.agg (hiL o r m n i a b (dgsA x p) (dgsA y q) (dgsA z l))]
set_option maxHeartbeats 16000000 in
theorem law_KH_ok (E : Env) (h215 : E.G 215 = sanC) (h173 : E.G 173 = vfyC) (h176 : E.G 176 = vprC) (h203 : E.G 203 = rinC) (h208 : E.G 208 = pinC) (h221 : E.G 221 = colC) : ∀ ds, lawKH.pre ds → ds.length = f_custodylaw08_MerkleHistoryIsFixed.n ∧ awp E f_custodylaw08_MerkleHistoryIsFixed.body (retQ f_custodylaw08_MerkleHistoryIsFixed.res (lawKH.post ds)) (initSt f_custodylaw08_MerkleHistoryIsFixed.wr ds) := by
  rintro _ ⟨o, r, m, n, i, a, b, x, y, z, p, q, l, ho, hr, hm, hn, hi, ha, hb, hp, hq, hl, rfl⟩
  rw [show lawKH.post [.agg (hiL o r m n i a b (dgsA x p) (dgsA y q) (dgsA z l))] = bo true from rfl]
  unfold dgsA
  have g0 := hiL_len (m := m) (n := n) (i := i) (s1 := .sl .plain x p.length (bys (dgs p))) (s2 := .sl .plain y q.length (bys (dgs q))) (s3 := .sl .plain z l.length (bys (dgs l))) ho hr ha hb
  have g1 := hiL_0 (r := r) (a := a) (b := b) (m := m) (n := n) (i := i) (s1 := .sl .plain x p.length (bys (dgs p))) (s2 := .sl .plain y q.length (bys (dgs q))) (s3 := .sl .plain z l.length (bys (dgs l))) ho
  have g2 := hiL_16 (a := a) (b := b) (m := m) (n := n) (i := i) (s1 := .sl .plain x p.length (bys (dgs p))) (s2 := .sl .plain y q.length (bys (dgs q))) (s3 := .sl .plain z l.length (bys (dgs l))) ho hr
  have g3 := hiL_32 (a := a) (b := b) (m := m) (n := n) (i := i) (s1 := .sl .plain x p.length (bys (dgs p))) (s2 := .sl .plain y q.length (bys (dgs q))) (s3 := .sl .plain z l.length (bys (dgs l))) ho hr
  have g4 := hiL_33 (a := a) (b := b) (m := m) (n := n) (i := i) (s1 := .sl .plain x p.length (bys (dgs p))) (s2 := .sl .plain y q.length (bys (dgs q))) (s3 := .sl .plain z l.length (bys (dgs l))) ho hr
  have g5 := hiL_34 (a := a) (b := b) (m := m) (n := n) (i := i) (s1 := .sl .plain x p.length (bys (dgs p))) (s2 := .sl .plain y q.length (bys (dgs q))) (s3 := .sl .plain z l.length (bys (dgs l))) ho hr
  have g6 := hiL_35 (b := b) (m := m) (n := n) (i := i) (s1 := .sl .plain x p.length (bys (dgs p))) (s2 := .sl .plain y q.length (bys (dgs q))) (s3 := .sl .plain z l.length (bys (dgs l))) ho hr ha
  have g7 := hiL_51 (m := m) (n := n) (i := i) (s1 := .sl .plain x p.length (bys (dgs p))) (s2 := .sl .plain y q.length (bys (dgs q))) (s3 := .sl .plain z l.length (bys (dgs l))) ho hr ha hb
  have g8 := hiL_67 (m := m) (n := n) (i := i) (s1 := .sl .plain x p.length (bys (dgs p))) (s2 := .sl .plain y q.length (bys (dgs q))) (s3 := .sl .plain z l.length (bys (dgs l))) ho hr ha hb
  have g9 := hiL_68 (m := m) (n := n) (i := i) (s1 := .sl .plain x p.length (bys (dgs p))) (s2 := .sl .plain y q.length (bys (dgs q))) (s3 := .sl .plain z l.length (bys (dgs l))) ho hr ha hb
  have g10 := hiL_69 (m := m) (n := n) (i := i) (s1 := .sl .plain x p.length (bys (dgs p))) (s2 := .sl .plain y q.length (bys (dgs q))) (s3 := .sl .plain z l.length (bys (dgs l))) ho hr ha hb
  have g11 := @hiL_cell o r a b m n i x y z p.length q.length l.length (bys (dgs p)) (bys (dgs q)) (bys (dgs l))
  have g12 := @hiL_own o r a b m n i x y z p.length q.length l.length (bys (dgs p)) (bys (dgs q)) (bys (dgs l))
  have g13 := @hiL_pure o r a b m n i x y z p.length q.length l.length (bys (dgs p)) (bys (dgs q)) (bys (dgs l))
  have g14 := @hiL_refs o r a b m n i x y z p.length q.length l.length (bys (dgs p)) (bys (dgs q)) (bys (dgs l))
  generalize hiL o r m n i a b (.sl .plain x p.length (bys (dgs p))) (.sl .plain y q.length (bys (dgs q))) (.sl .plain z l.length (bys (dgs l))) = S at *
  by_cases hpl : (40 : Int) < (p.length : Int)
  · simp (maxSteps := 1000000) (disch := first | omega | (simp; done) | (simp; omega)) [W_id, bys_app, bys_snoc, f_custodylaw08_MerkleHistoryIsFixed, h215, san8_pre, san8_post, hpl, kT, kF, dT, dF, g0, g8, g11, g12, g13, g14]
    exact ⟨g11, g12⟩
  by_cases hql : (40 : Int) < (q.length : Int)
  · simp (maxSteps := 1000000) (disch := first | omega | (simp; done) | (simp; omega)) [W_id, bys_app, bys_snoc, f_custodylaw08_MerkleHistoryIsFixed, h215, san8_pre, san8_post, hpl, hql, kT, kF, dT, dF, g0, g8, g9, g11, g12, g13, g14]
    exact ⟨g11, g12⟩
  by_cases hll : (40 : Int) < (l.length : Int)
  · simp (maxSteps := 1000000) (disch := first | omega | (simp; done) | (simp; omega)) [W_id, bys_app, bys_snoc, f_custodylaw08_MerkleHistoryIsFixed, h215, san8_pre, san8_post, hpl, hql, hll, kT, kF, dT, dF, g0, g8, g9, g10, g11, g12, g13, g14]
    exact ⟨g11, g12⟩
  have a1 := vfyC_pre (r := o) (n := m) (i := i) (d := a) (nl := x) ho hm.2 ha hp (by omega)
  have a2 := vfyC_post (r := o) (n := m) (i := i) (d := a) (nl := x) hp
  have b1 := vfyC_pre (r := r) (n := n) (i := i) (d := b) (nl := y) hr hn.2 hb hq (by omega)
  have b2 := vfyC_post (r := r) (n := n) (i := i) (d := b) (nl := y) hq
  have c1 := vprC_pre (old := o) (root := r) (m := m) (n := n) (nl := z) ho hr hn.2 hl (by omega)
  have c2 := vprC_post (old := o) (root := r) (m := m) (n := n) (nl := z) hl
  have key := history (old := o) (root := r) (A := a) (B := b) (m := m) (n := n) (i := i) ho ha hb hp hq hl
  have eqb := eqCells_ks8 ha hb
  cases h1 : vfyN o m i a p with
  | false =>
    rw [h1] at a2
    generalize vfyN r n i b q = v2 at *
    generalize vpN o r m n l = v3 at *
    simp (maxSteps := 1000000) (disch := first | omega | (simp; done) | (simp; omega)) [W_id, bys_app, bys_snoc, f_custodylaw08_MerkleHistoryIsFixed, f_custodylaw08_MerkleHistoryIsFixed_r0, h215, san8_pre, san8_post, hpl, hql, hll, kT, kF, dT, dF, g0, g1, g2, g3, g4, g5, g6, g7, g8, g9, g10, g11, g12, g13, g14, h173, a1, a2, b1, b2, h176, c1, c2]
    exact ⟨g11, g12⟩
  | true =>
  rw [h1] at a2
  cases h2 : vfyN r n i b q with
  | false =>
    rw [h2] at b2
    generalize vpN o r m n l = v3 at *
    simp (maxSteps := 1000000) (disch := first | omega | (simp; done) | (simp; omega)) [W_id, bys_app, bys_snoc, f_custodylaw08_MerkleHistoryIsFixed, f_custodylaw08_MerkleHistoryIsFixed_r0, h215, san8_pre, san8_post, hpl, hql, hll, kT, kF, dT, dF, g0, g1, g2, g3, g4, g5, g6, g7, g8, g9, g10, g11, g12, g13, g14, h173, a1, a2, b1, b2, h176, c1, c2]
    exact ⟨g11, g12⟩
  | true =>
  rw [h2] at b2
  cases h3 : vpN o r m n l with
  | false =>
    rw [h3] at c2
    simp (maxSteps := 1000000) (disch := first | omega | (simp; done) | (simp; omega)) [W_id, bys_app, bys_snoc, f_custodylaw08_MerkleHistoryIsFixed, f_custodylaw08_MerkleHistoryIsFixed_r0, h215, san8_pre, san8_post, hpl, hql, hll, kT, kF, dT, dF, g0, g1, g2, g3, g4, g5, g6, g7, g8, g9, g10, g11, g12, g13, g14, h173, a1, a2, b1, b2, h176, c1, c2]
    exact ⟨g11, g12⟩
  | true =>
  rw [h3] at c2
  by_cases hab : a = b
  · rw [decide_eq_true hab] at eqb
    simp (maxSteps := 1000000) (disch := first | omega | (simp; done) | (simp; omega)) [W_id, bys_app, bys_snoc, f_custodylaw08_MerkleHistoryIsFixed, f_custodylaw08_MerkleHistoryIsFixed_r0, h215, san8_pre, san8_post, hpl, hql, hll, kT, kF, dT, dF, g0, g1, g2, g3, g4, g5, g6, g7, g8, g9, g10, g11, g12, g13, g14, h173, a1, a2, b1, b2, h176, c1, c2, eqb]
    exact ⟨⟨g11, g12⟩, ha, hb⟩
  rw [decide_eq_false hab] at eqb
  have key := key h1 h2 h3 hab
  have hmn : 1 ≤ m ∧ m ≤ n := by
    unfold vpN at h3
    split at h3
    · assumption
    · cases h3
  obtain ⟨m', rfl⟩ := Int.eq_ofNat_of_zero_le (show 0 ≤ m by omega)
  obtain ⟨n', rfl⟩ := Int.eq_ofNat_of_zero_le (show 0 ≤ n by omega)
  have hn2 := hn.2
  have d1 := rinC_pre (nl := x) (i := i) hm.2 ha hp (show p.length ≤ 1000 by omega) rfl rfl
  have d2 := rinC_post (m := .plain) (d := a) (nl := x) m' i hp rfl rfl
  have d3 := rinC_pre (nl := y) (i := i) hn.2 hb hq (show q.length ≤ 1000 by omega) rfl rfl
  have d4 := rinC_post (m := .plain) (d := b) (nl := y) n' i hq rfl rfl
  have d5 := pinC_pre (old := o) (m := m') (n := n') (w := true) (nl := z) ho (by omega) (by omega) (by omega) hl (show l.length ≤ 1000 by omega) rfl rfl
  have d6 := pinC_post (old := o) (m := m') (n := n') (w := true) (md := .plain) (nl := z) hl rfl rfl
  rw [riA] at d2 d4
  rw [pinA] at d6
  simp only [Int.toNat_natCast] at key
  obtain ⟨t1, t2⟩ := pinN_len ho l.reverse m' n' true (is16_rev hl)
  have t3 := pinN_cnt (old := o) l.reverse m' n' true
  have t4 := pinN_small ho l.reverse m' n' true (is16_rev hl)
  obtain ⟨u1, u2⟩ := riL_small ha hp h1
  obtain ⟨w1, w2⟩ := riL_small hb hq h2
  rw [List.length_reverse] at t3
  generalize pinN m' n' true o l.reverse = T at *
  obtain ⟨Z, tx, ty⟩ := T
  simp only at t1 t2 t3 t4 d6 key
  generalize riL m' i a p = X at *
  generalize riL n' i b q = Y at *
  generalize riN m' i = nx at *
  generalize riN n' i = ny at *
  generalize (inpsI m' i a p).isSome = ix at *
  generalize (inpsI n' i b q).isSome = iy at *
  have mx := mxC_three X Y Z
  have mz := mx_three X Y Z
  generalize hM : X.map (true, ·) ++ Y.map (true, ·) ++ Z.map (false, ·) = M at *
  have ml : M.length = X.length + Y.length + Z.length := by rw [← hM]; simp; omega
  have ms : ∀ c ∈ M, c.2.length ≤ 51 := by
    intro c hc
    have : c.2 ∈ M.map (·.2) := List.mem_map_of_mem hc
    rw [mz] at this
    simp only [List.mem_append] at this
    rcases this with (h | h) | h
    · exact u2 _ h
    · exact w2 _ h
    · exact t4 _ h
  rw [List.append_assoc] at mx
  have f1 := col_pre (nl := none) (n := X.length + Y.length + Z.length) (cs := blsC X ++ (blsC Y ++ plC Z)) (l := M) (by omega) ms ml.symm mx
  have f2 := col_post (nl := none) (n := X.length + Y.length + Z.length) (cs := blsC X ++ (blsC Y ++ plC Z)) (l := M) mx
  rw [mz, key] at f2
  have cyC : ∀ c ∈ blsC Y, pureB c = true ∧ isCell c := by
    intro c hc
    simp only [blsC, List.mem_map] at hc
    obtain ⟨w, _, rfl⟩ := hc
    exact ⟨rfl, trivial⟩
  have czC : ∀ c ∈ plC Z, pureB c = true ∧ isCell c := by
    intro c hc
    simp only [plC, List.mem_map] at hc
    obtain ⟨w, _, rfl⟩ := hc
    exact ⟨rfl, trivial⟩
  have bx := blsC_len X
  have by' := blsC_len Y
  have bz := plC_len Z
  have px := pureL_blsC X
  have py := pureL_blsC Y
  have pz := pureL_plC Z
  generalize blsC X = cx at *
  generalize blsC Y = cy at *
  generalize plC Z = cz at *
  have tk1 := take_l16 t1
  have tk2 := take_l16 t2
  simp (maxSteps := 1000000) (disch := first | omega | (simp; done) | (simp; omega)) [W_id, bys_app, bys_snoc, f_custodylaw08_MerkleHistoryIsFixed, f_custodylaw08_MerkleHistoryIsFixed_r0, f_custodylaw08_MerkleHistoryIsFixed_r1, h215, san8_pre, san8_post, hpl, hql, hll, kT, kF, dT, dF, g0, g1, g2, g3, g4, g5, g6, g7, g8, g9, g10, g11, g12, g13, g14, h173, a1, a2, b1, b2, h176, c1, c2, eqb, h203, d1, d2, d3, d4, h208, d5, d6, h221, f1, f2, bx, by', bz, px, py, pz, tk1, tk2, t1, t2, splice_full]
  exact ⟨⟨g11, g12⟩, ⟨ha, hb⟩, ⟨by omega, by omega, cyC⟩, ⟨by omega, by omega, czC⟩⟩
end Go.Abs
end

section
namespace Go.Abs
def hinG : GT := .st [.arr 16 (.int .u8), .arr 16 (.int .u8), .int .i64, .int .i64, .int .i64, .arr 16 (.int .u8), .arr 16 (.int .u8), .sl (.arr 16 (.int .u8)), .sl (.arr 16 (.int .u8)), .sl (.arr 16 (.int .u8))]
theorem has_hin {cs : List AVal} (h : hinG.has cs) : ∃ (o r : List UInt8) (m n i : Int) (a b : List UInt8) (p q l : List (List UInt8)), o.length = 16 ∧ r.length = 16 ∧ inI m ∧ inI n ∧ inI i ∧ a.length = 16 ∧ b.length = 16 ∧ is16 p ∧ is16 q ∧ is16 l ∧ cs = hiL o r m n i a b (dgsA none p) (dgsA none q) (dgsA none l) := by
  simp only [hinG, GT.has, GT.hasL] at h
  obtain ⟨a1, r1, rfl, h1, a2, r2, rfl, h2, a3, r3, rfl, h3, a4, r4, rfl, h4, a5, r5, rfl, h5, a6, r6, rfl, h6, a7, r7, rfl, h7, a8, r8, rfl, h8, a9, r9, rfl, h9, a10, r10, rfl, h10, rfl⟩ := h
  obtain ⟨o, ho, rfl⟩ := has_arr8 (n := 16) (by simpa only [GT.has] using h1)
  obtain ⟨r, hr, rfl⟩ := has_arr8 (n := 16) (by simpa only [GT.has] using h2)
  obtain ⟨m, m0, m1, rfl⟩ := has_i64 (by simpa only [GT.has] using h3)
  obtain ⟨n, n0, n1, rfl⟩ := has_i64 (by simpa only [GT.has] using h4)
  obtain ⟨i, i0, i1, rfl⟩ := has_i64 (by simpa only [GT.has] using h5)
  obtain ⟨a, ha, rfl⟩ := has_arr8 (n := 16) (by simpa only [GT.has] using h6)
  obtain ⟨b, hb, rfl⟩ := has_arr8 (n := 16) (by simpa only [GT.has] using h7)
  obtain ⟨p, hp, rfl⟩ := has_dgs (by simpa only [GT.has] using h8)
  obtain ⟨q, hq, rfl⟩ := has_dgs (by simpa only [GT.has] using h9)
  obtain ⟨l, hl, rfl⟩ := has_dgs (by simpa only [GT.has] using h10)
  exact ⟨o, r, m, n, i, a, b, p, q, l, ho, hr, ⟨m0, m1⟩, ⟨n0, n1⟩, ⟨i0, i1⟩, ha, hb, hp, hq, hl, by simp [hiL]⟩
theorem lawKH_pre (as : List AVal) (h : hasA [hinG] as) : lawKH.pre as := by
  simp only [hasA] at h
  obtain ⟨c0, _, rfl, h0, rfl⟩ := h
  obtain ⟨o, r, m, n, i, a, b, p, q, l, ho, hr, hm, hn, hi, ha, hb, hp, hq, hl, rfl⟩ := has_hin h0
  exact ⟨o, r, m, n, i, a, b, none, none, none, p, q, l, ho, hr, hm, hn, hi, ha, hb, hp, hq, hl, rfl⟩
end Go.Abs
end
