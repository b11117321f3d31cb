/- Lemmas: an abstract interpreter, and what the functions compute. -/
import Derived.Test.YtcegicmamdabfaaDoorO
import Derived.Test.YtcegicmamdabfaaDoorM
set_option linter.unusedSimpArgs false
set_option linter.unusedVariables false
set_option linter.unusedSectionVars false
section
namespace Go.Abs
theorem zeroL : cmdL zeroCmd none = [i64 0, i64 0, i64 0, i64 0, i64 0, i64 0, st [], .sl .plain none 0 []] := rfl
set_option maxHeartbeats 8000000 in
set_option maxRecDepth 100000 in
theorem rdec18 (E : Env) (h146 : E.G 146 = chkCC) {A : AVal} {c : Cmd} {Q0 : AExit → ASt → Prop} (hc : c.small)
    (hQ0 : Q0 = retQ [ARes.cell 2 (some 8) 2, ARes.t 3] (.tup [.agg (cmdL (if chkC c ≠ 0 then (zeroCmd, chkC c) else (c, 0)).1 none), i64 (if chkC c ≠ 0 then (zeroCmd, chkC c) else (c, 0)).2])) :
    awp E f_custodyref28_Decode_r18 Q0 ⟨[(0, A)], [(2, .bp 2 0), (4, .bp 4 0), (10, st c.data), (13, .sl .plain none c.list.length (ints c.list))], [(2, some [i64 0, i64 0, i64 0, i64 0, i64 0, i64 0, st [], .sl .plain none 0 []]), (4, some (ints (six c)))]⟩ := by
  obtain ⟨a0, a1, a2, a3, a4, a5, dt, ls⟩ := c
  have hp : chkCC.pre [.agg [i64 a0, i64 a1, i64 a2, i64 a3, i64 a4, i64 a5, st dt, .sl .plain none ls.length (ints ls)]] = True := chkC_pre (nl := none) hc
  have hq : chkCC.post [.agg [i64 a0, i64 a1, i64 a2, i64 a3, i64 a4, i64 a5, st dt, .sl .plain none ls.length (ints ls)]] = i64 (chkC ⟨a0, a1, a2, a3, a4, a5, dt, ls⟩) := chkC_post ⟨a0, a1, a2, a3, a4, a5, dt, ls⟩ none
  have h6 : ints (six ⟨a0, a1, a2, a3, a4, a5, dt, ls⟩) = [i64 a0, i64 a1, i64 a2, i64 a3, i64 a4, i64 a5] := rfl
  have hsp : splice [i64 0, i64 0, i64 0, i64 0, i64 0, i64 0, st [], .sl .plain none 0 []] 0 [i64 a0, i64 a1, i64 a2, i64 a3, i64 a4, i64 a5, st dt, .sl .plain none ls.length (ints ls)] = [i64 a0, i64 a1, i64 a2, i64 a3, i64 a4, i64 a5, st dt, .sl .plain none ls.length (ints ls)] := splice_full rfl
  rw [h6]
  by_cases k : chkC ⟨a0, a1, a2, a3, a4, a5, dt, ls⟩ = 0
  · rw [if_neg (by simpa using k)] at hQ0
    simp (maxSteps := 1000000) (disch := first | omega | (simp; done) | (simp; omega)) [W_id, bys_app, bys_snoc, f_custodyref28_Decode_r18, f_custodyref28_Decode_r19, hsp]
    simp (maxSteps := 1000000) (disch := first | omega | (simp; done) | (simp; omega)) [W_id, bys_app, bys_snoc, f_custodyref28_Decode_r20, f_custodyref28_Decode_r21, f_custodyref28_Decode_r22, h146, hp, hq, hsp, k, kT, kF, dT, dF, hQ0, cmdL]
  · rw [if_pos k] at hQ0
    simp (maxSteps := 1000000) (disch := first | omega | (simp; done) | (simp; omega)) [W_id, bys_app, bys_snoc, f_custodyref28_Decode_r18, f_custodyref28_Decode_r19, hsp]
    simp (maxSteps := 1000000) (disch := first | omega | (simp; done) | (simp; omega)) [W_id, bys_app, bys_snoc, f_custodyref28_Decode_r20, f_custodyref28_Decode_r21, f_custodyref28_Decode_r22, h146, hp, hq, hsp, k, kT, kF, dT, dF, hQ0, splice_z8, zeroL]
set_option maxHeartbeats 8000000 in
set_option maxRecDepth 100000 in
theorem rdec10 (E : Env) (h50 : E.G 50 = getBytesC) (h53 : E.G 53 = getIntsC) (h146 : E.G 146 = chkCC) {nl : Option Bool} {b : List UInt8} {L : List Int} {at' : Nat} {X : Cmd × Nat} {Q0 : AExit → ASt → Prop} (hb : b.length ≤ 100000000) (hat : at' ≤ b.length) (hL : L.length = 6)
    (h1 : d1 b = (L, b.drop at', 0)) (hX : decC b = X) (hQ0 : Q0 = retQ [ARes.cell 2 (some 8) 2, ARes.t 3] (.tup [.agg (cmdL X.1 none), i64 X.2])) :
    awp E f_custodyref28_Decode_r10 Q0 ⟨[(0, .sl .plain nl b.length (bys b))], [(2, .bp 2 0), (4, .bp 4 0), (5, i64 at')], [(2, some [i64 0, i64 0, i64 0, i64 0, i64 0, i64 0, st [], .sl .plain none 0 []]), (4, some (ints L))]⟩ := by
  have e1 : b1 b = b.drop at' := by rw [b1, h1]
  have ht : (b.drop at').take (b.length - at') = b.drop at' := List.take_of_length_le (by simp)
  have g := getS_used (b.drop at')
  rw [List.length_drop] at g
  have e2 : d2 b = getS (b.drop at') := by rw [d2, e1]
  rw [decC_eq, h1, e2] at hX
  rw [if_neg (by simp)] at hX
  by_cases k2 : (getS (b.drop at')).2.2 = 0
  rotate_left
  · rw [if_pos k2] at hX
    subst hX
    simp (maxSteps := 1000000) (disch := first | omega | (simp; done) | (simp; omega)) [W_id, bys_app, bys_snoc, f_custodyref28_Decode_r10, f_custodyref28_Decode_r11, f_custodyref28_Decode_r12, h50, getBytesC, onB_pre, tri_def, ht, k2, kT, kF, dT, dF, hQ0, splice_z8, zeroL]
    exact hat
  rw [if_neg (by simpa using k2)] at hX
  have e3 : b2 b = b.drop (at' + (getS (b.drop at')).2.1) := by rw [b2, e2, k2, aft_0, e1, List.drop_drop]
  generalize hu : (getS (b.drop at')).2.1 = u at *
  have ht' : (b.drop (at' + u)).take (b.length - (at' + u)) = b.drop (at' + u) := List.take_of_length_le (by simp)
  have hN : ((at' : Int) + (u : Int)).toNat = at' + u := by omega
  have e4 : d3 b = getLs getI 1 (b.drop (at' + u)) := by rw [d3, e3]
  rw [e4] at hX
  by_cases k3 : (getLs getI 1 (b.drop (at' + u))).2.2 = 0
  rotate_left
  · rw [if_pos k3] at hX
    subst hX
    simp (maxSteps := 1000000) (disch := first | omega | (simp; done) | (simp; omega)) [W_id, bys_app, bys_snoc, f_custodyref28_Decode_r10, f_custodyref28_Decode_r11, f_custodyref28_Decode_r12, f_custodyref28_Decode_r13, f_custodyref28_Decode_r14, f_custodyref28_Decode_r15, h50, h53, getBytesC, getIntsC, vIs, onB_pre, tri_def, ht, ht', hu, hN, k2, k3, kT, kF, dT, dF, hQ0, splice_z8, zeroL]
    exact ⟨hat, by omega, by omega⟩
  rw [if_neg (by simpa using k3)] at hX
  obtain ⟨w1, _, _⟩ := getLs_ok (enc := encI) (P := isI64) getI_ok' k3
  rw [List.length_drop] at w1
  have e5 : b3 b = b.drop (at' + u + (getLs getI 1 (b.drop (at' + u))).2.1) := by rw [b3, e4, k3, aft_0, e3, List.drop_drop]
  obtain ⟨a0, a1, a2, a3, a4, a5, rfl⟩ := list6 hL
  have hc3 : c3 b = ⟨a0, a1, a2, a3, a4, a5, (getS (b.drop at')).1, (getLs getI 1 (b.drop (at' + u))).1⟩ := by rw [c3, c2, c1, h1, e2, e4]; rfl
  have hcs := c3_small hb
  rw [hc3] at hX hcs
  simp (maxSteps := 1000000) (disch := first | omega | (simp; done) | (simp; omega)) [W_id, bys_app, bys_snoc, f_custodyref28_Decode_r10, f_custodyref28_Decode_r11, f_custodyref28_Decode_r12, f_custodyref28_Decode_r13, f_custodyref28_Decode_r14, f_custodyref28_Decode_r15, h50, h53, getBytesC, getIntsC, vIs, onB_pre, tri_def, ht, ht', hu, hN, k2, k3, kT, kF, dT, dF]
  refine ⟨hat, ⟨by omega, by omega⟩, ?_⟩
  rw [e5, List.length_drop] at hX
  generalize hw : (getLs getI 1 (b.drop (at' + u))).2.1 = w at *
  generalize (getLs getI 1 (b.drop (at' + u))).1 = ls at *
  by_cases k4 : at' + u + w < b.length
  · rw [if_pos (by omega)] at hX
    subst hX
    have k4' : (at' : Int) + u + w < b.length := by omega
    simp (maxSteps := 1000000) (disch := first | omega | (simp; done) | (simp; omega)) [W_id, bys_app, bys_snoc, f_custodyref28_Decode_r16, f_custodyref28_Decode_r17, k4', kT, kF, dT, dF, hQ0, splice_z8, zeroL]
  · rw [if_neg (by omega)] at hX
    subst hX
    have k4' : ¬ ((at' : Int) + u + w < b.length) := by omega
    simp (maxSteps := 1000000) (disch := first | omega | (simp; done) | (simp; omega)) [W_id, bys_app, bys_snoc, f_custodyref28_Decode_r16, f_custodyref28_Decode_r17, k4', kT, kF, dT, dF]
    exact rdec18 E h146 (A := .sl .plain nl b.length (bys b)) hcs hQ0
set_option maxHeartbeats 8000000 in
set_option maxRecDepth 100000 in
theorem rDec_ok (E : Env) (h50 : E.G 50 = getBytesC) (h46 : E.G 46 = getIntC) (h53 : E.G 53 = getIntsC) (h146 : E.G 146 = chkCC) : ∀ ds, decCC.pre ds → ds.length = f_custodyref28_Decode.n ∧ awp E f_custodyref28_Decode.body (retQ f_custodyref28_Decode.res (decCC.post ds)) (initSt f_custodyref28_Decode.wr ds) := by
  rintro _ ⟨nl, b, hb, rfl⟩
  rw [decC_post]
  generalize hX : decC b = X
  simp (maxSteps := 1000000) (disch := first | omega | (simp; done) | (simp; omega)) [W_id, bys_app, bys_snoc, f_custodyref28_Decode, f_custodyref28_Decode_r0, f_custodyref28_Decode_r1]
  refine awp_name fun Q0 hQ0 => ?_
  simp (maxSteps := 1000000) (disch := first | omega | (simp; done) | (simp; omega)) [W_id, bys_app, bys_snoc, f_custodyref28_Decode_r2, f_custodyref28_Decode_r3]
  refine awp_for (fun q : Nat × List Int × Nat => ⟨[(0, .sl .plain nl b.length (bys b))], [(2, .bp 2 0), (4, .bp 4 0), (5, i64 q.2.2), (6, i64 q.1)], [(2, some [i64 0, i64 0, i64 0, i64 0, i64 0, i64 0, st [], .sl .plain none 0 []]), (4, some (ints (pre6 q.2.1 zeroCmd)))]⟩) (fun q => 6 - q.1)
    (fun q => q.1 ≤ 6 ∧ q.2.1.length = q.1 ∧ q.2.2 ≤ b.length ∧ getN 6 b = (q.2.1 ++ (getN (6 - q.1) (b.drop q.2.2)).1, (getN (6 - q.1) (b.drop q.2.2)).2)) (0, [], 0) rfl ⟨Nat.zero_le _, rfl, Nat.zero_le _, rfl⟩ fun q hq => ?_
  obtain ⟨i, L, at'⟩ := q
  obtain ⟨hi, hl, ht, hE⟩ := hq
  simp only at hi hl ht hE
  refine awp_name fun Q1 hQ1 => ?_
  have hlen := pre6_len (c := zeroCmd) (show L.length ≤ 6 by omega)
  by_cases h6 : i < 6
  · obtain ⟨k, hk⟩ : ∃ k, 6 - i = k + 1 := ⟨5 - i, by omega⟩
    rw [hk] at hE
    have htk : (b.drop at').take (b.length - at') = b.drop at' := List.take_of_length_le (by simp)
    obtain ⟨g1, g2, g3⟩ := getI_used (b.drop at')
    rw [List.length_drop] at g1
    by_cases he : (getI (b.drop at')).2.2 = 0
    · rw [getN_o he] at hE
      have hsp : splice (ints (pre6 L zeroCmd)) i [i64 (getI (b.drop at')).1] = ints (pre6 (L ++ [(getI (b.drop at')).1]) zeroCmd) := by
        rw [splice_ints (by omega), ← hl, pre6_set (by omega)]
      simp (maxSteps := 1000000) (disch := first | omega | (simp; done) | (simp; omega)) [W_id, bys_app, bys_snoc, f_custodyref28_Decode_l0, f_custodyref28_Decode_r4, f_custodyref28_Decode_r5, f_custodyref28_Decode_r6, f_custodyref28_Decode_r7, f_custodyref28_Decode_r8, f_custodyref28_Decode_r9, h6, kT, kF, dT, dF, htk, hlen, h46, getIntC, onB_pre, vI, tri_def, he, hsp, hQ1]
      refine ⟨ht, by omega, by omega, i + 1, by omega, L ++ [(getI (b.drop at')).1], at' + (getI (b.drop at')).2.1, ⟨by omega, by simp [hl], by omega, ?_⟩, ⟨by omega, by omega⟩, rfl⟩
      rw [hE, show 6 - (i + 1) = k by omega, List.drop_drop]; simp
    · rw [getN_e he] at hE
      have hd : decC b = (zeroCmd, (getI (b.drop at')).2.2) := by
        have h1 : (d1 b).2.2 = (getI (b.drop at')).2.2 := by rw [d1, hE]
        rw [decC_eq, h1, if_pos he]
      rw [hX] at hd
      subst hd
      simp (maxSteps := 1000000) (disch := first | omega | (simp; done) | (simp; omega)) [W_id, bys_app, bys_snoc, f_custodyref28_Decode_l0, f_custodyref28_Decode_r4, f_custodyref28_Decode_r5, f_custodyref28_Decode_r6, f_custodyref28_Decode_r7, h6, kT, kF, dT, dF, htk, h46, getIntC, onB_pre, vI, tri_def, he, hQ1, hQ0, splice_z8, zeroL]
      exact ht
  · obtain rfl : i = 6 := by omega
    have e0 : d1 b = (L, b.drop at', 0) := by rw [d1, hE]; simp [getN]
    simp (maxSteps := 1000000) (disch := first | omega | (simp; done) | (simp; omega)) [W_id, bys_app, bys_snoc, f_custodyref28_Decode_l0, f_custodyref28_Decode_r4, h6, kT, kF, dT, dF, hQ1]
    rw [pre6_6 hl]
    exact rdec10 E h50 h53 h146 hb ht hl e0 hX hQ0
end Go.Abs
end
