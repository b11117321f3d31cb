/- Lemmas: an abstract interpreter, and what the functions compute. -/
import Derived.Test.YtigghpdomoedhaaDoorE
set_option linter.unusedSimpArgs false
set_option linter.unusedVariables false
set_option linter.unusedSectionVars false
section
namespace Go.Abs
theorem begin_ok (E : Env) : ∀ ds, beginC.pre ds → ds.length = f_hash_Begin.n ∧ awp E f_hash_Begin.body (retQ f_hash_Begin.res (beginC.post ds)) (initSt f_hash_Begin.wr ds) := by
  rintro _ rfl
  simp [f_hash_Begin, beginC, Strm.v, Strm.init, scs, H8.l, w32s_cons, splice_left, splice_full, iv, or_imp, forall_and, List.take_of_length_le]
theorem hrot_ok (E : Env) : ∀ ds, rotC.pre ds → ds.length = f_bits_RotateLeft32.n ∧ awp E f_bits_RotateLeft32.body (retQ f_bits_RotateLeft32.res (rotC.post ds)) (initSt f_bits_RotateLeft32.wr ds) := by
  rintro _ ⟨x, k, rfl⟩
  simp [f_bits_RotateLeft32, rotC, rotl]
theorem mix_ok (E : Env) (h13 : E.G 13 = rotC) : ∀ ds, mixC.pre ds → ds.length = f_hash_mix.n ∧ awp E f_hash_mix.body (retQ f_hash_mix.res (mixC.post ds)) (initSt f_hash_mix.wr ds) := by
  rintro _ ⟨x, i, j, k, rfl⟩
  simp [f_hash_mix, mixC, h13, rotC]
theorem sched_ok (E : Env) (h13 : E.G 13 = rotC) : ∀ ds, schedC.pre ds → ds.length = f_hash_schedule.n ∧ awp E f_hash_schedule.body (retQ f_hash_schedule.res (schedC.post ds)) (initSt f_hash_schedule.wr ds) := by
  rintro _ ⟨nl, b, hb, rfl⟩
  simp [f_hash_schedule, h13, rotC, schedC]
  refine awp_name fun Q0 hQ0 => ?_
  refine awp_for (fun t : Nat => ⟨[(0, .sl .plain nl 64 (bys b))], [(2, .bp 2 0), (3, .bp 3 0), (11, i64 t)], [(2, some (w32s (zeros32 64))), (3, some (w32s (sched b t ++ zeros32 (64 - t))))]⟩)
    (fun t => 64 - t) (· ≤ 64) 0 rfl (by decide) fun t ht => ?_
  have hl := sched_length b t
  refine awp_name fun Q1 hQ1 => ?_
  simp (disch := first | omega | (simp; omega)) [W_id]
  rw [awp_cond]
  refine ⟨by simp, fun h => ?_, fun h => ?_⟩ <;> simp at h
  · simp (disch := first | omega | (simp; omega)) [W_id]
    rw [awp_cond]
    refine ⟨by simp, fun h16 => ?_, fun h16 => ?_⟩ <;> simp at h16
    · simp (disch := first | omega | (simp; omega)) [W_id]
      refine ⟨by omega, ?_⟩
      refine awp_name fun Q2 hQ2 => ?_
      refine awp_for (fun j : Nat => ⟨[(0, .sl .plain nl 64 (bys b))], [(2, .bp 2 0), (3, .bp 3 0), (4, i64 t), (11, i64 t), (22, .sl .plain nl 4 (bys ((b.drop (4 * t)).take 4))), (23, i64 4), (24, i64 j)],
          [(2, some (w32s (zeros32 64))), (3, some (w32s (sched b t ++ ldw b t j :: zeros32 (63 - t))))]⟩)
        (fun j => 4 - j) (· ≤ 4) 0 ?_ (by decide) fun j hj => ?_
      · have e1 : (4 * (t : Int) + 4).toNat - (4 * (t : Int)).toNat = 4 := by omega
        have e2 : (4 * (t : Int)).toNat = 4 * t := by omega
        rw [e1, e2, zeros32_64 (show t < 64 by omega), ldw]
        rfl
      refine awp_name fun Q3 hQ3 => ?_
      simp (disch := first | omega | (simp; omega)) [W_id]
      rw [awp_cond]
      refine ⟨by simp, fun h4 => ?_, fun h4 => ?_⟩ <;> simp at h4
      · simp (disch := first | omega | (simp; omega)) [W_id, hd_bys, hd_w32s, at8_take, at8_app_r, at32_app_r, splice_w32s, set_mid]
        repeat' (first | omega | apply And.intro)
        simp (disch := omega) [hQ3, W_id]
        refine ⟨j + 1, by omega, by omega, by omega, ?_⟩
        rw [ldw]
      · have e4 : j = 4 := by omega
        subst e4
        simp (disch := omega) [hQ3, hQ2, hQ1, W_id]
        refine ⟨t + 1, by omega, by omega, by omega, ?_⟩
        rw [sched, wnext, if_pos (by omega), show 64 - (t + 1) = 63 - t by omega]
        simp
    · simp (disch := first | omega | (simp; omega)) [W_id, h13, rotC, rotl_7, rotl_17, rotl_18, rotl_19, hd_w32s, splice_w32s, at32_app]
      repeat' (first | omega | apply And.intro)
      simp [hQ1]
      refine ⟨t + 1, by omega, by omega, by omega, ?_⟩
      rw [sched, wnext, if_neg (by omega), show 64 - (t + 1) = 63 - t by omega, zeros32_64 (by omega), show ((t : Int) - 16).toNat = t - 16 by omega, show ((t : Int) - 15).toNat = t - 15 by omega, show ((t : Int) - 7).toNat = t - 7 by omega, show ((t : Int) - 2).toNat = t - 2 by omega]
      simp [sg0, sg1]
  · have e : t = 64 := by omega
    subst e
    simp (disch := simp [hl]) [hQ1, hQ0, splice_full, hl, List.take_of_length_le, zeros32]
end Go.Abs
end

section
namespace Go.Abs
theorem kc_len : kc.length = 64 := rfl
def addKH (s : List UInt32) (v e : List UInt32) : Nat → List UInt32
  | 0 => s
  | t + 1 => ((addKH s v e t).set t (at32 (addKH s v e t) t + at32 v t)).set (t + 4) (at32 ((addKH s v e t).set t (at32 (addKH s v e t) t + at32 v t)) (t + 4) + at32 e t)
theorem addK_len (s v e : List UInt32) : ∀ t, (addKH s v e t).length = s.length
  | 0 => rfl
  | t + 1 => by simp [addKH, addK_len s v e t]
theorem addK_4 (s v : H8) : addKH s.l [v.a, v.b, v.c, v.d] [v.e, v.f, v.g, v.h] 4 = (s.add v).l := rfl

theorem compr_ok (E : Env) (hT : E.T 0 = w32s kc) (h10 : E.G 10 = schedC) (h11 : E.G 11 = mixC) : ∀ ds, comprC.pre ds → ds.length = f_hash_compress.n ∧ awp E f_hash_compress.body (retQ f_hash_compress.res (comprC.post ds)) (initSt f_hash_compress.wr ds) := by
  rintro _ ⟨s, nl, b, hb, rfl⟩
  have hl := sched_length b 64
  have hk := kc_len
  simp (disch := first | omega | (simp; omega)) [f_hash_compress, h10, h11, schedC, mixC, comprC, hT]
  refine ⟨hb, hl, by omega, ?_⟩
  refine awp_name fun Q0 hQ0 => ?_
  refine awp_for (fun t : Nat => ⟨[(0, .agg (w32s s.l)), (1, .sl .plain nl 64 (bys b))],
      [(2, .bp 2 0), (4, .bp 4 0), (5, .bp 5 0), (6, .bp 6 0), (7, .bp 7 0), (21, .agg (w32s kc)), (22, i64 t)],
      [(2, some (w32s s.l)), (4, some (w32s (zeros32 8))), (5, some (w32s (sched b 64))),
        (6, some (w32s [(rnds (sched b 64) s t).a, (rnds (sched b 64) s t).b, (rnds (sched b 64) s t).c, (rnds (sched b 64) s t).d])),
        (7, some (w32s [(rnds (sched b 64) s t).e, (rnds (sched b 64) s t).f, (rnds (sched b 64) s t).g, (rnds (sched b 64) s t).h]))]⟩)
    (fun t => 64 - t) (· ≤ 64) 0 ?_ (by decide) fun t ht => ?_
  · have e : kc.take 64 = kc := rfl
    simp (disch := simp [hl]) [splice_full, rnds, H8.l, e]
  refine awp_name fun Q1 hQ1 => ?_
  simp (disch := first | omega | (simp; omega)) [W_id]
  rw [awp_cond]
  refine ⟨by simp, fun h => ?_, fun h => ?_⟩ <;> simp at h
  · generalize hr : rnds (sched b 64) s t = r at *
    simp (maxSteps := 2000000) (disch := first | omega | (simp; omega)) [W_id, w32s_cons, h11, mixC, rotl_6, rotl_11, rotl_25, rotl_2, rotl_13, rotl_22, hd_w32s, getD_w32s, hl, hk, splice_full]
    repeat' (first | omega | apply And.intro)
    rw [hQ1]
    simp [w32s_cons]
    refine ⟨t + 1, by omega, by omega, by omega, ?_⟩
    have sf : ∀ a b c d x y z w : AVal, splice [a, b, c, d] 0 [x, y, z, w] = [x, y, z, w] := fun a b c d x y z w => rfl
    simp only [rnds, hr, sf, rnd, and_self]
  · have e : t = 64 := by omega
    subst e
    simp [hQ1, hQ0]
    refine awp_name fun Q2 hQ2 => ?_
    generalize hv : rnds (sched b 64) s 64 = v at *
    refine awp_for (fun t : Nat => ⟨[(0, .agg (w32s s.l)), (1, .sl .plain nl 64 (bys b))],
      [(2, .bp 2 0), (4, .bp 4 0), (6, .bp 6 0), (7, .bp 7 0), (94, i64 t)],
      [(2, some (w32s (addKH s.l [v.a, v.b, v.c, v.d] [v.e, v.f, v.g, v.h] t))), (4, some (w32s (zeros32 8))), (5, some (w32s (sched b 64))),
        (6, some (w32s [v.a, v.b, v.c, v.d])), (7, some (w32s [v.e, v.f, v.g, v.h]))]⟩)
      (fun t => 4 - t) (· ≤ 4) 0 rfl (by decide) fun t ht => ?_
    refine awp_name fun Q3 hQ3 => ?_
    simp (disch := first | omega | (simp; omega)) [W_id]
    rw [awp_cond]
    have ha := addK_len s.l [v.a, v.b, v.c, v.d] [v.e, v.f, v.g, v.h] t
    rw [H8.len] at ha
    refine ⟨by simp, fun h => ?_, fun h => ?_⟩ <;> simp at h
    · simp (disch := first | omega | (simp; omega)) [W_id, hd_w32s, splice_w32s]
      repeat' (first | omega | apply And.intro)
      have e4 : ((t : Int) + 4).toNat = t + 4 := by omega
      rw [e4, splice_w32s (by rw [List.length_set, ha]; omega), hQ3]
      simp
      exact ⟨t + 1, by omega, by omega, by omega, rfl⟩
    · have e : t = 4 := by omega
      subst e
      simp [hQ3, hQ2, addK_4, splice_full, compr, hv]
      rfl
end Go.Abs
end

section
namespace Go.Abs
theorem hadd_ok (E : Env) (h4 : E.G 4 = comprC) : ∀ ds, addC.pre ds → ds.length = f_hash_Stream_Add.n ∧ awp E f_hash_Stream_Add.body (retQ f_hash_Stream_Add.res (addC.post ds)) (initSt f_hash_Stream_Add.wr ds) := by
  rintro _ ⟨s, m, hb, rfl⟩
  simp (disch := first | omega | (simp; omega)) [f_hash_Stream_Add, h4, comprC, addC, Strm.v, hb, scs_len, Strm.of_scs]
  refine awp_name fun Q0 hQ0 => ?_
  refine awp_for (fun k : Nat => ⟨[(0, .agg (scs s))], [(1, st (m.drop k)), (2, .bp 2 0), (4, .bp 4 0)],
      [(2, some (scs (s.add (m.take k)))), (4, some (w32s (zeros32 8) ++ (bys (zeros 64) ++ [u64 0])))]⟩)
    (fun k => m.length - k) (· ≤ m.length) 0 (by simp [Strm.add]) (by simp) fun k hk => ?_
  refine awp_name fun Q1 hQ1 => ?_
  have hb' : (s.add (m.take k)).b.length = 64 := by rw [add_len, hb]
  simp (disch := first | omega | (simp; omega)) [W_id]
  rw [awp_cond]
  refine ⟨by simp, fun h => ?_, fun h => ?_⟩ <;> simp at h
  · generalize hs : s.add (m.take k) = s' at *
    generalize hr : m.drop k = r at *
    have hrl : r.length = m.length - k := by rw [← hr]; simp
    have hn : s'.n.toNat % 64 < 64 := Nat.mod_lt _ (by decide)
    simp (disch := first | omega | (simp; omega)) [W_id, scs_len, scs_n, scs_h, scs_b, scs_set_h, scs_set_n, scs_set_b, hb']
    refine ⟨by omega, by omega, by omega, ?_⟩
    refine awp_name fun Q2 hQ2 => ?_
    generalize hj : min r.length (64 - s'.n.toNat % 64) = j at *
    have hjl : j ≤ r.length := by omega
    have hpiece := add_piece s' hb' j (r.take j) (by simp; omega) (by omega)
    have hstep : s.add (m.take (k + j)) = s'.add (r.take j) := by rw [List.take_add, add_append, hs, hr]
    have hrest : (r.drop j).take (r.length - j) = m.drop (k + j) := by
      rw [List.take_of_length_le (by simp), ← hr, List.drop_drop]
    have hof : UInt64.ofInt (j : Int) = UInt64.ofNat j := by
      apply UInt64.toNat_inj.1
      rw [ofInt64, UInt64.toNat_ofNat']
      omega
    rw [awp_cond]
    refine ⟨by simp, fun h30 => ?_, fun h30 => ?_⟩ <;> simp at h30
    · generalize hS : (⟨s'.h, _, _⟩ : Strm) = S at *
      have hSb : S.b.length = 64 := by rw [← hS]; simp [hb']; omega
      simp (disch := first | omega | (simp; omega)) [h4, comprC, scs_len, scs_h, scs_b, scs_set_h, hSb]
      refine ⟨⟨_, _, _, hSb, rfl, rfl, rfl⟩, ?_⟩
      simp [hQ2, hQ1]
      refine ⟨k + j, by omega, by omega, hrest, ?_⟩
      rw [hstep, hpiece, if_pos (by omega), ← hS, hof]
    · simp [hQ2, hQ1]
      refine ⟨k + j, by omega, by omega, hrest, ?_⟩
      rw [hstep, hpiece, if_neg (by omega), hof]
  · have e : k = m.length := by omega
    subst e
    have hm : (s.add m).b.length = 64 := by rw [add_len, hb]
    simp [hQ1, hQ0, scs_len hm, scs_full hm zero_len, scs_all hm]
end Go.Abs
end

section
namespace Go.Abs
theorem sum_ok (E : Env) (h1 : E.G 1 = addC) : ∀ ds, sumC.pre ds → ds.length = f_hash_Stream_Sum.n ∧ awp E f_hash_Stream_Sum.body (retQ f_hash_Stream_Sum.res (sumC.post ds)) (initSt f_hash_Stream_Sum.wr ds) := by
  rintro _ ⟨s, hb, hn, rfl⟩
  simp (disch := first | omega | (simp; omega)) [f_hash_Stream_Sum, h1, addC, sumC, Strm.v, hb, scs_len, Strm.of_scs, scs_n]
  refine awp_name fun Q0 hQ0 => ?_
  refine awp_for (fun k : Nat => ⟨[(0, .agg (scs s))], [(1, .bp 1 0), (2, .bp 2 0), (3, u64 (8 * s.n)), (4, .sl (.own 1) (some false) (k + 1) (bys (128 :: zeros k)))],
      [(1, some (scs s)), (2, some (bys (zeros 32)))]⟩)
    (fun k => padZ s.n.toNat - k) (· ≤ padZ s.n.toNat) 0 rfl (by simp) fun k hk => ?_
  have hz := padZ_lt s.n.toNat
  have hzo := padZ_ok s.n.toNat
  refine awp_name fun Q1 hQ1 => ?_
  simp (disch := first | omega | (simp; omega)) [W_id, scs_len, scs_n, hb]
  rw [awp_cond]
  refine ⟨by simp, fun h => ?_, fun h => ?_⟩ <;> simp at h <;> rw [Int.tmod_eq_emod_of_nonneg (by omega)] at h
  · simp (disch := first | omega | (simp; omega)) [W_id, hQ1]
    clear hQ0 hQ1
    refine ⟨by omega, ?_⟩
    refine ⟨k + 1, by omega, by omega, by omega, ?_⟩
    rw [show [u8 0] = bys [0] from rfl, ← bys_append, ← zeros_succ']
    simp
  · have e : k = padZ s.n.toNat := by omega
    subst e
    simp [hQ1, hQ0]
    refine awp_name fun Q2 hQ2 => ?_
    refine awp_for (fun i : Nat => ⟨[(0, .agg (scs s))], [(1, .bp 1 0), (2, .bp 2 0), (3, u64 (8 * s.n)), (4, .sl (.own 1) (some false) (padZ s.n.toNat + 1 + i) (bys (128 :: zeros (padZ s.n.toNat) ++ be8 (8 * s.n) i))), (23, i64 i)],
        [(1, some (scs s)), (2, some (bys (zeros 32)))]⟩)
      (fun i => 8 - i) (· ≤ 8) 0 (by simp [be8]) (by decide) fun i hi => ?_
    have hbe := be8_len (8 * s.n) i
    refine awp_name fun Q3 hQ3 => ?_
    simp (disch := first | omega | (simp; omega)) [W_id]
    rw [awp_cond]
    refine ⟨by simp, fun h => ?_, fun h => ?_⟩ <;> simp at h
    · have e7 : ((56 : Int) - 8 * (i : Int)).toNat = 56 - 8 * i := by omega
      simp (disch := first | omega | (simp; omega)) [W_id, e7]
      repeat' (first | omega | apply And.intro)
      rw [hQ3]
      simp
      refine ⟨i + 1, by omega, by omega, ⟨by omega, ?_⟩, by omega⟩
      rw [be8, show [u8 (shr64 (8 * s.n) (56 - 8 * i)).toUInt8] = bys [(shr64 (8 * s.n) (56 - 8 * i)).toUInt8] from rfl, ← bys_append]
      simp
    · have e : i = 8 := by omega
      subst e
      simp (disch := first | omega | (simp; omega)) [hQ3, hQ2, h1, addC, Strm.v, scs_len, scs_all, scs_full, hb, Strm.of_scs, add_len]
      generalize hS : s.add (128 :: (zeros (padZ s.n.toNat) ++ be8 (8 * s.n) 8)) = S at *
      have hSb : S.b.length = 64 := by rw [← hS, add_len, hb]
      have hsum : s.sum = outB S.h 32 := by rw [← hS]; rfl
      rw [scs_full hSb (scs_len hb), hsum]
      clear hQ1 hQ2 hQ3 hQ0
      refine ⟨?_, ⟨s, hb, rfl⟩, scs_len hSb, ?_⟩
      · have := be8_len (8 * s.n) 8
        simp [this]
      refine awp_name fun Q4 hQ4 => ?_
      refine awp_for (fun i : Nat => ⟨[(0, .agg (scs s))], [(1, .bp 1 0), (2, .bp 2 0), (6, .bp 6 0), (40, i64 i)],
          [(1, some (scs S)), (2, some (bys (zeros 32))), (6, some (bys (outB S.h i ++ zeros (32 - i))))]⟩)
        (fun i => 32 - i) (· ≤ 32) 0 rfl (by decide) fun i hi => ?_
      have ho := outB_len S.h i
      refine awp_name fun Q5 hQ5 => ?_
      simp (disch := first | omega | (simp; omega)) [W_id]
      rw [awp_cond]
      refine ⟨by simp, fun h => ?_, fun h => ?_⟩ <;> simp at h
      · have e4 : (i : Int).tmod 4 = ((i % 4 : Nat) : Int) := by rw [Int.tmod_eq_emod_of_nonneg (by omega)]; rfl
        have e5 : ((i : Int) / 4).toNat = i / 4 := by omega
        have e6 : ((24 : Int) - 8 * ((i % 4 : Nat) : Int)).toNat = 24 - 8 * (i % 4) := by omega
        simp (disch := first | omega | (simp; omega)) [W_id, e4, e5, scs_at, scs_len hSb]
        refine ⟨by omega, by omega, by omega, by omega, by omega, ?_⟩
        have e7 : ((24 : Int) - 8 * ((i : Int) % 4)).toNat = 24 - 8 * (i % 4) := by omega
        rw [e7, splice_bys (by simp; omega), zeros_64 (by omega), set_mid ho.symm, hQ5]
        simp
        refine ⟨i + 1, by omega, by omega, by omega, ?_⟩
        rw [outB, show 32 - (i + 1) = 32 - 1 - i by omega]
        simp
      · have e : i = 32 := by omega
        subst e
        simp (disch := simp [ho]) [hQ5, hQ4, splice_full, ho, List.take_of_length_le, zeros]
end Go.Abs
end

section
namespace Go.Abs
theorem hsum_ok (E : Env) (h0 : E.G 0 = beginC) (h1 : E.G 1 = addC) (h2 : E.G 2 = sumC) : ∀ ds, hsumC.pre ds → ds.length = f_hash_Sum.n ∧ awp E f_hash_Sum.body (retQ f_hash_Sum.res (hsumC.post ds)) (initSt f_hash_Sum.wr ds) := by
  rintro _ ⟨nl, l, hl, rfl⟩
  have hb : (Strm.init.add l).b.length = 64 := by rw [add_len, init_len]
  have hn : (Strm.init.add l).n.toNat < 1099511627776 := by rw [add_n_nat _ _ (by show 0 + l.length < _; omega)]; show 0 + l.length < _; omega
  simp (disch := first | omega | (simp; omega)) [f_hash_Sum, h0, h1, h2, beginC, addC, sumC, hsumC, Strm.v, Strm.of_scs _ init_len, Strm.of_scs _ hb, splice_full]
  have hs : (Strm.init.add l).sum.length = 32 := outB_len _ 32
  refine ⟨⟨_, init_len, rfl⟩, ⟨_, hb, hn, rfl⟩, hs, ?_⟩
  rw [splice_full (by simp [hs])]
  simp [hs, sha, List.take_of_length_le]
end Go.Abs
end

section
namespace Go.Abs
theorem padK_at {k : List UInt8} {w : UInt8} {i : Nat} (hi : i < 64) : at8 (padK k w) i = at8 (padK k 0) i ^^^ w := by
  have h1 := padK_len k w
  have h2 := padK_len k 0
  simp only [at8, List.getD, List.getElem?_eq_getElem (show i < (padK k w).length by omega), List.getElem?_eq_getElem (show i < (padK k 0).length by omega), Option.getD_some]
  simp only [padK, List.getElem_map]
  simp
theorem padK_0 (k : List UInt8) : padK k 0 = k.take 64 ++ zeros (64 - k.length) := by
  rw [padK, show (fun x : UInt8 => x ^^^ 0) = id from funext fun x => by simp]
  simp
theorem mac1_ok (E : Env) : ∀ ds, mac1C.pre ds → ds.length = f_hash_Mac_1.n ∧ awp E f_hash_Mac_1.body (retQ f_hash_Mac_1.res (mac1C.post ds)) (initSt f_hash_Mac_1.wr ds) := by
  rintro _ ⟨w, key, rfl⟩
  simp (maxSteps := 1000000) (disch := first | omega | (simp; done) | (simp; omega)) [W_id, bys_app, bys_snoc, f_hash_Mac_1, mac1C]
  refine awp_name fun Q0 hQ0 => ?_
  refine awp_for (fun i : Nat => ⟨[(0, u8 w), (1, .ep [st key])], [(4, .bp 4 0), (9, i64 i)],
      [(4, some (bys ((padK key w).take i ++ (padK key 0).drop i)))]⟩)
    (fun i => 64 - i) (· ≤ 64) 0 ?_ (by decide) fun i hi => ?_
  · simp only [padK_0, splice, ← bys_append, List.take_zero, List.nil_append, List.drop_zero, bys_length, bys_nil, bys_drop, List.length_take]
    rcases Nat.le_total key.length 64 with h | h
    · simp only [zeros_drop, Nat.min_eq_left h, List.take_length, Nat.min_self, Nat.zero_add, Int.ofNat_zero, List.take_of_length_le h]
    · simp only [zeros_drop, Nat.min_eq_right h, Nat.min_eq_left h, Nat.zero_add, Nat.sub_eq_zero_of_le h, Nat.sub_self, Int.ofNat_zero]
  have hp := padK_len key w
  have hp0 := padK_len key 0
  refine awp_name fun Q1 hQ1 => ?_
  simp (maxSteps := 1000000) (disch := first | omega | (simp; done) | (simp; omega)) [W_id, bys_app, bys_snoc]
  rw [awp_cond]
  refine ⟨by simp, fun h => ?_, fun h => ?_⟩ <;> simp at h
  · simp (maxSteps := 1000000) (disch := first | omega | (simp; done) | (simp; omega)) [W_id, bys_app, bys_snoc, hd_bys, at8_app_r, splice_bys]
    have hs : (List.drop i (padK key 0)).set 0 (at8 (padK key 0) i ^^^ w) = at8 (padK key w) i :: List.drop (i + 1) (padK key 0) := by
      rw [padK_at (w := w) (by omega), List.drop_eq_getElem_cons (by omega)]; rfl
    repeat' (first | omega | apply And.intro)
    rw [hs, hQ1]
    simp
    refine ⟨i + 1, by omega, by omega, by omega, ?_⟩
    rw [List.take_succ_eq_append_getElem (show i < (padK key w).length by omega)]
    simp only [at8, List.getD, List.getElem?_eq_getElem (show i < (padK key w).length by omega), Option.getD_some, List.append_assoc, List.cons_append, List.nil_append]
  · have e : i = 64 := by omega
    subst e
    simp [hQ1, hQ0, List.take_of_length_le, List.drop_of_length_le, hp, hp0]
theorem mac_ok (E : Env) (h0 : E.G 0 = beginC) (h1 : E.G 1 = addC) (h2 : E.G 2 = sumC) (h3 : E.G 3 = hsumC) (h5 : E.G 5 = mac1C) : ∀ ds, macC.pre ds → ds.length = f_hash_Mac.n ∧ awp E f_hash_Mac.body (retQ f_hash_Mac.res (macC.post ds)) (initSt f_hash_Mac.wr ds) := by
  rintro _ ⟨key, text, hk, ht, rfl⟩
  simp (maxSteps := 1000000) (disch := first | omega | (simp; done) | (simp; omega)) [W_id, bys_app, bys_snoc, f_hash_Mac]
  refine awp_name fun Q0 hQ0 => ?_
  have key2 : ∀ k : List UInt8, k.length < 1099511627776 → k = keyOf key → ∀ b5, (b5 = [] ∨ ∃ c, b5 = [(5, c)]) → Q0 .normal ⟨[(0, st key), (1, st text)], [(2, .bp 2 0)], (2, some [st k]) :: b5⟩ := by
    intro k hk hkk b5 hb5
    subst hkk
    rcases hb5 with rfl | ⟨c, rfl⟩ <;> simp (maxSteps := 1000000) (disch := first | omega | (simp; done) | (simp; omega)) [W_id, bys_app, bys_snoc, hQ0, h0, h1, h2, h5, sum_pre, splice_bys0, List.take_of_length_le] <;> rfl
  rw [awp_cond]
  refine ⟨by simp, fun h => ?_, fun h => ?_⟩ <;> simp at h
  · simp (maxSteps := 1000000) (disch := first | omega | (simp; done) | (simp; omega)) [W_id, bys_app, bys_snoc, h3, hsum_pre, splice_bys0]
    repeat' (first | omega | apply And.intro)
    simp [List.take_of_length_le]
    exact key2 _ (by simp) (by rw [keyOf, if_pos (by omega)]) _ (.inr ⟨_, rfl⟩)
  · simp
    exact key2 _ hk (by rw [keyOf, if_neg (by omega)]) _ (.inl rfl)
end Go.Abs
end
