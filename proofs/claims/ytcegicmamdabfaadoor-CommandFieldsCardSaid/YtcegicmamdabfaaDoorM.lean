/- Lemmas: an abstract interpreter, and what the functions compute. -/
import Derived.Test.YtcegicmamdabfaaDoorE
import Derived.Test.YtcegicmamdabfaaDoorT
import Derived.Test.YtcegicmamdabfaaDoorI
import Derived.Test.YtcegicmamdabfaaDoorD
set_option linter.unusedSimpArgs false
set_option linter.unusedVariables false
set_option linter.unusedSectionVars false
section
namespace Go.Abs
@[simp] theorem rdrL_refs (c : Cmd) (nl nb : Option Bool) (b : List UInt8) : refsL (rdrL c nl b nb) = [] := by simp [rdrL, cmdL, refsL]
theorem skip_ok (E : Env) : ∀ ds p, skipM.pre ds → ds.length = f_command_reader_skip.n ∧ awp E f_command_reader_skip.body (retM f_command_reader_skip.res skipM p ds) (initM skipM.bx p ds) := by
  rintro _ p ⟨c, nl, b, nb, n, e, hb, hn, rfl⟩
  by_cases h : e = 0
  · subst h
    have hn' := hn rfl
    have ht : (b.drop n).take (b.length - n) = b.drop n := List.take_of_length_le (by simp)
    simp (maxSteps := 1000000) (disch := first | omega | (simp; done) | (simp; omega)) [W_id, bys_app, bys_snoc, f_command_reader_skip, f_command_reader_skip_r0, f_command_reader_skip_r1, f_command_reader_skip_r2, kT, kF, dT, dF, skipM, rdrL, cmdL, aft, rC, rN, rB, rM, gCmd, gNl, nth, ht]
    exact hn'
  · have h' : ¬ ((e : Int) = 0) := by omega
    simp (maxSteps := 1000000) (disch := first | omega | (simp; done) | (simp; omega)) [W_id, bys_app, bys_snoc, f_command_reader_skip, f_command_reader_skip_r0, f_command_reader_skip_r1, f_command_reader_skip_r2, kT, kF, dT, dF, h, h', skipM, aft]
end Go.Abs
end

section
namespace Go.Abs
theorem end_ok (E : Env) (h128 : E.G 128 = chkCC) : ∀ ds p, endM.pre ds → ds.length = f_command_reader_end.n ∧ awp E f_command_reader_end.body (retM f_command_reader_end.res endM p ds) (initM endM.bx p ds) := by
  rintro _ p ⟨c, nl, b, nb, hc, hb, rfl⟩
  have hp : chkCC.pre [.agg [i64 c.kind, i64 c.key, i64 c.other, i64 c.type, i64 c.uses, i64 c.life, st c.data, .sl .plain nl c.list.length (ints c.list)]] = True := chkC_pre (nl := nl) hc
  have hq : chkCC.post [.agg [i64 c.kind, i64 c.key, i64 c.other, i64 c.type, i64 c.uses, i64 c.life, st c.data, .sl .plain nl c.list.length (ints c.list)]] = i64 (chkC c) := chkC_post c nl
  have hx : gCmd [i64 c.kind, i64 c.key, i64 c.other, i64 c.type, i64 c.uses, i64 c.life, st c.data, .sl .plain nl c.list.length (ints c.list), .sl .plain nb b.length (bys b)] = c := by simp [gCmd, nth]
  by_cases h : 0 < b.length
  · simp (maxSteps := 1000000) (disch := first | omega | (simp; done) | (simp; omega)) [W_id, bys_app, bys_snoc, f_command_reader_end, f_command_reader_end_r0, f_command_reader_end_r1, f_command_reader_end_r2, kT, kF, dT, dF, endM, rdrL, cmdL, rC, rN, rB, rM, hx, gNl, nth, h]
  · simp (maxSteps := 1000000) (disch := first | omega | (simp; done) | (simp; omega)) [W_id, bys_app, bys_snoc, f_command_reader_end, f_command_reader_end_r0, f_command_reader_end_r1, f_command_reader_end_r2, kT, kF, dT, dF, endM, rdrL, cmdL, rC, rN, rB, rM, hx, gNl, nth, h, h128, hp, hq]
end Go.Abs
end

section
namespace Go.Abs
@[simp] theorem gC9 (a b c d e f : Int) (s : List UInt8) (nl : Option Bool) (n : Nat) (l : List Int) (x : AVal) : gCmd [i64 a, i64 b, i64 c, i64 d, i64 e, i64 f, st s, .sl .plain nl n (ints l), x] = ⟨a, b, c, d, e, f, s, l⟩ := by simp [gCmd, nth]
@[simp] theorem skip_bx : skipM.bx = [0] := rfl
@[simp] theorem skip_nb : skipM.nb = [] := rfl
theorem skip_pre {a b c d e f : Int} {s t : List UInt8} {nl nb : Option Bool} {l : List Int} {n k : Nat} (ht : t.length ≤ 1000000000) (h : k = 0 → n ≤ t.length) : skipM.pre [.ep [i64 a, i64 b, i64 c, i64 d, i64 e, i64 f, st s, .sl .plain nl l.length (ints l), .sl .plain nb t.length (bys t)], i64 n, i64 k] = True := eq_true ⟨⟨a, b, c, d, e, f, s, l⟩, nl, t, nb, n, k, ht, h, rfl⟩
@[simp] theorem skip_post (x y z : AVal) : skipM.post [x, y, z] = i64 (asI z) := rfl
theorem skip_out {a b c d e f : Int} {s t : List UInt8} {nl nb : Option Bool} {l : List Int} {n m : Nat} (u k : Nat) (j : Nat) : skipM.out [.ep [i64 a, i64 b, i64 c, i64 d, i64 e, i64 f, st s, .sl .plain nl n (ints l), .sl .plain nb m (bys t)], i64 u, i64 k] j = [i64 a, i64 b, i64 c, i64 d, i64 e, i64 f, st s, .sl .plain nl l.length (ints l), .sl .plain nb (aft t u k).length (bys (aft t u k))] := by simp [skipM, rC, rN, rB, rM, rdrL, cmdL, gNl, nth]
theorem data_ok (E : Env) (h48 : E.G 48 = getBytesC) (h140 : E.M 140 = skipM) : ∀ ds p, dataM.pre ds → ds.length = f_command_reader_data.n ∧ awp E f_command_reader_data.body (retM f_command_reader_data.res dataM p ds) (initM dataM.bx p ds) := by
  rintro _ p ⟨c, nl, b, nb, hc, hb, rfl⟩
  simp (maxSteps := 1000000) (disch := first | omega | (simp; done) | (simp; omega)) [W_id, bys_app, bys_snoc, f_command_reader_data, f_command_reader_data_r0, f_command_reader_data_r1, f_command_reader_data_r2, kT, kF, dT, dF, dataM, rdrL, cmdL, h48, getBytesC, onB_pre, tri_def, h140, skip_pre, skip_out, rC, rN, rB, rM, gNl, nth]
  exact of_eq_true (skip_pre (by omega) fun _ => (getS_used b).1)
end Go.Abs
end

section
namespace Go.Abs
theorem list_ok (E : Env) (h52 : E.G 52 = getIntsC) (h140 : E.M 140 = skipM) : ∀ ds p, listM.pre ds → ds.length = f_command_reader_list.n ∧ awp E f_command_reader_list.body (retM f_command_reader_list.res listM p ds) (initM listM.bx p ds) := by
  rintro _ p ⟨c, nl, b, nb, hc, hb, rfl⟩
  simp (maxSteps := 1000000) (disch := first | omega | (simp; done) | (simp; omega)) [W_id, bys_app, bys_snoc, f_command_reader_list, f_command_reader_list_r0, f_command_reader_list_r1, f_command_reader_list_r2, kT, kF, dT, dF, listM, rdrL, cmdL, h52, getIntsC, onB_pre, vIs, tri_def, h140, skip_pre, skip_out, rC, rN, rB, rM, gNl, nth]
  exact of_eq_true (skip_pre (by omega) fun h => (getLs_ok (enc := encI) (P := isI64) getI_ok' h).1)
end Go.Abs
end

section
namespace Go.Abs
theorem getN_e {n : Nat} {b : List UInt8} (h : (getI b).2.2 ≠ 0) : getN (n + 1) b = ([], b, (getI b).2.2) := by simp [getN, h]
theorem getN_o {n : Nat} {b : List UInt8} (h : (getI b).2.2 = 0) : getN (n + 1) b = ((getI b).1 :: (getN n (b.drop (getI b).2.1)).1, (getN n (b.drop (getI b).2.1)).2) := by simp [getN, h]
theorem aft_0 (b : List UInt8) (n : Nat) : aft b n 0 = b.drop n := by simp [aft]
theorem aft_e {b : List UInt8} {n e : Nat} (h : e ≠ 0) : aft b n e = b := by simp [aft, h]
def pre6 (L : List Int) (c : Cmd) : List Int := L ++ (six c).drop L.length
theorem pre6_len {L : List Int} {c : Cmd} (h : L.length ≤ 6) : (pre6 L c).length = 6 := by simp [pre6, six]; omega
theorem list6 {l : List Int} (h : l.length = 6) : ∃ a b c d e f, l = [a, b, c, d, e, f] := by
  match l, h with
  | [a, b, c, d, e, f], _ => exact ⟨a, b, c, d, e, f, rfl⟩
theorem pre6_6 {L : List Int} {c : Cmd} (h : L.length = 6) : pre6 L c = L := by
  obtain ⟨a, b, d, e, f, g, rfl⟩ := list6 h
  rfl
theorem pre6_set {L : List Int} {c : Cmd} {n : Int} (h : L.length < 6) : (pre6 L c).set L.length n = pre6 (L ++ [n]) c := by
  have h6 : L.length < (six c).length := h
  have e := List.drop_eq_getElem_cons h6
  rw [pre6, List.set_append_right _ _ (Nat.le_refl _), Nat.sub_self, e]
  simp only [pre6, List.set_cons_zero, List.length_append, List.length_singleton, List.append_assoc, List.singleton_append]
theorem splice_ints {l : List Int} {n : Nat} {x : Int} (h : n < l.length) : splice (ints l) n [i64 x] = ints (l.set n x) := by
  simp only [splice, ints, ← List.map_take, ← List.map_drop, List.length_singleton]
  rw [List.set_eq_take_append_cons_drop, if_pos h]
  simp
theorem hp6 {i : Nat} (h : i < 6) : hdA (([.bp 0 0, .bp 0 1, .bp 0 2, .bp 0 3, .bp 0 4, .bp 0 5] : List AVal).drop i) = .bp 0 i := by
  match i, h with
  | 0, _ | 1, _ | 2, _ | 3, _ | 4, _ | 5, _ => rfl
theorem gp6 {i : Nat} (h : i < 6) : ∀ h' : i < ([.bp 0 0, .bp 0 1, .bp 0 2, .bp 0 3, .bp 0 4, .bp 0 5] : List AVal).length, ([.bp 0 0, .bp 0 1, .bp 0 2, .bp 0 3, .bp 0 4, .bp 0 5] : List AVal)[i] = .bp 0 i := by
  intro h'
  match i, h with
  | 0, _ | 1, _ | 2, _ | 3, _ | 4, _ | 5, _ => rfl
theorem renL_ints (m : List (Nat × Nat)) : ∀ (l : List Int) (r : List AVal), renL m (ints l ++ r) = ints l ++ renL m r
  | [], _ => rfl
  | n :: l, r => congrArg (i64 n :: ·) (renL_ints m l r)
def rt (d : List UInt8) (nl nb : Option Bool) (ls : List Int) (b : List UInt8) : List AVal := [st d, .sl .plain nl ls.length (ints ls), .sl .plain nb b.length (bys b)]
theorem drop8 {l : List Int} (h : l.length = 6) {x y z : AVal} : hdA ((ints l ++ [x, y, z]).drop 8) = z := by
  obtain ⟨a, b, c, d, e, f, rfl⟩ := list6 h
  rfl
theorem skip_pre6 {l : List Int} {s t : List UInt8} {nl nb : Option Bool} {ls : List Int} {n k : Nat} (hl : l.length = 6) (ht : t.length ≤ 1000000000) (h : k = 0 → n ≤ t.length) : skipM.pre [.ep (ints l ++ [st s, .sl .plain nl ls.length (ints ls), .sl .plain nb t.length (bys t)]), i64 n, i64 k] = True := by
  obtain ⟨a, b, c, d, e, f, rfl⟩ := list6 hl
  exact skip_pre ht h
theorem skip_out6 {l : List Int} {s t : List UInt8} {nl nb : Option Bool} {ls : List Int} {n m : Nat} (hl : l.length = 6) (u k j : Nat) : skipM.out [.ep (ints l ++ [st s, .sl .plain nl n (ints ls), .sl .plain nb m (bys t)]), i64 u, i64 k] j = ints l ++ [st s, .sl .plain nl ls.length (ints ls), .sl .plain nb (aft t u k).length (bys (aft t u k))] := by
  obtain ⟨a, b, c, d, e, f, rfl⟩ := list6 hl
  exact skip_out u k j
theorem skip_pre60 {l : List Int} {s t : List UInt8} {nl nb : Option Bool} {ls : List Int} {n : Nat} (hl : l.length = 6) (ht : t.length ≤ 1000000000) (h : n ≤ t.length) : skipM.pre [.ep (ints l ++ [st s, .sl .plain nl ls.length (ints ls), .sl .plain nb t.length (bys t)]), i64 n, i64 0] = True := skip_pre6 (k := 0) hl ht fun _ => h
theorem skip_out60 {l : List Int} {s t : List UInt8} {nl nb : Option Bool} {ls : List Int} {n m : Nat} (hl : l.length = 6) (u j : Nat) : skipM.out [.ep (ints l ++ [st s, .sl .plain nl n (ints ls), .sl .plain nb m (bys t)]), i64 u, i64 0] j = ints l ++ [st s, .sl .plain nl ls.length (ints ls), .sl .plain nb (t.drop u).length (bys (t.drop u))] := by
  have := skip_out6 (s := s) (t := t) (nl := nl) (nb := nb) (ls := ls) (n := n) (m := m) hl u 0 j
  rw [aft_0] at this
  exact this
theorem out6 {c : Cmd} {nl nb : Option Bool} {b : List UInt8} (L : List Int) (hL : L.length ≤ 6) (b' : List UInt8) : rdrL (setN c L) nl b' nb = ints (pre6 L c) ++ [st c.data, .sl .plain nl c.list.length (ints c.list), .sl .plain nb b'.length (bys b')] := by
  obtain ⟨x0, x1, x2, x3, x4, x5, h⟩ := list6 (pre6_len (c := c) hL)
  have e : setN c L = ofSix (pre6 L c) c.data c.list := rfl
  rw [e, h]
  rfl
theorem getN_small (n : Nat) : ∀ b : List UInt8, (getN n b).1.length ≤ n ∧ (getN n b).2.1.length ≤ b.length := by
  induction n with
  | zero => intro b; simp [getN]
  | succ n ih =>
    intro b
    by_cases h : (getI b).2.2 = 0
    · rw [getN_o h]
      obtain ⟨h1, h2⟩ := ih (b.drop (getI b).2.1)
      rw [List.length_drop] at h2
      exact ⟨by simpa using h1, by simp only; omega⟩
    · rw [getN_e h]; simp
def nst (c : Cmd) (nl nb : Option Bool) (p : Value) (i : Nat) (L : List Int) (b : List UInt8) : ASt := ⟨[(0, .lit p)], [(0, .bp 0 0), (32, .agg [.bp 0 0, .bp 0 1, .bp 0 2, .bp 0 3, .bp 0 4, .bp 0 5]), (33, i64 i)], [(0, some (ints (pre6 L c) ++ [st c.data, .sl .plain nl c.list.length (ints c.list), .sl .plain nb b.length (bys b)]))]⟩
set_option maxHeartbeats 4000000 in
theorem numbers_ok (E : Env) (h45 : E.G 45 = getIntC) (h140 : E.M 140 = skipM) : ∀ ds p, numbersM.pre ds → ds.length = f_command_reader_numbers.n ∧ awp E f_command_reader_numbers.body (retM f_command_reader_numbers.res numbersM p ds) (initM numbersM.bx p ds) := by
  rintro _ p ⟨c, nl, b, nb, hc, hb, rfl⟩
  have hout : numbersM.out [.ep (rdrL c nl b nb)] = fun _ => ints (pre6 (getN 6 b).1 c) ++ [st c.data, .sl .plain nl c.list.length (ints c.list), .sl .plain nb (getN 6 b).2.1.length (bys (getN 6 b).2.1)] := by
    funext j
    have := out6 (c := c) (nl := nl) (nb := nb) (b := b) (getN 6 b).1 (getN_small 6 b).1 (getN 6 b).2.1
    simp only [numbersM, rC_rdrL, rN_rdrL, rB_rdrL, rM_rdrL]
    exact this
  have hpost : numbersM.post [.ep (rdrL c nl b nb)] = i64 (getN 6 b).2.2 := by simp [numbersM]
  rw [show retM f_command_reader_numbers.res numbersM p [.ep (rdrL c nl b nb)] = retM f_command_reader_numbers.res ⟨[0], [], rdPre, fun _ => i64 (getN 6 b).2.2, fun _ _ => ints (pre6 (getN 6 b).1 c) ++ [st c.data, .sl .plain nl c.list.length (ints c.list), .sl .plain nb (getN 6 b).2.1.length (bys (getN 6 b).2.1)]⟩ p [.ep (rdrL c nl b nb)] by unfold retM; simp only [hout, hpost]; rfl, show numbersM.bx = [0] from rfl]
  simp (maxSteps := 1000000) (disch := first | omega | (simp; done) | (simp; omega)) [W_id, bys_app, bys_snoc, f_command_reader_numbers, f_command_reader_numbers_r0, rdrL, cmdL]
  refine awp_name fun Q0 hQ0 => ?_
  simp (maxSteps := 1000000) (disch := first | omega | (simp; done) | (simp; omega)) [W_id, bys_app, bys_snoc, f_command_reader_numbers_r1]
  refine awp_for (fun q : Nat × List Int × List UInt8 => nst c nl nb (p 0) q.1 q.2.1 q.2.2) (fun q => 6 - q.1) (fun q => q.1 ≤ 6 ∧ q.2.1.length = q.1 ∧ q.2.2.length ≤ 100000000 ∧ getN 6 b = (q.2.1 ++ (getN (6 - q.1) q.2.2).1, (getN (6 - q.1) q.2.2).2)) (0, [], b) (by simp [nst, pre6, six, ints]) ⟨Nat.zero_le _, rfl, hb, rfl⟩ fun q hq => ?_
  obtain ⟨i, L, t⟩ := q
  obtain ⟨hi, hl, ht, hE⟩ := hq
  simp only at hi hl ht hE
  refine awp_name fun Q1 hQ1 => ?_
  have hlen := pre6_len (c := c) (show L.length ≤ 6 by omega)
  by_cases h6 : i < 6
  · obtain ⟨k, hk⟩ : ∃ k, 6 - i = k + 1 := ⟨5 - i, by omega⟩
    rw [hk] at hE
    obtain ⟨g1, g2, g3⟩ := getI_used t
    by_cases he : (getI t).2.2 = 0
    · rw [getN_o he] at hE
      have hsp : splice (ints (pre6 L c) ++ [st c.data, .sl .plain nl c.list.length (ints c.list), .sl .plain nb (t.drop (getI t).2.1).length (bys (t.drop (getI t).2.1))]) i [i64 (getI t).1] = ints (pre6 (L ++ [(getI t).1]) c) ++ [st c.data, .sl .plain nl c.list.length (ints c.list), .sl .plain nb (t.drop (getI t).2.1).length (bys (t.drop (getI t).2.1))] := by
        rw [splice_left (by simp [hlen]; omega), splice_ints (by omega), ← hl, pre6_set (by omega)]
      simp (maxSteps := 1000000) (disch := first | omega | (simp; done) | (simp; omega)) [W_id, bys_app, bys_snoc, f_command_reader_numbers_l0, f_command_reader_numbers_r2, f_command_reader_numbers_r3, f_command_reader_numbers_r4, h6, hp6 h6, gp6 h6, kT, kF, dT, dF, drop8 hlen, h45, getIntC, onB_pre, vI, tri_def, he, nst]
      simp (maxSteps := 1000000) (disch := first | omega | (simp; done) | (simp; omega)) [W_id, bys_app, bys_snoc, f_command_reader_numbers_r5, f_command_reader_numbers_r6, f_command_reader_numbers_r7, h140, skip_pre60 hlen, skip_out60 hlen, he, kT, kF, dT, dF, gp6 h6, renL_ints, hsp, hQ1]
      rw [List.length_drop] at hsp
      refine ⟨⟨by omega, by omega⟩, by omega, by omega, i + 1, by omega, L ++ [(getI t).1], t.drop (getI t).2.1, ⟨by omega, by simp [hl], by simp; omega, ?_⟩, ?_⟩
      · rw [hE, show 6 - (i + 1) = k by omega]; simp
      · rw [hsp]; simp [nst]
    · rw [getN_e he] at hE
      simp (maxSteps := 1000000) (disch := first | omega | (simp; done) | (simp; omega)) [W_id, bys_app, bys_snoc, f_command_reader_numbers_l0, f_command_reader_numbers_r2, f_command_reader_numbers_r3, f_command_reader_numbers_r4, h6, hp6 h6, gp6 h6, kT, kF, dT, dF, drop8 hlen, h45, getIntC, onB_pre, vI, tri_def, he, nst]
      simp (maxSteps := 1000000) (disch := first | omega | (simp; done) | (simp; omega)) [W_id, bys_app, bys_snoc, f_command_reader_numbers_r5, f_command_reader_numbers_r6, f_command_reader_numbers_r7, h140, skip_pre6 hlen, skip_out6 hlen, he, aft_0, aft_e he, kT, kF, dT, dF, gp6 h6, renL_ints, hQ1, hQ0]
      have e0 : getN 6 b = (L, t, (getI t).2.2) := by rw [hE, List.append_nil]
      rw [e0]
      exact ⟨⟨by omega, by omega⟩, by omega, rfl, rfl⟩
  · obtain rfl : i = 6 := by omega
    simp (maxSteps := 1000000) (disch := first | omega | (simp; done) | (simp; omega)) [W_id, bys_app, bys_snoc, f_command_reader_numbers_l0, f_command_reader_numbers_r2, h6, kT, kF, dT, dF, nst, hQ1, f_command_reader_numbers_r8, hQ0]
    have e0 : getN 6 b = (L, t, 0) := by rw [hE]; simp [getN]
    rw [e0]
    exact ⟨rfl, rfl⟩
end Go.Abs
end

section
namespace Go.Abs
@[simp] theorem awp_alt (E : Env) (a b : ACode) (Q : AExit → ASt → Prop) (s : ASt) : awp E (.alt a b) Q s = (awp E a Q s ∨ awp E b Q s) := rfl
@[simp] theorem ownTop_fn (f : Nat) (x y : List AVal) : ownTop (.fn f x y) = false := rfl
def d1 (b : List UInt8) : List Int × List UInt8 × Nat := getN 6 b
def c1 (b : List UInt8) : Cmd := setN zeroCmd (d1 b).1
def b1 (b : List UInt8) : List UInt8 := (d1 b).2.1
def d2 (b : List UInt8) : List UInt8 × Nat × Nat := getS (b1 b)
def c2 (b : List UInt8) : Cmd := { c1 b with data := (d2 b).1 }
def b2 (b : List UInt8) : List UInt8 := aft (b1 b) (d2 b).2.1 (d2 b).2.2
def d3 (b : List UInt8) : List Int × Nat × Nat := getLs getI 1 (b2 b)
def c3 (b : List UInt8) : Cmd := { c2 b with list := (d3 b).1 }
def b3 (b : List UInt8) : List UInt8 := aft (b2 b) (d3 b).2.1 (d3 b).2.2
theorem getN_mem (n : Nat) : ∀ b : List UInt8, ∀ x ∈ (getN n b).1, isI64 x := by
  induction n with
  | zero => intro b x hx; simp [getN] at hx
  | succ n ih =>
    intro b
    by_cases h : (getI b).2.2 = 0
    · rw [getN_o h]
      intro x hx
      rcases List.mem_cons.1 hx with rfl | hx
      · exact (getI_ok' b h).2.2
      · exact ih _ x hx
    · rw [getN_e h]; intro x hx; simp at hx
theorem getN_full (n : Nat) : ∀ b : List UInt8, (getN n b).2.2 = 0 → (getN n b).1.length = n := by
  induction n with
  | zero => intro b _; simp [getN]
  | succ n ih =>
    intro b
    by_cases h : (getI b).2.2 = 0
    · rw [getN_o h]
      intro hx
      have := ih _ hx
      simpa using this
    · rw [getN_e h]; intro hx; exact absurd hx h
theorem atI_P {P : Int → Prop} {l : List Int} (h0 : P 0) (h : ∀ x ∈ l, P x) (i : Nat) : P (atI l i) := by
  simp only [atI, List.getD]
  cases e : l[i]? with
  | none => exact h0
  | some x => exact h x (List.mem_of_getElem? e)
theorem isI64_0 : isI64 0 := ⟨by decide, by decide⟩
theorem c1_small (b : List UInt8) : (c1 b).small := by
  have h0 : isI64 0 := ⟨by decide, by decide⟩
  have hm : ∀ x ∈ (d1 b).1 ++ (six zeroCmd).drop (d1 b).1.length, isI64 x := by
    intro x hx
    rcases List.mem_append.1 hx with hx | hx
    · exact getN_mem 6 b x hx
    · have hx := List.mem_of_mem_drop hx
      have : x = 0 := by simpa [six, zeroCmd] using hx
      rw [this]; exact h0
  refine ⟨⟨atI_P h0 hm 0, atI_P h0 hm 1, atI_P h0 hm 2, atI_P h0 hm 3, atI_P h0 hm 4, atI_P h0 hm 5, ?_⟩, ?_, ?_⟩
  · intro x hx; exact absurd hx (by simp [c1, setN, ofSix, zeroCmd])
  · simp [c1, setN, ofSix, zeroCmd]
  · simp [c1, setN, ofSix, zeroCmd]
theorem b1_len (b : List UInt8) : (b1 b).length ≤ b.length := (getN_small 6 b).2
theorem aft_len (b : List UInt8) (n e : Nat) : (aft b n e).length ≤ b.length := by
  unfold aft; split
  · simp
  · exact Nat.le_refl _
theorem b2_len (b : List UInt8) : (b2 b).length ≤ b.length := Nat.le_trans (aft_len _ _ _) (b1_len b)
theorem b3_len (b : List UInt8) : (b3 b).length ≤ b.length := Nat.le_trans (aft_len _ _ _) (b2_len b)
theorem c2_small {b : List UInt8} (h : b.length ≤ 100000000) : (c2 b).small := by
  obtain ⟨h1, h2, h3⟩ := c1_small b
  have := b1_len b
  have := (getS_used (b1 b)).2
  exact ⟨h1, by show (getS (b1 b)).1.length ≤ _; omega, h3⟩
theorem c3_small {b : List UInt8} (h : b.length ≤ 100000000) : (c3 b).small := by
  obtain ⟨⟨g1, g2, g3, g4, g5, g6, g7⟩, h2, h3⟩ := c2_small h
  have := b2_len b
  have := getLs_len getI (b2 b)
  exact ⟨⟨g1, g2, g3, g4, g5, g6, getIs_mem (b2 b)⟩, h2, by show (getLs getI 1 (b2 b)).1.length ≤ _; omega⟩
theorem zero_small : zeroCmd.small := ⟨⟨isI64_0, isI64_0, isI64_0, isI64_0, isI64_0, isI64_0, by simp [zeroCmd]⟩, by decide, by decide⟩
theorem decC_eq (b : List UInt8) : decC b = if (d1 b).2.2 ≠ 0 then (zeroCmd, (d1 b).2.2) else if (d2 b).2.2 ≠ 0 then (zeroCmd, (d2 b).2.2) else if (d3 b).2.2 ≠ 0 then (zeroCmd, (d3 b).2.2) else if 0 < (b3 b).length then (zeroCmd, 6) else if chkC (c3 b) ≠ 0 then (zeroCmd, chkC (c3 b)) else (c3 b, 0) := by
  have e0 : decC b = (if (d1 b).2.2 ≠ 0 then (zeroCmd, (d1 b).2.2) else if (d2 b).2.2 ≠ 0 then (zeroCmd, (d2 b).2.2) else if (getLs getI 1 ((b1 b).drop (d2 b).2.1)).2.2 ≠ 0 then (zeroCmd, (getLs getI 1 ((b1 b).drop (d2 b).2.1)).2.2) else if 0 < (((b1 b).drop (d2 b).2.1).drop (getLs getI 1 ((b1 b).drop (d2 b).2.1)).2.1).length then (zeroCmd, 6) else if chkC ⟨atI (d1 b).1 0, atI (d1 b).1 1, atI (d1 b).1 2, atI (d1 b).1 3, atI (d1 b).1 4, atI (d1 b).1 5, (d2 b).1, (getLs getI 1 ((b1 b).drop (d2 b).2.1)).1⟩ ≠ 0 then (zeroCmd, chkC ⟨atI (d1 b).1 0, atI (d1 b).1 1, atI (d1 b).1 2, atI (d1 b).1 3, atI (d1 b).1 4, atI (d1 b).1 5, (d2 b).1, (getLs getI 1 ((b1 b).drop (d2 b).2.1)).1⟩) else (⟨atI (d1 b).1 0, atI (d1 b).1 1, atI (d1 b).1 2, atI (d1 b).1 3, atI (d1 b).1 4, atI (d1 b).1 5, (d2 b).1, (getLs getI 1 ((b1 b).drop (d2 b).2.1)).1⟩, 0)) := rfl
  rw [e0]
  by_cases h1 : (d1 b).2.2 ≠ 0
  · simp only [if_pos h1]
  simp only [if_neg h1]
  by_cases h2 : (d2 b).2.2 ≠ 0
  · simp only [if_pos h2]
  simp only [if_neg h2]
  have h2' : (d2 b).2.2 = 0 := by omega
  have e2 : (b1 b).drop (d2 b).2.1 = b2 b := by rw [b2, h2', aft_0]
  rw [e2]
  have e3 : getLs getI 1 (b2 b) = d3 b := rfl
  rw [e3]
  by_cases h3 : (d3 b).2.2 ≠ 0
  · simp only [if_pos h3]
  simp only [if_neg h3]
  have h3' : (d3 b).2.2 = 0 := by omega
  have e4 : (b2 b).drop (d3 b).2.1 = b3 b := by rw [b3, h3', aft_0]
  rw [e4]
  have e5 : (⟨atI (d1 b).1 0, atI (d1 b).1 1, atI (d1 b).1 2, atI (d1 b).1 3, atI (d1 b).1 4, atI (d1 b).1 5, (d2 b).1, (d3 b).1⟩ : Cmd) = c3 b := by
    have h1' : (d1 b).2.2 = 0 := by omega
    have hl : (d1 b).1.length = 6 := getN_full 6 b h1'
    have hc : c1 b = ofSix (d1 b).1 [] [] := by
      simp only [c1, setN, hl]
      rw [show (six zeroCmd).drop 6 = [] from rfl, List.append_nil]; rfl
    simp only [c3, c2, hc, ofSix]
  simp only [e5]
/-- What the reader holds before the i-th part. -/
def dst (b : List UInt8) : Nat → Cmd × List UInt8
  | 0 => (zeroCmd, b)
  | 1 => (c1 b, b1 b)
  | 2 => (c2 b, b2 b)
  | _ => (c3 b, b3 b)
def derr (b : List UInt8) : Nat → Nat
  | 0 => (d1 b).2.2
  | 1 => (d2 b).2.2
  | 2 => (d3 b).2.2
  | _ => if 0 < (b3 b).length then 6 else chkC (c3 b)
theorem decC_err {b : List UInt8} {i : Nat} (hi : i < 4) (h : ∀ j, j < i → derr b j = 0) (he : derr b i ≠ 0) : decC b = (zeroCmd, derr b i) := by
  rw [decC_eq]
  have c : i = 0 ∨ i = 1 ∨ i = 2 ∨ i = 3 := by omega
  rcases c with rfl | rfl | rfl | rfl
  · have he : (d1 b).2.2 ≠ 0 := he
    rw [if_pos he]; rfl
  · have h0 : (d1 b).2.2 = 0 := h 0 (by omega)
    have he : (d2 b).2.2 ≠ 0 := he
    rw [if_neg (fun g => g h0), if_pos he]; rfl
  · have h0 : (d1 b).2.2 = 0 := h 0 (by omega)
    have h1 : (d2 b).2.2 = 0 := h 1 (by omega)
    have he : (d3 b).2.2 ≠ 0 := he
    rw [if_neg (fun g => g h0), if_neg (fun g => g h1), if_pos he]; rfl
  · have h0 : (d1 b).2.2 = 0 := h 0 (by omega)
    have h1 : (d2 b).2.2 = 0 := h 1 (by omega)
    have h2 : (d3 b).2.2 = 0 := h 2 (by omega)
    have e : derr b 3 = if 0 < (b3 b).length then 6 else chkC (c3 b) := rfl
    rw [e] at he ⊢
    rw [if_neg (fun g => g h0), if_neg (fun g => g h1), if_neg (fun g => g h2)]
    by_cases g : 0 < (b3 b).length
    · rw [if_pos g, if_pos g]
    · rw [if_neg g] at he
      rw [if_neg g, if_neg g, if_pos he]
theorem decC_fine {b : List UInt8} (h : ∀ j, j < 4 → derr b j = 0) : decC b = (c3 b, 0) := by
  rw [decC_eq]
  have h0 : (d1 b).2.2 = 0 := h 0 (by omega)
  have h1 : (d2 b).2.2 = 0 := h 1 (by omega)
  have h2 : (d3 b).2.2 = 0 := h 2 (by omega)
  have h3 : (if 0 < (b3 b).length then 6 else chkC (c3 b)) = 0 := h 3 (by omega)
  rw [if_neg (fun g => g h0), if_neg (fun g => g h1), if_neg (fun g => g h2)]
  by_cases g : 0 < (b3 b).length
  · rw [if_pos g] at h3; omega
  · rw [if_neg g] at h3
    rw [if_neg g, if_neg (fun k => k h3)]
theorem rd_pre {c : Cmd} {nl nb : Option Bool} {b : List UInt8} (hc : c.small) (hb : b.length ≤ 100000000) : rdPre [.ep (rdrL c nl b nb)] = True := eq_true ⟨c, nl, b, nb, hc, hb, rfl⟩
theorem numbers_pre (ds : List AVal) : numbersM.pre ds = rdPre ds := rfl
theorem data_pre (ds : List AVal) : dataM.pre ds = rdPre ds := rfl
theorem list_pre (ds : List AVal) : listM.pre ds = rdPre ds := rfl
theorem end_pre (ds : List AVal) : endM.pre ds = rdPre ds := rfl
@[simp] theorem rM_bx : numbersM.bx = [0] ∧ dataM.bx = [0] ∧ listM.bx = [0] ∧ endM.bx = [0] ∧ numbersM.nb = [] ∧ dataM.nb = [] ∧ listM.nb = [] ∧ endM.nb = [] := ⟨rfl, rfl, rfl, rfl, rfl, rfl, rfl, rfl⟩
@[simp] theorem numbers_post (c : Cmd) (nl nb : Option Bool) (b : List UInt8) : numbersM.post [.ep (rdrL c nl b nb)] = i64 (getN 6 b).2.2 := by simp [numbersM]
@[simp] theorem data_post (c : Cmd) (nl nb : Option Bool) (b : List UInt8) : dataM.post [.ep (rdrL c nl b nb)] = i64 (getS b).2.2 := by simp [dataM]
@[simp] theorem list_post (c : Cmd) (nl nb : Option Bool) (b : List UInt8) : listM.post [.ep (rdrL c nl b nb)] = i64 (getLs getI 1 b).2.2 := by simp [listM]
@[simp] theorem end_post (c : Cmd) (nl nb : Option Bool) (b : List UInt8) : endM.post [.ep (rdrL c nl b nb)] = i64 ((if 0 < b.length then 6 else chkC c : Nat) : Int) := by
  simp only [endM, rB_rdrL, rC_rdrL]
  split <;> rfl
@[simp] theorem numbers_out (c : Cmd) (nl nb : Option Bool) (b : List UInt8) (j : Nat) : numbersM.out [.ep (rdrL c nl b nb)] j = rdrL (setN c (getN 6 b).1) nl (getN 6 b).2.1 nb := by simp [numbersM]
@[simp] theorem data_out (c : Cmd) (nl nb : Option Bool) (b : List UInt8) (j : Nat) : dataM.out [.ep (rdrL c nl b nb)] j = rdrL { c with data := (getS b).1 } nl (aft b (getS b).2.1 (getS b).2.2) nb := by simp [dataM]
@[simp] theorem list_out (c : Cmd) (nl nb : Option Bool) (b : List UInt8) (j : Nat) : listM.out [.ep (rdrL c nl b nb)] j = rdrL { c with list := (getLs getI 1 b).1 } none (aft b (getLs getI 1 b).2.1 (getLs getI 1 b).2.2) nb := by simp [listM]
@[simp] theorem end_out (c : Cmd) (nl nb : Option Bool) (b : List UInt8) (j : Nat) : endM.out [.ep (rdrL c nl b nb)] j = rdrL c nl b nb := by simp [endM]
@[simp] theorem rdrL_len (c : Cmd) (nl nb : Option Bool) (b : List UInt8) : (rdrL c nl b nb).length = 9 := rfl
@[simp] theorem rdrL_pure (c : Cmd) (nl nb : Option Bool) (b : List UInt8) : pureL (rdrL c nl b nb) = true := by simp [rdrL, cmdL, pureL]
@[simp] theorem rdrL_take (c : Cmd) (nl nb : Option Bool) (b : List UInt8) : (rdrL c nl b nb).take 8 = cmdL c nl := rfl
@[simp] theorem rdrL_ren (m : List (Nat × Nat)) (c : Cmd) (nl nb : Option Bool) (b : List UInt8) : renL m (rdrL c nl b nb) = rdrL c nl b nb := by simp [rdrL, cmdL]
theorem rdrL_0 (b : List UInt8) (nl : Option Bool) : [i64 0, i64 0, i64 0, i64 0, i64 0, i64 0, st [], .sl .plain none 0 [], .sl .plain nl b.length (bys b)] = rdrL zeroCmd none b nl := rfl
def zc : List AVal := [i64 0, i64 0, i64 0, i64 0, i64 0, i64 0, st [], .sl .plain none 0 []]
def ddst (nl : Option Bool) (b : List UInt8) (i : Nat) : ASt := ⟨[(0, .sl .plain nl b.length (bys b))], [(2, .bp 2 0), (4, .bp 10 0), (19, .bv 19 1 0 4 4), (20, i64 4), (21, i64 i)], [(2, some [i64 0, i64 0, i64 0, i64 0, i64 0, i64 0, st [], .sl .plain none 0 []]), (10, some (rdrL (dst b i).1 none (dst b i).2 nl)), (19, some [.fn 134 [.bp 10 0] [], .fn 135 [.bp 10 0] [], .fn 136 [.bp 10 0] [], .fn 137 [.bp 10 0] []])]⟩
end Go.Abs
end

section
namespace Go.Abs
theorem splice_cmd {zs : List AVal} (c : Cmd) (nl : Option Bool) (h : zs.length = 8) : splice zs 0 (cmdL c nl) = cmdL c nl := splice_full (by rw [h]; rfl)
theorem splice_z8 : splice [i64 0, i64 0, i64 0, i64 0, i64 0, i64 0, st [], .sl .plain none 0 []] 0 [i64 0, i64 0, i64 0, i64 0, i64 0, i64 0, st [], .sl .plain none 0 []] = [i64 0, i64 0, i64 0, i64 0, i64 0, i64 0, st [], .sl .plain none 0 []] := splice_full rfl
set_option maxHeartbeats 8000000 in
set_option maxRecDepth 100000 in
theorem cDec_ok (E : Env) (h134 : E.M 134 = numbersM) (h135 : E.M 135 = dataM) (h136 : E.M 136 = listM) (h137 : E.M 137 = endM) : ∀ ds, decCC.pre ds → ds.length = f_command_Decode.n ∧ awp E f_command_Decode.body (retQ f_command_Decode.res (decCC.post ds)) (initSt f_command_Decode.wr ds) := by
  rintro _ ⟨nl, b, hb, rfl⟩
  rw [decC_post]
  generalize hX : decC b = X
  simp (maxSteps := 1000000) (disch := first | omega | (simp; done) | (simp; omega)) [W_id, bys_app, bys_snoc, f_command_Decode]
  simp (maxSteps := 1000000) (disch := first | omega | (simp; done) | (simp; omega)) [W_id, bys_app, bys_snoc, f_command_Decode_r0]
  rw [f_command_Decode_r1, awp_seq, awp_seq]
  refine awp_name fun Q0 hQ0 => ?_
  rw [awp_region]
  rw [runR, step_some]
  refine ⟨by simp (maxSteps := 30000) (disch := first | omega | (simp; done) | (simp; omega)) [W_id], ?_⟩
  simp (maxSteps := 20000) only [eff, arg, ASt.get, lk, put1_mk, List.map_cons, List.map_nil, List.nil_append, reduceIte, Nat.reduceEqDiff, dem_bp]
  rw [runR, step_some]
  refine ⟨by simp (maxSteps := 30000) (disch := first | omega | (simp; done) | (simp; omega)) [W_id], ?_⟩
  simp (maxSteps := 20000) only [eff, arg, ASt.get, lk, put1_mk, List.map_cons, List.map_nil, List.nil_append, reduceIte, Nat.reduceEqDiff, dem_bp]
  rw [runR, step_some]
  refine ⟨by simp (maxSteps := 30000) (disch := first | omega | (simp; done) | (simp; omega)) [W_id], ?_⟩
  simp (maxSteps := 20000) only [eff, arg, ASt.get, lk, put1_mk, List.map_cons, List.map_nil, List.nil_append, reduceIte, Nat.reduceEqDiff, dem_bp]
  rw [runR, step_some]
  refine ⟨by simp (maxSteps := 30000) (disch := first | omega | (simp; done) | (simp; omega)) [W_id], ?_⟩
  simp (maxSteps := 20000) only [eff, arg, ASt.get, lk, put1_mk, List.map_cons, List.map_nil, List.nil_append, reduceIte, Nat.reduceEqDiff, dem_bp]
  rw [runR, step_some]
  refine ⟨by simp (maxSteps := 30000) (disch := first | omega | (simp; done) | (simp; omega)) [W_id], ?_⟩
  simp (maxSteps := 20000) only [eff, arg, ASt.get, lk, put1_mk, List.map_cons, List.map_nil, List.nil_append, reduceIte, Nat.reduceEqDiff, dem_bp]
  rw [runR, step_some]
  refine ⟨by simp (maxSteps := 30000) (disch := first | omega | (simp; done) | (simp; omega)) [W_id], ?_⟩
  simp (maxSteps := 20000) only [eff, arg, ASt.get, lk, put1_mk, List.map_cons, List.map_nil, List.nil_append, reduceIte, Nat.reduceEqDiff, dem_bp]
  rw [runR, step_some]
  refine ⟨by simp (maxSteps := 30000) (disch := first | omega | (simp; done) | (simp; omega)) [W_id], ?_⟩
  simp (maxSteps := 20000) only [eff, arg, ASt.get, lk, put1_mk, List.map_cons, List.map_nil, List.nil_append, reduceIte, Nat.reduceEqDiff, dem_bp]
  rw [runR, step_some]
  refine ⟨by simp (maxSteps := 30000) (disch := first | omega | (simp; done) | (simp; omega)) [W_id], ?_⟩
  simp (maxSteps := 20000) only [eff, arg, ASt.get, lk, put1_mk, List.map_cons, List.map_nil, List.nil_append, reduceIte, Nat.reduceEqDiff, dem_bp]
  rw [runR, step_some]
  refine ⟨?_, ?_⟩
  · simp (maxSteps := 30000) (disch := first | omega | (simp; done) | (simp; omega)) [W_id]
  simp (maxSteps := 30000) (disch := first | omega | (simp; done) | (simp; omega)) [W_id]
  rw [hQ0]
  clear hQ0 Q0
  simp only [thenQ]
  refine awp_name fun Q0 hQ0 => ?_
  simp (maxSteps := 1000000) (disch := first | omega | (simp; done) | (simp; omega)) [W_id, bys_app, bys_snoc, f_command_Decode_r2]
  refine awp_for (ddst nl b) (fun i => 4 - i) (fun i => i ≤ 4 ∧ ∀ j, j < i → derr b j = 0) 0 rfl ⟨by omega, fun j h => absurd h (by omega)⟩ fun i hi => ?_
  obtain ⟨hi, he⟩ := hi
  refine awp_name fun Q1 hQ1 => ?_
  have hc0 := zero_small
  have hc1 := c1_small b
  have hc2 := c2_small hb
  have hc3 := c3_small hb
  have hb1 := b1_len b
  have hb2 := b2_len b
  have hb3 := b3_len b
  by_cases h4 : i = 4
  · subst h4
    have hd := decC_fine he
    rw [hX] at hd
    subst hd
    simp (maxSteps := 1000000) (disch := first | omega | (simp; done) | (simp; omega)) [W_id, bys_app, bys_snoc, f_command_Decode_l0, f_command_Decode_r3, kT, kF, dT, dF, ddst, dst, hQ1, hQ0, f_command_Decode_r8]
    exact ⟨⟨rfl, by simp [cmdL], by simp [cmdL]⟩, by rw [splice_cmd _ _ rfl]; exact Nat.le_refl _, by rw [splice_cmd _ _ rfl]; rfl, by simp [cmdL]⟩
  have hi4 : i < 4 := by omega
  have herr := decC_err hi4 he
  rw [hX] at herr
  have c : i = 0 ∨ i = 1 ∨ i = 2 ∨ i = 3 := by omega
  rcases c with rfl | rfl | rfl | rfl
  · simp (maxSteps := 1000000) (disch := first | omega | (simp; done) | (simp; omega)) [W_id, bys_app, bys_snoc, f_command_Decode_l0, f_command_Decode_r3, f_command_Decode_r4, kT, kF, dT, dF, ddst, dst]
    rw [f_command_Decode_r5, awp_seq]
    rw [awp_alt]
    refine .inl ?_
    by_cases e : derr b 0 = 0
    · have e' : (getN 6 b).2.2 = 0 := e
      simp (maxSteps := 1000000) (disch := first | omega | (simp; done) | (simp; omega)) [W_id, bys_app, bys_snoc, h134, numbers_pre, rd_pre hc0, f_command_Decode_r6, f_command_Decode_r7, e', kT, kF, dT, dF, hQ1]
      refine ⟨1, by omega, ⟨by omega, fun j hj => ?_⟩, by simp [ddst, dst, c1, b1, d1, e']⟩
      by_cases hj' : j < 0
      · exact he j hj'
      · have : j = 0 := by omega
        subst this
        exact e
    · have e' : ¬ ((getN 6 b).2.2 = 0) := e
      have hx := herr e
      subst hx
      simp (maxSteps := 1000000) (disch := first | omega | (simp; done) | (simp; omega)) [W_id, bys_app, bys_snoc, h134, numbers_pre, rd_pre hc0, f_command_Decode_r6, f_command_Decode_r7, e', kT, kF, dT, dF, hQ1, hQ0]
      exact ⟨by rw [splice_z8]; exact Nat.le_refl 8, ⟨by rw [splice_z8]; rfl, rfl⟩, by simp [cmdL, zeroCmd]⟩
  · simp (maxSteps := 1000000) (disch := first | omega | (simp; done) | (simp; omega)) [W_id, bys_app, bys_snoc, f_command_Decode_l0, f_command_Decode_r3, f_command_Decode_r4, kT, kF, dT, dF, ddst, dst]
    rw [f_command_Decode_r5, awp_seq]
    rw [awp_alt, awp_alt]
    refine .inr (.inl ?_)
    by_cases e : derr b 1 = 0
    · have e' : (getS (b1 b)).2.2 = 0 := e
      simp (maxSteps := 1000000) (disch := first | omega | (simp; done) | (simp; omega)) [W_id, bys_app, bys_snoc, h135, data_pre, rd_pre hc1, f_command_Decode_r6, f_command_Decode_r7, e', kT, kF, dT, dF, hQ1]
      refine ⟨2, by omega, ⟨by omega, fun j hj => ?_⟩, by simp [ddst, dst, c2, b2, d2, e']⟩
      by_cases hj' : j < 1
      · exact he j hj'
      · have : j = 1 := by omega
        subst this
        exact e
    · have e' : ¬ ((getS (b1 b)).2.2 = 0) := e
      have hx := herr e
      subst hx
      simp (maxSteps := 1000000) (disch := first | omega | (simp; done) | (simp; omega)) [W_id, bys_app, bys_snoc, h135, data_pre, rd_pre hc1, f_command_Decode_r6, f_command_Decode_r7, e', kT, kF, dT, dF, hQ1, hQ0]
      exact ⟨by rw [splice_z8]; exact Nat.le_refl 8, ⟨by rw [splice_z8]; rfl, rfl⟩, by simp [cmdL, zeroCmd]⟩
  · simp (maxSteps := 1000000) (disch := first | omega | (simp; done) | (simp; omega)) [W_id, bys_app, bys_snoc, f_command_Decode_l0, f_command_Decode_r3, f_command_Decode_r4, kT, kF, dT, dF, ddst, dst]
    rw [f_command_Decode_r5, awp_seq]
    rw [awp_alt, awp_alt, awp_alt]
    refine .inr (.inr (.inl ?_))
    by_cases e : derr b 2 = 0
    · have e' : (getLs getI 1 (b2 b)).2.2 = 0 := e
      simp (maxSteps := 1000000) (disch := first | omega | (simp; done) | (simp; omega)) [W_id, bys_app, bys_snoc, h136, list_pre, rd_pre hc2, f_command_Decode_r6, f_command_Decode_r7, e', kT, kF, dT, dF, hQ1]
      refine ⟨3, by omega, ⟨by omega, fun j hj => ?_⟩, by simp [ddst, dst, c3, b3, d3, e']⟩
      by_cases hj' : j < 2
      · exact he j hj'
      · have : j = 2 := by omega
        subst this
        exact e
    · have e' : ¬ ((getLs getI 1 (b2 b)).2.2 = 0) := e
      have hx := herr e
      subst hx
      simp (maxSteps := 1000000) (disch := first | omega | (simp; done) | (simp; omega)) [W_id, bys_app, bys_snoc, h136, list_pre, rd_pre hc2, f_command_Decode_r6, f_command_Decode_r7, e', kT, kF, dT, dF, hQ1, hQ0]
      exact ⟨by rw [splice_z8]; exact Nat.le_refl 8, ⟨by rw [splice_z8]; rfl, rfl⟩, by simp [cmdL, zeroCmd]⟩
  · simp (maxSteps := 1000000) (disch := first | omega | (simp; done) | (simp; omega)) [W_id, bys_app, bys_snoc, f_command_Decode_l0, f_command_Decode_r3, f_command_Decode_r4, kT, kF, dT, dF, ddst, dst]
    rw [f_command_Decode_r5, awp_seq]
    rw [awp_alt, awp_alt, awp_alt]
    refine .inr (.inr (.inr ?_))
    by_cases e : derr b 3 = 0
    · have e' : (if 0 < (b3 b).length then 6 else chkC (c3 b)) = 0 := e
      simp (maxSteps := 1000000) (disch := first | omega | (simp; done) | (simp; omega)) [W_id, bys_app, bys_snoc, h137, end_pre, rd_pre hc3, f_command_Decode_r6, f_command_Decode_r7, e', kT, kF, dT, dF, hQ1]
      refine ⟨4, by omega, ⟨by omega, fun j hj => ?_⟩, by simp [ddst, dst, c3, e']⟩
      by_cases hj' : j < 3
      · exact he j hj'
      · have : j = 3 := by omega
        subst this
        exact e
    · have e' : ¬ ((if 0 < (b3 b).length then 6 else chkC (c3 b)) = 0) := e
      have hx := herr e
      subst hx
      simp (maxSteps := 1000000) (disch := first | omega | (simp; done) | (simp; omega)) [W_id, bys_app, bys_snoc, h137, end_pre, rd_pre hc3, f_command_Decode_r6, f_command_Decode_r7, e', kT, kF, dT, dF, hQ1, hQ0]
      exact ⟨by rw [splice_z8]; exact Nat.le_refl 8, ⟨by rw [splice_z8]; rfl, rfl⟩, by simp [cmdL, zeroCmd]⟩
end Go.Abs
end
