/- Lemmas: an abstract interpreter, and what the functions compute. -/
import Derived.Test.YtclloimacncjgaaDoorM
import Derived.Test.YtclloimacncjgaaDoorE
import Derived.Test.YtclloimacncjgaaDoorP
import Derived.Test.YtclloimacncjgaaDoorO
set_option linter.unusedSimpArgs false
set_option linter.unusedVariables false
set_option linter.unusedSectionVars false
section
namespace Go.Abs
theorem inp1_inj {a b : List UInt8} (ha : a.length = 16) (hb : b.length = 16) (h : inpOf 1 [a] = inpOf 1 [b]) : a = b := by
  simp only [inpOf, List.cons.injEq, true_and] at h
  have := flatMap_encS_inj (fun s hs => by simp at hs; rw [hs]; omega) (fun s hs => by simp at hs; rw [hs]; omega) h
  simpa using this
theorem inp2_inj {a b c d : List UInt8} (ha : a.length = 16) (hb : b.length = 16) (hc : c.length = 16) (hd : d.length = 16) (h : inpOf 2 [a, b] = inpOf 2 [c, d]) : a = c ∧ b = d := by
  simp only [inpOf, List.cons.injEq, true_and] at h
  have := flatMap_encS_inj (fun s hs => by simp at hs; rcases hs with e | e <;> (rw [e]; omega)) (fun s hs => by simp at hs; rcases hs with e | e <;> (rw [e]; omega)) h
  simpa using this
theorem up_diff (d b : List UInt8) (hd : d.length = 16) (hb : b.length = 16) (D : List Bool) : ∀ (p q : List (List UInt8)), D.length = p.length → D.length = q.length → is16 p → is16 q → shortB ((upIn d (D.zip p)).headD []) = shortB ((upIn b (D.zip q)).headD []) →
    match ((upIn d (D.zip p)).zip (upIn b (D.zip q))).find? (fun q => decide (¬ q.1 = q.2)) with | some w => w.1 ≠ w.2 ∧ shortB w.1 = shortB w.2 | none => d = b ∧ p = q := by
  induction D with
  | nil =>
    intro p q h1 h2 _ _ hs
    have ep : p = [] := List.length_eq_zero_iff.1 h1.symm
    have eq : q = [] := List.length_eq_zero_iff.1 h2.symm
    subst ep
    subst eq
    simp only [List.zip_nil_left, upIn, List.zip_cons_cons, List.headD_cons] at hs ⊢
    by_cases h : inpOf 1 [d] = inpOf 1 [b]
    · have hdb := inp1_inj hd hb h
      generalize inpOf 1 [d] = x at *
      generalize inpOf 1 [b] = y at *
      simp [List.find?_cons, h, hdb]
    · generalize inpOf 1 [d] = x at *
      generalize inpOf 1 [b] = y at *
      simp [List.find?_cons, h, hs]
  | cons r D ih =>
    intro p q h1 h2 hp hq hs
    cases p with
    | nil => simp at h1
    | cons x p =>
      cases q with
      | nil => simp at h2
      | cons y q =>
        obtain ⟨hx, hp⟩ := is16_cons.1 hp
        obtain ⟨hy, hq⟩ := is16_cons.1 hq
        have ih := ih p q (by simpa using h1) (by simpa using h2) hp hq
        simp only [List.zip_cons_cons, upIn, List.headD_cons] at hs ⊢
        have l1 := shortB_len ((upIn d (D.zip p)).headD [])
        have l2 := shortB_len ((upIn b (D.zip q)).headD [])
        generalize hu : shortB ((upIn d (D.zip p)).headD []) = su at *
        generalize hv : shortB ((upIn b (D.zip q)).headD []) = sv at *
        have e : inpOf 2 (if r = true then [x, su] else [su, x]) = inpOf 2 (if r = true then [y, sv] else [sv, y]) → x = y ∧ su = sv := fun h => by
          cases r with
          | true => exact inp2_inj hx l1 hy l2 h
          | false => exact (inp2_inj l1 hx l2 hy h).symm
        generalize inpOf 2 (if r = true then [x, su] else [su, x]) = X at *
        generalize inpOf 2 (if r = true then [y, sv] else [sv, y]) = Y at *
        rw [List.find?_cons]
        by_cases h : X = Y
        · have e := e h
          have := ih e.2
          simp only [h, not_true, decide_false]
          revert this
          cases ((upIn d (D.zip p)).zip (upIn b (D.zip q))).find? (fun q => decide (¬ q.1 = q.2)) with
          | none => exact fun t => ⟨t.1, by rw [e.1, t.2]⟩
          | some w => exact fun t => t
        · simp only [h, not_false_eq_true, decide_true]
          exact ⟨h, hs⟩
theorem lastB_rv (l : List (List UInt8)) : lastB l.reverse = l.headD [] := by
  cases l with
  | nil => rfl
  | cons a l => simp [lastB, List.getD]
theorem inpsI_form {n i : Int} {d : List UInt8} {p x : List (List UInt8)} (h : inpsI n i d p = some x) : (dirs n.toNat i.toNat).length = p.length ∧ x = (upIn d ((dirs n.toNat i.toNat).zip p.reverse)).reverse := by
  unfold inpsI at h
  split at h
  · unfold inps at h
    split at h
    · rename_i hc
      exact ⟨hc.2, (Option.some.inj h).symm⟩
    · cases h
  · cases h
end Go.Abs
end

section
namespace Go.Abs
def pinN : Nat → Nat → Bool → List UInt8 → List (List UInt8) → List (List UInt8) × List UInt8 × List UInt8
  | _, _, _, old, [] => ([], old, old)
  | m, n, w, old, x :: q => if m = n ∧ w = true then ([], old, old) else if m = n then ([], x, x) else if m ≤ spl n then ((pinN m (spl n) w old q).1 ++ [inpOf 2 [(pinN m (spl n) w old q).2.2, x]], (pinN m (spl n) w old q).2.1, shortB (inpOf 2 [(pinN m (spl n) w old q).2.2, x])) else ((pinN (m - spl n) (n - spl n) false old q).1 ++ [inpOf 2 [x, (pinN (m - spl n) (n - spl n) false old q).2.1], inpOf 2 [x, (pinN (m - spl n) (n - spl n) false old q).2.2]], shortB (inpOf 2 [x, (pinN (m - spl n) (n - spl n) false old q).2.1]), shortB (inpOf 2 [x, (pinN (m - spl n) (n - spl n) false old q).2.2]))
theorem pinN_len {old : List UInt8} (ho : old.length = 16) : ∀ (q : List (List UInt8)) (m n : Nat) (w : Bool), is16 q → (pinN m n w old q).2.1.length = 16 ∧ (pinN m n w old q).2.2.length = 16
  | [], m, n, w, _ => ⟨ho, ho⟩
  | x :: q, m, n, w, h => by
    obtain ⟨hx, hq⟩ := is16_cons.1 h
    rw [pinN]
    split
    · exact ⟨ho, ho⟩
    · split
      · exact ⟨hx, hx⟩
      · split
        · have ih := (pinN_len ho q m (spl n) w hq).1
          exact ⟨ih, by simp only [shortB_len]⟩
        · simp only [shortB_len, and_self]
theorem pin_pair (old : List UInt8) : ∀ (q : List (List UInt8)) (m n : Nat) (w : Bool), (pairN m n w old q).2.2 = true → (pinN m n w old q).2.1 = (pairN m n w old q).1 ∧ (pinN m n w old q).2.2 = (pairN m n w old q).2.1
  | [], m, n, w, h => by
    rw [pairN] at h ⊢
    by_cases c : m = n ∧ w = true
    · rw [if_pos c]; exact ⟨rfl, rfl⟩
    · rw [if_neg c] at h; cases h
  | x :: q, m, n, w, h => by
    rw [pairN] at h ⊢
    rw [pinN]
    by_cases c : m = n ∧ w = true
    · rw [if_pos c] at h; cases h
    · rw [if_neg c] at h ⊢
      rw [if_neg c]
      by_cases e : m = n
      · rw [if_pos e, if_pos e]; exact ⟨rfl, rfl⟩
      · rw [if_neg e] at h ⊢
        rw [if_neg e]
        by_cases k : m ≤ spl n
        · rw [if_pos k] at h ⊢
          rw [if_pos k]
          obtain ⟨e1, e2⟩ := pin_pair old q m (spl n) w h
          exact ⟨e1, by rw [e2]; rfl⟩
        · rw [if_neg k] at h ⊢
          rw [if_neg k]
          obtain ⟨e1, e2⟩ := pin_pair old q (m - spl n) (n - spl n) false h
          exact ⟨by rw [e1]; rfl, by rw [e2]; rfl⟩
def free (C : List (List UInt8)) : Prop := ∀ u ∈ C, ∀ v ∈ C, shortB u = shortB v → u = v
theorem path_same {C : List (List UInt8)} (hf : free C) {a b : List UInt8} (ha : a.length = 16) (hb : b.length = 16) {D : List Bool} {p q : List (List UInt8)} (h1 : D.length = p.length) (h2 : D.length = q.length) (hp : is16 p) (hq : is16 q) (i1 : upIn a (D.zip p) ⊆ C) (i2 : upIn b (D.zip q) ⊆ C) (hs : shortB ((upIn a (D.zip p)).headD []) = shortB ((upIn b (D.zip q)).headD [])) : a = b := by
  have := up_diff a b ha hb D p q h1 h2 hp hq hs
  cases hc : ((upIn a (D.zip p)).zip (upIn b (D.zip q))).find? (fun q => decide (¬ q.1 = q.2)) with
  | none => rw [hc] at this; exact this.1
  | some w =>
    obtain ⟨u, v⟩ := w
    rw [hc] at this
    have hm := List.mem_of_find?_eq_some hc
    obtain ⟨m1, m2⟩ := List.of_mem_zip hm
    exact absurd (hf u (i1 m1) v (i2 m2) this.2) this.1
theorem hist {C : List (List UInt8)} (hf : free C) {A B old : List UInt8} (hA : A.length = 16) (hB : B.length = 16) (ho : old.length = 16) (k : List (List UInt8)) : ∀ (m n i : Nat) (w : Bool) (P Q : List (List UInt8)), 1 ≤ m → m ≤ n → i < m → (dirs m i).length = P.length → (dirs n i).length = Q.length → is16 P → is16 Q → is16 k → upIn A ((dirs m i).zip P) ⊆ C → upIn B ((dirs n i).zip Q) ⊆ C → (pinN m n w old k).1 ⊆ C → (pairN m n w old k).2.2 = true → shortB ((upIn A ((dirs m i).zip P)).headD []) = (pinN m n w old k).2.1 → shortB ((upIn B ((dirs n i).zip Q)).headD []) = (pinN m n w old k).2.2 → A = B := by
  induction k with
  | nil =>
    intro m n i w P Q h1 h2 hi lP lQ hP hQ hk i1 i2 i3 ok s1 s2
    rw [pairN] at ok
    rw [pinN] at s1 s2
    by_cases c : m = n ∧ w = true
    · obtain ⟨rfl, _⟩ := c
      exact path_same hf hA hB lP lQ hP hQ i1 i2 (s1.trans s2.symm)
    · rw [if_neg c] at ok; cases ok
  | cons x k ih =>
    intro m n i w P Q h1 h2 hi lP lQ hP hQ hk i1 i2 i3 ok s1 s2
    obtain ⟨hx, hk⟩ := is16_cons.1 hk
    rw [pairN] at ok
    rw [pinN] at i3 s1 s2
    by_cases c : m = n ∧ w = true
    · rw [if_pos c] at ok; cases ok
    rw [if_neg c] at ok i3 s1 s2
    by_cases e : m = n
    · subst e
      rw [if_pos rfl] at s1 s2
      exact path_same hf hA hB lP lQ hP hQ i1 i2 (s1.trans s2.symm)
    rw [if_neg e] at ok i3 s1 s2
    have hn2 : 2 ≤ n := by omega
    have hsn := spl_lt hn2
    have hsp := spl_pos n
    have hst := spl_twice hn2
    rw [dirs_two hn2] at lQ i2 s2
    by_cases c : m ≤ spl n
    · rw [if_pos c] at ok i3 s1 s2
      rw [if_pos (show i < spl n by omega)] at lQ i2 s2
      cases Q with
      | nil => simp at lQ
      | cons q0 Q =>
        obtain ⟨hq0, hQ⟩ := is16_cons.1 hQ
        rw [List.zip_cons_cons, upIn] at i2 s2
        simp only [List.headD_cons, Bool.false_eq_true, if_false] at i2 s2
        have l1 := shortB_len ((upIn B ((dirs (spl n) i).zip Q)).headD [])
        have l2 := (pinN_len ho k m (spl n) w hk).2
        have ih := ih m (spl n) i w P Q h1 c hi lP (by simpa using lQ) hP hQ hk i1 (fun u hu => i2 (List.mem_cons_of_mem _ hu)) (fun u hu => i3 (List.mem_append_left _ hu)) ok s1
        generalize shortB ((upIn B ((dirs (spl n) i).zip Q)).headD []) = y at *
        generalize (pinN m (spl n) w old k).2.2 = z at *
        have m1 := i2 (List.mem_cons_self)
        have m2 := i3 (List.mem_append_right _ (List.mem_cons_self))
        have inj := fun h => (inp2_inj l1 hq0 l2 hx h).1
        generalize inpOf 2 [y, q0] = X at *
        generalize inpOf 2 [z, x] = Y at *
        exact ih (inj (hf _ m1 _ m2 s2))
    · rw [if_neg c] at ok i3 s1 s2
      have hm2 : 2 ≤ m := by omega
      have sm : spl m = spl n := spl_pow (k := Nat.log2 (n - 1)) (by change spl n < m; omega) (by change m ≤ 2 * spl n; omega)
      rw [dirs_two hm2, sm] at lP i1 s1
      by_cases ci : i < spl n
      · rw [if_pos ci] at lP lQ i1 i2 s1 s2
        cases Q with
        | nil => simp at lQ
        | cons q0 Q =>
          cases P with
          | nil => simp at lP
          | cons p0 P =>
            obtain ⟨hq0, hQ⟩ := is16_cons.1 hQ
            obtain ⟨hp0, hP⟩ := is16_cons.1 hP
            rw [List.zip_cons_cons, upIn] at i1 i2 s1 s2
            simp only [List.headD_cons, Bool.false_eq_true, if_false] at i1 i2 s1 s2
            have l1 := shortB_len ((upIn B ((dirs (spl n) i).zip Q)).headD [])
            have l2 := shortB_len ((upIn A ((dirs (spl n) i).zip P)).headD [])
            obtain ⟨l3, l4⟩ := pinN_len ho k (m - spl n) (n - spl n) false hk
            have fin := path_same hf hA hB (D := dirs (spl n) i) (p := P) (q := Q) (by simpa using lP) (by simpa using lQ) hP hQ (fun u hu => i1 (List.mem_cons_of_mem _ hu)) (fun u hu => i2 (List.mem_cons_of_mem _ hu))
            generalize shortB ((upIn B ((dirs (spl n) i).zip Q)).headD []) = y at *
            generalize shortB ((upIn A ((dirs (spl n) i).zip P)).headD []) = z at *
            generalize (pinN (m - spl n) (n - spl n) false old k).2.1 = u at *
            generalize (pinN (m - spl n) (n - spl n) false old k).2.2 = v at *
            have m1 := i1 (List.mem_cons_self)
            have m2 := i2 (List.mem_cons_self)
            have m3 := i3 (List.mem_append_right _ (List.mem_cons_self))
            have m4 := i3 (List.mem_append_right _ (List.mem_cons_of_mem _ (List.mem_cons_self)))
            have j1 := fun h => (inp2_inj l2 hp0 hx l3 h).1
            have j2 := fun h => (inp2_inj l1 hq0 hx l4 h).1
            generalize inpOf 2 [z, p0] = X at *
            generalize inpOf 2 [y, q0] = Y at *
            generalize inpOf 2 [x, u] = U at *
            generalize inpOf 2 [x, v] = V at *
            exact fin ((j1 (hf _ m1 _ m3 s1)).trans (j2 (hf _ m2 _ m4 s2)).symm)
      · rw [if_neg ci] at lP lQ i1 i2 s1 s2
        cases Q with
        | nil => simp at lQ
        | cons q0 Q =>
          cases P with
          | nil => simp at lP
          | cons p0 P =>
            obtain ⟨hq0, hQ⟩ := is16_cons.1 hQ
            obtain ⟨hp0, hP⟩ := is16_cons.1 hP
            rw [List.zip_cons_cons, upIn] at i1 i2 s1 s2
            simp only [List.headD_cons, if_true] at i1 i2 s1 s2
            have l1 := shortB_len ((upIn B ((dirs (n - spl n) (i - spl n)).zip Q)).headD [])
            have l2 := shortB_len ((upIn A ((dirs (m - spl n) (i - spl n)).zip P)).headD [])
            obtain ⟨l3, l4⟩ := pinN_len ho k (m - spl n) (n - spl n) false hk
            have ih := ih (m - spl n) (n - spl n) (i - spl n) false P Q (by omega) (by omega) (by omega) (by simpa using lP) (by simpa using lQ) hP hQ hk (fun u hu => i1 (List.mem_cons_of_mem _ hu)) (fun u hu => i2 (List.mem_cons_of_mem _ hu)) (fun u hu => i3 (List.mem_append_left _ hu)) ok
            generalize shortB ((upIn B ((dirs (n - spl n) (i - spl n)).zip Q)).headD []) = y at *
            generalize shortB ((upIn A ((dirs (m - spl n) (i - spl n)).zip P)).headD []) = z at *
            generalize (pinN (m - spl n) (n - spl n) false old k).2.1 = u at *
            generalize (pinN (m - spl n) (n - spl n) false old k).2.2 = v at *
            have m1 := i1 (List.mem_cons_self)
            have m2 := i2 (List.mem_cons_self)
            have m3 := i3 (List.mem_append_right _ (List.mem_cons_self))
            have m4 := i3 (List.mem_append_right _ (List.mem_cons_of_mem _ (List.mem_cons_self)))
            have j1 := fun h => (inp2_inj hp0 l2 hx l3 h).2
            have j2 := fun h => (inp2_inj hq0 l1 hx l4 h).2
            generalize inpOf 2 [p0, z] = X at *
            generalize inpOf 2 [q0, y] = Y at *
            generalize inpOf 2 [x, u] = U at *
            generalize inpOf 2 [x, v] = V at *
            exact ih (j1 (hf _ m1 _ m3 s1)) (j2 (hf _ m2 _ m4 s2))
def prC (l : List (List UInt8)) (i k : Nat) : Bool := (decide (¬ l.getD i [] = l.getD k [])) && decide (shortB (l.getD i []) = shortB (l.getD k []))
def coll (l : List (List UInt8)) : Bool := (List.range l.length).any fun i => (List.range i).any fun k => prC l i k
theorem coll_free {l : List (List UInt8)} (h : coll l = false) : free l := by
  have key : ∀ i < l.length, ∀ k < i, shortB (l.getD i []) = shortB (l.getD k []) → l.getD i [] = l.getD k [] := by
    intro i hi k hk hs
    refine Classical.byContradiction fun hn => ?_
    have : coll l = true := List.any_eq_true.2 ⟨i, by simpa using hi, List.any_eq_true.2 ⟨k, by simpa using hk, by rw [prC, decide_eq_true hn, decide_eq_true hs]; rfl⟩⟩
    rw [h] at this; cases this
  intro u hu v hv hs
  obtain ⟨i, hi, rfl⟩ := List.getElem_of_mem hu
  obtain ⟨k, hk, rfl⟩ := List.getElem_of_mem hv
  have g : ∀ j (hj : j < l.length), l[j] = l.getD j [] := fun j hj => by rw [List.getD, List.getElem?_eq_getElem hj]; rfl
  rw [g i hi, g k hk] at hs ⊢
  rcases Nat.lt_trichotomy i k with c | c | c
  · exact (key k hk i c hs.symm).symm
  · rw [c]
  · exact key i hi k c hs
end Go.Abs
end

section
namespace Go.Abs
theorem vfyN_form {r : List UInt8} {n i : Int} {d : List UInt8} {p : List (List UInt8)} (h : vfyN r n i d p = true) : (0 ≤ i ∧ i < n) ∧ (dirs n.toNat i.toNat).length = p.length ∧ riL n i d p = (upIn d ((dirs n.toNat i.toNat).zip p.reverse)).reverse ∧ shortB ((upIn d ((dirs n.toNat i.toNat).zip p.reverse)).headD []) = r := by
  unfold vfyN at h
  cases hx : inpsI n i d p with
  | none => rw [hx] at h; cases h
  | some x =>
    rw [hx] at h
    simp only [decide_eq_true_eq] at h
    obtain ⟨l1, e1⟩ := inpsI_form hx
    refine ⟨?_, l1, by rw [riL_some hx, e1], by rw [e1, lastB_rv] at h; exact h⟩
    unfold inpsI at hx
    split at hx
    · assumption
    · cases hx
theorem history {old root A B : List UInt8} {m n i : Int} {P Q L : List (List UInt8)} (ho : old.length = 16) (hA : A.length = 16) (hB : B.length = 16) (hP : is16 P) (hQ : is16 Q) (hL : is16 L) (h1 : vfyN old m i A P = true) (h2 : vfyN root n i B Q = true) (h3 : vpN old root m n L = true) (hne : ¬ A = B) : coll (riL m i A P ++ riL n i B Q ++ (pinN m.toNat n.toNat true old L.reverse).1) = true := by
  refine Classical.byContradiction fun hc => hne ?_
  have hf := coll_free (Bool.eq_false_iff.2 hc)
  obtain ⟨r1, l1, e1, s1⟩ := vfyN_form h1
  obtain ⟨r2, l2, e2, s2⟩ := vfyN_form h2
  have hmn : 1 ≤ m ∧ m ≤ n := by
    unfold vpN at h3
    split at h3
    · assumption
    · cases h3
  obtain ⟨m', rfl⟩ := Int.eq_ofNat_of_zero_le (show 0 ≤ m by omega)
  obtain ⟨n', rfl⟩ := Int.eq_ofNat_of_zero_le (show 0 ≤ n by omega)
  obtain ⟨i', rfl⟩ := Int.eq_ofNat_of_zero_le (show 0 ≤ i by omega)
  rw [pair_vpN (by omega) (by omega)] at h3
  simp only [Bool.and_eq_true, decide_eq_true_eq] at h3
  obtain ⟨⟨ok, p1⟩, p2⟩ := h3
  simp only [Int.toNat_natCast] at *
  obtain ⟨q1, q2⟩ := pin_pair old L.reverse m' n' true ok
  rw [e1, e2] at hf
  exact hist hf hA hB ho L.reverse m' n' i' true P.reverse Q.reverse (by omega) (by omega) (by omega) (by rw [l1, List.length_reverse]) (by rw [l2, List.length_reverse]) (is16_rev hP) (is16_rev hQ) (is16_rev hL) (fun u hu => by simp [hu]) (fun u hu => by simp [hu]) (fun u hu => by simp [hu]) ok (by rw [s1, q1, p1]) (by rw [s2, q2, p2])
end Go.Abs
end

section
namespace Go.Abs
set_option maxRecDepth 100000
end Go.Abs
end

section
namespace Go.Abs
set_option maxRecDepth 100000
def plC (l : List (List UInt8)) : List AVal := l.map fun b => .sl .plain (some false) b.length (bys b)
@[simp] theorem plC_len (l : List (List UInt8)) : (plC l).length = l.length := by simp [plC]
theorem plC_app (a b : List (List UInt8)) : plC a ++ plC b = plC (a ++ b) := by simp [plC]
@[simp] theorem pureL_plC : ∀ l : List (List UInt8), pureL (plC l) = true
  | [] => rfl
  | x :: l => by show (true && pureL (plC l)) = true; rw [pureL_plC l]; rfl
def pinA (t : List (List UInt8) × List UInt8 × List UInt8) : AVal := .otup 1 none t.1.length (plC t.1) [.agg (bys t.2.1), .agg (bys t.2.2)]
def pinC : Contract := ⟨pairC.pre, fun ds => pinA (pinN (asI (nth ds 1)).toNat (asI (nth ds 2)).toNat (asB (nth ds 3)) (gBs (gCs (nth ds 0))) (gDs (nth ds 4)).reverse)⟩
theorem pinC_pre {old : List UInt8} {m n : Nat} {w : Bool} {nl : Option Bool} {p : List (List UInt8)} {b : List UInt8} {k : Nat} (ho : old.length = 16) (h1 : 1 ≤ m) (h2 : m ≤ n) (hn : n ≤ 9223372036854775807) (hp : is16 p) (hl : p.length ≤ 1000) (hk : k = p.length) (hb : b = dgs p) : pinC.pre [.agg (bys old), i64 m, i64 n, bo w, .sl .plain nl k (bys b)] = True := pairC_pre ho h1 h2 hn hp hl hk hb
theorem pinC_post {old : List UInt8} {m n : Nat} {w : Bool} {md : Mode} {nl : Option Bool} {p : List (List UInt8)} {b : List UInt8} {k : Nat} (hp : is16 p) (hk : k = p.length) (hb : b = dgs p) : pinC.post [.agg (bys old), i64 m, i64 n, bo w, .sl md nl k (bys b)] = pinA (pinN m n w old p.reverse) := by
  have e : gDs (nth [.agg (bys old), i64 m, i64 n, bo w, .sl md nl k (bys b)] 4) = p := by rw [hk, hb]; exact gDs_dgs hp
  have e1 : (asI (nth [.agg (bys old), i64 m, i64 n, bo w, .sl md nl k (bys b)] 1)).toNat = m := Int.toNat_natCast m
  have e2 : (asI (nth [.agg (bys old), i64 m, i64 n, bo w, .sl md nl k (bys b)] 2)).toNat = n := Int.toNat_natCast n
  have e3 : gBs (gCs (nth [.agg (bys old), i64 m, i64 n, bo w, .sl md nl k (bys b)] 0)) = old := by simp [nth, gCs]
  simp only [pinC]
  rw [e, e1, e2, e3]; rfl
theorem pinN_cnt {old : List UInt8} : ∀ (q : List (List UInt8)) (m n : Nat) (w : Bool), (pinN m n w old q).1.length ≤ 2 * q.length
  | [], m, n, w => by simp [pinN]
  | x :: q, m, n, w => by
    rw [pinN]
    have h1 := pinN_cnt (old := old) q m (spl n) w
    have h2 := pinN_cnt (old := old) q (m - spl n) (n - spl n) false
    split
    · simp
    · split
      · simp
      · split <;> simp <;> omega
theorem pinN_small {old : List UInt8} (ho : old.length = 16) : ∀ (q : List (List UInt8)) (m n : Nat) (w : Bool), is16 q → ∀ b ∈ (pinN m n w old q).1, b.length ≤ 51
  | [], m, n, w, _, b, h => by simp [pinN] at h
  | x :: q, m, n, w, hq, b, h => by
    obtain ⟨hx, hq⟩ := is16_cons.1 hq
    have two : ∀ u v : List UInt8, u.length = 16 → v.length = 16 → (inpOf 2 [u, v]).length ≤ 51 := fun u v hu hv => by
      have := inq_len (t := 2) (is16_two hu hv)
      simp only [List.length_cons, List.length_nil] at this
      omega
    rw [pinN] at h
    split at h
    · simp at h
    · split at h
      · simp at h
      · split at h
        · rcases List.mem_append.1 h with h | h
          · exact pinN_small ho q m (spl n) w hq b h
          · simp at h
            rw [h]
            exact two _ _ (pinN_len ho q m (spl n) w hq).2 hx
        · rcases List.mem_append.1 h with h | h
          · exact pinN_small ho q (m - spl n) (n - spl n) false hq b h
          · simp at h
            obtain ⟨l1, l2⟩ := pinN_len ho q (m - spl n) (n - spl n) false hq
            rcases h with h | h
            · rw [h]; exact two _ _ hx l1
            · rw [h]; exact two _ _ hx l2
set_option maxHeartbeats 16000000 in
theorem rpin_ok (E : Env) (k : Nat) (h21 : E.G 21 = inputC) (h23 : E.G 23 = text16C) (h28 : E.G 28 = shortC) (h195 : E.G 195 = splC) (h208 : E.G 208 = limC pinC pairMu k) : ∀ ds, (limC pinC pairMu (k + 1)).pre ds → ds.length = f_custodyref08_PrefixInputs.n ∧ awp E f_custodyref08_PrefixInputs.body (retQ f_custodyref08_PrefixInputs.res (pinC.post ds)) (initSt f_custodyref08_PrefixInputs.wr ds) := by
  rintro _ ⟨⟨old, m, n, w, nl, p, ho, h1, hmn, hn, hp, hpl, rfl⟩, hk⟩
  rw [dgsA, pinC_post hp rfl rfl]
  have hk : p.length < k + 1 := hk
  have tko := take_l16 ho
  by_cases hw : m = n ∧ w = true
  · obtain ⟨rfl, rfl⟩ := hw
    have b1 : ((m : Int) == (m : Int)) = true := by simp
    have eo : pinN m m true old p.reverse = ([], old, old) := by
      cases p.reverse with
      | nil => rfl
      | cons x q => rw [pinN, if_pos ⟨rfl, rfl⟩]
    rw [eo, pinA]
    simp (maxSteps := 1000000) (disch := first | omega | (simp; done) | (simp; omega)) [W_id, bys_app, bys_snoc, f_custodyref08_PrefixInputs, b1, kT, kF, dT, dF, ho, tko, splice_full, plC]
  by_cases hp0 : p.length = 0
  · have e0 : p = [] := List.length_eq_zero_iff.1 hp0
    subst e0
    have eo : pinN m n w old [].reverse = ([], old, old) := rfl
    rw [eo, pinA]
    by_cases he : m = n
    · subst he
      have hwf : w = false := by
        cases w with
        | false => rfl
        | true => exact absurd ⟨rfl, rfl⟩ hw
      subst hwf
      simp (maxSteps := 1000000) (disch := first | omega | (simp; done) | (simp; omega)) [W_id, bys_app, bys_snoc, f_custodyref08_PrefixInputs, kT, kF, dT, dF, ho, tko, splice_full, plC]
    · have b1 : ((m : Int) == (n : Int)) = false := beq_false_of_ne (by omega)
      simp (maxSteps := 1000000) (disch := first | omega | (simp; done) | (simp; omega)) [W_id, bys_app, bys_snoc, f_custodyref08_PrefixInputs, b1, kT, kF, dT, dF, ho, tko, splice_full, plC]
  have hrev : p.reverse = dgAt p (p.length - 1) :: (p.take (p.length - 1)).reverse := by
    conv => lhs; rw [last_split (p := p) (by omega)]
    simp
  have hdl := dgs_len hp
  have hat := dgs_at hp (show p.length - 1 < p.length by omega)
  have hal := dgAt_len hp (show p.length - 1 < p.length by omega)
  have htk := dgs_take hp (p.length - 1)
  have e1 : ((p.length : Int) - 1).toNat = p.length - 1 := by omega
  have r16 : is16 (p.take (p.length - 1)) := is16_take hp _
  have rl : (p.take (p.length - 1)).length = p.length - 1 := by simp
  have b0 : ((p.length : Int) == 0) = false := beq_false_of_ne (by omega)
  have tkx := take_l16 hal
  rw [hrev]
  generalize hx : dgAt p (p.length - 1) = x at *
  generalize hq : p.take (p.length - 1) = q at *
  by_cases he : m = n
  · subst he
    have hwf : w = false := by
      cases w with
      | false => rfl
      | true => exact absurd ⟨rfl, rfl⟩ hw
    subst hwf
    have e : pinN m m false old (x :: q.reverse) = ([], x, x) := by
      rw [pinN, if_neg (by simp), if_pos rfl]
    rw [e, pinA]
    simp (maxSteps := 1000000) (disch := first | omega | (simp; done) | (simp; omega)) [W_id, bys_app, bys_snoc, f_custodyref08_PrefixInputs, f_custodyref08_PrefixInputs_r0, kT, kF, dT, dF, ho, tko, splice_full, b0, hdl, e1, hat, hal, tkx, htk, plC]
    omega
  have b1 : ((m : Int) == (n : Int)) = false := beq_false_of_ne (by omega)
  have hlt : m < n := by omega
  have hs := spl_lt (n := n) (by omega)
  have hs1 := spl_pos n
  have hst := spl_twice (n := n) (by omega)
  have sp : splC.pre [i64 n] = True := splC_pre (by omega) (by omega)
  have q16r := is16_rev r16
  have two : ∀ u v : List UInt8, u.length = 16 → v.length = 16 → (inpOf 2 [u, v]).length ≤ 51 := fun u v hu hv => by
    have := inq_len (t := 2) (is16_two hu hv)
    simp only [List.length_cons, List.length_nil] at this
    omega
  generalize hK : spl n = K at *
  by_cases hc : m ≤ K
  · have hci : (m : Int) ≤ (K : Int) := by omega
    have hp1 : (limC pinC pairMu k).pre [.agg (bys old), i64 m, i64 K, bo w, .sl .plain nl (p.length - 1) (bys (dgs q))] = True := eq_true ⟨of_eq_true (pinC_pre ho h1 hc (by omega) r16 (by omega) rl.symm rfl), by show p.length - 1 < k; omega⟩
    have hq1 : (limC pinC pairMu k).post [.agg (bys old), i64 m, i64 K, bo w, .sl .plain nl (p.length - 1) (bys (dgs q))] = pinA (pinN m K w old q.reverse) := pinC_post r16 rl.symm rfl
    rw [pinA] at hq1
    have e : pinN m n w old (x :: q.reverse) = ((pinN m K w old q.reverse).1 ++ [inpOf 2 [(pinN m K w old q.reverse).2.2, x]], (pinN m K w old q.reverse).2.1, shortB (inpOf 2 [(pinN m K w old q.reverse).2.2, x])) := by
      rw [pinN, if_neg hw, if_neg he, hK, if_pos hc]
    obtain ⟨t1, t2⟩ := pinN_len ho q.reverse m K w q16r
    have cnt := pinN_cnt (old := old) q.reverse m K w
    rw [e, pinA]
    generalize pinN m K w old q.reverse = T at *
    obtain ⟨L, u, v⟩ := T
    simp only at t1 t2 cnt hq1 ⊢
    have ty := two v x t2 hal
    have s1 : shortC.pre [.sl .plain (some false) (inpOf 2 [v, x]).length (bys (inpOf 2 [v, x]))] = True := short_pre rfl (by omega)
    have s2 : shortC.post [.sl .plain (some false) (inpOf 2 [v, x]).length (bys (inpOf 2 [v, x]))] = .agg (bys (shortB (inpOf 2 [v, x]))) := short_post _ _ _
    have i1 := inp_p2 (t := 2) (nl := some false) t2 hal
    have i2 := inp_q2 2 (some false) v x
    generalize hy : inpOf 2 [v, x] = y at *
    have s3 := shortB_len y
    generalize shortB y = z at *
    have ea : plC (L ++ [y]) = plC L ++ [.sl .plain (some false) y.length (bys y)] := (plC_app _ _).symm
    have eb : (L ++ [y]).length = L.length + 1 := by simp
    rw [ea, eb]
    have tk1 := take_l16 t1
    have tk2 := take_l16 t2
    have tk3 := take_l16 s3
    have bl := plC_len L
    have pb := pureL_plC L
    generalize plC L = bs at *
    rw [List.length_reverse, rl] at cnt
    simp (maxSteps := 1000000) (disch := first | omega | (simp; done) | (simp; omega)) [W_id, bys_app, bys_snoc, f_custodyref08_PrefixInputs, f_custodyref08_PrefixInputs_r0, f_custodyref08_PrefixInputs_r1, kT, kF, dT, dF, ho, tko, splice_full, b1, b0, hdl, e1, hat, hal, tkx, htk, h195, sp, hK, hci, h208, hp1, hq1, h23, text16_pre, h21, i1, i2, h28, s1, s2, s3, t1, t2, tk1, tk2, tk3, bl, pb]
    omega
  · have hci : ¬ (m : Int) ≤ (K : Int) := by omega
    have hsm : (m : Int) - (K : Int) = ((m - K : Nat) : Int) := by omega
    have hsn : (n : Int) - (K : Int) = ((n - K : Nat) : Int) := by omega
    have hp1 : (limC pinC pairMu k).pre [.agg (bys old), i64 (m - K : Nat), i64 (n - K : Nat), bo false, .sl .plain nl (p.length - 1) (bys (dgs q))] = True := eq_true ⟨of_eq_true (pinC_pre ho (by omega) (by omega) (by omega) r16 (by omega) rl.symm rfl), by show p.length - 1 < k; omega⟩
    have hq1 : (limC pinC pairMu k).post [.agg (bys old), i64 (m - K : Nat), i64 (n - K : Nat), bo false, .sl .plain nl (p.length - 1) (bys (dgs q))] = pinA (pinN (m - K) (n - K) false old q.reverse) := pinC_post r16 rl.symm rfl
    rw [pinA] at hq1
    have e : pinN m n w old (x :: q.reverse) = ((pinN (m - K) (n - K) false old q.reverse).1 ++ [inpOf 2 [x, (pinN (m - K) (n - K) false old q.reverse).2.1], inpOf 2 [x, (pinN (m - K) (n - K) false old q.reverse).2.2]], shortB (inpOf 2 [x, (pinN (m - K) (n - K) false old q.reverse).2.1]), shortB (inpOf 2 [x, (pinN (m - K) (n - K) false old q.reverse).2.2])) := by
      rw [pinN, if_neg hw, if_neg he, hK, if_neg hc]
    obtain ⟨t1, t2⟩ := pinN_len ho q.reverse (m - K) (n - K) false q16r
    have cnt := pinN_cnt (old := old) q.reverse (m - K) (n - K) false
    rw [e, pinA]
    generalize pinN (m - K) (n - K) false old q.reverse = T at *
    obtain ⟨L, u, v⟩ := T
    simp only at t1 t2 cnt hq1 ⊢
    have ty := two x u hal t1
    have ty' := two x v hal t2
    have s1 : shortC.pre [.sl .plain (some false) (inpOf 2 [x, u]).length (bys (inpOf 2 [x, u]))] = True := short_pre rfl (by omega)
    have s2 : shortC.post [.sl .plain (some false) (inpOf 2 [x, u]).length (bys (inpOf 2 [x, u]))] = .agg (bys (shortB (inpOf 2 [x, u]))) := short_post _ _ _
    have r1 : shortC.pre [.sl .plain (some false) (inpOf 2 [x, v]).length (bys (inpOf 2 [x, v]))] = True := short_pre rfl (by omega)
    have r2 : shortC.post [.sl .plain (some false) (inpOf 2 [x, v]).length (bys (inpOf 2 [x, v]))] = .agg (bys (shortB (inpOf 2 [x, v]))) := short_post _ _ _
    have i1 := inp_p2 (t := 2) (nl := some false) hal t1
    have i2 := inp_q2 2 (some false) x u
    have i3 := inp_p2 (t := 2) (nl := some false) hal t2
    have i4 := inp_q2 2 (some false) x v
    generalize hy : inpOf 2 [x, u] = y at *
    generalize hy' : inpOf 2 [x, v] = y' at *
    have s3 := shortB_len y
    have r3 := shortB_len y'
    generalize shortB y = z at *
    generalize shortB y' = z' at *
    have ea : plC (L ++ [y, y']) = plC L ++ [.sl .plain (some false) y.length (bys y), .sl .plain (some false) y'.length (bys y')] := (plC_app _ _).symm
    have eb : (L ++ [y, y']).length = L.length + 2 := by simp
    rw [ea, eb]
    have tk1 := take_l16 t1
    have tk2 := take_l16 t2
    have tk3 := take_l16 s3
    have tk4 := take_l16 r3
    have bl := plC_len L
    have pb := pureL_plC L
    generalize plC L = bs at *
    rw [List.length_reverse, rl] at cnt
    simp (maxSteps := 1000000) (disch := first | omega | (simp; done) | (simp; omega)) [W_id, bys_app, bys_snoc, f_custodyref08_PrefixInputs, f_custodyref08_PrefixInputs_r0, f_custodyref08_PrefixInputs_r1, f_custodyref08_PrefixInputs_r2, kT, kF, dT, dF, ho, tko, splice_full, b1, b0, hdl, e1, hat, hal, tkx, htk, h195, sp, hK, hci, hsm, hsn, h208, hp1, hq1, h23, text16_pre, h21, i1, i2, i3, i4, h28, s1, s2, s3, r1, r2, r3, t1, t2, tk1, tk2, tk3, tk4, bl, pb]
    omega
end Go.Abs
end
