/- Lemmas: an abstract interpreter, and what the functions compute. -/
import Derived.Test.YtcegicmamdabfaaDoorE
import Derived.Test.YtcegicmamdabfaaDoorH
set_option linter.unusedSimpArgs false
set_option linter.unusedVariables false
set_option linter.unusedSectionVars false
section
namespace Go.Abs
theorem digs_lt {n : Nat} (h0 : n ≠ 0) (h1 : n < 256) : digs n = [UInt8.ofNat n] := by rw [digs_pos h0, Nat.div_eq_of_lt h1, digs_zero]
theorem dig1 : digs 1 = [1] := digs_lt (by decide) (by decide)
theorem dig2 : digs 2 = [2] := digs_lt (by decide) (by decide)
theorem dig256 : digs 256 = [0, 1] := by rw [digs_pos (by decide), show 256 / 256 = 1 from rfl, dig1]; rfl
theorem enc0 : encI 0 = [128] := by simp [encI, mag, flp, digs_zero]
theorem enc1 : encI 1 = [129, 1] := by simp [encI, mag, flp, dig1]
theorem enc2 : encI 2 = [129, 2] := by simp [encI, mag, flp, dig2]
theorem encm1 : encI (-1) = [127] := by simp [encI, mag, flp, digs_zero]
theorem encm257 : encI (-257) = [125, 254, 255] := by simp [encI, mag, flp, dig256]
def exD : List UInt8 := [1, 2, 0, 0, 0, 0, 0, 0, 0, 0, 0, 0, 0, 0, 0, 0]
theorem x1 : getI [130, 1, 0, 9] = (256, 3, 0) := by decide
theorem x2 : getI [130, 1] = (0, 0, 5) := by decide
theorem x3 : getI [129, 0] = (0, 0, 6) := by decide
theorem x4 : getS [129, 2, 97, 98, 7] = ([97, 98], 4, 0) := by decide
theorem x5 : getLs getI 1 [129, 2, 129, 1, 127] = ([1, -1], 5, 0) := by decide
theorem x6 : getD16 (encDs 1 exD) = (exD, 18, 0) := by rw [encDs, show ((1 : Nat) : Int) = 1 from rfl, enc1]; decide
theorem x7 : getLs getS 1 [129, 2, 128, 129, 1, 97, 5] = ([[], [97]], 6, 0) := by decide
theorem x8 : encSs [[], [97]] = [129, 2, 128, 129, 1, 97] := by simp [encSs, encS, enc0, enc1, enc2]
theorem x9 : encS [97, 98] = [129, 2, 97, 98] := by simp [encS, enc2]
theorem x10 : encIs [1, -1] = [129, 2, 129, 1, 127] := by simp [encIs, enc1, enc2, encm1]
theorem f1 (x : UInt8) : [u8 x] = bys [x] := rfl
theorem f2 (x : UInt8) (l : List UInt8) : u8 x :: bys l = bys (x :: l) := rfl
theorem f3 (x : List UInt8) : [st x] = sts [x] := rfl
theorem f4 (x : List UInt8) (l : List (List UInt8)) : st x :: sts l = sts (x :: l) := rfl
theorem f5 (x : Int) : [i64 x] = ints [x] := rfl
theorem f6 (x : Int) (l : List Int) : i64 x :: ints l = ints (x :: l) := rfl
theorem splice_bb (l m : List UInt8) (n : Nat) : splice (bys l) n (bys m) = bys (l.take n ++ m ++ l.drop (n + m.length)) := by simp [splice, bys_append]
theorem splice_ss (l m : List (List UInt8)) (n : Nat) : splice (sts l) n (sts m) = sts (l.take n ++ m ++ l.drop (n + m.length)) := by simp [splice, sts_append]
theorem splice_ii (l m : List Int) (n : Nat) : splice (ints l) n (ints m) = ints (l.take n ++ m ++ l.drop (n + m.length)) := by simp [splice, ← ints_app]
def lawIT : Contract := trueC fun ds => ∃ n nl tail, isI64 n ∧ ds = [i64 n, .sl .plain nl tail.length (bys tail)]
def lawII : Contract := trueC fun ds => ∃ m n, isI64 m ∧ isI64 n ∧ ds = [i64 m, i64 n]
def lawB : Contract := trueC fun ds => ∃ (nl : Option Bool) (b : List UInt8), ds = [.sl .plain nl b.length (bys b)]
theorem encI_ne (n : Int) : (encI n).length ≠ 0 := by simp [encI]
theorem getL_len {α : Type} (f : List UInt8 → α × Nat × Nat) : ∀ (n : Nat) (b : List UInt8) (i : Nat), (getL f n b i).1.length ≤ n
  | 0, b, i => by simp [getL]
  | n + 1, b, i => by
    have := getL_len f n b (i + (f (b.drop i)).2.1)
    rw [getL]
    split
    · simp
    · split
      · simp
      · simp only [List.length_cons]; omega
theorem getLs_len {α : Type} (f : List UInt8 → α × Nat × Nat) (b : List UInt8) : (getLs f 1 b).1.length ≤ b.length := by
  unfold getLs
  rcases cnt_cases b 1 (by decide) with (hE | hE) | ⟨hE, n, u, hg, hu, hn, hu9⟩
  · rw [hE]; simp
  · rw [hE]; simp
  · rw [if_pos hE, hg]
    have := getL_len f n b u
    simp only [Int.toNat_natCast]
    omega
theorem getD16_len (b : List UInt8) : (getD16 b).1.length = (getD16 b).1.length / 16 * 16 ∧ (getD16 b).1.length ≤ b.length := by
  unfold getD16
  rcases cnt_cases b 16 (by decide) with (hE | hE) | ⟨hE, n, u, hg, hu, hn, hu9⟩
  · rw [hE]; simp
  · rw [hE]; simp
  · rw [if_pos hE, hg]
    have : ((b.drop u).take (n * 16)).length = n * 16 := by rw [List.length_take, List.length_drop, Nat.min_eq_left hn]
    simp only [Int.toNat_natCast, this]
    omega
end Go.Abs
end

section
namespace Go.Abs
theorem cnt_enc {n s : Nat} (hn : n ≤ 9223372036854775807) (hs : 0 < s) {r : List UInt8} (h : n * s ≤ r.length) : cntE (encI n ++ r) s = 0 ∧ getI (encI n ++ r) = ((n : Int), (encI n).length, 0) := by
  have hg := getI_enc (isI64_nat hn) r
  refine ⟨?_, hg⟩
  unfold cntE
  rw [hg]
  simp only [ne_eq, not_true_eq_false, if_false, Int.toNat_natCast, List.length_append, Nat.add_sub_cancel_left]
  rw [if_neg (by omega), if_neg]
  rw [Nat.not_lt, Nat.le_div_iff_mul_le hs]
  exact h
theorem getS_enc {s : List UInt8} (h : s.length ≤ 9223372036854775807) (r : List UInt8) : getS (encS s ++ r) = (s, (encS s).length, 0) := by
  obtain ⟨h1, h2⟩ := cnt_enc h (s := 1) (by decide) (r := s ++ r) (by simp)
  rw [encS, List.append_assoc, getS, if_pos h1, h2]
  simp only [Int.toNat_natCast, List.drop_left, List.take_left, List.length_append]
theorem getL_enc {α : Type} {f : List UInt8 → α × Nat × Nat} {enc : α → List UInt8} : ∀ (l : List α) (p r : List UInt8), (∀ x ∈ l, ∀ r, f (enc x ++ r) = (x, (enc x).length, 0)) →
    getL f l.length (p ++ (l.flatMap enc ++ r)) p.length = (l, p.length + (l.flatMap enc).length, 0)
  | [], p, r, _ => by simp [getL]
  | x :: l, p, r, h => by
    have h1 := h x (by simp) (l.flatMap enc ++ r)
    have ih := getL_enc l (p ++ enc x) r fun y hy => h y (by simp [hy])
    have e : p ++ ((x :: l).flatMap enc ++ r) = (p ++ enc x) ++ (l.flatMap enc ++ r) := by simp
    have e2 : (p ++ ((x :: l).flatMap enc ++ r)).drop p.length = enc x ++ (l.flatMap enc ++ r) := by rw [List.drop_left]; simp
    rw [List.length_append] at ih
    rw [List.length_cons, getL, e2, h1]
    simp only [ne_eq, not_true_eq_false, if_false]
    rw [e, ih]
    simp only [ne_eq, not_true_eq_false, if_false, List.flatMap_cons, List.length_append, Prod.mk.injEq, and_true, true_and]
    omega
theorem flat_len {α : Type} {enc : α → List UInt8} (h : ∀ x, 0 < (enc x).length) : ∀ l : List α, l.length ≤ (l.flatMap enc).length
  | [] => by simp
  | x :: l => by
    have := flat_len h l
    have := h x
    simp only [List.flatMap_cons, List.length_append, List.length_cons]; omega
theorem encI_pos (n : Int) : 0 < (encI n).length := by simp [encI]
theorem encS_pos (s : List UInt8) : 0 < (encS s).length := by have := encI_pos s.length; rw [encS, List.length_append]; omega
theorem getLs_enc {α : Type} {f : List UInt8 → α × Nat × Nat} {enc : α → List UInt8} {l : List α} (hp : ∀ x, 0 < (enc x).length) (hl : l.length ≤ 9223372036854775807) (h : ∀ x ∈ l, ∀ r, f (enc x ++ r) = (x, (enc x).length, 0)) (r : List UInt8) :
    getLs f 1 (encI l.length ++ l.flatMap enc ++ r) = (l, (encI l.length ++ l.flatMap enc).length, 0) := by
  have h0 := flat_len hp l
  obtain ⟨h1, h2⟩ := cnt_enc hl (s := 1) (by decide) (r := l.flatMap enc ++ r) (by simp only [List.length_append]; omega)
  rw [List.append_assoc, getLs, if_pos h1, h2, Int.toNat_natCast, getL_enc l (encI l.length) r h, List.length_append]
theorem getIs_enc {l : List Int} (hl : l.length ≤ 9223372036854775807) (h : ∀ x ∈ l, isI64 x) (r : List UInt8) : getLs getI 1 (encIs l ++ r) = (l, (encIs l).length, 0) :=
  getLs_enc encI_pos hl (fun x hx r => getI_enc (h x hx) r) r
theorem getSs_enc {l : List (List UInt8)} (hl : l.length ≤ 9223372036854775807) (h : ∀ x ∈ l, x.length ≤ 9223372036854775807) (r : List UInt8) : getLs getS 1 (encSs l ++ r) = (l, (encSs l).length, 0) :=
  getLs_enc encS_pos hl (fun x hx r => getS_enc (h x hx) r) r
theorem getDs_enc {n : Nat} {d : List UInt8} (hn : n ≤ 9223372036854775807) (hd : d.length = n * 16) (r : List UInt8) : getD16 (encDs n d ++ r) = (d, (encDs n d).length, 0) := by
  obtain ⟨h1, h2⟩ := cnt_enc hn (s := 16) (by decide) (r := d ++ r) (by simp only [List.length_append]; omega)
  rw [encDs, List.append_assoc, getD16, if_pos h1, h2]
  simp only [Int.toNat_natCast, List.drop_left, List.length_append, hd]
  rw [← hd, List.take_left]
def lawSL : Contract := trueC fun ds => ∃ (s : List UInt8) (nl : Option Bool) (l : List Int), s.length ≤ 2000000 ∧ l.length ≤ 2000000 ∧ (∀ x ∈ l, isI64 x) ∧ ds = [st s, .sl .plain nl l.length (ints l)]
theorem encS_le {s : List UInt8} (h : s.length ≤ 9223372036854775807) : (encS s).length ≤ s.length + 9 := by
  have := encI_len (isI64_nat h)
  rw [encS, List.length_append]; omega
theorem encIs_len {l : List Int} (h : ∀ x ∈ l, isI64 x) (hl : l.length ≤ 9223372036854775807) : (encIs l).length ≤ 9 * l.length + 9 := by
  have h1 := encI_len (isI64_nat hl)
  have h2 := len_flatMap_encI h
  rw [encIs, List.length_append]; omega
def few1 (x : List (List UInt8)) : Nat := (x.map fun s => s.length + 1).sum
def lensS (x : List (List UInt8)) : Nat := (x.map List.length).sum
theorem few1_eq (x : List (List UInt8)) : few1 x = x.length + lensS x := by
  induction x with
  | nil => rfl
  | cons s x ih => simp only [few1, lensS, List.map_cons, List.sum_cons, List.length_cons] at ih ⊢; omega
theorem totS_few (x : List (List UInt8)) : totS x ≤ 9 * few1 x := by
  induction x with
  | nil => simp [totS, few1]
  | cons s x ih => simp only [few1, totS, List.map_cons, List.sum_cons] at ih ⊢; omega
theorem lensS_take {x : List (List UInt8)} {i : Nat} (h : i < x.length) : lensS (x.take (i + 1)) = lensS (x.take i) + (atS x i).length := by
  rw [takeS h, lensS, lensS, List.map_append, List.sum_append]; simp
theorem lensS_take_le (x : List (List UInt8)) (i : Nat) : lensS (x.take i) ≤ lensS x := by
  have : lensS x = lensS (x.take i) + lensS (x.drop i) := by
    rw [lensS, lensS, lensS, ← List.sum_append, ← List.map_append, List.take_append_drop]
  omega
def fewsC : Contract := ⟨fun ds => ∃ nl x, few1 x ≤ 100000000 ∧ ds = [.sl .plain nl x.length (sts x)], fun ds => bo (decide (few1 (gSs (gCs (nth ds 0))) ≤ 2000))⟩
theorem fews_pre {nl : Option Bool} {n : Nat} {x : List (List UInt8)} (h : few1 x ≤ 100000000) (hn : n = x.length) : fewsC.pre [.sl .plain nl n (sts x)] = True := by
  subst hn; exact eq_true ⟨nl, x, h, rfl⟩
@[simp] theorem fews_post (m : Mode) (nl : Option Bool) (n : Nat) (x : List (List UInt8)) : fewsC.post [.sl m nl n (sts x)] = bo (decide (few1 x ≤ 2000)) := by simp [fewsC]
def lawE5 : Contract := trueC fun ds => ∃ (n : Int) (s : List UInt8) (nl nx nd : Option Bool) (l : List Int) (x : List (List UInt8)) (k : Nat) (d : List UInt8), isI64 n ∧ s.length ≤ 2000000 ∧ l.length ≤ 2000000 ∧ (∀ y ∈ l, isI64 y) ∧ few1 x ≤ 2000000 ∧ k ≤ 2000000 ∧ d.length = k * 16 ∧
  ds = [i64 n, st s, .sl .plain nl l.length (ints l), .sl .plain nx x.length (sts x), .sl .plain nd k (bys d)]
theorem encSs_len {x : List (List UInt8)} (h : few1 x ≤ 100000000) : (encSs x).length ≤ 9 * few1 x + 9 := by
  have h0 := few1_eq x
  have h1 := encI_len (isI64_nat (n := x.length) (by omega))
  have h2 := totS_few x
  have h3 := len_flatMap_encS (l := x) (by omega)
  rw [encSs, List.length_append]; omega
theorem encDs_len {k : Nat} {d : List UInt8} (h : k ≤ 9223372036854775807) : (encDs k d).length ≤ d.length + 9 := by
  have h1 := encI_len (isI64_nat h)
  rw [encDs, List.length_append]; omega
end Go.Abs
end

section
namespace Go.Abs
theorem getL_ok {α : Type} {f : List UInt8 → α × Nat × Nat} {enc : α → List UInt8} {P : α → Prop} (hf : ∀ c, (f c).2.2 = 0 → (f c).2.1 ≤ c.length ∧ c.take (f c).2.1 = enc (f c).1 ∧ P (f c).1) :
    ∀ (n : Nat) (b : List UInt8) (i : Nat), i ≤ b.length → (getL f n b i).2.2 = 0 →
      i ≤ (getL f n b i).2.1 ∧ (getL f n b i).2.1 ≤ b.length ∧ (getL f n b i).1.length = n ∧ (b.drop i).take ((getL f n b i).2.1 - i) = (getL f n b i).1.flatMap enc ∧ ∀ x ∈ (getL f n b i).1, P x
  | 0, b, i, hi, _ => by simp [getL, hi]
  | n + 1, b, i, hi, h => by
    rw [getL] at h ⊢
    by_cases h1 : (f (b.drop i)).2.2 = 0
    · rw [if_neg (by simpa using h1)] at h ⊢
      obtain ⟨k1, k2, k3⟩ := hf _ h1
      rw [List.length_drop] at k1
      by_cases h2 : (getL f n b (i + (f (b.drop i)).2.1)).2.2 = 0
      · rw [if_neg (by simpa using h2)]
        obtain ⟨j1, j2, j3, j4, j5⟩ := getL_ok hf n b (i + (f (b.drop i)).2.1) (by omega) h2
        simp only
        refine ⟨by omega, j2, by simp [j3], ?_, fun x hx => ?_⟩
        · generalize (getL f n b (i + (f (b.drop i)).2.1)).2.1 = w at *
          rw [List.flatMap_cons, ← j4, ← k2, show w - i = (f (b.drop i)).2.1 + (w - (i + (f (b.drop i)).2.1)) by omega, List.take_add, List.drop_drop]
        · rcases List.mem_cons.1 hx with rfl | hx
          · exact k3
          · exact j5 x hx
      · rw [if_pos h2] at h
        exact absurd h h2
    · rw [if_pos h1] at h
      exact absurd h h1
theorem getLs_ok {α : Type} {f : List UInt8 → α × Nat × Nat} {enc : α → List UInt8} {P : α → Prop} (hf : ∀ c, (f c).2.2 = 0 → (f c).2.1 ≤ c.length ∧ c.take (f c).2.1 = enc (f c).1 ∧ P (f c).1) {b : List UInt8} (h : (getLs f 1 b).2.2 = 0) :
    (getLs f 1 b).2.1 ≤ b.length ∧ b.take (getLs f 1 b).2.1 = encI (getLs f 1 b).1.length ++ (getLs f 1 b).1.flatMap enc ∧ ∀ x ∈ (getLs f 1 b).1, P x := by
  unfold getLs at h ⊢
  rcases cnt_cases b 1 (by decide) with (hE | hE) | ⟨hE, n, u, hg, hu, hn, hu9⟩
  · rw [hE] at h; simp at h
  · rw [hE] at h; simp at h
  · rw [if_pos hE, hg] at h ⊢
    simp only [Int.toNat_natCast] at h ⊢
    obtain ⟨j1, j2, j3, j4, j5⟩ := getL_ok hf n b u hu h
    obtain ⟨e1, e2, e3, e4⟩ := getI_ok hg
    refine ⟨j2, ?_, j5⟩
    rw [j3, ← e3, ← j4]
    generalize (getL f n b u).2.1 = w at *
    rw [show w = u + (w - u) by omega, List.take_add, show u + (w - u) - u = w - u by omega]
theorem getI_ok' (c : List UInt8) (h : (getI c).2.2 = 0) : (getI c).2.1 ≤ c.length ∧ c.take (getI c).2.1 = encI (getI c).1 ∧ isI64 (getI c).1 := by
  obtain ⟨n, u, e⟩ : ∃ n u, getI c = (n, u, 0) := ⟨_, _, Prod.ext rfl (Prod.ext rfl h)⟩
  obtain ⟨e1, e2, e3, e4⟩ := getI_ok e
  rw [e]; exact ⟨e2, e3, e1⟩
theorem getS_ok' (c : List UInt8) (h : (getS c).2.2 = 0) : (getS c).2.1 ≤ c.length ∧ c.take (getS c).2.1 = encS (getS c).1 ∧ (getS c).1.length ≤ c.length := by
  refine ⟨(getS_used c).1, ?_, (getS_used c).2⟩
  unfold getS at h ⊢
  rcases cnt_cases c 1 (by decide) with (hE | hE) | ⟨hE, n, u, hg, hu, hn, hu9⟩
  · rw [hE] at h; simp at h
  · rw [hE] at h; simp at h
  · rw [if_pos hE, hg]
    obtain ⟨e1, e2, e3, e4⟩ := getI_ok hg
    simp only [Int.toNat_natCast]
    rw [encS, List.length_take, List.length_drop, Nat.min_eq_left (by omega), ← e3, List.take_add]
theorem getD_ok' (c : List UInt8) (h : (getD16 c).2.2 = 0) : (getD16 c).2.1 ≤ c.length ∧ c.take (getD16 c).2.1 = encDs ((getD16 c).1.length / 16) (getD16 c).1 := by
  unfold getD16 at h ⊢
  rcases cnt_cases c 16 (by decide) with (hE | hE) | ⟨hE, n, u, hg, hu, hn, hu9⟩
  · rw [hE] at h; simp at h
  · rw [hE] at h; simp at h
  · rw [if_pos hE, hg]
    obtain ⟨e1, e2, e3, e4⟩ := getI_ok hg
    simp only [Int.toNat_natCast]
    refine ⟨by omega, ?_⟩
    rw [encDs, List.length_take, List.length_drop, Nat.min_eq_left hn, Nat.mul_div_cancel _ (by decide), ← e3, List.take_add]
theorem totS_enc : ∀ l : List (List UInt8), totS l ≤ 9 * (l.flatMap encS).length
  | [] => by simp [totS]
  | s :: l => by
    have := totS_enc l
    have h := encI_pos s.length
    simp only [totS, List.map_cons, List.sum_cons, List.flatMap_cons, List.length_append, encS] at this ⊢
    omega
theorem getSs_ok {b : List UInt8} (h : (getLs getS 1 b).2.2 = 0) : (getLs getS 1 b).2.1 ≤ b.length ∧ b.take (getLs getS 1 b).2.1 = encI (getLs getS 1 b).1.length ++ (getLs getS 1 b).1.flatMap encS ∧ ∀ x ∈ (getLs getS 1 b).1, True :=
  getLs_ok (enc := encS) (P := fun _ => True) (fun c hc => ⟨(getS_ok' c hc).1, (getS_ok' c hc).2.1, trivial⟩) h
/-- Whatever is decoded may be encoded. -/
theorem getIs_mem (b : List UInt8) : ∀ x ∈ (getLs getI 1 b).1, isI64 x := by
  by_cases h : (getLs getI 1 b).2.2 = 0
  · exact (getLs_ok getI_ok' h).2.2
  · have : (getLs getI 1 b).1 = [] := by
      unfold getLs at h ⊢
      split
      · rename_i hE
        rw [if_pos hE] at h
        rcases getL_err getI (getI b).1.toNat b (getI b).2.1 with e | e
        · exact absurd e h
        · rw [e]
      · rfl
    rw [this]; simp
theorem getSs_tot (b : List UInt8) : totS (getLs getS 1 b).1 ≤ 9 * b.length := by
  by_cases h : (getLs getS 1 b).2.2 = 0
  · obtain ⟨h1, h2, h3⟩ := getSs_ok h
    have := totS_enc (getLs getS 1 b).1
    have hl := congrArg List.length h2
    rw [List.length_take, List.length_append] at hl
    omega
  · have : (getLs getS 1 b).1 = [] := by
      unfold getLs at h ⊢
      split
      · rename_i hE
        rw [if_pos hE] at h
        rcases getL_err getS (getI b).1.toNat b (getI b).2.1 with e | e
        · exact absurd e h
        · rw [e]
      · rfl
    rw [this]; simp [totS]
def isV (c : List UInt8) (u : Int) (e : Int) (b : List UInt8) : Bool := e != 0 || (decide (0 ≤ u) && decide (u ≤ b.length) && c == b.take u.toNat)
def isC : Contract := ⟨fun ds => ∃ (nc nl : Option Bool) (c b : List UInt8) (u e : Int), c.length ≤ 1000000000 ∧ b.length ≤ 1000000000 ∧ ds = [.sl .plain nc c.length (bys c), i64 u, i64 e, .ep [.sl .plain nl b.length (bys b)]],
  fun ds => bo (isV (gBs (gCs (nth ds 0))) (asI (nth ds 1)) (asI (nth ds 2)) (gBs (gCs (hdA (gCs (nth ds 3))))))⟩
theorem is_pre {nc nl : Option Bool} {k n : Nat} {c b : List UInt8} {u e : Int} (hc : c.length ≤ 1000000000) (hb : b.length ≤ 1000000000) (hk : k = c.length) (hn : n = b.length) : isC.pre [.sl .plain nc k (bys c), i64 u, i64 e, .ep [.sl .plain nl n (bys b)]] = True := by
  subst hk; subst hn; exact eq_true ⟨nc, nl, c, b, u, e, hc, hb, rfl⟩
@[simp] theorem is_post (m m' : Mode) (nc nl : Option Bool) (k n : Nat) (c b : List UInt8) (u e : Int) : isC.post [.sl m nc k (bys c), i64 u, i64 e, .ep [.sl m' nl n (bys b)]] = bo (isV c u e b) := by simp [isC]
theorem isV_of {c b : List UInt8} {u e : Nat} (h : e = 0 → u ≤ b.length ∧ b.take u = c) : isV c u e b = true := by
  unfold isV
  by_cases he : e = 0
  · obtain ⟨h1, h2⟩ := h he
    subst h2
    have : (decide ((0 : Int) ≤ u) && decide ((u : Int) ≤ b.length)) = true := by simp; omega
    rw [this]; simp
  · have : ((e : Int) != 0) = true := by simp [he]
    rw [this]; simp
end Go.Abs
end

section
namespace Go.Abs
theorem ints_ok (E : Env) (h12 : E.G 12 = intC) : ∀ ds, wIntsC.pre ds → ds.length = f_wire_Ints.n ∧ awp E f_wire_Ints.body (retQ f_wire_Ints.res (wIntsC.post ds)) (initSt f_wire_Ints.wr ds) := by
  rintro _ ⟨nl, l, hl, hm, rfl⟩
  rw [wIntsC, onIs_post]
  have hi0 := encI_len (n := l.length) (isI64_nat (by omega))
  simp (maxSteps := 1000000) (disch := first | omega | (simp; done) | (simp; omega)) [W_id, bys_app, bys_snoc, f_wire_Ints, h12, int_pre]
  refine awp_name fun Q0 hQ0 => ?_
  refine awp_for (fun i : Nat => ⟨[(0, .sl .plain nl l.length (ints l))], [(3, .sl (.own 1) (some false) (encI l.length ++ (l.take i).flatMap encI).length (bys (encI l.length ++ (l.take i).flatMap encI))), (9, .sl .plain nl l.length (ints l)), (10, i64 l.length), (11, i64 i)], []⟩) (fun i => l.length - i) (· ≤ l.length) 0 (by simp) (by simp) fun i hi => ?_
  refine awp_name fun Q1 hQ1 => ?_
  simp (maxSteps := 1000000) (disch := first | omega | (simp; done) | (simp; omega)) [W_id, bys_app, bys_snoc, f_wire_Ints_l0, -List.length_flatMap]
  rw [awp_cond]
  refine ⟨by simp, fun h1 => ?_, fun h1 => ?_⟩ <;> simp at h1
  · have h1' : i < l.length := by omega
    have hs := flatMap_take_succ l encI 0 h1'
    rw [show l.getD i 0 = atI l i from rfl] at hs
    obtain ⟨g0, g1⟩ := hm _ (atI_mem h1')
    have g2 := encI_len (hm _ (atI_mem h1'))
    have g3 := len_flatMap_encI (l := l.take i) fun x hx => hm x (List.mem_of_mem_take hx)
    rw [List.length_take] at g3
    generalize hF : (l.take i).flatMap encI = F at *
    generalize hX : atI l i = x at *
    simp (maxSteps := 1000000) (disch := first | omega | (simp; done) | (simp; omega)) [W_id, bys_app, bys_snoc, f_wire_Ints_r0, hd_ints, hX, h12, int_pre, hQ1, -List.length_flatMap]
    refine ⟨by omega, by omega, by omega, i + 1, by omega, by omega, ⟨?_, hs.symm⟩, by simp⟩
    rw [hs, List.length_append]; omega
  · have e : i = l.length := by omega
    subst e
    simp (maxSteps := 1000000) (disch := first | omega | (simp; done) | (simp; omega)) [W_id, bys_app, bys_snoc, hQ1, hQ0, f_wire_Ints_r1, own1, encIs, -List.length_flatMap]
theorem rints_ok (E : Env) (h30 : E.G 30 = rintC) : ∀ ds, rIntsC.pre ds → ds.length = f_custodyref01_Ints.n ∧ awp E f_custodyref01_Ints.body (retQ f_custodyref01_Ints.res (rIntsC.post ds)) (initSt f_custodyref01_Ints.wr ds) := by
  rintro _ ⟨nl, l, hl, hm, rfl⟩
  rw [rIntsC, onIs_post]
  have hi0 := encI_len (n := l.length) (isI64_nat (by omega))
  simp (maxSteps := 1000000) (disch := first | omega | (simp; done) | (simp; omega)) [W_id, bys_app, bys_snoc, f_custodyref01_Ints, h30, rint_pre]
  refine awp_name fun Q0 hQ0 => ?_
  refine awp_for (fun i : Nat => ⟨[(0, .sl .plain nl l.length (ints l))], [(3, .sl (.own 1) none (encI l.length ++ (l.take i).flatMap encI).length (bys (encI l.length ++ (l.take i).flatMap encI))), (4, i64 i)], []⟩) (fun i => l.length - i) (· ≤ l.length) 0 (by simp) (by simp) fun i hi => ?_
  refine awp_name fun Q1 hQ1 => ?_
  simp (maxSteps := 1000000) (disch := first | omega | (simp; done) | (simp; omega)) [W_id, bys_app, bys_snoc, f_custodyref01_Ints_l0, -List.length_flatMap]
  rw [awp_cond]
  refine ⟨by simp, fun h1 => ?_, fun h1 => ?_⟩ <;> simp at h1
  · have h1' : i < l.length := by omega
    have hs := flatMap_take_succ l encI 0 h1'
    rw [show l.getD i 0 = atI l i from rfl] at hs
    obtain ⟨g0, g1⟩ := hm _ (atI_mem h1')
    have g2 := encI_len (hm _ (atI_mem h1'))
    have g3 := len_flatMap_encI (l := l.take i) fun x hx => hm x (List.mem_of_mem_take hx)
    rw [List.length_take] at g3
    generalize hF : (l.take i).flatMap encI = F at *
    generalize hX : atI l i = x at *
    simp (maxSteps := 1000000) (disch := first | omega | (simp; done) | (simp; omega)) [W_id, bys_app, bys_snoc, f_custodyref01_Ints_r0, hd_ints, hX, h30, rint_pre, hQ1, -List.length_flatMap]
    refine ⟨by omega, by omega, by omega, i + 1, by omega, by omega, ⟨?_, hs.symm⟩, by simp⟩
    rw [hs, List.length_append]; omega
  · have e : i = l.length := by omega
    subst e
    simp (maxSteps := 1000000) (disch := first | omega | (simp; done) | (simp; omega)) [W_id, bys_app, bys_snoc, hQ1, hQ0, f_custodyref01_Ints_r1, own1, encIs, -List.length_flatMap]
theorem strs_ok (E : Env) (h12 : E.G 12 = intC) (h7 : E.G 7 = bytesC) : ∀ ds, wStrsC.pre ds → ds.length = f_wire_Strings.n ∧ awp E f_wire_Strings.body (retQ f_wire_Strings.res (wStrsC.post ds)) (initSt f_wire_Strings.wr ds) := by
  rintro _ ⟨nl, l, ht, rfl⟩
  have hl := len_le_totS l
  rw [wStrsC, onSs_post]
  have hi0 := encI_len (n := l.length) (isI64_nat (by omega))
  simp (maxSteps := 1000000) (disch := first | omega | (simp; done) | (simp; omega)) [W_id, bys_app, bys_snoc, f_wire_Strings, h12, int_pre]
  refine awp_name fun Q0 hQ0 => ?_
  refine awp_for (fun i : Nat => ⟨[(0, .sl .plain nl l.length (sts l))], [(3, .sl (.own 1) (some false) (encI l.length ++ (l.take i).flatMap encS).length (bys (encI l.length ++ (l.take i).flatMap encS))), (9, .sl .plain nl l.length (sts l)), (10, i64 l.length), (11, i64 i)], []⟩) (fun i => l.length - i) (· ≤ l.length) 0 (by simp) (by simp) fun i hi => ?_
  refine awp_name fun Q1 hQ1 => ?_
  simp (maxSteps := 1000000) (disch := first | omega | (simp; done) | (simp; omega)) [W_id, bys_app, bys_snoc, f_wire_Strings_l0, -List.length_flatMap]
  rw [awp_cond]
  refine ⟨by simp, fun h1 => ?_, fun h1 => ?_⟩ <;> simp at h1
  · have h1' : i < l.length := by omega
    have hs := flatMap_take_succ l encS [] h1'
    rw [show l.getD i [] = atS l i from rfl] at hs
    have g0 := atS_mem_tot h1'
    have g2 : (encS (atS l i)).length ≤ (atS l i).length + 9 := by
      have := encI_len (n := (atS l i).length) (isI64_nat (by omega))
      rw [encS, List.length_append]; omega
    have g3 := len_flatMap_encS (l := l.take i) (by have := totS_take l i; omega)
    have g4 := totS_take l i
    generalize hF : (l.take i).flatMap encS = F at *
    generalize hX : atS l i = x at *
    simp (maxSteps := 1000000) (disch := first | omega | (simp; done) | (simp; omega)) [W_id, bys_app, bys_snoc, f_wire_Strings_r0, hd_sts, hX, h7, bytes_pre, hQ1, -List.length_flatMap]
    refine ⟨by omega, by omega, by omega, i + 1, by omega, by omega, ⟨?_, hs.symm⟩, by simp⟩
    rw [hs, List.length_append]; omega
  · have e : i = l.length := by omega
    subst e
    simp (maxSteps := 1000000) (disch := first | omega | (simp; done) | (simp; omega)) [W_id, bys_app, bys_snoc, hQ1, hQ0, f_wire_Strings_r1, own1, encSs, -List.length_flatMap]
theorem rstrs_ok (E : Env) (h30 : E.G 30 = rintC) (h29 : E.G 29 = rbytesC) : ∀ ds, rStrsC.pre ds → ds.length = f_custodyref01_Strings.n ∧ awp E f_custodyref01_Strings.body (retQ f_custodyref01_Strings.res (rStrsC.post ds)) (initSt f_custodyref01_Strings.wr ds) := by
  rintro _ ⟨nl, l, ht, rfl⟩
  have hl := len_le_totS l
  rw [rStrsC, onSs_post]
  have hi0 := encI_len (n := l.length) (isI64_nat (by omega))
  simp (maxSteps := 1000000) (disch := first | omega | (simp; done) | (simp; omega)) [W_id, bys_app, bys_snoc, f_custodyref01_Strings, h30, rint_pre]
  refine awp_name fun Q0 hQ0 => ?_
  refine awp_for (fun i : Nat => ⟨[(0, .sl .plain nl l.length (sts l))], [(3, .sl (.own 1) none (encI l.length ++ (l.take i).flatMap encS).length (bys (encI l.length ++ (l.take i).flatMap encS))), (4, i64 i)], []⟩) (fun i => l.length - i) (· ≤ l.length) 0 (by simp) (by simp) fun i hi => ?_
  refine awp_name fun Q1 hQ1 => ?_
  simp (maxSteps := 1000000) (disch := first | omega | (simp; done) | (simp; omega)) [W_id, bys_app, bys_snoc, f_custodyref01_Strings_l0, -List.length_flatMap]
  rw [awp_cond]
  refine ⟨by simp, fun h1 => ?_, fun h1 => ?_⟩ <;> simp at h1
  · have h1' : i < l.length := by omega
    have hs := flatMap_take_succ l encS [] h1'
    rw [show l.getD i [] = atS l i from rfl] at hs
    have g0 := atS_mem_tot h1'
    have g2 : (encS (atS l i)).length ≤ (atS l i).length + 9 := by
      have := encI_len (n := (atS l i).length) (isI64_nat (by omega))
      rw [encS, List.length_append]; omega
    have g3 := len_flatMap_encS (l := l.take i) (by have := totS_take l i; omega)
    have g4 := totS_take l i
    generalize hF : (l.take i).flatMap encS = F at *
    generalize hX : atS l i = x at *
    simp (maxSteps := 1000000) (disch := first | omega | (simp; done) | (simp; omega)) [W_id, bys_app, bys_snoc, f_custodyref01_Strings_r0, hd_sts, hX, h29, rbytes_pre, hQ1, -List.length_flatMap]
    refine ⟨by omega, by omega, by omega, i + 1, by omega, by omega, ⟨?_, hs.symm⟩, by simp⟩
    rw [hs, List.length_append]; omega
  · have e : i = l.length := by omega
    subst e
    simp (maxSteps := 1000000) (disch := first | omega | (simp; done) | (simp; omega)) [W_id, bys_app, bys_snoc, hQ1, hQ0, f_custodyref01_Strings_r1, own1, encSs, -List.length_flatMap]
end Go.Abs
end
