/- Lemmas: an abstract interpreter, and what the functions compute. -/
import Derived.Test.YtigghpdomoedhaaDoorL
import Derived.Test.YtigghpdomoedhaaDoorT
set_option linter.unusedSimpArgs false
set_option linter.unusedVariables false
set_option linter.unusedSectionVars false
section
namespace Go.Abs
set_option maxRecDepth 100000
def ownK (l : List KeyR) : AVal := .sl (.own 9) none l.length (keysL l)
def gKs (d : AVal) : List KeyR := gKeys (gSn d) (gCs d)
theorem keysL_pc (l : List KeyR) : ∀ c ∈ keysL l, pureB c = true ∧ isCell c := fun c hc => ⟨(pureL_iff _).1 (keysL_pure l) c hc, by
  obtain ⟨k, hk⟩ := keysL_mem hc
  exact (keyL_cell k).2 trivial c hk⟩
def cloKC : Contract := ⟨fun ds => ∃ (nl : Option Bool) (l : List KeyR), kLen l ∧ ds = [keysA nl l], fun ds => ownK (gKs (nth ds 0))⟩
theorem cloK_pre {nl : Option Bool} {l : List KeyR} (h : kLen l) : cloKC.pre [.sl .plain nl l.length (keysL l)] = True := eq_true ⟨nl, l, h, rfl⟩
theorem cloK_post (nl : Option Bool) (l : List KeyR) : cloKC.post [.sl .plain nl l.length (keysL l)] = .sl (.own 9) none l.length (keysL l) := by
  show ownK (gKeys l.length (keysL l)) = _
  rw [gKeys_keysL]; rfl
def cloKN : Contract := ⟨fun ds => cloKC.pre ds ∧ ∀ d, ds[0]? = some d → okNil d, cloKC.post⟩
set_option maxHeartbeats 4000000 in
theorem cloK_ok (E : Env) : ∀ ds, cloKN.pre ds → ds.length = f_slices_Clone.n ∧ awp E f_slices_Clone.body (retQ f_slices_Clone.res (cloKN.post ds)) (initSt f_slices_Clone.wr ds) := by
  rintro _ ⟨⟨nl, l, hn, rfl⟩, hk⟩
  have hk := hk _ rfl
  have hn : l.length ≤ 100000000 := hn
  rw [show cloKN.post [keysA nl l] = ownK l from cloK_post nl l]
  unfold keysA at *
  match nl, hk with
  | some true, hk =>
    have h0 : l = [] := List.length_eq_zero_iff.1 hk.1
    subst h0
    simp (maxSteps := 1000000) (disch := first | omega | (simp; done) | (simp; omega)) [W_id, bys_app, bys_snoc, f_slices_Clone, ownK, kT]
    rfl
  | some false, _ =>
    simp (maxSteps := 1000000) (disch := first | omega | (simp; done) | (simp; omega)) [W_id, bys_app, bys_snoc, f_slices_Clone, f_slices_Clone_r0, ownK, kF]
    exact ⟨by omega, by omega, keysL_pc l⟩
theorem cloK_nil : ∀ ds d b, cloKC.pre ds → ds[0]? = some d → cloKC.pre (ds.set 0 (nilV b d)) ∧ cloKC.post (ds.set 0 (nilV b d)) = cloKC.post ds := by
  rintro _ d b ⟨nl, l, hn, rfl⟩ hd
  simp only [List.getElem?_cons_zero, Option.some.injEq] at hd
  subst hd
  cases nl with
  | none => exact ⟨⟨some b, l, hn, rfl⟩, rfl⟩
  | some c => exact ⟨⟨some c, l, hn, rfl⟩, rfl⟩
def clipC : Contract := ⟨cloKC.pre, fun ds => match nth ds 0 with | .sl _ nl n cs => .sl .clip nl n cs | d => d⟩
theorem clip_pre {nl : Option Bool} {l : List KeyR} (h : kLen l) : clipC.pre [.sl .plain nl l.length (keysL l)] = True := eq_true ⟨nl, l, h, rfl⟩
theorem clip_post (nl : Option Bool) (l : List KeyR) : clipC.post [.sl .plain nl l.length (keysL l)] = .sl .clip nl l.length (keysL l) := rfl
theorem keysL_all (l : List KeyR) : (keysL l).take (l.length * 9) = keysL l := by rw [keysL_take, List.take_length]
theorem clip_ok (E : Env) : ∀ ds, clipC.pre ds → ds.length = f_slices_Clip.n ∧ awp E f_slices_Clip.body (retQ f_slices_Clip.res (clipC.post ds)) (initSt f_slices_Clip.wr ds) := by
  rintro _ ⟨nl, l, hn, rfl⟩
  have hn : l.length ≤ 100000000 := hn
  rw [show clipC.post [keysA nl l] = .sl .clip nl l.length (keysL l) from clip_post nl l]
  unfold keysA at *
  simp (maxSteps := 1000000) (disch := first | omega | (simp; done) | (simp; omega)) [W_id, bys_app, bys_snoc, f_slices_Clip, kT, keysL_all]
  skip
end Go.Abs
end

section
namespace Go.Abs
def thB (b i id : Nat) (x : Option (List AVal)) (box : List (Nat × Option (List AVal))) : List (Nat × Option (List AVal)) :=
  match x with | some bs => (match bs.getD i .undef with | .sl (.own e) _ n cs => (b, some (bs.set i (.bv id e 0 n n))) :: (id, some cs) :: box | _ => box) | none => box
@[simp] theorem thawB_mk (b i id : Nat) (o e : List (Nat × AVal)) (box : List (Nat × Option (List AVal))) : runGhost (.thawB b i id) ⟨o, e, box⟩ = ⟨o, e, thB b i id (ASt.getB ⟨o, e, box⟩ b) box⟩ := by
  simp only [runGhost, thB]
  split
  · split <;> simp_all
  · simp_all
@[simp] theorem thB_two (b id e n : Nat) (nl : Option Bool) (a : AVal) (cs : List AVal) (box : List (Nat × Option (List AVal))) : thB b 1 id (some [a, .sl (.own e) nl n cs]) box = (b, some [a, .bv id e 0 n n]) :: (id, some cs) :: box := rfl
def thS (s id : Nat) (d : AVal) (st : ASt) : ASt := match d with | .sl (.own e) _ n cs => { st with env := (s, .bv id e 0 n n) :: st.env, box := (id, some cs) :: st.box } | _ => st
@[simp] theorem thaw_mk (s id : Nat) (o e : List (Nat × AVal)) (box : List (Nat × Option (List AVal))) : runGhost (.thaw s id) ⟨o, e, box⟩ = thS s id (ASt.get ⟨o, e, box⟩ s) ⟨o, e, box⟩ := rfl
@[simp] theorem thS_own (s id k n : Nat) (nl : Option Bool) (cs : List AVal) (o e : List (Nat × AVal)) (box : List (Nat × Option (List AVal))) : thS s id (.sl (.own k) nl n cs) ⟨o, e, box⟩ = ⟨o, (s, .bv id k 0 n n) :: e, (id, some cs) :: box⟩ := rfl
@[simp] theorem frmT_bp (id o : Nat) : frmT (.bp id o) = true := rfl
@[simp] theorem frmT_undef : frmT .undef = true := rfl
@[simp] theorem frmT_lit (v : Value) : frmT (.lit v) = true := rfl
@[simp] theorem frmT_bv (id e o n c : Nat) : frmT (.bv id e o n c) = true := rfl
@[simp] theorem keyL_deep (ids : List Nat) (bx : Nat → List AVal) (k : KeyR) : deepL ids bx (keyL k) = keyL k := rfl
theorem deepL_app (ids : List Nat) (bx : Nat → List AVal) : ∀ a b : List AVal, deepL ids bx (a ++ b) = deepL ids bx a ++ deepL ids bx b
  | [], b => rfl
  | x :: a, b => by show deep ids bx x :: deepL ids bx (a ++ b) = _; rw [deepL_app ids bx a b]; rfl
@[simp] theorem keysL_deep (ids : List Nat) (bx : Nat → List AVal) : ∀ l : List KeyR, deepL ids bx (keysL l) = keysL l
  | [] => rfl
  | k :: l => by rw [keysL_cons, deepL_app, keyL_deep, keysL_deep ids bx l]
theorem keyL_frm (k : KeyR) : ∀ c ∈ keyL k, frmT c = true := by
  intro c hc
  simp only [keyL, List.mem_cons, List.not_mem_nil, or_false] at hc
  rcases hc with rfl | rfl | rfl | rfl | rfl | rfl | rfl | rfl | rfl <;> rfl
@[simp] theorem keyL_frmT (k : KeyR) : (∀ c ∈ keyL k, frmT c = true) ↔ True := ⟨fun _ => trivial, fun _ => keyL_frm k⟩
@[simp] theorem frmT_i64 (n : Int) : frmT (i64 n) = true := rfl
@[simp] theorem frmT_st (s : List UInt8) : frmT (st s) = true := rfl
@[simp] theorem deep_i64 (ids : List Nat) (bx : Nat → List AVal) (n : Int) : deep ids bx (i64 n) = i64 n := rfl
theorem memFreeL_app : ∀ a b : List AVal, memFreeL (a ++ b) = (memFreeL a && memFreeL b)
  | [], b => rfl
  | x :: a, b => by show (memFree x && memFreeL (a ++ b)) = _; rw [memFreeL_app a b, ← Bool.and_assoc]; rfl
@[simp] theorem keysL_mf : ∀ l : List KeyR, memFreeL (keysL l) = true
  | [] => rfl
  | k :: l => by rw [keysL_cons, memFreeL_app, keysL_mf l]; rfl
end Go.Abs
end

section
namespace Go.Abs
set_option maxRecDepth 100000
theorem spl_t1 (nl : Option Bool) (t : TabR) (x : AVal) : splice (tabL nl t) 1 [x] = [i64 t.next, x] := rfl
theorem spl_22 (a b c d : AVal) : splice [a, b] 0 [c, d] = [c, d] := rfl
theorem spl_t2 (a b : AVal) (nl : Option Bool) (t : TabR) : splice [a, b] 0 (tabL nl t) = tabL nl t := rfl
theorem keysL_all2 (l : List KeyR) (i : Nat) (k : KeyR) : (keysL (l.set i k)).take (l.length * 9) = keysL (l.set i k) := List.take_of_length_le (by simp)
abbrev putCn : Contract := putC (some false)
set_option maxHeartbeats 8000000 in
theorem put_ok (E : Env) (h246 : E.G 246 = okKC) (h242 : E.G 242 = finC) (h247 : E.G 247 = cloKC) : ∀ ds, putCn.pre ds → ds.length = f_keys_Put.n ∧ awp E f_keys_Put.body (retQ f_keys_Put.res (putCn.post ds)) (initSt f_keys_Put.wr ds) := by
  rintro _ ⟨nl, t, k, ht, hk, rfl⟩
  rw [putCn, put_post]
  have hlen : t.keys.length ≤ 100000000 := ht.2
  have e1 := okK_pre hk
  have e2 := okK_post k
  have f1 := fin_pre (nl := nl) (t := t) k.id ht
  have f2 := fin_post nl t k.id
  rw [finA] at f2
  have c1 := cloK_pre (nl := nl) ht.2
  have c2 := cloK_post nl t.keys
  cases ho : okK k with
  | false =>
    have e : putK t k = (⟨0, []⟩, 1) := by simp [putK, ho]
    rw [e, tabA]
    rw [ho] at e2
    simp (maxSteps := 1000000) (disch := first | omega | (simp; done) | (simp; omega)) [W_id, bys_app, bys_snoc, f_keys_Put, f_keys_Put_r0, h246, e1, e2, kT, kF, dT, dF]
    exact ⟨Nat.le_refl _, rfl⟩
  | true =>
    rw [ho] at e2
    by_cases hp : k.par < t.next
    · cases hb : bseK t.keys k.id with
      | false =>
        have e : putK t k = (⟨0, []⟩, 11) := by simp [putK, ho, hp, hb]
        rw [e, tabA]
        rw [hb] at f2
        simp only [Bool.false_eq_true, if_false] at f2
        simp (maxSteps := 1000000) (disch := first | omega | (simp; done) | (simp; omega)) [W_id, bys_app, bys_snoc, f_keys_Put, f_keys_Put_r0, h246, h242, e1, e2, f1, f2, hp, kT, kF, dT, dF]
        exact ⟨Nat.le_refl _, rfl⟩
      | true =>
        have hn : lbK t.keys k.id < t.keys.length := by
          simp only [bseK, Bool.and_eq_true, decide_eq_true_eq] at hb; exact hb.1
        have e : putK t k = (⟨t.next, t.keys.set (lbK t.keys k.id) k⟩, 0) := by simp [putK, ho, hp, hb]
        rw [e, tabA]
        rw [hb] at f2
        simp only [if_true] at f2
        have ks := keysL_set k hn
        generalize lbK t.keys k.id = m at *
        simp (maxSteps := 1000000) (disch := first | omega | (simp; done) | (simp; omega)) [W_id, bys_app, bys_snoc, f_keys_Put, f_keys_Put_r0, h246, h242, e1, e2, f1, f2, hp, kT, kF, dT, dF]
        rw [f_keys_Put_r1]
        simp (maxSteps := 1000000) (disch := first | omega | (simp; done) | (simp; omega)) [W_id, bys_app, bys_snoc, h247, c1, c2, kT, kF, dT, dF, spl_t1, spl_22, ks, deep, deepL, keysL_all2, keysL_all2]
        exact ⟨⟨by omega, rfl⟩, hn, by omega, by simp [tabL]⟩
    · have e : putK t k = (⟨0, []⟩, 1) := by simp [putK, ho, hp]
      rw [e, tabA]
      simp (maxSteps := 1000000) (disch := first | omega | (simp; done) | (simp; omega)) [W_id, bys_app, bys_snoc, f_keys_Put, f_keys_Put_r0, h246, e1, e2, hp, kT, kF, dT, dF]
      exact ⟨Nat.le_refl _, rfl⟩
end Go.Abs
end

section
namespace Go.Abs
set_option maxRecDepth 100000
theorem spl_k0 (k : KeyR) (n : Int) : splice (keyL k) 0 [i64 n] = keyL { k with id := n } := rfl
theorem keysL_one (k : KeyR) : keysL [k] = keyL k := by simp [keysL]
theorem keysL_snoc (l : List KeyR) (k : KeyR) : keysL l ++ keyL k = keysL (l ++ [k]) := by rw [keysL_app, keysL_one]
theorem dem_if (c : Prop) [Decidable c] (n : Nat) (cs : List AVal) : dem (.sl (if c then .own 9 else .plain) none n cs) = .sl .plain none n cs := by split <;> rfl
theorem spl_11 (a b : AVal) : splice [a] 0 [b] = [b] := rfl
theorem keyL_pc (k : KeyR) : ∀ c ∈ keyL k, pureB c = true ∧ isCell c := fun c hc => keysL_pc [k] c (by rw [keysL_one]; exact hc)
abbrev addCn : Contract := addKC none
set_option maxHeartbeats 8000000 in
theorem add_ok (E : Env) (h246 : E.G 246 = okKC) (h248 : E.G 248 = clipC) : ∀ ds, addCn.pre ds → ds.length = f_keys_Add.n ∧ awp E f_keys_Add.body (retQ f_keys_Add.res (addCn.post ds)) (initSt f_keys_Add.wr ds) := by
  rintro _ ⟨nl, t, k, ht, hi, hk, rfl⟩
  rw [addCn, addK_post]
  have hlen : t.keys.length ≤ 100000000 := ht.2
  have hi1 : -9223372036854775808 ≤ t.next := hi.1
  have hi2 : t.next ≤ 9223372036854775807 := hi.2
  have e1 := okK_pre hk
  have e2 := okK_post k
  have c1 := clip_pre (nl := nl) ht.2
  have c2 := clip_post nl t.keys
  cases ho : okK k with
  | false =>
    have e : addK t k = (⟨0, []⟩, 0, 1) := by simp [addK, ho]
    rw [e, tabA]
    rw [ho] at e2
    simp (maxSteps := 1000000) (disch := first | omega | (simp; done) | (simp; omega)) [W_id, bys_app, bys_snoc, f_keys_Add, f_keys_Add_r0, h246, e1, e2, kT, kF, dT, dF]
    exact ⟨Nat.le_refl _, rfl⟩
  | true =>
    rw [ho] at e2
    by_cases hp : k.par < t.next
    · by_cases h1 : t.keys.length < 4096
      · by_cases h2 : t.next < topN
        · have e : addK t k = (⟨t.next + 1, t.keys ++ [{ k with id := t.next }]⟩, t.next, 0) := by simp [addK, ho, hp, h1, h2]
          rw [e, tabA]
          have h2' : t.next < 2147483647 := h2
          have h1' : (t.keys.length : Int) < 4096 := by omega
          simp (maxSteps := 1000000) (disch := first | omega | (simp; done) | (simp; omega)) [W_id, bys_app, bys_snoc, f_keys_Add, h246, e1, e2, hp, h1, h1', h2', kT, kF, dT, dF]
          rw [f_keys_Add_r0]
          simp (maxSteps := 1000000) (disch := first | omega | (simp; done) | (simp; omega)) [W_id, bys_app, bys_snoc, spl_k0, h248, c1, c2, kT, kF, dT, dF, dem_if, spl_11, spl_22, spl_9, keysL_snoc, tabL]
          exact ⟨by omega, by omega, keyL_pc _⟩
        · have e : addK t k = (⟨0, []⟩, 0, 2) := by simp [addK, ho, hp, h2]
          have h2' : ¬ t.next < 2147483647 := h2
          have h1' : (t.keys.length : Int) < 4096 := by omega
          rw [e, tabA]
          simp (maxSteps := 1000000) (disch := first | omega | (simp; done) | (simp; omega)) [W_id, bys_app, bys_snoc, f_keys_Add, f_keys_Add_r0, h246, e1, e2, hp, h1, h1', h2', kT, kF, dT, dF]
          exact ⟨Nat.le_refl _, rfl⟩
      · have e : addK t k = (⟨0, []⟩, 0, 2) := by simp [addK, ho, hp, h1]
        have h1' : ¬ (t.keys.length : Int) < 4096 := by omega
        rw [e, tabA]
        simp (maxSteps := 1000000) (disch := first | omega | (simp; done) | (simp; omega)) [W_id, bys_app, bys_snoc, f_keys_Add, f_keys_Add_r0, h246, e1, e2, hp, h1, h1', kT, kF, dT, dF]
        exact ⟨Nat.le_refl _, rfl⟩
    · have e : addK t k = (⟨0, []⟩, 0, 1) := by simp [addK, ho, hp]
      rw [e, tabA]
      simp (maxSteps := 1000000) (disch := first | omega | (simp; done) | (simp; omega)) [W_id, bys_app, bys_snoc, f_keys_Add, f_keys_Add_r0, h246, e1, e2, hp, kT, kF, dT, dF]
      exact ⟨Nat.le_refl _, rfl⟩
end Go.Abs
end

section
namespace Go.Abs
set_option maxRecDepth 100000
theorem tabL_set1 (nl : Option Bool) (t : TabR) (x : AVal) : (tabL nl t).set 1 x = [i64 t.next, x] := rfl
theorem spl_21a (a b c : AVal) : splice [a, b] 0 [c] = [c, b] := rfl
theorem spl_42 (a b c d e f : AVal) : splice [a, b, c, d] 0 [e, f] = [e, f, c, d] := rfl
theorem spl_41 (a b c d e : AVal) : splice [a, b, c, d] 2 [e] = [a, b, e, d] := rfl
theorem spl_44 (a b c d e f g h : AVal) : splice [a, b, c, d] 0 [e, f, g, h] = [e, f, g, h] := rfl
theorem cellsA_bv (a b c d e : Nat) : cellsA (.bv a b c d e) = [.bv a b c d e] := rfl
theorem spl_21b (a b c : AVal) : splice [a, b] 1 [c] = [a, c] := rfl
set_option maxHeartbeats 8000000 in
theorem rput_ok (E : Env) (h273 : E.G 273 = okKC) (h279 : E.G 279 = atC) : ∀ ds, putCn.pre ds → ds.length = f_custodyref27_Put.n ∧ awp E f_custodyref27_Put.body (retQ f_custodyref27_Put.res (putCn.post ds)) (initSt f_custodyref27_Put.wr ds) := by
  rintro _ ⟨nl, t, k, ht, hk, rfl⟩
  rw [putCn, put_post]
  have hlen : t.keys.length ≤ 100000000 := ht.2
  have e1 := okK_pre hk
  have e2 := okK_post k
  have f1 := at_pre (nl := nl) (t := t) k.id ht
  have f2 := at_post nl t k.id
  cases ho : okK k with
  | false =>
    have e : putK t k = (⟨0, []⟩, 1) := by simp [putK, ho]
    rw [e, tabA]
    rw [ho] at e2
    simp (maxSteps := 1000000) (disch := first | omega | (simp; done) | (simp; omega)) [W_id, bys_app, bys_snoc, f_custodyref27_Put, f_custodyref27_Put_r0, h273, e1, e2, kT, kF, dT, dF]
    exact ⟨Nat.le_refl _, rfl⟩
  | true =>
    rw [ho] at e2
    by_cases hp : k.par < t.next
    · cases hb : bseK t.keys k.id with
      | false =>
        have e : putK t k = (⟨0, []⟩, 11) := by simp [putK, ho, hp, hb]
        rw [e, tabA]
        rw [hb] at f2
        simp only [Bool.false_eq_true, if_false] at f2
        simp (maxSteps := 1000000) (disch := first | omega | (simp; done) | (simp; omega)) [W_id, bys_app, bys_snoc, f_custodyref27_Put, f_custodyref27_Put_r0, h273, h279, e1, e2, f1, f2, hp, kT, kF, dT, dF]
        exact ⟨Nat.le_refl _, rfl⟩
      | true =>
        have hn : lbK t.keys k.id < t.keys.length := by
          simp only [bseK, Bool.and_eq_true, decide_eq_true_eq] at hb; exact hb.1
        have e : putK t k = (⟨t.next, t.keys.set (lbK t.keys k.id) k⟩, 0) := by simp [putK, ho, hp, hb]
        rw [e, tabA]
        rw [hb] at f2
        simp only [if_true] at f2
        have ks := keysL_set k hn
        generalize lbK t.keys k.id = m at *
        simp (maxSteps := 1000000) (disch := first | omega | (simp; done) | (simp; omega)) [W_id, bys_app, bys_snoc, f_custodyref27_Put, f_custodyref27_Put_r0, h273, h279, e1, e2, f1, f2, hp, kT, kF, dT, dF]
        rw [f_custodyref27_Put_r1]
        simp (maxSteps := 1000000) (disch := first | omega | (simp; done) | (simp; omega)) [W_id, bys_app, bys_snoc, kT, kF, dT, dF, spl_t1, spl_22, ks, deep, deepL, keysL_all2, tabL_set1, spl_11, cellsA_bv, spl_21a, spl_21b]
        exact ⟨⟨by omega, by omega, keysL_pc _⟩, ⟨by omega, rfl⟩, hn, by omega, by simp [tabL]⟩
    · have e : putK t k = (⟨0, []⟩, 1) := by simp [putK, ho, hp]
      rw [e, tabA]
      simp (maxSteps := 1000000) (disch := first | omega | (simp; done) | (simp; omega)) [W_id, bys_app, bys_snoc, f_custodyref27_Put, f_custodyref27_Put_r0, h273, e1, e2, hp, kT, kF, dT, dF]
      exact ⟨Nat.le_refl _, rfl⟩
abbrev raddCn : Contract := raddC none
set_option maxHeartbeats 8000000 in
theorem radd_ok (E : Env) (h273 : E.G 273 = okKC) : ∀ ds, raddCn.pre ds → ds.length = f_custodyref27_Add.n ∧ awp E f_custodyref27_Add.body (retQ f_custodyref27_Add.res (raddCn.post ds)) (initSt f_custodyref27_Add.wr ds) := by
  rintro _ ⟨nl, t, k, ht, hi, hk, rfl⟩
  rw [raddCn, radd_post]
  have hlen : t.keys.length ≤ 100000000 := ht.2
  have hi1 : -9223372036854775808 ≤ t.next := hi.1
  have hi2 : t.next ≤ 9223372036854775807 := hi.2
  have e1 := okK_pre hk
  have e2 := okK_post k
  cases ho : okK k with
  | false =>
    have e : addK t k = (⟨0, []⟩, 0, 1) := by simp [addK, ho]
    rw [e]
    rw [ho] at e2
    simp (maxSteps := 1000000) (disch := first | omega | (simp; done) | (simp; omega)) [W_id, bys_app, bys_snoc, f_custodyref27_Add, f_custodyref27_Add_r0, h273, e1, e2, kT, kF, dT, dF]
    exact ⟨by decide, rfl⟩
  | true =>
    rw [ho] at e2
    by_cases hp : k.par < t.next
    · by_cases h1 : t.keys.length < 4096
      · by_cases h2 : t.next < topN
        · have e : addK t k = (⟨t.next + 1, t.keys ++ [{ k with id := t.next }]⟩, t.next, 0) := by simp [addK, ho, hp, h1, h2]
          rw [e]
          have h2' : t.next < 2147483647 := h2
          have h1' : (t.keys.length : Int) < 4096 := by omega
          simp (maxSteps := 1000000) (disch := first | omega | (simp; done) | (simp; omega)) [W_id, bys_app, bys_snoc, f_custodyref27_Add, f_custodyref27_Add_r0, h273, e1, e2, hp, h1, h1', h2', kT, kF, dT, dF]
          rw [f_custodyref27_Add_r1]
          simp (maxSteps := 1000000) (disch := first | omega | (simp; done) | (simp; omega)) [W_id, bys_app, bys_snoc, spl_k0, kT, kF, dT, dF, dem_if, spl_11, spl_22, spl_9, spl_21a, spl_21b, spl_42, spl_41, spl_44, keysL_snoc, tabL]
          exact ⟨⟨by omega, by omega, keysL_pc _⟩, by omega, by omega, keyL_pc _⟩
        · have e : addK t k = (⟨0, []⟩, 0, 2) := by simp [addK, ho, hp, h2]
          have h2' : ¬ t.next < 2147483647 := h2
          have h1' : (t.keys.length : Int) < 4096 := by omega
          rw [e]
          simp (maxSteps := 1000000) (disch := first | omega | (simp; done) | (simp; omega)) [W_id, bys_app, bys_snoc, f_custodyref27_Add, f_custodyref27_Add_r0, h273, e1, e2, hp, h1, h1', h2', kT, kF, dT, dF]
          exact ⟨by decide, rfl⟩
      · have e : addK t k = (⟨0, []⟩, 0, 2) := by simp [addK, ho, hp, h1]
        have h1' : ¬ (t.keys.length : Int) < 4096 := by omega
        rw [e]
        simp (maxSteps := 1000000) (disch := first | omega | (simp; done) | (simp; omega)) [W_id, bys_app, bys_snoc, f_custodyref27_Add, f_custodyref27_Add_r0, h273, e1, e2, hp, h1, h1', kT, kF, dT, dF]
        exact ⟨by decide, rfl⟩
    · have e : addK t k = (⟨0, []⟩, 0, 1) := by simp [addK, ho, hp]
      rw [e]
      simp (maxSteps := 1000000) (disch := first | omega | (simp; done) | (simp; omega)) [W_id, bys_app, bys_snoc, f_custodyref27_Add, f_custodyref27_Add_r0, h273, e1, e2, hp, kT, kF, dT, dF]
      exact ⟨by decide, rfl⟩
end Go.Abs
end
