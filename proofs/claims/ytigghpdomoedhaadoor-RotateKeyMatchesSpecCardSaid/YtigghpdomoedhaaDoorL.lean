/- Lemmas: an abstract interpreter, and what the functions compute. -/
import Derived.Test.YtigghpdomoedhaaDoorE
import Derived.Test.YtigghpdomoedhaaDoorC
import Derived.Test.YtigghpdomoedhaaDoorT
set_option linter.unusedSimpArgs false
set_option linter.unusedVariables false
set_option linter.unusedSectionVars false
section
namespace Go.Abs
def kOk (k : KeyR) : Prop := isI64 k.id ∧ isI64 k.ty ∧ k.val.length ≤ 9223372036854775807 ∧ isI64 k.uses ∧ isI64 k.beg ∧ isI64 k.fin ∧ isI64 k.ver ∧ isI64 k.par
def gKey (l : List AVal) : KeyR := ⟨asI (nth l 0), asI (nth l 1), gS (nth l 2), asI (nth l 3), asI (nth l 4), asI (nth l 5), asI (nth l 6), asI (nth l 7), asB (nth l 8)⟩
@[simp] theorem gKey_keyL (k : KeyR) : gKey (keyL k) = k := by simp [gKey, keyL, nth]
@[simp] theorem keyL_len (k : KeyR) : (keyL k).length = 9 := rfl
def withC : Contract := ⟨fun ds => ∃ n lo hi : Int, ds = [i64 n, i64 lo, i64 hi], fun ds => bo (inB (asI (nth ds 0)) (asI (nth ds 1)) (asI (nth ds 2)))⟩
@[simp] theorem with_pre (n lo hi : Int) : withC.pre [i64 n, i64 lo, i64 hi] = True := eq_true ⟨n, lo, hi, rfl⟩
@[simp] theorem with_post (n lo hi : Int) : withC.post [i64 n, i64 lo, i64 hi] = bo (inB n lo hi) := rfl
def okKC : Contract := ⟨fun ds => ∃ k, kOk k ∧ ds = [.agg (keyL k)], fun ds => bo (okK (gKey (gCs (nth ds 0))))⟩
theorem okK_pre {k : KeyR} (h : kOk k) : okKC.pre [.agg (keyL k)] = True := eq_true ⟨k, h, rfl⟩
@[simp] theorem okK_post (k : KeyR) : okKC.post [.agg (keyL k)] = bo (okK k) := by
  show bo (okK (gKey (keyL k))) = _
  rw [gKey_keyL]
def liveK (k : KeyR) (now : Int) : Bool := decide (k.beg ≤ now) && decide (now < k.fin)
def liveC : Contract := ⟨fun ds => ∃ k now, kOk k ∧ ds = [.agg (keyL k), i64 now], fun ds => bo (liveK (gKey (gCs (nth ds 0))) (asI (nth ds 1)))⟩
theorem live_pre {k : KeyR} (now : Int) (h : kOk k) : liveC.pre [.agg (keyL k), i64 now] = True := eq_true ⟨k, now, h, rfl⟩
@[simp] theorem live_post (k : KeyR) (now : Int) : liveC.post [.agg (keyL k), i64 now] = bo (liveK k now) := by
  show bo (liveK (gKey (keyL k)) now) = _
  rw [gKey_keyL]
def subUC : Contract := ⟨fun ds => ∃ a b : Int, isI64 a ∧ ds = [i64 a, i64 b], fun ds => bo (subU (asI (nth ds 0)) (asI (nth ds 1)))⟩
theorem subU_pre {a b : Int} (h : isI64 a) : subUC.pre [i64 a, i64 b] = True := eq_true ⟨a, b, h, rfl⟩
@[simp] theorem subU_post (a b : Int) : subUC.post [i64 a, i64 b] = bo (subU a b) := rfl
def nanC : Contract := ⟨fun ds => ∃ a : Int, ds = [i64 a], fun _ => bo false⟩
@[simp] theorem nan_pre (a : Int) : nanC.pre [i64 a] = True := eq_true ⟨a, rfl⟩
@[simp] theorem nan_post (ds : List AVal) : nanC.post ds = bo false := rfl
def cmpI (a b : Int) : Int := if a < b then -1 else if b < a then 1 else 0
def cmpC : Contract := ⟨fun ds => ∃ a b : Int, ds = [i64 a, i64 b], fun ds => i64 (cmpI (asI (nth ds 0)) (asI (nth ds 1)))⟩
@[simp] theorem cmp_pre (a b : Int) : cmpC.pre [i64 a, i64 b] = True := eq_true ⟨a, b, rfl⟩
@[simp] theorem cmp_post (a b : Int) : cmpC.post [i64 a, i64 b] = i64 (cmpI a b) := rfl
def cmpK : Contract := ⟨fun ds => ∃ (k : KeyR) (b : Int), ds = [.agg (keyL k), i64 b], fun ds => i64 (cmpI (gKey (gCs (nth ds 0))).id (asI (nth ds 1)))⟩
@[simp] theorem cmpK_pre (k : KeyR) (b : Int) : cmpK.pre [.agg (keyL k), i64 b] = True := eq_true ⟨k, b, rfl⟩
@[simp] theorem cmpK_post (k : KeyR) (b : Int) : cmpK.post [.agg (keyL k), i64 b] = i64 (cmpI k.id b) := by
  show i64 (cmpI (gKey (keyL k)).id b) = _
  rw [gKey_keyL]
/-! ### Lists of keys -/
@[simp] theorem keysL_len : ∀ l : List KeyR, (keysL l).length = l.length * 9
  | [] => rfl
  | k :: l => by rw [keysL, List.flatMap_cons, List.length_append, keyL_len]; have := keysL_len l; rw [keysL] at this; rw [this, List.length_cons]; omega
theorem keysL_cons (k : KeyR) (l : List KeyR) : keysL (k :: l) = keyL k ++ keysL l := rfl
theorem keysL_app (a b : List KeyR) : keysL (a ++ b) = keysL a ++ keysL b := by simp [keysL]
theorem keysL_drop : ∀ (l : List KeyR) (n : Nat), (keysL l).drop (n * 9) = keysL (l.drop n)
  | [], n => by simp [keysL]
  | k :: l, 0 => by simp
  | k :: l, n + 1 => by
    rw [keysL_cons, List.drop_succ_cons, ← keysL_drop l n, show (n + 1) * 9 = (keyL k).length + n * 9 by simp; omega, ← List.drop_drop, List.drop_left]
theorem keysL_take : ∀ (l : List KeyR) (n : Nat), (keysL l).take (n * 9) = keysL (l.take n)
  | [], n => by simp [keysL]
  | k :: l, 0 => by simp [keysL]
  | k :: l, n + 1 => by
    rw [keysL_cons, List.take_succ_cons, keysL_cons, ← keysL_take l n, show (n + 1) * 9 = (keyL k).length + n * 9 by simp; omega, List.take_length_add_append]
def keyAt (l : List KeyR) (i : Nat) : KeyR := l.getD i key0
theorem keysL_at {l : List KeyR} {i : Nat} (h : i < l.length) : ((keysL l).drop (i * 9)).take 9 = keyL (keyAt l i) := by
  rw [keysL_drop, List.drop_eq_getElem_cons h, keysL_cons, ← keyL_len l[i], List.take_left, keyAt, List.getD, List.getElem?_eq_getElem h]; rfl
theorem keyAt_mem {l : List KeyR} {i : Nat} (h : i < l.length) : keyAt l i ∈ l := by
  rw [keyAt, List.getD, List.getElem?_eq_getElem h]; exact List.getElem_mem h
@[simp] theorem keyL_pure (k : KeyR) : pureL (keyL k) = true := rfl
@[simp] theorem keyL_refs (k : KeyR) : refsL (keyL k) = [] := rfl
theorem keysL_mem {l : List KeyR} {c : AVal} (h : c ∈ keysL l) : ∃ k, c ∈ keyL k := by
  obtain ⟨k, _, hk⟩ := List.mem_flatMap.1 h
  exact ⟨k, hk⟩
@[simp] theorem keysL_pure (l : List KeyR) : pureL (keysL l) = true := (pureL_iff _).2 fun c hc => by
  obtain ⟨k, hk⟩ := keysL_mem hc
  exact (pureL_iff _).1 (keyL_pure k) c hk
/-! ### Reading lists back -/
def gL {α : Type} (w : Nat) (g : List AVal → α) (n : Nat) (cs : List AVal) : List α := (List.range n).map fun i => g (cs.drop (i * w))
theorem gL_eq {α : Type} {w : Nat} {g : List AVal → α} {enc : α → List AVal} (h1 : ∀ a, (enc a).length = w) (h2 : ∀ a r, g (enc a ++ r) = a) (l : List α) : gL w g l.length (l.flatMap enc) = l := by
  have hd : ∀ (l : List α) (i : Nat), (l.flatMap enc).drop (i * w) = (l.drop i).flatMap enc := by
    intro l
    induction l with
    | nil => intro i; simp
    | cons a l ih =>
      intro i
      cases i with
      | zero => simp
      | succ i =>
        rw [List.drop_succ_cons, ← ih, List.flatMap_cons, show (i + 1) * w = (enc a).length + i * w by rw [h1, Nat.succ_mul, Nat.add_comm], ← List.drop_drop, List.drop_left]
  apply List.ext_getElem
  · simp [gL]
  · intro i a1 a2
    simp only [gL, List.getElem_map, List.getElem_range]
    rw [hd, List.drop_eq_getElem_cons a2, List.flatMap_cons, h2]
def gKeys (n : Nat) (cs : List AVal) : List KeyR := gL 9 gKey n cs
@[simp] theorem gKeys_keysL (l : List KeyR) : gKeys l.length (keysL l) = l := gL_eq (enc := keyL) (fun _ => rfl) (fun k r => by simp [gKey, keyL, nth]) l
def gSn (d : AVal) : Nat := match d with | .sl _ _ n _ => n | _ => 0
def gTab (l : List AVal) : TabR := ⟨asI (nth l 0), gKeys (gSn (nth l 1)) (gCs (nth l 1))⟩
def tabL (nl : Option Bool) (t : TabR) : List AVal := [i64 t.next, .sl .plain nl t.keys.length (keysL t.keys)]
@[simp] theorem gTab_tabL (nl : Option Bool) (t : TabR) : gTab (tabL nl t) = t := by
  simp [gTab, tabL, nth, gSn, gCs]
/-! ### Policies -/
def typsL (l : List TypR) : List AVal := l.flatMap typL
def rulsL (l : List RulR) : List AVal := l.flatMap rulL
def quosL (l : List QuoR) : List AVal := l.flatMap quoL
def gTyp (l : List AVal) : TypR := ⟨gS (nth l 0), asI (nth l 1), asI (nth l 2)⟩
def gRul (l : List AVal) : RulR := ⟨asI (nth l 0), asI (nth l 1), asI (nth l 2)⟩
def gQuo (l : List AVal) : QuoR := ⟨asI (nth l 0), asI (nth l 1), asI (nth l 2), asI (nth l 3), asI (nth l 4)⟩
def polL (na nb nc : Option Bool) (p : PolR) : List AVal := [st p.name, .sl .plain na p.types.length (typsL p.types), .sl .plain nb p.rules.length (rulsL p.rules), .sl .plain nc p.quos.length (quosL p.quos)]
def gPol (l : List AVal) : PolR := ⟨gS (nth l 0), gL 3 gTyp (gSn (nth l 1)) (gCs (nth l 1)), gL 3 gRul (gSn (nth l 2)) (gCs (nth l 2)), gL 5 gQuo (gSn (nth l 3)) (gCs (nth l 3))⟩
@[simp] theorem gPol_polL (na nb nc : Option Bool) (p : PolR) : gPol (polL na nb nc p) = p := by
  have h1 : gL 3 gTyp p.types.length (typsL p.types) = p.types := gL_eq (enc := typL) (fun _ => rfl) (fun k r => by simp [gTyp, typL, nth]) _
  have h2 : gL 3 gRul p.rules.length (rulsL p.rules) = p.rules := gL_eq (enc := rulL) (fun _ => rfl) (fun k r => by simp [gRul, rulL, nth]) _
  have h3 : gL 5 gQuo p.quos.length (quosL p.quos) = p.quos := gL_eq (enc := quoL) (fun _ => rfl) (fun k r => by simp [gQuo, quoL, nth]) _
  simp [gPol, polL, nth, gSn, gCs, h1, h2, h3]
end Go.Abs
end

section
namespace Go.Abs
def polOk (p : PolR) : Prop := p.types.length ≤ 1000000000 ∧ p.rules.length ≤ 1000000000 ∧ p.quos.length ≤ 1000000000
@[simp] theorem typsL_len : ∀ l : List TypR, (typsL l).length = l.length * 3
  | [] => rfl
  | k :: l => by have := typsL_len l; rw [typsL] at this ⊢; rw [List.flatMap_cons, List.length_append, this, List.length_cons]; show 3 + _ = _; omega
@[simp] theorem rulsL_len : ∀ l : List RulR, (rulsL l).length = l.length * 3
  | [] => rfl
  | k :: l => by have := rulsL_len l; rw [rulsL] at this ⊢; rw [List.flatMap_cons, List.length_append, this, List.length_cons]; show 3 + _ = _; omega
@[simp] theorem typsL_pure (l : List TypR) : pureL (typsL l) = true := (pureL_iff _).2 fun c hc => by
  obtain ⟨t, _, ht⟩ := List.mem_flatMap.1 hc
  exact (pureL_iff _).1 (show pureL (typL t) = true from rfl) c ht
@[simp] theorem rulsL_pure (l : List RulR) : pureL (rulsL l) = true := (pureL_iff _).2 fun c hc => by
  obtain ⟨t, _, ht⟩ := List.mem_flatMap.1 hc
  exact (pureL_iff _).1 (show pureL (rulL t) = true from rfl) c ht
@[simp] theorem quosL_pure (l : List QuoR) : pureL (quosL l) = true := (pureL_iff _).2 fun c hc => by
  obtain ⟨t, _, ht⟩ := List.mem_flatMap.1 hc
  exact (pureL_iff _).1 (show pureL (quoL t) = true from rfl) c ht
theorem flat_drop {α : Type} {w : Nat} {enc : α → List AVal} (h1 : ∀ a, (enc a).length = w) : ∀ (l : List α) (i : Nat), (l.flatMap enc).drop (i * w) = (l.drop i).flatMap enc
  | [], i => by simp
  | a :: l, 0 => by simp
  | a :: l, i + 1 => by
    rw [List.drop_succ_cons, ← flat_drop h1 l i, List.flatMap_cons, show (i + 1) * w = (enc a).length + i * w by rw [h1, Nat.succ_mul, Nat.add_comm], ← List.drop_drop, List.drop_left]
theorem typsL_f1 {l : List TypR} {i : Nat} (h : i < l.length) : hdA ((typsL l).drop (i * 3 + 1)) = i64 (l.getD i ⟨[], 0, 0⟩).flags := by
  rw [← List.drop_drop, typsL, flat_drop (w := 3) (enc := typL) (fun _ => rfl), List.drop_eq_getElem_cons h, List.flatMap_cons, List.getD, List.getElem?_eq_getElem h]; rfl
theorem typsL_f2 {l : List TypR} {i : Nat} (h : i < l.length) : hdA ((typsL l).drop (i * 3 + 2)) = i64 (l.getD i ⟨[], 0, 0⟩).life := by
  rw [← List.drop_drop, typsL, flat_drop (w := 3) (enc := typL) (fun _ => rfl), List.drop_eq_getElem_cons h, List.flatMap_cons, List.getD, List.getElem?_eq_getElem h]; rfl
theorem rulsL_at {l : List RulR} {i : Nat} (h : i < l.length) : ((rulsL l).drop (i * 3)).take 3 = rulL (l.getD i ⟨0, 0, 0⟩) := by
  rw [rulsL, flat_drop (w := 3) (enc := rulL) (fun _ => rfl), List.drop_eq_getElem_cons h, List.flatMap_cons, List.getD, List.getElem?_eq_getElem h]; rfl
@[simp] theorem polL_len (na nb nc : Option Bool) (p : PolR) : (polL na nb nc p).length = 4 := rfl
@[simp] theorem polL_pure (na nb nc : Option Bool) (p : PolR) : pureL (polL na nb nc p) = true := by simp [polL]
@[simp] theorem polL_refs (na nb nc : Option Bool) (p : PolR) : refsL (polL na nb nc p) = [] := rfl
@[simp] theorem polL_take (na nb nc : Option Bool) (p : PolR) : (polL na nb nc p).take 4 = polL na nb nc p := rfl
@[simp] theorem polL_1 (na nb nc : Option Bool) (p : PolR) : hdA (polL na nb nc p).tail = .sl .plain na p.types.length (typsL p.types) := rfl
@[simp] theorem polL_2 (na nb nc : Option Bool) (p : PolR) : hdA ((polL na nb nc p).drop 2) = .sl .plain nb p.rules.length (rulsL p.rules) := rfl
@[simp] theorem polL_3 (na nb nc : Option Bool) (p : PolR) : hdA ((polL na nb nc p).drop 3) = .sl .plain nc p.quos.length (quosL p.quos) := rfl
@[simp] theorem polL_cell (na nb nc : Option Bool) (p : PolR) : (∀ c ∈ polL na nb nc p, isCell c) ↔ True := by simp [polL]
@[simp] theorem polL_own (na nb nc : Option Bool) (p : PolR) : (∀ c ∈ polL na nb nc p, ownTop c = false) ↔ True := by simp [polL]
def exiC : Contract := ⟨fun ds => ∃ (na nb nc : Option Bool) (p : PolR) (t : Int), polOk p ∧ isI64 t ∧ ds = [.agg (polL na nb nc p), i64 t], fun ds => bo (hasTy (gPol (gCs (nth ds 0))) (asI (nth ds 1)))⟩
theorem exi_pre {na nb nc : Option Bool} {p : PolR} {t : Int} (h : polOk p) (ht : isI64 t) : exiC.pre [.agg (polL na nb nc p), i64 t] = True := eq_true ⟨na, nb, nc, p, t, h, ht, rfl⟩
@[simp] theorem exi_post (na nb nc : Option Bool) (p : PolR) (t : Int) : exiC.post [.agg (polL na nb nc p), i64 t] = bo (hasTy p t) := by
  show bo (hasTy (gPol (polL na nb nc p)) t) = _
  rw [gPol_polL]
def hasC : Contract := ⟨fun ds => ∃ (na nb nc : Option Bool) (p : PolR) (t f : Int), polOk p ∧ isI64 t ∧ isI64 f ∧ ds = [.agg (polL na nb nc p), i64 t, i64 f], fun ds => bo (hasP (gPol (gCs (nth ds 0))) (asI (nth ds 1)) (asI (nth ds 2)))⟩
theorem has_pre {na nb nc : Option Bool} {p : PolR} {t f : Int} (h : polOk p) (ht : isI64 t) (hf : isI64 f) : hasC.pre [.agg (polL na nb nc p), i64 t, i64 f] = True := eq_true ⟨na, nb, nc, p, t, f, h, ht, hf, rfl⟩
@[simp] theorem has_post (na nb nc : Option Bool) (p : PolR) (t f : Int) : hasC.post [.agg (polL na nb nc p), i64 t, i64 f] = bo (hasP p t f) := by
  show bo (hasP (gPol (polL na nb nc p)) t f) = _
  rw [gPol_polL]
end Go.Abs
end

section
namespace Go.Abs
def lbK (l : List KeyR) (i : Int) : Nat := l.findIdx fun k => decide (i ≤ k.id)
theorem lbK_eq {l : List KeyR} {i : Int} {n : Nat} (hn : n ≤ l.length) (h1 : ∀ m < n, (keyAt l m).id < i) (h2 : ∀ m, n ≤ m → m < l.length → i ≤ (keyAt l m).id) : lbK l i = n := by
  have at' : ∀ m (h : m < l.length), l[m] = keyAt l m := fun m h => by rw [keyAt, List.getD, List.getElem?_eq_getElem h]; rfl
  rcases Nat.lt_or_ge n l.length with h | h
  · rw [lbK, List.findIdx_eq h]
    refine ⟨by simp [at' n h, h2 n (Nat.le_refl _) h], fun j hj => ?_⟩
    have := h1 j hj
    simp only [at' j (by omega), decide_eq_false_iff_not]
    omega
  · have hnl : n = l.length := by omega
    subst hnl
    rw [lbK, List.findIdx_eq_length]
    intro k hk
    obtain ⟨m, hm, rfl⟩ := List.getElem_of_mem hk
    have := h1 m hm
    simp only [at' m hm, decide_eq_false_iff_not]
    omega
theorem srt_at {l : List KeyR} (hs : srt l) {i j : Nat} (hij : i < j) (hj : j < l.length) : (keyAt l i).id < (keyAt l j).id := by
  have at' : ∀ m (h : m < l.length), keyAt l m = l[m] := fun m h => by rw [keyAt, List.getD, List.getElem?_eq_getElem h]; rfl
  rw [at' i (by omega), at' j hj]
  exact List.pairwise_iff_getElem.1 hs i j (by omega) hj hij
def bseK (l : List KeyR) (i : Int) : Bool := decide (lbK l i < l.length) && ((keyAt l (lbK l i)).id == i)
theorem bse_get {l : List KeyR} (hs : srt l) (i : Int) : getK l i = if bseK l i then some (keyAt l (lbK l i)) else none := by
  have at' : ∀ m (h : m < l.length), keyAt l m = l[m] := fun m h => by rw [keyAt, List.getD, List.getElem?_eq_getElem h]; rfl
  cases hb : bseK l i with
  | true =>
    simp only [bseK, Bool.and_eq_true, decide_eq_true_eq, beq_iff_eq] at hb
    obtain ⟨h1, h2⟩ := hb
    rw [if_pos rfl]
    have := getK_at hs h1
    rw [← at' _ h1, h2] at this
    exact this
  | false =>
    rw [if_neg (by simp)]
    refine getK_none fun k hk he => ?_
    obtain ⟨m, hm, rfl⟩ := List.getElem_of_mem hk
    have hlb : lbK l i = m := lbK_eq (Nat.le_of_lt hm) (fun j hj => by have := srt_at hs hj hm; rw [at' m hm] at this; omega) (fun j hj hjl => by
      rcases Nat.lt_or_eq_of_le hj with h | h
      · have := srt_at hs h hjl; rw [at' m hm] at this; omega
      · rw [← h, at' m hm]; omega)
    have : bseK l i = true := by
      simp only [bseK, hlb, Bool.and_eq_true, decide_eq_true_eq, beq_iff_eq]
      exact ⟨hm, by rw [at' m hm]; exact he⟩
    rw [hb] at this; cases this
theorem bse_hit {l : List KeyR} (hs : srt l) {i : Int} {n : Nat} (hn : n < l.length) (he : (keyAt l n).id = i) : bseK l i = true ∧ lbK l i = n := by
  have hlb : lbK l i = n := lbK_eq (Nat.le_of_lt hn) (fun j hj => by have := srt_at hs hj hn; omega) (fun j hj hjl => by
    rcases Nat.lt_or_eq_of_le hj with h | h
    · have := srt_at hs h hjl; omega
    · rw [← h]; omega)
  refine ⟨?_, hlb⟩
  simp only [bseK, hlb, Bool.and_eq_true, decide_eq_true_eq, beq_iff_eq]
  exact ⟨hn, he⟩
theorem bse_miss {l : List KeyR} {i : Int} (h : ∀ m < l.length, (keyAt l m).id ≠ i) : bseK l i = false := by
  refine Bool.eq_false_iff.2 fun hc => ?_
  simp only [bseK, Bool.and_eq_true, decide_eq_true_eq, beq_iff_eq] at hc
  exact h _ hc.1 hc.2
def keysA (nl : Option Bool) (l : List KeyR) : AVal := .sl .plain nl l.length (keysL l)
def kLen (l : List KeyR) : Prop := l.length ≤ 100000000
def bseC : Contract := ⟨fun ds => ∃ (nl : Option Bool) (l : List KeyR) (i : Int), srt l ∧ kLen l ∧ ds = [keysA nl l, i64 i, .fn 253 [] []],
  fun ds => .tup [i64 (lbK (gKeys (gSn (nth ds 0)) (gCs (nth ds 0))) (asI (nth ds 1))), bo (bseK (gKeys (gSn (nth ds 0)) (gCs (nth ds 0))) (asI (nth ds 1)))]⟩
theorem bse_pre {nl : Option Bool} {l : List KeyR} (i : Int) (h : srt l) (hl : kLen l) : bseC.pre [.sl .plain nl l.length (keysL l), i64 i, .fn 253 [] []] = True := eq_true ⟨nl, l, i, h, hl, rfl⟩
@[simp] theorem bse_post (nl : Option Bool) (l : List KeyR) (i : Int) (x : AVal) : bseC.post [.sl .plain nl l.length (keysL l), i64 i, x] = .tup [i64 (lbK l i), bo (bseK l i)] := by
  show AVal.tup [i64 (lbK (gKeys l.length (keysL l)) i), bo (bseK (gKeys l.length (keysL l)) i)] = _
  rw [gKeys_keysL]
end Go.Abs
end

section
namespace Go.Abs
@[simp] theorem tabL_len (nl : Option Bool) (t : TabR) : (tabL nl t).length = 2 := rfl
@[simp] theorem tabL_pure (nl : Option Bool) (t : TabR) : pureL (tabL nl t) = true := by simp [tabL]
@[simp] theorem tabL_refs (nl : Option Bool) (t : TabR) : refsL (tabL nl t) = [] := rfl
@[simp] theorem tabL_take (nl : Option Bool) (t : TabR) : (tabL nl t).take 2 = tabL nl t := rfl
@[simp] theorem tabL_0 (nl : Option Bool) (t : TabR) : hdA (tabL nl t) = i64 t.next := rfl
@[simp] theorem tabL_1 (nl : Option Bool) (t : TabR) : hdA (tabL nl t).tail = .sl .plain nl t.keys.length (keysL t.keys) := rfl
@[simp] theorem tabL_cell (nl : Option Bool) (t : TabR) : (∀ c ∈ tabL nl t, isCell c) ↔ True := by simp [tabL]
@[simp] theorem tabL_own (nl : Option Bool) (t : TabR) : (∀ c ∈ tabL nl t, ownTop c = false) ↔ True := by simp [tabL]
@[simp] theorem keyL_take (k : KeyR) : (keyL k).take 9 = keyL k := rfl
@[simp] theorem keyL_cell (k : KeyR) : (∀ c ∈ keyL k, isCell c) ↔ True := by simp [keyL]
@[simp] theorem keyL_own (k : KeyR) : (∀ c ∈ keyL k, ownTop c = false) ↔ True := by simp [keyL]
@[simp] theorem keyL_f0 (k : KeyR) : hdA (keyL k) = i64 k.id := rfl
@[simp] theorem keyL_f1 (k : KeyR) : hdA (keyL k).tail = i64 k.ty := rfl
@[simp] theorem keyL_f2 (k : KeyR) : hdA ((keyL k).drop 2) = st k.val := rfl
@[simp] theorem keyL_f3 (k : KeyR) : hdA ((keyL k).drop 3) = i64 k.uses := rfl
@[simp] theorem keyL_f4 (k : KeyR) : hdA ((keyL k).drop 4) = i64 k.beg := rfl
@[simp] theorem keyL_f5 (k : KeyR) : hdA ((keyL k).drop 5) = i64 k.fin := rfl
@[simp] theorem keyL_f6 (k : KeyR) : hdA ((keyL k).drop 6) = i64 k.ver := rfl
@[simp] theorem keyL_f7 (k : KeyR) : hdA ((keyL k).drop 7) = i64 k.par := rfl
@[simp] theorem keyL_f8 (k : KeyR) : hdA ((keyL k).drop 8) = bo k.raw := rfl
@[simp] theorem keyL_mf (k : KeyR) : memFreeL (keyL k) = true := rfl
theorem spl_9 (a b c d e f g h i : AVal) (k : KeyR) : splice [a, b, c, d, e, f, g, h, i] 0 (keyL k) = keyL k := rfl
theorem spl_k (a b : KeyR) : splice (keyL a) 0 (keyL b) = keyL b := rfl
theorem key0_R : [i64 0, i64 0, st [], i64 0, i64 0, i64 0, i64 0, i64 0, bo false] = keyL key0 := rfl
theorem keysL_f0 {l : List KeyR} {i : Nat} (h : i < l.length) : hdA ((keysL l).drop (i * 9)) = i64 (keyAt l i).id := by
  rw [keysL_drop, List.drop_eq_getElem_cons h, keysL_cons, keyAt, List.getD, List.getElem?_eq_getElem h]; rfl
def tOk (t : TabR) : Prop := srt t.keys ∧ kLen t.keys
def finA (l : List KeyR) (i : Int) : AVal := .tup [i64 (if bseK l i = true then lbK l i else 0 : Nat), i64 (if bseK l i = true then 0 else 11)]
def finC : Contract := ⟨fun ds => ∃ (nl : Option Bool) (t : TabR) (i : Int), tOk t ∧ ds = [.agg (tabL nl t), i64 i], fun ds => finA (gTab (gCs (nth ds 0))).keys (asI (nth ds 1))⟩
theorem fin_pre {nl : Option Bool} {t : TabR} (i : Int) (h : tOk t) : finC.pre [.agg (tabL nl t), i64 i] = True := eq_true ⟨nl, t, i, h, rfl⟩
@[simp] theorem fin_post (nl : Option Bool) (t : TabR) (i : Int) : finC.post [.agg (tabL nl t), i64 i] = finA t.keys i := by
  show finA (gTab (tabL nl t)).keys i = _
  rw [gTab_tabL]
def getA (o : Option KeyR) : AVal := match o with | some k => .tup [.agg (keyL k), i64 0] | none => .tup [.agg (keyL key0), i64 11]
def getC : Contract := ⟨finC.pre, fun ds => getA (getK (gTab (gCs (nth ds 0))).keys (asI (nth ds 1)))⟩
theorem get_pre {nl : Option Bool} {t : TabR} (i : Int) (h : tOk t) : getC.pre [.agg (tabL nl t), i64 i] = True := eq_true ⟨nl, t, i, h, rfl⟩
@[simp] theorem get_post (nl : Option Bool) (t : TabR) (i : Int) : getC.post [.agg (tabL nl t), i64 i] = getA (getK t.keys i) := by
  show getA (getK (gTab (tabL nl t)).keys i) = _
  rw [gTab_tabL]
def atC : Contract := ⟨finC.pre, fun ds => i64 (if bseK (gTab (gCs (nth ds 0))).keys (asI (nth ds 1)) = true then (lbK (gTab (gCs (nth ds 0))).keys (asI (nth ds 1)) : Int) else -1)⟩
theorem at_pre {nl : Option Bool} {t : TabR} (i : Int) (h : tOk t) : atC.pre [.agg (tabL nl t), i64 i] = True := eq_true ⟨nl, t, i, h, rfl⟩
@[simp] theorem at_post (nl : Option Bool) (t : TabR) (i : Int) : atC.post [.agg (tabL nl t), i64 i] = i64 (if bseK t.keys i = true then (lbK t.keys i : Int) else -1) := by
  show i64 (if bseK (gTab (tabL nl t)).keys i = true then (lbK (gTab (tabL nl t)).keys i : Int) else -1) = _
  rw [gTab_tabL]
/-! ### Successors -/
def tVal (t : TabR) : Prop := okT t = true
theorem tVal_ok {t : TabR} (h : tVal t) : tOk t ∧ t.keys.length ≤ 4096 ∧ (1 ≤ t.next ∧ t.next ≤ topN) ∧ ∀ k ∈ t.keys, okK k = true ∧ 0 < k.id ∧ k.id < t.next ∧ k.par < t.next := by
  simp only [tVal, okT, Bool.and_eq_true, decide_eq_true_eq] at h
  obtain ⟨⟨h1, h2⟩, h3⟩ := h
  obtain ⟨h4, h5⟩ := okL_all h3
  exact ⟨⟨h5, by show t.keys.length ≤ 100000000; omega⟩, h1, h2, h4⟩
theorem okK_ver {k : KeyR} (h : okK k = true) : 1 ≤ k.ver ∧ k.ver ≤ topN := by
  simp only [okK, inB, Bool.and_eq_true, decide_eq_true_eq] at h
  exact h.1.2
def sucC : Contract := ⟨fun ds => ∃ x k : KeyR, -9223372036854775808 ≤ k.ver ∧ k.ver ≤ topN ∧ ds = [.agg (keyL x), .agg (keyL k)], fun ds => bo (sucK (gKey (gCs (nth ds 1))) (gKey (gCs (nth ds 0))))⟩
theorem suc_pre (x : KeyR) {k : KeyR} (h0 : -9223372036854775808 ≤ k.ver) (h : k.ver ≤ topN) : sucC.pre [.agg (keyL x), .agg (keyL k)] = True := eq_true ⟨x, k, h0, h, rfl⟩
@[simp] theorem suc_post (x k : KeyR) : sucC.post [.agg (keyL x), .agg (keyL k)] = bo (sucK k x) := by
  show bo (sucK (gKey (keyL k)) (gKey (keyL x))) = _
  rw [gKey_keyL, gKey_keyL]
def nxtA (o : Option Int) : AVal := match o with | some j => .tup [i64 j, bo true] | none => .tup [i64 0, bo false]
def succC : Contract := ⟨fun ds => ∃ (nl : Option Bool) (t : TabR) (i : Int), tVal t ∧ ds = [.agg (tabL nl t), i64 i], fun ds => nxtA (nxtK (gTab (gCs (nth ds 0))).keys (asI (nth ds 1)))⟩
theorem succ_pre {nl : Option Bool} {t : TabR} (i : Int) (h : tVal t) : succC.pre [.agg (tabL nl t), i64 i] = True := eq_true ⟨nl, t, i, h, rfl⟩
@[simp] theorem succ_post (nl : Option Bool) (t : TabR) (i : Int) : succC.post [.agg (tabL nl t), i64 i] = nxtA (nxtK t.keys i) := by
  show nxtA (nxtK (gTab (tabL nl t)).keys i) = _
  rw [gTab_tabL]
theorem keyAt_eq {l : List KeyR} {m : Nat} (h : m < l.length) : keyAt l m = l[m] := by rw [keyAt, List.getD, List.getElem?_eq_getElem h]; rfl
theorem rfind_hit {P : KeyR → Bool} {l : List KeyR} {n : Nat} (h : n < l.length) (hno : ∀ m, n < m → m < l.length → P (keyAt l m) = false) (hp : P (keyAt l n) = true) : l.reverse.find? P = some (keyAt l n) := by
  have e : l = l.take n ++ keyAt l n :: l.drop (n + 1) := by
    rw [keyAt_eq h, ← List.drop_eq_getElem_cons h, List.take_append_drop]
  have hn : (l.drop (n + 1)).reverse.find? P = none := by
    rw [List.find?_eq_none]
    intro k hk
    obtain ⟨m, hm, rfl⟩ := List.getElem_of_mem (List.mem_reverse.1 hk)
    rw [List.length_drop] at hm
    have := hno (n + 1 + m) (by omega) (by omega)
    rw [keyAt_eq (by omega)] at this
    rw [List.getElem_drop]
    simp [this]
  have e2 : l.reverse = (l.drop (n + 1)).reverse ++ keyAt l n :: (l.take n).reverse := by
    have := congrArg List.reverse e
    rw [List.reverse_append, List.reverse_cons, List.append_assoc] at this
    exact this
  rw [e2, List.find?_append, hn, List.find?_cons, hp]
  rfl
theorem rfind_miss {P : KeyR → Bool} {l : List KeyR} (h : ∀ m < l.length, P (keyAt l m) = false) : l.reverse.find? P = none := by
  rw [List.find?_eq_none]
  intro k hk
  obtain ⟨m, hm, rfl⟩ := List.getElem_of_mem (List.mem_reverse.1 hk)
  have := h m hm
  rw [keyAt_eq hm] at this
  simp [this]
end Go.Abs
end

section
namespace Go.Abs
theorem keysL_set {l : List KeyR} {i : Nat} (k : KeyR) (h : i < l.length) : splice (keysL l) (i * 9) (keyL k) = keysL (l.set i k) := by
  have h9 : i * 9 + (keyL k).length = (i + 1) * 9 := by simp; omega
  rw [splice, h9, keysL_take, keysL_drop, List.append_assoc, ← keysL_cons, ← keysL_app]
  congr 1
  rw [List.set_eq_take_append_cons_drop, if_pos h]
def putK (t : TabR) (k : KeyR) : TabR × Int :=
  if okK k = true ∧ k.par < t.next then (if bseK t.keys k.id = true then (⟨t.next, t.keys.set (lbK t.keys k.id) k⟩, 0) else (⟨0, []⟩, 11)) else (⟨0, []⟩, 1)
def tabA (n' : Option Bool) (t : TabR) (e : Int) : AVal := .agg (tabL (if e = 0 then n' else none) t)
def putC (n' : Option Bool) : Contract := ⟨fun ds => ∃ (nl : Option Bool) (t : TabR) (k : KeyR), tOk t ∧ kOk k ∧ ds = [.agg (tabL nl t), .agg (keyL k)],
  fun ds => let r := putK (gTab (gCs (nth ds 0))) (gKey (gCs (nth ds 1))); .tup [tabA n' r.1 r.2, i64 r.2]⟩
theorem put_pre (n' : Option Bool) {nl : Option Bool} {t : TabR} {k : KeyR} (h : tOk t) (hk : kOk k) : (putC n').pre [.agg (tabL nl t), .agg (keyL k)] = True := eq_true ⟨nl, t, k, h, hk, rfl⟩
theorem put_post (n' nl : Option Bool) (t : TabR) (k : KeyR) : (putC n').post [.agg (tabL nl t), .agg (keyL k)] = .tup [tabA n' (putK t k).1 (putK t k).2, i64 (putK t k).2] := by
  show AVal.tup [tabA n' (putK (gTab (tabL nl t)) (gKey (keyL k))).1 (putK (gTab (tabL nl t)) (gKey (keyL k))).2, i64 (putK (gTab (tabL nl t)) (gKey (keyL k))).2] = _
  rw [gTab_tabL, gKey_keyL]
/-! ### A key added -/
def addK (t : TabR) (k : KeyR) : TabR × Int × Int :=
  if okK k = true ∧ k.par < t.next then (if t.keys.length < 4096 ∧ t.next < topN then (⟨t.next + 1, t.keys ++ [{ k with id := t.next }]⟩, t.next, 0) else (⟨0, []⟩, 0, 2)) else (⟨0, []⟩, 0, 1)
def addKC (n' : Option Bool) : Contract := ⟨fun ds => ∃ (nl : Option Bool) (t : TabR) (k : KeyR), tOk t ∧ isI64 t.next ∧ kOk k ∧ ds = [.agg (tabL nl t), .agg (keyL k)],
  fun ds => let r := addK (gTab (gCs (nth ds 0))) (gKey (gCs (nth ds 1))); .tup [tabA n' r.1 r.2.2, i64 r.2.1, i64 r.2.2]⟩
theorem addK_pre (n' : Option Bool) {nl : Option Bool} {t : TabR} {k : KeyR} (h : tOk t) (hn : isI64 t.next) (hk : kOk k) : (addKC n').pre [.agg (tabL nl t), .agg (keyL k)] = True := eq_true ⟨nl, t, k, h, hn, hk, rfl⟩
theorem addK_post (n' nl : Option Bool) (t : TabR) (k : KeyR) : (addKC n').post [.agg (tabL nl t), .agg (keyL k)] = .tup [tabA n' (addK t k).1 (addK t k).2.2, i64 (addK t k).2.1, i64 (addK t k).2.2] := by
  show AVal.tup [tabA n' (addK (gTab (tabL nl t)) (gKey (keyL k))).1 (addK (gTab (tabL nl t)) (gKey (keyL k))).2.2, i64 (addK (gTab (tabL nl t)) (gKey (keyL k))).2.1, i64 (addK (gTab (tabL nl t)) (gKey (keyL k))).2.2] = _
  rw [gTab_tabL, gKey_keyL]
def raddC (n' : Option Bool) : Contract := ⟨(addKC n').pre,
  fun ds => let r := addK (gTab (gCs (nth ds 0))) (gKey (gCs (nth ds 1))); .agg (tabL (if r.2.2 = 0 then n' else none) r.1 ++ [i64 r.2.1, i64 r.2.2])⟩
theorem radd_pre (n' : Option Bool) {nl : Option Bool} {t : TabR} {k : KeyR} (h : tOk t) (hn : isI64 t.next) (hk : kOk k) : (raddC n').pre [.agg (tabL nl t), .agg (keyL k)] = True := eq_true ⟨nl, t, k, h, hn, hk, rfl⟩
theorem radd_post (n' nl : Option Bool) (t : TabR) (k : KeyR) : (raddC n').post [.agg (tabL nl t), .agg (keyL k)] = .agg (tabL (if (addK t k).2.2 = 0 then n' else none) (addK t k).1 ++ [i64 (addK t k).2.1, i64 (addK t k).2.2]) := by
  show AVal.agg (tabL (if (addK (gTab (tabL nl t)) (gKey (keyL k))).2.2 = 0 then n' else none) (addK (gTab (tabL nl t)) (gKey (keyL k))).1 ++ [i64 (addK (gTab (tabL nl t)) (gKey (keyL k))).2.1, i64 (addK (gTab (tabL nl t)) (gKey (keyL k))).2.2]) = _
  rw [gTab_tabL, gKey_keyL]
end Go.Abs
end

section
namespace Go.Abs
set_option maxRecDepth 100000
theorem within_ok (E : Env) : ∀ ds, withC.pre ds → ds.length = f_keys_within.n ∧ awp E f_keys_within.body (retQ f_keys_within.res (withC.post ds)) (initSt f_keys_within.wr ds) := by
  rintro _ ⟨n, lo, hi, rfl⟩
  by_cases h : lo ≤ n
  · simp (maxSteps := 1000000) (disch := first | omega | (simp; done) | (simp; omega)) [W_id, bys_app, bys_snoc, f_keys_within, h, inB, kT, kF, dT, dF]
  · simp (maxSteps := 1000000) (disch := first | omega | (simp; done) | (simp; omega)) [W_id, bys_app, bys_snoc, f_keys_within, h, inB, kT, kF, dT, dF]
theorem rwithin_ok (E : Env) : ∀ ds, withC.pre ds → ds.length = f_custodyref27_within.n ∧ awp E f_custodyref27_within.body (retQ f_custodyref27_within.res (withC.post ds)) (initSt f_custodyref27_within.wr ds) := by
  rintro _ ⟨n, lo, hi, rfl⟩
  by_cases h : lo ≤ n
  · simp (maxSteps := 1000000) (disch := first | omega | (simp; done) | (simp; omega)) [W_id, bys_app, bys_snoc, f_custodyref27_within, h, inB, kT, kF, dT, dF]
  · simp (maxSteps := 1000000) (disch := first | omega | (simp; done) | (simp; omega)) [W_id, bys_app, bys_snoc, f_custodyref27_within, h, inB, kT, kF, dT, dF]
theorem live_ok (E : Env) : ∀ ds, liveC.pre ds → ds.length = f_keys_Live.n ∧ awp E f_keys_Live.body (retQ f_keys_Live.res (liveC.post ds)) (initSt f_keys_Live.wr ds) := by
  rintro _ ⟨k, now, hk, rfl⟩
  rw [live_post]
  by_cases h : k.beg ≤ now
  · simp (maxSteps := 1000000) (disch := first | omega | (simp; done) | (simp; omega)) [W_id, bys_app, bys_snoc, f_keys_Live, h, liveK, kT, kF, dT, dF, keyL]
  · simp (maxSteps := 1000000) (disch := first | omega | (simp; done) | (simp; omega)) [W_id, bys_app, bys_snoc, f_keys_Live, h, liveK, kT, kF, dT, dF, keyL]
theorem rlive_ok (E : Env) : ∀ ds, liveC.pre ds → ds.length = f_custodyref27_Live.n ∧ awp E f_custodyref27_Live.body (retQ f_custodyref27_Live.res (liveC.post ds)) (initSt f_custodyref27_Live.wr ds) := by
  rintro _ ⟨k, now, hk, rfl⟩
  rw [live_post]
  by_cases h : k.beg ≤ now
  · simp (maxSteps := 1000000) (disch := first | omega | (simp; done) | (simp; omega)) [W_id, bys_app, bys_snoc, f_custodyref27_Live, h, liveK, kT, kF, dT, dF, keyL]
  · simp (maxSteps := 1000000) (disch := first | omega | (simp; done) | (simp; omega)) [W_id, bys_app, bys_snoc, f_custodyref27_Live, h, liveK, kT, kF, dT, dF, keyL]
theorem subset_ok (E : Env) : ∀ ds, subUC.pre ds → ds.length = f_perm_Subset.n ∧ awp E f_perm_Subset.body (retQ f_perm_Subset.res (subUC.post ds)) (initSt f_perm_Subset.wr ds) := by
  rintro _ ⟨a, b, ha, rfl⟩
  simp (maxSteps := 1000000) (disch := first | omega | (simp; done) | (simp; omega)) [W_id, bys_app, bys_snoc, f_perm_Subset, subU]
theorem rsubset_ok (E : Env) : ∀ ds, subUC.pre ds → ds.length = f_custodyref14_Subset.n ∧ awp E f_custodyref14_Subset.body (retQ f_custodyref14_Subset.res (subUC.post ds)) (initSt f_custodyref14_Subset.wr ds) := by
  rintro _ ⟨a, b, ha, rfl⟩
  rw [subU_post, subU_eq ha]
  simp (maxSteps := 1000000) (disch := first | omega | (simp; done) | (simp; omega)) [W_id, bys_app, bys_snoc, f_custodyref14_Subset]
theorem nan_ok (E : Env) : ∀ ds, nanC.pre ds → ds.length = f_cmp_isNaN.n ∧ awp E f_cmp_isNaN.body (retQ f_cmp_isNaN.res (nanC.post ds)) (initSt f_cmp_isNaN.wr ds) := by
  rintro _ ⟨a, rfl⟩
  simp (maxSteps := 1000000) (disch := first | omega | (simp; done) | (simp; omega)) [W_id, bys_app, bys_snoc, f_cmp_isNaN]
theorem cmp_ok (E : Env) (h256 : E.G 256 = nanC) : ∀ ds, cmpC.pre ds → ds.length = f_cmp_Compare.n ∧ awp E f_cmp_Compare.body (retQ f_cmp_Compare.res (cmpC.post ds)) (initSt f_cmp_Compare.wr ds) := by
  rintro _ ⟨a, b, rfl⟩
  by_cases h : a < b
  · simp (maxSteps := 1000000) (disch := first | omega | (simp; done) | (simp; omega)) [W_id, bys_app, bys_snoc, f_cmp_Compare, f_cmp_Compare_r0, f_cmp_Compare_r1, f_cmp_Compare_r2, f_cmp_Compare_r3, f_cmp_Compare_r4, h256, h, cmpI, kT, kF, dT, dF]
  · by_cases h2 : b < a
    · simp (maxSteps := 1000000) (disch := first | omega | (simp; done) | (simp; omega)) [W_id, bys_app, bys_snoc, f_cmp_Compare, f_cmp_Compare_r0, f_cmp_Compare_r1, f_cmp_Compare_r2, f_cmp_Compare_r3, f_cmp_Compare_r4, h256, h, h2, cmpI, kT, kF, dT, dF]
    · simp (maxSteps := 1000000) (disch := first | omega | (simp; done) | (simp; omega)) [W_id, bys_app, bys_snoc, f_cmp_Compare, f_cmp_Compare_r0, f_cmp_Compare_r1, f_cmp_Compare_r2, f_cmp_Compare_r3, f_cmp_Compare_r4, h256, h, h2, cmpI, kT, kF, dT, dF]
theorem cmpK_ok (E : Env) (h255 : E.G 255 = cmpC) : ∀ ds, cmpK.pre ds → ds.length = f_keys_find_1.n ∧ awp E f_keys_find_1.body (retQ f_keys_find_1.res (cmpK.post ds)) (initSt f_keys_find_1.wr ds) := by
  rintro _ ⟨k, b, rfl⟩
  rw [cmpK_post]
  simp (maxSteps := 1000000) (disch := first | omega | (simp; done) | (simp; omega)) [W_id, bys_app, bys_snoc, f_keys_find_1, h255, keyL]
end Go.Abs
end

section
namespace Go.Abs
set_option maxRecDepth 100000
set_option maxHeartbeats 8000000 in
theorem valid_ok (E : Env) (h254 : E.G 254 = withC) : ∀ ds, okKC.pre ds → ds.length = f_keys_Valid.n ∧ awp E f_keys_Valid.body (retQ f_keys_Valid.res (okKC.post ds)) (initSt f_keys_Valid.wr ds) := by
  rintro _ ⟨k, hk, rfl⟩
  rw [okK_post, okK]
  have hv := hk.2.2.1
  have e : ((k.val.length : Int) == 32) = (k.val.length == 32) := by
    by_cases h : k.val.length = 32
    · rw [h]; rfl
    · rw [beq_false_of_ne h, beq_false_of_ne (by omega)]
  have es : (andNotI k.uses 956 == 0) = subU k.uses 956 := rfl
  generalize h1 : inB k.ty 0 31 = b1
  generalize h2 : (k.val.length == 32) = b2 at *
  generalize h3 : subU k.uses 956 = b3 at *
  generalize h4 : inB k.beg 0 k.fin = b4
  generalize h5 : inB k.fin 0 maxT = b5
  generalize h6 : inB k.ver 1 topN = b6
  generalize h7 : inB k.par 0 topN = b7
  have h5' : inB k.fin 0 1099511627776 = b5 := h5
  have h6' : inB k.ver 1 2147483647 = b6 := h6
  have h7' : inB k.par 0 2147483647 = b7 := h7
  cases b1
  · simp (maxSteps := 1000000) (disch := first | omega | (simp; done) | (simp; omega)) [W_id, bys_app, bys_snoc, f_keys_Valid, keyL, h254, h1, kT, kF, dT, dF]
  cases b2
  · simp (maxSteps := 1000000) (disch := first | omega | (simp; done) | (simp; omega)) [W_id, bys_app, bys_snoc, f_keys_Valid, keyL, h254, h1, e, kT, kF, dT, dF]
  cases b3
  · simp (maxSteps := 1000000) (disch := first | omega | (simp; done) | (simp; omega)) [W_id, bys_app, bys_snoc, f_keys_Valid, keyL, h254, h1, e, es, kT, kF, dT, dF]
  cases b4
  · simp (maxSteps := 1000000) (disch := first | omega | (simp; done) | (simp; omega)) [W_id, bys_app, bys_snoc, f_keys_Valid, keyL, h254, h1, e, es, h4, kT, kF, dT, dF]
  cases b5
  · simp (maxSteps := 1000000) (disch := first | omega | (simp; done) | (simp; omega)) [W_id, bys_app, bys_snoc, f_keys_Valid, keyL, h254, h1, e, es, h4, h5', kT, kF, dT, dF]
  cases b6
  · simp (maxSteps := 1000000) (disch := first | omega | (simp; done) | (simp; omega)) [W_id, bys_app, bys_snoc, f_keys_Valid, keyL, h254, h1, e, es, h4, h5', h6', kT, kF, dT, dF]
  · simp (maxSteps := 1000000) (disch := first | omega | (simp; done) | (simp; omega)) [W_id, bys_app, bys_snoc, f_keys_Valid, keyL, h254, h1, e, es, h4, h5', h6', h7', kT, kF, dT, dF]
theorem okK_ref (k : KeyR) : okK k = (inB k.ty 0 31 && (k.val.length == 32) && subU k.uses 956 && inB k.beg 0 maxT && inB k.fin k.beg maxT && inB k.ver 1 topN && inB k.par 0 topN) := by
  have h : (inB k.beg 0 k.fin && inB k.fin 0 maxT) = (inB k.beg 0 maxT && inB k.fin k.beg maxT) := by
    rw [Bool.eq_iff_iff]
    simp only [inB, Bool.and_eq_true, decide_eq_true_eq]
    omega
  rw [okK, Bool.and_assoc (inB k.ty 0 31 && (k.val.length == 32) && subU k.uses 956), h, ← Bool.and_assoc (inB k.ty 0 31 && (k.val.length == 32) && subU k.uses 956)]
set_option maxHeartbeats 8000000 in
theorem rvalid_ok (E : Env) (h272 : E.G 272 = withC) : ∀ ds, okKC.pre ds → ds.length = f_custodyref27_Valid.n ∧ awp E f_custodyref27_Valid.body (retQ f_custodyref27_Valid.res (okKC.post ds)) (initSt f_custodyref27_Valid.wr ds) := by
  rintro _ ⟨k, hk, rfl⟩
  rw [okK_post, okK_ref]
  have hv := hk.2.2.1
  have e : ((k.val.length : Int) == 32) = (k.val.length == 32) := by
    by_cases h : k.val.length = 32
    · rw [h]; rfl
    · rw [beq_false_of_ne h, beq_false_of_ne (by omega)]
  have es : (andI k.uses 956 == k.uses) = subU k.uses 956 := (subU_eq hk.2.2.2.1).symm
  generalize h1 : inB k.ty 0 31 = b1
  generalize h2 : (k.val.length == 32) = b2 at *
  generalize h3 : subU k.uses 956 = b3 at *
  generalize h4 : inB k.beg 0 maxT = b4
  generalize h5 : inB k.fin k.beg maxT = b5
  generalize h6 : inB k.ver 1 topN = b6
  generalize h7 : inB k.par 0 topN = b7
  have h4' : inB k.beg 0 1099511627776 = b4 := h4
  have h5' : inB k.fin k.beg 1099511627776 = b5 := h5
  have h6' : inB k.ver 1 2147483647 = b6 := h6
  have h7' : inB k.par 0 2147483647 = b7 := h7
  cases b1
  · simp (maxSteps := 1000000) (disch := first | omega | (simp; done) | (simp; omega)) [W_id, bys_app, bys_snoc, f_custodyref27_Valid, keyL, h272, h1, kT, kF, dT, dF]
  cases b2
  · simp (maxSteps := 1000000) (disch := first | omega | (simp; done) | (simp; omega)) [W_id, bys_app, bys_snoc, f_custodyref27_Valid, keyL, h272, h1, e, kT, kF, dT, dF]
  cases b3
  · simp (maxSteps := 1000000) (disch := first | omega | (simp; done) | (simp; omega)) [W_id, bys_app, bys_snoc, f_custodyref27_Valid, keyL, h272, h1, e, es, kT, kF, dT, dF]
  cases b4
  · simp (maxSteps := 1000000) (disch := first | omega | (simp; done) | (simp; omega)) [W_id, bys_app, bys_snoc, f_custodyref27_Valid, keyL, h272, h1, e, es, h4', kT, kF, dT, dF]
  cases b5
  · simp (maxSteps := 1000000) (disch := first | omega | (simp; done) | (simp; omega)) [W_id, bys_app, bys_snoc, f_custodyref27_Valid, keyL, h272, h1, e, es, h4', h5', kT, kF, dT, dF]
  cases b6
  · simp (maxSteps := 1000000) (disch := first | omega | (simp; done) | (simp; omega)) [W_id, bys_app, bys_snoc, f_custodyref27_Valid, keyL, h272, h1, e, es, h4', h5', h6', kT, kF, dT, dF]
  · simp (maxSteps := 1000000) (disch := first | omega | (simp; done) | (simp; omega)) [W_id, bys_app, bys_snoc, f_custodyref27_Valid, keyL, h272, h1, e, es, h4', h5', h6', h7', kT, kF, dT, dF]
end Go.Abs
end

section
namespace Go.Abs
set_option maxRecDepth 100000
theorem exists_ok (E : Env) : ∀ ds, exiC.pre ds → ds.length = f_perm_exists.n ∧ awp E f_perm_exists.body (retQ f_perm_exists.res (exiC.post ds)) (initSt f_perm_exists.wr ds) := by
  rintro _ ⟨na, nb, nc, p, t, hp, ht, rfl⟩
  rw [exi_post, hasTy]
  have hl := hp.1
  by_cases h : 0 ≤ t
  · by_cases h2 : t < p.types.length
    · simp (maxSteps := 1000000) (disch := first | omega | (simp; done) | (simp; omega)) [W_id, bys_app, bys_snoc, f_perm_exists, polL, h, h2, kT, kF, dT, dF]
    · simp (maxSteps := 1000000) (disch := first | omega | (simp; done) | (simp; omega)) [W_id, bys_app, bys_snoc, f_perm_exists, polL, h, h2, kT, kF, dT, dF]
  · simp (maxSteps := 1000000) (disch := first | omega | (simp; done) | (simp; omega)) [W_id, bys_app, bys_snoc, f_perm_exists, polL, h, kT, kF, dT, dF]
theorem is_ok (E : Env) : ∀ ds, exiC.pre ds → ds.length = f_custodyref14_is.n ∧ awp E f_custodyref14_is.body (retQ f_custodyref14_is.res (exiC.post ds)) (initSt f_custodyref14_is.wr ds) := by
  rintro _ ⟨na, nb, nc, p, t, hp, ht, rfl⟩
  rw [exi_post, hasTy]
  have hl := hp.1
  by_cases h : 0 ≤ t
  · by_cases h2 : t < p.types.length
    · simp (maxSteps := 1000000) (disch := first | omega | (simp; done) | (simp; omega)) [W_id, bys_app, bys_snoc, f_custodyref14_is, polL, h, h2, kT, kF, dT, dF]
    · simp (maxSteps := 1000000) (disch := first | omega | (simp; done) | (simp; omega)) [W_id, bys_app, bys_snoc, f_custodyref14_is, polL, h, h2, kT, kF, dT, dF]
  · simp (maxSteps := 1000000) (disch := first | omega | (simp; done) | (simp; omega)) [W_id, bys_app, bys_snoc, f_custodyref14_is, polL, h, kT, kF, dT, dF]
theorem has_ok (E : Env) (h251 : E.G 251 = exiC) (h245 : E.G 245 = subUC) : ∀ ds, hasC.pre ds → ds.length = f_perm_Has.n ∧ awp E f_perm_Has.body (retQ f_perm_Has.res (hasC.post ds)) (initSt f_perm_Has.wr ds) := by
  rintro _ ⟨na, nb, nc, p, t, f, hp, ht, hf, rfl⟩
  rw [has_post, hasP]
  have hl := hp.1
  have e1 := exi_pre (na := na) (nb := nb) (nc := nc) hp ht
  have e2 := exi_post na nb nc p t
  cases hb : hasTy p t with
  | false =>
    rw [hb] at e2
    simp (maxSteps := 1000000) (disch := first | omega | (simp; done) | (simp; omega)) [W_id, bys_app, bys_snoc, f_perm_Has, h251, e1, e2, kT, kF, dT, dF]
  | true =>
    rw [hb] at e2
    have hr : 0 ≤ t ∧ t < p.types.length := by simpa [hasTy] using hb
    obtain ⟨n, rfl⟩ := Int.eq_ofNat_of_zero_le hr.1
    have hn : n < p.types.length := by omega
    have f1 := typsL_f1 hn
    have es : tyAt p n = p.types.getD n ⟨[], 0, 0⟩ := rfl
    rw [es]
    generalize (p.types.getD n ⟨[], 0, 0⟩).flags = fl at *
    simp (maxSteps := 1000000) (disch := first | omega | (simp; done) | (simp; omega)) [W_id, bys_app, bys_snoc, f_perm_Has, h251, e1, e2, kT, kF, dT, dF, f1, h245, subU_pre hf]
    omega
theorem rhas_ok (E : Env) (h276 : E.G 276 = exiC) (h275 : E.G 275 = subUC) : ∀ ds, hasC.pre ds → ds.length = f_custodyref14_Has.n ∧ awp E f_custodyref14_Has.body (retQ f_custodyref14_Has.res (hasC.post ds)) (initSt f_custodyref14_Has.wr ds) := by
  rintro _ ⟨na, nb, nc, p, t, f, hp, ht, hf, rfl⟩
  rw [has_post, hasP]
  have hl := hp.1
  have e1 := exi_pre (na := na) (nb := nb) (nc := nc) hp ht
  have e2 := exi_post na nb nc p t
  cases hb : hasTy p t with
  | false =>
    rw [hb] at e2
    simp (maxSteps := 1000000) (disch := first | omega | (simp; done) | (simp; omega)) [W_id, bys_app, bys_snoc, f_custodyref14_Has, h276, e1, e2, kT, kF, dT, dF]
  | true =>
    rw [hb] at e2
    have hr : 0 ≤ t ∧ t < p.types.length := by simpa [hasTy] using hb
    obtain ⟨n, rfl⟩ := Int.eq_ofNat_of_zero_le hr.1
    have hn : n < p.types.length := by omega
    have f1 := typsL_f1 hn
    have es : tyAt p n = p.types.getD n ⟨[], 0, 0⟩ := rfl
    rw [es]
    generalize (p.types.getD n ⟨[], 0, 0⟩).flags = fl at *
    simp (maxSteps := 1000000) (disch := first | omega | (simp; done) | (simp; omega)) [W_id, bys_app, bys_snoc, f_custodyref14_Has, h276, e1, e2, kT, kF, dT, dF, f1, h275, subU_pre hf]
    omega
end Go.Abs
end

section
namespace Go.Abs
set_option maxRecDepth 100000
theorem natU64 {n : Nat} (h : n < 18446744073709551616) : (UInt64.ofInt (n : Int)).toNat = n := by
  rw [ofInt64]; omega
theorem shrN_nat (x : UInt64) (k : Nat) (hk : k < 64) : (shr64 x k).toNat = x.toNat / 2 ^ k := by
  simp [shr64, Nat.shiftRight_eq_div_pow]
theorem mid_eq {i j : Nat} (hi : i ≤ 1000000000) (hj : j ≤ 1000000000) : W ((shr64 (UInt64.ofInt (i : Int) + UInt64.ofInt (j : Int)) 1).toNat : Int) = (((i + j) / 2 : Nat) : Int) := by
  rw [shrN_nat _ _ (by decide), UInt64.toNat_add, natU64 (by omega), natU64 (by omega), Nat.mod_eq_of_lt (by omega)]
  exact W_id (by omega) (by omega)
set_option maxHeartbeats 4000000 in
theorem bse_ok (E : Env) (h253 : E.G 253 = cmpK) : ∀ ds, bseC.pre ds → ds.length = f_slices_BinarySearchFunc_keys_find_1.n ∧ awp E f_slices_BinarySearchFunc_keys_find_1.body (retQ f_slices_BinarySearchFunc_keys_find_1.res (bseC.post ds)) (initSt f_slices_BinarySearchFunc_keys_find_1.wr ds) := by
  rintro _ ⟨nl, l, t, hs, hl, rfl⟩
  rw [keysA, bse_post]
  have hlen : l.length ≤ 100000000 := hl
  simp (maxSteps := 1000000) (disch := first | omega | (simp; done) | (simp; omega)) [W_id, bys_app, bys_snoc, f_slices_BinarySearchFunc_keys_find_1]
  refine awp_name fun Q0 hQ0 => ?_
  refine awp_for (fun p : Nat × Nat => ⟨[(0, .sl .plain nl l.length (keysL l)), (1, i64 t), (2, .fn 253 [] [])], [(8, i64 l.length), (9, i64 p.1), (10, i64 p.2)], []⟩) (fun p => p.2 - p.1) (fun p => p.1 ≤ p.2 ∧ p.2 ≤ l.length ∧ (∀ m < p.1, (keyAt l m).id < t) ∧ ∀ m, p.2 ≤ m → m < l.length → t ≤ (keyAt l m).id) (0, l.length) (by simp) ⟨by simp, by simp, fun m h => by simp at h, fun m h h' => by omega⟩ fun p hp => ?_
  obtain ⟨i, j⟩ := p
  obtain ⟨h1, h2, h3, h4⟩ := hp
  simp only at h1 h2 h3 h4 ⊢
  refine awp_name fun Q1 hQ1 => ?_
  by_cases h : i < j
  · have lt : (i : Int) < j := by omega
    have me := mid_eq (i := i) (j := j) (by omega) (by omega)
    obtain ⟨m, hm⟩ : ∃ m, m = (i + j) / 2 := ⟨_, rfl⟩
    rw [← hm] at me
    have m1 : i ≤ m := by omega
    have m2 : m < j := by omega
    clear hm
    have ka := keysL_at (l := l) (i := m) (by omega)
    have hb : ∀ j', j' < m → (keyAt l j').id < (keyAt l m).id := fun j' hj' => srt_at hs hj' (by omega)
    have ha : ∀ j', m < j' → j' < l.length → (keyAt l m).id < (keyAt l j').id := fun j' hj' hl' => srt_at hs hj' hl'
    by_cases hc : (keyAt l m).id < t
    · have c1 : cmpI (keyAt l m).id t < 0 := by rw [cmpI, if_pos hc]; decide
      have h3' : ∀ m' < m + 1, (keyAt l m').id < t := fun m' hm' => by
        rcases Nat.lt_or_eq_of_le (Nat.lt_succ_iff.1 hm') with e | e
        · have := hb m' e; omega
        · rw [e]; exact hc
      generalize keyAt l m = k at *
      simp (maxSteps := 1000000) (disch := first | omega | (simp; done) | (simp; omega)) [W_id, bys_app, bys_snoc, f_slices_BinarySearchFunc_keys_find_1_l0, f_slices_BinarySearchFunc_keys_find_1_r0, lt, kT, kF, dT, dF, me, ka, h253, c1, hQ1]
      exact ⟨by omega, by omega, m + 1, j, by omega, ⟨by omega, h2, h3', h4⟩, by omega, rfl⟩
    · have c1 : ¬ cmpI (keyAt l m).id t < 0 := by rw [cmpI, if_neg hc]; split <;> decide
      have h4' : ∀ m', m ≤ m' → m' < l.length → t ≤ (keyAt l m').id := fun m' hm' hl' => by
        rcases Nat.lt_or_eq_of_le hm' with e | e
        · have := ha m' e hl'; omega
        · rw [← e]; omega
      generalize keyAt l m = k at *
      simp (maxSteps := 1000000) (disch := first | omega | (simp; done) | (simp; omega)) [W_id, bys_app, bys_snoc, f_slices_BinarySearchFunc_keys_find_1_l0, f_slices_BinarySearchFunc_keys_find_1_r0, lt, kT, kF, dT, dF, me, ka, h253, c1, hQ1]
      exact ⟨by omega, by omega, i, m, by omega, ⟨by omega, by omega, h3, h4'⟩, rfl, rfl⟩
  · have lt : ¬ (i : Int) < j := by omega
    have hij : i = j := by omega
    subst hij
    have hlb := lbK_eq h2 h3 h4
    by_cases hn : i < l.length
    · have ka := keysL_at (l := l) (i := i) hn
      have hbs : bseK l t = (cmpI (keyAt l i).id t == 0) := by
        rw [bseK, hlb, decide_eq_true hn, Bool.true_and]
        by_cases he : (keyAt l i).id = t
        · rw [he]; simp [cmpI]
        · rw [beq_false_of_ne he, cmpI]
          split
          · rfl
          · split
            · rfl
            · omega
      generalize keyAt l i = k at *
      simp (maxSteps := 1000000) (disch := first | omega | (simp; done) | (simp; omega)) [W_id, bys_app, bys_snoc, f_slices_BinarySearchFunc_keys_find_1_l0, f_slices_BinarySearchFunc_keys_find_1_r1, lt, kT, kF, dT, dF, hQ1, hQ0, hn, ka, h253, hbs, hlb]
      omega
    · have hbs : bseK l t = false := by rw [bseK, hlb, decide_eq_false hn]; rfl
      simp (maxSteps := 1000000) (disch := first | omega | (simp; done) | (simp; omega)) [W_id, bys_app, bys_snoc, f_slices_BinarySearchFunc_keys_find_1_l0, f_slices_BinarySearchFunc_keys_find_1_r1, lt, kT, kF, dT, dF, hQ1, hQ0, hn, h253, hbs, hlb]
      skip
end Go.Abs
end

section
namespace Go.Abs
set_option maxRecDepth 100000
theorem find_ok (E : Env) (h252 : E.G 252 = bseC) : ∀ ds, finC.pre ds → ds.length = f_keys_find.n ∧ awp E f_keys_find.body (retQ f_keys_find.res (finC.post ds)) (initSt f_keys_find.wr ds) := by
  rintro _ ⟨nl, t, i, ⟨hs, hl⟩, rfl⟩
  rw [fin_post, finA]
  have e1 := bse_pre (nl := nl) i hs hl
  have e2 := bse_post nl t.keys i (.fn 253 [] [])
  cases hb : bseK t.keys i with
  | true =>
    rw [hb] at e2
    simp (maxSteps := 1000000) (disch := first | omega | (simp; done) | (simp; omega)) [W_id, bys_app, bys_snoc, f_keys_find, f_keys_find_r0, h252, e1, e2, kT, kF, dT, dF]
    exact ⟨fun v h => (by cases h), fun v h => (by cases h)⟩
  | false =>
    rw [hb] at e2
    simp (maxSteps := 1000000) (disch := first | omega | (simp; done) | (simp; omega)) [W_id, bys_app, bys_snoc, f_keys_find, f_keys_find_r0, h252, e1, e2, kT, kF, dT, dF]
    exact ⟨fun v h => (by cases h), fun v h => (by cases h)⟩
theorem get_ok (E : Env) (h242 : E.G 242 = finC) : ∀ ds, getC.pre ds → ds.length = f_keys_Get.n ∧ awp E f_keys_Get.body (retQ f_keys_Get.res (getC.post ds)) (initSt f_keys_Get.wr ds) := by
  rintro _ ⟨nl, t, i, ⟨hs, hl⟩, rfl⟩
  rw [get_post, bse_get hs]
  have e1 := fin_pre (nl := nl) (t := t) i ⟨hs, hl⟩
  have e2 := fin_post nl t i
  rw [finA] at e2
  have hlen : t.keys.length ≤ 100000000 := hl
  cases hb : bseK t.keys i with
  | true =>
    rw [hb] at e2
    have hn : lbK t.keys i < t.keys.length := by
      simp only [bseK, Bool.and_eq_true, decide_eq_true_eq] at hb; exact hb.1
    have ka := keysL_at hn
    simp only [if_true] at e2 ⊢
    generalize lbK t.keys i = n at *
    generalize keyAt t.keys n = k at *
    simp (maxSteps := 1000000) (disch := first | omega | (simp; done) | (simp; omega)) [W_id, bys_app, bys_snoc, f_keys_Get, f_keys_Get_r0, h242, e1, e2, kT, kF, dT, dF, getA, ka, spl_9]
    omega
  | false =>
    rw [hb] at e2
    simp only [Bool.false_eq_true, if_false] at e2 ⊢
    simp (maxSteps := 1000000) (disch := first | omega | (simp; done) | (simp; omega)) [W_id, bys_app, bys_snoc, f_keys_Get, f_keys_Get_r0, h242, e1, e2, kT, kF, dT, dF, getA, key0_R, spl_k]
    skip
theorem at_ok (E : Env) : ∀ ds, atC.pre ds → ds.length = f_custodyref27_at.n ∧ awp E f_custodyref27_at.body (retQ f_custodyref27_at.res (atC.post ds)) (initSt f_custodyref27_at.wr ds) := by
  rintro _ ⟨nl, t, i, ⟨hs, hl⟩, rfl⟩
  rw [at_post]
  have hlen : t.keys.length ≤ 100000000 := hl
  simp (maxSteps := 1000000) (disch := first | omega | (simp; done) | (simp; omega)) [W_id, bys_app, bys_snoc, f_custodyref27_at]
  refine awp_name fun Q0 hQ0 => ?_
  refine awp_for (fun n : Nat => ⟨[(0, .agg (tabL nl t)), (1, i64 i)], [(2, .bp 2 0), (5, i64 n)], [(2, some (tabL nl t))]⟩) (fun n => t.keys.length - n) (fun n => n ≤ t.keys.length ∧ ∀ m < n, (keyAt t.keys m).id ≠ i) 0 (by simp) ⟨by omega, fun m h => by omega⟩ fun n hn => ?_
  obtain ⟨hn, hno⟩ := hn
  by_cases h : n < t.keys.length
  · have lt : (n : Int) < t.keys.length := by omega
    have k0 := keysL_f0 h
    by_cases he : (keyAt t.keys n).id = i
    · obtain ⟨b1, b2⟩ := bse_hit hs h he
      rw [he] at k0
      simp (maxSteps := 1000000) (disch := first | omega | (simp; done) | (simp; omega)) [W_id, bys_app, bys_snoc, f_custodyref27_at_l0, f_custodyref27_at_r0, lt, kT, kF, dT, dF, k0, hQ0, b1, b2]
      omega
    · have b1 : ((keyAt t.keys n).id == i) = false := beq_false_of_ne he
      have hno' : ∀ m < n + 1, (keyAt t.keys m).id ≠ i := fun m hm => by
        rcases Nat.lt_or_eq_of_le (Nat.lt_succ_iff.1 hm) with e | e
        · exact hno m e
        · rw [e]; exact he
      generalize keyAt t.keys n = k at *
      simp (maxSteps := 1000000) (disch := first | omega | (simp; done) | (simp; omega)) [W_id, bys_app, bys_snoc, f_custodyref27_at_l0, f_custodyref27_at_r0, lt, kT, kF, dT, dF, k0, b1]
      exact ⟨by omega, n + 1, by omega, ⟨by omega, hno'⟩, by omega⟩
  · have lt : ¬ (n : Int) < t.keys.length := by omega
    have hm := bse_miss (l := t.keys) (i := i) (fun m hm => hno m (by omega))
    simp (maxSteps := 1000000) (disch := first | omega | (simp; done) | (simp; omega)) [W_id, bys_app, bys_snoc, f_custodyref27_at_l0, f_custodyref27_at_r1, lt, kT, kF, dT, dF, hQ0, hm]
    skip
theorem rget_ok (E : Env) (h279 : E.G 279 = atC) : ∀ ds, getC.pre ds → ds.length = f_custodyref27_Get.n ∧ awp E f_custodyref27_Get.body (retQ f_custodyref27_Get.res (getC.post ds)) (initSt f_custodyref27_Get.wr ds) := by
  rintro _ ⟨nl, t, i, ⟨hs, hl⟩, rfl⟩
  rw [get_post, bse_get hs]
  have e1 := at_pre (nl := nl) (t := t) i ⟨hs, hl⟩
  have e2 := at_post nl t i
  have hlen : t.keys.length ≤ 100000000 := hl
  cases hb : bseK t.keys i with
  | true =>
    rw [hb] at e2
    have hn : lbK t.keys i < t.keys.length := by
      simp only [bseK, Bool.and_eq_true, decide_eq_true_eq] at hb; exact hb.1
    have ka := keysL_at hn
    simp only [if_true] at e2 ⊢
    generalize lbK t.keys i = n at *
    generalize keyAt t.keys n = k at *
    simp (maxSteps := 1000000) (disch := first | omega | (simp; done) | (simp; omega)) [W_id, bys_app, bys_snoc, f_custodyref27_Get, f_custodyref27_Get_r0, h279, e1, e2, kT, kF, dT, dF, getA, ka, spl_9]
    omega
  | false =>
    rw [hb] at e2
    simp only [Bool.false_eq_true, if_false] at e2 ⊢
    simp (maxSteps := 1000000) (disch := first | omega | (simp; done) | (simp; omega)) [W_id, bys_app, bys_snoc, f_custodyref27_Get, f_custodyref27_Get_r0, h279, e1, e2, kT, kF, dT, dF, getA, key0_R, spl_k]
    skip
end Go.Abs
end
