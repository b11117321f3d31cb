/- Lemmas: an abstract interpreter, and what the functions compute. -/
import Derived.Test.YtigghpdomoedhaaDoorO
import Derived.Test.YtigghpdomoedhaaDoorL
import Derived.Test.YtigghpdomoedhaaDoorM
set_option linter.unusedSimpArgs false
set_option linter.unusedVariables false
set_option linter.unusedSectionVars false
section
namespace Go.Abs
def lifeK (p : PolR) (k : KeyR) (now : Int) : Int := if 0 < (tyAt p k.ty).life then min (min (k.fin - k.beg) (maxT - now)) (tyAt p k.ty).life else min (k.fin - k.beg) (maxT - now)
def freshK (p : PolR) (s : List UInt8) (now i : Int) (k : KeyR) : KeyR := ⟨0, k.ty, drv s valL [], k.uses, now, now + lifeK p k now, k.ver + 1, i, false⟩
def oldK (k : KeyR) : KeyR := { k with uses := andI k.uses 176 }
theorem fit0 {p : PolR} {l : List KeyR} {now i : Int} (h : fitK p l now i = 0) : 0 ≤ now ∧ now < maxT ∧ ∃ k, getK l i = some k ∧ liveK k now = true ∧ nxtK l i = none ∧ hasP p k.ty 1 = true ∧ subU k.uses (usesK p k.ty) = true ∧ k.ver ≠ topN := by
  unfold fitK at h
  split at h
  · cases h
  · rename_i h0
    split at h
    · rename_i h1
      cases hg : getK l i with
      | none => rw [hg] at h; cases h
      | some k =>
        rw [hg] at h
        simp only [fitG] at h
        split at h
        · rename_i h2
          split at h
          · cases h
          · rename_i h3
            split at h
            · rename_i h4
              split at h
              · rename_i h5
                split at h
                · cases h
                · rename_i h6
                  refine ⟨by omega, h1, k, rfl, h2, ?_, h4, h5, h6⟩
                  cases hn : nxtK l i with
                  | none => rfl
                  | some j => rw [hn] at h3; exact absurd rfl h3
              · cases h
            · cases h
        · cases h
    · cases h
theorem ofInt_W (x : BitVec 64) : BitVec.ofInt 64 (W (x.toNat : Int)) = x := by
  apply BitVec.eq_of_toNat_eq
  have hx := x.isLt
  rw [BitVec.toNat_ofInt]
  unfold W IntKind.wrap
  simp only [IntKind.bits, IntKind.signed]
  simp
  omega
theorem subU_old (u : Int) : subU (andI u 176) 956 = true := by
  have h1 : andI u 176 = W ((BitVec.ofInt 64 u &&& BitVec.ofInt 64 176).toNat : Int) := rfl
  have h0 : ∀ a : Int, andNotI a 956 = W ((BitVec.ofInt 64 a &&& ~~~ BitVec.ofInt 64 956).toNat : Int) := fun _ => rfl
  rw [subU, h0, h1, ofInt_W, BitVec.and_assoc, show BitVec.ofInt 64 176 &&& ~~~ BitVec.ofInt 64 956 = 0#64 by decide, BitVec.and_zero]
  rfl
theorem okK_old {k : KeyR} (h : okK k = true) : okK (oldK k) = true := by
  simp only [okK, oldK, Bool.and_eq_true] at h ⊢
  obtain ⟨⟨⟨⟨⟨⟨h1, h2⟩, h3⟩, h4⟩, h5⟩, h6⟩, h7⟩ := h
  exact ⟨⟨⟨⟨⟨⟨h1, h2⟩, subU_old _⟩, h4⟩, h5⟩, h6⟩, h7⟩
theorem set_ids {l : List KeyR} {m : Nat} {k : KeyR} (h : ∀ x, l[m]? = some x → x.id = k.id) : (l.set m k).map (·.id) = l.map (·.id) := by
  induction l generalizing m with
  | nil => rfl
  | cons a l ih =>
    cases m with
    | zero => simp [h a rfl]
    | succ m => simp [ih (fun x hx => h x (by simpa using hx))]
theorem srt_ids {l : List KeyR} : srt l ↔ (l.map (·.id)).Pairwise (· < ·) := by rw [List.pairwise_map]; rfl
structure GotK (l : List KeyR) (i : Int) (k : KeyR) : Prop where
  mem : k ∈ l
  id : k.id = i
  bse : bseK l i = true
  lb : lbK l i < l.length
  at' : keyAt l (lbK l i) = k
theorem gotK {l : List KeyR} (hs : srt l) {i : Int} {k : KeyR} (h : getK l i = some k) : GotK l i k := by
  have hb := bse_get hs i
  rw [h] at hb
  split at hb
  · rename_i hb1
    refine ⟨getK_mem h, getK_id h, hb1, ?_, (Option.some.inj hb).symm⟩
    simp only [bseK, Bool.and_eq_true, decide_eq_true_eq] at hb1; exact hb1.1
  · cases hb
def setO (l : List KeyR) (i : Int) (k : KeyR) : List KeyR := l.set (lbK l i) (oldK k)
theorem setO_ids {l : List KeyR} {i : Int} {k : KeyR} (h : GotK l i k) : (setO l i k).map (·.id) = l.map (·.id) := by
  refine set_ids fun x hx => ?_
  have := h.at'
  rw [keyAt, List.getD, hx] at this
  have : x = k := this
  rw [this]; rfl
theorem put_old {t : TabR} (hv : tVal t) {i : Int} {k : KeyR} (h : getK t.keys i = some k) : putK t (oldK k) = (⟨t.next, setO t.keys i k⟩, 0) := by
  obtain ⟨tk, _, _, hk⟩ := tVal_ok hv
  have g := gotK tk.1 h
  obtain ⟨h1, h2, h3, h4⟩ := hk k g.mem
  have e : (oldK k).id = i := g.id
  rw [putK, if_pos ⟨okK_old h1, h4⟩, e, if_pos g.bse]; rfl
theorem tOk_old {t : TabR} (hv : tVal t) {i : Int} {k : KeyR} (h : getK t.keys i = some k) : tOk ⟨t.next, setO t.keys i k⟩ := by
  obtain ⟨tk, hl, _, _⟩ := tVal_ok hv
  have g := gotK tk.1 h
  refine ⟨?_, ?_⟩
  · show srt (setO t.keys i k)
    rw [srt_ids, setO_ids g, ← srt_ids]; exact tk.1
  · show (setO t.keys i k).length ≤ _
    rw [setO, List.length_set]; omega
theorem okK_rng {k : KeyR} (h : okK k = true) : (0 ≤ k.ty ∧ k.ty ≤ 31) ∧ k.val.length = 32 ∧ subU k.uses 956 = true ∧ (0 ≤ k.beg ∧ k.beg ≤ k.fin) ∧ (0 ≤ k.fin ∧ k.fin ≤ maxT) ∧ (1 ≤ k.ver ∧ k.ver ≤ topN) ∧ (0 ≤ k.par ∧ k.par ≤ topN) := by
  simp only [okK, inB, Bool.and_eq_true, decide_eq_true_eq, beq_iff_eq] at h
  obtain ⟨⟨⟨⟨⟨⟨h1, h2⟩, h3⟩, h4⟩, h5⟩, h6⟩, h7⟩ := h
  exact ⟨h1, h2, h3, h4, h5, h6, h7⟩
theorem life_rng {p : PolR} {k : KeyR} {now : Int} (h : okK k = true) (hl : liveK k now = true) (h0 : 0 ≤ now) (h1 : now < maxT) : 1 ≤ lifeK p k now ∧ lifeK p k now ≤ k.fin - k.beg ∧ now + lifeK p k now ≤ maxT ∧ (0 < (tyAt p k.ty).life → lifeK p k now ≤ (tyAt p k.ty).life) := by
  simp only [liveK, Bool.and_eq_true, decide_eq_true_eq] at hl
  unfold lifeK
  split <;> omega
theorem okK_fresh {p : PolR} {s : List UInt8} {k : KeyR} {now i next : Int} (h : okK k = true) (hl : liveK k now = true) (h0 : 0 ≤ now) (h1 : now < maxT) (hv : k.ver ≠ topN) (hi : 0 < i) (hn : i < next) (hx : next ≤ topN) (hd : (drv s valL []).length = 32) : okK (freshK p s now i k) = true := by
  obtain ⟨r1, r2, r3, r4, r5, r6, r7⟩ := okK_rng h
  obtain ⟨l1, l2, l3, _⟩ := life_rng (p := p) h hl h0 h1
  rw [show okK (freshK p s now i k) = (inB k.ty 0 31 && ((drv s valL []).length == 32) && subU k.uses 956 && inB now 0 (now + lifeK p k now) && inB (now + lifeK p k now) 0 maxT && inB (k.ver + 1) 1 topN && inB i 0 topN) from rfl]
  simp only [inB, Bool.and_eq_true, decide_eq_true_eq, beq_iff_eq]
  refine ⟨⟨⟨⟨⟨⟨r1, hd⟩, r3⟩, ?_⟩, ?_⟩, ?_⟩, ?_⟩ <;> omega
end Go.Abs
end

section
namespace Go.Abs
def keyI (l : List KeyR) (i : Int) : KeyR := (getK l i).getD key0
def newT (p : PolR) (t : TabR) (s : List UInt8) (now i : Int) : TabR := ⟨t.next + 1, setO t.keys i (keyI t.keys i) ++ [{ freshK p s now i (keyI t.keys i) with id := t.next }]⟩
structure RotO where
  t : TabR
  s : List UInt8
  id : Int
  e : Int
def rotK (p : PolR) (t : TabR) (s : List UInt8) (now i : Int) : RotO :=
  if fitK p t.keys now i = 0 then (if t.keys.length < 4096 ∧ t.next < topN then ⟨newT p t s now i, drv s seedL [], t.next, 0⟩ else ⟨⟨0, []⟩, [], 0, 2⟩) else ⟨⟨0, []⟩, [], 0, fitK p t.keys now i⟩
def gSd (d : AVal) : List UInt8 := match d with | .agg (x :: _) => gS x | _ => []
def rotKC : Contract := ⟨fun ds => ∃ (na nb nc nl : Option Bool) (p : PolR) (t : TabR) (s : List UInt8) (now i : Int), polOk p ∧ tGood t ∧ s.length < 1000000000 ∧ ds = [.agg (polL na nb nc p), .agg (tabL nl t), .agg [st s], i64 now, i64 i],
  fun ds => let r := rotK (gPol (gCs (nth ds 0))) (gTab (gCs (nth ds 1))) (gSd (nth ds 2)) (asI (nth ds 3)) (asI (nth ds 4)); .tup [.agg (tabL none r.t), .agg [st r.s], i64 r.id, i64 r.e]⟩
theorem rot_pre {na nb nc nl : Option Bool} {p : PolR} {t : TabR} {s : List UInt8} (now i : Int) (hp : polOk p) (h : tGood t) (hs : s.length < 1000000000) : rotKC.pre [.agg (polL na nb nc p), .agg (tabL nl t), .agg [st s], i64 now, i64 i] = True := eq_true ⟨na, nb, nc, nl, p, t, s, now, i, hp, h, hs, rfl⟩
@[simp] theorem gSd_st (s : List UInt8) : gSd (.agg [st s]) = s := by simp [gSd]
theorem rot_post (na nb nc nl : Option Bool) (p : PolR) (t : TabR) (s : List UInt8) (now i : Int) : rotKC.post [.agg (polL na nb nc p), .agg (tabL nl t), .agg [st s], i64 now, i64 i] = .tup [.agg (tabL none (rotK p t s now i).t), .agg [st (rotK p t s now i).s], i64 (rotK p t s now i).id, i64 (rotK p t s now i).e] := by
  show (let r := rotK (gPol (polL na nb nc p)) (gTab (tabL nl t)) (gSd (.agg [st s])) now i; AVal.tup [.agg (tabL none r.t), .agg [st r.s], i64 r.id, i64 r.e]) = _
  rw [gPol_polL, gTab_tabL, gSd_st]
def rrotKC : Contract := ⟨rotKC.pre, fun ds => let r := rotK (gPol (gCs (nth ds 0))) (gTab (gCs (nth ds 1))) (gSd (nth ds 2)) (asI (nth ds 3)) (asI (nth ds 4)); .agg (tabL none r.t ++ [st r.s, i64 r.id, .sl .plain none 0 [], i64 r.e])⟩
theorem rrot_pre {na nb nc nl : Option Bool} {p : PolR} {t : TabR} {s : List UInt8} (now i : Int) (hp : polOk p) (h : tGood t) (hs : s.length < 1000000000) : rrotKC.pre [.agg (polL na nb nc p), .agg (tabL nl t), .agg [st s], i64 now, i64 i] = True := eq_true ⟨na, nb, nc, nl, p, t, s, now, i, hp, h, hs, rfl⟩
theorem rrot_post (na nb nc nl : Option Bool) (p : PolR) (t : TabR) (s : List UInt8) (now i : Int) : rrotKC.post [.agg (polL na nb nc p), .agg (tabL nl t), .agg [st s], i64 now, i64 i] = .agg (tabL none (rotK p t s now i).t ++ [st (rotK p t s now i).s, i64 (rotK p t s now i).id, .sl .plain none 0 [], i64 (rotK p t s now i).e]) := by
  show (let r := rotK (gPol (polL na nb nc p)) (gTab (tabL nl t)) (gSd (.agg [st s])) now i; AVal.agg (tabL none r.t ++ [st r.s, i64 r.id, .sl .plain none 0 [], i64 r.e])) = _
  rw [gPol_polL, gTab_tabL, gSd_st]
def kfailC : Contract := ⟨fun ds => ∃ e : Int, ds = [i64 e], fun ds => .tup [.agg (tabL none ⟨0, []⟩), .agg [st []], i64 0, nth ds 0]⟩
@[simp] theorem kfail_pre (e : Int) : kfailC.pre [i64 e] = True := eq_true ⟨e, rfl⟩
@[simp] theorem kfail_post (e : Int) : kfailC.post [i64 e] = .tup [.agg (tabL none ⟨0, []⟩), .agg [st []], i64 0, i64 e] := rfl
structure RotG (p : PolR) (t : TabR) (s : List UInt8) (now i : Int) (k : KeyR) : Prop where
  now0 : 0 ≤ now
  now1 : now < maxT
  got : getK t.keys i = some k
  live : liveK k now = true
  has : hasP p k.ty 1 = true
  sub : subU k.uses (usesK p k.ty) = true
  ver : k.ver ≠ topN
  key : keyI t.keys i = k
  ok : okK k = true
  i0 : 0 < i
  i1 : i < t.next
  n1 : t.next ≤ topN
  nxt : nxtK t.keys i = none
theorem rotG {p : PolR} {t : TabR} (s : List UInt8) {now i : Int} (hv : tVal t) (h : fitK p t.keys now i = 0) : ∃ k, RotG p t s now i k := by
  obtain ⟨h0, h1, k, h2, h3, h4, h5, h6, h7⟩ := fit0 h
  obtain ⟨tk, hl, hn, hk⟩ := tVal_ok hv
  obtain ⟨a1, a2, a3, a4⟩ := hk k (getK_mem h2)
  have e := getK_id h2
  exact ⟨k, h0, h1, h2, h3, h5, h6, h7, by rw [keyI, h2]; rfl, a1, by omega, by omega, hn.2, h4⟩
theorem ck_key {p : PolR} {t : TabR} {s : List UInt8} {now i : Int} {k : KeyR} (g : RotG p t s now i k) : ckK t.keys now i = k := by
  have h0 := g.now0
  rw [ckK, if_neg (by omega), if_pos g.now1, g.got]; rfl
theorem add_fresh {p : PolR} {t : TabR} {s : List UInt8} {now i : Int} {k : KeyR} (g : RotG p t s now i k) : addK ⟨t.next, setO t.keys i k⟩ (freshK p s now i k) =
    if t.keys.length < 4096 ∧ t.next < topN then (newT p t s now i, t.next, 0) else (⟨0, []⟩, 0, 2) := by
  have e : (setO t.keys i k).length = t.keys.length := by simp [setO]
  have hf : okK (freshK p s now i k) = true := okK_fresh g.ok g.live g.now0 g.now1 g.ver g.i0 g.i1 g.n1 (drv_len _ _ _)
  rw [addK, if_pos ⟨hf, g.i1⟩]
  show (if (setO t.keys i k).length < 4096 ∧ t.next < topN then _ else _) = _
  rw [e, newT, g.key]
theorem kOk_old {k : KeyR} (h : kOk k) : kOk (oldK k) := ⟨h.1, h.2.1, h.2.2.1, isI64_and _ _, h.2.2.2.2⟩
theorem okK_kOk {k : KeyR} (h : okK k = true) (hi : isI64 k.id) (hu : isI64 k.uses) : kOk k := by
  obtain ⟨r1, r2, r3, r4, r5, r6, r7⟩ := okK_rng h
  have hm : maxT = 1099511627776 := rfl
  have ht : topN = 2147483647 := rfl
  refine ⟨hi, ⟨by omega, by omega⟩, by omega, hu, ⟨by omega, by omega⟩, ⟨by omega, by omega⟩, ⟨by omega, by omega⟩, ⟨by omega, by omega⟩⟩
theorem kOk_fresh {p : PolR} {t : TabR} {s : List UInt8} {now i : Int} {k : KeyR} (g : RotG p t s now i k) (hk : kOk k) : kOk (freshK p s now i k) :=
  okK_kOk (okK_fresh g.ok g.live g.now0 g.now1 g.ver g.i0 g.i1 g.n1 (drv_len _ _ _)) ⟨by show -9223372036854775808 ≤ (0 : Int); omega, by show (0 : Int) ≤ 9223372036854775807; omega⟩ hk.2.2.2.1
end Go.Abs
end

section
namespace Go.Abs
theorem rot_ok {p : PolR} {t : TabR} {s : List UInt8} {now i : Int} (h : (rotK p t s now i).e = 0) : fitK p t.keys now i = 0 ∧ (t.keys.length < 4096 ∧ t.next < topN) ∧ rotK p t s now i = ⟨newT p t s now i, drv s seedL [], t.next, 0⟩ := by
  unfold rotK at h ⊢
  by_cases hf : fitK p t.keys now i = 0
  · rw [if_pos hf] at h ⊢
    by_cases hc : t.keys.length < 4096 ∧ t.next < topN
    · rw [if_pos hc]; exact ⟨hf, hc, rfl⟩
    · rw [if_neg hc] at h; exact absurd h (by show ¬ (2 : Int) = 0; omega)
  · rw [if_neg hf] at h; exact absurd h hf
theorem setO_len (l : List KeyR) (i : Int) (k : KeyR) : (setO l i k).length = l.length := by simp [setO]
theorem setO_mem {l : List KeyR} {i : Int} {k x : KeyR} (h : x ∈ setO l i k) : x ∈ l ∨ x = oldK k := List.mem_or_eq_of_mem_set h
theorem fresh_id (p : PolR) (s : List UInt8) (now i n : Int) (k : KeyR) : okK { freshK p s now i k with id := n } = okK (freshK p s now i k) := rfl
theorem newT_good {p : PolR} {t : TabR} {s : List UInt8} {now i : Int} (hg : tGood t) (hf : fitK p t.keys now i = 0) (hc : t.keys.length < 4096 ∧ t.next < topN) : tGood (newT p t s now i) := by
  obtain ⟨hv, ha⟩ := hg
  obtain ⟨k, g⟩ := rotG (p := p) s hv hf
  obtain ⟨tk, hl, hn, hk⟩ := tVal_ok hv
  have hfr : okK (freshK p s now i k) = true := okK_fresh g.ok g.live g.now0 g.now1 g.ver g.i0 g.i1 g.n1 (drv_len _ _ _)
  have gk := gotK tk.1 g.got
  have htn : topN = 2147483647 := rfl
  have hko := ha.2.2 k (getK_mem g.got)
  have e : newT p t s now i = ⟨t.next + 1, setO t.keys i k ++ [{ freshK p s now i k with id := t.next }]⟩ := by rw [newT, g.key]
  rw [e]
  refine ⟨?_, ?_, ⟨?_, ?_⟩, ?_⟩
  · show okT _ = true
    simp only [okT, Bool.and_eq_true, decide_eq_true_eq, List.length_append, setO_len, List.length_singleton]
    refine ⟨⟨by omega, by omega, by omega⟩, okL_mk (fun x hx => ?_) ?_⟩
    · rcases List.mem_append.1 hx with hx | hx
      · rcases setO_mem hx with hx | rfl
        · obtain ⟨a1, a2, a3, a4⟩ := hk x hx; exact ⟨a1, a2, by omega, by omega⟩
        · obtain ⟨a1, a2, a3, a4⟩ := hk k gk.mem
          exact ⟨okK_old a1, a2, by show k.id < _; omega, by show k.par < _; omega⟩
      · rw [List.mem_singleton.1 hx]
        exact ⟨(fresh_id ..).trans hfr, by show 0 < t.next; omega, by show t.next < t.next + 1; omega, by show i < t.next + 1; have := g.i1; omega⟩
    · rw [srt_ids, List.map_append, setO_ids gk, List.pairwise_append]
      refine ⟨srt_ids.1 tk.1, List.pairwise_singleton _ _, fun a hm b hb => ?_⟩
      obtain ⟨x, hx, rfl⟩ := List.mem_map.1 hm
      have : b = t.next := by simpa using hb
      rw [this]
      exact (hk x hx).2.2.1
  · show (setO t.keys i k ++ _).length ≤ 9223372036854775807
    rw [List.length_append, setO_len]; simp; omega
  · show _ ≤ t.next + 1; omega
  · show t.next + 1 ≤ _; omega
  · intro x hx
    rcases List.mem_append.1 hx with hx | hx
    · rcases setO_mem hx with hx | rfl
      · exact ha.2.2 x hx
      · exact kOk_old hko
    · rw [List.mem_singleton.1 hx]
      exact okK_kOk ((fresh_id ..).trans hfr) ⟨by show _ ≤ t.next; omega, by show t.next ≤ _; omega⟩ hko.2.2.2.1
theorem rot_good {p : PolR} {t : TabR} {s : List UInt8} {now i : Int} (hg : tGood t) (h : (rotK p t s now i).e = 0) : tGood (rotK p t s now i).t ∧ (rotK p t s now i).s.length = 32 := by
  obtain ⟨h1, h2, h3⟩ := rot_ok h
  rw [h3]
  exact ⟨newT_good hg h1 h2, drv_len _ _ _⟩
structure AllO where
  t : TabR
  s : List UInt8
  m : List Int
  e : Int
def allK (p : PolR) (now : Int) : List Int → TabR → List UInt8 → List Int → AllO
  | [], t, s, m => ⟨t, s, m, 0⟩
  | i :: l, t, s, m => if (rotK p t s now i).e = 0 then allK p now l (rotK p t s now i).t (rotK p t s now i).s (m ++ [(rotK p t s now i).id]) else ⟨⟨0, []⟩, [], [], (rotK p t s now i).e⟩
/-! ### Keys that end soon -/
def dueF (p : PolR) (l : List KeyR) (now ahead : Int) (k : KeyR) : Bool := !(nxtK l k.id).isSome && liveK k now && hasP p k.ty 1 && decide (k.fin ≤ now + ahead)
def dueL (p : PolR) (l : List KeyR) (now ahead : Int) (n : Nat) : List Int := ((l.take n).filter (dueF p l now ahead)).map (·.id)
def dueK (p : PolR) (l : List KeyR) (now ahead : Int) : List Int := if 0 ≤ now ∧ 0 ≤ ahead ∧ now ≤ maxT ∧ ahead ≤ maxT then dueL p l now ahead l.length else []
theorem dueL_T {p : PolR} {l : List KeyR} {now ahead : Int} {n : Nat} (h : n < l.length) (hf : dueF p l now ahead (keyAt l n) = true) : dueL p l now ahead (n + 1) = dueL p l now ahead n ++ [(keyAt l n).id] := by
  rw [dueL, List.take_add_one, List.filter_append, List.map_append, ← dueL, List.getElem?_eq_getElem h, ← keyAt_eq h]
  simp [hf]
theorem dueL_F {p : PolR} {l : List KeyR} {now ahead : Int} {n : Nat} (h : n < l.length) (hf : dueF p l now ahead (keyAt l n) = false) : dueL p l now ahead (n + 1) = dueL p l now ahead n := by
  rw [dueL, List.take_add_one, List.filter_append, List.map_append, ← dueL, List.getElem?_eq_getElem h, ← keyAt_eq h]
  simp [hf]
theorem dueL_le (p : PolR) (l : List KeyR) (now ahead : Int) (n : Nat) : (dueL p l now ahead n).length ≤ l.length := by
  rw [dueL, List.length_map]
  exact Nat.le_trans (List.length_filter_le _ _) (by simp; omega)
end Go.Abs
end

section
namespace Go.Abs
def newV (p : PolR) (t : TabR) (v : List UInt8) (now i : Int) : TabR := ⟨t.next + 1, setO t.keys i (keyI t.keys i) ++ [⟨t.next, (keyI t.keys i).ty, v, (keyI t.keys i).uses, now, now + lifeK p (keyI t.keys i) now, (keyI t.keys i).ver + 1, i, false⟩]⟩
theorem newT_V (p : PolR) (t : TabR) (s : List UInt8) (now i : Int) : newT p t s now i = newV p t (drv s valL []) now i := rfl
def p00 : PolR := ⟨[], [⟨[97], 25, 50⟩], [], []⟩
def v00 : List UInt8 := List.replicate 32 7
def k00 : KeyR := ⟨1, 0, v00, 24, 10, 40, 1, 0, false⟩
def t00 : TabR := ⟨2, [k00]⟩
def k01 : KeyR := ⟨1, 0, v00, 16, 10, 40, 1, 0, false⟩
def k02 (v : List UInt8) : KeyR := ⟨2, 0, v, 24, 30, 60, 2, 1, false⟩
def u00 (v : List UInt8) : TabR := ⟨3, [k01, k02 v]⟩
theorem new00 (v : List UInt8) : newV p00 t00 v 30 1 = u00 v := by rfl
theorem fit00 : fitK p00 t00.keys 30 1 = 0 := by rfl
theorem fit13 : fitK p00 t00.keys 40 1 = 13 := by rfl
theorem fit12 (v : List UInt8) : fitK p00 (u00 v).keys 30 1 = 12 := by rfl
theorem nxt01 (v : List UInt8) : nxtK (u00 v).keys 1 = some 2 := by rfl
theorem nxt02 (v : List UInt8) : nxtK (u00 v).keys 2 = none := by rfl
theorem get01 (v : List UInt8) : getK (u00 v).keys 1 = some k01 := by rfl
theorem pol00 : polOk p00 := ⟨by decide, by decide, by decide⟩
theorem good00 : tGood t00 := by
  refine ⟨by show okT t00 = true; rfl, by show 1 ≤ 9223372036854775807; omega, ⟨by decide, by decide⟩, fun k h => ?_⟩
  rw [List.mem_singleton.1 h]
  exact ⟨⟨by decide, by decide⟩, ⟨by decide, by decide⟩, by decide, ⟨by decide, by decide⟩, ⟨by decide, by decide⟩, ⟨by decide, by decide⟩, ⟨by decide, by decide⟩, ⟨by decide, by decide⟩⟩
theorem rot00 (s : List UInt8) : rotK p00 t00 s 30 1 = ⟨u00 (drv s valL []), drv s seedL [], 2, 0⟩ := by
  rw [rotK, if_pos fit00, if_pos (by decide), newT_V, new00]; rfl
theorem rot12 (v s : List UInt8) : rotK p00 (u00 v) s 30 1 = ⟨⟨0, []⟩, [], 0, 12⟩ := by
  rw [rotK, if_neg (by rw [fit12]; omega), fit12]
theorem rot13 (s : List UInt8) : rotK p00 t00 s 40 1 = ⟨⟨0, []⟩, [], 0, 13⟩ := by
  rw [rotK, if_neg (by rw [fit13]; omega), fit13]
theorem good01 (s : List UInt8) : tGood (u00 (drv s valL [])) := by
  have h := rot_good (p := p00) (s := s) (now := 30) (i := 1) good00 (by rw [rot00])
  rw [rot00] at h
  exact h.1
theorem line01 (v : List UInt8) : linK (u00 v).keys 1 = some [1, 2] := by
  rw [linK, get01, Option.map_some, lineK_some (nxt01 v), lineK_none (nxt02 v)]
theorem new01 (v : List UInt8) : newK (u00 v).keys 1 = some 2 := by rw [newK, line01]; rfl
theorem all01 (s : List UInt8) : allK p00 30 [1] t00 s [] = ⟨u00 (drv s valL []), drv s seedL [], [2], 0⟩ := by
  rw [allK, rot00, if_pos rfl, allK]; rfl
theorem due01 : dueK p00 t00.keys 30 10 = [1] := by rfl
end Go.Abs
end
