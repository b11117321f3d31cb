/- Lemmas: an abstract interpreter, and what the functions compute. -/
import Derived.Test.YtigghpdomoedhaaDoorC
import Derived.Deep.DeepHandedRow
import Derived.Lib.LaidTab
import Derived.ChangeBears
import Derived.Carry
import Derived.OpenShut
import Derived.ChangeSame
import Derived.Test.YtigghpdomoedhaaDoorD
set_option linter.unusedSimpArgs false
set_option linter.unusedVariables false
set_option linter.unusedSectionVars false
section
namespace Go.Abs

inductive GT where
  | bool
  | int (k : IntKind)
  | str
  | sl (e : GT)
  | arr (n : Nat) (e : GT)
  | st (fs : List GT)

mutual
def GT.has : GT → List AVal → Prop
  | .bool, cs => ∃ b, cs = [.lit (.bool b)]
  | .int k, cs => ∃ n, cs = [.lit (.int k n)] ∧ k.min ≤ n ∧ n ≤ k.max
  | .str, cs => ∃ s : ByteArray, cs = [.lit (.string s)] ∧ s.size ≤ maxLen
  | .sl e, cs => ∃ ess : List (List AVal), (∀ c ∈ ess, e.has c) ∧ cs = [.sl .plain none ess.length ess.flatten] ∧ ess.length ≤ maxLen
  | .arr n e, cs => ∃ ess : List (List AVal), ess.length = n ∧ (∀ c ∈ ess, e.has c) ∧ cs = ess.flatten
  | .st fs, cs => GT.hasL fs cs
def GT.hasL : List GT → List AVal → Prop
  | [], cs => cs = []
  | f :: fs, cs => ∃ a b, cs = a ++ b ∧ f.has a ∧ GT.hasL fs b
end

mutual
def GT.flat : GT → Bool
  | .sl _ => false
  | .arr _ e => e.flat
  | .st fs => GT.flatL fs
  | _ => true
def GT.flatL : List GT → Bool
  | [] => true
  | f :: fs => f.flat && GT.flatL fs
end

mutual
def GT.fits (P : Program) : GT → TypeId → Bool
  | .bool, t => match P.underlying t with | some .bool => true | _ => false
  | .int k, t => match P.underlying t with | some (.int k') => k == k' | _ => false
  | .str, t => match P.underlying t with | some .string => true | _ => false
  | .sl e, t => match P.underlying t with | some (.slice t') => e.flat && e.fits P t' && (P.cellsOf t' != 0) | _ => false
  | .arr n e, t => match P.underlying t with | some (.array n' t') => n == n' && e.fits P t' | _ => false
  | .st fs, t => match P.underlying t with | some (.struct F) => GT.fitsL P fs (F.toList.map (·.type)) | _ => false
def GT.fitsL (P : Program) : List GT → List TypeId → Bool
  | [], [] => true
  | f :: fs, t :: ts => f.fits P t && GT.fitsL P fs ts
  | _, _ => false
end

mutual
def wt : AVal → Nat
  | .lit (.string s) => s.size + 1
  | .sl _ _ _ cs => wtL cs + 1
  | .agg cs => wtL cs
  | _ => 1
def wtL : List AVal → Nat
  | [] => 0
  | c :: cs => wt c + wtL cs
end
theorem wtL_append (a b : List AVal) : wtL (a ++ b) = wtL a + wtL b := by
  induction a with
  | nil => simp [wtL]
  | cons x a ih => simp only [List.cons_append, wtL, ih]; omega

structure Bulk {H : Type} (B : DataW H → Nat) : Prop where
  lit : ∀ l, 1 ≤ B (.lit l)
  str : ∀ l, l.length + 1 ≤ B (.lit (.string l))
  nil : 1 ≤ B .nil
  slice : ∀ es sp, (es.map B).sum + 1 ≤ B (.slice es sp)
  agg : ∀ ps, (ps.map B).sum ≤ B (.agg ps)

section
variable {H : Type} {enc : TypeId × Value → H} {K : Cx} {S : Nat → Nat} {W : World} {B : DataW H → Nat}

theorem PRepL.app {K : Con} {S : Nat → Nat} {w : World} : ∀ {ds ds' : List AVal} {vs vs' : List Value}, PRepL K S w ds vs → PRepL K S w ds' vs' → PRepL K S w (ds ++ ds') (vs ++ vs')
  | [], _, vs, _, h, h' => by simp only [PRepL] at h; subst h; simpa using h'
  | c :: cs, _, vs, _, h, h' => by
    simp only [PRepL] at h
    obtain ⟨x, xs, rfl, h1, h2⟩ := h
    simp only [List.cons_append, PRepL]
    exact ⟨x, xs ++ _, rfl, h1, PRepL.app h2 h'⟩

noncomputable def allS (w : World) : Nat → Nat := fun b => match w.heap[b]? with | some (.cells c _ _) => c.size | _ => 0
theorem allS_lt {w : World} {b o : Nat} {x : Value} (h : w.cell? ⟨b, o, none⟩ = some x) : o < allS w b := by
  unfold World.cell? at h
  unfold allS
  cases hb : w.heap[b]? with
  | none => simp [hb] at h
  | some q =>
    cases q with
    | cells c e fr =>
      simp [hb] at h
      exact (Array.getElem?_eq_some_iff.1 h).1
    | _ => simp [hb] at h

theorem cells_rows {b off sz : Nat} {cs : List (List Value)} {as : List (List AVal)} (hl : as.length = cs.length) (hsz : ∀ (i : Nat) c, cs[i]? = some c → c.length = sz)
    (hc : ∀ (i : Nat) c, cs[i]? = some c → ∀ j, j < sz → W.cell? ⟨b, off + i * sz + j, none⟩ = c[j]?) (hr : ∀ (i : Nat) a c, as[i]? = some a → cs[i]? = some c → PRepL K.toCon (allS W) W a c) :
    PRepC K.toCon (allS W) W as.flatten b off := by
  induction as generalizing cs off with
  | nil => simp [PRepC]
  | cons a as ih =>
    cases cs with
    | nil => simp at hl
    | cons c cs =>
      have h0 := hr 0 a c rfl rfl
      have hlen := h0.len
      have hcs := hsz 0 c rfl
      have hrest := ih (off := off + sz) (cs := cs) (by simpa using hl) (fun i c hi => hsz (i + 1) c (by simpa using hi)) (fun i c hi j hj => by
        have := hc (i + 1) c (by simpa using hi) j hj
        rw [Nat.add_mul, Nat.one_mul] at this
        rw [← this]
        congr 2
        omega) (fun i a c hi hi' => hr (i + 1) a c (by simpa using hi) (by simpa using hi'))
      rw [List.flatten_cons]
      refine PRepC.mk fun i d hd => ?_
      rcases Nat.lt_or_ge i a.length with h | h
      · rw [List.getElem?_append_left h] at hd
        obtain ⟨v, hv, hp⟩ := h0.get i d hd
        have hcell := hc 0 c rfl i (by omega)
        rw [Nat.zero_mul, Nat.add_zero, hv] at hcell
        exact ⟨allS_lt hcell, v, hcell, hp⟩
      · rw [List.getElem?_append_right h] at hd
        have := hrest.get _ d hd
        rw [show off + sz + (i - a.length) = off + i by omega] at this
        exact this

theorem choose_list {α β : Type} {R : α → β → Prop} : ∀ (l : List α), (∀ x ∈ l, ∃ y, R x y) → ∃ r : List β, r.length = l.length ∧ ∀ (i : Nat) x y, l[i]? = some x → r[i]? = some y → R x y
  | [], _ => ⟨[], rfl, fun i x y h => by simp at h⟩
  | x :: l, h => by
    obtain ⟨y, hy⟩ := h x (by simp)
    obtain ⟨r, h1, h2⟩ := choose_list l fun z hz => h z (by simp [hz])
    refine ⟨y :: r, by simp [h1], fun i a b ha hb => ?_⟩
    cases i with
    | zero => simp at ha hb; subst ha; subst hb; exact hy
    | succ i => exact h2 i a b (by simpa using ha) (by simpa using hb)

theorem sum_le {α β : Type} {f : α → Nat} {g : β → Nat} : ∀ {l : List α} {r : List β}, l.length = r.length → (∀ (i : Nat) a b, l[i]? = some a → r[i]? = some b → f a ≤ g b) → (l.map f).sum ≤ (r.map g).sum
  | [], [], _, _ => by simp
  | [], _ :: _, h, _ => by simp at h
  | _ :: _, [], h, _ => by simp at h
  | x :: l, y :: r, h, hi => by
    have h1 := hi 0 x y rfl rfl
    have h2 := sum_le (l := l) (r := r) (by simpa using h) fun i a b ha hb => hi (i + 1) a b (by simpa using ha) (by simpa using hb)
    simp only [List.map_cons, List.sum_cons]
    omega
theorem wtL_flatten (l : List (List AVal)) : wtL l.flatten = (l.map wtL).sum := by
  induction l with
  | nil => simp [wtL]
  | cons x l ih => simp [wtL_append, ih]

def spots (cs : List Value) : Prop := ∀ a n c, Value.slice (some a) n c ∈ cs → a.spot = none
theorem spots_sub {cs ds : List Value} (h : spots cs) (hs : ∀ x ∈ ds, x ∈ cs) : spots ds := fun a n c hm => h a n c (hs _ hm)

theorem read_list {sp : Nat → Bool} {fuel : Nat} {e : GT} {t : TypeId} (sz : Nat)
    (one : ∀ (cs : List Value) d p, DataW.trod enc K.P W 0 sp true fuel t cs = some (d, p) → ∃ as, e.has as ∧ PRepL K.toCon (allS W) W as cs ∧ wtL as ≤ B d)
    {css : List (List Value)} {xs : List (DataW H × List MemPlace)} (hlen : xs.length = css.length) (hx : ∀ (i : Nat) c, css[i]? = some c → DataW.trod enc K.P W 0 sp true fuel t c = xs[i]?) :
    ∃ ess : List (List AVal), ess.length = css.length ∧ (∀ c ∈ ess, e.has c) ∧ (∀ (i : Nat) a c, ess[i]? = some a → css[i]? = some c → PRepL K.toCon (allS W) W a c) ∧ wtL ess.flatten ≤ ((xs.map (·.1)).map B).sum := by
  obtain ⟨ess, h1, h2⟩ := choose_list (R := fun (i : Nat) (as : List AVal) => ∃ c x, css[i]? = some c ∧ xs[i]? = some x ∧ e.has as ∧ PRepL K.toCon (allS W) W as c ∧ wtL as ≤ B x.1) (List.range css.length) fun i hi => by
    have hi : i < css.length := by simpa using hi
    have hc : css[i]? = some css[i] := List.getElem?_eq_getElem hi
    have hxi : xs[i]? = some xs[i] := List.getElem?_eq_getElem (by omega)
    have := hx i _ hc
    rw [hxi] at this
    obtain ⟨as, k1, k2, k3⟩ := one _ xs[i].1 xs[i].2 this
    exact ⟨as, _, _, hc, hxi, k1, k2, k3⟩
  have hl1 : ess.length = css.length := by simpa using h1
  have g : ∀ (i : Nat) a, ess[i]? = some a → ∃ c x, css[i]? = some c ∧ xs[i]? = some x ∧ e.has a ∧ PRepL K.toCon (allS W) W a c ∧ wtL a ≤ B x.1 := fun i a ha => by
    have hi : i < ess.length := (List.getElem?_eq_some_iff.1 ha).1
    exact h2 i i a (List.getElem?_range (by omega)) ha
  refine ⟨ess, hl1, fun a ha => ?_, fun i a c ha hc => ?_, ?_⟩
  · obtain ⟨i, hi, rfl⟩ := List.getElem_of_mem ha
    obtain ⟨_, _, _, _, k, _⟩ := g i _ (List.getElem?_eq_getElem hi)
    exact k
  · obtain ⟨c', _, k1, _, _, k2, _⟩ := g i a ha
    rw [hc] at k1
    cases k1
    exact k2
  · rw [wtL_flatten, List.map_map]
    refine sum_le (by omega) fun i a x ha hxi => ?_
    obtain ⟨_, x', _, k1, _, _, k2⟩ := g i a ha
    rw [hxi] at k1
    cases k1
    exact k2

mutual
theorem read (hB : Bulk B) (hl : laidOutB K.P = true) {sp : Nat → Bool} : ∀ (gt : GT) (fuel : Nat) (t : TypeId) (cs : List Value) (d : DataW H) (p : List MemPlace), DataW.trod enc K.P W 0 sp true fuel t cs = some (d, p) → gt.fits K.P t = true → t < K.P.types.size →
    gt.flat = true ∨ spots cs → ∃ as, gt.has as ∧ PRepL K.toCon (allS W) W as cs ∧ wtL as ≤ B d
  | gt, 0, t, cs, d, p, h, _, _, _ => by simp [DataW.trod] at h
  | .bool, fuel + 1, t, cs, d, p, h, hf, ht, hs => by
    simp only [GT.fits] at hf
    split at hf
    · rename_i hu
      simp only [DataW.trod, hu] at h
      split at h <;> simp_all
      obtain ⟨rfl, rfl⟩ := h
      rename_i b
      exact ⟨[.lit (.bool b)], ⟨b, rfl⟩, by simp [PRepL, PRep], by have := hB.lit (.bool b); simpa [wtL, wt] using this⟩
    · cases hf
  | .int k, fuel + 1, t, cs, d, p, h, hf, ht, hs => by
    simp only [GT.fits] at hf
    split at hf
    · rename_i k' hu
      simp only [beq_iff_eq] at hf
      subst hf
      obtain ⟨n, rfl, hx, hw⟩ := DataW.trod_int hu h
      cases hx
      simp only [Lit.wf, Bool.and_eq_true, decide_eq_true_eq] at hw
      exact ⟨_, ⟨n, rfl, hw.1, hw.2⟩, by simp [PRepL, PRep], by have := hB.lit (.int k n); simpa [wtL, wt] using this⟩
    · cases hf
  | .str, fuel + 1, t, cs, d, p, h, hf, ht, hs => by
    simp only [GT.fits] at hf
    split at hf
    · rename_i hu
      obtain ⟨s, rfl, hx, hw⟩ := DataW.trod_string hu h
      cases hx
      refine ⟨[.lit (.string s)], ⟨s, rfl, hw⟩, by simp only [PRepL, PRep]; exact ⟨_, _, rfl, rfl, rfl⟩, ?_⟩
      have := hB.str s.data.toList
      have e : s.data.toList.length = s.size := Array.length_toList
      simp only [wtL, wt]
      omega
    · cases hf
  | .sl e, fuel + 1, t, cs, d, p, h, hf, ht, hs => by
    simp only [GT.fits] at hf
    split at hf
    · rename_i t' hu
      simp only [Bool.and_eq_true, bne_iff_ne, ne_eq] at hf
      obtain ⟨⟨hfl, hf⟩, hz⟩ := hf
      have ht' := kid_slice hl ht hu
      simp only [DataW.trod, hu] at h
      have nilc : cs = [.slice none 0 0] → d = .nil → ∃ as, (GT.sl e).has as ∧ PRepL K.toCon (allS W) W as cs ∧ wtL as ≤ B d := by
        rintro rfl rfl
        refine ⟨[.sl .plain none 0 []], ⟨[], by simp, rfl, Nat.zero_le _⟩, by simp only [PRepL, PRep]; exact ⟨_, _, rfl, .inr (by simp), rfl⟩, ?_⟩
        have := hB.nil
        simpa [wtL, wt] using this
      split at h
      all_goals (try (simp only [reduceCtorEq, Option.some.injEq, TypeDesc.slice.injEq, Prod.mk.injEq] at h))
      all_goals (try (rename_i hh; simp only [reduceCtorEq, Option.some.injEq, TypeDesc.slice.injEq] at hh))
      · exact nilc rfl h.1.symm
      · subst hh
        rename_i a len cap
        split at h
        · rename_i hb
          obtain ⟨hb0, hlc, hcap⟩ := hb
          simp only [Option.bind_eq_some_iff, Option.map_eq_some_iff] at h
          obtain ⟨elems, hel, rest, hrest, hd⟩ := h
          cases hd
          have hsp : a.spot = none := hs.elim (fun h => by simp [GT.flat] at h) (fun h => h a len cap (by simp))
          obtain ⟨b, off, spot⟩ := a
          simp only at hsp
          subst hsp
          have hlen := mapM_some_length hel
          have hget : ∀ i, i < len → ∃ c, W.cells? 0 ((⟨b, off, none⟩ : Addr).add (i * K.P.cellsOf t')) (K.P.cellsOf t') = some c ∧ DataW.trod enc K.P W 0 sp true fuel t' c = elems[i]? := fun i hi => by
            have h1 := mapM_some_get hel i i (by simp [hi])
            have hi' : i < elems.length := by rw [hlen]; simpa using hi
            rw [List.getElem?_eq_getElem hi'] at h1
            obtain ⟨c, h2, h3⟩ := Option.bind_eq_some_iff.1 h1
            exact ⟨c, h2, by rw [h3, List.getElem?_eq_getElem hi']⟩
          obtain ⟨css, hcl, hcs⟩ := choose_list (R := fun (i : Nat) (c : List Value) => W.cells? 0 ((⟨b, off, none⟩ : Addr).add (i * K.P.cellsOf t')) (K.P.cellsOf t') = some c ∧ DataW.trod enc K.P W 0 sp true fuel t' c = elems[i]?) (List.range len) (fun i hi => hget i (by simpa using hi))
          simp only [List.length_range] at hcl hlen
          have hcs' : ∀ (i : Nat) c, css[i]? = some c → W.cells? 0 ((⟨b, off, none⟩ : Addr).add (i * K.P.cellsOf t')) (K.P.cellsOf t') = some c ∧ DataW.trod enc K.P W 0 sp true fuel t' c = elems[i]? := fun i c hc => by
            have hi : i < css.length := (List.getElem?_eq_some_iff.1 hc).1
            exact hcs i i c (List.getElem?_range (by omega)) hc
          obtain ⟨ess, k1, k2, k3, k4⟩ := read_list (K.P.cellsOf t') (fun c d p hh => read hB hl e fuel t' c d p hh hf ht' (.inl hfl)) (css := css) (xs := elems) (by omega) (fun i c hc => (hcs' i c hc).2)
          refine ⟨_, ⟨ess, k2, rfl, by omega⟩, ?_, ?_⟩
          · simp only [PRepL, PRep]
            refine ⟨_, _, rfl, .inl ⟨b, off, cap, by rw [k1, hcl], by omega, ?_, by simp, by simp⟩, rfl⟩
            refine cells_rows (cs := css) (sz := K.P.cellsOf t') k1 (fun i c hc => (World.cells?_some (hcs' i c hc).1).2.1) (fun i c hc j hj => ?_) k3
            have := (World.cells?_some (hcs' i c hc).1).2.2 j hj
            rw [← this, Addr.add_mid, Addr.add_mid]
          · have := hB.slice (elems.map (·.1)) (rest.map (·.1))
            simp only [wtL, wt]
            omega
        · cases h
      all_goals simp_all
    · cases hf
  | .arr n e, fuel + 1, t, cs, d, p, h, hf, ht, hs => by
    simp only [GT.fits] at hf
    split at hf
    · rename_i n' t' hu
      simp only [Bool.and_eq_true, beq_iff_eq] at hf
      obtain ⟨rfl, hf⟩ := hf
      obtain ⟨ht', hct⟩ := kid_array hl ht hu
      simp only [DataW.trod, hu] at h
      split at h
      · rename_i hlen
        simp only [Option.map_eq_some_iff] at h
        obtain ⟨xs, hm, hd⟩ := h
        cases hd
        have hxl := mapM_some_length hm
        simp only [List.length_range] at hxl
        let css := (List.range n).map fun i => (cs.drop (i * K.P.cellsOf t')).take (K.P.cellsOf t')
        have hcss : ∀ (i : Nat) c, css[i]? = some c → i < n ∧ c = (cs.drop (i * K.P.cellsOf t')).take (K.P.cellsOf t') := fun i c hc => by
          simp only [css, List.getElem?_map, Option.map_eq_some_iff] at hc
          obtain ⟨j, hj, rfl⟩ := hc
          obtain ⟨h1, h2⟩ := List.getElem?_eq_some_iff.1 hj
          simp only [List.length_range] at h1
          simp only [List.getElem_range] at h2
          subst h2
          exact ⟨h1, rfl⟩
        have hfl : ∀ (i : Nat) c, css[i]? = some c → e.flat = true ∨ spots c := fun i c hc => hs.elim (fun h => .inl (by simpa [GT.flat] using h)) (fun h => .inr (spots_sub h fun x hx => by
          rw [(hcss i c hc).2] at hx
          exact List.mem_of_mem_drop (List.mem_of_mem_take hx)))
        obtain ⟨ess, h1, h2⟩ := choose_list (R := fun (i : Nat) (as : List AVal) => ∃ c x, css[i]? = some c ∧ xs[i]? = some x ∧ e.has as ∧ PRepL K.toCon (allS W) W as c ∧ wtL as ≤ B x.1) (List.range n) fun i hi => by
          have hi : i < n := by simpa using hi
          have hc : css[i]? = some ((cs.drop (i * K.P.cellsOf t')).take (K.P.cellsOf t')) := by simp [css, hi]
          have hxi : xs[i]? = some xs[i] := List.getElem?_eq_getElem (by omega)
          have := mapM_some_get hm i i (by simp [hi])
          rw [hxi] at this
          obtain ⟨as, k1, k2, k3⟩ := read hB hl e fuel t' _ xs[i].1 xs[i].2 this hf ht' (hfl i _ hc)
          exact ⟨as, _, _, hc, hxi, k1, k2, k3⟩
        have hl1 : ess.length = n := by simpa using h1
        have g : ∀ (i : Nat) a, ess[i]? = some a → ∃ c x, css[i]? = some c ∧ xs[i]? = some x ∧ e.has a ∧ PRepL K.toCon (allS W) W a c ∧ wtL a ≤ B x.1 := fun i a ha => by
          have hi : i < ess.length := (List.getElem?_eq_some_iff.1 ha).1
          exact h2 i i a (List.getElem?_range (by omega)) ha
        refine ⟨_, ⟨ess, hl1, fun a ha => ?_, rfl⟩, ?_, ?_⟩
        · obtain ⟨i, hi, rfl⟩ := List.getElem_of_mem ha
          obtain ⟨_, _, _, _, k, _⟩ := g i _ (List.getElem?_eq_getElem hi)
          exact k
        · have flat : ∀ (k : Nat) (l : List (List AVal)), (∀ (i : Nat) a, l[i]? = some a → PRepL K.toCon (allS W) W a ((cs.drop ((k + i) * K.P.cellsOf t')).take (K.P.cellsOf t'))) → k + l.length = n → PRepL K.toCon (allS W) W l.flatten (cs.drop (k * K.P.cellsOf t')) := by
            intro k l
            induction l generalizing k with
            | nil =>
              intro _ hk
              simp only [List.length_nil, Nat.add_zero] at hk
              rw [hk, List.drop_of_length_le (by omega)]
              simp [PRepL]
            | cons a l ih =>
              intro hi hk
              have h0 := hi 0 a rfl
              have hr := ih (k + 1) (fun i a ha => by
                have := hi (i + 1) a (by simpa using ha)
                rwa [show k + (i + 1) = k + 1 + i by omega] at this) (by simp at hk; omega)
              rw [Nat.add_zero] at h0
              have e1 : cs.drop (k * K.P.cellsOf t') = (cs.drop (k * K.P.cellsOf t')).take (K.P.cellsOf t') ++ cs.drop ((k + 1) * K.P.cellsOf t') := by
                rw [Nat.add_mul, Nat.one_mul, ← List.drop_drop, List.take_append_drop]
              rw [e1, List.flatten_cons]
              exact PRepL.app h0 hr
          have := flat 0 ess (fun i a ha => by
            obtain ⟨c, _, k1, _, _, k2, _⟩ := g i a ha
            rw [Nat.zero_add]
            rwa [(hcss i c k1).2] at k2) (by omega)
          simpa using this
        · rw [wtL_flatten]
          refine Nat.le_trans ?_ (hB.agg (xs.map (·.1)))
          rw [List.map_map]
          refine sum_le (by omega) fun i a x ha hxi => ?_
          obtain ⟨_, x', _, k1, _, _, k2⟩ := g i a ha
          rw [hxi] at k1
          cases k1
          exact k2
      · cases h
    · cases hf
  | .st fs, fuel + 1, t, cs, d, p, h, hf, ht, hs => by
    simp only [GT.fits] at hf
    split at hf
    · rename_i F hu
      obtain ⟨h1, h2, h3⟩ := kid_struct hl ht hu
      simp only [DataW.trod, hu] at h
      split at h
      · rename_i hlen
        simp only [Option.map_eq_some_iff] at h
        obtain ⟨xs, hm, hd⟩ := h
        cases hd
        obtain ⟨as, k1, k2, k3⟩ := readL hB hl fs F.toList 0 fuel cs xs hm hf h1 (fun j f hj => by rw [h3 j f hj, Nat.zero_add]) (by simpa [GT.flat] using hs) (by rw [Nat.zero_add, ← h2, hlen]; exact Nat.le_refl _)
        refine ⟨as, k1, ?_, Nat.le_trans k3 (hB.agg _)⟩
        rw [List.drop_zero, List.take_of_length_le (by omega)] at k2
        exact k2
      · cases h
    · cases hf
theorem readL (hB : Bulk B) (hl : laidOutB K.P = true) {sp : Nat → Bool} : ∀ (gs : List GT) (F : List Field) (off : Nat) (fuel : Nat) (cs : List Value) (xs : List (DataW H × List MemPlace)),
    F.mapM (fun f => DataW.trod enc K.P W 0 sp true fuel f.type ((cs.drop f.offset).take (K.P.cellsOf f.type))) = some xs → GT.fitsL K.P gs (F.map (·.type)) = true → (∀ f ∈ F, f.type < K.P.types.size) →
    (∀ (j : Nat) f, F[j]? = some f → f.offset = off + ((F.take j).map fun f => K.P.cellsOf f.type).sum) → GT.flatL gs = true ∨ spots cs → off + (F.map fun f => K.P.cellsOf f.type).sum ≤ cs.length →
    ∃ as, GT.hasL gs as ∧ PRepL K.toCon (allS W) W as ((cs.drop off).take (F.map fun f => K.P.cellsOf f.type).sum) ∧ wtL as ≤ ((xs.map (·.1)).map B).sum
  | [], [], off, fuel, cs, xs, hm, hf, ht, ho, hs, hc => by
    simp at hm
    subst hm
    exact ⟨[], by simp [GT.hasL], by simp [PRepL], by simp [wtL]⟩
  | [], _ :: _, off, fuel, cs, xs, hm, hf, ht, ho, hs, hc => by simp [GT.fitsL] at hf
  | _ :: _, [], off, fuel, cs, xs, hm, hf, ht, ho, hs, hc => by simp [GT.fitsL] at hf
  | g :: gs, f :: F, off, fuel, cs, xs, hm, hf, ht, ho, hs, hc => by
    simp only [List.map_cons, GT.fitsL, Bool.and_eq_true] at hf
    simp only [List.mapM_cons, Option.bind_eq_bind, Option.bind_eq_some_iff, Option.pure_def, Option.some.injEq] at hm
    obtain ⟨x, hx, xs', hm', rfl⟩ := hm
    have h0 := ho 0 f rfl
    simp only [List.take_zero, List.map_nil, List.sum_nil, Nat.add_zero] at h0
    simp only [List.map_cons, List.sum_cons] at hc
    have hs1 : g.flat = true ∨ spots ((cs.drop f.offset).take (K.P.cellsOf f.type)) := hs.elim (fun h => by simp [GT.flatL] at h; exact .inl h.1) (fun h => .inr (spots_sub h fun x hx => List.mem_of_mem_drop (List.mem_of_mem_take hx)))
    have hs2 : GT.flatL gs = true ∨ spots cs := hs.elim (fun h => by simp [GT.flatL] at h; exact .inl h.2) .inr
    obtain ⟨as, k1, k2, k3⟩ := read hB hl g fuel f.type _ x.1 x.2 hx hf.1 (ht f (by simp)) hs1
    obtain ⟨bs, m1, m2, m3⟩ := readL hB hl gs F (off + K.P.cellsOf f.type) fuel cs xs' hm' hf.2 (fun f' hf' => ht f' (by simp [hf'])) (fun j f' hj => by
      have := ho (j + 1) f' (by simpa using hj)
      simp only [List.take_succ_cons, List.map_cons, List.sum_cons] at this
      omega) hs2 (by omega)
    refine ⟨as ++ bs, ⟨as, bs, rfl, k1, m1⟩, ?_, ?_⟩
    · rw [h0] at k2
      rw [List.map_cons, List.sum_cons, List.take_add, List.drop_drop]
      exact PRepL.app k2 m2
    · rw [wtL_append]
      simp only [List.map_cons, List.sum_cons]
      omega
end
end
end Go.Abs
end

section
namespace Go.Abs
open Go.RowKit Go.WideShapes Go.ChangeShapes

def GT.row : GT → Bool
  | .arr _ _ => true
  | .st _ => true
  | _ => false
def GT.top (g : GT) (cs : List AVal) : AVal := if g.row then .agg cs else cs.headD .undef
def hasA : List GT → List AVal → Prop
  | [], as => as = []
  | g :: gs, as => ∃ cs r, as = g.top cs :: r ∧ g.has cs ∧ hasA gs r

section
variable {H : Type} {enc : TypeId × Value → H} {K : Cx} {W : World} {B : DataW H → Nat}

theorem slice_spot {base : Nat} {t : TypeId} {a : Addr} {n c : Nat} (h : Cell.okWide K.P W .any base t (.slice (some a) n c)) : a.spot = none := by
  unfold Cell.okWide at h
  split at h <;> try (simp_all; done)
  unfold Cell.ok at h
  split at h <;> simp_all [World.has]
theorem row_spots {base : Nat} {t : TypeId} {cs : Array Value} (h : Row.okWide K.P W .any base t cs) : spots cs.toList := by
  obtain ⟨ts, _, _, h3⟩ := h
  intro a n c hm
  obtain ⟨i, hi, he⟩ := List.getElem_of_mem hm
  obtain ⟨u, _, hu⟩ := h3 i _ (by rw [Array.getElem?_eq_getElem (by simpa using hi)])
  have : cs[i]'(by simpa using hi) = Value.slice (some a) n c := by rw [← he]; simp
  rw [this] at hu
  exact slice_spot hu

theorem read_arg (hB : Bulk B) (hl : laidOutB K.P = true) {sp : Nat → Bool} {base : Nat} {g : GT} {t : TypeId} {v : Value} {d : DataW H} {p : List MemPlace} (hok : Value.okWide K.P W .any base t v)
    (h : DataW.Trod enc K.P W 0 sp true t v d p) (hf : g.fits K.P t = true) (ht : t < K.P.types.size) : ∃ cs, g.has cs ∧ PRep K.toCon (allS W) W (g.top cs) v ∧ wtL cs ≤ B d := by
  obtain ⟨fuel, h⟩ := h
  have row : g.row = true → (∃ a, v = .agg a) → spots v.cells.toList → ∃ cs, g.has cs ∧ PRep K.toCon (allS W) W (g.top cs) v ∧ wtL cs ≤ B d := by
    rintro hr ⟨a, rfl⟩ hs
    obtain ⟨cs, k1, k2, k3⟩ := read hB hl g fuel t _ d p h hf ht (.inr hs)
    refine ⟨cs, k1, ?_, k3⟩
    rw [GT.top, if_pos hr]
    simp only [PRep]
    exact ⟨a, rfl, k2⟩
  have one : g.row = false → v.cells = #[v] → spots [v] → ∃ cs, g.has cs ∧ PRep K.toCon (allS W) W (g.top cs) v ∧ wtL cs ≤ B d := by
    intro hr hc hs
    rw [hc] at h
    obtain ⟨cs, k1, k2, k3⟩ := read hB hl g fuel t _ d p h hf ht (.inr hs)
    refine ⟨cs, k1, ?_, k3⟩
    rw [GT.top, if_neg (by simp [hr])]
    cases cs with
    | nil => simp [PRepL] at k2
    | cons c r =>
      simp only [PRepL] at k2
      obtain ⟨x, xs, e, k4, _⟩ := k2
      simp only [List.cons.injEq] at e
      rw [e.1]
      exact k4
  cases g with
  | bool =>
    simp only [GT.fits] at hf
    split at hf
    · rename_i hu
      obtain ⟨b, rfl⟩ := okWide_bool hu hok
      exact one rfl rfl (fun a n c hm => by simp at hm)
    · cases hf
  | int k =>
    simp only [GT.fits] at hf
    split at hf
    · rename_i k' hu
      obtain ⟨b, rfl⟩ := okWide_int hu hok
      exact one rfl rfl (fun a n c hm => by simp at hm)
    · cases hf
  | str =>
    simp only [GT.fits] at hf
    split at hf
    · rename_i hu
      obtain ⟨b, rfl⟩ := okWide_string hu hok
      exact one rfl rfl (fun a n c hm => by simp at hm)
    · cases hf
  | sl e =>
    simp only [GT.fits] at hf
    split at hf
    · rename_i t' hu
      obtain ⟨a, n, c, rfl⟩ := okWide_slice hu hok
      refine one rfl rfl (fun a' n' c' hm => ?_)
      simp only [List.mem_singleton] at hm
      rw [← hm] at hok
      simp only [Value.okWide, hu] at hok
      exact slice_spot hok
    · cases hf
  | arr n e =>
    simp only [GT.fits] at hf
    split at hf
    · rename_i n' t' hu
      have hok' := hok
      simp only [Value.okWide, hu] at hok'
      obtain ⟨cs, rfl, _, h3⟩ := hok'
      exact row rfl ⟨cs, rfl⟩ (row_spots h3)
    · cases hf
  | st fs =>
    simp only [GT.fits] at hf
    split at hf
    · rename_i F hu
      have hok' := hok
      simp only [Value.okWide, hu] at hok'
      obtain ⟨cs, rfl, _, h3⟩ := hok'
      exact row rfl ⟨cs, rfl⟩ (row_spots h3)
    · cases hf

theorem read_args (hB : Bulk B) (hl : laidOutB K.P = true) {sp : Nat → Bool} {base : Nat} : ∀ (gs : List GT) (ts : List TypeId) (vs : List Value) (ds : List (DataW H)) (p : List MemPlace),
    DataW.TrodAll enc K.P W 0 sp true ts vs ds p → (∀ (j : Nat) t v, ts[j]? = some t → vs[j]? = some v → Value.okWide K.P W .any base t v) → GT.fitsL K.P gs ts = true → (∀ t ∈ ts, t < K.P.types.size) →
    ∃ as, hasA gs as ∧ PRepL K.toCon (allS W) W as vs ∧ wtL as ≤ (ds.map B).sum
  | [], [], vs, ds, p, h, _, _, _ => by
    obtain ⟨rfl, rfl, rfl⟩ := trodAll_nil h
    exact ⟨[], by simp [hasA], by simp [PRepL], by simp [wtL]⟩
  | [], _ :: _, _, _, _, _, _, hf, _ => by simp [GT.fitsL] at hf
  | _ :: _, [], _, _, _, _, _, hf, _ => by simp [GT.fitsL] at hf
  | g :: gs, t :: ts, vs, ds, p, h, hok, hf, ht => by
    obtain ⟨v, vs', d, ds', p', q, rfl, rfl, rfl, h0, hr⟩ := trodAll_cons h
    simp only [GT.fitsL, Bool.and_eq_true] at hf
    obtain ⟨cs, k1, k2, k3⟩ := read_arg hB hl (hok 0 t v rfl rfl) h0 hf.1 (ht t (by simp))
    obtain ⟨as, m1, m2, m3⟩ := read_args hB hl gs ts vs' ds' q hr (fun j t v h1 h2 => hok (j + 1) t v (by simpa using h1) (by simpa using h2)) hf.2 (fun t h => ht t (by simp [h]))
    refine ⟨g.top cs :: as, ⟨cs, as, rfl, k1, m1⟩, ?_, ?_⟩
    · simp only [PRepL]
      exact ⟨v, vs', rfl, k2, m2⟩
    · have : wt (g.top cs) ≤ wtL cs := by
        unfold GT.top
        split
        · simp [wt]
        · cases cs with
          | nil =>
            have : PRep K.toCon (allS W) W (g.top []) v := k2
            cases g <;> simp_all [GT.has, GT.row]
          | cons c r => simp [wtL]
      simp only [wtL, List.map_cons, List.sum_cons]
      omega
end

theorem post_of_below {H : Type} {enc : TypeId × Value → H} {P : Program} {f : Func} {s : ChangeSpec} {apart fresh handsOn again : Bool} {W W' : World} {args : Array Value} {v : Value} {ds gs : List (DataW H)} {before pa pv : List MemPlace}
    (hW : DataW.Whole enc P f.params.toList s.vars apart W args.toList ds gs before)
    (hres : ∀ (b : Nat) (sp : Nat → Bool) (hd : Bool), DataW.TrodAll enc P W' b sp hd f.resultTypes.toList (v.resultList f.resultTypes.size) (s.fn H (ds ++ gs)).results [])
    (hargs : ∀ sp : Nat → Bool, (∀ p ∈ before, sp p.block = true) → DataW.TrodAll enc P W' 0 sp true f.params.toList args.toList (s.fn H (ds ++ gs)).args pa)
    (hvars : ∀ sp : Nat → Bool, (∀ p ∈ before, sp p.block = true) → DataW.TrodVars enc P W' sp s.vars (s.fn H (ds ++ gs)).vars pv)
    (hps : before = pa ++ pv) (hb : Below W.heap.size W W')
    (hok : ∀ (j : Nat) (t : TypeId) (r : Value), f.resultTypes[j]? = some t → (v.resultList f.resultTypes.size)[j]? = some r → Value.okWide P W' .any 0 t r) :
    s.post enc P f apart fresh handsOn again W args v W' := by
  have hlt : ∀ p ∈ before, p.block < W.heap.size := fun p hp => hW.lt p hp
  have hold : ∀ p ∈ before, (fun b => decide (b < W.heap.size)) p.block = true := fun p hp => by simpa using hlt p hp
  refine ⟨ds, gs, before, [], pa, pv, hW, hres _ _ _, hargs _ hold, hvars _ hold, World.keptBut_mono (fun p hp => ⟨hp, ?_⟩) (hb.frame (· ∈ before)), fun _ => ?_⟩
  · rw [hps, List.mem_append] at hp
    exact Or.inr hp
  · obtain ⟨_, _, _, _, _, hz, hn⟩ := hW
    refine ⟨hok, _, _, ([] ++ pa) ++ pv, ⟨[] ++ pa, pv, trodAll_append (hargs _ (fun _ _ => rfl)) (hres _ _ _), hvars _ (fun _ _ => rfl), rfl, ?_, ?_⟩, ?_⟩
    · intro b off hp
      have hin : MemPlace.cell b off ∈ before := by rw [hps]; simpa using hp
      rw [hb.frozen (hlt _ hin)]
      exact hz b off hin
    · intro ha
      have := hn ha
      rw [hps] at this
      simpa using this
    · intro p hp _
      rw [hps]
      simpa using hp

section
variable {H : Type} {enc : TypeId × Value → H} {K : Cx} {B : DataW H → Nat}

theorem stays_all (hl : laidOutB K.P = true) {W W' : World} (hb : Below W.heap.size W W') {sp : Nat → Bool} : ∀ (ts : List TypeId) (vs : List Value) (ds : List (DataW H)) (p : List MemPlace),
    (∀ t ∈ ts, K.P.readableRec t = true ∧ t < K.P.types.size) → DataW.TrodAll enc K.P W 0 (fun _ => true) true ts vs ds p → (∀ x ∈ p, x.block < W.heap.size ∧ sp x.block = true) → DataW.TrodAll enc K.P W' 0 sp true ts vs ds p
  | [], vs, ds, p, _, h, _ => by
    obtain ⟨rfl, rfl, rfl⟩ := trodAll_nil h
    exact trodAll_mk0
  | t :: ts, vs, ds, p, ht, h, hp => by
    obtain ⟨v, vs', d, ds', p', q, rfl, rfl, rfl, h0, hr⟩ := trodAll_cons h
    obtain ⟨h1, h2⟩ := ht t (by simp)
    refine trodAll_cons_mk (WideElems.Trod_stays hl h1 h2 h0 (fun x hx => hb.same (hp x (by simp [hx])).1) (fun x hx => (hp x (by simp [hx])).2)) (stays_all hl hb ts vs' ds' q (fun t h => ht t (by simp [h])) hr (fun x hx => hp x (by simp [hx])))

theorem law_post {f : Nat} {fn : Func} {s : ChangeSpec} {c : Contract} {gts : List GT} {tb : TypeId} {W : World} {base : Nat} {args : Array Value} {ds gs : List (DataW H)} {before : List MemPlace}
    (hv : Valid K f c) (hl : laidOutB K.P = true) (hB : Bulk B)
    (hts : (fn.params.toList.all fun t => K.P.readableRec t && decide (t < K.P.types.size)) = true) (hfit : GT.fitsL K.P gts fn.params.toList = true) (hres : fn.resultTypes = #[tb]) (htb : K.P.underlying tb = some .bool)
    (hvars : s.vars = []) (hspec : ∀ ds : List (DataW H), ds.length = fn.params.size → s.fn H ds = { results := [.lit (.bool true)], args := ds })
    (hgl : ∀ n ∈ K.N.gs, PRepC K.toCon (allS W) W (K.E.T n) (K.N.gnum n) 0)
    (hpre : ∀ as, hasA gts as → wtL as ≤ (ds.map B).sum → c.pre as) (hpost : ∀ as, c.pre as → c.post as = .lit (.bool true))
    (hval : ∀ (j : Nat) t v, fn.params[j]? = some t → args[j]? = some v → Value.okWide K.P W .any base t v)
    (hW : DataW.Whole enc K.P fn.params.toList s.vars false W args.toList ds gs before) :
    Calls K.P (K.nu f) args W fun e W' => ∃ v, e = .returned v ∧ s.post enc K.P fn false true false false W args v W' := by
  have hW' := hW
  obtain ⟨p, q, hA, hV, rfl, hfz, hnd⟩ := hW
  rw [hvars] at hV
  have hgq : gs = [] ∧ q = [] := by
    cases gs with
    | nil => simp only [DataW.TrodVars] at hV; exact ⟨rfl, hV⟩
    | cons _ _ => simp only [DataW.TrodVars] at hV
  obtain ⟨rfl, rfl⟩ := hgq
  have hts' : ∀ t ∈ fn.params.toList, K.P.readableRec t = true ∧ t < K.P.types.size := fun t ht => by
    have := List.all_eq_true.1 hts t ht
    simpa [Bool.and_eq_true] using this
  obtain ⟨as, k1, k2, k3⟩ := read_args hB hl (base := base) gts fn.params.toList args.toList ds p hA (fun j t v h1 h2 => hval j t v (by simpa using h1) (by simpa using h2)) hfit (fun t ht => (hts' t ht).2)
  have hp := hpre as k1 k3
  have hc := hv.2 (allS W) W as args.toList hgl k2 hp
  rw [Array.toArray_toList] at hc
  refine hc.mono fun e W' ⟨v, g', he, hfr, hrep, _, _⟩ => ⟨v, he, ?_⟩
  rw [hpost as hp] at hrep
  simp only [Rep] at hrep
  subst hrep
  have hb : Below W.heap.size W W' := ⟨hfr.os, hfr.tape, hfr.output, hfr.size, fun k hk => hfr.block k hk (fun h => h)⟩
  have hdl : ∀ (ts : List TypeId) (vs : List Value) (ds : List (DataW H)) (p : List MemPlace), DataW.TrodAll enc K.P W 0 (fun _ => true) true ts vs ds p → ds.length = ts.length := by
    intro ts
    induction ts with
    | nil =>
      intro vs ds p h
      obtain ⟨_, rfl, _⟩ := trodAll_nil h
      rfl
    | cons t ts ih =>
      intro vs ds p h
      obtain ⟨v, vs', d, ds', p', q, rfl, rfl, rfl, h0, hr⟩ := trodAll_cons h
      simp [ih _ _ _ hr]
  have hlen : (ds ++ []).length = fn.params.size := by
    rw [List.append_nil, hdl _ _ _ _ hA]
    simp
  have hsp := hspec (ds ++ []) hlen
  refine post_of_below hW' (pa := p) (pv := []) (fun b sp hd => ?_) (fun sp hs => ?_) (fun sp hs => ?_) rfl hb ?_
  · rw [hsp, hres]
    exact trodAll_mk1 (shut_bool htb true)
  · rw [hsp, List.append_nil]
    exact stays_all hl hb _ _ _ _ hts' hA (fun x hx => ⟨hW'.lt x (by simpa using hx), hs x (by simpa using hx)⟩)
  · rw [hsp, hvars]
    simp [DataW.TrodVars]
  · rw [hres]
    intro j t r h1 h2
    have := ok_one (f := fn) (v := .bool true) hres rfl (okWide_bool_mk (P := K.P) (W' := W') htb true)
    exact this j t r (by rw [hres]; exact h1) (by rw [hres]; exact h2)
end
end Go.Abs
end

section
namespace Go.Abs
def digs (n : Nat) : List UInt8 := if h : n = 0 then [] else UInt8.ofNat n :: digs (n / 256)
termination_by n
decreasing_by omega
theorem digs_zero : digs 0 = [] := by rw [digs]; simp
theorem digs_pos {n : Nat} (h : n ≠ 0) : digs n = UInt8.ofNat n :: digs (n / 256) := by rw [digs]; simp [h]
def mag (n : Int) : Nat := (if n < 0 then -1 - n else n).toNat
def flp (n : Int) (c : UInt8) : UInt8 := if n < 0 then 255 - c else c
def encI (n : Int) : List UInt8 :=
  flp n (UInt8.ofNat (128 + (digs (mag n)).length)) :: (digs (mag n)).reverse.map (flp n)
theorem digs_getElem : ∀ (i n : Nat) (h : i < (digs n).length), (digs n)[i] = UInt8.ofNat (n / 256 ^ i)
  | 0, n, h => by
    by_cases hn : n = 0
    · subst hn; simp [digs_zero] at h
    · simp [digs_pos hn]
  | i + 1, n, h => by
    by_cases hn : n = 0
    · subst hn; simp [digs_zero] at h
    · simp only [digs_pos hn, List.length_cons, Nat.add_lt_add_iff_right] at h ⊢
      rw [List.getElem_cons_succ, digs_getElem i (n / 256) h, Nat.div_div_eq_div_mul, Nat.pow_succ, Nat.mul_comm]
theorem digs_len : ∀ (k n : Nat), (digs n).length ≤ k ↔ n < 256 ^ k
  | 0, n => by
    by_cases hn : n = 0
    · subst hn; simp [digs_zero]
    · simp [digs_pos hn]; omega
  | k + 1, n => by
    by_cases hn : n = 0
    · subst hn; simp [digs_zero, Nat.pow_pos]
    · rw [digs_pos hn, List.length_cons, Nat.add_le_add_iff_right, digs_len k, Nat.div_lt_iff_lt_mul (by decide), Nat.pow_succ]
end Go.Abs
namespace Go.Abs
theorem shr64_pos {x : UInt64} {N m : Nat} (hx : x.toNat = N) : (0 < shr64 x m) ↔ 2 ^ m ≤ N := by
  rw [UInt64.lt_iff_toNat_lt]
  show 0 < (x.toBitVec >>> m).toNat ↔ _
  rw [BitVec.toNat_ushiftRight, Nat.shiftRight_eq_div_pow]
  show 0 < x.toNat / 2 ^ m ↔ _
  rw [hx, Nat.div_pos_iff]
  have := Nat.two_pow_pos m
  omega
theorem pow_256 (k : Nat) : 2 ^ (8 * k) = 256 ^ k := by rw [Nat.pow_mul]
theorem shr64_byte {x : UInt64} {N m : Nat} (hx : x.toNat = N) : (shr64 x m).toUInt8 = UInt8.ofNat (N / 2 ^ m) := by
  apply UInt8.toNat_inj.1
  rw [UInt64.toNat_toUInt8, UInt8.toNat_ofNat']
  show (x.toBitVec >>> m).toNat % 256 = _
  rw [BitVec.toNat_ushiftRight, Nat.shiftRight_eq_div_pow]
  show x.toNat / 2 ^ m % 256 = _
  rw [hx]
end Go.Abs
end

section
namespace Go.Abs

def rotr (x : UInt32) (n : Nat) : UInt32 := shr32 x n ||| shl32 x (32 - n)
def rotl (x : UInt32) (k : Int) : UInt32 := shl32 x (UInt64.ofInt k &&& 31).toNat ||| shr32 x (32 - (UInt64.ofInt k &&& 31)).toNat
theorem rotl_7 (x : UInt32) : rotl x (-7) = rotr x 7 := UInt32.or_comm _ _
theorem rotl_18 (x : UInt32) : rotl x (-18) = rotr x 18 := UInt32.or_comm _ _
theorem rotl_17 (x : UInt32) : rotl x (-17) = rotr x 17 := UInt32.or_comm _ _
theorem rotl_19 (x : UInt32) : rotl x (-19) = rotr x 19 := UInt32.or_comm _ _
theorem rotl_6 (x : UInt32) : rotl x (-6) = rotr x 6 := UInt32.or_comm _ _
theorem rotl_11 (x : UInt32) : rotl x (-11) = rotr x 11 := UInt32.or_comm _ _
theorem rotl_25 (x : UInt32) : rotl x (-25) = rotr x 25 := UInt32.or_comm _ _
theorem rotl_2 (x : UInt32) : rotl x (-2) = rotr x 2 := UInt32.or_comm _ _
theorem rotl_13 (x : UInt32) : rotl x (-13) = rotr x 13 := UInt32.or_comm _ _
theorem rotl_22 (x : UInt32) : rotl x (-22) = rotr x 22 := UInt32.or_comm _ _

structure H8 where
  a : UInt32
  b : UInt32
  c : UInt32
  d : UInt32
  e : UInt32
  f : UInt32
  g : UInt32
  h : UInt32
def H8.l (s : H8) : List UInt32 := [s.a, s.b, s.c, s.d, s.e, s.f, s.g, s.h]
def H8.of (l : List UInt32) : H8 := ⟨at32 l 0, at32 l 1, at32 l 2, at32 l 3, at32 l 4, at32 l 5, at32 l 6, at32 l 7⟩
@[simp] theorem H8.of_l (s : H8) : H8.of s.l = s := rfl
@[simp] theorem H8.len (s : H8) : s.l.length = 8 := rfl
def iv : H8 := ⟨1779033703, 3144134277, 1013904242, 2773480762, 1359893119, 2600822924, 528734635, 1541459225⟩
def kc : List UInt32 := [1116352408, 1899447441, 3049323471, 3921009573, 961987163, 1508970993, 2453635748, 2870763221, 3624381080, 310598401, 607225278, 1426881987, 1925078388, 2162078206, 2614888103, 3248222580, 3835390401, 4022224774, 264347078, 604807628, 770255983, 1249150122, 1555081692, 1996064986, 2554220882, 2821834349, 2952996808, 3210313671, 3336571891, 3584528711, 113926993, 338241895, 666307205, 773529912, 1294757372, 1396182291, 1695183700, 1986661051, 2177026350, 2456956037, 2730485921, 2820302411, 3259730800, 3345764771, 3516065817, 3600352804, 4094571909, 275423344, 430227734, 506948616, 659060556, 883997877, 958139571, 1322822218, 1537002063, 1747873779, 1955562222, 2024104815, 2227730452, 2361852424, 2428436474, 2756734187, 3204031479, 3329325298]

def rotC : Contract := ⟨fun ds => ∃ x k, ds = [u32 x, i64 k], fun ds => u32 (rotl (gU32 (nth ds 0)) (asI (nth ds 1)))⟩
def mixC : Contract := ⟨fun ds => ∃ x i j k, ds = [u32 x, i64 i, i64 j, i64 k], fun ds => u32 (rotl (gU32 (nth ds 0)) (W (-asI (nth ds 1))) ^^^ rotl (gU32 (nth ds 0)) (W (-asI (nth ds 2))) ^^^ rotl (gU32 (nth ds 0)) (W (-asI (nth ds 3))))⟩

def ldw (b : List UInt8) (t : Nat) : Nat → UInt32
  | 0 => 0
  | j + 1 => shl32 (ldw b t j) 8 ||| (at8 b (4 * t + j)).toUInt32
def sg0 (p : UInt32) : UInt32 := rotr p 7 ^^^ rotr p 18 ^^^ shr32 p 3
def sg1 (q : UInt32) : UInt32 := rotr q 17 ^^^ rotr q 19 ^^^ shr32 q 10
def wnext (b : List UInt8) (t : Nat) (w : List UInt32) : UInt32 :=
  if t < 16 then ldw b t 4 else at32 w (t - 16) + sg0 (at32 w (t - 15)) + at32 w (t - 7) + sg1 (at32 w (t - 2))
def sched (b : List UInt8) : Nat → List UInt32
  | 0 => []
  | t + 1 => sched b t ++ [wnext b t (sched b t)]
theorem sched_length (b : List UInt8) : ∀ t, (sched b t).length = t
  | 0 => rfl
  | t + 1 => by simp [sched, sched_length b t]
def schedC : Contract := ⟨fun ds => ∃ nl b, b.length = 64 ∧ ds = [.sl .plain nl 64 (bys b)], fun ds => .agg (w32s (sched (gBs (gCs (nth ds 0))) 64))⟩

def rnd (k w : UInt32) (s : H8) : H8 :=
  let x := s.h + (rotr s.e 6 ^^^ rotr s.e 11 ^^^ rotr s.e 25) + ((s.e &&& s.f) ^^^ (~~~s.e &&& s.g)) + k + w
  let y := (rotr s.a 2 ^^^ rotr s.a 13 ^^^ rotr s.a 22) + ((s.a &&& s.b) ^^^ (s.a &&& s.c) ^^^ (s.b &&& s.c))
  ⟨x + y, s.a, s.b, s.c, s.d + x, s.e, s.f, s.g⟩
def rnds (w : List UInt32) (s : H8) : Nat → H8
  | 0 => s
  | t + 1 => rnd (at32 kc t) (at32 w t) (rnds w s t)
def H8.add (s v : H8) : H8 := ⟨s.a + v.a, s.b + v.b, s.c + v.c, s.d + v.d, s.e + v.e, s.f + v.f, s.g + v.g, s.h + v.h⟩
def compr (s : H8) (b : List UInt8) : H8 := s.add (rnds (sched b 64) s 64)
def comprC : Contract := ⟨fun ds => ∃ (s : H8) (nl : Option Bool) (b : List UInt8), b.length = 64 ∧ ds = [.agg (w32s s.l), .sl .plain nl 64 (bys b)], fun ds => .agg (w32s (compr (H8.of (gWs (gCs (nth ds 0)))) (gBs (gCs (nth ds 1)))).l)⟩

theorem zeros32_64 {t : Nat} (h : t < 64) : zeros32 (64 - t) = 0 :: zeros32 (63 - t) := by
  rw [show 64 - t = (63 - t) + 1 by omega]; rfl
theorem set_mid {α : Type} {a c : List α} {i : Nat} {x y : α} (h : i = a.length) : (a ++ x :: c).set i y = a ++ y :: c := by
  subst h; simp
end Go.Abs
namespace Go.Abs
structure Strm where
  h : H8
  b : List UInt8
  n : UInt64
def scs (s : Strm) : List AVal := w32s s.h.l ++ (bys s.b ++ [u64 s.n])
def Strm.v (s : Strm) : AVal := .agg (scs s)
def Strm.of (l : List AVal) : Strm := ⟨H8.of (gWs (l.take 8)), gBs ((l.drop 8).take 64), gU64 (nth l 72)⟩
section cells
variable {s : Strm}
theorem scs_len (h : s.b.length = 64) : (scs s).length = 73 := by simp [scs, h]
theorem scs_n (h : s.b.length = 64) : hdA ((scs s).drop 72) = u64 s.n := by
  rw [hd_at]
  simp [scs, List.getD, List.getElem?_append, h]
theorem scs_h (s : Strm) : (scs s).take 8 = w32s s.h.l := by simp [scs]
theorem scs_b (h : s.b.length = 64) : ((scs s).drop 8).take 64 = bys s.b := by
  rw [scs, List.drop_left' (by simp), List.take_left' (by simp [h])]
theorem scs_all (h : s.b.length = 64) : (scs s).take 73 = scs s := List.take_of_length_le (by rw [scs_len h]; decide)
@[simp] theorem scs_cell (s : Strm) : (∀ c ∈ scs s, isCell c) ↔ True := by simp [scs, or_imp, forall_and]
@[simp] theorem scs_own (s : Strm) : (∀ c ∈ scs s, ownTop c = false) ↔ True := by simp [scs, or_imp, forall_and]
@[simp] theorem scs_pureL (s : Strm) : pureL (scs s) = true := by simp [scs]
@[simp] theorem scs_pure (s : Strm) : (∀ c ∈ scs s, pureB c = true) ↔ True := iff_true_intro ((pureL_iff _).1 (scs_pureL s))
@[simp] theorem scs_mem (s : Strm) : memFreeL (scs s) = true := by simp [scs]
@[simp] theorem scs_refs (s : Strm) : refsL (scs s) = [] := by simp [scs]
theorem scs_set_h {x : H8} : splice (scs s) 0 (w32s x.l) = scs { s with h := x } := by
  rw [scs, splice_left (by simp), splice_full (by simp)]; rfl
theorem scs_set_n {n : UInt64} (h : s.b.length = 64) : splice (scs s) 72 [u64 n] = scs { s with n := n } := by
  rw [scs, splice_right (by simp), splice_right (by simp [h])]
  simp [h, scs]
theorem scs_set_b {i : Nat} {xs : List UInt8} (h : s.b.length = 64) (hi : i + xs.length ≤ 64) : splice (scs s) (8 + i) (bys xs) = scs { s with b := s.b.take i ++ xs ++ s.b.drop (i + xs.length) } := by
  rw [scs, splice_right (by simp), splice_left (by simp [h]; omega)]
  simp only [H8.len, w32s_length, Nat.add_sub_cancel_left, scs]
  rw [splice, bys_length, bys_append, bys_append, bys_take, bys_drop]
theorem scs_full {l : List AVal} (h : s.b.length = 64) (hl : l.length = 73) : splice l 0 (scs s) = scs s := splice_full (by rw [hl, scs_len h])
end cells
theorem zero_len : (w32s (zeros32 8) ++ (bys (zeros 64) ++ [u64 0])).length = 73 := by simp
def add1 (s : Strm) (x : UInt8) : Strm :=
  let b' := s.b.set (s.n.toNat % 64) x
  ⟨if s.n.toNat % 64 = 63 then compr s.h b' else s.h, b', s.n + 1⟩
def Strm.add (s : Strm) (m : List UInt8) : Strm := m.foldl add1 s
theorem add1_len (s : Strm) (x : UInt8) : (add1 s x).b.length = s.b.length := by simp [add1]
theorem add_len (m : List UInt8) : ∀ s : Strm, (s.add m).b.length = s.b.length := by
  induction m with
  | nil => intro s; rfl
  | cons x m ih => intro s; rw [Strm.add, List.foldl_cons]; exact (ih _).trans (add1_len s x)
theorem add_append (s : Strm) (m k : List UInt8) : s.add (m ++ k) = (s.add m).add k := by simp [Strm.add]
theorem Strm.of_scs (s : Strm) (hb : s.b.length = 64) : Strm.of (scs s) = s := by
  have h3 : nth (scs s) 72 = u64 s.n := by
    rw [nth, ← hd_at, scs_n hb]
  rw [Strm.of, scs_h, scs_b hb, h3]
  simp
def Strm.init : Strm := ⟨iv, zeros 64, 0⟩
def beginC : Contract := ⟨fun ds => ds = [], fun _ => Strm.init.v⟩
def addC : Contract := ⟨fun ds => ∃ (s : Strm) (m : List UInt8), s.b.length = 64 ∧ ds = [s.v, st m], fun ds => ((Strm.of (gCs (nth ds 0))).add (gS (nth ds 1))).v⟩

theorem add_piece (s : Strm) (hb : s.b.length = 64) : ∀ (j : Nat) (m : List UInt8), m.length = j → s.n.toNat % 64 + j ≤ 64 →
    s.add m = ⟨if s.n.toNat % 64 + j = 64 then compr s.h (s.b.take (s.n.toNat % 64) ++ (m ++ s.b.drop (s.n.toNat % 64 + j))) else s.h,
      s.b.take (s.n.toNat % 64) ++ (m ++ s.b.drop (s.n.toNat % 64 + j)), s.n + UInt64.ofNat j⟩
  | 0, m, hm, h => by
    have hm' := List.length_eq_zero_iff.1 hm
    subst hm'
    have h1 : s.n.toNat % 64 < 64 := Nat.mod_lt _ (by decide)
    rw [if_neg (by omega)]
    simp [Strm.add]
  | j + 1, m, hm, h => by
    have hne : m ≠ [] := fun e => by rw [e] at hm; simp at hm
    obtain ⟨k, x, rfl⟩ : ∃ k x, m = k ++ [x] := ⟨m.dropLast, m.getLast hne, (List.dropLast_concat_getLast hne).symm⟩
    have hk : k.length = j := by simp at hm; exact hm
    rw [add_append, add_piece s hb j k hk (by omega), if_neg (by omega)]
    have hn : (s.n + UInt64.ofNat j).toNat % 64 = s.n.toNat % 64 + j := by
      rw [UInt64.toNat_add, UInt64.toNat_ofNat']
      omega
    have hset : (s.b.take (s.n.toNat % 64) ++ (k ++ s.b.drop (s.n.toNat % 64 + j))).set (s.n.toNat % 64 + j) x = s.b.take (s.n.toNat % 64) ++ ((k ++ [x]) ++ s.b.drop (s.n.toNat % 64 + (j + 1))) := by
      rw [List.drop_eq_getElem_cons (show s.n.toNat % 64 + j < s.b.length by omega), ← List.append_assoc, set_mid (by simp [hk]; omega)]
      simp [Nat.add_assoc]
    simp only [Strm.add, List.foldl_cons, List.foldl_nil, add1, hn, hset]
    congr 1
    · by_cases h63 : s.n.toNat % 64 + j = 63
      · rw [if_pos h63, if_pos (by omega)]
      · rw [if_neg h63, if_neg (by omega)]
    · rw [UInt64.add_assoc]
      congr 1
      apply UInt64.toNat_inj.1
      simp
end Go.Abs
end

section
namespace Go.Abs
def padZ (n : Nat) : Nat := (119 - n % 64) % 64
def be8 (n : UInt64) : Nat → List UInt8
  | 0 => []
  | i + 1 => be8 n i ++ [(shr64 n (56 - 8 * i)).toUInt8]
theorem be8_len (n : UInt64) : ∀ i, (be8 n i).length = i
  | 0 => rfl
  | i + 1 => by simp [be8, be8_len n i]
def padOf (n : UInt64) : List UInt8 := (128 :: zeros (padZ n.toNat)) ++ be8 (8 * n) 8
def outB (h : H8) : Nat → List UInt8
  | 0 => []
  | i + 1 => outB h i ++ [(shr32 (at32 h.l (i / 4)) (24 - 8 * (i % 4))).toUInt8]
theorem outB_len (h : H8) : ∀ i, (outB h i).length = i
  | 0 => rfl
  | i + 1 => by simp [outB, outB_len h i]
def Strm.sum (s : Strm) : List UInt8 := outB (s.add (padOf s.n)).h 32
def sumC : Contract := ⟨fun ds => ∃ s : Strm, s.b.length = 64 ∧ s.n.toNat < 1099511627776 ∧ ds = [s.v], fun ds => .agg (bys (Strm.of (gCs (nth ds 0))).sum)⟩
theorem scs_at {s : Strm} {j : Nat} (h : j < 8) : hdA ((scs s).drop j) = u32 (at32 s.h.l j) := by
  rw [scs, List.drop_append_of_le_length (by simp; omega), w32s_drop, hdA]
  rw [show (w32s (s.h.l.drop j) ++ (bys s.b ++ [u64 s.n])).headD .undef = hdA (w32s (s.h.l.drop j)) by
    rw [List.drop_eq_getElem_cons (show j < s.h.l.length from h)]; rfl]
  exact hd_w32s h
theorem padZ_lt (n : Nat) : padZ n < 64 := Nat.mod_lt _ (by decide)
theorem padZ_ok (n : Nat) : (n + (padZ n + 1)) % 64 = 56 := by unfold padZ; omega
theorem zeros_succ' (k : Nat) : zeros k ++ [0] = zeros (k + 1) := by
  simp [zeros, List.replicate_succ']
theorem zeros_64 {t n : Nat} (h : t < n) : zeros (n - t) = 0 :: zeros (n - 1 - t) := by
  rw [show n - t = (n - 1 - t) + 1 by omega]; rfl
end Go.Abs
namespace Go.Abs
theorem add_n (m : List UInt8) : ∀ s : Strm, (s.add m).n = s.n + UInt64.ofNat m.length := by
  induction m with
  | nil => intro s; simp [Strm.add]
  | cons x m ih =>
    intro s
    have : s.add (x :: m) = (add1 s x).add m := rfl
    rw [this, ih]
    simp only [add1, List.length_cons]
    rw [UInt64.add_assoc]
    congr 1
    apply UInt64.toNat_inj.1
    simp
    omega
theorem add_n_nat (m : List UInt8) (s : Strm) (h : s.n.toNat + m.length < 18446744073709551616) : (s.add m).n.toNat = s.n.toNat + m.length := by
  rw [add_n, UInt64.toNat_add, UInt64.toNat_ofNat']
  omega
def sha (l : List UInt8) : List UInt8 := (Strm.init.add l).sum
theorem sha_len (l : List UInt8) : (sha l).length = 32 := outB_len _ 32
theorem init_len : Strm.init.b.length = 64 := by simp [Strm.init]
def hsumC : Contract := ⟨fun ds => ∃ (nl : Option Bool) (l : List UInt8), l.length < 1099511627776 ∧ ds = [.sl .plain nl l.length (bys l)], fun ds => .agg (bys (sha (gBs (gCs (nth ds 0)))))⟩
end Go.Abs
end

section
namespace Go.Abs
set_option maxRecDepth 100000
def f_hash_Sum : AFun :=
 { n := 1, wr := [], res := [.cell 2 (some 32) 2], body :=
 .seq (
 .region [2] [.norm [2]] [
 ⟨some 2, none, .alloc 2 (bys (zeros 32))⟩]) (
 .seq (
 .region [2] [.norm [2]] [
 ⟨some 3, none, .call 0 [] []⟩,
 ⟨some 4, none, .mv false (.s 0)⟩,
 ⟨some 5, none, .toStr none (.s 4)⟩,
 ⟨some 6, none, .call 1 [(.s 3), (.s 5)] []⟩,
 ⟨some 7, none, .call 2 [(.s 6)] []⟩,
 ⟨none, none, .store (some 32) 2 false (.s 2) (.s 7)⟩]) (
 .ret)) }

def f_hash_Begin : AFun :=
 { n := 0, wr := [], res := [.cell 0 (some 73) 0], body :=
 .seq (
 .region [0] [.norm [0]] [
 ⟨some 0, none, .alloc 0 (w32s (zeros32 8) ++ bys (zeros 64) ++ [u64 0])⟩]) (
 .seq (
 .region [0] [.norm [0]] [
 ⟨some 1, none, .build [u32 0, u32 0, u32 0, u32 0, u32 0, u32 0, u32 0, u32 0] [(0, 1, (.c (u32 1779033703))), (1, 1, (.c (u32 3144134277))), (2, 1, (.c (u32 1013904242))), (3, 1, (.c (u32 2773480762))), (4, 1, (.c (u32 1359893119))), (5, 1, (.c (u32 2600822924))), (6, 1, (.c (u32 528734635))), (7, 1, (.c (u32 1541459225)))]⟩,
 ⟨some 2, none, .build (w32s (zeros32 8) ++ bys (zeros 64) ++ [u64 0]) [(0, 8, (.s 1))]⟩,
 ⟨none, none, .store (some 73) 0 false (.s 0) (.s 2)⟩]) (
 .ret)) }

def f_hash_Stream_Add : AFun :=
 { n := 2, wr := [1], res := [.cell 4 (some 73) 4], body :=
 .seq (
 .region [1, 2, 4] [.norm [2, 4]] [
 ⟨some 2, none, .box 2 (some 73) false (.s 0)⟩,
 ⟨some 4, none, .alloc 4 (w32s (zeros32 8) ++ bys (zeros 64) ++ [u64 0])⟩]) (
 .seq (
 .block 0 (
 .loop (
 .seq (
 .seq (
 .region [1, 2, 4, 8] [] [
 ⟨some 7, none, .mv false (.s 1)⟩,
 ⟨some 8, none, .bin .neq (.s 7) (.c (st []))⟩]) (
 .cond (.s 8) (
 .ghost (.keep [1, 2, 4]) .skip) (
 .ghost (.keep [2, 4]) (.exit 0)))) (
 .block 1 (
 .seq (
 .region [1, 2, 4, 5] [.norm [2, 4]] [
 ⟨some 9, none, .fieldAddr 72 (.s 2)⟩,
 ⟨some 10, none, .load none (some 2) false (.s 9)⟩,
 ⟨some 11, none, .bin .rem (.s 10) (.c (u64 64))⟩,
 ⟨some 12, none, .toInt .i64 (.s 11)⟩,
 ⟨some 5, none, .mv false (.s 12)⟩]) (
 .seq (
 .region [1, 2, 4, 5, 6] [.norm [2, 4]] [
 ⟨some 13, none, .fieldAddr 8 (.s 2)⟩,
 ⟨some 14, none, .mv false (.s 5)⟩,
 ⟨some 15, none, .slArr 64 1 (.s 13) (some (.s 14)) none none⟩,
 ⟨some 16, none, .mv false (.s 1)⟩,
 ⟨some 17, none, .copy 1 true 2 none (.s 15) (.s 16)⟩,
 ⟨some 6, none, .mv false (.s 17)⟩]) (
 .seq (
 .region [1, 2, 4, 5, 6] [] [
 ⟨some 18, none, .mv false (.s 1)⟩,
 ⟨some 19, none, .mv false (.s 6)⟩,
 ⟨some 20, none, .slStr (.s 18) (some (.s 19)) none⟩,
 ⟨some 1, none, .mv false (.s 20)⟩]) (
 .seq (
 .region [1, 2, 4, 5, 6] [.norm [2, 4]] [
 ⟨some 21, none, .fieldAddr 72 (.s 2)⟩,
 ⟨some 22, none, .load none (some 2) false (.s 21)⟩,
 ⟨some 23, none, .mv false (.s 6)⟩,
 ⟨some 24, none, .toInt .u64 (.s 23)⟩,
 ⟨some 25, none, .bin .add (.s 22) (.s 24)⟩,
 ⟨some 26, none, .fieldAddr 72 (.s 2)⟩,
 ⟨none, none, .store none 2 false (.s 26) (.s 25)⟩]) (
 .seq (
 .region [1, 2, 4, 30] [] [
 ⟨some 27, none, .mv false (.s 5)⟩,
 ⟨some 28, none, .mv false (.s 6)⟩,
 ⟨some 29, none, .bin .add (.s 27) (.s 28)⟩,
 ⟨some 30, none, .bin .eql (.s 29) (.c (i64 64))⟩]) (
 .cond (.s 30) (
 .region [1, 2, 4] [.norm [2, 4]] [
 ⟨some 31, none, .fieldAddr 0 (.s 2)⟩,
 ⟨some 32, none, .load (some 8) (some 2) false (.s 31)⟩,
 ⟨some 33, none, .fieldAddr 8 (.s 2)⟩,
 ⟨some 34, none, .slArr 64 1 (.s 33) none none none⟩,
 ⟨some 35, none, .call 4 [(.s 32), (.s 34)] [2]⟩,
 ⟨some 36, none, .fieldAddr 0 (.s 2)⟩,
 ⟨none, none, .store (some 8) 2 false (.s 36) (.s 35)⟩]) (
 .ghost (.keep [1, 2, 4]) .skip))))))))))) (
 .seq (
 .region [4] [.norm [2, 4]] [
 ⟨some 37, none, .load (some 73) (some 2) false (.s 2)⟩,
 ⟨none, none, .store (some 73) 4 false (.s 4) (.s 37)⟩]) (
 .ret))) }

def f_hash_Stream_Sum : AFun :=
 { n := 1, wr := [], res := [.cell 2 (some 32) 2], body :=
 .seq (
 .region [1, 2] [.norm [1, 2]] [
 ⟨some 1, none, .box 1 (some 73) false (.s 0)⟩,
 ⟨some 2, none, .alloc 2 (bys (zeros 32))⟩]) (
 .seq (
 .region [1, 2, 3] [.norm [1, 2]] [
 ⟨some 8, none, .fieldAddr 72 (.s 1)⟩,
 ⟨some 9, none, .load none (some 1) false (.s 8)⟩,
 ⟨some 10, none, .bin .mul (.c (u64 8)) (.s 9)⟩,
 ⟨some 3, none, .mv false (.s 10)⟩]) (
 .seq (
 .region [1, 2, 3, 4] [] [
 ⟨some 11, none, .buildSl 1 1 [u8 0] [(0, 1, (.c (u8 128)))]⟩,
 ⟨some 4, none, .mv true (.s 11)⟩]) (
 .seq (
 .block 0 (
 .loop (
 .seq (
 .seq (
 .region [1, 2, 3, 4, 19] [.norm [1, 2]] [
 ⟨some 12, none, .fieldAddr 72 (.s 1)⟩,
 ⟨some 13, none, .load none (some 1) false (.s 12)⟩,
 ⟨some 14, none, .toInt .i64 (.s 13)⟩,
 ⟨some 15, none, .mv false (.s 4)⟩,
 ⟨some 16, none, .len false (.s 15)⟩,
 ⟨some 17, none, .bin .add (.s 14) (.s 16)⟩,
 ⟨some 18, none, .bin .rem (.s 17) (.c (i64 64))⟩,
 ⟨some 19, none, .bin .neq (.s 18) (.c (i64 56))⟩]) (
 .cond (.s 19) (
 .ghost (.keep [1, 2, 3, 4]) .skip) (
 .ghost (.keep [1, 2, 3, 4]) (.exit 0)))) (
 .block 1 (
 .region [1, 2, 3, 4] [] [
 ⟨some 20, none, .mv true (.s 4)⟩,
 ⟨some 21, none, .buildSl 1 1 [u8 0] [(0, 1, (.c (u8 0)))]⟩,
 ⟨some 22, none, .append 1 1 false (some false) none 20 (.s 21)⟩,
 ⟨some 4, none, .mv true (.s 22)⟩]))))) (
 .seq (
 .seq (
 .region [1, 2, 3, 4, 23] [] [
 ⟨some 23, none, .mv false (.c (i64 0))⟩]) (
 .block 2 (
 .loop (
 .seq (
 .region [1, 2, 3, 4, 23, 24] [] [
 ⟨some 24, none, .bin .lss (.s 23) (.c (i64 8))⟩]) (
 .seq (
 .cond (.s 24) (
 .ghost (.keep [1, 2, 3, 4, 23]) .skip) (
 .ghost (.keep [1, 2, 4]) (.exit 2))) (
 .seq (
 .block 3 (
 .seq (
 .region [1, 2, 3, 4, 5, 23] [] [
 ⟨some 25, none, .mv false (.s 23)⟩,
 ⟨some 5, none, .mv false (.s 25)⟩]) (
 .region [1, 2, 3, 4, 23] [] [
 ⟨some 26, none, .mv true (.s 4)⟩,
 ⟨some 27, none, .mv false (.s 3)⟩,
 ⟨some 28, none, .mv false (.s 5)⟩,
 ⟨some 29, none, .bin .mul (.c (i64 8)) (.s 28)⟩,
 ⟨some 30, none, .bin .sub (.c (i64 56)) (.s 29)⟩,
 ⟨some 31, none, .bin .shr (.s 27) (.s 30)⟩,
 ⟨some 32, none, .toInt .u8 (.s 31)⟩,
 ⟨some 33, none, .buildSl 1 1 [u8 0] [(0, 1, (.s 32))]⟩,
 ⟨some 34, none, .append 1 1 false (some false) none 26 (.s 33)⟩,
 ⟨some 4, none, .mv true (.s 34)⟩]))) (
 .region [1, 2, 3, 4, 23] [] [
 ⟨some 35, none, .bin .add (.s 23) (.c (i64 1))⟩,
 ⟨some 23, none, .mv false (.s 35)⟩]))))))) (
 .seq (
 .region [1, 2] [.norm [1, 2]] [
 ⟨some 36, none, .load (some 73) (some 1) false (.s 1)⟩,
 ⟨some 37, none, .mv true (.s 4)⟩,
 ⟨some 38, none, .toStr none (.s 37)⟩,
 ⟨some 39, none, .call 1 [(.s 36), (.s 38)] []⟩,
 ⟨none, none, .store (some 73) 1 false (.s 1) (.s 39)⟩]) (
 .seq (
 .region [1, 2, 6] [.norm [1, 2, 6]] [
 ⟨some 6, none, .alloc 6 (bys (zeros 32))⟩]) (
 .seq (
 .seq (
 .region [1, 2, 6, 40] [] [
 ⟨some 40, none, .mv false (.c (i64 0))⟩]) (
 .block 4 (
 .loop (
 .seq (
 .region [1, 2, 6, 40, 41] [] [
 ⟨some 41, none, .bin .lss (.s 40) (.c (i64 32))⟩]) (
 .seq (
 .cond (.s 41) (
 .ghost (.keep [1, 2, 6, 40]) .skip) (
 .ghost (.keep [2, 6]) (.exit 4))) (
 .seq (
 .block 5 (
 .seq (
 .region [1, 2, 6, 7, 40] [] [
 ⟨some 42, none, .mv false (.s 40)⟩,
 ⟨some 7, none, .mv false (.s 42)⟩]) (
 .region [1, 2, 6, 40] [.norm [1, 2, 6]] [
 ⟨some 43, none, .mv false (.s 7)⟩,
 ⟨some 44, none, .mv false (.s 7)⟩,
 ⟨some 45, none, .bin .quo (.s 44) (.c (i64 4))⟩,
 ⟨some 46, none, .fieldAddr 0 (.s 1)⟩,
 ⟨some 47, none, .idxArr 8 1 (.s 46) (.s 45)⟩,
 ⟨some 48, none, .load none (some 1) false (.s 47)⟩,
 ⟨some 49, none, .mv false (.s 7)⟩,
 ⟨some 50, none, .bin .rem (.s 49) (.c (i64 4))⟩,
 ⟨some 51, none, .bin .mul (.c (i64 8)) (.s 50)⟩,
 ⟨some 52, none, .bin .sub (.c (i64 24)) (.s 51)⟩,
 ⟨some 53, none, .bin .shr (.s 48) (.s 52)⟩,
 ⟨some 54, none, .toInt .u8 (.s 53)⟩,
 ⟨some 55, none, .idxArr 32 1 (.s 6) (.s 43)⟩,
 ⟨none, none, .store none 6 false (.s 55) (.s 54)⟩]))) (
 .region [1, 2, 6, 40] [] [
 ⟨some 56, none, .bin .add (.s 40) (.c (i64 1))⟩,
 ⟨some 40, none, .mv false (.s 56)⟩]))))))) (
 .seq (
 .region [2] [.norm [1, 2, 6]] [
 ⟨some 57, none, .load (some 32) (some 6) false (.s 6)⟩,
 ⟨none, none, .store (some 32) 2 false (.s 2) (.s 57)⟩]) (
 .ret))))))))) }

def f_hash_Mac : AFun :=
 { n := 2, wr := [], res := [.t 4], body :=
 .seq (
 .region [2] [.norm [2]] [
 ⟨some 2, none, .box 2 none false (.s 0)⟩,
 ⟨some 4, none, .mv false (.c (st []))⟩]) (
 .seq (
 .seq (
 .region [2, 11] [.norm [2]] [
 ⟨some 9, none, .load none (some 2) false (.s 2)⟩,
 ⟨some 10, none, .len true (.s 9)⟩,
 ⟨some 11, none, .bin .gtr (.s 10) (.c (i64 64))⟩]) (
 .cond (.s 11) (
 .seq (
 .region [2, 5] [.norm [2, 5]] [
 ⟨some 12, none, .load none (some 2) false (.s 2)⟩,
 ⟨some 13, none, .toBytes (.s 12)⟩,
 ⟨some 14, none, .call 3 [(.s 13)] []⟩,
 ⟨some 5, none, .alloc 5 (bys (zeros 32))⟩,
 ⟨none, none, .store (some 32) 5 false (.s 5) (.s 14)⟩]) (
 .region [2] [.norm [2, 5]] [
 ⟨some 15, none, .slArr 32 1 (.s 5) none none none⟩,
 ⟨some 16, none, .toStr (some 5) (.s 15)⟩,
 ⟨none, none, .store none 2 false (.s 2) (.s 16)⟩])) (
 .ghost (.keep [2]) .skip))) (
 .seq (
 .region [6] [] [
 ⟨some 17, none, .mkfn 5 [] [(.s 2)]⟩,
 ⟨some 6, none, .mv false (.s 17)⟩]) (
 .seq (
 .region [6, 7] [.norm [2, 5, 7]] [
 ⟨some 18, none, .call 0 [] []⟩,
 ⟨some 19, none, .mv false (.s 6)⟩,
 ⟨some 20, none, .callv 5 (.s 19) [(.c (u8 54))] [2]⟩,
 ⟨some 21, none, .call 1 [(.s 18), (.s 20)] []⟩,
 ⟨some 22, none, .mv false (.s 1)⟩,
 ⟨some 23, none, .call 1 [(.s 21), (.s 22)] []⟩,
 ⟨some 24, none, .call 2 [(.s 23)] []⟩,
 ⟨some 7, none, .alloc 7 (bys (zeros 32))⟩,
 ⟨none, none, .store (some 32) 7 false (.s 7) (.s 24)⟩]) (
 .seq (
 .region [8] [.norm [2, 5, 7, 8]] [
 ⟨some 25, none, .call 0 [] []⟩,
 ⟨some 26, none, .mv false (.s 6)⟩,
 ⟨some 27, none, .callv 5 (.s 26) [(.c (u8 92))] [2]⟩,
 ⟨some 28, none, .call 1 [(.s 25), (.s 27)] []⟩,
 ⟨some 29, none, .slArr 32 1 (.s 7) none none none⟩,
 ⟨some 30, none, .toStr (some 7) (.s 29)⟩,
 ⟨some 31, none, .call 1 [(.s 28), (.s 30)] []⟩,
 ⟨some 32, none, .call 2 [(.s 31)] []⟩,
 ⟨some 8, none, .alloc 8 (bys (zeros 32))⟩,
 ⟨none, none, .store (some 32) 8 false (.s 8) (.s 32)⟩]) (
 .seq (
 .region [4] [] [
 ⟨some 33, none, .slArr 32 1 (.s 8) none none none⟩,
 ⟨some 34, none, .toStr (some 8) (.s 33)⟩,
 ⟨some 4, none, .mv false (.s 34)⟩]) (
 .ret)))))) }

def f_hash_compress : AFun :=
 { n := 2, wr := [], res := [.cell 4 (some 8) 4], body :=
 .seq (
 .region [2, 4] [.norm [2, 4]] [
 ⟨some 2, none, .box 2 (some 8) false (.s 0)⟩,
 ⟨some 4, none, .alloc 4 (w32s (zeros32 8))⟩]) (
 .seq (
 .region [2, 4, 5] [.norm [2, 4, 5]] [
 ⟨some 13, none, .mv false (.s 1)⟩,
 ⟨some 14, none, .call 10 [(.s 13)] []⟩,
 ⟨some 5, none, .alloc 5 (w32s (zeros32 64))⟩,
 ⟨none, none, .store (some 64) 5 false (.s 5) (.s 14)⟩]) (
 .seq (
 .region [2, 4, 5, 6, 7] [.norm [2, 4, 5, 6, 7]] [
 ⟨some 15, none, .slArr 8 1 (.s 2) none (some (.c (i64 4))) none⟩,
 ⟨some 16, none, .s2ap 4 (.s 15)⟩,
 ⟨some 17, none, .load (some 4) (some 2) false (.s 16)⟩,
 ⟨some 18, none, .slArr 8 1 (.s 2) (some (.c (i64 4))) none none⟩,
 ⟨some 19, none, .s2ap 4 (.s 18)⟩,
 ⟨some 20, none, .load (some 4) (some 2) false (.s 19)⟩,
 ⟨some 6, none, .alloc 6 [u32 0, u32 0, u32 0, u32 0]⟩,
 ⟨some 7, none, .alloc 7 [u32 0, u32 0, u32 0, u32 0]⟩,
 ⟨none, none, .store (some 4) 6 false (.s 6) (.s 17)⟩,
 ⟨none, none, .store (some 4) 7 false (.s 7) (.s 20)⟩]) (
 .seq (
 .seq (
 .region [2, 4, 5, 6, 7, 21, 22] [.norm [2, 4, 5, 6, 7]] [
 ⟨some 21, none, .load (some 64) none false (.g 0)⟩,
 ⟨some 22, none, .mv false (.c (i64 0))⟩]) (
 .block 0 (
 .loop (
 .seq (
 .region [2, 4, 5, 6, 7, 21, 22, 23] [] [
 ⟨some 23, none, .bin .lss (.s 22) (.c (i64 64))⟩]) (
 .seq (
 .cond (.s 23) (
 .ghost (.keep [2, 4, 5, 6, 7, 21, 22]) .skip) (
 .ghost (.keep [2, 4, 6, 7]) (.exit 0))) (
 .seq (
 .block 1 (
 .seq (
 .region [2, 4, 5, 6, 7, 8, 9, 21, 22] [] [
 ⟨some 24, none, .mv false (.s 22)⟩,
 ⟨some 25, none, .idxA none 1 64 (.s 21) (.s 22)⟩,
 ⟨some 8, none, .mv false (.s 24)⟩,
 ⟨some 9, none, .mv false (.s 25)⟩]) (
 .seq (
 .region [2, 4, 5, 6, 7, 10, 21, 22] [.norm [2, 4, 5, 6, 7]] [
 ⟨some 26, none, .idxArr 4 1 (.s 7) (.c (i64 3))⟩,
 ⟨some 27, none, .load none (some 7) false (.s 26)⟩,
 ⟨some 28, none, .idxArr 4 1 (.s 7) (.c (i64 0))⟩,
 ⟨some 29, none, .load none (some 7) false (.s 28)⟩,
 ⟨some 30, none, .call 11 [(.s 29), (.c (i64 6)), (.c (i64 11)), (.c (i64 25))] []⟩,
 ⟨some 31, none, .bin .add (.s 27) (.s 30)⟩,
 ⟨some 32, none, .idxArr 4 1 (.s 7) (.c (i64 0))⟩,
 ⟨some 33, none, .load none (some 7) false (.s 32)⟩,
 ⟨some 34, none, .idxArr 4 1 (.s 7) (.c (i64 1))⟩,
 ⟨some 35, none, .load none (some 7) false (.s 34)⟩,
 ⟨some 36, none, .bin .and (.s 33) (.s 35)⟩,
 ⟨some 37, none, .idxArr 4 1 (.s 7) (.c (i64 0))⟩,
 ⟨some 38, none, .load none (some 7) false (.s 37)⟩,
 ⟨some 39, none, .un .xor (.s 38)⟩,
 ⟨some 40, none, .idxArr 4 1 (.s 7) (.c (i64 2))⟩,
 ⟨some 41, none, .load none (some 7) false (.s 40)⟩,
 ⟨some 42, none, .bin .and (.s 39) (.s 41)⟩,
 ⟨some 43, none, .bin .xor (.s 36) (.s 42)⟩,
 ⟨some 44, none, .bin .add (.s 31) (.s 43)⟩,
 ⟨some 45, none, .mv false (.s 9)⟩,
 ⟨some 46, none, .bin .add (.s 44) (.s 45)⟩,
 ⟨some 47, none, .mv false (.s 8)⟩,
 ⟨some 48, none, .idxArr 64 1 (.s 5) (.s 47)⟩,
 ⟨some 49, none, .load none (some 5) false (.s 48)⟩,
 ⟨some 50, none, .bin .add (.s 46) (.s 49)⟩,
 ⟨some 10, none, .mv false (.s 50)⟩]) (
 .seq (
 .region [2, 4, 5, 6, 7, 10, 11, 21, 22] [.norm [2, 4, 5, 6, 7]] [
 ⟨some 51, none, .idxArr 4 1 (.s 6) (.c (i64 0))⟩,
 ⟨some 52, none, .load none (some 6) false (.s 51)⟩,
 ⟨some 53, none, .call 11 [(.s 52), (.c (i64 2)), (.c (i64 13)), (.c (i64 22))] []⟩,
 ⟨some 54, none, .idxArr 4 1 (.s 6) (.c (i64 0))⟩,
 ⟨some 55, none, .load none (some 6) false (.s 54)⟩,
 ⟨some 56, none, .idxArr 4 1 (.s 6) (.c (i64 1))⟩,
 ⟨some 57, none, .load none (some 6) false (.s 56)⟩,
 ⟨some 58, none, .bin .and (.s 55) (.s 57)⟩,
 ⟨some 59, none, .idxArr 4 1 (.s 6) (.c (i64 0))⟩,
 ⟨some 60, none, .load none (some 6) false (.s 59)⟩,
 ⟨some 61, none, .idxArr 4 1 (.s 6) (.c (i64 2))⟩,
 ⟨some 62, none, .load none (some 6) false (.s 61)⟩,
 ⟨some 63, none, .bin .and (.s 60) (.s 62)⟩,
 ⟨some 64, none, .bin .xor (.s 58) (.s 63)⟩,
 ⟨some 65, none, .idxArr 4 1 (.s 6) (.c (i64 1))⟩,
 ⟨some 66, none, .load none (some 6) false (.s 65)⟩,
 ⟨some 67, none, .idxArr 4 1 (.s 6) (.c (i64 2))⟩,
 ⟨some 68, none, .load none (some 6) false (.s 67)⟩,
 ⟨some 69, none, .bin .and (.s 66) (.s 68)⟩,
 ⟨some 70, none, .bin .xor (.s 64) (.s 69)⟩,
 ⟨some 71, none, .bin .add (.s 53) (.s 70)⟩,
 ⟨some 11, none, .mv false (.s 71)⟩]) (
 .seq (
 .region [2, 4, 5, 6, 7, 10, 11, 21, 22] [.norm [2, 4, 5, 6, 7]] [
 ⟨some 72, none, .idxArr 4 1 (.s 6) (.c (i64 3))⟩,
 ⟨some 73, none, .load none (some 6) false (.s 72)⟩,
 ⟨some 74, none, .mv false (.s 10)⟩,
 ⟨some 75, none, .bin .add (.s 73) (.s 74)⟩,
 ⟨some 76, none, .idxArr 4 1 (.s 7) (.c (i64 0))⟩,
 ⟨some 77, none, .load none (some 7) false (.s 76)⟩,
 ⟨some 78, none, .idxArr 4 1 (.s 7) (.c (i64 1))⟩,
 ⟨some 79, none, .load none (some 7) false (.s 78)⟩,
 ⟨some 80, none, .idxArr 4 1 (.s 7) (.c (i64 2))⟩,
 ⟨some 81, none, .load none (some 7) false (.s 80)⟩,
 ⟨some 82, none, .build [u32 0, u32 0, u32 0, u32 0] [(0, 1, (.s 75)), (1, 1, (.s 77)), (2, 1, (.s 79)), (3, 1, (.s 81))]⟩,
 ⟨none, none, .store (some 4) 7 false (.s 7) (.s 82)⟩]) (
 .region [2, 4, 5, 6, 7, 21, 22] [.norm [2, 4, 5, 6, 7]] [
 ⟨some 83, none, .mv false (.s 10)⟩,
 ⟨some 84, none, .mv false (.s 11)⟩,
 ⟨some 85, none, .bin .add (.s 83) (.s 84)⟩,
 ⟨some 86, none, .idxArr 4 1 (.s 6) (.c (i64 0))⟩,
 ⟨some 87, none, .load none (some 6) false (.s 86)⟩,
 ⟨some 88, none, .idxArr 4 1 (.s 6) (.c (i64 1))⟩,
 ⟨some 89, none, .load none (some 6) false (.s 88)⟩,
 ⟨some 90, none, .idxArr 4 1 (.s 6) (.c (i64 2))⟩,
 ⟨some 91, none, .load none (some 6) false (.s 90)⟩,
 ⟨some 92, none, .build [u32 0, u32 0, u32 0, u32 0] [(0, 1, (.s 85)), (1, 1, (.s 87)), (2, 1, (.s 89)), (3, 1, (.s 91))]⟩,
 ⟨none, none, .store (some 4) 6 false (.s 6) (.s 92)⟩])))))) (
 .region [2, 4, 5, 6, 7, 21, 22] [] [
 ⟨some 93, none, .bin .add (.s 22) (.c (i64 1))⟩,
 ⟨some 22, none, .mv false (.s 93)⟩]))))))) (
 .seq (
 .seq (
 .region [2, 4, 6, 7, 94] [] [
 ⟨some 94, none, .mv false (.c (i64 0))⟩]) (
 .block 2 (
 .loop (
 .seq (
 .region [2, 4, 6, 7, 94, 95] [] [
 ⟨some 95, none, .bin .lss (.s 94) (.c (i64 4))⟩]) (
 .seq (
 .cond (.s 95) (
 .ghost (.keep [2, 4, 6, 7, 94]) .skip) (
 .ghost (.keep [2, 4]) (.exit 2))) (
 .seq (
 .block 3 (
 .seq (
 .region [2, 4, 6, 7, 12, 94] [] [
 ⟨some 96, none, .mv false (.s 94)⟩,
 ⟨some 12, none, .mv false (.s 96)⟩]) (
 .seq (
 .region [2, 4, 6, 7, 12, 94] [.norm [2, 4, 5, 6, 7]] [
 ⟨some 97, none, .mv false (.s 12)⟩,
 ⟨some 98, none, .idxArr 8 1 (.s 2) (.s 97)⟩,
 ⟨some 99, none, .load none (some 2) false (.s 98)⟩,
 ⟨some 100, none, .mv false (.s 12)⟩,
 ⟨some 101, none, .idxArr 4 1 (.s 6) (.s 100)⟩,
 ⟨some 102, none, .load none (some 6) false (.s 101)⟩,
 ⟨some 103, none, .bin .add (.s 99) (.s 102)⟩,
 ⟨some 104, none, .idxArr 8 1 (.s 2) (.s 97)⟩,
 ⟨none, none, .store none 2 false (.s 104) (.s 103)⟩]) (
 .region [2, 4, 6, 7, 94] [.norm [2, 4, 5, 6, 7]] [
 ⟨some 105, none, .mv false (.s 12)⟩,
 ⟨some 106, none, .bin .add (.s 105) (.c (i64 4))⟩,
 ⟨some 107, none, .idxArr 8 1 (.s 2) (.s 106)⟩,
 ⟨some 108, none, .load none (some 2) false (.s 107)⟩,
 ⟨some 109, none, .mv false (.s 12)⟩,
 ⟨some 110, none, .idxArr 4 1 (.s 7) (.s 109)⟩,
 ⟨some 111, none, .load none (some 7) false (.s 110)⟩,
 ⟨some 112, none, .bin .add (.s 108) (.s 111)⟩,
 ⟨some 113, none, .idxArr 8 1 (.s 2) (.s 106)⟩,
 ⟨none, none, .store none 2 false (.s 113) (.s 112)⟩])))) (
 .region [2, 4, 6, 7, 94] [] [
 ⟨some 114, none, .bin .add (.s 94) (.c (i64 1))⟩,
 ⟨some 94, none, .mv false (.s 114)⟩]))))))) (
 .seq (
 .region [4] [.norm [2, 4, 5, 6, 7]] [
 ⟨some 115, none, .load (some 8) (some 2) false (.s 2)⟩,
 ⟨none, none, .store (some 8) 4 false (.s 4) (.s 115)⟩]) (
 .ret)))))) }

def f_hash_Mac_1 : AFun :=
 { n := 2, wr := [], res := [.t 3], body :=
 .seq (
 .region [] [] [
 ⟨some 3, none, .mv false (.c (st []))⟩]) (
 .seq (
 .region [4] [.norm [4]] [
 ⟨some 4, none, .alloc 4 (bys (zeros 64))⟩]) (
 .seq (
 .region [4] [.norm [4]] [
 ⟨some 6, none, .slArr 64 1 (.s 4) none none none⟩,
 ⟨some 7, none, .load none none false (.s 1)⟩,
 ⟨some 8, none, .copy 1 true 4 none (.s 6) (.s 7)⟩]) (
 .seq (
 .seq (
 .region [4, 9] [] [
 ⟨some 9, none, .mv false (.c (i64 0))⟩]) (
 .block 0 (
 .loop (
 .seq (
 .region [4, 9, 10] [] [
 ⟨some 10, none, .bin .lss (.s 9) (.c (i64 64))⟩]) (
 .seq (
 .cond (.s 10) (
 .ghost (.keep [4, 9]) .skip) (
 .ghost (.keep [4]) (.exit 0))) (
 .seq (
 .block 1 (
 .seq (
 .region [4, 5, 9] [] [
 ⟨some 11, none, .mv false (.s 9)⟩,
 ⟨some 5, none, .mv false (.s 11)⟩]) (
 .region [4, 9] [.norm [4]] [
 ⟨some 12, none, .mv false (.s 5)⟩,
 ⟨some 13, none, .idxArr 64 1 (.s 4) (.s 12)⟩,
 ⟨some 14, none, .load none (some 4) false (.s 13)⟩,
 ⟨some 15, none, .mv false (.s 0)⟩,
 ⟨some 16, none, .bin .xor (.s 14) (.s 15)⟩,
 ⟨some 17, none, .idxArr 64 1 (.s 4) (.s 12)⟩,
 ⟨none, none, .store none 4 false (.s 17) (.s 16)⟩]))) (
 .region [4, 9] [] [
 ⟨some 18, none, .bin .add (.s 9) (.c (i64 1))⟩,
 ⟨some 9, none, .mv false (.s 18)⟩]))))))) (
 .seq (
 .region [3] [] [
 ⟨some 19, none, .slArr 64 1 (.s 4) none none none⟩,
 ⟨some 20, none, .toStr (some 4) (.s 19)⟩,
 ⟨some 3, none, .mv false (.s 20)⟩]) (
 .ret))))) }

def f_wire_Bytes : AFun :=
 { n := 1, wr := [], res := [.t 2], body :=
 .seq (
 .region [] [] [
 ⟨some 2, none, .mv true (.c (.sl (.own 1) none 0 []))⟩]) (
 .seq (
 .region [2] [] [
 ⟨some 3, none, .mv false (.s 0)⟩,
 ⟨some 4, none, .len true (.s 3)⟩,
 ⟨some 5, none, .call 12 [(.s 4)] []⟩,
 ⟨some 6, none, .mv false (.s 0)⟩,
 ⟨some 7, none, .append 1 1 true (some false) none 5 (.s 6)⟩,
 ⟨some 2, none, .mv true (.s 7)⟩]) (
 .ret)) }

def f_hash_schedule : AFun :=
 { n := 1, wr := [], res := [.cell 2 (some 64) 2], body :=
 .seq (
 .region [2] [.norm [2]] [
 ⟨some 2, none, .alloc 2 (w32s (zeros32 64))⟩]) (
 .seq (
 .region [2, 3] [.norm [2, 3]] [
 ⟨some 3, none, .alloc 3 (w32s (zeros32 64))⟩]) (
 .seq (
 .seq (
 .region [2, 3, 11] [] [
 ⟨some 11, none, .mv false (.c (i64 0))⟩]) (
 .block 0 (
 .loop (
 .seq (
 .region [2, 3, 11, 12] [] [
 ⟨some 12, none, .bin .lss (.s 11) (.c (i64 64))⟩]) (
 .seq (
 .cond (.s 12) (
 .ghost (.keep [2, 3, 11]) .skip) (
 .ghost (.keep [2, 3]) (.exit 0))) (
 .seq (
 .block 1 (
 .seq (
 .region [2, 3, 4, 11] [] [
 ⟨some 13, none, .mv false (.s 11)⟩,
 ⟨some 4, none, .mv false (.s 13)⟩]) (
 .seq (
 .seq (
 .region [2, 3, 4, 11, 15] [] [
 ⟨some 14, none, .mv false (.s 4)⟩,
 ⟨some 15, none, .bin .lss (.s 14) (.c (i64 16))⟩]) (
 .cond (.s 15) (
 .seq (
 .seq (
 .region [2, 3, 4, 11, 22, 23, 24] [] [
 ⟨some 16, none, .mv false (.s 0)⟩,
 ⟨some 17, none, .mv false (.s 4)⟩,
 ⟨some 18, none, .bin .mul (.c (i64 4)) (.s 17)⟩,
 ⟨some 19, none, .mv false (.s 4)⟩,
 ⟨some 20, none, .bin .mul (.c (i64 4)) (.s 19)⟩,
 ⟨some 21, none, .bin .add (.s 20) (.c (i64 4))⟩,
 ⟨some 22, none, .slSl 1 (.s 16) (some (.s 18)) (some (.s 21)) none⟩,
 ⟨some 23, none, .len false (.s 22)⟩,
 ⟨some 24, none, .mv false (.c (i64 0))⟩]) (
 .block 2 (
 .loop (
 .seq (
 .region [2, 3, 4, 11, 22, 23, 24, 25] [] [
 ⟨some 25, none, .bin .lss (.s 24) (.s 23)⟩]) (
 .seq (
 .cond (.s 25) (
 .ghost (.keep [2, 3, 4, 11, 22, 23, 24]) .skip) (
 .ghost (.keep [2, 3, 11]) (.exit 2))) (
 .seq (
 .block 3 (
 .seq (
 .region [2, 3, 4, 6, 11, 22, 23, 24] [.norm [2, 3]] [
 ⟨some 26, none, .idxSl 1 (.s 22) (.s 24)⟩,
 ⟨some 27, none, .load none none false (.s 26)⟩,
 ⟨some 6, none, .mv false (.s 27)⟩]) (
 .region [2, 3, 4, 11, 22, 23, 24] [.norm [2, 3]] [
 ⟨some 28, none, .mv false (.s 4)⟩,
 ⟨some 29, none, .mv false (.s 4)⟩,
 ⟨some 30, none, .idxArr 64 1 (.s 3) (.s 29)⟩,
 ⟨some 31, none, .load none (some 3) false (.s 30)⟩,
 ⟨some 32, none, .bin .shl (.s 31) (.c (u64 8))⟩,
 ⟨some 33, none, .mv false (.s 6)⟩,
 ⟨some 34, none, .toInt .u32 (.s 33)⟩,
 ⟨some 35, none, .bin .or (.s 32) (.s 34)⟩,
 ⟨some 36, none, .idxArr 64 1 (.s 3) (.s 28)⟩,
 ⟨none, none, .store none 3 false (.s 36) (.s 35)⟩]))) (
 .region [2, 3, 4, 11, 22, 23, 24] [] [
 ⟨some 37, none, .bin .add (.s 24) (.c (i64 1))⟩,
 ⟨some 24, none, .mv false (.s 37)⟩]))))))) (
 .ghost (.keep [2, 3, 11]) (.exit 1))) (
 .ghost (.keep [2, 3, 4, 11]) .skip))) (
 .seq (
 .region [2, 3, 4, 7, 8, 11] [.norm [2, 3]] [
 ⟨some 38, none, .mv false (.s 4)⟩,
 ⟨some 39, none, .bin .sub (.s 38) (.c (i64 15))⟩,
 ⟨some 40, none, .idxArr 64 1 (.s 3) (.s 39)⟩,
 ⟨some 41, none, .load none (some 3) false (.s 40)⟩,
 ⟨some 42, none, .mv false (.s 4)⟩,
 ⟨some 43, none, .bin .sub (.s 42) (.c (i64 2))⟩,
 ⟨some 44, none, .idxArr 64 1 (.s 3) (.s 43)⟩,
 ⟨some 45, none, .load none (some 3) false (.s 44)⟩,
 ⟨some 7, none, .mv false (.s 41)⟩,
 ⟨some 8, none, .mv false (.s 45)⟩]) (
 .seq (
 .region [2, 3, 4, 8, 9, 11] [] [
 ⟨some 46, none, .mv false (.s 7)⟩,
 ⟨some 47, none, .call 13 [(.s 46), (.c (i64 (-7)))] []⟩,
 ⟨some 48, none, .mv false (.s 7)⟩,
 ⟨some 49, none, .call 13 [(.s 48), (.c (i64 (-18)))] []⟩,
 ⟨some 50, none, .bin .xor (.s 47) (.s 49)⟩,
 ⟨some 51, none, .mv false (.s 7)⟩,
 ⟨some 52, none, .bin .shr (.s 51) (.c (u64 3))⟩,
 ⟨some 53, none, .bin .xor (.s 50) (.s 52)⟩,
 ⟨some 9, none, .mv false (.s 53)⟩]) (
 .seq (
 .region [2, 3, 4, 9, 10, 11] [] [
 ⟨some 54, none, .mv false (.s 8)⟩,
 ⟨some 55, none, .call 13 [(.s 54), (.c (i64 (-17)))] []⟩,
 ⟨some 56, none, .mv false (.s 8)⟩,
 ⟨some 57, none, .call 13 [(.s 56), (.c (i64 (-19)))] []⟩,
 ⟨some 58, none, .bin .xor (.s 55) (.s 57)⟩,
 ⟨some 59, none, .mv false (.s 8)⟩,
 ⟨some 60, none, .bin .shr (.s 59) (.c (u64 10))⟩,
 ⟨some 61, none, .bin .xor (.s 58) (.s 60)⟩,
 ⟨some 10, none, .mv false (.s 61)⟩]) (
 .region [2, 3, 11] [.norm [2, 3]] [
 ⟨some 62, none, .mv false (.s 4)⟩,
 ⟨some 63, none, .mv false (.s 4)⟩,
 ⟨some 64, none, .bin .sub (.s 63) (.c (i64 16))⟩,
 ⟨some 65, none, .idxArr 64 1 (.s 3) (.s 64)⟩,
 ⟨some 66, none, .load none (some 3) false (.s 65)⟩,
 ⟨some 67, none, .mv false (.s 9)⟩,
 ⟨some 68, none, .bin .add (.s 66) (.s 67)⟩,
 ⟨some 69, none, .mv false (.s 4)⟩,
 ⟨some 70, none, .bin .sub (.s 69) (.c (i64 7))⟩,
 ⟨some 71, none, .idxArr 64 1 (.s 3) (.s 70)⟩,
 ⟨some 72, none, .load none (some 3) false (.s 71)⟩,
 ⟨some 73, none, .bin .add (.s 68) (.s 72)⟩,
 ⟨some 74, none, .mv false (.s 10)⟩,
 ⟨some 75, none, .bin .add (.s 73) (.s 74)⟩,
 ⟨some 76, none, .idxArr 64 1 (.s 3) (.s 62)⟩,
 ⟨none, none, .store none 3 false (.s 76) (.s 75)⟩]))))))) (
 .region [2, 3, 11] [] [
 ⟨some 77, none, .bin .add (.s 11) (.c (i64 1))⟩,
 ⟨some 11, none, .mv false (.s 77)⟩]))))))) (
 .seq (
 .region [2] [.norm [2, 3]] [
 ⟨some 78, none, .load (some 64) (some 3) false (.s 3)⟩,
 ⟨none, none, .store (some 64) 2 false (.s 2) (.s 78)⟩]) (
 .ret)))) }

def f_hash_mix : AFun :=
 { n := 4, wr := [], res := [.t 8], body :=
 .seq (
 .region [] [] [
 ⟨some 8, none, .mv false (.c (u32 0))⟩]) (
 .seq (
 .region [8] [] [
 ⟨some 9, none, .mv false (.s 0)⟩,
 ⟨some 10, none, .mv false (.s 1)⟩,
 ⟨some 11, none, .un .neg (.s 10)⟩,
 ⟨some 12, none, .call 13 [(.s 9), (.s 11)] []⟩,
 ⟨some 13, none, .mv false (.s 0)⟩,
 ⟨some 14, none, .mv false (.s 2)⟩,
 ⟨some 15, none, .un .neg (.s 14)⟩,
 ⟨some 16, none, .call 13 [(.s 13), (.s 15)] []⟩,
 ⟨some 17, none, .bin .xor (.s 12) (.s 16)⟩,
 ⟨some 18, none, .mv false (.s 0)⟩,
 ⟨some 19, none, .mv false (.s 3)⟩,
 ⟨some 20, none, .un .neg (.s 19)⟩,
 ⟨some 21, none, .call 13 [(.s 18), (.s 20)] []⟩,
 ⟨some 22, none, .bin .xor (.s 17) (.s 21)⟩,
 ⟨some 8, none, .mv false (.s 22)⟩]) (
 .ret)) }

def f_wire_Int : AFun :=
 { n := 1, wr := [], res := [.t 2], body :=
 .seq (
 .region [] [] [
 ⟨some 2, none, .mv true (.c (.sl (.own 1) none 0 []))⟩]) (
 .scope (
 .seq (
 .region [3, 4] [] [
 ⟨some 8, none, .mv false (.s 0)⟩,
 ⟨some 9, none, .toInt .u64 (.s 8)⟩,
 ⟨some 3, none, .mv false (.s 9)⟩,
 ⟨some 4, none, .mv false (.c (u8 0))⟩]) (
 .seq (
 .seq (
 .region [3, 4, 11] [] [
 ⟨some 10, none, .mv false (.s 0)⟩,
 ⟨some 11, none, .bin .lss (.s 10) (.c (i64 0))⟩]) (
 .cond (.s 11) (
 .region [3, 4] [] [
 ⟨some 12, none, .mv false (.s 3)⟩,
 ⟨some 13, none, .un .xor (.s 12)⟩,
 ⟨some 3, none, .mv false (.s 13)⟩,
 ⟨some 4, none, .mv false (.c (u8 255))⟩]) (
 .ghost (.keep [3, 4]) .skip))) (
 .seq (
 .region [3, 4, 5] [] [
 ⟨some 5, none, .mv false (.c (i64 8))⟩]) (
 .seq (
 .ghost (.keep [3, 4, 5]) .skip) (
 .seq (
 .block 0 (
 .loop (
 .seq (
 .seq (
 .region [3, 4, 5, 15] [] [
 ⟨some 14, none, .mv false (.s 5)⟩,
 ⟨some 15, none, .bin .gtr (.s 14) (.c (i64 0))⟩]) (
 .cond (.s 15) (
 .ghost (.keep [3, 4, 5]) .skip) (
 .ghost (.keep [3, 4, 5]) (.exit 0)))) (
 .block 1 (
 .seq (
 .seq (
 .region [3, 4, 5, 21] [] [
 ⟨some 16, none, .mv false (.s 3)⟩,
 ⟨some 17, none, .mv false (.s 5)⟩,
 ⟨some 18, none, .bin .sub (.s 17) (.c (i64 1))⟩,
 ⟨some 19, none, .bin .mul (.c (i64 8)) (.s 18)⟩,
 ⟨some 20, none, .bin .shr (.s 16) (.s 19)⟩,
 ⟨some 21, none, .bin .gtr (.s 20) (.c (u64 0))⟩]) (
 .cond (.s 21) (
 .ghost (.keep [3, 4, 5]) (.exit 0)) (
 .ghost (.keep [3, 4, 5]) .skip))) (
 .region [3, 4, 5] [] [
 ⟨some 22, none, .mv false (.s 5)⟩,
 ⟨some 23, none, .bin .sub (.s 22) (.c (i64 1))⟩,
 ⟨some 5, none, .mv false (.s 23)⟩])))))) (
 .seq (
 .region [3, 4, 5, 6] [] [
 ⟨some 24, none, .mv false (.s 5)⟩,
 ⟨some 25, none, .bin .add (.c (i64 128)) (.s 24)⟩,
 ⟨some 26, none, .toInt .u8 (.s 25)⟩,
 ⟨some 27, none, .mv false (.s 4)⟩,
 ⟨some 28, none, .bin .xor (.s 26) (.s 27)⟩,
 ⟨some 29, none, .buildSl 1 1 [u8 0] [(0, 1, (.s 28))]⟩,
 ⟨some 6, none, .mv true (.s 29)⟩]) (
 .seq (
 .seq (
 .region [3, 4, 6, 7] [] [
 ⟨some 30, none, .mv false (.s 5)⟩,
 ⟨some 31, none, .bin .sub (.s 30) (.c (i64 1))⟩,
 ⟨some 7, none, .mv false (.s 31)⟩]) (
 .block 2 (
 .loop (
 .seq (
 .seq (
 .region [3, 4, 6, 7, 33] [] [
 ⟨some 32, none, .mv false (.s 7)⟩,
 ⟨some 33, none, .bin .geq (.s 32) (.c (i64 0))⟩]) (
 .cond (.s 33) (
 .ghost (.keep [3, 4, 6, 7]) .skip) (
 .ghost (.keep [6]) (.exit 2)))) (
 .seq (
 .block 3 (
 .region [3, 4, 6, 7] [] [
 ⟨some 36, none, .mv true (.s 6)⟩,
 ⟨some 37, none, .mv false (.s 3)⟩,
 ⟨some 38, none, .mv false (.s 7)⟩,
 ⟨some 39, none, .bin .mul (.c (i64 8)) (.s 38)⟩,
 ⟨some 40, none, .bin .shr (.s 37) (.s 39)⟩,
 ⟨some 41, none, .toInt .u8 (.s 40)⟩,
 ⟨some 42, none, .mv false (.s 4)⟩,
 ⟨some 43, none, .bin .xor (.s 41) (.s 42)⟩,
 ⟨some 44, none, .buildSl 1 1 [u8 0] [(0, 1, (.s 43))]⟩,
 ⟨some 45, none, .append 1 1 false (some false) none 36 (.s 44)⟩,
 ⟨some 6, none, .mv true (.s 45)⟩])) (
 .region [3, 4, 6, 7] [] [
 ⟨some 34, none, .mv false (.s 7)⟩,
 ⟨some 35, none, .bin .sub (.s 34) (.c (i64 1))⟩,
 ⟨some 7, none, .mv false (.s 35)⟩])))))) (
 .seq (
 .region [2] [] [
 ⟨some 46, none, .mv true (.s 6)⟩,
 ⟨some 2, none, .mv true (.s 46)⟩]) (
 .ret)))))))))) }

def f_bits_RotateLeft32 : AFun :=
 { n := 2, wr := [], res := [.t 4], body :=
 .seq (
 .region [] [] [
 ⟨some 4, none, .mv false (.c (u32 0))⟩]) (
 .seq (
 .region [5] [] [
 ⟨some 6, none, .mv false (.s 1)⟩,
 ⟨some 7, none, .toInt .u64 (.s 6)⟩,
 ⟨some 8, none, .bin .and (.s 7) (.c (u64 31))⟩,
 ⟨some 5, none, .mv false (.s 8)⟩]) (
 .seq (
 .region [4] [] [
 ⟨some 9, none, .mv false (.s 0)⟩,
 ⟨some 10, none, .mv false (.s 5)⟩,
 ⟨some 11, none, .bin .shl (.s 9) (.s 10)⟩,
 ⟨some 12, none, .mv false (.s 0)⟩,
 ⟨some 13, none, .mv false (.s 5)⟩,
 ⟨some 14, none, .bin .sub (.c (u64 32)) (.s 13)⟩,
 ⟨some 15, none, .bin .shr (.s 12) (.s 14)⟩,
 ⟨some 16, none, .bin .or (.s 11) (.s 15)⟩,
 ⟨some 4, none, .mv false (.s 16)⟩]) (
 .ret))) }

end Go.Abs
end

section
namespace Go.Abs
def isI64 (n : Int) : Prop := -9223372036854775808 ≤ n ∧ n ≤ 9223372036854775807
def intC : Contract := ⟨fun ds => ∃ n, isI64 n ∧ ds = [i64 n], fun ds => .sl (.own 1) (some false) (encI (asI (nth ds 0))).length (bys (encI (asI (nth ds 0))))⟩
set_option maxRecDepth 100000 in
theorem xor_255 (c : UInt8) : c ^^^ 255 = 255 - c := by
  have h : ∀ k : Fin 256, UInt8.ofNat k.val ^^^ 255 = 255 - UInt8.ofNat k.val := by decide +kernel
  have := h ⟨c.toNat, c.toNat_lt⟩
  simpa using this
theorem int_ok (E : Env) : ∀ ds, intC.pre ds → ds.length = f_wire_Int.n ∧ awp E f_wire_Int.body (retQ f_wire_Int.res (intC.post ds)) (initSt f_wire_Int.wr ds) := by
  rintro _ ⟨n, ⟨hn0, hn1⟩, rfl⟩
  simp (disch := first | omega | (simp; omega)) [f_wire_Int, intC]
  refine awp_name fun Q0 hQ0 => ?_
  have key : ∀ (x : UInt64) (f : UInt8), x.toNat = mag n → (∀ c, c ^^^ f = flp n c) → Q0 .normal ⟨[(0, i64 n)], [(3, u64 x), (4, u8 f)], []⟩ := by
    intro x f hx hf
    simp (disch := first | omega | (simp; omega)) [hQ0]
    refine awp_name fun Q1 hQ1 => ?_
    have key2 : ∀ k : Nat, k ≤ 8 → (digs (mag n)).length = k → Q1 (.exit 0) ⟨[(0, i64 n)], [(3, u64 x), (4, u8 f), (5, i64 k)], []⟩ := by
      intro k hk8 hk
      simp (disch := first | omega | (simp; omega)) [hQ1, W_id]
      refine awp_name fun Q2 hQ2 => ?_
      have ehd : (UInt8.ofInt 128 + UInt8.ofInt (k : Int)) ^^^ f = flp n (UInt8.ofNat (128 + k)) := by
        rw [← hf]
        congr 1
        apply UInt8.toNat_inj.1
        simp [ofInt8]
        omega
      rw [ehd]
      refine awp_for (fun j : Nat => ⟨[(0, i64 n)], [(3, u64 x), (4, u8 f), (6, .sl (.own 1) (some false) (1 + j) (bys (flp n (UInt8.ofNat (128 + k)) :: ((digs (mag n)).reverse.take j).map (flp n)))), (7, i64 ((k : Int) - 1 - j))], []⟩)
        (fun j => k - j) (· ≤ k) 0 (by simp; rfl) (by simp) fun j hj => ?_
      refine awp_name fun Q3 hQ3 => ?_
      simp (disch := first | omega | (simp; omega)) [W_id]
      rw [awp_cond]
      refine ⟨by simp, fun h => ?_, fun h => ?_⟩ <;> simp at h
      · simp (disch := first | omega | (simp; omega)) [W_id]
        refine ⟨by omega, by omega, ?_⟩
        have hjk : j < k := by omega
        have e8 : (8 * ((k : Int) - 1 - (j : Int))).toNat = 8 * (k - 1 - j) := by omega
        have hel : (shr64 x (8 * (k - 1 - j))).toUInt8 ^^^ f = flp n ((digs (mag n))[k - 1 - j]'(by omega)) := by
          rw [hf, digs_getElem, shr64_byte hx, pow_256]
        have htk : ((digs (mag n)).map (flp n)).reverse.take (j + 1) = ((digs (mag n)).map (flp n)).reverse.take j ++ [flp n ((digs (mag n))[k - 1 - j]'(by omega))] := by
          rw [List.take_succ_eq_append_getElem (by simp; omega)]
          simp [hk]
        rw [hQ3, e8, hel]
        simp
        refine ⟨j + 1, by omega, by omega, ⟨by omega, ?_⟩, by omega⟩
        rw [htk]
        simp [bys]
      · have e : j = k := by omega
        subst e
        simp [hQ3, hQ2, encI, hk, List.take_of_length_le]
        omega
    refine awp_for (fun k : Nat => ⟨[(0, i64 n)], [(3, u64 x), (4, u8 f), (5, i64 k)], []⟩) (fun k => k) (fun k => k ≤ 8 ∧ (digs (mag n)).length ≤ k) 8 rfl ?_ fun k hk => ?_
    · refine ⟨by decide, (digs_len 8 _).2 ?_⟩
      rw [← hx]
      exact x.toNat_lt
    · obtain ⟨hk8, hkl⟩ := hk
      refine awp_name fun Q2 hQ2 => ?_
      simp (disch := first | omega | (simp; omega)) [W_id]
      rw [awp_cond]
      refine ⟨by simp, fun h => ?_, fun h => ?_⟩ <;> simp at h
      · obtain ⟨j, rfl⟩ : ∃ j, k = j + 1 := ⟨k - 1, by omega⟩
        have e1 : ((8 : Int) * (((j + 1 : Nat) : Int) - 1)).toNat = 8 * j := by omega
        simp (disch := first | omega | (simp; omega)) [W_id]
        refine ⟨by omega, ?_⟩
        rw [awp_cond]
        refine ⟨by simp, fun h2 => ?_, fun h2 => ?_⟩ <;> simp at h2
        · simp [hQ2]
          refine key2 (j + 1) hk8 ?_
          have h3 : ¬ (digs (mag n)).length ≤ j := by
            rw [digs_len, ← pow_256, Nat.not_lt, ← shr64_pos hx, ← e1]
            simpa using h2
          omega
        · simp (disch := first | omega | (simp; omega)) [hQ2, W_id]
          have h3 : ¬ 0 < shr64 x (8 * j) := by rw [← e1]; simpa using h2
          have h4 : (digs (mag n)).length ≤ j := by rw [digs_len, ← pow_256, ← Nat.not_le, ← shr64_pos hx]; exact h3
          exact ⟨j, by omega, ⟨by omega, h4⟩, by omega⟩
      · simp [hQ2]
        subst h
        exact key2 0 (by decide) (by omega)
  rw [awp_cond]
  have hge : ∀ m : Int, 0 ≤ m → m < 18446744073709551616 → (UInt64.ofInt m).toNat = m.toNat := fun m h0 h1 => by rw [ofInt64, Int.emod_eq_of_lt h0 h1]
  refine ⟨by simp, fun h => ?_, fun h => ?_⟩ <;> simp at h
  · simp
    refine key _ 255 ?_ ?_
    · rw [mag, if_pos h, UInt64.toNat_not, ofInt64]
      have : UInt64.size = 18446744073709551616 := rfl
      omega
    · intro c
      rw [flp, if_pos h]
      exact xor_255 c
  · simp
    refine key _ 0 ?_ ?_
    · rw [hge n h (by omega), mag, if_neg (by omega)]
    · intro c
      rw [flp, if_neg (by omega)]
      simp
end Go.Abs
end

section
namespace Go.Abs
def encS (s : List UInt8) : List UInt8 := encI s.length ++ s
def bytesC : Contract := ⟨fun ds => ∃ s : List UInt8, s.length ≤ 1099511000000 ∧ ds = [st s], fun ds => .sl (.own 1) (some false) (encS (gS (nth ds 0))).length (bys (encS (gS (nth ds 0))))⟩
theorem digs_len8 {n : Int} (h : isI64 n) : (digs (mag n)).length ≤ 8 := by
  rw [digs_len, mag]
  obtain ⟨h1, h2⟩ := h
  split <;> omega
theorem encI_len {n : Int} (h : isI64 n) : (encI n).length ≤ 9 := by
  have := digs_len8 h
  simp [encI]; omega
theorem bytes_ok (E : Env) (h12 : E.G 12 = intC) : ∀ ds, bytesC.pre ds → ds.length = f_wire_Bytes.n ∧ awp E f_wire_Bytes.body (retQ f_wire_Bytes.res (bytesC.post ds)) (initSt f_wire_Bytes.wr ds) := by
  rintro _ ⟨s, hs, rfl⟩
  have hi : isI64 (s.length : Int) := ⟨by omega, by omega⟩
  have hl := encI_len hi
  simp (disch := first | omega | (simp; omega)) [f_wire_Bytes, bytesC, h12, intC, encS, hi, bys_append]
  omega
end Go.Abs
end

section
namespace Go.Abs
def padK (k : List UInt8) (w : UInt8) : List UInt8 := (k.take 64 ++ zeros (64 - k.length)).map (· ^^^ w)
theorem padK_len (k : List UInt8) (w : UInt8) : (padK k w).length = 64 := by simp [padK]; omega
def keyOf (key : List UInt8) : List UInt8 := if 64 < key.length then sha key else key
def mac (key text : List UInt8) : List UInt8 := sha (padK (keyOf key) 92 ++ sha (padK (keyOf key) 54 ++ text))
def mac1C : Contract := ⟨fun ds => ∃ (w : UInt8) (key : List UInt8), ds = [u8 w, .ep [st key]], fun ds => st (padK (gS (nth (gCs (nth ds 1)) 0)) (gU8 (nth ds 0)))⟩
def macC : Contract := ⟨fun ds => ∃ key text : List UInt8, key.length < 1099511627776 ∧ text.length < 1099511000000 ∧ ds = [st key, st text], fun ds => st (mac (gS (nth ds 0)) (gS (nth ds 1)))⟩
def sts (l : List (List UInt8)) : List AVal := l.map st
@[simp] theorem sts_length (l : List (List UInt8)) : (sts l).length = l.length := by simp [sts]
@[simp] theorem sts_nil : sts [] = [] := rfl
theorem sts_cons (x : List UInt8) (l : List (List UInt8)) : sts (x :: l) = st x :: sts l := rfl
@[simp] theorem sts_take (l : List (List UInt8)) (n : Nat) : (sts l).take n = sts (l.take n) := by simp [sts]
@[simp] theorem sts_drop (l : List (List UInt8)) (n : Nat) : (sts l).drop n = sts (l.drop n) := by simp [sts]
def atS (l : List (List UInt8)) (i : Nat) : List UInt8 := l.getD i []
theorem hd_sts {l : List (List UInt8)} {n : Nat} (h : n < l.length) : hdA (sts (l.drop n)) = st (atS l n) := by
  rw [List.drop_eq_getElem_cons h, sts_cons]
  simp [atS, List.getD, List.getElem?_eq_getElem h]
def gSs (l : List AVal) : List (List UInt8) := l.map gS
@[simp] theorem gSs_sts (l : List (List UInt8)) : gSs (sts l) = l := by simp [gSs, sts, Function.comp_def]
@[simp] theorem gSs_nil : gSs [] = [] := rfl
theorem sts_mem {P : AVal → Prop} {l : List (List UInt8)} (h : ∀ x, P (st x)) : ∀ c ∈ sts l, P c := fun c hc => by
  simp only [sts, List.mem_map] at hc
  obtain ⟨x, _, rfl⟩ := hc
  exact h x
@[simp] theorem sts_pure (l : List (List UInt8)) : (∀ c ∈ sts l, pureB c = true) ↔ True := iff_true_intro (sts_mem (by simp))
@[simp] theorem pureL_sts (l : List (List UInt8)) : pureL (sts l) = true := pureL_mem (sts_mem (by simp))
@[simp] theorem sts_cell (l : List (List UInt8)) : (∀ c ∈ sts l, isCell c) ↔ True := iff_true_intro (sts_mem (by simp))
@[simp] theorem sts_own (l : List (List UInt8)) : (∀ c ∈ sts l, ownTop c = false) ↔ True := iff_true_intro (sts_mem (by simp))
@[simp] theorem sts_pure_cell (l : List (List UInt8)) : (∀ c ∈ sts l, pureB c = true ∧ isCell c) ↔ True := iff_true_intro (sts_mem (by simp))
@[simp] theorem refsL_sts (l : List (List UInt8)) : refsL (sts l) = [] := by induction l <;> simp_all [sts]
def inpOf (tag : Int) (parts : List (List UInt8)) : List UInt8 := UInt8.ofInt tag :: parts.flatMap encS
def digOf (tag : Int) (parts : List (List UInt8)) : List UInt8 := (sha (inpOf tag parts)).take 16
def totS (parts : List (List UInt8)) : Nat := (parts.map fun p => p.length + 9).sum
theorem encS_len {s : List UInt8} (h : s.length < 1099511627776) : (encS s).length ≤ s.length + 9 := by
  have := encI_len (n := s.length) ⟨by omega, by omega⟩
  simp [encS]; omega
def ofC : Contract := ⟨fun ds => ∃ (tag : Int) (nl : Option Bool) (parts : List (List UInt8)), totS parts < 1099511000000 ∧ ds = [i64 tag, .sl .plain nl parts.length (sts parts)], fun ds => .agg (bys (digOf (asI (nth ds 0)) (gSs (gCs (nth ds 1)))))⟩
theorem digOf_len (tag : Int) (parts : List (List UInt8)) : (digOf tag parts).length = 16 := by simp [digOf, sha_len]

def svc (l : List UInt8) : List AVal := scs (Strm.init.add l)
theorem svc_b (l : List UInt8) : (Strm.init.add l).b.length = 64 := by rw [add_len, init_len]
@[simp] theorem svc_len (l : List UInt8) : (svc l).length = 73 := scs_len (svc_b l)
@[simp] theorem svc_cell (l : List UInt8) : (∀ c ∈ svc l, isCell c) ↔ True := scs_cell _
@[simp] theorem svc_own (l : List UInt8) : (∀ c ∈ svc l, ownTop c = false) ↔ True := scs_own _
@[simp] theorem svc_pureL (l : List UInt8) : pureL (svc l) = true := scs_pureL _
@[simp] theorem svc_pure (l : List UInt8) : (∀ c ∈ svc l, pureB c = true) ↔ True := scs_pure _
@[simp] theorem svc_mem (l : List UInt8) : memFreeL (svc l) = true := scs_mem _
@[simp] theorem svc_refs (l : List UInt8) : refsL (svc l) = [] := scs_refs _
@[simp] theorem svc_take (l : List UInt8) : (svc l).take 73 = svc l := List.take_of_length_le (by rw [svc_len]; decide)
@[simp] theorem svc_splice {zs : List AVal} (l : List UInt8) (h : zs.length = 73) : splice zs 0 (svc l) = svc l := splice_full (by rw [svc_len, h])
@[simp] theorem zero73_len : (w32s (zeros32 8) ++ (bys (zeros 64) ++ [u64 0])).length = 73 := zero_len
@[simp] theorem begin_pre : beginC.pre [] = True := by simp [beginC]
@[simp] theorem begin_post : beginC.post [] = .agg (svc []) := rfl
@[simp] theorem add_pre (l m : List UInt8) : addC.pre [.agg (svc l), st m] = True := eq_true ⟨_, m, svc_b l, rfl⟩
@[simp] theorem add_post (l m : List UInt8) : addC.post [.agg (svc l), st m] = .agg (svc (l ++ m)) := by
  simp [addC, svc, Strm.v, Strm.of_scs _ (svc_b l), add_append]
theorem hsum_pre {l : List UInt8} {nl : Option Bool} {n : Nat} (hn : n = l.length) (h : l.length < 1099511627776) : hsumC.pre [.sl .plain nl n (bys l)] = True := eq_true ⟨nl, l, h, by rw [hn]⟩
@[simp] theorem hsum_post (l : List UInt8) (nl : Option Bool) (n : Nat) : hsumC.post [.sl .plain nl n (bys l)] = .agg (bys (sha l)) := by simp [hsumC]
theorem sum_pre {l : List UInt8} (h : l.length < 1099511627776) : sumC.pre [.agg (svc l)] = True :=
  eq_true ⟨_, svc_b l, by rw [add_n_nat _ _ (by show 0 + l.length < _; omega)]; show 0 + l.length < _; omega, rfl⟩
@[simp] theorem sum_post (l : List UInt8) : sumC.post [.agg (svc l)] = .agg (bys (sha l)) := by simp [sumC, svc, Strm.of_scs _ (svc_b l), sha]
@[simp] theorem mac1_pre (w : UInt8) (k : List UInt8) : mac1C.pre [u8 w, .ep [st k]] = True := eq_true ⟨w, k, rfl⟩
@[simp] theorem mac1_post (w : UInt8) (k : List UInt8) : mac1C.post [u8 w, .ep [st k]] = st (padK k w) := by simp [mac1C]
theorem mac_pre {k m : List UInt8} (hk : k.length < 1099511627776) (hm : m.length < 1099511000000) : macC.pre [st k, st m] = True := eq_true ⟨k, m, hk, hm, rfl⟩
@[simp] theorem mac_post (k m : List UInt8) : macC.post [st k, st m] = st (mac k m) := by simp [macC]
theorem bytes_pre {s : List UInt8} (h : s.length ≤ 1099511000000) : bytesC.pre [st s] = True := eq_true ⟨s, h, rfl⟩
@[simp] theorem bytes_post (s : List UInt8) : bytesC.post [st s] = .sl (.own 1) (some false) (encS s).length (bys (encS s)) := by simp [bytesC]
@[simp] theorem of_post (tag : Int) (nl : Option Bool) (n : Nat) (l : List (List UInt8)) : ofC.post [i64 tag, .sl .plain nl n (sts l)] = .agg (bys (digOf tag l)) := by simp [ofC]
attribute [simp] padK_len sha_len digOf_len
theorem splice_bys0 {zs : List AVal} {l : List UInt8} (h : l.length = zs.length) : splice zs 0 (bys l) = bys l := splice_full (by simpa using h)
theorem len_flatMap_encS : ∀ {l : List (List UInt8)}, totS l < 1099511000000 → (l.flatMap encS).length ≤ totS l
  | [], _ => by simp
  | x :: l, h => by
    simp only [totS, List.map_cons, List.sum_cons] at h
    have h1 := encS_len (s := x) (by omega)
    have h2 := len_flatMap_encS (l := l) (by simp only [totS]; omega)
    simp only [totS] at h2
    simp only [List.flatMap_cons, List.length_append, totS, List.map_cons, List.sum_cons]
    omega
theorem atS_mem_tot {l : List (List UInt8)} {i : Nat} (hi : i < l.length) : (atS l i).length + 9 ≤ totS l := by
  induction l generalizing i with
  | nil => simp at hi
  | cons x l ih =>
    simp only [totS, List.map_cons, List.sum_cons]
    cases i with
    | zero => simp [atS]
    | succ i =>
      have := ih (i := i) (by simpa using hi)
      simp only [totS] at this
      simp only [atS, List.getD_cons_succ] at this ⊢
      omega
theorem flatMap_take_succ {α β : Type} (l : List α) (f : α → List β) (d : α) {i : Nat} (hi : i < l.length) : (l.take (i + 1)).flatMap f = (l.take i).flatMap f ++ f (l.getD i d) := by
  rw [List.take_succ_eq_append_getElem hi, List.getD, List.getElem?_eq_getElem hi]
  simp only [List.flatMap_append, List.flatMap_cons, List.flatMap_nil, List.append_nil, Option.getD_some]
theorem take8 {l : List UInt8} {i : Nat} (h : i < l.length) : l.take (i + 1) = l.take i ++ [at8 l i] := by
  rw [List.take_succ_eq_append_getElem h, at8, List.getD, List.getElem?_eq_getElem h]; rfl
theorem zeros_drop (n k : Nat) : (zeros n).drop k = zeros (n - k) := by simp only [zeros, List.drop_replicate]
theorem len_le_totS : ∀ l : List (List UInt8), l.length ≤ totS l
  | [] => by simp
  | x :: l => by
    have := len_le_totS l
    simp only [totS, List.map_cons, List.sum_cons, List.length_cons] at this ⊢
    omega
end Go.Abs
end

section
namespace Go.Abs
theorem has_i64 {cs : List AVal} (h : (GT.int .i64).has cs) : ∃ x : Int, -9223372036854775808 ≤ x ∧ x ≤ 9223372036854775807 ∧ cs = [i64 x] := by
  simp only [GT.has] at h
  obtain ⟨n, rfl, h0, h1⟩ := h
  exact ⟨n, h0, h1, rfl⟩
theorem has_bool {cs : List AVal} (h : GT.bool.has cs) : ∃ x : Bool, cs = [bo x] := by
  simp only [GT.has] at h
  exact h
@[simp] theorem top_one (g : GT) (c : AVal) (h : g.row = false) : g.top [c] = c := by simp [GT.top, h]

theorem tab_prep {K : Cx} {W : World} {name : String} {k : IntKind} {zs : List Int} {g : Nat} {cs : List AVal} (h : Lib.TabIs K.P W name k zs) (hg : K.P.globalNamed name = some g) (hc : cs = zs.map fun z => .lit (.int k z)) :
    PRepC K.toCon (allS W) W cs g 0 := by
  subst hc
  refine PRepC.mk fun i d hd => ?_
  rw [List.getElem?_map, Option.map_eq_some_iff] at hd
  obtain ⟨z, hz, rfl⟩ := hd
  have := World.var?_cell hg h i
  rw [Nat.zero_add]
  have hcell : W.cell? ⟨g, i, none⟩ = some (.int k z) := by rw [this]; simp [hz]
  exact ⟨allS_lt hcell, _, hcell, by simp [PRep]⟩
def sizeD {H : Type} : DataW H → Nat
  | .lit (.string l) => l.length + 1
  | .lit _ => 1
  | .nil => 1
  | .ptr d => sizeD d + 1
  | .slice es _ => (es.attach.map fun ⟨d, _⟩ => sizeD d).sum + 1
  | .agg ps => (ps.attach.map fun ⟨d, _⟩ => sizeD d).sum + 1
  | _ => 1
theorem bulk_sizeD {H : Type} : Bulk (sizeD (H := H)) := by
  refine ⟨fun l => ?_, fun l => ?_, ?_, fun es sp => ?_, fun ps => ?_⟩
  · cases l <;> simp [sizeD]
  · simp [sizeD]
  · simp [sizeD]
  · rw [sizeD]
    have : (es.attach.map fun x : { x // x ∈ es } => sizeD x.1).sum = (es.map sizeD).sum := by rw [List.attach_map_val (l := es) (f := sizeD)]
    exact Nat.le_of_eq (by rw [← this])
  · rw [sizeD]
    have : (ps.attach.map fun x : { x // x ∈ ps } => sizeD x.1).sum = (ps.map sizeD).sum := by rw [List.attach_map_val (l := ps) (f := sizeD)]
    exact Nat.le_trans (Nat.le_of_eq this.symm) (Nat.le_succ _)
end Go.Abs
end

section
namespace Go.Abs
section
variable {H : Type} {enc : TypeId × Value → H} {P : Program} {W W' : World}
theorem mapM_fst {α β γ : Type} {f g : α → Option (β × γ)} : ∀ {l : List α} {xs ys : List (β × γ)}, l.mapM f = some xs → l.mapM g = some ys → xs.map (·.1) = ys.map (·.1) →
    ∀ a ∈ l, ∃ b p q, f a = some (b, p) ∧ g a = some (b, q)
  | [], xs, ys, _, _, _, a, ha => by cases ha
  | x :: l, xs, ys, hx, hy, he, a, ha => by
    simp only [List.mapM_cons, Option.bind_eq_bind, Option.bind_eq_some_iff, Option.pure_def, Option.some.injEq] at hx hy
    obtain ⟨u, hu, us, hus, rfl⟩ := hx
    obtain ⟨v, hv, vs, hvs, rfl⟩ := hy
    simp only [List.map_cons, List.cons.injEq] at he
    rcases List.mem_cons.1 ha with rfl | ha
    · obtain ⟨b, p⟩ := u
      obtain ⟨b', q⟩ := v
      simp only at he
      exact ⟨b, p, q, hu, by rw [hv, he.1]⟩
    · exact mapM_fst hus hvs he.2 a ha
theorem chunks {α : Type} {cs cs' : List α} {n c : Nat} (h : cs.length = n * c) (h' : cs'.length = n * c) (he : ∀ i, i < n → (cs.drop (i * c)).take c = (cs'.drop (i * c)).take c) : cs = cs' := by
  induction n generalizing cs cs' with
  | zero =>
    rw [Nat.zero_mul] at h h'
    rw [List.length_eq_zero_iff.1 h, List.length_eq_zero_iff.1 h']
  | succ n ih =>
    rw [Nat.add_mul, Nat.one_mul] at h h'
    have e0 := he 0 (by omega)
    rw [Nat.zero_mul, List.drop_zero, List.drop_zero] at e0
    have e1 := ih (cs := cs.drop c) (cs' := cs'.drop c) (by rw [List.length_drop]; omega) (by rw [List.length_drop]; omega) fun i hi => by
      have := he (i + 1) (by omega)
      rw [List.drop_drop, List.drop_drop, show c + i * c = (i + 1) * c by rw [Nat.add_mul, Nat.one_mul]; omega]
      exact this
    rw [← List.take_append_drop c cs, ← List.take_append_drop c cs', e0, e1]
mutual
theorem trod_inj (hl : laidOutB P = true) {sp sp' : Nat → Bool} {base base' : Nat} {hd hd' : Bool} : ∀ (gt : GT) (fuel fuel' : Nat) (t : TypeId) (cs cs' : List Value) (d : DataW H) (p p' : List MemPlace),
    DataW.trod enc P W base sp hd fuel t cs = some (d, p) → DataW.trod enc P W' base' sp' hd' fuel' t cs' = some (d, p') → gt.fits P t = true → t < P.types.size → gt.flat = true → cs = cs'
  | gt, 0, _, t, cs, cs', d, p, p', h, h', _, _, _ => by simp [DataW.trod] at h
  | gt, _ + 1, 0, t, cs, cs', d, p, p', h, h', _, _, _ => by simp [DataW.trod] at h'
  | .bool, fuel + 1, fuel' + 1, t, cs, cs', d, p, p', h, h', hf, ht, hs => by
    simp only [GT.fits] at hf
    split at hf
    · rename_i hu
      simp only [DataW.trod, hu] at h h'
      split at h <;> simp_all
      split at h' <;> simp_all
      obtain ⟨rfl, _⟩ := h
      obtain ⟨h', _⟩ := h'
      cases h'
      rfl
    · cases hf
  | .int k, fuel + 1, fuel' + 1, t, cs, cs', d, p, p', h, h', hf, ht, hs => by
    simp only [GT.fits] at hf
    split at hf
    · rename_i k' hu
      obtain ⟨n, rfl, hx, _⟩ := DataW.trod_int hu h
      obtain ⟨n', rfl, hx', _⟩ := DataW.trod_int hu h'
      cases hx
      cases hx'
      rfl
    · cases hf
  | .str, fuel + 1, fuel' + 1, t, cs, cs', d, p, p', h, h', hf, ht, hs => by
    simp only [GT.fits] at hf
    split at hf
    · rename_i hu
      obtain ⟨s, rfl, hx, _⟩ := DataW.trod_string hu h
      obtain ⟨s', rfl, hx', _⟩ := DataW.trod_string hu h'
      cases hx
      simp only [Prod.mk.injEq, DataW.lit.injEq, Lit.string.injEq] at hx'
      obtain ⟨e, _⟩ := hx'
      have : s = s' := by
        obtain ⟨a⟩ := s
        obtain ⟨b⟩ := s'
        simp only at e
        rw [show a = b from Array.toList_inj.1 e]
      rw [this]
    · cases hf
  | .sl e, fuel + 1, fuel' + 1, t, cs, cs', d, p, p', h, h', hf, ht, hs => by simp [GT.flat] at hs
  | .arr n e, fuel + 1, fuel' + 1, t, cs, cs', d, p, p', h, h', hf, ht, hs => by
    simp only [GT.fits] at hf
    split at hf
    · rename_i n' t' hu
      simp only [Bool.and_eq_true, beq_iff_eq] at hf
      obtain ⟨rfl, hf⟩ := hf
      obtain ⟨ht', hct⟩ := kid_array hl ht hu
      simp only [DataW.trod, hu] at h h'
      split at h
      · rename_i hlen
        split at h'
        · rename_i hlen'
          simp only [Option.map_eq_some_iff] at h h'
          obtain ⟨xs, hm, hd⟩ := h
          obtain ⟨ys, hm', hd'⟩ := h'
          simp only [Prod.mk.injEq] at hd hd'
          obtain ⟨rfl, _⟩ := hd
          obtain ⟨he, _⟩ := hd'
          simp only [DataW.agg.injEq] at he
          have hh := mapM_fst hm hm' he.symm
          refine chunks (n := n) (c := P.cellsOf t') (by omega) (by omega) fun i hi => ?_
          obtain ⟨b, q, q', g1, g2⟩ := hh i (by simpa using hi)
          exact trod_inj hl e fuel fuel' t' _ _ b q q' g1 g2 hf ht' (by simpa [GT.flat] using hs)
        · cases h'
      · cases h
    · cases hf
  | .st fs, fuel + 1, fuel' + 1, t, cs, cs', d, p, p', h, h', hf, ht, hs => by
    simp only [GT.fits] at hf
    split at hf
    · rename_i F hu
      obtain ⟨h1, h2, h3⟩ := kid_struct hl ht hu
      simp only [DataW.trod, hu] at h h'
      split at h
      · rename_i hlen
        split at h'
        · rename_i hlen'
          simp only [Option.map_eq_some_iff] at h h'
          obtain ⟨xs, hm, hd⟩ := h
          obtain ⟨ys, hm', hd'⟩ := h'
          simp only [Prod.mk.injEq] at hd hd'
          obtain ⟨rfl, _⟩ := hd
          obtain ⟨he, _⟩ := hd'
          simp only [DataW.agg.injEq] at he
          have := trod_injL hl fs F.toList 0 fuel fuel' cs cs' (mapM_fst hm hm' he.symm) hf h1 (fun j f hj => by rw [h3 j f hj, Nat.zero_add]) (by simpa [GT.flat] using hs)
          rw [List.drop_zero, List.drop_zero, ← h2, List.take_of_length_le (by omega), List.take_of_length_le (by omega)] at this
          exact this
        · cases h'
      · cases h
    · cases hf
theorem trod_injL (hl : laidOutB P = true) {sp sp' : Nat → Bool} {base base' : Nat} {hd hd' : Bool} : ∀ (gs : List GT) (F : List Field) (off fuel fuel' : Nat) (cs cs' : List Value),
    (∀ f ∈ F, ∃ b p q, DataW.trod enc P W base sp hd fuel f.type ((cs.drop f.offset).take (P.cellsOf f.type)) = some (b, p) ∧ DataW.trod enc P W' base' sp' hd' fuel' f.type ((cs'.drop f.offset).take (P.cellsOf f.type)) = some (b, q)) →
    GT.fitsL P gs (F.map (·.type)) = true → (∀ f ∈ F, f.type < P.types.size) → (∀ (j : Nat) f, F[j]? = some f → f.offset = off + ((F.take j).map fun f => P.cellsOf f.type).sum) → GT.flatL gs = true →
    (cs.drop off).take (F.map fun f => P.cellsOf f.type).sum = (cs'.drop off).take (F.map fun f => P.cellsOf f.type).sum
  | [], [], off, fuel, fuel', cs, cs', _, _, _, _, _ => by simp
  | [], _ :: _, off, fuel, fuel', cs, cs', _, hf, _, _, _ => by simp [GT.fitsL] at hf
  | _ :: _, [], off, fuel, fuel', cs, cs', _, hf, _, _, _ => by simp [GT.fitsL] at hf
  | g :: gs, f :: F, off, fuel, fuel', cs, cs', hm, hf, ht, ho, hs => by
    simp only [List.map_cons, GT.fitsL, Bool.and_eq_true] at hf
    have h0 := ho 0 f rfl
    simp only [List.take_zero, List.map_nil, List.sum_nil, Nat.add_zero] at h0
    simp only [GT.flatL, Bool.and_eq_true] at hs
    obtain ⟨b, p, q, g1, g2⟩ := hm f (by simp)
    have e1 := trod_inj hl g fuel fuel' f.type _ _ b p q g1 g2 hf.1 (ht f (by simp)) hs.1
    have e2 := trod_injL hl gs F (off + P.cellsOf f.type) fuel fuel' cs cs' (fun f' h' => hm f' (by simp [h'])) hf.2 (fun f' hf' => ht f' (by simp [hf'])) (fun j f' hj => by
      have := ho (j + 1) f' (by simpa using hj)
      simp only [List.take_succ_cons, List.map_cons, List.sum_cons] at this
      omega) hs.2
    rw [h0] at e1
    rw [List.map_cons, List.sum_cons, List.take_add, List.take_add, List.drop_drop, List.drop_drop, e1, e2]
end
end
theorem tab_prep2 {K : Cx} {W W' : World} {name : String} {d : DataW Unit} {rest : List (String × DataW Unit)} {g : Nat} {t : TypeId} {vs : List Value} {cs : List AVal} {p : List MemPlace} {fuel : Nat} (gt : GT) (h : laidMet K.P ((name, d) :: rest) W)
    (hg : K.P.globalNamed name = some g) (hty : (K.P.globals[g]?).map (·.type) = some t) (hl : laidOutB K.P = true) (hf : gt.fits K.P t = true) (ht : t < K.P.types.size) (hs : gt.flat = true)
    (hv : DataW.trod (fun _ => ()) K.P W' 0 (fun _ => true) false fuel t vs = some (d, p)) (hc : cs = vs.map AVal.lit) : PRepC K.toCon (allS W) W cs g 0 := by
  subst hc
  obtain ⟨ps, ⟨g', t', cs', fuel', p', q, hg', ht', hvar, hd, _, _⟩, _⟩ := h
  obtain rfl := Option.some.inj (hg.symm.trans hg')
  obtain rfl := Option.some.inj (hty.symm.trans ht')
  have e := trod_inj hl gt fuel' fuel t _ _ d p' p hd hv hf ht hs
  refine PRepC.mk fun i d hd => ?_
  rw [List.getElem?_map, Option.map_eq_some_iff] at hd
  obtain ⟨v, hz, rfl⟩ := hd
  have := World.var?_cell hg hvar i
  rw [Nat.zero_add]
  have hcell : W.cell? ⟨g, i, none⟩ = some v := by
    rw [this, ← hz, ← e]; simp
  exact ⟨allS_lt hcell, _, hcell, by simp [PRep]⟩
end Go.Abs
end

section
namespace Go.Abs
def padded (b : List UInt8) : List UInt8 := b ++ padOf (UInt64.ofNat b.length)
theorem padOf_len (n : UInt64) : (padOf n).length = padZ n.toNat + 9 := by simp [padOf, be8_len]
theorem padded_len {b : List UInt8} (h : b.length < 1099511627776) : (padded b).length % 64 = 0 ∧ b.length < (padded b).length ∧ (padded b).length ≤ b.length + 128 := by
  have hn : (UInt64.ofNat b.length).toNat = b.length := by rw [UInt64.toNat_ofNat']; omega
  have h1 := padZ_ok b.length
  have h2 := padZ_lt b.length
  simp only [padded, List.length_append, padOf_len, hn]
  omega
def blk (m : List UInt8) (s : H8) : Nat → H8
  | 0 => s
  | k + 1 => compr (blk m s k) ((m.drop (64 * k)).take 64)
theorem add_blocks (m : List UInt8) : ∀ k, 64 * k ≤ m.length → 64 * k < 1099511627776 → (Strm.init.add (m.take (64 * k))).h = blk m iv k
  | 0, _, _ => by simp [Strm.add, blk, Strm.init]
  | k + 1, h, h' => by
    have ih := add_blocks m k (by omega) (by omega)
    have hb := svc_b (m.take (64 * k))
    have hn : (Strm.init.add (m.take (64 * k))).n.toNat = 64 * k := by
      have e : Strm.init.n.toNat = 0 := rfl
      rw [add_n_nat _ _ (by rw [e]; simp; omega), e, List.length_take]
      omega
    have h64 : (Strm.init.add (m.take (64 * k))).n.toNat % 64 = 0 := by rw [hn]; omega
    rw [show 64 * (k + 1) = 64 * k + 64 by omega, List.take_add, add_append, add_piece _ hb 64 _ (by simp; omega) (by omega)]
    simp only [h64, Nat.zero_add, if_true, List.take_zero, List.nil_append, ih, blk]
    have hd : List.drop 64 (Strm.init.add (m.take (64 * k))).b = [] := List.drop_of_length_le (by omega)
    rw [hd, List.append_nil]
theorem sha_blk {b : List UInt8} (h : b.length < 1099511000000) : sha b = outB (blk (padded b) iv ((padded b).length / 64)) 32 := by
  obtain ⟨h1, h2, h3⟩ := padded_len (b := b) (by omega)
  have e := add_blocks (padded b) ((padded b).length / 64) (by omega) (by omega)
  rw [show 64 * ((padded b).length / 64) = (padded b).length by omega, List.take_length] at e
  have hn : (Strm.init.add b).n = UInt64.ofNat b.length := by rw [add_n]; exact UInt64.zero_add _
  rw [← e, sha, Strm.sum, padded, add_append, hn]
def few (l : List (List UInt8)) : Bool := decide (l.length ≤ 12) && l.all fun s => decide (s.length ≤ 400)
def rotrC : Contract := ⟨fun ds => ∃ x n, 0 ≤ n ∧ n ≤ 32 ∧ ds = [u32 x, i64 n], fun ds => u32 (rotr (gU32 (nth ds 0)) (asI (nth ds 1)).toNat)⟩
def paddedC : Contract := ⟨fun ds => ∃ (nl : Option Bool) (b : List UInt8), b.length < 1099511000000 ∧ ds = [.sl .plain nl b.length (bys b)], fun ds => .sl (.own 1) (some false) (padded (gBs (gCs (nth ds 0)))).length (bys (padded (gBs (gCs (nth ds 0)))))⟩
def fewC : Contract := ⟨fun ds => ∃ (nl : Option Bool) (l : List (List UInt8)), ds = [.sl .plain nl l.length (sts l)], fun ds => bo (few (gSs (gCs (nth ds 0))))⟩
def joinC : Contract := ⟨fun ds => ∃ (nl : Option Bool) (l : List (List UInt8)), totS l < 1099511000000 ∧ ds = [.sl .plain nl l.length (sts l)], fun ds => st (gSs (gCs (nth ds 0))).flatten⟩
def text32C : Contract := ⟨fun ds => ∃ h : List UInt8, h.length = 32 ∧ ds = [.agg (bys h)], fun ds => st (gBs (gCs (nth ds 0)))⟩
def text16C : Contract := ⟨fun ds => ∃ h : List UInt8, h.length = 16 ∧ ds = [.agg (bys h)], fun ds => st (gBs (gCs (nth ds 0)))⟩
def padKC : Contract := ⟨fun ds => ∃ (k : List UInt8) (w : UInt8), k.length < 1099511000000 ∧ ds = [st k, u8 w], fun ds => .sl (.own 1) none 64 (bys (padK (keyOf (gS (nth ds 0))) (gU8 (nth ds 1))))⟩
def rsumC : Contract := ⟨fun ds => ∃ (nl : Option Bool) (l : List UInt8), l.length < 1099511000000 ∧ ds = [.sl .plain nl l.length (bys l)], fun ds => .agg (bys (sha (gBs (gCs (nth ds 0)))))⟩
def rmacC : Contract := ⟨fun ds => ∃ key text : List UInt8, key.length < 1099511000000 ∧ text.length < 1099510000000 ∧ ds = [st key, st text], fun ds => st (mac (gS (nth ds 0)) (gS (nth ds 1)))⟩
def shortC : Contract := ⟨fun ds => ∃ (nl : Option Bool) (l : List UInt8), l.length < 1099511000000 ∧ ds = [.sl .plain nl l.length (bys l)], fun ds => .agg (bys ((sha (gBs (gCs (nth ds 0)))).take 16))⟩
def inputC : Contract := ⟨fun ds => ∃ (tag : Int) (nl : Option Bool) (l : List (List UInt8)), totS l < 1099510000000 ∧ ds = [i64 tag, .sl .plain nl l.length (sts l)],
  fun ds => .sl (.own 1) (some false) (inpOf (asI (nth ds 0)) (gSs (gCs (nth ds 1)))).length (bys (inpOf (asI (nth ds 0)) (gSs (gCs (nth ds 1)))))⟩
def rofC : Contract := ⟨fun ds => ∃ (tag : Int) (nl : Option Bool) (l : List (List UInt8)), totS l < 1099510000000 ∧ ds = [i64 tag, .sl .plain nl l.length (sts l)], fun ds => .agg (bys (digOf (asI (nth ds 0)) (gSs (gCs (nth ds 1)))))⟩
def rintC : Contract := ⟨fun ds => ∃ n, isI64 n ∧ ds = [i64 n], fun ds => .sl (.own 1) none (encI (asI (nth ds 0))).length (bys (encI (asI (nth ds 0))))⟩
def rbytesC : Contract := ⟨fun ds => ∃ s : List UInt8, s.length ≤ 1099511000000 ∧ ds = [st s], fun ds => .sl (.own 1) none (encS (gS (nth ds 0))).length (bys (encS (gS (nth ds 0))))⟩
theorem rotr_pre {x : UInt32} {n : Int} (h0 : 0 ≤ n) (h1 : n ≤ 32) : rotrC.pre [u32 x, i64 n] = True := eq_true ⟨x, n, h0, h1, rfl⟩
@[simp] theorem rotr_post (x : UInt32) (n : Int) : rotrC.post [u32 x, i64 n] = u32 (rotr x n.toNat) := by simp [rotrC]
theorem sched_pre {b : List UInt8} {nl : Option Bool} {n : Nat} (hn : n = 64) (h : b.length = 64) : schedC.pre [.sl .plain nl n (bys b)] = True := eq_true ⟨nl, b, h, by rw [hn]⟩
@[simp] theorem sched_post (b : List UInt8) (nl : Option Bool) (n : Nat) : schedC.post [.sl .plain nl n (bys b)] = .agg (w32s (sched b 64)) := by simp [schedC]
theorem padded_pre {b : List UInt8} {nl : Option Bool} {n : Nat} (hn : n = b.length) (h : b.length < 1099511000000) : paddedC.pre [.sl .plain nl n (bys b)] = True := eq_true ⟨nl, b, h, by rw [hn]⟩
@[simp] theorem padded_post (b : List UInt8) (nl : Option Bool) (n : Nat) : paddedC.post [.sl .plain nl n (bys b)] = .sl (.own 1) (some false) (padded b).length (bys (padded b)) := by simp [paddedC]
@[simp] theorem few_post (l : List (List UInt8)) (nl : Option Bool) (n : Nat) : fewC.post [.sl .plain nl n (sts l)] = bo (few l) := by simp [fewC]
@[simp] theorem join_post (l : List (List UInt8)) (nl : Option Bool) (n : Nat) : joinC.post [.sl .plain nl n (sts l)] = st l.flatten := by simp [joinC]
theorem text32_pre {h : List UInt8} (hl : h.length = 32) : text32C.pre [.agg (bys h)] = True := eq_true ⟨h, hl, rfl⟩
@[simp] theorem text32_post (h : List UInt8) : text32C.post [.agg (bys h)] = st h := by simp [text32C]
@[simp] theorem text16_post (h : List UInt8) : text16C.post [.agg (bys h)] = st h := by simp [text16C]
theorem padK_pre {k : List UInt8} (w : UInt8) (h : k.length < 1099511000000) : padKC.pre [st k, u8 w] = True := eq_true ⟨k, w, h, rfl⟩
@[simp] theorem padK_post (k : List UInt8) (w : UInt8) : padKC.post [st k, u8 w] = .sl (.own 1) none 64 (bys (padK (keyOf k) w)) := by simp [padKC]
theorem rsum_pre {l : List UInt8} {nl : Option Bool} {n : Nat} (hn : n = l.length) (h : l.length < 1099511000000) : rsumC.pre [.sl .plain nl n (bys l)] = True := eq_true ⟨nl, l, h, by rw [hn]⟩
@[simp] theorem rsum_post (l : List UInt8) (nl : Option Bool) (n : Nat) : rsumC.post [.sl .plain nl n (bys l)] = .agg (bys (sha l)) := by simp [rsumC]
theorem rmac_pre {k m : List UInt8} (hk : k.length < 1099511000000) (hm : m.length < 1099510000000) : rmacC.pre [st k, st m] = True := eq_true ⟨k, m, hk, hm, rfl⟩
@[simp] theorem rmac_post (k m : List UInt8) : rmacC.post [st k, st m] = st (mac k m) := by simp [rmacC]
@[simp] theorem short_post (l : List UInt8) (nl : Option Bool) (n : Nat) : shortC.post [.sl .plain nl n (bys l)] = .agg (bys ((sha l).take 16)) := by simp [shortC]
@[simp] theorem input_post (tag : Int) (nl : Option Bool) (n : Nat) (l : List (List UInt8)) : inputC.post [i64 tag, .sl .plain nl n (sts l)] = .sl (.own 1) (some false) (inpOf tag l).length (bys (inpOf tag l)) := by simp [inputC]
@[simp] theorem rof_post (tag : Int) (nl : Option Bool) (n : Nat) (l : List (List UInt8)) : rofC.post [i64 tag, .sl .plain nl n (sts l)] = .agg (bys (digOf tag l)) := by simp [rofC]
theorem rint_pre {n : Int} (h0 : -9223372036854775808 ≤ n) (h1 : n ≤ 9223372036854775807) : rintC.pre [i64 n] = True := eq_true ⟨n, ⟨h0, h1⟩, rfl⟩
@[simp] theorem rint_post (n : Int) : rintC.post [i64 n] = .sl (.own 1) none (encI n).length (bys (encI n)) := by simp [rintC]
theorem rbytes_pre {s : List UInt8} (h : s.length ≤ 1099511000000) : rbytesC.pre [st s] = True := eq_true ⟨s, h, rfl⟩
@[simp] theorem rbytes_post (s : List UInt8) : rbytesC.post [st s] = .sl (.own 1) none (encS s).length (bys (encS s)) := by simp [rbytesC]
@[simp] theorem int_post (n : Int) : intC.post [i64 n] = .sl (.own 1) (some false) (encI n).length (bys (encI n)) := by simp [intC]
end Go.Abs
end

section
namespace Go.Abs
end Go.Abs
end

section
namespace Go.Abs
def fl (h c : UInt8) : UInt8 := if h < 128 then 255 - c else c
def kOf (h : UInt8) : Nat := (fl h h).toNat - 128
def valB (l : List UInt8) : Nat := l.foldl (fun a c => 256 * a + c.toNat) 0
def getI : List UInt8 → Int × Nat × Nat
  | [] => (0, 0, 5)
  | h :: t =>
    if 8 < kOf h then (0, 0, 6) else if t.length < kOf h then (0, 0, 5)
    else if 0 < kOf h ∧ fl h (at8 t 0) = 0 then (0, 0, 6)
    else if 2 ^ 63 ≤ valB ((t.take (kOf h)).map (fl h)) then (0, 0, 6)
    else (if h < 128 then -1 - (valB ((t.take (kOf h)).map (fl h)) : Int) else valB ((t.take (kOf h)).map (fl h)), kOf h + 1, 0)

end Go.Abs
end

section
namespace Go.Abs
def tri (v : AVal) (n e : Nat) : AVal := .tup [v, i64 n, i64 e]
@[simp] theorem dem_tri (v : AVal) (n e : Nat) : dem (tri v n e) = tri v n e := rfl
@[simp] theorem pureB_tri (v : AVal) (n e : Nat) : pureB (tri v n e) = pureB v := by simp [tri, pureL]
def onB (f : List UInt8 → AVal) : Contract := ⟨fun ds => ∃ nl b, b.length ≤ 1000000000 ∧ ds = [.sl .plain nl b.length (bys b)], fun ds => f (gBs (gCs (nth ds 0)))⟩
@[simp] theorem onB_post (f : List UInt8 → AVal) (m : Mode) (nl : Option Bool) (n : Nat) (b : List UInt8) : (onB f).post [.sl m nl n (bys b)] = f b := by simp [onB]
def sameC : Contract := ⟨fun ds => ∃ nl nl' a b, a.length ≤ 1000000000 ∧ ds = [.sl .plain nl a.length (bys a), .sl .plain nl' b.length (bys b)], fun ds => bo (gBs (gCs (nth ds 0)) == gBs (gCs (nth ds 1)))⟩
@[simp] theorem same_post (m m' : Mode) (nl nl' : Option Bool) (n k : Nat) (a b : List UInt8) : sameC.post [.sl m nl n (bys a), .sl m' nl' k (bys b)] = bo (a == b) := by simp [sameC]
def onC (f : List UInt8 → Nat → AVal) : Contract := ⟨fun ds => ∃ nl b, ∃ s : Nat, b.length ≤ 1000000000 ∧ 0 < s ∧ s ≤ 1000 ∧ ds = [.sl .plain nl b.length (bys b), i64 s], fun ds => f (gBs (gCs (nth ds 0))) (asI (nth ds 1)).toNat⟩
@[simp] theorem onC_post (f : List UInt8 → Nat → AVal) (m : Mode) (nl : Option Bool) (n : Nat) (b : List UInt8) (s : Int) : (onC f).post [.sl m nl n (bys b), i64 s] = f b s.toNat := by simp [onC]
def ints (l : List Int) : List AVal := l.map i64
def gIs (l : List AVal) : List Int := l.map asI
@[simp] theorem ints_length (l : List Int) : (ints l).length = l.length := by simp [ints]
@[simp] theorem ints_nil : ints [] = [] := rfl
@[simp] theorem ints_take (l : List Int) (n : Nat) : (ints l).take n = ints (l.take n) := by simp [ints]
@[simp] theorem ints_drop (l : List Int) (n : Nat) : (ints l).drop n = ints (l.drop n) := by simp [ints]
@[simp] theorem gIs_ints (l : List Int) : gIs (ints l) = l := by simp [gIs, ints, Function.comp_def]
theorem ints_mem {P : AVal → Prop} {l : List Int} (h : ∀ x, P (i64 x)) : ∀ c ∈ ints l, P c := fun c hc => by
  simp only [ints, List.mem_map] at hc
  obtain ⟨x, _, rfl⟩ := hc
  exact h x
@[simp] theorem ints_pure (l : List Int) : (∀ c ∈ ints l, pureB c = true) ↔ True := iff_true_intro (ints_mem (by simp))
@[simp] theorem pureL_ints (l : List Int) : pureL (ints l) = true := pureL_mem (ints_mem (by simp))
@[simp] theorem ints_cell (l : List Int) : (∀ c ∈ ints l, isCell c) ↔ True := iff_true_intro (ints_mem (by simp))
@[simp] theorem ints_own (l : List Int) : (∀ c ∈ ints l, ownTop c = false) ↔ True := iff_true_intro (ints_mem (by simp))
@[simp] theorem ints_pure_cell (l : List Int) : (∀ c ∈ ints l, pureB c = true ∧ isCell c) ↔ True := iff_true_intro (ints_mem (by simp))
@[simp] theorem refsL_ints (l : List Int) : refsL (ints l) = [] := by induction l <;> simp_all [ints]

def readC : CM := ⟨[], [2, 3], fun ds => ∃ nl b, ∃ i : Nat, b.length ≤ 1000000000 ∧ i ≤ b.length ∧ ds = [.sl .plain nl b.length (bys b), i64 i], fun _ => .fn 61 [] [.bp 2 0, .bp 3 0], fun ds j => if j = 2 then [nth ds 0] else [nth ds 1]⟩
def nxtB (ds : List AVal) : List UInt8 := gBs (gCs (hdA (gCs (nth ds 0))))
def nxtI (ds : List AVal) : Nat := (asI (hdA (gCs (nth ds 1)))).toNat
def nextC : CM := ⟨[0, 1], [], fun ds => ∃ nl b, ∃ i : Nat, b.length ≤ 1000000000 ∧ i ≤ b.length ∧ ds = [.ep [.sl .plain nl b.length (bys b)], .ep [i64 i]],
  fun ds => tri (i64 (getI ((nxtB ds).drop (nxtI ds))).1) (nxtI ds + (getI ((nxtB ds).drop (nxtI ds))).2.1) (getI ((nxtB ds).drop (nxtI ds))).2.2,
  fun ds j => if j = 0 then [hdA (gCs (nth ds 0))] else [i64 ((nxtI ds + (getI ((nxtB ds).drop (nxtI ds))).2.1 : Nat) : Int)]⟩
@[simp] theorem read_bx : readC.bx = [] := rfl
@[simp] theorem read_nb : readC.nb = [2, 3] := rfl
@[simp] theorem read_post (ds : List AVal) : readC.post ds = .fn 61 [] [.bp 2 0, .bp 3 0] := rfl
@[simp] theorem read_out2 (x y : AVal) : readC.out [x, y] 2 = [x] := rfl
@[simp] theorem read_out3 (x y : AVal) : readC.out [x, y] 3 = [y] := rfl
@[simp] theorem next_bx : nextC.bx = [0, 1] := rfl
@[simp] theorem next_nb : nextC.nb = [] := rfl
@[simp] theorem next_post (m : Mode) (nl : Option Bool) (n : Nat) (b : List UInt8) (i : Int) : nextC.post [.ep [.sl m nl n (bys b)], .ep [i64 i]] = tri (i64 (getI (b.drop i.toNat)).1) (i.toNat + (getI (b.drop i.toNat)).2.1) (getI (b.drop i.toNat)).2.2 := by simp [nextC, nxtB, nxtI]
@[simp] theorem next_out0 (x : AVal) (y : AVal) : nextC.out [.ep [x], y] 0 = [x] := rfl
@[simp] theorem next_out1 (m : Mode) (nl : Option Bool) (n : Nat) (b : List UInt8) (i : Int) : nextC.out [.ep [.sl m nl n (bys b)], .ep [i64 i]] 1 = [i64 ((i.toNat + (getI (b.drop i.toNat)).2.1 : Nat) : Int)] := by simp [nextC, nxtB, nxtI]

/-! ### So many elements, one after the other -/
def pre {α : Type} (out : List α) (r : List α × Nat × Nat) : List α × Nat × Nat := if r.2.2 ≠ 0 then ([], 0, r.2.2) else (out ++ r.1, r.2.1, 0)
@[simp] theorem memFreeL_sts (l : List (List UInt8)) : memFreeL (sts l) = true := by induction l <;> simp_all [sts, memFreeL, memFree, st]
end Go.Abs
end

section
namespace Go.Abs
def onIs (f : List Int → AVal) : Contract := ⟨fun ds => ∃ nl l, l.length ≤ 100000000 ∧ (∀ x ∈ l, isI64 x) ∧ ds = [.sl .plain nl l.length (ints l)], fun ds => f (gIs (gCs (nth ds 0)))⟩
@[simp] theorem onIs_post (f : List Int → AVal) (m : Mode) (nl : Option Bool) (n : Nat) (l : List Int) : (onIs f).post [.sl m nl n (ints l)] = f l := by simp [onIs]
def onSs (f : List (List UInt8) → AVal) : Contract := ⟨fun ds => ∃ nl l, totS l ≤ 1000000000 ∧ ds = [.sl .plain nl l.length (sts l)], fun ds => f (gSs (gCs (nth ds 0)))⟩
@[simp] theorem onSs_post (f : List (List UInt8) → AVal) (m : Mode) (nl : Option Bool) (n : Nat) (l : List (List UInt8)) : (onSs f).post [.sl m nl n (sts l)] = f l := by simp [onSs]
def onDs (f : Nat → List UInt8 → AVal) : Contract := ⟨fun ds => ∃ nl n d, n ≤ 10000000 ∧ d.length = n * 16 ∧ ds = [.sl .plain nl n (bys d)], fun ds => f (slen (nth ds 0)) (gBs (gCs (nth ds 0)))⟩
@[simp] theorem onDs_post (f : Nat → List UInt8 → AVal) (m : Mode) (nl : Option Bool) (n : Nat) (d : List UInt8) : (onDs f).post [.sl m nl n (bys d)] = f n d := by simp [onDs]
def sameIC : Contract := ⟨fun ds => ∃ nl nl' a b, a.length ≤ 1000000000 ∧ ds = [.sl .plain nl a.length (ints a), .sl .plain nl' b.length (ints b)], fun ds => bo (gIs (gCs (nth ds 0)) == gIs (gCs (nth ds 1)))⟩
@[simp] theorem sameI_post (m m' : Mode) (nl nl' : Option Bool) (n k : Nat) (a b : List Int) : sameIC.post [.sl m nl n (ints a), .sl m' nl' k (ints b)] = bo (a == b) := by simp [sameIC]
def sameSC : Contract := ⟨fun ds => ∃ nl nl' a b, a.length ≤ 1000000000 ∧ ds = [.sl .plain nl a.length (sts a), .sl .plain nl' b.length (sts b)], fun ds => bo (gSs (gCs (nth ds 0)) == gSs (gCs (nth ds 1)))⟩
@[simp] theorem sameS_post (m m' : Mode) (nl nl' : Option Bool) (n k : Nat) (a b : List (List UInt8)) : sameSC.post [.sl m nl n (sts a), .sl m' nl' k (sts b)] = bo (a == b) := by simp [sameSC]
def sameDC : Contract := ⟨fun ds => ∃ nl nl' n m a b, n ≤ 10000000 ∧ a.length = n * 16 ∧ b.length = m * 16 ∧ ds = [.sl .plain nl n (bys a), .sl .plain nl' m (bys b)], fun ds => bo (gBs (gCs (nth ds 0)) == gBs (gCs (nth ds 1)))⟩
@[simp] theorem sameD_post (m m' : Mode) (nl nl' : Option Bool) (n k : Nat) (a b : List UInt8) : sameDC.post [.sl m nl n (bys a), .sl m' nl' k (bys b)] = bo (a == b) := by simp [sameDC]
end Go.Abs
end

section
namespace Go.Abs
set_option maxRecDepth 100000
def f_kdf_Derive_r5 : ACode :=
 .region [7, 12, 13, 14] [] [
 ⟨some 18, none, .mv true (.s 7)⟩,
 ⟨some 19, none, .mv false (.s 9)⟩,
 ⟨some 20, none, .call 7 [(.s 19)] []⟩,
 ⟨some 21, none, .append 1 1 false (some false) none 18 (.s 20)⟩,
 ⟨some 7, none, .mv true (.s 21)⟩]
def f_kdf_Derive_r4 : ACode :=
 .seq (
 .block 1 (
 .seq (
 .region [7, 9, 12, 13, 14] [] [
 ⟨some 16, none, .idxSl 1 (.s 12) (.s 14)⟩,
 ⟨some 17, none, .load none none false (.s 16)⟩,
 ⟨some 9, none, .mv false (.s 17)⟩]) (
 f_kdf_Derive_r5))) (
 .region [7, 12, 13, 14] [] [
 ⟨some 22, none, .bin .add (.s 14) (.c (i64 1))⟩,
 ⟨some 14, none, .mv false (.s 22)⟩])
def f_kdf_Derive_r3 : ACode :=
 .seq (
 .cond (.s 15) (
 .ghost (.keep [7, 12, 13, 14]) .skip) (
 .ghost (.keep [7]) (.exit 0))) (
 f_kdf_Derive_r4)
def f_kdf_Derive_l0 : ACode :=
 .seq (
 .region [7, 12, 13, 14, 15] [] [
 ⟨some 15, none, .bin .lss (.s 14) (.s 13)⟩]) (
 f_kdf_Derive_r3)
def f_kdf_Derive_r2 : ACode :=
 .block 0 (
 .loop f_kdf_Derive_l0)
def f_kdf_Derive_r6 : ACode :=
 .seq (
 .region [6] [] [
 ⟨some 23, none, .mv false (.s 0)⟩,
 ⟨some 24, none, .mv true (.s 7)⟩,
 ⟨some 25, none, .toStr none (.s 24)⟩,
 ⟨some 26, none, .call 6 [(.s 23), (.s 25)] []⟩,
 ⟨some 6, none, .mv false (.s 26)⟩]) (
 .ret)
def f_kdf_Derive_r1 : ACode :=
 .seq (
 .seq (
 .region [7, 12, 13, 14] [] [
 ⟨some 12, none, .mv false (.s 2)⟩,
 ⟨some 13, none, .len false (.s 12)⟩,
 ⟨some 14, none, .mv false (.c (i64 0))⟩]) (
 f_kdf_Derive_r2)) (
 f_kdf_Derive_r6)
def f_kdf_Derive_r0 : ACode :=
 .seq (
 .region [7] [] [
 ⟨some 10, none, .mv false (.s 1)⟩,
 ⟨some 11, none, .call 7 [(.s 10)] []⟩,
 ⟨some 7, none, .mv true (.s 11)⟩]) (
 f_kdf_Derive_r1)
def f_kdf_Derive : AFun :=
 { n := 3, wr := [], res := [.t 6], body :=
 .seq (
 .region [] [] [
 ⟨some 6, none, .mv false (.c (st []))⟩]) (
 f_kdf_Derive_r0) }

def f_custodyref05_Derive_r0 : ACode :=
 .seq (
 .region [6] [] [
 ⟨some 7, none, .mv false (.s 0)⟩,
 ⟨some 8, none, .mv false (.s 1)⟩,
 ⟨some 9, none, .mv false (.s 2)⟩,
 ⟨some 10, none, .call 77 [(.s 8), (.s 9)] []⟩,
 ⟨some 11, none, .call 18 [(.s 7), (.s 10)] []⟩,
 ⟨some 6, none, .mv false (.s 11)⟩]) (
 .ret)
def f_custodyref05_Derive : AFun :=
 { n := 3, wr := [], res := [.t 6], body :=
 .seq (
 .region [] [] [
 ⟨some 6, none, .mv false (.c (st []))⟩]) (
 f_custodyref05_Derive_r0) }

def f_custodyref05_Input_r3 : ACode :=
 .cond (.s 14) (
 .ghost (.keep [5, 6]) .skip) (
 .ghost (.keep [5]) (.exit 0))
def f_custodyref05_Input_r4 : ACode :=
 .seq (
 .block 1 (
 .region [5, 6] [] [
 ⟨some 17, none, .mv true (.s 5)⟩,
 ⟨some 18, none, .mv false (.s 1)⟩,
 ⟨some 19, none, .mv false (.s 6)⟩,
 ⟨some 20, none, .idxSl 1 (.s 18) (.s 19)⟩,
 ⟨some 21, none, .load none none false (.s 20)⟩,
 ⟨some 22, none, .call 29 [(.s 21)] []⟩,
 ⟨some 23, none, .append 1 1 false (some false) none 17 (.s 22)⟩,
 ⟨some 5, none, .mv true (.s 23)⟩])) (
 .region [5, 6] [] [
 ⟨some 15, none, .mv false (.s 6)⟩,
 ⟨some 16, none, .bin .add (.s 15) (.c (i64 1))⟩,
 ⟨some 6, none, .mv false (.s 16)⟩])
def f_custodyref05_Input_l0 : ACode :=
 .seq (
 .seq (
 .region [5, 6, 14] [] [
 ⟨some 11, none, .mv false (.s 6)⟩,
 ⟨some 12, none, .mv false (.s 1)⟩,
 ⟨some 13, none, .len false (.s 12)⟩,
 ⟨some 14, none, .bin .lss (.s 11) (.s 13)⟩]) (
 f_custodyref05_Input_r3)) (
 f_custodyref05_Input_r4)
def f_custodyref05_Input_r2 : ACode :=
 .block 0 (
 .loop f_custodyref05_Input_l0)
def f_custodyref05_Input_r5 : ACode :=
 .seq (
 .region [4] [] [
 ⟨some 24, none, .mv true (.s 5)⟩,
 ⟨some 25, none, .toStr none (.s 24)⟩,
 ⟨some 4, none, .mv false (.s 25)⟩]) (
 .ret)
def f_custodyref05_Input_r1 : ACode :=
 .seq (
 .seq (
 .region [5, 6] [] [
 ⟨some 6, none, .mv false (.c (i64 0))⟩]) (
 f_custodyref05_Input_r2)) (
 f_custodyref05_Input_r5)
def f_custodyref05_Input_r0 : ACode :=
 .seq (
 .region [5] [] [
 ⟨some 7, none, .buildSl 1 0 [] []⟩,
 ⟨some 8, none, .mv false (.s 0)⟩,
 ⟨some 9, none, .call 29 [(.s 8)] []⟩,
 ⟨some 10, none, .append 1 1 false (some false) none 7 (.s 9)⟩,
 ⟨some 5, none, .mv true (.s 10)⟩]) (
 f_custodyref05_Input_r1)
def f_custodyref05_Input : AFun :=
 { n := 2, wr := [], res := [.t 4], body :=
 .seq (
 .region [] [] [
 ⟨some 4, none, .mv false (.c (st []))⟩]) (
 f_custodyref05_Input_r0) }

def f_kdf_Random_Next_r0 : ACode :=
 .seq (
 .region [2, 3] [.norm [1, 3]] [
 ⟨some 4, none, .fieldAddr 0 (.s 1)⟩,
 ⟨some 5, none, .load none (some 1) false (.s 4)⟩,
 ⟨some 6, none, .call 76 [(.s 5), (.c (st [118, 97, 108, 117, 101])), (.c (.lit (.slice none 0 0)))] []⟩,
 ⟨some 7, none, .fieldAddr 0 (.s 1)⟩,
 ⟨some 8, none, .load none (some 1) false (.s 7)⟩,
 ⟨some 9, none, .call 76 [(.s 8), (.c (st [115, 101, 101, 100])), (.c (.lit (.slice none 0 0)))] []⟩,
 ⟨some 10, none, .build [st []] [(0, 1, (.s 9))]⟩,
 ⟨some 2, none, .mv false (.s 6)⟩,
 ⟨none, none, .store (some 1) 3 false (.s 3) (.s 10)⟩]) (
 .ret)
def f_kdf_Random_Next : AFun :=
 { n := 1, wr := [], res := [.t 2, .cell 3 (some 1) 3], body :=
 .seq (
 .region [1, 3] [.norm [1, 3]] [
 ⟨some 1, none, .box 1 (some 1) false (.s 0)⟩,
 ⟨some 2, none, .mv false (.c (st []))⟩,
 ⟨some 3, none, .alloc 3 [st []]⟩]) (
 f_kdf_Random_Next_r0) }

def f_custodyref05_Random_Next_r0 : ACode :=
 .seq (
 .region [2, 3] [.norm [1, 3]] [
 ⟨some 4, none, .fieldAddr 0 (.s 1)⟩,
 ⟨some 5, none, .load none (some 1) false (.s 4)⟩,
 ⟨some 6, none, .call 78 [(.s 5), (.c (st [118, 97, 108, 117, 101])), (.c (.lit (.slice none 0 0)))] []⟩,
 ⟨some 7, none, .fieldAddr 0 (.s 1)⟩,
 ⟨some 8, none, .load none (some 1) false (.s 7)⟩,
 ⟨some 9, none, .call 78 [(.s 8), (.c (st [115, 101, 101, 100])), (.c (.lit (.slice none 0 0)))] []⟩,
 ⟨some 10, none, .build [st []] [(0, 1, (.s 9))]⟩,
 ⟨some 2, none, .mv false (.s 6)⟩,
 ⟨none, none, .store (some 1) 3 false (.s 3) (.s 10)⟩]) (
 .ret)
def f_custodyref05_Random_Next : AFun :=
 { n := 1, wr := [], res := [.t 2, .cell 3 (some 1) 3], body :=
 .seq (
 .region [1, 3] [.norm [1, 3]] [
 ⟨some 1, none, .box 1 (some 1) false (.s 0)⟩,
 ⟨some 2, none, .mv false (.c (st []))⟩,
 ⟨some 3, none, .alloc 3 [st []]⟩]) (
 f_custodyref05_Random_Next_r0) }

end Go.Abs
end

section
namespace Go.Abs

/-! ### strings.Builder -/
@[simp] theorem bldEff0 (id : Nat) (c x : AVal) (xs : List AVal) : bldEff 0 id c x xs = { val := i64 (slen c) } := rfl
@[simp] theorem bldEff1 (id : Nat) (c x : AVal) (xs : List AVal) : bldEff 1 id c x xs = { val := .tup [i64 (slen x), .lit .nilIface], bx := [(id, some [.undef, .sl (.own 1) none (slen c + slen x) (scells [] c ++ xs)])] } := rfl
@[simp] theorem bldEff2 (id : Nat) (c x : AVal) (xs : List AVal) : bldEff 2 id c x xs = { val := .tup [i64 (slen x), .lit .nilIface], bx := [(id, some [.undef, .sl (.own 1) none (slen c + slen x) (scells [] c ++ xs)])] } := rfl
@[simp] theorem bldEff3 (id : Nat) (nl : Option Bool) (n : Nat) (l : List UInt8) (x : AVal) (xs : List AVal) : bldEff 3 id (.sl (.own 1) nl n (bys l)) x xs = { val := st l, bx := [(id, some [])] } := by
  show ({ val := .lit (.string (bytesOf (bytesA l))), bx := _ } : Eff) = _
  rw [bytesOf_bytesA]
  rfl
theorem kT {E : Env} {c : Arg} {a b : ACode} {Q : AExit → ASt → Prop} {s : ASt} (h : arg E s.get c = bo true) : awp E (.cond c a b) Q s = awp E a Q s := by
  rw [awp_cond, h]; simp
theorem kF {E : Env} {c : Arg} {a b : ACode} {Q : AExit → ASt → Prop} {s : ASt} (h : arg E s.get c = bo false) : awp E (.cond c a b) Q s = awp E b Q s := by
  rw [awp_cond, h]; simp

/-! ### Iterators -/
theorem postI_then {f : Nat × Bool → ASt → Prop} {Q : IQ} {p : Nat × Bool} : (fun e st' => thenI f Q e p st') = thenQ (fun st' => f p st') (fun e st' => Q e p st') := by
  funext e st'
  cases e <;> rfl
@[simp] theorem iwp_plain (E : Env) (l : Nat) (el : Nat → Option (List AVal)) (c : ACode) (Q : IQ) (p : Nat × Bool) (s : ASt) : iwpL E l el (.plain c) Q p s = awp E c (fun e st' => Q e p st') s := rfl
@[simp] theorem iwp_seqp (E : Env) (l : Nat) (el : Nat → Option (List AVal)) (c : ACode) (b : ICode) (Q : IQ) (p : Nat × Bool) (s : ASt) : iwpL E l el (.seq (.plain c) b) Q p s = awp E c (thenQ (fun st' => iwpL E l el b Q p st') (fun e st' => Q e p st')) s := by
  simp only [iwpL, postI_then]
@[simp] theorem iwp_block (E : Env) (l : Nat) (el : Nat → Option (List AVal)) (i : Nat) (b : ICode) (Q : IQ) (p : Nat × Bool) (s : ASt) : iwpL E l el (.block i b) Q p s = iwpL E l el b (blockI i Q) p s := rfl
@[simp] theorem thenI_normal (f : Nat × Bool → ASt → Prop) (Q : IQ) (p : Nat × Bool) (s : ASt) : thenI f Q .normal p s = f p s := rfl
@[simp] theorem thenI_exit (f : Nat × Bool → ASt → Prop) (Q : IQ) (i : Nat) (p : Nat × Bool) (s : ASt) : thenI f Q (.exit i) p s = Q (.exit i) p s := rfl
@[simp] theorem blockI_normal (i : Nat) (Q : IQ) (p : Nat × Bool) (s : ASt) : blockI i Q .normal p s = Q .normal p s := rfl
@[simp] theorem blockI_same (i : Nat) (Q : IQ) (p : Nat × Bool) (s : ASt) : blockI i Q (.exit i) p s = Q .normal p s := by simp [blockI]
def runK (E : Env) (f : ASt → Prop) : List AOper → ASt → Prop
  | [], st => f st
  | o :: os, st => okA E o st ∧ runK E f os (stepA E o st)
attribute [simp] runK
theorem runK_eq (E : Env) (f : ASt → Prop) : ∀ (xs : List AOper) (st : ASt), runK E f xs st = (okRun E xs st ∧ f (runA E xs st))
  | [], st => by simp only [runK, okRun, runA, true_and]
  | o :: os, st => by simp only [runK, okRun, runA, runK_eq E f os]; exact propext and_assoc.symm
@[simp] theorem iwp_yield (E : Env) (l : Nat) (el : Nat → Option (List AVal)) (keep : List Nat) (gs : List Ghost) (xs : List AOper) (d : Option Nat) (y : Nat) (as : List Arg) (zs : List AOper) (Q : IQ) (p : Nat × Bool) (s : ASt) :
    iwpL E l el (.yield keep gs xs d y as zs) Q p s = ((∀ s' ∈ d.toList, lk s.org s' = none) ∧ runK E (fun st0 => p.2 = false ∧ el p.1 = some (as.map (arg E (hush st0).get)) ∧ memFreeL (as.map (arg E (hush st0).get)) = true ∧ (hush st0).get y = .lit (.func (.yield l) #[] #[]) ∧ (∀ q ∈ (hush st0).box, ∀ cs, q.2 = some cs → cs.all yOk = true ∧ q.1 < 1000000) ∧
      ∀ b : Bool, runR E keep gs (fun e s => Q e (if b then (p.1 + 1, false) else (p.1, true)) s) zs (putB d b (hush st0))) xs s) := by
  simp only [runK_eq, runR_eq, iwpL]
  apply propext
  constructor
  · rintro ⟨h1, h2, h3, h4, h5, h6, h8, h9⟩
    exact ⟨h2, h1, h3, h4, h5, h6, h8, h9⟩
  · rintro ⟨h2, h1, h3, h4, h5, h6, h8, h9⟩
    exact ⟨h1, h2, h3, h4, h5, h6, h8, h9⟩
@[simp] theorem putB_some (d : Nat) (b : Bool) (o e : List (Nat × AVal)) (bx : List (Nat × Option (List AVal))) : putB (some d) b ⟨o, e, bx⟩ = ⟨o, (d, bo b) :: e, bx⟩ := rfl
@[simp] theorem putB_none (b : Bool) (o e : List (Nat × AVal)) (bx : List (Nat × Option (List AVal))) : putB none b ⟨o, e, bx⟩ = ⟨o, e, bx⟩ := rfl
@[simp] theorem hush_mk (o e : List (Nat × AVal)) (b : List (Nat × Option (List AVal))) : hush ⟨o, e, b⟩ = ⟨o, e.map fun q => (q.1, if yOk q.2 then q.2 else .undef), b⟩ := rfl
@[simp] theorem yOk_ep (cs : List AVal) : yOk (.ep cs) = false := rfl
@[simp] theorem yOk_sl (m : Mode) (nl : Option Bool) (n : Nat) (cs : List AVal) : yOk (.sl m nl n cs) = memFree (.sl m nl n cs) := rfl
@[simp] theorem yOk_undef : yOk .undef = true := rfl
@[simp] theorem yOk_bp (i o : Nat) : yOk (.bp i o) = true := rfl
@[simp] theorem yOk_lit (v : Value) : yOk (.lit v) = true := rfl
@[simp] theorem yOk_st (l : List UInt8) : yOk (st l) = true := rfl
@[simp] theorem yOk_bo (b : Bool) : yOk (bo b) = true := rfl
@[simp] theorem yOk_i64 (n : Int) : yOk (i64 n) = true := rfl
@[simp] theorem yOk_agg (cs : List AVal) : yOk (.agg cs) = memFreeL cs := rfl
@[simp] theorem yOk_tup (cs : List AVal) : yOk (.tup cs) = memFreeL cs := rfl
@[simp] theorem iwp_seqy (E : Env) (l : Nat) (el : Nat → Option (List AVal)) (keep : List Nat) (gs : List Ghost) (xs : List AOper) (d : Option Nat) (y : Nat) (as : List Arg) (zs : List AOper) (b : ICode) (Q : IQ) (p : Nat × Bool) (s : ASt) :
    iwpL E l el (.seq (.yield keep gs xs d y as zs) b) Q p s = iwpL E l el (.yield keep gs xs d y as zs) (thenI (fun p st => iwpL E l el b Q p st) Q) p s := rfl
theorem iwp_name {E : Env} {l : Nat} {el : Nat → Option (List AVal)} {b : ICode} {Q : IQ} {p : Nat × Bool} {s : ASt} (h : ∀ Q', Q' = Q → iwpL E l el b Q' p s) : iwpL E l el b Q p s := h Q rfl
theorem iwp_loop {E : Env} {l : Nat} {el : Nat → Option (List AVal)} {b : ICode} {Q : IQ} {p : Nat × Bool} {s : ASt} (I : Nat × Bool → ASt → Prop) (h0 : I p s)
    (h : ∀ p s, I p s → ∀ Q', (∀ p' s', I p' s' → p.2 = false → (p' = (p.1 + 1, false) ∨ p' = (p.1, true)) → Q' .normal p' s') → (∀ i p' s', Q' (.exit i) p' s' = Q (.exit i) p' s') → iwpL E l el b Q' p s) : iwpL E l el (.loop b) Q p s :=
  ⟨I, h0, fun p s hi => h p s hi _ (fun p' s' h1 h2 h3 => ⟨h1, h2, h3⟩) (fun _ _ _ => rfl)⟩

def minW (x y : AVal) : AVal := match x, y with | .lit (.int k a), .lit (.int _ b) => .lit (.int k (if b < a then b else a)) | _, _ => .undef
theorem eff_minW (E : Env) (get : Nat → AVal) (getB : Nat → Option (List AVal)) (x y : Arg) : eff E get getB (.min2 x y) = { val := minW (arg E get x) (arg E get y) } := rfl
theorem minW_i64 (a b : Int) : minW (i64 a) (i64 b) = i64 (if b < a then b else a) := rfl

/-! ### What is computed -/
def inp (label : List UInt8) (parts : List (List UInt8)) : List UInt8 := encS label ++ parts.flatMap encS
def drv (key label : List UInt8) (parts : List (List UInt8)) : List UInt8 := mac key (inp label parts)
theorem drv_len (k l : List UInt8) (p : List (List UInt8)) : (drv k l p).length = 32 := sha_len _
attribute [simp] drv_len
def pth (key : List UInt8) (ls : List (List UInt8)) : List UInt8 := ls.foldl (fun k l => drv k l []) key
def seedL : List UInt8 := [115, 101, 101, 100]
def valL : List UInt8 := [118, 97, 108, 117, 101]
def sdN (s : List UInt8) : Nat → List UInt8
  | 0 => s
  | i + 1 => drv (sdN s i) seedL []
def vlN (s : List UInt8) (i : Nat) : List UInt8 := drv (sdN s i) valL []
def stN (s : List UInt8) : Nat → List UInt8
  | 0 => []
  | i + 1 => stN s i ++ vlN s i
def blkN (n : Int) : Nat := (n.toNat + 31) / 32
def bysN (s : List UInt8) (n : Int) : List UInt8 := if n ≤ 0 ∨ 8000 < n then [] else (stN s (blkN n)).take n.toNat
def aftN (s : List UInt8) (n : Int) : List UInt8 := if n ≤ 0 ∨ 8000 < n then s else sdN s (blkN n)

def derC : Contract := ⟨fun ds => ∃ (key label : List UInt8) (nl : Option Bool) (parts : List (List UInt8)), key.length < 1000000000 ∧ label.length < 1000000000 ∧ totS parts < 1000000000 ∧ ds = [st key, st label, .sl .plain nl parts.length (sts parts)], fun ds => st (drv (gS (nth ds 0)) (gS (nth ds 1)) (gSs (gCs (nth ds 2))))⟩
def inpC : Contract := ⟨fun ds => ∃ (label : List UInt8) (nl : Option Bool) (parts : List (List UInt8)), label.length < 1000000000 ∧ totS parts < 1000000000 ∧ ds = [st label, .sl .plain nl parts.length (sts parts)], fun ds => st (inp (gS (nth ds 0)) (gSs (gCs (nth ds 1))))⟩
def pthC : Contract := ⟨fun ds => ∃ (key : List UInt8) (nl : Option Bool) (ls : List (List UInt8)), key.length < 1000000000 ∧ totS ls < 1000000000 ∧ ds = [st key, .sl .plain nl ls.length (sts ls)], fun ds => st (pth (gS (nth ds 0)) (gSs (gCs (nth ds 1))))⟩
def gR (d : AVal) : List UInt8 := gS (nth (gCs d) 0)
def nxtC : Contract := ⟨fun ds => ∃ s : List UInt8, s.length < 1000000000 ∧ ds = [.agg [st s]], fun ds => .tup [st (drv (gR (nth ds 0)) valL []), .agg [st (drv (gR (nth ds 0)) seedL [])]]⟩
def gbysC : Contract := ⟨fun ds => ∃ (s : List UInt8) (n : Int), s.length < 1000000000 ∧ isI64 n ∧ ds = [.agg [st s], i64 n], fun ds => .tup [st (bysN (gR (nth ds 0)) (asI (nth ds 1))), .agg [st (aftN (gR (nth ds 0)) (asI (nth ds 1)))]]⟩
def valsC : ItC := ⟨fun x y => ∃ s : List UInt8, s.length < 1000000000 ∧ x = [.agg [st s]] ∧ y = [], fun x _ i => some [st (vlN (gR (nth x 0)) i), .agg [st (sdN (gR (nth x 0)) (i + 1))]], []⟩
theorem awp_range0 {E : Env} {f : Nat} {t : Arg} {ks ps : List Nat} {as bd : ACode} {Q : AExit → ASt → Prop} {st : ASt} (x y : List AVal) (hx : arg E st.get t = .fn f x y) (hp : pureL (x ++ y) = true) (hlv : (E.I f).lv = []) (hpre : (E.I f).pre x y) (hps : ∀ p ∈ ps, p ∉ ks ∧ lk st.org p = none) (N : Nat) (I : Nat → List (Nat × Option (List AVal)) → Prop) (h0 : I 0 st.box) (hb : ∀ i bx, I i bx → i ≤ N)
    (hd : ∀ i bx, I i bx → (E.I f).el x y i = none → Q .normal { org := st.org, env := rngEnv st ks, box := bx })
    (hr : ∀ i bx xs, I i bx → (E.I f).el x y i = some xs → xs.length = ps.length ∧ memFreeL xs = true ∧ ∀ V : Nat → Value, awp E as (thenQ (awp E bd (rngQ st ks V (I (i + 1)) Q)) (fun _ _ => False)) (rngSt st ks ps V xs bx)) : awp E (.range f t ks ps as bd) Q st := by
  refine ⟨x, y, hx, by rw [hlv, rngOk_nil]; exact hp, by rw [hlv, epY_nil]; exact hpre, hps, N, I, by rw [hlv, lvIds_nil, rmB_nil]; exact h0, hb, fun i bx h he => by rw [hlv, lvIds_nil, backQ_nil]; exact hd i bx h (by rw [hlv, epY_nil] at he; exact he), fun i bx xs h he => ?_⟩
  obtain ⟨h1, h2, h3⟩ := hr i bx xs h (by rw [hlv, epY_nil] at he; exact he)
  refine ⟨h1, h2, fun V => ?_⟩
  have e : rngQ st ks V (I (i + 1)) (fun e s => backQ st ks [] Q e s.box) = rngQ st ks V (I (i + 1)) Q := by
    funext e s
    cases e with
    | normal => rfl
    | exit id => simp only [rngQ, backQ_nil]
    | ret => simp only [rngQ, backQ_nil]
  rw [hlv, lvIds_nil, hideS_nil, e]
  exact h3 V
@[simp] theorem valsC_lv : valsC.lv = [] := rfl
@[simp] theorem itSt_nil (l : Nat) (x y : List AVal) : itSt l [] x y = initSt [] (x ++ .lit (.func (.yield l) #[] #[]) :: y) := by simp [itSt, initSt, lvS]

theorem der_pre0 {k l : List UInt8} {nl : Option Bool} (hk : k.length < 1000000000) (hl : l.length < 1000000000) : derC.pre [st k, st l, .sl .plain nl 0 []] = True := eq_true ⟨k, l, nl, [], hk, hl, by decide, rfl⟩
@[simp] theorem der_post (k l : List UInt8) (nl : Option Bool) (n : Nat) (p : List (List UInt8)) : derC.post [st k, st l, .sl .plain nl n (sts p)] = st (drv k l p) := by simp [derC]
@[simp] theorem der_post0 (k l : List UInt8) (nl : Option Bool) (n : Nat) : derC.post [st k, st l, .sl .plain nl n []] = st (drv k l []) := by
  have := der_post k l nl n []
  simpa using this
theorem inp_pre {l : List UInt8} {nl : Option Bool} {n : Nat} {p : List (List UInt8)} (hl : l.length < 1000000000) (hp : totS p < 1000000000) (hn : n = p.length) : inpC.pre [st l, .sl .plain nl n (sts p)] = True := eq_true ⟨l, nl, p, hl, hp, by rw [hn]⟩
@[simp] theorem inp_post (l : List UInt8) (nl : Option Bool) (n : Nat) (p : List (List UInt8)) : inpC.post [st l, .sl .plain nl n (sts p)] = st (inp l p) := by simp [inpC]
@[simp] theorem pth_post (k : List UInt8) (nl : Option Bool) (n : Nat) (p : List (List UInt8)) : pthC.post [st k, .sl .plain nl n (sts p)] = st (pth k p) := by simp [pthC]
theorem nxt_pre {s : List UInt8} (h : s.length < 1000000000) : nxtC.pre [.agg [st s]] = True := eq_true ⟨s, h, rfl⟩
@[simp] theorem nxt_post (s : List UInt8) : nxtC.post [.agg [st s]] = .tup [st (drv s valL []), .agg [st (drv s seedL [])]] := by simp [nxtC, gR]
@[simp] theorem gbys_post (s : List UInt8) (n : Int) : gbysC.post [.agg [st s], i64 n] = .tup [st (bysN s n), .agg [st (aftN s n)]] := by simp [gbysC, gR]
theorem inp_len {l : List UInt8} {p : List (List UInt8)} (hl : l.length < 1000000000) (hp : totS p < 1000000000) : (inp l p).length < 3000000000 := by
  have h1 := encS_len (s := l) (by omega)
  have h2 := len_flatMap_encS (l := p) (by omega)
  rw [inp, List.length_append]; omega
theorem totS_take' (l : List (List UInt8)) (i : Nat) : totS (l.take i) ≤ totS l := by
  induction l generalizing i with
  | nil => simp
  | cons x l ih =>
    cases i with
    | zero => simp [totS]
    | succ i => have := ih i; simp only [totS, List.take_succ_cons, List.map_cons, List.sum_cons] at this ⊢; omega
end Go.Abs
end

section
namespace Go.Abs
structure Cmd where
  kind : Int
  key : Int
  other : Int
  type : Int
  uses : Int
  life : Int
  data : List UInt8
  list : List Int
def Cmd.ok (c : Cmd) : Prop := isI64 c.kind ∧ isI64 c.key ∧ isI64 c.other ∧ isI64 c.type ∧ isI64 c.uses ∧ isI64 c.life ∧ ∀ x ∈ c.list, isI64 x
def cmdL (c : Cmd) (nl : Option Bool) : List AVal := [i64 c.kind, i64 c.key, i64 c.other, i64 c.type, i64 c.uses, i64 c.life, st c.data, .sl .plain nl c.list.length (ints c.list)]
def gCmd (l : List AVal) : Cmd := ⟨asI (nth l 0), asI (nth l 1), asI (nth l 2), asI (nth l 3), asI (nth l 4), asI (nth l 5), gS (nth l 6), gIs (gCs (nth l 7))⟩
@[simp] theorem gCmd_cmdL (c : Cmd) (nl : Option Bool) : gCmd (cmdL c nl) = c := by simp [gCmd, cmdL, nth]
structure Row where
  name : List UInt8
  uses : Nat
  least : Nat
  most : Nat
def andNotI (x y : Int) : Int := IntKind.i64.wrap (BitVec.ofInt 64 x &&& ~~~ BitVec.ofInt 64 y).toNat
@[simp] theorem bin_i64_andNot (x y : Int) : binV .andNot (i64 x) (i64 y) = i64 (andNotI x y) := rfl
@[simp] theorem binOk_andNot (x y : Int) : binOk .andNot (i64 x) (i64 y) = True := by simp [binOk, i64, -lit_i64]
@[simp] theorem binOk_and64 (x y : Int) : binOk .and (i64 x) (i64 y) = True := by simp [binOk, i64, -lit_i64]
end Go.Abs
end

section
namespace Go.Abs
structure KeyR where
  id : Int
  ty : Int
  val : List UInt8
  uses : Int
  beg : Int
  fin : Int
  ver : Int
  par : Int
  raw : Bool
def keyL (k : KeyR) : List AVal := [i64 k.id, i64 k.ty, st k.val, i64 k.uses, i64 k.beg, i64 k.fin, i64 k.ver, i64 k.par, bo k.raw]
def keysL (l : List KeyR) : List AVal := l.flatMap keyL
instance : DecidableEq KeyR := fun a b => decidable_of_iff (a.id = b.id ∧ a.ty = b.ty ∧ a.val = b.val ∧ a.uses = b.uses ∧ a.beg = b.beg ∧ a.fin = b.fin ∧ a.ver = b.ver ∧ a.par = b.par ∧ a.raw = b.raw) (by
  cases a; cases b; simp)
def key0 : KeyR := ⟨0, 0, [], 0, 0, 0, 0, 0, false⟩
def maxT : Int := 1099511627776
def topN : Int := 2147483647
def inB (n lo hi : Int) : Bool := decide (lo ≤ n) && decide (n ≤ hi)
def subU (a b : Int) : Bool := andNotI a b == 0
def okK (k : KeyR) : Bool := inB k.ty 0 31 && (k.val.length == 32) && subU k.uses 956 && inB k.beg 0 k.fin && inB k.fin 0 maxT && inB k.ver 1 topN && inB k.par 0 topN
theorem W_ofInt {x : Int} (h : isI64 x) : W ((BitVec.ofInt 64 x).toNat : Int) = x := by
  obtain ⟨h0, h1⟩ := h
  rw [BitVec.toNat_ofInt]
  unfold W IntKind.wrap
  simp only [IntKind.bits, IntKind.signed]
  simp
  omega
theorem W_inj {a b : BitVec 64} (h : W (a.toNat : Int) = W (b.toNat : Int)) : a = b := by
  apply BitVec.eq_of_toNat_eq
  have ha := a.isLt
  have hb := b.isLt
  unfold W IntKind.wrap at h
  simp only [IntKind.bits, IntKind.signed] at h
  simp at h
  omega
theorem and_not {a b : BitVec 64} : a &&& ~~~b = 0#64 ↔ a &&& b = a := by
  constructor
  · intro h
    apply BitVec.eq_of_getLsbD_eq
    intro i hi
    have := congrArg (fun x => x.getLsbD i) h
    simp [hi] at this
    cases h1 : a.getLsbD i <;> simp [h1] at this ⊢
    exact this
  · intro h
    apply BitVec.eq_of_getLsbD_eq
    intro i hi
    have h2 : (a &&& b).getLsbD i = a.getLsbD i := by rw [h]
    rw [BitVec.getLsbD_and] at h2
    rw [BitVec.getLsbD_and, BitVec.getLsbD_not]
    simp only [hi, decide_true, Bool.true_and]
    cases h1 : a.getLsbD i <;> simp [h1] at h2 ⊢
    exact h2
theorem subU_eq {a b : Int} (ha : isI64 a) : subU a b = (andI a b == a) := by
  rw [Bool.eq_iff_iff, subU, beq_iff_eq, beq_iff_eq]
  have h0 : andNotI a b = W ((BitVec.ofInt 64 a &&& ~~~ BitVec.ofInt 64 b).toNat : Int) := rfl
  have h1 : andI a b = W ((BitVec.ofInt 64 a &&& BitVec.ofInt 64 b).toNat : Int) := rfl
  rw [h0, h1]
  have hz : (0 : Int) = W ((0#64).toNat : Int) := rfl
  constructor
  · intro h
    rw [hz] at h
    rw [and_not.1 (W_inj h), W_ofInt ha]
  · intro h
    have e := W_inj (a := BitVec.ofInt 64 a &&& BitVec.ofInt 64 b) (b := BitVec.ofInt 64 a) (h.trans (W_ofInt ha).symm)
    rw [and_not.2 e]
    rfl
structure TabR where
  next : Int
  keys : List KeyR
def srt (l : List KeyR) : Prop := l.Pairwise fun a b => a.id < b.id
def okL (next : Int) : Int → List KeyR → Bool
  | _, [] => true
  | last, k :: l => okK k && decide (last < k.id) && decide (k.id < next) && decide (k.par < next) && okL next k.id l
def okT (t : TabR) : Bool := decide (t.keys.length ≤ 4096) && decide (1 ≤ t.next ∧ t.next ≤ topN) && okL t.next 0 t.keys
theorem okL_all {next : Int} : ∀ {last : Int} {l : List KeyR}, okL next last l = true → (∀ k ∈ l, okK k = true ∧ last < k.id ∧ k.id < next ∧ k.par < next) ∧ srt l
  | _, [], _ => ⟨fun k h => (by cases h), List.Pairwise.nil⟩
  | last, a :: l, h => by
    simp only [okL, Bool.and_eq_true, decide_eq_true_eq] at h
    obtain ⟨⟨⟨⟨h1, h2⟩, h3⟩, h4⟩, h5⟩ := h
    obtain ⟨i1, i2⟩ := okL_all h5
    refine ⟨fun k hk => ?_, List.pairwise_cons.2 ⟨fun k hk => (i1 k hk).2.1, i2⟩⟩
    rcases List.mem_cons.1 hk with rfl | hk
    · exact ⟨h1, h2, h3, h4⟩
    · obtain ⟨j1, j2, j3, j4⟩ := i1 k hk
      exact ⟨j1, by omega, j3, j4⟩
theorem okL_mk {next : Int} : ∀ {last : Int} {l : List KeyR}, (∀ k ∈ l, okK k = true ∧ last < k.id ∧ k.id < next ∧ k.par < next) → srt l → okL next last l = true
  | _, [], _, _ => rfl
  | last, a :: l, h, hs => by
    obtain ⟨s1, s2⟩ := List.pairwise_cons.1 hs
    obtain ⟨h1, h2, h3, h4⟩ := h a (by simp)
    simp only [okL, Bool.and_eq_true, decide_eq_true_eq]
    exact ⟨⟨⟨⟨h1, h2⟩, h3⟩, h4⟩, okL_mk (fun k hk => ⟨(h k (by simp [hk])).1, s1 k hk, (h k (by simp [hk])).2.2⟩) s2⟩
/-! ### Looking up -/
def getK (l : List KeyR) (i : Int) : Option KeyR := l.find? fun k => decide (k.id = i)
theorem getK_id {l : List KeyR} {i : Int} {k : KeyR} (h : getK l i = some k) : k.id = i := by simpa using List.find?_some h
theorem getK_mem {l : List KeyR} {i : Int} {k : KeyR} (h : getK l i = some k) : k ∈ l := List.mem_of_find?_eq_some h
theorem getK_at {l : List KeyR} (hs : srt l) {n : Nat} (h : n < l.length) : getK l (l[n]).id = some l[n] := by
  induction l generalizing n with
  | nil => simp at h
  | cons a l ih =>
    obtain ⟨s1, s2⟩ := List.pairwise_cons.1 hs
    cases n with
    | zero => simp [getK]
    | succ n =>
      have hn : n < l.length := by simpa using h
      have : a.id < (l[n]).id := s1 _ (List.getElem_mem hn)
      have e : (a :: l)[n + 1] = l[n] := rfl
      rw [e, getK, List.find?_cons]
      have hd : decide (a.id = (l[n]).id) = false := by simp; omega
      rw [hd]
      exact ih s2 hn
theorem getK_none {l : List KeyR} {i : Int} (h : ∀ k ∈ l, k.id ≠ i) : getK l i = none := by
  rw [getK, List.find?_eq_none]
  intro k hk
  simpa using h k hk
/-! ### Lines -/
def sucK (k x : KeyR) : Bool := decide (k.id < x.id) && (x.ty == k.ty) && (x.par == k.id) && (x.ver == k.ver + 1)
def nxtK (l : List KeyR) (i : Int) : Option Int := (getK l i).bind fun k => (l.reverse.find? (sucK k)).map (·.id)
def cntG (l : List KeyR) (i : Int) : Nat := (l.filter fun k => decide (i < k.id)).length
theorem nxtK_mem {l : List KeyR} {i j : Int} (h : nxtK l i = some j) : ∃ k x, getK l i = some k ∧ x ∈ l ∧ sucK k x = true ∧ x.id = j ∧ i < j := by
  unfold nxtK at h
  cases hk : getK l i with
  | none => rw [hk] at h; cases h
  | some k =>
    rw [hk] at h
    simp only [Option.bind_some] at h
    cases hx : l.reverse.find? (sucK k) with
    | none => rw [hx] at h; cases h
    | some x =>
      rw [hx] at h
      have hj : x.id = j := by simpa using h
      have hsx := List.find?_some hx
      have hm := List.mem_of_find?_eq_some hx
      refine ⟨k, x, rfl, List.mem_reverse.1 hm, hsx, hj, ?_⟩
      have h1 := getK_id hk
      simp only [sucK, Bool.and_eq_true, decide_eq_true_eq, beq_iff_eq] at hsx
      omega
theorem cntG_lt {l : List KeyR} {i j : Int} (h : nxtK l i = some j) : cntG l j < cntG l i := by
  obtain ⟨k, x, _, hx, _, hj, hij⟩ := nxtK_mem h
  have key : ∀ l : List KeyR, cntG l j ≤ cntG l i ∧ (x ∈ l → cntG l j < cntG l i) := by
    intro l
    induction l with
    | nil => exact ⟨Nat.le_refl _, fun h => by cases h⟩
    | cons a l ih =>
      simp only [cntG, List.filter_cons] at ih ⊢
      obtain ⟨i1, i2⟩ := ih
      by_cases h1 : j < a.id
      · have h2 : i < a.id := by omega
        simp only [h1, h2, decide_true, if_true, List.length_cons]
        refine ⟨by omega, fun hm => ?_⟩
        rcases List.mem_cons.1 hm with e | e
        · subst e; omega
        · have := i2 e; omega
      · by_cases h2 : i < a.id
        · simp only [h1, h2, decide_true, decide_false, if_true, Bool.false_eq_true, if_false, List.length_cons]
          exact ⟨by omega, fun hm => by omega⟩
        · simp only [h1, h2, decide_false, Bool.false_eq_true, if_false]
          refine ⟨i1, fun hm => ?_⟩
          rcases List.mem_cons.1 hm with e | e
          · subst e; omega
          · exact i2 e
  exact (key l).2 hx
def lineK (l : List KeyR) (i : Int) : List Int :=
  match h : nxtK l i with
  | none => [i]
  | some j => i :: lineK l j
termination_by cntG l i
decreasing_by exact cntG_lt h
theorem lineK_none {l : List KeyR} {i : Int} (h : nxtK l i = none) : lineK l i = [i] := by
  rw [lineK]; split
  · rfl
  · rename_i h'; rw [h] at h'; cases h'
theorem lineK_some {l : List KeyR} {i j : Int} (h : nxtK l i = some j) : lineK l i = i :: lineK l j := by
  rw [lineK]; split
  · rename_i h'; rw [h] at h'; cases h'
  · rename_i h'; rw [h] at h'; cases h'; rfl
/-! ### Policies -/
structure TypR where
  name : List UInt8
  flags : Int
  life : Int
structure RulR where
  kind : Int
  a : Int
  b : Int
def typL (t : TypR) : List AVal := [st t.name, i64 t.flags, i64 t.life]
def rulL (r : RulR) : List AVal := [i64 r.kind, i64 r.a, i64 r.b]
structure QuoR where
  cmd : Int
  cnt : Int
  del : Int
  val : Int
  uses : Int
def quoL (q : QuoR) : List AVal := [i64 q.cmd, i64 q.cnt, i64 q.del, i64 q.val, i64 q.uses]
structure PolR where
  name : List UInt8
  types : List TypR
  rules : List RulR
  quos : List QuoR
def tyAt (p : PolR) (t : Int) : TypR := p.types.getD t.toNat ⟨[], 0, 0⟩
def hasTy (p : PolR) (t : Int) : Bool := decide (0 ≤ t ∧ t < p.types.length)
def hasP (p : PolR) (t f : Int) : Bool := hasTy p t && subU f (tyAt p t).flags
end Go.Abs
end
