/- Lemmas: an abstract interpreter, and what the functions compute. -/
import Derived.Test.YtkccmbjmlpnejaaDoorC
import Derived.Deep.DeepHandedRow
import Derived.Lib.LaidTab
import Derived.ChangeBears
import Derived.Carry
import Derived.OpenShut
import Derived.ChangeSame
import Derived.Test.YtkccmbjmlpnejaaDoorD
set_option linter.unusedSimpArgs false
set_option linter.unusedVariables false
set_option linter.unusedSectionVars false
section
namespace Go.Abs

inductive GT where
 | bool
 | int (k : IntKind)
 | str
 | sl (e : GT)
 | arr (n : Nat) (e : GT)
 | st (fs : List GT)

mutual
def GT.has : GT → List z2a → Prop
 | .bool, cs => ∃ b, cs = [.lit (.bool b)]
 | .int k, cs => ∃ n, cs = [.lit (.int k n)] ∧ k.min ≤ n ∧ n ≤ k.max
 | .str, cs => ∃ s : ByteArray, cs = [.lit (.string s)] ∧ s.size ≤ maxLen
 | .sl e, cs => ∃ ess : List (List z2a), (∀ c ∈ ess, e.has c) ∧ cs = [.sl .plain none ess.length ess.flatten] ∧ ess.length ≤ maxLen
 | .arr n e, cs => ∃ ess : List (List z2a), ess.length = n ∧ (∀ c ∈ ess, e.has c) ∧ cs = ess.flatten
 | .st fs, cs => GT.hasL fs cs
def GT.hasL : List GT → List z2a → Prop
 | [], cs => cs = []
 | f :: fs, cs => ∃ a b, cs = a ++ b ∧ f.has a ∧ GT.hasL fs b
end

mutual
def GT.flat : GT → Bool
 | .sl _ => false
 | .arr _ e => e.flat
 | .st fs => GT.flatL fs
 | _ => true
def GT.flatL : List GT → Bool
 | [] => true
 | f :: fs => f.flat && GT.flatL fs
end

mutual
def GT.fits (P : Program) : GT → TypeId → Bool
 | .bool, t => match P.underlying t with | some .bool => true | _ => false
 | .int k, t => match P.underlying t with | some (.int k') => k == k' | _ => false
 | .str, t => match P.underlying t with | some .string => true | _ => false
 | .sl e, t => match P.underlying t with | some (.slice t') => e.fits P t' && (P.cellsOf t' != 0) | _ => false
 | .arr n e, t => match P.underlying t with | some (.array n' t') => n == n' && e.fits P t' | _ => false
 | .st fs, t => match P.underlying t with | some (.struct F) => GT.fitsL P fs (F.toList.map (·.type)) | _ => false
def GT.fitsL (P : Program) : List GT → List TypeId → Bool
 | [], [] => true
 | f :: fs, t :: ts => f.fits P t && GT.fitsL P fs ts
 | _, _ => false
end

mutual
def wt : z2a → Nat
 | .lit (.string s) => s.size + 1
 | .sl _ _ _ cs => wtL cs + 1
 | .agg cs => wtL cs
 | _ => 1
def wtL : List z2a → Nat
 | [] => 0
 | c :: cs => wt c + wtL cs
end
theorem z3Ea (a b : List z2a) : wtL (a ++ b) = wtL a + wtL b := by
 induction a with
 | nil => simp [wtL]
 | cons x a ih => simp only [List.cons_append, wtL, ih]; omega

structure z6ic {H : Type} (B : DataW H → Nat) : Prop where
 lit : ∀ l, 1 ≤ B (.lit l)
 str : ∀ l, l.length + 1 ≤ B (.lit (.string l))
 nil : 1 ≤ B .nil
 slice : ∀ es sp, (es.map B).sum + 1 ≤ B (.slice es sp)
 agg : ∀ ps, (ps.map B).sum ≤ B (.agg ps)

section
variable {H : Type} {enc : TypeId × Value → H} {K : Cx} {S : Nat → Nat} {W : World} {B : DataW H → Nat}

theorem z7c.app {K : Con} {S : Nat → Nat} {w : World} : ∀ {ds ds' : List z2a} {vs vs' : List Value}, z7c K S w ds vs → z7c K S w ds' vs' → z7c K S w (ds ++ ds') (vs ++ vs')
 | [], _, vs, _, h, h' => by simp only [z7c] at h; subst h; simpa using h'
 | c :: cs, _, vs, _, h, h' => by
  simp only [z7c] at h
  obtain ⟨x, xs, rfl, h1, h2⟩ := h
  simp only [List.cons_append, z7c]
  exact ⟨x, xs ++ _, rfl, h1, z7c.app h2 h'⟩

noncomputable def z6na (w : World) : Nat → Nat := fun b => match w.heap[b]? with | some (.cells c _ _) => c.size | _ => 0
theorem z8rb {w : World} {b o : Nat} {x : Value} (h : w.cell? ⟨b, o, none⟩ = some x) : o < z6na w b := by
 unfold World.cell? at h
 unfold z6na
 cases hb : w.heap[b]? with
 | none => simp [hb] at h
 | some q =>
  cases q with
  | cells c e fr =>
   simp [hb] at h
   exact (Array.getElem?_eq_some_iff.1 h).1
  | _ => simp [hb] at h

theorem z4eb {b off sz : Nat} {cs : List (List Value)} {as : List (List z2a)} (hl : as.length = cs.length) (hsz : ∀ (i : Nat) c, cs[i]? = some c → c.length = sz)
  (hc : ∀ (i : Nat) c, cs[i]? = some c → ∀ j, j < sz → W.cell? ⟨b, off + i * sz + j, none⟩ = c[j]?) (hr : ∀ (i : Nat) a c, as[i]? = some a → cs[i]? = some c → z7c K.toCon (z6na W) W a c) :
  z7d K.toCon (z6na W) W as.flatten b off := by
 induction as generalizing cs off with
 | nil => simp [z7d]
 | cons a as ih =>
  cases cs with
  | nil => simp at hl
  | cons c cs =>
   have h0 := hr 0 a c rfl rfl
   have hlen := h0.len
   have hcs := hsz 0 c rfl
   have hrest := ih (off := off + sz) (cs := cs) (by simpa using hl) (fun i c hi => hsz (i + 1) c (by simpa using hi)) (fun i c hi j hj => by
    have := hc (i + 1) c (by simpa using hi) j hj
    rw [Nat.add_mul, Nat.one_mul] at this
    rw [← this]
    congr 2
    omega) (fun i a c hi hi' => hr (i + 1) a c (by simpa using hi) (by simpa using hi'))
   rw [List.flatten_cons]
   refine z7d.mk fun i d hd => ?_
   rcases Nat.lt_or_ge i a.length with h | h
   ·rw [List.getElem?_append_left h] at hd
    obtain ⟨v, hv, hp⟩ := h0.get i d hd
    have hcell := hc 0 c rfl i (by omega)
    rw [Nat.zero_mul, Nat.add_zero, hv] at hcell
    exact ⟨z8rb hcell, v, hcell, hp⟩
   ·rw [List.getElem?_append_right h] at hd
    have := hrest.get _ d hd
    rw [show off + sz + (i - a.length) = off + i by omega] at this
    exact this

theorem z09 {α β : Type} {R : α → β → Prop} : ∀ (l : List α), (∀ x ∈ l, ∃ y, R x y) → ∃ r : List β, r.length = l.length ∧ ∀ (i : Nat) x y, l[i]? = some x → r[i]? = some y → R x y
 | [], _ => ⟨[], rfl, fun i x y h => by simp at h⟩
 | x :: l, h => by
  obtain ⟨y, hy⟩ := h x (by simp)
  obtain ⟨r, h1, h2⟩ := z09 l fun z hz => h z (by simp [hz])
  refine ⟨y :: r, by simp [h1], fun i a b ha hb => ?_⟩
  cases i with
  | zero => simp at ha hb; subst ha; subst hb; exact hy
  | succ i => exact h2 i a b (by simpa using ha) (by simpa using hb)

theorem z9mb {α β : Type} {f : α → Nat} {g : β → Nat} : ∀ {l : List α} {r : List β}, l.length = r.length → (∀ (i : Nat) a b, l[i]? = some a → r[i]? = some b → f a ≤ g b) → (l.map f).sum ≤ (r.map g).sum
 | [], [], _, _ => by simp
 | [], _ :: _, h, _ => by simp at h
 | _ :: _, [], h, _ => by simp at h
 | x :: l, y :: r, h, hi => by
  have h1 := hi 0 x y rfl rfl
  have h2 := z9mb (l := l) (r := r) (by simpa using h) fun i a b ha hb => hi (i + 1) a b (by simpa using ha) (by simpa using hb)
  simp only [List.map_cons, List.sum_cons]
  omega
theorem z1Ca (l : List (List z2a)) : wtL l.flatten = (l.map wtL).sum := by
 induction l with
 | nil => simp [wtL]
 | cons x l ih => simp [z3Ea, ih]

theorem z5tb {sp : Nat → Bool} {fuel : Nat} {e : GT} {t : TypeId} (sz : Nat)
  (one : ∀ (cs : List Value) d p, DataW.trod enc K.P W 0 sp true fuel t cs = some (d, p) → ∃ as, e.has as ∧ z7c K.toCon (z6na W) W as cs ∧ wtL as ≤ B d)
  {css : List (List Value)} {xs : List (DataW H × List MemPlace)} (hlen : xs.length = css.length) (hx : ∀ (i : Nat) c, css[i]? = some c → DataW.trod enc K.P W 0 sp true fuel t c = xs[i]?) :
  ∃ ess : List (List z2a), ess.length = css.length ∧ (∀ c ∈ ess, e.has c) ∧ (∀ (i : Nat) a c, ess[i]? = some a → css[i]? = some c → z7c K.toCon (z6na W) W a c) ∧ wtL ess.flatten ≤ ((xs.map (·.1)).map B).sum := by
 obtain ⟨ess, h1, h2⟩ := z09 (R := fun (i : Nat) (as : List z2a) => ∃ c x, css[i]? = some c ∧ xs[i]? = some x ∧ e.has as ∧ z7c K.toCon (z6na W) W as c ∧ wtL as ≤ B x.1) (List.range css.length) fun i hi => by
  have hi : i < css.length := by simpa using hi
  have hc : css[i]? = some css[i] := List.getElem?_eq_getElem hi
  have hxi : xs[i]? = some xs[i] := List.getElem?_eq_getElem (by omega)
  have := hx i _ hc
  rw [hxi] at this
  obtain ⟨as, k1, k2, k3⟩ := one _ xs[i].1 xs[i].2 this
  exact ⟨as, _, _, hc, hxi, k1, k2, k3⟩
 have hl1 : ess.length = css.length := by simpa using h1
 have g : ∀ (i : Nat) a, ess[i]? = some a → ∃ c x, css[i]? = some c ∧ xs[i]? = some x ∧ e.has a ∧ z7c K.toCon (z6na W) W a c ∧ wtL a ≤ B x.1 := fun i a ha => by
  have hi : i < ess.length := (List.getElem?_eq_some_iff.1 ha).1
  exact h2 i i a (List.getElem?_range (by omega)) ha
 refine ⟨ess, hl1, fun a ha => ?_, fun i a c ha hc => ?_, ?_⟩
 ·obtain ⟨i, hi, rfl⟩ := List.getElem_of_mem ha
  obtain ⟨_, _, _, _, k, _⟩ := g i _ (List.getElem?_eq_getElem hi)
  exact k
 ·obtain ⟨c', _, k1, _, _, k2, _⟩ := g i a ha
  rw [hc] at k1
  cases k1
  exact k2
 ·rw [z1Ca, List.map_map]
  refine z9mb (by omega) fun i a x ha hxi => ?_
  obtain ⟨_, x', _, k1, _, _, k2⟩ := g i a ha
  rw [hxi] at k1
  cases k1
  exact k2

mutual
theorem read (hB : z6ic B) (hl : laidOutB K.P = true) {sp : Nat → Bool} : ∀ (gt : GT) (fuel : Nat) (t : TypeId) (cs : List Value) (d : DataW H) (p : List MemPlace), DataW.trod enc K.P W 0 sp true fuel t cs = some (d, p) → gt.fits K.P t = true → t < K.P.types.size →
  (∀ b, sp b = true) → ∃ as, gt.has as ∧ z7c K.toCon (z6na W) W as cs ∧ wtL as ≤ B d
 | gt, 0, t, cs, d, p, h, _, _, _ => by simp [DataW.trod] at h
 | .bool, fuel + 1, t, cs, d, p, h, hf, ht, hs => by
  simp only [GT.fits] at hf
  split at hf
  ·rename_i hu
   simp only [DataW.trod, hu] at h
   split at h <;> simp_all
   obtain ⟨rfl, rfl⟩ := h
   rename_i b
   exact ⟨[.lit (.bool b)], ⟨b, rfl⟩, by simp [z7c, z8c], by have := hB.lit (.bool b); simpa [wtL, wt] using this⟩
  ·cases hf
 | .int k, fuel + 1, t, cs, d, p, h, hf, ht, hs => by
  simp only [GT.fits] at hf
  split at hf
  ·rename_i k' hu
   simp only [beq_iff_eq] at hf
   subst hf
   obtain ⟨n, rfl, hx, hw⟩ := DataW.trod_int hu h
   cases hx
   simp only [Lit.wf, Bool.and_eq_true, decide_eq_true_eq] at hw
   exact ⟨_, ⟨n, rfl, hw.1, hw.2⟩, by simp [z7c, z8c], by have := hB.lit (.int k n); simpa [wtL, wt] using this⟩
  ·cases hf
 | .str, fuel + 1, t, cs, d, p, h, hf, ht, hs => by
  simp only [GT.fits] at hf
  split at hf
  ·rename_i hu
   obtain ⟨s, rfl, hx, hw⟩ := DataW.trod_string hu h
   cases hx
   refine ⟨[.lit (.string s)], ⟨s, rfl, hw⟩, by simp only [z7c, z8c]; exact ⟨_, _, rfl, rfl, rfl⟩, ?_⟩
   have := hB.str s.data.toList
   have e : s.data.toList.length = s.size := Array.length_toList
   simp only [wtL, wt]
   omega
  ·cases hf
 | .sl e, fuel + 1, t, cs, d, p, h, hf, ht, hs => by
  simp only [GT.fits] at hf
  split at hf
  ·rename_i t' hu
   simp only [Bool.and_eq_true, bne_iff_ne, ne_eq] at hf
   obtain ⟨hf, hz⟩ := hf
   have ht' := kid_slice hl ht hu
   simp only [DataW.trod, hu] at h
   have nilc : cs = [.slice none 0 0] → d = .nil → ∃ as, (GT.sl e).has as ∧ z7c K.toCon (z6na W) W as cs ∧ wtL as ≤ B d := by
    rintro rfl rfl
    refine ⟨[.sl .plain none 0 []], ⟨[], by simp, rfl, Nat.zero_le _⟩, by simp only [z7c, z8c]; exact ⟨_, _, rfl, .inr ⟨none, by simp⟩, rfl⟩, ?_⟩
    have := hB.nil
    simpa [wtL, wt] using this
   split at h
   all_goals (try (simp only [reduceCtorEq, Option.some.injEq, TypeDesc.slice.injEq, Prod.mk.injEq] at h))
   all_goals (try (rename_i hh; simp only [reduceCtorEq, Option.some.injEq, TypeDesc.slice.injEq] at hh))
   ·exact nilc rfl h.1.symm
   ·subst hh
    rename_i a len cap
    split at h
    ·rename_i hb
     obtain ⟨hb0, hlc, hcap⟩ := hb
     simp only [Option.bind_eq_some_iff, Option.map_eq_some_iff] at h
     obtain ⟨elems, hel, rest, hrest, hd⟩ := h
     cases hd
     have hlen := mapM_some_length hel
     cases hsp : a.spot with
     | some s0 =>
      rw [if_pos (hs _)] at hrest
      have bad : ∀ x, ((W.cells? 0 (a.add (0 * K.P.cellsOf t')) (K.P.cellsOf t')).bind (DataW.trod enc K.P W 0 sp true fuel t')) = some x → False := fun x hx => by
       obtain ⟨c, h2, _⟩ := Option.bind_eq_some_iff.1 hx
       obtain ⟨_, h3, h4⟩ := World.cells?_some h2
       have := h4 0 (by omega)
       have h5 : W.cell? ((a.add (0 * K.P.cellsOf t')).add 0) = none := by
        unfold World.cell?
        split
        ·rw [if_pos (by simp [Addr.add, hsp, Nat.zero_mul])]
        ·rfl
       rw [h5] at this
       have h6 := List.getElem?_eq_none_iff.1 this.symm
       omega
      have hc0 : cap = 0 := by
       rcases Nat.eq_zero_or_pos cap with h0 | h0
       ·exact h0
       ·exfalso
        rcases Nat.eq_zero_or_pos len with hl0 | hl0
        ·have h1 := mapM_some_get hrest 0 0 (List.getElem?_range (by omega))
         cases hr : rest[0]? with
         | none =>
          have := mapM_some_length hrest
          have h7 := List.getElem?_eq_none_iff.1 hr
          simp at this
          omega
         | some x => rw [hr] at h1; exact bad x (by simpa [hl0] using h1)
        ·have h1 := mapM_some_get hel 0 0 (List.getElem?_range (by omega))
         cases hr : elems[0]? with
         | none =>
          have h7 := List.getElem?_eq_none_iff.1 hr
          simp at hlen
          omega
         | some x => rw [hr] at h1; exact bad x h1
      have hl0 : len = 0 := by omega
      subst hc0 hl0
      refine ⟨[.sl .plain none 0 []], ⟨[], by simp, rfl, Nat.zero_le _⟩, by simp only [z7c, z8c]; exact ⟨_, _, rfl, .inr ⟨some a, by simp⟩, rfl⟩, ?_⟩
      have := hB.slice (elems.map (·.1)) (rest.map (·.1))
      simp only [wtL, wt]
      omega
     | none =>
     obtain ⟨b, off, spot⟩ := a
     simp only at hsp
     subst hsp
     have hget : ∀ i, i < len → ∃ c, W.cells? 0 ((⟨b, off, none⟩ : Addr).add (i * K.P.cellsOf t')) (K.P.cellsOf t') = some c ∧ DataW.trod enc K.P W 0 sp true fuel t' c = elems[i]? := fun i hi => by
      have h1 := mapM_some_get hel i i (by simp [hi])
      have hi' : i < elems.length := by rw [hlen]; simpa using hi
      rw [List.getElem?_eq_getElem hi'] at h1
      obtain ⟨c, h2, h3⟩ := Option.bind_eq_some_iff.1 h1
      exact ⟨c, h2, by rw [h3, List.getElem?_eq_getElem hi']⟩
     obtain ⟨css, hcl, hcs⟩ := z09 (R := fun (i : Nat) (c : List Value) => W.cells? 0 ((⟨b, off, none⟩ : Addr).add (i * K.P.cellsOf t')) (K.P.cellsOf t') = some c ∧ DataW.trod enc K.P W 0 sp true fuel t' c = elems[i]?) (List.range len) (fun i hi => hget i (by simpa using hi))
     simp only [List.length_range] at hcl hlen
     have hcs' : ∀ (i : Nat) c, css[i]? = some c → W.cells? 0 ((⟨b, off, none⟩ : Addr).add (i * K.P.cellsOf t')) (K.P.cellsOf t') = some c ∧ DataW.trod enc K.P W 0 sp true fuel t' c = elems[i]? := fun i c hc => by
      have hi : i < css.length := (List.getElem?_eq_some_iff.1 hc).1
      exact hcs i i c (List.getElem?_range (by omega)) hc
     obtain ⟨ess, k1, k2, k3, k4⟩ := z5tb (K.P.cellsOf t') (fun c d p hh => read hB hl e fuel t' c d p hh hf ht' hs) (css := css) (xs := elems) (by omega) (fun i c hc => (hcs' i c hc).2)
     refine ⟨_, ⟨ess, k2, rfl, by omega⟩, ?_, ?_⟩
     ·simp only [z7c, z8c]
      refine ⟨_, _, rfl, .inl ⟨b, off, cap, by rw [k1, hcl], by omega, ?_, by simp, by simp⟩, rfl⟩
      refine z4eb (cs := css) (sz := K.P.cellsOf t') k1 (fun i c hc => (World.cells?_some (hcs' i c hc).1).2.1) (fun i c hc j hj => ?_) k3
      have := (World.cells?_some (hcs' i c hc).1).2.2 j hj
      rw [← this, Addr.add_mid, Addr.add_mid]
     ·have := hB.slice (elems.map (·.1)) (rest.map (·.1))
      simp only [wtL, wt]
      omega
    ·cases h
   all_goals simp_all
  ·cases hf
 | .arr n e, fuel + 1, t, cs, d, p, h, hf, ht, hs => by
  simp only [GT.fits] at hf
  split at hf
  ·rename_i n' t' hu
   simp only [Bool.and_eq_true, beq_iff_eq] at hf
   obtain ⟨rfl, hf⟩ := hf
   obtain ⟨ht', hct⟩ := kid_array hl ht hu
   simp only [DataW.trod, hu] at h
   split at h
   ·rename_i hlen
    simp only [Option.map_eq_some_iff] at h
    obtain ⟨xs, hm, hd⟩ := h
    cases hd
    have hxl := mapM_some_length hm
    simp only [List.length_range] at hxl
    let css := (List.range n).map fun i => (cs.drop (i * K.P.cellsOf t')).take (K.P.cellsOf t')
    have hcss : ∀ (i : Nat) c, css[i]? = some c → i < n ∧ c = (cs.drop (i * K.P.cellsOf t')).take (K.P.cellsOf t') := fun i c hc => by
     simp only [css, List.getElem?_map, Option.map_eq_some_iff] at hc
     obtain ⟨j, hj, rfl⟩ := hc
     obtain ⟨h1, h2⟩ := List.getElem?_eq_some_iff.1 hj
     simp only [List.length_range] at h1
     simp only [List.getElem_range] at h2
     subst h2
     exact ⟨h1, rfl⟩
    obtain ⟨ess, h1, h2⟩ := z09 (R := fun (i : Nat) (as : List z2a) => ∃ c x, css[i]? = some c ∧ xs[i]? = some x ∧ e.has as ∧ z7c K.toCon (z6na W) W as c ∧ wtL as ≤ B x.1) (List.range n) fun i hi => by
     have hi : i < n := by simpa using hi
     have hc : css[i]? = some ((cs.drop (i * K.P.cellsOf t')).take (K.P.cellsOf t')) := by simp [css, hi]
     have hxi : xs[i]? = some xs[i] := List.getElem?_eq_getElem (by omega)
     have := mapM_some_get hm i i (by simp [hi])
     rw [hxi] at this
     obtain ⟨as, k1, k2, k3⟩ := read hB hl e fuel t' _ xs[i].1 xs[i].2 this hf ht' hs
     exact ⟨as, _, _, hc, hxi, k1, k2, k3⟩
    have hl1 : ess.length = n := by simpa using h1
    have g : ∀ (i : Nat) a, ess[i]? = some a → ∃ c x, css[i]? = some c ∧ xs[i]? = some x ∧ e.has a ∧ z7c K.toCon (z6na W) W a c ∧ wtL a ≤ B x.1 := fun i a ha => by
     have hi : i < ess.length := (List.getElem?_eq_some_iff.1 ha).1
     exact h2 i i a (List.getElem?_range (by omega)) ha
    refine ⟨_, ⟨ess, hl1, fun a ha => ?_, rfl⟩, ?_, ?_⟩
    ·obtain ⟨i, hi, rfl⟩ := List.getElem_of_mem ha
     obtain ⟨_, _, _, _, k, _⟩ := g i _ (List.getElem?_eq_getElem hi)
     exact k
    ·have flat : ∀ (k : Nat) (l : List (List z2a)), (∀ (i : Nat) a, l[i]? = some a → z7c K.toCon (z6na W) W a ((cs.drop ((k + i) * K.P.cellsOf t')).take (K.P.cellsOf t'))) → k + l.length = n → z7c K.toCon (z6na W) W l.flatten (cs.drop (k * K.P.cellsOf t')) := by
      intro k l
      induction l generalizing k with
      | nil =>
       intro _ hk
       simp only [List.length_nil, Nat.add_zero] at hk
       rw [hk, List.drop_of_length_le (by omega)]
       simp [z7c]
      | cons a l ih =>
       intro hi hk
       have h0 := hi 0 a rfl
       have hr := ih (k + 1) (fun i a ha => by
        have := hi (i + 1) a (by simpa using ha)
        rwa [show k + (i + 1) = k + 1 + i by omega] at this) (by simp at hk; omega)
       rw [Nat.add_zero] at h0
       have e1 : cs.drop (k * K.P.cellsOf t') = (cs.drop (k * K.P.cellsOf t')).take (K.P.cellsOf t') ++ cs.drop ((k + 1) * K.P.cellsOf t') := by
        rw [Nat.add_mul, Nat.one_mul, ← List.drop_drop, List.take_append_drop]
       rw [e1, List.flatten_cons]
       exact z7c.app h0 hr
     have := flat 0 ess (fun i a ha => by
      obtain ⟨c, _, k1, _, _, k2, _⟩ := g i a ha
      rw [Nat.zero_add]
      rwa [(hcss i c k1).2] at k2) (by omega)
     simpa using this
    ·rw [z1Ca]
     refine Nat.le_trans ?_ (hB.agg (xs.map (·.1)))
     rw [List.map_map]
     refine z9mb (by omega) fun i a x ha hxi => ?_
     obtain ⟨_, x', _, k1, _, _, k2⟩ := g i a ha
     rw [hxi] at k1
     cases k1
     exact k2
   ·cases h
  ·cases hf
 | .st fs, fuel + 1, t, cs, d, p, h, hf, ht, hs => by
  simp only [GT.fits] at hf
  split at hf
  ·rename_i F hu
   obtain ⟨h1, h2, h3⟩ := kid_struct hl ht hu
   simp only [DataW.trod, hu] at h
   split at h
   ·rename_i hlen
    simp only [Option.map_eq_some_iff] at h
    obtain ⟨xs, hm, hd⟩ := h
    cases hd
    obtain ⟨as, k1, k2, k3⟩ := z9Ec hB hl fs F.toList 0 fuel cs xs hm hf h1 (fun j f hj => by rw [h3 j f hj, Nat.zero_add]) hs (by rw [Nat.zero_add, ← h2, hlen]; exact Nat.le_refl _)
    refine ⟨as, k1, ?_, Nat.le_trans k3 (hB.agg _)⟩
    rw [List.drop_zero, List.take_of_length_le (by omega)] at k2
    exact k2
   ·cases h
  ·cases hf
theorem z9Ec (hB : z6ic B) (hl : laidOutB K.P = true) {sp : Nat → Bool} : ∀ (gs : List GT) (F : List Field) (off : Nat) (fuel : Nat) (cs : List Value) (xs : List (DataW H × List MemPlace)),
  F.mapM (fun f => DataW.trod enc K.P W 0 sp true fuel f.type ((cs.drop f.offset).take (K.P.cellsOf f.type))) = some xs → GT.fitsL K.P gs (F.map (·.type)) = true → (∀ f ∈ F, f.type < K.P.types.size) →
  (∀ (j : Nat) f, F[j]? = some f → f.offset = off + ((F.take j).map fun f => K.P.cellsOf f.type).sum) → (∀ b, sp b = true) → off + (F.map fun f => K.P.cellsOf f.type).sum ≤ cs.length →
  ∃ as, GT.hasL gs as ∧ z7c K.toCon (z6na W) W as ((cs.drop off).take (F.map fun f => K.P.cellsOf f.type).sum) ∧ wtL as ≤ ((xs.map (·.1)).map B).sum
 | [], [], off, fuel, cs, xs, hm, hf, ht, ho, hs, hc => by
  simp at hm
  subst hm
  exact ⟨[], by simp [GT.hasL], by simp [z7c], by simp [wtL]⟩
 | [], _ :: _, off, fuel, cs, xs, hm, hf, ht, ho, hs, hc => by simp [GT.fitsL] at hf
 | _ :: _, [], off, fuel, cs, xs, hm, hf, ht, ho, hs, hc => by simp [GT.fitsL] at hf
 | g :: gs, f :: F, off, fuel, cs, xs, hm, hf, ht, ho, hs, hc => by
  simp only [List.map_cons, GT.fitsL, Bool.and_eq_true] at hf
  simp only [List.mapM_cons, Option.bind_eq_bind, Option.bind_eq_some_iff, Option.pure_def, Option.some.injEq] at hm
  obtain ⟨x, hx, xs', hm', rfl⟩ := hm
  have h0 := ho 0 f rfl
  simp only [List.take_zero, List.map_nil, List.sum_nil, Nat.add_zero] at h0
  simp only [List.map_cons, List.sum_cons] at hc
  obtain ⟨as, k1, k2, k3⟩ := read hB hl g fuel f.type _ x.1 x.2 hx hf.1 (ht f (by simp)) hs
  obtain ⟨bs, m1, m2, m3⟩ := z9Ec hB hl gs F (off + K.P.cellsOf f.type) fuel cs xs' hm' hf.2 (fun f' hf' => ht f' (by simp [hf'])) (fun j f' hj => by
   have := ho (j + 1) f' (by simpa using hj)
   simp only [List.take_succ_cons, List.map_cons, List.sum_cons] at this
   omega) hs (by omega)
  refine ⟨as ++ bs, ⟨as, bs, rfl, k1, m1⟩, ?_, ?_⟩
  ·rw [h0] at k2
   rw [List.map_cons, List.sum_cons, List.take_add, List.drop_drop]
   exact z7c.app k2 m2
  ·rw [z3Ea]
   simp only [List.map_cons, List.sum_cons]
   omega
end
end
end Go.Abs
end

section
namespace Go.Abs
open Go.RowKit Go.WideShapes Go.ChangeShapes

def GT.row : GT → Bool
 | .arr _ _ => true
 | .st _ => true
 | _ => false
def GT.top (g : GT) (cs : List z2a) : z2a := if g.row then .agg cs else cs.headD .undef
def z3ub : List GT → List z2a → Prop
 | [], as => as = []
 | g :: gs, as => ∃ cs r, as = g.top cs :: r ∧ g.has cs ∧ z3ub gs r

section
variable {H : Type} {enc : TypeId × Value → H} {K : Cx} {W : World} {B : DataW H → Nat}

theorem z5Kb (hB : z6ic B) (hl : laidOutB K.P = true) {sp : Nat → Bool} {base : Nat} {g : GT} {t : TypeId} {v : Value} {d : DataW H} {p : List MemPlace} (hok : Value.okWide K.P W .any base t v)
  (h : DataW.Trod enc K.P W 0 sp true t v d p) (hf : g.fits K.P t = true) (ht : t < K.P.types.size) (hs : ∀ b, sp b = true) : ∃ cs, g.has cs ∧ z8c K.toCon (z6na W) W (g.top cs) v ∧ wtL cs ≤ B d := by
 obtain ⟨fuel, h⟩ := h
 have row : g.row = true → (∃ a, v = .agg a) → ∃ cs, g.has cs ∧ z8c K.toCon (z6na W) W (g.top cs) v ∧ wtL cs ≤ B d := by
  rintro hr ⟨a, rfl⟩
  obtain ⟨cs, k1, k2, k3⟩ := read hB hl g fuel t _ d p h hf ht hs
  refine ⟨cs, k1, ?_, k3⟩
  rw [GT.top, if_pos hr]
  simp only [z8c]
  exact ⟨a, rfl, k2⟩
 have one : g.row = false → v.cells = #[v] → ∃ cs, g.has cs ∧ z8c K.toCon (z6na W) W (g.top cs) v ∧ wtL cs ≤ B d := by
  intro hr hc
  rw [hc] at h
  obtain ⟨cs, k1, k2, k3⟩ := read hB hl g fuel t _ d p h hf ht hs
  refine ⟨cs, k1, ?_, k3⟩
  rw [GT.top, if_neg (by simp [hr])]
  cases cs with
  | nil => simp [z7c] at k2
  | cons c r =>
   simp only [z7c] at k2
   obtain ⟨x, xs, e, k4, _⟩ := k2
   simp only [List.cons.injEq] at e
   rw [e.1]
   exact k4
 cases g with
 | bool =>
  simp only [GT.fits] at hf
  split at hf
  ·rename_i hu
   obtain ⟨b, rfl⟩ := okWide_bool hu hok
   exact one rfl rfl
  ·cases hf
 | int k =>
  simp only [GT.fits] at hf
  split at hf
  ·rename_i k' hu
   obtain ⟨b, rfl⟩ := okWide_int hu hok
   exact one rfl rfl
  ·cases hf
 | str =>
  simp only [GT.fits] at hf
  split at hf
  ·rename_i hu
   obtain ⟨b, rfl⟩ := okWide_string hu hok
   exact one rfl rfl
  ·cases hf
 | sl e =>
  simp only [GT.fits] at hf
  split at hf
  ·rename_i t' hu
   obtain ⟨a, n, c, rfl⟩ := okWide_slice hu hok
   exact one rfl rfl
  ·cases hf
 | arr n e =>
  simp only [GT.fits] at hf
  split at hf
  ·rename_i n' t' hu
   have hok' := hok
   simp only [Value.okWide, hu] at hok'
   obtain ⟨cs, rfl, _, h3⟩ := hok'
   exact row rfl ⟨cs, rfl⟩
  ·cases hf
 | st fs =>
  simp only [GT.fits] at hf
  split at hf
  ·rename_i F hu
   have hok' := hok
   simp only [Value.okWide, hu] at hok'
   obtain ⟨cs, rfl, _, h3⟩ := hok'
   exact row rfl ⟨cs, rfl⟩
  ·cases hf

theorem z3Sa (hB : z6ic B) (hl : laidOutB K.P = true) {sp : Nat → Bool} {base : Nat} : ∀ (gs : List GT) (ts : List TypeId) (vs : List Value) (ds : List (DataW H)) (p : List MemPlace),
  DataW.TrodAll enc K.P W 0 sp true ts vs ds p → (∀ (j : Nat) t v, ts[j]? = some t → vs[j]? = some v → Value.okWide K.P W .any base t v) → GT.fitsL K.P gs ts = true → (∀ t ∈ ts, t < K.P.types.size) → (∀ b, sp b = true) →
  ∃ as, z3ub gs as ∧ z7c K.toCon (z6na W) W as vs ∧ wtL as ≤ (ds.map B).sum
 | [], [], vs, ds, p, h, _, _, _, _ => by
  obtain ⟨rfl, rfl, rfl⟩ := trodAll_nil h
  exact ⟨[], by simp [z3ub], by simp [z7c], by simp [wtL]⟩
 | [], _ :: _, _, _, _, _, _, hf, _, _ => by simp [GT.fitsL] at hf
 | _ :: _, [], _, _, _, _, _, hf, _, _ => by simp [GT.fitsL] at hf
 | g :: gs, t :: ts, vs, ds, p, h, hok, hf, ht, hs => by
  obtain ⟨v, vs', d, ds', p', q, rfl, rfl, rfl, h0, hr⟩ := trodAll_cons h
  simp only [GT.fitsL, Bool.and_eq_true] at hf
  obtain ⟨cs, k1, k2, k3⟩ := z5Kb hB hl (hok 0 t v rfl rfl) h0 hf.1 (ht t (by simp)) hs
  obtain ⟨as, m1, m2, m3⟩ := z3Sa hB hl gs ts vs' ds' q hr (fun j t v h1 h2 => hok (j + 1) t v (by simpa using h1) (by simpa using h2)) hf.2 (fun t h => ht t (by simp [h])) hs
  refine ⟨g.top cs :: as, ⟨cs, as, rfl, k1, m1⟩, ?_, ?_⟩
  ·simp only [z7c]
   exact ⟨v, vs', rfl, k2, m2⟩
  ·have : wt (g.top cs) ≤ wtL cs := by
    unfold GT.top
    split
    ·simp [wt]
    ·cases cs with
     | nil =>
      have : z8c K.toCon (z6na W) W (g.top []) v := k2
      cases g <;> simp_all [GT.has, GT.row]
     | cons c r => simp [wtL]
   simp only [wtL, List.map_cons, List.sum_cons]
   omega
end

theorem z1Ja {H : Type} {enc : TypeId × Value → H} {P : Program} {f : Func} {s : ChangeSpec} {apart fresh handsOn again : Bool} {W W' : World} {args : Array Value} {v : Value} {ds gs : List (DataW H)} {before pa pv : List MemPlace}
  (hW : DataW.Whole enc P f.params.toList s.vars apart W args.toList ds gs before)
  (hres : ∀ (b : Nat) (sp : Nat → Bool) (hd : Bool), DataW.TrodAll enc P W' b sp hd f.resultTypes.toList (v.resultList f.resultTypes.size) (s.fn H (ds ++ gs)).results [])
  (hargs : ∀ sp : Nat → Bool, (∀ p ∈ before, sp p.block = true) → DataW.TrodAll enc P W' 0 sp true f.params.toList args.toList (s.fn H (ds ++ gs)).args pa)
  (hvars : ∀ sp : Nat → Bool, (∀ p ∈ before, sp p.block = true) → DataW.TrodVars enc P W' sp s.vars (s.fn H (ds ++ gs)).vars pv)
  (hps : before = pa ++ pv) (hb : Below W.heap.size W W')
  (hok : ∀ (j : Nat) (t : TypeId) (r : Value), f.resultTypes[j]? = some t → (v.resultList f.resultTypes.size)[j]? = some r → Value.okWide P W' .any 0 t r) :
  s.post enc P f apart fresh handsOn again W args v W' := by
 have hlt : ∀ p ∈ before, p.block < W.heap.size := fun p hp => hW.lt p hp
 have hold : ∀ p ∈ before, (fun b => decide (b < W.heap.size)) p.block = true := fun p hp => by simpa using hlt p hp
 refine ⟨ds, gs, before, [], pa, pv, hW, hres _ _ _, hargs _ hold, hvars _ hold, World.keptBut_mono (fun p hp => ⟨hp, ?_⟩) (hb.frame (· ∈ before)), fun _ => ?_⟩
 ·rw [hps, List.mem_append] at hp
  exact Or.inr hp
 ·obtain ⟨_, _, _, _, _, hz, hn⟩ := hW
  refine ⟨hok, _, _, ([] ++ pa) ++ pv, ⟨[] ++ pa, pv, trodAll_append (hargs _ (fun _ _ => rfl)) (hres _ _ _), hvars _ (fun _ _ => rfl), rfl, ?_, ?_⟩, ?_⟩
  ·intro b off hp
   have hin : MemPlace.cell b off ∈ before := by rw [hps]; simpa using hp
   rw [hb.frozen (hlt _ hin)]
   exact hz b off hin
  ·intro ha
   have := hn ha
   rw [hps] at this
   simpa using this
  ·intro p hp _
   rw [hps]
   simpa using hp

section
variable {H : Type} {enc : TypeId × Value → H} {K : Cx} {B : DataW H → Nat}

theorem z1Sa (hl : laidOutB K.P = true) {W W' : World} (hb : Below W.heap.size W W') {sp : Nat → Bool} : ∀ (ts : List TypeId) (vs : List Value) (ds : List (DataW H)) (p : List MemPlace),
  (∀ t ∈ ts, K.P.readableRec t = true ∧ t < K.P.types.size) → DataW.TrodAll enc K.P W 0 (fun _ => true) true ts vs ds p → (∀ x ∈ p, x.block < W.heap.size ∧ sp x.block = true) → DataW.TrodAll enc K.P W' 0 sp true ts vs ds p
 | [], vs, ds, p, _, h, _ => by
  obtain ⟨rfl, rfl, rfl⟩ := trodAll_nil h
  exact trodAll_mk0
 | t :: ts, vs, ds, p, ht, h, hp => by
  obtain ⟨v, vs', d, ds', p', q, rfl, rfl, rfl, h0, hr⟩ := trodAll_cons h
  obtain ⟨h1, h2⟩ := ht t (by simp)
  refine trodAll_cons_mk (WideElems.Trod_stays hl h1 h2 h0 (fun x hx => hb.same (hp x (by simp [hx])).1) (fun x hx => (hp x (by simp [hx])).2)) (z1Sa hl hb ts vs' ds' q (fun t h => ht t (by simp [h])) hr (fun x hx => hp x (by simp [hx])))

theorem z4Ja {f : Nat} {fn : Func} {s : ChangeSpec} {c : z4a} {gts : List GT} {tb : TypeId} {W : World} {base : Nat} {args : Array Value} {ds gs : List (DataW H)} {before : List MemPlace}
  (hv : z2f K f c) (hl : laidOutB K.P = true) (hB : z6ic B)
  (hts : (fn.params.toList.all fun t => K.P.readableRec t && decide (t < K.P.types.size)) = true) (hfit : GT.fitsL K.P gts fn.params.toList = true) (hres : fn.resultTypes = #[tb]) (htb : K.P.underlying tb = some .bool)
  (hvars : s.vars = []) (hspec : ∀ ds : List (DataW H), ds.length = fn.params.size → s.fn H ds = { results := [.lit (.bool true)], args := ds })
  (hgl : ∀ n ∈ K.N.gs, z7d K.toCon (z6na W) W (K.E.T n) (K.N.gnum n) 0)
  (hpre : ∀ as, z3ub gts as → wtL as ≤ (ds.map B).sum → c.pre as) (hpost : ∀ as, c.pre as → c.post as = .lit (.bool true))
  (hval : ∀ (j : Nat) t v, fn.params[j]? = some t → args[j]? = some v → Value.okWide K.P W .any base t v)
  (hW : DataW.Whole enc K.P fn.params.toList s.vars false W args.toList ds gs before) :
  Calls K.P (K.nu f) args W fun e W' => ∃ v, e = .returned v ∧ s.post enc K.P fn false true false false W args v W' := by
 have hW' := hW
 obtain ⟨p, q, hA, hV, rfl, hfz, hnd⟩ := hW
 rw [hvars] at hV
 have hgq : gs = [] ∧ q = [] := by
  cases gs with
  | nil => simp only [DataW.TrodVars] at hV; exact ⟨rfl, hV⟩
  | cons _ _ => simp only [DataW.TrodVars] at hV
 obtain ⟨rfl, rfl⟩ := hgq
 have hts' : ∀ t ∈ fn.params.toList, K.P.readableRec t = true ∧ t < K.P.types.size := fun t ht => by
  have := List.all_eq_true.1 hts t ht
  simpa [Bool.and_eq_true] using this
 obtain ⟨as, k1, k2, k3⟩ := z3Sa hB hl (base := base) gts fn.params.toList args.toList ds p hA (fun j t v h1 h2 => hval j t v (by simpa using h1) (by simpa using h2)) hfit (fun t ht => (hts' t ht).2) (fun _ => rfl)
 have hp := hpre as k1 k3
 have hc := hv.2 (z6na W) W as args.toList hgl k2 hp
 rw [Array.toArray_toList] at hc
 refine hc.mono fun e W' ⟨v, g', he, hfr, hrep, _, _⟩ => ⟨v, he, ?_⟩
 rw [hpost as hp] at hrep
 simp only [Rep] at hrep
 subst hrep
 have hb : Below W.heap.size W W' := ⟨hfr.os, hfr.tape, hfr.output, hfr.size, fun k hk => hfr.block k hk (fun h => h)⟩
 have hdl : ∀ (ts : List TypeId) (vs : List Value) (ds : List (DataW H)) (p : List MemPlace), DataW.TrodAll enc K.P W 0 (fun _ => true) true ts vs ds p → ds.length = ts.length := by
  intro ts
  induction ts with
  | nil =>
   intro vs ds p h
   obtain ⟨_, rfl, _⟩ := trodAll_nil h
   rfl
  | cons t ts ih =>
   intro vs ds p h
   obtain ⟨v, vs', d, ds', p', q, rfl, rfl, rfl, h0, hr⟩ := trodAll_cons h
   simp [ih _ _ _ hr]
 have hlen : (ds ++ []).length = fn.params.size := by
  rw [List.append_nil, hdl _ _ _ _ hA]
  simp
 have hsp := hspec (ds ++ []) hlen
 refine z1Ja hW' (pa := p) (pv := []) (fun b sp hd => ?_) (fun sp hs => ?_) (fun sp hs => ?_) rfl hb ?_
 ·rw [hsp, hres]
  exact trodAll_mk1 (shut_bool htb true)
 ·rw [hsp, List.append_nil]
  exact z1Sa hl hb _ _ _ _ hts' hA (fun x hx => ⟨hW'.lt x (by simpa using hx), hs x (by simpa using hx)⟩)
 ·rw [hsp, hvars]
  simp [DataW.TrodVars]
 ·rw [hres]
  intro j t r h1 h2
  have := ok_one (f := fn) (v := .bool true) hres rfl (okWide_bool_mk (P := K.P) (W' := W') htb true)
  exact this j t r (by rw [hres]; exact h1) (by rw [hres]; exact h2)
end
end Go.Abs
end

section
namespace Go.Abs
def z3V (n : Nat) : List UInt8 := if h : n = 0 then [] else UInt8.ofNat n :: z3V (n / 256)
termination_by n
decreasing_by omega
theorem z5p : z3V 0 = [] := by rw [z3V]; simp
theorem z7x {n : Nat} (h : n ≠ 0) : z3V n = UInt8.ofNat n :: z3V (n / 256) := by rw [z3V]; simp [h]
def mag (n : Int) : Nat := (if n < 0 then -1 - n else n).toNat
def flp (n : Int) (c : UInt8) : UInt8 := if n < 0 then 255 - c else c
def z7m (n : Int) : List UInt8 :=
 flp n (UInt8.ofNat (128 + (z3V (mag n)).length)) :: (z3V (mag n)).reverse.map (flp n)
theorem z3ta : ∀ (i n : Nat) (h : i < (z3V n).length), (z3V n)[i] = UInt8.ofNat (n / 256 ^ i)
 | 0, n, h => by
  by_cases hn : n = 0
  ·subst hn; simp [z5p] at h
  ·simp [z7x hn]
 | i + 1, n, h => by
  by_cases hn : n = 0
  ·subst hn; simp [z5p] at h
  ·simp only [z7x hn, List.length_cons, Nat.add_lt_add_iff_right] at h ⊢
   rw [List.getElem_cons_succ, z3ta i (n / 256) h, Nat.div_div_eq_div_mul, Nat.pow_succ, Nat.mul_comm]
theorem z5ha : ∀ (k n : Nat), (z3V n).length ≤ k ↔ n < 256 ^ k
 | 0, n => by
  by_cases hn : n = 0
  ·subst hn; simp [z5p]
  ·simp [z7x hn]; omega
 | k + 1, n => by
  by_cases hn : n = 0
  ·subst hn; simp [z5p, Nat.pow_pos]
  ·rw [z7x hn, List.length_cons, Nat.add_le_add_iff_right, z5ha k, Nat.div_lt_iff_lt_mul (by decide), Nat.pow_succ]
end Go.Abs
namespace Go.Abs
theorem z3ya {x : UInt64} {N m : Nat} (hx : x.toNat = N) : (0 < z2Da x m) ↔ 2 ^ m ≤ N := by
 rw [UInt64.lt_iff_toNat_lt]
 show 0 < (x.toBitVec >>> m).toNat ↔ _
 rw [BitVec.toNat_ushiftRight, Nat.shiftRight_eq_div_pow]
 show 0 < x.toNat / 2 ^ m ↔ _
 rw [hx, Nat.div_pos_iff]
 have := Nat.two_pow_pos m
 omega
theorem z0Ya (k : Nat) : 2 ^ (8 * k) = 256 ^ k := by rw [Nat.pow_mul]
theorem z8bb {x : UInt64} {N m : Nat} (hx : x.toNat = N) : (z2Da x m).toUInt8 = UInt8.ofNat (N / 2 ^ m) := by
 apply UInt8.toNat_inj.1
 rw [UInt64.toNat_toUInt8, UInt8.toNat_ofNat']
 show (x.toBitVec >>> m).toNat % 256 = _
 rw [BitVec.toNat_ushiftRight, Nat.shiftRight_eq_div_pow]
 show x.toNat / 2 ^ m % 256 = _
 rw [hx]
end Go.Abs
end

section
namespace Go.Abs

def z0Z (x : UInt32) (n : Nat) : UInt32 := z9Ma x n ||| z3ia x (32 - n)
def z33a (x : UInt32) (k : Int) : UInt32 := z3ia x (UInt64.ofInt k &&& 31).toNat ||| z9Ma x (32 - (UInt64.ofInt k &&& 31)).toNat
theorem z6Jc (x : UInt32) : z33a x (-7) = z0Z x 7 := UInt32.or_comm _ _
theorem z5cc (x : UInt32) : z33a x (-18) = z0Z x 18 := UInt32.or_comm _ _
theorem z33b (x : UInt32) : z33a x (-17) = z0Z x 17 := UInt32.or_comm _ _
theorem z8ac (x : UInt32) : z33a x (-19) = z0Z x 19 := UInt32.or_comm _ _
theorem z1qc (x : UInt32) : z33a x (-6) = z0Z x 6 := UInt32.or_comm _ _
theorem z16b (x : UInt32) : z33a x (-11) = z0Z x 11 := UInt32.or_comm _ _
theorem z7Vb (x : UInt32) : z33a x (-25) = z0Z x 25 := UInt32.or_comm _ _
theorem z4uc (x : UInt32) : z33a x (-2) = z0Z x 2 := UInt32.or_comm _ _
theorem z15b (x : UInt32) : z33a x (-13) = z0Z x 13 := UInt32.or_comm _ _
theorem z45b (x : UInt32) : z33a x (-22) = z0Z x 22 := UInt32.or_comm _ _

structure H8 where
 a : UInt32
 b : UInt32
 c : UInt32
 d : UInt32
 e : UInt32
 f : UInt32
 g : UInt32
 h : UInt32
def H8.l (s : H8) : List UInt32 := [s.a, s.b, s.c, s.d, s.e, s.f, s.g, s.h]
def H8.of (l : List UInt32) : H8 := ⟨z0p l 0, z0p l 1, z0p l 2, z0p l 3, z0p l 4, z0p l 5, z0p l 6, z0p l 7⟩
@[simp] theorem H8.of_l (s : H8) : H8.of s.l = s := rfl
@[simp] theorem H8.len (s : H8) : s.l.length = 8 := rfl
def iv : H8 := ⟨1779033703, 3144134277, 1013904242, 2773480762, 1359893119, 2600822924, 528734635, 1541459225⟩
def kc : List UInt32 := [1116352408, 1899447441, 3049323471, 3921009573, 961987163, 1508970993, 2453635748, 2870763221, 3624381080, 310598401, 607225278, 1426881987, 1925078388, 2162078206, 2614888103, 3248222580, 3835390401, 4022224774, 264347078, 604807628, 770255983, 1249150122, 1555081692, 1996064986, 2554220882, 2821834349, 2952996808, 3210313671, 3336571891, 3584528711, 113926993, 338241895, 666307205, 773529912, 1294757372, 1396182291, 1695183700, 1986661051, 2177026350, 2456956037, 2730485921, 2820302411, 3259730800, 3345764771, 3516065817, 3600352804, 4094571909, 275423344, 430227734, 506948616, 659060556, 883997877, 958139571, 1322822218, 1537002063, 1747873779, 1955562222, 2024104815, 2227730452, 2361852424, 2428436474, 2756734187, 3204031479, 3329325298]

def z6ub : z4a := ⟨fun ds => ∃ x k, ds = [u32 x, i64 k], fun ds => u32 (z33a (z8Qb (nth ds 0)) (asI (nth ds 1)))⟩
def z9Mb : z4a := ⟨fun ds => ∃ x i j k, ds = [u32 x, i64 i, i64 j, i64 k], fun ds => u32 (z33a (z8Qb (nth ds 0)) (W (-asI (nth ds 1))) ^^^ z33a (z8Qb (nth ds 0)) (W (-asI (nth ds 2))) ^^^ z33a (z8Qb (nth ds 0)) (W (-asI (nth ds 3))))⟩

def ldw (b : List UInt8) (t : Nat) : Nat → UInt32
 | 0 => 0
 | j + 1 => z3ia (ldw b t j) 8 ||| (at8 b (4 * t + j)).toUInt32
def sg0 (p : UInt32) : UInt32 := z0Z p 7 ^^^ z0Z p 18 ^^^ z9Ma p 3
def sg1 (q : UInt32) : UInt32 := z0Z q 17 ^^^ z0Z q 19 ^^^ z9Ma q 10
def z9Ca (b : List UInt8) (t : Nat) (w : List UInt32) : UInt32 :=
 if t < 16 then ldw b t 4 else z0p w (t - 16) + sg0 (z0p w (t - 15)) + z0p w (t - 7) + sg1 (z0p w (t - 2))
def z3k (b : List UInt8) : Nat → List UInt32
 | 0 => []
 | t + 1 => z3k b t ++ [z9Ca b t (z3k b t)]
theorem z7p (b : List UInt8) : ∀ t, (z3k b t).length = t
 | 0 => rfl
 | t + 1 => by simp [z3k, z7p b t]
def z1X : z4a := ⟨fun ds => ∃ nl b, b.length = 64 ∧ ds = [.sl .plain nl 64 (bys b)], fun ds => .agg (z1o (z3k (gBs (gCs (nth ds 0))) 64))⟩

def rnd (k w : UInt32) (s : H8) : H8 :=
 let x := s.h + (z0Z s.e 6 ^^^ z0Z s.e 11 ^^^ z0Z s.e 25) + ((s.e &&& s.f) ^^^ (~~~s.e &&& s.g)) + k + w
 let y := (z0Z s.a 2 ^^^ z0Z s.a 13 ^^^ z0Z s.a 22) + ((s.a &&& s.b) ^^^ (s.a &&& s.c) ^^^ (s.b &&& s.c))
 ⟨x + y, s.a, s.b, s.c, s.d + x, s.e, s.f, s.g⟩
def z8Ca (w : List UInt32) (s : H8) : Nat → H8
 | 0 => s
 | t + 1 => rnd (z0p kc t) (z0p w t) (z8Ca w s t)
def H8.add (s v : H8) : H8 := ⟨s.a + v.a, s.b + v.b, s.c + v.c, s.d + v.d, s.e + v.e, s.f + v.f, s.g + v.g, s.h + v.h⟩
def z3Va (s : H8) (b : List UInt8) : H8 := s.add (z8Ca (z3k b 64) s 64)
def z9sa : z4a := ⟨fun ds => ∃ (s : H8) (nl : Option Bool) (b : List UInt8), b.length = 64 ∧ ds = [.agg (z1o s.l), .sl .plain nl 64 (bys b)], fun ds => .agg (z1o (z3Va (H8.of (gWs (gCs (nth ds 0)))) (gBs (gCs (nth ds 1)))).l)⟩

theorem z5ga {t : Nat} (h : t < 64) : z8i (64 - t) = 0 :: z8i (63 - t) := by
 rw [show 64 - t = (63 - t) + 1 by omega]; rfl
theorem z2Ca {α : Type} {a c : List α} {i : Nat} {x y : α} (h : i = a.length) : (a ++ x :: c).set i y = a ++ y :: c := by
 subst h; simp
end Go.Abs
namespace Go.Abs
structure z6z where
 h : H8
 b : List UInt8
 n : UInt64
def scs (s : z6z) : List z2a := z1o s.h.l ++ (bys s.b ++ [u64 s.n])
def z6z.v (s : z6z) : z2a := .agg (scs s)
def z6z.of (l : List z2a) : z6z := ⟨H8.of (gWs (l.take 8)), gBs ((l.drop 8).take 64), z38c (nth l 72)⟩
section cells
variable {s : z6z}
theorem z0R (h : s.b.length = 64) : (scs s).length = 73 := by simp [scs, h]
theorem z8Jb (h : s.b.length = 64) : hdA ((scs s).drop 72) = u64 s.n := by
 rw [z9Kb]
 simp [scs, List.getD, List.getElem?_append, h]
theorem z03b (s : z6z) : (scs s).take 8 = z1o s.h.l := by simp [scs]
theorem z48b (h : s.b.length = 64) : ((scs s).drop 8).take 64 = bys s.b := by
 rw [scs, List.drop_left' (by simp), List.take_left' (by simp [h])]
theorem z8gb (h : s.b.length = 64) : (scs s).take 73 = scs s := List.take_of_length_le (by rw [z0R h]; decide)
@[simp] theorem z6Gb (s : z6z) : (∀ c ∈ scs s, z1d c) ↔ True := by simp [scs, or_imp, forall_and]
@[simp] theorem z1cc (s : z6z) : (∀ c ∈ scs s, z3g c = false) ↔ True := by simp [scs, or_imp, forall_and]
@[simp] theorem z1Va (s : z6z) : z5h (scs s) = true := by simp [scs]
@[simp] theorem z4Eb (s : z6z) : (∀ c ∈ scs s, z8e c = true) ↔ True := iff_true_intro ((z8p _).1 (z1Va s))
@[simp] theorem z95b (s : z6z) : z0d (scs s) = true := by simp [scs]
@[simp] theorem z5xb (s : z6z) : z4k (scs s) = [] := by simp [scs]
theorem z8Ta {x : H8} : splice (scs s) 0 (z1o x.l) = scs { s with h := x } := by
 rw [scs, z98 (by simp), z0f (by simp)]; rfl
theorem z2ib {n : UInt64} (h : s.b.length = 64) : splice (scs s) 72 [u64 n] = scs { s with n := n } := by
 rw [scs, z2T (by simp), z2T (by simp [h])]
 simp [h, scs]
theorem z2ob {i : Nat} {xs : List UInt8} (h : s.b.length = 64) (hi : i + xs.length ≤ 64) : splice (scs s) (8 + i) (bys xs) = scs { s with b := s.b.take i ++ xs ++ s.b.drop (i + xs.length) } := by
 rw [scs, z2T (by simp), z98 (by simp [h]; omega)]
 simp only [H8.len, z01a, Nat.add_sub_cancel_left, scs]
 rw [splice, z8eb, z2P, z2P, z4yb, z95a]
theorem z5Ka {l : List z2a} (h : s.b.length = 64) (hl : l.length = 73) : splice l 0 (scs s) = scs s := z0f (by rw [hl, z0R h])
end cells
theorem z28a : (z1o (z8i 8) ++ (bys (z2c 64) ++ [u64 0])).length = 73 := by simp
def z1kc (s : z6z) (x : UInt8) : z6z :=
 let b' := s.b.set (s.n.toNat % 64) x
 ⟨if s.n.toNat % 64 = 63 then z3Va s.h b' else s.h, b', s.n + 1⟩
def z6z.add (s : z6z) (m : List UInt8) : z6z := m.foldl z1kc s
theorem z3Ib (s : z6z) (x : UInt8) : (z1kc s x).b.length = s.b.length := by simp [z1kc]
theorem z1Aa (m : List UInt8) : ∀ s : z6z, (s.add m).b.length = s.b.length := by
 induction m with
 | nil => intro s; rfl
 | cons x m ih => intro s; rw [z6z.add, List.foldl_cons]; exact (ih _).trans (z3Ib s x)
theorem z93 (s : z6z) (m k : List UInt8) : s.add (m ++ k) = (s.add m).add k := by simp [z6z.add]
theorem z6z.of_scs (s : z6z) (hb : s.b.length = 64) : z6z.of (scs s) = s := by
 have h3 : nth (scs s) 72 = u64 s.n := by
  rw [nth, ← z9Kb, z8Jb hb]
 rw [z6z.of, z03b, z48b hb, h3]
 simp
def z6z.init : z6z := ⟨iv, z2c 64, 0⟩
def z3ma : z4a := ⟨fun ds => ds = [], fun _ => z6z.init.v⟩
def z5fb : z4a := ⟨fun ds => ∃ (s : z6z) (m : List UInt8), s.b.length = 64 ∧ ds = [s.v, st m], fun ds => ((z6z.of (gCs (nth ds 0))).add (gS (nth ds 1))).v⟩

theorem z2ya (s : z6z) (hb : s.b.length = 64) : ∀ (j : Nat) (m : List UInt8), m.length = j → s.n.toNat % 64 + j ≤ 64 →
  s.add m = ⟨if s.n.toNat % 64 + j = 64 then z3Va s.h (s.b.take (s.n.toNat % 64) ++ (m ++ s.b.drop (s.n.toNat % 64 + j))) else s.h,
   s.b.take (s.n.toNat % 64) ++ (m ++ s.b.drop (s.n.toNat % 64 + j)), s.n + UInt64.ofNat j⟩
 | 0, m, hm, h => by
  have hm' := List.length_eq_zero_iff.1 hm
  subst hm'
  have h1 : s.n.toNat % 64 < 64 := Nat.mod_lt _ (by decide)
  rw [if_neg (by omega)]
  simp [z6z.add]
 | j + 1, m, hm, h => by
  have hne : m ≠ [] := fun e => by rw [e] at hm; simp at hm
  obtain ⟨k, x, rfl⟩ : ∃ k x, m = k ++ [x] := ⟨m.dropLast, m.getLast hne, (List.dropLast_concat_getLast hne).symm⟩
  have hk : k.length = j := by simp at hm; exact hm
  rw [z93, z2ya s hb j k hk (by omega), if_neg (by omega)]
  have hn : (s.n + UInt64.ofNat j).toNat % 64 = s.n.toNat % 64 + j := by
   rw [UInt64.toNat_add, UInt64.toNat_ofNat']
   omega
  have hset : (s.b.take (s.n.toNat % 64) ++ (k ++ s.b.drop (s.n.toNat % 64 + j))).set (s.n.toNat % 64 + j) x = s.b.take (s.n.toNat % 64) ++ ((k ++ [x]) ++ s.b.drop (s.n.toNat % 64 + (j + 1))) := by
   rw [List.drop_eq_getElem_cons (show s.n.toNat % 64 + j < s.b.length by omega), ← List.append_assoc, z2Ca (by simp [hk]; omega)]
   simp [Nat.add_assoc]
  simp only [z6z.add, List.foldl_cons, List.foldl_nil, z1kc, hn, hset]
  congr 1
  ·by_cases h63 : s.n.toNat % 64 + j = 63
   ·rw [if_pos h63, if_pos (by omega)]
   ·rw [if_neg h63, if_neg (by omega)]
  ·rw [UInt64.add_assoc]
   congr 1
   apply UInt64.toNat_inj.1
   simp
end Go.Abs
end

section
namespace Go.Abs
def z1Da (n : Nat) : Nat := (119 - n % 64) % 64
def be8 (n : UInt64) : Nat → List UInt8
 | 0 => []
 | i + 1 => be8 n i ++ [(z2Da n (56 - 8 * i)).toUInt8]
theorem z6qa (n : UInt64) : ∀ i, (be8 n i).length = i
 | 0 => rfl
 | i + 1 => by simp [be8, z6qa n i]
def z32a (n : UInt64) : List UInt8 := (128 :: z2c (z1Da n.toNat)) ++ be8 (8 * n) 8
def z5ab (h : H8) : Nat → List UInt8
 | 0 => []
 | i + 1 => z5ab h i ++ [(z9Ma (z0p h.l (i / 4)) (24 - 8 * (i % 4))).toUInt8]
theorem z1va (h : H8) : ∀ i, (z5ab h i).length = i
 | 0 => rfl
 | i + 1 => by simp [z5ab, z1va h i]
def z6z.sum (s : z6z) : List UInt8 := z5ab (s.add (z32a s.n)).h 32
def z5wb : z4a := ⟨fun ds => ∃ s : z6z, s.b.length = 64 ∧ s.n.toNat < 1099511627776 ∧ ds = [s.v], fun ds => .agg (bys (z6z.of (gCs (nth ds 0))).sum)⟩
theorem z3nc {s : z6z} {j : Nat} (h : j < 8) : hdA ((scs s).drop j) = u32 (z0p s.h.l j) := by
 rw [scs, List.drop_append_of_le_length (by simp; omega), z6xa, hdA]
 rw [show (z1o (s.h.l.drop j) ++ (bys s.b ++ [u64 s.n])).headD .undef = hdA (z1o (s.h.l.drop j)) by
  rw [List.drop_eq_getElem_cons (show j < s.h.l.length from h)]; rfl]
 exact z9W h
theorem z70a (n : Nat) : z1Da n < 64 := Nat.mod_lt _ (by decide)
theorem z61a (n : Nat) : (n + (z1Da n + 1)) % 64 = 56 := by unfold z1Da; omega
theorem z9ya (k : Nat) : z2c k ++ [0] = z2c (k + 1) := by
 simp [z2c, List.replicate_succ']
theorem z5Ha {t n : Nat} (h : t < n) : z2c (n - t) = 0 :: z2c (n - 1 - t) := by
 rw [show n - t = (n - 1 - t) + 1 by omega]; rfl
end Go.Abs
namespace Go.Abs
theorem z0Ac (m : List UInt8) : ∀ s : z6z, (s.add m).n = s.n + UInt64.ofNat m.length := by
 induction m with
 | nil => intro s; simp [z6z.add]
 | cons x m ih =>
  intro s
  have : s.add (x :: m) = (z1kc s x).add m := rfl
  rw [this, ih]
  simp only [z1kc, List.length_cons]
  rw [UInt64.add_assoc]
  congr 1
  apply UInt64.toNat_inj.1
  simp
  omega
theorem z5Pa (m : List UInt8) (s : z6z) (h : s.n.toNat + m.length < 18446744073709551616) : (s.add m).n.toNat = s.n.toNat + m.length := by
 rw [z0Ac, UInt64.toNat_add, UInt64.toNat_ofNat']
 omega
def sha (l : List UInt8) : List UInt8 := (z6z.init.add l).sum
theorem z3Ia (l : List UInt8) : (sha l).length = 32 := z1va _ 32
theorem z7Ab : z6z.init.b.length = 64 := by simp [z6z.init]
def z7pc : z4a := ⟨fun ds => ∃ (nl : Option Bool) (l : List UInt8), l.length < 1099511627776 ∧ ds = [.sl .plain nl l.length (bys l)], fun ds => .agg (bys (sha (gBs (gCs (nth ds 0)))))⟩
end Go.Abs
end

section
namespace Go.Abs
set_option maxRecDepth 100000
def z4s : z9q :=
 { n := 0, wr := [], res := [.cell 0 (some 73) 0], body :=
 .seq (
 .region [0] [.norm [0]] [
 ⟨some 0, none, .alloc 0 (z1o (z8i 8) ++ bys (z2c 64) ++ [u64 0])⟩]) (
 .seq (
 .region [0] [.norm [0]] [
 ⟨some 1, none, .build [u32 0, u32 0, u32 0, u32 0, u32 0, u32 0, u32 0, u32 0] [(0, 1, (.c (u32 1779033703))), (1, 1, (.c (u32 3144134277))), (2, 1, (.c (u32 1013904242))), (3, 1, (.c (u32 2773480762))), (4, 1, (.c (u32 1359893119))), (5, 1, (.c (u32 2600822924))), (6, 1, (.c (u32 528734635))), (7, 1, (.c (u32 1541459225)))]⟩,
 ⟨some 2, none, .build (z1o (z8i 8) ++ bys (z2c 64) ++ [u64 0]) [(0, 8, (.s 1))]⟩,
 ⟨none, none, .store (some 73) 0 false (.s 0) (.s 2)⟩]) (
 .ret)) }

def z7j : z9q :=
 { n := 2, wr := [1], res := [.cell 4 (some 73) 4], body :=
 .seq (
 .region [1, 2, 4] [.norm [2, 4]] [
 ⟨some 2, none, .box 2 (some 73) false (.s 0)⟩,
 ⟨some 4, none, .alloc 4 (z1o (z8i 8) ++ bys (z2c 64) ++ [u64 0])⟩]) (
 .seq (
 .block 0 (
 .loop (
 .seq (
 .seq (
 .region [1, 2, 4, 8] [] [
 ⟨some 7, none, .mv false (.s 1)⟩,
 ⟨some 8, none, .bin .neq (.s 7) (.c (st []))⟩]) (
 .cond (.s 8) (
 .ghost (.keep [1, 2, 4]) .skip) (
 .ghost (.keep [2, 4]) (.exit 0)))) (
 .block 1 (
 .seq (
 .region [1, 2, 4, 5] [.norm [2, 4]] [
 ⟨some 9, none, .fieldAddr 72 (.s 2)⟩,
 ⟨some 10, none, .load none (some 2) false (.s 9)⟩,
 ⟨some 11, none, .bin .rem (.s 10) (.c (u64 64))⟩,
 ⟨some 12, none, .toInt .i64 (.s 11)⟩,
 ⟨some 5, none, .mv false (.s 12)⟩]) (
 .seq (
 .region [1, 2, 4, 5, 6] [.norm [2, 4]] [
 ⟨some 13, none, .fieldAddr 8 (.s 2)⟩,
 ⟨some 14, none, .mv false (.s 5)⟩,
 ⟨some 15, none, .slArr 64 1 (.s 13) (some (.s 14)) none none⟩,
 ⟨some 16, none, .mv false (.s 1)⟩,
 ⟨some 17, none, .copy 1 true 2 none (.s 15) (.s 16)⟩,
 ⟨some 6, none, .mv false (.s 17)⟩]) (
 .seq (
 .region [1, 2, 4, 5, 6] [] [
 ⟨some 18, none, .mv false (.s 1)⟩,
 ⟨some 19, none, .mv false (.s 6)⟩,
 ⟨some 20, none, .slStr (.s 18) (some (.s 19)) none⟩,
 ⟨some 1, none, .mv false (.s 20)⟩]) (
 .seq (
 .region [1, 2, 4, 5, 6] [.norm [2, 4]] [
 ⟨some 21, none, .fieldAddr 72 (.s 2)⟩,
 ⟨some 22, none, .load none (some 2) false (.s 21)⟩,
 ⟨some 23, none, .mv false (.s 6)⟩,
 ⟨some 24, none, .toInt .u64 (.s 23)⟩,
 ⟨some 25, none, .bin .add (.s 22) (.s 24)⟩,
 ⟨some 26, none, .fieldAddr 72 (.s 2)⟩,
 ⟨none, none, .store none 2 false (.s 26) (.s 25)⟩]) (
 .seq (
 .region [1, 2, 4, 30] [] [
 ⟨some 27, none, .mv false (.s 5)⟩,
 ⟨some 28, none, .mv false (.s 6)⟩,
 ⟨some 29, none, .bin .add (.s 27) (.s 28)⟩,
 ⟨some 30, none, .bin .eql (.s 29) (.c (i64 64))⟩]) (
 .cond (.s 30) (
 .region [1, 2, 4] [.norm [2, 4]] [
 ⟨some 31, none, .fieldAddr 0 (.s 2)⟩,
 ⟨some 32, none, .load (some 8) (some 2) false (.s 31)⟩,
 ⟨some 33, none, .fieldAddr 8 (.s 2)⟩,
 ⟨some 34, none, .slArr 64 1 (.s 33) none none none⟩,
 ⟨some 35, none, .call 4 [(.s 32), (.s 34)] [2]⟩,
 ⟨some 36, none, .fieldAddr 0 (.s 2)⟩,
 ⟨none, none, .store (some 8) 2 false (.s 36) (.s 35)⟩]) (
 .ghost (.keep [1, 2, 4]) .skip))))))))))) (
 .seq (
 .region [4] [.norm [2, 4]] [
 ⟨some 37, none, .load (some 73) (some 2) false (.s 2)⟩,
 ⟨none, none, .store (some 73) 4 false (.s 4) (.s 37)⟩]) (
 .ret))) }

def z8j : z9q :=
 { n := 1, wr := [], res := [.cell 2 (some 32) 2], body :=
 .seq (
 .region [1, 2] [.norm [1, 2]] [
 ⟨some 1, none, .box 1 (some 73) false (.s 0)⟩,
 ⟨some 2, none, .alloc 2 (bys (z2c 32))⟩]) (
 .seq (
 .region [1, 2, 3] [.norm [1, 2]] [
 ⟨some 8, none, .fieldAddr 72 (.s 1)⟩,
 ⟨some 9, none, .load none (some 1) false (.s 8)⟩,
 ⟨some 10, none, .bin .mul (.c (u64 8)) (.s 9)⟩,
 ⟨some 3, none, .mv false (.s 10)⟩]) (
 .seq (
 .region [1, 2, 3, 4] [] [
 ⟨some 11, none, .buildSl 1 1 [u8 0] [(0, 1, (.c (u8 128)))]⟩,
 ⟨some 4, none, .mv true (.s 11)⟩]) (
 .seq (
 .block 0 (
 .loop (
 .seq (
 .seq (
 .region [1, 2, 3, 4, 19] [.norm [1, 2]] [
 ⟨some 12, none, .fieldAddr 72 (.s 1)⟩,
 ⟨some 13, none, .load none (some 1) false (.s 12)⟩,
 ⟨some 14, none, .toInt .i64 (.s 13)⟩,
 ⟨some 15, none, .mv false (.s 4)⟩,
 ⟨some 16, none, .len false (.s 15)⟩,
 ⟨some 17, none, .bin .add (.s 14) (.s 16)⟩,
 ⟨some 18, none, .bin .rem (.s 17) (.c (i64 64))⟩,
 ⟨some 19, none, .bin .neq (.s 18) (.c (i64 56))⟩]) (
 .cond (.s 19) (
 .ghost (.keep [1, 2, 3, 4]) .skip) (
 .ghost (.keep [1, 2, 3, 4]) (.exit 0)))) (
 .block 1 (
 .region [1, 2, 3, 4] [] [
 ⟨some 20, none, .mv true (.s 4)⟩,
 ⟨some 21, none, .buildSl 1 1 [u8 0] [(0, 1, (.c (u8 0)))]⟩,
 ⟨some 22, none, .append 1 1 false (some false) none 20 (.s 21)⟩,
 ⟨some 4, none, .mv true (.s 22)⟩]))))) (
 .seq (
 .seq (
 .region [1, 2, 3, 4, 23] [] [
 ⟨some 23, none, .mv false (.c (i64 0))⟩]) (
 .block 2 (
 .loop (
 .seq (
 .region [1, 2, 3, 4, 23, 24] [] [
 ⟨some 24, none, .bin .lss (.s 23) (.c (i64 8))⟩]) (
 .seq (
 .cond (.s 24) (
 .ghost (.keep [1, 2, 3, 4, 23]) .skip) (
 .ghost (.keep [1, 2, 4]) (.exit 2))) (
 .seq (
 .block 3 (
 .seq (
 .region [1, 2, 3, 4, 5, 23] [] [
 ⟨some 25, none, .mv false (.s 23)⟩,
 ⟨some 5, none, .mv false (.s 25)⟩]) (
 .region [1, 2, 3, 4, 23] [] [
 ⟨some 26, none, .mv true (.s 4)⟩,
 ⟨some 27, none, .mv false (.s 3)⟩,
 ⟨some 28, none, .mv false (.s 5)⟩,
 ⟨some 29, none, .bin .mul (.c (i64 8)) (.s 28)⟩,
 ⟨some 30, none, .bin .sub (.c (i64 56)) (.s 29)⟩,
 ⟨some 31, none, .bin .shr (.s 27) (.s 30)⟩,
 ⟨some 32, none, .toInt .u8 (.s 31)⟩,
 ⟨some 33, none, .buildSl 1 1 [u8 0] [(0, 1, (.s 32))]⟩,
 ⟨some 34, none, .append 1 1 false (some false) none 26 (.s 33)⟩,
 ⟨some 4, none, .mv true (.s 34)⟩]))) (
 .region [1, 2, 3, 4, 23] [] [
 ⟨some 35, none, .bin .add (.s 23) (.c (i64 1))⟩,
 ⟨some 23, none, .mv false (.s 35)⟩]))))))) (
 .seq (
 .region [1, 2] [.norm [1, 2]] [
 ⟨some 36, none, .load (some 73) (some 1) false (.s 1)⟩,
 ⟨some 37, none, .mv true (.s 4)⟩,
 ⟨some 38, none, .toStr none (.s 37)⟩,
 ⟨some 39, none, .call 1 [(.s 36), (.s 38)] []⟩,
 ⟨none, none, .store (some 73) 1 false (.s 1) (.s 39)⟩]) (
 .seq (
 .region [1, 2, 6] [.norm [1, 2, 6]] [
 ⟨some 6, none, .alloc 6 (bys (z2c 32))⟩]) (
 .seq (
 .seq (
 .region [1, 2, 6, 40] [] [
 ⟨some 40, none, .mv false (.c (i64 0))⟩]) (
 .block 4 (
 .loop (
 .seq (
 .region [1, 2, 6, 40, 41] [] [
 ⟨some 41, none, .bin .lss (.s 40) (.c (i64 32))⟩]) (
 .seq (
 .cond (.s 41) (
 .ghost (.keep [1, 2, 6, 40]) .skip) (
 .ghost (.keep [2, 6]) (.exit 4))) (
 .seq (
 .block 5 (
 .seq (
 .region [1, 2, 6, 7, 40] [] [
 ⟨some 42, none, .mv false (.s 40)⟩,
 ⟨some 7, none, .mv false (.s 42)⟩]) (
 .region [1, 2, 6, 40] [.norm [1, 2, 6]] [
 ⟨some 43, none, .mv false (.s 7)⟩,
 ⟨some 44, none, .mv false (.s 7)⟩,
 ⟨some 45, none, .bin .quo (.s 44) (.c (i64 4))⟩,
 ⟨some 46, none, .fieldAddr 0 (.s 1)⟩,
 ⟨some 47, none, .idxArr 8 1 (.s 46) (.s 45)⟩,
 ⟨some 48, none, .load none (some 1) false (.s 47)⟩,
 ⟨some 49, none, .mv false (.s 7)⟩,
 ⟨some 50, none, .bin .rem (.s 49) (.c (i64 4))⟩,
 ⟨some 51, none, .bin .mul (.c (i64 8)) (.s 50)⟩,
 ⟨some 52, none, .bin .sub (.c (i64 24)) (.s 51)⟩,
 ⟨some 53, none, .bin .shr (.s 48) (.s 52)⟩,
 ⟨some 54, none, .toInt .u8 (.s 53)⟩,
 ⟨some 55, none, .idxArr 32 1 (.s 6) (.s 43)⟩,
 ⟨none, none, .store none 6 false (.s 55) (.s 54)⟩]))) (
 .region [1, 2, 6, 40] [] [
 ⟨some 56, none, .bin .add (.s 40) (.c (i64 1))⟩,
 ⟨some 40, none, .mv false (.s 56)⟩]))))))) (
 .seq (
 .region [2] [.norm [1, 2, 6]] [
 ⟨some 57, none, .load (some 32) (some 6) false (.s 6)⟩,
 ⟨none, none, .store (some 32) 2 false (.s 2) (.s 57)⟩]) (
 .ret))))))))) }

def z3S : z9q :=
 { n := 2, wr := [], res := [.cell 4 (some 16) 4], body :=
 .seq (
 .region [4] [.norm [4]] [
 ⟨some 4, none, .alloc 4 (bys (z2c 16))⟩]) (
 .seq (
 .region [4, 5] [.norm [4, 5]] [
 ⟨some 9, none, .call 0 [] []⟩,
 ⟨some 10, none, .mv false (.s 0)⟩,
 ⟨some 11, none, .toInt .u8 (.s 10)⟩,
 ⟨some 12, none, .buildSl 1 1 [u8 0] [(0, 1, (.s 11))]⟩,
 ⟨some 13, none, .toStr none (.s 12)⟩,
 ⟨some 14, none, .call 1 [(.s 9), (.s 13)] []⟩,
 ⟨some 5, none, .alloc 5 (z1o (z8i 8) ++ bys (z2c 64) ++ [u64 0])⟩,
 ⟨none, none, .store (some 73) 5 false (.s 5) (.s 14)⟩]) (
 .seq (
 .seq (
 .region [4, 5, 15, 16, 17] [] [
 ⟨some 15, none, .mv false (.s 1)⟩,
 ⟨some 16, none, .len false (.s 15)⟩,
 ⟨some 17, none, .mv false (.c (i64 0))⟩]) (
 .block 0 (
 .loop (
 .seq (
 .region [4, 5, 15, 16, 17, 18] [] [
 ⟨some 18, none, .bin .lss (.s 17) (.s 16)⟩]) (
 .seq (
 .cond (.s 18) (
 .ghost (.keep [4, 5, 15, 16, 17]) .skip) (
 .ghost (.keep [4, 5]) (.exit 0))) (
 .seq (
 .block 1 (
 .seq (
 .region [4, 5, 7, 15, 16, 17] [.norm [4, 5]] [
 ⟨some 19, none, .idxSl 1 (.s 15) (.s 17)⟩,
 ⟨some 20, none, .load none none false (.s 19)⟩,
 ⟨some 7, none, .mv false (.s 20)⟩]) (
 .region [4, 5, 15, 16, 17] [.norm [4, 5]] [
 ⟨some 21, none, .load (some 73) (some 5) false (.s 5)⟩,
 ⟨some 22, none, .mv false (.s 7)⟩,
 ⟨some 23, none, .call 7 [(.s 22)] []⟩,
 ⟨some 24, none, .toStr none (.s 23)⟩,
 ⟨some 25, none, .call 1 [(.s 21), (.s 24)] []⟩,
 ⟨none, none, .store (some 73) 5 false (.s 5) (.s 25)⟩]))) (
 .region [4, 5, 15, 16, 17] [] [
 ⟨some 26, none, .bin .add (.s 17) (.c (i64 1))⟩,
 ⟨some 17, none, .mv false (.s 26)⟩]))))))) (
 .seq (
 .region [4, 8] [.norm [4, 5, 8]] [
 ⟨some 27, none, .load (some 73) (some 5) false (.s 5)⟩,
 ⟨some 28, none, .call 2 [(.s 27)] []⟩,
 ⟨some 8, none, .alloc 8 (bys (z2c 32))⟩,
 ⟨none, none, .store (some 32) 8 false (.s 8) (.s 28)⟩]) (
 .seq (
 .region [4] [.norm [4, 5, 8]] [
 ⟨some 29, none, .slArr 32 1 (.s 8) none (some (.c (i64 16))) none⟩,
 ⟨some 30, none, .s2ap 16 (.s 29)⟩,
 ⟨some 31, none, .load (some 16) (some 8) false (.s 30)⟩,
 ⟨none, none, .store (some 16) 4 false (.s 4) (.s 31)⟩]) (
 .ret))))) }

def z1m : z9q :=
 { n := 2, wr := [], res := [.cell 4 (some 8) 4], body :=
 .seq (
 .region [2, 4] [.norm [2, 4]] [
 ⟨some 2, none, .box 2 (some 8) false (.s 0)⟩,
 ⟨some 4, none, .alloc 4 (z1o (z8i 8))⟩]) (
 .seq (
 .region [2, 4, 5] [.norm [2, 4, 5]] [
 ⟨some 13, none, .mv false (.s 1)⟩,
 ⟨some 14, none, .call 10 [(.s 13)] []⟩,
 ⟨some 5, none, .alloc 5 (z1o (z8i 64))⟩,
 ⟨none, none, .store (some 64) 5 false (.s 5) (.s 14)⟩]) (
 .seq (
 .region [2, 4, 5, 6, 7] [.norm [2, 4, 5, 6, 7]] [
 ⟨some 15, none, .slArr 8 1 (.s 2) none (some (.c (i64 4))) none⟩,
 ⟨some 16, none, .s2ap 4 (.s 15)⟩,
 ⟨some 17, none, .load (some 4) (some 2) false (.s 16)⟩,
 ⟨some 18, none, .slArr 8 1 (.s 2) (some (.c (i64 4))) none none⟩,
 ⟨some 19, none, .s2ap 4 (.s 18)⟩,
 ⟨some 20, none, .load (some 4) (some 2) false (.s 19)⟩,
 ⟨some 6, none, .alloc 6 [u32 0, u32 0, u32 0, u32 0]⟩,
 ⟨some 7, none, .alloc 7 [u32 0, u32 0, u32 0, u32 0]⟩,
 ⟨none, none, .store (some 4) 6 false (.s 6) (.s 17)⟩,
 ⟨none, none, .store (some 4) 7 false (.s 7) (.s 20)⟩]) (
 .seq (
 .seq (
 .region [2, 4, 5, 6, 7, 21, 22] [.norm [2, 4, 5, 6, 7]] [
 ⟨some 21, none, .load (some 64) none false (.g 0)⟩,
 ⟨some 22, none, .mv false (.c (i64 0))⟩]) (
 .block 0 (
 .loop (
 .seq (
 .region [2, 4, 5, 6, 7, 21, 22, 23] [] [
 ⟨some 23, none, .bin .lss (.s 22) (.c (i64 64))⟩]) (
 .seq (
 .cond (.s 23) (
 .ghost (.keep [2, 4, 5, 6, 7, 21, 22]) .skip) (
 .ghost (.keep [2, 4, 6, 7]) (.exit 0))) (
 .seq (
 .block 1 (
 .seq (
 .region [2, 4, 5, 6, 7, 8, 9, 21, 22] [] [
 ⟨some 24, none, .mv false (.s 22)⟩,
 ⟨some 25, none, .idxA none 1 64 (.s 21) (.s 22)⟩,
 ⟨some 8, none, .mv false (.s 24)⟩,
 ⟨some 9, none, .mv false (.s 25)⟩]) (
 .seq (
 .region [2, 4, 5, 6, 7, 10, 21, 22] [.norm [2, 4, 5, 6, 7]] [
 ⟨some 26, none, .idxArr 4 1 (.s 7) (.c (i64 3))⟩,
 ⟨some 27, none, .load none (some 7) false (.s 26)⟩,
 ⟨some 28, none, .idxArr 4 1 (.s 7) (.c (i64 0))⟩,
 ⟨some 29, none, .load none (some 7) false (.s 28)⟩,
 ⟨some 30, none, .call 11 [(.s 29), (.c (i64 6)), (.c (i64 11)), (.c (i64 25))] []⟩,
 ⟨some 31, none, .bin .add (.s 27) (.s 30)⟩,
 ⟨some 32, none, .idxArr 4 1 (.s 7) (.c (i64 0))⟩,
 ⟨some 33, none, .load none (some 7) false (.s 32)⟩,
 ⟨some 34, none, .idxArr 4 1 (.s 7) (.c (i64 1))⟩,
 ⟨some 35, none, .load none (some 7) false (.s 34)⟩,
 ⟨some 36, none, .bin .and (.s 33) (.s 35)⟩,
 ⟨some 37, none, .idxArr 4 1 (.s 7) (.c (i64 0))⟩,
 ⟨some 38, none, .load none (some 7) false (.s 37)⟩,
 ⟨some 39, none, .un .xor (.s 38)⟩,
 ⟨some 40, none, .idxArr 4 1 (.s 7) (.c (i64 2))⟩,
 ⟨some 41, none, .load none (some 7) false (.s 40)⟩,
 ⟨some 42, none, .bin .and (.s 39) (.s 41)⟩,
 ⟨some 43, none, .bin .xor (.s 36) (.s 42)⟩,
 ⟨some 44, none, .bin .add (.s 31) (.s 43)⟩,
 ⟨some 45, none, .mv false (.s 9)⟩,
 ⟨some 46, none, .bin .add (.s 44) (.s 45)⟩,
 ⟨some 47, none, .mv false (.s 8)⟩,
 ⟨some 48, none, .idxArr 64 1 (.s 5) (.s 47)⟩,
 ⟨some 49, none, .load none (some 5) false (.s 48)⟩,
 ⟨some 50, none, .bin .add (.s 46) (.s 49)⟩,
 ⟨some 10, none, .mv false (.s 50)⟩]) (
 .seq (
 .region [2, 4, 5, 6, 7, 10, 11, 21, 22] [.norm [2, 4, 5, 6, 7]] [
 ⟨some 51, none, .idxArr 4 1 (.s 6) (.c (i64 0))⟩,
 ⟨some 52, none, .load none (some 6) false (.s 51)⟩,
 ⟨some 53, none, .call 11 [(.s 52), (.c (i64 2)), (.c (i64 13)), (.c (i64 22))] []⟩,
 ⟨some 54, none, .idxArr 4 1 (.s 6) (.c (i64 0))⟩,
 ⟨some 55, none, .load none (some 6) false (.s 54)⟩,
 ⟨some 56, none, .idxArr 4 1 (.s 6) (.c (i64 1))⟩,
 ⟨some 57, none, .load none (some 6) false (.s 56)⟩,
 ⟨some 58, none, .bin .and (.s 55) (.s 57)⟩,
 ⟨some 59, none, .idxArr 4 1 (.s 6) (.c (i64 0))⟩,
 ⟨some 60, none, .load none (some 6) false (.s 59)⟩,
 ⟨some 61, none, .idxArr 4 1 (.s 6) (.c (i64 2))⟩,
 ⟨some 62, none, .load none (some 6) false (.s 61)⟩,
 ⟨some 63, none, .bin .and (.s 60) (.s 62)⟩,
 ⟨some 64, none, .bin .xor (.s 58) (.s 63)⟩,
 ⟨some 65, none, .idxArr 4 1 (.s 6) (.c (i64 1))⟩,
 ⟨some 66, none, .load none (some 6) false (.s 65)⟩,
 ⟨some 67, none, .idxArr 4 1 (.s 6) (.c (i64 2))⟩,
 ⟨some 68, none, .load none (some 6) false (.s 67)⟩,
 ⟨some 69, none, .bin .and (.s 66) (.s 68)⟩,
 ⟨some 70, none, .bin .xor (.s 64) (.s 69)⟩,
 ⟨some 71, none, .bin .add (.s 53) (.s 70)⟩,
 ⟨some 11, none, .mv false (.s 71)⟩]) (
 .seq (
 .region [2, 4, 5, 6, 7, 10, 11, 21, 22] [.norm [2, 4, 5, 6, 7]] [
 ⟨some 72, none, .idxArr 4 1 (.s 6) (.c (i64 3))⟩,
 ⟨some 73, none, .load none (some 6) false (.s 72)⟩,
 ⟨some 74, none, .mv false (.s 10)⟩,
 ⟨some 75, none, .bin .add (.s 73) (.s 74)⟩,
 ⟨some 76, none, .idxArr 4 1 (.s 7) (.c (i64 0))⟩,
 ⟨some 77, none, .load none (some 7) false (.s 76)⟩,
 ⟨some 78, none, .idxArr 4 1 (.s 7) (.c (i64 1))⟩,
 ⟨some 79, none, .load none (some 7) false (.s 78)⟩,
 ⟨some 80, none, .idxArr 4 1 (.s 7) (.c (i64 2))⟩,
 ⟨some 81, none, .load none (some 7) false (.s 80)⟩,
 ⟨some 82, none, .build [u32 0, u32 0, u32 0, u32 0] [(0, 1, (.s 75)), (1, 1, (.s 77)), (2, 1, (.s 79)), (3, 1, (.s 81))]⟩,
 ⟨none, none, .store (some 4) 7 false (.s 7) (.s 82)⟩]) (
 .region [2, 4, 5, 6, 7, 21, 22] [.norm [2, 4, 5, 6, 7]] [
 ⟨some 83, none, .mv false (.s 10)⟩,
 ⟨some 84, none, .mv false (.s 11)⟩,
 ⟨some 85, none, .bin .add (.s 83) (.s 84)⟩,
 ⟨some 86, none, .idxArr 4 1 (.s 6) (.c (i64 0))⟩,
 ⟨some 87, none, .load none (some 6) false (.s 86)⟩,
 ⟨some 88, none, .idxArr 4 1 (.s 6) (.c (i64 1))⟩,
 ⟨some 89, none, .load none (some 6) false (.s 88)⟩,
 ⟨some 90, none, .idxArr 4 1 (.s 6) (.c (i64 2))⟩,
 ⟨some 91, none, .load none (some 6) false (.s 90)⟩,
 ⟨some 92, none, .build [u32 0, u32 0, u32 0, u32 0] [(0, 1, (.s 85)), (1, 1, (.s 87)), (2, 1, (.s 89)), (3, 1, (.s 91))]⟩,
 ⟨none, none, .store (some 4) 6 false (.s 6) (.s 92)⟩])))))) (
 .region [2, 4, 5, 6, 7, 21, 22] [] [
 ⟨some 93, none, .bin .add (.s 22) (.c (i64 1))⟩,
 ⟨some 22, none, .mv false (.s 93)⟩]))))))) (
 .seq (
 .seq (
 .region [2, 4, 6, 7, 94] [] [
 ⟨some 94, none, .mv false (.c (i64 0))⟩]) (
 .block 2 (
 .loop (
 .seq (
 .region [2, 4, 6, 7, 94, 95] [] [
 ⟨some 95, none, .bin .lss (.s 94) (.c (i64 4))⟩]) (
 .seq (
 .cond (.s 95) (
 .ghost (.keep [2, 4, 6, 7, 94]) .skip) (
 .ghost (.keep [2, 4]) (.exit 2))) (
 .seq (
 .block 3 (
 .seq (
 .region [2, 4, 6, 7, 12, 94] [] [
 ⟨some 96, none, .mv false (.s 94)⟩,
 ⟨some 12, none, .mv false (.s 96)⟩]) (
 .seq (
 .region [2, 4, 6, 7, 12, 94] [.norm [2, 4, 5, 6, 7]] [
 ⟨some 97, none, .mv false (.s 12)⟩,
 ⟨some 98, none, .idxArr 8 1 (.s 2) (.s 97)⟩,
 ⟨some 99, none, .load none (some 2) false (.s 98)⟩,
 ⟨some 100, none, .mv false (.s 12)⟩,
 ⟨some 101, none, .idxArr 4 1 (.s 6) (.s 100)⟩,
 ⟨some 102, none, .load none (some 6) false (.s 101)⟩,
 ⟨some 103, none, .bin .add (.s 99) (.s 102)⟩,
 ⟨some 104, none, .idxArr 8 1 (.s 2) (.s 97)⟩,
 ⟨none, none, .store none 2 false (.s 104) (.s 103)⟩]) (
 .region [2, 4, 6, 7, 94] [.norm [2, 4, 5, 6, 7]] [
 ⟨some 105, none, .mv false (.s 12)⟩,
 ⟨some 106, none, .bin .add (.s 105) (.c (i64 4))⟩,
 ⟨some 107, none, .idxArr 8 1 (.s 2) (.s 106)⟩,
 ⟨some 108, none, .load none (some 2) false (.s 107)⟩,
 ⟨some 109, none, .mv false (.s 12)⟩,
 ⟨some 110, none, .idxArr 4 1 (.s 7) (.s 109)⟩,
 ⟨some 111, none, .load none (some 7) false (.s 110)⟩,
 ⟨some 112, none, .bin .add (.s 108) (.s 111)⟩,
 ⟨some 113, none, .idxArr 8 1 (.s 2) (.s 106)⟩,
 ⟨none, none, .store none 2 false (.s 113) (.s 112)⟩])))) (
 .region [2, 4, 6, 7, 94] [] [
 ⟨some 114, none, .bin .add (.s 94) (.c (i64 1))⟩,
 ⟨some 94, none, .mv false (.s 114)⟩]))))))) (
 .seq (
 .region [4] [.norm [2, 4, 5, 6, 7]] [
 ⟨some 115, none, .load (some 8) (some 2) false (.s 2)⟩,
 ⟨none, none, .store (some 8) 4 false (.s 4) (.s 115)⟩]) (
 .ret)))))) }

def z6s : z9q :=
 { n := 1, wr := [], res := [.t 2], body :=
 .seq (
 .region [] [] [
 ⟨some 2, none, .mv true (.c (.sl (.own 1) none 0 []))⟩]) (
 .seq (
 .region [2] [] [
 ⟨some 3, none, .mv false (.s 0)⟩,
 ⟨some 4, none, .len true (.s 3)⟩,
 ⟨some 5, none, .call 12 [(.s 4)] []⟩,
 ⟨some 6, none, .mv false (.s 0)⟩,
 ⟨some 7, none, .append 1 1 true (some false) none 5 (.s 6)⟩,
 ⟨some 2, none, .mv true (.s 7)⟩]) (
 .ret)) }

def z2m : z9q :=
 { n := 1, wr := [], res := [.cell 2 (some 64) 2], body :=
 .seq (
 .region [2] [.norm [2]] [
 ⟨some 2, none, .alloc 2 (z1o (z8i 64))⟩]) (
 .seq (
 .region [2, 3] [.norm [2, 3]] [
 ⟨some 3, none, .alloc 3 (z1o (z8i 64))⟩]) (
 .seq (
 .seq (
 .region [2, 3, 11] [] [
 ⟨some 11, none, .mv false (.c (i64 0))⟩]) (
 .block 0 (
 .loop (
 .seq (
 .region [2, 3, 11, 12] [] [
 ⟨some 12, none, .bin .lss (.s 11) (.c (i64 64))⟩]) (
 .seq (
 .cond (.s 12) (
 .ghost (.keep [2, 3, 11]) .skip) (
 .ghost (.keep [2, 3]) (.exit 0))) (
 .seq (
 .block 1 (
 .seq (
 .region [2, 3, 4, 11] [] [
 ⟨some 13, none, .mv false (.s 11)⟩,
 ⟨some 4, none, .mv false (.s 13)⟩]) (
 .seq (
 .seq (
 .region [2, 3, 4, 11, 15] [] [
 ⟨some 14, none, .mv false (.s 4)⟩,
 ⟨some 15, none, .bin .lss (.s 14) (.c (i64 16))⟩]) (
 .cond (.s 15) (
 .seq (
 .seq (
 .region [2, 3, 4, 11, 22, 23, 24] [] [
 ⟨some 16, none, .mv false (.s 0)⟩,
 ⟨some 17, none, .mv false (.s 4)⟩,
 ⟨some 18, none, .bin .mul (.c (i64 4)) (.s 17)⟩,
 ⟨some 19, none, .mv false (.s 4)⟩,
 ⟨some 20, none, .bin .mul (.c (i64 4)) (.s 19)⟩,
 ⟨some 21, none, .bin .add (.s 20) (.c (i64 4))⟩,
 ⟨some 22, none, .slSl 1 (.s 16) (some (.s 18)) (some (.s 21)) none⟩,
 ⟨some 23, none, .len false (.s 22)⟩,
 ⟨some 24, none, .mv false (.c (i64 0))⟩]) (
 .block 2 (
 .loop (
 .seq (
 .region [2, 3, 4, 11, 22, 23, 24, 25] [] [
 ⟨some 25, none, .bin .lss (.s 24) (.s 23)⟩]) (
 .seq (
 .cond (.s 25) (
 .ghost (.keep [2, 3, 4, 11, 22, 23, 24]) .skip) (
 .ghost (.keep [2, 3, 11]) (.exit 2))) (
 .seq (
 .block 3 (
 .seq (
 .region [2, 3, 4, 6, 11, 22, 23, 24] [.norm [2, 3]] [
 ⟨some 26, none, .idxSl 1 (.s 22) (.s 24)⟩,
 ⟨some 27, none, .load none none false (.s 26)⟩,
 ⟨some 6, none, .mv false (.s 27)⟩]) (
 .region [2, 3, 4, 11, 22, 23, 24] [.norm [2, 3]] [
 ⟨some 28, none, .mv false (.s 4)⟩,
 ⟨some 29, none, .mv false (.s 4)⟩,
 ⟨some 30, none, .idxArr 64 1 (.s 3) (.s 29)⟩,
 ⟨some 31, none, .load none (some 3) false (.s 30)⟩,
 ⟨some 32, none, .bin .shl (.s 31) (.c (u64 8))⟩,
 ⟨some 33, none, .mv false (.s 6)⟩,
 ⟨some 34, none, .toInt .u32 (.s 33)⟩,
 ⟨some 35, none, .bin .or (.s 32) (.s 34)⟩,
 ⟨some 36, none, .idxArr 64 1 (.s 3) (.s 28)⟩,
 ⟨none, none, .store none 3 false (.s 36) (.s 35)⟩]))) (
 .region [2, 3, 4, 11, 22, 23, 24] [] [
 ⟨some 37, none, .bin .add (.s 24) (.c (i64 1))⟩,
 ⟨some 24, none, .mv false (.s 37)⟩]))))))) (
 .ghost (.keep [2, 3, 11]) (.exit 1))) (
 .ghost (.keep [2, 3, 4, 11]) .skip))) (
 .seq (
 .region [2, 3, 4, 7, 8, 11] [.norm [2, 3]] [
 ⟨some 38, none, .mv false (.s 4)⟩,
 ⟨some 39, none, .bin .sub (.s 38) (.c (i64 15))⟩,
 ⟨some 40, none, .idxArr 64 1 (.s 3) (.s 39)⟩,
 ⟨some 41, none, .load none (some 3) false (.s 40)⟩,
 ⟨some 42, none, .mv false (.s 4)⟩,
 ⟨some 43, none, .bin .sub (.s 42) (.c (i64 2))⟩,
 ⟨some 44, none, .idxArr 64 1 (.s 3) (.s 43)⟩,
 ⟨some 45, none, .load none (some 3) false (.s 44)⟩,
 ⟨some 7, none, .mv false (.s 41)⟩,
 ⟨some 8, none, .mv false (.s 45)⟩]) (
 .seq (
 .region [2, 3, 4, 8, 9, 11] [] [
 ⟨some 46, none, .mv false (.s 7)⟩,
 ⟨some 47, none, .call 13 [(.s 46), (.c (i64 (-7)))] []⟩,
 ⟨some 48, none, .mv false (.s 7)⟩,
 ⟨some 49, none, .call 13 [(.s 48), (.c (i64 (-18)))] []⟩,
 ⟨some 50, none, .bin .xor (.s 47) (.s 49)⟩,
 ⟨some 51, none, .mv false (.s 7)⟩,
 ⟨some 52, none, .bin .shr (.s 51) (.c (u64 3))⟩,
 ⟨some 53, none, .bin .xor (.s 50) (.s 52)⟩,
 ⟨some 9, none, .mv false (.s 53)⟩]) (
 .seq (
 .region [2, 3, 4, 9, 10, 11] [] [
 ⟨some 54, none, .mv false (.s 8)⟩,
 ⟨some 55, none, .call 13 [(.s 54), (.c (i64 (-17)))] []⟩,
 ⟨some 56, none, .mv false (.s 8)⟩,
 ⟨some 57, none, .call 13 [(.s 56), (.c (i64 (-19)))] []⟩,
 ⟨some 58, none, .bin .xor (.s 55) (.s 57)⟩,
 ⟨some 59, none, .mv false (.s 8)⟩,
 ⟨some 60, none, .bin .shr (.s 59) (.c (u64 10))⟩,
 ⟨some 61, none, .bin .xor (.s 58) (.s 60)⟩,
 ⟨some 10, none, .mv false (.s 61)⟩]) (
 .region [2, 3, 11] [.norm [2, 3]] [
 ⟨some 62, none, .mv false (.s 4)⟩,
 ⟨some 63, none, .mv false (.s 4)⟩,
 ⟨some 64, none, .bin .sub (.s 63) (.c (i64 16))⟩,
 ⟨some 65, none, .idxArr 64 1 (.s 3) (.s 64)⟩,
 ⟨some 66, none, .load none (some 3) false (.s 65)⟩,
 ⟨some 67, none, .mv false (.s 9)⟩,
 ⟨some 68, none, .bin .add (.s 66) (.s 67)⟩,
 ⟨some 69, none, .mv false (.s 4)⟩,
 ⟨some 70, none, .bin .sub (.s 69) (.c (i64 7))⟩,
 ⟨some 71, none, .idxArr 64 1 (.s 3) (.s 70)⟩,
 ⟨some 72, none, .load none (some 3) false (.s 71)⟩,
 ⟨some 73, none, .bin .add (.s 68) (.s 72)⟩,
 ⟨some 74, none, .mv false (.s 10)⟩,
 ⟨some 75, none, .bin .add (.s 73) (.s 74)⟩,
 ⟨some 76, none, .idxArr 64 1 (.s 3) (.s 62)⟩,
 ⟨none, none, .store none 3 false (.s 76) (.s 75)⟩]))))))) (
 .region [2, 3, 11] [] [
 ⟨some 77, none, .bin .add (.s 11) (.c (i64 1))⟩,
 ⟨some 11, none, .mv false (.s 77)⟩]))))))) (
 .seq (
 .region [2] [.norm [2, 3]] [
 ⟨some 78, none, .load (some 64) (some 3) false (.s 3)⟩,
 ⟨none, none, .store (some 64) 2 false (.s 2) (.s 78)⟩]) (
 .ret)))) }

def z1G : z9q :=
 { n := 4, wr := [], res := [.t 8], body :=
 .seq (
 .region [] [] [
 ⟨some 8, none, .mv false (.c (u32 0))⟩]) (
 .seq (
 .region [8] [] [
 ⟨some 9, none, .mv false (.s 0)⟩,
 ⟨some 10, none, .mv false (.s 1)⟩,
 ⟨some 11, none, .un .neg (.s 10)⟩,
 ⟨some 12, none, .call 13 [(.s 9), (.s 11)] []⟩,
 ⟨some 13, none, .mv false (.s 0)⟩,
 ⟨some 14, none, .mv false (.s 2)⟩,
 ⟨some 15, none, .un .neg (.s 14)⟩,
 ⟨some 16, none, .call 13 [(.s 13), (.s 15)] []⟩,
 ⟨some 17, none, .bin .xor (.s 12) (.s 16)⟩,
 ⟨some 18, none, .mv false (.s 0)⟩,
 ⟨some 19, none, .mv false (.s 3)⟩,
 ⟨some 20, none, .un .neg (.s 19)⟩,
 ⟨some 21, none, .call 13 [(.s 18), (.s 20)] []⟩,
 ⟨some 22, none, .bin .xor (.s 17) (.s 21)⟩,
 ⟨some 8, none, .mv false (.s 22)⟩]) (
 .ret)) }

def z2F : z9q :=
 { n := 1, wr := [], res := [.t 2], body :=
 .seq (
 .region [] [] [
 ⟨some 2, none, .mv true (.c (.sl (.own 1) none 0 []))⟩]) (
 .scope (
 .seq (
 .region [3, 4] [] [
 ⟨some 8, none, .mv false (.s 0)⟩,
 ⟨some 9, none, .toInt .u64 (.s 8)⟩,
 ⟨some 3, none, .mv false (.s 9)⟩,
 ⟨some 4, none, .mv false (.c (u8 0))⟩]) (
 .seq (
 .seq (
 .region [3, 4, 11] [] [
 ⟨some 10, none, .mv false (.s 0)⟩,
 ⟨some 11, none, .bin .lss (.s 10) (.c (i64 0))⟩]) (
 .cond (.s 11) (
 .region [3, 4] [] [
 ⟨some 12, none, .mv false (.s 3)⟩,
 ⟨some 13, none, .un .xor (.s 12)⟩,
 ⟨some 3, none, .mv false (.s 13)⟩,
 ⟨some 4, none, .mv false (.c (u8 255))⟩]) (
 .ghost (.keep [3, 4]) .skip))) (
 .seq (
 .region [3, 4, 5] [] [
 ⟨some 5, none, .mv false (.c (i64 8))⟩]) (
 .seq (
 .ghost (.keep [3, 4, 5]) .skip) (
 .seq (
 .block 0 (
 .loop (
 .seq (
 .seq (
 .region [3, 4, 5, 15] [] [
 ⟨some 14, none, .mv false (.s 5)⟩,
 ⟨some 15, none, .bin .gtr (.s 14) (.c (i64 0))⟩]) (
 .cond (.s 15) (
 .ghost (.keep [3, 4, 5]) .skip) (
 .ghost (.keep [3, 4, 5]) (.exit 0)))) (
 .block 1 (
 .seq (
 .seq (
 .region [3, 4, 5, 21] [] [
 ⟨some 16, none, .mv false (.s 3)⟩,
 ⟨some 17, none, .mv false (.s 5)⟩,
 ⟨some 18, none, .bin .sub (.s 17) (.c (i64 1))⟩,
 ⟨some 19, none, .bin .mul (.c (i64 8)) (.s 18)⟩,
 ⟨some 20, none, .bin .shr (.s 16) (.s 19)⟩,
 ⟨some 21, none, .bin .gtr (.s 20) (.c (u64 0))⟩]) (
 .cond (.s 21) (
 .ghost (.keep [3, 4, 5]) (.exit 0)) (
 .ghost (.keep [3, 4, 5]) .skip))) (
 .region [3, 4, 5] [] [
 ⟨some 22, none, .mv false (.s 5)⟩,
 ⟨some 23, none, .bin .sub (.s 22) (.c (i64 1))⟩,
 ⟨some 5, none, .mv false (.s 23)⟩])))))) (
 .seq (
 .region [3, 4, 5, 6] [] [
 ⟨some 24, none, .mv false (.s 5)⟩,
 ⟨some 25, none, .bin .add (.c (i64 128)) (.s 24)⟩,
 ⟨some 26, none, .toInt .u8 (.s 25)⟩,
 ⟨some 27, none, .mv false (.s 4)⟩,
 ⟨some 28, none, .bin .xor (.s 26) (.s 27)⟩,
 ⟨some 29, none, .buildSl 1 1 [u8 0] [(0, 1, (.s 28))]⟩,
 ⟨some 6, none, .mv true (.s 29)⟩]) (
 .seq (
 .seq (
 .region [3, 4, 6, 7] [] [
 ⟨some 30, none, .mv false (.s 5)⟩,
 ⟨some 31, none, .bin .sub (.s 30) (.c (i64 1))⟩,
 ⟨some 7, none, .mv false (.s 31)⟩]) (
 .block 2 (
 .loop (
 .seq (
 .seq (
 .region [3, 4, 6, 7, 33] [] [
 ⟨some 32, none, .mv false (.s 7)⟩,
 ⟨some 33, none, .bin .geq (.s 32) (.c (i64 0))⟩]) (
 .cond (.s 33) (
 .ghost (.keep [3, 4, 6, 7]) .skip) (
 .ghost (.keep [6]) (.exit 2)))) (
 .seq (
 .block 3 (
 .region [3, 4, 6, 7] [] [
 ⟨some 36, none, .mv true (.s 6)⟩,
 ⟨some 37, none, .mv false (.s 3)⟩,
 ⟨some 38, none, .mv false (.s 7)⟩,
 ⟨some 39, none, .bin .mul (.c (i64 8)) (.s 38)⟩,
 ⟨some 40, none, .bin .shr (.s 37) (.s 39)⟩,
 ⟨some 41, none, .toInt .u8 (.s 40)⟩,
 ⟨some 42, none, .mv false (.s 4)⟩,
 ⟨some 43, none, .bin .xor (.s 41) (.s 42)⟩,
 ⟨some 44, none, .buildSl 1 1 [u8 0] [(0, 1, (.s 43))]⟩,
 ⟨some 45, none, .append 1 1 false (some false) none 36 (.s 44)⟩,
 ⟨some 6, none, .mv true (.s 45)⟩])) (
 .region [3, 4, 6, 7] [] [
 ⟨some 34, none, .mv false (.s 7)⟩,
 ⟨some 35, none, .bin .sub (.s 34) (.c (i64 1))⟩,
 ⟨some 7, none, .mv false (.s 35)⟩])))))) (
 .seq (
 .region [2] [] [
 ⟨some 46, none, .mv true (.s 6)⟩,
 ⟨some 2, none, .mv true (.s 46)⟩]) (
 .ret)))))))))) }

def z6h : z9q :=
 { n := 2, wr := [], res := [.t 4], body :=
 .seq (
 .region [] [] [
 ⟨some 4, none, .mv false (.c (u32 0))⟩]) (
 .seq (
 .region [5] [] [
 ⟨some 6, none, .mv false (.s 1)⟩,
 ⟨some 7, none, .toInt .u64 (.s 6)⟩,
 ⟨some 8, none, .bin .and (.s 7) (.c (u64 31))⟩,
 ⟨some 5, none, .mv false (.s 8)⟩]) (
 .seq (
 .region [4] [] [
 ⟨some 9, none, .mv false (.s 0)⟩,
 ⟨some 10, none, .mv false (.s 5)⟩,
 ⟨some 11, none, .bin .shl (.s 9) (.s 10)⟩,
 ⟨some 12, none, .mv false (.s 0)⟩,
 ⟨some 13, none, .mv false (.s 5)⟩,
 ⟨some 14, none, .bin .sub (.c (u64 32)) (.s 13)⟩,
 ⟨some 15, none, .bin .shr (.s 12) (.s 14)⟩,
 ⟨some 16, none, .bin .or (.s 11) (.s 15)⟩,
 ⟨some 4, none, .mv false (.s 16)⟩]) (
 .ret))) }

end Go.Abs
end

section
namespace Go.Abs
def z3f (n : Int) : Prop := -9223372036854775808 ≤ n ∧ n ≤ 9223372036854775807
def z7ab : z4a := ⟨fun ds => ∃ n, z3f n ∧ ds = [i64 n], fun ds => .sl (.own 1) (some false) (z7m (asI (nth ds 0))).length (bys (z7m (asI (nth ds 0))))⟩
set_option maxRecDepth 100000 in
theorem z1Zb (c : UInt8) : c ^^^ 255 = 255 - c := by
 have h : ∀ k : Fin 256, UInt8.ofNat k.val ^^^ 255 = 255 - UInt8.ofNat k.val := by decide +kernel
 have := h ⟨c.toNat, c.toNat_lt⟩
 simpa using this
theorem z5Jc (E : Env) : ∀ ds, z7ab.pre ds → ds.length = z2F.n ∧ awp E z2F.body (z9t z2F.res (z7ab.post ds)) (z6c z2F.wr ds) := by
 rintro _ ⟨n, ⟨hn0, hn1⟩, rfl⟩
 simp (disch := first | omega | (simp; omega)) [z2F, z7ab]
 refine z3a fun Q0 hQ0 => ?_
 have key : ∀ (x : UInt64) (f : UInt8), x.toNat = mag n → (∀ c, c ^^^ f = flp n c) → Q0 .normal ⟨[(0, i64 n)], [(3, u64 x), (4, u8 f)], []⟩ := by
  intro x f hx hf
  simp (disch := first | omega | (simp; omega)) [hQ0]
  refine z3a fun Q1 hQ1 => ?_
  have key2 : ∀ k : Nat, k ≤ 8 → (z3V (mag n)).length = k → Q1 (.exit 0) ⟨[(0, i64 n)], [(3, u64 x), (4, u8 f), (5, i64 k)], []⟩ := by
   intro k hk8 hk
   simp (disch := first | omega | (simp; omega)) [hQ1, z7a]
   refine z3a fun Q2 hQ2 => ?_
   have ehd : (UInt8.ofInt 128 + UInt8.ofInt (k : Int)) ^^^ f = flp n (UInt8.ofNat (128 + k)) := by
    rw [← hf]
    congr 1
    apply UInt8.toNat_inj.1
    simp [z8sa]
    omega
   rw [ehd]
   refine z3d (fun j : Nat => ⟨[(0, i64 n)], [(3, u64 x), (4, u8 f), (6, .sl (.own 1) (some false) (1 + j) (bys (flp n (UInt8.ofNat (128 + k)) :: ((z3V (mag n)).reverse.take j).map (flp n)))), (7, i64 ((k : Int) - 1 - j))], []⟩)
    (fun j => k - j) (· ≤ k) 0 (by simp; rfl) (by simp) fun j hj => ?_
   refine z3a fun Q3 hQ3 => ?_
   simp (disch := first | omega | (simp; omega)) [z7a]
   rw [z5b]
   refine ⟨by simp, fun h => ?_, fun h => ?_⟩ <;> simp at h
   ·simp (disch := first | omega | (simp; omega)) [z7a]
    refine ⟨by omega, by omega, ?_⟩
    have hjk : j < k := by omega
    have e8 : (8 * ((k : Int) - 1 - (j : Int))).toNat = 8 * (k - 1 - j) := by omega
    have hel : (z2Da x (8 * (k - 1 - j))).toUInt8 ^^^ f = flp n ((z3V (mag n))[k - 1 - j]'(by omega)) := by
     rw [hf, z3ta, z8bb hx, z0Ya]
    have htk : ((z3V (mag n)).map (flp n)).reverse.take (j + 1) = ((z3V (mag n)).map (flp n)).reverse.take j ++ [flp n ((z3V (mag n))[k - 1 - j]'(by omega))] := by
     rw [List.take_succ_eq_append_getElem (by simp; omega)]
     simp [hk]
    rw [hQ3, e8, hel]
    simp
    refine ⟨j + 1, by omega, by omega, ⟨by omega, ?_⟩, by omega⟩
    rw [htk]
    simp [bys]
   ·have e : j = k := by omega
    subst e
    simp [hQ3, hQ2, z7m, hk, List.take_of_length_le]
    omega
  refine z3d (fun k : Nat => ⟨[(0, i64 n)], [(3, u64 x), (4, u8 f), (5, i64 k)], []⟩) (fun k => k) (fun k => k ≤ 8 ∧ (z3V (mag n)).length ≤ k) 8 rfl ?_ fun k hk => ?_
  ·refine ⟨by decide, (z5ha 8 _).2 ?_⟩
   rw [← hx]
   exact x.toNat_lt
  ·obtain ⟨hk8, hkl⟩ := hk
   refine z3a fun Q2 hQ2 => ?_
   simp (disch := first | omega | (simp; omega)) [z7a]
   rw [z5b]
   refine ⟨by simp, fun h => ?_, fun h => ?_⟩ <;> simp at h
   ·obtain ⟨j, rfl⟩ : ∃ j, k = j + 1 := ⟨k - 1, by omega⟩
    have e1 : ((8 : Int) * (((j + 1 : Nat) : Int) - 1)).toNat = 8 * j := by omega
    simp (disch := first | omega | (simp; omega)) [z7a]
    refine ⟨by omega, ?_⟩
    rw [z5b]
    refine ⟨by simp, fun h2 => ?_, fun h2 => ?_⟩ <;> simp at h2
    ·simp [hQ2]
     refine key2 (j + 1) hk8 ?_
     have h3 : ¬ (z3V (mag n)).length ≤ j := by
      rw [z5ha, ← z0Ya, Nat.not_lt, ← z3ya hx, ← e1]
      simpa using h2
     omega
    ·simp (disch := first | omega | (simp; omega)) [hQ2, z7a]
     have h3 : ¬ 0 < z2Da x (8 * j) := by rw [← e1]; simpa using h2
     have h4 : (z3V (mag n)).length ≤ j := by rw [z5ha, ← z0Ya, ← Nat.not_le, ← z3ya hx]; exact h3
     exact ⟨j, by omega, ⟨by omega, h4⟩, by omega⟩
   ·simp [hQ2]
    subst h
    exact key2 0 (by decide) (by omega)
 rw [z5b]
 have hge : ∀ m : Int, 0 ≤ m → m < 18446744073709551616 → (UInt64.ofInt m).toNat = m.toNat := fun m h0 h1 => by rw [z0qa, Int.emod_eq_of_lt h0 h1]
 refine ⟨by simp, fun h => ?_, fun h => ?_⟩ <;> simp at h
 ·simp
  refine key _ 255 ?_ ?_
  ·rw [mag, if_pos h, UInt64.toNat_not, z0qa]
   have : UInt64.size = 18446744073709551616 := rfl
   omega
  ·intro c
   rw [flp, if_pos h]
   exact z1Zb c
 ·simp
  refine key _ 0 ?_ ?_
  ·rw [hge n h (by omega), mag, if_neg (by omega)]
  ·intro c
   rw [flp, if_neg (by omega)]
   simp
end Go.Abs
end

section
namespace Go.Abs
def z1P (s : List UInt8) : List UInt8 := z7m s.length ++ s
def z4da : z4a := ⟨fun ds => ∃ s : List UInt8, s.length ≤ 1099511000000 ∧ ds = [st s], fun ds => .sl (.own 1) (some false) (z1P (gS (nth ds 0))).length (bys (z1P (gS (nth ds 0))))⟩
theorem z0oa {n : Int} (h : z3f n) : (z3V (mag n)).length ≤ 8 := by
 rw [z5ha, mag]
 obtain ⟨h1, h2⟩ := h
 split <;> omega
theorem z6l {n : Int} (h : z3f n) : (z7m n).length ≤ 9 := by
 have := z0oa h
 simp [z7m]; omega
theorem z9Eb (E : Env) (h12 : E.G 12 = z7ab) : ∀ ds, z4da.pre ds → ds.length = z6s.n ∧ awp E z6s.body (z9t z6s.res (z4da.post ds)) (z6c z6s.wr ds) := by
 rintro _ ⟨s, hs, rfl⟩
 have hi : z3f (s.length : Int) := ⟨by omega, by omega⟩
 have hl := z6l hi
 simp (disch := first | omega | (simp; omega)) [z6s, z4da, h12, z7ab, z1P, hi, z2P]
 omega
end Go.Abs
end

section
namespace Go.Abs
def z9Ob (k : List UInt8) (w : UInt8) : List UInt8 := (k.take 64 ++ z2c (64 - k.length)).map (· ^^^ w)
theorem z5Gb (k : List UInt8) (w : UInt8) : (z9Ob k w).length = 64 := by simp [z9Ob]; omega
def z3Jb (key : List UInt8) : List UInt8 := if 64 < key.length then sha key else key
def mac (key text : List UInt8) : List UInt8 := sha (z9Ob (z3Jb key) 92 ++ sha (z9Ob (z3Jb key) 54 ++ text))
def z6Wb : z4a := ⟨fun ds => ∃ (w : UInt8) (key : List UInt8), ds = [u8 w, .ep [st key]], fun ds => st (z9Ob (gS (nth (gCs (nth ds 1)) 0)) (gU8 (nth ds 0)))⟩
def macC : z4a := ⟨fun ds => ∃ key text : List UInt8, key.length < 1099511627776 ∧ text.length < 1099511000000 ∧ ds = [st key, st text], fun ds => st (mac (gS (nth ds 0)) (gS (nth ds 1)))⟩
def sts (l : List (List UInt8)) : List z2a := l.map st
@[simp] theorem z1ec (l : List (List UInt8)) : (sts l).length = l.length := by simp [sts]
@[simp] theorem z8ad : sts [] = [] := rfl
theorem z4Hb (x : List UInt8) (l : List (List UInt8)) : sts (x :: l) = st x :: sts l := rfl
@[simp] theorem z9Lc (l : List (List UInt8)) (n : Nat) : (sts l).take n = sts (l.take n) := by simp [sts]
@[simp] theorem z8Nc (l : List (List UInt8)) (n : Nat) : (sts l).drop n = sts (l.drop n) := by simp [sts]
def atS (l : List (List UInt8)) (i : Nat) : List UInt8 := l.getD i []
theorem z3Nb {l : List (List UInt8)} {n : Nat} (h : n < l.length) : hdA (sts (l.drop n)) = st (atS l n) := by
 rw [List.drop_eq_getElem_cons h, z4Hb]
 simp [atS, List.getD, List.getElem?_eq_getElem h]
def gSs (l : List z2a) : List (List UInt8) := l.map gS
@[simp] theorem z3Xc (l : List (List UInt8)) : gSs (sts l) = l := by simp [gSs, sts, Function.comp_def]
@[simp] theorem z71c : gSs [] = [] := rfl
theorem z7za {P : z2a → Prop} {l : List (List UInt8)} (h : ∀ x, P (st x)) : ∀ c ∈ sts l, P c := fun c hc => by
 simp only [sts, List.mem_map] at hc
 obtain ⟨x, _, rfl⟩ := hc
 exact h x
@[simp] theorem z6Qc (l : List (List UInt8)) : (∀ c ∈ sts l, z8e c = true) ↔ True := iff_true_intro (z7za (by simp))
@[simp] theorem z8nc (l : List (List UInt8)) : z5h (sts l) = true := z1na (z7za (by simp))
@[simp] theorem z4Oc (l : List (List UInt8)) : (∀ c ∈ sts l, z1d c) ↔ True := iff_true_intro (z7za (by simp))
@[simp] theorem z58c (l : List (List UInt8)) : (∀ c ∈ sts l, z3g c = false) ↔ True := iff_true_intro (z7za (by simp))
@[simp] theorem z2xb (l : List (List UInt8)) : (∀ c ∈ sts l, z8e c = true ∧ z1d c) ↔ True := iff_true_intro (z7za (by simp))
@[simp] theorem z1Bc (l : List (List UInt8)) : z4k (sts l) = [] := by induction l <;> simp_all [sts]
def z53 (tag : Int) (parts : List (List UInt8)) : List UInt8 := UInt8.ofInt tag :: parts.flatMap z1P
def z2p (tag : Int) (parts : List (List UInt8)) : List UInt8 := (sha (z53 tag parts)).take 16
def z5la (parts : List (List UInt8)) : Nat := (parts.map fun p => p.length + 9).sum
theorem z3Kb {s : List UInt8} (h : s.length < 1099511627776) : (z1P s).length ≤ s.length + 9 := by
 have := z6l (n := s.length) ⟨by omega, by omega⟩
 simp [z1P]; omega
def ofC : z4a := ⟨fun ds => ∃ (tag : Int) (nl : Option Bool) (parts : List (List UInt8)), z5la parts < 1099511000000 ∧ ds = [i64 tag, .sl .plain nl parts.length (sts parts)], fun ds => .agg (bys (z2p (asI (nth ds 0)) (gSs (gCs (nth ds 1)))))⟩
theorem z8m (tag : Int) (parts : List (List UInt8)) : (z2p tag parts).length = 16 := by simp [z2p, z3Ia]

def svc (l : List UInt8) : List z2a := scs (z6z.init.add l)
theorem z3eb (l : List UInt8) : (z6z.init.add l).b.length = 64 := by rw [z1Aa, z7Ab]
@[simp] theorem z5sb (l : List UInt8) : (svc l).length = 73 := z0R (z3eb l)
@[simp] theorem z0Vc (l : List UInt8) : (∀ c ∈ svc l, z1d c) ↔ True := z6Gb _
@[simp] theorem z33c (l : List UInt8) : (∀ c ∈ svc l, z3g c = false) ↔ True := z1cc _
@[simp] theorem z1Dc (l : List UInt8) : z5h (svc l) = true := z1Va _
@[simp] theorem z4Pc (l : List UInt8) : (∀ c ∈ svc l, z8e c = true) ↔ True := z4Eb _
@[simp] theorem z72c (l : List UInt8) : z0d (svc l) = true := z95b _
@[simp] theorem z7Kc (l : List UInt8) : z4k (svc l) = [] := z5xb _
@[simp] theorem z0Wc (l : List UInt8) : (svc l).take 73 = svc l := List.take_of_length_le (by rw [z5sb]; decide)
@[simp] theorem z8mc {zs : List z2a} (l : List UInt8) (h : zs.length = 73) : splice zs 0 (svc l) = svc l := z0f (by rw [z5sb, h])
@[simp] theorem z9mc : (z1o (z8i 8) ++ (bys (z2c 64) ++ [u64 0])).length = 73 := z28a
@[simp] theorem z8qc : z3ma.pre [] = True := by simp [z3ma]
@[simp] theorem z4kc : z3ma.post [] = .agg (svc []) := rfl
@[simp] theorem z39c (l m : List UInt8) : z5fb.pre [.agg (svc l), st m] = True := eq_true ⟨_, m, z3eb l, rfl⟩
@[simp] theorem z0Uc (l m : List UInt8) : z5fb.post [.agg (svc l), st m] = .agg (svc (l ++ m)) := by
 simp [z5fb, svc, z6z.v, z6z.of_scs _ (z3eb l), z93]
@[simp] theorem z2Fc (l : List UInt8) (nl : Option Bool) (n : Nat) : z7pc.post [.sl .plain nl n (bys l)] = .agg (bys (sha l)) := by simp [z7pc]
theorem z35b {l : List UInt8} (h : l.length < 1099511627776) : z5wb.pre [.agg (svc l)] = True :=
 eq_true ⟨_, z3eb l, by rw [z5Pa _ _ (by show 0 + l.length < _; omega)]; show 0 + l.length < _; omega, rfl⟩
@[simp] theorem z3Mc (l : List UInt8) : z5wb.post [.agg (svc l)] = .agg (bys (sha l)) := by simp [z5wb, svc, z6z.of_scs _ (z3eb l), sha]
@[simp] theorem z7Vc (w : UInt8) (k : List UInt8) : z6Wb.pre [u8 w, .ep [st k]] = True := eq_true ⟨w, k, rfl⟩
@[simp] theorem z4Ac (w : UInt8) (k : List UInt8) : z6Wb.post [u8 w, .ep [st k]] = st (z9Ob k w) := by simp [z6Wb]
@[simp] theorem z9Rc (k m : List UInt8) : macC.post [st k, st m] = st (mac k m) := by simp [macC]
theorem z5za {s : List UInt8} (h : s.length ≤ 1099511000000) : z4da.pre [st s] = True := eq_true ⟨s, h, rfl⟩
@[simp] theorem z5ec (s : List UInt8) : z4da.post [st s] = .sl (.own 1) (some false) (z1P s).length (bys (z1P s)) := by simp [z4da]
theorem z8Ub {tag : Int} {nl : Option Bool} {n : Nat} {l : List (List UInt8)} (hn : n = l.length) (h : z5la l < 1099511000000) : ofC.pre [i64 tag, .sl .plain nl n (sts l)] = True := eq_true ⟨tag, nl, l, h, by rw [hn]⟩
@[simp] theorem z8Wb (tag : Int) (nl : Option Bool) (n : Nat) (l : List (List UInt8)) : ofC.post [i64 tag, .sl .plain nl n (sts l)] = .agg (bys (z2p tag l)) := by simp [ofC]
attribute [simp] z5Gb z3Ia z8m
theorem z0t {zs : List z2a} {l : List UInt8} (h : l.length = zs.length) : splice zs 0 (bys l) = bys l := z0f (by simpa using h)
theorem z5D : ∀ {l : List (List UInt8)}, z5la l < 1099511000000 → (l.flatMap z1P).length ≤ z5la l
 | [], _ => by simp
 | x :: l, h => by
  simp only [z5la, List.map_cons, List.sum_cons] at h
  have h1 := z3Kb (s := x) (by omega)
  have h2 := z5D (l := l) (by simp only [z5la]; omega)
  simp only [z5la] at h2
  simp only [List.flatMap_cons, List.length_append, z5la, List.map_cons, List.sum_cons]
  omega
theorem z7ya {l : List (List UInt8)} {i : Nat} (hi : i < l.length) : (atS l i).length + 9 ≤ z5la l := by
 induction l generalizing i with
 | nil => simp at hi
 | cons x l ih =>
  simp only [z5la, List.map_cons, List.sum_cons]
  cases i with
  | zero => simp [atS]
  | succ i =>
   have := ih (i := i) (by simpa using hi)
   simp only [z5la] at this
   simp only [atS, List.getD_cons_succ] at this ⊢
   omega
theorem z0o {α β : Type} (l : List α) (f : α → List β) (d : α) {i : Nat} (hi : i < l.length) : (l.take (i + 1)).flatMap f = (l.take i).flatMap f ++ f (l.getD i d) := by
 rw [List.take_succ_eq_append_getElem hi, List.getD, List.getElem?_eq_getElem hi]
 simp only [List.flatMap_append, List.flatMap_cons, List.flatMap_nil, List.append_nil, Option.getD_some]
theorem z7Ec {l : List UInt8} {i : Nat} (h : i < l.length) : l.take (i + 1) = l.take i ++ [at8 l i] := by
 rw [List.take_succ_eq_append_getElem h, at8, List.getD, List.getElem?_eq_getElem h]; rfl
theorem z9ja : ∀ l : List (List UInt8), l.length ≤ z5la l
 | [] => by simp
 | x :: l => by
  have := z9ja l
  simp only [z5la, List.map_cons, List.sum_cons, List.length_cons] at this ⊢
  omega
theorem z5Qa (l : List (List UInt8)) (i : Nat) : z5la (l.take i) ≤ z5la l := by
 have : z5la l = z5la (l.take i) + z5la (l.drop i) := by
  simp only [z5la]
  rw [← List.sum_append, ← List.map_append, List.take_append_drop]
 omega
end Go.Abs
end

section
namespace Go.Abs
def z1Qb : z4a := ⟨fun ds => ∃ a b : List UInt8, a.length < 1099511627776 ∧ b.length < 1099511627776 ∧ ds = [st a, st b], fun ds => bo (gS (nth ds 0) == gS (nth ds 1))⟩
end Go.Abs
end

section
namespace Go.Abs
theorem z5Dc {cs : List z2a} (h : (GT.int .u8).has cs) : ∃ x : UInt8, cs = [u8 x] := by
 simp only [GT.has] at h
 obtain ⟨n, rfl, h0, h1⟩ := h
 have e0 : IntKind.u8.min = 0 := rfl
 have e1 : IntKind.u8.max = 255 := rfl
 rw [e0] at h0
 rw [e1] at h1
 refine ⟨UInt8.ofInt n, ?_⟩
 have : ((UInt8.ofInt n).toNat : Int) = n := by rw [z8sa]; omega
 rw [u8, this]
theorem z1p {cs : List z2a} (h : (GT.int .i64).has cs) : ∃ x : Int, -9223372036854775808 ≤ x ∧ x ≤ 9223372036854775807 ∧ cs = [i64 x] := by
 simp only [GT.has] at h
 obtain ⟨n, rfl, h0, h1⟩ := h
 exact ⟨n, h0, h1, rfl⟩
theorem z5Cb {cs : List z2a} (h : GT.bool.has cs) : ∃ x : Bool, cs = [bo x] := by
 simp only [GT.has] at h
 exact h
theorem z0jb {cs : List z2a} (h : GT.str.has cs) : ∃ l : List UInt8, cs = [st l] := by
 simp only [GT.has] at h
 obtain ⟨s, rfl, _⟩ := h
 exact ⟨s.data.toList, by simp [st]⟩
theorem z2lb {α : Type} {P : List z2a → Prop} {f : α → List z2a} (h : ∀ cs, P cs → ∃ x, cs = f x) : ∀ (ess : List (List z2a)), (∀ c ∈ ess, P c) → ∃ l : List α, ess = l.map f
 | [], _ => ⟨[], rfl⟩
 | c :: ess, hc => by
  obtain ⟨x, hx⟩ := h c (hc c (by simp))
  obtain ⟨l, hl⟩ := z2lb h ess fun d hd => hc d (by simp [hd])
  exact ⟨x :: l, by rw [List.map_cons, ← hx, ← hl]⟩
theorem z43a {α : Type} (f : α → z2a) : ∀ l : List α, (l.map fun x => [f x]).flatten = l.map f
 | [] => rfl
 | x :: l => by simp [z43a f l]
theorem z94a {n : Nat} {cs : List z2a} (h : (GT.arr n (.int .u8)).has cs) : ∃ l : List UInt8, l.length = n ∧ cs = bys l := by
 simp only [GT.has] at h
 obtain ⟨ess, hn, h1, rfl⟩ := h
 obtain ⟨l, rfl⟩ := z2lb (P := (GT.int .u8).has) (f := fun x => [u8 x]) (fun cs h => z5Dc h) ess (by simpa only [GT.has] using h1)
 exact ⟨l, by simpa using hn, by rw [z43a]; rfl⟩
@[simp] theorem z84c (g : GT) (c : z2a) (h : g.row = false) : g.top [c] = c := by simp [GT.top, h]

theorem z6ga {K : Cx} {W : World} {name : String} {k : IntKind} {zs : List Int} {g : Nat} {cs : List z2a} (h : Lib.TabIs K.P W name k zs) (hg : K.P.globalNamed name = some g) (hc : cs = zs.map fun z => .lit (.int k z)) :
  z7d K.toCon (z6na W) W cs g 0 := by
 subst hc
 refine z7d.mk fun i d hd => ?_
 rw [List.getElem?_map, Option.map_eq_some_iff] at hd
 obtain ⟨z, hz, rfl⟩ := hd
 have := World.var?_cell hg h i
 rw [Nat.zero_add]
 have hcell : W.cell? ⟨g, i, none⟩ = some (.int k z) := by rw [this]; simp [hz]
 exact ⟨z8rb hcell, _, hcell, by simp [z8c]⟩
def z6ba {H : Type} : DataW H → Nat
 | .lit (.string l) => l.length + 1
 | .lit _ => 1
 | .nil => 1
 | .ptr d => z6ba d + 1
 | .slice es _ => (es.attach.map fun ⟨d, _⟩ => z6ba d).sum + 1
 | .agg ps => (ps.attach.map fun ⟨d, _⟩ => z6ba d).sum + 1
 | _ => 1
theorem z5qa {H : Type} : z6ic (z6ba (H := H)) := by
 refine ⟨fun l => ?_, fun l => ?_, ?_, fun es sp => ?_, fun ps => ?_⟩
 ·cases l <;> simp [z6ba]
 ·simp [z6ba]
 ·simp [z6ba]
 ·rw [z6ba]
  have : (es.attach.map fun x : { x // x ∈ es } => z6ba x.1).sum = (es.map z6ba).sum := by rw [List.attach_map_val (l := es) (f := z6ba)]
  exact Nat.le_of_eq (by rw [← this])
 ·rw [z6ba]
  have : (ps.attach.map fun x : { x // x ∈ ps } => z6ba x.1).sum = (ps.map z6ba).sum := by rw [List.attach_map_val (l := ps) (f := z6ba)]
  exact Nat.le_trans (Nat.le_of_eq this.symm) (Nat.le_succ _)
end Go.Abs
end

section
namespace Go.Abs
section
variable {H : Type} {enc : TypeId × Value → H} {P : Program} {W W' : World}
end
end Go.Abs
end

section
namespace Go.Abs
theorem z0g {P : Nat × Bool → Prop} {l m : List (Nat × Bool)} (h : l.all (fun p => m.contains p) = true) (hm : ∀ p ∈ m, P p) : ∀ p ∈ l, P p := fun p hp => by
 have := List.all_eq_true.1 h p hp
 exact hm p (by simpa using this)
end Go.Abs
end

section
namespace Go.Abs
def z9R (b : List UInt8) : List UInt8 := b ++ z32a (UInt64.ofNat b.length)
theorem z4kb (n : UInt64) : (z32a n).length = z1Da n.toNat + 9 := by simp [z32a, z6qa]
theorem z9ra {b : List UInt8} (h : b.length < 1099511627776) : (z9R b).length % 64 = 0 ∧ b.length < (z9R b).length ∧ (z9R b).length ≤ b.length + 128 := by
 have hn : (UInt64.ofNat b.length).toNat = b.length := by rw [UInt64.toNat_ofNat']; omega
 have h1 := z61a b.length
 have h2 := z70a b.length
 simp only [z9R, List.length_append, z4kb, hn]
 omega
def blk (m : List UInt8) (s : H8) : Nat → H8
 | 0 => s
 | k + 1 => z3Va (blk m s k) ((m.drop (64 * k)).take 64)
theorem z6Ea (m : List UInt8) : ∀ k, 64 * k ≤ m.length → 64 * k < 1099511627776 → (z6z.init.add (m.take (64 * k))).h = blk m iv k
 | 0, _, _ => by simp [z6z.add, blk, z6z.init]
 | k + 1, h, h' => by
  have ih := z6Ea m k (by omega) (by omega)
  have hb := z3eb (m.take (64 * k))
  have hn : (z6z.init.add (m.take (64 * k))).n.toNat = 64 * k := by
   have e : z6z.init.n.toNat = 0 := rfl
   rw [z5Pa _ _ (by rw [e]; simp; omega), e, List.length_take]
   omega
  have h64 : (z6z.init.add (m.take (64 * k))).n.toNat % 64 = 0 := by rw [hn]; omega
  rw [show 64 * (k + 1) = 64 * k + 64 by omega, List.take_add, z93, z2ya _ hb 64 _ (by simp; omega) (by omega)]
  simp only [h64, Nat.zero_add, if_true, List.take_zero, List.nil_append, ih, blk]
  have hd : List.drop 64 (z6z.init.add (m.take (64 * k))).b = [] := List.drop_of_length_le (by omega)
  rw [hd, List.append_nil]
theorem z8kb {b : List UInt8} (h : b.length < 1099511000000) : sha b = z5ab (blk (z9R b) iv ((z9R b).length / 64)) 32 := by
 obtain ⟨h1, h2, h3⟩ := z9ra (b := b) (by omega)
 have e := z6Ea (z9R b) ((z9R b).length / 64) (by omega) (by omega)
 rw [show 64 * ((z9R b).length / 64) = (z9R b).length by omega, List.take_length] at e
 have hn : (z6z.init.add b).n = UInt64.ofNat b.length := by rw [z0Ac]; exact UInt64.zero_add _
 rw [← e, sha, z6z.sum, z9R, z93, hn]
def few (l : List (List UInt8)) : Bool := decide (l.length ≤ 12) && l.all fun s => decide (s.length ≤ 400)
def z2Ma : z4a := ⟨fun ds => ∃ x n, 0 ≤ n ∧ n ≤ 32 ∧ ds = [u32 x, i64 n], fun ds => u32 (z0Z (z8Qb (nth ds 0)) (asI (nth ds 1)).toNat)⟩
def z0fa : z4a := ⟨fun ds => ∃ (nl : Option Bool) (b : List UInt8), b.length < 1099511000000 ∧ ds = [.sl .plain nl b.length (bys b)], fun ds => .sl (.own 1) (some false) (z9R (gBs (gCs (nth ds 0)))).length (bys (z9R (gBs (gCs (nth ds 0)))))⟩
def fewC : z4a := ⟨fun ds => ∃ (nl : Option Bool) (l : List (List UInt8)), ds = [.sl .plain nl l.length (sts l)], fun ds => bo (few (gSs (gCs (nth ds 0))))⟩
def z6Cc : z4a := ⟨fun ds => ∃ (nl : Option Bool) (l : List (List UInt8)), z5la l < 1099511000000 ∧ ds = [.sl .plain nl l.length (sts l)], fun ds => st (gSs (gCs (nth ds 0))).flatten⟩
def z7nb : z4a := ⟨fun ds => ∃ h : List UInt8, h.length = 32 ∧ ds = [.agg (bys h)], fun ds => st (gBs (gCs (nth ds 0)))⟩
def z4fa : z4a := ⟨fun ds => ∃ h : List UInt8, h.length = 16 ∧ ds = [.agg (bys h)], fun ds => st (gBs (gCs (nth ds 0)))⟩
def z0oc : z4a := ⟨fun ds => ∃ (k : List UInt8) (w : UInt8), k.length < 1099511000000 ∧ ds = [st k, u8 w], fun ds => .sl (.own 1) none 64 (bys (z9Ob (z3Jb (gS (nth ds 0))) (gU8 (nth ds 1))))⟩
def z9Ra : z4a := ⟨fun ds => ∃ (nl : Option Bool) (l : List UInt8), l.length < 1099511000000 ∧ ds = [.sl .plain nl l.length (bys l)], fun ds => .agg (bys (sha (gBs (gCs (nth ds 0)))))⟩
def z1vc : z4a := ⟨fun ds => ∃ key text : List UInt8, key.length < 1099511000000 ∧ text.length < 1099510000000 ∧ ds = [st key, st text], fun ds => st (mac (gS (nth ds 0)) (gS (nth ds 1)))⟩
def z1ta : z4a := ⟨fun ds => ∃ (nl : Option Bool) (l : List UInt8), l.length < 1099511000000 ∧ ds = [.sl .plain nl l.length (bys l)], fun ds => .agg (bys ((sha (gBs (gCs (nth ds 0)))).take 16))⟩
def z7sa : z4a := ⟨fun ds => ∃ (tag : Int) (nl : Option Bool) (l : List (List UInt8)), z5la l < 1099510000000 ∧ ds = [i64 tag, .sl .plain nl l.length (sts l)],
 fun ds => .sl (.own 1) (some false) (z53 (asI (nth ds 0)) (gSs (gCs (nth ds 1)))).length (bys (z53 (asI (nth ds 0)) (gSs (gCs (nth ds 1)))))⟩
def z2Ja : z4a := ⟨fun ds => ∃ (tag : Int) (nl : Option Bool) (l : List (List UInt8)), z5la l < 1099510000000 ∧ ds = [i64 tag, .sl .plain nl l.length (sts l)], fun ds => .agg (bys (z2p (asI (nth ds 0)) (gSs (gCs (nth ds 1)))))⟩
def z5Ba : z4a := ⟨fun ds => ∃ n, z3f n ∧ ds = [i64 n], fun ds => .sl (.own 1) none (z7m (asI (nth ds 0))).length (bys (z7m (asI (nth ds 0))))⟩
def z72 : z4a := ⟨fun ds => ∃ s : List UInt8, s.length ≤ 1099511000000 ∧ ds = [st s], fun ds => .sl (.own 1) none (z1P (gS (nth ds 0))).length (bys (z1P (gS (nth ds 0))))⟩
theorem z56a {x : UInt32} {n : Int} (h0 : 0 ≤ n) (h1 : n ≤ 32) : z2Ma.pre [u32 x, i64 n] = True := eq_true ⟨x, n, h0, h1, rfl⟩
@[simp] theorem z5Ec (x : UInt32) (n : Int) : z2Ma.post [u32 x, i64 n] = u32 (z0Z x n.toNat) := by simp [z2Ma]
theorem z4jb {b : List UInt8} {nl : Option Bool} {n : Nat} (hn : n = 64) (h : b.length = 64) : z1X.pre [.sl .plain nl n (bys b)] = True := eq_true ⟨nl, b, h, by rw [hn]⟩
@[simp] theorem z9kc (b : List UInt8) (nl : Option Bool) (n : Nat) : z1X.post [.sl .plain nl n (bys b)] = .agg (z1o (z3k b 64)) := by simp [z1X]
theorem z0ab {b : List UInt8} {nl : Option Bool} {n : Nat} (hn : n = b.length) (h : b.length < 1099511000000) : z0fa.pre [.sl .plain nl n (bys b)] = True := eq_true ⟨nl, b, h, by rw [hn]⟩
@[simp] theorem z38b (b : List UInt8) (nl : Option Bool) (n : Nat) : z0fa.post [.sl .plain nl n (bys b)] = .sl (.own 1) (some false) (z9R b).length (bys (z9R b)) := by simp [z0fa]
@[simp] theorem z5Lc (l : List (List UInt8)) (nl : Option Bool) (n : Nat) : fewC.post [.sl .plain nl n (sts l)] = bo (few l) := by simp [fewC]
@[simp] theorem z8zc (l : List (List UInt8)) (nl : Option Bool) (n : Nat) : z6Cc.post [.sl .plain nl n (sts l)] = st l.flatten := by simp [z6Cc]
@[simp] theorem z69b (h : List UInt8) : z7nb.post [.agg (bys h)] = st h := by simp [z7nb]
theorem z2Fa {h : List UInt8} (hl : h.length = 16) : z4fa.pre [.agg (bys h)] = True := eq_true ⟨h, hl, rfl⟩
@[simp] theorem z6cc (h : List UInt8) : z4fa.post [.agg (bys h)] = st h := by simp [z4fa]
@[simp] theorem z5Fc (k : List UInt8) (w : UInt8) : z0oc.post [st k, u8 w] = .sl (.own 1) none 64 (bys (z9Ob (z3Jb k) w)) := by simp [z0oc]
theorem z0zb {l : List UInt8} {nl : Option Bool} {n : Nat} (hn : n = l.length) (h : l.length < 1099511000000) : z9Ra.pre [.sl .plain nl n (bys l)] = True := eq_true ⟨nl, l, h, by rw [hn]⟩
@[simp] theorem z8tc (l : List UInt8) (nl : Option Bool) (n : Nat) : z9Ra.post [.sl .plain nl n (bys l)] = .agg (bys (sha l)) := by simp [z9Ra]
@[simp] theorem z0Cc (k m : List UInt8) : z1vc.post [st k, st m] = st (mac k m) := by simp [z1vc]
theorem z3nb {l : List UInt8} {nl : Option Bool} {n : Nat} (hn : n = l.length) (h : l.length < 1099511000000) : z1ta.pre [.sl .plain nl n (bys l)] = True := eq_true ⟨nl, l, h, by rw [hn]⟩
@[simp] theorem z2jc (l : List UInt8) (nl : Option Bool) (n : Nat) : z1ta.post [.sl .plain nl n (bys l)] = .agg (bys ((sha l).take 16)) := by simp [z1ta]
theorem z6lb {tag : Int} {nl : Option Bool} {n : Nat} {l : List (List UInt8)} (hn : n = l.length) (h : z5la l < 1099510000000) : z7sa.pre [i64 tag, .sl .plain nl n (sts l)] = True := eq_true ⟨tag, nl, l, h, by rw [hn]⟩
@[simp] theorem z6gc (tag : Int) (nl : Option Bool) (n : Nat) (l : List (List UInt8)) : z7sa.post [i64 tag, .sl .plain nl n (sts l)] = .sl (.own 1) (some false) (z53 tag l).length (bys (z53 tag l)) := by simp [z7sa]
theorem z1Ka {tag : Int} {nl : Option Bool} {n : Nat} {l : List (List UInt8)} (hn : n = l.length) (h : z5la l < 1099510000000) : z2Ja.pre [i64 tag, .sl .plain nl n (sts l)] = True := eq_true ⟨tag, nl, l, h, by rw [hn]⟩
@[simp] theorem z1pa (tag : Int) (nl : Option Bool) (n : Nat) (l : List (List UInt8)) : z2Ja.post [i64 tag, .sl .plain nl n (sts l)] = .agg (bys (z2p tag l)) := by simp [z2Ja]
theorem z4ma {n : Int} (h0 : -9223372036854775808 ≤ n) (h1 : n ≤ 9223372036854775807) : z5Ba.pre [i64 n] = True := eq_true ⟨n, ⟨h0, h1⟩, rfl⟩
@[simp] theorem z6Gc (n : Int) : z5Ba.post [i64 n] = .sl (.own 1) none (z7m n).length (bys (z7m n)) := by simp [z5Ba]
theorem z1qa {s : List UInt8} (h : s.length ≤ 1099511000000) : z72.pre [st s] = True := eq_true ⟨s, h, rfl⟩
@[simp] theorem z70b (s : List UInt8) : z72.post [st s] = .sl (.own 1) none (z1P s).length (bys (z1P s)) := by simp [z72]
theorem z9La {n : Int} (h0 : -9223372036854775808 ≤ n) (h1 : n ≤ 9223372036854775807) : z7ab.pre [i64 n] = True := eq_true ⟨n, ⟨h0, h1⟩, rfl⟩
@[simp] theorem z2Qc (n : Int) : z7ab.post [i64 n] = .sl (.own 1) (some false) (z7m n).length (bys (z7m n)) := by simp [z7ab]
end Go.Abs
end

section
namespace Go.Abs
def dig (c : UInt8) : UInt8 := at8 [48, 49, 50, 51, 52, 53, 54, 55, 56, 57, 97, 98, 99, 100, 101, 102] c.toNat
def z9nc (s : List UInt8) : List UInt8 := s.flatMap fun c => [dig (c / 16), dig (c % 16)]
def hexC : z4a := ⟨fun ds => ∃ s : List UInt8, s.length < 1000000000 ∧ ds = [st s], fun ds => st (z9nc (gS (nth ds 0)))⟩
def z17c (pre : List z2a → Prop) : z4a := ⟨pre, fun _ => bo true⟩
def z7Kb : z4a := z17c fun ds => ds = []
@[simp] theorem z3Qc (s : List UInt8) : hexC.post [st s] = st (z9nc s) := by simp [hexC]
@[simp] theorem z29c : z7Kb.pre [] = True := eq_true rfl
@[simp] theorem z4Mc (ds : List z2a) : z7Kb.post ds = bo true := rfl
@[simp] theorem z0mc (a b : List UInt8) : z1Qb.post [st a, st b] = bo (a == b) := by simp [z1Qb]
end Go.Abs
end

section
namespace Go.Abs
def z3Ta : List UInt8 → Nat
 | [] => 0
 | d :: l => d.toNat + 256 * z3Ta l
theorem z6Ia (n : Nat) : z3Ta (z3V n) = n := by
 induction n using Nat.strongRecOn with
 | _ n ih =>
  by_cases h : n = 0
  ·subst h; simp [z5p, z3Ta]
  ·rw [z7x h, z3Ta, ih _ (by omega), UInt8.toNat_ofNat']
   omega
theorem z9Db {m n : Nat} (h : z3V m = z3V n) : m = n := by rw [← z6Ia m, h, z6Ia]
theorem z9Ga (n : Int) (c : UInt8) : flp n (flp n c) = c := by
 unfold flp
 split
 ·apply UInt8.toNat_inj.1
  have := c.toNat_lt
  have h : (255 : UInt8).toNat = 255 := rfl
  rw [UInt8.toNat_sub, UInt8.toNat_sub, h]
  omega
 ·rfl
theorem z8cc {n : Int} {c d : UInt8} (h : flp n c = flp n d) : c = d := by rw [← z9Ga n c, h, z9Ga]
theorem z1ya {n : Int} : ∀ {a b : List UInt8}, a.map (flp n) = b.map (flp n) → a = b
 | [], [], _ => rfl
 | [], _ :: _, h => by simp at h
 | _ :: _, [], h => by simp at h
 | x :: a, y :: b, h => by
  simp only [List.map_cons, List.cons.injEq] at h
  rw [z8cc h.1, z1ya h.2]
theorem z8Cb {m n : Int} (h : m < 0 ↔ n < 0) (c : UInt8) : flp m c = flp n c := by
 unfold flp
 by_cases hm : m < 0
 ·rw [if_pos hm, if_pos (h.1 hm)]
 ·rw [if_neg hm, if_neg (fun e => hm (h.2 e))]
theorem z72b {m n : Int} (hs : m < 0 ↔ n < 0) (h : mag m = mag n) : m = n := by
 unfold mag at h
 split at h <;> split at h <;> omega
theorem z6oa {n : Int} {k : Nat} (hk : k ≤ 8) : (flp n (UInt8.ofNat (128 + k))).toNat = if n < 0 then 127 - k else 128 + k := by
 have h : (UInt8.ofNat (128 + k)).toNat = 128 + k := by rw [UInt8.toNat_ofNat']; omega
 unfold flp
 split
 ·rw [UInt8.toNat_sub, h, show (255 : UInt8).toNat = 255 from rfl]
  omega
 ·exact h
theorem z40 {m n : Int} (hm : z3f m) (hn : z3f n) {r r' : List UInt8} (h : z7m m ++ r = z7m n ++ r') : m = n ∧ r = r' := by
 have h8 := z0oa hm
 have h8' := z0oa hn
 simp only [z7m, List.cons_append, List.cons.injEq] at h
 obtain ⟨h1, h2⟩ := h
 have e := congrArg UInt8.toNat h1
 rw [z6oa h8, z6oa h8'] at e
 have hs : m < 0 ↔ n < 0 := by
  split at e <;> split at e <;> omega
 have hl : (z3V (mag m)).length = (z3V (mag n)).length := by
  split at e <;> split at e <;> omega
 obtain ⟨h3, h4⟩ := List.append_inj h2 (by simp [hl])
 rw [show (flp n) = flp m from funext fun c => (z8Cb hs c).symm] at h3
 have h5 := List.reverse_inj.1 (z1ya h3)
 exact ⟨z72b hs (z9Db h5), h4⟩
theorem z6Wa {s t : List UInt8} (hs : s.length < 1099511627776) (ht : t.length < 1099511627776) {r r' : List UInt8} (h : z1P s ++ r = z1P t ++ r') : s = t ∧ r = r' := by
 simp only [z1P, List.append_assoc] at h
 obtain ⟨h1, h2⟩ := z40 (m := s.length) (n := t.length) ⟨by omega, by omega⟩ ⟨by omega, by omega⟩ h
 exact List.append_inj h2 (by omega)
end Go.Abs
end

section
namespace Go.Abs
def fl (h c : UInt8) : UInt8 := if h < 128 then 255 - c else c
def kOf (h : UInt8) : Nat := (fl h h).toNat - 128
def z9na (l : List UInt8) : Nat := l.foldl (fun a c => 256 * a + c.toNat) 0
def z0l : List UInt8 → Int × Nat × Nat
 | [] => (0, 0, 5)
 | h :: t =>
  if 8 < kOf h then (0, 0, 6) else if t.length < kOf h then (0, 0, 5)
  else if 0 < kOf h ∧ fl h (at8 t 0) = 0 then (0, 0, 6)
  else if 2 ^ 63 ≤ z9na ((t.take (kOf h)).map (fl h)) then (0, 0, 6)
  else (if h < 128 then -1 - (z9na ((t.take (kOf h)).map (fl h)) : Int) else z9na ((t.take (kOf h)).map (fl h)), kOf h + 1, 0)

theorem z0Za (h : UInt8) : h < 128 ↔ h.toNat < 128 := UInt8.lt_iff_toNat_lt
theorem z26a (c : UInt8) : (255 - c).toNat = 255 - c.toNat := by
 have := c.toNat_lt
 have h : (255 : UInt8).toNat = 255 := rfl
 rw [UInt8.toNat_sub, h]; omega
theorem z3Ka (h : UInt8) : kOf h = if h.toNat < 128 then 127 - h.toNat else h.toNat - 128 := by
 unfold kOf fl
 by_cases hh : h < 128
 ·rw [if_pos hh, if_pos ((z0Za h).1 hh), z26a]; have := (z0Za h).1 hh; omega
 ·rw [if_neg hh, if_neg (fun e => hh ((z0Za h).2 e))]
theorem z7Qa (l : List UInt8) (c : UInt8) : z9na (l ++ [c]) = 256 * z9na l + c.toNat := by simp [z9na]
theorem z2Ia : ∀ l : List UInt8, z9na l.reverse = z3Ta l
 | [] => rfl
 | x :: l => by rw [List.reverse_cons, z7Qa, z2Ia l, z3Ta]; omega
theorem z1rb (l : List UInt8) : z9na l = z3Ta l.reverse := by rw [← z2Ia, List.reverse_reverse]
theorem z9fb : ∀ l : List UInt8, z3Ta l < 256 ^ l.length
 | [] => by simp [z3Ta]
 | x :: l => by
  have := z9fb l
  have hx := x.toNat_lt
  rw [z3Ta, List.length_cons, Nat.pow_succ]
  omega
theorem z5ac (l : List UInt8) : z9na l < 256 ^ l.length := by rw [z1rb]; have := z9fb l.reverse; rwa [List.length_reverse] at this
theorem z7Va : ∀ l : List UInt8, (∀ c, l.getLast? = some c → c ≠ 0) → z3V (z3Ta l) = l
 | [], _ => by simp [z3Ta, z5p]
 | [x], h => by
  have hx : x ≠ 0 := h x rfl
  have hx' : x.toNat ≠ 0 := fun e => hx (UInt8.toNat_inj.1 e)
  have := x.toNat_lt
  simp only [z3Ta]
  rw [z7x (by omega), show (x.toNat + 256 * 0) / 256 = 0 by omega, z5p]
  congr 1
  apply UInt8.toNat_inj.1
  rw [UInt8.toNat_ofNat']; omega
 | x :: y :: l, h => by
  have ih := z7Va (y :: l) (fun c hc => h c (by simpa [List.getLast?_cons_cons] using hc))
  have hne : z3Ta (y :: l) ≠ 0 := fun e => by rw [e, z5p] at ih; cases ih
  have := x.toNat_lt
  rw [z3Ta, z7x (by omega), show (x.toNat + 256 * z3Ta (y :: l)) / 256 = z3Ta (y :: l) by omega, ih]
  congr 1
  apply UInt8.toNat_inj.1
  rw [UInt8.toNat_ofNat']; omega
theorem z3rb {l : List UInt8} (h : l = [] ∨ at8 l 0 ≠ 0) : (z3V (z9na l)).reverse = l := by
 rw [z1rb, z7Va, List.reverse_reverse]
 intro c hc
 rw [List.getLast?_reverse] at hc
 cases l with
 | nil => simp at hc
 | cons x l =>
  simp only [List.head?_cons, Option.some.injEq] at hc
  subst hc
  simpa using h
theorem z6jb (n : Nat) : ∀ c, (z3V n).getLast? = some c → c ≠ 0 := by
 induction n using Nat.strongRecOn with
 | _ n ih =>
  intro c hc
  by_cases h : n = 0
  ·subst h; simp [z5p] at hc
  ·rw [z7x h] at hc
   by_cases h2 : n / 256 = 0
   ·rw [h2, z5p] at hc
    simp only [List.getLast?_singleton, Option.some.injEq] at hc
    subst hc
    intro e
    have := congrArg UInt8.toNat e
    rw [UInt8.toNat_ofNat'] at this
    have h0 : (0 : UInt8).toNat = 0 := rfl
    omega
   ·have := ih (n / 256) (by omega) c
    rw [z7x h2] at this hc
    rw [List.getLast?_cons_cons] at hc
    exact this hc
theorem z2mb {n : Nat} (h : n ≠ 0) : at8 (z3V n).reverse 0 ≠ 0 := by
 have hl := z6jb n
 cases hr : (z3V n).reverse with
 | nil => rw [List.reverse_eq_nil_iff, z7x h] at hr; cases hr
 | cons x l =>
  refine hl x ?_
  rw [← List.head?_reverse, hr]; rfl
theorem z7kb (n : Nat) : z9na (z3V n).reverse = n := by rw [z2Ia, z6Ia]

theorem z4zc {n : Int} (h : z3f n) : mag n < 2 ^ 63 := by
 obtain ⟨h1, h2⟩ := h
 unfold mag
 split <;> omega
theorem z4La {n : Int} {k : Nat} (hk : k ≤ 8) : flp n (UInt8.ofNat (128 + k)) < 128 ↔ n < 0 := by
 rw [z0Za, z6oa hk]
 split <;> omega
theorem z5pc {n : Int} {k : Nat} (hk : k ≤ 8) : kOf (flp n (UInt8.ofNat (128 + k))) = k := by
 rw [z3Ka, z6oa hk]
 split <;> split <;> omega
theorem z5Qb {n : Int} {k : Nat} (hk : k ≤ 8) (c : UInt8) : fl (flp n (UInt8.ofNat (128 + k))) c = flp n c := by
 unfold fl
 by_cases h : n < 0
 ·rw [if_pos ((z4La hk).2 h)]; simp [flp, h]
 ·rw [if_neg (fun e => h ((z4La hk).1 e))]; simp [flp, h]
theorem z60a (n : Int) : (z7m n).length = (z3V (mag n)).length + 1 := by simp [z7m]

theorem z0La {n : Int} (h : z3f n) (r : List UInt8) : z0l (z7m n ++ r) = (n, (z7m n).length, 0) := by
 have h8 := z0oa h
 have hm := z4zc h
 rw [z60a]
 rw [z7m, List.cons_append, z0l, z5pc h8]
 have hl : ((z3V (mag n)).reverse.map (flp n)).length = (z3V (mag n)).length := by simp
 have ht : (((z3V (mag n)).reverse.map (flp n) ++ r).take (z3V (mag n)).length).map (fl (flp n (UInt8.ofNat (128 + (z3V (mag n)).length)))) = (z3V (mag n)).reverse := by
  rw [List.take_append_of_le_length (by omega), List.take_of_length_le (by omega), List.map_map]
  rw [show (fl (flp n (UInt8.ofNat (128 + (z3V (mag n)).length))) ∘ flp n) = id from funext fun c => by show fl _ (flp n c) = c; rw [z5Qb h8, z9Ga]]
  simp
 rw [ht, z7kb, if_neg (by omega), if_neg (by simp), if_neg, if_neg (by omega)]
 ·congr 1
  by_cases hn : n < 0
  ·rw [if_pos ((z4La h8).2 hn)]; simp only [mag, if_pos hn]; omega
  ·rw [if_neg (fun e => hn ((z4La h8).1 e))]; simp only [mag, if_neg hn]; omega
 ·rintro ⟨hp, h0⟩
  have hne : mag n ≠ 0 := fun e => by rw [e, z5p] at hp; simp at hp
  rw [z9Zb (by omega), z5Qb h8] at h0
  have := z2mb hne
  apply this
  have e : at8 ((z3V (mag n)).reverse.map (flp n)) 0 = flp n (at8 (z3V (mag n)).reverse 0) := by
   cases hr : (z3V (mag n)).reverse with
   | nil => rw [List.reverse_eq_nil_iff, z7x hne] at hr; cases hr
   | cons x l => rfl
  rw [e, z9Ga] at h0
  exact h0

theorem z8za {b : List UInt8} {n : Int} {u : Nat} (h : z0l b = (n, u, 0)) : z3f n ∧ u ≤ b.length ∧ b.take u = z7m n ∧ u = (z7m n).length := by
 cases b with
 | nil => simp [z0l] at h
 | cons x t =>
  rw [z0l] at h
  split at h
  ·simp at h
  ·rename_i h8
   split at h
   ·simp at h
   ·rename_i hl
    split at h
    ·simp at h
    ·rename_i hz
     split at h
     ·simp at h
     ·rename_i hm
      simp only [Prod.mk.injEq, and_true] at h
      obtain ⟨hn, hu⟩ := h
      generalize hds : (t.take (kOf x)).map (fl x) = ds at hm hn
      have hdl : ds.length = kOf x := by rw [← hds]; simp; omega
      have hcan : ds = [] ∨ at8 ds 0 ≠ 0 := by
       cases hd : ds with
       | nil => exact .inl rfl
       | cons y l =>
        right
        have hp : 0 < kOf x := by rw [← hdl, hd]; simp
        intro e
        apply hz
        refine ⟨hp, ?_⟩
        rw [hd] at hds
        cases t with
        | nil => simp at hl; omega
        | cons z t =>
         obtain ⟨k, hk⟩ : ∃ k, kOf x = k + 1 := ⟨kOf x - 1, by omega⟩
         rw [hk, List.take_succ_cons, List.map_cons] at hds
         simp only [List.cons.injEq] at hds
         simp only [z8Lb] at e ⊢
         rw [hds.1, e]
      have hrev := z3rb hcan
      have hmag : mag n = z9na ds := by
       subst hn
       unfold mag
       split <;> split <;> omega
      have hneg : n < 0 ↔ x < 128 := by
       subst hn
       split <;> rename_i hx <;> simp [hx] <;> omega
      have hI : z3f n := by
       subst hn
       unfold z3f
       split <;> omega
      have hk : kOf x ≤ 8 := by omega
      have henc : z7m n = x :: t.take (kOf x) := by
       unfold z7m
       rw [hmag, hrev]
       have e1 : (z3V (z9na ds)).length = kOf x := by rw [← List.length_reverse, hrev, hdl]
       rw [e1, List.cons.injEq]
       refine ⟨?_, ?_⟩
       ·apply UInt8.toNat_inj.1
        rw [z6oa hk, z3Ka]
        have := x.toNat_lt
        rw [z3Ka] at hk
        have hx := z0Za x
        by_cases hh : x.toNat < 128
        ·rw [if_pos (hneg.2 (hx.2 hh)), if_pos hh]; omega
        ·rw [if_neg (fun e => hh (hx.1 (hneg.1 e))), if_neg hh]; omega
       ·rw [← hds, List.map_map, show (flp n ∘ fl x) = id from funext fun c => by
         simp only [Function.comp, flp, fl, id]
         by_cases hx : x < 128
         ·rw [if_pos (hneg.2 hx), if_pos hx]
          apply UInt8.toNat_inj.1
          rw [z26a, z26a]; have := c.toNat_lt; omega
         ·rw [if_neg (fun e => hx (hneg.1 e)), if_neg hx]]
        simp
      refine ⟨hI, ?_, ?_, ?_⟩
      ·rw [← hu, List.length_cons]; omega
      ·rw [henc, ← hu, List.take_succ_cons]
      ·rw [henc, ← hu, List.length_cons, List.length_take]; omega

theorem z1Na (b : List UInt8) : (∃ n u, z0l b = (n, u, 0)) ∨ z0l b = (0, 0, 5) ∨ z0l b = (0, 0, 6) := by
 cases b with
 | nil => simp [z0l]
 | cons x t =>
  rw [z0l]
  split
  ·simp
  ·split
   ·simp
   ·split
    ·simp
    ·split
     ·simp
     ·exact .inl ⟨_, _, rfl⟩
end Go.Abs
end

section
namespace Go.Abs
def tri (v : z2a) (n e : Nat) : z2a := .tup [v, i64 n, i64 e]
@[simp] theorem z70c (v : z2a) (n e : Nat) : dem (tri v n e) = tri v n e := rfl
@[simp] theorem z8sc (v : z2a) (n e : Nat) : z8e (tri v n e) = z8e v := by simp [tri, z5h]
theorem z3o (v : z2a) (n e : Nat) : tri v n e = .tup [v, i64 n, i64 e] := rfl
def onB (f : List UInt8 → z2a) : z4a := ⟨fun ds => ∃ nl b, b.length ≤ 1000000000 ∧ ds = [.sl .plain nl b.length (bys b)], fun ds => f (gBs (gCs (nth ds 0)))⟩
theorem z8ja {f : List UInt8 → z2a} {nl : Option Bool} {n : Nat} {b : List UInt8} (h : b.length ≤ 1000000000) (hn : n = b.length) : (onB f).pre [.sl .plain nl n (bys b)] = True := by
 subst hn; exact eq_true ⟨nl, b, h, rfl⟩
@[simp] theorem z7Ma (f : List UInt8 → z2a) (m : z7ja) (nl : Option Bool) (n : Nat) (b : List UInt8) : (onB f).post [.sl m nl n (bys b)] = f b := by simp [onB]
def vI (b : List UInt8) : z2a := tri (i64 (z0l b).1) (z0l b).2.1 (z0l b).2.2
def z4O : z4a := onB vI

theorem z5da (h : UInt8) (t : List UInt8) : z0l (h :: t) = if 8 < kOf h then (0, 0, 6) else if t.length < kOf h then (0, 0, 5)
  else if 0 < kOf h ∧ fl h (at8 t 0) = 0 then (0, 0, 6)
  else if 2 ^ 63 ≤ z9na ((t.take (kOf h)).map (fl h)) then (0, 0, 6)
  else (if h < 128 then -1 - (z9na ((t.take (kOf h)).map (fl h)) : Int) else z9na ((t.take (kOf h)).map (fl h)), kOf h + 1, 0) := rfl
theorem z2zc (c : UInt8) : c ^^^ 255 = 255 - c := by
 have h : ∀ n : Fin 256, UInt8.ofNat n.val ^^^ 255 = 255 - UInt8.ofNat n.val := by decide +kernel
 have := h ⟨c.toNat, c.toNat_lt⟩
 simpa using this
theorem xor0 (c : UInt8) : c ^^^ 0 = c := by simp
theorem z5lb (h c : UInt8) : c ^^^ (if h < 128 then 255 else 0) = fl h c := by
 unfold fl
 split
 ·exact z2zc c
 ·exact xor0 c
theorem z0Gc {m : UInt64} {N : Nat} (hm : m.toNat = N) (hN : N < 2 ^ 56) (c : UInt8) : (z3vb m 8 ||| c.toUInt64).toNat = 256 * N + c.toNat := by
 subst hm
 have hc := c.toNat_lt
 rw [UInt64.toNat_or]
 show ((m.toBitVec <<< 8).toNat ||| c.toUInt64.toNat) = _
 rw [BitVec.toNat_shiftLeft, UInt8.toNat_toUInt64]
 show (m.toNat <<< 8 % 2 ^ 64 ||| c.toNat) = _
 rw [Nat.mod_eq_of_lt (by rw [Nat.shiftLeft_eq]; omega), ← Nat.shiftLeft_add_eq_or_of_lt (by omega), Nat.shiftLeft_eq]
 omega
theorem z1lb {l : List UInt8} {i : Nat} (h : i < l.length) : z9na (l.take (i + 1)) = 256 * z9na (l.take i) + (at8 l i).toNat := by
 rw [List.take_succ_eq_append_getElem h, z7Qa]
 simp [at8, List.getD, List.getElem?_eq_getElem h]
theorem z2ta (l : List UInt8) (i k : Nat) (h : i ≤ k) : z9na (l.take i) < 256 ^ k :=
 Nat.lt_of_lt_of_le (z5ac _) (Nat.pow_le_pow_right (by decide) (by rw [List.length_take]; omega))
theorem z9Hc {h : UInt8} {t : List UInt8} (h1 : 8 < kOf h) : z0l (h :: t) = (0, 0, 6) := by rw [z5da, if_pos h1]
theorem z2Gc {h : UInt8} {t : List UInt8} (h1 : ¬ 8 < kOf h) (h2 : t.length < kOf h) : z0l (h :: t) = (0, 0, 5) := by rw [z5da, if_neg h1, if_pos h2]
theorem z2uc {h : UInt8} {t : List UInt8} (h1 : ¬ 8 < kOf h) (h2 : ¬ t.length < kOf h) (h3 : 0 < kOf h ∧ fl h (at8 t 0) = 0) : z0l (h :: t) = (0, 0, 6) := by rw [z5da, if_neg h1, if_neg h2, if_pos h3]
theorem z2Cc {h : UInt8} {t : List UInt8} (h1 : ¬ 8 < kOf h) (h2 : ¬ t.length < kOf h) (h4 : 2 ^ 63 ≤ z9na ((t.take (kOf h)).map (fl h))) : z0l (h :: t) = (0, 0, 6) := by
 rw [z5da, if_neg h1, if_neg h2, if_pos h4, ite_self]
theorem z3pc {h : UInt8} {t : List UInt8} (h1 : ¬ 8 < kOf h) (h2 : ¬ t.length < kOf h) (h3 : ¬ (0 < kOf h ∧ fl h (at8 t 0) = 0)) (h4 : ¬ 2 ^ 63 ≤ z9na ((t.take (kOf h)).map (fl h))) :
  z0l (h :: t) = (if h < 128 then -1 - (z9na ((t.take (kOf h)).map (fl h)) : Int) else z9na ((t.take (kOf h)).map (fl h)), kOf h + 1, 0) := by rw [z5da, if_neg h1, if_neg h2, if_neg h3, if_neg h4]

def z4Fc : z4a := ⟨fun ds => ∃ nl nl' a b, a.length ≤ 1000000000 ∧ ds = [.sl .plain nl a.length (bys a), .sl .plain nl' b.length (bys b)], fun ds => bo (gBs (gCs (nth ds 0)) == gBs (gCs (nth ds 1)))⟩
@[simp] theorem z3qc (m m' : z7ja) (nl nl' : Option Bool) (n k : Nat) (a b : List UInt8) : z4Fc.post [.sl m nl n (bys a), .sl m' nl' k (bys b)] = bo (a == b) := by simp [z4Fc]
def z4Ra (b : List UInt8) (s : Nat) : Nat := if (z0l b).2.2 ≠ 0 then (z0l b).2.2 else if (z0l b).1 < 0 then 6 else if (b.length - (z0l b).2.1) / s < (z0l b).1.toNat then 5 else 0
def onC (f : List UInt8 → Nat → z2a) : z4a := ⟨fun ds => ∃ nl b, ∃ s : Nat, b.length ≤ 1000000000 ∧ 0 < s ∧ s ≤ 1000 ∧ ds = [.sl .plain nl b.length (bys b), i64 s], fun ds => f (gBs (gCs (nth ds 0))) (asI (nth ds 1)).toNat⟩
theorem z9qa {f : List UInt8 → Nat → z2a} {nl : Option Bool} {n : Nat} {b : List UInt8} {s : Int} (h : b.length ≤ 1000000000) (hn : n = b.length) (h0 : 0 < s) (h1 : s ≤ 1000) : (onC f).pre [.sl .plain nl n (bys b), i64 s] = True := by
 subst hn; exact eq_true ⟨nl, b, s.toNat, h, by omega, by omega, by rw [show ((s.toNat : Nat) : Int) = s by omega]⟩
@[simp] theorem z9Jb (f : List UInt8 → Nat → z2a) (m : z7ja) (nl : Option Bool) (n : Nat) (b : List UInt8) (s : Int) : (onC f).post [.sl m nl n (bys b), i64 s] = f b s.toNat := by simp [onC]
def z1cb : z4a := onC fun b s => tri (i64 (z0l b).1) (z0l b).2.1 (z4Ra b s)
theorem z8oa (b : List UInt8) (s : Nat) (hs : 0 < s) : (z4Ra b s = 5 ∨ z4Ra b s = 6) ∨ (z4Ra b s = 0 ∧ ∃ n u : Nat, z0l b = ((n : Int), u, 0) ∧ u ≤ b.length ∧ n * s ≤ b.length - u ∧ u ≤ 9) := by
 unfold z4Ra
 rcases z1Na b with ⟨n, u, h⟩ | h | h <;> rw [h] <;> simp only [ne_eq, not_true_eq_false, if_false, reduceCtorEq, not_false_eq_true, if_true]
 ·by_cases hn : n < 0
  ·simp [hn]
  ·rw [if_neg hn]
   split
   ·simp
   ·rename_i hd
    obtain ⟨h1, h2, h3, h4⟩ := z8za h
    have := z6l h1
    refine .inr ⟨rfl, n.toNat, u, by rw [show ((n.toNat : Nat) : Int) = n by omega], h2, ?_, by omega⟩
    have := (Nat.le_div_iff_mul_le hs).1 (Nat.not_lt.1 hd)
    exact this
 all_goals simp
def z9ia (b : List UInt8) : List UInt8 × Nat × Nat := if z4Ra b 1 = 0 then ((b.drop (z0l b).2.1).take (z0l b).1.toNat, (z0l b).2.1 + (z0l b).1.toNat, 0) else ([], 0, z4Ra b 1)
def z7W : z4a := onB fun b => tri (st (z9ia b).1) (z9ia b).2.1 (z9ia b).2.2
def z7ba {α : Type} (f : List UInt8 → α × Nat × Nat) : Nat → List UInt8 → Nat → List α × Nat × Nat
 | 0, _, at' => ([], at', 0)
 | n + 1, b, at' => if (f (b.drop at')).2.2 ≠ 0 then ([], 0, (f (b.drop at')).2.2)
  else if (z7ba f n b (at' + (f (b.drop at')).2.1)).2.2 ≠ 0 then ([], 0, (z7ba f n b (at' + (f (b.drop at')).2.1)).2.2)
  else ((f (b.drop at')).1 :: (z7ba f n b (at' + (f (b.drop at')).2.1)).1, (z7ba f n b (at' + (f (b.drop at')).2.1)).2.1, 0)
def z0v {α : Type} (f : List UInt8 → α × Nat × Nat) (s : Nat) (b : List UInt8) : List α × Nat × Nat := if z4Ra b s = 0 then z7ba f (z0l b).1.toNat b (z0l b).2.1 else ([], 0, z4Ra b s)

/-! ### Lists of whole numbers as cells -/
def z3i (l : List Int) : List z2a := l.map i64
def atI (l : List Int) (i : Nat) : Int := l.getD i 0
def gIs (l : List z2a) : List Int := l.map asI
@[simp] theorem z88b (l : List Int) : (z3i l).length = l.length := by simp [z3i]
@[simp] theorem z4Uc : z3i [] = [] := rfl
theorem z4lb (x : Int) (l : List Int) : z3i (x :: l) = i64 x :: z3i l := rfl
theorem z5rb (l : List Int) (x : Int) : z3i l ++ [i64 x] = z3i (l ++ [x]) := by simp [z3i]
@[simp] theorem z7xc (l : List Int) (n : Nat) : (z3i l).take n = z3i (l.take n) := by simp [z3i]
@[simp] theorem z6qc (l : List Int) (n : Nat) : (z3i l).drop n = z3i (l.drop n) := by simp [z3i]
@[simp] theorem z2La (l : List Int) : gIs (z3i l) = l := by simp [gIs, z3i, Function.comp_def]
theorem z03 {l : List Int} {n : Nat} (h : n < l.length) : hdA (z3i (l.drop n)) = i64 (atI l n) := by
 rw [List.drop_eq_getElem_cons h, z4lb]
 simp [atI, List.getD, List.getElem?_eq_getElem h]
theorem z1oa {P : z2a → Prop} {l : List Int} (h : ∀ x, P (i64 x)) : ∀ c ∈ z3i l, P c := fun c hc => by
 simp only [z3i, List.mem_map] at hc
 obtain ⟨x, _, rfl⟩ := hc
 exact h x
@[simp] theorem z4yc (l : List Int) : (∀ c ∈ z3i l, z8e c = true) ↔ True := iff_true_intro (z1oa (by simp))
@[simp] theorem z5lc (l : List Int) : z5h (z3i l) = true := z1na (z1oa (by simp))
@[simp] theorem z4xc (l : List Int) : (∀ c ∈ z3i l, z1d c) ↔ True := iff_true_intro (z1oa (by simp))
@[simp] theorem z7Mc (l : List Int) : (∀ c ∈ z3i l, z3g c = false) ↔ True := iff_true_intro (z1oa (by simp))
@[simp] theorem z4ub (l : List Int) : (∀ c ∈ z3i l, z8e c = true ∧ z1d c) ↔ True := iff_true_intro (z1oa (by simp))
@[simp] theorem z3kc (l : List Int) : z4k (z3i l) = [] := by induction l <;> simp_all [z3i]

def z3qa : CM := ⟨[], [2, 3], fun ds => ∃ nl b, ∃ i : Nat, b.length ≤ 1000000000 ∧ i ≤ b.length ∧ ds = [.sl .plain nl b.length (bys b), i64 i], fun _ => .fn 61 [] [.bp 2 0, .bp 3 0], fun ds j => if j = 2 then [nth ds 0] else [nth ds 1]⟩
def z1Xb (ds : List z2a) : List UInt8 := gBs (gCs (hdA (gCs (nth ds 0))))
def z7vb (ds : List z2a) : Nat := (asI (hdA (gCs (nth ds 1)))).toNat
def z8ka : CM := ⟨[0, 1], [], fun ds => ∃ nl b, ∃ i : Nat, b.length ≤ 1000000000 ∧ i ≤ b.length ∧ ds = [.ep [.sl .plain nl b.length (bys b)], .ep [i64 i]],
 fun ds => tri (i64 (z0l ((z1Xb ds).drop (z7vb ds))).1) (z7vb ds + (z0l ((z1Xb ds).drop (z7vb ds))).2.1) (z0l ((z1Xb ds).drop (z7vb ds))).2.2,
 fun ds j => if j = 0 then [hdA (gCs (nth ds 0))] else [i64 ((z7vb ds + (z0l ((z1Xb ds).drop (z7vb ds))).2.1 : Nat) : Int)]⟩
theorem z0na (b : List UInt8) : (z0l b).2.1 ≤ b.length ∧ (z0l b).2.1 ≤ 9 ∧ z3f (z0l b).1 := by
 rcases z1Na b with ⟨n, u, h⟩ | h | h
 ·obtain ⟨h1, h2, h3, h4⟩ := z8za h
  rw [h]
  exact ⟨h2, by have := z6l h1; simp only; omega, h1⟩
 all_goals rw [h]; exact ⟨by simp, by simp, by unfold z3f; decide⟩
@[simp] theorem z04c : z3qa.bx = [] := rfl
@[simp] theorem z40c : z3qa.nb = [2, 3] := rfl
theorem z8Hb {nl : Option Bool} {n : Nat} {b : List UInt8} {i : Int} (h : b.length ≤ 1000000000) (hn : n = b.length) (h0 : 0 ≤ i) (h1 : i ≤ b.length) : z3qa.pre [.sl .plain nl n (bys b), i64 i] = True := by
 subst hn; exact eq_true ⟨nl, b, i.toNat, h, by omega, by rw [show ((i.toNat : Nat) : Int) = i by omega]⟩
@[simp] theorem z4sc (ds : List z2a) : z3qa.post ds = .fn 61 [] [.bp 2 0, .bp 3 0] := rfl
@[simp] theorem z9qc (x y : z2a) : z3qa.out [x, y] 2 = [x] := rfl
@[simp] theorem z0wc (x y : z2a) : z3qa.out [x, y] 3 = [y] := rfl
@[simp] theorem z37c : z8ka.bx = [0, 1] := rfl
@[simp] theorem z3Yc : z8ka.nb = [] := rfl
theorem z5Jb {nl : Option Bool} {n : Nat} {b : List UInt8} {i : Int} (h : b.length ≤ 1000000000) (hn : n = b.length) (h0 : 0 ≤ i) (h1 : i ≤ b.length) : z8ka.pre [.ep [.sl .plain nl n (bys b)], .ep [i64 i]] = True := by
 subst hn; exact eq_true ⟨nl, b, i.toNat, h, by omega, by rw [show ((i.toNat : Nat) : Int) = i by omega]⟩
@[simp] theorem z8Cc (m : z7ja) (nl : Option Bool) (n : Nat) (b : List UInt8) (i : Int) : z8ka.post [.ep [.sl m nl n (bys b)], .ep [i64 i]] = tri (i64 (z0l (b.drop i.toNat)).1) (i.toNat + (z0l (b.drop i.toNat)).2.1) (z0l (b.drop i.toNat)).2.2 := by simp [z8ka, z1Xb, z7vb]
@[simp] theorem z0zc (x : z2a) (y : z2a) : z8ka.out [.ep [x], y] 0 = [x] := rfl
@[simp] theorem z9pc (m : z7ja) (nl : Option Bool) (n : Nat) (b : List UInt8) (i : Int) : z8ka.out [.ep [.sl m nl n (bys b)], .ep [i64 i]] 1 = [i64 ((i.toNat + (z0l (b.drop i.toNat)).2.1 : Nat) : Int)] := by simp [z8ka, z1Xb, z7vb]

/-! ### So many elements, one after the other -/
def pre {α : Type} (out : List α) (r : List α × Nat × Nat) : List α × Nat × Nat := if r.2.2 ≠ 0 then ([], 0, r.2.2) else (out ++ r.1, r.2.1, 0)
theorem z5Eb {α : Type} (f : List UInt8 → α × Nat × Nat) : ∀ (n : Nat) (b : List UInt8) (i : Nat), (z7ba f n b i).2.2 = 0 ∨ z7ba f n b i = ([], 0, (z7ba f n b i).2.2)
 | 0, b, i => .inl rfl
 | n + 1, b, i => by
  rw [z7ba]
  split
  ·exact .inr rfl
  ·split
   ·exact .inr rfl
   ·exact .inl rfl
theorem z02b {α : Type} (f : List UInt8 → α × Nat × Nat) (n : Nat) (b : List UInt8) (i : Nat) : pre [] (z7ba f n b i) = z7ba f n b i := by
 unfold pre
 rcases z5Eb f n b i with h | h
 ·rw [if_neg (by simpa using h), List.nil_append]; exact Prod.ext rfl (Prod.ext rfl h.symm)
 ·by_cases h0 : (z7ba f n b i).2.2 = 0
  ·rw [if_neg (by simpa using h0), List.nil_append]; exact Prod.ext rfl (Prod.ext rfl h0.symm)
  ·rw [if_pos h0]; exact h.symm
theorem z1Bb {α : Type} {f : List UInt8 → α × Nat × Nat} {n : Nat} {b : List UInt8} {i : Nat} {out : List α} (h : (f (b.drop i)).2.2 = 0) : pre out (z7ba f (n + 1) b i) = pre (out ++ [(f (b.drop i)).1]) (z7ba f n b (i + (f (b.drop i)).2.1)) := by
 rw [z7ba, if_neg (by simpa using h)]
 generalize z7ba f n b (i + (f (b.drop i)).2.1) = r
 obtain ⟨r1, r2, r3⟩ := r
 unfold pre
 cases r3 with
 | zero => simp
 | succ k => simp
theorem z1vb {α : Type} {f : List UInt8 → α × Nat × Nat} {n : Nat} {b : List UInt8} {i : Nat} {out : List α} (h : (f (b.drop i)).2.2 ≠ 0) : pre out (z7ba f (n + 1) b i) = ([], 0, (f (b.drop i)).2.2) := by
 rw [z7ba, if_pos h]
 unfold pre
 rw [if_pos h]
theorem z4ac {α : Type} (f : List UInt8 → α × Nat × Nat) (b : List UInt8) (i : Nat) (out : List α) : pre out (z7ba f 0 b i) = (out, i, 0) := by simp [pre, z7ba]
def vIs (r : List Int × Nat × Nat) : z2a := tri (.sl .plain none r.1.length (z3i r.1)) r.2.1 r.2.2
def z48 : z4a := onB fun b => vIs (z0v z0l 1 b)
theorem z9lb (b : List UInt8) : (z9ia b).2.1 ≤ b.length ∧ (z9ia b).1.length ≤ b.length := by
 unfold z9ia
 rcases z8oa b 1 (by decide) with (hE | hE) | ⟨hE, n, u, hg, hu, hn, hu9⟩
 ·rw [hE]; simp
 ·rw [hE]; simp
 ·rw [if_pos hE, hg]; simp; omega
@[simp] theorem z0Rb (l : List (List UInt8)) : z0d (sts l) = true := by induction l <;> simp_all [sts, z0d, z1f, st]
def z3Ac (b : List UInt8) : List UInt8 × Nat × Nat := if z4Ra b 16 = 0 then ((b.drop (z0l b).2.1).take ((z0l b).1.toNat * 16), (z0l b).2.1 + (z0l b).1.toNat * 16, 0) else ([], 0, z4Ra b 16)
end Go.Abs
end

section
namespace Go.Abs
def z3j (l : List Int) : List UInt8 := z7m l.length ++ l.flatMap z7m
def z9Jc (l : List (List UInt8)) : List UInt8 := z7m l.length ++ l.flatMap z1P
def z8Dc (n : Nat) (d : List UInt8) : List UInt8 := z7m n ++ d
theorem z6Ca {n : Nat} (h : n ≤ 9223372036854775807) : z3f (n : Int) := ⟨by omega, by omega⟩
theorem z7e : ∀ {l : List Int}, (∀ x ∈ l, z3f x) → (l.flatMap z7m).length ≤ 9 * l.length
 | [], _ => by simp
 | x :: l, h => by
  have h1 := z6l (h x (by simp))
  have h2 := z7e (l := l) fun y hy => h y (by simp [hy])
  simp only [List.flatMap_cons, List.length_append, List.length_cons]
  omega
theorem z1ra {l : List Int} {i : Nat} (h : i < l.length) : atI l i ∈ l := by simp [atI, List.getD, List.getElem?_eq_getElem h]
def z0Pc (nf : Option Bool) (l : List UInt8) : z2a := .sl (.own 1) nf l.length (bys l)
def z8Hc (f : List Int → z2a) : z4a := ⟨fun ds => ∃ nl l, l.length ≤ 100000000 ∧ (∀ x ∈ l, z3f x) ∧ ds = [.sl .plain nl l.length (z3i l)], fun ds => f (gIs (gCs (nth ds 0)))⟩
theorem z0wa {f : List Int → z2a} {nl : Option Bool} {n : Nat} {l : List Int} (h : l.length ≤ 100000000) (hl : ∀ x ∈ l, z3f x) (hn : n = l.length) : (z8Hc f).pre [.sl .plain nl n (z3i l)] = True := by
 subst hn; exact eq_true ⟨nl, l, h, hl, rfl⟩
@[simp] theorem z06 (f : List Int → z2a) (m : z7ja) (nl : Option Bool) (n : Nat) (l : List Int) : (z8Hc f).post [.sl m nl n (z3i l)] = f l := by simp [z8Hc]
def onSs (f : List (List UInt8) → z2a) : z4a := ⟨fun ds => ∃ nl l, z5la l ≤ 1000000000 ∧ ds = [.sl .plain nl l.length (sts l)], fun ds => f (gSs (gCs (nth ds 0)))⟩
@[simp] theorem z9xc (f : List (List UInt8) → z2a) (m : z7ja) (nl : Option Bool) (n : Nat) (l : List (List UInt8)) : (onSs f).post [.sl m nl n (sts l)] = f l := by simp [onSs]
def onDs (f : Nat → List UInt8 → z2a) : z4a := ⟨fun ds => ∃ nl n d, n ≤ 10000000 ∧ d.length = n * 16 ∧ ds = [.sl .plain nl n (bys d)], fun ds => f (z3w (nth ds 0)) (gBs (gCs (nth ds 0)))⟩
@[simp] theorem z7Ic (f : Nat → List UInt8 → z2a) (m : z7ja) (nl : Option Bool) (n : Nat) (d : List UInt8) : (onDs f).post [.sl m nl n (bys d)] = f n d := by simp [onDs]
def z4J : z4a := z8Hc fun l => z0Pc (some false) (z3j l)
def z5J : z4a := z8Hc fun l => z0Pc none (z3j l)
def z4H : z4a := ⟨fun ds => ∃ nl nl' a b, a.length ≤ 1000000000 ∧ ds = [.sl .plain nl a.length (z3i a), .sl .plain nl' b.length (z3i b)], fun ds => bo (gIs (gCs (nth ds 0)) == gIs (gCs (nth ds 1)))⟩
theorem z6za {nl nl' : Option Bool} {n m : Nat} {a b : List Int} (h : a.length ≤ 1000000000) (hn : n = a.length) (hm : m = b.length) : z4H.pre [.sl .plain nl n (z3i a), .sl .plain nl' m (z3i b)] = True := by
 subst hn; subst hm; exact eq_true ⟨nl, nl', a, b, h, rfl⟩
@[simp] theorem z9fc (m m' : z7ja) (nl nl' : Option Bool) (n k : Nat) (a b : List Int) : z4H.post [.sl m nl n (z3i a), .sl m' nl' k (z3i b)] = bo (a == b) := by simp [z4H]
def z5Rb : z4a := ⟨fun ds => ∃ nl nl' a b, a.length ≤ 1000000000 ∧ ds = [.sl .plain nl a.length (sts a), .sl .plain nl' b.length (sts b)], fun ds => bo (gSs (gCs (nth ds 0)) == gSs (gCs (nth ds 1)))⟩
@[simp] theorem z5kc (m m' : z7ja) (nl nl' : Option Bool) (n k : Nat) (a b : List (List UInt8)) : z5Rb.post [.sl m nl n (sts a), .sl m' nl' k (sts b)] = bo (a == b) := by simp [z5Rb]
def z0Tb : z4a := ⟨fun ds => ∃ nl nl' n m a b, n ≤ 10000000 ∧ a.length = n * 16 ∧ b.length = m * 16 ∧ ds = [.sl .plain nl n (bys a), .sl .plain nl' m (bys b)], fun ds => bo (gBs (gCs (nth ds 0)) == gBs (gCs (nth ds 1)))⟩
@[simp] theorem z0jc (m m' : z7ja) (nl nl' : Option Bool) (n k : Nat) (a b : List UInt8) : z0Tb.post [.sl m nl n (bys a), .sl m' nl' k (bys b)] = bo (a == b) := by simp [z0Tb]
end Go.Abs
end

section
namespace Go.Abs
set_option maxRecDepth 100000
end Go.Abs
end

section
namespace Go.Abs

/-! ### strings.Builder -/
@[simp] theorem z57c (id : Nat) (c x : z2a) (xs : List z2a) : z2aa 0 id c x xs = { val := i64 (z3w c) } := rfl
@[simp] theorem z30c (id : Nat) (c x : z2a) (xs : List z2a) : z2aa 1 id c x xs = { val := .tup [i64 (z3w x), .lit .nilIface], bx := [(id, some [.undef, .sl (.own 1) none (z3w c + z3w x) (z3h [] c ++ xs)])] } := rfl
@[simp] theorem z92c (id : Nat) (c x : z2a) (xs : List z2a) : z2aa 2 id c x xs = { val := .tup [i64 (z3w x), .lit .nilIface], bx := [(id, some [.undef, .sl (.own 1) none (z3w c + z3w x) (z3h [] c ++ xs)])] } := rfl
@[simp] theorem z9Xc (id : Nat) (nl : Option Bool) (n : Nat) (l : List UInt8) (x : z2a) (xs : List z2a) : z2aa 3 id (.sl (.own 1) nl n (bys l)) x xs = { val := st l, bx := [(id, some [])] } := by
 show ({ val := .lit (.string (z23 (z7r l))), bx := _ } : Eff) = _
 rw [z2ja]
 rfl
theorem kT {E : Env} {c : Arg} {a b : z5a} {Q : z8q → ASt → Prop} {s : ASt} (h : arg E s.get c = bo true) : awp E (.cond c a b) Q s = awp E a Q s := by
 rw [z5b, h]; simp
theorem kF {E : Env} {c : Arg} {a b : z5a} {Q : z8q → ASt → Prop} {s : ASt} (h : arg E s.get c = bo false) : awp E (.cond c a b) Q s = awp E b Q s := by
 rw [z5b, h]; simp

/-! ### Iterators -/
theorem z6db {f : Nat × Bool → ASt → Prop} {Q : IQ} {p : Nat × Bool} : (fun e st' => z1eb f Q e p st') = z6wa (fun st' => f p st') (fun e st' => Q e p st') := by
 funext e st'
 cases e <;> rfl
@[simp] theorem z1oc (E : Env) (l : Nat) (el : Nat → Option (List z2a)) (c : z5a) (Q : IQ) (p : Nat × Bool) (s : ASt) : z1Ua E l el (.plain c) Q p s = awp E c (fun e st' => Q e p st') s := rfl
@[simp] theorem z2Oc (E : Env) (l : Nat) (el : Nat → Option (List z2a)) (c : z5a) (b : z9Qa) (Q : IQ) (p : Nat × Bool) (s : ASt) : z1Ua E l el (.seq (.plain c) b) Q p s = awp E c (z6wa (fun st' => z1Ua E l el b Q p st') (fun e st' => Q e p st')) s := by
 simp only [z1Ua, z6db]
@[simp] theorem z4Jc (E : Env) (l : Nat) (el : Nat → Option (List z2a)) (i : Nat) (b : z9Qa) (Q : IQ) (p : Nat × Bool) (s : ASt) : z1Ua E l el (.block i b) Q p s = z1Ua E l el b (z4Qa i Q) p s := rfl
@[simp] theorem z9Pb (f : Nat × Bool → ASt → Prop) (Q : IQ) (p : Nat × Bool) (s : ASt) : z1eb f Q .normal p s = f p s := rfl
@[simp] theorem z3jc (f : Nat × Bool → ASt → Prop) (Q : IQ) (i : Nat) (p : Nat × Bool) (s : ASt) : z1eb f Q (.exit i) p s = Q (.exit i) p s := rfl
@[simp] theorem z1Hb (i : Nat) (Q : IQ) (p : Nat × Bool) (s : ASt) : z4Qa i Q .normal p s = Q .normal p s := rfl
@[simp] theorem z84b (i : Nat) (Q : IQ) (p : Nat × Bool) (s : ASt) : z4Qa i Q (.exit i) p s = Q .normal p s := by simp [z4Qa]
def z6mc (E : Env) (f : ASt → Prop) : List z8b → ASt → Prop
 | [], st => f st
 | o :: os, st => okA E o st ∧ z6mc E f os (z4g E o st)
attribute [simp] z6mc
theorem z1sb (E : Env) (f : ASt → Prop) : ∀ (xs : List z8b) (st : ASt), z6mc E f xs st = (z66 E xs st ∧ f (z3sa E xs st))
 | [], st => by simp only [z6mc, z66, z3sa, true_and]
 | o :: os, st => by simp only [z6mc, z66, z3sa, z1sb E f os]; exact propext and_assoc.symm
@[simp] theorem z6Fc (E : Env) (l : Nat) (el : Nat → Option (List z2a)) (keep : List Nat) (gs : List z7M) (xs : List z8b) (d : Option Nat) (y : Nat) (as : List Arg) (zs : List z8b) (Q : IQ) (p : Nat × Bool) (s : ASt) :
  z1Ua E l el (.yield keep gs xs d y as zs) Q p s = ((∀ s' ∈ d.toList, lk s.org s' = none) ∧ z6mc E (fun st0 => p.2 = false ∧ el p.1 = some (as.map (arg E (z53b st0).get)) ∧ z0d (as.map (arg E (z53b st0).get)) = true ∧ (z53b st0).get y = .lit (.func (.yield l) #[] #[]) ∧ (∀ q ∈ (z53b st0).box, ∀ cs, q.2 = some cs → cs.all yOk = true ∧ q.1 < 1000000) ∧
   ∀ b : Bool, z7Wa E keep gs (fun e s => Q e (if b then (p.1 + 1, false) else (p.1, true)) s) zs (z9gc d b (z53b st0))) xs s) := by
 simp only [z1sb, z6Ja, z1Ua]
 apply propext
 constructor
 ·rintro ⟨h1, h2, h3, h4, h5, h6, h8, h9⟩
  exact ⟨h2, h1, h3, h4, h5, h6, h8, h9⟩
 ·rintro ⟨h2, h1, h3, h4, h5, h6, h8, h9⟩
  exact ⟨h1, h2, h3, h4, h5, h6, h8, h9⟩
@[simp] theorem z7zc (d : Nat) (b : Bool) (o e : List (Nat × z2a)) (bx : List (Nat × Option (List z2a))) : z9gc (some d) b ⟨o, e, bx⟩ = ⟨o, (d, bo b) :: e, bx⟩ := rfl
@[simp] theorem z5Ic (b : Bool) (o e : List (Nat × z2a)) (bx : List (Nat × Option (List z2a))) : z9gc none b ⟨o, e, bx⟩ = ⟨o, e, bx⟩ := rfl
@[simp] theorem z77c (o e : List (Nat × z2a)) (b : List (Nat × Option (List z2a))) : z53b ⟨o, e, b⟩ = ⟨o, e.map fun q => (q.1, if yOk q.2 then q.2 else .undef), b⟩ := rfl
@[simp] theorem yOk_ep (cs : List z2a) : yOk (.ep cs) = false := rfl
@[simp] theorem yOk_sl (m : z7ja) (nl : Option Bool) (n : Nat) (cs : List z2a) : yOk (.sl m nl n cs) = z1f (.sl m nl n cs) := rfl
@[simp] theorem z2Dc : yOk .undef = true := rfl
@[simp] theorem yOk_bp (i o : Nat) : yOk (.bp i o) = true := rfl
@[simp] theorem z75c (v : Value) : yOk (.lit v) = true := rfl
@[simp] theorem yOk_st (l : List UInt8) : yOk (st l) = true := rfl
@[simp] theorem yOk_bo (b : Bool) : yOk (bo b) = true := rfl
@[simp] theorem z4Yc (n : Int) : yOk (i64 n) = true := rfl
@[simp] theorem z10c (cs : List z2a) : yOk (.agg cs) = z0d cs := rfl
@[simp] theorem z64c (cs : List z2a) : yOk (.tup cs) = z0d cs := rfl
@[simp] theorem z2Kc (E : Env) (l : Nat) (el : Nat → Option (List z2a)) (keep : List Nat) (gs : List z7M) (xs : List z8b) (d : Option Nat) (y : Nat) (as : List Arg) (zs : List z8b) (b : z9Qa) (Q : IQ) (p : Nat × Bool) (s : ASt) :
  z1Ua E l el (.seq (.yield keep gs xs d y as zs) b) Q p s = z1Ua E l el (.yield keep gs xs d y as zs) (z1eb (fun p st => z1Ua E l el b Q p st) Q) p s := rfl
def inp (label : List UInt8) (parts : List (List UInt8)) : List UInt8 := z1P label ++ parts.flatMap z1P
def drv (key label : List UInt8) (parts : List (List UInt8)) : List UInt8 := mac key (inp label parts)
theorem z4cc (k l : List UInt8) (p : List (List UInt8)) : (drv k l p).length = 32 := z3Ia _
attribute [simp] z4cc
def pth (key : List UInt8) (ls : List (List UInt8)) : List UInt8 := ls.foldl (fun k l => drv k l []) key
def z4bc : List UInt8 := [115, 101, 101, 100]
def z8Xc : List UInt8 := [118, 97, 108, 117, 101]
def sdN (s : List UInt8) : Nat → List UInt8
 | 0 => s
 | i + 1 => drv (sdN s i) z4bc []
def vlN (s : List UInt8) (i : Nat) : List UInt8 := drv (sdN s i) z8Xc []
def stN (s : List UInt8) : Nat → List UInt8
 | 0 => []
 | i + 1 => stN s i ++ vlN s i
def blkN (n : Int) : Nat := (n.toNat + 31) / 32
def bysN (s : List UInt8) (n : Int) : List UInt8 := if n ≤ 0 ∨ 8000 < n then [] else (stN s (blkN n)).take n.toNat
def aftN (s : List UInt8) (n : Int) : List UInt8 := if n ≤ 0 ∨ 8000 < n then s else sdN s (blkN n)

def z22c : z4a := ⟨fun ds => ∃ (key label : List UInt8) (nl : Option Bool) (parts : List (List UInt8)), key.length < 1000000000 ∧ label.length < 1000000000 ∧ z5la parts < 1000000000 ∧ ds = [st key, st label, .sl .plain nl parts.length (sts parts)], fun ds => st (drv (gS (nth ds 0)) (gS (nth ds 1)) (gSs (gCs (nth ds 2))))⟩
def inpC : z4a := ⟨fun ds => ∃ (label : List UInt8) (nl : Option Bool) (parts : List (List UInt8)), label.length < 1000000000 ∧ z5la parts < 1000000000 ∧ ds = [st label, .sl .plain nl parts.length (sts parts)], fun ds => st (inp (gS (nth ds 0)) (gSs (gCs (nth ds 1))))⟩
def pthC : z4a := ⟨fun ds => ∃ (key : List UInt8) (nl : Option Bool) (ls : List (List UInt8)), key.length < 1000000000 ∧ z5la ls < 1000000000 ∧ ds = [st key, .sl .plain nl ls.length (sts ls)], fun ds => st (pth (gS (nth ds 0)) (gSs (gCs (nth ds 1))))⟩
def gR (d : z2a) : List UInt8 := gS (nth (gCs d) 0)
def nxtC : z4a := ⟨fun ds => ∃ s : List UInt8, s.length < 1000000000 ∧ ds = [.agg [st s]], fun ds => .tup [st (drv (gR (nth ds 0)) z8Xc []), .agg [st (drv (gR (nth ds 0)) z4bc [])]]⟩
def z3yc : z4a := ⟨fun ds => ∃ (s : List UInt8) (n : Int), s.length < 1000000000 ∧ z3f n ∧ ds = [.agg [st s], i64 n], fun ds => .tup [st (bysN (gR (nth ds 0)) (asI (nth ds 1))), .agg [st (aftN (gR (nth ds 0)) (asI (nth ds 1)))]]⟩
def z1ad : ItC := ⟨fun x y => ∃ s : List UInt8, s.length < 1000000000 ∧ x = [.agg [st s]] ∧ y = [], fun x _ i => some [st (vlN (gR (nth x 0)) i), .agg [st (sdN (gR (nth x 0)) (i + 1))]], []⟩
@[simp] theorem z0Nc : z1ad.lv = [] := rfl
@[simp] theorem z0Kc (l : Nat) (x y : List z2a) : itSt l [] x y = z6c [] (x ++ .lit (.func (.yield l) #[] #[]) :: y) := by simp [itSt, z6c, lvS]

@[simp] theorem z3Lb (k l : List UInt8) (nl : Option Bool) (n : Nat) (p : List (List UInt8)) : z22c.post [st k, st l, .sl .plain nl n (sts p)] = st (drv k l p) := by simp [z22c]
@[simp] theorem z1Jc (k l : List UInt8) (nl : Option Bool) (n : Nat) : z22c.post [st k, st l, .sl .plain nl n []] = st (drv k l []) := by
 have := z3Lb k l nl n []
 simpa using this
@[simp] theorem z6Sc (l : List UInt8) (nl : Option Bool) (n : Nat) (p : List (List UInt8)) : inpC.post [st l, .sl .plain nl n (sts p)] = st (inp l p) := by simp [inpC]
@[simp] theorem z5Nc (k : List UInt8) (nl : Option Bool) (n : Nat) (p : List (List UInt8)) : pthC.post [st k, .sl .plain nl n (sts p)] = st (pth k p) := by simp [pthC]
@[simp] theorem z9Oc (s : List UInt8) : nxtC.post [.agg [st s]] = .tup [st (drv s z8Xc []), .agg [st (drv s z4bc [])]] := by simp [nxtC, gR]
@[simp] theorem z7uc (s : List UInt8) (n : Int) : z3yc.post [.agg [st s], i64 n] = .tup [st (bysN s n), .agg [st (aftN s n)]] := by simp [z3yc, gR]
end Go.Abs
end

section
namespace Go.Abs
def msgD (d : List UInt8) : List Nat := d.flatMap fun b => [b.toNat / 16, b.toNat % 16]
def sumD (d : List UInt8) : Nat := (d.map fun b => (15 - b.toNat / 16) + (15 - b.toNat % 16)).sum
def chkD (s : Nat) : List Nat := [s / 256, s / 16 % 16, s % 16]
def dgt (d : List UInt8) : List Nat := msgD d ++ chkD (sumD d)
def z35c (kb : List UInt8) (f : Nat) : Nat → List UInt8 → List UInt8
 | 0, v => v
 | n + 1, v => z2p 4 [kb, z7m ((f + n : Nat) : Int), z35c kb f n v]
theorem z6Mb {v : List UInt8} (h : v.length = 16) (kb : List UInt8) (f : Nat) : ∀ n, (z35c kb f n v).length = 16
 | 0 => h
 | _ + 1 => z8m _ _
def z4dc (c f t : Int) : Prop := 0 ≤ c ∧ c ≤ 34 ∧ 0 ≤ f ∧ f ≤ 15 ∧ 0 ≤ t ∧ t ≤ 15
instance (c f t : Int) : Decidable (z4dc c f t) := by unfold z4dc; exact inferInstance
def adv (c f t : Int) (v : List UInt8) : List UInt8 := if z4dc c f t then z35c (z7m c) f.toNat (t.toNat - f.toNat) v else z2c 16
theorem z6fb {v : List UInt8} (h : v.length = 16) (c f t : Int) : (adv c f t v).length = 16 := by
 unfold adv
 split
 ·exact z6Mb h _ _ _
 ·rfl
def z1Fc : List UInt8 := [99, 104, 97, 105, 110]
def z6Vc (seed : List UInt8) (k : Nat) : List UInt8 := (drv seed z1Fc [z7m (k : Int)]).take 16
theorem z6Ka (s : List UInt8) (k : Nat) : (z6Vc s k).length = 16 := by simp [z6Vc]

/-! ### One value of each chain -/
def z2lc (f : Nat → List UInt8) : Nat → List UInt8
 | 0 => []
 | n + 1 => z2lc f n ++ f n
theorem z1Ha {f : Nat → List UInt8} : ∀ n, (∀ k, k < n → (f k).length = 16) → (z2lc f n).length = 16 * n
 | 0, _ => rfl
 | n + 1, h => by
  rw [z2lc, List.length_append, z1Ha n fun k hk => h k (by omega), h n (by omega)]; omega
def dgI (d : List UInt8) : List Int := (dgt d).map Int.ofNat
def pubV (s : List UInt8) (k : Nat) : List UInt8 := adv k 0 15 (z6Vc s k)
def sigV (s : List UInt8) (hs : List Int) (k : Nat) : List UInt8 := adv k 0 (atI hs k) (z6Vc s k)
def endV (hs : List Int) (s : List UInt8) (k : Nat) : List UInt8 := adv k (atI hs k) 15 ((s.drop (16 * k)).take 16)
def pubS (s : List UInt8) : List UInt8 := z2lc (pubV s) 35
def sigS (s d : List UInt8) : List UInt8 := z2lc (sigV s (dgI d)) 35
def endS (d s : List UInt8) : List UInt8 := z2lc (endV (dgI d) s) 35
theorem z79a (s : List UInt8) (k : Nat) : (pubV s k).length = 16 := z6fb (z6Ka _ _) _ _ _
theorem z29a (s : List UInt8) (hs : List Int) (k : Nat) : (sigV s hs k).length = 16 := z6fb (z6Ka _ _) _ _ _
theorem z3Db (s : List UInt8) : (pubS s).length = 560 := z1Ha 35 fun k _ => z79a s k
theorem z3zb (s d : List UInt8) : (sigS s d).length = 560 := z1Ha 35 fun k _ => z29a s _ k
def recD (d s : List UInt8) : List UInt8 := if s.length = 560 then z2p 5 [endS d s] else z2c 16
def pubD (s : List UInt8) : List UInt8 := z2p 5 [pubS s]
theorem z4Jb (d s : List UInt8) : (recD d s).length = 16 := by
 unfold recD
 split
 ·exact z8m _ _
 ·rfl
theorem z1Jb (s : List UInt8) : (pubD s).length = 16 := z8m _ _
end Go.Abs
end

section
namespace Go.Abs
attribute [simp] z79a z29a z3Db z3zb z4Jb z1Jb z6Ka
theorem z3pa (bs : List Nat) (bx : Nat → Option (List z2a)) (f : Nat) (x y : List z2a) : z0A bs bx (.fn f x y) = ((∀ v ∈ x, z7q bs bx v) ∧ (∀ v ∈ y, z7q bs bx v)) := rfl
theorem z4va {l : List UInt8} (h : l.length = 16) : l.take 16 = l := by rw [← h, List.take_length]
theorem z4lc (a : List UInt8) : z5la [a] = a.length + 9 := by simp [z5la]
@[simp] theorem z7Nc (tag : Int) (x : List UInt8) (nl : Option Bool) : ofC.post [i64 tag, .sl .plain nl 1 [st x]] = .agg (bys (z2p tag [x])) := z8Wb tag nl 1 [x]
@[simp] theorem z8Ec (tag : Int) (x : List UInt8) (nl : Option Bool) : z2Ja.post [i64 tag, .sl .plain nl 1 [st x]] = .agg (bys (z2p tag [x])) := z1pa tag nl 1 [x]
end Go.Abs
end

section
namespace Go.Abs
structure Cmd where
 kind : Int
 key : Int
 other : Int
 type : Int
 uses : Int
 life : Int
 data : List UInt8
 list : List Int
def Cmd.ok (c : Cmd) : Prop := z3f c.kind ∧ z3f c.key ∧ z3f c.other ∧ z3f c.type ∧ z3f c.uses ∧ z3f c.life ∧ ∀ x ∈ c.list, z3f x
def z2k (c : Cmd) (nl : Option Bool) : List z2a := [i64 c.kind, i64 c.key, i64 c.other, i64 c.type, i64 c.uses, i64 c.life, st c.data, .sl .plain nl c.list.length (z3i c.list)]
def z7Ca (l : List z2a) : Cmd := ⟨asI (nth l 0), asI (nth l 1), asI (nth l 2), asI (nth l 3), asI (nth l 4), asI (nth l 5), gS (nth l 6), gIs (gCs (nth l 7))⟩
@[simp] theorem z8ea (c : Cmd) (nl : Option Bool) : z7Ca (z2k c nl) = c := by simp [z7Ca, z2k, nth]
def z9y : Cmd := ⟨0, 0, 0, 0, 0, 0, [], []⟩

/-! ### Kinds -/
structure Row where
 name : List UInt8
 uses : Nat
 least : Nat
 most : Nat
def z4Sc : List Row := [⟨[103, 101, 110, 101, 114, 97, 116, 101], 4, 0, 0⟩,
 ⟨[105, 109, 112, 111, 114, 116], 20, 32, 32⟩,
 ⟨[101, 120, 112, 111, 114, 116], 1, 0, 0⟩,
 ⟨[101, 110, 99, 114, 121, 112, 116], 17, 0, 1000⟩,
 ⟨[100, 101, 99, 114, 121, 112, 116], 17, 28, 1028⟩,
 ⟨[109, 97, 99], 17, 0, 1000⟩,
 ⟨[119, 114, 97, 112], 3, 0, 0⟩,
 ⟨[117, 110, 119, 114, 97, 112], 17, 1, 200⟩,
 ⟨[114, 97, 119, 45, 119, 114, 97, 112], 3, 0, 0⟩,
 ⟨[114, 97, 119, 45, 117, 110, 119, 114, 97, 112], 21, 60, 60⟩,
 ⟨[100, 101, 114, 105, 118, 101], 5, 0, 0⟩,
 ⟨[100, 101, 115, 116, 114, 111, 121], 1, 0, 0⟩,
 ⟨[114, 111, 116, 97, 116, 101], 1, 0, 0⟩,
 ⟨[98, 97, 99, 107, 117, 112], 0, 0, 0⟩,
 ⟨[114, 101, 115, 116, 111, 114, 101], 16, 1, 1048576⟩,
 ⟨[114, 101, 110, 101, 119], 0, 0, 0⟩,
 ⟨[114, 101, 112, 108, 97, 99, 101], 16, 1, 2000⟩,
 ⟨[115, 112, 108, 105, 116], 8, 0, 0⟩,
 ⟨[109, 101, 114, 103, 101], 16, 1, 1048576⟩,
 ⟨[117, 110, 108, 111, 99, 107], 0, 0, 0⟩,
 ⟨[114, 101, 107, 101, 121], 0, 0, 0⟩,
 ⟨[100, 101, 99, 111, 109, 109, 105, 115, 115, 105, 111, 110], 0, 0, 0⟩,
 ⟨[112, 114, 111, 112, 111, 115, 101], 18, 16, 16⟩,
 ⟨[97, 112, 112, 114, 111, 118, 101], 19, 1, 2000⟩,
 ⟨[119, 105, 116, 104, 100, 114, 97, 119], 19, 1, 2000⟩,
 ⟨[104, 101, 97, 100], 0, 0, 0⟩,
 ⟨[112, 105, 101, 99, 101], 3, 0, 0⟩]

def z5pa (r : Row) : List z2a := [st r.name, i64 r.uses, i64 r.least, i64 r.most]
def z0dc : List z2a := z4Sc.flatMap z5pa
def z6ad : Row := ⟨[], 0, 0, 0⟩
def z2cc (k : Int) : Row := z4Sc.getD (k - 1).toNat z6ad
def z6Pb (k : Int) : Bool := leB' 1 k && leB' k 27
where leB' (a b : Int) : Bool := decide (a ≤ b)
def z4Sb (k : Int) : List UInt8 := if 1 ≤ k ∧ k ≤ 27 then (z2cc k).name else []
def z3xc (s : List UInt8) : List Row → Nat → Nat
 | [], _ => 0
 | r :: rs, i => if r.name = s then i + 1 else z3xc s rs (i + 1)
def z8Da (s : List UInt8) : Nat := z3xc s z4Sc 0

/-! ### Bits of whole numbers -/
def z7Ka (x y : Int) : Int := IntKind.i64.wrap (BitVec.ofInt 64 x &&& ~~~ BitVec.ofInt 64 y).toNat
@[simp] theorem z5ub (x y : Int) : z2J .andNot (i64 x) (i64 y) = i64 (z7Ka x y) := rfl
@[simp] theorem z0Vb (x y : Int) : z3c .andNot (i64 x) (i64 y) = True := by simp [z3c, i64, -z8sb]
@[simp] theorem z73b (x y : Int) : z3c .and (i64 x) (i64 y) = True := by simp [z3c, i64, -z8sb]
def z9ta (n : Int) : Bool := z7Ka n 956 == 0
def z2Qb (u f : Nat) : Bool := z1Nb u f != 0
def z7Za (u f : Nat) (n most : Int) : Bool := decide (0 ≤ n) && decide (n ≤ if z2Qb u f then most else 0)
def z88c : Int → List Int → Bool
 | _, [] => true
 | last, n :: r => decide (last < n) && decide (n ≤ 4096) && z88c n r
def z9sb (u : Nat) (l : List Int) : Bool := if z2Qb u 8 then z88c 0 l && decide (0 < l.length) else decide (l.length = 0)
def z8wc (c : Cmd) (u : Nat) : Bool := z7Za u 1 c.key 4294967296 && z7Za u 2 c.other 4294967296 && z7Za u 4 c.type 31 && z7Za u 4 c.uses 956 && z7Za u 4 c.life 1099511627776
def z1zc (c : Cmd) (r : Row) : Bool := z8wc c r.uses && z9ta c.uses && z9sb r.uses c.list && (z2Qb r.uses 16 || decide (c.data = [])) && decide (r.least ≤ c.data.length)
def z7gc (c : Cmd) : Nat := if ¬ (1 ≤ c.kind ∧ c.kind ≤ 27) then 1 else if z1zc c (z2cc c.kind) then (if (z2cc c.kind).most < c.data.length then 2 else 0) else 1

/-! ### Encodings -/
def six (c : Cmd) : List Int := [c.kind, c.key, c.other, c.type, c.uses, c.life]
def z3P (c : Cmd) : List UInt8 := (six c).flatMap z7m ++ (z1P c.data ++ z3j c.list)
def z5ta : Nat → List UInt8 → List Int × List UInt8 × Nat
 | 0, b => ([], b, 0)
 | n + 1, b => if (z0l b).2.2 ≠ 0 then ([], b, (z0l b).2.2) else ((z0l b).1 :: (z5ta n (b.drop (z0l b).2.1)).1, (z5ta n (b.drop (z0l b).2.1)).2)
def aft (b : List UInt8) (n e : Nat) : List UInt8 := if e = 0 then b.drop n else b
def z2Uc (b : List UInt8) : Cmd × Nat :=
 let r := z5ta 6 b
 if r.2.2 ≠ 0 then (z9y, r.2.2) else
 let s := z9ia r.2.1
 if s.2.2 ≠ 0 then (z9y, s.2.2) else
 let l := z0v z0l 1 (r.2.1.drop s.2.1)
 if l.2.2 ≠ 0 then (z9y, l.2.2) else
 if 0 < ((r.2.1.drop s.2.1).drop l.2.1).length then (z9y, 6) else
 let c : Cmd := ⟨atI r.1 0, atI r.1 1, atI r.1 2, atI r.1 3, atI r.1 4, atI r.1 5, s.1, l.1⟩
 if z7gc c ≠ 0 then (z9y, z7gc c) else (c, 0)
end Go.Abs
end

section
namespace Go.Abs
def z8lb : z4a := ⟨fun ds => ∃ (r : Row) (s : List UInt8), ds = [.agg (z5pa r), .ep [st s]], fun ds => bo (gS (nth (gCs (nth ds 0)) 0) == gS (nth (gCs (nth ds 1)) 0))⟩
def gF1 (d : z2a) : z2a := match d with | .fn _ _ y => nth (gCs (nth y 0)) 0 | _ => .undef
def z79c : z4a := ⟨fun ds => ∃ (s : List UInt8) (nl : Option Bool), ds = [.sl .plain nl 27 z0dc, .fn 121 [] [.ep [st s]]], fun ds => i64 ((z8Da (gS (gF1 (nth ds 1))) : Int) - 1)⟩
def z8Vb : z4a := ⟨fun ds => ∃ s : List UInt8, ds = [st s], fun ds => .tup [i64 (z8Da (gS (nth ds 0))), bo (z8Da (gS (nth ds 0)) != 0)]⟩
def z71a : z4a := ⟨fun ds => ∃ k : Int, ds = [i64 k], fun ds => bo (z6Pb (asI (nth ds 0)))⟩
def z0tc : z4a := ⟨fun ds => ∃ k : Int, z3f k ∧ ds = [i64 k], fun ds => st (z4Sb (asI (nth ds 0)))⟩
def numC : z4a := ⟨fun ds => ∃ (r : Row) (f : Nat) (n most : Int), ds = [.agg (z5pa r), i64 f, i64 n, i64 most], fun ds => bo (z7Za (asI (nth (gCs (nth ds 0)) 1)).toNat (asI (nth ds 1)).toNat (asI (nth ds 2)) (asI (nth ds 3)))⟩
def z3Fc : z4a := ⟨fun ds => ∃ (r : Row) (nl : Option Bool) (l : List Int), l.length ≤ 1000000000 ∧ ds = [.agg (z5pa r), .sl .plain nl l.length (z3i l)], fun ds => bo (z9sb (asI (nth (gCs (nth ds 0)) 1)).toNat (gIs (gCs (nth ds 1))))⟩
def Cmd.small (c : Cmd) : Prop := c.ok ∧ c.data.length ≤ 100000000 ∧ c.list.length ≤ 100000000
def z7Gc : z4a := ⟨fun ds => ∃ (c : Cmd) (nl : Option Bool), c.small ∧ ds = [.agg (z2k c nl)], fun ds => i64 (z7gc (z7Ca (gCs (nth ds 0))))⟩
def bls (ps : List (Option Bool × List UInt8)) : List z2a := ps.map fun p => .sl (.own 1) p.1 p.2.length (bys p.2)
def z9Sb (ps : List (Option Bool × List UInt8)) : Nat := (ps.map fun p => p.2.length).sum
def z3Sb (l : List z2a) : List UInt8 := l.flatMap fun d => gBs (gCs d)
def mdA (b : Bool) : z7ja := if b then .own 1 else .plain
def mls (ps : List (Bool × Option Bool × List UInt8)) : List z2a := ps.map fun p => .sl (mdA p.1) p.2.1 p.2.2.length (bys p.2.2)
def z4y : z4a := ⟨fun ds => ∃ (nl : Option Bool) (ps : List (Bool × Option Bool × List UInt8)), z9Sb (ps.map (·.2)) ≤ 10000000000 ∧ ps.length ≤ 10000000000 ∧ ds = [.sl .plain nl ps.length (mls ps)], fun ds => .sl (.own 1) none (z3Sb (gCs (nth ds 0))).length (bys (z3Sb (gCs (nth ds 0))))⟩
def z0bb : z4a := ⟨fun ds => ∃ n : Nat, n ≤ 10000000000 ∧ ds = [.sl .plain (some true) 0 [], i64 n], fun _ => .sl (.own 1) none 0 []⟩
def z0la : z4a := ⟨fun ds => ∃ (c : Cmd) (nl : Option Bool), c.small ∧ ds = [.agg (z2k c nl)], fun ds => .sl (.own 1) none (z3P (z7Ca (gCs (nth ds 0)))).length (bys (z3P (z7Ca (gCs (nth ds 0)))))⟩
def z2ia : z4a := ⟨fun ds => ∃ (c : Cmd) (nl : Option Bool), c.small ∧ ds = [.agg (z2k c nl)], fun ds => .agg (bys (z2p 7 [z3P (z7Ca (gCs (nth ds 0)))]))⟩
def z2la (c d : Cmd) : Bool := c.kind == d.kind && c.key == d.key && c.other == d.other && c.type == d.type && c.uses == d.uses && c.life == d.life && c.data == d.data && c.list == d.list
def z4X : z4a := ⟨fun ds => ∃ (c d : Cmd) (nl nl' : Option Bool), c.small ∧ d.small ∧ ds = [.agg (z2k c nl), .agg (z2k d nl')], fun ds => bo (z2la (z7Ca (gCs (nth ds 0))) (z7Ca (gCs (nth ds 1))))⟩
/-! ### The reader -/
def z8ba (c : Cmd) (nl : Option Bool) (b : List UInt8) (nb : Option Bool) : List z2a := z2k c nl ++ [.sl .plain nb b.length (bys b)]
def gNl (d : z2a) : Option Bool := match d with | .sl _ nl _ _ => nl | _ => none
def rC (ds : List z2a) : Cmd := z7Ca (gCs (nth ds 0))
def rN (ds : List z2a) : Option Bool := gNl (nth (gCs (nth ds 0)) 7)
def rB (ds : List z2a) : List UInt8 := gBs (gCs (nth (gCs (nth ds 0)) 8))
def rM (ds : List z2a) : Option Bool := gNl (nth (gCs (nth ds 0)) 8)
def z7rc (l : List Int) (d : List UInt8) (ls : List Int) : Cmd := ⟨atI l 0, atI l 1, atI l 2, atI l 3, atI l 4, atI l 5, d, ls⟩
def z54c (c : Cmd) (l : List Int) : Cmd := z7rc (l ++ (six c).drop l.length) c.data c.list
def z6Bb (ds : List z2a) : Prop := ∃ (c : Cmd) (nl : Option Bool) (b : List UInt8) (nb : Option Bool), c.small ∧ b.length ≤ 100000000 ∧ ds = [.ep (z8ba c nl b nb)]
def z3Zb : CM := ⟨[0], [], fun ds => ∃ (c : Cmd) (nl : Option Bool) (b : List UInt8) (nb : Option Bool) (n e : Nat), b.length ≤ 1000000000 ∧ (e = 0 → n ≤ b.length) ∧ ds = [.ep (z8ba c nl b nb), i64 n, i64 e], fun ds => i64 (asI (nth ds 2)),
 fun ds _ => z8ba (rC ds) (rN ds) (aft (rB ds) (asI (nth ds 1)).toNat (asI (nth ds 2)).toNat) (rM ds)⟩
def z2ga : CM := ⟨[0], [], z6Bb, fun ds => i64 (z5ta 6 (rB ds)).2.2, fun ds _ => z8ba (z54c (rC ds) (z5ta 6 (rB ds)).1) (rN ds) (z5ta 6 (rB ds)).2.1 (rM ds)⟩
def z0fb : CM := ⟨[0], [], z6Bb, fun ds => i64 (z9ia (rB ds)).2.2, fun ds _ => z8ba { rC ds with data := (z9ia (rB ds)).1 } (rN ds) (aft (rB ds) (z9ia (rB ds)).2.1 (z9ia (rB ds)).2.2) (rM ds)⟩
def z8cb : CM := ⟨[0], [], z6Bb, fun ds => i64 (z0v z0l 1 (rB ds)).2.2, fun ds _ => z8ba { rC ds with list := (z0v z0l 1 (rB ds)).1 } none (aft (rB ds) (z0v z0l 1 (rB ds)).2.1 (z0v z0l 1 (rB ds)).2.2) (rM ds)⟩
def z2fc : CM := ⟨[0], [], z6Bb, fun ds => i64 (if 0 < (rB ds).length then 6 else z7gc (rC ds)), fun ds _ => z8ba (rC ds) (rN ds) (rB ds) (rM ds)⟩
def z7yc : z4a := ⟨fun ds => ∃ (nl : Option Bool) (b : List UInt8), b.length ≤ 100000000 ∧ ds = [.sl .plain nl b.length (bys b)], fun ds => .tup [.agg (z2k (z2Uc (gBs (gCs (nth ds 0)))).1 none), i64 (z2Uc (gBs (gCs (nth ds 0)))).2]⟩

@[simp] theorem z1Ic (r : Row) (s : List UInt8) : z8lb.pre [.agg (z5pa r), .ep [st s]] = True := eq_true ⟨r, s, rfl⟩
@[simp] theorem z8ec (r : Row) (s : List UInt8) : z8lb.post [.agg (z5pa r), .ep [st s]] = bo (r.name == s) := by simp [z8lb, z5pa, nth]
@[simp] theorem z63c (nl : Option Bool) (s : List UInt8) : z79c.pre [.sl .plain nl 27 z0dc, .fn 121 [] [.ep [st s]]] = True := eq_true ⟨s, nl, rfl⟩
@[simp] theorem z0Mc (nl : Option Bool) (s : List UInt8) : z79c.post [.sl .plain nl 27 z0dc, .fn 121 [] [.ep [st s]]] = i64 ((z8Da s : Int) - 1) := by simp [z79c, gF1, nth]
@[simp] theorem z3Sc (s : List UInt8) : z8Vb.pre [st s] = True := eq_true ⟨s, rfl⟩
@[simp] theorem z6Bc (s : List UInt8) : z8Vb.post [st s] = .tup [i64 (z8Da s), bo (z8Da s != 0)] := by simp [z8Vb]
@[simp] theorem z2mc (k : Int) : z71a.pre [i64 k] = True := eq_true ⟨k, rfl⟩
@[simp] theorem z8Xb (k : Int) : z71a.post [i64 k] = bo (z6Pb k) := by simp [z71a]
@[simp] theorem z8uc (k : Int) : z0tc.post [i64 k] = st (z4Sb k) := by simp [z0tc]
@[simp] theorem z0Sc (r : Row) (f n most : Int) : numC.post [.agg (z5pa r), i64 f, i64 n, i64 most] = bo (z7Za r.uses f.toNat n most) := by simp [numC, z5pa, nth]
@[simp] theorem z4Bc (r : Row) (nl : Option Bool) (n : Nat) (l : List Int) : z3Fc.post [.agg (z5pa r), .sl .plain nl n (z3i l)] = bo (z9sb r.uses l) := by simp [z3Fc, z5pa, nth]
@[simp] theorem z4rc (c : Cmd) (nl : Option Bool) : z7Gc.post [.agg (z2k c nl)] = i64 (z7gc c) := by simp [z7Gc]
theorem z3wa {c : Cmd} {nl : Option Bool} (h : c.small) : z0la.pre [.agg (z2k c nl)] = True := eq_true ⟨c, nl, h, rfl⟩
@[simp] theorem z3oa (c : Cmd) (nl : Option Bool) : z0la.post [.agg (z2k c nl)] = .sl (.own 1) none (z3P c).length (bys (z3P c)) := by simp [z0la]
theorem z3Ma {c : Cmd} {nl : Option Bool} (h : c.small) : z2ia.pre [.agg (z2k c nl)] = True := eq_true ⟨c, nl, h, rfl⟩
@[simp] theorem z7ca (c : Cmd) (nl : Option Bool) : z2ia.post [.agg (z2k c nl)] = .agg (bys (z2p 7 [z3P c])) := by simp [z2ia]
theorem z2ea {c d : Cmd} {nl nl' : Option Bool} (h : c.small) (h' : d.small) : z4X.pre [.agg (z2k c nl), .agg (z2k d nl')] = True := eq_true ⟨c, d, nl, nl', h, h', rfl⟩
@[simp] theorem z5Q (c d : Cmd) (nl nl' : Option Bool) : z4X.post [.agg (z2k c nl), .agg (z2k d nl')] = bo (z2la c d) := by simp [z4X]
@[simp] theorem z9Dc (nl : Option Bool) (n : Nat) (b : List UInt8) : z7yc.post [.sl .plain nl n (bys b)] = .tup [.agg (z2k (z2Uc b).1 none), i64 (z2Uc b).2] := by simp [z7yc]
@[simp] theorem z5Pc (ps : List (Option Bool × List UInt8)) : z3Sb (bls ps) = ps.flatMap (·.2) := by
 induction ps with
 | nil => rfl
 | cons p ps ih => simp only [z3Sb, bls, List.map_cons, List.flatMap_cons] at ih ⊢; rw [ih]; simp
theorem z93b (ps : List (Option Bool × List UInt8)) : bls ps = mls (ps.map fun p => (true, p)) := by
 rw [bls, mls, List.map_map]; rfl
theorem z0Kb (ps : List (Bool × Option Bool × List UInt8)) : z3Sb (mls ps) = ps.flatMap (·.2.2) := by
 induction ps with
 | nil => rfl
 | cons p ps ih =>
  simp only [z3Sb, mls, List.map_cons, List.flatMap_cons] at ih ⊢
  rw [ih]
  simp [gCs]
theorem z1la {nl : Option Bool} {n : Nat} {ps : List (Bool × Option Bool × List UInt8)} (h : z9Sb (ps.map (·.2)) ≤ 10000000000) (h' : ps.length ≤ 10000000000) (hn : n = ps.length) : z4y.pre [.sl .plain nl n (mls ps)] = True := eq_true ⟨nl, ps, h, h', by rw [hn]⟩
theorem z1ea (nl : Option Bool) (n : Nat) (ps : List (Bool × Option Bool × List UInt8)) : z4y.post [.sl .plain nl n (mls ps)] = .sl (.own 1) none (ps.flatMap (·.2.2)).length (bys (ps.flatMap (·.2.2))) := by
 show z2a.sl (.own 1) none (z3Sb (mls ps)).length (bys (z3Sb (mls ps))) = _
 rw [z0Kb]
theorem z99a {nl : Option Bool} {n : Nat} {ps : List (Option Bool × List UInt8)} (h : z9Sb ps ≤ 10000000000) (h' : ps.length ≤ 10000000000) (hn : n = ps.length) : z4y.pre [.sl .plain nl n (bls ps)] = True := by
 rw [z93b]
 refine z1la ?_ (by simpa using h') (by simpa using hn)
 rw [List.map_map, show ((fun x : Bool × Option Bool × List UInt8 => x.2) ∘ fun p : Option Bool × List UInt8 => (true, p)) = id from rfl, List.map_id]
 exact h
@[simp] theorem z11a (nl : Option Bool) (n : Nat) (ps : List (Option Bool × List UInt8)) : z4y.post [.sl .plain nl n (bls ps)] = .sl (.own 1) none (ps.flatMap (·.2)).length (bys (ps.flatMap (·.2))) := by simp [z4y]
theorem z2Hb {n : Int} (h0 : 0 ≤ n) (h : n ≤ 10000000000) : z0bb.pre [.sl .plain (some true) 0 [], i64 n] = True := eq_true ⟨n.toNat, by omega, by rw [show ((n.toNat : Nat) : Int) = n by omega]⟩
@[simp] theorem z5Ra (ds : List z2a) : z0bb.post ds = .sl (.own 1) none 0 [] := rfl
theorem z9ma (bs : List Nat) (bx : Nat → Option (List z2a)) (f : Nat) (x y : List z2a) : z0A bs bx (.fn f x y) = ((∀ v ∈ x, z7q bs bx v) ∧ (∀ v ∈ y, z7q bs bx v)) := rfl
@[simp] theorem z78b (c : Cmd) (nl nb : Option Bool) (b : List UInt8) (r : List z2a) : rC (.ep (z8ba c nl b nb) :: r) = c := by simp [rC, z8ba, z2k, z7Ca, nth]
@[simp] theorem z01c (c : Cmd) (nl nb : Option Bool) (b : List UInt8) (r : List z2a) : rN (.ep (z8ba c nl b nb) :: r) = nl := by simp [rN, z8ba, z2k, gNl, nth]
@[simp] theorem z13b (c : Cmd) (nl nb : Option Bool) (b : List UInt8) (r : List z2a) : rB (.ep (z8ba c nl b nb) :: r) = b := by simp [rB, z8ba, z2k, nth]
@[simp] theorem z36c (c : Cmd) (nl nb : Option Bool) (b : List UInt8) (r : List z2a) : rM (.ep (z8ba c nl b nb) :: r) = nb := by simp [rM, z8ba, z2k, gNl, nth]
end Go.Abs
end
