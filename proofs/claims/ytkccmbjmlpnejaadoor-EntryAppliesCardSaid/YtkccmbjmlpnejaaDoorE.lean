/- Lemmas: an abstract interpreter, and what the functions compute. -/
import Derived.Test.YtkccmbjmlpnejaaDoorC
import Derived.Deep.DeepHandedRow
import Derived.Lib.LaidTab
import Derived.ChangeBears
import Derived.Carry
import Derived.OpenShut
import Derived.ChangeSame
import Derived.Test.YtkccmbjmlpnejaaDoorD
set_option linter.unusedSimpArgs false
set_option linter.unusedVariables false
set_option linter.unusedSectionVars false
section
namespace Go.Abs

inductive GT where
 | bool
 | int (k : IntKind)
 | str
 | sl (e : GT)
 | arr (n : Nat) (e : GT)
 | st (fs : List GT)

mutual
def GT.has : GT → List z2a → Prop
 | .bool, cs => ∃ b, cs = [.lit (.bool b)]
 | .int k, cs => ∃ n, cs = [.lit (.int k n)] ∧ k.min ≤ n ∧ n ≤ k.max
 | .str, cs => ∃ s : ByteArray, cs = [.lit (.string s)] ∧ s.size ≤ maxLen
 | .sl e, cs => ∃ ess : List (List z2a), (∀ c ∈ ess, e.has c) ∧ cs = [.sl .plain none ess.length ess.flatten] ∧ ess.length ≤ maxLen
 | .arr n e, cs => ∃ ess : List (List z2a), ess.length = n ∧ (∀ c ∈ ess, e.has c) ∧ cs = ess.flatten
 | .st fs, cs => GT.hasL fs cs
def GT.hasL : List GT → List z2a → Prop
 | [], cs => cs = []
 | f :: fs, cs => ∃ a b, cs = a ++ b ∧ f.has a ∧ GT.hasL fs b
end

mutual
def GT.flat : GT → Bool
 | .sl _ => false
 | .arr _ e => e.flat
 | .st fs => GT.flatL fs
 | _ => true
def GT.flatL : List GT → Bool
 | [] => true
 | f :: fs => f.flat && GT.flatL fs
end

mutual
def GT.fits (P : Program) : GT → TypeId → Bool
 | .bool, t => match P.underlying t with | some .bool => true | _ => false
 | .int k, t => match P.underlying t with | some (.int k') => k == k' | _ => false
 | .str, t => match P.underlying t with | some .string => true | _ => false
 | .sl e, t => match P.underlying t with | some (.slice t') => e.fits P t' && (P.cellsOf t' != 0) | _ => false
 | .arr n e, t => match P.underlying t with | some (.array n' t') => n == n' && e.fits P t' | _ => false
 | .st fs, t => match P.underlying t with | some (.struct F) => GT.fitsL P fs (F.toList.map (·.type)) | _ => false
def GT.fitsL (P : Program) : List GT → List TypeId → Bool
 | [], [] => true
 | f :: fs, t :: ts => f.fits P t && GT.fitsL P fs ts
 | _, _ => false
end

mutual
def wt : z2a → Nat
 | .lit (.string s) => s.size + 1
 | .sl _ _ _ cs => wtL cs + 1
 | .agg cs => wtL cs
 | _ => 1
def wtL : List z2a → Nat
 | [] => 0
 | c :: cs => wt c + wtL cs
end
theorem z4Fa (a b : List z2a) : wtL (a ++ b) = wtL a + wtL b := by
 induction a with
 | nil => simp [wtL]
 | cons x a ih => simp only [List.cons_append, wtL, ih]; omega

structure z7lc {H : Type} (B : DataW H → Nat) : Prop where
 lit : ∀ l, 1 ≤ B (.lit l)
 str : ∀ l, l.length + 1 ≤ B (.lit (.string l))
 nil : 1 ≤ B .nil
 slice : ∀ es sp, (es.map B).sum + 1 ≤ B (.slice es sp)
 agg : ∀ ps, (ps.map B).sum ≤ B (.agg ps)

section
variable {H : Type} {enc : TypeId × Value → H} {K : Cx} {S : Nat → Nat} {W : World} {B : DataW H → Nat}

theorem z3d.app {K : Con} {S : Nat → Nat} {w : World} : ∀ {ds ds' : List z2a} {vs vs' : List Value}, z3d K S w ds vs → z3d K S w ds' vs' → z3d K S w (ds ++ ds') (vs ++ vs')
 | [], _, vs, _, h, h' => by simp only [z3d] at h; subst h; simpa using h'
 | c :: cs, _, vs, _, h, h' => by
  simp only [z3d] at h
  obtain ⟨x, xs, rfl, h1, h2⟩ := h
  simp only [List.cons_append, z3d]
  exact ⟨x, xs ++ _, rfl, h1, z3d.app h2 h'⟩

noncomputable def z7ua (w : World) : Nat → Nat := fun b => match w.heap[b]? with | some (.cells c _ _) => c.size | _ => 0
theorem z3pb {w : World} {b o : Nat} {x : Value} (h : w.cell? ⟨b, o, none⟩ = some x) : o < z7ua w b := by
 unfold World.cell? at h
 unfold z7ua
 cases hb : w.heap[b]? with
 | none => simp [hb] at h
 | some q =>
  cases q with
  | cells c e fr =>
   simp [hb] at h
   exact (Array.getElem?_eq_some_iff.1 h).1
  | _ => simp [hb] at h

theorem z6db {b off sz : Nat} {cs : List (List Value)} {as : List (List z2a)} (hl : as.length = cs.length) (hsz : ∀ (i : Nat) c, cs[i]? = some c → c.length = sz)
  (hc : ∀ (i : Nat) c, cs[i]? = some c → ∀ j, j < sz → W.cell? ⟨b, off + i * sz + j, none⟩ = c[j]?) (hr : ∀ (i : Nat) a c, as[i]? = some a → cs[i]? = some c → z3d K.toCon (z7ua W) W a c) :
  z9e K.toCon (z7ua W) W as.flatten b off := by
 induction as generalizing cs off with
 | nil => simp [z9e]
 | cons a as ih =>
  cases cs with
  | nil => simp at hl
  | cons c cs =>
   have h0 := hr 0 a c rfl rfl
   have hlen := h0.len
   have hcs := hsz 0 c rfl
   have hrest := ih (off := off + sz) (cs := cs) (by simpa using hl) (fun i c hi => hsz (i + 1) c (by simpa using hi)) (fun i c hi j hj => by
    have := hc (i + 1) c (by simpa using hi) j hj
    rw [Nat.add_mul, Nat.one_mul] at this
    rw [← this]
    congr 2
    omega) (fun i a c hi hi' => hr (i + 1) a c (by simpa using hi) (by simpa using hi'))
   rw [List.flatten_cons]
   refine z9e.mk fun i d hd => ?_
   rcases Nat.lt_or_ge i a.length with h | h
   ·rw [List.getElem?_append_left h] at hd
    obtain ⟨v, hv, hp⟩ := h0.get i d hd
    have hcell := hc 0 c rfl i (by omega)
    rw [Nat.zero_mul, Nat.add_zero, hv] at hcell
    exact ⟨z3pb hcell, v, hcell, hp⟩
   ·rw [List.getElem?_append_right h] at hd
    have := hrest.get _ d hd
    rw [show off + sz + (i - a.length) = off + i by omega] at this
    exact this

theorem z6aa {α β : Type} {R : α → β → Prop} : ∀ (l : List α), (∀ x ∈ l, ∃ y, R x y) → ∃ r : List β, r.length = l.length ∧ ∀ (i : Nat) x y, l[i]? = some x → r[i]? = some y → R x y
 | [], _ => ⟨[], rfl, fun i x y h => by simp at h⟩
 | x :: l, h => by
  obtain ⟨y, hy⟩ := h x (by simp)
  obtain ⟨r, h1, h2⟩ := z6aa l fun z hz => h z (by simp [hz])
  refine ⟨y :: r, by simp [h1], fun i a b ha hb => ?_⟩
  cases i with
  | zero => simp at ha hb; subst ha; subst hb; exact hy
  | succ i => exact h2 i a b (by simpa using ha) (by simpa using hb)

theorem z9pb {α β : Type} {f : α → Nat} {g : β → Nat} : ∀ {l : List α} {r : List β}, l.length = r.length → (∀ (i : Nat) a b, l[i]? = some a → r[i]? = some b → f a ≤ g b) → (l.map f).sum ≤ (r.map g).sum
 | [], [], _, _ => by simp
 | [], _ :: _, h, _ => by simp at h
 | _ :: _, [], h, _ => by simp at h
 | x :: l, y :: r, h, hi => by
  have h1 := hi 0 x y rfl rfl
  have h2 := z9pb (l := l) (r := r) (by simpa using h) fun i a b ha hb => hi (i + 1) a b (by simpa using ha) (by simpa using hb)
  simp only [List.map_cons, List.sum_cons]
  omega
theorem z0Da (l : List (List z2a)) : wtL l.flatten = (l.map wtL).sum := by
 induction l with
 | nil => simp [wtL]
 | cons x l ih => simp [z4Fa, ih]

theorem z1wb {sp : Nat → Bool} {fuel : Nat} {e : GT} {t : TypeId} (sz : Nat)
  (one : ∀ (cs : List Value) d p, DataW.trod enc K.P W 0 sp true fuel t cs = some (d, p) → ∃ as, e.has as ∧ z3d K.toCon (z7ua W) W as cs ∧ wtL as ≤ B d)
  {css : List (List Value)} {xs : List (DataW H × List MemPlace)} (hlen : xs.length = css.length) (hx : ∀ (i : Nat) c, css[i]? = some c → DataW.trod enc K.P W 0 sp true fuel t c = xs[i]?) :
  ∃ ess : List (List z2a), ess.length = css.length ∧ (∀ c ∈ ess, e.has c) ∧ (∀ (i : Nat) a c, ess[i]? = some a → css[i]? = some c → z3d K.toCon (z7ua W) W a c) ∧ wtL ess.flatten ≤ ((xs.map (·.1)).map B).sum := by
 obtain ⟨ess, h1, h2⟩ := z6aa (R := fun (i : Nat) (as : List z2a) => ∃ c x, css[i]? = some c ∧ xs[i]? = some x ∧ e.has as ∧ z3d K.toCon (z7ua W) W as c ∧ wtL as ≤ B x.1) (List.range css.length) fun i hi => by
  have hi : i < css.length := by simpa using hi
  have hc : css[i]? = some css[i] := List.getElem?_eq_getElem hi
  have hxi : xs[i]? = some xs[i] := List.getElem?_eq_getElem (by omega)
  have := hx i _ hc
  rw [hxi] at this
  obtain ⟨as, k1, k2, k3⟩ := one _ xs[i].1 xs[i].2 this
  exact ⟨as, _, _, hc, hxi, k1, k2, k3⟩
 have hl1 : ess.length = css.length := by simpa using h1
 have g : ∀ (i : Nat) a, ess[i]? = some a → ∃ c x, css[i]? = some c ∧ xs[i]? = some x ∧ e.has a ∧ z3d K.toCon (z7ua W) W a c ∧ wtL a ≤ B x.1 := fun i a ha => by
  have hi : i < ess.length := (List.getElem?_eq_some_iff.1 ha).1
  exact h2 i i a (List.getElem?_range (by omega)) ha
 refine ⟨ess, hl1, fun a ha => ?_, fun i a c ha hc => ?_, ?_⟩
 ·obtain ⟨i, hi, rfl⟩ := List.getElem_of_mem ha
  obtain ⟨_, _, _, _, k, _⟩ := g i _ (List.getElem?_eq_getElem hi)
  exact k
 ·obtain ⟨c', _, k1, _, _, k2, _⟩ := g i a ha
  rw [hc] at k1
  cases k1
  exact k2
 ·rw [z0Da, List.map_map]
  refine z9pb (by omega) fun i a x ha hxi => ?_
  obtain ⟨_, x', _, k1, _, _, k2⟩ := g i a ha
  rw [hxi] at k1
  cases k1
  exact k2

mutual
theorem read (hB : z7lc B) (hl : laidOutB K.P = true) {sp : Nat → Bool} : ∀ (gt : GT) (fuel : Nat) (t : TypeId) (cs : List Value) (d : DataW H) (p : List MemPlace), DataW.trod enc K.P W 0 sp true fuel t cs = some (d, p) → gt.fits K.P t = true → t < K.P.types.size →
  (∀ b, sp b = true) → ∃ as, gt.has as ∧ z3d K.toCon (z7ua W) W as cs ∧ wtL as ≤ B d
 | gt, 0, t, cs, d, p, h, _, _, _ => by simp [DataW.trod] at h
 | .bool, fuel + 1, t, cs, d, p, h, hf, ht, hs => by
  simp only [GT.fits] at hf
  split at hf
  ·rename_i hu
   simp only [DataW.trod, hu] at h
   split at h <;> simp_all
   obtain ⟨rfl, rfl⟩ := h
   rename_i b
   exact ⟨[.lit (.bool b)], ⟨b, rfl⟩, by simp [z3d, z2d], by have := hB.lit (.bool b); simpa [wtL, wt] using this⟩
  ·cases hf
 | .int k, fuel + 1, t, cs, d, p, h, hf, ht, hs => by
  simp only [GT.fits] at hf
  split at hf
  ·rename_i k' hu
   simp only [beq_iff_eq] at hf
   subst hf
   obtain ⟨n, rfl, hx, hw⟩ := DataW.trod_int hu h
   cases hx
   simp only [Lit.wf, Bool.and_eq_true, decide_eq_true_eq] at hw
   exact ⟨_, ⟨n, rfl, hw.1, hw.2⟩, by simp [z3d, z2d], by have := hB.lit (.int k n); simpa [wtL, wt] using this⟩
  ·cases hf
 | .str, fuel + 1, t, cs, d, p, h, hf, ht, hs => by
  simp only [GT.fits] at hf
  split at hf
  ·rename_i hu
   obtain ⟨s, rfl, hx, hw⟩ := DataW.trod_string hu h
   cases hx
   refine ⟨[.lit (.string s)], ⟨s, rfl, hw⟩, by simp only [z3d, z2d]; exact ⟨_, _, rfl, rfl, rfl⟩, ?_⟩
   have := hB.str s.data.toList
   have e : s.data.toList.length = s.size := Array.length_toList
   simp only [wtL, wt]
   omega
  ·cases hf
 | .sl e, fuel + 1, t, cs, d, p, h, hf, ht, hs => by
  simp only [GT.fits] at hf
  split at hf
  ·rename_i t' hu
   simp only [Bool.and_eq_true, bne_iff_ne, ne_eq] at hf
   obtain ⟨hf, hz⟩ := hf
   have ht' := kid_slice hl ht hu
   simp only [DataW.trod, hu] at h
   have nilc : cs = [.slice none 0 0] → d = .nil → ∃ as, (GT.sl e).has as ∧ z3d K.toCon (z7ua W) W as cs ∧ wtL as ≤ B d := by
    rintro rfl rfl
    refine ⟨[.sl .plain none 0 []], ⟨[], by simp, rfl, Nat.zero_le _⟩, by simp only [z3d, z2d]; exact ⟨_, _, rfl, .inr ⟨none, by simp⟩, rfl⟩, ?_⟩
    have := hB.nil
    simpa [wtL, wt] using this
   split at h
   all_goals (try (simp only [reduceCtorEq, Option.some.injEq, TypeDesc.slice.injEq, Prod.mk.injEq] at h))
   all_goals (try (rename_i hh; simp only [reduceCtorEq, Option.some.injEq, TypeDesc.slice.injEq] at hh))
   ·exact nilc rfl h.1.symm
   ·subst hh
    rename_i a len cap
    split at h
    ·rename_i hb
     obtain ⟨hb0, hlc, hcap⟩ := hb
     simp only [Option.bind_eq_some_iff, Option.map_eq_some_iff] at h
     obtain ⟨elems, hel, rest, hrest, hd⟩ := h
     cases hd
     have hlen := mapM_some_length hel
     cases hsp : a.spot with
     | some s0 =>
      rw [if_pos (hs _)] at hrest
      have bad : ∀ x, ((W.cells? 0 (a.add (0 * K.P.cellsOf t')) (K.P.cellsOf t')).bind (DataW.trod enc K.P W 0 sp true fuel t')) = some x → False := fun x hx => by
       obtain ⟨c, h2, _⟩ := Option.bind_eq_some_iff.1 hx
       obtain ⟨_, h3, h4⟩ := World.cells?_some h2
       have := h4 0 (by omega)
       have h5 : W.cell? ((a.add (0 * K.P.cellsOf t')).add 0) = none := by
        unfold World.cell?
        split
        ·rw [if_pos (by simp [Addr.add, hsp, Nat.zero_mul])]
        ·rfl
       rw [h5] at this
       have h6 := List.getElem?_eq_none_iff.1 this.symm
       omega
      have hc0 : cap = 0 := by
       rcases Nat.eq_zero_or_pos cap with h0 | h0
       ·exact h0
       ·exfalso
        rcases Nat.eq_zero_or_pos len with hl0 | hl0
        ·have h1 := mapM_some_get hrest 0 0 (List.getElem?_range (by omega))
         cases hr : rest[0]? with
         | none =>
          have := mapM_some_length hrest
          have h7 := List.getElem?_eq_none_iff.1 hr
          simp at this
          omega
         | some x => rw [hr] at h1; exact bad x (by simpa [hl0] using h1)
        ·have h1 := mapM_some_get hel 0 0 (List.getElem?_range (by omega))
         cases hr : elems[0]? with
         | none =>
          have h7 := List.getElem?_eq_none_iff.1 hr
          simp at hlen
          omega
         | some x => rw [hr] at h1; exact bad x h1
      have hl0 : len = 0 := by omega
      subst hc0 hl0
      refine ⟨[.sl .plain none 0 []], ⟨[], by simp, rfl, Nat.zero_le _⟩, by simp only [z3d, z2d]; exact ⟨_, _, rfl, .inr ⟨some a, by simp⟩, rfl⟩, ?_⟩
      have := hB.slice (elems.map (·.1)) (rest.map (·.1))
      simp only [wtL, wt]
      omega
     | none =>
     obtain ⟨b, off, spot⟩ := a
     simp only at hsp
     subst hsp
     have hget : ∀ i, i < len → ∃ c, W.cells? 0 ((⟨b, off, none⟩ : Addr).add (i * K.P.cellsOf t')) (K.P.cellsOf t') = some c ∧ DataW.trod enc K.P W 0 sp true fuel t' c = elems[i]? := fun i hi => by
      have h1 := mapM_some_get hel i i (by simp [hi])
      have hi' : i < elems.length := by rw [hlen]; simpa using hi
      rw [List.getElem?_eq_getElem hi'] at h1
      obtain ⟨c, h2, h3⟩ := Option.bind_eq_some_iff.1 h1
      exact ⟨c, h2, by rw [h3, List.getElem?_eq_getElem hi']⟩
     obtain ⟨css, hcl, hcs⟩ := z6aa (R := fun (i : Nat) (c : List Value) => W.cells? 0 ((⟨b, off, none⟩ : Addr).add (i * K.P.cellsOf t')) (K.P.cellsOf t') = some c ∧ DataW.trod enc K.P W 0 sp true fuel t' c = elems[i]?) (List.range len) (fun i hi => hget i (by simpa using hi))
     simp only [List.length_range] at hcl hlen
     have hcs' : ∀ (i : Nat) c, css[i]? = some c → W.cells? 0 ((⟨b, off, none⟩ : Addr).add (i * K.P.cellsOf t')) (K.P.cellsOf t') = some c ∧ DataW.trod enc K.P W 0 sp true fuel t' c = elems[i]? := fun i c hc => by
      have hi : i < css.length := (List.getElem?_eq_some_iff.1 hc).1
      exact hcs i i c (List.getElem?_range (by omega)) hc
     obtain ⟨ess, k1, k2, k3, k4⟩ := z1wb (K.P.cellsOf t') (fun c d p hh => read hB hl e fuel t' c d p hh hf ht' hs) (css := css) (xs := elems) (by omega) (fun i c hc => (hcs' i c hc).2)
     refine ⟨_, ⟨ess, k2, rfl, by omega⟩, ?_, ?_⟩
     ·simp only [z3d, z2d]
      refine ⟨_, _, rfl, .inl ⟨b, off, cap, by rw [k1, hcl], by omega, ?_, by simp, by simp⟩, rfl⟩
      refine z6db (cs := css) (sz := K.P.cellsOf t') k1 (fun i c hc => (World.cells?_some (hcs' i c hc).1).2.1) (fun i c hc j hj => ?_) k3
      have := (World.cells?_some (hcs' i c hc).1).2.2 j hj
      rw [← this, Addr.add_mid, Addr.add_mid]
     ·have := hB.slice (elems.map (·.1)) (rest.map (·.1))
      simp only [wtL, wt]
      omega
    ·cases h
   all_goals simp_all
  ·cases hf
 | .arr n e, fuel + 1, t, cs, d, p, h, hf, ht, hs => by
  simp only [GT.fits] at hf
  split at hf
  ·rename_i n' t' hu
   simp only [Bool.and_eq_true, beq_iff_eq] at hf
   obtain ⟨rfl, hf⟩ := hf
   obtain ⟨ht', hct⟩ := kid_array hl ht hu
   simp only [DataW.trod, hu] at h
   split at h
   ·rename_i hlen
    simp only [Option.map_eq_some_iff] at h
    obtain ⟨xs, hm, hd⟩ := h
    cases hd
    have hxl := mapM_some_length hm
    simp only [List.length_range] at hxl
    let css := (List.range n).map fun i => (cs.drop (i * K.P.cellsOf t')).take (K.P.cellsOf t')
    have hcss : ∀ (i : Nat) c, css[i]? = some c → i < n ∧ c = (cs.drop (i * K.P.cellsOf t')).take (K.P.cellsOf t') := fun i c hc => by
     simp only [css, List.getElem?_map, Option.map_eq_some_iff] at hc
     obtain ⟨j, hj, rfl⟩ := hc
     obtain ⟨h1, h2⟩ := List.getElem?_eq_some_iff.1 hj
     simp only [List.length_range] at h1
     simp only [List.getElem_range] at h2
     subst h2
     exact ⟨h1, rfl⟩
    obtain ⟨ess, h1, h2⟩ := z6aa (R := fun (i : Nat) (as : List z2a) => ∃ c x, css[i]? = some c ∧ xs[i]? = some x ∧ e.has as ∧ z3d K.toCon (z7ua W) W as c ∧ wtL as ≤ B x.1) (List.range n) fun i hi => by
     have hi : i < n := by simpa using hi
     have hc : css[i]? = some ((cs.drop (i * K.P.cellsOf t')).take (K.P.cellsOf t')) := by simp [css, hi]
     have hxi : xs[i]? = some xs[i] := List.getElem?_eq_getElem (by omega)
     have := mapM_some_get hm i i (by simp [hi])
     rw [hxi] at this
     obtain ⟨as, k1, k2, k3⟩ := read hB hl e fuel t' _ xs[i].1 xs[i].2 this hf ht' hs
     exact ⟨as, _, _, hc, hxi, k1, k2, k3⟩
    have hl1 : ess.length = n := by simpa using h1
    have g : ∀ (i : Nat) a, ess[i]? = some a → ∃ c x, css[i]? = some c ∧ xs[i]? = some x ∧ e.has a ∧ z3d K.toCon (z7ua W) W a c ∧ wtL a ≤ B x.1 := fun i a ha => by
     have hi : i < ess.length := (List.getElem?_eq_some_iff.1 ha).1
     exact h2 i i a (List.getElem?_range (by omega)) ha
    refine ⟨_, ⟨ess, hl1, fun a ha => ?_, rfl⟩, ?_, ?_⟩
    ·obtain ⟨i, hi, rfl⟩ := List.getElem_of_mem ha
     obtain ⟨_, _, _, _, k, _⟩ := g i _ (List.getElem?_eq_getElem hi)
     exact k
    ·have flat : ∀ (k : Nat) (l : List (List z2a)), (∀ (i : Nat) a, l[i]? = some a → z3d K.toCon (z7ua W) W a ((cs.drop ((k + i) * K.P.cellsOf t')).take (K.P.cellsOf t'))) → k + l.length = n → z3d K.toCon (z7ua W) W l.flatten (cs.drop (k * K.P.cellsOf t')) := by
      intro k l
      induction l generalizing k with
      | nil =>
       intro _ hk
       simp only [List.length_nil, Nat.add_zero] at hk
       rw [hk, List.drop_of_length_le (by omega)]
       simp [z3d]
      | cons a l ih =>
       intro hi hk
       have h0 := hi 0 a rfl
       have hr := ih (k + 1) (fun i a ha => by
        have := hi (i + 1) a (by simpa using ha)
        rwa [show k + (i + 1) = k + 1 + i by omega] at this) (by simp at hk; omega)
       rw [Nat.add_zero] at h0
       have e1 : cs.drop (k * K.P.cellsOf t') = (cs.drop (k * K.P.cellsOf t')).take (K.P.cellsOf t') ++ cs.drop ((k + 1) * K.P.cellsOf t') := by
        rw [Nat.add_mul, Nat.one_mul, ← List.drop_drop, List.take_append_drop]
       rw [e1, List.flatten_cons]
       exact z3d.app h0 hr
     have := flat 0 ess (fun i a ha => by
      obtain ⟨c, _, k1, _, _, k2, _⟩ := g i a ha
      rw [Nat.zero_add]
      rwa [(hcss i c k1).2] at k2) (by omega)
     simpa using this
    ·rw [z0Da]
     refine Nat.le_trans ?_ (hB.agg (xs.map (·.1)))
     rw [List.map_map]
     refine z9pb (by omega) fun i a x ha hxi => ?_
     obtain ⟨_, x', _, k1, _, _, k2⟩ := g i a ha
     rw [hxi] at k1
     cases k1
     exact k2
   ·cases h
  ·cases hf
 | .st fs, fuel + 1, t, cs, d, p, h, hf, ht, hs => by
  simp only [GT.fits] at hf
  split at hf
  ·rename_i F hu
   obtain ⟨h1, h2, h3⟩ := kid_struct hl ht hu
   simp only [DataW.trod, hu] at h
   split at h
   ·rename_i hlen
    simp only [Option.map_eq_some_iff] at h
    obtain ⟨xs, hm, hd⟩ := h
    cases hd
    obtain ⟨as, k1, k2, k3⟩ := z7Jc hB hl fs F.toList 0 fuel cs xs hm hf h1 (fun j f hj => by rw [h3 j f hj, Nat.zero_add]) hs (by rw [Nat.zero_add, ← h2, hlen]; exact Nat.le_refl _)
    refine ⟨as, k1, ?_, Nat.le_trans k3 (hB.agg _)⟩
    rw [List.drop_zero, List.take_of_length_le (by omega)] at k2
    exact k2
   ·cases h
  ·cases hf
theorem z7Jc (hB : z7lc B) (hl : laidOutB K.P = true) {sp : Nat → Bool} : ∀ (gs : List GT) (F : List Field) (off : Nat) (fuel : Nat) (cs : List Value) (xs : List (DataW H × List MemPlace)),
  F.mapM (fun f => DataW.trod enc K.P W 0 sp true fuel f.type ((cs.drop f.offset).take (K.P.cellsOf f.type))) = some xs → GT.fitsL K.P gs (F.map (·.type)) = true → (∀ f ∈ F, f.type < K.P.types.size) →
  (∀ (j : Nat) f, F[j]? = some f → f.offset = off + ((F.take j).map fun f => K.P.cellsOf f.type).sum) → (∀ b, sp b = true) → off + (F.map fun f => K.P.cellsOf f.type).sum ≤ cs.length →
  ∃ as, GT.hasL gs as ∧ z3d K.toCon (z7ua W) W as ((cs.drop off).take (F.map fun f => K.P.cellsOf f.type).sum) ∧ wtL as ≤ ((xs.map (·.1)).map B).sum
 | [], [], off, fuel, cs, xs, hm, hf, ht, ho, hs, hc => by
  simp at hm
  subst hm
  exact ⟨[], by simp [GT.hasL], by simp [z3d], by simp [wtL]⟩
 | [], _ :: _, off, fuel, cs, xs, hm, hf, ht, ho, hs, hc => by simp [GT.fitsL] at hf
 | _ :: _, [], off, fuel, cs, xs, hm, hf, ht, ho, hs, hc => by simp [GT.fitsL] at hf
 | g :: gs, f :: F, off, fuel, cs, xs, hm, hf, ht, ho, hs, hc => by
  simp only [List.map_cons, GT.fitsL, Bool.and_eq_true] at hf
  simp only [List.mapM_cons, Option.bind_eq_bind, Option.bind_eq_some_iff, Option.pure_def, Option.some.injEq] at hm
  obtain ⟨x, hx, xs', hm', rfl⟩ := hm
  have h0 := ho 0 f rfl
  simp only [List.take_zero, List.map_nil, List.sum_nil, Nat.add_zero] at h0
  simp only [List.map_cons, List.sum_cons] at hc
  obtain ⟨as, k1, k2, k3⟩ := read hB hl g fuel f.type _ x.1 x.2 hx hf.1 (ht f (by simp)) hs
  obtain ⟨bs, m1, m2, m3⟩ := z7Jc hB hl gs F (off + K.P.cellsOf f.type) fuel cs xs' hm' hf.2 (fun f' hf' => ht f' (by simp [hf'])) (fun j f' hj => by
   have := ho (j + 1) f' (by simpa using hj)
   simp only [List.take_succ_cons, List.map_cons, List.sum_cons] at this
   omega) hs (by omega)
  refine ⟨as ++ bs, ⟨as, bs, rfl, k1, m1⟩, ?_, ?_⟩
  ·rw [h0] at k2
   rw [List.map_cons, List.sum_cons, List.take_add, List.drop_drop]
   exact z3d.app k2 m2
  ·rw [z4Fa]
   simp only [List.map_cons, List.sum_cons]
   omega
end
end
end Go.Abs
end

section
namespace Go.Abs
open Go.RowKit Go.WideShapes Go.ChangeShapes

def GT.row : GT → Bool
 | .arr _ _ => true
 | .st _ => true
 | _ => false
def GT.top (g : GT) (cs : List z2a) : z2a := if g.row then .agg cs else cs.headD .undef
def z2kc : List GT → List z2a → Prop
 | [], as => as = []
 | g :: gs, as => ∃ cs r, as = g.top cs :: r ∧ g.has cs ∧ z2kc gs r

section
variable {H : Type} {enc : TypeId × Value → H} {K : Cx} {W : World} {B : DataW H → Nat}

theorem z6Mb (hB : z7lc B) (hl : laidOutB K.P = true) {sp : Nat → Bool} {base : Nat} {g : GT} {t : TypeId} {v : Value} {d : DataW H} {p : List MemPlace} (hok : Value.okWide K.P W .any base t v)
  (h : DataW.Trod enc K.P W 0 sp true t v d p) (hf : g.fits K.P t = true) (ht : t < K.P.types.size) (hs : ∀ b, sp b = true) : ∃ cs, g.has cs ∧ z2d K.toCon (z7ua W) W (g.top cs) v ∧ wtL cs ≤ B d := by
 obtain ⟨fuel, h⟩ := h
 have row : g.row = true → (∃ a, v = .agg a) → ∃ cs, g.has cs ∧ z2d K.toCon (z7ua W) W (g.top cs) v ∧ wtL cs ≤ B d := by
  rintro hr ⟨a, rfl⟩
  obtain ⟨cs, k1, k2, k3⟩ := read hB hl g fuel t _ d p h hf ht hs
  refine ⟨cs, k1, ?_, k3⟩
  rw [GT.top, if_pos hr]
  simp only [z2d]
  exact ⟨a, rfl, k2⟩
 have one : g.row = false → v.cells = #[v] → ∃ cs, g.has cs ∧ z2d K.toCon (z7ua W) W (g.top cs) v ∧ wtL cs ≤ B d := by
  intro hr hc
  rw [hc] at h
  obtain ⟨cs, k1, k2, k3⟩ := read hB hl g fuel t _ d p h hf ht hs
  refine ⟨cs, k1, ?_, k3⟩
  rw [GT.top, if_neg (by simp [hr])]
  cases cs with
  | nil => simp [z3d] at k2
  | cons c r =>
   simp only [z3d] at k2
   obtain ⟨x, xs, e, k4, _⟩ := k2
   simp only [List.cons.injEq] at e
   rw [e.1]
   exact k4
 cases g with
 | bool =>
  simp only [GT.fits] at hf
  split at hf
  ·rename_i hu
   obtain ⟨b, rfl⟩ := okWide_bool hu hok
   exact one rfl rfl
  ·cases hf
 | int k =>
  simp only [GT.fits] at hf
  split at hf
  ·rename_i k' hu
   obtain ⟨b, rfl⟩ := okWide_int hu hok
   exact one rfl rfl
  ·cases hf
 | str =>
  simp only [GT.fits] at hf
  split at hf
  ·rename_i hu
   obtain ⟨b, rfl⟩ := okWide_string hu hok
   exact one rfl rfl
  ·cases hf
 | sl e =>
  simp only [GT.fits] at hf
  split at hf
  ·rename_i t' hu
   obtain ⟨a, n, c, rfl⟩ := okWide_slice hu hok
   exact one rfl rfl
  ·cases hf
 | arr n e =>
  simp only [GT.fits] at hf
  split at hf
  ·rename_i n' t' hu
   have hok' := hok
   simp only [Value.okWide, hu] at hok'
   obtain ⟨cs, rfl, _, h3⟩ := hok'
   exact row rfl ⟨cs, rfl⟩
  ·cases hf
 | st fs =>
  simp only [GT.fits] at hf
  split at hf
  ·rename_i F hu
   have hok' := hok
   simp only [Value.okWide, hu] at hok'
   obtain ⟨cs, rfl, _, h3⟩ := hok'
   exact row rfl ⟨cs, rfl⟩
  ·cases hf

theorem z5Ra (hB : z7lc B) (hl : laidOutB K.P = true) {sp : Nat → Bool} {base : Nat} : ∀ (gs : List GT) (ts : List TypeId) (vs : List Value) (ds : List (DataW H)) (p : List MemPlace),
  DataW.TrodAll enc K.P W 0 sp true ts vs ds p → (∀ (j : Nat) t v, ts[j]? = some t → vs[j]? = some v → Value.okWide K.P W .any base t v) → GT.fitsL K.P gs ts = true → (∀ t ∈ ts, t < K.P.types.size) → (∀ b, sp b = true) →
  ∃ as, z2kc gs as ∧ z3d K.toCon (z7ua W) W as vs ∧ wtL as ≤ (ds.map B).sum
 | [], [], vs, ds, p, h, _, _, _, _ => by
  obtain ⟨rfl, rfl, rfl⟩ := trodAll_nil h
  exact ⟨[], by simp [z2kc], by simp [z3d], by simp [wtL]⟩
 | [], _ :: _, _, _, _, _, _, hf, _, _ => by simp [GT.fitsL] at hf
 | _ :: _, [], _, _, _, _, _, hf, _, _ => by simp [GT.fitsL] at hf
 | g :: gs, t :: ts, vs, ds, p, h, hok, hf, ht, hs => by
  obtain ⟨v, vs', d, ds', p', q, rfl, rfl, rfl, h0, hr⟩ := trodAll_cons h
  simp only [GT.fitsL, Bool.and_eq_true] at hf
  obtain ⟨cs, k1, k2, k3⟩ := z6Mb hB hl (hok 0 t v rfl rfl) h0 hf.1 (ht t (by simp)) hs
  obtain ⟨as, m1, m2, m3⟩ := z5Ra hB hl gs ts vs' ds' q hr (fun j t v h1 h2 => hok (j + 1) t v (by simpa using h1) (by simpa using h2)) hf.2 (fun t h => ht t (by simp [h])) hs
  refine ⟨g.top cs :: as, ⟨cs, as, rfl, k1, m1⟩, ?_, ?_⟩
  ·simp only [z3d]
   exact ⟨v, vs', rfl, k2, m2⟩
  ·have : wt (g.top cs) ≤ wtL cs := by
    unfold GT.top
    split
    ·simp [wt]
    ·cases cs with
     | nil =>
      have : z2d K.toCon (z7ua W) W (g.top []) v := k2
      cases g <;> simp_all [GT.has, GT.row]
     | cons c r => simp [wtL]
   simp only [wtL, List.map_cons, List.sum_cons]
   omega
end

theorem z0Oa {H : Type} {enc : TypeId × Value → H} {P : Program} {f : Func} {s : ChangeSpec} {apart fresh handsOn again : Bool} {W W' : World} {args : Array Value} {v : Value} {ds gs : List (DataW H)} {before pa pv : List MemPlace}
  (hW : DataW.Whole enc P f.params.toList s.vars apart W args.toList ds gs before)
  (hres : ∀ (b : Nat) (sp : Nat → Bool) (hd : Bool), DataW.TrodAll enc P W' b sp hd f.resultTypes.toList (v.resultList f.resultTypes.size) (s.fn H (ds ++ gs)).results [])
  (hargs : ∀ sp : Nat → Bool, (∀ p ∈ before, sp p.block = true) → DataW.TrodAll enc P W' 0 sp true f.params.toList args.toList (s.fn H (ds ++ gs)).args pa)
  (hvars : ∀ sp : Nat → Bool, (∀ p ∈ before, sp p.block = true) → DataW.TrodVars enc P W' sp s.vars (s.fn H (ds ++ gs)).vars pv)
  (hps : before = pa ++ pv) (hb : Below W.heap.size W W')
  (hok : ∀ (j : Nat) (t : TypeId) (r : Value), f.resultTypes[j]? = some t → (v.resultList f.resultTypes.size)[j]? = some r → Value.okWide P W' .any 0 t r) :
  s.post enc P f apart fresh handsOn again W args v W' := by
 have hlt : ∀ p ∈ before, p.block < W.heap.size := fun p hp => hW.lt p hp
 have hold : ∀ p ∈ before, (fun b => decide (b < W.heap.size)) p.block = true := fun p hp => by simpa using hlt p hp
 refine ⟨ds, gs, before, [], pa, pv, hW, hres _ _ _, hargs _ hold, hvars _ hold, World.keptBut_mono (fun p hp => ⟨hp, ?_⟩) (hb.frame (· ∈ before)), fun _ => ?_⟩
 ·rw [hps, List.mem_append] at hp
  exact Or.inr hp
 ·obtain ⟨_, _, _, _, _, hz, hn⟩ := hW
  refine ⟨hok, _, _, ([] ++ pa) ++ pv, ⟨[] ++ pa, pv, trodAll_append (hargs _ (fun _ _ => rfl)) (hres _ _ _), hvars _ (fun _ _ => rfl), rfl, ?_, ?_⟩, ?_⟩
  ·intro b off hp
   have hin : MemPlace.cell b off ∈ before := by rw [hps]; simpa using hp
   rw [hb.frozen (hlt _ hin)]
   exact hz b off hin
  ·intro ha
   have := hn ha
   rw [hps] at this
   simpa using this
  ·intro p hp _
   rw [hps]
   simpa using hp

section
variable {H : Type} {enc : TypeId × Value → H} {K : Cx} {B : DataW H → Nat}

theorem z8Xa (hl : laidOutB K.P = true) {W W' : World} (hb : Below W.heap.size W W') {sp : Nat → Bool} : ∀ (ts : List TypeId) (vs : List Value) (ds : List (DataW H)) (p : List MemPlace),
  (∀ t ∈ ts, K.P.readableRec t = true ∧ t < K.P.types.size) → DataW.TrodAll enc K.P W 0 (fun _ => true) true ts vs ds p → (∀ x ∈ p, x.block < W.heap.size ∧ sp x.block = true) → DataW.TrodAll enc K.P W' 0 sp true ts vs ds p
 | [], vs, ds, p, _, h, _ => by
  obtain ⟨rfl, rfl, rfl⟩ := trodAll_nil h
  exact trodAll_mk0
 | t :: ts, vs, ds, p, ht, h, hp => by
  obtain ⟨v, vs', d, ds', p', q, rfl, rfl, rfl, h0, hr⟩ := trodAll_cons h
  obtain ⟨h1, h2⟩ := ht t (by simp)
  refine trodAll_cons_mk (WideElems.Trod_stays hl h1 h2 h0 (fun x hx => hb.same (hp x (by simp [hx])).1) (fun x hx => (hp x (by simp [hx])).2)) (z8Xa hl hb ts vs' ds' q (fun t h => ht t (by simp [h])) hr (fun x hx => hp x (by simp [hx])))

theorem z5Kb {f : Nat} {fn : Func} {s : ChangeSpec} {c : z5a} {gts : List GT} {tb : TypeId} {W : World} {base : Nat} {args : Array Value} {ds gs : List (DataW H)} {before : List MemPlace}
  (hv : z0g K f c) (hl : laidOutB K.P = true) (hB : z7lc B)
  (hts : (fn.params.toList.all fun t => K.P.readableRec t && decide (t < K.P.types.size)) = true) (hfit : GT.fitsL K.P gts fn.params.toList = true) (hres : fn.resultTypes = #[tb]) (htb : K.P.underlying tb = some .bool)
  (hvars : s.vars = []) (hspec : ∀ ds : List (DataW H), ds.length = fn.params.size → s.fn H ds = { results := [.lit (.bool true)], args := ds })
  (hgl : ∀ n ∈ K.N.gs, z9e K.toCon (z7ua W) W (K.E.T n) (K.N.gnum n) 0)
  (hpre : ∀ as, z2kc gts as → wtL as ≤ (ds.map B).sum → c.pre as) (hpost : ∀ as, c.pre as → c.post as = .lit (.bool true))
  (hval : ∀ (j : Nat) t v, fn.params[j]? = some t → args[j]? = some v → Value.okWide K.P W .any base t v)
  (hW : DataW.Whole enc K.P fn.params.toList s.vars false W args.toList ds gs before) :
  Calls K.P (K.nu f) args W fun e W' => ∃ v, e = .returned v ∧ s.post enc K.P fn false true false false W args v W' := by
 have hW' := hW
 obtain ⟨p, q, hA, hV, rfl, hfz, hnd⟩ := hW
 rw [hvars] at hV
 have hgq : gs = [] ∧ q = [] := by
  cases gs with
  | nil => simp only [DataW.TrodVars] at hV; exact ⟨rfl, hV⟩
  | cons _ _ => simp only [DataW.TrodVars] at hV
 obtain ⟨rfl, rfl⟩ := hgq
 have hts' : ∀ t ∈ fn.params.toList, K.P.readableRec t = true ∧ t < K.P.types.size := fun t ht => by
  have := List.all_eq_true.1 hts t ht
  simpa [Bool.and_eq_true] using this
 obtain ⟨as, k1, k2, k3⟩ := z5Ra hB hl (base := base) gts fn.params.toList args.toList ds p hA (fun j t v h1 h2 => hval j t v (by simpa using h1) (by simpa using h2)) hfit (fun t ht => (hts' t ht).2) (fun _ => rfl)
 have hp := hpre as k1 k3
 have hc := hv.2 (z7ua W) W as args.toList hgl k2 hp
 rw [Array.toArray_toList] at hc
 refine hc.mono fun e W' ⟨v, g', he, hfr, hrep, _, _⟩ => ⟨v, he, ?_⟩
 rw [hpost as hp] at hrep
 simp only [Rep] at hrep
 subst hrep
 have hb : Below W.heap.size W W' := ⟨hfr.os, hfr.tape, hfr.output, hfr.size, fun k hk => hfr.block k hk (fun h => h)⟩
 have hdl : ∀ (ts : List TypeId) (vs : List Value) (ds : List (DataW H)) (p : List MemPlace), DataW.TrodAll enc K.P W 0 (fun _ => true) true ts vs ds p → ds.length = ts.length := by
  intro ts
  induction ts with
  | nil =>
   intro vs ds p h
   obtain ⟨_, rfl, _⟩ := trodAll_nil h
   rfl
  | cons t ts ih =>
   intro vs ds p h
   obtain ⟨v, vs', d, ds', p', q, rfl, rfl, rfl, h0, hr⟩ := trodAll_cons h
   simp [ih _ _ _ hr]
 have hlen : (ds ++ []).length = fn.params.size := by
  rw [List.append_nil, hdl _ _ _ _ hA]
  simp
 have hsp := hspec (ds ++ []) hlen
 refine z0Oa hW' (pa := p) (pv := []) (fun b sp hd => ?_) (fun sp hs => ?_) (fun sp hs => ?_) rfl hb ?_
 ·rw [hsp, hres]
  exact trodAll_mk1 (shut_bool htb true)
 ·rw [hsp, List.append_nil]
  exact z8Xa hl hb _ _ _ _ hts' hA (fun x hx => ⟨hW'.lt x (by simpa using hx), hs x (by simpa using hx)⟩)
 ·rw [hsp, hvars]
  simp [DataW.TrodVars]
 ·rw [hres]
  intro j t r h1 h2
  have := ok_one (f := fn) (v := .bool true) hres rfl (okWide_bool_mk (P := K.P) (W' := W') htb true)
  exact this j t r (by rw [hres]; exact h1) (by rw [hres]; exact h2)
end
end Go.Abs
end

section
namespace Go.Abs
def z1ma (n : Nat) : List UInt8 := if h : n = 0 then [] else UInt8.ofNat n :: z1ma (n / 256)
termination_by n
decreasing_by omega
theorem z8E : z1ma 0 = [] := by rw [z1ma]; simp
theorem z5X {n : Nat} (h : n ≠ 0) : z1ma n = UInt8.ofNat n :: z1ma (n / 256) := by rw [z1ma]; simp [h]
def mag (n : Int) : Nat := (if n < 0 then -1 - n else n).toNat
def flp (n : Int) (c : UInt8) : UInt8 := if n < 0 then 255 - c else c
def z7v (n : Int) : List UInt8 :=
 flp n (UInt8.ofNat (128 + (z1ma (mag n)).length)) :: (z1ma (mag n)).reverse.map (flp n)
theorem z8ta : ∀ (i n : Nat) (h : i < (z1ma n).length), (z1ma n)[i] = UInt8.ofNat (n / 256 ^ i)
 | 0, n, h => by
  by_cases hn : n = 0
  ·subst hn; simp [z8E] at h
  ·simp [z5X hn]
 | i + 1, n, h => by
  by_cases hn : n = 0
  ·subst hn; simp [z8E] at h
  ·simp only [z5X hn, List.length_cons, Nat.add_lt_add_iff_right] at h ⊢
   rw [List.getElem_cons_succ, z8ta i (n / 256) h, Nat.div_div_eq_div_mul, Nat.pow_succ, Nat.mul_comm]
theorem z4ia : ∀ (k n : Nat), (z1ma n).length ≤ k ↔ n < 256 ^ k
 | 0, n => by
  by_cases hn : n = 0
  ·subst hn; simp [z8E]
  ·simp [z5X hn]; omega
 | k + 1, n => by
  by_cases hn : n = 0
  ·subst hn; simp [z8E, Nat.pow_pos]
  ·rw [z5X hn, List.length_cons, Nat.add_le_add_iff_right, z4ia k, Nat.div_lt_iff_lt_mul (by decide), Nat.pow_succ]
end Go.Abs
namespace Go.Abs
theorem z7Da {x : UInt64} {N m : Nat} (hx : x.toNat = N) : (0 < z2Ea x m) ↔ 2 ^ m ≤ N := by
 rw [UInt64.lt_iff_toNat_lt]
 show 0 < (x.toBitVec >>> m).toNat ↔ _
 rw [BitVec.toNat_ushiftRight, Nat.shiftRight_eq_div_pow]
 show 0 < x.toNat / 2 ^ m ↔ _
 rw [hx, Nat.div_pos_iff]
 have := Nat.two_pow_pos m
 omega
theorem z34a (k : Nat) : 2 ^ (8 * k) = 256 ^ k := by rw [Nat.pow_mul]
theorem z8ib {x : UInt64} {N m : Nat} (hx : x.toNat = N) : (z2Ea x m).toUInt8 = UInt8.ofNat (N / 2 ^ m) := by
 apply UInt8.toNat_inj.1
 rw [UInt64.toNat_toUInt8, UInt8.toNat_ofNat']
 show (x.toBitVec >>> m).toNat % 256 = _
 rw [BitVec.toNat_ushiftRight, Nat.shiftRight_eq_div_pow]
 show x.toNat / 2 ^ m % 256 = _
 rw [hx]
end Go.Abs
end

section
namespace Go.Abs

def z40 (x : UInt32) (n : Nat) : UInt32 := z7La x n ||| z5ja x (32 - n)
def z4Za (x : UInt32) (k : Int) : UInt32 := z5ja x (UInt64.ofInt k &&& 31).toNat ||| z7La x (32 - (UInt64.ofInt k &&& 31)).toNat
theorem z4Pc (x : UInt32) : z4Za x (-7) = z40 x 7 := UInt32.or_comm _ _
theorem z4ic (x : UInt32) : z4Za x (-18) = z40 x 18 := UInt32.or_comm _ _
theorem z4fc (x : UInt32) : z4Za x (-17) = z40 x 17 := UInt32.or_comm _ _
theorem z90b (x : UInt32) : z4Za x (-19) = z40 x 19 := UInt32.or_comm _ _
theorem z4Ac (x : UInt32) : z4Za x (-6) = z40 x 6 := UInt32.or_comm _ _
theorem z43b (x : UInt32) : z4Za x (-11) = z40 x 11 := UInt32.or_comm _ _
theorem z0gc (x : UInt32) : z4Za x (-25) = z40 x 25 := UInt32.or_comm _ _
theorem z0Dc (x : UInt32) : z4Za x (-2) = z40 x 2 := UInt32.or_comm _ _
theorem z21b (x : UInt32) : z4Za x (-13) = z40 x 13 := UInt32.or_comm _ _
theorem z1bc (x : UInt32) : z4Za x (-22) = z40 x 22 := UInt32.or_comm _ _

structure H8 where
 a : UInt32
 b : UInt32
 c : UInt32
 d : UInt32
 e : UInt32
 f : UInt32
 g : UInt32
 h : UInt32
def H8.l (s : H8) : List UInt32 := [s.a, s.b, s.c, s.d, s.e, s.f, s.g, s.h]
def H8.of (l : List UInt32) : H8 := ⟨z5q l 0, z5q l 1, z5q l 2, z5q l 3, z5q l 4, z5q l 5, z5q l 6, z5q l 7⟩
@[simp] theorem H8.of_l (s : H8) : H8.of s.l = s := rfl
@[simp] theorem H8.len (s : H8) : s.l.length = 8 := rfl
def iv : H8 := ⟨1779033703, 3144134277, 1013904242, 2773480762, 1359893119, 2600822924, 528734635, 1541459225⟩
def kc : List UInt32 := [1116352408, 1899447441, 3049323471, 3921009573, 961987163, 1508970993, 2453635748, 2870763221, 3624381080, 310598401, 607225278, 1426881987, 1925078388, 2162078206, 2614888103, 3248222580, 3835390401, 4022224774, 264347078, 604807628, 770255983, 1249150122, 1555081692, 1996064986, 2554220882, 2821834349, 2952996808, 3210313671, 3336571891, 3584528711, 113926993, 338241895, 666307205, 773529912, 1294757372, 1396182291, 1695183700, 1986661051, 2177026350, 2456956037, 2730485921, 2820302411, 3259730800, 3345764771, 3516065817, 3600352804, 4094571909, 275423344, 430227734, 506948616, 659060556, 883997877, 958139571, 1322822218, 1537002063, 1747873779, 1955562222, 2024104815, 2227730452, 2361852424, 2428436474, 2756734187, 3204031479, 3329325298]

def z1yb : z5a := ⟨fun ds => ∃ x k, ds = [u32 x, i64 k], fun ds => u32 (z4Za (z0Vb (nth ds 0)) (asI (nth ds 1)))⟩
def z1Yb : z5a := ⟨fun ds => ∃ x i j k, ds = [u32 x, i64 i, i64 j, i64 k], fun ds => u32 (z4Za (z0Vb (nth ds 0)) (W (-asI (nth ds 1))) ^^^ z4Za (z0Vb (nth ds 0)) (W (-asI (nth ds 2))) ^^^ z4Za (z0Vb (nth ds 0)) (W (-asI (nth ds 3))))⟩

def ldw (b : List UInt8) (t : Nat) : Nat → UInt32
 | 0 => 0
 | j + 1 => z5ja (ldw b t j) 8 ||| (at8 b (4 * t + j)).toUInt32
def sg0 (p : UInt32) : UInt32 := z40 p 7 ^^^ z40 p 18 ^^^ z7La p 3
def sg1 (q : UInt32) : UInt32 := z40 q 17 ^^^ z40 q 19 ^^^ z7La q 10
def z8Ea (b : List UInt8) (t : Nat) (w : List UInt32) : UInt32 :=
 if t < 16 then ldw b t 4 else z5q w (t - 16) + sg0 (z5q w (t - 15)) + z5q w (t - 7) + sg1 (z5q w (t - 2))
def z8k (b : List UInt8) : Nat → List UInt32
 | 0 => []
 | t + 1 => z8k b t ++ [z8Ea b t (z8k b t)]
theorem z7q (b : List UInt8) : ∀ t, (z8k b t).length = t
 | 0 => rfl
 | t + 1 => by simp [z8k, z7q b t]
def z2Z : z5a := ⟨fun ds => ∃ nl b, b.length = 64 ∧ ds = [.sl .plain nl 64 (bys b)], fun ds => .agg (z6p (z8k (gBs (gCs (nth ds 0))) 64))⟩

def rnd (k w : UInt32) (s : H8) : H8 :=
 let x := s.h + (z40 s.e 6 ^^^ z40 s.e 11 ^^^ z40 s.e 25) + ((s.e &&& s.f) ^^^ (~~~s.e &&& s.g)) + k + w
 let y := (z40 s.a 2 ^^^ z40 s.a 13 ^^^ z40 s.a 22) + ((s.a &&& s.b) ^^^ (s.a &&& s.c) ^^^ (s.b &&& s.c))
 ⟨x + y, s.a, s.b, s.c, s.d + x, s.e, s.f, s.g⟩
def z0Ea (w : List UInt32) (s : H8) : Nat → H8
 | 0 => s
 | t + 1 => rnd (z5q kc t) (z5q w t) (z0Ea w s t)
def H8.add (s v : H8) : H8 := ⟨s.a + v.a, s.b + v.b, s.c + v.c, s.d + v.d, s.e + v.e, s.f + v.f, s.g + v.g, s.h + v.h⟩
def z9Qa (s : H8) (b : List UInt8) : H8 := s.add (z0Ea (z8k b 64) s 64)
def z2ta : z5a := ⟨fun ds => ∃ (s : H8) (nl : Option Bool) (b : List UInt8), b.length = 64 ∧ ds = [.agg (z6p s.l), .sl .plain nl 64 (bys b)], fun ds => .agg (z6p (z9Qa (H8.of (gWs (gCs (nth ds 0)))) (gBs (gCs (nth ds 1)))).l)⟩

theorem z7ha {t : Nat} (h : t < 64) : z8j (64 - t) = 0 :: z8j (63 - t) := by
 rw [show 64 - t = (63 - t) + 1 by omega]; rfl
theorem z9za {α : Type} {a c : List α} {i : Nat} {x y : α} (h : i = a.length) : (a ++ x :: c).set i y = a ++ y :: c := by
 subst h; simp
end Go.Abs
namespace Go.Abs
structure z8A where
 h : H8
 b : List UInt8
 n : UInt64
def scs (s : z8A) : List z2a := z6p s.h.l ++ (bys s.b ++ [u64 s.n])
def z8A.v (s : z8A) : z2a := .agg (scs s)
def z8A.of (l : List z2a) : z8A := ⟨H8.of (gWs (l.take 8)), gBs ((l.drop 8).take 64), z5fd (nth l 72)⟩
section cells
variable {s : z8A}
theorem z8Q (h : s.b.length = 64) : (scs s).length = 73 := by simp [scs, h]
theorem z5zb (h : s.b.length = 64) : hdA ((scs s).drop 72) = u64 s.n := by
 rw [z1Cb]
 simp [scs, List.getD, List.getElem?_append, h]
theorem z7ic (s : z8A) : (scs s).take 8 = z6p s.h.l := by simp [scs]
theorem z24b (h : s.b.length = 64) : ((scs s).drop 8).take 64 = bys s.b := by
 rw [scs, List.drop_left' (by simp), List.take_left' (by simp [h])]
theorem z6vb (h : s.b.length = 64) : (scs s).take 73 = scs s := List.take_of_length_le (by rw [z8Q h]; decide)
@[simp] theorem z9Bb (s : z8A) : (∀ c ∈ scs s, z5d c) ↔ True := by simp [scs, or_imp, forall_and]
@[simp] theorem z98b (s : z8A) : (∀ c ∈ scs s, z2f c = false) ↔ True := by simp [scs, or_imp, forall_and]
@[simp] theorem z9Ra (s : z8A) : z7h (scs s) = true := by simp [scs]
@[simp] theorem z0Nb (s : z8A) : (∀ c ∈ scs s, z5f c = true) ↔ True := iff_true_intro ((z5n _).1 (z9Ra s))
@[simp] theorem z1gc (s : z8A) : z4c (scs s) = true := by simp [scs]
@[simp] theorem z4Qb (s : z8A) : z2i (scs s) = [] := by simp [scs]
theorem z1Sa {x : H8} : splice (scs s) 0 (z6p x.l) = scs { s with h := x } := by
 rw [scs, z5ba (by simp), z9f (by simp)]; rfl
theorem z9lb {n : UInt64} (h : s.b.length = 64) : splice (scs s) 72 [u64 n] = scs { s with n := n } := by
 rw [scs, z2V (by simp), z2V (by simp [h])]
 simp [h, scs]
theorem z9wb {i : Nat} {xs : List UInt8} (h : s.b.length = 64) (hi : i + xs.length ≤ 64) : splice (scs s) (8 + i) (bys xs) = scs { s with b := s.b.take i ++ xs ++ s.b.drop (i + xs.length) } := by
 rw [scs, z2V (by simp), z5ba (by simp [h]; omega)]
 simp only [H8.len, z45a, Nat.add_sub_cancel_left, scs]
 rw [splice, z7fb, z2R, z2R, z6Db, z8ab]
theorem z8Ja {l : List z2a} (h : s.b.length = 64) (hl : l.length = 73) : splice l 0 (scs s) = scs s := z9f (by rw [hl, z8Q h])
end cells
theorem z98a : (z6p (z8j 8) ++ (bys (z9c 64) ++ [u64 0])).length = 73 := by simp
def z3oc (s : z8A) (x : UInt8) : z8A :=
 let b' := s.b.set (s.n.toNat % 64) x
 ⟨if s.n.toNat % 64 = 63 then z9Qa s.h b' else s.h, b', s.n + 1⟩
def z8A.add (s : z8A) (m : List UInt8) : z8A := m.foldl z3oc s
theorem z7Lb (s : z8A) (x : UInt8) : (z3oc s x).b.length = s.b.length := by simp [z3oc]
theorem z2Da (m : List UInt8) : ∀ s : z8A, (s.add m).b.length = s.b.length := by
 induction m with
 | nil => intro s; rfl
 | cons x m ih => intro s; rw [z8A.add, List.foldl_cons]; exact (ih _).trans (z7Lb s x)
theorem z77 (s : z8A) (m k : List UInt8) : s.add (m ++ k) = (s.add m).add k := by simp [z8A.add]
theorem z8A.of_scs (s : z8A) (hb : s.b.length = 64) : z8A.of (scs s) = s := by
 have h3 : nth (scs s) 72 = u64 s.n := by
  rw [nth, ← z1Cb, z5zb hb]
 rw [z8A.of, z7ic, z24b hb, h3]
 simp
def z8A.init : z8A := ⟨iv, z9c 64, 0⟩
def z6pa : z5a := ⟨fun ds => ds = [], fun _ => z8A.init.v⟩
def z5jb : z5a := ⟨fun ds => ∃ (s : z8A) (m : List UInt8), s.b.length = 64 ∧ ds = [s.v, st m], fun ds => ((z8A.of (gCs (nth ds 0))).add (gS (nth ds 1))).v⟩

theorem z8Ca (s : z8A) (hb : s.b.length = 64) : ∀ (j : Nat) (m : List UInt8), m.length = j → s.n.toNat % 64 + j ≤ 64 →
  s.add m = ⟨if s.n.toNat % 64 + j = 64 then z9Qa s.h (s.b.take (s.n.toNat % 64) ++ (m ++ s.b.drop (s.n.toNat % 64 + j))) else s.h,
   s.b.take (s.n.toNat % 64) ++ (m ++ s.b.drop (s.n.toNat % 64 + j)), s.n + UInt64.ofNat j⟩
 | 0, m, hm, h => by
  have hm' := List.length_eq_zero_iff.1 hm
  subst hm'
  have h1 : s.n.toNat % 64 < 64 := Nat.mod_lt _ (by decide)
  rw [if_neg (by omega)]
  simp [z8A.add]
 | j + 1, m, hm, h => by
  have hne : m ≠ [] := fun e => by rw [e] at hm; simp at hm
  obtain ⟨k, x, rfl⟩ : ∃ k x, m = k ++ [x] := ⟨m.dropLast, m.getLast hne, (List.dropLast_concat_getLast hne).symm⟩
  have hk : k.length = j := by simp at hm; exact hm
  rw [z77, z8Ca s hb j k hk (by omega), if_neg (by omega)]
  have hn : (s.n + UInt64.ofNat j).toNat % 64 = s.n.toNat % 64 + j := by
   rw [UInt64.toNat_add, UInt64.toNat_ofNat']
   omega
  have hset : (s.b.take (s.n.toNat % 64) ++ (k ++ s.b.drop (s.n.toNat % 64 + j))).set (s.n.toNat % 64 + j) x = s.b.take (s.n.toNat % 64) ++ ((k ++ [x]) ++ s.b.drop (s.n.toNat % 64 + (j + 1))) := by
   rw [List.drop_eq_getElem_cons (show s.n.toNat % 64 + j < s.b.length by omega), ← List.append_assoc, z9za (by simp [hk]; omega)]
   simp [Nat.add_assoc]
  simp only [z8A.add, List.foldl_cons, List.foldl_nil, z3oc, hn, hset]
  congr 1
  ·by_cases h63 : s.n.toNat % 64 + j = 63
   ·rw [if_pos h63, if_pos (by omega)]
   ·rw [if_neg h63, if_neg (by omega)]
  ·rw [UInt64.add_assoc]
   congr 1
   apply UInt64.toNat_inj.1
   simp
end Go.Abs
end

section
namespace Go.Abs
def z3Fa (n : Nat) : Nat := (119 - n % 64) % 64
def be8 (n : UInt64) : Nat → List UInt8
 | 0 => []
 | i + 1 => be8 n i ++ [(z2Ea n (56 - 8 * i)).toUInt8]
theorem z5ra (n : UInt64) : ∀ i, (be8 n i).length = i
 | 0 => rfl
 | i + 1 => by simp [be8, z5ra n i]
def z71a (n : UInt64) : List UInt8 := (128 :: z9c (z3Fa n.toNat)) ++ be8 (8 * n) 8
def z8hb (h : H8) : Nat → List UInt8
 | 0 => []
 | i + 1 => z8hb h i ++ [(z7La (z5q h.l (i / 4)) (24 - 8 * (i % 4))).toUInt8]
theorem z6va (h : H8) : ∀ i, (z8hb h i).length = i
 | 0 => rfl
 | i + 1 => by simp [z8hb, z6va h i]
def z8A.sum (s : z8A) : List UInt8 := z8hb (s.add (z71a s.n)).h 32
def z8Jb : z5a := ⟨fun ds => ∃ s : z8A, s.b.length = 64 ∧ s.n.toNat < 1099511627776 ∧ ds = [s.v], fun ds => .agg (bys (z8A.of (gCs (nth ds 0))).sum)⟩
theorem z4Dc {s : z8A} {j : Nat} (h : j < 8) : hdA ((scs s).drop j) = u32 (z5q s.h.l j) := by
 rw [scs, List.drop_append_of_le_length (by simp; omega), z0Ba, hdA]
 rw [show (z6p (s.h.l.drop j) ++ (bys s.b ++ [u64 s.n])).headD .undef = hdA (z6p (s.h.l.drop j)) by
  rw [List.drop_eq_getElem_cons (show j < s.h.l.length from h)]; rfl]
 exact z2Y h
theorem z73a (n : Nat) : z3Fa n < 64 := Nat.mod_lt _ (by decide)
theorem z9Ya (n : Nat) : (n + (z3Fa n + 1)) % 64 = 56 := by unfold z3Fa; omega
theorem z3Da (k : Nat) : z9c k ++ [0] = z9c (k + 1) := by
 simp [z9c, List.replicate_succ']
theorem z2Na {t n : Nat} (h : t < n) : z9c (n - t) = 0 :: z9c (n - 1 - t) := by
 rw [show n - t = (n - 1 - t) + 1 by omega]; rfl
end Go.Abs
namespace Go.Abs
theorem z2Ec (m : List UInt8) : ∀ s : z8A, (s.add m).n = s.n + UInt64.ofNat m.length := by
 induction m with
 | nil => intro s; simp [z8A.add]
 | cons x m ih =>
  intro s
  have : s.add (x :: m) = (z3oc s x).add m := rfl
  rw [this, ih]
  simp only [z3oc, List.length_cons]
  rw [UInt64.add_assoc]
  congr 1
  apply UInt64.toNat_inj.1
  simp
  omega
theorem z3Va (m : List UInt8) (s : z8A) (h : s.n.toNat + m.length < 18446744073709551616) : (s.add m).n.toNat = s.n.toNat + m.length := by
 rw [z2Ec, UInt64.toNat_add, UInt64.toNat_ofNat']
 omega
def sha (l : List UInt8) : List UInt8 := (z8A.init.add l).sum
theorem z0Ma (l : List UInt8) : (sha l).length = 32 := z6va _ 32
theorem z9Ab : z8A.init.b.length = 64 := by simp [z8A.init]
def z6tc : z5a := ⟨fun ds => ∃ (nl : Option Bool) (l : List UInt8), l.length < 1099511627776 ∧ ds = [.sl .plain nl l.length (bys l)], fun ds => .agg (bys (sha (gBs (gCs (nth ds 0)))))⟩
end Go.Abs
end

section
namespace Go.Abs
set_option maxRecDepth 100000
def z2u : z2r :=
 { n := 0, wr := [], res := [.cell 0 (some 73) 0], body :=
 .seq (
 .region [0] [.norm [0]] [
 ⟨some 0, none, .alloc 0 (z6p (z8j 8) ++ bys (z9c 64) ++ [u64 0])⟩]) (
 .seq (
 .region [0] [.norm [0]] [
 ⟨some 1, none, .build [u32 0, u32 0, u32 0, u32 0, u32 0, u32 0, u32 0, u32 0] [(0, 1, (.c (u32 1779033703))), (1, 1, (.c (u32 3144134277))), (2, 1, (.c (u32 1013904242))), (3, 1, (.c (u32 2773480762))), (4, 1, (.c (u32 1359893119))), (5, 1, (.c (u32 2600822924))), (6, 1, (.c (u32 528734635))), (7, 1, (.c (u32 1541459225)))]⟩,
 ⟨some 2, none, .build (z6p (z8j 8) ++ bys (z9c 64) ++ [u64 0]) [(0, 8, (.s 1))]⟩,
 ⟨none, none, .store (some 73) 0 false (.s 0) (.s 2)⟩]) (
 .ret)) }

def z3k : z2r :=
 { n := 2, wr := [1], res := [.cell 4 (some 73) 4], body :=
 .seq (
 .region [1, 2, 4] [.norm [2, 4]] [
 ⟨some 2, none, .box 2 (some 73) false (.s 0)⟩,
 ⟨some 4, none, .alloc 4 (z6p (z8j 8) ++ bys (z9c 64) ++ [u64 0])⟩]) (
 .seq (
 .block 0 (
 .loop (
 .seq (
 .seq (
 .region [1, 2, 4, 8] [] [
 ⟨some 7, none, .mv false (.s 1)⟩,
 ⟨some 8, none, .bin .neq (.s 7) (.c (st []))⟩]) (
 .cond (.s 8) (
 .ghost (.keep [1, 2, 4]) .skip) (
 .ghost (.keep [2, 4]) (.exit 0)))) (
 .block 1 (
 .seq (
 .region [1, 2, 4, 5] [.norm [2, 4]] [
 ⟨some 9, none, .fieldAddr 72 (.s 2)⟩,
 ⟨some 10, none, .load none (some 2) false (.s 9)⟩,
 ⟨some 11, none, .bin .rem (.s 10) (.c (u64 64))⟩,
 ⟨some 12, none, .toInt .i64 (.s 11)⟩,
 ⟨some 5, none, .mv false (.s 12)⟩]) (
 .seq (
 .region [1, 2, 4, 5, 6] [.norm [2, 4]] [
 ⟨some 13, none, .fieldAddr 8 (.s 2)⟩,
 ⟨some 14, none, .mv false (.s 5)⟩,
 ⟨some 15, none, .slArr 64 1 (.s 13) (some (.s 14)) none none⟩,
 ⟨some 16, none, .mv false (.s 1)⟩,
 ⟨some 17, none, .copy 1 true 2 none (.s 15) (.s 16)⟩,
 ⟨some 6, none, .mv false (.s 17)⟩]) (
 .seq (
 .region [1, 2, 4, 5, 6] [] [
 ⟨some 18, none, .mv false (.s 1)⟩,
 ⟨some 19, none, .mv false (.s 6)⟩,
 ⟨some 20, none, .slStr (.s 18) (some (.s 19)) none⟩,
 ⟨some 1, none, .mv false (.s 20)⟩]) (
 .seq (
 .region [1, 2, 4, 5, 6] [.norm [2, 4]] [
 ⟨some 21, none, .fieldAddr 72 (.s 2)⟩,
 ⟨some 22, none, .load none (some 2) false (.s 21)⟩,
 ⟨some 23, none, .mv false (.s 6)⟩,
 ⟨some 24, none, .toInt .u64 (.s 23)⟩,
 ⟨some 25, none, .bin .add (.s 22) (.s 24)⟩,
 ⟨some 26, none, .fieldAddr 72 (.s 2)⟩,
 ⟨none, none, .store none 2 false (.s 26) (.s 25)⟩]) (
 .seq (
 .region [1, 2, 4, 30] [] [
 ⟨some 27, none, .mv false (.s 5)⟩,
 ⟨some 28, none, .mv false (.s 6)⟩,
 ⟨some 29, none, .bin .add (.s 27) (.s 28)⟩,
 ⟨some 30, none, .bin .eql (.s 29) (.c (i64 64))⟩]) (
 .cond (.s 30) (
 .region [1, 2, 4] [.norm [2, 4]] [
 ⟨some 31, none, .fieldAddr 0 (.s 2)⟩,
 ⟨some 32, none, .load (some 8) (some 2) false (.s 31)⟩,
 ⟨some 33, none, .fieldAddr 8 (.s 2)⟩,
 ⟨some 34, none, .slArr 64 1 (.s 33) none none none⟩,
 ⟨some 35, none, .call 4 [(.s 32), (.s 34)] [2]⟩,
 ⟨some 36, none, .fieldAddr 0 (.s 2)⟩,
 ⟨none, none, .store (some 8) 2 false (.s 36) (.s 35)⟩]) (
 .ghost (.keep [1, 2, 4]) .skip))))))))))) (
 .seq (
 .region [4] [.norm [2, 4]] [
 ⟨some 37, none, .load (some 73) (some 2) false (.s 2)⟩,
 ⟨none, none, .store (some 73) 4 false (.s 4) (.s 37)⟩]) (
 .ret))) }

def z2k : z2r :=
 { n := 1, wr := [], res := [.cell 2 (some 32) 2], body :=
 .seq (
 .region [1, 2] [.norm [1, 2]] [
 ⟨some 1, none, .box 1 (some 73) false (.s 0)⟩,
 ⟨some 2, none, .alloc 2 (bys (z9c 32))⟩]) (
 .seq (
 .region [1, 2, 3] [.norm [1, 2]] [
 ⟨some 8, none, .fieldAddr 72 (.s 1)⟩,
 ⟨some 9, none, .load none (some 1) false (.s 8)⟩,
 ⟨some 10, none, .bin .mul (.c (u64 8)) (.s 9)⟩,
 ⟨some 3, none, .mv false (.s 10)⟩]) (
 .seq (
 .region [1, 2, 3, 4] [] [
 ⟨some 11, none, .buildSl 1 1 [u8 0] [(0, 1, (.c (u8 128)))]⟩,
 ⟨some 4, none, .mv true (.s 11)⟩]) (
 .seq (
 .block 0 (
 .loop (
 .seq (
 .seq (
 .region [1, 2, 3, 4, 19] [.norm [1, 2]] [
 ⟨some 12, none, .fieldAddr 72 (.s 1)⟩,
 ⟨some 13, none, .load none (some 1) false (.s 12)⟩,
 ⟨some 14, none, .toInt .i64 (.s 13)⟩,
 ⟨some 15, none, .mv false (.s 4)⟩,
 ⟨some 16, none, .len false (.s 15)⟩,
 ⟨some 17, none, .bin .add (.s 14) (.s 16)⟩,
 ⟨some 18, none, .bin .rem (.s 17) (.c (i64 64))⟩,
 ⟨some 19, none, .bin .neq (.s 18) (.c (i64 56))⟩]) (
 .cond (.s 19) (
 .ghost (.keep [1, 2, 3, 4]) .skip) (
 .ghost (.keep [1, 2, 3, 4]) (.exit 0)))) (
 .block 1 (
 .region [1, 2, 3, 4] [] [
 ⟨some 20, none, .mv true (.s 4)⟩,
 ⟨some 21, none, .buildSl 1 1 [u8 0] [(0, 1, (.c (u8 0)))]⟩,
 ⟨some 22, none, .append 1 1 false (some false) none 20 (.s 21)⟩,
 ⟨some 4, none, .mv true (.s 22)⟩]))))) (
 .seq (
 .seq (
 .region [1, 2, 3, 4, 23] [] [
 ⟨some 23, none, .mv false (.c (i64 0))⟩]) (
 .block 2 (
 .loop (
 .seq (
 .region [1, 2, 3, 4, 23, 24] [] [
 ⟨some 24, none, .bin .lss (.s 23) (.c (i64 8))⟩]) (
 .seq (
 .cond (.s 24) (
 .ghost (.keep [1, 2, 3, 4, 23]) .skip) (
 .ghost (.keep [1, 2, 4]) (.exit 2))) (
 .seq (
 .block 3 (
 .seq (
 .region [1, 2, 3, 4, 5, 23] [] [
 ⟨some 25, none, .mv false (.s 23)⟩,
 ⟨some 5, none, .mv false (.s 25)⟩]) (
 .region [1, 2, 3, 4, 23] [] [
 ⟨some 26, none, .mv true (.s 4)⟩,
 ⟨some 27, none, .mv false (.s 3)⟩,
 ⟨some 28, none, .mv false (.s 5)⟩,
 ⟨some 29, none, .bin .mul (.c (i64 8)) (.s 28)⟩,
 ⟨some 30, none, .bin .sub (.c (i64 56)) (.s 29)⟩,
 ⟨some 31, none, .bin .shr (.s 27) (.s 30)⟩,
 ⟨some 32, none, .toInt .u8 (.s 31)⟩,
 ⟨some 33, none, .buildSl 1 1 [u8 0] [(0, 1, (.s 32))]⟩,
 ⟨some 34, none, .append 1 1 false (some false) none 26 (.s 33)⟩,
 ⟨some 4, none, .mv true (.s 34)⟩]))) (
 .region [1, 2, 3, 4, 23] [] [
 ⟨some 35, none, .bin .add (.s 23) (.c (i64 1))⟩,
 ⟨some 23, none, .mv false (.s 35)⟩]))))))) (
 .seq (
 .region [1, 2] [.norm [1, 2]] [
 ⟨some 36, none, .load (some 73) (some 1) false (.s 1)⟩,
 ⟨some 37, none, .mv true (.s 4)⟩,
 ⟨some 38, none, .toStr none (.s 37)⟩,
 ⟨some 39, none, .call 1 [(.s 36), (.s 38)] []⟩,
 ⟨none, none, .store (some 73) 1 false (.s 1) (.s 39)⟩]) (
 .seq (
 .region [1, 2, 6] [.norm [1, 2, 6]] [
 ⟨some 6, none, .alloc 6 (bys (z9c 32))⟩]) (
 .seq (
 .seq (
 .region [1, 2, 6, 40] [] [
 ⟨some 40, none, .mv false (.c (i64 0))⟩]) (
 .block 4 (
 .loop (
 .seq (
 .region [1, 2, 6, 40, 41] [] [
 ⟨some 41, none, .bin .lss (.s 40) (.c (i64 32))⟩]) (
 .seq (
 .cond (.s 41) (
 .ghost (.keep [1, 2, 6, 40]) .skip) (
 .ghost (.keep [2, 6]) (.exit 4))) (
 .seq (
 .block 5 (
 .seq (
 .region [1, 2, 6, 7, 40] [] [
 ⟨some 42, none, .mv false (.s 40)⟩,
 ⟨some 7, none, .mv false (.s 42)⟩]) (
 .region [1, 2, 6, 40] [.norm [1, 2, 6]] [
 ⟨some 43, none, .mv false (.s 7)⟩,
 ⟨some 44, none, .mv false (.s 7)⟩,
 ⟨some 45, none, .bin .quo (.s 44) (.c (i64 4))⟩,
 ⟨some 46, none, .fieldAddr 0 (.s 1)⟩,
 ⟨some 47, none, .idxArr 8 1 (.s 46) (.s 45)⟩,
 ⟨some 48, none, .load none (some 1) false (.s 47)⟩,
 ⟨some 49, none, .mv false (.s 7)⟩,
 ⟨some 50, none, .bin .rem (.s 49) (.c (i64 4))⟩,
 ⟨some 51, none, .bin .mul (.c (i64 8)) (.s 50)⟩,
 ⟨some 52, none, .bin .sub (.c (i64 24)) (.s 51)⟩,
 ⟨some 53, none, .bin .shr (.s 48) (.s 52)⟩,
 ⟨some 54, none, .toInt .u8 (.s 53)⟩,
 ⟨some 55, none, .idxArr 32 1 (.s 6) (.s 43)⟩,
 ⟨none, none, .store none 6 false (.s 55) (.s 54)⟩]))) (
 .region [1, 2, 6, 40] [] [
 ⟨some 56, none, .bin .add (.s 40) (.c (i64 1))⟩,
 ⟨some 40, none, .mv false (.s 56)⟩]))))))) (
 .seq (
 .region [2] [.norm [1, 2, 6]] [
 ⟨some 57, none, .load (some 32) (some 6) false (.s 6)⟩,
 ⟨none, none, .store (some 32) 2 false (.s 2) (.s 57)⟩]) (
 .ret))))))))) }

def z5T : z2r :=
 { n := 2, wr := [], res := [.cell 4 (some 16) 4], body :=
 .seq (
 .region [4] [.norm [4]] [
 ⟨some 4, none, .alloc 4 (bys (z9c 16))⟩]) (
 .seq (
 .region [4, 5] [.norm [4, 5]] [
 ⟨some 9, none, .call 0 [] []⟩,
 ⟨some 10, none, .mv false (.s 0)⟩,
 ⟨some 11, none, .toInt .u8 (.s 10)⟩,
 ⟨some 12, none, .buildSl 1 1 [u8 0] [(0, 1, (.s 11))]⟩,
 ⟨some 13, none, .toStr none (.s 12)⟩,
 ⟨some 14, none, .call 1 [(.s 9), (.s 13)] []⟩,
 ⟨some 5, none, .alloc 5 (z6p (z8j 8) ++ bys (z9c 64) ++ [u64 0])⟩,
 ⟨none, none, .store (some 73) 5 false (.s 5) (.s 14)⟩]) (
 .seq (
 .seq (
 .region [4, 5, 15, 16, 17] [] [
 ⟨some 15, none, .mv false (.s 1)⟩,
 ⟨some 16, none, .len false (.s 15)⟩,
 ⟨some 17, none, .mv false (.c (i64 0))⟩]) (
 .block 0 (
 .loop (
 .seq (
 .region [4, 5, 15, 16, 17, 18] [] [
 ⟨some 18, none, .bin .lss (.s 17) (.s 16)⟩]) (
 .seq (
 .cond (.s 18) (
 .ghost (.keep [4, 5, 15, 16, 17]) .skip) (
 .ghost (.keep [4, 5]) (.exit 0))) (
 .seq (
 .block 1 (
 .seq (
 .region [4, 5, 7, 15, 16, 17] [.norm [4, 5]] [
 ⟨some 19, none, .idxSl 1 (.s 15) (.s 17)⟩,
 ⟨some 20, none, .load none none false (.s 19)⟩,
 ⟨some 7, none, .mv false (.s 20)⟩]) (
 .region [4, 5, 15, 16, 17] [.norm [4, 5]] [
 ⟨some 21, none, .load (some 73) (some 5) false (.s 5)⟩,
 ⟨some 22, none, .mv false (.s 7)⟩,
 ⟨some 23, none, .call 7 [(.s 22)] []⟩,
 ⟨some 24, none, .toStr none (.s 23)⟩,
 ⟨some 25, none, .call 1 [(.s 21), (.s 24)] []⟩,
 ⟨none, none, .store (some 73) 5 false (.s 5) (.s 25)⟩]))) (
 .region [4, 5, 15, 16, 17] [] [
 ⟨some 26, none, .bin .add (.s 17) (.c (i64 1))⟩,
 ⟨some 17, none, .mv false (.s 26)⟩]))))))) (
 .seq (
 .region [4, 8] [.norm [4, 5, 8]] [
 ⟨some 27, none, .load (some 73) (some 5) false (.s 5)⟩,
 ⟨some 28, none, .call 2 [(.s 27)] []⟩,
 ⟨some 8, none, .alloc 8 (bys (z9c 32))⟩,
 ⟨none, none, .store (some 32) 8 false (.s 8) (.s 28)⟩]) (
 .seq (
 .region [4] [.norm [4, 5, 8]] [
 ⟨some 29, none, .slArr 32 1 (.s 8) none (some (.c (i64 16))) none⟩,
 ⟨some 30, none, .s2ap 16 (.s 29)⟩,
 ⟨some 31, none, .load (some 16) (some 8) false (.s 30)⟩,
 ⟨none, none, .store (some 16) 4 false (.s 4) (.s 31)⟩]) (
 .ret))))) }

def z0n : z2r :=
 { n := 2, wr := [], res := [.cell 4 (some 8) 4], body :=
 .seq (
 .region [2, 4] [.norm [2, 4]] [
 ⟨some 2, none, .box 2 (some 8) false (.s 0)⟩,
 ⟨some 4, none, .alloc 4 (z6p (z8j 8))⟩]) (
 .seq (
 .region [2, 4, 5] [.norm [2, 4, 5]] [
 ⟨some 13, none, .mv false (.s 1)⟩,
 ⟨some 14, none, .call 10 [(.s 13)] []⟩,
 ⟨some 5, none, .alloc 5 (z6p (z8j 64))⟩,
 ⟨none, none, .store (some 64) 5 false (.s 5) (.s 14)⟩]) (
 .seq (
 .region [2, 4, 5, 6, 7] [.norm [2, 4, 5, 6, 7]] [
 ⟨some 15, none, .slArr 8 1 (.s 2) none (some (.c (i64 4))) none⟩,
 ⟨some 16, none, .s2ap 4 (.s 15)⟩,
 ⟨some 17, none, .load (some 4) (some 2) false (.s 16)⟩,
 ⟨some 18, none, .slArr 8 1 (.s 2) (some (.c (i64 4))) none none⟩,
 ⟨some 19, none, .s2ap 4 (.s 18)⟩,
 ⟨some 20, none, .load (some 4) (some 2) false (.s 19)⟩,
 ⟨some 6, none, .alloc 6 [u32 0, u32 0, u32 0, u32 0]⟩,
 ⟨some 7, none, .alloc 7 [u32 0, u32 0, u32 0, u32 0]⟩,
 ⟨none, none, .store (some 4) 6 false (.s 6) (.s 17)⟩,
 ⟨none, none, .store (some 4) 7 false (.s 7) (.s 20)⟩]) (
 .seq (
 .seq (
 .region [2, 4, 5, 6, 7, 21, 22] [.norm [2, 4, 5, 6, 7]] [
 ⟨some 21, none, .load (some 64) none false (.g 0)⟩,
 ⟨some 22, none, .mv false (.c (i64 0))⟩]) (
 .block 0 (
 .loop (
 .seq (
 .region [2, 4, 5, 6, 7, 21, 22, 23] [] [
 ⟨some 23, none, .bin .lss (.s 22) (.c (i64 64))⟩]) (
 .seq (
 .cond (.s 23) (
 .ghost (.keep [2, 4, 5, 6, 7, 21, 22]) .skip) (
 .ghost (.keep [2, 4, 6, 7]) (.exit 0))) (
 .seq (
 .block 1 (
 .seq (
 .region [2, 4, 5, 6, 7, 8, 9, 21, 22] [] [
 ⟨some 24, none, .mv false (.s 22)⟩,
 ⟨some 25, none, .idxA none 1 64 (.s 21) (.s 22)⟩,
 ⟨some 8, none, .mv false (.s 24)⟩,
 ⟨some 9, none, .mv false (.s 25)⟩]) (
 .seq (
 .region [2, 4, 5, 6, 7, 10, 21, 22] [.norm [2, 4, 5, 6, 7]] [
 ⟨some 26, none, .idxArr 4 1 (.s 7) (.c (i64 3))⟩,
 ⟨some 27, none, .load none (some 7) false (.s 26)⟩,
 ⟨some 28, none, .idxArr 4 1 (.s 7) (.c (i64 0))⟩,
 ⟨some 29, none, .load none (some 7) false (.s 28)⟩,
 ⟨some 30, none, .call 11 [(.s 29), (.c (i64 6)), (.c (i64 11)), (.c (i64 25))] []⟩,
 ⟨some 31, none, .bin .add (.s 27) (.s 30)⟩,
 ⟨some 32, none, .idxArr 4 1 (.s 7) (.c (i64 0))⟩,
 ⟨some 33, none, .load none (some 7) false (.s 32)⟩,
 ⟨some 34, none, .idxArr 4 1 (.s 7) (.c (i64 1))⟩,
 ⟨some 35, none, .load none (some 7) false (.s 34)⟩,
 ⟨some 36, none, .bin .and (.s 33) (.s 35)⟩,
 ⟨some 37, none, .idxArr 4 1 (.s 7) (.c (i64 0))⟩,
 ⟨some 38, none, .load none (some 7) false (.s 37)⟩,
 ⟨some 39, none, .un .xor (.s 38)⟩,
 ⟨some 40, none, .idxArr 4 1 (.s 7) (.c (i64 2))⟩,
 ⟨some 41, none, .load none (some 7) false (.s 40)⟩,
 ⟨some 42, none, .bin .and (.s 39) (.s 41)⟩,
 ⟨some 43, none, .bin .xor (.s 36) (.s 42)⟩,
 ⟨some 44, none, .bin .add (.s 31) (.s 43)⟩,
 ⟨some 45, none, .mv false (.s 9)⟩,
 ⟨some 46, none, .bin .add (.s 44) (.s 45)⟩,
 ⟨some 47, none, .mv false (.s 8)⟩,
 ⟨some 48, none, .idxArr 64 1 (.s 5) (.s 47)⟩,
 ⟨some 49, none, .load none (some 5) false (.s 48)⟩,
 ⟨some 50, none, .bin .add (.s 46) (.s 49)⟩,
 ⟨some 10, none, .mv false (.s 50)⟩]) (
 .seq (
 .region [2, 4, 5, 6, 7, 10, 11, 21, 22] [.norm [2, 4, 5, 6, 7]] [
 ⟨some 51, none, .idxArr 4 1 (.s 6) (.c (i64 0))⟩,
 ⟨some 52, none, .load none (some 6) false (.s 51)⟩,
 ⟨some 53, none, .call 11 [(.s 52), (.c (i64 2)), (.c (i64 13)), (.c (i64 22))] []⟩,
 ⟨some 54, none, .idxArr 4 1 (.s 6) (.c (i64 0))⟩,
 ⟨some 55, none, .load none (some 6) false (.s 54)⟩,
 ⟨some 56, none, .idxArr 4 1 (.s 6) (.c (i64 1))⟩,
 ⟨some 57, none, .load none (some 6) false (.s 56)⟩,
 ⟨some 58, none, .bin .and (.s 55) (.s 57)⟩,
 ⟨some 59, none, .idxArr 4 1 (.s 6) (.c (i64 0))⟩,
 ⟨some 60, none, .load none (some 6) false (.s 59)⟩,
 ⟨some 61, none, .idxArr 4 1 (.s 6) (.c (i64 2))⟩,
 ⟨some 62, none, .load none (some 6) false (.s 61)⟩,
 ⟨some 63, none, .bin .and (.s 60) (.s 62)⟩,
 ⟨some 64, none, .bin .xor (.s 58) (.s 63)⟩,
 ⟨some 65, none, .idxArr 4 1 (.s 6) (.c (i64 1))⟩,
 ⟨some 66, none, .load none (some 6) false (.s 65)⟩,
 ⟨some 67, none, .idxArr 4 1 (.s 6) (.c (i64 2))⟩,
 ⟨some 68, none, .load none (some 6) false (.s 67)⟩,
 ⟨some 69, none, .bin .and (.s 66) (.s 68)⟩,
 ⟨some 70, none, .bin .xor (.s 64) (.s 69)⟩,
 ⟨some 71, none, .bin .add (.s 53) (.s 70)⟩,
 ⟨some 11, none, .mv false (.s 71)⟩]) (
 .seq (
 .region [2, 4, 5, 6, 7, 10, 11, 21, 22] [.norm [2, 4, 5, 6, 7]] [
 ⟨some 72, none, .idxArr 4 1 (.s 6) (.c (i64 3))⟩,
 ⟨some 73, none, .load none (some 6) false (.s 72)⟩,
 ⟨some 74, none, .mv false (.s 10)⟩,
 ⟨some 75, none, .bin .add (.s 73) (.s 74)⟩,
 ⟨some 76, none, .idxArr 4 1 (.s 7) (.c (i64 0))⟩,
 ⟨some 77, none, .load none (some 7) false (.s 76)⟩,
 ⟨some 78, none, .idxArr 4 1 (.s 7) (.c (i64 1))⟩,
 ⟨some 79, none, .load none (some 7) false (.s 78)⟩,
 ⟨some 80, none, .idxArr 4 1 (.s 7) (.c (i64 2))⟩,
 ⟨some 81, none, .load none (some 7) false (.s 80)⟩,
 ⟨some 82, none, .build [u32 0, u32 0, u32 0, u32 0] [(0, 1, (.s 75)), (1, 1, (.s 77)), (2, 1, (.s 79)), (3, 1, (.s 81))]⟩,
 ⟨none, none, .store (some 4) 7 false (.s 7) (.s 82)⟩]) (
 .region [2, 4, 5, 6, 7, 21, 22] [.norm [2, 4, 5, 6, 7]] [
 ⟨some 83, none, .mv false (.s 10)⟩,
 ⟨some 84, none, .mv false (.s 11)⟩,
 ⟨some 85, none, .bin .add (.s 83) (.s 84)⟩,
 ⟨some 86, none, .idxArr 4 1 (.s 6) (.c (i64 0))⟩,
 ⟨some 87, none, .load none (some 6) false (.s 86)⟩,
 ⟨some 88, none, .idxArr 4 1 (.s 6) (.c (i64 1))⟩,
 ⟨some 89, none, .load none (some 6) false (.s 88)⟩,
 ⟨some 90, none, .idxArr 4 1 (.s 6) (.c (i64 2))⟩,
 ⟨some 91, none, .load none (some 6) false (.s 90)⟩,
 ⟨some 92, none, .build [u32 0, u32 0, u32 0, u32 0] [(0, 1, (.s 85)), (1, 1, (.s 87)), (2, 1, (.s 89)), (3, 1, (.s 91))]⟩,
 ⟨none, none, .store (some 4) 6 false (.s 6) (.s 92)⟩])))))) (
 .region [2, 4, 5, 6, 7, 21, 22] [] [
 ⟨some 93, none, .bin .add (.s 22) (.c (i64 1))⟩,
 ⟨some 22, none, .mv false (.s 93)⟩]))))))) (
 .seq (
 .seq (
 .region [2, 4, 6, 7, 94] [] [
 ⟨some 94, none, .mv false (.c (i64 0))⟩]) (
 .block 2 (
 .loop (
 .seq (
 .region [2, 4, 6, 7, 94, 95] [] [
 ⟨some 95, none, .bin .lss (.s 94) (.c (i64 4))⟩]) (
 .seq (
 .cond (.s 95) (
 .ghost (.keep [2, 4, 6, 7, 94]) .skip) (
 .ghost (.keep [2, 4]) (.exit 2))) (
 .seq (
 .block 3 (
 .seq (
 .region [2, 4, 6, 7, 12, 94] [] [
 ⟨some 96, none, .mv false (.s 94)⟩,
 ⟨some 12, none, .mv false (.s 96)⟩]) (
 .seq (
 .region [2, 4, 6, 7, 12, 94] [.norm [2, 4, 5, 6, 7]] [
 ⟨some 97, none, .mv false (.s 12)⟩,
 ⟨some 98, none, .idxArr 8 1 (.s 2) (.s 97)⟩,
 ⟨some 99, none, .load none (some 2) false (.s 98)⟩,
 ⟨some 100, none, .mv false (.s 12)⟩,
 ⟨some 101, none, .idxArr 4 1 (.s 6) (.s 100)⟩,
 ⟨some 102, none, .load none (some 6) false (.s 101)⟩,
 ⟨some 103, none, .bin .add (.s 99) (.s 102)⟩,
 ⟨some 104, none, .idxArr 8 1 (.s 2) (.s 97)⟩,
 ⟨none, none, .store none 2 false (.s 104) (.s 103)⟩]) (
 .region [2, 4, 6, 7, 94] [.norm [2, 4, 5, 6, 7]] [
 ⟨some 105, none, .mv false (.s 12)⟩,
 ⟨some 106, none, .bin .add (.s 105) (.c (i64 4))⟩,
 ⟨some 107, none, .idxArr 8 1 (.s 2) (.s 106)⟩,
 ⟨some 108, none, .load none (some 2) false (.s 107)⟩,
 ⟨some 109, none, .mv false (.s 12)⟩,
 ⟨some 110, none, .idxArr 4 1 (.s 7) (.s 109)⟩,
 ⟨some 111, none, .load none (some 7) false (.s 110)⟩,
 ⟨some 112, none, .bin .add (.s 108) (.s 111)⟩,
 ⟨some 113, none, .idxArr 8 1 (.s 2) (.s 106)⟩,
 ⟨none, none, .store none 2 false (.s 113) (.s 112)⟩])))) (
 .region [2, 4, 6, 7, 94] [] [
 ⟨some 114, none, .bin .add (.s 94) (.c (i64 1))⟩,
 ⟨some 94, none, .mv false (.s 114)⟩]))))))) (
 .seq (
 .region [4] [.norm [2, 4, 5, 6, 7]] [
 ⟨some 115, none, .load (some 8) (some 2) false (.s 2)⟩,
 ⟨none, none, .store (some 8) 4 false (.s 4) (.s 115)⟩]) (
 .ret)))))) }

def z4u : z2r :=
 { n := 1, wr := [], res := [.t 2], body :=
 .seq (
 .region [] [] [
 ⟨some 2, none, .mv true (.c (.sl (.own 1) none 0 []))⟩]) (
 .seq (
 .region [2] [] [
 ⟨some 3, none, .mv false (.s 0)⟩,
 ⟨some 4, none, .len true (.s 3)⟩,
 ⟨some 5, none, .call 12 [(.s 4)] []⟩,
 ⟨some 6, none, .mv false (.s 0)⟩,
 ⟨some 7, none, .append 1 1 true (some false) none 5 (.s 6)⟩,
 ⟨some 2, none, .mv true (.s 7)⟩]) (
 .ret)) }

def z7n : z2r :=
 { n := 1, wr := [], res := [.cell 2 (some 64) 2], body :=
 .seq (
 .region [2] [.norm [2]] [
 ⟨some 2, none, .alloc 2 (z6p (z8j 64))⟩]) (
 .seq (
 .region [2, 3] [.norm [2, 3]] [
 ⟨some 3, none, .alloc 3 (z6p (z8j 64))⟩]) (
 .seq (
 .seq (
 .region [2, 3, 11] [] [
 ⟨some 11, none, .mv false (.c (i64 0))⟩]) (
 .block 0 (
 .loop (
 .seq (
 .region [2, 3, 11, 12] [] [
 ⟨some 12, none, .bin .lss (.s 11) (.c (i64 64))⟩]) (
 .seq (
 .cond (.s 12) (
 .ghost (.keep [2, 3, 11]) .skip) (
 .ghost (.keep [2, 3]) (.exit 0))) (
 .seq (
 .block 1 (
 .seq (
 .region [2, 3, 4, 11] [] [
 ⟨some 13, none, .mv false (.s 11)⟩,
 ⟨some 4, none, .mv false (.s 13)⟩]) (
 .seq (
 .seq (
 .region [2, 3, 4, 11, 15] [] [
 ⟨some 14, none, .mv false (.s 4)⟩,
 ⟨some 15, none, .bin .lss (.s 14) (.c (i64 16))⟩]) (
 .cond (.s 15) (
 .seq (
 .seq (
 .region [2, 3, 4, 11, 22, 23, 24] [] [
 ⟨some 16, none, .mv false (.s 0)⟩,
 ⟨some 17, none, .mv false (.s 4)⟩,
 ⟨some 18, none, .bin .mul (.c (i64 4)) (.s 17)⟩,
 ⟨some 19, none, .mv false (.s 4)⟩,
 ⟨some 20, none, .bin .mul (.c (i64 4)) (.s 19)⟩,
 ⟨some 21, none, .bin .add (.s 20) (.c (i64 4))⟩,
 ⟨some 22, none, .slSl 1 (.s 16) (some (.s 18)) (some (.s 21)) none⟩,
 ⟨some 23, none, .len false (.s 22)⟩,
 ⟨some 24, none, .mv false (.c (i64 0))⟩]) (
 .block 2 (
 .loop (
 .seq (
 .region [2, 3, 4, 11, 22, 23, 24, 25] [] [
 ⟨some 25, none, .bin .lss (.s 24) (.s 23)⟩]) (
 .seq (
 .cond (.s 25) (
 .ghost (.keep [2, 3, 4, 11, 22, 23, 24]) .skip) (
 .ghost (.keep [2, 3, 11]) (.exit 2))) (
 .seq (
 .block 3 (
 .seq (
 .region [2, 3, 4, 6, 11, 22, 23, 24] [.norm [2, 3]] [
 ⟨some 26, none, .idxSl 1 (.s 22) (.s 24)⟩,
 ⟨some 27, none, .load none none false (.s 26)⟩,
 ⟨some 6, none, .mv false (.s 27)⟩]) (
 .region [2, 3, 4, 11, 22, 23, 24] [.norm [2, 3]] [
 ⟨some 28, none, .mv false (.s 4)⟩,
 ⟨some 29, none, .mv false (.s 4)⟩,
 ⟨some 30, none, .idxArr 64 1 (.s 3) (.s 29)⟩,
 ⟨some 31, none, .load none (some 3) false (.s 30)⟩,
 ⟨some 32, none, .bin .shl (.s 31) (.c (u64 8))⟩,
 ⟨some 33, none, .mv false (.s 6)⟩,
 ⟨some 34, none, .toInt .u32 (.s 33)⟩,
 ⟨some 35, none, .bin .or (.s 32) (.s 34)⟩,
 ⟨some 36, none, .idxArr 64 1 (.s 3) (.s 28)⟩,
 ⟨none, none, .store none 3 false (.s 36) (.s 35)⟩]))) (
 .region [2, 3, 4, 11, 22, 23, 24] [] [
 ⟨some 37, none, .bin .add (.s 24) (.c (i64 1))⟩,
 ⟨some 24, none, .mv false (.s 37)⟩]))))))) (
 .ghost (.keep [2, 3, 11]) (.exit 1))) (
 .ghost (.keep [2, 3, 4, 11]) .skip))) (
 .seq (
 .region [2, 3, 4, 7, 8, 11] [.norm [2, 3]] [
 ⟨some 38, none, .mv false (.s 4)⟩,
 ⟨some 39, none, .bin .sub (.s 38) (.c (i64 15))⟩,
 ⟨some 40, none, .idxArr 64 1 (.s 3) (.s 39)⟩,
 ⟨some 41, none, .load none (some 3) false (.s 40)⟩,
 ⟨some 42, none, .mv false (.s 4)⟩,
 ⟨some 43, none, .bin .sub (.s 42) (.c (i64 2))⟩,
 ⟨some 44, none, .idxArr 64 1 (.s 3) (.s 43)⟩,
 ⟨some 45, none, .load none (some 3) false (.s 44)⟩,
 ⟨some 7, none, .mv false (.s 41)⟩,
 ⟨some 8, none, .mv false (.s 45)⟩]) (
 .seq (
 .region [2, 3, 4, 8, 9, 11] [] [
 ⟨some 46, none, .mv false (.s 7)⟩,
 ⟨some 47, none, .call 13 [(.s 46), (.c (i64 (-7)))] []⟩,
 ⟨some 48, none, .mv false (.s 7)⟩,
 ⟨some 49, none, .call 13 [(.s 48), (.c (i64 (-18)))] []⟩,
 ⟨some 50, none, .bin .xor (.s 47) (.s 49)⟩,
 ⟨some 51, none, .mv false (.s 7)⟩,
 ⟨some 52, none, .bin .shr (.s 51) (.c (u64 3))⟩,
 ⟨some 53, none, .bin .xor (.s 50) (.s 52)⟩,
 ⟨some 9, none, .mv false (.s 53)⟩]) (
 .seq (
 .region [2, 3, 4, 9, 10, 11] [] [
 ⟨some 54, none, .mv false (.s 8)⟩,
 ⟨some 55, none, .call 13 [(.s 54), (.c (i64 (-17)))] []⟩,
 ⟨some 56, none, .mv false (.s 8)⟩,
 ⟨some 57, none, .call 13 [(.s 56), (.c (i64 (-19)))] []⟩,
 ⟨some 58, none, .bin .xor (.s 55) (.s 57)⟩,
 ⟨some 59, none, .mv false (.s 8)⟩,
 ⟨some 60, none, .bin .shr (.s 59) (.c (u64 10))⟩,
 ⟨some 61, none, .bin .xor (.s 58) (.s 60)⟩,
 ⟨some 10, none, .mv false (.s 61)⟩]) (
 .region [2, 3, 11] [.norm [2, 3]] [
 ⟨some 62, none, .mv false (.s 4)⟩,
 ⟨some 63, none, .mv false (.s 4)⟩,
 ⟨some 64, none, .bin .sub (.s 63) (.c (i64 16))⟩,
 ⟨some 65, none, .idxArr 64 1 (.s 3) (.s 64)⟩,
 ⟨some 66, none, .load none (some 3) false (.s 65)⟩,
 ⟨some 67, none, .mv false (.s 9)⟩,
 ⟨some 68, none, .bin .add (.s 66) (.s 67)⟩,
 ⟨some 69, none, .mv false (.s 4)⟩,
 ⟨some 70, none, .bin .sub (.s 69) (.c (i64 7))⟩,
 ⟨some 71, none, .idxArr 64 1 (.s 3) (.s 70)⟩,
 ⟨some 72, none, .load none (some 3) false (.s 71)⟩,
 ⟨some 73, none, .bin .add (.s 68) (.s 72)⟩,
 ⟨some 74, none, .mv false (.s 10)⟩,
 ⟨some 75, none, .bin .add (.s 73) (.s 74)⟩,
 ⟨some 76, none, .idxArr 64 1 (.s 3) (.s 62)⟩,
 ⟨none, none, .store none 3 false (.s 76) (.s 75)⟩]))))))) (
 .region [2, 3, 11] [] [
 ⟨some 77, none, .bin .add (.s 11) (.c (i64 1))⟩,
 ⟨some 11, none, .mv false (.s 77)⟩]))))))) (
 .seq (
 .region [2] [.norm [2, 3]] [
 ⟨some 78, none, .load (some 64) (some 3) false (.s 3)⟩,
 ⟨none, none, .store (some 64) 2 false (.s 2) (.s 78)⟩]) (
 .ret)))) }

def z6G : z2r :=
 { n := 4, wr := [], res := [.t 8], body :=
 .seq (
 .region [] [] [
 ⟨some 8, none, .mv false (.c (u32 0))⟩]) (
 .seq (
 .region [8] [] [
 ⟨some 9, none, .mv false (.s 0)⟩,
 ⟨some 10, none, .mv false (.s 1)⟩,
 ⟨some 11, none, .un .neg (.s 10)⟩,
 ⟨some 12, none, .call 13 [(.s 9), (.s 11)] []⟩,
 ⟨some 13, none, .mv false (.s 0)⟩,
 ⟨some 14, none, .mv false (.s 2)⟩,
 ⟨some 15, none, .un .neg (.s 14)⟩,
 ⟨some 16, none, .call 13 [(.s 13), (.s 15)] []⟩,
 ⟨some 17, none, .bin .xor (.s 12) (.s 16)⟩,
 ⟨some 18, none, .mv false (.s 0)⟩,
 ⟨some 19, none, .mv false (.s 3)⟩,
 ⟨some 20, none, .un .neg (.s 19)⟩,
 ⟨some 21, none, .call 13 [(.s 18), (.s 20)] []⟩,
 ⟨some 22, none, .bin .xor (.s 17) (.s 21)⟩,
 ⟨some 8, none, .mv false (.s 22)⟩]) (
 .ret)) }

def z3K : z2r :=
 { n := 1, wr := [], res := [.t 2], body :=
 .seq (
 .region [] [] [
 ⟨some 2, none, .mv true (.c (.sl (.own 1) none 0 []))⟩]) (
 .scope (
 .seq (
 .region [3, 4] [] [
 ⟨some 8, none, .mv false (.s 0)⟩,
 ⟨some 9, none, .toInt .u64 (.s 8)⟩,
 ⟨some 3, none, .mv false (.s 9)⟩,
 ⟨some 4, none, .mv false (.c (u8 0))⟩]) (
 .seq (
 .seq (
 .region [3, 4, 11] [] [
 ⟨some 10, none, .mv false (.s 0)⟩,
 ⟨some 11, none, .bin .lss (.s 10) (.c (i64 0))⟩]) (
 .cond (.s 11) (
 .region [3, 4] [] [
 ⟨some 12, none, .mv false (.s 3)⟩,
 ⟨some 13, none, .un .xor (.s 12)⟩,
 ⟨some 3, none, .mv false (.s 13)⟩,
 ⟨some 4, none, .mv false (.c (u8 255))⟩]) (
 .ghost (.keep [3, 4]) .skip))) (
 .seq (
 .region [3, 4, 5] [] [
 ⟨some 5, none, .mv false (.c (i64 8))⟩]) (
 .seq (
 .ghost (.keep [3, 4, 5]) .skip) (
 .seq (
 .block 0 (
 .loop (
 .seq (
 .seq (
 .region [3, 4, 5, 15] [] [
 ⟨some 14, none, .mv false (.s 5)⟩,
 ⟨some 15, none, .bin .gtr (.s 14) (.c (i64 0))⟩]) (
 .cond (.s 15) (
 .ghost (.keep [3, 4, 5]) .skip) (
 .ghost (.keep [3, 4, 5]) (.exit 0)))) (
 .block 1 (
 .seq (
 .seq (
 .region [3, 4, 5, 21] [] [
 ⟨some 16, none, .mv false (.s 3)⟩,
 ⟨some 17, none, .mv false (.s 5)⟩,
 ⟨some 18, none, .bin .sub (.s 17) (.c (i64 1))⟩,
 ⟨some 19, none, .bin .mul (.c (i64 8)) (.s 18)⟩,
 ⟨some 20, none, .bin .shr (.s 16) (.s 19)⟩,
 ⟨some 21, none, .bin .gtr (.s 20) (.c (u64 0))⟩]) (
 .cond (.s 21) (
 .ghost (.keep [3, 4, 5]) (.exit 0)) (
 .ghost (.keep [3, 4, 5]) .skip))) (
 .region [3, 4, 5] [] [
 ⟨some 22, none, .mv false (.s 5)⟩,
 ⟨some 23, none, .bin .sub (.s 22) (.c (i64 1))⟩,
 ⟨some 5, none, .mv false (.s 23)⟩])))))) (
 .seq (
 .region [3, 4, 5, 6] [] [
 ⟨some 24, none, .mv false (.s 5)⟩,
 ⟨some 25, none, .bin .add (.c (i64 128)) (.s 24)⟩,
 ⟨some 26, none, .toInt .u8 (.s 25)⟩,
 ⟨some 27, none, .mv false (.s 4)⟩,
 ⟨some 28, none, .bin .xor (.s 26) (.s 27)⟩,
 ⟨some 29, none, .buildSl 1 1 [u8 0] [(0, 1, (.s 28))]⟩,
 ⟨some 6, none, .mv true (.s 29)⟩]) (
 .seq (
 .seq (
 .region [3, 4, 6, 7] [] [
 ⟨some 30, none, .mv false (.s 5)⟩,
 ⟨some 31, none, .bin .sub (.s 30) (.c (i64 1))⟩,
 ⟨some 7, none, .mv false (.s 31)⟩]) (
 .block 2 (
 .loop (
 .seq (
 .seq (
 .region [3, 4, 6, 7, 33] [] [
 ⟨some 32, none, .mv false (.s 7)⟩,
 ⟨some 33, none, .bin .geq (.s 32) (.c (i64 0))⟩]) (
 .cond (.s 33) (
 .ghost (.keep [3, 4, 6, 7]) .skip) (
 .ghost (.keep [6]) (.exit 2)))) (
 .seq (
 .block 3 (
 .region [3, 4, 6, 7] [] [
 ⟨some 36, none, .mv true (.s 6)⟩,
 ⟨some 37, none, .mv false (.s 3)⟩,
 ⟨some 38, none, .mv false (.s 7)⟩,
 ⟨some 39, none, .bin .mul (.c (i64 8)) (.s 38)⟩,
 ⟨some 40, none, .bin .shr (.s 37) (.s 39)⟩,
 ⟨some 41, none, .toInt .u8 (.s 40)⟩,
 ⟨some 42, none, .mv false (.s 4)⟩,
 ⟨some 43, none, .bin .xor (.s 41) (.s 42)⟩,
 ⟨some 44, none, .buildSl 1 1 [u8 0] [(0, 1, (.s 43))]⟩,
 ⟨some 45, none, .append 1 1 false (some false) none 36 (.s 44)⟩,
 ⟨some 6, none, .mv true (.s 45)⟩])) (
 .region [3, 4, 6, 7] [] [
 ⟨some 34, none, .mv false (.s 7)⟩,
 ⟨some 35, none, .bin .sub (.s 34) (.c (i64 1))⟩,
 ⟨some 7, none, .mv false (.s 35)⟩])))))) (
 .seq (
 .region [2] [] [
 ⟨some 46, none, .mv true (.s 6)⟩,
 ⟨some 2, none, .mv true (.s 46)⟩]) (
 .ret)))))))))) }

def z6i : z2r :=
 { n := 2, wr := [], res := [.t 4], body :=
 .seq (
 .region [] [] [
 ⟨some 4, none, .mv false (.c (u32 0))⟩]) (
 .seq (
 .region [5] [] [
 ⟨some 6, none, .mv false (.s 1)⟩,
 ⟨some 7, none, .toInt .u64 (.s 6)⟩,
 ⟨some 8, none, .bin .and (.s 7) (.c (u64 31))⟩,
 ⟨some 5, none, .mv false (.s 8)⟩]) (
 .seq (
 .region [4] [] [
 ⟨some 9, none, .mv false (.s 0)⟩,
 ⟨some 10, none, .mv false (.s 5)⟩,
 ⟨some 11, none, .bin .shl (.s 9) (.s 10)⟩,
 ⟨some 12, none, .mv false (.s 0)⟩,
 ⟨some 13, none, .mv false (.s 5)⟩,
 ⟨some 14, none, .bin .sub (.c (u64 32)) (.s 13)⟩,
 ⟨some 15, none, .bin .shr (.s 12) (.s 14)⟩,
 ⟨some 16, none, .bin .or (.s 11) (.s 15)⟩,
 ⟨some 4, none, .mv false (.s 16)⟩]) (
 .ret))) }

end Go.Abs
end

section
namespace Go.Abs
def z6k (n : Int) : Prop := -9223372036854775808 ≤ n ∧ n ≤ 9223372036854775807
def z1eb : z5a := ⟨fun ds => ∃ n, z6k n ∧ ds = [i64 n], fun ds => .sl (.own 1) (some false) (z7v (asI (nth ds 0))).length (bys (z7v (asI (nth ds 0))))⟩
set_option maxRecDepth 100000 in
theorem z82b (c : UInt8) : c ^^^ 255 = 255 - c := by
 have h : ∀ k : Fin 256, UInt8.ofNat k.val ^^^ 255 = 255 - UInt8.ofNat k.val := by decide +kernel
 have := h ⟨c.toNat, c.toNat_lt⟩
 simpa using this
theorem z8xc (E : Env) : ∀ ds, z1eb.pre ds → ds.length = z3K.n ∧ awp E z3K.body (z9u z3K.res (z1eb.post ds)) (z8c z3K.wr ds) := by
 rintro _ ⟨n, ⟨hn0, hn1⟩, rfl⟩
 simp (disch := first | omega | (simp; omega)) [z3K, z1eb]
 refine z3a fun Q0 hQ0 => ?_
 have key : ∀ (x : UInt64) (f : UInt8), x.toNat = mag n → (∀ c, c ^^^ f = flp n c) → Q0 .normal ⟨[(0, i64 n)], [(3, u64 x), (4, u8 f)], []⟩ := by
  intro x f hx hf
  simp (disch := first | omega | (simp; omega)) [hQ0]
  refine z3a fun Q1 hQ1 => ?_
  have key2 : ∀ k : Nat, k ≤ 8 → (z1ma (mag n)).length = k → Q1 (.exit 0) ⟨[(0, i64 n)], [(3, u64 x), (4, u8 f), (5, i64 k)], []⟩ := by
   intro k hk8 hk
   simp (disch := first | omega | (simp; omega)) [hQ1, z7a]
   refine z3a fun Q2 hQ2 => ?_
   have ehd : (UInt8.ofInt 128 + UInt8.ofInt (k : Int)) ^^^ f = flp n (UInt8.ofNat (128 + k)) := by
    rw [← hf]
    congr 1
    apply UInt8.toNat_inj.1
    simp [z5ta]
    omega
   rw [ehd]
   refine z7d (fun j : Nat => ⟨[(0, i64 n)], [(3, u64 x), (4, u8 f), (6, .sl (.own 1) (some false) (1 + j) (bys (flp n (UInt8.ofNat (128 + k)) :: ((z1ma (mag n)).reverse.take j).map (flp n)))), (7, i64 ((k : Int) - 1 - j))], []⟩)
    (fun j => k - j) (· ≤ k) 0 (by simp; rfl) (by simp) fun j hj => ?_
   refine z3a fun Q3 hQ3 => ?_
   simp (disch := first | omega | (simp; omega)) [z7a]
   rw [z3b]
   refine ⟨by simp, fun h => ?_, fun h => ?_⟩ <;> simp at h
   ·simp (disch := first | omega | (simp; omega)) [z7a]
    refine ⟨by omega, by omega, ?_⟩
    have hjk : j < k := by omega
    have e8 : (8 * ((k : Int) - 1 - (j : Int))).toNat = 8 * (k - 1 - j) := by omega
    have hel : (z2Ea x (8 * (k - 1 - j))).toUInt8 ^^^ f = flp n ((z1ma (mag n))[k - 1 - j]'(by omega)) := by
     rw [hf, z8ta, z8ib hx, z34a]
    have htk : ((z1ma (mag n)).map (flp n)).reverse.take (j + 1) = ((z1ma (mag n)).map (flp n)).reverse.take j ++ [flp n ((z1ma (mag n))[k - 1 - j]'(by omega))] := by
     rw [List.take_succ_eq_append_getElem (by simp; omega)]
     simp [hk]
    rw [hQ3, e8, hel]
    simp
    refine ⟨j + 1, by omega, by omega, ⟨by omega, ?_⟩, by omega⟩
    rw [htk]
    simp [bys]
   ·have e : j = k := by omega
    subst e
    simp [hQ3, hQ2, z7v, hk, List.take_of_length_le]
    omega
  refine z7d (fun k : Nat => ⟨[(0, i64 n)], [(3, u64 x), (4, u8 f), (5, i64 k)], []⟩) (fun k => k) (fun k => k ≤ 8 ∧ (z1ma (mag n)).length ≤ k) 8 rfl ?_ fun k hk => ?_
  ·refine ⟨by decide, (z4ia 8 _).2 ?_⟩
   rw [← hx]
   exact x.toNat_lt
  ·obtain ⟨hk8, hkl⟩ := hk
   refine z3a fun Q2 hQ2 => ?_
   simp (disch := first | omega | (simp; omega)) [z7a]
   rw [z3b]
   refine ⟨by simp, fun h => ?_, fun h => ?_⟩ <;> simp at h
   ·obtain ⟨j, rfl⟩ : ∃ j, k = j + 1 := ⟨k - 1, by omega⟩
    have e1 : ((8 : Int) * (((j + 1 : Nat) : Int) - 1)).toNat = 8 * j := by omega
    simp (disch := first | omega | (simp; omega)) [z7a]
    refine ⟨by omega, ?_⟩
    rw [z3b]
    refine ⟨by simp, fun h2 => ?_, fun h2 => ?_⟩ <;> simp at h2
    ·simp [hQ2]
     refine key2 (j + 1) hk8 ?_
     have h3 : ¬ (z1ma (mag n)).length ≤ j := by
      rw [z4ia, ← z34a, Nat.not_lt, ← z7Da hx, ← e1]
      simpa using h2
     omega
    ·simp (disch := first | omega | (simp; omega)) [hQ2, z7a]
     have h3 : ¬ 0 < z2Ea x (8 * j) := by rw [← e1]; simpa using h2
     have h4 : (z1ma (mag n)).length ≤ j := by rw [z4ia, ← z34a, ← Nat.not_le, ← z7Da hx]; exact h3
     exact ⟨j, by omega, ⟨by omega, h4⟩, by omega⟩
   ·simp [hQ2]
    subst h
    exact key2 0 (by decide) (by omega)
 rw [z3b]
 have hge : ∀ m : Int, 0 ≤ m → m < 18446744073709551616 → (UInt64.ofInt m).toNat = m.toNat := fun m h0 h1 => by rw [z6sa, Int.emod_eq_of_lt h0 h1]
 refine ⟨by simp, fun h => ?_, fun h => ?_⟩ <;> simp at h
 ·simp
  refine key _ 255 ?_ ?_
  ·rw [mag, if_pos h, UInt64.toNat_not, z6sa]
   have : UInt64.size = 18446744073709551616 := rfl
   omega
  ·intro c
   rw [flp, if_pos h]
   exact z82b c
 ·simp
  refine key _ 0 ?_ ?_
  ·rw [hge n h (by omega), mag, if_neg (by omega)]
  ·intro c
   rw [flp, if_neg (by omega)]
   simp
end Go.Abs
end

section
namespace Go.Abs
def z90 (s : List UInt8) : List UInt8 := z7v s.length ++ s
def z5da : z5a := ⟨fun ds => ∃ s : List UInt8, s.length ≤ 1099511000000 ∧ ds = [st s], fun ds => .sl (.own 1) (some false) (z90 (gS (nth ds 0))).length (bys (z90 (gS (nth ds 0))))⟩
theorem z3sb {n : Int} (h : z6k n) : (z1ma (mag n)).length ≤ 8 := by
 rw [z4ia, mag]
 obtain ⟨h1, h2⟩ := h
 split <;> omega
theorem z8l {n : Int} (h : z6k n) : (z7v n).length ≤ 9 := by
 have := z3sb h
 simp [z7v]; omega
theorem z9Gb (E : Env) (h12 : E.G 12 = z1eb) : ∀ ds, z5da.pre ds → ds.length = z4u.n ∧ awp E z4u.body (z9u z4u.res (z5da.post ds)) (z8c z4u.wr ds) := by
 rintro _ ⟨s, hs, rfl⟩
 have hi : z6k (s.length : Int) := ⟨by omega, by omega⟩
 have hl := z8l hi
 simp (disch := first | omega | (simp; omega)) [z4u, z5da, h12, z1eb, z90, hi, z2R]
 omega
end Go.Abs
end

section
namespace Go.Abs
def z4Yb (k : List UInt8) (w : UInt8) : List UInt8 := (k.take 64 ++ z9c (64 - k.length)).map (· ^^^ w)
theorem z3Ib (k : List UInt8) (w : UInt8) : (z4Yb k w).length = 64 := by simp [z4Yb]; omega
def z6Gb (key : List UInt8) : List UInt8 := if 64 < key.length then sha key else key
def mac (key text : List UInt8) : List UInt8 := sha (z4Yb (z6Gb key) 92 ++ sha (z4Yb (z6Gb key) 54 ++ text))
def z65b : z5a := ⟨fun ds => ∃ (w : UInt8) (key : List UInt8), ds = [u8 w, .ep [st key]], fun ds => st (z4Yb (gS (nth (gCs (nth ds 1)) 0)) (gU8 (nth ds 0)))⟩
def macC : z5a := ⟨fun ds => ∃ key text : List UInt8, key.length < 1099511627776 ∧ text.length < 1099511000000 ∧ ds = [st key, st text], fun ds => st (mac (gS (nth ds 0)) (gS (nth ds 1)))⟩
def sts (l : List (List UInt8)) : List z2a := l.map st
@[simp] theorem z7nc (l : List (List UInt8)) : (sts l).length = l.length := by simp [sts]
@[simp] theorem z1dd : sts [] = [] := rfl
theorem z0Hb (x : List UInt8) (l : List (List UInt8)) : sts (x :: l) = st x :: sts l := rfl
@[simp] theorem z52c (l : List (List UInt8)) (n : Nat) : (sts l).take n = sts (l.take n) := by simp [sts]
@[simp] theorem z5Rc (l : List (List UInt8)) (n : Nat) : (sts l).drop n = sts (l.drop n) := by simp [sts]
def atS (l : List (List UInt8)) (i : Nat) : List UInt8 := l.getD i []
theorem z3Wb {l : List (List UInt8)} {n : Nat} (h : n < l.length) : hdA (sts (l.drop n)) = st (atS l n) := by
 rw [List.drop_eq_getElem_cons h, z0Hb]
 simp [atS, List.getD, List.getElem?_eq_getElem h]
def gSs (l : List z2a) : List (List UInt8) := l.map gS
@[simp] theorem z3dd (l : List (List UInt8)) : gSs (sts l) = l := by simp [gSs, sts, Function.comp_def]
@[simp] theorem z4hd : gSs [] = [] := rfl
theorem z5Ca {P : z2a → Prop} {l : List (List UInt8)} (h : ∀ x, P (st x)) : ∀ c ∈ sts l, P c := fun c hc => by
 simp only [sts, List.mem_map] at hc
 obtain ⟨x, _, rfl⟩ := hc
 exact h x
@[simp] theorem z4Qc (l : List (List UInt8)) : (∀ c ∈ sts l, z5f c = true) ↔ True := iff_true_intro (z5Ca (by simp))
@[simp] theorem z5Dc (l : List (List UInt8)) : z7h (sts l) = true := z9oa (z5Ca (by simp))
@[simp] theorem z9Zc (l : List (List UInt8)) : (∀ c ∈ sts l, z5d c) ↔ True := iff_true_intro (z5Ca (by simp))
@[simp] theorem z7cd (l : List (List UInt8)) : (∀ c ∈ sts l, z2f c = false) ↔ True := iff_true_intro (z5Ca (by simp))
@[simp] theorem z9Db (l : List (List UInt8)) : (∀ c ∈ sts l, z5f c = true ∧ z5d c) ↔ True := iff_true_intro (z5Ca (by simp))
@[simp] theorem z7Hc (l : List (List UInt8)) : z2i (sts l) = [] := by induction l <;> simp_all [sts]
def z49 (tag : Int) (parts : List (List UInt8)) : List UInt8 := UInt8.ofInt tag :: parts.flatMap z90
def z7L (tag : Int) (parts : List (List UInt8)) : List UInt8 := (sha (z49 tag parts)).take 16
def z2ma (parts : List (List UInt8)) : Nat := (parts.map fun p => p.length + 9).sum
theorem z4Fb {s : List UInt8} (h : s.length < 1099511627776) : (z90 s).length ≤ s.length + 9 := by
 have := z8l (n := s.length) ⟨by omega, by omega⟩
 simp [z90]; omega
def ofC : z5a := ⟨fun ds => ∃ (tag : Int) (nl : Option Bool) (parts : List (List UInt8)), z2ma parts < 1099511000000 ∧ ds = [i64 tag, .sl .plain nl parts.length (sts parts)], fun ds => .agg (bys (z7L (asI (nth ds 0)) (gSs (gCs (nth ds 1)))))⟩
theorem z3E (tag : Int) (parts : List (List UInt8)) : (z7L tag parts).length = 16 := by simp [z7L, z0Ma]

def svc (l : List UInt8) : List z2a := scs (z8A.init.add l)
theorem z9fb (l : List UInt8) : (z8A.init.add l).b.length = 64 := by rw [z2Da, z9Ab]
@[simp] theorem z4sb (l : List UInt8) : (svc l).length = 73 := z8Q (z9fb l)
@[simp] theorem z9Yc (l : List UInt8) : (∀ c ∈ svc l, z5d c) ↔ True := z9Bb _
@[simp] theorem z9ed (l : List UInt8) : (∀ c ∈ svc l, z2f c = false) ↔ True := z98b _
@[simp] theorem z6vc (l : List UInt8) : z7h (svc l) = true := z9Ra _
@[simp] theorem z60c (l : List UInt8) : (∀ c ∈ svc l, z5f c = true) ↔ True := z0Nb _
@[simp] theorem z59c (l : List UInt8) : z4c (svc l) = true := z1gc _
@[simp] theorem z70c (l : List UInt8) : z2i (svc l) = [] := z4Qb _
@[simp] theorem z8Yc (l : List UInt8) : (svc l).take 73 = svc l := List.take_of_length_le (by rw [z4sb]; decide)
@[simp] theorem z1pc {zs : List z2a} (l : List UInt8) (h : zs.length = 73) : splice zs 0 (svc l) = svc l := z9f (by rw [z4sb, h])
@[simp] theorem z9oc : (z6p (z8j 8) ++ (bys (z9c 64) ++ [u64 0])).length = 73 := z98a
@[simp] theorem z1Oc : z6pa.pre [] = True := by simp [z6pa]
@[simp] theorem z0kc : z6pa.post [] = .agg (svc []) := rfl
@[simp] theorem z5dd (l m : List UInt8) : z5jb.pre [.agg (svc l), st m] = True := eq_true ⟨_, m, z9fb l, rfl⟩
@[simp] theorem z62c (l m : List UInt8) : z5jb.post [.agg (svc l), st m] = .agg (svc (l ++ m)) := by
 simp [z5jb, svc, z8A.v, z8A.of_scs _ (z9fb l), z77]
@[simp] theorem z3xc (l : List UInt8) (nl : Option Bool) (n : Nat) : z6tc.post [.sl .plain nl n (bys l)] = .agg (bys (sha l)) := by simp [z6tc]
theorem z52b {l : List UInt8} (h : l.length < 1099511627776) : z8Jb.pre [.agg (svc l)] = True :=
 eq_true ⟨_, z9fb l, by rw [z3Va _ _ (by show 0 + l.length < _; omega)]; show 0 + l.length < _; omega, rfl⟩
@[simp] theorem z1Tc (l : List UInt8) : z8Jb.post [.agg (svc l)] = .agg (bys (sha l)) := by simp [z8Jb, svc, z8A.of_scs _ (z9fb l), sha]
@[simp] theorem z4Tc (w : UInt8) (k : List UInt8) : z65b.pre [u8 w, .ep [st k]] = True := eq_true ⟨w, k, rfl⟩
@[simp] theorem z4Oc (w : UInt8) (k : List UInt8) : z65b.post [u8 w, .ep [st k]] = st (z4Yb k w) := by simp [z65b]
@[simp] theorem z03c (k m : List UInt8) : macC.post [st k, st m] = st (mac k m) := by simp [macC]
theorem z2Ba {s : List UInt8} (h : s.length ≤ 1099511000000) : z5da.pre [st s] = True := eq_true ⟨s, h, rfl⟩
@[simp] theorem z8lc (s : List UInt8) : z5da.post [st s] = .sl (.own 1) (some false) (z90 s).length (bys (z90 s)) := by simp [z5da]
theorem z7Ub {tag : Int} {nl : Option Bool} {n : Nat} {l : List (List UInt8)} (hn : n = l.length) (h : z2ma l < 1099511000000) : ofC.pre [i64 tag, .sl .plain nl n (sts l)] = True := eq_true ⟨tag, nl, l, h, by rw [hn]⟩
@[simp] theorem z55b (tag : Int) (nl : Option Bool) (n : Nat) (l : List (List UInt8)) : ofC.post [i64 tag, .sl .plain nl n (sts l)] = .agg (bys (z7L tag l)) := by simp [ofC]
attribute [simp] z3Ib z0Ma z3E
theorem z3A {zs : List z2a} {l : List UInt8} (h : l.length = zs.length) : splice zs 0 (bys l) = bys l := z9f (by simpa using h)
theorem z6F : ∀ {l : List (List UInt8)}, z2ma l < 1099511000000 → (l.flatMap z90).length ≤ z2ma l
 | [], _ => by simp
 | x :: l, h => by
  simp only [z2ma, List.map_cons, List.sum_cons] at h
  have h1 := z4Fb (s := x) (by omega)
  have h2 := z6F (l := l) (by simp only [z2ma]; omega)
  simp only [z2ma] at h2
  simp only [List.flatMap_cons, List.length_append, z2ma, List.map_cons, List.sum_cons]
  omega
theorem z4Da {l : List (List UInt8)} {i : Nat} (hi : i < l.length) : (atS l i).length + 9 ≤ z2ma l := by
 induction l generalizing i with
 | nil => simp at hi
 | cons x l ih =>
  simp only [z2ma, List.map_cons, List.sum_cons]
  cases i with
  | zero => simp [atS]
  | succ i =>
   have := ih (i := i) (by simpa using hi)
   simp only [z2ma] at this
   simp only [atS, List.getD_cons_succ] at this ⊢
   omega
theorem z5p {α β : Type} (l : List α) (f : α → List β) (d : α) {i : Nat} (hi : i < l.length) : (l.take (i + 1)).flatMap f = (l.take i).flatMap f ++ f (l.getD i d) := by
 rw [List.take_succ_eq_append_getElem hi, List.getD, List.getElem?_eq_getElem hi]
 simp only [List.flatMap_append, List.flatMap_cons, List.flatMap_nil, List.append_nil, Option.getD_some]
theorem z27c {l : List UInt8} {i : Nat} (h : i < l.length) : l.take (i + 1) = l.take i ++ [at8 l i] := by
 rw [List.take_succ_eq_append_getElem h, at8, List.getD, List.getElem?_eq_getElem h]; rfl
theorem z7ka : ∀ l : List (List UInt8), l.length ≤ z2ma l
 | [] => by simp
 | x :: l => by
  have := z7ka l
  simp only [z2ma, List.map_cons, List.sum_cons, List.length_cons] at this ⊢
  omega
theorem z1Wa (l : List (List UInt8)) (i : Nat) : z2ma (l.take i) ≤ z2ma l := by
 have : z2ma l = z2ma (l.take i) + z2ma (l.drop i) := by
  simp only [z2ma]
  rw [← List.sum_append, ← List.map_append, List.take_append_drop]
 omega
end Go.Abs
end

section
namespace Go.Abs
def z8Tb : z5a := ⟨fun ds => ∃ a b : List UInt8, a.length < 1099511627776 ∧ b.length < 1099511627776 ∧ ds = [st a, st b], fun ds => bo (gS (nth ds 0) == gS (nth ds 1))⟩
end Go.Abs
end

section
namespace Go.Abs
theorem z6Cc {cs : List z2a} (h : (GT.int .u8).has cs) : ∃ x : UInt8, cs = [u8 x] := by
 simp only [GT.has] at h
 obtain ⟨n, rfl, h0, h1⟩ := h
 have e0 : IntKind.u8.min = 0 := rfl
 have e1 : IntKind.u8.max = 255 := rfl
 rw [e0] at h0
 rw [e1] at h1
 refine ⟨UInt8.ofInt n, ?_⟩
 have : ((UInt8.ofInt n).toNat : Int) = n := by rw [z5ta]; omega
 rw [u8, this]
theorem z8s {cs : List z2a} (h : (GT.int .i64).has cs) : ∃ x : Int, -9223372036854775808 ≤ x ∧ x ≤ 9223372036854775807 ∧ cs = [i64 x] := by
 simp only [GT.has] at h
 obtain ⟨n, rfl, h0, h1⟩ := h
 exact ⟨n, h0, h1, rfl⟩
theorem z6Lb {cs : List z2a} (h : GT.bool.has cs) : ∃ x : Bool, cs = [bo x] := by
 simp only [GT.has] at h
 exact h
theorem z10b {cs : List z2a} (h : GT.str.has cs) : ∃ l : List UInt8, cs = [st l] := by
 simp only [GT.has] at h
 obtain ⟨s, rfl, _⟩ := h
 exact ⟨s.data.toList, by simp [st]⟩
theorem z2lb {α : Type} {P : List z2a → Prop} {f : α → List z2a} (h : ∀ cs, P cs → ∃ x, cs = f x) : ∀ (ess : List (List z2a)), (∀ c ∈ ess, P c) → ∃ l : List α, ess = l.map f
 | [], _ => ⟨[], rfl⟩
 | c :: ess, hc => by
  obtain ⟨x, hx⟩ := h c (hc c (by simp))
  obtain ⟨l, hl⟩ := z2lb h ess fun d hd => hc d (by simp [hd])
  exact ⟨x :: l, by rw [List.map_cons, ← hx, ← hl]⟩
theorem z1bb {α : Type} (f : α → z2a) : ∀ l : List α, (l.map fun x => [f x]).flatten = l.map f
 | [] => rfl
 | x :: l => by simp [z1bb f l]
theorem z0ab {n : Nat} {cs : List z2a} (h : (GT.arr n (.int .u8)).has cs) : ∃ l : List UInt8, l.length = n ∧ cs = bys l := by
 simp only [GT.has] at h
 obtain ⟨ess, hn, h1, rfl⟩ := h
 obtain ⟨l, rfl⟩ := z2lb (P := (GT.int .u8).has) (f := fun x => [u8 x]) (fun cs h => z6Cc h) ess (by simpa only [GT.has] using h1)
 exact ⟨l, by simpa using hn, by rw [z1bb]; rfl⟩
@[simp] theorem z14c (g : GT) (c : z2a) (h : g.row = false) : g.top [c] = c := by simp [GT.top, h]

theorem z68a {K : Cx} {W : World} {name : String} {k : IntKind} {zs : List Int} {g : Nat} {cs : List z2a} (h : Lib.TabIs K.P W name k zs) (hg : K.P.globalNamed name = some g) (hc : cs = zs.map fun z => .lit (.int k z)) :
  z9e K.toCon (z7ua W) W cs g 0 := by
 subst hc
 refine z9e.mk fun i d hd => ?_
 rw [List.getElem?_map, Option.map_eq_some_iff] at hd
 obtain ⟨z, hz, rfl⟩ := hd
 have := World.var?_cell hg h i
 rw [Nat.zero_add]
 have hcell : W.cell? ⟨g, i, none⟩ = some (.int k z) := by rw [this]; simp [hz]
 exact ⟨z3pb hcell, _, hcell, by simp [z2d]⟩
def z2ja {H : Type} : DataW H → Nat
 | .lit (.string l) => l.length + 1
 | .lit _ => 1
 | .nil => 1
 | .ptr d => z2ja d + 1
 | .slice es _ => (es.attach.map fun ⟨d, _⟩ => z2ja d).sum + 1
 | .agg ps => (ps.attach.map fun ⟨d, _⟩ => z2ja d).sum + 1
 | _ => 1
theorem z8db {H : Type} : z7lc (z2ja (H := H)) := by
 refine ⟨fun l => ?_, fun l => ?_, ?_, fun es sp => ?_, fun ps => ?_⟩
 ·cases l <;> simp [z2ja]
 ·simp [z2ja]
 ·simp [z2ja]
 ·rw [z2ja]
  have : (es.attach.map fun x : { x // x ∈ es } => z2ja x.1).sum = (es.map z2ja).sum := by rw [List.attach_map_val (l := es) (f := z2ja)]
  exact Nat.le_of_eq (by rw [← this])
 ·rw [z2ja]
  have : (ps.attach.map fun x : { x // x ∈ ps } => z2ja x.1).sum = (ps.map z2ja).sum := by rw [List.attach_map_val (l := ps) (f := z2ja)]
  exact Nat.le_trans (Nat.le_of_eq this.symm) (Nat.le_succ _)
end Go.Abs
end

section
namespace Go.Abs
section
variable {H : Type} {enc : TypeId × Value → H} {P : Program} {W W' : World}
end
end Go.Abs
end

section
namespace Go.Abs
theorem z3g {P : Nat × Bool → Prop} {l m : List (Nat × Bool)} (h : l.all (fun p => m.contains p) = true) (hm : ∀ p ∈ m, P p) : ∀ p ∈ l, P p := fun p hp => by
 have := List.all_eq_true.1 h p hp
 exact hm p (by simpa using this)
end Go.Abs
end

section
namespace Go.Abs
def z3T (b : List UInt8) : List UInt8 := b ++ z71a (UInt64.ofNat b.length)
theorem z5nb (n : UInt64) : (z71a n).length = z3Fa n.toNat + 9 := by simp [z71a, z5ra]
theorem z6ra {b : List UInt8} (h : b.length < 1099511627776) : (z3T b).length % 64 = 0 ∧ b.length < (z3T b).length ∧ (z3T b).length ≤ b.length + 128 := by
 have hn : (UInt64.ofNat b.length).toNat = b.length := by rw [UInt64.toNat_ofNat']; omega
 have h1 := z9Ya b.length
 have h2 := z73a b.length
 simp only [z3T, List.length_append, z5nb, hn]
 omega
def blk (m : List UInt8) (s : H8) : Nat → H8
 | 0 => s
 | k + 1 => z9Qa (blk m s k) ((m.drop (64 * k)).take 64)
theorem z3Ia (m : List UInt8) : ∀ k, 64 * k ≤ m.length → 64 * k < 1099511627776 → (z8A.init.add (m.take (64 * k))).h = blk m iv k
 | 0, _, _ => by simp [z8A.add, blk, z8A.init]
 | k + 1, h, h' => by
  have ih := z3Ia m k (by omega) (by omega)
  have hb := z9fb (m.take (64 * k))
  have hn : (z8A.init.add (m.take (64 * k))).n.toNat = 64 * k := by
   have e : z8A.init.n.toNat = 0 := rfl
   rw [z3Va _ _ (by rw [e]; simp; omega), e, List.length_take]
   omega
  have h64 : (z8A.init.add (m.take (64 * k))).n.toNat % 64 = 0 := by rw [hn]; omega
  rw [show 64 * (k + 1) = 64 * k + 64 by omega, List.take_add, z77, z8Ca _ hb 64 _ (by simp; omega) (by omega)]
  simp only [h64, Nat.zero_add, if_true, List.take_zero, List.nil_append, ih, blk]
  have hd : List.drop 64 (z8A.init.add (m.take (64 * k))).b = [] := List.drop_of_length_le (by omega)
  rw [hd, List.append_nil]
theorem z4rb {b : List UInt8} (h : b.length < 1099511000000) : sha b = z8hb (blk (z3T b) iv ((z3T b).length / 64)) 32 := by
 obtain ⟨h1, h2, h3⟩ := z6ra (b := b) (by omega)
 have e := z3Ia (z3T b) ((z3T b).length / 64) (by omega) (by omega)
 rw [show 64 * ((z3T b).length / 64) = (z3T b).length by omega, List.take_length] at e
 have hn : (z8A.init.add b).n = UInt64.ofNat b.length := by rw [z2Ec]; exact UInt64.zero_add _
 rw [← e, sha, z8A.sum, z3T, z77, hn]
def few (l : List (List UInt8)) : Bool := decide (l.length ≤ 12) && l.all fun s => decide (s.length ≤ 400)
def z9Ja : z5a := ⟨fun ds => ∃ x n, 0 ≤ n ∧ n ≤ 32 ∧ ds = [u32 x, i64 n], fun ds => u32 (z40 (z0Vb (nth ds 0)) (asI (nth ds 1)).toNat)⟩
def z6ga : z5a := ⟨fun ds => ∃ (nl : Option Bool) (b : List UInt8), b.length < 1099511000000 ∧ ds = [.sl .plain nl b.length (bys b)], fun ds => .sl (.own 1) (some false) (z3T (gBs (gCs (nth ds 0)))).length (bys (z3T (gBs (gCs (nth ds 0)))))⟩
def fewC : z5a := ⟨fun ds => ∃ (nl : Option Bool) (l : List (List UInt8)), ds = [.sl .plain nl l.length (sts l)], fun ds => bo (few (gSs (gCs (nth ds 0))))⟩
def z3yc : z5a := ⟨fun ds => ∃ (nl : Option Bool) (l : List (List UInt8)), z2ma l < 1099511000000 ∧ ds = [.sl .plain nl l.length (sts l)], fun ds => st (gSs (gCs (nth ds 0))).flatten⟩
def z4ob : z5a := ⟨fun ds => ∃ h : List UInt8, h.length = 32 ∧ ds = [.agg (bys h)], fun ds => st (gBs (gCs (nth ds 0)))⟩
def z7nb : z5a := ⟨fun ds => ∃ h : List UInt8, h.length = 16 ∧ ds = [.agg (bys h)], fun ds => st (gBs (gCs (nth ds 0)))⟩
def z0Cc : z5a := ⟨fun ds => ∃ (k : List UInt8) (w : UInt8), k.length < 1099511000000 ∧ ds = [st k, u8 w], fun ds => .sl (.own 1) none 64 (bys (z4Yb (z6Gb (gS (nth ds 0))) (gU8 (nth ds 1))))⟩
def z0Ta : z5a := ⟨fun ds => ∃ (nl : Option Bool) (l : List UInt8), l.length < 1099511000000 ∧ ds = [.sl .plain nl l.length (bys l)], fun ds => .agg (bys (sha (gBs (gCs (nth ds 0)))))⟩
def z9vc : z5a := ⟨fun ds => ∃ key text : List UInt8, key.length < 1099511000000 ∧ text.length < 1099510000000 ∧ ds = [st key, st text], fun ds => st (mac (gS (nth ds 0)) (gS (nth ds 1)))⟩
def z0ua : z5a := ⟨fun ds => ∃ (nl : Option Bool) (l : List UInt8), l.length < 1099511000000 ∧ ds = [.sl .plain nl l.length (bys l)], fun ds => .agg (bys ((sha (gBs (gCs (nth ds 0)))).take 16))⟩
def z1ta : z5a := ⟨fun ds => ∃ (tag : Int) (nl : Option Bool) (l : List (List UInt8)), z2ma l < 1099510000000 ∧ ds = [i64 tag, .sl .plain nl l.length (sts l)],
 fun ds => .sl (.own 1) (some false) (z49 (asI (nth ds 0)) (gSs (gCs (nth ds 1)))).length (bys (z49 (asI (nth ds 0)) (gSs (gCs (nth ds 1)))))⟩
def z6rb : z5a := ⟨fun ds => ∃ (tag : Int) (nl : Option Bool) (l : List (List UInt8)), z2ma l < 1099510000000 ∧ ds = [i64 tag, .sl .plain nl l.length (sts l)], fun ds => .agg (bys (z7L (asI (nth ds 0)) (gSs (gCs (nth ds 1)))))⟩
def z1Fa : z5a := ⟨fun ds => ∃ n, z6k n ∧ ds = [i64 n], fun ds => .sl (.own 1) none (z7v (asI (nth ds 0))).length (bys (z7v (asI (nth ds 0))))⟩
def z7ba : z5a := ⟨fun ds => ∃ s : List UInt8, s.length ≤ 1099511000000 ∧ ds = [st s], fun ds => .sl (.own 1) none (z90 (gS (nth ds 0))).length (bys (z90 (gS (nth ds 0))))⟩
theorem z76a {x : UInt32} {n : Int} (h0 : 0 ≤ n) (h1 : n ≤ 32) : z9Ja.pre [u32 x, i64 n] = True := eq_true ⟨x, n, h0, h1, rfl⟩
@[simp] theorem z3Ic (x : UInt32) (n : Int) : z9Ja.post [u32 x, i64 n] = u32 (z40 x n.toNat) := by simp [z9Ja]
theorem z6kb {b : List UInt8} {nl : Option Bool} {n : Nat} (hn : n = 64) (h : b.length = 64) : z2Z.pre [.sl .plain nl n (bys b)] = True := eq_true ⟨nl, b, h, by rw [hn]⟩
@[simp] theorem z7oc (b : List UInt8) (nl : Option Bool) (n : Nat) : z2Z.post [.sl .plain nl n (bys b)] = .agg (z6p (z8k b 64)) := by simp [z2Z]
theorem z9gb {b : List UInt8} {nl : Option Bool} {n : Nat} (hn : n = b.length) (h : b.length < 1099511000000) : z6ga.pre [.sl .plain nl n (bys b)] = True := eq_true ⟨nl, b, h, by rw [hn]⟩
@[simp] theorem z05b (b : List UInt8) (nl : Option Bool) (n : Nat) : z6ga.post [.sl .plain nl n (bys b)] = .sl (.own 1) (some false) (z3T b).length (bys (z3T b)) := by simp [z6ga]
@[simp] theorem z00c (l : List (List UInt8)) (nl : Option Bool) (n : Nat) : fewC.post [.sl .plain nl n (sts l)] = bo (few l) := by simp [fewC]
@[simp] theorem z6Gc (l : List (List UInt8)) (nl : Option Bool) (n : Nat) : z3yc.post [.sl .plain nl n (sts l)] = st l.flatten := by simp [z3yc]
@[simp] theorem z63b (h : List UInt8) : z4ob.post [.agg (bys h)] = st h := by simp [z4ob]
@[simp] theorem z47b (h : List UInt8) : z7nb.post [.agg (bys h)] = st h := by simp [z7nb]
@[simp] theorem z3Dc (k : List UInt8) (w : UInt8) : z0Cc.post [st k, u8 w] = .sl (.own 1) none 64 (bys (z4Yb (z6Gb k) w)) := by simp [z0Cc]
theorem z9Fb {l : List UInt8} {nl : Option Bool} {n : Nat} (hn : n = l.length) (h : l.length < 1099511000000) : z0Ta.pre [.sl .plain nl n (bys l)] = True := eq_true ⟨nl, l, h, by rw [hn]⟩
@[simp] theorem z6Pc (l : List UInt8) (nl : Option Bool) (n : Nat) : z0Ta.post [.sl .plain nl n (bys l)] = .agg (bys (sha l)) := by simp [z0Ta]
@[simp] theorem z4Gc (k m : List UInt8) : z9vc.post [st k, st m] = st (mac k m) := by simp [z9vc]
theorem z2ub {l : List UInt8} {nl : Option Bool} {n : Nat} (hn : n = l.length) (h : l.length < 1099511000000) : z0ua.pre [.sl .plain nl n (bys l)] = True := eq_true ⟨nl, l, h, by rw [hn]⟩
@[simp] theorem z9qc (l : List UInt8) (nl : Option Bool) (n : Nat) : z0ua.post [.sl .plain nl n (bys l)] = .agg (bys ((sha l).take 16)) := by simp [z0ua]
theorem z2tb {tag : Int} {nl : Option Bool} {n : Nat} {l : List (List UInt8)} (hn : n = l.length) (h : z2ma l < 1099510000000) : z1ta.pre [i64 tag, .sl .plain nl n (sts l)] = True := eq_true ⟨tag, nl, l, h, by rw [hn]⟩
@[simp] theorem z6mc (tag : Int) (nl : Option Bool) (n : Nat) (l : List (List UInt8)) : z1ta.post [i64 tag, .sl .plain nl n (sts l)] = .sl (.own 1) (some false) (z49 tag l).length (bys (z49 tag l)) := by simp [z1ta]
theorem z11b {tag : Int} {nl : Option Bool} {n : Nat} {l : List (List UInt8)} (hn : n = l.length) (h : z2ma l < 1099510000000) : z6rb.pre [i64 tag, .sl .plain nl n (sts l)] = True := eq_true ⟨tag, nl, l, h, by rw [hn]⟩
@[simp] theorem z59a (tag : Int) (nl : Option Bool) (n : Nat) (l : List (List UInt8)) : z6rb.post [i64 tag, .sl .plain nl n (sts l)] = .agg (bys (z7L tag l)) := by simp [z6rb]
theorem z9wa {n : Int} (h0 : -9223372036854775808 ≤ n) (h1 : n ≤ 9223372036854775807) : z1Fa.pre [i64 n] = True := eq_true ⟨n, ⟨h0, h1⟩, rfl⟩
@[simp] theorem z5Fc (n : Int) : z1Fa.post [i64 n] = .sl (.own 1) none (z7v n).length (bys (z7v n)) := by simp [z1Fa]
theorem z8Ha {s : List UInt8} (h : s.length ≤ 1099511000000) : z7ba.pre [st s] = True := eq_true ⟨s, h, rfl⟩
@[simp] theorem z6ec (s : List UInt8) : z7ba.post [st s] = .sl (.own 1) none (z90 s).length (bys (z90 s)) := by simp [z7ba]
theorem z0Ka {n : Int} (h0 : -9223372036854775808 ≤ n) (h1 : n ≤ 9223372036854775807) : z1eb.pre [i64 n] = True := eq_true ⟨n, ⟨h0, h1⟩, rfl⟩
@[simp] theorem z4Rc (n : Int) : z1eb.post [i64 n] = .sl (.own 1) (some false) (z7v n).length (bys (z7v n)) := by simp [z1eb]
end Go.Abs
end

section
namespace Go.Abs
def dig (c : UInt8) : UInt8 := at8 [48, 49, 50, 51, 52, 53, 54, 55, 56, 57, 97, 98, 99, 100, 101, 102] c.toNat
def z0yc (s : List UInt8) : List UInt8 := s.flatMap fun c => [dig (c / 16), dig (c % 16)]
def hexC : z5a := ⟨fun ds => ∃ s : List UInt8, s.length < 1000000000 ∧ ds = [st s], fun ds => st (z0yc (gS (nth ds 0)))⟩
def z18c (pre : List z2a → Prop) : z5a := ⟨pre, fun _ => bo true⟩
def z6hc : z5a := z18c fun ds => ds = []
@[simp] theorem z3Zc (s : List UInt8) : hexC.post [st s] = st (z0yc s) := by simp [hexC]
@[simp] theorem z4cd : z6hc.pre [] = True := eq_true rfl
@[simp] theorem z51c (ds : List z2a) : z6hc.post ds = bo true := rfl
@[simp] theorem z4mc (a b : List UInt8) : z8Tb.post [st a, st b] = bo (a == b) := by simp [z8Tb]
end Go.Abs
end

section
namespace Go.Abs
def z7bb : List UInt8 → Nat
 | [] => 0
 | d :: l => d.toNat + 256 * z7bb l
theorem z2Kb {n : Int} {k : Nat} (hk : k ≤ 8) : (flp n (UInt8.ofNat (128 + k))).toNat = if n < 0 then 127 - k else 128 + k := by
 have h : (UInt8.ofNat (128 + k)).toNat = 128 + k := by rw [UInt8.toNat_ofNat']; omega
 unfold flp
 split
 ·rw [UInt8.toNat_sub, h, show (255 : UInt8).toNat = 255 from rfl]
  omega
 ·exact h
end Go.Abs
end

section
namespace Go.Abs
def fl (h c : UInt8) : UInt8 := if h < 128 then 255 - c else c
def kOf (h : UInt8) : Nat := (fl h h).toNat - 128
def z1qa (l : List UInt8) : Nat := l.foldl (fun a c => 256 * a + c.toNat) 0
def z0m : List UInt8 → Int × Nat × Nat
 | [] => (0, 0, 5)
 | h :: t =>
  if 8 < kOf h then (0, 0, 6) else if t.length < kOf h then (0, 0, 5)
  else if 0 < kOf h ∧ fl h (at8 t 0) = 0 then (0, 0, 6)
  else if 2 ^ 63 ≤ z1qa ((t.take (kOf h)).map (fl h)) then (0, 0, 6)
  else (if h < 128 then -1 - (z1qa ((t.take (kOf h)).map (fl h)) : Int) else z1qa ((t.take (kOf h)).map (fl h)), kOf h + 1, 0)

theorem z4fb (h : UInt8) : h < 128 ↔ h.toNat < 128 := UInt8.lt_iff_toNat_lt
theorem z6bb (c : UInt8) : (255 - c).toNat = 255 - c.toNat := by
 have := c.toNat_lt
 have h : (255 : UInt8).toNat = 255 := rfl
 rw [UInt8.toNat_sub, h]; omega
theorem z62a (h : UInt8) : kOf h = if h.toNat < 128 then 127 - h.toNat else h.toNat - 128 := by
 unfold kOf fl
 by_cases hh : h < 128
 ·rw [if_pos hh, if_pos ((z4fb h).1 hh), z6bb]; have := (z4fb h).1 hh; omega
 ·rw [if_neg hh, if_neg (fun e => hh ((z4fb h).2 e))]
theorem z2Ua (l : List UInt8) (c : UInt8) : z1qa (l ++ [c]) = 256 * z1qa l + c.toNat := by simp [z1qa]
theorem z46a : ∀ l : List UInt8, z1qa l.reverse = z7bb l
 | [] => rfl
 | x :: l => by rw [List.reverse_cons, z2Ua, z46a l, z7bb]; omega
theorem z5xb (l : List UInt8) : z1qa l = z7bb l.reverse := by rw [← z46a, List.reverse_reverse]
theorem z7xb : ∀ l : List UInt8, z7bb l < 256 ^ l.length
 | [] => by simp [z7bb]
 | x :: l => by
  have := z7xb l
  have hx := x.toNat_lt
  rw [z7bb, List.length_cons, Nat.pow_succ]
  omega
theorem z20b (l : List UInt8) : z1qa l < 256 ^ l.length := by rw [z5xb]; have := z7xb l.reverse; rwa [List.length_reverse] at this
theorem z3Ra : ∀ l : List UInt8, (∀ c, l.getLast? = some c → c ≠ 0) → z1ma (z7bb l) = l
 | [], _ => by simp [z7bb, z8E]
 | [x], h => by
  have hx : x ≠ 0 := h x rfl
  have hx' : x.toNat ≠ 0 := fun e => hx (UInt8.toNat_inj.1 e)
  have := x.toNat_lt
  simp only [z7bb]
  rw [z5X (by omega), show (x.toNat + 256 * 0) / 256 = 0 by omega, z8E]
  congr 1
  apply UInt8.toNat_inj.1
  rw [UInt8.toNat_ofNat']; omega
 | x :: y :: l, h => by
  have ih := z3Ra (y :: l) (fun c hc => h c (by simpa [List.getLast?_cons_cons] using hc))
  have hne : z7bb (y :: l) ≠ 0 := fun e => by rw [e, z8E] at ih; cases ih
  have := x.toNat_lt
  rw [z7bb, z5X (by omega), show (x.toNat + 256 * z7bb (y :: l)) / 256 = z7bb (y :: l) by omega, ih]
  congr 1
  apply UInt8.toNat_inj.1
  rw [UInt8.toNat_ofNat']; omega
theorem z3nb {l : List UInt8} (h : l = [] ∨ at8 l 0 ≠ 0) : (z1ma (z1qa l)).reverse = l := by
 rw [z5xb, z3Ra, List.reverse_reverse]
 intro c hc
 rw [List.getLast?_reverse] at hc
 cases l with
 | nil => simp at hc
 | cons x l =>
  simp only [List.head?_cons, Option.some.injEq] at hc
  subst hc
  simpa using h
theorem z4Ca {b : List UInt8} {n : Int} {u : Nat} (h : z0m b = (n, u, 0)) : z6k n ∧ u ≤ b.length ∧ b.take u = z7v n ∧ u = (z7v n).length := by
 cases b with
 | nil => simp [z0m] at h
 | cons x t =>
  rw [z0m] at h
  split at h
  ·simp at h
  ·rename_i h8
   split at h
   ·simp at h
   ·rename_i hl
    split at h
    ·simp at h
    ·rename_i hz
     split at h
     ·simp at h
     ·rename_i hm
      simp only [Prod.mk.injEq, and_true] at h
      obtain ⟨hn, hu⟩ := h
      generalize hds : (t.take (kOf x)).map (fl x) = ds at hm hn
      have hdl : ds.length = kOf x := by rw [← hds]; simp; omega
      have hcan : ds = [] ∨ at8 ds 0 ≠ 0 := by
       cases hd : ds with
       | nil => exact .inl rfl
       | cons y l =>
        right
        have hp : 0 < kOf x := by rw [← hdl, hd]; simp
        intro e
        apply hz
        refine ⟨hp, ?_⟩
        rw [hd] at hds
        cases t with
        | nil => simp at hl; omega
        | cons z t =>
         obtain ⟨k, hk⟩ : ∃ k, kOf x = k + 1 := ⟨kOf x - 1, by omega⟩
         rw [hk, List.take_succ_cons, List.map_cons] at hds
         simp only [List.cons.injEq] at hds
         simp only [z3Fb] at e ⊢
         rw [hds.1, e]
      have hrev := z3nb hcan
      have hmag : mag n = z1qa ds := by
       subst hn
       unfold mag
       split <;> split <;> omega
      have hneg : n < 0 ↔ x < 128 := by
       subst hn
       split <;> rename_i hx <;> simp [hx] <;> omega
      have hI : z6k n := by
       subst hn
       unfold z6k
       split <;> omega
      have hk : kOf x ≤ 8 := by omega
      have henc : z7v n = x :: t.take (kOf x) := by
       unfold z7v
       rw [hmag, hrev]
       have e1 : (z1ma (z1qa ds)).length = kOf x := by rw [← List.length_reverse, hrev, hdl]
       rw [e1, List.cons.injEq]
       refine ⟨?_, ?_⟩
       ·apply UInt8.toNat_inj.1
        rw [z2Kb hk, z62a]
        have := x.toNat_lt
        rw [z62a] at hk
        have hx := z4fb x
        by_cases hh : x.toNat < 128
        ·rw [if_pos (hneg.2 (hx.2 hh)), if_pos hh]; omega
        ·rw [if_neg (fun e => hh (hx.1 (hneg.1 e))), if_neg hh]; omega
       ·rw [← hds, List.map_map, show (flp n ∘ fl x) = id from funext fun c => by
         simp only [Function.comp, flp, fl, id]
         by_cases hx : x < 128
         ·rw [if_pos (hneg.2 hx), if_pos hx]
          apply UInt8.toNat_inj.1
          rw [z6bb, z6bb]; have := c.toNat_lt; omega
         ·rw [if_neg (fun e => hx (hneg.1 e)), if_neg hx]]
        simp
      refine ⟨hI, ?_, ?_, ?_⟩
      ·rw [← hu, List.length_cons]; omega
      ·rw [henc, ← hu, List.take_succ_cons]
      ·rw [henc, ← hu, List.length_cons, List.length_take]; omega

theorem z1La (b : List UInt8) : (∃ n u, z0m b = (n, u, 0)) ∨ z0m b = (0, 0, 5) ∨ z0m b = (0, 0, 6) := by
 cases b with
 | nil => simp [z0m]
 | cons x t =>
  rw [z0m]
  split
  ·simp
  ·split
   ·simp
   ·split
    ·simp
    ·split
     ·simp
     ·exact .inl ⟨_, _, rfl⟩
end Go.Abs
end

section
namespace Go.Abs
def tri (v : z2a) (n e : Nat) : z2a := .tup [v, i64 n, i64 e]
@[simp] theorem z1ad (v : z2a) (n e : Nat) : dem (tri v n e) = tri v n e := rfl
@[simp] theorem z7Fc (v : z2a) (n e : Nat) : z5f (tri v n e) = z5f v := by simp [tri, z7h]
theorem z8p (v : z2a) (n e : Nat) : tri v n e = .tup [v, i64 n, i64 e] := rfl
def onB (f : List UInt8 → z2a) : z5a := ⟨fun ds => ∃ nl b, b.length ≤ 1000000000 ∧ ds = [.sl .plain nl b.length (bys b)], fun ds => f (gBs (gCs (nth ds 0)))⟩
theorem z6ka {f : List UInt8 → z2a} {nl : Option Bool} {n : Nat} {b : List UInt8} (h : b.length ≤ 1000000000) (hn : n = b.length) : (onB f).pre [.sl .plain nl n (bys b)] = True := by
 subst hn; exact eq_true ⟨nl, b, h, rfl⟩
@[simp] theorem z8Ma (f : List UInt8 → z2a) (m : z3la) (nl : Option Bool) (n : Nat) (b : List UInt8) : (onB f).post [.sl m nl n (bys b)] = f b := by simp [onB]
def vI (b : List UInt8) : z2a := tri (i64 (z0m b).1) (z0m b).2.1 (z0m b).2.2
def z1Q : z5a := onB vI

theorem z7da (h : UInt8) (t : List UInt8) : z0m (h :: t) = if 8 < kOf h then (0, 0, 6) else if t.length < kOf h then (0, 0, 5)
  else if 0 < kOf h ∧ fl h (at8 t 0) = 0 then (0, 0, 6)
  else if 2 ^ 63 ≤ z1qa ((t.take (kOf h)).map (fl h)) then (0, 0, 6)
  else (if h < 128 then -1 - (z1qa ((t.take (kOf h)).map (fl h)) : Int) else z1qa ((t.take (kOf h)).map (fl h)), kOf h + 1, 0) := rfl
theorem z1vc (c : UInt8) : c ^^^ 255 = 255 - c := by
 have h : ∀ n : Fin 256, UInt8.ofNat n.val ^^^ 255 = 255 - UInt8.ofNat n.val := by decide +kernel
 have := h ⟨c.toNat, c.toNat_lt⟩
 simpa using this
theorem xor0 (c : UInt8) : c ^^^ 0 = c := by simp
theorem z3ub (h c : UInt8) : c ^^^ (if h < 128 then 255 else 0) = fl h c := by
 unfold fl
 split
 ·exact z1vc c
 ·exact xor0 c
theorem z2Mc {m : UInt64} {N : Nat} (hm : m.toNat = N) (hN : N < 2 ^ 56) (c : UInt8) : (z7Bb m 8 ||| c.toUInt64).toNat = 256 * N + c.toNat := by
 subst hm
 have hc := c.toNat_lt
 rw [UInt64.toNat_or]
 show ((m.toBitVec <<< 8).toNat ||| c.toUInt64.toNat) = _
 rw [BitVec.toNat_shiftLeft, UInt8.toNat_toUInt64]
 show (m.toNat <<< 8 % 2 ^ 64 ||| c.toNat) = _
 rw [Nat.mod_eq_of_lt (by rw [Nat.shiftLeft_eq]; omega), ← Nat.shiftLeft_add_eq_or_of_lt (by omega), Nat.shiftLeft_eq]
 omega
theorem z4tb {l : List UInt8} {i : Nat} (h : i < l.length) : z1qa (l.take (i + 1)) = 256 * z1qa (l.take i) + (at8 l i).toNat := by
 rw [List.take_succ_eq_append_getElem h, z2Ua]
 simp [at8, List.getD, List.getElem?_eq_getElem h]
theorem z4ta (l : List UInt8) (i k : Nat) (h : i ≤ k) : z1qa (l.take i) < 256 ^ k :=
 Nat.lt_of_lt_of_le (z20b _) (Nat.pow_le_pow_right (by decide) (by rw [List.length_take]; omega))
theorem z2vc {h : UInt8} {t : List UInt8} (h1 : 8 < kOf h) : z0m (h :: t) = (0, 0, 6) := by rw [z7da, if_pos h1]
theorem z6Jc {h : UInt8} {t : List UInt8} (h1 : ¬ 8 < kOf h) (h2 : t.length < kOf h) : z0m (h :: t) = (0, 0, 5) := by rw [z7da, if_neg h1, if_pos h2]
theorem z5wc {h : UInt8} {t : List UInt8} (h1 : ¬ 8 < kOf h) (h2 : ¬ t.length < kOf h) (h3 : 0 < kOf h ∧ fl h (at8 t 0) = 0) : z0m (h :: t) = (0, 0, 6) := by rw [z7da, if_neg h1, if_neg h2, if_pos h3]
theorem z3Fc {h : UInt8} {t : List UInt8} (h1 : ¬ 8 < kOf h) (h2 : ¬ t.length < kOf h) (h4 : 2 ^ 63 ≤ z1qa ((t.take (kOf h)).map (fl h))) : z0m (h :: t) = (0, 0, 6) := by
 rw [z7da, if_neg h1, if_neg h2, if_pos h4, ite_self]
theorem z4Nc {h : UInt8} {t : List UInt8} (h1 : ¬ 8 < kOf h) (h2 : ¬ t.length < kOf h) (h3 : ¬ (0 < kOf h ∧ fl h (at8 t 0) = 0)) (h4 : ¬ 2 ^ 63 ≤ z1qa ((t.take (kOf h)).map (fl h))) :
  z0m (h :: t) = (if h < 128 then -1 - (z1qa ((t.take (kOf h)).map (fl h)) : Int) else z1qa ((t.take (kOf h)).map (fl h)), kOf h + 1, 0) := by rw [z7da, if_neg h1, if_neg h2, if_neg h3, if_neg h4]

def z8wc : z5a := ⟨fun ds => ∃ nl nl' a b, a.length ≤ 1000000000 ∧ ds = [.sl .plain nl a.length (bys a), .sl .plain nl' b.length (bys b)], fun ds => bo (gBs (gCs (nth ds 0)) == gBs (gCs (nth ds 1)))⟩
@[simp] theorem z5Pc (m m' : z3la) (nl nl' : Option Bool) (n k : Nat) (a b : List UInt8) : z8wc.post [.sl m nl n (bys a), .sl m' nl' k (bys b)] = bo (a == b) := by simp [z8wc]
def z54a (b : List UInt8) (s : Nat) : Nat := if (z0m b).2.2 ≠ 0 then (z0m b).2.2 else if (z0m b).1 < 0 then 6 else if (b.length - (z0m b).2.1) / s < (z0m b).1.toNat then 5 else 0
def onC (f : List UInt8 → Nat → z2a) : z5a := ⟨fun ds => ∃ nl b, ∃ s : Nat, b.length ≤ 1000000000 ∧ 0 < s ∧ s ≤ 1000 ∧ ds = [.sl .plain nl b.length (bys b), i64 s], fun ds => f (gBs (gCs (nth ds 0))) (asI (nth ds 1)).toNat⟩
theorem z8qa {f : List UInt8 → Nat → z2a} {nl : Option Bool} {n : Nat} {b : List UInt8} {s : Int} (h : b.length ≤ 1000000000) (hn : n = b.length) (h0 : 0 < s) (h1 : s ≤ 1000) : (onC f).pre [.sl .plain nl n (bys b), i64 s] = True := by
 subst hn; exact eq_true ⟨nl, b, s.toNat, h, by omega, by omega, by rw [show ((s.toNat : Nat) : Int) = s by omega]⟩
@[simp] theorem z2Jb (f : List UInt8 → Nat → z2a) (m : z3la) (nl : Option Bool) (n : Nat) (b : List UInt8) (s : Int) : (onC f).post [.sl m nl n (bys b), i64 s] = f b s.toNat := by simp [onC]
def z9db : z5a := onC fun b s => tri (i64 (z0m b).1) (z0m b).2.1 (z54a b s)
theorem z7na (b : List UInt8) (s : Nat) (hs : 0 < s) : (z54a b s = 5 ∨ z54a b s = 6) ∨ (z54a b s = 0 ∧ ∃ n u : Nat, z0m b = ((n : Int), u, 0) ∧ u ≤ b.length ∧ n * s ≤ b.length - u ∧ u ≤ 9) := by
 unfold z54a
 rcases z1La b with ⟨n, u, h⟩ | h | h <;> rw [h] <;> simp only [ne_eq, not_true_eq_false, if_false, reduceCtorEq, not_false_eq_true, if_true]
 ·by_cases hn : n < 0
  ·simp [hn]
  ·rw [if_neg hn]
   split
   ·simp
   ·rename_i hd
    obtain ⟨h1, h2, h3, h4⟩ := z4Ca h
    have := z8l h1
    refine .inr ⟨rfl, n.toNat, u, by rw [show ((n.toNat : Nat) : Int) = n by omega], h2, ?_, by omega⟩
    have := (Nat.le_div_iff_mul_le hs).1 (Nat.not_lt.1 hd)
    exact this
 all_goals simp
def z0ma (b : List UInt8) : List UInt8 × Nat × Nat := if z54a b 1 = 0 then ((b.drop (z0m b).2.1).take (z0m b).1.toNat, (z0m b).2.1 + (z0m b).1.toNat, 0) else ([], 0, z54a b 1)
def z6Z : z5a := onB fun b => tri (st (z0ma b).1) (z0ma b).2.1 (z0ma b).2.2
def z3ia {α : Type} (f : List UInt8 → α × Nat × Nat) : Nat → List UInt8 → Nat → List α × Nat × Nat
 | 0, _, at' => ([], at', 0)
 | n + 1, b, at' => if (f (b.drop at')).2.2 ≠ 0 then ([], 0, (f (b.drop at')).2.2)
  else if (z3ia f n b (at' + (f (b.drop at')).2.1)).2.2 ≠ 0 then ([], 0, (z3ia f n b (at' + (f (b.drop at')).2.1)).2.2)
  else ((f (b.drop at')).1 :: (z3ia f n b (at' + (f (b.drop at')).2.1)).1, (z3ia f n b (at' + (f (b.drop at')).2.1)).2.1, 0)
def z8z {α : Type} (f : List UInt8 → α × Nat × Nat) (s : Nat) (b : List UInt8) : List α × Nat × Nat := if z54a b s = 0 then z3ia f (z0m b).1.toNat b (z0m b).2.1 else ([], 0, z54a b s)

/-! ### Lists of whole numbers as cells -/
def z6j (l : List Int) : List z2a := l.map i64
def atI (l : List Int) (i : Nat) : Int := l.getD i 0
def gIs (l : List z2a) : List Int := l.map asI
@[simp] theorem z5gc (l : List Int) : (z6j l).length = l.length := by simp [z6j]
@[simp] theorem z1Wc : z6j [] = [] := rfl
theorem z0yb (x : Int) (l : List Int) : z6j (x :: l) = i64 x :: z6j l := rfl
theorem z8lb (l : List Int) (x : Int) : z6j l ++ [i64 x] = z6j (l ++ [x]) := by simp [z6j]
@[simp] theorem z8tc (l : List Int) (n : Nat) : (z6j l).take n = z6j (l.take n) := by simp [z6j]
@[simp] theorem z0zc (l : List Int) (n : Nat) : (z6j l).drop n = z6j (l.drop n) := by simp [z6j]
@[simp] theorem z66a (l : List Int) : gIs (z6j l) = l := by simp [gIs, z6j, Function.comp_def]
theorem z1ga {l : List Int} {n : Nat} (h : n < l.length) : hdA (z6j (l.drop n)) = i64 (atI l n) := by
 rw [List.drop_eq_getElem_cons h, z0yb]
 simp [atI, List.getD, List.getElem?_eq_getElem h]
theorem z3ma {P : z2a → Prop} {l : List Int} (h : ∀ x, P (i64 x)) : ∀ c ∈ z6j l, P c := fun c hc => by
 simp only [z6j, List.mem_map] at hc
 obtain ⟨x, _, rfl⟩ := hc
 exact h x
@[simp] theorem z4Mc (l : List Int) : (∀ c ∈ z6j l, z5f c = true) ↔ True := iff_true_intro (z3ma (by simp))
@[simp] theorem z1sc (l : List Int) : z7h (z6j l) = true := z9oa (z3ma (by simp))
@[simp] theorem z8yc (l : List Int) : (∀ c ∈ z6j l, z5d c) ↔ True := iff_true_intro (z3ma (by simp))
@[simp] theorem z4Zc (l : List Int) : (∀ c ∈ z6j l, z2f c = false) ↔ True := iff_true_intro (z3ma (by simp))
@[simp] theorem z6yb (l : List Int) : (∀ c ∈ z6j l, z5f c = true ∧ z5d c) ↔ True := iff_true_intro (z3ma (by simp))
@[simp] theorem z2qc (l : List Int) : z2i (z6j l) = [] := by induction l <;> simp_all [z6j]

def z3ra : CM := ⟨[], [2, 3], fun ds => ∃ nl b, ∃ i : Nat, b.length ≤ 1000000000 ∧ i ≤ b.length ∧ ds = [.sl .plain nl b.length (bys b), i64 i], fun _ => .fn 61 [] [.bp 2 0, .bp 3 0], fun ds j => if j = 2 then [nth ds 0] else [nth ds 1]⟩
def z7ac (ds : List z2a) : List UInt8 := gBs (gCs (hdA (gCs (nth ds 0))))
def z0Gb (ds : List z2a) : Nat := (asI (hdA (gCs (nth ds 1)))).toNat
def z7la : CM := ⟨[0, 1], [], fun ds => ∃ nl b, ∃ i : Nat, b.length ≤ 1000000000 ∧ i ≤ b.length ∧ ds = [.ep [.sl .plain nl b.length (bys b)], .ep [i64 i]],
 fun ds => tri (i64 (z0m ((z7ac ds).drop (z0Gb ds))).1) (z0Gb ds + (z0m ((z7ac ds).drop (z0Gb ds))).2.1) (z0m ((z7ac ds).drop (z0Gb ds))).2.2,
 fun ds j => if j = 0 then [hdA (gCs (nth ds 0))] else [i64 ((z0Gb ds + (z0m ((z7ac ds).drop (z0Gb ds))).2.1 : Nat) : Int)]⟩
theorem z2na (b : List UInt8) : (z0m b).2.1 ≤ b.length ∧ (z0m b).2.1 ≤ 9 ∧ z6k (z0m b).1 := by
 rcases z1La b with ⟨n, u, h⟩ | h | h
 ·obtain ⟨h1, h2, h3, h4⟩ := z4Ca h
  rw [h]
  exact ⟨h2, by have := z8l h1; simp only; omega, h1⟩
 all_goals rw [h]; exact ⟨by simp, by simp, by unfold z6k; decide⟩
@[simp] theorem z0hd : z3ra.bx = [] := rfl
@[simp] theorem z2fd : z3ra.nb = [2, 3] := rfl
theorem z1Bb {nl : Option Bool} {n : Nat} {b : List UInt8} {i : Int} (h : b.length ≤ 1000000000) (hn : n = b.length) (h0 : 0 ≤ i) (h1 : i ≤ b.length) : z3ra.pre [.sl .plain nl n (bys b), i64 i] = True := by
 subst hn; exact eq_true ⟨nl, b, i.toNat, h, by omega, by rw [show ((i.toNat : Nat) : Int) = i by omega]⟩
@[simp] theorem z1Fc (ds : List z2a) : z3ra.post ds = .fn 61 [] [.bp 2 0, .bp 3 0] := rfl
@[simp] theorem z6Dc (x y : z2a) : z3ra.out [x, y] 2 = [x] := rfl
@[simp] theorem z2Dc (x y : z2a) : z3ra.out [x, y] 3 = [y] := rfl
@[simp] theorem z8bd : z7la.bx = [0, 1] := rfl
@[simp] theorem z58c : z7la.nb = [] := rfl
theorem z4Db {nl : Option Bool} {n : Nat} {b : List UInt8} {i : Int} (h : b.length ≤ 1000000000) (hn : n = b.length) (h0 : 0 ≤ i) (h1 : i ≤ b.length) : z7la.pre [.ep [.sl .plain nl n (bys b)], .ep [i64 i]] = True := by
 subst hn; exact eq_true ⟨nl, b, i.toNat, h, by omega, by rw [show ((i.toNat : Nat) : Int) = i by omega]⟩
@[simp] theorem z8Bc (m : z3la) (nl : Option Bool) (n : Nat) (b : List UInt8) (i : Int) : z7la.post [.ep [.sl m nl n (bys b)], .ep [i64 i]] = tri (i64 (z0m (b.drop i.toNat)).1) (i.toNat + (z0m (b.drop i.toNat)).2.1) (z0m (b.drop i.toNat)).2.2 := by simp [z7la, z7ac, z0Gb]
@[simp] theorem z0Ac (x : z2a) (y : z2a) : z7la.out [.ep [x], y] 0 = [x] := rfl
@[simp] theorem z7tc (m : z3la) (nl : Option Bool) (n : Nat) (b : List UInt8) (i : Int) : z7la.out [.ep [.sl m nl n (bys b)], .ep [i64 i]] 1 = [i64 ((i.toNat + (z0m (b.drop i.toNat)).2.1 : Nat) : Int)] := by simp [z7la, z7ac, z0Gb]

/-! ### So many elements, one after the other -/
def pre {α : Type} (out : List α) (r : List α × Nat × Nat) : List α × Nat × Nat := if r.2.2 ≠ 0 then ([], 0, r.2.2) else (out ++ r.1, r.2.1, 0)
theorem z6Fb {α : Type} (f : List UInt8 → α × Nat × Nat) : ∀ (n : Nat) (b : List UInt8) (i : Nat), (z3ia f n b i).2.2 = 0 ∨ z3ia f n b i = ([], 0, (z3ia f n b i).2.2)
 | 0, b, i => .inl rfl
 | n + 1, b, i => by
  rw [z3ia]
  split
  ·exact .inr rfl
  ·split
   ·exact .inr rfl
   ·exact .inl rfl
theorem z91b {α : Type} (f : List UInt8 → α × Nat × Nat) (n : Nat) (b : List UInt8) (i : Nat) : pre [] (z3ia f n b i) = z3ia f n b i := by
 unfold pre
 rcases z6Fb f n b i with h | h
 ·rw [if_neg (by simpa using h), List.nil_append]; exact Prod.ext rfl (Prod.ext rfl h.symm)
 ·by_cases h0 : (z3ia f n b i).2.2 = 0
  ·rw [if_neg (by simpa using h0), List.nil_append]; exact Prod.ext rfl (Prod.ext rfl h0.symm)
  ·rw [if_pos h0]; exact h.symm
theorem z5Ab {α : Type} {f : List UInt8 → α × Nat × Nat} {n : Nat} {b : List UInt8} {i : Nat} {out : List α} (h : (f (b.drop i)).2.2 = 0) : pre out (z3ia f (n + 1) b i) = pre (out ++ [(f (b.drop i)).1]) (z3ia f n b (i + (f (b.drop i)).2.1)) := by
 rw [z3ia, if_neg (by simpa using h)]
 generalize z3ia f n b (i + (f (b.drop i)).2.1) = r
 obtain ⟨r1, r2, r3⟩ := r
 unfold pre
 cases r3 with
 | zero => simp
 | succ k => simp
theorem z3Ab {α : Type} {f : List UInt8 → α × Nat × Nat} {n : Nat} {b : List UInt8} {i : Nat} {out : List α} (h : (f (b.drop i)).2.2 ≠ 0) : pre out (z3ia f (n + 1) b i) = ([], 0, (f (b.drop i)).2.2) := by
 rw [z3ia, if_pos h]
 unfold pre
 rw [if_pos h]
theorem z07b {α : Type} (f : List UInt8 → α × Nat × Nat) (b : List UInt8) (i : Nat) (out : List α) : pre out (z3ia f 0 b i) = (out, i, 0) := by simp [pre, z3ia]
def vIs (r : List Int × Nat × Nat) : z2a := tri (.sl .plain none r.1.length (z6j r.1)) r.2.1 r.2.2
def z9aa : z5a := onB fun b => vIs (z8z z0m 1 b)
theorem z0mb (b : List UInt8) : (z0ma b).2.1 ≤ b.length ∧ (z0ma b).1.length ≤ b.length := by
 unfold z0ma
 rcases z7na b 1 (by decide) with (hE | hE) | ⟨hE, n, u, hg, hu, hn, hu9⟩
 ·rw [hE]; simp
 ·rw [hE]; simp
 ·rw [if_pos hE, hg]; simp; omega
@[simp] theorem z1Vb (l : List (List UInt8)) : z4c (sts l) = true := by induction l <;> simp_all [sts, z4c, z6f, st]
def z2Fc (b : List UInt8) : List UInt8 × Nat × Nat := if z54a b 16 = 0 then ((b.drop (z0m b).2.1).take ((z0m b).1.toNat * 16), (z0m b).2.1 + (z0m b).1.toNat * 16, 0) else ([], 0, z54a b 16)
end Go.Abs
end

section
namespace Go.Abs
def z9q (l : List Int) : List UInt8 := z7v l.length ++ l.flatMap z7v
def z7Gc (l : List (List UInt8)) : List UInt8 := z7v l.length ++ l.flatMap z90
def z7Ic (n : Nat) (d : List UInt8) : List UInt8 := z7v n ++ d
theorem z0Ya {n : Nat} (h : n ≤ 9223372036854775807) : z6k (n : Int) := ⟨by omega, by omega⟩
theorem z8f : ∀ {l : List Int}, (∀ x ∈ l, z6k x) → (l.flatMap z7v).length ≤ 9 * l.length
 | [], _ => by simp
 | x :: l, h => by
  have h1 := z8l (h x (by simp))
  have h2 := z8f (l := l) fun y hy => h y (by simp [hy])
  simp only [List.flatMap_cons, List.length_append, List.length_cons]
  omega
theorem z7qa {l : List Int} {i : Nat} (h : i < l.length) : atI l i ∈ l := by simp [atI, List.getD, List.getElem?_eq_getElem h]
def z32c (nf : Option Bool) (l : List UInt8) : z2a := .sl (.own 1) nf l.length (bys l)
def z5yc (f : List Int → z2a) : z5a := ⟨fun ds => ∃ nl l, l.length ≤ 100000000 ∧ (∀ x ∈ l, z6k x) ∧ ds = [.sl .plain nl l.length (z6j l)], fun ds => f (gIs (gCs (nth ds 0)))⟩
theorem z2Ja {f : List Int → z2a} {nl : Option Bool} {n : Nat} {l : List Int} (h : l.length ≤ 100000000) (hl : ∀ x ∈ l, z6k x) (hn : n = l.length) : (z5yc f).pre [.sl .plain nl n (z6j l)] = True := by
 subst hn; exact eq_true ⟨nl, l, h, hl, rfl⟩
@[simp] theorem z9ea (f : List Int → z2a) (m : z3la) (nl : Option Bool) (n : Nat) (l : List Int) : (z5yc f).post [.sl m nl n (z6j l)] = f l := by simp [z5yc]
def onSs (f : List (List UInt8) → z2a) : z5a := ⟨fun ds => ∃ nl l, z2ma l ≤ 1000000000 ∧ ds = [.sl .plain nl l.length (sts l)], fun ds => f (gSs (gCs (nth ds 0)))⟩
@[simp] theorem z3uc (f : List (List UInt8) → z2a) (m : z3la) (nl : Option Bool) (n : Nat) (l : List (List UInt8)) : (onSs f).post [.sl m nl n (sts l)] = f l := by simp [onSs]
def onDs (f : Nat → List UInt8 → z2a) : z5a := ⟨fun ds => ∃ nl n d, n ≤ 10000000 ∧ d.length = n * 16 ∧ ds = [.sl .plain nl n (bys d)], fun ds => f (z5w (nth ds 0)) (gBs (gCs (nth ds 0)))⟩
@[simp] theorem z6xc (f : Nat → List UInt8 → z2a) (m : z3la) (nl : Option Bool) (n : Nat) (d : List UInt8) : (onDs f).post [.sl m nl n (bys d)] = f n d := by simp [onDs]
def z0N : z5a := z5yc fun l => z32c (some false) (z9q l)
def z7pa : z5a := z5yc fun l => z32c none (z9q l)
def z1K : z5a := ⟨fun ds => ∃ nl nl' a b, a.length ≤ 1000000000 ∧ ds = [.sl .plain nl a.length (z6j a), .sl .plain nl' b.length (z6j b)], fun ds => bo (gIs (gCs (nth ds 0)) == gIs (gCs (nth ds 1)))⟩
theorem z1za {nl nl' : Option Bool} {n m : Nat} {a b : List Int} (h : a.length ≤ 1000000000) (hn : n = a.length) (hm : m = b.length) : z1K.pre [.sl .plain nl n (z6j a), .sl .plain nl' m (z6j b)] = True := by
 subst hn; subst hm; exact eq_true ⟨nl, nl', a, b, h, rfl⟩
@[simp] theorem z1mc (m m' : z3la) (nl nl' : Option Bool) (n k : Nat) (a b : List Int) : z1K.post [.sl m nl n (z6j a), .sl m' nl' k (z6j b)] = bo (a == b) := by simp [z1K]
def z1Rb : z5a := ⟨fun ds => ∃ nl nl' a b, a.length ≤ 1000000000 ∧ ds = [.sl .plain nl a.length (sts a), .sl .plain nl' b.length (sts b)], fun ds => bo (gSs (gCs (nth ds 0)) == gSs (gCs (nth ds 1)))⟩
@[simp] theorem z9nc (m m' : z3la) (nl nl' : Option Bool) (n k : Nat) (a b : List (List UInt8)) : z1Rb.post [.sl m nl n (sts a), .sl m' nl' k (sts b)] = bo (a == b) := by simp [z1Rb]
def z2Wb : z5a := ⟨fun ds => ∃ nl nl' n m a b, n ≤ 10000000 ∧ a.length = n * 16 ∧ b.length = m * 16 ∧ ds = [.sl .plain nl n (bys a), .sl .plain nl' m (bys b)], fun ds => bo (gBs (gCs (nth ds 0)) == gBs (gCs (nth ds 1)))⟩
@[simp] theorem z9mc (m m' : z3la) (nl nl' : Option Bool) (n k : Nat) (a b : List UInt8) : z2Wb.post [.sl m nl n (bys a), .sl m' nl' k (bys b)] = bo (a == b) := by simp [z2Wb]
end Go.Abs
end

section
namespace Go.Abs
set_option maxRecDepth 100000
end Go.Abs
end

section
namespace Go.Abs

/-! ### strings.Builder -/
@[simp] theorem z3ad (id : Nat) (c x : z2a) (xs : List z2a) : z8ca 0 id c x xs = { val := i64 (z5w c) } := rfl
@[simp] theorem z1gd (id : Nat) (c x : z2a) (xs : List z2a) : z8ca 1 id c x xs = { val := .tup [i64 (z5w x), .lit .nilIface], bx := [(id, some [.undef, .sl (.own 1) none (z5w c + z5w x) (z3i [] c ++ xs)])] } := rfl
@[simp] theorem z3hd (id : Nat) (c x : z2a) (xs : List z2a) : z8ca 2 id c x xs = { val := .tup [i64 (z5w x), .lit .nilIface], bx := [(id, some [.undef, .sl (.own 1) none (z5w c + z5w x) (z3i [] c ++ xs)])] } := rfl
@[simp] theorem z1cd (id : Nat) (nl : Option Bool) (n : Nat) (l : List UInt8) (x : z2a) (xs : List z2a) : z8ca 3 id (.sl (.own 1) nl n (bys l)) x xs = { val := st l, bx := [(id, some [])] } := by
 show ({ val := .lit (.string (z54 (z9s l))), bx := _ } : Eff) = _
 rw [z1ka]
 rfl
theorem kT {E : Env} {c : Arg} {a b : z4a} {Q : z9p → ASt → Prop} {s : ASt} (h : arg E s.get c = bo true) : awp E (.cond c a b) Q s = awp E a Q s := by
 rw [z3b, h]; simp
theorem kF {E : Env} {c : Arg} {a b : z4a} {Q : z9p → ASt → Prop} {s : ASt} (h : arg E s.get c = bo false) : awp E (.cond c a b) Q s = awp E b Q s := by
 rw [z3b, h]; simp

/-! ### Iterators -/
theorem z8fb {f : Nat × Bool → ASt → Prop} {Q : IQ} {p : Nat × Bool} : (fun e st' => z7db f Q e p st') = z1va (fun st' => f p st') (fun e st' => Q e p st') := by
 funext e st'
 cases e <;> rfl
@[simp] theorem z0Qc (E : Env) (l : Nat) (el : Nat → Option (List z2a)) (c : z4a) (Q : IQ) (p : Nat × Bool) (s : ASt) : z4Ya E l el (.plain c) Q p s = awp E c (fun e st' => Q e p st') s := rfl
@[simp] theorem z50c (E : Env) (l : Nat) (el : Nat → Option (List z2a)) (c : z4a) (b : z5Pa) (Q : IQ) (p : Nat × Bool) (s : ASt) : z4Ya E l el (.seq (.plain c) b) Q p s = awp E c (z1va (fun st' => z4Ya E l el b Q p st') (fun e st' => Q e p st')) s := by
 simp only [z4Ya, z8fb]
@[simp] theorem z3Jc (E : Env) (l : Nat) (el : Nat → Option (List z2a)) (i : Nat) (b : z5Pa) (Q : IQ) (p : Nat × Bool) (s : ASt) : z4Ya E l el (.block i b) Q p s = z4Ya E l el b (z1Ya i Q) p s := rfl
@[simp] theorem z6Xb (f : Nat × Bool → ASt → Prop) (Q : IQ) (p : Nat × Bool) (s : ASt) : z7db f Q .normal p s = f p s := rfl
@[simp] theorem z4nc (f : Nat × Bool → ASt → Prop) (Q : IQ) (i : Nat) (p : Nat × Bool) (s : ASt) : z7db f Q (.exit i) p s = Q (.exit i) p s := rfl
@[simp] theorem z3Eb (i : Nat) (Q : IQ) (p : Nat × Bool) (s : ASt) : z1Ya i Q .normal p s = Q .normal p s := rfl
@[simp] theorem z4ac (i : Nat) (Q : IQ) (p : Nat × Bool) (s : ASt) : z1Ya i Q (.exit i) p s = Q .normal p s := by simp [z1Ya]
def z0qc (E : Env) (f : ASt → Prop) : List z1c → ASt → Prop
 | [], st => f st
 | o :: os, st => okA E o st ∧ z0qc E f os (z1h E o st)
attribute [simp] z0qc
theorem z8mb (E : Env) (f : ASt → Prop) : ∀ (xs : List z1c) (st : ASt), z0qc E f xs st = (z45 E xs st ∧ f (z7ta E xs st))
 | [], st => by simp only [z0qc, z45, z7ta, true_and]
 | o :: os, st => by simp only [z0qc, z45, z7ta, z8mb E f os]; exact propext and_assoc.symm
@[simp] theorem z4Jc (E : Env) (l : Nat) (el : Nat → Option (List z2a)) (keep : List Nat) (gs : List z2P) (xs : List z1c) (d : Option Nat) (y : Nat) (as : List Arg) (zs : List z1c) (Q : IQ) (p : Nat × Bool) (s : ASt) :
  z4Ya E l el (.yield keep gs xs d y as zs) Q p s = ((∀ s' ∈ d.toList, lk s.org s' = none) ∧ z0qc E (fun st0 => p.2 = false ∧ el p.1 = some (as.map (arg E (z9dc st0).get)) ∧ z4c (as.map (arg E (z9dc st0).get)) = true ∧ (z9dc st0).get y = .lit (.func (.yield l) #[] #[]) ∧ (∀ q ∈ (z9dc st0).box, ∀ cs, q.2 = some cs → cs.all yOk = true ∧ q.1 < 1000000) ∧
   ∀ b : Bool, z6Ya E keep gs (fun e s => Q e (if b then (p.1 + 1, false) else (p.1, true)) s) zs (z6jc d b (z9dc st0))) xs s) := by
 simp only [z8mb, z0Ja, z4Ya]
 apply propext
 constructor
 ·rintro ⟨h1, h2, h3, h4, h5, h6, h8, h9⟩
  exact ⟨h2, h1, h3, h4, h5, h6, h8, h9⟩
 ·rintro ⟨h2, h1, h3, h4, h5, h6, h8, h9⟩
  exact ⟨h1, h2, h3, h4, h5, h6, h8, h9⟩
@[simp] theorem z7zc (d : Nat) (b : Bool) (o e : List (Nat × z2a)) (bx : List (Nat × Option (List z2a))) : z6jc (some d) b ⟨o, e, bx⟩ = ⟨o, (d, bo b) :: e, bx⟩ := rfl
@[simp] theorem z1xc (b : Bool) (o e : List (Nat × z2a)) (bx : List (Nat × Option (List z2a))) : z6jc none b ⟨o, e, bx⟩ = ⟨o, e, bx⟩ := rfl
@[simp] theorem z83c (o e : List (Nat × z2a)) (b : List (Nat × Option (List z2a))) : z9dc ⟨o, e, b⟩ = ⟨o, e.map fun q => (q.1, if yOk q.2 then q.2 else .undef), b⟩ := rfl
@[simp] theorem yOk_ep (cs : List z2a) : yOk (.ep cs) = false := rfl
@[simp] theorem yOk_sl (m : z3la) (nl : Option Bool) (n : Nat) (cs : List z2a) : yOk (.sl m nl n cs) = z6f (.sl m nl n cs) := rfl
@[simp] theorem z8Fc : yOk .undef = true := rfl
@[simp] theorem yOk_bp (i o : Nat) : yOk (.bp i o) = true := rfl
@[simp] theorem z2ed (v : Value) : yOk (.lit v) = true := rfl
@[simp] theorem yOk_st (l : List UInt8) : yOk (st l) = true := rfl
@[simp] theorem yOk_bo (b : Bool) : yOk (bo b) = true := rfl
@[simp] theorem z2hd (n : Int) : yOk (i64 n) = true := rfl
@[simp] theorem z7fd (cs : List z2a) : yOk (.agg cs) = z4c cs := rfl
@[simp] theorem z3ed (cs : List z2a) : yOk (.tup cs) = z4c cs := rfl
@[simp] theorem z3Qc (E : Env) (l : Nat) (el : Nat → Option (List z2a)) (keep : List Nat) (gs : List z2P) (xs : List z1c) (d : Option Nat) (y : Nat) (as : List Arg) (zs : List z1c) (b : z5Pa) (Q : IQ) (p : Nat × Bool) (s : ASt) :
  z4Ya E l el (.seq (.yield keep gs xs d y as zs) b) Q p s = z4Ya E l el (.yield keep gs xs d y as zs) (z7db (fun p st => z4Ya E l el b Q p st) Q) p s := rfl
def inp (label : List UInt8) (parts : List (List UInt8)) : List UInt8 := z90 label ++ parts.flatMap z90
def drv (key label : List UInt8) (parts : List (List UInt8)) : List UInt8 := mac key (inp label parts)
theorem z39b (k l : List UInt8) (p : List (List UInt8)) : (drv k l p).length = 32 := z0Ma _
attribute [simp] z39b
def pth (key : List UInt8) (ls : List (List UInt8)) : List UInt8 := ls.foldl (fun k l => drv k l []) key
def z17b : List UInt8 := [115, 101, 101, 100]
def z85c : List UInt8 := [118, 97, 108, 117, 101]
def sdN (s : List UInt8) : Nat → List UInt8
 | 0 => s
 | i + 1 => drv (sdN s i) z17b []
def vlN (s : List UInt8) (i : Nat) : List UInt8 := drv (sdN s i) z85c []
def stN (s : List UInt8) : Nat → List UInt8
 | 0 => []
 | i + 1 => stN s i ++ vlN s i
def blkN (n : Int) : Nat := (n.toNat + 31) / 32
def bysN (s : List UInt8) (n : Int) : List UInt8 := if n ≤ 0 ∨ 8000 < n then [] else (stN s (blkN n)).take n.toNat
def aftN (s : List UInt8) (n : Int) : List UInt8 := if n ≤ 0 ∨ 8000 < n then s else sdN s (blkN n)

def z7gd : z5a := ⟨fun ds => ∃ (key label : List UInt8) (nl : Option Bool) (parts : List (List UInt8)), key.length < 1000000000 ∧ label.length < 1000000000 ∧ z2ma parts < 1000000000 ∧ ds = [st key, st label, .sl .plain nl parts.length (sts parts)], fun ds => st (drv (gS (nth ds 0)) (gS (nth ds 1)) (gSs (gCs (nth ds 2))))⟩
def inpC : z5a := ⟨fun ds => ∃ (label : List UInt8) (nl : Option Bool) (parts : List (List UInt8)), label.length < 1000000000 ∧ z2ma parts < 1000000000 ∧ ds = [st label, .sl .plain nl parts.length (sts parts)], fun ds => st (inp (gS (nth ds 0)) (gSs (gCs (nth ds 1))))⟩
def pthC : z5a := ⟨fun ds => ∃ (key : List UInt8) (nl : Option Bool) (ls : List (List UInt8)), key.length < 1000000000 ∧ z2ma ls < 1000000000 ∧ ds = [st key, .sl .plain nl ls.length (sts ls)], fun ds => st (pth (gS (nth ds 0)) (gSs (gCs (nth ds 1))))⟩
def gR (d : z2a) : List UInt8 := gS (nth (gCs d) 0)
def nxtC : z5a := ⟨fun ds => ∃ s : List UInt8, s.length < 1000000000 ∧ ds = [.agg [st s]], fun ds => .tup [st (drv (gR (nth ds 0)) z85c []), .agg [st (drv (gR (nth ds 0)) z17b [])]]⟩
def z5Ec : z5a := ⟨fun ds => ∃ (s : List UInt8) (n : Int), s.length < 1000000000 ∧ z6k n ∧ ds = [.agg [st s], i64 n], fun ds => .tup [st (bysN (gR (nth ds 0)) (asI (nth ds 1))), .agg [st (aftN (gR (nth ds 0)) (asI (nth ds 1)))]]⟩
def z5bd : ItC := ⟨fun x y => ∃ s : List UInt8, s.length < 1000000000 ∧ x = [.agg [st s]] ∧ y = [], fun x _ i => some [st (vlN (gR (nth x 0)) i), .agg [st (sdN (gR (nth x 0)) (i + 1))]], []⟩
@[simp] theorem z20c : z5bd.lv = [] := rfl
@[simp] theorem z9Uc (l : Nat) (x y : List z2a) : itSt l [] x y = z8c [] (x ++ .lit (.func (.yield l) #[] #[]) :: y) := by simp [itSt, z8c, lvS]

@[simp] theorem z2Ob (k l : List UInt8) (nl : Option Bool) (n : Nat) (p : List (List UInt8)) : z7gd.post [st k, st l, .sl .plain nl n (sts p)] = st (drv k l p) := by simp [z7gd]
@[simp] theorem z4vc (k l : List UInt8) (nl : Option Bool) (n : Nat) : z7gd.post [st k, st l, .sl .plain nl n []] = st (drv k l []) := by
 have := z2Ob k l nl n []
 simpa using this
@[simp] theorem z3Xc (l : List UInt8) (nl : Option Bool) (n : Nat) (p : List (List UInt8)) : inpC.post [st l, .sl .plain nl n (sts p)] = st (inp l p) := by simp [inpC]
@[simp] theorem z8Vc (k : List UInt8) (nl : Option Bool) (n : Nat) (p : List (List UInt8)) : pthC.post [st k, .sl .plain nl n (sts p)] = st (pth k p) := by simp [pthC]
@[simp] theorem z7Rc (s : List UInt8) : nxtC.post [.agg [st s]] = .tup [st (drv s z85c []), .agg [st (drv s z17b [])]] := by simp [nxtC, gR]
@[simp] theorem z2yc (s : List UInt8) (n : Int) : z5Ec.post [.agg [st s], i64 n] = .tup [st (bysN s n), .agg [st (aftN s n)]] := by simp [z5Ec, gR]
end Go.Abs
end

section
namespace Go.Abs
def msgD (d : List UInt8) : List Nat := d.flatMap fun b => [b.toNat / 16, b.toNat % 16]
def sumD (d : List UInt8) : Nat := (d.map fun b => (15 - b.toNat / 16) + (15 - b.toNat % 16)).sum
def chkD (s : Nat) : List Nat := [s / 256, s / 16 % 16, s % 16]
def dgt (d : List UInt8) : List Nat := msgD d ++ chkD (sumD d)
def z47c (kb : List UInt8) (f : Nat) : Nat → List UInt8 → List UInt8
 | 0, v => v
 | n + 1, v => z7L 4 [kb, z7v ((f + n : Nat) : Int), z47c kb f n v]
theorem z4Ib {v : List UInt8} (h : v.length = 16) (kb : List UInt8) (f : Nat) : ∀ n, (z47c kb f n v).length = 16
 | 0 => h
 | _ + 1 => z3E _ _
def z16b (c f t : Int) : Prop := 0 ≤ c ∧ c ≤ 34 ∧ 0 ≤ f ∧ f ≤ 15 ∧ 0 ≤ t ∧ t ≤ 15
instance (c f t : Int) : Decidable (z16b c f t) := by unfold z16b; exact inferInstance
def adv (c f t : Int) (v : List UInt8) : List UInt8 := if z16b c f t then z47c (z7v c) f.toNat (t.toNat - f.toNat) v else z9c 16
theorem z3kb {v : List UInt8} (h : v.length = 16) (c f t : Int) : (adv c f t v).length = 16 := by
 unfold adv
 split
 ·exact z4Ib h _ _ _
 ·rfl
def z4yc : List UInt8 := [99, 104, 97, 105, 110]
def z3Rc (seed : List UInt8) (k : Nat) : List UInt8 := (drv seed z4yc [z7v (k : Int)]).take 16
theorem z5Ka (s : List UInt8) (k : Nat) : (z3Rc s k).length = 16 := by simp [z3Rc]

/-! ### One value of each chain -/
def z2nc (f : Nat → List UInt8) : Nat → List UInt8
 | 0 => []
 | n + 1 => z2nc f n ++ f n
theorem z7Ja {f : Nat → List UInt8} : ∀ n, (∀ k, k < n → (f k).length = 16) → (z2nc f n).length = 16 * n
 | 0, _ => rfl
 | n + 1, h => by
  rw [z2nc, List.length_append, z7Ja n fun k hk => h k (by omega), h n (by omega)]; omega
def dgI (d : List UInt8) : List Int := (dgt d).map Int.ofNat
def pubV (s : List UInt8) (k : Nat) : List UInt8 := adv k 0 15 (z3Rc s k)
def sigV (s : List UInt8) (hs : List Int) (k : Nat) : List UInt8 := adv k 0 (atI hs k) (z3Rc s k)
def endV (hs : List Int) (s : List UInt8) (k : Nat) : List UInt8 := adv k (atI hs k) 15 ((s.drop (16 * k)).take 16)
def pubS (s : List UInt8) : List UInt8 := z2nc (pubV s) 35
def sigS (s d : List UInt8) : List UInt8 := z2nc (sigV s (dgI d)) 35
def endS (d s : List UInt8) : List UInt8 := z2nc (endV (dgI d) s) 35
theorem z69a (s : List UInt8) (k : Nat) : (pubV s k).length = 16 := z3kb (z5Ka _ _) _ _ _
theorem z5bb (s : List UInt8) (hs : List Int) (k : Nat) : (sigV s hs k).length = 16 := z3kb (z5Ka _ _) _ _ _
theorem z0Mb (s : List UInt8) : (pubS s).length = 560 := z7Ja 35 fun k _ => z69a s k
theorem z1Ib (s d : List UInt8) : (sigS s d).length = 560 := z7Ja 35 fun k _ => z5bb s _ k
def recD (d s : List UInt8) : List UInt8 := if s.length = 560 then z7L 5 [endS d s] else z9c 16
def pubD (s : List UInt8) : List UInt8 := z7L 5 [pubS s]
theorem z0Bb (d s : List UInt8) : (recD d s).length = 16 := by
 unfold recD
 split
 ·exact z3E _ _
 ·rfl
theorem z6Bb (s : List UInt8) : (pubD s).length = 16 := z3E _ _
end Go.Abs
end

section
namespace Go.Abs
attribute [simp] z69a z5bb z0Mb z1Ib z0Bb z6Bb z5Ka
theorem z5pa (bs : List Nat) (bx : Nat → Option (List z2a)) (f : Nat) (x y : List z2a) : z1x bs bx (.fn f x y) = ((∀ v ∈ x, z1o bs bx v) ∧ (∀ v ∈ y, z1o bs bx v)) := rfl
theorem z5Ma {l : List UInt8} (h : l.length = 16) : l.take 16 = l := by rw [← h, List.take_length]
theorem z25c (a : List UInt8) : z2ma [a] = a.length + 9 := by simp [z2ma]
@[simp] theorem z9Vc (tag : Int) (x : List UInt8) (nl : Option Bool) : ofC.post [i64 tag, .sl .plain nl 1 [st x]] = .agg (bys (z7L tag [x])) := z55b tag nl 1 [x]
@[simp] theorem z9wc (tag : Int) (x : List UInt8) (nl : Option Bool) : z6rb.post [i64 tag, .sl .plain nl 1 [st x]] = .agg (bys (z7L tag [x])) := z59a tag nl 1 [x]
end Go.Abs
end

section
namespace Go.Abs
structure Cmd where
 kind : Int
 key : Int
 other : Int
 type : Int
 uses : Int
 life : Int
 data : List UInt8
 list : List Int
def Cmd.ok (c : Cmd) : Prop := z6k c.kind ∧ z6k c.key ∧ z6k c.other ∧ z6k c.type ∧ z6k c.uses ∧ z6k c.life ∧ ∀ x ∈ c.list, z6k x
def z2o (c : Cmd) (nl : Option Bool) : List z2a := [i64 c.kind, i64 c.key, i64 c.other, i64 c.type, i64 c.uses, i64 c.life, st c.data, .sl .plain nl c.list.length (z6j c.list)]
def z0Ga (l : List z2a) : Cmd := ⟨asI (nth l 0), asI (nth l 1), asI (nth l 2), asI (nth l 3), asI (nth l 4), asI (nth l 5), gS (nth l 6), gIs (gCs (nth l 7))⟩
@[simp] theorem z4pa (c : Cmd) (nl : Option Bool) : z0Ga (z2o c nl) = c := by simp [z0Ga, z2o, nth]
def z8C : Cmd := ⟨0, 0, 0, 0, 0, 0, [], []⟩

/-! ### Kinds -/
structure Row where
 name : List UInt8
 uses : Nat
 least : Nat
 most : Nat
def z8Uc : List Row := [⟨[103, 101, 110, 101, 114, 97, 116, 101], 4, 0, 0⟩,
 ⟨[105, 109, 112, 111, 114, 116], 20, 32, 32⟩,
 ⟨[101, 120, 112, 111, 114, 116], 1, 0, 0⟩,
 ⟨[101, 110, 99, 114, 121, 112, 116], 17, 0, 1000⟩,
 ⟨[100, 101, 99, 114, 121, 112, 116], 17, 28, 1028⟩,
 ⟨[109, 97, 99], 17, 0, 1000⟩,
 ⟨[119, 114, 97, 112], 3, 0, 0⟩,
 ⟨[117, 110, 119, 114, 97, 112], 17, 1, 200⟩,
 ⟨[114, 97, 119, 45, 119, 114, 97, 112], 3, 0, 0⟩,
 ⟨[114, 97, 119, 45, 117, 110, 119, 114, 97, 112], 21, 60, 60⟩,
 ⟨[100, 101, 114, 105, 118, 101], 5, 0, 0⟩,
 ⟨[100, 101, 115, 116, 114, 111, 121], 1, 0, 0⟩,
 ⟨[114, 111, 116, 97, 116, 101], 1, 0, 0⟩,
 ⟨[98, 97, 99, 107, 117, 112], 0, 0, 0⟩,
 ⟨[114, 101, 115, 116, 111, 114, 101], 16, 1, 1048576⟩,
 ⟨[114, 101, 110, 101, 119], 0, 0, 0⟩,
 ⟨[114, 101, 112, 108, 97, 99, 101], 16, 1, 2000⟩,
 ⟨[115, 112, 108, 105, 116], 8, 0, 0⟩,
 ⟨[109, 101, 114, 103, 101], 16, 1, 1048576⟩,
 ⟨[117, 110, 108, 111, 99, 107], 0, 0, 0⟩,
 ⟨[114, 101, 107, 101, 121], 0, 0, 0⟩,
 ⟨[100, 101, 99, 111, 109, 109, 105, 115, 115, 105, 111, 110], 0, 0, 0⟩,
 ⟨[112, 114, 111, 112, 111, 115, 101], 18, 16, 16⟩,
 ⟨[97, 112, 112, 114, 111, 118, 101], 19, 1, 2000⟩,
 ⟨[119, 105, 116, 104, 100, 114, 97, 119], 19, 1, 2000⟩,
 ⟨[104, 101, 97, 100], 0, 0, 0⟩,
 ⟨[112, 105, 101, 99, 101], 3, 0, 0⟩]

def z0qa (r : Row) : List z2a := [st r.name, i64 r.uses, i64 r.least, i64 r.most]
def z8gc : List z2a := z8Uc.flatMap z0qa
def z8gd : Row := ⟨[], 0, 0, 0⟩
def z30b (k : Int) : Row := z8Uc.getD (k - 1).toNat z8gd
def z7Rb (k : Int) : Bool := leB' 1 k && leB' k 27
where leB' (a b : Int) : Bool := decide (a ≤ b)
def z2Xb (k : Int) : List UInt8 := if 1 ≤ k ∧ k ≤ 27 then (z30b k).name else []
def z3Oc (s : List UInt8) : List Row → Nat → Nat
 | [], _ => 0
 | r :: rs, i => if r.name = s then i + 1 else z3Oc s rs (i + 1)
def z0Ha (s : List UInt8) : Nat := z3Oc s z8Uc 0

/-! ### Bits of whole numbers -/
def z9Ia (x y : Int) : Int := IntKind.i64.wrap (BitVec.ofInt 64 x &&& ~~~ BitVec.ofInt 64 y).toNat
@[simp] theorem z3yb (x y : Int) : z8L .andNot (i64 x) (i64 y) = i64 (z9Ia x y) := rfl
@[simp] theorem z8Rb (x y : Int) : z3c .andNot (i64 x) (i64 y) = True := by simp [z3c, i64, -z3qb]
@[simp] theorem z75b (x y : Int) : z3c .and (i64 x) (i64 y) = True := by simp [z3c, i64, -z3qb]
def z5ua (n : Int) : Bool := z9Ia n 956 == 0
def z2Tb (u f : Nat) : Bool := z5hb u f != 0
def z35a (u f : Nat) (n most : Int) : Bool := decide (0 ≤ n) && decide (n ≤ if z2Tb u f then most else 0)
def z07c : Int → List Int → Bool
 | _, [] => true
 | last, n :: r => decide (last < n) && decide (n ≤ 4096) && z07c n r
def z7pb (u : Nat) (l : List Int) : Bool := if z2Tb u 8 then z07c 0 l && decide (0 < l.length) else decide (l.length = 0)
def z7xc (c : Cmd) (u : Nat) : Bool := z35a u 1 c.key 4294967296 && z35a u 2 c.other 4294967296 && z35a u 4 c.type 31 && z35a u 4 c.uses 956 && z35a u 4 c.life 1099511627776
def z7Dc (c : Cmd) (r : Row) : Bool := z7xc c r.uses && z5ua c.uses && z7pb r.uses c.list && (z2Tb r.uses 16 || decide (c.data = [])) && decide (r.least ≤ c.data.length)
def z0oc (c : Cmd) : Nat := if ¬ (1 ≤ c.kind ∧ c.kind ≤ 27) then 1 else if z7Dc c (z30b c.kind) then (if (z30b c.kind).most < c.data.length then 2 else 0) else 1

/-! ### Encodings -/
def six (c : Cmd) : List Int := [c.kind, c.key, c.other, c.type, c.uses, c.life]
def z96 (c : Cmd) : List UInt8 := (six c).flatMap z7v ++ (z90 c.data ++ z9q c.list)
def z6wa : Nat → List UInt8 → List Int × List UInt8 × Nat
 | 0, b => ([], b, 0)
 | n + 1, b => if (z0m b).2.2 ≠ 0 then ([], b, (z0m b).2.2) else ((z0m b).1 :: (z6wa n (b.drop (z0m b).2.1)).1, (z6wa n (b.drop (z0m b).2.1)).2)
def aft (b : List UInt8) (n e : Nat) : List UInt8 := if e = 0 then b.drop n else b
def z2Tc (b : List UInt8) : Cmd × Nat :=
 let r := z6wa 6 b
 if r.2.2 ≠ 0 then (z8C, r.2.2) else
 let s := z0ma r.2.1
 if s.2.2 ≠ 0 then (z8C, s.2.2) else
 let l := z8z z0m 1 (r.2.1.drop s.2.1)
 if l.2.2 ≠ 0 then (z8C, l.2.2) else
 if 0 < ((r.2.1.drop s.2.1).drop l.2.1).length then (z8C, 6) else
 let c : Cmd := ⟨atI r.1 0, atI r.1 1, atI r.1 2, atI r.1 3, atI r.1 4, atI r.1 5, s.1, l.1⟩
 if z0oc c ≠ 0 then (z8C, z0oc c) else (c, 0)
end Go.Abs
end

section
namespace Go.Abs
def z0rb : z5a := ⟨fun ds => ∃ (r : Row) (s : List UInt8), ds = [.agg (z0qa r), .ep [st s]], fun ds => bo (gS (nth (gCs (nth ds 0)) 0) == gS (nth (gCs (nth ds 1)) 0))⟩
def gF1 (d : z2a) : z2a := match d with | .fn _ _ y => nth (gCs (nth y 0)) 0 | _ => .undef
def z3gd : z5a := ⟨fun ds => ∃ (s : List UInt8) (nl : Option Bool), ds = [.sl .plain nl 27 z8gc, .fn 121 [] [.ep [st s]]], fun ds => i64 ((z0Ha (gS (gF1 (nth ds 1))) : Int) - 1)⟩
def z2bc : z5a := ⟨fun ds => ∃ s : List UInt8, ds = [st s], fun ds => .tup [i64 (z0Ha (gS (nth ds 0))), bo (z0Ha (gS (nth ds 0)) != 0)]⟩
def z2Za : z5a := ⟨fun ds => ∃ k : Int, ds = [i64 k], fun ds => bo (z7Rb (asI (nth ds 0)))⟩
def z2uc : z5a := ⟨fun ds => ∃ k : Int, z6k k ∧ ds = [i64 k], fun ds => st (z2Xb (asI (nth ds 0)))⟩
def numC : z5a := ⟨fun ds => ∃ (r : Row) (f : Nat) (n most : Int), ds = [.agg (z0qa r), i64 f, i64 n, i64 most], fun ds => bo (z35a (asI (nth (gCs (nth ds 0)) 1)).toNat (asI (nth ds 1)).toNat (asI (nth ds 2)) (asI (nth ds 3)))⟩
def z7Cc : z5a := ⟨fun ds => ∃ (r : Row) (nl : Option Bool) (l : List Int), l.length ≤ 1000000000 ∧ ds = [.agg (z0qa r), .sl .plain nl l.length (z6j l)], fun ds => bo (z7pb (asI (nth (gCs (nth ds 0)) 1)).toNat (gIs (gCs (nth ds 1))))⟩
def Cmd.small (c : Cmd) : Prop := c.ok ∧ c.data.length ≤ 100000000 ∧ c.list.length ≤ 100000000
def z1uc : z5a := ⟨fun ds => ∃ (c : Cmd) (nl : Option Bool), c.small ∧ ds = [.agg (z2o c nl)], fun ds => i64 (z0oc (z0Ga (gCs (nth ds 0))))⟩
def bls (ps : List (Option Bool × List UInt8)) : List z2a := ps.map fun p => .sl (.own 1) p.1 p.2.length (bys p.2)
def z8Sb (ps : List (Option Bool × List UInt8)) : Nat := (ps.map fun p => p.2.length).sum
def z4Sb (l : List z2a) : List UInt8 := l.flatMap fun d => gBs (gCs d)
def mdA (b : Bool) : z3la := if b then .own 1 else .plain
def mls (ps : List (Bool × Option Bool × List UInt8)) : List z2a := ps.map fun p => .sl (mdA p.1) p.2.1 p.2.2.length (bys p.2.2)
def z3z : z5a := ⟨fun ds => ∃ (nl : Option Bool) (ps : List (Bool × Option Bool × List UInt8)), z8Sb (ps.map (·.2)) ≤ 10000000000 ∧ ps.length ≤ 10000000000 ∧ ds = [.sl .plain nl ps.length (mls ps)], fun ds => .sl (.own 1) none (z4Sb (gCs (nth ds 0))).length (bys (z4Sb (gCs (nth ds 0))))⟩
def z7eb : z5a := ⟨fun ds => ∃ n : Nat, n ≤ 10000000000 ∧ ds = [.sl .plain (some true) 0 [], i64 n], fun _ => .sl (.own 1) none 0 []⟩
def z9ma : z5a := ⟨fun ds => ∃ (c : Cmd) (nl : Option Bool), c.small ∧ ds = [.agg (z2o c nl)], fun ds => .sl (.own 1) none (z96 (z0Ga (gCs (nth ds 0)))).length (bys (z96 (z0Ga (gCs (nth ds 0)))))⟩
def z0la : z5a := ⟨fun ds => ∃ (c : Cmd) (nl : Option Bool), c.small ∧ ds = [.agg (z2o c nl)], fun ds => .agg (bys (z7L 7 [z96 (z0Ga (gCs (nth ds 0)))]))⟩
def z6za (c d : Cmd) : Bool := c.kind == d.kind && c.key == d.key && c.other == d.other && c.type == d.type && c.uses == d.uses && c.life == d.life && c.data == d.data && c.list == d.list
def z08 : z5a := ⟨fun ds => ∃ (c d : Cmd) (nl nl' : Option Bool), c.small ∧ d.small ∧ ds = [.agg (z2o c nl), .agg (z2o d nl')], fun ds => bo (z6za (z0Ga (gCs (nth ds 0))) (z0Ga (gCs (nth ds 1))))⟩
/-! ### The reader -/
def z4da (c : Cmd) (nl : Option Bool) (b : List UInt8) (nb : Option Bool) : List z2a := z2o c nl ++ [.sl .plain nb b.length (bys b)]
def gNl (d : z2a) : Option Bool := match d with | .sl _ nl _ _ => nl | _ => none
def rC (ds : List z2a) : Cmd := z0Ga (gCs (nth ds 0))
def rN (ds : List z2a) : Option Bool := gNl (nth (gCs (nth ds 0)) 7)
def rB (ds : List z2a) : List UInt8 := gBs (gCs (nth (gCs (nth ds 0)) 8))
def rM (ds : List z2a) : Option Bool := gNl (nth (gCs (nth ds 0)) 8)
def z96c (l : List Int) (d : List UInt8) (ls : List Int) : Cmd := ⟨atI l 0, atI l 1, atI l 2, atI l 3, atI l 4, atI l 5, d, ls⟩
def z17c (c : Cmd) (l : List Int) : Cmd := z96c (l ++ (six c).drop l.length) c.data c.list
def z8Hb (ds : List z2a) : Prop := ∃ (c : Cmd) (nl : Option Bool) (b : List UInt8) (nb : Option Bool), c.small ∧ b.length ≤ 100000000 ∧ ds = [.ep (z4da c nl b nb)]
def z2jc : CM := ⟨[0], [], fun ds => ∃ (c : Cmd) (nl : Option Bool) (b : List UInt8) (nb : Option Bool) (n e : Nat), b.length ≤ 1000000000 ∧ (e = 0 → n ≤ b.length) ∧ ds = [.ep (z4da c nl b nb), i64 n, i64 e], fun ds => i64 (asI (nth ds 2)),
 fun ds _ => z4da (rC ds) (rN ds) (aft (rB ds) (asI (nth ds 1)).toNat (asI (nth ds 2)).toNat) (rM ds)⟩
def z5ha : CM := ⟨[0], [], z8Hb, fun ds => i64 (z6wa 6 (rB ds)).2.2, fun ds _ => z4da (z17c (rC ds) (z6wa 6 (rB ds)).1) (rN ds) (z6wa 6 (rB ds)).2.1 (rM ds)⟩
def z0fb : CM := ⟨[0], [], z8Hb, fun ds => i64 (z0ma (rB ds)).2.2, fun ds _ => z4da { rC ds with data := (z0ma (rB ds)).1 } (rN ds) (aft (rB ds) (z0ma (rB ds)).2.1 (z0ma (rB ds)).2.2) (rM ds)⟩
def z5fb : CM := ⟨[0], [], z8Hb, fun ds => i64 (z8z z0m 1 (rB ds)).2.2, fun ds _ => z4da { rC ds with list := (z8z z0m 1 (rB ds)).1 } none (aft (rB ds) (z8z z0m 1 (rB ds)).2.1 (z8z z0m 1 (rB ds)).2.2) (rM ds)⟩
def z7pc : CM := ⟨[0], [], z8Hb, fun ds => i64 (if 0 < (rB ds).length then 6 else z0oc (rC ds)), fun ds _ => z4da (rC ds) (rN ds) (rB ds) (rM ds)⟩
def z5xc : z5a := ⟨fun ds => ∃ (nl : Option Bool) (b : List UInt8), b.length ≤ 100000000 ∧ ds = [.sl .plain nl b.length (bys b)], fun ds => .tup [.agg (z2o (z2Tc (gBs (gCs (nth ds 0)))).1 none), i64 (z2Tc (gBs (gCs (nth ds 0)))).2]⟩

@[simp] theorem z6Mc (r : Row) (s : List UInt8) : z0rb.pre [.agg (z0qa r), .ep [st s]] = True := eq_true ⟨r, s, rfl⟩
@[simp] theorem z9pc (r : Row) (s : List UInt8) : z0rb.post [.agg (z0qa r), .ep [st s]] = bo (r.name == s) := by simp [z0rb, z0qa, nth]
@[simp] theorem z6fd (nl : Option Bool) (s : List UInt8) : z3gd.pre [.sl .plain nl 27 z8gc, .fn 121 [] [.ep [st s]]] = True := eq_true ⟨s, nl, rfl⟩
@[simp] theorem z1Qc (nl : Option Bool) (s : List UInt8) : z3gd.post [.sl .plain nl 27 z8gc, .fn 121 [] [.ep [st s]]] = i64 ((z0Ha s : Int) - 1) := by simp [z3gd, gF1, nth]
@[simp] theorem z6Xc (s : List UInt8) : z2bc.pre [st s] = True := eq_true ⟨s, rfl⟩
@[simp] theorem z9Ac (s : List UInt8) : z2bc.post [st s] = .tup [i64 (z0Ha s), bo (z0Ha s != 0)] := by simp [z2bc]
@[simp] theorem z0nc (k : Int) : z2Za.pre [i64 k] = True := eq_true ⟨k, rfl⟩
@[simp] theorem z64b (k : Int) : z2Za.post [i64 k] = bo (z7Rb k) := by simp [z2Za]
@[simp] theorem z2Pc (k : Int) : z2uc.post [i64 k] = st (z2Xb k) := by simp [z2uc]
@[simp] theorem z5Uc (r : Row) (f n most : Int) : numC.post [.agg (z0qa r), i64 f, i64 n, i64 most] = bo (z35a r.uses f.toNat n most) := by simp [numC, z0qa, nth]
@[simp] theorem z1Cc (r : Row) (nl : Option Bool) (n : Nat) (l : List Int) : z7Cc.post [.agg (z0qa r), .sl .plain nl n (z6j l)] = bo (z7pb r.uses l) := by simp [z7Cc, z0qa, nth]
@[simp] theorem z9xc (c : Cmd) (nl : Option Bool) : z1uc.post [.agg (z2o c nl)] = i64 (z0oc c) := by simp [z1uc]
theorem z0Pa {c : Cmd} {nl : Option Bool} (h : c.small) : z9ma.pre [.agg (z2o c nl)] = True := eq_true ⟨c, nl, h, rfl⟩
@[simp] theorem z9xa (c : Cmd) (nl : Option Bool) : z9ma.post [.agg (z2o c nl)] = .sl (.own 1) none (z96 c).length (bys (z96 c)) := by simp [z9ma]
theorem z0cb {c : Cmd} {nl : Option Bool} (h : c.small) : z0la.pre [.agg (z2o c nl)] = True := eq_true ⟨c, nl, h, rfl⟩
@[simp] theorem z4oa (c : Cmd) (nl : Option Bool) : z0la.post [.agg (z2o c nl)] = .agg (bys (z7L 7 [z96 c])) := by simp [z0la]
theorem z3za {c d : Cmd} {nl nl' : Option Bool} (h : c.small) (h' : d.small) : z08.pre [.agg (z2o c nl), .agg (z2o d nl')] = True := eq_true ⟨c, d, nl, nl', h, h', rfl⟩
@[simp] theorem z09 (c d : Cmd) (nl nl' : Option Bool) : z08.post [.agg (z2o c nl), .agg (z2o d nl')] = bo (z6za c d) := by simp [z08]
@[simp] theorem z4zc (nl : Option Bool) (n : Nat) (b : List UInt8) : z5xc.post [.sl .plain nl n (bys b)] = .tup [.agg (z2o (z2Tc b).1 none), i64 (z2Tc b).2] := by simp [z5xc]
@[simp] theorem z2Rc (ps : List (Option Bool × List UInt8)) : z4Sb (bls ps) = ps.flatMap (·.2) := by
 induction ps with
 | nil => rfl
 | cons p ps ih => simp only [z4Sb, bls, List.map_cons, List.flatMap_cons] at ih ⊢; rw [ih]; simp
theorem z19b (ps : List (Option Bool × List UInt8)) : bls ps = mls (ps.map fun p => (true, p)) := by
 rw [bls, mls, List.map_map]; rfl
theorem z0zb (ps : List (Bool × Option Bool × List UInt8)) : z4Sb (mls ps) = ps.flatMap (·.2.2) := by
 induction ps with
 | nil => rfl
 | cons p ps ih =>
  simp only [z4Sb, mls, List.map_cons, List.flatMap_cons] at ih ⊢
  rw [ih]
  simp [gCs]
theorem z5ka {nl : Option Bool} {n : Nat} {ps : List (Bool × Option Bool × List UInt8)} (h : z8Sb (ps.map (·.2)) ≤ 10000000000) (h' : ps.length ≤ 10000000000) (hn : n = ps.length) : z3z.pre [.sl .plain nl n (mls ps)] = True := eq_true ⟨nl, ps, h, h', by rw [hn]⟩
theorem z7fa (nl : Option Bool) (n : Nat) (ps : List (Bool × Option Bool × List UInt8)) : z3z.post [.sl .plain nl n (mls ps)] = .sl (.own 1) none (ps.flatMap (·.2.2)).length (bys (ps.flatMap (·.2.2))) := by
 show z2a.sl (.own 1) none (z4Sb (mls ps)).length (bys (z4Sb (mls ps))) = _
 rw [z0zb]
theorem z3eb {nl : Option Bool} {n : Nat} {ps : List (Option Bool × List UInt8)} (h : z8Sb ps ≤ 10000000000) (h' : ps.length ≤ 10000000000) (hn : n = ps.length) : z3z.pre [.sl .plain nl n (bls ps)] = True := by
 rw [z19b]
 refine z5ka ?_ (by simpa using h') (by simpa using hn)
 rw [List.map_map, show ((fun x : Bool × Option Bool × List UInt8 => x.2) ∘ fun p : Option Bool × List UInt8 => (true, p)) = id from rfl, List.map_id]
 exact h
@[simp] theorem z24a (nl : Option Bool) (n : Nat) (ps : List (Option Bool × List UInt8)) : z3z.post [.sl .plain nl n (bls ps)] = .sl (.own 1) none (ps.flatMap (·.2)).length (bys (ps.flatMap (·.2))) := by simp [z3z]
theorem z5Pb {n : Int} (h0 : 0 ≤ n) (h : n ≤ 10000000000) : z7eb.pre [.sl .plain (some true) 0 [], i64 n] = True := eq_true ⟨n.toNat, by omega, by rw [show ((n.toNat : Nat) : Int) = n by omega]⟩
@[simp] theorem z7Ra (ds : List z2a) : z7eb.post ds = .sl (.own 1) none 0 [] := rfl
theorem z5na (bs : List Nat) (bx : Nat → Option (List z2a)) (f : Nat) (x y : List z2a) : z1x bs bx (.fn f x y) = ((∀ v ∈ x, z1o bs bx v) ∧ (∀ v ∈ y, z1o bs bx v)) := rfl
@[simp] theorem z9ic (c : Cmd) (nl nb : Option Bool) (b : List UInt8) (r : List z2a) : rC (.ep (z4da c nl b nb) :: r) = c := by simp [rC, z4da, z2o, z0Ga, nth]
@[simp] theorem z1hd (c : Cmd) (nl nb : Option Bool) (b : List UInt8) (r : List z2a) : rN (.ep (z4da c nl b nb) :: r) = nl := by simp [rN, z4da, z2o, gNl, nth]
@[simp] theorem z3ic (c : Cmd) (nl nb : Option Bool) (b : List UInt8) (r : List z2a) : rB (.ep (z4da c nl b nb) :: r) = b := by simp [rB, z4da, z2o, nth]
@[simp] theorem z8cd (c : Cmd) (nl nb : Option Bool) (b : List UInt8) (r : List z2a) : rM (.ep (z4da c nl b nb) :: r) = nb := by simp [rM, z4da, z2o, gNl, nth]
end Go.Abs
end
