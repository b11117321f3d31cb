/- Lemmas: an abstract interpreter, and what the functions compute. -/
import Derived.Test.YtkccmbjmlpnejaaDoorV
import Derived.Test.YtkccmbjmlpnejaaDoorP
import Derived.Test.YtkccmbjmlpnejaaDoorT
import Derived.Test.YtkccmbjmlpnejaaDoorW
set_option linter.unusedSimpArgs false
set_option linter.unusedVariables false
set_option linter.unusedSectionVars false
section
namespace Go.Abs
set_option maxRecDepth 100000
theorem z0bc (E : Env) : ∀ ds, z5ib.pre ds → ds.length = z4i.n ∧ awp E z4i.body (z9u z4i.res (z5ib.post ds)) (z8c z4i.wr ds) := by
 rintro _ rfl
 rw [z85a]
 simp (maxSteps := 1000000) (disch := first | omega | (simp; done) | (simp; omega)) [z7a, z1a, z0a, z4i, z2g, z5Ea, z3n, z6m]
 rfl
def z60b : z5a := ⟨fun ds => ∃ (nl : Option Bool) (l : List z0f) (k : Int), z4d l ∧ l.length ≤ 1000000 ∧ ds = [.sl .plain nl l.length (z0b l), i64 k], fun ds => i64 (z2Fa (fun m => decide (m.id = asI (nth ds 1))) (z9Y (gNn (nth ds 0)) (gCs (nth ds 0))))⟩
theorem z9Oa {nl : Option Bool} {l : List z0f} (k : Int) (h : z4d l) (h1 : l.length ≤ 1000000) : z60b.pre [.sl .plain nl l.length (z0b l), i64 k] = True := eq_true ⟨nl, l, k, h, h1, rfl⟩
theorem z7oa (nl : Option Bool) {l : List z0f} (k : Int) (h : z4d l) : z60b.post [.sl .plain nl l.length (z0b l), i64 k] = i64 (z2Fa (fun m => decide (m.id = k)) l) := by
 show i64 (z2Fa (fun m => decide (m.id = k)) (z9Y l.length (z0b l))) = _
 rw [z4F (z6b h)]
theorem z4dc {l : List z0f} (h : z4d l) {i : Nat} (hi : i < l.length) : hdA ((z0b l).drop (i * 24)) = i64 (atM l i).id := by
 have := z8da h hi
 rw [show hdA ((z0b l).drop (i * 24)) = hdA (((z0b l).drop (i * 24)).take 24) from by cases (z0b l).drop (i * 24) <;> rfl, this]
 rfl
set_option maxHeartbeats 4000000 in
theorem z8Lc (E : Env) : ∀ ds, z60b.pre ds → ds.length = z4k.n ∧ awp E z4k.body (z9u z4k.res (z60b.post ds)) (z8c z4k.wr ds) := by
 rintro _ ⟨nl, l, k, h16, hl, rfl⟩
 rw [z7oa nl k h16]
 have hlen := z0d (z6b h16)
 simp (maxSteps := 1000000) (disch := first | omega | (simp; done) | (simp; omega)) [z7a, z1a, z0a, z4k]
 refine z3a fun Q0 hQ0 => ?_
 refine z7d (fun i : Nat => ⟨[(0, .sl .plain nl l.length (z0b l)), (1, i64 k)], [(5, i64 i)], []⟩)
  (fun i => l.length - i) (fun i => i ≤ l.length ∧ ∀ j < i, decide ((atM l j).id = k) = false) 0 (by simp) (by simp) fun i hi => ?_
 obtain ⟨hi, he⟩ := hi
 refine z3a fun Q1 hQ1 => ?_
 by_cases h1 : i < l.length
 ·have ha := z4dc h16 h1
  have hle := z4Ka h16 h1
  have hle' : i * 24 ≤ l.length * 24 := by omega
  have hle2 : 24 ≤ l.length * 24 - i * 24 := by omega
  have hle3 : 1 ≤ l.length * 24 - i * 24 := by omega
  by_cases h2 : (atM l i).id = k
  ·have hR := z9La (p := fun m => decide (m.id = k)) h1 he (by simpa using h2)
   simp (maxSteps := 1000000) (disch := first | omega | (simp; done) | (simp; omega)) [z7a, z1a, z0a, z1s, z6C, kT, kF, dT, dF, h1, ha, hlen, hle', hle2, hle3, h2, hQ1, hQ0, hR]
  ·simp (maxSteps := 1000000) (disch := first | omega | (simp; done) | (simp; omega)) [z7a, z1a, z0a, z1s, z6C, kT, kF, dT, dF, h1, ha, hlen, hle', hle2, hle3, h2, hQ1]
   refine ⟨i + 1, by omega, ⟨by omega, fun j hj => ?_⟩, by omega⟩
   rcases Nat.lt_or_eq_of_le (Nat.lt_succ_iff.1 hj) with h | h
   ·simpa using he j h
   ·rw [h]; simpa using h2
 ·have hl' : i = l.length := by omega
  have hR := z4Oa (p := fun m => decide (m.id = k)) (l := l) (fun j hj => he j (by omega))
  simp (maxSteps := 1000000) (disch := first | omega | (simp; done) | (simp; omega)) [z7a, z1a, z0a, z1s, kT, kF, dT, dF, h1, hQ1, hQ0, z7W, hR]
theorem z9xb {z : List z2a} {k n : Nat} (h : k < n) : hdA ((z.take n).drop k) = hdA (z.drop k) := by
 rw [List.drop_take]
 obtain ⟨m, hm⟩ : ∃ m, n - k = m + 1 := ⟨n - k - 1, by omega⟩
 rw [hm]
 cases z.drop k <;> rfl
theorem z8ac {l : List z0f} (h : z4d l) {i : Nat} (hi : i < l.length) : hdA ((z0b l).drop (i * 24 + 3)) = i64 (atD l i).beg ∧ hdA ((z0b l).drop (i * 24 + 4)) = i64 (atD l i).fin := by
 have ha := z8xa h hi
 rw [← List.drop_drop, ← List.drop_drop, ← z9xb (n := 24) (by omega), ← z9xb (n := 24) (k := 4) (by omega), ha]
 exact ⟨rfl, rfl⟩
set_option maxHeartbeats 8000000 in
theorem z78b (E : Env) : ∀ ds, z6fb.pre ds → ds.length = z8i.n ∧ awp E z8i.body (z9u z8i.res (z6fb.post ds)) (z8c z8i.wr ds) := by
 rintro _ ⟨nk, v, now, h16, hl, rfl⟩
 rw [z7ma now h16]
 have hlen := z0d (z6b h16)
 obtain ⟨t, m, e, n, ks⟩ := v
 simp only at h16 hl hlen
 simp only [z4xa]
 simp (maxSteps := 1000000) (disch := first | omega | (simp; done) | (simp; omega)) [z7a, z1a, z0a, z8i, z2g]
 refine z3a fun Q0 hQ0 => ?_
 refine z7d (fun i : Nat => ⟨[(0, .agg [i64 t, i64 m, i64 e, i64 n, .sl .plain nk ks.length (z0b ks)]), (1, i64 now)], [(2, .bp 2 0), (5, .sl (.own 24) none ((ks.take i).filter fun m => z5Y m now).length (z0b ((ks.take i).filter fun m => z5Y m now))), (6, i64 i)], [(2, some [i64 t, i64 m, i64 e, i64 n, .sl .plain nk ks.length (z0b ks)])]⟩)
  (fun i => ks.length - i) (fun i => i ≤ ks.length) 0 (by simp [z0b]) (by simp) fun i hi => ?_
 refine z3a fun Q1 hQ1 => ?_
 by_cases h1 : i < ks.length
 ·have hm := h16 _ (z4fa h1)
  have hd := hm.2.2.2.2.2.2.2
  have ha := z8xa h16 h1
  have hml := z3o hd
  have hf := z4Qa (p := fun m => z5Y m now) h1
  obtain ⟨ha3, ha4⟩ := z8ac h16 h1
  have hle : 24 ≤ ks.length * 24 - i * 24 := by omega
  have hle2 : i * 24 ≤ ks.length * 24 := by omega
  have hle3 : 1 ≤ ks.length * 24 - (i * 24 + 3) := by omega
  have hle4 : 1 ≤ ks.length * 24 - (i * 24 + 4) := by omega
  have hle5 : 3 ≤ ks.length * 24 - i * 24 := by omega
  have hle6 : 4 ≤ ks.length * 24 - i * 24 := by omega
  have hFl : ((ks.take i).filter fun m => z5Y m now).length ≤ i := Nat.le_trans (List.length_filter_le _ _) (by rw [List.length_take]; omega)
  generalize hX : atD ks i = x at *
  generalize hF : (ks.take i).filter (fun m => z5Y m now) = F at *
  have sp' : splice [i64 0, i64 0, i64 0, i64 0, i64 0, i64 0, i64 0, bo false, u8 0, u8 0, u8 0, u8 0, u8 0, u8 0, u8 0, u8 0, u8 0, u8 0, u8 0, u8 0, u8 0, u8 0, u8 0, u8 0] 0 (z2q x) = z2q x := z8la hd rfl
  by_cases h2 : x.beg ≤ now
  ·by_cases h3 : now < x.fin
   ·have hz : z5Y x now = true := by simp [z5Y, h2, h3]
    rw [hz] at hf
    simp only [if_true] at hf
    simp (maxSteps := 1000000) (disch := first | omega | (simp; done) | (simp; omega)) [z7a, z1a, z0a, z9l, z0q, kT, kF, dT, dF, h1, ha, ha3, ha4, hlen, hle, hle2, hle3, hle4, hle5, hle6, hml, z3F, z4Q, z1ua hd, sp', h2, h3, hQ1]
    exact ⟨⟨by omega, by omega, fun c hc => z5F c hc⟩, i + 1, by omega, by omega, ⟨by rw [hf]; simp, by rw [hf, z43, z8Na]⟩, by omega⟩
   ·have hz : z5Y x now = false := by simp [z5Y, h3]
    rw [hz] at hf
    simp only [Bool.false_eq_true, if_false, List.append_nil] at hf
    simp (maxSteps := 1000000) (disch := first | omega | (simp; done) | (simp; omega)) [z7a, z1a, z0a, z9l, z0q, kT, kF, dT, dF, h1, ha, ha3, ha4, hlen, hle, hle2, hle3, hle4, hle5, hle6, hml, z3F, z4Q, z1ua hd, sp', h2, h3, hQ1]
    exact ⟨i + 1, by omega, by omega, ⟨by rw [hf], by rw [hf]⟩, by omega⟩
  ·have hz : z5Y x now = false := by simp [z5Y, h2]
   rw [hz] at hf
   simp only [Bool.false_eq_true, if_false, List.append_nil] at hf
   simp (maxSteps := 1000000) (disch := first | omega | (simp; done) | (simp; omega)) [z7a, z1a, z0a, z9l, z0q, kT, kF, dT, dF, h1, ha, ha3, ha4, hlen, hle, hle2, hle3, hle4, hle5, hle6, hml, z3F, z4Q, z1ua hd, sp', h2, hQ1]
   exact ⟨i + 1, by omega, by omega, ⟨by rw [hf], by rw [hf]⟩, by omega⟩
 ·obtain rfl : i = ks.length := by omega
  simp (maxSteps := 1000000) (disch := first | omega | (simp; done) | (simp; omega)) [z7a, z1a, z0a, z9l, kT, kF, dT, dF, hQ1, hQ0, z7P, List.take_length]
set_option maxHeartbeats 4000000 in
theorem z7Hb (E : Env) : ∀ ds, z66.pre ds → ds.length = z8d.n ∧ awp E z8d.body (z9u z8d.res (z66.post ds)) (z8c z8d.wr ds) := by
 rintro _ ⟨nl, nl', a, b, ha, hb, hl, rfl⟩
 rw [z75 nl nl' ha hb]
 by_cases h : a.length = b.length
 rotate_left
 ·have hz : decide (a = b) = false := by simpa using fun e : a = b => h (by rw [e])
  have h' : ¬ ((a.length : Int) = b.length) := by omega
  simp (maxSteps := 1000000) (disch := first | omega | (simp; done) | (simp; omega)) [z7a, z1a, z0a, z8d, h', kT, kF, hz]
 have h' : ((a.length : Int) = b.length) := by omega
 have hla := z0d (z6b ha)
 have hlb := z0d (z6b hb)
 simp (maxSteps := 1000000) (disch := first | omega | (simp; done) | (simp; omega)) [z7a, z1a, z0a, z8d, z3C, h', kT, kF]
 refine z3a fun Q0 hQ0 => ?_
 refine z7d (fun i : Nat => ⟨[(0, .sl .plain nl a.length (z0b a)), (1, .sl .plain nl' b.length (z0b b))], [(5, i64 i)], []⟩)
  (fun i => a.length - i) (fun i => i ≤ a.length ∧ a.take i = b.take i) 0 (by simp [h']) (by simp) fun i hi => ?_
 obtain ⟨hi, he⟩ := hi
 refine z3a fun Q1 hQ1 => ?_
 by_cases h1 : i < a.length
 ·have h3 : i < b.length := by omega
  have e1 := z8da ha h1
  have e2 := z8da hb h3
  have l1 : 24 ≤ a.length * 24 - i * 24 := by omega
  have l2 : 24 ≤ b.length * 24 - i * 24 := by omega
  have l3 : i * 24 ≤ a.length * 24 := by omega
  have l4 : i * 24 ≤ b.length * 24 := by omega
  have d1 := (ha _ (z2la h1)).2.2.2.2.2.2.2
  have d2 := (hb _ (z2la h3)).2.2.2.2.2.2.2
  have hq := eqM d1 d2
  have ho1 := z7Zc d1
  have ho2 := z7Zc d2
  by_cases h2 : atM a i = atM b i
  ·rw [← h2] at e2 ho2 hq
   simp only [decide_true] at hq
   simp (maxSteps := 1000000) (disch := first | omega | (simp; done) | (simp; omega)) [z7a, z1a, z0a, z7l, z3q, kT, kF, dT, dF, h1, h3, hla, hlb, e1, e2, l1, l2, l3, l4, hq, ho1, hQ1]
   refine ⟨i + 1, by omega, ⟨by omega, ?_⟩, by omega⟩
   rw [List.take_succ_eq_append_getElem h1, List.take_succ_eq_append_getElem h3, he, ← z7aa h1, ← z7aa h3, h2]
  ·have hz : decide (a = b) = false := by simpa using fun e : a = b => h2 (by rw [e])
   have hq' : z1P kM (z2q (atM a i)) (z2q (atM b i)) = false := by rw [hq]; simpa using h2
   simp (maxSteps := 1000000) (disch := first | omega | (simp; done) | (simp; omega)) [z7a, z1a, z0a, z7l, z3q, kT, kF, dT, dF, h1, h3, hla, hlb, e1, e2, l1, l2, l3, l4, hq', ho1, ho2, hQ1, hQ0, hz]
 ·have e : i = a.length := by omega
  subst e
  have hz : decide (a = b) = true := by simpa using z3wb h he
  simp (maxSteps := 1000000) (disch := first | omega | (simp; done) | (simp; omega)) [z7a, z1a, z0a, z7l, z7B, kT, kF, dT, dF, hQ1, hQ0, hz]
def z0ib (v w : z4q) : Bool := v.time == w.time && v.mode == w.mode && v.ents == w.ents && v.next == w.next && decide (v.keys = w.keys)
def z92a : z5a := ⟨fun ds => ∃ (nk nk' : Option Bool) (v w : z4q), z4d v.keys ∧ z4d w.keys ∧ v.keys.length ≤ 1000000 ∧ ds = [.agg (z2g nk v), .agg (z2g nk' w)], fun ds => bo (z0ib (z4Ea (gCs (nth ds 0))) (z4Ea (gCs (nth ds 1))))⟩
theorem z09a {nk nk' : Option Bool} {v w : z4q} (h : z4d v.keys) (h' : z4d w.keys) (hl : v.keys.length ≤ 1000000) : z92a.pre [.agg (z2g nk v), .agg (z2g nk' w)] = True := eq_true ⟨nk, nk', v, w, h, h', hl, rfl⟩
theorem z1Ba (nk nk' : Option Bool) {v w : z4q} (h : z4d v.keys) (h' : z4d w.keys) : z92a.post [.agg (z2g nk v), .agg (z2g nk' w)] = bo (z0ib v w) := by
 show bo (z0ib (z4Ea (z2g nk v)) (z4Ea (z2g nk' w))) = _
 rw [z6Na (z6b h), z6Na (z6b h')]
theorem z3Pa {v w : z4q} : z0ib v w = true ↔ v = w := by
 obtain ⟨a, b, c, d, e⟩ := v
 obtain ⟨a', b', c', d', e'⟩ := w
 simp only [z0ib, Bool.and_eq_true, beq_iff_eq, decide_eq_true_eq, z4q.mk.injEq, and_assoc]
set_option maxHeartbeats 4000000 in
theorem z3ac (E : Env) (h338 : E.G 338 = z66) : ∀ ds, z92a.pre ds → ds.length = z6c.n ∧ awp E z6c.body (z9u z6c.res (z92a.post ds)) (z8c z6c.wr ds) := by
 rintro _ ⟨nk, nk', v, w, hv, hw, hl, rfl⟩
 rw [z1Ba nk nk' hv hw]
 have p := z4za (nl := nk) (nl' := nk') hv hw hl
 have q := z75 nk nk' hv hw
 obtain ⟨a, b, c, d, e⟩ := v
 obtain ⟨a', b', c', d', e'⟩ := w
 simp only at p q
 simp only [z0ib]
 by_cases h1 : a = a'
 ·by_cases h2 : b = b'
  ·by_cases h3 : c = c'
   ·by_cases h4 : d = d'
    ·subst h1 h2 h3 h4
     simp (maxSteps := 1000000) (disch := first | omega | (simp; done) | (simp; omega)) [z7a, z1a, z0a, z6c, z2g, h338, p, q, kT, kF, dT, dF]
    ·subst h1 h2 h3
     have hb := beq_false_of_ne h4
     simp (maxSteps := 1000000) (disch := first | omega | (simp; done) | (simp; omega)) [z7a, z1a, z0a, z6c, z2g, hb, kT, kF, dT, dF]
   ·subst h1 h2
    have hb := beq_false_of_ne h3
    simp (maxSteps := 1000000) (disch := first | omega | (simp; done) | (simp; omega)) [z7a, z1a, z0a, z6c, z2g, hb, kT, kF, dT, dF]
  ·subst h1
   have hb := beq_false_of_ne h2
   simp (maxSteps := 1000000) (disch := first | omega | (simp; done) | (simp; omega)) [z7a, z1a, z0a, z6c, z2g, hb, kT, kF, dT, dF]
 ·have hb := beq_false_of_ne h1
  simp (maxSteps := 1000000) (disch := first | omega | (simp; done) | (simp; omega)) [z7a, z1a, z0a, z6c, z2g, hb, kT, kF, dT, dF]
end Go.Abs
end

section
namespace Go.Abs
set_option maxRecDepth 100000
def coS (s id : Nat) (d : z2a) (st : ASt) : ASt := match d with | .bv _ e _ n _ => { st with env := (s, .sl (.own e) none n (((st.getB id).getD []).take (n * e))) :: st.env, box := (id, none) :: st.box } | _ => st
@[simp] theorem z2ad (s id : Nat) (o e : List (Nat × z2a)) (box : List (Nat × Option (List z2a))) : z5b (.cool s id) ⟨o, e, box⟩ = coS s id (ASt.get ⟨o, e, box⟩ s) ⟨o, e, box⟩ := rfl
@[simp] theorem coS_bv (s id j k q n c : Nat) (o e : List (Nat × z2a)) (box : List (Nat × Option (List z2a))) : coS s id (.bv j k q n c) ⟨o, e, box⟩ = ⟨o, (s, .sl (.own k) none n (((ASt.getB ⟨o, e, box⟩ id).getD []).take (n * k))) :: e, (id, none) :: box⟩ := rfl
theorem z6Nb {l : List z0f} (h : z4d l) {i : Nat} (hi : i < l.length) : hdA ((z0b l).drop (i * 24)) = i64 (atD l i).id := by
 have := z8xa h hi
 rw [show hdA ((z0b l).drop (i * 24)) = hdA (((z0b l).drop (i * 24)).take 24) from by cases (z0b l).drop (i * 24) <;> rfl, this]
 rfl
set_option maxHeartbeats 16000000 in
theorem z4kb (E : Env) {nk nc nm ng : Option Bool} {vt vm ve vn : Int} {vk : List z0f} {x : z3s} (hx : x.small) {a0 a1 : z2a} {l : List z0f} (k16 : z4d l) (kl : l.length ≤ 1000000) (ke0 : 0 ≤ ve) (ke1 : ve ≤ 1000000) (kn0 : 0 ≤ vn) (kn1 : vn ≤ 2147483647) :
  awp E z2t (z9u [.cell 4 (some 5) 4, .t 5] (.tup [.agg (z2g none (z5ic ⟨vt, vm, ve, vn, vk⟩ x l).v), i64 (z5ic ⟨vt, vm, ve, vn, vk⟩ x l).e])) ⟨[(2, .ep [i64 vt, i64 vm, i64 ve, i64 vn, .sl .plain nk vk.length (z0b vk)]), (3, .ep (z7k nc nm ng x)), (0, a0), (1, a1)], [(4, .bp 4 0), (7, .sl (.own 24) none l.length (z0b l))], [(4, some [i64 0, i64 0, i64 0, i64 0, .sl .plain none 0 []])]⟩ := by
 have hd := hx.1.2.2.2.2.2.1
 have h16 := hx.1.2.2.2.2.2.2.1
 have hml := hx.2.2.1
 have hl := z6d (nc := nc) (nm := nm) (ng := ng) hd
 have e28 := z2ka (nc := nc) (nm := nm) (ng := ng) hd
 have e0 : hdA (z7k nc nm ng x) = i64 x.time := rfl
 have e3 : hdA ((z7k nc nm ng x).drop 3) = i64 x.mode := rfl
 have hlen := z0d (z6b h16)
 have hkl := z0d (z6b k16)
 unfold z5ic
 simp only
 refine z3a fun Q0 hQ0 => ?_
 simp only [z2t]
 refine z2s fun B hB => ?_
 simp (maxSteps := 1000000) (disch := first | omega | (simp; done) | (simp; omega)) [z7a, z1a, z0a]
 refine z3a fun Q3 hQ3 => ?_
 refine z7d (fun i : Nat => ⟨[(2, .ep [i64 vt, i64 vm, i64 ve, i64 vn, .sl .plain nk vk.length (z0b vk)]), (3, .ep (z7k nc nm ng x)), (0, a0), (1, a1)], [(4, .bp 4 0), (7, .sl (.own 24) none l.length (z0b l)), (12, i64 i)], [(4, some [i64 0, i64 0, i64 0, i64 0, .sl .plain none 0 []])]⟩)
  (fun i => x.made.length - i) (fun i => i ≤ x.made.length ∧ ∀ j < i, (atD x.made j).id = vn + j) 0 (by simp) (by simp) fun i hi => ?_
 obtain ⟨hi, he⟩ := hi
 refine z3a fun Q4 hQ4 => ?_
 by_cases h1 : i < x.made.length
 ·have ha := z6Nb h16 h1
  have hle : 1 ≤ x.made.length * 24 - i * 24 := by omega
  have hle2 : i * 24 ≤ x.made.length * 24 := by omega
  generalize hX : atD x.made i = m at *
  by_cases h2 : m.id = vn + i
  ·simp (maxSteps := 1000000) (disch := first | omega | (simp; done) | (simp; omega)) [z7a, z1a, z0a, z8n, z7s, kT, kF, dT, dF, h1, hl, e28, hlen, hle, hle2, ha, h2, hQ4]
   refine ⟨i + 1, by omega, ⟨by omega, fun j hj => ?_⟩, by omega⟩
   rcases Nat.lt_or_eq_of_le (Nat.lt_succ_iff.1 hj) with h | h
   ·exact he j h
   ·rw [h, hX]; exact h2
  ·have hz : z5gb x.made vn = false := by
    cases hc : z5gb x.made vn
    ·rfl
    ·have := (z7Aa _ _).1 hc i h1
     rw [hX] at this
     exact absurd this h2
   rw [hz] at hQ0
   simp (maxSteps := 1000000) (disch := first | omega | (simp; done) | (simp; omega)) [z7a, z1a, z0a, z8n, z7s, kT, kF, dT, dF, h1, hl, e28, hlen, hle, hle2, ha, h2, hQ4, hQ3, hQ0, z3n, z6m, z2g, z9A, z5B]
   skip
 ·have hie : i = x.made.length := by omega
  subst hie
  have hz : z5gb x.made vn = true := (z7Aa _ _).2 he
  rw [if_pos hz] at hQ0
  simp (maxSteps := 1000000) (disch := first | omega | (simp; done) | (simp; omega)) [z7a, z1a, z0a, z8n, kT, kF, dT, dF, h1, hl, e28, hQ4, hQ3]
  rw [hB]; clear hB
  by_cases h4 : z9la < vn + x.made.length
  ·rw [if_pos h4] at hQ0
   simp only [z9la] at h4
   simp (maxSteps := 1000000) (disch := first | omega | (simp; done) | (simp; omega)) [z7a, z1a, z0a, z6s, kT, kF, dT, dF, hl, e28, h4, hQ0, z3n, z6m, z2g, z9A, z5B]
   skip
  ·rw [if_neg h4] at hQ0
   simp only [z9la] at h4
   simp (maxSteps := 1000000) (disch := first | omega | (simp; done) | (simp; omega)) [z7a, z1a, z0a, z6s, z8H, kT, kF, dT, dF, hl, e28, h4]
   rw [z1I]
   simp (maxSteps := 1000000) (disch := first | omega | (simp; done) | (simp; omega)) [z7a, z1a, z0a, hl, e28, e0, e3, hlen, hkl, hQ0, z3n, z6m, z2g, z43]
   refine ⟨by omega, by omega, fun c hc => ?_⟩
   obtain ⟨m, _, h⟩ := List.mem_flatMap.1 hc
   exact z5F c h
set_option maxHeartbeats 32000000 in
theorem z9Nb (E : Env) (h331 : E.G 331 = z47a) (h336 : E.G 336 = z60b) : ∀ ds, z6ib.pre ds → ds.length = z9d.n ∧ awp E z9d.body (z9u z9d.res (z6ib.post ds)) (z8c z9d.wr ds) := by
 rintro _ ⟨nk, nc, nm, ng, v, x, hv, hx, rfl⟩
 rw [z0ba hv hx]
 have hd := hx.1.2.2.2.2.2.1
 have h16 := hx.1.2.2.2.2.2.2.1
 have hml := hx.2.2.1
 have hgl := hx.2.2.2
 have hl := z6d (nc := nc) (nm := nm) (ng := ng) hd
 have htk := z8q (nc := nc) (nm := nm) (ng := ng) hd
 have e28 := z2ka (nc := nc) (nm := nm) (ng := ng) hd
 have e29 := z9sa (nc := nc) (nm := nm) (ng := ng) hd
 have hlen := z0d (z6b h16)
 obtain ⟨k16, kl, kt, ⟨ke0, ke1⟩, kn0, kn1⟩ := hv
 simp only [z9la] at kn1
 have hp := z8Oa (nc := nc) (nm := nm) (ng := ng) hx
 have hq := z2ha (nc := nc) (nm := nm) (ng := ng) hx
 cases c1 : okE x
 ·have hz : z3va v x = ⟨z9A, 1⟩ := by simp [z3va, c1]
  rw [hz]
  simp (maxSteps := 1000000) (disch := first | omega | (simp; done) | (simp; omega)) [z7a, z1a, z0a, z9d, z2g, hl, htk, h331, hp, hq, c1, kT, kF, z9A, z3n, z6m, z0b]
  skip
 have hlim := z4ga c1
 by_cases c2 : x.time < v.time
 ·have hz : z3va v x = ⟨z9A, 20⟩ := by simp [z3va, c1, c2]
  rw [hz]
  simp (maxSteps := 1000000) (disch := first | omega | (simp; done) | (simp; omega)) [z7a, z1a, z0a, z9d, z4t, z2g, hl, htk, h331, hp, hq, c1, c2, kT, kF, z9A, z3n, z6m, z0b]
  skip
 rw [z3Vb c1 c2]
 obtain ⟨vt, vm, ve, vn, vk⟩ := v
 simp only at k16 kl kt ke0 ke1 kn0 kn1 c2 ⊢
 have hkl := z0d (z6b k16)
 have hvc : ∀ c ∈ z0b vk, z5f c = true ∧ z5d c := fun c hc => by
  obtain ⟨m, _, h⟩ := List.mem_flatMap.1 hc
  exact z5F c h
 have hvc' := eq_true hvc
 have ko : vk.length * 80 ≤ 1099511627776 := by omega
 have ko' : vk.length ≤ 1099511627776 := by omega
 generalize hR : z6Cb ⟨vt, vm, ve, vn, vk⟩ x ((z60 x.gone vk).bind (z8ra x)) = R
 simp (maxSteps := 1000000) (disch := first | omega | (simp; done) | (simp; omega)) [z7a, z1a, z0a, z9d, z2g, hl, htk, h331, hp, hq, c1, c2, kT, kF]
 refine z3a fun Q0 hQ0 => ?_
 simp only [z4t]
 simp (maxSteps := 1000000) (disch := first | omega | (simp; done) | (simp; omega)) [z7a, z1a, z0a, c2, kT, kF, z2L, hl, hkl, hvc', ko, ko']
 refine z3a fun Q1 hQ1 => ?_
 refine z7d (fun a : Nat × List z0f => ⟨[(2, .ep [i64 vt, i64 vm, i64 ve, i64 vn, .sl .plain nk vk.length (z0b vk)]), (3, .ep (z7k nc nm ng x)), (0, .agg [i64 vt, i64 vm, i64 ve, i64 vn, .sl .plain nk vk.length (z0b vk)]), (1, .agg (z7k nc nm ng x))], [(4, .bp 4 0), (7, .sl (.own 24) none a.2.length (z0b a.2)), (8, i64 a.1)], [(4, some [i64 0, i64 0, i64 0, i64 0, .sl .plain none 0 []])]⟩)
  (fun a => x.gone.length - a.1) (fun a => a.1 ≤ x.gone.length ∧ z4d a.2 ∧ a.2.length ≤ 1000000 ∧ z60 x.gone vk = z60 (x.gone.drop a.1) a.2) (0, vk) (by simp) (by simp; exact ⟨k16, kl⟩) fun ⟨i, l⟩ hi => ?_
 obtain ⟨hi, l16, ll, hgo⟩ := hi
 simp only at hi l16 ll hgo ⊢
 refine z3a fun Q2 hQ2 => ?_
 have hil := z7Oa x.gone
 have hll := z0d (z6b l16)
 by_cases hg : i < x.gone.length
 ·have ha := z1Oa hg
  have ha' := z1db hg
  have hgd := z1Ga hg l
  generalize x.gone.getD i 0 = k at *
  have p1 := z9Oa (nl := some false) k l16 ll
  have q1 := z7oa (some false) k l16
  have p1' := z9Oa (nl := none) k l16 ll
  have q1' := z7oa none k l16
  rw [z5Ja] at q1 q1'
  by_cases hp : z6X l k < l.length
  ·rw [if_pos hp] at q1 q1'
   rw [z3Rb hp] at hgd
   have l16' : z4d (l.eraseIdx (z6X l k)) := fun m hm => l16 m (List.mem_of_mem_eraseIdx hm)
   have le' : (l.eraseIdx (z6X l k)).length = l.length - 1 := List.length_eraseIdx_of_lt hp
   have t1 := z9Sa l16 (z6X l k)
   have t2 := z8Pa l16 (z6X l k + 1)
   have L1 : (z0b (l.take (z6X l k))).length = z6X l k * 24 := by rw [z0d (z6b fun m hm => l16 m (List.mem_of_mem_take hm)), List.length_take, Nat.min_eq_left (by omega)]
   have L2 : (z0b (l.drop (z6X l k + 1))).length = (l.length - (z6X l k + 1)) * 24 := by rw [z0d (z6b fun m hm => l16 m (List.mem_of_mem_drop hm)), List.length_drop]
   have t3 : (z0b (l.drop (z6X l k + 1))).take ((l.length - (z6X l k + 1)) * 24) = z0b (l.drop (z6X l k + 1)) := List.take_of_length_le (by omega)
   have hc : ∀ l : List z0f, ∀ c ∈ z0b l, z5f c = true ∧ z5d c := fun l c hc => by
    obtain ⟨m, _, h⟩ := List.mem_flatMap.1 hc
    exact z5F c h
   simp (maxSteps := 1000000) (disch := first | omega | (simp; done) | (simp; omega)) [z7a, z1a, z0a, z9n, z3t, z4H, hg, hl, e29, ha, ha', hil, hll, h336, p1, q1, p1', q1', t1, t2, t3, L1, L2, kT, kF, dT, dF, hQ2]
   exact ⟨by omega, by omega, ⟨by omega, by omega, hc _⟩, ⟨by omega, by omega⟩, ⟨by omega, by omega, hc _⟩, i + 1, by omega, l.eraseIdx (z6X l k), ⟨by omega, l16', by omega, by rw [hgo, hgd]; rfl⟩, ⟨by omega, by rw [List.eraseIdx_eq_take_drop_succ, z43]⟩, by omega⟩
  ·rw [if_neg hp] at q1 q1'
   rw [z7Vb hp] at hgd
   rw [hgo, hgd] at hR
   simp only [Option.bind_none] at hR
   subst hR
   simp (maxSteps := 1000000) (disch := first | omega | (simp; done) | (simp; omega)) [z7a, z1a, z0a, z9n, z3t, hg, hl, e29, ha, ha', hil, hll, h336, p1, q1, p1', q1', kT, kF, dT, dF, hQ2, hQ1, hQ0, z6Cb, z9A, z3n, z6m, z5B]
   omega
 ·have hie : i = x.gone.length := by omega
  subst hie
  rw [List.drop_length, z60] at hgo
  rw [hgo] at hR
  simp only [Option.bind_some] at hR
  simp (maxSteps := 1000000) (disch := first | omega | (simp; done) | (simp; omega)) [z7a, z1a, z0a, z9n, hg, hl, e29, hil, kT, kF, dT, dF, hQ2, hQ1]
  simp only [z0L]
  refine z2s fun B hB => ?_
  have d1 : (z7k nc nm ng x).drop 5 = i64 x.cmd.key :: (z7k nc nm ng x).drop 6 := rfl
  by_cases hk : x.kind = 13
  ·have p1 := z9Oa (nl := some false) x.cmd.key l16 ll
   have q1 := z7oa (some false) x.cmd.key l16
   have p1' := z9Oa (nl := none) x.cmd.key l16 ll
   have q1' := z7oa none x.cmd.key l16
   rw [z5Ja] at q1 q1'
   by_cases hp : z6X l x.cmd.key < l.length
   ·rw [if_pos hp] at q1 q1'
    simp (maxSteps := 1000000) (disch := first | omega | (simp; done) | (simp; omega)) [z7a, z1a, z0a, hl, hk, hll, h336, p1, q1, p1', q1', kT, kF, dT, dF]
    rw [z6L, z1Xa]
    refine ⟨?_, fun m => ?_⟩
    ·simp [z2za, z7Ba]
     omega
    rw [z6lb (k := 24) (n := l.length) (nl := none) (cs := z0b l) (by simp), z4Tb]
    have lc : l.length ≤ l.length + m := by omega
    generalize l.length + m = c at *
    have hrl := z3ga l16 lc
    have r2 := z39a (c := c) l16 hp
    have rs := fun z => z5cb (c := c) l16 hp z
    generalize hlu : l.set (z6X l x.cmd.key) { atD l (z6X l x.cmd.key) with uses := z5hb (atD l (z6X l x.cmd.key)).uses 176 } = lu at *
    have l16' : z4d lu := fun m hm => by
     rw [← hlu] at hm
     rcases List.mem_or_eq_of_mem_set hm with h | h
     ·exact l16 m h
     ·have := l16 _ (z4fa hp)
      rw [h]
      exact ⟨this.1, this.2.1, z1Ja _ _, this.2.2.2⟩
    have llu : lu.length = l.length := by rw [← hlu, List.length_set]
    have hrt := z6Da l16' c
    have hrl' := z3ga l16' (by omega : lu.length ≤ c)
    have hm := z7Ba lu
    rw [llu] at hrt
    simp (maxSteps := 1000000) (disch := first | omega | (simp; done) | (simp; omega)) [z7a, z1a, z0a, hrl, hrl', r2, rs, hlu, hrt, z4lc, hm, z6ma]
    refine ⟨hp, by omega, hp, by omega, lc, ?_⟩
    have hz : z8ra x l = some lu := by simp [z8ra, hk, hp, z0Jc, z4ba hp, ← hlu]
    rw [hz] at hR
    rw [hB]; clear hB
    rw [hQ0, ← hR]
    have hat := z4kb E (nk := nk) (nc := nc) (nm := nm) (ng := ng) (vt := vt) (vm := vm) (ve := ve) (vn := vn) (vk := vk) (a0 := .agg [i64 vt, i64 vm, i64 ve, i64 vn, .sl .plain nk vk.length (z0b vk)]) (a1 := .agg (z7k nc nm ng x)) hx l16' (by omega) ke0 ke1 kn0 kn1
    rw [llu] at hat
    exact hat
   ·rw [if_neg hp] at q1 q1'
    have hz : z8ra x l = none := by simp [z8ra, hk, hp]
    rw [hz] at hR
    subst hR
    simp (maxSteps := 1000000) (disch := first | omega | (simp; done) | (simp; omega)) [z7a, z1a, z0a, hl, hk, hll, h336, p1, q1, p1', q1', kT, kF, dT, dF, hQ0, z6Cb, z9A, z3n, z6m, z5B]
    skip
  ·have hz : z8ra x l = some l := by simp [z8ra, hk]
   rw [hz] at hR
   simp (maxSteps := 1000000) (disch := first | omega | (simp; done) | (simp; omega)) [z7a, z1a, z0a, hl, hk, kT, kF, dT, dF]
   rw [hB]; clear hB
   rw [hQ0, ← hR]
   exact z4kb E (nk := nk) (nc := nc) (nm := nm) (ng := ng) (vt := vt) (vm := vm) (ve := ve) (vn := vn) (vk := vk) hx l16 ll ke0 ke1 kn0 kn1
end Go.Abs
end
