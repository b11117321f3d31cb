/- Lemmas: an abstract interpreter, and what the functions compute. -/
import Derived.Test.YtkccmbjmlpnejaaDoorS
import Derived.Test.YtkccmbjmlpnejaaDoorP
import Derived.Test.YtkccmbjmlpnejaaDoorQ
import Derived.Test.YtkccmbjmlpnejaaDoorR
import Derived.Test.YtkccmbjmlpnejaaDoorD
import Derived.Test.YtkccmbjmlpnejaaDoorE
import Derived.Test.YtkccmbjmlpnejaaDoorW
import Derived.Test.YtkccmbjmlpnejaaDoorX
set_option linter.unusedSimpArgs false
set_option linter.unusedVariables false
set_option linter.unusedSectionVars false
section
namespace Go.Abs
set_option maxRecDepth 100000
end Go.Abs
end

section
namespace Go.Abs
set_option maxRecDepth 100000
end Go.Abs
end

section
namespace Go.Abs
set_option maxRecDepth 100000
end Go.Abs
end

section
namespace Go.Abs
theorem z2pa {α : Type} {e : GT} {enc : α → List z2a} {P : α → Prop} (he : ∀ cs, e.has cs → ∃ a, P a ∧ cs = enc a) {cs : List z2a} (h : (GT.sl e).has cs) : ∃ l : List α, (∀ a ∈ l, P a) ∧ cs = [.sl .plain none l.length (l.flatMap enc)] := by
 obtain ⟨ess, h1, rfl, h3⟩ := h
 suffices H : ∃ l : List α, (∀ x ∈ l, P x) ∧ l.length = ess.length ∧ ess.flatten = l.flatMap enc by
  obtain ⟨l, k1, k2, k3⟩ := H
  exact ⟨l, k1, by rw [k2, k3]⟩
 clear h3
 induction ess with
 | nil => exact ⟨[], by simp, rfl, rfl⟩
 | cons c ess ih =>
  obtain ⟨l, k1, k2, k3⟩ := ih fun c hc => h1 c (by simp [hc])
  obtain ⟨x, a0, rfl⟩ := he c (h1 c (by simp))
  refine ⟨x :: l, fun y hy => ?_, by simp [k2], by simp [k3]⟩
  rcases List.mem_cons.1 hy with rfl | hy
  ·exact a0
  ·exact k1 y hy
theorem z6Wa (l : List Int) : (l.flatMap fun x : Int => [i64 x]) = z6j l := by
 induction l with
 | nil => rfl
 | cons a l ih => rw [List.flatMap_cons, ih]; rfl
theorem z4Cb {cs : List z2a} (h : (GT.st [.int .i64, .int .i64, .int .i64, .int .i64, .int .i64, .int .i64, .str, .sl (.int .i64)]).has cs) : ∃ c : Cmd, c.ok ∧ cs = z2o c none := by
 simp only [GT.has, GT.hasL] at h
 obtain ⟨a1, r1, rfl, h1, a2, r2, rfl, h2, a3, r3, rfl, h3, a4, r4, rfl, h4, a5, r5, rfl, h5, a6, r6, rfl, h6, a7, r7, rfl, h7, a8, r8, rfl, h8, rfl⟩ := h
 obtain ⟨k1, x1, y1, rfl⟩ := z8s (by simpa only [GT.has] using h1)
 obtain ⟨k2, x2, y2, rfl⟩ := z8s (by simpa only [GT.has] using h2)
 obtain ⟨k3, x3, y3, rfl⟩ := z8s (by simpa only [GT.has] using h3)
 obtain ⟨k4, x4, y4, rfl⟩ := z8s (by simpa only [GT.has] using h4)
 obtain ⟨k5, x5, y5, rfl⟩ := z8s (by simpa only [GT.has] using h5)
 obtain ⟨k6, x6, y6, rfl⟩ := z8s (by simpa only [GT.has] using h6)
 obtain ⟨s, rfl⟩ := z10b (by simpa only [GT.has] using h7)
 obtain ⟨l, hl, e8⟩ := z2pa (enc := fun x : Int => [i64 x]) (P := z6k) (fun cs hc => by
  obtain ⟨x, x0, x1, rfl⟩ := z8s hc
  exact ⟨x, ⟨x0, x1⟩, rfl⟩) (by simpa only [GT.has] using h8)
 subst e8
 have : (l.flatMap fun x : Int => [i64 x]) = z6j l := z6Wa l
 rw [this]
 exact ⟨⟨k1, k2, k3, k4, k5, k6, s, l⟩, ⟨⟨x1, y1⟩, ⟨x2, y2⟩, ⟨x3, y3⟩, ⟨x4, y4⟩, ⟨x5, y5⟩, ⟨x6, y6⟩, hl⟩, rfl⟩
def z4Hc : GT := .st [.int .i64, .int .i64, .int .i64, .int .i64, .int .i64, .int .i64, .str, .sl (.int .i64)]
def z29c : GT := .st [.int .i64, .int .i64, .int .i64, .int .i64, .int .i64, .int .i64, .int .i64, .bool, .arr 16 (.int .u8)]
theorem z79b (cs : List z2a) (h : z29c.has cs) : ∃ m : z0f, m.ok ∧ cs = z2q m := by
 simp only [z29c, GT.has, GT.hasL] at h
 obtain ⟨a1, r1, rfl, h1, a2, r2, rfl, h2, a3, r3, rfl, h3, a4, r4, rfl, h4, a5, r5, rfl, h5, a6, r6, rfl, h6, a7, r7, rfl, h7, a8, r8, rfl, h8, a9, r9, rfl, h9, rfl⟩ := h
 obtain ⟨k1, x1, y1, rfl⟩ := z8s (by simpa only [GT.has] using h1)
 obtain ⟨k2, x2, y2, rfl⟩ := z8s (by simpa only [GT.has] using h2)
 obtain ⟨k3, x3, y3, rfl⟩ := z8s (by simpa only [GT.has] using h3)
 obtain ⟨k4, x4, y4, rfl⟩ := z8s (by simpa only [GT.has] using h4)
 obtain ⟨k5, x5, y5, rfl⟩ := z8s (by simpa only [GT.has] using h5)
 obtain ⟨k6, x6, y6, rfl⟩ := z8s (by simpa only [GT.has] using h6)
 obtain ⟨k7, x7, y7, rfl⟩ := z8s (by simpa only [GT.has] using h7)
 obtain ⟨b, rfl⟩ := z6Lb (by simpa only [GT.has] using h8)
 obtain ⟨d, hd, rfl⟩ := z0ab (n := 16) (by simpa only [GT.has] using h9)
 exact ⟨⟨k1, k2, k3, k4, k5, k6, k7, b, d⟩, ⟨⟨x1, y1⟩, ⟨x2, y2⟩, ⟨x3, y3⟩, ⟨x4, y4⟩, ⟨x5, y5⟩, ⟨x6, y6⟩, ⟨x7, y7⟩, hd⟩, by simp [z2q]⟩
def z4Vc : GT := .st [.int .i64, .int .i64, .int .i64, .int .i64, z4Hc, .arr 16 (.int .u8), .sl z29c, .sl (.int .i64)]
theorem z4qb {cs : List z2a} (h : (GT.sl (.int .i64)).has cs) : ∃ l : List Int, (∀ x ∈ l, z6k x) ∧ cs = [.sl .plain none l.length (z6j l)] := by
 obtain ⟨l, hl, e8⟩ := z2pa (enc := fun x : Int => [i64 x]) (P := z6k) (fun cs hc => by
  obtain ⟨x, x0, x1, rfl⟩ := z8s hc
  exact ⟨x, ⟨x0, x1⟩, rfl⟩) h
 subst e8
 have : (l.flatMap fun x : Int => [i64 x]) = z6j l := z6Wa l
 rw [this]
 exact ⟨l, hl, rfl⟩
theorem z3fc {cs : List z2a} (h : z4Vc.has cs) : ∃ x : z3s, x.ok ∧ cs = z7k none none none x := by
 rw [z4Vc, GT.has] at h
 simp only [GT.hasL] at h
 obtain ⟨a1, r1, rfl, h1, a2, r2, rfl, h2, a3, r3, rfl, h3, a4, r4, rfl, h4, a5, r5, rfl, h5, a6, r6, rfl, h6, a7, r7, rfl, h7, a8, r8, rfl, h8, rfl⟩ := h
 obtain ⟨k1, x1, y1, rfl⟩ := z8s h1
 obtain ⟨k2, x2, y2, rfl⟩ := z8s h2
 obtain ⟨k3, x3, y3, rfl⟩ := z8s h3
 obtain ⟨k4, x4, y4, rfl⟩ := z8s h4
 obtain ⟨c, hc, rfl⟩ := z4Cb h5
 obtain ⟨d, hd, rfl⟩ := z0ab (n := 16) h6
 obtain ⟨m, hm, rfl⟩ := z2pa (enc := z2q) z79b h7
 obtain ⟨g, hg, rfl⟩ := z4qb h8
 exact ⟨⟨k1, k2, k3, k4, c, d, m, g⟩, ⟨⟨x1, y1⟩, ⟨x2, y2⟩, ⟨x3, y3⟩, ⟨x4, y4⟩, hc, hd, hm, hg⟩, by simp [z7k, z0b]⟩
end Go.Abs
end

section
namespace Go.Abs
end Go.Abs
end

section
namespace Go.Abs
set_option maxRecDepth 100000
def z6Ra (l : List z3s) : List z2a := l.flatMap (z7k none none none)
def z9yc (x : z3s) : Prop := x.dig.length = 16
theorem z0sb {l : List z3s} (h : ∀ x ∈ l, x.ok) : (z6Ra l).length = l.length * 30 := by
 induction l with
 | nil => rfl
 | cons a l ih =>
  have := ih fun m hm => h m (by simp [hm])
  rw [z6Ra] at this ⊢
  rw [List.flatMap_cons, List.length_append, this, z6d (h a (by simp)).2.2.2.2.2.1, List.length_cons]; omega
theorem z0Ob {l : List z3s} (h : ∀ x ∈ l, x.ok) {i : Nat} (hi : i < l.length) : ((z6Ra l).drop (i * 30)).take 30 = z7k none none none l[i] := by
 have e1 := z9ha (enc := z7k none none none) (P := z9yc) (w := 30) (fun a ha => z6d ha) l i (fun a ha => (h a ha).2.2.2.2.2.1)
 rw [show z6Ra l = l.flatMap (z7k none none none) from rfl, e1, List.drop_eq_getElem_cons hi, List.flatMap_cons, List.take_left' (z6d (h _ (List.getElem_mem hi)).2.2.2.2.2.1)]
@[simp] theorem z4qc (l : List z3s) : z7h (z6Ra l) = true := by
 refine (z5n _).2 fun c hc => ?_
 obtain ⟨m, _, h⟩ := List.mem_flatMap.1 hc
 exact (z5n _).1 (z6Ta none none none m) c h
structure vwI (i : Nat) (v : z4q) : Prop where
 k : z4d v.keys
 n : v.keys.length ≤ i * 40
 t : z6k v.time
 e : 0 ≤ v.ents ∧ v.ents ≤ i
 x : 0 ≤ v.next ∧ v.next ≤ z9la
theorem z5Hc {i : Nat} {v : z4q} (h : vwI i v) (hi : i ≤ 30) : vOk v := by
 obtain ⟨h1, h2, h3, ⟨h4, h5⟩, h6⟩ := h
 exact ⟨h1, by omega, h3, ⟨h4, by omega⟩, h6⟩
theorem z8zb {i : Nat} {v : z4q} (h : vwI i v) : vwI (i + 1) v := by
 obtain ⟨h1, h2, h3, ⟨h4, h5⟩, h6⟩ := h
 exact ⟨h1, by omega, h3, ⟨h4, by omega⟩, h6⟩
theorem z12b {m : z0f} (h : m.ok) : (z0Jc m).ok := by
 obtain ⟨h1, h2, h3, h4⟩ := h
 exact ⟨h1, h2, z1Ja _ _, h4⟩
theorem z3Ub {v : z4q} {x : z3s} (hv : z4d v.keys) (hx : z4d x.made) : z4d (z3va v x).v.keys ∧ (z3va v x).v.keys.length ≤ v.keys.length + x.made.length := by
 unfold z3va
 split
 rotate_left
 ·exact ⟨fun m hm => (by cases hm), by simp [z9A]⟩
 split
 ·exact ⟨fun m hm => (by cases hm), by simp [z9A]⟩
 cases hg : z60 x.gone v.keys with
 | none => exact ⟨fun m hm => (by cases hm), by simp [z9A]⟩
 | some l =>
  have hsub := z9cb hg
  cases hr : z8ra x l with
  | none => simp only [Option.bind_some, hr]; exact ⟨fun m hm => (by cases hm), by simp [z9A]⟩
  | some l2 =>
   simp only [Option.bind_some, hr]
   have hlen : l2.length = l.length := by have := congrArg List.length (z7ec hr); simpa using this
   split
   ·split
    ·exact ⟨fun m hm => (by cases hm), by simp [z9A]⟩
    ·refine ⟨fun m hm => ?_, ?_⟩
     ·rcases List.mem_append.1 hm with hm | hm
      ·rcases z9gc hr hm with hm | ⟨_, o, ho, _, rfl⟩
       ·exact hv m (hsub.subset hm)
       ·exact z12b (hv o (hsub.subset ho))
      ·exact hx m hm
     ·have := hsub.length_le
      simp only [List.length_append]; omega
   ·exact ⟨fun m hm => (by cases hm), by simp [z9A]⟩
theorem z4Ob {i : Nat} {v : z4q} {x : z3s} (h : vwI i v) (hx : x.ok) (hf : z38a x = true) (he : (z3va v x).e = 0) : vwI (i + 1) (z3va v x).v := by
 obtain ⟨k1, k2⟩ := z3Ub h.k hx.2.2.2.2.2.2.1
 have hm : x.made.length ≤ 40 := by simp only [z38a, Bool.and_eq_true, decide_eq_true_eq] at hf; exact hf.1.1.1
 obtain ⟨h1, h2, h3, ⟨h4, h5⟩, h6⟩ := h
 refine ⟨k1, by omega, ?_, ?_, ?_⟩
 all_goals
  unfold z3va at he ⊢
  by_cases c1 : okE x = true
  ·rw [if_pos c1] at he ⊢
   by_cases c2 : x.time < v.time
   ·rw [if_pos c2] at he; cases he
   ·rw [if_neg c2] at he ⊢
    cases hg : (z60 x.gone v.keys).bind (z8ra x) with
    | none => rw [hg] at he; cases he
    | some l2 =>
     rw [hg] at he
     simp only at he ⊢
     by_cases c3 : z5gb x.made v.next = true
     ·rw [if_pos c3] at he ⊢
      by_cases c4 : z9la < v.next + x.made.length
      ·rw [if_pos c4] at he; cases he
      ·rw [if_neg c4]
       first
       | exact hx.1
       | exact ⟨by show 0 ≤ v.ents + 1; omega, by show v.ents + 1 ≤ _; omega⟩
       | exact ⟨by show 0 ≤ v.next + _; omega, by show v.next + _ ≤ _; omega⟩
     ·rw [if_neg c3] at he; cases he
  ·rw [if_neg c1] at he; cases he
theorem z37c : vwI 0 z5Ea := ⟨fun m hm => (by cases hm), by simp [z5Ea], ⟨by decide, by decide⟩, by decide, by decide⟩
def z1xb : z5a := ⟨fun ds => ∃ (l : List z3s) (now : Int), (∀ x ∈ l, x.ok) ∧ z6k now ∧ ds = [.sl .plain none l.length (z6Ra l), i64 now], fun _ => bo true⟩
set_option maxHeartbeats 16000000 in
theorem z2Hb (E : Env) (h342 : E.G 342 = z6hc) (h341 : E.G 341 = z82a) (h304 : E.G 304 = z5ib) (h335 : E.G 335 = z5ib) (h310 : E.G 310 = z6ib) (h337 : E.G 337 = z6ib) (h339 : E.G 339 = z92a) (h311 : E.G 311 = z6fb) (h340 : E.G 340 = z6fb) (h338 : E.G 338 = z66) : ∀ ds, z1xb.pre ds → ds.length = z1d.n ∧ awp E z1d.body (z9u z1d.res (z1xb.post ds)) (z8c z1d.wr ds) := by
 rintro _ ⟨l, now, hl, hn, rfl⟩
 show _ ∧ awp E _ (z9u _ (bo true)) _
 have hlen := z0sb hl
 by_cases h30 : l.length ≤ 30
 rotate_left
 ·have i30 : 30 < (l.length : Int) := by omega
  simp (maxSteps := 1000000) (disch := first | omega | (simp; done) | (simp; omega)) [z7a, z1a, z0a, z1d, h342, i30, kT, kF, dT, dF]
  skip
 have i30 : ¬ 30 < (l.length : Int) := by omega
 have vs (nk : Option Bool) (v : z4q) (a b c d e : z2a) : splice [a, b, c, d, e] 0 (z2g nk v) = z2g nk v := rfl
 have vp (nk : Option Bool) (v : z4q) : z7h (z2g nk v) = true := by simp [z2g]
 have vl (nk : Option Bool) (v : z4q) : (z2g nk v).length = 5 := rfl
 have vtk (nk : Option Bool) (v : z4q) : (z2g nk v).take 5 = z2g nk v := rfl
 have vc (nk : Option Bool) (v : z4q) : (∀ c ∈ z2g nk v, z5d c) = True := eq_true (by intro c hc; simp only [z2g, List.mem_cons, List.not_mem_nil, or_false] at hc; rcases hc with rfl | rfl | rfl | rfl | rfl <;> trivial)
 have vt (nk : Option Bool) (v : z4q) : (∀ c ∈ z2g nk v, z2f c = false) = True := eq_true (by intro c hc; simp only [z2g, List.mem_cons, List.not_mem_nil, or_false] at hc; rcases hc with rfl | rfl | rfl | rfl | rfl <;> rfl)
 have vss (nk nk' : Option Bool) (v v' : z4q) : splice (z2g nk v) 0 (z2g nk' v') = z2g nk' v' := rfl
 have vr (nk : Option Bool) (v : z4q) : z2i (z2g nk v) = [] := rfl
 simp (maxSteps := 1000000) (disch := first | omega | (simp; done) | (simp; omega)) [z7a, z1a, z0a, z1d, z1u, i30, h304, h335, vs, vp, vl, vtk, vc, vt, kT, kF, dT, dF]
 refine z3a fun Q0 hQ0 => ?_
 refine z7d (fun a : Nat × z4q => ⟨[(0, .sl .plain none l.length (z6Ra l)), (1, i64 now)], [(5, .bp 5 0), (6, .bp 6 0), (7, i64 a.1)], [(5, some (z2g none a.2)), (6, some (z2g none a.2))]⟩)
  (fun a => l.length - a.1) (fun a => a.1 ≤ l.length ∧ vwI a.1 a.2) (0, z5Ea) (by simp) ⟨by simp, z37c⟩ fun ⟨i, v⟩ hi => ?_
 obtain ⟨hi, hv⟩ := hi
 simp only at hi hv ⊢
 refine z3a fun Q1 hQ1 => ?_
 by_cases h1 : i < l.length
 ·have hx := hl _ (List.getElem_mem h1)
  have hat := z0Ob hl h1
  generalize l[i] = x at *
  have hdx := hx.2.2.2.2.2.1
  have hex := z6d (nc := none) (nm := none) (ng := none) hdx
  have htx := z8q (nc := none) (nm := none) (ng := none) hdx
  have le1 : 30 ≤ l.length * 30 - i * 30 := by omega
  have le2 : i * 30 ≤ l.length * 30 := by omega
  have fx := z3Qb (nc := none) (nm := none) (ng := none) hx
  have gx := z4Ra (nc := none) (nm := none) (ng := none) hx
  cases e1 : z38a x with
  | false =>
   rw [e1] at gx
   simp (maxSteps := 1000000) (disch := first | omega | (simp; done) | (simp; omega)) [z7a, z1a, z0a, z7g, z3j, h1, hlen, hat, hex, htx, le1, le2, h342, h341, fx, gx, kT, kF, dT, dF, hQ1, hQ0]
   skip
  | true =>
   rw [e1] at gx
   have hs := z4ib hx e1
   have hvo := z5Hc hv (by omega)
   have p := z0Ca (nk := none) (nc := none) (nm := none) (ng := none) hvo hs
   have q := z0ba (nk := none) (nc := none) (nm := none) (ng := none) hvo hs
   obtain ⟨k1, k2⟩ := z3Ub hv.k hx.2.2.2.2.2.2.1
   have hml : x.made.length ≤ 40 := by simp only [z38a, Bool.and_eq_true, decide_eq_true_eq] at e1; exact e1.1.1.1
   have hvn := hv.n
   have hnx := fun he => z4Ob hv hx e1 he
   generalize z3va v x = A at *
   obtain ⟨av, ae⟩ := A
   simp only at k1 k2 hnx p q
   have sp := z09a (nk := none) (nk' := none) k1 k1 (by omega)
   have sq := z1Ba none none k1 k1
   rw [z3Pa.2 rfl] at sq
   by_cases he : ae = 0
   ·simp (maxSteps := 1000000) (disch := first | omega | (simp; done) | (simp; omega)) [z7a, z1a, z0a, z7g, z3j, z8m, z2n, h1, hlen, hat, hex, htx, le1, le2, h341, fx, gx, h310, h337, h339, p, q, sp, sq, he, vs, vp, vl, vtk, vc, vt, vss, vr, kT, kF, dT, dF, hQ1]
    exact ⟨i + 1, by omega, av, ⟨by omega, hnx he⟩, by omega, rfl⟩
   ·simp (maxSteps := 1000000) (disch := first | omega | (simp; done) | (simp; omega)) [z7a, z1a, z0a, z7g, z3j, z8m, z2n, h1, hlen, hat, hex, htx, le1, le2, h341, fx, gx, h310, h337, h339, p, q, sp, sq, he, vs, vp, vl, vtk, vc, vt, vss, vr, kT, kF, dT, dF, hQ1]
    exact ⟨i + 1, by omega, v, ⟨by omega, z8zb hv⟩, by omega, rfl⟩
 ·have hie : i = l.length := by omega
  subst hie
  have hk := hv.k
  have hvn := hv.n
  have sp := z09a (nk := none) (nk' := none) hk hk (by omega)
  have sq := z1Ba none none hk hk
  rw [z3Pa.2 rfl] at sq
  have p := z90a (nk := none) now hk (by omega)
  have q := z7ma (nk := none) now hk
  have hkl : z4d (z4xa v now) := fun m hm => hk m (List.mem_filter.1 hm).1
  have hll : (z4xa v now).length ≤ 1000000 := Nat.le_trans (List.length_filter_le _ _) (by omega)
  have mp := z4za (nl := none) (nl' := none) hkl hkl hll
  have mq := z75 none none hkl hkl
  rw [decide_eq_true rfl] at mq
  generalize z4xa v now = L at *
  simp (maxSteps := 1000000) (disch := first | omega | (simp; done) | (simp; omega)) [z7a, z1a, z0a, z7g, z7u, h1, h342, h311, h340, h338, h339, p, q, sp, sq, mp, mq, vl, vtk, vp, vc, vt, kT, kF, dT, dF, hQ1, hQ0]
  skip
end Go.Abs
end

section
namespace Go.Abs
set_option maxRecDepth 100000
end Go.Abs
end

section
namespace Go.Abs
set_option maxRecDepth 100000
end Go.Abs
end

section
namespace Go.Abs
set_option maxRecDepth 100000
end Go.Abs
end

section
namespace Go.Abs
set_option maxRecDepth 100000
end Go.Abs
end

section
namespace Go.Abs
set_option maxRecDepth 100000
end Go.Abs
end

section
namespace Go.Abs
theorem z5Eb {cs : List z2a} (h : (GT.sl z4Vc).has cs) : ∃ l : List z3s, (∀ x ∈ l, x.ok) ∧ cs = [.sl .plain none l.length (z6Ra l)] :=
 z2pa (enc := z7k none none none) (fun _ hc => z3fc hc) h
theorem z7tb (as : List z2a) (h : z2kc [.sl z4Vc, .int .i64] as) : z1xb.pre as := by
 simp only [z2kc] at h
 obtain ⟨c0, _, rfl, h0, c1, _, rfl, h1, rfl⟩ := h
 obtain ⟨l, hl, rfl⟩ := z5Eb h0
 obtain ⟨n, n0, n1, rfl⟩ := z8s h1
 exact ⟨l, n, hl, ⟨n0, n1⟩, rfl⟩
end Go.Abs
end
