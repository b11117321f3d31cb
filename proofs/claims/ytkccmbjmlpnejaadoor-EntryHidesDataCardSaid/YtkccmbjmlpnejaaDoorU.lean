/- Lemmas: an abstract interpreter, and what the functions compute. -/
import Derived.Test.YtkccmbjmlpnejaaDoorS
import Derived.Test.YtkccmbjmlpnejaaDoorP
import Derived.Test.YtkccmbjmlpnejaaDoorQ
import Derived.Test.YtkccmbjmlpnejaaDoorR
import Derived.Test.YtkccmbjmlpnejaaDoorD
import Derived.Test.YtkccmbjmlpnejaaDoorE
set_option linter.unusedSimpArgs false
set_option linter.unusedVariables false
set_option linter.unusedSectionVars false
section
namespace Go.Abs
set_option maxRecDepth 100000
theorem z5Fa (x : z6w) : z2L x x = true := (z9Ba x x).2 rfl
theorem z9wa {now req mode : Int} {c : Cmd} {made : List z4j} {gone : List Int} (hn : z3f now) (hr : z3f req) (hm : z3f mode) (hc : c.small) (h1 : z8o made) (h2 : ∀ n ∈ gone, z3f n) (h3 : made.length ≤ 1000000) (h4 : gone.length ≤ 1000000) : (mkE now c req mode made gone).small := by
 have hd : (z2p 7 [z3P c]).length = 16 := z8m _ _
 have hs := z4ga hc
 unfold mkE
 generalize z2p 7 [z3P c] = D at *
 generalize z4la c = c' at *
 exact ⟨⟨hn, hc.1.1, hr, hm, hs.1, hd, h1, h2⟩, hs, h3, h4⟩
theorem z09a {x : z6w} (hx : x.small) : (z08 x).length ≤ 2200000000 := by
 have h1 := z3Ca hx
 have h2 := z1ga hx.1.2.2.2.2.2.2.1
 have h3 := z7V hx.1.2.2.2.2.2.2.2 (by have := hx.2.2.2; omega)
 have h4 := hx.2.2.1
 have h5 := hx.2.2.2
 rw [z8Ra, List.length_append, List.length_append]
 omega
def z6hb : z4a := ⟨fun ds => ∃ (x y : z6w) (c : Cmd), x.ok ∧ y.ok ∧ c.ok ∧ ds = [.agg (z5k none none none x), .agg (z5k none none none y), .agg (z2k c none)], fun _ => bo true⟩
set_option maxHeartbeats 16000000 in
theorem z7Gb (E : Env) (h342 : E.G 342 = z7Kb) (h341 : E.G 341 = z2Qa) (h292 : E.G 292 = z8Wa) (h328 : E.G 328 = z72a) (h329 : E.G 329 = z8ha) (h289 : E.G 289 = z5ka) (h327 : E.G 327 = z2Na) (h149 : E.G 149 = z4X) (h294 : E.G 294 = z17a) (h330 : E.G 330 = z17a) (h300 : E.G 300 = z9Ya) (h331 : E.G 331 = z9Ya) (h299 : E.G 299 = z8ha) (h302 : E.G 302 = z1ia) (h333 : E.G 333 = z1ia) (h303 : E.G 303 = z4oa) (h334 : E.G 334 = z4oa) : ∀ ds, z6hb.pre ds → ds.length = z0b.n ∧ awp E z0b.body (z9t z0b.res (z6hb.post ds)) (z6c z0b.wr ds) := by
 rintro _ ⟨x, y, c, hx, hy, hc, rfl⟩
 show _ ∧ awp E _ (z9t _ (bo true)) _
 have fx := z7ua (nc := none) (nm := none) (ng := none) hx
 have gx := z5ea (nc := none) (nm := none) (ng := none) hx
 have fy := z7ua (nc := none) (nm := none) (ng := none) hy
 have gy := z5ea (nc := none) (nm := none) (ng := none) hy
 have hdx := hx.2.2.2.2.2.1
 have hdy := hy.2.2.2.2.2.1
 have tx := z5m (nc := none) (nm := none) (ng := none) hdx
 have ty := z5m (nc := none) (nm := none) (ng := none) hdy
 have lx := z9c (nc := none) (nm := none) (ng := none) hdx
 have ly := z9c (nc := none) (nm := none) (ng := none) hdy
 have c7 : hdA ((z2k c none).drop 7) = .sl .plain none c.list.length (z3i c.list) := rfl
 have c6 : hdA ((z2k c none).drop 6) = st c.data := rfl
 cases e1 : z69a x with
 | false =>
  rw [e1] at gx
  simp (maxSteps := 1000000) (disch := first | omega | (simp; done) | (simp; omega)) [z7a, z1a, z0a, z0b, h342, h341, fx, gx, tx, ty, lx, ly, kT, kF, dT, dF]
  skip
 | true =>
  rw [e1] at gx
  cases e2 : z69a y with
  | false =>
   rw [e2] at gy
   simp (maxSteps := 1000000) (disch := first | omega | (simp; done) | (simp; omega)) [z7a, z1a, z0a, z0b, h342, h341, fx, gx, fy, gy, tx, ty, lx, ly, kT, kF, dT, dF]
   skip
  | true =>
   rw [e2] at gy
   by_cases h3 : c.list.length ≤ 40
   ·have i3 : ¬ 40 < (c.list.length : Int) := by omega
    by_cases h4 : c.data.length ≤ 500
    ·have i4 : ¬ 500 < (c.data.length : Int) := by omega
     have sx := z3ga hx e1
     have sy := z3ga hy e2
     have sc : c.small := ⟨hc, by omega, by omega⟩
     have h16 := hx.2.2.2.2.2.2.1
     have hgi := hx.2.2.2.2.2.2.2
     have e28 := z9ba (nc := none) (nm := none) (ng := none) hdx
     have e29 := z1fa (nc := none) (nm := none) (ng := none) hdx
     have hmake := z9wa (now := x.time) (req := x.req) (mode := x.mode) (made := x.made) (gone := x.gone) hx.1 hx.2.2.1 hx.2.2.2.1 sc h16 hgi sx.2.2.1 sx.2.2.2
     have hmode := z94 (t := x.time) (m := x.mode) hx.1 hx.2.2.2.1
     have m1 := z4za (now := x.time) (req := x.req) (mode := x.mode) (nc := none) (nm := none) (ng := none) sc h16 sx.2.2.1 sx.2.2.2
     have m2 := z6la (now := x.time) (req := x.req) (mode := x.mode) (c := c) (gone := x.gone) (nc := none) (nm := none) (ng := none) h16 x.gone.length
     have m3 := z3Bb (now := x.time) (req := x.req) (mode := x.mode) (nc := none) (nm := none) (ng := none) sc h16 sx.2.2.1 sx.2.2.2
     have m4 := z8Na (now := x.time) (req := x.req) (mode := x.mode) (c := c) (gone := x.gone) (nc := none) (nm := none) (ng := none) h16 x.gone.length
     have q1 := z4xa (nl := none) sc
     have q2 := z0pa c none
     have q3 := z6La (nl := none) sc
     have q4 := z7ma c none
     have q5 := z2ea (nl := none) (nl' := none) (z4ga sc) (z4ga sc)
     have q6 := z5Q (z4la c) (z4la c) none none
     rw [z1fb] at q6
     generalize hM : mkE x.time c x.req x.mode x.made x.gone = M at *
     generalize hN : z1sa x.time x.mode = N at *
     have hdM := hmake.1.2.2.2.2.2.1
     have hdN := hmode.1.2.2.2.2.2.1
     have tM := z5m (nc := none) (nm := none) (ng := none) hdM
     have lM := z9c (nc := none) (nm := none) (ng := none) hdM
     have p1 := z88 (nc := none) (nm := none) (ng := none) (nc' := none) (nm' := none) (ng' := none) hmake hmake
     have p2 := z3M (nc := none) (nm := none) (ng := none) (nc' := none) (nm' := none) (ng' := none) hmake hmake
     have p3 := z88 (nc := none) (nm := none) (ng := none) (nc' := none) (nm' := none) (ng' := none) hmode hmode
     have p4 := z3M (nc := none) (nm := none) (ng := none) (nc' := none) (nm' := none) (ng' := none) hmode hmode
     have p5 := z88 (nc := none) (nm := none) (ng := none) (nc' := none) (nm' := none) (ng' := none) sx sy
     have p6 := z3M (nc := none) (nm := none) (ng := none) (nc' := none) (nm' := none) (ng' := none) sx sy
     rw [z5Fa] at p2 p4
     have d1 := z3Ha (nc := none) (nm := none) (ng := none) sx
     have d2 := z1ha (nc := none) (nm := none) (ng := none) sx
     have d3 := z4ha (nc := none) (nm := none) (ng := none) sx
     have d4 := z2S (nc := none) (nm := none) (ng := none) sx
     have d5 := z2oa (nc := none) (nm := none) (ng := none) sx
     have d6 := z6X (nc := none) (nm := none) (ng := none) sx
     have dl : (z2p 8 [z08 x]).length = 16 := z8m _ _
     generalize z2p 8 [z08 x] = D at *
     generalize z08 x = e at *
     have deq := z1b dl dl
     simp (maxSteps := 1000000) (disch := first | omega | (simp; done) | (simp; omega)) [z7a, z1a, z0a, z0b, h342, h341, fx, gx, fy, gy, tx, ty, lx, ly, c7, c6, h3, h4, i3, i4, kT, kF, dT, dF]
     simp only [z9o]
     refine z9j fun B hB => ?_
     simp (maxSteps := 1000000) (disch := first | omega | (simp; done) | (simp; omega)) [z7a, z1a, z0a, h292, e28, e29, m1, m2, lx, z1j hdM, lM, tM]
     rw [hB]; clear hB
     refine z9j fun B hB => ?_
     simp (maxSteps := 1000000) (disch := first | omega | (simp; done) | (simp; omega)) [z7a, z1a, z0a, h328, e28, e29, m3, m4, lx, z1j hdM, lM, tM]
     rw [hB]; clear hB
     refine z9j fun B hB => ?_
     simp (maxSteps := 1000000) (disch := first | omega | (simp; done) | (simp; omega)) [z7a, z1a, z0a, h329, p1, p2, lM, tM]
     rw [hB]; clear hB
     refine z9j fun B hB => ?_
     simp (maxSteps := 1000000) (disch := first | omega | (simp; done) | (simp; omega)) [z7a, z1a, z0a, h289, h327, h149, h294, h330, h329, q1, q2, q3, q4, q5, q6, lx, hN, p3, p4, kT, kF, dT, dF]
     rw [hB]; clear hB
     simp (maxSteps := 1000000) (disch := first | omega | (simp; done) | (simp; omega)) [z7a, z1a, z0a, z7o, h342, h300, h331, h299, h329, h302, h333, h303, h334, p5, p6, d1, d2, d3, d4, d5, d6, deq, dl, tx, ty, lx, ly, kT, kF, dT, dF]
     skip
    ·have i4 : 500 < (c.data.length : Int) := by omega
     simp (maxSteps := 1000000) (disch := first | omega | (simp; done) | (simp; omega)) [z7a, z1a, z0a, z0b, h342, h341, fx, gx, fy, gy, tx, ty, lx, ly, c7, c6, h3, h4, i3, i4, kT, kF, dT, dF]
     skip
   ·have i3 : 40 < (c.list.length : Int) := by omega
    simp (maxSteps := 1000000) (disch := first | omega | (simp; done) | (simp; omega)) [z7a, z1a, z0a, z0b, h342, h341, fx, gx, fy, gy, tx, ty, lx, ly, c7, c6, h3, i3, kT, kF, dT, dF]
    skip
end Go.Abs
end

section
namespace Go.Abs
set_option maxRecDepth 100000
def z6tb : z4a := ⟨fun ds => ∃ (x y : z6w), x.ok ∧ y.ok ∧ ds = [.agg (z5k none none none x), .agg (z5k none none none y)], fun _ => bo true⟩
set_option maxHeartbeats 16000000 in
theorem z8yb (E : Env) (h342 : E.G 342 = z7Kb) (h341 : E.G 341 = z2Qa) (h329 : E.G 329 = z8ha) (h302 : E.G 302 = z1ia) (h303 : E.G 303 = z4oa) (h20 : E.G 20 = z2Ja) : ∀ ds, z6tb.pre ds → ds.length = z9b.n ∧ awp E z9b.body (z9t z9b.res (z6tb.post ds)) (z6c z9b.wr ds) := by
 rintro _ ⟨x, y, hx, hy, rfl⟩
 show _ ∧ awp E _ (z9t _ (bo true)) _
 have fx := z7ua (nc := none) (nm := none) (ng := none) hx
 have gx := z5ea (nc := none) (nm := none) (ng := none) hx
 have fy := z7ua (nc := none) (nm := none) (ng := none) hy
 have gy := z5ea (nc := none) (nm := none) (ng := none) hy
 have hdx := hx.2.2.2.2.2.1
 have hdy := hy.2.2.2.2.2.1
 have tx := z5m (nc := none) (nm := none) (ng := none) hdx
 have ty := z5m (nc := none) (nm := none) (ng := none) hdy
 have lx := z9c (nc := none) (nm := none) (ng := none) hdx
 have ly := z9c (nc := none) (nm := none) (ng := none) hdy
 cases e1 : z69a x with
 | false =>
  rw [e1] at gx
  simp (maxSteps := 1000000) (disch := first | omega | (simp; done) | (simp; omega)) [z7a, z1a, z0a, z9b, h342, h341, fx, gx, tx, ty, lx, ly, kT, kF, dT, dF]
  skip
 | true =>
  rw [e1] at gx
  cases e2 : z69a y with
  | false =>
   rw [e2] at gy
   simp (maxSteps := 1000000) (disch := first | omega | (simp; done) | (simp; omega)) [z7a, z1a, z0a, z9b, h342, h341, fx, gx, fy, gy, tx, ty, lx, ly, kT, kF, dT, dF]
   skip
  | true =>
   rw [e2] at gy
   have sx := z3ga hx e1
   have sy := z3ga hy e2
   have p1 := z88 (nc := none) (nm := none) (ng := none) (nc' := none) (nm' := none) (ng' := none) sx sy
   have p2 := z3M (nc := none) (nm := none) (ng := none) (nc' := none) (nm' := none) (ng' := none) sx sy
   have p3 := z4ha (nc := none) (nm := none) (ng := none) sx
   have p4 := z2S (nc := none) (nm := none) (ng := none) sx
   have p5 := z4ha (nc := none) (nm := none) (ng := none) sy
   have p6 := z2S (nc := none) (nm := none) (ng := none) sy
   have p7 := z2oa (nc := none) (nm := none) (ng := none) sx
   have p8 := z6X (nc := none) (nm := none) (ng := none) sx
   have p9 := z2oa (nc := none) (nm := none) (ng := none) sy
   have p10 := z6X (nc := none) (nm := none) (ng := none) sy
   have hA : z2L x y = decide (z08 x = z08 y) := by
    rw [Bool.eq_iff_iff, z9Ba, decide_eq_true_eq]
    exact ⟨fun h => by rw [h], z4Bb sx sy⟩
   have lA := z09a sx
   have lB := z09a sy
   have d1 : (z2p 8 [z08 x]).length = 16 := z8m _ _
   have d2 : (z2p 8 [z08 y]).length = 16 := z8m _ _
   rw [hA] at p2
   generalize z08 x = A at *
   generalize z08 y = B at *
   have q1 : z2Ja.pre [i64 8, .sl .plain (some false) 1 [st A]] = True := z1Ka (l := [A]) rfl (by rw [z4lc]; omega)
   have q2 : z2Ja.post [i64 8, .sl .plain (some false) 1 [st A]] = .agg (bys (z2p 8 [A])) := z1pa 8 _ 1 [A]
   have q3 : z2Ja.pre [i64 8, .sl .plain (some false) 1 [st B]] = True := z1Ka (l := [B]) rfl (by rw [z4lc]; omega)
   have q4 : z2Ja.post [i64 8, .sl .plain (some false) 1 [st B]] = .agg (bys (z2p 8 [B])) := z1pa 8 _ 1 [B]
   have eq := z1b d1 d2
   by_cases hAB : A = B
   ·subst hAB
    generalize z2p 8 [A] = D1 at *
    simp (maxSteps := 1000000) (disch := first | omega | (simp; done) | (simp; omega)) [z7a, z1a, z0a, z9b, h342, h341, fx, gx, fy, gy, tx, ty, lx, ly, h329, p1, p2, h302, p3, p4, p5, p6, h303, p7, p8, p9, p10, eq, d1, z1k, z0k, z9m, kT, kF, dT, dF]
    skip
   ·generalize z2p 8 [A] = D1 at *
    generalize z2p 8 [B] = D2 at *
    have hAB' : decide (A = B) = false := decide_eq_false hAB
    by_cases hD : D1 = D2
    ·subst hD
     simp (maxSteps := 1000000) (disch := first | omega | (simp; done) | (simp; omega)) [z7a, z1a, z0a, z9b, h342, h341, fx, gx, fy, gy, tx, ty, lx, ly, h329, p1, p2, hAB, h302, p3, p4, p5, p6, h303, p7, p8, p9, p10, eq, d1, h20, q1, q2, q3, q4, z1k, z0k, z9m, kT, kF, dT, dF]
     skip
    ·simp (maxSteps := 1000000) (disch := first | omega | (simp; done) | (simp; omega)) [z7a, z1a, z0a, z9b, h342, h341, fx, gx, fy, gy, tx, ty, lx, ly, h329, p1, p2, hAB, h302, p3, p4, p5, p6, h303, p7, p8, p9, p10, eq, d1, d2, hD, z1k, z0k, kT, kF, dT, dF]
     skip
end Go.Abs
end

section
namespace Go.Abs
set_option maxRecDepth 100000
def z8qb : z4a := ⟨fun ds => ∃ (c : Cmd) (s : List UInt8) (now req mode : Int), c.ok ∧ z3f now ∧ z3f req ∧ z3f mode ∧ ds = [.agg (z2k c none), st s, i64 now, i64 req, i64 mode], fun _ => bo true⟩
theorem z99b {nc nm ng : Option Bool} {x : z6w} {d : List UInt8} (h : x.dig.length = 16) (hd : d.length = 16) : splice (z5k nc nm ng x) 12 (bys d) = z5k nc nm ng { x with dig := d } := by
 have e : ∀ y : z6w, z5k nc nm ng y = ([i64 y.time, i64 y.kind, i64 y.req, i64 y.mode] ++ z2k y.cmd nc) ++ (bys y.dig ++ [.sl .plain nm y.made.length (z8d y.made), .sl .plain ng y.gone.length (z3i y.gone)]) := fun y => by simp [z5k]
 rw [e, z2T (by simp [z2k]), e]
 congr 1
 exact z54 (by rw [hd, h]) _
theorem z1Ub (a b c d e f g h x : z2a) : splice [a, b, c, d, e, f, g, h] 6 [x] = [a, b, c, d, e, f, x, h] := rfl
set_option maxHeartbeats 16000000 in
theorem z5Lb (E : Env) (h342 : E.G 342 = z7Kb) (h292 : E.G 292 = z8Wa) (h299 : E.G 299 = z8ha) : ∀ ds, z8qb.pre ds → ds.length = z3b.n ∧ awp E z3b.body (z9t z3b.res (z8qb.post ds)) (z6c z3b.wr ds) := by
 rintro _ ⟨c, s, now, req, mode, hc, hn, hr, hm, rfl⟩
 show _ ∧ awp E _ (z9t _ (bo true)) _
 have c7 : hdA ((z2k c none).drop 7) = .sl .plain none c.list.length (z3i c.list) := rfl
 have c6 : hdA ((z2k c none).drop 6) = st c.data := rfl
 have c8 : (z2k c none).length = 8 := rfl
 by_cases h3 : c.list.length ≤ 40
 ·have i3 : ¬ 40 < (c.list.length : Int) := by omega
  by_cases h4 : c.data.length ≤ 500
  ·have i4 : ¬ 500 < (c.data.length : Int) := by omega
   by_cases h5 : s.length ≤ 500
   ·have i5 : ¬ 500 < (s.length : Int) := by omega
    have hcs : c.small := ⟨hc, by omega, by omega⟩
    obtain ⟨k1, k2, k3, k4, k5, k6, dt, ls⟩ := c
    have hds : (⟨k1, k2, k3, k4, k5, k6, s, ls⟩ : Cmd).small := ⟨hc, by simp only; omega, by simp only at h3 ⊢; omega⟩
    have m1 : z8Wa.pre [i64 now, .agg (z2k ⟨k1, k2, k3, k4, k5, k6, dt, ls⟩ none), i64 req, i64 mode, .sl .plain (some true) 0 [], .sl .plain (some true) 0 []] = True := z4za (made := []) (gone := []) hcs (by intro m h; cases h) (by simp) (by simp)
    have m2 : z8Wa.post [i64 now, .agg (z2k ⟨k1, k2, k3, k4, k5, k6, dt, ls⟩ none), i64 req, i64 mode, .sl .plain (some true) 0 [], .sl .plain (some true) 0 []] = .agg (z5k none none none (mkE now ⟨k1, k2, k3, k4, k5, k6, dt, ls⟩ req mode [] [])) := z6la (made := []) (gone := []) (by intro m h; cases h) 0
    have m3 : z8Wa.pre [i64 now, .agg (z2k ⟨k1, k2, k3, k4, k5, k6, s, ls⟩ none), i64 req, i64 mode, .sl .plain (some true) 0 [], .sl .plain (some true) 0 []] = True := z4za (made := []) (gone := []) hds (by intro m h; cases h) (by simp) (by simp)
    have m4 : z8Wa.post [i64 now, .agg (z2k ⟨k1, k2, k3, k4, k5, k6, s, ls⟩ none), i64 req, i64 mode, .sl .plain (some true) 0 [], .sl .plain (some true) 0 []] = .agg (z5k none none none (mkE now ⟨k1, k2, k3, k4, k5, k6, s, ls⟩ req mode [] [])) := z6la (made := []) (gone := []) (by intro m h; cases h) 0
    have sx : (mkE now ⟨k1, k2, k3, k4, k5, k6, dt, ls⟩ req mode [] []).small := z9wa hn hr hm hcs (by intro m h; cases h) (by simp) (by simp) (by simp)
    have sy : (mkE now ⟨k1, k2, k3, k4, k5, k6, s, ls⟩ req mode [] []).small := z9wa hn hr hm hds (by intro m h; cases h) (by simp) (by simp) (by simp)
    have hk1 : z7La k1 = true → { mkE now ⟨k1, k2, k3, k4, k5, k6, s, ls⟩ req mode [] [] with dig := (mkE now ⟨k1, k2, k3, k4, k5, k6, dt, ls⟩ req mode [] []).dig } = mkE now ⟨k1, k2, k3, k4, k5, k6, dt, ls⟩ req mode [] [] ∧ (mkE now ⟨k1, k2, k3, k4, k5, k6, dt, ls⟩ req mode [] []).cmd.data = [] := by
     intro h
     simp [mkE, z4la, h]
    have hk2 : z7La k1 = false → (mkE now ⟨k1, k2, k3, k4, k5, k6, dt, ls⟩ req mode [] []).cmd.data = dt ∧ (mkE now ⟨k1, k2, k3, k4, k5, k6, s, ls⟩ req mode [] []).cmd.data = s := by
     intro h
     simp [mkE, z4la, h]
    generalize hX : mkE now ⟨k1, k2, k3, k4, k5, k6, dt, ls⟩ req mode [] [] = X at *
    generalize hY : mkE now ⟨k1, k2, k3, k4, k5, k6, s, ls⟩ req mode [] [] = Y at *
    have hdx := sx.1.2.2.2.2.2.1
    have hdy := sy.1.2.2.2.2.2.1
    have tx := z5m (nc := none) (nm := none) (ng := none) hdx
    have ty := z5m (nc := none) (nm := none) (ng := none) hdy
    have lx := z9c (nc := none) (nm := none) (ng := none) hdx
    have ly := z9c (nc := none) (nm := none) (ng := none) hdy
    have gx := z19 (nc := none) (nm := none) (ng := none) hdx
    have w1 := z99b (nc := none) (nm := none) (ng := none) hdy hdx
    have p1 := z88 (nc := none) (nm := none) (ng := none) (nc' := none) (nm' := none) (ng' := none) sx sx
    have p2 := z3M (nc := none) (nm := none) (ng := none) (nc' := none) (nm' := none) (ng' := none) sx sx
    rw [z5Fa] at p2
    clear hX hY
    simp only [z2k] at m1 m2 m3 m4
    by_cases hs : z7La k1 = true
    ·obtain ⟨y1, y2⟩ := hk1 hs
     rw [y1] at w1
     simp only [z7La, List.mem_cons, List.not_mem_nil, or_false, decide_eq_true_eq] at hs
     clear hk1 hk2
     have hs' : k1 = 2 ∨ k1 = 4 ∨ k1 = 5 ∨ k1 = 6 ∨ k1 = 8 ∨ k1 = 10 ∨ k1 = 15 ∨ k1 = 19 := hs
     simp (maxSteps := 1000000) (disch := first | omega | (simp; done) | (simp; omega)) [z7a, z1a, z0a, z3b, h342, z2k, h3, h4, h5, i3, i4, i5, kT, kF, dT, dF]
     simp only [z5l]
     refine z9j fun B hB => ?_
     simp (maxSteps := 1000000) (disch := first | omega | (simp; done) | (simp; omega)) [z7a, z1a, z0a, z1s, z3r]
     rw [hB]; clear hB
     refine z9j fun B hB => ?_
     simp (maxSteps := 1000000) (disch := first | omega | (simp; done) | (simp; omega)) [z7a, z1a, z0a, z1Ub]
     rw [hB]; clear hB
     refine z9j fun B hB => ?_
     simp (maxSteps := 1000000) (disch := first | omega | (simp; done) | (simp; omega)) [z7a, z1a, z0a, h292, m1, m2, lx, z1j hdx, tx]
     rw [hB]; clear hB
     refine z9j fun B hB => ?_
     simp (maxSteps := 1000000) (disch := first | omega | (simp; done) | (simp; omega)) [z7a, z1a, z0a, h292, m3, m4, ly, z1j hdy, ty]
     rw [hB]; clear hB
     rcases hs' with rfl | rfl | rfl | rfl | rfl | rfl | rfl | rfl <;> simp (maxSteps := 1000000) (disch := first | omega | (simp; done) | (simp; omega)) [z7a, z1a, z0a, z4l, h342, h299, p1, p2, gx, w1, tx, lx, ly, y2, hdx, kT, kF, dT, dF]
    ·obtain ⟨y1, y2⟩ := hk2 (by simpa using hs)
     simp only [z7La, List.mem_cons, List.not_mem_nil, or_false, decide_eq_true_eq, not_or] at hs
     obtain ⟨n1, n2, n3, n4, n5, n6, n7, n8⟩ := hs
     clear hk1 hk2
     simp (maxSteps := 1000000) (disch := first | omega | (simp; done) | (simp; omega)) [z7a, z1a, z0a, z3b, h342, z2k, h3, h4, h5, i3, i4, i5, kT, kF, dT, dF]
     simp only [z5l]
     refine z9j fun B hB => ?_
     simp (maxSteps := 1000000) (disch := first | omega | (simp; done) | (simp; omega)) [z7a, z1a, z0a, z1s, z3r]
     rw [hB]; clear hB
     refine z9j fun B hB => ?_
     simp (maxSteps := 1000000) (disch := first | omega | (simp; done) | (simp; omega)) [z7a, z1a, z0a, z1Ub]
     rw [hB]; clear hB
     refine z9j fun B hB => ?_
     simp (maxSteps := 1000000) (disch := first | omega | (simp; done) | (simp; omega)) [z7a, z1a, z0a, h292, m1, m2, lx, z1j hdx, tx]
     rw [hB]; clear hB
     refine z9j fun B hB => ?_
     simp (maxSteps := 1000000) (disch := first | omega | (simp; done) | (simp; omega)) [z7a, z1a, z0a, h292, m3, m4, ly, z1j hdy, ty]
     rw [hB]; clear hB
     simp (maxSteps := 1000000) (disch := first | omega | (simp; done) | (simp; omega)) [z7a, z1a, z0a, z4l, z6q, h342, n1, n2, n3, n4, n5, n6, n7, n8, lx, ly, y1, y2, kT, kF, dT, dF]
   ·have i5 : 500 < (s.length : Int) := by omega
    simp (maxSteps := 1000000) (disch := first | omega | (simp; done) | (simp; omega)) [z7a, z1a, z0a, z3b, h342, c7, c6, c8, h3, h4, h5, i3, i4, i5, kT, kF, dT, dF]
    skip
  ·have i4 : 500 < (c.data.length : Int) := by omega
   simp (maxSteps := 1000000) (disch := first | omega | (simp; done) | (simp; omega)) [z7a, z1a, z0a, z3b, h342, c7, c6, c8, h3, h4, i3, i4, kT, kF, dT, dF]
   skip
 ·have i3 : 40 < (c.list.length : Int) := by omega
  simp (maxSteps := 1000000) (disch := first | omega | (simp; done) | (simp; omega)) [z7a, z1a, z0a, z3b, h342, c7, c6, c8, h3, i3, kT, kF, dT, dF]
  skip
end Go.Abs
end

section
namespace Go.Abs
theorem z2za {α : Type} {e : GT} {enc : α → List z2a} {P : α → Prop} (he : ∀ cs, e.has cs → ∃ a, P a ∧ cs = enc a) {cs : List z2a} (h : (GT.sl e).has cs) : ∃ l : List α, (∀ a ∈ l, P a) ∧ cs = [.sl .plain none l.length (l.flatMap enc)] := by
 obtain ⟨ess, h1, rfl, h3⟩ := h
 suffices H : ∃ l : List α, (∀ x ∈ l, P x) ∧ l.length = ess.length ∧ ess.flatten = l.flatMap enc by
  obtain ⟨l, k1, k2, k3⟩ := H
  exact ⟨l, k1, by rw [k2, k3]⟩
 clear h3
 induction ess with
 | nil => exact ⟨[], by simp, rfl, rfl⟩
 | cons c ess ih =>
  obtain ⟨l, k1, k2, k3⟩ := ih fun c hc => h1 c (by simp [hc])
  obtain ⟨x, a0, rfl⟩ := he c (h1 c (by simp))
  refine ⟨x :: l, fun y hy => ?_, by simp [k2], by simp [k3]⟩
  rcases List.mem_cons.1 hy with rfl | hy
  ·exact a0
  ·exact k1 y hy
theorem z4Wa (l : List Int) : (l.flatMap fun x : Int => [i64 x]) = z3i l := by
 induction l with
 | nil => rfl
 | cons a l ih => rw [List.flatMap_cons, ih]; rfl
theorem z5Ja {cs : List z2a} (h : (GT.st [.int .i64, .int .i64, .int .i64, .int .i64, .int .i64, .int .i64, .str, .sl (.int .i64)]).has cs) : ∃ c : Cmd, c.ok ∧ cs = z2k c none := by
 simp only [GT.has, GT.hasL] at h
 obtain ⟨a1, r1, rfl, h1, a2, r2, rfl, h2, a3, r3, rfl, h3, a4, r4, rfl, h4, a5, r5, rfl, h5, a6, r6, rfl, h6, a7, r7, rfl, h7, a8, r8, rfl, h8, rfl⟩ := h
 obtain ⟨k1, x1, y1, rfl⟩ := z1p (by simpa only [GT.has] using h1)
 obtain ⟨k2, x2, y2, rfl⟩ := z1p (by simpa only [GT.has] using h2)
 obtain ⟨k3, x3, y3, rfl⟩ := z1p (by simpa only [GT.has] using h3)
 obtain ⟨k4, x4, y4, rfl⟩ := z1p (by simpa only [GT.has] using h4)
 obtain ⟨k5, x5, y5, rfl⟩ := z1p (by simpa only [GT.has] using h5)
 obtain ⟨k6, x6, y6, rfl⟩ := z1p (by simpa only [GT.has] using h6)
 obtain ⟨s, rfl⟩ := z0jb (by simpa only [GT.has] using h7)
 obtain ⟨l, hl, e8⟩ := z2za (enc := fun x : Int => [i64 x]) (P := z3f) (fun cs hc => by
  obtain ⟨x, x0, x1, rfl⟩ := z1p hc
  exact ⟨x, ⟨x0, x1⟩, rfl⟩) (by simpa only [GT.has] using h8)
 subst e8
 have : (l.flatMap fun x : Int => [i64 x]) = z3i l := z4Wa l
 rw [this]
 exact ⟨⟨k1, k2, k3, k4, k5, k6, s, l⟩, ⟨⟨x1, y1⟩, ⟨x2, y2⟩, ⟨x3, y3⟩, ⟨x4, y4⟩, ⟨x5, y5⟩, ⟨x6, y6⟩, hl⟩, rfl⟩
def z2pb : GT := .st [.int .i64, .int .i64, .int .i64, .int .i64, .int .i64, .int .i64, .str, .sl (.int .i64)]
def z5ad : GT := .st [.int .i64, .int .i64, .int .i64, .int .i64, .int .i64, .int .i64, .int .i64, .bool, .arr 16 (.int .u8)]
theorem z30b (cs : List z2a) (h : z5ad.has cs) : ∃ m : z4j, m.ok ∧ cs = z8u m := by
 simp only [z5ad, GT.has, GT.hasL] at h
 obtain ⟨a1, r1, rfl, h1, a2, r2, rfl, h2, a3, r3, rfl, h3, a4, r4, rfl, h4, a5, r5, rfl, h5, a6, r6, rfl, h6, a7, r7, rfl, h7, a8, r8, rfl, h8, a9, r9, rfl, h9, rfl⟩ := h
 obtain ⟨k1, x1, y1, rfl⟩ := z1p (by simpa only [GT.has] using h1)
 obtain ⟨k2, x2, y2, rfl⟩ := z1p (by simpa only [GT.has] using h2)
 obtain ⟨k3, x3, y3, rfl⟩ := z1p (by simpa only [GT.has] using h3)
 obtain ⟨k4, x4, y4, rfl⟩ := z1p (by simpa only [GT.has] using h4)
 obtain ⟨k5, x5, y5, rfl⟩ := z1p (by simpa only [GT.has] using h5)
 obtain ⟨k6, x6, y6, rfl⟩ := z1p (by simpa only [GT.has] using h6)
 obtain ⟨k7, x7, y7, rfl⟩ := z1p (by simpa only [GT.has] using h7)
 obtain ⟨b, rfl⟩ := z5Cb (by simpa only [GT.has] using h8)
 obtain ⟨d, hd, rfl⟩ := z94a (n := 16) (by simpa only [GT.has] using h9)
 exact ⟨⟨k1, k2, k3, k4, k5, k6, k7, b, d⟩, ⟨⟨x1, y1⟩, ⟨x2, y2⟩, ⟨x3, y3⟩, ⟨x4, y4⟩, ⟨x5, y5⟩, ⟨x6, y6⟩, ⟨x7, y7⟩, hd⟩, by simp [z8u]⟩
def z1jc : GT := .st [.int .i64, .int .i64, .int .i64, .int .i64, z2pb, .arr 16 (.int .u8), .sl z5ad, .sl (.int .i64)]
theorem z6kb {cs : List z2a} (h : (GT.sl (.int .i64)).has cs) : ∃ l : List Int, (∀ x ∈ l, z3f x) ∧ cs = [.sl .plain none l.length (z3i l)] := by
 obtain ⟨l, hl, e8⟩ := z2za (enc := fun x : Int => [i64 x]) (P := z3f) (fun cs hc => by
  obtain ⟨x, x0, x1, rfl⟩ := z1p hc
  exact ⟨x, ⟨x0, x1⟩, rfl⟩) h
 subst e8
 have : (l.flatMap fun x : Int => [i64 x]) = z3i l := z4Wa l
 rw [this]
 exact ⟨l, hl, rfl⟩
theorem z3Na {cs : List z2a} (h : z1jc.has cs) : ∃ x : z6w, x.ok ∧ cs = z5k none none none x := by
 rw [z1jc, GT.has] at h
 simp only [GT.hasL] at h
 obtain ⟨a1, r1, rfl, h1, a2, r2, rfl, h2, a3, r3, rfl, h3, a4, r4, rfl, h4, a5, r5, rfl, h5, a6, r6, rfl, h6, a7, r7, rfl, h7, a8, r8, rfl, h8, rfl⟩ := h
 obtain ⟨k1, x1, y1, rfl⟩ := z1p h1
 obtain ⟨k2, x2, y2, rfl⟩ := z1p h2
 obtain ⟨k3, x3, y3, rfl⟩ := z1p h3
 obtain ⟨k4, x4, y4, rfl⟩ := z1p h4
 obtain ⟨c, hc, rfl⟩ := z5Ja h5
 obtain ⟨d, hd, rfl⟩ := z94a (n := 16) h6
 obtain ⟨m, hm, rfl⟩ := z2za (enc := z8u) z30b h7
 obtain ⟨g, hg, rfl⟩ := z6kb h8
 exact ⟨⟨k1, k2, k3, k4, c, d, m, g⟩, ⟨⟨x1, y1⟩, ⟨x2, y2⟩, ⟨x3, y3⟩, ⟨x4, y4⟩, hc, hd, hm, hg⟩, by simp [z5k, z8d]⟩
theorem z0ob (as : List z2a) (h : z3ub [z1jc, z1jc, z2pb] as) : z6hb.pre as := by
 simp only [z3ub] at h
 obtain ⟨c0, _, rfl, h0, c1, _, rfl, h1, c2, _, rfl, h2, rfl⟩ := h
 obtain ⟨x, hx, rfl⟩ := z3Na h0
 obtain ⟨y, hy, rfl⟩ := z3Na h1
 obtain ⟨c, hc, rfl⟩ := z5Ja h2
 exact ⟨x, y, c, hx, hy, hc, rfl⟩
theorem z4hb (as : List z2a) (h : z3ub [z1jc, z1jc] as) : z6tb.pre as := by
 simp only [z3ub] at h
 obtain ⟨c0, _, rfl, h0, c1, _, rfl, h1, rfl⟩ := h
 obtain ⟨x, hx, rfl⟩ := z3Na h0
 obtain ⟨y, hy, rfl⟩ := z3Na h1
 exact ⟨x, y, hx, hy, rfl⟩
theorem z3jb (as : List z2a) (h : z3ub [z2pb, .str, .int .i64, .int .i64, .int .i64] as) : z8qb.pre as := by
 simp only [z3ub] at h
 obtain ⟨c0, _, rfl, h0, c1, _, rfl, h1, c2, _, rfl, h2, c3, _, rfl, h3, c4, _, rfl, h4, rfl⟩ := h
 obtain ⟨c, hc, rfl⟩ := z5Ja h0
 obtain ⟨s, rfl⟩ := z0jb h1
 obtain ⟨n, n0, n1, rfl⟩ := z1p h2
 obtain ⟨r, r0, r1, rfl⟩ := z1p h3
 obtain ⟨m, m0, m1, rfl⟩ := z1p h4
 exact ⟨c, s, n, r, m, hc, ⟨n0, n1⟩, ⟨r0, r1⟩, ⟨m0, m1⟩, rfl⟩
end Go.Abs
end
