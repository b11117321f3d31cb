/- The laws' example: functions that were run meet what was found. -/
import Derived.Test.YtepddcbbkhdfiaaGreatDoorVal0
import Derived.KernelRfl
set_option linter.unusedSimpArgs false
set_option linter.unusedVariables false
set_option linter.unusedSectionVars false
namespace Go.Abs.V0
open Go.Proofs
set_option maxRecDepth 100000
theorem xv_200 : z1a K0 200 (z5qa z2Kd) := rL Tryz.func52 (by kernel_rfl) trivial rfl
theorem xv_209 : z1a K0 209 (z5qa z3Xd) := rL Tryz.func27 (by kernel_rfl) ⟨xv_200, trivial⟩ rfl
theorem xv_180 : z1a K0 180 (z5qa z16c) := z9ab v_n180 z4Oc
theorem xv_349 : z1a K0 349 (z5qa z0mc) := rL Tryz.func15 (by kernel_rfl) trivial rfl
theorem xv_165 : z1a K0 165 (z5qa z3Vc) := z9ab v_n165 z9ld
theorem xv_12 : z1a K0 12 (z5qa z4id) := rL Tryz.func68 (by kernel_rfl) trivial rfl
theorem xv_7 : z1a K0 7 (z5qa x_7) := rL Tryz.func113 (by kernel_rfl) ⟨xv_12, trivial⟩ rfl
theorem xv_164 : z1a K0 164 (z5qa z35c) := rL Tryz.func117 (by kernel_rfl) ⟨xv_7, trivial⟩ rfl
theorem xv_166 : z1a K0 166 (z5qa z5Cd) := rL Tryz.func118 (by kernel_rfl) ⟨xv_164, trivial⟩ rfl
theorem xv_169 : z1a K0 169 (z5qa z7Oc) := rL Tryz.func84 (by kernel_rfl) ⟨xv_164, trivial⟩ rfl
theorem xv_193 : z1a K0 193 (z5qa z1Id) := rL Tryz.func142 (by kernel_rfl) trivial rfl
theorem xv_194 : z1a K0 194 (z5qa z6Kd) := rL Tryz.func143 (by kernel_rfl) trivial rfl
theorem xv_188 : z1a K0 188 (z5qa z9Ud) := rL Tryz.func122 (by kernel_rfl) ⟨xv_193, xv_194, trivial⟩ rfl
theorem xv_179 : z1a K0 179 (z5qa z3td) := rL Tryz.func81 (by kernel_rfl) ⟨xv_188, trivial⟩ rfl
theorem xv_189 : z1a K0 189 (z5qa z6Ld) := rL Tryz.func136 (by kernel_rfl) trivial rfl
theorem xv_190 : z1a K0 190 (z5qa z6Vd) := rL Tryz.func137 (by kernel_rfl) trivial rfl
theorem xv_181 : z1a K0 181 (z5qa z8Pd) := rL Tryz.func119 (by kernel_rfl) ⟨xv_189, xv_190, trivial⟩ rfl
theorem xv_182 : z1a K0 182 (z5qa z3Yd) := rL Tryz.func76 (by kernel_rfl) ⟨xv_165, xv_166, xv_169, xv_179, xv_180, xv_181, trivial⟩ rfl
theorem xv_350 : z1a K0 350 (z5qa z5Bd) := rL Tryz.func38 (by kernel_rfl) trivial rfl
theorem xv_8 : z1a K0 8 (z5qa x_8) := z9ab v_n8 z9Ad
theorem xv_39 : z1a K0 39 (z5qa z59d) := rL Tryz.func112 (by kernel_rfl) ⟨xv_12, trivial⟩ rfl
theorem xv_139 : z1a K0 139 (z5qa z6Wd) := z9ab v_n139 z8rd
theorem xv_129 : z1a K0 129 (z5qa z4bd) := rL Tryz.func67 (by kernel_rfl) ⟨xv_139, trivial⟩ rfl
theorem xv_130 : z1a K0 130 (z5qa z6Pd) := rL Tryz.func114 (by kernel_rfl) ⟨xv_7, xv_12, xv_39, xv_129, trivial⟩ rfl
theorem yv_302 : z1a K0 302 (z5qa z3Uc) := rL Tryz.func66 (by kernel_rfl) ⟨xv_7, xv_12, xv_39, xv_129, xv_130, trivial⟩ rfl
theorem ya_302 : ∀ j, j < z8Dc.length → z9Mb z3Uc z8Dc j = true
 | 0, _ => z1od
 | 1, _ => z2ud
 | 2, _ => z9yd
 | j + 3, h => absurd (show j + 3 < 3 from h) (by omega)
theorem xv_302 : z1a K0 302 (z5qa z1rd) := z8rb yv_302 (z1Vb ya_302)
theorem yv_303 : z1a K0 303 (z5qa z3Rc) := rL Tryz.func75 (by kernel_rfl) ⟨xv_8, xv_302, trivial⟩ rfl
theorem ya_303 : ∀ j, j < z7Ec.length → z9Mb z3Rc z7Ec j = true
 | 0, _ => z2wd
 | 1, _ => z4wd
 | 2, _ => z0Dd
 | j + 3, h => absurd (show j + 3 < 3 from h) (by omega)
theorem xv_303 : z1a K0 303 (z5qa z3Xc) := z8rb yv_303 (z1Vb ya_303)
theorem xc_372 : z5Wc (K0.wX z4sd) z3sa Tryz.f74 = true := by kernel_rfl
theorem xk_372 : z5Da z3sa.body = [(303, false)] := by kernel_rfl
theorem xi_372 : z8Ha K0 372 (z59b z6nd) := z00b (z0fc (X := z4sd) rfl (z54b (K := K0.wX z4sd) (f := 372) (F := z3sa) Tryz.func74 xc_372 (by rw [xk_372]; exact List.forall_mem_cons.2 ⟨vbG rfl rfl xv_303, List.forall_mem_nil _⟩) (z6Ic _ (z5qa z3Xc) rfl))) rfl (z0od z3Xc)
theorem xc_354 : z5sa (K0.wX (z3wd)) z4ua Tryz.f40 = true := by kernel_rfl
theorem xk_354 : (z4a z4ua.body).all (fun p => ([(182, false), (350, false)] : List (Nat × Bool)).contains p) = true := by kernel_rfl
theorem xj_354 : z5Oa z4ua.body = [372] := by kernel_rfl
theorem xv_354 : z1a K0 354 (z5qa z4Bd) := z31d (K := K0) (X := z3wd) (F := z4ua) (n := fuX) rfl Tryz.func40 xc_354 (z8c xk_354 (List.forall_mem_cons.2 ⟨vbG rfl rfl xv_182, List.forall_mem_cons.2 ⟨vbG rfl rfl xv_350, List.forall_mem_nil _⟩⟩)) (by rw [xj_354]; exact List.forall_mem_cons.2 ⟨viI rfl rfl xi_372, List.forall_mem_nil _⟩) (by kernel_rfl) (by kernel_rfl)
theorem xv_348 : z1a K0 348 (z5qa z3Fc) := rL Tryz.func11 (by kernel_rfl) ⟨xv_180, xv_349, xv_354, trivial⟩ rfl
theorem xc_371 : z5sa (K0.wX (z3Ad)) z9pa Tryz.f73 = true := by kernel_rfl
theorem xk_371 : (z4a z9pa.body).all (fun p => ([] : List (Nat × Bool)).contains p) = true := by kernel_rfl
theorem xj_371 : z5Oa z9pa.body = [372] := by kernel_rfl
theorem xv_371 : z1a K0 371 (z5qa z6Td) := z31d (K := K0) (X := z3Ad) (F := z9pa) (n := fuX) rfl Tryz.func73 xc_371 (z8c xk_371 (List.forall_mem_nil _)) (by rw [xj_371]; exact List.forall_mem_cons.2 ⟨viI rfl rfl xi_372, List.forall_mem_nil _⟩) (by kernel_rfl) (by kernel_rfl)
theorem xv_351 : z1a K0 351 (z5qa z7Vd) := rL Tryz.func37 (by kernel_rfl) ⟨xv_371, trivial⟩ rfl
theorem xv_191 : z1a K0 191 (z5qa z5Nd) := rL Tryz.func148 (by kernel_rfl) trivial rfl
theorem xv_192 : z1a K0 192 (z5qa z9Yd) := rL Tryz.func149 (by kernel_rfl) trivial rfl
theorem xv_170 : z1a K0 170 (z5qa z8Nd) := rL Tryz.func131 (by kernel_rfl) ⟨xv_191, xv_192, trivial⟩ rfl
theorem xv_167 : z1a K0 167 (z5qa z5yd) := rL Tryz.func99 (by kernel_rfl) ⟨xv_170, trivial⟩ rfl
theorem xc_168 : ∀ g, z5sa (K0.wX (z0Ed g)) z1sa Tryz.f72 = true := fun g => by kernel_rfl
theorem xk_168 : (z4a z1sa.body).all (fun p => ([(164, false), (165, false), (166, false), (167, false), (168, false), (169, false)] : List (Nat × Bool)).contains p) = true := by kernel_rfl
theorem xd_168 : z5sa K0 z1sa Tryz.f72 = true := by kernel_rfl
theorem xr_168 : ∀ k, z1a K0 168 (z5qa (z81c k))
 | 0 => z0Zb (F := z1sa) Tryz.func72 xd_168
 | k + 1 => z93d (K := K0) (X := z0Ed (z81c k)) (F := z1sa) (n := fuX) rfl Tryz.func72 (xc_168 _) (z8c xk_168 (List.forall_mem_cons.2 ⟨vbG rfl rfl xv_164, List.forall_mem_cons.2 ⟨vbG rfl rfl xv_165, List.forall_mem_cons.2 ⟨vbG rfl rfl xv_166, List.forall_mem_cons.2 ⟨vbG rfl rfl xv_167, List.forall_mem_cons.2 ⟨vbG rfl rfl (xr_168 k), List.forall_mem_cons.2 ⟨vbG rfl rfl xv_169, List.forall_mem_nil _⟩⟩⟩⟩⟩⟩)) (by kernel_rfl)
theorem xv_168 : z1a K0 168 (z5qa z6sd) := xr_168 12
theorem xc_183 : z5sa (K0.wX (z3pd)) z4sa Tryz.f82 = true := by kernel_rfl
theorem xk_183 : (z4a z4sa.body).all (fun p => ([] : List (Nat × Bool)).contains p) = true := by kernel_rfl
theorem xm_183 : z7Ia K0 183 (z4mb z7xd) := z1Zc (K := K0) (X := z3pd) (F := z4sa) (n := fuX) rfl Tryz.func82 xc_183 (z8c xk_183 (List.forall_mem_nil _)) (of_decide_eq_true (by kernel_rfl)) (by kernel_rfl) (by kernel_rfl)
theorem xi_184 : z8Ha K0 184 (z59b z4rd) := z00b v_n184 rfl z8qd
theorem xc_370 : z5sa (K0.wX (z5xd)) z9wa Tryz.f71 = true := by kernel_rfl
theorem xk_370 : (z4a z9wa.body).all (fun p => ([(8, false), (183, true)] : List (Nat × Bool)).contains p) = true := by kernel_rfl
theorem xj_370 : z5Oa z9wa.body = [184] := by kernel_rfl
theorem xv_370 : z1a K0 370 (z5qa z9Rd) := z31d (K := K0) (X := z5xd) (F := z9wa) (n := fuX) rfl Tryz.func71 xc_370 (z8c xk_370 (List.forall_mem_cons.2 ⟨vbG rfl rfl xv_8, List.forall_mem_cons.2 ⟨vbM rfl rfl rfl xm_183, List.forall_mem_nil _⟩⟩)) (by rw [xj_370]; exact List.forall_mem_cons.2 ⟨viI rfl rfl xi_184, List.forall_mem_nil _⟩) (by kernel_rfl) (by kernel_rfl)
theorem xc_352 : ∀ g, z5sa (K0.wX (z6Dd g)) z9sa Tryz.f36 = true := fun g => by kernel_rfl
theorem xk_352 : (z4a z9sa.body).all (fun p => ([(168, false), (352, false), (370, false)] : List (Nat × Bool)).contains p) = true := by kernel_rfl
theorem xd_352 : z5sa K0 z9sa Tryz.f36 = true := by kernel_rfl
theorem xr_352 : ∀ k, z1a K0 352 (z5qa (z70c k))
 | 0 => z0Zb (F := z9sa) Tryz.func36 xd_352
 | k + 1 => z93d (K := K0) (X := z6Dd (z70c k)) (F := z9sa) (n := fuX) rfl Tryz.func36 (xc_352 _) (z8c xk_352 (List.forall_mem_cons.2 ⟨vbG rfl rfl xv_168, List.forall_mem_cons.2 ⟨vbG rfl rfl (xr_352 k), List.forall_mem_cons.2 ⟨vbG rfl rfl xv_370, List.forall_mem_nil _⟩⟩⟩)) (by kernel_rfl)
theorem xv_352 : z1a K0 352 (z5qa z5Yd) := xr_352 12
theorem xv_353 : z1a K0 353 (z5qa z6qd) := rL Tryz.func9 (by kernel_rfl) ⟨xv_348, xv_349, xv_350, xv_351, xv_352, trivial⟩ rfl
theorem xc_185 : z5sa (K0.wX (z1kd)) z1ta Tryz.f44 = true := by kernel_rfl
theorem xk_185 : (z4a z1ta.body).all (fun p => ([(165, false), (168, false), (169, false), (179, false), (183, true)] : List (Nat × Bool)).contains p) = true := by kernel_rfl
theorem xj_185 : z5Oa z1ta.body = [184] := by kernel_rfl
theorem xv_185 : z1a K0 185 (z5qa z1ld) := z31d (K := K0) (X := z1kd) (F := z1ta) (n := fuX) rfl Tryz.func44 xc_185 (z8c xk_185 (List.forall_mem_cons.2 ⟨vbG rfl rfl xv_165, List.forall_mem_cons.2 ⟨vbG rfl rfl xv_168, List.forall_mem_cons.2 ⟨vbG rfl rfl xv_169, List.forall_mem_cons.2 ⟨vbG rfl rfl xv_179, List.forall_mem_cons.2 ⟨vbM rfl rfl rfl xm_183, List.forall_mem_nil _⟩⟩⟩⟩⟩)) (by rw [xj_185]; exact List.forall_mem_cons.2 ⟨viI rfl rfl xi_184, List.forall_mem_nil _⟩) (by kernel_rfl) (by kernel_rfl)
theorem xv_355 : z1a K0 355 (z5qa z1Xd) := rL Tryz.func14 (by kernel_rfl) ⟨xv_185, xv_348, xv_349, trivial⟩ rfl
theorem xv_314 : z1a K0 314 (z5qa z9Td) := rL Tryz.func144 (by kernel_rfl) trivial rfl
theorem xv_312 : z1a K0 312 (z5qa z4Sd) := rL Tryz.func129 (by kernel_rfl) ⟨xv_314, trivial⟩ rfl
theorem xv_293 : z1a K0 293 (z5qa z7Ld) := rL Tryz.func91 (by kernel_rfl) ⟨xv_312, trivial⟩ rfl
theorem xv_294 : z1a K0 294 (z5qa z9Id) := rL Tryz.func90 (by kernel_rfl) trivial rfl
theorem xv_295 : z1a K0 295 (z5qa z52c) := rL Tryz.func85 (by kernel_rfl) trivial rfl
theorem xv_296 : z1a K0 296 (z5qa z1Vd) := rL Tryz.func86 (by kernel_rfl) ⟨xv_295, trivial⟩ rfl
theorem xv_297 : z1a K0 297 (z5qa z5Qd) := rL Tryz.func88 (by kernel_rfl) ⟨xv_296, trivial⟩ rfl
theorem xv_313 : z1a K0 313 (z5qa z2Ud) := rL Tryz.func125 (by kernel_rfl) ⟨xv_297, trivial⟩ rfl
theorem xv_298 : z1a K0 298 (z5qa z1Rd) := rL Tryz.func87 (by kernel_rfl) ⟨xv_313, trivial⟩ rfl
theorem xv_132 : z1a K0 132 (z5qa z1Ed) := rL Tryz.func128 (by kernel_rfl) trivial rfl
theorem xv_133 : z1a K0 133 (z5qa z2Wd) := rL Tryz.func126 (by kernel_rfl) ⟨xv_132, trivial⟩ rfl
theorem xv_301 : z1a K0 301 (z5qa z3Pd) := rL Tryz.func127 (by kernel_rfl) trivial rfl
theorem xv_299 : z1a K0 299 (z5qa z3Jd) := rL Tryz.func89 (by kernel_rfl) ⟨xv_132, xv_133, xv_301, trivial⟩ rfl
theorem yv_300 : z1a K0 300 (z5qa z08b) := rL Tryz.func45 (by kernel_rfl) ⟨xv_293, xv_294, xv_295, xv_298, xv_299, trivial⟩ rfl
theorem ya_300 : ∀ j, j < z8Yb.length → z9Mb z08b z8Yb j = true
 | 0, _ => z1qd
 | 1, _ => z5ud
 | 2, _ => z1ud
 | 3, _ => z3yd
 | 4, _ => z9Ed
 | 5, _ => z9pd
 | 6, _ => z6wd
 | j + 7, h => absurd (show j + 7 < 7 from h) (by omega)
theorem xv_300 : z1a K0 300 (z5qa z40c) := z8rb yv_300 (z1Vb ya_300)
theorem xv_356 : z1a K0 356 (z5qa z5Ud) := rL Tryz.func46 (by kernel_rfl) trivial rfl
theorem xv_357 : z1a K0 357 (z5qa z5Vd) := rL Tryz.func16 (by kernel_rfl) ⟨xv_300, xv_349, xv_356, trivial⟩ rfl
theorem xv_358 : z1a K0 358 (z5qa z2rd) := z9ab v_n358 z8Jc
theorem xv_359 : z1a K0 359 (z5qa z2Od) := rL Tryz.func17 (by kernel_rfl) ⟨xv_348, xv_358, trivial⟩ rfl
theorem xv_360 : z1a K0 360 (z5qa z5Kd) := rL Tryz.func18 (by kernel_rfl) ⟨xv_348, xv_349, xv_353, xv_358, trivial⟩ rfl
theorem xv_175 : z1a K0 175 (z5qa z2Id) := rL Tryz.func100 (by kernel_rfl) trivial rfl
theorem xc_174 : z5sa (K0.wX (z1Dd)) z8Ba Tryz.f100 = true := by kernel_rfl
theorem xk_174 : (z4a z8Ba.body).all (fun p => ([] : List (Nat × Bool)).contains p) = true := by kernel_rfl
theorem xw_174 : z89a K0 174 (z5zc z0Od) := runW (K := K0) (X := z1Dd) (F := z8Ba) (n := fuX) rfl Tryz.func100 xc_174 (z8c xk_174 (List.forall_mem_nil _)) (by kernel_rfl) (by kernel_rfl)
theorem xv_176 : z1a K0 176 (z5qa z1Wd) := rG [(165, false), (167, false), (169, false), (175, false), (500000174, true)] rfl Tryz.func58 (by kernel_rfl) ⟨vbG rfl rfl xv_165, vbG rfl rfl xv_167, vbG rfl rfl xv_169, vbG rfl rfl xv_175, vbW (f := 174) rfl (by decide) rfl xw_174, trivial⟩
theorem xv_361 : z1a K0 361 (z5qa z4Od) := rL Tryz.func56 (by kernel_rfl) ⟨xv_300, trivial⟩ rfl
theorem xv_373 : z1a K0 373 (z5qa z1Ld) := rL Tryz.func98 (by kernel_rfl) ⟨xv_361, trivial⟩ rfl
theorem xv_362 : z1a K0 362 (z5qa z8Wd) := rL Tryz.func57 (by kernel_rfl) ⟨xv_373, trivial⟩ rfl
theorem xv_363 : z1a K0 363 (z5qa z6Qd) := rL Tryz.func32 (by kernel_rfl) ⟨xv_176, xv_185, xv_354, xv_362, trivial⟩ rfl
theorem xv_374 : z1a K0 374 (z5qa z6Sd) := z9ab v_n374 z38c
theorem xv_364 : z1a K0 364 (z5qa z7Hd) := rL Tryz.func59 (by kernel_rfl) ⟨xv_374, trivial⟩ rfl
theorem xv_365 : z1a K0 365 (z5qa z8Kd) := rL Tryz.func33 (by kernel_rfl) ⟨xv_180, xv_364, trivial⟩ rfl
theorem xv_45 : z1a K0 45 (z5qa z1Md) := rL Tryz.func62 (by kernel_rfl) trivial rfl
theorem xv_47 : z1a K0 47 (z5qa z4Jd) := rL Tryz.func102 (by kernel_rfl) ⟨xv_45, trivial⟩ rfl
theorem xv_48 : z1a K0 48 (z5qa z8be) := rL Tryz.func103 (by kernel_rfl) ⟨xv_47, trivial⟩ rfl
theorem xv_55 : z1a K0 55 (z5qa x_55) := rL Tryz.func63 (by kernel_rfl) ⟨xv_47, xv_48, trivial⟩ rfl
theorem xv_58 : z1a K0 58 (z5qa x_58) := rL Tryz.func65 (by kernel_rfl) ⟨xv_47, trivial⟩ rfl
theorem xc_316 : z5sa (K0.wX (z9Cd)) z3Da Tryz.f106 = true := by kernel_rfl
theorem xk_316 : (z4a z3Da.body).all (fun p => ([] : List (Nat × Bool)).contains p) = true := by kernel_rfl
theorem xm_316 : z7Ia K0 316 (z4mb z9od) := z1Zc (K := K0) (X := z9Cd) (F := z3Da) (n := fuX) rfl Tryz.func106 xc_316 (z8c xk_316 (List.forall_mem_nil _)) (of_decide_eq_true (by kernel_rfl)) (by kernel_rfl) (by kernel_rfl)
theorem xc_51 : z5sa (K0.wX (z89d)) z61a Tryz.f132 = true := by kernel_rfl
theorem xk_51 : (z4a z61a.body).all (fun p => ([] : List (Nat × Bool)).contains p) = true := by kernel_rfl
theorem xm_51 : z7Ia K0 51 (z4mb m_51) := z1Zc (K := K0) (X := z89d) (F := z61a) (n := fuX) rfl Tryz.func132 xc_51 (z8c xk_51 (List.forall_mem_nil _)) (of_decide_eq_true (by kernel_rfl)) (by kernel_rfl) (by kernel_rfl)
theorem xc_61 : z5sa (K0.wX (z79d)) z0Qa Tryz.f150 = true := by kernel_rfl
theorem xk_61 : (z4a z0Qa.body).all (fun p => ([(45, false)] : List (Nat × Bool)).contains p) = true := by kernel_rfl
theorem xm_61 : z7Ia K0 61 (z4mb m_61) := z1Zc (K := K0) (X := z79d) (F := z0Qa) (n := fuX) rfl Tryz.func150 xc_61 (z8c xk_61 (List.forall_mem_cons.2 ⟨vbG rfl rfl xv_45, List.forall_mem_nil _⟩)) (of_decide_eq_true (by kernel_rfl)) (by kernel_rfl) (by kernel_rfl)
theorem xv_52 : z1a K0 52 (z5qa x_52) := rG [(47, false), (51, true), (61, true)] rfl Tryz.func105 (by kernel_rfl) ⟨vbG rfl rfl xv_47, vbM rfl rfl rfl xm_51, vbM rfl rfl rfl xm_61, trivial⟩
theorem xc_323 : z5sa (K0.wX (z1zd)) z3ya Tryz.f104 = true := by kernel_rfl
theorem xk_323 : (z4a z3ya.body).all (fun p => ([(52, false)] : List (Nat × Bool)).contains p) = true := by kernel_rfl
theorem xm_323 : z7Ia K0 323 (z4mb z3Dd) := z1Zc (K := K0) (X := z1zd) (F := z3ya) (n := fuX) rfl Tryz.func104 xc_323 (z8c xk_323 (List.forall_mem_cons.2 ⟨vbG rfl rfl xv_52, List.forall_mem_nil _⟩)) (of_decide_eq_true (by kernel_rfl)) (by kernel_rfl) (by kernel_rfl)
theorem xc_324 : z5sa (K0.wX (z9zd)) z2xa Tryz.f107 = true := by kernel_rfl
theorem xk_324 : (z4a z2xa.body).all (fun p => ([(48, false)] : List (Nat × Bool)).contains p) = true := by kernel_rfl
theorem xm_324 : z7Ia K0 324 (z4mb z8yd) := z1Zc (K := K0) (X := z9zd) (F := z2xa) (n := fuX) rfl Tryz.func107 xc_324 (z8c xk_324 (List.forall_mem_cons.2 ⟨vbG rfl rfl xv_48, List.forall_mem_nil _⟩)) (of_decide_eq_true (by kernel_rfl)) (by kernel_rfl) (by kernel_rfl)
theorem xc_326 : z5sa (K0.wX (z1xd)) z7ya Tryz.f111 = true := by kernel_rfl
theorem xk_326 : (z4a z7ya.body).all (fun p => ([(45, false)] : List (Nat × Bool)).contains p) = true := by kernel_rfl
theorem xm_326 : z7Ia K0 326 (z4mb z0kd) := z1Zc (K := K0) (X := z1xd) (F := z7ya) (n := fuX) rfl Tryz.func111 xc_326 (z8c xk_326 (List.forall_mem_cons.2 ⟨vbG rfl rfl xv_45, List.forall_mem_nil _⟩)) (of_decide_eq_true (by kernel_rfl)) (by kernel_rfl) (by kernel_rfl)
theorem xc_318 : z5sa (K0.wX (z9td)) z1Ba Tryz.f108 = true := by kernel_rfl
theorem xk_318 : (z4a z1Ba.body).all (fun p => ([(316, true), (323, true), (324, true), (326, true)] : List (Nat × Bool)).contains p) = true := by kernel_rfl
theorem xm_318 : z7Ia K0 318 (z4mb z30d) := z1Zc (K := K0) (X := z9td) (F := z1Ba) (n := fuX) rfl Tryz.func108 xc_318 (z8c xk_318 (List.forall_mem_cons.2 ⟨vbM rfl rfl rfl xm_316, List.forall_mem_cons.2 ⟨vbM rfl rfl rfl xm_323, List.forall_mem_cons.2 ⟨vbM rfl rfl rfl xm_324, List.forall_mem_cons.2 ⟨vbM rfl rfl rfl xm_326, List.forall_mem_nil _⟩⟩⟩⟩)) (of_decide_eq_true (by kernel_rfl)) (by kernel_rfl) (by kernel_rfl)
theorem xv_320 : z1a K0 320 (z5qa z0Ld) := rL Tryz.func110 (by kernel_rfl) trivial rfl
theorem xc_325 : z5sa (K0.wX (z1yd)) z1ya Tryz.f109 = true := by kernel_rfl
theorem xk_325 : (z4a z1ya.body).all (fun p => ([(320, false)] : List (Nat × Bool)).contains p) = true := by kernel_rfl
theorem xm_325 : z7Ia K0 325 (z4mb z90d) := z1Zc (K := K0) (X := z1yd) (F := z1ya) (n := fuX) rfl Tryz.func109 xc_325 (z8c xk_325 (List.forall_mem_cons.2 ⟨vbG rfl rfl xv_320, List.forall_mem_nil _⟩)) (of_decide_eq_true (by kernel_rfl)) (by kernel_rfl) (by kernel_rfl)
theorem yv_322 : z1a K0 322 (z5qa z2bd) := rG [(295, false), (300, false), (316, true), (318, true), (323, true), (324, true), (325, true), (326, true)] rfl Tryz.func64 (by kernel_rfl) ⟨vbG rfl rfl xv_295, vbG rfl rfl xv_300, vbM rfl rfl rfl xm_316, vbM rfl rfl rfl xm_318, vbM rfl rfl rfl xm_323, vbM rfl rfl rfl xm_324, vbM rfl rfl rfl xm_325, vbM rfl rfl rfl xm_326, trivial⟩
theorem ya_322 : ∀ j, j < z2Xc.length → z9Mb z2bd z2Xc j = true
 | 0, _ => z9wd
 | 1, _ => z7Dd
 | j + 2, h => absurd (show j + 2 < 2 from h) (by omega)
theorem xv_322 : z1a K0 322 (z5qa z7Yd) := z8rb yv_322 (z1Vb ya_322)
theorem xc_366 : z5sa (K0.wX (z4md)) z2Wa Tryz.f60 = true := by kernel_rfl
theorem xk_366 : (z4a z2Wa.body).all (fun p => ([] : List (Nat × Bool)).contains p) = true := by kernel_rfl
theorem xm_366 : z7Ia K0 366 (z4mb z4Cd) := z1Zc (K := K0) (X := z4md) (F := z2Wa) (n := fuX) rfl Tryz.func60 xc_366 (z8c xk_366 (List.forall_mem_nil _)) (of_decide_eq_true (by kernel_rfl)) (by kernel_rfl) (by kernel_rfl)
theorem xc_367 : z5sa (K0.wX (z7Bd)) z3Wa Tryz.f61 = true := by kernel_rfl
theorem xk_367 : (z4a z3Wa.body).all (fun p => ([(366, true)] : List (Nat × Bool)).contains p) = true := by kernel_rfl
theorem xw_367 : z89a K0 367 (z5zc z8Md) := runW (K := K0) (X := z7Bd) (F := z3Wa) (n := fuX) rfl Tryz.func61 xc_367 (z8c xk_367 (List.forall_mem_cons.2 ⟨vbM rfl rfl rfl xm_366, List.forall_mem_nil _⟩)) (by kernel_rfl) (by kernel_rfl)
theorem xv_368 : z1a K0 368 (z5qa z9Od) := rG [(45, false), (55, false), (58, false), (322, false), (366, true), (500000367, true)] rfl Tryz.func34 (by kernel_rfl) ⟨vbG rfl rfl xv_45, vbG rfl rfl xv_55, vbG rfl rfl xv_58, vbG rfl rfl xv_322, vbM rfl rfl rfl xm_366, vbW (f := 367) rfl (by decide) rfl xw_367, trivial⟩
theorem xv_41 : z1a K0 41 (z5qa x_41) := rL Tryz.func69 (by kernel_rfl) ⟨xv_7, xv_12, trivial⟩ rfl
theorem xv_43 : z1a K0 43 (z5qa x_43) := rL Tryz.func70 (by kernel_rfl) ⟨xv_12, trivial⟩ rfl
theorem xv_369 : z1a K0 369 (z5qa z50d) := rL Tryz.func35 (by kernel_rfl) ⟨xv_12, xv_41, xv_43, xv_129, xv_302, trivial⟩ rfl
theorem xv_60 : z1a K0 60 (z5qa x_60) := rL Tryz.func20 (by kernel_rfl) trivial rfl
theorem xv_54 : z1a K0 54 (z5qa x_54) := rL Tryz.func97 (by kernel_rfl) trivial rfl
theorem xv_149 : z1a K0 149 (z5qa z0Kd) := rL Tryz.func53 (by kernel_rfl) ⟨xv_54, trivial⟩ rfl
theorem xv_329 : z1a K0 329 (z5qa z9Pd) := rL Tryz.func92 (by kernel_rfl) ⟨xv_149, trivial⟩ rfl
theorem xv_376 : z1a K0 376 (z5qa z8Vd) := rL Tryz.func48 (by kernel_rfl) ⟨xv_329, trivial⟩ rfl
theorem xv_377 : z1a K0 377 (z5qa z9Hd) := rL Tryz.func19 (by kernel_rfl) ⟨xv_60, xv_376, trivial⟩ rfl
theorem xv_20 : z1a K0 20 (z5qa z0Ud) := z9ab v_n20 z77c
theorem xv_23 : z1a K0 23 (z5qa z41d) := rL Tryz.func79 (by kernel_rfl) trivial rfl
theorem xv_202 : z1a K0 202 (z5qa z9nd) := rL Tryz.func42 (by kernel_rfl) ⟨xv_20, xv_23, trivial⟩ rfl
theorem xv_214 : z1a K0 214 (z5qa z4Md) := rL Tryz.func55 (by kernel_rfl) trivial rfl
theorem xv_211 : z1a K0 211 (z5qa z3ld) := rL Tryz.func30 (by kernel_rfl) ⟨xv_214, trivial⟩ rfl
theorem xv_213 : z1a K0 213 (z5qa z7Td) := rL Tryz.func12 (by kernel_rfl) ⟨xv_20, xv_202, xv_211, trivial⟩ rfl
theorem xv_375 : z1a K0 375 (z5qa z4xd) := rL Tryz.func10 (by kernel_rfl) trivial rfl
theorem xv_201 : z1a K0 201 (z5qa z9Ld) := rL Tryz.func96 (by kernel_rfl) ⟨xv_20, xv_23, trivial⟩ rfl
theorem xv_212 : z1a K0 212 (z5qa z4Vd) := rL Tryz.func51 (by kernel_rfl) ⟨xv_201, xv_202, xv_211, trivial⟩ rfl
theorem xv_30 : z1a K0 30 (z5qa z4Xd) := rL Tryz.func141 (by kernel_rfl) trivial rfl
theorem xv_29 : z1a K0 29 (z5qa z8ae) := rL Tryz.func121 (by kernel_rfl) ⟨xv_30, trivial⟩ rfl
theorem xv_40 : z1a K0 40 (z5qa z0ce) := rL Tryz.func145 (by kernel_rfl) ⟨xv_30, trivial⟩ rfl
theorem xv_147 : z1a K0 147 (z5qa z6Hd) := rL Tryz.func146 (by kernel_rfl) ⟨xv_29, xv_30, xv_40, trivial⟩ rfl
theorem xv_332 : z1a K0 332 (z5qa z0Vd) := rL Tryz.func147 (by kernel_rfl) trivial rfl
theorem xv_333 : z1a K0 333 (z5qa z3Ld) := rL Tryz.func130 (by kernel_rfl) ⟨xv_23, xv_29, xv_30, xv_40, xv_147, xv_332, trivial⟩ rfl
theorem yv_334 : z1a K0 334 (z5qa z8Mc) := rL Tryz.func95 (by kernel_rfl) ⟨xv_20, xv_333, trivial⟩ rfl
theorem ya_334 : ∀ j, j < z3Dc.length → z9Mb z8Mc z3Dc j = true
 | 0, _ => z3Cd
 | 1, _ => z0sd
 | 2, _ => z8Ad
 | j + 3, h => absurd (show j + 3 < 3 from h) (by omega)
theorem xv_334 : z1a K0 334 (z5qa z0Qd) := z8rb yv_334 (z1Vb ya_334)
theorem xv_382 : z1a K0 382 (z5qa z9Xd) := rL Tryz.func50 (by kernel_rfl) ⟨xv_334, trivial⟩ rfl
theorem xv_379 : z1a K0 379 (z5qa z21d) := rL Tryz.func25 (by kernel_rfl) ⟨xv_212, xv_375, xv_382, trivial⟩ rfl
theorem xv_386 : z1a K0 386 (z5qa z3Sd) := rL Tryz.func28 (by kernel_rfl) ⟨xv_213, xv_375, xv_379, trivial⟩ rfl
theorem xv_396 : z1a K0 396 (z5qa z7Nd) := rL Tryz.func31 (by kernel_rfl) trivial rfl
theorem xv_391 : z1a K0 391 (z5qa z20c) := rL Tryz.func8 (by kernel_rfl) ⟨xv_209, xv_348, xv_349, xv_353, xv_355, xv_357, xv_359, xv_360, xv_363, xv_365, xv_368, xv_369, xv_377, xv_386, xv_396, trivial⟩ rfl
end Go.Abs.V0
