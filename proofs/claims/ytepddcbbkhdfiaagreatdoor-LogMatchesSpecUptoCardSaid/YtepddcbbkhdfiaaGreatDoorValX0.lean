/- The laws' example: functions that were run meet what was found. -/
import Derived.Test.YtepddcbbkhdfiaaGreatDoorVal0
import Derived.KernelRfl
set_option linter.unusedSimpArgs false
set_option linter.unusedVariables false
set_option linter.unusedSectionVars false
namespace Go.Abs.V0
open Go.Proofs
set_option maxRecDepth 100000
theorem xv_200 : z1a K0 200 (z5qa z0Td) := rL Tryz.func52 (by kernel_rfl) trivial rfl
theorem xv_209 : z1a K0 209 (z5qa z46d) := rL Tryz.func27 (by kernel_rfl) ⟨xv_200, trivial⟩ rfl
theorem xv_180 : z1a K0 180 (z5qa z7dd) := z9jb v_n180 z9Uc
theorem xv_349 : z1a K0 349 (z5qa z4sc) := rL Tryz.func15 (by kernel_rfl) trivial rfl
theorem xv_165 : z1a K0 165 (z5qa z22c) := z9jb v_n165 z8td
theorem xv_12 : z1a K0 12 (z5qa z9pd) := rL Tryz.func68 (by kernel_rfl) trivial rfl
theorem xv_7 : z1a K0 7 (z5qa x_7) := rL Tryz.func113 (by kernel_rfl) ⟨xv_12, trivial⟩ rfl
theorem xv_164 : z1a K0 164 (z5qa z8cd) := rL Tryz.func117 (by kernel_rfl) ⟨xv_7, trivial⟩ rfl
theorem xv_166 : z1a K0 166 (z5qa z3Ld) := rL Tryz.func118 (by kernel_rfl) ⟨xv_164, trivial⟩ rfl
theorem xv_169 : z1a K0 169 (z5qa z3Vc) := rL Tryz.func84 (by kernel_rfl) ⟨xv_164, trivial⟩ rfl
theorem xv_193 : z1a K0 193 (z5qa z6Qd) := rL Tryz.func142 (by kernel_rfl) trivial rfl
theorem xv_194 : z1a K0 194 (z5qa z5Td) := rL Tryz.func143 (by kernel_rfl) trivial rfl
theorem xv_188 : z1a K0 188 (z5qa z04d) := rL Tryz.func122 (by kernel_rfl) ⟨xv_193, xv_194, trivial⟩ rfl
theorem xv_179 : z1a K0 179 (z5qa z4Bd) := rL Tryz.func81 (by kernel_rfl) ⟨xv_188, trivial⟩ rfl
theorem xv_189 : z1a K0 189 (z5qa z5Ud) := rL Tryz.func136 (by kernel_rfl) trivial rfl
theorem xv_190 : z1a K0 190 (z5qa z74d) := rL Tryz.func137 (by kernel_rfl) trivial rfl
theorem xv_181 : z1a K0 181 (z5qa z7Yd) := rL Tryz.func119 (by kernel_rfl) ⟨xv_189, xv_190, trivial⟩ rfl
theorem xv_182 : z1a K0 182 (z5qa z47d) := rL Tryz.func76 (by kernel_rfl) ⟨xv_165, xv_166, xv_169, xv_179, xv_180, xv_181, trivial⟩ rfl
theorem xv_350 : z1a K0 350 (z5qa z2Kd) := rL Tryz.func38 (by kernel_rfl) trivial rfl
theorem xv_8 : z1a K0 8 (z5qa x_8) := z9jb v_n8 z6Jd
theorem xv_39 : z1a K0 39 (z5qa z7ie) := rL Tryz.func112 (by kernel_rfl) ⟨xv_12, trivial⟩ rfl
theorem xv_139 : z1a K0 139 (z5qa z75d) := z9jb v_n139 z7zd
theorem xv_129 : z1a K0 129 (z5qa z4jd) := rL Tryz.func67 (by kernel_rfl) ⟨xv_139, trivial⟩ rfl
theorem xv_130 : z1a K0 130 (z5qa z5Yd) := rL Tryz.func114 (by kernel_rfl) ⟨xv_7, xv_12, xv_39, xv_129, trivial⟩ rfl
theorem yv_302 : z1a K0 302 (z5qa z31c) := rL Tryz.func66 (by kernel_rfl) ⟨xv_7, xv_12, xv_39, xv_129, xv_130, trivial⟩ rfl
theorem ya_302 : ∀ j, j < z7Kc.length → z7Tb z31c z7Kc j = true
 | 0, _ => z0wd
 | 1, _ => z3Cd
 | 2, _ => z4Hd
 | j + 3, h => absurd (show j + 3 < 3 from h) (by omega)
theorem xv_302 : z1a K0 302 (z5qa z9yd) := z0yb yv_302 (z41b ya_302)
theorem yv_303 : z1a K0 303 (z5qa z2Yc) := rL Tryz.func75 (by kernel_rfl) ⟨xv_8, xv_302, trivial⟩ rfl
theorem ya_303 : ∀ j, j < z5Lc.length → z7Tb z2Yc z5Lc j = true
 | 0, _ => z3Ed
 | 1, _ => z5Ed
 | 2, _ => z8Ld
 | j + 3, h => absurd (show j + 3 < 3 from h) (by omega)
theorem xv_303 : z1a K0 303 (z5qa z34c) := z0yb yv_303 (z41b ya_303)
theorem xc_372 : z63c (K0.wX z4Ad) z5ta Tryz.f74 = true := by kernel_rfl
theorem xk_372 : z5Ga z5ta.body = [(303, false)] := by kernel_rfl
theorem xi_372 : z3La K0 372 (z0hc z5vd) := z86b (z2mc (X := z4Ad) rfl (z9bc (K := K0.wX z4Ad) (f := 372) (F := z5ta) Tryz.func74 xc_372 (by rw [xk_372]; exact List.forall_mem_cons.2 ⟨vbG rfl rfl xv_303, List.forall_mem_nil _⟩) (z0Pc _ (z5qa z34c) rfl))) rfl (z9vd z34c)
theorem xc_354 : z3ta (K0.wX (z4Ed)) z1wa Tryz.f40 = true := by kernel_rfl
theorem xk_354 : (z4a z1wa.body).all (fun p => ([(182, false), (350, false)] : List (Nat × Bool)).contains p) = true := by kernel_rfl
theorem xj_354 : z1Ua z1wa.body = [372] := by kernel_rfl
theorem xv_354 : z1a K0 354 (z5qa z1Kd) := z6ae (K := K0) (X := z4Ed) (F := z1wa) (n := fuX) rfl Tryz.func40 xc_354 (z8c xk_354 (List.forall_mem_cons.2 ⟨vbG rfl rfl xv_182, List.forall_mem_cons.2 ⟨vbG rfl rfl xv_350, List.forall_mem_nil _⟩⟩)) (by rw [xj_354]; exact List.forall_mem_cons.2 ⟨viI rfl rfl xi_372, List.forall_mem_nil _⟩) (by kernel_rfl) (by kernel_rfl)
theorem xv_348 : z1a K0 348 (z5qa z1Mc) := rL Tryz.func11 (by kernel_rfl) ⟨xv_180, xv_349, xv_354, trivial⟩ rfl
theorem xc_371 : z3ta (K0.wX (z0Jd)) z0qa Tryz.f73 = true := by kernel_rfl
theorem xk_371 : (z4a z0qa.body).all (fun p => ([] : List (Nat × Bool)).contains p) = true := by kernel_rfl
theorem xj_371 : z1Ua z0qa.body = [372] := by kernel_rfl
theorem xv_371 : z1a K0 371 (z5qa z72d) := z6ae (K := K0) (X := z0Jd) (F := z0qa) (n := fuX) rfl Tryz.func73 xc_371 (z8c xk_371 (List.forall_mem_nil _)) (by rw [xj_371]; exact List.forall_mem_cons.2 ⟨viI rfl rfl xi_372, List.forall_mem_nil _⟩) (by kernel_rfl) (by kernel_rfl)
theorem xv_351 : z1a K0 351 (z5qa z84d) := rL Tryz.func37 (by kernel_rfl) ⟨xv_371, trivial⟩ rfl
theorem xv_191 : z1a K0 191 (z5qa z4Wd) := rL Tryz.func148 (by kernel_rfl) trivial rfl
theorem xv_192 : z1a K0 192 (z5qa z08d) := rL Tryz.func149 (by kernel_rfl) trivial rfl
theorem xv_170 : z1a K0 170 (z5qa z7Wd) := rL Tryz.func131 (by kernel_rfl) ⟨xv_191, xv_192, trivial⟩ rfl
theorem xv_167 : z1a K0 167 (z5qa z0Hd) := rL Tryz.func99 (by kernel_rfl) ⟨xv_170, trivial⟩ rfl
theorem xc_168 : ∀ g, z3ta (K0.wX (z8Md g)) z0ta Tryz.f72 = true := fun g => by kernel_rfl
theorem xk_168 : (z4a z0ta.body).all (fun p => ([(164, false), (165, false), (166, false), (167, false), (168, false), (169, false)] : List (Nat × Bool)).contains p) = true := by kernel_rfl
theorem xd_168 : z3ta K0 z0ta Tryz.f72 = true := by kernel_rfl
theorem xr_168 : ∀ k, z1a K0 168 (z5qa (z59c k))
 | 0 => z85b (F := z0ta) Tryz.func72 xd_168
 | k + 1 => z2de (K := K0) (X := z8Md (z59c k)) (F := z0ta) (n := fuX) rfl Tryz.func72 (xc_168 _) (z8c xk_168 (List.forall_mem_cons.2 ⟨vbG rfl rfl xv_164, List.forall_mem_cons.2 ⟨vbG rfl rfl xv_165, List.forall_mem_cons.2 ⟨vbG rfl rfl xv_166, List.forall_mem_cons.2 ⟨vbG rfl rfl xv_167, List.forall_mem_cons.2 ⟨vbG rfl rfl (xr_168 k), List.forall_mem_cons.2 ⟨vbG rfl rfl xv_169, List.forall_mem_nil _⟩⟩⟩⟩⟩⟩)) (by kernel_rfl)
theorem xv_168 : z1a K0 168 (z5qa z6Ad) := xr_168 12
theorem xc_183 : z3ta (K0.wX (z3xd)) z6ta Tryz.f82 = true := by kernel_rfl
theorem xk_183 : (z4a z6ta.body).all (fun p => ([] : List (Nat × Bool)).contains p) = true := by kernel_rfl
theorem xm_183 : z0Na K0 183 (z2ub z3Gd) := z16c (K := K0) (X := z3xd) (F := z6ta) (n := fuX) rfl Tryz.func82 xc_183 (z8c xk_183 (List.forall_mem_nil _)) (of_decide_eq_true (by kernel_rfl)) (by kernel_rfl) (by kernel_rfl)
theorem xi_184 : z3La K0 184 (z0hc z2zd) := z86b v_n184 rfl z6yd
theorem xc_370 : z3ta (K0.wX (z0Gd)) z4za Tryz.f71 = true := by kernel_rfl
theorem xk_370 : (z4a z4za.body).all (fun p => ([(8, false), (183, true)] : List (Nat × Bool)).contains p) = true := by kernel_rfl
theorem xj_370 : z1Ua z4za.body = [184] := by kernel_rfl
theorem xv_370 : z1a K0 370 (z5qa z01d) := z6ae (K := K0) (X := z0Gd) (F := z4za) (n := fuX) rfl Tryz.func71 xc_370 (z8c xk_370 (List.forall_mem_cons.2 ⟨vbG rfl rfl xv_8, List.forall_mem_cons.2 ⟨vbM rfl rfl rfl xm_183, List.forall_mem_nil _⟩⟩)) (by rw [xj_370]; exact List.forall_mem_cons.2 ⟨viI rfl rfl xi_184, List.forall_mem_nil _⟩) (by kernel_rfl) (by kernel_rfl)
theorem xc_352 : ∀ g, z3ta (K0.wX (z4Md g)) z0ua Tryz.f36 = true := fun g => by kernel_rfl
theorem xk_352 : (z4a z0ua.body).all (fun p => ([(168, false), (352, false), (370, false)] : List (Nat × Bool)).contains p) = true := by kernel_rfl
theorem xd_352 : z3ta K0 z0ua Tryz.f36 = true := by kernel_rfl
theorem xr_352 : ∀ k, z1a K0 352 (z5qa (z28c k))
 | 0 => z85b (F := z0ua) Tryz.func36 xd_352
 | k + 1 => z2de (K := K0) (X := z4Md (z28c k)) (F := z0ua) (n := fuX) rfl Tryz.func36 (xc_352 _) (z8c xk_352 (List.forall_mem_cons.2 ⟨vbG rfl rfl xv_168, List.forall_mem_cons.2 ⟨vbG rfl rfl (xr_352 k), List.forall_mem_cons.2 ⟨vbG rfl rfl xv_370, List.forall_mem_nil _⟩⟩⟩)) (by kernel_rfl)
theorem xv_352 : z1a K0 352 (z5qa z67d) := xr_352 12
theorem xv_353 : z1a K0 353 (z5qa z4yd) := rL Tryz.func9 (by kernel_rfl) ⟨xv_348, xv_349, xv_350, xv_351, xv_352, trivial⟩ rfl
theorem xc_185 : z3ta (K0.wX (z9rd)) z3ua Tryz.f44 = true := by kernel_rfl
theorem xk_185 : (z4a z3ua.body).all (fun p => ([(165, false), (168, false), (169, false), (179, false), (183, true)] : List (Nat × Bool)).contains p) = true := by kernel_rfl
theorem xj_185 : z1Ua z3ua.body = [184] := by kernel_rfl
theorem xv_185 : z1a K0 185 (z5qa z9sd) := z6ae (K := K0) (X := z9rd) (F := z3ua) (n := fuX) rfl Tryz.func44 xc_185 (z8c xk_185 (List.forall_mem_cons.2 ⟨vbG rfl rfl xv_165, List.forall_mem_cons.2 ⟨vbG rfl rfl xv_168, List.forall_mem_cons.2 ⟨vbG rfl rfl xv_169, List.forall_mem_cons.2 ⟨vbG rfl rfl xv_179, List.forall_mem_cons.2 ⟨vbM rfl rfl rfl xm_183, List.forall_mem_nil _⟩⟩⟩⟩⟩)) (by rw [xj_185]; exact List.forall_mem_cons.2 ⟨viI rfl rfl xi_184, List.forall_mem_nil _⟩) (by kernel_rfl) (by kernel_rfl)
theorem xv_355 : z1a K0 355 (z5qa z26d) := rL Tryz.func14 (by kernel_rfl) ⟨xv_185, xv_348, xv_349, trivial⟩ rfl
theorem xv_314 : z1a K0 314 (z5qa z03d) := rL Tryz.func144 (by kernel_rfl) trivial rfl
theorem xv_312 : z1a K0 312 (z5qa z51d) := rL Tryz.func129 (by kernel_rfl) ⟨xv_314, trivial⟩ rfl
theorem xv_293 : z1a K0 293 (z5qa z6Ud) := rL Tryz.func91 (by kernel_rfl) ⟨xv_312, trivial⟩ rfl
theorem xv_294 : z1a K0 294 (z5qa z5Rd) := rL Tryz.func90 (by kernel_rfl) trivial rfl
theorem xv_295 : z1a K0 295 (z5qa z0ad) := rL Tryz.func85 (by kernel_rfl) trivial rfl
theorem xv_296 : z1a K0 296 (z5qa z24d) := rL Tryz.func86 (by kernel_rfl) ⟨xv_295, trivial⟩ rfl
theorem xv_297 : z1a K0 297 (z5qa z4Zd) := rL Tryz.func88 (by kernel_rfl) ⟨xv_296, trivial⟩ rfl
theorem xv_313 : z1a K0 313 (z5qa z33d) := rL Tryz.func125 (by kernel_rfl) ⟨xv_297, trivial⟩ rfl
theorem xv_298 : z1a K0 298 (z5qa z10d) := rL Tryz.func87 (by kernel_rfl) ⟨xv_313, trivial⟩ rfl
theorem xv_132 : z1a K0 132 (z5qa z9Md) := rL Tryz.func128 (by kernel_rfl) trivial rfl
theorem xv_133 : z1a K0 133 (z5qa z35d) := rL Tryz.func126 (by kernel_rfl) ⟨xv_132, trivial⟩ rfl
theorem xv_301 : z1a K0 301 (z5qa z2Yd) := rL Tryz.func127 (by kernel_rfl) trivial rfl
theorem xv_299 : z1a K0 299 (z5qa z9Rd) := rL Tryz.func89 (by kernel_rfl) ⟨xv_132, xv_133, xv_301, trivial⟩ rfl
theorem yv_300 : z1a K0 300 (z5qa z7fc) := rL Tryz.func45 (by kernel_rfl) ⟨xv_293, xv_294, xv_295, xv_298, xv_299, trivial⟩ rfl
theorem ya_300 : ∀ j, j < z65b.length → z7Tb z7fc z65b j = true
 | 0, _ => z9xd
 | 1, _ => z6Cd
 | 2, _ => z2Cd
 | 3, _ => z8Gd
 | 4, _ => z4Nd
 | 5, _ => z8xd
 | 6, _ => z7Ed
 | j + 7, h => absurd (show j + 7 < 7 from h) (by omega)
theorem xv_300 : z1a K0 300 (z5qa z08c) := z0yb yv_300 (z41b ya_300)
theorem xv_356 : z1a K0 356 (z5qa z63d) := rL Tryz.func46 (by kernel_rfl) trivial rfl
theorem xv_357 : z1a K0 357 (z5qa z64d) := rL Tryz.func16 (by kernel_rfl) ⟨xv_300, xv_349, xv_356, trivial⟩ rfl
theorem xv_358 : z1a K0 358 (z5qa z0zd) := z9jb v_n358 z5Qc
theorem xv_359 : z1a K0 359 (z5qa z1Xd) := rL Tryz.func17 (by kernel_rfl) ⟨xv_348, xv_358, trivial⟩ rfl
theorem xv_360 : z1a K0 360 (z5qa z4Td) := rL Tryz.func18 (by kernel_rfl) ⟨xv_348, xv_349, xv_353, xv_358, trivial⟩ rfl
theorem xv_175 : z1a K0 175 (z5qa z7Qd) := rL Tryz.func100 (by kernel_rfl) trivial rfl
theorem xc_174 : z3ta (K0.wX (z9Ld)) z4Ea Tryz.f100 = true := by kernel_rfl
theorem xk_174 : (z4a z4Ea.body).all (fun p => ([] : List (Nat × Bool)).contains p) = true := by kernel_rfl
theorem xw_174 : z7ib K0 174 (z0Gc z9Wd) := runW (K := K0) (X := z9Ld) (F := z4Ea) (n := fuX) rfl Tryz.func100 xc_174 (z8c xk_174 (List.forall_mem_nil _)) (by kernel_rfl) (by kernel_rfl)
theorem xv_176 : z1a K0 176 (z5qa z25d) := rG [(165, false), (167, false), (169, false), (175, false), (500000174, true)] rfl Tryz.func58 (by kernel_rfl) ⟨vbG rfl rfl xv_165, vbG rfl rfl xv_167, vbG rfl rfl xv_169, vbG rfl rfl xv_175, vbW (f := 174) rfl (by decide) rfl xw_174, trivial⟩
theorem xv_361 : z1a K0 361 (z5qa z3Xd) := rL Tryz.func56 (by kernel_rfl) ⟨xv_300, trivial⟩ rfl
theorem xv_373 : z1a K0 373 (z5qa z0Ud) := rL Tryz.func98 (by kernel_rfl) ⟨xv_361, trivial⟩ rfl
theorem xv_362 : z1a K0 362 (z5qa z95d) := rL Tryz.func57 (by kernel_rfl) ⟨xv_373, trivial⟩ rfl
theorem xv_363 : z1a K0 363 (z5qa z5Zd) := rL Tryz.func32 (by kernel_rfl) ⟨xv_176, xv_185, xv_354, xv_362, trivial⟩ rfl
theorem xv_374 : z1a K0 374 (z5qa z71d) := z9jb v_n374 z1gd
theorem xv_364 : z1a K0 364 (z5qa z2Qd) := rL Tryz.func59 (by kernel_rfl) ⟨xv_374, trivial⟩ rfl
theorem xv_365 : z1a K0 365 (z5qa z7Td) := rL Tryz.func33 (by kernel_rfl) ⟨xv_180, xv_364, trivial⟩ rfl
theorem xv_45 : z1a K0 45 (z5qa z0Vd) := rL Tryz.func62 (by kernel_rfl) trivial rfl
theorem xv_47 : z1a K0 47 (z5qa z0Sd) := rL Tryz.func102 (by kernel_rfl) ⟨xv_45, trivial⟩ rfl
theorem xv_48 : z1a K0 48 (z5qa z1le) := rL Tryz.func103 (by kernel_rfl) ⟨xv_47, trivial⟩ rfl
theorem xv_55 : z1a K0 55 (z5qa x_55) := rL Tryz.func63 (by kernel_rfl) ⟨xv_47, xv_48, trivial⟩ rfl
theorem xv_58 : z1a K0 58 (z5qa x_58) := rL Tryz.func65 (by kernel_rfl) ⟨xv_47, trivial⟩ rfl
theorem xc_316 : z3ta (K0.wX (z7Ld)) z3Ga Tryz.f106 = true := by kernel_rfl
theorem xk_316 : (z4a z3Ga.body).all (fun p => ([] : List (Nat × Bool)).contains p) = true := by kernel_rfl
theorem xm_316 : z0Na K0 316 (z2ub z9wd) := z16c (K := K0) (X := z7Ld) (F := z3Ga) (n := fuX) rfl Tryz.func106 xc_316 (z8c xk_316 (List.forall_mem_nil _)) (of_decide_eq_true (by kernel_rfl)) (by kernel_rfl) (by kernel_rfl)
theorem xc_51 : z3ta (K0.wX (z0je)) z1ab Tryz.f132 = true := by kernel_rfl
theorem xk_51 : (z4a z1ab.body).all (fun p => ([] : List (Nat × Bool)).contains p) = true := by kernel_rfl
theorem xm_51 : z0Na K0 51 (z2ub m_51) := z16c (K := K0) (X := z0je) (F := z1ab) (n := fuX) rfl Tryz.func132 xc_51 (z8c xk_51 (List.forall_mem_nil _)) (of_decide_eq_true (by kernel_rfl)) (by kernel_rfl) (by kernel_rfl)
theorem xc_61 : z3ta (K0.wX (z9ie)) z9Va Tryz.f150 = true := by kernel_rfl
theorem xk_61 : (z4a z9Va.body).all (fun p => ([(45, false)] : List (Nat × Bool)).contains p) = true := by kernel_rfl
theorem xm_61 : z0Na K0 61 (z2ub m_61) := z16c (K := K0) (X := z9ie) (F := z9Va) (n := fuX) rfl Tryz.func150 xc_61 (z8c xk_61 (List.forall_mem_cons.2 ⟨vbG rfl rfl xv_45, List.forall_mem_nil _⟩)) (of_decide_eq_true (by kernel_rfl)) (by kernel_rfl) (by kernel_rfl)
theorem xv_52 : z1a K0 52 (z5qa x_52) := rG [(47, false), (51, true), (61, true)] rfl Tryz.func105 (by kernel_rfl) ⟨vbG rfl rfl xv_47, vbM rfl rfl rfl xm_51, vbM rfl rfl rfl xm_61, trivial⟩
theorem xc_323 : z3ta (K0.wX (z6Hd)) z8Aa Tryz.f104 = true := by kernel_rfl
theorem xk_323 : (z4a z8Aa.body).all (fun p => ([(52, false)] : List (Nat × Bool)).contains p) = true := by kernel_rfl
theorem xm_323 : z0Na K0 323 (z2ub z1Md) := z16c (K := K0) (X := z6Hd) (F := z8Aa) (n := fuX) rfl Tryz.func104 xc_323 (z8c xk_323 (List.forall_mem_cons.2 ⟨vbG rfl rfl xv_52, List.forall_mem_nil _⟩)) (of_decide_eq_true (by kernel_rfl)) (by kernel_rfl) (by kernel_rfl)
theorem xc_324 : z3ta (K0.wX (z6Id)) z6za Tryz.f107 = true := by kernel_rfl
theorem xk_324 : (z4a z6za.body).all (fun p => ([(48, false)] : List (Nat × Bool)).contains p) = true := by kernel_rfl
theorem xm_324 : z0Na K0 324 (z2ub z3Hd) := z16c (K := K0) (X := z6Id) (F := z6za) (n := fuX) rfl Tryz.func107 xc_324 (z8c xk_324 (List.forall_mem_cons.2 ⟨vbG rfl rfl xv_48, List.forall_mem_nil _⟩)) (of_decide_eq_true (by kernel_rfl)) (by kernel_rfl) (by kernel_rfl)
theorem xc_326 : z3ta (K0.wX (z5Fd)) z4Ba Tryz.f111 = true := by kernel_rfl
theorem xk_326 : (z4a z4Ba.body).all (fun p => ([(45, false)] : List (Nat × Bool)).contains p) = true := by kernel_rfl
theorem xm_326 : z0Na K0 326 (z2ub z8rd) := z16c (K := K0) (X := z5Fd) (F := z4Ba) (n := fuX) rfl Tryz.func111 xc_326 (z8c xk_326 (List.forall_mem_cons.2 ⟨vbG rfl rfl xv_45, List.forall_mem_nil _⟩)) (of_decide_eq_true (by kernel_rfl)) (by kernel_rfl) (by kernel_rfl)
theorem xc_318 : z3ta (K0.wX (z9Bd)) z5Da Tryz.f108 = true := by kernel_rfl
theorem xk_318 : (z4a z5Da.body).all (fun p => ([(316, true), (323, true), (324, true), (326, true)] : List (Nat × Bool)).contains p) = true := by kernel_rfl
theorem xm_318 : z0Na K0 318 (z2ub z59d) := z16c (K := K0) (X := z9Bd) (F := z5Da) (n := fuX) rfl Tryz.func108 xc_318 (z8c xk_318 (List.forall_mem_cons.2 ⟨vbM rfl rfl rfl xm_316, List.forall_mem_cons.2 ⟨vbM rfl rfl rfl xm_323, List.forall_mem_cons.2 ⟨vbM rfl rfl rfl xm_324, List.forall_mem_cons.2 ⟨vbM rfl rfl rfl xm_326, List.forall_mem_nil _⟩⟩⟩⟩)) (of_decide_eq_true (by kernel_rfl)) (by kernel_rfl) (by kernel_rfl)
theorem xv_320 : z1a K0 320 (z5qa z9Td) := rL Tryz.func110 (by kernel_rfl) trivial rfl
theorem xc_325 : z3ta (K0.wX (z6Gd)) z4Aa Tryz.f109 = true := by kernel_rfl
theorem xk_325 : (z4a z4Aa.body).all (fun p => ([(320, false)] : List (Nat × Bool)).contains p) = true := by kernel_rfl
theorem xm_325 : z0Na K0 325 (z2ub z1ae) := z16c (K := K0) (X := z6Gd) (F := z4Aa) (n := fuX) rfl Tryz.func109 xc_325 (z8c xk_325 (List.forall_mem_cons.2 ⟨vbG rfl rfl xv_320, List.forall_mem_nil _⟩)) (of_decide_eq_true (by kernel_rfl)) (by kernel_rfl) (by kernel_rfl)
theorem yv_322 : z1a K0 322 (z5qa z2jd) := rG [(295, false), (300, false), (316, true), (318, true), (323, true), (324, true), (325, true), (326, true)] rfl Tryz.func64 (by kernel_rfl) ⟨vbG rfl rfl xv_295, vbG rfl rfl xv_300, vbM rfl rfl rfl xm_316, vbM rfl rfl rfl xm_318, vbM rfl rfl rfl xm_323, vbM rfl rfl rfl xm_324, vbM rfl rfl rfl xm_325, vbM rfl rfl rfl xm_326, trivial⟩
theorem ya_322 : ∀ j, j < z24c.length → z7Tb z2jd z24c j = true
 | 0, _ => z1Fd
 | 1, _ => z5Md
 | j + 2, h => absurd (show j + 2 < 2 from h) (by omega)
theorem xv_322 : z1a K0 322 (z5qa z87d) := z0yb yv_322 (z41b ya_322)
theorem xc_366 : z3ta (K0.wX (z3ud)) z53a Tryz.f60 = true := by kernel_rfl
theorem xk_366 : (z4a z53a.body).all (fun p => ([] : List (Nat × Bool)).contains p) = true := by kernel_rfl
theorem xm_366 : z0Na K0 366 (z2ub z2Ld) := z16c (K := K0) (X := z3ud) (F := z53a) (n := fuX) rfl Tryz.func60 xc_366 (z8c xk_366 (List.forall_mem_nil _)) (of_decide_eq_true (by kernel_rfl)) (by kernel_rfl) (by kernel_rfl)
theorem xc_367 : z3ta (K0.wX (z5Kd)) z73a Tryz.f61 = true := by kernel_rfl
theorem xk_367 : (z4a z73a.body).all (fun p => ([(366, true)] : List (Nat × Bool)).contains p) = true := by kernel_rfl
theorem xw_367 : z7ib K0 367 (z0Gc z7Vd) := runW (K := K0) (X := z5Kd) (F := z73a) (n := fuX) rfl Tryz.func61 xc_367 (z8c xk_367 (List.forall_mem_cons.2 ⟨vbM rfl rfl rfl xm_366, List.forall_mem_nil _⟩)) (by kernel_rfl) (by kernel_rfl)
theorem xv_368 : z1a K0 368 (z5qa z8Xd) := rG [(45, false), (55, false), (58, false), (322, false), (366, true), (500000367, true)] rfl Tryz.func34 (by kernel_rfl) ⟨vbG rfl rfl xv_45, vbG rfl rfl xv_55, vbG rfl rfl xv_58, vbG rfl rfl xv_322, vbM rfl rfl rfl xm_366, vbW (f := 367) rfl (by decide) rfl xw_367, trivial⟩
theorem xv_41 : z1a K0 41 (z5qa x_41) := rL Tryz.func69 (by kernel_rfl) ⟨xv_7, xv_12, trivial⟩ rfl
theorem xv_43 : z1a K0 43 (z5qa x_43) := rL Tryz.func70 (by kernel_rfl) ⟨xv_12, trivial⟩ rfl
theorem xv_369 : z1a K0 369 (z5qa z79d) := rL Tryz.func35 (by kernel_rfl) ⟨xv_12, xv_41, xv_43, xv_129, xv_302, trivial⟩ rfl
theorem xv_60 : z1a K0 60 (z5qa x_60) := rL Tryz.func20 (by kernel_rfl) trivial rfl
theorem xv_54 : z1a K0 54 (z5qa x_54) := rL Tryz.func97 (by kernel_rfl) trivial rfl
theorem xv_149 : z1a K0 149 (z5qa z8Sd) := rL Tryz.func53 (by kernel_rfl) ⟨xv_54, trivial⟩ rfl
theorem xv_329 : z1a K0 329 (z5qa z8Yd) := rL Tryz.func92 (by kernel_rfl) ⟨xv_149, trivial⟩ rfl
theorem xv_376 : z1a K0 376 (z5qa z94d) := rL Tryz.func48 (by kernel_rfl) ⟨xv_329, trivial⟩ rfl
theorem xv_377 : z1a K0 377 (z5qa z4Qd) := rL Tryz.func19 (by kernel_rfl) ⟨xv_60, xv_376, trivial⟩ rfl
theorem xv_20 : z1a K0 20 (z5qa z13d) := z9jb v_n20 z5fd
theorem xv_23 : z1a K0 23 (z5qa z7ae) := rL Tryz.func79 (by kernel_rfl) trivial rfl
theorem xv_202 : z1a K0 202 (z5qa z8vd) := rL Tryz.func42 (by kernel_rfl) ⟨xv_20, xv_23, trivial⟩ rfl
theorem xv_214 : z1a K0 214 (z5qa z3Vd) := rL Tryz.func55 (by kernel_rfl) trivial rfl
theorem xv_211 : z1a K0 211 (z5qa z1td) := rL Tryz.func30 (by kernel_rfl) ⟨xv_214, trivial⟩ rfl
theorem xv_213 : z1a K0 213 (z5qa z82d) := rL Tryz.func12 (by kernel_rfl) ⟨xv_20, xv_202, xv_211, trivial⟩ rfl
theorem xv_375 : z1a K0 375 (z5qa z8Fd) := rL Tryz.func10 (by kernel_rfl) trivial rfl
theorem xv_201 : z1a K0 201 (z5qa z8Ud) := rL Tryz.func96 (by kernel_rfl) ⟨xv_20, xv_23, trivial⟩ rfl
theorem xv_212 : z1a K0 212 (z5qa z54d) := rL Tryz.func51 (by kernel_rfl) ⟨xv_201, xv_202, xv_211, trivial⟩ rfl
theorem xv_30 : z1a K0 30 (z5qa z56d) := rL Tryz.func141 (by kernel_rfl) trivial rfl
theorem xv_29 : z1a K0 29 (z5qa z0ke) := rL Tryz.func121 (by kernel_rfl) ⟨xv_30, trivial⟩ rfl
theorem xv_40 : z1a K0 40 (z5qa z3le) := rL Tryz.func145 (by kernel_rfl) ⟨xv_30, trivial⟩ rfl
theorem xv_147 : z1a K0 147 (z5qa z1Qd) := rL Tryz.func146 (by kernel_rfl) ⟨xv_29, xv_30, xv_40, trivial⟩ rfl
theorem xv_332 : z1a K0 332 (z5qa z14d) := rL Tryz.func147 (by kernel_rfl) trivial rfl
theorem xv_333 : z1a K0 333 (z5qa z2Ud) := rL Tryz.func130 (by kernel_rfl) ⟨xv_23, xv_29, xv_30, xv_40, xv_147, xv_332, trivial⟩ rfl
theorem yv_334 : z1a K0 334 (z5qa z6Tc) := rL Tryz.func95 (by kernel_rfl) ⟨xv_20, xv_333, trivial⟩ rfl
theorem ya_334 : ∀ j, j < z2Kc.length → z7Tb z6Tc z2Kc j = true
 | 0, _ => z1Ld
 | 1, _ => z0Ad
 | 2, _ => z5Jd
 | j + 3, h => absurd (show j + 3 < 3 from h) (by omega)
theorem xv_334 : z1a K0 334 (z5qa z9Yd) := z0yb yv_334 (z41b ya_334)
theorem xv_382 : z1a K0 382 (z5qa z07d) := rL Tryz.func50 (by kernel_rfl) ⟨xv_334, trivial⟩ rfl
theorem xv_379 : z1a K0 379 (z5qa z5ae) := rL Tryz.func25 (by kernel_rfl) ⟨xv_212, xv_375, xv_382, trivial⟩ rfl
theorem xv_386 : z1a K0 386 (z5qa z41d) := rL Tryz.func28 (by kernel_rfl) ⟨xv_213, xv_375, xv_379, trivial⟩ rfl
theorem xv_396 : z1a K0 396 (z5qa z6Wd) := rL Tryz.func31 (by kernel_rfl) trivial rfl
theorem xv_391 : z1a K0 391 (z5qa z67c) := rL Tryz.func8 (by kernel_rfl) ⟨xv_209, xv_348, xv_349, xv_353, xv_355, xv_357, xv_359, xv_360, xv_363, xv_365, xv_368, xv_369, xv_377, xv_386, xv_396, trivial⟩ rfl
end Go.Abs.V0
