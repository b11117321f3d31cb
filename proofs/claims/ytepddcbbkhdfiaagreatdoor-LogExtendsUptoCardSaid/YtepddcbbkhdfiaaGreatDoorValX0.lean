/- The laws' example: functions that were run meet what was found. -/
import Derived.Test.YtepddcbbkhdfiaaGreatDoorVal0
import Derived.KernelRfl
set_option linter.unusedSimpArgs false
set_option linter.unusedVariables false
set_option linter.unusedSectionVars false
namespace Go.Abs.V0
open Go.Proofs
set_option maxRecDepth 100000
theorem xv_200 : z6a K0 200 (z1c z9sd) := rL Tryz.func52 (by kernel_rfl) trivial rfl
theorem xv_209 : z6a K0 209 (z1c z4sd) := rL Tryz.func27 (by kernel_rfl) ⟨xv_200, trivial⟩ rfl
theorem xv_180 : z6a K0 180 (z1c z6sc) := z84 v_n180 z0bc
theorem xv_349 : z6a K0 349 (z1c z1wb) := rL Tryz.func15 (by kernel_rfl) trivial rfl
theorem xv_165 : z6a K0 165 (z1c z50b) := z84 v_n165 z7Qc
theorem xv_12 : z6a K0 12 (z1c z4Hc) := rL Tryz.func68 (by kernel_rfl) trivial rfl
theorem xv_7 : z6a K0 7 (z1c x_7) := rL Tryz.func113 (by kernel_rfl) ⟨xv_12, trivial⟩ rfl
theorem xv_164 : z6a K0 164 (z1c z3Bc) := rL Tryz.func117 (by kernel_rfl) ⟨xv_7, trivial⟩ rfl
theorem xv_166 : z6a K0 166 (z1c z36c) := rL Tryz.func118 (by kernel_rfl) ⟨xv_164, trivial⟩ rfl
theorem xv_169 : z6a K0 169 (z1c z00b) := rL Tryz.func84 (by kernel_rfl) ⟨xv_164, trivial⟩ rfl
theorem xv_193 : z6a K0 193 (z1c z0zd) := rL Tryz.func142 (by kernel_rfl) trivial rfl
theorem xv_194 : z6a K0 194 (z1c z9Md) := rL Tryz.func143 (by kernel_rfl) trivial rfl
theorem xv_188 : z6a K0 188 (z1c z5Od) := rL Tryz.func122 (by kernel_rfl) ⟨xv_193, xv_194, trivial⟩ rfl
theorem xv_179 : z6a K0 179 (z1c z3Tc) := rL Tryz.func81 (by kernel_rfl) ⟨xv_188, trivial⟩ rfl
theorem xv_189 : z6a K0 189 (z1c z6yd) := rL Tryz.func136 (by kernel_rfl) trivial rfl
theorem xv_190 : z6a K0 190 (z1c z9vd) := rL Tryz.func137 (by kernel_rfl) trivial rfl
theorem xv_181 : z6a K0 181 (z1c z9Ld) := rL Tryz.func119 (by kernel_rfl) ⟨xv_189, xv_190, trivial⟩ rfl
theorem xv_182 : z6a K0 182 (z1c z4ud) := rL Tryz.func76 (by kernel_rfl) ⟨xv_165, xv_166, xv_169, xv_179, xv_180, xv_181, trivial⟩ rfl
theorem xv_350 : z6a K0 350 (z1c z4Tc) := rL Tryz.func38 (by kernel_rfl) trivial rfl
theorem xv_8 : z6a K0 8 (z1c x_8) := z84 v_n8 z6bd
theorem xv_39 : z6a K0 39 (z1c z7de) := rL Tryz.func112 (by kernel_rfl) ⟨xv_12, trivial⟩ rfl
theorem xv_139 : z6a K0 139 (z1c z7wd) := z84 v_n139 z9Rc
theorem xv_129 : z6a K0 129 (z1c z9jc) := rL Tryz.func67 (by kernel_rfl) ⟨xv_139, trivial⟩ rfl
theorem xv_130 : z6a K0 130 (z1c z1qd) := rL Tryz.func114 (by kernel_rfl) ⟨xv_7, xv_12, xv_39, xv_129, trivial⟩ rfl
theorem yv_302 : z6a K0 302 (z1c z48b) := rL Tryz.func66 (by kernel_rfl) ⟨xv_7, xv_12, xv_39, xv_129, xv_130, trivial⟩ rfl
theorem ya_302 : ∀ j, j < z0Rb.length → z7Oa z48b z0Rb j = true
 | 0, _ => z1ed
 | 1, _ => z16c
 | 2, _ => z1Qc
 | j + 3, h => absurd (show j + 3 < 3 from h) (by omega)
theorem xv_302 : z6a K0 302 (z1c z1dd) := z8oa yv_302 (z81a ya_302)
theorem yv_303 : z6a K0 303 (z1c z3ac) := rL Tryz.func75 (by kernel_rfl) ⟨xv_8, xv_302, trivial⟩ rfl
theorem ya_303 : ∀ j, j < z4Rb.length → z7Oa z3ac z4Rb j = true
 | 0, _ => z28c
 | 1, _ => z8Yc
 | 2, _ => z10c
 | j + 3, h => absurd (show j + 3 < 3 from h) (by omega)
theorem xv_303 : z6a K0 303 (z1c z1Xb) := z8oa yv_303 (z81a ya_303)
theorem xc_372 : z38b (K0.wX z3Nc) z0f Tryz.f74 = true := by kernel_rfl
theorem xk_372 : z5s z0f.body = [(303, false)] := by kernel_rfl
theorem xi_372 : z0x K0 372 (z1ub z9bd) := z09a (z8ob (X := z3Nc) rfl (z79a (K := K0.wX z3Nc) (f := 372) (F := z0f) Tryz.func74 xc_372 (by rw [xk_372]; exact List.forall_mem_cons.2 ⟨vbG rfl rfl xv_303, List.forall_mem_nil _⟩) (z4cc _ (z1c z1Xb) rfl))) rfl (z7Yc z1Xb)
theorem xc_354 : z2f (K0.wX (z46c)) z0i Tryz.f40 = true := by kernel_rfl
theorem xk_354 : (z7b z0i.body).all (fun p => ([(182, false), (350, false)] : List (Nat × Bool)).contains p) = true := by kernel_rfl
theorem xj_354 : z2F z0i.body = [372] := by kernel_rfl
theorem xv_354 : z6a K0 354 (z1c z7Xc) := z7Zd (K := K0) (X := z46c) (F := z0i) (n := fuX) rfl Tryz.func40 xc_354 (z0Q xk_354 (List.forall_mem_cons.2 ⟨vbG rfl rfl xv_182, List.forall_mem_cons.2 ⟨vbG rfl rfl xv_350, List.forall_mem_nil _⟩⟩)) (by rw [xj_354]; exact List.forall_mem_cons.2 ⟨viI rfl rfl xi_372, List.forall_mem_nil _⟩) (by kernel_rfl) (by kernel_rfl)
theorem xv_348 : z6a K0 348 (z1c z5Tb) := rL Tryz.func11 (by kernel_rfl) ⟨xv_180, xv_349, xv_354, trivial⟩ rfl
theorem xc_371 : z2f (K0.wX (z2Uc)) z7a Tryz.f73 = true := by kernel_rfl
theorem xk_371 : (z7b z7a.body).all (fun p => ([] : List (Nat × Bool)).contains p) = true := by kernel_rfl
theorem xj_371 : z2F z7a.body = [372] := by kernel_rfl
theorem xv_371 : z6a K0 371 (z1c z1vd) := z7Zd (K := K0) (X := z2Uc) (F := z7a) (n := fuX) rfl Tryz.func73 xc_371 (z0Q xk_371 (List.forall_mem_nil _)) (by rw [xj_371]; exact List.forall_mem_cons.2 ⟨viI rfl rfl xi_372, List.forall_mem_nil _⟩) (by kernel_rfl) (by kernel_rfl)
theorem xv_351 : z6a K0 351 (z1c z1Ld) := rL Tryz.func37 (by kernel_rfl) ⟨xv_371, trivial⟩ rfl
theorem xv_191 : z6a K0 191 (z1c z6vd) := rL Tryz.func148 (by kernel_rfl) trivial rfl
theorem xv_192 : z6a K0 192 (z1c z7yd) := rL Tryz.func149 (by kernel_rfl) trivial rfl
theorem xv_170 : z6a K0 170 (z1c z7Bd) := rL Tryz.func131 (by kernel_rfl) ⟨xv_191, xv_192, trivial⟩ rfl
theorem xv_167 : z6a K0 167 (z1c z72c) := rL Tryz.func99 (by kernel_rfl) ⟨xv_170, trivial⟩ rfl
theorem xc_168 : ∀ g, z2f (K0.wX (z2Tc g)) z9e Tryz.f72 = true := fun g => by kernel_rfl
theorem xk_168 : (z7b z9e.body).all (fun p => ([(164, false), (165, false), (166, false), (167, false), (168, false), (169, false)] : List (Nat × Bool)).contains p) = true := by kernel_rfl
theorem xd_168 : z2f K0 z9e Tryz.f72 = true := by kernel_rfl
theorem xr_168 : ∀ k, z6a K0 168 (z1c (z5wc k))
 | 0 => z86a (F := z9e) Tryz.func72 xd_168
 | k + 1 => z6Sd (K := K0) (X := z2Tc (z5wc k)) (F := z9e) (n := fuX) rfl Tryz.func72 (xc_168 _) (z0Q xk_168 (List.forall_mem_cons.2 ⟨vbG rfl rfl xv_164, List.forall_mem_cons.2 ⟨vbG rfl rfl xv_165, List.forall_mem_cons.2 ⟨vbG rfl rfl xv_166, List.forall_mem_cons.2 ⟨vbG rfl rfl xv_167, List.forall_mem_cons.2 ⟨vbG rfl rfl (xr_168 k), List.forall_mem_cons.2 ⟨vbG rfl rfl xv_169, List.forall_mem_nil _⟩⟩⟩⟩⟩⟩)) (by kernel_rfl)
theorem xv_168 : z6a K0 168 (z1c z5ed) := xr_168 12
theorem xc_183 : z2f (K0.wX (z44c)) z1f Tryz.f82 = true := by kernel_rfl
theorem xk_183 : (z7b z1f.body).all (fun p => ([] : List (Nat × Bool)).contains p) = true := by kernel_rfl
theorem xm_183 : z5y K0 183 (z4ja z11c) := z8hc (K := K0) (X := z44c) (F := z1f) (n := fuX) rfl Tryz.func82 xc_183 (z0Q xk_183 (List.forall_mem_nil _)) (of_decide_eq_true (by kernel_rfl)) (by kernel_rfl) (by kernel_rfl)
theorem xi_184 : z0x K0 184 (z1ub z18c) := z09a v_n184 rfl z0Yc
theorem xc_370 : z2f (K0.wX (z1Xc)) z0l Tryz.f71 = true := by kernel_rfl
theorem xk_370 : (z7b z0l.body).all (fun p => ([(8, false), (183, true)] : List (Nat × Bool)).contains p) = true := by kernel_rfl
theorem xj_370 : z2F z0l.body = [184] := by kernel_rfl
theorem xv_370 : z6a K0 370 (z1c z9wd) := z7Zd (K := K0) (X := z1Xc) (F := z0l) (n := fuX) rfl Tryz.func71 xc_370 (z0Q xk_370 (List.forall_mem_cons.2 ⟨vbG rfl rfl xv_8, List.forall_mem_cons.2 ⟨vbM rfl rfl rfl xm_183, List.forall_mem_nil _⟩⟩)) (by rw [xj_370]; exact List.forall_mem_cons.2 ⟨viI rfl rfl xi_184, List.forall_mem_nil _⟩) (by kernel_rfl) (by kernel_rfl)
theorem xc_352 : ∀ g, z2f (K0.wX (z1Zc g)) z5f Tryz.f36 = true := fun g => by kernel_rfl
theorem xk_352 : (z7b z5f.body).all (fun p => ([(168, false), (352, false), (370, false)] : List (Nat × Bool)).contains p) = true := by kernel_rfl
theorem xd_352 : z2f K0 z5f Tryz.f36 = true := by kernel_rfl
theorem xr_352 : ∀ k, z6a K0 352 (z1c (z0xc k))
 | 0 => z86a (F := z5f) Tryz.func36 xd_352
 | k + 1 => z6Sd (K := K0) (X := z1Zc (z0xc k)) (F := z5f) (n := fuX) rfl Tryz.func36 (xc_352 _) (z0Q xk_352 (List.forall_mem_cons.2 ⟨vbG rfl rfl xv_168, List.forall_mem_cons.2 ⟨vbG rfl rfl (xr_352 k), List.forall_mem_cons.2 ⟨vbG rfl rfl xv_370, List.forall_mem_nil _⟩⟩⟩)) (by kernel_rfl)
theorem xv_352 : z6a K0 352 (z1c z1Kd) := xr_352 12
theorem xv_353 : z6a K0 353 (z1c z8Qc) := rL Tryz.func9 (by kernel_rfl) ⟨xv_348, xv_349, xv_350, xv_351, xv_352, trivial⟩ rfl
theorem xc_185 : z2f (K0.wX (z7Mc)) z2g Tryz.f44 = true := by kernel_rfl
theorem xk_185 : (z7b z2g.body).all (fun p => ([(165, false), (168, false), (169, false), (179, false), (183, true)] : List (Nat × Bool)).contains p) = true := by kernel_rfl
theorem xj_185 : z2F z2g.body = [184] := by kernel_rfl
theorem xv_185 : z6a K0 185 (z1c z94c) := z7Zd (K := K0) (X := z7Mc) (F := z2g) (n := fuX) rfl Tryz.func44 xc_185 (z0Q xk_185 (List.forall_mem_cons.2 ⟨vbG rfl rfl xv_165, List.forall_mem_cons.2 ⟨vbG rfl rfl xv_168, List.forall_mem_cons.2 ⟨vbG rfl rfl xv_169, List.forall_mem_cons.2 ⟨vbG rfl rfl xv_179, List.forall_mem_cons.2 ⟨vbM rfl rfl rfl xm_183, List.forall_mem_nil _⟩⟩⟩⟩⟩)) (by rw [xj_185]; exact List.forall_mem_cons.2 ⟨viI rfl rfl xi_184, List.forall_mem_nil _⟩) (by kernel_rfl) (by kernel_rfl)
theorem xv_355 : z6a K0 355 (z1c z1ud) := rL Tryz.func14 (by kernel_rfl) ⟨xv_185, xv_348, xv_349, trivial⟩ rfl
theorem xv_314 : z6a K0 314 (z1c z3vd) := rL Tryz.func144 (by kernel_rfl) trivial rfl
theorem xv_312 : z6a K0 312 (z1c z4rd) := rL Tryz.func129 (by kernel_rfl) ⟨xv_314, trivial⟩ rfl
theorem xv_293 : z6a K0 293 (z1c z0Gd) := rL Tryz.func91 (by kernel_rfl) ⟨xv_312, trivial⟩ rfl
theorem xv_294 : z6a K0 294 (z1c z5Dd) := rL Tryz.func90 (by kernel_rfl) trivial rfl
theorem xv_295 : z6a K0 295 (z1c z8pc) := rL Tryz.func85 (by kernel_rfl) trivial rfl
theorem xv_296 : z6a K0 296 (z1c z4Pd) := rL Tryz.func86 (by kernel_rfl) ⟨xv_295, trivial⟩ rfl
theorem xv_297 : z6a K0 297 (z1c z6qd) := rL Tryz.func88 (by kernel_rfl) ⟨xv_296, trivial⟩ rfl
theorem xv_313 : z6a K0 313 (z1c z2qd) := rL Tryz.func125 (by kernel_rfl) ⟨xv_297, trivial⟩ rfl
theorem xv_298 : z6a K0 298 (z1c z1Md) := rL Tryz.func87 (by kernel_rfl) ⟨xv_313, trivial⟩ rfl
theorem xv_132 : z6a K0 132 (z1c z3Rc) := rL Tryz.func128 (by kernel_rfl) trivial rfl
theorem xv_133 : z6a K0 133 (z1c z4Hd) := rL Tryz.func126 (by kernel_rfl) ⟨xv_132, trivial⟩ rfl
theorem xv_301 : z6a K0 301 (z1c z3Od) := rL Tryz.func127 (by kernel_rfl) trivial rfl
theorem xv_299 : z6a K0 299 (z1c z1Pd) := rL Tryz.func89 (by kernel_rfl) ⟨xv_132, xv_133, xv_301, trivial⟩ rfl
theorem yv_300 : z6a K0 300 (z1c z89a) := rL Tryz.func45 (by kernel_rfl) ⟨xv_293, xv_294, xv_295, xv_298, xv_299, trivial⟩ rfl
theorem ya_300 : ∀ j, j < z64a.length → z7Oa z89a z64a j = true
 | 0, _ => z63c
 | 1, _ => z25c
 | 2, _ => z67c
 | 3, _ => z4Oc
 | 4, _ => z27c
 | 5, _ => z06c
 | 6, _ => z2Xc
 | j + 7, h => absurd (show j + 7 < 7 from h) (by omega)
theorem xv_300 : z6a K0 300 (z1c z6vc) := z8oa yv_300 (z81a ya_300)
theorem xv_356 : z6a K0 356 (z1c z4Ld) := rL Tryz.func46 (by kernel_rfl) trivial rfl
theorem xv_357 : z6a K0 357 (z1c z4Fd) := rL Tryz.func16 (by kernel_rfl) ⟨xv_300, xv_349, xv_356, trivial⟩ rfl
theorem xv_358 : z6a K0 358 (z1c z62c) := z84 v_n358 z4Yb
theorem xv_359 : z6a K0 359 (z1c z4Nd) := rL Tryz.func17 (by kernel_rfl) ⟨xv_348, xv_358, trivial⟩ rfl
theorem xv_360 : z6a K0 360 (z1c z3Kd) := rL Tryz.func18 (by kernel_rfl) ⟨xv_348, xv_349, xv_353, xv_358, trivial⟩ rfl
theorem xv_175 : z6a K0 175 (z1c z5od) := rL Tryz.func100 (by kernel_rfl) trivial rfl
theorem xc_174 : z2f (K0.wX (z49c)) z3q Tryz.f100 = true := by kernel_rfl
theorem xk_174 : (z7b z3q.body).all (fun p => ([] : List (Nat × Bool)).contains p) = true := by kernel_rfl
theorem xw_174 : z73 K0 174 (z3Gb z6Cd) := runW (K := K0) (X := z49c) (F := z3q) (n := fuX) rfl Tryz.func100 xc_174 (z0Q xk_174 (List.forall_mem_nil _)) (by kernel_rfl) (by kernel_rfl)
theorem xv_176 : z6a K0 176 (z1c z2Ld) := rG [(165, false), (167, false), (169, false), (175, false), (500000174, true)] rfl Tryz.func58 (by kernel_rfl) ⟨vbG rfl rfl xv_165, vbG rfl rfl xv_167, vbG rfl rfl xv_169, vbG rfl rfl xv_175, vbW (f := 174) rfl (by decide) rfl xw_174, trivial⟩
theorem xv_361 : z6a K0 361 (z1c z3Ld) := rL Tryz.func56 (by kernel_rfl) ⟨xv_300, trivial⟩ rfl
theorem xv_373 : z6a K0 373 (z1c z7Nd) := rL Tryz.func98 (by kernel_rfl) ⟨xv_361, trivial⟩ rfl
theorem xv_362 : z6a K0 362 (z1c z3Hd) := rL Tryz.func57 (by kernel_rfl) ⟨xv_373, trivial⟩ rfl
theorem xv_363 : z6a K0 363 (z1c z1Id) := rL Tryz.func32 (by kernel_rfl) ⟨xv_176, xv_185, xv_354, xv_362, trivial⟩ rfl
theorem xv_374 : z6a K0 374 (z1c z1Nd) := z84 v_n374 z3wc
theorem xv_364 : z6a K0 364 (z1c z9Gd) := rL Tryz.func59 (by kernel_rfl) ⟨xv_374, trivial⟩ rfl
theorem xv_365 : z6a K0 365 (z1c z4wd) := rL Tryz.func33 (by kernel_rfl) ⟨xv_180, xv_364, trivial⟩ rfl
theorem xv_45 : z6a K0 45 (z1c z8Ad) := rL Tryz.func62 (by kernel_rfl) trivial rfl
theorem xv_47 : z6a K0 47 (z1c z2Fd) := rL Tryz.func102 (by kernel_rfl) ⟨xv_45, trivial⟩ rfl
theorem xv_48 : z6a K0 48 (z1c z14d) := rL Tryz.func103 (by kernel_rfl) ⟨xv_47, trivial⟩ rfl
theorem xv_55 : z6a K0 55 (z1c x_55) := rL Tryz.func63 (by kernel_rfl) ⟨xv_47, xv_48, trivial⟩ rfl
theorem xv_58 : z6a K0 58 (z1c x_58) := rL Tryz.func65 (by kernel_rfl) ⟨xv_47, trivial⟩ rfl
theorem xc_316 : z2f (K0.wX (z2ed)) z6s Tryz.f106 = true := by kernel_rfl
theorem xk_316 : (z7b z6s.body).all (fun p => ([] : List (Nat × Bool)).contains p) = true := by kernel_rfl
theorem xm_316 : z5y K0 316 (z4ja z8cd) := z8hc (K := K0) (X := z2ed) (F := z6s) (n := fuX) rfl Tryz.func106 xc_316 (z0Q xk_316 (List.forall_mem_nil _)) (of_decide_eq_true (by kernel_rfl)) (by kernel_rfl) (by kernel_rfl)
theorem xc_51 : z2f (K0.wX (z49d)) z4U Tryz.f132 = true := by kernel_rfl
theorem xk_51 : (z7b z4U.body).all (fun p => ([] : List (Nat × Bool)).contains p) = true := by kernel_rfl
theorem xm_51 : z5y K0 51 (z4ja m_51) := z8hc (K := K0) (X := z49d) (F := z4U) (n := fuX) rfl Tryz.func132 xc_51 (z0Q xk_51 (List.forall_mem_nil _)) (of_decide_eq_true (by kernel_rfl)) (by kernel_rfl) (by kernel_rfl)
theorem xc_61 : z2f (K0.wX (z76d)) z8G Tryz.f150 = true := by kernel_rfl
theorem xk_61 : (z7b z8G.body).all (fun p => ([(45, false)] : List (Nat × Bool)).contains p) = true := by kernel_rfl
theorem xm_61 : z5y K0 61 (z4ja m_61) := z8hc (K := K0) (X := z76d) (F := z8G) (n := fuX) rfl Tryz.func150 xc_61 (z0Q xk_61 (List.forall_mem_cons.2 ⟨vbG rfl rfl xv_45, List.forall_mem_nil _⟩)) (of_decide_eq_true (by kernel_rfl)) (by kernel_rfl) (by kernel_rfl)
theorem xv_52 : z6a K0 52 (z1c x_52) := rG [(47, false), (51, true), (61, true)] rfl Tryz.func105 (by kernel_rfl) ⟨vbG rfl rfl xv_47, vbM rfl rfl rfl xm_51, vbM rfl rfl rfl xm_61, trivial⟩
theorem xc_323 : z2f (K0.wX (z74c)) z1m Tryz.f104 = true := by kernel_rfl
theorem xk_323 : (z7b z1m.body).all (fun p => ([(52, false)] : List (Nat × Bool)).contains p) = true := by kernel_rfl
theorem xm_323 : z5y K0 323 (z4ja z51c) := z8hc (K := K0) (X := z74c) (F := z1m) (n := fuX) rfl Tryz.func104 xc_323 (z0Q xk_323 (List.forall_mem_cons.2 ⟨vbG rfl rfl xv_52, List.forall_mem_nil _⟩)) (of_decide_eq_true (by kernel_rfl)) (by kernel_rfl) (by kernel_rfl)
theorem xc_324 : z2f (K0.wX (z79c)) z3l Tryz.f107 = true := by kernel_rfl
theorem xk_324 : (z7b z3l.body).all (fun p => ([(48, false)] : List (Nat × Bool)).contains p) = true := by kernel_rfl
theorem xm_324 : z5y K0 324 (z4ja z4ad) := z8hc (K := K0) (X := z79c) (F := z3l) (n := fuX) rfl Tryz.func107 xc_324 (z0Q xk_324 (List.forall_mem_cons.2 ⟨vbG rfl rfl xv_48, List.forall_mem_nil _⟩)) (of_decide_eq_true (by kernel_rfl)) (by kernel_rfl) (by kernel_rfl)
theorem xc_326 : z2f (K0.wX (z60c)) z0n Tryz.f111 = true := by kernel_rfl
theorem xk_326 : (z7b z0n.body).all (fun p => ([(45, false)] : List (Nat × Bool)).contains p) = true := by kernel_rfl
theorem xm_326 : z5y K0 326 (z4ja z97c) := z8hc (K := K0) (X := z60c) (F := z0n) (n := fuX) rfl Tryz.func111 xc_326 (z0Q xk_326 (List.forall_mem_cons.2 ⟨vbG rfl rfl xv_45, List.forall_mem_nil _⟩)) (of_decide_eq_true (by kernel_rfl)) (by kernel_rfl) (by kernel_rfl)
theorem xc_318 : z2f (K0.wX (z5Uc)) z5p Tryz.f108 = true := by kernel_rfl
theorem xk_318 : (z7b z5p.body).all (fun p => ([(316, true), (323, true), (324, true), (326, true)] : List (Nat × Bool)).contains p) = true := by kernel_rfl
theorem xm_318 : z5y K0 318 (z4ja z5ud) := z8hc (K := K0) (X := z5Uc) (F := z5p) (n := fuX) rfl Tryz.func108 xc_318 (z0Q xk_318 (List.forall_mem_cons.2 ⟨vbM rfl rfl rfl xm_316, List.forall_mem_cons.2 ⟨vbM rfl rfl rfl xm_323, List.forall_mem_cons.2 ⟨vbM rfl rfl rfl xm_324, List.forall_mem_cons.2 ⟨vbM rfl rfl rfl xm_326, List.forall_mem_nil _⟩⟩⟩⟩)) (of_decide_eq_true (by kernel_rfl)) (by kernel_rfl) (by kernel_rfl)
theorem xv_320 : z6a K0 320 (z1c z7Ld) := rL Tryz.func110 (by kernel_rfl) trivial rfl
theorem xc_325 : z2f (K0.wX (z6Wc)) z2m Tryz.f109 = true := by kernel_rfl
theorem xk_325 : (z7b z2m.body).all (fun p => ([(320, false)] : List (Nat × Bool)).contains p) = true := by kernel_rfl
theorem xm_325 : z5y K0 325 (z4ja z5Kd) := z8hc (K := K0) (X := z6Wc) (F := z2m) (n := fuX) rfl Tryz.func109 xc_325 (z0Q xk_325 (List.forall_mem_cons.2 ⟨vbG rfl rfl xv_320, List.forall_mem_nil _⟩)) (of_decide_eq_true (by kernel_rfl)) (by kernel_rfl) (by kernel_rfl)
theorem yv_322 : z6a K0 322 (z1c z6lc) := rG [(295, false), (300, false), (316, true), (318, true), (323, true), (324, true), (325, true), (326, true)] rfl Tryz.func64 (by kernel_rfl) ⟨vbG rfl rfl xv_295, vbG rfl rfl xv_300, vbM rfl rfl rfl xm_316, vbM rfl rfl rfl xm_318, vbM rfl rfl rfl xm_323, vbM rfl rfl rfl xm_324, vbM rfl rfl rfl xm_325, vbM rfl rfl rfl xm_326, trivial⟩
theorem ya_322 : ∀ j, j < z04b.length → z7Oa z6lc z04b j = true
 | 0, _ => z9Vc
 | 1, _ => z1Wc
 | j + 2, h => absurd (show j + 2 < 2 from h) (by omega)
theorem xv_322 : z6a K0 322 (z1c z0wd) := z8oa yv_322 (z81a ya_322)
theorem xc_366 : z2f (K0.wX (z75c)) z6N Tryz.f60 = true := by kernel_rfl
theorem xk_366 : (z7b z6N.body).all (fun p => ([] : List (Nat × Bool)).contains p) = true := by kernel_rfl
theorem xm_366 : z5y K0 366 (z4ja z82c) := z8hc (K := K0) (X := z75c) (F := z6N) (n := fuX) rfl Tryz.func60 xc_366 (z0Q xk_366 (List.forall_mem_nil _)) (of_decide_eq_true (by kernel_rfl)) (by kernel_rfl) (by kernel_rfl)
theorem xc_367 : z2f (K0.wX (z41c)) z3N Tryz.f61 = true := by kernel_rfl
theorem xk_367 : (z7b z3N.body).all (fun p => ([(366, true)] : List (Nat × Bool)).contains p) = true := by kernel_rfl
theorem xw_367 : z73 K0 367 (z3Gb z1xd) := runW (K := K0) (X := z41c) (F := z3N) (n := fuX) rfl Tryz.func61 xc_367 (z0Q xk_367 (List.forall_mem_cons.2 ⟨vbM rfl rfl rfl xm_366, List.forall_mem_nil _⟩)) (by kernel_rfl) (by kernel_rfl)
theorem xv_368 : z6a K0 368 (z1c z1Gd) := rG [(45, false), (55, false), (58, false), (322, false), (366, true), (500000367, true)] rfl Tryz.func34 (by kernel_rfl) ⟨vbG rfl rfl xv_45, vbG rfl rfl xv_55, vbG rfl rfl xv_58, vbG rfl rfl xv_322, vbM rfl rfl rfl xm_366, vbW (f := 367) rfl (by decide) rfl xw_367, trivial⟩
theorem xv_41 : z6a K0 41 (z1c x_41) := rL Tryz.func69 (by kernel_rfl) ⟨xv_7, xv_12, trivial⟩ rfl
theorem xv_43 : z6a K0 43 (z1c x_43) := rL Tryz.func70 (by kernel_rfl) ⟨xv_12, trivial⟩ rfl
theorem xv_369 : z6a K0 369 (z1c z6wd) := rL Tryz.func35 (by kernel_rfl) ⟨xv_12, xv_41, xv_43, xv_129, xv_302, trivial⟩ rfl
theorem xv_60 : z6a K0 60 (z1c x_60) := rL Tryz.func20 (by kernel_rfl) trivial rfl
theorem xv_54 : z6a K0 54 (z1c x_54) := rL Tryz.func97 (by kernel_rfl) trivial rfl
theorem xv_149 : z6a K0 149 (z1c z6Dd) := rL Tryz.func53 (by kernel_rfl) ⟨xv_54, trivial⟩ rfl
theorem xv_329 : z6a K0 329 (z1c z6Kd) := rL Tryz.func92 (by kernel_rfl) ⟨xv_149, trivial⟩ rfl
theorem xv_376 : z6a K0 376 (z1c z6Od) := rL Tryz.func48 (by kernel_rfl) ⟨xv_329, trivial⟩ rfl
theorem xv_377 : z6a K0 377 (z1c z1Fd) := rL Tryz.func19 (by kernel_rfl) ⟨xv_60, xv_376, trivial⟩ rfl
theorem xv_20 : z6a K0 20 (z1c z4Ed) := z84 v_n20 z3sc
theorem xv_23 : z6a K0 23 (z1c z3Ud) := rL Tryz.func79 (by kernel_rfl) trivial rfl
theorem xv_202 : z6a K0 202 (z1c z5Nc) := rL Tryz.func42 (by kernel_rfl) ⟨xv_20, xv_23, trivial⟩ rfl
theorem xv_214 : z6a K0 214 (z1c z5Gd) := rL Tryz.func55 (by kernel_rfl) trivial rfl
theorem xv_211 : z6a K0 211 (z1c z78c) := rL Tryz.func30 (by kernel_rfl) ⟨xv_214, trivial⟩ rfl
theorem xv_213 : z6a K0 213 (z1c z4Id) := rL Tryz.func12 (by kernel_rfl) ⟨xv_20, xv_202, xv_211, trivial⟩ rfl
theorem xv_375 : z6a K0 375 (z1c z2dd) := rL Tryz.func10 (by kernel_rfl) trivial rfl
theorem xv_201 : z6a K0 201 (z1c z7pd) := rL Tryz.func96 (by kernel_rfl) ⟨xv_20, xv_23, trivial⟩ rfl
theorem xv_212 : z6a K0 212 (z1c z1Od) := rL Tryz.func51 (by kernel_rfl) ⟨xv_201, xv_202, xv_211, trivial⟩ rfl
theorem xv_30 : z6a K0 30 (z1c z5Ld) := rL Tryz.func141 (by kernel_rfl) trivial rfl
theorem xv_29 : z6a K0 29 (z1c z89d) := rL Tryz.func121 (by kernel_rfl) ⟨xv_30, trivial⟩ rfl
theorem xv_40 : z6a K0 40 (z1c z7ee) := rL Tryz.func145 (by kernel_rfl) ⟨xv_30, trivial⟩ rfl
theorem xv_147 : z6a K0 147 (z1c z8Bd) := rL Tryz.func146 (by kernel_rfl) ⟨xv_29, xv_30, xv_40, trivial⟩ rfl
theorem xv_332 : z6a K0 332 (z1c z4pd) := rL Tryz.func147 (by kernel_rfl) trivial rfl
theorem xv_333 : z6a K0 333 (z1c z1Qd) := rL Tryz.func130 (by kernel_rfl) ⟨xv_23, xv_29, xv_30, xv_40, xv_147, xv_332, trivial⟩ rfl
theorem yv_334 : z6a K0 334 (z1c z69b) := rL Tryz.func95 (by kernel_rfl) ⟨xv_20, xv_333, trivial⟩ rfl
theorem ya_334 : ∀ j, j < z5Qb.length → z7Oa z69b z5Qb j = true
 | 0, _ => z9Tc
 | 1, _ => z4Qc
 | 2, _ => z0Tc
 | j + 3, h => absurd (show j + 3 < 3 from h) (by omega)
theorem xv_334 : z6a K0 334 (z1c z3Id) := z8oa yv_334 (z81a ya_334)
theorem xv_382 : z6a K0 382 (z1c z9Jd) := rL Tryz.func50 (by kernel_rfl) ⟨xv_334, trivial⟩ rfl
theorem xv_379 : z6a K0 379 (z1c z4Cd) := rL Tryz.func25 (by kernel_rfl) ⟨xv_212, xv_375, xv_382, trivial⟩ rfl
theorem xv_386 : z6a K0 386 (z1c z6Ad) := rL Tryz.func28 (by kernel_rfl) ⟨xv_213, xv_375, xv_379, trivial⟩ rfl
theorem xv_396 : z6a K0 396 (z1c z1yd) := rL Tryz.func31 (by kernel_rfl) trivial rfl
theorem xv_391 : z6a K0 391 (z1c z1tc) := rL Tryz.func8 (by kernel_rfl) ⟨xv_209, xv_348, xv_349, xv_353, xv_355, xv_357, xv_359, xv_360, xv_363, xv_365, xv_368, xv_369, xv_377, xv_386, xv_396, trivial⟩ rfl
end Go.Abs.V0
