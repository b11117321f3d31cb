/- The laws' example: functions that were run meet what was found. -/
import Derived.Test.YtiehmnjjlbndlaaGreatDoorVal0
import Derived.KernelRfl
set_option linter.all false
namespace Go.Abs.V0
open Go.Proofs Go.Proofs.Tryz
set_option maxRecDepth 100000
theorem w_200:oK K0 200 (oX z8Y):=rL func57 (by kernel_rfl) trivial rfl
theorem w_209:oK K0 209 (oX z8fa):=rL func24 (by kernel_rfl) ⟨w_200,trivial⟩ rfl
theorem w_180:oK K0 180 (oX ZQ):=BW v_180 U5
theorem w_349:oK K0 349 (oX Pv):=rL func9 (by kernel_rfl) trivial rfl
theorem w_165:oK K0 165 (oX Wn):=BW v_165 z0t
theorem w_12:oK K0 12 (oX z3p):=rL func67 (by kernel_rfl) trivial rfl
theorem w_7:oK K0 7 (oX x_7):=rL func118 (by kernel_rfl) ⟨w_12,trivial⟩ rfl
theorem w_164:oK K0 164 (oX ZD):=rL func122 (by kernel_rfl) ⟨w_7,trivial⟩ rfl
theorem w_166:oK K0 166 (oX z1O):=rL func123 (by kernel_rfl) ⟨w_164,trivial⟩ rfl
theorem w_169:oK K0 169 (oX U9):=rL func77 (by kernel_rfl) ⟨w_164,trivial⟩ rfl
theorem w_193:oK K0 193 (oX z8V):=rL func136 (by kernel_rfl) trivial rfl
theorem w_194:oK K0 194 (oX z4Z):=rL func137 (by kernel_rfl) trivial rfl
theorem w_188:oK K0 188 (oX z5ca):=rL func121 (by kernel_rfl) ⟨w_193,w_194,trivial⟩ rfl
theorem w_179:oK K0 179 (oX z6B):=rL func73 (by kernel_rfl) ⟨w_188,trivial⟩ rfl
theorem w_189:oK K0 189 (oX z30):=rL func142 (by kernel_rfl) trivial rfl
theorem w_190:oK K0 190 (oX z6da):=rL func143 (by kernel_rfl) trivial rfl
theorem w_181:oK K0 181 (oX z95):=rL func131 (by kernel_rfl) ⟨w_189,w_190,trivial⟩ rfl
theorem w_182:oK K0 182 (oX z2ha):=rL func86 (by kernel_rfl) ⟨w_165,w_166,w_169,w_179,w_180,w_181,trivial⟩ rfl
theorem w_350:oK K0 350 (oX z9M):=rL func55 (by kernel_rfl) trivial rfl
theorem w_8:oK K0 8 (oX x_8):=BW v_8 z3w
theorem w_39:oK K0 39 (oX z7va):=rL func117 (by kernel_rfl) ⟨w_12,trivial⟩ rfl
theorem w_139:oK K0 139 (oX z9ea):=BW v_139 z9z
theorem w_129:oK K0 129 (oX z9e):=rL func66 (by kernel_rfl) ⟨w_139,trivial⟩ rfl
theorem w_130:oK K0 130 (oX z55):=rL func119 (by kernel_rfl) ⟨w_7,w_12,w_39,w_129,trivial⟩ rfl
theorem yv_302:oK K0 302 (oX Wa):=rL func65 (by kernel_rfl) ⟨w_7,w_12,w_39,w_129,w_130,trivial⟩ rfl
theorem ya_302:∀j,j<Te.length->Ir Wa Te j=true
 |0,_=>z6v
 |1,_=>z9C
 |2,_=>z7J
 |j+3,h=>absurd (show j+3<3 from h) (by omega)
theorem w_302:oK K0 302 (oX z3z):=Eo yv_302 (JY ya_302)
theorem yv_303:oK K0 303 (oX Vw):=rL func105 (by kernel_rfl) ⟨w_8,w_302,trivial⟩ rfl
theorem ya_303:∀j,j<Tl.length->Ir Vw Tl j=true
 |0,_=>z9F
 |1,_=>z1G
 |2,_=>z9O
 |j+3,h=>absurd (show j+3<3 from h) (by omega)
theorem w_303:oK K0 303 (oX WP):=Eo yv_303 (JY ya_303)
theorem xc_372:WH (K0.wX z5A) pO Tryz.f104=true:=by kernel_rfl
theorem xk_372:th pO.body=[(303,false)]:=by kernel_rfl
theorem xi_372:uu K0 372 (Nj z8u):=Lf (Oh (X:=z5A) rfl (L8 (K:=K0.wX z5A) (f:=372) (F:=pO) func104 xc_372 (by rw[xk_372];exact Q_ ⟨vbG rfl rfl w_303,N_ _⟩) (TY _ (oX WP) rfl))) rfl (z5v WP)
theorem xc_354:pz (K0.wX (z0G)) pi Tryz.f34=true:=by kernel_rfl
theorem xk_354:(ae pi.body).all (λp=>([(182,false),(350,false)]:LB).contains p)=true:=by kernel_rfl
theorem xj_354:yB pi.body=[372]:=by kernel_rfl
theorem w_354:oK K0 354 (oX z6M):=z6ka (K:=K0) (X:=z0G) (F:=pi) (n:=fuX) rfl func34 xc_354 (aw xk_354 (Q_ ⟨vbG rfl rfl w_182,Q_ ⟨vbG rfl rfl w_350,N_ _⟩⟩)) (by rw[xj_354];exact Q_ ⟨viI rfl rfl xi_372,N_ _⟩) (by kernel_rfl) (by kernel_rfl)
theorem w_348:oK K0 348 (oX Tt):=rL func23 (by kernel_rfl) ⟨w_180,w_349,w_354,trivial⟩ rfl
theorem xc_371:pz (K0.wX (z5L)) pI Tryz.f103=true:=by kernel_rfl
theorem xk_371:(ae pI.body).all (λp=>([]:LB).contains p)=true:=by kernel_rfl
theorem xj_371:yB pI.body=[372]:=by kernel_rfl
theorem w_371:oK K0 371 (oX z1ba):=z6ka (K:=K0) (X:=z5L) (F:=pI) (n:=fuX) rfl func103 xc_371 (aw xk_371 (N_ _)) (by rw[xj_371];exact Q_ ⟨viI rfl rfl xi_372,N_ _⟩) (by kernel_rfl) (by kernel_rfl)
theorem w_351:oK K0 351 (oX z8da):=rL func54 (by kernel_rfl) ⟨w_371,trivial⟩ rfl
theorem w_191:oK K0 191 (oX z72):=rL func144 (by kernel_rfl) trivial rfl
theorem w_192:oK K0 192 (oX z0ia):=rL func145 (by kernel_rfl) trivial rfl
theorem w_170:oK K0 170 (oX z13):=rL func132 (by kernel_rfl) ⟨w_191,w_192,trivial⟩ rfl
theorem w_167:oK K0 167 (oX z3J):=rL func87 (by kernel_rfl) ⟨w_170,trivial⟩ rfl
theorem xc_168:∀g,pz (K0.wX (z1Q g)) pK Tryz.f74=true:=λg=>by kernel_rfl
theorem xk_168:(ae pK.body).all (λp=>([(164,false),(165,false),(166,false),(167,false),(168,false),(169,false)]:LB).contains p)=true:=by kernel_rfl
theorem xd_168:pz K0 pK Tryz.f74=true:=by kernel_rfl
theorem xr_168:∀k,oK K0 168 (oX (XZ k))
 |0=>KS (F:=pK) func74 xd_168
 |k+1=>z6oa (K:=K0) (X:=z1Q (XZ k)) (F:=pK) (n:=fuX) rfl func74 (xc_168 _) (aw xk_168 (Q_ ⟨vbG rfl rfl w_164,Q_ ⟨vbG rfl rfl w_165,Q_ ⟨vbG rfl rfl w_166,Q_ ⟨vbG rfl rfl w_167,Q_ ⟨vbG rfl rfl (xr_168 k),Q_ ⟨vbG rfl rfl w_169,N_ _⟩⟩⟩⟩⟩⟩)) (by kernel_rfl)
theorem w_168:oK K0 168 (oX z7A):=xr_168 12
theorem xc_183:pz (K0.wX (z2x)) pP Tryz.f75=true:=by kernel_rfl
theorem xk_183:(ae pP.body).all (λp=>([]:LB).contains p)=true:=by kernel_rfl
theorem xm_183:ru K0 183 (DE z9H):=Xf (K:=K0) (X:=z2x) (F:=pP) (n:=fuX) rfl func75 xc_183 (aw xk_183 (N_ _)) (of_decide_eq_true (by kernel_rfl)) (by kernel_rfl) (by kernel_rfl)
theorem xi_184:uu K0 184 (Nj z7z):=Lf v_184 rfl z0z
theorem xc_370:pz (K0.wX (z6H)) CZ Tryz.f102=true:=by kernel_rfl
theorem xk_370:(ae CZ.body).all (λp=>([(8,false),(183,true)]:LB).contains p)=true:=by kernel_rfl
theorem xj_370:yB CZ.body=[184]:=by kernel_rfl
theorem w_370:oK K0 370 (oX z09):=z6ka (K:=K0) (X:=z6H) (F:=CZ) (n:=fuX) rfl func102 xc_370 (aw xk_370 (Q_ ⟨vbG rfl rfl w_8,Q_ ⟨vbM rfl rfl rfl xm_183,N_ _⟩⟩)) (by rw[xj_370];exact Q_ ⟨viI rfl rfl xi_184,N_ _⟩) (by kernel_rfl) (by kernel_rfl)
theorem xc_352:∀g,pz (K0.wX (z7P g)) yr Tryz.f53=true:=λg=>by kernel_rfl
theorem xk_352:(ae yr.body).all (λp=>([(168,false),(352,false),(370,false)]:LB).contains p)=true:=by kernel_rfl
theorem xd_352:pz K0 yr Tryz.f53=true:=by kernel_rfl
theorem xr_352:∀k,oK K0 352 (oX (XG k))
 |0=>KS (F:=yr) func53 xd_352
 |k+1=>z6oa (K:=K0) (X:=z7P (XG k)) (F:=yr) (n:=fuX) rfl func53 (xc_352 _) (aw xk_352 (Q_ ⟨vbG rfl rfl w_168,Q_ ⟨vbG rfl rfl (xr_352 k),Q_ ⟨vbG rfl rfl w_370,N_ _⟩⟩⟩)) (by kernel_rfl)
theorem w_352:oK K0 352 (oX z6ha):=xr_352 12
theorem w_353:oK K0 353 (oX z7y):=rL func22 (by kernel_rfl) ⟨w_348,w_349,w_350,w_351,w_352,trivial⟩ rfl
theorem xc_185:pz (K0.wX (z0r)) pW Tryz.f30=true:=by kernel_rfl
theorem xk_185:(ae pW.body).all (λp=>([(165,false),(168,false),(169,false),(179,false),(183,true)]:LB).contains p)=true:=by kernel_rfl
theorem xj_185:yB pW.body=[184]:=by kernel_rfl
theorem w_185:oK K0 185 (oX z2s):=z6ka (K:=K0) (X:=z0r) (F:=pW) (n:=fuX) rfl func30 xc_185 (aw xk_185 (Q_ ⟨vbG rfl rfl w_165,Q_ ⟨vbG rfl rfl w_168,Q_ ⟨vbG rfl rfl w_169,Q_ ⟨vbG rfl rfl w_179,Q_ ⟨vbM rfl rfl rfl xm_183,N_ _⟩⟩⟩⟩⟩)) (by rw[xj_185];exact Q_ ⟨viI rfl rfl xi_184,N_ _⟩) (by kernel_rfl) (by kernel_rfl)
theorem w_355:oK K0 355 (oX z5fa):=rL func8 (by kernel_rfl) ⟨w_185,w_348,w_349,trivial⟩ rfl
theorem w_314:oK K0 314 (oX z4ba):=rL func141 (by kernel_rfl) trivial rfl
theorem w_312:oK K0 312 (oX z89):=rL func130 (by kernel_rfl) ⟨w_314,trivial⟩ rfl
theorem w_293:oK K0 293 (oX z50):=rL func84 (by kernel_rfl) ⟨w_312,trivial⟩ rfl
theorem w_294:oK K0 294 (oX z0X):=rL func83 (by kernel_rfl) trivial rfl
theorem w_295:oK K0 295 (oX X6):=rL func78 (by kernel_rfl) trivial rfl
theorem w_296:oK K0 296 (oX z7ca):=rL func79 (by kernel_rfl) ⟨w_295,trivial⟩ rfl
theorem w_297:oK K0 297 (oX z07):=rL func81 (by kernel_rfl) ⟨w_296,trivial⟩ rfl
theorem w_313:oK K0 313 (oX z9ba):=rL func126 (by kernel_rfl) ⟨w_297,trivial⟩ rfl
theorem w_298:oK K0 298 (oX z97):=rL func80 (by kernel_rfl) ⟨w_313,trivial⟩ rfl
theorem w_132:oK K0 132 (oX z2Q):=rL func129 (by kernel_rfl) trivial rfl
theorem w_133:oK K0 133 (oX z4ea):=rL func127 (by kernel_rfl) ⟨w_132,trivial⟩ rfl
theorem w_301:oK K0 301 (oX z05):=rL func128 (by kernel_rfl) trivial rfl
theorem w_299:oK K0 299 (oX z4X):=rL func82 (by kernel_rfl) ⟨w_132,w_133,w_301,trivial⟩ rfl
theorem yv_300:oK K0 300 (oX M0):=rL func32 (by kernel_rfl) ⟨w_293,w_294,w_295,w_298,w_299,trivial⟩ rfl
theorem ya_300:∀j,j<KQ.length->Ir M0 KQ j=true
 |0,_=>z0y
 |1,_=>z4D
 |2,_=>z6C
 |3,_=>z8I
 |4,_=>z9Q
 |5,_=>z8x
 |6,_=>z3G
 |j+7,h=>absurd (show j+7<7 from h) (by omega)
theorem w_300:oK K0 300 (oX XD):=Eo yv_300 (JY ya_300)
theorem w_356:oK K0 356 (oX z1ca):=rL func51 (by kernel_rfl) trivial rfl
theorem w_357:oK K0 357 (oX z4da):=rL func19 (by kernel_rfl) ⟨w_300,w_349,w_356,trivial⟩ rfl
theorem w_358:oK K0 358 (oX z4z):=BW v_358 Uf
theorem w_359:oK K0 359 (oX z63):=rL func21 (by kernel_rfl) ⟨w_348,w_358,trivial⟩ rfl
theorem w_360:oK K0 360 (oX z3Z):=rL func20 (by kernel_rfl) ⟨w_348,w_349,w_353,w_358,trivial⟩ rfl
theorem w_175:oK K0 175 (oX z9V):=rL func88 (by kernel_rfl) trivial rfl
theorem xc_174:pz (K0.wX (z0P)) ph Tryz.f88=true:=by kernel_rfl
theorem xk_174:(ae ph.body).all (λp=>([]:LB).contains p)=true:=by kernel_rfl
theorem xw_174:zj K0 174 (Sk z33):=runW (K:=K0) (X:=z0P) (F:=ph) (n:=fuX) rfl func88 xc_174 (aw xk_174 (N_ _)) (by kernel_rfl) (by kernel_rfl)
theorem w_176:oK K0 176 (oX z3ea):=rG [(165,false),(167,false),(169,false),(175,false),(500000174,true)] rfl func35 (by kernel_rfl) ⟨vbG rfl rfl w_165,vbG rfl rfl w_167,vbG rfl rfl w_169,vbG rfl rfl w_175,vbW (f:=174) rfl (by decide) rfl xw_174,trivial⟩
theorem w_361:oK K0 361 (oX z93):=rL func31 (by kernel_rfl) ⟨w_300,trivial⟩ rfl
theorem w_373:oK K0 373 (oX z00):=rL func85 (by kernel_rfl) ⟨w_361,trivial⟩ rfl
theorem w_362:oK K0 362 (oX z1fa):=rL func33 (by kernel_rfl) ⟨w_373,trivial⟩ rfl
theorem w_363:oK K0 363 (oX z27):=rL func10 (by kernel_rfl) ⟨w_176,w_185,w_354,w_362,trivial⟩ rfl
theorem w_374:oK K0 374 (oX z99):=BW v_374 z5b
theorem w_364:oK K0 364 (oX z3V):=rL func58 (by kernel_rfl) ⟨w_374,trivial⟩ rfl
theorem w_365:oK K0 365 (oX z7Z):=rL func25 (by kernel_rfl) ⟨w_180,w_364,trivial⟩ rfl
theorem w_45:oK K0 45 (oX z90):=rL func61 (by kernel_rfl) trivial rfl
theorem w_47:oK K0 47 (oX z5X):=rL func107 (by kernel_rfl) ⟨w_45,trivial⟩ rfl
theorem w_48:oK K0 48 (oX z8ya):=rL func108 (by kernel_rfl) ⟨w_47,trivial⟩ rfl
theorem w_55:oK K0 55 (oX x_55):=rL func62 (by kernel_rfl) ⟨w_47,w_48,trivial⟩ rfl
theorem w_58:oK K0 58 (oX x_58):=rL func64 (by kernel_rfl) ⟨w_47,trivial⟩ rfl
theorem xc_316:pz (K0.wX (z5O)) tf Tryz.f111=true:=by kernel_rfl
theorem xk_316:(ae tf.body).all (λp=>([]:LB).contains p)=true:=by kernel_rfl
theorem xm_316:ru K0 316 (DE z9w):=Xf (K:=K0) (X:=z5O) (F:=tf) (n:=fuX) rfl func111 xc_316 (aw xk_316 (N_ _)) (of_decide_eq_true (by kernel_rfl)) (by kernel_rfl) (by kernel_rfl)
theorem xc_51:pz (K0.wX (z0wa)) Af Tryz.f135=true:=by kernel_rfl
theorem xk_51:(ae Af.body).all (λp=>([]:LB).contains p)=true:=by kernel_rfl
theorem xm_51:ru K0 51 (DE m_51):=Xf (K:=K0) (X:=z0wa) (F:=Af) (n:=fuX) rfl func135 xc_51 (aw xk_51 (N_ _)) (of_decide_eq_true (by kernel_rfl)) (by kernel_rfl) (by kernel_rfl)
theorem xc_61:pz (K0.wX (z9va)) w9 Tryz.f149=true:=by kernel_rfl
theorem xk_61:(ae w9.body).all (λp=>([(45,false)]:LB).contains p)=true:=by kernel_rfl
theorem xm_61:ru K0 61 (DE m_61):=Xf (K:=K0) (X:=z9va) (F:=w9) (n:=fuX) rfl func149 xc_61 (aw xk_61 (Q_ ⟨vbG rfl rfl w_45,N_ _⟩)) (of_decide_eq_true (by kernel_rfl)) (by kernel_rfl) (by kernel_rfl)
theorem w_52:oK K0 52 (oX x_52):=rG [(47,false),(51,true),(61,true)] rfl func110 (by kernel_rfl) ⟨vbG rfl rfl w_47,vbM rfl rfl rfl xm_51,vbM rfl rfl rfl xm_61,trivial⟩
theorem xc_323:pz (K0.wX (z1K)) rK Tryz.f109=true:=by kernel_rfl
theorem xk_323:(ae rK.body).all (λp=>([(52,false)]:LB).contains p)=true:=by kernel_rfl
theorem xm_323:ru K0 323 (DE z2P):=Xf (K:=K0) (X:=z1K) (F:=rK) (n:=fuX) rfl func109 xc_323 (aw xk_323 (Q_ ⟨vbG rfl rfl w_52,N_ _⟩)) (of_decide_eq_true (by kernel_rfl)) (by kernel_rfl) (by kernel_rfl)
theorem xc_324:pz (K0.wX (z2L)) rr Tryz.f112=true:=by kernel_rfl
theorem xk_324:(ae rr.body).all (λp=>([(48,false)]:LB).contains p)=true:=by kernel_rfl
theorem xm_324:ru K0 324 (DE z6J):=Xf (K:=K0) (X:=z2L) (F:=rr) (n:=fuX) rfl func112 xc_324 (aw xk_324 (Q_ ⟨vbG rfl rfl w_48,N_ _⟩)) (of_decide_eq_true (by kernel_rfl)) (by kernel_rfl) (by kernel_rfl)
theorem xc_326:pz (K0.wX (z2H)) rV Tryz.f116=true:=by kernel_rfl
theorem xk_326:(ae rV.body).all (λp=>([(45,false)]:LB).contains p)=true:=by kernel_rfl
theorem xm_326:ru K0 326 (DE z9q):=Xf (K:=K0) (X:=z2H) (F:=rV) (n:=fuX) rfl func116 xc_326 (aw xk_326 (Q_ ⟨vbG rfl rfl w_45,N_ _⟩)) (of_decide_eq_true (by kernel_rfl)) (by kernel_rfl) (by kernel_rfl)
theorem xc_318:pz (K0.wX (z4C)) sE Tryz.f113=true:=by kernel_rfl
theorem xk_318:(ae sE.body).all (λp=>([(316,true),(323,true),(324,true),(326,true)]:LB).contains p)=true:=by kernel_rfl
theorem xm_318:ru K0 318 (DE z6ja):=Xf (K:=K0) (X:=z4C) (F:=sE) (n:=fuX) rfl func113 xc_318 (aw xk_318 (Q_ ⟨vbM rfl rfl rfl xm_316,Q_ ⟨vbM rfl rfl rfl xm_323,Q_ ⟨vbM rfl rfl rfl xm_324,Q_ ⟨vbM rfl rfl rfl xm_326,N_ _⟩⟩⟩⟩)) (of_decide_eq_true (by kernel_rfl)) (by kernel_rfl) (by kernel_rfl)
theorem w_320:oK K0 320 (oX z9Z):=rL func115 (by kernel_rfl) trivial rfl
theorem xc_325:pz (K0.wX (z3I)) rH Tryz.f114=true:=by kernel_rfl
theorem xk_325:(ae rH.body).all (λp=>([(320,false)]:LB).contains p)=true:=by kernel_rfl
theorem xm_325:ru K0 325 (DE z1ka):=Xf (K:=K0) (X:=z3I) (F:=rH) (n:=fuX) rfl func114 xc_325 (aw xk_325 (Q_ ⟨vbG rfl rfl w_320,N_ _⟩)) (of_decide_eq_true (by kernel_rfl)) (by kernel_rfl) (by kernel_rfl)
theorem yv_322:oK K0 322 (oX z7e):=rG [(295,false),(300,false),(316,true),(318,true),(323,true),(324,true),(325,true),(326,true)] rfl func63 (by kernel_rfl) ⟨vbG rfl rfl w_295,vbG rfl rfl w_300,vbM rfl rfl rfl xm_316,vbM rfl rfl rfl xm_318,vbM rfl rfl rfl xm_323,vbM rfl rfl rfl xm_324,vbM rfl rfl rfl xm_325,vbM rfl rfl rfl xm_326,trivial⟩
theorem ya_322:∀j,j<WN.length->Ir z7e WN j=true
 |0,_=>z8G
 |1,_=>z8P
 |j+2,h=>absurd (show j+2<2 from h) (by omega)
theorem w_322:oK K0 322 (oX z8ha):=Eo yv_322 (JY ya_322)
theorem xc_366:pz (K0.wX (z6t)) yL Tryz.f59=true:=by kernel_rfl
theorem xk_366:(ae yL.body).all (λp=>([]:LB).contains p)=true:=by kernel_rfl
theorem xm_366:ru K0 366 (DE z0O):=Xf (K:=K0) (X:=z6t) (F:=yL) (n:=fuX) rfl func59 xc_366 (aw xk_366 (N_ _)) (of_decide_eq_true (by kernel_rfl)) (by kernel_rfl) (by kernel_rfl)
theorem xc_367:pz (K0.wX (z2N)) yN Tryz.f60=true:=by kernel_rfl
theorem xk_367:(ae yN.body).all (λp=>([(366,true)]:LB).contains p)=true:=by kernel_rfl
theorem xw_367:zj K0 367 (Sk z91):=runW (K:=K0) (X:=z2N) (F:=yN) (n:=fuX) rfl func60 xc_367 (aw xk_367 (Q_ ⟨vbM rfl rfl rfl xm_366,N_ _⟩)) (by kernel_rfl) (by kernel_rfl)
theorem w_368:oK K0 368 (oX z44):=rG [(45,false),(55,false),(58,false),(322,false),(366,true),(500000367,true)] rfl func26 (by kernel_rfl) ⟨vbG rfl rfl w_45,vbG rfl rfl w_55,vbG rfl rfl w_58,vbG rfl rfl w_322,vbM rfl rfl rfl xm_366,vbW (f:=367) rfl (by decide) rfl xw_367,trivial⟩
theorem w_41:oK K0 41 (oX x_41):=rL func68 (by kernel_rfl) ⟨w_7,w_12,trivial⟩ rfl
theorem w_43:oK K0 43 (oX x_43):=rL func69 (by kernel_rfl) ⟨w_12,trivial⟩ rfl
theorem w_369:oK K0 369 (oX z8ja):=rL func27 (by kernel_rfl) ⟨w_12,w_41,w_43,w_129,w_302,trivial⟩ rfl
theorem w_60:oK K0 60 (oX x_60):=rL func72 (by kernel_rfl) trivial rfl
theorem w_54:oK K0 54 (oX x_54):=rL func101 (by kernel_rfl) trivial rfl
theorem w_149:oK K0 149 (oX z6Y):=rL func48 (by kernel_rfl) ⟨w_54,trivial⟩ rfl
theorem w_329:oK K0 329 (oX z06):=rL func36 (by kernel_rfl) ⟨w_149,trivial⟩ rfl
theorem w_376:oK K0 376 (oX z9da):=rL func11 (by kernel_rfl) ⟨w_329,trivial⟩ rfl
theorem w_377:oK K0 377 (oX z5V):=rL func29 (by kernel_rfl) ⟨w_60,w_376,trivial⟩ rfl
theorem w_20:oK K0 20 (oX z5ba):=BW v_20 z8a
theorem w_23:oK K0 23 (oX z8ka):=rL func98 (by kernel_rfl) trivial rfl
theorem w_202:oK K0 202 (oX z3v):=rL func91 (by kernel_rfl) ⟨w_20,w_23,trivial⟩ rfl
theorem w_214:oK K0 214 (oX z41):=rL func50 (by kernel_rfl) trivial rfl
theorem w_211:oK K0 211 (oX z4s):=rL func17 (by kernel_rfl) ⟨w_214,trivial⟩ rfl
theorem w_213:oK K0 213 (oX z2ba):=rL func39 (by kernel_rfl) ⟨w_20,w_202,w_211,trivial⟩ rfl
theorem w_375:oK K0 375 (oX z4H):=rL func71 (by kernel_rfl) trivial rfl
theorem w_201:oK K0 201 (oX z60):=rL func90 (by kernel_rfl) ⟨w_20,w_23,trivial⟩ rfl
theorem w_212:oK K0 212 (oX z2da):=rL func38 (by kernel_rfl) ⟨w_201,w_202,w_211,trivial⟩ rfl
theorem w_30:oK K0 30 (oX z9fa):=rL func99 (by kernel_rfl) trivial rfl
theorem w_29:oK K0 29 (oX z5xa):=rL func95 (by kernel_rfl) ⟨w_30,trivial⟩ rfl
theorem w_40:oK K0 40 (oX z1za):=rL func96 (by kernel_rfl) ⟨w_30,trivial⟩ rfl
theorem w_147:oK K0 147 (oX z2V):=rL func97 (by kernel_rfl) ⟨w_29,w_30,w_40,trivial⟩ rfl
theorem w_332:oK K0 332 (oX z6ca):=rL func100 (by kernel_rfl) trivial rfl
theorem w_333:oK K0 333 (oX z20):=rL func43 (by kernel_rfl) ⟨w_23,w_29,w_30,w_40,w_147,w_332,trivial⟩ rfl
theorem yv_334:oK K0 334 (oX UN):=rL func89 (by kernel_rfl) ⟨w_20,w_333,trivial⟩ rfl
theorem ya_334:∀j,j<S9.length->Ir UN S9 j=true
 |0,_=>z9N
 |1,_=>z1A
 |2,_=>z1M
 |j+3,h=>absurd (show j+3<3 from h) (by omega)
theorem w_334:oK K0 334 (oX z16):=Eo yv_334 (JY ya_334)
theorem w_382:oK K0 382 (oX z5ga):=rL func37 (by kernel_rfl) ⟨w_334,trivial⟩ rfl
theorem w_379:oK K0 379 (oX z4ka):=rL func70 (by kernel_rfl) ⟨w_212,w_375,w_382,trivial⟩ rfl
theorem w_386:oK K0 386 (oX z69):=rL func28 (by kernel_rfl) ⟨w_213,w_375,w_379,trivial⟩ rfl
theorem w_396:oK K0 396 (oX z81):=rL func18 (by kernel_rfl) trivial rfl
theorem w_391:oK K0 391 (oX Xw):=rL func7 (by kernel_rfl) ⟨w_209,w_348,w_349,w_353,w_355,w_357,w_359,w_360,w_363,w_365,w_368,w_369,w_377,w_386,w_396,trivial⟩ rfl
end Go.Abs.V0