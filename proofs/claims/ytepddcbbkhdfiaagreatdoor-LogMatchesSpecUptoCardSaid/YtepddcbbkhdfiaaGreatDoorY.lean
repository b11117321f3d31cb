/- Lemmas: an abstract interpreter, and what the functions compute. -/
import Derived.Test.YtepddcbbkhdfiaaGreatDoorH
import Derived.Test.YtepddcbbkhdfiaaGreatDoorG
import Derived.Test.YtepddcbbkhdfiaaGreatDoorI
import Derived.Test.YtepddcbbkhdfiaaGreatDoorE
import Derived.Test.YtepddcbbkhdfiaaGreatDoorU
set_option linter.unusedSimpArgs false
set_option linter.unusedVariables false
set_option linter.unusedSectionVars false
section
namespace Go.Abs
set_option maxRecDepth 100000
def z4rb:z1c:=
 Yq (.block 1 (YR [1,3,41,42,43] [.norm [1,3]] [Yi 45 30 41 43,YJ 46 30 45,Yo 3 (.alloc 3 (List.replicate 10 (i64 0)++[st []]++[.sl .plain none 0 []]++bys (z5j 16)++[.sl (.own 24) none 0 []]++[.sl (.own 1) none 0 []])),Ys 30 3 3 46] (YR [1,4,5,41,42,43] [.norm [1,3,4]] [YL 48 3 1 1,YL 49 30 3 3,YK 50 357 48 49,Ym 47 50,Ye 51 0 47,Ye 52 1 47,Yh 4 4,Ys 3 4 4 51,Ym 5 52] (Yq (Yr [1,4,41,42,43,54] [Ym 53 5,YB 54 .neq 53 0] (Yd 54 (Yr [0] [Yw 0 false] .ret) (Yy [1,4,41,42,43]))) (.region [1,41,42,43] [.norm [1,3,4]] [YL 55 3 4 4,Ys 3 1 1 55]))))) (.region [1,41,42,43] [.drop [3,4]] [YB 56 .add 43 1,Ym 43 56])
def z5nb:z1c:=
 Yr [1,41,42,43,44] [Yb 44 .lss 43 42] (Yq (Yd 44 (Yy [1,41,42,43]) (YY [1])) z4rb)
def z3ob:z1c:=
 YR [1,7,9,10,11,13,16,29,30,31] [.norm [1,3,4,6,8,10,11,13,15,17,19,21,25,27,30]] [YL 204 3 13 13,YL 205 3 11 11,YK 206 365 204 205,Ym 203 206,Ye 207 0 203,Ye 208 1 203,Yh 30 30,Ys 3 30 30 207,Ym 31 208] (YR [1,7,9,10,11,16,29,30,31,33] [.norm [1,3,4,6,8,10,11,13,15,17,19,21,25,27,30,32]] [YL 210 3 11 11,YL 211 3 13 13,YK 212 365 210 211,Ym 209 212,Ye 213 0 209,Ye 214 1 209,Yh 32 32,Ys 3 32 32 213,Ym 33 214] (YR [1,7,9,10,11,16,29,30,31,33,34] [.norm [1,3,4,6,8,10,11,13,15,17,19,21,25,27,30,32,34]] [YL 215 3 11 11,Yh 34 34,Ys 3 34 34 215] (YR [1,7,9,10,11,16,29,30,31,33,34] [.norm [1,3,4,6,8,10,11,13,15,17,19,21,25,27,30,32,34]] [Yf 216 1 11,Yl 217 11 216,YI 218 30 217 1,YJ 219 30 218,Yf 220 1 11,Yl 221 11 220,YI 222 30 221 0,YJ 223 30 222,Yo 224 (.buildSl 30 2 [i64 0,i64 0,i64 0,i64 0,i64 0,i64 0,i64 0,i64 0,i64 0,i64 0,st [],.sl .plain none 0 [],u8 0,u8 0,u8 0,u8 0,u8 0,u8 0,u8 0,u8 0,u8 0,u8 0,u8 0,u8 0,u8 0,u8 0,u8 0,u8 0,.sl .plain none 0 [],.sl .plain none 0 [],i64 0,i64 0,i64 0,i64 0,i64 0,i64 0,i64 0,i64 0,i64 0,i64 0,st [],.sl .plain none 0 [],u8 0,u8 0,u8 0,u8 0,u8 0,u8 0,u8 0,u8 0,u8 0,u8 0,u8 0,u8 0,u8 0,u8 0,u8 0,u8 0,.sl .plain none 0 [],.sl .plain none 0 []] [(0,30,.s 219),(30,30,.s 223)]),Yf 225 1 34,YS 34 225 224] (YR [1,7,9,10,11,16,29,30,31,33,34,35,36] [.norm [1,3,4,6,8,10,11,13,15,17,19,21,25,27,30,32,34]] [YL 227 3 1 1,YC 228 353 227 2,Ym 226 228,Ye 229 0 226,Ye 230 1 226,YM 35 229,Ym 36 230] (YR [1,7,9,10,11,16,29,30,31,33,34,35,36,37,38] [.norm [1,3,4,6,8,10,11,13,15,17,19,21,25,27,30,32,34,37]] [YL 232 3 11 11,Yk 233 369 232,Yk 234 368 233,Ym 231 234,Ye 235 0 231,Ye 236 1 231,Yh 37 37,Ys 3 37 37 235,Ym 38 236] (YR [1,7,9,10,11,16,29,30,31,33,34,35,36,37,38,40] [.norm [1,3,4,6,8,10,11,13,15,17,19,21,25,27,30,32,34,37,39]] [Yo 238 (.call 368 [.c (st [])] []),Ym 237 238,Ye 239 0 237,Ye 240 1 237,Yh 39 39,Ys 3 39 39 239,Ym 40 240] (YR [0] [.norm [1,3,4,6,8,10,11,13,15,17,19,21,25,27,30,32,34,37,39]] [Ym 241 29,Ym 242 241,YG 242 (Ym 243 7),YG 242 (YB 244 .eql 243 20),Yp 245 242 244,Ym 246 245,YG 246 (Ym 247 9),YG 246 (YB 248 .eql 247 1),Yp 249 246 248,Ym 250 249,YG 250 (YL 251 3 1 1),YG 250 (Yk 252 349 251),YG 250 (YB 253 .eql 252 3),Yp 254 250 253,Ym 255 254,YG 255 (YL 256 3 1 1),YG 255 (Yk 257 386 256),YG 255 (YL 258 16 10 10),YG 255 (Yo 259 (.eqF (ks8 16) false (.s 257) (.s 258))),Yp 260 255 259,Ym 261 260,YG 261 (Ym 262 16),YG 261 (YB 263 .eql 262 11),Yp 264 261 263,Ym 265 264,YG 265 (YL 266 16 10 10),YG 265 (YL 267 3 11 11),YG 265 (Yo 268 (.call 363 [.s 266,.c (i64 3),.s 267] [])),YG 265 (YB 269 .eql 268 0),Yp 270 265 269,Ym 271 270,YG 271 (YL 272 16 10 10),YG 271 (YL 273 3 11 11),YG 271 (Yo 274 (.call 363 [.s 272,.c (i64 4),.s 273] [])),YG 271 (YB 275 .eql 274 8),Yp 276 271 275,Ym 277 276,YG 277 (YL 278 16 10 10),YG 277 (YL 279 3 11 11),YG 277 (Yo 280 (.call 363 [.s 278,.c (i64 2),.s 279] [])),YG 277 (YB 281 .eql 280 1),Yp 282 277 281,Ym 283 282,YG 283 (YL 284 16 10 10),YG 283 (YL 285 3 34 34),YG 283 (Yo 286 (.call 363 [.s 284,.c (i64 3),.s 285] [])),YG 283 (YB 287 .eql 286 8),Yp 288 283 287,Ym 289 288,YG 289 (Ym 290 31),YG 289 (YB 291 .eql 290 0),Yp 292 289 291,Ym 293 292,YG 293 (Yf 294 1 30),YG 293 (Yl 295 30 294),YG 293 (Yn 296 295),YG 293 (YB 297 .eql 296 3),Yp 298 293 297,Ym 299 298,YG 299 (Ym 300 33),YG 299 (YB 301 .eql 300 1),Yp 302 299 301,Ym 303 302,YG 303 (YL 304 16 10 10),YG 303 (YL 305 3 30 30),YG 303 (Yo 306 (.call 363 [.s 304,.c (i64 3),.s 305] [])),YG 303 (YB 307 .eql 306 0),Yp 308 303 307,Ym 309 308,YG 309 (Ym 310 35),YG 309 (Yn 311 310),YG 309 (YB 312 .eql 311 1),Yp 313 309 312,Ym 314 313,YG 314 (Ym 315 36),YG 314 (YB 316 .eql 315 0),Yp 317 314 316,Ym 318 317,YG 318 (YL 319 3 11 11),YG 318 (YL 320 3 37 37),YG 318 (YK 321 377 319 320),Yp 322 318 321,Ym 323 322,YG 323 (Ym 324 38),YG 323 (YB 325 .eql 324 0),Yp 326 323 325,Ym 327 326,YG 327 (Ym 328 40),YG 327 (YB 329 .eql 328 5),Yp 330 327 329,Ym 0 330] .ret)))))))
def z9qb:z1c:=
 YR [1,7,9,10,11,12,13,14,16,29] [.norm [1,3,4,6,8,10,11,13,15,17,19,21,25,27]] [Ym 138 22,YB 139 .eql 138 11,Ym 140 139,YG 140 (Ym 141 24),YG 140 (YB 142 .eql 141 11),Yp 143 140 142,Ym 144 143,YG 144 (Ym 145 28),YG 144 (YB 146 .eql 145 11),Yp 147 144 146,Ym 148 147,YG 148 (Yf 149 0 17),YG 148 (Yf 150 0 149),YG 148 (Yl 151 17 150),YG 148 (YB 152 .eql 151 2),Yp 153 148 152,Ym 154 153,YG 154 (Yf 155 0 17),YG 154 (YL 156 2 17 155),YG 154 (YL 157 2 25 25),YG 154 (YK 158 209 156 157),Yp 159 154 158,Ym 160 159,YG 160 (YL 161 3 17 17),YG 160 (Yk 162 355 161),YG 160 (YL 163 16 10 10),YG 160 (Yo 164 (.eqF (ks8 16) false (.s 162) (.s 163))),Yp 165 160 164,Ym 166 165,YG 166 (YL 167 3 17 17),YG 166 (Yk 168 349 167),YG 166 (YB 169 .eql 168 3),Yp 170 166 169,Ym 171 170,YG 171 (YL 172 16 10 10),YG 171 (YL 173 3 19 19),YG 171 (Yo 174 (.call 363 [.s 172,.c (i64 3),.s 173] [])),YG 171 (YB 175 .eql 174 0),Yp 176 171 175,Ym 29 176] (Yq (YR [1,7,9,10,11,13,16,29,202] [.norm [1,3,4,6,8,10,11,13,15,17,19,21,25,27]] [Ym 177 12,YB 178 .neq 177 0,Ym 179 178,Yg 179 (Ym 180 14),Yg 179 (YB 181 .neq 180 0),YP 182 179 181,Ym 183 182,Yg 183 (Yf 184 1 11),Yg 183 (Yl 185 11 184),Yg 183 (Yn 186 185),Yg 183 (YB 187 .neq 186 2),YP 188 183 187,Ym 189 188,Yg 189 (Yf 190 2 11),Yg 189 (Yl 191 11 190),Yg 189 (Yn 192 191),Yg 189 (YB 193 .neq 192 2),YP 194 189 193,Ym 195 194,Yg 195 (Yf 196 2 11),Yg 195 (Yl 197 11 196),Yg 195 (YI 198 1 197 0),Yg 195 (Yj 199 198),Yg 195 (Yn 200 199),Yg 195 (YB 201 .neq 200 1),YP 202 195 201] (Yd 202 (Yr [0] [Yw 0 false] .ret) (Yy [1,7,9,10,11,13,16,29]))) z3ob)
def z9ob:z1c:=
 YR [1,7] [.norm [1,3,4,6]] [YL 58 3 1 1,Yo 59 (.build (List.replicate 10 (i64 0)++[st []]++[.sl .plain none 0 []]++bys (z5j 16)++[.sl .plain none 0 []]++[.sl .plain none 0 []]) [(0,1,.c (i64 3)),(3,1,.c (i64 1))]),YK 60 357 58 59,Ym 57 60,Ye 61 0 57,Ye 62 1 57,Yh 6 6,Ys 3 6 6 61,Ym 7 62] (YR [1,7,9] [.norm [1,3,4,6,8]] [YL 64 3 1 1,Yo 65 (.build (List.replicate 10 (i64 0)++[st []]++[.sl .plain none 0 []]++bys (z5j 16)++[.sl .plain none 0 []]++[.sl .plain none 0 []]) [(0,1,.c (i64 9))]),YK 66 357 64 65,Ym 63 66,Ye 67 0 63,Ye 68 1 63,Yh 8 8,Ys 3 8 8 67,Ym 9 68] (YR [1,7,9,10] [.norm [1,3,4,6,8,10]] [YL 69 3 1 1,Yk 70 355 69,Yz 10 10 16,Ys 16 10 10 70] (YR [1,7,9,10,11,12] [.norm [1,3,4,6,8,10,11]] [YL 72 3 1 1,YD 73 360 72 1 3,Ym 71 73,Ye 74 0 71,Ye 75 1 71,Yh 11 11,Ys 3 11 11 74,Ym 12 75] (YR [1,7,9,10,11,12,13,14] [.norm [1,3,4,6,8,10,11,13]] [YL 77 3 1 1,YD 78 360 77 0 1,Ym 76 78,Ye 79 0 76,Ye 80 1 76,Yh 13 13,Ys 3 13 13 79,Ym 14 80] (YR [1,7,9,10,11,12,13,14,16] [.norm [1,3,4,6,8,10,11,13,15]] [YL 82 3 1 1,YD 83 360 82 2 2,Ym 81 83,Ye 84 0 81,Ye 85 1 81,Yh 15 15,Ys 3 15 15 84,Ym 16 85] (YR [1,7,9,10,11,12,13,14,16,17,18] [.norm [1,3,4,6,8,10,11,13,15,17]] [YL 87 3 1 1,YC 88 359 87 2,Ym 86 88,Ye 89 0 86,Ye 90 1 86,Yh 17 17,Ys 3 17 17 89,Ym 18 90] (YR [1,7,9,10,11,12,13,14,16,17,18,19,20] [.norm [1,3,4,6,8,10,11,13,15,17,19]] [YL 92 3 17 17,YD 93 360 92 2 3,Ym 91 93,Ye 94 0 91,Ye 95 1 91,Yh 19 19,Ys 3 19 19 94,Ym 20 95] (YR [1,7,9,10,11,12,13,14,16,17,18,19,20,22] [.norm [1,3,4,6,8,10,11,13,15,17,19,21]] [YL 97 3 17 17,YD 98 360 97 1 3,Ym 96 98,Ye 99 0 96,Ye 100 1 96,Yh 21 21,Ys 3 21 21 99,Ym 22 100] (YR [1,7,9,10,11,12,13,14,16,17,18,19,20,22,24] [.norm [1,3,4,6,8,10,11,13,15,17,19,21]] [YL 102 3 17 17,YC 103 353 102 1,Ym 101 103,Ye 104 0 101,Ye 105 1 101,YM 23 104,Ym 24 105] (YR [1,7,9,10,11,12,13,14,16,17,18,19,20,22,24,25,26] [.norm [1,3,4,6,8,10,11,13,15,17,19,21,25]] [YL 107 3 1 1,YC 108 348 107 2,Ym 106 108,Ye 109 0 106,Ye 110 1 106,YH 25 25,Ys 2 25 25 109,Ym 26 110] (YR [1,7,9,10,11,12,13,14,16,17,18,19,20,22,24,25,26,28] [.norm [1,3,4,6,8,10,11,13,15,17,19,21,25,27]] [YL 112 3 1 1,YC 113 348 112 4,Ym 111 113,Ye 114 0 111,Ye 115 1 111,YH 27 27,Ys 2 27 27 114,Ym 28 115] (Yq (YR [1,7,9,10,11,12,13,14,16,17,19,22,24,25,28,137] [.norm [1,3,4,6,8,10,11,13,15,17,19,21,25,27]] [Ym 116 18,YB 117 .neq 116 0,Ym 118 117,Yg 118 (Ym 119 20),Yg 118 (YB 120 .neq 119 0),YP 121 118 120,Ym 122 121,Yg 122 (Ym 123 26),Yg 122 (YB 124 .neq 123 0),YP 125 122 124,Ym 126 125,Yg 126 (Yf 127 1 25),Yg 126 (Yl 128 25 127),Yg 126 (Yn 129 128),Yg 126 (YB 130 .neq 129 1),YP 131 126 130,Ym 132 131,Yg 132 (Yf 133 2 17),Yg 132 (Yl 134 17 133),Yg 132 (Yn 135 134),Yg 132 (YB 136 .neq 135 1),YP 137 132 136] (Yd 137 (Yr [0] [Yw 0 false] .ret) (Yy [1,7,9,10,11,12,13,14,16,17,19,22,24,25,28]))) z9qb))))))))))))
def z9vb:z1ka:=
 {n:=0,wr:=[],res:=[.t 0],body:=Yr [] [Yw 0 false] (YR [1] [.norm [1]] [Yh 1 1] (Yq (Yr [1,41,42,43] [YT 41 396 [],Yn 42 41,Yc 43 0] (.block 0 (.loop z5nb))) z9ob))}
end Go.Abs
end

section
namespace Go.Abs
structure XM where
 bx:List Nat
 nb:List Nat
 run:List z0a→Option (z0a×(Nat→List z0a))
structure XW where
 hold:List Nat
 bx:List Nat
 run:List z0a→(Nat→List z0a)→Option (z0a×(Nat→List z0a))
structure XE where
 G:Nat→List z0a→Option z0a
 T:Nat→List z0a
 M:Nat→XM:=fun _=>⟨[],[],fun _=>none⟩
 I:Nat→List z0a→List z0a→Option (List (List z0a)):=fun _ _ _=>none
 C:Nat→XW:=fun _=>⟨[],[],fun _ _=>none⟩
def XE.env (X:XE):Env:=
 {G:=fun f=>⟨fun ds=>(X.G f ds).isSome=true,fun ds=>(X.G f ds).getD .undef⟩
  T:=X.T
  M:=fun f=>⟨(X.M f).bx,(X.M f).nb,fun ds=>((X.M f).run ds).isSome=true,fun ds=>(((X.M f).run ds).getD (.undef,fun _=>[])).1,fun ds=>(((X.M f).run ds).getD (.undef,fun _=>[])).2⟩
  I:=fun f=>⟨fun x y=>(X.I f x y).isSome=true,fun x y i=>((X.I f x y).getD [])[i]?,[]⟩
  C:=fun f=>⟨(X.C f).hold,(X.C f).bx,[],fun ds bs=>((X.C f).run ds bs).isSome=true,fun ds bs=>(((X.C f).run ds bs).getD (.undef,fun _=>[])).1,fun ds bs=>(((X.C f).run ds bs).getD (.undef,fun _=>[])).2⟩}
/-! ### lists -/
noncomputable def lkX {α:Type} (s:Nat) (l:List (Nat×α)):Option α:=List.rec none (fun p _ ih=>bif Nat.beq s p.1 then some p.2 else ih) l
theorem z6F {α:Type} (s:Nat):∀l:List (Nat×α),lkX s l=lk l s
 |[]=>rfl
 |(k,x)::l=>by
  have h:lkX s ((k,x)::l)=bif Nat.beq s k then some x else lkX s l:=rfl
  rw[h,z6F s l,lk]
  by_cases e:s=k
  ·subst e
   rw[if_pos rfl,Nat.beq_refl];rfl
  ·rw[if_neg e]
   cases hb:Nat.beq s k with
   |true=>exact absurd (Nat.eq_of_beq_eq_true hb) e
   |false=>rfl
noncomputable def z1Ma {α:Type} (p:α→Bool) (l:List α):Bool:=List.rec true (fun a _ ih=>bif p a then ih else false) l
theorem z1ra {α:Type} {p:α→Bool}:∀{l:List α},z1Ma p l=true→∀a∈l,p a=true
 |[],_,_,h=>by cases h
 |b::l,h,a,ha=>by
  have e:z1Ma p (b::l)=bif p b then z1Ma p l else false:=rfl
  rw[e] at h
  cases hb:p b with
  |false=>rw[hb] at h;cases h
  |true=>
   rw[hb] at h
   rcases List.mem_cons.1 ha with rfl|h'
   ·exact hb
   ·exact z1ra h a h'
def z4Ud:z0a→Bool| .lit (.bool _)=>true|_=>false
theorem z3vc {v:z0a} (h:z4Ud v=true):isB v:=by unfold z4Ud at h;split at h;exact trivial;cases h
def z3Bd:z0a→Bool| .lit (.int _ _)=>true|_=>false
theorem z2Gb {v:z0a} (h:z3Bd v=true):isI v:=by unfold z3Bd at h;split at h;exact trivial;cases h
def z0td (k:IntKind):z0a→Bool| .lit (.int k' _)=>decide (k=k')|_=>false
theorem z9gd {k:IntKind} {v:z0a} (h:z0td k v=true):z28 k v:=by
 unfold z0td at h
 split at h
 ·exact show k=_ from of_decide_eq_true h
 ·cases h
def z3Mc:z0a→Bool| .lit (.string _)=>true|_=>false
theorem z3Fb {v:z0a} (h:z3Mc v=true):isS v:=by unfold z3Mc at h;split at h;exact trivial;cases h
def z4sd:z0a→Bool| .sl _ _ _ _=>true| .bv _ _ _ _ _=>true| .lit (.slice none 0 0)=>true|_=>false
theorem z0id {v:z0a} (h:z4sd v=true):z4aa v:=by unfold z4sd at h;split at h<;>first|exact trivial|cases h
def z0db:z0a→Bool| .agg _=>false| .tup _=>false| .otup _ _ _ _ _=>false| .oagg _ _ _ _ _ _=>false| .undef=>false| .lit (.agg _)=>false| .lit (.tuple _)=>false|_=>true
theorem z52a {v:z0a} (h:z0db v=true):z8a v:=by
 unfold z0db at h
 unfold z8a
 split<;>simp_all
def z5be (k:Option Nat) (v:z0a):Bool:=
 match k with
 |none=>z0db v
 |some n=>match v with| .agg cs=>cs.length==n&&cs.all (fun c=>z0db c&& !z5b c)|_=>false
theorem z7Nc {k:Option Nat} {v:z0a} (h:z5be k v=true):isK k v:=by
 unfold z5be at h
 unfold isK
 split at h
 ·exact z52a h
 ·split at h
  ·simp only[Bool.and_eq_true,beq_iff_eq,List.all_eq_true,Bool.not_eq_true'] at h
   exact⟨h.1,fun c hc=>z52a (h.2 c hc).1,fun c hc=>(h.2 c hc).2⟩
  ·cases h
def z7Zd (esz:Nat) (b:Option Nat) (bx:Option (List z0a)):z0a→Bool
 | .sl _ _ n cs=>cs.length==n*esz
 | .bv id e off n _=>b==some id&&e==esz&&(match bx with|some cs=>decide (off+n*e≤cs.length)|none=>false)
 | .lit (.slice none 0 0)=>true
 |_=>false
theorem z3yc {esz:Nat} {b:Option Nat} {bx:Option (List z0a)} {v:z0a} (h:z7Zd esz b bx v=true):okS esz b bx v:=by
 unfold z7Zd at h
 split at h
 ·simpa[okS] using h
 ·simp only[Bool.and_eq_true,beq_iff_eq] at h
  obtain⟨⟨h1,h2⟩,h3⟩:=h
  split at h3
  ·exact⟨h1,h2,_,rfl,of_decide_eq_true h3⟩
  ·cases h3
 ·trivial
 ·cases h
def z1me (op:BinOp) (x y:z0a):Bool:=
 match x,y with
 | .lit (.int k _),.lit (.int k' b)=>
  (match op with
   | .shl| .shr=>decide (0≤b)
   | .quo| .rem=>decide (k=k')&&b !=0
   |_=>decide (k=k'))
 | .lit (.string a),.lit (.string b)=>
  (match op with
   | .add=>decide (((a.size+b.size:Nat):Int)≤9223372036854775807)
   | .eql| .neq| .lss| .leq| .gtr| .geq=>true
   |_=>false)
 |_,_=>false
theorem z8wd {op:BinOp} {x y:z0a} (h:z1me op x y=true):z3a op x y:=by
 unfold z1me at h
 split at h
 ·split at h<;>simp_all [z3a]
 ·split at h<;>simp_all [z3a]
 ·cases h
def unX (op:UnOp) (x:z0a):Bool:=
 match op,x with
 | .neg,.lit (.int _ _)=>true
 | .xor,.lit (.int _ _)=>true
 | .not,.lit (.bool _)=>true
 |_,_=>false
theorem z77d {op:UnOp} {x:z0a} (h:unX op x=true):z5S op x:=by
 unfold unX at h;split at h<;>first|trivial|cases h
def z5Qd:LK→z0a→Bool
 | .int k,.lit (.int k' _)=>decide (k=k')
 | .bool,.lit (.bool _)=>true
 | .str,.lit (.string _)=>true
 |_,_=>false
def z1Kb:List LK→List z0a→Bool
 |[],[]=>true
 |k::ks,c::cs=>z5Qd k c&&z1Kb ks cs
 |_,_=>false
theorem z7Fb:∀{ks:List LK} {cs:List z0a},z1Kb ks cs=true→z6n ks cs
 |[],[],_=>trivial
 |[],_::_,h=>by cases h
 |_::_,[],h=>by cases h
 |k::ks,c::cs,h=>by
  simp only[z1Kb,Bool.and_eq_true] at h
  refine⟨?_,z7Fb h.2⟩
  have h1:=h.1
  unfold z5Qd at h1
  split at h1
  ·exact show _=_ from of_decide_eq_true h1
  ·trivial
  ·trivial
  ·cases h1
def z1Zb (bs:List Nat) (bx:Nat→Option (List z0a)):z0a→Bool
 | .bp id off=>bs.contains id&&(match bx id with|some cs=>decide (off≤cs.length)|none=>false)
 | .bv id e off n _=>bs.contains id&&(match bx id with|some cs=>decide (off+n*e≤cs.length)|none=>false)
 |v=>z0b v
theorem z7Nb {bs:List Nat} {bx:Nat→Option (List z0a)} {v:z0a} (h:z1Zb bs bx v=true):z8e bs bx v:=by
 unfold z1Zb at h
 split at h
 ·simp only[Bool.and_eq_true,List.contains_eq_mem,decide_eq_true_eq] at h
  obtain⟨h1,h2⟩:=h
  split at h2
  ·rename_i cs e;exact⟨h1,cs,e,of_decide_eq_true h2⟩
  ·cases h2
 ·simp only[Bool.and_eq_true,List.contains_eq_mem,decide_eq_true_eq] at h
  obtain⟨h1,h2⟩:=h
  split at h2
  ·rename_i cs e;exact⟨h1,cs,e,of_decide_eq_true h2⟩
  ·cases h2
 ·rename_i h1 h2
  cases v with
  |bp=>exact(h1 _ _ rfl).elim
  |bv=>exact(h2 _ _ _ _ _ rfl).elim
  |_=>exact h
def z9ic (bs:List Nat) (bx:Nat→Option (List z0a)):z0a→Bool
 | .fn _ x y=>x.all (z1Zb bs bx)&&y.all (z1Zb bs bx)
 |v=>z1Zb bs bx v
theorem z53b {bs:List Nat} {bx:Nat→Option (List z0a)} {v:z0a} (h:z9ic bs bx v=true):z0d bs bx v:=by
 cases v<;>simp only[z9ic,z0d] at h⊢
 case fn f x y=>
  simp only[Bool.and_eq_true,List.all_eq_true] at h
  exact⟨fun v hv=>z7Nb (h.1 v hv),fun v hv=>z7Nb (h.2 v hv)⟩
 all_goals exact z7Nb h

theorem z3gb {α:Type} {c:Bool} {a e:α} (h:(bif c then some a else none)=some e):c=true∧a=e:=by
 cases c with
 |false=>cases h
 |true=>cases h;exact⟨rfl,rfl⟩
theorem z4bc (a b:ByteArray) (h:a.data.toList=b.data.toList):a=b:=by
 cases a with|mk a=>cases b with|mk b=>cases a with|mk a=>cases b with|mk b=>exact congrArg (fun l=>ByteArray.mk (Array.mk l)) h
def strF (op:BinOp) (a b:ByteArray):Value:=match op with| .add=> .string ⟨⟨a.data.toList++b.data.toList⟩⟩|op=>z49d op a b
theorem z0yd (op:BinOp) (a b:ByteArray):strF op a b=z49d op a b:=by
 cases op with
 |add=>exact congrArg Value.string (z4bc _ _ (by simp[ByteArray.data_append]))
 |_=>rfl
def z1je (op:BinOp) (x y:z0a):z0a:=
 match x,y with
 | .lit (.int k a),.lit (.int _ b)=> .lit (z8Dd op k a b)
 | .lit (.string a),.lit (.string b)=> .lit (strF op a b)
 |_,_=> .undef
theorem z3yd (op:BinOp) (x y:z0a):z1je op x y=z9c op x y:=by
 unfold z1je z9c
 split
 ·rfl
 ·rw[z0yd]
 ·rename_i h1 h2
  split
  ·exact(h1 _ _ _ _ rfl rfl).elim
  ·exact(h2 _ _ rfl rfl).elim
  ·rfl
def z9le (s:ByteArray) (l h:Nat):ByteArray:=⟨⟨(s.data.toList.take h).drop l⟩⟩
theorem z9Hd (s:ByteArray) (l h:Nat):z9le s l h=s.extract l h:=z4bc _ _ (by simp[z9le,ByteArray.data_extract,List.extract_eq_take_drop,List.drop_take])
def z6Ic (id:Nat):Bool:=Nat.blt id 400000||(Nat.ble 500000 id&&Nat.blt id 1000000)
theorem z3Ub {id:Nat} (h:z6Ic id=true):z1n id:=by
 simp only[z6Ic,Bool.or_eq_true,Bool.and_eq_true] at h
 exact h.imp (fun h=>Nat.le_of_ble_eq_true h) fun h=>⟨Nat.le_of_ble_eq_true h.1,Nat.le_of_ble_eq_true h.2⟩
section
variable (X : XE) (g : Nat → z0a) (gb : Nat → Option (List z0a))
noncomputable def z0Db (o:Option Arg) (m:Nat):Bool:=match o with|none=>true|some a=>z3Bd (arg X.env g a)&&decide (0≤asI (arg X.env g a))&&decide (asI (arg X.env g a)≤m)
noncomputable def z6Pb (g:Nat→z0a):List (Nat×Nat×Arg)→Nat→Bool
 |[],_=>true
 |(off,k,a)::r,n=>(z4c (arg X.env g a)).length==k&&Nat.ble (off+k) n&&z1Ma z0db (z4c (arg X.env g a))&&z6Pb g r n
def z2Cc (b:Option Nat) (n:Nat):z0a→Bool
 | .bp id off=>(match b with|some i=>Nat.beq i id|none=>false)&&(match gb id with|some cs=>Nat.ble (off+n) cs.length|none=>false)
 | .ep cs=>b.isNone&&Nat.ble n cs.length
 |_=>false
def z6dd (ws:List (Nat×Nat)):Nat→List z0a→Bool
 |_,[]=>true
 |j,a::as=>(match fnd ws j with|some id=>(match a with| .bp i 0=>i==id|_=>false)&&(match gb id with|some cs=>z8b cs|none=>false)|none=>z9ic [] (fun _=>none) a)&&z6dd ws (j+1) as
noncomputable def z4zc (esz:Nat) (bytes:Nat) (str:Bool) (nlr:Option Bool) (b:Option Nat) (x y:z0a):Bool:=
  (if str then z3Mc y&&esz==1 else z7Zd esz b (bxc gb b) y)&&
  Nat.ble ((z7e x+z7e y)*bytes) 1099511627776&&Nat.ble (z7e x+z7e y) 1099511627776&&
  (match nlr with
   |none=>true
   |some false=>(match x with| .sl _ (some false) _ _=>true|_=>Nat.ble 1 (z7e y))
   |some true=>(match x with| .sl _ (some true) _ _=>z7e y==0|_=>false))&&
  z1Ma (fun c=>z0b c&&z0db c) (z0c (bxl gb b) y)
noncomputable def z7cd (f:Nat) (as:List z0a) (bs:List Nat):Option Eff:=
 bif z1Ma (z9ic bs (fun id=>if id∈bs then gb id else none)) as&&z1Ma (fun id=>match gb id with|some cs=>z8b cs|none=>false) bs then
  match X.G f (as.map (z5e (fun id=>if id∈bs then(gb id).getD [] else []))) with
  |some v=>bif z0b v&&(bs.isEmpty||z6c v) then some {val:=v} else none
  |none=>none
 else none
noncomputable def z7Fc (f:Nat) (as:List z0a) (ws ns:List (Nat×Nat)):Option Eff:=
 bif z6dd gb ws 0 as&&(ws.map (·.1)==(X.M f).bx)&&decide ((ws.map (·.2)).Nodup)&&(z1Ma (fun j=>decide (j<as.length)) (X.M f).bx)&&(ns.map (·.1)==(X.M f).nb)&&decide ((ns.map (·.2)).Nodup)&&z1Ma (fun p:Nat×Nat=>(gb p.2).isNone&&z6Ic p.2) ns&&decide (((X.M f).bx++(X.M f).nb).Nodup)&&z1Ma (fun p:Nat×Nat=>decide (p.1<500000)&&decide (p.2<500000)) (ws++ns) then
  match(X.M f).run (z7n gb ws 0 as) with
  |some (v,out)=>bif z1Ma (fun id=>((X.M f).bx++(X.M f).nb).contains id) (z3d v)&&z1Ma (fun j=>z1Ma (fun id=>((X.M f).bx++(X.M f).nb).contains id) (z6b (out j))) ((X.M f).bx++(X.M f).nb) then
    some {val:=Abs.ren (ws++ns) v,bx:=(ws++ns).map fun p:Nat×Nat=>(p.2,some (Abs.renL (ws++ns) (out p.1)))} else none
  |none=>none
 else none
noncomputable def z1vd (ws:List (Nat×Nat)) (a:z0a):Bool:=match z3d a with|[]=>z9ic [] (fun _=>none) a|i::l=>z1Ma (fun id=>(ws.map (·.2)).contains id) (i::l)
noncomputable def z66d (ws:List (Nat×Nat)) (cs:List z0a):Bool:=bif z4m ws then z1Ma (fun id=>(ws.map (·.2)).contains id) (z6b cs) else z8b cs
noncomputable def z5Ec (f:Nat) (as:List z0a) (ws:List (Nat×Nat)):Option Eff:=
 bif z1Ma (z1vd ws) as&&z1Ma (fun p:Nat×Nat=>match gb p.2 with|some cs=>z66d ws cs|none=>false) ws&&(ws.map (·.1)==(X.C f).bx)&&decide ((ws.map (·.2)).Nodup)&&decide ((X.C f).bx.Nodup)&&z1Ma (fun p:Nat×Nat=>decide (p.1<500000)&&decide (p.2<500000)) ws&&z1Ma (fun j=>(Nat.ble 400000 j&&Nat.blt j 500000)||(X.C f).hold.any fun i=>match(as.map (z27c ws))[i]? with|some d=>(z3d d).contains j|none=>false) (X.C f).bx then
  match(X.C f).run (as.map (z27c ws)) (z2u gb ws) with
  |some (v,out)=>bif z1Ma (fun id=>(X.C f).bx.contains id) (z3d v)&&z1Ma (fun j=>z1Ma (fun id=>(X.C f).bx.contains id) (z6b (out j))) (X.C f).bx then
    some {val:=Abs.ren (ws++[]) v,bx:=(ws++[]).map fun p:Nat×Nat=>(p.2,some (Abs.renL (ws++[]) (out p.1)))} else none
  |none=>none
 else none
def x_mv (t:Bool) (x:Arg):Eff:=match t,x with
 |true,.s n=>{val:=g n,sl:=[(n,dem (g n))]}
 |true,.c d=>{val:=d}
 |_,x=>{val:=dem (arg X.env g x)}
def z9od (c a b:Arg):Option Eff:=match arg X.env g c with| .lit (.bool true)=>some {val:=dem (arg X.env g a)}| .lit (.bool false)=>some {val:=dem (arg X.env g b)}|_=>none
def z1Wd (op:BinOp) (x y:Arg):Option Eff:=bif z1me op (arg X.env g x) (arg X.env g y) then some {val:=z1je op (arg X.env g x) (arg X.env g y)} else none
def z60d (neg:Bool) (x y:Arg):Option Eff:=bif z4Ud (arg X.env g x)&&z4Ud (arg X.env g y) then some {val:= .lit (.bool ((asB (arg X.env g x)==asB (arg X.env g y)) !=neg))} else none
def z37d (ks:List LK) (neg:Bool) (x y:Arg):Option Eff:=match arg X.env g x,arg X.env g y with
 | .agg xs,.agg ys=>bif z1Kb ks xs&&z1Kb ks ys then some {val:= .lit (.bool (z8s ks xs ys !=neg))} else none
 |_,_=>none
def z5Yc (neg:Bool) (x y:Arg):Option Eff:=match arg X.env g x,arg X.env g y with
 | .lit (.slice none 0 0),.sl _ (some b) _ _=>some {val:= .lit (.bool (b !=neg))}
 | .sl _ (some b) _ _,.lit (.slice none 0 0)=>some {val:= .lit (.bool (b !=neg))}
 |_,_=>none
def x_un (op:UnOp) (x:Arg):Option Eff:=bif unX op (arg X.env g x) then some {val:=unV op (arg X.env g x)} else none
def z3Rc (k:IntKind) (x:Arg):Option Eff:=bif z3Bd (arg X.env g x) then some {val:=cvV k (arg X.env g x)} else none
noncomputable def z0Rc (b:Option Nat) (x:Arg):Option Eff:=bif z7Zd 1 b (bxc gb b) (arg X.env g x)&&z1Ma (z0td .u8) (z0c (bxl gb b) (arg X.env g x)) then some {val:= .lit (.string (z9e (z0c (bxl gb b) (arg X.env g x))))} else none
def z3oc (x:Arg):Option Eff:=bif z3Mc (arg X.env g x) then some {val:= .sl (.own 1) (some false) (asS (arg X.env g x)).size (z3i (asS (arg X.env g x)).data.toList)} else none
def z3nd (x:Arg):Option Eff:=bif z3Mc (arg X.env g x) then some {val:=arg X.env g x} else none
def z8od (x:Nat):Option Eff:=match g x with| .sl (.own 1) (some false) _ (_::_)=>some {val:=dem (g x),sl:=[(x,dem (g x))]}|_=>none
def z88b (x:Nat):Option Eff:=match g x with| .otup e nl n cs _=>some {val:= .sl (.own e) nl n cs,sl:=[(x,dem (g x))]}|_=>none
noncomputable def z84c (z:List z0a) (ps:List (Nat×Nat×Arg)):Option Eff:=bif z6Pb X (fun n=>dem (g n)) ps z.length then some {val:= .agg (z5g X.env (fun n=>dem (g n)) ps z)} else none
noncomputable def z7mc (esz n:Nat) (z:List z0a) (ps:List (Nat×Nat×Arg)):Option Eff:=bif z.length==n*esz&&z6Pb X g ps z.length&&z8b (z5g X.env g ps z) then some {val:= .sl (.own esz) (some false) n (z5g X.env g ps z)} else none
def z5md (k b:Option Nat) (take:Bool) (x:Arg):Option Eff:=bif z2Cc gb b (k.getD 1) (arg X.env g x)&&(!take||(match b with|some id=>decide (id<1000000)|none=>true)) then some (eff X.env g gb (.load k b take x)) else none
def z9Tc (k:Option Nat) (b:Nat) (take:Bool) (a v:Arg):Option Eff:=bif decide (b<1000000)&&(match arg X.env g a with| .bp id off=>id==b&&(match gb id with|some cs=>Nat.ble (off+k.getD 1) cs.length|none=>false)|_=>false)&&z5be k (arg X.env g v) then some (eff X.env g gb (.store k b take a v)) else none
def z3Hc (x:Arg):Option Eff:=match arg X.env g x with| .bp i o=>some {val:= .bp i o}| .ep cs=>some {val:= .ep cs}|_=>none
def z0Xb (o:Nat) (x:Arg):Option Eff:=match arg X.env g x with| .bp id off=>some {val:= .bp id (off+o)}| .ep cs=>bif Nat.ble o cs.length then some {val:= .ep (cs.drop o)} else none|_=>none
def okI (n:Nat) (i:z0a):Bool:=z3Bd i&&decide (0≤asI i)&&decide (asI i<n)
def z9Gc (n esz:Nat) (x i:Arg):Option Eff:=bif okI n (arg X.env g i) then(match arg X.env g x with| .bp id off=>some {val:= .bp id (off+(asI (arg X.env g i)).toNat*esz)}| .ep cs=>some {val:= .ep (cs.drop ((asI (arg X.env g i)).toNat*esz))}|_=>none) else none
def z95c (esz:Nat) (x i:Arg):Option Eff:=bif okI (z7e (arg X.env g x)) (arg X.env g i) then(match arg X.env g x with| .bv id e off _ _=>bif e==esz then some {val:= .bp id (off+(asI (arg X.env g i)).toNat*esz)} else none| .sl _ _ _ cs=>some {val:= .ep (cs.drop ((asI (arg X.env g i)).toNat*esz))}|_=>none) else none
noncomputable def z6Pc (n esz:Nat) (x:Arg) (lo hi mx:Option Arg):Option Eff:=bif (match arg X.env g x with| .bp _ _=>true| .ep _=>true|_=>false)&&(!mx.isSome||hi.isSome)&&z0Db X g mx n&&z0Db X g hi (bnd X.env g mx n)&&z0Db X g lo (bnd X.env g hi n)&&Nat.ble (bnd X.env g hi n) n then some (eff X.env g gb (.slArr n esz x lo hi mx)) else none
noncomputable def z6qd (esz:Nat) (x:Arg) (lo hi mx:Option Arg):Option Eff:=bif (match arg X.env g x with| .bv _ e _ _ _=>e==esz| .sl _ _ _ _=>true| .lit (.slice none 0 0)=>true|_=>false)&&(!mx.isSome||hi.isSome)&&z0Db X g mx (z7e (arg X.env g x))&&z0Db X g hi (bnd X.env g mx (z7e (arg X.env g x)))&&z0Db X g lo (bnd X.env g hi (z7e (arg X.env g x))) then some (eff X.env g gb (.slSl esz x lo hi mx)) else none
noncomputable def z7Qc (x:Arg) (lo hi:Option Arg):Option Eff:=bif z3Mc (arg X.env g x)&&z0Db X g hi (asS (arg X.env g x)).size&&z0Db X g lo (bnd X.env g hi (asS (arg X.env g x)).size) then some {val:= .lit (.string (z9le (asS (arg X.env g x)) (bnd X.env g lo 0) (bnd X.env g hi (asS (arg X.env g x)).size)))} else none
def z6nd (n:Nat) (x:Arg):Option Eff:=match arg X.env g x with| .bv id _ off k _=>bif Nat.ble n k&&Nat.ble 1 n then some {val:= .bp id off} else none| .sl _ _ k cs=>bif Nat.ble n k&&Nat.ble 1 n then some {val:= .ep cs} else none|_=>none
def z7Pc (id:Nat) (z:List z0a):Option Eff:=bif z6Ic id&&(gb id).isNone then some {val:= .bp id 0,bx:=[(id,some z)]} else none
def z1Td (id:Nat) (k:Option Nat) (take:Bool) (x:Arg):Option Eff:=bif z6Ic id&&(gb id).isNone&&z5be k (arg X.env g x) then some (eff X.env g gb (.box id k take x)) else none
def z8kc (i:Nat) (x:Arg):Option Eff:=match dem (arg X.env g x) with| .tup vs=>bif decide (i<vs.length) then some {val:=dem (vs.getD i .undef)} else none|_=>none
def z0Qc (k:Option Nat) (off:Nat) (x:Arg):Option Eff:=match arg X.env g x with| .agg cs=>bif Nat.ble (off+k.getD 1) cs.length then some (match k with|none=>{val:=dem (cs.getD off .undef)}|some n=>{val:= .agg ((cs.drop off).take n)}) else none|_=>none
def z6md (k:Option Nat) (esz n:Nat) (x i:Arg):Option Eff:=bif okI n (arg X.env g i) then(match arg X.env g x with| .agg cs=>bif Nat.ble ((asI (arg X.env g i)).toNat*esz+k.getD 1) cs.length then some (eff X.env g gb (.idxA k esz n x i)) else none|_=>none) else none
def z3zc (x i:Arg):Option Eff:=bif z3Mc (arg X.env g x)&&okI (asS (arg X.env g x)).size (arg X.env g i) then some {val:= .lit (.int .u8 ((asS (arg X.env g x)).data.toList.getD (asI (arg X.env g i)).toNat 0).toNat)} else none
def z34d (str:Bool) (x:Arg):Option Eff:=bif (bif str then z3Mc (arg X.env g x) else z4sd (arg X.env g x)) then some {val:= .lit (.int .i64 (z7e (arg X.env g x)))} else none
noncomputable def z5Fc (esz bytes:Nat) (str:Bool) (nlr:Option Bool) (b:Option Nat) (x:Nat) (y:Arg):Option Eff:=bif (match g x with| .sl (.own e) _ _ _=>e==esz|_=>false)&&z4zc gb esz bytes str nlr b (g x) (arg X.env g y) then some {val:= .sl (.own esz) nlr (z7e (g x)+z7e (arg X.env g y)) (z0c [] (g x)++z0c (bxl gb b) (arg X.env g y)),sl:=[(x,dem (g x))]} else none
noncomputable def z8nc (esz bytes:Nat) (str:Bool) (nlr:Option Bool) (b:Option Nat) (x y:Arg):Option Eff:=bif (match arg X.env g x with| .sl .clip _ n cs=>cs.length==n*esz|_=>false)&&z4zc gb esz bytes str nlr b (arg X.env g x) (arg X.env g y) then some (eff X.env g gb (.appendC esz bytes str nlr b x y)) else none
noncomputable def z5oc (esz bytes:Nat) (str:Bool) (id:Nat) (b:Option Nat) (x y:Arg):Option Eff:=bif decide (id<1000000)&&(match arg X.env g x with| .bv i e off n c=>i==id&&e==esz&&(match gb id with|some cs=>Nat.ble (off+(n+z7e (arg X.env g y))*e) cs.length|none=>false)&&Nat.ble (n+z7e (arg X.env g y)) c&&Nat.ble 1 c|_=>false)&&
  (if str then z3Mc (arg X.env g y)&&esz==1 else z7Zd esz b (bxc gb b) (arg X.env g y))&&z1Ma (fun c=>z0db c&& !z5b c) (z0c (bxl gb b) (arg X.env g y)) then some (eff X.env g gb (.appendB esz bytes str id b x y)) else none
def z4ee (op:AOp) (x y:Arg):Option Eff:=bif z3Bd (arg X.env g x)&&z3Bd (arg X.env g y) then some (eff X.env g gb op) else none
noncomputable def z2Uc (f:Nat) (t:Arg) (args:List Arg) (bs:List Nat):Option Eff:=match arg X.env g t with| .fn f' x y=>bif f'==f then z7cd X gb f (x++args.map (arg X.env g)++y) bs else none|_=>none
noncomputable def z3Oc (f:Nat) (t:Option Arg) (args:List Arg) (ws ns:List (Nat×Nat)):Option Eff:=match t with|none=>z7Fc X gb f (args.map (arg X.env g)) ws ns|some t=>(match arg X.env g t with| .fn f' x y=>bif f'==f then z7Fc X gb f (x++args.map (arg X.env g)++y) ws ns else none|_=>none)
noncomputable def z92c (f:Nat) (t:Option Arg) (args:List Arg) (ws ns:List (Nat×Nat)):Option Eff:=match ns,t with|[],none=>z5Ec X gb f (args.map (arg X.env g)) ws|[],some t=>(match arg X.env g t with| .fn f' x y=>bif f'==f then z5Ec X gb f (x++args.map (arg X.env g)++y) ws else none|_=>none)|_,_=>none
noncomputable def z6hc (id esz n:Nat) (z:List z0a) (ps:List (Nat×Nat×Arg)):Option Eff:=bif z6Ic id&&(gb id).isNone&&z.length==n*esz&&z6Pb X g ps z.length&&z1Ma (fun c=> !z5b c) (z5g X.env g ps z) then some {val:= .bv id esz 0 n n,bx:=[(id,some (z5g X.env g ps z))]} else none
noncomputable def z1Ga:AOp→Option Eff
 | .buildBx i e n z ps=>z6hc X g gb i e n z ps
 | .mv t x=>some (x_mv X g t x)
 | .pick c a b=>z9od X g c a b
 | .bin op x y=>z1Wd X g op x y
 | .eqb n x y=>z60d X g n x y
 | .eqF ks n x y=>z37d X g ks n x y
 | .eqnil n x y=>z5Yc X g n x y
 | .un op x=>x_un X g op x
 | .toInt k x=>z3Rc X g k x
 | .toStr b x=>z0Rc X g gb b x
 | .toBytes x=>z3oc X g x
 | .same x=>z3nd X g x
 | .mark x=>z8od g x
 | .extractO x=>z88b g x
 | .build z ps=>z84c X g z ps
 | .buildSl e n z ps=>z7mc X g e n z ps
 | .load k b t x=>z5md X g gb k b t x
 | .store k b t a v=>z9Tc X g gb k b t a v
 | .nilchk x=>z3Hc X g x
 | .fieldAddr o x=>z0Xb X g o x
 | .idxArr n e x i=>z9Gc X g n e x i
 | .idxSl e x i=>z95c X g e x i
 | .slArr n e x l h m=>z6Pc X g gb n e x l h m
 | .slSl e x l h m=>z6qd X g gb e x l h m
 | .slStr x l h=>z7Qc X g x l h
 | .s2ap n x=>z6nd X g n x
 | .alloc id z=>z7Pc gb id z
 | .box id k t x=>z1Td X g gb id k t x
 | .extract i x=>z8kc X g i x
 | .field k o x=>z0Qc X g k o x
 | .idxA k e n x i=>z6md X g gb k e n x i
 | .idxStr x i=>z3zc X g x i
 | .call f as bs=>z7cd X gb f (as.map (arg X.env g)) bs
 | .callv f t as bs=>z2Uc X g gb f t as bs
 | .callm f t as ws ns=>z3Oc X g gb f t as ws ns
 | .callw f t as ws ns=>z92c X g gb f t as ws ns
 | .len s x=>z34d X g s x
 | .append e y s l b x z=>z5Fc X g gb e y s l b x z
 | .appendC e y s l b x z=>z8nc X g gb e y s l b x z
 | .appendB e y s i b x z=>z5oc X g gb e y s i b x z
 | .min2 x y=>z4ee X g gb (.min2 x y) x y
 | .max2 x y=>z4ee X g gb (.max2 x y) x y
 | .mkfn f x y=>some {val:= .fn f (x.map fun a=>dem (arg X.env g a)) (y.map fun a=>dem (arg X.env g a))}
 |_=>none
end
section
variable {X : XE} {g : Nat → z0a} {gb : Nat → Option (List z0a)}
theorem z1qc {α:Type} {c:Bool} {x:Option α} {e:α} (h:(bif c then x else none)=some e):c=true∧x=some e:=by
 cases c with
 |false=>cases h
 |true=>exact⟨rfl,h⟩
theorem z05a {o:Option Arg} {m:Nat} (h:z0Db X g o m=true):z2g X.env g o m:=by
 unfold z0Db at h
 split at h
 ·trivial
 ·simp only[Bool.and_eq_true,decide_eq_true_eq] at h
  exact⟨z2Gb h.1.1,h.1.2,h.2⟩
theorem z0Bb {g:Nat→z0a}:∀{ps:List (Nat×Nat×Arg)} {n:Nat},z6Pb X g ps n=true→z1e X.env g ps n
 |[],_,_=>trivial
 |(off,k,a)::r,n,h=>by
  simp only[z6Pb,Bool.and_eq_true,beq_iff_eq] at h
  exact⟨h.1.1.1,Nat.le_of_ble_eq_true h.1.1.2,fun c hc=>z52a (z1ra h.1.2 c hc),z0Bb h.2⟩
theorem z4jc {b:Option Nat} {n:Nat} {v:z0a} (h:z2Cc gb b n v=true):z1o gb b n v:=by
 unfold z2Cc at h
 split at h
 ·simp only[Bool.and_eq_true] at h
  obtain⟨h1,h2⟩:=h
  split at h1
  ·split at h2
   ·rename_i cs e;exact⟨by rw[Nat.eq_of_beq_eq_true h1],cs,e,Nat.le_of_ble_eq_true h2⟩
   ·cases h2
  ·cases h1
 ·simp only[Bool.and_eq_true,Option.isNone_iff_eq_none] at h
  exact⟨h.1,Nat.le_of_ble_eq_true h.2⟩
 ·cases h
theorem z3Ac {ws:List (Nat×Nat)}:∀{as:List z0a} {j:Nat},z6dd gb ws j as=true→z9S gb ws j as
 |[],_,_=>trivial
 |a::as,j,h=>by
  simp only[z6dd,Bool.and_eq_true] at h
  refine⟨?_,z3Ac h.2⟩
  have h1:=h.1
  split at h1
  ·rename_i id e
   rw[e]
   simp only[Bool.and_eq_true] at h1
   obtain⟨h2,h3⟩:=h1
   split at h2
   ·simp only[beq_iff_eq] at h2
    subst h2
    split at h3
    ·rename_i cs e;exact⟨rfl,cs,e,h3⟩
    ·cases h3
   ·cases h2
  ·rename_i e
   rw[e]
   exact z53b h1
theorem z17d {bs:List Nat} (h:(z1Ma (fun id=>match gb id with|some cs=>z8b cs|none=>false) bs)=true):∀id∈bs,∃cs,gb id=some cs∧z8b cs=true:=fun id hi=>by
 have:=z1ra h id hi
 split at this
 ·rename_i cs e;exact⟨cs,e,this⟩
 ·cases this
theorem z0Cc {f:Nat} {as:List z0a} {bs:List Nat} {e:Eff} (h:z7cd X gb f as bs=some e):z3k X.env gb f as bs∧{val:=z6q X.env gb f as bs}=e:=by
 unfold z7cd at h
 obtain⟨h0,h⟩:=z1qc h
 simp only[Bool.and_eq_true] at h0
 split at h
 ·rename_i v hv
  obtain⟨h1,h⟩:=z3gb h
  simp only[Bool.and_eq_true,Bool.or_eq_true,List.isEmpty_iff] at h1
  have hp:(X.env.G f).post (as.map (z5e (fun id=>if id∈bs then(gb id).getD [] else [])))=v:=by show(X.G f _).getD .undef=v;rw[hv];rfl
  refine⟨⟨fun a ha=>z53b (z1ra h0.1 a ha),fun id hi=> ?_,?_⟩,by rw[z6q,hp];exact h⟩
  ·obtain⟨cs,h2,h3⟩:=z17d h0.2 id hi
   exact⟨cs,h2,(z4i cs).1 h3⟩
  refine⟨?_,by rw[hp];exact h1.1,by rw[hp];exact h1.2⟩
  show(X.G f _).isSome=true
  rw[hv];rfl
 ·cases h
theorem z9nc {f:Nat} {as:List z0a} {ws ns:List (Nat×Nat)} {e:Eff} (h:z7Fc X gb f as ws ns=some e):okM X.env gb f as ws ns∧z6H X.env gb f as ws ns=e:=by
 unfold z7Fc at h
 obtain⟨h0,h⟩:=z1qc h
 simp only[Bool.and_eq_true,beq_iff_eq,decide_eq_true_eq] at h0
 obtain⟨⟨⟨⟨⟨⟨⟨⟨a1,a2⟩,a3⟩,a4⟩,b1⟩,b2⟩,b3⟩,a5⟩,a6⟩:=h0
 split at h
 ·rename_i v out hv
  obtain⟨h1,h⟩:=z3gb h
  simp only[Bool.and_eq_true] at h1
  have hp:(X.env.M f).post (z7n gb ws 0 as)=v:=by show(((X.M f).run _).getD _).1=v;rw[hv];rfl
  have ho:(X.env.M f).out (z7n gb ws 0 as)=out:=by show(((X.M f).run _).getD _).2=out;rw[hv];rfl
  refine⟨⟨z3Ac a1,a2,a3,fun j hj=>of_decide_eq_true (z1ra a4 j hj),b1,b2,fun p hp=> ?_,a5,fun p hp=> ?_,?_,?_,?_⟩,by rw[z6H];simp only[hp,ho];exact h⟩
  ·have:=z1ra b3 p hp
   simp only[Bool.and_eq_true,Option.isNone_iff_eq_none] at this
   exact⟨this.1,z3Ub this.2⟩
  ·have:=z1ra a6 p hp
   simp only[Bool.and_eq_true,decide_eq_true_eq] at this
   omega
  ·show((X.M f).run _).isSome=true
   rw[hv];rfl
  ·rw[hp];exact fun id hi=>List.contains_iff_mem.1 (z1ra h1.1 id hi)
  ·rw[ho];exact fun j hj id hi=>List.contains_iff_mem.1 (z1ra (z1ra h1.2 j hj) id hi)
 ·cases h
theorem z3bd {ws:List (Nat×Nat)} {a:z0a} (h:z1vd ws a=true):z43d ws a:=by
 unfold z1vd at h
 unfold z43d
 split at h
 ·rename_i e;rw[e];exact z53b h
 ·rename_i i l e
  rw[e]
  exact fun id hi=>by simpa using z1ra h id hi
theorem z2oc {f:Nat} {as:List z0a} {ws:List (Nat×Nat)} {e:Eff} (h:z5Ec X gb f as ws=some e):okW X.env gb f as ws []∧z2K X.env gb f as ws []=e:=by
 unfold z5Ec at h
 obtain⟨h0,h⟩:=z1qc h
 simp only[Bool.and_eq_true,beq_iff_eq,decide_eq_true_eq] at h0
 obtain⟨⟨⟨⟨⟨⟨a1,a2⟩,a3⟩,a4⟩,a5⟩,a6⟩,a7⟩:=h0
 split at h
 ·rename_i v out hv
  obtain⟨h1,h⟩:=z3gb h
  simp only[Bool.and_eq_true] at h1
  have hp:(X.env.C f).post (as.map (z27c ws)) (z2u gb ws)=v:=by show(((X.C f).run _ _).getD _).1=v;rw[hv];rfl
  have ho:(X.env.C f).out (as.map (z27c ws)) (z2u gb ws)=out:=by show(((X.C f).run _ _).getD _).2=out;rw[hv];rfl
  have hb:(X.env.C f).bx++(X.env.C f).nb=(X.C f).bx:=List.append_nil _
  refine⟨⟨fun a ha=>z3bd (z1ra a1 a ha),fun p hp=> ?_,a3,a4,rfl,List.nodup_nil,fun _ h=>(by cases h),(by rw[hb];exact a5),fun p hp=> ?_,fun j hj=> ?_,?_,?_,?_⟩,by rw[z2K];simp only[hp,ho];exact h⟩
  ·have:=z1ra a2 p hp
   split at this
   ·rename_i cs e
    refine⟨cs,e,?_⟩
    unfold z66d at this
    unfold z0T
    cases hv:z4m ws with
    |true=>
     rw[hv] at this
     rw[if_pos rfl]
     exact fun id hid=>by simpa using z1ra this id hid
    |false=>
     rw[hv] at this
     rw[if_neg (by simp)]
     exact this
   ·cases this
  ·rw[List.append_nil] at hp
   have:=z1ra a6 p hp
   simp only[Bool.and_eq_true,decide_eq_true_eq] at this
   omega
  ·have:=z1ra a7 j hj
   simp only[Bool.or_eq_true,Bool.and_eq_true,List.any_eq_true] at this
   rcases this with h2|⟨i,hi,h2⟩
   ·exact .inl ⟨Nat.le_of_ble_eq_true h2.1,Nat.le_of_ble_eq_true h2.2⟩
   ·split at h2
    ·rename_i d hd;exact .inr ⟨i,hi,d,hd,by simpa using h2⟩
    ·cases h2
  ·show((X.C f).run _ _).isSome=true
   rw[hv];rfl
  ·rw[hp,hb];exact fun id hi=>by simpa using z1ra h1.1 id hi
  ·rw[ho,hb];exact fun j hj id hi=>by simpa using z1ra (z1ra h1.2 j hj) id hi
 ·cases h
theorem z6oc {esz bytes:Nat} {str:Bool} {nlr:Option Bool} {b:Option Nat} {x y:z0a} (h:z4zc gb esz bytes str nlr b x y=true):okp.okApp gb esz bytes str nlr b x y:=by
 simp only[z4zc,Bool.and_eq_true] at h
 obtain⟨⟨⟨⟨h1,h2⟩,h3⟩,h4⟩,h5⟩:=h
 refine⟨?_,Nat.le_of_ble_eq_true h2,Nat.le_of_ble_eq_true h3,?_,fun c hc=> ?_⟩
 ·split at h1
  ·rename_i hs
   rw[if_pos hs]
   simp only[Bool.and_eq_true,beq_iff_eq] at h1
   exact⟨z3Fb h1.1,h1.2⟩
  ·rename_i hs
   rw[if_neg hs]
   exact z3yc h1
 ·split at h4
  ·trivial
  ·split at h4
   ·trivial
   ·simp only
    exact Nat.le_of_ble_eq_true h4
  ·split at h4<;>simp_all
 ·have:=z1ra h5 c hc
  simp only[Bool.and_eq_true] at this
  exact⟨this.1,z52a this.2⟩
theorem z9Dc {n:Nat} {i:z0a} (h:okI n i=true):isI i∧0≤asI i∧asI i<n:=by
 simp only[okI,Bool.and_eq_true,decide_eq_true_eq] at h
 exact⟨z2Gb h.1.1,h.1.2,h.2⟩
theorem z4bd {op:AOp} {e:Eff} (h:z1Ga X g gb op=some e):okp X.env g gb op∧eff X.env g gb op=e:=by
 cases op with
 |mv t x=>cases h;refine⟨trivial,?_⟩;cases t<;>cases x<;>rfl
 |pick c a b=>
  simp only[z1Ga,z9od] at h
  split at h
  ·rename_i hc;cases h;exact⟨by simp only[okp];rw[hc];trivial,by simp only[eff];rw[hc];rfl⟩
  ·rename_i hc;cases h;exact⟨by simp only[okp];rw[hc];trivial,by simp only[eff];rw[hc];rfl⟩
  ·cases h
 |bin op x y=>
  simp only[z1Ga,z1Wd] at h
  obtain⟨h1,h2⟩:=z3gb h
  exact⟨z8wd h1,by rw[←h2,z3yd];rfl⟩
 |eqb n x y=>
  simp only[z1Ga,z60d] at h
  obtain⟨h1,h2⟩:=z3gb h
  simp only[Bool.and_eq_true] at h1
  exact⟨⟨z3vc h1.1,z3vc h1.2⟩,h2⟩
 |eqF ks n x y=>
  simp only[z1Ga,z37d] at h
  split at h
  ·rename_i xs ys hx hy
   obtain⟨h1,h2⟩:=z3gb h
   simp only[Bool.and_eq_true] at h1
   exact⟨by simp only[okp];rw[hx,hy];exact⟨z7Fb h1.1,z7Fb h1.2⟩,by simp only[eff];rw[hx,hy];exact h2⟩
  ·cases h
 |eqnil n x y=>
  simp only[z1Ga,z5Yc] at h
  split at h
  ·rename_i hx hy;cases h;exact⟨by simp only[okp];rw[hx,hy];trivial,by simp only[eff];rw[hx,hy];rfl⟩
  ·rename_i hx hy;cases h;exact⟨by simp only[okp];rw[hx,hy];trivial,by simp only[eff];rw[hx,hy];rfl⟩
  ·cases h
 |un op x=>
  simp only[z1Ga,x_un] at h
  obtain⟨h1,h2⟩:=z3gb h
  exact⟨z77d h1,h2⟩
 |toInt k x=>
  simp only[z1Ga,z3Rc] at h
  obtain⟨h1,h2⟩:=z3gb h
  exact⟨z2Gb h1,h2⟩
 |toStr b x=>
  simp only[z1Ga,z0Rc] at h
  obtain⟨h1,h2⟩:=z3gb h
  simp only[Bool.and_eq_true] at h1
  exact⟨⟨z3yc h1.1,fun c hc=>z9gd (z1ra h1.2 c hc)⟩,h2⟩
 |toBytes x=>
  simp only[z1Ga,z3oc] at h
  obtain⟨h1,h2⟩:=z3gb h
  exact⟨z3Fb h1,h2⟩
 |same x=>
  simp only[z1Ga,z3nd] at h
  obtain⟨h1,h2⟩:=z3gb h
  exact⟨z3Fb h1,h2⟩
 |mark x=>
  simp only[z1Ga,z8od] at h
  split at h
  ·rename_i hx;cases h;exact⟨by simp only[okp];rw[hx];trivial,rfl⟩
  ·cases h
 |extractO x=>
  simp only[z1Ga,z88b] at h
  split at h
  ·rename_i hx;cases h;exact⟨by simp only[okp];rw[hx];trivial,by simp only[eff];rw[hx]⟩
  ·cases h
 |build z ps=>
  simp only[z1Ga,z84c] at h
  obtain⟨h1,h2⟩:=z3gb h
  exact⟨z0Bb h1,h2⟩
 |buildSl e n z ps=>
  simp only[z1Ga,z7mc] at h
  obtain⟨h1,h2⟩:=z3gb h
  simp only[Bool.and_eq_true,beq_iff_eq] at h1
  exact⟨⟨h1.1.1,z0Bb h1.1.2,h1.2⟩,h2⟩
 |load k b take x=>
  simp only[z1Ga,z5md] at h
  obtain⟨h1,h2⟩:=z3gb h
  simp only[Bool.and_eq_true,Bool.or_eq_true,Bool.not_eq_true'] at h1
  refine⟨⟨z4jc h1.1,fun ht id hb=> ?_⟩,h2⟩
  rcases h1.2 with h3|h3
  ·rw[ht] at h3;cases h3
  ·rw[hb] at h3;exact of_decide_eq_true h3
 |store k b t a v=>
  simp only[z1Ga,z9Tc] at h
  obtain⟨h1,h2⟩:=z3gb h
  simp only[Bool.and_eq_true,decide_eq_true_eq] at h1
  obtain⟨⟨h1,h4⟩,h3⟩:=h1
  refine⟨⟨h1,?_,z7Nc h3⟩,h2⟩
  split at h4
  ·rename_i e
   rw[e]
   simp only[Bool.and_eq_true,beq_iff_eq] at h4
   refine⟨h4.1,?_⟩
   have h5:=h4.2
   split at h5
   ·rename_i cs e';exact⟨cs,e',Nat.le_of_ble_eq_true h5⟩
   ·cases h5
  ·cases h4
 |nilchk x=>
  simp only[z1Ga,z3Hc] at h
  split at h
  ·rename_i hx;cases h;exact⟨by simp only[okp];rw[hx];trivial,by simp only[eff];rw[hx]⟩
  ·rename_i hx;cases h;exact⟨by simp only[okp];rw[hx];trivial,by simp only[eff];rw[hx]⟩
  ·cases h
 |fieldAddr o x=>
  simp only[z1Ga,z0Xb] at h
  split at h
  ·rename_i hx;cases h;exact⟨by simp only[okp];rw[hx];trivial,by simp only[eff];rw[hx]⟩
  ·rename_i hx
   obtain⟨h1,h2⟩:=z3gb h
   exact⟨by simp only[okp];rw[hx];exact Nat.le_of_ble_eq_true h1,by simp only[eff];rw[hx];exact h2⟩
  ·cases h
 |idxArr n e x i=>
  simp only[z1Ga,z9Gc] at h
  obtain⟨h1,h⟩:=z1qc h
  have h1:=z9Dc h1
  split at h
  ·rename_i hx;cases h;exact⟨by simp only[okp];rw[hx];exact⟨trivial,h1⟩,by simp only[eff];rw[hx]⟩
  ·rename_i hx;cases h;exact⟨by simp only[okp];rw[hx];exact⟨trivial,h1⟩,by simp only[eff];rw[hx]⟩
  ·cases h
 |idxSl e x i=>
  simp only[z1Ga,z95c] at h
  obtain⟨h1,h⟩:=z1qc h
  have h1:=z9Dc h1
  split at h
  ·rename_i hx
   obtain⟨h3,h2⟩:=z3gb h
   simp only[beq_iff_eq] at h3
   rw[hx] at h1
   exact⟨by simp only[okp];rw[hx];exact⟨h3,h1⟩,by simp only[eff];rw[hx];exact h2⟩
  ·rename_i hx
   cases h
   rw[hx] at h1
   exact⟨by simp only[okp];rw[hx];exact⟨trivial,h1⟩,by simp only[eff];rw[hx]⟩
  ·cases h
 |slArr n e x lo hi mx=>
  simp only[z1Ga,z6Pc] at h
  obtain⟨h1,h2⟩:=z3gb h
  simp only[Bool.and_eq_true,Bool.or_eq_true,Bool.not_eq_true'] at h1
  obtain⟨⟨⟨⟨⟨h1,h6⟩,h3⟩,h4⟩,h5⟩,h7⟩:=h1
  exact⟨⟨by split at h1<;>simp_all,fun hm=>h6.resolve_left (by rw[hm];simp),z05a h3,z05a h4,z05a h5,Nat.le_of_ble_eq_true h7⟩,h2⟩
 |slSl e x lo hi mx=>
  simp only[z1Ga,z6qd] at h
  obtain⟨h1,h2⟩:=z3gb h
  simp only[Bool.and_eq_true,Bool.or_eq_true,Bool.not_eq_true'] at h1
  obtain⟨⟨⟨⟨h1,h6⟩,h3⟩,h4⟩,h5⟩:=h1
  exact⟨⟨by split at h1<;>simp_all,fun hm=>h6.resolve_left (by rw[hm];simp),z05a h3,z05a h4,z05a h5⟩,h2⟩
 |slStr x lo hi=>
  simp only[z1Ga,z7Qc] at h
  obtain⟨h1,h2⟩:=z3gb h
  simp only[Bool.and_eq_true] at h1
  exact⟨⟨z3Fb h1.1.1,z05a h1.1.2,z05a h1.2⟩,by rw[←h2,z9Hd];rfl⟩
 |s2ap n x=>
  simp only[z1Ga,z6nd] at h
  split at h
  ·rename_i hx
   obtain⟨h1,h2⟩:=z3gb h
   simp only[Bool.and_eq_true] at h1
   exact⟨by simp only[okp];rw[hx];exact⟨Nat.le_of_ble_eq_true h1.1,Nat.le_of_ble_eq_true h1.2⟩,by simp only[eff];rw[hx];exact h2⟩
  ·rename_i hx
   obtain⟨h1,h2⟩:=z3gb h
   simp only[Bool.and_eq_true] at h1
   exact⟨by simp only[okp];rw[hx];exact⟨Nat.le_of_ble_eq_true h1.1,Nat.le_of_ble_eq_true h1.2⟩,by simp only[eff];rw[hx];exact h2⟩
  ·cases h
 |alloc id z=>
  simp only[z1Ga,z7Pc] at h
  obtain⟨h1,h2⟩:=z3gb h
  simp only[Bool.and_eq_true,Option.isNone_iff_eq_none] at h1
  exact⟨⟨z3Ub h1.1,h1.2⟩,h2⟩
 |box id k t x=>
  simp only[z1Ga,z1Td] at h
  obtain⟨h1,h2⟩:=z3gb h
  simp only[Bool.and_eq_true,Option.isNone_iff_eq_none] at h1
  exact⟨⟨z3Ub h1.1.1,h1.1.2,z7Nc h1.2⟩,h2⟩
 |extract i x=>
  simp only[z1Ga,z8kc] at h
  split at h
  ·rename_i hx
   obtain⟨h1,h2⟩:=z3gb h
   exact⟨by simp only[okp];rw[hx];exact of_decide_eq_true h1,by simp only[eff];rw[hx];exact h2⟩
  ·cases h
 |field k o x=>
  simp only[z1Ga,z0Qc] at h
  split at h
  ·rename_i hx
   obtain⟨h1,h2⟩:=z3gb h
   refine⟨by simp only[okp];rw[hx];exact Nat.le_of_ble_eq_true h1,?_⟩
   rw[←h2]
   cases k<;>simp only[eff]<;>rw[hx]
  ·cases h
 |idxA k e n x i=>
  simp only[z1Ga,z6md] at h
  obtain⟨h1,h⟩:=z1qc h
  have h1:=z9Dc h1
  split at h
  ·rename_i hx
   obtain⟨h3,h2⟩:=z3gb h
   exact⟨by simp only[okp];rw[hx];exact⟨Nat.le_of_ble_eq_true h3,h1⟩,h2⟩
  ·cases h
 |idxStr x i=>
  simp only[z1Ga,z3zc] at h
  obtain⟨h1,h2⟩:=z3gb h
  simp only[Bool.and_eq_true] at h1
  exact⟨⟨z3Fb h1.1,z9Dc h1.2⟩,h2⟩
 |call f as bs=>exact z0Cc h
 |callv f t as bs=>
  simp only[z1Ga,z2Uc] at h
  split at h
  ·rename_i f' x y ht
   obtain⟨hf,h⟩:=z1qc h
   simp only[beq_iff_eq] at hf
   have:=z0Cc h
   refine⟨⟨by rw[ht];exact hf,?_⟩,?_⟩
   ·rw[ht];exact this.1
   ·simp only[eff];rw[ht];exact this.2
  ·cases h
 |callm f t as ws ns=>
  simp only[z1Ga,z3Oc] at h
  split at h
  ·have:=z9nc h
   exact⟨⟨trivial,this.1⟩,this.2⟩
  ·split at h
   ·rename_i t f' x y ht
    obtain⟨hf,h⟩:=z1qc h
    simp only[beq_iff_eq] at hf
    have:=z9nc h
    refine⟨⟨by simp only;rw[ht];exact hf,?_⟩,?_⟩
    ·simp only;rw[ht];exact this.1
    ·simp only[eff];rw[ht];exact this.2
   ·cases h
 |callw f t as ws ns=>
  simp only[z1Ga,z92c] at h
  split at h
  ·have:=z2oc h
   exact⟨⟨trivial,this.1⟩,this.2⟩
  ·split at h
   ·rename_i t f' x y ht
    obtain⟨hf,h⟩:=z1qc h
    simp only[beq_iff_eq] at hf
    have:=z2oc h
    refine⟨⟨by simp only;rw[ht];exact hf,?_⟩,?_⟩
    ·simp only;rw[ht];exact this.1
    ·simp only[eff];rw[ht];exact this.2
   ·cases h
  ·cases h
 |len s x=>
  simp only[z1Ga,z34d] at h
  obtain⟨h1,h2⟩:=z3gb h
  refine⟨?_,h2⟩
  cases s
  ·exact z0id h1
  ·exact z3Fb h1
 |append e y s l b x z=>
  simp only[z1Ga,z5Fc] at h
  obtain⟨h1,h2⟩:=z3gb h
  simp only[Bool.and_eq_true] at h1
  exact⟨⟨by have:=h1.1;split at this<;>simp_all,z6oc h1.2⟩,h2⟩
 |appendC e y s l b x z=>
  simp only[z1Ga,z8nc] at h
  obtain⟨h1,h2⟩:=z3gb h
  simp only[Bool.and_eq_true] at h1
  exact⟨⟨by have:=h1.1;split at this<;>simp_all,z6oc h1.2⟩,h2⟩
 |appendB e y s i b x z=>
  simp only[z1Ga,z5oc] at h
  obtain⟨h1,h2⟩:=z3gb h
  simp only[Bool.and_eq_true,decide_eq_true_eq] at h1
  obtain⟨⟨⟨a1,a2⟩,a3⟩,a4⟩:=h1
  refine⟨⟨a1,?_,?_,fun c hc=> ?_⟩,h2⟩
  ·split at a2
   ·rename_i hx
    rw[hx]
    simp only[Bool.and_eq_true,beq_iff_eq] at a2
    obtain⟨⟨⟨⟨b1,b2⟩,b3⟩,b4⟩,b5⟩:=a2
    refine⟨b1,b2,?_,Nat.le_of_ble_eq_true b4,Nat.le_of_ble_eq_true b5⟩
    split at b3
    ·rename_i cs e';exact⟨cs,e',Nat.le_of_ble_eq_true b3⟩
    ·cases b3
   ·cases a2
  ·split at a3
   ·rename_i hs
    rw[if_pos hs]
    simp only[Bool.and_eq_true,beq_iff_eq] at a3
    exact⟨z3Fb a3.1,a3.2⟩
   ·rename_i hs
    rw[if_neg hs]
    exact z3yc a3
  ·have:=z1ra a4 c hc
   simp only[Bool.and_eq_true,Bool.not_eq_true'] at this
   exact⟨z52a this.1,this.2⟩
 |min2 x y=>
  simp only[z1Ga,z4ee] at h
  obtain⟨h1,h2⟩:=z3gb h
  simp only[Bool.and_eq_true] at h1
  exact⟨⟨z2Gb h1.1,z2Gb h1.2⟩,h2⟩
 |max2 x y=>
  simp only[z1Ga,z4ee] at h
  obtain⟨h1,h2⟩:=z3gb h
  simp only[Bool.and_eq_true] at h1
  exact⟨⟨z2Gb h1.1,z2Gb h1.2⟩,h2⟩
 |buildBx i e n z ps=>
  simp only[z1Ga,z6hc] at h
  obtain⟨h1,h2⟩:=z3gb h
  simp only[Bool.and_eq_true,Option.isNone_iff_eq_none,beq_iff_eq] at h1
  exact⟨⟨z3Ub h1.1.1.1.1,h1.1.1.1.2,h1.1.1.2,z0Bb h1.1.2,fun c hc=>by simpa using z1ra h1.2 c hc⟩,h2⟩
 |mkfn f x y=>cases h;exact⟨trivial,rfl⟩
 |_=>cases h
end
/-! ### regions, code -/
section
variable (X : XE)
noncomputable def gX (o e:List (Nat×z0a)) (s:Nat):z0a:=match lkX s e with|some d=>d|none=>dem ((lkX s o).getD .undef)
noncomputable def gbX (b:List (Nat×Option (List z0a))) (id:Nat):Option (List z0a):=(lkX id b).join
abbrev z1aa:=List (Nat×z0a)
abbrev z9Eb:=List (Nat×Option (List z0a))
theorem z97b (o e:z1aa) (b:z9Eb):ASt.getB ⟨o,e,b⟩=gbX b:=funext fun id=>by simp only[ASt.getB,gbX,z6F]
def z5yd:z0a→Bool| .lit (.tuple a)=>a.size==0|_=>false
theorem z9hd {v:z0a} (h:z5yd v=true):v=z7j:=by
 unfold z5yd at h
 split at h
 ·simp only[beq_iff_eq] at h;rw[Array.eq_empty_of_size_eq_zero h];rfl
 ·cases h
theorem z27d {v:z0a} {b:Bool} (h:z4G v b=true):isB v:=by unfold z4G at h;split at h;exact trivial;cases h
noncomputable def doX (o:z1aa) (dst:Option Nat) (op:AOp) (e:z1aa) (b:z9Eb):Option (z1aa×z9Eb):=
 match z1Ga X (gX o e) (gbX b) op with|some f=>some (match dst with|some d=>(d,f.val)::(f.sl++e)|none=>f.sl++e,f.bx++b)|none=>none
noncomputable def z1Sc (o:z1aa):z6a→z1aa→z9Eb→Option (z1aa×z9Eb)
 |⟨dst,none,op⟩,e,b=>doX X o dst op e b
 |⟨dst,some (s,want),op⟩,e,b=>bif z4G (gX o e s) want then doX X o dst op e b else bif z4Ud (gX o e s)||z5yd (gX o e s) then some ((dst.toList.map fun s=>(s,z7j))++e,b) else none
noncomputable def z4Yc (o:z1aa) (ps:List z6a):z1aa→z9Eb→Option (z1aa×z9Eb):=
 List.rec (fun e b=>some (e,b)) (fun p _ ih e b=>match z1Sc X o p e b with|some (e1,b1)=>ih e1 b1|none=>none) ps
structure z6u (u kk:List Nat) (o e:z1aa) (org:z1aa):Prop where
 nil:∀s,s∉kk→lk org s=none
 same:∀s,s∉u→lk org s=lk o s
 seen:∀s∈u,∃d,lk e s=some d∧dem d=d
 sub:∀s∈u,s∈kk
theorem z6u.get {u kk:List Nat} {o e org:z1aa} (h:z6u u kk o e org) (b:z9Eb):ASt.get ⟨org,e,b⟩=gX o e:=funext fun s=>by
 simp only[ASt.get,gX,z6F]
 cases he:lk e s with
 |some d=>rfl
 |none=>
  have:s∉u:=fun hs=>by obtain⟨d,hd,_⟩:=h.seen s hs;rw[he] at hd;cases hd
  rw[h.same s this]
theorem z6u.to {u kk:List Nat} {o e e' org:z1aa} (h:z6u u kk o e org) (hs:∀s∈u,lk e' s=lk e s):z6u u kk o e' org:=
 ⟨h.nil,h.same,fun s hu=>by rw[hs s hu];exact h.seen s hu,h.sub⟩
variable {X}
theorem z1rd {u kk:List Nat} {o e e' org:z1aa} {b b':z9Eb} {dst:Option Nat} {op:AOp} (h:doX X o dst op e b=some (e',b')) (ha:z6u u kk o e org):
  okp X.env (ASt.get ⟨org,e,b⟩) (ASt.getB ⟨org,e,b⟩) op∧∃f,eff X.env (ASt.get ⟨org,e,b⟩) (ASt.getB ⟨org,e,b⟩) op=f∧(dst.toList.map fun s=>(s,f.val))++f.sl++e=e'∧f.bx++b=b':=by
 rw[ha.get,z97b]
 unfold doX at h
 split at h
 ·rename_i f hf
  cases h
  obtain⟨h1,h2⟩:=z4bd hf
  exact⟨h1,f,h2,by cases dst<;>rfl,rfl⟩
 ·cases h
theorem z57c {u kk:List Nat} {o e e' org:z1aa} {b b':z9Eb} {p:z6a} (h:z1Sc X o p e b=some (e',b')) (hw:∀s∈p.W,s∉kk) (ha:z6u u kk o e org):
  okA X.env p ⟨org,e,b⟩∧z9a X.env p ⟨org,e,b⟩=⟨org,e',b'⟩∧∀s∈u,lk e' s=lk e s:=by
 have hW:∀s∈p.W,lk org s=none:=fun s hs=>ha.nil s (hw s hs)
 have key:okA X.env p ⟨org,e,b⟩∧z9a X.env p ⟨org,e,b⟩=⟨org,e',b'⟩:=by
  obtain⟨dst,gd,op⟩:=p
  cases gd with
  |none=>
   simp only[z1Sc] at h
   obtain⟨h1,f,h2,h3,h4⟩:=z1rd h ha
   refine⟨⟨hW,h1⟩,?_⟩
   simp only[z9a,h2,h3,h4]
  |some q=>
   obtain⟨s,want⟩:=q
   simp only[z1Sc] at h
   have hg:=congrFun (ha.get b) s
   cases hga:z4G (gX o e s) want with
   |true=>
    rw[hga] at h
    obtain⟨h1,f,h2,h3,h4⟩:=z1rd h ha
    refine⟨⟨hW,.inl (by rw[hg];exact z27d hga),fun _=>h1⟩,?_⟩
    simp only[z9a,hg,hga,if_true,h2,h3,h4]
   |false=>
    rw[hga] at h
    obtain⟨hb,h2⟩:=z3gb h
    cases h2
    have hb':okG (gX o e s):=by
     simp only[Bool.or_eq_true] at hb
     exact hb.imp z3vc z9hd
    refine⟨⟨hW,by rw[hg];exact hb',fun h'=>by rw[hg,hga] at h';cases h'⟩,?_⟩
    simp only[z9a,hg,hga,Bool.false_eq_true,if_false]
 refine⟨key.1,key.2,fun s hs=> ?_⟩
 have:=z9y (E:=X.env) p ⟨org,e,b⟩ (s:=s) (fun h'=>hw s h' (ha.sub s hs))
 rwa[key.2] at this
theorem z5kc {u kk:List Nat} {o org:z1aa}:∀{ps:List z6a} {e e':z1aa} {b b':z9Eb},z4Yc X o ps e b=some (e',b')→(∀p∈ps,∀s∈p.W,s∉kk)→z6u u kk o e org→
  z5t X.env ps ⟨org,e,b⟩∧z8I X.env ps ⟨org,e,b⟩=⟨org,e',b'⟩∧∀s∈u,lk e' s=lk e s
 |[],e,e',b,b',h,_,_=>by cases h;exact⟨trivial,rfl,fun _ _=>rfl⟩
 |p::ps,e,e',b,b',h,hw,ha=>by
  change(match z1Sc X o p e b with|some (e1,b1)=>z4Yc X o ps e1 b1|none=>none)=_ at h
  split at h
  ·rename_i e1 b1 h1
   obtain⟨k1,k2,k3⟩:=z57c h1 (hw p (by simp)) ha
   obtain⟨k4,k5,k6⟩:=z5kc h (fun q hq=>hw q (by simp[hq])) (ha.to k3)
   exact⟨⟨k1,by rw[k2];exact k4⟩,by simp only[z8I];rw[k2];exact k5,fun s hs=>(k6 s hs).trans (k3 s hs)⟩
  ·cases h
/-! ghosts -/
noncomputable def z2kc (o e:z1aa) (l:List Nat):z1aa:=l.map fun s=>(s,gX o e s)
noncomputable def ghX (u:List Nat) (o:z1aa):z0h→z1aa→z9Eb→Option (z1aa×z9Eb)
 | .keep l,e,b=>bif z1Ma l.contains u then some (z2kc o e l,b) else none
 | .norm ids,e,b=>bif z1Ma (fun p=>ids.contains p.1) b then some (e,ids.map fun id=>(id,gbX b id)) else none
 | .drop ids,e,b=>bif z1Ma (fun p=>z1Ma (fun id=> !ids.contains id) (z3d p.2)) e&&z1Ma (fun p=>ids.contains p.1||(match p.2 with|some cs=>z1Ma (fun id=> !ids.contains id) (z6b cs)|none=>true)) b then some (e,b.filter fun p=> !ids.contains p.1) else none
 | .freeze ids,e,b=>bif u.isEmpty&&z1Ma (fun id=>match gbX b id with|some cs=>z8b cs|none=>false) ids then some ((z1b (.freeze ids) ⟨o,e,b⟩).env,(z1b (.freeze ids) ⟨o,e,b⟩).box) else none
 | .thaw s id,e,b=>bif !u.contains s&&decide (id<400000)&&(gbX b id).isNone&&z1Ma (fun p=>p.1==s||z5p p.2) e&&z1Ma (fun p=>match p.2 with|some cs=>z1Ma z5p cs|none=>true) b then
   (match lkX s e with|some (.sl (.own k) _ n cs)=>bif decide (0<n)&&z7a cs then some ((s,.bv id k 0 n n)::e,(id,some cs)::b) else none|_=>none) else none
 | .hideB c i,e,b=>bif decide (c<1000000) then some (e,(z1b (.hideB c i) ⟨o,e,b⟩).box) else none
 | .reB c i k,e,b=>bif decide (c<1000000) then some (e,(z1b (.reB c i k) ⟨o,e,b⟩).box) else none
 |_,_,_=>none
theorem z5pd {u kk:List Nat} {o org:z1aa} {g:z0h} {e e':z1aa} {b b':z9Eb} (h:ghX u o g e b=some (e',b')) (ha:z6u u kk o e org):
  z9i g ⟨org,e,b⟩∧z1b g ⟨org,e,b⟩=⟨org,e',b'⟩∧∀s∈u,lk e' s=lk e s:=by
 cases g with
 |keep l=>
  simp only[ghX] at h
  obtain⟨h1,h2⟩:=z3gb h
  cases h2
  refine⟨trivial,?_,fun s hs=> ?_⟩
  ·simp only[z1b,z2o,z2kc,ha.get]
  ·have hl:s∈l:=by simpa using z1ra h1 s hs
   obtain⟨d,hd,_⟩:=ha.seen s hs
   rw[z2kc,z8ta,if_pos hl,gX,z6F,hd]
 |norm ids=>
  simp only[ghX] at h
  obtain⟨h1,h2⟩:=z3gb h
  cases h2
  refine⟨fun p hp=>by simpa using z1ra h1 p hp,?_,fun _ _=>rfl⟩
  simp only[z1b,z97b]
 |drop ids=>
  simp only[ghX] at h
  obtain⟨h1,h2⟩:=z3gb h
  cases h2
  simp only[Bool.and_eq_true] at h1
  refine⟨⟨fun p hp id hid=>by simpa using z1ra (z1ra h1.1 p hp) id hid,fun p hp=> ?_⟩,rfl,fun _ _=>rfl⟩
  have:=z1ra h1.2 p hp
  simp only[Bool.or_eq_true,List.contains_eq_mem,decide_eq_true_eq] at this
  refine this.imp id fun h3 cs hcs id hid=> ?_
  rw[hcs] at h3
  simpa using z1ra h3 id hid
 |freeze ids=>
  simp only[ghX] at h
  obtain⟨h1,h2⟩:=z3gb h
  simp only[Bool.and_eq_true,List.isEmpty_iff] at h1
  obtain⟨h0,h1⟩:=h1
  cases h2
  refine⟨fun id hid=> ?_,rfl,fun s hs=>by rw[h0] at hs;cases hs⟩
  rw[z97b]
  have:=z1ra h1 id hid
  split at this
  ·rename_i cs ec;exact⟨cs,ec,this⟩
  ·cases this
 |thaw s id=>
  simp only[ghX] at h
  obtain⟨h1,h2⟩:=z1qc h
  simp only[Bool.and_eq_true,Bool.not_eq_true',decide_eq_true_eq,Option.isNone_iff_eq_none] at h1
  obtain⟨⟨⟨⟨a1,a2⟩,a3⟩,a4⟩,a5⟩:=h1
  split at h2
  ·rename_i k nl n cs hl
   obtain⟨h3,h4⟩:=z3gb h2
   cases h4
   simp only[Bool.and_eq_true,decide_eq_true_eq] at h3
   rw[z6F] at hl
   have hg:ASt.get ⟨org,e,b⟩ s= .sl (.own k) nl n cs:=by simp only[ASt.get,hl]
   refine⟨⟨a2,by rw[z97b];exact a3,by simp only[hl];exact h3,fun p hp=> ?_,fun p hp cs hcs c hc=> ?_⟩,by simp only[z1b,hg],fun t ht=> ?_⟩
   ·have:=z1ra a4 p hp
    simpa using this
   ·have:=z1ra a5 p hp
    rw[hcs] at this
    exact z1ra this c hc
   ·have:t≠s:=fun he=>by subst he;simp[ht] at a1
    simp only[lk,if_neg this]
  ·cases h2
 |hideB c i=>
  simp only[ghX] at h
  obtain⟨h1,h2⟩:=z3gb h
  cases h2
  refine⟨show _<_ from of_decide_eq_true h1,?_,fun _ _=>rfl⟩
  simp only[z1b,ASt.getB]
  split<;>rfl
 |reB c i k=>
  simp only[ghX] at h
  obtain⟨h1,h2⟩:=z3gb h
  cases h2
  refine⟨show _<_ from of_decide_eq_true h1,?_,fun _ _=>rfl⟩
  simp only[z1b,ASt.getB]
  split<;>rfl
 |_=>cases h
noncomputable def z3ce (u:List Nat) (o:z1aa):List z0h→z1aa→z9Eb→Option (z1aa×z9Eb)
 |[],e,b=>some (e,b)
 |g::gs,e,b=>match ghX u o g e b with|some (e1,b1)=>z3ce u o gs e1 b1|none=>none
theorem z81c {u kk:List Nat} {o org:z1aa}:∀{gs:List z0h} {e e':z1aa} {b b':z9Eb},z3ce u o gs e b=some (e',b')→z6u u kk o e org→
  z6S gs ⟨org,e,b⟩∧z7q gs ⟨org,e,b⟩=⟨org,e',b'⟩∧∀s∈u,lk e' s=lk e s
 |[],e,e',b,b',h,_=>by cases h;exact⟨trivial,rfl,fun _ _=>rfl⟩
 |g::gs,e,e',b,b',h,ha=>by
  unfold z3ce at h
  split at h
  ·rename_i e1 b1 h1
   obtain⟨k1,k2,k3⟩:=z5pd h1 ha
   obtain⟨k4,k5,k6⟩:=z81c h (ha.to k3)
   exact⟨⟨k1,by rw[k2];exact k4⟩,by simp only[z7q];rw[k2];exact k5,fun s hs=>(k6 s hs).trans (k3 s hs)⟩
  ·cases h
/-! code -/
abbrev z0Ed:=Option (z5c×z1aa×z1aa×z9Eb)
noncomputable def z0fd (f:z1aa→z1aa→z9Eb→z0Ed):Nat→z1aa→z1aa→z9Eb→z0Ed
 |0,_,_,_=>none
 |n+1,o,e,b=>match f o e b with|some (.normal,o1,e1,b1)=>z0fd f n o1 e1 b1|r=>r
noncomputable def z2Nb (f:List z0a→z9Eb→z0Ed):List (List z0a)→z9Eb→Option (z5c×z9Eb)
 |[],b=>some (.normal,b)
 |xs::r,b=>match f xs b with|some (.normal,_,_,b1)=>z2Nb f r b1|some (x,_,_,b1)=>some (x,b1)|none=>none
variable (X)
noncomputable def z1tb (n:Nat):z1c→List Nat→z1aa→z1aa→z9Eb→z0Ed
 | .skip,_,o,e,b=>some (.normal,o,e,b)
 | .region keep gs xs,u,o,e,b=>match z4Yc X o xs e b with
  |some (e1,b1)=>bif z1Ma keep.contains u then(match z3ce u o gs (z2kc o e1 keep) b1 with|some (e2,b2)=>some (.normal,o,e2,b2)|none=>none) else none
  |none=>none
 | .seq p q,u,o,e,b=>match z1tb n p u o e b with|some (.normal,o1,e1,b1)=>z1tb n q u o1 e1 b1|r=>r
 | .cond c p q,u,o,e,b=>match arg X.env (gX o e) c with| .lit (.bool true)=>z1tb n p u o e b| .lit (.bool false)=>z1tb n q u o e b|_=>none
 | .block id p,u,o,e,b=>match z1tb n p u o e b with|some (.exit i,o1,e1,b1)=>bif Nat.beq i id then some (.normal,o1,e1,b1) else some (.exit i,o1,e1,b1)|r=>r
 | .loop p,u,o,e,b=>z0fd (z1tb n p u) n o e b
 | .scope p,u,o,e,b=>z1tb n p u o e b
 | .exit id,_,o,e,b=>some (.exit id,o,e,b)
 | .ret,_,o,e,b=>some (.ret,o,e,b)
 | .ghost (.unorg s) c,u,o,e,b=>bif u.contains s then none else z1tb n c u (o.filter fun p=>decide (p.1≠s)) ((s,gX o e s)::e) b
 | .ghost g c,u,o,e,b=>match ghX u o g e b with|some (e1,b1)=>z1tb n c u o e1 b1|none=>none
 | .alt p q,u,o,e,b=>match z1tb n p u o e b with|some r=>some r|none=>z1tb n q u o e b
 | .range f t ks ps as bd,u,o,e,b=>bif z1Ma ks.contains u&&z1Ma (fun p=> !ks.contains p) ps then
   (match arg X.env (gX o e) t with
   | .fn f' x y=>bif Nat.beq f' f&&z8b (x++y) then
     (match X.I f x y with
     |some els=>(match z2Nb (fun xs b=>bif xs.length==ps.length&&z7a xs then(match z1tb n as ks o (ps.zip xs++ks.map fun s=>(s,dem (gX o e s))) b with|some (.normal,o1,e1,b1)=>z1tb n bd ks o1 e1 b1|_=>none) else none) els b with
      |some (x,b1)=>some (x,o,ks.map fun s=>(s,dem (gX o e s)),b1)
      |none=>none)
     |none=>none) else none
   |_=>none) else none
 |_,_,_,_,_=>none
variable {X}
def wrC (kk:List Nat):z1c→Bool
 | .region _ _ xs=>xs.all fun o=>o.W.all fun s=> !kk.contains s
 | .seq a b=>wrC kk a&&wrC kk b
 | .cond _ a b=>wrC kk a&&wrC kk b
 | .block _ b=>wrC kk b
 | .loop b=>wrC kk b
 | .scope b=>wrC kk b
 | .ghost (.unorg s) c=>wrC (kk.filter fun k=>decide (k≠s)) c
 | .ghost _ c=>wrC kk c
 | .alt a b=>wrC kk a&&wrC kk b
 | .range _ _ ks ps as bd=>ps.all (fun p=> !kk.contains p)&&wrC (ks++kk) as&&wrC (ks++kk) bd
 |_=>true
theorem z0Zd {kk:List Nat} {keep:List Nat} {gs:List z0h} {xs:List z6a} (h:wrC kk (.region keep gs xs)=true):∀p∈xs,∀s∈p.W,s∉kk:=fun p hp s hs=>by
 simp only[wrC,List.all_eq_true,Bool.not_eq_true',List.contains_eq_mem,decide_eq_false_iff_not] at h
 exact h p hp s hs
def z5je (X:XE) (u kk:List Nat) (o o' e e':z1aa) (b b':z9Eb) (x:z5c) (c:z1c):Prop:=
 ∀org,z6u u kk o e org→(∀s∈u,lk e' s=lk e s)∧∃org',z6u u kk o' e' org'∧(∀s∈u,lk org' s=lk org s)∧∀Q:z5c→ASt→Prop,Q x ⟨org',e',b'⟩→awp X.env c Q ⟨org,e,b⟩
theorem z5Ia (n:Nat):∀(c:z1c) (u kk:List Nat) (o o' e e':z1aa) (b b':z9Eb) (x:z5c),z1tb X n c u o e b=some (x,o',e',b')→wrC kk c=true→z5je X u kk o o' e e' b b' x c
 | .skip,u,kk,o,o',e,e',b,b',x,h,_=>by
  unfold z1tb at h
  cases h
  exact fun org ha=>⟨fun _ _=>rfl,org,ha,fun _ _=>rfl,fun Q hq=>hq⟩
 | .region keep gs xs,u,kk,o,o',e,e',b,b',x,h,hw=>by
  intro org ha
  unfold z1tb at h
  split at h
  ·rename_i e1 b1 h1
   obtain⟨hk,h⟩:=z1qc h
   obtain⟨k1,k2,k3⟩:=z5kc h1 (z0Zd hw) ha
   have ha1:=ha.to k3
   have k7:∀s∈u,lk (z2kc o e1 keep) s=lk e1 s:=fun s hs=>by
    have hl:s∈keep:=by simpa using z1ra hk s hs
    obtain⟨d,hd,_⟩:=ha1.seen s hs
    rw[z2kc,z8ta,if_pos hl,gX,z6F,hd]
   split at h
   ·rename_i e2 b2 h2
    cases h
    obtain⟨k4,k5,k6⟩:=z81c h2 (ha1.to k7)
    have hr:z2o keep ⟨org,e1,b1⟩=⟨org,z2kc o e1 keep,b1⟩:=by simp only[z2o,z2kc,ha1.get]
    have hu:∀s∈u,lk e' s=lk e s:=fun s hs=>(k6 s hs).trans ((k7 s hs).trans (k3 s hs))
    refine⟨hu,org,ha.to hu,fun _ _=>rfl,fun Q hq=> ?_⟩
    simp only[awp]
    rw[k2,hr,k5]
    exact⟨k1,k4,hq⟩
   ·cases h
  ·cases h
 | .seq p q,u,kk,o,o',e,e',b,b',x,h,hw=>by
  intro org ha
  simp only[wrC,Bool.and_eq_true] at hw
  unfold z1tb at h
  split at h
  ·rename_i o1 e1 b1 h1
   obtain⟨k1,org1,a1,l1,k2⟩:=z5Ia n p u kk o o1 e e1 b b1 _ h1 hw.1 org ha
   obtain⟨k3,org2,a2,l2,k4⟩:=z5Ia n q u kk o1 o' e1 e' b1 b' x h hw.2 org1 a1
   exact⟨fun s hs=>(k3 s hs).trans (k1 s hs),org2,a2,fun s hs=>(l2 s hs).trans (l1 s hs),fun Q hq=>k2 _ (k4 Q hq)⟩
  ·rename_i hn
   obtain⟨k1,org1,a1,l1,k2⟩:=z5Ia n p u kk o o' e e' b b' x h hw.1 org ha
   refine⟨k1,org1,a1,l1,fun Q hq=>k2 _ ?_⟩
   cases x with
   |normal=>exact(hn _ _ _ h).elim
   |_=>exact hq
 | .cond c p q,u,kk,o,o',e,e',b,b',x,h,hw=>by
  intro org ha
  simp only[wrC,Bool.and_eq_true] at hw
  unfold z1tb at h
  split at h
  ·rename_i hc
   obtain⟨k1,org1,a1,l1,k2⟩:=z5Ia n p u kk o o' e e' b b' x h hw.1 org ha
   refine⟨k1,org1,a1,l1,fun Q hq=> ?_⟩
   simp only[awp]
   rw[ha.get,hc]
   exact⟨trivial,fun _=>k2 Q hq,fun h'=>by cases h'⟩
  ·rename_i hc
   obtain⟨k1,org1,a1,l1,k2⟩:=z5Ia n q u kk o o' e e' b b' x h hw.2 org ha
   refine⟨k1,org1,a1,l1,fun Q hq=> ?_⟩
   simp only[awp]
   rw[ha.get,hc]
   exact⟨trivial,fun h'=>(by cases h'),fun _=>k2 Q hq⟩
  ·cases h
 | .block id p,u,kk,o,o',e,e',b,b',x,h,hw=>by
  intro org ha
  unfold z1tb at h
  split at h
  ·rename_i i o1 e1 b1 h1
   obtain⟨k1,org1,a1,l1,k2⟩:=z5Ia n p u kk o o1 e e1 b b1 _ h1 hw org ha
   cases hi:Nat.beq i id with
   |true=>
    rw[hi] at h
    cases h
    exact⟨k1,org1,a1,l1,fun Q hq=>k2 _ (by simp only[z9v,if_pos (Nat.eq_of_beq_eq_true hi)];exact hq)⟩
   |false=>
    rw[hi] at h
    cases h
    exact⟨k1,org1,a1,l1,fun Q hq=>k2 _ (by simp only[z9v];rw[if_neg (fun he=>by rw[he,Nat.beq_refl] at hi;cases hi)];exact hq)⟩
  ·rename_i hn
   obtain⟨k1,org1,a1,l1,k2⟩:=z5Ia n p u kk o o' e e' b b' x h hw org ha
   refine⟨k1,org1,a1,l1,fun Q hq=>k2 _ ?_⟩
   cases x with
   |exit i=>exact(hn _ _ _ _ h).elim
   |_=>exact hq
 | .loop p,u,kk,o,o',e,e',b,b',x,h,hw=>by
  intro org ha
  unfold z1tb at h
  have key:∀(m:Nat) (o e:z1aa) (b:z9Eb) (org:z1aa),z0fd (z1tb X n p u) m o e b=some (x,o',e',b')→z6u u kk o e org→
    (∀s∈u,lk e' s=lk e s)∧∃org',z6u u kk o' e' org'∧(∀s∈u,lk org' s=lk org s)∧∃St:Nat→ASt→Prop,St m ⟨org,e,b⟩∧
     ∀k st,St k st→(∃st1 k1,k1<k∧St k1 st1∧∀Q:z5c→ASt→Prop,Q .normal st1→awp X.env p Q st)∨(x≠ .normal∧∀Q:z5c→ASt→Prop,Q x ⟨org',e',b'⟩→awp X.env p Q st):=by
   intro m
   induction m with
   |zero=>intro o e b org h _;cases h
   |succ m ih=>
    intro o e b org h ha
    unfold z0fd at h
    split at h
    ·rename_i o1 e1 b1 h1
     obtain⟨k1,org1,a1,l1,k2⟩:=z5Ia n p u kk o o1 e e1 b b1 _ h1 hw org ha
     obtain⟨k3,org2,a2,l2,St,i1,i2⟩:=ih o1 e1 b1 org1 h a1
     refine⟨fun s hs=>(k3 s hs).trans (k1 s hs),org2,a2,fun s hs=>(l2 s hs).trans (l1 s hs),fun k st=>(k=m+1∧st=⟨org,e,b⟩)∨(k≤m∧St k st),.inl ⟨rfl,rfl⟩,fun k st hk=> ?_⟩
     rcases hk with⟨rfl,rfl⟩|⟨hk,hi⟩
     ·exact .inl ⟨_,m,Nat.lt_succ_self m,.inr ⟨Nat.le_refl m,i1⟩,k2⟩
     ·rcases i2 k st hi with⟨st1,k1,h3,h4,h5⟩|h6
      ·exact .inl ⟨st1,k1,h3,.inr ⟨by omega,h4⟩,h5⟩
      ·exact .inr h6
    ·rename_i hn
     obtain⟨k1,org1,a1,l1,k2⟩:=z5Ia n p u kk o o' e e' b b' x h hw org ha
     refine⟨k1,org1,a1,l1,fun k st=>st=⟨org,e,b⟩,rfl,fun k st hk=> ?_⟩
     subst hk
     refine .inr ⟨fun hx=> ?_,k2⟩
     subst hx
     exact hn _ _ _ h
  obtain⟨k1,org1,a1,l1,St,i1,i2⟩:=key n o e b org h ha
  refine⟨k1,org1,a1,l1,fun Q hq=>⟨St,⟨n,i1⟩,fun k st hk=> ?_⟩⟩
  rcases i2 k st hk with⟨st1,k1,h3,h4,h5⟩|⟨hx,h6⟩
  ·exact h5 _ ⟨k1,h3,h4⟩
  ·refine h6 _ ?_
   cases x with
   |normal=>exact(hx rfl).elim
   |_=>exact hq
 | .scope p,u,kk,o,o',e,e',b,b',x,h,hw=>fun org ha=>by
  unfold z1tb at h
  obtain⟨k1,org1,a1,l1,k2⟩:=z5Ia n p u kk o o' e e' b b' x h hw org ha
  exact⟨k1,org1,a1,l1,fun Q hq=>k2 Q hq⟩
 | .exit id,u,kk,o,o',e,e',b,b',x,h,_=>by
  unfold z1tb at h
  cases h
  exact fun org ha=>⟨fun _ _=>rfl,org,ha,fun _ _=>rfl,fun Q hq=>hq⟩
 | .ret,u,kk,o,o',e,e',b,b',x,h,_=>by
  unfold z1tb at h
  cases h
  exact fun org ha=>⟨fun _ _=>rfl,org,ha,fun _ _=>rfl,fun Q hq=>hq⟩
 | .ghost g c,u,kk,o,o',e,e',b,b',x,h,hw=>by
  intro org ha
  by_cases hg:∃s,g= .unorg s
  ·obtain⟨s,rfl⟩:=hg
   unfold z1tb at h
   unfold wrC at hw
   cases hus:u.contains s with
   |true=>rw[hus] at h;cases h
   |false=>
    rw[hus] at h
    have hsu:s∉u:=by simpa using hus
    have hA:z6u u (kk.filter fun k=>decide (k≠s)) (o.filter fun p=>decide (p.1≠s)) ((s,gX o e s)::e) (org.filter fun p=>decide (p.1≠s)):=by
     refine⟨fun t ht=> ?_,fun t ht=> ?_,fun t ht=> ?_,fun t ht=> ?_⟩
     ·rw[z9Ba (fun k=>decide (k≠s))]
      split
      ·rename_i hts
       simp only[decide_eq_true_eq] at hts
       refine ha.nil t fun hk=>ht ?_
       simp only[List.mem_filter,decide_eq_true_eq]
       exact⟨hk,hts⟩
      ·rfl
     ·rw[z9Ba (fun k=>decide (k≠s)),z9Ba (fun k=>decide (k≠s)),ha.same t ht]
     ·obtain⟨d,hd,hdd⟩:=ha.seen t ht
      have:t≠s:=fun he=>hsu (he▸ht)
      exact⟨d,by simp only[lk,if_neg this,hd],hdd⟩
     ·simp only[List.mem_filter,decide_eq_true_eq]
      exact⟨ha.sub t ht,fun he=>hsu (he▸ht)⟩
    obtain⟨k1,org1,a1,l1,k2⟩:=z5Ia n c u _ _ o' _ e' b b' x h hw _ hA
    refine⟨fun t ht=> ?_,org1,⟨fun t ht=>a1.nil t fun hk=>ht (List.mem_filter.1 hk).1,a1.same,a1.seen,ha.sub⟩,fun t ht=> ?_,fun Q hq=>⟨trivial,?_⟩⟩
    ·have:t≠s:=fun he=>hsu (he▸ht)
     rw[k1 t ht]
     simp only[lk,if_neg this]
    ·have:t≠s:=fun he=>hsu (he▸ht)
     rw[l1 t ht,z9Ba (fun k=>decide (k≠s)),if_pos (by simpa using this)]
    ·have hr:z1b (.unorg s) ⟨org,e,b⟩=⟨org.filter fun p=>decide (p.1≠s),(s,gX o e s)::e,b⟩:=by simp only[z1b,ha.get]
     rw[hr]
     exact k2 Q hq
  ·have h:(match ghX u o g e b with|some (e1,b1)=>z1tb X n c u o e1 b1|none=>none)=some (x,o',e',b'):=by
    cases g with
    |unorg s=>exact(hg ⟨s,rfl⟩).elim
    |_=>exact h
   have hw:wrC kk c=true:=by
    cases g with
    |unorg s=>exact(hg ⟨s,rfl⟩).elim
    |_=>exact hw
   split at h
   ·rename_i e1 b1 h1
    obtain⟨k1,k2,k3⟩:=z5pd h1 ha
    obtain⟨k4,org1,a1,l1,k5⟩:=z5Ia n c u kk o o' e1 e' b1 b' x h hw org (ha.to k3)
    exact⟨fun s hs=>(k4 s hs).trans (k3 s hs),org1,a1,l1,fun Q hq=>⟨k1,by rw[k2];exact k5 Q hq⟩⟩
   ·cases h
 | .alt p q,u,kk,o,o',e,e',b,b',x,h,hw=>by
  intro org ha
  simp only[wrC,Bool.and_eq_true] at hw
  unfold z1tb at h
  split at h
  ·rename_i r h1
   cases h
   obtain⟨k1,org1,a1,l1,k2⟩:=z5Ia n p u kk o o' e e' b b' x h1 hw.1 org ha
   exact⟨k1,org1,a1,l1,fun Q hq=> .inl (k2 Q hq)⟩
  ·obtain⟨k1,org1,a1,l1,k2⟩:=z5Ia n q u kk o o' e e' b b' x h hw.2 org ha
   exact⟨k1,org1,a1,l1,fun Q hq=> .inr (k2 Q hq)⟩
 | .range f t ks ps as bd,u,kk,o,o',e,e',b,b',x,h,hw=>by
  intro org ha
  simp only[wrC,Bool.and_eq_true,List.all_eq_true,Bool.not_eq_true',List.contains_eq_mem,decide_eq_false_iff_not] at hw
  obtain⟨⟨w1,w2⟩,w3⟩:=hw
  unfold z1tb at h
  obtain⟨h0,h⟩:=z1qc h
  simp only[Bool.and_eq_true] at h0
  have hu:∀s∈u,s∈ks:=fun s hs=>by simpa using z1ra h0.1 s hs
  have hp:∀p∈ps,p∉ks:=fun p hp=>by simpa using z1ra h0.2 p hp
  split at h
  ·rename_i f' xc yc ht
   obtain⟨h1,h⟩:=z1qc h
   simp only[Bool.and_eq_true] at h1
   have hf:=Nat.eq_of_beq_eq_true h1.1
   subst hf
   split at h
   ·rename_i els hels
    split at h
    ·rename_i x1 b1 hr
     cases h
     have hre:z0u ⟨org,e,b⟩ ks=ks.map fun s=>(s,dem (gX o e s)):=by simp only[z0u,ha.get]
     have hlk:∀s,s∈ks→lk (ks.map fun s=>(s,dem (gX o e s))) s=some (dem (gX o e s)):=fun s hs=>by
      have:=z8ta (fun s=>dem (gX o e s)) s ks
      rwa[if_pos hs] at this
     have hue:∀s∈u,lk (ks.map fun s=>(s,dem (gX o e s))) s=lk e s:=fun s hs=>by
      obtain⟨d,hd,hdd⟩:=ha.seen s hs
      rw[hlk s (hu s hs),hd]
      simp only[gX,z6F,hd,hdd]
     refine⟨hue,org,ha.to hue,fun _ _=>rfl,fun Q hq=> ?_⟩
     have hlv:(X.env.I f').lv=[]:=rfl
     have hpre:(X.env.I f').pre xc yc:=by show(X.I f' xc yc).isSome=true;rw[hels];rfl
     have hel:∀i,(X.env.I f').el xc yc i=els[i]? :=fun i=>by show((X.I f' xc yc).getD [])[i]? =_;rw[hels];rfl
     simp only[awp]
     refine⟨xc,yc,by rw[ha.get];exact ht,?_,?_,fun p hpp=>⟨hp p hpp,ha.nil p (w1 p hpp)⟩,?_⟩
     ·rw[hlv,z4qc];exact h1.2
     ·rw[hlv,z7ja];exact hpre
     rw[hlv]
     simp only[z1Y,z5pa,z7ja,z5Z,hel]
     obtain⟨step,hstep⟩:∃step:List z0a→z9Eb→z0Ed,step=fun xs b=>bif xs.length==ps.length&&z7a xs then(match z1tb X n as ks o (ps.zip xs++ks.map fun s=>(s,dem (gX o e s))) b with|some (.normal,o1,e1,b1)=>z1tb X n bd ks o1 e1 b1|_=>none) else none:=⟨_,rfl⟩
     rw[←hstep] at hr
     refine⟨els.length,fun i bx=>i≤els.length∧z2Nb step (els.drop i) bx=some (x,b'),⟨Nat.zero_le _,hr⟩,fun i bx hi=>hi.1,fun i bx hi hnone=> ?_,fun i bx xs hi hsome=> ?_⟩
     ·rw[z2wb,hre]
      have hge:els.length≤i:=List.getElem?_eq_none_iff.1 hnone
      have h2:=hi.2
      rw[List.drop_eq_nil_of_le hge] at h2
      cases h2
      exact hq
     ·have hlt:i<els.length:=(List.getElem?_eq_some_iff.1 hsome).1
      have h2:=hi.2
      rw[List.drop_eq_getElem_cons hlt,show els[i]=xs from(List.getElem?_eq_some_iff.1 hsome).2] at h2
      unfold z2Nb at h2
      have hround:∀(x2:z5c) (o2 e2:z1aa) (b2:z9Eb),step xs bx=some (x2,o2,e2,b2)→((x2= .normal∧i+1≤els.length∧z2Nb step (els.drop (i+1)) b2=some (x,b'))∨(x2≠ .normal∧x2=x∧b2=b'))→
        xs.length=ps.length∧z7a xs=true∧∀V:Nat→Value,awp X.env as (z2l (awp X.env bd (z1Fc ⟨org,e,b⟩ ks V (fun bx=>i+1≤els.length∧z2Nb step (els.drop (i+1)) bx=some (x,b')) (fun e1 s=>z95 ⟨org,e,b⟩ ks [] Q e1 s.box))) (fun _ _=>False)) (z3oa ⟨org,e,b⟩ ks ps V xs bx):=by
       intro x2 o2 e2 b2 hrun hcase
       rw[hstep] at hrun
       obtain⟨hl,hrun⟩:=z1qc hrun
       simp only[Bool.and_eq_true,beq_iff_eq] at hl
       refine⟨hl.1,hl.2,fun V=> ?_⟩
       split at hrun
       ·rename_i o1 e1 b1 has
        have hzip:∀s,s∉ps→lk (ps.zip xs) s=none:=fun s hs=>z5f fun p hp he=>by
         have:=(List.of_mem_zip (a:=p.1) (b:=p.2) hp).1
         exact hs (he▸this)
        have hA:z6u ks (ks++kk) o (ps.zip xs++ks.map fun s=>(s,dem (gX o e s))) ((ks.map fun s=>(s,z0a.lit (V s)))++org):=by
         refine⟨fun s hs=> ?_,fun s hs=> ?_,fun s hs=> ?_,fun s hs=>List.mem_append_left _ hs⟩
         ·rw[List.mem_append,not_or] at hs
          rw[z4d,z8ta (fun s=>z0a.lit (V s)),if_neg hs.1,ha.nil s hs.2]
          rfl
         ·rw[z4d,z8ta (fun s=>z0a.lit (V s)),if_neg hs]
          exact ha.same s (fun h=>hs (hu s h))
         ·exact⟨dem (gX o e s),by rw[z4d,hzip s (fun h=>hp s h hs),hlk s hs];rfl,z0o _⟩
        obtain⟨k1,org1,a1,l1,k2⟩:=z5Ia n as ks (ks++kk) o o1 _ e1 bx b1 _ has w2 _ hA
        obtain⟨k3,org2,a2,l2,k4⟩:=z5Ia n bd ks (ks++kk) o1 o2 e1 e2 b1 b2 _ hrun w3 _ a1
        have hst:z3oa ⟨org,e,b⟩ ks ps V xs bx=⟨(ks.map fun s=>(s,z0a.lit (V s)))++org,ps.zip xs++ks.map fun s=>(s,dem (gX o e s)),bx⟩:=by simp only[z3oa,hre]
        rw[hst]
        refine k2 _ (k4 _ ?_)
        have hend:z6E ⟨org,e,b⟩ ks V ⟨org2,e2,b2⟩:=fun s hs=>by
         have h5:lk e2 s=some (dem (gX o e s)):=by
          rw[k3 s hs,k1 s hs,z4d,hzip s (fun h=>hp s h hs),hlk s hs];rfl
         refine⟨?_,?_⟩
         ·simp only[ASt.get,h5]
          have:=congrFun (ha.get b) s
          simp only[ASt.get] at this
          rw[this]
         ·rw[l2 s hs,l1 s hs,z4d,z8ta (fun s=>z0a.lit (V s)),if_pos hs]
          rfl
        rcases hcase with⟨hx,hj⟩|⟨hx,hx2,hb2⟩
        ·subst hx
         exact⟨hend,hj⟩
        ·subst hx2
         subst hb2
         have:z6E ⟨org,e,b⟩ ks V ⟨org2,e2,b2⟩∧z95 ⟨org,e,b⟩ ks [] Q x2 b2:=⟨hend,by rw[z2wb,hre];exact hq⟩
         cases x2 with
         |normal=>exact(hx rfl).elim
         |_=>exact this
       ·cases hrun
      split at h2
      ·rename_i o2 e2 b2 h3
       exact hround _ _ _ _ h3 (.inl ⟨rfl,hlt,h2⟩)
      ·rename_i x2 o2 e2 b2 hn h3
       cases h2
       exact hround _ _ _ _ h3 (.inr ⟨fun hx=>hn hx,rfl,rfl⟩)
      ·cases h2
    ·cases h
   ·cases h
  ·cases h
 | .bad,_,_,_,_,_,_,_,_,_,h,_=>by unfold z1tb at h;cases h
end
/-! ### functions -/
section
variable (X : XE)
def z80b (o e:z1aa) (b:z9Eb):z7M→Bool
 | .cell s k id=>z2Cc (ASt.getB ⟨o,e,b⟩) (some id) (k.getD 1) (ASt.get ⟨o,e,b⟩ s)
 |_=>true
noncomputable def outX (F:z1ka):z0Ed→Option z0a
 |some (.exit _,_)=>none
 |some (_,o,e,b)=>bif z1Ma (z80b o e b) F.res&&z0b (z8Bc ⟨o,e,b⟩ F.res) then some (z8Bc ⟨o,e,b⟩ F.res) else none
 |none=>none
def kkF (F:z1ka):List Nat:=(List.range F.n).filter fun s=> !F.wr.contains s
noncomputable def z0cc (F:z1ka) (n:Nat) (ds:List z0a):Option z0a:=bif Nat.beq ds.length F.n&&wrC (kkF F) F.body then outX F (z1tb X n F.body [] (z4H F.wr ds).org (z4H F.wr ds).env []) else none
noncomputable def z3me (F:z1ka) (n:Nat):z1f:=⟨fun ds=>(z0cc X F n ds).isSome=true,fun ds=>(z0cc X F n ds).getD .undef⟩
variable {X}
theorem z7Wb {o e:z1aa} {b:z9Eb} {r:z7M} (h:z80b o e b r=true):z6K ⟨o,e,b⟩ r:=by
 unfold z80b at h
 split at h
 ·exact z4jc h
 ·cases r<;>first|trivial|simp_all
theorem z9bb {st st':ASt} (hg:st.get=st'.get) (hb:st.getB=st'.getB) (r:z7M):z97 st r=z97 st' r∧z6K st r=z6K st' r:=by
 cases r<;>simp only[z97,z6K,hg,hb,and_self]
theorem z6Eb {st st':ASt} (hg:st.get=st'.get) (hb:st.getB=st'.getB) (rs:List z7M):z1K st rs=z1K st' rs:=by
 have h:rs.map (z97 st)=rs.map (z97 st'):=List.map_congr_left fun r _=>(z9bb hg hb r).1
 unfold z1K
 split
 ·rw[hg]
 ·exact(z9bb hg hb _).1
 ·rw[h]
theorem z4Jc {st st':ASt} (hg:st.get=st'.get) (hb:st.getB=st'.getB) (rs:List z7M):z8Bc st rs=z8Bc st' rs:=by
 have h:∀rs:List z7M,rs.map (z97 st)=rs.map (z97 st'):=fun rs=>List.map_congr_left fun r _=>(z9bb hg hb r).1
 unfold z8Bc
 split
 ·rw[hg,h]
 ·exact z6Eb hg hb _
theorem z45c (F:z1ka) (n:Nat):∀ds,(z3me X F n).pre ds→ds.length=F.n∧awp X.env F.body (z6va F.res ((z3me X F n).post ds)) (z4H F.wr ds):=fun ds h=>by
 simp only[z3me] at h⊢
 cases hf:z0cc X F n ds with
 |none=>rw[hf] at h;cases h
 |some v=>
  unfold z0cc at hf
  obtain⟨h0,hf⟩:=z1qc hf
  simp only[Bool.and_eq_true] at h0
  have hl:=Nat.eq_of_beq_eq_true h0.1
  refine⟨hl,?_⟩
  cases hr:z1tb X n F.body [] (z4H F.wr ds).org (z4H F.wr ds).env [] with
  |none=>rw[hr] at hf;cases hf
  |some r=>
   obtain⟨x,o,e,b⟩:=r
   rw[hr] at hf
   have hA:z6u [] (kkF F) (z4H F.wr ds).org (z4H F.wr ds).env (z4H F.wr ds).org:=⟨fun s hs=>by
    rw[z9fc]
    by_cases hw:s∈F.wr
    ·rw[if_pos hw]
    ·rw[if_neg hw,List.getElem?_eq_none_iff,hl]
     simp only[kkF,List.mem_filter,List.mem_range,Bool.not_eq_true',List.contains_eq_mem,decide_eq_false_iff_not,not_and,Decidable.not_not] at hs
     exact Nat.le_of_not_lt fun hlt=>hw (hs hlt),fun _ _=>rfl,fun s hs=>(by cases hs),fun s hs=>(by cases hs)⟩
   obtain⟨_,org1,a1,_,k2⟩:=z5Ia n F.body [] (kkF F) _ o _ e [] b x hr h0.2 _ hA
   refine k2 _ ?_
   have hg:ASt.get ⟨org1,e,b⟩=ASt.get ⟨o,e,b⟩:=(a1.get b).trans (funext fun s=>by simp only[ASt.get,gX,z6F];rfl)
   have fin:(bif z1Ma (z80b o e b) F.res&&z0b (z8Bc ⟨o,e,b⟩ F.res) then some (z8Bc ⟨o,e,b⟩ F.res) else none)=some v→(∀r∈F.res,z6K ⟨org1,e,b⟩ r)∧z8Bc ⟨org1,e,b⟩ F.res=v∧z0b v=true:=fun h=>by
    obtain⟨h1,h2⟩:=z3gb h
    simp only[Bool.and_eq_true] at h1
    exact⟨fun r hr=>by rw[(z9bb hg rfl r).2];exact z7Wb (z1ra h1.1 r hr),by rw[z4Jc hg rfl];exact h2,by rw[←h2];exact h1.2⟩
   cases x with
   |exit _=>cases hf
   |normal=>exact fin hf
   |ret=>exact fin hf
/-! .. that write through boxes -/
variable (X)
noncomputable def z9Zd (F:z1ka) (bx:List Nat):z0Ed→Option (z0a×(Nat→List z0a))
 |some (.exit _,_)=>none
 |some (_,o,e,b)=>bif z1Ma (z80b o e b) F.res&&z1Ma (fun j=>(gbX b j).isSome&&z1Ma bx.contains (z6b ((gbX b j).getD []))) bx&&z1Ma bx.contains (z3d (z1K ⟨o,e,b⟩ F.res)) then some (z1K ⟨o,e,b⟩ F.res,fun j=>(gbX b j).getD []) else none
 |none=>none
noncomputable def z3Bb (F:z1ka) (n:Nat) (bx nb:List Nat):XM:=⟨bx,nb,fun ds=>bif Nat.beq ds.length F.n&&z1Ma (fun j=>decide (j<F.n)) bx&&wrC bx F.body then z9Zd F (bx++nb) (z1tb X n F.body bx [] (z2ga bx 0 ds) (bx.map fun j=>(j,some (z4s (ds.getD j .undef))))) else none⟩
noncomputable def z9Pb (F:z1ka) (n:Nat) (bx nb:List Nat):CM:=⟨bx,nb,fun ds=>((z3Bb X F n bx nb).run ds).isSome=true,fun ds=>(((z3Bb X F n bx nb).run ds).getD (.undef,fun _=>[])).1,fun ds=>(((z3Bb X F n bx nb).run ds).getD (.undef,fun _=>[])).2⟩
variable {X}
theorem z77c (F:z1ka) (n:Nat) (bx nb:List Nat):∀ds p,(z9Pb X F n bx nb).pre ds→ds.length=F.n∧awp X.env F.body (z8Bd F.res (z9Pb X F n bx nb) p ds) (z7la (z9Pb X F n bx nb).bx p ds):=fun ds p h=>by
 have h:=h
 simp only[z9Pb] at h
 cases hf:(z3Bb X F n bx nb).run ds with
 |none=>rw[hf] at h;cases h
 |some v=>
  have hpost:(z9Pb X F n bx nb).post ds=v.1:=by simp only[z9Pb,hf];rfl
  have hout:(z9Pb X F n bx nb).out ds=v.2:=by simp only[z9Pb,hf];rfl
  simp only[z3Bb] at hf
  obtain⟨h0,hf⟩:=z1qc hf
  simp only[Bool.and_eq_true] at h0
  have hl:=Nat.eq_of_beq_eq_true h0.1.1
  have hlt:∀j∈bx,j<F.n:=fun j hj=>of_decide_eq_true (z1ra h0.1.2 j hj)
  refine⟨hl,?_⟩
  cases hr:z1tb X n F.body bx [] (z2ga bx 0 ds) (bx.map fun j=>(j,some (z4s (ds.getD j .undef)))) with
  |none=>rw[hr] at hf;cases hf
  |some r=>
   obtain⟨x,o,e,b⟩:=r
   rw[hr] at hf
   have henv:∀j∈bx,lk (z2ga bx 0 ds) j=some (.bp j 0):=fun j hj=>by
    rw[z5sc,if_pos (Nat.zero_le j),Nat.sub_zero,List.getElem?_eq_getElem (by rw[hl];exact hlt j hj)]
    simp[hj]
   have hA:z6u bx bx [] (z2ga bx 0 ds) (bx.map fun j=>(j,z0a.lit (p j))):=⟨fun s hs=>by rw[z8ta (fun j=>z0a.lit (p j)),if_neg hs],fun s hs=>by rw[z8ta (fun j=>z0a.lit (p j)),if_neg hs];rfl,fun s hs=>⟨_,henv s hs,rfl⟩,fun s hs=>hs⟩
   obtain⟨k1,org1,a1,l1,k2⟩:=z5Ia n F.body bx bx [] o _ e _ b x hr h0.2 _ hA
   refine k2 _ ?_
   have hg:ASt.get ⟨org1,e,b⟩=ASt.get ⟨o,e,b⟩:=(a1.get b).trans (funext fun s=>by simp only[ASt.get,gX,z6F];rfl)
   have hb:ASt.getB ⟨org1,e,b⟩=ASt.getB ⟨o,e,b⟩:=rfl
   have fin:(bif z1Ma (z80b o e b) F.res&&z1Ma (fun j=>(gbX b j).isSome&&z1Ma (bx++nb).contains (z6b ((gbX b j).getD []))) (bx++nb)&&z1Ma (bx++nb).contains (z3d (z1K ⟨o,e,b⟩ F.res)) then some (z1K ⟨o,e,b⟩ F.res,fun j=>(gbX b j).getD []) else none)=some v→
     (∀r∈F.res,z6K ⟨org1,e,b⟩ r)∧z1K ⟨org1,e,b⟩ F.res=(z9Pb X F n bx nb).post ds∧(∀j∈bx,lk org1 j=some (.lit (p j))∧ASt.get ⟨org1,e,b⟩ j= .bp j 0)∧
     (∀j∈bx++nb,ASt.getB ⟨org1,e,b⟩ j=some ((z9Pb X F n bx nb).out ds j))∧(∀id∈z3d ((z9Pb X F n bx nb).post ds),id∈bx++nb)∧(∀j∈bx++nb,∀id∈z6b ((z9Pb X F n bx nb).out ds j),id∈bx++nb):=fun h=>by
    obtain⟨h1,h2⟩:=z3gb h
    simp only[Bool.and_eq_true] at h1
    obtain⟨⟨a1,a2⟩,a3⟩:=h1
    rw[hpost,hout,←h2]
    refine⟨fun r hr=> ?_,z6Eb hg hb _,fun j hj=>⟨by rw[l1 j hj,z8ta (fun j=>z0a.lit (p j)),if_pos hj],by rw[hg];simp only[ASt.get,k1 j hj,henv j hj]⟩,fun j hj=> ?_,fun id hid=>List.contains_iff_mem.1 (z1ra a3 id hid),fun j hj id hid=> ?_⟩
    ·rw[(z9bb hg hb r).2];exact z7Wb (z1ra a1 r hr)
    ·have:=z1ra a2 j hj
     simp only[Bool.and_eq_true,Option.isSome_iff_exists] at this
     obtain⟨⟨cs,hcs⟩,_⟩:=this
     rw[z97b]
     simp only[hcs,Option.getD_some]
    ·have:=z1ra a2 j hj
     simp only[Bool.and_eq_true] at this
     exact List.contains_iff_mem.1 (z1ra this.2 id hid)
   cases x with
   |exit _=>cases hf
   |normal=>exact fin hf
   |ret=>exact fin hf
/-! .. that are handed values which name boxes -/
variable (X)
noncomputable def z9hc (F:z1ka) (n:Nat) (hold bx:List Nat):XW:=⟨hold,bx,fun ds bs=>bif Nat.beq ds.length F.n&&z1Ma (fun j=>decide (j<F.n)) hold&&wrC hold F.body then z9Zd F bx (z1tb X n F.body hold [] (z76c 0 ds) (bx.map fun j=>(j,some (bs j)))) else none⟩
noncomputable def z4Nb (F:z1ka) (n:Nat) (hold bx:List Nat):CW:=⟨hold,bx,[],fun ds bs=>((z9hc X F n hold bx).run ds bs).isSome=true,fun ds bs=>(((z9hc X F n hold bx).run ds bs).getD (.undef,fun _=>[])).1,fun ds bs=>(((z9hc X F n hold bx).run ds bs).getD (.undef,fun _=>[])).2⟩
variable {X}
theorem z7ed (F:z1ka) (n:Nat) (hold bx:List Nat):∀ds bs p,(z4Nb X F n hold bx).pre ds bs→ds.length=F.n∧awp X.env F.body (z5ce F.res (z4Nb X F n hold bx) p ds bs) (z9xc (z4Nb X F n hold bx) p ds bs):=fun ds bs p h=>by
 have h:=h
 simp only[z4Nb] at h
 cases hf:(z9hc X F n hold bx).run ds bs with
 |none=>rw[hf] at h;cases h
 |some v=>
  have hpost:(z4Nb X F n hold bx).post ds bs=v.1:=by simp only[z4Nb,hf];rfl
  have hout:(z4Nb X F n hold bx).out ds bs=v.2:=by simp only[z4Nb,hf];rfl
  simp only[z9hc] at hf
  obtain⟨h0,hf⟩:=z1qc hf
  simp only[Bool.and_eq_true] at h0
  have hl:=Nat.eq_of_beq_eq_true h0.1.1
  have hlt:∀j∈hold,j<F.n:=fun j hj=>of_decide_eq_true (z1ra h0.1.2 j hj)
  refine⟨hl,?_⟩
  cases hr:z1tb X n F.body hold [] (z76c 0 ds) (bx.map fun j=>(j,some (bs j))) with
  |none=>rw[hr] at hf;cases hf
  |some r=>
   obtain⟨x,o,e,b⟩:=r
   rw[hr] at hf
   have henv:∀j∈hold,lk (z76c 0 ds) j=some (dem (ds.getD j .undef)):=fun j hj=>by
    have hj':j<ds.length:=by rw[hl];exact hlt j hj
    rw[z8sc,if_pos (Nat.zero_le j),Nat.sub_zero,List.getD_eq_getElem?_getD,List.getElem?_eq_getElem hj']
    rfl
   have hA:z6u hold hold [] (z76c 0 ds) (hold.map fun j=>(j,z0a.lit (p j))):=⟨fun s hs=>by rw[z8ta (fun j=>z0a.lit (p j)),if_neg hs],fun s hs=>by rw[z8ta (fun j=>z0a.lit (p j)),if_neg hs];rfl,fun s hs=>⟨_,henv s hs,z0o _⟩,fun s hs=>hs⟩
   obtain⟨k1,org1,a1,l1,k2⟩:=z5Ia n F.body hold hold [] o _ e _ b x hr h0.2 _ hA
   refine k2 _ ?_
   have hg:ASt.get ⟨org1,e,b⟩=ASt.get ⟨o,e,b⟩:=(a1.get b).trans (funext fun s=>by simp only[ASt.get,gX,z6F];rfl)
   have hb:ASt.getB ⟨org1,e,b⟩=ASt.getB ⟨o,e,b⟩:=rfl
   have fin:(bif z1Ma (z80b o e b) F.res&&z1Ma (fun j=>(gbX b j).isSome&&z1Ma bx.contains (z6b ((gbX b j).getD []))) bx&&z1Ma bx.contains (z3d (z1K ⟨o,e,b⟩ F.res)) then some (z1K ⟨o,e,b⟩ F.res,fun j=>(gbX b j).getD []) else none)=some v→
     (∀r∈F.res,z6K ⟨org1,e,b⟩ r)∧z1K ⟨org1,e,b⟩ F.res=(z4Nb X F n hold bx).post ds bs∧
     (∀j∈hold,(lk org1 j=some (.lit (p j))∧ASt.get ⟨org1,e,b⟩ j=dem (ds.getD j .undef))∨held ⟨org1,e,b⟩ (p j) (ds.getD j .undef))∧
     (∀j∈bx++[],ASt.getB ⟨org1,e,b⟩ j=some ((z4Nb X F n hold bx).out ds bs j))∧(∀id∈z3d ((z4Nb X F n hold bx).post ds bs),id∈bx++[])∧(∀j∈bx++[],∀id∈z6b ((z4Nb X F n hold bx).out ds bs j),id∈bx++[]):=fun h=>by
    obtain⟨h1,h2⟩:=z3gb h
    simp only[Bool.and_eq_true] at h1
    obtain⟨⟨a1,a2⟩,a3⟩:=h1
    rw[List.append_nil,hpost,hout,←h2]
    refine⟨fun r hr=> ?_,z6Eb hg hb _,fun j hj=> .inl ⟨by rw[l1 j hj,z8ta (fun j=>z0a.lit (p j)),if_pos hj],by rw[hg];simp only[ASt.get,k1 j hj,henv j hj]⟩,fun j hj=> ?_,fun id hid=>by simpa using z1ra a3 id hid,fun j hj id hid=> ?_⟩
    ·rw[(z9bb hg hb r).2];exact z7Wb (z1ra a1 r hr)
    ·have:=z1ra a2 j hj
     simp only[Bool.and_eq_true,Option.isSome_iff_exists] at this
     obtain⟨⟨cs,hcs⟩,_⟩:=this
     rw[z97b]
     simp only[hcs,Option.getD_some]
    ·have:=z1ra a2 j hj
     simp only[Bool.and_eq_true] at this
     simpa using z1ra this.2 id hid
   cases x with
   |exit _=>cases hf
   |normal=>exact fin hf
   |ret=>exact fin hf
end
end Go.Abs
end

section
namespace Go.Abs
def z4ce (tag:Int) (l:List (List UInt8)):List UInt8:=(z7ce (z4ga tag l)).take 16
noncomputable def xOf (ds:List z0a):Option z0a:=match ds with
 |[.lit (.int .i64 t),.sl .plain _ n cs]=>bif Nat.beq n cs.length&&z1Ma z3Mc cs&&Nat.ble (z9rb (cs.map gS)) 1000000000 then some (.agg (bys (z4ce t (cs.map gS)))) else none
 |_=>none
def z8Uc:z0a→Bool| .lit (.int .u8 n)=>decide (0≤n)&&decide (n≤255)|_=>false
noncomputable def xSh (ds:List z0a):Option z0a:=match ds with
 |[.sl .plain _ n cs]=>bif Nat.beq n cs.length&&z1Ma z8Uc cs&&Nat.ble n 1000000000 then some (.agg (bys ((z7ce (gBs cs)).take 16))) else none
 |_=>none
def xGr (e:Nat) (ds:List z0a):Option z0a:=match ds with
 |[.sl .plain (some true) 0 [],.lit (.int .i64 n)]=>bif decide (0≤n)&&decide (n≤1000000) then some (.sl (.own e) none 0 []) else none
 |_=>none
noncomputable def z1Dd (ds:List z0a):Option z0a:=match ds with
 |[.sl .plain _ n cs]=>bif Nat.beq cs.length (n*16)&&z1Ma z8Uc cs&&Nat.ble n 1000000 then some (.sl (.own 16) none n cs) else none
 |_=>none
noncomputable def z5Dd (ds:List z0a):Option z0a:=match ds with
 |[.sl .plain _ n cs]=>bif Nat.beq cs.length (n*30)&&z1Ma z0db cs&&z8b cs&&Nat.ble n 1000000 then some (.sl (.own 30) none n cs) else none
 |_=>none
noncomputable def xBw (x y:List z0a):Option (List (List z0a)):=match x,y with
 |[],[.ep [.sl .plain _ n cs]]=>bif Nat.beq cs.length (n*16)&&z1Ma z8Uc cs&&Nat.ble n 1000000 then some ((List.range n).map fun i:Nat=>[i64 ((n:Int)-1-i),.agg ((cs.drop ((n-1-i)*16)).take 16)]) else none
 |_,_=>none
noncomputable def z04c:z0a→Bool| .agg l=>z1Ma z8Uc l|_=>false
def z90c (d:z0a):Bool:= !z5b d
noncomputable def z6ke (f:Nat→Option (List z0a)) (n:Nat):Option (List (List z0a)):=Nat.rec (some []) (fun k ih=>match ih,f k with|some l,some d=>some (l++[d])|_,_=>none) n
noncomputable def xDg (g:List z0a→Option z0a) (x y:List z0a):Option (List (List z0a)):=match x,y with
 |[],[.ep [.sl .plain _ n cs]]=>bif Nat.beq cs.length (n*30)&&z1Ma z0db cs&&z8b cs&&z1Ma z90c cs&&Nat.ble n 1000000 then z6ke (fun i:Nat=>(g [.agg ((cs.drop (i*30)).take 30)]).bind fun d=>bif z04c d then some [d] else none) n else none
 |_,_=>none
/-! ### equal values -/
def z9ce:List UInt8→List UInt8→Bool
 |[],[]=>true
 |a::as,b::bs=>Nat.beq a.toNat b.toNat&&z9ce as bs
 |_,_=>false
theorem z6Bc:∀{a b:List UInt8},z9ce a b=true→a=b
 |[],[],_=>rfl
 |[],_::_,h=>by cases h
 |_::_,[],h=>by cases h
 |a::as,b::bs,h=>by
  simp only[z9ce,Bool.and_eq_true] at h
  rw[UInt8.toNat.inj (Nat.eq_of_beq_eq_true h.1),z6Bc h.2]
def eqMd:z5r→z5r→Bool
 | .plain,.plain=>true
 | .clip,.clip=>true
 | .own a,.own b=>Nat.beq a b
 |_,_=>false
theorem z8sd {a b:z5r} (h:eqMd a b=true):a=b:=by
 cases a<;>cases b<;>first|rfl|cases h|(rw[Nat.eq_of_beq_eq_true h])
mutual
def eqA:z0a→z0a→Bool
 | .lit (.int k a),.lit (.int k' b)=>decide (k=k')&&decide (a=b)
 | .lit (.bool a),.lit (.bool b)=>a==b
 | .lit (.string a),.lit (.string b)=>z9ce a.data.toList b.data.toList
 | .lit (.slice none 0 0),.lit (.slice none 0 0)=>true
 | .agg a,.agg b=>z3ld a b
 | .tup a,.tup b=>z3ld a b
 | .sl m nl n a,.sl m' nl' n' b=>eqMd m m'&&(nl==nl')&&Nat.beq n n'&&z3ld a b
 |_,_=>false
def z3ld:List z0a→List z0a→Bool
 |[],[]=>true
 |a::as,b::bs=>eqA a b&&z3ld as bs
 |_,_=>false
end
mutual
theorem z7nd:∀{a b:z0a},eqA a b=true→a=b:=fun {a b} h=>by
 unfold eqA at h
 split at h
 ·simp only[Bool.and_eq_true,decide_eq_true_eq] at h;rw[h.1,h.2]
 ·rw[beq_iff_eq.1 h]
 ·rw[z4bc _ _ (z6Bc h)]
 ·rfl
 ·rw[z6Wb h]
 ·rw[z6Wb h]
 ·simp only[Bool.and_eq_true,beq_iff_eq] at h
  rw[z8sd h.1.1.1,h.1.1.2,Nat.eq_of_beq_eq_true h.1.2,z6Wb h.2]
 ·cases h
theorem z6Wb:∀{a b:List z0a},z3ld a b=true→a=b:=fun {a b} h=>by
 unfold z3ld at h
 split at h
 ·rfl
 ·simp only[Bool.and_eq_true] at h
  rw[z7nd h.1,z6Wb h.2]
 ·cases h
end
def z1Nc (n:Int):z0a:= .lit (.int .i64 n)
def nu8 (n:Int):z0a:= .lit (.int .u8 n)
def sX (l:List UInt8):z0a:= .lit (.string ⟨⟨l⟩⟩)
def xE (a b:Int) (s t:z0a):List z0a:=[z1Nc a,z1Nc 0,z1Nc 0,z1Nc b,z1Nc 0,z1Nc 0,z1Nc 0,z1Nc 0,z1Nc 0,z1Nc 0,sX [],.sl .plain none 0 [],nu8 0,nu8 0,nu8 0,nu8 0,nu8 0,nu8 0,nu8 0,nu8 0,nu8 0,nu8 0,nu8 0,nu8 0,nu8 0,nu8 0,nu8 0,nu8 0,s,t]
noncomputable def z5od (t:List (List z0a×z0a)) (ds:List z0a):Option z0a:=List.rec none (fun p _ ih=>bif z3ld ds p.1 then some p.2 else ih) t
theorem z64c {x:List z0a→Option z0a}:∀{t:List (List z0a×z0a)} {ds:List z0a} {v:z0a},(∀p∈t,x p.1=some p.2)→z5od t ds=some v→x ds=some v
 |[],_,_,_,h=>by cases h
 |p::t,ds,v,ht,h=>by
  change(bif z3ld ds p.1 then some p.2 else z5od t ds)=some v at h
  cases he:z3ld ds p.1 with
  |true=>
   rw[he] at h
   rw[z6Wb he,ht p (by simp)]
   exact h
  |false=>
   rw[he] at h
   exact z64c (fun q hq=>ht q (by simp[hq])) h
noncomputable def z7Tb (y:List z0a→Option z0a) (t:List (List z0a×z0a)) (i:Nat):Bool:=match t[i]? with
 |some p=>(match y p.1 with|some v=>eqA v p.2|none=>false)
 |none=>false
theorem z41b {y:List z0a→Option z0a} {t:List (List z0a×z0a)} (h:∀i,i<t.length→z7Tb y t i=true):∀p∈t,y p.1=some p.2:=fun p hp=>by
 obtain⟨i,hi,rfl⟩:=List.mem_iff_getElem.1 hp
 have h1:=h i hi
 unfold z7Tb at h1
 rw[List.getElem?_eq_getElem hi] at h1
 simp only at h1
 split at h1
 ·rename_i v e
  rw[e,z7nd h1]
 ·cases h1
noncomputable def lkG (l:List (Nat×(List z0a→Option z0a))) (n:Nat):List z0a→Option z0a:=List.rec (fun _=>none) (fun p _ ih=>bif Nat.beq p.1 n then p.2 else ih) l
noncomputable def xGT (T:Nat→List z0a) (l:List (Nat×(List z0a→Option z0a))):XE:={G:=lkG l,T:=T}
end Go.Abs
end
