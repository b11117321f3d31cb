/- Lemmas: an abstract interpreter, and what the functions compute. -/
import Derived.Test.YtepddcbbkhdfiaaGreatDoorI
import Derived.Test.YtepddcbbkhdfiaaGreatDoorG
import Derived.Test.YtepddcbbkhdfiaaGreatDoorF
import Derived.Test.YtepddcbbkhdfiaaGreatDoorV
import Derived.Test.YtepddcbbkhdfiaaGreatDoorH
set_option linter.unusedSimpArgs false
set_option linter.unusedVariables false
set_option linter.unusedSectionVars false
section
namespace Go.Abs
set_option maxRecDepth 100000
def z8ca:z3a:=
 Yq (.block 1 (YR [1,3,41,42,43] [.norm [1,3]] [Yi 45 30 41 43,YJ 46 30 45,Yo 3 (.alloc 3 (List.replicate 10 (i64 0)++[st []]++[.sl .plain none 0 []]++bys (z9c 16)++[.sl (.own 24) none 0 []]++[.sl (.own 1) none 0 []])),Ys 30 3 3 46] (YR [1,4,5,41,42,43] [.norm [1,3,4]] [YL 48 3 1 1,YL 49 30 3 3,YK 50 357 48 49,Ym 47 50,Ye 51 0 47,Ye 52 1 47,Yo 4 (.alloc 4 [i64 0,.sl .plain none 0 [],.sl .plain none 0 []]),Ys 3 4 4 51,Ym 5 52] (Yq (Yr [1,4,41,42,43,54] [Ym 53 5,YB 54 .neq 53 0] (Yd 54 (Yr [0] [Yw 0 false] .ret) (Yy [1,4,41,42,43]))) (.region [1,41,42,43] [.norm [1,3,4]] [YL 55 3 4 4,Ys 3 1 1 55]))))) (.region [1,41,42,43] [.drop [3,4]] [YB 56 .add 43 1,Ym 43 56])
def z5ba:z3a:=
 Yr [1,41,42,43,44] [Yb 44 .lss 43 42] (Yq (Yd 44 (Yy [1,41,42,43]) (YY [1])) z8ca)
def z6ea:z3a:=
 YR [1,7,9,10,11,13,16,29,30,31] [.norm [1,3,4,6,8,10,11,13,15,17,19,21,25,27,30]] [YL 204 3 13 13,YL 205 3 11 11,YK 206 365 204 205,Ym 203 206,Ye 207 0 203,Ye 208 1 203,Yo 30 (.alloc 30 [i64 0,.sl .plain none 0 [],.sl .plain none 0 []]),Ys 3 30 30 207,Ym 31 208] (YR [1,7,9,10,11,16,29,30,31,33] [.norm [1,3,4,6,8,10,11,13,15,17,19,21,25,27,30,32]] [YL 210 3 11 11,YL 211 3 13 13,YK 212 365 210 211,Ym 209 212,Ye 213 0 209,Ye 214 1 209,Yo 32 (.alloc 32 [i64 0,.sl .plain none 0 [],.sl .plain none 0 []]),Ys 3 32 32 213,Ym 33 214] (YR [1,7,9,10,11,16,29,30,31,33,34] [.norm [1,3,4,6,8,10,11,13,15,17,19,21,25,27,30,32,34]] [YL 215 3 11 11,Yo 34 (.alloc 34 [i64 0,.sl .plain none 0 [],.sl .plain none 0 []]),Ys 3 34 34 215] (YR [1,7,9,10,11,16,29,30,31,33,34] [.norm [1,3,4,6,8,10,11,13,15,17,19,21,25,27,30,32,34]] [Yf 216 1 11,Yl 217 11 216,Yo 218 (.idxSl 30 (.s 217) (.c (i64 1))),YJ 219 30 218,Yf 220 1 11,Yl 221 11 220,Yo 222 (.idxSl 30 (.s 221) (.c (i64 0))),YJ 223 30 222,Yo 224 (.buildSl 30 2 [i64 0,i64 0,i64 0,i64 0,i64 0,i64 0,i64 0,i64 0,i64 0,i64 0,st [],.sl .plain none 0 [],u8 0,u8 0,u8 0,u8 0,u8 0,u8 0,u8 0,u8 0,u8 0,u8 0,u8 0,u8 0,u8 0,u8 0,u8 0,u8 0,.sl .plain none 0 [],.sl .plain none 0 [],i64 0,i64 0,i64 0,i64 0,i64 0,i64 0,i64 0,i64 0,i64 0,i64 0,st [],.sl .plain none 0 [],u8 0,u8 0,u8 0,u8 0,u8 0,u8 0,u8 0,u8 0,u8 0,u8 0,u8 0,u8 0,u8 0,u8 0,u8 0,u8 0,.sl .plain none 0 [],.sl .plain none 0 []] [(0,30,.s 219),(30,30,.s 223)]),Yf 225 1 34,YS 34 225 224] (YR [1,7,9,10,11,16,29,30,31,33,34,35,36] [.norm [1,3,4,6,8,10,11,13,15,17,19,21,25,27,30,32,34]] [YL 227 3 1 1,Yo 228 (.call 353 [.s 227,.c (i64 2)] []),Ym 226 228,Ye 229 0 226,Ye 230 1 226,YM 35 229,Ym 36 230] (YR [1,7,9,10,11,16,29,30,31,33,34,35,36,37,38] [.norm [1,3,4,6,8,10,11,13,15,17,19,21,25,27,30,32,34,37]] [YL 232 3 11 11,Yk 233 369 232,Yk 234 368 233,Ym 231 234,Ye 235 0 231,Ye 236 1 231,Yo 37 (.alloc 37 [i64 0,.sl .plain none 0 [],.sl .plain none 0 []]),Ys 3 37 37 235,Ym 38 236] (YR [1,7,9,10,11,16,29,30,31,33,34,35,36,37,38,40] [.norm [1,3,4,6,8,10,11,13,15,17,19,21,25,27,30,32,34,37,39]] [Yo 238 (.call 368 [.c (st [])] []),Ym 237 238,Ye 239 0 237,Ye 240 1 237,Yo 39 (.alloc 39 [i64 0,.sl .plain none 0 [],.sl .plain none 0 []]),Ys 3 39 39 239,Ym 40 240] (YR [0] [.norm [1,3,4,6,8,10,11,13,15,17,19,21,25,27,30,32,34,37,39]] [Ym 241 29,Ym 242 241,YG 242 (Ym 243 7),YG 242 (YB 244 .eql 243 20),Yp 245 242 244,Ym 246 245,YG 246 (Ym 247 9),YG 246 (YB 248 .eql 247 1),Yp 249 246 248,Ym 250 249,YG 250 (YL 251 3 1 1),YG 250 (Yk 252 349 251),YG 250 (YB 253 .eql 252 3),Yp 254 250 253,Ym 255 254,YG 255 (YL 256 3 1 1),YG 255 (Yk 257 386 256),YG 255 (YL 258 16 10 10),YG 255 (Yo 259 (.eqF (ks8 16) false (.s 257) (.s 258))),Yp 260 255 259,Ym 261 260,YG 261 (Ym 262 16),YG 261 (YB 263 .eql 262 11),Yp 264 261 263,Ym 265 264,YG 265 (YL 266 16 10 10),YG 265 (YL 267 3 11 11),YG 265 (Yo 268 (.call 363 [.s 266,.c (i64 3),.s 267] [])),YG 265 (YB 269 .eql 268 0),Yp 270 265 269,Ym 271 270,YG 271 (YL 272 16 10 10),YG 271 (YL 273 3 11 11),YG 271 (Yo 274 (.call 363 [.s 272,.c (i64 4),.s 273] [])),YG 271 (YB 275 .eql 274 8),Yp 276 271 275,Ym 277 276,YG 277 (YL 278 16 10 10),YG 277 (YL 279 3 11 11),YG 277 (Yo 280 (.call 363 [.s 278,.c (i64 2),.s 279] [])),YG 277 (YB 281 .eql 280 1),Yp 282 277 281,Ym 283 282,YG 283 (YL 284 16 10 10),YG 283 (YL 285 3 34 34),YG 283 (Yo 286 (.call 363 [.s 284,.c (i64 3),.s 285] [])),YG 283 (YB 287 .eql 286 8),Yp 288 283 287,Ym 289 288,YG 289 (Ym 290 31),YG 289 (YB 291 .eql 290 0),Yp 292 289 291,Ym 293 292,YG 293 (Yf 294 1 30),YG 293 (Yl 295 30 294),YG 293 (Yn 296 295),YG 293 (YB 297 .eql 296 3),Yp 298 293 297,Ym 299 298,YG 299 (Ym 300 33),YG 299 (YB 301 .eql 300 1),Yp 302 299 301,Ym 303 302,YG 303 (YL 304 16 10 10),YG 303 (YL 305 3 30 30),YG 303 (Yo 306 (.call 363 [.s 304,.c (i64 3),.s 305] [])),YG 303 (YB 307 .eql 306 0),Yp 308 303 307,Ym 309 308,YG 309 (Ym 310 35),YG 309 (Yn 311 310),YG 309 (YB 312 .eql 311 1),Yp 313 309 312,Ym 314 313,YG 314 (Ym 315 36),
 YG 314 (YB 316 .eql 315 0),Yp 317 314 316,Ym 318 317,YG 318 (YL 319 3 11 11),YG 318 (YL 320 3 37 37),YG 318 (YK 321 377 319 320),Yp 322 318 321,Ym 323 322,YG 323 (Ym 324 38),YG 323 (YB 325 .eql 324 0),Yp 326 323 325,Ym 327 326,YG 327 (Ym 328 40),YG 327 (YB 329 .eql 328 5),Yp 330 327 329,Ym 0 330] .ret)))))))
def z2ba:z3a:=
 YR [1,7,9,10,11,12,13,14,16,29] [.norm [1,3,4,6,8,10,11,13,15,17,19,21,25,27]] [Ym 138 22,YB 139 .eql 138 11,Ym 140 139,YG 140 (Ym 141 24),YG 140 (YB 142 .eql 141 11),Yp 143 140 142,Ym 144 143,YG 144 (Ym 145 28),YG 144 (YB 146 .eql 145 11),Yp 147 144 146,Ym 148 147,YG 148 (Yf 149 0 17),YG 148 (Yf 150 0 149),YG 148 (Yl 151 17 150),YG 148 (YB 152 .eql 151 2),Yp 153 148 152,Ym 154 153,YG 154 (Yf 155 0 17),YG 154 (YL 156 2 17 155),YG 154 (YL 157 2 25 25),YG 154 (YK 158 209 156 157),Yp 159 154 158,Ym 160 159,YG 160 (YL 161 3 17 17),YG 160 (Yk 162 355 161),YG 160 (YL 163 16 10 10),YG 160 (Yo 164 (.eqF (ks8 16) false (.s 162) (.s 163))),Yp 165 160 164,Ym 166 165,YG 166 (YL 167 3 17 17),YG 166 (Yk 168 349 167),YG 166 (YB 169 .eql 168 3),Yp 170 166 169,Ym 171 170,YG 171 (YL 172 16 10 10),YG 171 (YL 173 3 19 19),YG 171 (Yo 174 (.call 363 [.s 172,.c (i64 3),.s 173] [])),YG 171 (YB 175 .eql 174 0),Yp 176 171 175,Ym 29 176] (Yq (YR [1,7,9,10,11,13,16,29,202] [.norm [1,3,4,6,8,10,11,13,15,17,19,21,25,27]] [Ym 177 12,YB 178 .neq 177 0,Ym 179 178,Yg 179 (Ym 180 14),Yg 179 (YB 181 .neq 180 0),YP 182 179 181,Ym 183 182,Yg 183 (Yf 184 1 11),Yg 183 (Yl 185 11 184),Yg 183 (Yn 186 185),Yg 183 (YB 187 .neq 186 2),YP 188 183 187,Ym 189 188,Yg 189 (Yf 190 2 11),Yg 189 (Yl 191 11 190),Yg 189 (Yn 192 191),Yg 189 (YB 193 .neq 192 2),YP 194 189 193,Ym 195 194,Yg 195 (Yf 196 2 11),Yg 195 (Yl 197 11 196),Yg 195 (Yo 198 (.idxSl 1 (.s 197) (.c (i64 0)))),Yg 195 (Yj 199 198),Yg 195 (Yn 200 199),Yg 195 (YB 201 .neq 200 1),YP 202 195 201] (Yd 202 (Yr [0] [Yw 0 false] .ret) (Yy [1,7,9,10,11,13,16,29]))) z6ea)
def z0aa:z3a:=
 YR [1,7] [.norm [1,3,4,6]] [YL 58 3 1 1,Yo 59 (.build (List.replicate 10 (i64 0)++[st []]++[.sl .plain none 0 []]++bys (z9c 16)++[.sl .plain none 0 []]++[.sl .plain none 0 []]) [(0,1,.c (i64 3)),(3,1,.c (i64 1))]),YK 60 357 58 59,Ym 57 60,Ye 61 0 57,Ye 62 1 57,Yo 6 (.alloc 6 [i64 0,.sl .plain none 0 [],.sl .plain none 0 []]),Ys 3 6 6 61,Ym 7 62] (YR [1,7,9] [.norm [1,3,4,6,8]] [YL 64 3 1 1,Yo 65 (.build (List.replicate 10 (i64 0)++[st []]++[.sl .plain none 0 []]++bys (z9c 16)++[.sl .plain none 0 []]++[.sl .plain none 0 []]) [(0,1,.c (i64 9))]),YK 66 357 64 65,Ym 63 66,Ye 67 0 63,Ye 68 1 63,Yo 8 (.alloc 8 [i64 0,.sl .plain none 0 [],.sl .plain none 0 []]),Ys 3 8 8 67,Ym 9 68] (YR [1,7,9,10] [.norm [1,3,4,6,8,10]] [YL 69 3 1 1,Yk 70 355 69,Yz 10 10 16,Ys 16 10 10 70] (YR [1,7,9,10,11,12] [.norm [1,3,4,6,8,10,11]] [YL 72 3 1 1,Yo 73 (.call 360 [.s 72,.c (i64 1),.c (i64 3)] []),Ym 71 73,Ye 74 0 71,Ye 75 1 71,Yo 11 (.alloc 11 [i64 0,.sl .plain none 0 [],.sl .plain none 0 []]),Ys 3 11 11 74,Ym 12 75] (YR [1,7,9,10,11,12,13,14] [.norm [1,3,4,6,8,10,11,13]] [YL 77 3 1 1,Yo 78 (.call 360 [.s 77,.c (i64 0),.c (i64 1)] []),Ym 76 78,Ye 79 0 76,Ye 80 1 76,Yo 13 (.alloc 13 [i64 0,.sl .plain none 0 [],.sl .plain none 0 []]),Ys 3 13 13 79,Ym 14 80] (YR [1,7,9,10,11,12,13,14,16] [.norm [1,3,4,6,8,10,11,13,15]] [YL 82 3 1 1,Yo 83 (.call 360 [.s 82,.c (i64 2),.c (i64 2)] []),Ym 81 83,Ye 84 0 81,Ye 85 1 81,Yo 15 (.alloc 15 [i64 0,.sl .plain none 0 [],.sl .plain none 0 []]),Ys 3 15 15 84,Ym 16 85] (YR [1,7,9,10,11,12,13,14,16,17,18] [.norm [1,3,4,6,8,10,11,13,15,17]] [YL 87 3 1 1,Yo 88 (.call 359 [.s 87,.c (i64 2)] []),Ym 86 88,Ye 89 0 86,Ye 90 1 86,Yo 17 (.alloc 17 [i64 0,.sl .plain none 0 [],.sl .plain none 0 []]),Ys 3 17 17 89,Ym 18 90] (YR [1,7,9,10,11,12,13,14,16,17,18,19,20] [.norm [1,3,4,6,8,10,11,13,15,17,19]] [YL 92 3 17 17,Yo 93 (.call 360 [.s 92,.c (i64 2),.c (i64 3)] []),Ym 91 93,Ye 94 0 91,Ye 95 1 91,Yo 19 (.alloc 19 [i64 0,.sl .plain none 0 [],.sl .plain none 0 []]),Ys 3 19 19 94,Ym 20 95] (YR [1,7,9,10,11,12,13,14,16,17,18,19,20,22] [.norm [1,3,4,6,8,10,11,13,15,17,19,21]] [YL 97 3 17 17,Yo 98 (.call 360 [.s 97,.c (i64 1),.c (i64 3)] []),Ym 96 98,Ye 99 0 96,Ye 100 1 96,Yo 21 (.alloc 21 [i64 0,.sl .plain none 0 [],.sl .plain none 0 []]),Ys 3 21 21 99,Ym 22 100] (YR [1,7,9,10,11,12,13,14,16,17,18,19,20,22,24] [.norm [1,3,4,6,8,10,11,13,15,17,19,21]] [YL 102 3 17 17,Yo 103 (.call 353 [.s 102,.c (i64 1)] []),Ym 101 103,Ye 104 0 101,Ye 105 1 101,YM 23 104,Ym 24 105] (YR [1,7,9,10,11,12,13,14,16,17,18,19,20,22,24,25,26] [.norm [1,3,4,6,8,10,11,13,15,17,19,21,25]] [YL 107 3 1 1,Yo 108 (.call 348 [.s 107,.c (i64 2)] []),Ym 106 108,Ye 109 0 106,Ye 110 1 106,Yo 25 (.alloc 25 [i64 0,.sl .plain none 0 []]),Ys 2 25 25 109,Ym 26 110] (YR [1,7,9,10,11,12,13,14,16,17,18,19,20,22,24,25,26,28] [.norm [1,3,4,6,8,10,11,13,15,17,19,21,25,27]] [YL 112 3 1 1,Yo 113 (.call 348 [.s 112,.c (i64 4)] []),Ym 111 113,Ye 114 0 111,Ye 115 1 111,Yo 27 (.alloc 27 [i64 0,.sl .plain none 0 []]),Ys 2 27 27 114,Ym 28 115] (Yq (YR [1,7,9,10,11,12,13,14,16,17,19,22,24,25,28,137] [.norm [1,3,4,6,8,10,11,13,15,17,19,21,25,27]] [Ym 116 18,YB 117 .neq 116 0,Ym 118 117,Yg 118 (Ym 119 20),Yg 118 (YB 120 .neq 119 0),YP 121 118 120,Ym 122 121,Yg 122 (Ym 123 26),Yg 122 (YB 124 .neq 123 0),YP 125 122 124,Ym 126 125,Yg 126 (Yf 127 1 25),Yg 126 (Yl 128 25 127),Yg 126 (Yn 129 128),Yg 126 (YB 130 .neq 129 1),YP 131 126 130,Ym 132 131,Yg 132 (Yf 133 2 17),Yg 132 (Yl 134 17 133),Yg 132 (Yn 135 134),Yg 132 (YB 136 .neq 135 1),YP 137 132 136] (Yd 137 (Yr [0] [Yw 0 false] .ret) (Yy [1,7,9,10,11,12,13,14,16,17,19,22,24,25,28]))) z2ba))))))))))))
def z3qa:z6e:=
 {n:=0,wr:=[],res:=[.t 0],body:=Yr [] [Yw 0 false] (YR [1] [.norm [1]] [Yo 1 (.alloc 1 [i64 0,.sl .plain none 0 [],.sl .plain none 0 []])] (Yq (Yr [1,41,42,43] [YT 41 396 [],Yn 42 41,Yc 43 0] (.block 0 (.loop z5ba))) z0aa))}
end Go.Abs
end

section
namespace Go.Abs
structure XM where
 bx:List Nat
 nb:List Nat
 run:List z2a→Option (z2a×(Nat→List z2a))
structure XW where
 hold:List Nat
 bx:List Nat
 run:List z2a→(Nat→List z2a)→Option (z2a×(Nat→List z2a))
structure XE where
 G:Nat→List z2a→Option z2a
 T:Nat→List z2a
 M:Nat→XM:=fun _=>⟨[],[],fun _=>none⟩
 I:Nat→List z2a→List z2a→Option (List (List z2a)):=fun _ _ _=>none
 C:Nat→XW:=fun _=>⟨[],[],fun _ _=>none⟩
def XE.env (X:XE):Env:=
 {G:=fun f=>⟨fun ds=>(X.G f ds).isSome=true,fun ds=>(X.G f ds).getD .undef⟩
  T:=X.T
  M:=fun f=>⟨(X.M f).bx,(X.M f).nb,fun ds=>((X.M f).run ds).isSome=true,fun ds=>(((X.M f).run ds).getD (.undef,fun _=>[])).1,fun ds=>(((X.M f).run ds).getD (.undef,fun _=>[])).2⟩
  I:=fun f=>⟨fun x y=>(X.I f x y).isSome=true,fun x y i=>((X.I f x y).getD [])[i]?,[]⟩
  C:=fun f=>⟨(X.C f).hold,(X.C f).bx,[],fun ds bs=>((X.C f).run ds bs).isSome=true,fun ds bs=>(((X.C f).run ds bs).getD (.undef,fun _=>[])).1,fun ds bs=>(((X.C f).run ds bs).getD (.undef,fun _=>[])).2⟩}
/-! ### lists -/
noncomputable def lkX {α:Type} (s:Nat) (l:List (Nat×α)):Option α:=List.rec none (fun p _ ih=>bif Nat.beq s p.1 then some p.2 else ih) l
theorem z8va {α:Type} (s:Nat):∀l:List (Nat×α),lkX s l=lk l s
 |[]=>rfl
 |(k,x)::l=>by
  have h:lkX s ((k,x)::l)=bif Nat.beq s k then some x else lkX s l:=rfl
  rw[h,z8va s l,lk]
  by_cases e:s=k
  ·subst e
   rw[if_pos rfl,Nat.beq_refl];rfl
  ·rw[if_neg e]
   cases hb:Nat.beq s k with
   |true=>exact absurd (Nat.eq_of_beq_eq_true hb) e
   |false=>rfl
noncomputable def z7x {α:Type} (p:α→Bool) (l:List α):Bool:=List.rec true (fun a _ ih=>bif p a then ih else false) l
theorem z3d {α:Type} {p:α→Bool}:∀{l:List α},z7x p l=true→∀a∈l,p a=true
 |[],_,_,h=>by cases h
 |b::l,h,a,ha=>by
  have e:z7x p (b::l)=bif p b then z7x p l else false:=rfl
  rw[e] at h
  cases hb:p b with
  |false=>rw[hb] at h;cases h
  |true=>
   rw[hb] at h
   rcases List.mem_cons.1 ha with rfl|h'
   ·exact hb
   ·exact z3d h a h'
def z5Fd:z2a→Bool| .lit (.bool _)=>true|_=>false
theorem z2Eb {v:z2a} (h:z5Fd v=true):isB v:=by unfold z5Fd at h;split at h;exact trivial;cases h
def z52c:z2a→Bool| .lit (.int _ _)=>true|_=>false
theorem z2Aa {v:z2a} (h:z52c v=true):isI v:=by unfold z52c at h;split at h;exact trivial;cases h
def z6Rc (k:IntKind):z2a→Bool| .lit (.int k' _)=>decide (k=k')|_=>false
theorem z4lc {k:IntKind} {v:z2a} (h:z6Rc k v=true):z19c k v:=by
 unfold z6Rc at h
 split at h
 ·exact show k=_ from of_decide_eq_true h
 ·cases h
def z7Rb:z2a→Bool| .lit (.string _)=>true|_=>false
theorem z6ya {v:z2a} (h:z7Rb v=true):isS v:=by unfold z7Rb at h;split at h;exact trivial;cases h
def z80c:z2a→Bool| .sl _ _ _ _=>true| .bv _ _ _ _ _=>true| .lit (.slice none 0 0)=>true|_=>false
theorem z6yc {v:z2a} (h:z80c v=true):z15c v:=by unfold z80c at h;split at h<;>first|exact trivial|cases h
def z2Y:z2a→Bool| .agg _=>false| .tup _=>false| .otup _ _ _ _ _=>false| .oagg _ _ _ _ _ _=>false| .undef=>false| .lit (.agg _)=>false| .lit (.tuple _)=>false|_=>true
theorem z8L {v:z2a} (h:z2Y v=true):z0d v:=by
 unfold z2Y at h
 unfold z0d
 split<;>simp_all
def z11d (k:Option Nat) (v:z2a):Bool:=
 match k with
 |none=>z2Y v
 |some n=>match v with| .agg cs=>cs.length==n&&cs.all (fun c=>z2Y c&& !z5e c)|_=>false
theorem z74b {k:Option Nat} {v:z2a} (h:z11d k v=true):isK k v:=by
 unfold z11d at h
 unfold isK
 split at h
 ·exact z8L h
 ·split at h
  ·simp only[Bool.and_eq_true,beq_iff_eq,List.all_eq_true,Bool.not_eq_true'] at h
   exact⟨h.1,fun c hc=>z8L (h.2 c hc).1,fun c hc=>(h.2 c hc).2⟩
  ·cases h
def z6sd (esz:Nat) (b:Option Nat) (bx:Option (List z2a)):z2a→Bool
 | .sl _ _ n cs=>cs.length==n*esz
 | .bv id e off n _=>b==some id&&e==esz&&(match bx with|some cs=>decide (off+n*e≤cs.length)|none=>false)
 | .lit (.slice none 0 0)=>true
 |_=>false
theorem z4Ab {esz:Nat} {b:Option Nat} {bx:Option (List z2a)} {v:z2a} (h:z6sd esz b bx v=true):okS esz b bx v:=by
 unfold z6sd at h
 split at h
 ·simpa[okS] using h
 ·simp only[Bool.and_eq_true,beq_iff_eq] at h
  obtain⟨⟨h1,h2⟩,h3⟩:=h
  split at h3
  ·exact⟨h1,h2,_,rfl,of_decide_eq_true h3⟩
  ·cases h3
 ·trivial
 ·cases h
def z87d (op:BinOp) (x y:z2a):Bool:=
 match x,y with
 | .lit (.int k _),.lit (.int k' b)=>
  (match op with
   | .shl| .shr=>decide (0≤b)
   | .quo| .rem=>decide (k=k')&&b !=0
   |_=>decide (k=k'))
 | .lit (.string a),.lit (.string b)=>
  (match op with
   | .add=>decide (((a.size+b.size:Nat):Int)≤9223372036854775807)
   | .eql| .neq| .lss| .leq| .gtr| .geq=>true
   |_=>false)
 |_,_=>false
theorem z0Qc {op:BinOp} {x y:z2a} (h:z87d op x y=true):z0c op x y:=by
 unfold z87d at h
 split at h
 ·split at h<;>simp_all [z0c]
 ·split at h<;>simp_all [z0c]
 ·cases h
def unX (op:UnOp) (x:z2a):Bool:=
 match op,x with
 | .neg,.lit (.int _ _)=>true
 | .xor,.lit (.int _ _)=>true
 | .not,.lit (.bool _)=>true
 |_,_=>false
theorem z0Ed {op:UnOp} {x:z2a} (h:unX op x=true):z21b op x:=by
 unfold unX at h;split at h<;>first|trivial|cases h
def z1wd:LK→z2a→Bool
 | .int k,.lit (.int k' _)=>decide (k=k')
 | .bool,.lit (.bool _)=>true
 | .str,.lit (.string _)=>true
 |_,_=>false
def z9Aa:List LK→List z2a→Bool
 |[],[]=>true
 |k::ks,c::cs=>z1wd k c&&z9Aa ks cs
 |_,_=>false
theorem z6za:∀{ks:List LK} {cs:List z2a},z9Aa ks cs=true→z2y ks cs
 |[],[],_=>trivial
 |[],_::_,h=>by cases h
 |_::_,[],h=>by cases h
 |k::ks,c::cs,h=>by
  simp only[z9Aa,Bool.and_eq_true] at h
  refine⟨?_,z6za h.2⟩
  have h1:=h.1
  unfold z1wd at h1
  split at h1
  ·exact show _=_ from of_decide_eq_true h1
  ·trivial
  ·trivial
  ·cases h1
def z51a (bs:List Nat) (bx:Nat→Option (List z2a)):z2a→Bool
 | .bp id off=>bs.contains id&&(match bx id with|some cs=>decide (off≤cs.length)|none=>false)
 | .bv id e off n _=>bs.contains id&&(match bx id with|some cs=>decide (off+n*e≤cs.length)|none=>false)
 |v=>z8d v
theorem z2Ga {bs:List Nat} {bx:Nat→Option (List z2a)} {v:z2a} (h:z51a bs bx v=true):z1u bs bx v:=by
 unfold z51a at h
 split at h
 ·simp only[Bool.and_eq_true,List.contains_eq_mem,decide_eq_true_eq] at h
  obtain⟨h1,h2⟩:=h
  split at h2
  ·rename_i cs e;exact⟨h1,cs,e,of_decide_eq_true h2⟩
  ·cases h2
 ·simp only[Bool.and_eq_true,List.contains_eq_mem,decide_eq_true_eq] at h
  obtain⟨h1,h2⟩:=h
  split at h2
  ·rename_i cs e;exact⟨h1,cs,e,of_decide_eq_true h2⟩
  ·cases h2
 ·rename_i h1 h2
  cases v with
  |bp=>exact(h1 _ _ rfl).elim
  |bv=>exact(h2 _ _ _ _ _ rfl).elim
  |_=>exact h
def z5nb (bs:List Nat) (bx:Nat→Option (List z2a)):z2a→Bool
 | .fn _ x y=>x.all (z51a bs bx)&&y.all (z51a bs bx)
 |v=>z51a bs bx v
theorem z5Xa {bs:List Nat} {bx:Nat→Option (List z2a)} {v:z2a} (h:z5nb bs bx v=true):z9A bs bx v:=by
 cases v<;>simp only[z5nb,z9A] at h⊢
 case fn f x y=>
  simp only[Bool.and_eq_true,List.all_eq_true] at h
  exact⟨fun v hv=>z2Ga (h.1 v hv),fun v hv=>z2Ga (h.2 v hv)⟩
 all_goals exact z2Ga h

theorem z81 {α:Type} {c:Bool} {a e:α} (h:(bif c then some a else none)=some e):c=true∧a=e:=by
 cases c with
 |false=>cases h
 |true=>cases h;exact⟨rfl,rfl⟩
theorem z2ab (a b:ByteArray) (h:a.data.toList=b.data.toList):a=b:=by
 cases a with|mk a=>cases b with|mk b=>cases a with|mk a=>cases b with|mk b=>exact congrArg (fun l=>ByteArray.mk (Array.mk l)) h
def strF (op:BinOp) (a b:ByteArray):Value:=match op with| .add=> .string ⟨⟨a.data.toList++b.data.toList⟩⟩|op=>z7Od op a b
theorem z6Sc (op:BinOp) (a b:ByteArray):strF op a b=z7Od op a b:=by
 cases op with
 |add=>exact congrArg Value.string (z2ab _ _ (by simp[ByteArray.data_append]))
 |_=>rfl
def z2fe (op:BinOp) (x y:z2a):z2a:=
 match x,y with
 | .lit (.int k a),.lit (.int _ b)=> .lit (z73c op k a b)
 | .lit (.string a),.lit (.string b)=> .lit (strF op a b)
 |_,_=> .undef
theorem z4Rc (op:BinOp) (x y:z2a):z2fe op x y=z3B op x y:=by
 unfold z2fe z3B
 split
 ·rfl
 ·rw[z6Sc]
 ·rename_i h1 h2
  split
  ·exact(h1 _ _ _ _ rfl rfl).elim
  ·exact(h2 _ _ rfl rfl).elim
  ·rfl
def z66d (s:ByteArray) (l h:Nat):ByteArray:=⟨⟨(s.data.toList.take h).drop l⟩⟩
theorem z9Uc (s:ByteArray) (l h:Nat):z66d s l h=s.extract l h:=z2ab _ _ (by simp[z66d,ByteArray.data_extract,List.extract_eq_take_drop,List.drop_take])
def z2Tb (id:Nat):Bool:=Nat.blt id 400000||(Nat.ble 500000 id&&Nat.blt id 1000000)
theorem z4Ra {id:Nat} (h:z2Tb id=true):z3fb id:=by
 simp only[z2Tb,Bool.or_eq_true,Bool.and_eq_true] at h
 exact h.imp (fun h=>Nat.le_of_ble_eq_true h) fun h=>⟨Nat.le_of_ble_eq_true h.1,Nat.le_of_ble_eq_true h.2⟩
section
variable (X : XE) (g : Nat → z2a) (gb : Nat → Option (List z2a))
noncomputable def z7wa (o:Option Arg) (m:Nat):Bool:=match o with|none=>true|some a=>z52c (arg X.env g a)&&decide (0≤asI (arg X.env g a))&&decide (asI (arg X.env g a)≤m)
noncomputable def z8Ka (g:Nat→z2a):List (Nat×Nat×Arg)→Nat→Bool
 |[],_=>true
 |(off,k,a)::r,n=>(z5q (arg X.env g a)).length==k&&Nat.ble (off+k) n&&z7x z2Y (z5q (arg X.env g a))&&z8Ka g r n
def z5Kb (b:Option Nat) (n:Nat):z2a→Bool
 | .bp id off=>(match b with|some i=>Nat.beq i id|none=>false)&&(match gb id with|some cs=>Nat.ble (off+n) cs.length|none=>false)
 | .ep cs=>b.isNone&&Nat.ble n cs.length
 |_=>false
def z2mc (ws:List (Nat×Nat)):Nat→List z2a→Bool
 |_,[]=>true
 |j,a::as=>(match fnd ws j with|some id=>(match a with| .bp i 0=>i==id|_=>false)&&(match gb id with|some cs=>z3f cs|none=>false)|none=>z5nb [] (fun _=>none) a)&&z2mc ws (j+1) as
noncomputable def z2Pb (esz:Nat) (bytes:Nat) (str:Bool) (nlr:Option Bool) (b:Option Nat) (x y:z2a):Bool:=
  (if str then z7Rb y&&esz==1 else z6sd esz b (bxc gb b) y)&&
  Nat.ble ((z9r x+z9r y)*bytes) 1099511627776&&Nat.ble (z9r x+z9r y) 1099511627776&&
  (match nlr with
   |none=>true
   |some false=>(match x with| .sl _ (some false) _ _=>true|_=>Nat.ble 1 (z9r y))
   |some true=>(match x with| .sl _ (some true) _ _=>z9r y==0|_=>false))&&
  z7x (fun c=>z8d c&&z2Y c) (z8f (bxl gb b) y)
noncomputable def z4xc (f:Nat) (as:List z2a) (bs:List Nat):Option Eff:=
 bif z7x (z5nb bs (fun id=>if id∈bs then gb id else none)) as&&z7x (fun id=>match gb id with|some cs=>z3f cs|none=>false) bs then
  match X.G f (as.map (z4T (fun id=>if id∈bs then(gb id).getD [] else []))) with
  |some v=>bif z8d v&&(bs.isEmpty||z5b v) then some {val:=v} else none
  |none=>none
 else none
noncomputable def z8Kb (f:Nat) (as:List z2a) (ws ns:List (Nat×Nat)):Option Eff:=
 bif z2mc gb ws 0 as&&(ws.map (·.1)==(X.M f).bx)&&decide ((ws.map (·.2)).Nodup)&&(z7x (fun j=>decide (j<as.length)) (X.M f).bx)&&(ns.map (·.1)==(X.M f).nb)&&decide ((ns.map (·.2)).Nodup)&&z7x (fun p:Nat×Nat=>(gb p.2).isNone&&z2Tb p.2) ns&&decide (((X.M f).bx++(X.M f).nb).Nodup)&&z7x (fun p:Nat×Nat=>decide (p.1<500000)&&decide (p.2<500000)) (ws++ns) then
  match(X.M f).run (z9ha gb ws 0 as) with
  |some (v,out)=>bif z7x (fun id=>((X.M f).bx++(X.M f).nb).contains id) (z5m v)&&z7x (fun j=>z7x (fun id=>((X.M f).bx++(X.M f).nb).contains id) (z9f (out j))) ((X.M f).bx++(X.M f).nb) then
    some {val:=Abs.ren (ws++ns) v,bx:=(ws++ns).map fun p:Nat×Nat=>(p.2,some (Abs.renL (ws++ns) (out p.1)))} else none
  |none=>none
 else none
noncomputable def z7bd (ws:List (Nat×Nat)) (a:z2a):Bool:=match z5m a with|[]=>z5nb [] (fun _=>none) a|i::l=>z7x (fun id=>(ws.map (·.2)).contains id) (i::l)
noncomputable def z7Hd (ws:List (Nat×Nat)) (cs:List z2a):Bool:=bif z2Na ws then z7x (fun id=>(ws.map (·.2)).contains id) (z9f cs) else z3f cs
noncomputable def z6Lb (f:Nat) (as:List z2a) (ws:List (Nat×Nat)):Option Eff:=
 bif z7x (z7bd ws) as&&z7x (fun p:Nat×Nat=>match gb p.2 with|some cs=>z7Hd ws cs|none=>false) ws&&(ws.map (·.1)==(X.C f).bx)&&decide ((ws.map (·.2)).Nodup)&&decide ((X.C f).bx.Nodup)&&z7x (fun p:Nat×Nat=>decide (p.1<500000)&&decide (p.2<500000)) ws&&z7x (fun j=>(Nat.ble 400000 j&&Nat.blt j 500000)||(X.C f).hold.any fun i=>match(as.map (z7hc ws))[i]? with|some d=>(z5m d).contains j|none=>false) (X.C f).bx then
  match(X.C f).run (as.map (z7hc ws)) (z45a gb ws) with
  |some (v,out)=>bif z7x (fun id=>(X.C f).bx.contains id) (z5m v)&&z7x (fun j=>z7x (fun id=>(X.C f).bx.contains id) (z9f (out j))) (X.C f).bx then
    some {val:=Abs.ren (ws++[]) v,bx:=(ws++[]).map fun p:Nat×Nat=>(p.2,some (Abs.renL (ws++[]) (out p.1)))} else none
  |none=>none
 else none
def x_mv (t:Bool) (x:Arg):Eff:=match t,x with
 |true,.s n=>{val:=g n,sl:=[(n,dem (g n))]}
 |true,.c d=>{val:=d}
 |_,x=>{val:=dem (arg X.env g x)}
def z5Fc (c a b:Arg):Option Eff:=match arg X.env g c with| .lit (.bool true)=>some {val:=dem (arg X.env g a)}| .lit (.bool false)=>some {val:=dem (arg X.env g b)}|_=>none
def z6Bd (op:BinOp) (x y:Arg):Option Eff:=bif z87d op (arg X.env g x) (arg X.env g y) then some {val:=z2fe op (arg X.env g x) (arg X.env g y)} else none
def z6Ed (neg:Bool) (x y:Arg):Option Eff:=bif z5Fd (arg X.env g x)&&z5Fd (arg X.env g y) then some {val:= .lit (.bool ((asB (arg X.env g x)==asB (arg X.env g y)) !=neg))} else none
def z9qd (ks:List LK) (neg:Bool) (x y:Arg):Option Eff:=match arg X.env g x,arg X.env g y with
 | .agg xs,.agg ys=>bif z9Aa ks xs&&z9Aa ks ys then some {val:= .lit (.bool (z2J ks xs ys !=neg))} else none
 |_,_=>none
def z4hc (neg:Bool) (x y:Arg):Option Eff:=match arg X.env g x,arg X.env g y with
 | .lit (.slice none 0 0),.sl _ (some b) _ _=>some {val:= .lit (.bool (b !=neg))}
 | .sl _ (some b) _ _,.lit (.slice none 0 0)=>some {val:= .lit (.bool (b !=neg))}
 |_,_=>none
def x_un (op:UnOp) (x:Arg):Option Eff:=bif unX op (arg X.env g x) then some {val:=unV op (arg X.env g x)} else none
def z34b (k:IntKind) (x:Arg):Option Eff:=bif z52c (arg X.env g x) then some {val:=cvV k (arg X.env g x)} else none
noncomputable def z29b (b:Option Nat) (x:Arg):Option Eff:=bif z6sd 1 b (bxc gb b) (arg X.env g x)&&z7x (z6Rc .u8) (z8f (bxl gb b) (arg X.env g x)) then some {val:= .lit (.string (z30 (z8f (bxl gb b) (arg X.env g x))))} else none
def z2qb (x:Arg):Option Eff:=bif z7Rb (arg X.env g x) then some {val:= .sl (.own 1) (some false) (asS (arg X.env g x)).size (z3ba (asS (arg X.env g x)).data.toList)} else none
def z5Ic (x:Arg):Option Eff:=bif z7Rb (arg X.env g x) then some {val:=arg X.env g x} else none
def z3Ec (x:Nat):Option Eff:=match g x with| .sl (.own 1) (some false) _ (_::_)=>some {val:=dem (g x),sl:=[(x,dem (g x))]}|_=>none
def z07a (x:Nat):Option Eff:=match g x with| .otup e nl n cs _=>some {val:= .sl (.own e) nl n cs,sl:=[(x,dem (g x))]}|_=>none
noncomputable def z56b (z:List z2a) (ps:List (Nat×Nat×Arg)):Option Eff:=bif z8Ka X (fun n=>dem (g n)) ps z.length then some {val:= .agg (z2B X.env (fun n=>dem (g n)) ps z)} else none
noncomputable def z7lb (esz n:Nat) (z:List z2a) (ps:List (Nat×Nat×Arg)):Option Eff:=bif z.length==n*esz&&z8Ka X g ps z.length&&z3f (z2B X.env g ps z) then some {val:= .sl (.own esz) (some false) n (z2B X.env g ps z)} else none
def z4Gc (k b:Option Nat) (take:Bool) (x:Arg):Option Eff:=bif z5Kb gb b (k.getD 1) (arg X.env g x)&&(!take||(match b with|some id=>decide (id<1000000)|none=>true)) then some (eff X.env g gb (.load k b take x)) else none
def z68b (k:Option Nat) (b:Nat) (take:Bool) (a v:Arg):Option Eff:=bif decide (b<1000000)&&(match arg X.env g a with| .bp id off=>id==b&&(match gb id with|some cs=>Nat.ble (off+k.getD 1) cs.length|none=>false)|_=>false)&&z11d k (arg X.env g v) then some (eff X.env g gb (.store k b take a v)) else none
def z5Jb (x:Arg):Option Eff:=match arg X.env g x with| .bp i o=>some {val:= .bp i o}| .ep cs=>some {val:= .ep cs}|_=>none
def z21a (o:Nat) (x:Arg):Option Eff:=match arg X.env g x with| .bp id off=>some {val:= .bp id (off+o)}| .ep cs=>bif Nat.ble o cs.length then some {val:= .ep (cs.drop o)} else none|_=>none
def okI (n:Nat) (i:z2a):Bool:=z52c i&&decide (0≤asI i)&&decide (asI i<n)
def z2Kb (n esz:Nat) (x i:Arg):Option Eff:=bif okI n (arg X.env g i) then(match arg X.env g x with| .bp id off=>some {val:= .bp id (off+(asI (arg X.env g i)).toNat*esz)}| .ep cs=>some {val:= .ep (cs.drop ((asI (arg X.env g i)).toNat*esz))}|_=>none) else none
def z59b (esz:Nat) (x i:Arg):Option Eff:=bif okI (z9r (arg X.env g x)) (arg X.env g i) then(match arg X.env g x with| .bv id e off _ _=>bif e==esz then some {val:= .bp id (off+(asI (arg X.env g i)).toNat*esz)} else none| .sl _ _ _ cs=>some {val:= .ep (cs.drop ((asI (arg X.env g i)).toNat*esz))}|_=>none) else none
noncomputable def z9Wb (n esz:Nat) (x:Arg) (lo hi mx:Option Arg):Option Eff:=bif (match arg X.env g x with| .bp _ _=>true| .ep _=>true|_=>false)&&(!mx.isSome||hi.isSome)&&z7wa X g mx n&&z7wa X g hi (bnd X.env g mx n)&&z7wa X g lo (bnd X.env g hi n)&&Nat.ble (bnd X.env g hi n) n then some (eff X.env g gb (.slArr n esz x lo hi mx)) else none
noncomputable def z2Hc (esz:Nat) (x:Arg) (lo hi mx:Option Arg):Option Eff:=bif (match arg X.env g x with| .bv _ e _ _ _=>e==esz| .sl _ _ _ _=>true| .lit (.slice none 0 0)=>true|_=>false)&&(!mx.isSome||hi.isSome)&&z7wa X g mx (z9r (arg X.env g x))&&z7wa X g hi (bnd X.env g mx (z9r (arg X.env g x)))&&z7wa X g lo (bnd X.env g hi (z9r (arg X.env g x))) then some (eff X.env g gb (.slSl esz x lo hi mx)) else none
noncomputable def z8gc (x:Arg) (lo hi:Option Arg):Option Eff:=bif z7Rb (arg X.env g x)&&z7wa X g hi (asS (arg X.env g x)).size&&z7wa X g lo (bnd X.env g hi (asS (arg X.env g x)).size) then some {val:= .lit (.string (z66d (asS (arg X.env g x)) (bnd X.env g lo 0) (bnd X.env g hi (asS (arg X.env g x)).size)))} else none
def z0Fc (n:Nat) (x:Arg):Option Eff:=match arg X.env g x with| .bv id _ off k _=>bif Nat.ble n k&&Nat.ble 1 n then some {val:= .bp id off} else none| .sl _ _ k cs=>bif Nat.ble n k&&Nat.ble 1 n then some {val:= .ep cs} else none|_=>none
def z0cc (id:Nat) (z:List z2a):Option Eff:=bif z2Tb id&&(gb id).isNone then some {val:= .bp id 0,bx:=[(id,some z)]} else none
def z6Id (id:Nat) (k:Option Nat) (take:Bool) (x:Arg):Option Eff:=bif z2Tb id&&(gb id).isNone&&z11d k (arg X.env g x) then some (eff X.env g gb (.box id k take x)) else none
def z4nb (i:Nat) (x:Arg):Option Eff:=match dem (arg X.env g x) with| .tup vs=>bif decide (i<vs.length) then some {val:=dem (vs.getD i .undef)} else none|_=>none
def z22b (k:Option Nat) (off:Nat) (x:Arg):Option Eff:=match arg X.env g x with| .agg cs=>bif Nat.ble (off+k.getD 1) cs.length then some (match k with|none=>{val:=dem (cs.getD off .undef)}|some n=>{val:= .agg ((cs.drop off).take n)}) else none|_=>none
def z8Lc (k:Option Nat) (esz n:Nat) (x i:Arg):Option Eff:=bif okI n (arg X.env g i) then(match arg X.env g x with| .agg cs=>bif Nat.ble ((asI (arg X.env g i)).toNat*esz+k.getD 1) cs.length then some (eff X.env g gb (.idxA k esz n x i)) else none|_=>none) else none
def z9Gb (x i:Arg):Option Eff:=bif z7Rb (arg X.env g x)&&okI (asS (arg X.env g x)).size (arg X.env g i) then some {val:= .lit (.int .u8 ((asS (arg X.env g x)).data.toList.getD (asI (arg X.env g i)).toNat 0).toNat)} else none
def z2Kd (str:Bool) (x:Arg):Option Eff:=bif (bif str then z7Rb (arg X.env g x) else z80c (arg X.env g x)) then some {val:= .lit (.int .i64 (z9r (arg X.env g x)))} else none
noncomputable def z1Fb (esz bytes:Nat) (str:Bool) (nlr:Option Bool) (b:Option Nat) (x:Nat) (y:Arg):Option Eff:=bif (match g x with| .sl (.own e) _ _ _=>e==esz|_=>false)&&z2Pb gb esz bytes str nlr b (g x) (arg X.env g y) then some {val:= .sl (.own esz) nlr (z9r (g x)+z9r (arg X.env g y)) (z8f [] (g x)++z8f (bxl gb b) (arg X.env g y)),sl:=[(x,dem (g x))]} else none
noncomputable def z1mb (esz bytes:Nat) (str:Bool) (nlr:Option Bool) (b:Option Nat) (x y:Arg):Option Eff:=bif (match arg X.env g x with| .sl .clip _ n cs=>cs.length==n*esz|_=>false)&&z2Pb gb esz bytes str nlr b (arg X.env g x) (arg X.env g y) then some (eff X.env g gb (.appendC esz bytes str nlr b x y)) else none
noncomputable def z5ob (esz bytes:Nat) (str:Bool) (id:Nat) (b:Option Nat) (x y:Arg):Option Eff:=bif decide (id<1000000)&&(match arg X.env g x with| .bv i e off n c=>i==id&&e==esz&&(match gb id with|some cs=>Nat.ble (off+(n+z9r (arg X.env g y))*e) cs.length|none=>false)&&Nat.ble (n+z9r (arg X.env g y)) c&&Nat.ble 1 c|_=>false)&&
  (if str then z7Rb (arg X.env g y)&&esz==1 else z6sd esz b (bxc gb b) (arg X.env g y))&&z7x (fun c=>z2Y c&& !z5e c) (z8f (bxl gb b) (arg X.env g y)) then some (eff X.env g gb (.appendB esz bytes str id b x y)) else none
def z0Ud (op:AOp) (x y:Arg):Option Eff:=bif z52c (arg X.env g x)&&z52c (arg X.env g y) then some (eff X.env g gb op) else none
noncomputable def z86b (f:Nat) (t:Arg) (args:List Arg) (bs:List Nat):Option Eff:=match arg X.env g t with| .fn f' x y=>bif f'==f then z4xc X gb f (x++args.map (arg X.env g)++y) bs else none|_=>none
noncomputable def z51b (f:Nat) (t:Option Arg) (args:List Arg) (ws ns:List (Nat×Nat)):Option Eff:=match t with|none=>z8Kb X gb f (args.map (arg X.env g)) ws ns|some t=>(match arg X.env g t with| .fn f' x y=>bif f'==f then z8Kb X gb f (x++args.map (arg X.env g)++y) ws ns else none|_=>none)
noncomputable def z78b (f:Nat) (t:Option Arg) (args:List Arg) (ws ns:List (Nat×Nat)):Option Eff:=match ns,t with|[],none=>z6Lb X gb f (args.map (arg X.env g)) ws|[],some t=>(match arg X.env g t with| .fn f' x y=>bif f'==f then z6Lb X gb f (x++args.map (arg X.env g)++y) ws else none|_=>none)|_,_=>none
noncomputable def z7mb (id esz n:Nat) (z:List z2a) (ps:List (Nat×Nat×Arg)):Option Eff:=bif z2Tb id&&(gb id).isNone&&z.length==n*esz&&z8Ka X g ps z.length&&z7x (fun c=> !z5e c) (z2B X.env g ps z) then some {val:= .bv id esz 0 n n,bx:=[(id,some (z2B X.env g ps z))]} else none
noncomputable def z1s:AOp→Option Eff
 | .buildBx i e n z ps=>z7mb X g gb i e n z ps
 | .mv t x=>some (x_mv X g t x)
 | .pick c a b=>z5Fc X g c a b
 | .bin op x y=>z6Bd X g op x y
 | .eqb n x y=>z6Ed X g n x y
 | .eqF ks n x y=>z9qd X g ks n x y
 | .eqnil n x y=>z4hc X g n x y
 | .un op x=>x_un X g op x
 | .toInt k x=>z34b X g k x
 | .toStr b x=>z29b X g gb b x
 | .toBytes x=>z2qb X g x
 | .same x=>z5Ic X g x
 | .mark x=>z3Ec g x
 | .extractO x=>z07a g x
 | .build z ps=>z56b X g z ps
 | .buildSl e n z ps=>z7lb X g e n z ps
 | .load k b t x=>z4Gc X g gb k b t x
 | .store k b t a v=>z68b X g gb k b t a v
 | .nilchk x=>z5Jb X g x
 | .fieldAddr o x=>z21a X g o x
 | .idxArr n e x i=>z2Kb X g n e x i
 | .idxSl e x i=>z59b X g e x i
 | .slArr n e x l h m=>z9Wb X g gb n e x l h m
 | .slSl e x l h m=>z2Hc X g gb e x l h m
 | .slStr x l h=>z8gc X g x l h
 | .s2ap n x=>z0Fc X g n x
 | .alloc id z=>z0cc gb id z
 | .box id k t x=>z6Id X g gb id k t x
 | .extract i x=>z4nb X g i x
 | .field k o x=>z22b X g k o x
 | .idxA k e n x i=>z8Lc X g gb k e n x i
 | .idxStr x i=>z9Gb X g x i
 | .call f as bs=>z4xc X gb f (as.map (arg X.env g)) bs
 | .callv f t as bs=>z86b X g gb f t as bs
 | .callm f t as ws ns=>z51b X g gb f t as ws ns
 | .callw f t as ws ns=>z78b X g gb f t as ws ns
 | .len s x=>z2Kd X g s x
 | .append e y s l b x z=>z1Fb X g gb e y s l b x z
 | .appendC e y s l b x z=>z1mb X g gb e y s l b x z
 | .appendB e y s i b x z=>z5ob X g gb e y s i b x z
 | .min2 x y=>z0Ud X g gb (.min2 x y) x y
 | .max2 x y=>z0Ud X g gb (.max2 x y) x y
 | .mkfn f x y=>some {val:= .fn f (x.map fun a=>dem (arg X.env g a)) (y.map fun a=>dem (arg X.env g a))}
 |_=>none
end
section
variable {X : XE} {g : Nat → z2a} {gb : Nat → Option (List z2a)}
theorem z1rb {α:Type} {c:Bool} {x:Option α} {e:α} (h:(bif c then x else none)=some e):c=true∧x=some e:=by
 cases c with
 |false=>cases h
 |true=>exact⟨rfl,h⟩
theorem z8P {o:Option Arg} {m:Nat} (h:z7wa X g o m=true):z0L X.env g o m:=by
 unfold z7wa at h
 split at h
 ·trivial
 ·simp only[Bool.and_eq_true,decide_eq_true_eq] at h
  exact⟨z2Aa h.1.1,h.1.2,h.2⟩
theorem z7ta {g:Nat→z2a}:∀{ps:List (Nat×Nat×Arg)} {n:Nat},z8Ka X g ps n=true→z5A X.env g ps n
 |[],_,_=>trivial
 |(off,k,a)::r,n,h=>by
  simp only[z8Ka,Bool.and_eq_true,beq_iff_eq] at h
  exact⟨h.1.1.1,Nat.le_of_ble_eq_true h.1.1.2,fun c hc=>z8L (z3d h.1.2 c hc),z7ta h.2⟩
theorem z0nb {b:Option Nat} {n:Nat} {v:z2a} (h:z5Kb gb b n v=true):z3Ua gb b n v:=by
 unfold z5Kb at h
 split at h
 ·simp only[Bool.and_eq_true] at h
  obtain⟨h1,h2⟩:=h
  split at h1
  ·split at h2
   ·rename_i cs e;exact⟨by rw[Nat.eq_of_beq_eq_true h1],cs,e,Nat.le_of_ble_eq_true h2⟩
   ·cases h2
  ·cases h1
 ·simp only[Bool.and_eq_true,Option.isNone_iff_eq_none] at h
  exact⟨h.1,Nat.le_of_ble_eq_true h.2⟩
 ·cases h
theorem z7Ib {ws:List (Nat×Nat)}:∀{as:List z2a} {j:Nat},z2mc gb ws j as=true→z1ic gb ws j as
 |[],_,_=>trivial
 |a::as,j,h=>by
  simp only[z2mc,Bool.and_eq_true] at h
  refine⟨?_,z7Ib h.2⟩
  have h1:=h.1
  split at h1
  ·rename_i id e
   rw[e]
   simp only[Bool.and_eq_true] at h1
   obtain⟨h2,h3⟩:=h1
   split at h2
   ·simp only[beq_iff_eq] at h2
    subst h2
    split at h3
    ·rename_i cs e;exact⟨rfl,cs,e,h3⟩
    ·cases h3
   ·cases h2
  ·rename_i e
   rw[e]
   exact z5Xa h1
theorem z8sd {bs:List Nat} (h:(z7x (fun id=>match gb id with|some cs=>z3f cs|none=>false) bs)=true):∀id∈bs,∃cs,gb id=some cs∧z3f cs=true:=fun id hi=>by
 have:=z3d h id hi
 split at this
 ·rename_i cs e;exact⟨cs,e,this⟩
 ·cases this
theorem z9Ib {f:Nat} {as:List z2a} {bs:List Nat} {e:Eff} (h:z4xc X gb f as bs=some e):z0Oa X.env gb f as bs∧{val:=z33a X.env gb f as bs}=e:=by
 unfold z4xc at h
 obtain⟨h0,h⟩:=z1rb h
 simp only[Bool.and_eq_true] at h0
 split at h
 ·rename_i v hv
  obtain⟨h1,h⟩:=z81 h
  simp only[Bool.and_eq_true,Bool.or_eq_true,List.isEmpty_iff] at h1
  have hp:(X.env.G f).post (as.map (z4T (fun id=>if id∈bs then(gb id).getD [] else [])))=v:=by show(X.G f _).getD .undef=v;rw[hv];rfl
  refine⟨⟨fun a ha=>z5Xa (z3d h0.1 a ha),fun id hi=> ?_,?_⟩,by rw[z33a,hp];exact h⟩
  ·obtain⟨cs,h2,h3⟩:=z8sd h0.2 id hi
   exact⟨cs,h2,(z7g cs).1 h3⟩
  refine⟨?_,by rw[hp];exact h1.1,by rw[hp];exact h1.2⟩
  show(X.G f _).isSome=true
  rw[hv];rfl
 ·cases h
theorem z6mb {f:Nat} {as:List z2a} {ws ns:List (Nat×Nat)} {e:Eff} (h:z8Kb X gb f as ws ns=some e):okM X.env gb f as ws ns∧z1Wb X.env gb f as ws ns=e:=by
 unfold z8Kb at h
 obtain⟨h0,h⟩:=z1rb h
 simp only[Bool.and_eq_true,beq_iff_eq,decide_eq_true_eq] at h0
 obtain⟨⟨⟨⟨⟨⟨⟨⟨a1,a2⟩,a3⟩,a4⟩,b1⟩,b2⟩,b3⟩,a5⟩,a6⟩:=h0
 split at h
 ·rename_i v out hv
  obtain⟨h1,h⟩:=z81 h
  simp only[Bool.and_eq_true] at h1
  have hp:(X.env.M f).post (z9ha gb ws 0 as)=v:=by show(((X.M f).run _).getD _).1=v;rw[hv];rfl
  have ho:(X.env.M f).out (z9ha gb ws 0 as)=out:=by show(((X.M f).run _).getD _).2=out;rw[hv];rfl
  refine⟨⟨z7Ib a1,a2,a3,fun j hj=>of_decide_eq_true (z3d a4 j hj),b1,b2,fun p hp=> ?_,a5,fun p hp=> ?_,?_,?_,?_⟩,by rw[z1Wb];simp only[hp,ho];exact h⟩
  ·have:=z3d b3 p hp
   simp only[Bool.and_eq_true,Option.isNone_iff_eq_none] at this
   exact⟨this.1,z4Ra this.2⟩
  ·have:=z3d a6 p hp
   simp only[Bool.and_eq_true,decide_eq_true_eq] at this
   omega
  ·show((X.M f).run _).isSome=true
   rw[hv];rfl
  ·rw[hp];exact fun id hi=>List.contains_iff_mem.1 (z3d h1.1 id hi)
  ·rw[ho];exact fun j hj id hi=>List.contains_iff_mem.1 (z3d (z3d h1.2 j hj) id hi)
 ·cases h
theorem z3lc {ws:List (Nat×Nat)} {a:z2a} (h:z7bd ws a=true):z1zd ws a:=by
 unfold z7bd at h
 unfold z1zd
 split at h
 ·rename_i e;rw[e];exact z5Xa h
 ·rename_i i l e
  rw[e]
  exact fun id hi=>by simpa using z3d h id hi
theorem z3jb {f:Nat} {as:List z2a} {ws:List (Nat×Nat)} {e:Eff} (h:z6Lb X gb f as ws=some e):okW X.env gb f as ws []∧z11b X.env gb f as ws []=e:=by
 unfold z6Lb at h
 obtain⟨h0,h⟩:=z1rb h
 simp only[Bool.and_eq_true,beq_iff_eq,decide_eq_true_eq] at h0
 obtain⟨⟨⟨⟨⟨⟨a1,a2⟩,a3⟩,a4⟩,a5⟩,a6⟩,a7⟩:=h0
 split at h
 ·rename_i v out hv
  obtain⟨h1,h⟩:=z81 h
  simp only[Bool.and_eq_true] at h1
  have hp:(X.env.C f).post (as.map (z7hc ws)) (z45a gb ws)=v:=by show(((X.C f).run _ _).getD _).1=v;rw[hv];rfl
  have ho:(X.env.C f).out (as.map (z7hc ws)) (z45a gb ws)=out:=by show(((X.C f).run _ _).getD _).2=out;rw[hv];rfl
  have hb:(X.env.C f).bx++(X.env.C f).nb=(X.C f).bx:=List.append_nil _
  refine⟨⟨fun a ha=>z3lc (z3d a1 a ha),fun p hp=> ?_,a3,a4,rfl,List.nodup_nil,fun _ h=>(by cases h),(by rw[hb];exact a5),fun p hp=> ?_,fun j hj=> ?_,?_,?_,?_⟩,by rw[z11b];simp only[hp,ho];exact h⟩
  ·have:=z3d a2 p hp
   split at this
   ·rename_i cs e
    refine⟨cs,e,?_⟩
    unfold z7Hd at this
    unfold z8qc
    cases hv:z2Na ws with
    |true=>
     rw[hv] at this
     rw[if_pos rfl]
     exact fun id hid=>by simpa using z3d this id hid
    |false=>
     rw[hv] at this
     rw[if_neg (by simp)]
     exact this
   ·cases this
  ·rw[List.append_nil] at hp
   have:=z3d a6 p hp
   simp only[Bool.and_eq_true,decide_eq_true_eq] at this
   omega
  ·have:=z3d a7 j hj
   simp only[Bool.or_eq_true,Bool.and_eq_true,List.any_eq_true] at this
   rcases this with h2|⟨i,hi,h2⟩
   ·exact .inl ⟨Nat.le_of_ble_eq_true h2.1,Nat.le_of_ble_eq_true h2.2⟩
   ·split at h2
    ·rename_i d hd;exact .inr ⟨i,hi,d,hd,by simpa using h2⟩
    ·cases h2
  ·show((X.C f).run _ _).isSome=true
   rw[hv];rfl
  ·rw[hp,hb];exact fun id hi=>by simpa using z3d h1.1 id hi
  ·rw[ho,hb];exact fun j hj id hi=>by simpa using z3d (z3d h1.2 j hj) id hi
 ·cases h
theorem z8mb {esz bytes:Nat} {str:Bool} {nlr:Option Bool} {b:Option Nat} {x y:z2a} (h:z2Pb gb esz bytes str nlr b x y=true):okp.okApp gb esz bytes str nlr b x y:=by
 simp only[z2Pb,Bool.and_eq_true] at h
 obtain⟨⟨⟨⟨h1,h2⟩,h3⟩,h4⟩,h5⟩:=h
 refine⟨?_,Nat.le_of_ble_eq_true h2,Nat.le_of_ble_eq_true h3,?_,fun c hc=> ?_⟩
 ·split at h1
  ·rename_i hs
   rw[if_pos hs]
   simp only[Bool.and_eq_true,beq_iff_eq] at h1
   exact⟨z6ya h1.1,h1.2⟩
  ·rename_i hs
   rw[if_neg hs]
   exact z4Ab h1
 ·split at h4
  ·trivial
  ·split at h4
   ·trivial
   ·simp only
    exact Nat.le_of_ble_eq_true h4
  ·split at h4<;>simp_all
 ·have:=z3d h5 c hc
  simp only[Bool.and_eq_true] at this
  exact⟨this.1,z8L this.2⟩
theorem z9Nb {n:Nat} {i:z2a} (h:okI n i=true):isI i∧0≤asI i∧asI i<n:=by
 simp only[okI,Bool.and_eq_true,decide_eq_true_eq] at h
 exact⟨z2Aa h.1.1,h.1.2,h.2⟩
theorem z2tc {op:AOp} {e:Eff} (h:z1s X g gb op=some e):okp X.env g gb op∧eff X.env g gb op=e:=by
 cases op with
 |mv t x=>cases h;refine⟨trivial,?_⟩;cases t<;>cases x<;>rfl
 |pick c a b=>
  simp only[z1s,z5Fc] at h
  split at h
  ·rename_i hc;cases h;exact⟨by simp only[okp];rw[hc];trivial,by simp only[eff];rw[hc];rfl⟩
  ·rename_i hc;cases h;exact⟨by simp only[okp];rw[hc];trivial,by simp only[eff];rw[hc];rfl⟩
  ·cases h
 |bin op x y=>
  simp only[z1s,z6Bd] at h
  obtain⟨h1,h2⟩:=z81 h
  exact⟨z0Qc h1,by rw[←h2,z4Rc];rfl⟩
 |eqb n x y=>
  simp only[z1s,z6Ed] at h
  obtain⟨h1,h2⟩:=z81 h
  simp only[Bool.and_eq_true] at h1
  exact⟨⟨z2Eb h1.1,z2Eb h1.2⟩,h2⟩
 |eqF ks n x y=>
  simp only[z1s,z9qd] at h
  split at h
  ·rename_i xs ys hx hy
   obtain⟨h1,h2⟩:=z81 h
   simp only[Bool.and_eq_true] at h1
   exact⟨by simp only[okp];rw[hx,hy];exact⟨z6za h1.1,z6za h1.2⟩,by simp only[eff];rw[hx,hy];exact h2⟩
  ·cases h
 |eqnil n x y=>
  simp only[z1s,z4hc] at h
  split at h
  ·rename_i hx hy;cases h;exact⟨by simp only[okp];rw[hx,hy];trivial,by simp only[eff];rw[hx,hy];rfl⟩
  ·rename_i hx hy;cases h;exact⟨by simp only[okp];rw[hx,hy];trivial,by simp only[eff];rw[hx,hy];rfl⟩
  ·cases h
 |un op x=>
  simp only[z1s,x_un] at h
  obtain⟨h1,h2⟩:=z81 h
  exact⟨z0Ed h1,h2⟩
 |toInt k x=>
  simp only[z1s,z34b] at h
  obtain⟨h1,h2⟩:=z81 h
  exact⟨z2Aa h1,h2⟩
 |toStr b x=>
  simp only[z1s,z29b] at h
  obtain⟨h1,h2⟩:=z81 h
  simp only[Bool.and_eq_true] at h1
  exact⟨⟨z4Ab h1.1,fun c hc=>z4lc (z3d h1.2 c hc)⟩,h2⟩
 |toBytes x=>
  simp only[z1s,z2qb] at h
  obtain⟨h1,h2⟩:=z81 h
  exact⟨z6ya h1,h2⟩
 |same x=>
  simp only[z1s,z5Ic] at h
  obtain⟨h1,h2⟩:=z81 h
  exact⟨z6ya h1,h2⟩
 |mark x=>
  simp only[z1s,z3Ec] at h
  split at h
  ·rename_i hx;cases h;exact⟨by simp only[okp];rw[hx];trivial,rfl⟩
  ·cases h
 |extractO x=>
  simp only[z1s,z07a] at h
  split at h
  ·rename_i hx;cases h;exact⟨by simp only[okp];rw[hx];trivial,by simp only[eff];rw[hx]⟩
  ·cases h
 |build z ps=>
  simp only[z1s,z56b] at h
  obtain⟨h1,h2⟩:=z81 h
  exact⟨z7ta h1,h2⟩
 |buildSl e n z ps=>
  simp only[z1s,z7lb] at h
  obtain⟨h1,h2⟩:=z81 h
  simp only[Bool.and_eq_true,beq_iff_eq] at h1
  exact⟨⟨h1.1.1,z7ta h1.1.2,h1.2⟩,h2⟩
 |load k b take x=>
  simp only[z1s,z4Gc] at h
  obtain⟨h1,h2⟩:=z81 h
  simp only[Bool.and_eq_true,Bool.or_eq_true,Bool.not_eq_true'] at h1
  refine⟨⟨z0nb h1.1,fun ht id hb=> ?_⟩,h2⟩
  rcases h1.2 with h3|h3
  ·rw[ht] at h3;cases h3
  ·rw[hb] at h3;exact of_decide_eq_true h3
 |store k b t a v=>
  simp only[z1s,z68b] at h
  obtain⟨h1,h2⟩:=z81 h
  simp only[Bool.and_eq_true,decide_eq_true_eq] at h1
  obtain⟨⟨h1,h4⟩,h3⟩:=h1
  refine⟨⟨h1,?_,z74b h3⟩,h2⟩
  split at h4
  ·rename_i e
   rw[e]
   simp only[Bool.and_eq_true,beq_iff_eq] at h4
   refine⟨h4.1,?_⟩
   have h5:=h4.2
   split at h5
   ·rename_i cs e';exact⟨cs,e',Nat.le_of_ble_eq_true h5⟩
   ·cases h5
  ·cases h4
 |nilchk x=>
  simp only[z1s,z5Jb] at h
  split at h
  ·rename_i hx;cases h;exact⟨by simp only[okp];rw[hx];trivial,by simp only[eff];rw[hx]⟩
  ·rename_i hx;cases h;exact⟨by simp only[okp];rw[hx];trivial,by simp only[eff];rw[hx]⟩
  ·cases h
 |fieldAddr o x=>
  simp only[z1s,z21a] at h
  split at h
  ·rename_i hx;cases h;exact⟨by simp only[okp];rw[hx];trivial,by simp only[eff];rw[hx]⟩
  ·rename_i hx
   obtain⟨h1,h2⟩:=z81 h
   exact⟨by simp only[okp];rw[hx];exact Nat.le_of_ble_eq_true h1,by simp only[eff];rw[hx];exact h2⟩
  ·cases h
 |idxArr n e x i=>
  simp only[z1s,z2Kb] at h
  obtain⟨h1,h⟩:=z1rb h
  have h1:=z9Nb h1
  split at h
  ·rename_i hx;cases h;exact⟨by simp only[okp];rw[hx];exact⟨trivial,h1⟩,by simp only[eff];rw[hx]⟩
  ·rename_i hx;cases h;exact⟨by simp only[okp];rw[hx];exact⟨trivial,h1⟩,by simp only[eff];rw[hx]⟩
  ·cases h
 |idxSl e x i=>
  simp only[z1s,z59b] at h
  obtain⟨h1,h⟩:=z1rb h
  have h1:=z9Nb h1
  split at h
  ·rename_i hx
   obtain⟨h3,h2⟩:=z81 h
   simp only[beq_iff_eq] at h3
   rw[hx] at h1
   exact⟨by simp only[okp];rw[hx];exact⟨h3,h1⟩,by simp only[eff];rw[hx];exact h2⟩
  ·rename_i hx
   cases h
   rw[hx] at h1
   exact⟨by simp only[okp];rw[hx];exact⟨trivial,h1⟩,by simp only[eff];rw[hx]⟩
  ·cases h
 |slArr n e x lo hi mx=>
  simp only[z1s,z9Wb] at h
  obtain⟨h1,h2⟩:=z81 h
  simp only[Bool.and_eq_true,Bool.or_eq_true,Bool.not_eq_true'] at h1
  obtain⟨⟨⟨⟨⟨h1,h6⟩,h3⟩,h4⟩,h5⟩,h7⟩:=h1
  exact⟨⟨by split at h1<;>simp_all,fun hm=>h6.resolve_left (by rw[hm];simp),z8P h3,z8P h4,z8P h5,Nat.le_of_ble_eq_true h7⟩,h2⟩
 |slSl e x lo hi mx=>
  simp only[z1s,z2Hc] at h
  obtain⟨h1,h2⟩:=z81 h
  simp only[Bool.and_eq_true,Bool.or_eq_true,Bool.not_eq_true'] at h1
  obtain⟨⟨⟨⟨h1,h6⟩,h3⟩,h4⟩,h5⟩:=h1
  exact⟨⟨by split at h1<;>simp_all,fun hm=>h6.resolve_left (by rw[hm];simp),z8P h3,z8P h4,z8P h5⟩,h2⟩
 |slStr x lo hi=>
  simp only[z1s,z8gc] at h
  obtain⟨h1,h2⟩:=z81 h
  simp only[Bool.and_eq_true] at h1
  exact⟨⟨z6ya h1.1.1,z8P h1.1.2,z8P h1.2⟩,by rw[←h2,z9Uc];rfl⟩
 |s2ap n x=>
  simp only[z1s,z0Fc] at h
  split at h
  ·rename_i hx
   obtain⟨h1,h2⟩:=z81 h
   simp only[Bool.and_eq_true] at h1
   exact⟨by simp only[okp];rw[hx];exact⟨Nat.le_of_ble_eq_true h1.1,Nat.le_of_ble_eq_true h1.2⟩,by simp only[eff];rw[hx];exact h2⟩
  ·rename_i hx
   obtain⟨h1,h2⟩:=z81 h
   simp only[Bool.and_eq_true] at h1
   exact⟨by simp only[okp];rw[hx];exact⟨Nat.le_of_ble_eq_true h1.1,Nat.le_of_ble_eq_true h1.2⟩,by simp only[eff];rw[hx];exact h2⟩
  ·cases h
 |alloc id z=>
  simp only[z1s,z0cc] at h
  obtain⟨h1,h2⟩:=z81 h
  simp only[Bool.and_eq_true,Option.isNone_iff_eq_none] at h1
  exact⟨⟨z4Ra h1.1,h1.2⟩,h2⟩
 |box id k t x=>
  simp only[z1s,z6Id] at h
  obtain⟨h1,h2⟩:=z81 h
  simp only[Bool.and_eq_true,Option.isNone_iff_eq_none] at h1
  exact⟨⟨z4Ra h1.1.1,h1.1.2,z74b h1.2⟩,h2⟩
 |extract i x=>
  simp only[z1s,z4nb] at h
  split at h
  ·rename_i hx
   obtain⟨h1,h2⟩:=z81 h
   exact⟨by simp only[okp];rw[hx];exact of_decide_eq_true h1,by simp only[eff];rw[hx];exact h2⟩
  ·cases h
 |field k o x=>
  simp only[z1s,z22b] at h
  split at h
  ·rename_i hx
   obtain⟨h1,h2⟩:=z81 h
   refine⟨by simp only[okp];rw[hx];exact Nat.le_of_ble_eq_true h1,?_⟩
   rw[←h2]
   cases k<;>simp only[eff]<;>rw[hx]
  ·cases h
 |idxA k e n x i=>
  simp only[z1s,z8Lc] at h
  obtain⟨h1,h⟩:=z1rb h
  have h1:=z9Nb h1
  split at h
  ·rename_i hx
   obtain⟨h3,h2⟩:=z81 h
   exact⟨by simp only[okp];rw[hx];exact⟨Nat.le_of_ble_eq_true h3,h1⟩,h2⟩
  ·cases h
 |idxStr x i=>
  simp only[z1s,z9Gb] at h
  obtain⟨h1,h2⟩:=z81 h
  simp only[Bool.and_eq_true] at h1
  exact⟨⟨z6ya h1.1,z9Nb h1.2⟩,h2⟩
 |call f as bs=>exact z9Ib h
 |callv f t as bs=>
  simp only[z1s,z86b] at h
  split at h
  ·rename_i f' x y ht
   obtain⟨hf,h⟩:=z1rb h
   simp only[beq_iff_eq] at hf
   have:=z9Ib h
   refine⟨⟨by rw[ht];exact hf,?_⟩,?_⟩
   ·rw[ht];exact this.1
   ·simp only[eff];rw[ht];exact this.2
  ·cases h
 |callm f t as ws ns=>
  simp only[z1s,z51b] at h
  split at h
  ·have:=z6mb h
   exact⟨⟨trivial,this.1⟩,this.2⟩
  ·split at h
   ·rename_i t f' x y ht
    obtain⟨hf,h⟩:=z1rb h
    simp only[beq_iff_eq] at hf
    have:=z6mb h
    refine⟨⟨by simp only;rw[ht];exact hf,?_⟩,?_⟩
    ·simp only;rw[ht];exact this.1
    ·simp only[eff];rw[ht];exact this.2
   ·cases h
 |callw f t as ws ns=>
  simp only[z1s,z78b] at h
  split at h
  ·have:=z3jb h
   exact⟨⟨trivial,this.1⟩,this.2⟩
  ·split at h
   ·rename_i t f' x y ht
    obtain⟨hf,h⟩:=z1rb h
    simp only[beq_iff_eq] at hf
    have:=z3jb h
    refine⟨⟨by simp only;rw[ht];exact hf,?_⟩,?_⟩
    ·simp only;rw[ht];exact this.1
    ·simp only[eff];rw[ht];exact this.2
   ·cases h
  ·cases h
 |len s x=>
  simp only[z1s,z2Kd] at h
  obtain⟨h1,h2⟩:=z81 h
  refine⟨?_,h2⟩
  cases s
  ·exact z6yc h1
  ·exact z6ya h1
 |append e y s l b x z=>
  simp only[z1s,z1Fb] at h
  obtain⟨h1,h2⟩:=z81 h
  simp only[Bool.and_eq_true] at h1
  exact⟨⟨by have:=h1.1;split at this<;>simp_all,z8mb h1.2⟩,h2⟩
 |appendC e y s l b x z=>
  simp only[z1s,z1mb] at h
  obtain⟨h1,h2⟩:=z81 h
  simp only[Bool.and_eq_true] at h1
  exact⟨⟨by have:=h1.1;split at this<;>simp_all,z8mb h1.2⟩,h2⟩
 |appendB e y s i b x z=>
  simp only[z1s,z5ob] at h
  obtain⟨h1,h2⟩:=z81 h
  simp only[Bool.and_eq_true,decide_eq_true_eq] at h1
  obtain⟨⟨⟨a1,a2⟩,a3⟩,a4⟩:=h1
  refine⟨⟨a1,?_,?_,fun c hc=> ?_⟩,h2⟩
  ·split at a2
   ·rename_i hx
    rw[hx]
    simp only[Bool.and_eq_true,beq_iff_eq] at a2
    obtain⟨⟨⟨⟨b1,b2⟩,b3⟩,b4⟩,b5⟩:=a2
    refine⟨b1,b2,?_,Nat.le_of_ble_eq_true b4,Nat.le_of_ble_eq_true b5⟩
    split at b3
    ·rename_i cs e';exact⟨cs,e',Nat.le_of_ble_eq_true b3⟩
    ·cases b3
   ·cases a2
  ·split at a3
   ·rename_i hs
    rw[if_pos hs]
    simp only[Bool.and_eq_true,beq_iff_eq] at a3
    exact⟨z6ya a3.1,a3.2⟩
   ·rename_i hs
    rw[if_neg hs]
    exact z4Ab a3
  ·have:=z3d a4 c hc
   simp only[Bool.and_eq_true,Bool.not_eq_true'] at this
   exact⟨z8L this.1,this.2⟩
 |min2 x y=>
  simp only[z1s,z0Ud] at h
  obtain⟨h1,h2⟩:=z81 h
  simp only[Bool.and_eq_true] at h1
  exact⟨⟨z2Aa h1.1,z2Aa h1.2⟩,h2⟩
 |max2 x y=>
  simp only[z1s,z0Ud] at h
  obtain⟨h1,h2⟩:=z81 h
  simp only[Bool.and_eq_true] at h1
  exact⟨⟨z2Aa h1.1,z2Aa h1.2⟩,h2⟩
 |buildBx i e n z ps=>
  simp only[z1s,z7mb] at h
  obtain⟨h1,h2⟩:=z81 h
  simp only[Bool.and_eq_true,Option.isNone_iff_eq_none,beq_iff_eq] at h1
  exact⟨⟨z4Ra h1.1.1.1.1,h1.1.1.1.2,h1.1.1.2,z7ta h1.1.2,fun c hc=>by simpa using z3d h1.2 c hc⟩,h2⟩
 |mkfn f x y=>cases h;exact⟨trivial,rfl⟩
 |_=>cases h
end
/-! ### regions, code -/
section
variable (X : XE)
noncomputable def gX (o e:List (Nat×z2a)) (s:Nat):z2a:=match lkX s e with|some d=>d|none=>dem ((lkX s o).getD .undef)
noncomputable def gbX (b:List (Nat×Option (List z2a))) (id:Nat):Option (List z2a):=(lkX id b).join
abbrev z52:=List (Nat×z2a)
abbrev z0Aa:=List (Nat×Option (List z2a))
theorem z17a (o e:z52) (b:z0Aa):ASt.getB ⟨o,e,b⟩=gbX b:=funext fun id=>by simp only[ASt.getB,gbX,z8va]
def z8Uc:z2a→Bool| .lit (.tuple a)=>a.size==0|_=>false
theorem z3uc {v:z2a} (h:z8Uc v=true):v=z4ia:=by
 unfold z8Uc at h
 split at h
 ·simp only[beq_iff_eq] at h;rw[Array.eq_empty_of_size_eq_zero h];rfl
 ·cases h
theorem z9yd {v:z2a} {b:Bool} (h:z6gb v b=true):isB v:=by unfold z6gb at h;split at h;exact trivial;cases h
noncomputable def doX (o:z52) (dst:Option Nat) (op:AOp) (e:z52) (b:z0Aa):Option (z52×z0Aa):=
 match z1s X (gX o e) (gbX b) op with|some f=>some (match dst with|some d=>(d,f.val)::(f.sl++e)|none=>f.sl++e,f.bx++b)|none=>none
noncomputable def z30b (o:z52):z2b→z52→z0Aa→Option (z52×z0Aa)
 |⟨dst,none,op⟩,e,b=>doX X o dst op e b
 |⟨dst,some (s,want),op⟩,e,b=>bif z6gb (gX o e s) want then doX X o dst op e b else bif z5Fd (gX o e s)||z8Uc (gX o e s) then some ((dst.toList.map fun s=>(s,z4ia))++e,b) else none
noncomputable def z5ec (o:z52) (ps:List z2b):z52→z0Aa→Option (z52×z0Aa):=
 List.rec (fun e b=>some (e,b)) (fun p _ ih e b=>match z30b X o p e b with|some (e1,b1)=>ih e1 b1|none=>none) ps
structure z1ha (u kk:List Nat) (o e:z52) (org:z52):Prop where
 nil:∀s,s∉kk→lk org s=none
 same:∀s,s∉u→lk org s=lk o s
 seen:∀s∈u,∃d,lk e s=some d∧dem d=d
 sub:∀s∈u,s∈kk
theorem z1ha.get {u kk:List Nat} {o e org:z52} (h:z1ha u kk o e org) (b:z0Aa):ASt.get ⟨org,e,b⟩=gX o e:=funext fun s=>by
 simp only[ASt.get,gX,z8va]
 cases he:lk e s with
 |some d=>rfl
 |none=>
  have:s∉u:=fun hs=>by obtain⟨d,hd,_⟩:=h.seen s hs;rw[he] at hd;cases hd
  rw[h.same s this]
theorem z1ha.to {u kk:List Nat} {o e e' org:z52} (h:z1ha u kk o e org) (hs:∀s∈u,lk e' s=lk e s):z1ha u kk o e' org:=
 ⟨h.nil,h.same,fun s hu=>by rw[hs s hu];exact h.seen s hu,h.sub⟩
variable {X}
theorem z6Fc {u kk:List Nat} {o e e' org:z52} {b b':z0Aa} {dst:Option Nat} {op:AOp} (h:doX X o dst op e b=some (e',b')) (ha:z1ha u kk o e org):
  okp X.env (ASt.get ⟨org,e,b⟩) (ASt.getB ⟨org,e,b⟩) op∧∃f,eff X.env (ASt.get ⟨org,e,b⟩) (ASt.getB ⟨org,e,b⟩) op=f∧(dst.toList.map fun s=>(s,f.val))++f.sl++e=e'∧f.bx++b=b':=by
 rw[ha.get,z17a]
 unfold doX at h
 split at h
 ·rename_i f hf
  cases h
  obtain⟨h1,h2⟩:=z2tc hf
  exact⟨h1,f,h2,by cases dst<;>rfl,rfl⟩
 ·cases h
theorem z9Bc {u kk:List Nat} {o e e' org:z52} {b b':z0Aa} {p:z2b} (h:z30b X o p e b=some (e',b')) (hw:∀s∈p.W,s∉kk) (ha:z1ha u kk o e org):
  okA X.env p ⟨org,e,b⟩∧z8e X.env p ⟨org,e,b⟩=⟨org,e',b'⟩∧∀s∈u,lk e' s=lk e s:=by
 have hW:∀s∈p.W,lk org s=none:=fun s hs=>ha.nil s (hw s hs)
 have key:okA X.env p ⟨org,e,b⟩∧z8e X.env p ⟨org,e,b⟩=⟨org,e',b'⟩:=by
  obtain⟨dst,gd,op⟩:=p
  cases gd with
  |none=>
   simp only[z30b] at h
   obtain⟨h1,f,h2,h3,h4⟩:=z6Fc h ha
   refine⟨⟨hW,h1⟩,?_⟩
   simp only[z8e,h2,h3,h4]
  |some q=>
   obtain⟨s,want⟩:=q
   simp only[z30b] at h
   have hg:=congrFun (ha.get b) s
   cases hga:z6gb (gX o e s) want with
   |true=>
    rw[hga] at h
    obtain⟨h1,f,h2,h3,h4⟩:=z6Fc h ha
    refine⟨⟨hW,.inl (by rw[hg];exact z9yd hga),fun _=>h1⟩,?_⟩
    simp only[z8e,hg,hga,if_true,h2,h3,h4]
   |false=>
    rw[hga] at h
    obtain⟨hb,h2⟩:=z81 h
    cases h2
    have hb':okG (gX o e s):=by
     simp only[Bool.or_eq_true] at hb
     exact hb.imp z2Eb z3uc
    refine⟨⟨hW,by rw[hg];exact hb',fun h'=>by rw[hg,hga] at h';cases h'⟩,?_⟩
    simp only[z8e,hg,hga,Bool.false_eq_true,if_false]
 refine⟨key.1,key.2,fun s hs=> ?_⟩
 have:=z6Mb (E:=X.env) p ⟨org,e,b⟩ (s:=s) (fun h'=>hw s h' (ha.sub s hs))
 rwa[key.2] at this
theorem z1sb {u kk:List Nat} {o org:z52}:∀{ps:List z2b} {e e':z52} {b b':z0Aa},z5ec X o ps e b=some (e',b')→(∀p∈ps,∀s∈p.W,s∉kk)→z1ha u kk o e org→
  z6V X.env ps ⟨org,e,b⟩∧z1ga X.env ps ⟨org,e,b⟩=⟨org,e',b'⟩∧∀s∈u,lk e' s=lk e s
 |[],e,e',b,b',h,_,_=>by cases h;exact⟨trivial,rfl,fun _ _=>rfl⟩
 |p::ps,e,e',b,b',h,hw,ha=>by
  change(match z30b X o p e b with|some (e1,b1)=>z5ec X o ps e1 b1|none=>none)=_ at h
  split at h
  ·rename_i e1 b1 h1
   obtain⟨k1,k2,k3⟩:=z9Bc h1 (hw p (by simp)) ha
   obtain⟨k4,k5,k6⟩:=z1sb h (fun q hq=>hw q (by simp[hq])) (ha.to k3)
   exact⟨⟨k1,by rw[k2];exact k4⟩,by simp only[z1ga];rw[k2];exact k5,fun s hs=>(k6 s hs).trans (k3 s hs)⟩
  ·cases h
/-! ghosts -/
noncomputable def z9ib (o e:z52) (l:List Nat):z52:=l.map fun s=>(s,gX o e s)
noncomputable def ghX (u:List Nat) (o:z52):z9t→z52→z0Aa→Option (z52×z0Aa)
 | .keep l,e,b=>bif z7x l.contains u then some (z9ib o e l,b) else none
 | .norm ids,e,b=>bif z7x (fun p=>ids.contains p.1) b then some (e,ids.map fun id=>(id,gbX b id)) else none
 | .drop ids,e,b=>bif z7x (fun p=>z7x (fun id=> !ids.contains id) (z5m p.2)) e&&z7x (fun p=>ids.contains p.1||(match p.2 with|some cs=>z7x (fun id=> !ids.contains id) (z9f cs)|none=>true)) b then some (e,b.filter fun p=> !ids.contains p.1) else none
 | .freeze ids,e,b=>bif u.isEmpty&&z7x (fun id=>match gbX b id with|some cs=>z3f cs|none=>false) ids then some ((z1b (.freeze ids) ⟨o,e,b⟩).env,(z1b (.freeze ids) ⟨o,e,b⟩).box) else none
 | .thaw s id,e,b=>bif !u.contains s&&decide (id<400000)&&(gbX b id).isNone&&z7x (fun p=>p.1==s||z1Va p.2) e&&z7x (fun p=>match p.2 with|some cs=>z7x z1Va cs|none=>true) b then
   (match lkX s e with|some (.sl (.own k) _ n cs)=>bif decide (0<n)&&z6b cs then some ((s,.bv id k 0 n n)::e,(id,some cs)::b) else none|_=>none) else none
 | .hideB c i,e,b=>bif decide (c<1000000) then some (e,(z1b (.hideB c i) ⟨o,e,b⟩).box) else none
 | .reB c i k,e,b=>bif decide (c<1000000) then some (e,(z1b (.reB c i k) ⟨o,e,b⟩).box) else none
 |_,_,_=>none
theorem z7Jc {u kk:List Nat} {o org:z52} {g:z9t} {e e':z52} {b b':z0Aa} (h:ghX u o g e b=some (e',b')) (ha:z1ha u kk o e org):
  z7y g ⟨org,e,b⟩∧z1b g ⟨org,e,b⟩=⟨org,e',b'⟩∧∀s∈u,lk e' s=lk e s:=by
 cases g with
 |keep l=>
  simp only[ghX] at h
  obtain⟨h1,h2⟩:=z81 h
  cases h2
  refine⟨trivial,?_,fun s hs=> ?_⟩
  ·simp only[z1b,z32,z9ib,ha.get]
  ·have hl:s∈l:=by simpa using z3d h1 s hs
   obtain⟨d,hd,_⟩:=ha.seen s hs
   rw[z9ib,z4f,if_pos hl,gX,z8va,hd]
 |norm ids=>
  simp only[ghX] at h
  obtain⟨h1,h2⟩:=z81 h
  cases h2
  refine⟨fun p hp=>by simpa using z3d h1 p hp,?_,fun _ _=>rfl⟩
  simp only[z1b,z17a]
 |drop ids=>
  simp only[ghX] at h
  obtain⟨h1,h2⟩:=z81 h
  cases h2
  simp only[Bool.and_eq_true] at h1
  refine⟨⟨fun p hp id hid=>by simpa using z3d (z3d h1.1 p hp) id hid,fun p hp=> ?_⟩,rfl,fun _ _=>rfl⟩
  have:=z3d h1.2 p hp
  simp only[Bool.or_eq_true,List.contains_eq_mem,decide_eq_true_eq] at this
  refine this.imp id fun h3 cs hcs id hid=> ?_
  rw[hcs] at h3
  simpa using z3d h3 id hid
 |freeze ids=>
  simp only[ghX] at h
  obtain⟨h1,h2⟩:=z81 h
  simp only[Bool.and_eq_true,List.isEmpty_iff] at h1
  obtain⟨h0,h1⟩:=h1
  cases h2
  refine⟨fun id hid=> ?_,rfl,fun s hs=>by rw[h0] at hs;cases hs⟩
  rw[z17a]
  have:=z3d h1 id hid
  split at this
  ·rename_i cs ec;exact⟨cs,ec,this⟩
  ·cases this
 |thaw s id=>
  simp only[ghX] at h
  obtain⟨h1,h2⟩:=z1rb h
  simp only[Bool.and_eq_true,Bool.not_eq_true',decide_eq_true_eq,Option.isNone_iff_eq_none] at h1
  obtain⟨⟨⟨⟨a1,a2⟩,a3⟩,a4⟩,a5⟩:=h1
  split at h2
  ·rename_i k nl n cs hl
   obtain⟨h3,h4⟩:=z81 h2
   cases h4
   simp only[Bool.and_eq_true,decide_eq_true_eq] at h3
   rw[z8va] at hl
   have hg:ASt.get ⟨org,e,b⟩ s= .sl (.own k) nl n cs:=by simp only[ASt.get,hl]
   refine⟨⟨a2,by rw[z17a];exact a3,by simp only[hl];exact h3,fun p hp=> ?_,fun p hp cs hcs c hc=> ?_⟩,by simp only[z1b,hg],fun t ht=> ?_⟩
   ·have:=z3d a4 p hp
    simpa using this
   ·have:=z3d a5 p hp
    rw[hcs] at this
    exact z3d this c hc
   ·have:t≠s:=fun he=>by subst he;simp[ht] at a1
    simp only[lk,if_neg this]
  ·cases h2
 |hideB c i=>
  simp only[ghX] at h
  obtain⟨h1,h2⟩:=z81 h
  cases h2
  refine⟨show _<_ from of_decide_eq_true h1,?_,fun _ _=>rfl⟩
  simp only[z1b,ASt.getB]
  split<;>rfl
 |reB c i k=>
  simp only[ghX] at h
  obtain⟨h1,h2⟩:=z81 h
  cases h2
  refine⟨show _<_ from of_decide_eq_true h1,?_,fun _ _=>rfl⟩
  simp only[z1b,ASt.getB]
  split<;>rfl
 |_=>cases h
noncomputable def z91d (u:List Nat) (o:z52):List z9t→z52→z0Aa→Option (z52×z0Aa)
 |[],e,b=>some (e,b)
 |g::gs,e,b=>match ghX u o g e b with|some (e1,b1)=>z91d u o gs e1 b1|none=>none
theorem z53b {u kk:List Nat} {o org:z52}:∀{gs:List z9t} {e e':z52} {b b':z0Aa},z91d u o gs e b=some (e',b')→z1ha u kk o e org→
  z3Wb gs ⟨org,e,b⟩∧z9Ha gs ⟨org,e,b⟩=⟨org,e',b'⟩∧∀s∈u,lk e' s=lk e s
 |[],e,e',b,b',h,_=>by cases h;exact⟨trivial,rfl,fun _ _=>rfl⟩
 |g::gs,e,e',b,b',h,ha=>by
  unfold z91d at h
  split at h
  ·rename_i e1 b1 h1
   obtain⟨k1,k2,k3⟩:=z7Jc h1 ha
   obtain⟨k4,k5,k6⟩:=z53b h (ha.to k3)
   exact⟨⟨k1,by rw[k2];exact k4⟩,by simp only[z9Ha];rw[k2];exact k5,fun s hs=>(k6 s hs).trans (k3 s hs)⟩
  ·cases h
/-! code -/
abbrev z86c:=Option (z7h×z52×z52×z0Aa)
noncomputable def z7uc (f:z52→z52→z0Aa→z86c):Nat→z52→z52→z0Aa→z86c
 |0,_,_,_=>none
 |n+1,o,e,b=>match f o e b with|some (.normal,o1,e1,b1)=>z7uc f n o1 e1 b1|r=>r
noncomputable def z4La (f:List z2a→z0Aa→z86c):List (List z2a)→z0Aa→Option (z7h×z0Aa)
 |[],b=>some (.normal,b)
 |xs::r,b=>match f xs b with|some (.normal,_,_,b1)=>z4La f r b1|some (x,_,_,b1)=>some (x,b1)|none=>none
variable (X)
noncomputable def z2ha (n:Nat):z3a→List Nat→z52→z52→z0Aa→z86c
 | .skip,_,o,e,b=>some (.normal,o,e,b)
 | .region keep gs xs,u,o,e,b=>match z5ec X o xs e b with
  |some (e1,b1)=>bif z7x keep.contains u then(match z91d u o gs (z9ib o e1 keep) b1 with|some (e2,b2)=>some (.normal,o,e2,b2)|none=>none) else none
  |none=>none
 | .seq p q,u,o,e,b=>match z2ha n p u o e b with|some (.normal,o1,e1,b1)=>z2ha n q u o1 e1 b1|r=>r
 | .cond c p q,u,o,e,b=>match arg X.env (gX o e) c with| .lit (.bool true)=>z2ha n p u o e b| .lit (.bool false)=>z2ha n q u o e b|_=>none
 | .block id p,u,o,e,b=>match z2ha n p u o e b with|some (.exit i,o1,e1,b1)=>bif Nat.beq i id then some (.normal,o1,e1,b1) else some (.exit i,o1,e1,b1)|r=>r
 | .loop p,u,o,e,b=>z7uc (z2ha n p u) n o e b
 | .scope p,u,o,e,b=>z2ha n p u o e b
 | .exit id,_,o,e,b=>some (.exit id,o,e,b)
 | .ret,_,o,e,b=>some (.ret,o,e,b)
 | .ghost (.unorg s) c,u,o,e,b=>bif u.contains s then none else z2ha n c u (o.filter fun p=>decide (p.1≠s)) ((s,gX o e s)::e) b
 | .ghost g c,u,o,e,b=>match ghX u o g e b with|some (e1,b1)=>z2ha n c u o e1 b1|none=>none
 | .alt p q,u,o,e,b=>match z2ha n p u o e b with|some r=>some r|none=>z2ha n q u o e b
 | .range f t ks ps as bd,u,o,e,b=>bif z7x ks.contains u&&z7x (fun p=> !ks.contains p) ps then
   (match arg X.env (gX o e) t with
   | .fn f' x y=>bif Nat.beq f' f&&z3f (x++y) then
     (match X.I f x y with
     |some els=>(match z4La (fun xs b=>bif xs.length==ps.length&&z6b xs then(match z2ha n as ks o (ps.zip xs++ks.map fun s=>(s,dem (gX o e s))) b with|some (.normal,o1,e1,b1)=>z2ha n bd ks o1 e1 b1|_=>none) else none) els b with
      |some (x,b1)=>some (x,o,ks.map fun s=>(s,dem (gX o e s)),b1)
      |none=>none)
     |none=>none) else none
   |_=>none) else none
 |_,_,_,_,_=>none
variable {X}
def wrC (kk:List Nat):z3a→Bool
 | .region _ _ xs=>xs.all fun o=>o.W.all fun s=> !kk.contains s
 | .seq a b=>wrC kk a&&wrC kk b
 | .cond _ a b=>wrC kk a&&wrC kk b
 | .block _ b=>wrC kk b
 | .loop b=>wrC kk b
 | .scope b=>wrC kk b
 | .ghost (.unorg s) c=>wrC (kk.filter fun k=>decide (k≠s)) c
 | .ghost _ c=>wrC kk c
 | .alt a b=>wrC kk a&&wrC kk b
 | .range _ _ ks ps as bd=>ps.all (fun p=> !kk.contains p)&&wrC (ks++kk) as&&wrC (ks++kk) bd
 |_=>true
theorem z3yd {kk:List Nat} {keep:List Nat} {gs:List z9t} {xs:List z2b} (h:wrC kk (.region keep gs xs)=true):∀p∈xs,∀s∈p.W,s∉kk:=fun p hp s hs=>by
 simp only[wrC,List.all_eq_true,Bool.not_eq_true',List.contains_eq_mem,decide_eq_false_iff_not] at h
 exact h p hp s hs
def z08d (X:XE) (u kk:List Nat) (o o' e e':z52) (b b':z0Aa) (x:z7h) (c:z3a):Prop:=
 ∀org,z1ha u kk o e org→(∀s∈u,lk e' s=lk e s)∧∃org',z1ha u kk o' e' org'∧(∀s∈u,lk org' s=lk org s)∧∀Q:z7h→ASt→Prop,Q x ⟨org',e',b'⟩→awp X.env c Q ⟨org,e,b⟩
theorem z8v (n:Nat):∀(c:z3a) (u kk:List Nat) (o o' e e':z52) (b b':z0Aa) (x:z7h),z2ha X n c u o e b=some (x,o',e',b')→wrC kk c=true→z08d X u kk o o' e e' b b' x c
 | .skip,u,kk,o,o',e,e',b,b',x,h,_=>by
  unfold z2ha at h
  cases h
  exact fun org ha=>⟨fun _ _=>rfl,org,ha,fun _ _=>rfl,fun Q hq=>hq⟩
 | .region keep gs xs,u,kk,o,o',e,e',b,b',x,h,hw=>by
  intro org ha
  unfold z2ha at h
  split at h
  ·rename_i e1 b1 h1
   obtain⟨hk,h⟩:=z1rb h
   obtain⟨k1,k2,k3⟩:=z1sb h1 (z3yd hw) ha
   have ha1:=ha.to k3
   have k7:∀s∈u,lk (z9ib o e1 keep) s=lk e1 s:=fun s hs=>by
    have hl:s∈keep:=by simpa using z3d hk s hs
    obtain⟨d,hd,_⟩:=ha1.seen s hs
    rw[z9ib,z4f,if_pos hl,gX,z8va,hd]
   split at h
   ·rename_i e2 b2 h2
    cases h
    obtain⟨k4,k5,k6⟩:=z53b h2 (ha1.to k7)
    have hr:z32 keep ⟨org,e1,b1⟩=⟨org,z9ib o e1 keep,b1⟩:=by simp only[z32,z9ib,ha1.get]
    have hu:∀s∈u,lk e' s=lk e s:=fun s hs=>(k6 s hs).trans ((k7 s hs).trans (k3 s hs))
    refine⟨hu,org,ha.to hu,fun _ _=>rfl,fun Q hq=> ?_⟩
    simp only[awp]
    rw[k2,hr,k5]
    exact⟨k1,k4,hq⟩
   ·cases h
  ·cases h
 | .seq p q,u,kk,o,o',e,e',b,b',x,h,hw=>by
  intro org ha
  simp only[wrC,Bool.and_eq_true] at hw
  unfold z2ha at h
  split at h
  ·rename_i o1 e1 b1 h1
   obtain⟨k1,org1,a1,l1,k2⟩:=z8v n p u kk o o1 e e1 b b1 _ h1 hw.1 org ha
   obtain⟨k3,org2,a2,l2,k4⟩:=z8v n q u kk o1 o' e1 e' b1 b' x h hw.2 org1 a1
   exact⟨fun s hs=>(k3 s hs).trans (k1 s hs),org2,a2,fun s hs=>(l2 s hs).trans (l1 s hs),fun Q hq=>k2 _ (k4 Q hq)⟩
  ·rename_i hn
   obtain⟨k1,org1,a1,l1,k2⟩:=z8v n p u kk o o' e e' b b' x h hw.1 org ha
   refine⟨k1,org1,a1,l1,fun Q hq=>k2 _ ?_⟩
   cases x with
   |normal=>exact(hn _ _ _ h).elim
   |_=>exact hq
 | .cond c p q,u,kk,o,o',e,e',b,b',x,h,hw=>by
  intro org ha
  simp only[wrC,Bool.and_eq_true] at hw
  unfold z2ha at h
  split at h
  ·rename_i hc
   obtain⟨k1,org1,a1,l1,k2⟩:=z8v n p u kk o o' e e' b b' x h hw.1 org ha
   refine⟨k1,org1,a1,l1,fun Q hq=> ?_⟩
   simp only[awp]
   rw[ha.get,hc]
   exact⟨trivial,fun _=>k2 Q hq,fun h'=>by cases h'⟩
  ·rename_i hc
   obtain⟨k1,org1,a1,l1,k2⟩:=z8v n q u kk o o' e e' b b' x h hw.2 org ha
   refine⟨k1,org1,a1,l1,fun Q hq=> ?_⟩
   simp only[awp]
   rw[ha.get,hc]
   exact⟨trivial,fun h'=>(by cases h'),fun _=>k2 Q hq⟩
  ·cases h
 | .block id p,u,kk,o,o',e,e',b,b',x,h,hw=>by
  intro org ha
  unfold z2ha at h
  split at h
  ·rename_i i o1 e1 b1 h1
   obtain⟨k1,org1,a1,l1,k2⟩:=z8v n p u kk o o1 e e1 b b1 _ h1 hw org ha
   cases hi:Nat.beq i id with
   |true=>
    rw[hi] at h
    cases h
    exact⟨k1,org1,a1,l1,fun Q hq=>k2 _ (by simp only[z1Na,if_pos (Nat.eq_of_beq_eq_true hi)];exact hq)⟩
   |false=>
    rw[hi] at h
    cases h
    exact⟨k1,org1,a1,l1,fun Q hq=>k2 _ (by simp only[z1Na];rw[if_neg (fun he=>by rw[he,Nat.beq_refl] at hi;cases hi)];exact hq)⟩
  ·rename_i hn
   obtain⟨k1,org1,a1,l1,k2⟩:=z8v n p u kk o o' e e' b b' x h hw org ha
   refine⟨k1,org1,a1,l1,fun Q hq=>k2 _ ?_⟩
   cases x with
   |exit i=>exact(hn _ _ _ _ h).elim
   |_=>exact hq
 | .loop p,u,kk,o,o',e,e',b,b',x,h,hw=>by
  intro org ha
  unfold z2ha at h
  have key:∀(m:Nat) (o e:z52) (b:z0Aa) (org:z52),z7uc (z2ha X n p u) m o e b=some (x,o',e',b')→z1ha u kk o e org→
    (∀s∈u,lk e' s=lk e s)∧∃org',z1ha u kk o' e' org'∧(∀s∈u,lk org' s=lk org s)∧∃St:Nat→ASt→Prop,St m ⟨org,e,b⟩∧
     ∀k st,St k st→(∃st1 k1,k1<k∧St k1 st1∧∀Q:z7h→ASt→Prop,Q .normal st1→awp X.env p Q st)∨(x≠ .normal∧∀Q:z7h→ASt→Prop,Q x ⟨org',e',b'⟩→awp X.env p Q st):=by
   intro m
   induction m with
   |zero=>intro o e b org h _;cases h
   |succ m ih=>
    intro o e b org h ha
    unfold z7uc at h
    split at h
    ·rename_i o1 e1 b1 h1
     obtain⟨k1,org1,a1,l1,k2⟩:=z8v n p u kk o o1 e e1 b b1 _ h1 hw org ha
     obtain⟨k3,org2,a2,l2,St,i1,i2⟩:=ih o1 e1 b1 org1 h a1
     refine⟨fun s hs=>(k3 s hs).trans (k1 s hs),org2,a2,fun s hs=>(l2 s hs).trans (l1 s hs),fun k st=>(k=m+1∧st=⟨org,e,b⟩)∨(k≤m∧St k st),.inl ⟨rfl,rfl⟩,fun k st hk=> ?_⟩
     rcases hk with⟨rfl,rfl⟩|⟨hk,hi⟩
     ·exact .inl ⟨_,m,Nat.lt_succ_self m,.inr ⟨Nat.le_refl m,i1⟩,k2⟩
     ·rcases i2 k st hi with⟨st1,k1,h3,h4,h5⟩|h6
      ·exact .inl ⟨st1,k1,h3,.inr ⟨by omega,h4⟩,h5⟩
      ·exact .inr h6
    ·rename_i hn
     obtain⟨k1,org1,a1,l1,k2⟩:=z8v n p u kk o o' e e' b b' x h hw org ha
     refine⟨k1,org1,a1,l1,fun k st=>st=⟨org,e,b⟩,rfl,fun k st hk=> ?_⟩
     subst hk
     refine .inr ⟨fun hx=> ?_,k2⟩
     subst hx
     exact hn _ _ _ h
  obtain⟨k1,org1,a1,l1,St,i1,i2⟩:=key n o e b org h ha
  refine⟨k1,org1,a1,l1,fun Q hq=>⟨St,⟨n,i1⟩,fun k st hk=> ?_⟩⟩
  rcases i2 k st hk with⟨st1,k1,h3,h4,h5⟩|⟨hx,h6⟩
  ·exact h5 _ ⟨k1,h3,h4⟩
  ·refine h6 _ ?_
   cases x with
   |normal=>exact(hx rfl).elim
   |_=>exact hq
 | .scope p,u,kk,o,o',e,e',b,b',x,h,hw=>fun org ha=>by
  unfold z2ha at h
  obtain⟨k1,org1,a1,l1,k2⟩:=z8v n p u kk o o' e e' b b' x h hw org ha
  exact⟨k1,org1,a1,l1,fun Q hq=>k2 Q hq⟩
 | .exit id,u,kk,o,o',e,e',b,b',x,h,_=>by
  unfold z2ha at h
  cases h
  exact fun org ha=>⟨fun _ _=>rfl,org,ha,fun _ _=>rfl,fun Q hq=>hq⟩
 | .ret,u,kk,o,o',e,e',b,b',x,h,_=>by
  unfold z2ha at h
  cases h
  exact fun org ha=>⟨fun _ _=>rfl,org,ha,fun _ _=>rfl,fun Q hq=>hq⟩
 | .ghost g c,u,kk,o,o',e,e',b,b',x,h,hw=>by
  intro org ha
  by_cases hg:∃s,g= .unorg s
  ·obtain⟨s,rfl⟩:=hg
   unfold z2ha at h
   unfold wrC at hw
   cases hus:u.contains s with
   |true=>rw[hus] at h;cases h
   |false=>
    rw[hus] at h
    have hsu:s∉u:=by simpa using hus
    have hA:z1ha u (kk.filter fun k=>decide (k≠s)) (o.filter fun p=>decide (p.1≠s)) ((s,gX o e s)::e) (org.filter fun p=>decide (p.1≠s)):=by
     refine⟨fun t ht=> ?_,fun t ht=> ?_,fun t ht=> ?_,fun t ht=> ?_⟩
     ·rw[z4n (fun k=>decide (k≠s))]
      split
      ·rename_i hts
       simp only[decide_eq_true_eq] at hts
       refine ha.nil t fun hk=>ht ?_
       simp only[List.mem_filter,decide_eq_true_eq]
       exact⟨hk,hts⟩
      ·rfl
     ·rw[z4n (fun k=>decide (k≠s)),z4n (fun k=>decide (k≠s)),ha.same t ht]
     ·obtain⟨d,hd,hdd⟩:=ha.seen t ht
      have:t≠s:=fun he=>hsu (he▸ht)
      exact⟨d,by simp only[lk,if_neg this,hd],hdd⟩
     ·simp only[List.mem_filter,decide_eq_true_eq]
      exact⟨ha.sub t ht,fun he=>hsu (he▸ht)⟩
    obtain⟨k1,org1,a1,l1,k2⟩:=z8v n c u _ _ o' _ e' b b' x h hw _ hA
    refine⟨fun t ht=> ?_,org1,⟨fun t ht=>a1.nil t fun hk=>ht (List.mem_filter.1 hk).1,a1.same,a1.seen,ha.sub⟩,fun t ht=> ?_,fun Q hq=>⟨trivial,?_⟩⟩
    ·have:t≠s:=fun he=>hsu (he▸ht)
     rw[k1 t ht]
     simp only[lk,if_neg this]
    ·have:t≠s:=fun he=>hsu (he▸ht)
     rw[l1 t ht,z4n (fun k=>decide (k≠s)),if_pos (by simpa using this)]
    ·have hr:z1b (.unorg s) ⟨org,e,b⟩=⟨org.filter fun p=>decide (p.1≠s),(s,gX o e s)::e,b⟩:=by simp only[z1b,ha.get]
     rw[hr]
     exact k2 Q hq
  ·have h:(match ghX u o g e b with|some (e1,b1)=>z2ha X n c u o e1 b1|none=>none)=some (x,o',e',b'):=by
    cases g with
    |unorg s=>exact(hg ⟨s,rfl⟩).elim
    |_=>exact h
   have hw:wrC kk c=true:=by
    cases g with
    |unorg s=>exact(hg ⟨s,rfl⟩).elim
    |_=>exact hw
   split at h
   ·rename_i e1 b1 h1
    obtain⟨k1,k2,k3⟩:=z7Jc h1 ha
    obtain⟨k4,org1,a1,l1,k5⟩:=z8v n c u kk o o' e1 e' b1 b' x h hw org (ha.to k3)
    exact⟨fun s hs=>(k4 s hs).trans (k3 s hs),org1,a1,l1,fun Q hq=>⟨k1,by rw[k2];exact k5 Q hq⟩⟩
   ·cases h
 | .alt p q,u,kk,o,o',e,e',b,b',x,h,hw=>by
  intro org ha
  simp only[wrC,Bool.and_eq_true] at hw
  unfold z2ha at h
  split at h
  ·rename_i r h1
   cases h
   obtain⟨k1,org1,a1,l1,k2⟩:=z8v n p u kk o o' e e' b b' x h1 hw.1 org ha
   exact⟨k1,org1,a1,l1,fun Q hq=> .inl (k2 Q hq)⟩
  ·obtain⟨k1,org1,a1,l1,k2⟩:=z8v n q u kk o o' e e' b b' x h hw.2 org ha
   exact⟨k1,org1,a1,l1,fun Q hq=> .inr (k2 Q hq)⟩
 | .range f t ks ps as bd,u,kk,o,o',e,e',b,b',x,h,hw=>by
  intro org ha
  simp only[wrC,Bool.and_eq_true,List.all_eq_true,Bool.not_eq_true',List.contains_eq_mem,decide_eq_false_iff_not] at hw
  obtain⟨⟨w1,w2⟩,w3⟩:=hw
  unfold z2ha at h
  obtain⟨h0,h⟩:=z1rb h
  simp only[Bool.and_eq_true] at h0
  have hu:∀s∈u,s∈ks:=fun s hs=>by simpa using z3d h0.1 s hs
  have hp:∀p∈ps,p∉ks:=fun p hp=>by simpa using z3d h0.2 p hp
  split at h
  ·rename_i f' xc yc ht
   obtain⟨h1,h⟩:=z1rb h
   simp only[Bool.and_eq_true] at h1
   have hf:=Nat.eq_of_beq_eq_true h1.1
   subst hf
   split at h
   ·rename_i els hels
    split at h
    ·rename_i x1 b1 hr
     cases h
     have hre:z8r ⟨org,e,b⟩ ks=ks.map fun s=>(s,dem (gX o e s)):=by simp only[z8r,ha.get]
     have hlk:∀s,s∈ks→lk (ks.map fun s=>(s,dem (gX o e s))) s=some (dem (gX o e s)):=fun s hs=>by
      have:=z4f (fun s=>dem (gX o e s)) s ks
      rwa[if_pos hs] at this
     have hue:∀s∈u,lk (ks.map fun s=>(s,dem (gX o e s))) s=lk e s:=fun s hs=>by
      obtain⟨d,hd,hdd⟩:=ha.seen s hs
      rw[hlk s (hu s hs),hd]
      simp only[gX,z8va,hd,hdd]
     refine⟨hue,org,ha.to hue,fun _ _=>rfl,fun Q hq=> ?_⟩
     have hlv:(X.env.I f').lv=[]:=rfl
     have hpre:(X.env.I f').pre xc yc:=by show(X.I f' xc yc).isSome=true;rw[hels];rfl
     have hel:∀i,(X.env.I f').el xc yc i=els[i]? :=fun i=>by show((X.I f' xc yc).getD [])[i]? =_;rw[hels];rfl
     simp only[awp]
     refine⟨xc,yc,by rw[ha.get];exact ht,?_,?_,fun p hpp=>⟨hp p hpp,ha.nil p (w1 p hpp)⟩,?_⟩
     ·rw[hlv,z9tb];exact h1.2
     ·rw[hlv,z12a];exact hpre
     rw[hlv]
     simp only[z5Aa,z4gc,z12a,z9sb,hel]
     obtain⟨step,hstep⟩:∃step:List z2a→z0Aa→z86c,step=fun xs b=>bif xs.length==ps.length&&z6b xs then(match z2ha X n as ks o (ps.zip xs++ks.map fun s=>(s,dem (gX o e s))) b with|some (.normal,o1,e1,b1)=>z2ha X n bd ks o1 e1 b1|_=>none) else none:=⟨_,rfl⟩
     rw[←hstep] at hr
     refine⟨els.length,fun i bx=>i≤els.length∧z4La step (els.drop i) bx=some (x,b'),⟨Nat.zero_le _,hr⟩,fun i bx hi=>hi.1,fun i bx hi hnone=> ?_,fun i bx xs hi hsome=> ?_⟩
     ·rw[z9pa,hre]
      have hge:els.length≤i:=List.getElem?_eq_none_iff.1 hnone
      have h2:=hi.2
      rw[List.drop_eq_nil_of_le hge] at h2
      cases h2
      exact hq
     ·have hlt:i<els.length:=(List.getElem?_eq_some_iff.1 hsome).1
      have h2:=hi.2
      rw[List.drop_eq_getElem_cons hlt,show els[i]=xs from(List.getElem?_eq_some_iff.1 hsome).2] at h2
      unfold z4La at h2
      have hround:∀(x2:z7h) (o2 e2:z52) (b2:z0Aa),step xs bx=some (x2,o2,e2,b2)→((x2= .normal∧i+1≤els.length∧z4La step (els.drop (i+1)) b2=some (x,b'))∨(x2≠ .normal∧x2=x∧b2=b'))→
        xs.length=ps.length∧z6b xs=true∧∀V:Nat→Value,awp X.env as (z4va (awp X.env bd (z9Eb ⟨org,e,b⟩ ks V (fun bx=>i+1≤els.length∧z4La step (els.drop (i+1)) bx=some (x,b')) (fun e1 s=>z4pb ⟨org,e,b⟩ ks [] Q e1 s.box))) (fun _ _=>False)) (z0ya ⟨org,e,b⟩ ks ps V xs bx):=by
       intro x2 o2 e2 b2 hrun hcase
       rw[hstep] at hrun
       obtain⟨hl,hrun⟩:=z1rb hrun
       simp only[Bool.and_eq_true,beq_iff_eq] at hl
       refine⟨hl.1,hl.2,fun V=> ?_⟩
       split at hrun
       ·rename_i o1 e1 b1 has
        have hzip:∀s,s∉ps→lk (ps.zip xs) s=none:=fun s hs=>z0ha fun p hp he=>by
         have:=(List.of_mem_zip (a:=p.1) (b:=p.2) hp).1
         exact hs (he▸this)
        have hA:z1ha ks (ks++kk) o (ps.zip xs++ks.map fun s=>(s,dem (gX o e s))) ((ks.map fun s=>(s,z2a.lit (V s)))++org):=by
         refine⟨fun s hs=> ?_,fun s hs=> ?_,fun s hs=> ?_,fun s hs=>List.mem_append_left _ hs⟩
         ·rw[List.mem_append,not_or] at hs
          rw[z8g,z4f (fun s=>z2a.lit (V s)),if_neg hs.1,ha.nil s hs.2]
          rfl
         ·rw[z8g,z4f (fun s=>z2a.lit (V s)),if_neg hs]
          exact ha.same s (fun h=>hs (hu s h))
         ·exact⟨dem (gX o e s),by rw[z8g,hzip s (fun h=>hp s h hs),hlk s hs];rfl,z7Ta _⟩
        obtain⟨k1,org1,a1,l1,k2⟩:=z8v n as ks (ks++kk) o o1 _ e1 bx b1 _ has w2 _ hA
        obtain⟨k3,org2,a2,l2,k4⟩:=z8v n bd ks (ks++kk) o1 o2 e1 e2 b1 b2 _ hrun w3 _ a1
        have hst:z0ya ⟨org,e,b⟩ ks ps V xs bx=⟨(ks.map fun s=>(s,z2a.lit (V s)))++org,ps.zip xs++ks.map fun s=>(s,dem (gX o e s)),bx⟩:=by simp only[z0ya,hre]
        rw[hst]
        refine k2 _ (k4 _ ?_)
        have hend:z0Ea ⟨org,e,b⟩ ks V ⟨org2,e2,b2⟩:=fun s hs=>by
         have h5:lk e2 s=some (dem (gX o e s)):=by
          rw[k3 s hs,k1 s hs,z8g,hzip s (fun h=>hp s h hs),hlk s hs];rfl
         refine⟨?_,?_⟩
         ·simp only[ASt.get,h5]
          have:=congrFun (ha.get b) s
          simp only[ASt.get] at this
          rw[this]
         ·rw[l2 s hs,l1 s hs,z8g,z4f (fun s=>z2a.lit (V s)),if_pos hs]
          rfl
        rcases hcase with⟨hx,hj⟩|⟨hx,hx2,hb2⟩
        ·subst hx
         exact⟨hend,hj⟩
        ·subst hx2
         subst hb2
         have:z0Ea ⟨org,e,b⟩ ks V ⟨org2,e2,b2⟩∧z4pb ⟨org,e,b⟩ ks [] Q x2 b2:=⟨hend,by rw[z9pa,hre];exact hq⟩
         cases x2 with
         |normal=>exact(hx rfl).elim
         |_=>exact this
       ·cases hrun
      split at h2
      ·rename_i o2 e2 b2 h3
       exact hround _ _ _ _ h3 (.inl ⟨rfl,hlt,h2⟩)
      ·rename_i x2 o2 e2 b2 hn h3
       cases h2
       exact hround _ _ _ _ h3 (.inr ⟨fun hx=>hn hx,rfl,rfl⟩)
      ·cases h2
    ·cases h
   ·cases h
  ·cases h
 | .bad,_,_,_,_,_,_,_,_,_,h,_=>by unfold z2ha at h;cases h
 | .thawc _ _ _ _,_,_,_,_,_,_,_,_,_,h,_=>by unfold z2ha at h;cases h
 | .holdc _ _ _,_,_,_,_,_,_,_,_,_,h,_=>by unfold z2ha at h;cases h
end
/-! ### functions -/
section
variable (X : XE)
def z32a (o e:z52) (b:z0Aa):z4Fa→Bool
 | .cell s k id=>z5Kb (ASt.getB ⟨o,e,b⟩) (some id) (k.getD 1) (ASt.get ⟨o,e,b⟩ s)
 |_=>true
noncomputable def outX (F:z6e):z86c→Option z2a
 |some (.exit _,_)=>none
 |some (_,o,e,b)=>bif z7x (z32a o e b) F.res&&z8d (z4Nb ⟨o,e,b⟩ F.res) then some (z4Nb ⟨o,e,b⟩ F.res) else none
 |none=>none
def kkF (F:z6e):List Nat:=(List.range F.n).filter fun s=> !F.wr.contains s
noncomputable def z2cb (F:z6e) (n:Nat) (ds:List z2a):Option z2a:=bif Nat.beq ds.length F.n&&wrC (kkF F) F.body then outX F (z2ha X n F.body [] (z3b F.wr ds).org (z3b F.wr ds).env []) else none
noncomputable def z7fe (F:z6e) (n:Nat):z5a:=⟨fun ds=>(z2cb X F n ds).isSome=true,fun ds=>(z2cb X F n ds).getD .undef⟩
variable {X}
theorem z1Ua {o e:z52} {b:z0Aa} {r:z4Fa} (h:z32a o e b r=true):z3Fa ⟨o,e,b⟩ r:=by
 unfold z32a at h
 split at h
 ·exact z0nb h
 ·cases r<;>first|trivial|simp_all
theorem z0X {st st':ASt} (hg:st.get=st'.get) (hb:st.getB=st'.getB) (r:z4Fa):z24a st r=z24a st' r∧z3Fa st r=z3Fa st' r:=by
 cases r<;>simp only[z24a,z3Fa,hg,hb,and_self]
theorem z1ya {st st':ASt} (hg:st.get=st'.get) (hb:st.getB=st'.getB) (rs:List z4Fa):z7U st rs=z7U st' rs:=by
 have h:rs.map (z24a st)=rs.map (z24a st'):=List.map_congr_left fun r _=>(z0X hg hb r).1
 unfold z7U
 split
 ·rw[hg]
 ·exact(z0X hg hb _).1
 ·rw[h]
theorem z8Ub {st st':ASt} (hg:st.get=st'.get) (hb:st.getB=st'.getB) (rs:List z4Fa):z4Nb st rs=z4Nb st' rs:=by
 have h:∀rs:List z4Fa,rs.map (z24a st)=rs.map (z24a st'):=fun rs=>List.map_congr_left fun r _=>(z0X hg hb r).1
 unfold z4Nb
 split
 ·rw[hg,h]
 ·exact z1ya hg hb _
theorem z9fc (F:z6e) (n:Nat):∀ds,(z7fe X F n).pre ds→ds.length=F.n∧awp X.env F.body (z0m F.res ((z7fe X F n).post ds)) (z3b F.wr ds):=fun ds h=>by
 simp only[z7fe] at h⊢
 cases hf:z2cb X F n ds with
 |none=>rw[hf] at h;cases h
 |some v=>
  unfold z2cb at hf
  obtain⟨h0,hf⟩:=z1rb hf
  simp only[Bool.and_eq_true] at h0
  have hl:=Nat.eq_of_beq_eq_true h0.1
  refine⟨hl,?_⟩
  cases hr:z2ha X n F.body [] (z3b F.wr ds).org (z3b F.wr ds).env [] with
  |none=>rw[hr] at hf;cases hf
  |some r=>
   obtain⟨x,o,e,b⟩:=r
   rw[hr] at hf
   have hA:z1ha [] (kkF F) (z3b F.wr ds).org (z3b F.wr ds).env (z3b F.wr ds).org:=⟨fun s hs=>by
    rw[z3cb]
    by_cases hw:s∈F.wr
    ·rw[if_pos hw]
    ·rw[if_neg hw,List.getElem?_eq_none_iff,hl]
     simp only[kkF,List.mem_filter,List.mem_range,Bool.not_eq_true',List.contains_eq_mem,decide_eq_false_iff_not,not_and,Decidable.not_not] at hs
     exact Nat.le_of_not_lt fun hlt=>hw (hs hlt),fun _ _=>rfl,fun s hs=>(by cases hs),fun s hs=>(by cases hs)⟩
   obtain⟨_,org1,a1,_,k2⟩:=z8v n F.body [] (kkF F) _ o _ e [] b x hr h0.2 _ hA
   refine k2 _ ?_
   have hg:ASt.get ⟨org1,e,b⟩=ASt.get ⟨o,e,b⟩:=(a1.get b).trans (funext fun s=>by simp only[ASt.get,gX,z8va];rfl)
   have fin:(bif z7x (z32a o e b) F.res&&z8d (z4Nb ⟨o,e,b⟩ F.res) then some (z4Nb ⟨o,e,b⟩ F.res) else none)=some v→(∀r∈F.res,z3Fa ⟨org1,e,b⟩ r)∧z4Nb ⟨org1,e,b⟩ F.res=v∧z8d v=true:=fun h=>by
    obtain⟨h1,h2⟩:=z81 h
    simp only[Bool.and_eq_true] at h1
    exact⟨fun r hr=>by rw[(z0X hg rfl r).2];exact z1Ua (z3d h1.1 r hr),by rw[z8Ub hg rfl];exact h2,by rw[←h2];exact h1.2⟩
   cases x with
   |exit _=>cases hf
   |normal=>exact fin hf
   |ret=>exact fin hf
/-! .. that write through boxes -/
variable (X)
noncomputable def z4Od (F:z6e) (bx:List Nat):z86c→Option (z2a×(Nat→List z2a))
 |some (.exit _,_)=>none
 |some (_,o,e,b)=>bif z7x (z32a o e b) F.res&&z7x (fun j=>(gbX b j).isSome&&z7x bx.contains (z9f ((gbX b j).getD []))) bx&&z7x bx.contains (z5m (z7U ⟨o,e,b⟩ F.res)) then some (z7U ⟨o,e,b⟩ F.res,fun j=>(gbX b j).getD []) else none
 |none=>none
noncomputable def z2va (F:z6e) (n:Nat) (bx nb:List Nat):XM:=⟨bx,nb,fun ds=>bif Nat.beq ds.length F.n&&z7x (fun j=>decide (j<F.n)) bx&&wrC bx F.body then z4Od F (bx++nb) (z2ha X n F.body bx [] (z0gc bx 0 ds) (bx.map fun j=>(j,some (z4L (ds.getD j .undef))))) else none⟩
noncomputable def z6Ga (F:z6e) (n:Nat) (bx nb:List Nat):CM:=⟨bx,nb,fun ds=>((z2va X F n bx nb).run ds).isSome=true,fun ds=>(((z2va X F n bx nb).run ds).getD (.undef,fun _=>[])).1,fun ds=>(((z2va X F n bx nb).run ds).getD (.undef,fun _=>[])).2⟩
variable {X}
theorem z6pc (F:z6e) (n:Nat) (bx nb:List Nat):∀ds p,(z6Ga X F n bx nb).pre ds→ds.length=F.n∧awp X.env F.body (z2Nc F.res (z6Ga X F n bx nb) p ds) (z34a (z6Ga X F n bx nb).bx p ds):=fun ds p h=>by
 have h:=h
 simp only[z6Ga] at h
 cases hf:(z2va X F n bx nb).run ds with
 |none=>rw[hf] at h;cases h
 |some v=>
  have hpost:(z6Ga X F n bx nb).post ds=v.1:=by simp only[z6Ga,hf];rfl
  have hout:(z6Ga X F n bx nb).out ds=v.2:=by simp only[z6Ga,hf];rfl
  simp only[z2va] at hf
  obtain⟨h0,hf⟩:=z1rb hf
  simp only[Bool.and_eq_true] at h0
  have hl:=Nat.eq_of_beq_eq_true h0.1.1
  have hlt:∀j∈bx,j<F.n:=fun j hj=>of_decide_eq_true (z3d h0.1.2 j hj)
  refine⟨hl,?_⟩
  cases hr:z2ha X n F.body bx [] (z0gc bx 0 ds) (bx.map fun j=>(j,some (z4L (ds.getD j .undef)))) with
  |none=>rw[hr] at hf;cases hf
  |some r=>
   obtain⟨x,o,e,b⟩:=r
   rw[hr] at hf
   have henv:∀j∈bx,lk (z0gc bx 0 ds) j=some (.bp j 0):=fun j hj=>by
    rw[z1zb,if_pos (Nat.zero_le j),Nat.sub_zero,List.getElem?_eq_getElem (by rw[hl];exact hlt j hj)]
    simp[hj]
   have hA:z1ha bx bx [] (z0gc bx 0 ds) (bx.map fun j=>(j,z2a.lit (p j))):=⟨fun s hs=>by rw[z4f (fun j=>z2a.lit (p j)),if_neg hs],fun s hs=>by rw[z4f (fun j=>z2a.lit (p j)),if_neg hs];rfl,fun s hs=>⟨_,henv s hs,rfl⟩,fun s hs=>hs⟩
   obtain⟨k1,org1,a1,l1,k2⟩:=z8v n F.body bx bx [] o _ e _ b x hr h0.2 _ hA
   refine k2 _ ?_
   have hg:ASt.get ⟨org1,e,b⟩=ASt.get ⟨o,e,b⟩:=(a1.get b).trans (funext fun s=>by simp only[ASt.get,gX,z8va];rfl)
   have hb:ASt.getB ⟨org1,e,b⟩=ASt.getB ⟨o,e,b⟩:=rfl
   have fin:(bif z7x (z32a o e b) F.res&&z7x (fun j=>(gbX b j).isSome&&z7x (bx++nb).contains (z9f ((gbX b j).getD []))) (bx++nb)&&z7x (bx++nb).contains (z5m (z7U ⟨o,e,b⟩ F.res)) then some (z7U ⟨o,e,b⟩ F.res,fun j=>(gbX b j).getD []) else none)=some v→
     (∀r∈F.res,z3Fa ⟨org1,e,b⟩ r)∧z7U ⟨org1,e,b⟩ F.res=(z6Ga X F n bx nb).post ds∧(∀j∈bx,lk org1 j=some (.lit (p j))∧ASt.get ⟨org1,e,b⟩ j= .bp j 0)∧
     (∀j∈bx++nb,ASt.getB ⟨org1,e,b⟩ j=some ((z6Ga X F n bx nb).out ds j))∧(∀id∈z5m ((z6Ga X F n bx nb).post ds),id∈bx++nb)∧(∀j∈bx++nb,∀id∈z9f ((z6Ga X F n bx nb).out ds j),id∈bx++nb):=fun h=>by
    obtain⟨h1,h2⟩:=z81 h
    simp only[Bool.and_eq_true] at h1
    obtain⟨⟨a1,a2⟩,a3⟩:=h1
    rw[hpost,hout,←h2]
    refine⟨fun r hr=> ?_,z1ya hg hb _,fun j hj=>⟨by rw[l1 j hj,z4f (fun j=>z2a.lit (p j)),if_pos hj],by rw[hg];simp only[ASt.get,k1 j hj,henv j hj]⟩,fun j hj=> ?_,fun id hid=>List.contains_iff_mem.1 (z3d a3 id hid),fun j hj id hid=> ?_⟩
    ·rw[(z0X hg hb r).2];exact z1Ua (z3d a1 r hr)
    ·have:=z3d a2 j hj
     simp only[Bool.and_eq_true,Option.isSome_iff_exists] at this
     obtain⟨⟨cs,hcs⟩,_⟩:=this
     rw[z17a]
     simp only[hcs,Option.getD_some]
    ·have:=z3d a2 j hj
     simp only[Bool.and_eq_true] at this
     exact List.contains_iff_mem.1 (z3d this.2 id hid)
   cases x with
   |exit _=>cases hf
   |normal=>exact fin hf
   |ret=>exact fin hf
/-! .. that are handed values which name boxes -/
variable (X)
noncomputable def z8rb (F:z6e) (n:Nat) (hold bx:List Nat):XW:=⟨hold,bx,fun ds bs=>bif Nat.beq ds.length F.n&&z7x (fun j=>decide (j<F.n)) hold&&wrC hold F.body then z4Od F bx (z2ha X n F.body hold [] (z2ic 0 ds) (bx.map fun j=>(j,some (bs j)))) else none⟩
noncomputable def z9Ja (F:z6e) (n:Nat) (hold bx:List Nat):CW:=⟨hold,bx,[],fun ds bs=>((z8rb X F n hold bx).run ds bs).isSome=true,fun ds bs=>(((z8rb X F n hold bx).run ds bs).getD (.undef,fun _=>[])).1,fun ds bs=>(((z8rb X F n hold bx).run ds bs).getD (.undef,fun _=>[])).2⟩
variable {X}
theorem z5Bc (F:z6e) (n:Nat) (hold bx:List Nat):∀ds bs p,(z9Ja X F n hold bx).pre ds bs→ds.length=F.n∧awp X.env F.body (z2Sd F.res (z9Ja X F n hold bx) p ds bs) (z6vb (z9Ja X F n hold bx) p ds bs):=fun ds bs p h=>by
 have h:=h
 simp only[z9Ja] at h
 cases hf:(z8rb X F n hold bx).run ds bs with
 |none=>rw[hf] at h;cases h
 |some v=>
  have hpost:(z9Ja X F n hold bx).post ds bs=v.1:=by simp only[z9Ja,hf];rfl
  have hout:(z9Ja X F n hold bx).out ds bs=v.2:=by simp only[z9Ja,hf];rfl
  simp only[z8rb] at hf
  obtain⟨h0,hf⟩:=z1rb hf
  simp only[Bool.and_eq_true] at h0
  have hl:=Nat.eq_of_beq_eq_true h0.1.1
  have hlt:∀j∈hold,j<F.n:=fun j hj=>of_decide_eq_true (z3d h0.1.2 j hj)
  refine⟨hl,?_⟩
  cases hr:z2ha X n F.body hold [] (z2ic 0 ds) (bx.map fun j=>(j,some (bs j))) with
  |none=>rw[hr] at hf;cases hf
  |some r=>
   obtain⟨x,o,e,b⟩:=r
   rw[hr] at hf
   have henv:∀j∈hold,lk (z2ic 0 ds) j=some (dem (ds.getD j .undef)):=fun j hj=>by
    have hj':j<ds.length:=by rw[hl];exact hlt j hj
    rw[z7zb,if_pos (Nat.zero_le j),Nat.sub_zero,List.getD_eq_getElem?_getD,List.getElem?_eq_getElem hj']
    rfl
   have hA:z1ha hold hold [] (z2ic 0 ds) (hold.map fun j=>(j,z2a.lit (p j))):=⟨fun s hs=>by rw[z4f (fun j=>z2a.lit (p j)),if_neg hs],fun s hs=>by rw[z4f (fun j=>z2a.lit (p j)),if_neg hs];rfl,fun s hs=>⟨_,henv s hs,z7Ta _⟩,fun s hs=>hs⟩
   obtain⟨k1,org1,a1,l1,k2⟩:=z8v n F.body hold hold [] o _ e _ b x hr h0.2 _ hA
   refine k2 _ ?_
   have hg:ASt.get ⟨org1,e,b⟩=ASt.get ⟨o,e,b⟩:=(a1.get b).trans (funext fun s=>by simp only[ASt.get,gX,z8va];rfl)
   have hb:ASt.getB ⟨org1,e,b⟩=ASt.getB ⟨o,e,b⟩:=rfl
   have fin:(bif z7x (z32a o e b) F.res&&z7x (fun j=>(gbX b j).isSome&&z7x bx.contains (z9f ((gbX b j).getD []))) bx&&z7x bx.contains (z5m (z7U ⟨o,e,b⟩ F.res)) then some (z7U ⟨o,e,b⟩ F.res,fun j=>(gbX b j).getD []) else none)=some v→
     (∀r∈F.res,z3Fa ⟨org1,e,b⟩ r)∧z7U ⟨org1,e,b⟩ F.res=(z9Ja X F n hold bx).post ds bs∧
     (∀j∈hold,(lk org1 j=some (.lit (p j))∧ASt.get ⟨org1,e,b⟩ j=dem (ds.getD j .undef))∨held ⟨org1,e,b⟩ (p j) (ds.getD j .undef))∧
     (∀j∈bx++[],ASt.getB ⟨org1,e,b⟩ j=some ((z9Ja X F n hold bx).out ds bs j))∧(∀id∈z5m ((z9Ja X F n hold bx).post ds bs),id∈bx++[])∧(∀j∈bx++[],∀id∈z9f ((z9Ja X F n hold bx).out ds bs j),id∈bx++[]):=fun h=>by
    obtain⟨h1,h2⟩:=z81 h
    simp only[Bool.and_eq_true] at h1
    obtain⟨⟨a1,a2⟩,a3⟩:=h1
    rw[List.append_nil,hpost,hout,←h2]
    refine⟨fun r hr=> ?_,z1ya hg hb _,fun j hj=> .inl ⟨by rw[l1 j hj,z4f (fun j=>z2a.lit (p j)),if_pos hj],by rw[hg];simp only[ASt.get,k1 j hj,henv j hj]⟩,fun j hj=> ?_,fun id hid=>by simpa using z3d a3 id hid,fun j hj id hid=> ?_⟩
    ·rw[(z0X hg hb r).2];exact z1Ua (z3d a1 r hr)
    ·have:=z3d a2 j hj
     simp only[Bool.and_eq_true,Option.isSome_iff_exists] at this
     obtain⟨⟨cs,hcs⟩,_⟩:=this
     rw[z17a]
     simp only[hcs,Option.getD_some]
    ·have:=z3d a2 j hj
     simp only[Bool.and_eq_true] at this
     simpa using z3d this.2 id hid
   cases x with
   |exit _=>cases hf
   |normal=>exact fin hf
   |ret=>exact fin hf
end
end Go.Abs
end

section
namespace Go.Abs
def z5Yd (tag:Int) (l:List (List UInt8)):List UInt8:=(z70d (z7l tag l)).take 16
noncomputable def xOf (ds:List z2a):Option z2a:=match ds with
 |[.lit (.int .i64 t),.sl .plain _ n cs]=>bif Nat.beq n cs.length&&z7x z7Rb cs&&Nat.ble (z8ja (cs.map gS)) 1000000000 then some (.agg (bys (z5Yd t (cs.map gS)))) else none
 |_=>none
def z3ec:z2a→Bool| .lit (.int .u8 n)=>decide (0≤n)&&decide (n≤255)|_=>false
noncomputable def xSh (ds:List z2a):Option z2a:=match ds with
 |[.sl .plain _ n cs]=>bif Nat.beq n cs.length&&z7x z3ec cs&&Nat.ble n 1000000000 then some (.agg (bys ((z70d (gBs cs)).take 16))) else none
 |_=>none
def xGr (e:Nat) (ds:List z2a):Option z2a:=match ds with
 |[.sl .plain (some true) 0 [],.lit (.int .i64 n)]=>bif decide (0≤n)&&decide (n≤1000000) then some (.sl (.own e) none 0 []) else none
 |_=>none
noncomputable def z7Nc (ds:List z2a):Option z2a:=match ds with
 |[.sl .plain _ n cs]=>bif Nat.beq cs.length (n*16)&&z7x z3ec cs&&Nat.ble n 1000000 then some (.sl (.own 16) none n cs) else none
 |_=>none
noncomputable def z69c (ds:List z2a):Option z2a:=match ds with
 |[.sl .plain _ n cs]=>bif Nat.beq cs.length (n*30)&&z7x z2Y cs&&z3f cs&&Nat.ble n 1000000 then some (.sl (.own 30) none n cs) else none
 |_=>none
noncomputable def xBw (x y:List z2a):Option (List (List z2a)):=match x,y with
 |[],[.ep [.sl .plain _ n cs]]=>bif Nat.beq cs.length (n*16)&&z7x z3ec cs&&Nat.ble n 1000000 then some ((List.range n).map fun i:Nat=>[i64 ((n:Int)-1-i),.agg ((cs.drop ((n-1-i)*16)).take 16)]) else none
 |_,_=>none
noncomputable def z62b:z2a→Bool| .agg l=>z7x z3ec l|_=>false
def z15b (d:z2a):Bool:= !z5e d
noncomputable def z75d (f:Nat→Option (List z2a)) (n:Nat):Option (List (List z2a)):=Nat.rec (some []) (fun k ih=>match ih,f k with|some l,some d=>some (l++[d])|_,_=>none) n
noncomputable def xDg (g:List z2a→Option z2a) (x y:List z2a):Option (List (List z2a)):=match x,y with
 |[],[.ep [.sl .plain _ n cs]]=>bif Nat.beq cs.length (n*30)&&z7x z2Y cs&&z3f cs&&z7x z15b cs&&Nat.ble n 1000000 then z75d (fun i:Nat=>(g [.agg ((cs.drop (i*30)).take 30)]).bind fun d=>bif z62b d then some [d] else none) n else none
 |_,_=>none
/-! ### equal values -/
def z81d:List UInt8→List UInt8→Bool
 |[],[]=>true
 |a::as,b::bs=>Nat.beq a.toNat b.toNat&&z81d as bs
 |_,_=>false
theorem z8Lb:∀{a b:List UInt8},z81d a b=true→a=b
 |[],[],_=>rfl
 |[],_::_,h=>by cases h
 |_::_,[],h=>by cases h
 |a::as,b::bs,h=>by
  simp only[z81d,Bool.and_eq_true] at h
  rw[UInt8.toNat.inj (Nat.eq_of_beq_eq_true h.1),z8Lb h.2]
def eqMd:z0ka→z0ka→Bool
 | .plain,.plain=>true
 | .clip,.clip=>true
 | .own a,.own b=>Nat.beq a b
 |_,_=>false
theorem z6ed {a b:z0ka} (h:eqMd a b=true):a=b:=by
 cases a<;>cases b<;>first|rfl|cases h|(rw[Nat.eq_of_beq_eq_true h])
mutual
def eqA:z2a→z2a→Bool
 | .lit (.int k a),.lit (.int k' b)=>decide (k=k')&&decide (a=b)
 | .lit (.bool a),.lit (.bool b)=>a==b
 | .lit (.string a),.lit (.string b)=>z81d a.data.toList b.data.toList
 | .lit (.slice none 0 0),.lit (.slice none 0 0)=>true
 | .agg a,.agg b=>z2Cc a b
 | .tup a,.tup b=>z2Cc a b
 | .sl m nl n a,.sl m' nl' n' b=>eqMd m m'&&(nl==nl')&&Nat.beq n n'&&z2Cc a b
 |_,_=>false
def z2Cc:List z2a→List z2a→Bool
 |[],[]=>true
 |a::as,b::bs=>eqA a b&&z2Cc as bs
 |_,_=>false
end
mutual
theorem z5Dc:∀{a b:z2a},eqA a b=true→a=b:=fun {a b} h=>by
 unfold eqA at h
 split at h
 ·simp only[Bool.and_eq_true,decide_eq_true_eq] at h;rw[h.1,h.2]
 ·rw[beq_iff_eq.1 h]
 ·rw[z2ab _ _ (z8Lb h)]
 ·rfl
 ·rw[z8Za h]
 ·rw[z8Za h]
 ·simp only[Bool.and_eq_true,beq_iff_eq] at h
  rw[z6ed h.1.1.1,h.1.1.2,Nat.eq_of_beq_eq_true h.1.2,z8Za h.2]
 ·cases h
theorem z8Za:∀{a b:List z2a},z2Cc a b=true→a=b:=fun {a b} h=>by
 unfold z2Cc at h
 split at h
 ·rfl
 ·simp only[Bool.and_eq_true] at h
  rw[z5Dc h.1,z8Za h.2]
 ·cases h
end
def z5Wb (n:Int):z2a:= .lit (.int .i64 n)
def nu8 (n:Int):z2a:= .lit (.int .u8 n)
def sX (l:List UInt8):z2a:= .lit (.string ⟨⟨l⟩⟩)
def xE (a b:Int) (s t:z2a):List z2a:=[z5Wb a,z5Wb 0,z5Wb 0,z5Wb b,z5Wb 0,z5Wb 0,z5Wb 0,z5Wb 0,z5Wb 0,z5Wb 0,sX [],.sl .plain none 0 [],nu8 0,nu8 0,nu8 0,nu8 0,nu8 0,nu8 0,nu8 0,nu8 0,nu8 0,nu8 0,nu8 0,nu8 0,nu8 0,nu8 0,nu8 0,nu8 0,s,t]
noncomputable def z3Jc (t:List (List z2a×z2a)) (ds:List z2a):Option z2a:=List.rec none (fun p _ ih=>bif z2Cc ds p.1 then some p.2 else ih) t
theorem z2fc {x:List z2a→Option z2a}:∀{t:List (List z2a×z2a)} {ds:List z2a} {v:z2a},(∀p∈t,x p.1=some p.2)→z3Jc t ds=some v→x ds=some v
 |[],_,_,_,h=>by cases h
 |p::t,ds,v,ht,h=>by
  change(bif z2Cc ds p.1 then some p.2 else z3Jc t ds)=some v at h
  cases he:z2Cc ds p.1 with
  |true=>
   rw[he] at h
   rw[z8Za he,ht p (by simp)]
   exact h
  |false=>
   rw[he] at h
   exact z2fc (fun q hq=>ht q (by simp[hq])) h
noncomputable def z7Oa (y:List z2a→Option z2a) (t:List (List z2a×z2a)) (i:Nat):Bool:=match t[i]? with
 |some p=>(match y p.1 with|some v=>eqA v p.2|none=>false)
 |none=>false
theorem z81a {y:List z2a→Option z2a} {t:List (List z2a×z2a)} (h:∀i,i<t.length→z7Oa y t i=true):∀p∈t,y p.1=some p.2:=fun p hp=>by
 obtain⟨i,hi,rfl⟩:=List.mem_iff_getElem.1 hp
 have h1:=h i hi
 unfold z7Oa at h1
 rw[List.getElem?_eq_getElem hi] at h1
 simp only at h1
 split at h1
 ·rename_i v e
  rw[e,z5Dc h1]
 ·cases h1
noncomputable def lkG (l:List (Nat×(List z2a→Option z2a))) (n:Nat):List z2a→Option z2a:=List.rec (fun _=>none) (fun p _ ih=>bif Nat.beq p.1 n then p.2 else ih) l
noncomputable def xGT (T:Nat→List z2a) (l:List (Nat×(List z2a→Option z2a))):XE:={G:=lkG l,T:=T}
end Go.Abs
end
