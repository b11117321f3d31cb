/- The translated functions are those that the lemmas speak of; so each meets its contract. -/
import Derived.Test.YtepddcbbkhdfiaaGreatDoorRows
import Derived.Test.YtepddcbbkhdfiaaGreatDoorA
import Derived.Test.YtepddcbbkhdfiaaGreatDoorB
import Derived.Test.YtepddcbbkhdfiaaGreatDoorC
import Derived.Test.YtepddcbbkhdfiaaGreatDoorD
import Derived.Test.YtepddcbbkhdfiaaGreatDoorE
import Derived.Test.YtepddcbbkhdfiaaGreatDoorF
import Derived.Test.YtepddcbbkhdfiaaGreatDoorG
import Derived.Test.YtepddcbbkhdfiaaGreatDoorH
import Derived.Test.YtepddcbbkhdfiaaGreatDoorI
import Derived.Test.YtepddcbbkhdfiaaGreatDoorJ
import Derived.Test.YtepddcbbkhdfiaaGreatDoorK
import Derived.Test.YtepddcbbkhdfiaaGreatDoorL
import Derived.Test.YtepddcbbkhdfiaaGreatDoorM
import Derived.Test.YtepddcbbkhdfiaaGreatDoorN
import Derived.Test.YtepddcbbkhdfiaaGreatDoorO
import Derived.Test.YtepddcbbkhdfiaaGreatDoorP
import Derived.Test.YtepddcbbkhdfiaaGreatDoorQ
import Derived.Test.YtepddcbbkhdfiaaGreatDoorR
import Derived.Test.YtepddcbbkhdfiaaGreatDoorS
import Derived.Test.YtepddcbbkhdfiaaGreatDoorT
import Derived.Test.YtepddcbbkhdfiaaGreatDoorU
import Derived.Test.YtepddcbbkhdfiaaGreatDoorV
import Derived.Test.YtepddcbbkhdfiaaGreatDoorW
import Derived.Test.YtepddcbbkhdfiaaGreatDoorX
import Derived.Test.YtepddcbbkhdfiaaGreatDoorY
import Derived.Test.YtepddcbbkhdfiaaGreatDoorZ
import Derived.Test.YtepddcbbkhdfiaaGreatDoorA1
import Derived.Test.YtepddcbbkhdfiaaGreatDoorB1
import Derived.KernelRfl
set_option linter.unusedSimpArgs false
set_option linter.unusedVariables false
set_option linter.unusedSectionVars false
namespace Go.Abs.V0
open Go.Proofs
set_option maxRecDepth 100000
def nu : Nat → FuncId
 | 0 => 133
 | 1 => 134
 | 2 => 135
 | 3 => 124
 | 4 => 151
 | 7 => 113
 | 8 => 116
 | 10 => 152
 | 11 => 153
 | 12 => 68
 | 13 => 154
 | 15 => 120
 | 20 => 41
 | 21 => 78
 | 23 => 79
 | 24 => 138
 | 25 => 139
 | 26 => 140
 | 28 => 77
 | 29 => 121
 | 30 => 141
 | 39 => 112
 | 40 => 145
 | 41 => 69
 | 43 => 70
 | 45 => 62
 | 47 => 102
 | 48 => 103
 | 51 => 132
 | 52 => 105
 | 54 => 97
 | 55 => 63
 | 58 => 65
 | 60 => 20
 | 61 => 150
 | 129 => 67
 | 130 => 114
 | 132 => 128
 | 133 => 126
 | 139 => 115
 | 147 => 146
 | 149 => 53
 | 164 => 117
 | 165 => 83
 | 166 => 118
 | 167 => 99
 | 168 => 72
 | 169 => 84
 | 170 => 131
 | 174 => 100
 | 175 => 100
 | 176 => 58
 | 179 => 81
 | 180 => 39
 | 181 => 119
 | 182 => 76
 | 183 => 82
 | 184 => 123
 | 185 => 44
 | 188 => 122
 | 189 => 136
 | 190 => 137
 | 191 => 148
 | 192 => 149
 | 193 => 142
 | 194 => 143
 | 195 => 80
 | 197 => 94
 | 200 => 52
 | 201 => 96
 | 202 => 42
 | 209 => 27
 | 211 => 30
 | 212 => 51
 | 213 => 12
 | 214 => 55
 | 293 => 91
 | 294 => 90
 | 295 => 85
 | 296 => 86
 | 297 => 88
 | 298 => 87
 | 299 => 89
 | 300 => 45
 | 301 => 127
 | 302 => 66
 | 303 => 75
 | 312 => 129
 | 313 => 125
 | 314 => 144
 | 316 => 106
 | 318 => 108
 | 320 => 110
 | 322 => 64
 | 323 => 104
 | 324 => 107
 | 325 => 109
 | 326 => 111
 | 327 => 54
 | 329 => 92
 | 331 => 29
 | 332 => 147
 | 333 => 130
 | 334 => 95
 | 348 => 11
 | 349 => 15
 | 350 => 38
 | 351 => 37
 | 352 => 36
 | 353 => 9
 | 354 => 40
 | 355 => 14
 | 356 => 46
 | 357 => 16
 | 358 => 47
 | 359 => 17
 | 360 => 18
 | 361 => 56
 | 362 => 57
 | 363 => 32
 | 364 => 59
 | 365 => 33
 | 366 => 60
 | 367 => 61
 | 368 => 34
 | 369 => 35
 | 370 => 71
 | 371 => 73
 | 372 => 74
 | 373 => 98
 | 374 => 101
 | 375 => 10
 | 376 => 48
 | 377 => 19
 | 378 => 21
 | 379 => 25
 | 380 => 23
 | 381 => 22
 | 382 => 50
 | 383 => 49
 | 384 => 24
 | 385 => 26
 | 386 => 28
 | 388 => 93
 | 389 => 6
 | 390 => 7
 | 391 => 8
 | 394 => 5
 | 396 => 31
 | _ => 0
def gnum : Nat → Nat
 | 0 => 3
 | 1 => 0
 | 3 => 2
 | 4 => 1
 | _ => 0
def gG : Nat → z1f
 | 0 => z2yb
 | 1 => z5zc
 | 2 => z8Rc
 | 3 => z7ac
 | 4 => z3Sb
 | 7 => z4tb
 | 8 => ofC
 | 10 => z9fb
 | 11 => z9md
 | 12 => z2L
 | 13 => z96c
 | 15 => z8pc
 | 20 => z8Rb
 | 21 => z9Rb
 | 23 => z7fb
 | 24 => z8vb
 | 25 => z9fb
 | 26 => z7bc
 | 28 => z1Sb
 | 29 => z4kb
 | 30 => z72b
 | 39 => z1Xa
 | 40 => z4Xa
 | 54 => z9Ta
 | 60 => z3qb
 | 129 => z8Na
 | 130 => z2Mb
 | 132 => z9Ta
 | 133 => z4jb
 | 139 => z0lc
 | 147 => z2Mb
 | 149 => z4jb
 | 164 => inM
 | 165 => shM
 | 166 => z5Wb
 | 167 => z4Ac
 | 168 => z2Ua
 | 169 => z4Rb
 | 170 => z6Nc
 | 179 => z37b
 | 180 => z6nc
 | 181 => tzC
 | 182 => fgC z7Jc
 | 185 => z3kc
 | 188 => z4Tb
 | 189 => noC
 | 190 => tzC
 | 191 => noC
 | 192 => z6Nc
 | 193 => noC
 | 194 => z4Tb
 | 195 => z4Ac
 | 197 => z2Ua
 | 200 => z0hd
 | 201 => z5ad
 | 202 => z17c
 | 209 => z56c
 | 211 => z37b
 | 212 => z66c
 | 213 => z3kc
 | 214 => z3od
 | 293 => z7Jd
 | 294 => z8Ed
 | 295 => z7qd
 | 296 => z4ud
 | 297 => z8Kd
 | 298 => z1wc
 | 299 => z6Sb
 | 300 => z6cc
 | 301 => z71b
 | 302 => z5Sb
 | 303 => z9ub
 | 312 => z35b
 | 313 => z4nc
 | 314 => z5fc
 | 327 => z6wc
 | 329 => z6Sb
 | 331 => z6cc
 | 332 => z1yc
 | 333 => z5Sb
 | 334 => z9ub
 | 348 => z34b
 | 349 => z7mb
 | 350 => z3Zc
 | 351 => z3rd
 | 352 => z44b
 | 353 => z5Gc
 | 354 => z2bd
 | 355 => z0Tb
 | 356 => z1jc
 | 357 => z2Nc
 | 358 => z2Cb
 | 359 => z4Nc
 | 360 => z5Nc
 | 370 => z8qc
 | 371 => z0qc
 | 374 => z27b
 | 375 => z7mb
 | 376 => z4rd
 | 377 => z3sc
 | 378 => z2Nc
 | 379 => z34b
 | 380 => z5Gc
 | 381 => z5Nc
 | 382 => z3md
 | 383 => z44b
 | 384 => z93b
 | 385 => z4Nc
 | 386 => z0Tb
 | 388 => z8qc
 | 389 => z22b
 | 390 => z3xc
 | 391 => z6fd
 | 394 => z2Sc
 | _ => ⟨fun _ => False, fun _ => .undef⟩
def gM : Nat → CM
 | 183 => z1rc
 | _ => ⟨[], [], fun _ => False, fun _ => .undef, fun _ _ => []⟩
def gI : Nat → ItC
 | 184 => z1mc
 | 372 => z93c
 | _ => ⟨fun _ _ => False, fun _ _ _ => none, []⟩
def gT : Nat → List z0a := tX
def E0 : Env := { G := gG, T := gT, M := gM, I := gI }
noncomputable def K0 : Cx := { P := Tryz.prog, nu := nu, globs := [], N := { gnum := gnum, gs := [0, 1, 3, 4] }, E := E0 }
theorem v_n0 : z1a K0 0 z2yb := fV (F := z7Ta) [] Tryz.func133 (by kernel_rfl) trivial (z9ld E0)
theorem v_n13 : z1a K0 13 z96c := fV (F := z0Aa) [] Tryz.func154 (by kernel_rfl) trivial (z9Id E0)
theorem v_n10 : z1a K0 10 z9fb := fV (F := z0Ha) [(13, false)] Tryz.func152 (by kernel_rfl) ⟨v_n13, trivial⟩ (z5id E0 rfl)
theorem v_n11 : z1a K0 11 z9md := fV (F := z2cb) [(13, false)] Tryz.func153 (by kernel_rfl) ⟨v_n13, trivial⟩ (z81d E0 rfl)
theorem v_n4 : z1a K0 4 z3Sb := fV (F := z8Ga) [(10, false), (11, false)] Tryz.func151 (by kernel_rfl) ⟨v_n10, v_n11, trivial⟩ (z7id E0 rfl rfl rfl)
theorem v_n1 : z1a K0 1 z5zc := fV (F := z8Ca) [(4, false)] Tryz.func134 (by kernel_rfl) ⟨v_n4, trivial⟩ (z3Ad E0 rfl)
theorem v_n12 : z1a K0 12 z2L := fV (F := z1d) [] Tryz.func68 (by kernel_rfl) trivial (z8X E0)
theorem v_n7 : z1a K0 7 z4tb := fV (F := z0Oa) [(12, false)] Tryz.func113 (by kernel_rfl) ⟨v_n12, trivial⟩ (z4id E0 rfl)
theorem v_n2 : z1a K0 2 z8Rc := fV (F := z6Ca) [(1, false)] Tryz.func135 (by kernel_rfl) ⟨v_n1, trivial⟩ (z68d E0 rfl)
theorem v_n8 : z1a K0 8 ofC := fV (F := z2ob) [(0, false), (1, false), (7, false), (2, false)] Tryz.func116 (by kernel_rfl) ⟨v_n0, v_n1, v_n7, v_n2, trivial⟩ (z9he E0 rfl rfl rfl rfl)
theorem v_n30 : z1a K0 30 z72b := fV (F := z8ya) [] Tryz.func141 (by kernel_rfl) trivial (z1Cd E0)
theorem v_n29 : z1a K0 29 z4kb := fV (F := z8va) [(30, false)] Tryz.func121 (by kernel_rfl) ⟨v_n30, trivial⟩ (z5Oc E0 rfl)
theorem v_n21 : z1a K0 21 z9Rb := fV (F := z0za) [(29, false)] Tryz.func78 (by kernel_rfl) ⟨v_n29, trivial⟩ (z9id E0 rfl)
theorem v_n24 : z1a K0 24 z8vb := fV (F := z2ya) [] Tryz.func138 (by kernel_rfl) trivial (z8Pc E0)
theorem v_n26 : z1a K0 26 z7bc := fV (F := z9za) [] Tryz.func140 (by kernel_rfl) trivial (z2Gd E0)
theorem v_n25 : z1a K0 25 z9fb := fV (F := z9ya) [(26, false)] Tryz.func139 (by kernel_rfl) ⟨v_n26, trivial⟩ (z09c E0 rfl)
theorem v_n15 : z1a K0 15 z8pc := fV (F := z3Ba) [(24, false), (25, false), (26, false)] Tryz.func120 (by kernel_rfl) ⟨v_n24, v_n25, v_n26, trivial⟩ (z4wd E0 rfl rfl rfl rfl)
theorem v_n28 : z1a K0 28 z1Sb := fV (F := z2za) [(15, false)] Tryz.func77 (by kernel_rfl) ⟨v_n15, trivial⟩ (z3gd E0 rfl)
theorem v_n20 : z1a K0 20 z8Rb := fV (F := z7Ca) [(21, false), (28, false)] Tryz.func41 (by kernel_rfl) ⟨v_n21, v_n28, trivial⟩ (z0ae E0 rfl rfl)
theorem v_n3 : z1a K0 3 z7ac := fV (F := z5bb) [(0, false), (1, false), (2, false)] Tryz.func124 (by kernel_rfl) ⟨v_n0, v_n1, v_n2, trivial⟩ (z5Ad E0 rfl rfl rfl)
theorem v_n165 : z1a K0 165 shM := fV (F := z5Ka) [(3, false)] Tryz.func83 (by kernel_rfl) ⟨v_n3, trivial⟩ (z3Qc E0 rfl)
theorem c_n180 : z3ta K0 z4ya Tryz.f39 = true := by kernel_rfl
theorem k_n180 : (z4a z4ya.body).all (fun p => ([] : List (Nat × Bool)).contains p) = true := by kernel_rfl
theorem v_n180 : z1a K0 180 z6nc := z7oc 0 (z3rb (K := K0) (f := 180) (F := z4ya) (c := z7ee) Tryz.func39 c_n180 (z8c k_n180 (List.forall_mem_nil _)) (z6Ld E0) (by kernel_rfl)) z6id
theorem c_n358 : z3ta K0 z1ta Tryz.f47 = true := by kernel_rfl
theorem k_n358 : (z4a z1ta.body).all (fun p => ([] : List (Nat × Bool)).contains p) = true := by kernel_rfl
theorem v_n358 : z1a K0 358 z2Cb := z7oc 0 (z3rb (K := K0) (f := 358) (F := z1ta) (c := z8gd) Tryz.func47 c_n358 (z8c k_n358 (List.forall_mem_nil _)) (z3Fd E0) (by kernel_rfl)) z3id
theorem v_n139 : z1a K0 139 z0lc := Go.Abs.TryzG.grow_valid rfl rfl ⟨Tryz.f115, Tryz.func115, by kernel_rfl, by kernel_rfl⟩
theorem v_n374 : z1a K0 374 z27b := Go.Abs.TryzH.grow_valid rfl rfl ⟨Tryz.f101, Tryz.func101, by kernel_rfl, by kernel_rfl⟩
theorem c_n184 : z63c K0 z0ya Tryz.f123 = true := by kernel_rfl
theorem k_n184 : z5Ga z0ya.body = [] := by kernel_rfl
theorem v_n184 : z3La K0 184 z1mc := z9bc (K := K0) (f := 184) (F := z0ya) Tryz.func123 c_n184 (by rw [k_n184]; exact List.forall_mem_nil _) (z7yd E0)
theorem v_n389 : z1a K0 389 z22b := fV (F := z3wa) [] Tryz.func6 (by kernel_rfl) trivial (z7sd E0)
theorem v_n54 : z1a K0 54 z9Ta := fV (F := z1ua) [] Tryz.func97 (by kernel_rfl) trivial (z1Qc E0)
theorem v_n149 : z1a K0 149 z4jb := fV (F := z1ya) [(54, false)] Tryz.func53 (by kernel_rfl) ⟨v_n54, trivial⟩ (z3ad E0 rfl)
theorem v_n327 : z1a K0 327 z6wc := fV (F := z9va) [] Tryz.func54 (by kernel_rfl) trivial (z6wd E0)
theorem v_n331 : z1a K0 331 z6cc := fV (F := z1za) [(149, false), (327, false)] Tryz.func29 (by kernel_rfl) ⟨v_n149, v_n327, trivial⟩ (z1sd E0 rfl rfl)
theorem v_n214 : z1a K0 214 z3od := fV (F := z3xa) [] Tryz.func55 (by kernel_rfl) trivial (z6ed E0)
theorem v_n211 : z1a K0 211 z37b := fV (F := z2ra) [(214, false)] Tryz.func30 (by kernel_rfl) ⟨v_n214, trivial⟩ (z6ud E0 rfl)
theorem v_n390 : z1a K0 390 z3xc := fV (F := z5ra) [(331, false), (211, false)] Tryz.func7 (by kernel_rfl) ⟨v_n331, v_n211, trivial⟩ (z47c E0 rfl rfl)
theorem v_n295 : z1a K0 295 z7qd := fV (F := z6Aa) [] Tryz.func85 (by kernel_rfl) trivial (z98d E0)
theorem v_n296 : z1a K0 296 z4ud := fV (F := z1Da) [(295, false)] Tryz.func86 (by kernel_rfl) ⟨v_n295, trivial⟩ (z05d E0 rfl)
theorem v_n297 : z1a K0 297 z8Kd := fV (F := z2Da) [(296, false)] Tryz.func88 (by kernel_rfl) ⟨v_n296, trivial⟩ (z16d E0 rfl)
theorem v_n313 : z1a K0 313 z4nc := fV (F := z6qa) [(297, false)] Tryz.func125 (by kernel_rfl) ⟨v_n297, trivial⟩ (z5Id E0 rfl)
theorem v_n298 : z1a K0 298 z1wc := fV (F := z1qa) [(313, false)] Tryz.func87 (by kernel_rfl) ⟨v_n313, trivial⟩ (z6Ed E0 rfl)
theorem v_n294 : z1a K0 294 z8Ed := fV (F := z4Na) [] Tryz.func90 (by kernel_rfl) trivial (z3Rd E0)
theorem v_n132 : z1a K0 132 z9Ta := fV (F := z5Ca) [] Tryz.func128 (by kernel_rfl) trivial (z5Xd E0)
theorem v_n133 : z1a K0 133 z4jb := fV (F := z0Fa) [(132, false)] Tryz.func126 (by kernel_rfl) ⟨v_n132, trivial⟩ (z6ad E0 rfl)
theorem v_n301 : z1a K0 301 z71b := fV (F := z2va) [] Tryz.func127 (by kernel_rfl) trivial (z4ld E0)
theorem v_n299 : z1a K0 299 z6Sb := fV (F := z7Na) [(133, false), (301, false), (132, false)] Tryz.func89 (by kernel_rfl) ⟨v_n133, v_n301, v_n132, trivial⟩ (z1ad E0 rfl rfl rfl)
theorem v_n314 : z1a K0 314 z5fc := fV (F := z8Ea) [] Tryz.func144 (by kernel_rfl) trivial (z0ud E0)
theorem v_n312 : z1a K0 312 z35b := fV (F := z8za) [(314, false)] Tryz.func129 (by kernel_rfl) ⟨v_n314, trivial⟩ (z1Ed E0 rfl)
theorem v_n293 : z1a K0 293 z7Jd := fV (F := z4Fa) [(312, false)] Tryz.func91 (by kernel_rfl) ⟨v_n312, trivial⟩ (z62d E0 rfl)
theorem v_n300 : z1a K0 300 z6cc := fV (F := z3Ia) [(295, false), (298, false), (294, false), (299, false), (293, false)] Tryz.func45 (by kernel_rfl) ⟨v_n295, v_n298, v_n294, v_n299, v_n293, trivial⟩ (z6Fd E0 rfl rfl rfl rfl rfl)
theorem v_n349 : z1a K0 349 z7mb := fV (F := z90a) [] Tryz.func15 (by kernel_rfl) trivial (z65d E0)
theorem v_n356 : z1a K0 356 z1jc := fV (F := z0xa) [] Tryz.func46 (by kernel_rfl) trivial (z7Id E0)
theorem v_n357 : z1a K0 357 z2Nc := fV (F := z3Ca) [(300, false), (349, false), (356, false)] Tryz.func16 (by kernel_rfl) ⟨v_n300, v_n349, v_n356, trivial⟩ (z5Vd E0 rfl rfl rfl)
theorem v_n375 : z1a K0 375 z7mb := fV (F := z6xa) [] Tryz.func10 (by kernel_rfl) trivial (z0xd E0)
theorem v_n378 : z1a K0 378 z2Nc := fV (F := z6sa) [(331, false), (375, false)] Tryz.func21 (by kernel_rfl) ⟨v_n331, v_n375, trivial⟩ (z3Id E0 rfl rfl)
theorem v_n350 : z1a K0 350 z3Zc := fV (F := z0Ia) [] Tryz.func38 (by kernel_rfl) trivial (z21d E0)
theorem v_n193 : z1a K0 193 noC := fV (F := z2Ba) [] Tryz.func142 (by kernel_rfl) trivial (z7Xc E0)
theorem v_n194 : z1a K0 194 z4Tb := fV (F := z5ya) [] Tryz.func143 (by kernel_rfl) trivial (z11c E0)
theorem v_n188 : z1a K0 188 z4Tb := fV (F := z7Ba) [(193, false), (194, false)] Tryz.func122 (by kernel_rfl) ⟨v_n193, v_n194, trivial⟩ (z2wd E0 rfl)
theorem v_n179 : z1a K0 179 z37b := fV (F := z3Aa) [(188, false)] Tryz.func81 (by kernel_rfl) ⟨v_n188, trivial⟩ (z1Vd E0 rfl)
theorem v_n164 : z1a K0 164 inM := fV (F := z9Ea) [(7, false)] Tryz.func117 (by kernel_rfl) ⟨v_n7, trivial⟩ (z74c E0 rfl)
theorem v_n166 : z1a K0 166 z5Wb := fV (F := z0Ja) [(164, false)] Tryz.func118 (by kernel_rfl) ⟨v_n164, trivial⟩ (z1Hd E0 rfl)
theorem v_n189 : z1a K0 189 noC := fV (F := z5wa) [] Tryz.func136 (by kernel_rfl) trivial (z3Jd E0)
theorem v_n190 : z1a K0 190 tzC := fV (F := z4ua) [] Tryz.func137 (by kernel_rfl) trivial (z1zd E0 rfl)
theorem v_n181 : z1a K0 181 tzC := fV (F := z0wa) [(189, false), (190, false)] Tryz.func119 (by kernel_rfl) ⟨v_n189, v_n190, trivial⟩ (z7fe E0 rfl)
theorem v_n169 : z1a K0 169 z4Rb := fV (F := z1Ia) [(164, false)] Tryz.func84 (by kernel_rfl) ⟨v_n164, trivial⟩ (z8Jd E0 rfl)
theorem c_n182 : z3ta K0 z5za Tryz.f76 = true := by kernel_rfl
theorem k_n182 : (z4a z5za.body).all (fun p => ([(179, false), (180, false), (166, false), (165, false), (181, false), (169, false)] : List (Nat × Bool)).contains p) = true := by kernel_rfl
theorem v_n182 : z1a K0 182 (fgC z7Jc) := z9ad (z3rb (K := K0) (f := 182) (F := z5za) Tryz.func76 c_n182 (z8c k_n182 (List.forall_mem_cons.2 ⟨v_n179, List.forall_mem_cons.2 ⟨v_n180, List.forall_mem_cons.2 ⟨v_n166, List.forall_mem_cons.2 ⟨v_n165, List.forall_mem_cons.2 ⟨v_n181, List.forall_mem_cons.2 ⟨v_n169, List.forall_mem_nil _⟩⟩⟩⟩⟩⟩)) (z96d E0 rfl rfl rfl rfl rfl rfl) (by kernel_rfl))
theorem v_n39 : z1a K0 39 z1Xa := fV (F := z6Qa) [(12, false)] Tryz.func112 (by kernel_rfl) ⟨v_n12, trivial⟩ (z6vd E0 rfl)
theorem v_n129 : z1a K0 129 z8Na := fV (F := z9Ca) [(139, false)] Tryz.func67 (by kernel_rfl) ⟨v_n139, trivial⟩ (z0Tc E0 rfl)
theorem v_n130 : z1a K0 130 z2Mb := fV (F := z8Ba) [(12, false), (7, false), (39, false), (129, false)] Tryz.func114 (by kernel_rfl) ⟨v_n12, v_n7, v_n39, v_n129, trivial⟩ (z9Gd E0 rfl rfl rfl rfl)
theorem v_n302 : z1a K0 302 z5Sb := fV (F := z7Ea) [(39, false), (130, false), (7, false), (12, false), (129, false)] Tryz.func66 (by kernel_rfl) ⟨v_n39, v_n130, v_n7, v_n12, v_n129, trivial⟩ (z38c E0 rfl rfl rfl rfl rfl)
theorem v_n303 : z1a K0 303 z9ub := fV (F := z8Fa) [(302, false), (8, false)] Tryz.func75 (by kernel_rfl) ⟨v_n302, v_n8, trivial⟩ (z0jd E0 rfl rfl)
theorem c_n372 : z63c K0 z5ta Tryz.f74 = true := by kernel_rfl
theorem k_n372 : z5Ga z5ta.body = [(303, false)] := by kernel_rfl
theorem v_n372 : z3La K0 372 z93c := z9bc (K := K0) (f := 372) (F := z5ta) Tryz.func74 c_n372 (by rw [k_n372]; exact List.forall_mem_cons.2 ⟨v_n303, List.forall_mem_nil _⟩) (z0Kd E0 rfl)
theorem i_n354 : z1Ua z1wa.body = [372] := by kernel_rfl
theorem c_n354 : z3ta K0 z1wa Tryz.f40 = true := by kernel_rfl
theorem k_n354 : (z4a z1wa.body).all (fun p => ([(350, false), (182, false)] : List (Nat × Bool)).contains p) = true := by kernel_rfl
theorem v_n354 : z1a K0 354 z2bd := z1xb (K := K0) (f := 354) (F := z1wa) Tryz.func40 c_n354 (z8c k_n354 (List.forall_mem_cons.2 ⟨v_n350, List.forall_mem_cons.2 ⟨v_n182, List.forall_mem_nil _⟩⟩)) (z23d E0 rfl rfl rfl) (by rw [i_n354]; exact List.forall_mem_cons.2 ⟨v_n372, List.forall_mem_nil _⟩) (by kernel_rfl) (by kernel_rfl)
theorem v_n348 : z1a K0 348 z34b := fV (F := z1Ja) [(349, false), (180, false), (354, false)] Tryz.func11 (by kernel_rfl) ⟨v_n349, v_n180, v_n354, trivial⟩ (z6Yd E0 rfl rfl rfl)
theorem i_n371 : z1Ua z0qa.body = [372] := by kernel_rfl
theorem c_n371 : z3ta K0 z0qa Tryz.f73 = true := by kernel_rfl
theorem k_n371 : (z4a z0qa.body).all (fun p => ([] : List (Nat × Bool)).contains p) = true := by kernel_rfl
theorem v_n371 : z1a K0 371 z0qc := z1xb (K := K0) (f := 371) (F := z0qa) Tryz.func73 c_n371 (z8c k_n371 (List.forall_mem_nil _)) (z2vd E0 rfl) (by rw [i_n371]; exact List.forall_mem_cons.2 ⟨v_n372, List.forall_mem_nil _⟩) (by kernel_rfl) (by kernel_rfl)
theorem v_n351 : z1a K0 351 z3rd := fV (F := z3ra) [(371, false)] Tryz.func37 (by kernel_rfl) ⟨v_n371, trivial⟩ (z97d E0 rfl)
theorem c_n183 : z3ta K0 z6ta Tryz.f82 = true := by kernel_rfl
theorem k_n183 : (z4a z6ta.body).all (fun p => ([] : List (Nat × Bool)).contains p) = true := by kernel_rfl
theorem v_n183 : z0Na K0 183 z1rc := z83b (K := K0) (f := 183) (F := z6ta) Tryz.func82 c_n183 (z8c k_n183 (List.forall_mem_nil _)) (by decide) (z2Wd E0) (by kernel_rfl) (by kernel_rfl)
theorem i_n370 : z1Ua z4za.body = [184] := by kernel_rfl
theorem c_n370 : z3ta K0 z4za Tryz.f71 = true := by kernel_rfl
theorem k_n370 : (z4a z4za.body).all (fun p => ([(183, true), (8, false)] : List (Nat × Bool)).contains p) = true := by kernel_rfl
theorem v_n370 : z1a K0 370 z8qc := z1xb (K := K0) (f := 370) (F := z4za) Tryz.func71 c_n370 (z8c k_n370 (List.forall_mem_cons.2 ⟨v_n183, List.forall_mem_cons.2 ⟨v_n8, List.forall_mem_nil _⟩⟩)) (z9Sd E0 rfl rfl rfl) (by rw [i_n370]; exact List.forall_mem_cons.2 ⟨v_n184, List.forall_mem_nil _⟩) (by kernel_rfl) (by kernel_rfl)
theorem v_n191 : z1a K0 191 noC := fV (F := z6Ta) [] Tryz.func148 (by kernel_rfl) trivial (z7ad E0)
theorem v_n192 : z1a K0 192 z6Nc := fV (F := z8Ha) [] Tryz.func149 (by kernel_rfl) trivial (z6bd E0)
theorem v_n170 : z1a K0 170 z6Nc := fV (F := z22a) [(191, false), (192, false)] Tryz.func131 (by kernel_rfl) ⟨v_n191, v_n192, trivial⟩ (z6Xd E0 rfl)
theorem v_n167 : z1a K0 167 z4Ac := fV (F := z7Fa) [(170, false)] Tryz.func99 (by kernel_rfl) ⟨v_n170, trivial⟩ (z6kd E0 rfl)
theorem c_n168 : ∀ c', z3ta (K0.wG 168 c') z0ta Tryz.f72 = true := fun c' => by kernel_rfl
theorem k_n168 : (z4a z0ta.body).all (fun p => p == (168, false) || ([(164, false), (165, false), (166, false), (167, false), (169, false)] : List (Nat × Bool)).contains p) = true := by kernel_rfl
theorem v_n168 : z1a K0 168 z2Ua := z83a (K := K0) (f := 168) (F := z0ta) z1ib Tryz.func72 c_n168 (z3q k_n168 (List.forall_mem_cons.2 ⟨v_n164, List.forall_mem_cons.2 ⟨v_n165, List.forall_mem_cons.2 ⟨v_n166, List.forall_mem_cons.2 ⟨v_n167, List.forall_mem_cons.2 ⟨v_n169, List.forall_mem_nil _⟩⟩⟩⟩⟩)) (fun n => z1Ad _ n rfl rfl rfl rfl rfl rfl) (by kernel_rfl)
theorem c_n352 : ∀ c', z3ta (K0.wG 352 c') z0ua Tryz.f36 = true := fun c' => by kernel_rfl
theorem k_n352 : (z4a z0ua.body).all (fun p => p == (352, false) || ([(370, false), (168, false)] : List (Nat × Bool)).contains p) = true := by kernel_rfl
theorem v_n352 : z1a K0 352 z44b := z83a (K := K0) (f := 352) (F := z0ua) z0Ac Tryz.func36 c_n352 (z3q k_n352 (List.forall_mem_cons.2 ⟨v_n370, List.forall_mem_cons.2 ⟨v_n168, List.forall_mem_nil _⟩⟩)) (fun n => z5zd _ n rfl rfl rfl) (by kernel_rfl)
theorem v_n353 : z1a K0 353 z5Gc := fV (F := z2Ca) [(348, false), (349, false), (350, false), (351, false), (352, false)] Tryz.func9 (by kernel_rfl) ⟨v_n348, v_n349, v_n350, v_n351, v_n352, trivial⟩ (z6Td E0 rfl rfl rfl rfl rfl)
theorem v_n360 : z1a K0 360 z5Nc := fV (F := z5Fa) [(348, false), (349, false), (353, false), (358, false)] Tryz.func18 (by kernel_rfl) ⟨v_n348, v_n349, v_n353, v_n358, trivial⟩ (z38d E0 rfl rfl rfl rfl)
theorem v_n40 : z1a K0 40 z4Xa := fV (F := z4xa) [(30, false)] Tryz.func145 (by kernel_rfl) ⟨v_n30, trivial⟩ (z87c E0 rfl)
theorem v_n147 : z1a K0 147 z2Mb := fV (F := z4va) [(30, false), (29, false), (40, false)] Tryz.func146 (by kernel_rfl) ⟨v_n30, v_n29, v_n40, trivial⟩ (z4Fd E0 rfl rfl rfl)
theorem v_n23 : z1a K0 23 z7fb := fV (F := z8xa) [] Tryz.func79 (by kernel_rfl) trivial (z1Pc E0)
theorem v_n332 : z1a K0 332 z1yc := fV (F := z8sa) [] Tryz.func147 (by kernel_rfl) trivial (z3wd E0)
theorem v_n333 : z1a K0 333 z5Sb := fV (F := z3va) [(40, false), (147, false), (29, false), (23, false), (30, false), (332, false)] Tryz.func130 (by kernel_rfl) ⟨v_n40, v_n147, v_n29, v_n23, v_n30, v_n332, trivial⟩ (z1ed E0 rfl rfl rfl rfl rfl rfl)
theorem v_n334 : z1a K0 334 z9ub := fV (F := z1va) [(333, false), (20, false)] Tryz.func95 (by kernel_rfl) ⟨v_n333, v_n20, trivial⟩ (z9cd E0 rfl rfl)
theorem v_n382 : z1a K0 382 z3md := fV (F := z1sa) [(334, false)] Tryz.func50 (by kernel_rfl) ⟨v_n334, trivial⟩ (z5Sd E0 rfl)
theorem v_n201 : z1a K0 201 z5ad := fV (F := z5xa) [(23, false), (20, false)] Tryz.func96 (by kernel_rfl) ⟨v_n23, v_n20, trivial⟩ (z09d E0 rfl rfl)
theorem v_n202 : z1a K0 202 z17c := fV (F := z1xa) [(23, false), (20, false)] Tryz.func42 (by kernel_rfl) ⟨v_n23, v_n20, trivial⟩ (z7Sd E0 rfl rfl)
theorem v_n212 : z1a K0 212 z66c := fV (F := z7ua) [(211, false), (201, false), (202, false)] Tryz.func51 (by kernel_rfl) ⟨v_n211, v_n201, v_n202, trivial⟩ (z1Gd E0 rfl rfl rfl)
theorem v_n379 : z1a K0 379 z34b := fV (F := z4ra) [(375, false), (382, false), (212, false)] Tryz.func25 (by kernel_rfl) ⟨v_n375, v_n382, v_n212, trivial⟩ (z9zd E0 rfl rfl rfl)
theorem v_n388 : z1a K0 388 z8qc := fV (F := z5Ba) [(23, false), (20, false)] Tryz.func93 (by kernel_rfl) ⟨v_n23, v_n20, trivial⟩ (z98c E0 rfl rfl)
theorem v_n195 : z1a K0 195 z4Ac := fV (F := z3za) [] Tryz.func80 (by kernel_rfl) trivial (z9Jd E0)
theorem c_n197 : ∀ c', z3ta (K0.wG 197 c') z7sa Tryz.f94 = true := fun c' => by kernel_rfl
theorem k_n197 : (z4a z7sa.body).all (fun p => p == (197, false) || ([(20, false), (201, false), (195, false), (202, false)] : List (Nat × Bool)).contains p) = true := by kernel_rfl
theorem v_n197 : z1a K0 197 z2Ua := z83a (K := K0) (f := 197) (F := z7sa) z1ib Tryz.func94 c_n197 (z3q k_n197 (List.forall_mem_cons.2 ⟨v_n20, List.forall_mem_cons.2 ⟨v_n201, List.forall_mem_cons.2 ⟨v_n195, List.forall_mem_cons.2 ⟨v_n202, List.forall_mem_nil _⟩⟩⟩⟩)) (fun n => z3cd _ n rfl rfl rfl rfl rfl) (by kernel_rfl)
theorem c_n383 : ∀ c', z3ta (K0.wG 383 c') z7ra Tryz.f49 = true := fun c' => by kernel_rfl
theorem k_n383 : (z4a z7ra.body).all (fun p => p == (383, false) || ([(388, false), (195, false), (197, false)] : List (Nat × Bool)).contains p) = true := by kernel_rfl
theorem v_n383 : z1a K0 383 z44b := z83a (K := K0) (f := 383) (F := z7ra) z0Ac Tryz.func49 c_n383 (z3q k_n383 (List.forall_mem_cons.2 ⟨v_n388, List.forall_mem_cons.2 ⟨v_n195, List.forall_mem_cons.2 ⟨v_n197, List.forall_mem_nil _⟩⟩⟩)) (fun n => z1id _ n rfl rfl rfl rfl) (by kernel_rfl)
theorem v_n380 : z1a K0 380 z5Gc := fV (F := z9ra) [(375, false), (379, false), (382, false), (383, false)] Tryz.func23 (by kernel_rfl) ⟨v_n375, v_n379, v_n382, v_n383, trivial⟩ (z4td E0 rfl rfl rfl rfl)
theorem v_n381 : z1a K0 381 z5Nc := fV (F := z9sa) [(375, false), (379, false), (380, false)] Tryz.func22 (by kernel_rfl) ⟨v_n375, v_n379, v_n380, trivial⟩ (z8Ad E0 rfl rfl rfl)
theorem v_n200 : z1a K0 200 z0hd := fV (F := z0va) [] Tryz.func52 (by kernel_rfl) trivial (z6zd E0)
theorem v_n209 : z1a K0 209 z56c := fV (F := z2sa) [(200, false)] Tryz.func27 (by kernel_rfl) ⟨v_n200, trivial⟩ (z0Fd E0 rfl)
theorem v_n329 : z1a K0 329 z6Sb := fV (F := z7xa) [(149, false)] Tryz.func92 (by kernel_rfl) ⟨v_n149, trivial⟩ (z2fd E0 rfl)
theorem v_n376 : z1a K0 376 z4rd := fV (F := z4qa) [(329, false)] Tryz.func48 (by kernel_rfl) ⟨v_n329, trivial⟩ (z6Sd E0 rfl)
theorem v_n384 : z1a K0 384 z93b := fV (F := z5ua) [(209, false), (376, false)] Tryz.func24 (by kernel_rfl) ⟨v_n209, v_n376, trivial⟩ (z19c E0 rfl rfl)
theorem v_n60 : z1a K0 60 z3qb := fV (F := z4sa) [] Tryz.func20 (by kernel_rfl) trivial (z85c E0)
theorem v_n377 : z1a K0 377 z3sc := fV (F := z0ra) [(376, false), (60, false)] Tryz.func19 (by kernel_rfl) ⟨v_n376, v_n60, trivial⟩ (z0Id E0 rfl rfl)
theorem v_n359 : z1a K0 359 z4Nc := fV (F := z8Ra) [(348, false), (358, false)] Tryz.func17 (by kernel_rfl) ⟨v_n348, v_n358, trivial⟩ (z3ae E0 rfl rfl)
theorem v_n385 : z1a K0 385 z4Nc := fV (F := z9xa) [(379, false)] Tryz.func26 (by kernel_rfl) ⟨v_n379, trivial⟩ (z8Hd E0 rfl)
theorem i_n185 : z1Ua z3ua.body = [184] := by kernel_rfl
theorem c_n185 : z3ta K0 z3ua Tryz.f44 = true := by kernel_rfl
theorem k_n185 : (z4a z3ua.body).all (fun p => ([(179, false), (168, false), (183, true), (169, false), (165, false)] : List (Nat × Bool)).contains p) = true := by kernel_rfl
theorem v_n185 : z1a K0 185 z3kc := z1xb (K := K0) (f := 185) (F := z3ua) Tryz.func44 c_n185 (z8c k_n185 (List.forall_mem_cons.2 ⟨v_n179, List.forall_mem_cons.2 ⟨v_n168, List.forall_mem_cons.2 ⟨v_n183, List.forall_mem_cons.2 ⟨v_n169, List.forall_mem_cons.2 ⟨v_n165, List.forall_mem_nil _⟩⟩⟩⟩⟩)) (z3Zd E0 rfl rfl rfl rfl rfl rfl) (by rw [i_n185]; exact List.forall_mem_cons.2 ⟨v_n184, List.forall_mem_nil _⟩) (by kernel_rfl) (by kernel_rfl)
theorem v_n355 : z1a K0 355 z0Tb := fV (F := z82a) [(349, false), (348, false), (185, false)] Tryz.func14 (by kernel_rfl) ⟨v_n349, v_n348, v_n185, trivial⟩ (z6Dd E0 rfl rfl rfl)
theorem v_n213 : z1a K0 213 z3kc := fV (F := z6ua) [(211, false), (20, false), (202, false)] Tryz.func12 (by kernel_rfl) ⟨v_n211, v_n20, v_n202, trivial⟩ (z2Fd E0 rfl rfl rfl)
theorem v_n386 : z1a K0 386 z0Tb := fV (F := z2xa) [(375, false), (379, false), (213, false)] Tryz.func28 (by kernel_rfl) ⟨v_n375, v_n379, v_n213, trivial⟩ (z4kd E0 rfl rfl rfl)
end Go.Abs.V0
