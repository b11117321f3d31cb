/- The translated functions are those that the lemmas speak of; so each meets its contract. -/
import Derived.Test.YtepddcbbkhdfiaaGreatDoorRows
import Derived.Test.YtepddcbbkhdfiaaGreatDoorA
import Derived.Test.YtepddcbbkhdfiaaGreatDoorB
import Derived.Test.YtepddcbbkhdfiaaGreatDoorC
import Derived.Test.YtepddcbbkhdfiaaGreatDoorD
import Derived.Test.YtepddcbbkhdfiaaGreatDoorE
import Derived.Test.YtepddcbbkhdfiaaGreatDoorF
import Derived.Test.YtepddcbbkhdfiaaGreatDoorG
import Derived.Test.YtepddcbbkhdfiaaGreatDoorH
import Derived.Test.YtepddcbbkhdfiaaGreatDoorI
import Derived.Test.YtepddcbbkhdfiaaGreatDoorJ
import Derived.Test.YtepddcbbkhdfiaaGreatDoorK
import Derived.Test.YtepddcbbkhdfiaaGreatDoorL
import Derived.Test.YtepddcbbkhdfiaaGreatDoorM
import Derived.Test.YtepddcbbkhdfiaaGreatDoorN
import Derived.Test.YtepddcbbkhdfiaaGreatDoorO
import Derived.Test.YtepddcbbkhdfiaaGreatDoorP
import Derived.Test.YtepddcbbkhdfiaaGreatDoorQ
import Derived.Test.YtepddcbbkhdfiaaGreatDoorR
import Derived.Test.YtepddcbbkhdfiaaGreatDoorS
import Derived.Test.YtepddcbbkhdfiaaGreatDoorT
import Derived.Test.YtepddcbbkhdfiaaGreatDoorU
import Derived.Test.YtepddcbbkhdfiaaGreatDoorV
import Derived.Test.YtepddcbbkhdfiaaGreatDoorW
import Derived.Test.YtepddcbbkhdfiaaGreatDoorX
import Derived.Test.YtepddcbbkhdfiaaGreatDoorY
import Derived.Test.YtepddcbbkhdfiaaGreatDoorZ
import Derived.Test.YtepddcbbkhdfiaaGreatDoora
import Derived.Test.YtepddcbbkhdfiaaGreatDoorb
import Derived.Test.YtepddcbbkhdfiaaGreatDoorc
import Derived.KernelRfl
set_option linter.unusedSimpArgs false
set_option linter.unusedVariables false
set_option linter.unusedSectionVars false
namespace Go.Abs.V0
open Go.Proofs
set_option maxRecDepth 100000
def nu : Nat → FuncId
 | 0 => 133
 | 1 => 134
 | 2 => 135
 | 3 => 124
 | 4 => 151
 | 7 => 113
 | 8 => 116
 | 10 => 152
 | 11 => 153
 | 12 => 68
 | 13 => 154
 | 15 => 120
 | 20 => 41
 | 21 => 78
 | 23 => 79
 | 24 => 138
 | 25 => 139
 | 26 => 140
 | 28 => 77
 | 29 => 121
 | 30 => 141
 | 39 => 112
 | 40 => 145
 | 41 => 69
 | 43 => 70
 | 45 => 62
 | 47 => 102
 | 48 => 103
 | 51 => 132
 | 52 => 105
 | 54 => 97
 | 55 => 63
 | 58 => 65
 | 60 => 20
 | 61 => 150
 | 129 => 67
 | 130 => 114
 | 132 => 128
 | 133 => 126
 | 139 => 115
 | 147 => 146
 | 149 => 53
 | 164 => 117
 | 165 => 83
 | 166 => 118
 | 167 => 99
 | 168 => 72
 | 169 => 84
 | 170 => 131
 | 174 => 100
 | 175 => 100
 | 176 => 58
 | 179 => 81
 | 180 => 39
 | 181 => 119
 | 182 => 76
 | 183 => 82
 | 184 => 123
 | 185 => 44
 | 188 => 122
 | 189 => 136
 | 190 => 137
 | 191 => 148
 | 192 => 149
 | 193 => 142
 | 194 => 143
 | 195 => 80
 | 200 => 52
 | 201 => 96
 | 202 => 42
 | 205 => 43
 | 206 => 13
 | 209 => 27
 | 211 => 30
 | 212 => 51
 | 213 => 12
 | 214 => 55
 | 293 => 91
 | 294 => 90
 | 295 => 85
 | 296 => 86
 | 297 => 88
 | 298 => 87
 | 299 => 89
 | 300 => 45
 | 301 => 127
 | 302 => 66
 | 303 => 75
 | 312 => 129
 | 313 => 125
 | 314 => 144
 | 316 => 106
 | 318 => 108
 | 320 => 110
 | 322 => 64
 | 323 => 104
 | 324 => 107
 | 325 => 109
 | 326 => 111
 | 327 => 54
 | 329 => 92
 | 331 => 29
 | 332 => 147
 | 333 => 130
 | 334 => 95
 | 348 => 11
 | 349 => 15
 | 350 => 38
 | 351 => 37
 | 352 => 36
 | 353 => 9
 | 354 => 40
 | 355 => 14
 | 356 => 46
 | 357 => 16
 | 358 => 47
 | 359 => 17
 | 360 => 18
 | 361 => 56
 | 362 => 57
 | 363 => 32
 | 364 => 59
 | 365 => 33
 | 366 => 60
 | 367 => 61
 | 368 => 34
 | 369 => 35
 | 370 => 71
 | 371 => 73
 | 372 => 74
 | 373 => 98
 | 374 => 101
 | 375 => 10
 | 376 => 48
 | 377 => 19
 | 379 => 25
 | 382 => 50
 | 386 => 28
 | 389 => 6
 | 390 => 7
 | 391 => 8
 | 392 => 3
 | 396 => 31
 | _ => 0
def gnum : Nat → Nat
 | 0 => 3
 | 1 => 0
 | 3 => 2
 | 4 => 1
 | _ => 0
def gG : Nat → z5a
 | 0 => z1ra
 | 1 => z6Ob
 | 2 => z08b
 | 3 => z4eb
 | 4 => z4Na
 | 7 => z7ia
 | 8 => ofC
 | 10 => z40
 | 11 => z8Jc
 | 12 => z1Rb
 | 13 => z5ic
 | 15 => z6jb
 | 20 => z0vb
 | 21 => z9Ma
 | 23 => z0pa
 | 24 => z6ra
 | 25 => z40
 | 26 => z4fb
 | 28 => z5Na
 | 29 => z4ra
 | 30 => z2ob
 | 39 => z1G
 | 54 => z1F
 | 129 => z1y
 | 130 => z3rb
 | 132 => z1F
 | 133 => z8aa
 | 139 => z7ob
 | 149 => z8aa
 | 164 => inM
 | 165 => shM
 | 166 => z0Wa
 | 167 => z6Kb
 | 168 => z5la
 | 169 => z5Ga
 | 170 => z2Wb
 | 179 => z0db
 | 180 => z2ib
 | 181 => tzC
 | 182 => fgC z6Wb
 | 185 => z6ub
 | 188 => z3Oa
 | 189 => noC
 | 190 => tzC
 | 191 => noC
 | 192 => z2Wb
 | 193 => noC
 | 194 => z3Oa
 | 195 => z6Kb
 | 202 => z8nc
 | 205 => z8La
 | 206 => z6ad
 | 211 => z0db
 | 213 => z6ub
 | 214 => z7Lc
 | 293 => z5Zc
 | 294 => z9Zc
 | 295 => z8Ec
 | 296 => z0ad
 | 297 => z0cd
 | 298 => z3Eb
 | 299 => z5Db
 | 300 => z8ub
 | 301 => z7Ya
 | 302 => z9Db
 | 303 => z1Ma
 | 312 => z93a
 | 313 => z5sb
 | 314 => z1hb
 | 327 => z2Db
 | 331 => z8ub
 | 348 => z9hc
 | 349 => z0Qa
 | 350 => z1dc
 | 351 => z0Mc
 | 352 => z0Wb
 | 353 => z56c
 | 354 => z9nc
 | 355 => z1Ab
 | 356 => z2nb
 | 357 => z84c
 | 358 => z05a
 | 370 => z7mc
 | 371 => z1pb
 | 374 => z66a
 | 375 => z0Qa
 | 389 => z71a
 | 390 => z8Eb
 | 391 => z6zc
 | 392 => z13b
 | _ => ⟨fun _ => False, fun _ => .undef⟩
def gM : Nat → CM
 | 183 => z9ub
 | _ => ⟨[], [], fun _ => False, fun _ => .undef, fun _ _ => []⟩
def gI : Nat → ItC
 | 184 => z4lb
 | 372 => z3hc
 | _ => ⟨fun _ _ => False, fun _ _ _ => none, []⟩
def gT : Nat → List z2a := tX
def E0 : Env := { G := gG, T := gT, M := gM, I := gI }
noncomputable def K0 : Cx := { P := Tryz.prog, nu := nu, globs := [], N := { gnum := gnum, gs := [0, 1, 3, 4] }, E := E0 }
theorem v_n0 : z6a K0 0 z1ra := fV (F := z2D) [] Tryz.func133 (by kernel_rfl) trivial (z2jc E0)
theorem v_n13 : z6a K0 13 z5ic := fV (F := z5l) [] Tryz.func154 (by kernel_rfl) trivial (z8Tc E0)
theorem v_n10 : z6a K0 10 z40 := fV (F := z8s) [(13, false)] Tryz.func152 (by kernel_rfl) ⟨v_n13, trivial⟩ (z2zc E0 rfl)
theorem v_n11 : z6a K0 11 z8Jc := fV (F := z2X) [(13, false)] Tryz.func153 (by kernel_rfl) ⟨v_n13, trivial⟩ (z6rd E0 rfl)
theorem v_n4 : z6a K0 4 z4Na := fV (F := z2t) [(10, false), (11, false)] Tryz.func151 (by kernel_rfl) ⟨v_n10, v_n11, trivial⟩ (z0Ac E0 rfl rfl rfl)
theorem v_n1 : z6a K0 1 z6Ob := fV (F := z4o) [(4, false)] Tryz.func134 (by kernel_rfl) ⟨v_n4, trivial⟩ (z2cd E0 rfl)
theorem v_n12 : z6a K0 12 z1Rb := fV (F := z2L) [] Tryz.func68 (by kernel_rfl) trivial (z2ud E0)
theorem v_n7 : z6a K0 7 z7ia := fV (F := z9y) [(12, false)] Tryz.func113 (by kernel_rfl) ⟨v_n12, trivial⟩ (z5kc E0 rfl)
theorem v_n2 : z6a K0 2 z08b := fV (F := z5o) [(1, false)] Tryz.func135 (by kernel_rfl) ⟨v_n1, trivial⟩ (z3wd E0 rfl)
theorem v_n8 : z6a K0 8 ofC := fV (F := z4da) [(0, false), (1, false), (7, false), (2, false)] Tryz.func116 (by kernel_rfl) ⟨v_n0, v_n1, v_n7, v_n2, trivial⟩ (z62d E0 rfl rfl rfl rfl)
theorem v_n30 : z6a K0 30 z2ob := fV (F := z3k) [] Tryz.func141 (by kernel_rfl) trivial (z9Wc E0)
theorem v_n29 : z6a K0 29 z4ra := fV (F := z8h) [(30, false)] Tryz.func121 (by kernel_rfl) ⟨v_n30, trivial⟩ (z16b E0 rfl)
theorem v_n21 : z6a K0 21 z9Ma := fV (F := z8k) [(29, false)] Tryz.func78 (by kernel_rfl) ⟨v_n29, trivial⟩ (z3kc E0 rfl)
theorem v_n24 : z6a K0 24 z6ra := fV (F := z6j) [] Tryz.func138 (by kernel_rfl) trivial (z92b E0)
theorem v_n26 : z6a K0 26 z4fb := fV (F := z6l) [] Tryz.func140 (by kernel_rfl) trivial (z37c E0)
theorem v_n25 : z6a K0 25 z40 := fV (F := z6k) [(26, false)] Tryz.func139 (by kernel_rfl) ⟨v_n26, trivial⟩ (z7yc E0 rfl)
theorem v_n15 : z6a K0 15 z6jb := fV (F := z9m) [(24, false), (25, false), (26, false)] Tryz.func120 (by kernel_rfl) ⟨v_n24, v_n25, v_n26, trivial⟩ (z9Pc E0 rfl rfl rfl rfl)
theorem v_n28 : z6a K0 28 z5Na := fV (F := z9k) [(15, false)] Tryz.func77 (by kernel_rfl) ⟨v_n15, trivial⟩ (z2xc E0 rfl)
theorem v_n20 : z6a K0 20 z0vb := fV (F := z3o) [(21, false), (28, false)] Tryz.func41 (by kernel_rfl) ⟨v_n21, v_n28, trivial⟩ (z2Pd E0 rfl rfl)
theorem v_n3 : z6a K0 3 z4eb := fV (F := z4X) [(0, false), (1, false), (2, false)] Tryz.func124 (by kernel_rfl) ⟨v_n0, v_n1, v_n2, trivial⟩ (z8Sc E0 rfl rfl rfl)
theorem v_n165 : z6a K0 165 shM := fV (F := z6w) [(3, false)] Tryz.func83 (by kernel_rfl) ⟨v_n3, trivial⟩ (z17b E0 rfl)
theorem c_n180 : z2f K0 z4k Tryz.f39 = true := by kernel_rfl
theorem k_n180 : (z7b z4k.body).all (fun p => ([] : List (Nat × Bool)).contains p) = true := by kernel_rfl
theorem v_n180 : z6a K0 180 z2ib := z1kb 0 (z79 (K := K0) (f := 180) (F := z4k) (c := z8Qd) Tryz.func39 c_n180 (z0Q k_n180 (List.forall_mem_nil _)) (z3Vc E0) (by kernel_rfl)) z8jc
theorem c_n358 : z2f K0 z7e Tryz.f47 = true := by kernel_rfl
theorem k_n358 : (z7b z7e.body).all (fun p => ([] : List (Nat × Bool)).contains p) = true := by kernel_rfl
theorem v_n358 : z6a K0 358 z05a := z1kb 0 (z79 (K := K0) (f := 358) (F := z7e) (c := z2qc) Tryz.func47 c_n358 (z0Q k_n358 (List.forall_mem_nil _)) (z8Zc E0) (by kernel_rfl)) z8yc
theorem v_n139 : z6a K0 139 z7ob := Go.Abs.TryzG.grow_valid rfl rfl ⟨Tryz.f115, Tryz.func115, by kernel_rfl, by kernel_rfl⟩
theorem v_n374 : z6a K0 374 z66a := Go.Abs.TryzH.grow_valid rfl rfl ⟨Tryz.f101, Tryz.func101, by kernel_rfl, by kernel_rfl⟩
theorem c_n184 : z38b K0 z0j Tryz.f123 = true := by kernel_rfl
theorem k_n184 : z5s z0j.body = [] := by kernel_rfl
theorem v_n184 : z0x K0 184 z4lb := z79a (K := K0) (f := 184) (F := z0j) Tryz.func123 c_n184 (by rw [k_n184]; exact List.forall_mem_nil _) (z3Sc E0)
theorem v_n389 : z6a K0 389 z71a := fV (F := z3i) [] Tryz.func6 (by kernel_rfl) trivial (z5Qc E0)
theorem v_n54 : z6a K0 54 z1F := fV (F := z7f) [] Tryz.func97 (by kernel_rfl) trivial (z6Zb E0)
theorem v_n149 : z6a K0 149 z8aa := fV (F := z9i) [(54, false)] Tryz.func53 (by kernel_rfl) ⟨v_n54, trivial⟩ (z6oc E0 rfl)
theorem v_n327 : z6a K0 327 z2Db := fV (F := z9h) [] Tryz.func54 (by kernel_rfl) trivial (z2Pc E0)
theorem v_n331 : z6a K0 331 z8ub := fV (F := z5k) [(149, false), (327, false)] Tryz.func29 (by kernel_rfl) ⟨v_n149, v_n327, trivial⟩ (z4dd E0 rfl rfl)
theorem v_n214 : z6a K0 214 z7Lc := fV (F := z5j) [] Tryz.func55 (by kernel_rfl) trivial (z7kc E0)
theorem v_n211 : z6a K0 211 z0db := fV (F := z2d) [(214, false)] Tryz.func30 (by kernel_rfl) ⟨v_n214, trivial⟩ (z9Yc E0 rfl)
theorem v_n390 : z6a K0 390 z8Eb := fV (F := z7d) [(331, false), (211, false)] Tryz.func7 (by kernel_rfl) ⟨v_n331, v_n211, trivial⟩ (z5sc E0 rfl rfl)
theorem v_n349 : z6a K0 349 z0Qa := fV (F := z8K) [] Tryz.func15 (by kernel_rfl) trivial (z1Jd E0)
theorem v_n350 : z6a K0 350 z1dc := fV (F := z7u) [] Tryz.func38 (by kernel_rfl) trivial (z8vd E0)
theorem v_n193 : z6a K0 193 noC := fV (F := z8m) [] Tryz.func142 (by kernel_rfl) trivial (z4Xb E0)
theorem v_n194 : z6a K0 194 z3Oa := fV (F := z0k) [] Tryz.func143 (by kernel_rfl) trivial (z5Yb E0)
theorem v_n188 : z6a K0 188 z3Oa := fV (F := z3n) [(193, false), (194, false)] Tryz.func122 (by kernel_rfl) ⟨v_n193, v_n194, trivial⟩ (z9dd E0 rfl)
theorem v_n179 : z6a K0 179 z0db := fV (F := z3m) [(188, false)] Tryz.func81 (by kernel_rfl) ⟨v_n188, trivial⟩ (z2rd E0 rfl)
theorem v_n164 : z6a K0 164 inM := fV (F := z8q) [(7, false)] Tryz.func117 (by kernel_rfl) ⟨v_n7, trivial⟩ (z45b E0 rfl)
theorem v_n166 : z6a K0 166 z0Wa := fV (F := z4u) [(164, false)] Tryz.func118 (by kernel_rfl) ⟨v_n164, trivial⟩ (z02c E0 rfl)
theorem v_n189 : z6a K0 189 noC := fV (F := z5i) [] Tryz.func136 (by kernel_rfl) trivial (z5Wc E0)
theorem v_n190 : z6a K0 190 tzC := fV (F := z3g) [] Tryz.func137 (by kernel_rfl) trivial (z8ad E0 rfl)
theorem v_n181 : z6a K0 181 tzC := fV (F := z1i) [(189, false), (190, false)] Tryz.func119 (by kernel_rfl) ⟨v_n189, v_n190, trivial⟩ (z98d E0 rfl)
theorem v_n169 : z6a K0 169 z5Ga := fV (F := z2u) [(164, false)] Tryz.func84 (by kernel_rfl) ⟨v_n164, trivial⟩ (z2bd E0 rfl)
theorem c_n182 : z2f K0 z2l Tryz.f76 = true := by kernel_rfl
theorem k_n182 : (z7b z2l.body).all (fun p => ([(179, false), (180, false), (166, false), (165, false), (181, false), (169, false)] : List (Nat × Bool)).contains p) = true := by kernel_rfl
theorem v_n182 : z6a K0 182 (fgC z6Wb) := z7oc (z79 (K := K0) (f := 182) (F := z2l) Tryz.func76 c_n182 (z0Q k_n182 (List.forall_mem_cons.2 ⟨v_n179, List.forall_mem_cons.2 ⟨v_n180, List.forall_mem_cons.2 ⟨v_n166, List.forall_mem_cons.2 ⟨v_n165, List.forall_mem_cons.2 ⟨v_n181, List.forall_mem_cons.2 ⟨v_n169, List.forall_mem_nil _⟩⟩⟩⟩⟩⟩)) (z9od E0 rfl rfl rfl rfl rfl rfl) (by kernel_rfl))
theorem v_n39 : z6a K0 39 z1G := fV (F := z3C) [(12, false)] Tryz.func112 (by kernel_rfl) ⟨v_n12, trivial⟩ (z6Yc E0 rfl)
theorem v_n129 : z6a K0 129 z1y := fV (F := z0p) [(139, false)] Tryz.func67 (by kernel_rfl) ⟨v_n139, trivial⟩ (z9Xb E0 rfl)
theorem v_n130 : z6a K0 130 z3rb := fV (F := z2n) [(12, false), (7, false), (39, false), (129, false)] Tryz.func114 (by kernel_rfl) ⟨v_n12, v_n7, v_n39, v_n129, trivial⟩ (z45c E0 rfl rfl rfl rfl)
theorem v_n302 : z6a K0 302 z9Db := fV (F := z5r) [(39, false), (130, false), (7, false), (12, false), (129, false)] Tryz.func66 (by kernel_rfl) ⟨v_n39, v_n130, v_n7, v_n12, v_n129, trivial⟩ (z8mc E0 rfl rfl rfl rfl rfl)
theorem v_n303 : z6a K0 303 z1Ma := fV (F := z7q) [(302, false), (8, false)] Tryz.func75 (by kernel_rfl) ⟨v_n302, v_n8, trivial⟩ (z7sc E0 rfl rfl)
theorem c_n372 : z38b K0 z0f Tryz.f74 = true := by kernel_rfl
theorem k_n372 : z5s z0f.body = [(303, false)] := by kernel_rfl
theorem v_n372 : z0x K0 372 z3hc := z79a (K := K0) (f := 372) (F := z0f) Tryz.func74 c_n372 (by rw [k_n372]; exact List.forall_mem_cons.2 ⟨v_n303, List.forall_mem_nil _⟩) (z4ed E0 rfl)
theorem i_n354 : z2F z0i.body = [372] := by kernel_rfl
theorem c_n354 : z2f K0 z0i Tryz.f40 = true := by kernel_rfl
theorem k_n354 : (z7b z0i.body).all (fun p => ([(350, false), (182, false)] : List (Nat × Bool)).contains p) = true := by kernel_rfl
theorem v_n354 : z6a K0 354 z9nc := z7ra (K := K0) (f := 354) (F := z0i) Tryz.func40 c_n354 (z0Q k_n354 (List.forall_mem_cons.2 ⟨v_n350, List.forall_mem_cons.2 ⟨v_n182, List.forall_mem_nil _⟩⟩)) (z4qd E0 rfl rfl rfl) (by rw [i_n354]; exact List.forall_mem_cons.2 ⟨v_n372, List.forall_mem_nil _⟩) (by kernel_rfl) (by kernel_rfl)
theorem v_n348 : z6a K0 348 z9hc := fV (F := z8u) [(349, false), (180, false), (354, false)] Tryz.func11 (by kernel_rfl) ⟨v_n349, v_n180, v_n354, trivial⟩ (z3zd E0 rfl rfl rfl)
theorem i_n371 : z2F z7a.body = [372] := by kernel_rfl
theorem c_n371 : z2f K0 z7a Tryz.f73 = true := by kernel_rfl
theorem k_n371 : (z7b z7a.body).all (fun p => ([] : List (Nat × Bool)).contains p) = true := by kernel_rfl
theorem v_n371 : z6a K0 371 z1pb := z7ra (K := K0) (f := 371) (F := z7a) Tryz.func73 c_n371 (z0Q k_n371 (List.forall_mem_nil _)) (z70c E0 rfl) (by rw [i_n371]; exact List.forall_mem_cons.2 ⟨v_n372, List.forall_mem_nil _⟩) (by kernel_rfl) (by kernel_rfl)
theorem v_n351 : z6a K0 351 z0Mc := fV (F := z4d) [(371, false)] Tryz.func37 (by kernel_rfl) ⟨v_n371, trivial⟩ (z0Ld E0 rfl)
theorem c_n183 : z2f K0 z1f Tryz.f82 = true := by kernel_rfl
theorem k_n183 : (z7b z1f.body).all (fun p => ([] : List (Nat × Bool)).contains p) = true := by kernel_rfl
theorem v_n183 : z5y K0 183 z9ub := z5Wa (K := K0) (f := 183) (F := z1f) Tryz.func82 c_n183 (z0Q k_n183 (List.forall_mem_nil _)) (by decide) (z6Fd E0) (by kernel_rfl) (by kernel_rfl)
theorem i_n370 : z2F z0l.body = [184] := by kernel_rfl
theorem c_n370 : z2f K0 z0l Tryz.f71 = true := by kernel_rfl
theorem k_n370 : (z7b z0l.body).all (fun p => ([(183, true), (8, false)] : List (Nat × Bool)).contains p) = true := by kernel_rfl
theorem v_n370 : z6a K0 370 z7mc := z7ra (K := K0) (f := 370) (F := z0l) Tryz.func71 c_n370 (z0Q k_n370 (List.forall_mem_cons.2 ⟨v_n183, List.forall_mem_cons.2 ⟨v_n8, List.forall_mem_nil _⟩⟩)) (z2sd E0 rfl rfl rfl) (by rw [i_n370]; exact List.forall_mem_cons.2 ⟨v_n184, List.forall_mem_nil _⟩) (by kernel_rfl) (by kernel_rfl)
theorem v_n191 : z6a K0 191 noC := fV (F := z0F) [] Tryz.func148 (by kernel_rfl) trivial (z6tc E0)
theorem v_n192 : z6a K0 192 z2Wb := fV (F := z0u) [] Tryz.func149 (by kernel_rfl) trivial (z8ic E0)
theorem v_n170 : z6a K0 170 z2Wb := fV (F := z0M) [(191, false), (192, false)] Tryz.func131 (by kernel_rfl) ⟨v_n191, v_n192, trivial⟩ (z3Pd E0 rfl)
theorem v_n167 : z6a K0 167 z6Kb := fV (F := z7r) [(170, false)] Tryz.func99 (by kernel_rfl) ⟨v_n170, trivial⟩ (z4Bc E0 rfl)
theorem c_n168 : ∀ c', z2f (K0.wG 168 c') z9e Tryz.f72 = true := fun c' => by kernel_rfl
theorem k_n168 : (z7b z9e.body).all (fun p => p == (168, false) || ([(164, false), (165, false), (166, false), (167, false), (169, false)] : List (Nat × Bool)).contains p) = true := by kernel_rfl
theorem v_n168 : z6a K0 168 z5la := z97 (K := K0) (f := 168) (F := z9e) z4Za Tryz.func72 c_n168 (z0he k_n168 (List.forall_mem_cons.2 ⟨v_n164, List.forall_mem_cons.2 ⟨v_n165, List.forall_mem_cons.2 ⟨v_n166, List.forall_mem_cons.2 ⟨v_n167, List.forall_mem_cons.2 ⟨v_n169, List.forall_mem_nil _⟩⟩⟩⟩⟩)) (fun n => z53c _ n rfl rfl rfl rfl rfl rfl) (by kernel_rfl)
theorem c_n352 : ∀ c', z2f (K0.wG 352 c') z5f Tryz.f36 = true := fun c' => by kernel_rfl
theorem k_n352 : (z7b z5f.body).all (fun p => p == (352, false) || ([(370, false), (168, false)] : List (Nat × Bool)).contains p) = true := by kernel_rfl
theorem v_n352 : z6a K0 352 z0Wb := z97 (K := K0) (f := 352) (F := z5f) z38c Tryz.func36 c_n352 (z0he k_n352 (List.forall_mem_cons.2 ⟨v_n370, List.forall_mem_cons.2 ⟨v_n168, List.forall_mem_nil _⟩⟩)) (fun n => z23c _ n rfl rfl rfl) (by kernel_rfl)
theorem v_n353 : z6a K0 353 z56c := fV (F := z0o) [(348, false), (349, false), (350, false), (351, false), (352, false)] Tryz.func9 (by kernel_rfl) ⟨v_n348, v_n349, v_n350, v_n351, v_n352, trivial⟩ (z7Ad E0 rfl rfl rfl rfl rfl)
theorem v_n375 : z6a K0 375 z0Qa := fV (F := z2j) [] Tryz.func10 (by kernel_rfl) trivial (z3Xc E0)
theorem v_n23 : z6a K0 23 z0pa := fV (F := z1j) [] Tryz.func79 (by kernel_rfl) trivial (z0ac E0)
theorem v_n202 : z6a K0 202 z8nc := fV (F := z3j) [(23, false), (20, false)] Tryz.func42 (by kernel_rfl) ⟨v_n23, v_n20, trivial⟩ (z9xd E0 rfl rfl)
theorem v_n213 : z6a K0 213 z6ub := fV (F := z5g) [(211, false), (20, false), (202, false)] Tryz.func12 (by kernel_rfl) ⟨v_n211, v_n20, v_n202, trivial⟩ (z5Xc E0 rfl rfl rfl)
theorem i_n185 : z2F z2g.body = [184] := by kernel_rfl
theorem c_n185 : z2f K0 z2g Tryz.f44 = true := by kernel_rfl
theorem k_n185 : (z7b z2g.body).all (fun p => ([(179, false), (168, false), (183, true), (169, false), (165, false)] : List (Nat × Bool)).contains p) = true := by kernel_rfl
theorem v_n185 : z6a K0 185 z6ub := z7ra (K := K0) (f := 185) (F := z2g) Tryz.func44 c_n185 (z0Q k_n185 (List.forall_mem_cons.2 ⟨v_n179, List.forall_mem_cons.2 ⟨v_n168, List.forall_mem_cons.2 ⟨v_n183, List.forall_mem_cons.2 ⟨v_n169, List.forall_mem_cons.2 ⟨v_n165, List.forall_mem_nil _⟩⟩⟩⟩⟩)) (z6ud E0 rfl rfl rfl rfl rfl rfl) (by rw [i_n185]; exact List.forall_mem_cons.2 ⟨v_n184, List.forall_mem_nil _⟩) (by kernel_rfl) (by kernel_rfl)
theorem v_n355 : z6a K0 355 z1Ab := fV (F := z6L) [(349, false), (348, false), (185, false)] Tryz.func14 (by kernel_rfl) ⟨v_n349, v_n348, v_n185, trivial⟩ (z08c E0 rfl rfl rfl)
theorem v_n195 : z6a K0 195 z6Kb := fV (F := z7k) [] Tryz.func80 (by kernel_rfl) trivial (z6Zc E0)
theorem c_n205 : ∀ c', z2f (K0.wG 205 c') z7c Tryz.f43 = true := fun c' => by kernel_rfl
theorem k_n205 : (z7b z7c.body).all (fun p => p == (205, false) || ([(195, false), (202, false)] : List (Nat × Bool)).contains p) = true := by kernel_rfl
theorem v_n205 : z6a K0 205 z8La := z97 (K := K0) (f := 205) (F := z7c) z8Ta Tryz.func43 c_n205 (z0he k_n205 (List.forall_mem_cons.2 ⟨v_n195, List.forall_mem_cons.2 ⟨v_n202, List.forall_mem_nil _⟩⟩)) (fun n => z1vc _ n rfl rfl rfl) (by kernel_rfl)
theorem v_n206 : z6a K0 206 z6ad := fV (F := z3c) [(205, false)] Tryz.func13 (by kernel_rfl) ⟨v_n205, trivial⟩ (z8Od E0 rfl)
theorem v_n295 : z6a K0 295 z8Ec := fV (F := z4m) [] Tryz.func85 (by kernel_rfl) trivial (z4Jd E0)
theorem v_n296 : z6a K0 296 z0ad := fV (F := z3p) [(295, false)] Tryz.func86 (by kernel_rfl) ⟨v_n295, trivial⟩ (z0Od E0 rfl)
theorem v_n297 : z6a K0 297 z0cd := fV (F := z8o) [(296, false)] Tryz.func88 (by kernel_rfl) ⟨v_n296, trivial⟩ (z1Ad E0 rfl)
theorem v_n313 : z6a K0 313 z5sb := fV (F := z2c) [(297, false)] Tryz.func125 (by kernel_rfl) ⟨v_n297, trivial⟩ (z6Pc E0 rfl)
theorem v_n298 : z6a K0 298 z3Eb := fV (F := z8b) [(313, false)] Tryz.func87 (by kernel_rfl) ⟨v_n313, trivial⟩ (z6Qc E0 rfl)
theorem v_n294 : z6a K0 294 z9Zc := fV (F := z8x) [] Tryz.func90 (by kernel_rfl) trivial (z3Dd E0)
theorem v_n132 : z6a K0 132 z1F := fV (F := z1o) [] Tryz.func128 (by kernel_rfl) trivial (z3Nd E0)
theorem v_n133 : z6a K0 133 z8aa := fV (F := z4r) [(132, false)] Tryz.func126 (by kernel_rfl) ⟨v_n132, trivial⟩ (z7qc E0 rfl)
theorem v_n301 : z6a K0 301 z7Ya := fV (F := z2h) [] Tryz.func127 (by kernel_rfl) trivial (z9rc E0)
theorem v_n299 : z6a K0 299 z5Db := fV (F := z0z) [(133, false), (301, false), (132, false)] Tryz.func89 (by kernel_rfl) ⟨v_n133, v_n301, v_n132, trivial⟩ (z1jc E0 rfl rfl rfl)
theorem v_n314 : z6a K0 314 z1hb := fV (F := z9q) [] Tryz.func144 (by kernel_rfl) trivial (z6dd E0)
theorem v_n312 : z6a K0 312 z93a := fV (F := z8l) [(314, false)] Tryz.func129 (by kernel_rfl) ⟨v_n314, trivial⟩ (z13c E0 rfl)
theorem v_n293 : z6a K0 293 z5Zc := fV (F := z3r) [(312, false)] Tryz.func91 (by kernel_rfl) ⟨v_n312, trivial⟩ (z9ud E0 rfl)
theorem v_n300 : z6a K0 300 z8ub := fV (F := z0v) [(295, false), (298, false), (294, false), (299, false), (293, false)] Tryz.func45 (by kernel_rfl) ⟨v_n295, v_n298, v_n294, v_n299, v_n293, trivial⟩ (z7Wc E0 rfl rfl rfl rfl rfl)
theorem v_n356 : z6a K0 356 z2nb := fV (F := z8i) [] Tryz.func46 (by kernel_rfl) trivial (z3ad E0)
theorem v_n357 : z6a K0 357 z84c := fV (F := z2o) [(300, false), (349, false), (356, false)] Tryz.func16 (by kernel_rfl) ⟨v_n300, v_n349, v_n356, trivial⟩ (z8Md E0 rfl rfl rfl)
end Go.Abs.V0
