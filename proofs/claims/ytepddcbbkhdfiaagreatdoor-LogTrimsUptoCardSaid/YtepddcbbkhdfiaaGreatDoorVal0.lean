/- The translated functions are those that the lemmas speak of; so each meets its contract. -/
import Derived.Test.YtepddcbbkhdfiaaGreatDoorRows
import Derived.Test.YtepddcbbkhdfiaaGreatDoorA
import Derived.Test.YtepddcbbkhdfiaaGreatDoorB
import Derived.Test.YtepddcbbkhdfiaaGreatDoorC
import Derived.Test.YtepddcbbkhdfiaaGreatDoorD
import Derived.Test.YtepddcbbkhdfiaaGreatDoorE
import Derived.Test.YtepddcbbkhdfiaaGreatDoorF
import Derived.Test.YtepddcbbkhdfiaaGreatDoorG
import Derived.Test.YtepddcbbkhdfiaaGreatDoorH
import Derived.Test.YtepddcbbkhdfiaaGreatDoorI
import Derived.Test.YtepddcbbkhdfiaaGreatDoorJ
import Derived.Test.YtepddcbbkhdfiaaGreatDoorK
import Derived.Test.YtepddcbbkhdfiaaGreatDoorL
import Derived.Test.YtepddcbbkhdfiaaGreatDoorM
import Derived.Test.YtepddcbbkhdfiaaGreatDoorN
import Derived.Test.YtepddcbbkhdfiaaGreatDoorO
import Derived.Test.YtepddcbbkhdfiaaGreatDoorP
import Derived.Test.YtepddcbbkhdfiaaGreatDoorQ
import Derived.Test.YtepddcbbkhdfiaaGreatDoorR
import Derived.Test.YtepddcbbkhdfiaaGreatDoorS
import Derived.Test.YtepddcbbkhdfiaaGreatDoorT
import Derived.Test.YtepddcbbkhdfiaaGreatDoorU
import Derived.Test.YtepddcbbkhdfiaaGreatDoorV
import Derived.Test.YtepddcbbkhdfiaaGreatDoorW
import Derived.Test.YtepddcbbkhdfiaaGreatDoorX
import Derived.Test.YtepddcbbkhdfiaaGreatDoorY
import Derived.Test.YtepddcbbkhdfiaaGreatDoorZ
import Derived.Test.YtepddcbbkhdfiaaGreatDoorA1
import Derived.Test.YtepddcbbkhdfiaaGreatDoorB1
import Derived.Test.YtepddcbbkhdfiaaGreatDoorC1
import Derived.KernelRfl
set_option linter.unusedSimpArgs false
set_option linter.unusedVariables false
set_option linter.unusedSectionVars false
namespace Go.Abs.V0
open Go.Proofs
set_option maxRecDepth 100000
def nu : Nat → FuncId
 | 0 => 133
 | 1 => 134
 | 2 => 135
 | 3 => 124
 | 4 => 151
 | 7 => 113
 | 8 => 116
 | 10 => 152
 | 11 => 153
 | 12 => 68
 | 13 => 154
 | 15 => 120
 | 20 => 41
 | 21 => 78
 | 23 => 79
 | 24 => 138
 | 25 => 139
 | 26 => 140
 | 28 => 77
 | 29 => 121
 | 30 => 141
 | 39 => 112
 | 40 => 145
 | 41 => 69
 | 43 => 70
 | 45 => 62
 | 47 => 102
 | 48 => 103
 | 51 => 132
 | 52 => 105
 | 54 => 97
 | 55 => 63
 | 58 => 65
 | 60 => 20
 | 61 => 150
 | 129 => 67
 | 130 => 114
 | 132 => 128
 | 133 => 126
 | 139 => 115
 | 147 => 146
 | 149 => 53
 | 164 => 117
 | 165 => 83
 | 166 => 118
 | 167 => 99
 | 168 => 72
 | 169 => 84
 | 170 => 131
 | 174 => 100
 | 175 => 100
 | 176 => 58
 | 179 => 81
 | 180 => 39
 | 181 => 119
 | 182 => 76
 | 183 => 82
 | 184 => 123
 | 185 => 44
 | 188 => 122
 | 189 => 136
 | 190 => 137
 | 191 => 148
 | 192 => 149
 | 193 => 142
 | 194 => 143
 | 200 => 52
 | 201 => 96
 | 202 => 42
 | 209 => 27
 | 211 => 30
 | 212 => 51
 | 213 => 12
 | 214 => 55
 | 293 => 91
 | 294 => 90
 | 295 => 85
 | 296 => 86
 | 297 => 88
 | 298 => 87
 | 299 => 89
 | 300 => 45
 | 301 => 127
 | 302 => 66
 | 303 => 75
 | 312 => 129
 | 313 => 125
 | 314 => 144
 | 316 => 106
 | 318 => 108
 | 320 => 110
 | 322 => 64
 | 323 => 104
 | 324 => 107
 | 325 => 109
 | 326 => 111
 | 327 => 54
 | 329 => 92
 | 331 => 29
 | 332 => 147
 | 333 => 130
 | 334 => 95
 | 348 => 11
 | 349 => 15
 | 350 => 38
 | 351 => 37
 | 352 => 36
 | 353 => 9
 | 354 => 40
 | 355 => 14
 | 356 => 46
 | 357 => 16
 | 358 => 47
 | 359 => 17
 | 360 => 18
 | 361 => 56
 | 362 => 57
 | 363 => 32
 | 364 => 59
 | 365 => 33
 | 366 => 60
 | 367 => 61
 | 368 => 34
 | 369 => 35
 | 370 => 71
 | 371 => 73
 | 372 => 74
 | 373 => 98
 | 374 => 101
 | 375 => 10
 | 376 => 48
 | 377 => 19
 | 379 => 25
 | 382 => 50
 | 386 => 28
 | 389 => 6
 | 390 => 7
 | 391 => 8
 | 393 => 4
 | 396 => 31
 | _ => 0
def gnum : Nat → Nat
 | 0 => 3
 | 1 => 0
 | 3 => 2
 | 4 => 1
 | _ => 0
def gG : Nat → z1f
 | 0 => z0sb
 | 1 => z8sc
 | 2 => z2Lc
 | 3 => z43b
 | 4 => z0Mb
 | 7 => z7lb
 | 8 => ofC
 | 10 => z96a
 | 11 => z0fd
 | 12 => z2L
 | 13 => z6Zc
 | 15 => z1jc
 | 20 => z22c
 | 21 => z4Lb
 | 24 => z7ob
 | 25 => z96a
 | 26 => z34b
 | 28 => z8Lb
 | 29 => z2pb
 | 30 => z0ic
 | 39 => z0Ra
 | 54 => z4Oa
 | 60 => z79a
 | 129 => z3Ja
 | 130 => z7ac
 | 132 => z4Oa
 | 133 => z4ab
 | 139 => z5dc
 | 149 => z4ab
 | 164 => inM
 | 165 => shM
 | 166 => z8Pb
 | 167 => z8ed
 | 168 => z0ob
 | 169 => z1Lb
 | 170 => z2Hc
 | 179 => z4kc
 | 180 => z4gc
 | 181 => tzC
 | 182 => fgC z6Gc
 | 185 => z5Zc
 | 188 => z6Mb
 | 189 => noC
 | 190 => tzC
 | 191 => noC
 | 192 => z2Hc
 | 193 => noC
 | 194 => z6Mb
 | 211 => z4kc
 | 214 => z6gd
 | 293 => z0Bd
 | 294 => z7wd
 | 295 => z0jd
 | 296 => z5md
 | 297 => z0Cd
 | 298 => z6pc
 | 299 => z1Mb
 | 300 => z2kc
 | 301 => z4Vb
 | 302 => z7kc
 | 303 => z3Gb
 | 312 => z5Yb
 | 313 => z2gc
 | 314 => z87b
 | 327 => z1qc
 | 329 => z1Mb
 | 331 => z2kc
 | 348 => z7Mc
 | 349 => z1Fb
 | 350 => z2Sc
 | 351 => z6jd
 | 352 => z1Hc
 | 353 => z0cd
 | 354 => z83c
 | 355 => z6cc
 | 356 => z7bc
 | 357 => z0qd
 | 358 => z8vb
 | 359 => z8xd
 | 360 => z0id
 | 370 => z87c
 | 371 => z3jc
 | 374 => z40b
 | 375 => z1Fb
 | 376 => z0Fd
 | 377 => z6ac
 | 389 => z9Vb
 | 390 => z7qc
 | 391 => z9Gc
 | 393 => z0Mc
 | _ => ⟨fun _ => False, fun _ => .undef⟩
def gM : Nat → CM
 | 183 => z6kc
 | _ => ⟨[], [], fun _ => False, fun _ => .undef, fun _ _ => []⟩
def gI : Nat → ItC
 | 184 => z9ec
 | 372 => z9Wc
 | _ => ⟨fun _ _ => False, fun _ _ _ => none, []⟩
def gT : Nat → List z0a := tX
def E0 : Env := { G := gG, T := gT, M := gM, I := gI }
noncomputable def K0 : Cx := { P := Tryz.prog, nu := nu, globs := [], N := { gnum := gnum, gs := [0, 1, 3, 4] }, E := E0 }
theorem v_n0 : z1a K0 0 z0sb := fV (F := z2Oa) [] Tryz.func133 (by kernel_rfl) trivial (z8dd E0)
theorem v_n13 : z1a K0 13 z6Zc := fV (F := z8xa) [] Tryz.func154 (by kernel_rfl) trivial (z2Ad E0)
theorem v_n10 : z1a K0 10 z96a := fV (F := z9Da) [(13, false)] Tryz.func152 (by kernel_rfl) ⟨v_n13, trivial⟩ (z5ad E0 rfl)
theorem v_n11 : z1a K0 11 z0fd := fV (F := z83a) [(13, false)] Tryz.func153 (by kernel_rfl) ⟨v_n13, trivial⟩ (z7Sd E0 rfl)
theorem v_n4 : z1a K0 4 z0Mb := fV (F := z7Da) [(10, false), (11, false)] Tryz.func151 (by kernel_rfl) ⟨v_n10, v_n11, trivial⟩ (z7ad E0 rfl rfl rfl)
theorem v_n1 : z1a K0 1 z8sc := fV (F := z2Aa) [(4, false)] Tryz.func134 (by kernel_rfl) ⟨v_n4, trivial⟩ (z3sd E0 rfl)
theorem v_n12 : z1a K0 12 z2L := fV (F := z1d) [] Tryz.func68 (by kernel_rfl) trivial (z8X E0)
theorem v_n7 : z1a K0 7 z7lb := fV (F := z5Ja) [(12, false)] Tryz.func113 (by kernel_rfl) ⟨v_n12, trivial⟩ (z4ad E0 rfl)
theorem v_n2 : z1a K0 2 z2Lc := fV (F := z0Aa) [(1, false)] Tryz.func135 (by kernel_rfl) ⟨v_n1, trivial⟩ (z5Zd E0 rfl)
theorem v_n8 : z1a K0 8 ofC := fV (F := z5fb) [(0, false), (1, false), (7, false), (2, false)] Tryz.func116 (by kernel_rfl) ⟨v_n0, v_n1, v_n7, v_n2, trivial⟩ (z78d E0 rfl rfl rfl rfl)
theorem v_n30 : z1a K0 30 z0ic := fV (F := z4wa) [] Tryz.func141 (by kernel_rfl) trivial (z0ud E0)
theorem v_n29 : z1a K0 29 z2pb := fV (F := z1ua) [(30, false)] Tryz.func121 (by kernel_rfl) ⟨v_n30, trivial⟩ (z1Ic E0 rfl)
theorem v_n21 : z1a K0 21 z4Lb := fV (F := z6wa) [(29, false)] Tryz.func78 (by kernel_rfl) ⟨v_n29, trivial⟩ (z9ad E0 rfl)
theorem v_n24 : z1a K0 24 z7ob := fV (F := z8va) [] Tryz.func138 (by kernel_rfl) trivial (z2Jc E0)
theorem v_n26 : z1a K0 26 z34b := fV (F := z7xa) [] Tryz.func140 (by kernel_rfl) trivial (z6xd E0)
theorem v_n25 : z1a K0 25 z96a := fV (F := z5wa) [(26, false)] Tryz.func139 (by kernel_rfl) ⟨v_n26, trivial⟩ (z51c E0 rfl)
theorem v_n15 : z1a K0 15 z1jc := fV (F := z6ya) [(24, false), (25, false), (26, false)] Tryz.func120 (by kernel_rfl) ⟨v_n24, v_n25, v_n26, trivial⟩ (z4od E0 rfl rfl rfl rfl)
theorem v_n28 : z1a K0 28 z8Lb := fV (F := z8wa) [(15, false)] Tryz.func77 (by kernel_rfl) ⟨v_n15, trivial⟩ (z58c E0 rfl)
theorem v_n20 : z1a K0 20 z22c := fV (F := z1Aa) [(21, false), (28, false)] Tryz.func41 (by kernel_rfl) ⟨v_n21, v_n28, trivial⟩ (z80d E0 rfl rfl)
theorem v_n3 : z1a K0 3 z43b := fV (F := z23a) [(0, false), (1, false), (2, false)] Tryz.func124 (by kernel_rfl) ⟨v_n0, v_n1, v_n2, trivial⟩ (z5sd E0 rfl rfl rfl)
theorem v_n165 : z1a K0 165 shM := fV (F := z0Ha) [(3, false)] Tryz.func83 (by kernel_rfl) ⟨v_n3, trivial⟩ (z6Jc E0 rfl)
theorem c_n180 : z5sa K0 z0wa Tryz.f39 = true := by kernel_rfl
theorem k_n180 : (z4a z0wa.body).all (fun p => ([] : List (Nat × Bool)).contains p) = true := by kernel_rfl
theorem v_n180 : z1a K0 180 z4gc := z5hc 0 (z0jb (K := K0) (f := 180) (F := z0wa) (c := z55d) Tryz.func39 c_n180 (z8c k_n180 (List.forall_mem_nil _)) (z8Cd E0) (by kernel_rfl)) z6ad
theorem c_n358 : z5sa K0 z2sa Tryz.f47 = true := by kernel_rfl
theorem k_n358 : (z4a z2sa.body).all (fun p => ([] : List (Nat × Bool)).contains p) = true := by kernel_rfl
theorem v_n358 : z1a K0 358 z8vb := z5hc 0 (z0jb (K := K0) (f := 358) (F := z2sa) (c := z19c) Tryz.func47 c_n358 (z8c k_n358 (List.forall_mem_nil _)) (z0xd E0) (by kernel_rfl)) z3ad
theorem v_n139 : z1a K0 139 z5dc := Go.Abs.TryzG.grow_valid rfl rfl ⟨Tryz.f115, Tryz.func115, by kernel_rfl, by kernel_rfl⟩
theorem v_n374 : z1a K0 374 z40b := Go.Abs.TryzH.grow_valid rfl rfl ⟨Tryz.f101, Tryz.func101, by kernel_rfl, by kernel_rfl⟩
theorem c_n184 : z5Wc K0 z6va Tryz.f123 = true := by kernel_rfl
theorem k_n184 : z5Da z6va.body = [] := by kernel_rfl
theorem v_n184 : z8Ha K0 184 z9ec := z54b (K := K0) (f := 184) (F := z6va) Tryz.func123 c_n184 (by rw [k_n184]; exact List.forall_mem_nil _) (z9qd E0)
theorem v_n389 : z1a K0 389 z9Vb := fV (F := z5ua) [] Tryz.func6 (by kernel_rfl) trivial (z9kd E0)
theorem v_n54 : z1a K0 54 z4Oa := fV (F := z0ta) [] Tryz.func97 (by kernel_rfl) trivial (z4Jc E0)
theorem v_n149 : z1a K0 149 z4ab := fV (F := z7va) [(54, false)] Tryz.func53 (by kernel_rfl) ⟨v_n54, trivial⟩ (z82c E0 rfl)
theorem v_n327 : z1a K0 327 z1qc := fV (F := z2ua) [] Tryz.func54 (by kernel_rfl) trivial (z6od E0)
theorem v_n331 : z1a K0 331 z2kc := fV (F := z7wa) [(149, false), (327, false)] Tryz.func29 (by kernel_rfl) ⟨v_n149, v_n327, trivial⟩ (z3kd E0 rfl rfl)
theorem v_n214 : z1a K0 214 z6gd := fV (F := z3va) [] Tryz.func55 (by kernel_rfl) trivial (z96c E0)
theorem v_n211 : z1a K0 211 z4kc := fV (F := z2ra) [(214, false)] Tryz.func30 (by kernel_rfl) ⟨v_n214, trivial⟩ (z8md E0 rfl)
theorem v_n390 : z1a K0 390 z7qc := fV (F := z4ra) [(331, false), (211, false)] Tryz.func7 (by kernel_rfl) ⟨v_n331, v_n211, trivial⟩ (z00c E0 rfl rfl)
theorem v_n349 : z1a K0 349 z1Fb := fV (F := z7Ta) [] Tryz.func15 (by kernel_rfl) trivial (z5Wd E0)
theorem v_n350 : z1a K0 350 z2Sc := fV (F := z8Ea) [] Tryz.func38 (by kernel_rfl) trivial (z1Sd E0)
theorem v_n193 : z1a K0 193 noC := fV (F := z5ya) [] Tryz.func142 (by kernel_rfl) trivial (z9Qc E0)
theorem v_n194 : z1a K0 194 z6Mb := fV (F := z1wa) [] Tryz.func143 (by kernel_rfl) trivial (z0Uc E0)
theorem v_n188 : z1a K0 188 z6Mb := fV (F := z0za) [(193, false), (194, false)] Tryz.func122 (by kernel_rfl) ⟨v_n193, v_n194, trivial⟩ (z3od E0 rfl)
theorem v_n179 : z1a K0 179 z4kc := fV (F := z0ya) [(188, false)] Tryz.func81 (by kernel_rfl) ⟨v_n188, trivial⟩ (z2Md E0 rfl)
theorem v_n164 : z1a K0 164 inM := fV (F := z3Ca) [(7, false)] Tryz.func117 (by kernel_rfl) ⟨v_n7, trivial⟩ (z7Xc E0 rfl)
theorem v_n166 : z1a K0 166 z8Pb := fV (F := z7Fa) [(164, false)] Tryz.func118 (by kernel_rfl) ⟨v_n164, trivial⟩ (z6yd E0 rfl)
theorem v_n189 : z1a K0 189 noC := fV (F := z6ua) [] Tryz.func136 (by kernel_rfl) trivial (z6Ad E0)
theorem v_n190 : z1a K0 190 tzC := fV (F := z2ta) [] Tryz.func137 (by kernel_rfl) trivial (z3rd E0 rfl)
theorem v_n181 : z1a K0 181 tzC := fV (F := z3ua) [(189, false), (190, false)] Tryz.func119 (by kernel_rfl) ⟨v_n189, v_n190, trivial⟩ (z46d E0 rfl)
theorem v_n169 : z1a K0 169 z1Lb := fV (F := z9Ea) [(164, false)] Tryz.func84 (by kernel_rfl) ⟨v_n164, trivial⟩ (z1Bd E0 rfl)
theorem c_n182 : z5sa K0 z0xa Tryz.f76 = true := by kernel_rfl
theorem k_n182 : (z4a z0xa.body).all (fun p => ([(179, false), (180, false), (166, false), (165, false), (181, false), (169, false)] : List (Nat × Bool)).contains p) = true := by kernel_rfl
theorem v_n182 : z1a K0 182 (fgC z6Gc) := z53c (z0jb (K := K0) (f := 182) (F := z0xa) Tryz.func76 c_n182 (z8c k_n182 (List.forall_mem_cons.2 ⟨v_n179, List.forall_mem_cons.2 ⟨v_n180, List.forall_mem_cons.2 ⟨v_n166, List.forall_mem_cons.2 ⟨v_n165, List.forall_mem_cons.2 ⟨v_n181, List.forall_mem_cons.2 ⟨v_n169, List.forall_mem_nil _⟩⟩⟩⟩⟩⟩)) (z8Xd E0 rfl rfl rfl rfl rfl rfl) (by kernel_rfl))
theorem v_n39 : z1a K0 39 z0Ra := fV (F := z7La) [(12, false)] Tryz.func112 (by kernel_rfl) ⟨v_n12, trivial⟩ (z7nd E0 rfl)
theorem v_n129 : z1a K0 129 z3Ja := fV (F := z3Aa) [(139, false)] Tryz.func67 (by kernel_rfl) ⟨v_n139, trivial⟩ (z1Mc E0 rfl)
theorem v_n130 : z1a K0 130 z7ac := fV (F := z1za) [(12, false), (7, false), (39, false), (129, false)] Tryz.func114 (by kernel_rfl) ⟨v_n12, v_n7, v_n39, v_n129, trivial⟩ (z4yd E0 rfl rfl rfl rfl)
theorem v_n302 : z1a K0 302 z7kc := fV (F := z1Ca) [(39, false), (130, false), (7, false), (12, false), (129, false)] Tryz.func66 (by kernel_rfl) ⟨v_n39, v_n130, v_n7, v_n12, v_n129, trivial⟩ (z80c E0 rfl rfl rfl rfl rfl)
theorem v_n303 : z1a K0 303 z3Gb := fV (F := z0Da) [(302, false), (8, false)] Tryz.func75 (by kernel_rfl) ⟨v_n302, v_n8, trivial⟩ (z0bd E0 rfl rfl)
theorem c_n372 : z5Wc K0 z3sa Tryz.f74 = true := by kernel_rfl
theorem k_n372 : z5Da z3sa.body = [(303, false)] := by kernel_rfl
theorem v_n372 : z8Ha K0 372 z9Wc := z54b (K := K0) (f := 372) (F := z3sa) Tryz.func74 c_n372 (by rw [k_n372]; exact List.forall_mem_cons.2 ⟨v_n303, List.forall_mem_nil _⟩) (z3Bd E0 rfl)
theorem i_n354 : z5Oa z4ua.body = [372] := by kernel_rfl
theorem c_n354 : z5sa K0 z4ua Tryz.f40 = true := by kernel_rfl
theorem k_n354 : (z4a z4ua.body).all (fun p => ([(350, false), (182, false)] : List (Nat × Bool)).contains p) = true := by kernel_rfl
theorem v_n354 : z1a K0 354 z83c := z6qb (K := K0) (f := 354) (F := z4ua) Tryz.func40 c_n354 (z8c k_n354 (List.forall_mem_cons.2 ⟨v_n350, List.forall_mem_cons.2 ⟨v_n182, List.forall_mem_nil _⟩⟩)) (z1Ud E0 rfl rfl rfl) (by rw [i_n354]; exact List.forall_mem_cons.2 ⟨v_n372, List.forall_mem_nil _⟩) (by kernel_rfl) (by kernel_rfl)
theorem v_n348 : z1a K0 348 z7Mc := fV (F := z8Fa) [(349, false), (180, false), (354, false)] Tryz.func11 (by kernel_rfl) ⟨v_n349, v_n180, v_n354, trivial⟩ (z7Pd E0 rfl rfl rfl)
theorem v_n359 : z1a K0 359 z8xd := fV (F := z8Ma) [(348, false), (358, false)] Tryz.func17 (by kernel_rfl) ⟨v_n348, v_n358, trivial⟩ (z11d E0 rfl rfl)
theorem v_n375 : z1a K0 375 z1Fb := fV (F := z4va) [] Tryz.func10 (by kernel_rfl) trivial (z0pd E0)
theorem v_n295 : z1a K0 295 z0jd := fV (F := z2ya) [] Tryz.func85 (by kernel_rfl) trivial (z8Zd E0)
theorem v_n296 : z1a K0 296 z5md := fV (F := z5Aa) [(295, false)] Tryz.func86 (by kernel_rfl) ⟨v_n295, trivial⟩ (z9Vd E0 rfl)
theorem v_n297 : z1a K0 297 z0Cd := fV (F := z6Aa) [(296, false)] Tryz.func88 (by kernel_rfl) ⟨v_n296, trivial⟩ (z0Xd E0 rfl)
theorem v_n313 : z1a K0 313 z2gc := fV (F := z6qa) [(297, false)] Tryz.func125 (by kernel_rfl) ⟨v_n297, trivial⟩ (z8zd E0 rfl)
theorem v_n298 : z1a K0 298 z6pc := fV (F := z1qa) [(313, false)] Tryz.func87 (by kernel_rfl) ⟨v_n313, trivial⟩ (z5wd E0 rfl)
theorem v_n294 : z1a K0 294 z7wd := fV (F := z0Ja) [] Tryz.func90 (by kernel_rfl) trivial (z7Id E0)
theorem v_n132 : z1a K0 132 z4Oa := fV (F := z9za) [] Tryz.func128 (by kernel_rfl) trivial (z6Od E0)
theorem v_n133 : z1a K0 133 z4ab := fV (F := z4Ca) [(132, false)] Tryz.func126 (by kernel_rfl) ⟨v_n132, trivial⟩ (z23c E0 rfl)
theorem v_n301 : z1a K0 301 z4Vb := fV (F := z4ta) [] Tryz.func127 (by kernel_rfl) trivial (z4dd E0)
theorem v_n299 : z1a K0 299 z1Mb := fV (F := z2Ja) [(133, false), (301, false), (132, false)] Tryz.func89 (by kernel_rfl) ⟨v_n133, v_n301, v_n132, trivial⟩ (z62c E0 rfl rfl rfl)
theorem v_n314 : z1a K0 314 z87b := fV (F := z2Ca) [] Tryz.func144 (by kernel_rfl) trivial (z1md E0)
theorem v_n312 : z1a K0 312 z5Yb := fV (F := z6xa) [(314, false)] Tryz.func129 (by kernel_rfl) ⟨v_n314, trivial⟩ (z0wd E0 rfl)
theorem v_n293 : z1a K0 293 z0Bd := fV (F := z6Ca) [(312, false)] Tryz.func91 (by kernel_rfl) ⟨v_n312, trivial⟩ (z5Td E0 rfl)
theorem v_n300 : z1a K0 300 z2kc := fV (F := z1Fa) [(295, false), (298, false), (294, false), (299, false), (293, false)] Tryz.func45 (by kernel_rfl) ⟨v_n295, v_n298, v_n294, v_n299, v_n293, trivial⟩ (z2xd E0 rfl rfl rfl rfl rfl)
theorem v_n356 : z1a K0 356 z7bc := fV (F := z2va) [] Tryz.func46 (by kernel_rfl) trivial (z0Ad E0)
theorem v_n357 : z1a K0 357 z0qd := fV (F := z6za) [(300, false), (349, false), (356, false)] Tryz.func16 (by kernel_rfl) ⟨v_n300, v_n349, v_n356, trivial⟩ (z6Md E0 rfl rfl rfl)
theorem v_n191 : z1a K0 191 noC := fV (F := z1Oa) [] Tryz.func148 (by kernel_rfl) trivial (z33c E0)
theorem v_n192 : z1a K0 192 z2Hc := fV (F := z6Ea) [] Tryz.func149 (by kernel_rfl) trivial (z34c E0)
theorem v_n170 : z1a K0 170 z2Hc := fV (F := z0Va) [(191, false), (192, false)] Tryz.func131 (by kernel_rfl) ⟨v_n191, v_n192, trivial⟩ (z7Od E0 rfl)
theorem v_n167 : z1a K0 167 z8ed := fV (F := z9Ca) [(170, false)] Tryz.func99 (by kernel_rfl) ⟨v_n170, trivial⟩ (z6cd E0 rfl)
theorem c_n168 : ∀ c', z5sa (K0.wG 168 c') z1sa Tryz.f72 = true := fun c' => by kernel_rfl
theorem k_n168 : (z4a z1sa.body).all (fun p => p == (168, false) || ([(164, false), (165, false), (166, false), (167, false), (169, false)] : List (Nat × Bool)).contains p) = true := by kernel_rfl
theorem v_n168 : z1a K0 168 z0ob := z5xb (K := K0) (f := 168) (F := z1sa) z6Tb Tryz.func72 c_n168 (z1H k_n168 (List.forall_mem_cons.2 ⟨v_n164, List.forall_mem_cons.2 ⟨v_n165, List.forall_mem_cons.2 ⟨v_n166, List.forall_mem_cons.2 ⟨v_n167, List.forall_mem_cons.2 ⟨v_n169, List.forall_mem_nil _⟩⟩⟩⟩⟩)) (fun n => z1sd _ n rfl rfl rfl rfl rfl rfl) (by kernel_rfl)
theorem c_n183 : z5sa K0 z4sa Tryz.f82 = true := by kernel_rfl
theorem k_n183 : (z4a z4sa.body).all (fun p => ([] : List (Nat × Bool)).contains p) = true := by kernel_rfl
theorem v_n183 : z7Ia K0 183 z6kc := z4Xb (K := K0) (f := 183) (F := z4sa) Tryz.func82 c_n183 (z8c k_n183 (List.forall_mem_nil _)) (by decide) (z3Nd E0) (by kernel_rfl) (by kernel_rfl)
theorem i_n185 : z5Oa z1ta.body = [184] := by kernel_rfl
theorem c_n185 : z5sa K0 z1ta Tryz.f44 = true := by kernel_rfl
theorem k_n185 : (z4a z1ta.body).all (fun p => ([(179, false), (168, false), (183, true), (169, false), (165, false)] : List (Nat × Bool)).contains p) = true := by kernel_rfl
theorem v_n185 : z1a K0 185 z5Zc := z6qb (K := K0) (f := 185) (F := z1ta) Tryz.func44 c_n185 (z8c k_n185 (List.forall_mem_cons.2 ⟨v_n179, List.forall_mem_cons.2 ⟨v_n168, List.forall_mem_cons.2 ⟨v_n183, List.forall_mem_cons.2 ⟨v_n169, List.forall_mem_cons.2 ⟨v_n165, List.forall_mem_nil _⟩⟩⟩⟩⟩)) (z4Qd E0 rfl rfl rfl rfl rfl rfl) (by rw [i_n185]; exact List.forall_mem_cons.2 ⟨v_n184, List.forall_mem_nil _⟩) (by kernel_rfl) (by kernel_rfl)
theorem v_n355 : z1a K0 355 z6cc := fV (F := z6Va) [(349, false), (348, false), (185, false)] Tryz.func14 (by kernel_rfl) ⟨v_n349, v_n348, v_n185, trivial⟩ (z5vd E0 rfl rfl rfl)
theorem i_n371 : z5Oa z9pa.body = [372] := by kernel_rfl
theorem c_n371 : z5sa K0 z9pa Tryz.f73 = true := by kernel_rfl
theorem k_n371 : (z4a z9pa.body).all (fun p => ([] : List (Nat × Bool)).contains p) = true := by kernel_rfl
theorem v_n371 : z1a K0 371 z3jc := z6qb (K := K0) (f := 371) (F := z9pa) Tryz.func73 c_n371 (z8c k_n371 (List.forall_mem_nil _)) (z3nd E0 rfl) (by rw [i_n371]; exact List.forall_mem_cons.2 ⟨v_n372, List.forall_mem_nil _⟩) (by kernel_rfl) (by kernel_rfl)
theorem v_n351 : z1a K0 351 z6jd := fV (F := z3ra) [(371, false)] Tryz.func37 (by kernel_rfl) ⟨v_n371, trivial⟩ (z8Yd E0 rfl)
theorem i_n370 : z5Oa z9wa.body = [184] := by kernel_rfl
theorem c_n370 : z5sa K0 z9wa Tryz.f71 = true := by kernel_rfl
theorem k_n370 : (z4a z9wa.body).all (fun p => ([(183, true), (8, false)] : List (Nat × Bool)).contains p) = true := by kernel_rfl
theorem v_n370 : z1a K0 370 z87c := z6qb (K := K0) (f := 370) (F := z9wa) Tryz.func71 c_n370 (z8c k_n370 (List.forall_mem_cons.2 ⟨v_n183, List.forall_mem_cons.2 ⟨v_n8, List.forall_mem_nil _⟩⟩)) (z1Kd E0 rfl rfl rfl) (by rw [i_n370]; exact List.forall_mem_cons.2 ⟨v_n184, List.forall_mem_nil _⟩) (by kernel_rfl) (by kernel_rfl)
theorem c_n352 : ∀ c', z5sa (K0.wG 352 c') z9sa Tryz.f36 = true := fun c' => by kernel_rfl
theorem k_n352 : (z4a z9sa.body).all (fun p => p == (352, false) || ([(370, false), (168, false)] : List (Nat × Bool)).contains p) = true := by kernel_rfl
theorem v_n352 : z1a K0 352 z1Hc := z5xb (K := K0) (f := 352) (F := z9sa) z7md Tryz.func36 c_n352 (z1H k_n352 (List.forall_mem_cons.2 ⟨v_n370, List.forall_mem_cons.2 ⟨v_n168, List.forall_mem_nil _⟩⟩)) (fun n => z7rd _ n rfl rfl rfl) (by kernel_rfl)
theorem v_n353 : z1a K0 353 z0cd := fV (F := z4za) [(348, false), (349, false), (350, false), (351, false), (352, false)] Tryz.func9 (by kernel_rfl) ⟨v_n348, v_n349, v_n350, v_n351, v_n352, trivial⟩ (z7Kd E0 rfl rfl rfl rfl rfl)
theorem v_n360 : z1a K0 360 z0id := fV (F := z7Ca) [(348, false), (349, false), (353, false), (358, false)] Tryz.func18 (by kernel_rfl) ⟨v_n348, v_n349, v_n353, v_n358, trivial⟩ (z2Zd E0 rfl rfl rfl rfl)
theorem v_n329 : z1a K0 329 z1Mb := fV (F := z5va) [(149, false)] Tryz.func92 (by kernel_rfl) ⟨v_n149, trivial⟩ (z47c E0 rfl)
theorem v_n376 : z1a K0 376 z0Fd := fV (F := z4qa) [(329, false)] Tryz.func48 (by kernel_rfl) ⟨v_n329, trivial⟩ (z9Jd E0 rfl)
theorem v_n60 : z1a K0 60 z79a := fV (F := z9ra) [] Tryz.func20 (by kernel_rfl) trivial (z8Yc E0)
theorem v_n377 : z1a K0 377 z6ac := fV (F := z0ra) [(376, false), (60, false)] Tryz.func19 (by kernel_rfl) ⟨v_n376, v_n60, trivial⟩ (z4zd E0 rfl rfl)
end Go.Abs.V0
