/- The translated functions are those that the lemmas speak of; so each meets its contract. -/
import Derived.Test.YtkccmbjmlpnejaaDoorRows
import Derived.Test.YtkccmbjmlpnejaaDoorA
import Derived.Test.YtkccmbjmlpnejaaDoorB
import Derived.Test.YtkccmbjmlpnejaaDoorC
import Derived.Test.YtkccmbjmlpnejaaDoorD
import Derived.Test.YtkccmbjmlpnejaaDoorT
import Derived.Test.YtkccmbjmlpnejaaDoorE
import Derived.Test.YtkccmbjmlpnejaaDoorF
import Derived.Test.YtkccmbjmlpnejaaDoorG
import Derived.Test.YtkccmbjmlpnejaaDoorH
import Derived.Test.YtkccmbjmlpnejaaDoorI
import Derived.Test.YtkccmbjmlpnejaaDoorK
import Derived.Test.YtkccmbjmlpnejaaDoorL
import Derived.Test.YtkccmbjmlpnejaaDoorM
import Derived.Test.YtkccmbjmlpnejaaDoorN
import Derived.Test.YtkccmbjmlpnejaaDoorO
import Derived.Test.YtkccmbjmlpnejaaDoorP
import Derived.Test.YtkccmbjmlpnejaaDoorQ
import Derived.Test.YtkccmbjmlpnejaaDoorR
import Derived.Test.YtkccmbjmlpnejaaDoorS
import Derived.Test.YtkccmbjmlpnejaaDoorU
import Derived.Test.YtkccmbjmlpnejaaDoorJ
import Derived.KernelRfl
set_option linter.unusedSimpArgs false
set_option linter.unusedVariables false
set_option linter.unusedSectionVars false
namespace Go.Abs.V0
open Go.Proofs
set_option maxRecDepth 100000
def nu : Nat → FuncId
 | 0 => 79
 | 1 => 80
 | 2 => 81
 | 4 => 86
 | 7 => 50
 | 8 => 59
 | 10 => 91
 | 11 => 92
 | 12 => 52
 | 13 => 93
 | 15 => 82
 | 20 => 25
 | 21 => 61
 | 23 => 56
 | 24 => 87
 | 25 => 88
 | 26 => 89
 | 28 => 60
 | 29 => 54
 | 30 => 57
 | 39 => 49
 | 40 => 53
 | 45 => 76
 | 47 => 83
 | 48 => 71
 | 51 => 84
 | 52 => 68
 | 54 => 39
 | 61 => 90
 | 129 => 48
 | 130 => 51
 | 131 => 36
 | 132 => 47
 | 133 => 45
 | 139 => 78
 | 147 => 55
 | 148 => 35
 | 149 => 13
 | 289 => 14
 | 290 => 37
 | 291 => 38
 | 292 => 10
 | 293 => 40
 | 294 => 16
 | 295 => 41
 | 296 => 42
 | 297 => 44
 | 298 => 43
 | 299 => 20
 | 300 => 18
 | 301 => 46
 | 302 => 21
 | 303 => 23
 | 304 => 26
 | 310 => 28
 | 311 => 32
 | 312 => 77
 | 313 => 62
 | 314 => 85
 | 316 => 69
 | 318 => 72
 | 320 => 74
 | 322 => 34
 | 323 => 67
 | 324 => 70
 | 325 => 73
 | 326 => 75
 | 327 => 15
 | 328 => 11
 | 329 => 12
 | 330 => 17
 | 331 => 19
 | 332 => 58
 | 333 => 22
 | 334 => 24
 | 341 => 8
 | 342 => 9
 | 343 => 3
 | 344 => 4
 | 345 => 5
 | _ => 0
def gnum : Nat → Nat
 | 0 => 1
 | 1 => 0
 | _ => 0
def gG : Nat → z4a
 | 0 => z3ma
 | 1 => z5fb
 | 2 => z5wb
 | 4 => z9sa
 | 7 => z4da
 | 8 => ofC
 | 10 => z1X
 | 11 => z9Mb
 | 12 => z7ab
 | 13 => z6ub
 | 15 => z9Ra
 | 20 => z2Ja
 | 21 => z7sa
 | 23 => z4fa
 | 24 => z0fa
 | 25 => z1X
 | 26 => z2Ma
 | 28 => z1ta
 | 29 => z72
 | 30 => z5Ba
 | 39 => z4J
 | 40 => z5J
 | 45 => z4O
 | 47 => z1cb
 | 48 => z7W
 | 52 => z48
 | 54 => z4H
 | 129 => z4y
 | 130 => z0la
 | 131 => z2ia
 | 132 => z4H
 | 133 => z4X
 | 139 => z0bb
 | 147 => z0la
 | 148 => z2ia
 | 149 => z4X
 | 289 => z5ka
 | 290 => z4ta
 | 291 => z1ua
 | 292 => z8Wa
 | 293 => z0Ob
 | 294 => z17a
 | 295 => z1Lb
 | 296 => z71b
 | 297 => z85b
 | 298 => z8Za
 | 299 => z8ha
 | 300 => z9Ya
 | 301 => z3za
 | 302 => z1ia
 | 303 => z4oa
 | 304 => z0Yb
 | 310 => z9Za
 | 311 => z04b
 | 312 => z6Da
 | 313 => z9Ta
 | 314 => z2Ka
 | 320 => z0Ua
 | 322 => z6Pa
 | 327 => z2Na
 | 328 => z72a
 | 329 => z8ha
 | 330 => z17a
 | 331 => z9Ya
 | 332 => z7Ya
 | 333 => z1ia
 | 334 => z4oa
 | 341 => z2Qa
 | 342 => z7Kb
 | 343 => z6hb
 | 344 => z6tb
 | 345 => z8qb
 | _ => ⟨fun _ => False, fun _ => .undef⟩
def gM : Nat → CM
 | 51 => z3qa
 | 61 => z8ka
 | 316 => z0ia
 | 318 => z6ka
 | 323 => z6v
 | 324 => z4V
 | 325 => z1V
 | 326 => z5V
 | _ => ⟨[], [], fun _ => False, fun _ => .undef, fun _ _ => []⟩
def gT : Nat → List z2a
 | 0 => z1o kc
 | 1 => z1o kc
 | _ => []
def E0 : Env := { G := gG, T := gT, M := gM }
noncomputable def K0 : Cx := { P := Tryd.prog, nu := nu, globs := [], N := { gnum := gnum, gs := [0, 1] }, E := E0 }
theorem c_n341 : z5c K0 z2d Tryd.f8 = true := by kernel_rfl
theorem k_n341 : (z8a z2d.body).all (fun p => ([] : List (Nat × Bool)).contains p) = true := by kernel_rfl
theorem v_n341 : z2f K0 341 z2Qa := z6a (K := K0) (f := 341) (F := z2d) Tryd.func8 c_n341 (z0g k_n341 (List.forall_mem_nil _)) (z05b E0) (by kernel_rfl)
theorem c_n314 : z5c K0 z3n Tryd.f85 = true := by kernel_rfl
theorem k_n314 : (z8a z3n.body).all (fun p => ([] : List (Nat × Bool)).contains p) = true := by kernel_rfl
theorem v_n314 : z2f K0 314 z2Ka := z6a (K := K0) (f := 314) (F := z3n) Tryd.func85 c_n314 (z0g k_n314 (List.forall_mem_nil _)) (z1Yb E0) (by kernel_rfl)
theorem c_n312 : z5c K0 z5j Tryd.f77 = true := by kernel_rfl
theorem k_n312 : (z8a z5j.body).all (fun p => ([(314, false)] : List (Nat × Bool)).contains p) = true := by kernel_rfl
theorem v_n312 : z2f K0 312 z6Da := z6a (K := K0) (f := 312) (F := z5j) Tryd.func77 c_n312 (z0g k_n312 (List.forall_mem_cons.2 ⟨v_n314, List.forall_mem_nil _⟩)) (z51b E0 rfl) (by kernel_rfl)
theorem c_n293 : z5c K0 z6n Tryd.f40 = true := by kernel_rfl
theorem k_n293 : (z8a z6n.body).all (fun p => ([(312, false)] : List (Nat × Bool)).contains p) = true := by kernel_rfl
theorem v_n293 : z2f K0 293 z0Ob := z6a (K := K0) (f := 293) (F := z6n) Tryd.func40 c_n293 (z0g k_n293 (List.forall_mem_cons.2 ⟨v_n312, List.forall_mem_nil _⟩)) (z9sc E0 rfl) (by kernel_rfl)
theorem c_n291 : z5c K0 z1h Tryd.f38 = true := by kernel_rfl
theorem k_n291 : (z8a z1h.body).all (fun p => ([] : List (Nat × Bool)).contains p) = true := by kernel_rfl
theorem v_n291 : z2f K0 291 z1ua := z5Oa 0 (z6a (K := K0) (f := 291) (F := z1h) (c := z7Mb) Tryd.func38 c_n291 (z0g k_n291 (List.forall_mem_nil _)) (z4Wb E0) (by kernel_rfl)) z7Bb
theorem c_n289 : z5c K0 z0n Tryd.f14 = true := by kernel_rfl
theorem k_n289 : (z8a z0n.body).all (fun p => ([(293, false), (291, false)] : List (Nat × Bool)).contains p) = true := by kernel_rfl
theorem v_n289 : z2f K0 289 z5ka := z6a (K := K0) (f := 289) (F := z0n) Tryd.func14 c_n289 (z0g k_n289 (List.forall_mem_cons.2 ⟨v_n293, List.forall_mem_cons.2 ⟨v_n291, List.forall_mem_nil _⟩⟩)) (z0Fc E0 rfl rfl) (by kernel_rfl)
theorem c_n12 : z5c K0 z2F Tryd.f52 = true := by kernel_rfl
theorem k_n12 : (z8a z2F.body).all (fun p => ([] : List (Nat × Bool)).contains p) = true := by kernel_rfl
theorem v_n12 : z2f K0 12 z7ab := z6a (K := K0) (f := 12) (F := z2F) Tryd.func52 c_n12 (z0g k_n12 (List.forall_mem_nil _)) (z5Jc E0) (by kernel_rfl)
theorem c_n7 : z5c K0 z6s Tryd.f50 = true := by kernel_rfl
theorem k_n7 : (z8a z6s.body).all (fun p => ([(12, false)] : List (Nat × Bool)).contains p) = true := by kernel_rfl
theorem v_n7 : z2f K0 7 z4da := z6a (K := K0) (f := 7) (F := z6s) Tryd.func50 c_n7 (z0g k_n7 (List.forall_mem_cons.2 ⟨v_n12, List.forall_mem_nil _⟩)) (z9Eb E0 rfl) (by kernel_rfl)
theorem c_n39 : z5c K0 z3z Tryd.f49 = true := by kernel_rfl
theorem k_n39 : (z8a z3z.body).all (fun p => ([(12, false)] : List (Nat × Bool)).contains p) = true := by kernel_rfl
theorem v_n39 : z2f K0 39 z4J := z6a (K := K0) (f := 39) (F := z3z) Tryd.func49 c_n39 (z0g k_n39 (List.forall_mem_cons.2 ⟨v_n12, List.forall_mem_nil _⟩)) (z0Wb E0 rfl) (by kernel_rfl)
theorem v_n139 : z2f K0 139 z0bb := Go.Abs.TrydG.grow_valid rfl rfl ⟨Tryd.f78, Tryd.func78, by kernel_rfl, by kernel_rfl⟩
theorem c_n129 : z5c K0 z3m Tryd.f48 = true := by kernel_rfl
theorem k_n129 : (z8a z3m.body).all (fun p => ([(139, false)] : List (Nat × Bool)).contains p) = true := by kernel_rfl
theorem v_n129 : z2f K0 129 z4y := z6a (K := K0) (f := 129) (F := z3m) Tryd.func48 c_n129 (z0g k_n129 (List.forall_mem_cons.2 ⟨v_n139, List.forall_mem_nil _⟩)) (z0nb E0 rfl) (by kernel_rfl)
theorem c_n130 : z5c K0 z9k Tryd.f51 = true := by kernel_rfl
theorem k_n130 : (z8a z9k.body).all (fun p => ([(12, false), (7, false), (39, false), (129, false)] : List (Nat × Bool)).contains p) = true := by kernel_rfl
theorem v_n130 : z2f K0 130 z0la := z6a (K := K0) (f := 130) (F := z9k) Tryd.func51 c_n130 (z0g k_n130 (List.forall_mem_cons.2 ⟨v_n12, List.forall_mem_cons.2 ⟨v_n7, List.forall_mem_cons.2 ⟨v_n39, List.forall_mem_cons.2 ⟨v_n129, List.forall_mem_nil _⟩⟩⟩⟩)) (z20b E0 rfl rfl rfl rfl) (by kernel_rfl)
theorem c_n0 : z5c K0 z4s Tryd.f79 = true := by kernel_rfl
theorem k_n0 : (z8a z4s.body).all (fun p => ([] : List (Nat × Bool)).contains p) = true := by kernel_rfl
theorem v_n0 : z2f K0 0 z3ma := z6a (K := K0) (f := 0) (F := z4s) Tryd.func79 c_n0 (z0g k_n0 (List.forall_mem_nil _)) (z6Lb E0) (by kernel_rfl)
theorem c_n13 : z5c K0 z6h Tryd.f93 = true := by kernel_rfl
theorem k_n13 : (z8a z6h.body).all (fun p => ([] : List (Nat × Bool)).contains p) = true := by kernel_rfl
theorem v_n13 : z2f K0 13 z6ub := z6a (K := K0) (f := 13) (F := z6h) Tryd.func93 c_n13 (z0g k_n13 (List.forall_mem_nil _)) (z3Yb E0) (by kernel_rfl)
theorem c_n10 : z5c K0 z2m Tryd.f91 = true := by kernel_rfl
theorem k_n10 : (z8a z2m.body).all (fun p => ([(13, false)] : List (Nat × Bool)).contains p) = true := by kernel_rfl
theorem v_n10 : z2f K0 10 z1X := z6a (K := K0) (f := 10) (F := z2m) Tryd.func91 c_n10 (z0g k_n10 (List.forall_mem_cons.2 ⟨v_n13, List.forall_mem_nil _⟩)) (z2Gb E0 rfl) (by kernel_rfl)
theorem c_n11 : z5c K0 z1G Tryd.f92 = true := by kernel_rfl
theorem k_n11 : (z8a z1G.body).all (fun p => ([(13, false)] : List (Nat × Bool)).contains p) = true := by kernel_rfl
theorem v_n11 : z2f K0 11 z9Mb := z6a (K := K0) (f := 11) (F := z1G) Tryd.func92 c_n11 (z0g k_n11 (List.forall_mem_cons.2 ⟨v_n13, List.forall_mem_nil _⟩)) (z3Jc E0 rfl) (by kernel_rfl)
theorem c_n4 : z5c K0 z1m Tryd.f86 = true := by kernel_rfl
theorem k_n4 : (z8a z1m.body).all (fun p => ([(10, false), (11, false)] : List (Nat × Bool)).contains p) = true := by kernel_rfl
theorem v_n4 : z2f K0 4 z9sa := z6a (K := K0) (f := 4) (F := z1m) Tryd.func86 c_n4 (z0g k_n4 (List.forall_mem_cons.2 ⟨v_n10, List.forall_mem_cons.2 ⟨v_n11, List.forall_mem_nil _⟩⟩)) (z9Lb E0 rfl rfl rfl) (by kernel_rfl)
theorem c_n1 : z5c K0 z7j Tryd.f80 = true := by kernel_rfl
theorem k_n1 : (z8a z7j.body).all (fun p => ([(4, false)] : List (Nat × Bool)).contains p) = true := by kernel_rfl
theorem v_n1 : z2f K0 1 z5fb := z6a (K := K0) (f := 1) (F := z7j) Tryd.func80 c_n1 (z0g k_n1 (List.forall_mem_cons.2 ⟨v_n4, List.forall_mem_nil _⟩)) (z36b E0 rfl) (by kernel_rfl)
theorem c_n2 : z5c K0 z8j Tryd.f81 = true := by kernel_rfl
theorem k_n2 : (z8a z8j.body).all (fun p => ([(1, false)] : List (Nat × Bool)).contains p) = true := by kernel_rfl
theorem v_n2 : z2f K0 2 z5wb := z6a (K := K0) (f := 2) (F := z8j) Tryd.func81 c_n2 (z0g k_n2 (List.forall_mem_cons.2 ⟨v_n1, List.forall_mem_nil _⟩)) (z6zc E0 rfl) (by kernel_rfl)
theorem c_n8 : z5c K0 z3S Tryd.f59 = true := by kernel_rfl
theorem k_n8 : (z8a z3S.body).all (fun p => ([(0, false), (1, false), (7, false), (2, false)] : List (Nat × Bool)).contains p) = true := by kernel_rfl
theorem v_n8 : z2f K0 8 ofC := z6a (K := K0) (f := 8) (F := z3S) Tryd.func59 c_n8 (z0g k_n8 (List.forall_mem_cons.2 ⟨v_n0, List.forall_mem_cons.2 ⟨v_n1, List.forall_mem_cons.2 ⟨v_n7, List.forall_mem_cons.2 ⟨v_n2, List.forall_mem_nil _⟩⟩⟩⟩)) (z05c E0 rfl rfl rfl rfl) (by kernel_rfl)
theorem c_n131 : z5c K0 z1l Tryd.f36 = true := by kernel_rfl
theorem k_n131 : (z8a z1l.body).all (fun p => ([(130, false), (8, false)] : List (Nat × Bool)).contains p) = true := by kernel_rfl
theorem v_n131 : z2f K0 131 z2ia := z6a (K := K0) (f := 131) (F := z1l) Tryd.func36 c_n131 (z0g k_n131 (List.forall_mem_cons.2 ⟨v_n130, List.forall_mem_cons.2 ⟨v_n8, List.forall_mem_nil _⟩⟩)) (z4pc E0 rfl rfl) (by kernel_rfl)
theorem c_n290 : z5c K0 z2g Tryd.f37 = true := by kernel_rfl
theorem k_n290 : (z8a z2g.body).all (fun p => ([] : List (Nat × Bool)).contains p) = true := by kernel_rfl
theorem v_n290 : z2f K0 290 z4ta := z5Oa 0 (z6a (K := K0) (f := 290) (F := z2g) (c := z0Fb) Tryd.func37 c_n290 (z0g k_n290 (List.forall_mem_nil _)) (z67b E0) (by kernel_rfl)) z4Ib
theorem c_n292 : z5c K0 z3s Tryd.f10 = true := by kernel_rfl
theorem k_n292 : (z8a z3s.body).all (fun p => ([(289, false), (131, false), (290, false), (291, false)] : List (Nat × Bool)).contains p) = true := by kernel_rfl
theorem v_n292 : z2f K0 292 z8Wa := z6a (K := K0) (f := 292) (F := z3s) Tryd.func10 c_n292 (z0g k_n292 (List.forall_mem_cons.2 ⟨v_n289, List.forall_mem_cons.2 ⟨v_n131, List.forall_mem_cons.2 ⟨v_n290, List.forall_mem_cons.2 ⟨v_n291, List.forall_mem_nil _⟩⟩⟩⟩)) (z1tc E0 rfl rfl rfl rfl) (by kernel_rfl)
theorem c_n304 : z5c K0 z2s Tryd.f26 = true := by kernel_rfl
theorem k_n304 : (z8a z2s.body).all (fun p => ([] : List (Nat × Bool)).contains p) = true := by kernel_rfl
theorem v_n304 : z2f K0 304 z0Yb := z6a (K := K0) (f := 304) (F := z2s) Tryd.func26 c_n304 (z0g k_n304 (List.forall_mem_nil _)) (z6sc E0) (by kernel_rfl)
theorem c_n295 : z5c K0 z7k Tryd.f41 = true := by kernel_rfl
theorem k_n295 : (z8a z7k.body).all (fun p => ([] : List (Nat × Bool)).contains p) = true := by kernel_rfl
theorem v_n295 : z2f K0 295 z1Lb := z6a (K := K0) (f := 295) (F := z7k) Tryd.func41 c_n295 (z0g k_n295 (List.forall_mem_nil _)) (z5Gc E0) (by kernel_rfl)
theorem c_n296 : z5c K0 z6m Tryd.f42 = true := by kernel_rfl
theorem k_n296 : (z8a z6m.body).all (fun p => ([(295, false)] : List (Nat × Bool)).contains p) = true := by kernel_rfl
theorem v_n296 : z2f K0 296 z71b := z6a (K := K0) (f := 296) (F := z6m) Tryd.func42 c_n296 (z0g k_n296 (List.forall_mem_cons.2 ⟨v_n295, List.forall_mem_nil _⟩)) (z1Ec E0 rfl) (by kernel_rfl)
theorem c_n297 : z5c K0 z4m Tryd.f44 = true := by kernel_rfl
theorem k_n297 : (z8a z4m.body).all (fun p => ([(296, false)] : List (Nat × Bool)).contains p) = true := by kernel_rfl
theorem v_n297 : z2f K0 297 z85b := z6a (K := K0) (f := 297) (F := z4m) Tryd.func44 c_n297 (z0g k_n297 (List.forall_mem_cons.2 ⟨v_n296, List.forall_mem_nil _⟩)) (z3zc E0 rfl) (by kernel_rfl)
theorem c_n313 : z5c K0 z6b Tryd.f62 = true := by kernel_rfl
theorem k_n313 : (z8a z6b.body).all (fun p => ([(297, false)] : List (Nat × Bool)).contains p) = true := by kernel_rfl
theorem v_n313 : z2f K0 313 z9Ta := z6a (K := K0) (f := 313) (F := z6b) Tryd.func62 c_n313 (z0g k_n313 (List.forall_mem_cons.2 ⟨v_n297, List.forall_mem_nil _⟩)) (z55b E0 rfl) (by kernel_rfl)
theorem c_n298 : z5c K0 z4b Tryd.f43 = true := by kernel_rfl
theorem k_n298 : (z8a z4b.body).all (fun p => ([(313, false)] : List (Nat × Bool)).contains p) = true := by kernel_rfl
theorem v_n298 : z2f K0 298 z8Za := z6a (K := K0) (f := 298) (F := z4b) Tryd.func43 c_n298 (z0g k_n298 (List.forall_mem_cons.2 ⟨v_n313, List.forall_mem_nil _⟩)) (z8Zb E0 rfl) (by kernel_rfl)
theorem c_n294 : z5c K0 z9s Tryd.f16 = true := by kernel_rfl
theorem k_n294 : (z8a z9s.body).all (fun p => ([] : List (Nat × Bool)).contains p) = true := by kernel_rfl
theorem v_n294 : z2f K0 294 z17a := z6a (K := K0) (f := 294) (F := z9s) Tryd.func16 c_n294 (z0g k_n294 (List.forall_mem_nil _)) (z7Bc E0) (by kernel_rfl)
theorem c_n132 : z5c K0 z0m Tryd.f47 = true := by kernel_rfl
theorem k_n132 : (z8a z0m.body).all (fun p => ([] : List (Nat × Bool)).contains p) = true := by kernel_rfl
theorem v_n132 : z2f K0 132 z4H := z6a (K := K0) (f := 132) (F := z0m) Tryd.func47 c_n132 (z0g k_n132 (List.forall_mem_nil _)) (z7qc E0) (by kernel_rfl)
theorem c_n133 : z5c K0 z2n Tryd.f45 = true := by kernel_rfl
theorem k_n133 : (z8a z2n.body).all (fun p => ([(132, false)] : List (Nat × Bool)).contains p) = true := by kernel_rfl
theorem v_n133 : z2f K0 133 z4X := z6a (K := K0) (f := 133) (F := z2n) Tryd.func45 c_n133 (z0g k_n133 (List.forall_mem_cons.2 ⟨v_n132, List.forall_mem_nil _⟩)) (z7xb E0 rfl) (by kernel_rfl)
theorem c_n301 : z5c K0 z1g Tryd.f46 = true := by kernel_rfl
theorem k_n301 : (z8a z1g.body).all (fun p => ([] : List (Nat × Bool)).contains p) = true := by kernel_rfl
theorem v_n301 : z2f K0 301 z3za := z6a (K := K0) (f := 301) (F := z1g) Tryd.func46 c_n301 (z0g k_n301 (List.forall_mem_nil _)) (z0xb E0) (by kernel_rfl)
theorem c_n299 : z5c K0 z5s Tryd.f20 = true := by kernel_rfl
theorem k_n299 : (z8a z5s.body).all (fun p => ([(133, false), (301, false), (132, false)] : List (Nat × Bool)).contains p) = true := by kernel_rfl
theorem v_n299 : z2f K0 299 z8ha := z6a (K := K0) (f := 299) (F := z5s) Tryd.func20 c_n299 (z0g k_n299 (List.forall_mem_cons.2 ⟨v_n133, List.forall_mem_cons.2 ⟨v_n301, List.forall_mem_cons.2 ⟨v_n132, List.forall_mem_nil _⟩⟩⟩)) (z3Hb E0 rfl rfl rfl) (by kernel_rfl)
theorem c_n300 : z5c K0 z4p Tryd.f18 = true := by kernel_rfl
theorem k_n300 : (z8a z4p.body).all (fun p => ([(298, false), (294, false), (299, false), (295, false), (293, false)] : List (Nat × Bool)).contains p) = true := by kernel_rfl
theorem v_n300 : z2f K0 300 z9Ya := z6a (K := K0) (f := 300) (F := z4p) Tryd.func18 c_n300 (z0g k_n300 (List.forall_mem_cons.2 ⟨v_n298, List.forall_mem_cons.2 ⟨v_n294, List.forall_mem_cons.2 ⟨v_n299, List.forall_mem_cons.2 ⟨v_n295, List.forall_mem_cons.2 ⟨v_n293, List.forall_mem_nil _⟩⟩⟩⟩⟩)) (z7bc E0 rfl rfl rfl rfl rfl) (by kernel_rfl)
theorem c_n310 : z5c K0 z9l Tryd.f28 = true := by kernel_rfl
theorem k_n310 : (z8a z9l.body).all (fun p => ([(300, false), (290, false)] : List (Nat × Bool)).contains p) = true := by kernel_rfl
theorem v_n310 : z2f K0 310 z9Za := z6a (K := K0) (f := 310) (F := z9l) Tryd.func28 c_n310 (z0g k_n310 (List.forall_mem_cons.2 ⟨v_n300, List.forall_mem_cons.2 ⟨v_n290, List.forall_mem_nil _⟩⟩)) (z28b E0 rfl rfl) (by kernel_rfl)
theorem c_n302 : z5c K0 z5n Tryd.f21 = true := by kernel_rfl
theorem k_n302 : (z8a z5n.body).all (fun p => ([(39, false), (130, false), (7, false), (12, false), (129, false)] : List (Nat × Bool)).contains p) = true := by kernel_rfl
theorem v_n302 : z2f K0 302 z1ia := z6a (K := K0) (f := 302) (F := z5n) Tryd.func21 c_n302 (z0g k_n302 (List.forall_mem_cons.2 ⟨v_n39, List.forall_mem_cons.2 ⟨v_n130, List.forall_mem_cons.2 ⟨v_n7, List.forall_mem_cons.2 ⟨v_n12, List.forall_mem_cons.2 ⟨v_n129, List.forall_mem_nil _⟩⟩⟩⟩⟩)) (z7Cb E0 rfl rfl rfl rfl rfl) (by kernel_rfl)
theorem c_n45 : z5c K0 z1n Tryd.f76 = true := by kernel_rfl
theorem k_n45 : (z8a z1n.body).all (fun p => ([] : List (Nat × Bool)).contains p) = true := by kernel_rfl
theorem v_n45 : z2f K0 45 z4O := z6a (K := K0) (f := 45) (F := z1n) Tryd.func76 c_n45 (z0g k_n45 (List.forall_mem_nil _)) (z5nb E0) (by kernel_rfl)
theorem c_n47 : z5c K0 z9n Tryd.f83 = true := by kernel_rfl
theorem k_n47 : (z8a z9n.body).all (fun p => ([(45, false)] : List (Nat × Bool)).contains p) = true := by kernel_rfl
theorem v_n47 : z2f K0 47 z1cb := z6a (K := K0) (f := 47) (F := z9n) Tryd.func83 c_n47 (z0g k_n47 (List.forall_mem_cons.2 ⟨v_n45, List.forall_mem_nil _⟩)) (z2Ec E0 rfl) (by kernel_rfl)
theorem c_n51 : z5c K0 z7t Tryd.f84 = true := by kernel_rfl
theorem k_n51 : (z8a z7t.body).all (fun p => ([] : List (Nat × Bool)).contains p) = true := by kernel_rfl
theorem v_n51 : z36 K0 51 z3qa := z5y (K := K0) (f := 51) (F := z7t) Tryd.func84 c_n51 (z0g k_n51 (List.forall_mem_nil _)) (by decide) (z37b E0) (by kernel_rfl) (by kernel_rfl)
theorem c_n61 : z5c K0 z2o Tryd.f90 = true := by kernel_rfl
theorem k_n61 : (z8a z2o.body).all (fun p => ([(45, false)] : List (Nat × Bool)).contains p) = true := by kernel_rfl
theorem v_n61 : z36 K0 61 z8ka := z5y (K := K0) (f := 61) (F := z2o) Tryd.func90 c_n61 (z0g k_n61 (List.forall_mem_cons.2 ⟨v_n45, List.forall_mem_nil _⟩)) (by decide) (z87b E0 rfl) (by kernel_rfl) (by kernel_rfl)
theorem c_n52 : z5c K0 z6k Tryd.f68 = true := by kernel_rfl
theorem k_n52 : (z8a z6k.body).all (fun p => ([(47, false), (51, true), (61, true)] : List (Nat × Bool)).contains p) = true := by kernel_rfl
theorem v_n52 : z2f K0 52 z48 := z6a (K := K0) (f := 52) (F := z6k) Tryd.func68 c_n52 (z0g k_n52 (List.forall_mem_cons.2 ⟨v_n47, List.forall_mem_cons.2 ⟨v_n51, List.forall_mem_cons.2 ⟨v_n61, List.forall_mem_nil _⟩⟩⟩)) (z9eb E0 rfl rfl rfl) (by kernel_rfl)
theorem c_n323 : z5c K0 z5e Tryd.f67 = true := by kernel_rfl
theorem k_n323 : (z8a z5e.body).all (fun p => ([(52, false)] : List (Nat × Bool)).contains p) = true := by kernel_rfl
theorem v_n323 : z36 K0 323 z6v := z5y (K := K0) (f := 323) (F := z5e) Tryd.func67 c_n323 (z0g k_n323 (List.forall_mem_cons.2 ⟨v_n52, List.forall_mem_nil _⟩)) (by decide) (z3mb E0 rfl) (by kernel_rfl) (by kernel_rfl)
theorem c_n316 : z5c K0 z5i Tryd.f69 = true := by kernel_rfl
theorem k_n316 : (z8a z5i.body).all (fun p => ([] : List (Nat × Bool)).contains p) = true := by kernel_rfl
theorem v_n316 : z36 K0 316 z0ia := z5y (K := K0) (f := 316) (F := z5i) Tryd.func69 c_n316 (z0g k_n316 (List.forall_mem_nil _)) (by decide) (z1bc E0) (by kernel_rfl) (by kernel_rfl)
theorem c_n48 : z5c K0 z9i Tryd.f71 = true := by kernel_rfl
theorem k_n48 : (z8a z9i.body).all (fun p => ([(47, false)] : List (Nat × Bool)).contains p) = true := by kernel_rfl
theorem v_n48 : z2f K0 48 z7W := z6a (K := K0) (f := 48) (F := z9i) Tryd.func71 c_n48 (z0g k_n48 (List.forall_mem_cons.2 ⟨v_n47, List.forall_mem_nil _⟩)) (z0Xa E0 rfl) (by kernel_rfl)
theorem c_n324 : z5c K0 z1e Tryd.f70 = true := by kernel_rfl
theorem k_n324 : (z8a z1e.body).all (fun p => ([(48, false)] : List (Nat × Bool)).contains p) = true := by kernel_rfl
theorem v_n324 : z36 K0 324 z4V := z5y (K := K0) (f := 324) (F := z1e) Tryd.func70 c_n324 (z0g k_n324 (List.forall_mem_cons.2 ⟨v_n48, List.forall_mem_nil _⟩)) (by decide) (z9Fb E0 rfl) (by kernel_rfl) (by kernel_rfl)
theorem c_n326 : z5c K0 z9e Tryd.f75 = true := by kernel_rfl
theorem k_n326 : (z8a z9e.body).all (fun p => ([(45, false)] : List (Nat × Bool)).contains p) = true := by kernel_rfl
theorem v_n326 : z36 K0 326 z5V := z5y (K := K0) (f := 326) (F := z9e) Tryd.func75 c_n326 (z0g k_n326 (List.forall_mem_cons.2 ⟨v_n45, List.forall_mem_nil _⟩)) (by decide) (z8Ab E0 rfl) (by kernel_rfl) (by kernel_rfl)
theorem c_n318 : z5c K0 z6d Tryd.f72 = true := by kernel_rfl
theorem k_n318 : (z8a z6d.body).all (fun p => ([(326, true), (324, true), (323, true), (316, true)] : List (Nat × Bool)).contains p) = true := by kernel_rfl
theorem v_n318 : z36 K0 318 z6ka := z5y (K := K0) (f := 318) (F := z6d) Tryd.func72 c_n318 (z0g k_n318 (List.forall_mem_cons.2 ⟨v_n326, List.forall_mem_cons.2 ⟨v_n324, List.forall_mem_cons.2 ⟨v_n323, List.forall_mem_cons.2 ⟨v_n316, List.forall_mem_nil _⟩⟩⟩⟩)) (by decide) (z65b E0 rfl rfl rfl rfl) (by kernel_rfl) (by kernel_rfl)
theorem c_n320 : z5c K0 z4n Tryd.f74 = true := by kernel_rfl
theorem k_n320 : (z8a z4n.body).all (fun p => ([] : List (Nat × Bool)).contains p) = true := by kernel_rfl
theorem v_n320 : z2f K0 320 z0Ua := z6a (K := K0) (f := 320) (F := z4n) Tryd.func74 c_n320 (z0g k_n320 (List.forall_mem_nil _)) (z8bc E0) (by kernel_rfl)
theorem c_n325 : z5c K0 z4e Tryd.f73 = true := by kernel_rfl
theorem k_n325 : (z8a z4e.body).all (fun p => ([(320, false)] : List (Nat × Bool)).contains p) = true := by kernel_rfl
theorem v_n325 : z36 K0 325 z1V := z5y (K := K0) (f := 325) (F := z4e) Tryd.func73 c_n325 (z0g k_n325 (List.forall_mem_cons.2 ⟨v_n320, List.forall_mem_nil _⟩)) (by decide) (z1Kb E0 rfl) (by kernel_rfl) (by kernel_rfl)
theorem c_n322 : z5c K0 z7n Tryd.f34 = true := by kernel_rfl
theorem k_n322 : (z8a z7n.body).all (fun p => ([(323, true), (316, true), (324, true), (318, true), (325, true), (326, true), (295, false), (300, false)] : List (Nat × Bool)).contains p) = true := by kernel_rfl
theorem v_n322 : z2f K0 322 z6Pa := z6a (K := K0) (f := 322) (F := z7n) Tryd.func34 c_n322 (z0g k_n322 (List.forall_mem_cons.2 ⟨v_n323, List.forall_mem_cons.2 ⟨v_n316, List.forall_mem_cons.2 ⟨v_n324, List.forall_mem_cons.2 ⟨v_n318, List.forall_mem_cons.2 ⟨v_n325, List.forall_mem_cons.2 ⟨v_n326, List.forall_mem_cons.2 ⟨v_n295, List.forall_mem_cons.2 ⟨v_n300, List.forall_mem_nil _⟩⟩⟩⟩⟩⟩⟩⟩)) (z5dc E0 rfl rfl rfl rfl rfl rfl rfl rfl) (by kernel_rfl)
theorem c_n30 : z5c K0 z7i Tryd.f57 = true := by kernel_rfl
theorem k_n30 : (z8a z7i.body).all (fun p => ([] : List (Nat × Bool)).contains p) = true := by kernel_rfl
theorem v_n30 : z2f K0 30 z5Ba := z6a (K := K0) (f := 30) (F := z7i) Tryd.func57 c_n30 (z0g k_n30 (List.forall_mem_nil _)) (z21b E0) (by kernel_rfl)
theorem c_n29 : z5c K0 z9g Tryd.f54 = true := by kernel_rfl
theorem k_n29 : (z8a z9g.body).all (fun p => ([(30, false)] : List (Nat × Bool)).contains p) = true := by kernel_rfl
theorem v_n29 : z2f K0 29 z72 := z6a (K := K0) (f := 29) (F := z9g) Tryd.func54 c_n29 (z0g k_n29 (List.forall_mem_cons.2 ⟨v_n30, List.forall_mem_nil _⟩)) (z2qb E0 rfl) (by kernel_rfl)
theorem c_n40 : z5c K0 z0i Tryd.f53 = true := by kernel_rfl
theorem k_n40 : (z8a z0i.body).all (fun p => ([(30, false)] : List (Nat × Bool)).contains p) = true := by kernel_rfl
theorem v_n40 : z2f K0 40 z5J := z6a (K := K0) (f := 40) (F := z0i) Tryd.func53 c_n40 (z0g k_n40 (List.forall_mem_cons.2 ⟨v_n30, List.forall_mem_nil _⟩)) (z6Ib E0 rfl) (by kernel_rfl)
theorem c_n147 : z5c K0 z4f Tryd.f55 = true := by kernel_rfl
theorem k_n147 : (z8a z4f.body).all (fun p => ([(30, false), (29, false), (40, false)] : List (Nat × Bool)).contains p) = true := by kernel_rfl
theorem v_n147 : z2f K0 147 z0la := z6a (K := K0) (f := 147) (F := z4f) Tryd.func55 c_n147 (z0g k_n147 (List.forall_mem_cons.2 ⟨v_n30, List.forall_mem_cons.2 ⟨v_n29, List.forall_mem_cons.2 ⟨v_n40, List.forall_mem_nil _⟩⟩⟩)) (z80b E0 rfl rfl rfl) (by kernel_rfl)
theorem c_n21 : z5c K0 z6g Tryd.f61 = true := by kernel_rfl
theorem k_n21 : (z8a z6g.body).all (fun p => ([(29, false)] : List (Nat × Bool)).contains p) = true := by kernel_rfl
theorem v_n21 : z2f K0 21 z7sa := z6a (K := K0) (f := 21) (F := z6g) Tryd.func61 c_n21 (z0g k_n21 (List.forall_mem_cons.2 ⟨v_n29, List.forall_mem_nil _⟩)) (z7wb E0 rfl) (by kernel_rfl)
theorem c_n24 : z5c K0 z9f Tryd.f87 = true := by kernel_rfl
theorem k_n24 : (z8a z9f.body).all (fun p => ([] : List (Nat × Bool)).contains p) = true := by kernel_rfl
theorem v_n24 : z2f K0 24 z0fa := z6a (K := K0) (f := 24) (F := z9f) Tryd.func87 c_n24 (z0g k_n24 (List.forall_mem_nil _)) (z5ib E0) (by kernel_rfl)
theorem c_n26 : z5c K0 z8h Tryd.f89 = true := by kernel_rfl
theorem k_n26 : (z8a z8h.body).all (fun p => ([] : List (Nat × Bool)).contains p) = true := by kernel_rfl
theorem v_n26 : z2f K0 26 z2Ma := z6a (K := K0) (f := 26) (F := z8h) Tryd.func89 c_n26 (z0g k_n26 (List.forall_mem_nil _)) (z86b E0) (by kernel_rfl)
theorem c_n25 : z5c K0 z8g Tryd.f88 = true := by kernel_rfl
theorem k_n25 : (z8a z8g.body).all (fun p => ([(26, false)] : List (Nat × Bool)).contains p) = true := by kernel_rfl
theorem v_n25 : z2f K0 25 z1X := z6a (K := K0) (f := 25) (F := z8g) Tryd.func88 c_n25 (z0g k_n25 (List.forall_mem_cons.2 ⟨v_n26, List.forall_mem_nil _⟩)) (z6Hb E0 rfl) (by kernel_rfl)
theorem c_n15 : z5c K0 z6i Tryd.f82 = true := by kernel_rfl
theorem k_n15 : (z8a z6i.body).all (fun p => ([(24, false), (25, false), (26, false)] : List (Nat × Bool)).contains p) = true := by kernel_rfl
theorem v_n15 : z2f K0 15 z9Ra := z6a (K := K0) (f := 15) (F := z6i) Tryd.func82 c_n15 (z0g k_n15 (List.forall_mem_cons.2 ⟨v_n24, List.forall_mem_cons.2 ⟨v_n25, List.forall_mem_cons.2 ⟨v_n26, List.forall_mem_nil _⟩⟩⟩)) (z79b E0 rfl rfl rfl rfl) (by kernel_rfl)
theorem c_n28 : z5c K0 z7g Tryd.f60 = true := by kernel_rfl
theorem k_n28 : (z8a z7g.body).all (fun p => ([(15, false)] : List (Nat × Bool)).contains p) = true := by kernel_rfl
theorem v_n28 : z2f K0 28 z1ta := z6a (K := K0) (f := 28) (F := z7g) Tryd.func60 c_n28 (z0g k_n28 (List.forall_mem_cons.2 ⟨v_n15, List.forall_mem_nil _⟩)) (z5Mb E0 rfl) (by kernel_rfl)
theorem c_n20 : z5c K0 z6j Tryd.f25 = true := by kernel_rfl
theorem k_n20 : (z8a z6j.body).all (fun p => ([(21, false), (28, false)] : List (Nat × Bool)).contains p) = true := by kernel_rfl
theorem v_n20 : z2f K0 20 z2Ja := z6a (K := K0) (f := 20) (F := z6j) Tryd.func25 c_n20 (z0g k_n20 (List.forall_mem_cons.2 ⟨v_n21, List.forall_mem_cons.2 ⟨v_n28, List.forall_mem_nil _⟩⟩)) (z0Hc E0 rfl rfl) (by kernel_rfl)
theorem c_n148 : z5c K0 z7f Tryd.f35 = true := by kernel_rfl
theorem k_n148 : (z8a z7f.body).all (fun p => ([(147, false), (20, false)] : List (Nat × Bool)).contains p) = true := by kernel_rfl
theorem v_n148 : z2f K0 148 z2ia := z6a (K := K0) (f := 148) (F := z7f) Tryd.func35 c_n148 (z0g k_n148 (List.forall_mem_cons.2 ⟨v_n147, List.forall_mem_cons.2 ⟨v_n20, List.forall_mem_nil _⟩⟩)) (z7cc E0 rfl rfl) (by kernel_rfl)
theorem c_n311 : z5c K0 z7s Tryd.f32 = true := by kernel_rfl
theorem k_n311 : (z8a z7s.body).all (fun p => ([] : List (Nat × Bool)).contains p) = true := by kernel_rfl
theorem v_n311 : z2f K0 311 z04b := z6a (K := K0) (f := 311) (F := z7s) Tryd.func32 c_n311 (z0g k_n311 (List.forall_mem_nil _)) (z9vc E0) (by kernel_rfl)
theorem c_n303 : z5c K0 z8n Tryd.f23 = true := by kernel_rfl
theorem k_n303 : (z8a z8n.body).all (fun p => ([(302, false), (8, false)] : List (Nat × Bool)).contains p) = true := by kernel_rfl
theorem v_n303 : z2f K0 303 z4oa := z6a (K := K0) (f := 303) (F := z8n) Tryd.func23 c_n303 (z0g k_n303 (List.forall_mem_cons.2 ⟨v_n302, List.forall_mem_cons.2 ⟨v_n8, List.forall_mem_nil _⟩⟩)) (z9Hb E0 rfl rfl) (by kernel_rfl)
theorem c_n342 : z5c K0 z5f Tryd.f9 = true := by kernel_rfl
theorem k_n342 : (z8a z5f.body).all (fun p => ([(292, false), (304, false), (310, false), (294, false), (302, false), (322, false), (289, false), (300, false), (148, false), (299, false), (311, false), (303, false)] : List (Nat × Bool)).contains p) = true := by kernel_rfl
theorem v_n342 : z2f K0 342 z7Kb := z6a (K := K0) (f := 342) (F := z5f) Tryd.func9 c_n342 (z0g k_n342 (List.forall_mem_cons.2 ⟨v_n292, List.forall_mem_cons.2 ⟨v_n304, List.forall_mem_cons.2 ⟨v_n310, List.forall_mem_cons.2 ⟨v_n294, List.forall_mem_cons.2 ⟨v_n302, List.forall_mem_cons.2 ⟨v_n322, List.forall_mem_cons.2 ⟨v_n289, List.forall_mem_cons.2 ⟨v_n300, List.forall_mem_cons.2 ⟨v_n148, List.forall_mem_cons.2 ⟨v_n299, List.forall_mem_cons.2 ⟨v_n311, List.forall_mem_cons.2 ⟨v_n303, List.forall_mem_nil _⟩⟩⟩⟩⟩⟩⟩⟩⟩⟩⟩⟩)) (z8wb E0 rfl rfl rfl rfl rfl rfl rfl rfl rfl rfl rfl rfl) (by kernel_rfl)
theorem c_n327 : z5c K0 z6e Tryd.f15 = true := by kernel_rfl
theorem k_n327 : (z8a z6e.body).all (fun p => ([] : List (Nat × Bool)).contains p) = true := by kernel_rfl
theorem v_n327 : z2f K0 327 z2Na := z6a (K := K0) (f := 327) (F := z6e) Tryd.func15 c_n327 (z0g k_n327 (List.forall_mem_nil _)) (z4Zb E0) (by kernel_rfl)
theorem c_n328 : z5c K0 z7h Tryd.f11 = true := by kernel_rfl
theorem k_n328 : (z8a z7h.body).all (fun p => ([(327, false), (148, false)] : List (Nat × Bool)).contains p) = true := by kernel_rfl
theorem v_n328 : z2f K0 328 z72a := z6a (K := K0) (f := 328) (F := z7h) Tryd.func11 c_n328 (z0g k_n328 (List.forall_mem_cons.2 ⟨v_n327, List.forall_mem_cons.2 ⟨v_n148, List.forall_mem_nil _⟩⟩)) (z22b E0 rfl rfl) (by kernel_rfl)
theorem c_n54 : z5c K0 z3e Tryd.f39 = true := by kernel_rfl
theorem k_n54 : (z8a z3e.body).all (fun p => ([] : List (Nat × Bool)).contains p) = true := by kernel_rfl
theorem v_n54 : z2f K0 54 z4H := z6a (K := K0) (f := 54) (F := z3e) Tryd.func39 c_n54 (z0g k_n54 (List.forall_mem_nil _)) (z0tb E0) (by kernel_rfl)
theorem c_n149 : z5c K0 z1i Tryd.f13 = true := by kernel_rfl
theorem k_n149 : (z8a z1i.body).all (fun p => ([(54, false)] : List (Nat × Bool)).contains p) = true := by kernel_rfl
theorem v_n149 : z2f K0 149 z4X := z6a (K := K0) (f := 149) (F := z1i) Tryd.func13 c_n149 (z0g k_n149 (List.forall_mem_cons.2 ⟨v_n54, List.forall_mem_nil _⟩)) (z1Cb E0 rfl) (by kernel_rfl)
theorem c_n329 : z5c K0 z4h Tryd.f12 = true := by kernel_rfl
theorem k_n329 : (z8a z4h.body).all (fun p => ([(149, false)] : List (Nat × Bool)).contains p) = true := by kernel_rfl
theorem v_n329 : z2f K0 329 z8ha := z6a (K := K0) (f := 329) (F := z4h) Tryd.func12 c_n329 (z0g k_n329 (List.forall_mem_cons.2 ⟨v_n149, List.forall_mem_nil _⟩)) (z2Kb E0 rfl) (by kernel_rfl)
theorem c_n330 : z5c K0 z9h Tryd.f17 = true := by kernel_rfl
theorem k_n330 : (z8a z9h.body).all (fun p => ([] : List (Nat × Bool)).contains p) = true := by kernel_rfl
theorem v_n330 : z2f K0 330 z17a := z6a (K := K0) (f := 330) (F := z9h) Tryd.func17 c_n330 (z0g k_n330 (List.forall_mem_nil _)) (z60b E0) (by kernel_rfl)
theorem c_n331 : z5c K0 z5g Tryd.f19 = true := by kernel_rfl
theorem k_n331 : (z8a z5g.body).all (fun p => ([(149, false), (327, false)] : List (Nat × Bool)).contains p) = true := by kernel_rfl
theorem v_n331 : z2f K0 331 z9Ya := z6a (K := K0) (f := 331) (F := z5g) Tryd.func19 c_n331 (z0g k_n331 (List.forall_mem_cons.2 ⟨v_n149, List.forall_mem_cons.2 ⟨v_n327, List.forall_mem_nil _⟩⟩)) (z58b E0 rfl rfl) (by kernel_rfl)
theorem c_n23 : z5c K0 z2i Tryd.f56 = true := by kernel_rfl
theorem k_n23 : (z8a z2i.body).all (fun p => ([] : List (Nat × Bool)).contains p) = true := by kernel_rfl
theorem v_n23 : z2f K0 23 z4fa := z6a (K := K0) (f := 23) (F := z2i) Tryd.func56 c_n23 (z0g k_n23 (List.forall_mem_nil _)) (z6qb E0) (by kernel_rfl)
theorem c_n332 : z5c K0 z4d Tryd.f58 = true := by kernel_rfl
theorem k_n332 : (z8a z4d.body).all (fun p => ([] : List (Nat × Bool)).contains p) = true := by kernel_rfl
theorem v_n332 : z2f K0 332 z7Ya := z6a (K := K0) (f := 332) (F := z4d) Tryd.func58 c_n332 (z0g k_n332 (List.forall_mem_nil _)) (z89b E0) (by kernel_rfl)
theorem c_n333 : z5c K0 z6f Tryd.f22 = true := by kernel_rfl
theorem k_n333 : (z8a z6f.body).all (fun p => ([(40, false), (147, false), (29, false), (23, false), (30, false), (332, false)] : List (Nat × Bool)).contains p) = true := by kernel_rfl
theorem v_n333 : z2f K0 333 z1ia := z6a (K := K0) (f := 333) (F := z6f) Tryd.func22 c_n333 (z0g k_n333 (List.forall_mem_cons.2 ⟨v_n40, List.forall_mem_cons.2 ⟨v_n147, List.forall_mem_cons.2 ⟨v_n29, List.forall_mem_cons.2 ⟨v_n23, List.forall_mem_cons.2 ⟨v_n30, List.forall_mem_cons.2 ⟨v_n332, List.forall_mem_nil _⟩⟩⟩⟩⟩⟩)) (z3Cb E0 rfl rfl rfl rfl rfl rfl) (by kernel_rfl)
theorem c_n334 : z5c K0 z8f Tryd.f24 = true := by kernel_rfl
theorem k_n334 : (z8a z8f.body).all (fun p => ([(333, false), (20, false)] : List (Nat × Bool)).contains p) = true := by kernel_rfl
theorem v_n334 : z2f K0 334 z4oa := z6a (K := K0) (f := 334) (F := z8f) Tryd.func24 c_n334 (z0g k_n334 (List.forall_mem_cons.2 ⟨v_n333, List.forall_mem_cons.2 ⟨v_n20, List.forall_mem_nil _⟩⟩)) (z2Db E0 rfl rfl) (by kernel_rfl)
theorem c_n343 : z5c K0 z0b Tryd.f3 = true := by kernel_rfl
theorem k_n343 : (z8a z0b.body).all (fun p => ([(341, false), (342, false), (292, false), (328, false), (329, false), (289, false), (327, false), (149, false), (294, false), (330, false), (300, false), (331, false), (299, false), (302, false), (333, false), (303, false), (334, false)] : List (Nat × Bool)).contains p) = true := by kernel_rfl
theorem v_n343 : z2f K0 343 z6hb := z6a (K := K0) (f := 343) (F := z0b) Tryd.func3 c_n343 (z0g k_n343 (List.forall_mem_cons.2 ⟨v_n341, List.forall_mem_cons.2 ⟨v_n342, List.forall_mem_cons.2 ⟨v_n292, List.forall_mem_cons.2 ⟨v_n328, List.forall_mem_cons.2 ⟨v_n329, List.forall_mem_cons.2 ⟨v_n289, List.forall_mem_cons.2 ⟨v_n327, List.forall_mem_cons.2 ⟨v_n149, List.forall_mem_cons.2 ⟨v_n294, List.forall_mem_cons.2 ⟨v_n330, List.forall_mem_cons.2 ⟨v_n300, List.forall_mem_cons.2 ⟨v_n331, List.forall_mem_cons.2 ⟨v_n299, List.forall_mem_cons.2 ⟨v_n302, List.forall_mem_cons.2 ⟨v_n333, List.forall_mem_cons.2 ⟨v_n303, List.forall_mem_cons.2 ⟨v_n334, List.forall_mem_nil _⟩⟩⟩⟩⟩⟩⟩⟩⟩⟩⟩⟩⟩⟩⟩⟩⟩)) (z7Gb E0 rfl rfl rfl rfl rfl rfl rfl rfl rfl rfl rfl rfl rfl rfl rfl rfl rfl) (by kernel_rfl)
theorem c_n344 : z5c K0 z9b Tryd.f4 = true := by kernel_rfl
theorem k_n344 : (z8a z9b.body).all (fun p => ([(341, false), (342, false), (329, false), (302, false), (303, false), (20, false)] : List (Nat × Bool)).contains p) = true := by kernel_rfl
theorem v_n344 : z2f K0 344 z6tb := z6a (K := K0) (f := 344) (F := z9b) Tryd.func4 c_n344 (z0g k_n344 (List.forall_mem_cons.2 ⟨v_n341, List.forall_mem_cons.2 ⟨v_n342, List.forall_mem_cons.2 ⟨v_n329, List.forall_mem_cons.2 ⟨v_n302, List.forall_mem_cons.2 ⟨v_n303, List.forall_mem_cons.2 ⟨v_n20, List.forall_mem_nil _⟩⟩⟩⟩⟩⟩)) (z8yb E0 rfl rfl rfl rfl rfl rfl) (by kernel_rfl)
theorem c_n345 : z5c K0 z3b Tryd.f5 = true := by kernel_rfl
theorem k_n345 : (z8a z3b.body).all (fun p => ([(342, false), (292, false), (299, false)] : List (Nat × Bool)).contains p) = true := by kernel_rfl
theorem v_n345 : z2f K0 345 z8qb := z6a (K := K0) (f := 345) (F := z3b) Tryd.func5 c_n345 (z0g k_n345 (List.forall_mem_cons.2 ⟨v_n342, List.forall_mem_cons.2 ⟨v_n292, List.forall_mem_cons.2 ⟨v_n299, List.forall_mem_nil _⟩⟩⟩)) (z5Lb E0 rfl rfl rfl) (by kernel_rfl)
end Go.Abs.V0
