/- The translated functions are those that the lemmas speak of; so each meets its contract. -/
import Derived.Test.YtkccmbjmlpnejaaDoorRows
import Derived.Test.YtkccmbjmlpnejaaDoorA
import Derived.Test.YtkccmbjmlpnejaaDoorB
import Derived.Test.YtkccmbjmlpnejaaDoorC
import Derived.Test.YtkccmbjmlpnejaaDoorD
import Derived.Test.YtkccmbjmlpnejaaDoorT
import Derived.Test.YtkccmbjmlpnejaaDoorE
import Derived.Test.YtkccmbjmlpnejaaDoorF
import Derived.Test.YtkccmbjmlpnejaaDoorG
import Derived.Test.YtkccmbjmlpnejaaDoorH
import Derived.Test.YtkccmbjmlpnejaaDoorI
import Derived.Test.YtkccmbjmlpnejaaDoorK
import Derived.Test.YtkccmbjmlpnejaaDoorL
import Derived.Test.YtkccmbjmlpnejaaDoorM
import Derived.Test.YtkccmbjmlpnejaaDoorN
import Derived.Test.YtkccmbjmlpnejaaDoorO
import Derived.Test.YtkccmbjmlpnejaaDoorP
import Derived.Test.YtkccmbjmlpnejaaDoorQ
import Derived.Test.YtkccmbjmlpnejaaDoorR
import Derived.Test.YtkccmbjmlpnejaaDoorV
import Derived.Test.YtkccmbjmlpnejaaDoorW
import Derived.Test.YtkccmbjmlpnejaaDoorX
import Derived.Test.YtkccmbjmlpnejaaDoorS
import Derived.Test.YtkccmbjmlpnejaaDoorU
import Derived.Test.YtkccmbjmlpnejaaDoorJ
import Derived.KernelRfl
set_option linter.unusedSimpArgs false
set_option linter.unusedVariables false
set_option linter.unusedSectionVars false
namespace Go.Abs.V0
open Go.Proofs
set_option maxRecDepth 100000
def nu : Nat → FuncId
 | 0 => 79
 | 1 => 80
 | 2 => 81
 | 4 => 86
 | 7 => 50
 | 8 => 59
 | 10 => 91
 | 11 => 92
 | 12 => 52
 | 13 => 93
 | 15 => 82
 | 20 => 25
 | 21 => 61
 | 24 => 87
 | 25 => 88
 | 26 => 89
 | 28 => 60
 | 29 => 54
 | 30 => 57
 | 39 => 49
 | 40 => 53
 | 45 => 76
 | 47 => 83
 | 48 => 71
 | 51 => 84
 | 52 => 68
 | 54 => 39
 | 61 => 90
 | 129 => 48
 | 130 => 51
 | 131 => 36
 | 132 => 47
 | 133 => 45
 | 139 => 78
 | 147 => 55
 | 148 => 35
 | 149 => 13
 | 289 => 14
 | 290 => 37
 | 291 => 38
 | 292 => 10
 | 293 => 40
 | 294 => 16
 | 295 => 41
 | 296 => 42
 | 297 => 44
 | 298 => 43
 | 299 => 20
 | 300 => 18
 | 301 => 46
 | 302 => 21
 | 303 => 23
 | 304 => 26
 | 305 => 63
 | 306 => 62
 | 307 => 64
 | 308 => 65
 | 309 => 62
 | 310 => 28
 | 311 => 32
 | 312 => 77
 | 313 => 62
 | 314 => 85
 | 316 => 69
 | 318 => 72
 | 320 => 74
 | 322 => 34
 | 323 => 67
 | 324 => 70
 | 325 => 73
 | 326 => 75
 | 327 => 15
 | 331 => 19
 | 335 => 27
 | 336 => 66
 | 337 => 29
 | 338 => 31
 | 339 => 30
 | 340 => 33
 | 341 => 8
 | 342 => 9
 | 346 => 6
 | _ => 0
def gnum : Nat → Nat
 | 0 => 1
 | 1 => 0
 | _ => 0
def gG : Nat → z5a
 | 0 => z6pa
 | 1 => z5jb
 | 2 => z8Jb
 | 4 => z2ta
 | 7 => z5da
 | 8 => ofC
 | 10 => z2Z
 | 11 => z1Yb
 | 12 => z1eb
 | 13 => z1yb
 | 15 => z0Ta
 | 20 => z6rb
 | 21 => z1ta
 | 24 => z6ga
 | 25 => z2Z
 | 26 => z9Ja
 | 28 => z0ua
 | 29 => z7ba
 | 30 => z1Fa
 | 39 => z0N
 | 40 => z7pa
 | 45 => z1Q
 | 47 => z9db
 | 48 => z6Z
 | 52 => z9aa
 | 54 => z1K
 | 129 => z3z
 | 130 => z9ma
 | 131 => z0la
 | 132 => z1K
 | 133 => z08
 | 139 => z7eb
 | 147 => z9ma
 | 148 => z0la
 | 149 => z08
 | 289 => z1oa
 | 290 => z8ua
 | 291 => z2va
 | 292 => z2Mb
 | 293 => z1Tb
 | 294 => z4Xb
 | 295 => z8Fb
 | 296 => z8hc
 | 297 => z6dc
 | 298 => z11a
 | 299 => z6Va
 | 300 => z47a
 | 301 => z66
 | 302 => z1Ra
 | 303 => z00a
 | 304 => z5ib
 | 305 => z5Za
 | 306 => z52a
 | 308 => z83a
 | 309 => z21a
 | 310 => z6ib
 | 311 => z6fb
 | 312 => z3Ea
 | 313 => z6Qa
 | 314 => z1Na
 | 320 => z3Ta
 | 322 => z8Qa
 | 327 => z41a
 | 331 => z47a
 | 335 => z5ib
 | 336 => z60b
 | 337 => z6ib
 | 338 => z66
 | 339 => z92a
 | 340 => z6fb
 | 341 => z82a
 | 342 => z6hc
 | 346 => z1xb
 | _ => ⟨fun _ => False, fun _ => .undef⟩
def gM : Nat → CM
 | 51 => z3ra
 | 61 => z7la
 | 316 => z4ja
 | 318 => z9ka
 | 323 => z4x
 | 324 => z4W
 | 325 => z6W
 | 326 => z8W
 | _ => ⟨[], [], fun _ => False, fun _ => .undef, fun _ _ => []⟩
def gC : Nat → CW
 | 307 => z8gb
 | _ => ⟨[], [], [], fun _ _ => False, fun _ _ => .undef, fun _ _ _ => []⟩
def gT : Nat → List z2a
 | 0 => z6p kc
 | 1 => z6p kc
 | _ => []
def E0 : Env := { G := gG, T := gT, M := gM, C := gC }
noncomputable def K0 : Cx := { P := Tryd.prog, nu := nu, globs := [], N := { gnum := gnum, gs := [0, 1] }, E := E0 }
theorem c_n314 : z2c K0 z7o Tryd.f85 = true := by kernel_rfl
theorem k_n314 : (z8a z7o.body).all (fun p => ([] : List (Nat × Bool)).contains p) = true := by kernel_rfl
theorem v_n314 : z0g K0 314 z1Na := z6a (K := K0) (f := 314) (F := z7o) Tryd.func85 c_n314 (z3g k_n314 (List.forall_mem_nil _)) (z48b E0) (by kernel_rfl)
theorem c_n312 : z2c K0 z5k Tryd.f77 = true := by kernel_rfl
theorem k_n312 : (z8a z5k.body).all (fun p => ([(314, false)] : List (Nat × Bool)).contains p) = true := by kernel_rfl
theorem v_n312 : z0g K0 312 z3Ea := z6a (K := K0) (f := 312) (F := z5k) Tryd.func77 c_n312 (z3g k_n312 (List.forall_mem_cons.2 ⟨v_n314, List.forall_mem_nil _⟩)) (z2ic E0 rfl) (by kernel_rfl)
theorem c_n293 : z2c K0 z8o Tryd.f40 = true := by kernel_rfl
theorem k_n293 : (z8a z8o.body).all (fun p => ([(312, false)] : List (Nat × Bool)).contains p) = true := by kernel_rfl
theorem v_n293 : z0g K0 293 z1Tb := z6a (K := K0) (f := 293) (F := z8o) Tryd.func40 c_n293 (z3g k_n293 (List.forall_mem_cons.2 ⟨v_n312, List.forall_mem_nil _⟩)) (z5Kc E0 rfl) (by kernel_rfl)
theorem c_n291 : z2c K0 z8h Tryd.f38 = true := by kernel_rfl
theorem k_n291 : (z8a z8h.body).all (fun p => ([] : List (Nat × Bool)).contains p) = true := by kernel_rfl
theorem v_n291 : z0g K0 291 z2va := z7Ta 0 (z6a (K := K0) (f := 291) (F := z8h) (c := z7Kb) Tryd.func38 c_n291 (z3g k_n291 (List.forall_mem_nil _)) (z5ac E0) (by kernel_rfl)) z2Qb
theorem c_n289 : z2c K0 z5o Tryd.f14 = true := by kernel_rfl
theorem k_n289 : (z8a z5o.body).all (fun p => ([(293, false), (291, false)] : List (Nat × Bool)).contains p) = true := by kernel_rfl
theorem v_n289 : z0g K0 289 z1oa := z6a (K := K0) (f := 289) (F := z5o) Tryd.func14 c_n289 (z3g k_n289 (List.forall_mem_cons.2 ⟨v_n293, List.forall_mem_cons.2 ⟨v_n291, List.forall_mem_nil _⟩⟩)) (z9Nc E0 rfl rfl) (by kernel_rfl)
theorem c_n12 : z2c K0 z3K Tryd.f52 = true := by kernel_rfl
theorem k_n12 : (z8a z3K.body).all (fun p => ([] : List (Nat × Bool)).contains p) = true := by kernel_rfl
theorem v_n12 : z0g K0 12 z1eb := z6a (K := K0) (f := 12) (F := z3K) Tryd.func52 c_n12 (z3g k_n12 (List.forall_mem_nil _)) (z8xc E0) (by kernel_rfl)
theorem c_n7 : z2c K0 z4u Tryd.f50 = true := by kernel_rfl
theorem k_n7 : (z8a z4u.body).all (fun p => ([(12, false)] : List (Nat × Bool)).contains p) = true := by kernel_rfl
theorem v_n7 : z0g K0 7 z5da := z6a (K := K0) (f := 7) (F := z4u) Tryd.func50 c_n7 (z3g k_n7 (List.forall_mem_cons.2 ⟨v_n12, List.forall_mem_nil _⟩)) (z9Gb E0 rfl) (by kernel_rfl)
theorem c_n39 : z2c K0 z0A Tryd.f49 = true := by kernel_rfl
theorem k_n39 : (z8a z0A.body).all (fun p => ([(12, false)] : List (Nat × Bool)).contains p) = true := by kernel_rfl
theorem v_n39 : z0g K0 39 z0N := z6a (K := K0) (f := 39) (F := z0A) Tryd.func49 c_n39 (z3g k_n39 (List.forall_mem_cons.2 ⟨v_n12, List.forall_mem_nil _⟩)) (z4gc E0 rfl) (by kernel_rfl)
theorem v_n139 : z0g K0 139 z7eb := Go.Abs.TrydG.grow_valid rfl rfl ⟨Tryd.f78, Tryd.func78, by kernel_rfl, by kernel_rfl⟩
theorem c_n129 : z2c K0 z6n Tryd.f48 = true := by kernel_rfl
theorem k_n129 : (z8a z6n.body).all (fun p => ([(139, false)] : List (Nat × Bool)).contains p) = true := by kernel_rfl
theorem v_n129 : z0g K0 129 z3z := z6a (K := K0) (f := 129) (F := z6n) Tryd.func48 c_n129 (z3g k_n129 (List.forall_mem_cons.2 ⟨v_n139, List.forall_mem_nil _⟩)) (z1vb E0 rfl) (by kernel_rfl)
theorem c_n130 : z2c K0 z4l Tryd.f51 = true := by kernel_rfl
theorem k_n130 : (z8a z4l.body).all (fun p => ([(12, false), (7, false), (39, false), (129, false)] : List (Nat × Bool)).contains p) = true := by kernel_rfl
theorem v_n130 : z0g K0 130 z9ma := z6a (K := K0) (f := 130) (F := z4l) Tryd.func51 c_n130 (z3g k_n130 (List.forall_mem_cons.2 ⟨v_n12, List.forall_mem_cons.2 ⟨v_n7, List.forall_mem_cons.2 ⟨v_n39, List.forall_mem_cons.2 ⟨v_n129, List.forall_mem_nil _⟩⟩⟩⟩)) (z00b E0 rfl rfl rfl rfl) (by kernel_rfl)
theorem c_n0 : z2c K0 z2u Tryd.f79 = true := by kernel_rfl
theorem k_n0 : (z8a z2u.body).all (fun p => ([] : List (Nat × Bool)).contains p) = true := by kernel_rfl
theorem v_n0 : z0g K0 0 z6pa := z6a (K := K0) (f := 0) (F := z2u) Tryd.func79 c_n0 (z3g k_n0 (List.forall_mem_nil _)) (z6Jb E0) (by kernel_rfl)
theorem c_n13 : z2c K0 z6i Tryd.f93 = true := by kernel_rfl
theorem k_n13 : (z8a z6i.body).all (fun p => ([] : List (Nat × Bool)).contains p) = true := by kernel_rfl
theorem v_n13 : z0g K0 13 z1yb := z6a (K := K0) (f := 13) (F := z6i) Tryd.func93 c_n13 (z3g k_n13 (List.forall_mem_nil _)) (z5hc E0) (by kernel_rfl)
theorem c_n10 : z2c K0 z7n Tryd.f91 = true := by kernel_rfl
theorem k_n10 : (z8a z7n.body).all (fun p => ([(13, false)] : List (Nat × Bool)).contains p) = true := by kernel_rfl
theorem v_n10 : z0g K0 10 z2Z := z6a (K := K0) (f := 10) (F := z7n) Tryd.func91 c_n10 (z3g k_n10 (List.forall_mem_cons.2 ⟨v_n13, List.forall_mem_nil _⟩)) (z7Ob E0 rfl) (by kernel_rfl)
theorem c_n11 : z2c K0 z6G Tryd.f92 = true := by kernel_rfl
theorem k_n11 : (z8a z6G.body).all (fun p => ([(13, false)] : List (Nat × Bool)).contains p) = true := by kernel_rfl
theorem v_n11 : z0g K0 11 z1Yb := z6a (K := K0) (f := 11) (F := z6G) Tryd.func92 c_n11 (z3g k_n11 (List.forall_mem_cons.2 ⟨v_n13, List.forall_mem_nil _⟩)) (z3Ac E0 rfl) (by kernel_rfl)
theorem c_n4 : z2c K0 z0n Tryd.f86 = true := by kernel_rfl
theorem k_n4 : (z8a z0n.body).all (fun p => ([(10, false), (11, false)] : List (Nat × Bool)).contains p) = true := by kernel_rfl
theorem v_n4 : z0g K0 4 z2ta := z6a (K := K0) (f := 4) (F := z0n) Tryd.func86 c_n4 (z3g k_n4 (List.forall_mem_cons.2 ⟨v_n10, List.forall_mem_cons.2 ⟨v_n11, List.forall_mem_nil _⟩⟩)) (z7Jb E0 rfl rfl rfl) (by kernel_rfl)
theorem c_n1 : z2c K0 z3k Tryd.f80 = true := by kernel_rfl
theorem k_n1 : (z8a z3k.body).all (fun p => ([(4, false)] : List (Nat × Bool)).contains p) = true := by kernel_rfl
theorem v_n1 : z0g K0 1 z5jb := z6a (K := K0) (f := 1) (F := z3k) Tryd.func80 c_n1 (z3g k_n1 (List.forall_mem_cons.2 ⟨v_n4, List.forall_mem_nil _⟩)) (z1ic E0 rfl) (by kernel_rfl)
theorem c_n2 : z2c K0 z2k Tryd.f81 = true := by kernel_rfl
theorem k_n2 : (z8a z2k.body).all (fun p => ([(1, false)] : List (Nat × Bool)).contains p) = true := by kernel_rfl
theorem v_n2 : z0g K0 2 z8Jb := z6a (K := K0) (f := 2) (F := z2k) Tryd.func81 c_n2 (z3g k_n2 (List.forall_mem_cons.2 ⟨v_n1, List.forall_mem_nil _⟩)) (z1tc E0 rfl) (by kernel_rfl)
theorem c_n8 : z2c K0 z5T Tryd.f59 = true := by kernel_rfl
theorem k_n8 : (z8a z5T.body).all (fun p => ([(0, false), (1, false), (7, false), (2, false)] : List (Nat × Bool)).contains p) = true := by kernel_rfl
theorem v_n8 : z0g K0 8 ofC := z6a (K := K0) (f := 8) (F := z5T) Tryd.func59 c_n8 (z3g k_n8 (List.forall_mem_cons.2 ⟨v_n0, List.forall_mem_cons.2 ⟨v_n1, List.forall_mem_cons.2 ⟨v_n7, List.forall_mem_cons.2 ⟨v_n2, List.forall_mem_nil _⟩⟩⟩⟩)) (z6hd E0 rfl rfl rfl rfl) (by kernel_rfl)
theorem c_n131 : z2c K0 z5l Tryd.f36 = true := by kernel_rfl
theorem k_n131 : (z8a z5l.body).all (fun p => ([(130, false), (8, false)] : List (Nat × Bool)).contains p) = true := by kernel_rfl
theorem v_n131 : z0g K0 131 z0la := z6a (K := K0) (f := 131) (F := z5l) Tryd.func36 c_n131 (z3g k_n131 (List.forall_mem_cons.2 ⟨v_n130, List.forall_mem_cons.2 ⟨v_n8, List.forall_mem_nil _⟩⟩)) (z4Cc E0 rfl rfl) (by kernel_rfl)
theorem c_n290 : z2c K0 z9g Tryd.f37 = true := by kernel_rfl
theorem k_n290 : (z8a z9g.body).all (fun p => ([] : List (Nat × Bool)).contains p) = true := by kernel_rfl
theorem v_n290 : z0g K0 290 z8ua := z7Ta 0 (z6a (K := K0) (f := 290) (F := z9g) (c := z5Lb) Tryd.func37 c_n290 (z3g k_n290 (List.forall_mem_nil _)) (z7dc E0) (by kernel_rfl)) z8Cb
theorem c_n292 : z2c K0 z0u Tryd.f10 = true := by kernel_rfl
theorem k_n292 : (z8a z0u.body).all (fun p => ([(289, false), (131, false), (290, false), (291, false)] : List (Nat × Bool)).contains p) = true := by kernel_rfl
theorem v_n292 : z0g K0 292 z2Mb := z6a (K := K0) (f := 292) (F := z0u) Tryd.func10 c_n292 (z3g k_n292 (List.forall_mem_cons.2 ⟨v_n289, List.forall_mem_cons.2 ⟨v_n131, List.forall_mem_cons.2 ⟨v_n290, List.forall_mem_cons.2 ⟨v_n291, List.forall_mem_nil _⟩⟩⟩⟩)) (z4Bc E0 rfl rfl rfl rfl) (by kernel_rfl)
theorem c_n304 : z2c K0 z5u Tryd.f26 = true := by kernel_rfl
theorem k_n304 : (z8a z5u.body).all (fun p => ([] : List (Nat × Bool)).contains p) = true := by kernel_rfl
theorem v_n304 : z0g K0 304 z5ib := z6a (K := K0) (f := 304) (F := z5u) Tryd.func26 c_n304 (z3g k_n304 (List.forall_mem_nil _)) (z8Cc E0) (by kernel_rfl)
theorem c_n305 : z2c K0 z9m Tryd.f63 = true := by kernel_rfl
theorem k_n305 : (z8a z9m.body).all (fun p => ([] : List (Nat × Bool)).contains p) = true := by kernel_rfl
theorem v_n305 : z0g K0 305 z5Za := z6a (K := K0) (f := 305) (F := z9m) Tryd.func63 c_n305 (z3g k_n305 (List.forall_mem_nil _)) (z8Zb E0) (by kernel_rfl)
theorem c_n306 : z2c K0 z7b Tryd.f62 = true := by kernel_rfl
theorem k_n306 : (z8a z7b.body).all (fun p => ([(305, false)] : List (Nat × Bool)).contains p) = true := by kernel_rfl
theorem v_n306 : z0g K0 306 z52a := z6a (K := K0) (f := 306) (F := z7b) Tryd.func62 c_n306 (z3g k_n306 (List.forall_mem_cons.2 ⟨v_n305, List.forall_mem_nil _⟩)) (z85b E0 rfl) (by kernel_rfl)
theorem c_n308 : z2c K0 z7m Tryd.f65 = true := by kernel_rfl
theorem k_n308 : (z8a z7m.body).all (fun p => ([] : List (Nat × Bool)).contains p) = true := by kernel_rfl
theorem v_n308 : z0g K0 308 z83a := z6a (K := K0) (f := 308) (F := z7m) Tryd.func65 c_n308 (z3g k_n308 (List.forall_mem_nil _)) (z42b E0) (by kernel_rfl)
theorem c_n309 : z2c K0 z8b Tryd.f62 = true := by kernel_rfl
theorem k_n309 : (z8a z8b.body).all (fun p => ([(308, false)] : List (Nat × Bool)).contains p) = true := by kernel_rfl
theorem v_n309 : z0g K0 309 z21a := z6a (K := K0) (f := 309) (F := z8b) Tryd.func62 c_n309 (z3g k_n309 (List.forall_mem_cons.2 ⟨v_n308, List.forall_mem_nil _⟩)) (z14b E0 rfl) (by kernel_rfl)
theorem c_n307 : z2c K0 z1j Tryd.f64 = true := by kernel_rfl
theorem k_n307 : (z8a z1j.body).all (fun p => ([] : List (Nat × Bool)).contains p) = true := by kernel_rfl
theorem v_n307 : z2Ga K0 307 z8gb := z0Za (K := K0) (f := 307) (F := z1j) Tryd.func64 c_n307 (z3g k_n307 (List.forall_mem_nil _)) (z8Ac E0) (by kernel_rfl) (by kernel_rfl)
theorem c_n295 : z2c K0 z1l Tryd.f41 = true := by kernel_rfl
theorem k_n295 : (z8a z1l.body).all (fun p => ([] : List (Nat × Bool)).contains p) = true := by kernel_rfl
theorem v_n295 : z0g K0 295 z8Fb := z6a (K := K0) (f := 295) (F := z1l) Tryd.func41 c_n295 (z3g k_n295 (List.forall_mem_nil _)) (z5Cc E0) (by kernel_rfl)
theorem c_n296 : z2c K0 z4n Tryd.f42 = true := by kernel_rfl
theorem k_n296 : (z8a z4n.body).all (fun p => ([(295, false)] : List (Nat × Bool)).contains p) = true := by kernel_rfl
theorem v_n296 : z0g K0 296 z8hc := z6a (K := K0) (f := 296) (F := z4n) Tryd.func42 c_n296 (z3g k_n296 (List.forall_mem_cons.2 ⟨v_n295, List.forall_mem_nil _⟩)) (z9Hc E0 rfl) (by kernel_rfl)
theorem c_n297 : z2c K0 z1n Tryd.f44 = true := by kernel_rfl
theorem k_n297 : (z8a z1n.body).all (fun p => ([(296, false)] : List (Nat × Bool)).contains p) = true := by kernel_rfl
theorem v_n297 : z0g K0 297 z6dc := z6a (K := K0) (f := 297) (F := z1n) Tryd.func44 c_n297 (z3g k_n297 (List.forall_mem_cons.2 ⟨v_n296, List.forall_mem_nil _⟩)) (z0Fc E0 rfl) (by kernel_rfl)
theorem c_n313 : z2c K0 z9b Tryd.f62 = true := by kernel_rfl
theorem k_n313 : (z8a z9b.body).all (fun p => ([(297, false)] : List (Nat × Bool)).contains p) = true := by kernel_rfl
theorem v_n313 : z0g K0 313 z6Qa := z6a (K := K0) (f := 313) (F := z9b) Tryd.func62 c_n313 (z3g k_n313 (List.forall_mem_cons.2 ⟨v_n297, List.forall_mem_nil _⟩)) (z09b E0 rfl) (by kernel_rfl)
theorem c_n298 : z2c K0 z1b Tryd.f43 = true := by kernel_rfl
theorem k_n298 : (z8a z1b.body).all (fun p => ([(313, false)] : List (Nat × Bool)).contains p) = true := by kernel_rfl
theorem v_n298 : z0g K0 298 z11a := z6a (K := K0) (f := 298) (F := z1b) Tryd.func43 c_n298 (z3g k_n298 (List.forall_mem_cons.2 ⟨v_n313, List.forall_mem_nil _⟩)) (z0jc E0 rfl) (by kernel_rfl)
theorem c_n294 : z2c K0 z8t Tryd.f16 = true := by kernel_rfl
theorem k_n294 : (z8a z8t.body).all (fun p => ([] : List (Nat × Bool)).contains p) = true := by kernel_rfl
theorem v_n294 : z0g K0 294 z4Xb := z6a (K := K0) (f := 294) (F := z8t) Tryd.func16 c_n294 (z3g k_n294 (List.forall_mem_nil _)) (z9Dc E0) (by kernel_rfl)
theorem c_n132 : z2c K0 z5m Tryd.f47 = true := by kernel_rfl
theorem k_n132 : (z8a z5m.body).all (fun p => ([] : List (Nat × Bool)).contains p) = true := by kernel_rfl
theorem v_n132 : z0g K0 132 z1K := z6a (K := K0) (f := 132) (F := z5m) Tryd.func47 c_n132 (z3g k_n132 (List.forall_mem_nil _)) (z0Lc E0) (by kernel_rfl)
theorem c_n133 : z2c K0 z6o Tryd.f45 = true := by kernel_rfl
theorem k_n133 : (z8a z6o.body).all (fun p => ([(132, false)] : List (Nat × Bool)).contains p) = true := by kernel_rfl
theorem v_n133 : z0g K0 133 z08 := z6a (K := K0) (f := 133) (F := z6o) Tryd.func45 c_n133 (z3g k_n133 (List.forall_mem_cons.2 ⟨v_n132, List.forall_mem_nil _⟩)) (z0Qb E0 rfl) (by kernel_rfl)
theorem c_n301 : z2c K0 z0h Tryd.f46 = true := by kernel_rfl
theorem k_n301 : (z8a z0h.body).all (fun p => ([] : List (Nat × Bool)).contains p) = true := by kernel_rfl
theorem v_n301 : z0g K0 301 z66 := z6a (K := K0) (f := 301) (F := z0h) Tryd.func46 c_n301 (z3g k_n301 (List.forall_mem_nil _)) (z1Kb E0) (by kernel_rfl)
theorem c_n299 : z2c K0 z9t Tryd.f20 = true := by kernel_rfl
theorem k_n299 : (z8a z9t.body).all (fun p => ([(133, false), (301, false), (132, false)] : List (Nat × Bool)).contains p) = true := by kernel_rfl
theorem v_n299 : z0g K0 299 z6Va := z6a (K := K0) (f := 299) (F := z9t) Tryd.func20 c_n299 (z3g k_n299 (List.forall_mem_cons.2 ⟨v_n133, List.forall_mem_cons.2 ⟨v_n301, List.forall_mem_cons.2 ⟨v_n132, List.forall_mem_nil _⟩⟩⟩)) (z0Eb E0 rfl rfl rfl) (by kernel_rfl)
theorem c_n300 : z2c K0 z0r Tryd.f18 = true := by kernel_rfl
theorem k_n300 : (z8a z0r.body).all (fun p => ([(298, false), (294, false), (299, false), (295, false), (293, false)] : List (Nat × Bool)).contains p) = true := by kernel_rfl
theorem v_n300 : z0g K0 300 z47a := z6a (K := K0) (f := 300) (F := z0r) Tryd.func18 c_n300 (z3g k_n300 (List.forall_mem_cons.2 ⟨v_n298, List.forall_mem_cons.2 ⟨v_n294, List.forall_mem_cons.2 ⟨v_n299, List.forall_mem_cons.2 ⟨v_n295, List.forall_mem_cons.2 ⟨v_n293, List.forall_mem_nil _⟩⟩⟩⟩⟩)) (z40b E0 rfl rfl rfl rfl rfl) (by kernel_rfl)
theorem c_n310 : z2c K0 z9k Tryd.f28 = true := by kernel_rfl
theorem k_n310 : (z8a z9k.body).all (fun p => ([(306, false), (309, false), (500000307, true), (290, false), (300, false)] : List (Nat × Bool)).contains p) = true := by kernel_rfl
theorem v_n310 : z0g K0 310 z6ib := z6a (K := K0) (f := 310) (F := z9k) Tryd.func28 c_n310 (z3g k_n310 (List.forall_mem_cons.2 ⟨v_n306, List.forall_mem_cons.2 ⟨v_n309, List.forall_mem_cons.2 ⟨v_n307, List.forall_mem_cons.2 ⟨v_n290, List.forall_mem_cons.2 ⟨v_n300, List.forall_mem_nil _⟩⟩⟩⟩⟩)) (z49b E0 rfl rfl rfl rfl rfl) (by kernel_rfl)
theorem c_n302 : z2c K0 z0p Tryd.f21 = true := by kernel_rfl
theorem k_n302 : (z8a z0p.body).all (fun p => ([(39, false), (130, false), (7, false), (12, false), (129, false)] : List (Nat × Bool)).contains p) = true := by kernel_rfl
theorem v_n302 : z0g K0 302 z1Ra := z6a (K := K0) (f := 302) (F := z0p) Tryd.func21 c_n302 (z3g k_n302 (List.forall_mem_cons.2 ⟨v_n39, List.forall_mem_cons.2 ⟨v_n130, List.forall_mem_cons.2 ⟨v_n7, List.forall_mem_cons.2 ⟨v_n12, List.forall_mem_cons.2 ⟨v_n129, List.forall_mem_nil _⟩⟩⟩⟩⟩)) (z6Eb E0 rfl rfl rfl rfl rfl) (by kernel_rfl)
theorem c_n45 : z2c K0 z4o Tryd.f76 = true := by kernel_rfl
theorem k_n45 : (z8a z4o.body).all (fun p => ([] : List (Nat × Bool)).contains p) = true := by kernel_rfl
theorem v_n45 : z0g K0 45 z1Q := z6a (K := K0) (f := 45) (F := z4o) Tryd.func76 c_n45 (z3g k_n45 (List.forall_mem_nil _)) (z9vb E0) (by kernel_rfl)
theorem c_n47 : z2c K0 z9o Tryd.f83 = true := by kernel_rfl
theorem k_n47 : (z8a z9o.body).all (fun p => ([(45, false)] : List (Nat × Bool)).contains p) = true := by kernel_rfl
theorem v_n47 : z0g K0 47 z9db := z6a (K := K0) (f := 47) (F := z9o) Tryd.func83 c_n47 (z3g k_n47 (List.forall_mem_cons.2 ⟨v_n45, List.forall_mem_nil _⟩)) (z5Bc E0 rfl) (by kernel_rfl)
theorem c_n51 : z2c K0 z5v Tryd.f84 = true := by kernel_rfl
theorem k_n51 : (z8a z5v.body).all (fun p => ([] : List (Nat × Bool)).contains p) = true := by kernel_rfl
theorem v_n51 : z3aa K0 51 z3ra := z1z (K := K0) (f := 51) (F := z5v) Tryd.func84 c_n51 (z3g k_n51 (List.forall_mem_nil _)) (by decide) (z22b E0) (by kernel_rfl) (by kernel_rfl)
theorem c_n61 : z2c K0 z7p Tryd.f90 = true := by kernel_rfl
theorem k_n61 : (z8a z7p.body).all (fun p => ([(45, false)] : List (Nat × Bool)).contains p) = true := by kernel_rfl
theorem v_n61 : z3aa K0 61 z7la := z1z (K := K0) (f := 61) (F := z7p) Tryd.func90 c_n61 (z3g k_n61 (List.forall_mem_cons.2 ⟨v_n45, List.forall_mem_nil _⟩)) (by decide) (z83b E0 rfl) (by kernel_rfl) (by kernel_rfl)
theorem c_n52 : z2c K0 z0l Tryd.f68 = true := by kernel_rfl
theorem k_n52 : (z8a z0l.body).all (fun p => ([(47, false), (51, true), (61, true)] : List (Nat × Bool)).contains p) = true := by kernel_rfl
theorem v_n52 : z0g K0 52 z9aa := z6a (K := K0) (f := 52) (F := z0l) Tryd.func68 c_n52 (z3g k_n52 (List.forall_mem_cons.2 ⟨v_n47, List.forall_mem_cons.2 ⟨v_n51, List.forall_mem_cons.2 ⟨v_n61, List.forall_mem_nil _⟩⟩⟩)) (z5db E0 rfl rfl rfl) (by kernel_rfl)
theorem c_n323 : z2c K0 z3f Tryd.f67 = true := by kernel_rfl
theorem k_n323 : (z8a z3f.body).all (fun p => ([(52, false)] : List (Nat × Bool)).contains p) = true := by kernel_rfl
theorem v_n323 : z3aa K0 323 z4x := z1z (K := K0) (f := 323) (F := z3f) Tryd.func67 c_n323 (z3g k_n323 (List.forall_mem_cons.2 ⟨v_n52, List.forall_mem_nil _⟩)) (by decide) (z1mb E0 rfl) (by kernel_rfl) (by kernel_rfl)
theorem c_n316 : z2c K0 z2j Tryd.f69 = true := by kernel_rfl
theorem k_n316 : (z8a z2j.body).all (fun p => ([] : List (Nat × Bool)).contains p) = true := by kernel_rfl
theorem v_n316 : z3aa K0 316 z4ja := z1z (K := K0) (f := 316) (F := z2j) Tryd.func69 c_n316 (z3g k_n316 (List.forall_mem_nil _)) (by decide) (z8dc E0) (by kernel_rfl) (by kernel_rfl)
theorem c_n48 : z2c K0 z7j Tryd.f71 = true := by kernel_rfl
theorem k_n48 : (z8a z7j.body).all (fun p => ([(47, false)] : List (Nat × Bool)).contains p) = true := by kernel_rfl
theorem v_n48 : z0g K0 48 z6Z := z6a (K := K0) (f := 48) (F := z7j) Tryd.func71 c_n48 (z3g k_n48 (List.forall_mem_cons.2 ⟨v_n47, List.forall_mem_nil _⟩)) (z50a E0 rfl) (by kernel_rfl)
theorem c_n324 : z2c K0 z8e Tryd.f70 = true := by kernel_rfl
theorem k_n324 : (z8a z8e.body).all (fun p => ([(48, false)] : List (Nat × Bool)).contains p) = true := by kernel_rfl
theorem v_n324 : z3aa K0 324 z4W := z1z (K := K0) (f := 324) (F := z8e) Tryd.func70 c_n324 (z3g k_n324 (List.forall_mem_cons.2 ⟨v_n48, List.forall_mem_nil _⟩)) (by decide) (z0Ab E0 rfl) (by kernel_rfl) (by kernel_rfl)
theorem c_n326 : z2c K0 z1g Tryd.f75 = true := by kernel_rfl
theorem k_n326 : (z8a z1g.body).all (fun p => ([(45, false)] : List (Nat × Bool)).contains p) = true := by kernel_rfl
theorem v_n326 : z3aa K0 326 z8W := z1z (K := K0) (f := 326) (F := z1g) Tryd.func75 c_n326 (z3g k_n326 (List.forall_mem_cons.2 ⟨v_n45, List.forall_mem_nil _⟩)) (by decide) (z8Ab E0 rfl) (by kernel_rfl) (by kernel_rfl)
theorem c_n318 : z2c K0 z2e Tryd.f72 = true := by kernel_rfl
theorem k_n318 : (z8a z2e.body).all (fun p => ([(326, true), (324, true), (323, true), (316, true)] : List (Nat × Bool)).contains p) = true := by kernel_rfl
theorem v_n318 : z3aa K0 318 z9ka := z1z (K := K0) (f := 318) (F := z2e) Tryd.func72 c_n318 (z3g k_n318 (List.forall_mem_cons.2 ⟨v_n326, List.forall_mem_cons.2 ⟨v_n324, List.forall_mem_cons.2 ⟨v_n323, List.forall_mem_cons.2 ⟨v_n316, List.forall_mem_nil _⟩⟩⟩⟩)) (by decide) (z7gc E0 rfl rfl rfl rfl) (by kernel_rfl) (by kernel_rfl)
theorem c_n320 : z2c K0 z1p Tryd.f74 = true := by kernel_rfl
theorem k_n320 : (z8a z1p.body).all (fun p => ([] : List (Nat × Bool)).contains p) = true := by kernel_rfl
theorem v_n320 : z0g K0 320 z3Ta := z6a (K := K0) (f := 320) (F := z1p) Tryd.func74 c_n320 (z3g k_n320 (List.forall_mem_nil _)) (z34b E0) (by kernel_rfl)
theorem c_n325 : z2c K0 z4f Tryd.f73 = true := by kernel_rfl
theorem k_n325 : (z8a z4f.body).all (fun p => ([(320, false)] : List (Nat × Bool)).contains p) = true := by kernel_rfl
theorem v_n325 : z3aa K0 325 z6W := z1z (K := K0) (f := 325) (F := z4f) Tryd.func73 c_n325 (z3g k_n325 (List.forall_mem_cons.2 ⟨v_n320, List.forall_mem_nil _⟩)) (by decide) (z3Hb E0 rfl) (by kernel_rfl) (by kernel_rfl)
theorem c_n322 : z2c K0 z3p Tryd.f34 = true := by kernel_rfl
theorem k_n322 : (z8a z3p.body).all (fun p => ([(323, true), (316, true), (324, true), (318, true), (325, true), (326, true), (295, false), (300, false)] : List (Nat × Bool)).contains p) = true := by kernel_rfl
theorem v_n322 : z0g K0 322 z8Qa := z6a (K := K0) (f := 322) (F := z3p) Tryd.func34 c_n322 (z3g k_n322 (List.forall_mem_cons.2 ⟨v_n323, List.forall_mem_cons.2 ⟨v_n316, List.forall_mem_cons.2 ⟨v_n324, List.forall_mem_cons.2 ⟨v_n318, List.forall_mem_cons.2 ⟨v_n325, List.forall_mem_cons.2 ⟨v_n326, List.forall_mem_cons.2 ⟨v_n295, List.forall_mem_cons.2 ⟨v_n300, List.forall_mem_nil _⟩⟩⟩⟩⟩⟩⟩⟩)) (z7Zb E0 rfl rfl rfl rfl rfl rfl rfl rfl) (by kernel_rfl)
theorem c_n30 : z2c K0 z4j Tryd.f57 = true := by kernel_rfl
theorem k_n30 : (z8a z4j.body).all (fun p => ([] : List (Nat × Bool)).contains p) = true := by kernel_rfl
theorem v_n30 : z0g K0 30 z1Fa := z6a (K := K0) (f := 30) (F := z4j) Tryd.func57 c_n30 (z3g k_n30 (List.forall_mem_nil _)) (z57b E0) (by kernel_rfl)
theorem c_n29 : z2c K0 z4h Tryd.f54 = true := by kernel_rfl
theorem k_n29 : (z8a z4h.body).all (fun p => ([(30, false)] : List (Nat × Bool)).contains p) = true := by kernel_rfl
theorem v_n29 : z0g K0 29 z7ba := z6a (K := K0) (f := 29) (F := z4h) Tryd.func54 c_n29 (z3g k_n29 (List.forall_mem_cons.2 ⟨v_n30, List.forall_mem_nil _⟩)) (z3rb E0 rfl) (by kernel_rfl)
theorem c_n40 : z2c K0 z9i Tryd.f53 = true := by kernel_rfl
theorem k_n40 : (z8a z9i.body).all (fun p => ([(30, false)] : List (Nat × Bool)).contains p) = true := by kernel_rfl
theorem v_n40 : z0g K0 40 z7pa := z6a (K := K0) (f := 40) (F := z9i) Tryd.func53 c_n40 (z3g k_n40 (List.forall_mem_cons.2 ⟨v_n30, List.forall_mem_nil _⟩)) (z2Fb E0 rfl) (by kernel_rfl)
theorem c_n147 : z2c K0 z5g Tryd.f55 = true := by kernel_rfl
theorem k_n147 : (z8a z5g.body).all (fun p => ([(30, false), (29, false), (40, false)] : List (Nat × Bool)).contains p) = true := by kernel_rfl
theorem v_n147 : z0g K0 147 z9ma := z6a (K := K0) (f := 147) (F := z5g) Tryd.func55 c_n147 (z3g k_n147 (List.forall_mem_cons.2 ⟨v_n30, List.forall_mem_cons.2 ⟨v_n29, List.forall_mem_cons.2 ⟨v_n40, List.forall_mem_nil _⟩⟩⟩)) (z7bc E0 rfl rfl rfl) (by kernel_rfl)
theorem c_n21 : z2c K0 z3h Tryd.f61 = true := by kernel_rfl
theorem k_n21 : (z8a z3h.body).all (fun p => ([(29, false)] : List (Nat × Bool)).contains p) = true := by kernel_rfl
theorem v_n21 : z0g K0 21 z1ta := z6a (K := K0) (f := 21) (F := z3h) Tryd.func61 c_n21 (z3g k_n21 (List.forall_mem_cons.2 ⟨v_n29, List.forall_mem_nil _⟩)) (z6zb E0 rfl) (by kernel_rfl)
theorem c_n24 : z2c K0 z8g Tryd.f87 = true := by kernel_rfl
theorem k_n24 : (z8a z8g.body).all (fun p => ([] : List (Nat × Bool)).contains p) = true := by kernel_rfl
theorem v_n24 : z0g K0 24 z6ga := z6a (K := K0) (f := 24) (F := z8g) Tryd.func87 c_n24 (z3g k_n24 (List.forall_mem_nil _)) (z4wb E0) (by kernel_rfl)
theorem c_n26 : z2c K0 z5i Tryd.f89 = true := by kernel_rfl
theorem k_n26 : (z8a z5i.body).all (fun p => ([] : List (Nat × Bool)).contains p) = true := by kernel_rfl
theorem v_n26 : z0g K0 26 z9Ja := z6a (K := K0) (f := 26) (F := z5i) Tryd.func89 c_n26 (z3g k_n26 (List.forall_mem_nil _)) (z5bc E0) (by kernel_rfl)
theorem c_n25 : z2c K0 z2h Tryd.f88 = true := by kernel_rfl
theorem k_n25 : (z8a z2h.body).all (fun p => ([(26, false)] : List (Nat × Bool)).contains p) = true := by kernel_rfl
theorem v_n25 : z0g K0 25 z2Z := z6a (K := K0) (f := 25) (F := z2h) Tryd.func88 c_n25 (z3g k_n25 (List.forall_mem_cons.2 ⟨v_n26, List.forall_mem_nil _⟩)) (z7Mb E0 rfl) (by kernel_rfl)
theorem c_n15 : z2c K0 z5j Tryd.f82 = true := by kernel_rfl
theorem k_n15 : (z8a z5j.body).all (fun p => ([(24, false), (25, false), (26, false)] : List (Nat × Bool)).contains p) = true := by kernel_rfl
theorem v_n15 : z0g K0 15 z0Ta := z6a (K := K0) (f := 15) (F := z5j) Tryd.func82 c_n15 (z3g k_n15 (List.forall_mem_cons.2 ⟨v_n24, List.forall_mem_cons.2 ⟨v_n25, List.forall_mem_cons.2 ⟨v_n26, List.forall_mem_nil _⟩⟩⟩)) (z28b E0 rfl rfl rfl rfl) (by kernel_rfl)
theorem c_n28 : z2c K0 z6h Tryd.f60 = true := by kernel_rfl
theorem k_n28 : (z8a z6h.body).all (fun p => ([(15, false)] : List (Nat × Bool)).contains p) = true := by kernel_rfl
theorem v_n28 : z0g K0 28 z0ua := z6a (K := K0) (f := 28) (F := z6h) Tryd.func60 c_n28 (z3g k_n28 (List.forall_mem_cons.2 ⟨v_n15, List.forall_mem_nil _⟩)) (z2Bb E0 rfl) (by kernel_rfl)
theorem c_n20 : z2c K0 z1k Tryd.f25 = true := by kernel_rfl
theorem k_n20 : (z8a z1k.body).all (fun p => ([(21, false), (28, false)] : List (Nat × Bool)).contains p) = true := by kernel_rfl
theorem v_n20 : z0g K0 20 z6rb := z6a (K := K0) (f := 20) (F := z1k) Tryd.func25 c_n20 (z3g k_n20 (List.forall_mem_cons.2 ⟨v_n21, List.forall_mem_cons.2 ⟨v_n28, List.forall_mem_nil _⟩⟩)) (z3Bc E0 rfl rfl) (by kernel_rfl)
theorem c_n148 : z2c K0 z4g Tryd.f35 = true := by kernel_rfl
theorem k_n148 : (z8a z4g.body).all (fun p => ([(147, false), (20, false)] : List (Nat × Bool)).contains p) = true := by kernel_rfl
theorem v_n148 : z0g K0 148 z0la := z6a (K := K0) (f := 148) (F := z4g) Tryd.func35 c_n148 (z3g k_n148 (List.forall_mem_cons.2 ⟨v_n147, List.forall_mem_cons.2 ⟨v_n20, List.forall_mem_nil _⟩⟩)) (z1cc E0 rfl rfl) (by kernel_rfl)
theorem c_n311 : z2c K0 z6u Tryd.f32 = true := by kernel_rfl
theorem k_n311 : (z8a z6u.body).all (fun p => ([] : List (Nat × Bool)).contains p) = true := by kernel_rfl
theorem v_n311 : z0g K0 311 z6fb := z6a (K := K0) (f := 311) (F := z6u) Tryd.func32 c_n311 (z3g k_n311 (List.forall_mem_nil _)) (z9Ec E0) (by kernel_rfl)
theorem c_n303 : z2c K0 z2p Tryd.f23 = true := by kernel_rfl
theorem k_n303 : (z8a z2p.body).all (fun p => ([(302, false), (8, false)] : List (Nat × Bool)).contains p) = true := by kernel_rfl
theorem v_n303 : z0g K0 303 z00a := z6a (K := K0) (f := 303) (F := z2p) Tryd.func23 c_n303 (z3g k_n303 (List.forall_mem_cons.2 ⟨v_n302, List.forall_mem_cons.2 ⟨v_n8, List.forall_mem_nil _⟩⟩)) (z7Pb E0 rfl rfl) (by kernel_rfl)
theorem c_n342 : z2c K0 z6g Tryd.f9 = true := by kernel_rfl
theorem k_n342 : (z8a z6g.body).all (fun p => ([(292, false), (304, false), (310, false), (294, false), (302, false), (322, false), (289, false), (300, false), (148, false), (299, false), (311, false), (303, false)] : List (Nat × Bool)).contains p) = true := by kernel_rfl
theorem v_n342 : z0g K0 342 z6hc := z6a (K := K0) (f := 342) (F := z6g) Tryd.func9 c_n342 (z3g k_n342 (List.forall_mem_cons.2 ⟨v_n292, List.forall_mem_cons.2 ⟨v_n304, List.forall_mem_cons.2 ⟨v_n310, List.forall_mem_cons.2 ⟨v_n294, List.forall_mem_cons.2 ⟨v_n302, List.forall_mem_cons.2 ⟨v_n322, List.forall_mem_cons.2 ⟨v_n289, List.forall_mem_cons.2 ⟨v_n300, List.forall_mem_cons.2 ⟨v_n148, List.forall_mem_cons.2 ⟨v_n299, List.forall_mem_cons.2 ⟨v_n311, List.forall_mem_cons.2 ⟨v_n303, List.forall_mem_nil _⟩⟩⟩⟩⟩⟩⟩⟩⟩⟩⟩⟩)) (z04b E0 rfl rfl rfl rfl rfl rfl rfl rfl rfl rfl rfl rfl) (by kernel_rfl)
theorem c_n335 : z2c K0 z4i Tryd.f27 = true := by kernel_rfl
theorem k_n335 : (z8a z4i.body).all (fun p => ([] : List (Nat × Bool)).contains p) = true := by kernel_rfl
theorem v_n335 : z0g K0 335 z5ib := z6a (K := K0) (f := 335) (F := z4i) Tryd.func27 c_n335 (z3g k_n335 (List.forall_mem_nil _)) (z0bc E0) (by kernel_rfl)
theorem c_n341 : z2c K0 z0e Tryd.f8 = true := by kernel_rfl
theorem k_n341 : (z8a z0e.body).all (fun p => ([] : List (Nat × Bool)).contains p) = true := by kernel_rfl
theorem v_n341 : z0g K0 341 z82a := z6a (K := K0) (f := 341) (F := z0e) Tryd.func8 c_n341 (z3g k_n341 (List.forall_mem_nil _)) (z5ec E0) (by kernel_rfl)
theorem c_n336 : z2c K0 z4k Tryd.f66 = true := by kernel_rfl
theorem k_n336 : (z8a z4k.body).all (fun p => ([] : List (Nat × Bool)).contains p) = true := by kernel_rfl
theorem v_n336 : z0g K0 336 z60b := z6a (K := K0) (f := 336) (F := z4k) Tryd.func66 c_n336 (z3g k_n336 (List.forall_mem_nil _)) (z8Lc E0) (by kernel_rfl)
theorem c_n54 : z2c K0 z1f Tryd.f39 = true := by kernel_rfl
theorem k_n54 : (z8a z1f.body).all (fun p => ([] : List (Nat × Bool)).contains p) = true := by kernel_rfl
theorem v_n54 : z0g K0 54 z1K := z6a (K := K0) (f := 54) (F := z1f) Tryd.func39 c_n54 (z3g k_n54 (List.forall_mem_nil _)) (z0kb E0) (by kernel_rfl)
theorem c_n149 : z2c K0 z7i Tryd.f13 = true := by kernel_rfl
theorem k_n149 : (z8a z7i.body).all (fun p => ([(54, false)] : List (Nat × Bool)).contains p) = true := by kernel_rfl
theorem v_n149 : z0g K0 149 z08 := z6a (K := K0) (f := 149) (F := z7i) Tryd.func13 c_n149 (z3g k_n149 (List.forall_mem_cons.2 ⟨v_n54, List.forall_mem_nil _⟩)) (z9Kb E0 rfl) (by kernel_rfl)
theorem c_n327 : z2c K0 z7f Tryd.f15 = true := by kernel_rfl
theorem k_n327 : (z8a z7f.body).all (fun p => ([] : List (Nat × Bool)).contains p) = true := by kernel_rfl
theorem v_n327 : z0g K0 327 z41a := z6a (K := K0) (f := 327) (F := z7f) Tryd.func15 c_n327 (z3g k_n327 (List.forall_mem_nil _)) (z87b E0) (by kernel_rfl)
theorem c_n331 : z2c K0 z5h Tryd.f19 = true := by kernel_rfl
theorem k_n331 : (z8a z5h.body).all (fun p => ([(149, false), (327, false)] : List (Nat × Bool)).contains p) = true := by kernel_rfl
theorem v_n331 : z0g K0 331 z47a := z6a (K := K0) (f := 331) (F := z5h) Tryd.func19 c_n331 (z3g k_n331 (List.forall_mem_cons.2 ⟨v_n149, List.forall_mem_cons.2 ⟨v_n327, List.forall_mem_nil _⟩⟩)) (z46b E0 rfl rfl) (by kernel_rfl)
theorem c_n337 : z2c K0 z9d Tryd.f29 = true := by kernel_rfl
theorem k_n337 : (z8a z9d.body).all (fun p => ([(336, false), (331, false)] : List (Nat × Bool)).contains p) = true := by kernel_rfl
theorem v_n337 : z0g K0 337 z6ib := z6a (K := K0) (f := 337) (F := z9d) Tryd.func29 c_n337 (z3g k_n337 (List.forall_mem_cons.2 ⟨v_n336, List.forall_mem_cons.2 ⟨v_n331, List.forall_mem_nil _⟩⟩)) (z9Nb E0 rfl rfl) (by kernel_rfl)
theorem c_n338 : z2c K0 z8d Tryd.f31 = true := by kernel_rfl
theorem k_n338 : (z8a z8d.body).all (fun p => ([] : List (Nat × Bool)).contains p) = true := by kernel_rfl
theorem v_n338 : z0g K0 338 z66 := z6a (K := K0) (f := 338) (F := z8d) Tryd.func31 c_n338 (z3g k_n338 (List.forall_mem_nil _)) (z7Hb E0) (by kernel_rfl)
theorem c_n339 : z2c K0 z6c Tryd.f30 = true := by kernel_rfl
theorem k_n339 : (z8a z6c.body).all (fun p => ([(338, false)] : List (Nat × Bool)).contains p) = true := by kernel_rfl
theorem v_n339 : z0g K0 339 z92a := z6a (K := K0) (f := 339) (F := z6c) Tryd.func30 c_n339 (z3g k_n339 (List.forall_mem_cons.2 ⟨v_n338, List.forall_mem_nil _⟩)) (z3ac E0 rfl) (by kernel_rfl)
theorem c_n340 : z2c K0 z8i Tryd.f33 = true := by kernel_rfl
theorem k_n340 : (z8a z8i.body).all (fun p => ([] : List (Nat × Bool)).contains p) = true := by kernel_rfl
theorem v_n340 : z0g K0 340 z6fb := z6a (K := K0) (f := 340) (F := z8i) Tryd.func33 c_n340 (z3g k_n340 (List.forall_mem_nil _)) (z78b E0) (by kernel_rfl)
theorem c_n346 : z2c K0 z1d Tryd.f6 = true := by kernel_rfl
theorem k_n346 : (z8a z1d.body).all (fun p => ([(342, false), (304, false), (335, false), (341, false), (310, false), (337, false), (339, false), (311, false), (340, false), (338, false)] : List (Nat × Bool)).contains p) = true := by kernel_rfl
theorem v_n346 : z0g K0 346 z1xb := z6a (K := K0) (f := 346) (F := z1d) Tryd.func6 c_n346 (z3g k_n346 (List.forall_mem_cons.2 ⟨v_n342, List.forall_mem_cons.2 ⟨v_n304, List.forall_mem_cons.2 ⟨v_n335, List.forall_mem_cons.2 ⟨v_n341, List.forall_mem_cons.2 ⟨v_n310, List.forall_mem_cons.2 ⟨v_n337, List.forall_mem_cons.2 ⟨v_n339, List.forall_mem_cons.2 ⟨v_n311, List.forall_mem_cons.2 ⟨v_n340, List.forall_mem_cons.2 ⟨v_n338, List.forall_mem_nil _⟩⟩⟩⟩⟩⟩⟩⟩⟩⟩)) (z2Hb E0 rfl rfl rfl rfl rfl rfl rfl rfl rfl rfl) (by kernel_rfl)
end Go.Abs.V0
