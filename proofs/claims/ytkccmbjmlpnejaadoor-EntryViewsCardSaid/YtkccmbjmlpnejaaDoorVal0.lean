/- The translated functions are those that the lemmas speak of; so each meets its contract. -/
import Derived.Test.YtkccmbjmlpnejaaDoorRows
import Derived.Test.YtkccmbjmlpnejaaDoorA
import Derived.Test.YtkccmbjmlpnejaaDoorB
import Derived.Test.YtkccmbjmlpnejaaDoorC
import Derived.Test.YtkccmbjmlpnejaaDoorD
import Derived.Test.YtkccmbjmlpnejaaDoorT
import Derived.Test.YtkccmbjmlpnejaaDoorE
import Derived.Test.YtkccmbjmlpnejaaDoorF
import Derived.Test.YtkccmbjmlpnejaaDoorG
import Derived.Test.YtkccmbjmlpnejaaDoorH
import Derived.Test.YtkccmbjmlpnejaaDoorI
import Derived.Test.YtkccmbjmlpnejaaDoorK
import Derived.Test.YtkccmbjmlpnejaaDoorL
import Derived.Test.YtkccmbjmlpnejaaDoorM
import Derived.Test.YtkccmbjmlpnejaaDoorN
import Derived.Test.YtkccmbjmlpnejaaDoorO
import Derived.Test.YtkccmbjmlpnejaaDoorP
import Derived.Test.YtkccmbjmlpnejaaDoorQ
import Derived.Test.YtkccmbjmlpnejaaDoorR
import Derived.Test.YtkccmbjmlpnejaaDoorV
import Derived.Test.YtkccmbjmlpnejaaDoorW
import Derived.Test.YtkccmbjmlpnejaaDoorX
import Derived.Test.YtkccmbjmlpnejaaDoorS
import Derived.Test.YtkccmbjmlpnejaaDoorU
import Derived.Test.YtkccmbjmlpnejaaDoorJ
import Derived.KernelRfl
set_option linter.unusedSimpArgs false
set_option linter.unusedVariables false
set_option linter.unusedSectionVars false
namespace Go.Abs.V0
open Go.Proofs
set_option maxRecDepth 100000
def nu : Nat → FuncId
 | 0 => 79
 | 1 => 80
 | 2 => 81
 | 4 => 86
 | 7 => 50
 | 8 => 59
 | 10 => 91
 | 11 => 92
 | 12 => 52
 | 13 => 93
 | 15 => 82
 | 20 => 25
 | 21 => 61
 | 24 => 87
 | 25 => 88
 | 26 => 89
 | 28 => 60
 | 29 => 54
 | 30 => 57
 | 39 => 49
 | 40 => 53
 | 45 => 76
 | 47 => 83
 | 48 => 71
 | 51 => 84
 | 52 => 68
 | 61 => 90
 | 129 => 48
 | 130 => 51
 | 131 => 36
 | 132 => 47
 | 133 => 45
 | 139 => 78
 | 147 => 55
 | 148 => 35
 | 289 => 14
 | 290 => 37
 | 291 => 38
 | 292 => 10
 | 293 => 40
 | 294 => 16
 | 295 => 41
 | 296 => 42
 | 297 => 44
 | 298 => 43
 | 299 => 20
 | 300 => 18
 | 301 => 46
 | 302 => 21
 | 303 => 23
 | 304 => 26
 | 305 => 63
 | 306 => 62
 | 307 => 64
 | 308 => 65
 | 309 => 62
 | 310 => 28
 | 311 => 32
 | 312 => 77
 | 313 => 62
 | 314 => 85
 | 316 => 69
 | 318 => 72
 | 320 => 74
 | 322 => 34
 | 323 => 67
 | 324 => 70
 | 325 => 73
 | 326 => 75
 | 341 => 8
 | 342 => 9
 | 347 => 7
 | _ => 0
def gnum : Nat → Nat
 | 0 => 1
 | 1 => 0
 | _ => 0
def gG : Nat → z5a
 | 0 => z6ga
 | 1 => z1bb
 | 2 => z4Bb
 | 4 => z3ma
 | 7 => z39
 | 8 => ofC
 | 10 => z0S
 | 11 => z8Kb
 | 12 => z99a
 | 13 => z4rb
 | 15 => z8Oa
 | 20 => z2pb
 | 21 => z9ma
 | 24 => z27
 | 25 => z0S
 | 26 => z1Ga
 | 28 => z5ma
 | 29 => z54
 | 30 => z8xa
 | 39 => z6G
 | 40 => z6fa
 | 45 => z7K
 | 47 => z37a
 | 48 => z0T
 | 52 => z83
 | 129 => z6x
 | 130 => z1ha
 | 131 => z8da
 | 132 => z85
 | 133 => z4na
 | 139 => z25a
 | 147 => z1ha
 | 148 => z8da
 | 289 => z1ja
 | 290 => z5oa
 | 291 => z1oa
 | 292 => z2Hb
 | 293 => z3Pb
 | 294 => z5Lb
 | 295 => z4Ib
 | 296 => z20b
 | 297 => z5Vb
 | 298 => z3Xa
 | 299 => z2Pa
 | 300 => z3Jb
 | 301 => z9ua
 | 302 => z6La
 | 303 => z4Ua
 | 304 => z9Kb
 | 305 => z6Qa
 | 306 => z3Wa
 | 308 => z0Wa
 | 309 => z0Xa
 | 310 => z4Nb
 | 311 => z33b
 | 312 => z6xa
 | 313 => z7Na
 | 314 => z0Fa
 | 320 => z9Ma
 | 322 => z0Oa
 | 341 => z3Ra
 | 342 => z68b
 | 347 => z6db
 | _ => ⟨fun _ => False, fun _ => .undef⟩
def gM : Nat → CM
 | 51 => z6ka
 | 61 => z9da
 | 316 => z8ba
 | 318 => z5da
 | 323 => z0v
 | 324 => z0Q
 | 325 => z3Q
 | 326 => z2Q
 | _ => ⟨[], [], fun _ => False, fun _ => .undef, fun _ _ => []⟩
def gC : Nat → CW
 | 307 => z95a
 | _ => ⟨[], [], [], fun _ _ => False, fun _ _ => .undef, fun _ _ _ => []⟩
def gT : Nat → List z2a
 | 0 => z2p kc
 | 1 => z2p kc
 | _ => []
def E0 : Env := { G := gG, T := gT, M := gM, C := gC }
noncomputable def K0 : Cx := { P := Tryd.prog, nu := nu, globs := [], N := { gnum := gnum, gs := [0, 1] }, E := E0 }
theorem c_n314 : z5c K0 z8o Tryd.f85 = true := by kernel_rfl
theorem k_n314 : (z8a z8o.body).all (fun p => ([] : List (Nat × Bool)).contains p) = true := by kernel_rfl
theorem v_n314 : z7h K0 314 z0Fa := z6a (K := K0) (f := 314) (F := z8o) Tryd.func85 c_n314 (z5i k_n314 (List.forall_mem_nil _)) (z8Sb E0) (by kernel_rfl)
theorem c_n312 : z5c K0 z7j Tryd.f77 = true := by kernel_rfl
theorem k_n312 : (z8a z7j.body).all (fun p => ([(314, false)] : List (Nat × Bool)).contains p) = true := by kernel_rfl
theorem v_n312 : z7h K0 312 z6xa := z6a (K := K0) (f := 312) (F := z7j) Tryd.func77 c_n312 (z5i k_n312 (List.forall_mem_cons.2 ⟨v_n314, List.forall_mem_nil _⟩)) (z54b E0 rfl) (by kernel_rfl)
theorem c_n293 : z5c K0 z5o Tryd.f40 = true := by kernel_rfl
theorem k_n293 : (z8a z5o.body).all (fun p => ([(312, false)] : List (Nat × Bool)).contains p) = true := by kernel_rfl
theorem v_n293 : z7h K0 293 z3Pb := z6a (K := K0) (f := 293) (F := z5o) Tryd.func40 c_n293 (z5i k_n293 (List.forall_mem_cons.2 ⟨v_n312, List.forall_mem_nil _⟩)) (z3wc E0 rfl) (by kernel_rfl)
theorem c_n291 : z5c K0 z6h Tryd.f38 = true := by kernel_rfl
theorem k_n291 : (z8a z6h.body).all (fun p => ([] : List (Nat × Bool)).contains p) = true := by kernel_rfl
theorem v_n291 : z7h K0 291 z1oa := z0Ja 0 (z6a (K := K0) (f := 291) (F := z6h) (c := z0yb) Tryd.func38 c_n291 (z5i k_n291 (List.forall_mem_nil _)) (z01b E0) (by kernel_rfl)) z7wb
theorem c_n289 : z5c K0 z9n Tryd.f14 = true := by kernel_rfl
theorem k_n289 : (z8a z9n.body).all (fun p => ([(293, false), (291, false)] : List (Nat × Bool)).contains p) = true := by kernel_rfl
theorem v_n289 : z7h K0 289 z1ja := z6a (K := K0) (f := 289) (F := z9n) Tryd.func14 c_n289 (z5i k_n289 (List.forall_mem_cons.2 ⟨v_n293, List.forall_mem_cons.2 ⟨v_n291, List.forall_mem_nil _⟩⟩)) (z3sc E0 rfl rfl) (by kernel_rfl)
theorem c_n12 : z5c K0 z8F Tryd.f52 = true := by kernel_rfl
theorem k_n12 : (z8a z8F.body).all (fun p => ([] : List (Nat × Bool)).contains p) = true := by kernel_rfl
theorem v_n12 : z7h K0 12 z99a := z6a (K := K0) (f := 12) (F := z8F) Tryd.func52 c_n12 (z5i k_n12 (List.forall_mem_nil _)) (z7Cc E0) (by kernel_rfl)
theorem c_n7 : z5c K0 z1s Tryd.f50 = true := by kernel_rfl
theorem k_n7 : (z8a z1s.body).all (fun p => ([(12, false)] : List (Nat × Bool)).contains p) = true := by kernel_rfl
theorem v_n7 : z7h K0 7 z39 := z6a (K := K0) (f := 7) (F := z1s) Tryd.func50 c_n7 (z5i k_n7 (List.forall_mem_cons.2 ⟨v_n12, List.forall_mem_nil _⟩)) (z4yb E0 rfl) (by kernel_rfl)
theorem c_n39 : z5c K0 z9x Tryd.f49 = true := by kernel_rfl
theorem k_n39 : (z8a z9x.body).all (fun p => ([(12, false)] : List (Nat × Bool)).contains p) = true := by kernel_rfl
theorem v_n39 : z7h K0 39 z6G := z6a (K := K0) (f := 39) (F := z9x) Tryd.func49 c_n39 (z5i k_n39 (List.forall_mem_cons.2 ⟨v_n12, List.forall_mem_nil _⟩)) (z22b E0 rfl) (by kernel_rfl)
theorem v_n139 : z7h K0 139 z25a := Go.Abs.TrydG.grow_valid rfl rfl ⟨Tryd.f78, Tryd.func78, by kernel_rfl, by kernel_rfl⟩
theorem c_n129 : z5c K0 z4m Tryd.f48 = true := by kernel_rfl
theorem k_n129 : (z8a z4m.body).all (fun p => ([(139, false)] : List (Nat × Bool)).contains p) = true := by kernel_rfl
theorem v_n129 : z7h K0 129 z6x := z6a (K := K0) (f := 129) (F := z4m) Tryd.func48 c_n129 (z5i k_n129 (List.forall_mem_cons.2 ⟨v_n139, List.forall_mem_nil _⟩)) (z7eb E0 rfl) (by kernel_rfl)
theorem c_n130 : z5c K0 z1l Tryd.f51 = true := by kernel_rfl
theorem k_n130 : (z8a z1l.body).all (fun p => ([(12, false), (7, false), (39, false), (129, false)] : List (Nat × Bool)).contains p) = true := by kernel_rfl
theorem v_n130 : z7h K0 130 z1ha := z6a (K := K0) (f := 130) (F := z1l) Tryd.func51 c_n130 (z5i k_n130 (List.forall_mem_cons.2 ⟨v_n12, List.forall_mem_cons.2 ⟨v_n7, List.forall_mem_cons.2 ⟨v_n39, List.forall_mem_cons.2 ⟨v_n129, List.forall_mem_nil _⟩⟩⟩⟩)) (z57b E0 rfl rfl rfl rfl) (by kernel_rfl)
theorem c_n0 : z5c K0 z6s Tryd.f79 = true := by kernel_rfl
theorem k_n0 : (z8a z6s.body).all (fun p => ([] : List (Nat × Bool)).contains p) = true := by kernel_rfl
theorem v_n0 : z7h K0 0 z6ga := z6a (K := K0) (f := 0) (F := z6s) Tryd.func79 c_n0 (z5i k_n0 (List.forall_mem_nil _)) (z5Gb E0) (by kernel_rfl)
theorem c_n13 : z5c K0 z3i Tryd.f93 = true := by kernel_rfl
theorem k_n13 : (z8a z3i.body).all (fun p => ([] : List (Nat × Bool)).contains p) = true := by kernel_rfl
theorem v_n13 : z7h K0 13 z4rb := z6a (K := K0) (f := 13) (F := z3i) Tryd.func93 c_n13 (z5i k_n13 (List.forall_mem_nil _)) (z0Xb E0) (by kernel_rfl)
theorem c_n10 : z5c K0 z1n Tryd.f91 = true := by kernel_rfl
theorem k_n10 : (z8a z1n.body).all (fun p => ([(13, false)] : List (Nat × Bool)).contains p) = true := by kernel_rfl
theorem v_n10 : z7h K0 10 z0S := z6a (K := K0) (f := 10) (F := z1n) Tryd.func91 c_n10 (z5i k_n10 (List.forall_mem_cons.2 ⟨v_n13, List.forall_mem_nil _⟩)) (z7sb E0 rfl) (by kernel_rfl)
theorem c_n11 : z5c K0 z5D Tryd.f92 = true := by kernel_rfl
theorem k_n11 : (z8a z5D.body).all (fun p => ([(13, false)] : List (Nat × Bool)).contains p) = true := by kernel_rfl
theorem v_n11 : z7h K0 11 z8Kb := z6a (K := K0) (f := 11) (F := z5D) Tryd.func92 c_n11 (z5i k_n11 (List.forall_mem_cons.2 ⟨v_n13, List.forall_mem_nil _⟩)) (z4lc E0 rfl) (by kernel_rfl)
theorem c_n4 : z5c K0 z7m Tryd.f86 = true := by kernel_rfl
theorem k_n4 : (z8a z7m.body).all (fun p => ([(10, false), (11, false)] : List (Nat × Bool)).contains p) = true := by kernel_rfl
theorem v_n4 : z7h K0 4 z3ma := z6a (K := K0) (f := 4) (F := z7m) Tryd.func86 c_n4 (z5i k_n4 (List.forall_mem_cons.2 ⟨v_n10, List.forall_mem_cons.2 ⟨v_n11, List.forall_mem_nil _⟩⟩)) (z2Eb E0 rfl rfl rfl) (by kernel_rfl)
theorem c_n1 : z5c K0 z8j Tryd.f80 = true := by kernel_rfl
theorem k_n1 : (z8a z8j.body).all (fun p => ([(4, false)] : List (Nat × Bool)).contains p) = true := by kernel_rfl
theorem v_n1 : z7h K0 1 z1bb := z6a (K := K0) (f := 1) (F := z8j) Tryd.func80 c_n1 (z5i k_n1 (List.forall_mem_cons.2 ⟨v_n4, List.forall_mem_nil _⟩)) (z5Zb E0 rfl) (by kernel_rfl)
theorem c_n2 : z5c K0 z0k Tryd.f81 = true := by kernel_rfl
theorem k_n2 : (z8a z0k.body).all (fun p => ([(1, false)] : List (Nat × Bool)).contains p) = true := by kernel_rfl
theorem v_n2 : z7h K0 2 z4Bb := z6a (K := K0) (f := 2) (F := z0k) Tryd.func81 c_n2 (z5i k_n2 (List.forall_mem_cons.2 ⟨v_n1, List.forall_mem_nil _⟩)) (z3zc E0 rfl) (by kernel_rfl)
theorem c_n8 : z5c K0 z5N Tryd.f59 = true := by kernel_rfl
theorem k_n8 : (z8a z5N.body).all (fun p => ([(0, false), (1, false), (7, false), (2, false)] : List (Nat × Bool)).contains p) = true := by kernel_rfl
theorem v_n8 : z7h K0 8 ofC := z6a (K := K0) (f := 8) (F := z5N) Tryd.func59 c_n8 (z5i k_n8 (List.forall_mem_cons.2 ⟨v_n0, List.forall_mem_cons.2 ⟨v_n1, List.forall_mem_cons.2 ⟨v_n7, List.forall_mem_cons.2 ⟨v_n2, List.forall_mem_nil _⟩⟩⟩⟩)) (z0Xc E0 rfl rfl rfl rfl) (by kernel_rfl)
theorem c_n131 : z5c K0 z0l Tryd.f36 = true := by kernel_rfl
theorem k_n131 : (z8a z0l.body).all (fun p => ([(130, false), (8, false)] : List (Nat × Bool)).contains p) = true := by kernel_rfl
theorem v_n131 : z7h K0 131 z8da := z6a (K := K0) (f := 131) (F := z0l) Tryd.func36 c_n131 (z5i k_n131 (List.forall_mem_cons.2 ⟨v_n130, List.forall_mem_cons.2 ⟨v_n8, List.forall_mem_nil _⟩⟩)) (z7Ic E0 rfl rfl) (by kernel_rfl)
theorem c_n290 : z5c K0 z5g Tryd.f37 = true := by kernel_rfl
theorem k_n290 : (z8a z5g.body).all (fun p => ([] : List (Nat × Bool)).contains p) = true := by kernel_rfl
theorem v_n290 : z7h K0 290 z5oa := z0Ja 0 (z6a (K := K0) (f := 290) (F := z5g) (c := z2vb) Tryd.func37 c_n290 (z5i k_n290 (List.forall_mem_nil _)) (z0Tb E0) (by kernel_rfl)) z4vb
theorem c_n292 : z5c K0 z9r Tryd.f10 = true := by kernel_rfl
theorem k_n292 : (z8a z9r.body).all (fun p => ([(289, false), (131, false), (290, false), (291, false)] : List (Nat × Bool)).contains p) = true := by kernel_rfl
theorem v_n292 : z7h K0 292 z2Hb := z6a (K := K0) (f := 292) (F := z9r) Tryd.func10 c_n292 (z5i k_n292 (List.forall_mem_cons.2 ⟨v_n289, List.forall_mem_cons.2 ⟨v_n131, List.forall_mem_cons.2 ⟨v_n290, List.forall_mem_cons.2 ⟨v_n291, List.forall_mem_nil _⟩⟩⟩⟩)) (z7lc E0 rfl rfl rfl rfl) (by kernel_rfl)
theorem c_n304 : z5c K0 z0s Tryd.f26 = true := by kernel_rfl
theorem k_n304 : (z8a z0s.body).all (fun p => ([] : List (Nat × Bool)).contains p) = true := by kernel_rfl
theorem v_n304 : z7h K0 304 z9Kb := z6a (K := K0) (f := 304) (F := z0s) Tryd.func26 c_n304 (z5i k_n304 (List.forall_mem_nil _)) (z2mc E0) (by kernel_rfl)
theorem c_n305 : z5c K0 z6m Tryd.f63 = true := by kernel_rfl
theorem k_n305 : (z8a z6m.body).all (fun p => ([] : List (Nat × Bool)).contains p) = true := by kernel_rfl
theorem v_n305 : z7h K0 305 z6Qa := z6a (K := K0) (f := 305) (F := z6m) Tryd.func63 c_n305 (z5i k_n305 (List.forall_mem_nil _)) (z90b E0) (by kernel_rfl)
theorem c_n306 : z5c K0 z4b Tryd.f62 = true := by kernel_rfl
theorem k_n306 : (z8a z4b.body).all (fun p => ([(305, false)] : List (Nat × Bool)).contains p) = true := by kernel_rfl
theorem v_n306 : z7h K0 306 z3Wa := z6a (K := K0) (f := 306) (F := z4b) Tryd.func62 c_n306 (z5i k_n306 (List.forall_mem_cons.2 ⟨v_n305, List.forall_mem_nil _⟩)) (z2Xb E0 rfl) (by kernel_rfl)
theorem c_n308 : z5c K0 z8m Tryd.f65 = true := by kernel_rfl
theorem k_n308 : (z8a z8m.body).all (fun p => ([] : List (Nat × Bool)).contains p) = true := by kernel_rfl
theorem v_n308 : z7h K0 308 z0Wa := z6a (K := K0) (f := 308) (F := z8m) Tryd.func65 c_n308 (z5i k_n308 (List.forall_mem_nil _)) (z0Vb E0) (by kernel_rfl)
theorem c_n309 : z5c K0 z3b Tryd.f62 = true := by kernel_rfl
theorem k_n309 : (z8a z3b.body).all (fun p => ([(308, false)] : List (Nat × Bool)).contains p) = true := by kernel_rfl
theorem v_n309 : z7h K0 309 z0Xa := z6a (K := K0) (f := 309) (F := z3b) Tryd.func62 c_n309 (z5i k_n309 (List.forall_mem_cons.2 ⟨v_n308, List.forall_mem_nil _⟩)) (z45b E0 rfl) (by kernel_rfl)
theorem c_n307 : z5c K0 z9i Tryd.f64 = true := by kernel_rfl
theorem k_n307 : (z8a z9i.body).all (fun p => ([] : List (Nat × Bool)).contains p) = true := by kernel_rfl
theorem v_n307 : z5za K0 307 z95a := z5Ua (K := K0) (f := 307) (F := z9i) Tryd.func64 c_n307 (z5i k_n307 (List.forall_mem_nil _)) (z8tc E0) (by kernel_rfl) (by kernel_rfl)
theorem c_n295 : z5c K0 z6k Tryd.f41 = true := by kernel_rfl
theorem k_n295 : (z8a z6k.body).all (fun p => ([] : List (Nat × Bool)).contains p) = true := by kernel_rfl
theorem v_n295 : z7h K0 295 z4Ib := z6a (K := K0) (f := 295) (F := z6k) Tryd.func41 c_n295 (z5i k_n295 (List.forall_mem_nil _)) (z3Bc E0) (by kernel_rfl)
theorem c_n296 : z5c K0 z9m Tryd.f42 = true := by kernel_rfl
theorem k_n296 : (z8a z9m.body).all (fun p => ([(295, false)] : List (Nat × Bool)).contains p) = true := by kernel_rfl
theorem v_n296 : z7h K0 296 z20b := z6a (K := K0) (f := 296) (F := z9m) Tryd.func42 c_n296 (z5i k_n296 (List.forall_mem_cons.2 ⟨v_n295, List.forall_mem_nil _⟩)) (z0uc E0 rfl) (by kernel_rfl)
theorem c_n297 : z5c K0 z2m Tryd.f44 = true := by kernel_rfl
theorem k_n297 : (z8a z2m.body).all (fun p => ([(296, false)] : List (Nat × Bool)).contains p) = true := by kernel_rfl
theorem v_n297 : z7h K0 297 z5Vb := z6a (K := K0) (f := 297) (F := z2m) Tryd.func44 c_n297 (z5i k_n297 (List.forall_mem_cons.2 ⟨v_n296, List.forall_mem_nil _⟩)) (z6oc E0 rfl) (by kernel_rfl)
theorem c_n313 : z5c K0 z5b Tryd.f62 = true := by kernel_rfl
theorem k_n313 : (z8a z5b.body).all (fun p => ([(297, false)] : List (Nat × Bool)).contains p) = true := by kernel_rfl
theorem v_n313 : z7h K0 313 z7Na := z6a (K := K0) (f := 313) (F := z5b) Tryd.func62 c_n313 (z5i k_n313 (List.forall_mem_cons.2 ⟨v_n297, List.forall_mem_nil _⟩)) (z3Vb E0 rfl) (by kernel_rfl)
theorem c_n298 : z5c K0 z0b Tryd.f43 = true := by kernel_rfl
theorem k_n298 : (z8a z0b.body).all (fun p => ([(313, false)] : List (Nat × Bool)).contains p) = true := by kernel_rfl
theorem v_n298 : z7h K0 298 z3Xa := z6a (K := K0) (f := 298) (F := z0b) Tryd.func43 c_n298 (z5i k_n298 (List.forall_mem_cons.2 ⟨v_n313, List.forall_mem_nil _⟩)) (z27b E0 rfl) (by kernel_rfl)
theorem c_n294 : z5c K0 z2s Tryd.f16 = true := by kernel_rfl
theorem k_n294 : (z8a z2s.body).all (fun p => ([] : List (Nat × Bool)).contains p) = true := by kernel_rfl
theorem v_n294 : z7h K0 294 z5Lb := z6a (K := K0) (f := 294) (F := z2s) Tryd.func16 c_n294 (z5i k_n294 (List.forall_mem_nil _)) (z9rc E0) (by kernel_rfl)
theorem c_n132 : z5c K0 z1m Tryd.f47 = true := by kernel_rfl
theorem k_n132 : (z8a z1m.body).all (fun p => ([] : List (Nat × Bool)).contains p) = true := by kernel_rfl
theorem v_n132 : z7h K0 132 z85 := z6a (K := K0) (f := 132) (F := z1m) Tryd.func47 c_n132 (z5i k_n132 (List.forall_mem_nil _)) (z5oc E0) (by kernel_rfl)
theorem c_n133 : z5c K0 z3o Tryd.f45 = true := by kernel_rfl
theorem k_n133 : (z8a z3o.body).all (fun p => ([(132, false)] : List (Nat × Bool)).contains p) = true := by kernel_rfl
theorem v_n133 : z7h K0 133 z4na := z6a (K := K0) (f := 133) (F := z3o) Tryd.func45 c_n133 (z5i k_n133 (List.forall_mem_cons.2 ⟨v_n132, List.forall_mem_nil _⟩)) (z8vb E0 rfl) (by kernel_rfl)
theorem c_n301 : z5c K0 z4g Tryd.f46 = true := by kernel_rfl
theorem k_n301 : (z8a z4g.body).all (fun p => ([] : List (Nat × Bool)).contains p) = true := by kernel_rfl
theorem v_n301 : z7h K0 301 z9ua := z6a (K := K0) (f := 301) (F := z4g) Tryd.func46 c_n301 (z5i k_n301 (List.forall_mem_nil _)) (z9xb E0) (by kernel_rfl)
theorem c_n299 : z5c K0 z4s Tryd.f20 = true := by kernel_rfl
theorem k_n299 : (z8a z4s.body).all (fun p => ([(133, false), (301, false), (132, false)] : List (Nat × Bool)).contains p) = true := by kernel_rfl
theorem v_n299 : z7h K0 299 z2Pa := z6a (K := K0) (f := 299) (F := z4s) Tryd.func20 c_n299 (z5i k_n299 (List.forall_mem_cons.2 ⟨v_n133, List.forall_mem_cons.2 ⟨v_n301, List.forall_mem_cons.2 ⟨v_n132, List.forall_mem_nil _⟩⟩⟩)) (z1Eb E0 rfl rfl rfl) (by kernel_rfl)
theorem c_n300 : z5c K0 z7p Tryd.f18 = true := by kernel_rfl
theorem k_n300 : (z8a z7p.body).all (fun p => ([(298, false), (294, false), (299, false), (295, false), (293, false)] : List (Nat × Bool)).contains p) = true := by kernel_rfl
theorem v_n300 : z7h K0 300 z3Jb := z6a (K := K0) (f := 300) (F := z7p) Tryd.func18 c_n300 (z5i k_n300 (List.forall_mem_cons.2 ⟨v_n298, List.forall_mem_cons.2 ⟨v_n294, List.forall_mem_cons.2 ⟨v_n299, List.forall_mem_cons.2 ⟨v_n295, List.forall_mem_cons.2 ⟨v_n293, List.forall_mem_nil _⟩⟩⟩⟩⟩)) (z6Zb E0 rfl rfl rfl rfl rfl) (by kernel_rfl)
theorem c_n310 : z5c K0 z4k Tryd.f28 = true := by kernel_rfl
theorem k_n310 : (z8a z4k.body).all (fun p => ([(306, false), (309, false), (500000307, true), (290, false), (300, false)] : List (Nat × Bool)).contains p) = true := by kernel_rfl
theorem v_n310 : z7h K0 310 z4Nb := z6a (K := K0) (f := 310) (F := z4k) Tryd.func28 c_n310 (z5i k_n310 (List.forall_mem_cons.2 ⟨v_n306, List.forall_mem_cons.2 ⟨v_n309, List.forall_mem_cons.2 ⟨v_n307, List.forall_mem_cons.2 ⟨v_n290, List.forall_mem_cons.2 ⟨v_n300, List.forall_mem_nil _⟩⟩⟩⟩⟩)) (z4Ub E0 rfl rfl rfl rfl rfl) (by kernel_rfl)
theorem c_n302 : z5c K0 z4o Tryd.f21 = true := by kernel_rfl
theorem k_n302 : (z8a z4o.body).all (fun p => ([(39, false), (130, false), (7, false), (12, false), (129, false)] : List (Nat × Bool)).contains p) = true := by kernel_rfl
theorem v_n302 : z7h K0 302 z6La := z6a (K := K0) (f := 302) (F := z4o) Tryd.func21 c_n302 (z5i k_n302 (List.forall_mem_cons.2 ⟨v_n39, List.forall_mem_cons.2 ⟨v_n130, List.forall_mem_cons.2 ⟨v_n7, List.forall_mem_cons.2 ⟨v_n12, List.forall_mem_cons.2 ⟨v_n129, List.forall_mem_nil _⟩⟩⟩⟩⟩)) (z1Ib E0 rfl rfl rfl rfl rfl) (by kernel_rfl)
theorem c_n45 : z5c K0 z0o Tryd.f76 = true := by kernel_rfl
theorem k_n45 : (z8a z0o.body).all (fun p => ([] : List (Nat × Bool)).contains p) = true := by kernel_rfl
theorem v_n45 : z7h K0 45 z7K := z6a (K := K0) (f := 45) (F := z0o) Tryd.func76 c_n45 (z5i k_n45 (List.forall_mem_nil _)) (z1hb E0) (by kernel_rfl)
theorem c_n47 : z5c K0 z1o Tryd.f83 = true := by kernel_rfl
theorem k_n47 : (z8a z1o.body).all (fun p => ([(45, false)] : List (Nat × Bool)).contains p) = true := by kernel_rfl
theorem v_n47 : z7h K0 47 z37a := z6a (K := K0) (f := 47) (F := z1o) Tryd.func83 c_n47 (z5i k_n47 (List.forall_mem_cons.2 ⟨v_n45, List.forall_mem_nil _⟩)) (z1tc E0 rfl) (by kernel_rfl)
theorem c_n51 : z5c K0 z9s Tryd.f84 = true := by kernel_rfl
theorem k_n51 : (z8a z9s.body).all (fun p => ([] : List (Nat × Bool)).contains p) = true := by kernel_rfl
theorem v_n51 : z33 K0 51 z6ka := z7x (K := K0) (f := 51) (F := z9s) Tryd.func84 c_n51 (z5i k_n51 (List.forall_mem_nil _)) (by decide) (z31b E0) (by kernel_rfl) (by kernel_rfl)
theorem c_n61 : z5c K0 z4p Tryd.f90 = true := by kernel_rfl
theorem k_n61 : (z8a z4p.body).all (fun p => ([(45, false)] : List (Nat × Bool)).contains p) = true := by kernel_rfl
theorem v_n61 : z33 K0 61 z9da := z7x (K := K0) (f := 61) (F := z4p) Tryd.func90 c_n61 (z5i k_n61 (List.forall_mem_cons.2 ⟨v_n45, List.forall_mem_nil _⟩)) (by decide) (z5Tb E0 rfl) (by kernel_rfl) (by kernel_rfl)
theorem c_n52 : z5c K0 z5k Tryd.f68 = true := by kernel_rfl
theorem k_n52 : (z8a z5k.body).all (fun p => ([(47, false), (51, true), (61, true)] : List (Nat × Bool)).contains p) = true := by kernel_rfl
theorem v_n52 : z7h K0 52 z83 := z6a (K := K0) (f := 52) (F := z5k) Tryd.func68 c_n52 (z5i k_n52 (List.forall_mem_cons.2 ⟨v_n47, List.forall_mem_cons.2 ⟨v_n51, List.forall_mem_cons.2 ⟨v_n61, List.forall_mem_nil _⟩⟩⟩)) (z45a E0 rfl rfl rfl) (by kernel_rfl)
theorem c_n323 : z5c K0 z4f Tryd.f67 = true := by kernel_rfl
theorem k_n323 : (z8a z4f.body).all (fun p => ([(52, false)] : List (Nat × Bool)).contains p) = true := by kernel_rfl
theorem v_n323 : z33 K0 323 z0v := z7x (K := K0) (f := 323) (F := z4f) Tryd.func67 c_n323 (z5i k_n323 (List.forall_mem_cons.2 ⟨v_n52, List.forall_mem_nil _⟩)) (by decide) (z6fb E0 rfl) (by kernel_rfl) (by kernel_rfl)
theorem c_n316 : z5c K0 z8i Tryd.f69 = true := by kernel_rfl
theorem k_n316 : (z8a z8i.body).all (fun p => ([] : List (Nat × Bool)).contains p) = true := by kernel_rfl
theorem v_n316 : z33 K0 316 z8ba := z7x (K := K0) (f := 316) (F := z8i) Tryd.func69 c_n316 (z5i k_n316 (List.forall_mem_nil _)) (by decide) (z1ac E0) (by kernel_rfl) (by kernel_rfl)
theorem c_n48 : z5c K0 z3j Tryd.f71 = true := by kernel_rfl
theorem k_n48 : (z8a z3j.body).all (fun p => ([(47, false)] : List (Nat × Bool)).contains p) = true := by kernel_rfl
theorem v_n48 : z7h K0 48 z0T := z6a (K := K0) (f := 48) (F := z3j) Tryd.func71 c_n48 (z5i k_n48 (List.forall_mem_cons.2 ⟨v_n47, List.forall_mem_nil _⟩)) (z9Xa E0 rfl) (by kernel_rfl)
theorem c_n324 : z5c K0 z9e Tryd.f70 = true := by kernel_rfl
theorem k_n324 : (z8a z9e.body).all (fun p => ([(48, false)] : List (Nat × Bool)).contains p) = true := by kernel_rfl
theorem v_n324 : z33 K0 324 z0Q := z7x (K := K0) (f := 324) (F := z9e) Tryd.func70 c_n324 (z5i k_n324 (List.forall_mem_cons.2 ⟨v_n48, List.forall_mem_nil _⟩)) (by decide) (z0ub E0 rfl) (by kernel_rfl) (by kernel_rfl)
theorem c_n326 : z5c K0 z9f Tryd.f75 = true := by kernel_rfl
theorem k_n326 : (z8a z9f.body).all (fun p => ([(45, false)] : List (Nat × Bool)).contains p) = true := by kernel_rfl
theorem v_n326 : z33 K0 326 z2Q := z7x (K := K0) (f := 326) (F := z9f) Tryd.func75 c_n326 (z5i k_n326 (List.forall_mem_cons.2 ⟨v_n45, List.forall_mem_nil _⟩)) (by decide) (z9Ab E0 rfl) (by kernel_rfl) (by kernel_rfl)
theorem c_n318 : z5c K0 z4e Tryd.f72 = true := by kernel_rfl
theorem k_n318 : (z8a z4e.body).all (fun p => ([(326, true), (324, true), (323, true), (316, true)] : List (Nat × Bool)).contains p) = true := by kernel_rfl
theorem v_n318 : z33 K0 318 z5da := z7x (K := K0) (f := 318) (F := z4e) Tryd.func72 c_n318 (z5i k_n318 (List.forall_mem_cons.2 ⟨v_n326, List.forall_mem_cons.2 ⟨v_n324, List.forall_mem_cons.2 ⟨v_n323, List.forall_mem_cons.2 ⟨v_n316, List.forall_mem_nil _⟩⟩⟩⟩)) (by decide) (z2Vb E0 rfl rfl rfl rfl) (by kernel_rfl) (by kernel_rfl)
theorem c_n320 : z5c K0 z7o Tryd.f74 = true := by kernel_rfl
theorem k_n320 : (z8a z7o.body).all (fun p => ([] : List (Nat × Bool)).contains p) = true := by kernel_rfl
theorem v_n320 : z7h K0 320 z9Ma := z6a (K := K0) (f := 320) (F := z7o) Tryd.func74 c_n320 (z5i k_n320 (List.forall_mem_nil _)) (z32b E0) (by kernel_rfl)
theorem c_n325 : z5c K0 z3f Tryd.f73 = true := by kernel_rfl
theorem k_n325 : (z8a z3f.body).all (fun p => ([(320, false)] : List (Nat × Bool)).contains p) = true := by kernel_rfl
theorem v_n325 : z33 K0 325 z3Q := z7x (K := K0) (f := 325) (F := z3f) Tryd.func73 c_n325 (z5i k_n325 (List.forall_mem_cons.2 ⟨v_n320, List.forall_mem_nil _⟩)) (by decide) (z4Hb E0 rfl) (by kernel_rfl) (by kernel_rfl)
theorem c_n322 : z5c K0 z6o Tryd.f34 = true := by kernel_rfl
theorem k_n322 : (z8a z6o.body).all (fun p => ([(323, true), (316, true), (324, true), (318, true), (325, true), (326, true), (295, false), (300, false)] : List (Nat × Bool)).contains p) = true := by kernel_rfl
theorem v_n322 : z7h K0 322 z0Oa := z6a (K := K0) (f := 322) (F := z6o) Tryd.func34 c_n322 (z5i k_n322 (List.forall_mem_cons.2 ⟨v_n323, List.forall_mem_cons.2 ⟨v_n316, List.forall_mem_cons.2 ⟨v_n324, List.forall_mem_cons.2 ⟨v_n318, List.forall_mem_cons.2 ⟨v_n325, List.forall_mem_cons.2 ⟨v_n326, List.forall_mem_cons.2 ⟨v_n295, List.forall_mem_cons.2 ⟨v_n300, List.forall_mem_nil _⟩⟩⟩⟩⟩⟩⟩⟩)) (z6Vb E0 rfl rfl rfl rfl rfl rfl rfl rfl) (by kernel_rfl)
theorem c_n30 : z5c K0 z0j Tryd.f57 = true := by kernel_rfl
theorem k_n30 : (z8a z0j.body).all (fun p => ([] : List (Nat × Bool)).contains p) = true := by kernel_rfl
theorem v_n30 : z7h K0 30 z8xa := z6a (K := K0) (f := 30) (F := z0j) Tryd.func57 c_n30 (z5i k_n30 (List.forall_mem_nil _)) (z3Tb E0) (by kernel_rfl)
theorem c_n29 : z5c K0 z9g Tryd.f54 = true := by kernel_rfl
theorem k_n29 : (z8a z9g.body).all (fun p => ([(30, false)] : List (Nat × Bool)).contains p) = true := by kernel_rfl
theorem v_n29 : z7h K0 29 z54 := z6a (K := K0) (f := 29) (F := z9g) Tryd.func54 c_n29 (z5i k_n29 (List.forall_mem_cons.2 ⟨v_n30, List.forall_mem_nil _⟩)) (z8ib E0 rfl) (by kernel_rfl)
theorem c_n40 : z5c K0 z4i Tryd.f53 = true := by kernel_rfl
theorem k_n40 : (z8a z4i.body).all (fun p => ([(30, false)] : List (Nat × Bool)).contains p) = true := by kernel_rfl
theorem v_n40 : z7h K0 40 z6fa := z6a (K := K0) (f := 40) (F := z4i) Tryd.func53 c_n40 (z5i k_n40 (List.forall_mem_cons.2 ⟨v_n30, List.forall_mem_nil _⟩)) (z6tb E0 rfl) (by kernel_rfl)
theorem c_n147 : z5c K0 z0g Tryd.f55 = true := by kernel_rfl
theorem k_n147 : (z8a z0g.body).all (fun p => ([(30, false), (29, false), (40, false)] : List (Nat × Bool)).contains p) = true := by kernel_rfl
theorem v_n147 : z7h K0 147 z1ha := z6a (K := K0) (f := 147) (F := z0g) Tryd.func55 c_n147 (z5i k_n147 (List.forall_mem_cons.2 ⟨v_n30, List.forall_mem_cons.2 ⟨v_n29, List.forall_mem_cons.2 ⟨v_n40, List.forall_mem_nil _⟩⟩⟩)) (z3Yb E0 rfl rfl rfl) (by kernel_rfl)
theorem c_n21 : z5c K0 z1h Tryd.f61 = true := by kernel_rfl
theorem k_n21 : (z8a z1h.body).all (fun p => ([(29, false)] : List (Nat × Bool)).contains p) = true := by kernel_rfl
theorem v_n21 : z7h K0 21 z9ma := z6a (K := K0) (f := 21) (F := z1h) Tryd.func61 c_n21 (z5i k_n21 (List.forall_mem_cons.2 ⟨v_n29, List.forall_mem_nil _⟩)) (z5Eb E0 rfl) (by kernel_rfl)
theorem c_n24 : z5c K0 z1g Tryd.f87 = true := by kernel_rfl
theorem k_n24 : (z8a z1g.body).all (fun p => ([] : List (Nat × Bool)).contains p) = true := by kernel_rfl
theorem v_n24 : z7h K0 24 z27 := z6a (K := K0) (f := 24) (F := z1g) Tryd.func87 c_n24 (z5i k_n24 (List.forall_mem_nil _)) (z4lb E0) (by kernel_rfl)
theorem c_n26 : z5c K0 z2i Tryd.f89 = true := by kernel_rfl
theorem k_n26 : (z8a z2i.body).all (fun p => ([] : List (Nat × Bool)).contains p) = true := by kernel_rfl
theorem v_n26 : z7h K0 26 z1Ga := z6a (K := K0) (f := 26) (F := z2i) Tryd.func89 c_n26 (z5i k_n26 (List.forall_mem_nil _)) (z4Vb E0) (by kernel_rfl)
theorem c_n25 : z5c K0 z8g Tryd.f88 = true := by kernel_rfl
theorem k_n25 : (z8a z8g.body).all (fun p => ([(26, false)] : List (Nat × Bool)).contains p) = true := by kernel_rfl
theorem v_n25 : z7h K0 25 z0S := z6a (K := K0) (f := 25) (F := z8g) Tryd.func88 c_n25 (z5i k_n25 (List.forall_mem_cons.2 ⟨v_n26, List.forall_mem_nil _⟩)) (z1zb E0 rfl) (by kernel_rfl)
theorem c_n15 : z5c K0 z1j Tryd.f82 = true := by kernel_rfl
theorem k_n15 : (z8a z1j.body).all (fun p => ([(24, false), (25, false), (26, false)] : List (Nat × Bool)).contains p) = true := by kernel_rfl
theorem v_n15 : z7h K0 15 z8Oa := z6a (K := K0) (f := 15) (F := z1j) Tryd.func82 c_n15 (z5i k_n15 (List.forall_mem_cons.2 ⟨v_n24, List.forall_mem_cons.2 ⟨v_n25, List.forall_mem_cons.2 ⟨v_n26, List.forall_mem_nil _⟩⟩⟩)) (z19b E0 rfl rfl rfl rfl) (by kernel_rfl)
theorem c_n28 : z5c K0 z0h Tryd.f60 = true := by kernel_rfl
theorem k_n28 : (z8a z0h.body).all (fun p => ([(15, false)] : List (Nat × Bool)).contains p) = true := by kernel_rfl
theorem v_n28 : z7h K0 28 z5ma := z6a (K := K0) (f := 28) (F := z0h) Tryd.func60 c_n28 (z5i k_n28 (List.forall_mem_cons.2 ⟨v_n15, List.forall_mem_nil _⟩)) (z9Cb E0 rfl) (by kernel_rfl)
theorem c_n20 : z5c K0 z9j Tryd.f25 = true := by kernel_rfl
theorem k_n20 : (z8a z9j.body).all (fun p => ([(21, false), (28, false)] : List (Nat × Bool)).contains p) = true := by kernel_rfl
theorem v_n20 : z7h K0 20 z2pb := z6a (K := K0) (f := 20) (F := z9j) Tryd.func25 c_n20 (z5i k_n20 (List.forall_mem_cons.2 ⟨v_n21, List.forall_mem_cons.2 ⟨v_n28, List.forall_mem_nil _⟩⟩)) (z3uc E0 rfl rfl) (by kernel_rfl)
theorem c_n148 : z5c K0 z3g Tryd.f35 = true := by kernel_rfl
theorem k_n148 : (z8a z3g.body).all (fun p => ([(147, false), (20, false)] : List (Nat × Bool)).contains p) = true := by kernel_rfl
theorem v_n148 : z7h K0 148 z8da := z6a (K := K0) (f := 148) (F := z3g) Tryd.func35 c_n148 (z5i k_n148 (List.forall_mem_cons.2 ⟨v_n147, List.forall_mem_cons.2 ⟨v_n20, List.forall_mem_nil _⟩⟩)) (z74b E0 rfl rfl) (by kernel_rfl)
theorem c_n311 : z5c K0 z5s Tryd.f32 = true := by kernel_rfl
theorem k_n311 : (z8a z5s.body).all (fun p => ([] : List (Nat × Bool)).contains p) = true := by kernel_rfl
theorem v_n311 : z7h K0 311 z33b := z6a (K := K0) (f := 311) (F := z5s) Tryd.func32 c_n311 (z5i k_n311 (List.forall_mem_nil _)) (z6mc E0) (by kernel_rfl)
theorem c_n303 : z5c K0 z2o Tryd.f23 = true := by kernel_rfl
theorem k_n303 : (z8a z2o.body).all (fun p => ([(302, false), (8, false)] : List (Nat × Bool)).contains p) = true := by kernel_rfl
theorem v_n303 : z7h K0 303 z4Ua := z6a (K := K0) (f := 303) (F := z2o) Tryd.func23 c_n303 (z5i k_n303 (List.forall_mem_cons.2 ⟨v_n302, List.forall_mem_cons.2 ⟨v_n8, List.forall_mem_nil _⟩⟩)) (z6vb E0 rfl rfl) (by kernel_rfl)
theorem c_n342 : z5c K0 z2g Tryd.f9 = true := by kernel_rfl
theorem k_n342 : (z8a z2g.body).all (fun p => ([(292, false), (304, false), (310, false), (294, false), (302, false), (322, false), (289, false), (300, false), (148, false), (299, false), (311, false), (303, false)] : List (Nat × Bool)).contains p) = true := by kernel_rfl
theorem v_n342 : z7h K0 342 z68b := z6a (K := K0) (f := 342) (F := z2g) Tryd.func9 c_n342 (z5i k_n342 (List.forall_mem_cons.2 ⟨v_n292, List.forall_mem_cons.2 ⟨v_n304, List.forall_mem_cons.2 ⟨v_n310, List.forall_mem_cons.2 ⟨v_n294, List.forall_mem_cons.2 ⟨v_n302, List.forall_mem_cons.2 ⟨v_n322, List.forall_mem_cons.2 ⟨v_n289, List.forall_mem_cons.2 ⟨v_n300, List.forall_mem_cons.2 ⟨v_n148, List.forall_mem_cons.2 ⟨v_n299, List.forall_mem_cons.2 ⟨v_n311, List.forall_mem_cons.2 ⟨v_n303, List.forall_mem_nil _⟩⟩⟩⟩⟩⟩⟩⟩⟩⟩⟩⟩)) (z39b E0 rfl rfl rfl rfl rfl rfl rfl rfl rfl rfl rfl rfl) (by kernel_rfl)
theorem c_n341 : z5c K0 z0e Tryd.f8 = true := by kernel_rfl
theorem k_n341 : (z8a z0e.body).all (fun p => ([] : List (Nat × Bool)).contains p) = true := by kernel_rfl
theorem v_n341 : z7h K0 341 z3Ra := z6a (K := K0) (f := 341) (F := z0e) Tryd.func8 c_n341 (z5i k_n341 (List.forall_mem_nil _)) (z14b E0) (by kernel_rfl)
theorem c_n347 : z5c K0 z0d Tryd.f7 = true := by kernel_rfl
theorem k_n347 : (z8a z0d.body).all (fun p => ([(342, false), (304, false), (341, false), (310, false)] : List (Nat × Bool)).contains p) = true := by kernel_rfl
theorem v_n347 : z7h K0 347 z6db := z6a (K := K0) (f := 347) (F := z0d) Tryd.func7 c_n347 (z5i k_n347 (List.forall_mem_cons.2 ⟨v_n342, List.forall_mem_cons.2 ⟨v_n304, List.forall_mem_cons.2 ⟨v_n341, List.forall_mem_cons.2 ⟨v_n310, List.forall_mem_nil _⟩⟩⟩⟩)) (z1Db E0 rfl rfl rfl rfl) (by kernel_rfl)
end Go.Abs.V0
