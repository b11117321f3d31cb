/- The translated functions are those that the lemmas speak of; so each meets its contract. -/
import Derived.Test.YtigghpdomoedhaaDoorRows
import Derived.Test.YtigghpdomoedhaaDoorA
import Derived.Test.YtigghpdomoedhaaDoorB
import Derived.Test.YtigghpdomoedhaaDoorC
import Derived.Test.YtigghpdomoedhaaDoorD
import Derived.Test.YtigghpdomoedhaaDoorT
import Derived.Test.YtigghpdomoedhaaDoorE
import Derived.Test.YtigghpdomoedhaaDoorF
import Derived.Test.YtigghpdomoedhaaDoorG
import Derived.Test.YtigghpdomoedhaaDoorK
import Derived.Test.YtigghpdomoedhaaDoorL
import Derived.Test.YtigghpdomoedhaaDoorM
import Derived.Test.YtigghpdomoedhaaDoorN
import Derived.Test.YtigghpdomoedhaaDoorO
import Derived.Test.YtigghpdomoedhaaDoorP
import Derived.Test.YtigghpdomoedhaaDoorQ
import Derived.Test.YtigghpdomoedhaaDoorR
import Derived.Test.YtigghpdomoedhaaDoorS
import Derived.Test.YtigghpdomoedhaaDoorU
import Derived.KernelRfl
set_option linter.unusedSimpArgs false
set_option linter.unusedVariables false
set_option linter.unusedSectionVars false
namespace Go.Abs.V0
open Go.Proofs
set_option maxRecDepth 100000
def nu : Nat → FuncId
 | 0 => 78
 | 1 => 79
 | 2 => 80
 | 3 => 76
 | 4 => 85
 | 5 => 77
 | 6 => 70
 | 7 => 69
 | 10 => 90
 | 11 => 91
 | 12 => 75
 | 13 => 92
 | 15 => 83
 | 18 => 72
 | 19 => 82
 | 24 => 86
 | 25 => 87
 | 26 => 88
 | 27 => 81
 | 29 => 84
 | 30 => 89
 | 75 => 34
 | 76 => 56
 | 77 => 73
 | 78 => 61
 | 81 => 39
 | 225 => 32
 | 226 => 33
 | 227 => 35
 | 228 => 36
 | 229 => 11
 | 230 => 26
 | 231 => 42
 | 232 => 62
 | 233 => 14
 | 234 => 18
 | 235 => 16
 | 236 => 45
 | 237 => 44
 | 238 => 21
 | 239 => 46
 | 240 => 47
 | 241 => 23
 | 242 => 52
 | 244 => 55
 | 245 => 54
 | 246 => 57
 | 247 => 58
 | 248 => 59
 | 249 => 63
 | 250 => 64
 | 251 => 65
 | 252 => 66
 | 253 => 67
 | 254 => 71
 | 255 => 68
 | 256 => 74
 | 257 => 37
 | 258 => 38
 | 259 => 40
 | 260 => 41
 | 261 => 12
 | 262 => 13
 | 263 => 43
 | 264 => 15
 | 267 => 20
 | 268 => 22
 | 269 => 48
 | 270 => 49
 | 271 => 24
 | 272 => 50
 | 273 => 51
 | 274 => 25
 | 275 => 28
 | 276 => 53
 | 277 => 29
 | 278 => 31
 | 279 => 60
 | 280 => 9
 | 281 => 10
 | 284 => 5
 | 288 => 30
 | _ => 0
def gnum : Nat → Nat
 | 0 => 2
 | 1 => 1
 | 5 => 0
 | _ => 0
def gG : Nat → z4a
 | 0 => z5V
 | 1 => z4Na
 | 2 => z61a
 | 3 => z5ra
 | 4 => z1aa
 | 5 => z5qa
 | 6 => z1Ab
 | 7 => z63
 | 10 => z3M
 | 11 => z6Db
 | 12 => z0vb
 | 13 => z1ib
 | 15 => z8ra
 | 18 => z8za
 | 19 => z1S
 | 24 => z4V
 | 25 => z3M
 | 26 => z0qa
 | 27 => z4Ca
 | 29 => z0V
 | 30 => z1Ba
 | 75 => z2Ya
 | 76 => z2Ta
 | 77 => z2Eb
 | 78 => z2Ta
 | 81 => z2Ya
 | 225 => z2ja
 | 226 => ckC
 | 227 => z4ba
 | 228 => z8Xa
 | 229 => z1ra
 | 230 => z0Fa
 | 233 => z3U
 | 234 => z8Ca
 | 235 => z0Rb
 | 238 => z3ib
 | 239 => z14
 | 240 => z4Qa
 | 241 => z5Wa
 | 242 => z8hb
 | 244 => z01a
 | 245 => z34
 | 246 => z8Ja
 | 247 => z0ba
 | 248 => z5za
 | 251 => z8La
 | 252 => z8Pb
 | 253 => z1Qb
 | 254 => z56
 | 255 => z0Lb
 | 256 => z3Vb
 | 257 => z8Eb
 | 258 => z0Fa
 | 259 => z4ba
 | 260 => z1ma
 | 261 => z3fa
 | 262 => z7xa
 | 263 => z2Sb
 | 264 => z3U
 | 267 => z86
 | 268 => z0Ka
 | 269 => z14
 | 270 => z4Qa
 | 271 => z5Wa
 | 272 => z56
 | 273 => z8Ja
 | 274 => z2Ia
 | 275 => z34
 | 276 => z8La
 | 277 => z01a
 | 278 => z6Ka
 | 279 => atC
 | 280 => z9Ia
 | 281 => z8Ga
 | 284 => z63a
 | 288 => z0ea
 | _ => ⟨fun _ => False, fun _ => .undef⟩
def gM : Nat → CM
 | 231 => bkM
 | 236 => lnM
 | _ => ⟨[], [], fun _ => False, fun _ => .undef, fun _ _ => []⟩
def gC : Nat → CW
 | 237 => z80a
 | 249 => z1Va
 | _ => ⟨[], [], [], fun _ _ => False, fun _ _ => .undef, fun _ _ _ => []⟩
def gI : Nat → ItC
 | 232 => bkI
 | 250 => lnI
 | _ => ⟨fun _ _ => False, fun _ _ _ => none, []⟩
def gT : Nat → List z2a
 | 0 => z3o kc
 | 1 => z3o kc
 | 5 => z0P byR
 | _ => []
def E0 : Env := { G := gG, T := gT, M := gM, I := gI, C := gC }
noncomputable def K0 : Cx := { P := Tryd.prog, nu := nu, globs := [], N := { gnum := gnum, gs := [0, 1, 5] }, E := E0 }
theorem c_n288 : z7b K0 z0h Tryd.f30 = true := by kernel_rfl
theorem k_n288 : (z5a z0h.body).all (fun p => ([] : List (Nat × Bool)).contains p) = true := by kernel_rfl
theorem v_n288 : z9e K0 288 z0ea := z3a (K := K0) (f := 288) (F := z0h) Tryd.func30 c_n288 (z7f k_n288 (List.forall_mem_nil _)) (z6wb E0) (by kernel_rfl)
theorem c_n256 : z7b K0 z4w Tryd.f74 = true := by kernel_rfl
theorem k_n256 : (z5a z4w.body).all (fun p => ([] : List (Nat × Bool)).contains p) = true := by kernel_rfl
theorem v_n256 : z9e K0 256 z3Vb := z3a (K := K0) (f := 256) (F := z4w) Tryd.func74 c_n256 (z7f k_n256 (List.forall_mem_nil _)) (z3cc E0) (by kernel_rfl)
theorem c_n255 : z7b K0 z3m Tryd.f68 = true := by kernel_rfl
theorem k_n255 : (z5a z3m.body).all (fun p => ([(256, false)] : List (Nat × Bool)).contains p) = true := by kernel_rfl
theorem v_n255 : z9e K0 255 z0Lb := z3a (K := K0) (f := 255) (F := z3m) Tryd.func68 c_n255 (z7f k_n255 (List.forall_mem_cons.2 ⟨v_n256, List.forall_mem_nil _⟩)) (z6qc E0 rfl) (by kernel_rfl)
theorem c_n253 : z7b K0 z4p Tryd.f67 = true := by kernel_rfl
theorem k_n253 : (z5a z4p.body).all (fun p => ([(255, false)] : List (Nat × Bool)).contains p) = true := by kernel_rfl
theorem v_n253 : z9e K0 253 z1Qb := z3a (K := K0) (f := 253) (F := z4p) Tryd.func67 c_n253 (z7f k_n253 (List.forall_mem_cons.2 ⟨v_n255, List.forall_mem_nil _⟩)) (z9Tb E0 rfl) (by kernel_rfl)
theorem c_n252 : z7b K0 z3b Tryd.f66 = true := by kernel_rfl
theorem k_n252 : (z5a z3b.body).all (fun p => ([(253, false)] : List (Nat × Bool)).contains p) = true := by kernel_rfl
theorem v_n252 : z9e K0 252 z8Pb := z3a (K := K0) (f := 252) (F := z3b) Tryd.func66 c_n252 (z7f k_n252 (List.forall_mem_cons.2 ⟨v_n253, List.forall_mem_nil _⟩)) (z09b E0 rfl) (by kernel_rfl)
theorem c_n242 : z7b K0 z5s Tryd.f52 = true := by kernel_rfl
theorem k_n242 : (z5a z5s.body).all (fun p => ([(252, false)] : List (Nat × Bool)).contains p) = true := by kernel_rfl
theorem v_n242 : z9e K0 242 z8hb := z3a (K := K0) (f := 242) (F := z5s) Tryd.func52 c_n242 (z7f k_n242 (List.forall_mem_cons.2 ⟨v_n252, List.forall_mem_nil _⟩)) (z3Rb E0 rfl) (by kernel_rfl)
theorem c_n230 : z7b K0 z6w Tryd.f26 = true := by kernel_rfl
theorem k_n230 : (z5a z6w.body).all (fun p => ([(242, false)] : List (Nat × Bool)).contains p) = true := by kernel_rfl
theorem v_n230 : z9e K0 230 z0Fa := z3a (K := K0) (f := 230) (F := z6w) Tryd.func26 c_n230 (z7f k_n230 (List.forall_mem_cons.2 ⟨v_n242, List.forall_mem_nil _⟩)) (z2lc E0 rfl) (by kernel_rfl)
theorem c_n232 : z0tb K0 z4k Tryd.f62 = true := by kernel_rfl
theorem k_n232 : z1v z4k.body = [] := by kernel_rfl
theorem v_n232 : z0W K0 232 bkI := z8Pa (K := K0) (f := 232) (F := z4k) Tryd.func62 c_n232 (by rw [k_n232]; exact List.forall_mem_nil _) (z5ic E0)
theorem c_n231 : z7b K0 z9l Tryd.f42 = true := by kernel_rfl
theorem k_n231 : (z5a z9l.body).all (fun p => ([] : List (Nat × Bool)).contains p) = true := by kernel_rfl
theorem v_n231 : z0ga K0 231 bkM := z8fa (K := K0) (f := 231) (F := z9l) Tryd.func42 c_n231 (z7f k_n231 (List.forall_mem_nil _)) (by decide) (z4bc E0) (by kernel_rfl) (by kernel_rfl)
theorem i_n233 : z8K z2m.body = [232] := by kernel_rfl
theorem c_n233 : z7b K0 z2m Tryd.f14 = true := by kernel_rfl
theorem k_n233 : (z5a z2m.body).all (fun p => ([(230, false), (231, true)] : List (Nat × Bool)).contains p) = true := by kernel_rfl
theorem v_n233 : z9e K0 233 z3U := z74a (K := K0) (f := 233) (F := z2m) Tryd.func14 c_n233 (z7f k_n233 (List.forall_mem_cons.2 ⟨v_n230, List.forall_mem_cons.2 ⟨v_n231, List.forall_mem_nil _⟩⟩)) (z3Wb E0 rfl rfl rfl) (by rw [i_n233]; exact List.forall_mem_cons.2 ⟨v_n232, List.forall_mem_nil _⟩) (by kernel_rfl) (by kernel_rfl)
theorem c_n239 : z7b K0 z4s Tryd.f46 = true := by kernel_rfl
theorem k_n239 : (z5a z4s.body).all (fun p => ([] : List (Nat × Bool)).contains p) = true := by kernel_rfl
theorem v_n239 : z9e K0 239 z14 := z3a (K := K0) (f := 239) (F := z4s) Tryd.func46 c_n239 (z7f k_n239 (List.forall_mem_nil _)) (z2Vb E0) (by kernel_rfl)
theorem c_n251 : z7b K0 z5m Tryd.f65 = true := by kernel_rfl
theorem k_n251 : (z5a z5m.body).all (fun p => ([] : List (Nat × Bool)).contains p) = true := by kernel_rfl
theorem v_n251 : z9e K0 251 z8La := z3a (K := K0) (f := 251) (F := z5m) Tryd.func65 c_n251 (z7f k_n251 (List.forall_mem_nil _)) (z15a E0) (by kernel_rfl)
theorem c_n245 : z7b K0 z6p Tryd.f54 = true := by kernel_rfl
theorem k_n245 : (z5a z6p.body).all (fun p => ([] : List (Nat × Bool)).contains p) = true := by kernel_rfl
theorem v_n245 : z9e K0 245 z34 := z3a (K := K0) (f := 245) (F := z6p) Tryd.func54 c_n245 (z7f k_n245 (List.forall_mem_nil _)) (z2eb E0) (by kernel_rfl)
theorem c_n240 : z7b K0 z7w Tryd.f47 = true := by kernel_rfl
theorem k_n240 : (z5a z7w.body).all (fun p => ([(251, false), (245, false)] : List (Nat × Bool)).contains p) = true := by kernel_rfl
theorem v_n240 : z9e K0 240 z4Qa := z3a (K := K0) (f := 240) (F := z7w) Tryd.func47 c_n240 (z7f k_n240 (List.forall_mem_cons.2 ⟨v_n251, List.forall_mem_cons.2 ⟨v_n245, List.forall_mem_nil _⟩⟩)) (z3fc E0 rfl rfl) (by kernel_rfl)
theorem c_n244 : z7b K0 z6s Tryd.f55 = true := by kernel_rfl
theorem k_n244 : (z5a z6s.body).all (fun p => ([(251, false)] : List (Nat × Bool)).contains p) = true := by kernel_rfl
theorem v_n244 : z9e K0 244 z01a := z3a (K := K0) (f := 244) (F := z6s) Tryd.func55 c_n244 (z7f k_n244 (List.forall_mem_cons.2 ⟨v_n251, List.forall_mem_nil _⟩)) (z9Wb E0 rfl rfl) (by kernel_rfl)
theorem c_n226 : z7b K0 z4d Tryd.f33 = true := by kernel_rfl
theorem k_n226 : (z5a z4d.body).all (fun p => ([(230, false), (233, false), (239, false), (240, false), (244, false), (245, false)] : List (Nat × Bool)).contains p) = true := by kernel_rfl
theorem v_n226 : z9e K0 226 ckC := z3a (K := K0) (f := 226) (F := z4d) Tryd.func33 c_n226 (z7f k_n226 (List.forall_mem_cons.2 ⟨v_n230, List.forall_mem_cons.2 ⟨v_n233, List.forall_mem_cons.2 ⟨v_n239, List.forall_mem_cons.2 ⟨v_n240, List.forall_mem_cons.2 ⟨v_n244, List.forall_mem_cons.2 ⟨v_n245, List.forall_mem_nil _⟩⟩⟩⟩⟩⟩)) (z6qb E0 rfl rfl rfl rfl rfl rfl) (by kernel_rfl)
theorem c_n225 : z7b K0 z7n Tryd.f32 = true := by kernel_rfl
theorem k_n225 : (z5a z7n.body).all (fun p => ([] : List (Nat × Bool)).contains p) = true := by kernel_rfl
theorem v_n225 : z9e K0 225 z2ja := z3a (K := K0) (f := 225) (F := z7n) Tryd.func32 c_n225 (z7f k_n225 (List.forall_mem_nil _)) (z0pb E0) (by kernel_rfl)
theorem c_n12 : z7b K0 z3z Tryd.f75 = true := by kernel_rfl
theorem k_n12 : (z5a z3z.body).all (fun p => ([] : List (Nat × Bool)).contains p) = true := by kernel_rfl
theorem v_n12 : z9e K0 12 z0vb := z3a (K := K0) (f := 12) (F := z3z) Tryd.func75 c_n12 (z7f k_n12 (List.forall_mem_nil _)) (z08b E0) (by kernel_rfl)
theorem c_n7 : z7b K0 z9r Tryd.f69 = true := by kernel_rfl
theorem k_n7 : (z5a z9r.body).all (fun p => ([(12, false)] : List (Nat × Bool)).contains p) = true := by kernel_rfl
theorem v_n7 : z9e K0 7 z63 := z3a (K := K0) (f := 7) (F := z9r) Tryd.func69 c_n7 (z7f k_n7 (List.forall_mem_cons.2 ⟨v_n12, List.forall_mem_nil _⟩)) (z0ob E0 rfl) (by kernel_rfl)
theorem c_n0 : z7b K0 z7r Tryd.f78 = true := by kernel_rfl
theorem k_n0 : (z5a z7r.body).all (fun p => ([] : List (Nat × Bool)).contains p) = true := by kernel_rfl
theorem v_n0 : z9e K0 0 z5V := z3a (K := K0) (f := 0) (F := z7r) Tryd.func78 c_n0 (z7f k_n0 (List.forall_mem_nil _)) (z1ob E0) (by kernel_rfl)
theorem c_n13 : z7b K0 z4i Tryd.f92 = true := by kernel_rfl
theorem k_n13 : (z5a z4i.body).all (fun p => ([] : List (Nat × Bool)).contains p) = true := by kernel_rfl
theorem v_n13 : z9e K0 13 z1ib := z3a (K := K0) (f := 13) (F := z4i) Tryd.func92 c_n13 (z7f k_n13 (List.forall_mem_nil _)) (z2Yb E0) (by kernel_rfl)
theorem c_n10 : z7b K0 z6m Tryd.f90 = true := by kernel_rfl
theorem k_n10 : (z5a z6m.body).all (fun p => ([(13, false)] : List (Nat × Bool)).contains p) = true := by kernel_rfl
theorem v_n10 : z9e K0 10 z3M := z3a (K := K0) (f := 10) (F := z6m) Tryd.func90 c_n10 (z7f k_n10 (List.forall_mem_cons.2 ⟨v_n13, List.forall_mem_nil _⟩)) (z3xb E0 rfl) (by kernel_rfl)
theorem c_n11 : z7b K0 z2z Tryd.f91 = true := by kernel_rfl
theorem k_n11 : (z5a z2z.body).all (fun p => ([(13, false)] : List (Nat × Bool)).contains p) = true := by kernel_rfl
theorem v_n11 : z9e K0 11 z6Db := z3a (K := K0) (f := 11) (F := z2z) Tryd.func91 c_n11 (z7f k_n11 (List.forall_mem_cons.2 ⟨v_n13, List.forall_mem_nil _⟩)) (z1bc E0 rfl) (by kernel_rfl)
theorem c_n4 : z7b K0 z7m Tryd.f85 = true := by kernel_rfl
theorem k_n4 : (z5a z7m.body).all (fun p => ([(10, false), (11, false)] : List (Nat × Bool)).contains p) = true := by kernel_rfl
theorem v_n4 : z9e K0 4 z1aa := z3a (K := K0) (f := 4) (F := z7m) Tryd.func85 c_n4 (z7f k_n4 (List.forall_mem_cons.2 ⟨v_n10, List.forall_mem_cons.2 ⟨v_n11, List.forall_mem_nil _⟩⟩)) (z5pb E0 rfl rfl rfl) (by kernel_rfl)
theorem c_n1 : z7b K0 z0l Tryd.f79 = true := by kernel_rfl
theorem k_n1 : (z5a z0l.body).all (fun p => ([(4, false)] : List (Nat × Bool)).contains p) = true := by kernel_rfl
theorem v_n1 : z9e K0 1 z4Na := z3a (K := K0) (f := 1) (F := z0l) Tryd.func79 c_n1 (z7f k_n1 (List.forall_mem_cons.2 ⟨v_n4, List.forall_mem_nil _⟩)) (z5Xb E0 rfl) (by kernel_rfl)
theorem c_n2 : z7b K0 z7k Tryd.f80 = true := by kernel_rfl
theorem k_n2 : (z5a z7k.body).all (fun p => ([(1, false)] : List (Nat × Bool)).contains p) = true := by kernel_rfl
theorem v_n2 : z9e K0 2 z61a := z3a (K := K0) (f := 2) (F := z7k) Tryd.func80 c_n2 (z7f k_n2 (List.forall_mem_cons.2 ⟨v_n1, List.forall_mem_nil _⟩)) (z4dc E0 rfl) (by kernel_rfl)
theorem c_n3 : z7b K0 z0z Tryd.f76 = true := by kernel_rfl
theorem k_n3 : (z5a z0z.body).all (fun p => ([(0, false), (1, false), (2, false)] : List (Nat × Bool)).contains p) = true := by kernel_rfl
theorem v_n3 : z9e K0 3 z5ra := z3a (K := K0) (f := 3) (F := z0z) Tryd.func76 c_n3 (z7f k_n3 (List.forall_mem_cons.2 ⟨v_n0, List.forall_mem_cons.2 ⟨v_n1, List.forall_mem_cons.2 ⟨v_n2, List.forall_mem_nil _⟩⟩⟩)) (z3Kb E0 rfl rfl rfl) (by kernel_rfl)
theorem c_n5 : z7b K0 z5r Tryd.f77 = true := by kernel_rfl
theorem k_n5 : (z5a z5r.body).all (fun p => ([] : List (Nat × Bool)).contains p) = true := by kernel_rfl
theorem v_n5 : z9e K0 5 z5qa := z3a (K := K0) (f := 5) (F := z5r) Tryd.func77 c_n5 (z7f k_n5 (List.forall_mem_nil _)) (z4Pb E0) (by kernel_rfl)
theorem c_n6 : z7b K0 z6y Tryd.f70 = true := by kernel_rfl
theorem k_n6 : (z5a z6y.body).all (fun p => ([(3, false), (0, false), (5, false), (1, false), (2, false)] : List (Nat × Bool)).contains p) = true := by kernel_rfl
theorem v_n6 : z9e K0 6 z1Ab := z3a (K := K0) (f := 6) (F := z6y) Tryd.func70 c_n6 (z7f k_n6 (List.forall_mem_cons.2 ⟨v_n3, List.forall_mem_cons.2 ⟨v_n0, List.forall_mem_cons.2 ⟨v_n5, List.forall_mem_cons.2 ⟨v_n1, List.forall_mem_cons.2 ⟨v_n2, List.forall_mem_nil _⟩⟩⟩⟩⟩)) (z3ec E0 rfl rfl rfl rfl rfl) (by kernel_rfl)
theorem c_n76 : z7b K0 z3r Tryd.f56 = true := by kernel_rfl
theorem k_n76 : (z5a z3r.body).all (fun p => ([(7, false), (6, false)] : List (Nat × Bool)).contains p) = true := by kernel_rfl
theorem v_n76 : z9e K0 76 z2Ta := z3a (K := K0) (f := 76) (F := z3r) Tryd.func56 c_n76 (z7f k_n76 (List.forall_mem_cons.2 ⟨v_n7, List.forall_mem_cons.2 ⟨v_n6, List.forall_mem_nil _⟩⟩)) (z7jc E0 rfl rfl) (by kernel_rfl)
theorem c_n75 : z7b K0 z6k Tryd.f34 = true := by kernel_rfl
theorem k_n75 : (z5a z6k.body).all (fun p => ([(76, false)] : List (Nat × Bool)).contains p) = true := by kernel_rfl
theorem v_n75 : z9e K0 75 z2Ya := z3a (K := K0) (f := 75) (F := z6k) Tryd.func34 c_n75 (z7f k_n75 (List.forall_mem_cons.2 ⟨v_n76, List.forall_mem_nil _⟩)) (z7pc E0 rfl) (by kernel_rfl)
theorem c_n254 : z7b K0 z3n Tryd.f71 = true := by kernel_rfl
theorem k_n254 : (z5a z3n.body).all (fun p => ([] : List (Nat × Bool)).contains p) = true := by kernel_rfl
theorem v_n254 : z9e K0 254 z56 := z3a (K := K0) (f := 254) (F := z3n) Tryd.func71 c_n254 (z7f k_n254 (List.forall_mem_nil _)) (z37a E0) (by kernel_rfl)
theorem c_n246 : z7b K0 z1j Tryd.f57 = true := by kernel_rfl
theorem k_n246 : (z5a z1j.body).all (fun p => ([(254, false)] : List (Nat × Bool)).contains p) = true := by kernel_rfl
theorem v_n246 : z9e K0 246 z8Ja := z3a (K := K0) (f := 246) (F := z1j) Tryd.func57 c_n246 (z7f k_n246 (List.forall_mem_cons.2 ⟨v_n254, List.forall_mem_nil _⟩)) (z5wb E0 rfl) (by kernel_rfl)
theorem c_n247 : z7b K0 z1m Tryd.f58 = true := by kernel_rfl
theorem k_n247 : (z5a z1m.body).all (fun p => ([] : List (Nat × Bool)).contains p) = true := by kernel_rfl
theorem v_n247 : z9e K0 247 z0ba := z4ab 0 (z3a (K := K0) (f := 247) (F := z1m) (c := z9lb) Tryd.func58 c_n247 (z7f k_n247 (List.forall_mem_nil _)) (z2Qb E0) (by kernel_rfl)) z0rb
theorem c_n227 : z7b K0 z9q Tryd.f35 = true := by kernel_rfl
theorem k_n227 : (z5a z9q.body).all (fun p => ([(246, false), (242, false), (247, false)] : List (Nat × Bool)).contains p) = true := by kernel_rfl
theorem v_n227 : z9e K0 227 z4ba := z3a (K := K0) (f := 227) (F := z9q) Tryd.func35 c_n227 (z7f k_n227 (List.forall_mem_cons.2 ⟨v_n246, List.forall_mem_cons.2 ⟨v_n242, List.forall_mem_cons.2 ⟨v_n247, List.forall_mem_nil _⟩⟩⟩)) (z1ic E0 rfl rfl rfl) (by kernel_rfl)
theorem c_n248 : z7b K0 z1p Tryd.f59 = true := by kernel_rfl
theorem k_n248 : (z5a z1p.body).all (fun p => ([] : List (Nat × Bool)).contains p) = true := by kernel_rfl
theorem v_n248 : z9e K0 248 z5za := z3a (K := K0) (f := 248) (F := z1p) Tryd.func59 c_n248 (z7f k_n248 (List.forall_mem_nil _)) (z8Xb E0) (by kernel_rfl)
theorem c_n228 : z7b K0 z6o Tryd.f36 = true := by kernel_rfl
theorem k_n228 : (z5a z6o.body).all (fun p => ([(246, false), (248, false)] : List (Nat × Bool)).contains p) = true := by kernel_rfl
theorem v_n228 : z9e K0 228 z8Xa := z3a (K := K0) (f := 228) (F := z6o) Tryd.func36 c_n228 (z7f k_n228 (List.forall_mem_cons.2 ⟨v_n246, List.forall_mem_cons.2 ⟨v_n248, List.forall_mem_nil _⟩⟩)) (z9oc E0 rfl rfl) (by kernel_rfl)
theorem c_n229 : z7b K0 z6n Tryd.f11 = true := by kernel_rfl
theorem k_n229 : (z5a z6n.body).all (fun p => ([(226, false), (225, false), (75, false), (227, false), (228, false)] : List (Nat × Bool)).contains p) = true := by kernel_rfl
theorem v_n229 : z9e K0 229 z1ra := z3a (K := K0) (f := 229) (F := z6n) Tryd.func11 c_n229 (z7f k_n229 (List.forall_mem_cons.2 ⟨v_n226, List.forall_mem_cons.2 ⟨v_n225, List.forall_mem_cons.2 ⟨v_n75, List.forall_mem_cons.2 ⟨v_n227, List.forall_mem_cons.2 ⟨v_n228, List.forall_mem_nil _⟩⟩⟩⟩⟩)) (z9mc E0 rfl rfl rfl rfl rfl) (by kernel_rfl)
theorem c_n250 : z0tb K0 z1o Tryd.f64 = true := by kernel_rfl
theorem k_n250 : z1v z1o.body = [(233, false)] := by kernel_rfl
theorem v_n250 : z0W K0 250 lnI := z8Pa (K := K0) (f := 250) (F := z1o) Tryd.func64 c_n250 (by rw [k_n250]; exact List.forall_mem_cons.2 ⟨v_n233, List.forall_mem_nil _⟩) (z2jc E0 rfl)
theorem c_n236 : z7b K0 z1t Tryd.f45 = true := by kernel_rfl
theorem k_n236 : (z5a z1t.body).all (fun p => ([] : List (Nat × Bool)).contains p) = true := by kernel_rfl
theorem v_n236 : z0ga K0 236 lnM := z8fa (K := K0) (f := 236) (F := z1t) Tryd.func45 c_n236 (z7f k_n236 (List.forall_mem_nil _)) (by decide) (z0rc E0) (by kernel_rfl) (by kernel_rfl)
theorem i_n249 : z8K z5j.body = [250] := by kernel_rfl
theorem c_n249 : z7b K0 z5j Tryd.f63 = true := by kernel_rfl
theorem k_n249 : (z5a z5j.body).all (fun p => ([] : List (Nat × Bool)).contains p) = true := by kernel_rfl
theorem v_n249 : z99 K0 249 z1Va := z1Xa (K := K0) (f := 249) (F := z5j) Tryd.func63 c_n249 (z7f k_n249 (List.forall_mem_nil _)) (z9dc E0 rfl) (by rw [i_n249]; exact List.forall_mem_cons.2 ⟨v_n250, List.forall_mem_nil _⟩) (by kernel_rfl) (by kernel_rfl)
theorem c_n237 : z7b K0 z2n Tryd.f44 = true := by kernel_rfl
theorem k_n237 : (z5a z2n.body).all (fun p => ([(500000249, true)] : List (Nat × Bool)).contains p) = true := by kernel_rfl
theorem v_n237 : z99 K0 237 z80a := z2Ma (K := K0) (f := 237) (F := z2n) Tryd.func44 c_n237 (z7f k_n237 (List.forall_mem_cons.2 ⟨v_n249, List.forall_mem_nil _⟩)) (z2bc E0 rfl) (by kernel_rfl) (by kernel_rfl)
theorem c_n234 : z7b K0 z5n Tryd.f18 = true := by kernel_rfl
theorem k_n234 : (z5a z5n.body).all (fun p => ([(230, false), (236, true), (500000237, true)] : List (Nat × Bool)).contains p) = true := by kernel_rfl
theorem v_n234 : z9e K0 234 z8Ca := z3a (K := K0) (f := 234) (F := z5n) Tryd.func18 c_n234 (z7f k_n234 (List.forall_mem_cons.2 ⟨v_n230, List.forall_mem_cons.2 ⟨v_n236, List.forall_mem_cons.2 ⟨v_n237, List.forall_mem_nil _⟩⟩⟩)) (z8Ub E0 rfl rfl rfl) (by kernel_rfl)
theorem c_n235 : z7b K0 z3l Tryd.f16 = true := by kernel_rfl
theorem k_n235 : (z5a z3l.body).all (fun p => ([(234, false)] : List (Nat × Bool)).contains p) = true := by kernel_rfl
theorem v_n235 : z9e K0 235 z0Rb := z3a (K := K0) (f := 235) (F := z3l) Tryd.func16 c_n235 (z7f k_n235 (List.forall_mem_cons.2 ⟨v_n234, List.forall_mem_nil _⟩)) (z38a E0 rfl) (by kernel_rfl)
theorem c_n238 : z7b K0 z4r Tryd.f21 = true := by kernel_rfl
theorem k_n238 : (z5a z4r.body).all (fun p => ([(229, false)] : List (Nat × Bool)).contains p) = true := by kernel_rfl
theorem v_n238 : z9e K0 238 z3ib := z3a (K := K0) (f := 238) (F := z4r) Tryd.func21 c_n238 (z7f k_n238 (List.forall_mem_cons.2 ⟨v_n229, List.forall_mem_nil _⟩)) (z4ec E0 rfl) (by kernel_rfl)
theorem c_n241 : z7b K0 z8n Tryd.f23 = true := by kernel_rfl
theorem k_n241 : (z5a z8n.body).all (fun p => ([(233, false), (239, false), (240, false)] : List (Nat × Bool)).contains p) = true := by kernel_rfl
theorem v_n241 : z9e K0 241 z5Wa := z3a (K := K0) (f := 241) (F := z8n) Tryd.func23 c_n241 (z7f k_n241 (List.forall_mem_cons.2 ⟨v_n233, List.forall_mem_cons.2 ⟨v_n239, List.forall_mem_cons.2 ⟨v_n240, List.forall_mem_nil _⟩⟩⟩)) (z9ec E0 rfl rfl rfl) (by kernel_rfl)
theorem c_n267 : z7b K0 z0i Tryd.f20 = true := by kernel_rfl
theorem k_n267 : (z5a z0i.body).all (fun p => ([] : List (Nat × Bool)).contains p) = true := by kernel_rfl
theorem v_n267 : z9e K0 267 z86 := z3a (K := K0) (f := 267) (F := z0i) Tryd.func20 c_n267 (z7f k_n267 (List.forall_mem_nil _)) (z9Hb E0) (by kernel_rfl)
theorem c_n280 : z7b K0 z5f Tryd.f9 = true := by kernel_rfl
theorem k_n280 : (z5a z5f.body).all (fun p => ([(288, false), (229, false), (233, false), (235, false), (234, false), (238, false), (241, false), (267, false)] : List (Nat × Bool)).contains p) = true := by kernel_rfl
theorem v_n280 : z9e K0 280 z9Ia := z3a (K := K0) (f := 280) (F := z5f) Tryd.func9 c_n280 (z7f k_n280 (List.forall_mem_cons.2 ⟨v_n288, List.forall_mem_cons.2 ⟨v_n229, List.forall_mem_cons.2 ⟨v_n233, List.forall_mem_cons.2 ⟨v_n235, List.forall_mem_cons.2 ⟨v_n234, List.forall_mem_cons.2 ⟨v_n238, List.forall_mem_cons.2 ⟨v_n241, List.forall_mem_cons.2 ⟨v_n267, List.forall_mem_nil _⟩⟩⟩⟩⟩⟩⟩⟩)) (z7Ib E0 rfl rfl rfl rfl rfl rfl rfl rfl) (by kernel_rfl)
theorem c_n278 : z7b K0 z7e Tryd.f31 = true := by kernel_rfl
theorem k_n278 : (z5a z7e.body).all (fun p => ([] : List (Nat × Bool)).contains p) = true := by kernel_rfl
theorem v_n278 : z9e K0 278 z6Ka := z3a (K := K0) (f := 278) (F := z7e) Tryd.func31 c_n278 (z7f k_n278 (List.forall_mem_nil _)) (z6Ob E0) (by kernel_rfl)
theorem c_n272 : z7b K0 z6e Tryd.f50 = true := by kernel_rfl
theorem k_n272 : (z5a z6e.body).all (fun p => ([] : List (Nat × Bool)).contains p) = true := by kernel_rfl
theorem v_n272 : z9e K0 272 z56 := z3a (K := K0) (f := 272) (F := z6e) Tryd.func50 c_n272 (z7f k_n272 (List.forall_mem_nil _)) (z0Xa E0) (by kernel_rfl)
theorem c_n273 : z7b K0 z1c Tryd.f51 = true := by kernel_rfl
theorem k_n273 : (z5a z1c.body).all (fun p => ([(272, false)] : List (Nat × Bool)).contains p) = true := by kernel_rfl
theorem v_n273 : z9e K0 273 z8Ja := z3a (K := K0) (f := 273) (F := z1c) Tryd.func51 c_n273 (z7f k_n273 (List.forall_mem_cons.2 ⟨v_n272, List.forall_mem_nil _⟩)) (z4bb E0 rfl) (by kernel_rfl)
theorem c_n274 : z7b K0 z4c Tryd.f25 = true := by kernel_rfl
theorem k_n274 : (z5a z4c.body).all (fun p => ([(272, false), (273, false)] : List (Nat × Bool)).contains p) = true := by kernel_rfl
theorem v_n274 : z9e K0 274 z2Ia := z3a (K := K0) (f := 274) (F := z4c) Tryd.func25 c_n274 (z7f k_n274 (List.forall_mem_cons.2 ⟨v_n272, List.forall_mem_cons.2 ⟨v_n273, List.forall_mem_nil _⟩⟩)) (z0Pb E0 rfl rfl) (by kernel_rfl)
theorem c_n281 : z7b K0 z2f Tryd.f10 = true := by kernel_rfl
theorem k_n281 : (z5a z2f.body).all (fun p => ([(278, false), (274, false)] : List (Nat × Bool)).contains p) = true := by kernel_rfl
theorem v_n281 : z9e K0 281 z8Ga := z3a (K := K0) (f := 281) (F := z2f) Tryd.func10 c_n281 (z7f k_n281 (List.forall_mem_cons.2 ⟨v_n278, List.forall_mem_cons.2 ⟨v_n274, List.forall_mem_nil _⟩⟩)) (z7Pb E0 rfl rfl) (by kernel_rfl)
theorem c_n279 : z7b K0 z5k Tryd.f60 = true := by kernel_rfl
theorem k_n279 : (z5a z5k.body).all (fun p => ([] : List (Nat × Bool)).contains p) = true := by kernel_rfl
theorem v_n279 : z9e K0 279 atC := z3a (K := K0) (f := 279) (F := z5k) Tryd.func60 c_n279 (z7f k_n279 (List.forall_mem_nil _)) (z0Ic E0) (by kernel_rfl)
theorem c_n258 : z7b K0 z3h Tryd.f38 = true := by kernel_rfl
theorem k_n258 : (z5a z3h.body).all (fun p => ([(279, false)] : List (Nat × Bool)).contains p) = true := by kernel_rfl
theorem v_n258 : z9e K0 258 z0Fa := z3a (K := K0) (f := 258) (F := z3h) Tryd.func38 c_n258 (z7f k_n258 (List.forall_mem_cons.2 ⟨v_n279, List.forall_mem_nil _⟩)) (z1Ob E0 rfl) (by kernel_rfl)
theorem c_n269 : z7b K0 z4g Tryd.f48 = true := by kernel_rfl
theorem k_n269 : (z5a z4g.body).all (fun p => ([] : List (Nat × Bool)).contains p) = true := by kernel_rfl
theorem v_n269 : z9e K0 269 z14 := z3a (K := K0) (f := 269) (F := z4g) Tryd.func48 c_n269 (z7f k_n269 (List.forall_mem_nil _)) (z4rb E0) (by kernel_rfl)
theorem c_n263 : z7b K0 z3c Tryd.f43 = true := by kernel_rfl
theorem k_n263 : (z5a z3c.body).all (fun p => ([] : List (Nat × Bool)).contains p) = true := by kernel_rfl
theorem v_n263 : z9e K0 263 z2Sb := z3a (K := K0) (f := 263) (F := z3c) Tryd.func43 c_n263 (z7f k_n263 (List.forall_mem_nil _)) (z6ic E0) (by kernel_rfl)
theorem c_n264 : z7b K0 z5g Tryd.f15 = true := by kernel_rfl
theorem k_n264 : (z5a z5g.body).all (fun p => ([(258, false), (263, false)] : List (Nat × Bool)).contains p) = true := by kernel_rfl
theorem v_n264 : z9e K0 264 z3U := z3a (K := K0) (f := 264) (F := z5g) Tryd.func15 c_n264 (z7f k_n264 (List.forall_mem_cons.2 ⟨v_n258, List.forall_mem_cons.2 ⟨v_n263, List.forall_mem_nil _⟩⟩)) (z7rb E0 rfl rfl) (by kernel_rfl)
theorem c_n276 : z7b K0 z8g Tryd.f53 = true := by kernel_rfl
theorem k_n276 : (z5a z8g.body).all (fun p => ([] : List (Nat × Bool)).contains p) = true := by kernel_rfl
theorem v_n276 : z9e K0 276 z8La := z3a (K := K0) (f := 276) (F := z8g) Tryd.func53 c_n276 (z7f k_n276 (List.forall_mem_nil _)) (z9Hc E0) (by kernel_rfl)
theorem c_n275 : z7b K0 z6f Tryd.f28 = true := by kernel_rfl
theorem k_n275 : (z5a z6f.body).all (fun p => ([] : List (Nat × Bool)).contains p) = true := by kernel_rfl
theorem v_n275 : z9e K0 275 z34 := z3a (K := K0) (f := 275) (F := z6f) Tryd.func28 c_n275 (z7f k_n275 (List.forall_mem_nil _)) (z2Va E0) (by kernel_rfl)
theorem c_n270 : z7b K0 z5h Tryd.f49 = true := by kernel_rfl
theorem k_n270 : (z5a z5h.body).all (fun p => ([(276, false), (275, false)] : List (Nat × Bool)).contains p) = true := by kernel_rfl
theorem v_n270 : z9e K0 270 z4Qa := z3a (K := K0) (f := 270) (F := z5h) Tryd.func49 c_n270 (z7f k_n270 (List.forall_mem_cons.2 ⟨v_n276, List.forall_mem_cons.2 ⟨v_n275, List.forall_mem_nil _⟩⟩)) (z7Jb E0 rfl rfl) (by kernel_rfl)
theorem c_n277 : z7b K0 z2g Tryd.f29 = true := by kernel_rfl
theorem k_n277 : (z5a z2g.body).all (fun p => ([(276, false)] : List (Nat × Bool)).contains p) = true := by kernel_rfl
theorem v_n277 : z9e K0 277 z01a := z3a (K := K0) (f := 277) (F := z2g) Tryd.func29 c_n277 (z7f k_n277 (List.forall_mem_cons.2 ⟨v_n276, List.forall_mem_nil _⟩)) (z8wb E0 rfl) (by kernel_rfl)
theorem c_n257 : z7b K0 z6b Tryd.f37 = true := by kernel_rfl
theorem k_n257 : (z5a z6b.body).all (fun p => ([(258, false), (269, false), (264, false), (270, false), (277, false), (275, false)] : List (Nat × Bool)).contains p) = true := by kernel_rfl
theorem v_n257 : z9e K0 257 z8Eb := z3a (K := K0) (f := 257) (F := z6b) Tryd.func37 c_n257 (z7f k_n257 (List.forall_mem_cons.2 ⟨v_n258, List.forall_mem_cons.2 ⟨v_n269, List.forall_mem_cons.2 ⟨v_n264, List.forall_mem_cons.2 ⟨v_n270, List.forall_mem_cons.2 ⟨v_n277, List.forall_mem_cons.2 ⟨v_n275, List.forall_mem_nil _⟩⟩⟩⟩⟩⟩)) (z7Hb E0 rfl rfl rfl rfl rfl rfl) (by kernel_rfl)
theorem c_n30 : z7b K0 z6j Tryd.f89 = true := by kernel_rfl
theorem k_n30 : (z5a z6j.body).all (fun p => ([] : List (Nat × Bool)).contains p) = true := by kernel_rfl
theorem v_n30 : z9e K0 30 z1Ba := z3a (K := K0) (f := 30) (F := z6j) Tryd.func89 c_n30 (z7f k_n30 (List.forall_mem_nil _)) (z3Mb E0) (by kernel_rfl)
theorem c_n29 : z7b K0 z9g Tryd.f84 = true := by kernel_rfl
theorem k_n29 : (z5a z9g.body).all (fun p => ([(30, false)] : List (Nat × Bool)).contains p) = true := by kernel_rfl
theorem v_n29 : z9e K0 29 z0V := z3a (K := K0) (f := 29) (F := z9g) Tryd.func84 c_n29 (z7f k_n29 (List.forall_mem_cons.2 ⟨v_n30, List.forall_mem_nil _⟩)) (z0hb E0 rfl) (by kernel_rfl)
theorem c_n77 : z7b K0 z2h Tryd.f73 = true := by kernel_rfl
theorem k_n77 : (z5a z2h.body).all (fun p => ([(29, false)] : List (Nat × Bool)).contains p) = true := by kernel_rfl
theorem v_n77 : z9e K0 77 z2Eb := z3a (K := K0) (f := 77) (F := z2h) Tryd.func73 c_n77 (z7f k_n77 (List.forall_mem_cons.2 ⟨v_n29, List.forall_mem_nil _⟩)) (z5oc E0 rfl) (by kernel_rfl)
theorem c_n24 : z7b K0 z1g Tryd.f86 = true := by kernel_rfl
theorem k_n24 : (z5a z1g.body).all (fun p => ([] : List (Nat × Bool)).contains p) = true := by kernel_rfl
theorem v_n24 : z9e K0 24 z4V := z3a (K := K0) (f := 24) (F := z1g) Tryd.func86 c_n24 (z7f k_n24 (List.forall_mem_nil _)) (z26a E0) (by kernel_rfl)
theorem c_n26 : z7b K0 z5i Tryd.f88 = true := by kernel_rfl
theorem k_n26 : (z5a z5i.body).all (fun p => ([] : List (Nat × Bool)).contains p) = true := by kernel_rfl
theorem v_n26 : z9e K0 26 z0qa := z3a (K := K0) (f := 26) (F := z5i) Tryd.func88 c_n26 (z7f k_n26 (List.forall_mem_nil _)) (z0Ib E0) (by kernel_rfl)
theorem c_n25 : z7b K0 z1h Tryd.f87 = true := by kernel_rfl
theorem k_n25 : (z5a z1h.body).all (fun p => ([(26, false)] : List (Nat × Bool)).contains p) = true := by kernel_rfl
theorem v_n25 : z9e K0 25 z3M := z3a (K := K0) (f := 25) (F := z1h) Tryd.func87 c_n25 (z7f k_n25 (List.forall_mem_cons.2 ⟨v_n26, List.forall_mem_nil _⟩)) (z2mb E0 rfl) (by kernel_rfl)
theorem c_n15 : z7b K0 z4j Tryd.f83 = true := by kernel_rfl
theorem k_n15 : (z5a z4j.body).all (fun p => ([(24, false), (25, false), (26, false)] : List (Nat × Bool)).contains p) = true := by kernel_rfl
theorem v_n15 : z9e K0 15 z8ra := z3a (K := K0) (f := 15) (F := z4j) Tryd.func83 c_n15 (z7f k_n15 (List.forall_mem_cons.2 ⟨v_n24, List.forall_mem_cons.2 ⟨v_n25, List.forall_mem_cons.2 ⟨v_n26, List.forall_mem_nil _⟩⟩⟩)) (z1Nb E0 rfl rfl rfl rfl) (by kernel_rfl)
theorem c_n19 : z7b K0 z0f Tryd.f82 = true := by kernel_rfl
theorem k_n19 : (z5a z0f.body).all (fun p => ([] : List (Nat × Bool)).contains p) = true := by kernel_rfl
theorem v_n19 : z9e K0 19 z1S := z3a (K := K0) (f := 19) (F := z0f) Tryd.func82 c_n19 (z7f k_n19 (List.forall_mem_nil _)) (z9fb E0) (by kernel_rfl)
theorem c_n27 : z7b K0 z9f Tryd.f81 = true := by kernel_rfl
theorem k_n27 : (z5a z9f.body).all (fun p => ([(15, false), (19, false)] : List (Nat × Bool)).contains p) = true := by kernel_rfl
theorem v_n27 : z9e K0 27 z4Ca := z3a (K := K0) (f := 27) (F := z9f) Tryd.func81 c_n27 (z7f k_n27 (List.forall_mem_cons.2 ⟨v_n15, List.forall_mem_cons.2 ⟨v_n19, List.forall_mem_nil _⟩⟩)) (z8ab E0 rfl rfl) (by kernel_rfl)
theorem c_n18 : z7b K0 z2j Tryd.f72 = true := by kernel_rfl
theorem k_n18 : (z5a z2j.body).all (fun p => ([(27, false), (15, false), (19, false)] : List (Nat × Bool)).contains p) = true := by kernel_rfl
theorem v_n18 : z9e K0 18 z8za := z3a (K := K0) (f := 18) (F := z2j) Tryd.func72 c_n18 (z7f k_n18 (List.forall_mem_cons.2 ⟨v_n27, List.forall_mem_cons.2 ⟨v_n15, List.forall_mem_cons.2 ⟨v_n19, List.forall_mem_nil _⟩⟩⟩)) (z1Xb E0 rfl rfl rfl) (by kernel_rfl)
theorem c_n78 : z7b K0 z0g Tryd.f61 = true := by kernel_rfl
theorem k_n78 : (z5a z0g.body).all (fun p => ([(77, false), (18, false)] : List (Nat × Bool)).contains p) = true := by kernel_rfl
theorem v_n78 : z9e K0 78 z2Ta := z3a (K := K0) (f := 78) (F := z0g) Tryd.func61 c_n78 (z7f k_n78 (List.forall_mem_cons.2 ⟨v_n77, List.forall_mem_cons.2 ⟨v_n18, List.forall_mem_nil _⟩⟩)) (z8Hb E0 rfl rfl) (by kernel_rfl)
theorem c_n81 : z7b K0 z7c Tryd.f39 = true := by kernel_rfl
theorem k_n81 : (z5a z7c.body).all (fun p => ([(78, false)] : List (Nat × Bool)).contains p) = true := by kernel_rfl
theorem v_n81 : z9e K0 81 z2Ya := z3a (K := K0) (f := 81) (F := z7c) Tryd.func39 c_n81 (z7f k_n81 (List.forall_mem_cons.2 ⟨v_n78, List.forall_mem_nil _⟩)) (z0Vb E0 rfl) (by kernel_rfl)
theorem c_n259 : z7b K0 z5e Tryd.f40 = true := by kernel_rfl
theorem k_n259 : (z5a z5e.body).all (fun p => ([(273, false), (279, false)] : List (Nat × Bool)).contains p) = true := by kernel_rfl
theorem v_n259 : z9e K0 259 z4ba := z3a (K := K0) (f := 259) (F := z5e) Tryd.func40 c_n259 (z7f k_n259 (List.forall_mem_cons.2 ⟨v_n273, List.forall_mem_cons.2 ⟨v_n279, List.forall_mem_nil _⟩⟩)) (z7Qb E0 rfl rfl) (by kernel_rfl)
theorem c_n260 : z7b K0 z5d Tryd.f41 = true := by kernel_rfl
theorem k_n260 : (z5a z5d.body).all (fun p => ([(273, false)] : List (Nat × Bool)).contains p) = true := by kernel_rfl
theorem v_n260 : z9e K0 260 z1ma := z3a (K := K0) (f := 260) (F := z5d) Tryd.func41 c_n260 (z7f k_n260 (List.forall_mem_cons.2 ⟨v_n273, List.forall_mem_nil _⟩)) (z0Wb E0 rfl) (by kernel_rfl)
theorem c_n261 : z7b K0 z3f Tryd.f12 = true := by kernel_rfl
theorem k_n261 : (z5a z3f.body).all (fun p => ([(257, false), (258, false), (81, false), (259, false), (260, false)] : List (Nat × Bool)).contains p) = true := by kernel_rfl
theorem v_n261 : z9e K0 261 z3fa := z3a (K := K0) (f := 261) (F := z3f) Tryd.func12 c_n261 (z7f k_n261 (List.forall_mem_cons.2 ⟨v_n257, List.forall_mem_cons.2 ⟨v_n258, List.forall_mem_cons.2 ⟨v_n81, List.forall_mem_cons.2 ⟨v_n259, List.forall_mem_cons.2 ⟨v_n260, List.forall_mem_nil _⟩⟩⟩⟩⟩)) (z2Wb E0 rfl rfl rfl rfl rfl) (by kernel_rfl)
theorem c_n268 : z7b K0 z7j Tryd.f22 = true := by kernel_rfl
theorem k_n268 : (z5a z7j.body).all (fun p => ([(261, false)] : List (Nat × Bool)).contains p) = true := by kernel_rfl
theorem v_n268 : z9e K0 268 z0Ka := z3a (K := K0) (f := 268) (F := z7j) Tryd.func22 c_n268 (z7f k_n268 (List.forall_mem_cons.2 ⟨v_n261, List.forall_mem_nil _⟩)) (z5Hb E0 rfl) (by kernel_rfl)
theorem c_n262 : z7b K0 z2i Tryd.f13 = true := by kernel_rfl
theorem k_n262 : (z5a z2i.body).all (fun p => ([] : List (Nat × Bool)).contains p) = true := by kernel_rfl
theorem v_n262 : z9e K0 262 z7xa := z3a (K := K0) (f := 262) (F := z2i) Tryd.func13 c_n262 (z7f k_n262 (List.forall_mem_nil _)) (z0Qb E0) (by kernel_rfl)
theorem c_n271 : z7b K0 z6d Tryd.f24 = true := by kernel_rfl
theorem k_n271 : (z5a z6d.body).all (fun p => ([(264, false), (269, false), (270, false)] : List (Nat × Bool)).contains p) = true := by kernel_rfl
theorem v_n271 : z9e K0 271 z5Wa := z3a (K := K0) (f := 271) (F := z6d) Tryd.func24 c_n271 (z7f k_n271 (List.forall_mem_cons.2 ⟨v_n264, List.forall_mem_cons.2 ⟨v_n269, List.forall_mem_cons.2 ⟨v_n270, List.forall_mem_nil _⟩⟩⟩)) (z3Sb E0 rfl rfl rfl) (by kernel_rfl)
theorem c_n284 : z7b K0 z0b Tryd.f5 = true := by kernel_rfl
theorem k_n284 : (z5a z0b.body).all (fun p => ([(280, false), (281, false), (238, false), (268, false), (262, false), (267, false), (241, false), (271, false)] : List (Nat × Bool)).contains p) = true := by kernel_rfl
theorem v_n284 : z9e K0 284 z63a := z3a (K := K0) (f := 284) (F := z0b) Tryd.func5 c_n284 (z7f k_n284 (List.forall_mem_cons.2 ⟨v_n280, List.forall_mem_cons.2 ⟨v_n281, List.forall_mem_cons.2 ⟨v_n238, List.forall_mem_cons.2 ⟨v_n268, List.forall_mem_cons.2 ⟨v_n262, List.forall_mem_cons.2 ⟨v_n267, List.forall_mem_cons.2 ⟨v_n241, List.forall_mem_cons.2 ⟨v_n271, List.forall_mem_nil _⟩⟩⟩⟩⟩⟩⟩⟩)) (z34a E0 rfl rfl rfl rfl rfl rfl rfl rfl) (by kernel_rfl)
end Go.Abs.V0
