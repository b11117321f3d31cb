/- The translated functions are those that the lemmas speak of; so each meets its contract. -/
import Derived.Test.YtigghpdomoedhaaDoorRows
import Derived.Test.YtigghpdomoedhaaDoorA
import Derived.Test.YtigghpdomoedhaaDoorB
import Derived.Test.YtigghpdomoedhaaDoorC
import Derived.Test.YtigghpdomoedhaaDoorD
import Derived.Test.YtigghpdomoedhaaDoorT
import Derived.Test.YtigghpdomoedhaaDoorE
import Derived.Test.YtigghpdomoedhaaDoorF
import Derived.Test.YtigghpdomoedhaaDoorG
import Derived.Test.YtigghpdomoedhaaDoorK
import Derived.Test.YtigghpdomoedhaaDoorL
import Derived.Test.YtigghpdomoedhaaDoorM
import Derived.Test.YtigghpdomoedhaaDoorN
import Derived.Test.YtigghpdomoedhaaDoorO
import Derived.Test.YtigghpdomoedhaaDoorP
import Derived.Test.YtigghpdomoedhaaDoorQ
import Derived.Test.YtigghpdomoedhaaDoorR
import Derived.Test.YtigghpdomoedhaaDoorS
import Derived.Test.YtigghpdomoedhaaDoorU
import Derived.KernelRfl
set_option linter.unusedSimpArgs false
set_option linter.unusedVariables false
set_option linter.unusedSectionVars false
namespace Go.Abs.V0
open Go.Proofs
set_option maxRecDepth 100000
def nu : Nat → FuncId
  | 0 => 78
  | 1 => 79
  | 2 => 80
  | 3 => 76
  | 4 => 85
  | 5 => 77
  | 6 => 70
  | 7 => 69
  | 10 => 90
  | 11 => 91
  | 12 => 75
  | 13 => 92
  | 15 => 83
  | 18 => 72
  | 19 => 82
  | 24 => 86
  | 25 => 87
  | 26 => 88
  | 27 => 81
  | 29 => 84
  | 30 => 89
  | 75 => 34
  | 76 => 56
  | 77 => 73
  | 78 => 61
  | 81 => 39
  | 225 => 32
  | 226 => 33
  | 227 => 35
  | 228 => 36
  | 229 => 11
  | 230 => 26
  | 231 => 42
  | 232 => 62
  | 233 => 14
  | 234 => 18
  | 235 => 16
  | 236 => 45
  | 237 => 44
  | 238 => 21
  | 239 => 46
  | 240 => 47
  | 241 => 23
  | 242 => 52
  | 244 => 55
  | 245 => 54
  | 246 => 57
  | 247 => 58
  | 248 => 59
  | 249 => 63
  | 250 => 64
  | 251 => 65
  | 252 => 66
  | 253 => 67
  | 254 => 71
  | 255 => 68
  | 256 => 74
  | 257 => 37
  | 258 => 38
  | 259 => 40
  | 260 => 41
  | 261 => 12
  | 262 => 13
  | 263 => 43
  | 264 => 15
  | 267 => 20
  | 269 => 48
  | 270 => 49
  | 272 => 50
  | 273 => 51
  | 274 => 25
  | 275 => 28
  | 276 => 53
  | 277 => 29
  | 278 => 31
  | 279 => 60
  | 280 => 9
  | 281 => 10
  | 282 => 3
  | 288 => 30
  | _ => 0
def gnum : Nat → Nat
  | 0 => 2
  | 1 => 1
  | 5 => 0
  | _ => 0
def gG : Nat → Contract
  | 0 => beginC
  | 1 => addC
  | 2 => sumC
  | 3 => hsumC
  | 4 => comprC
  | 5 => mac1C
  | 6 => macC
  | 7 => bytesC
  | 10 => schedC
  | 11 => mixC
  | 12 => intC
  | 13 => rotC
  | 15 => rsumC
  | 18 => rmacC
  | 19 => text32C
  | 24 => paddedC
  | 25 => schedC
  | 26 => rotrC
  | 27 => padKC
  | 29 => rbytesC
  | 30 => rintC
  | 75 => nxtC
  | 76 => derC
  | 77 => inpC
  | 78 => derC
  | 81 => nxtC
  | 225 => kfailC
  | 226 => ckC
  | 227 => putCn
  | 228 => addCn
  | 229 => rotKC
  | 230 => getC
  | 233 => succC
  | 234 => linCn
  | 235 => newC
  | 238 => allC
  | 239 => liveC
  | 240 => hasC
  | 241 => dueC
  | 242 => finC
  | 244 => useC
  | 245 => subUC
  | 246 => okKC
  | 247 => cloKC
  | 248 => clipC
  | 251 => exiC
  | 252 => bseC
  | 253 => cmpK
  | 254 => withC
  | 255 => cmpC
  | 256 => nanC
  | 257 => fitC
  | 258 => getC
  | 259 => putCn
  | 260 => raddCn
  | 261 => rrotKC
  | 262 => samTC
  | 263 => sucC
  | 264 => succC
  | 267 => samLC
  | 269 => liveC
  | 270 => hasC
  | 272 => withC
  | 273 => okKC
  | 274 => valTC
  | 275 => subUC
  | 276 => exiC
  | 277 => useC
  | 278 => fewPC
  | 279 => atC
  | 280 => sanRC
  | 281 => lfewC
  | 282 => lawRK
  | 288 => valueC
  | _ => ⟨fun _ => False, fun _ => .undef⟩
def gM : Nat → CM
  | 231 => bkM
  | 236 => lnM
  | _ => ⟨[], [], fun _ => False, fun _ => .undef, fun _ _ => []⟩
def gC : Nat → CW
  | 237 => colW
  | 249 => apsW
  | _ => ⟨[], [], [], fun _ _ => False, fun _ _ => .undef, fun _ _ _ => []⟩
def gI : Nat → ItC
  | 232 => bkI
  | 250 => lnI
  | _ => ⟨fun _ _ => False, fun _ _ _ => none, []⟩
def gT : Nat → List AVal
  | 0 => w32s kc
  | 1 => w32s kc
  | 5 => rulsL byR
  | _ => []
def E0 : Env := { G := gG, T := gT, M := gM, I := gI, C := gC }
noncomputable def K0 : Cx := { P := Tryd.prog, nu := nu, globs := [], N := { gnum := gnum, gs := [0, 1, 5] }, E := E0 }
theorem i_n288 : iters f_custodylaw35_value.body = [] := by kernel_rfl
theorem c_n288 : chkFun K0 f_custodylaw35_value Tryd.f30 = true := by kernel_rfl
theorem k_n288 : (callees f_custodylaw35_value.body).all (fun p => ([] : List (Nat × Bool)).contains p) = true := by kernel_rfl
theorem v_n288 : Valid K0 288 valueC := fun_valid (K := K0) (f := 288) (F := f_custodylaw35_value) Tryd.func30 c_n288 (vb_of k_n288 (List.forall_mem_nil _)) (value_ok E0) (by rw [i_n288]; exact List.forall_mem_nil _) (by kernel_rfl) (by kernel_rfl)
theorem i_n256 : iters f_cmp_isNaN.body = [] := by kernel_rfl
theorem c_n256 : chkFun K0 f_cmp_isNaN Tryd.f74 = true := by kernel_rfl
theorem k_n256 : (callees f_cmp_isNaN.body).all (fun p => ([] : List (Nat × Bool)).contains p) = true := by kernel_rfl
theorem v_n256 : Valid K0 256 nanC := fun_valid (K := K0) (f := 256) (F := f_cmp_isNaN) Tryd.func74 c_n256 (vb_of k_n256 (List.forall_mem_nil _)) (nan_ok E0) (by rw [i_n256]; exact List.forall_mem_nil _) (by kernel_rfl) (by kernel_rfl)
theorem i_n255 : iters f_cmp_Compare.body = [] := by kernel_rfl
theorem c_n255 : chkFun K0 f_cmp_Compare Tryd.f68 = true := by kernel_rfl
theorem k_n255 : (callees f_cmp_Compare.body).all (fun p => ([(256, false)] : List (Nat × Bool)).contains p) = true := by kernel_rfl
theorem v_n255 : Valid K0 255 cmpC := fun_valid (K := K0) (f := 255) (F := f_cmp_Compare) Tryd.func68 c_n255 (vb_of k_n255 (List.forall_mem_cons.2 ⟨v_n256, List.forall_mem_nil _⟩)) (cmp_ok E0 rfl) (by rw [i_n255]; exact List.forall_mem_nil _) (by kernel_rfl) (by kernel_rfl)
theorem i_n253 : iters f_keys_find_1.body = [] := by kernel_rfl
theorem c_n253 : chkFun K0 f_keys_find_1 Tryd.f67 = true := by kernel_rfl
theorem k_n253 : (callees f_keys_find_1.body).all (fun p => ([(255, false)] : List (Nat × Bool)).contains p) = true := by kernel_rfl
theorem v_n253 : Valid K0 253 cmpK := fun_valid (K := K0) (f := 253) (F := f_keys_find_1) Tryd.func67 c_n253 (vb_of k_n253 (List.forall_mem_cons.2 ⟨v_n255, List.forall_mem_nil _⟩)) (cmpK_ok E0 rfl) (by rw [i_n253]; exact List.forall_mem_nil _) (by kernel_rfl) (by kernel_rfl)
theorem i_n252 : iters f_slices_BinarySearchFunc_keys_find_1.body = [] := by kernel_rfl
theorem c_n252 : chkFun K0 f_slices_BinarySearchFunc_keys_find_1 Tryd.f66 = true := by kernel_rfl
theorem k_n252 : (callees f_slices_BinarySearchFunc_keys_find_1.body).all (fun p => ([(253, false)] : List (Nat × Bool)).contains p) = true := by kernel_rfl
theorem v_n252 : Valid K0 252 bseC := fun_valid (K := K0) (f := 252) (F := f_slices_BinarySearchFunc_keys_find_1) Tryd.func66 c_n252 (vb_of k_n252 (List.forall_mem_cons.2 ⟨v_n253, List.forall_mem_nil _⟩)) (bse_ok E0 rfl) (by rw [i_n252]; exact List.forall_mem_nil _) (by kernel_rfl) (by kernel_rfl)
theorem i_n242 : iters f_keys_find.body = [] := by kernel_rfl
theorem c_n242 : chkFun K0 f_keys_find Tryd.f52 = true := by kernel_rfl
theorem k_n242 : (callees f_keys_find.body).all (fun p => ([(252, false)] : List (Nat × Bool)).contains p) = true := by kernel_rfl
theorem v_n242 : Valid K0 242 finC := fun_valid (K := K0) (f := 242) (F := f_keys_find) Tryd.func52 c_n242 (vb_of k_n242 (List.forall_mem_cons.2 ⟨v_n252, List.forall_mem_nil _⟩)) (find_ok E0 rfl) (by rw [i_n242]; exact List.forall_mem_nil _) (by kernel_rfl) (by kernel_rfl)
theorem i_n230 : iters f_keys_Get.body = [] := by kernel_rfl
theorem c_n230 : chkFun K0 f_keys_Get Tryd.f26 = true := by kernel_rfl
theorem k_n230 : (callees f_keys_Get.body).all (fun p => ([(242, false)] : List (Nat × Bool)).contains p) = true := by kernel_rfl
theorem v_n230 : Valid K0 230 getC := fun_valid (K := K0) (f := 230) (F := f_keys_Get) Tryd.func26 c_n230 (vb_of k_n230 (List.forall_mem_cons.2 ⟨v_n242, List.forall_mem_nil _⟩)) (get_ok E0 rfl) (by rw [i_n230]; exact List.forall_mem_nil _) (by kernel_rfl) (by kernel_rfl)
theorem c_n232 : chkIt K0 f_slices_Backward_1 Tryd.f62 = true := by kernel_rfl
theorem k_n232 : calleesI f_slices_Backward_1.body = [] := by kernel_rfl
theorem v_n232 : ValidIt K0 232 bkI := it_valid (K := K0) (f := 232) (F := f_slices_Backward_1) Tryd.func62 c_n232 (by rw [k_n232]; exact List.forall_mem_nil _) (bkI_ok E0)
theorem i_n231 : iters f_slices_Backward.body = [] := by kernel_rfl
theorem c_n231 : chkFun K0 f_slices_Backward Tryd.f42 = true := by kernel_rfl
theorem k_n231 : (callees f_slices_Backward.body).all (fun p => ([] : List (Nat × Bool)).contains p) = true := by kernel_rfl
theorem v_n231 : ValidM K0 231 bkM := fun_validM (K := K0) (f := 231) (F := f_slices_Backward) Tryd.func42 c_n231 (vb_of k_n231 (List.forall_mem_nil _)) (by decide) (bkM_ok E0) (by rw [i_n231]; exact List.forall_mem_nil _) (by kernel_rfl) (by kernel_rfl)
theorem i_n233 : iters f_rotate_Next.body = [232] := by kernel_rfl
theorem c_n233 : chkFun K0 f_rotate_Next Tryd.f14 = true := by kernel_rfl
theorem k_n233 : (callees f_rotate_Next.body).all (fun p => ([(230, false), (231, true)] : List (Nat × Bool)).contains p) = true := by kernel_rfl
theorem v_n233 : Valid K0 233 succC := fun_valid (K := K0) (f := 233) (F := f_rotate_Next) Tryd.func14 c_n233 (vb_of k_n233 (List.forall_mem_cons.2 ⟨v_n230, List.forall_mem_cons.2 ⟨v_n231, List.forall_mem_nil _⟩⟩)) (next_ok E0 rfl rfl rfl) (by rw [i_n233]; exact List.forall_mem_cons.2 ⟨v_n232, List.forall_mem_nil _⟩) (by kernel_rfl) (by kernel_rfl)
theorem i_n239 : iters f_keys_Live.body = [] := by kernel_rfl
theorem c_n239 : chkFun K0 f_keys_Live Tryd.f46 = true := by kernel_rfl
theorem k_n239 : (callees f_keys_Live.body).all (fun p => ([] : List (Nat × Bool)).contains p) = true := by kernel_rfl
theorem v_n239 : Valid K0 239 liveC := fun_valid (K := K0) (f := 239) (F := f_keys_Live) Tryd.func46 c_n239 (vb_of k_n239 (List.forall_mem_nil _)) (live_ok E0) (by rw [i_n239]; exact List.forall_mem_nil _) (by kernel_rfl) (by kernel_rfl)
theorem i_n251 : iters f_perm_exists.body = [] := by kernel_rfl
theorem c_n251 : chkFun K0 f_perm_exists Tryd.f65 = true := by kernel_rfl
theorem k_n251 : (callees f_perm_exists.body).all (fun p => ([] : List (Nat × Bool)).contains p) = true := by kernel_rfl
theorem v_n251 : Valid K0 251 exiC := fun_valid (K := K0) (f := 251) (F := f_perm_exists) Tryd.func65 c_n251 (vb_of k_n251 (List.forall_mem_nil _)) (exists_ok E0) (by rw [i_n251]; exact List.forall_mem_nil _) (by kernel_rfl) (by kernel_rfl)
theorem i_n245 : iters f_perm_Subset.body = [] := by kernel_rfl
theorem c_n245 : chkFun K0 f_perm_Subset Tryd.f54 = true := by kernel_rfl
theorem k_n245 : (callees f_perm_Subset.body).all (fun p => ([] : List (Nat × Bool)).contains p) = true := by kernel_rfl
theorem v_n245 : Valid K0 245 subUC := fun_valid (K := K0) (f := 245) (F := f_perm_Subset) Tryd.func54 c_n245 (vb_of k_n245 (List.forall_mem_nil _)) (subset_ok E0) (by rw [i_n245]; exact List.forall_mem_nil _) (by kernel_rfl) (by kernel_rfl)
theorem i_n240 : iters f_perm_Has.body = [] := by kernel_rfl
theorem c_n240 : chkFun K0 f_perm_Has Tryd.f47 = true := by kernel_rfl
theorem k_n240 : (callees f_perm_Has.body).all (fun p => ([(251, false), (245, false)] : List (Nat × Bool)).contains p) = true := by kernel_rfl
theorem v_n240 : Valid K0 240 hasC := fun_valid (K := K0) (f := 240) (F := f_perm_Has) Tryd.func47 c_n240 (vb_of k_n240 (List.forall_mem_cons.2 ⟨v_n251, List.forall_mem_cons.2 ⟨v_n245, List.forall_mem_nil _⟩⟩)) (has_ok E0 rfl rfl) (by rw [i_n240]; exact List.forall_mem_nil _) (by kernel_rfl) (by kernel_rfl)
theorem i_n244 : iters f_perm_Uses.body = [] := by kernel_rfl
theorem c_n244 : chkFun K0 f_perm_Uses Tryd.f55 = true := by kernel_rfl
theorem k_n244 : (callees f_perm_Uses.body).all (fun p => ([(251, false)] : List (Nat × Bool)).contains p) = true := by kernel_rfl
theorem v_n244 : Valid K0 244 useC := fun_valid (K := K0) (f := 244) (F := f_perm_Uses) Tryd.func55 c_n244 (vb_of k_n244 (List.forall_mem_cons.2 ⟨v_n251, List.forall_mem_nil _⟩)) (uses_ok E0 rfl rfl) (by rw [i_n244]; exact List.forall_mem_nil _) (by kernel_rfl) (by kernel_rfl)
theorem i_n226 : iters f_rotate_check.body = [] := by kernel_rfl
theorem c_n226 : chkFun K0 f_rotate_check Tryd.f33 = true := by kernel_rfl
theorem k_n226 : (callees f_rotate_check.body).all (fun p => ([(230, false), (233, false), (239, false), (240, false), (244, false), (245, false)] : List (Nat × Bool)).contains p) = true := by kernel_rfl
theorem v_n226 : Valid K0 226 ckC := fun_valid (K := K0) (f := 226) (F := f_rotate_check) Tryd.func33 c_n226 (vb_of k_n226 (List.forall_mem_cons.2 ⟨v_n230, List.forall_mem_cons.2 ⟨v_n233, List.forall_mem_cons.2 ⟨v_n239, List.forall_mem_cons.2 ⟨v_n240, List.forall_mem_cons.2 ⟨v_n244, List.forall_mem_cons.2 ⟨v_n245, List.forall_mem_nil _⟩⟩⟩⟩⟩⟩)) (check_ok E0 rfl rfl rfl rfl rfl rfl) (by rw [i_n226]; exact List.forall_mem_nil _) (by kernel_rfl) (by kernel_rfl)
theorem i_n225 : iters f_rotate_Key_1.body = [] := by kernel_rfl
theorem c_n225 : chkFun K0 f_rotate_Key_1 Tryd.f32 = true := by kernel_rfl
theorem k_n225 : (callees f_rotate_Key_1.body).all (fun p => ([] : List (Nat × Bool)).contains p) = true := by kernel_rfl
theorem v_n225 : Valid K0 225 kfailC := fun_valid (K := K0) (f := 225) (F := f_rotate_Key_1) Tryd.func32 c_n225 (vb_of k_n225 (List.forall_mem_nil _)) (kfail_ok E0) (by rw [i_n225]; exact List.forall_mem_nil _) (by kernel_rfl) (by kernel_rfl)
theorem i_n12 : iters f_wire_Int.body = [] := by kernel_rfl
theorem c_n12 : chkFun K0 f_wire_Int Tryd.f75 = true := by kernel_rfl
theorem k_n12 : (callees f_wire_Int.body).all (fun p => ([] : List (Nat × Bool)).contains p) = true := by kernel_rfl
theorem v_n12 : Valid K0 12 intC := fun_valid (K := K0) (f := 12) (F := f_wire_Int) Tryd.func75 c_n12 (vb_of k_n12 (List.forall_mem_nil _)) (int_ok E0) (by rw [i_n12]; exact List.forall_mem_nil _) (by kernel_rfl) (by kernel_rfl)
theorem i_n7 : iters f_wire_Bytes.body = [] := by kernel_rfl
theorem c_n7 : chkFun K0 f_wire_Bytes Tryd.f69 = true := by kernel_rfl
theorem k_n7 : (callees f_wire_Bytes.body).all (fun p => ([(12, false)] : List (Nat × Bool)).contains p) = true := by kernel_rfl
theorem v_n7 : Valid K0 7 bytesC := fun_valid (K := K0) (f := 7) (F := f_wire_Bytes) Tryd.func69 c_n7 (vb_of k_n7 (List.forall_mem_cons.2 ⟨v_n12, List.forall_mem_nil _⟩)) (bytes_ok E0 rfl) (by rw [i_n7]; exact List.forall_mem_nil _) (by kernel_rfl) (by kernel_rfl)
theorem i_n0 : iters f_hash_Begin.body = [] := by kernel_rfl
theorem c_n0 : chkFun K0 f_hash_Begin Tryd.f78 = true := by kernel_rfl
theorem k_n0 : (callees f_hash_Begin.body).all (fun p => ([] : List (Nat × Bool)).contains p) = true := by kernel_rfl
theorem v_n0 : Valid K0 0 beginC := fun_valid (K := K0) (f := 0) (F := f_hash_Begin) Tryd.func78 c_n0 (vb_of k_n0 (List.forall_mem_nil _)) (begin_ok E0) (by rw [i_n0]; exact List.forall_mem_nil _) (by kernel_rfl) (by kernel_rfl)
theorem i_n13 : iters f_bits_RotateLeft32.body = [] := by kernel_rfl
theorem c_n13 : chkFun K0 f_bits_RotateLeft32 Tryd.f92 = true := by kernel_rfl
theorem k_n13 : (callees f_bits_RotateLeft32.body).all (fun p => ([] : List (Nat × Bool)).contains p) = true := by kernel_rfl
theorem v_n13 : Valid K0 13 rotC := fun_valid (K := K0) (f := 13) (F := f_bits_RotateLeft32) Tryd.func92 c_n13 (vb_of k_n13 (List.forall_mem_nil _)) (hrot_ok E0) (by rw [i_n13]; exact List.forall_mem_nil _) (by kernel_rfl) (by kernel_rfl)
theorem i_n10 : iters f_hash_schedule.body = [] := by kernel_rfl
theorem c_n10 : chkFun K0 f_hash_schedule Tryd.f90 = true := by kernel_rfl
theorem k_n10 : (callees f_hash_schedule.body).all (fun p => ([(13, false)] : List (Nat × Bool)).contains p) = true := by kernel_rfl
theorem v_n10 : Valid K0 10 schedC := fun_valid (K := K0) (f := 10) (F := f_hash_schedule) Tryd.func90 c_n10 (vb_of k_n10 (List.forall_mem_cons.2 ⟨v_n13, List.forall_mem_nil _⟩)) (sched_ok E0 rfl) (by rw [i_n10]; exact List.forall_mem_nil _) (by kernel_rfl) (by kernel_rfl)
theorem i_n11 : iters f_hash_mix.body = [] := by kernel_rfl
theorem c_n11 : chkFun K0 f_hash_mix Tryd.f91 = true := by kernel_rfl
theorem k_n11 : (callees f_hash_mix.body).all (fun p => ([(13, false)] : List (Nat × Bool)).contains p) = true := by kernel_rfl
theorem v_n11 : Valid K0 11 mixC := fun_valid (K := K0) (f := 11) (F := f_hash_mix) Tryd.func91 c_n11 (vb_of k_n11 (List.forall_mem_cons.2 ⟨v_n13, List.forall_mem_nil _⟩)) (mix_ok E0 rfl) (by rw [i_n11]; exact List.forall_mem_nil _) (by kernel_rfl) (by kernel_rfl)
theorem i_n4 : iters f_hash_compress.body = [] := by kernel_rfl
theorem c_n4 : chkFun K0 f_hash_compress Tryd.f85 = true := by kernel_rfl
theorem k_n4 : (callees f_hash_compress.body).all (fun p => ([(10, false), (11, false)] : List (Nat × Bool)).contains p) = true := by kernel_rfl
theorem v_n4 : Valid K0 4 comprC := fun_valid (K := K0) (f := 4) (F := f_hash_compress) Tryd.func85 c_n4 (vb_of k_n4 (List.forall_mem_cons.2 ⟨v_n10, List.forall_mem_cons.2 ⟨v_n11, List.forall_mem_nil _⟩⟩)) (compr_ok E0 rfl rfl rfl) (by rw [i_n4]; exact List.forall_mem_nil _) (by kernel_rfl) (by kernel_rfl)
theorem i_n1 : iters f_hash_Stream_Add.body = [] := by kernel_rfl
theorem c_n1 : chkFun K0 f_hash_Stream_Add Tryd.f79 = true := by kernel_rfl
theorem k_n1 : (callees f_hash_Stream_Add.body).all (fun p => ([(4, false)] : List (Nat × Bool)).contains p) = true := by kernel_rfl
theorem v_n1 : Valid K0 1 addC := fun_valid (K := K0) (f := 1) (F := f_hash_Stream_Add) Tryd.func79 c_n1 (vb_of k_n1 (List.forall_mem_cons.2 ⟨v_n4, List.forall_mem_nil _⟩)) (hadd_ok E0 rfl) (by rw [i_n1]; exact List.forall_mem_nil _) (by kernel_rfl) (by kernel_rfl)
theorem i_n2 : iters f_hash_Stream_Sum.body = [] := by kernel_rfl
theorem c_n2 : chkFun K0 f_hash_Stream_Sum Tryd.f80 = true := by kernel_rfl
theorem k_n2 : (callees f_hash_Stream_Sum.body).all (fun p => ([(1, false)] : List (Nat × Bool)).contains p) = true := by kernel_rfl
theorem v_n2 : Valid K0 2 sumC := fun_valid (K := K0) (f := 2) (F := f_hash_Stream_Sum) Tryd.func80 c_n2 (vb_of k_n2 (List.forall_mem_cons.2 ⟨v_n1, List.forall_mem_nil _⟩)) (sum_ok E0 rfl) (by rw [i_n2]; exact List.forall_mem_nil _) (by kernel_rfl) (by kernel_rfl)
theorem i_n3 : iters f_hash_Sum.body = [] := by kernel_rfl
theorem c_n3 : chkFun K0 f_hash_Sum Tryd.f76 = true := by kernel_rfl
theorem k_n3 : (callees f_hash_Sum.body).all (fun p => ([(0, false), (1, false), (2, false)] : List (Nat × Bool)).contains p) = true := by kernel_rfl
theorem v_n3 : Valid K0 3 hsumC := fun_valid (K := K0) (f := 3) (F := f_hash_Sum) Tryd.func76 c_n3 (vb_of k_n3 (List.forall_mem_cons.2 ⟨v_n0, List.forall_mem_cons.2 ⟨v_n1, List.forall_mem_cons.2 ⟨v_n2, List.forall_mem_nil _⟩⟩⟩)) (hsum_ok E0 rfl rfl rfl) (by rw [i_n3]; exact List.forall_mem_nil _) (by kernel_rfl) (by kernel_rfl)
theorem i_n5 : iters f_hash_Mac_1.body = [] := by kernel_rfl
theorem c_n5 : chkFun K0 f_hash_Mac_1 Tryd.f77 = true := by kernel_rfl
theorem k_n5 : (callees f_hash_Mac_1.body).all (fun p => ([] : List (Nat × Bool)).contains p) = true := by kernel_rfl
theorem v_n5 : Valid K0 5 mac1C := fun_valid (K := K0) (f := 5) (F := f_hash_Mac_1) Tryd.func77 c_n5 (vb_of k_n5 (List.forall_mem_nil _)) (mac1_ok E0) (by rw [i_n5]; exact List.forall_mem_nil _) (by kernel_rfl) (by kernel_rfl)
theorem i_n6 : iters f_hash_Mac.body = [] := by kernel_rfl
theorem c_n6 : chkFun K0 f_hash_Mac Tryd.f70 = true := by kernel_rfl
theorem k_n6 : (callees f_hash_Mac.body).all (fun p => ([(3, false), (0, false), (5, false), (1, false), (2, false)] : List (Nat × Bool)).contains p) = true := by kernel_rfl
theorem v_n6 : Valid K0 6 macC := fun_valid (K := K0) (f := 6) (F := f_hash_Mac) Tryd.func70 c_n6 (vb_of k_n6 (List.forall_mem_cons.2 ⟨v_n3, List.forall_mem_cons.2 ⟨v_n0, List.forall_mem_cons.2 ⟨v_n5, List.forall_mem_cons.2 ⟨v_n1, List.forall_mem_cons.2 ⟨v_n2, List.forall_mem_nil _⟩⟩⟩⟩⟩)) (mac_ok E0 rfl rfl rfl rfl rfl) (by rw [i_n6]; exact List.forall_mem_nil _) (by kernel_rfl) (by kernel_rfl)
theorem i_n76 : iters f_kdf_Derive.body = [] := by kernel_rfl
theorem c_n76 : chkFun K0 f_kdf_Derive Tryd.f56 = true := by kernel_rfl
theorem k_n76 : (callees f_kdf_Derive.body).all (fun p => ([(7, false), (6, false)] : List (Nat × Bool)).contains p) = true := by kernel_rfl
theorem v_n76 : Valid K0 76 derC := fun_valid (K := K0) (f := 76) (F := f_kdf_Derive) Tryd.func56 c_n76 (vb_of k_n76 (List.forall_mem_cons.2 ⟨v_n7, List.forall_mem_cons.2 ⟨v_n6, List.forall_mem_nil _⟩⟩)) (der_ok E0 rfl rfl) (by rw [i_n76]; exact List.forall_mem_nil _) (by kernel_rfl) (by kernel_rfl)
theorem i_n75 : iters f_kdf_Random_Next.body = [] := by kernel_rfl
theorem c_n75 : chkFun K0 f_kdf_Random_Next Tryd.f34 = true := by kernel_rfl
theorem k_n75 : (callees f_kdf_Random_Next.body).all (fun p => ([(76, false)] : List (Nat × Bool)).contains p) = true := by kernel_rfl
theorem v_n75 : Valid K0 75 nxtC := fun_valid (K := K0) (f := 75) (F := f_kdf_Random_Next) Tryd.func34 c_n75 (vb_of k_n75 (List.forall_mem_cons.2 ⟨v_n76, List.forall_mem_nil _⟩)) (nxt_ok E0 rfl) (by rw [i_n75]; exact List.forall_mem_nil _) (by kernel_rfl) (by kernel_rfl)
theorem i_n254 : iters f_keys_within.body = [] := by kernel_rfl
theorem c_n254 : chkFun K0 f_keys_within Tryd.f71 = true := by kernel_rfl
theorem k_n254 : (callees f_keys_within.body).all (fun p => ([] : List (Nat × Bool)).contains p) = true := by kernel_rfl
theorem v_n254 : Valid K0 254 withC := fun_valid (K := K0) (f := 254) (F := f_keys_within) Tryd.func71 c_n254 (vb_of k_n254 (List.forall_mem_nil _)) (within_ok E0) (by rw [i_n254]; exact List.forall_mem_nil _) (by kernel_rfl) (by kernel_rfl)
theorem i_n246 : iters f_keys_Valid.body = [] := by kernel_rfl
theorem c_n246 : chkFun K0 f_keys_Valid Tryd.f57 = true := by kernel_rfl
theorem k_n246 : (callees f_keys_Valid.body).all (fun p => ([(254, false)] : List (Nat × Bool)).contains p) = true := by kernel_rfl
theorem v_n246 : Valid K0 246 okKC := fun_valid (K := K0) (f := 246) (F := f_keys_Valid) Tryd.func57 c_n246 (vb_of k_n246 (List.forall_mem_cons.2 ⟨v_n254, List.forall_mem_nil _⟩)) (valid_ok E0 rfl) (by rw [i_n246]; exact List.forall_mem_nil _) (by kernel_rfl) (by kernel_rfl)
theorem i_n247 : iters f_slices_Clone.body = [] := by kernel_rfl
theorem c_n247 : chkFun K0 f_slices_Clone Tryd.f58 = true := by kernel_rfl
theorem k_n247 : (callees f_slices_Clone.body).all (fun p => ([] : List (Nat × Bool)).contains p) = true := by kernel_rfl
theorem v_n247 : Valid K0 247 cloKC := valid_nil 0 (fun_valid (K := K0) (f := 247) (F := f_slices_Clone) (c := cloKN) Tryd.func58 c_n247 (vb_of k_n247 (List.forall_mem_nil _)) (cloK_ok E0) (by rw [i_n247]; exact List.forall_mem_nil _) (by kernel_rfl) (by kernel_rfl)) cloK_nil
theorem i_n227 : iters f_keys_Put.body = [] := by kernel_rfl
theorem c_n227 : chkFun K0 f_keys_Put Tryd.f35 = true := by kernel_rfl
theorem k_n227 : (callees f_keys_Put.body).all (fun p => ([(246, false), (242, false), (247, false)] : List (Nat × Bool)).contains p) = true := by kernel_rfl
theorem v_n227 : Valid K0 227 putCn := fun_valid (K := K0) (f := 227) (F := f_keys_Put) Tryd.func35 c_n227 (vb_of k_n227 (List.forall_mem_cons.2 ⟨v_n246, List.forall_mem_cons.2 ⟨v_n242, List.forall_mem_cons.2 ⟨v_n247, List.forall_mem_nil _⟩⟩⟩)) (put_ok E0 rfl rfl rfl) (by rw [i_n227]; exact List.forall_mem_nil _) (by kernel_rfl) (by kernel_rfl)
theorem i_n248 : iters f_slices_Clip.body = [] := by kernel_rfl
theorem c_n248 : chkFun K0 f_slices_Clip Tryd.f59 = true := by kernel_rfl
theorem k_n248 : (callees f_slices_Clip.body).all (fun p => ([] : List (Nat × Bool)).contains p) = true := by kernel_rfl
theorem v_n248 : Valid K0 248 clipC := fun_valid (K := K0) (f := 248) (F := f_slices_Clip) Tryd.func59 c_n248 (vb_of k_n248 (List.forall_mem_nil _)) (clip_ok E0) (by rw [i_n248]; exact List.forall_mem_nil _) (by kernel_rfl) (by kernel_rfl)
theorem i_n228 : iters f_keys_Add.body = [] := by kernel_rfl
theorem c_n228 : chkFun K0 f_keys_Add Tryd.f36 = true := by kernel_rfl
theorem k_n228 : (callees f_keys_Add.body).all (fun p => ([(246, false), (248, false)] : List (Nat × Bool)).contains p) = true := by kernel_rfl
theorem v_n228 : Valid K0 228 addCn := fun_valid (K := K0) (f := 228) (F := f_keys_Add) Tryd.func36 c_n228 (vb_of k_n228 (List.forall_mem_cons.2 ⟨v_n246, List.forall_mem_cons.2 ⟨v_n248, List.forall_mem_nil _⟩⟩)) (add_ok E0 rfl rfl) (by rw [i_n228]; exact List.forall_mem_nil _) (by kernel_rfl) (by kernel_rfl)
theorem i_n229 : iters f_rotate_Key.body = [] := by kernel_rfl
theorem c_n229 : chkFun K0 f_rotate_Key Tryd.f11 = true := by kernel_rfl
theorem k_n229 : (callees f_rotate_Key.body).all (fun p => ([(226, false), (225, false), (75, false), (227, false), (228, false)] : List (Nat × Bool)).contains p) = true := by kernel_rfl
theorem v_n229 : Valid K0 229 rotKC := fun_valid (K := K0) (f := 229) (F := f_rotate_Key) Tryd.func11 c_n229 (vb_of k_n229 (List.forall_mem_cons.2 ⟨v_n226, List.forall_mem_cons.2 ⟨v_n225, List.forall_mem_cons.2 ⟨v_n75, List.forall_mem_cons.2 ⟨v_n227, List.forall_mem_cons.2 ⟨v_n228, List.forall_mem_nil _⟩⟩⟩⟩⟩)) (key_ok E0 rfl rfl rfl rfl rfl) (by rw [i_n229]; exact List.forall_mem_nil _) (by kernel_rfl) (by kernel_rfl)
theorem c_n250 : chkIt K0 f_rotate_line_1 Tryd.f64 = true := by kernel_rfl
theorem k_n250 : calleesI f_rotate_line_1.body = [(233, false)] := by kernel_rfl
theorem v_n250 : ValidIt K0 250 lnI := it_valid (K := K0) (f := 250) (F := f_rotate_line_1) Tryd.func64 c_n250 (by rw [k_n250]; exact List.forall_mem_cons.2 ⟨v_n233, List.forall_mem_nil _⟩) (lnI_ok E0 rfl)
theorem i_n236 : iters f_rotate_line.body = [] := by kernel_rfl
theorem c_n236 : chkFun K0 f_rotate_line Tryd.f45 = true := by kernel_rfl
theorem k_n236 : (callees f_rotate_line.body).all (fun p => ([] : List (Nat × Bool)).contains p) = true := by kernel_rfl
theorem v_n236 : ValidM K0 236 lnM := fun_validM (K := K0) (f := 236) (F := f_rotate_line) Tryd.func45 c_n236 (vb_of k_n236 (List.forall_mem_nil _)) (by decide) (lnM_ok E0) (by rw [i_n236]; exact List.forall_mem_nil _) (by kernel_rfl) (by kernel_rfl)
theorem i_n249 : iters f_slices_AppendSeq.body = [250] := by kernel_rfl
theorem c_n249 : chkFun K0 f_slices_AppendSeq Tryd.f63 = true := by kernel_rfl
theorem k_n249 : (callees f_slices_AppendSeq.body).all (fun p => ([] : List (Nat × Bool)).contains p) = true := by kernel_rfl
theorem v_n249 : ValidW K0 249 apsW := fun_validW (K := K0) (f := 249) (F := f_slices_AppendSeq) Tryd.func63 c_n249 (vb_of k_n249 (List.forall_mem_nil _)) (aps_ok E0 rfl) (by rw [i_n249]; exact List.forall_mem_cons.2 ⟨v_n250, List.forall_mem_nil _⟩) (by kernel_rfl) (by kernel_rfl)
theorem i_n237 : iters f_slices_Collect.body = [] := by kernel_rfl
theorem c_n237 : chkFun K0 f_slices_Collect Tryd.f44 = true := by kernel_rfl
theorem k_n237 : (callees f_slices_Collect.body).all (fun p => ([(500000249, true)] : List (Nat × Bool)).contains p) = true := by kernel_rfl
theorem v_n237 : ValidW K0 237 colW := fun_validW (K := K0) (f := 237) (F := f_slices_Collect) Tryd.func44 c_n237 (vb_of k_n237 (List.forall_mem_cons.2 ⟨v_n249, List.forall_mem_nil _⟩)) (col_ok E0 rfl) (by rw [i_n237]; exact List.forall_mem_nil _) (by kernel_rfl) (by kernel_rfl)
theorem i_n234 : iters f_rotate_Line.body = [] := by kernel_rfl
theorem c_n234 : chkFun K0 f_rotate_Line Tryd.f18 = true := by kernel_rfl
theorem k_n234 : (callees f_rotate_Line.body).all (fun p => ([(230, false), (236, true), (500000237, true)] : List (Nat × Bool)).contains p) = true := by kernel_rfl
theorem v_n234 : Valid K0 234 linCn := fun_valid (K := K0) (f := 234) (F := f_rotate_Line) Tryd.func18 c_n234 (vb_of k_n234 (List.forall_mem_cons.2 ⟨v_n230, List.forall_mem_cons.2 ⟨v_n236, List.forall_mem_cons.2 ⟨v_n237, List.forall_mem_nil _⟩⟩⟩)) (line_ok E0 rfl rfl rfl) (by rw [i_n234]; exact List.forall_mem_nil _) (by kernel_rfl) (by kernel_rfl)
theorem i_n235 : iters f_rotate_Newest.body = [] := by kernel_rfl
theorem c_n235 : chkFun K0 f_rotate_Newest Tryd.f16 = true := by kernel_rfl
theorem k_n235 : (callees f_rotate_Newest.body).all (fun p => ([(234, false)] : List (Nat × Bool)).contains p) = true := by kernel_rfl
theorem v_n235 : Valid K0 235 newC := fun_valid (K := K0) (f := 235) (F := f_rotate_Newest) Tryd.func16 c_n235 (vb_of k_n235 (List.forall_mem_cons.2 ⟨v_n234, List.forall_mem_nil _⟩)) (newest_ok E0 rfl) (by rw [i_n235]; exact List.forall_mem_nil _) (by kernel_rfl) (by kernel_rfl)
theorem i_n238 : iters f_rotate_All.body = [] := by kernel_rfl
theorem c_n238 : chkFun K0 f_rotate_All Tryd.f21 = true := by kernel_rfl
theorem k_n238 : (callees f_rotate_All.body).all (fun p => ([(229, false)] : List (Nat × Bool)).contains p) = true := by kernel_rfl
theorem v_n238 : Valid K0 238 allC := fun_valid (K := K0) (f := 238) (F := f_rotate_All) Tryd.func21 c_n238 (vb_of k_n238 (List.forall_mem_cons.2 ⟨v_n229, List.forall_mem_nil _⟩)) (all_ok E0 rfl) (by rw [i_n238]; exact List.forall_mem_nil _) (by kernel_rfl) (by kernel_rfl)
theorem i_n241 : iters f_rotate_Due.body = [] := by kernel_rfl
theorem c_n241 : chkFun K0 f_rotate_Due Tryd.f23 = true := by kernel_rfl
theorem k_n241 : (callees f_rotate_Due.body).all (fun p => ([(233, false), (239, false), (240, false)] : List (Nat × Bool)).contains p) = true := by kernel_rfl
theorem v_n241 : Valid K0 241 dueC := fun_valid (K := K0) (f := 241) (F := f_rotate_Due) Tryd.func23 c_n241 (vb_of k_n241 (List.forall_mem_cons.2 ⟨v_n233, List.forall_mem_cons.2 ⟨v_n239, List.forall_mem_cons.2 ⟨v_n240, List.forall_mem_nil _⟩⟩⟩)) (due_ok E0 rfl rfl rfl) (by rw [i_n241]; exact List.forall_mem_nil _) (by kernel_rfl) (by kernel_rfl)
theorem i_n267 : iters f_custodyref14_Same.body = [] := by kernel_rfl
theorem c_n267 : chkFun K0 f_custodyref14_Same Tryd.f20 = true := by kernel_rfl
theorem k_n267 : (callees f_custodyref14_Same.body).all (fun p => ([] : List (Nat × Bool)).contains p) = true := by kernel_rfl
theorem v_n267 : Valid K0 267 samLC := fun_valid (K := K0) (f := 267) (F := f_custodyref14_Same) Tryd.func20 c_n267 (vb_of k_n267 (List.forall_mem_nil _)) (samL_ok E0) (by rw [i_n267]; exact List.forall_mem_nil _) (by kernel_rfl) (by kernel_rfl)
theorem i_n280 : iters f_custodylaw35_sanity.body = [] := by kernel_rfl
theorem c_n280 : chkFun K0 f_custodylaw35_sanity Tryd.f9 = true := by kernel_rfl
theorem k_n280 : (callees f_custodylaw35_sanity.body).all (fun p => ([(288, false), (229, false), (233, false), (235, false), (234, false), (238, false), (241, false), (267, false)] : List (Nat × Bool)).contains p) = true := by kernel_rfl
theorem v_n280 : Valid K0 280 sanRC := fun_valid (K := K0) (f := 280) (F := f_custodylaw35_sanity) Tryd.func9 c_n280 (vb_of k_n280 (List.forall_mem_cons.2 ⟨v_n288, List.forall_mem_cons.2 ⟨v_n229, List.forall_mem_cons.2 ⟨v_n233, List.forall_mem_cons.2 ⟨v_n235, List.forall_mem_cons.2 ⟨v_n234, List.forall_mem_cons.2 ⟨v_n238, List.forall_mem_cons.2 ⟨v_n241, List.forall_mem_cons.2 ⟨v_n267, List.forall_mem_nil _⟩⟩⟩⟩⟩⟩⟩⟩)) (sanR_ok E0 rfl rfl rfl rfl rfl rfl rfl rfl) (by rw [i_n280]; exact List.forall_mem_nil _) (by kernel_rfl) (by kernel_rfl)
theorem i_n278 : iters f_custodyref14_Few.body = [] := by kernel_rfl
theorem c_n278 : chkFun K0 f_custodyref14_Few Tryd.f31 = true := by kernel_rfl
theorem k_n278 : (callees f_custodyref14_Few.body).all (fun p => ([] : List (Nat × Bool)).contains p) = true := by kernel_rfl
theorem v_n278 : Valid K0 278 fewPC := fun_valid (K := K0) (f := 278) (F := f_custodyref14_Few) Tryd.func31 c_n278 (vb_of k_n278 (List.forall_mem_nil _)) (fewP_ok E0) (by rw [i_n278]; exact List.forall_mem_nil _) (by kernel_rfl) (by kernel_rfl)
theorem i_n272 : iters f_custodyref27_within.body = [] := by kernel_rfl
theorem c_n272 : chkFun K0 f_custodyref27_within Tryd.f50 = true := by kernel_rfl
theorem k_n272 : (callees f_custodyref27_within.body).all (fun p => ([] : List (Nat × Bool)).contains p) = true := by kernel_rfl
theorem v_n272 : Valid K0 272 withC := fun_valid (K := K0) (f := 272) (F := f_custodyref27_within) Tryd.func50 c_n272 (vb_of k_n272 (List.forall_mem_nil _)) (rwithin_ok E0) (by rw [i_n272]; exact List.forall_mem_nil _) (by kernel_rfl) (by kernel_rfl)
theorem i_n273 : iters f_custodyref27_Valid.body = [] := by kernel_rfl
theorem c_n273 : chkFun K0 f_custodyref27_Valid Tryd.f51 = true := by kernel_rfl
theorem k_n273 : (callees f_custodyref27_Valid.body).all (fun p => ([(272, false)] : List (Nat × Bool)).contains p) = true := by kernel_rfl
theorem v_n273 : Valid K0 273 okKC := fun_valid (K := K0) (f := 273) (F := f_custodyref27_Valid) Tryd.func51 c_n273 (vb_of k_n273 (List.forall_mem_cons.2 ⟨v_n272, List.forall_mem_nil _⟩)) (rvalid_ok E0 rfl) (by rw [i_n273]; exact List.forall_mem_nil _) (by kernel_rfl) (by kernel_rfl)
theorem i_n274 : iters f_custodyref27_ValidTable.body = [] := by kernel_rfl
theorem c_n274 : chkFun K0 f_custodyref27_ValidTable Tryd.f25 = true := by kernel_rfl
theorem k_n274 : (callees f_custodyref27_ValidTable.body).all (fun p => ([(272, false), (273, false)] : List (Nat × Bool)).contains p) = true := by kernel_rfl
theorem v_n274 : Valid K0 274 valTC := fun_valid (K := K0) (f := 274) (F := f_custodyref27_ValidTable) Tryd.func25 c_n274 (vb_of k_n274 (List.forall_mem_cons.2 ⟨v_n272, List.forall_mem_cons.2 ⟨v_n273, List.forall_mem_nil _⟩⟩)) (valT_ok E0 rfl rfl) (by rw [i_n274]; exact List.forall_mem_nil _) (by kernel_rfl) (by kernel_rfl)
theorem i_n281 : iters f_custodylaw35_few.body = [] := by kernel_rfl
theorem c_n281 : chkFun K0 f_custodylaw35_few Tryd.f10 = true := by kernel_rfl
theorem k_n281 : (callees f_custodylaw35_few.body).all (fun p => ([(278, false), (274, false)] : List (Nat × Bool)).contains p) = true := by kernel_rfl
theorem v_n281 : Valid K0 281 lfewC := fun_valid (K := K0) (f := 281) (F := f_custodylaw35_few) Tryd.func10 c_n281 (vb_of k_n281 (List.forall_mem_cons.2 ⟨v_n278, List.forall_mem_cons.2 ⟨v_n274, List.forall_mem_nil _⟩⟩)) (lfew_ok E0 rfl rfl) (by rw [i_n281]; exact List.forall_mem_nil _) (by kernel_rfl) (by kernel_rfl)
theorem i_n279 : iters f_custodyref27_at.body = [] := by kernel_rfl
theorem c_n279 : chkFun K0 f_custodyref27_at Tryd.f60 = true := by kernel_rfl
theorem k_n279 : (callees f_custodyref27_at.body).all (fun p => ([] : List (Nat × Bool)).contains p) = true := by kernel_rfl
theorem v_n279 : Valid K0 279 atC := fun_valid (K := K0) (f := 279) (F := f_custodyref27_at) Tryd.func60 c_n279 (vb_of k_n279 (List.forall_mem_nil _)) (at_ok E0) (by rw [i_n279]; exact List.forall_mem_nil _) (by kernel_rfl) (by kernel_rfl)
theorem i_n258 : iters f_custodyref27_Get.body = [] := by kernel_rfl
theorem c_n258 : chkFun K0 f_custodyref27_Get Tryd.f38 = true := by kernel_rfl
theorem k_n258 : (callees f_custodyref27_Get.body).all (fun p => ([(279, false)] : List (Nat × Bool)).contains p) = true := by kernel_rfl
theorem v_n258 : Valid K0 258 getC := fun_valid (K := K0) (f := 258) (F := f_custodyref27_Get) Tryd.func38 c_n258 (vb_of k_n258 (List.forall_mem_cons.2 ⟨v_n279, List.forall_mem_nil _⟩)) (rget_ok E0 rfl) (by rw [i_n258]; exact List.forall_mem_nil _) (by kernel_rfl) (by kernel_rfl)
theorem i_n269 : iters f_custodyref27_Live.body = [] := by kernel_rfl
theorem c_n269 : chkFun K0 f_custodyref27_Live Tryd.f48 = true := by kernel_rfl
theorem k_n269 : (callees f_custodyref27_Live.body).all (fun p => ([] : List (Nat × Bool)).contains p) = true := by kernel_rfl
theorem v_n269 : Valid K0 269 liveC := fun_valid (K := K0) (f := 269) (F := f_custodyref27_Live) Tryd.func48 c_n269 (vb_of k_n269 (List.forall_mem_nil _)) (rlive_ok E0) (by rw [i_n269]; exact List.forall_mem_nil _) (by kernel_rfl) (by kernel_rfl)
theorem i_n263 : iters f_custodyref35_successor.body = [] := by kernel_rfl
theorem c_n263 : chkFun K0 f_custodyref35_successor Tryd.f43 = true := by kernel_rfl
theorem k_n263 : (callees f_custodyref35_successor.body).all (fun p => ([] : List (Nat × Bool)).contains p) = true := by kernel_rfl
theorem v_n263 : Valid K0 263 sucC := fun_valid (K := K0) (f := 263) (F := f_custodyref35_successor) Tryd.func43 c_n263 (vb_of k_n263 (List.forall_mem_nil _)) (suc_ok E0) (by rw [i_n263]; exact List.forall_mem_nil _) (by kernel_rfl) (by kernel_rfl)
theorem i_n264 : iters f_custodyref35_Next.body = [] := by kernel_rfl
theorem c_n264 : chkFun K0 f_custodyref35_Next Tryd.f15 = true := by kernel_rfl
theorem k_n264 : (callees f_custodyref35_Next.body).all (fun p => ([(258, false), (263, false)] : List (Nat × Bool)).contains p) = true := by kernel_rfl
theorem v_n264 : Valid K0 264 succC := fun_valid (K := K0) (f := 264) (F := f_custodyref35_Next) Tryd.func15 c_n264 (vb_of k_n264 (List.forall_mem_cons.2 ⟨v_n258, List.forall_mem_cons.2 ⟨v_n263, List.forall_mem_nil _⟩⟩)) (rnext_ok E0 rfl rfl) (by rw [i_n264]; exact List.forall_mem_nil _) (by kernel_rfl) (by kernel_rfl)
theorem i_n276 : iters f_custodyref14_is.body = [] := by kernel_rfl
theorem c_n276 : chkFun K0 f_custodyref14_is Tryd.f53 = true := by kernel_rfl
theorem k_n276 : (callees f_custodyref14_is.body).all (fun p => ([] : List (Nat × Bool)).contains p) = true := by kernel_rfl
theorem v_n276 : Valid K0 276 exiC := fun_valid (K := K0) (f := 276) (F := f_custodyref14_is) Tryd.func53 c_n276 (vb_of k_n276 (List.forall_mem_nil _)) (is_ok E0) (by rw [i_n276]; exact List.forall_mem_nil _) (by kernel_rfl) (by kernel_rfl)
theorem i_n275 : iters f_custodyref14_Subset.body = [] := by kernel_rfl
theorem c_n275 : chkFun K0 f_custodyref14_Subset Tryd.f28 = true := by kernel_rfl
theorem k_n275 : (callees f_custodyref14_Subset.body).all (fun p => ([] : List (Nat × Bool)).contains p) = true := by kernel_rfl
theorem v_n275 : Valid K0 275 subUC := fun_valid (K := K0) (f := 275) (F := f_custodyref14_Subset) Tryd.func28 c_n275 (vb_of k_n275 (List.forall_mem_nil _)) (rsubset_ok E0) (by rw [i_n275]; exact List.forall_mem_nil _) (by kernel_rfl) (by kernel_rfl)
theorem i_n270 : iters f_custodyref14_Has.body = [] := by kernel_rfl
theorem c_n270 : chkFun K0 f_custodyref14_Has Tryd.f49 = true := by kernel_rfl
theorem k_n270 : (callees f_custodyref14_Has.body).all (fun p => ([(276, false), (275, false)] : List (Nat × Bool)).contains p) = true := by kernel_rfl
theorem v_n270 : Valid K0 270 hasC := fun_valid (K := K0) (f := 270) (F := f_custodyref14_Has) Tryd.func49 c_n270 (vb_of k_n270 (List.forall_mem_cons.2 ⟨v_n276, List.forall_mem_cons.2 ⟨v_n275, List.forall_mem_nil _⟩⟩)) (rhas_ok E0 rfl rfl) (by rw [i_n270]; exact List.forall_mem_nil _) (by kernel_rfl) (by kernel_rfl)
theorem i_n277 : iters f_custodyref14_Uses.body = [] := by kernel_rfl
theorem c_n277 : chkFun K0 f_custodyref14_Uses Tryd.f29 = true := by kernel_rfl
theorem k_n277 : (callees f_custodyref14_Uses.body).all (fun p => ([(276, false)] : List (Nat × Bool)).contains p) = true := by kernel_rfl
theorem v_n277 : Valid K0 277 useC := fun_valid (K := K0) (f := 277) (F := f_custodyref14_Uses) Tryd.func29 c_n277 (vb_of k_n277 (List.forall_mem_cons.2 ⟨v_n276, List.forall_mem_nil _⟩)) (ruses_ok E0 rfl) (by rw [i_n277]; exact List.forall_mem_nil _) (by kernel_rfl) (by kernel_rfl)
theorem i_n257 : iters f_custodyref35_fits.body = [] := by kernel_rfl
theorem c_n257 : chkFun K0 f_custodyref35_fits Tryd.f37 = true := by kernel_rfl
theorem k_n257 : (callees f_custodyref35_fits.body).all (fun p => ([(258, false), (269, false), (264, false), (270, false), (277, false), (275, false)] : List (Nat × Bool)).contains p) = true := by kernel_rfl
theorem v_n257 : Valid K0 257 fitC := fun_valid (K := K0) (f := 257) (F := f_custodyref35_fits) Tryd.func37 c_n257 (vb_of k_n257 (List.forall_mem_cons.2 ⟨v_n258, List.forall_mem_cons.2 ⟨v_n269, List.forall_mem_cons.2 ⟨v_n264, List.forall_mem_cons.2 ⟨v_n270, List.forall_mem_cons.2 ⟨v_n277, List.forall_mem_cons.2 ⟨v_n275, List.forall_mem_nil _⟩⟩⟩⟩⟩⟩)) (fits_ok E0 rfl rfl rfl rfl rfl rfl) (by rw [i_n257]; exact List.forall_mem_nil _) (by kernel_rfl) (by kernel_rfl)
theorem i_n30 : iters f_custodyref01_Int.body = [] := by kernel_rfl
theorem c_n30 : chkFun K0 f_custodyref01_Int Tryd.f89 = true := by kernel_rfl
theorem k_n30 : (callees f_custodyref01_Int.body).all (fun p => ([] : List (Nat × Bool)).contains p) = true := by kernel_rfl
theorem v_n30 : Valid K0 30 rintC := fun_valid (K := K0) (f := 30) (F := f_custodyref01_Int) Tryd.func89 c_n30 (vb_of k_n30 (List.forall_mem_nil _)) (rint_ok E0) (by rw [i_n30]; exact List.forall_mem_nil _) (by kernel_rfl) (by kernel_rfl)
theorem i_n29 : iters f_custodyref01_Bytes.body = [] := by kernel_rfl
theorem c_n29 : chkFun K0 f_custodyref01_Bytes Tryd.f84 = true := by kernel_rfl
theorem k_n29 : (callees f_custodyref01_Bytes.body).all (fun p => ([(30, false)] : List (Nat × Bool)).contains p) = true := by kernel_rfl
theorem v_n29 : Valid K0 29 rbytesC := fun_valid (K := K0) (f := 29) (F := f_custodyref01_Bytes) Tryd.func84 c_n29 (vb_of k_n29 (List.forall_mem_cons.2 ⟨v_n30, List.forall_mem_nil _⟩)) (rbytes_ok E0 rfl) (by rw [i_n29]; exact List.forall_mem_nil _) (by kernel_rfl) (by kernel_rfl)
theorem i_n77 : iters f_custodyref05_Input.body = [] := by kernel_rfl
theorem c_n77 : chkFun K0 f_custodyref05_Input Tryd.f73 = true := by kernel_rfl
theorem k_n77 : (callees f_custodyref05_Input.body).all (fun p => ([(29, false)] : List (Nat × Bool)).contains p) = true := by kernel_rfl
theorem v_n77 : Valid K0 77 inpC := fun_valid (K := K0) (f := 77) (F := f_custodyref05_Input) Tryd.func73 c_n77 (vb_of k_n77 (List.forall_mem_cons.2 ⟨v_n29, List.forall_mem_nil _⟩)) (inp_ok E0 rfl) (by rw [i_n77]; exact List.forall_mem_nil _) (by kernel_rfl) (by kernel_rfl)
theorem i_n24 : iters f_custodyref02_padded.body = [] := by kernel_rfl
theorem c_n24 : chkFun K0 f_custodyref02_padded Tryd.f86 = true := by kernel_rfl
theorem k_n24 : (callees f_custodyref02_padded.body).all (fun p => ([] : List (Nat × Bool)).contains p) = true := by kernel_rfl
theorem v_n24 : Valid K0 24 paddedC := fun_valid (K := K0) (f := 24) (F := f_custodyref02_padded) Tryd.func86 c_n24 (vb_of k_n24 (List.forall_mem_nil _)) (padded_ok E0) (by rw [i_n24]; exact List.forall_mem_nil _) (by kernel_rfl) (by kernel_rfl)
theorem i_n26 : iters f_custodyref02_rotr.body = [] := by kernel_rfl
theorem c_n26 : chkFun K0 f_custodyref02_rotr Tryd.f88 = true := by kernel_rfl
theorem k_n26 : (callees f_custodyref02_rotr.body).all (fun p => ([] : List (Nat × Bool)).contains p) = true := by kernel_rfl
theorem v_n26 : Valid K0 26 rotrC := fun_valid (K := K0) (f := 26) (F := f_custodyref02_rotr) Tryd.func88 c_n26 (vb_of k_n26 (List.forall_mem_nil _)) (rotr_ok E0) (by rw [i_n26]; exact List.forall_mem_nil _) (by kernel_rfl) (by kernel_rfl)
theorem i_n25 : iters f_custodyref02_words.body = [] := by kernel_rfl
theorem c_n25 : chkFun K0 f_custodyref02_words Tryd.f87 = true := by kernel_rfl
theorem k_n25 : (callees f_custodyref02_words.body).all (fun p => ([(26, false)] : List (Nat × Bool)).contains p) = true := by kernel_rfl
theorem v_n25 : Valid K0 25 schedC := fun_valid (K := K0) (f := 25) (F := f_custodyref02_words) Tryd.func87 c_n25 (vb_of k_n25 (List.forall_mem_cons.2 ⟨v_n26, List.forall_mem_nil _⟩)) (words_ok E0 rfl) (by rw [i_n25]; exact List.forall_mem_nil _) (by kernel_rfl) (by kernel_rfl)
theorem i_n15 : iters f_custodyref02_Sum.body = [] := by kernel_rfl
theorem c_n15 : chkFun K0 f_custodyref02_Sum Tryd.f83 = true := by kernel_rfl
theorem k_n15 : (callees f_custodyref02_Sum.body).all (fun p => ([(24, false), (25, false), (26, false)] : List (Nat × Bool)).contains p) = true := by kernel_rfl
theorem v_n15 : Valid K0 15 rsumC := fun_valid (K := K0) (f := 15) (F := f_custodyref02_Sum) Tryd.func83 c_n15 (vb_of k_n15 (List.forall_mem_cons.2 ⟨v_n24, List.forall_mem_cons.2 ⟨v_n25, List.forall_mem_cons.2 ⟨v_n26, List.forall_mem_nil _⟩⟩⟩)) (rsum_ok E0 rfl rfl rfl rfl) (by rw [i_n15]; exact List.forall_mem_nil _) (by kernel_rfl) (by kernel_rfl)
theorem i_n19 : iters f_custodyref02_Bytes32.body = [] := by kernel_rfl
theorem c_n19 : chkFun K0 f_custodyref02_Bytes32 Tryd.f82 = true := by kernel_rfl
theorem k_n19 : (callees f_custodyref02_Bytes32.body).all (fun p => ([] : List (Nat × Bool)).contains p) = true := by kernel_rfl
theorem v_n19 : Valid K0 19 text32C := fun_valid (K := K0) (f := 19) (F := f_custodyref02_Bytes32) Tryd.func82 c_n19 (vb_of k_n19 (List.forall_mem_nil _)) (text32_ok E0) (by rw [i_n19]; exact List.forall_mem_nil _) (by kernel_rfl) (by kernel_rfl)
theorem i_n27 : iters f_custodyref02_padKey.body = [] := by kernel_rfl
theorem c_n27 : chkFun K0 f_custodyref02_padKey Tryd.f81 = true := by kernel_rfl
theorem k_n27 : (callees f_custodyref02_padKey.body).all (fun p => ([(15, false), (19, false)] : List (Nat × Bool)).contains p) = true := by kernel_rfl
theorem v_n27 : Valid K0 27 padKC := fun_valid (K := K0) (f := 27) (F := f_custodyref02_padKey) Tryd.func81 c_n27 (vb_of k_n27 (List.forall_mem_cons.2 ⟨v_n15, List.forall_mem_cons.2 ⟨v_n19, List.forall_mem_nil _⟩⟩)) (padKey_ok E0 rfl rfl) (by rw [i_n27]; exact List.forall_mem_nil _) (by kernel_rfl) (by kernel_rfl)
theorem i_n18 : iters f_custodyref02_Mac.body = [] := by kernel_rfl
theorem c_n18 : chkFun K0 f_custodyref02_Mac Tryd.f72 = true := by kernel_rfl
theorem k_n18 : (callees f_custodyref02_Mac.body).all (fun p => ([(27, false), (15, false), (19, false)] : List (Nat × Bool)).contains p) = true := by kernel_rfl
theorem v_n18 : Valid K0 18 rmacC := fun_valid (K := K0) (f := 18) (F := f_custodyref02_Mac) Tryd.func72 c_n18 (vb_of k_n18 (List.forall_mem_cons.2 ⟨v_n27, List.forall_mem_cons.2 ⟨v_n15, List.forall_mem_cons.2 ⟨v_n19, List.forall_mem_nil _⟩⟩⟩)) (rmac_ok E0 rfl rfl rfl) (by rw [i_n18]; exact List.forall_mem_nil _) (by kernel_rfl) (by kernel_rfl)
theorem i_n78 : iters f_custodyref05_Derive.body = [] := by kernel_rfl
theorem c_n78 : chkFun K0 f_custodyref05_Derive Tryd.f61 = true := by kernel_rfl
theorem k_n78 : (callees f_custodyref05_Derive.body).all (fun p => ([(77, false), (18, false)] : List (Nat × Bool)).contains p) = true := by kernel_rfl
theorem v_n78 : Valid K0 78 derC := fun_valid (K := K0) (f := 78) (F := f_custodyref05_Derive) Tryd.func61 c_n78 (vb_of k_n78 (List.forall_mem_cons.2 ⟨v_n77, List.forall_mem_cons.2 ⟨v_n18, List.forall_mem_nil _⟩⟩)) (rder_ok E0 rfl rfl) (by rw [i_n78]; exact List.forall_mem_nil _) (by kernel_rfl) (by kernel_rfl)
theorem i_n81 : iters f_custodyref05_Random_Next.body = [] := by kernel_rfl
theorem c_n81 : chkFun K0 f_custodyref05_Random_Next Tryd.f39 = true := by kernel_rfl
theorem k_n81 : (callees f_custodyref05_Random_Next.body).all (fun p => ([(78, false)] : List (Nat × Bool)).contains p) = true := by kernel_rfl
theorem v_n81 : Valid K0 81 nxtC := fun_valid (K := K0) (f := 81) (F := f_custodyref05_Random_Next) Tryd.func39 c_n81 (vb_of k_n81 (List.forall_mem_cons.2 ⟨v_n78, List.forall_mem_nil _⟩)) (rnxt_ok E0 rfl) (by rw [i_n81]; exact List.forall_mem_nil _) (by kernel_rfl) (by kernel_rfl)
theorem i_n259 : iters f_custodyref27_Put.body = [] := by kernel_rfl
theorem c_n259 : chkFun K0 f_custodyref27_Put Tryd.f40 = true := by kernel_rfl
theorem k_n259 : (callees f_custodyref27_Put.body).all (fun p => ([(273, false), (279, false)] : List (Nat × Bool)).contains p) = true := by kernel_rfl
theorem v_n259 : Valid K0 259 putCn := fun_valid (K := K0) (f := 259) (F := f_custodyref27_Put) Tryd.func40 c_n259 (vb_of k_n259 (List.forall_mem_cons.2 ⟨v_n273, List.forall_mem_cons.2 ⟨v_n279, List.forall_mem_nil _⟩⟩)) (rput_ok E0 rfl rfl) (by rw [i_n259]; exact List.forall_mem_nil _) (by kernel_rfl) (by kernel_rfl)
theorem i_n260 : iters f_custodyref27_Add.body = [] := by kernel_rfl
theorem c_n260 : chkFun K0 f_custodyref27_Add Tryd.f41 = true := by kernel_rfl
theorem k_n260 : (callees f_custodyref27_Add.body).all (fun p => ([(273, false)] : List (Nat × Bool)).contains p) = true := by kernel_rfl
theorem v_n260 : Valid K0 260 raddCn := fun_valid (K := K0) (f := 260) (F := f_custodyref27_Add) Tryd.func41 c_n260 (vb_of k_n260 (List.forall_mem_cons.2 ⟨v_n273, List.forall_mem_nil _⟩)) (radd_ok E0 rfl) (by rw [i_n260]; exact List.forall_mem_nil _) (by kernel_rfl) (by kernel_rfl)
theorem i_n261 : iters f_custodyref35_Key.body = [] := by kernel_rfl
theorem c_n261 : chkFun K0 f_custodyref35_Key Tryd.f12 = true := by kernel_rfl
theorem k_n261 : (callees f_custodyref35_Key.body).all (fun p => ([(257, false), (258, false), (81, false), (259, false), (260, false)] : List (Nat × Bool)).contains p) = true := by kernel_rfl
theorem v_n261 : Valid K0 261 rrotKC := fun_valid (K := K0) (f := 261) (F := f_custodyref35_Key) Tryd.func12 c_n261 (vb_of k_n261 (List.forall_mem_cons.2 ⟨v_n257, List.forall_mem_cons.2 ⟨v_n258, List.forall_mem_cons.2 ⟨v_n81, List.forall_mem_cons.2 ⟨v_n259, List.forall_mem_cons.2 ⟨v_n260, List.forall_mem_nil _⟩⟩⟩⟩⟩)) (rkey_ok E0 rfl rfl rfl rfl rfl) (by rw [i_n261]; exact List.forall_mem_nil _) (by kernel_rfl) (by kernel_rfl)
theorem i_n262 : iters f_custodyref27_Same.body = [] := by kernel_rfl
theorem c_n262 : chkFun K0 f_custodyref27_Same Tryd.f13 = true := by kernel_rfl
theorem k_n262 : (callees f_custodyref27_Same.body).all (fun p => ([] : List (Nat × Bool)).contains p) = true := by kernel_rfl
theorem v_n262 : Valid K0 262 samTC := fun_valid (K := K0) (f := 262) (F := f_custodyref27_Same) Tryd.func13 c_n262 (vb_of k_n262 (List.forall_mem_nil _)) (samT_ok E0) (by rw [i_n262]; exact List.forall_mem_nil _) (by kernel_rfl) (by kernel_rfl)
theorem i_n282 : iters f_custodylaw35_RotateKeyMatchesSpec.body = [] := by kernel_rfl
theorem c_n282 : chkFun K0 f_custodylaw35_RotateKeyMatchesSpec Tryd.f3 = true := by kernel_rfl
theorem k_n282 : (callees f_custodylaw35_RotateKeyMatchesSpec.body).all (fun p => ([(280, false), (281, false), (229, false), (261, false), (262, false)] : List (Nat × Bool)).contains p) = true := by kernel_rfl
theorem v_n282 : Valid K0 282 lawRK := fun_valid (K := K0) (f := 282) (F := f_custodylaw35_RotateKeyMatchesSpec) Tryd.func3 c_n282 (vb_of k_n282 (List.forall_mem_cons.2 ⟨v_n280, List.forall_mem_cons.2 ⟨v_n281, List.forall_mem_cons.2 ⟨v_n229, List.forall_mem_cons.2 ⟨v_n261, List.forall_mem_cons.2 ⟨v_n262, List.forall_mem_nil _⟩⟩⟩⟩⟩)) (law_RK_ok E0 rfl rfl rfl rfl rfl) (by rw [i_n282]; exact List.forall_mem_nil _) (by kernel_rfl) (by kernel_rfl)
end Go.Abs.V0
