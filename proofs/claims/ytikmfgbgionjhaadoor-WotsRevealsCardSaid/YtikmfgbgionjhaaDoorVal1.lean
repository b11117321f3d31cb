/- The translated functions are those that the lemmas speak of; so each meets its contract. -/
import Derived.Test.YtikmfgbgionjhaaDoorRows
import Derived.Test.YtikmfgbgionjhaaDoorA
import Derived.Test.YtikmfgbgionjhaaDoorB
import Derived.Test.YtikmfgbgionjhaaDoorC
import Derived.Test.YtikmfgbgionjhaaDoorD
import Derived.Test.YtikmfgbgionjhaaDoorE
import Derived.Test.YtikmfgbgionjhaaDoorF
import Derived.Test.YtikmfgbgionjhaaDoorG
import Derived.Test.YtikmfgbgionjhaaDoorH
import Derived.Test.YtikmfgbgionjhaaDoorI
import Derived.Test.YtikmfgbgionjhaaDoorK
import Derived.Test.YtikmfgbgionjhaaDoorL
import Derived.Test.YtikmfgbgionjhaaDoorM
import Derived.Test.YtikmfgbgionjhaaDoorN
import Derived.Test.YtikmfgbgionjhaaDoorJ
import Derived.KernelRfl
set_option linter.unusedSimpArgs false
set_option linter.unusedVariables false
set_option linter.unusedSectionVars false
namespace Go.Abs.V1
open Go.Proofs
set_option maxRecDepth 100000
def nu : Nat → FuncId
  | 0 => 39
  | 1 => 40
  | 2 => 42
  | 3 => 60
  | 4 => 49
  | 5 => 61
  | 6 => 51
  | 7 => 41
  | 8 => 25
  | 10 => 57
  | 11 => 58
  | 12 => 34
  | 13 => 64
  | 76 => 45
  | 90 => 13
  | 91 => 27
  | 92 => 26
  | 93 => 10
  | 98 => 28
  | 99 => 26
  | 100 => 15
  | 104 => 32
  | 105 => 26
  | 106 => 17
  | 108 => 19
  | 110 => 33
  | 111 => 21
  | 113 => 29
  | 114 => 9
  | 118 => 6
  | 120 => 8
  | _ => 0
def gnum : Nat → Nat
  | 0 => 1
  | _ => 0
def gG : Nat → Contract
  | 0 => beginC
  | 1 => addC
  | 2 => sumC
  | 3 => hsumC
  | 4 => comprC
  | 5 => mac1C
  | 6 => macC
  | 7 => bytesC
  | 8 => ofC
  | 10 => schedC
  | 11 => mixC
  | 12 => intC
  | 13 => rotC
  | 76 => derC
  | 90 => digPC
  | 91 => rec1C
  | 92 => joinRC
  | 93 => recC
  | 98 => pub1C
  | 99 => joinPC
  | 100 => pubC
  | 104 => sig1C
  | 105 => joinSC
  | 106 => sigC
  | 108 => verC
  | 110 => withinC
  | 111 => advC
  | 113 => strtC
  | 114 => sanC
  | 118 => lawWD
  | 120 => lawWV
  | _ => ⟨fun _ => False, fun _ => .undef⟩
def gB : Nat → FuncId
  | 2 => 43
  | 3 => 44
  | _ => 0
def gT : Nat → List AVal
  | 0 => w32s kc
  | _ => []
def E0 : Env := { G := gG, T := gT }
noncomputable def K0 : Cx := { P := Tryd.prog, nu := nu, globs := [], N := { gnum := gnum, gs := [0] }, E := E0, bt := 67, b5 := 5, bf := gB }
theorem v_n999999992 : BldFacts K0 2 := ⟨⟨Tryd.f43, Tryd.func43, by kernel_rfl, by kernel_rfl⟩, fun h => (by cases h), fun h => (by cases h), fun _ b bs ad m c news w h hl hn hb h1 hlen => Go.Abs.TrydB.write b bs ad m c news w h hl hn hb h1 hlen, fun h => (by cases h)⟩
theorem v_n999999993 : BldFacts K0 3 := ⟨⟨Tryd.f44, Tryd.func44, by kernel_rfl, by kernel_rfl⟩, fun h => (by cases h), fun h => (by cases h), fun h => (by cases h), fun _ b l w h h0 => Go.Abs.TrydB.str b l w h h0⟩
theorem c_n90 : chkFun K0 f_wots_Digits Tryd.f13 = true := by kernel_rfl
theorem k_n90 : callees f_wots_Digits.body = [] := by kernel_rfl
theorem i_n90 : iters f_wots_Digits.body = [] := by kernel_rfl
theorem v_n90 : Valid K0 90 digPC := fun_valid (K := K0) (f := 90) (F := f_wots_Digits) Tryd.func13 c_n90 (by rw [k_n90]; exact List.forall_mem_nil _) (digits_ok E0) (by rw [i_n90]; exact List.forall_mem_nil _) (by kernel_rfl)
theorem c_n12 : chkFun K0 f_wire_Int Tryd.f34 = true := by kernel_rfl
theorem k_n12 : callees f_wire_Int.body = [] := by kernel_rfl
theorem i_n12 : iters f_wire_Int.body = [] := by kernel_rfl
theorem v_n12 : Valid K0 12 intC := fun_valid (K := K0) (f := 12) (F := f_wire_Int) Tryd.func34 c_n12 (by rw [k_n12]; exact List.forall_mem_nil _) (int_ok E0) (by rw [i_n12]; exact List.forall_mem_nil _) (by kernel_rfl)
theorem c_n7 : chkFun K0 f_wire_Bytes Tryd.f41 = true := by kernel_rfl
theorem k_n7 : callees f_wire_Bytes.body = [(12, false)] := by kernel_rfl
theorem i_n7 : iters f_wire_Bytes.body = [] := by kernel_rfl
theorem v_n7 : Valid K0 7 bytesC := fun_valid (K := K0) (f := 7) (F := f_wire_Bytes) Tryd.func41 c_n7 (by rw [k_n7]; exact List.forall_mem_cons.2 ⟨v_n12, List.forall_mem_nil _⟩) (bytes_ok E0 rfl) (by rw [i_n7]; exact List.forall_mem_nil _) (by kernel_rfl)
theorem c_n0 : chkFun K0 f_hash_Begin Tryd.f39 = true := by kernel_rfl
theorem k_n0 : callees f_hash_Begin.body = [] := by kernel_rfl
theorem i_n0 : iters f_hash_Begin.body = [] := by kernel_rfl
theorem v_n0 : Valid K0 0 beginC := fun_valid (K := K0) (f := 0) (F := f_hash_Begin) Tryd.func39 c_n0 (by rw [k_n0]; exact List.forall_mem_nil _) (begin_ok E0) (by rw [i_n0]; exact List.forall_mem_nil _) (by kernel_rfl)
theorem c_n13 : chkFun K0 f_bits_RotateLeft32 Tryd.f64 = true := by kernel_rfl
theorem k_n13 : callees f_bits_RotateLeft32.body = [] := by kernel_rfl
theorem i_n13 : iters f_bits_RotateLeft32.body = [] := by kernel_rfl
theorem v_n13 : Valid K0 13 rotC := fun_valid (K := K0) (f := 13) (F := f_bits_RotateLeft32) Tryd.func64 c_n13 (by rw [k_n13]; exact List.forall_mem_nil _) (rot_ok E0) (by rw [i_n13]; exact List.forall_mem_nil _) (by kernel_rfl)
theorem c_n10 : chkFun K0 f_hash_schedule Tryd.f57 = true := by kernel_rfl
theorem k_n10 : callees f_hash_schedule.body = [(13, false), (13, false), (13, false), (13, false)] := by kernel_rfl
theorem i_n10 : iters f_hash_schedule.body = [] := by kernel_rfl
theorem v_n10 : Valid K0 10 schedC := fun_valid (K := K0) (f := 10) (F := f_hash_schedule) Tryd.func57 c_n10 (by rw [k_n10]; exact List.forall_mem_cons.2 ⟨v_n13, List.forall_mem_cons.2 ⟨v_n13, List.forall_mem_cons.2 ⟨v_n13, List.forall_mem_cons.2 ⟨v_n13, List.forall_mem_nil _⟩⟩⟩⟩) (sched_ok E0 rfl) (by rw [i_n10]; exact List.forall_mem_nil _) (by kernel_rfl)
theorem c_n11 : chkFun K0 f_hash_mix Tryd.f58 = true := by kernel_rfl
theorem k_n11 : callees f_hash_mix.body = [(13, false), (13, false), (13, false)] := by kernel_rfl
theorem i_n11 : iters f_hash_mix.body = [] := by kernel_rfl
theorem v_n11 : Valid K0 11 mixC := fun_valid (K := K0) (f := 11) (F := f_hash_mix) Tryd.func58 c_n11 (by rw [k_n11]; exact List.forall_mem_cons.2 ⟨v_n13, List.forall_mem_cons.2 ⟨v_n13, List.forall_mem_cons.2 ⟨v_n13, List.forall_mem_nil _⟩⟩⟩) (mix_ok E0 rfl) (by rw [i_n11]; exact List.forall_mem_nil _) (by kernel_rfl)
theorem c_n4 : chkFun K0 f_hash_compress Tryd.f49 = true := by kernel_rfl
theorem k_n4 : callees f_hash_compress.body = [(10, false), (11, false), (11, false)] := by kernel_rfl
theorem i_n4 : iters f_hash_compress.body = [] := by kernel_rfl
theorem v_n4 : Valid K0 4 comprC := fun_valid (K := K0) (f := 4) (F := f_hash_compress) Tryd.func49 c_n4 (by rw [k_n4]; exact List.forall_mem_cons.2 ⟨v_n10, List.forall_mem_cons.2 ⟨v_n11, List.forall_mem_cons.2 ⟨v_n11, List.forall_mem_nil _⟩⟩⟩) (compr_ok E0 rfl rfl rfl) (by rw [i_n4]; exact List.forall_mem_nil _) (by kernel_rfl)
theorem c_n1 : chkFun K0 f_hash_Stream_Add Tryd.f40 = true := by kernel_rfl
theorem k_n1 : callees f_hash_Stream_Add.body = [(4, false)] := by kernel_rfl
theorem i_n1 : iters f_hash_Stream_Add.body = [] := by kernel_rfl
theorem v_n1 : Valid K0 1 addC := fun_valid (K := K0) (f := 1) (F := f_hash_Stream_Add) Tryd.func40 c_n1 (by rw [k_n1]; exact List.forall_mem_cons.2 ⟨v_n4, List.forall_mem_nil _⟩) (add_ok E0 rfl) (by rw [i_n1]; exact List.forall_mem_nil _) (by kernel_rfl)
theorem c_n2 : chkFun K0 f_hash_Stream_Sum Tryd.f42 = true := by kernel_rfl
theorem k_n2 : callees f_hash_Stream_Sum.body = [(1, false)] := by kernel_rfl
theorem i_n2 : iters f_hash_Stream_Sum.body = [] := by kernel_rfl
theorem v_n2 : Valid K0 2 sumC := fun_valid (K := K0) (f := 2) (F := f_hash_Stream_Sum) Tryd.func42 c_n2 (by rw [k_n2]; exact List.forall_mem_cons.2 ⟨v_n1, List.forall_mem_nil _⟩) (sum_ok E0 rfl) (by rw [i_n2]; exact List.forall_mem_nil _) (by kernel_rfl)
theorem c_n3 : chkFun K0 f_hash_Sum Tryd.f60 = true := by kernel_rfl
theorem k_n3 : callees f_hash_Sum.body = [(0, false), (1, false), (2, false)] := by kernel_rfl
theorem i_n3 : iters f_hash_Sum.body = [] := by kernel_rfl
theorem v_n3 : Valid K0 3 hsumC := fun_valid (K := K0) (f := 3) (F := f_hash_Sum) Tryd.func60 c_n3 (by rw [k_n3]; exact List.forall_mem_cons.2 ⟨v_n0, List.forall_mem_cons.2 ⟨v_n1, List.forall_mem_cons.2 ⟨v_n2, List.forall_mem_nil _⟩⟩⟩) (hsum_ok E0 rfl rfl rfl) (by rw [i_n3]; exact List.forall_mem_nil _) (by kernel_rfl)
theorem c_n5 : chkFun K0 f_hash_Mac_1 Tryd.f61 = true := by kernel_rfl
theorem k_n5 : callees f_hash_Mac_1.body = [] := by kernel_rfl
theorem i_n5 : iters f_hash_Mac_1.body = [] := by kernel_rfl
theorem v_n5 : Valid K0 5 mac1C := fun_valid (K := K0) (f := 5) (F := f_hash_Mac_1) Tryd.func61 c_n5 (by rw [k_n5]; exact List.forall_mem_nil _) (mac1_ok E0) (by rw [i_n5]; exact List.forall_mem_nil _) (by kernel_rfl)
theorem c_n6 : chkFun K0 f_hash_Mac Tryd.f51 = true := by kernel_rfl
theorem k_n6 : callees f_hash_Mac.body = [(3, false), (0, false), (5, false), (1, false), (1, false), (2, false), (0, false), (5, false), (1, false), (1, false), (2, false)] := by kernel_rfl
theorem i_n6 : iters f_hash_Mac.body = [] := by kernel_rfl
theorem v_n6 : Valid K0 6 macC := fun_valid (K := K0) (f := 6) (F := f_hash_Mac) Tryd.func51 c_n6 (by rw [k_n6]; exact List.forall_mem_cons.2 ⟨v_n3, List.forall_mem_cons.2 ⟨v_n0, List.forall_mem_cons.2 ⟨v_n5, List.forall_mem_cons.2 ⟨v_n1, List.forall_mem_cons.2 ⟨v_n1, List.forall_mem_cons.2 ⟨v_n2, List.forall_mem_cons.2 ⟨v_n0, List.forall_mem_cons.2 ⟨v_n5, List.forall_mem_cons.2 ⟨v_n1, List.forall_mem_cons.2 ⟨v_n1, List.forall_mem_cons.2 ⟨v_n2, List.forall_mem_nil _⟩⟩⟩⟩⟩⟩⟩⟩⟩⟩⟩) (mac_ok E0 rfl rfl rfl rfl rfl) (by rw [i_n6]; exact List.forall_mem_nil _) (by kernel_rfl)
theorem c_n76 : chkFun K0 f_kdf_Derive Tryd.f45 = true := by kernel_rfl
theorem k_n76 : callees f_kdf_Derive.body = [(7, false), (7, false), (6, false)] := by kernel_rfl
theorem i_n76 : iters f_kdf_Derive.body = [] := by kernel_rfl
theorem v_n76 : Valid K0 76 derC := fun_valid (K := K0) (f := 76) (F := f_kdf_Derive) Tryd.func45 c_n76 (by rw [k_n76]; exact List.forall_mem_cons.2 ⟨v_n7, List.forall_mem_cons.2 ⟨v_n7, List.forall_mem_cons.2 ⟨v_n6, List.forall_mem_nil _⟩⟩⟩) (der_ok E0 rfl rfl) (by rw [i_n76]; exact List.forall_mem_nil _) (by kernel_rfl)
theorem c_n113 : chkFun K0 f_wots_start Tryd.f29 = true := by kernel_rfl
theorem k_n113 : callees f_wots_start.body = [(12, false), (76, false)] := by kernel_rfl
theorem i_n113 : iters f_wots_start.body = [] := by kernel_rfl
theorem v_n113 : Valid K0 113 strtC := fun_valid (K := K0) (f := 113) (F := f_wots_start) Tryd.func29 c_n113 (by rw [k_n113]; exact List.forall_mem_cons.2 ⟨v_n12, List.forall_mem_cons.2 ⟨v_n76, List.forall_mem_nil _⟩⟩) (start_ok E0 rfl rfl) (by rw [i_n113]; exact List.forall_mem_nil _) (by kernel_rfl)
theorem c_n110 : chkFun K0 f_wots_within Tryd.f33 = true := by kernel_rfl
theorem k_n110 : callees f_wots_within.body = [] := by kernel_rfl
theorem i_n110 : iters f_wots_within.body = [] := by kernel_rfl
theorem v_n110 : Valid K0 110 withinC := fun_valid (K := K0) (f := 110) (F := f_wots_within) Tryd.func33 c_n110 (by rw [k_n110]; exact List.forall_mem_nil _) (within_ok E0) (by rw [i_n110]; exact List.forall_mem_nil _) (by kernel_rfl)
theorem c_n8 : chkFun K0 f_hash_Of Tryd.f25 = true := by kernel_rfl
theorem k_n8 : callees f_hash_Of.body = [(0, false), (1, false), (7, false), (1, false), (2, false)] := by kernel_rfl
theorem i_n8 : iters f_hash_Of.body = [] := by kernel_rfl
theorem v_n8 : Valid K0 8 ofC := fun_valid (K := K0) (f := 8) (F := f_hash_Of) Tryd.func25 c_n8 (by rw [k_n8]; exact List.forall_mem_cons.2 ⟨v_n0, List.forall_mem_cons.2 ⟨v_n1, List.forall_mem_cons.2 ⟨v_n7, List.forall_mem_cons.2 ⟨v_n1, List.forall_mem_cons.2 ⟨v_n2, List.forall_mem_nil _⟩⟩⟩⟩⟩) (of_ok E0 rfl rfl rfl rfl) (by rw [i_n8]; exact List.forall_mem_nil _) (by kernel_rfl)
theorem c_n111 : chkFun K0 f_wots_Advance Tryd.f21 = true := by kernel_rfl
theorem k_n111 : callees f_wots_Advance.body = [(110, false), (110, false), (110, false), (12, false), (12, false), (8, false)] := by kernel_rfl
theorem i_n111 : iters f_wots_Advance.body = [] := by kernel_rfl
theorem v_n111 : Valid K0 111 advC := fun_valid (K := K0) (f := 111) (F := f_wots_Advance) Tryd.func21 c_n111 (by rw [k_n111]; exact List.forall_mem_cons.2 ⟨v_n110, List.forall_mem_cons.2 ⟨v_n110, List.forall_mem_cons.2 ⟨v_n110, List.forall_mem_cons.2 ⟨v_n12, List.forall_mem_cons.2 ⟨v_n12, List.forall_mem_cons.2 ⟨v_n8, List.forall_mem_nil _⟩⟩⟩⟩⟩⟩) (adv_ok E0 rfl rfl rfl) (by rw [i_n111]; exact List.forall_mem_nil _) (by kernel_rfl)
theorem c_n104 : chkFun K0 f_wots_Sign_1 Tryd.f32 = true := by kernel_rfl
theorem k_n104 : callees f_wots_Sign_1.body = [(113, false), (111, false)] := by kernel_rfl
theorem i_n104 : iters f_wots_Sign_1.body = [] := by kernel_rfl
theorem v_n104 : Valid K0 104 sig1C := fun_valid (K := K0) (f := 104) (F := f_wots_Sign_1) Tryd.func32 c_n104 (by rw [k_n104]; exact List.forall_mem_cons.2 ⟨v_n113, List.forall_mem_cons.2 ⟨v_n111, List.forall_mem_nil _⟩⟩) (sig1_ok E0 rfl rfl) (by rw [i_n104]; exact List.forall_mem_nil _) (by kernel_rfl)
theorem c_n105 : chkFun K0 f_wots_join_wots_Sign_1 Tryd.f26 = true := by kernel_rfl
theorem k_n105 : callees f_wots_join_wots_Sign_1.body = [(104, false), (999999992, true), (999999993, true)] := by kernel_rfl
theorem i_n105 : iters f_wots_join_wots_Sign_1.body = [] := by kernel_rfl
theorem v_n105 : Valid K0 105 joinSC := fun_valid (K := K0) (f := 105) (F := f_wots_join_wots_Sign_1) Tryd.func26 c_n105 (by rw [k_n105]; exact List.forall_mem_cons.2 ⟨v_n104, List.forall_mem_cons.2 ⟨v_n999999992, List.forall_mem_cons.2 ⟨v_n999999993, List.forall_mem_nil _⟩⟩⟩) (joinS_ok E0 rfl) (by rw [i_n105]; exact List.forall_mem_nil _) (by kernel_rfl)
theorem c_n106 : chkFun K0 f_wots_Sign Tryd.f17 = true := by kernel_rfl
theorem k_n106 : callees f_wots_Sign.body = [(90, false), (105, false)] := by kernel_rfl
theorem i_n106 : iters f_wots_Sign.body = [] := by kernel_rfl
theorem v_n106 : Valid K0 106 sigC := fun_valid (K := K0) (f := 106) (F := f_wots_Sign) Tryd.func17 c_n106 (by rw [k_n106]; exact List.forall_mem_cons.2 ⟨v_n90, List.forall_mem_cons.2 ⟨v_n105, List.forall_mem_nil _⟩⟩) (sig_ok E0 rfl rfl) (by rw [i_n106]; exact List.forall_mem_nil _) (by kernel_rfl)
theorem c_n98 : chkFun K0 f_wots_Public_1 Tryd.f28 = true := by kernel_rfl
theorem k_n98 : callees f_wots_Public_1.body = [(113, false), (111, false)] := by kernel_rfl
theorem i_n98 : iters f_wots_Public_1.body = [] := by kernel_rfl
theorem v_n98 : Valid K0 98 pub1C := fun_valid (K := K0) (f := 98) (F := f_wots_Public_1) Tryd.func28 c_n98 (by rw [k_n98]; exact List.forall_mem_cons.2 ⟨v_n113, List.forall_mem_cons.2 ⟨v_n111, List.forall_mem_nil _⟩⟩) (pub1_ok E0 rfl rfl) (by rw [i_n98]; exact List.forall_mem_nil _) (by kernel_rfl)
theorem c_n99 : chkFun K0 f_wots_join_wots_Public_1 Tryd.f26 = true := by kernel_rfl
theorem k_n99 : callees f_wots_join_wots_Public_1.body = [(98, false), (999999992, true), (999999993, true)] := by kernel_rfl
theorem i_n99 : iters f_wots_join_wots_Public_1.body = [] := by kernel_rfl
theorem v_n99 : Valid K0 99 joinPC := fun_valid (K := K0) (f := 99) (F := f_wots_join_wots_Public_1) Tryd.func26 c_n99 (by rw [k_n99]; exact List.forall_mem_cons.2 ⟨v_n98, List.forall_mem_cons.2 ⟨v_n999999992, List.forall_mem_cons.2 ⟨v_n999999993, List.forall_mem_nil _⟩⟩⟩) (joinP_ok E0 rfl) (by rw [i_n99]; exact List.forall_mem_nil _) (by kernel_rfl)
theorem c_n100 : chkFun K0 f_wots_Public Tryd.f15 = true := by kernel_rfl
theorem k_n100 : callees f_wots_Public.body = [(99, false), (8, false)] := by kernel_rfl
theorem i_n100 : iters f_wots_Public.body = [] := by kernel_rfl
theorem v_n100 : Valid K0 100 pubC := fun_valid (K := K0) (f := 100) (F := f_wots_Public) Tryd.func15 c_n100 (by rw [k_n100]; exact List.forall_mem_cons.2 ⟨v_n99, List.forall_mem_cons.2 ⟨v_n8, List.forall_mem_nil _⟩⟩) (pub_ok E0 rfl rfl) (by rw [i_n100]; exact List.forall_mem_nil _) (by kernel_rfl)
theorem c_n91 : chkFun K0 f_wots_Recover_1 Tryd.f27 = true := by kernel_rfl
theorem k_n91 : callees f_wots_Recover_1.body = [(111, false)] := by kernel_rfl
theorem i_n91 : iters f_wots_Recover_1.body = [] := by kernel_rfl
theorem v_n91 : Valid K0 91 rec1C := fun_valid (K := K0) (f := 91) (F := f_wots_Recover_1) Tryd.func27 c_n91 (by rw [k_n91]; exact List.forall_mem_cons.2 ⟨v_n111, List.forall_mem_nil _⟩) (rec1_ok E0 rfl) (by rw [i_n91]; exact List.forall_mem_nil _) (by kernel_rfl)
theorem c_n92 : chkFun K0 f_wots_join_wots_Recover_1 Tryd.f26 = true := by kernel_rfl
theorem k_n92 : callees f_wots_join_wots_Recover_1.body = [(91, false), (999999992, true), (999999993, true)] := by kernel_rfl
theorem i_n92 : iters f_wots_join_wots_Recover_1.body = [] := by kernel_rfl
theorem v_n92 : Valid K0 92 joinRC := fun_valid (K := K0) (f := 92) (F := f_wots_join_wots_Recover_1) Tryd.func26 c_n92 (by rw [k_n92]; exact List.forall_mem_cons.2 ⟨v_n91, List.forall_mem_cons.2 ⟨v_n999999992, List.forall_mem_cons.2 ⟨v_n999999993, List.forall_mem_nil _⟩⟩⟩) (joinR_ok E0 rfl) (by rw [i_n92]; exact List.forall_mem_nil _) (by kernel_rfl)
theorem c_n93 : chkFun K0 f_wots_Recover Tryd.f10 = true := by kernel_rfl
theorem k_n93 : callees f_wots_Recover.body = [(90, false), (92, false), (8, false)] := by kernel_rfl
theorem i_n93 : iters f_wots_Recover.body = [] := by kernel_rfl
theorem v_n93 : Valid K0 93 recC := fun_valid (K := K0) (f := 93) (F := f_wots_Recover) Tryd.func10 c_n93 (by rw [k_n93]; exact List.forall_mem_cons.2 ⟨v_n90, List.forall_mem_cons.2 ⟨v_n92, List.forall_mem_cons.2 ⟨v_n8, List.forall_mem_nil _⟩⟩⟩) (rec_ok E0 rfl rfl rfl) (by rw [i_n93]; exact List.forall_mem_nil _) (by kernel_rfl)
theorem c_n108 : chkFun K0 f_wots_Verify Tryd.f19 = true := by kernel_rfl
theorem k_n108 : callees f_wots_Verify.body = [(93, false)] := by kernel_rfl
theorem i_n108 : iters f_wots_Verify.body = [] := by kernel_rfl
theorem v_n108 : Valid K0 108 verC := fun_valid (K := K0) (f := 108) (F := f_wots_Verify) Tryd.func19 c_n108 (by rw [k_n108]; exact List.forall_mem_cons.2 ⟨v_n93, List.forall_mem_nil _⟩) (ver_ok E0 rfl) (by rw [i_n108]; exact List.forall_mem_nil _) (by kernel_rfl)
theorem c_n114 : chkFun K0 f_custodylaw09_sanity Tryd.f9 = true := by kernel_rfl
theorem k_n114 : callees f_custodylaw09_sanity.body = [(90, false), (90, false), (106, false), (100, false), (93, false), (93, false), (108, false), (108, false), (111, false)] := by kernel_rfl
theorem i_n114 : iters f_custodylaw09_sanity.body = [] := by kernel_rfl
theorem v_n114 : Valid K0 114 sanC := fun_valid (K := K0) (f := 114) (F := f_custodylaw09_sanity) Tryd.func9 c_n114 (by rw [k_n114]; exact List.forall_mem_cons.2 ⟨v_n90, List.forall_mem_cons.2 ⟨v_n90, List.forall_mem_cons.2 ⟨v_n106, List.forall_mem_cons.2 ⟨v_n100, List.forall_mem_cons.2 ⟨v_n93, List.forall_mem_cons.2 ⟨v_n93, List.forall_mem_cons.2 ⟨v_n108, List.forall_mem_cons.2 ⟨v_n108, List.forall_mem_cons.2 ⟨v_n111, List.forall_mem_nil _⟩⟩⟩⟩⟩⟩⟩⟩⟩) (san9_ok E0 rfl rfl rfl rfl rfl rfl) (by rw [i_n114]; exact List.forall_mem_nil _) (by kernel_rfl)
theorem c_n118 : chkFun K0 f_custodylaw09_WotsDigits Tryd.f6 = true := by kernel_rfl
theorem k_n118 : callees f_custodylaw09_WotsDigits.body = [(90, false), (90, false), (114, false)] := by kernel_rfl
theorem i_n118 : iters f_custodylaw09_WotsDigits.body = [] := by kernel_rfl
theorem v_n118 : Valid K0 118 lawWD := fun_valid (K := K0) (f := 118) (F := f_custodylaw09_WotsDigits) Tryd.func6 c_n118 (by rw [k_n118]; exact List.forall_mem_cons.2 ⟨v_n90, List.forall_mem_cons.2 ⟨v_n90, List.forall_mem_cons.2 ⟨v_n114, List.forall_mem_nil _⟩⟩⟩) (law_WD_ok E0 rfl rfl) (by rw [i_n118]; exact List.forall_mem_nil _) (by kernel_rfl)
theorem c_n120 : chkFun K0 f_custodylaw09_WotsReveals Tryd.f8 = true := by kernel_rfl
theorem k_n120 : callees f_custodylaw09_WotsReveals.body = [(114, false), (106, false), (106, false), (90, false), (90, false), (111, false), (114, false)] := by kernel_rfl
theorem i_n120 : iters f_custodylaw09_WotsReveals.body = [] := by kernel_rfl
theorem v_n120 : Valid K0 120 lawWV := fun_valid (K := K0) (f := 120) (F := f_custodylaw09_WotsReveals) Tryd.func8 c_n120 (by rw [k_n120]; exact List.forall_mem_cons.2 ⟨v_n114, List.forall_mem_cons.2 ⟨v_n106, List.forall_mem_cons.2 ⟨v_n106, List.forall_mem_cons.2 ⟨v_n90, List.forall_mem_cons.2 ⟨v_n90, List.forall_mem_cons.2 ⟨v_n111, List.forall_mem_cons.2 ⟨v_n114, List.forall_mem_nil _⟩⟩⟩⟩⟩⟩⟩) (law_WR_ok E0 rfl rfl rfl rfl) (by rw [i_n120]; exact List.forall_mem_nil _) (by kernel_rfl)
end Go.Abs.V1
