/- The translated functions are those that the lemmas speak of; so each meets its contract. -/
import Derived.Test.YtibpieaaajdpkaaDoorRows
import Derived.Test.YtibpieaaajdpkaaDoorA
import Derived.Test.YtibpieaaajdpkaaDoorB
import Derived.Test.YtibpieaaajdpkaaDoorC
import Derived.Test.YtibpieaaajdpkaaDoorD
import Derived.Test.YtibpieaaajdpkaaDoorE
import Derived.Test.YtibpieaaajdpkaaDoorF
import Derived.Test.YtibpieaaajdpkaaDoorG
import Derived.KernelRfl
set_option linter.unusedSimpArgs false
set_option linter.unusedVariables false
set_option linter.unusedSectionVars false
namespace Go.Abs.V1
open Go.Proofs
set_option maxRecDepth 100000
def nu : Nat → FuncId
  | 0 => 14
  | 1 => 15
  | 2 => 17
  | 3 => 11
  | 4 => 30
  | 5 => 31
  | 6 => 18
  | 7 => 33
  | 8 => 21
  | 9 => 24
  | 10 => 36
  | 11 => 37
  | 12 => 38
  | 13 => 40
  | 14 => 10
  | 16 => 13
  | 19 => 20
  | 21 => 23
  | 22 => 25
  | 23 => 26
  | 29 => 35
  | 30 => 39
  | 34 => 6
  | 36 => 8
  | 37 => 9
  | _ => 0
def gnum : Nat → Nat
  | 0 => 1
  | _ => 0
def gG : Nat → Contract
  | 0 => beginC
  | 1 => addC
  | 2 => sumC
  | 3 => hsumC
  | 4 => comprC
  | 5 => mac1C
  | 6 => macC
  | 7 => bytesC
  | 8 => ofC
  | 9 => equalC
  | 10 => schedC
  | 11 => mixC
  | 12 => intC
  | 13 => rotC
  | 14 => sanC
  | 16 => fewC
  | 19 => text32C
  | 21 => inputC
  | 22 => hexC
  | 23 => text16C
  | 29 => rbytesC
  | 30 => rintC
  | 34 => lawMac
  | 36 => lawSep
  | 37 => lawEqual
  | _ => ⟨fun _ => False, fun _ => .undef⟩
def gT : Nat → List AVal
  | 0 => w32s kc
  | _ => []
def E0 : Env := { G := gG, T := gT }
noncomputable def K0 : Cx := { P := Tryd.prog, nu := nu, globs := [], N := { gnum := gnum, gs := [0] }, E := E0 }
theorem c_n0 : chkFun K0 f_hash_Begin Tryd.f14 = true := by kernel_rfl
theorem k_n0 : callees f_hash_Begin.body = [] := by kernel_rfl
theorem v_n0 : Valid K0 0 beginC := fun_valid (K := K0) (f := 0) (F := f_hash_Begin) Tryd.func14 c_n0 (by rw [k_n0]; exact List.forall_mem_nil _) (begin_ok E0)
theorem c_n13 : chkFun K0 f_bits_RotateLeft32 Tryd.f40 = true := by kernel_rfl
theorem k_n13 : callees f_bits_RotateLeft32.body = [] := by kernel_rfl
theorem v_n13 : Valid K0 13 rotC := fun_valid (K := K0) (f := 13) (F := f_bits_RotateLeft32) Tryd.func40 c_n13 (by rw [k_n13]; exact List.forall_mem_nil _) (rot_ok E0)
theorem c_n10 : chkFun K0 f_hash_schedule Tryd.f36 = true := by kernel_rfl
theorem k_n10 : callees f_hash_schedule.body = [13, 13, 13, 13] := by kernel_rfl
theorem v_n10 : Valid K0 10 schedC := fun_valid (K := K0) (f := 10) (F := f_hash_schedule) Tryd.func36 c_n10 (by rw [k_n10]; exact List.forall_mem_cons.2 ⟨v_n13, List.forall_mem_cons.2 ⟨v_n13, List.forall_mem_cons.2 ⟨v_n13, List.forall_mem_cons.2 ⟨v_n13, List.forall_mem_nil _⟩⟩⟩⟩) (sched_ok E0 rfl)
theorem c_n11 : chkFun K0 f_hash_mix Tryd.f37 = true := by kernel_rfl
theorem k_n11 : callees f_hash_mix.body = [13, 13, 13] := by kernel_rfl
theorem v_n11 : Valid K0 11 mixC := fun_valid (K := K0) (f := 11) (F := f_hash_mix) Tryd.func37 c_n11 (by rw [k_n11]; exact List.forall_mem_cons.2 ⟨v_n13, List.forall_mem_cons.2 ⟨v_n13, List.forall_mem_cons.2 ⟨v_n13, List.forall_mem_nil _⟩⟩⟩) (mix_ok E0 rfl)
theorem c_n4 : chkFun K0 f_hash_compress Tryd.f30 = true := by kernel_rfl
theorem k_n4 : callees f_hash_compress.body = [10, 11, 11] := by kernel_rfl
theorem v_n4 : Valid K0 4 comprC := fun_valid (K := K0) (f := 4) (F := f_hash_compress) Tryd.func30 c_n4 (by rw [k_n4]; exact List.forall_mem_cons.2 ⟨v_n10, List.forall_mem_cons.2 ⟨v_n11, List.forall_mem_cons.2 ⟨v_n11, List.forall_mem_nil _⟩⟩⟩) (compr_ok E0 rfl rfl rfl)
theorem c_n1 : chkFun K0 f_hash_Stream_Add Tryd.f15 = true := by kernel_rfl
theorem k_n1 : callees f_hash_Stream_Add.body = [4] := by kernel_rfl
theorem v_n1 : Valid K0 1 addC := fun_valid (K := K0) (f := 1) (F := f_hash_Stream_Add) Tryd.func15 c_n1 (by rw [k_n1]; exact List.forall_mem_cons.2 ⟨v_n4, List.forall_mem_nil _⟩) (add_ok E0 rfl)
theorem c_n2 : chkFun K0 f_hash_Stream_Sum Tryd.f17 = true := by kernel_rfl
theorem k_n2 : callees f_hash_Stream_Sum.body = [1] := by kernel_rfl
theorem v_n2 : Valid K0 2 sumC := fun_valid (K := K0) (f := 2) (F := f_hash_Stream_Sum) Tryd.func17 c_n2 (by rw [k_n2]; exact List.forall_mem_cons.2 ⟨v_n1, List.forall_mem_nil _⟩) (sum_ok E0 rfl)
theorem c_n3 : chkFun K0 f_hash_Sum Tryd.f11 = true := by kernel_rfl
theorem k_n3 : callees f_hash_Sum.body = [0, 1, 2] := by kernel_rfl
theorem v_n3 : Valid K0 3 hsumC := fun_valid (K := K0) (f := 3) (F := f_hash_Sum) Tryd.func11 c_n3 (by rw [k_n3]; exact List.forall_mem_cons.2 ⟨v_n0, List.forall_mem_cons.2 ⟨v_n1, List.forall_mem_cons.2 ⟨v_n2, List.forall_mem_nil _⟩⟩⟩) (hsum_ok E0 rfl rfl rfl)
theorem c_n12 : chkFun K0 f_wire_Int Tryd.f38 = true := by kernel_rfl
theorem k_n12 : callees f_wire_Int.body = [] := by kernel_rfl
theorem v_n12 : Valid K0 12 intC := fun_valid (K := K0) (f := 12) (F := f_wire_Int) Tryd.func38 c_n12 (by rw [k_n12]; exact List.forall_mem_nil _) (int_ok E0)
theorem c_n7 : chkFun K0 f_wire_Bytes Tryd.f33 = true := by kernel_rfl
theorem k_n7 : callees f_wire_Bytes.body = [12] := by kernel_rfl
theorem v_n7 : Valid K0 7 bytesC := fun_valid (K := K0) (f := 7) (F := f_wire_Bytes) Tryd.func33 c_n7 (by rw [k_n7]; exact List.forall_mem_cons.2 ⟨v_n12, List.forall_mem_nil _⟩) (bytes_ok E0 rfl)
theorem c_n8 : chkFun K0 f_hash_Of Tryd.f21 = true := by kernel_rfl
theorem k_n8 : callees f_hash_Of.body = [0, 1, 7, 1, 2] := by kernel_rfl
theorem v_n8 : Valid K0 8 ofC := fun_valid (K := K0) (f := 8) (F := f_hash_Of) Tryd.func21 c_n8 (by rw [k_n8]; exact List.forall_mem_cons.2 ⟨v_n0, List.forall_mem_cons.2 ⟨v_n1, List.forall_mem_cons.2 ⟨v_n7, List.forall_mem_cons.2 ⟨v_n1, List.forall_mem_cons.2 ⟨v_n2, List.forall_mem_nil _⟩⟩⟩⟩⟩) (of_ok E0 rfl rfl rfl rfl)
theorem c_n5 : chkFun K0 f_hash_Mac_1 Tryd.f31 = true := by kernel_rfl
theorem k_n5 : callees f_hash_Mac_1.body = [] := by kernel_rfl
theorem v_n5 : Valid K0 5 mac1C := fun_valid (K := K0) (f := 5) (F := f_hash_Mac_1) Tryd.func31 c_n5 (by rw [k_n5]; exact List.forall_mem_nil _) (mac1_ok E0)
theorem c_n6 : chkFun K0 f_hash_Mac Tryd.f18 = true := by kernel_rfl
theorem k_n6 : callees f_hash_Mac.body = [3, 0, 5, 1, 1, 2, 0, 5, 1, 1, 2] := by kernel_rfl
theorem v_n6 : Valid K0 6 macC := fun_valid (K := K0) (f := 6) (F := f_hash_Mac) Tryd.func18 c_n6 (by rw [k_n6]; exact List.forall_mem_cons.2 ⟨v_n3, List.forall_mem_cons.2 ⟨v_n0, List.forall_mem_cons.2 ⟨v_n5, List.forall_mem_cons.2 ⟨v_n1, List.forall_mem_cons.2 ⟨v_n1, List.forall_mem_cons.2 ⟨v_n2, List.forall_mem_cons.2 ⟨v_n0, List.forall_mem_cons.2 ⟨v_n5, List.forall_mem_cons.2 ⟨v_n1, List.forall_mem_cons.2 ⟨v_n1, List.forall_mem_cons.2 ⟨v_n2, List.forall_mem_nil _⟩⟩⟩⟩⟩⟩⟩⟩⟩⟩⟩) (mac_ok E0 rfl rfl rfl rfl rfl)
theorem c_n9 : chkFun K0 f_hash_Equal Tryd.f24 = true := by kernel_rfl
theorem k_n9 : callees f_hash_Equal.body = [] := by kernel_rfl
theorem v_n9 : Valid K0 9 equalC := fun_valid (K := K0) (f := 9) (F := f_hash_Equal) Tryd.func24 c_n9 (by rw [k_n9]; exact List.forall_mem_nil _) (equal_ok E0)
theorem c_n19 : chkFun K0 f_custodyref02_Bytes32 Tryd.f20 = true := by kernel_rfl
theorem k_n19 : callees f_custodyref02_Bytes32.body = [] := by kernel_rfl
theorem v_n19 : Valid K0 19 text32C := fun_valid (K := K0) (f := 19) (F := f_custodyref02_Bytes32) Tryd.func20 c_n19 (by rw [k_n19]; exact List.forall_mem_nil _) (text32_ok E0)
theorem c_n22 : chkFun K0 f_custodylaw02_hex Tryd.f25 = true := by kernel_rfl
theorem k_n22 : callees f_custodylaw02_hex.body = [] := by kernel_rfl
theorem v_n22 : Valid K0 22 hexC := fun_valid (K := K0) (f := 22) (F := f_custodylaw02_hex) Tryd.func25 c_n22 (by rw [k_n22]; exact List.forall_mem_nil _) (hex_ok E0)
theorem c_n23 : chkFun K0 f_custodyref02_Text Tryd.f26 = true := by kernel_rfl
theorem k_n23 : callees f_custodyref02_Text.body = [] := by kernel_rfl
theorem v_n23 : Valid K0 23 text16C := fun_valid (K := K0) (f := 23) (F := f_custodyref02_Text) Tryd.func26 c_n23 (by rw [k_n23]; exact List.forall_mem_nil _) (text16_ok E0)
theorem c_n14 : chkFun K0 f_custodylaw02_sanity Tryd.f10 = true := by kernel_rfl
theorem k_n14 : callees f_custodylaw02_sanity.body = [3, 0, 1, 1, 2, 8, 6, 9, 9, 9, 19, 22, 22, 23, 22] := by kernel_rfl
theorem v_n14 : Valid K0 14 sanC := fun_valid (K := K0) (f := 14) (F := f_custodylaw02_sanity) Tryd.func10 c_n14 (by rw [k_n14]; exact List.forall_mem_cons.2 ⟨v_n3, List.forall_mem_cons.2 ⟨v_n0, List.forall_mem_cons.2 ⟨v_n1, List.forall_mem_cons.2 ⟨v_n1, List.forall_mem_cons.2 ⟨v_n2, List.forall_mem_cons.2 ⟨v_n8, List.forall_mem_cons.2 ⟨v_n6, List.forall_mem_cons.2 ⟨v_n9, List.forall_mem_cons.2 ⟨v_n9, List.forall_mem_cons.2 ⟨v_n9, List.forall_mem_cons.2 ⟨v_n19, List.forall_mem_cons.2 ⟨v_n22, List.forall_mem_cons.2 ⟨v_n22, List.forall_mem_cons.2 ⟨v_n23, List.forall_mem_cons.2 ⟨v_n22, List.forall_mem_nil _⟩⟩⟩⟩⟩⟩⟩⟩⟩⟩⟩⟩⟩⟩⟩) (san_ok E0 rfl rfl rfl rfl rfl rfl rfl rfl rfl rfl)
theorem c_n34 : chkFun K0 f_custodylaw02_HashMacKeys Tryd.f6 = true := by kernel_rfl
theorem k_n34 : callees f_custodylaw02_HashMacKeys.body = [14, 6, 3, 19, 6, 6] := by kernel_rfl
theorem v_n34 : Valid K0 34 lawMac := fun_valid (K := K0) (f := 34) (F := f_custodylaw02_HashMacKeys) Tryd.func6 c_n34 (by rw [k_n34]; exact List.forall_mem_cons.2 ⟨v_n14, List.forall_mem_cons.2 ⟨v_n6, List.forall_mem_cons.2 ⟨v_n3, List.forall_mem_cons.2 ⟨v_n19, List.forall_mem_cons.2 ⟨v_n6, List.forall_mem_cons.2 ⟨v_n6, List.forall_mem_nil _⟩⟩⟩⟩⟩⟩) (law_MacKeys_ok E0 rfl rfl rfl rfl)
theorem c_n16 : chkFun K0 f_custodyref02_Few Tryd.f13 = true := by kernel_rfl
theorem k_n16 : callees f_custodyref02_Few.body = [] := by kernel_rfl
theorem v_n16 : Valid K0 16 fewC := fun_valid (K := K0) (f := 16) (F := f_custodyref02_Few) Tryd.func13 c_n16 (by rw [k_n16]; exact List.forall_mem_nil _) (few_ok E0)
theorem c_n30 : chkFun K0 f_custodyref01_Int Tryd.f39 = true := by kernel_rfl
theorem k_n30 : callees f_custodyref01_Int.body = [] := by kernel_rfl
theorem v_n30 : Valid K0 30 rintC := fun_valid (K := K0) (f := 30) (F := f_custodyref01_Int) Tryd.func39 c_n30 (by rw [k_n30]; exact List.forall_mem_nil _) (rint_ok E0)
theorem c_n29 : chkFun K0 f_custodyref01_Bytes Tryd.f35 = true := by kernel_rfl
theorem k_n29 : callees f_custodyref01_Bytes.body = [30] := by kernel_rfl
theorem v_n29 : Valid K0 29 rbytesC := fun_valid (K := K0) (f := 29) (F := f_custodyref01_Bytes) Tryd.func35 c_n29 (by rw [k_n29]; exact List.forall_mem_cons.2 ⟨v_n30, List.forall_mem_nil _⟩) (rbytes_ok E0 rfl)
theorem c_n21 : chkFun K0 f_custodyref02_Input Tryd.f23 = true := by kernel_rfl
theorem k_n21 : callees f_custodyref02_Input.body = [29] := by kernel_rfl
theorem v_n21 : Valid K0 21 inputC := fun_valid (K := K0) (f := 21) (F := f_custodyref02_Input) Tryd.func23 c_n21 (by rw [k_n21]; exact List.forall_mem_cons.2 ⟨v_n29, List.forall_mem_nil _⟩) (input_ok E0 rfl)
theorem c_n36 : chkFun K0 f_custodylaw02_HashOfSeparates Tryd.f8 = true := by kernel_rfl
theorem k_n36 : callees f_custodylaw02_HashOfSeparates.body = [14, 16, 16, 21, 21, 8, 8, 3, 3] := by kernel_rfl
theorem v_n36 : Valid K0 36 lawSep := fun_valid (K := K0) (f := 36) (F := f_custodylaw02_HashOfSeparates) Tryd.func8 c_n36 (by rw [k_n36]; exact List.forall_mem_cons.2 ⟨v_n14, List.forall_mem_cons.2 ⟨v_n16, List.forall_mem_cons.2 ⟨v_n16, List.forall_mem_cons.2 ⟨v_n21, List.forall_mem_cons.2 ⟨v_n21, List.forall_mem_cons.2 ⟨v_n8, List.forall_mem_cons.2 ⟨v_n8, List.forall_mem_cons.2 ⟨v_n3, List.forall_mem_cons.2 ⟨v_n3, List.forall_mem_nil _⟩⟩⟩⟩⟩⟩⟩⟩⟩) (law_Sep_ok E0 rfl rfl rfl rfl rfl)
theorem c_n37 : chkFun K0 f_custodylaw02_HashEqualIsEquality Tryd.f9 = true := by kernel_rfl
theorem k_n37 : callees f_custodylaw02_HashEqualIsEquality.body = [14, 9, 9, 9] := by kernel_rfl
theorem v_n37 : Valid K0 37 lawEqual := fun_valid (K := K0) (f := 37) (F := f_custodylaw02_HashEqualIsEquality) Tryd.func9 c_n37 (by rw [k_n37]; exact List.forall_mem_cons.2 ⟨v_n14, List.forall_mem_cons.2 ⟨v_n9, List.forall_mem_cons.2 ⟨v_n9, List.forall_mem_cons.2 ⟨v_n9, List.forall_mem_nil _⟩⟩⟩⟩) (law_Equal_ok E0 rfl rfl)
end Go.Abs.V1
