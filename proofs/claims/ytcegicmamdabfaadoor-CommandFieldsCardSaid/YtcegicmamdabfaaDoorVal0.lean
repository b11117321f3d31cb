/- The translated functions are those that the lemmas speak of; so each meets its contract. -/
import Derived.Test.YtcegicmamdabfaaDoorRows
import Derived.Test.YtcegicmamdabfaaDoorA
import Derived.Test.YtcegicmamdabfaaDoorB
import Derived.Test.YtcegicmamdabfaaDoorC
import Derived.Test.YtcegicmamdabfaaDoorD
import Derived.Test.YtcegicmamdabfaaDoorT
import Derived.Test.YtcegicmamdabfaaDoorE
import Derived.Test.YtcegicmamdabfaaDoorF
import Derived.Test.YtcegicmamdabfaaDoorG
import Derived.Test.YtcegicmamdabfaaDoorH
import Derived.Test.YtcegicmamdabfaaDoorI
import Derived.Test.YtcegicmamdabfaaDoorW
import Derived.Test.YtcegicmamdabfaaDoorK
import Derived.Test.YtcegicmamdabfaaDoorL
import Derived.Test.YtcegicmamdabfaaDoorM
import Derived.Test.YtcegicmamdabfaaDoorU
import Derived.Test.YtcegicmamdabfaaDoorN
import Derived.Test.YtcegicmamdabfaaDoorO
import Derived.Test.YtcegicmamdabfaaDoorS
import Derived.Test.YtcegicmamdabfaaDoorP
import Derived.Test.YtcegicmamdabfaaDoorQ
import Derived.Test.YtcegicmamdabfaaDoorJ
import Derived.KernelRfl
set_option linter.unusedSimpArgs false
set_option linter.unusedVariables false
set_option linter.unusedSectionVars false
namespace Go.Abs.V0
open Go.Proofs
set_option maxRecDepth 100000
def nu : Nat → FuncId
  | 0 => 53
  | 1 => 54
  | 2 => 55
  | 4 => 63
  | 7 => 36
  | 8 => 41
  | 10 => 67
  | 11 => 68
  | 12 => 34
  | 13 => 73
  | 15 => 64
  | 20 => 42
  | 21 => 57
  | 24 => 69
  | 25 => 70
  | 26 => 71
  | 28 => 56
  | 29 => 39
  | 30 => 38
  | 38 => 17
  | 39 => 37
  | 40 => 40
  | 45 => 58
  | 46 => 49
  | 47 => 65
  | 48 => 60
  | 49 => 62
  | 50 => 50
  | 51 => 66
  | 52 => 61
  | 53 => 51
  | 54 => 44
  | 61 => 72
  | 121 => 27
  | 122 => 26
  | 123 => 11
  | 124 => 29
  | 125 => 13
  | 126 => 30
  | 127 => 31
  | 128 => 15
  | 129 => 35
  | 130 => 18
  | 131 => 20
  | 132 => 43
  | 133 => 22
  | 134 => 45
  | 135 => 46
  | 136 => 47
  | 137 => 48
  | 138 => 24
  | 139 => 52
  | 140 => 59
  | 141 => 28
  | 142 => 12
  | 143 => 14
  | 144 => 32
  | 145 => 33
  | 146 => 16
  | 147 => 19
  | 148 => 21
  | 149 => 23
  | 150 => 25
  | 151 => 9
  | 152 => 10
  | 153 => 3
  | 154 => 4
  | 155 => 5
  | 156 => 6
  | 157 => 7
  | 158 => 8
  | _ => 0
def gnum : Nat → Nat
  | 0 => 1
  | 1 => 2
  | 2 => 0
  | _ => 0
def gG : Nat → Contract
  | 0 => beginC
  | 1 => addC
  | 2 => sumC
  | 4 => comprC
  | 7 => bytesC
  | 8 => ofC
  | 10 => schedC
  | 11 => mixC
  | 12 => intC
  | 13 => rotC
  | 15 => rsumC
  | 20 => rofC
  | 21 => inputC
  | 24 => paddedC
  | 25 => schedC
  | 26 => rotrC
  | 28 => shortC
  | 29 => rbytesC
  | 30 => rintC
  | 38 => sameC
  | 39 => wIntsC
  | 40 => rIntsC
  | 45 => getIntC
  | 46 => getIntC
  | 47 => cntC
  | 48 => getBytesC
  | 49 => rcntC
  | 50 => getBytesC
  | 52 => getIntsC
  | 53 => getIntsC
  | 54 => sameIC
  | 121 => kind1C
  | 122 => idxC
  | 123 => kindC
  | 124 => isKindC
  | 125 => nameC
  | 126 => numC
  | 127 => keysC
  | 128 => chkCC
  | 129 => concatC
  | 130 => encCC
  | 131 => digCC
  | 132 => sameIC
  | 133 => sameCC
  | 138 => decCC
  | 139 => growC
  | 141 => rrowsC
  | 142 => kindC
  | 143 => nameC
  | 144 => wthC
  | 145 => isLC
  | 146 => chkCC
  | 147 => encCC
  | 148 => digCC
  | 149 => sameCC
  | 150 => decCC
  | 151 => fwC
  | 152 => sanC
  | 153 => lawCM
  | 154 => lawCD
  | 155 => lawCR
  | 156 => lawCI
  | 157 => lawCR
  | 158 => lawCN
  | _ => ⟨fun _ => False, fun _ => .undef⟩
def gM : Nat → CM
  | 51 => readC
  | 61 => nextC
  | 134 => numbersM
  | 135 => dataM
  | 136 => listM
  | 137 => endM
  | 140 => skipM
  | _ => ⟨[], [], fun _ => False, fun _ => .undef, fun _ _ => []⟩
def gT : Nat → List AVal
  | 0 => w32s kc
  | 1 => w32s kc
  | 2 => rowsT
  | _ => []
def E0 : Env := { G := gG, T := gT, M := gM }
noncomputable def K0 : Cx := { P := Tryd.prog, nu := nu, globs := [], N := { gnum := gnum, gs := [0, 1, 2] }, E := E0 }
theorem c_n151 : chkFun K0 f_custodylaw28_few Tryd.f9 = true := by kernel_rfl
theorem k_n151 : callees f_custodylaw28_few.body = [] := by kernel_rfl
theorem i_n151 : iters f_custodylaw28_few.body = [] := by kernel_rfl
theorem v_n151 : Valid K0 151 fwC := fun_valid (K := K0) (f := 151) (F := f_custodylaw28_few) Tryd.func9 c_n151 (by rw [k_n151]; exact List.forall_mem_nil _) (fwc_ok E0) (by rw [i_n151]; exact List.forall_mem_nil _) (by kernel_rfl)
theorem c_n12 : chkFun K0 f_wire_Int Tryd.f34 = true := by kernel_rfl
theorem k_n12 : callees f_wire_Int.body = [] := by kernel_rfl
theorem i_n12 : iters f_wire_Int.body = [] := by kernel_rfl
theorem v_n12 : Valid K0 12 intC := fun_valid (K := K0) (f := 12) (F := f_wire_Int) Tryd.func34 c_n12 (by rw [k_n12]; exact List.forall_mem_nil _) (int_ok E0) (by rw [i_n12]; exact List.forall_mem_nil _) (by kernel_rfl)
theorem c_n7 : chkFun K0 f_wire_Bytes Tryd.f36 = true := by kernel_rfl
theorem k_n7 : callees f_wire_Bytes.body = [(12, false)] := by kernel_rfl
theorem i_n7 : iters f_wire_Bytes.body = [] := by kernel_rfl
theorem v_n7 : Valid K0 7 bytesC := fun_valid (K := K0) (f := 7) (F := f_wire_Bytes) Tryd.func36 c_n7 (by rw [k_n7]; exact List.forall_mem_cons.2 ⟨v_n12, List.forall_mem_nil _⟩) (bytes_ok E0 rfl) (by rw [i_n7]; exact List.forall_mem_nil _) (by kernel_rfl)
theorem c_n39 : chkFun K0 f_wire_Ints Tryd.f37 = true := by kernel_rfl
theorem k_n39 : callees f_wire_Ints.body = [(12, false), (12, false)] := by kernel_rfl
theorem i_n39 : iters f_wire_Ints.body = [] := by kernel_rfl
theorem v_n39 : Valid K0 39 wIntsC := fun_valid (K := K0) (f := 39) (F := f_wire_Ints) Tryd.func37 c_n39 (by rw [k_n39]; exact List.forall_mem_cons.2 ⟨v_n12, List.forall_mem_cons.2 ⟨v_n12, List.forall_mem_nil _⟩⟩) (ints_ok E0 rfl) (by rw [i_n39]; exact List.forall_mem_nil _) (by kernel_rfl)
theorem v_n139 : Valid K0 139 growC := Go.Abs.TrydG.grow_valid rfl rfl ⟨Tryd.f52, Tryd.func52, by kernel_rfl, by kernel_rfl⟩
theorem c_n129 : chkFun K0 f_slices_Concat Tryd.f35 = true := by kernel_rfl
theorem k_n129 : callees f_slices_Concat.body = [(139, false)] := by kernel_rfl
theorem i_n129 : iters f_slices_Concat.body = [] := by kernel_rfl
theorem v_n129 : Valid K0 129 concatC := fun_valid (K := K0) (f := 129) (F := f_slices_Concat) Tryd.func35 c_n129 (by rw [k_n129]; exact List.forall_mem_cons.2 ⟨v_n139, List.forall_mem_nil _⟩) (concat_ok E0 rfl) (by rw [i_n129]; exact List.forall_mem_nil _) (by kernel_rfl)
theorem c_n130 : chkFun K0 f_command_Encode Tryd.f18 = true := by kernel_rfl
theorem k_n130 : callees f_command_Encode.body = [(12, false), (7, false), (39, false), (129, false)] := by kernel_rfl
theorem i_n130 : iters f_command_Encode.body = [] := by kernel_rfl
theorem v_n130 : Valid K0 130 encCC := fun_valid (K := K0) (f := 130) (F := f_command_Encode) Tryd.func18 c_n130 (by rw [k_n130]; exact List.forall_mem_cons.2 ⟨v_n12, List.forall_mem_cons.2 ⟨v_n7, List.forall_mem_cons.2 ⟨v_n39, List.forall_mem_cons.2 ⟨v_n129, List.forall_mem_nil _⟩⟩⟩⟩) (cEnc_ok E0 rfl rfl rfl rfl) (by rw [i_n130]; exact List.forall_mem_nil _) (by kernel_rfl)
theorem c_n45 : chkFun K0 f_wire_GetInt Tryd.f58 = true := by kernel_rfl
theorem k_n45 : callees f_wire_GetInt.body = [] := by kernel_rfl
theorem i_n45 : iters f_wire_GetInt.body = [] := by kernel_rfl
theorem v_n45 : Valid K0 45 getIntC := fun_valid (K := K0) (f := 45) (F := f_wire_GetInt) Tryd.func58 c_n45 (by rw [k_n45]; exact List.forall_mem_nil _) (getint_ok E0) (by rw [i_n45]; exact List.forall_mem_nil _) (by kernel_rfl)
theorem c_n140 : chkFun K0 f_command_reader_skip Tryd.f59 = true := by kernel_rfl
theorem k_n140 : callees f_command_reader_skip.body = [] := by kernel_rfl
theorem i_n140 : iters f_command_reader_skip.body = [] := by kernel_rfl
theorem v_n140 : ValidM K0 140 skipM := fun_validM (K := K0) (f := 140) (F := f_command_reader_skip) Tryd.func59 c_n140 (by rw [k_n140]; exact List.forall_mem_nil _) (by decide) (skip_ok E0) (by rw [i_n140]; exact List.forall_mem_nil _) (by kernel_rfl)
theorem c_n134 : chkFun K0 f_command_reader_numbers Tryd.f45 = true := by kernel_rfl
theorem k_n134 : callees f_command_reader_numbers.body = [(45, false), (140, true)] := by kernel_rfl
theorem i_n134 : iters f_command_reader_numbers.body = [] := by kernel_rfl
theorem v_n134 : ValidM K0 134 numbersM := fun_validM (K := K0) (f := 134) (F := f_command_reader_numbers) Tryd.func45 c_n134 (by rw [k_n134]; exact List.forall_mem_cons.2 ⟨v_n45, List.forall_mem_cons.2 ⟨v_n140, List.forall_mem_nil _⟩⟩) (by decide) (numbers_ok E0 rfl rfl) (by rw [i_n134]; exact List.forall_mem_nil _) (by kernel_rfl)
theorem c_n47 : chkFun K0 f_wire_count Tryd.f65 = true := by kernel_rfl
theorem k_n47 : callees f_wire_count.body = [(45, false)] := by kernel_rfl
theorem i_n47 : iters f_wire_count.body = [] := by kernel_rfl
theorem v_n47 : Valid K0 47 cntC := fun_valid (K := K0) (f := 47) (F := f_wire_count) Tryd.func65 c_n47 (by rw [k_n47]; exact List.forall_mem_cons.2 ⟨v_n45, List.forall_mem_nil _⟩) (cnt_ok E0 rfl) (by rw [i_n47]; exact List.forall_mem_nil _) (by kernel_rfl)
theorem c_n48 : chkFun K0 f_wire_GetBytes Tryd.f60 = true := by kernel_rfl
theorem k_n48 : callees f_wire_GetBytes.body = [(47, false)] := by kernel_rfl
theorem i_n48 : iters f_wire_GetBytes.body = [] := by kernel_rfl
theorem v_n48 : Valid K0 48 getBytesC := fun_valid (K := K0) (f := 48) (F := f_wire_GetBytes) Tryd.func60 c_n48 (by rw [k_n48]; exact List.forall_mem_cons.2 ⟨v_n47, List.forall_mem_nil _⟩) (getbytes_ok E0 rfl) (by rw [i_n48]; exact List.forall_mem_nil _) (by kernel_rfl)
theorem c_n135 : chkFun K0 f_command_reader_data Tryd.f46 = true := by kernel_rfl
theorem k_n135 : callees f_command_reader_data.body = [(48, false), (140, true)] := by kernel_rfl
theorem i_n135 : iters f_command_reader_data.body = [] := by kernel_rfl
theorem v_n135 : ValidM K0 135 dataM := fun_validM (K := K0) (f := 135) (F := f_command_reader_data) Tryd.func46 c_n135 (by rw [k_n135]; exact List.forall_mem_cons.2 ⟨v_n48, List.forall_mem_cons.2 ⟨v_n140, List.forall_mem_nil _⟩⟩) (by decide) (data_ok E0 rfl rfl) (by rw [i_n135]; exact List.forall_mem_nil _) (by kernel_rfl)
theorem c_n51 : chkFun K0 f_wire_reader Tryd.f66 = true := by kernel_rfl
theorem k_n51 : callees f_wire_reader.body = [] := by kernel_rfl
theorem i_n51 : iters f_wire_reader.body = [] := by kernel_rfl
theorem v_n51 : ValidM K0 51 readC := fun_validM (K := K0) (f := 51) (F := f_wire_reader) Tryd.func66 c_n51 (by rw [k_n51]; exact List.forall_mem_nil _) (by decide) (read_ok E0) (by rw [i_n51]; exact List.forall_mem_nil _) (by kernel_rfl)
theorem c_n61 : chkFun K0 f_wire_reader_1 Tryd.f72 = true := by kernel_rfl
theorem k_n61 : callees f_wire_reader_1.body = [(45, false)] := by kernel_rfl
theorem i_n61 : iters f_wire_reader_1.body = [] := by kernel_rfl
theorem v_n61 : ValidM K0 61 nextC := fun_validM (K := K0) (f := 61) (F := f_wire_reader_1) Tryd.func72 c_n61 (by rw [k_n61]; exact List.forall_mem_cons.2 ⟨v_n45, List.forall_mem_nil _⟩) (by decide) (next_ok E0 rfl) (by rw [i_n61]; exact List.forall_mem_nil _) (by kernel_rfl)
theorem c_n52 : chkFun K0 f_wire_GetInts Tryd.f61 = true := by kernel_rfl
theorem k_n52 : callees f_wire_GetInts.body = [(47, false), (51, true), (61, true)] := by kernel_rfl
theorem i_n52 : iters f_wire_GetInts.body = [] := by kernel_rfl
theorem v_n52 : Valid K0 52 getIntsC := fun_valid (K := K0) (f := 52) (F := f_wire_GetInts) Tryd.func61 c_n52 (by rw [k_n52]; exact List.forall_mem_cons.2 ⟨v_n47, List.forall_mem_cons.2 ⟨v_n51, List.forall_mem_cons.2 ⟨v_n61, List.forall_mem_nil _⟩⟩⟩) (getints_ok E0 rfl rfl rfl) (by rw [i_n52]; exact List.forall_mem_nil _) (by kernel_rfl)
theorem c_n136 : chkFun K0 f_command_reader_list Tryd.f47 = true := by kernel_rfl
theorem k_n136 : callees f_command_reader_list.body = [(52, false), (140, true)] := by kernel_rfl
theorem i_n136 : iters f_command_reader_list.body = [] := by kernel_rfl
theorem v_n136 : ValidM K0 136 listM := fun_validM (K := K0) (f := 136) (F := f_command_reader_list) Tryd.func47 c_n136 (by rw [k_n136]; exact List.forall_mem_cons.2 ⟨v_n52, List.forall_mem_cons.2 ⟨v_n140, List.forall_mem_nil _⟩⟩) (by decide) (list_ok E0 rfl rfl) (by rw [i_n136]; exact List.forall_mem_nil _) (by kernel_rfl)
theorem c_n124 : chkFun K0 f_command_isKind Tryd.f29 = true := by kernel_rfl
theorem k_n124 : callees f_command_isKind.body = [] := by kernel_rfl
theorem i_n124 : iters f_command_isKind.body = [] := by kernel_rfl
theorem v_n124 : Valid K0 124 isKindC := fun_valid (K := K0) (f := 124) (F := f_command_isKind) Tryd.func29 c_n124 (by rw [k_n124]; exact List.forall_mem_nil _) (isk_ok E0) (by rw [i_n124]; exact List.forall_mem_nil _) (by kernel_rfl)
theorem c_n126 : chkFun K0 f_command_row_number Tryd.f30 = true := by kernel_rfl
theorem k_n126 : callees f_command_row_number.body = [] := by kernel_rfl
theorem i_n126 : iters f_command_row_number.body = [] := by kernel_rfl
theorem v_n126 : Valid K0 126 numC := fun_valid (K := K0) (f := 126) (F := f_command_row_number) Tryd.func30 c_n126 (by rw [k_n126]; exact List.forall_mem_nil _) (num_ok E0) (by rw [i_n126]; exact List.forall_mem_nil _) (by kernel_rfl)
theorem c_n127 : chkFun K0 f_command_row_keys Tryd.f31 = true := by kernel_rfl
theorem k_n127 : callees f_command_row_keys.body = [] := by kernel_rfl
theorem i_n127 : iters f_command_row_keys.body = [] := by kernel_rfl
theorem v_n127 : Valid K0 127 keysC := fun_valid (K := K0) (f := 127) (F := f_command_row_keys) Tryd.func31 c_n127 (by rw [k_n127]; exact List.forall_mem_nil _) (keys_ok E0) (by rw [i_n127]; exact List.forall_mem_nil _) (by kernel_rfl)
theorem c_n128 : chkFun K0 f_command_Check Tryd.f15 = true := by kernel_rfl
theorem k_n128 : callees f_command_Check.body = [(124, false), (126, false), (126, false), (126, false), (126, false), (126, false), (127, false)] := by kernel_rfl
theorem i_n128 : iters f_command_Check.body = [] := by kernel_rfl
theorem v_n128 : Valid K0 128 chkCC := fun_valid (K := K0) (f := 128) (F := f_command_Check) Tryd.func15 c_n128 (by rw [k_n128]; exact List.forall_mem_cons.2 ⟨v_n124, List.forall_mem_cons.2 ⟨v_n126, List.forall_mem_cons.2 ⟨v_n126, List.forall_mem_cons.2 ⟨v_n126, List.forall_mem_cons.2 ⟨v_n126, List.forall_mem_cons.2 ⟨v_n126, List.forall_mem_cons.2 ⟨v_n127, List.forall_mem_nil _⟩⟩⟩⟩⟩⟩⟩) (chk_ok E0 rfl rfl rfl rfl) (by rw [i_n128]; exact List.forall_mem_nil _) (by kernel_rfl)
theorem c_n137 : chkFun K0 f_command_reader_end Tryd.f48 = true := by kernel_rfl
theorem k_n137 : callees f_command_reader_end.body = [(128, false)] := by kernel_rfl
theorem i_n137 : iters f_command_reader_end.body = [] := by kernel_rfl
theorem v_n137 : ValidM K0 137 endM := fun_validM (K := K0) (f := 137) (F := f_command_reader_end) Tryd.func48 c_n137 (by rw [k_n137]; exact List.forall_mem_cons.2 ⟨v_n128, List.forall_mem_nil _⟩) (by decide) (end_ok E0 rfl) (by rw [i_n137]; exact List.forall_mem_nil _) (by kernel_rfl)
theorem c_n138 : chkFun K0 f_command_Decode Tryd.f24 = true := by kernel_rfl
theorem k_n138 : callees f_command_Decode.body = [(134, true), (135, true), (136, true), (137, true)] := by kernel_rfl
theorem i_n138 : iters f_command_Decode.body = [] := by kernel_rfl
theorem v_n138 : Valid K0 138 decCC := fun_valid (K := K0) (f := 138) (F := f_command_Decode) Tryd.func24 c_n138 (by rw [k_n138]; exact List.forall_mem_cons.2 ⟨v_n134, List.forall_mem_cons.2 ⟨v_n135, List.forall_mem_cons.2 ⟨v_n136, List.forall_mem_cons.2 ⟨v_n137, List.forall_mem_nil _⟩⟩⟩⟩) (cDec_ok E0 rfl rfl rfl rfl) (by rw [i_n138]; exact List.forall_mem_nil _) (by kernel_rfl)
theorem c_n121 : chkFun K0 f_command_Kind_1 Tryd.f27 = true := by kernel_rfl
theorem k_n121 : callees f_command_Kind_1.body = [] := by kernel_rfl
theorem i_n121 : iters f_command_Kind_1.body = [] := by kernel_rfl
theorem v_n121 : Valid K0 121 kind1C := fun_valid (K := K0) (f := 121) (F := f_command_Kind_1) Tryd.func27 c_n121 (by rw [k_n121]; exact List.forall_mem_nil _) (kind1_ok E0) (by rw [i_n121]; exact List.forall_mem_nil _) (by kernel_rfl)
theorem c_n122 : chkFun K0 f_slices_IndexFunc_command_Kind_1 Tryd.f26 = true := by kernel_rfl
theorem k_n122 : callees f_slices_IndexFunc_command_Kind_1.body = [(121, false)] := by kernel_rfl
theorem i_n122 : iters f_slices_IndexFunc_command_Kind_1.body = [] := by kernel_rfl
theorem v_n122 : Valid K0 122 idxC := fun_valid (K := K0) (f := 122) (F := f_slices_IndexFunc_command_Kind_1) Tryd.func26 c_n122 (by rw [k_n122]; exact List.forall_mem_cons.2 ⟨v_n121, List.forall_mem_nil _⟩) (idx_ok E0 rfl) (by rw [i_n122]; exact List.forall_mem_nil _) (by kernel_rfl)
theorem c_n123 : chkFun K0 f_command_Kind Tryd.f11 = true := by kernel_rfl
theorem k_n123 : callees f_command_Kind.body = [(122, false)] := by kernel_rfl
theorem i_n123 : iters f_command_Kind.body = [] := by kernel_rfl
theorem v_n123 : Valid K0 123 kindC := fun_valid (K := K0) (f := 123) (F := f_command_Kind) Tryd.func11 c_n123 (by rw [k_n123]; exact List.forall_mem_cons.2 ⟨v_n122, List.forall_mem_nil _⟩) (kind_ok E0 rfl rfl) (by rw [i_n123]; exact List.forall_mem_nil _) (by kernel_rfl)
theorem c_n38 : chkFun K0 f_custodyref01_Same Tryd.f17 = true := by kernel_rfl
theorem k_n38 : callees f_custodyref01_Same.body = [] := by kernel_rfl
theorem i_n38 : iters f_custodyref01_Same.body = [] := by kernel_rfl
theorem v_n38 : Valid K0 38 sameC := fun_valid (K := K0) (f := 38) (F := f_custodyref01_Same) Tryd.func17 c_n38 (by rw [k_n38]; exact List.forall_mem_nil _) (rsame_ok E0) (by rw [i_n38]; exact List.forall_mem_nil _) (by kernel_rfl)
theorem c_n54 : chkFun K0 f_custodyref01_SameInts Tryd.f44 = true := by kernel_rfl
theorem k_n54 : callees f_custodyref01_SameInts.body = [] := by kernel_rfl
theorem i_n54 : iters f_custodyref01_SameInts.body = [] := by kernel_rfl
theorem v_n54 : Valid K0 54 sameIC := fun_valid (K := K0) (f := 54) (F := f_custodyref01_SameInts) Tryd.func44 c_n54 (by rw [k_n54]; exact List.forall_mem_nil _) (rsamei_ok E0) (by rw [i_n54]; exact List.forall_mem_nil _) (by kernel_rfl)
theorem c_n149 : chkFun K0 f_custodyref28_Same Tryd.f23 = true := by kernel_rfl
theorem k_n149 : callees f_custodyref28_Same.body = [(54, false)] := by kernel_rfl
theorem i_n149 : iters f_custodyref28_Same.body = [] := by kernel_rfl
theorem v_n149 : Valid K0 149 sameCC := fun_valid (K := K0) (f := 149) (F := f_custodyref28_Same) Tryd.func23 c_n149 (by rw [k_n149]; exact List.forall_mem_cons.2 ⟨v_n54, List.forall_mem_nil _⟩) (rSame_ok E0 rfl) (by rw [i_n149]; exact List.forall_mem_nil _) (by kernel_rfl)
theorem c_n125 : chkFun K0 f_command_Name Tryd.f13 = true := by kernel_rfl
theorem k_n125 : callees f_command_Name.body = [(124, false)] := by kernel_rfl
theorem i_n125 : iters f_command_Name.body = [] := by kernel_rfl
theorem v_n125 : Valid K0 125 nameC := fun_valid (K := K0) (f := 125) (F := f_command_Name) Tryd.func13 c_n125 (by rw [k_n125]; exact List.forall_mem_cons.2 ⟨v_n124, List.forall_mem_nil _⟩) (name_ok E0 rfl rfl) (by rw [i_n125]; exact List.forall_mem_nil _) (by kernel_rfl)
theorem c_n132 : chkFun K0 f_slices_Equal Tryd.f43 = true := by kernel_rfl
theorem k_n132 : callees f_slices_Equal.body = [] := by kernel_rfl
theorem i_n132 : iters f_slices_Equal.body = [] := by kernel_rfl
theorem v_n132 : Valid K0 132 sameIC := fun_valid (K := K0) (f := 132) (F := f_slices_Equal) Tryd.func43 c_n132 (by rw [k_n132]; exact List.forall_mem_nil _) (sEq_ok E0) (by rw [i_n132]; exact List.forall_mem_nil _) (by kernel_rfl)
theorem c_n133 : chkFun K0 f_command_Same Tryd.f22 = true := by kernel_rfl
theorem k_n133 : callees f_command_Same.body = [(132, false)] := by kernel_rfl
theorem i_n133 : iters f_command_Same.body = [] := by kernel_rfl
theorem v_n133 : Valid K0 133 sameCC := fun_valid (K := K0) (f := 133) (F := f_command_Same) Tryd.func22 c_n133 (by rw [k_n133]; exact List.forall_mem_cons.2 ⟨v_n132, List.forall_mem_nil _⟩) (cSame_ok E0 rfl) (by rw [i_n133]; exact List.forall_mem_nil _) (by kernel_rfl)
theorem c_n0 : chkFun K0 f_hash_Begin Tryd.f53 = true := by kernel_rfl
theorem k_n0 : callees f_hash_Begin.body = [] := by kernel_rfl
theorem i_n0 : iters f_hash_Begin.body = [] := by kernel_rfl
theorem v_n0 : Valid K0 0 beginC := fun_valid (K := K0) (f := 0) (F := f_hash_Begin) Tryd.func53 c_n0 (by rw [k_n0]; exact List.forall_mem_nil _) (begin_ok E0) (by rw [i_n0]; exact List.forall_mem_nil _) (by kernel_rfl)
theorem c_n13 : chkFun K0 f_bits_RotateLeft32 Tryd.f73 = true := by kernel_rfl
theorem k_n13 : callees f_bits_RotateLeft32.body = [] := by kernel_rfl
theorem i_n13 : iters f_bits_RotateLeft32.body = [] := by kernel_rfl
theorem v_n13 : Valid K0 13 rotC := fun_valid (K := K0) (f := 13) (F := f_bits_RotateLeft32) Tryd.func73 c_n13 (by rw [k_n13]; exact List.forall_mem_nil _) (rot_ok E0) (by rw [i_n13]; exact List.forall_mem_nil _) (by kernel_rfl)
theorem c_n10 : chkFun K0 f_hash_schedule Tryd.f67 = true := by kernel_rfl
theorem k_n10 : callees f_hash_schedule.body = [(13, false), (13, false), (13, false), (13, false)] := by kernel_rfl
theorem i_n10 : iters f_hash_schedule.body = [] := by kernel_rfl
theorem v_n10 : Valid K0 10 schedC := fun_valid (K := K0) (f := 10) (F := f_hash_schedule) Tryd.func67 c_n10 (by rw [k_n10]; exact List.forall_mem_cons.2 ⟨v_n13, List.forall_mem_cons.2 ⟨v_n13, List.forall_mem_cons.2 ⟨v_n13, List.forall_mem_cons.2 ⟨v_n13, List.forall_mem_nil _⟩⟩⟩⟩) (sched_ok E0 rfl) (by rw [i_n10]; exact List.forall_mem_nil _) (by kernel_rfl)
theorem c_n11 : chkFun K0 f_hash_mix Tryd.f68 = true := by kernel_rfl
theorem k_n11 : callees f_hash_mix.body = [(13, false), (13, false), (13, false)] := by kernel_rfl
theorem i_n11 : iters f_hash_mix.body = [] := by kernel_rfl
theorem v_n11 : Valid K0 11 mixC := fun_valid (K := K0) (f := 11) (F := f_hash_mix) Tryd.func68 c_n11 (by rw [k_n11]; exact List.forall_mem_cons.2 ⟨v_n13, List.forall_mem_cons.2 ⟨v_n13, List.forall_mem_cons.2 ⟨v_n13, List.forall_mem_nil _⟩⟩⟩) (mix_ok E0 rfl) (by rw [i_n11]; exact List.forall_mem_nil _) (by kernel_rfl)
theorem c_n4 : chkFun K0 f_hash_compress Tryd.f63 = true := by kernel_rfl
theorem k_n4 : callees f_hash_compress.body = [(10, false), (11, false), (11, false)] := by kernel_rfl
theorem i_n4 : iters f_hash_compress.body = [] := by kernel_rfl
theorem v_n4 : Valid K0 4 comprC := fun_valid (K := K0) (f := 4) (F := f_hash_compress) Tryd.func63 c_n4 (by rw [k_n4]; exact List.forall_mem_cons.2 ⟨v_n10, List.forall_mem_cons.2 ⟨v_n11, List.forall_mem_cons.2 ⟨v_n11, List.forall_mem_nil _⟩⟩⟩) (compr_ok E0 rfl rfl rfl) (by rw [i_n4]; exact List.forall_mem_nil _) (by kernel_rfl)
theorem c_n1 : chkFun K0 f_hash_Stream_Add Tryd.f54 = true := by kernel_rfl
theorem k_n1 : callees f_hash_Stream_Add.body = [(4, false)] := by kernel_rfl
theorem i_n1 : iters f_hash_Stream_Add.body = [] := by kernel_rfl
theorem v_n1 : Valid K0 1 addC := fun_valid (K := K0) (f := 1) (F := f_hash_Stream_Add) Tryd.func54 c_n1 (by rw [k_n1]; exact List.forall_mem_cons.2 ⟨v_n4, List.forall_mem_nil _⟩) (add_ok E0 rfl) (by rw [i_n1]; exact List.forall_mem_nil _) (by kernel_rfl)
theorem c_n2 : chkFun K0 f_hash_Stream_Sum Tryd.f55 = true := by kernel_rfl
theorem k_n2 : callees f_hash_Stream_Sum.body = [(1, false)] := by kernel_rfl
theorem i_n2 : iters f_hash_Stream_Sum.body = [] := by kernel_rfl
theorem v_n2 : Valid K0 2 sumC := fun_valid (K := K0) (f := 2) (F := f_hash_Stream_Sum) Tryd.func55 c_n2 (by rw [k_n2]; exact List.forall_mem_cons.2 ⟨v_n1, List.forall_mem_nil _⟩) (sum_ok E0 rfl) (by rw [i_n2]; exact List.forall_mem_nil _) (by kernel_rfl)
theorem c_n8 : chkFun K0 f_hash_Of Tryd.f41 = true := by kernel_rfl
theorem k_n8 : callees f_hash_Of.body = [(0, false), (1, false), (7, false), (1, false), (2, false)] := by kernel_rfl
theorem i_n8 : iters f_hash_Of.body = [] := by kernel_rfl
theorem v_n8 : Valid K0 8 ofC := fun_valid (K := K0) (f := 8) (F := f_hash_Of) Tryd.func41 c_n8 (by rw [k_n8]; exact List.forall_mem_cons.2 ⟨v_n0, List.forall_mem_cons.2 ⟨v_n1, List.forall_mem_cons.2 ⟨v_n7, List.forall_mem_cons.2 ⟨v_n1, List.forall_mem_cons.2 ⟨v_n2, List.forall_mem_nil _⟩⟩⟩⟩⟩) (of_ok E0 rfl rfl rfl rfl) (by rw [i_n8]; exact List.forall_mem_nil _) (by kernel_rfl)
theorem c_n131 : chkFun K0 f_command_Digest Tryd.f20 = true := by kernel_rfl
theorem k_n131 : callees f_command_Digest.body = [(130, false), (8, false)] := by kernel_rfl
theorem i_n131 : iters f_command_Digest.body = [] := by kernel_rfl
theorem v_n131 : Valid K0 131 digCC := fun_valid (K := K0) (f := 131) (F := f_command_Digest) Tryd.func20 c_n131 (by rw [k_n131]; exact List.forall_mem_cons.2 ⟨v_n130, List.forall_mem_cons.2 ⟨v_n8, List.forall_mem_nil _⟩⟩) (dig_ok E0 rfl rfl) (by rw [i_n131]; exact List.forall_mem_nil _) (by kernel_rfl)
theorem c_n30 : chkFun K0 f_custodyref01_Int Tryd.f38 = true := by kernel_rfl
theorem k_n30 : callees f_custodyref01_Int.body = [] := by kernel_rfl
theorem i_n30 : iters f_custodyref01_Int.body = [] := by kernel_rfl
theorem v_n30 : Valid K0 30 rintC := fun_valid (K := K0) (f := 30) (F := f_custodyref01_Int) Tryd.func38 c_n30 (by rw [k_n30]; exact List.forall_mem_nil _) (rint_ok E0) (by rw [i_n30]; exact List.forall_mem_nil _) (by kernel_rfl)
theorem c_n29 : chkFun K0 f_custodyref01_Bytes Tryd.f39 = true := by kernel_rfl
theorem k_n29 : callees f_custodyref01_Bytes.body = [(30, false)] := by kernel_rfl
theorem i_n29 : iters f_custodyref01_Bytes.body = [] := by kernel_rfl
theorem v_n29 : Valid K0 29 rbytesC := fun_valid (K := K0) (f := 29) (F := f_custodyref01_Bytes) Tryd.func39 c_n29 (by rw [k_n29]; exact List.forall_mem_cons.2 ⟨v_n30, List.forall_mem_nil _⟩) (rbytes_ok E0 rfl) (by rw [i_n29]; exact List.forall_mem_nil _) (by kernel_rfl)
theorem c_n40 : chkFun K0 f_custodyref01_Ints Tryd.f40 = true := by kernel_rfl
theorem k_n40 : callees f_custodyref01_Ints.body = [(30, false), (30, false)] := by kernel_rfl
theorem i_n40 : iters f_custodyref01_Ints.body = [] := by kernel_rfl
theorem v_n40 : Valid K0 40 rIntsC := fun_valid (K := K0) (f := 40) (F := f_custodyref01_Ints) Tryd.func40 c_n40 (by rw [k_n40]; exact List.forall_mem_cons.2 ⟨v_n30, List.forall_mem_cons.2 ⟨v_n30, List.forall_mem_nil _⟩⟩) (rints_ok E0 rfl) (by rw [i_n40]; exact List.forall_mem_nil _) (by kernel_rfl)
theorem c_n147 : chkFun K0 f_custodyref28_Encode Tryd.f19 = true := by kernel_rfl
theorem k_n147 : callees f_custodyref28_Encode.body = [(30, false), (29, false), (40, false)] := by kernel_rfl
theorem i_n147 : iters f_custodyref28_Encode.body = [] := by kernel_rfl
theorem v_n147 : Valid K0 147 encCC := fun_valid (K := K0) (f := 147) (F := f_custodyref28_Encode) Tryd.func19 c_n147 (by rw [k_n147]; exact List.forall_mem_cons.2 ⟨v_n30, List.forall_mem_cons.2 ⟨v_n29, List.forall_mem_cons.2 ⟨v_n40, List.forall_mem_nil _⟩⟩⟩) (rEnc_ok E0 rfl rfl rfl) (by rw [i_n147]; exact List.forall_mem_nil _) (by kernel_rfl)
theorem c_n21 : chkFun K0 f_custodyref02_Input Tryd.f57 = true := by kernel_rfl
theorem k_n21 : callees f_custodyref02_Input.body = [(29, false)] := by kernel_rfl
theorem i_n21 : iters f_custodyref02_Input.body = [] := by kernel_rfl
theorem v_n21 : Valid K0 21 inputC := fun_valid (K := K0) (f := 21) (F := f_custodyref02_Input) Tryd.func57 c_n21 (by rw [k_n21]; exact List.forall_mem_cons.2 ⟨v_n29, List.forall_mem_nil _⟩) (input_ok E0 rfl) (by rw [i_n21]; exact List.forall_mem_nil _) (by kernel_rfl)
theorem c_n24 : chkFun K0 f_custodyref02_padded Tryd.f69 = true := by kernel_rfl
theorem k_n24 : callees f_custodyref02_padded.body = [] := by kernel_rfl
theorem i_n24 : iters f_custodyref02_padded.body = [] := by kernel_rfl
theorem v_n24 : Valid K0 24 paddedC := fun_valid (K := K0) (f := 24) (F := f_custodyref02_padded) Tryd.func69 c_n24 (by rw [k_n24]; exact List.forall_mem_nil _) (padded_ok E0) (by rw [i_n24]; exact List.forall_mem_nil _) (by kernel_rfl)
theorem c_n26 : chkFun K0 f_custodyref02_rotr Tryd.f71 = true := by kernel_rfl
theorem k_n26 : callees f_custodyref02_rotr.body = [] := by kernel_rfl
theorem i_n26 : iters f_custodyref02_rotr.body = [] := by kernel_rfl
theorem v_n26 : Valid K0 26 rotrC := fun_valid (K := K0) (f := 26) (F := f_custodyref02_rotr) Tryd.func71 c_n26 (by rw [k_n26]; exact List.forall_mem_nil _) (rotr_ok E0) (by rw [i_n26]; exact List.forall_mem_nil _) (by kernel_rfl)
theorem c_n25 : chkFun K0 f_custodyref02_words Tryd.f70 = true := by kernel_rfl
theorem k_n25 : callees f_custodyref02_words.body = [(26, false), (26, false), (26, false), (26, false)] := by kernel_rfl
theorem i_n25 : iters f_custodyref02_words.body = [] := by kernel_rfl
theorem v_n25 : Valid K0 25 schedC := fun_valid (K := K0) (f := 25) (F := f_custodyref02_words) Tryd.func70 c_n25 (by rw [k_n25]; exact List.forall_mem_cons.2 ⟨v_n26, List.forall_mem_cons.2 ⟨v_n26, List.forall_mem_cons.2 ⟨v_n26, List.forall_mem_cons.2 ⟨v_n26, List.forall_mem_nil _⟩⟩⟩⟩) (words_ok E0 rfl) (by rw [i_n25]; exact List.forall_mem_nil _) (by kernel_rfl)
theorem c_n15 : chkFun K0 f_custodyref02_Sum Tryd.f64 = true := by kernel_rfl
theorem k_n15 : callees f_custodyref02_Sum.body = [(24, false), (25, false), (26, false), (26, false), (26, false), (26, false), (26, false), (26, false)] := by kernel_rfl
theorem i_n15 : iters f_custodyref02_Sum.body = [] := by kernel_rfl
theorem v_n15 : Valid K0 15 rsumC := fun_valid (K := K0) (f := 15) (F := f_custodyref02_Sum) Tryd.func64 c_n15 (by rw [k_n15]; exact List.forall_mem_cons.2 ⟨v_n24, List.forall_mem_cons.2 ⟨v_n25, List.forall_mem_cons.2 ⟨v_n26, List.forall_mem_cons.2 ⟨v_n26, List.forall_mem_cons.2 ⟨v_n26, List.forall_mem_cons.2 ⟨v_n26, List.forall_mem_cons.2 ⟨v_n26, List.forall_mem_cons.2 ⟨v_n26, List.forall_mem_nil _⟩⟩⟩⟩⟩⟩⟩⟩) (rsum_ok E0 rfl rfl rfl rfl) (by rw [i_n15]; exact List.forall_mem_nil _) (by kernel_rfl)
theorem c_n28 : chkFun K0 f_custodyref02_Short Tryd.f56 = true := by kernel_rfl
theorem k_n28 : callees f_custodyref02_Short.body = [(15, false)] := by kernel_rfl
theorem i_n28 : iters f_custodyref02_Short.body = [] := by kernel_rfl
theorem v_n28 : Valid K0 28 shortC := fun_valid (K := K0) (f := 28) (F := f_custodyref02_Short) Tryd.func56 c_n28 (by rw [k_n28]; exact List.forall_mem_cons.2 ⟨v_n15, List.forall_mem_nil _⟩) (short_ok E0 rfl) (by rw [i_n28]; exact List.forall_mem_nil _) (by kernel_rfl)
theorem c_n20 : chkFun K0 f_custodyref02_Of Tryd.f42 = true := by kernel_rfl
theorem k_n20 : callees f_custodyref02_Of.body = [(21, false), (28, false)] := by kernel_rfl
theorem i_n20 : iters f_custodyref02_Of.body = [] := by kernel_rfl
theorem v_n20 : Valid K0 20 rofC := fun_valid (K := K0) (f := 20) (F := f_custodyref02_Of) Tryd.func42 c_n20 (by rw [k_n20]; exact List.forall_mem_cons.2 ⟨v_n21, List.forall_mem_cons.2 ⟨v_n28, List.forall_mem_nil _⟩⟩) (rof_ok E0 rfl rfl) (by rw [i_n20]; exact List.forall_mem_nil _) (by kernel_rfl)
theorem c_n148 : chkFun K0 f_custodyref28_Digest Tryd.f21 = true := by kernel_rfl
theorem k_n148 : callees f_custodyref28_Digest.body = [(147, false), (20, false)] := by kernel_rfl
theorem i_n148 : iters f_custodyref28_Digest.body = [] := by kernel_rfl
theorem v_n148 : Valid K0 148 digCC := fun_valid (K := K0) (f := 148) (F := f_custodyref28_Digest) Tryd.func21 c_n148 (by rw [k_n148]; exact List.forall_mem_cons.2 ⟨v_n147, List.forall_mem_cons.2 ⟨v_n20, List.forall_mem_nil _⟩⟩) (rDig_ok E0 rfl rfl) (by rw [i_n148]; exact List.forall_mem_nil _) (by kernel_rfl)
theorem c_n152 : chkFun K0 f_custodylaw28_sanity Tryd.f10 = true := by kernel_rfl
theorem k_n152 : callees f_custodylaw28_sanity.body = [(130, false), (138, false), (138, false), (123, false), (123, false), (38, false), (149, false), (125, false), (125, false), (128, false), (128, false), (133, false), (133, false), (131, false), (148, false), (131, false), (131, false)] := by kernel_rfl
theorem i_n152 : iters f_custodylaw28_sanity.body = [] := by kernel_rfl
theorem v_n152 : Valid K0 152 sanC := fun_valid (K := K0) (f := 152) (F := f_custodylaw28_sanity) Tryd.func10 c_n152 (by rw [k_n152]; exact List.forall_mem_cons.2 ⟨v_n130, List.forall_mem_cons.2 ⟨v_n138, List.forall_mem_cons.2 ⟨v_n138, List.forall_mem_cons.2 ⟨v_n123, List.forall_mem_cons.2 ⟨v_n123, List.forall_mem_cons.2 ⟨v_n38, List.forall_mem_cons.2 ⟨v_n149, List.forall_mem_cons.2 ⟨v_n125, List.forall_mem_cons.2 ⟨v_n125, List.forall_mem_cons.2 ⟨v_n128, List.forall_mem_cons.2 ⟨v_n128, List.forall_mem_cons.2 ⟨v_n133, List.forall_mem_cons.2 ⟨v_n133, List.forall_mem_cons.2 ⟨v_n131, List.forall_mem_cons.2 ⟨v_n148, List.forall_mem_cons.2 ⟨v_n131, List.forall_mem_cons.2 ⟨v_n131, List.forall_mem_nil _⟩⟩⟩⟩⟩⟩⟩⟩⟩⟩⟩⟩⟩⟩⟩⟩⟩) (san28_ok E0 rfl rfl rfl rfl rfl rfl rfl rfl rfl rfl) (by rw [i_n152]; exact List.forall_mem_nil _) (by kernel_rfl)
theorem c_n141 : chkFun K0 f_custodyref28_rows Tryd.f28 = true := by kernel_rfl
theorem k_n141 : callees f_custodyref28_rows.body = [] := by kernel_rfl
theorem i_n141 : iters f_custodyref28_rows.body = [] := by kernel_rfl
theorem v_n141 : Valid K0 141 rrowsC := fun_valid (K := K0) (f := 141) (F := f_custodyref28_rows) Tryd.func28 c_n141 (by rw [k_n141]; exact List.forall_mem_nil _) (rrows_ok E0) (by rw [i_n141]; exact List.forall_mem_nil _) (by kernel_rfl)
theorem c_n142 : chkFun K0 f_custodyref28_Kind Tryd.f12 = true := by kernel_rfl
theorem k_n142 : callees f_custodyref28_Kind.body = [(141, false)] := by kernel_rfl
theorem i_n142 : iters f_custodyref28_Kind.body = [] := by kernel_rfl
theorem v_n142 : Valid K0 142 kindC := fun_valid (K := K0) (f := 142) (F := f_custodyref28_Kind) Tryd.func12 c_n142 (by rw [k_n142]; exact List.forall_mem_cons.2 ⟨v_n141, List.forall_mem_nil _⟩) (rkind_ok E0 rfl) (by rw [i_n142]; exact List.forall_mem_nil _) (by kernel_rfl)
theorem c_n143 : chkFun K0 f_custodyref28_Name Tryd.f14 = true := by kernel_rfl
theorem k_n143 : callees f_custodyref28_Name.body = [(141, false)] := by kernel_rfl
theorem i_n143 : iters f_custodyref28_Name.body = [] := by kernel_rfl
theorem v_n143 : Valid K0 143 nameC := fun_valid (K := K0) (f := 143) (F := f_custodyref28_Name) Tryd.func14 c_n143 (by rw [k_n143]; exact List.forall_mem_cons.2 ⟨v_n141, List.forall_mem_nil _⟩) (rname_ok E0 rfl) (by rw [i_n143]; exact List.forall_mem_nil _) (by kernel_rfl)
theorem c_n144 : chkFun K0 f_custodyref28_within Tryd.f32 = true := by kernel_rfl
theorem k_n144 : callees f_custodyref28_within.body = [] := by kernel_rfl
theorem i_n144 : iters f_custodyref28_within.body = [] := by kernel_rfl
theorem v_n144 : Valid K0 144 wthC := fun_valid (K := K0) (f := 144) (F := f_custodyref28_within) Tryd.func32 c_n144 (by rw [k_n144]; exact List.forall_mem_nil _) (within_ok E0) (by rw [i_n144]; exact List.forall_mem_nil _) (by kernel_rfl)
theorem c_n145 : chkFun K0 f_custodyref28_isList Tryd.f33 = true := by kernel_rfl
theorem k_n145 : callees f_custodyref28_isList.body = [] := by kernel_rfl
theorem i_n145 : iters f_custodyref28_isList.body = [] := by kernel_rfl
theorem v_n145 : Valid K0 145 isLC := fun_valid (K := K0) (f := 145) (F := f_custodyref28_isList) Tryd.func33 c_n145 (by rw [k_n145]; exact List.forall_mem_nil _) (isl_ok E0) (by rw [i_n145]; exact List.forall_mem_nil _) (by kernel_rfl)
theorem c_n146 : chkFun K0 f_custodyref28_Check Tryd.f16 = true := by kernel_rfl
theorem k_n146 : callees f_custodyref28_Check.body = [(141, false), (144, false), (144, false), (144, false), (144, false), (144, false), (145, false)] := by kernel_rfl
theorem i_n146 : iters f_custodyref28_Check.body = [] := by kernel_rfl
theorem v_n146 : Valid K0 146 chkCC := fun_valid (K := K0) (f := 146) (F := f_custodyref28_Check) Tryd.func16 c_n146 (by rw [k_n146]; exact List.forall_mem_cons.2 ⟨v_n141, List.forall_mem_cons.2 ⟨v_n144, List.forall_mem_cons.2 ⟨v_n144, List.forall_mem_cons.2 ⟨v_n144, List.forall_mem_cons.2 ⟨v_n144, List.forall_mem_cons.2 ⟨v_n144, List.forall_mem_cons.2 ⟨v_n145, List.forall_mem_nil _⟩⟩⟩⟩⟩⟩⟩) (rchk_ok E0 rfl rfl rfl) (by rw [i_n146]; exact List.forall_mem_nil _) (by kernel_rfl)
theorem c_n153 : chkFun K0 f_custodylaw28_CommandMatchesSpec Tryd.f3 = true := by kernel_rfl
theorem k_n153 : callees f_custodylaw28_CommandMatchesSpec.body = [(151, false), (151, false), (152, false), (123, false), (142, false), (152, false), (125, false), (143, false), (128, false), (146, false), (130, false), (147, false), (38, false), (131, false), (148, false), (133, false), (149, false)] := by kernel_rfl
theorem i_n153 : iters f_custodylaw28_CommandMatchesSpec.body = [] := by kernel_rfl
theorem v_n153 : Valid K0 153 lawCM := fun_valid (K := K0) (f := 153) (F := f_custodylaw28_CommandMatchesSpec) Tryd.func3 c_n153 (by rw [k_n153]; exact List.forall_mem_cons.2 ⟨v_n151, List.forall_mem_cons.2 ⟨v_n151, List.forall_mem_cons.2 ⟨v_n152, List.forall_mem_cons.2 ⟨v_n123, List.forall_mem_cons.2 ⟨v_n142, List.forall_mem_cons.2 ⟨v_n152, List.forall_mem_cons.2 ⟨v_n125, List.forall_mem_cons.2 ⟨v_n143, List.forall_mem_cons.2 ⟨v_n128, List.forall_mem_cons.2 ⟨v_n146, List.forall_mem_cons.2 ⟨v_n130, List.forall_mem_cons.2 ⟨v_n147, List.forall_mem_cons.2 ⟨v_n38, List.forall_mem_cons.2 ⟨v_n131, List.forall_mem_cons.2 ⟨v_n148, List.forall_mem_cons.2 ⟨v_n133, List.forall_mem_cons.2 ⟨v_n149, List.forall_mem_nil _⟩⟩⟩⟩⟩⟩⟩⟩⟩⟩⟩⟩⟩⟩⟩⟩⟩) (law_CM_ok E0 rfl rfl rfl rfl rfl rfl rfl rfl rfl rfl rfl rfl rfl rfl rfl) (by rw [i_n153]; exact List.forall_mem_nil _) (by kernel_rfl)
theorem c_n46 : chkFun K0 f_custodyref01_GetInt Tryd.f49 = true := by kernel_rfl
theorem k_n46 : callees f_custodyref01_GetInt.body = [(30, false), (38, false)] := by kernel_rfl
theorem i_n46 : iters f_custodyref01_GetInt.body = [] := by kernel_rfl
theorem v_n46 : Valid K0 46 getIntC := fun_valid (K := K0) (f := 46) (F := f_custodyref01_GetInt) Tryd.func49 c_n46 (by rw [k_n46]; exact List.forall_mem_cons.2 ⟨v_n30, List.forall_mem_cons.2 ⟨v_n38, List.forall_mem_nil _⟩⟩) (rgetint_ok E0 rfl rfl) (by rw [i_n46]; exact List.forall_mem_nil _) (by kernel_rfl)
theorem c_n49 : chkFun K0 f_custodyref01_count Tryd.f62 = true := by kernel_rfl
theorem k_n49 : callees f_custodyref01_count.body = [(46, false)] := by kernel_rfl
theorem i_n49 : iters f_custodyref01_count.body = [] := by kernel_rfl
theorem v_n49 : Valid K0 49 rcntC := fun_valid (K := K0) (f := 49) (F := f_custodyref01_count) Tryd.func62 c_n49 (by rw [k_n49]; exact List.forall_mem_cons.2 ⟨v_n46, List.forall_mem_nil _⟩) (rcnt_ok E0 rfl) (by rw [i_n49]; exact List.forall_mem_nil _) (by kernel_rfl)
theorem c_n50 : chkFun K0 f_custodyref01_GetBytes Tryd.f50 = true := by kernel_rfl
theorem k_n50 : callees f_custodyref01_GetBytes.body = [(49, false)] := by kernel_rfl
theorem i_n50 : iters f_custodyref01_GetBytes.body = [] := by kernel_rfl
theorem v_n50 : Valid K0 50 getBytesC := fun_valid (K := K0) (f := 50) (F := f_custodyref01_GetBytes) Tryd.func50 c_n50 (by rw [k_n50]; exact List.forall_mem_cons.2 ⟨v_n49, List.forall_mem_nil _⟩) (rgetbytes_ok E0 rfl) (by rw [i_n50]; exact List.forall_mem_nil _) (by kernel_rfl)
theorem c_n53 : chkFun K0 f_custodyref01_GetInts Tryd.f51 = true := by kernel_rfl
theorem k_n53 : callees f_custodyref01_GetInts.body = [(49, false), (46, false)] := by kernel_rfl
theorem i_n53 : iters f_custodyref01_GetInts.body = [] := by kernel_rfl
theorem v_n53 : Valid K0 53 getIntsC := fun_valid (K := K0) (f := 53) (F := f_custodyref01_GetInts) Tryd.func51 c_n53 (by rw [k_n53]; exact List.forall_mem_cons.2 ⟨v_n49, List.forall_mem_cons.2 ⟨v_n46, List.forall_mem_nil _⟩⟩) (rgetints_ok E0 rfl rfl) (by rw [i_n53]; exact List.forall_mem_nil _) (by kernel_rfl)
theorem c_n150 : chkFun K0 f_custodyref28_Decode Tryd.f25 = true := by kernel_rfl
theorem k_n150 : callees f_custodyref28_Decode.body = [(46, false), (50, false), (53, false), (146, false)] := by kernel_rfl
theorem i_n150 : iters f_custodyref28_Decode.body = [] := by kernel_rfl
theorem v_n150 : Valid K0 150 decCC := fun_valid (K := K0) (f := 150) (F := f_custodyref28_Decode) Tryd.func25 c_n150 (by rw [k_n150]; exact List.forall_mem_cons.2 ⟨v_n46, List.forall_mem_cons.2 ⟨v_n50, List.forall_mem_cons.2 ⟨v_n53, List.forall_mem_cons.2 ⟨v_n146, List.forall_mem_nil _⟩⟩⟩⟩) (rDec_ok E0 rfl rfl rfl rfl) (by rw [i_n150]; exact List.forall_mem_nil _) (by kernel_rfl)
theorem c_n154 : chkFun K0 f_custodylaw28_CommandDecodesAsSpecified Tryd.f4 = true := by kernel_rfl
theorem k_n154 : callees f_custodylaw28_CommandDecodesAsSpecified.body = [(152, false), (138, false), (150, false), (152, false), (149, false)] := by kernel_rfl
theorem i_n154 : iters f_custodylaw28_CommandDecodesAsSpecified.body = [] := by kernel_rfl
theorem v_n154 : Valid K0 154 lawCD := fun_valid (K := K0) (f := 154) (F := f_custodylaw28_CommandDecodesAsSpecified) Tryd.func4 c_n154 (by rw [k_n154]; exact List.forall_mem_cons.2 ⟨v_n152, List.forall_mem_cons.2 ⟨v_n138, List.forall_mem_cons.2 ⟨v_n150, List.forall_mem_cons.2 ⟨v_n152, List.forall_mem_cons.2 ⟨v_n149, List.forall_mem_nil _⟩⟩⟩⟩⟩) (law_CD_ok E0 rfl rfl rfl rfl) (by rw [i_n154]; exact List.forall_mem_nil _) (by kernel_rfl)
theorem c_n155 : chkFun K0 f_custodylaw28_CommandRoundTrip Tryd.f5 = true := by kernel_rfl
theorem k_n155 : callees f_custodylaw28_CommandRoundTrip.body = [(151, false), (152, false), (130, false), (138, false), (128, false), (152, false), (133, false), (131, false), (131, false), (149, false)] := by kernel_rfl
theorem i_n155 : iters f_custodylaw28_CommandRoundTrip.body = [] := by kernel_rfl
theorem v_n155 : Valid K0 155 lawCR := fun_valid (K := K0) (f := 155) (F := f_custodylaw28_CommandRoundTrip) Tryd.func5 c_n155 (by rw [k_n155]; exact List.forall_mem_cons.2 ⟨v_n151, List.forall_mem_cons.2 ⟨v_n152, List.forall_mem_cons.2 ⟨v_n130, List.forall_mem_cons.2 ⟨v_n138, List.forall_mem_cons.2 ⟨v_n128, List.forall_mem_cons.2 ⟨v_n152, List.forall_mem_cons.2 ⟨v_n133, List.forall_mem_cons.2 ⟨v_n131, List.forall_mem_cons.2 ⟨v_n131, List.forall_mem_cons.2 ⟨v_n149, List.forall_mem_nil _⟩⟩⟩⟩⟩⟩⟩⟩⟩⟩) (law_CR_ok E0 rfl rfl rfl rfl rfl rfl rfl rfl) (by rw [i_n155]; exact List.forall_mem_nil _) (by kernel_rfl)
theorem c_n156 : chkFun K0 f_custodylaw28_CommandInjective Tryd.f6 = true := by kernel_rfl
theorem k_n156 : callees f_custodylaw28_CommandInjective.body = [(151, false), (151, false), (152, false), (152, false), (130, false), (130, false), (38, false), (133, false)] := by kernel_rfl
theorem i_n156 : iters f_custodylaw28_CommandInjective.body = [] := by kernel_rfl
theorem v_n156 : Valid K0 156 lawCI := fun_valid (K := K0) (f := 156) (F := f_custodylaw28_CommandInjective) Tryd.func6 c_n156 (by rw [k_n156]; exact List.forall_mem_cons.2 ⟨v_n151, List.forall_mem_cons.2 ⟨v_n151, List.forall_mem_cons.2 ⟨v_n152, List.forall_mem_cons.2 ⟨v_n152, List.forall_mem_cons.2 ⟨v_n130, List.forall_mem_cons.2 ⟨v_n130, List.forall_mem_cons.2 ⟨v_n38, List.forall_mem_cons.2 ⟨v_n133, List.forall_mem_nil _⟩⟩⟩⟩⟩⟩⟩⟩) (law_CI_ok E0 rfl rfl rfl rfl rfl) (by rw [i_n156]; exact List.forall_mem_nil _) (by kernel_rfl)
theorem c_n157 : chkFun K0 f_custodylaw28_CommandFields Tryd.f7 = true := by kernel_rfl
theorem k_n157 : callees f_custodylaw28_CommandFields.body = [(151, false), (128, false), (152, false), (152, false), (133, false), (152, false), (133, false), (152, false), (133, false), (152, false), (125, false)] := by kernel_rfl
theorem i_n157 : iters f_custodylaw28_CommandFields.body = [] := by kernel_rfl
theorem v_n157 : Valid K0 157 lawCR := fun_valid (K := K0) (f := 157) (F := f_custodylaw28_CommandFields) Tryd.func7 c_n157 (by rw [k_n157]; exact List.forall_mem_cons.2 ⟨v_n151, List.forall_mem_cons.2 ⟨v_n128, List.forall_mem_cons.2 ⟨v_n152, List.forall_mem_cons.2 ⟨v_n152, List.forall_mem_cons.2 ⟨v_n133, List.forall_mem_cons.2 ⟨v_n152, List.forall_mem_cons.2 ⟨v_n133, List.forall_mem_cons.2 ⟨v_n152, List.forall_mem_cons.2 ⟨v_n133, List.forall_mem_cons.2 ⟨v_n152, List.forall_mem_cons.2 ⟨v_n125, List.forall_mem_nil _⟩⟩⟩⟩⟩⟩⟩⟩⟩⟩⟩) (law_CF_ok E0 rfl rfl rfl rfl rfl) (by rw [i_n157]; exact List.forall_mem_nil _) (by kernel_rfl)
theorem c_n158 : chkFun K0 f_custodylaw28_CommandNames Tryd.f8 = true := by kernel_rfl
theorem k_n158 : callees f_custodylaw28_CommandNames.body = [(125, false), (123, false), (152, false), (152, false)] := by kernel_rfl
theorem i_n158 : iters f_custodylaw28_CommandNames.body = [] := by kernel_rfl
theorem v_n158 : Valid K0 158 lawCN := fun_valid (K := K0) (f := 158) (F := f_custodylaw28_CommandNames) Tryd.func8 c_n158 (by rw [k_n158]; exact List.forall_mem_cons.2 ⟨v_n125, List.forall_mem_cons.2 ⟨v_n123, List.forall_mem_cons.2 ⟨v_n152, List.forall_mem_cons.2 ⟨v_n152, List.forall_mem_nil _⟩⟩⟩⟩) (law_CN_ok E0 rfl rfl rfl) (by rw [i_n158]; exact List.forall_mem_nil _) (by kernel_rfl)
end Go.Abs.V0
