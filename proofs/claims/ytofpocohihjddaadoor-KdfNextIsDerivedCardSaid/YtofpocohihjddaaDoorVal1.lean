/- The translated functions are those that the lemmas speak of; so each meets its contract. -/
import Derived.Test.YtofpocohihjddaaDoorRows
import Derived.Test.YtofpocohihjddaaDoorA
import Derived.Test.YtofpocohihjddaaDoorB
import Derived.Test.YtofpocohihjddaaDoorC
import Derived.Test.YtofpocohihjddaaDoorD
import Derived.Test.YtofpocohihjddaaDoorE
import Derived.Test.YtofpocohihjddaaDoorF
import Derived.Test.YtofpocohihjddaaDoorG
import Derived.Test.YtofpocohihjddaaDoorH
import Derived.Test.YtofpocohihjddaaDoorI
import Derived.Test.YtofpocohihjddaaDoorJ
import Derived.KernelRfl
set_option linter.unusedSimpArgs false
set_option linter.unusedVariables false
set_option linter.unusedSectionVars false
namespace Go.Abs.V1
open Go.Proofs
set_option maxRecDepth 100000
def nu : Nat → FuncId
  | 0 => 34
  | 1 => 35
  | 2 => 36
  | 3 => 32
  | 4 => 42
  | 5 => 33
  | 6 => 22
  | 7 => 21
  | 10 => 44
  | 11 => 45
  | 12 => 31
  | 13 => 46
  | 73 => 27
  | 74 => 19
  | 75 => 17
  | 76 => 11
  | 79 => 13
  | 83 => 9
  | 88 => 7
  | 89 => 8
  | _ => 0
def gnum : Nat → Nat
  | 0 => 1
  | _ => 0
def gG : Nat → Contract
  | 0 => beginC
  | 1 => addC
  | 2 => sumC
  | 3 => hsumC
  | 4 => comprC
  | 5 => mac1C
  | 6 => macC
  | 7 => bytesC
  | 10 => schedC
  | 11 => mixC
  | 12 => intC
  | 13 => rotC
  | 74 => gbysC
  | 75 => nxtC
  | 76 => derC
  | 79 => pthC
  | 83 => sanC
  | 88 => lawPrt
  | 89 => lawNxt
  | _ => ⟨fun _ => False, fun _ => .undef⟩
def gI : Nat → ItC
  | 73 => valsC
  | _ => ⟨fun _ _ => False, fun _ _ _ => none⟩
def gB : Nat → FuncId
  | 0 => 29
  | 1 => 28
  | 3 => 30
  | _ => 0
def gT : Nat → List AVal
  | 0 => w32s kc
  | _ => []
def E0 : Env := { G := gG, T := gT, I := gI }
noncomputable def K0 : Cx := { P := Tryd.prog, nu := nu, globs := [], N := { gnum := gnum, gs := [0] }, E := E0, bt := 52, b5 := 5, bf := gB }
theorem v_n999999990 : BldFacts K0 0 := ⟨⟨Tryd.f29, Tryd.func29, by kernel_rfl, by kernel_rfl⟩, fun _ b bs w h => Go.Abs.TrydB.len b bs w h, fun h => (by cases h), fun h => (by cases h), fun h => (by cases h)⟩
theorem v_n999999991 : BldFacts K0 1 := ⟨⟨Tryd.f28, Tryd.func28, by kernel_rfl, by kernel_rfl⟩, fun h => (by cases h), fun _ b bs s w h hl => Go.Abs.TrydB.wstr b bs s w h hl, fun h => (by cases h), fun h => (by cases h)⟩
theorem v_n999999993 : BldFacts K0 3 := ⟨⟨Tryd.f30, Tryd.func30, by kernel_rfl, by kernel_rfl⟩, fun h => (by cases h), fun h => (by cases h), fun h => (by cases h), fun _ b l w h h0 => Go.Abs.TrydB.str b l w h h0⟩
theorem c_n12 : chkFun K0 f_wire_Int Tryd.f31 = true := by kernel_rfl
theorem k_n12 : callees f_wire_Int.body = [] := by kernel_rfl
theorem i_n12 : iters f_wire_Int.body = [] := by kernel_rfl
theorem v_n12 : Valid K0 12 intC := fun_valid (K := K0) (f := 12) (F := f_wire_Int) Tryd.func31 c_n12 (by rw [k_n12]; exact List.forall_mem_nil _) (int_ok E0) (by rw [i_n12]; exact List.forall_mem_nil _) (by kernel_rfl)
theorem c_n7 : chkFun K0 f_wire_Bytes Tryd.f21 = true := by kernel_rfl
theorem k_n7 : callees f_wire_Bytes.body = [(12, false)] := by kernel_rfl
theorem i_n7 : iters f_wire_Bytes.body = [] := by kernel_rfl
theorem v_n7 : Valid K0 7 bytesC := fun_valid (K := K0) (f := 7) (F := f_wire_Bytes) Tryd.func21 c_n7 (by rw [k_n7]; exact List.forall_mem_cons.2 ⟨v_n12, List.forall_mem_nil _⟩) (bytes_ok E0 rfl) (by rw [i_n7]; exact List.forall_mem_nil _) (by kernel_rfl)
theorem c_n0 : chkFun K0 f_hash_Begin Tryd.f34 = true := by kernel_rfl
theorem k_n0 : callees f_hash_Begin.body = [] := by kernel_rfl
theorem i_n0 : iters f_hash_Begin.body = [] := by kernel_rfl
theorem v_n0 : Valid K0 0 beginC := fun_valid (K := K0) (f := 0) (F := f_hash_Begin) Tryd.func34 c_n0 (by rw [k_n0]; exact List.forall_mem_nil _) (begin_ok E0) (by rw [i_n0]; exact List.forall_mem_nil _) (by kernel_rfl)
theorem c_n13 : chkFun K0 f_bits_RotateLeft32 Tryd.f46 = true := by kernel_rfl
theorem k_n13 : callees f_bits_RotateLeft32.body = [] := by kernel_rfl
theorem i_n13 : iters f_bits_RotateLeft32.body = [] := by kernel_rfl
theorem v_n13 : Valid K0 13 rotC := fun_valid (K := K0) (f := 13) (F := f_bits_RotateLeft32) Tryd.func46 c_n13 (by rw [k_n13]; exact List.forall_mem_nil _) (rot_ok E0) (by rw [i_n13]; exact List.forall_mem_nil _) (by kernel_rfl)
theorem c_n10 : chkFun K0 f_hash_schedule Tryd.f44 = true := by kernel_rfl
theorem k_n10 : callees f_hash_schedule.body = [(13, false), (13, false), (13, false), (13, false)] := by kernel_rfl
theorem i_n10 : iters f_hash_schedule.body = [] := by kernel_rfl
theorem v_n10 : Valid K0 10 schedC := fun_valid (K := K0) (f := 10) (F := f_hash_schedule) Tryd.func44 c_n10 (by rw [k_n10]; exact List.forall_mem_cons.2 ⟨v_n13, List.forall_mem_cons.2 ⟨v_n13, List.forall_mem_cons.2 ⟨v_n13, List.forall_mem_cons.2 ⟨v_n13, List.forall_mem_nil _⟩⟩⟩⟩) (sched_ok E0 rfl) (by rw [i_n10]; exact List.forall_mem_nil _) (by kernel_rfl)
theorem c_n11 : chkFun K0 f_hash_mix Tryd.f45 = true := by kernel_rfl
theorem k_n11 : callees f_hash_mix.body = [(13, false), (13, false), (13, false)] := by kernel_rfl
theorem i_n11 : iters f_hash_mix.body = [] := by kernel_rfl
theorem v_n11 : Valid K0 11 mixC := fun_valid (K := K0) (f := 11) (F := f_hash_mix) Tryd.func45 c_n11 (by rw [k_n11]; exact List.forall_mem_cons.2 ⟨v_n13, List.forall_mem_cons.2 ⟨v_n13, List.forall_mem_cons.2 ⟨v_n13, List.forall_mem_nil _⟩⟩⟩) (mix_ok E0 rfl) (by rw [i_n11]; exact List.forall_mem_nil _) (by kernel_rfl)
theorem c_n4 : chkFun K0 f_hash_compress Tryd.f42 = true := by kernel_rfl
theorem k_n4 : callees f_hash_compress.body = [(10, false), (11, false), (11, false)] := by kernel_rfl
theorem i_n4 : iters f_hash_compress.body = [] := by kernel_rfl
theorem v_n4 : Valid K0 4 comprC := fun_valid (K := K0) (f := 4) (F := f_hash_compress) Tryd.func42 c_n4 (by rw [k_n4]; exact List.forall_mem_cons.2 ⟨v_n10, List.forall_mem_cons.2 ⟨v_n11, List.forall_mem_cons.2 ⟨v_n11, List.forall_mem_nil _⟩⟩⟩) (compr_ok E0 rfl rfl rfl) (by rw [i_n4]; exact List.forall_mem_nil _) (by kernel_rfl)
theorem c_n1 : chkFun K0 f_hash_Stream_Add Tryd.f35 = true := by kernel_rfl
theorem k_n1 : callees f_hash_Stream_Add.body = [(4, false)] := by kernel_rfl
theorem i_n1 : iters f_hash_Stream_Add.body = [] := by kernel_rfl
theorem v_n1 : Valid K0 1 addC := fun_valid (K := K0) (f := 1) (F := f_hash_Stream_Add) Tryd.func35 c_n1 (by rw [k_n1]; exact List.forall_mem_cons.2 ⟨v_n4, List.forall_mem_nil _⟩) (add_ok E0 rfl) (by rw [i_n1]; exact List.forall_mem_nil _) (by kernel_rfl)
theorem c_n2 : chkFun K0 f_hash_Stream_Sum Tryd.f36 = true := by kernel_rfl
theorem k_n2 : callees f_hash_Stream_Sum.body = [(1, false)] := by kernel_rfl
theorem i_n2 : iters f_hash_Stream_Sum.body = [] := by kernel_rfl
theorem v_n2 : Valid K0 2 sumC := fun_valid (K := K0) (f := 2) (F := f_hash_Stream_Sum) Tryd.func36 c_n2 (by rw [k_n2]; exact List.forall_mem_cons.2 ⟨v_n1, List.forall_mem_nil _⟩) (sum_ok E0 rfl) (by rw [i_n2]; exact List.forall_mem_nil _) (by kernel_rfl)
theorem c_n3 : chkFun K0 f_hash_Sum Tryd.f32 = true := by kernel_rfl
theorem k_n3 : callees f_hash_Sum.body = [(0, false), (1, false), (2, false)] := by kernel_rfl
theorem i_n3 : iters f_hash_Sum.body = [] := by kernel_rfl
theorem v_n3 : Valid K0 3 hsumC := fun_valid (K := K0) (f := 3) (F := f_hash_Sum) Tryd.func32 c_n3 (by rw [k_n3]; exact List.forall_mem_cons.2 ⟨v_n0, List.forall_mem_cons.2 ⟨v_n1, List.forall_mem_cons.2 ⟨v_n2, List.forall_mem_nil _⟩⟩⟩) (hsum_ok E0 rfl rfl rfl) (by rw [i_n3]; exact List.forall_mem_nil _) (by kernel_rfl)
theorem c_n5 : chkFun K0 f_hash_Mac_1 Tryd.f33 = true := by kernel_rfl
theorem k_n5 : callees f_hash_Mac_1.body = [] := by kernel_rfl
theorem i_n5 : iters f_hash_Mac_1.body = [] := by kernel_rfl
theorem v_n5 : Valid K0 5 mac1C := fun_valid (K := K0) (f := 5) (F := f_hash_Mac_1) Tryd.func33 c_n5 (by rw [k_n5]; exact List.forall_mem_nil _) (mac1_ok E0) (by rw [i_n5]; exact List.forall_mem_nil _) (by kernel_rfl)
theorem c_n6 : chkFun K0 f_hash_Mac Tryd.f22 = true := by kernel_rfl
theorem k_n6 : callees f_hash_Mac.body = [(3, false), (0, false), (5, false), (1, false), (1, false), (2, false), (0, false), (5, false), (1, false), (1, false), (2, false)] := by kernel_rfl
theorem i_n6 : iters f_hash_Mac.body = [] := by kernel_rfl
theorem v_n6 : Valid K0 6 macC := fun_valid (K := K0) (f := 6) (F := f_hash_Mac) Tryd.func22 c_n6 (by rw [k_n6]; exact List.forall_mem_cons.2 ⟨v_n3, List.forall_mem_cons.2 ⟨v_n0, List.forall_mem_cons.2 ⟨v_n5, List.forall_mem_cons.2 ⟨v_n1, List.forall_mem_cons.2 ⟨v_n1, List.forall_mem_cons.2 ⟨v_n2, List.forall_mem_cons.2 ⟨v_n0, List.forall_mem_cons.2 ⟨v_n5, List.forall_mem_cons.2 ⟨v_n1, List.forall_mem_cons.2 ⟨v_n1, List.forall_mem_cons.2 ⟨v_n2, List.forall_mem_nil _⟩⟩⟩⟩⟩⟩⟩⟩⟩⟩⟩) (mac_ok E0 rfl rfl rfl rfl rfl) (by rw [i_n6]; exact List.forall_mem_nil _) (by kernel_rfl)
theorem c_n76 : chkFun K0 f_kdf_Derive Tryd.f11 = true := by kernel_rfl
theorem k_n76 : callees f_kdf_Derive.body = [(7, false), (7, false), (6, false)] := by kernel_rfl
theorem i_n76 : iters f_kdf_Derive.body = [] := by kernel_rfl
theorem v_n76 : Valid K0 76 derC := fun_valid (K := K0) (f := 76) (F := f_kdf_Derive) Tryd.func11 c_n76 (by rw [k_n76]; exact List.forall_mem_cons.2 ⟨v_n7, List.forall_mem_cons.2 ⟨v_n7, List.forall_mem_cons.2 ⟨v_n6, List.forall_mem_nil _⟩⟩⟩) (der_ok E0 rfl rfl) (by rw [i_n76]; exact List.forall_mem_nil _) (by kernel_rfl)
theorem c_n79 : chkFun K0 f_kdf_Path Tryd.f13 = true := by kernel_rfl
theorem k_n79 : callees f_kdf_Path.body = [(76, false)] := by kernel_rfl
theorem i_n79 : iters f_kdf_Path.body = [] := by kernel_rfl
theorem v_n79 : Valid K0 79 pthC := fun_valid (K := K0) (f := 79) (F := f_kdf_Path) Tryd.func13 c_n79 (by rw [k_n79]; exact List.forall_mem_cons.2 ⟨v_n76, List.forall_mem_nil _⟩) (pth_ok E0 rfl) (by rw [i_n79]; exact List.forall_mem_nil _) (by kernel_rfl)
theorem c_n75 : chkFun K0 f_kdf_Random_Next Tryd.f17 = true := by kernel_rfl
theorem k_n75 : callees f_kdf_Random_Next.body = [(76, false), (76, false)] := by kernel_rfl
theorem i_n75 : iters f_kdf_Random_Next.body = [] := by kernel_rfl
theorem v_n75 : Valid K0 75 nxtC := fun_valid (K := K0) (f := 75) (F := f_kdf_Random_Next) Tryd.func17 c_n75 (by rw [k_n75]; exact List.forall_mem_cons.2 ⟨v_n76, List.forall_mem_cons.2 ⟨v_n76, List.forall_mem_nil _⟩⟩) (nxt_ok E0 rfl) (by rw [i_n75]; exact List.forall_mem_nil _) (by kernel_rfl)
theorem c_n73 : chkIt K0 f_kdf_Random_values Tryd.f27 = true := by kernel_rfl
theorem k_n73 : calleesI f_kdf_Random_values.body = [(75, false)] := by kernel_rfl
theorem v_n73 : ValidIt K0 73 valsC := it_valid (K := K0) (f := 73) (F := f_kdf_Random_values) Tryd.func27 c_n73 (by rw [k_n73]; exact List.forall_mem_cons.2 ⟨v_n75, List.forall_mem_nil _⟩) (vals_ok E0 rfl)
theorem c_n74 : chkFun K0 f_kdf_Random_Bytes Tryd.f19 = true := by kernel_rfl
theorem k_n74 : callees f_kdf_Random_Bytes.body = [(999999990, true), (999999991, true), (999999990, true), (999999993, true)] := by kernel_rfl
theorem i_n74 : iters f_kdf_Random_Bytes.body = [73] := by kernel_rfl
theorem v_n74 : Valid K0 74 gbysC := fun_valid (K := K0) (f := 74) (F := f_kdf_Random_Bytes) Tryd.func19 c_n74 (by rw [k_n74]; exact List.forall_mem_cons.2 ⟨v_n999999990, List.forall_mem_cons.2 ⟨v_n999999991, List.forall_mem_cons.2 ⟨v_n999999990, List.forall_mem_cons.2 ⟨v_n999999993, List.forall_mem_nil _⟩⟩⟩⟩) (gbys_ok E0 rfl) (by rw [i_n74]; exact List.forall_mem_cons.2 ⟨v_n73, List.forall_mem_nil _⟩) (by kernel_rfl)
theorem c_n83 : chkFun K0 f_custodylaw05_sanity Tryd.f9 = true := by kernel_rfl
theorem k_n83 : callees f_custodylaw05_sanity.body = [(76, false), (79, false), (75, false), (74, false), (76, false)] := by kernel_rfl
theorem i_n83 : iters f_custodylaw05_sanity.body = [] := by kernel_rfl
theorem v_n83 : Valid K0 83 sanC := fun_valid (K := K0) (f := 83) (F := f_custodylaw05_sanity) Tryd.func9 c_n83 (by rw [k_n83]; exact List.forall_mem_cons.2 ⟨v_n76, List.forall_mem_cons.2 ⟨v_n79, List.forall_mem_cons.2 ⟨v_n75, List.forall_mem_cons.2 ⟨v_n74, List.forall_mem_cons.2 ⟨v_n76, List.forall_mem_nil _⟩⟩⟩⟩⟩) (san5_ok E0 rfl rfl rfl rfl) (by rw [i_n83]; exact List.forall_mem_nil _) (by kernel_rfl)
theorem c_n88 : chkFun K0 f_custodylaw05_KdfBytesInParts Tryd.f7 = true := by kernel_rfl
theorem k_n88 : callees f_custodylaw05_KdfBytesInParts.body = [(83, false), (74, false), (74, false), (74, false)] := by kernel_rfl
theorem i_n88 : iters f_custodylaw05_KdfBytesInParts.body = [] := by kernel_rfl
theorem v_n88 : Valid K0 88 lawPrt := fun_valid (K := K0) (f := 88) (F := f_custodylaw05_KdfBytesInParts) Tryd.func7 c_n88 (by rw [k_n88]; exact List.forall_mem_cons.2 ⟨v_n83, List.forall_mem_cons.2 ⟨v_n74, List.forall_mem_cons.2 ⟨v_n74, List.forall_mem_cons.2 ⟨v_n74, List.forall_mem_nil _⟩⟩⟩⟩) (law_Prt_ok E0 rfl rfl) (by rw [i_n88]; exact List.forall_mem_nil _) (by kernel_rfl)
theorem c_n89 : chkFun K0 f_custodylaw05_KdfNextIsDerived Tryd.f8 = true := by kernel_rfl
theorem k_n89 : callees f_custodylaw05_KdfNextIsDerived.body = [(83, false), (75, false), (75, false), (79, false)] := by kernel_rfl
theorem i_n89 : iters f_custodylaw05_KdfNextIsDerived.body = [] := by kernel_rfl
theorem v_n89 : Valid K0 89 lawNxt := fun_valid (K := K0) (f := 89) (F := f_custodylaw05_KdfNextIsDerived) Tryd.func8 c_n89 (by rw [k_n89]; exact List.forall_mem_cons.2 ⟨v_n83, List.forall_mem_cons.2 ⟨v_n75, List.forall_mem_cons.2 ⟨v_n75, List.forall_mem_cons.2 ⟨v_n79, List.forall_mem_nil _⟩⟩⟩⟩) (law_Nxt_ok E0 rfl rfl rfl) (by rw [i_n89]; exact List.forall_mem_nil _) (by kernel_rfl)
end Go.Abs.V1
