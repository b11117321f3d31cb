/- The translated functions are those that the lemmas speak of; so each meets its contract. -/
import Derived.Test.YtofpocohihjddaaDoorRows
import Derived.Test.YtofpocohihjddaaDoorA
import Derived.Test.YtofpocohihjddaaDoorB
import Derived.Test.YtofpocohihjddaaDoorC
import Derived.Test.YtofpocohihjddaaDoorD
import Derived.Test.YtofpocohihjddaaDoorE
import Derived.Test.YtofpocohihjddaaDoorF
import Derived.Test.YtofpocohihjddaaDoorG
import Derived.Test.YtofpocohihjddaaDoorH
import Derived.Test.YtofpocohihjddaaDoorI
import Derived.Test.YtofpocohihjddaaDoorJ
import Derived.KernelRfl
set_option linter.unusedSimpArgs false
set_option linter.unusedVariables false
set_option linter.unusedSectionVars false
namespace Go.Abs.V0
open Go.Proofs
set_option maxRecDepth 100000
def nu : Nat → FuncId
  | 0 => 34
  | 1 => 35
  | 2 => 36
  | 3 => 32
  | 4 => 42
  | 5 => 33
  | 6 => 22
  | 7 => 21
  | 10 => 44
  | 11 => 45
  | 12 => 31
  | 13 => 46
  | 15 => 26
  | 16 => 10
  | 18 => 16
  | 19 => 25
  | 24 => 38
  | 25 => 39
  | 26 => 40
  | 27 => 24
  | 29 => 23
  | 30 => 37
  | 73 => 27
  | 74 => 19
  | 75 => 17
  | 76 => 11
  | 77 => 15
  | 78 => 12
  | 79 => 13
  | 80 => 14
  | 81 => 18
  | 82 => 20
  | 83 => 9
  | 84 => 3
  | 85 => 4
  | 86 => 5
  | 87 => 6
  | _ => 0
def gnum : Nat → Nat
  | 0 => 1
  | 1 => 0
  | _ => 0
def gG : Nat → Contract
  | 0 => beginC
  | 1 => addC
  | 2 => sumC
  | 3 => hsumC
  | 4 => comprC
  | 5 => mac1C
  | 6 => macC
  | 7 => bytesC
  | 10 => schedC
  | 11 => mixC
  | 12 => intC
  | 13 => rotC
  | 15 => rsumC
  | 16 => fewC
  | 18 => rmacC
  | 19 => text32C
  | 24 => paddedC
  | 25 => schedC
  | 26 => rotrC
  | 27 => padKC
  | 29 => rbytesC
  | 30 => rintC
  | 74 => gbysC
  | 75 => nxtC
  | 76 => derC
  | 77 => inpC
  | 78 => derC
  | 79 => pthC
  | 80 => pthC
  | 81 => nxtC
  | 82 => gbysC
  | 83 => sanC
  | 84 => lawDer
  | 85 => lawPth
  | 86 => lawSepK
  | 87 => lawRnd
  | _ => ⟨fun _ => False, fun _ => .undef⟩
def gI : Nat → ItC
  | 73 => valsC
  | _ => ⟨fun _ _ => False, fun _ _ _ => none⟩
def gB : Nat → FuncId
  | 0 => 29
  | 1 => 28
  | 3 => 30
  | _ => 0
def gT : Nat → List AVal
  | 0 => w32s kc
  | 1 => w32s kc
  | _ => []
def E0 : Env := { G := gG, T := gT, I := gI }
noncomputable def K0 : Cx := { P := Tryd.prog, nu := nu, globs := [], N := { gnum := gnum, gs := [0, 1] }, E := E0, bt := 52, b5 := 5, bf := gB }
theorem v_n999999990 : BldFacts K0 0 := ⟨⟨Tryd.f29, Tryd.func29, by kernel_rfl, by kernel_rfl⟩, fun _ b bs w h => Go.Abs.TrydB.len b bs w h, fun h => (by cases h), fun h => (by cases h), fun h => (by cases h)⟩
theorem v_n999999991 : BldFacts K0 1 := ⟨⟨Tryd.f28, Tryd.func28, by kernel_rfl, by kernel_rfl⟩, fun h => (by cases h), fun _ b bs s w h hl => Go.Abs.TrydB.wstr b bs s w h hl, fun h => (by cases h), fun h => (by cases h)⟩
theorem v_n999999993 : BldFacts K0 3 := ⟨⟨Tryd.f30, Tryd.func30, by kernel_rfl, by kernel_rfl⟩, fun h => (by cases h), fun h => (by cases h), fun h => (by cases h), fun _ b l w h h0 => Go.Abs.TrydB.str b l w h h0⟩
theorem c_n12 : chkFun K0 f_wire_Int Tryd.f31 = true := by kernel_rfl
theorem k_n12 : callees f_wire_Int.body = [] := by kernel_rfl
theorem i_n12 : iters f_wire_Int.body = [] := by kernel_rfl
theorem v_n12 : Valid K0 12 intC := fun_valid (K := K0) (f := 12) (F := f_wire_Int) Tryd.func31 c_n12 (by rw [k_n12]; exact List.forall_mem_nil _) (int_ok E0) (by rw [i_n12]; exact List.forall_mem_nil _) (by kernel_rfl)
theorem c_n7 : chkFun K0 f_wire_Bytes Tryd.f21 = true := by kernel_rfl
theorem k_n7 : callees f_wire_Bytes.body = [(12, false)] := by kernel_rfl
theorem i_n7 : iters f_wire_Bytes.body = [] := by kernel_rfl
theorem v_n7 : Valid K0 7 bytesC := fun_valid (K := K0) (f := 7) (F := f_wire_Bytes) Tryd.func21 c_n7 (by rw [k_n7]; exact List.forall_mem_cons.2 ⟨v_n12, List.forall_mem_nil _⟩) (bytes_ok E0 rfl) (by rw [i_n7]; exact List.forall_mem_nil _) (by kernel_rfl)
theorem c_n0 : chkFun K0 f_hash_Begin Tryd.f34 = true := by kernel_rfl
theorem k_n0 : callees f_hash_Begin.body = [] := by kernel_rfl
theorem i_n0 : iters f_hash_Begin.body = [] := by kernel_rfl
theorem v_n0 : Valid K0 0 beginC := fun_valid (K := K0) (f := 0) (F := f_hash_Begin) Tryd.func34 c_n0 (by rw [k_n0]; exact List.forall_mem_nil _) (begin_ok E0) (by rw [i_n0]; exact List.forall_mem_nil _) (by kernel_rfl)
theorem c_n13 : chkFun K0 f_bits_RotateLeft32 Tryd.f46 = true := by kernel_rfl
theorem k_n13 : callees f_bits_RotateLeft32.body = [] := by kernel_rfl
theorem i_n13 : iters f_bits_RotateLeft32.body = [] := by kernel_rfl
theorem v_n13 : Valid K0 13 rotC := fun_valid (K := K0) (f := 13) (F := f_bits_RotateLeft32) Tryd.func46 c_n13 (by rw [k_n13]; exact List.forall_mem_nil _) (rot_ok E0) (by rw [i_n13]; exact List.forall_mem_nil _) (by kernel_rfl)
theorem c_n10 : chkFun K0 f_hash_schedule Tryd.f44 = true := by kernel_rfl
theorem k_n10 : callees f_hash_schedule.body = [(13, false), (13, false), (13, false), (13, false)] := by kernel_rfl
theorem i_n10 : iters f_hash_schedule.body = [] := by kernel_rfl
theorem v_n10 : Valid K0 10 schedC := fun_valid (K := K0) (f := 10) (F := f_hash_schedule) Tryd.func44 c_n10 (by rw [k_n10]; exact List.forall_mem_cons.2 ⟨v_n13, List.forall_mem_cons.2 ⟨v_n13, List.forall_mem_cons.2 ⟨v_n13, List.forall_mem_cons.2 ⟨v_n13, List.forall_mem_nil _⟩⟩⟩⟩) (sched_ok E0 rfl) (by rw [i_n10]; exact List.forall_mem_nil _) (by kernel_rfl)
theorem c_n11 : chkFun K0 f_hash_mix Tryd.f45 = true := by kernel_rfl
theorem k_n11 : callees f_hash_mix.body = [(13, false), (13, false), (13, false)] := by kernel_rfl
theorem i_n11 : iters f_hash_mix.body = [] := by kernel_rfl
theorem v_n11 : Valid K0 11 mixC := fun_valid (K := K0) (f := 11) (F := f_hash_mix) Tryd.func45 c_n11 (by rw [k_n11]; exact List.forall_mem_cons.2 ⟨v_n13, List.forall_mem_cons.2 ⟨v_n13, List.forall_mem_cons.2 ⟨v_n13, List.forall_mem_nil _⟩⟩⟩) (mix_ok E0 rfl) (by rw [i_n11]; exact List.forall_mem_nil _) (by kernel_rfl)
theorem c_n4 : chkFun K0 f_hash_compress Tryd.f42 = true := by kernel_rfl
theorem k_n4 : callees f_hash_compress.body = [(10, false), (11, false), (11, false)] := by kernel_rfl
theorem i_n4 : iters f_hash_compress.body = [] := by kernel_rfl
theorem v_n4 : Valid K0 4 comprC := fun_valid (K := K0) (f := 4) (F := f_hash_compress) Tryd.func42 c_n4 (by rw [k_n4]; exact List.forall_mem_cons.2 ⟨v_n10, List.forall_mem_cons.2 ⟨v_n11, List.forall_mem_cons.2 ⟨v_n11, List.forall_mem_nil _⟩⟩⟩) (compr_ok E0 rfl rfl rfl) (by rw [i_n4]; exact List.forall_mem_nil _) (by kernel_rfl)
theorem c_n1 : chkFun K0 f_hash_Stream_Add Tryd.f35 = true := by kernel_rfl
theorem k_n1 : callees f_hash_Stream_Add.body = [(4, false)] := by kernel_rfl
theorem i_n1 : iters f_hash_Stream_Add.body = [] := by kernel_rfl
theorem v_n1 : Valid K0 1 addC := fun_valid (K := K0) (f := 1) (F := f_hash_Stream_Add) Tryd.func35 c_n1 (by rw [k_n1]; exact List.forall_mem_cons.2 ⟨v_n4, List.forall_mem_nil _⟩) (add_ok E0 rfl) (by rw [i_n1]; exact List.forall_mem_nil _) (by kernel_rfl)
theorem c_n2 : chkFun K0 f_hash_Stream_Sum Tryd.f36 = true := by kernel_rfl
theorem k_n2 : callees f_hash_Stream_Sum.body = [(1, false)] := by kernel_rfl
theorem i_n2 : iters f_hash_Stream_Sum.body = [] := by kernel_rfl
theorem v_n2 : Valid K0 2 sumC := fun_valid (K := K0) (f := 2) (F := f_hash_Stream_Sum) Tryd.func36 c_n2 (by rw [k_n2]; exact List.forall_mem_cons.2 ⟨v_n1, List.forall_mem_nil _⟩) (sum_ok E0 rfl) (by rw [i_n2]; exact List.forall_mem_nil _) (by kernel_rfl)
theorem c_n3 : chkFun K0 f_hash_Sum Tryd.f32 = true := by kernel_rfl
theorem k_n3 : callees f_hash_Sum.body = [(0, false), (1, false), (2, false)] := by kernel_rfl
theorem i_n3 : iters f_hash_Sum.body = [] := by kernel_rfl
theorem v_n3 : Valid K0 3 hsumC := fun_valid (K := K0) (f := 3) (F := f_hash_Sum) Tryd.func32 c_n3 (by rw [k_n3]; exact List.forall_mem_cons.2 ⟨v_n0, List.forall_mem_cons.2 ⟨v_n1, List.forall_mem_cons.2 ⟨v_n2, List.forall_mem_nil _⟩⟩⟩) (hsum_ok E0 rfl rfl rfl) (by rw [i_n3]; exact List.forall_mem_nil _) (by kernel_rfl)
theorem c_n5 : chkFun K0 f_hash_Mac_1 Tryd.f33 = true := by kernel_rfl
theorem k_n5 : callees f_hash_Mac_1.body = [] := by kernel_rfl
theorem i_n5 : iters f_hash_Mac_1.body = [] := by kernel_rfl
theorem v_n5 : Valid K0 5 mac1C := fun_valid (K := K0) (f := 5) (F := f_hash_Mac_1) Tryd.func33 c_n5 (by rw [k_n5]; exact List.forall_mem_nil _) (mac1_ok E0) (by rw [i_n5]; exact List.forall_mem_nil _) (by kernel_rfl)
theorem c_n6 : chkFun K0 f_hash_Mac Tryd.f22 = true := by kernel_rfl
theorem k_n6 : callees f_hash_Mac.body = [(3, false), (0, false), (5, false), (1, false), (1, false), (2, false), (0, false), (5, false), (1, false), (1, false), (2, false)] := by kernel_rfl
theorem i_n6 : iters f_hash_Mac.body = [] := by kernel_rfl
theorem v_n6 : Valid K0 6 macC := fun_valid (K := K0) (f := 6) (F := f_hash_Mac) Tryd.func22 c_n6 (by rw [k_n6]; exact List.forall_mem_cons.2 ⟨v_n3, List.forall_mem_cons.2 ⟨v_n0, List.forall_mem_cons.2 ⟨v_n5, List.forall_mem_cons.2 ⟨v_n1, List.forall_mem_cons.2 ⟨v_n1, List.forall_mem_cons.2 ⟨v_n2, List.forall_mem_cons.2 ⟨v_n0, List.forall_mem_cons.2 ⟨v_n5, List.forall_mem_cons.2 ⟨v_n1, List.forall_mem_cons.2 ⟨v_n1, List.forall_mem_cons.2 ⟨v_n2, List.forall_mem_nil _⟩⟩⟩⟩⟩⟩⟩⟩⟩⟩⟩) (mac_ok E0 rfl rfl rfl rfl rfl) (by rw [i_n6]; exact List.forall_mem_nil _) (by kernel_rfl)
theorem c_n76 : chkFun K0 f_kdf_Derive Tryd.f11 = true := by kernel_rfl
theorem k_n76 : callees f_kdf_Derive.body = [(7, false), (7, false), (6, false)] := by kernel_rfl
theorem i_n76 : iters f_kdf_Derive.body = [] := by kernel_rfl
theorem v_n76 : Valid K0 76 derC := fun_valid (K := K0) (f := 76) (F := f_kdf_Derive) Tryd.func11 c_n76 (by rw [k_n76]; exact List.forall_mem_cons.2 ⟨v_n7, List.forall_mem_cons.2 ⟨v_n7, List.forall_mem_cons.2 ⟨v_n6, List.forall_mem_nil _⟩⟩⟩) (der_ok E0 rfl rfl) (by rw [i_n76]; exact List.forall_mem_nil _) (by kernel_rfl)
theorem c_n79 : chkFun K0 f_kdf_Path Tryd.f13 = true := by kernel_rfl
theorem k_n79 : callees f_kdf_Path.body = [(76, false)] := by kernel_rfl
theorem i_n79 : iters f_kdf_Path.body = [] := by kernel_rfl
theorem v_n79 : Valid K0 79 pthC := fun_valid (K := K0) (f := 79) (F := f_kdf_Path) Tryd.func13 c_n79 (by rw [k_n79]; exact List.forall_mem_cons.2 ⟨v_n76, List.forall_mem_nil _⟩) (pth_ok E0 rfl) (by rw [i_n79]; exact List.forall_mem_nil _) (by kernel_rfl)
theorem c_n75 : chkFun K0 f_kdf_Random_Next Tryd.f17 = true := by kernel_rfl
theorem k_n75 : callees f_kdf_Random_Next.body = [(76, false), (76, false)] := by kernel_rfl
theorem i_n75 : iters f_kdf_Random_Next.body = [] := by kernel_rfl
theorem v_n75 : Valid K0 75 nxtC := fun_valid (K := K0) (f := 75) (F := f_kdf_Random_Next) Tryd.func17 c_n75 (by rw [k_n75]; exact List.forall_mem_cons.2 ⟨v_n76, List.forall_mem_cons.2 ⟨v_n76, List.forall_mem_nil _⟩⟩) (nxt_ok E0 rfl) (by rw [i_n75]; exact List.forall_mem_nil _) (by kernel_rfl)
theorem c_n73 : chkIt K0 f_kdf_Random_values Tryd.f27 = true := by kernel_rfl
theorem k_n73 : calleesI f_kdf_Random_values.body = [(75, false)] := by kernel_rfl
theorem v_n73 : ValidIt K0 73 valsC := it_valid (K := K0) (f := 73) (F := f_kdf_Random_values) Tryd.func27 c_n73 (by rw [k_n73]; exact List.forall_mem_cons.2 ⟨v_n75, List.forall_mem_nil _⟩) (vals_ok E0 rfl)
theorem c_n74 : chkFun K0 f_kdf_Random_Bytes Tryd.f19 = true := by kernel_rfl
theorem k_n74 : callees f_kdf_Random_Bytes.body = [(999999990, true), (999999991, true), (999999990, true), (999999993, true)] := by kernel_rfl
theorem i_n74 : iters f_kdf_Random_Bytes.body = [73] := by kernel_rfl
theorem v_n74 : Valid K0 74 gbysC := fun_valid (K := K0) (f := 74) (F := f_kdf_Random_Bytes) Tryd.func19 c_n74 (by rw [k_n74]; exact List.forall_mem_cons.2 ⟨v_n999999990, List.forall_mem_cons.2 ⟨v_n999999991, List.forall_mem_cons.2 ⟨v_n999999990, List.forall_mem_cons.2 ⟨v_n999999993, List.forall_mem_nil _⟩⟩⟩⟩) (gbys_ok E0 rfl) (by rw [i_n74]; exact List.forall_mem_cons.2 ⟨v_n73, List.forall_mem_nil _⟩) (by kernel_rfl)
theorem c_n83 : chkFun K0 f_custodylaw05_sanity Tryd.f9 = true := by kernel_rfl
theorem k_n83 : callees f_custodylaw05_sanity.body = [(76, false), (79, false), (75, false), (74, false), (76, false)] := by kernel_rfl
theorem i_n83 : iters f_custodylaw05_sanity.body = [] := by kernel_rfl
theorem v_n83 : Valid K0 83 sanC := fun_valid (K := K0) (f := 83) (F := f_custodylaw05_sanity) Tryd.func9 c_n83 (by rw [k_n83]; exact List.forall_mem_cons.2 ⟨v_n76, List.forall_mem_cons.2 ⟨v_n79, List.forall_mem_cons.2 ⟨v_n75, List.forall_mem_cons.2 ⟨v_n74, List.forall_mem_cons.2 ⟨v_n76, List.forall_mem_nil _⟩⟩⟩⟩⟩) (san5_ok E0 rfl rfl rfl rfl) (by rw [i_n83]; exact List.forall_mem_nil _) (by kernel_rfl)
theorem c_n16 : chkFun K0 f_custodyref02_Few Tryd.f10 = true := by kernel_rfl
theorem k_n16 : callees f_custodyref02_Few.body = [] := by kernel_rfl
theorem i_n16 : iters f_custodyref02_Few.body = [] := by kernel_rfl
theorem v_n16 : Valid K0 16 fewC := fun_valid (K := K0) (f := 16) (F := f_custodyref02_Few) Tryd.func10 c_n16 (by rw [k_n16]; exact List.forall_mem_nil _) (few_ok E0) (by rw [i_n16]; exact List.forall_mem_nil _) (by kernel_rfl)
theorem c_n30 : chkFun K0 f_custodyref01_Int Tryd.f37 = true := by kernel_rfl
theorem k_n30 : callees f_custodyref01_Int.body = [] := by kernel_rfl
theorem i_n30 : iters f_custodyref01_Int.body = [] := by kernel_rfl
theorem v_n30 : Valid K0 30 rintC := fun_valid (K := K0) (f := 30) (F := f_custodyref01_Int) Tryd.func37 c_n30 (by rw [k_n30]; exact List.forall_mem_nil _) (rint_ok E0) (by rw [i_n30]; exact List.forall_mem_nil _) (by kernel_rfl)
theorem c_n29 : chkFun K0 f_custodyref01_Bytes Tryd.f23 = true := by kernel_rfl
theorem k_n29 : callees f_custodyref01_Bytes.body = [(30, false)] := by kernel_rfl
theorem i_n29 : iters f_custodyref01_Bytes.body = [] := by kernel_rfl
theorem v_n29 : Valid K0 29 rbytesC := fun_valid (K := K0) (f := 29) (F := f_custodyref01_Bytes) Tryd.func23 c_n29 (by rw [k_n29]; exact List.forall_mem_cons.2 ⟨v_n30, List.forall_mem_nil _⟩) (rbytes_ok E0 rfl) (by rw [i_n29]; exact List.forall_mem_nil _) (by kernel_rfl)
theorem c_n77 : chkFun K0 f_custodyref05_Input Tryd.f15 = true := by kernel_rfl
theorem k_n77 : callees f_custodyref05_Input.body = [(29, false), (29, false)] := by kernel_rfl
theorem i_n77 : iters f_custodyref05_Input.body = [] := by kernel_rfl
theorem v_n77 : Valid K0 77 inpC := fun_valid (K := K0) (f := 77) (F := f_custodyref05_Input) Tryd.func15 c_n77 (by rw [k_n77]; exact List.forall_mem_cons.2 ⟨v_n29, List.forall_mem_cons.2 ⟨v_n29, List.forall_mem_nil _⟩⟩) (inp_ok E0 rfl) (by rw [i_n77]; exact List.forall_mem_nil _) (by kernel_rfl)
theorem c_n24 : chkFun K0 f_custodyref02_padded Tryd.f38 = true := by kernel_rfl
theorem k_n24 : callees f_custodyref02_padded.body = [] := by kernel_rfl
theorem i_n24 : iters f_custodyref02_padded.body = [] := by kernel_rfl
theorem v_n24 : Valid K0 24 paddedC := fun_valid (K := K0) (f := 24) (F := f_custodyref02_padded) Tryd.func38 c_n24 (by rw [k_n24]; exact List.forall_mem_nil _) (padded_ok E0) (by rw [i_n24]; exact List.forall_mem_nil _) (by kernel_rfl)
theorem c_n26 : chkFun K0 f_custodyref02_rotr Tryd.f40 = true := by kernel_rfl
theorem k_n26 : callees f_custodyref02_rotr.body = [] := by kernel_rfl
theorem i_n26 : iters f_custodyref02_rotr.body = [] := by kernel_rfl
theorem v_n26 : Valid K0 26 rotrC := fun_valid (K := K0) (f := 26) (F := f_custodyref02_rotr) Tryd.func40 c_n26 (by rw [k_n26]; exact List.forall_mem_nil _) (rotr_ok E0) (by rw [i_n26]; exact List.forall_mem_nil _) (by kernel_rfl)
theorem c_n25 : chkFun K0 f_custodyref02_words Tryd.f39 = true := by kernel_rfl
theorem k_n25 : callees f_custodyref02_words.body = [(26, false), (26, false), (26, false), (26, false)] := by kernel_rfl
theorem i_n25 : iters f_custodyref02_words.body = [] := by kernel_rfl
theorem v_n25 : Valid K0 25 schedC := fun_valid (K := K0) (f := 25) (F := f_custodyref02_words) Tryd.func39 c_n25 (by rw [k_n25]; exact List.forall_mem_cons.2 ⟨v_n26, List.forall_mem_cons.2 ⟨v_n26, List.forall_mem_cons.2 ⟨v_n26, List.forall_mem_cons.2 ⟨v_n26, List.forall_mem_nil _⟩⟩⟩⟩) (words_ok E0 rfl) (by rw [i_n25]; exact List.forall_mem_nil _) (by kernel_rfl)
theorem c_n15 : chkFun K0 f_custodyref02_Sum Tryd.f26 = true := by kernel_rfl
theorem k_n15 : callees f_custodyref02_Sum.body = [(24, false), (25, false), (26, false), (26, false), (26, false), (26, false), (26, false), (26, false)] := by kernel_rfl
theorem i_n15 : iters f_custodyref02_Sum.body = [] := by kernel_rfl
theorem v_n15 : Valid K0 15 rsumC := fun_valid (K := K0) (f := 15) (F := f_custodyref02_Sum) Tryd.func26 c_n15 (by rw [k_n15]; exact List.forall_mem_cons.2 ⟨v_n24, List.forall_mem_cons.2 ⟨v_n25, List.forall_mem_cons.2 ⟨v_n26, List.forall_mem_cons.2 ⟨v_n26, List.forall_mem_cons.2 ⟨v_n26, List.forall_mem_cons.2 ⟨v_n26, List.forall_mem_cons.2 ⟨v_n26, List.forall_mem_cons.2 ⟨v_n26, List.forall_mem_nil _⟩⟩⟩⟩⟩⟩⟩⟩) (rsum_ok E0 rfl rfl rfl rfl) (by rw [i_n15]; exact List.forall_mem_nil _) (by kernel_rfl)
theorem c_n19 : chkFun K0 f_custodyref02_Bytes32 Tryd.f25 = true := by kernel_rfl
theorem k_n19 : callees f_custodyref02_Bytes32.body = [] := by kernel_rfl
theorem i_n19 : iters f_custodyref02_Bytes32.body = [] := by kernel_rfl
theorem v_n19 : Valid K0 19 text32C := fun_valid (K := K0) (f := 19) (F := f_custodyref02_Bytes32) Tryd.func25 c_n19 (by rw [k_n19]; exact List.forall_mem_nil _) (text32_ok E0) (by rw [i_n19]; exact List.forall_mem_nil _) (by kernel_rfl)
theorem c_n27 : chkFun K0 f_custodyref02_padKey Tryd.f24 = true := by kernel_rfl
theorem k_n27 : callees f_custodyref02_padKey.body = [(15, false), (19, false)] := by kernel_rfl
theorem i_n27 : iters f_custodyref02_padKey.body = [] := by kernel_rfl
theorem v_n27 : Valid K0 27 padKC := fun_valid (K := K0) (f := 27) (F := f_custodyref02_padKey) Tryd.func24 c_n27 (by rw [k_n27]; exact List.forall_mem_cons.2 ⟨v_n15, List.forall_mem_cons.2 ⟨v_n19, List.forall_mem_nil _⟩⟩) (padKey_ok E0 rfl rfl) (by rw [i_n27]; exact List.forall_mem_nil _) (by kernel_rfl)
theorem c_n18 : chkFun K0 f_custodyref02_Mac Tryd.f16 = true := by kernel_rfl
theorem k_n18 : callees f_custodyref02_Mac.body = [(27, false), (27, false), (15, false), (19, false), (15, false), (19, false)] := by kernel_rfl
theorem i_n18 : iters f_custodyref02_Mac.body = [] := by kernel_rfl
theorem v_n18 : Valid K0 18 rmacC := fun_valid (K := K0) (f := 18) (F := f_custodyref02_Mac) Tryd.func16 c_n18 (by rw [k_n18]; exact List.forall_mem_cons.2 ⟨v_n27, List.forall_mem_cons.2 ⟨v_n27, List.forall_mem_cons.2 ⟨v_n15, List.forall_mem_cons.2 ⟨v_n19, List.forall_mem_cons.2 ⟨v_n15, List.forall_mem_cons.2 ⟨v_n19, List.forall_mem_nil _⟩⟩⟩⟩⟩⟩) (rmac_ok E0 rfl rfl rfl) (by rw [i_n18]; exact List.forall_mem_nil _) (by kernel_rfl)
theorem c_n78 : chkFun K0 f_custodyref05_Derive Tryd.f12 = true := by kernel_rfl
theorem k_n78 : callees f_custodyref05_Derive.body = [(77, false), (18, false)] := by kernel_rfl
theorem i_n78 : iters f_custodyref05_Derive.body = [] := by kernel_rfl
theorem v_n78 : Valid K0 78 derC := fun_valid (K := K0) (f := 78) (F := f_custodyref05_Derive) Tryd.func12 c_n78 (by rw [k_n78]; exact List.forall_mem_cons.2 ⟨v_n77, List.forall_mem_cons.2 ⟨v_n18, List.forall_mem_nil _⟩⟩) (rder_ok E0 rfl rfl) (by rw [i_n78]; exact List.forall_mem_nil _) (by kernel_rfl)
theorem c_n84 : chkFun K0 f_custodylaw05_KdfDeriveMatchesSpec Tryd.f3 = true := by kernel_rfl
theorem k_n84 : callees f_custodylaw05_KdfDeriveMatchesSpec.body = [(83, false), (16, false), (76, false), (78, false)] := by kernel_rfl
theorem i_n84 : iters f_custodylaw05_KdfDeriveMatchesSpec.body = [] := by kernel_rfl
theorem v_n84 : Valid K0 84 lawDer := fun_valid (K := K0) (f := 84) (F := f_custodylaw05_KdfDeriveMatchesSpec) Tryd.func3 c_n84 (by rw [k_n84]; exact List.forall_mem_cons.2 ⟨v_n83, List.forall_mem_cons.2 ⟨v_n16, List.forall_mem_cons.2 ⟨v_n76, List.forall_mem_cons.2 ⟨v_n78, List.forall_mem_nil _⟩⟩⟩⟩) (law_Der_ok E0 rfl rfl rfl rfl) (by rw [i_n84]; exact List.forall_mem_nil _) (by kernel_rfl)
theorem c_n80 : chkFun K0 f_custodyref05_Path Tryd.f14 = true := by kernel_rfl
theorem k_n80 : callees f_custodyref05_Path.body = [(78, false)] := by kernel_rfl
theorem i_n80 : iters f_custodyref05_Path.body = [] := by kernel_rfl
theorem v_n80 : Valid K0 80 pthC := fun_valid (K := K0) (f := 80) (F := f_custodyref05_Path) Tryd.func14 c_n80 (by rw [k_n80]; exact List.forall_mem_cons.2 ⟨v_n78, List.forall_mem_nil _⟩) (rpth_ok E0 rfl) (by rw [i_n80]; exact List.forall_mem_nil _) (by kernel_rfl)
theorem c_n85 : chkFun K0 f_custodylaw05_KdfPathMatchesSpec Tryd.f4 = true := by kernel_rfl
theorem k_n85 : callees f_custodylaw05_KdfPathMatchesSpec.body = [(83, false), (16, false), (79, false), (80, false), (79, false), (79, false)] := by kernel_rfl
theorem i_n85 : iters f_custodylaw05_KdfPathMatchesSpec.body = [] := by kernel_rfl
theorem v_n85 : Valid K0 85 lawPth := fun_valid (K := K0) (f := 85) (F := f_custodylaw05_KdfPathMatchesSpec) Tryd.func4 c_n85 (by rw [k_n85]; exact List.forall_mem_cons.2 ⟨v_n83, List.forall_mem_cons.2 ⟨v_n16, List.forall_mem_cons.2 ⟨v_n79, List.forall_mem_cons.2 ⟨v_n80, List.forall_mem_cons.2 ⟨v_n79, List.forall_mem_cons.2 ⟨v_n79, List.forall_mem_nil _⟩⟩⟩⟩⟩⟩) (law_Pth_ok E0 rfl rfl rfl rfl) (by rw [i_n85]; exact List.forall_mem_nil _) (by kernel_rfl)
theorem c_n81 : chkFun K0 f_custodyref05_Random_Next Tryd.f18 = true := by kernel_rfl
theorem k_n81 : callees f_custodyref05_Random_Next.body = [(78, false), (78, false)] := by kernel_rfl
theorem i_n81 : iters f_custodyref05_Random_Next.body = [] := by kernel_rfl
theorem v_n81 : Valid K0 81 nxtC := fun_valid (K := K0) (f := 81) (F := f_custodyref05_Random_Next) Tryd.func18 c_n81 (by rw [k_n81]; exact List.forall_mem_cons.2 ⟨v_n78, List.forall_mem_cons.2 ⟨v_n78, List.forall_mem_nil _⟩⟩) (rnxt_ok E0 rfl) (by rw [i_n81]; exact List.forall_mem_nil _) (by kernel_rfl)
theorem c_n82 : chkFun K0 f_custodyref05_Random_Bytes Tryd.f20 = true := by kernel_rfl
theorem k_n82 : callees f_custodyref05_Random_Bytes.body = [(81, false)] := by kernel_rfl
theorem i_n82 : iters f_custodyref05_Random_Bytes.body = [] := by kernel_rfl
theorem v_n82 : Valid K0 82 gbysC := fun_valid (K := K0) (f := 82) (F := f_custodyref05_Random_Bytes) Tryd.func20 c_n82 (by rw [k_n82]; exact List.forall_mem_cons.2 ⟨v_n81, List.forall_mem_nil _⟩) (rbys_ok E0 rfl) (by rw [i_n82]; exact List.forall_mem_nil _) (by kernel_rfl)
theorem c_n87 : chkFun K0 f_custodylaw05_KdfRandomMatchesSpec Tryd.f6 = true := by kernel_rfl
theorem k_n87 : callees f_custodylaw05_KdfRandomMatchesSpec.body = [(83, false), (75, false), (81, false), (74, false), (82, false)] := by kernel_rfl
theorem i_n87 : iters f_custodylaw05_KdfRandomMatchesSpec.body = [] := by kernel_rfl
theorem v_n87 : Valid K0 87 lawRnd := fun_valid (K := K0) (f := 87) (F := f_custodylaw05_KdfRandomMatchesSpec) Tryd.func6 c_n87 (by rw [k_n87]; exact List.forall_mem_cons.2 ⟨v_n83, List.forall_mem_cons.2 ⟨v_n75, List.forall_mem_cons.2 ⟨v_n81, List.forall_mem_cons.2 ⟨v_n74, List.forall_mem_cons.2 ⟨v_n82, List.forall_mem_nil _⟩⟩⟩⟩⟩) (law_Rnd_ok E0 rfl rfl rfl rfl rfl) (by rw [i_n87]; exact List.forall_mem_nil _) (by kernel_rfl)
theorem c_n86 : chkFun K0 f_custodylaw05_KdfDeriveSeparates Tryd.f5 = true := by kernel_rfl
theorem k_n86 : callees f_custodylaw05_KdfDeriveSeparates.body = [(83, false), (16, false), (16, false), (77, false), (77, false), (76, false), (76, false), (18, false), (18, false)] := by kernel_rfl
theorem i_n86 : iters f_custodylaw05_KdfDeriveSeparates.body = [] := by kernel_rfl
theorem v_n86 : Valid K0 86 lawSepK := fun_valid (K := K0) (f := 86) (F := f_custodylaw05_KdfDeriveSeparates) Tryd.func5 c_n86 (by rw [k_n86]; exact List.forall_mem_cons.2 ⟨v_n83, List.forall_mem_cons.2 ⟨v_n16, List.forall_mem_cons.2 ⟨v_n16, List.forall_mem_cons.2 ⟨v_n77, List.forall_mem_cons.2 ⟨v_n77, List.forall_mem_cons.2 ⟨v_n76, List.forall_mem_cons.2 ⟨v_n76, List.forall_mem_cons.2 ⟨v_n18, List.forall_mem_cons.2 ⟨v_n18, List.forall_mem_nil _⟩⟩⟩⟩⟩⟩⟩⟩⟩) (law_SepK_ok E0 rfl rfl rfl rfl rfl) (by rw [i_n86]; exact List.forall_mem_nil _) (by kernel_rfl)
end Go.Abs.V0
