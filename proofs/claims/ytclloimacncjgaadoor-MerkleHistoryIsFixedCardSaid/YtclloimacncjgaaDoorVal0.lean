/- The translated functions are those that the lemmas speak of; so each meets its contract. -/
import Derived.Test.YtclloimacncjgaaDoorRows
import Derived.Test.YtclloimacncjgaaDoorA
import Derived.Test.YtclloimacncjgaaDoorB
import Derived.Test.YtclloimacncjgaaDoorC
import Derived.Test.YtclloimacncjgaaDoorD
import Derived.Test.YtclloimacncjgaaDoorT
import Derived.Test.YtclloimacncjgaaDoorE
import Derived.Test.YtclloimacncjgaaDoorF
import Derived.Test.YtclloimacncjgaaDoorG
import Derived.Test.YtclloimacncjgaaDoorK
import Derived.Test.YtclloimacncjgaaDoorL
import Derived.Test.YtclloimacncjgaaDoorM
import Derived.Test.YtclloimacncjgaaDoorN
import Derived.Test.YtclloimacncjgaaDoorO
import Derived.Test.YtclloimacncjgaaDoorP
import Derived.Test.YtclloimacncjgaaDoorQ
import Derived.Test.YtclloimacncjgaaDoorR
import Derived.Test.YtclloimacncjgaaDoorS
import Derived.Test.YtclloimacncjgaaDoorU
import Derived.KernelRfl
set_option linter.unusedSimpArgs false
set_option linter.unusedVariables false
set_option linter.unusedSectionVars false
namespace Go.Abs.V0
open Go.Proofs
set_option maxRecDepth 100000
def nu : Nat → FuncId
  | 0 => 64
  | 1 => 65
  | 2 => 66
  | 3 => 52
  | 4 => 79
  | 7 => 61
  | 10 => 83
  | 11 => 84
  | 12 => 75
  | 13 => 85
  | 15 => 63
  | 21 => 53
  | 23 => 54
  | 24 => 76
  | 25 => 77
  | 26 => 78
  | 28 => 48
  | 29 => 67
  | 30 => 80
  | 159 => 35
  | 160 => 34
  | 161 => 36
  | 162 => 36
  | 163 => 11
  | 164 => 41
  | 165 => 40
  | 166 => 42
  | 167 => 38
  | 168 => 16
  | 169 => 43
  | 170 => 60
  | 171 => 13
  | 172 => 47
  | 173 => 18
  | 174 => 49
  | 175 => 49
  | 176 => 20
  | 177 => 51
  | 178 => 22
  | 179 => 55
  | 180 => 56
  | 181 => 57
  | 182 => 28
  | 183 => 58
  | 184 => 71
  | 185 => 29
  | 186 => 62
  | 187 => 34
  | 188 => 68
  | 189 => 69
  | 190 => 70
  | 191 => 73
  | 192 => 74
  | 193 => 81
  | 194 => 82
  | 195 => 37
  | 203 => 25
  | 208 => 26
  | 215 => 10
  | 219 => 24
  | 221 => 27
  | 222 => 7
  | _ => 0
def gnum : Nat → Nat
  | 0 => 3
  | 1 => 0
  | 3 => 2
  | 4 => 1
  | _ => 0
def gG : Nat → Contract
  | 0 => beginC
  | 1 => addC
  | 2 => sumC
  | 3 => hsumC
  | 4 => comprC
  | 7 => bytesC
  | 10 => schedC
  | 11 => mixC
  | 12 => intC
  | 13 => rotC
  | 15 => rsumC
  | 21 => inputC
  | 23 => text16C
  | 24 => paddedC
  | 25 => schedC
  | 26 => rotrC
  | 28 => shortC
  | 29 => rbytesC
  | 30 => rintC
  | 162 => revE
  | 163 => prvC
  | 164 => inM
  | 165 => shM
  | 166 => leafM
  | 167 => splC
  | 168 => rootC
  | 169 => nodeM
  | 170 => lenC
  | 171 => pvpC
  | 172 => inpsC
  | 173 => vfyC
  | 175 => revE
  | 176 => vprC
  | 177 => eqBsC
  | 178 => clC
  | 179 => valC
  | 180 => cloC
  | 181 => tzC
  | 182 => padC
  | 185 => topC
  | 188 => onesC
  | 189 => noC
  | 190 => tzC
  | 191 => noC
  | 192 => lenC
  | 193 => noC
  | 194 => onesC
  | 195 => splC
  | 203 => rinC
  | 208 => pinC
  | 215 => sanC
  | 219 => sh8C
  | 221 => colC
  | 222 => lawKH
  | _ => ⟨fun _ => False, fun _ => .undef⟩
def gM : Nat → CM
  | 159 => pr1M
  | 183 => bwdM
  | 186 => in1M
  | _ => ⟨[], [], fun _ => False, fun _ => .undef, fun _ _ => []⟩
def gC : Nat → CW
  | 160 => dsc1
  | 161 => revW
  | 174 => revWb
  | 187 => dsc2
  | _ => ⟨[], [], [], fun _ _ => False, fun _ _ => .undef, fun _ _ _ => []⟩
def gI : Nat → ItC
  | 184 => bwdI
  | _ => ⟨fun _ _ => False, fun _ _ _ => none, []⟩
def gT : Nat → List AVal
  | 0 => w32s kc
  | 1 => w32s kc
  | 3 => bys dbT
  | 4 => bys db32T
  | _ => []
def E0 : Env := { G := gG, T := gT, M := gM, I := gI, C := gC }
noncomputable def K0 : Cx := { P := Tryd.prog, nu := nu, globs := [], N := { gnum := gnum, gs := [0, 1, 3, 4] }, E := E0 }
theorem i_n12 : iters f_wire_Int.body = [] := by kernel_rfl
theorem c_n12 : chkFun K0 f_wire_Int Tryd.f75 = true := by kernel_rfl
theorem k_n12 : (callees f_wire_Int.body).all (fun p => ([] : List (Nat × Bool)).contains p) = true := by kernel_rfl
theorem v_n12 : Valid K0 12 intC := fun_valid (K := K0) (f := 12) (F := f_wire_Int) Tryd.func75 c_n12 (vb_of k_n12 (List.forall_mem_nil _)) (int_ok E0) (by rw [i_n12]; exact List.forall_mem_nil _) (by kernel_rfl) (by kernel_rfl)
theorem i_n7 : iters f_wire_Bytes.body = [] := by kernel_rfl
theorem c_n7 : chkFun K0 f_wire_Bytes Tryd.f61 = true := by kernel_rfl
theorem k_n7 : (callees f_wire_Bytes.body).all (fun p => ([(12, false)] : List (Nat × Bool)).contains p) = true := by kernel_rfl
theorem v_n7 : Valid K0 7 bytesC := fun_valid (K := K0) (f := 7) (F := f_wire_Bytes) Tryd.func61 c_n7 (vb_of k_n7 (List.forall_mem_cons.2 ⟨v_n12, List.forall_mem_nil _⟩)) (bytes_ok E0 rfl) (by rw [i_n7]; exact List.forall_mem_nil _) (by kernel_rfl) (by kernel_rfl)
theorem i_n164 : iters f_merkle_input.body = [] := by kernel_rfl
theorem c_n164 : chkFun K0 f_merkle_input Tryd.f41 = true := by kernel_rfl
theorem k_n164 : (callees f_merkle_input.body).all (fun p => ([(7, false)] : List (Nat × Bool)).contains p) = true := by kernel_rfl
theorem v_n164 : Valid K0 164 inM := fun_valid (K := K0) (f := 164) (F := f_merkle_input) Tryd.func41 c_n164 (vb_of k_n164 (List.forall_mem_cons.2 ⟨v_n7, List.forall_mem_nil _⟩)) (minput_ok E0 rfl) (by rw [i_n164]; exact List.forall_mem_nil _) (by kernel_rfl) (by kernel_rfl)
theorem i_n0 : iters f_hash_Begin.body = [] := by kernel_rfl
theorem c_n0 : chkFun K0 f_hash_Begin Tryd.f64 = true := by kernel_rfl
theorem k_n0 : (callees f_hash_Begin.body).all (fun p => ([] : List (Nat × Bool)).contains p) = true := by kernel_rfl
theorem v_n0 : Valid K0 0 beginC := fun_valid (K := K0) (f := 0) (F := f_hash_Begin) Tryd.func64 c_n0 (vb_of k_n0 (List.forall_mem_nil _)) (begin_ok E0) (by rw [i_n0]; exact List.forall_mem_nil _) (by kernel_rfl) (by kernel_rfl)
theorem i_n13 : iters f_bits_RotateLeft32.body = [] := by kernel_rfl
theorem c_n13 : chkFun K0 f_bits_RotateLeft32 Tryd.f85 = true := by kernel_rfl
theorem k_n13 : (callees f_bits_RotateLeft32.body).all (fun p => ([] : List (Nat × Bool)).contains p) = true := by kernel_rfl
theorem v_n13 : Valid K0 13 rotC := fun_valid (K := K0) (f := 13) (F := f_bits_RotateLeft32) Tryd.func85 c_n13 (vb_of k_n13 (List.forall_mem_nil _)) (rot_ok E0) (by rw [i_n13]; exact List.forall_mem_nil _) (by kernel_rfl) (by kernel_rfl)
theorem i_n10 : iters f_hash_schedule.body = [] := by kernel_rfl
theorem c_n10 : chkFun K0 f_hash_schedule Tryd.f83 = true := by kernel_rfl
theorem k_n10 : (callees f_hash_schedule.body).all (fun p => ([(13, false)] : List (Nat × Bool)).contains p) = true := by kernel_rfl
theorem v_n10 : Valid K0 10 schedC := fun_valid (K := K0) (f := 10) (F := f_hash_schedule) Tryd.func83 c_n10 (vb_of k_n10 (List.forall_mem_cons.2 ⟨v_n13, List.forall_mem_nil _⟩)) (sched_ok E0 rfl) (by rw [i_n10]; exact List.forall_mem_nil _) (by kernel_rfl) (by kernel_rfl)
theorem i_n11 : iters f_hash_mix.body = [] := by kernel_rfl
theorem c_n11 : chkFun K0 f_hash_mix Tryd.f84 = true := by kernel_rfl
theorem k_n11 : (callees f_hash_mix.body).all (fun p => ([(13, false)] : List (Nat × Bool)).contains p) = true := by kernel_rfl
theorem v_n11 : Valid K0 11 mixC := fun_valid (K := K0) (f := 11) (F := f_hash_mix) Tryd.func84 c_n11 (vb_of k_n11 (List.forall_mem_cons.2 ⟨v_n13, List.forall_mem_nil _⟩)) (mix_ok E0 rfl) (by rw [i_n11]; exact List.forall_mem_nil _) (by kernel_rfl) (by kernel_rfl)
theorem i_n4 : iters f_hash_compress.body = [] := by kernel_rfl
theorem c_n4 : chkFun K0 f_hash_compress Tryd.f79 = true := by kernel_rfl
theorem k_n4 : (callees f_hash_compress.body).all (fun p => ([(10, false), (11, false)] : List (Nat × Bool)).contains p) = true := by kernel_rfl
theorem v_n4 : Valid K0 4 comprC := fun_valid (K := K0) (f := 4) (F := f_hash_compress) Tryd.func79 c_n4 (vb_of k_n4 (List.forall_mem_cons.2 ⟨v_n10, List.forall_mem_cons.2 ⟨v_n11, List.forall_mem_nil _⟩⟩)) (compr_ok E0 rfl rfl rfl) (by rw [i_n4]; exact List.forall_mem_nil _) (by kernel_rfl) (by kernel_rfl)
theorem i_n1 : iters f_hash_Stream_Add.body = [] := by kernel_rfl
theorem c_n1 : chkFun K0 f_hash_Stream_Add Tryd.f65 = true := by kernel_rfl
theorem k_n1 : (callees f_hash_Stream_Add.body).all (fun p => ([(4, false)] : List (Nat × Bool)).contains p) = true := by kernel_rfl
theorem v_n1 : Valid K0 1 addC := fun_valid (K := K0) (f := 1) (F := f_hash_Stream_Add) Tryd.func65 c_n1 (vb_of k_n1 (List.forall_mem_cons.2 ⟨v_n4, List.forall_mem_nil _⟩)) (add_ok E0 rfl) (by rw [i_n1]; exact List.forall_mem_nil _) (by kernel_rfl) (by kernel_rfl)
theorem i_n2 : iters f_hash_Stream_Sum.body = [] := by kernel_rfl
theorem c_n2 : chkFun K0 f_hash_Stream_Sum Tryd.f66 = true := by kernel_rfl
theorem k_n2 : (callees f_hash_Stream_Sum.body).all (fun p => ([(1, false)] : List (Nat × Bool)).contains p) = true := by kernel_rfl
theorem v_n2 : Valid K0 2 sumC := fun_valid (K := K0) (f := 2) (F := f_hash_Stream_Sum) Tryd.func66 c_n2 (vb_of k_n2 (List.forall_mem_cons.2 ⟨v_n1, List.forall_mem_nil _⟩)) (sum_ok E0 rfl) (by rw [i_n2]; exact List.forall_mem_nil _) (by kernel_rfl) (by kernel_rfl)
theorem i_n3 : iters f_hash_Sum.body = [] := by kernel_rfl
theorem c_n3 : chkFun K0 f_hash_Sum Tryd.f52 = true := by kernel_rfl
theorem k_n3 : (callees f_hash_Sum.body).all (fun p => ([(0, false), (1, false), (2, false)] : List (Nat × Bool)).contains p) = true := by kernel_rfl
theorem v_n3 : Valid K0 3 hsumC := fun_valid (K := K0) (f := 3) (F := f_hash_Sum) Tryd.func52 c_n3 (vb_of k_n3 (List.forall_mem_cons.2 ⟨v_n0, List.forall_mem_cons.2 ⟨v_n1, List.forall_mem_cons.2 ⟨v_n2, List.forall_mem_nil _⟩⟩⟩)) (hsum_ok E0 rfl rfl rfl) (by rw [i_n3]; exact List.forall_mem_nil _) (by kernel_rfl) (by kernel_rfl)
theorem i_n165 : iters f_merkle_short.body = [] := by kernel_rfl
theorem c_n165 : chkFun K0 f_merkle_short Tryd.f40 = true := by kernel_rfl
theorem k_n165 : (callees f_merkle_short.body).all (fun p => ([(3, false)] : List (Nat × Bool)).contains p) = true := by kernel_rfl
theorem v_n165 : Valid K0 165 shM := fun_valid (K := K0) (f := 165) (F := f_merkle_short) Tryd.func40 c_n165 (vb_of k_n165 (List.forall_mem_cons.2 ⟨v_n3, List.forall_mem_nil _⟩)) (mshort_ok E0 rfl) (by rw [i_n165]; exact List.forall_mem_nil _) (by kernel_rfl) (by kernel_rfl)
theorem i_n166 : iters f_merkle_leaf.body = [] := by kernel_rfl
theorem c_n166 : chkFun K0 f_merkle_leaf Tryd.f42 = true := by kernel_rfl
theorem k_n166 : (callees f_merkle_leaf.body).all (fun p => ([(164, false)] : List (Nat × Bool)).contains p) = true := by kernel_rfl
theorem v_n166 : Valid K0 166 leafM := fun_valid (K := K0) (f := 166) (F := f_merkle_leaf) Tryd.func42 c_n166 (vb_of k_n166 (List.forall_mem_cons.2 ⟨v_n164, List.forall_mem_nil _⟩)) (leaf_ok E0 rfl) (by rw [i_n166]; exact List.forall_mem_nil _) (by kernel_rfl) (by kernel_rfl)
theorem i_n191 : iters f_bits_Len32.body = [] := by kernel_rfl
theorem c_n191 : chkFun K0 f_bits_Len32 Tryd.f73 = true := by kernel_rfl
theorem k_n191 : (callees f_bits_Len32.body).all (fun p => ([] : List (Nat × Bool)).contains p) = true := by kernel_rfl
theorem v_n191 : Valid K0 191 noC := fun_valid (K := K0) (f := 191) (F := f_bits_Len32) Tryd.func73 c_n191 (vb_of k_n191 (List.forall_mem_nil _)) (len32_ok E0) (by rw [i_n191]; exact List.forall_mem_nil _) (by kernel_rfl) (by kernel_rfl)
theorem i_n192 : iters f_bits_Len64.body = [] := by kernel_rfl
theorem c_n192 : chkFun K0 f_bits_Len64 Tryd.f74 = true := by kernel_rfl
theorem k_n192 : (callees f_bits_Len64.body).all (fun p => ([] : List (Nat × Bool)).contains p) = true := by kernel_rfl
theorem v_n192 : Valid K0 192 lenC := fun_valid (K := K0) (f := 192) (F := f_bits_Len64) Tryd.func74 c_n192 (vb_of k_n192 (List.forall_mem_nil _)) (len64_ok E0) (by rw [i_n192]; exact List.forall_mem_nil _) (by kernel_rfl) (by kernel_rfl)
theorem i_n170 : iters f_bits_Len.body = [] := by kernel_rfl
theorem c_n170 : chkFun K0 f_bits_Len Tryd.f60 = true := by kernel_rfl
theorem k_n170 : (callees f_bits_Len.body).all (fun p => ([(191, false), (192, false)] : List (Nat × Bool)).contains p) = true := by kernel_rfl
theorem v_n170 : Valid K0 170 lenC := fun_valid (K := K0) (f := 170) (F := f_bits_Len) Tryd.func60 c_n170 (vb_of k_n170 (List.forall_mem_cons.2 ⟨v_n191, List.forall_mem_cons.2 ⟨v_n192, List.forall_mem_nil _⟩⟩)) (len_ok E0 rfl) (by rw [i_n170]; exact List.forall_mem_nil _) (by kernel_rfl) (by kernel_rfl)
theorem i_n167 : iters f_merkle_split.body = [] := by kernel_rfl
theorem c_n167 : chkFun K0 f_merkle_split Tryd.f38 = true := by kernel_rfl
theorem k_n167 : (callees f_merkle_split.body).all (fun p => ([(170, false)] : List (Nat × Bool)).contains p) = true := by kernel_rfl
theorem v_n167 : Valid K0 167 splC := fun_valid (K := K0) (f := 167) (F := f_merkle_split) Tryd.func38 c_n167 (vb_of k_n167 (List.forall_mem_cons.2 ⟨v_n170, List.forall_mem_nil _⟩)) (split_ok E0 rfl) (by rw [i_n167]; exact List.forall_mem_nil _) (by kernel_rfl) (by kernel_rfl)
theorem i_n169 : iters f_merkle_node.body = [] := by kernel_rfl
theorem c_n169 : chkFun K0 f_merkle_node Tryd.f43 = true := by kernel_rfl
theorem k_n169 : (callees f_merkle_node.body).all (fun p => ([(164, false)] : List (Nat × Bool)).contains p) = true := by kernel_rfl
theorem v_n169 : Valid K0 169 nodeM := fun_valid (K := K0) (f := 169) (F := f_merkle_node) Tryd.func43 c_n169 (vb_of k_n169 (List.forall_mem_cons.2 ⟨v_n164, List.forall_mem_nil _⟩)) (node_ok E0 rfl) (by rw [i_n169]; exact List.forall_mem_nil _) (by kernel_rfl) (by kernel_rfl)
theorem i_n168 : iters f_merkle_Root.body = [] := by kernel_rfl
theorem c_n168 : ∀ c', chkFun (K0.wG 168 c') f_merkle_Root Tryd.f16 = true := fun c' => by kernel_rfl
theorem k_n168 : (callees f_merkle_Root.body).all (fun p => p == (168, false) || ([(164, false), (165, false), (166, false), (167, false), (169, false)] : List (Nat × Bool)).contains p) = true := by kernel_rfl
theorem v_n168 : Valid K0 168 rootC := fun_valid_rec (K := K0) (f := 168) (F := f_merkle_Root) rootMu Tryd.func16 c_n168 (vb_rec k_n168 (List.forall_mem_cons.2 ⟨v_n164, List.forall_mem_cons.2 ⟨v_n165, List.forall_mem_cons.2 ⟨v_n166, List.forall_mem_cons.2 ⟨v_n167, List.forall_mem_cons.2 ⟨v_n169, List.forall_mem_nil _⟩⟩⟩⟩⟩)) (fun n => root_ok _ n rfl rfl rfl rfl rfl rfl) (by rw [i_n168]; exact List.forall_mem_nil _) (by kernel_rfl) (by kernel_rfl)
theorem i_n159 : iters f_merkle_Prove_1.body = [] := by kernel_rfl
theorem c_n159 : chkFun K0 f_merkle_Prove_1 Tryd.f35 = true := by kernel_rfl
theorem k_n159 : (callees f_merkle_Prove_1.body).all (fun p => ([(168, false)] : List (Nat × Bool)).contains p) = true := by kernel_rfl
theorem v_n159 : ValidM K0 159 pr1M := fun_validM (K := K0) (f := 159) (F := f_merkle_Prove_1) Tryd.func35 c_n159 (vb_of k_n159 (List.forall_mem_cons.2 ⟨v_n168, List.forall_mem_nil _⟩)) (by decide) (pr1_ok E0 rfl) (by rw [i_n159]; exact List.forall_mem_nil _) (by kernel_rfl) (by kernel_rfl)
theorem i_n160 : iters f_merkle_descend_merkle_Prove_1.body = [] := by kernel_rfl
theorem c_n160 : chkFun K0 f_merkle_descend_merkle_Prove_1 Tryd.f34 = true := by kernel_rfl
theorem k_n160 : (callees f_merkle_descend_merkle_Prove_1.body).all (fun p => ([(167, false), (159, true)] : List (Nat × Bool)).contains p) = true := by kernel_rfl
theorem v_n160 : ValidW K0 160 dsc1 := fun_validW (K := K0) (f := 160) (F := f_merkle_descend_merkle_Prove_1) Tryd.func34 c_n160 (vb_of k_n160 (List.forall_mem_cons.2 ⟨v_n167, List.forall_mem_cons.2 ⟨v_n159, List.forall_mem_nil _⟩⟩)) (dsc1_ok E0 rfl rfl) (by rw [i_n160]; exact List.forall_mem_nil _) (by kernel_rfl) (by kernel_rfl)
theorem i_n161 : iters f_slices_Reverse.body = [] := by kernel_rfl
theorem c_n161 : chkFun K0 f_slices_Reverse Tryd.f36 = true := by kernel_rfl
theorem k_n161 : (callees f_slices_Reverse.body).all (fun p => ([] : List (Nat × Bool)).contains p) = true := by kernel_rfl
theorem v_n161 : ValidW K0 161 revW := fun_validW (K := K0) (f := 161) (F := f_slices_Reverse) Tryd.func36 c_n161 (vb_of k_n161 (List.forall_mem_nil _)) (rev_ok E0) (by rw [i_n161]; exact List.forall_mem_nil _) (by kernel_rfl) (by kernel_rfl)
theorem i_n162 : iters f_slices_Reverse_empty.body = [] := by kernel_rfl
theorem c_n162 : chkFun K0 f_slices_Reverse_empty Tryd.f36 = true := by kernel_rfl
theorem k_n162 : (callees f_slices_Reverse_empty.body).all (fun p => ([] : List (Nat × Bool)).contains p) = true := by kernel_rfl
theorem v_n162 : Valid K0 162 revE := fun_valid (K := K0) (f := 162) (F := f_slices_Reverse_empty) Tryd.func36 c_n162 (vb_of k_n162 (List.forall_mem_nil _)) (revE_ok E0) (by rw [i_n162]; exact List.forall_mem_nil _) (by kernel_rfl) (by kernel_rfl)
theorem i_n163 : iters f_merkle_Prove.body = [] := by kernel_rfl
theorem c_n163 : chkFun K0 f_merkle_Prove Tryd.f11 = true := by kernel_rfl
theorem k_n163 : (callees f_merkle_Prove.body).all (fun p => ([(500000160, true), (500000161, true), (162, false)] : List (Nat × Bool)).contains p) = true := by kernel_rfl
theorem v_n163 : Valid K0 163 prvC := fun_valid (K := K0) (f := 163) (F := f_merkle_Prove) Tryd.func11 c_n163 (vb_of k_n163 (List.forall_mem_cons.2 ⟨v_n160, List.forall_mem_cons.2 ⟨v_n161, List.forall_mem_cons.2 ⟨v_n162, List.forall_mem_nil _⟩⟩⟩)) (prv_ok E0 rfl rfl rfl) (by rw [i_n163]; exact List.forall_mem_nil _) (by kernel_rfl) (by kernel_rfl)
theorem i_n171 : iters f_merkle_ProvePrefix.body = [] := by kernel_rfl
theorem c_n171 : chkFun K0 f_merkle_ProvePrefix Tryd.f13 = true := by kernel_rfl
theorem k_n171 : (callees f_merkle_ProvePrefix.body).all (fun p => ([(167, false), (168, false), (500000161, true), (162, false)] : List (Nat × Bool)).contains p) = true := by kernel_rfl
theorem v_n171 : Valid K0 171 pvpC := fun_valid (K := K0) (f := 171) (F := f_merkle_ProvePrefix) Tryd.func13 c_n171 (vb_of k_n171 (List.forall_mem_cons.2 ⟨v_n167, List.forall_mem_cons.2 ⟨v_n168, List.forall_mem_cons.2 ⟨v_n161, List.forall_mem_cons.2 ⟨v_n162, List.forall_mem_nil _⟩⟩⟩⟩)) (pvp_ok E0 rfl rfl rfl rfl) (by rw [i_n171]; exact List.forall_mem_nil _) (by kernel_rfl) (by kernel_rfl)
theorem i_n186 : iters f_merkle_inputs_1.body = [] := by kernel_rfl
theorem c_n186 : chkFun K0 f_merkle_inputs_1 Tryd.f62 = true := by kernel_rfl
theorem k_n186 : (callees f_merkle_inputs_1.body).all (fun p => ([] : List (Nat × Bool)).contains p) = true := by kernel_rfl
theorem v_n186 : ValidM K0 186 in1M := fun_validM (K := K0) (f := 186) (F := f_merkle_inputs_1) Tryd.func62 c_n186 (vb_of k_n186 (List.forall_mem_nil _)) (by decide) (in1_ok E0) (by rw [i_n186]; exact List.forall_mem_nil _) (by kernel_rfl) (by kernel_rfl)
theorem i_n187 : iters f_merkle_descend_merkle_inputs_1.body = [] := by kernel_rfl
theorem c_n187 : chkFun K0 f_merkle_descend_merkle_inputs_1 Tryd.f34 = true := by kernel_rfl
theorem k_n187 : (callees f_merkle_descend_merkle_inputs_1.body).all (fun p => ([(167, false), (186, true)] : List (Nat × Bool)).contains p) = true := by kernel_rfl
theorem v_n187 : ValidW K0 187 dsc2 := fun_validW (K := K0) (f := 187) (F := f_merkle_descend_merkle_inputs_1) Tryd.func34 c_n187 (vb_of k_n187 (List.forall_mem_cons.2 ⟨v_n167, List.forall_mem_cons.2 ⟨v_n186, List.forall_mem_nil _⟩⟩)) (dsc2_ok E0 rfl rfl) (by rw [i_n187]; exact List.forall_mem_nil _) (by kernel_rfl) (by kernel_rfl)
theorem i_n174 : iters f_slices_Reverse_bool.body = [] := by kernel_rfl
theorem c_n174 : chkFun K0 f_slices_Reverse_bool Tryd.f49 = true := by kernel_rfl
theorem k_n174 : (callees f_slices_Reverse_bool.body).all (fun p => ([] : List (Nat × Bool)).contains p) = true := by kernel_rfl
theorem v_n174 : ValidW K0 174 revWb := fun_validW (K := K0) (f := 174) (F := f_slices_Reverse_bool) Tryd.func49 c_n174 (vb_of k_n174 (List.forall_mem_nil _)) (revb_ok E0) (by rw [i_n174]; exact List.forall_mem_nil _) (by kernel_rfl) (by kernel_rfl)
theorem i_n175 : iters f_slices_Reverse_empty_bool.body = [] := by kernel_rfl
theorem c_n175 : chkFun K0 f_slices_Reverse_empty_bool Tryd.f49 = true := by kernel_rfl
theorem k_n175 : (callees f_slices_Reverse_empty_bool.body).all (fun p => ([] : List (Nat × Bool)).contains p) = true := by kernel_rfl
theorem v_n175 : Valid K0 175 revE := fun_valid (K := K0) (f := 175) (F := f_slices_Reverse_empty_bool) Tryd.func49 c_n175 (vb_of k_n175 (List.forall_mem_nil _)) (revEb_ok E0) (by rw [i_n175]; exact List.forall_mem_nil _) (by kernel_rfl) (by kernel_rfl)
theorem i_n172 : iters f_merkle_inputs.body = [] := by kernel_rfl
theorem c_n172 : chkFun K0 f_merkle_inputs Tryd.f47 = true := by kernel_rfl
theorem k_n172 : (callees f_merkle_inputs.body).all (fun p => ([(500000187, true), (500000174, true), (175, false), (166, false), (165, false), (169, false)] : List (Nat × Bool)).contains p) = true := by kernel_rfl
theorem v_n172 : Valid K0 172 inpsC := fun_valid (K := K0) (f := 172) (F := f_merkle_inputs) Tryd.func47 c_n172 (vb_of k_n172 (List.forall_mem_cons.2 ⟨v_n187, List.forall_mem_cons.2 ⟨v_n174, List.forall_mem_cons.2 ⟨v_n175, List.forall_mem_cons.2 ⟨v_n166, List.forall_mem_cons.2 ⟨v_n165, List.forall_mem_cons.2 ⟨v_n169, List.forall_mem_nil _⟩⟩⟩⟩⟩⟩)) (inps_ok E0 rfl rfl rfl rfl rfl rfl) (by rw [i_n172]; exact List.forall_mem_nil _) (by kernel_rfl) (by kernel_rfl)
theorem i_n177 : iters f_slices_Equal_byte.body = [] := by kernel_rfl
theorem c_n177 : chkFun K0 f_slices_Equal_byte Tryd.f51 = true := by kernel_rfl
theorem k_n177 : (callees f_slices_Equal_byte.body).all (fun p => ([] : List (Nat × Bool)).contains p) = true := by kernel_rfl
theorem v_n177 : Valid K0 177 eqBsC := fun_valid (K := K0) (f := 177) (F := f_slices_Equal_byte) Tryd.func51 c_n177 (vb_of k_n177 (List.forall_mem_nil _)) (eqBs_ok E0) (by rw [i_n177]; exact List.forall_mem_nil _) (by kernel_rfl) (by kernel_rfl)
theorem i_n178 : iters f_merkle_Clash.body = [] := by kernel_rfl
theorem c_n178 : chkFun K0 f_merkle_Clash Tryd.f22 = true := by kernel_rfl
theorem k_n178 : (callees f_merkle_Clash.body).all (fun p => ([(172, false), (165, false), (177, false)] : List (Nat × Bool)).contains p) = true := by kernel_rfl
theorem v_n178 : Valid K0 178 clC := fun_valid (K := K0) (f := 178) (F := f_merkle_Clash) Tryd.func22 c_n178 (vb_of k_n178 (List.forall_mem_cons.2 ⟨v_n172, List.forall_mem_cons.2 ⟨v_n165, List.forall_mem_cons.2 ⟨v_n177, List.forall_mem_nil _⟩⟩⟩)) (cl_ok E0 rfl rfl rfl) (by rw [i_n178]; exact List.forall_mem_nil _) (by kernel_rfl) (by kernel_rfl)
theorem i_n193 : iters f_bits_OnesCount32.body = [] := by kernel_rfl
theorem c_n193 : chkFun K0 f_bits_OnesCount32 Tryd.f81 = true := by kernel_rfl
theorem k_n193 : (callees f_bits_OnesCount32.body).all (fun p => ([] : List (Nat × Bool)).contains p) = true := by kernel_rfl
theorem v_n193 : Valid K0 193 noC := fun_valid (K := K0) (f := 193) (F := f_bits_OnesCount32) Tryd.func81 c_n193 (vb_of k_n193 (List.forall_mem_nil _)) (ones32_ok E0) (by rw [i_n193]; exact List.forall_mem_nil _) (by kernel_rfl) (by kernel_rfl)
theorem i_n194 : iters f_bits_OnesCount64.body = [] := by kernel_rfl
theorem c_n194 : chkFun K0 f_bits_OnesCount64 Tryd.f82 = true := by kernel_rfl
theorem k_n194 : (callees f_bits_OnesCount64.body).all (fun p => ([] : List (Nat × Bool)).contains p) = true := by kernel_rfl
theorem v_n194 : Valid K0 194 onesC := fun_valid (K := K0) (f := 194) (F := f_bits_OnesCount64) Tryd.func82 c_n194 (vb_of k_n194 (List.forall_mem_nil _)) (ones64_ok E0) (by rw [i_n194]; exact List.forall_mem_nil _) (by kernel_rfl) (by kernel_rfl)
theorem i_n188 : iters f_bits_OnesCount.body = [] := by kernel_rfl
theorem c_n188 : chkFun K0 f_bits_OnesCount Tryd.f68 = true := by kernel_rfl
theorem k_n188 : (callees f_bits_OnesCount.body).all (fun p => ([(193, false), (194, false)] : List (Nat × Bool)).contains p) = true := by kernel_rfl
theorem v_n188 : Valid K0 188 onesC := fun_valid (K := K0) (f := 188) (F := f_bits_OnesCount) Tryd.func68 c_n188 (vb_of k_n188 (List.forall_mem_cons.2 ⟨v_n193, List.forall_mem_cons.2 ⟨v_n194, List.forall_mem_nil _⟩⟩)) (ones_ok E0 rfl) (by rw [i_n188]; exact List.forall_mem_nil _) (by kernel_rfl) (by kernel_rfl)
theorem i_n179 : iters f_merkle_valid.body = [] := by kernel_rfl
theorem c_n179 : chkFun K0 f_merkle_valid Tryd.f55 = true := by kernel_rfl
theorem k_n179 : (callees f_merkle_valid.body).all (fun p => ([(188, false)] : List (Nat × Bool)).contains p) = true := by kernel_rfl
theorem v_n179 : Valid K0 179 valC := fun_valid (K := K0) (f := 179) (F := f_merkle_valid) Tryd.func55 c_n179 (vb_of k_n179 (List.forall_mem_cons.2 ⟨v_n188, List.forall_mem_nil _⟩)) (val_ok E0 rfl) (by rw [i_n179]; exact List.forall_mem_nil _) (by kernel_rfl) (by kernel_rfl)
theorem i_n180 : iters f_slices_CloneN.body = [] := by kernel_rfl
theorem c_n180 : chkFun K0 f_slices_CloneN Tryd.f56 = true := by kernel_rfl
theorem k_n180 : (callees f_slices_CloneN.body).all (fun p => ([] : List (Nat × Bool)).contains p) = true := by kernel_rfl
theorem v_n180 : Valid K0 180 cloC := valid_nil 0 (fun_valid (K := K0) (f := 180) (F := f_slices_CloneN) (c := cloN) Tryd.func56 c_n180 (vb_of k_n180 (List.forall_mem_nil _)) (cloN_ok E0) (by rw [i_n180]; exact List.forall_mem_nil _) (by kernel_rfl) (by kernel_rfl)) cloN_nil
theorem i_n189 : iters f_bits_TrailingZeros32.body = [] := by kernel_rfl
theorem c_n189 : chkFun K0 f_bits_TrailingZeros32 Tryd.f69 = true := by kernel_rfl
theorem k_n189 : (callees f_bits_TrailingZeros32.body).all (fun p => ([] : List (Nat × Bool)).contains p) = true := by kernel_rfl
theorem v_n189 : Valid K0 189 noC := fun_valid (K := K0) (f := 189) (F := f_bits_TrailingZeros32) Tryd.func69 c_n189 (vb_of k_n189 (List.forall_mem_nil _)) (tz32_ok E0) (by rw [i_n189]; exact List.forall_mem_nil _) (by kernel_rfl) (by kernel_rfl)
theorem i_n190 : iters f_bits_TrailingZeros64.body = [] := by kernel_rfl
theorem c_n190 : chkFun K0 f_bits_TrailingZeros64 Tryd.f70 = true := by kernel_rfl
theorem k_n190 : (callees f_bits_TrailingZeros64.body).all (fun p => ([] : List (Nat × Bool)).contains p) = true := by kernel_rfl
theorem v_n190 : Valid K0 190 tzC := fun_valid (K := K0) (f := 190) (F := f_bits_TrailingZeros64) Tryd.func70 c_n190 (vb_of k_n190 (List.forall_mem_nil _)) (tz64_ok E0 rfl) (by rw [i_n190]; exact List.forall_mem_nil _) (by kernel_rfl) (by kernel_rfl)
theorem i_n181 : iters f_bits_TrailingZeros.body = [] := by kernel_rfl
theorem c_n181 : chkFun K0 f_bits_TrailingZeros Tryd.f57 = true := by kernel_rfl
theorem k_n181 : (callees f_bits_TrailingZeros.body).all (fun p => ([(189, false), (190, false)] : List (Nat × Bool)).contains p) = true := by kernel_rfl
theorem v_n181 : Valid K0 181 tzC := fun_valid (K := K0) (f := 181) (F := f_bits_TrailingZeros) Tryd.func57 c_n181 (vb_of k_n181 (List.forall_mem_cons.2 ⟨v_n189, List.forall_mem_cons.2 ⟨v_n190, List.forall_mem_nil _⟩⟩)) (tz_ok E0 rfl) (by rw [i_n181]; exact List.forall_mem_nil _) (by kernel_rfl) (by kernel_rfl)
theorem i_n182 : iters f_merkle_Add.body = [] := by kernel_rfl
theorem c_n182 : chkFun K0 f_merkle_Add Tryd.f28 = true := by kernel_rfl
theorem k_n182 : (callees f_merkle_Add.body).all (fun p => ([(179, false), (180, false), (166, false), (165, false), (181, false), (169, false)] : List (Nat × Bool)).contains p) = true := by kernel_rfl
theorem v_n182 : Valid K0 182 padC := fun_valid (K := K0) (f := 182) (F := f_merkle_Add) Tryd.func28 c_n182 (vb_of k_n182 (List.forall_mem_cons.2 ⟨v_n179, List.forall_mem_cons.2 ⟨v_n180, List.forall_mem_cons.2 ⟨v_n166, List.forall_mem_cons.2 ⟨v_n165, List.forall_mem_cons.2 ⟨v_n181, List.forall_mem_cons.2 ⟨v_n169, List.forall_mem_nil _⟩⟩⟩⟩⟩⟩)) (pad_ok E0 rfl rfl rfl rfl rfl rfl) (by rw [i_n182]; exact List.forall_mem_nil _) (by kernel_rfl) (by kernel_rfl)
theorem c_n184 : chkIt K0 f_slices_Backward_1 Tryd.f71 = true := by kernel_rfl
theorem k_n184 : calleesI f_slices_Backward_1.body = [] := by kernel_rfl
theorem v_n184 : ValidIt K0 184 bwdI := it_valid (K := K0) (f := 184) (F := f_slices_Backward_1) Tryd.func71 c_n184 (by rw [k_n184]; exact List.forall_mem_nil _) (bwdI_ok E0)
theorem i_n183 : iters f_slices_Backward.body = [] := by kernel_rfl
theorem c_n183 : chkFun K0 f_slices_Backward Tryd.f58 = true := by kernel_rfl
theorem k_n183 : (callees f_slices_Backward.body).all (fun p => ([] : List (Nat × Bool)).contains p) = true := by kernel_rfl
theorem v_n183 : ValidM K0 183 bwdM := fun_validM (K := K0) (f := 183) (F := f_slices_Backward) Tryd.func58 c_n183 (vb_of k_n183 (List.forall_mem_nil _)) (by decide) (bwd_ok E0) (by rw [i_n183]; exact List.forall_mem_nil _) (by kernel_rfl) (by kernel_rfl)
theorem i_n185 : iters f_merkle_Top.body = [184] := by kernel_rfl
theorem c_n185 : chkFun K0 f_merkle_Top Tryd.f29 = true := by kernel_rfl
theorem k_n185 : (callees f_merkle_Top.body).all (fun p => ([(179, false), (168, false), (183, true), (169, false), (165, false)] : List (Nat × Bool)).contains p) = true := by kernel_rfl
theorem v_n185 : Valid K0 185 topC := fun_valid (K := K0) (f := 185) (F := f_merkle_Top) Tryd.func29 c_n185 (vb_of k_n185 (List.forall_mem_cons.2 ⟨v_n179, List.forall_mem_cons.2 ⟨v_n168, List.forall_mem_cons.2 ⟨v_n183, List.forall_mem_cons.2 ⟨v_n169, List.forall_mem_cons.2 ⟨v_n165, List.forall_mem_nil _⟩⟩⟩⟩⟩)) (top_ok E0 rfl rfl rfl rfl rfl rfl) (by rw [i_n185]; exact List.forall_mem_cons.2 ⟨v_n184, List.forall_mem_nil _⟩) (by kernel_rfl) (by kernel_rfl)
theorem i_n173 : iters f_merkle_Verify.body = [] := by kernel_rfl
theorem c_n173 : chkFun K0 f_merkle_Verify Tryd.f18 = true := by kernel_rfl
theorem k_n173 : (callees f_merkle_Verify.body).all (fun p => ([(172, false), (165, false)] : List (Nat × Bool)).contains p) = true := by kernel_rfl
theorem v_n173 : Valid K0 173 vfyC := fun_valid (K := K0) (f := 173) (F := f_merkle_Verify) Tryd.func18 c_n173 (vb_of k_n173 (List.forall_mem_cons.2 ⟨v_n172, List.forall_mem_cons.2 ⟨v_n165, List.forall_mem_nil _⟩⟩)) (vfy_ok E0 rfl rfl) (by rw [i_n173]; exact List.forall_mem_nil _) (by kernel_rfl) (by kernel_rfl)
theorem i_n176 : iters f_merkle_VerifyPrefix.body = [] := by kernel_rfl
theorem c_n176 : chkFun K0 f_merkle_VerifyPrefix Tryd.f20 = true := by kernel_rfl
theorem k_n176 : (callees f_merkle_VerifyPrefix.body).all (fun p => ([(167, false), (500000174, true), (175, false), (169, false), (165, false)] : List (Nat × Bool)).contains p) = true := by kernel_rfl
theorem v_n176 : Valid K0 176 vprC := fun_valid (K := K0) (f := 176) (F := f_merkle_VerifyPrefix) Tryd.func20 c_n176 (vb_of k_n176 (List.forall_mem_cons.2 ⟨v_n167, List.forall_mem_cons.2 ⟨v_n174, List.forall_mem_cons.2 ⟨v_n175, List.forall_mem_cons.2 ⟨v_n169, List.forall_mem_cons.2 ⟨v_n165, List.forall_mem_nil _⟩⟩⟩⟩⟩)) (vpr_ok E0 rfl rfl rfl rfl rfl) (by rw [i_n176]; exact List.forall_mem_nil _) (by kernel_rfl) (by kernel_rfl)
theorem i_n215 : iters f_custodylaw08_sanity.body = [] := by kernel_rfl
theorem c_n215 : chkFun K0 f_custodylaw08_sanity Tryd.f10 = true := by kernel_rfl
theorem k_n215 : (callees f_custodylaw08_sanity.body).all (fun p => ([(168, false), (163, false), (171, false), (178, false), (182, false), (185, false), (173, false), (176, false)] : List (Nat × Bool)).contains p) = true := by kernel_rfl
theorem v_n215 : Valid K0 215 sanC := fun_valid (K := K0) (f := 215) (F := f_custodylaw08_sanity) Tryd.func10 c_n215 (vb_of k_n215 (List.forall_mem_cons.2 ⟨v_n168, List.forall_mem_cons.2 ⟨v_n163, List.forall_mem_cons.2 ⟨v_n171, List.forall_mem_cons.2 ⟨v_n178, List.forall_mem_cons.2 ⟨v_n182, List.forall_mem_cons.2 ⟨v_n185, List.forall_mem_cons.2 ⟨v_n173, List.forall_mem_cons.2 ⟨v_n176, List.forall_mem_nil _⟩⟩⟩⟩⟩⟩⟩⟩)) (san8_ok E0 rfl rfl rfl rfl rfl rfl rfl rfl) (by rw [i_n215]; exact List.forall_mem_nil _) (by kernel_rfl) (by kernel_rfl)
theorem i_n23 : iters f_custodyref02_Text.body = [] := by kernel_rfl
theorem c_n23 : chkFun K0 f_custodyref02_Text Tryd.f54 = true := by kernel_rfl
theorem k_n23 : (callees f_custodyref02_Text.body).all (fun p => ([] : List (Nat × Bool)).contains p) = true := by kernel_rfl
theorem v_n23 : Valid K0 23 text16C := fun_valid (K := K0) (f := 23) (F := f_custodyref02_Text) Tryd.func54 c_n23 (vb_of k_n23 (List.forall_mem_nil _)) (text16_ok E0) (by rw [i_n23]; exact List.forall_mem_nil _) (by kernel_rfl) (by kernel_rfl)
theorem i_n30 : iters f_custodyref01_Int.body = [] := by kernel_rfl
theorem c_n30 : chkFun K0 f_custodyref01_Int Tryd.f80 = true := by kernel_rfl
theorem k_n30 : (callees f_custodyref01_Int.body).all (fun p => ([] : List (Nat × Bool)).contains p) = true := by kernel_rfl
theorem v_n30 : Valid K0 30 rintC := fun_valid (K := K0) (f := 30) (F := f_custodyref01_Int) Tryd.func80 c_n30 (vb_of k_n30 (List.forall_mem_nil _)) (rint_ok E0) (by rw [i_n30]; exact List.forall_mem_nil _) (by kernel_rfl) (by kernel_rfl)
theorem i_n29 : iters f_custodyref01_Bytes.body = [] := by kernel_rfl
theorem c_n29 : chkFun K0 f_custodyref01_Bytes Tryd.f67 = true := by kernel_rfl
theorem k_n29 : (callees f_custodyref01_Bytes.body).all (fun p => ([(30, false)] : List (Nat × Bool)).contains p) = true := by kernel_rfl
theorem v_n29 : Valid K0 29 rbytesC := fun_valid (K := K0) (f := 29) (F := f_custodyref01_Bytes) Tryd.func67 c_n29 (vb_of k_n29 (List.forall_mem_cons.2 ⟨v_n30, List.forall_mem_nil _⟩)) (rbytes_ok E0 rfl) (by rw [i_n29]; exact List.forall_mem_nil _) (by kernel_rfl) (by kernel_rfl)
theorem i_n21 : iters f_custodyref02_Input.body = [] := by kernel_rfl
theorem c_n21 : chkFun K0 f_custodyref02_Input Tryd.f53 = true := by kernel_rfl
theorem k_n21 : (callees f_custodyref02_Input.body).all (fun p => ([(29, false)] : List (Nat × Bool)).contains p) = true := by kernel_rfl
theorem v_n21 : Valid K0 21 inputC := fun_valid (K := K0) (f := 21) (F := f_custodyref02_Input) Tryd.func53 c_n21 (vb_of k_n21 (List.forall_mem_cons.2 ⟨v_n29, List.forall_mem_nil _⟩)) (input_ok E0 rfl) (by rw [i_n21]; exact List.forall_mem_nil _) (by kernel_rfl) (by kernel_rfl)
theorem i_n195 : iters f_custodyref08_Split.body = [] := by kernel_rfl
theorem c_n195 : chkFun K0 f_custodyref08_Split Tryd.f37 = true := by kernel_rfl
theorem k_n195 : (callees f_custodyref08_Split.body).all (fun p => ([] : List (Nat × Bool)).contains p) = true := by kernel_rfl
theorem v_n195 : Valid K0 195 splC := fun_valid (K := K0) (f := 195) (F := f_custodyref08_Split) Tryd.func37 c_n195 (vb_of k_n195 (List.forall_mem_nil _)) (rspl_ok E0) (by rw [i_n195]; exact List.forall_mem_nil _) (by kernel_rfl) (by kernel_rfl)
theorem i_n24 : iters f_custodyref02_padded.body = [] := by kernel_rfl
theorem c_n24 : chkFun K0 f_custodyref02_padded Tryd.f76 = true := by kernel_rfl
theorem k_n24 : (callees f_custodyref02_padded.body).all (fun p => ([] : List (Nat × Bool)).contains p) = true := by kernel_rfl
theorem v_n24 : Valid K0 24 paddedC := fun_valid (K := K0) (f := 24) (F := f_custodyref02_padded) Tryd.func76 c_n24 (vb_of k_n24 (List.forall_mem_nil _)) (padded_ok E0) (by rw [i_n24]; exact List.forall_mem_nil _) (by kernel_rfl) (by kernel_rfl)
theorem i_n26 : iters f_custodyref02_rotr.body = [] := by kernel_rfl
theorem c_n26 : chkFun K0 f_custodyref02_rotr Tryd.f78 = true := by kernel_rfl
theorem k_n26 : (callees f_custodyref02_rotr.body).all (fun p => ([] : List (Nat × Bool)).contains p) = true := by kernel_rfl
theorem v_n26 : Valid K0 26 rotrC := fun_valid (K := K0) (f := 26) (F := f_custodyref02_rotr) Tryd.func78 c_n26 (vb_of k_n26 (List.forall_mem_nil _)) (rotr_ok E0) (by rw [i_n26]; exact List.forall_mem_nil _) (by kernel_rfl) (by kernel_rfl)
theorem i_n25 : iters f_custodyref02_words.body = [] := by kernel_rfl
theorem c_n25 : chkFun K0 f_custodyref02_words Tryd.f77 = true := by kernel_rfl
theorem k_n25 : (callees f_custodyref02_words.body).all (fun p => ([(26, false)] : List (Nat × Bool)).contains p) = true := by kernel_rfl
theorem v_n25 : Valid K0 25 schedC := fun_valid (K := K0) (f := 25) (F := f_custodyref02_words) Tryd.func77 c_n25 (vb_of k_n25 (List.forall_mem_cons.2 ⟨v_n26, List.forall_mem_nil _⟩)) (words_ok E0 rfl) (by rw [i_n25]; exact List.forall_mem_nil _) (by kernel_rfl) (by kernel_rfl)
theorem i_n15 : iters f_custodyref02_Sum.body = [] := by kernel_rfl
theorem c_n15 : chkFun K0 f_custodyref02_Sum Tryd.f63 = true := by kernel_rfl
theorem k_n15 : (callees f_custodyref02_Sum.body).all (fun p => ([(24, false), (25, false), (26, false)] : List (Nat × Bool)).contains p) = true := by kernel_rfl
theorem v_n15 : Valid K0 15 rsumC := fun_valid (K := K0) (f := 15) (F := f_custodyref02_Sum) Tryd.func63 c_n15 (vb_of k_n15 (List.forall_mem_cons.2 ⟨v_n24, List.forall_mem_cons.2 ⟨v_n25, List.forall_mem_cons.2 ⟨v_n26, List.forall_mem_nil _⟩⟩⟩)) (rsum_ok E0 rfl rfl rfl rfl) (by rw [i_n15]; exact List.forall_mem_nil _) (by kernel_rfl) (by kernel_rfl)
theorem i_n28 : iters f_custodyref02_Short.body = [] := by kernel_rfl
theorem c_n28 : chkFun K0 f_custodyref02_Short Tryd.f48 = true := by kernel_rfl
theorem k_n28 : (callees f_custodyref02_Short.body).all (fun p => ([(15, false)] : List (Nat × Bool)).contains p) = true := by kernel_rfl
theorem v_n28 : Valid K0 28 shortC := fun_valid (K := K0) (f := 28) (F := f_custodyref02_Short) Tryd.func48 c_n28 (vb_of k_n28 (List.forall_mem_cons.2 ⟨v_n15, List.forall_mem_nil _⟩)) (short_ok E0 rfl) (by rw [i_n28]; exact List.forall_mem_nil _) (by kernel_rfl) (by kernel_rfl)
theorem i_n203 : iters f_custodyref08_Inputs.body = [] := by kernel_rfl
theorem c_n203 : ∀ c', chkFun (K0.wG 203 c') f_custodyref08_Inputs Tryd.f25 = true := fun c' => by kernel_rfl
theorem k_n203 : (callees f_custodyref08_Inputs.body).all (fun p => p == (203, false) || ([(23, false), (21, false), (195, false), (28, false)] : List (Nat × Bool)).contains p) = true := by kernel_rfl
theorem v_n203 : Valid K0 203 rinC := fun_valid_rec (K := K0) (f := 203) (F := f_custodyref08_Inputs) rinMu Tryd.func25 c_n203 (vb_rec k_n203 (List.forall_mem_cons.2 ⟨v_n23, List.forall_mem_cons.2 ⟨v_n21, List.forall_mem_cons.2 ⟨v_n195, List.forall_mem_cons.2 ⟨v_n28, List.forall_mem_nil _⟩⟩⟩⟩)) (fun n => rinp_ok _ n rfl rfl rfl rfl rfl) (by rw [i_n203]; exact List.forall_mem_nil _) (by kernel_rfl) (by kernel_rfl)
theorem i_n208 : iters f_custodyref08_PrefixInputs.body = [] := by kernel_rfl
theorem c_n208 : ∀ c', chkFun (K0.wG 208 c') f_custodyref08_PrefixInputs Tryd.f26 = true := fun c' => by kernel_rfl
theorem k_n208 : (callees f_custodyref08_PrefixInputs.body).all (fun p => p == (208, false) || ([(195, false), (23, false), (21, false), (28, false)] : List (Nat × Bool)).contains p) = true := by kernel_rfl
theorem v_n208 : Valid K0 208 pinC := fun_valid_rec (K := K0) (f := 208) (F := f_custodyref08_PrefixInputs) pairMu Tryd.func26 c_n208 (vb_rec k_n208 (List.forall_mem_cons.2 ⟨v_n195, List.forall_mem_cons.2 ⟨v_n23, List.forall_mem_cons.2 ⟨v_n21, List.forall_mem_cons.2 ⟨v_n28, List.forall_mem_nil _⟩⟩⟩⟩)) (fun n => rpin_ok _ n rfl rfl rfl rfl rfl) (by rw [i_n208]; exact List.forall_mem_nil _) (by kernel_rfl) (by kernel_rfl)
theorem i_n219 : iters f_custodylaw08_short.body = [] := by kernel_rfl
theorem c_n219 : chkFun K0 f_custodylaw08_short Tryd.f24 = true := by kernel_rfl
theorem k_n219 : (callees f_custodylaw08_short.body).all (fun p => ([(3, false)] : List (Nat × Bool)).contains p) = true := by kernel_rfl
theorem v_n219 : Valid K0 219 sh8C := fun_valid (K := K0) (f := 219) (F := f_custodylaw08_short) Tryd.func24 c_n219 (vb_of k_n219 (List.forall_mem_cons.2 ⟨v_n3, List.forall_mem_nil _⟩)) (sh8_ok E0 rfl) (by rw [i_n219]; exact List.forall_mem_nil _) (by kernel_rfl) (by kernel_rfl)
theorem i_n221 : iters f_custodylaw08_collides.body = [] := by kernel_rfl
theorem c_n221 : chkFun K0 f_custodylaw08_collides Tryd.f27 = true := by kernel_rfl
theorem k_n221 : (callees f_custodylaw08_collides.body).all (fun p => ([(219, false)] : List (Nat × Bool)).contains p) = true := by kernel_rfl
theorem v_n221 : Valid K0 221 colC := fun_valid (K := K0) (f := 221) (F := f_custodylaw08_collides) Tryd.func27 c_n221 (vb_of k_n221 (List.forall_mem_cons.2 ⟨v_n219, List.forall_mem_nil _⟩)) (col_ok E0 rfl) (by rw [i_n221]; exact List.forall_mem_nil _) (by kernel_rfl) (by kernel_rfl)
theorem i_n222 : iters f_custodylaw08_MerkleHistoryIsFixed.body = [] := by kernel_rfl
theorem c_n222 : chkFun K0 f_custodylaw08_MerkleHistoryIsFixed Tryd.f7 = true := by kernel_rfl
theorem k_n222 : (callees f_custodylaw08_MerkleHistoryIsFixed.body).all (fun p => ([(215, false), (173, false), (176, false), (203, false), (208, false), (221, false)] : List (Nat × Bool)).contains p) = true := by kernel_rfl
theorem v_n222 : Valid K0 222 lawKH := fun_valid (K := K0) (f := 222) (F := f_custodylaw08_MerkleHistoryIsFixed) Tryd.func7 c_n222 (vb_of k_n222 (List.forall_mem_cons.2 ⟨v_n215, List.forall_mem_cons.2 ⟨v_n173, List.forall_mem_cons.2 ⟨v_n176, List.forall_mem_cons.2 ⟨v_n203, List.forall_mem_cons.2 ⟨v_n208, List.forall_mem_cons.2 ⟨v_n221, List.forall_mem_nil _⟩⟩⟩⟩⟩⟩)) (law_KH_ok E0 rfl rfl rfl rfl rfl rfl) (by rw [i_n222]; exact List.forall_mem_nil _) (by kernel_rfl) (by kernel_rfl)
end Go.Abs.V0
