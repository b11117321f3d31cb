/- The translated functions are those that the lemmas speak of; so each meets its contract. -/
import Derived.Test.YtdmindmelaemjaaRows
import Derived.Test.YtdmindmelaemjaaA
import Derived.Test.YtdmindmelaemjaaB
import Derived.Test.YtdmindmelaemjaaC
import Derived.Test.YtdmindmelaemjaaD
import Derived.Test.YtdmindmelaemjaaE
import Derived.Test.YtdmindmelaemjaaF
import Derived.Test.YtdmindmelaemjaaG
import Derived.Test.YtdmindmelaemjaaH
import Derived.Test.YtdmindmelaemjaaI
import Derived.KernelRfl
set_option linter.unusedSimpArgs false
set_option linter.unusedVariables false
set_option linter.unusedSectionVars false
namespace Go.Abs.V0
open Go.Proofs
set_option maxRecDepth 100000
def nu : Nat → FuncId
  | 7 => 16
  | 12 => 14
  | 29 => 17
  | 30 => 15
  | 38 => 13
  | 39 => 18
  | 40 => 19
  | 41 => 20
  | 42 => 21
  | 43 => 22
  | 44 => 23
  | 45 => 24
  | 46 => 25
  | 47 => 38
  | 48 => 26
  | 49 => 39
  | 50 => 27
  | 51 => 40
  | 52 => 28
  | 53 => 29
  | 54 => 30
  | 55 => 31
  | 56 => 32
  | 57 => 33
  | 58 => 34
  | 59 => 35
  | 60 => 36
  | 61 => 41
  | 62 => 11
  | 63 => 12
  | 64 => 3
  | 65 => 4
  | 66 => 5
  | 67 => 6
  | 68 => 37
  | 69 => 7
  | 70 => 8
  | 71 => 9
  | 72 => 10
  | _ => 0
def gnum : Nat → Nat
  | _ => 0
def gG : Nat → Contract
  | 7 => bytesC
  | 12 => intC
  | 29 => rbytesC
  | 30 => rintC
  | 38 => sameC
  | 39 => wIntsC
  | 40 => rIntsC
  | 41 => wStrsC
  | 42 => rStrsC
  | 43 => wDigsC
  | 44 => rDigsC
  | 45 => getIntC
  | 46 => getIntC
  | 47 => cntC
  | 48 => getBytesC
  | 49 => rcntC
  | 50 => getBytesC
  | 52 => getIntsC
  | 53 => getIntsC
  | 54 => sameIC
  | 55 => getStrsC
  | 56 => getStrsC
  | 57 => sameSC
  | 58 => getDigsC
  | 59 => getDigsC
  | 60 => sameDC
  | 62 => fewsC
  | 63 => sanC
  | 64 => lawE5
  | 65 => lawB
  | 66 => lawII
  | 67 => lawIT
  | 68 => isC
  | 69 => lawB
  | 70 => lawL5
  | 71 => lawE5
  | 72 => lawSL
  | _ => ⟨fun _ => False, fun _ => .undef⟩
def gM : Nat → CM
  | 51 => readC
  | 61 => nextC
  | _ => ⟨[], [], fun _ => False, fun _ => .undef, fun _ _ => []⟩
def gT : Nat → List AVal
  | _ => []
def E0 : Env := { G := gG, T := gT, M := gM }
noncomputable def K0 : Cx := { P := Try.prog, nu := nu, globs := [], N := { gnum := gnum, gs := [] }, E := E0 }
theorem c_n45 : chkFun K0 f_wire_GetInt Try.f24 = true := by kernel_rfl
theorem k_n45 : callees f_wire_GetInt.body = [] := by kernel_rfl
theorem v_n45 : Valid K0 45 getIntC := fun_valid (K := K0) (f := 45) (F := f_wire_GetInt) Try.func24 c_n45 (by rw [k_n45]; exact List.forall_mem_nil _) (getint_ok E0)
theorem c_n47 : chkFun K0 f_wire_count Try.f38 = true := by kernel_rfl
theorem k_n47 : callees f_wire_count.body = [(45, false)] := by kernel_rfl
theorem v_n47 : Valid K0 47 cntC := fun_valid (K := K0) (f := 47) (F := f_wire_count) Try.func38 c_n47 (by rw [k_n47]; exact List.forall_mem_cons.2 ⟨v_n45, List.forall_mem_nil _⟩) (cnt_ok E0 rfl)
theorem c_n48 : chkFun K0 f_wire_GetBytes Try.f26 = true := by kernel_rfl
theorem k_n48 : callees f_wire_GetBytes.body = [(47, false)] := by kernel_rfl
theorem v_n48 : Valid K0 48 getBytesC := fun_valid (K := K0) (f := 48) (F := f_wire_GetBytes) Try.func26 c_n48 (by rw [k_n48]; exact List.forall_mem_cons.2 ⟨v_n47, List.forall_mem_nil _⟩) (getbytes_ok E0 rfl)
theorem c_n51 : chkFun K0 f_wire_reader Try.f40 = true := by kernel_rfl
theorem k_n51 : callees f_wire_reader.body = [] := by kernel_rfl
theorem v_n51 : ValidM K0 51 readC := fun_validM (K := K0) (f := 51) (F := f_wire_reader) Try.func40 c_n51 (by rw [k_n51]; exact List.forall_mem_nil _) (by decide) (read_ok E0)
theorem c_n61 : chkFun K0 f_wire_reader_1 Try.f41 = true := by kernel_rfl
theorem k_n61 : callees f_wire_reader_1.body = [(45, false)] := by kernel_rfl
theorem v_n61 : ValidM K0 61 nextC := fun_validM (K := K0) (f := 61) (F := f_wire_reader_1) Try.func41 c_n61 (by rw [k_n61]; exact List.forall_mem_cons.2 ⟨v_n45, List.forall_mem_nil _⟩) (by decide) (next_ok E0 rfl)
theorem c_n52 : chkFun K0 f_wire_GetInts Try.f28 = true := by kernel_rfl
theorem k_n52 : callees f_wire_GetInts.body = [(47, false), (51, true), (61, true)] := by kernel_rfl
theorem v_n52 : Valid K0 52 getIntsC := fun_valid (K := K0) (f := 52) (F := f_wire_GetInts) Try.func28 c_n52 (by rw [k_n52]; exact List.forall_mem_cons.2 ⟨v_n47, List.forall_mem_cons.2 ⟨v_n51, List.forall_mem_cons.2 ⟨v_n61, List.forall_mem_nil _⟩⟩⟩) (getints_ok E0 rfl rfl rfl)
theorem c_n12 : chkFun K0 f_wire_Int Try.f14 = true := by kernel_rfl
theorem k_n12 : callees f_wire_Int.body = [] := by kernel_rfl
theorem v_n12 : Valid K0 12 intC := fun_valid (K := K0) (f := 12) (F := f_wire_Int) Try.func14 c_n12 (by rw [k_n12]; exact List.forall_mem_nil _) (int_ok E0)
theorem c_n43 : chkFun K0 f_wire_Digests Try.f22 = true := by kernel_rfl
theorem k_n43 : callees f_wire_Digests.body = [(12, false)] := by kernel_rfl
theorem v_n43 : Valid K0 43 wDigsC := fun_valid (K := K0) (f := 43) (F := f_wire_Digests) Try.func22 c_n43 (by rw [k_n43]; exact List.forall_mem_cons.2 ⟨v_n12, List.forall_mem_nil _⟩) (digs_ok E0 rfl)
theorem c_n58 : chkFun K0 f_wire_GetDigests Try.f34 = true := by kernel_rfl
theorem k_n58 : callees f_wire_GetDigests.body = [(47, false)] := by kernel_rfl
theorem v_n58 : Valid K0 58 getDigsC := fun_valid (K := K0) (f := 58) (F := f_wire_GetDigests) Try.func34 c_n58 (by rw [k_n58]; exact List.forall_mem_cons.2 ⟨v_n47, List.forall_mem_nil _⟩) (getdigs_ok E0 rfl)
theorem c_n55 : chkFun K0 f_wire_GetStrings Try.f31 = true := by kernel_rfl
theorem k_n55 : callees f_wire_GetStrings.body = [(47, false), (48, false)] := by kernel_rfl
theorem v_n55 : Valid K0 55 getStrsC := fun_valid (K := K0) (f := 55) (F := f_wire_GetStrings) Try.func31 c_n55 (by rw [k_n55]; exact List.forall_mem_cons.2 ⟨v_n47, List.forall_mem_cons.2 ⟨v_n48, List.forall_mem_nil _⟩⟩) (getstrs_ok E0 rfl rfl)
theorem c_n57 : chkFun K0 f_custodyref01_SameTexts Try.f33 = true := by kernel_rfl
theorem k_n57 : callees f_custodyref01_SameTexts.body = [] := by kernel_rfl
theorem v_n57 : Valid K0 57 sameSC := fun_valid (K := K0) (f := 57) (F := f_custodyref01_SameTexts) Try.func33 c_n57 (by rw [k_n57]; exact List.forall_mem_nil _) (rsames_ok E0)
theorem c_n7 : chkFun K0 f_wire_Bytes Try.f16 = true := by kernel_rfl
theorem k_n7 : callees f_wire_Bytes.body = [(12, false)] := by kernel_rfl
theorem v_n7 : Valid K0 7 bytesC := fun_valid (K := K0) (f := 7) (F := f_wire_Bytes) Try.func16 c_n7 (by rw [k_n7]; exact List.forall_mem_cons.2 ⟨v_n12, List.forall_mem_nil _⟩) (bytes_ok E0 rfl)
theorem c_n41 : chkFun K0 f_wire_Strings Try.f20 = true := by kernel_rfl
theorem k_n41 : callees f_wire_Strings.body = [(12, false), (7, false)] := by kernel_rfl
theorem v_n41 : Valid K0 41 wStrsC := fun_valid (K := K0) (f := 41) (F := f_wire_Strings) Try.func20 c_n41 (by rw [k_n41]; exact List.forall_mem_cons.2 ⟨v_n12, List.forall_mem_cons.2 ⟨v_n7, List.forall_mem_nil _⟩⟩) (strs_ok E0 rfl rfl)
theorem c_n38 : chkFun K0 f_custodyref01_Same Try.f13 = true := by kernel_rfl
theorem k_n38 : callees f_custodyref01_Same.body = [] := by kernel_rfl
theorem v_n38 : Valid K0 38 sameC := fun_valid (K := K0) (f := 38) (F := f_custodyref01_Same) Try.func13 c_n38 (by rw [k_n38]; exact List.forall_mem_nil _) (rsame_ok E0)
theorem c_n54 : chkFun K0 f_custodyref01_SameInts Try.f30 = true := by kernel_rfl
theorem k_n54 : callees f_custodyref01_SameInts.body = [] := by kernel_rfl
theorem v_n54 : Valid K0 54 sameIC := fun_valid (K := K0) (f := 54) (F := f_custodyref01_SameInts) Try.func30 c_n54 (by rw [k_n54]; exact List.forall_mem_nil _) (rsamei_ok E0)
theorem c_n39 : chkFun K0 f_wire_Ints Try.f18 = true := by kernel_rfl
theorem k_n39 : callees f_wire_Ints.body = [(12, false), (12, false)] := by kernel_rfl
theorem v_n39 : Valid K0 39 wIntsC := fun_valid (K := K0) (f := 39) (F := f_wire_Ints) Try.func18 c_n39 (by rw [k_n39]; exact List.forall_mem_cons.2 ⟨v_n12, List.forall_mem_cons.2 ⟨v_n12, List.forall_mem_nil _⟩⟩) (ints_ok E0 rfl)
theorem c_n60 : chkFun K0 f_custodyref01_SameDigests Try.f36 = true := by kernel_rfl
theorem k_n60 : callees f_custodyref01_SameDigests.body = [] := by kernel_rfl
theorem v_n60 : Valid K0 60 sameDC := fun_valid (K := K0) (f := 60) (F := f_custodyref01_SameDigests) Try.func36 c_n60 (by rw [k_n60]; exact List.forall_mem_nil _) (rsamed_ok E0)
theorem c_n63 : chkFun K0 f_custodylaw01_sanity Try.f12 = true := by kernel_rfl
theorem k_n63 : callees f_custodylaw01_sanity.body = [(45, false), (45, false), (45, false), (48, false), (52, false), (43, false), (58, false), (55, false), (57, false), (41, false), (38, false), (12, false), (38, false), (54, false), (7, false), (38, false), (39, false), (38, false), (60, false)] := by kernel_rfl
theorem v_n63 : Valid K0 63 sanC := fun_valid (K := K0) (f := 63) (F := f_custodylaw01_sanity) Try.func12 c_n63 (by rw [k_n63]; exact List.forall_mem_cons.2 ⟨v_n45, List.forall_mem_cons.2 ⟨v_n45, List.forall_mem_cons.2 ⟨v_n45, List.forall_mem_cons.2 ⟨v_n48, List.forall_mem_cons.2 ⟨v_n52, List.forall_mem_cons.2 ⟨v_n43, List.forall_mem_cons.2 ⟨v_n58, List.forall_mem_cons.2 ⟨v_n55, List.forall_mem_cons.2 ⟨v_n57, List.forall_mem_cons.2 ⟨v_n41, List.forall_mem_cons.2 ⟨v_n38, List.forall_mem_cons.2 ⟨v_n12, List.forall_mem_cons.2 ⟨v_n38, List.forall_mem_cons.2 ⟨v_n54, List.forall_mem_cons.2 ⟨v_n7, List.forall_mem_cons.2 ⟨v_n38, List.forall_mem_cons.2 ⟨v_n39, List.forall_mem_cons.2 ⟨v_n38, List.forall_mem_cons.2 ⟨v_n60, List.forall_mem_nil _⟩⟩⟩⟩⟩⟩⟩⟩⟩⟩⟩⟩⟩⟩⟩⟩⟩⟩⟩) (wsan_ok E0 rfl rfl rfl rfl rfl rfl rfl rfl rfl rfl rfl rfl rfl rfl)
theorem c_n30 : chkFun K0 f_custodyref01_Int Try.f15 = true := by kernel_rfl
theorem k_n30 : callees f_custodyref01_Int.body = [] := by kernel_rfl
theorem v_n30 : Valid K0 30 rintC := fun_valid (K := K0) (f := 30) (F := f_custodyref01_Int) Try.func15 c_n30 (by rw [k_n30]; exact List.forall_mem_nil _) (rint_ok E0)
theorem c_n46 : chkFun K0 f_custodyref01_GetInt Try.f25 = true := by kernel_rfl
theorem k_n46 : callees f_custodyref01_GetInt.body = [(30, false), (38, false)] := by kernel_rfl
theorem v_n46 : Valid K0 46 getIntC := fun_valid (K := K0) (f := 46) (F := f_custodyref01_GetInt) Try.func25 c_n46 (by rw [k_n46]; exact List.forall_mem_cons.2 ⟨v_n30, List.forall_mem_cons.2 ⟨v_n38, List.forall_mem_nil _⟩⟩) (rgetint_ok E0 rfl rfl)
theorem c_n49 : chkFun K0 f_custodyref01_count Try.f39 = true := by kernel_rfl
theorem k_n49 : callees f_custodyref01_count.body = [(46, false)] := by kernel_rfl
theorem v_n49 : Valid K0 49 rcntC := fun_valid (K := K0) (f := 49) (F := f_custodyref01_count) Try.func39 c_n49 (by rw [k_n49]; exact List.forall_mem_cons.2 ⟨v_n46, List.forall_mem_nil _⟩) (rcnt_ok E0 rfl)
theorem c_n50 : chkFun K0 f_custodyref01_GetBytes Try.f27 = true := by kernel_rfl
theorem k_n50 : callees f_custodyref01_GetBytes.body = [(49, false)] := by kernel_rfl
theorem v_n50 : Valid K0 50 getBytesC := fun_valid (K := K0) (f := 50) (F := f_custodyref01_GetBytes) Try.func27 c_n50 (by rw [k_n50]; exact List.forall_mem_cons.2 ⟨v_n49, List.forall_mem_nil _⟩) (rgetbytes_ok E0 rfl)
theorem c_n53 : chkFun K0 f_custodyref01_GetInts Try.f29 = true := by kernel_rfl
theorem k_n53 : callees f_custodyref01_GetInts.body = [(49, false), (46, false)] := by kernel_rfl
theorem v_n53 : Valid K0 53 getIntsC := fun_valid (K := K0) (f := 53) (F := f_custodyref01_GetInts) Try.func29 c_n53 (by rw [k_n53]; exact List.forall_mem_cons.2 ⟨v_n49, List.forall_mem_cons.2 ⟨v_n46, List.forall_mem_nil _⟩⟩) (rgetints_ok E0 rfl rfl)
theorem c_n56 : chkFun K0 f_custodyref01_GetStrings Try.f32 = true := by kernel_rfl
theorem k_n56 : callees f_custodyref01_GetStrings.body = [(49, false), (50, false)] := by kernel_rfl
theorem v_n56 : Valid K0 56 getStrsC := fun_valid (K := K0) (f := 56) (F := f_custodyref01_GetStrings) Try.func32 c_n56 (by rw [k_n56]; exact List.forall_mem_cons.2 ⟨v_n49, List.forall_mem_cons.2 ⟨v_n50, List.forall_mem_nil _⟩⟩) (rgetstrs_ok E0 rfl rfl)
theorem c_n59 : chkFun K0 f_custodyref01_GetDigests Try.f35 = true := by kernel_rfl
theorem k_n59 : callees f_custodyref01_GetDigests.body = [(49, false)] := by kernel_rfl
theorem v_n59 : Valid K0 59 getDigsC := fun_valid (K := K0) (f := 59) (F := f_custodyref01_GetDigests) Try.func35 c_n59 (by rw [k_n59]; exact List.forall_mem_cons.2 ⟨v_n49, List.forall_mem_nil _⟩) (rgetdigs_ok E0 rfl)
theorem c_n65 : chkFun K0 f_custodylaw01_WireDecodeMatchesSpec Try.f4 = true := by kernel_rfl
theorem k_n65 : callees f_custodylaw01_WireDecodeMatchesSpec.body = [(63, false), (45, false), (46, false), (48, false), (50, false), (52, false), (53, false), (54, false), (55, false), (56, false), (57, false), (58, false), (59, false), (63, false), (60, false)] := by kernel_rfl
theorem v_n65 : Valid K0 65 lawB := fun_valid (K := K0) (f := 65) (F := f_custodylaw01_WireDecodeMatchesSpec) Try.func4 c_n65 (by rw [k_n65]; exact List.forall_mem_cons.2 ⟨v_n63, List.forall_mem_cons.2 ⟨v_n45, List.forall_mem_cons.2 ⟨v_n46, List.forall_mem_cons.2 ⟨v_n48, List.forall_mem_cons.2 ⟨v_n50, List.forall_mem_cons.2 ⟨v_n52, List.forall_mem_cons.2 ⟨v_n53, List.forall_mem_cons.2 ⟨v_n54, List.forall_mem_cons.2 ⟨v_n55, List.forall_mem_cons.2 ⟨v_n56, List.forall_mem_cons.2 ⟨v_n57, List.forall_mem_cons.2 ⟨v_n58, List.forall_mem_cons.2 ⟨v_n59, List.forall_mem_cons.2 ⟨v_n63, List.forall_mem_cons.2 ⟨v_n60, List.forall_mem_nil _⟩⟩⟩⟩⟩⟩⟩⟩⟩⟩⟩⟩⟩⟩⟩) (law_Decode_ok E0 rfl rfl rfl rfl rfl rfl rfl rfl rfl rfl rfl rfl rfl rfl)
theorem c_n66 : chkFun K0 f_custodylaw01_WireOrder Try.f5 = true := by kernel_rfl
theorem k_n66 : callees f_custodylaw01_WireOrder.body = [(12, false), (12, false), (63, false)] := by kernel_rfl
theorem v_n66 : Valid K0 66 lawII := fun_valid (K := K0) (f := 66) (F := f_custodylaw01_WireOrder) Try.func5 c_n66 (by rw [k_n66]; exact List.forall_mem_cons.2 ⟨v_n12, List.forall_mem_cons.2 ⟨v_n12, List.forall_mem_cons.2 ⟨v_n63, List.forall_mem_nil _⟩⟩⟩) (law_Order_ok E0 rfl rfl)
theorem c_n67 : chkFun K0 f_custodylaw01_WireIntRoundTrip Try.f6 = true := by kernel_rfl
theorem k_n67 : callees f_custodylaw01_WireIntRoundTrip.body = [(63, false), (12, false), (45, false), (63, false)] := by kernel_rfl
theorem v_n67 : Valid K0 67 lawIT := fun_valid (K := K0) (f := 67) (F := f_custodylaw01_WireIntRoundTrip) Try.func6 c_n67 (by rw [k_n67]; exact List.forall_mem_cons.2 ⟨v_n63, List.forall_mem_cons.2 ⟨v_n12, List.forall_mem_cons.2 ⟨v_n45, List.forall_mem_cons.2 ⟨v_n63, List.forall_mem_nil _⟩⟩⟩⟩) (law_IntRound_ok E0 rfl rfl rfl)
theorem c_n72 : chkFun K0 f_custodylaw01_WireConcat Try.f10 = true := by kernel_rfl
theorem k_n72 : callees f_custodylaw01_WireConcat.body = [(63, false), (7, false), (39, false), (48, false), (52, false), (63, false), (54, false)] := by kernel_rfl
theorem v_n72 : Valid K0 72 lawSL := fun_valid (K := K0) (f := 72) (F := f_custodylaw01_WireConcat) Try.func10 c_n72 (by rw [k_n72]; exact List.forall_mem_cons.2 ⟨v_n63, List.forall_mem_cons.2 ⟨v_n7, List.forall_mem_cons.2 ⟨v_n39, List.forall_mem_cons.2 ⟨v_n48, List.forall_mem_cons.2 ⟨v_n52, List.forall_mem_cons.2 ⟨v_n63, List.forall_mem_cons.2 ⟨v_n54, List.forall_mem_nil _⟩⟩⟩⟩⟩⟩⟩) (law_Concat_ok E0 rfl rfl rfl rfl rfl rfl)
theorem c_n62 : chkFun K0 f_custodylaw01_few Try.f11 = true := by kernel_rfl
theorem k_n62 : callees f_custodylaw01_few.body = [] := by kernel_rfl
theorem v_n62 : Valid K0 62 fewsC := fun_valid (K := K0) (f := 62) (F := f_custodylaw01_few) Try.func11 c_n62 (by rw [k_n62]; exact List.forall_mem_nil _) (fews_ok E0)
theorem c_n29 : chkFun K0 f_custodyref01_Bytes Try.f17 = true := by kernel_rfl
theorem k_n29 : callees f_custodyref01_Bytes.body = [(30, false)] := by kernel_rfl
theorem v_n29 : Valid K0 29 rbytesC := fun_valid (K := K0) (f := 29) (F := f_custodyref01_Bytes) Try.func17 c_n29 (by rw [k_n29]; exact List.forall_mem_cons.2 ⟨v_n30, List.forall_mem_nil _⟩) (rbytes_ok E0 rfl)
theorem c_n40 : chkFun K0 f_custodyref01_Ints Try.f19 = true := by kernel_rfl
theorem k_n40 : callees f_custodyref01_Ints.body = [(30, false), (30, false)] := by kernel_rfl
theorem v_n40 : Valid K0 40 rIntsC := fun_valid (K := K0) (f := 40) (F := f_custodyref01_Ints) Try.func19 c_n40 (by rw [k_n40]; exact List.forall_mem_cons.2 ⟨v_n30, List.forall_mem_cons.2 ⟨v_n30, List.forall_mem_nil _⟩⟩) (rints_ok E0 rfl)
theorem c_n42 : chkFun K0 f_custodyref01_Strings Try.f21 = true := by kernel_rfl
theorem k_n42 : callees f_custodyref01_Strings.body = [(30, false), (29, false)] := by kernel_rfl
theorem v_n42 : Valid K0 42 rStrsC := fun_valid (K := K0) (f := 42) (F := f_custodyref01_Strings) Try.func21 c_n42 (by rw [k_n42]; exact List.forall_mem_cons.2 ⟨v_n30, List.forall_mem_cons.2 ⟨v_n29, List.forall_mem_nil _⟩⟩) (rstrs_ok E0 rfl rfl)
theorem c_n44 : chkFun K0 f_custodyref01_Digests Try.f23 = true := by kernel_rfl
theorem k_n44 : callees f_custodyref01_Digests.body = [(30, false)] := by kernel_rfl
theorem v_n44 : Valid K0 44 rDigsC := fun_valid (K := K0) (f := 44) (F := f_custodyref01_Digests) Try.func23 c_n44 (by rw [k_n44]; exact List.forall_mem_cons.2 ⟨v_n30, List.forall_mem_nil _⟩) (rdigs_ok E0 rfl)
theorem c_n64 : chkFun K0 f_custodylaw01_WireEncodeMatchesSpec Try.f3 = true := by kernel_rfl
theorem k_n64 : callees f_custodylaw01_WireEncodeMatchesSpec.body = [(62, false), (63, false), (63, false), (12, false), (30, false), (38, false), (7, false), (29, false), (38, false), (39, false), (40, false), (38, false), (41, false), (42, false), (38, false), (43, false), (44, false), (38, false)] := by kernel_rfl
theorem v_n64 : Valid K0 64 lawE5 := fun_valid (K := K0) (f := 64) (F := f_custodylaw01_WireEncodeMatchesSpec) Try.func3 c_n64 (by rw [k_n64]; exact List.forall_mem_cons.2 ⟨v_n62, List.forall_mem_cons.2 ⟨v_n63, List.forall_mem_cons.2 ⟨v_n63, List.forall_mem_cons.2 ⟨v_n12, List.forall_mem_cons.2 ⟨v_n30, List.forall_mem_cons.2 ⟨v_n38, List.forall_mem_cons.2 ⟨v_n7, List.forall_mem_cons.2 ⟨v_n29, List.forall_mem_cons.2 ⟨v_n38, List.forall_mem_cons.2 ⟨v_n39, List.forall_mem_cons.2 ⟨v_n40, List.forall_mem_cons.2 ⟨v_n38, List.forall_mem_cons.2 ⟨v_n41, List.forall_mem_cons.2 ⟨v_n42, List.forall_mem_cons.2 ⟨v_n38, List.forall_mem_cons.2 ⟨v_n43, List.forall_mem_cons.2 ⟨v_n44, List.forall_mem_cons.2 ⟨v_n38, List.forall_mem_nil _⟩⟩⟩⟩⟩⟩⟩⟩⟩⟩⟩⟩⟩⟩⟩⟩⟩⟩) (law_Encode_ok E0 rfl rfl rfl rfl rfl rfl rfl rfl rfl rfl rfl rfl rfl)
theorem c_n68 : chkFun K0 f_custodylaw01_WireCanonical_1 Try.f37 = true := by kernel_rfl
theorem k_n68 : callees f_custodylaw01_WireCanonical_1.body = [(38, false)] := by kernel_rfl
theorem v_n68 : Valid K0 68 isC := fun_valid (K := K0) (f := 68) (F := f_custodylaw01_WireCanonical_1) Try.func37 c_n68 (by rw [k_n68]; exact List.forall_mem_cons.2 ⟨v_n38, List.forall_mem_nil _⟩) (is_ok E0 rfl)
theorem c_n69 : chkFun K0 f_custodylaw01_WireCanonical Try.f7 = true := by kernel_rfl
theorem k_n69 : callees f_custodylaw01_WireCanonical.body = [(63, false), (45, false), (48, false), (52, false), (55, false), (58, false), (63, false), (12, false), (68, false), (7, false), (68, false), (39, false), (68, false), (41, false), (68, false), (43, false), (68, false)] := by kernel_rfl
theorem v_n69 : Valid K0 69 lawB := fun_valid (K := K0) (f := 69) (F := f_custodylaw01_WireCanonical) Try.func7 c_n69 (by rw [k_n69]; exact List.forall_mem_cons.2 ⟨v_n63, List.forall_mem_cons.2 ⟨v_n45, List.forall_mem_cons.2 ⟨v_n48, List.forall_mem_cons.2 ⟨v_n52, List.forall_mem_cons.2 ⟨v_n55, List.forall_mem_cons.2 ⟨v_n58, List.forall_mem_cons.2 ⟨v_n63, List.forall_mem_cons.2 ⟨v_n12, List.forall_mem_cons.2 ⟨v_n68, List.forall_mem_cons.2 ⟨v_n7, List.forall_mem_cons.2 ⟨v_n68, List.forall_mem_cons.2 ⟨v_n39, List.forall_mem_cons.2 ⟨v_n68, List.forall_mem_cons.2 ⟨v_n41, List.forall_mem_cons.2 ⟨v_n68, List.forall_mem_cons.2 ⟨v_n43, List.forall_mem_cons.2 ⟨v_n68, List.forall_mem_nil _⟩⟩⟩⟩⟩⟩⟩⟩⟩⟩⟩⟩⟩⟩⟩⟩⟩) (law_Canon_ok E0 rfl rfl rfl rfl rfl rfl rfl rfl rfl rfl rfl rfl)
theorem c_n70 : chkFun K0 f_custodylaw01_WireListRoundTrip Try.f8 = true := by kernel_rfl
theorem k_n70 : callees f_custodylaw01_WireListRoundTrip.body = [(62, false), (63, false), (7, false), (39, false), (43, false), (41, false), (48, false), (52, false), (58, false), (55, false), (63, false), (57, false), (54, false), (60, false)] := by kernel_rfl
theorem v_n70 : Valid K0 70 lawL5 := fun_valid (K := K0) (f := 70) (F := f_custodylaw01_WireListRoundTrip) Try.func8 c_n70 (by rw [k_n70]; exact List.forall_mem_cons.2 ⟨v_n62, List.forall_mem_cons.2 ⟨v_n63, List.forall_mem_cons.2 ⟨v_n7, List.forall_mem_cons.2 ⟨v_n39, List.forall_mem_cons.2 ⟨v_n43, List.forall_mem_cons.2 ⟨v_n41, List.forall_mem_cons.2 ⟨v_n48, List.forall_mem_cons.2 ⟨v_n52, List.forall_mem_cons.2 ⟨v_n58, List.forall_mem_cons.2 ⟨v_n55, List.forall_mem_cons.2 ⟨v_n63, List.forall_mem_cons.2 ⟨v_n57, List.forall_mem_cons.2 ⟨v_n54, List.forall_mem_cons.2 ⟨v_n60, List.forall_mem_nil _⟩⟩⟩⟩⟩⟩⟩⟩⟩⟩⟩⟩⟩⟩) (law_ListRound_ok E0 rfl rfl rfl rfl rfl rfl rfl rfl rfl rfl rfl rfl rfl)
theorem c_n71 : chkFun K0 f_custodylaw01_WireTruncated Try.f9 = true := by kernel_rfl
theorem k_n71 : callees f_custodylaw01_WireTruncated.body = [(62, false), (63, false), (12, false), (7, false), (39, false), (41, false), (43, false), (45, false), (48, false), (52, false), (55, false), (58, false), (63, false)] := by kernel_rfl
theorem v_n71 : Valid K0 71 lawE5 := fun_valid (K := K0) (f := 71) (F := f_custodylaw01_WireTruncated) Try.func9 c_n71 (by rw [k_n71]; exact List.forall_mem_cons.2 ⟨v_n62, List.forall_mem_cons.2 ⟨v_n63, List.forall_mem_cons.2 ⟨v_n12, List.forall_mem_cons.2 ⟨v_n7, List.forall_mem_cons.2 ⟨v_n39, List.forall_mem_cons.2 ⟨v_n41, List.forall_mem_cons.2 ⟨v_n43, List.forall_mem_cons.2 ⟨v_n45, List.forall_mem_cons.2 ⟨v_n48, List.forall_mem_cons.2 ⟨v_n52, List.forall_mem_cons.2 ⟨v_n55, List.forall_mem_cons.2 ⟨v_n58, List.forall_mem_cons.2 ⟨v_n63, List.forall_mem_nil _⟩⟩⟩⟩⟩⟩⟩⟩⟩⟩⟩⟩⟩) (law_Trunc_ok E0 rfl rfl rfl rfl rfl rfl rfl rfl rfl rfl rfl rfl)
end Go.Abs.V0
