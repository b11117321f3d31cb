/- The laws and what they ask first. -/
import Derived.Test.YtepddcbbkhdfiaaGreatDoorValX0
import Derived.KernelRfl
set_option linter.unusedSimpArgs false
set_option linter.unusedVariables false
set_option linter.unusedSectionVars false
namespace Go.Abs.V0
open Go.Proofs
set_option maxRecDepth 100000
theorem v_n391 : z6a K0 391 z6zc := z7xc xv_391 z0Qd
theorem v_n392 : z6a K0 392 z13b := fV (F := z4b) [(389, false), (390, false), (391, false), (353, false), (375, false), (348, false), (213, false), (355, false), (349, false), (206, false), (357, false)] Tryz.func3 (by kernel_rfl) ⟨v_n389, v_n390, v_n391, v_n353, v_n375, v_n348, v_n213, v_n355, v_n349, v_n206, v_n357, trivial⟩ (z3xc E0 rfl rfl rfl rfl rfl rfl rfl rfl rfl rfl rfl)
end Go.Abs.V0
