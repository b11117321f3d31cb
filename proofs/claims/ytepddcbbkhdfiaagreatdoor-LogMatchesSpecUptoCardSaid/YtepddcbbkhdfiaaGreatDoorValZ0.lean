/- The laws and what they ask first. -/
import Derived.Test.YtepddcbbkhdfiaaGreatDoorValX0
import Derived.KernelRfl
set_option linter.unusedSimpArgs false
set_option linter.unusedVariables false
set_option linter.unusedSectionVars false
namespace Go.Abs.V0
open Go.Proofs
set_option maxRecDepth 100000
theorem v_n391 : z1a K0 391 z6fd := z5dd xv_391 z58d
theorem v_n394 : z1a K0 394 z2Sc := fV (F := z8qa) [(389, false), (390, false), (391, false), (357, false), (378, false), (360, false), (381, false), (353, false), (380, false), (384, false), (377, false), (60, false), (348, false), (379, false), (359, false), (385, false), (209, false), (349, false), (375, false), (355, false), (386, false)] Tryz.func5 (by kernel_rfl) ⟨v_n389, v_n390, v_n391, v_n357, v_n378, v_n360, v_n381, v_n353, v_n380, v_n384, v_n377, v_n60, v_n348, v_n379, v_n359, v_n385, v_n209, v_n349, v_n375, v_n355, v_n386, trivial⟩ (z6hd E0 rfl rfl rfl rfl rfl rfl rfl rfl rfl rfl rfl rfl rfl rfl rfl rfl rfl rfl rfl rfl rfl)
end Go.Abs.V0
