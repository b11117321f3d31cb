/- The laws and what they ask first. -/
import Derived.Test.YtepddcbbkhdfiaaGreatDoorValX0
import Derived.KernelRfl
set_option linter.unusedSimpArgs false
set_option linter.unusedVariables false
set_option linter.unusedSectionVars false
namespace Go.Abs.V0
open Go.Proofs
set_option maxRecDepth 100000
theorem v_n391 : z1a K0 391 z9Gc := z95c xv_391 z4Zd
theorem v_n393 : z1a K0 393 z0Mc := fV (F := z9qa) [(389, false), (390, false), (391, false), (359, false), (375, false), (357, false), (349, false), (355, false), (360, false), (353, false), (377, false), (60, false)] Tryz.func4 (by kernel_rfl) ⟨v_n389, v_n390, v_n391, v_n359, v_n375, v_n357, v_n349, v_n355, v_n360, v_n353, v_n377, v_n60, trivial⟩ (z41c E0 rfl rfl rfl rfl rfl rfl rfl rfl rfl rfl rfl rfl)
end Go.Abs.V0
