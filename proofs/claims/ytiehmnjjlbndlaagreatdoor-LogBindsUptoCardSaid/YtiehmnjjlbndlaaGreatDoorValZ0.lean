/- The laws and what they ask first. -/
import Derived.Test.YtiehmnjjlbndlaaGreatDoorValX0
import Derived.KernelRfl
set_option linter.all false
namespace Go.Abs.V0
open Go.Proofs Go.Proofs.Tryz
set_option maxRecDepth 100000
theorem v_391:oK K0 391 Qa:=ZO w_391 z4ia
theorem v_400:oK K0 400 UV:=fV (F:=oR) [(389,false),(395,false),(390,false),(391,false),(355,false),(349,false),(363,false),(376,false),(387,false),(397,true),(398,true),(399,true)] func3 (by kernel_rfl) ⟨v_389,v_395,v_390,v_391,v_355,v_349,v_363,v_376,v_387,v_397,v_398,v_399,trivial⟩ (XR E0 rfl rfl rfl rfl rfl rfl rfl rfl rfl rfl rfl rfl)
end Go.Abs.V0