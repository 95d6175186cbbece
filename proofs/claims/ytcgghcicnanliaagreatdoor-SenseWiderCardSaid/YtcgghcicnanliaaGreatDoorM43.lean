/- What runs found: the law's head. Conditions: none. Printed by wip/genR.py. -/
import Derived.Test.YtcgghcicnanliaaGreatDoorM42
set_option linter.unusedVariables false
set_option linter.unusedSimpArgs false
namespace Go.Ev
open Go.Proofs Go.Proofs.YtcgghcicnanliaaGreatDoor
noncomputable section
set_option maxRecDepth 100000
theorem head_eq : isTrue (evF (tabOf Tryz.prog (orcL words9)) Tryz.prog 100000 (.call 9 [] h0)) = true := by kernel_rfl
end
end Go.Ev
