/- Closed facts of the row of SenseWider: what its call reaches. Conditions: none. -/
import Derived.Test.YtcgghcicnanliaaGreatDoorRows
import Derived.JoinedOf
set_option linter.unusedVariables false
set_option linter.unusedSimpArgs false
namespace Go.Proofs.YtcgghcicnanliaaGreatDoor
set_option maxRecDepth 100000
theorem fact_inPlace : Tryz.prog.inPlace 7 = Rows.senseWiderRow.inPlace := by
  have h : (Tryz.prog.inPlace 7 == Rows.senseWiderRow.inPlace) = true := by kernel_rfl
  simpa using h
theorem fact_unfollowed : Tryz.prog.unfollowed 7 = true := by kernel_rfl
theorem fact_recurses : Tryz.prog.recurses 7 = true := by kernel_rfl
theorem fact_named : Tryz.prog.varsNamed 7 = Rows.senseWiderRow.named := by
  have h : (Tryz.prog.varsNamed 7 == Rows.senseWiderRow.named) = true := by kernel_rfl
  simpa using h
end Go.Proofs.YtcgghcicnanliaaGreatDoor
