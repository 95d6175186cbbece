/- khz facts of the row of SenseGiven: what its call reaches. Conditions: none. -/
import Derived.Test.YtcgghcicnanliaaGreatDoorRows
import Derived.JoinedOf
set_option linter.unusedVariables false
set_option linter.unusedSimpArgs false
namespace Go.Proofs.YtcgghcicnanliaaGreatDoor
set_option maxRecDepth 100000
theorem fact_inPlace:Tryz.prog.inPlace 5=Rows.senseGivenRow.inPlace:=by
 have h:(Tryz.prog.inPlace 5 == Rows.senseGivenRow.inPlace)=true:=by kernel_rfl
 simpa using h
theorem kns:Tryz.prog.unfollowed 5=true:=by kernel_rfl
theorem fact_recurses:Tryz.prog.recurses 5=true:=by kernel_rfl
theorem fact_named:Tryz.prog.varsNamed 5=Rows.senseGivenRow.named:=by
 have h:(Tryz.prog.varsNamed 5 == Rows.senseGivenRow.named)=true:=by kernel_rfl
 simpa using h
end Go.Proofs.YtcgghcicnanliaaGreatDoor
