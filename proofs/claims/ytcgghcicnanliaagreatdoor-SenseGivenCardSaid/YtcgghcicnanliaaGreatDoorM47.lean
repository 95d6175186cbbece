/- The row of SenseGiven: landfalllaw21.SenseGiven returns true at every input, and leaves the input as it was. Conditions: the row's own (a calm tape; absent.signs as the text lays it; time may pass). -/
import Derived.Test.YtcgghcicnanliaaGreatDoorM46
import Derived.Test.YtcgghcicnanliaaGreatDoorM07
set_option linter.unusedVariables false
set_option linter.unusedSimpArgs false
namespace Go.Proofs.YtcgghcicnanliaaGreatDoor
open Go Go.RowKit
set_option maxRecDepth 100000
theorem fact_joined:joinedFacts Tryz.pinned.checked.prog 5 Tryz.f5 Rows.senseGivenSpec Rows.senseGivenRow=true:=by
 show joinedFacts Tryz.prog 5 Tryz.f5 Rows.senseGivenSpec Rows.senseGivenRow=true
 unfold joinedFacts;rw[fact_inPlace,kns,fact_recurses,fact_named]
 kernel_rfl
theorem kou:Rows.SenseGivenSaid:=
 OpenClaim.holds_of_wide_leaving_time 5 Tryz.f5 rfl rfl rfl rfl rfl rfl rfl ⟨rfl,rfl,rfl,rfl,rfl⟩ rfl rfl rfl rfl rfl (by kernel_rfl) Tryz.func5 fact_joined
  (of_decide_eq_true (by kernel_rfl)) (by unfold Func.isWrapper;first|(rw[if_pos (by decide +kernel)];kernel_rfl)|(rw[if_neg (by decide +kernel)];exact⟨rfl,rfl⟩))
  (fun os started H enc _ F=>lifted os started H enc F)
end Go.Proofs.YtcgghcicnanliaaGreatDoor
