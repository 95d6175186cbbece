/- The row of SenseWider: an observation that is true at a place and says less is true there, too: landfalllaw21.SenseWider returns true at every input, and leaves the input as it was. Conditions: the row's and the card's own (a calm tape; absent.signs as the text lays it; time may pass). -/
import Derived.Test.YtcgghcicnanliaaGreatDoorM45
import Derived.Test.YtcgghcicnanliaaGreatDoorM46
set_option linter.unusedVariables false
set_option linter.unusedSimpArgs false
namespace Go.Proofs.YtcgghcicnanliaaGreatDoor
open Go Go.RowKit
set_option maxRecDepth 100000

theorem fact_joined : joinedFacts Tryz.pinned.checked.prog 7 Tryz.f7 Rows.senseWiderSpec Rows.senseWiderRow = true := by
  show joinedFacts Tryz.prog 7 Tryz.f7 Rows.senseWiderSpec Rows.senseWiderRow = true
  unfold joinedFacts
  rw [fact_inPlace, fact_unfollowed, fact_recurses, fact_named]
  kernel_rfl
theorem senseWider_row : Rows.SenseWiderSaid :=
  OpenClaim.holds_of_wide_leaving_time 7 Tryz.f7 rfl rfl rfl rfl rfl rfl rfl ⟨rfl, rfl, rfl, rfl, rfl⟩ rfl rfl rfl rfl rfl (by kernel_rfl) Tryz.func7 fact_joined
    (of_decide_eq_true (by kernel_rfl)) (by unfold Func.isWrapper; first | (rw [if_pos (by decide +kernel)]; kernel_rfl) | (rw [if_neg (by decide +kernel)]; exact ⟨rfl, rfl⟩))
    (fun os started H enc _ F => lifted os started H enc F)

end Go.Proofs.YtcgghcicnanliaaGreatDoor
