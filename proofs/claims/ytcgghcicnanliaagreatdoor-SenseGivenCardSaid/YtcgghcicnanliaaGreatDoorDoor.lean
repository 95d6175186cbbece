/- THEOREM: if all cells that conflict with an echo are given, what it leaves of a region is the region, tidied: landfalllaw21.SenseGiven returns true at every input, and leaves the input as it was. Conditions: the row's and the card's own (a calm tape; absent.signs as the text lays it; time may pass). -/
import Derived.Test.YtcgghcicnanliaaGreatDoorM47
import Derived.Test.YtcgghcicnanliaaGreatDoorCards
import Derived.Test.YtcgghcicnanliaaGreatDoorTie
import Derived.SevenTiedAt
set_option linter.unusedVariables false
set_option linter.unusedSimpArgs false
namespace Go.Proofs.YtcgghcicnanliaaGreatDoor
open Go
set_option maxRecDepth 100000
theorem fact_goes:Rows.senseGivenRow.goesBy Tryz.prog=true:=by kernel_rfl
theorem fact_looks:Tryz.prog.looks []=true:=by kernel_rfl
theorem fact_main:Tryz.prog.mainIs=some (true,"5d7ee8c626d824a57c1c5bead1643e2d6b7ed6dc484a12811bbb17dae0eb4e11".toList):=by kernel_rfl
theorem senseGiven_card:Rows.SenseGivenCardSaid:=by
 have h6:Claim7.isSixth { stood:={ row:=Rows.senseGivenRow,standIns:=[],harness:=(true,"5d7ee8c626d824a57c1c5bead1643e2d6b7ed6dc484a12811bbb17dae0eb4e11"),looks:=true },kinds:=[] }=false:=by simp[Claim7.isSixth]
 refine⟨Claim7.tied_new_at .later [.data] true (Claim7.new_of_sixth kou (true,"5d7ee8c626d824a57c1c5bead1643e2d6b7ed6dc484a12811bbb17dae0eb4e11") true rfl ⟨rfl,rfl⟩ fact_main h6 ?_) (by kernel_rfl),fun D hD=>(by cases hD),senseGiven_row_tie,fun h=>(by cases h),fact_goes.symm⟩
 intro f fn hf hfn
 obtain rfl:f=5:=Option.some.inj (hf.symm.trans (by kernel_rfl))
 obtain rfl:fn=Tryz.f5:=(Option.some.inj (Tryz.func5.symm.trans hfn)).symm
 refine⟨fact_looks.symm,fun j t ht=>?_⟩
 rw[Tryz.params5]at ht
 have hm:t∈[37,38,40,65]:=by simpa using Array.mem_of_getElem? ht
 have hall:([37,38,40,65].all fun u=>!Tryz.prog.wantsStandIn u)=true:=by kernel_rfl
 exact(show Tryz.prog.wantsStandIn t=false by simpa using List.all_eq_true.1 hall t hm)
#print axioms senseGiven_card
end Go.Proofs.YtcgghcicnanliaaGreatDoor
