/-
  NARROWER THAN 'FOR EVERY INPUT', by the rows' own cells (each row's printed sentence says how): SenseMatchesReference: calm, laid · SenseKeeps: calm, laid · SenseGiven: calm, laid · SenseWithin: calm, laid · SenseWider: calm, laid · SenseNoPart: calm, laid.
  DERIVED. THE GIVEN ROWS OF THIS SEAT. 6 by the template 'for every input the law returns true; each argument reads behind the call as it read before'; 0 by the template 'total and deterministic' (their statements: YtcgghcicnanliaaGreatDoorTotals.lean).
  GIVEN WITH THE SEED: the statements are not yours to turn. If you find one false, say at which input.
  Laid BY PROGRAM, IN A SANDBOX (cutbox-rows.mjs): the forced cells as the released guide's own fill.sh prints them over the translation 948e9445a37c0656… (all of the seat's roots in one cut). By AI agents, Wed Nov 11 2026. No macro, syntax, notation, axiom, sorry.
-/
import Derived.Test.YtcgghcicnanliaaGreatDoorChecked
import GoSem.Claim
import GoSem.ClaimJoined
import GoSem.ClaimMapViews
import Derived.JoinedTies
import Derived.KernelRfl
namespace Go.Proofs.YtcgghcicnanliaaGreatDoor
/- THE CELL 'sum', in the pinned program and in every row, IS THE sha256 OF THE DUMP (.gsa) THAT YtcgghcicnanliaaGreatDoorProg.lean LOADS. Nothing in Lean hashes anything: it is a label: what it is worth is what the hold of that sum in a sandbox is worth. -/
noncomputable def Tryz.pinned : Pinned := { name := "ytcgghcicnanliaagreatdoor", sum := "948e9445a37c0656838771aa574351bb90c804b25126f5e9cc65853d04a8409c", checked := Tryz.checked }
namespace Rows
def none {H : Type} : Left H := { results := [], args := [] }

/- WHAT THE LISTED PACKAGE-LEVEL VARIABLES READ AS WHEN THE CALL BEGINS. Each datum BY PROGRAM (the guide's laid-datum.mjs) off the statement by which the dump's own 'gosem.cut.vars' lays the variable. In a bare row this is a premise. The card (YtcgghcicnanliaaGreatDoorCards.lean) ties it to the program's text. -/
def laid_landfall_absent_signs {H : Type} : DataW H := .agg [.agg [.lit (.int .i64 (-1)), .lit (.int .i64 0)], .agg [.lit (.int .i64 (-1)), .lit (.int .i64 (-1))], .agg [.lit (.int .i64 0), .lit (.int .i64 (-1))], .agg [.lit (.int .i64 1), .lit (.int .i64 (-1))], .agg [.lit (.int .i64 1), .lit (.int .i64 0)], .agg [.lit (.int .i64 1), .lit (.int .i64 1)], .agg [.lit (.int .i64 0), .lit (.int .i64 1)], .agg [.lit (.int .i64 (-1)), .lit (.int .i64 1)]]

/-- 'landfalllaw21.SenseMatchesReference': WHATEVER THE INPUT: true; the input reads as it did. -/
def senseMatchesReferenceSpec : ChangeSpec := { name := "senseMatchesReference", fn := fun _ => fun
  | [d1, d2, d3, d4, d5] => { results := [.lit (.bool true)], args := [d1, d2, d3, d4, d5] }
  | _ => none }
def senseMatchesReferenceRow : OpenClaim := { program := "ytcgghcicnanliaagreatdoor", sum := "948e9445a37c0656838771aa574351bb90c804b25126f5e9cc65853d04a8409c", func := "landfall/landfalllaw21.SenseMatchesReference", spec := "senseMatchesReference", inPlace := ["internal/race.Acquire", "internal/race.Release", "iter.coroswitch", "iter.newcoro", "internal/race.Write", "runtime.Goexit"], unfollowed := true, recurses := true, named := ["iter.goexitPanicValue", "landfall/absent.signs"], leaving := true, apart := false, calm := true, outside := [.timePasses], laid := [("landfall/absent.signs", laid_landfall_absent_signs)] }
def SenseMatchesReferenceSaid : Prop := senseMatchesReferenceRow.holds Tryz.pinned (OpenSpec.ofChange senseMatchesReferenceSpec)

/-- ITS FALSE NEIGHBOUR: 'it returns false'. Refute it at one input. -/
def senseMatchesReferenceWrong : ChangeSpec := { name := "senseMatchesReference", fn := fun _ => fun
  | [d1, d2, d3, d4, d5] => { results := [.lit (.bool false)], args := [d1, d2, d3, d4, d5] }
  | _ => none }
def SenseMatchesReferenceWrongFalsely : Prop := senseMatchesReferenceRow.holds Tryz.pinned (OpenSpec.ofChange senseMatchesReferenceWrong)

/-- 'landfalllaw21.SenseKeeps': WHATEVER THE INPUT: true; the input reads as it did. -/
def senseKeepsSpec : ChangeSpec := { name := "senseKeeps", fn := fun _ => fun
  | [d1, d2, d3, d4, d5] => { results := [.lit (.bool true)], args := [d1, d2, d3, d4, d5] }
  | _ => none }
def senseKeepsRow : OpenClaim := { program := "ytcgghcicnanliaagreatdoor", sum := "948e9445a37c0656838771aa574351bb90c804b25126f5e9cc65853d04a8409c", func := "landfall/landfalllaw21.SenseKeeps", spec := "senseKeeps", inPlace := ["internal/race.Acquire", "internal/race.Release", "iter.coroswitch", "iter.newcoro", "internal/race.Write", "runtime.Goexit"], unfollowed := true, recurses := true, named := ["iter.goexitPanicValue", "landfall/absent.signs"], leaving := true, apart := false, calm := true, outside := [.timePasses], laid := [("landfall/absent.signs", laid_landfall_absent_signs)] }
def SenseKeepsSaid : Prop := senseKeepsRow.holds Tryz.pinned (OpenSpec.ofChange senseKeepsSpec)

/-- ITS FALSE NEIGHBOUR: 'it returns false'. Refute it at one input. -/
def senseKeepsWrong : ChangeSpec := { name := "senseKeeps", fn := fun _ => fun
  | [d1, d2, d3, d4, d5] => { results := [.lit (.bool false)], args := [d1, d2, d3, d4, d5] }
  | _ => none }
def SenseKeepsWrongFalsely : Prop := senseKeepsRow.holds Tryz.pinned (OpenSpec.ofChange senseKeepsWrong)

/-- 'landfalllaw21.SenseGiven': WHATEVER THE INPUT: true; the input reads as it did. -/
def senseGivenSpec : ChangeSpec := { name := "senseGiven", fn := fun _ => fun
  | [d1, d2, d3, d4] => { results := [.lit (.bool true)], args := [d1, d2, d3, d4] }
  | _ => none }
def senseGivenRow : OpenClaim := { program := "ytcgghcicnanliaagreatdoor", sum := "948e9445a37c0656838771aa574351bb90c804b25126f5e9cc65853d04a8409c", func := "landfall/landfalllaw21.SenseGiven", spec := "senseGiven", inPlace := ["internal/race.Acquire", "internal/race.Release", "iter.coroswitch", "iter.newcoro", "internal/race.Write", "runtime.Goexit"], unfollowed := true, recurses := true, named := ["iter.goexitPanicValue", "landfall/absent.signs"], leaving := true, apart := false, calm := true, outside := [.timePasses], laid := [("landfall/absent.signs", laid_landfall_absent_signs)] }
def SenseGivenSaid : Prop := senseGivenRow.holds Tryz.pinned (OpenSpec.ofChange senseGivenSpec)

/-- ITS FALSE NEIGHBOUR: 'it returns false'. Refute it at one input. -/
def senseGivenWrong : ChangeSpec := { name := "senseGiven", fn := fun _ => fun
  | [d1, d2, d3, d4] => { results := [.lit (.bool false)], args := [d1, d2, d3, d4] }
  | _ => none }
def SenseGivenWrongFalsely : Prop := senseGivenRow.holds Tryz.pinned (OpenSpec.ofChange senseGivenWrong)

/-- 'landfalllaw21.SenseWithin': WHATEVER THE INPUT: true; the input reads as it did. -/
def senseWithinSpec : ChangeSpec := { name := "senseWithin", fn := fun _ => fun
  | [d1, d2, d3] => { results := [.lit (.bool true)], args := [d1, d2, d3] }
  | _ => none }
def senseWithinRow : OpenClaim := { program := "ytcgghcicnanliaagreatdoor", sum := "948e9445a37c0656838771aa574351bb90c804b25126f5e9cc65853d04a8409c", func := "landfall/landfalllaw21.SenseWithin", spec := "senseWithin", inPlace := ["internal/race.Acquire", "internal/race.Release", "iter.coroswitch", "iter.newcoro", "internal/race.Write", "runtime.Goexit"], unfollowed := true, recurses := true, named := ["iter.goexitPanicValue", "landfall/absent.signs"], leaving := true, apart := false, calm := true, outside := [.timePasses], laid := [("landfall/absent.signs", laid_landfall_absent_signs)] }
def SenseWithinSaid : Prop := senseWithinRow.holds Tryz.pinned (OpenSpec.ofChange senseWithinSpec)

/-- ITS FALSE NEIGHBOUR: 'it returns false'. Refute it at one input. -/
def senseWithinWrong : ChangeSpec := { name := "senseWithin", fn := fun _ => fun
  | [d1, d2, d3] => { results := [.lit (.bool false)], args := [d1, d2, d3] }
  | _ => none }
def SenseWithinWrongFalsely : Prop := senseWithinRow.holds Tryz.pinned (OpenSpec.ofChange senseWithinWrong)

/-- 'landfalllaw21.SenseWider': WHATEVER THE INPUT: true; the input reads as it did. -/
def senseWiderSpec : ChangeSpec := { name := "senseWider", fn := fun _ => fun
  | [d1, d2, d3, d4, d5] => { results := [.lit (.bool true)], args := [d1, d2, d3, d4, d5] }
  | _ => none }
def senseWiderRow : OpenClaim := { program := "ytcgghcicnanliaagreatdoor", sum := "948e9445a37c0656838771aa574351bb90c804b25126f5e9cc65853d04a8409c", func := "landfall/landfalllaw21.SenseWider", spec := "senseWider", inPlace := ["internal/race.Acquire", "internal/race.Release", "iter.coroswitch", "iter.newcoro", "internal/race.Write", "runtime.Goexit"], unfollowed := true, recurses := true, named := ["iter.goexitPanicValue", "landfall/absent.signs"], leaving := true, apart := false, calm := true, outside := [.timePasses], laid := [("landfall/absent.signs", laid_landfall_absent_signs)] }
def SenseWiderSaid : Prop := senseWiderRow.holds Tryz.pinned (OpenSpec.ofChange senseWiderSpec)

/-- ITS FALSE NEIGHBOUR: 'it returns false'. Refute it at one input. -/
def senseWiderWrong : ChangeSpec := { name := "senseWider", fn := fun _ => fun
  | [d1, d2, d3, d4, d5] => { results := [.lit (.bool false)], args := [d1, d2, d3, d4, d5] }
  | _ => none }
def SenseWiderWrongFalsely : Prop := senseWiderRow.holds Tryz.pinned (OpenSpec.ofChange senseWiderWrong)

/-- 'landfalllaw21.SenseNoPart': WHATEVER THE INPUT: true; the input reads as it did. -/
def senseNoPartSpec : ChangeSpec := { name := "senseNoPart", fn := fun _ => fun
  | [d1, d2, d3, d4, d5, d6, d7] => { results := [.lit (.bool true)], args := [d1, d2, d3, d4, d5, d6, d7] }
  | _ => none }
def senseNoPartRow : OpenClaim := { program := "ytcgghcicnanliaagreatdoor", sum := "948e9445a37c0656838771aa574351bb90c804b25126f5e9cc65853d04a8409c", func := "landfall/landfalllaw21.SenseNoPart", spec := "senseNoPart", inPlace := ["internal/race.Acquire", "internal/race.Release", "iter.coroswitch", "iter.newcoro", "internal/race.Write", "runtime.Goexit"], unfollowed := true, recurses := true, named := ["iter.goexitPanicValue", "landfall/absent.signs"], leaving := true, apart := false, calm := true, outside := [.timePasses], laid := [("landfall/absent.signs", laid_landfall_absent_signs)] }
def SenseNoPartSaid : Prop := senseNoPartRow.holds Tryz.pinned (OpenSpec.ofChange senseNoPartSpec)

/-- ITS FALSE NEIGHBOUR: 'it returns false'. Refute it at one input. -/
def senseNoPartWrong : ChangeSpec := { name := "senseNoPart", fn := fun _ => fun
  | [d1, d2, d3, d4, d5, d6, d7] => { results := [.lit (.bool false)], args := [d1, d2, d3, d4, d5, d6, d7] }
  | _ => none }
def SenseNoPartWrongFalsely : Prop := senseNoPartRow.holds Tryz.pinned (OpenSpec.ofChange senseNoPartWrong)

end Rows
end Go.Proofs.YtcgghcicnanliaaGreatDoor
