/- What runs found: ring.Near and ring.Wedge. Conditions: none. Printed by wip/genR.py. -/
import Derived.Test.YtcgghcicnanliaaGreatDoorM39
set_option linter.unusedVariables false
set_option linter.unusedSimpArgs false
namespace Go.Ev
open Go.Proofs Go.Proofs.YtcgghcicnanliaaGreatDoor
noncomputable section
set_option maxRecDepth 100000
def r8r0:Rec:=⟨123,3,[S 0 0 2 2,A [i 100,i 0],A [i 90,i 110]],[(0,[S 1 0 1 1,S 2 0 1 1],76,false),(1,pp [(0,0)],43,false),(2,pp [(40,0)],43,false)],Tu [Z 284280 1,i 0],284318,[(284280,[Z 284278 1],76,true),(284278,pp [(0,0)],43,true)]⟩
theorem r8q0:List.all [r8r0] (okB words7)=true:=by kernel_rfl
def r8x1r0:Rec:=⟨122,5,[A [i 1,i 0,i 0,i 1,i 1,i 50,S 0 0 1 1,S 1 0 1 1,.slice none 0 0],S 2 0 2 2,A [i 0,i 0],A [i 300,i 301],.slice none 0 0],[(0,[i 100,i 200,i 0,.bool false],110,false),(1,[i 3,i 100,i 0],112,false),(2,[S 3 0 1 1,S 4 0 1 1],76,false),(3,pp [(7,7)],43,false),(4,pp [(70,7)],43,false)],Tu [Z 650 1,i 0],651,[(650,[Z 648 1],76,true),(648,pp [(70,7)],43,true)]⟩
theorem r8x1q0:List.all [r8x1r0] (okB words7)=true:=by kernel_rfl
end
end Go.Ev
