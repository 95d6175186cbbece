/- What runs found: sense.True, sense.Cut, sense.Conflicts. Conditions: none. Printed by wip/genR.py. -/
import Derived.Test.YtcgghcicnanliaaGreatDoorM41
set_option linter.unusedVariables false
set_option linter.unusedSimpArgs false
namespace Go.Ev
open Go.Proofs Go.Proofs.YtcgghcicnanliaaGreatDoor
noncomputable section
set_option maxRecDepth 100000
theorem r8r0s_good:Good Tryz.prog 123 (knd 284278 r8r0):=good_recS mixedP (orcL_ok kib) (r:=r8r0) (n:=100000) (by rw[←evF_eq];exact all_hd r8q0) (by kernel_rfl)
def kkf:List (FuncId × Word):=(123,(knd 284278 r8r0))::(122,(kaa r8x1r0))::words7
theorem kbe:∀x∈kkf,Good Tryz.prog x.1 x.2:=by
 intro x hx;unfold kkf at hx
 rcases List.mem_cons.1 hx with rfl|hx
 ·exact r8r0s_good
 rcases List.mem_cons.1 hx with rfl|hx
 ·exact(gd kib r8x1q0 0)
 exact kib x hx
def l3z:List Value:=[i 1,i 0,i 0,i 1,i 1,i 50,S 0 0 1 1,S 1 0 1 1,.slice none 0 0,i 1,i 0,i 1,i 0,i 0,i 0,i 0,i 0,i 0,i 0,i 0,i 0,.slice none 0 0,.slice none 0 0,S 2 0 1 1]
def l4z:List Bk:=[(0,[i 100,i 200,i 0,.bool false],110,false),(1,[i 3,i 100,i 0],112,false),(2,[i 100000,i 15000,i 15000],114,false)]
def l5z:List Value:=[i 1,i 0,i 3,i 1,i 3,i 0,i 0,i 90,i 110,i 0,i 0,i 0]
def r9r0:Rec:=⟨16,3,[A l3z,A l5z,A [i 0,i 0]],l4z,Tu [.bool true,i 0],151,[]⟩
def r9r1:Rec:=⟨16,3,[A l3z,A l5z,A [i 20,i 0]],l4z,Tu [.bool false,i 0],151,[]⟩
def r9r2:Rec:=⟨16,3,[A l3z,A [i 1,i 0,i 4,i 1,i 3,i 63,i 2,i 0,i 0,i 0,i 0,i 0],A [i 20,i 0]],l4z,Tu [.bool true,i 0],151,[]⟩
def r9r3:Rec:=⟨16,3,[A l3z,A [i 1,i 0,i 4,i 1,i 3,i 63,i 2,i 0,i 0,i 0,i 0,i 0],A [i 100,i 50]],l4z,Tu [.bool false,i 0],151,[]⟩
def r9r4:Rec:=⟨16,3,[A l3z,A [i 1,i 0,i 3,i 1,i 4,i 0,i 0,i 90,i 110,i 0,i 0,i 0],A [i 0,i 0]],l4z,Tu [.bool false,i 4],150,[]⟩
theorem r9q0:List.all [r9r0,r9r1,r9r2,r9r3,r9r4] (okB kkf)=true:=by kernel_rfl
def r9x1r0:Rec:=⟨18,6,[A l3z,S 3 0 2 2,A l5z,.slice none 0 0],[(0,[i 100,i 200,i 0,.bool false],110,false),(1,[i 3,i 100,i 0],112,false),(2,[i 100000,i 15000,i 15000],114,false),(3,[S 4 0 1 1,S 5 0 1 1],76,false),(4,pp [(0,0)],43,false),(5,pp [(40,0)],43,false)],Tu [Z 127 1,i 0],165,[(127,[Z 125 1],76,true),(125,pp [(0,0)],43,true)]⟩
def r9x1r1:Rec:=⟨18,6,[A l3z,S 3 0 2 2,A [i 1,i 0,i 2,i 1,i 0,i 0,i 0,i 300,i 301,i 0,i 0,i 0],.slice none 0 0],[(0,[i 100,i 200,i 0,.bool false],110,false),(1,[i 3,i 100,i 0],112,false),(2,[i 100000,i 15000,i 15000],114,false),(3,[S 4 0 1 1,S 5 0 1 1],76,false),(4,pp [(7,7)],43,false),(5,pp [(70,7)],43,false)],Tu [Z 738 1,i 0],744,[(738,[Z 736 1],76,true),(736,pp [(70,7)],43,true)]⟩
def r9x1r2:Rec:=⟨18,3,[A l3z,.slice none 0 0,A [i 1,i 0,i 1,i 0,i 0,i 0,i 0,i 0,i 0,i 0,i 0,i 0],.slice none 0 0],l4z,Tu [.slice none 0 0,i 1],74,[]⟩
theorem r9x1q0:List.all [r9x1r0,r9x1r1,r9x1r2] (okB kkf)=true:=by kernel_rfl
def r9x2r0:Rec:=⟨21,5,[A l3z,S 3 0 1 1,A [i 1,i 0,i 2,i 1,i 0,i 0,i 0,i 300,i 301,i 0,i 0,i 0]],[(0,[i 100,i 200,i 0,.bool false],110,false),(1,[i 3,i 100,i 0],112,false),(2,[i 100000,i 15000,i 15000],114,false),(3,[S 4 0 1 1],76,false),(4,pp [(7,7)],43,false)],Tu [Z 455 1,i 0],456,[(455,[i 0],3,true)]⟩
theorem r9x2q0:List.all [r9x2r0] (okB kkf)=true:=by kernel_rfl
def words9:List (FuncId × Word):=(16,(kag (kaa r9r0) (kag (kaa r9r1) (kag (kaa r9r2) (kag (kaa r9r3) (kaa r9r4))))))::(18,(kag (kaa r9x1r0) (kag (kaa r9x1r1) (kaa r9x1r2))))::(21,(kaa r9x2r0))::kkf
theorem words9_good:∀x∈words9,Good Tryz.prog x.1 x.2:=by
 intro x hx;unfold words9 at hx
 rcases List.mem_cons.1 hx with rfl|hx
 ·exact(Good.or (gd kbe r9q0 0) (Good.or (gd kbe r9q0 1) (Good.or (gd kbe r9q0 2) (Good.or (gd kbe r9q0 3) (gd kbe r9q0 4)))))
 rcases List.mem_cons.1 hx with rfl|hx
 ·exact(Good.or (gd kbe r9x1q0 0) (Good.or (gd kbe r9x1q0 1) (gd kbe r9x1q0 2)))
 rcases List.mem_cons.1 hx with rfl|hx
 ·exact(gd kbe r9x2q0 0)
 exact kbe x hx
end
end Go.Ev
