/- What runs found: ring.Ring, region.Sum. Conditions: none. Printed by wip/genR.py. -/
import Derived.Test.YtcgghcicnanliaaGreatDoorM36
set_option linter.unusedVariables false
set_option linter.unusedSimpArgs false
namespace Go.Ev
open Go.Proofs Go.Proofs.YtcgghcicnanliaaGreatDoor
noncomputable section
set_option maxRecDepth 100000
def r7r0:Rec:=⟨198,0,[A [i 100,i 0],A [i 90,i 110]],[],Tu [Z 258842 32,i 0],258843,[(258842,[Z 31294 6,Z 39070 9,Z 46846 9,Z 54622 9,Z 62398 9,Z 70174 9,Z 77950 9,Z 83796 6,Z 89642 6,Z 97418 9,Z 105194 9,Z 112970 9,Z 120746 9,Z 128522 9,Z 136298 9,Z 142144 6,Z 147990 6,Z 155766 9,Z 163542 9,Z 171318 9,Z 179094 9,Z 186870 9,Z 194646 9,Z 200492 6,Z 206338 6,Z 214114 9,Z 221890 9,Z 229666 9,Z 237442 9,Z 245218 9,Z 252994 9,Z 258840 6],76,true),(31294,p0q,43,true),(39070,p1q,43,true),(46846,p2q,43,true),(54622,p3q,43,true),(62398,p4q,43,true),(70174,p5q,43,true),(77950,p6q,43,true),(83796,p7q,43,true),(89642,p8q,43,true),(97418,p9q,43,true),(105194,p10q,43,true),(112970,p11q,43,true),(120746,p12q,43,true),(128522,p13q,43,true),(136298,p14q,43,true),(142144,p15q,43,true),(147990,p16q,43,true),(155766,p17q,43,true),(163542,p18q,43,true),(171318,p19q,43,true),(179094,p20q,43,true),(186870,p21q,43,true),(194646,p22q,43,true),(200492,p23q,43,true),(206338,p24q,43,true),(214114,p25q,43,true),(221890,p26q,43,true),(229666,p27q,43,true),(237442,p28q,43,true),(245218,p29q,43,true),(252994,p30q,43,true),(258840,p31q,43,true)]⟩
theorem r7q0:List.all [r7r0] (okB words6)=true:=by kernel_rfl
def r7x1b0:Bk:=(4,pp [(7,7)],43,false)
def l1z:List Value:=[i 1,i 0,i 0,i 1,i 1,i 50,S 0 0 1 1,S 1 0 1 1,.slice none 0 0,i 1,i 0,i 1,i 0,i 0,i 0,i 0,i 0,i 0,i 0,i 0,i 0,.slice none 0 0,.slice none 0 0,S 2 0 1 1]
def r7x1r0:Rec:=⟨53,6,[A l1z,S 3 0 2 2,A [i 1,i 0,i 3,i 1,i 3,i 0,i 0,i 90,i 110,i 0,i 0,i 0]],[(0,[i 100,i 200,i 0,.bool false],110,false),(1,[i 3,i 100,i 0],112,false),(2,[i 100000,i 15000,i 15000],114,false),(3,[S 4 0 1 1,S 5 0 1 1],76,false),(4,pp [(0,0)],43,false),(5,pp [(40,0)],43,false)],Tu [Q 82 0,i 0],116,[(82,[i 1,i 0,i 0,i 1,i 1,i 50,S 0 0 1 1,S 1 0 1 1,.slice none 0 0,i 1,i 0,i 1,i 0,i 0,i 0,i 0,i 0,i 0,i 0,i 0,i 0,.slice none 0 0,.slice none 0 0,S 2 0 1 1,i 1,i 0,i 3,i 1,i 3,i 0,i 0,i 90,i 110,i 0,i 0,i 0,i 100,i 0,i 0,.slice none 0 0,.slice none 0 0],95,false)]⟩
def l2z:List Value:=[i 1,i 0,i 0,i 1,i 1,i 50,S 0 0 1 1,S 1 0 1 1,.slice none 0 0,i 1,i 0,i 1,i 0,i 0,i 0,i 0,i 0,i 0,i 0,i 0,i 0,.slice none 0 0,.slice none 0 0,S 2 0 1 1,i 1,i 0,i 2,i 1,i 0,i 0,i 0,i 300,i 301,i 0,i 0,i 0,i 0,i 0,i 0,.slice none 0 0,.slice none 0 0]
def r7x1r1:Rec:=⟨53,5,[A l1z,S 3 0 1 1,A [i 1,i 0,i 2,i 1,i 0,i 0,i 0,i 300,i 301,i 0,i 0,i 0]],[(0,[i 100,i 200,i 0,.bool false],110,false),(1,[i 3,i 100,i 0],112,false),(2,[i 100000,i 15000,i 15000],114,false),(3,[S 4 0 1 1],76,false),r7x1b0],Tu [Q 78 0,i 0],79,[(78,l2z,95,false)]⟩
def r7x1r2:Rec:=⟨53,6,[A l1z,S 3 0 2 2,A [i 1,i 0,i 2,i 1,i 0,i 0,i 0,i 300,i 301,i 0,i 0,i 0]],[(0,[i 100,i 200,i 0,.bool false],110,false),(1,[i 3,i 100,i 0],112,false),(2,[i 100000,i 15000,i 15000],114,false),(3,[S 4 0 1 1,S 5 0 1 1],76,false),r7x1b0,(5,pp [(70,7)],43,false)],Tu [Q 83 0,i 0],84,[(83,l2z,95,false)]⟩
def r7x1r3:Rec:=⟨53,3,[A l1z,.slice none 0 0,A [i 1,i 0,i 1,i 0,i 0,i 0,i 0,i 0,i 0,i 0,i 0,i 0]],[(0,[i 100,i 200,i 0,.bool false],110,false),(1,[i 3,i 100,i 0],112,false),(2,[i 100000,i 15000,i 15000],114,false)],Tu [.pointer none,i 1],69,[]⟩
theorem r7x1q0:List.all [r7x1r0,r7x1r1,r7x1r2,r7x1r3] (okB words6)=true:=by kernel_rfl
def words7:List (FuncId × Word):=(198,(kaa r7r0))::(53,(kag (kaa r7x1r0) (kag (kaa r7x1r1) (kag (kaa r7x1r2) (kaa r7x1r3)))))::words6
theorem kib:∀x∈words7,Good Tryz.prog x.1 x.2:=by
 intro x hx;unfold words7 at hx
 rcases List.mem_cons.1 hx with rfl|hx
 ·exact(gd kdh r7q0 0)
 rcases List.mem_cons.1 hx with rfl|hx
 ·exact(Good.or (gd kdh r7x1q0 0) (Good.or (gd kdh r7x1q0 1) (Good.or (gd kdh r7x1q0 2) (gd kdh r7x1q0 3))))
 exact kdh x hx
end
end Go.Ev
