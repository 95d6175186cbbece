/- What runs found: region.covered. Conditions: none. Printed by wip/genR.py. -/
import Derived.Test.YtcgghcicnanliaaGreatDoorM30
set_option linter.unusedVariables false
set_option linter.unusedSimpArgs false
namespace Go.Ev
open Go.Proofs Go.Proofs.YtcgghcicnanliaaGreatDoor
noncomputable section
set_option maxRecDepth 100000
def r4b0:Bk:=(8,p6q,43,true)
def r4b1:Bk:=(17,p15q,43,true)
def r4b2:Bk:=(15,p13q,43,true)
def r4b3:Bk:=(31,p29q,43,true)
def r4b4:Bk:=(24,p22q,43,true)
def r4b5:Bk:=(21,p19q,43,true)
def r4b6:Bk:=(25,p23q,43,true)
def r4b7:Bk:=(18,p16q,43,true)
def r4b8:Bk:=(6,p4q,43,true)
def r4b9:Bk:=(9,p7q,43,true)
def r4b10:Bk:=(32,p30q,43,true)
def r4b11:Bk:=(5,p3q,43,true)
def r4b12:Bk:=(16,p14q,43,true)
def r4b13:Bk:=(22,p20q,43,true)
def r4b14:Bk:=(23,p21q,43,true)
def r4b15:Bk:=(12,p10q,43,true)
def r4b16:Bk:=(7,p5q,43,true)
def r4b17:Bk:=(30,p28q,43,true)
def r4b18:Bk:=(3,p1q,43,true)
def r4b19:Bk:=(20,p18q,43,true)
def r4b20:Bk:=(28,p26q,43,true)
def r4b21:Bk:=(19,p17q,43,true)
def r4b22:Bk:=(11,p9q,43,true)
def r4b23:Bk:=(2,p0q,43,true)
def r4b24:Bk:=(33,p31q,43,true)
def r4b25:Bk:=(14,p12q,43,true)
def r4b26:Bk:=(13,p11q,43,true)
def r4b27:Bk:=(27,p25q,43,true)
def r4b28:Bk:=(29,p27q,43,true)
def r4b29:Bk:=(10,p8q,43,true)
def r4b30:Bk:=(26,p24q,43,true)
def r4b31:Bk:=(4,p2q,43,true)
def r4b32:Bk:=(3,pp [(0,0)],43,true)
def r4b33:Bk:=(2,pp [(0,0)],43,true)
def l0z:List Bk:=[(0,[Z 1 32],197,false),(1,[Z 2 6,Z 3 9,Z 4 9,Z 5 9,Z 6 9,Z 7 9,Z 8 9,Z 9 6,Z 10 6,Z 11 9,Z 12 9,Z 13 9,Z 14 9,Z 15 9,Z 16 9,Z 17 6,Z 18 6,Z 19 9,Z 20 9,Z 21 9,Z 22 9,Z 23 9,Z 24 9,Z 25 6,Z 26 6,Z 27 9,Z 28 9,Z 29 9,Z 30 9,Z 31 9,Z 32 9,Z 33 6],76,true),r4b23,r4b18,r4b31,r4b11,r4b8,r4b16,r4b0,r4b9,r4b29,r4b22,r4b15,r4b26,r4b25,r4b2,r4b12,r4b1,r4b7,r4b21,r4b19,r4b5,r4b13,r4b14,r4b4,r4b6,r4b30,r4b27,r4b20,r4b28,r4b17,r4b3,r4b10,r4b24]
def r4r0:Rec:=⟨251,34,[Q 0 0,i 0],l0z,.bool false,5842,[]⟩
def r4r1:Rec:=⟨251,34,[Q 0 0,i 1],l0z,.bool false,7772,[]⟩
def r4r2:Rec:=⟨251,34,[Q 0 0,i 2],l0z,.bool false,7772,[]⟩
def r4r3:Rec:=⟨251,34,[Q 0 0,i 3],l0z,.bool false,7772,[]⟩
def r4r4:Rec:=⟨251,34,[Q 0 0,i 4],l0z,.bool false,7772,[]⟩
def r4r5:Rec:=⟨251,34,[Q 0 0,i 5],l0z,.bool false,7772,[]⟩
def r4r6:Rec:=⟨251,34,[Q 0 0,i 6],l0z,.bool false,7772,[]⟩
def r4r7:Rec:=⟨251,34,[Q 0 0,i 7],l0z,.bool false,5842,[]⟩
def r4r8:Rec:=⟨251,34,[Q 0 0,i 8],l0z,.bool false,5842,[]⟩
def r4r9:Rec:=⟨251,34,[Q 0 0,i 9],l0z,.bool false,7772,[]⟩
def r4r10:Rec:=⟨251,34,[Q 0 0,i 10],l0z,.bool false,7772,[]⟩
def r4r11:Rec:=⟨251,34,[Q 0 0,i 11],l0z,.bool false,7772,[]⟩
def r4r12:Rec:=⟨251,34,[Q 0 0,i 12],l0z,.bool false,7772,[]⟩
def r4r13:Rec:=⟨251,34,[Q 0 0,i 13],l0z,.bool false,7772,[]⟩
def r4r14:Rec:=⟨251,34,[Q 0 0,i 14],l0z,.bool false,7772,[]⟩
def r4r15:Rec:=⟨251,34,[Q 0 0,i 15],l0z,.bool false,5842,[]⟩
def r4r16:Rec:=⟨251,34,[Q 0 0,i 16],l0z,.bool false,5842,[]⟩
def r4r17:Rec:=⟨251,34,[Q 0 0,i 17],l0z,.bool false,7772,[]⟩
def r4r18:Rec:=⟨251,34,[Q 0 0,i 18],l0z,.bool false,7772,[]⟩
def r4r19:Rec:=⟨251,34,[Q 0 0,i 19],l0z,.bool false,7772,[]⟩
def r4r20:Rec:=⟨251,34,[Q 0 0,i 20],l0z,.bool false,7772,[]⟩
def r4r21:Rec:=⟨251,34,[Q 0 0,i 21],l0z,.bool false,7772,[]⟩
def r4r22:Rec:=⟨251,34,[Q 0 0,i 22],l0z,.bool false,7772,[]⟩
def r4r23:Rec:=⟨251,34,[Q 0 0,i 23],l0z,.bool false,5842,[]⟩
def r4r24:Rec:=⟨251,34,[Q 0 0,i 24],l0z,.bool false,5842,[]⟩
def r4r25:Rec:=⟨251,34,[Q 0 0,i 25],l0z,.bool false,7772,[]⟩
def r4r26:Rec:=⟨251,34,[Q 0 0,i 26],l0z,.bool false,7772,[]⟩
def r4r27:Rec:=⟨251,34,[Q 0 0,i 27],l0z,.bool false,7772,[]⟩
def r4r28:Rec:=⟨251,34,[Q 0 0,i 28],l0z,.bool false,7772,[]⟩
def r4r29:Rec:=⟨251,34,[Q 0 0,i 29],l0z,.bool false,7772,[]⟩
def r4r30:Rec:=⟨251,34,[Q 0 0,i 30],l0z,.bool false,7772,[]⟩
def r4r31:Rec:=⟨251,34,[Q 0 0,i 31],l0z,.bool false,5842,[]⟩
def r4r32:Rec:=⟨251,4,[Q 0 0,i 0],[(0,[Z 1 2],197,false),(1,[Z 2 1,Z 3 1],76,true),r4b33,r4b32],.bool false,70,[]⟩
def r4r33:Rec:=⟨251,4,[Q 0 0,i 1],[(0,[Z 1 2],197,false),(1,[Z 2 1,Z 3 1],76,true),r4b33,r4b32],.bool true,37,[]⟩
def r4r34:Rec:=⟨251,3,[Q 0 0,i 0],[(0,[Z 1 1],197,false),(1,[Z 2 1],76,true),(2,pp [(70,7)],43,true)],.bool false,36,[]⟩
theorem r4q0:List.all [r4r0,r4r1] (okB kcy)=true:=by kernel_rfl
theorem r4q1:List.all [r4r2,r4r3] (okB kcy)=true:=by kernel_rfl
theorem r4q2:List.all [r4r4,r4r5] (okB kcy)=true:=by kernel_rfl
theorem r4q3:List.all [r4r6,r4r7] (okB kcy)=true:=by kernel_rfl
theorem r4q4:List.all [r4r8,r4r9] (okB kcy)=true:=by kernel_rfl
theorem r4q5:List.all [r4r10,r4r11] (okB kcy)=true:=by kernel_rfl
theorem r4q6:List.all [r4r12,r4r13] (okB kcy)=true:=by kernel_rfl
theorem r4q7:List.all [r4r14,r4r15] (okB kcy)=true:=by kernel_rfl
theorem r4q8:List.all [r4r16,r4r17] (okB kcy)=true:=by kernel_rfl
theorem r4q9:List.all [r4r18,r4r19] (okB kcy)=true:=by kernel_rfl
theorem r4q10:List.all [r4r20,r4r21] (okB kcy)=true:=by kernel_rfl
theorem r4q11:List.all [r4r22,r4r23] (okB kcy)=true:=by kernel_rfl
theorem r4q12:List.all [r4r24,r4r25] (okB kcy)=true:=by kernel_rfl
theorem r4q13:List.all [r4r26,r4r27] (okB kcy)=true:=by kernel_rfl
theorem r4q14:List.all [r4r28,r4r29] (okB kcy)=true:=by kernel_rfl
theorem r4q15:List.all [r4r30,r4r31,r4r32,r4r33,r4r34] (okB kcy)=true:=by kernel_rfl
def kpi:List (FuncId × Word):=(251,(kag (kaa r4r0) (kag (kaa r4r1) (kag (kaa r4r2) (kag (kaa r4r3) (kag (kaa r4r4) (kag (kaa r4r5) (kag (kaa r4r6) (kag (kaa r4r7) (kag (kaa r4r8) (kag (kaa r4r9) (kag (kaa r4r10) (kag (kaa r4r11) (kag (kaa r4r12) (kag (kaa r4r13) (kag (kaa r4r14) (kag (kaa r4r15) (kag (kaa r4r16) (kag (kaa r4r17) (kag (kaa r4r18) (kag (kaa r4r19) (kag (kaa r4r20) (kag (kaa r4r21) (kag (kaa r4r22) (kag (kaa r4r23) (kag (kaa r4r24) (kag (kaa r4r25) (kag (kaa r4r26) (kag (kaa r4r27) (kag (kaa r4r28) (kag (kaa r4r29) (kag (kaa r4r30) (kag (kaa r4r31) (kag (kaa r4r32) (kag (kaa r4r33) (kaa r4r34))))))))))))))))))))))))))))))))))))::kcy
theorem kab:∀x∈kpi,Good Tryz.prog x.1 x.2:=by
 intro x hx;unfold kpi at hx
 rcases List.mem_cons.1 hx with rfl|hx
 ·exact(Good.or (gd kaj r4q0 0) (Good.or (gd kaj r4q0 1) (Good.or (gd kaj r4q1 0) (Good.or (gd kaj r4q1 1) (Good.or (gd kaj r4q2 0) (Good.or (gd kaj r4q2 1) (Good.or (gd kaj r4q3 0) (Good.or (gd kaj r4q3 1) (Good.or (gd kaj r4q4 0) (Good.or (gd kaj r4q4 1) (Good.or (gd kaj r4q5 0) (Good.or (gd kaj r4q5 1) (Good.or (gd kaj r4q6 0) (Good.or (gd kaj r4q6 1) (Good.or (gd kaj r4q7 0) (Good.or (gd kaj r4q7 1) (Good.or (gd kaj r4q8 0) (Good.or (gd kaj r4q8 1) (Good.or (gd kaj r4q9 0) (Good.or (gd kaj r4q9 1) (Good.or (gd kaj r4q10 0) (Good.or (gd kaj r4q10 1) (Good.or (gd kaj r4q11 0) (Good.or (gd kaj r4q11 1) (Good.or (gd kaj r4q12 0) (Good.or (gd kaj r4q12 1) (Good.or (gd kaj r4q13 0) (Good.or (gd kaj r4q13 1) (Good.or (gd kaj r4q14 0) (Good.or (gd kaj r4q14 1) (Good.or (gd kaj r4q15 0) (Good.or (gd kaj r4q15 1) (Good.or (gd kaj r4q15 2) (Good.or (gd kaj r4q15 3) (gd kaj r4q15 4)))))))))))))))))))))))))))))))))))
 exact kaj x hx
end
end Go.Ev
