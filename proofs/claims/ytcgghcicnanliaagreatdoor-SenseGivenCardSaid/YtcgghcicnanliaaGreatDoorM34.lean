/- What runs found: cut.crossings, hull.Box. Conditions: none. Printed by wip/genR.py. -/
import Derived.Test.YtcgghcicnanliaaGreatDoorM32
set_option linter.unusedVariables false
set_option linter.unusedSimpArgs false
namespace Go.Ev
open Go.Proofs Go.Proofs.YtcgghcicnanliaaGreatDoor
noncomputable section
set_option maxRecDepth 100000
def r5b0:Bk:=(1,p0q,43,true)
def r5b1:Bk:=(0,pp [(0,0)],43,false)
def r5b2:Bk:=(1,p1q,43,true)
def r5b3:Bk:=(1,p2q,43,true)
def r5b4:Bk:=(1,p3q,43,true)
def r5b5:Bk:=(1,p4q,43,true)
def r5b6:Bk:=(1,p5q,43,true)
def r5b7:Bk:=(1,p6q,43,true)
def r5b8:Bk:=(1,p7q,43,true)
def r5b9:Bk:=(1,p8q,43,true)
def r5b10:Bk:=(1,p9q,43,true)
def r5b11:Bk:=(1,p10q,43,true)
def r5b12:Bk:=(1,p11q,43,true)
def r5b13:Bk:=(1,p12q,43,true)
def r5b14:Bk:=(1,p13q,43,true)
def r5b15:Bk:=(1,p14q,43,true)
def r5b16:Bk:=(1,p15q,43,true)
def r5b17:Bk:=(1,p16q,43,true)
def r5b18:Bk:=(1,p17q,43,true)
def r5b19:Bk:=(1,p18q,43,true)
def r5b20:Bk:=(1,p19q,43,true)
def r5b21:Bk:=(1,p20q,43,true)
def r5b22:Bk:=(1,p21q,43,true)
def r5b23:Bk:=(1,p22q,43,true)
def r5b24:Bk:=(1,p23q,43,true)
def r5b25:Bk:=(1,p24q,43,true)
def r5b26:Bk:=(1,p25q,43,true)
def r5b27:Bk:=(1,p26q,43,true)
def r5b28:Bk:=(1,p27q,43,true)
def r5b29:Bk:=(1,p28q,43,true)
def r5b30:Bk:=(1,p29q,43,true)
def r5b31:Bk:=(1,p30q,43,true)
def r5b32:Bk:=(1,p31q,43,true)
def kcn:Bk:=(0,pp [(40,0)],43,false)
def r5r0:Rec:=⟨376,2,[S 0 0 1 1,Z 1 6],[r5b1,r5b0],.slice none 0 0,30,[]⟩
def r5r1:Rec:=⟨376,2,[S 0 0 1 1,Z 1 9],[r5b1,r5b2],.slice none 0 0,39,[]⟩
def r5r2:Rec:=⟨376,2,[S 0 0 1 1,Z 1 9],[r5b1,r5b3],.slice none 0 0,39,[]⟩
def r5r3:Rec:=⟨376,2,[S 0 0 1 1,Z 1 9],[r5b1,r5b4],.slice none 0 0,39,[]⟩
def r5r4:Rec:=⟨376,2,[S 0 0 1 1,Z 1 9],[r5b1,r5b5],.slice none 0 0,39,[]⟩
def r5r5:Rec:=⟨376,2,[S 0 0 1 1,Z 1 9],[r5b1,r5b6],.slice none 0 0,39,[]⟩
def r5r6:Rec:=⟨376,2,[S 0 0 1 1,Z 1 9],[r5b1,r5b7],.slice none 0 0,39,[]⟩
def r5r7:Rec:=⟨376,2,[S 0 0 1 1,Z 1 6],[r5b1,r5b8],.slice none 0 0,30,[]⟩
def r5r8:Rec:=⟨376,2,[S 0 0 1 1,Z 1 6],[r5b1,r5b9],.slice none 0 0,30,[]⟩
def r5r9:Rec:=⟨376,2,[S 0 0 1 1,Z 1 9],[r5b1,r5b10],.slice none 0 0,39,[]⟩
def r5r10:Rec:=⟨376,2,[S 0 0 1 1,Z 1 9],[r5b1,r5b11],.slice none 0 0,39,[]⟩
def r5r11:Rec:=⟨376,2,[S 0 0 1 1,Z 1 9],[r5b1,r5b12],.slice none 0 0,39,[]⟩
def r5r12:Rec:=⟨376,2,[S 0 0 1 1,Z 1 9],[r5b1,r5b13],.slice none 0 0,39,[]⟩
def r5r13:Rec:=⟨376,2,[S 0 0 1 1,Z 1 9],[r5b1,r5b14],.slice none 0 0,39,[]⟩
def r5r14:Rec:=⟨376,2,[S 0 0 1 1,Z 1 9],[r5b1,r5b15],.slice none 0 0,39,[]⟩
def r5r15:Rec:=⟨376,2,[S 0 0 1 1,Z 1 6],[r5b1,r5b16],.slice none 0 0,30,[]⟩
def r5r16:Rec:=⟨376,2,[S 0 0 1 1,Z 1 6],[r5b1,r5b17],.slice none 0 0,30,[]⟩
def r5r17:Rec:=⟨376,2,[S 0 0 1 1,Z 1 9],[r5b1,r5b18],.slice none 0 0,39,[]⟩
def r5r18:Rec:=⟨376,2,[S 0 0 1 1,Z 1 9],[r5b1,r5b19],.slice none 0 0,39,[]⟩
def r5r19:Rec:=⟨376,2,[S 0 0 1 1,Z 1 9],[r5b1,r5b20],.slice none 0 0,39,[]⟩
def r5r20:Rec:=⟨376,2,[S 0 0 1 1,Z 1 9],[r5b1,r5b21],.slice none 0 0,39,[]⟩
def r5r21:Rec:=⟨376,2,[S 0 0 1 1,Z 1 9],[r5b1,r5b22],.slice none 0 0,39,[]⟩
def r5r22:Rec:=⟨376,2,[S 0 0 1 1,Z 1 9],[r5b1,r5b23],.slice none 0 0,39,[]⟩
def r5r23:Rec:=⟨376,2,[S 0 0 1 1,Z 1 6],[r5b1,r5b24],.slice none 0 0,30,[]⟩
def r5r24:Rec:=⟨376,2,[S 0 0 1 1,Z 1 6],[r5b1,r5b25],.slice none 0 0,30,[]⟩
def r5r25:Rec:=⟨376,2,[S 0 0 1 1,Z 1 9],[r5b1,r5b26],.slice none 0 0,39,[]⟩
def r5r26:Rec:=⟨376,2,[S 0 0 1 1,Z 1 9],[r5b1,r5b27],.slice none 0 0,39,[]⟩
def r5r27:Rec:=⟨376,2,[S 0 0 1 1,Z 1 9],[r5b1,r5b28],.slice none 0 0,39,[]⟩
def r5r28:Rec:=⟨376,2,[S 0 0 1 1,Z 1 9],[r5b1,r5b29],.slice none 0 0,39,[]⟩
def r5r29:Rec:=⟨376,2,[S 0 0 1 1,Z 1 9],[r5b1,r5b30],.slice none 0 0,39,[]⟩
def r5r30:Rec:=⟨376,2,[S 0 0 1 1,Z 1 9],[r5b1,r5b31],.slice none 0 0,39,[]⟩
def r5r31:Rec:=⟨376,2,[S 0 0 1 1,Z 1 6],[r5b1,r5b32],.slice none 0 0,30,[]⟩
def r5r32:Rec:=⟨376,2,[S 0 0 1 1,Z 1 6],[kcn,r5b0],.slice none 0 0,30,[]⟩
def r5r33:Rec:=⟨376,2,[S 0 0 1 1,Z 1 9],[kcn,r5b2],.slice none 0 0,39,[]⟩
def r5r34:Rec:=⟨376,2,[S 0 0 1 1,Z 1 9],[kcn,r5b3],.slice none 0 0,39,[]⟩
def r5r35:Rec:=⟨376,2,[S 0 0 1 1,Z 1 9],[kcn,r5b4],.slice none 0 0,39,[]⟩
def r5r36:Rec:=⟨376,2,[S 0 0 1 1,Z 1 9],[kcn,r5b5],.slice none 0 0,39,[]⟩
def r5r37:Rec:=⟨376,2,[S 0 0 1 1,Z 1 9],[kcn,r5b6],.slice none 0 0,39,[]⟩
def r5r38:Rec:=⟨376,2,[S 0 0 1 1,Z 1 9],[kcn,r5b7],.slice none 0 0,39,[]⟩
def r5r39:Rec:=⟨376,2,[S 0 0 1 1,Z 1 6],[kcn,r5b8],.slice none 0 0,30,[]⟩
def r5r40:Rec:=⟨376,2,[S 0 0 1 1,Z 1 6],[kcn,r5b9],.slice none 0 0,30,[]⟩
def r5r41:Rec:=⟨376,2,[S 0 0 1 1,Z 1 9],[kcn,r5b10],.slice none 0 0,39,[]⟩
def r5r42:Rec:=⟨376,2,[S 0 0 1 1,Z 1 9],[kcn,r5b11],.slice none 0 0,39,[]⟩
def r5r43:Rec:=⟨376,2,[S 0 0 1 1,Z 1 9],[kcn,r5b12],.slice none 0 0,39,[]⟩
def r5r44:Rec:=⟨376,2,[S 0 0 1 1,Z 1 9],[kcn,r5b13],.slice none 0 0,39,[]⟩
def r5r45:Rec:=⟨376,2,[S 0 0 1 1,Z 1 9],[kcn,r5b14],.slice none 0 0,39,[]⟩
def r5r46:Rec:=⟨376,2,[S 0 0 1 1,Z 1 9],[kcn,r5b15],.slice none 0 0,39,[]⟩
def r5r47:Rec:=⟨376,2,[S 0 0 1 1,Z 1 6],[kcn,r5b16],.slice none 0 0,30,[]⟩
def r5r48:Rec:=⟨376,2,[S 0 0 1 1,Z 1 6],[kcn,r5b17],.slice none 0 0,30,[]⟩
def r5r49:Rec:=⟨376,2,[S 0 0 1 1,Z 1 9],[kcn,r5b18],.slice none 0 0,39,[]⟩
def r5r50:Rec:=⟨376,2,[S 0 0 1 1,Z 1 9],[kcn,r5b19],.slice none 0 0,39,[]⟩
def r5r51:Rec:=⟨376,2,[S 0 0 1 1,Z 1 9],[kcn,r5b20],.slice none 0 0,39,[]⟩
def r5r52:Rec:=⟨376,2,[S 0 0 1 1,Z 1 9],[kcn,r5b21],.slice none 0 0,39,[]⟩
def r5r53:Rec:=⟨376,2,[S 0 0 1 1,Z 1 9],[kcn,r5b22],.slice none 0 0,39,[]⟩
def r5r54:Rec:=⟨376,2,[S 0 0 1 1,Z 1 9],[kcn,r5b23],.slice none 0 0,39,[]⟩
def r5r55:Rec:=⟨376,2,[S 0 0 1 1,Z 1 6],[kcn,r5b24],.slice none 0 0,30,[]⟩
def r5r56:Rec:=⟨376,2,[S 0 0 1 1,Z 1 6],[kcn,r5b25],.slice none 0 0,30,[]⟩
def r5r57:Rec:=⟨376,2,[S 0 0 1 1,Z 1 9],[kcn,r5b26],.slice none 0 0,39,[]⟩
def r5r58:Rec:=⟨376,2,[S 0 0 1 1,Z 1 9],[kcn,r5b27],.slice none 0 0,39,[]⟩
def r5r59:Rec:=⟨376,2,[S 0 0 1 1,Z 1 9],[kcn,r5b28],.slice none 0 0,39,[]⟩
def r5r60:Rec:=⟨376,2,[S 0 0 1 1,Z 1 9],[kcn,r5b29],.slice none 0 0,39,[]⟩
def r5r61:Rec:=⟨376,2,[S 0 0 1 1,Z 1 9],[kcn,r5b30],.slice none 0 0,39,[]⟩
def r5r62:Rec:=⟨376,2,[S 0 0 1 1,Z 1 9],[kcn,r5b31],.slice none 0 0,39,[]⟩
def r5r63:Rec:=⟨376,2,[S 0 0 1 1,Z 1 6],[kcn,r5b32],.slice none 0 0,30,[]⟩
def r5r64:Rec:=⟨376,2,[S 0 0 1 1,Z 1 4],[(0,pp [(7,7)],43,false),(1,p32q,43,true)],.slice none 0 0,24,[]⟩
theorem r5q0:List.all [r5r0,r5r1,r5r2,r5r3,r5r4,r5r5,r5r6,r5r7,r5r8,r5r9,r5r10,r5r11,r5r12,r5r13,r5r14,r5r15,r5r16,r5r17,r5r18,r5r19,r5r20,r5r21,r5r22,r5r23,r5r24,r5r25,r5r26,r5r27,r5r28,r5r29,r5r30,r5r31,r5r32] (okB kpi)=true:=by kernel_rfl
theorem r5q1:List.all [r5r33,r5r34,r5r35,r5r36,r5r37,r5r38,r5r39,r5r40,r5r41,r5r42,r5r43,r5r44,r5r45,r5r46,r5r47,r5r48,r5r49,r5r50,r5r51,r5r52,r5r53,r5r54,r5r55,r5r56,r5r57,r5r58,r5r59,r5r60,r5r61,r5r62,r5r63,r5r64] (okB kpi)=true:=by kernel_rfl
def r5t0:Word:=orIf (ltK (14000028)) (kag (kaa r5r0) (kag (kaa r5r1) (kag (kaa r5r10) (kag (kaa r5r11) (kag (kaa r5r12) (kag (kaa r5r13) (kag (kaa r5r14) (kag (kaa r5r15) (kag (kaa r5r16) (kag (kaa r5r17) (kag (kaa r5r18) (kag (kaa r5r19) (kag (kaa r5r2) (kag (kaa r5r20) (kag (kaa r5r21) (kag (kaa r5r22) (kag (kaa r5r23) (kag (kaa r5r24) (kag (kaa r5r25) (kag (kaa r5r26) (kag (kaa r5r27) (kag (kaa r5r28) (kag (kaa r5r29) (kag (kaa r5r3) (kag (kaa r5r30) (kag (kaa r5r31) (kag (kaa r5r32) (kag (kaa r5r33) (kag (kaa r5r34) (kag (kaa r5r35) (kag (kaa r5r36) (kag (kaa r5r37) (kag (kaa r5r38) (kag (kaa r5r39) (kag (kaa r5r4) (kag (kaa r5r40) (kag (kaa r5r41) (kag (kaa r5r42) (kag (kaa r5r43) (kag (kaa r5r44) (kag (kaa r5r45) (kag (kaa r5r46) (kag (kaa r5r47) (kag (kaa r5r48) (kag (kaa r5r49) (kag (kaa r5r5) (kag (kaa r5r50) (kag (kaa r5r51) (kag (kaa r5r52) (kag (kaa r5r53) (kag (kaa r5r54) (kag (kaa r5r55) (kag (kaa r5r56) (kag (kaa r5r57) (kag (kaa r5r58) (kag (kaa r5r59) (kag (kaa r5r6) (kag (kaa r5r60) (kag (kaa r5r61) (kag (kaa r5r62) (kag (kaa r5r63) (kag (kaa r5r7) (kag (kaa r5r8) (kaa r5r9)))))))))))))))))))))))))))))))))))))))))))))))))))))))))))))))) (kaa r5r64)
theorem r5t0_good:Good Tryz.prog 376 r5t0:=Good.ite (Good.or (gd kab r5q0 0) (Good.or (gd kab r5q0 1) (Good.or (gd kab r5q0 10) (Good.or (gd kab r5q0 11) (Good.or (gd kab r5q0 12) (Good.or (gd kab r5q0 13) (Good.or (gd kab r5q0 14) (Good.or (gd kab r5q0 15) (Good.or (gd kab r5q0 16) (Good.or (gd kab r5q0 17) (Good.or (gd kab r5q0 18) (Good.or (gd kab r5q0 19) (Good.or (gd kab r5q0 2) (Good.or (gd kab r5q0 20) (Good.or (gd kab r5q0 21) (Good.or (gd kab r5q0 22) (Good.or (gd kab r5q0 23) (Good.or (gd kab r5q0 24) (Good.or (gd kab r5q0 25) (Good.or (gd kab r5q0 26) (Good.or (gd kab r5q0 27) (Good.or (gd kab r5q0 28) (Good.or (gd kab r5q0 29) (Good.or (gd kab r5q0 3) (Good.or (gd kab r5q0 30) (Good.or (gd kab r5q0 31) (Good.or (gd kab r5q0 32) (Good.or (gd kab r5q1 0) (Good.or (gd kab r5q1 1) (Good.or (gd kab r5q1 2) (Good.or (gd kab r5q1 3) (Good.or (gd kab r5q1 4) (Good.or (gd kab r5q1 5) (Good.or (gd kab r5q1 6) (Good.or (gd kab r5q0 4) (Good.or (gd kab r5q1 7) (Good.or (gd kab r5q1 8) (Good.or (gd kab r5q1 9) (Good.or (gd kab r5q1 10) (Good.or (gd kab r5q1 11) (Good.or (gd kab r5q1 12) (Good.or (gd kab r5q1 13) (Good.or (gd kab r5q1 14) (Good.or (gd kab r5q1 15) (Good.or (gd kab r5q1 16) (Good.or (gd kab r5q0 5) (Good.or (gd kab r5q1 17) (Good.or (gd kab r5q1 18) (Good.or (gd kab r5q1 19) (Good.or (gd kab r5q1 20) (Good.or (gd kab r5q1 21) (Good.or (gd kab r5q1 22) (Good.or (gd kab r5q1 23) (Good.or (gd kab r5q1 24) (Good.or (gd kab r5q1 25) (Good.or (gd kab r5q1 26) (Good.or (gd kab r5q0 6) (Good.or (gd kab r5q1 27) (Good.or (gd kab r5q1 28) (Good.or (gd kab r5q1 29) (Good.or (gd kab r5q1 30) (Good.or (gd kab r5q0 7) (Good.or (gd kab r5q0 8) (gd kab r5q0 9)))))))))))))))))))))))))))))))))))))))))))))))))))))))))))))))) (gd kab r5q1 31)
def r5x1r0:Rec:=⟨73,1,[S 0 0 1 1],[(0,pp [(0,0)],43,false)],Tu [A [i 0,i 0],A [i 0,i 0],i 0],13,[]⟩
def r5x1r1:Rec:=⟨73,1,[S 0 0 1 1],[(0,pp [(40,0)],43,false)],Tu [A [i 40,i 0],A [i 40,i 0],i 0],13,[]⟩
def r5x1r2:Rec:=⟨73,1,[Z 0 1],[(0,pp [(0,0)],43,true)],Tu [A [i 0,i 0],A [i 0,i 0],i 0],13,[]⟩
def r5x1r3:Rec:=⟨73,1,[S 0 0 1 1],[(0,pp [(7,7)],43,false)],Tu [A [i 7,i 7],A [i 7,i 7],i 0],13,[]⟩
def r5x1r4:Rec:=⟨73,1,[S 0 0 1 1],[(0,pp [(70,7)],43,false)],Tu [A [i 70,i 7],A [i 70,i 7],i 0],13,[]⟩
def r5x1r5:Rec:=⟨73,1,[Z 0 1],[(0,pp [(70,7)],43,true)],Tu [A [i 70,i 7],A [i 70,i 7],i 0],13,[]⟩
theorem r5x1q0:List.all [r5x1r0,r5x1r1,r5x1r2,r5x1r3,r5x1r4,r5x1r5] (okB kpi)=true:=by kernel_rfl
def r5x1t0:Word:=orIf (ltK (14000028)) (kag (kaa r5x1r0) (kaa r5x1r2)) (kaa r5x1r3)
theorem r5x1t0_good:Good Tryz.prog 73 r5x1t0:=Good.ite (Good.or (gd kab r5x1q0 0) (gd kab r5x1q0 2)) (gd kab r5x1q0 3)
def r5x1t1:Word:=orIf (ltK (140000217)) (kaa r5x1r1) (kag (kaa r5x1r4) (kaa r5x1r5))
theorem r5x1t1_good:Good Tryz.prog 73 r5x1t1:=Good.ite (gd kab r5x1q0 1) (Good.or (gd kab r5x1q0 4) (gd kab r5x1q0 5))
def r5x1t2:Word:=orIf (ltK (80000120)) r5x1t0 r5x1t1
theorem r5x1t2_good:Good Tryz.prog 73 r5x1t2:=Good.ite r5x1t0_good r5x1t1_good
def kmg:List (FuncId × Word):=(376,r5t0)::(73,r5x1t2)::kpi
theorem kac:∀x∈kmg,Good Tryz.prog x.1 x.2:=by
 intro x hx;unfold kmg at hx
 rcases List.mem_cons.1 hx with rfl|hx
 ·exact r5t0_good
 rcases List.mem_cons.1 hx with rfl|hx
 ·exact r5x1t2_good
 exact kab x hx
end
end Go.Ev
