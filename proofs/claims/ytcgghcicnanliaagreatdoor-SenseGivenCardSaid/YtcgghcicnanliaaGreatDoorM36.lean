/- What runs found: cut.Meet. Conditions: none. Printed by wip/genR.py. -/
import Derived.Test.YtcgghcicnanliaaGreatDoorM34
set_option linter.unusedVariables false
set_option linter.unusedSimpArgs false
namespace Go.Ev
open Go.Proofs Go.Proofs.YtcgghcicnanliaaGreatDoor
noncomputable section
set_option maxRecDepth 100000
def r6b0:Bk:=(1,p0q,43,true)
def r6b1:Bk:=(0,pp [(0,0)],43,false)
def r6b2:Bk:=(1,p1q,43,true)
def r6b3:Bk:=(1,p2q,43,true)
def r6b4:Bk:=(1,p3q,43,true)
def r6b5:Bk:=(1,p4q,43,true)
def r6b6:Bk:=(1,p5q,43,true)
def r6b7:Bk:=(1,p6q,43,true)
def r6b8:Bk:=(1,p7q,43,true)
def r6b9:Bk:=(1,p8q,43,true)
def r6b10:Bk:=(1,p9q,43,true)
def r6b11:Bk:=(1,p10q,43,true)
def r6b12:Bk:=(1,p11q,43,true)
def r6b13:Bk:=(1,p12q,43,true)
def r6b14:Bk:=(1,p13q,43,true)
def r6b15:Bk:=(1,p14q,43,true)
def r6b16:Bk:=(1,p15q,43,true)
def r6b17:Bk:=(247,pp [(0,0)],43,true)
def r6b18:Bk:=(1,p16q,43,true)
def r6b19:Bk:=(1,p17q,43,true)
def r6b20:Bk:=(1,p18q,43,true)
def r6b21:Bk:=(1,p19q,43,true)
def r6b22:Bk:=(1,p20q,43,true)
def r6b23:Bk:=(1,p21q,43,true)
def r6b24:Bk:=(1,p22q,43,true)
def r6b25:Bk:=(1,p23q,43,true)
def r6b26:Bk:=(1,p24q,43,true)
def r6b27:Bk:=(1,p25q,43,true)
def r6b28:Bk:=(1,p26q,43,true)
def r6b29:Bk:=(1,p27q,43,true)
def r6b30:Bk:=(1,p28q,43,true)
def r6b31:Bk:=(1,p29q,43,true)
def r6b32:Bk:=(1,p30q,43,true)
def r6b33:Bk:=(1,p31q,43,true)
def kcm:Bk:=(0,pp [(40,0)],43,false)
def r6r0:Rec:=⟨229,2,[S 0 0 1 1,Z 1 6],[r6b1,r6b0],Tu [.slice none 0 0,.bool false,i 0],242,[]⟩
def r6r1:Rec:=⟨229,2,[S 0 0 1 1,Z 1 9],[r6b1,r6b2],Tu [.slice none 0 0,.bool false,i 0],377,[]⟩
def r6r2:Rec:=⟨229,2,[S 0 0 1 1,Z 1 9],[r6b1,r6b3],Tu [.slice none 0 0,.bool false,i 0],377,[]⟩
def r6r3:Rec:=⟨229,2,[S 0 0 1 1,Z 1 9],[r6b1,r6b4],Tu [.slice none 0 0,.bool false,i 0],377,[]⟩
def r6r4:Rec:=⟨229,2,[S 0 0 1 1,Z 1 9],[r6b1,r6b5],Tu [.slice none 0 0,.bool false,i 0],377,[]⟩
def r6r5:Rec:=⟨229,2,[S 0 0 1 1,Z 1 9],[r6b1,r6b6],Tu [.slice none 0 0,.bool false,i 0],377,[]⟩
def r6r6:Rec:=⟨229,2,[S 0 0 1 1,Z 1 9],[r6b1,r6b7],Tu [.slice none 0 0,.bool false,i 0],377,[]⟩
def r6r7:Rec:=⟨229,2,[S 0 0 1 1,Z 1 6],[r6b1,r6b8],Tu [.slice none 0 0,.bool false,i 0],242,[]⟩
def r6r8:Rec:=⟨229,2,[S 0 0 1 1,Z 1 6],[r6b1,r6b9],Tu [.slice none 0 0,.bool false,i 0],242,[]⟩
def r6r9:Rec:=⟨229,2,[S 0 0 1 1,Z 1 9],[r6b1,r6b10],Tu [.slice none 0 0,.bool false,i 0],377,[]⟩
def r6r10:Rec:=⟨229,2,[S 0 0 1 1,Z 1 9],[r6b1,r6b11],Tu [.slice none 0 0,.bool false,i 0],377,[]⟩
def r6r11:Rec:=⟨229,2,[S 0 0 1 1,Z 1 9],[r6b1,r6b12],Tu [.slice none 0 0,.bool false,i 0],377,[]⟩
def r6r12:Rec:=⟨229,2,[S 0 0 1 1,Z 1 9],[r6b1,r6b13],Tu [.slice none 0 0,.bool false,i 0],377,[]⟩
def r6r13:Rec:=⟨229,2,[S 0 0 1 1,Z 1 9],[r6b1,r6b14],Tu [.slice none 0 0,.bool false,i 0],377,[]⟩
def r6r14:Rec:=⟨229,2,[S 0 0 1 1,Z 1 9],[r6b1,r6b15],Tu [.slice none 0 0,.bool false,i 0],377,[]⟩
def r6r15:Rec:=⟨229,2,[S 0 0 1 1,Z 1 6],[r6b1,r6b16],Tu [Z 247 1,.bool true,i 0],249,[r6b17]⟩
def r6r16:Rec:=⟨229,2,[S 0 0 1 1,Z 1 6],[r6b1,r6b18],Tu [Z 247 1,.bool true,i 0],249,[r6b17]⟩
def r6r17:Rec:=⟨229,2,[S 0 0 1 1,Z 1 9],[r6b1,r6b19],Tu [.slice none 0 0,.bool false,i 0],377,[]⟩
def r6r18:Rec:=⟨229,2,[S 0 0 1 1,Z 1 9],[r6b1,r6b20],Tu [.slice none 0 0,.bool false,i 0],377,[]⟩
def r6r19:Rec:=⟨229,2,[S 0 0 1 1,Z 1 9],[r6b1,r6b21],Tu [.slice none 0 0,.bool false,i 0],377,[]⟩
def r6r20:Rec:=⟨229,2,[S 0 0 1 1,Z 1 9],[r6b1,r6b22],Tu [.slice none 0 0,.bool false,i 0],377,[]⟩
def r6r21:Rec:=⟨229,2,[S 0 0 1 1,Z 1 9],[r6b1,r6b23],Tu [.slice none 0 0,.bool false,i 0],377,[]⟩
def r6r22:Rec:=⟨229,2,[S 0 0 1 1,Z 1 9],[r6b1,r6b24],Tu [.slice none 0 0,.bool false,i 0],377,[]⟩
def r6r23:Rec:=⟨229,2,[S 0 0 1 1,Z 1 6],[r6b1,r6b25],Tu [.slice none 0 0,.bool false,i 0],242,[]⟩
def r6r24:Rec:=⟨229,2,[S 0 0 1 1,Z 1 6],[r6b1,r6b26],Tu [.slice none 0 0,.bool false,i 0],242,[]⟩
def r6r25:Rec:=⟨229,2,[S 0 0 1 1,Z 1 9],[r6b1,r6b27],Tu [.slice none 0 0,.bool false,i 0],377,[]⟩
def r6r26:Rec:=⟨229,2,[S 0 0 1 1,Z 1 9],[r6b1,r6b28],Tu [.slice none 0 0,.bool false,i 0],377,[]⟩
def r6r27:Rec:=⟨229,2,[S 0 0 1 1,Z 1 9],[r6b1,r6b29],Tu [.slice none 0 0,.bool false,i 0],377,[]⟩
def r6r28:Rec:=⟨229,2,[S 0 0 1 1,Z 1 9],[r6b1,r6b30],Tu [.slice none 0 0,.bool false,i 0],377,[]⟩
def r6r29:Rec:=⟨229,2,[S 0 0 1 1,Z 1 9],[r6b1,r6b31],Tu [.slice none 0 0,.bool false,i 0],377,[]⟩
def r6r30:Rec:=⟨229,2,[S 0 0 1 1,Z 1 9],[r6b1,r6b32],Tu [.slice none 0 0,.bool false,i 0],377,[]⟩
def r6r31:Rec:=⟨229,2,[S 0 0 1 1,Z 1 6],[r6b1,r6b33],Tu [.slice none 0 0,.bool false,i 0],242,[]⟩
def r6r32:Rec:=⟨229,2,[S 0 0 1 1,Z 1 6],[kcm,r6b0],Tu [.slice none 0 0,.bool false,i 0],242,[]⟩
def r6r33:Rec:=⟨229,2,[S 0 0 1 1,Z 1 9],[kcm,r6b2],Tu [.slice none 0 0,.bool false,i 0],377,[]⟩
def r6r34:Rec:=⟨229,2,[S 0 0 1 1,Z 1 9],[kcm,r6b3],Tu [.slice none 0 0,.bool false,i 0],377,[]⟩
def r6r35:Rec:=⟨229,2,[S 0 0 1 1,Z 1 9],[kcm,r6b4],Tu [.slice none 0 0,.bool false,i 0],377,[]⟩
def r6r36:Rec:=⟨229,2,[S 0 0 1 1,Z 1 9],[kcm,r6b5],Tu [.slice none 0 0,.bool false,i 0],377,[]⟩
def r6r37:Rec:=⟨229,2,[S 0 0 1 1,Z 1 9],[kcm,r6b6],Tu [.slice none 0 0,.bool false,i 0],377,[]⟩
def r6r38:Rec:=⟨229,2,[S 0 0 1 1,Z 1 9],[kcm,r6b7],Tu [.slice none 0 0,.bool false,i 0],377,[]⟩
def r6r39:Rec:=⟨229,2,[S 0 0 1 1,Z 1 6],[kcm,r6b8],Tu [.slice none 0 0,.bool false,i 0],242,[]⟩
def r6r40:Rec:=⟨229,2,[S 0 0 1 1,Z 1 6],[kcm,r6b9],Tu [.slice none 0 0,.bool false,i 0],242,[]⟩
def r6r41:Rec:=⟨229,2,[S 0 0 1 1,Z 1 9],[kcm,r6b10],Tu [.slice none 0 0,.bool false,i 0],377,[]⟩
def r6r42:Rec:=⟨229,2,[S 0 0 1 1,Z 1 9],[kcm,r6b11],Tu [.slice none 0 0,.bool false,i 0],377,[]⟩
def r6r43:Rec:=⟨229,2,[S 0 0 1 1,Z 1 9],[kcm,r6b12],Tu [.slice none 0 0,.bool false,i 0],377,[]⟩
def r6r44:Rec:=⟨229,2,[S 0 0 1 1,Z 1 9],[kcm,r6b13],Tu [.slice none 0 0,.bool false,i 0],377,[]⟩
def r6r45:Rec:=⟨229,2,[S 0 0 1 1,Z 1 9],[kcm,r6b14],Tu [.slice none 0 0,.bool false,i 0],377,[]⟩
def r6r46:Rec:=⟨229,2,[S 0 0 1 1,Z 1 9],[kcm,r6b15],Tu [.slice none 0 0,.bool false,i 0],377,[]⟩
def r6r47:Rec:=⟨229,2,[S 0 0 1 1,Z 1 6],[kcm,r6b16],Tu [.slice none 0 0,.bool false,i 0],242,[]⟩
def r6r48:Rec:=⟨229,2,[S 0 0 1 1,Z 1 6],[kcm,r6b18],Tu [.slice none 0 0,.bool false,i 0],242,[]⟩
def r6r49:Rec:=⟨229,2,[S 0 0 1 1,Z 1 9],[kcm,r6b19],Tu [.slice none 0 0,.bool false,i 0],377,[]⟩
def r6r50:Rec:=⟨229,2,[S 0 0 1 1,Z 1 9],[kcm,r6b20],Tu [.slice none 0 0,.bool false,i 0],377,[]⟩
def r6r51:Rec:=⟨229,2,[S 0 0 1 1,Z 1 9],[kcm,r6b21],Tu [.slice none 0 0,.bool false,i 0],377,[]⟩
def r6r52:Rec:=⟨229,2,[S 0 0 1 1,Z 1 9],[kcm,r6b22],Tu [.slice none 0 0,.bool false,i 0],377,[]⟩
def r6r53:Rec:=⟨229,2,[S 0 0 1 1,Z 1 9],[kcm,r6b23],Tu [.slice none 0 0,.bool false,i 0],377,[]⟩
def r6r54:Rec:=⟨229,2,[S 0 0 1 1,Z 1 9],[kcm,r6b24],Tu [.slice none 0 0,.bool false,i 0],377,[]⟩
def r6r55:Rec:=⟨229,2,[S 0 0 1 1,Z 1 6],[kcm,r6b25],Tu [.slice none 0 0,.bool false,i 0],242,[]⟩
def r6r56:Rec:=⟨229,2,[S 0 0 1 1,Z 1 6],[kcm,r6b26],Tu [.slice none 0 0,.bool false,i 0],242,[]⟩
def r6r57:Rec:=⟨229,2,[S 0 0 1 1,Z 1 9],[kcm,r6b27],Tu [.slice none 0 0,.bool false,i 0],377,[]⟩
def r6r58:Rec:=⟨229,2,[S 0 0 1 1,Z 1 9],[kcm,r6b28],Tu [.slice none 0 0,.bool false,i 0],377,[]⟩
def r6r59:Rec:=⟨229,2,[S 0 0 1 1,Z 1 9],[kcm,r6b29],Tu [.slice none 0 0,.bool false,i 0],377,[]⟩
def r6r60:Rec:=⟨229,2,[S 0 0 1 1,Z 1 9],[kcm,r6b30],Tu [.slice none 0 0,.bool false,i 0],377,[]⟩
def r6r61:Rec:=⟨229,2,[S 0 0 1 1,Z 1 9],[kcm,r6b31],Tu [.slice none 0 0,.bool false,i 0],377,[]⟩
def r6r62:Rec:=⟨229,2,[S 0 0 1 1,Z 1 9],[kcm,r6b32],Tu [.slice none 0 0,.bool false,i 0],377,[]⟩
def r6r63:Rec:=⟨229,2,[S 0 0 1 1,Z 1 6],[kcm,r6b33],Tu [.slice none 0 0,.bool false,i 0],242,[]⟩
def r6r64:Rec:=⟨229,2,[S 0 0 1 1,Z 1 4],[(0,pp [(7,7)],43,false),(1,p32q,43,true)],Tu [Z 167 1,.bool true,i 0],169,[(167,pp [(7,7)],43,true)]⟩
theorem r6q0:List.all [r6r0,r6r1,r6r2,r6r3,r6r4,r6r5,r6r6,r6r7,r6r8,r6r9,r6r10,r6r11,r6r12,r6r13,r6r14,r6r15,r6r16,r6r17,r6r18,r6r19,r6r20] (okB kmg)=true:=by kernel_rfl
theorem r6q1:List.all [r6r21,r6r22,r6r23,r6r24,r6r25,r6r26,r6r27,r6r28,r6r29,r6r30,r6r31,r6r32,r6r33,r6r34,r6r35,r6r36,r6r37,r6r38,r6r39,r6r40,r6r41] (okB kmg)=true:=by kernel_rfl
theorem r6q2:List.all [r6r42,r6r43,r6r44,r6r45,r6r46,r6r47,r6r48,r6r49,r6r50,r6r51,r6r52,r6r53,r6r54,r6r55,r6r56,r6r57,r6r58,r6r59,r6r60,r6r61,r6r62] (okB kmg)=true:=by kernel_rfl
theorem r6q3:List.all [r6r63,r6r64] (okB kmg)=true:=by kernel_rfl
def r6t0:Word:=orIf (ltK (14000028)) (kag (kaa r6r0) (kag (kaa r6r1) (kag (kaa r6r10) (kag (kaa r6r11) (kag (kaa r6r12) (kag (kaa r6r13) (kag (kaa r6r14) (kag (kaa r6r15) (kag (kaa r6r16) (kag (kaa r6r17) (kag (kaa r6r18) (kag (kaa r6r19) (kag (kaa r6r2) (kag (kaa r6r20) (kag (kaa r6r21) (kag (kaa r6r22) (kag (kaa r6r23) (kag (kaa r6r24) (kag (kaa r6r25) (kag (kaa r6r26) (kag (kaa r6r27) (kag (kaa r6r28) (kag (kaa r6r29) (kag (kaa r6r3) (kag (kaa r6r30) (kag (kaa r6r31) (kag (kaa r6r32) (kag (kaa r6r33) (kag (kaa r6r34) (kag (kaa r6r35) (kag (kaa r6r36) (kag (kaa r6r37) (kag (kaa r6r38) (kag (kaa r6r39) (kag (kaa r6r4) (kag (kaa r6r40) (kag (kaa r6r41) (kag (kaa r6r42) (kag (kaa r6r43) (kag (kaa r6r44) (kag (kaa r6r45) (kag (kaa r6r46) (kag (kaa r6r47) (kag (kaa r6r48) (kag (kaa r6r49) (kag (kaa r6r5) (kag (kaa r6r50) (kag (kaa r6r51) (kag (kaa r6r52) (kag (kaa r6r53) (kag (kaa r6r54) (kag (kaa r6r55) (kag (kaa r6r56) (kag (kaa r6r57) (kag (kaa r6r58) (kag (kaa r6r59) (kag (kaa r6r6) (kag (kaa r6r60) (kag (kaa r6r61) (kag (kaa r6r62) (kag (kaa r6r63) (kag (kaa r6r7) (kag (kaa r6r8) (kaa r6r9)))))))))))))))))))))))))))))))))))))))))))))))))))))))))))))))) (kaa r6r64)
theorem r6t0_good:Good Tryz.prog 229 r6t0:=Good.ite (Good.or (gd kac r6q0 0) (Good.or (gd kac r6q0 1) (Good.or (gd kac r6q0 10) (Good.or (gd kac r6q0 11) (Good.or (gd kac r6q0 12) (Good.or (gd kac r6q0 13) (Good.or (gd kac r6q0 14) (Good.or (gd kac r6q0 15) (Good.or (gd kac r6q0 16) (Good.or (gd kac r6q0 17) (Good.or (gd kac r6q0 18) (Good.or (gd kac r6q0 19) (Good.or (gd kac r6q0 2) (Good.or (gd kac r6q0 20) (Good.or (gd kac r6q1 0) (Good.or (gd kac r6q1 1) (Good.or (gd kac r6q1 2) (Good.or (gd kac r6q1 3) (Good.or (gd kac r6q1 4) (Good.or (gd kac r6q1 5) (Good.or (gd kac r6q1 6) (Good.or (gd kac r6q1 7) (Good.or (gd kac r6q1 8) (Good.or (gd kac r6q0 3) (Good.or (gd kac r6q1 9) (Good.or (gd kac r6q1 10) (Good.or (gd kac r6q1 11) (Good.or (gd kac r6q1 12) (Good.or (gd kac r6q1 13) (Good.or (gd kac r6q1 14) (Good.or (gd kac r6q1 15) (Good.or (gd kac r6q1 16) (Good.or (gd kac r6q1 17) (Good.or (gd kac r6q1 18) (Good.or (gd kac r6q0 4) (Good.or (gd kac r6q1 19) (Good.or (gd kac r6q1 20) (Good.or (gd kac r6q2 0) (Good.or (gd kac r6q2 1) (Good.or (gd kac r6q2 2) (Good.or (gd kac r6q2 3) (Good.or (gd kac r6q2 4) (Good.or (gd kac r6q2 5) (Good.or (gd kac r6q2 6) (Good.or (gd kac r6q2 7) (Good.or (gd kac r6q0 5) (Good.or (gd kac r6q2 8) (Good.or (gd kac r6q2 9) (Good.or (gd kac r6q2 10) (Good.or (gd kac r6q2 11) (Good.or (gd kac r6q2 12) (Good.or (gd kac r6q2 13) (Good.or (gd kac r6q2 14) (Good.or (gd kac r6q2 15) (Good.or (gd kac r6q2 16) (Good.or (gd kac r6q2 17) (Good.or (gd kac r6q0 6) (Good.or (gd kac r6q2 18) (Good.or (gd kac r6q2 19) (Good.or (gd kac r6q2 20) (Good.or (gd kac r6q3 0) (Good.or (gd kac r6q0 7) (Good.or (gd kac r6q0 8) (gd kac r6q0 9)))))))))))))))))))))))))))))))))))))))))))))))))))))))))))))))) (gd kac r6q3 1)
def words6:List (FuncId × Word):=(229,r6t0)::kmg
theorem kdh:∀x∈words6,Good Tryz.prog x.1 x.2:=by
 intro x hx;unfold words6 at hx
 rcases List.mem_cons.1 hx with rfl|hx
 ·exact r6t0_good
 exact kac x hx
end
end Go.Ev
