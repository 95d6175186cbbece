/- What runs found: ray.Sector. Conditions: none. Printed by wip/genR.py. -/
import Derived.Test.YtcgghcicnanliaaGreatDoorM28
set_option linter.unusedVariables false
set_option linter.unusedSimpArgs false
namespace Go.Ev
open Go.Proofs Go.Proofs.YtcgghcicnanliaaGreatDoor
noncomputable section
set_option maxRecDepth 100000
def r3r0:Rec:=⟨343,0,[i 0,i 2,A [i 90,i 110]],[],Tu [Z 398 6,i 0],400,[(398,p33q,43,true)]⟩
def r3r1:Rec:=⟨343,0,[i 2,i 2,A [i 90,i 110]],[],Tu [Z 407 9,i 0],409,[(407,p34q,43,true)]⟩
def r3r2:Rec:=⟨343,0,[i 4,i 2,A [i 90,i 110]],[],Tu [Z 407 9,i 0],409,[(407,p35q,43,true)]⟩
def r3r3:Rec:=⟨343,0,[i 6,i 2,A [i 90,i 110]],[],Tu [Z 407 9,i 0],409,[(407,p36q,43,true)]⟩
def r3r4:Rec:=⟨343,0,[i 8,i 2,A [i 90,i 110]],[],Tu [Z 399 9,i 0],401,[(399,p37q,43,true)]⟩
def r3r5:Rec:=⟨343,0,[i 10,i 2,A [i 90,i 110]],[],Tu [Z 399 9,i 0],401,[(399,p38q,43,true)]⟩
def r3r6:Rec:=⟨343,0,[i 12,i 2,A [i 90,i 110]],[],Tu [Z 424 9,i 0],426,[(424,p39q,43,true)]⟩
def r3r7:Rec:=⟨343,0,[i 14,i 2,A [i 90,i 110]],[],Tu [Z 396 6,i 0],398,[(396,p40q,43,true)]⟩
def r3r8:Rec:=⟨343,0,[i 16,i 2,A [i 90,i 110]],[],Tu [Z 374 6,i 0],376,[(374,p41q,43,true)]⟩
def r3r9:Rec:=⟨343,0,[i 18,i 2,A [i 90,i 110]],[],Tu [Z 380 9,i 0],382,[(380,p42q,43,true)]⟩
def r3r10:Rec:=⟨343,0,[i 20,i 2,A [i 90,i 110]],[],Tu [Z 390 9,i 0],392,[(390,p43q,43,true)]⟩
def r3r11:Rec:=⟨343,0,[i 22,i 2,A [i 90,i 110]],[],Tu [Z 390 9,i 0],392,[(390,p44q,43,true)]⟩
def r3r12:Rec:=⟨343,0,[i 24,i 2,A [i 90,i 110]],[],Tu [Z 382 9,i 0],384,[(382,p45q,43,true)]⟩
def r3r13:Rec:=⟨343,0,[i 26,i 2,A [i 90,i 110]],[],Tu [Z 382 9,i 0],384,[(382,p46q,43,true)]⟩
def r3r14:Rec:=⟨343,0,[i 28,i 2,A [i 90,i 110]],[],Tu [Z 382 9,i 0],384,[(382,p47q,43,true)]⟩
def r3r15:Rec:=⟨343,0,[i 30,i 2,A [i 90,i 110]],[],Tu [Z 353 6,i 0],355,[(353,p48q,43,true)]⟩
def r3r16:Rec:=⟨343,0,[i 32,i 2,A [i 90,i 110]],[],Tu [Z 417 6,i 0],419,[(417,p49q,43,true)]⟩
def r3r17:Rec:=⟨343,0,[i 34,i 2,A [i 90,i 110]],[],Tu [Z 470 9,i 0],472,[(470,p50q,43,true)]⟩
def r3r18:Rec:=⟨343,0,[i 36,i 2,A [i 90,i 110]],[],Tu [Z 470 9,i 0],472,[(470,p51q,43,true)]⟩
def r3r19:Rec:=⟨343,0,[i 38,i 2,A [i 90,i 110]],[],Tu [Z 470 9,i 0],472,[(470,p52q,43,true)]⟩
def r3r20:Rec:=⟨343,0,[i 40,i 2,A [i 90,i 110]],[],Tu [Z 440 9,i 0],442,[(440,p53q,43,true)]⟩
def r3r21:Rec:=⟨343,0,[i 42,i 2,A [i 90,i 110]],[],Tu [Z 440 9,i 0],442,[(440,p54q,43,true)]⟩
def r3r22:Rec:=⟨343,0,[i 44,i 2,A [i 90,i 110]],[],Tu [Z 430 9,i 0],432,[(430,p55q,43,true)]⟩
def r3r23:Rec:=⟨343,0,[i 46,i 2,A [i 90,i 110]],[],Tu [Z 404 6,i 0],406,[(404,p56q,43,true)]⟩
def r3r24:Rec:=⟨343,0,[i 48,i 2,A [i 90,i 110]],[],Tu [Z 374 6,i 0],376,[(374,p57q,43,true)]⟩
def r3r25:Rec:=⟨343,0,[i 50,i 2,A [i 90,i 110]],[],Tu [Z 382 9,i 0],384,[(382,p58q,43,true)]⟩
def r3r26:Rec:=⟨343,0,[i 52,i 2,A [i 90,i 110]],[],Tu [Z 362 9,i 0],364,[(362,p59q,43,true)]⟩
def r3r27:Rec:=⟨343,0,[i 54,i 2,A [i 90,i 110]],[],Tu [Z 362 9,i 0],364,[(362,p60q,43,true)]⟩
def r3r28:Rec:=⟨343,0,[i 56,i 2,A [i 90,i 110]],[],Tu [Z 302 9,i 0],304,[(302,p61q,43,true)]⟩
def r3r29:Rec:=⟨343,0,[i 58,i 2,A [i 90,i 110]],[],Tu [Z 302 9,i 0],304,[(302,p62q,43,true)]⟩
def r3r30:Rec:=⟨343,0,[i 60,i 2,A [i 90,i 110]],[],Tu [Z 302 9,i 0],304,[(302,p63q,43,true)]⟩
def r3r31:Rec:=⟨343,0,[i 62,i 2,A [i 90,i 110]],[],Tu [Z 277 6,i 0],279,[(277,p64q,43,true)]⟩
theorem r3q0:List.all [r3r0,r3r1,r3r2,r3r3,r3r4] (okB kgs)=true:=by kernel_rfl
theorem r3q1:List.all [r3r5,r3r6,r3r7,r3r8] (okB kgs)=true:=by kernel_rfl
theorem r3q2:List.all [r3r9,r3r10,r3r11,r3r12] (okB kgs)=true:=by kernel_rfl
theorem r3q3:List.all [r3r13,r3r14,r3r15,r3r16] (okB kgs)=true:=by kernel_rfl
theorem r3q4:List.all [r3r17,r3r18,r3r19,r3r20] (okB kgs)=true:=by kernel_rfl
theorem r3q5:List.all [r3r21,r3r22,r3r23,r3r24] (okB kgs)=true:=by kernel_rfl
theorem r3q6:List.all [r3r25,r3r26,r3r27,r3r28] (okB kgs)=true:=by kernel_rfl
theorem r3q7:List.all [r3r29,r3r30,r3r31] (okB kgs)=true:=by kernel_rfl
def kcy:List (FuncId × Word):=(343,(kag (kaa r3r0) (kag (kaa r3r1) (kag (kaa r3r2) (kag (kaa r3r3) (kag (kaa r3r4) (kag (kaa r3r5) (kag (kaa r3r6) (kag (kaa r3r7) (kag (kaa r3r8) (kag (kaa r3r9) (kag (kaa r3r10) (kag (kaa r3r11) (kag (kaa r3r12) (kag (kaa r3r13) (kag (kaa r3r14) (kag (kaa r3r15) (kag (kaa r3r16) (kag (kaa r3r17) (kag (kaa r3r18) (kag (kaa r3r19) (kag (kaa r3r20) (kag (kaa r3r21) (kag (kaa r3r22) (kag (kaa r3r23) (kag (kaa r3r24) (kag (kaa r3r25) (kag (kaa r3r26) (kag (kaa r3r27) (kag (kaa r3r28) (kag (kaa r3r29) (kag (kaa r3r30) (kaa r3r31)))))))))))))))))))))))))))))))))::kgs
theorem kaj:∀x∈kcy,Good Tryz.prog x.1 x.2:=by
 intro x hx;unfold kcy at hx
 rcases List.mem_cons.1 hx with rfl|hx
 ·exact(Good.or (gd kal r3q0 0) (Good.or (gd kal r3q0 1) (Good.or (gd kal r3q0 2) (Good.or (gd kal r3q0 3) (Good.or (gd kal r3q0 4) (Good.or (gd kal r3q1 0) (Good.or (gd kal r3q1 1) (Good.or (gd kal r3q1 2) (Good.or (gd kal r3q1 3) (Good.or (gd kal r3q2 0) (Good.or (gd kal r3q2 1) (Good.or (gd kal r3q2 2) (Good.or (gd kal r3q2 3) (Good.or (gd kal r3q3 0) (Good.or (gd kal r3q3 1) (Good.or (gd kal r3q3 2) (Good.or (gd kal r3q3 3) (Good.or (gd kal r3q4 0) (Good.or (gd kal r3q4 1) (Good.or (gd kal r3q4 2) (Good.or (gd kal r3q4 3) (Good.or (gd kal r3q5 0) (Good.or (gd kal r3q5 1) (Good.or (gd kal r3q5 2) (Good.or (gd kal r3q5 3) (Good.or (gd kal r3q6 0) (Good.or (gd kal r3q6 1) (Good.or (gd kal r3q6 2) (Good.or (gd kal r3q6 3) (Good.or (gd kal r3q7 0) (Good.or (gd kal r3q7 1) (gd kal r3q7 2))))))))))))))))))))))))))))))))
 exact kal x hx
end
end Go.Ev
