/- What runs found: hull.Valid. Conditions: none. Printed by wip/genR.py. -/
import Derived.Test.YtcgghcicnanliaaGreatDoorM24
set_option linter.unusedVariables false
set_option linter.unusedSimpArgs false
namespace Go.Ev
open Go.Proofs Go.Proofs.YtcgghcicnanliaaGreatDoor
noncomputable section
set_option maxRecDepth 100000
def r1r0:Rec:=⟨146,1,[S 0 0 1 1],[(0,pp [(0,0)],43,false)],.bool true,4,[]⟩
def r1r1:Rec:=⟨146,1,[S 0 0 1 1],[(0,pp [(40,0)],43,false)],.bool true,4,[]⟩
def r1r2:Rec:=⟨146,1,[Z 0 6],[(0,p33q,43,true)],.bool true,66,[]⟩
def r1r3:Rec:=⟨146,1,[Z 0 6],[(0,p0q,43,true)],.bool true,66,[]⟩
def r1r4:Rec:=⟨146,1,[Z 0 9],[(0,p34q,43,true)],.bool true,123,[]⟩
def r1r5:Rec:=⟨146,1,[Z 0 9],[(0,p1q,43,true)],.bool true,123,[]⟩
def r1r6:Rec:=⟨146,1,[Z 0 9],[(0,p35q,43,true)],.bool true,123,[]⟩
def r1r7:Rec:=⟨146,1,[Z 0 9],[(0,p2q,43,true)],.bool true,123,[]⟩
def r1r8:Rec:=⟨146,1,[Z 0 9],[(0,p36q,43,true)],.bool true,123,[]⟩
def r1r9:Rec:=⟨146,1,[Z 0 9],[(0,p3q,43,true)],.bool true,123,[]⟩
def r1r10:Rec:=⟨146,1,[Z 0 9],[(0,p37q,43,true)],.bool true,123,[]⟩
def r1r11:Rec:=⟨146,1,[Z 0 9],[(0,p4q,43,true)],.bool true,123,[]⟩
def r1r12:Rec:=⟨146,1,[Z 0 9],[(0,p38q,43,true)],.bool true,123,[]⟩
def r1r13:Rec:=⟨146,1,[Z 0 9],[(0,p5q,43,true)],.bool true,123,[]⟩
def r1r14:Rec:=⟨146,1,[Z 0 9],[(0,p39q,43,true)],.bool true,123,[]⟩
def r1r15:Rec:=⟨146,1,[Z 0 9],[(0,p6q,43,true)],.bool true,123,[]⟩
def r1r16:Rec:=⟨146,1,[Z 0 6],[(0,p40q,43,true)],.bool true,66,[]⟩
def r1r17:Rec:=⟨146,1,[Z 0 6],[(0,p7q,43,true)],.bool true,66,[]⟩
def r1r18:Rec:=⟨146,1,[Z 0 6],[(0,p41q,43,true)],.bool true,66,[]⟩
def r1r19:Rec:=⟨146,1,[Z 0 6],[(0,p8q,43,true)],.bool true,66,[]⟩
def r1r20:Rec:=⟨146,1,[Z 0 9],[(0,p42q,43,true)],.bool true,123,[]⟩
def r1r21:Rec:=⟨146,1,[Z 0 9],[(0,p9q,43,true)],.bool true,123,[]⟩
def r1r22:Rec:=⟨146,1,[Z 0 9],[(0,p43q,43,true)],.bool true,123,[]⟩
def r1r23:Rec:=⟨146,1,[Z 0 9],[(0,p10q,43,true)],.bool true,123,[]⟩
def r1r24:Rec:=⟨146,1,[Z 0 9],[(0,p44q,43,true)],.bool true,123,[]⟩
def r1r25:Rec:=⟨146,1,[Z 0 9],[(0,p11q,43,true)],.bool true,123,[]⟩
def r1r26:Rec:=⟨146,1,[Z 0 9],[(0,p45q,43,true)],.bool true,123,[]⟩
def r1r27:Rec:=⟨146,1,[Z 0 9],[(0,p12q,43,true)],.bool true,123,[]⟩
def r1r28:Rec:=⟨146,1,[Z 0 9],[(0,p46q,43,true)],.bool true,123,[]⟩
def r1r29:Rec:=⟨146,1,[Z 0 9],[(0,p13q,43,true)],.bool true,123,[]⟩
def r1r30:Rec:=⟨146,1,[Z 0 9],[(0,p47q,43,true)],.bool true,123,[]⟩
def r1r31:Rec:=⟨146,1,[Z 0 9],[(0,p14q,43,true)],.bool true,123,[]⟩
def r1r32:Rec:=⟨146,1,[Z 0 6],[(0,p48q,43,true)],.bool true,66,[]⟩
def r1r33:Rec:=⟨146,1,[Z 0 6],[(0,p15q,43,true)],.bool true,66,[]⟩
def r1r34:Rec:=⟨146,1,[Z 0 6],[(0,p49q,43,true)],.bool true,66,[]⟩
def r1r35:Rec:=⟨146,1,[Z 0 6],[(0,p16q,43,true)],.bool true,66,[]⟩
def r1r36:Rec:=⟨146,1,[Z 0 9],[(0,p50q,43,true)],.bool true,123,[]⟩
def r1r37:Rec:=⟨146,1,[Z 0 9],[(0,p17q,43,true)],.bool true,123,[]⟩
def r1r38:Rec:=⟨146,1,[Z 0 9],[(0,p51q,43,true)],.bool true,123,[]⟩
def r1r39:Rec:=⟨146,1,[Z 0 9],[(0,p18q,43,true)],.bool true,123,[]⟩
def r1r40:Rec:=⟨146,1,[Z 0 9],[(0,p52q,43,true)],.bool true,123,[]⟩
def r1r41:Rec:=⟨146,1,[Z 0 9],[(0,p19q,43,true)],.bool true,123,[]⟩
def r1r42:Rec:=⟨146,1,[Z 0 9],[(0,p53q,43,true)],.bool true,123,[]⟩
def r1r43:Rec:=⟨146,1,[Z 0 9],[(0,p20q,43,true)],.bool true,123,[]⟩
def r1r44:Rec:=⟨146,1,[Z 0 9],[(0,p54q,43,true)],.bool true,123,[]⟩
def r1r45:Rec:=⟨146,1,[Z 0 9],[(0,p21q,43,true)],.bool true,123,[]⟩
def r1r46:Rec:=⟨146,1,[Z 0 9],[(0,p55q,43,true)],.bool true,123,[]⟩
def r1r47:Rec:=⟨146,1,[Z 0 9],[(0,p22q,43,true)],.bool true,123,[]⟩
def r1r48:Rec:=⟨146,1,[Z 0 6],[(0,p56q,43,true)],.bool true,66,[]⟩
def r1r49:Rec:=⟨146,1,[Z 0 6],[(0,p23q,43,true)],.bool true,66,[]⟩
def r1r50:Rec:=⟨146,1,[Z 0 6],[(0,p57q,43,true)],.bool true,66,[]⟩
def r1r51:Rec:=⟨146,1,[Z 0 6],[(0,p24q,43,true)],.bool true,66,[]⟩
def r1r52:Rec:=⟨146,1,[Z 0 9],[(0,p58q,43,true)],.bool true,123,[]⟩
def r1r53:Rec:=⟨146,1,[Z 0 9],[(0,p25q,43,true)],.bool true,123,[]⟩
def r1r54:Rec:=⟨146,1,[Z 0 9],[(0,p59q,43,true)],.bool true,123,[]⟩
def r1r55:Rec:=⟨146,1,[Z 0 9],[(0,p26q,43,true)],.bool true,123,[]⟩
def r1r56:Rec:=⟨146,1,[Z 0 9],[(0,p60q,43,true)],.bool true,123,[]⟩
def r1r57:Rec:=⟨146,1,[Z 0 9],[(0,p27q,43,true)],.bool true,123,[]⟩
def r1r58:Rec:=⟨146,1,[Z 0 9],[(0,p61q,43,true)],.bool true,123,[]⟩
def r1r59:Rec:=⟨146,1,[Z 0 9],[(0,p28q,43,true)],.bool true,123,[]⟩
def r1r60:Rec:=⟨146,1,[Z 0 9],[(0,p62q,43,true)],.bool true,123,[]⟩
def r1r61:Rec:=⟨146,1,[Z 0 9],[(0,p29q,43,true)],.bool true,123,[]⟩
def r1r62:Rec:=⟨146,1,[Z 0 9],[(0,p63q,43,true)],.bool true,123,[]⟩
def r1r63:Rec:=⟨146,1,[Z 0 9],[(0,p30q,43,true)],.bool true,123,[]⟩
def r1r64:Rec:=⟨146,1,[Z 0 6],[(0,p64q,43,true)],.bool true,66,[]⟩
def r1r65:Rec:=⟨146,1,[Z 0 6],[(0,p31q,43,true)],.bool true,66,[]⟩
def r1r66:Rec:=⟨146,1,[Z 0 1],[(0,pp [(0,0)],43,true)],.bool true,4,[]⟩
def r1r67:Rec:=⟨146,1,[S 0 0 1 1],[(0,pp [(7,7)],43,false)],.bool true,4,[]⟩
def r1r68:Rec:=⟨146,1,[Z 0 4],[(0,p32q,43,true)],.bool true,38,[]⟩
def r1r69:Rec:=⟨146,1,[S 0 0 1 1],[(0,pp [(70,7)],43,false)],.bool true,4,[]⟩
def r1r70:Rec:=⟨146,1,[Z 0 1],[(0,pp [(7,7)],43,true)],.bool true,4,[]⟩
def r1r71:Rec:=⟨146,1,[Z 0 1],[(0,pp [(70,7)],43,true)],.bool true,4,[]⟩
theorem r1q0:List.all [r1r0,r1r1,r1r2,r1r3,r1r4,r1r5,r1r6,r1r7,r1r8] (okB kfv)=true:=by kernel_rfl
theorem r1q1:List.all [r1r9,r1r10,r1r11,r1r12,r1r13,r1r14] (okB kfv)=true:=by kernel_rfl
theorem r1q2:List.all [r1r15,r1r16,r1r17,r1r18,r1r19,r1r20,r1r21,r1r22] (okB kfv)=true:=by kernel_rfl
theorem r1q3:List.all [r1r23,r1r24,r1r25,r1r26,r1r27,r1r28] (okB kfv)=true:=by kernel_rfl
theorem r1q4:List.all [r1r29,r1r30,r1r31,r1r32,r1r33,r1r34,r1r35,r1r36] (okB kfv)=true:=by kernel_rfl
theorem r1q5:List.all [r1r37,r1r38,r1r39,r1r40,r1r41,r1r42] (okB kfv)=true:=by kernel_rfl
theorem r1q6:List.all [r1r43,r1r44,r1r45,r1r46,r1r47,r1r48,r1r49,r1r50] (okB kfv)=true:=by kernel_rfl
theorem r1q7:List.all [r1r51,r1r52,r1r53,r1r54,r1r55,r1r56,r1r57] (okB kfv)=true:=by kernel_rfl
theorem r1q8:List.all [r1r58,r1r59,r1r60,r1r61,r1r62,r1r63,r1r64] (okB kfv)=true:=by kernel_rfl
theorem r1q9:List.all [r1r65,r1r66,r1r67,r1r68,r1r69,r1r70,r1r71] (okB kfv)=true:=by kernel_rfl
def r1t0:Word:=orIf (ltK (-218000306)) (kaa r1r36) (kaa r1r30)
theorem r1t0_good:Good Tryz.prog 146 r1t0:=Good.ite (gd kar r1q4 7) (gd kar r1q4 1)
def r1t1:Word:=orIf (ltK (-218000349)) (kag (kaa r1r32) (kaa r1r34)) r1t0
theorem r1t1_good:Good Tryz.prog 146 r1t1:=Good.ite (Good.or (gd kar r1q4 3) (gd kar r1q4 5)) r1t0_good
def r1t2:Word:=orIf (ltK (-204000264)) (kaa r1r38) (kaa r1r28)
theorem r1t2_good:Good Tryz.prog 146 r1t2:=Good.ite (gd kar r1q5 1) (gd kar r1q3 5)
def r1t3:Word:=orIf (ltK (-156000312)) (kaa r1r26) (kaa r1r42)
theorem r1t3_good:Good Tryz.prog 146 r1t3:=Good.ite (gd kar r1q3 3) (gd kar r1q5 5)
def r1t4:Word:=orIf (ltK (-184000215)) (kaa r1r40) r1t3
theorem r1t4_good:Good Tryz.prog 146 r1t4:=Good.ite (gd kar r1q5 3) r1t3_good
def r1t5:Word:=orIf (ltK (-184000338)) r1t2 r1t4
theorem r1t5_good:Good Tryz.prog 146 r1t5:=Good.ite r1t2_good r1t4_good
def r1t6:Word:=orIf (ltK (-204000349)) r1t1 r1t5
theorem r1t6_good:Good Tryz.prog 146 r1t6:=Good.ite r1t1_good r1t5_good
def r1t7:Word:=orIf (ltK (-124000278)) (kaa r1r24) (kaa r1r44)
theorem r1t7_good:Good Tryz.prog 146 r1t7:=Good.ite (gd kar r1q3 1) (gd kar r1q6 1)
def r1t8:Word:=orIf (ltK (-86000231)) (kaa r1r22) (kaa r1r46)
theorem r1t8_good:Good Tryz.prog 146 r1t8:=Good.ite (gd kar r1q2 7) (gd kar r1q6 3)
def r1t9:Word:=orIf (ltK (-124000095)) r1t7 r1t8
theorem r1t9_good:Good Tryz.prog 146 r1t9:=Good.ite r1t7_good r1t8_good
def r1t10:Word:=orIf (ltK (-44000175)) (kaa r1r20) (kaa r1r48)
theorem r1t10_good:Good Tryz.prog 146 r1t10:=Good.ite (gd kar r1q2 5) (gd kar r1q6 5)
def r1t11:Word:=orIf (ltK (-22000033)) (kaa r1r18) (kag (kaa r1r33) (kaa r1r35))
theorem r1t11_good:Good Tryz.prog 146 r1t11:=Good.ite (gd kar r1q2 3) (Good.or (gd kar r1q4 4) (gd kar r1q4 6))
def r1t12:Word:=orIf (ltK (-43999958)) r1t10 r1t11
theorem r1t12_good:Good Tryz.prog 146 r1t12:=Good.ite r1t10_good r1t11_good
def r1t13:Word:=orIf (ltK (-86000028)) r1t9 r1t12
theorem r1t13_good:Good Tryz.prog 146 r1t13:=Good.ite r1t9_good r1t12_good
def r1t14:Word:=orIf (ltK (-156000157)) r1t6 r1t13
theorem r1t14_good:Good Tryz.prog 146 r1t14:=Good.ite r1t6_good r1t13_good
def r1t15:Word:=orIf (ltK (-18000006)) (kaa r1r37) (kaa r1r31)
theorem r1t15_good:Good Tryz.prog 146 r1t15:=Good.ite (gd kar r1q5 0) (gd kar r1q4 2)
def r1t16:Word:=orIf (ltK (-3999964)) (kaa r1r39) (kaa r1r29)
theorem r1t16_good:Good Tryz.prog 146 r1t16:=Good.ite (gd kar r1q5 2) (gd kar r1q4 0)
def r1t17:Word:=orIf (ltK (-4000049)) r1t15 r1t16
theorem r1t17_good:Good Tryz.prog 146 r1t17:=Good.ite r1t15_good r1t16_good
def r1t18:Word:=orIf (ltK (0)) (kaa r1r50) (kag (kaa r1r0) (kag (kaa r1r66) (kaa r1r68)))
theorem r1t18_good:Good Tryz.prog 146 r1t18:=Good.ite (gd kar r1q6 7) (Good.or (gd kar r1q0 0) (Good.or (gd kar r1q9 1) (gd kar r1q9 3)))
def r1t19:Word:=orIf (ltK (89)) r1t18 (kaa r1r16)
theorem r1t19_good:Good Tryz.prog 146 r1t19:=Good.ite r1t18_good (gd kar r1q2 1)
def r1t20:Word:=orIf (ltK (-111)) r1t17 r1t19
theorem r1t20_good:Good Tryz.prog 146 r1t20:=Good.ite r1t17_good r1t19_good
def r1t21:Word:=orIf (ltK (16000085)) (kaa r1r41) (kaa r1r27)
theorem r1t21_good:Good Tryz.prog 146 r1t21:=Good.ite (gd kar r1q5 4) (gd kar r1q3 4)
def r1t22:Word:=orIf (ltK (15999962)) (kag (kaa r1r67) (kaa r1r70)) r1t21
theorem r1t22_good:Good Tryz.prog 146 r1t22:=Good.ite (Good.or (gd kar r1q9 2) (gd kar r1q9 5)) r1t21_good
def r1t23:Word:=orIf (ltK (34000139)) (kaa r1r52) (kaa r1r14)
theorem r1t23_good:Good Tryz.prog 146 r1t23:=Good.ite (gd kar r1q7 1) (gd kar r1q1 5)
def r1t24:Word:=orIf (ltK (68000018)) (kaa r1r25) (kaa r1r54)
theorem r1t24_good:Good Tryz.prog 146 r1t24:=Good.ite (gd kar r1q3 2) (gd kar r1q7 3)
def r1t25:Word:=orIf (ltK (44000143)) (kaa r1r43) r1t24
theorem r1t25_good:Good Tryz.prog 146 r1t25:=Good.ite (gd kar r1q6 0) r1t24_good
def r1t26:Word:=orIf (ltK (43999988)) r1t23 r1t25
theorem r1t26_good:Good Tryz.prog 146 r1t26:=Good.ite r1t23_good r1t25_good
def r1t27:Word:=orIf (ltK (33999962)) r1t22 r1t26
theorem r1t27_good:Good Tryz.prog 146 r1t27:=Good.ite r1t22_good r1t26_good
def r1t28:Word:=orIf (ltK (14000028)) r1t20 r1t27
theorem r1t28_good:Good Tryz.prog 146 r1t28:=Good.ite r1t20_good r1t27_good
def r1t29:Word:=orIf (ltK (-18000049)) r1t14 r1t28
theorem r1t29_good:Good Tryz.prog 146 r1t29:=Good.ite r1t14_good r1t28_good
def r1t30:Word:=orIf (ltK (76000022)) (kaa r1r12) (kaa r1r45)
theorem r1t30_good:Good Tryz.prog 146 r1t30:=Good.ite (gd kar r1q1 3) (gd kar r1q6 2)
def r1t31:Word:=orIf (ltK (80000120)) (kaa r1r23) (kaa r1r1)
theorem r1t31_good:Good Tryz.prog 146 r1t31:=Good.ite (gd kar r1q3 0) (gd kar r1q0 1)
def r1t32:Word:=orIf (ltK (76000205)) r1t30 r1t31
theorem r1t32_good:Good Tryz.prog 146 r1t32:=Good.ite r1t30_good r1t31_good
def r1t33:Word:=orIf (ltK (98000221)) (kaa r1r56) (kaa r1r10)
theorem r1t33_good:Good Tryz.prog 146 r1t33:=Good.ite (gd kar r1q7 5) (gd kar r1q1 1)
def r1t34:Word:=orIf (ltK (126000125)) (kaa r1r21) (kaa r1r58)
theorem r1t34_good:Good Tryz.prog 146 r1t34:=Good.ite (gd kar r1q2 6) (gd kar r1q8 0)
def r1t35:Word:=orIf (ltK (114000272)) (kaa r1r47) r1t34
theorem r1t35_good:Good Tryz.prog 146 r1t35:=Good.ite (gd kar r1q6 4) r1t34_good
def r1t36:Word:=orIf (ltK (114000069)) r1t33 r1t35
theorem r1t36_good:Good Tryz.prog 146 r1t36:=Good.ite r1t33_good r1t35_good
def r1t37:Word:=orIf (ltK (98000072)) r1t32 r1t36
theorem r1t37_good:Good Tryz.prog 146 r1t37:=Good.ite r1t32_good r1t36_good
def r1t38:Word:=orIf (ltK (140000217)) (kaa r1r8) (kag (kaa r1r69) (kaa r1r71))
theorem r1t38_good:Good Tryz.prog 146 r1t38:=Good.ite (gd kar r1q0 8) (Good.or (gd kar r1q9 4) (gd kar r1q9 6))
def r1t39:Word:=orIf (ltK (148000172)) r1t38 (kaa r1r60)
theorem r1t39_good:Good Tryz.prog 146 r1t39:=Good.ite r1t38_good (gd kar r1q8 2)
def r1t40:Word:=orIf (ltK (156000125)) (kaa r1r6) (kaa r1r49)
theorem r1t40_good:Good Tryz.prog 146 r1t40:=Good.ite (gd kar r1q0 6) (gd kar r1q6 6)
def r1t41:Word:=orIf (ltK (166000283)) (kaa r1r62) (kaa r1r4)
theorem r1t41_good:Good Tryz.prog 146 r1t41:=Good.ite (gd kar r1q8 4) (gd kar r1q0 4)
def r1t42:Word:=orIf (ltK (166000214)) (kaa r1r19) r1t41
theorem r1t42_good:Good Tryz.prog 146 r1t42:=Good.ite (gd kar r1q2 4) r1t41_good
def r1t43:Word:=orIf (ltK (156000342)) r1t40 r1t42
theorem r1t43_good:Good Tryz.prog 146 r1t43:=Good.ite r1t40_good r1t42_good
def r1t44:Word:=orIf (ltK (148000271)) r1t39 r1t43
theorem r1t44_good:Good Tryz.prog 146 r1t44:=Good.ite r1t39_good r1t43_good
def r1t45:Word:=orIf (ltK (126000252)) r1t37 r1t44
theorem r1t45_good:Good Tryz.prog 146 r1t45:=Good.ite r1t37_good r1t44_good
def r1t46:Word:=orIf (ltK (176000281)) (kaa r1r64) (kaa r1r2)
theorem r1t46_good:Good Tryz.prog 146 r1t46:=Good.ite (gd kar r1q8 6) (gd kar r1q0 2)
def r1t47:Word:=orIf (ltK (200000389)) (kaa r1r51) (kaa r1r17)
theorem r1t47_good:Good Tryz.prog 146 r1t47:=Good.ite (gd kar r1q7 0) (gd kar r1q2 2)
def r1t48:Word:=orIf (ltK (200000189)) r1t46 r1t47
theorem r1t48_good:Good Tryz.prog 146 r1t48:=Good.ite r1t46_good r1t47_good
def r1t49:Word:=orIf (ltK (234000439)) (kaa r1r53) (kaa r1r15)
theorem r1t49_good:Good Tryz.prog 146 r1t49:=Good.ite (gd kar r1q7 2) (gd kar r1q2 0)
def r1t50:Word:=orIf (ltK (298000372)) (kaa r1r13) (kaa r1r57)
theorem r1t50_good:Good Tryz.prog 146 r1t50:=Good.ite (gd kar r1q1 4) (gd kar r1q7 6)
def r1t51:Word:=orIf (ltK (268000485)) (kaa r1r55) r1t50
theorem r1t51_good:Good Tryz.prog 146 r1t51:=Good.ite (gd kar r1q7 4) r1t50_good
def r1t52:Word:=orIf (ltK (268000318)) r1t49 r1t51
theorem r1t52_good:Good Tryz.prog 146 r1t52:=Good.ite r1t49_good r1t51_good
def r1t53:Word:=orIf (ltK (234000262)) r1t48 r1t52
theorem r1t53_good:Good Tryz.prog 146 r1t53:=Good.ite r1t48_good r1t52_good
def r1t54:Word:=orIf (ltK (326000425)) (kaa r1r11) (kaa r1r59)
theorem r1t54_good:Good Tryz.prog 146 r1t54:=Good.ite (gd kar r1q1 2) (gd kar r1q8 1)
def r1t55:Word:=orIf (ltK (348000472)) (kaa r1r9) (kaa r1r61)
theorem r1t55_good:Good Tryz.prog 146 r1t55:=Good.ite (gd kar r1q1 0) (gd kar r1q8 3)
def r1t56:Word:=orIf (ltK (326000552)) r1t54 r1t55
theorem r1t56_good:Good Tryz.prog 146 r1t56:=Good.ite r1t54_good r1t55_good
def r1t57:Word:=orIf (ltK (366000514)) (kaa r1r7) (kaa r1r63)
theorem r1t57_good:Good Tryz.prog 146 r1t57:=Good.ite (gd kar r1q0 7) (gd kar r1q8 5)
def r1t58:Word:=orIf (ltK (376000581)) (kaa r1r65) (kaa r1r3)
theorem r1t58_good:Good Tryz.prog 146 r1t58:=Good.ite (gd kar r1q9 0) (gd kar r1q0 3)
def r1t59:Word:=orIf (ltK (376000546)) (kaa r1r5) r1t58
theorem r1t59_good:Good Tryz.prog 146 r1t59:=Good.ite (gd kar r1q0 5) r1t58_good
def r1t60:Word:=orIf (ltK (366000583)) r1t57 r1t59
theorem r1t60_good:Good Tryz.prog 146 r1t60:=Good.ite r1t57_good r1t59_good
def r1t61:Word:=orIf (ltK (348000571)) r1t56 r1t60
theorem r1t61_good:Good Tryz.prog 146 r1t61:=Good.ite r1t56_good r1t60_good
def r1t62:Word:=orIf (ltK (298000521)) r1t53 r1t61
theorem r1t62_good:Good Tryz.prog 146 r1t62:=Good.ite r1t53_good r1t61_good
def r1t63:Word:=orIf (ltK (176000246)) r1t45 r1t62
theorem r1t63_good:Good Tryz.prog 146 r1t63:=Good.ite r1t45_good r1t62_good
def r1t64:Word:=orIf (ltK (68000185)) r1t29 r1t63
theorem r1t64_good:Good Tryz.prog 146 r1t64:=Good.ite r1t29_good r1t63_good
def kcz:List (FuncId × Word):=(146,r1t64)::(282,(hasG r1t64))::kfv
theorem kai:∀x∈kcz,Good Tryz.prog x.1 x.2:=by
 intro x hx;unfold kcz at hx
 rcases List.mem_cons.1 hx with rfl|hx
 ·exact r1t64_good
 rcases List.mem_cons.1 hx with rfl|hx
 ·exact(good_282 r1t64_good)
 exact kar x hx
end
end Go.Ev
