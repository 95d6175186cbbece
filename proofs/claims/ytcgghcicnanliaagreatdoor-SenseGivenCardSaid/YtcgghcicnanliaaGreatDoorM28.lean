/- What runs found: hull.Hull. Conditions: none. Printed by wip/genR.py. -/
import Derived.Test.YtcgghcicnanliaaGreatDoorM26
set_option linter.unusedVariables false
set_option linter.unusedSimpArgs false
namespace Go.Ev
open Go.Proofs Go.Proofs.YtcgghcicnanliaaGreatDoor
noncomputable section
set_option maxRecDepth 100000
def r2b0:Bk:=(3,pp [(0,0)],43,true)
def r2b1:Bk:=(3,pp [(7,7)],43,true)
def r2r0:Rec:=⟨158,1,[S 0 0 1 1],[(0,pp [(0,0)],43,false)],Tu [Z 3 1,i 0],4,[r2b0]⟩
def r2r1:Rec:=⟨158,1,[S 0 0 1 1],[(0,pp [(49,49)],43,false)],Tu [Z 3 1,i 0],4,[(3,pp [(49,49)],43,true)]⟩
def r2r2:Rec:=⟨158,1,[S 0 0 1 1],[(0,pp [(100,0)],43,false)],Tu [Z 3 1,i 0],4,[(3,pp [(100,0)],43,true)]⟩
def r2r3:Rec:=⟨158,1,[S 0 0 1 1],[(0,pp [(20,0)],43,false)],Tu [Z 3 1,i 0],4,[(3,pp [(20,0)],43,true)]⟩
def r2r4:Rec:=⟨158,1,[S 0 0 1 1],[(0,pp [(100,50)],43,false)],Tu [Z 3 1,i 0],4,[(3,pp [(100,50)],43,true)]⟩
def r2r5:Rec:=⟨158,1,[Z 0 20],[(0,pp [(89,0),(89,0),(90,0),(90,0),(88,17),(88,18),(89,17),(89,18),(110,0),(110,0),(111,0),(111,0),(109,10),(109,11),(110,10),(110,11),(108,21),(108,22),(109,21),(109,22)],43,true)],Tu [Z 301 6,i 0],302,[(301,p33q,43,true)]⟩
def r2r6:Rec:=⟨158,1,[Z 0 20],[(0,pp [(88,17),(88,18),(89,17),(89,18),(83,34),(83,35),(84,34),(84,35),(108,21),(108,22),(109,21),(109,22),(105,31),(105,32),(106,31),(106,32),(101,42),(101,43),(102,42),(102,43)],43,true)],Tu [Z 310 9,i 0],311,[(310,p34q,43,true)]⟩
def r2r7:Rec:=⟨158,1,[Z 0 20],[(0,pp [(83,34),(83,35),(84,34),(84,35),(74,49),(74,50),(75,49),(75,50),(101,42),(101,43),(102,42),(102,43),(97,51),(97,52),(98,51),(98,52),(91,61),(91,62),(92,61),(92,62)],43,true)],Tu [Z 310 9,i 0],311,[(310,p35q,43,true)]⟩
def r2r8:Rec:=⟨158,1,[Z 0 20],[(0,pp [(74,49),(74,50),(75,49),(75,50),(63,63),(63,64),(64,63),(64,64),(91,61),(91,62),(92,61),(92,62),(85,69),(85,70),(86,69),(86,70),(77,77),(77,78),(78,77),(78,78)],43,true)],Tu [Z 310 9,i 0],311,[(310,p36q,43,true)]⟩
def r2r9:Rec:=⟨158,1,[Z 0 20],[(0,pp [(63,63),(63,64),(64,63),(64,64),(49,74),(49,75),(50,74),(50,75),(77,77),(77,78),(78,77),(78,78),(69,85),(69,86),(70,85),(70,86),(61,91),(61,92),(62,91),(62,92)],43,true)],Tu [Z 302 9,i 0],303,[(302,p37q,43,true)]⟩
def r2r10:Rec:=⟨158,1,[Z 0 20],[(0,pp [(49,74),(49,75),(50,74),(50,75),(34,83),(34,84),(35,83),(35,84),(61,91),(61,92),(62,91),(62,92),(51,97),(51,98),(52,97),(52,98),(42,101),(42,102),(43,101),(43,102)],43,true)],Tu [Z 302 9,i 0],303,[(302,p38q,43,true)]⟩
def r2r11:Rec:=⟨158,1,[Z 0 20],[(0,pp [(34,83),(34,84),(35,83),(35,84),(17,88),(17,89),(18,88),(18,89),(42,101),(42,102),(43,101),(43,102),(31,105),(31,106),(32,105),(32,106),(21,108),(21,109),(22,108),(22,109)],43,true)],Tu [Z 327 9,i 0],328,[(327,p39q,43,true)]⟩
def r2r12:Rec:=⟨158,1,[Z 0 20],[(0,pp [(17,88),(17,89),(18,88),(18,89),(0,89),(0,90),(0,89),(0,90),(21,108),(21,109),(22,108),(22,109),(10,109),(10,110),(11,109),(11,110),(0,110),(0,111),(0,110),(0,111)],43,true)],Tu [Z 299 6,i 0],300,[(299,p40q,43,true)]⟩
def r2r13:Rec:=⟨158,1,[Z 0 20],[(0,pp [(0,89),(0,90),(0,89),(0,90),(-18,88),(-18,89),(-17,88),(-17,89),(0,110),(0,111),(0,110),(0,111),(-11,109),(-11,110),(-10,109),(-10,110),(-22,108),(-22,109),(-21,108),(-21,109)],43,true)],Tu [Z 277 6,i 0],278,[(277,p41q,43,true)]⟩
def r2r14:Rec:=⟨158,1,[Z 0 20],[(0,pp [(-18,88),(-18,89),(-17,88),(-17,89),(-35,83),(-35,84),(-34,83),(-34,84),(-22,108),(-22,109),(-21,108),(-21,109),(-32,105),(-32,106),(-31,105),(-31,106),(-43,101),(-43,102),(-42,101),(-42,102)],43,true)],Tu [Z 283 9,i 0],284,[(283,p42q,43,true)]⟩
def r2r15:Rec:=⟨158,1,[Z 0 20],[(0,pp [(-35,83),(-35,84),(-34,83),(-34,84),(-50,74),(-50,75),(-49,74),(-49,75),(-43,101),(-43,102),(-42,101),(-42,102),(-52,97),(-52,98),(-51,97),(-51,98),(-62,91),(-62,92),(-61,91),(-61,92)],43,true)],Tu [Z 293 9,i 0],294,[(293,p43q,43,true)]⟩
def r2r16:Rec:=⟨158,1,[Z 0 20],[(0,pp [(-50,74),(-50,75),(-49,74),(-49,75),(-64,63),(-64,64),(-63,63),(-63,64),(-62,91),(-62,92),(-61,91),(-61,92),(-70,85),(-70,86),(-69,85),(-69,86),(-78,77),(-78,78),(-77,77),(-77,78)],43,true)],Tu [Z 293 9,i 0],294,[(293,p44q,43,true)]⟩
def r2r17:Rec:=⟨158,1,[Z 0 20],[(0,pp [(-64,63),(-64,64),(-63,63),(-63,64),(-75,49),(-75,50),(-74,49),(-74,50),(-78,77),(-78,78),(-77,77),(-77,78),(-86,69),(-86,70),(-85,69),(-85,70),(-92,61),(-92,62),(-91,61),(-91,62)],43,true)],Tu [Z 285 9,i 0],286,[(285,p45q,43,true)]⟩
def r2r18:Rec:=⟨158,1,[Z 0 20],[(0,pp [(-75,49),(-75,50),(-74,49),(-74,50),(-84,34),(-84,35),(-83,34),(-83,35),(-92,61),(-92,62),(-91,61),(-91,62),(-98,51),(-98,52),(-97,51),(-97,52),(-102,42),(-102,43),(-101,42),(-101,43)],43,true)],Tu [Z 285 9,i 0],286,[(285,p46q,43,true)]⟩
def r2r19:Rec:=⟨158,1,[Z 0 20],[(0,pp [(-84,34),(-84,35),(-83,34),(-83,35),(-89,17),(-89,18),(-88,17),(-88,18),(-102,42),(-102,43),(-101,42),(-101,43),(-106,31),(-106,32),(-105,31),(-105,32),(-109,21),(-109,22),(-108,21),(-108,22)],43,true)],Tu [Z 285 9,i 0],286,[(285,p47q,43,true)]⟩
def r2r20:Rec:=⟨158,1,[Z 0 20],[(0,pp [(-89,17),(-89,18),(-88,17),(-88,18),(-90,0),(-90,0),(-89,0),(-89,0),(-109,21),(-109,22),(-108,21),(-108,22),(-110,10),(-110,11),(-109,10),(-109,11),(-111,0),(-111,0),(-110,0),(-110,0)],43,true)],Tu [Z 256 6,i 0],257,[(256,p48q,43,true)]⟩
def r2r21:Rec:=⟨158,1,[Z 0 20],[(0,pp [(-90,0),(-90,0),(-89,0),(-89,0),(-89,-18),(-89,-17),(-88,-18),(-88,-17),(-111,0),(-111,0),(-110,0),(-110,0),(-110,-11),(-110,-10),(-109,-11),(-109,-10),(-109,-22),(-109,-21),(-108,-22),(-108,-21)],43,true)],Tu [Z 320 6,i 0],321,[(320,p49q,43,true)]⟩
def r2r22:Rec:=⟨158,1,[Z 0 20],[(0,pp [(-89,-18),(-89,-17),(-88,-18),(-88,-17),(-84,-35),(-84,-34),(-83,-35),(-83,-34),(-109,-22),(-109,-21),(-108,-22),(-108,-21),(-106,-32),(-106,-31),(-105,-32),(-105,-31),(-102,-43),(-102,-42),(-101,-43),(-101,-42)],43,true)],Tu [Z 373 9,i 0],374,[(373,p50q,43,true)]⟩
def r2r23:Rec:=⟨158,1,[Z 0 20],[(0,pp [(-84,-35),(-84,-34),(-83,-35),(-83,-34),(-75,-50),(-75,-49),(-74,-50),(-74,-49),(-102,-43),(-102,-42),(-101,-43),(-101,-42),(-98,-52),(-98,-51),(-97,-52),(-97,-51),(-92,-62),(-92,-61),(-91,-62),(-91,-61)],43,true)],Tu [Z 373 9,i 0],374,[(373,p51q,43,true)]⟩
def r2r24:Rec:=⟨158,1,[Z 0 20],[(0,pp [(-75,-50),(-75,-49),(-74,-50),(-74,-49),(-64,-64),(-64,-63),(-63,-64),(-63,-63),(-92,-62),(-92,-61),(-91,-62),(-91,-61),(-86,-70),(-86,-69),(-85,-70),(-85,-69),(-78,-78),(-78,-77),(-77,-78),(-77,-77)],43,true)],Tu [Z 373 9,i 0],374,[(373,p52q,43,true)]⟩
def r2r25:Rec:=⟨158,1,[Z 0 20],[(0,pp [(-64,-64),(-64,-63),(-63,-64),(-63,-63),(-50,-75),(-50,-74),(-49,-75),(-49,-74),(-78,-78),(-78,-77),(-77,-78),(-77,-77),(-70,-86),(-70,-85),(-69,-86),(-69,-85),(-62,-92),(-62,-91),(-61,-92),(-61,-91)],43,true)],Tu [Z 343 9,i 0],344,[(343,p53q,43,true)]⟩
def r2r26:Rec:=⟨158,1,[Z 0 20],[(0,pp [(-50,-75),(-50,-74),(-49,-75),(-49,-74),(-35,-84),(-35,-83),(-34,-84),(-34,-83),(-62,-92),(-62,-91),(-61,-92),(-61,-91),(-52,-98),(-52,-97),(-51,-98),(-51,-97),(-43,-102),(-43,-101),(-42,-102),(-42,-101)],43,true)],Tu [Z 343 9,i 0],344,[(343,p54q,43,true)]⟩
def r2r27:Rec:=⟨158,1,[Z 0 20],[(0,pp [(-35,-84),(-35,-83),(-34,-84),(-34,-83),(-18,-89),(-18,-88),(-17,-89),(-17,-88),(-43,-102),(-43,-101),(-42,-102),(-42,-101),(-32,-106),(-32,-105),(-31,-106),(-31,-105),(-22,-109),(-22,-108),(-21,-109),(-21,-108)],43,true)],Tu [Z 333 9,i 0],334,[(333,p55q,43,true)]⟩
def r2r28:Rec:=⟨158,1,[Z 0 20],[(0,pp [(-18,-89),(-18,-88),(-17,-89),(-17,-88),(0,-90),(0,-89),(0,-90),(0,-89),(-22,-109),(-22,-108),(-21,-109),(-21,-108),(-11,-110),(-11,-109),(-10,-110),(-10,-109),(0,-111),(0,-110),(0,-111),(0,-110)],43,true)],Tu [Z 307 6,i 0],308,[(307,p56q,43,true)]⟩
def r2r29:Rec:=⟨158,1,[Z 0 20],[(0,pp [(0,-90),(0,-89),(0,-90),(0,-89),(17,-89),(17,-88),(18,-89),(18,-88),(0,-111),(0,-110),(0,-111),(0,-110),(10,-110),(10,-109),(11,-110),(11,-109),(21,-109),(21,-108),(22,-109),(22,-108)],43,true)],Tu [Z 277 6,i 0],278,[(277,p57q,43,true)]⟩
def r2r30:Rec:=⟨158,1,[Z 0 20],[(0,pp [(17,-89),(17,-88),(18,-89),(18,-88),(34,-84),(34,-83),(35,-84),(35,-83),(21,-109),(21,-108),(22,-109),(22,-108),(31,-106),(31,-105),(32,-106),(32,-105),(42,-102),(42,-101),(43,-102),(43,-101)],43,true)],Tu [Z 285 9,i 0],286,[(285,p58q,43,true)]⟩
def r2r31:Rec:=⟨158,1,[Z 0 20],[(0,pp [(34,-84),(34,-83),(35,-84),(35,-83),(49,-75),(49,-74),(50,-75),(50,-74),(42,-102),(42,-101),(43,-102),(43,-101),(51,-98),(51,-97),(52,-98),(52,-97),(61,-92),(61,-91),(62,-92),(62,-91)],43,true)],Tu [Z 265 9,i 0],266,[(265,p59q,43,true)]⟩
def r2r32:Rec:=⟨158,1,[Z 0 20],[(0,pp [(49,-75),(49,-74),(50,-75),(50,-74),(63,-64),(63,-63),(64,-64),(64,-63),(61,-92),(61,-91),(62,-92),(62,-91),(69,-86),(69,-85),(70,-86),(70,-85),(77,-78),(77,-77),(78,-78),(78,-77)],43,true)],Tu [Z 265 9,i 0],266,[(265,p60q,43,true)]⟩
def r2r33:Rec:=⟨158,1,[Z 0 20],[(0,pp [(63,-64),(63,-63),(64,-64),(64,-63),(74,-50),(74,-49),(75,-50),(75,-49),(77,-78),(77,-77),(78,-78),(78,-77),(85,-70),(85,-69),(86,-70),(86,-69),(91,-62),(91,-61),(92,-62),(92,-61)],43,true)],Tu [Z 205 9,i 0],206,[(205,p61q,43,true)]⟩
def r2r34:Rec:=⟨158,1,[Z 0 20],[(0,pp [(74,-50),(74,-49),(75,-50),(75,-49),(83,-35),(83,-34),(84,-35),(84,-34),(91,-62),(91,-61),(92,-62),(92,-61),(97,-52),(97,-51),(98,-52),(98,-51),(101,-43),(101,-42),(102,-43),(102,-42)],43,true)],Tu [Z 205 9,i 0],206,[(205,p62q,43,true)]⟩
def r2r35:Rec:=⟨158,1,[Z 0 20],[(0,pp [(83,-35),(83,-34),(84,-35),(84,-34),(88,-18),(88,-17),(89,-18),(89,-17),(101,-43),(101,-42),(102,-43),(102,-42),(105,-32),(105,-31),(106,-32),(106,-31),(108,-22),(108,-21),(109,-22),(109,-21)],43,true)],Tu [Z 205 9,i 0],206,[(205,p63q,43,true)]⟩
def r2r36:Rec:=⟨158,1,[Z 0 20],[(0,pp [(88,-18),(88,-17),(89,-18),(89,-17),(89,0),(89,0),(90,0),(90,0),(108,-22),(108,-21),(109,-22),(109,-21),(109,-11),(109,-10),(110,-11),(110,-10),(110,0),(110,0),(111,0),(111,0)],43,true)],Tu [Z 180 6,i 0],181,[(180,p64q,43,true)]⟩
def r2r37:Rec:=⟨158,1,[Z 0 1],[(0,pp [(0,0)],43,true)],Tu [Z 3 1,i 0],4,[r2b0]⟩
def r2r38:Rec:=⟨158,1,[S 0 0 1 1],[(0,pp [(7,7)],43,false)],Tu [Z 3 1,i 0],4,[r2b1]⟩
def r2r39:Rec:=⟨158,1,[S 0 0 4 4],[(0,p32q,43,false)],Tu [Z 53 4,i 0],54,[(53,p32q,43,true)]⟩
def r2r40:Rec:=⟨158,1,[Z 0 1],[(0,pp [(7,7)],43,true)],Tu [Z 3 1,i 0],4,[r2b1]⟩
def r2r41:Rec:=⟨158,1,[S 0 0 1 1],[(0,pp [(70,7)],43,false)],Tu [Z 3 1,i 0],4,[(3,pp [(70,7)],43,true)]⟩
theorem r2q0:List.all [r2r0,r2r1,r2r2,r2r3,r2r4,r2r5,r2r6] (okB kcz)=true:=by kernel_rfl
theorem r2q1:List.all [r2r7,r2r8] (okB kcz)=true:=by kernel_rfl
theorem r2q2:List.all [r2r9,r2r10] (okB kcz)=true:=by kernel_rfl
theorem r2q3:List.all [r2r11,r2r12] (okB kcz)=true:=by kernel_rfl
theorem r2q4:List.all [r2r13,r2r14] (okB kcz)=true:=by kernel_rfl
theorem r2q5:List.all [r2r15,r2r16] (okB kcz)=true:=by kernel_rfl
theorem r2q6:List.all [r2r17,r2r18] (okB kcz)=true:=by kernel_rfl
theorem r2q7:List.all [r2r19,r2r20] (okB kcz)=true:=by kernel_rfl
theorem r2q8:List.all [r2r21,r2r22] (okB kcz)=true:=by kernel_rfl
theorem r2q9:List.all [r2r23] (okB kcz)=true:=by kernel_rfl
theorem r2q10:List.all [r2r24] (okB kcz)=true:=by kernel_rfl
theorem r2q11:List.all [r2r25,r2r26] (okB kcz)=true:=by kernel_rfl
theorem r2q12:List.all [r2r27,r2r28] (okB kcz)=true:=by kernel_rfl
theorem r2q13:List.all [r2r29,r2r30] (okB kcz)=true:=by kernel_rfl
theorem r2q14:List.all [r2r31,r2r32,r2r33] (okB kcz)=true:=by kernel_rfl
theorem r2q15:List.all [r2r34,r2r35,r2r36,r2r37,r2r38,r2r39,r2r40,r2r41] (okB kcz)=true:=by kernel_rfl
def r2t0:Word:=orIf (ltK (-178000285)) (kaa r2r21) (kaa r2r22)
theorem r2t0_good:Good Tryz.prog 158 r2t0:=Good.ite (gd kai r2q8 0) (gd kai r2q8 1)
def r2t1:Word:=orIf (ltK (-168000218)) (kaa r2r23) (kaa r2r19)
theorem r2t1_good:Good Tryz.prog 158 r2t1:=Good.ite (gd kai r2q9 0) (gd kai r2q7 0)
def r2t2:Word:=orIf (ltK (-168000287)) (kaa r2r20) r2t1
theorem r2t2_good:Good Tryz.prog 158 r2t2:=Good.ite (gd kai r2q7 1) r2t1_good
def r2t3:Word:=orIf (ltK (-178000250)) r2t0 r2t2
theorem r2t3_good:Good Tryz.prog 158 r2t3:=Good.ite r2t0_good r2t2_good
def r2t4:Word:=orIf (ltK (-128000256)) (kaa r2r18) (kaa r2r25)
theorem r2t4_good:Good Tryz.prog 158 r2t4:=Good.ite (gd kai r2q6 1) (gd kai r2q11 0)
def r2t5:Word:=orIf (ltK (-150000176)) (kaa r2r24) r2t4
theorem r2t5_good:Good Tryz.prog 158 r2t5:=Good.ite (gd kai r2q10 0) r2t4_good
def r2t6:Word:=orIf (ltK (-100000076)) (kaa r2r26) (kaa r2r16)
theorem r2t6_good:Good Tryz.prog 158 r2t6:=Good.ite (gd kai r2q11 1) (gd kai r2q5 1)
def r2t7:Word:=orIf (ltK (-100000225)) (kaa r2r17) r2t6
theorem r2t7_good:Good Tryz.prog 158 r2t7:=Good.ite (gd kai r2q6 0) r2t6_good
def r2t8:Word:=orIf (ltK (-128000129)) r2t5 r2t7
theorem r2t8_good:Good Tryz.prog 158 r2t8:=Good.ite r2t5_good r2t7_good
def r2t9:Word:=orIf (ltK (-150000275)) r2t3 r2t8
theorem r2t9_good:Good Tryz.prog 158 r2t9:=Good.ite r2t3_good r2t8_good
def r2t10:Word:=orIf (ltK (-70000022)) (kaa r2r27) (kaa r2r15)
theorem r2t10_good:Good Tryz.prog 158 r2t10:=Good.ite (gd kai r2q12 0) (gd kai r2q5 0)
def r2t11:Word:=orIf (ltK (-90)) (kaa r2r14) (kaa r2r29)
theorem r2t11_good:Good Tryz.prog 158 r2t11:=Good.ite (gd kai r2q4 1) (gd kai r2q13 0)
def r2t12:Word:=orIf (ltK (-35999966)) (kaa r2r28) r2t11
theorem r2t12_good:Good Tryz.prog 158 r2t12:=Good.ite (gd kai r2q12 1) r2t11_good
def r2t13:Word:=orIf (ltK (-36000143)) r2t10 r2t12
theorem r2t13_good:Good Tryz.prog 158 r2t13:=Good.ite r2t10_good r2t12_good
def r2t14:Word:=orIf (ltK (14000028)) (kaa r2r13) (kag (kaa r2r38) (kaa r2r40))
theorem r2t14_good:Good Tryz.prog 158 r2t14:=Good.ite (gd kai r2q4 0) (Good.or (gd kai r2q15 4) (gd kai r2q15 6))
def r2t15:Word:=orIf (ltK (89)) (kag (kaa r2r0) (kag (kaa r2r37) (kaa r2r39))) r2t14
theorem r2t15_good:Good Tryz.prog 158 r2t15:=Good.ite (Good.or (gd kai r2q0 0) (Good.or (gd kai r2q15 3) (gd kai r2q15 5))) r2t14_good
def r2t16:Word:=orIf (ltK (0)) r2t13 r2t15
theorem r2t16_good:Good Tryz.prog 158 r2t16:=Good.ite r2t13_good r2t15_good
def r2t17:Word:=orIf (ltK (-70000189)) r2t9 r2t16
theorem r2t17_good:Good Tryz.prog 158 r2t17:=Good.ite r2t9_good r2t16_good
def r2t18:Word:=orIf (ltK (34000139)) (kaa r2r30) (kaa r2r12)
theorem r2t18_good:Good Tryz.prog 158 r2t18:=Good.ite (gd kai r2q13 1) (gd kai r2q3 1)
def r2t19:Word:=orIf (ltK (68000185)) (kaa r2r31) (kaa r2r11)
theorem r2t19_good:Good Tryz.prog 158 r2t19:=Good.ite (gd kai r2q14 0) (gd kai r2q3 0)
def r2t20:Word:=orIf (ltK (68000018)) (kaa r2r3) r2t19
theorem r2t20_good:Good Tryz.prog 158 r2t20:=Good.ite (gd kai r2q0 3) r2t19_good
def r2t21:Word:=orIf (ltK (40000060)) r2t18 r2t20
theorem r2t21_good:Good Tryz.prog 158 r2t21:=Good.ite r2t18_good r2t20_good
def r2t22:Word:=orIf (ltK (98000196)) (kaa r2r32) (kaa r2r1)
theorem r2t22_good:Good Tryz.prog 158 r2t22:=Good.ite (gd kai r2q14 1) (gd kai r2q0 1)
def r2t23:Word:=orIf (ltK (126000252)) (kaa r2r33) (kaa r2r9)
theorem r2t23_good:Good Tryz.prog 158 r2t23:=Good.ite (gd kai r2q14 2) (gd kai r2q2 0)
def r2t24:Word:=orIf (ltK (126000125)) (kaa r2r10) r2t23
theorem r2t24_good:Good Tryz.prog 158 r2t24:=Good.ite (gd kai r2q2 1) r2t23_good
def r2t25:Word:=orIf (ltK (98000221)) r2t22 r2t24
theorem r2t25_good:Good Tryz.prog 158 r2t25:=Good.ite r2t22_good r2t24_good
def r2t26:Word:=orIf (ltK (98000072)) r2t21 r2t25
theorem r2t26_good:Good Tryz.prog 158 r2t26:=Good.ite r2t21_good r2t25_good
def r2t27:Word:=orIf (ltK (148000172)) (kaa r2r41) (kaa r2r34)
theorem r2t27_good:Good Tryz.prog 158 r2t27:=Good.ite (gd kai r2q15 7) (gd kai r2q15 0)
def r2t28:Word:=orIf (ltK (166000283)) (kaa r2r35) (kaa r2r7)
theorem r2t28_good:Good Tryz.prog 158 r2t28:=Good.ite (gd kai r2q15 1) (gd kai r2q1 0)
def r2t29:Word:=orIf (ltK (166000214)) (kaa r2r8) r2t28
theorem r2t29_good:Good Tryz.prog 158 r2t29:=Good.ite (gd kai r2q1 1) r2t28_good
def r2t30:Word:=orIf (ltK (148000271)) r2t27 r2t29
theorem r2t30_good:Good Tryz.prog 158 r2t30:=Good.ite r2t27_good r2t29_good
def r2t31:Word:=orIf (ltK (176000281)) (kaa r2r36) (kaa r2r6)
theorem r2t31_good:Good Tryz.prog 158 r2t31:=Good.ite (gd kai r2q15 2) (gd kai r2q0 6)
def r2t32:Word:=orIf (ltK (200000350)) (kaa r2r2) (kaa r2r4)
theorem r2t32_good:Good Tryz.prog 158 r2t32:=Good.ite (gd kai r2q0 2) (gd kai r2q0 4)
def r2t33:Word:=orIf (ltK (200000300)) (kaa r2r5) r2t32
theorem r2t33_good:Good Tryz.prog 158 r2t33:=Good.ite (gd kai r2q0 5) r2t32_good
def r2t34:Word:=orIf (ltK (178000267)) r2t31 r2t33
theorem r2t34_good:Good Tryz.prog 158 r2t34:=Good.ite r2t31_good r2t33_good
def r2t35:Word:=orIf (ltK (176000246)) r2t30 r2t34
theorem r2t35_good:Good Tryz.prog 158 r2t35:=Good.ite r2t30_good r2t34_good
def r2t36:Word:=orIf (ltK (140000217)) r2t26 r2t35
theorem r2t36_good:Good Tryz.prog 158 r2t36:=Good.ite r2t26_good r2t35_good
def r2t37:Word:=orIf (ltK (33999962)) r2t17 r2t36
theorem r2t37_good:Good Tryz.prog 158 r2t37:=Good.ite r2t17_good r2t36_good
def kgs:List (FuncId × Word):=(158,r2t37)::kcz
theorem kal:∀x∈kgs,Good Tryz.prog x.1 x.2:=by
 intro x hx;unfold kgs at hx
 rcases List.mem_cons.1 hx with rfl|hx
 ·exact r2t37_good
 exact kai x hx
end
end Go.Ev
