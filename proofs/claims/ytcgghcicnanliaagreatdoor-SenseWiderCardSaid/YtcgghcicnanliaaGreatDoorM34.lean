/- What runs found: hull.Valid. Conditions: none. Printed by wip/genR.py. -/
import Derived.Test.YtcgghcicnanliaaGreatDoorM31
set_option linter.unusedVariables false
set_option linter.unusedSimpArgs false
namespace Go.Ev
open Go.Proofs Go.Proofs.YtcgghcicnanliaaGreatDoor
noncomputable section
set_option maxRecDepth 100000

def r1r0 : Rec := ⟨146, 1, [S 0 0 1 1], [(0, pp [(0, 0)], 43, false)], .bool true, 4, []⟩
def r1r1 : Rec := ⟨146, 1, [S 0 0 1 1], [(0, pp [(40, 0)], 43, false)], .bool true, 4, []⟩
def r1r2 : Rec := ⟨146, 1, [.slice (some ⟨0, 0, some 0⟩) 6 6], [(0, pp [(88, 17), (89, 0), (111, 0), (109, 22), (108, 22), (88, 18)], 43, true)], .bool true, 66, []⟩
def r1r3 : Rec := ⟨146, 1, [.slice (some ⟨0, 0, some 0⟩) 6 6], [(0, pp [(188, 17), (189, 0), (211, 0), (209, 22), (208, 22), (188, 18)], 43, true)], .bool true, 66, []⟩
def r1r4 : Rec := ⟨146, 1, [.slice (some ⟨0, 0, some 0⟩) 9 9], [(0, pp [(83, 34), (88, 17), (89, 17), (109, 21), (109, 22), (106, 32), (102, 43), (101, 43), (83, 35)], 43, true)], .bool true, 123, []⟩
def r1r5 : Rec := ⟨146, 1, [.slice (some ⟨0, 0, some 0⟩) 9 9], [(0, pp [(183, 34), (188, 17), (189, 17), (209, 21), (209, 22), (206, 32), (202, 43), (201, 43), (183, 35)], 43, true)], .bool true, 123, []⟩
def r1r6 : Rec := ⟨146, 1, [.slice (some ⟨0, 0, some 0⟩) 9 9], [(0, pp [(74, 49), (83, 34), (84, 34), (102, 42), (102, 43), (98, 52), (92, 62), (91, 62), (74, 50)], 43, true)], .bool true, 123, []⟩
def r1r7 : Rec := ⟨146, 1, [.slice (some ⟨0, 0, some 0⟩) 9 9], [(0, pp [(174, 49), (183, 34), (184, 34), (202, 42), (202, 43), (198, 52), (192, 62), (191, 62), (174, 50)], 43, true)], .bool true, 123, []⟩
def r1r8 : Rec := ⟨146, 1, [.slice (some ⟨0, 0, some 0⟩) 9 9], [(0, pp [(63, 63), (74, 49), (75, 49), (92, 61), (92, 62), (86, 70), (78, 78), (77, 78), (63, 64)], 43, true)], .bool true, 123, []⟩
def r1r9 : Rec := ⟨146, 1, [.slice (some ⟨0, 0, some 0⟩) 9 9], [(0, pp [(163, 63), (174, 49), (175, 49), (192, 61), (192, 62), (186, 70), (178, 78), (177, 78), (163, 64)], 43, true)], .bool true, 123, []⟩
def r1r10 : Rec := ⟨146, 1, [.slice (some ⟨0, 0, some 0⟩) 9 9], [(0, pp [(49, 74), (63, 63), (64, 63), (78, 77), (78, 78), (70, 86), (62, 92), (61, 92), (49, 75)], 43, true)], .bool true, 123, []⟩
def r1r11 : Rec := ⟨146, 1, [.slice (some ⟨0, 0, some 0⟩) 9 9], [(0, pp [(149, 74), (163, 63), (164, 63), (178, 77), (178, 78), (170, 86), (162, 92), (161, 92), (149, 75)], 43, true)], .bool true, 123, []⟩
def r1r12 : Rec := ⟨146, 1, [.slice (some ⟨0, 0, some 0⟩) 9 9], [(0, pp [(34, 83), (49, 74), (50, 74), (62, 91), (62, 92), (52, 98), (43, 102), (42, 102), (34, 84)], 43, true)], .bool true, 123, []⟩
def r1r13 : Rec := ⟨146, 1, [.slice (some ⟨0, 0, some 0⟩) 9 9], [(0, pp [(134, 83), (149, 74), (150, 74), (162, 91), (162, 92), (152, 98), (143, 102), (142, 102), (134, 84)], 43, true)], .bool true, 123, []⟩
def r1r14 : Rec := ⟨146, 1, [.slice (some ⟨0, 0, some 0⟩) 9 9], [(0, pp [(17, 88), (34, 83), (35, 83), (43, 101), (43, 102), (32, 106), (22, 109), (21, 109), (17, 89)], 43, true)], .bool true, 123, []⟩
def r1r15 : Rec := ⟨146, 1, [.slice (some ⟨0, 0, some 0⟩) 9 9], [(0, pp [(117, 88), (134, 83), (135, 83), (143, 101), (143, 102), (132, 106), (122, 109), (121, 109), (117, 89)], 43, true)], .bool true, 123, []⟩
def r1r16 : Rec := ⟨146, 1, [.slice (some ⟨0, 0, some 0⟩) 6 6], [(0, pp [(0, 89), (17, 88), (18, 88), (22, 108), (22, 109), (0, 111)], 43, true)], .bool true, 66, []⟩
def r1r17 : Rec := ⟨146, 1, [.slice (some ⟨0, 0, some 0⟩) 6 6], [(0, pp [(100, 89), (117, 88), (118, 88), (122, 108), (122, 109), (100, 111)], 43, true)], .bool true, 66, []⟩
def r1r18 : Rec := ⟨146, 1, [.slice (some ⟨0, 0, some 0⟩) 6 6], [(0, pp [(-22, 108), (-18, 88), (-17, 88), (0, 89), (0, 111), (-22, 109)], 43, true)], .bool true, 66, []⟩
def r1r19 : Rec := ⟨146, 1, [.slice (some ⟨0, 0, some 0⟩) 6 6], [(0, pp [(78, 108), (82, 88), (83, 88), (100, 89), (100, 111), (78, 109)], 43, true)], .bool true, 66, []⟩
def r1r20 : Rec := ⟨146, 1, [.slice (some ⟨0, 0, some 0⟩) 9 9], [(0, pp [(-43, 101), (-35, 83), (-34, 83), (-17, 88), (-17, 89), (-21, 109), (-22, 109), (-32, 106), (-43, 102)], 43, true)], .bool true, 123, []⟩
def r1r21 : Rec := ⟨146, 1, [.slice (some ⟨0, 0, some 0⟩) 9 9], [(0, pp [(57, 101), (65, 83), (66, 83), (83, 88), (83, 89), (79, 109), (78, 109), (68, 106), (57, 102)], 43, true)], .bool true, 123, []⟩
def r1r22 : Rec := ⟨146, 1, [.slice (some ⟨0, 0, some 0⟩) 9 9], [(0, pp [(-62, 91), (-50, 74), (-49, 74), (-34, 83), (-34, 84), (-42, 102), (-43, 102), (-52, 98), (-62, 92)], 43, true)], .bool true, 123, []⟩
def r1r23 : Rec := ⟨146, 1, [.slice (some ⟨0, 0, some 0⟩) 9 9], [(0, pp [(38, 91), (50, 74), (51, 74), (66, 83), (66, 84), (58, 102), (57, 102), (48, 98), (38, 92)], 43, true)], .bool true, 123, []⟩
def r1r24 : Rec := ⟨146, 1, [.slice (some ⟨0, 0, some 0⟩) 9 9], [(0, pp [(-78, 77), (-64, 63), (-63, 63), (-49, 74), (-49, 75), (-61, 92), (-62, 92), (-70, 86), (-78, 78)], 43, true)], .bool true, 123, []⟩
def r1r25 : Rec := ⟨146, 1, [.slice (some ⟨0, 0, some 0⟩) 9 9], [(0, pp [(22, 77), (36, 63), (37, 63), (51, 74), (51, 75), (39, 92), (38, 92), (30, 86), (22, 78)], 43, true)], .bool true, 123, []⟩
def r1r26 : Rec := ⟨146, 1, [.slice (some ⟨0, 0, some 0⟩) 9 9], [(0, pp [(-92, 61), (-75, 49), (-74, 49), (-63, 63), (-63, 64), (-77, 78), (-78, 78), (-86, 70), (-92, 62)], 43, true)], .bool true, 123, []⟩
def r1r27 : Rec := ⟨146, 1, [.slice (some ⟨0, 0, some 0⟩) 9 9], [(0, pp [(8, 61), (25, 49), (26, 49), (37, 63), (37, 64), (23, 78), (22, 78), (14, 70), (8, 62)], 43, true)], .bool true, 123, []⟩
def r1r28 : Rec := ⟨146, 1, [.slice (some ⟨0, 0, some 0⟩) 9 9], [(0, pp [(-102, 42), (-84, 34), (-83, 34), (-74, 49), (-74, 50), (-91, 62), (-92, 62), (-98, 52), (-102, 43)], 43, true)], .bool true, 123, []⟩
def r1r29 : Rec := ⟨146, 1, [.slice (some ⟨0, 0, some 0⟩) 9 9], [(0, pp [(-2, 42), (16, 34), (17, 34), (26, 49), (26, 50), (9, 62), (8, 62), (2, 52), (-2, 43)], 43, true)], .bool true, 123, []⟩
def r1r30 : Rec := ⟨146, 1, [.slice (some ⟨0, 0, some 0⟩) 9 9], [(0, pp [(-109, 21), (-89, 17), (-88, 17), (-83, 34), (-83, 35), (-101, 43), (-102, 43), (-106, 32), (-109, 22)], 43, true)], .bool true, 123, []⟩
def r1r31 : Rec := ⟨146, 1, [.slice (some ⟨0, 0, some 0⟩) 9 9], [(0, pp [(-9, 21), (11, 17), (12, 17), (17, 34), (17, 35), (-1, 43), (-2, 43), (-6, 32), (-9, 22)], 43, true)], .bool true, 123, []⟩
def r1r32 : Rec := ⟨146, 1, [.slice (some ⟨0, 0, some 0⟩) 6 6], [(0, pp [(-111, 0), (-89, 0), (-88, 17), (-88, 18), (-108, 22), (-109, 22)], 43, true)], .bool true, 66, []⟩
def r1r33 : Rec := ⟨146, 1, [.slice (some ⟨0, 0, some 0⟩) 6 6], [(0, pp [(-11, 0), (11, 0), (12, 17), (12, 18), (-8, 22), (-9, 22)], 43, true)], .bool true, 66, []⟩
def r1r34 : Rec := ⟨146, 1, [.slice (some ⟨0, 0, some 0⟩) 6 6], [(0, pp [(-111, 0), (-109, -22), (-108, -22), (-88, -18), (-88, -17), (-89, 0)], 43, true)], .bool true, 66, []⟩
def r1r35 : Rec := ⟨146, 1, [.slice (some ⟨0, 0, some 0⟩) 6 6], [(0, pp [(-11, 0), (-9, -22), (-8, -22), (12, -18), (12, -17), (11, 0)], 43, true)], .bool true, 66, []⟩
def r1r36 : Rec := ⟨146, 1, [.slice (some ⟨0, 0, some 0⟩) 9 9], [(0, pp [(-109, -22), (-106, -32), (-102, -43), (-101, -43), (-83, -35), (-83, -34), (-88, -17), (-89, -17), (-109, -21)], 43, true)], .bool true, 123, []⟩
def r1r37 : Rec := ⟨146, 1, [.slice (some ⟨0, 0, some 0⟩) 9 9], [(0, pp [(-9, -22), (-6, -32), (-2, -43), (-1, -43), (17, -35), (17, -34), (12, -17), (11, -17), (-9, -21)], 43, true)], .bool true, 123, []⟩
def r1r38 : Rec := ⟨146, 1, [.slice (some ⟨0, 0, some 0⟩) 9 9], [(0, pp [(-102, -43), (-98, -52), (-92, -62), (-91, -62), (-74, -50), (-74, -49), (-83, -34), (-84, -34), (-102, -42)], 43, true)], .bool true, 123, []⟩
def r1r39 : Rec := ⟨146, 1, [.slice (some ⟨0, 0, some 0⟩) 9 9], [(0, pp [(-2, -43), (2, -52), (8, -62), (9, -62), (26, -50), (26, -49), (17, -34), (16, -34), (-2, -42)], 43, true)], .bool true, 123, []⟩
def r1r40 : Rec := ⟨146, 1, [.slice (some ⟨0, 0, some 0⟩) 9 9], [(0, pp [(-92, -62), (-86, -70), (-78, -78), (-77, -78), (-63, -64), (-63, -63), (-74, -49), (-75, -49), (-92, -61)], 43, true)], .bool true, 123, []⟩
def r1r41 : Rec := ⟨146, 1, [.slice (some ⟨0, 0, some 0⟩) 9 9], [(0, pp [(8, -62), (14, -70), (22, -78), (23, -78), (37, -64), (37, -63), (26, -49), (25, -49), (8, -61)], 43, true)], .bool true, 123, []⟩
def r1r42 : Rec := ⟨146, 1, [.slice (some ⟨0, 0, some 0⟩) 9 9], [(0, pp [(-78, -78), (-70, -86), (-62, -92), (-61, -92), (-49, -75), (-49, -74), (-63, -63), (-64, -63), (-78, -77)], 43, true)], .bool true, 123, []⟩
def r1r43 : Rec := ⟨146, 1, [.slice (some ⟨0, 0, some 0⟩) 9 9], [(0, pp [(22, -78), (30, -86), (38, -92), (39, -92), (51, -75), (51, -74), (37, -63), (36, -63), (22, -77)], 43, true)], .bool true, 123, []⟩
def r1r44 : Rec := ⟨146, 1, [.slice (some ⟨0, 0, some 0⟩) 9 9], [(0, pp [(-62, -92), (-52, -98), (-43, -102), (-42, -102), (-34, -84), (-34, -83), (-49, -74), (-50, -74), (-62, -91)], 43, true)], .bool true, 123, []⟩
def r1r45 : Rec := ⟨146, 1, [.slice (some ⟨0, 0, some 0⟩) 9 9], [(0, pp [(38, -92), (48, -98), (57, -102), (58, -102), (66, -84), (66, -83), (51, -74), (50, -74), (38, -91)], 43, true)], .bool true, 123, []⟩
def r1r46 : Rec := ⟨146, 1, [.slice (some ⟨0, 0, some 0⟩) 9 9], [(0, pp [(-43, -102), (-32, -106), (-22, -109), (-21, -109), (-17, -89), (-17, -88), (-34, -83), (-35, -83), (-43, -101)], 43, true)], .bool true, 123, []⟩
def r1r47 : Rec := ⟨146, 1, [.slice (some ⟨0, 0, some 0⟩) 9 9], [(0, pp [(57, -102), (68, -106), (78, -109), (79, -109), (83, -89), (83, -88), (66, -83), (65, -83), (57, -101)], 43, true)], .bool true, 123, []⟩
def r1r48 : Rec := ⟨146, 1, [.slice (some ⟨0, 0, some 0⟩) 6 6], [(0, pp [(-22, -109), (0, -111), (0, -89), (-17, -88), (-18, -88), (-22, -108)], 43, true)], .bool true, 66, []⟩
def r1r49 : Rec := ⟨146, 1, [.slice (some ⟨0, 0, some 0⟩) 6 6], [(0, pp [(78, -109), (100, -111), (100, -89), (83, -88), (82, -88), (78, -108)], 43, true)], .bool true, 66, []⟩
def r1r50 : Rec := ⟨146, 1, [.slice (some ⟨0, 0, some 0⟩) 6 6], [(0, pp [(0, -111), (22, -109), (22, -108), (18, -88), (17, -88), (0, -89)], 43, true)], .bool true, 66, []⟩
def r1r51 : Rec := ⟨146, 1, [.slice (some ⟨0, 0, some 0⟩) 6 6], [(0, pp [(100, -111), (122, -109), (122, -108), (118, -88), (117, -88), (100, -89)], 43, true)], .bool true, 66, []⟩
def r1r52 : Rec := ⟨146, 1, [.slice (some ⟨0, 0, some 0⟩) 9 9], [(0, pp [(17, -89), (21, -109), (22, -109), (32, -106), (43, -102), (43, -101), (35, -83), (34, -83), (17, -88)], 43, true)], .bool true, 123, []⟩
def r1r53 : Rec := ⟨146, 1, [.slice (some ⟨0, 0, some 0⟩) 9 9], [(0, pp [(117, -89), (121, -109), (122, -109), (132, -106), (143, -102), (143, -101), (135, -83), (134, -83), (117, -88)], 43, true)], .bool true, 123, []⟩
def r1r54 : Rec := ⟨146, 1, [.slice (some ⟨0, 0, some 0⟩) 9 9], [(0, pp [(34, -84), (42, -102), (43, -102), (52, -98), (62, -92), (62, -91), (50, -74), (49, -74), (34, -83)], 43, true)], .bool true, 123, []⟩
def r1r55 : Rec := ⟨146, 1, [.slice (some ⟨0, 0, some 0⟩) 9 9], [(0, pp [(134, -84), (142, -102), (143, -102), (152, -98), (162, -92), (162, -91), (150, -74), (149, -74), (134, -83)], 43, true)], .bool true, 123, []⟩
def r1r56 : Rec := ⟨146, 1, [.slice (some ⟨0, 0, some 0⟩) 9 9], [(0, pp [(49, -75), (61, -92), (62, -92), (70, -86), (78, -78), (78, -77), (64, -63), (63, -63), (49, -74)], 43, true)], .bool true, 123, []⟩
def r1r57 : Rec := ⟨146, 1, [.slice (some ⟨0, 0, some 0⟩) 9 9], [(0, pp [(149, -75), (161, -92), (162, -92), (170, -86), (178, -78), (178, -77), (164, -63), (163, -63), (149, -74)], 43, true)], .bool true, 123, []⟩
def r1r58 : Rec := ⟨146, 1, [.slice (some ⟨0, 0, some 0⟩) 9 9], [(0, pp [(63, -64), (77, -78), (78, -78), (86, -70), (92, -62), (92, -61), (75, -49), (74, -49), (63, -63)], 43, true)], .bool true, 123, []⟩
def r1r59 : Rec := ⟨146, 1, [.slice (some ⟨0, 0, some 0⟩) 9 9], [(0, pp [(163, -64), (177, -78), (178, -78), (186, -70), (192, -62), (192, -61), (175, -49), (174, -49), (163, -63)], 43, true)], .bool true, 123, []⟩
def r1r60 : Rec := ⟨146, 1, [.slice (some ⟨0, 0, some 0⟩) 9 9], [(0, pp [(74, -50), (91, -62), (92, -62), (98, -52), (102, -43), (102, -42), (84, -34), (83, -34), (74, -49)], 43, true)], .bool true, 123, []⟩
def r1r61 : Rec := ⟨146, 1, [.slice (some ⟨0, 0, some 0⟩) 9 9], [(0, pp [(174, -50), (191, -62), (192, -62), (198, -52), (202, -43), (202, -42), (184, -34), (183, -34), (174, -49)], 43, true)], .bool true, 123, []⟩
def r1r62 : Rec := ⟨146, 1, [.slice (some ⟨0, 0, some 0⟩) 9 9], [(0, pp [(83, -35), (101, -43), (102, -43), (106, -32), (109, -22), (109, -21), (89, -17), (88, -17), (83, -34)], 43, true)], .bool true, 123, []⟩
def r1r63 : Rec := ⟨146, 1, [.slice (some ⟨0, 0, some 0⟩) 9 9], [(0, pp [(183, -35), (201, -43), (202, -43), (206, -32), (209, -22), (209, -21), (189, -17), (188, -17), (183, -34)], 43, true)], .bool true, 123, []⟩
def r1r64 : Rec := ⟨146, 1, [.slice (some ⟨0, 0, some 0⟩) 6 6], [(0, pp [(88, -18), (108, -22), (109, -22), (111, 0), (89, 0), (88, -17)], 43, true)], .bool true, 66, []⟩
def r1r65 : Rec := ⟨146, 1, [.slice (some ⟨0, 0, some 0⟩) 6 6], [(0, pp [(188, -18), (208, -22), (209, -22), (211, 0), (189, 0), (188, -17)], 43, true)], .bool true, 66, []⟩
def r1r66 : Rec := ⟨146, 1, [.slice (some ⟨0, 0, some 0⟩) 1 1], [(0, pp [(0, 0)], 43, true)], .bool true, 4, []⟩
def r1r67 : Rec := ⟨146, 1, [S 0 0 1 1], [(0, pp [(7, 7)], 43, false)], .bool true, 4, []⟩
def r1r68 : Rec := ⟨146, 1, [.slice (some ⟨0, 0, some 0⟩) 4 4], [(0, pp [(0, 0), (49, 0), (49, 49), (0, 49)], 43, true)], .bool true, 38, []⟩
def r1r69 : Rec := ⟨146, 1, [S 0 0 1 1], [(0, pp [(70, 7)], 43, false)], .bool true, 4, []⟩
def r1r70 : Rec := ⟨146, 1, [.slice (some ⟨0, 0, some 0⟩) 1 1], [(0, pp [(7, 7)], 43, true)], .bool true, 4, []⟩
def r1r71 : Rec := ⟨146, 1, [.slice (some ⟨0, 0, some 0⟩) 1 1], [(0, pp [(70, 7)], 43, true)], .bool true, 4, []⟩
theorem r1q0 : List.all [r1r0, r1r1, r1r2, r1r3, r1r4, r1r5, r1r6, r1r7, r1r8] (okB words0) = true := by kernel_rfl
theorem r1r0_good : Good Tryz.prog 146 (orcRec r1r0) := good_ok good0 (r := r1r0) (all_hd r1q0)
theorem r1r1_good : Good Tryz.prog 146 (orcRec r1r1) := good_ok good0 (r := r1r1) (all_hd (all_tl r1q0))
theorem r1r2_good : Good Tryz.prog 146 (orcRec r1r2) := good_ok good0 (r := r1r2) (all_hd (all_tl (all_tl r1q0)))
theorem r1r3_good : Good Tryz.prog 146 (orcRec r1r3) := good_ok good0 (r := r1r3) (all_hd (all_tl (all_tl (all_tl r1q0))))
theorem r1r4_good : Good Tryz.prog 146 (orcRec r1r4) := good_ok good0 (r := r1r4) (all_hd (all_tl (all_tl (all_tl (all_tl r1q0)))))
theorem r1r5_good : Good Tryz.prog 146 (orcRec r1r5) := good_ok good0 (r := r1r5) (all_hd (all_tl (all_tl (all_tl (all_tl (all_tl r1q0))))))
theorem r1r6_good : Good Tryz.prog 146 (orcRec r1r6) := good_ok good0 (r := r1r6) (all_hd (all_tl (all_tl (all_tl (all_tl (all_tl (all_tl r1q0)))))))
theorem r1r7_good : Good Tryz.prog 146 (orcRec r1r7) := good_ok good0 (r := r1r7) (all_hd (all_tl (all_tl (all_tl (all_tl (all_tl (all_tl (all_tl r1q0))))))))
theorem r1r8_good : Good Tryz.prog 146 (orcRec r1r8) := good_ok good0 (r := r1r8) (all_hd (all_tl (all_tl (all_tl (all_tl (all_tl (all_tl (all_tl (all_tl r1q0)))))))))
theorem r1q1 : List.all [r1r9, r1r10, r1r11, r1r12, r1r13, r1r14] (okB words0) = true := by kernel_rfl
theorem r1r9_good : Good Tryz.prog 146 (orcRec r1r9) := good_ok good0 (r := r1r9) (all_hd r1q1)
theorem r1r10_good : Good Tryz.prog 146 (orcRec r1r10) := good_ok good0 (r := r1r10) (all_hd (all_tl r1q1))
theorem r1r11_good : Good Tryz.prog 146 (orcRec r1r11) := good_ok good0 (r := r1r11) (all_hd (all_tl (all_tl r1q1)))
theorem r1r12_good : Good Tryz.prog 146 (orcRec r1r12) := good_ok good0 (r := r1r12) (all_hd (all_tl (all_tl (all_tl r1q1))))
theorem r1r13_good : Good Tryz.prog 146 (orcRec r1r13) := good_ok good0 (r := r1r13) (all_hd (all_tl (all_tl (all_tl (all_tl r1q1)))))
theorem r1r14_good : Good Tryz.prog 146 (orcRec r1r14) := good_ok good0 (r := r1r14) (all_hd (all_tl (all_tl (all_tl (all_tl (all_tl r1q1))))))
theorem r1q2 : List.all [r1r15, r1r16, r1r17, r1r18, r1r19, r1r20, r1r21, r1r22] (okB words0) = true := by kernel_rfl
theorem r1r15_good : Good Tryz.prog 146 (orcRec r1r15) := good_ok good0 (r := r1r15) (all_hd r1q2)
theorem r1r16_good : Good Tryz.prog 146 (orcRec r1r16) := good_ok good0 (r := r1r16) (all_hd (all_tl r1q2))
theorem r1r17_good : Good Tryz.prog 146 (orcRec r1r17) := good_ok good0 (r := r1r17) (all_hd (all_tl (all_tl r1q2)))
theorem r1r18_good : Good Tryz.prog 146 (orcRec r1r18) := good_ok good0 (r := r1r18) (all_hd (all_tl (all_tl (all_tl r1q2))))
theorem r1r19_good : Good Tryz.prog 146 (orcRec r1r19) := good_ok good0 (r := r1r19) (all_hd (all_tl (all_tl (all_tl (all_tl r1q2)))))
theorem r1r20_good : Good Tryz.prog 146 (orcRec r1r20) := good_ok good0 (r := r1r20) (all_hd (all_tl (all_tl (all_tl (all_tl (all_tl r1q2))))))
theorem r1r21_good : Good Tryz.prog 146 (orcRec r1r21) := good_ok good0 (r := r1r21) (all_hd (all_tl (all_tl (all_tl (all_tl (all_tl (all_tl r1q2)))))))
theorem r1r22_good : Good Tryz.prog 146 (orcRec r1r22) := good_ok good0 (r := r1r22) (all_hd (all_tl (all_tl (all_tl (all_tl (all_tl (all_tl (all_tl r1q2))))))))
theorem r1q3 : List.all [r1r23, r1r24, r1r25, r1r26, r1r27, r1r28] (okB words0) = true := by kernel_rfl
theorem r1r23_good : Good Tryz.prog 146 (orcRec r1r23) := good_ok good0 (r := r1r23) (all_hd r1q3)
theorem r1r24_good : Good Tryz.prog 146 (orcRec r1r24) := good_ok good0 (r := r1r24) (all_hd (all_tl r1q3))
theorem r1r25_good : Good Tryz.prog 146 (orcRec r1r25) := good_ok good0 (r := r1r25) (all_hd (all_tl (all_tl r1q3)))
theorem r1r26_good : Good Tryz.prog 146 (orcRec r1r26) := good_ok good0 (r := r1r26) (all_hd (all_tl (all_tl (all_tl r1q3))))
theorem r1r27_good : Good Tryz.prog 146 (orcRec r1r27) := good_ok good0 (r := r1r27) (all_hd (all_tl (all_tl (all_tl (all_tl r1q3)))))
theorem r1r28_good : Good Tryz.prog 146 (orcRec r1r28) := good_ok good0 (r := r1r28) (all_hd (all_tl (all_tl (all_tl (all_tl (all_tl r1q3))))))
theorem r1q4 : List.all [r1r29, r1r30, r1r31, r1r32, r1r33, r1r34, r1r35, r1r36] (okB words0) = true := by kernel_rfl
theorem r1r29_good : Good Tryz.prog 146 (orcRec r1r29) := good_ok good0 (r := r1r29) (all_hd r1q4)
theorem r1r30_good : Good Tryz.prog 146 (orcRec r1r30) := good_ok good0 (r := r1r30) (all_hd (all_tl r1q4))
theorem r1r31_good : Good Tryz.prog 146 (orcRec r1r31) := good_ok good0 (r := r1r31) (all_hd (all_tl (all_tl r1q4)))
theorem r1r32_good : Good Tryz.prog 146 (orcRec r1r32) := good_ok good0 (r := r1r32) (all_hd (all_tl (all_tl (all_tl r1q4))))
theorem r1r33_good : Good Tryz.prog 146 (orcRec r1r33) := good_ok good0 (r := r1r33) (all_hd (all_tl (all_tl (all_tl (all_tl r1q4)))))
theorem r1r34_good : Good Tryz.prog 146 (orcRec r1r34) := good_ok good0 (r := r1r34) (all_hd (all_tl (all_tl (all_tl (all_tl (all_tl r1q4))))))
theorem r1r35_good : Good Tryz.prog 146 (orcRec r1r35) := good_ok good0 (r := r1r35) (all_hd (all_tl (all_tl (all_tl (all_tl (all_tl (all_tl r1q4)))))))
theorem r1r36_good : Good Tryz.prog 146 (orcRec r1r36) := good_ok good0 (r := r1r36) (all_hd (all_tl (all_tl (all_tl (all_tl (all_tl (all_tl (all_tl r1q4))))))))
theorem r1q5 : List.all [r1r37, r1r38, r1r39, r1r40, r1r41, r1r42] (okB words0) = true := by kernel_rfl
theorem r1r37_good : Good Tryz.prog 146 (orcRec r1r37) := good_ok good0 (r := r1r37) (all_hd r1q5)
theorem r1r38_good : Good Tryz.prog 146 (orcRec r1r38) := good_ok good0 (r := r1r38) (all_hd (all_tl r1q5))
theorem r1r39_good : Good Tryz.prog 146 (orcRec r1r39) := good_ok good0 (r := r1r39) (all_hd (all_tl (all_tl r1q5)))
theorem r1r40_good : Good Tryz.prog 146 (orcRec r1r40) := good_ok good0 (r := r1r40) (all_hd (all_tl (all_tl (all_tl r1q5))))
theorem r1r41_good : Good Tryz.prog 146 (orcRec r1r41) := good_ok good0 (r := r1r41) (all_hd (all_tl (all_tl (all_tl (all_tl r1q5)))))
theorem r1r42_good : Good Tryz.prog 146 (orcRec r1r42) := good_ok good0 (r := r1r42) (all_hd (all_tl (all_tl (all_tl (all_tl (all_tl r1q5))))))
theorem r1q6 : List.all [r1r43, r1r44, r1r45, r1r46, r1r47, r1r48, r1r49, r1r50] (okB words0) = true := by kernel_rfl
theorem r1r43_good : Good Tryz.prog 146 (orcRec r1r43) := good_ok good0 (r := r1r43) (all_hd r1q6)
theorem r1r44_good : Good Tryz.prog 146 (orcRec r1r44) := good_ok good0 (r := r1r44) (all_hd (all_tl r1q6))
theorem r1r45_good : Good Tryz.prog 146 (orcRec r1r45) := good_ok good0 (r := r1r45) (all_hd (all_tl (all_tl r1q6)))
theorem r1r46_good : Good Tryz.prog 146 (orcRec r1r46) := good_ok good0 (r := r1r46) (all_hd (all_tl (all_tl (all_tl r1q6))))
theorem r1r47_good : Good Tryz.prog 146 (orcRec r1r47) := good_ok good0 (r := r1r47) (all_hd (all_tl (all_tl (all_tl (all_tl r1q6)))))
theorem r1r48_good : Good Tryz.prog 146 (orcRec r1r48) := good_ok good0 (r := r1r48) (all_hd (all_tl (all_tl (all_tl (all_tl (all_tl r1q6))))))
theorem r1r49_good : Good Tryz.prog 146 (orcRec r1r49) := good_ok good0 (r := r1r49) (all_hd (all_tl (all_tl (all_tl (all_tl (all_tl (all_tl r1q6)))))))
theorem r1r50_good : Good Tryz.prog 146 (orcRec r1r50) := good_ok good0 (r := r1r50) (all_hd (all_tl (all_tl (all_tl (all_tl (all_tl (all_tl (all_tl r1q6))))))))
theorem r1q7 : List.all [r1r51, r1r52, r1r53, r1r54, r1r55, r1r56, r1r57] (okB words0) = true := by kernel_rfl
theorem r1r51_good : Good Tryz.prog 146 (orcRec r1r51) := good_ok good0 (r := r1r51) (all_hd r1q7)
theorem r1r52_good : Good Tryz.prog 146 (orcRec r1r52) := good_ok good0 (r := r1r52) (all_hd (all_tl r1q7))
theorem r1r53_good : Good Tryz.prog 146 (orcRec r1r53) := good_ok good0 (r := r1r53) (all_hd (all_tl (all_tl r1q7)))
theorem r1r54_good : Good Tryz.prog 146 (orcRec r1r54) := good_ok good0 (r := r1r54) (all_hd (all_tl (all_tl (all_tl r1q7))))
theorem r1r55_good : Good Tryz.prog 146 (orcRec r1r55) := good_ok good0 (r := r1r55) (all_hd (all_tl (all_tl (all_tl (all_tl r1q7)))))
theorem r1r56_good : Good Tryz.prog 146 (orcRec r1r56) := good_ok good0 (r := r1r56) (all_hd (all_tl (all_tl (all_tl (all_tl (all_tl r1q7))))))
theorem r1r57_good : Good Tryz.prog 146 (orcRec r1r57) := good_ok good0 (r := r1r57) (all_hd (all_tl (all_tl (all_tl (all_tl (all_tl (all_tl r1q7)))))))
theorem r1q8 : List.all [r1r58, r1r59, r1r60, r1r61, r1r62, r1r63, r1r64] (okB words0) = true := by kernel_rfl
theorem r1r58_good : Good Tryz.prog 146 (orcRec r1r58) := good_ok good0 (r := r1r58) (all_hd r1q8)
theorem r1r59_good : Good Tryz.prog 146 (orcRec r1r59) := good_ok good0 (r := r1r59) (all_hd (all_tl r1q8))
theorem r1r60_good : Good Tryz.prog 146 (orcRec r1r60) := good_ok good0 (r := r1r60) (all_hd (all_tl (all_tl r1q8)))
theorem r1r61_good : Good Tryz.prog 146 (orcRec r1r61) := good_ok good0 (r := r1r61) (all_hd (all_tl (all_tl (all_tl r1q8))))
theorem r1r62_good : Good Tryz.prog 146 (orcRec r1r62) := good_ok good0 (r := r1r62) (all_hd (all_tl (all_tl (all_tl (all_tl r1q8)))))
theorem r1r63_good : Good Tryz.prog 146 (orcRec r1r63) := good_ok good0 (r := r1r63) (all_hd (all_tl (all_tl (all_tl (all_tl (all_tl r1q8))))))
theorem r1r64_good : Good Tryz.prog 146 (orcRec r1r64) := good_ok good0 (r := r1r64) (all_hd (all_tl (all_tl (all_tl (all_tl (all_tl (all_tl r1q8)))))))
theorem r1q9 : List.all [r1r65, r1r66, r1r67, r1r68, r1r69, r1r70, r1r71] (okB words0) = true := by kernel_rfl
theorem r1r65_good : Good Tryz.prog 146 (orcRec r1r65) := good_ok good0 (r := r1r65) (all_hd r1q9)
theorem r1r66_good : Good Tryz.prog 146 (orcRec r1r66) := good_ok good0 (r := r1r66) (all_hd (all_tl r1q9))
theorem r1r67_good : Good Tryz.prog 146 (orcRec r1r67) := good_ok good0 (r := r1r67) (all_hd (all_tl (all_tl r1q9)))
theorem r1r68_good : Good Tryz.prog 146 (orcRec r1r68) := good_ok good0 (r := r1r68) (all_hd (all_tl (all_tl (all_tl r1q9))))
theorem r1r69_good : Good Tryz.prog 146 (orcRec r1r69) := good_ok good0 (r := r1r69) (all_hd (all_tl (all_tl (all_tl (all_tl r1q9)))))
theorem r1r70_good : Good Tryz.prog 146 (orcRec r1r70) := good_ok good0 (r := r1r70) (all_hd (all_tl (all_tl (all_tl (all_tl (all_tl r1q9))))))
theorem r1r71_good : Good Tryz.prog 146 (orcRec r1r71) := good_ok good0 (r := r1r71) (all_hd (all_tl (all_tl (all_tl (all_tl (all_tl (all_tl r1q9)))))))
def r1t0 : Word := orIf (ltK (-218000306)) (orcRec r1r36) (orcRec r1r30)
theorem r1t0_good : Good Tryz.prog 146 r1t0 := Good.ite r1r36_good r1r30_good
def r1t1 : Word := orIf (ltK (-218000349)) (orTry (orcRec r1r32) (orcRec r1r34)) r1t0
theorem r1t1_good : Good Tryz.prog 146 r1t1 := Good.ite (Good.or r1r32_good r1r34_good) r1t0_good
def r1t2 : Word := orIf (ltK (-204000264)) (orcRec r1r38) (orcRec r1r28)
theorem r1t2_good : Good Tryz.prog 146 r1t2 := Good.ite r1r38_good r1r28_good
def r1t3 : Word := orIf (ltK (-156000312)) (orcRec r1r26) (orcRec r1r42)
theorem r1t3_good : Good Tryz.prog 146 r1t3 := Good.ite r1r26_good r1r42_good
def r1t4 : Word := orIf (ltK (-184000215)) (orcRec r1r40) r1t3
theorem r1t4_good : Good Tryz.prog 146 r1t4 := Good.ite r1r40_good r1t3_good
def r1t5 : Word := orIf (ltK (-184000338)) r1t2 r1t4
theorem r1t5_good : Good Tryz.prog 146 r1t5 := Good.ite r1t2_good r1t4_good
def r1t6 : Word := orIf (ltK (-204000349)) r1t1 r1t5
theorem r1t6_good : Good Tryz.prog 146 r1t6 := Good.ite r1t1_good r1t5_good
def r1t7 : Word := orIf (ltK (-124000278)) (orcRec r1r24) (orcRec r1r44)
theorem r1t7_good : Good Tryz.prog 146 r1t7 := Good.ite r1r24_good r1r44_good
def r1t8 : Word := orIf (ltK (-86000231)) (orcRec r1r22) (orcRec r1r46)
theorem r1t8_good : Good Tryz.prog 146 r1t8 := Good.ite r1r22_good r1r46_good
def r1t9 : Word := orIf (ltK (-124000095)) r1t7 r1t8
theorem r1t9_good : Good Tryz.prog 146 r1t9 := Good.ite r1t7_good r1t8_good
def r1t10 : Word := orIf (ltK (-44000175)) (orcRec r1r20) (orcRec r1r48)
theorem r1t10_good : Good Tryz.prog 146 r1t10 := Good.ite r1r20_good r1r48_good
def r1t11 : Word := orIf (ltK (-22000033)) (orcRec r1r18) (orTry (orcRec r1r33) (orcRec r1r35))
theorem r1t11_good : Good Tryz.prog 146 r1t11 := Good.ite r1r18_good (Good.or r1r33_good r1r35_good)
def r1t12 : Word := orIf (ltK (-43999958)) r1t10 r1t11
theorem r1t12_good : Good Tryz.prog 146 r1t12 := Good.ite r1t10_good r1t11_good
def r1t13 : Word := orIf (ltK (-86000028)) r1t9 r1t12
theorem r1t13_good : Good Tryz.prog 146 r1t13 := Good.ite r1t9_good r1t12_good
def r1t14 : Word := orIf (ltK (-156000157)) r1t6 r1t13
theorem r1t14_good : Good Tryz.prog 146 r1t14 := Good.ite r1t6_good r1t13_good
def r1t15 : Word := orIf (ltK (-18000006)) (orcRec r1r37) (orcRec r1r31)
theorem r1t15_good : Good Tryz.prog 146 r1t15 := Good.ite r1r37_good r1r31_good
def r1t16 : Word := orIf (ltK (-3999964)) (orcRec r1r39) (orcRec r1r29)
theorem r1t16_good : Good Tryz.prog 146 r1t16 := Good.ite r1r39_good r1r29_good
def r1t17 : Word := orIf (ltK (-4000049)) r1t15 r1t16
theorem r1t17_good : Good Tryz.prog 146 r1t17 := Good.ite r1t15_good r1t16_good
def r1t18 : Word := orIf (ltK (0)) (orcRec r1r50) (orTry (orcRec r1r0) (orTry (orcRec r1r66) (orcRec r1r68)))
theorem r1t18_good : Good Tryz.prog 146 r1t18 := Good.ite r1r50_good (Good.or r1r0_good (Good.or r1r66_good r1r68_good))
def r1t19 : Word := orIf (ltK (89)) r1t18 (orcRec r1r16)
theorem r1t19_good : Good Tryz.prog 146 r1t19 := Good.ite r1t18_good r1r16_good
def r1t20 : Word := orIf (ltK (-111)) r1t17 r1t19
theorem r1t20_good : Good Tryz.prog 146 r1t20 := Good.ite r1t17_good r1t19_good
def r1t21 : Word := orIf (ltK (16000085)) (orcRec r1r41) (orcRec r1r27)
theorem r1t21_good : Good Tryz.prog 146 r1t21 := Good.ite r1r41_good r1r27_good
def r1t22 : Word := orIf (ltK (15999962)) (orTry (orcRec r1r67) (orcRec r1r70)) r1t21
theorem r1t22_good : Good Tryz.prog 146 r1t22 := Good.ite (Good.or r1r67_good r1r70_good) r1t21_good
def r1t23 : Word := orIf (ltK (34000139)) (orcRec r1r52) (orcRec r1r14)
theorem r1t23_good : Good Tryz.prog 146 r1t23 := Good.ite r1r52_good r1r14_good
def r1t24 : Word := orIf (ltK (68000018)) (orcRec r1r25) (orcRec r1r54)
theorem r1t24_good : Good Tryz.prog 146 r1t24 := Good.ite r1r25_good r1r54_good
def r1t25 : Word := orIf (ltK (44000143)) (orcRec r1r43) r1t24
theorem r1t25_good : Good Tryz.prog 146 r1t25 := Good.ite r1r43_good r1t24_good
def r1t26 : Word := orIf (ltK (43999988)) r1t23 r1t25
theorem r1t26_good : Good Tryz.prog 146 r1t26 := Good.ite r1t23_good r1t25_good
def r1t27 : Word := orIf (ltK (33999962)) r1t22 r1t26
theorem r1t27_good : Good Tryz.prog 146 r1t27 := Good.ite r1t22_good r1t26_good
def r1t28 : Word := orIf (ltK (14000028)) r1t20 r1t27
theorem r1t28_good : Good Tryz.prog 146 r1t28 := Good.ite r1t20_good r1t27_good
def r1t29 : Word := orIf (ltK (-18000049)) r1t14 r1t28
theorem r1t29_good : Good Tryz.prog 146 r1t29 := Good.ite r1t14_good r1t28_good
def r1t30 : Word := orIf (ltK (76000022)) (orcRec r1r12) (orcRec r1r45)
theorem r1t30_good : Good Tryz.prog 146 r1t30 := Good.ite r1r12_good r1r45_good
def r1t31 : Word := orIf (ltK (80000120)) (orcRec r1r23) (orcRec r1r1)
theorem r1t31_good : Good Tryz.prog 146 r1t31 := Good.ite r1r23_good r1r1_good
def r1t32 : Word := orIf (ltK (76000205)) r1t30 r1t31
theorem r1t32_good : Good Tryz.prog 146 r1t32 := Good.ite r1t30_good r1t31_good
def r1t33 : Word := orIf (ltK (98000221)) (orcRec r1r56) (orcRec r1r10)
theorem r1t33_good : Good Tryz.prog 146 r1t33 := Good.ite r1r56_good r1r10_good
def r1t34 : Word := orIf (ltK (126000125)) (orcRec r1r21) (orcRec r1r58)
theorem r1t34_good : Good Tryz.prog 146 r1t34 := Good.ite r1r21_good r1r58_good
def r1t35 : Word := orIf (ltK (114000272)) (orcRec r1r47) r1t34
theorem r1t35_good : Good Tryz.prog 146 r1t35 := Good.ite r1r47_good r1t34_good
def r1t36 : Word := orIf (ltK (114000069)) r1t33 r1t35
theorem r1t36_good : Good Tryz.prog 146 r1t36 := Good.ite r1t33_good r1t35_good
def r1t37 : Word := orIf (ltK (98000072)) r1t32 r1t36
theorem r1t37_good : Good Tryz.prog 146 r1t37 := Good.ite r1t32_good r1t36_good
def r1t38 : Word := orIf (ltK (140000217)) (orcRec r1r8) (orTry (orcRec r1r69) (orcRec r1r71))
theorem r1t38_good : Good Tryz.prog 146 r1t38 := Good.ite r1r8_good (Good.or r1r69_good r1r71_good)
def r1t39 : Word := orIf (ltK (148000172)) r1t38 (orcRec r1r60)
theorem r1t39_good : Good Tryz.prog 146 r1t39 := Good.ite r1t38_good r1r60_good
def r1t40 : Word := orIf (ltK (156000125)) (orcRec r1r6) (orcRec r1r49)
theorem r1t40_good : Good Tryz.prog 146 r1t40 := Good.ite r1r6_good r1r49_good
def r1t41 : Word := orIf (ltK (166000283)) (orcRec r1r62) (orcRec r1r4)
theorem r1t41_good : Good Tryz.prog 146 r1t41 := Good.ite r1r62_good r1r4_good
def r1t42 : Word := orIf (ltK (166000214)) (orcRec r1r19) r1t41
theorem r1t42_good : Good Tryz.prog 146 r1t42 := Good.ite r1r19_good r1t41_good
def r1t43 : Word := orIf (ltK (156000342)) r1t40 r1t42
theorem r1t43_good : Good Tryz.prog 146 r1t43 := Good.ite r1t40_good r1t42_good
def r1t44 : Word := orIf (ltK (148000271)) r1t39 r1t43
theorem r1t44_good : Good Tryz.prog 146 r1t44 := Good.ite r1t39_good r1t43_good
def r1t45 : Word := orIf (ltK (126000252)) r1t37 r1t44
theorem r1t45_good : Good Tryz.prog 146 r1t45 := Good.ite r1t37_good r1t44_good
def r1t46 : Word := orIf (ltK (176000281)) (orcRec r1r64) (orcRec r1r2)
theorem r1t46_good : Good Tryz.prog 146 r1t46 := Good.ite r1r64_good r1r2_good
def r1t47 : Word := orIf (ltK (200000389)) (orcRec r1r51) (orcRec r1r17)
theorem r1t47_good : Good Tryz.prog 146 r1t47 := Good.ite r1r51_good r1r17_good
def r1t48 : Word := orIf (ltK (200000189)) r1t46 r1t47
theorem r1t48_good : Good Tryz.prog 146 r1t48 := Good.ite r1t46_good r1t47_good
def r1t49 : Word := orIf (ltK (234000439)) (orcRec r1r53) (orcRec r1r15)
theorem r1t49_good : Good Tryz.prog 146 r1t49 := Good.ite r1r53_good r1r15_good
def r1t50 : Word := orIf (ltK (298000372)) (orcRec r1r13) (orcRec r1r57)
theorem r1t50_good : Good Tryz.prog 146 r1t50 := Good.ite r1r13_good r1r57_good
def r1t51 : Word := orIf (ltK (268000485)) (orcRec r1r55) r1t50
theorem r1t51_good : Good Tryz.prog 146 r1t51 := Good.ite r1r55_good r1t50_good
def r1t52 : Word := orIf (ltK (268000318)) r1t49 r1t51
theorem r1t52_good : Good Tryz.prog 146 r1t52 := Good.ite r1t49_good r1t51_good
def r1t53 : Word := orIf (ltK (234000262)) r1t48 r1t52
theorem r1t53_good : Good Tryz.prog 146 r1t53 := Good.ite r1t48_good r1t52_good
def r1t54 : Word := orIf (ltK (326000425)) (orcRec r1r11) (orcRec r1r59)
theorem r1t54_good : Good Tryz.prog 146 r1t54 := Good.ite r1r11_good r1r59_good
def r1t55 : Word := orIf (ltK (348000472)) (orcRec r1r9) (orcRec r1r61)
theorem r1t55_good : Good Tryz.prog 146 r1t55 := Good.ite r1r9_good r1r61_good
def r1t56 : Word := orIf (ltK (326000552)) r1t54 r1t55
theorem r1t56_good : Good Tryz.prog 146 r1t56 := Good.ite r1t54_good r1t55_good
def r1t57 : Word := orIf (ltK (366000514)) (orcRec r1r7) (orcRec r1r63)
theorem r1t57_good : Good Tryz.prog 146 r1t57 := Good.ite r1r7_good r1r63_good
def r1t58 : Word := orIf (ltK (376000581)) (orcRec r1r65) (orcRec r1r3)
theorem r1t58_good : Good Tryz.prog 146 r1t58 := Good.ite r1r65_good r1r3_good
def r1t59 : Word := orIf (ltK (376000546)) (orcRec r1r5) r1t58
theorem r1t59_good : Good Tryz.prog 146 r1t59 := Good.ite r1r5_good r1t58_good
def r1t60 : Word := orIf (ltK (366000583)) r1t57 r1t59
theorem r1t60_good : Good Tryz.prog 146 r1t60 := Good.ite r1t57_good r1t59_good
def r1t61 : Word := orIf (ltK (348000571)) r1t56 r1t60
theorem r1t61_good : Good Tryz.prog 146 r1t61 := Good.ite r1t56_good r1t60_good
def r1t62 : Word := orIf (ltK (298000521)) r1t53 r1t61
theorem r1t62_good : Good Tryz.prog 146 r1t62 := Good.ite r1t53_good r1t61_good
def r1t63 : Word := orIf (ltK (176000246)) r1t45 r1t62
theorem r1t63_good : Good Tryz.prog 146 r1t63 := Good.ite r1t45_good r1t62_good
def r1t64 : Word := orIf (ltK (68000185)) r1t29 r1t63
theorem r1t64_good : Good Tryz.prog 146 r1t64 := Good.ite r1t29_good r1t63_good
def words1 : List (FuncId × Word) := (146, r1t64) :: (282, (hasG r1t64)) :: words0
theorem words1_good : ∀ x ∈ words1, Good Tryz.prog x.1 x.2 := by
  intro x hx
  unfold words1 at hx
  rcases List.mem_cons.1 hx with rfl | hx
  · exact r1t64_good
  rcases List.mem_cons.1 hx with rfl | hx
  · exact (good_282 r1t64_good)
  exact good0 x hx
end
end Go.Ev
