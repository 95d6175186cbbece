/- What runs found: hull.Hull. Conditions: none. Printed by wip/genR.py. -/
import Derived.Test.YtcgghcicnanliaaGreatDoorM34
set_option linter.unusedVariables false
set_option linter.unusedSimpArgs false
namespace Go.Ev
open Go.Proofs Go.Proofs.YtcgghcicnanliaaGreatDoor
noncomputable section
set_option maxRecDepth 100000
def r2b0 : Bk := (3, pp [(0, 0)], 43, true)
def r2b1 : Bk := (3, pp [(7, 7)], 43, true)
def r2r0 : Rec := ⟨158, 1, [S 0 0 1 1], [(0, pp [(0, 0)], 43, false)], Tu [.slice (some ⟨3, 0, some 0⟩) 1 1, i 0], 4, [r2b0]⟩
def r2r1 : Rec := ⟨158, 1, [S 0 0 1 1], [(0, pp [(49, 49)], 43, false)], Tu [.slice (some ⟨3, 0, some 0⟩) 1 1, i 0], 4, [(3, pp [(49, 49)], 43, true)]⟩
def r2r2 : Rec := ⟨158, 1, [S 0 0 1 1], [(0, pp [(100, 0)], 43, false)], Tu [.slice (some ⟨3, 0, some 0⟩) 1 1, i 0], 4, [(3, pp [(100, 0)], 43, true)]⟩
def r2r3 : Rec := ⟨158, 1, [S 0 0 1 1], [(0, pp [(20, 0)], 43, false)], Tu [.slice (some ⟨3, 0, some 0⟩) 1 1, i 0], 4, [(3, pp [(20, 0)], 43, true)]⟩
def r2r4 : Rec := ⟨158, 1, [S 0 0 1 1], [(0, pp [(100, 50)], 43, false)], Tu [.slice (some ⟨3, 0, some 0⟩) 1 1, i 0], 4, [(3, pp [(100, 50)], 43, true)]⟩
def r2r5 : Rec := ⟨158, 1, [.slice (some ⟨0, 0, some 0⟩) 20 20], [(0, pp [(89, 0), (89, 0), (90, 0), (90, 0), (88, 17), (88, 18), (89, 17), (89, 18), (110, 0), (110, 0), (111, 0), (111, 0), (109, 10), (109, 11), (110, 10), (110, 11), (108, 21), (108, 22), (109, 21), (109, 22)], 43, true)], Tu [.slice (some ⟨301, 0, some 0⟩) 6 6, i 0], 302, [(301, pp [(88, 17), (89, 0), (111, 0), (109, 22), (108, 22), (88, 18)], 43, true)]⟩
def r2r6 : Rec := ⟨158, 1, [.slice (some ⟨0, 0, some 0⟩) 20 20], [(0, pp [(88, 17), (88, 18), (89, 17), (89, 18), (83, 34), (83, 35), (84, 34), (84, 35), (108, 21), (108, 22), (109, 21), (109, 22), (105, 31), (105, 32), (106, 31), (106, 32), (101, 42), (101, 43), (102, 42), (102, 43)], 43, true)], Tu [.slice (some ⟨310, 0, some 0⟩) 9 9, i 0], 311, [(310, pp [(83, 34), (88, 17), (89, 17), (109, 21), (109, 22), (106, 32), (102, 43), (101, 43), (83, 35)], 43, true)]⟩
def r2r7 : Rec := ⟨158, 1, [.slice (some ⟨0, 0, some 0⟩) 20 20], [(0, pp [(83, 34), (83, 35), (84, 34), (84, 35), (74, 49), (74, 50), (75, 49), (75, 50), (101, 42), (101, 43), (102, 42), (102, 43), (97, 51), (97, 52), (98, 51), (98, 52), (91, 61), (91, 62), (92, 61), (92, 62)], 43, true)], Tu [.slice (some ⟨310, 0, some 0⟩) 9 9, i 0], 311, [(310, pp [(74, 49), (83, 34), (84, 34), (102, 42), (102, 43), (98, 52), (92, 62), (91, 62), (74, 50)], 43, true)]⟩
def r2r8 : Rec := ⟨158, 1, [.slice (some ⟨0, 0, some 0⟩) 20 20], [(0, pp [(74, 49), (74, 50), (75, 49), (75, 50), (63, 63), (63, 64), (64, 63), (64, 64), (91, 61), (91, 62), (92, 61), (92, 62), (85, 69), (85, 70), (86, 69), (86, 70), (77, 77), (77, 78), (78, 77), (78, 78)], 43, true)], Tu [.slice (some ⟨310, 0, some 0⟩) 9 9, i 0], 311, [(310, pp [(63, 63), (74, 49), (75, 49), (92, 61), (92, 62), (86, 70), (78, 78), (77, 78), (63, 64)], 43, true)]⟩
def r2r9 : Rec := ⟨158, 1, [.slice (some ⟨0, 0, some 0⟩) 20 20], [(0, pp [(63, 63), (63, 64), (64, 63), (64, 64), (49, 74), (49, 75), (50, 74), (50, 75), (77, 77), (77, 78), (78, 77), (78, 78), (69, 85), (69, 86), (70, 85), (70, 86), (61, 91), (61, 92), (62, 91), (62, 92)], 43, true)], Tu [.slice (some ⟨302, 0, some 0⟩) 9 9, i 0], 303, [(302, pp [(49, 74), (63, 63), (64, 63), (78, 77), (78, 78), (70, 86), (62, 92), (61, 92), (49, 75)], 43, true)]⟩
def r2r10 : Rec := ⟨158, 1, [.slice (some ⟨0, 0, some 0⟩) 20 20], [(0, pp [(49, 74), (49, 75), (50, 74), (50, 75), (34, 83), (34, 84), (35, 83), (35, 84), (61, 91), (61, 92), (62, 91), (62, 92), (51, 97), (51, 98), (52, 97), (52, 98), (42, 101), (42, 102), (43, 101), (43, 102)], 43, true)], Tu [.slice (some ⟨302, 0, some 0⟩) 9 9, i 0], 303, [(302, pp [(34, 83), (49, 74), (50, 74), (62, 91), (62, 92), (52, 98), (43, 102), (42, 102), (34, 84)], 43, true)]⟩
def r2r11 : Rec := ⟨158, 1, [.slice (some ⟨0, 0, some 0⟩) 20 20], [(0, pp [(34, 83), (34, 84), (35, 83), (35, 84), (17, 88), (17, 89), (18, 88), (18, 89), (42, 101), (42, 102), (43, 101), (43, 102), (31, 105), (31, 106), (32, 105), (32, 106), (21, 108), (21, 109), (22, 108), (22, 109)], 43, true)], Tu [.slice (some ⟨327, 0, some 0⟩) 9 9, i 0], 328, [(327, pp [(17, 88), (34, 83), (35, 83), (43, 101), (43, 102), (32, 106), (22, 109), (21, 109), (17, 89)], 43, true)]⟩
def r2r12 : Rec := ⟨158, 1, [.slice (some ⟨0, 0, some 0⟩) 20 20], [(0, pp [(17, 88), (17, 89), (18, 88), (18, 89), (0, 89), (0, 90), (0, 89), (0, 90), (21, 108), (21, 109), (22, 108), (22, 109), (10, 109), (10, 110), (11, 109), (11, 110), (0, 110), (0, 111), (0, 110), (0, 111)], 43, true)], Tu [.slice (some ⟨299, 0, some 0⟩) 6 6, i 0], 300, [(299, pp [(0, 89), (17, 88), (18, 88), (22, 108), (22, 109), (0, 111)], 43, true)]⟩
def r2r13 : Rec := ⟨158, 1, [.slice (some ⟨0, 0, some 0⟩) 20 20], [(0, pp [(0, 89), (0, 90), (0, 89), (0, 90), (-18, 88), (-18, 89), (-17, 88), (-17, 89), (0, 110), (0, 111), (0, 110), (0, 111), (-11, 109), (-11, 110), (-10, 109), (-10, 110), (-22, 108), (-22, 109), (-21, 108), (-21, 109)], 43, true)], Tu [.slice (some ⟨277, 0, some 0⟩) 6 6, i 0], 278, [(277, pp [(-22, 108), (-18, 88), (-17, 88), (0, 89), (0, 111), (-22, 109)], 43, true)]⟩
def r2r14 : Rec := ⟨158, 1, [.slice (some ⟨0, 0, some 0⟩) 20 20], [(0, pp [(-18, 88), (-18, 89), (-17, 88), (-17, 89), (-35, 83), (-35, 84), (-34, 83), (-34, 84), (-22, 108), (-22, 109), (-21, 108), (-21, 109), (-32, 105), (-32, 106), (-31, 105), (-31, 106), (-43, 101), (-43, 102), (-42, 101), (-42, 102)], 43, true)], Tu [.slice (some ⟨283, 0, some 0⟩) 9 9, i 0], 284, [(283, pp [(-43, 101), (-35, 83), (-34, 83), (-17, 88), (-17, 89), (-21, 109), (-22, 109), (-32, 106), (-43, 102)], 43, true)]⟩
def r2r15 : Rec := ⟨158, 1, [.slice (some ⟨0, 0, some 0⟩) 20 20], [(0, pp [(-35, 83), (-35, 84), (-34, 83), (-34, 84), (-50, 74), (-50, 75), (-49, 74), (-49, 75), (-43, 101), (-43, 102), (-42, 101), (-42, 102), (-52, 97), (-52, 98), (-51, 97), (-51, 98), (-62, 91), (-62, 92), (-61, 91), (-61, 92)], 43, true)], Tu [.slice (some ⟨293, 0, some 0⟩) 9 9, i 0], 294, [(293, pp [(-62, 91), (-50, 74), (-49, 74), (-34, 83), (-34, 84), (-42, 102), (-43, 102), (-52, 98), (-62, 92)], 43, true)]⟩
def r2r16 : Rec := ⟨158, 1, [.slice (some ⟨0, 0, some 0⟩) 20 20], [(0, pp [(-50, 74), (-50, 75), (-49, 74), (-49, 75), (-64, 63), (-64, 64), (-63, 63), (-63, 64), (-62, 91), (-62, 92), (-61, 91), (-61, 92), (-70, 85), (-70, 86), (-69, 85), (-69, 86), (-78, 77), (-78, 78), (-77, 77), (-77, 78)], 43, true)], Tu [.slice (some ⟨293, 0, some 0⟩) 9 9, i 0], 294, [(293, pp [(-78, 77), (-64, 63), (-63, 63), (-49, 74), (-49, 75), (-61, 92), (-62, 92), (-70, 86), (-78, 78)], 43, true)]⟩
def r2r17 : Rec := ⟨158, 1, [.slice (some ⟨0, 0, some 0⟩) 20 20], [(0, pp [(-64, 63), (-64, 64), (-63, 63), (-63, 64), (-75, 49), (-75, 50), (-74, 49), (-74, 50), (-78, 77), (-78, 78), (-77, 77), (-77, 78), (-86, 69), (-86, 70), (-85, 69), (-85, 70), (-92, 61), (-92, 62), (-91, 61), (-91, 62)], 43, true)], Tu [.slice (some ⟨285, 0, some 0⟩) 9 9, i 0], 286, [(285, pp [(-92, 61), (-75, 49), (-74, 49), (-63, 63), (-63, 64), (-77, 78), (-78, 78), (-86, 70), (-92, 62)], 43, true)]⟩
def r2r18 : Rec := ⟨158, 1, [.slice (some ⟨0, 0, some 0⟩) 20 20], [(0, pp [(-75, 49), (-75, 50), (-74, 49), (-74, 50), (-84, 34), (-84, 35), (-83, 34), (-83, 35), (-92, 61), (-92, 62), (-91, 61), (-91, 62), (-98, 51), (-98, 52), (-97, 51), (-97, 52), (-102, 42), (-102, 43), (-101, 42), (-101, 43)], 43, true)], Tu [.slice (some ⟨285, 0, some 0⟩) 9 9, i 0], 286, [(285, pp [(-102, 42), (-84, 34), (-83, 34), (-74, 49), (-74, 50), (-91, 62), (-92, 62), (-98, 52), (-102, 43)], 43, true)]⟩
def r2r19 : Rec := ⟨158, 1, [.slice (some ⟨0, 0, some 0⟩) 20 20], [(0, pp [(-84, 34), (-84, 35), (-83, 34), (-83, 35), (-89, 17), (-89, 18), (-88, 17), (-88, 18), (-102, 42), (-102, 43), (-101, 42), (-101, 43), (-106, 31), (-106, 32), (-105, 31), (-105, 32), (-109, 21), (-109, 22), (-108, 21), (-108, 22)], 43, true)], Tu [.slice (some ⟨285, 0, some 0⟩) 9 9, i 0], 286, [(285, pp [(-109, 21), (-89, 17), (-88, 17), (-83, 34), (-83, 35), (-101, 43), (-102, 43), (-106, 32), (-109, 22)], 43, true)]⟩
def r2r20 : Rec := ⟨158, 1, [.slice (some ⟨0, 0, some 0⟩) 20 20], [(0, pp [(-89, 17), (-89, 18), (-88, 17), (-88, 18), (-90, 0), (-90, 0), (-89, 0), (-89, 0), (-109, 21), (-109, 22), (-108, 21), (-108, 22), (-110, 10), (-110, 11), (-109, 10), (-109, 11), (-111, 0), (-111, 0), (-110, 0), (-110, 0)], 43, true)], Tu [.slice (some ⟨256, 0, some 0⟩) 6 6, i 0], 257, [(256, pp [(-111, 0), (-89, 0), (-88, 17), (-88, 18), (-108, 22), (-109, 22)], 43, true)]⟩
def r2r21 : Rec := ⟨158, 1, [.slice (some ⟨0, 0, some 0⟩) 20 20], [(0, pp [(-90, 0), (-90, 0), (-89, 0), (-89, 0), (-89, -18), (-89, -17), (-88, -18), (-88, -17), (-111, 0), (-111, 0), (-110, 0), (-110, 0), (-110, -11), (-110, -10), (-109, -11), (-109, -10), (-109, -22), (-109, -21), (-108, -22), (-108, -21)], 43, true)], Tu [.slice (some ⟨320, 0, some 0⟩) 6 6, i 0], 321, [(320, pp [(-111, 0), (-109, -22), (-108, -22), (-88, -18), (-88, -17), (-89, 0)], 43, true)]⟩
def r2r22 : Rec := ⟨158, 1, [.slice (some ⟨0, 0, some 0⟩) 20 20], [(0, pp [(-89, -18), (-89, -17), (-88, -18), (-88, -17), (-84, -35), (-84, -34), (-83, -35), (-83, -34), (-109, -22), (-109, -21), (-108, -22), (-108, -21), (-106, -32), (-106, -31), (-105, -32), (-105, -31), (-102, -43), (-102, -42), (-101, -43), (-101, -42)], 43, true)], Tu [.slice (some ⟨373, 0, some 0⟩) 9 9, i 0], 374, [(373, pp [(-109, -22), (-106, -32), (-102, -43), (-101, -43), (-83, -35), (-83, -34), (-88, -17), (-89, -17), (-109, -21)], 43, true)]⟩
def r2r23 : Rec := ⟨158, 1, [.slice (some ⟨0, 0, some 0⟩) 20 20], [(0, pp [(-84, -35), (-84, -34), (-83, -35), (-83, -34), (-75, -50), (-75, -49), (-74, -50), (-74, -49), (-102, -43), (-102, -42), (-101, -43), (-101, -42), (-98, -52), (-98, -51), (-97, -52), (-97, -51), (-92, -62), (-92, -61), (-91, -62), (-91, -61)], 43, true)], Tu [.slice (some ⟨373, 0, some 0⟩) 9 9, i 0], 374, [(373, pp [(-102, -43), (-98, -52), (-92, -62), (-91, -62), (-74, -50), (-74, -49), (-83, -34), (-84, -34), (-102, -42)], 43, true)]⟩
def r2r24 : Rec := ⟨158, 1, [.slice (some ⟨0, 0, some 0⟩) 20 20], [(0, pp [(-75, -50), (-75, -49), (-74, -50), (-74, -49), (-64, -64), (-64, -63), (-63, -64), (-63, -63), (-92, -62), (-92, -61), (-91, -62), (-91, -61), (-86, -70), (-86, -69), (-85, -70), (-85, -69), (-78, -78), (-78, -77), (-77, -78), (-77, -77)], 43, true)], Tu [.slice (some ⟨373, 0, some 0⟩) 9 9, i 0], 374, [(373, pp [(-92, -62), (-86, -70), (-78, -78), (-77, -78), (-63, -64), (-63, -63), (-74, -49), (-75, -49), (-92, -61)], 43, true)]⟩
def r2r25 : Rec := ⟨158, 1, [.slice (some ⟨0, 0, some 0⟩) 20 20], [(0, pp [(-64, -64), (-64, -63), (-63, -64), (-63, -63), (-50, -75), (-50, -74), (-49, -75), (-49, -74), (-78, -78), (-78, -77), (-77, -78), (-77, -77), (-70, -86), (-70, -85), (-69, -86), (-69, -85), (-62, -92), (-62, -91), (-61, -92), (-61, -91)], 43, true)], Tu [.slice (some ⟨343, 0, some 0⟩) 9 9, i 0], 344, [(343, pp [(-78, -78), (-70, -86), (-62, -92), (-61, -92), (-49, -75), (-49, -74), (-63, -63), (-64, -63), (-78, -77)], 43, true)]⟩
def r2r26 : Rec := ⟨158, 1, [.slice (some ⟨0, 0, some 0⟩) 20 20], [(0, pp [(-50, -75), (-50, -74), (-49, -75), (-49, -74), (-35, -84), (-35, -83), (-34, -84), (-34, -83), (-62, -92), (-62, -91), (-61, -92), (-61, -91), (-52, -98), (-52, -97), (-51, -98), (-51, -97), (-43, -102), (-43, -101), (-42, -102), (-42, -101)], 43, true)], Tu [.slice (some ⟨343, 0, some 0⟩) 9 9, i 0], 344, [(343, pp [(-62, -92), (-52, -98), (-43, -102), (-42, -102), (-34, -84), (-34, -83), (-49, -74), (-50, -74), (-62, -91)], 43, true)]⟩
def r2r27 : Rec := ⟨158, 1, [.slice (some ⟨0, 0, some 0⟩) 20 20], [(0, pp [(-35, -84), (-35, -83), (-34, -84), (-34, -83), (-18, -89), (-18, -88), (-17, -89), (-17, -88), (-43, -102), (-43, -101), (-42, -102), (-42, -101), (-32, -106), (-32, -105), (-31, -106), (-31, -105), (-22, -109), (-22, -108), (-21, -109), (-21, -108)], 43, true)], Tu [.slice (some ⟨333, 0, some 0⟩) 9 9, i 0], 334, [(333, pp [(-43, -102), (-32, -106), (-22, -109), (-21, -109), (-17, -89), (-17, -88), (-34, -83), (-35, -83), (-43, -101)], 43, true)]⟩
def r2r28 : Rec := ⟨158, 1, [.slice (some ⟨0, 0, some 0⟩) 20 20], [(0, pp [(-18, -89), (-18, -88), (-17, -89), (-17, -88), (0, -90), (0, -89), (0, -90), (0, -89), (-22, -109), (-22, -108), (-21, -109), (-21, -108), (-11, -110), (-11, -109), (-10, -110), (-10, -109), (0, -111), (0, -110), (0, -111), (0, -110)], 43, true)], Tu [.slice (some ⟨307, 0, some 0⟩) 6 6, i 0], 308, [(307, pp [(-22, -109), (0, -111), (0, -89), (-17, -88), (-18, -88), (-22, -108)], 43, true)]⟩
def r2r29 : Rec := ⟨158, 1, [.slice (some ⟨0, 0, some 0⟩) 20 20], [(0, pp [(0, -90), (0, -89), (0, -90), (0, -89), (17, -89), (17, -88), (18, -89), (18, -88), (0, -111), (0, -110), (0, -111), (0, -110), (10, -110), (10, -109), (11, -110), (11, -109), (21, -109), (21, -108), (22, -109), (22, -108)], 43, true)], Tu [.slice (some ⟨277, 0, some 0⟩) 6 6, i 0], 278, [(277, pp [(0, -111), (22, -109), (22, -108), (18, -88), (17, -88), (0, -89)], 43, true)]⟩
def r2r30 : Rec := ⟨158, 1, [.slice (some ⟨0, 0, some 0⟩) 20 20], [(0, pp [(17, -89), (17, -88), (18, -89), (18, -88), (34, -84), (34, -83), (35, -84), (35, -83), (21, -109), (21, -108), (22, -109), (22, -108), (31, -106), (31, -105), (32, -106), (32, -105), (42, -102), (42, -101), (43, -102), (43, -101)], 43, true)], Tu [.slice (some ⟨285, 0, some 0⟩) 9 9, i 0], 286, [(285, pp [(17, -89), (21, -109), (22, -109), (32, -106), (43, -102), (43, -101), (35, -83), (34, -83), (17, -88)], 43, true)]⟩
def r2r31 : Rec := ⟨158, 1, [.slice (some ⟨0, 0, some 0⟩) 20 20], [(0, pp [(34, -84), (34, -83), (35, -84), (35, -83), (49, -75), (49, -74), (50, -75), (50, -74), (42, -102), (42, -101), (43, -102), (43, -101), (51, -98), (51, -97), (52, -98), (52, -97), (61, -92), (61, -91), (62, -92), (62, -91)], 43, true)], Tu [.slice (some ⟨265, 0, some 0⟩) 9 9, i 0], 266, [(265, pp [(34, -84), (42, -102), (43, -102), (52, -98), (62, -92), (62, -91), (50, -74), (49, -74), (34, -83)], 43, true)]⟩
def r2r32 : Rec := ⟨158, 1, [.slice (some ⟨0, 0, some 0⟩) 20 20], [(0, pp [(49, -75), (49, -74), (50, -75), (50, -74), (63, -64), (63, -63), (64, -64), (64, -63), (61, -92), (61, -91), (62, -92), (62, -91), (69, -86), (69, -85), (70, -86), (70, -85), (77, -78), (77, -77), (78, -78), (78, -77)], 43, true)], Tu [.slice (some ⟨265, 0, some 0⟩) 9 9, i 0], 266, [(265, pp [(49, -75), (61, -92), (62, -92), (70, -86), (78, -78), (78, -77), (64, -63), (63, -63), (49, -74)], 43, true)]⟩
def r2r33 : Rec := ⟨158, 1, [.slice (some ⟨0, 0, some 0⟩) 20 20], [(0, pp [(63, -64), (63, -63), (64, -64), (64, -63), (74, -50), (74, -49), (75, -50), (75, -49), (77, -78), (77, -77), (78, -78), (78, -77), (85, -70), (85, -69), (86, -70), (86, -69), (91, -62), (91, -61), (92, -62), (92, -61)], 43, true)], Tu [.slice (some ⟨205, 0, some 0⟩) 9 9, i 0], 206, [(205, pp [(63, -64), (77, -78), (78, -78), (86, -70), (92, -62), (92, -61), (75, -49), (74, -49), (63, -63)], 43, true)]⟩
def r2r34 : Rec := ⟨158, 1, [.slice (some ⟨0, 0, some 0⟩) 20 20], [(0, pp [(74, -50), (74, -49), (75, -50), (75, -49), (83, -35), (83, -34), (84, -35), (84, -34), (91, -62), (91, -61), (92, -62), (92, -61), (97, -52), (97, -51), (98, -52), (98, -51), (101, -43), (101, -42), (102, -43), (102, -42)], 43, true)], Tu [.slice (some ⟨205, 0, some 0⟩) 9 9, i 0], 206, [(205, pp [(74, -50), (91, -62), (92, -62), (98, -52), (102, -43), (102, -42), (84, -34), (83, -34), (74, -49)], 43, true)]⟩
def r2r35 : Rec := ⟨158, 1, [.slice (some ⟨0, 0, some 0⟩) 20 20], [(0, pp [(83, -35), (83, -34), (84, -35), (84, -34), (88, -18), (88, -17), (89, -18), (89, -17), (101, -43), (101, -42), (102, -43), (102, -42), (105, -32), (105, -31), (106, -32), (106, -31), (108, -22), (108, -21), (109, -22), (109, -21)], 43, true)], Tu [.slice (some ⟨205, 0, some 0⟩) 9 9, i 0], 206, [(205, pp [(83, -35), (101, -43), (102, -43), (106, -32), (109, -22), (109, -21), (89, -17), (88, -17), (83, -34)], 43, true)]⟩
def r2r36 : Rec := ⟨158, 1, [.slice (some ⟨0, 0, some 0⟩) 20 20], [(0, pp [(88, -18), (88, -17), (89, -18), (89, -17), (89, 0), (89, 0), (90, 0), (90, 0), (108, -22), (108, -21), (109, -22), (109, -21), (109, -11), (109, -10), (110, -11), (110, -10), (110, 0), (110, 0), (111, 0), (111, 0)], 43, true)], Tu [.slice (some ⟨180, 0, some 0⟩) 6 6, i 0], 181, [(180, pp [(88, -18), (108, -22), (109, -22), (111, 0), (89, 0), (88, -17)], 43, true)]⟩
def r2r37 : Rec := ⟨158, 1, [.slice (some ⟨0, 0, some 0⟩) 1 1], [(0, pp [(0, 0)], 43, true)], Tu [.slice (some ⟨3, 0, some 0⟩) 1 1, i 0], 4, [r2b0]⟩
def r2r38 : Rec := ⟨158, 1, [S 0 0 1 1], [(0, pp [(7, 7)], 43, false)], Tu [.slice (some ⟨3, 0, some 0⟩) 1 1, i 0], 4, [r2b1]⟩
def r2r39 : Rec := ⟨158, 1, [S 0 0 4 4], [(0, pp [(0, 0), (49, 0), (49, 49), (0, 49)], 43, false)], Tu [.slice (some ⟨53, 0, some 0⟩) 4 4, i 0], 54, [(53, pp [(0, 0), (49, 0), (49, 49), (0, 49)], 43, true)]⟩
def r2r40 : Rec := ⟨158, 1, [.slice (some ⟨0, 0, some 0⟩) 1 1], [(0, pp [(7, 7)], 43, true)], Tu [.slice (some ⟨3, 0, some 0⟩) 1 1, i 0], 4, [r2b1]⟩
def r2r41 : Rec := ⟨158, 1, [S 0 0 1 1], [(0, pp [(70, 7)], 43, false)], Tu [.slice (some ⟨3, 0, some 0⟩) 1 1, i 0], 4, [(3, pp [(70, 7)], 43, true)]⟩
theorem r2q0 : List.all [r2r0, r2r1, r2r2, r2r3, r2r4, r2r5, r2r6] (okB words1) = true := by kernel_rfl
theorem r2r0_good : Good Tryz.prog 158 (orcRec r2r0) := good_ok words1_good (r := r2r0) (all_hd r2q0)
theorem r2r1_good : Good Tryz.prog 158 (orcRec r2r1) := good_ok words1_good (r := r2r1) (all_hd (all_tl r2q0))
theorem r2r2_good : Good Tryz.prog 158 (orcRec r2r2) := good_ok words1_good (r := r2r2) (all_hd (all_tl (all_tl r2q0)))
theorem r2r3_good : Good Tryz.prog 158 (orcRec r2r3) := good_ok words1_good (r := r2r3) (all_hd (all_tl (all_tl (all_tl r2q0))))
theorem r2r4_good : Good Tryz.prog 158 (orcRec r2r4) := good_ok words1_good (r := r2r4) (all_hd (all_tl (all_tl (all_tl (all_tl r2q0)))))
theorem r2r5_good : Good Tryz.prog 158 (orcRec r2r5) := good_ok words1_good (r := r2r5) (all_hd (all_tl (all_tl (all_tl (all_tl (all_tl r2q0))))))
theorem r2r6_good : Good Tryz.prog 158 (orcRec r2r6) := good_ok words1_good (r := r2r6) (all_hd (all_tl (all_tl (all_tl (all_tl (all_tl (all_tl r2q0)))))))
theorem r2q1 : List.all [r2r7, r2r8] (okB words1) = true := by kernel_rfl
theorem r2r7_good : Good Tryz.prog 158 (orcRec r2r7) := good_ok words1_good (r := r2r7) (all_hd r2q1)
theorem r2r8_good : Good Tryz.prog 158 (orcRec r2r8) := good_ok words1_good (r := r2r8) (all_hd (all_tl r2q1))
theorem r2q2 : List.all [r2r9, r2r10] (okB words1) = true := by kernel_rfl
theorem r2r9_good : Good Tryz.prog 158 (orcRec r2r9) := good_ok words1_good (r := r2r9) (all_hd r2q2)
theorem r2r10_good : Good Tryz.prog 158 (orcRec r2r10) := good_ok words1_good (r := r2r10) (all_hd (all_tl r2q2))
theorem r2q3 : List.all [r2r11, r2r12] (okB words1) = true := by kernel_rfl
theorem r2r11_good : Good Tryz.prog 158 (orcRec r2r11) := good_ok words1_good (r := r2r11) (all_hd r2q3)
theorem r2r12_good : Good Tryz.prog 158 (orcRec r2r12) := good_ok words1_good (r := r2r12) (all_hd (all_tl r2q3))
theorem r2q4 : List.all [r2r13, r2r14] (okB words1) = true := by kernel_rfl
theorem r2r13_good : Good Tryz.prog 158 (orcRec r2r13) := good_ok words1_good (r := r2r13) (all_hd r2q4)
theorem r2r14_good : Good Tryz.prog 158 (orcRec r2r14) := good_ok words1_good (r := r2r14) (all_hd (all_tl r2q4))
theorem r2q5 : List.all [r2r15, r2r16] (okB words1) = true := by kernel_rfl
theorem r2r15_good : Good Tryz.prog 158 (orcRec r2r15) := good_ok words1_good (r := r2r15) (all_hd r2q5)
theorem r2r16_good : Good Tryz.prog 158 (orcRec r2r16) := good_ok words1_good (r := r2r16) (all_hd (all_tl r2q5))
theorem r2q6 : List.all [r2r17, r2r18] (okB words1) = true := by kernel_rfl
theorem r2r17_good : Good Tryz.prog 158 (orcRec r2r17) := good_ok words1_good (r := r2r17) (all_hd r2q6)
theorem r2r18_good : Good Tryz.prog 158 (orcRec r2r18) := good_ok words1_good (r := r2r18) (all_hd (all_tl r2q6))
theorem r2q7 : List.all [r2r19, r2r20] (okB words1) = true := by kernel_rfl
theorem r2r19_good : Good Tryz.prog 158 (orcRec r2r19) := good_ok words1_good (r := r2r19) (all_hd r2q7)
theorem r2r20_good : Good Tryz.prog 158 (orcRec r2r20) := good_ok words1_good (r := r2r20) (all_hd (all_tl r2q7))
theorem r2q8 : List.all [r2r21, r2r22] (okB words1) = true := by kernel_rfl
theorem r2r21_good : Good Tryz.prog 158 (orcRec r2r21) := good_ok words1_good (r := r2r21) (all_hd r2q8)
theorem r2r22_good : Good Tryz.prog 158 (orcRec r2r22) := good_ok words1_good (r := r2r22) (all_hd (all_tl r2q8))
theorem r2q9 : List.all [r2r23] (okB words1) = true := by kernel_rfl
theorem r2r23_good : Good Tryz.prog 158 (orcRec r2r23) := good_ok words1_good (r := r2r23) (all_hd r2q9)
theorem r2q10 : List.all [r2r24] (okB words1) = true := by kernel_rfl
theorem r2r24_good : Good Tryz.prog 158 (orcRec r2r24) := good_ok words1_good (r := r2r24) (all_hd r2q10)
theorem r2q11 : List.all [r2r25, r2r26] (okB words1) = true := by kernel_rfl
theorem r2r25_good : Good Tryz.prog 158 (orcRec r2r25) := good_ok words1_good (r := r2r25) (all_hd r2q11)
theorem r2r26_good : Good Tryz.prog 158 (orcRec r2r26) := good_ok words1_good (r := r2r26) (all_hd (all_tl r2q11))
theorem r2q12 : List.all [r2r27, r2r28] (okB words1) = true := by kernel_rfl
theorem r2r27_good : Good Tryz.prog 158 (orcRec r2r27) := good_ok words1_good (r := r2r27) (all_hd r2q12)
theorem r2r28_good : Good Tryz.prog 158 (orcRec r2r28) := good_ok words1_good (r := r2r28) (all_hd (all_tl r2q12))
theorem r2q13 : List.all [r2r29, r2r30] (okB words1) = true := by kernel_rfl
theorem r2r29_good : Good Tryz.prog 158 (orcRec r2r29) := good_ok words1_good (r := r2r29) (all_hd r2q13)
theorem r2r30_good : Good Tryz.prog 158 (orcRec r2r30) := good_ok words1_good (r := r2r30) (all_hd (all_tl r2q13))
theorem r2q14 : List.all [r2r31, r2r32, r2r33] (okB words1) = true := by kernel_rfl
theorem r2r31_good : Good Tryz.prog 158 (orcRec r2r31) := good_ok words1_good (r := r2r31) (all_hd r2q14)
theorem r2r32_good : Good Tryz.prog 158 (orcRec r2r32) := good_ok words1_good (r := r2r32) (all_hd (all_tl r2q14))
theorem r2r33_good : Good Tryz.prog 158 (orcRec r2r33) := good_ok words1_good (r := r2r33) (all_hd (all_tl (all_tl r2q14)))
theorem r2q15 : List.all [r2r34, r2r35, r2r36, r2r37, r2r38, r2r39, r2r40, r2r41] (okB words1) = true := by kernel_rfl
theorem r2r34_good : Good Tryz.prog 158 (orcRec r2r34) := good_ok words1_good (r := r2r34) (all_hd r2q15)
theorem r2r35_good : Good Tryz.prog 158 (orcRec r2r35) := good_ok words1_good (r := r2r35) (all_hd (all_tl r2q15))
theorem r2r36_good : Good Tryz.prog 158 (orcRec r2r36) := good_ok words1_good (r := r2r36) (all_hd (all_tl (all_tl r2q15)))
theorem r2r37_good : Good Tryz.prog 158 (orcRec r2r37) := good_ok words1_good (r := r2r37) (all_hd (all_tl (all_tl (all_tl r2q15))))
theorem r2r38_good : Good Tryz.prog 158 (orcRec r2r38) := good_ok words1_good (r := r2r38) (all_hd (all_tl (all_tl (all_tl (all_tl r2q15)))))
theorem r2r39_good : Good Tryz.prog 158 (orcRec r2r39) := good_ok words1_good (r := r2r39) (all_hd (all_tl (all_tl (all_tl (all_tl (all_tl r2q15))))))
theorem r2r40_good : Good Tryz.prog 158 (orcRec r2r40) := good_ok words1_good (r := r2r40) (all_hd (all_tl (all_tl (all_tl (all_tl (all_tl (all_tl r2q15)))))))
theorem r2r41_good : Good Tryz.prog 158 (orcRec r2r41) := good_ok words1_good (r := r2r41) (all_hd (all_tl (all_tl (all_tl (all_tl (all_tl (all_tl (all_tl r2q15))))))))
def r2t0 : Word := orIf (ltK (-178000285)) (orcRec r2r21) (orcRec r2r22)
theorem r2t0_good : Good Tryz.prog 158 r2t0 := Good.ite r2r21_good r2r22_good
def r2t1 : Word := orIf (ltK (-168000218)) (orcRec r2r23) (orcRec r2r19)
theorem r2t1_good : Good Tryz.prog 158 r2t1 := Good.ite r2r23_good r2r19_good
def r2t2 : Word := orIf (ltK (-168000287)) (orcRec r2r20) r2t1
theorem r2t2_good : Good Tryz.prog 158 r2t2 := Good.ite r2r20_good r2t1_good
def r2t3 : Word := orIf (ltK (-178000250)) r2t0 r2t2
theorem r2t3_good : Good Tryz.prog 158 r2t3 := Good.ite r2t0_good r2t2_good
def r2t4 : Word := orIf (ltK (-128000256)) (orcRec r2r18) (orcRec r2r25)
theorem r2t4_good : Good Tryz.prog 158 r2t4 := Good.ite r2r18_good r2r25_good
def r2t5 : Word := orIf (ltK (-150000176)) (orcRec r2r24) r2t4
theorem r2t5_good : Good Tryz.prog 158 r2t5 := Good.ite r2r24_good r2t4_good
def r2t6 : Word := orIf (ltK (-100000076)) (orcRec r2r26) (orcRec r2r16)
theorem r2t6_good : Good Tryz.prog 158 r2t6 := Good.ite r2r26_good r2r16_good
def r2t7 : Word := orIf (ltK (-100000225)) (orcRec r2r17) r2t6
theorem r2t7_good : Good Tryz.prog 158 r2t7 := Good.ite r2r17_good r2t6_good
def r2t8 : Word := orIf (ltK (-128000129)) r2t5 r2t7
theorem r2t8_good : Good Tryz.prog 158 r2t8 := Good.ite r2t5_good r2t7_good
def r2t9 : Word := orIf (ltK (-150000275)) r2t3 r2t8
theorem r2t9_good : Good Tryz.prog 158 r2t9 := Good.ite r2t3_good r2t8_good
def r2t10 : Word := orIf (ltK (-70000022)) (orcRec r2r27) (orcRec r2r15)
theorem r2t10_good : Good Tryz.prog 158 r2t10 := Good.ite r2r27_good r2r15_good
def r2t11 : Word := orIf (ltK (-90)) (orcRec r2r14) (orcRec r2r29)
theorem r2t11_good : Good Tryz.prog 158 r2t11 := Good.ite r2r14_good r2r29_good
def r2t12 : Word := orIf (ltK (-35999966)) (orcRec r2r28) r2t11
theorem r2t12_good : Good Tryz.prog 158 r2t12 := Good.ite r2r28_good r2t11_good
def r2t13 : Word := orIf (ltK (-36000143)) r2t10 r2t12
theorem r2t13_good : Good Tryz.prog 158 r2t13 := Good.ite r2t10_good r2t12_good
def r2t14 : Word := orIf (ltK (14000028)) (orcRec r2r13) (orTry (orcRec r2r38) (orcRec r2r40))
theorem r2t14_good : Good Tryz.prog 158 r2t14 := Good.ite r2r13_good (Good.or r2r38_good r2r40_good)
def r2t15 : Word := orIf (ltK (89)) (orTry (orcRec r2r0) (orTry (orcRec r2r37) (orcRec r2r39))) r2t14
theorem r2t15_good : Good Tryz.prog 158 r2t15 := Good.ite (Good.or r2r0_good (Good.or r2r37_good r2r39_good)) r2t14_good
def r2t16 : Word := orIf (ltK (0)) r2t13 r2t15
theorem r2t16_good : Good Tryz.prog 158 r2t16 := Good.ite r2t13_good r2t15_good
def r2t17 : Word := orIf (ltK (-70000189)) r2t9 r2t16
theorem r2t17_good : Good Tryz.prog 158 r2t17 := Good.ite r2t9_good r2t16_good
def r2t18 : Word := orIf (ltK (34000139)) (orcRec r2r30) (orcRec r2r12)
theorem r2t18_good : Good Tryz.prog 158 r2t18 := Good.ite r2r30_good r2r12_good
def r2t19 : Word := orIf (ltK (68000185)) (orcRec r2r31) (orcRec r2r11)
theorem r2t19_good : Good Tryz.prog 158 r2t19 := Good.ite r2r31_good r2r11_good
def r2t20 : Word := orIf (ltK (68000018)) (orcRec r2r3) r2t19
theorem r2t20_good : Good Tryz.prog 158 r2t20 := Good.ite r2r3_good r2t19_good
def r2t21 : Word := orIf (ltK (40000060)) r2t18 r2t20
theorem r2t21_good : Good Tryz.prog 158 r2t21 := Good.ite r2t18_good r2t20_good
def r2t22 : Word := orIf (ltK (98000196)) (orcRec r2r32) (orcRec r2r1)
theorem r2t22_good : Good Tryz.prog 158 r2t22 := Good.ite r2r32_good r2r1_good
def r2t23 : Word := orIf (ltK (126000252)) (orcRec r2r33) (orcRec r2r9)
theorem r2t23_good : Good Tryz.prog 158 r2t23 := Good.ite r2r33_good r2r9_good
def r2t24 : Word := orIf (ltK (126000125)) (orcRec r2r10) r2t23
theorem r2t24_good : Good Tryz.prog 158 r2t24 := Good.ite r2r10_good r2t23_good
def r2t25 : Word := orIf (ltK (98000221)) r2t22 r2t24
theorem r2t25_good : Good Tryz.prog 158 r2t25 := Good.ite r2t22_good r2t24_good
def r2t26 : Word := orIf (ltK (98000072)) r2t21 r2t25
theorem r2t26_good : Good Tryz.prog 158 r2t26 := Good.ite r2t21_good r2t25_good
def r2t27 : Word := orIf (ltK (148000172)) (orcRec r2r41) (orcRec r2r34)
theorem r2t27_good : Good Tryz.prog 158 r2t27 := Good.ite r2r41_good r2r34_good
def r2t28 : Word := orIf (ltK (166000283)) (orcRec r2r35) (orcRec r2r7)
theorem r2t28_good : Good Tryz.prog 158 r2t28 := Good.ite r2r35_good r2r7_good
def r2t29 : Word := orIf (ltK (166000214)) (orcRec r2r8) r2t28
theorem r2t29_good : Good Tryz.prog 158 r2t29 := Good.ite r2r8_good r2t28_good
def r2t30 : Word := orIf (ltK (148000271)) r2t27 r2t29
theorem r2t30_good : Good Tryz.prog 158 r2t30 := Good.ite r2t27_good r2t29_good
def r2t31 : Word := orIf (ltK (176000281)) (orcRec r2r36) (orcRec r2r6)
theorem r2t31_good : Good Tryz.prog 158 r2t31 := Good.ite r2r36_good r2r6_good
def r2t32 : Word := orIf (ltK (200000350)) (orcRec r2r2) (orcRec r2r4)
theorem r2t32_good : Good Tryz.prog 158 r2t32 := Good.ite r2r2_good r2r4_good
def r2t33 : Word := orIf (ltK (200000300)) (orcRec r2r5) r2t32
theorem r2t33_good : Good Tryz.prog 158 r2t33 := Good.ite r2r5_good r2t32_good
def r2t34 : Word := orIf (ltK (178000267)) r2t31 r2t33
theorem r2t34_good : Good Tryz.prog 158 r2t34 := Good.ite r2t31_good r2t33_good
def r2t35 : Word := orIf (ltK (176000246)) r2t30 r2t34
theorem r2t35_good : Good Tryz.prog 158 r2t35 := Good.ite r2t30_good r2t34_good
def r2t36 : Word := orIf (ltK (140000217)) r2t26 r2t35
theorem r2t36_good : Good Tryz.prog 158 r2t36 := Good.ite r2t26_good r2t35_good
def r2t37 : Word := orIf (ltK (33999962)) r2t17 r2t36
theorem r2t37_good : Good Tryz.prog 158 r2t37 := Good.ite r2t17_good r2t36_good
def words2 : List (FuncId × Word) := (158, r2t37) :: words1
theorem words2_good : ∀ x ∈ words2, Good Tryz.prog x.1 x.2 := by
  intro x hx
  unfold words2 at hx
  rcases List.mem_cons.1 hx with rfl | hx
  · exact r2t37_good
  exact words1_good x hx
end
end Go.Ev
