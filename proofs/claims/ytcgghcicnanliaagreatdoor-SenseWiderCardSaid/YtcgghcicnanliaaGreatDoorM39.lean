/- What runs found: cut.Meet. Conditions: none. Printed by wip/genR.py. -/
import Derived.Test.YtcgghcicnanliaaGreatDoorM38
set_option linter.unusedVariables false
set_option linter.unusedSimpArgs false
namespace Go.Ev
open Go.Proofs Go.Proofs.YtcgghcicnanliaaGreatDoor
noncomputable section
set_option maxRecDepth 100000
def r6b0 : Bk := (1, pp [(188, 17), (189, 0), (211, 0), (209, 22), (208, 22), (188, 18)], 43, true)
def r6b1 : Bk := (0, pp [(0, 0)], 43, false)
def r6b2 : Bk := (1, pp [(183, 34), (188, 17), (189, 17), (209, 21), (209, 22), (206, 32), (202, 43), (201, 43), (183, 35)], 43, true)
def r6b3 : Bk := (1, pp [(174, 49), (183, 34), (184, 34), (202, 42), (202, 43), (198, 52), (192, 62), (191, 62), (174, 50)], 43, true)
def r6b4 : Bk := (1, pp [(163, 63), (174, 49), (175, 49), (192, 61), (192, 62), (186, 70), (178, 78), (177, 78), (163, 64)], 43, true)
def r6b5 : Bk := (1, pp [(149, 74), (163, 63), (164, 63), (178, 77), (178, 78), (170, 86), (162, 92), (161, 92), (149, 75)], 43, true)
def r6b6 : Bk := (1, pp [(134, 83), (149, 74), (150, 74), (162, 91), (162, 92), (152, 98), (143, 102), (142, 102), (134, 84)], 43, true)
def r6b7 : Bk := (1, pp [(117, 88), (134, 83), (135, 83), (143, 101), (143, 102), (132, 106), (122, 109), (121, 109), (117, 89)], 43, true)
def r6b8 : Bk := (1, pp [(100, 89), (117, 88), (118, 88), (122, 108), (122, 109), (100, 111)], 43, true)
def r6b9 : Bk := (1, pp [(78, 108), (82, 88), (83, 88), (100, 89), (100, 111), (78, 109)], 43, true)
def r6b10 : Bk := (1, pp [(57, 101), (65, 83), (66, 83), (83, 88), (83, 89), (79, 109), (78, 109), (68, 106), (57, 102)], 43, true)
def r6b11 : Bk := (1, pp [(38, 91), (50, 74), (51, 74), (66, 83), (66, 84), (58, 102), (57, 102), (48, 98), (38, 92)], 43, true)
def r6b12 : Bk := (1, pp [(22, 77), (36, 63), (37, 63), (51, 74), (51, 75), (39, 92), (38, 92), (30, 86), (22, 78)], 43, true)
def r6b13 : Bk := (1, pp [(8, 61), (25, 49), (26, 49), (37, 63), (37, 64), (23, 78), (22, 78), (14, 70), (8, 62)], 43, true)
def r6b14 : Bk := (1, pp [(-2, 42), (16, 34), (17, 34), (26, 49), (26, 50), (9, 62), (8, 62), (2, 52), (-2, 43)], 43, true)
def r6b15 : Bk := (1, pp [(-9, 21), (11, 17), (12, 17), (17, 34), (17, 35), (-1, 43), (-2, 43), (-6, 32), (-9, 22)], 43, true)
def r6b16 : Bk := (1, pp [(-11, 0), (11, 0), (12, 17), (12, 18), (-8, 22), (-9, 22)], 43, true)
def r6b17 : Bk := (247, pp [(0, 0)], 43, true)
def r6b18 : Bk := (1, pp [(-11, 0), (-9, -22), (-8, -22), (12, -18), (12, -17), (11, 0)], 43, true)
def r6b19 : Bk := (1, pp [(-9, -22), (-6, -32), (-2, -43), (-1, -43), (17, -35), (17, -34), (12, -17), (11, -17), (-9, -21)], 43, true)
def r6b20 : Bk := (1, pp [(-2, -43), (2, -52), (8, -62), (9, -62), (26, -50), (26, -49), (17, -34), (16, -34), (-2, -42)], 43, true)
def r6b21 : Bk := (1, pp [(8, -62), (14, -70), (22, -78), (23, -78), (37, -64), (37, -63), (26, -49), (25, -49), (8, -61)], 43, true)
def r6b22 : Bk := (1, pp [(22, -78), (30, -86), (38, -92), (39, -92), (51, -75), (51, -74), (37, -63), (36, -63), (22, -77)], 43, true)
def r6b23 : Bk := (1, pp [(38, -92), (48, -98), (57, -102), (58, -102), (66, -84), (66, -83), (51, -74), (50, -74), (38, -91)], 43, true)
def r6b24 : Bk := (1, pp [(57, -102), (68, -106), (78, -109), (79, -109), (83, -89), (83, -88), (66, -83), (65, -83), (57, -101)], 43, true)
def r6b25 : Bk := (1, pp [(78, -109), (100, -111), (100, -89), (83, -88), (82, -88), (78, -108)], 43, true)
def r6b26 : Bk := (1, pp [(100, -111), (122, -109), (122, -108), (118, -88), (117, -88), (100, -89)], 43, true)
def r6b27 : Bk := (1, pp [(117, -89), (121, -109), (122, -109), (132, -106), (143, -102), (143, -101), (135, -83), (134, -83), (117, -88)], 43, true)
def r6b28 : Bk := (1, pp [(134, -84), (142, -102), (143, -102), (152, -98), (162, -92), (162, -91), (150, -74), (149, -74), (134, -83)], 43, true)
def r6b29 : Bk := (1, pp [(149, -75), (161, -92), (162, -92), (170, -86), (178, -78), (178, -77), (164, -63), (163, -63), (149, -74)], 43, true)
def r6b30 : Bk := (1, pp [(163, -64), (177, -78), (178, -78), (186, -70), (192, -62), (192, -61), (175, -49), (174, -49), (163, -63)], 43, true)
def r6b31 : Bk := (1, pp [(174, -50), (191, -62), (192, -62), (198, -52), (202, -43), (202, -42), (184, -34), (183, -34), (174, -49)], 43, true)
def r6b32 : Bk := (1, pp [(183, -35), (201, -43), (202, -43), (206, -32), (209, -22), (209, -21), (189, -17), (188, -17), (183, -34)], 43, true)
def r6b33 : Bk := (1, pp [(188, -18), (208, -22), (209, -22), (211, 0), (189, 0), (188, -17)], 43, true)
def r6b34 : Bk := (0, pp [(40, 0)], 43, false)
def r6r0 : Rec := ⟨229, 2, [S 0 0 1 1, .slice (some ⟨1, 0, some 0⟩) 6 6], [r6b1, r6b0], Tu [.slice none 0 0, .bool false, i 0], 242, []⟩
def r6r1 : Rec := ⟨229, 2, [S 0 0 1 1, .slice (some ⟨1, 0, some 0⟩) 9 9], [r6b1, r6b2], Tu [.slice none 0 0, .bool false, i 0], 377, []⟩
def r6r2 : Rec := ⟨229, 2, [S 0 0 1 1, .slice (some ⟨1, 0, some 0⟩) 9 9], [r6b1, r6b3], Tu [.slice none 0 0, .bool false, i 0], 377, []⟩
def r6r3 : Rec := ⟨229, 2, [S 0 0 1 1, .slice (some ⟨1, 0, some 0⟩) 9 9], [r6b1, r6b4], Tu [.slice none 0 0, .bool false, i 0], 377, []⟩
def r6r4 : Rec := ⟨229, 2, [S 0 0 1 1, .slice (some ⟨1, 0, some 0⟩) 9 9], [r6b1, r6b5], Tu [.slice none 0 0, .bool false, i 0], 377, []⟩
def r6r5 : Rec := ⟨229, 2, [S 0 0 1 1, .slice (some ⟨1, 0, some 0⟩) 9 9], [r6b1, r6b6], Tu [.slice none 0 0, .bool false, i 0], 377, []⟩
def r6r6 : Rec := ⟨229, 2, [S 0 0 1 1, .slice (some ⟨1, 0, some 0⟩) 9 9], [r6b1, r6b7], Tu [.slice none 0 0, .bool false, i 0], 377, []⟩
def r6r7 : Rec := ⟨229, 2, [S 0 0 1 1, .slice (some ⟨1, 0, some 0⟩) 6 6], [r6b1, r6b8], Tu [.slice none 0 0, .bool false, i 0], 242, []⟩
def r6r8 : Rec := ⟨229, 2, [S 0 0 1 1, .slice (some ⟨1, 0, some 0⟩) 6 6], [r6b1, r6b9], Tu [.slice none 0 0, .bool false, i 0], 242, []⟩
def r6r9 : Rec := ⟨229, 2, [S 0 0 1 1, .slice (some ⟨1, 0, some 0⟩) 9 9], [r6b1, r6b10], Tu [.slice none 0 0, .bool false, i 0], 377, []⟩
def r6r10 : Rec := ⟨229, 2, [S 0 0 1 1, .slice (some ⟨1, 0, some 0⟩) 9 9], [r6b1, r6b11], Tu [.slice none 0 0, .bool false, i 0], 377, []⟩
def r6r11 : Rec := ⟨229, 2, [S 0 0 1 1, .slice (some ⟨1, 0, some 0⟩) 9 9], [r6b1, r6b12], Tu [.slice none 0 0, .bool false, i 0], 377, []⟩
def r6r12 : Rec := ⟨229, 2, [S 0 0 1 1, .slice (some ⟨1, 0, some 0⟩) 9 9], [r6b1, r6b13], Tu [.slice none 0 0, .bool false, i 0], 377, []⟩
def r6r13 : Rec := ⟨229, 2, [S 0 0 1 1, .slice (some ⟨1, 0, some 0⟩) 9 9], [r6b1, r6b14], Tu [.slice none 0 0, .bool false, i 0], 377, []⟩
def r6r14 : Rec := ⟨229, 2, [S 0 0 1 1, .slice (some ⟨1, 0, some 0⟩) 9 9], [r6b1, r6b15], Tu [.slice none 0 0, .bool false, i 0], 377, []⟩
def r6r15 : Rec := ⟨229, 2, [S 0 0 1 1, .slice (some ⟨1, 0, some 0⟩) 6 6], [r6b1, r6b16], Tu [.slice (some ⟨247, 0, some 0⟩) 1 1, .bool true, i 0], 249, [r6b17]⟩
def r6r16 : Rec := ⟨229, 2, [S 0 0 1 1, .slice (some ⟨1, 0, some 0⟩) 6 6], [r6b1, r6b18], Tu [.slice (some ⟨247, 0, some 0⟩) 1 1, .bool true, i 0], 249, [r6b17]⟩
def r6r17 : Rec := ⟨229, 2, [S 0 0 1 1, .slice (some ⟨1, 0, some 0⟩) 9 9], [r6b1, r6b19], Tu [.slice none 0 0, .bool false, i 0], 377, []⟩
def r6r18 : Rec := ⟨229, 2, [S 0 0 1 1, .slice (some ⟨1, 0, some 0⟩) 9 9], [r6b1, r6b20], Tu [.slice none 0 0, .bool false, i 0], 377, []⟩
def r6r19 : Rec := ⟨229, 2, [S 0 0 1 1, .slice (some ⟨1, 0, some 0⟩) 9 9], [r6b1, r6b21], Tu [.slice none 0 0, .bool false, i 0], 377, []⟩
def r6r20 : Rec := ⟨229, 2, [S 0 0 1 1, .slice (some ⟨1, 0, some 0⟩) 9 9], [r6b1, r6b22], Tu [.slice none 0 0, .bool false, i 0], 377, []⟩
def r6r21 : Rec := ⟨229, 2, [S 0 0 1 1, .slice (some ⟨1, 0, some 0⟩) 9 9], [r6b1, r6b23], Tu [.slice none 0 0, .bool false, i 0], 377, []⟩
def r6r22 : Rec := ⟨229, 2, [S 0 0 1 1, .slice (some ⟨1, 0, some 0⟩) 9 9], [r6b1, r6b24], Tu [.slice none 0 0, .bool false, i 0], 377, []⟩
def r6r23 : Rec := ⟨229, 2, [S 0 0 1 1, .slice (some ⟨1, 0, some 0⟩) 6 6], [r6b1, r6b25], Tu [.slice none 0 0, .bool false, i 0], 242, []⟩
def r6r24 : Rec := ⟨229, 2, [S 0 0 1 1, .slice (some ⟨1, 0, some 0⟩) 6 6], [r6b1, r6b26], Tu [.slice none 0 0, .bool false, i 0], 242, []⟩
def r6r25 : Rec := ⟨229, 2, [S 0 0 1 1, .slice (some ⟨1, 0, some 0⟩) 9 9], [r6b1, r6b27], Tu [.slice none 0 0, .bool false, i 0], 377, []⟩
def r6r26 : Rec := ⟨229, 2, [S 0 0 1 1, .slice (some ⟨1, 0, some 0⟩) 9 9], [r6b1, r6b28], Tu [.slice none 0 0, .bool false, i 0], 377, []⟩
def r6r27 : Rec := ⟨229, 2, [S 0 0 1 1, .slice (some ⟨1, 0, some 0⟩) 9 9], [r6b1, r6b29], Tu [.slice none 0 0, .bool false, i 0], 377, []⟩
def r6r28 : Rec := ⟨229, 2, [S 0 0 1 1, .slice (some ⟨1, 0, some 0⟩) 9 9], [r6b1, r6b30], Tu [.slice none 0 0, .bool false, i 0], 377, []⟩
def r6r29 : Rec := ⟨229, 2, [S 0 0 1 1, .slice (some ⟨1, 0, some 0⟩) 9 9], [r6b1, r6b31], Tu [.slice none 0 0, .bool false, i 0], 377, []⟩
def r6r30 : Rec := ⟨229, 2, [S 0 0 1 1, .slice (some ⟨1, 0, some 0⟩) 9 9], [r6b1, r6b32], Tu [.slice none 0 0, .bool false, i 0], 377, []⟩
def r6r31 : Rec := ⟨229, 2, [S 0 0 1 1, .slice (some ⟨1, 0, some 0⟩) 6 6], [r6b1, r6b33], Tu [.slice none 0 0, .bool false, i 0], 242, []⟩
def r6r32 : Rec := ⟨229, 2, [S 0 0 1 1, .slice (some ⟨1, 0, some 0⟩) 6 6], [r6b34, r6b0], Tu [.slice none 0 0, .bool false, i 0], 242, []⟩
def r6r33 : Rec := ⟨229, 2, [S 0 0 1 1, .slice (some ⟨1, 0, some 0⟩) 9 9], [r6b34, r6b2], Tu [.slice none 0 0, .bool false, i 0], 377, []⟩
def r6r34 : Rec := ⟨229, 2, [S 0 0 1 1, .slice (some ⟨1, 0, some 0⟩) 9 9], [r6b34, r6b3], Tu [.slice none 0 0, .bool false, i 0], 377, []⟩
def r6r35 : Rec := ⟨229, 2, [S 0 0 1 1, .slice (some ⟨1, 0, some 0⟩) 9 9], [r6b34, r6b4], Tu [.slice none 0 0, .bool false, i 0], 377, []⟩
def r6r36 : Rec := ⟨229, 2, [S 0 0 1 1, .slice (some ⟨1, 0, some 0⟩) 9 9], [r6b34, r6b5], Tu [.slice none 0 0, .bool false, i 0], 377, []⟩
def r6r37 : Rec := ⟨229, 2, [S 0 0 1 1, .slice (some ⟨1, 0, some 0⟩) 9 9], [r6b34, r6b6], Tu [.slice none 0 0, .bool false, i 0], 377, []⟩
def r6r38 : Rec := ⟨229, 2, [S 0 0 1 1, .slice (some ⟨1, 0, some 0⟩) 9 9], [r6b34, r6b7], Tu [.slice none 0 0, .bool false, i 0], 377, []⟩
def r6r39 : Rec := ⟨229, 2, [S 0 0 1 1, .slice (some ⟨1, 0, some 0⟩) 6 6], [r6b34, r6b8], Tu [.slice none 0 0, .bool false, i 0], 242, []⟩
def r6r40 : Rec := ⟨229, 2, [S 0 0 1 1, .slice (some ⟨1, 0, some 0⟩) 6 6], [r6b34, r6b9], Tu [.slice none 0 0, .bool false, i 0], 242, []⟩
def r6r41 : Rec := ⟨229, 2, [S 0 0 1 1, .slice (some ⟨1, 0, some 0⟩) 9 9], [r6b34, r6b10], Tu [.slice none 0 0, .bool false, i 0], 377, []⟩
def r6r42 : Rec := ⟨229, 2, [S 0 0 1 1, .slice (some ⟨1, 0, some 0⟩) 9 9], [r6b34, r6b11], Tu [.slice none 0 0, .bool false, i 0], 377, []⟩
def r6r43 : Rec := ⟨229, 2, [S 0 0 1 1, .slice (some ⟨1, 0, some 0⟩) 9 9], [r6b34, r6b12], Tu [.slice none 0 0, .bool false, i 0], 377, []⟩
def r6r44 : Rec := ⟨229, 2, [S 0 0 1 1, .slice (some ⟨1, 0, some 0⟩) 9 9], [r6b34, r6b13], Tu [.slice none 0 0, .bool false, i 0], 377, []⟩
def r6r45 : Rec := ⟨229, 2, [S 0 0 1 1, .slice (some ⟨1, 0, some 0⟩) 9 9], [r6b34, r6b14], Tu [.slice none 0 0, .bool false, i 0], 377, []⟩
def r6r46 : Rec := ⟨229, 2, [S 0 0 1 1, .slice (some ⟨1, 0, some 0⟩) 9 9], [r6b34, r6b15], Tu [.slice none 0 0, .bool false, i 0], 377, []⟩
def r6r47 : Rec := ⟨229, 2, [S 0 0 1 1, .slice (some ⟨1, 0, some 0⟩) 6 6], [r6b34, r6b16], Tu [.slice none 0 0, .bool false, i 0], 242, []⟩
def r6r48 : Rec := ⟨229, 2, [S 0 0 1 1, .slice (some ⟨1, 0, some 0⟩) 6 6], [r6b34, r6b18], Tu [.slice none 0 0, .bool false, i 0], 242, []⟩
def r6r49 : Rec := ⟨229, 2, [S 0 0 1 1, .slice (some ⟨1, 0, some 0⟩) 9 9], [r6b34, r6b19], Tu [.slice none 0 0, .bool false, i 0], 377, []⟩
def r6r50 : Rec := ⟨229, 2, [S 0 0 1 1, .slice (some ⟨1, 0, some 0⟩) 9 9], [r6b34, r6b20], Tu [.slice none 0 0, .bool false, i 0], 377, []⟩
def r6r51 : Rec := ⟨229, 2, [S 0 0 1 1, .slice (some ⟨1, 0, some 0⟩) 9 9], [r6b34, r6b21], Tu [.slice none 0 0, .bool false, i 0], 377, []⟩
def r6r52 : Rec := ⟨229, 2, [S 0 0 1 1, .slice (some ⟨1, 0, some 0⟩) 9 9], [r6b34, r6b22], Tu [.slice none 0 0, .bool false, i 0], 377, []⟩
def r6r53 : Rec := ⟨229, 2, [S 0 0 1 1, .slice (some ⟨1, 0, some 0⟩) 9 9], [r6b34, r6b23], Tu [.slice none 0 0, .bool false, i 0], 377, []⟩
def r6r54 : Rec := ⟨229, 2, [S 0 0 1 1, .slice (some ⟨1, 0, some 0⟩) 9 9], [r6b34, r6b24], Tu [.slice none 0 0, .bool false, i 0], 377, []⟩
def r6r55 : Rec := ⟨229, 2, [S 0 0 1 1, .slice (some ⟨1, 0, some 0⟩) 6 6], [r6b34, r6b25], Tu [.slice none 0 0, .bool false, i 0], 242, []⟩
def r6r56 : Rec := ⟨229, 2, [S 0 0 1 1, .slice (some ⟨1, 0, some 0⟩) 6 6], [r6b34, r6b26], Tu [.slice none 0 0, .bool false, i 0], 242, []⟩
def r6r57 : Rec := ⟨229, 2, [S 0 0 1 1, .slice (some ⟨1, 0, some 0⟩) 9 9], [r6b34, r6b27], Tu [.slice none 0 0, .bool false, i 0], 377, []⟩
def r6r58 : Rec := ⟨229, 2, [S 0 0 1 1, .slice (some ⟨1, 0, some 0⟩) 9 9], [r6b34, r6b28], Tu [.slice none 0 0, .bool false, i 0], 377, []⟩
def r6r59 : Rec := ⟨229, 2, [S 0 0 1 1, .slice (some ⟨1, 0, some 0⟩) 9 9], [r6b34, r6b29], Tu [.slice none 0 0, .bool false, i 0], 377, []⟩
def r6r60 : Rec := ⟨229, 2, [S 0 0 1 1, .slice (some ⟨1, 0, some 0⟩) 9 9], [r6b34, r6b30], Tu [.slice none 0 0, .bool false, i 0], 377, []⟩
def r6r61 : Rec := ⟨229, 2, [S 0 0 1 1, .slice (some ⟨1, 0, some 0⟩) 9 9], [r6b34, r6b31], Tu [.slice none 0 0, .bool false, i 0], 377, []⟩
def r6r62 : Rec := ⟨229, 2, [S 0 0 1 1, .slice (some ⟨1, 0, some 0⟩) 9 9], [r6b34, r6b32], Tu [.slice none 0 0, .bool false, i 0], 377, []⟩
def r6r63 : Rec := ⟨229, 2, [S 0 0 1 1, .slice (some ⟨1, 0, some 0⟩) 6 6], [r6b34, r6b33], Tu [.slice none 0 0, .bool false, i 0], 242, []⟩
def r6r64 : Rec := ⟨229, 2, [S 0 0 1 1, .slice (some ⟨1, 0, some 0⟩) 4 4], [(0, pp [(7, 7)], 43, false), (1, pp [(0, 0), (49, 0), (49, 49), (0, 49)], 43, true)], Tu [.slice (some ⟨167, 0, some 0⟩) 1 1, .bool true, i 0], 169, [(167, pp [(7, 7)], 43, true)]⟩
theorem r6q0 : List.all [r6r0, r6r1, r6r2, r6r3, r6r4, r6r5, r6r6, r6r7, r6r8, r6r9, r6r10, r6r11, r6r12, r6r13, r6r14, r6r15, r6r16, r6r17, r6r18, r6r19, r6r20] (okB words5) = true := by kernel_rfl
theorem r6r0_good : Good Tryz.prog 229 (orcRec r6r0) := good_ok words5_good (r := r6r0) (all_hd r6q0)
theorem r6r1_good : Good Tryz.prog 229 (orcRec r6r1) := good_ok words5_good (r := r6r1) (all_hd (all_tl r6q0))
theorem r6r2_good : Good Tryz.prog 229 (orcRec r6r2) := good_ok words5_good (r := r6r2) (all_hd (all_tl (all_tl r6q0)))
theorem r6r3_good : Good Tryz.prog 229 (orcRec r6r3) := good_ok words5_good (r := r6r3) (all_hd (all_tl (all_tl (all_tl r6q0))))
theorem r6r4_good : Good Tryz.prog 229 (orcRec r6r4) := good_ok words5_good (r := r6r4) (all_hd (all_tl (all_tl (all_tl (all_tl r6q0)))))
theorem r6r5_good : Good Tryz.prog 229 (orcRec r6r5) := good_ok words5_good (r := r6r5) (all_hd (all_tl (all_tl (all_tl (all_tl (all_tl r6q0))))))
theorem r6r6_good : Good Tryz.prog 229 (orcRec r6r6) := good_ok words5_good (r := r6r6) (all_hd (all_tl (all_tl (all_tl (all_tl (all_tl (all_tl r6q0)))))))
theorem r6r7_good : Good Tryz.prog 229 (orcRec r6r7) := good_ok words5_good (r := r6r7) (all_hd (all_tl (all_tl (all_tl (all_tl (all_tl (all_tl (all_tl r6q0))))))))
theorem r6r8_good : Good Tryz.prog 229 (orcRec r6r8) := good_ok words5_good (r := r6r8) (all_hd (all_tl (all_tl (all_tl (all_tl (all_tl (all_tl (all_tl (all_tl r6q0)))))))))
theorem r6r9_good : Good Tryz.prog 229 (orcRec r6r9) := good_ok words5_good (r := r6r9) (all_hd (all_tl (all_tl (all_tl (all_tl (all_tl (all_tl (all_tl (all_tl (all_tl r6q0))))))))))
theorem r6r10_good : Good Tryz.prog 229 (orcRec r6r10) := good_ok words5_good (r := r6r10) (all_hd (all_tl (all_tl (all_tl (all_tl (all_tl (all_tl (all_tl (all_tl (all_tl (all_tl r6q0)))))))))))
theorem r6r11_good : Good Tryz.prog 229 (orcRec r6r11) := good_ok words5_good (r := r6r11) (all_hd (all_tl (all_tl (all_tl (all_tl (all_tl (all_tl (all_tl (all_tl (all_tl (all_tl (all_tl r6q0))))))))))))
theorem r6r12_good : Good Tryz.prog 229 (orcRec r6r12) := good_ok words5_good (r := r6r12) (all_hd (all_tl (all_tl (all_tl (all_tl (all_tl (all_tl (all_tl (all_tl (all_tl (all_tl (all_tl (all_tl r6q0)))))))))))))
theorem r6r13_good : Good Tryz.prog 229 (orcRec r6r13) := good_ok words5_good (r := r6r13) (all_hd (all_tl (all_tl (all_tl (all_tl (all_tl (all_tl (all_tl (all_tl (all_tl (all_tl (all_tl (all_tl (all_tl r6q0))))))))))))))
theorem r6r14_good : Good Tryz.prog 229 (orcRec r6r14) := good_ok words5_good (r := r6r14) (all_hd (all_tl (all_tl (all_tl (all_tl (all_tl (all_tl (all_tl (all_tl (all_tl (all_tl (all_tl (all_tl (all_tl (all_tl r6q0)))))))))))))))
theorem r6r15_good : Good Tryz.prog 229 (orcRec r6r15) := good_ok words5_good (r := r6r15) (all_hd (all_tl (all_tl (all_tl (all_tl (all_tl (all_tl (all_tl (all_tl (all_tl (all_tl (all_tl (all_tl (all_tl (all_tl (all_tl r6q0))))))))))))))))
theorem r6r16_good : Good Tryz.prog 229 (orcRec r6r16) := good_ok words5_good (r := r6r16) (all_hd (all_tl (all_tl (all_tl (all_tl (all_tl (all_tl (all_tl (all_tl (all_tl (all_tl (all_tl (all_tl (all_tl (all_tl (all_tl (all_tl r6q0)))))))))))))))))
theorem r6r17_good : Good Tryz.prog 229 (orcRec r6r17) := good_ok words5_good (r := r6r17) (all_hd (all_tl (all_tl (all_tl (all_tl (all_tl (all_tl (all_tl (all_tl (all_tl (all_tl (all_tl (all_tl (all_tl (all_tl (all_tl (all_tl (all_tl r6q0))))))))))))))))))
theorem r6r18_good : Good Tryz.prog 229 (orcRec r6r18) := good_ok words5_good (r := r6r18) (all_hd (all_tl (all_tl (all_tl (all_tl (all_tl (all_tl (all_tl (all_tl (all_tl (all_tl (all_tl (all_tl (all_tl (all_tl (all_tl (all_tl (all_tl (all_tl r6q0)))))))))))))))))))
theorem r6r19_good : Good Tryz.prog 229 (orcRec r6r19) := good_ok words5_good (r := r6r19) (all_hd (all_tl (all_tl (all_tl (all_tl (all_tl (all_tl (all_tl (all_tl (all_tl (all_tl (all_tl (all_tl (all_tl (all_tl (all_tl (all_tl (all_tl (all_tl (all_tl r6q0))))))))))))))))))))
theorem r6r20_good : Good Tryz.prog 229 (orcRec r6r20) := good_ok words5_good (r := r6r20) (all_hd (all_tl (all_tl (all_tl (all_tl (all_tl (all_tl (all_tl (all_tl (all_tl (all_tl (all_tl (all_tl (all_tl (all_tl (all_tl (all_tl (all_tl (all_tl (all_tl (all_tl r6q0)))))))))))))))))))))
theorem r6q1 : List.all [r6r21, r6r22, r6r23, r6r24, r6r25, r6r26, r6r27, r6r28, r6r29, r6r30, r6r31, r6r32, r6r33, r6r34, r6r35, r6r36, r6r37, r6r38, r6r39, r6r40, r6r41] (okB words5) = true := by kernel_rfl
theorem r6r21_good : Good Tryz.prog 229 (orcRec r6r21) := good_ok words5_good (r := r6r21) (all_hd r6q1)
theorem r6r22_good : Good Tryz.prog 229 (orcRec r6r22) := good_ok words5_good (r := r6r22) (all_hd (all_tl r6q1))
theorem r6r23_good : Good Tryz.prog 229 (orcRec r6r23) := good_ok words5_good (r := r6r23) (all_hd (all_tl (all_tl r6q1)))
theorem r6r24_good : Good Tryz.prog 229 (orcRec r6r24) := good_ok words5_good (r := r6r24) (all_hd (all_tl (all_tl (all_tl r6q1))))
theorem r6r25_good : Good Tryz.prog 229 (orcRec r6r25) := good_ok words5_good (r := r6r25) (all_hd (all_tl (all_tl (all_tl (all_tl r6q1)))))
theorem r6r26_good : Good Tryz.prog 229 (orcRec r6r26) := good_ok words5_good (r := r6r26) (all_hd (all_tl (all_tl (all_tl (all_tl (all_tl r6q1))))))
theorem r6r27_good : Good Tryz.prog 229 (orcRec r6r27) := good_ok words5_good (r := r6r27) (all_hd (all_tl (all_tl (all_tl (all_tl (all_tl (all_tl r6q1)))))))
theorem r6r28_good : Good Tryz.prog 229 (orcRec r6r28) := good_ok words5_good (r := r6r28) (all_hd (all_tl (all_tl (all_tl (all_tl (all_tl (all_tl (all_tl r6q1))))))))
theorem r6r29_good : Good Tryz.prog 229 (orcRec r6r29) := good_ok words5_good (r := r6r29) (all_hd (all_tl (all_tl (all_tl (all_tl (all_tl (all_tl (all_tl (all_tl r6q1)))))))))
theorem r6r30_good : Good Tryz.prog 229 (orcRec r6r30) := good_ok words5_good (r := r6r30) (all_hd (all_tl (all_tl (all_tl (all_tl (all_tl (all_tl (all_tl (all_tl (all_tl r6q1))))))))))
theorem r6r31_good : Good Tryz.prog 229 (orcRec r6r31) := good_ok words5_good (r := r6r31) (all_hd (all_tl (all_tl (all_tl (all_tl (all_tl (all_tl (all_tl (all_tl (all_tl (all_tl r6q1)))))))))))
theorem r6r32_good : Good Tryz.prog 229 (orcRec r6r32) := good_ok words5_good (r := r6r32) (all_hd (all_tl (all_tl (all_tl (all_tl (all_tl (all_tl (all_tl (all_tl (all_tl (all_tl (all_tl r6q1))))))))))))
theorem r6r33_good : Good Tryz.prog 229 (orcRec r6r33) := good_ok words5_good (r := r6r33) (all_hd (all_tl (all_tl (all_tl (all_tl (all_tl (all_tl (all_tl (all_tl (all_tl (all_tl (all_tl (all_tl r6q1)))))))))))))
theorem r6r34_good : Good Tryz.prog 229 (orcRec r6r34) := good_ok words5_good (r := r6r34) (all_hd (all_tl (all_tl (all_tl (all_tl (all_tl (all_tl (all_tl (all_tl (all_tl (all_tl (all_tl (all_tl (all_tl r6q1))))))))))))))
theorem r6r35_good : Good Tryz.prog 229 (orcRec r6r35) := good_ok words5_good (r := r6r35) (all_hd (all_tl (all_tl (all_tl (all_tl (all_tl (all_tl (all_tl (all_tl (all_tl (all_tl (all_tl (all_tl (all_tl (all_tl r6q1)))))))))))))))
theorem r6r36_good : Good Tryz.prog 229 (orcRec r6r36) := good_ok words5_good (r := r6r36) (all_hd (all_tl (all_tl (all_tl (all_tl (all_tl (all_tl (all_tl (all_tl (all_tl (all_tl (all_tl (all_tl (all_tl (all_tl (all_tl r6q1))))))))))))))))
theorem r6r37_good : Good Tryz.prog 229 (orcRec r6r37) := good_ok words5_good (r := r6r37) (all_hd (all_tl (all_tl (all_tl (all_tl (all_tl (all_tl (all_tl (all_tl (all_tl (all_tl (all_tl (all_tl (all_tl (all_tl (all_tl (all_tl r6q1)))))))))))))))))
theorem r6r38_good : Good Tryz.prog 229 (orcRec r6r38) := good_ok words5_good (r := r6r38) (all_hd (all_tl (all_tl (all_tl (all_tl (all_tl (all_tl (all_tl (all_tl (all_tl (all_tl (all_tl (all_tl (all_tl (all_tl (all_tl (all_tl (all_tl r6q1))))))))))))))))))
theorem r6r39_good : Good Tryz.prog 229 (orcRec r6r39) := good_ok words5_good (r := r6r39) (all_hd (all_tl (all_tl (all_tl (all_tl (all_tl (all_tl (all_tl (all_tl (all_tl (all_tl (all_tl (all_tl (all_tl (all_tl (all_tl (all_tl (all_tl (all_tl r6q1)))))))))))))))))))
theorem r6r40_good : Good Tryz.prog 229 (orcRec r6r40) := good_ok words5_good (r := r6r40) (all_hd (all_tl (all_tl (all_tl (all_tl (all_tl (all_tl (all_tl (all_tl (all_tl (all_tl (all_tl (all_tl (all_tl (all_tl (all_tl (all_tl (all_tl (all_tl (all_tl r6q1))))))))))))))))))))
theorem r6r41_good : Good Tryz.prog 229 (orcRec r6r41) := good_ok words5_good (r := r6r41) (all_hd (all_tl (all_tl (all_tl (all_tl (all_tl (all_tl (all_tl (all_tl (all_tl (all_tl (all_tl (all_tl (all_tl (all_tl (all_tl (all_tl (all_tl (all_tl (all_tl (all_tl r6q1)))))))))))))))))))))
theorem r6q2 : List.all [r6r42, r6r43, r6r44, r6r45, r6r46, r6r47, r6r48, r6r49, r6r50, r6r51, r6r52, r6r53, r6r54, r6r55, r6r56, r6r57, r6r58, r6r59, r6r60, r6r61, r6r62] (okB words5) = true := by kernel_rfl
theorem r6r42_good : Good Tryz.prog 229 (orcRec r6r42) := good_ok words5_good (r := r6r42) (all_hd r6q2)
theorem r6r43_good : Good Tryz.prog 229 (orcRec r6r43) := good_ok words5_good (r := r6r43) (all_hd (all_tl r6q2))
theorem r6r44_good : Good Tryz.prog 229 (orcRec r6r44) := good_ok words5_good (r := r6r44) (all_hd (all_tl (all_tl r6q2)))
theorem r6r45_good : Good Tryz.prog 229 (orcRec r6r45) := good_ok words5_good (r := r6r45) (all_hd (all_tl (all_tl (all_tl r6q2))))
theorem r6r46_good : Good Tryz.prog 229 (orcRec r6r46) := good_ok words5_good (r := r6r46) (all_hd (all_tl (all_tl (all_tl (all_tl r6q2)))))
theorem r6r47_good : Good Tryz.prog 229 (orcRec r6r47) := good_ok words5_good (r := r6r47) (all_hd (all_tl (all_tl (all_tl (all_tl (all_tl r6q2))))))
theorem r6r48_good : Good Tryz.prog 229 (orcRec r6r48) := good_ok words5_good (r := r6r48) (all_hd (all_tl (all_tl (all_tl (all_tl (all_tl (all_tl r6q2)))))))
theorem r6r49_good : Good Tryz.prog 229 (orcRec r6r49) := good_ok words5_good (r := r6r49) (all_hd (all_tl (all_tl (all_tl (all_tl (all_tl (all_tl (all_tl r6q2))))))))
theorem r6r50_good : Good Tryz.prog 229 (orcRec r6r50) := good_ok words5_good (r := r6r50) (all_hd (all_tl (all_tl (all_tl (all_tl (all_tl (all_tl (all_tl (all_tl r6q2)))))))))
theorem r6r51_good : Good Tryz.prog 229 (orcRec r6r51) := good_ok words5_good (r := r6r51) (all_hd (all_tl (all_tl (all_tl (all_tl (all_tl (all_tl (all_tl (all_tl (all_tl r6q2))))))))))
theorem r6r52_good : Good Tryz.prog 229 (orcRec r6r52) := good_ok words5_good (r := r6r52) (all_hd (all_tl (all_tl (all_tl (all_tl (all_tl (all_tl (all_tl (all_tl (all_tl (all_tl r6q2)))))))))))
theorem r6r53_good : Good Tryz.prog 229 (orcRec r6r53) := good_ok words5_good (r := r6r53) (all_hd (all_tl (all_tl (all_tl (all_tl (all_tl (all_tl (all_tl (all_tl (all_tl (all_tl (all_tl r6q2))))))))))))
theorem r6r54_good : Good Tryz.prog 229 (orcRec r6r54) := good_ok words5_good (r := r6r54) (all_hd (all_tl (all_tl (all_tl (all_tl (all_tl (all_tl (all_tl (all_tl (all_tl (all_tl (all_tl (all_tl r6q2)))))))))))))
theorem r6r55_good : Good Tryz.prog 229 (orcRec r6r55) := good_ok words5_good (r := r6r55) (all_hd (all_tl (all_tl (all_tl (all_tl (all_tl (all_tl (all_tl (all_tl (all_tl (all_tl (all_tl (all_tl (all_tl r6q2))))))))))))))
theorem r6r56_good : Good Tryz.prog 229 (orcRec r6r56) := good_ok words5_good (r := r6r56) (all_hd (all_tl (all_tl (all_tl (all_tl (all_tl (all_tl (all_tl (all_tl (all_tl (all_tl (all_tl (all_tl (all_tl (all_tl r6q2)))))))))))))))
theorem r6r57_good : Good Tryz.prog 229 (orcRec r6r57) := good_ok words5_good (r := r6r57) (all_hd (all_tl (all_tl (all_tl (all_tl (all_tl (all_tl (all_tl (all_tl (all_tl (all_tl (all_tl (all_tl (all_tl (all_tl (all_tl r6q2))))))))))))))))
theorem r6r58_good : Good Tryz.prog 229 (orcRec r6r58) := good_ok words5_good (r := r6r58) (all_hd (all_tl (all_tl (all_tl (all_tl (all_tl (all_tl (all_tl (all_tl (all_tl (all_tl (all_tl (all_tl (all_tl (all_tl (all_tl (all_tl r6q2)))))))))))))))))
theorem r6r59_good : Good Tryz.prog 229 (orcRec r6r59) := good_ok words5_good (r := r6r59) (all_hd (all_tl (all_tl (all_tl (all_tl (all_tl (all_tl (all_tl (all_tl (all_tl (all_tl (all_tl (all_tl (all_tl (all_tl (all_tl (all_tl (all_tl r6q2))))))))))))))))))
theorem r6r60_good : Good Tryz.prog 229 (orcRec r6r60) := good_ok words5_good (r := r6r60) (all_hd (all_tl (all_tl (all_tl (all_tl (all_tl (all_tl (all_tl (all_tl (all_tl (all_tl (all_tl (all_tl (all_tl (all_tl (all_tl (all_tl (all_tl (all_tl r6q2)))))))))))))))))))
theorem r6r61_good : Good Tryz.prog 229 (orcRec r6r61) := good_ok words5_good (r := r6r61) (all_hd (all_tl (all_tl (all_tl (all_tl (all_tl (all_tl (all_tl (all_tl (all_tl (all_tl (all_tl (all_tl (all_tl (all_tl (all_tl (all_tl (all_tl (all_tl (all_tl r6q2))))))))))))))))))))
theorem r6r62_good : Good Tryz.prog 229 (orcRec r6r62) := good_ok words5_good (r := r6r62) (all_hd (all_tl (all_tl (all_tl (all_tl (all_tl (all_tl (all_tl (all_tl (all_tl (all_tl (all_tl (all_tl (all_tl (all_tl (all_tl (all_tl (all_tl (all_tl (all_tl (all_tl r6q2)))))))))))))))))))))
theorem r6q3 : List.all [r6r63, r6r64] (okB words5) = true := by kernel_rfl
theorem r6r63_good : Good Tryz.prog 229 (orcRec r6r63) := good_ok words5_good (r := r6r63) (all_hd r6q3)
theorem r6r64_good : Good Tryz.prog 229 (orcRec r6r64) := good_ok words5_good (r := r6r64) (all_hd (all_tl r6q3))
def r6t0 : Word := orIf (ltK (14000028)) (orTry (orcRec r6r0) (orTry (orcRec r6r1) (orTry (orcRec r6r10) (orTry (orcRec r6r11) (orTry (orcRec r6r12) (orTry (orcRec r6r13) (orTry (orcRec r6r14) (orTry (orcRec r6r15) (orTry (orcRec r6r16) (orTry (orcRec r6r17) (orTry (orcRec r6r18) (orTry (orcRec r6r19) (orTry (orcRec r6r2) (orTry (orcRec r6r20) (orTry (orcRec r6r21) (orTry (orcRec r6r22) (orTry (orcRec r6r23) (orTry (orcRec r6r24) (orTry (orcRec r6r25) (orTry (orcRec r6r26) (orTry (orcRec r6r27) (orTry (orcRec r6r28) (orTry (orcRec r6r29) (orTry (orcRec r6r3) (orTry (orcRec r6r30) (orTry (orcRec r6r31) (orTry (orcRec r6r32) (orTry (orcRec r6r33) (orTry (orcRec r6r34) (orTry (orcRec r6r35) (orTry (orcRec r6r36) (orTry (orcRec r6r37) (orTry (orcRec r6r38) (orTry (orcRec r6r39) (orTry (orcRec r6r4) (orTry (orcRec r6r40) (orTry (orcRec r6r41) (orTry (orcRec r6r42) (orTry (orcRec r6r43) (orTry (orcRec r6r44) (orTry (orcRec r6r45) (orTry (orcRec r6r46) (orTry (orcRec r6r47) (orTry (orcRec r6r48) (orTry (orcRec r6r49) (orTry (orcRec r6r5) (orTry (orcRec r6r50) (orTry (orcRec r6r51) (orTry (orcRec r6r52) (orTry (orcRec r6r53) (orTry (orcRec r6r54) (orTry (orcRec r6r55) (orTry (orcRec r6r56) (orTry (orcRec r6r57) (orTry (orcRec r6r58) (orTry (orcRec r6r59) (orTry (orcRec r6r6) (orTry (orcRec r6r60) (orTry (orcRec r6r61) (orTry (orcRec r6r62) (orTry (orcRec r6r63) (orTry (orcRec r6r7) (orTry (orcRec r6r8) (orcRec r6r9)))))))))))))))))))))))))))))))))))))))))))))))))))))))))))))))) (orcRec r6r64)
theorem r6t0_good : Good Tryz.prog 229 r6t0 := Good.ite (Good.or r6r0_good (Good.or r6r1_good (Good.or r6r10_good (Good.or r6r11_good (Good.or r6r12_good (Good.or r6r13_good (Good.or r6r14_good (Good.or r6r15_good (Good.or r6r16_good (Good.or r6r17_good (Good.or r6r18_good (Good.or r6r19_good (Good.or r6r2_good (Good.or r6r20_good (Good.or r6r21_good (Good.or r6r22_good (Good.or r6r23_good (Good.or r6r24_good (Good.or r6r25_good (Good.or r6r26_good (Good.or r6r27_good (Good.or r6r28_good (Good.or r6r29_good (Good.or r6r3_good (Good.or r6r30_good (Good.or r6r31_good (Good.or r6r32_good (Good.or r6r33_good (Good.or r6r34_good (Good.or r6r35_good (Good.or r6r36_good (Good.or r6r37_good (Good.or r6r38_good (Good.or r6r39_good (Good.or r6r4_good (Good.or r6r40_good (Good.or r6r41_good (Good.or r6r42_good (Good.or r6r43_good (Good.or r6r44_good (Good.or r6r45_good (Good.or r6r46_good (Good.or r6r47_good (Good.or r6r48_good (Good.or r6r49_good (Good.or r6r5_good (Good.or r6r50_good (Good.or r6r51_good (Good.or r6r52_good (Good.or r6r53_good (Good.or r6r54_good (Good.or r6r55_good (Good.or r6r56_good (Good.or r6r57_good (Good.or r6r58_good (Good.or r6r59_good (Good.or r6r6_good (Good.or r6r60_good (Good.or r6r61_good (Good.or r6r62_good (Good.or r6r63_good (Good.or r6r7_good (Good.or r6r8_good r6r9_good))))))))))))))))))))))))))))))))))))))))))))))))))))))))))))))) r6r64_good
def words6 : List (FuncId × Word) := (229, r6t0) :: words5
theorem words6_good : ∀ x ∈ words6, Good Tryz.prog x.1 x.2 := by
  intro x hx
  unfold words6 at hx
  rcases List.mem_cons.1 hx with rfl | hx
  · exact r6t0_good
  exact words5_good x hx
end
end Go.Ev
