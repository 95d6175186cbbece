/- What runs found: cut.crossings, hull.Box. Conditions: none. Printed by wip/genR.py. -/
import Derived.Test.YtcgghcicnanliaaGreatDoorM37
set_option linter.unusedVariables false
set_option linter.unusedSimpArgs false
namespace Go.Ev
open Go.Proofs Go.Proofs.YtcgghcicnanliaaGreatDoor
noncomputable section
set_option maxRecDepth 100000
def r5b0 : Bk := (1, pp [(188, 17), (189, 0), (211, 0), (209, 22), (208, 22), (188, 18)], 43, true)
def r5b1 : Bk := (0, pp [(0, 0)], 43, false)
def r5b2 : Bk := (1, pp [(183, 34), (188, 17), (189, 17), (209, 21), (209, 22), (206, 32), (202, 43), (201, 43), (183, 35)], 43, true)
def r5b3 : Bk := (1, pp [(174, 49), (183, 34), (184, 34), (202, 42), (202, 43), (198, 52), (192, 62), (191, 62), (174, 50)], 43, true)
def r5b4 : Bk := (1, pp [(163, 63), (174, 49), (175, 49), (192, 61), (192, 62), (186, 70), (178, 78), (177, 78), (163, 64)], 43, true)
def r5b5 : Bk := (1, pp [(149, 74), (163, 63), (164, 63), (178, 77), (178, 78), (170, 86), (162, 92), (161, 92), (149, 75)], 43, true)
def r5b6 : Bk := (1, pp [(134, 83), (149, 74), (150, 74), (162, 91), (162, 92), (152, 98), (143, 102), (142, 102), (134, 84)], 43, true)
def r5b7 : Bk := (1, pp [(117, 88), (134, 83), (135, 83), (143, 101), (143, 102), (132, 106), (122, 109), (121, 109), (117, 89)], 43, true)
def r5b8 : Bk := (1, pp [(100, 89), (117, 88), (118, 88), (122, 108), (122, 109), (100, 111)], 43, true)
def r5b9 : Bk := (1, pp [(78, 108), (82, 88), (83, 88), (100, 89), (100, 111), (78, 109)], 43, true)
def r5b10 : Bk := (1, pp [(57, 101), (65, 83), (66, 83), (83, 88), (83, 89), (79, 109), (78, 109), (68, 106), (57, 102)], 43, true)
def r5b11 : Bk := (1, pp [(38, 91), (50, 74), (51, 74), (66, 83), (66, 84), (58, 102), (57, 102), (48, 98), (38, 92)], 43, true)
def r5b12 : Bk := (1, pp [(22, 77), (36, 63), (37, 63), (51, 74), (51, 75), (39, 92), (38, 92), (30, 86), (22, 78)], 43, true)
def r5b13 : Bk := (1, pp [(8, 61), (25, 49), (26, 49), (37, 63), (37, 64), (23, 78), (22, 78), (14, 70), (8, 62)], 43, true)
def r5b14 : Bk := (1, pp [(-2, 42), (16, 34), (17, 34), (26, 49), (26, 50), (9, 62), (8, 62), (2, 52), (-2, 43)], 43, true)
def r5b15 : Bk := (1, pp [(-9, 21), (11, 17), (12, 17), (17, 34), (17, 35), (-1, 43), (-2, 43), (-6, 32), (-9, 22)], 43, true)
def r5b16 : Bk := (1, pp [(-11, 0), (11, 0), (12, 17), (12, 18), (-8, 22), (-9, 22)], 43, true)
def r5b17 : Bk := (1, pp [(-11, 0), (-9, -22), (-8, -22), (12, -18), (12, -17), (11, 0)], 43, true)
def r5b18 : Bk := (1, pp [(-9, -22), (-6, -32), (-2, -43), (-1, -43), (17, -35), (17, -34), (12, -17), (11, -17), (-9, -21)], 43, true)
def r5b19 : Bk := (1, pp [(-2, -43), (2, -52), (8, -62), (9, -62), (26, -50), (26, -49), (17, -34), (16, -34), (-2, -42)], 43, true)
def r5b20 : Bk := (1, pp [(8, -62), (14, -70), (22, -78), (23, -78), (37, -64), (37, -63), (26, -49), (25, -49), (8, -61)], 43, true)
def r5b21 : Bk := (1, pp [(22, -78), (30, -86), (38, -92), (39, -92), (51, -75), (51, -74), (37, -63), (36, -63), (22, -77)], 43, true)
def r5b22 : Bk := (1, pp [(38, -92), (48, -98), (57, -102), (58, -102), (66, -84), (66, -83), (51, -74), (50, -74), (38, -91)], 43, true)
def r5b23 : Bk := (1, pp [(57, -102), (68, -106), (78, -109), (79, -109), (83, -89), (83, -88), (66, -83), (65, -83), (57, -101)], 43, true)
def r5b24 : Bk := (1, pp [(78, -109), (100, -111), (100, -89), (83, -88), (82, -88), (78, -108)], 43, true)
def r5b25 : Bk := (1, pp [(100, -111), (122, -109), (122, -108), (118, -88), (117, -88), (100, -89)], 43, true)
def r5b26 : Bk := (1, pp [(117, -89), (121, -109), (122, -109), (132, -106), (143, -102), (143, -101), (135, -83), (134, -83), (117, -88)], 43, true)
def r5b27 : Bk := (1, pp [(134, -84), (142, -102), (143, -102), (152, -98), (162, -92), (162, -91), (150, -74), (149, -74), (134, -83)], 43, true)
def r5b28 : Bk := (1, pp [(149, -75), (161, -92), (162, -92), (170, -86), (178, -78), (178, -77), (164, -63), (163, -63), (149, -74)], 43, true)
def r5b29 : Bk := (1, pp [(163, -64), (177, -78), (178, -78), (186, -70), (192, -62), (192, -61), (175, -49), (174, -49), (163, -63)], 43, true)
def r5b30 : Bk := (1, pp [(174, -50), (191, -62), (192, -62), (198, -52), (202, -43), (202, -42), (184, -34), (183, -34), (174, -49)], 43, true)
def r5b31 : Bk := (1, pp [(183, -35), (201, -43), (202, -43), (206, -32), (209, -22), (209, -21), (189, -17), (188, -17), (183, -34)], 43, true)
def r5b32 : Bk := (1, pp [(188, -18), (208, -22), (209, -22), (211, 0), (189, 0), (188, -17)], 43, true)
def r5b33 : Bk := (0, pp [(40, 0)], 43, false)
def r5r0 : Rec := ⟨376, 2, [S 0 0 1 1, .slice (some ⟨1, 0, some 0⟩) 6 6], [r5b1, r5b0], .slice none 0 0, 30, []⟩
def r5r1 : Rec := ⟨376, 2, [S 0 0 1 1, .slice (some ⟨1, 0, some 0⟩) 9 9], [r5b1, r5b2], .slice none 0 0, 39, []⟩
def r5r2 : Rec := ⟨376, 2, [S 0 0 1 1, .slice (some ⟨1, 0, some 0⟩) 9 9], [r5b1, r5b3], .slice none 0 0, 39, []⟩
def r5r3 : Rec := ⟨376, 2, [S 0 0 1 1, .slice (some ⟨1, 0, some 0⟩) 9 9], [r5b1, r5b4], .slice none 0 0, 39, []⟩
def r5r4 : Rec := ⟨376, 2, [S 0 0 1 1, .slice (some ⟨1, 0, some 0⟩) 9 9], [r5b1, r5b5], .slice none 0 0, 39, []⟩
def r5r5 : Rec := ⟨376, 2, [S 0 0 1 1, .slice (some ⟨1, 0, some 0⟩) 9 9], [r5b1, r5b6], .slice none 0 0, 39, []⟩
def r5r6 : Rec := ⟨376, 2, [S 0 0 1 1, .slice (some ⟨1, 0, some 0⟩) 9 9], [r5b1, r5b7], .slice none 0 0, 39, []⟩
def r5r7 : Rec := ⟨376, 2, [S 0 0 1 1, .slice (some ⟨1, 0, some 0⟩) 6 6], [r5b1, r5b8], .slice none 0 0, 30, []⟩
def r5r8 : Rec := ⟨376, 2, [S 0 0 1 1, .slice (some ⟨1, 0, some 0⟩) 6 6], [r5b1, r5b9], .slice none 0 0, 30, []⟩
def r5r9 : Rec := ⟨376, 2, [S 0 0 1 1, .slice (some ⟨1, 0, some 0⟩) 9 9], [r5b1, r5b10], .slice none 0 0, 39, []⟩
def r5r10 : Rec := ⟨376, 2, [S 0 0 1 1, .slice (some ⟨1, 0, some 0⟩) 9 9], [r5b1, r5b11], .slice none 0 0, 39, []⟩
def r5r11 : Rec := ⟨376, 2, [S 0 0 1 1, .slice (some ⟨1, 0, some 0⟩) 9 9], [r5b1, r5b12], .slice none 0 0, 39, []⟩
def r5r12 : Rec := ⟨376, 2, [S 0 0 1 1, .slice (some ⟨1, 0, some 0⟩) 9 9], [r5b1, r5b13], .slice none 0 0, 39, []⟩
def r5r13 : Rec := ⟨376, 2, [S 0 0 1 1, .slice (some ⟨1, 0, some 0⟩) 9 9], [r5b1, r5b14], .slice none 0 0, 39, []⟩
def r5r14 : Rec := ⟨376, 2, [S 0 0 1 1, .slice (some ⟨1, 0, some 0⟩) 9 9], [r5b1, r5b15], .slice none 0 0, 39, []⟩
def r5r15 : Rec := ⟨376, 2, [S 0 0 1 1, .slice (some ⟨1, 0, some 0⟩) 6 6], [r5b1, r5b16], .slice none 0 0, 30, []⟩
def r5r16 : Rec := ⟨376, 2, [S 0 0 1 1, .slice (some ⟨1, 0, some 0⟩) 6 6], [r5b1, r5b17], .slice none 0 0, 30, []⟩
def r5r17 : Rec := ⟨376, 2, [S 0 0 1 1, .slice (some ⟨1, 0, some 0⟩) 9 9], [r5b1, r5b18], .slice none 0 0, 39, []⟩
def r5r18 : Rec := ⟨376, 2, [S 0 0 1 1, .slice (some ⟨1, 0, some 0⟩) 9 9], [r5b1, r5b19], .slice none 0 0, 39, []⟩
def r5r19 : Rec := ⟨376, 2, [S 0 0 1 1, .slice (some ⟨1, 0, some 0⟩) 9 9], [r5b1, r5b20], .slice none 0 0, 39, []⟩
def r5r20 : Rec := ⟨376, 2, [S 0 0 1 1, .slice (some ⟨1, 0, some 0⟩) 9 9], [r5b1, r5b21], .slice none 0 0, 39, []⟩
def r5r21 : Rec := ⟨376, 2, [S 0 0 1 1, .slice (some ⟨1, 0, some 0⟩) 9 9], [r5b1, r5b22], .slice none 0 0, 39, []⟩
def r5r22 : Rec := ⟨376, 2, [S 0 0 1 1, .slice (some ⟨1, 0, some 0⟩) 9 9], [r5b1, r5b23], .slice none 0 0, 39, []⟩
def r5r23 : Rec := ⟨376, 2, [S 0 0 1 1, .slice (some ⟨1, 0, some 0⟩) 6 6], [r5b1, r5b24], .slice none 0 0, 30, []⟩
def r5r24 : Rec := ⟨376, 2, [S 0 0 1 1, .slice (some ⟨1, 0, some 0⟩) 6 6], [r5b1, r5b25], .slice none 0 0, 30, []⟩
def r5r25 : Rec := ⟨376, 2, [S 0 0 1 1, .slice (some ⟨1, 0, some 0⟩) 9 9], [r5b1, r5b26], .slice none 0 0, 39, []⟩
def r5r26 : Rec := ⟨376, 2, [S 0 0 1 1, .slice (some ⟨1, 0, some 0⟩) 9 9], [r5b1, r5b27], .slice none 0 0, 39, []⟩
def r5r27 : Rec := ⟨376, 2, [S 0 0 1 1, .slice (some ⟨1, 0, some 0⟩) 9 9], [r5b1, r5b28], .slice none 0 0, 39, []⟩
def r5r28 : Rec := ⟨376, 2, [S 0 0 1 1, .slice (some ⟨1, 0, some 0⟩) 9 9], [r5b1, r5b29], .slice none 0 0, 39, []⟩
def r5r29 : Rec := ⟨376, 2, [S 0 0 1 1, .slice (some ⟨1, 0, some 0⟩) 9 9], [r5b1, r5b30], .slice none 0 0, 39, []⟩
def r5r30 : Rec := ⟨376, 2, [S 0 0 1 1, .slice (some ⟨1, 0, some 0⟩) 9 9], [r5b1, r5b31], .slice none 0 0, 39, []⟩
def r5r31 : Rec := ⟨376, 2, [S 0 0 1 1, .slice (some ⟨1, 0, some 0⟩) 6 6], [r5b1, r5b32], .slice none 0 0, 30, []⟩
def r5r32 : Rec := ⟨376, 2, [S 0 0 1 1, .slice (some ⟨1, 0, some 0⟩) 6 6], [r5b33, r5b0], .slice none 0 0, 30, []⟩
def r5r33 : Rec := ⟨376, 2, [S 0 0 1 1, .slice (some ⟨1, 0, some 0⟩) 9 9], [r5b33, r5b2], .slice none 0 0, 39, []⟩
def r5r34 : Rec := ⟨376, 2, [S 0 0 1 1, .slice (some ⟨1, 0, some 0⟩) 9 9], [r5b33, r5b3], .slice none 0 0, 39, []⟩
def r5r35 : Rec := ⟨376, 2, [S 0 0 1 1, .slice (some ⟨1, 0, some 0⟩) 9 9], [r5b33, r5b4], .slice none 0 0, 39, []⟩
def r5r36 : Rec := ⟨376, 2, [S 0 0 1 1, .slice (some ⟨1, 0, some 0⟩) 9 9], [r5b33, r5b5], .slice none 0 0, 39, []⟩
def r5r37 : Rec := ⟨376, 2, [S 0 0 1 1, .slice (some ⟨1, 0, some 0⟩) 9 9], [r5b33, r5b6], .slice none 0 0, 39, []⟩
def r5r38 : Rec := ⟨376, 2, [S 0 0 1 1, .slice (some ⟨1, 0, some 0⟩) 9 9], [r5b33, r5b7], .slice none 0 0, 39, []⟩
def r5r39 : Rec := ⟨376, 2, [S 0 0 1 1, .slice (some ⟨1, 0, some 0⟩) 6 6], [r5b33, r5b8], .slice none 0 0, 30, []⟩
def r5r40 : Rec := ⟨376, 2, [S 0 0 1 1, .slice (some ⟨1, 0, some 0⟩) 6 6], [r5b33, r5b9], .slice none 0 0, 30, []⟩
def r5r41 : Rec := ⟨376, 2, [S 0 0 1 1, .slice (some ⟨1, 0, some 0⟩) 9 9], [r5b33, r5b10], .slice none 0 0, 39, []⟩
def r5r42 : Rec := ⟨376, 2, [S 0 0 1 1, .slice (some ⟨1, 0, some 0⟩) 9 9], [r5b33, r5b11], .slice none 0 0, 39, []⟩
def r5r43 : Rec := ⟨376, 2, [S 0 0 1 1, .slice (some ⟨1, 0, some 0⟩) 9 9], [r5b33, r5b12], .slice none 0 0, 39, []⟩
def r5r44 : Rec := ⟨376, 2, [S 0 0 1 1, .slice (some ⟨1, 0, some 0⟩) 9 9], [r5b33, r5b13], .slice none 0 0, 39, []⟩
def r5r45 : Rec := ⟨376, 2, [S 0 0 1 1, .slice (some ⟨1, 0, some 0⟩) 9 9], [r5b33, r5b14], .slice none 0 0, 39, []⟩
def r5r46 : Rec := ⟨376, 2, [S 0 0 1 1, .slice (some ⟨1, 0, some 0⟩) 9 9], [r5b33, r5b15], .slice none 0 0, 39, []⟩
def r5r47 : Rec := ⟨376, 2, [S 0 0 1 1, .slice (some ⟨1, 0, some 0⟩) 6 6], [r5b33, r5b16], .slice none 0 0, 30, []⟩
def r5r48 : Rec := ⟨376, 2, [S 0 0 1 1, .slice (some ⟨1, 0, some 0⟩) 6 6], [r5b33, r5b17], .slice none 0 0, 30, []⟩
def r5r49 : Rec := ⟨376, 2, [S 0 0 1 1, .slice (some ⟨1, 0, some 0⟩) 9 9], [r5b33, r5b18], .slice none 0 0, 39, []⟩
def r5r50 : Rec := ⟨376, 2, [S 0 0 1 1, .slice (some ⟨1, 0, some 0⟩) 9 9], [r5b33, r5b19], .slice none 0 0, 39, []⟩
def r5r51 : Rec := ⟨376, 2, [S 0 0 1 1, .slice (some ⟨1, 0, some 0⟩) 9 9], [r5b33, r5b20], .slice none 0 0, 39, []⟩
def r5r52 : Rec := ⟨376, 2, [S 0 0 1 1, .slice (some ⟨1, 0, some 0⟩) 9 9], [r5b33, r5b21], .slice none 0 0, 39, []⟩
def r5r53 : Rec := ⟨376, 2, [S 0 0 1 1, .slice (some ⟨1, 0, some 0⟩) 9 9], [r5b33, r5b22], .slice none 0 0, 39, []⟩
def r5r54 : Rec := ⟨376, 2, [S 0 0 1 1, .slice (some ⟨1, 0, some 0⟩) 9 9], [r5b33, r5b23], .slice none 0 0, 39, []⟩
def r5r55 : Rec := ⟨376, 2, [S 0 0 1 1, .slice (some ⟨1, 0, some 0⟩) 6 6], [r5b33, r5b24], .slice none 0 0, 30, []⟩
def r5r56 : Rec := ⟨376, 2, [S 0 0 1 1, .slice (some ⟨1, 0, some 0⟩) 6 6], [r5b33, r5b25], .slice none 0 0, 30, []⟩
def r5r57 : Rec := ⟨376, 2, [S 0 0 1 1, .slice (some ⟨1, 0, some 0⟩) 9 9], [r5b33, r5b26], .slice none 0 0, 39, []⟩
def r5r58 : Rec := ⟨376, 2, [S 0 0 1 1, .slice (some ⟨1, 0, some 0⟩) 9 9], [r5b33, r5b27], .slice none 0 0, 39, []⟩
def r5r59 : Rec := ⟨376, 2, [S 0 0 1 1, .slice (some ⟨1, 0, some 0⟩) 9 9], [r5b33, r5b28], .slice none 0 0, 39, []⟩
def r5r60 : Rec := ⟨376, 2, [S 0 0 1 1, .slice (some ⟨1, 0, some 0⟩) 9 9], [r5b33, r5b29], .slice none 0 0, 39, []⟩
def r5r61 : Rec := ⟨376, 2, [S 0 0 1 1, .slice (some ⟨1, 0, some 0⟩) 9 9], [r5b33, r5b30], .slice none 0 0, 39, []⟩
def r5r62 : Rec := ⟨376, 2, [S 0 0 1 1, .slice (some ⟨1, 0, some 0⟩) 9 9], [r5b33, r5b31], .slice none 0 0, 39, []⟩
def r5r63 : Rec := ⟨376, 2, [S 0 0 1 1, .slice (some ⟨1, 0, some 0⟩) 6 6], [r5b33, r5b32], .slice none 0 0, 30, []⟩
def r5r64 : Rec := ⟨376, 2, [S 0 0 1 1, .slice (some ⟨1, 0, some 0⟩) 4 4], [(0, pp [(7, 7)], 43, false), (1, pp [(0, 0), (49, 0), (49, 49), (0, 49)], 43, true)], .slice none 0 0, 24, []⟩
theorem r5q0 : List.all [r5r0, r5r1, r5r2, r5r3, r5r4, r5r5, r5r6, r5r7, r5r8, r5r9, r5r10, r5r11, r5r12, r5r13, r5r14, r5r15, r5r16, r5r17, r5r18, r5r19, r5r20, r5r21, r5r22, r5r23, r5r24, r5r25, r5r26, r5r27, r5r28, r5r29, r5r30, r5r31, r5r32] (okB words4) = true := by kernel_rfl
theorem r5r0_good : Good Tryz.prog 376 (orcRec r5r0) := good_ok words4_good (r := r5r0) (all_hd r5q0)
theorem r5r1_good : Good Tryz.prog 376 (orcRec r5r1) := good_ok words4_good (r := r5r1) (all_hd (all_tl r5q0))
theorem r5r2_good : Good Tryz.prog 376 (orcRec r5r2) := good_ok words4_good (r := r5r2) (all_hd (all_tl (all_tl r5q0)))
theorem r5r3_good : Good Tryz.prog 376 (orcRec r5r3) := good_ok words4_good (r := r5r3) (all_hd (all_tl (all_tl (all_tl r5q0))))
theorem r5r4_good : Good Tryz.prog 376 (orcRec r5r4) := good_ok words4_good (r := r5r4) (all_hd (all_tl (all_tl (all_tl (all_tl r5q0)))))
theorem r5r5_good : Good Tryz.prog 376 (orcRec r5r5) := good_ok words4_good (r := r5r5) (all_hd (all_tl (all_tl (all_tl (all_tl (all_tl r5q0))))))
theorem r5r6_good : Good Tryz.prog 376 (orcRec r5r6) := good_ok words4_good (r := r5r6) (all_hd (all_tl (all_tl (all_tl (all_tl (all_tl (all_tl r5q0)))))))
theorem r5r7_good : Good Tryz.prog 376 (orcRec r5r7) := good_ok words4_good (r := r5r7) (all_hd (all_tl (all_tl (all_tl (all_tl (all_tl (all_tl (all_tl r5q0))))))))
theorem r5r8_good : Good Tryz.prog 376 (orcRec r5r8) := good_ok words4_good (r := r5r8) (all_hd (all_tl (all_tl (all_tl (all_tl (all_tl (all_tl (all_tl (all_tl r5q0)))))))))
theorem r5r9_good : Good Tryz.prog 376 (orcRec r5r9) := good_ok words4_good (r := r5r9) (all_hd (all_tl (all_tl (all_tl (all_tl (all_tl (all_tl (all_tl (all_tl (all_tl r5q0))))))))))
theorem r5r10_good : Good Tryz.prog 376 (orcRec r5r10) := good_ok words4_good (r := r5r10) (all_hd (all_tl (all_tl (all_tl (all_tl (all_tl (all_tl (all_tl (all_tl (all_tl (all_tl r5q0)))))))))))
theorem r5r11_good : Good Tryz.prog 376 (orcRec r5r11) := good_ok words4_good (r := r5r11) (all_hd (all_tl (all_tl (all_tl (all_tl (all_tl (all_tl (all_tl (all_tl (all_tl (all_tl (all_tl r5q0))))))))))))
theorem r5r12_good : Good Tryz.prog 376 (orcRec r5r12) := good_ok words4_good (r := r5r12) (all_hd (all_tl (all_tl (all_tl (all_tl (all_tl (all_tl (all_tl (all_tl (all_tl (all_tl (all_tl (all_tl r5q0)))))))))))))
theorem r5r13_good : Good Tryz.prog 376 (orcRec r5r13) := good_ok words4_good (r := r5r13) (all_hd (all_tl (all_tl (all_tl (all_tl (all_tl (all_tl (all_tl (all_tl (all_tl (all_tl (all_tl (all_tl (all_tl r5q0))))))))))))))
theorem r5r14_good : Good Tryz.prog 376 (orcRec r5r14) := good_ok words4_good (r := r5r14) (all_hd (all_tl (all_tl (all_tl (all_tl (all_tl (all_tl (all_tl (all_tl (all_tl (all_tl (all_tl (all_tl (all_tl (all_tl r5q0)))))))))))))))
theorem r5r15_good : Good Tryz.prog 376 (orcRec r5r15) := good_ok words4_good (r := r5r15) (all_hd (all_tl (all_tl (all_tl (all_tl (all_tl (all_tl (all_tl (all_tl (all_tl (all_tl (all_tl (all_tl (all_tl (all_tl (all_tl r5q0))))))))))))))))
theorem r5r16_good : Good Tryz.prog 376 (orcRec r5r16) := good_ok words4_good (r := r5r16) (all_hd (all_tl (all_tl (all_tl (all_tl (all_tl (all_tl (all_tl (all_tl (all_tl (all_tl (all_tl (all_tl (all_tl (all_tl (all_tl (all_tl r5q0)))))))))))))))))
theorem r5r17_good : Good Tryz.prog 376 (orcRec r5r17) := good_ok words4_good (r := r5r17) (all_hd (all_tl (all_tl (all_tl (all_tl (all_tl (all_tl (all_tl (all_tl (all_tl (all_tl (all_tl (all_tl (all_tl (all_tl (all_tl (all_tl (all_tl r5q0))))))))))))))))))
theorem r5r18_good : Good Tryz.prog 376 (orcRec r5r18) := good_ok words4_good (r := r5r18) (all_hd (all_tl (all_tl (all_tl (all_tl (all_tl (all_tl (all_tl (all_tl (all_tl (all_tl (all_tl (all_tl (all_tl (all_tl (all_tl (all_tl (all_tl (all_tl r5q0)))))))))))))))))))
theorem r5r19_good : Good Tryz.prog 376 (orcRec r5r19) := good_ok words4_good (r := r5r19) (all_hd (all_tl (all_tl (all_tl (all_tl (all_tl (all_tl (all_tl (all_tl (all_tl (all_tl (all_tl (all_tl (all_tl (all_tl (all_tl (all_tl (all_tl (all_tl (all_tl r5q0))))))))))))))))))))
theorem r5r20_good : Good Tryz.prog 376 (orcRec r5r20) := good_ok words4_good (r := r5r20) (all_hd (all_tl (all_tl (all_tl (all_tl (all_tl (all_tl (all_tl (all_tl (all_tl (all_tl (all_tl (all_tl (all_tl (all_tl (all_tl (all_tl (all_tl (all_tl (all_tl (all_tl r5q0)))))))))))))))))))))
theorem r5r21_good : Good Tryz.prog 376 (orcRec r5r21) := good_ok words4_good (r := r5r21) (all_hd (all_tl (all_tl (all_tl (all_tl (all_tl (all_tl (all_tl (all_tl (all_tl (all_tl (all_tl (all_tl (all_tl (all_tl (all_tl (all_tl (all_tl (all_tl (all_tl (all_tl (all_tl r5q0))))))))))))))))))))))
theorem r5r22_good : Good Tryz.prog 376 (orcRec r5r22) := good_ok words4_good (r := r5r22) (all_hd (all_tl (all_tl (all_tl (all_tl (all_tl (all_tl (all_tl (all_tl (all_tl (all_tl (all_tl (all_tl (all_tl (all_tl (all_tl (all_tl (all_tl (all_tl (all_tl (all_tl (all_tl (all_tl r5q0)))))))))))))))))))))))
theorem r5r23_good : Good Tryz.prog 376 (orcRec r5r23) := good_ok words4_good (r := r5r23) (all_hd (all_tl (all_tl (all_tl (all_tl (all_tl (all_tl (all_tl (all_tl (all_tl (all_tl (all_tl (all_tl (all_tl (all_tl (all_tl (all_tl (all_tl (all_tl (all_tl (all_tl (all_tl (all_tl (all_tl r5q0))))))))))))))))))))))))
theorem r5r24_good : Good Tryz.prog 376 (orcRec r5r24) := good_ok words4_good (r := r5r24) (all_hd (all_tl (all_tl (all_tl (all_tl (all_tl (all_tl (all_tl (all_tl (all_tl (all_tl (all_tl (all_tl (all_tl (all_tl (all_tl (all_tl (all_tl (all_tl (all_tl (all_tl (all_tl (all_tl (all_tl (all_tl r5q0)))))))))))))))))))))))))
theorem r5r25_good : Good Tryz.prog 376 (orcRec r5r25) := good_ok words4_good (r := r5r25) (all_hd (all_tl (all_tl (all_tl (all_tl (all_tl (all_tl (all_tl (all_tl (all_tl (all_tl (all_tl (all_tl (all_tl (all_tl (all_tl (all_tl (all_tl (all_tl (all_tl (all_tl (all_tl (all_tl (all_tl (all_tl (all_tl r5q0))))))))))))))))))))))))))
theorem r5r26_good : Good Tryz.prog 376 (orcRec r5r26) := good_ok words4_good (r := r5r26) (all_hd (all_tl (all_tl (all_tl (all_tl (all_tl (all_tl (all_tl (all_tl (all_tl (all_tl (all_tl (all_tl (all_tl (all_tl (all_tl (all_tl (all_tl (all_tl (all_tl (all_tl (all_tl (all_tl (all_tl (all_tl (all_tl (all_tl r5q0)))))))))))))))))))))))))))
theorem r5r27_good : Good Tryz.prog 376 (orcRec r5r27) := good_ok words4_good (r := r5r27) (all_hd (all_tl (all_tl (all_tl (all_tl (all_tl (all_tl (all_tl (all_tl (all_tl (all_tl (all_tl (all_tl (all_tl (all_tl (all_tl (all_tl (all_tl (all_tl (all_tl (all_tl (all_tl (all_tl (all_tl (all_tl (all_tl (all_tl (all_tl r5q0))))))))))))))))))))))))))))
theorem r5r28_good : Good Tryz.prog 376 (orcRec r5r28) := good_ok words4_good (r := r5r28) (all_hd (all_tl (all_tl (all_tl (all_tl (all_tl (all_tl (all_tl (all_tl (all_tl (all_tl (all_tl (all_tl (all_tl (all_tl (all_tl (all_tl (all_tl (all_tl (all_tl (all_tl (all_tl (all_tl (all_tl (all_tl (all_tl (all_tl (all_tl (all_tl r5q0)))))))))))))))))))))))))))))
theorem r5r29_good : Good Tryz.prog 376 (orcRec r5r29) := good_ok words4_good (r := r5r29) (all_hd (all_tl (all_tl (all_tl (all_tl (all_tl (all_tl (all_tl (all_tl (all_tl (all_tl (all_tl (all_tl (all_tl (all_tl (all_tl (all_tl (all_tl (all_tl (all_tl (all_tl (all_tl (all_tl (all_tl (all_tl (all_tl (all_tl (all_tl (all_tl (all_tl r5q0))))))))))))))))))))))))))))))
theorem r5r30_good : Good Tryz.prog 376 (orcRec r5r30) := good_ok words4_good (r := r5r30) (all_hd (all_tl (all_tl (all_tl (all_tl (all_tl (all_tl (all_tl (all_tl (all_tl (all_tl (all_tl (all_tl (all_tl (all_tl (all_tl (all_tl (all_tl (all_tl (all_tl (all_tl (all_tl (all_tl (all_tl (all_tl (all_tl (all_tl (all_tl (all_tl (all_tl (all_tl r5q0)))))))))))))))))))))))))))))))
theorem r5r31_good : Good Tryz.prog 376 (orcRec r5r31) := good_ok words4_good (r := r5r31) (all_hd (all_tl (all_tl (all_tl (all_tl (all_tl (all_tl (all_tl (all_tl (all_tl (all_tl (all_tl (all_tl (all_tl (all_tl (all_tl (all_tl (all_tl (all_tl (all_tl (all_tl (all_tl (all_tl (all_tl (all_tl (all_tl (all_tl (all_tl (all_tl (all_tl (all_tl (all_tl r5q0))))))))))))))))))))))))))))))))
theorem r5r32_good : Good Tryz.prog 376 (orcRec r5r32) := good_ok words4_good (r := r5r32) (all_hd (all_tl (all_tl (all_tl (all_tl (all_tl (all_tl (all_tl (all_tl (all_tl (all_tl (all_tl (all_tl (all_tl (all_tl (all_tl (all_tl (all_tl (all_tl (all_tl (all_tl (all_tl (all_tl (all_tl (all_tl (all_tl (all_tl (all_tl (all_tl (all_tl (all_tl (all_tl (all_tl r5q0)))))))))))))))))))))))))))))))))
theorem r5q1 : List.all [r5r33, r5r34, r5r35, r5r36, r5r37, r5r38, r5r39, r5r40, r5r41, r5r42, r5r43, r5r44, r5r45, r5r46, r5r47, r5r48, r5r49, r5r50, r5r51, r5r52, r5r53, r5r54, r5r55, r5r56, r5r57, r5r58, r5r59, r5r60, r5r61, r5r62, r5r63, r5r64] (okB words4) = true := by kernel_rfl
theorem r5r33_good : Good Tryz.prog 376 (orcRec r5r33) := good_ok words4_good (r := r5r33) (all_hd r5q1)
theorem r5r34_good : Good Tryz.prog 376 (orcRec r5r34) := good_ok words4_good (r := r5r34) (all_hd (all_tl r5q1))
theorem r5r35_good : Good Tryz.prog 376 (orcRec r5r35) := good_ok words4_good (r := r5r35) (all_hd (all_tl (all_tl r5q1)))
theorem r5r36_good : Good Tryz.prog 376 (orcRec r5r36) := good_ok words4_good (r := r5r36) (all_hd (all_tl (all_tl (all_tl r5q1))))
theorem r5r37_good : Good Tryz.prog 376 (orcRec r5r37) := good_ok words4_good (r := r5r37) (all_hd (all_tl (all_tl (all_tl (all_tl r5q1)))))
theorem r5r38_good : Good Tryz.prog 376 (orcRec r5r38) := good_ok words4_good (r := r5r38) (all_hd (all_tl (all_tl (all_tl (all_tl (all_tl r5q1))))))
theorem r5r39_good : Good Tryz.prog 376 (orcRec r5r39) := good_ok words4_good (r := r5r39) (all_hd (all_tl (all_tl (all_tl (all_tl (all_tl (all_tl r5q1)))))))
theorem r5r40_good : Good Tryz.prog 376 (orcRec r5r40) := good_ok words4_good (r := r5r40) (all_hd (all_tl (all_tl (all_tl (all_tl (all_tl (all_tl (all_tl r5q1))))))))
theorem r5r41_good : Good Tryz.prog 376 (orcRec r5r41) := good_ok words4_good (r := r5r41) (all_hd (all_tl (all_tl (all_tl (all_tl (all_tl (all_tl (all_tl (all_tl r5q1)))))))))
theorem r5r42_good : Good Tryz.prog 376 (orcRec r5r42) := good_ok words4_good (r := r5r42) (all_hd (all_tl (all_tl (all_tl (all_tl (all_tl (all_tl (all_tl (all_tl (all_tl r5q1))))))))))
theorem r5r43_good : Good Tryz.prog 376 (orcRec r5r43) := good_ok words4_good (r := r5r43) (all_hd (all_tl (all_tl (all_tl (all_tl (all_tl (all_tl (all_tl (all_tl (all_tl (all_tl r5q1)))))))))))
theorem r5r44_good : Good Tryz.prog 376 (orcRec r5r44) := good_ok words4_good (r := r5r44) (all_hd (all_tl (all_tl (all_tl (all_tl (all_tl (all_tl (all_tl (all_tl (all_tl (all_tl (all_tl r5q1))))))))))))
theorem r5r45_good : Good Tryz.prog 376 (orcRec r5r45) := good_ok words4_good (r := r5r45) (all_hd (all_tl (all_tl (all_tl (all_tl (all_tl (all_tl (all_tl (all_tl (all_tl (all_tl (all_tl (all_tl r5q1)))))))))))))
theorem r5r46_good : Good Tryz.prog 376 (orcRec r5r46) := good_ok words4_good (r := r5r46) (all_hd (all_tl (all_tl (all_tl (all_tl (all_tl (all_tl (all_tl (all_tl (all_tl (all_tl (all_tl (all_tl (all_tl r5q1))))))))))))))
theorem r5r47_good : Good Tryz.prog 376 (orcRec r5r47) := good_ok words4_good (r := r5r47) (all_hd (all_tl (all_tl (all_tl (all_tl (all_tl (all_tl (all_tl (all_tl (all_tl (all_tl (all_tl (all_tl (all_tl (all_tl r5q1)))))))))))))))
theorem r5r48_good : Good Tryz.prog 376 (orcRec r5r48) := good_ok words4_good (r := r5r48) (all_hd (all_tl (all_tl (all_tl (all_tl (all_tl (all_tl (all_tl (all_tl (all_tl (all_tl (all_tl (all_tl (all_tl (all_tl (all_tl r5q1))))))))))))))))
theorem r5r49_good : Good Tryz.prog 376 (orcRec r5r49) := good_ok words4_good (r := r5r49) (all_hd (all_tl (all_tl (all_tl (all_tl (all_tl (all_tl (all_tl (all_tl (all_tl (all_tl (all_tl (all_tl (all_tl (all_tl (all_tl (all_tl r5q1)))))))))))))))))
theorem r5r50_good : Good Tryz.prog 376 (orcRec r5r50) := good_ok words4_good (r := r5r50) (all_hd (all_tl (all_tl (all_tl (all_tl (all_tl (all_tl (all_tl (all_tl (all_tl (all_tl (all_tl (all_tl (all_tl (all_tl (all_tl (all_tl (all_tl r5q1))))))))))))))))))
theorem r5r51_good : Good Tryz.prog 376 (orcRec r5r51) := good_ok words4_good (r := r5r51) (all_hd (all_tl (all_tl (all_tl (all_tl (all_tl (all_tl (all_tl (all_tl (all_tl (all_tl (all_tl (all_tl (all_tl (all_tl (all_tl (all_tl (all_tl (all_tl r5q1)))))))))))))))))))
theorem r5r52_good : Good Tryz.prog 376 (orcRec r5r52) := good_ok words4_good (r := r5r52) (all_hd (all_tl (all_tl (all_tl (all_tl (all_tl (all_tl (all_tl (all_tl (all_tl (all_tl (all_tl (all_tl (all_tl (all_tl (all_tl (all_tl (all_tl (all_tl (all_tl r5q1))))))))))))))))))))
theorem r5r53_good : Good Tryz.prog 376 (orcRec r5r53) := good_ok words4_good (r := r5r53) (all_hd (all_tl (all_tl (all_tl (all_tl (all_tl (all_tl (all_tl (all_tl (all_tl (all_tl (all_tl (all_tl (all_tl (all_tl (all_tl (all_tl (all_tl (all_tl (all_tl (all_tl r5q1)))))))))))))))))))))
theorem r5r54_good : Good Tryz.prog 376 (orcRec r5r54) := good_ok words4_good (r := r5r54) (all_hd (all_tl (all_tl (all_tl (all_tl (all_tl (all_tl (all_tl (all_tl (all_tl (all_tl (all_tl (all_tl (all_tl (all_tl (all_tl (all_tl (all_tl (all_tl (all_tl (all_tl (all_tl r5q1))))))))))))))))))))))
theorem r5r55_good : Good Tryz.prog 376 (orcRec r5r55) := good_ok words4_good (r := r5r55) (all_hd (all_tl (all_tl (all_tl (all_tl (all_tl (all_tl (all_tl (all_tl (all_tl (all_tl (all_tl (all_tl (all_tl (all_tl (all_tl (all_tl (all_tl (all_tl (all_tl (all_tl (all_tl (all_tl r5q1)))))))))))))))))))))))
theorem r5r56_good : Good Tryz.prog 376 (orcRec r5r56) := good_ok words4_good (r := r5r56) (all_hd (all_tl (all_tl (all_tl (all_tl (all_tl (all_tl (all_tl (all_tl (all_tl (all_tl (all_tl (all_tl (all_tl (all_tl (all_tl (all_tl (all_tl (all_tl (all_tl (all_tl (all_tl (all_tl (all_tl r5q1))))))))))))))))))))))))
theorem r5r57_good : Good Tryz.prog 376 (orcRec r5r57) := good_ok words4_good (r := r5r57) (all_hd (all_tl (all_tl (all_tl (all_tl (all_tl (all_tl (all_tl (all_tl (all_tl (all_tl (all_tl (all_tl (all_tl (all_tl (all_tl (all_tl (all_tl (all_tl (all_tl (all_tl (all_tl (all_tl (all_tl (all_tl r5q1)))))))))))))))))))))))))
theorem r5r58_good : Good Tryz.prog 376 (orcRec r5r58) := good_ok words4_good (r := r5r58) (all_hd (all_tl (all_tl (all_tl (all_tl (all_tl (all_tl (all_tl (all_tl (all_tl (all_tl (all_tl (all_tl (all_tl (all_tl (all_tl (all_tl (all_tl (all_tl (all_tl (all_tl (all_tl (all_tl (all_tl (all_tl (all_tl r5q1))))))))))))))))))))))))))
theorem r5r59_good : Good Tryz.prog 376 (orcRec r5r59) := good_ok words4_good (r := r5r59) (all_hd (all_tl (all_tl (all_tl (all_tl (all_tl (all_tl (all_tl (all_tl (all_tl (all_tl (all_tl (all_tl (all_tl (all_tl (all_tl (all_tl (all_tl (all_tl (all_tl (all_tl (all_tl (all_tl (all_tl (all_tl (all_tl (all_tl r5q1)))))))))))))))))))))))))))
theorem r5r60_good : Good Tryz.prog 376 (orcRec r5r60) := good_ok words4_good (r := r5r60) (all_hd (all_tl (all_tl (all_tl (all_tl (all_tl (all_tl (all_tl (all_tl (all_tl (all_tl (all_tl (all_tl (all_tl (all_tl (all_tl (all_tl (all_tl (all_tl (all_tl (all_tl (all_tl (all_tl (all_tl (all_tl (all_tl (all_tl (all_tl r5q1))))))))))))))))))))))))))))
theorem r5r61_good : Good Tryz.prog 376 (orcRec r5r61) := good_ok words4_good (r := r5r61) (all_hd (all_tl (all_tl (all_tl (all_tl (all_tl (all_tl (all_tl (all_tl (all_tl (all_tl (all_tl (all_tl (all_tl (all_tl (all_tl (all_tl (all_tl (all_tl (all_tl (all_tl (all_tl (all_tl (all_tl (all_tl (all_tl (all_tl (all_tl (all_tl r5q1)))))))))))))))))))))))))))))
theorem r5r62_good : Good Tryz.prog 376 (orcRec r5r62) := good_ok words4_good (r := r5r62) (all_hd (all_tl (all_tl (all_tl (all_tl (all_tl (all_tl (all_tl (all_tl (all_tl (all_tl (all_tl (all_tl (all_tl (all_tl (all_tl (all_tl (all_tl (all_tl (all_tl (all_tl (all_tl (all_tl (all_tl (all_tl (all_tl (all_tl (all_tl (all_tl (all_tl r5q1))))))))))))))))))))))))))))))
theorem r5r63_good : Good Tryz.prog 376 (orcRec r5r63) := good_ok words4_good (r := r5r63) (all_hd (all_tl (all_tl (all_tl (all_tl (all_tl (all_tl (all_tl (all_tl (all_tl (all_tl (all_tl (all_tl (all_tl (all_tl (all_tl (all_tl (all_tl (all_tl (all_tl (all_tl (all_tl (all_tl (all_tl (all_tl (all_tl (all_tl (all_tl (all_tl (all_tl (all_tl r5q1)))))))))))))))))))))))))))))))
theorem r5r64_good : Good Tryz.prog 376 (orcRec r5r64) := good_ok words4_good (r := r5r64) (all_hd (all_tl (all_tl (all_tl (all_tl (all_tl (all_tl (all_tl (all_tl (all_tl (all_tl (all_tl (all_tl (all_tl (all_tl (all_tl (all_tl (all_tl (all_tl (all_tl (all_tl (all_tl (all_tl (all_tl (all_tl (all_tl (all_tl (all_tl (all_tl (all_tl (all_tl (all_tl r5q1))))))))))))))))))))))))))))))))
def r5t0 : Word := orIf (ltK (14000028)) (orTry (orcRec r5r0) (orTry (orcRec r5r1) (orTry (orcRec r5r10) (orTry (orcRec r5r11) (orTry (orcRec r5r12) (orTry (orcRec r5r13) (orTry (orcRec r5r14) (orTry (orcRec r5r15) (orTry (orcRec r5r16) (orTry (orcRec r5r17) (orTry (orcRec r5r18) (orTry (orcRec r5r19) (orTry (orcRec r5r2) (orTry (orcRec r5r20) (orTry (orcRec r5r21) (orTry (orcRec r5r22) (orTry (orcRec r5r23) (orTry (orcRec r5r24) (orTry (orcRec r5r25) (orTry (orcRec r5r26) (orTry (orcRec r5r27) (orTry (orcRec r5r28) (orTry (orcRec r5r29) (orTry (orcRec r5r3) (orTry (orcRec r5r30) (orTry (orcRec r5r31) (orTry (orcRec r5r32) (orTry (orcRec r5r33) (orTry (orcRec r5r34) (orTry (orcRec r5r35) (orTry (orcRec r5r36) (orTry (orcRec r5r37) (orTry (orcRec r5r38) (orTry (orcRec r5r39) (orTry (orcRec r5r4) (orTry (orcRec r5r40) (orTry (orcRec r5r41) (orTry (orcRec r5r42) (orTry (orcRec r5r43) (orTry (orcRec r5r44) (orTry (orcRec r5r45) (orTry (orcRec r5r46) (orTry (orcRec r5r47) (orTry (orcRec r5r48) (orTry (orcRec r5r49) (orTry (orcRec r5r5) (orTry (orcRec r5r50) (orTry (orcRec r5r51) (orTry (orcRec r5r52) (orTry (orcRec r5r53) (orTry (orcRec r5r54) (orTry (orcRec r5r55) (orTry (orcRec r5r56) (orTry (orcRec r5r57) (orTry (orcRec r5r58) (orTry (orcRec r5r59) (orTry (orcRec r5r6) (orTry (orcRec r5r60) (orTry (orcRec r5r61) (orTry (orcRec r5r62) (orTry (orcRec r5r63) (orTry (orcRec r5r7) (orTry (orcRec r5r8) (orcRec r5r9)))))))))))))))))))))))))))))))))))))))))))))))))))))))))))))))) (orcRec r5r64)
theorem r5t0_good : Good Tryz.prog 376 r5t0 := Good.ite (Good.or r5r0_good (Good.or r5r1_good (Good.or r5r10_good (Good.or r5r11_good (Good.or r5r12_good (Good.or r5r13_good (Good.or r5r14_good (Good.or r5r15_good (Good.or r5r16_good (Good.or r5r17_good (Good.or r5r18_good (Good.or r5r19_good (Good.or r5r2_good (Good.or r5r20_good (Good.or r5r21_good (Good.or r5r22_good (Good.or r5r23_good (Good.or r5r24_good (Good.or r5r25_good (Good.or r5r26_good (Good.or r5r27_good (Good.or r5r28_good (Good.or r5r29_good (Good.or r5r3_good (Good.or r5r30_good (Good.or r5r31_good (Good.or r5r32_good (Good.or r5r33_good (Good.or r5r34_good (Good.or r5r35_good (Good.or r5r36_good (Good.or r5r37_good (Good.or r5r38_good (Good.or r5r39_good (Good.or r5r4_good (Good.or r5r40_good (Good.or r5r41_good (Good.or r5r42_good (Good.or r5r43_good (Good.or r5r44_good (Good.or r5r45_good (Good.or r5r46_good (Good.or r5r47_good (Good.or r5r48_good (Good.or r5r49_good (Good.or r5r5_good (Good.or r5r50_good (Good.or r5r51_good (Good.or r5r52_good (Good.or r5r53_good (Good.or r5r54_good (Good.or r5r55_good (Good.or r5r56_good (Good.or r5r57_good (Good.or r5r58_good (Good.or r5r59_good (Good.or r5r6_good (Good.or r5r60_good (Good.or r5r61_good (Good.or r5r62_good (Good.or r5r63_good (Good.or r5r7_good (Good.or r5r8_good r5r9_good))))))))))))))))))))))))))))))))))))))))))))))))))))))))))))))) r5r64_good

def r5x1r0 : Rec := ⟨73, 1, [S 0 0 1 1], [(0, pp [(0, 0)], 43, false)], Tu [A [i 0, i 0], A [i 0, i 0], i 0], 13, []⟩
def r5x1r1 : Rec := ⟨73, 1, [S 0 0 1 1], [(0, pp [(40, 0)], 43, false)], Tu [A [i 40, i 0], A [i 40, i 0], i 0], 13, []⟩
def r5x1r2 : Rec := ⟨73, 1, [.slice (some ⟨0, 0, some 0⟩) 1 1], [(0, pp [(0, 0)], 43, true)], Tu [A [i 0, i 0], A [i 0, i 0], i 0], 13, []⟩
def r5x1r3 : Rec := ⟨73, 1, [S 0 0 1 1], [(0, pp [(7, 7)], 43, false)], Tu [A [i 7, i 7], A [i 7, i 7], i 0], 13, []⟩
def r5x1r4 : Rec := ⟨73, 1, [S 0 0 1 1], [(0, pp [(70, 7)], 43, false)], Tu [A [i 70, i 7], A [i 70, i 7], i 0], 13, []⟩
def r5x1r5 : Rec := ⟨73, 1, [.slice (some ⟨0, 0, some 0⟩) 1 1], [(0, pp [(70, 7)], 43, true)], Tu [A [i 70, i 7], A [i 70, i 7], i 0], 13, []⟩
theorem r5x1q0 : List.all [r5x1r0, r5x1r1, r5x1r2, r5x1r3, r5x1r4, r5x1r5] (okB words4) = true := by kernel_rfl
theorem r5x1r0_good : Good Tryz.prog 73 (orcRec r5x1r0) := good_ok words4_good (r := r5x1r0) (all_hd r5x1q0)
theorem r5x1r1_good : Good Tryz.prog 73 (orcRec r5x1r1) := good_ok words4_good (r := r5x1r1) (all_hd (all_tl r5x1q0))
theorem r5x1r2_good : Good Tryz.prog 73 (orcRec r5x1r2) := good_ok words4_good (r := r5x1r2) (all_hd (all_tl (all_tl r5x1q0)))
theorem r5x1r3_good : Good Tryz.prog 73 (orcRec r5x1r3) := good_ok words4_good (r := r5x1r3) (all_hd (all_tl (all_tl (all_tl r5x1q0))))
theorem r5x1r4_good : Good Tryz.prog 73 (orcRec r5x1r4) := good_ok words4_good (r := r5x1r4) (all_hd (all_tl (all_tl (all_tl (all_tl r5x1q0)))))
theorem r5x1r5_good : Good Tryz.prog 73 (orcRec r5x1r5) := good_ok words4_good (r := r5x1r5) (all_hd (all_tl (all_tl (all_tl (all_tl (all_tl r5x1q0))))))
def r5x1t0 : Word := orIf (ltK (14000028)) (orTry (orcRec r5x1r0) (orcRec r5x1r2)) (orcRec r5x1r3)
theorem r5x1t0_good : Good Tryz.prog 73 r5x1t0 := Good.ite (Good.or r5x1r0_good r5x1r2_good) r5x1r3_good
def r5x1t1 : Word := orIf (ltK (140000217)) (orcRec r5x1r1) (orTry (orcRec r5x1r4) (orcRec r5x1r5))
theorem r5x1t1_good : Good Tryz.prog 73 r5x1t1 := Good.ite r5x1r1_good (Good.or r5x1r4_good r5x1r5_good)
def r5x1t2 : Word := orIf (ltK (80000120)) r5x1t0 r5x1t1
theorem r5x1t2_good : Good Tryz.prog 73 r5x1t2 := Good.ite r5x1t0_good r5x1t1_good
def words5 : List (FuncId × Word) := (376, r5t0) :: (73, r5x1t2) :: words4
theorem words5_good : ∀ x ∈ words5, Good Tryz.prog x.1 x.2 := by
  intro x hx
  unfold words5 at hx
  rcases List.mem_cons.1 hx with rfl | hx
  · exact r5t0_good
  rcases List.mem_cons.1 hx with rfl | hx
  · exact r5x1t2_good
  exact words4_good x hx
end
end Go.Ev
