/- What runs found: ray.Sector. Conditions: none. Printed by wip/genR.py. -/
import Derived.Test.YtcgghcicnanliaaGreatDoorM35
set_option linter.unusedVariables false
set_option linter.unusedSimpArgs false
namespace Go.Ev
open Go.Proofs Go.Proofs.YtcgghcicnanliaaGreatDoor
noncomputable section
set_option maxRecDepth 100000

def r3r0 : Rec := ⟨343, 0, [i 0, i 2, A [i 90, i 110]], [], Tu [.slice (some ⟨398, 0, some 0⟩) 6 6, i 0], 400, [(398, pp [(88, 17), (89, 0), (111, 0), (109, 22), (108, 22), (88, 18)], 43, true)]⟩
def r3r1 : Rec := ⟨343, 0, [i 2, i 2, A [i 90, i 110]], [], Tu [.slice (some ⟨407, 0, some 0⟩) 9 9, i 0], 409, [(407, pp [(83, 34), (88, 17), (89, 17), (109, 21), (109, 22), (106, 32), (102, 43), (101, 43), (83, 35)], 43, true)]⟩
def r3r2 : Rec := ⟨343, 0, [i 4, i 2, A [i 90, i 110]], [], Tu [.slice (some ⟨407, 0, some 0⟩) 9 9, i 0], 409, [(407, pp [(74, 49), (83, 34), (84, 34), (102, 42), (102, 43), (98, 52), (92, 62), (91, 62), (74, 50)], 43, true)]⟩
def r3r3 : Rec := ⟨343, 0, [i 6, i 2, A [i 90, i 110]], [], Tu [.slice (some ⟨407, 0, some 0⟩) 9 9, i 0], 409, [(407, pp [(63, 63), (74, 49), (75, 49), (92, 61), (92, 62), (86, 70), (78, 78), (77, 78), (63, 64)], 43, true)]⟩
def r3r4 : Rec := ⟨343, 0, [i 8, i 2, A [i 90, i 110]], [], Tu [.slice (some ⟨399, 0, some 0⟩) 9 9, i 0], 401, [(399, pp [(49, 74), (63, 63), (64, 63), (78, 77), (78, 78), (70, 86), (62, 92), (61, 92), (49, 75)], 43, true)]⟩
def r3r5 : Rec := ⟨343, 0, [i 10, i 2, A [i 90, i 110]], [], Tu [.slice (some ⟨399, 0, some 0⟩) 9 9, i 0], 401, [(399, pp [(34, 83), (49, 74), (50, 74), (62, 91), (62, 92), (52, 98), (43, 102), (42, 102), (34, 84)], 43, true)]⟩
def r3r6 : Rec := ⟨343, 0, [i 12, i 2, A [i 90, i 110]], [], Tu [.slice (some ⟨424, 0, some 0⟩) 9 9, i 0], 426, [(424, pp [(17, 88), (34, 83), (35, 83), (43, 101), (43, 102), (32, 106), (22, 109), (21, 109), (17, 89)], 43, true)]⟩
def r3r7 : Rec := ⟨343, 0, [i 14, i 2, A [i 90, i 110]], [], Tu [.slice (some ⟨396, 0, some 0⟩) 6 6, i 0], 398, [(396, pp [(0, 89), (17, 88), (18, 88), (22, 108), (22, 109), (0, 111)], 43, true)]⟩
def r3r8 : Rec := ⟨343, 0, [i 16, i 2, A [i 90, i 110]], [], Tu [.slice (some ⟨374, 0, some 0⟩) 6 6, i 0], 376, [(374, pp [(-22, 108), (-18, 88), (-17, 88), (0, 89), (0, 111), (-22, 109)], 43, true)]⟩
def r3r9 : Rec := ⟨343, 0, [i 18, i 2, A [i 90, i 110]], [], Tu [.slice (some ⟨380, 0, some 0⟩) 9 9, i 0], 382, [(380, pp [(-43, 101), (-35, 83), (-34, 83), (-17, 88), (-17, 89), (-21, 109), (-22, 109), (-32, 106), (-43, 102)], 43, true)]⟩
def r3r10 : Rec := ⟨343, 0, [i 20, i 2, A [i 90, i 110]], [], Tu [.slice (some ⟨390, 0, some 0⟩) 9 9, i 0], 392, [(390, pp [(-62, 91), (-50, 74), (-49, 74), (-34, 83), (-34, 84), (-42, 102), (-43, 102), (-52, 98), (-62, 92)], 43, true)]⟩
def r3r11 : Rec := ⟨343, 0, [i 22, i 2, A [i 90, i 110]], [], Tu [.slice (some ⟨390, 0, some 0⟩) 9 9, i 0], 392, [(390, pp [(-78, 77), (-64, 63), (-63, 63), (-49, 74), (-49, 75), (-61, 92), (-62, 92), (-70, 86), (-78, 78)], 43, true)]⟩
def r3r12 : Rec := ⟨343, 0, [i 24, i 2, A [i 90, i 110]], [], Tu [.slice (some ⟨382, 0, some 0⟩) 9 9, i 0], 384, [(382, pp [(-92, 61), (-75, 49), (-74, 49), (-63, 63), (-63, 64), (-77, 78), (-78, 78), (-86, 70), (-92, 62)], 43, true)]⟩
def r3r13 : Rec := ⟨343, 0, [i 26, i 2, A [i 90, i 110]], [], Tu [.slice (some ⟨382, 0, some 0⟩) 9 9, i 0], 384, [(382, pp [(-102, 42), (-84, 34), (-83, 34), (-74, 49), (-74, 50), (-91, 62), (-92, 62), (-98, 52), (-102, 43)], 43, true)]⟩
def r3r14 : Rec := ⟨343, 0, [i 28, i 2, A [i 90, i 110]], [], Tu [.slice (some ⟨382, 0, some 0⟩) 9 9, i 0], 384, [(382, pp [(-109, 21), (-89, 17), (-88, 17), (-83, 34), (-83, 35), (-101, 43), (-102, 43), (-106, 32), (-109, 22)], 43, true)]⟩
def r3r15 : Rec := ⟨343, 0, [i 30, i 2, A [i 90, i 110]], [], Tu [.slice (some ⟨353, 0, some 0⟩) 6 6, i 0], 355, [(353, pp [(-111, 0), (-89, 0), (-88, 17), (-88, 18), (-108, 22), (-109, 22)], 43, true)]⟩
def r3r16 : Rec := ⟨343, 0, [i 32, i 2, A [i 90, i 110]], [], Tu [.slice (some ⟨417, 0, some 0⟩) 6 6, i 0], 419, [(417, pp [(-111, 0), (-109, -22), (-108, -22), (-88, -18), (-88, -17), (-89, 0)], 43, true)]⟩
def r3r17 : Rec := ⟨343, 0, [i 34, i 2, A [i 90, i 110]], [], Tu [.slice (some ⟨470, 0, some 0⟩) 9 9, i 0], 472, [(470, pp [(-109, -22), (-106, -32), (-102, -43), (-101, -43), (-83, -35), (-83, -34), (-88, -17), (-89, -17), (-109, -21)], 43, true)]⟩
def r3r18 : Rec := ⟨343, 0, [i 36, i 2, A [i 90, i 110]], [], Tu [.slice (some ⟨470, 0, some 0⟩) 9 9, i 0], 472, [(470, pp [(-102, -43), (-98, -52), (-92, -62), (-91, -62), (-74, -50), (-74, -49), (-83, -34), (-84, -34), (-102, -42)], 43, true)]⟩
def r3r19 : Rec := ⟨343, 0, [i 38, i 2, A [i 90, i 110]], [], Tu [.slice (some ⟨470, 0, some 0⟩) 9 9, i 0], 472, [(470, pp [(-92, -62), (-86, -70), (-78, -78), (-77, -78), (-63, -64), (-63, -63), (-74, -49), (-75, -49), (-92, -61)], 43, true)]⟩
def r3r20 : Rec := ⟨343, 0, [i 40, i 2, A [i 90, i 110]], [], Tu [.slice (some ⟨440, 0, some 0⟩) 9 9, i 0], 442, [(440, pp [(-78, -78), (-70, -86), (-62, -92), (-61, -92), (-49, -75), (-49, -74), (-63, -63), (-64, -63), (-78, -77)], 43, true)]⟩
def r3r21 : Rec := ⟨343, 0, [i 42, i 2, A [i 90, i 110]], [], Tu [.slice (some ⟨440, 0, some 0⟩) 9 9, i 0], 442, [(440, pp [(-62, -92), (-52, -98), (-43, -102), (-42, -102), (-34, -84), (-34, -83), (-49, -74), (-50, -74), (-62, -91)], 43, true)]⟩
def r3r22 : Rec := ⟨343, 0, [i 44, i 2, A [i 90, i 110]], [], Tu [.slice (some ⟨430, 0, some 0⟩) 9 9, i 0], 432, [(430, pp [(-43, -102), (-32, -106), (-22, -109), (-21, -109), (-17, -89), (-17, -88), (-34, -83), (-35, -83), (-43, -101)], 43, true)]⟩
def r3r23 : Rec := ⟨343, 0, [i 46, i 2, A [i 90, i 110]], [], Tu [.slice (some ⟨404, 0, some 0⟩) 6 6, i 0], 406, [(404, pp [(-22, -109), (0, -111), (0, -89), (-17, -88), (-18, -88), (-22, -108)], 43, true)]⟩
def r3r24 : Rec := ⟨343, 0, [i 48, i 2, A [i 90, i 110]], [], Tu [.slice (some ⟨374, 0, some 0⟩) 6 6, i 0], 376, [(374, pp [(0, -111), (22, -109), (22, -108), (18, -88), (17, -88), (0, -89)], 43, true)]⟩
def r3r25 : Rec := ⟨343, 0, [i 50, i 2, A [i 90, i 110]], [], Tu [.slice (some ⟨382, 0, some 0⟩) 9 9, i 0], 384, [(382, pp [(17, -89), (21, -109), (22, -109), (32, -106), (43, -102), (43, -101), (35, -83), (34, -83), (17, -88)], 43, true)]⟩
def r3r26 : Rec := ⟨343, 0, [i 52, i 2, A [i 90, i 110]], [], Tu [.slice (some ⟨362, 0, some 0⟩) 9 9, i 0], 364, [(362, pp [(34, -84), (42, -102), (43, -102), (52, -98), (62, -92), (62, -91), (50, -74), (49, -74), (34, -83)], 43, true)]⟩
def r3r27 : Rec := ⟨343, 0, [i 54, i 2, A [i 90, i 110]], [], Tu [.slice (some ⟨362, 0, some 0⟩) 9 9, i 0], 364, [(362, pp [(49, -75), (61, -92), (62, -92), (70, -86), (78, -78), (78, -77), (64, -63), (63, -63), (49, -74)], 43, true)]⟩
def r3r28 : Rec := ⟨343, 0, [i 56, i 2, A [i 90, i 110]], [], Tu [.slice (some ⟨302, 0, some 0⟩) 9 9, i 0], 304, [(302, pp [(63, -64), (77, -78), (78, -78), (86, -70), (92, -62), (92, -61), (75, -49), (74, -49), (63, -63)], 43, true)]⟩
def r3r29 : Rec := ⟨343, 0, [i 58, i 2, A [i 90, i 110]], [], Tu [.slice (some ⟨302, 0, some 0⟩) 9 9, i 0], 304, [(302, pp [(74, -50), (91, -62), (92, -62), (98, -52), (102, -43), (102, -42), (84, -34), (83, -34), (74, -49)], 43, true)]⟩
def r3r30 : Rec := ⟨343, 0, [i 60, i 2, A [i 90, i 110]], [], Tu [.slice (some ⟨302, 0, some 0⟩) 9 9, i 0], 304, [(302, pp [(83, -35), (101, -43), (102, -43), (106, -32), (109, -22), (109, -21), (89, -17), (88, -17), (83, -34)], 43, true)]⟩
def r3r31 : Rec := ⟨343, 0, [i 62, i 2, A [i 90, i 110]], [], Tu [.slice (some ⟨277, 0, some 0⟩) 6 6, i 0], 279, [(277, pp [(88, -18), (108, -22), (109, -22), (111, 0), (89, 0), (88, -17)], 43, true)]⟩
theorem r3q0 : List.all [r3r0, r3r1, r3r2, r3r3, r3r4] (okB words2) = true := by kernel_rfl
theorem r3r0_good : Good Tryz.prog 343 (orcRec r3r0) := good_ok words2_good (r := r3r0) (all_hd r3q0)
theorem r3r1_good : Good Tryz.prog 343 (orcRec r3r1) := good_ok words2_good (r := r3r1) (all_hd (all_tl r3q0))
theorem r3r2_good : Good Tryz.prog 343 (orcRec r3r2) := good_ok words2_good (r := r3r2) (all_hd (all_tl (all_tl r3q0)))
theorem r3r3_good : Good Tryz.prog 343 (orcRec r3r3) := good_ok words2_good (r := r3r3) (all_hd (all_tl (all_tl (all_tl r3q0))))
theorem r3r4_good : Good Tryz.prog 343 (orcRec r3r4) := good_ok words2_good (r := r3r4) (all_hd (all_tl (all_tl (all_tl (all_tl r3q0)))))
theorem r3q1 : List.all [r3r5, r3r6, r3r7, r3r8] (okB words2) = true := by kernel_rfl
theorem r3r5_good : Good Tryz.prog 343 (orcRec r3r5) := good_ok words2_good (r := r3r5) (all_hd r3q1)
theorem r3r6_good : Good Tryz.prog 343 (orcRec r3r6) := good_ok words2_good (r := r3r6) (all_hd (all_tl r3q1))
theorem r3r7_good : Good Tryz.prog 343 (orcRec r3r7) := good_ok words2_good (r := r3r7) (all_hd (all_tl (all_tl r3q1)))
theorem r3r8_good : Good Tryz.prog 343 (orcRec r3r8) := good_ok words2_good (r := r3r8) (all_hd (all_tl (all_tl (all_tl r3q1))))
theorem r3q2 : List.all [r3r9, r3r10, r3r11, r3r12] (okB words2) = true := by kernel_rfl
theorem r3r9_good : Good Tryz.prog 343 (orcRec r3r9) := good_ok words2_good (r := r3r9) (all_hd r3q2)
theorem r3r10_good : Good Tryz.prog 343 (orcRec r3r10) := good_ok words2_good (r := r3r10) (all_hd (all_tl r3q2))
theorem r3r11_good : Good Tryz.prog 343 (orcRec r3r11) := good_ok words2_good (r := r3r11) (all_hd (all_tl (all_tl r3q2)))
theorem r3r12_good : Good Tryz.prog 343 (orcRec r3r12) := good_ok words2_good (r := r3r12) (all_hd (all_tl (all_tl (all_tl r3q2))))
theorem r3q3 : List.all [r3r13, r3r14, r3r15, r3r16] (okB words2) = true := by kernel_rfl
theorem r3r13_good : Good Tryz.prog 343 (orcRec r3r13) := good_ok words2_good (r := r3r13) (all_hd r3q3)
theorem r3r14_good : Good Tryz.prog 343 (orcRec r3r14) := good_ok words2_good (r := r3r14) (all_hd (all_tl r3q3))
theorem r3r15_good : Good Tryz.prog 343 (orcRec r3r15) := good_ok words2_good (r := r3r15) (all_hd (all_tl (all_tl r3q3)))
theorem r3r16_good : Good Tryz.prog 343 (orcRec r3r16) := good_ok words2_good (r := r3r16) (all_hd (all_tl (all_tl (all_tl r3q3))))
theorem r3q4 : List.all [r3r17, r3r18, r3r19, r3r20] (okB words2) = true := by kernel_rfl
theorem r3r17_good : Good Tryz.prog 343 (orcRec r3r17) := good_ok words2_good (r := r3r17) (all_hd r3q4)
theorem r3r18_good : Good Tryz.prog 343 (orcRec r3r18) := good_ok words2_good (r := r3r18) (all_hd (all_tl r3q4))
theorem r3r19_good : Good Tryz.prog 343 (orcRec r3r19) := good_ok words2_good (r := r3r19) (all_hd (all_tl (all_tl r3q4)))
theorem r3r20_good : Good Tryz.prog 343 (orcRec r3r20) := good_ok words2_good (r := r3r20) (all_hd (all_tl (all_tl (all_tl r3q4))))
theorem r3q5 : List.all [r3r21, r3r22, r3r23, r3r24] (okB words2) = true := by kernel_rfl
theorem r3r21_good : Good Tryz.prog 343 (orcRec r3r21) := good_ok words2_good (r := r3r21) (all_hd r3q5)
theorem r3r22_good : Good Tryz.prog 343 (orcRec r3r22) := good_ok words2_good (r := r3r22) (all_hd (all_tl r3q5))
theorem r3r23_good : Good Tryz.prog 343 (orcRec r3r23) := good_ok words2_good (r := r3r23) (all_hd (all_tl (all_tl r3q5)))
theorem r3r24_good : Good Tryz.prog 343 (orcRec r3r24) := good_ok words2_good (r := r3r24) (all_hd (all_tl (all_tl (all_tl r3q5))))
theorem r3q6 : List.all [r3r25, r3r26, r3r27, r3r28] (okB words2) = true := by kernel_rfl
theorem r3r25_good : Good Tryz.prog 343 (orcRec r3r25) := good_ok words2_good (r := r3r25) (all_hd r3q6)
theorem r3r26_good : Good Tryz.prog 343 (orcRec r3r26) := good_ok words2_good (r := r3r26) (all_hd (all_tl r3q6))
theorem r3r27_good : Good Tryz.prog 343 (orcRec r3r27) := good_ok words2_good (r := r3r27) (all_hd (all_tl (all_tl r3q6)))
theorem r3r28_good : Good Tryz.prog 343 (orcRec r3r28) := good_ok words2_good (r := r3r28) (all_hd (all_tl (all_tl (all_tl r3q6))))
theorem r3q7 : List.all [r3r29, r3r30, r3r31] (okB words2) = true := by kernel_rfl
theorem r3r29_good : Good Tryz.prog 343 (orcRec r3r29) := good_ok words2_good (r := r3r29) (all_hd r3q7)
theorem r3r30_good : Good Tryz.prog 343 (orcRec r3r30) := good_ok words2_good (r := r3r30) (all_hd (all_tl r3q7))
theorem r3r31_good : Good Tryz.prog 343 (orcRec r3r31) := good_ok words2_good (r := r3r31) (all_hd (all_tl (all_tl r3q7)))
def words3 : List (FuncId × Word) := (343, (orTry (orcRec r3r0) (orTry (orcRec r3r1) (orTry (orcRec r3r2) (orTry (orcRec r3r3) (orTry (orcRec r3r4) (orTry (orcRec r3r5) (orTry (orcRec r3r6) (orTry (orcRec r3r7) (orTry (orcRec r3r8) (orTry (orcRec r3r9) (orTry (orcRec r3r10) (orTry (orcRec r3r11) (orTry (orcRec r3r12) (orTry (orcRec r3r13) (orTry (orcRec r3r14) (orTry (orcRec r3r15) (orTry (orcRec r3r16) (orTry (orcRec r3r17) (orTry (orcRec r3r18) (orTry (orcRec r3r19) (orTry (orcRec r3r20) (orTry (orcRec r3r21) (orTry (orcRec r3r22) (orTry (orcRec r3r23) (orTry (orcRec r3r24) (orTry (orcRec r3r25) (orTry (orcRec r3r26) (orTry (orcRec r3r27) (orTry (orcRec r3r28) (orTry (orcRec r3r29) (orTry (orcRec r3r30) (orcRec r3r31))))))))))))))))))))))))))))))))) :: words2
theorem words3_good : ∀ x ∈ words3, Good Tryz.prog x.1 x.2 := by
  intro x hx
  unfold words3 at hx
  rcases List.mem_cons.1 hx with rfl | hx
  · exact (Good.or r3r0_good (Good.or r3r1_good (Good.or r3r2_good (Good.or r3r3_good (Good.or r3r4_good (Good.or r3r5_good (Good.or r3r6_good (Good.or r3r7_good (Good.or r3r8_good (Good.or r3r9_good (Good.or r3r10_good (Good.or r3r11_good (Good.or r3r12_good (Good.or r3r13_good (Good.or r3r14_good (Good.or r3r15_good (Good.or r3r16_good (Good.or r3r17_good (Good.or r3r18_good (Good.or r3r19_good (Good.or r3r20_good (Good.or r3r21_good (Good.or r3r22_good (Good.or r3r23_good (Good.or r3r24_good (Good.or r3r25_good (Good.or r3r26_good (Good.or r3r27_good (Good.or r3r28_good (Good.or r3r29_good (Good.or r3r30_good r3r31_good)))))))))))))))))))))))))))))))
  exact words2_good x hx
end
end Go.Ev
