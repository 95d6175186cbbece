/- What runs found: sense.True, sense.Cut, sense.Conflicts. Conditions: none. Printed by wip/genR.py. -/
import Derived.Test.YtcgghcicnanliaaGreatDoorM41
import Derived.Test.YtcgghcicnanliaaGreatDoorM05
set_option linter.unusedVariables false
set_option linter.unusedSimpArgs false
namespace Go.Ev
open Go.Proofs Go.Proofs.YtcgghcicnanliaaGreatDoor
noncomputable section
set_option maxRecDepth 100000
theorem r8r0s_good : Good Tryz.prog 123 (orcRecS 284278 r8r0) := good_recS mixedP (orcL_ok words7_good) (r := r8r0) (n := 100000) (by rw [← evF_eq]; exact all_hd r8q0) (by kernel_rfl)
def words8s : List (FuncId × Word) := (123, (orcRecS 284278 r8r0)) :: (122, (orcRec r8x1r0)) :: words7
theorem words8s_good : ∀ x ∈ words8s, Good Tryz.prog x.1 x.2 := by
  intro x hx
  unfold words8s at hx
  rcases List.mem_cons.1 hx with rfl | hx
  · exact r8r0s_good
  rcases List.mem_cons.1 hx with rfl | hx
  · exact r8x1r0_good
  exact words7_good x hx

def r9r0 : Rec := ⟨16, 3, [A [i 1, i 0, i 0, i 1, i 1, i 50, S 0 0 1 1, S 1 0 1 1, .slice none 0 0, i 1, i 0, i 1, i 0, i 0, i 0, i 0, i 0, i 0, i 0, i 0, i 0, .slice none 0 0, .slice none 0 0, S 2 0 1 1], A [i 1, i 0, i 3, i 1, i 3, i 0, i 0, i 90, i 110, i 0, i 0, i 0], A [i 0, i 0]], [(0, [i 100, i 200, i 0, .bool false], 110, false), (1, [i 3, i 100, i 0], 112, false), (2, [i 100000, i 15000, i 15000], 114, false)], Tu [.bool true, i 0], 151, []⟩
def r9r1 : Rec := ⟨16, 3, [A [i 1, i 0, i 0, i 1, i 1, i 50, S 0 0 1 1, S 1 0 1 1, .slice none 0 0, i 1, i 0, i 1, i 0, i 0, i 0, i 0, i 0, i 0, i 0, i 0, i 0, .slice none 0 0, .slice none 0 0, S 2 0 1 1], A [i 1, i 0, i 3, i 1, i 3, i 0, i 0, i 90, i 110, i 0, i 0, i 0], A [i 20, i 0]], [(0, [i 100, i 200, i 0, .bool false], 110, false), (1, [i 3, i 100, i 0], 112, false), (2, [i 100000, i 15000, i 15000], 114, false)], Tu [.bool false, i 0], 151, []⟩
def r9r2 : Rec := ⟨16, 3, [A [i 1, i 0, i 0, i 1, i 1, i 50, S 0 0 1 1, S 1 0 1 1, .slice none 0 0, i 1, i 0, i 1, i 0, i 0, i 0, i 0, i 0, i 0, i 0, i 0, i 0, .slice none 0 0, .slice none 0 0, S 2 0 1 1], A [i 1, i 0, i 4, i 1, i 3, i 63, i 2, i 0, i 0, i 0, i 0, i 0], A [i 20, i 0]], [(0, [i 100, i 200, i 0, .bool false], 110, false), (1, [i 3, i 100, i 0], 112, false), (2, [i 100000, i 15000, i 15000], 114, false)], Tu [.bool true, i 0], 151, []⟩
def r9r3 : Rec := ⟨16, 3, [A [i 1, i 0, i 0, i 1, i 1, i 50, S 0 0 1 1, S 1 0 1 1, .slice none 0 0, i 1, i 0, i 1, i 0, i 0, i 0, i 0, i 0, i 0, i 0, i 0, i 0, .slice none 0 0, .slice none 0 0, S 2 0 1 1], A [i 1, i 0, i 4, i 1, i 3, i 63, i 2, i 0, i 0, i 0, i 0, i 0], A [i 100, i 50]], [(0, [i 100, i 200, i 0, .bool false], 110, false), (1, [i 3, i 100, i 0], 112, false), (2, [i 100000, i 15000, i 15000], 114, false)], Tu [.bool false, i 0], 151, []⟩
def r9r4 : Rec := ⟨16, 3, [A [i 1, i 0, i 0, i 1, i 1, i 50, S 0 0 1 1, S 1 0 1 1, .slice none 0 0, i 1, i 0, i 1, i 0, i 0, i 0, i 0, i 0, i 0, i 0, i 0, i 0, .slice none 0 0, .slice none 0 0, S 2 0 1 1], A [i 1, i 0, i 3, i 1, i 4, i 0, i 0, i 90, i 110, i 0, i 0, i 0], A [i 0, i 0]], [(0, [i 100, i 200, i 0, .bool false], 110, false), (1, [i 3, i 100, i 0], 112, false), (2, [i 100000, i 15000, i 15000], 114, false)], Tu [.bool false, i 4], 150, []⟩
theorem r9q0 : List.all [r9r0, r9r1, r9r2, r9r3, r9r4] (okB words8s) = true := by kernel_rfl
theorem r9r0_good : Good Tryz.prog 16 (orcRec r9r0) := good_ok words8s_good (r := r9r0) (all_hd r9q0)
theorem r9r1_good : Good Tryz.prog 16 (orcRec r9r1) := good_ok words8s_good (r := r9r1) (all_hd (all_tl r9q0))
theorem r9r2_good : Good Tryz.prog 16 (orcRec r9r2) := good_ok words8s_good (r := r9r2) (all_hd (all_tl (all_tl r9q0)))
theorem r9r3_good : Good Tryz.prog 16 (orcRec r9r3) := good_ok words8s_good (r := r9r3) (all_hd (all_tl (all_tl (all_tl r9q0))))
theorem r9r4_good : Good Tryz.prog 16 (orcRec r9r4) := good_ok words8s_good (r := r9r4) (all_hd (all_tl (all_tl (all_tl (all_tl r9q0)))))

def r9x1r0 : Rec := ⟨18, 6, [A [i 1, i 0, i 0, i 1, i 1, i 50, S 0 0 1 1, S 1 0 1 1, .slice none 0 0, i 1, i 0, i 1, i 0, i 0, i 0, i 0, i 0, i 0, i 0, i 0, i 0, .slice none 0 0, .slice none 0 0, S 2 0 1 1], S 3 0 2 2, A [i 1, i 0, i 3, i 1, i 3, i 0, i 0, i 90, i 110, i 0, i 0, i 0], .slice none 0 0], [(0, [i 100, i 200, i 0, .bool false], 110, false), (1, [i 3, i 100, i 0], 112, false), (2, [i 100000, i 15000, i 15000], 114, false), (3, [S 4 0 1 1, S 5 0 1 1], 76, false), (4, pp [(0, 0)], 43, false), (5, pp [(40, 0)], 43, false)], Tu [.slice (some ⟨127, 0, some 0⟩) 1 1, i 0], 165, [(127, [.slice (some ⟨125, 0, some 0⟩) 1 1], 76, true), (125, pp [(0, 0)], 43, true)]⟩
def r9x1r1 : Rec := ⟨18, 6, [A [i 1, i 0, i 0, i 1, i 1, i 50, S 0 0 1 1, S 1 0 1 1, .slice none 0 0, i 1, i 0, i 1, i 0, i 0, i 0, i 0, i 0, i 0, i 0, i 0, i 0, .slice none 0 0, .slice none 0 0, S 2 0 1 1], S 3 0 2 2, A [i 1, i 0, i 2, i 1, i 0, i 0, i 0, i 300, i 301, i 0, i 0, i 0], .slice none 0 0], [(0, [i 100, i 200, i 0, .bool false], 110, false), (1, [i 3, i 100, i 0], 112, false), (2, [i 100000, i 15000, i 15000], 114, false), (3, [S 4 0 1 1, S 5 0 1 1], 76, false), (4, pp [(7, 7)], 43, false), (5, pp [(70, 7)], 43, false)], Tu [.slice (some ⟨738, 0, some 0⟩) 1 1, i 0], 744, [(738, [.slice (some ⟨736, 0, some 0⟩) 1 1], 76, true), (736, pp [(70, 7)], 43, true)]⟩
def r9x1r2 : Rec := ⟨18, 3, [A [i 1, i 0, i 0, i 1, i 1, i 50, S 0 0 1 1, S 1 0 1 1, .slice none 0 0, i 1, i 0, i 1, i 0, i 0, i 0, i 0, i 0, i 0, i 0, i 0, i 0, .slice none 0 0, .slice none 0 0, S 2 0 1 1], .slice none 0 0, A [i 1, i 0, i 1, i 0, i 0, i 0, i 0, i 0, i 0, i 0, i 0, i 0], .slice none 0 0], [(0, [i 100, i 200, i 0, .bool false], 110, false), (1, [i 3, i 100, i 0], 112, false), (2, [i 100000, i 15000, i 15000], 114, false)], Tu [.slice none 0 0, i 1], 74, []⟩
theorem r9x1q0 : List.all [r9x1r0, r9x1r1, r9x1r2] (okB words8s) = true := by kernel_rfl
theorem r9x1r0_good : Good Tryz.prog 18 (orcRec r9x1r0) := good_ok words8s_good (r := r9x1r0) (all_hd r9x1q0)
theorem r9x1r1_good : Good Tryz.prog 18 (orcRec r9x1r1) := good_ok words8s_good (r := r9x1r1) (all_hd (all_tl r9x1q0))
theorem r9x1r2_good : Good Tryz.prog 18 (orcRec r9x1r2) := good_ok words8s_good (r := r9x1r2) (all_hd (all_tl (all_tl r9x1q0)))

def r9x2r0 : Rec := ⟨21, 5, [A [i 1, i 0, i 0, i 1, i 1, i 50, S 0 0 1 1, S 1 0 1 1, .slice none 0 0, i 1, i 0, i 1, i 0, i 0, i 0, i 0, i 0, i 0, i 0, i 0, i 0, .slice none 0 0, .slice none 0 0, S 2 0 1 1], S 3 0 1 1, A [i 1, i 0, i 2, i 1, i 0, i 0, i 0, i 300, i 301, i 0, i 0, i 0]], [(0, [i 100, i 200, i 0, .bool false], 110, false), (1, [i 3, i 100, i 0], 112, false), (2, [i 100000, i 15000, i 15000], 114, false), (3, [S 4 0 1 1], 76, false), (4, pp [(7, 7)], 43, false)], Tu [.slice (some ⟨455, 0, some 0⟩) 1 1, i 0], 456, [(455, [i 0], 3, true)]⟩
theorem r9x2q0 : List.all [r9x2r0] (okB words8s) = true := by kernel_rfl
theorem r9x2r0_good : Good Tryz.prog 21 (orcRec r9x2r0) := good_ok words8s_good (r := r9x2r0) (all_hd r9x2q0)
def words9 : List (FuncId × Word) := (16, (orTry (orcRec r9r0) (orTry (orcRec r9r1) (orTry (orcRec r9r2) (orTry (orcRec r9r3) (orcRec r9r4)))))) :: (18, (orTry (orcRec r9x1r0) (orTry (orcRec r9x1r1) (orcRec r9x1r2)))) :: (21, (orcRec r9x2r0)) :: words8s
theorem words9_good : ∀ x ∈ words9, Good Tryz.prog x.1 x.2 := by
  intro x hx
  unfold words9 at hx
  rcases List.mem_cons.1 hx with rfl | hx
  · exact (Good.or r9r0_good (Good.or r9r1_good (Good.or r9r2_good (Good.or r9r3_good r9r4_good))))
  rcases List.mem_cons.1 hx with rfl | hx
  · exact (Good.or r9x1r0_good (Good.or r9x1r1_good r9x1r2_good))
  rcases List.mem_cons.1 hx with rfl | hx
  · exact r9x2r0_good
  exact words8s_good x hx
end
end Go.Ev
