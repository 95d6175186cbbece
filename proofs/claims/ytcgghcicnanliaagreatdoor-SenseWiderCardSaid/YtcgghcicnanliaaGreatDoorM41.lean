/- What runs found: ring.Near and ring.Wedge. Conditions: none. Printed by wip/genR.py. -/
import Derived.Test.YtcgghcicnanliaaGreatDoorM40
set_option linter.unusedVariables false
set_option linter.unusedSimpArgs false
namespace Go.Ev
open Go.Proofs Go.Proofs.YtcgghcicnanliaaGreatDoor
noncomputable section
set_option maxRecDepth 100000

def r8r0 : Rec := ⟨123, 3, [S 0 0 2 2, A [i 100, i 0], A [i 90, i 110]], [(0, [S 1 0 1 1, S 2 0 1 1], 76, false), (1, pp [(0, 0)], 43, false), (2, pp [(40, 0)], 43, false)], Tu [.slice (some ⟨284280, 0, some 0⟩) 1 1, i 0], 284318, [(284280, [.slice (some ⟨284278, 0, some 0⟩) 1 1], 76, true), (284278, pp [(0, 0)], 43, true)]⟩
theorem r8q0 : List.all [r8r0] (okB words7) = true := by kernel_rfl
theorem r8r0_good : Good Tryz.prog 123 (orcRec r8r0) := good_ok words7_good (r := r8r0) (all_hd r8q0)

def r8x1r0 : Rec := ⟨122, 5, [A [i 1, i 0, i 0, i 1, i 1, i 50, S 0 0 1 1, S 1 0 1 1, .slice none 0 0], S 2 0 2 2, A [i 0, i 0], A [i 300, i 301], .slice none 0 0], [(0, [i 100, i 200, i 0, .bool false], 110, false), (1, [i 3, i 100, i 0], 112, false), (2, [S 3 0 1 1, S 4 0 1 1], 76, false), (3, pp [(7, 7)], 43, false), (4, pp [(70, 7)], 43, false)], Tu [.slice (some ⟨650, 0, some 0⟩) 1 1, i 0], 651, [(650, [.slice (some ⟨648, 0, some 0⟩) 1 1], 76, true), (648, pp [(70, 7)], 43, true)]⟩
theorem r8x1q0 : List.all [r8x1r0] (okB words7) = true := by kernel_rfl
theorem r8x1r0_good : Good Tryz.prog 122 (orcRec r8x1r0) := good_ok words7_good (r := r8x1r0) (all_hd r8x1q0)
def words8 : List (FuncId × Word) := (123, (orcRec r8r0)) :: (122, (orcRec r8x1r0)) :: words7
theorem words8_good : ∀ x ∈ words8, Good Tryz.prog x.1 x.2 := by
  intro x hx
  unfold words8 at hx
  rcases List.mem_cons.1 hx with rfl | hx
  · exact r8r0_good
  rcases List.mem_cons.1 hx with rfl | hx
  · exact r8x1r0_good
  exact words7_good x hx
end
end Go.Ev
