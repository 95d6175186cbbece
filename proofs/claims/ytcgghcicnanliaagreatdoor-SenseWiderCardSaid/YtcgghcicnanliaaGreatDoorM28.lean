/- Walks: the law's wider. Conditions: an observation that is well-formed, two numbers of 16 bits. -/
import Derived.Test.YtcgghcicnanliaaGreatDoorProg
import Derived.Test.YtcgghcicnanliaaGreatDoorM16
import Derived.Test.YtcgghcicnanliaaGreatDoorM07
set_option linter.unusedVariables false
set_option linter.unusedSimpArgs false
namespace Go.Proofs.YtcgghcicnanliaaGreatDoor
open Go.RowKit
set_option maxHeartbeats 4000000
set_option maxRecDepth 100000

/-- An observation that says less. -/
def widerT (e : EntryT) (low high : Int) : EntryT :=
  if e.kind = 2 then { e with lo := max (-100000) (e.lo - low), hi := min 100000 (e.hi + high) }
  else if e.kind = 3 ∨ e.kind = 7 then { e with lo := max 0 (e.lo - low), hi := min 100000 (e.hi + high) }
  else if e.kind = 5 then { e with hi := min 100000 (e.hi + high) }
  else if e.kind = 6 then { e with lo := max 0 (e.lo - low), hi := max 0 (e.lo - low) }
  else if e.kind = 4 then { e with a := (e.a - min (31 - e.n) (low % 4) + 64) % 64, n := min 31 (e.n + min (31 - e.n) (low % 4) + high % 4) }
  else e

theorem EntryT.Seen.wider {e : EntryT} (h : e.Seen) {low high : Int} (h1 : 0 ≤ low) (h2 : 0 ≤ high) : (widerT e low high).Seen := by
  obtain ⟨seq, time, kind, sensor, ref, a, n, lo, hi, temp, age, since⟩ := e
  simp only [EntryT.Seen] at h
  obtain ⟨g1, g2, g3, g4, g5, g6⟩ := h
  unfold widerT
  rcases g6 with ⟨rfl, g6⟩ | ⟨rfl, g6⟩ | ⟨hk, g6⟩
  · simp only [EntryT.Seen]; simp; omega
  · simp only [EntryT.Seen]; simp; omega
  · rcases hk with rfl | rfl | rfl | rfl <;> (simp only [EntryT.Seen]; simp at g6 ⊢; omega)

theorem wider_33 (e : EntryT) (low high : Int) (h : e.Seen) (hl : 0 ≤ low ∧ low ≤ 65535) (hh : 0 ≤ high ∧ high ≤ 65535) (w : World) :
    Calls Tryz.prog 33 #[.agg e.vals.toArray, .int .u16 low, .int .u16 high] w fun r w' => r = .returned (.agg (widerT e low high).vals.toArray) ∧ Ext w w' := by
  obtain ⟨seq, time, kind, sensor, ref, a, n, lo, hi, temp, age, since⟩ := e
  simp only [EntryT.Seen] at h
  obtain ⟨⟨k1, k2⟩, _, _, _, _, g6⟩ := h
  have D : kind = 2 ∨ kind = 3 ∨ kind = 4 ∨ kind = 5 ∨ kind = 6 ∨ kind = 7 := by omega
  rcases D with rfl | rfl | rfl | rfl | rfl | rfl
  · simp [widerT, EntryT.vals]
    simp at g6
    obtain ⟨e1, e2, e3, e4, e5, e6⟩ := g6
    go_enter Tryz.func33, Tryz.ntmps33
    go_wp2
    all_goals
      ((try simp only [Exit.inBlock, Exit.then]); refine bodyPost_ret (by first | (simp [results, Tryz.f33, go_sem]; rfl) | (simp [results, Tryz.f33, go_sem]; done) | (simp [results, Tryz.f33, go_sem, *]; rfl) | (simp [results, Tryz.f33, go_sem, *]; done)) rfl ?_)
      refine ⟨congrArg Ending.returned (congrArg Value.agg (congrArg List.toArray ?_)), xt⟩
      simp only [List.cons.injEq, Value.int.injEq, and_true, true_and]
      omega
  · simp [widerT, EntryT.vals]
    simp at g6
    obtain ⟨b1, b2, b3, b4⟩ : 0 ≤ lo ∧ lo ≤ 100000 ∧ 0 ≤ hi ∧ hi ≤ 100000 := by omega
    clear g6
    go_enter Tryz.func33, Tryz.ntmps33
    go_wp2
    all_goals
      ((try simp only [Exit.inBlock, Exit.then]); refine bodyPost_ret (by first | (simp [results, Tryz.f33, go_sem]; rfl) | (simp [results, Tryz.f33, go_sem]; done) | (simp [results, Tryz.f33, go_sem, *]; rfl) | (simp [results, Tryz.f33, go_sem, *]; done)) rfl ?_)
      refine ⟨congrArg Ending.returned (congrArg Value.agg (congrArg List.toArray ?_)), xt⟩
      simp only [List.cons.injEq, Value.int.injEq, and_true, true_and]
      omega
  · simp [widerT, EntryT.vals]
    simp at g6
    obtain ⟨b1, b2, b3, b4⟩ : 0 ≤ a ∧ a ≤ 63 ∧ 0 ≤ n ∧ n ≤ 31 := by omega
    have t1 : low.tmod 4 = low % 4 := Int.tmod_eq_emod_of_nonneg hl.1
    have t2 : high.tmod 4 = high % 4 := Int.tmod_eq_emod_of_nonneg hh.1
    clear g6
    go_enter Tryz.func33, Tryz.ntmps33
    go_wp2
    all_goals
      ((try simp only [Exit.inBlock, Exit.then]); refine bodyPost_ret (by first | (simp [results, Tryz.f33, go_sem]; rfl) | (simp [results, Tryz.f33, go_sem]; done) | (simp [results, Tryz.f33, go_sem, *]; rfl) | (simp [results, Tryz.f33, go_sem, *]; done)) rfl ?_)
      refine ⟨congrArg Ending.returned (congrArg Value.agg (congrArg List.toArray ?_)), xt⟩
      simp only [List.cons.injEq, Value.int.injEq, and_true, true_and]
      omega
  · simp [widerT, EntryT.vals]
    simp at g6
    obtain ⟨b1, b2, b3, b4⟩ : 0 ≤ lo ∧ lo ≤ 100000 ∧ 0 ≤ hi ∧ hi ≤ 100000 := by omega
    clear g6
    go_enter Tryz.func33, Tryz.ntmps33
    go_wp2
    all_goals
      ((try simp only [Exit.inBlock, Exit.then]); refine bodyPost_ret (by first | (simp [results, Tryz.f33, go_sem]; rfl) | (simp [results, Tryz.f33, go_sem]; done) | (simp [results, Tryz.f33, go_sem, *]; rfl) | (simp [results, Tryz.f33, go_sem, *]; done)) rfl ?_)
      refine ⟨congrArg Ending.returned (congrArg Value.agg (congrArg List.toArray ?_)), xt⟩
      simp only [List.cons.injEq, Value.int.injEq, and_true, true_and]
      omega
  · simp [widerT, EntryT.vals]
    simp at g6
    obtain ⟨b1, b2, b3, b4⟩ : 0 ≤ lo ∧ lo ≤ 100000 ∧ 0 ≤ hi ∧ hi ≤ 100000 := by omega
    clear g6
    go_enter Tryz.func33, Tryz.ntmps33
    go_wp2
    all_goals
      ((try simp only [Exit.inBlock, Exit.then]); refine bodyPost_ret (by first | (simp [results, Tryz.f33, go_sem]; rfl) | (simp [results, Tryz.f33, go_sem]; done) | (simp [results, Tryz.f33, go_sem, *]; rfl) | (simp [results, Tryz.f33, go_sem, *]; done)) rfl ?_)
      refine ⟨congrArg Ending.returned (congrArg Value.agg (congrArg List.toArray ?_)), xt⟩
      simp only [List.cons.injEq, Value.int.injEq, and_true, true_and]
      omega
  · simp [widerT, EntryT.vals]
    simp at g6
    obtain ⟨b1, b2, b3, b4⟩ : 0 ≤ lo ∧ lo ≤ 100000 ∧ 0 ≤ hi ∧ hi ≤ 100000 := by omega
    clear g6
    go_enter Tryz.func33, Tryz.ntmps33
    go_wp2
    all_goals
      ((try simp only [Exit.inBlock, Exit.then]); refine bodyPost_ret (by first | (simp [results, Tryz.f33, go_sem]; rfl) | (simp [results, Tryz.f33, go_sem]; done) | (simp [results, Tryz.f33, go_sem, *]; rfl) | (simp [results, Tryz.f33, go_sem, *]; done)) rfl ?_)
      refine ⟨congrArg Ending.returned (congrArg Value.agg (congrArg List.toArray ?_)), xt⟩
      simp only [List.cons.injEq, Value.int.injEq, and_true, true_and]
      omega

end Go.Proofs.YtcgghcicnanliaaGreatDoor
