/- Walks: tide.of, tide.At. Conditions: an edition of currents that is right. Walks: tide.At. Conditions: an edition of currents that is right. Words that stand in for small functions of places. Conditions: none. -/
import Derived.Test.YtcgghcicnanliaaGreatDoorProg
import Derived.Test.YtcgghcicnanliaaGreatDoorM26
import Derived.Test.YtcgghcicnanliaaGreatDoorM07
import Derived.Test.YtcgghcicnanliaaGreatDoorM05
import Derived.Test.YtcgghcicnanliaaGreatDoorM09
import Derived.Test.YtcgghcicnanliaaGreatDoorM22
set_option linter.unusedVariables false
set_option linter.unusedSimpArgs false
namespace Go.Proofs.YtcgghcicnanliaaGreatDoor
open Go.RowKit
set_option maxHeartbeats 8000000
set_option maxRecDepth 100000

/-- tide.of. -/
def ofF (t : TideT) (x y slot : Int) : FlowT :=
  let k : FlowT := ⟨x, y, slot, 0, 0, 0, 0, 0, 0⟩
  let f := if bsHit t.flows k then (t.flows[bsF t.flows k]?).getD t.rest else t.rest
  ⟨0, 0, 0, f.ulo, f.uhi, f.vlo, f.vhi, f.hlo, f.hhi⟩
theorem bsHit_some {l : List FlowT} {k : FlowT} (h : bsHit l k = true) : ∃ f, l[bsF l k]? = some f := by
  unfold bsHit at h
  cases e : l[bsF l k]? with
  | none => rw [e] at h; cases h
  | some f => exact ⟨f, rfl⟩

theorem of_175 (t : TideT) (x y slot : Int) (w : World) (hl : t.flows.length ≤ 1000000) (hS : Sl FlowT.vals 9 w t.A t.flows) :
    Calls Tryz.prog 175 #[.agg t.vals.toArray, .int .i64 x, .int .i64 y, .int .i64 slot] w fun e w' => e = .returned (.agg (ofF t x y slot).vals.toArray) ∧ Ext w w' := by
  have K := Lib.hid (fun k1 k2 k3 k4 k5 k6 k7 k8 k9 W (hx : Ext w W) => bsearch_260 t.A t.c t.flows ⟨k1, k2, k3, k4, k5, k6, k7, k8, k9⟩ W hl (hS.ext hx))
  obtain ⟨version, start, slots, ⟨r1, r2, r3, r4, r5, r6, r7, r8, r9⟩, A, c, flows⟩ := t
  cases hh : bsHit flows ⟨x, y, slot, 0, 0, 0, 0, 0, 0⟩ with
  | false =>
    have hO : Hid (ofF ⟨version, start, slots, ⟨r1, r2, r3, r4, r5, r6, r7, r8, r9⟩, A, c, flows⟩ x y slot = ⟨0, 0, 0, r4, r5, r6, r7, r8, r9⟩) := by simp [Hid, ofF, hh]
    have hh' := hh
    simp only [TideT.vals, FlowT.vals, List.cons_append, List.nil_append] at *
    rw [hO.out]
    simp only
    clear hO hh
    go_enter Tryz.func175, Tryz.ntmps175
    go_upto_region 3 with fail
    go_cut [11, 12] from 11 (fun s11 s12 wx => s12 = .bool false ∧ Ext ((((w.alloc (.cells #[.int .i64 version, .int .i64 start, .int .i64 slots, .int .i64 r1, .int .i64 r2, .int .i64 r3, .int .i64 r4, .int .i64 r5, .int .i64 r6, .int .i64 r7, .int .i64 r8, .int .i64 r9, .slice A flows.length c] 33)).alloc (.cells #[.int .i64 0, .int .i64 0, .int .i64 0, .int .i64 0, .int .i64 0, .int .i64 0, .int .i64 0, .int .i64 0, .int .i64 0] 30)).alloc (.cells #[.int .i64 x, .int .i64 y, .int .i64 slot, .int .i64 0, .int .i64 0, .int .i64 0, .int .i64 0, .int .i64 0, .int .i64 0] 30)).alloc (.cells #[.int .i64 r1, .int .i64 r2, .int .i64 r3, .int .i64 r4, .int .i64 r5, .int .i64 r6, .int .i64 r7, .int .i64 r8, .int .i64 r9] 30)) wx)
    case first =>
      go_wp2_with (go_at_call 260; refine (K.out _ _ _ _ _ _ _ _ _ _ xt).mono ?_; rintro e w1 ⟨rfl, hres, hb1⟩)
      go_meet
      exact ⟨by rw [← hh'], hb1⟩
    case rest =>
      obtain ⟨rfl, hb1⟩ := hcut
      have hEw : Ext w wc := ((((Ext.refl w).alloc _).alloc _).alloc _).alloc _ |>.trans hb1
      have hU : wc.heap[w.heap.size + 1 + 1 + 1]? = some (.cells #[.int .i64 r1, .int .i64 r2, .int .i64 r3, .int .i64 r4, .int .i64 r5, .int .i64 r6, .int .i64 r7, .int .i64 r8, .int .i64 r9] 30) := by
        refine (hb1.block _ (by simp only [World.size_alloc]; omega)).trans ?_
        have := heap_new (((w.alloc (.cells #[.int .i64 version, .int .i64 start, .int .i64 slots, .int .i64 r1, .int .i64 r2, .int .i64 r3, .int .i64 r4, .int .i64 r5, .int .i64 r6, .int .i64 r7, .int .i64 r8, .int .i64 r9, .slice A flows.length c] 33)).alloc (.cells #[.int .i64 0, .int .i64 0, .int .i64 0, .int .i64 0, .int .i64 0, .int .i64 0, .int .i64 0, .int .i64 0, .int .i64 0] 30)).alloc (.cells #[.int .i64 x, .int .i64 y, .int .i64 slot, .int .i64 0, .int .i64 0, .int .i64 0, .int .i64 0, .int .i64 0, .int .i64 0] 30)) (.cells #[.int .i64 r1, .int .i64 r2, .int .i64 r3, .int .i64 r4, .int .i64 r5, .int .i64 r6, .int .i64 r7, .int .i64 r8, .int .i64 r9] 30)
        simpa only [World.size_alloc] using this
      have hT : wc.heap[w.heap.size + 1]? = some (.cells #[.int .i64 0, .int .i64 0, .int .i64 0, .int .i64 0, .int .i64 0, .int .i64 0, .int .i64 0, .int .i64 0, .int .i64 0] 30) := by
        refine (hb1.block _ (by simp only [World.size_alloc]; omega)).trans ?_
        rw [Below.heap_alloc _ _ _ (by simp only [World.size_alloc]; omega), Below.heap_alloc _ _ _ (by simp only [World.size_alloc]; omega)]
        have := heap_new (w.alloc (.cells #[.int .i64 version, .int .i64 start, .int .i64 slots, .int .i64 r1, .int .i64 r2, .int .i64 r3, .int .i64 r4, .int .i64 r5, .int .i64 r6, .int .i64 r7, .int .i64 r8, .int .i64 r9, .slice A flows.length c] 33)) (.cells #[.int .i64 0, .int .i64 0, .int .i64 0, .int .i64 0, .int .i64 0, .int .i64 0, .int .i64 0, .int .i64 0, .int .i64 0] 30)
        simpa only [World.size_alloc] using this
      clear hb1
      have U : ∀ j, wc.cell? ⟨w.heap.size + 1 + 1 + 1, j, none⟩ = (#[.int .i64 r1, .int .i64 r2, .int .i64 r3, .int .i64 r4, .int .i64 r5, .int .i64 r6, .int .i64 r7, .int .i64 r8, .int .i64 r9] : Array Value)[j]? := fun j => by simp [World.cell?, hU]
      have FU : ∀ j, wc.frozen? ⟨w.heap.size + 1 + 1 + 1, j, none⟩ = false := fun j => by simp [World.frozen?, hU]
      have HT := Lib.hid hT
      clear hU hT
      go_wp2_with (refine wpList_store_row rfl 30 _ _ rfl (w.heap.size + 1) #[.int .i64 0, .int .i64 0, .int .i64 0, .int .i64 r4, .int .i64 r5, .int .i64 r6, .int .i64 r7, .int .i64 r8, .int .i64 r9] rfl rfl 30 _ ((Below.heap_setCell _ _ _ _ (by simp only; omega)).trans ((Below.heap_setCell _ _ _ _ (by simp only; omega)).trans ((Below.heap_setCell _ _ _ _ (by simp only; omega)).trans HT.out))) (by kernel_rfl) rfl (by kernel_rfl) ?_)
      have hcs := fun j => cell_setRow_same (((wc.setCell ⟨w.heap.size + 1 + 1 + 1, 0, none⟩ (.int .i64 0)).setCell ⟨w.heap.size + 1 + 1 + 1, 1, none⟩ (.int .i64 0)).setCell ⟨w.heap.size + 1 + 1 + 1, 2, none⟩ (.int .i64 0)) (w.heap.size + 1) j _ #[.int .i64 0, .int .i64 0, .int .i64 0, .int .i64 r4, .int .i64 r5, .int .i64 r6, .int .i64 r7, .int .i64 r8, .int .i64 r9] 30 (0, 0) ((Below.heap_setCell _ _ _ _ (by simp only; omega)).trans ((Below.heap_setCell _ _ _ _ (by simp only; omega)).trans ((Below.heap_setCell _ _ _ _ (by simp only; omega)).trans HT.out)))
      refine bodyPost_ret (by simp [results, Tryz.f175, go_sem, hcs]; rfl) rfl ?_
      exact ⟨rfl, (((hEw.setCell (by simp only; omega) _).setCell (by simp only; omega) _).setCell (by simp only; omega) _).setRow (by omega) _⟩
  | true =>
    obtain ⟨f, hf⟩ := bsHit_some hh
    have hO : Hid (ofF ⟨version, start, slots, ⟨r1, r2, r3, r4, r5, r6, r7, r8, r9⟩, A, c, flows⟩ x y slot = ⟨0, 0, 0, f.ulo, f.uhi, f.vlo, f.vhi, f.hlo, f.hhi⟩) := by simp [Hid, ofF, hh, hf]
    have hlt : bsF flows ⟨x, y, slot, 0, 0, 0, 0, 0, 0⟩ < flows.length := (List.getElem?_eq_some_iff.1 hf).1
    obtain ⟨b, off, rfl⟩ : ∃ b off, A = some ⟨b, off, none⟩ := hS.addr (by show 0 < flows.length; omega)
    have hh' := hh
    simp only [TideT.vals, FlowT.vals, List.cons_append, List.nil_append] at *
    generalize hres0 : bsF flows ⟨x, y, slot, 0, 0, 0, 0, 0, 0⟩ = res at hlt hf
    rw [hO.out]
    obtain ⟨y1, y2, y3, y4, y5, y6, y7, y8, y9⟩ := f
    simp only
    clear hO hh
    have hltz : (res : Int) < (flows.length : Int) := by omega
    go_enter Tryz.func175, Tryz.ntmps175
    go_upto_region 3 with fail
    go_cut [11, 12] from 11 (fun s11 s12 wx => s11 = .int .i64 res ∧ s12 = .bool true ∧ Ext ((((w.alloc (.cells #[.int .i64 version, .int .i64 start, .int .i64 slots, .int .i64 r1, .int .i64 r2, .int .i64 r3, .int .i64 r4, .int .i64 r5, .int .i64 r6, .int .i64 r7, .int .i64 r8, .int .i64 r9, .slice (some ⟨b, off, none⟩) flows.length c] 33)).alloc (.cells #[.int .i64 0, .int .i64 0, .int .i64 0, .int .i64 0, .int .i64 0, .int .i64 0, .int .i64 0, .int .i64 0, .int .i64 0] 30)).alloc (.cells #[.int .i64 x, .int .i64 y, .int .i64 slot, .int .i64 0, .int .i64 0, .int .i64 0, .int .i64 0, .int .i64 0, .int .i64 0] 30)).alloc (.cells #[.int .i64 r1, .int .i64 r2, .int .i64 r3, .int .i64 r4, .int .i64 r5, .int .i64 r6, .int .i64 r7, .int .i64 r8, .int .i64 r9] 30)) wx)
    case first =>
      go_wp2_with (go_at_call 260; refine (K.out _ _ _ _ _ _ _ _ _ _ xt).mono ?_; rintro e w1 ⟨rfl, hres, hb1⟩)
      go_meet
      exact ⟨by rw [← hres0], by rw [← hh'], hb1⟩
    case rest =>
      obtain ⟨rfl, rfl, hb1⟩ := hcut
      have hEw : Ext w wc := ((((Ext.refl w).alloc _).alloc _).alloc _).alloc _ |>.trans hb1
      have hU : wc.heap[w.heap.size + 1 + 1 + 1]? = some (.cells #[.int .i64 r1, .int .i64 r2, .int .i64 r3, .int .i64 r4, .int .i64 r5, .int .i64 r6, .int .i64 r7, .int .i64 r8, .int .i64 r9] 30) := by
        refine (hb1.block _ (by simp only [World.size_alloc]; omega)).trans ?_
        have := heap_new (((w.alloc (.cells #[.int .i64 version, .int .i64 start, .int .i64 slots, .int .i64 r1, .int .i64 r2, .int .i64 r3, .int .i64 r4, .int .i64 r5, .int .i64 r6, .int .i64 r7, .int .i64 r8, .int .i64 r9, .slice (some ⟨b, off, none⟩) flows.length c] 33)).alloc (.cells #[.int .i64 0, .int .i64 0, .int .i64 0, .int .i64 0, .int .i64 0, .int .i64 0, .int .i64 0, .int .i64 0, .int .i64 0] 30)).alloc (.cells #[.int .i64 x, .int .i64 y, .int .i64 slot, .int .i64 0, .int .i64 0, .int .i64 0, .int .i64 0, .int .i64 0, .int .i64 0] 30)) (.cells #[.int .i64 r1, .int .i64 r2, .int .i64 r3, .int .i64 r4, .int .i64 r5, .int .i64 r6, .int .i64 r7, .int .i64 r8, .int .i64 r9] 30)
        simpa only [World.size_alloc] using this
      have hT : wc.heap[w.heap.size + 1]? = some (.cells #[.int .i64 0, .int .i64 0, .int .i64 0, .int .i64 0, .int .i64 0, .int .i64 0, .int .i64 0, .int .i64 0, .int .i64 0] 30) := by
        refine (hb1.block _ (by simp only [World.size_alloc]; omega)).trans ?_
        rw [Below.heap_alloc _ _ _ (by simp only [World.size_alloc]; omega), Below.heap_alloc _ _ _ (by simp only [World.size_alloc]; omega)]
        have := heap_new (w.alloc (.cells #[.int .i64 version, .int .i64 start, .int .i64 slots, .int .i64 r1, .int .i64 r2, .int .i64 r3, .int .i64 r4, .int .i64 r5, .int .i64 r6, .int .i64 r7, .int .i64 r8, .int .i64 r9, .slice (some ⟨b, off, none⟩) flows.length c] 33)) (.cells #[.int .i64 0, .int .i64 0, .int .i64 0, .int .i64 0, .int .i64 0, .int .i64 0, .int .i64 0, .int .i64 0, .int .i64 0] 30)
        simpa only [World.size_alloc] using this
      have hV : wc.cell? ⟨w.heap.size, 12, none⟩ = some (.slice (some ⟨b, off, none⟩) flows.length c) := by
        have hbk : wc.heap[w.heap.size]? = some (.cells #[.int .i64 version, .int .i64 start, .int .i64 slots, .int .i64 r1, .int .i64 r2, .int .i64 r3, .int .i64 r4, .int .i64 r5, .int .i64 r6, .int .i64 r7, .int .i64 r8, .int .i64 r9, .slice (some ⟨b, off, none⟩) flows.length c] 33) := by
          refine (hb1.block _ (by simp only [World.size_alloc]; omega)).trans ?_
          rw [Below.heap_alloc _ _ _ (by simp only [World.size_alloc]; omega), Below.heap_alloc _ _ _ (by simp only [World.size_alloc]; omega), Below.heap_alloc _ _ _ (by simp only [World.size_alloc]; omega)]
          exact heap_new w _
        simp [World.cell?, hbk]
      clear hb1
      have hbw : b < wc.heap.size := by have := hS.blk (by show 0 < flows.length; omega); have := hEw.len; omega
      have HU := Lib.hid hU
      have HT := Lib.hid hT
      clear hU hT
      have c0 : wc.cell? ⟨b, off + res * 9, none⟩ = some (.int .i64 y1) := by have := (hS.ext hEw).at_ hf (i := 0) rfl; simpa using this
      have c1 : wc.cell? ⟨b, off + res * 9 + 1, none⟩ = some (.int .i64 y2) := by have := (hS.ext hEw).at_ hf (i := 1) rfl; simpa using this
      have c2 : wc.cell? ⟨b, off + res * 9 + 2, none⟩ = some (.int .i64 y3) := by have := (hS.ext hEw).at_ hf (i := 2) rfl; simpa using this
      have c3 : wc.cell? ⟨b, off + res * 9 + 3, none⟩ = some (.int .i64 y4) := by have := (hS.ext hEw).at_ hf (i := 3) rfl; simpa using this
      have c4 : wc.cell? ⟨b, off + res * 9 + 4, none⟩ = some (.int .i64 y5) := by have := (hS.ext hEw).at_ hf (i := 4) rfl; simpa using this
      have c5 : wc.cell? ⟨b, off + res * 9 + 5, none⟩ = some (.int .i64 y6) := by have := (hS.ext hEw).at_ hf (i := 5) rfl; simpa using this
      have c6 : wc.cell? ⟨b, off + res * 9 + 6, none⟩ = some (.int .i64 y7) := by have := (hS.ext hEw).at_ hf (i := 6) rfl; simpa using this
      have c7 : wc.cell? ⟨b, off + res * 9 + 7, none⟩ = some (.int .i64 y8) := by have := (hS.ext hEw).at_ hf (i := 7) rfl; simpa using this
      have c8 : wc.cell? ⟨b, off + res * 9 + 8, none⟩ = some (.int .i64 y9) := by have := (hS.ext hEw).at_ hf (i := 8) rfl; simpa using this
      go_upto_region 6 with (refine wpList_store_row rfl 30 _ _ rfl (w.heap.size + 1 + 1 + 1) #[.int .i64 y1, .int .i64 y2, .int .i64 y3, .int .i64 y4, .int .i64 y5, .int .i64 y6, .int .i64 y7, .int .i64 y8, .int .i64 y9] rfl rfl 30 _ HU.out (by kernel_rfl) rfl (by kernel_rfl) ?_)
      have hEd := hEw.setRow (g := w.heap.size + 1 + 1 + 1) (by omega) #[.int .i64 y1, .int .i64 y2, .int .i64 y3, .int .i64 y4, .int .i64 y5, .int .i64 y6, .int .i64 y7, .int .i64 y8, .int .i64 y9]
      have hU2 := setRow_heap wc (w.heap.size + 1 + 1 + 1) _ #[.int .i64 y1, .int .i64 y2, .int .i64 y3, .int .i64 y4, .int .i64 y5, .int .i64 y6, .int .i64 y7, .int .i64 y8, .int .i64 y9] 30 (0, 0) HU.out
      have hT2 := (setRow_other wc (w.heap.size + 1 + 1 + 1) (w.heap.size + 1) #[.int .i64 y1, .int .i64 y2, .int .i64 y3, .int .i64 y4, .int .i64 y5, .int .i64 y6, .int .i64 y7, .int .i64 y8, .int .i64 y9] (by omega)).trans HT.out
      generalize wc.setRow (w.heap.size + 1 + 1 + 1) #[.int .i64 y1, .int .i64 y2, .int .i64 y3, .int .i64 y4, .int .i64 y5, .int .i64 y6, .int .i64 y7, .int .i64 y8, .int .i64 y9] = wd at hEd hU2 hT2 ⊢
      clear c0 c1 c2 c3 c4 c5 c6 c7 c8 HU HT hbw hEw
      have U : ∀ j, wd.cell? ⟨w.heap.size + 1 + 1 + 1, j, none⟩ = (#[.int .i64 y1, .int .i64 y2, .int .i64 y3, .int .i64 y4, .int .i64 y5, .int .i64 y6, .int .i64 y7, .int .i64 y8, .int .i64 y9] : Array Value)[j]? := fun j => by simp [World.cell?, hU2]
      have FU : ∀ j, wd.frozen? ⟨w.heap.size + 1 + 1 + 1, j, none⟩ = false := fun j => by simp [World.frozen?, hU2]
      have HT2 := Lib.hid hT2
      clear hU2 hT2
      go_wp2_with (refine wpList_store_row rfl 30 _ _ rfl (w.heap.size + 1) #[.int .i64 0, .int .i64 0, .int .i64 0, .int .i64 y4, .int .i64 y5, .int .i64 y6, .int .i64 y7, .int .i64 y8, .int .i64 y9] rfl rfl 30 _ ((Below.heap_setCell _ _ _ _ (by simp only; omega)).trans ((Below.heap_setCell _ _ _ _ (by simp only; omega)).trans ((Below.heap_setCell _ _ _ _ (by simp only; omega)).trans HT2.out))) (by kernel_rfl) rfl (by kernel_rfl) ?_)
      have hcs := fun j => cell_setRow_same (((wd.setCell ⟨w.heap.size + 1 + 1 + 1, 0, none⟩ (.int .i64 0)).setCell ⟨w.heap.size + 1 + 1 + 1, 1, none⟩ (.int .i64 0)).setCell ⟨w.heap.size + 1 + 1 + 1, 2, none⟩ (.int .i64 0)) (w.heap.size + 1) j _ #[.int .i64 0, .int .i64 0, .int .i64 0, .int .i64 y4, .int .i64 y5, .int .i64 y6, .int .i64 y7, .int .i64 y8, .int .i64 y9] 30 (0, 0) ((Below.heap_setCell _ _ _ _ (by simp only; omega)).trans ((Below.heap_setCell _ _ _ _ (by simp only; omega)).trans ((Below.heap_setCell _ _ _ _ (by simp only; omega)).trans HT2.out)))
      refine bodyPost_ret (by simp [results, Tryz.f175, go_sem, hcs]; rfl) rfl ?_
      exact ⟨rfl, (((hEd.setCell (by simp only; omega) _).setCell (by simp only; omega) _).setCell (by simp only; omega) _).setRow (by omega) _⟩

end Go.Proofs.YtcgghcicnanliaaGreatDoor
namespace Go.Proofs.YtcgghcicnanliaaGreatDoor
open Go.RowKit
set_option maxHeartbeats 8000000
set_option maxRecDepth 100000

theorem tideAt_111 (t : TideT) (p : Pt) (time : Int) (w : World) (hok : tideOk t = true) (hp : plB p = true) (ht : inB time 0 1000000000 = true) (hS : Sl FlowT.vals 9 w t.A t.flows) :
    Calls Tryz.prog 111 #[.agg t.vals.toArray, .agg #[.int .i64 p.1, .int .i64 p.2], .int .i64 time] w fun e w' => e = .returned (.tuple #[.agg (ofF t (p.1 / 10000) (p.2 / 10000) ((time - t.start) / 3600)).vals.toArray, .int .i64 0]) ∧ Ext w w' := by
  obtain ⟨hf1, hs1, hs2⟩ : t.flows.length ≤ 4000 ∧ 0 ≤ t.start ∧ t.start ≤ 1000000000 := by
    simp only [tideOk, inB, Bool.and_eq_true, decide_eq_true_eq] at hok
    omega
  obtain ⟨hp1, hp2, hp3, hp4⟩ : -500000 ≤ p.1 ∧ p.1 ≤ 500000 ∧ -500000 ≤ p.2 ∧ p.2 ≤ 500000 := by
    simp only [plB, inB, Bool.and_eq_true, decide_eq_true_eq] at hp
    omega
  obtain ⟨ht1, ht2⟩ : 0 ≤ time ∧ time ≤ 1000000000 := by simpa [inB] using ht
  have K1 := Lib.hid (fun W (hx : Ext w W) => tideValid_42 t W (hS.ext hx))
  have K2 := Lib.hid (tideIsPlace_173 p)
  have K3 := Lib.hid (isTime_95 time)
  have K4 := Lib.hid (block_174 p.1 p.2 (by omega) (by omega) (by omega) (by omega))
  have K6 := Lib.hid (fun W (hx : Ext w W) => of_175 t (p.1 / 10000) (p.2 / 10000) ((time - t.start) / 3600) W (by omega) (hS.ext hx))
  rw [hok] at K1
  rw [hp] at K2
  rw [ht] at K3
  generalize ofF t (p.1 / 10000) (p.2 / 10000) ((time - t.start) / 3600) = o at K6 ⊢
  generalize p.1 / 10000 = bx at K4 K6
  generalize p.2 / 10000 = yb at K4 K6
  obtain ⟨o1, o2, o3, o4, o5, o6, o7, o8, o9⟩ := o
  obtain ⟨px, py⟩ := p
  obtain ⟨version, start, slots, ⟨r1, r2, r3, r4, r5, r6, r7, r8, r9⟩, A, c, flows⟩ := t
  simp only [TideT.vals, FlowT.vals, List.cons_append, List.nil_append] at *
  clear hok hp ht hf1
  go_enter Tryz.func111, Tryz.ntmps111
  go_upto_region 4 with (first
    | (go_at_call 42; refine (K1.out _ xt).mono ?_; rintro e w1 ⟨rfl, hb1⟩; obtain ⟨hc1, hf1, hz1⟩ := hb1.rules; (try simp only [World.size_alloc] at hz1); (have hzz1 : w.heap.size < w1.heap.size := by omega); (have hzy1 : w.heap.size + 1 < w1.heap.size := by omega))
    | (go_at_call 173; refine (K2.out _).mono ?_; rintro e w2 ⟨rfl, hb2⟩; obtain ⟨hc2, hf2, hz2⟩ := hb2.rules; (have hzz2 : w.heap.size < w2.heap.size := by omega); (have hzy2 : w.heap.size + 1 < w2.heap.size := by omega))
    | (go_at_call 95; refine (K3.out _).mono ?_; rintro e w3 ⟨rfl, rfl⟩)
    | (go_at_call 174; refine (K4.out _).mono ?_; rintro e w4 ⟨rfl, hb4⟩))
  have hEE := (hb1.trans hb2).trans hb4
  have hB0 : w4.heap[w.heap.size]? = some (.cells #[.int .i64 version, .int .i64 start, .int .i64 slots, .int .i64 r1, .int .i64 r2, .int .i64 r3, .int .i64 r4, .int .i64 r5, .int .i64 r6, .int .i64 r7, .int .i64 r8, .int .i64 r9, .slice A flows.length c] 33) := by
    refine (hEE.block _ (by simp only [World.size_alloc]; omega)).trans ?_
    rw [Below.heap_alloc _ _ _ (by simp only [World.size_alloc]; omega), Below.heap_alloc _ _ _ (by simp only [World.size_alloc]; omega)]
    exact heap_new w _
  have hB2 : w4.heap[w.heap.size + 1 + 1]? = some (.cells #[.int .i64 0, .int .i64 0, .int .i64 0, .int .i64 0, .int .i64 0, .int .i64 0, .int .i64 0, .int .i64 0, .int .i64 0] 30) := by
    refine (hEE.block _ (by simp only [World.size_alloc]; omega)).trans ?_
    have := heap_new ((w.alloc (.cells #[.int .i64 version, .int .i64 start, .int .i64 slots, .int .i64 r1, .int .i64 r2, .int .i64 r3, .int .i64 r4, .int .i64 r5, .int .i64 r6, .int .i64 r7, .int .i64 r8, .int .i64 r9, .slice A flows.length c] 33)).alloc (.cells #[.int .i64 px, .int .i64 py] 43)) (.cells #[.int .i64 0, .int .i64 0, .int .i64 0, .int .i64 0, .int .i64 0, .int .i64 0, .int .i64 0, .int .i64 0, .int .i64 0] 30)
    simpa only [World.size_alloc] using this
  have hEw : Ext w w4 := (((Ext.refl w).alloc _).alloc _).alloc _ |>.trans hEE
  have hz4 : w.heap.size + 3 ≤ w4.heap.size := by have := hEE.len; simp only [World.size_alloc] at this; omega
  obtain ⟨W5, hW5⟩ : ∃ W5, w4.alloc (.cells #[.int .i64 bx, .int .i64 yb] 43) = W5 := ⟨_, rfl⟩
  have hE5 : Ext w4 W5 := by rw [← hW5]; exact (Ext.refl w4).alloc _
  have hC0 := (hE5.block _ (by omega)).trans hB0
  have hC2 := (hE5.block _ (by omega)).trans hB2
  have hC8 : W5.heap[w4.heap.size]? = some (.cells #[.int .i64 bx, .int .i64 yb] 43) := by rw [← hW5]; exact heap_new w4 _
  have hz5 : w4.heap.size < W5.heap.size := by rw [← hW5]; simp
  have hz6 : w.heap.size < W5.heap.size := by omega
  rw [hW5]
  clear hW5 hb1 hb2 hb4 hEE hB0 hB2 hc1 hf1 hz1 hzz1 hzy1 hc2 hf2 hz2 hzz2 hzy2 K1 K2 K3 K4
  have U0 : ∀ j, W5.cell? ⟨w.heap.size, j, none⟩ = (#[.int .i64 version, .int .i64 start, .int .i64 slots, .int .i64 r1, .int .i64 r2, .int .i64 r3, .int .i64 r4, .int .i64 r5, .int .i64 r6, .int .i64 r7, .int .i64 r8, .int .i64 r9, .slice A flows.length c] : Array Value)[j]? := fun j => by simp [World.cell?, hC0]
  have U8 : ∀ j, W5.cell? ⟨w4.heap.size, j, none⟩ = (#[.int .i64 bx, .int .i64 yb] : Array Value)[j]? := fun j => by simp [World.cell?, hC8]
  have H2 := Lib.hid hC2
  have HX := Lib.hid (hEw.trans hE5)
  clear hC0 hC2 hC8 hEw hE5
  (refine wp_region_ext_tail 11 (by kernel_rfl) (by kernel_rfl) ?_; simp only [List.take_succ_cons, List.take_zero, List.drop_succ_cons, List.drop_zero]; (repeat (first | go_big_quiet_step (first | (go_at_call 176; exact Xt.calls (down_176 _ _ ⟨by omega, by omega, by omega, by omega⟩ _)) | (go_at_call 175; exact Xt.calls (K6.out _ (HX.out.trans (Xt.ext _))))) | quiet_step (first | (go_at_call 176; exact Xt.calls (down_176 _ _ ⟨by omega, by omega, by omega, by omega⟩ _)) | (go_at_call 175; exact Xt.calls (K6.out _ (HX.out.trans (Xt.ext _))))))); refine wpQuiet_nil ?_; rintro _ ⟨xq, rfl⟩; have hx2 := xq.ext; generalize xq.world = w2 at hx2 ⊢; obtain ⟨hc9, hf9, hz9⟩ := hx2.rules; (try simp only [World.size_alloc] at hz9); (try have hz9a : w.heap.size < w2.heap.size := by omega); (try have hz9b : w.heap.size + 1 < w2.heap.size := by omega); (try have hz9c : w.heap.size + 1 + 1 < w2.heap.size := by omega); (try have hz9d : w.heap.size + 1 + 1 + 1 < w2.heap.size := by omega))
  have hW2 : w2.heap[w.heap.size + 1 + 1]? = some (.cells #[.int .i64 0, .int .i64 0, .int .i64 0, .int .i64 0, .int .i64 0, .int .i64 0, .int .i64 0, .int .i64 0, .int .i64 0] 30) := (hx2.block _ (by omega)).trans H2.out
  have HW2 := Lib.hid hW2
  clear hW2 hc9 hf9
  go_wp2_with (refine wpList_store_row rfl 30 _ _ rfl (w.heap.size + 1 + 1) #[.int .i64 o1, .int .i64 o2, .int .i64 o3, .int .i64 o4, .int .i64 o5, .int .i64 o6, .int .i64 o7, .int .i64 o8, .int .i64 o9] rfl rfl 30 _ HW2.out (by kernel_rfl) rfl (by kernel_rfl) ?_)
  have hcs := fun j => cell_setRow_same w2 (w.heap.size + 1 + 1) j _ #[.int .i64 o1, .int .i64 o2, .int .i64 o3, .int .i64 o4, .int .i64 o5, .int .i64 o6, .int .i64 o7, .int .i64 o8, .int .i64 o9] 30 (0, 0) HW2.out
  refine bodyPost_ret (by simp [results, Tryz.f111, go_sem, hcs]; rfl) rfl ?_
  exact ⟨rfl, (HX.out.trans hx2).setRow (by omega) _⟩

end Go.Proofs.YtcgghcicnanliaaGreatDoor
namespace Go.Ev
open Go.Proofs Go.Proofs.YtcgghcicnanliaaGreatDoor Go.RowKit
noncomputable section

theorem ent {P : Program} {f : FuncId} {fn} (h : P.funcs[f]? = some fn) (h2 : fn.body.isNone = false) (h3 : (fn.name == "runtime.NumGoroutine") = false) : Enters P f := ⟨⟨fn, h, h2, h3⟩⟩
/-- A word whose arguments and result hold no names. -/
def flatW (g : List Value → Option Value) : Word := fun args h => match g args with
  | some v => some (v, h)
  | none => none
theorem good_flat {P : Program} {f : FuncId} {g : List Value → Option Value} (hE : Enters P f)
    (hg : ∀ args v, g args = some v → (∀ x ∈ args, flatB x = true) ∧ flatB v = true ∧ ∀ w, Calls P f args.toArray w fun e w' => e = .returned v ∧ RowKit.Below w.heap.size w w') : Good P f (flatW g) := by
  refine ⟨hE, fun T ht args h v h' he ι w args' m ha => ?_⟩
  unfold flatW at he
  split at he
  case h_2 => cases he
  rename_i v0 hv
  cases he
  obtain ⟨h1, h2, h3⟩ := hg args _ hv
  have e : args'.toList = args := by
    refine List.ext_getElem? fun i => ?_
    cases hi : args[i]? with
    | none => rw [List.getElem?_eq_none_iff] at hi ⊢; rw [← ha.1]; exact hi
    | some x =>
      have hlt := (List.getElem?_eq_some_iff.1 hi).1
      have hlt' : i < args'.toList.length := by rw [← ha.1]; exact hlt
      have hi' := List.getElem?_eq_getElem hlt'
      rw [hi']
      exact congrArg some (flat_eq (h1 x (List.mem_of_getElem? hi)) (ha.2 i x _ hi hi'))
  have e2 : args' = args.toArray := Array.ext' (by simpa using e)
  rw [e2]
  exact callS_flat m h2 (h3 w)

/-- A place. -/
def ptV (v : Value) : Option Pt :=
  match v with
  | .agg cs => match cs.toList with
    | [.int .i64 x, .int .i64 y] => some (x, y)
    | _ => none
  | _ => none
theorem ptV_eq {v : Value} {p : Pt} (he : ptV v = some p) : v = .agg #[.int .i64 p.1, .int .i64 p.2] := by
  unfold ptV at he
  split at he
  case h_2 => cases he
  rename_i cs
  split at he
  case h_2 => cases he
  rename_i x y hcs
  cases he
  congr 1
  exact Array.ext' hcs
theorem flat_pt (p : Pt) : flatB (.agg #[.int .i64 p.1, .int .i64 p.2]) = true := rfl

def isub (a b : Int) : Int := iadd a (ineg b)
theorem isub_eq (a b : Int) : isub a b = a - b := by unfold isub; rw [iadd_eq, ineg_eq]; omega
def ile (a b : Int) : Bool := Bool.not (gl b a)
theorem gl_iff {a b : Int} : gl a b = true ↔ a < b := by
  cases a <;> cases b <;> simp only [gl] <;> simp <;> omega
theorem ile_iff {a b : Int} : ile a b = true ↔ a ≤ b := by
  unfold ile
  have := gl_iff (a := b) (b := a)
  cases h : gl b a <;> simp_all <;> omega
def midK (p : Pt) : Bool := bif ile (-1000000) p.1 then bif ile p.1 1000000 then bif ile (-1000000) p.2 then ile p.2 1000000 else false else false else false
theorem midK_ok {p : Pt} (h : midK p = true) : Mid p := by
  simp only [midK, cond_eq_ite] at h
  unfold Mid
  simp only [ile_iff] at h
  repeat' split at h
  all_goals first | (cases h; done) | skip
  have := ile_iff.1 h
  omega
def turnK (a b c : Pt) : Int := isub (imul (isub b.1 a.1) (isub c.2 a.2)) (imul (isub b.2 a.2) (isub c.1 a.1))
theorem turnK_eq (a b c : Pt) : turnK a b c = turnP a b c := by simp only [turnK, isub_eq, imul_eq, turnP]

def turnG3 (a b c : Option Pt) : Option Value := match a, b, c with
  | some a, some b, some c => bif midK a then bif midK b then bif midK c then some (.int .i64 (turnK a b c)) else none else none else none
  | _, _, _ => none
def turnG (args : List Value) : Option Value := match args with
  | [a, b, c] => turnG3 (ptV a) (ptV b) (ptV c)
  | _ => none
theorem turnG_ok {args : List Value} {v : Value} (h : turnG args = some v) : ∃ a b c : Pt, Mid a ∧ Mid b ∧ Mid c ∧ v = .int .i64 (turnP a b c) ∧ args = [.agg #[.int .i64 a.1, .int .i64 a.2], .agg #[.int .i64 b.1, .int .i64 b.2], .agg #[.int .i64 c.1, .int .i64 c.2]] := by
  unfold turnG at h
  split at h
  case h_2 => cases h
  rename_i x y z
  unfold turnG3 at h
  split at h
  case h_2 => cases h
  rename_i a b c ha hb hc
  simp only [cond_eq_ite] at h
  repeat' split at h
  all_goals first | (cases h; done) | skip
  rename_i h1 h2 h3
  rw [turnK_eq] at h
  exact ⟨a, b, c, midK_ok h1, midK_ok h2, midK_ok h3, (Option.some.inj h).symm, by rw [ptV_eq ha, ptV_eq hb, ptV_eq hc]⟩
theorem flat3 (a b c : Pt) : ∀ x ∈ [Value.agg #[.int .i64 a.1, .int .i64 a.2], .agg #[.int .i64 b.1, .int .i64 b.2], .agg #[.int .i64 c.1, .int .i64 c.2]], flatB x = true := by
  intro x hx; simp only [List.mem_cons, List.not_mem_nil, or_false] at hx; rcases hx with rfl | rfl | rfl <;> rfl
theorem flat2 (a b : Pt) : ∀ x ∈ [Value.agg #[.int .i64 a.1, .int .i64 a.2], .agg #[.int .i64 b.1, .int .i64 b.2]], flatB x = true := by
  intro x hx; simp only [List.mem_cons, List.not_mem_nil, or_false] at hx; rcases hx with rfl | rfl <;> rfl
theorem flat1 (a : Pt) : ∀ x ∈ [Value.agg #[.int .i64 a.1, .int .i64 a.2]], flatB x = true := by
  intro x hx; simp only [List.mem_cons, List.not_mem_nil, or_false] at hx; rcases hx with rfl; rfl
theorem good_250 : Good Tryz.prog 250 (flatW turnG) := good_flat (ent Tryz.func250 rfl (by kernel_rfl)) fun args v h => by
  obtain ⟨a, b, c, ha, hb, hc, rfl, rfl⟩ := turnG_ok h
  exact ⟨flat3 a b c, rfl, fun w => turn_250 a b c ha hb hc w⟩
theorem good_404 : Good Tryz.prog 404 (flatW turnG) := good_flat (ent Tryz.func404 rfl (by kernel_rfl)) fun args v h => by
  obtain ⟨a, b, c, ha, hb, hc, rfl, rfl⟩ := turnG_ok h
  exact ⟨flat3 a b c, rfl, fun w => cutTurn_404 a b c ha hb hc w⟩

/-- cut.crosses. -/
def crossK (s t : Int) : Bool := bif gl s 0 then gl 0 t else bif gl 0 s then gl t 0 else false
theorem crossK_eq (s t : Int) : crossK s t = crossB s t := by
  have h1 := gl_iff (a := s) (b := 0)
  have h2 := gl_iff (a := 0) (b := s)
  have h3 := gl_iff (a := 0) (b := t)
  have h4 := gl_iff (a := t) (b := 0)
  rw [Bool.eq_iff_iff]
  simp only [crossK, crossB, cond_eq_ite]
  split
  · simp_all; try omega
  · split <;> simp_all <;> omega
def crossG (args : List Value) : Option Value := match args with
  | [.int .i64 s, .int .i64 t] => some (.bool (crossK s t))
  | _ => none
theorem good_357 : Good Tryz.prog 357 (flatW crossG) := good_flat (ent Tryz.func357 rfl (by kernel_rfl)) fun args v h => by
  unfold crossG at h
  split at h
  case h_2 => cases h
  cases h
  refine ⟨fun x hx => ?_, rfl, fun w => (crosses_357 _ _ w).mono ?_⟩
  · simp only [List.mem_cons, List.not_mem_nil, or_false] at hx; rcases hx with rfl | rfl <;> rfl
  · rintro e w' ⟨rfl, rfl⟩; exact ⟨by rw [crossK_eq], Ext.refl _⟩

/-- hull.isPlace. -/
def plK (p : Pt) : Bool := bif ile (-500000) p.1 then bif ile p.1 500000 then bif ile (-500000) p.2 then ile p.2 500000 else false else false else false
theorem plK_eq (p : Pt) : plK p = plB p := by
  have h1 := ile_iff (a := -500000) (b := p.1)
  have h2 := ile_iff (a := p.1) (b := 500000)
  have h3 := ile_iff (a := -500000) (b := p.2)
  have h4 := ile_iff (a := p.2) (b := 500000)
  rw [Bool.eq_iff_iff]
  simp only [plK, plB, YtcgghcicnanliaaGreatDoor.inB, cond_eq_ite, Bool.and_eq_true, decide_eq_true_eq]
  repeat' split
  all_goals (simp_all; try omega)
def plG (args : List Value) : Option Value := match args with
  | [a] => match ptV a with
    | some p => bif midK p then some (.bool (plK p)) else none
    | none => none
  | _ => none
theorem good_247 : Good Tryz.prog 247 (flatW plG) := good_flat (ent Tryz.func247 rfl (by kernel_rfl)) fun args v h => by
  unfold plG at h
  split at h
  case h_2 => cases h
  split at h
  case h_2 => cases h
  rename_i a p hp
  simp only [cond_eq_ite] at h
  split at h
  case isFalse => cases h
  rename_i hm
  cases h
  rw [ptV_eq hp, plK_eq]
  obtain ⟨m1, m2, m3, m4⟩ := midK_ok hm
  exact ⟨flat1 p, rfl, fun w => (isPlace_247 p ⟨by omega, by omega⟩ ⟨by omega, by omega⟩ w).mono fun e w' h => ⟨h.1, h.2.1⟩⟩

/-- hull.compare, cmp.Compare. -/
def cmpK1 (a b : Int) : Int := bif gl a b then -1 else bif gl b a then 1 else 0
theorem cmpK1_eq (a b : Int) : cmpK1 a b = cmpI a b := by
  have h1 := gl_iff (a := a) (b := b)
  have h2 := gl_iff (a := b) (b := a)
  simp only [cmpK1, cmpI, cond_eq_ite]
  repeat' split
  all_goals simp_all
def cmpK (p q : Pt) : Int := bif gl p.1 q.1 then -1 else bif gl q.1 p.1 then 1 else cmpK1 p.2 q.2
theorem cmpK_eq (p q : Pt) : cmpK p q = cmpP p q := by
  have h1 := gl_iff (a := p.1) (b := q.1)
  have h2 := gl_iff (a := q.1) (b := p.1)
  simp only [cmpK, cmpP, cmpK1_eq, orI, cmpI, cond_eq_ite]
  repeat' split
  all_goals simp_all
def cmpG (args : List Value) : Option Value := match args with
  | [a, b] => match ptV a, ptV b with
    | some p, some q => some (.int .i64 (cmpK p q))
    | _, _ => none
  | _ => none
theorem good_248 : Good Tryz.prog 248 (flatW cmpG) := good_flat (ent Tryz.func248 rfl (by kernel_rfl)) fun args v h => by
  unfold cmpG at h
  split at h
  case h_2 => cases h
  split at h
  case h_2 => cases h
  rename_i a b p q hp hq
  cases h
  rw [ptV_eq hp, ptV_eq hq, cmpK_eq]
  exact ⟨flat2 p q, rfl, fun w => (hullCompare_248 p q w).mono fun e w' h => ⟨h.1, h.2.1⟩⟩
def cmp1G (args : List Value) : Option Value := match args with
  | [.int .i64 s, .int .i64 t] => some (.int .i64 (cmpK1 s t))
  | _ => none

/-- exact.Floor, exact.Ceil. -/
def wideK (a b : Int) : Bool := bif ile (-1000000000000) a then bif ile a 1000000000000 then bif ile 1 b then ile b 1000000000000 else false else false else false
theorem wideK_ok {a b : Int} (h : wideK a b = true) : Wide a b := by
  simp only [wideK, cond_eq_ite] at h
  simp only [ile_iff] at h
  repeat' split at h
  all_goals first | (cases h; done) | skip
  have := ile_iff.1 h
  exact ⟨by omega, by omega, by omega, by omega⟩
def divG (f : Int → Int → Int) (args : List Value) : Option Value := match args with
  | [.int .i64 s, .int .i64 t] => bif wideK s t then some (.tuple #[.int .i64 (f s t), .int .i64 0]) else none
  | _ => none
theorem divG_ok {f : Int → Int → Int} {args : List Value} {v : Value} (h : divG f args = some v) : ∃ a b, Wide a b ∧ args = [.int .i64 a, .int .i64 b] ∧ v = .tuple #[.int .i64 (f a b), .int .i64 0] := by
  unfold divG at h
  split at h
  case h_2 => cases h
  rename_i a b
  simp only [cond_eq_ite] at h
  split at h
  case isFalse => cases h
  rename_i hw
  cases h
  exact ⟨a, b, wideK_ok hw, rfl, rfl⟩
theorem flatI2 (a b : Int) : ∀ x ∈ [Value.int .i64 a, .int .i64 b], flatB x = true := by
  intro x hx; simp only [List.mem_cons, List.not_mem_nil, or_false] at hx; rcases hx with rfl | rfl <;> rfl
theorem good_261 : Good Tryz.prog 261 (flatW (divG (· / ·))) := good_flat (ent Tryz.func261 rfl (by kernel_rfl)) fun args v h => by
  obtain ⟨a, b, hw, rfl, rfl⟩ := divG_ok h
  exact ⟨flatI2 a b, rfl, fun w => floor_261 a b hw w⟩
theorem good_419 : Good Tryz.prog 419 (flatW (divG ceilI)) := good_flat (ent Tryz.func419 rfl (by kernel_rfl)) fun args v h => by
  obtain ⟨a, b, hw, rfl, rfl⟩ := divG_ok h
  exact ⟨flatI2 a b, rfl, fun w => ceil_419 a b hw w⟩

/-- The words so far. -/
def words0 : List (FuncId × Word) := [(404, flatW turnG), (250, flatW turnG), (357, flatW crossG), (247, flatW plG), (248, flatW cmpG), (261, flatW (divG (· / ·))), (419, flatW (divG ceilI))]
theorem good0 : ∀ x ∈ words0, Good Tryz.prog x.1 x.2 := by
  intro x hx
  simp only [words0, List.mem_cons, List.not_mem_nil, or_false] at hx
  rcases hx with rfl | rfl | rfl | rfl | rfl | rfl | rfl
  · exact good_404
  · exact good_250
  · exact good_357
  · exact good_247
  · exact good_248
  · exact good_261
  · exact good_419
end
end Go.Ev
