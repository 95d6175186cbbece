/- Walks: the reference of layer 15: lines, frame, Valid; of layer 21: Valid. Conditions: what lies behind a chart's slices. Walks: the reference of layer 21: beacon, path. Conditions: what lies behind a chart's slices. Walks: cut.turn, cut.crosses, hull.sides. Conditions: none. What runs found: sense.of at the kinds of observations. Conditions: none. -/
import Derived.Test.YtcgghcicnanliaaGreatDoorProg
import Derived.Test.YtcgghcicnanliaaGreatDoorM14
import Derived.Test.YtcgghcicnanliaaGreatDoorM17
import Derived.Test.YtcgghcicnanliaaGreatDoorM18
import Derived.Test.YtcgghcicnanliaaGreatDoorM16
import Derived.Test.YtcgghcicnanliaaGreatDoorM09
import Derived.Test.YtcgghcicnanliaaGreatDoorM06
import Derived.Test.YtcgghcicnanliaaGreatDoorM15
import Derived.Test.YtcgghcicnanliaaGreatDoorM05
import Derived.KernelRfl
set_option linter.unusedVariables false
set_option linter.unusedSimpArgs false
namespace Go.Proofs.YtcgghcicnanliaaGreatDoor
open Go.RowKit Go.Lib
set_option maxHeartbeats 8000000
set_option maxRecDepth 100000

theorem refLines_104 (A : Option Addr) (c : Nat) (l : List LineT) (w : World) (hS : Sl encLine 2 w A l) (hP : ∀ x ∈ l, Sl encP 2 w x.A x.pts) :
    Calls Tryz.prog 104 #[.slice A l.length c] w fun e w' => e = .returned (.bool (namedOk lineOk LineT.id 50 l)) ∧ Ext w w' := by
  by_cases h100 : l.length ≤ 50
  rotate_left
  · have hz : (50 : Int) < (l.length : Int) := by omega
    have hF : Hid (namedOk lineOk LineT.id 50 l = false) := by
      show _ = _
      unfold namedOk
      rw [decide_eq_false (by omega), Bool.and_false]
    go_enter Tryz.func104, Tryz.ntmps104
    go_wp2
    go_ret
    exact ⟨retb hF.out.symm, xt⟩
  have hz : ¬ (50 : Int) < (l.length : Int) := by omega
  have HP := Lib.hid hP
  clear hP
  go_enter Tryz.func104, Tryz.ntmps104
  go_wp2
  go_loopg [3, 4] l.length (fun gg s3 _ wr => ∃ kk : Nat, kk ≤ l.length ∧ l.length - kk ≤ gg ∧ s3 = .int .i64 kk ∧ Hid (Ext w wr) ∧ Hid (∀ j, j < kk → namedAt lineOk LineT.id l j = true))
  case atStart => exact ⟨0, Nat.zero_le _, by omega, rfl, Ext.refl w, fun j hj => absurd hj (Nat.not_lt_zero _)⟩
  case round =>
    obtain ⟨kk, hkk, hg, rfl, hx, H⟩ := hrel
    have hxw : Ext w wr := hx.out
    by_cases hlt : kk < l.length
    · obtain ⟨b, off, rfl⟩ := hS.addr (by omega)
      have hb := hS.blk (by omega)
      have hbw : b < wr.heap.size := by have := hxw.len; omega
      obtain ⟨y, hy⟩ : ∃ y, l[kk]? = some y := ⟨_, List.getElem?_eq_getElem hlt⟩
      have hat := Lib.hid (namedAt_eq (right := lineOk) (id := LineT.id) hy)
      have K1 := Lib.hid (path_168 y wr ((HP.out y (List.mem_of_getElem? hy)).ext hxw))
      obtain ⟨i1, iA, ic, ipts⟩ := y
      generalize lineOk ⟨i1, iA, ic, ipts⟩ = q1 at K1 hat
      have CC : ∀ W, Ext w W → W.cell? ⟨b, off + kk * 2, none⟩ = some (.int .i64 i1) ∧ W.cell? ⟨b, off + kk * 2 + 1, none⟩ = some (.slice iA ipts.length ic) := fun W hW =>
        ⟨by have := (hS.ext hW).at_ hy (i := 0) rfl; simpa using this, by have := (hS.ext hW).at_ hy (i := 1) rfl; simpa using this⟩
      obtain ⟨c0, c1⟩ := CC wr hxw
      have CH := Lib.hid CC
      simp only [encLine] at K1
      clear CC hy
      have hltz : (kk : Int) < (l.length : Int) := by omega
      cases q1 with
      | true =>
        go_wp2_with (go_at_call 168; refine K1.out.mono ?_; rintro e w1 ⟨rfl, hb1⟩)
        have hE1 : Hid (Ext w w1) := xt
        clear c0 c1
        go_loopg [4] kk (fun gg s4 wr => ∃ m : Nat, m ≤ kk ∧ kk - m ≤ gg ∧ s4 = .int .i64 m ∧ Hid (Ext w wr) ∧ Hid (∀ j z, j < m → l[j]? = some z → decide (z.id = i1) = false))
        case atStart => exact ⟨0, Nat.zero_le _, by omega, rfl, hE1, fun j z hj => absurd hj (Nat.not_lt_zero _)⟩
        case round =>
          obtain ⟨m, hm, hg2, rfl, hx2', H2⟩ := hrel
          have hxq : Ext w wr := hx2'.out
          obtain ⟨d0, d1⟩ := CH.out _ hxq
          have hbq : b < wr.heap.size := by have := hxq.len; omega
          by_cases hmk : m < kk
          · obtain ⟨z, hz'⟩ : ∃ z, l[m]? = some z := ⟨_, List.getElem?_eq_getElem (by omega)⟩
            have Z := Lib.hid hz'
            obtain ⟨z1, z2, z3, z4⟩ := z
            have e0 : wr.cell? ⟨b, off + m * 2, none⟩ = some (.int .i64 z1) := by have := (hS.ext hxq).at_ hz' (i := 0) rfl; simpa using this
            have hmz : (m : Int) < (l.length : Int) := by omega
            have hmkz : (m : Int) < (kk : Int) := by omega
            clear hz'
            by_cases heq : z1 = i1
            · have hF : Hid (namedOk lineOk LineT.id 50 l = false) := by
                show _ = _
                unfold namedOk
                rw [all_range_false hlt (by rw [hat.out, take_any_true hmk Z.out (by simpa using heq)]; rfl)]; rfl
              subst heq
              go_wp2_with fail
              (refine wp_region_ext (by kernel_rfl) (by kernel_rfl) ?_; (repeat (first | go_big_quiet_step (fail) | quiet_step (fail))); refine wpQuiet_nil ?_; rintro _ ⟨xq, rfl⟩; have hx2 := xq.ext; generalize xq.world = w2 at hx2 ⊢)
              go_wp2
              go_ret
              exact ⟨retb hF.out.symm, hxq.trans hx2⟩
            · have heb : (z1 == i1) = false := by simpa using heq
              go_wp2_with fail
              (refine wp_region_ext (by kernel_rfl) (by kernel_rfl) ?_; (repeat (first | go_big_quiet_step (fail) | quiet_step (fail))); refine wpQuiet_nil ?_; rintro _ ⟨xq, rfl⟩; have hx2 := xq.ext; generalize xq.world = w2 at hx2 ⊢)
              go_wp2
              go_roundg (kk - (m + 1))
              case measure => omega
              case rel =>
                refine ⟨m + 1, by omega, by omega, by go_num, hxq.trans hx2, fun j z hj hjz => ?_⟩
                by_cases e : j = m
                · subst e
                  have := Z.out.symm.trans hjz
                  cases this
                  simpa using heq
                · exact H2.out j z (by omega) hjz
          · have hmkz : ¬ (m : Int) < (kk : Int) := by omega
            go_wp2
            go_roundg (l.length - (kk + 1))
            case measure => omega
            case rel =>
              refine ⟨kk + 1, by omega, by omega, by go_num, hxq, fun (j : Nat) (hj : j < kk + 1) => ?_⟩
              by_cases ej : j = kk
              · subst ej
                rw [hat.out, take_any_false (fun j z hj hz => H2.out j z (by omega) hz)]; rfl
              · exact H.out j (by omega)
      | false =>
        have hF : Hid (namedOk lineOk LineT.id 50 l = false) := by
          show _ = _
          unfold namedOk
          rw [all_range_false hlt (by rw [hat.out]; rfl)]; rfl
        go_wp2_with (go_at_call 168; refine K1.out.mono ?_; rintro e w1 ⟨rfl, hb1⟩)
        go_ret
        exact ⟨retb hF.out.symm, xt⟩
    · have hltz : ¬ (kk : Int) < (l.length : Int) := by omega
      have hF : Hid (namedOk lineOk LineT.id 50 l = true) := by
        show _ = _
        unfold namedOk
        rw [all_range_true (n := l.length) (f := namedAt lineOk LineT.id l) (fun j hj => H.out j (by omega)), decide_eq_true (by omega)]; rfl
      go_wp2
      go_ret
      exact ⟨retb hF.out.symm, hx.out⟩

/-- landfallref15.frame. -/
def frameOk (t : ChartT) : Bool := inB t.version 1 1000000 && inB t.w 1 4000 && inB t.h 1 4000 && inB t.size 1 10000 && decide (t.w * t.h = t.cells.length) && decide (t.w * t.h ≤ 4000) && plB (t.x, t.y) && plB (t.x + t.w * t.size - 1, t.y + t.h * t.size - 1)

theorem frame_102 (t : ChartT) (w : World) : Calls Tryz.prog 102 #[.agg t.vals.toArray] w fun e w' => e = .returned (.bool (frameOk t)) ∧ Ext w w' := by
  have K5 := Lib.hid (place_26 (t.x, t.y))
  have K6 := Lib.hid (place_26 (t.x + t.w * t.size - 1, t.y + t.h * t.size - 1))
  by_cases hq : inB t.version 1 1000000 = true ∧ inB t.w 1 4000 = true ∧ inB t.h 1 4000 = true ∧ inB t.size 1 10000 = true
  rotate_left
  · have hF : Hid (frameOk t = false) := by
      show _ = _
      rw [Bool.eq_false_iff]
      intro hh
      apply hq
      simp only [frameOk, Bool.and_eq_true] at hh
      exact ⟨hh.1.1.1.1.1.1.1, hh.1.1.1.1.1.1.2, hh.1.1.1.1.1.2, hh.1.1.1.1.2⟩
    generalize hq1 : inB t.version 1 1000000 = q1 at hq
    generalize hq2 : inB t.w 1 4000 = q2 at hq
    generalize hq3 : inB t.h 1 4000 = q3 at hq
    generalize hq4 : inB t.size 1 10000 = q4 at hq
    have HQ := Lib.hid hq
    clear hq K5 K6
    obtain ⟨version, x, y, tw, th, size, cA, cc, cells, bA, bc, beacons, lA, lc, lines⟩ := t
    simp only [ChartT.vals] at *
    go_enter Tryz.func102, Tryz.ntmps102
    go_wp2_with (first
      | (go_at_call 167; refine (in_167 _ _ _ _).mono ?_; rintro e w' ⟨rfl, rfl⟩; try simp only [hq1, hq2, hq3, hq4])
      | fail)
    all_goals first
      | (go_ret; exact ⟨retb hF.out.symm, xt⟩)
      | (exfalso; apply HQ.out; simp_all; done)
  obtain ⟨e1, e2, e3, e4⟩ := hq
  obtain ⟨d1, d2⟩ : 1 ≤ t.w ∧ t.w ≤ 4000 := by simpa [inB] using e2
  obtain ⟨d3, d4⟩ : 1 ≤ t.h ∧ t.h ≤ 4000 := by simpa [inB] using e3
  obtain ⟨d5, d6⟩ : 1 ≤ t.size ∧ t.size ≤ 10000 := by simpa [inB] using e4
  have hm1 := mul_bd (x := t.w) (y := t.h) (m := 4000) (n := 4000) (by omega) (by omega) (by omega) (by omega)
  have hm2 := mul_bd (x := t.w) (y := t.size) (m := 4000) (n := 10000) (by omega) (by omega) (by omega) (by omega)
  have hm3 := mul_bd (x := t.h) (y := t.size) (m := 4000) (n := 10000) (by omega) (by omega) (by omega) (by omega)
  simp only [Int.reduceMul, Int.reduceNeg] at hm1 hm2 hm3
  have hR : Hid (frameOk t = (decide (t.w * t.h = t.cells.length) && decide (t.w * t.h ≤ 4000) && plB (t.x, t.y) && plB (t.x + t.w * t.size - 1, t.y + t.h * t.size - 1))) := by
    show _ = _
    simp only [frameOk, e1, e2, e3, e4, Bool.true_and]
  have hq1 := e1
  have hq2 := e2
  have hq3 := e3
  have hq4 := e4
  clear e1 e2 e3 e4
  have hb : Hid (plB (t.x, t.y) = true → (-500000 ≤ t.x ∧ t.x ≤ 500000) ∧ -500000 ≤ t.y ∧ t.y ≤ 500000) := fun e => by simpa [plB, inB, and_assoc] using e
  generalize plB (t.x, t.y) = q5 at K5 hR hb
  generalize plB (t.x + t.w * t.size - 1, t.y + t.h * t.size - 1) = q6 at K6 hR
  by_cases hq : (t.w * t.h = t.cells.length ∧ t.w * t.h ≤ 4000) ∧ q5 = true
  rotate_left
  · have hF : Hid (frameOk t = false) := by
      show _ = _
      rw [hR.out, Bool.eq_false_iff]
      intro hh
      apply hq
      simp only [Bool.and_eq_true, decide_eq_true_eq] at hh
      exact ⟨hh.1.1, hh.1.2⟩
    have HQ := Lib.hid hq
    clear hq hR hb K6
    obtain ⟨version, x, y, tw, th, size, cA, cc, cells, bA, bc, beacons, lA, lc, lines⟩ := t
    simp only [ChartT.vals] at *
    go_enter Tryz.func102, Tryz.ntmps102
    go_wp2_with (first
      | (go_at_call 167; refine (in_167 _ _ _ _).mono ?_; rintro e w' ⟨rfl, rfl⟩; try simp only [hq1, hq2, hq3, hq4])
      | (go_at_call 26; refine (K5.out _).mono ?_; rintro e w1 ⟨rfl, hb1⟩))
    all_goals first
      | (go_ret; exact ⟨retb hF.out.symm, xt⟩)
      | (exfalso; apply HQ.out; refine ⟨⟨by simp_all, by omega⟩, by simp_all⟩; done)
  obtain ⟨⟨hwh, hwh4⟩, rfl⟩ := hq
  have hR2 : Hid (frameOk t = q6) := by show _ = _; rw [hR.out, decide_eq_true hwh, decide_eq_true hwh4]; rfl
  obtain ⟨⟨b1, b2⟩, b3, b4⟩ := hb.out rfl
  clear hR hb
  have hne : ((t.w * t.h : Int) != (t.cells.length : Int)) = false := by simp [hwh]
  obtain ⟨version, x, y, tw, th, size, cA, cc, cells, bA, bc, beacons, lA, lc, lines⟩ := t
  simp only [ChartT.vals] at *
  have hwz : ¬ (4000 : Int) < tw * th := by omega
  go_enter Tryz.func102, Tryz.ntmps102
  go_wp2_with (first
    | (go_at_call 167; refine (in_167 _ _ _ _).mono ?_; rintro e w' ⟨rfl, rfl⟩; try simp only [hq1, hq2, hq3, hq4])
    | (go_at_call 26; refine (K5.out _).mono ?_; clear K5; rintro e w1 ⟨rfl, hb1⟩; obtain ⟨hc1, hf1, hz1⟩ := hb1.rules; (try simp only [World.size_alloc] at hz1); (have hzz1 : w.heap.size < w1.heap.size := by omega))
    | (go_at_call 26; refine (K6.out _).mono ?_; rintro e w2 ⟨rfl, hb2⟩))
  all_goals (go_ret; exact ⟨retb hR2.out.symm, xt⟩)

end Go.Proofs.YtcgghcicnanliaaGreatDoor
namespace Go.Proofs.YtcgghcicnanliaaGreatDoor
open Go.RowKit
set_option maxHeartbeats 2000000
set_option maxRecDepth 100000

theorem refBeacon_82 (t : ChartT) (n : Int) (w : World) (hl : t.beacons.length ≤ 1000000) (hS : Sl encBeacon 3 w t.bA t.beacons) :
    Calls Tryz.prog 82 #[.agg t.vals.toArray, .int .i64 n] w fun e w' =>
      e = .returned (.tuple #[.agg #[.int .i64 ((firstId BeaconT.id n t.beacons).getD ⟨0, (0, 0)⟩).at_.1, .int .i64 ((firstId BeaconT.id n t.beacons).getD ⟨0, (0, 0)⟩).at_.2], .bool (firstId BeaconT.id n t.beacons).isSome]) ∧ Ext w w' := by
  obtain ⟨version, x, y, tw, th, size, cA, cc, cells, bA, bc, l, lA, lc, lines⟩ := t
  simp only [ChartT.vals] at *
  obtain ⟨W0, hW0⟩ : ∃ W0, (w.alloc (.cells #[.int .i64 version, .int .i64 x, .int .i64 y, .int .i64 tw, .int .i64 th, .int .i64 size, .slice cA cells.length cc, .slice bA l.length bc, .slice lA lines.length lc] 26)).alloc (.cells #[.int .i64 0, .int .i64 0] 43) = W0 := ⟨_, rfl⟩
  have hsz : W0.heap.size = w.heap.size + 2 := by rw [← hW0]; simp
  have hE0 : Ext w W0 := by rw [← hW0]; exact ((Ext.refl w).alloc _).alloc _
  have hb7 : W0.cell? ⟨w.heap.size, 7, none⟩ = some (.slice bA l.length bc) := by rw [← hW0]; simp
  have hr0 : W0.cell? ⟨w.heap.size + 1, 0, none⟩ = some (.int .i64 0) := by rw [← hW0]; simp
  have hr1 : W0.cell? ⟨w.heap.size + 1, 1, none⟩ = some (.int .i64 0) := by rw [← hW0]; simp
  have hg0 : W0.frozen? ⟨w.heap.size + 1, 0, none⟩ = false := by rw [← hW0]; simp
  have hg1 : W0.frozen? ⟨w.heap.size + 1, 1, none⟩ = false := by rw [← hW0]; simp
  have hrefl : Hid (Ext W0 W0) := Ext.refl _
  go_enter Tryz.func82, Tryz.ntmps82
  go_wp2

  (try rw [hW0])
  clear hW0
  go_loopg [6] l.length (fun gg s6 wr => ∃ kk : Nat, kk ≤ l.length ∧ l.length - kk ≤ gg ∧ s6 = .int .i64 kk ∧ Hid (Ext W0 wr) ∧ Hid (∀ j x, j < kk → l[j]? = some x → decide (x.id = n) = false))
  case atStart => exact ⟨0, Nat.zero_le _, by omega, rfl, hrefl, fun j x hj => absurd hj (Nat.not_lt_zero _)⟩
  case round =>
    obtain ⟨kk, hkk, hg, rfl, hx, H⟩ := hrel
    obtain ⟨hc, hf, hz⟩ := hx.out.rules
    have d7 : wr.cell? ⟨w.heap.size, 7, none⟩ = some (.slice bA l.length bc) := (hc _ _ (by omega)).trans hb7
    have r0 : wr.cell? ⟨w.heap.size + 1, 0, none⟩ = some (.int .i64 0) := (hc _ _ (by omega)).trans hr0
    have r1 : wr.cell? ⟨w.heap.size + 1, 1, none⟩ = some (.int .i64 0) := (hc _ _ (by omega)).trans hr1
    have g0 : wr.frozen? ⟨w.heap.size + 1, 0, none⟩ = false := (hf _ _ (by omega)).trans hg0
    have g1 : wr.frozen? ⟨w.heap.size + 1, 1, none⟩ = false := (hf _ _ (by omega)).trans hg1
    have hxw : Ext w wr := hE0.trans hx.out
    clear hc hf hb7 hr0 hr1 hg0 hg1
    by_cases hlt : kk < l.length
    · obtain ⟨b, off, rfl⟩ := hS.addr (by omega)
      obtain ⟨y, hy⟩ : ∃ y, l[kk]? = some y := ⟨_, List.getElem?_eq_getElem hlt⟩
      have Y := Lib.hid hy
      have hltz : (kk : Int) < (l.length : Int) := by omega
      obtain ⟨i1, ⟨i2, i3⟩⟩ := y
      have c0 : wr.cell? ⟨b, off + kk * 3, none⟩ = some (.int .i64 i1) := by have := (hS.ext hxw).at_ hy (i := 0) rfl; simpa using this
      have c1 : wr.cell? ⟨b, off + kk * 3 + 1, none⟩ = some (.int .i64 i2) := by have := (hS.ext hxw).at_ hy (i := 1) rfl; simpa using this
      have c2 : wr.cell? ⟨b, off + kk * 3 + 2, none⟩ = some (.int .i64 i3) := by have := (hS.ext hxw).at_ hy (i := 2) rfl; simpa using this
      clear hy
      by_cases hq : i1 = n
      · subst hq
        have hfin : Hid (firstId BeaconT.id i1 l = some ⟨i1, (i2, i3)⟩) := firstId_at H.out Y.out rfl
        go_wp2
        ((try simp only [Exit.inBlock, Exit.then]); refine bodyPost_ret (by first | (simp [results, Tryz.f82, go_sem]; rfl) | (simp [results, Tryz.f82, go_sem]; done) | (simp [results, Tryz.f82, go_sem, *]; rfl) | (simp [results, Tryz.f82, go_sem, *]; done)) rfl ?_)
        exact ⟨by rw [hfin.out]; rfl, xt⟩
      · have hqb : (i1 == n) = false := by simpa using hq
        go_wp2
        go_roundg (l.length - (kk + 1))
        case measure => omega
        case rel =>
          refine ⟨kk + 1, by omega, by omega, by go_num, hx.out, fun j x hj hjx => ?_⟩
          by_cases e : j = kk
          · subst e
            have := Y.out.symm.trans hjx
            cases this
            simpa using hq
          · exact H.out j x (by omega) hjx
    · have hltz : ¬ (kk : Int) < (l.length : Int) := by omega
      have hfin : Hid (firstId BeaconT.id n l = none) := firstId_none H.out (by omega)
      go_wp2
      ((try simp only [Exit.inBlock, Exit.then]); refine bodyPost_ret (by first | (simp [results, Tryz.f82, go_sem]; rfl) | (simp [results, Tryz.f82, go_sem]; done) | (simp [results, Tryz.f82, go_sem, *]; rfl) | (simp [results, Tryz.f82, go_sem, *]; done)) rfl ?_)
      exact ⟨by rw [hfin.out]; rfl, xt⟩

theorem refPath_83 (t : ChartT) (n : Int) (w : World) (hl : t.lines.length ≤ 1000000) (hS : Sl encLine 2 w t.lA t.lines) :
    Calls Tryz.prog 83 #[.agg t.vals.toArray, .int .i64 n] w fun e w' =>
      e = .returned (.tuple #[.agg (encLine ((firstId LineT.id n t.lines).getD ⟨0, none, 0, []⟩)).toArray, .bool (firstId LineT.id n t.lines).isSome]) ∧ Ext w w' := by
  obtain ⟨version, x, y, tw, th, size, cA, cc, cells, bA, bc, beacons, lA, lc, l⟩ := t
  simp only [ChartT.vals] at *
  obtain ⟨W0, hW0⟩ : ∃ W0, (w.alloc (.cells #[.int .i64 version, .int .i64 x, .int .i64 y, .int .i64 tw, .int .i64 th, .int .i64 size, .slice cA cells.length cc, .slice bA beacons.length bc, .slice lA l.length lc] 26)).alloc (.cells #[.int .i64 0, .slice none 0 0] 93) = W0 := ⟨_, rfl⟩
  have hsz : W0.heap.size = w.heap.size + 2 := by rw [← hW0]; simp
  have hE0 : Ext w W0 := by rw [← hW0]; exact ((Ext.refl w).alloc _).alloc _
  have hb7 : W0.cell? ⟨w.heap.size, 8, none⟩ = some (.slice lA l.length lc) := by rw [← hW0]; simp
  have hr0 : W0.cell? ⟨w.heap.size + 1, 0, none⟩ = some (.int .i64 0) := by rw [← hW0]; simp
  have hr1 : W0.cell? ⟨w.heap.size + 1, 1, none⟩ = some (.slice none 0 0) := by rw [← hW0]; simp
  have hg0 : W0.frozen? ⟨w.heap.size + 1, 0, none⟩ = false := by rw [← hW0]; simp
  have hg1 : W0.frozen? ⟨w.heap.size + 1, 1, none⟩ = false := by rw [← hW0]; simp
  have hrefl : Hid (Ext W0 W0) := Ext.refl _
  go_enter Tryz.func83, Tryz.ntmps83
  go_wp2
  (try rw [hW0])
  clear hW0
  go_loopg [6] l.length (fun gg s6 wr => ∃ kk : Nat, kk ≤ l.length ∧ l.length - kk ≤ gg ∧ s6 = .int .i64 kk ∧ Hid (Ext W0 wr) ∧ Hid (∀ j x, j < kk → l[j]? = some x → decide (x.id = n) = false))
  case atStart => exact ⟨0, Nat.zero_le _, by omega, rfl, hrefl, fun j x hj => absurd hj (Nat.not_lt_zero _)⟩
  case round =>
    obtain ⟨kk, hkk, hg, rfl, hx, H⟩ := hrel
    obtain ⟨hc, hf, hz⟩ := hx.out.rules
    have d7 : wr.cell? ⟨w.heap.size, 8, none⟩ = some (.slice lA l.length lc) := (hc _ _ (by omega)).trans hb7
    have r0 : wr.cell? ⟨w.heap.size + 1, 0, none⟩ = some (.int .i64 0) := (hc _ _ (by omega)).trans hr0
    have r1 : wr.cell? ⟨w.heap.size + 1, 1, none⟩ = some (.slice none 0 0) := (hc _ _ (by omega)).trans hr1
    have g0 : wr.frozen? ⟨w.heap.size + 1, 0, none⟩ = false := (hf _ _ (by omega)).trans hg0
    have g1 : wr.frozen? ⟨w.heap.size + 1, 1, none⟩ = false := (hf _ _ (by omega)).trans hg1
    have hxw : Ext w wr := hE0.trans hx.out
    clear hc hf hb7 hr0 hr1 hg0 hg1
    by_cases hlt : kk < l.length
    · obtain ⟨b, off, rfl⟩ := hS.addr (by omega)
      obtain ⟨y, hy⟩ : ∃ y, l[kk]? = some y := ⟨_, List.getElem?_eq_getElem hlt⟩
      have Y := Lib.hid hy
      have hltz : (kk : Int) < (l.length : Int) := by omega
      obtain ⟨i1, i2, i3, i4⟩ := y
      have c0 : wr.cell? ⟨b, off + kk * 2, none⟩ = some (.int .i64 i1) := by have := (hS.ext hxw).at_ hy (i := 0) rfl; simpa using this
      have c1 : wr.cell? ⟨b, off + kk * 2 + 1, none⟩ = some (.slice i2 i4.length i3) := by have := (hS.ext hxw).at_ hy (i := 1) rfl; simpa using this
      clear hy
      by_cases hq : i1 = n
      · subst hq
        have hfin : Hid (firstId LineT.id i1 l = some ⟨i1, i2, i3, i4⟩) := firstId_at H.out Y.out rfl
        go_wp2
        ((try simp only [Exit.inBlock, Exit.then]); refine bodyPost_ret (by first | (simp [results, Tryz.f83, go_sem]; rfl) | (simp [results, Tryz.f83, go_sem]; done) | (simp [results, Tryz.f83, go_sem, *]; rfl) | (simp [results, Tryz.f83, go_sem, *]; done)) rfl ?_)
        exact ⟨by rw [hfin.out]; rfl, xt⟩
      · have hqb : (i1 == n) = false := by simpa using hq
        go_wp2
        go_roundg (l.length - (kk + 1))
        case measure => omega
        case rel =>
          refine ⟨kk + 1, by omega, by omega, by go_num, hx.out, fun j x hj hjx => ?_⟩
          by_cases e : j = kk
          · subst e
            have := Y.out.symm.trans hjx
            cases this
            simpa using hq
          · exact H.out j x (by omega) hjx
    · have hltz : ¬ (kk : Int) < (l.length : Int) := by omega
      have hfin : Hid (firstId LineT.id n l = none) := firstId_none H.out (by omega)
      go_wp2
      ((try simp only [Exit.inBlock, Exit.then]); refine bodyPost_ret (by first | (simp [results, Tryz.f83, go_sem]; rfl) | (simp [results, Tryz.f83, go_sem]; done) | (simp [results, Tryz.f83, go_sem, *]; rfl) | (simp [results, Tryz.f83, go_sem, *]; done)) rfl ?_)
      exact ⟨by rw [hfin.out]; rfl, xt⟩

end Go.Proofs.YtcgghcicnanliaaGreatDoor
namespace Go.Proofs.YtcgghcicnanliaaGreatDoor
open Go.RowKit
set_option maxHeartbeats 4000000
set_option maxRecDepth 100000
attribute [local go_sem] Oper.semAt_some

/-- Side number i of a polygon. -/
def ptAt (l : List Pt) (i : Nat) : Pt := l[i]?.getD (0, 0)
def sideG (l : List Pt) (i : Nat) : Pt × Pt := (ptAt l i, ptAt l ((i + 1) % l.length))
def sideE (x : Pt × Pt) : Array Value := #[.agg #[.int .i64 x.1.1, .int .i64 x.1.2], .agg #[.int .i64 x.2.1, .int .i64 x.2.2]]
theorem ptAt_eq {l : List Pt} {i : Nat} {x : Pt} (h : l[i]? = some x) : ptAt l i = x := by simp [ptAt, h]

theorem hullSides_249 (A : Option Addr) (n c : Nat) (w : World) :
    Calls Tryz.prog 249 #[.slice A n c] w fun e w' => e = .returned (.func (.func 327) #[] #[.pointer (some ⟨w.heap.size, 0, none⟩)]) ∧ w' = w.alloc (.cells #[.slice A n c] 76) := by
  go_enter Tryz.func249, Tryz.ntmps249
  go_wp2
  go_ret
  exact ⟨rfl, rfl⟩
theorem cutSides_359 (A : Option Addr) (n c : Nat) (w : World) :
    Calls Tryz.prog 359 #[.slice A n c] w fun e w' => e = .returned (.func (.func 399) #[] #[.pointer (some ⟨w.heap.size, 0, none⟩)]) ∧ w' = w.alloc (.cells #[.slice A n c] 76) := by
  go_enter Tryz.func359, Tryz.ntmps359
  go_wp2
  go_ret
  exact ⟨rfl, rfl⟩

/-- The rounds of hull.sides. -/
theorem sides1_327 (n l0 Bs n₀ m b off c : Nat) (ps : List Pt) (hreach : ps.length ≤ 1000000) (hn : 1 ≤ n) (hb : b < n₀) (hmB : m ≤ Bs) (J Jx : List (Pt × Pt) → World → Prop)
    (hY : ∀ pre x W, J pre W → pre.length < ps.length → YieldAt Fence.wide (n - 1) Tryz.prog l0 (sideE x) W fun e W' =>
      (e = .returned (.bool true) ∧ J (pre ++ [x]) W' ∧ Kp2 n₀ m W W') ∨ (e = .returned (.bool false) ∧ Jx (pre ++ [x]) W'))
    (W : World) (hJa : AbidesFrom W.heap.size J) (hn₀ : n₀ ≤ W.heap.size) (hBs : W.heap[Bs]? = some (.cells #[.slice (some ⟨b, off, none⟩) ps.length c] 76)) (hc : Sl encP 2 W (some ⟨b, off, none⟩) ps) (h0 : J [] W) :
    CallsIn Fence.wide n Tryz.prog 327 #[.func (.yield l0) #[] #[], .pointer (some ⟨Bs, 0, none⟩)] W fun e W' => (∃ v, e = .returned v) ∧
      ((∃ ys, ys = upto (sideG ps) ps.length ∧ J ys W') ∨ (∃ pre, (∃ k, k ≤ ps.length ∧ pre = upto (sideG ps) k) ∧ Jx pre W')) := by
  have hBW : Bs < W.heap.size := (Array.getElem?_eq_some_iff.1 hBs).1
  have cB0 := Kp2.c0 (Kp2.refl n₀ m W) hmB hBs (i := 0) rfl
  have CB := Lib.hid (fun wr (h : Kp2 n₀ m W wr) => h.c0 hmB hBs (i := 0) rfl)
  refine callsIn_of_wp Tryz.func327 rfl trivial ?_ rfl
  simp only [Tryz.ntmps327, List.size_toArray, List.length_cons, List.length_nil, Nat.reduceAdd, Nat.reduceSub, Array.replicate_succ, Array.replicate_zero, List.push_toArray, List.append_toArray, List.nil_append, List.cons_append]
  gi_wp2
  clear hBs cB0
  gi_loopw [3, 4, 7] (fun _ _ s7 wr => ∃ k : Nat, k ≤ ps.length ∧ s7 = .int .i64 k ∧ J (upto (sideG ps) k) wr ∧ Kp2 n₀ m W wr ∧ W.heap.size ≤ wr.heap.size)
    (fun _ _ s7 _ => ps.length - (intOf s7).toNat)
  case atStart => exact ⟨0, Nat.zero_le _, rfl, h0, Kp2.refl _ _ _, Nat.le_refl _⟩
  case round =>
    obtain ⟨k, hk, rfl, hJs, hnx, hszr⟩ := hrel
    by_cases hlt : k < ps.length
    · obtain ⟨⟨x1, x2⟩, hx⟩ : ∃ y, ps[k]? = some y := ⟨_, List.getElem?_eq_getElem hlt⟩
      obtain ⟨j, hjd⟩ : ∃ j, (k + 1) % ps.length = j := ⟨_, rfl⟩
      have hjl : j < ps.length := by rw [← hjd]; exact Nat.mod_lt _ (by omega)
      obtain ⟨⟨y1, y2⟩, hy⟩ : ∃ y, ps[j]? = some y := ⟨_, List.getElem?_eq_getElem hjl⟩
      have hG : sideG ps k = ((x1, x2), (y1, y2)) := by rw [sideG, hjd, ptAt_eq hx, ptAt_eq hy]
      have hbW : b < W.heap.size := by omega
      have e0 : wr.cell? ⟨b, off + k * 2, none⟩ = some (.int .i64 x1) := by have := hc.at_ hx (i := 0) rfl; rw [hnx.1.cell (p := ⟨b, _, none⟩) hb]; simpa using this
      have e1 : wr.cell? ⟨b, off + k * 2 + 1, none⟩ = some (.int .i64 x2) := by have := hc.at_ hx (i := 1) rfl; rw [hnx.1.cell (p := ⟨b, _, none⟩) hb]; simpa using this
      have g0 : wr.cell? ⟨b, off + j * 2, none⟩ = some (.int .i64 y1) := by have := hc.at_ hy (i := 0) rfl; rw [hnx.1.cell (p := ⟨b, _, none⟩) hb]; simpa using this
      have g1 : wr.cell? ⟨b, off + j * 2 + 1, none⟩ = some (.int .i64 y2) := by have := hc.at_ hy (i := 1) rfl; rw [hnx.1.cell (p := ⟨b, _, none⟩) hb]; simpa using this
      have cB := CB.out wr hnx
      have hltz : (k : Int) < (ps.length : Int) := by omega
      have hbr : b < wr.heap.size := by omega
      have hBr : Bs < wr.heap.size := by omega
      gi_wp2
      refine wpIn_region_tail 10 (by kernel_rfl) (by kernel_rfl) ?_
      intro W2 hx2
      simp only [List.take_succ_cons, List.take_zero, List.drop_succ_cons, List.drop_zero]
      obtain ⟨hc2, hf2, hz2⟩ := hx2.rules
      simp only [World.size_alloc] at hz2
      have hE2 : Ext wr W2 := ((Ext.refl wr).alloc _).trans hx2
      have f0 : W2.cell? ⟨wr.heap.size, 0, none⟩ = some (.int .i64 x1) := by rw [hc2 _ _ (by simp)]; simp
      have f1 : W2.cell? ⟨wr.heap.size, 1, none⟩ = some (.int .i64 x2) := by rw [hc2 _ _ (by simp)]; simp
      have g0' := (hE2.rules.1 b (off + j * 2) hbr).trans g0
      have g1' := (hE2.rules.1 b (off + j * 2 + 1) hbr).trans g1
      have cB' := (hE2.rules.1 Bs 0 hBr).trans cB
      have hJ2 := hJa (upto (sideG ps) k) wr W2 none hJs hE2.gb (fun r e => by cases e)
      obtain ⟨fn, tmps, assign, body, hyy, hR⟩ := hY _ (sideG ps k) _ hJ2 (by rw [upto_length]; exact hlt)
      simp only [sideE, hG] at hyy
      have wk : IntKind.i64.wrap ((k : Int) + 1) = (k : Int) + 1 := wrap_small (by omega) (by omega)
      have tk : Int.tmod ((k : Int) + 1) (ps.length : Int) = (j : Int) := by rw [Int.tmod_eq_emod_of_nonneg (by omega), ← hjd]; norm_cast
      have hnil : ¬ (ps = []) := by rintro rfl; simp at hlt
      have hjz : (j : Int) < (ps.length : Int) := by omega
      clear hjd
      iterate 10 still_step
      refine wpStill_nil ?_
      gi_wp2
      refine hR.mono ?_
      rintro e W3 (⟨rfl, hJ3, hk3⟩ | ⟨rfl, hJx3⟩)
      · have hs3 := hk3.1.size
        gi_wp2
        go_roundw
        case rel => exact ⟨k + 1, by omega, by simp, by rw [upto_succ]; exact hJ3, (hnx.ext (by omega) hE2).t hk3, by omega⟩
        case measure => simp [intOf]; omega
      · gi_wp2
        refine bodyPost_ret (results_none rfl _ _ _) rfl ?_
        exact ⟨⟨_, rfl⟩, .inr ⟨_, ⟨k + 1, by omega, (upto_succ _ _).symm⟩, hJx3⟩⟩
    · obtain rfl : k = ps.length := by omega
      gi_wp2
      go_end0
      exact ⟨⟨_, rfl⟩, .inl ⟨_, rfl, hJs⟩⟩

end Go.Proofs.YtcgghcicnanliaaGreatDoor
namespace Go.Ev
open Go.Proofs Go.Proofs.YtcgghcicnanliaaGreatDoor
set_option maxRecDepth 100000

/-- A closed call whose result is a pair of a flat value and a word. -/
theorem closed_pair {P : Program} {T : Tab} (hT : TabOk T P) (hO : OrcOk T P) {n : Nat} {f : FuncId} {args : List Value} {c : List Value} {v : Value} {h' : Hp} (ha : args.all leafB = true) (hc : c.all leafB = true) (hv : leafB v = true)
    (he : ev T P n (.call f args h0) = some (.val (.tuple #[.agg c.toArray, v]) h')) (w : World) :
    Calls P f args.toArray w fun e w' => e = .returned (.tuple #[.agg c.toArray, v]) ∧ RowKit.Below w.heap.size w w' := by
  intro cs
  obtain ⟨ι', v', w', fr, s1, s2, s3, s4, s5, s6⟩ := (ev_ok hT hO n).call f args h0 _ h' he (fun _ => none) w args.toArray (M.start w) (by simpa using LR.leaves ha) cs
  obtain ⟨a', rfl, hl⟩ := s4.inv_tuple
  obtain ⟨x, m, hx, hxv, hm⟩ := hl.inv_cons
  obtain ⟨y, m', hy, hyv, hm'⟩ := hm.inv_cons
  obtain rfl := hm'.inv_nil
  subst hy
  have e1 := flat_eq (v := .agg c.toArray) (by simpa [flatB] using hc) hxv
  have e2 := flat_eq (v := v) (by cases v <;> simp_all [flatB, leafB]) hyv
  subst e1; subst e2
  obtain rfl : a' = #[.agg c.toArray, y] := Array.ext' hx
  exact ⟨.returned _, w', fr, ⟨rfl, s6.os, s6.tape, s6.output, s6.size, fun b hb => s6.fr b hb fun k l _ hk => (by rw [show h0.tr = .leaf from rfl, Tr.get_leaf] at hk; cases hk)⟩, s1, s2, s3⟩

noncomputable def of74B (k : Int) (c : List Int) : Bool := match evF (tabOf Tryz.prog (fun _ => none)) Tryz.prog 100000 (.call 74 [.int .i64 k] h0) with
  | some (.val v h) => same3 v (.tuple #[.agg (c.map (Value.int .i64)).toArray, .bool true])
  | _ => false
theorem of74_ok {k : Int} {c : List Int} (hb : of74B k c = true) (w : World) : Calls Tryz.prog 74 #[.int .i64 k] w fun e w' => e = .returned (.tuple #[.agg (c.map (Value.int .i64)).toArray, .bool true]) ∧ Ext w w' := by
  unfold of74B at hb
  split at hb
  case h_2 => cases hb
  rename_i v h hev
  rw [same3_eq hb, evF_eq, evK_eq] at hev
  exact closed_pair (tabOf_ok (by kernel_rfl)) noOrc rfl (by rw [List.all_eq_true]; intro x hx; obtain ⟨y, _, rfl⟩ := List.mem_map.1 hx; rfl) rfl hev w
end Go.Ev
namespace Go.Proofs.YtcgghcicnanliaaGreatDoor
open Go.RowKit Go.Ev
set_option maxRecDepth 100000
def LimT.ints (m : LimT) : List Int := [m.l0, m.h0, m.l1, m.h1, m.l2, m.h2, m.l3, m.h3, m.l4, m.h4, m.l5, m.h5, m.l6, m.h6, m.l7, m.h7, m.l8, m.h8]
theorem of_74 (k : Int) (hk : 2 ≤ k ∧ k ≤ 7) (w : World) : Calls Tryz.prog 74 #[.int .i64 k] w fun e w' => e = .returned (.tuple #[.agg (limOf k).vals.toArray, .bool true]) ∧ Ext w w' := by
  have D : k = 2 ∨ k = 3 ∨ k = 4 ∨ k = 5 ∨ k = 6 ∨ k = 7 := by omega
  rcases D with rfl | rfl | rfl | rfl | rfl | rfl
  · exact of74_ok (c := (limOf 2).ints) (by kernel_rfl) w
  · exact of74_ok (c := (limOf 3).ints) (by kernel_rfl) w
  · exact of74_ok (c := (limOf 4).ints) (by kernel_rfl) w
  · exact of74_ok (c := (limOf 5).ints) (by kernel_rfl) w
  · exact of74_ok (c := (limOf 6).ints) (by kernel_rfl) w
  · exact of74_ok (c := (limOf 7).ints) (by kernel_rfl) w
end Go.Proofs.YtcgghcicnanliaaGreatDoor
