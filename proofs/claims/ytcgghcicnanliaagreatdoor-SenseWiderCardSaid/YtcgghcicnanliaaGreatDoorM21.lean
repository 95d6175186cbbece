/- Walks: the references: Valid of a chart, of an environment; Means; Few; what is said of no region. Conditions: what lies behind an environment's slices. Walks: the references: Few, Means; the law's few and usable. Conditions: what lies behind an environment's slices. Walks: sense.look at observations. Conditions: an environment that is right, an observation that means something. -/
import Derived.Test.YtcgghcicnanliaaGreatDoorProg
import Derived.Test.YtcgghcicnanliaaGreatDoorM19
import Derived.Test.YtcgghcicnanliaaGreatDoorM20
import Derived.Test.YtcgghcicnanliaaGreatDoorM05
import Derived.KernelRfl
import Derived.Test.YtcgghcicnanliaaGreatDoorM06
import Derived.Laws.Rows
import Derived.Test.YtcgghcicnanliaaGreatDoorM17
import Derived.Deep.MidRow
set_option linter.unusedVariables false
set_option linter.unusedSimpArgs false
namespace Go.Proofs.YtcgghcicnanliaaGreatDoor
open Go.RowKit
set_option maxHeartbeats 4000000
set_option maxRecDepth 100000

theorem chart_eq (t : ChartT) : chartOk t = (frameOk t && namedOk beaconOk BeaconT.id 100 t.beacons && namedOk lineOk LineT.id 50 t.lines && !(t.cells.any fun c => !cellOk c.lo c.hi c.date)) := by
  rw [Bool.eq_iff_iff]
  simp only [chartOk, chartDims, frameOk, inB, Bool.and_eq_true, decide_eq_true_eq]
  constructor
  · rintro ⟨⟨⟨⟨⟨h1, h2⟩, h3⟩, h4⟩, h5⟩, h6⟩
    exact ⟨⟨⟨⟨⟨by omega, h2⟩, h3⟩, h5⟩, h6⟩, h4⟩
  · rintro ⟨⟨⟨⟨⟨h1, h2⟩, h3⟩, h5⟩, h6⟩, h4⟩
    exact ⟨⟨⟨⟨⟨by omega, h2⟩, h3⟩, h4⟩, h5⟩, h6⟩

theorem refChart_45 (t : ChartT) (w : World) (H : t.Lies w) : Calls Tryz.prog 45 #[.agg t.vals.toArray] w fun e w' => e = .returned (.bool (chartOk t)) ∧ Ext w w' := by
  have K1 := Lib.hid (frame_102 t)
  have K2 := Lib.hid (fun W (hx : Ext w W) => refBeacons_103 t.bA t.bc t.beacons W (H.beacons.ext hx))
  have K3 := Lib.hid (fun W (hx : Ext w W) => refLines_104 t.lA t.lc t.lines W (H.lines.ext hx) (fun x hx' => (H.pts x hx').ext hx))
  have hS := H.cells
  have hn := H.nc
  have hR : Hid (chartOk t = (frameOk t && namedOk beaconOk BeaconT.id 100 t.beacons && namedOk lineOk LineT.id 50 t.lines && !(t.cells.any fun c => !cellOk c.lo c.hi c.date))) := chart_eq t
  generalize chartOk t = qq at hR ⊢
  generalize frameOk t = q1 at K1 hR
  generalize namedOk beaconOk BeaconT.id 100 t.beacons = q2 at K2 hR
  generalize namedOk lineOk LineT.id 50 t.lines = q3 at K3 hR
  clear H
  obtain ⟨version, x, y, tw, th, size, cA, cc, l, bA, bc, beacons, lA, lc, lines⟩ := t
  simp only [ChartT.vals] at *
  by_cases hq : q1 = true ∧ q2 = true ∧ q3 = true
  rotate_left
  · have hF : Hid (qq = false) := by
      show _ = _
      rw [hR.out]
      cases q1 <;> cases q2 <;> cases q3 <;> simp at hq ⊢
    cases q1 <;> cases q2 <;> cases q3 <;> first | (simp at hq; done) | skip
    all_goals
      clear hq
      go_enter Tryz.func45, Tryz.ntmps45
      go_wp2_with (first
        | (go_at_call 102; refine (K1.out _).mono ?_; rintro e w1 ⟨rfl, hb1⟩; obtain ⟨hc1, hf1, hz1⟩ := hb1.rules; (try simp only [World.size_alloc] at hz1); (have hzz1 : w.heap.size < w1.heap.size := by omega))
        | (go_at_call 103; refine (K2.out _ xt).mono ?_; rintro e w2 ⟨rfl, hb2⟩; obtain ⟨hc2, hf2, hz2⟩ := hb2.rules; (have hzz2 : w.heap.size < w2.heap.size := by omega))
        | (go_at_call 104; refine (K3.out _ xt).mono ?_; rintro e w3 ⟨rfl, hb3⟩))
      go_ret
      exact ⟨retb hF.out.symm, xt⟩
  obtain ⟨rfl, rfl, rfl⟩ := hq
  have hR2 : Hid (qq = !(l.any fun c => !cellOk c.lo c.hi c.date)) := by show _ = _; rw [hR.out]; simp
  clear hR
  go_enter Tryz.func45, Tryz.ntmps45
  go_wp2_with (first
    | (go_at_call 102; refine (K1.out _).mono ?_; rintro e w1 ⟨rfl, hb1⟩; obtain ⟨hc1, hf1, hz1⟩ := hb1.rules; (try simp only [World.size_alloc] at hz1); (have hzz1 : w.heap.size < w1.heap.size := by omega))
    | (go_at_call 103; refine (K2.out _ xt).mono ?_; rintro e w2 ⟨rfl, hb2⟩; obtain ⟨hc2, hf2, hz2⟩ := hb2.rules; (have hzz2 : w.heap.size < w2.heap.size := by omega))
    | (go_at_call 104; refine (K3.out _ xt).mono ?_; rintro e w3 ⟨rfl, hb3⟩; obtain ⟨hc3, hf3, hz3⟩ := hb3.rules; (have hzz3 : w.heap.size < w3.heap.size := by omega)))
  have hE3 : Ext w w3 := xt
  have h6 : w3.cell? ⟨w.heap.size, 6, none⟩ = some (.slice cA l.length cc) := by simp [hc3, hc2, hc1, hzz1, hzz2, hzz3]
  clear hb1 hb2 hb3 hc1 hc2 hc3 hf1 hf2 hf3 K1 K2 K3 hz1 hz2 hz3 hzz1 hzz2
  go_loopg [3] l.length (fun gg s3 wr => ∃ kk : Nat, kk ≤ l.length ∧ l.length - kk ≤ gg ∧ s3 = .int .i64 kk ∧ Hid (Ext w3 wr) ∧ Hid (∀ j x, j < kk → l[j]? = some x → cellOk x.lo x.hi x.date = true))
  case atStart => exact ⟨0, Nat.zero_le _, by omega, rfl, Ext.refl w3, fun j x hj => absurd hj (Nat.not_lt_zero _)⟩
  case round =>
    obtain ⟨kk, hkk, hg, rfl, hx, HH⟩ := hrel
    have hxw : Ext w wr := hE3.trans hx.out
    have d6 := hx.out.seen hzz3 h6
    have hzr : w.heap.size < wr.heap.size := by have := hx.out.len; omega
    by_cases hlt : kk < l.length
    · obtain ⟨b, off, rfl⟩ := hS.addr (by show 0 < l.length; omega)
      obtain ⟨y', hy⟩ : ∃ y, l[kk]? = some y := ⟨_, List.getElem?_eq_getElem hlt⟩
      have Y := Lib.hid hy
      have K := Lib.hid (refCell_105 y'.lo y'.hi y'.date y'.void)
      have hltz : (kk : Int) < (l.length : Int) := by omega
      generalize hqq : cellOk y'.lo y'.hi y'.date = q at K
      have Q := Lib.hid hqq
      clear hqq
      obtain ⟨y1, y2, y3, y4⟩ := y'
      simp only at K
      have c0 : wr.cell? ⟨b, off + kk * 4, none⟩ = some (.int .i64 y1) := by have := (hS.ext hxw).at_ hy (i := 0) rfl; simpa using this
      have c1 : wr.cell? ⟨b, off + kk * 4 + 1, none⟩ = some (.int .i64 y2) := by have := (hS.ext hxw).at_ hy (i := 1) rfl; simpa using this
      have c2 : wr.cell? ⟨b, off + kk * 4 + 2, none⟩ = some (.int .i64 y3) := by have := (hS.ext hxw).at_ hy (i := 2) rfl; simpa using this
      have c3 : wr.cell? ⟨b, off + kk * 4 + 3, none⟩ = some (.bool y4) := by have := (hS.ext hxw).at_ hy (i := 3) rfl; simpa using this
      clear hy
      cases q with
      | false =>
        have hF : Hid (qq = false) := by
          show _ = _
          rw [hR2.out, Bool.not_eq_false', List.any_eq_true]
          exact ⟨_, List.mem_of_getElem? Y.out, by rw [Q.out]; rfl⟩
        go_wp2_with (go_at_call 105; refine (K.out _).mono ?_; rintro e w1 ⟨rfl, hb1⟩)
        go_ret
        exact ⟨retb hF.out.symm, xt⟩
      | true =>
        go_wp2_with (go_at_call 105; refine (K.out _).mono ?_; rintro e w1 ⟨rfl, hb1⟩)
        go_roundg (l.length - (kk + 1))
        case measure => omega
        case rel =>
          refine ⟨kk + 1, by omega, by omega, by go_num, hx.out.trans hb1, fun j x hj hjx => ?_⟩
          by_cases e : j = kk
          · subst e
            have := Y.out.symm.trans hjx
            cases this
            exact Q.out
          · exact HH.out j x (by omega) hjx
    · have hltz : ¬ (kk : Int) < (l.length : Int) := by omega
      have hF : Hid (qq = true) := by
        show _ = _
        rw [hR2.out, Bool.not_eq_true', List.any_eq_false]
        intro x hx'
        obtain ⟨j, hj, e⟩ := List.getElem_of_mem hx'
        rw [HH.out j x (by omega) (by rw [List.getElem?_eq_getElem hj, e])]; simp
      go_wp2
      go_ret
      exact ⟨retb hF.out.symm, hxw⟩

theorem refValid_15 (e : EnvT) (w : World) (H : e.Lies w) : Calls Tryz.prog 15 #[.agg e.vals.toArray] w fun r w' => r = .returned (.bool (envOk e)) ∧ Ext w w' := by
  have K1 := Lib.hid (fun W (hx : Ext w W) => refChart_45 e.chart W (H.chart.ext hx))
  have K2 := Lib.hid (fun W (hx : Ext w W) => refTide_46 e.tide W (H.tide.ext hx))
  have K3 := Lib.hid (fun W (hx : Ext w W) => refRows_47 e.rA e.rc e.rows W (H.rows.ext hx))
  have K4 := Lib.hid (fun W (hx : Ext w W) => refWaters_48 e.wA e.wc e.waters W (H.waters.ext hx))
  have hdef : envOk e = (chartOk e.chart && tideOk e.tide && rowsOk e.rows && soundOk e.waters) := rfl
  rw [hdef]
  generalize chartOk e.chart = q1 at K1 ⊢
  generalize tideOk e.tide = q2 at K2 ⊢
  generalize rowsOk e.rows = q3 at K3 ⊢
  generalize soundOk e.waters = q4 at K4 ⊢
  clear H hdef
  obtain ⟨⟨version, x, y, tw, th, size, cA, cc, cells, bA, bc, beacons, lA, lc, lines⟩, ⟨tv, start, slots, ⟨r1, r2, r3, r4, r5, r6, r7, r8, r9⟩, fA, fc, flows⟩, rA, rc, rows, wA, wc, waters⟩ := e
  simp only [EnvT.vals, ChartT.vals, TideT.vals, FlowT.vals, List.cons_append, List.nil_append] at *
  cases q1 <;> cases q2 <;> cases q3
  all_goals
    go_enter Tryz.func15, Tryz.ntmps15
    go_wp2_with (first
      | (go_at_call 45; refine (K1.out _ xt).mono ?_; rintro e w1 ⟨rfl, hb1⟩; obtain ⟨hc1, hf1, hz1⟩ := hb1.rules; (try simp only [World.size_alloc] at hz1); (have hzz1 : w.heap.size < w1.heap.size := by omega))
      | (go_at_call 46; refine (K2.out _ xt).mono ?_; rintro e w2 ⟨rfl, hb2⟩; obtain ⟨hc2, hf2, hz2⟩ := hb2.rules; (have hzz2 : w.heap.size < w2.heap.size := by omega))
      | (go_at_call 47; refine (K3.out _ xt).mono ?_; rintro e w3 ⟨rfl, hb3⟩; obtain ⟨hc3, hf3, hz3⟩ := hb3.rules; (have hzz3 : w.heap.size < w3.heap.size := by omega))
      | (go_at_call 48; refine (K4.out _ xt).mono ?_; rintro e w4 ⟨rfl, hb4⟩))
    go_ret
    exact ⟨retb (by simp), xt⟩

/-- A closed call that is true. -/
theorem closedExt {f : FuncId} {args : List Value} (ha : args.all Go.Ev.leafB = true) (he : Go.Ev.isTrue (Go.Ev.evF (Go.Ev.tabOf Tryz.prog (fun _ => none)) Tryz.prog 100000 (.call f args Go.Ev.h0)) = true) (w : World) :
    Calls Tryz.prog f args.toArray w fun e w' => e = .returned (.bool true) ∧ Ext w w' :=
  (Go.Ev.closed_true (by kernel_rfl) Go.Ev.noOrc ha (by rw [← Go.Ev.evK_eq, ← Go.Ev.evF_eq]; exact he) w).mono fun e w' ⟨h1, h2, h3, h4, h5, h6⟩ => ⟨h1, ⟨h4, h5, h6, h2, h3⟩⟩
theorem few7_36 (w : World) : Calls Tryz.prog 36 #[.slice none 0 0] w fun e w' => e = .returned (.bool true) ∧ Ext w w' := closedExt (args := [.slice none 0 0]) rfl (by kernel_rfl) w
theorem refValid7_30 (w : World) : Calls Tryz.prog 30 #[.slice none 0 0] w fun e w' => e = .returned (.bool true) ∧ Ext w w' := closedExt (args := [.slice none 0 0]) rfl (by kernel_rfl) w
theorem close_11 (w : World) : Calls Tryz.prog 11 #[.slice none 0 0] w fun e w' => e = .returned (.bool true) ∧ Ext w w' := closedExt (args := [.slice none 0 0]) rfl (by kernel_rfl) w

end Go.Proofs.YtcgghcicnanliaaGreatDoor
namespace Go.Proofs.YtcgghcicnanliaaGreatDoor
open Go.RowKit
set_option maxHeartbeats 4000000
set_option maxRecDepth 100000

/-- What lies behind an environment's slices, of whatever length. -/
structure EnvT.Raw (e : EnvT) (W : World) : Prop where
  cells : Sl encCell 4 W e.chart.cA e.chart.cells
  beacons : Sl encBeacon 3 W e.chart.bA e.chart.beacons
  lines : Sl encLine 2 W e.chart.lA e.chart.lines
  pts : ∀ l ∈ e.chart.lines, Sl encP 2 W l.A l.pts
  ix : I64 e.chart.x
  iy : I64 e.chart.y
  ib : ∀ b ∈ e.chart.beacons, I64 b.id ∧ I64 b.at_.1 ∧ I64 b.at_.2
  il : ∀ l ∈ e.chart.lines, I64 l.id ∧ ∀ p ∈ l.pts, I64 p.1 ∧ I64 p.2
  tide : Sl FlowT.vals 9 W e.tide.A e.tide.flows
  rows : Sl encRow 6 W e.rA e.rows
  waters : Sl WaterT.vals 3 W e.wA e.waters
/-- landfallref21.Few. -/
def EnvT.Few (e : EnvT) : Prop := e.chart.cells.length ≤ 36 ∧ e.chart.beacons.length ≤ 8 ∧ e.chart.lines.length ≤ 4 ∧ (∀ l ∈ e.chart.lines, l.pts.length ≤ 8)
theorem EnvT.Raw.lies {e : EnvT} {W : World} (h : e.Raw W) (f : e.Few) : e.Lies W := by
  obtain ⟨f1, f2, f3, f4⟩ := f
  exact ⟨⟨h.cells, h.beacons, h.lines, h.pts, h.ix, h.iy, h.ib, h.il, by omega, by omega, by omega⟩, h.tide, h.rows, h.waters⟩

/-- It ends with a truth value; true only if P. -/
def SaysIf (P : Prop) (r : Ending) : Prop := ∃ b, (b = true → P) ∧ r = .returned (.bool b)

/-- landfallref21.Means, of observations. -/
def meansB (e : EnvT) (o : EntryT) : Bool :=
  if o.kind = 3 ∨ o.kind = 4 ∨ o.kind = 6 then (firstId BeaconT.id o.ref e.chart.beacons).isSome else if o.kind = 5 then (firstId LineT.id o.ref e.chart.lines).isSome else true

theorem means_40 (e : EnvT) (o : EntryT) (hk : 2 ≤ o.kind ∧ o.kind ≤ 7) (w : World) (H : e.Lies w) : Calls Tryz.prog 40 #[.agg e.vals.toArray, .agg o.vals.toArray] w fun r w' => r = .returned (.bool (meansB e o)) ∧ Ext w w' := by
  have K1 := Lib.hid (fun W (hx : Ext w W) => refBeacon_82 e.chart o.ref W H.chart.nb (H.chart.beacons.ext hx))
  have K2 := Lib.hid (fun W (hx : Ext w W) => refPath_83 e.chart o.ref W H.chart.nl (H.chart.lines.ext hx))
  unfold meansB
  generalize (firstId BeaconT.id o.ref e.chart.beacons).isSome = q1 at K1 ⊢
  generalize (firstId BeaconT.id o.ref e.chart.beacons).getD ⟨0, (0, 0)⟩ = b1 at K1
  generalize (firstId LineT.id o.ref e.chart.lines).isSome = q2 at K2 ⊢
  generalize (firstId LineT.id o.ref e.chart.lines).getD ⟨0, none, 0, []⟩ = b2 at K2
  obtain ⟨i1, ⟨a1, a2⟩⟩ := b1
  obtain ⟨j1, j2, j3, j4⟩ := b2
  clear H
  obtain ⟨⟨version, x, y, tw, th, size, cA, cc, cells, bA, bc, beacons, lA, lc, lines⟩, ⟨tv, start, slots, ⟨r1, r2, r3, r4, r5, r6, r7, r8, r9⟩, fA, fc, flows⟩, rA, rc, rows, wA, wc, waters⟩ := e
  obtain ⟨seq, time, kind, sensor, ref, a, n, lo, hi, temp, age, since⟩ := o
  simp only [EnvT.vals, ChartT.vals, TideT.vals, FlowT.vals, EntryT.vals, encLine, List.cons_append, List.nil_append] at *
  have D : kind = 2 ∨ kind = 3 ∨ kind = 4 ∨ kind = 5 ∨ kind = 6 ∨ kind = 7 := by omega
  rcases D with rfl | rfl | rfl | rfl | rfl | rfl
  all_goals
    go_enter Tryz.func40, Tryz.ntmps40
    go_wp2_with (first
      | (go_at_call 82; refine (K1.out _ xt).mono ?_; rintro e w1 ⟨rfl, hb1⟩)
      | (go_at_call 83; refine (K2.out _ xt).mono ?_; rintro e w1 ⟨rfl, hb1⟩))
    go_ret
    exact ⟨retb (by simp), xt⟩

theorem few_35 (e : EnvT) (w : World) (hL : Sl encLine 2 w e.chart.lA e.chart.lines) : Calls Tryz.prog 35 #[.agg e.vals.toArray] w fun r w' => SaysIf e.Few r ∧ Ext w w' := by
  have hF : Hid (e.chart.cells.length ≤ 36 → e.chart.beacons.length ≤ 8 → e.chart.lines.length ≤ 4 → (∀ j y, j < e.chart.lines.length → e.chart.lines[j]? = some y → y.pts.length ≤ 8) → e.Few) := fun h1 h2 h3 h4 =>
    ⟨h1, h2, h3, fun l hl => by obtain ⟨j, hj, ej⟩ := List.getElem_of_mem hl; exact h4 j l hj (by rw [List.getElem?_eq_getElem hj, ej])⟩
  generalize e.Few = P at hF ⊢
  obtain ⟨⟨version, x, y, tw, th, size, cA, cc, cells, bA, bc, beacons, lA, lc, l⟩, ⟨tv, start, slots, ⟨r1, r2, r3, r4, r5, r6, r7, r8, r9⟩, fA, fc, flows⟩, rA, rc, rows, wA, wc, waters⟩ := e
  simp only [EnvT.vals, ChartT.vals, TideT.vals, FlowT.vals, EntryT.vals, List.cons_append, List.nil_append] at *
  obtain ⟨W0, hW0⟩ : ∃ W0, (w.alloc (.cells #[.int .i64 version, .int .i64 x, .int .i64 y, .int .i64 tw, .int .i64 th, .int .i64 size, .slice cA cells.length cc, .slice bA beacons.length bc, .slice lA l.length lc, .int .i64 tv, .int .i64 start, .int .i64 slots, .int .i64 r1, .int .i64 r2, .int .i64 r3, .int .i64 r4, .int .i64 r5, .int .i64 r6, .int .i64 r7, .int .i64 r8, .int .i64 r9, .slice fA flows.length fc, .slice rA rows.length rc, .slice wA waters.length wc] 37)).alloc (.cells #[.int .i64 version, .int .i64 x, .int .i64 y, .int .i64 tw, .int .i64 th, .int .i64 size, .slice cA cells.length cc, .slice bA beacons.length bc, .slice lA l.length lc] 26) = W0 := ⟨_, rfl⟩
  have hE0 : Ext w W0 := by rw [← hW0]; exact ((Ext.refl w).alloc _).alloc _
  have hz0 : W0.heap.size = w.heap.size + 2 := by rw [← hW0]; simp
  have a6 : W0.cell? ⟨w.heap.size + 1, 6, none⟩ = some (.slice cA cells.length cc) := by rw [← hW0]; simp
  have a7 : W0.cell? ⟨w.heap.size + 1, 7, none⟩ = some (.slice bA beacons.length bc) := by rw [← hW0]; simp
  have a8 : W0.cell? ⟨w.heap.size + 1, 8, none⟩ = some (.slice lA l.length lc) := by rw [← hW0]; simp
  have t21 : W0.cell? ⟨w.heap.size, 21, none⟩ = some (.slice fA flows.length fc) := by rw [← hW0]; simp
  have t22 : W0.cell? ⟨w.heap.size, 22, none⟩ = some (.slice rA rows.length rc) := by rw [← hW0]; simp
  have t23 : W0.cell? ⟨w.heap.size, 23, none⟩ = some (.slice wA waters.length wc) := by rw [← hW0]; simp
  go_enter Tryz.func35, Tryz.ntmps35
  go_wp2
  (try rw [hW0])
  clear hW0
  go_loopg [4] (l.length + 1) (fun gg s4 wr => ∃ kk : Nat, kk ≤ l.length ∧ l.length + 1 - kk ≤ gg ∧ s4 = .int .i64 kk ∧ Hid (wr = W0) ∧ Hid (∀ j y, j < kk → l[j]? = some y → y.pts.length ≤ 8))
  case atStart => exact ⟨0, Nat.zero_le _, by omega, rfl, rfl, fun j y hj => absurd hj (Nat.not_lt_zero _)⟩
  case round =>
    obtain ⟨kk, hkk, hg, rfl, hx, HH⟩ := hrel
    have hxx : wr = W0 := hx.out
    subst hxx
    by_cases hlt : kk < l.length ∧ kk < 4
    · obtain ⟨hlt, h4⟩ := hlt
      obtain ⟨b, off, rfl⟩ := hL.addr (by show 0 < l.length; omega)
      obtain ⟨y', hy⟩ : ∃ y, l[kk]? = some y := ⟨_, List.getElem?_eq_getElem hlt⟩
      have Y := Lib.hid hy
      have hltz : (kk : Int) < (l.length : Int) := by omega
      have h4z : (kk : Int) < 4 := by omega
      obtain ⟨y1, y2, y3, y4⟩ := y'
      have c0 : wr.cell? ⟨b, off + kk * 2, none⟩ = some (.int .i64 y1) := by have := (hL.ext hE0).at_ hy (i := 0) rfl; simpa using this
      have c1 : wr.cell? ⟨b, off + kk * 2 + 1, none⟩ = some (.slice y2 y4.length y3) := by have := (hL.ext hE0).at_ hy (i := 1) rfl; simpa using this
      clear hy
      by_cases h8 : y4.length ≤ 8
      · have h8z : ¬ (8 : Int) < (y4.length : Int) := by omega
        go_wp2
        go_roundg (l.length + 1 - (kk + 1))
        case measure => omega
        case rel =>
          refine ⟨kk + 1, by omega, by omega, by go_num, rfl, fun j x hj hjx => ?_⟩
          by_cases e : j = kk
          · subst e
            have := Y.out.symm.trans hjx
            cases this
            exact h8
          · exact HH.out j x (by omega) hjx
      · have h8z : (8 : Int) < (y4.length : Int) := by omega
        go_wp2
        go_ret
        exact ⟨⟨false, (fun h => by cases h), rfl⟩, hE0⟩
    · have D : (¬ (kk : Int) < (l.length : Int)) ∨ ((kk : Int) < (l.length : Int) ∧ ¬ (kk : Int) < 4) := by omega
      have hfin : Hid (l.length ≤ 4 → ∀ j y, j < l.length → l[j]? = some y → y.pts.length ≤ 8) := fun h4 j y hj hjy => HH.out j y (by omega) hjy
      rcases D with D | ⟨D1, D2⟩
      all_goals
        go_wp2
        all_goals (go_ret; refine ⟨⟨_, fun hb => ?_, rfl⟩, hE0⟩)
        all_goals first
          | (cases hb; done)
          | (simp only [decide_eq_true_eq] at *; exact hF.out (by omega) (by omega) (by omega) (hfin.out (by omega)))

theorem EnvT.size (e : EnvT) : e.vals.toArray.size = 24 := by
  simp [EnvT.vals, ChartT.vals, TideT.vals, FlowT.vals]
theorem EntryT.size (o : EntryT) : o.vals.toArray.size = 12 := rfl
theorem info37 : (Tryz.prog.info? 37).map (·.size) = some 24 := by kernel_rfl
theorem info40 : (Tryz.prog.info? 40).map (·.size) = some 12 := by kernel_rfl

theorem fewLaw_10 (e : EnvT) (w : World) (hL : Sl encLine 2 w e.chart.lA e.chart.lines) : Calls Tryz.prog 10 #[.agg e.vals.toArray, .slice none 0 0] w fun r w' => SaysIf e.Few r ∧ Ext w w' := by
  have K1 := Lib.hid (fun W (hx : Ext w W) => few_35 e W (hL.ext hx))
  have K2 := Lib.hid few7_36
  have hsz := e.size
  generalize e.Few = P at K1 ⊢
  generalize e.vals.toArray = ev at K1 hsz ⊢
  clear hL
  have KL := Lib.hid (info37.trans (congrArg some hsz.symm))
  clear hsz
  go_enter Tryz.func10, Tryz.ntmps10
  go_wp2_with (first
    | (refine wpList_load_row rfl 37 _ rfl _ rfl 37 ev _ _ (heap_new w _) Tryz.underlying37 rfl KL.out ?_)
    | (go_at_call 35; refine (K1.out _ xt).mono ?_; rintro e w1 ⟨⟨b, hb, rfl⟩, hb1⟩; have HB := Lib.hid hb; clear hb; cases b)
    | (go_at_call 36; refine (K2.out _).mono ?_; rintro e w2 ⟨rfl, hb2⟩))
  all_goals (go_ret; refine ⟨⟨_, fun hb => ?_, rfl⟩, xt⟩)
  all_goals first
    | (cases hb; done)
    | exact HB.out (by first | rfl | trivial)
    | (simp at hb; done)

/-- Two boxes, one behind the other. -/
theorem two_boxes (w : World) (x y : Array Value) (s t : TypeId) (W : World) (h : Ext ((w.alloc (.cells x s)).alloc (.cells y t)) W) : W.heap[w.heap.size]? = some (.cells x s) ∧ W.heap[w.heap.size + 1]? = some (.cells y t) := by
  refine ⟨(h.block _ (by simp only [World.size_alloc]; omega)).trans ?_, (h.block _ (by simp only [World.size_alloc]; omega)).trans ?_⟩
  · rw [Below.heap_alloc _ _ _ (by simp only [World.size_alloc]; omega)]
    exact heap_new w _
  · have := heap_new (w.alloc (.cells x s)) (.cells y t)
    simpa only [World.size_alloc] using this
/-- The law's usable, of no region. -/
theorem usable_24 (e : EnvT) (o : EntryT) (w : World) (R : e.Raw w) : Calls Tryz.prog 24 #[.agg e.vals.toArray, .slice none 0 0, .agg o.vals.toArray] w fun r w' => SaysIf (e.Few ∧ envOk e = true ∧ o.Seen ∧ meansB e o = true) r ∧ Ext w w' := by
  have K1 := Lib.hid (fun W (hx : Ext w W) => fewLaw_10 e W (R.lines.ext hx))
  have K2 := Lib.hid refValid7_30
  have K3 := Lib.hid close_11
  have K4 := Lib.hid (fun (hF : e.Few) W (hx : Ext w W) => refValid_15 e W ((R.lies hF).ext hx))
  have K5 := Lib.hid (fun W => (seen_51 o W).mono fun r w' ⟨b, h1, h2, h3⟩ => (⟨⟨b, h1, h2⟩, h3⟩ : SaysIf o.Seen r ∧ Ext W w'))
  have K6 := Lib.hid (fun (hF : e.Few) (hS : o.Seen) W (hx : Ext w W) => means_40 e o hS.1 W ((R.lies hF).ext hx))
  have hsz := e.size
  have hsz2 := o.size
  generalize e.vals.toArray = ev at K1 K4 K6 hsz ⊢
  generalize o.vals.toArray = ov at K5 K6 hsz2 ⊢
  generalize meansB e o = qm at K6 ⊢
  generalize envOk e = qe at K4 ⊢
  generalize o.Seen = PS at K5 K6 ⊢
  generalize e.Few = PF at K1 K4 K6 ⊢
  clear R
  have KL := Lib.hid (info37.trans (congrArg some hsz.symm))
  have KM := Lib.hid (info40.trans (congrArg some hsz2.symm))
  have KX := Lib.hid (two_boxes w ev ov 37 40)
  clear hsz hsz2
  cases qe <;> cases qm
  all_goals
    go_enter Tryz.func24, Tryz.ntmps24
    go_wp2_with (first
      | (refine wpList_load_rowG (by rfl) 37 _ rfl _ rfl 37 ev _ _ (KX.out _ xt).1 Tryz.underlying37 rfl KL.out ?_)
      | (refine wpList_load_rowG (by rfl) 40 _ rfl _ rfl 40 ov _ _ (KX.out _ xt).2 Tryz.underlying40 rfl KM.out ?_)
      | (go_at_call 10; refine (K1.out _ xt).mono ?_; rintro e w1 ⟨⟨b, hb, rfl⟩, hb1⟩; have HB := Lib.hid hb; clear hb; cases b)
      | (go_at_call 30; refine (K2.out _).mono ?_; rintro e w2 ⟨rfl, hb2⟩)
      | (go_at_call 11; refine (K3.out _).mono ?_; rintro e w3 ⟨rfl, hb3⟩)
      | (go_at_call 15; refine (K4.out (HB.out (by first | rfl | trivial)) _ xt).mono ?_; rintro e w4 ⟨rfl, hb4⟩)
      | (go_at_call 51; refine (K5.out _).mono ?_; rintro e w5 ⟨⟨b, hb, rfl⟩, hb5⟩; have HS := Lib.hid hb; clear hb; cases b)
      | (go_at_call 40; refine (K6.out (HB.out (by first | rfl | trivial)) (HS.out (by first | rfl | trivial)) _ xt).mono ?_; rintro e w6 ⟨rfl, hb6⟩))
    all_goals (go_ret; refine ⟨⟨_, fun hb => ?_, rfl⟩, xt⟩)
    all_goals first
      | (cases hb; done)
      | exact ⟨HB.out (by first | rfl | trivial), (by trivial), HS.out (by first | rfl | trivial), (by trivial)⟩
      | (simp at hb; done)

end Go.Proofs.YtcgghcicnanliaaGreatDoor
namespace Go.Proofs.YtcgghcicnanliaaGreatDoor
open Go.RowKit
set_option maxHeartbeats 8000000
set_option maxRecDepth 100000

theorem Cells.newAt (W : World) (n : Nat) (l : List Value) (t : TypeId) (h : W.heap.size = n) : Cells (W.alloc (.cells l.toArray t)) n l := by
  subst h
  exact Cells.new W l t
/-- The cells of an observer. -/
def obsL (e : EnvT) (o : EntryT) (p : Pt) (pid : Int) (pA : Option Addr) (pl pc : Nat) : List Value := e.vals ++ o.vals ++ [.int .i64 p.1, .int .i64 p.2, .int .i64 pid, .slice pA pl pc, .slice none 0 0]
theorem obs_built (e : EnvT) (o : EntryT) : Tryz.prog.built 95 [(0, .agg e.vals.toArray), (1, .agg o.vals.toArray)] = some (obsL e o (0, 0) 0 none 0 0).toArray := by
  obtain ⟨⟨version, x, y, tw, th, size, cA, cc, cells, bA, bc, beacons, lA, lc, lines⟩, ⟨tv, start, slots, ⟨r1, r2, r3, r4, r5, r6, r7, r8, r9⟩, fA, fc, flows⟩, rA, rc, rows, wA, wc, waters⟩ := e
  obtain ⟨seq, time, kind, sensor, ref, a, n, lo, hi, temp, age, since⟩ := o
  kernel_rfl
theorem EnvT.vals_length (e : EnvT) : e.vals.length = 24 := by
  simp [EnvT.vals, ChartT.vals, TideT.vals, FlowT.vals]
theorem obs_set_p (e : EnvT) (o : EntryT) (p : Pt) : ((obsL e o (0, 0) 0 none 0 0).set 36 (.int .i64 p.1)).set 37 (.int .i64 p.2) = obsL e o p 0 none 0 0 := by
  obtain ⟨⟨version, x, y, tw, th, size, cA, cc, cells, bA, bc, beacons, lA, lc, lines⟩, ⟨tv, start, slots, ⟨r1, r2, r3, r4, r5, r6, r7, r8, r9⟩, fA, fc, flows⟩, rA, rc, rows, wA, wc, waters⟩ := e
  obtain ⟨seq, time, kind, sensor, ref, a, n, lo, hi, temp, age, since⟩ := o
  rfl
theorem obs_set_l (e : EnvT) (o : EntryT) (pid : Int) (pA : Option Addr) (pl pc : Nat) : ((obsL e o (0, 0) 0 none 0 0).set 38 (.int .i64 pid)).set 39 (.slice pA pl pc) = obsL e o (0, 0) pid pA pl pc := by
  obtain ⟨⟨version, x, y, tw, th, size, cA, cc, cells, bA, bc, beacons, lA, lc, lines⟩, ⟨tv, start, slots, ⟨r1, r2, r3, r4, r5, r6, r7, r8, r9⟩, fA, fc, flows⟩, rA, rc, rows, wA, wc, waters⟩ := e
  obtain ⟨seq, time, kind, sensor, ref, a, n, lo, hi, temp, age, since⟩ := o
  rfl
theorem obs_cells (e : EnvT) (o : EntryT) (p : Pt) (pid : Int) (pA : Option Addr) (pl pc : Nat) : (obsL e o p pid pA pl pc).length = 41 ∧ (obsL e o p pid pA pl pc)[36]? = some (.int .i64 p.1) ∧ (obsL e o p pid pA pl pc)[37]? = some (.int .i64 p.2) ∧ (obsL e o p pid pA pl pc)[38]? = some (.int .i64 pid) ∧ (obsL e o p pid pA pl pc)[39]? = some (.slice pA pl pc) := by
  obtain ⟨⟨version, x, y, tw, th, size, cA, cc, cells, bA, bc, beacons, lA, lc, lines⟩, ⟨tv, start, slots, ⟨r1, r2, r3, r4, r5, r6, r7, r8, r9⟩, fA, fc, flows⟩, rA, rc, rows, wA, wc, waters⟩ := e
  obtain ⟨seq, time, kind, sensor, ref, a, n, lo, hi, temp, age, since⟩ := o
  exact ⟨rfl, rfl, rfl, rfl, rfl⟩
theorem EnvT.chart_vals (e : EnvT) : ∃ r, e.vals = e.chart.vals ++ r := by
  refine ⟨e.vals.drop 9, ?_⟩
  obtain ⟨⟨version, x, y, tw, th, size, cA, cc, cells, bA, bc, beacons, lA, lc, lines⟩, ⟨tv, start, slots, ⟨r1, r2, r3, r4, r5, r6, r7, r8, r9⟩, fA, fc, flows⟩, rA, rc, rows, wA, wc, waters⟩ := e
  rfl
theorem info26 : (Tryz.prog.info? 26).map (·.size) = some 9 := by kernel_rfl
theorem chart_range (e : EnvT) (w : World) (t : TypeId) (y : Obj) (W : World) (h : Ext ((w.alloc (.cells e.vals.toArray t)).alloc y) W) : W.rangeAt w.heap.size 0 e.chart.vals := by
  have hc := Cells.new w e.vals t
  have hc2 := (hc.ext ((Ext.refl _).alloc y)).ext h
  obtain ⟨r, hr⟩ := e.chart_vals
  intro j v hj
  rw [Nat.zero_add]
  refine hc2.2 j v ?_
  rw [hr, List.getElem?_append_left (List.getElem?_eq_some_iff.1 hj).1]
  exact hj

theorem look_2 (e : EnvT) (o : EntryT) (hk : o.kind = 2 ∨ o.kind = 7) (w : World) :
    Calls Tryz.prog 38 #[.agg e.vals.toArray, .agg o.vals.toArray] w fun r w' => ∃ B, r = .returned (.tuple #[.pointer (some ⟨B, 0, none⟩), .bool true]) ∧ Cells w' B (obsL e o (0, 0) 0 none 0 0) ∧ w.heap.size ≤ B ∧ Ext w w' := by
  have KB := Lib.hid (obs_built e o)
  have KC := Lib.hid (fun W n t h => Cells.newAt W n (obsL e o (0, 0) 0 none 0 0) t h)
  have hsz := e.size
  have hsz2 := o.size
  have ho2 : o.vals.toArray[2]? = some (.int .i64 o.kind) := rfl
  generalize obsL e o (0, 0) 0 none 0 0 = OL at KB KC ⊢
  generalize e.vals.toArray = ev at KB hsz ⊢
  generalize o.vals.toArray = ov at KB hsz2 ho2 ⊢
  have KL := Lib.hid (info37.trans (congrArg some hsz.symm))
  have KM := Lib.hid (info40.trans (congrArg some hsz2.symm))
  have KX := Lib.hid (two_boxes w ev ov 37 40)
  clear hsz hsz2
  generalize o.kind = kd at hk ho2
  rcases hk with rfl | rfl
  all_goals
    go_enter Tryz.func38, Tryz.ntmps38
    go_wp2_with (first
      | (refine wpList_load_row rfl 37 _ rfl _ rfl 37 ev _ _ (KX.out _ xt).1 Tryz.underlying37 rfl KL.out ?_)
      | (refine wpList_load_row rfl 40 _ rfl _ rfl 40 ov _ _ (KX.out _ xt).2 Tryz.underlying40 rfl KM.out ?_)
      | (refine wpList_buildBy rfl 95 _ rfl _ _ KB.out (by kernel_rfl) ?_))
    go_ret2
    exact ⟨_, rfl, KC.out _ (w.heap.size + 1 + 1) _ (by simp only [World.size_alloc]), by omega, xt⟩

theorem look_3 (e : EnvT) (o : EntryT) (hk : o.kind = 3 ∨ o.kind = 4 ∨ o.kind = 6) (w : World) (H : e.chart.Lies w) (hok : chartOk e.chart = true) (hm : (firstId BeaconT.id o.ref e.chart.beacons).isSome = true) :
    Calls Tryz.prog 38 #[.agg e.vals.toArray, .agg o.vals.toArray] w fun r w' => ∃ B, r = .returned (.tuple #[.pointer (some ⟨B, 0, none⟩), .bool true]) ∧ Cells w' B (obsL e o ((firstId BeaconT.id o.ref e.chart.beacons).getD ⟨0, (0, 0)⟩).at_ 0 none 0 0) ∧ w.heap.size ≤ B ∧ Ext w w' := by
  have KB := Lib.hid (obs_built e o)
  have KC := Lib.hid (fun W n t h => Cells.newAt W n (obsL e o (0, 0) 0 none 0 0) t h)
  have K1 := Lib.hid (fun W (hx : Ext w W) => beacon_77 e.chart o.ref W (H.ext hx) hok)
  have KR := Lib.hid (fun y W h => chart_range e w 37 y W h)
  have KI := Lib.hid (show (Tryz.prog.info? 26).map (·.size) = some e.chart.vals.length from info26)
  rw [hm] at K1
  have KS := Lib.hid (obs_set_p e o ((firstId BeaconT.id o.ref e.chart.beacons).getD ⟨0, (0, 0)⟩).at_)
  generalize ((firstId BeaconT.id o.ref e.chart.beacons).getD ⟨0, (0, 0)⟩).at_ = bp at K1 KS ⊢
  obtain ⟨b1, b2⟩ := bp
  have hsz := e.size
  have hsz2 := o.size
  have ho2 : o.vals.toArray[2]? = some (.int .i64 o.kind) := rfl
  have ho4 : o.vals.toArray[4]? = some (.int .i64 o.ref) := rfl
  obtain ⟨hOl, hO36, hO37, -, -⟩ := obs_cells e o (0, 0) 0 none 0 0
  simp only at KS hO36 hO37
  generalize obsL e o (0, 0) 0 none 0 0 = OL at KB KC KS hOl hO36 hO37
  generalize obsL e o (b1, b2) 0 none 0 0 = OF at KS ⊢
  clear H hok hm
  generalize e.vals.toArray = ev at KB KR hsz ⊢
  generalize o.vals.toArray = ov at KB hsz2 ho2 ho4 ⊢
  generalize e.chart.vals = cv at K1 KR KI
  have KL := Lib.hid (info37.trans (congrArg some hsz.symm))
  have KM := Lib.hid (info40.trans (congrArg some hsz2.symm))
  have KX := Lib.hid (two_boxes w ev ov 37 40)
  have KO := Lib.hid hOl
  clear hsz hsz2 hOl
  have hA36 : OL.toArray[36]? = some (.int .i64 0) := by simpa using hO36
  have hA37 : OL.toArray[37]? = some (.int .i64 0) := by simpa using hO37
  clear hO36 hO37
  generalize hOA : OL.toArray = OA at KB hA36 hA37
  generalize o.kind = kd at hk ho2
  generalize o.ref = rf at K1 ho4
  rcases hk with rfl | rfl | rfl
  all_goals
    go_enter Tryz.func38, Tryz.ntmps38
    go_wp2_with (first
      | (refine wpList_load_row rfl 37 _ rfl _ rfl 37 ev _ _ (KX.out _ xt).1 Tryz.underlying37 rfl KL.out ?_)
      | (refine wpList_load_row rfl 40 _ rfl _ rfl 40 ov _ _ (KX.out _ xt).2 Tryz.underlying40 rfl KM.out ?_)
      | (refine wpList_load_mid rfl 26 _ rfl _ 0 rfl cv _ (KR.out _ _ xt) Tryz.underlying26 rfl KI.out ?_)
      | (refine wpList_buildBy rfl 95 _ rfl _ _ KB.out (by kernel_rfl) ?_)
      | (go_at_call 77; refine (K1.out _ xt).mono ?_; rintro e w1 ⟨rfl, hb1⟩; obtain ⟨hc1, hf1, hz1⟩ := hb1.rules; (try simp only [World.size_alloc] at hz1); (have hzz1 : w.heap.size + 1 + 1 < w1.heap.size := by omega)))
    go_ret2
    subst hOA
    refine ⟨_, rfl, KS.out ▸ ((((KC.out _ (w.heap.size + 1 + 1) _ (by simp only [World.size_alloc])).ext hb1).set (k := 36) (by have := KO.out; omega) _).set (k := 37) (by have := KO.out; rw [List.length_set]; omega) _), by omega, ?_⟩
    refine Ext.setCell (Ext.setCell (Ext.trans ?_ hb1) (by simp only; omega) _) (by simp only; omega) _
    exact ((Ext.refl w).alloc _).alloc _ |>.alloc _

theorem look_5 (e : EnvT) (o : EntryT) (hk : o.kind = 5) (w : World) (H : e.chart.Lies w) (hok : chartOk e.chart = true) (l : LineT) (hfo : firstId LineT.id o.ref e.chart.lines = some l) (hl0 : 0 < l.pts.length) (hl1 : l.pts.length ≤ 1000) :
    Calls Tryz.prog 38 #[.agg e.vals.toArray, .agg o.vals.toArray] w fun r w' => ∃ B g cap, r = .returned (.tuple #[.pointer (some ⟨B, 0, none⟩), .bool true]) ∧ Cells w' B (obsL e o (0, 0) l.id (some ⟨g, 0, none⟩) l.pts.length cap) ∧ Sl encP 2 w' (some ⟨g, 0, none⟩) l.pts ∧ w.heap.size ≤ B ∧ Ext w w' := by
  have KB := Lib.hid (obs_built e o)
  have KC := Lib.hid (fun W n t h => Cells.newAt W n (obsL e o (0, 0) 0 none 0 0) t h)
  have K1 := Lib.hid (fun W (hx : Ext w W) => line_78 e.chart o.ref W (H.ext hx) hok l hfo hl0 hl1)
  have KR := Lib.hid (fun y W h => chart_range e w 37 y W h)
  have KI := Lib.hid (show (Tryz.prog.info? 26).map (·.size) = some e.chart.vals.length from info26)
  have KS := Lib.hid (fun pA pc => obs_set_l e o l.id pA l.pts.length pc)
  obtain ⟨lid, lA0, lc0, lpts⟩ := l
  have hsz := e.size
  have hsz2 := o.size
  have ho2 : o.vals.toArray[2]? = some (.int .i64 o.kind) := rfl
  have ho4 : o.vals.toArray[4]? = some (.int .i64 o.ref) := rfl
  obtain ⟨hOl, -, -, hO38, hO39⟩ := obs_cells e o (0, 0) 0 none 0 0
  simp only at K1 KS
  have hE : ∃ OFf : Option Addr → Nat → List Value, ∀ pA pc, obsL e o (0, 0) lid pA lpts.length pc = OFf pA pc := ⟨_, fun _ _ => rfl⟩
  obtain ⟨OFf, hOF⟩ := hE
  simp only [hOF] at KS ⊢
  generalize obsL e o (0, 0) 0 none 0 0 = OL at KB KC KS hOl hO38 hO39
  clear H hok hfo hOF
  generalize e.vals.toArray = ev at KB KR hsz ⊢
  generalize o.vals.toArray = ov at KB hsz2 ho2 ho4 ⊢
  generalize e.chart.vals = cv at K1 KR KI
  have KL := Lib.hid (info37.trans (congrArg some hsz.symm))
  have KM := Lib.hid (info40.trans (congrArg some hsz2.symm))
  have KX := Lib.hid (two_boxes w ev ov 37 40)
  have KO := Lib.hid hOl
  clear hsz hsz2 hOl
  have hA38 : OL.toArray[38]? = some (.int .i64 0) := by simpa using hO38
  have hA39 : OL.toArray[39]? = some (.slice none 0 0) := by simpa using hO39
  clear hO38 hO39
  generalize hOA : OL.toArray = OA at KB hA38 hA39
  generalize o.kind = kd at hk ho2
  generalize o.ref = rf at K1 ho4
  subst hk
  go_enter Tryz.func38, Tryz.ntmps38
  go_wp2_with (first
    | (refine wpList_load_row rfl 37 _ rfl _ rfl 37 ev _ _ (KX.out _ xt).1 Tryz.underlying37 rfl KL.out ?_)
    | (refine wpList_load_row rfl 40 _ rfl _ rfl 40 ov _ _ (KX.out _ xt).2 Tryz.underlying40 rfl KM.out ?_)
    | (refine wpList_load_mid rfl 26 _ rfl _ 0 rfl cv _ (KR.out _ _ xt) Tryz.underlying26 rfl KI.out ?_)
    | (refine wpList_buildBy rfl 95 _ rfl _ _ KB.out (by kernel_rfl) ?_)
    | (go_at_call 78; refine (K1.out _ xt).mono ?_; rintro e w1 ⟨g, cap, rfl, hS, hg, hb1⟩; have HS := Lib.hid hS; clear hS; (try simp only [World.size_alloc] at hg); obtain ⟨hc1, hf1, hz1⟩ := hb1.rules; (try simp only [World.size_alloc] at hz1); (have hzz1 : w.heap.size + 1 + 1 < w1.heap.size := by omega)))
  go_ret2
  subst hOA
  refine ⟨_, g, cap, rfl, KS.out _ _ ▸ ((((KC.out _ (w.heap.size + 1 + 1) _ (by simp only [World.size_alloc])).ext hb1).set (k := 38) (by have := KO.out; omega) _).set (k := 39) (by have := KO.out; rw [List.length_set]; omega) _), ?_, by omega, ?_⟩
  · exact (HS.out.set_other (by simp only; omega) _).set_other (by simp only; omega) _
  · refine Ext.setCell (Ext.setCell (Ext.trans ?_ hb1) (by simp only; omega) _) (by simp only; omega) _
    exact ((Ext.refl w).alloc _).alloc _ |>.alloc _

end Go.Proofs.YtcgghcicnanliaaGreatDoor
