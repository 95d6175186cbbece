/- Walks: sense.True at observations that mean something. Conditions: an environment that is right, an observation that is right, a place. -/
import Derived.Test.YtcgghcicnanliaaGreatDoorProg
import Derived.Test.YtcgghcicnanliaaGreatDoorM29
import Derived.Test.YtcgghcicnanliaaGreatDoorM31
import Derived.Test.YtcgghcicnanliaaGreatDoorM18
import Derived.Test.YtcgghcicnanliaaGreatDoorM32
import Derived.Test.YtcgghcicnanliaaGreatDoorM21
set_option linter.unusedVariables false
set_option linter.unusedSimpArgs false
namespace Go.Proofs.YtcgghcicnanliaaGreatDoor
open Go.RowKit Go.Lib
set_option maxHeartbeats 8000000
set_option maxRecDepth 100000

theorem namedOk_mem {α : Type} {right : α → Bool} {id : α → Int} {most : Int} {l : List α} (h : namedOk right id most l = true) {x : α} (hx : x ∈ l) : right x = true := by
  simp only [namedOk, Bool.and_eq_true] at h
  obtain ⟨j, hj, e⟩ := List.getElem_of_mem hx
  have := List.all_eq_true.1 h.1 j (List.mem_range.2 hj)
  unfold namedAt at this
  rw [List.getElem?_eq_getElem hj, e] at this
  simp only [Bool.and_eq_true] at this
  exact this.1
theorem cpt_apart {l : List Pt} (h : (cpt l).length = l.length) (k : Nat) (hk : k < l.length - 1) : apartS (segG l k) = true := by
  unfold cpt Lib.compactUpTo at h
  rw [List.length_map] at h
  have h2 : ((List.range l.length).filter (keeps l.toArray)).length = (List.range l.length).length := by rw [h, List.length_range]
  rw [List.length_filter_eq_length_iff] at h2
  have h3 := h2 (k + 1) (List.mem_range.2 (by omega))
  have hx : l[k + 1]? = some (l[k + 1]'(by omega)) := List.getElem?_eq_getElem (by omega)
  have hy : l[k]? = some (l[k]'(by omega)) := List.getElem?_eq_getElem (by omega)
  rw [keeps_at hx hy] at h3
  unfold segG apartS
  rw [ptAt_eq hx, ptAt_eq hy]
  generalize l[k + 1]'(by omega) = u at h3
  generalize l[k]'(by omega) = v at h3
  obtain ⟨u1, u2⟩ := u
  obtain ⟨v1, v2⟩ := v
  simp at h3 ⊢
  rcases h3 with h | h
  · exact .inl fun e => h e.symm
  · exact .inr fun e => h e.symm
theorem beacon_pl {t : ChartT} (hok : chartOk t = true) {n : Int} (hm : (firstId BeaconT.id n t.beacons).isSome = true) : plB ((firstId BeaconT.id n t.beacons).getD ⟨0, (0, 0)⟩).at_ = true := by
  cases h : firstId BeaconT.id n t.beacons with
  | none => rw [h] at hm; cases hm
  | some b =>
    simp only [chartOk, Bool.and_eq_true] at hok
    have := namedOk_mem hok.1.2 (firstId_mem h).1
    simp only [beaconOk, Bool.and_eq_true] at this
    exact this.2
theorem line_pl {t : ChartT} (hok : chartOk t = true) {n : Int} {l : LineT} (h : firstId LineT.id n t.lines = some l) : (1 ≤ l.id ∧ l.id ≤ 1000000) ∧ 2 ≤ l.pts.length ∧ l.pts.length ≤ 64 ∧ (∀ x ∈ l.pts, plB x = true) ∧ (∀ k, k < l.pts.length - 1 → apartS (segG l.pts k) = true) := by
  simp only [chartOk, Bool.and_eq_true] at hok
  have := namedOk_mem hok.2 (firstId_mem h).1
  simp only [lineOk, inB, Bool.and_eq_true, decide_eq_true_eq, Bool.not_eq_true'] at this
  obtain ⟨⟨⟨⟨h1, h2⟩, h3⟩, h4⟩, h5⟩ := this
  refine ⟨h1, h2, h3, fun x hx => ?_, cpt_apart h5⟩
  have := List.any_eq_false.1 h4 x hx
  simpa using this

theorem look_holds (e : EnvT) (o : EntryT) (x : Pt) (w : World) (H : e.Lies w) (hok : envOk e = true) (hs : o.Seen) (hm : meansB e o = true) (hx : plB x = true) :
    Calls Tryz.prog 38 #[.agg e.vals.toArray, .agg o.vals.toArray] w fun r w' => ∃ B, r = .returned (.tuple #[.pointer (some ⟨B, 0, none⟩), .bool true]) ∧ Ext w w' ∧
      ∀ W, Ext w' W → Calls Tryz.prog 50 #[.pointer (some ⟨B, 0, none⟩), .agg #[.int .i64 x.1, .int .i64 x.2]] W fun r w'' => r = .returned (.bool (holdsB e o x)) ∧ Ext W w'' := by
  obtain ⟨hok1, hok2⟩ : chartOk e.chart = true ∧ tideOk e.tide = true := by
    simp only [envOk, Bool.and_eq_true] at hok
    exact ⟨hok.1.1.1, hok.1.1.2⟩
  obtain ⟨g1, g2, g3, g4, g5, g6⟩ := hs
  have htm : inB o.time 0 1000000000 = true := by simp only [inB, Bool.and_eq_true, decide_eq_true_eq]; exact g3
  unfold meansB at hm
  rcases g6 with ⟨hk, hr, ha, hn, q1, q2, q3⟩ | ⟨hk, hr, ha, hn, q1, q2⟩ | ⟨hk, hr, ha, hn, ⟨q1, q2, q3⟩, q4, q5⟩
  · refine (look_2 e o (.inl hk) w).mono fun r w' ⟨B, h1, h2, h3, h4⟩ => ⟨B, h1, h4, fun W hW => ?_⟩
    have := holds_2 e o (0, 0) x 0 none 0 0 B hk htm (by simp only [spanIn, Bool.and_eq_true, decide_eq_true_eq]; omega) hx W (h2.ext hW) (H.ext (h4.trans hW)) hok
    unfold holdsB
    rw [if_pos hk]
    exact this
  · rw [if_pos (by omega)] at hm
    refine (look_3 e o (by omega) w H.chart hok1 hm).mono fun r w' ⟨B, h1, h2, h3, h4⟩ => ⟨B, h1, h4, fun W hW => ?_⟩
    have := holds_4 e o _ x 0 none 0 0 B hk ha hn hx (beacon_pl hok1 hm) W (h2.ext hW)
    unfold holdsB
    rw [if_neg (by omega), if_neg (by omega), if_pos hk]
    exact this
  · rcases hk with hk | hk | hk | hk
    · rw [if_pos (by omega)] at hm
      refine (look_3 e o (by omega) w H.chart hok1 hm).mono fun r w' ⟨B, h1, h2, h3, h4⟩ => ⟨B, h1, h4, fun W hW => ?_⟩
      have := holds_3 e o _ x 0 none 0 0 B hk (by omega) (by omega) hx (beacon_pl hok1 hm) W (h2.ext hW)
      unfold holdsB
      rw [if_neg (by omega), if_pos hk]
      exact this
    · rw [if_neg (by omega), if_pos hk] at hm
      obtain ⟨l, hl⟩ := Option.isSome_iff_exists.1 hm
      obtain ⟨l1, l2, l3, l4, l5⟩ := line_pl hok1 hl
      refine (look_5 e o hk w H.chart hok1 l hl (by omega) (by omega)).mono fun r w' ⟨B, g, cap, h1, h2, hS, h3, h4⟩ => ⟨B, h1, h4, fun W hW => ?_⟩
      have := holds_5 e o (0, 0) x l.id (some ⟨g, 0, none⟩) l.pts cap B hk (by omega) hx W (h2.ext hW) (hS.ext hW) l1 l2 l3 l4 l5
      unfold holdsB pathB
      rw [if_neg (by omega), if_neg (by omega), if_neg (by omega), if_pos hk, hl]
      exact this
    · rw [if_pos (by omega)] at hm
      refine (look_3 e o (by omega) w H.chart hok1 hm).mono fun r w' ⟨B, h1, h2, h3, h4⟩ => ⟨B, h1, h4, fun W hW => ?_⟩
      have := holds_6 e o _ x 0 none 0 0 B hk (by omega) hx (beacon_pl hok1 hm) W (h2.ext hW)
      unfold holdsB
      rw [if_neg (by omega), if_neg (by omega), if_neg (by omega), if_neg (by omega), if_pos hk]
      exact this
    · refine (look_2 e o (.inr hk) w).mono fun r w' ⟨B, h1, h2, h3, h4⟩ => ⟨B, h1, h4, fun W hW => ?_⟩
      have := holds_7 e o (0, 0) x 0 none 0 0 B hk W (h2.ext hW)
      unfold holdsB
      rw [if_neg (by omega), if_neg (by omega), if_neg (by omega), if_neg (by omega), if_neg (by omega)]
      exact this

theorem true_16 (e : EnvT) (o : EntryT) (x : Pt) (w : World) (H : e.Lies w) (hok : envOk e = true) (hs : o.Seen) (hm : meansB e o = true) (hx : plB x = true) :
    Calls Tryz.prog 16 #[.agg e.vals.toArray, .agg o.vals.toArray, .agg #[.int .i64 x.1, .int .i64 x.2]] w fun r w' => r = .returned (.tuple #[.bool (holdsB e o x), .int .i64 0]) ∧ Ext w w' := by
  have hok1 : chartOk e.chart = true := by
    simp only [envOk, Bool.and_eq_true] at hok
    exact hok.1.1.1
  have K1 := Lib.hid (fun W (h : Ext w W) => at_49 e.chart x W (H.chart.ext h) hok1 hx)
  have K2 := Lib.hid (fun W (h : Ext w W) => senseValid_14 e W (H.ext h))
  rw [hok] at K2
  have K3 := Lib.hid (fun W => isFormed_37 o hs.1 hs.form W)
  have K4 := Lib.hid (fun W (h : Ext w W) => look_holds e o x W (H.ext h) hok hs hm hx)
  have hk1 : ¬ o.kind = 1 := by have := hs.1; omega
  have KR := Lib.hid (fun y W h => chart_range e w 37 y W h)
  have KI := Lib.hid (show (Tryz.prog.info? 26).map (·.size) = some e.chart.vals.length from info26)
  have hsz := e.size
  have hsz2 := o.size
  have ho2 : o.vals.toArray[2]? = some (.int .i64 o.kind) := rfl
  generalize holdsB e o x = res at K4 ⊢
  generalize e.vals.toArray = ev at K2 K4 KR hsz ⊢
  generalize o.vals.toArray = ov at K3 K4 hsz2 ho2 ⊢
  generalize e.chart.vals = cv at K1 KR KI
  generalize (rectL e.chart x x).head?.getD 0 = ri at K1
  generalize (rectL e.chart x x).head?.isSome = rs at K1
  generalize o.kind = kd at hk1 ho2
  clear H hok hs hm hok1 hx
  have KL := Lib.hid (info37.trans (congrArg some hsz.symm))
  have KM := Lib.hid (info40.trans (congrArg some hsz2.symm))
  have KX := Lib.hid (two_boxes w ev ov 37 40)
  clear hsz hsz2
  obtain ⟨x1, x2⟩ := x
  simp only at *
  have dk : decide (kd = 1) = false := decide_eq_false hk1
  go_enter Tryz.func16, Tryz.ntmps16
  go_wp2_with (first
    | (refine wpList_load_mid rfl 26 _ rfl _ 0 rfl cv _ (KR.out _ _ xt) Tryz.underlying26 rfl KI.out ?_)
    | (refine wpList_load_rowG (by rfl) 37 _ rfl _ rfl 37 ev _ _ (KX.out _ xt).1 Tryz.underlying37 rfl KL.out ?_)
    | (refine wpList_load_rowG (by rfl) 40 _ rfl _ rfl 40 ov _ _ (KX.out _ xt).2 Tryz.underlying40 rfl KM.out ?_)
    | (go_at_call 49; refine (K1.out _ xt).mono ?_; rintro e w1 ⟨rfl, hb1⟩; obtain ⟨hc1, hf1, hz1⟩ := hb1.rules; (try simp only [World.size_alloc] at hz1); (have hzz1 : w.heap.size + 1 + 1 < w1.heap.size := by omega); (have hzy1 : w.heap.size + 1 < w1.heap.size := by omega))
    | (go_at_call 14; refine (K2.out _ xt).mono ?_; rintro e w2 ⟨rfl, hb2⟩; obtain ⟨hc2, hf2, hz2⟩ := hb2.rules; (have hzz2 : w.heap.size + 1 + 1 < w2.heap.size := by omega); (have hzy2 : w.heap.size + 1 < w2.heap.size := by omega))
    | (go_at_call 37; refine (K3.out _).mono ?_; rintro e w3 ⟨rfl, hb3⟩; obtain ⟨hc3, hf3, hz3⟩ := hb3.rules; (have hzz3 : w.heap.size + 1 + 1 < w3.heap.size := by omega); (have hzy3 : w.heap.size + 1 < w3.heap.size := by omega))
    | (go_at_call 38; refine (K4.out _ xt).mono ?_; rintro e w4 ⟨B, rfl, hb4, hB⟩; have HB := Lib.hid hB; clear hB; obtain ⟨hc4, hf4, hz4⟩ := hb4.rules; (have hzz4 : w.heap.size + 1 + 1 < w4.heap.size := by omega))
    | (go_at_call 50; refine (HB.out _ (Ext.refl _)).mono ?_; rintro e w5 ⟨rfl, hb5⟩))
  go_ret2
  exact ⟨rfl, xt⟩
end Go.Proofs.YtcgghcicnanliaaGreatDoor
