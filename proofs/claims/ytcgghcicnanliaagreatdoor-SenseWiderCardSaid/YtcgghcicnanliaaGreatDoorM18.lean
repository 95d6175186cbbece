/- Walks: the reference of layer 15: Path. Conditions: none. Walks: the reference of layer 13: Valid. Conditions: none. Walks: hull.Valid of one place, line.isPlace. Conditions: a place. -/
import Derived.Test.YtcgghcicnanliaaGreatDoorProg
import Derived.Test.YtcgghcicnanliaaGreatDoorM13
import Derived.Test.YtcgghcicnanliaaGreatDoorM09
import Derived.Test.YtcgghcicnanliaaGreatDoorM10
import Derived.Test.YtcgghcicnanliaaGreatDoorM16
set_option linter.unusedVariables false
set_option linter.unusedSimpArgs false
namespace Go.Proofs.YtcgghcicnanliaaGreatDoor
open Go.RowKit Go.Lib
set_option maxHeartbeats 2000000
set_option maxRecDepth 100000

theorem cpt_len_ne {l : List Pt} {j : Nat} (hj : j < l.length) (h : keeps l.toArray j = false) : (cpt l).length ≠ l.length := by
  have h1 : (cpt l).length < l.length := by
    unfold cpt compactUpTo
    rw [List.length_map]
    have := (List.length_filter_lt_length_iff_exists (p := keeps l.toArray) (l := List.range l.length)).2 ⟨j, List.mem_range.2 hj, by simp [h]⟩
    simpa using this
  omega
theorem keeps_at {l : List Pt} {m : Nat} {x y : Pt} (hx : l[m + 1]? = some x) (hy : l[m]? = some y) : keeps l.toArray (m + 1) = !(decide (x.1 = y.1) && decide (x.2 = y.2)) := by
  have e1 : l.toArray[m + 1]! = x := by rw [getElem!_def]; simp [hx]
  have e2 : l.toArray[m]! = y := by rw [getElem!_def]; simp [hy]
  by_cases h : x.1 = y.1 ∧ x.2 = y.2
  · rw [keeps_neg (by omega) (by rw [show m + 1 - 1 = m by omega, e1, e2]; exact Prod.ext h.1 h.2)]
    simp [h.1, h.2]
  · rw [keeps_pos (by rw [show m + 1 - 1 = m by omega, e1, e2]; intro e; apply h; rw [e]; exact ⟨rfl, rfl⟩)]
    symm
    simp only [Bool.not_eq_true', Bool.and_eq_false_iff, decide_eq_false_iff_not]
    omega

theorem path_168 (l : LineT) (w : World) (hS : Sl encP 2 w l.A l.pts) :
    Calls Tryz.prog 168 #[.agg (encLine l).toArray] w fun e w' => e = .returned (.bool (lineOk l)) ∧ Ext w w' := by
  obtain ⟨id, A, c, pts⟩ := l
  simp only [encLine] at hS ⊢
  have hL : Hid (lineOk ⟨id, A, c, pts⟩ = (inB id 1 1000000 && inB pts.length 2 64 && (!(pts.any fun x => !plB x) && decide ((cpt pts).length = pts.length)))) := by
    show _ = _
    have e1 : decide ((2 : Int) ≤ (pts.length : Int)) = decide (2 ≤ pts.length) := by rw [decide_eq_decide]; omega
    have e2 : decide ((pts.length : Int) ≤ 64) = decide (pts.length ≤ 64) := by rw [decide_eq_decide]; omega
    simp only [lineOk, inB, e1, e2, Bool.and_assoc]
  by_cases hq : inB id 1 1000000 = true ∧ inB pts.length 2 64 = true
  rotate_left
  · have hF : Hid (lineOk ⟨id, A, c, pts⟩ = false) := by
      show _ = _
      rw [hL.out]
      cases e1 : inB id 1 1000000
      · rfl
      · cases e2 : inB (pts.length : Int) 2 64
        · rfl
        · exact absurd ⟨e1, e2⟩ hq
    generalize hq1 : inB id 1 1000000 = q1 at hq hL
    generalize hq2 : inB (pts.length : Int) 2 64 = q2 at hq hL
    have hq' : q1 = false ∨ (q1 = true ∧ q2 = false) := by cases q1 <;> cases q2 <;> simp_all
    clear hq hL
    rcases hq' with rfl | ⟨rfl, rfl⟩
    all_goals
      go_enter Tryz.func168, Tryz.ntmps168
      go_wp2_with (go_at_call 167; refine (in_167 _ _ _ _).mono ?_; rintro e w' ⟨rfl, rfl⟩; try simp only [hq1, hq2])
      go_ret
      exact ⟨retb hF.out.symm, xt⟩
  obtain ⟨q1, q2⟩ := hq
  obtain ⟨hl2, hl64⟩ : 2 ≤ pts.length ∧ pts.length ≤ 64 := by simp [inB] at q2; omega
  have hq1 := q1
  have hq2 := q2
  rw [q1, q2] at hL
  have hR : Hid (lineOk ⟨id, A, c, pts⟩ = (!(pts.any fun x => !plB x) && decide ((cpt pts).length = pts.length))) := by show _ = _; rw [hL.out]; rfl
  obtain ⟨b, off, rfl⟩ := hS.addr (by omega)
  have hb := hS.blk (by omega)
  clear hL q1 q2
  have hbox : Hid (Ext (w.alloc (.cells #[.int .i64 id, .slice (some ⟨b, off, none⟩) pts.length c] 93)) (w.alloc (.cells #[.int .i64 id, .slice (some ⟨b, off, none⟩) pts.length c] 93))) := Ext.refl _
  go_enter Tryz.func168, Tryz.ntmps168
  go_wp2_with (go_at_call 167; refine (in_167 _ _ _ _).mono ?_; rintro e w' ⟨rfl, rfl⟩; try simp only [hq1, hq2])
  go_loopg [3] pts.length (fun gg s3 wr => ∃ kk : Nat, kk ≤ pts.length ∧ pts.length - kk ≤ gg ∧ s3 = .int .i64 kk ∧ Hid (Ext (w.alloc (.cells #[.int .i64 id, .slice (some ⟨b, off, none⟩) pts.length c] 93)) wr) ∧ Hid ((∀ j x, j < kk → pts[j]? = some x → plB x = true) ∧ (∀ j, j < kk → keeps pts.toArray j = true)))
  case atStart => exact ⟨0, Nat.zero_le _, by omega, rfl, hbox, fun j x hj => absurd hj (Nat.not_lt_zero _), fun j hj => absurd hj (Nat.not_lt_zero _)⟩
  case round =>
    obtain ⟨kk, hkk, hg, rfl, hx, H⟩ := hrel
    obtain ⟨hc, hf, hz⟩ := hx.out.rules
    simp only [World.size_alloc] at hz
    have hz0 : w.heap.size < wr.heap.size := by omega
    have hxw : Ext w wr := ((Ext.refl w).alloc _).trans hx.out
    have hbw : b < wr.heap.size := by omega
    clear hb
    by_cases hlt : kk < pts.length
    · obtain ⟨y, hy⟩ : ∃ y, pts[kk]? = some y := ⟨_, List.getElem?_eq_getElem hlt⟩
      have Y := Lib.hid hy
      have K3 := Lib.hid (place_26 y)
      have hltz : (kk : Int) < (pts.length : Int) := by omega
      have hkb : (kk : Int) ≤ 64 := by omega
      cases hp : plB y with
      | false =>
        have hF : Hid (lineOk ⟨id, some ⟨b, off, none⟩, c, pts⟩ = false) := by
          show _ = _
          have : (pts.any fun x => !plB x) = true := by rw [List.any_eq_true]; exact ⟨y, List.mem_of_getElem? hy, by rw [hp]; rfl⟩
          rw [hR.out, this]; rfl
        rw [hp] at K3
        obtain ⟨y1, y2⟩ := y
        have c0 : wr.cell? ⟨b, off + kk * 2, none⟩ = some (.int .i64 y1) := by have := (hS.ext hxw).at_ hy (i := 0) rfl; simpa using this
        have c1 : wr.cell? ⟨b, off + kk * 2 + 1, none⟩ = some (.int .i64 y2) := by have := (hS.ext hxw).at_ hy (i := 1) rfl; simpa using this
        clear hy hp
        go_wp2_with fail
        (refine wp_region_ext (by kernel_rfl) (by kernel_rfl) ?_; (repeat (first | go_big_quiet_step ((go_at_call 26; exact Xt.calls (K3.out _))) | quiet_step ((go_at_call 26; exact Xt.calls (K3.out _))))); refine wpQuiet_nil ?_; rintro _ ⟨xq, rfl⟩; have hx2 := xq.ext; generalize xq.world = w2 at hx2 ⊢)
        go_wp2
        go_ret
        exact ⟨retb hF.out.symm, hxw.trans hx2⟩
      | true =>
        rw [hp] at K3
        have HP := Lib.hid hp
        clear hp
        cases kk with
        | zero =>
          obtain ⟨y1, y2⟩ := y
          have c0 : wr.cell? ⟨b, off, none⟩ = some (.int .i64 y1) := by have := (hS.ext hxw).at_ hy (i := 0) rfl; simpa using this
          have c1 : wr.cell? ⟨b, off + 1, none⟩ = some (.int .i64 y2) := by have := (hS.ext hxw).at_ hy (i := 1) rfl; simpa using this
          clear hy
          go_wp2_with fail
          (refine wp_region_ext (by kernel_rfl) (by kernel_rfl) ?_; (repeat (first | go_big_quiet_step ((go_at_call 26; exact Xt.calls (K3.out _))) | quiet_step ((go_at_call 26; exact Xt.calls (K3.out _))))); refine wpQuiet_nil ?_; rintro _ ⟨xq, rfl⟩; have hx2 := xq.ext; generalize xq.world = w2 at hx2 ⊢)
          go_wp2
          go_roundg (pts.length - 1)
          case measure => omega
          case rel =>
            refine ⟨1, by omega, by omega, by go_num, hx.out.trans hx2, fun j x hj hjx => ?_, fun j hj => ?_⟩
            · obtain rfl : j = 0 := by omega
              have := Y.out.symm.trans hjx
              cases this
              exact HP.out
            · obtain rfl : j = 0 := by omega
              exact keeps_lt_one _ 0 (by omega)
        | succ m =>
          obtain ⟨q, hq⟩ : ∃ q, pts[m]? = some q := ⟨_, List.getElem?_eq_getElem (by omega)⟩
          have hke := Lib.hid (keeps_at hy hq)
          obtain ⟨y1, y2⟩ := y
          obtain ⟨p1, p2⟩ := q
          have c0 : wr.cell? ⟨b, off + (m + 1) * 2, none⟩ = some (.int .i64 y1) := by have := (hS.ext hxw).at_ hy (i := 0) rfl; simpa using this
          have c1 : wr.cell? ⟨b, off + (m + 1) * 2 + 1, none⟩ = some (.int .i64 y2) := by have := (hS.ext hxw).at_ hy (i := 1) rfl; simpa using this
          have g0 : wr.cell? ⟨b, off + m * 2, none⟩ = some (.int .i64 p1) := by have := (hS.ext hxw).at_ hq (i := 0) rfl; simpa using this
          have g1 : wr.cell? ⟨b, off + m * 2 + 1, none⟩ = some (.int .i64 p2) := by have := (hS.ext hxw).at_ hq (i := 1) rfl; simpa using this
          have hm4 : (m : Int) ≤ 64 := by omega
          clear hy hq
          by_cases hdup : y1 = p1 ∧ y2 = p2
          · have hF : Hid (lineOk ⟨id, some ⟨b, off, none⟩, c, pts⟩ = false) := by
              show _ = _
              rw [hR.out, decide_eq_false (cpt_len_ne hlt (by rw [hke.out]; simp [hdup.1, hdup.2])), Bool.and_false]
            obtain ⟨rfl, rfl⟩ := hdup
            go_wp2_with fail
            (refine wp_region_ext (by kernel_rfl) (by kernel_rfl) ?_; (repeat (first | go_big_quiet_step ((go_at_call 26; exact Xt.calls (K3.out _))) | quiet_step ((go_at_call 26; exact Xt.calls (K3.out _))))); refine wpQuiet_nil ?_; rintro _ ⟨xq, rfl⟩; have hx2 := xq.ext; generalize xq.world = w2 at hx2 ⊢)
            go_wp2
            go_ret
            exact ⟨retb hF.out.symm, hxw.trans hx2⟩
          · have hk2 : Hid (keeps pts.toArray (m + 1) = true) := by
              show _ = _
              rw [hke.out]
              simp only [Bool.not_eq_true', Bool.and_eq_false_iff, decide_eq_false_iff_not]
              omega
            have D : y1 ≠ p1 ∨ (y1 = p1 ∧ y2 ≠ p2) := by omega
            have hNext : Hid ((∀ j x, j < m + 1 + 1 → pts[j]? = some x → plB x = true) ∧ (∀ j, j < m + 1 + 1 → keeps pts.toArray j = true)) := by
              refine ⟨fun j x hj hjx => ?_, fun j hj => ?_⟩
              · by_cases e : j = m + 1
                · subst e
                  have := Y.out.symm.trans hjx
                  cases this
                  exact HP.out
                · exact H.out.1 j x (by omega) hjx
              · by_cases e : j = m + 1
                · subst e; exact hk2.out
                · exact H.out.2 j (by omega)
            clear hdup hke hk2
            rcases D with d | ⟨rfl, d⟩
            all_goals
              go_wp2_with fail
              (refine wp_region_ext (by kernel_rfl) (by kernel_rfl) ?_; (repeat (first | go_big_quiet_step ((go_at_call 26; exact Xt.calls (K3.out _))) | quiet_step ((go_at_call 26; exact Xt.calls (K3.out _))))); refine wpQuiet_nil ?_; rintro _ ⟨xq, rfl⟩; have hx2 := xq.ext; generalize xq.world = w2 at hx2 ⊢)
              go_wp2
              go_roundg (pts.length - (m + 1 + 1))
              case measure => omega
              case rel => exact ⟨m + 1 + 1, by omega, by omega, by go_num, hx.out.trans hx2, hNext.out⟩
    · have hltz : ¬ (kk : Int) < (pts.length : Int) := by omega
      have hF : Hid (lineOk ⟨id, some ⟨b, off, none⟩, c, pts⟩ = true) := by
        show _ = _
        have h1 : (pts.any fun x => !plB x) = false := by
          rw [List.any_eq_false]
          intro x hx'
          obtain ⟨j, hj, e⟩ := List.getElem_of_mem hx'
          rw [H.out.1 j x (by omega) (by rw [List.getElem?_eq_getElem hj, e])]; simp
        have h2 : cpt pts = pts := cpt_all (fun j hj => H.out.2 j (by omega))
        rw [hR.out, h1, h2, decide_eq_true rfl]; rfl
      go_wp2
      go_ret
      exact ⟨retb hF.out.symm, hxw⟩

end Go.Proofs.YtcgghcicnanliaaGreatDoor
namespace Go.Proofs.YtcgghcicnanliaaGreatDoor
open Go.RowKit
set_option maxHeartbeats 2000000
set_option maxRecDepth 100000

theorem cmpI_zero (a : Int) : cmpI a 0 = 0 ↔ a = 0 := by unfold cmpI; split <;> (try split) <;> omega
theorem orI3 (a b c : Int) : orI [a, b, c] = 0 ↔ a = 0 ∧ b = 0 ∧ c = 0 := by
  simp only [orI]
  by_cases h1 : a = 0
  · by_cases h2 : b = 0
    · by_cases h3 : c = 0 <;> simp [h1, h2, h3]
    · simp [h1, h2]
  · simp [h1]
theorem cmpF_zero (f : FlowT) : decide (cmpF f zeroF = 0) = (decide (f.x = 0) && decide (f.y = 0) && decide (f.slot = 0)) := by
  obtain ⟨x, y, s, _, _, _, _, _, _⟩ := f
  rw [Bool.eq_iff_iff]
  simp only [cmpF, zeroF, Bool.and_eq_true, decide_eq_true_eq, orI3, cmpI_zero]
  omega

theorem refTide_46 (t : TideT) (w : World) (h : Sl FlowT.vals 9 w t.A t.flows) :
    Calls Tryz.prog 46 #[.agg t.vals.toArray] w fun e w' => e = .returned (.bool (tideOk t)) ∧ Ext w w' := by
  obtain ⟨version, start, slots, ⟨r1, r2, r3, r4, r5, r6, r7, r8, r9⟩, A, c, flows⟩ := t
  simp only [TideT.vals, FlowT.vals, List.cons_append, List.nil_append] at h ⊢
  have K0 := Lib.hid (refBounds_106 ⟨r1, r2, r3, r4, r5, r6, r7, r8, r9⟩)
  have hR : Hid (tideOk ⟨version, start, slots, ⟨r1, r2, r3, r4, r5, r6, r7, r8, r9⟩, A, c, flows⟩ = (inB version 1 1000000 && inB start 0 1000000000 && inB slots 0 1000 && decide (flows.length ≤ 4000) && FlowT.ok ⟨r1, r2, r3, r4, r5, r6, r7, r8, r9⟩ && (decide (r1 = 0) && decide (r2 = 0) && decide (r3 = 0)) && flowsOk slots flows)) := by
    show _ = _
    have := cmpF_zero ⟨r1, r2, r3, r4, r5, r6, r7, r8, r9⟩
    simp only at this
    simp only [tideOk, this]
  have hsl : Hid (inB slots 0 1000 = true → 0 ≤ slots ∧ slots ≤ 1000) := fun e => by simpa [inB] using e
  generalize FlowT.ok ⟨r1, r2, r3, r4, r5, r6, r7, r8, r9⟩ = q0 at K0 hR
  generalize hq1 : inB version 1 1000000 = q1 at hR
  generalize hq2 : inB start 0 1000000000 = q2 at hR
  generalize hq3 : inB slots 0 1000 = q3 at hR hsl
  simp only [FlowT.vals] at K0
  by_cases hall : q0 = true ∧ q1 = true ∧ q2 = true ∧ q3 = true ∧ r1 = 0 ∧ r2 = 0 ∧ r3 = 0 ∧ flows.length ≤ 4000
  rotate_left
  · have hF : Hid (tideOk ⟨version, start, slots, ⟨r1, r2, r3, r4, r5, r6, r7, r8, r9⟩, A, c, flows⟩ = false) := by
      show _ = _
      rw [hR.out, Bool.eq_false_iff]
      intro hh
      apply hall
      simp only [Bool.and_eq_true, decide_eq_true_eq] at hh
      obtain ⟨⟨⟨⟨⟨⟨a1, a2⟩, a3⟩, a4⟩, a5⟩, ⟨a6, a7⟩, a8⟩, a9⟩ := hh
      exact ⟨a5, a1, a2, a3, a6, a7, a8, a4⟩
    have HA := Lib.hid hall
    clear hall hR hsl
    go_enter Tryz.func46, Tryz.ntmps46
    go_wp2_with (first
      | (go_at_call 106; refine (K0.out _).mono ?_; rintro e w1 ⟨rfl, hb1⟩; obtain ⟨hc1, hf1, hz1⟩ := hb1.rules; (try simp only [World.size_alloc] at hz1); (have hzz1 : w.heap.size < w1.heap.size := by omega))
      | (go_at_call 107; refine (in_107 _ _ _ _).mono ?_; rintro e w' ⟨rfl, rfl⟩; try simp only [hq1, hq2, hq3]))
    all_goals first
      | (go_ret; exact ⟨retb hF.out.symm, xt⟩)
      | (exfalso; apply HA.out; refine ⟨by simp_all, by simp_all, by simp_all, by simp_all, by simp_all, by simp_all, by simp_all, by omega⟩)
  obtain ⟨rfl, rfl, rfl, rfl, rfl, rfl, rfl, hl⟩ := hall
  have hR2 : Hid (tideOk ⟨version, start, slots, ⟨0, 0, 0, r4, r5, r6, r7, r8, r9⟩, A, c, flows⟩ = flowsOk slots flows) := by show _ = _; rw [hR.out, decide_eq_true hl]; simp
  obtain ⟨hs0, hs1⟩ := hsl.out rfl
  clear hR hsl
  have hbox : Hid (∀ W, Ext (w.alloc (.cells #[.int .i64 version, .int .i64 start, .int .i64 slots, .int .i64 0, .int .i64 0, .int .i64 0, .int .i64 r4, .int .i64 r5, .int .i64 r6, .int .i64 r7, .int .i64 r8, .int .i64 r9, .slice A flows.length c] 33)) W → Ext (w.alloc (.cells #[.int .i64 version, .int .i64 start, .int .i64 slots, .int .i64 0, .int .i64 0, .int .i64 0, .int .i64 r4, .int .i64 r5, .int .i64 r6, .int .i64 r7, .int .i64 r8, .int .i64 r9, .slice A flows.length c] 33)) W) := fun _ h => h
  have hlz : ¬ (4000 : Int) < (flows.length : Int) := by omega
  go_enter Tryz.func46, Tryz.ntmps46
  go_wp2_with (first
    | (go_at_call 106; refine (K0.out _).mono ?_; rintro e w1 ⟨rfl, hb1⟩; obtain ⟨hc1, hf1, hz1⟩ := hb1.rules; (try simp only [World.size_alloc] at hz1); (have hzz1 : w.heap.size < w1.heap.size := by omega))
    | (go_at_call 107; refine (in_107 _ _ _ _).mono ?_; rintro e w' ⟨rfl, rfl⟩; try simp only [hq1, hq2, hq3]))
  have hst := Lib.hid hb1
  clear hc1 hf1 hz1 hzz1 hb1
  go_loopg [7, 8, 9, 10, 11] flows.length (fun gg s7 _ _ _ _ wr => ∃ kk : Nat, kk ≤ flows.length ∧ flows.length - kk ≤ gg ∧ s7 = .int .i64 kk ∧ Hid (Ext (w.alloc (.cells #[.int .i64 version, .int .i64 start, .int .i64 slots, .int .i64 0, .int .i64 0, .int .i64 0, .int .i64 r4, .int .i64 r5, .int .i64 r6, .int .i64 r7, .int .i64 r8, .int .i64 r9, .slice A flows.length c] 33)) wr) ∧ Hid (∀ j, j < kk → flowOkAt slots flows j = true))
  case atStart => exact ⟨0, Nat.zero_le _, by omega, rfl, hst, fun j hj => absurd hj (Nat.not_lt_zero _)⟩
  case round =>
    obtain ⟨kk, hkk, hg, rfl, hx, H⟩ := hrel
    obtain ⟨hc, hf, hz⟩ := hx.out.rules
    simp only [World.size_alloc] at hz
    have hz0 : w.heap.size < wr.heap.size := by omega
    have hxw : Ext w wr := ((Ext.refl w).alloc _).trans hx.out
    by_cases hlt : kk < flows.length
    · obtain ⟨b, off, rfl⟩ := h.addr (by omega)
      have hb := h.blk (by omega)
      have hbw : b < wr.heap.size := by omega
      clear hb
      obtain ⟨y, hy⟩ : ∃ y, flows[kk]? = some y := ⟨_, List.getElem?_eq_getElem hlt⟩
      have Y := Lib.hid hy
      have G0 := Lib.hid (refBounds_106 y)
      have hN : Hid (flowNear y = (inB y.x (-50) 50 && inB y.y (-50) 50)) := rfl
      generalize hok : y.ok = p0 at G0
      generalize hp1 : inB y.x (-50) 50 = p1 at hN
      generalize hp2 : inB y.y (-50) 50 = p2 at hN
      have OK := Lib.hid hok
      have F0 : Hid ((flowNear y && decide (0 ≤ y.slot) && decide (y.slot < slots) && p0) = false → flowsOk slots flows = false) := fun hh => all_range_false hlt (by unfold flowOkAt; rw [Y.out]; simp only [OK.out]; rw [hh]; rfl)
      have hltz : (kk : Int) < (flows.length : Int) := by omega
      have hkb : (kk : Int) ≤ 4000 := by omega
      clear hok
      by_cases hn : p0 = true ∧ p1 = true ∧ p2 = true ∧ 0 ≤ y.slot ∧ y.slot < slots
      · obtain ⟨rfl, rfl, rfl, hn2, hn3⟩ := hn
        have hok0 : Hid ((flowNear y && decide (0 ≤ y.slot) && decide (y.slot < slots) && y.ok) = true) := by show _ = _; rw [hN.out, OK.out]; simp [hn2, hn3]
        clear F0 hN OK
        cases kk with
        | zero =>
          have hok : Hid (flowOkAt slots flows 0 = true) := by show flowOkAt slots flows 0 = true; unfold flowOkAt; rw [Y.out]; simp only [hok0.out, Bool.true_and]
          clear hok0 Y
          obtain ⟨f1, f2, f3, f4, f5, f6, f7, f8, f9⟩ := y
          simp only [FlowT.vals] at hn2 hn3 G0 hp1 hp2
          have c0 : wr.cell? ⟨b, off, none⟩ = some (.int .i64 f1) := by have := (h.ext hxw).at_ hy (i := 0) rfl; simpa using this
          have c1 : wr.cell? ⟨b, off + 1, none⟩ = some (.int .i64 f2) := by have := (h.ext hxw).at_ hy (i := 1) rfl; simpa using this
          have c2 : wr.cell? ⟨b, off + 2, none⟩ = some (.int .i64 f3) := by have := (h.ext hxw).at_ hy (i := 2) rfl; simpa using this
          have c3 : wr.cell? ⟨b, off + 3, none⟩ = some (.int .i64 f4) := by have := (h.ext hxw).at_ hy (i := 3) rfl; simpa using this
          have c4 : wr.cell? ⟨b, off + 4, none⟩ = some (.int .i64 f5) := by have := (h.ext hxw).at_ hy (i := 4) rfl; simpa using this
          have c5 : wr.cell? ⟨b, off + 5, none⟩ = some (.int .i64 f6) := by have := (h.ext hxw).at_ hy (i := 5) rfl; simpa using this
          have c6 : wr.cell? ⟨b, off + 6, none⟩ = some (.int .i64 f7) := by have := (h.ext hxw).at_ hy (i := 6) rfl; simpa using this
          have c7 : wr.cell? ⟨b, off + 7, none⟩ = some (.int .i64 f8) := by have := (h.ext hxw).at_ hy (i := 7) rfl; simpa using this
          have c8 : wr.cell? ⟨b, off + 8, none⟩ = some (.int .i64 f9) := by have := (h.ext hxw).at_ hy (i := 8) rfl; simpa using this
          clear hy
          go_wp2_with (first
            | (go_at_call 106; refine (G0.out _).mono ?_; rintro e w1 ⟨rfl, hb1⟩; obtain ⟨hc1, hf1, hz1⟩ := hb1.rules; (try simp only [World.size_alloc] at hz1); (have hzz1 : wr.heap.size < w1.heap.size := by omega); (have hzy1 : w.heap.size < w1.heap.size := by omega))
            | (go_at_call 107; refine (in_107 _ _ _ _).mono ?_; rintro e w' ⟨rfl, rfl⟩; try simp only [hp1, hp2]))
          (refine wp_region_ext (by kernel_rfl) (by kernel_rfl) ?_; (repeat (first | go_big_quiet_step (fail) | quiet_step (fail))); refine wpQuiet_nil ?_; rintro _ ⟨xq, rfl⟩; have hx2 := xq.ext; generalize xq.world = w2 at hx2 ⊢)
          go_wp2
          go_roundg (flows.length - 1)
          case measure => omega
          case rel => exact ⟨1, by omega, by omega, by go_num, ((hx.out.alloc _).trans hb1).trans hx2, fun (j : Nat) (hj : j < 1) => by obtain rfl : j = 0 := (by omega); exact hok.out⟩
        | succ m =>
          obtain ⟨q, hq⟩ : ∃ q, flows[m]? = some q := ⟨_, List.getElem?_eq_getElem (by omega)⟩
          have hokm : Hid (flowOkAt slots flows (m + 1) = decide (cmpF q y < 0)) := by show flowOkAt slots flows (m + 1) = _; unfold flowOkAt; rw [Y.out]; simp only [hok0.out, Bool.true_and, hq]
          have G4 := Lib.hid (refBefore_108 q y)
          clear hok0 Y
          generalize decide (cmpF q y < 0) = cq at hokm G4
          have hm4 : (m : Int) ≤ 4000 := by omega
          obtain ⟨f1, f2, f3, f4, f5, f6, f7, f8, f9⟩ := y
          obtain ⟨q1, q2, q3, q4, q5, q6, q7, q8, q9⟩ := q
          simp only [FlowT.vals] at hn2 hn3 G0 G4 hp1 hp2
          have c0 : wr.cell? ⟨b, off + (m + 1) * 9, none⟩ = some (.int .i64 f1) := by have := (h.ext hxw).at_ hy (i := 0) rfl; simpa using this
          have c1 : wr.cell? ⟨b, off + (m + 1) * 9 + 1, none⟩ = some (.int .i64 f2) := by have := (h.ext hxw).at_ hy (i := 1) rfl; simpa using this
          have c2 : wr.cell? ⟨b, off + (m + 1) * 9 + 2, none⟩ = some (.int .i64 f3) := by have := (h.ext hxw).at_ hy (i := 2) rfl; simpa using this
          have c3 : wr.cell? ⟨b, off + (m + 1) * 9 + 3, none⟩ = some (.int .i64 f4) := by have := (h.ext hxw).at_ hy (i := 3) rfl; simpa using this
          have c4 : wr.cell? ⟨b, off + (m + 1) * 9 + 4, none⟩ = some (.int .i64 f5) := by have := (h.ext hxw).at_ hy (i := 4) rfl; simpa using this
          have c5 : wr.cell? ⟨b, off + (m + 1) * 9 + 5, none⟩ = some (.int .i64 f6) := by have := (h.ext hxw).at_ hy (i := 5) rfl; simpa using this
          have c6 : wr.cell? ⟨b, off + (m + 1) * 9 + 6, none⟩ = some (.int .i64 f7) := by have := (h.ext hxw).at_ hy (i := 6) rfl; simpa using this
          have c7 : wr.cell? ⟨b, off + (m + 1) * 9 + 7, none⟩ = some (.int .i64 f8) := by have := (h.ext hxw).at_ hy (i := 7) rfl; simpa using this
          have c8 : wr.cell? ⟨b, off + (m + 1) * 9 + 8, none⟩ = some (.int .i64 f9) := by have := (h.ext hxw).at_ hy (i := 8) rfl; simpa using this
          have g0 : wr.cell? ⟨b, off + m * 9, none⟩ = some (.int .i64 q1) := by have := (h.ext hxw).at_ hq (i := 0) rfl; simpa using this
          have g1 : wr.cell? ⟨b, off + m * 9 + 1, none⟩ = some (.int .i64 q2) := by have := (h.ext hxw).at_ hq (i := 1) rfl; simpa using this
          have g2 : wr.cell? ⟨b, off + m * 9 + 2, none⟩ = some (.int .i64 q3) := by have := (h.ext hxw).at_ hq (i := 2) rfl; simpa using this
          have g3 : wr.cell? ⟨b, off + m * 9 + 3, none⟩ = some (.int .i64 q4) := by have := (h.ext hxw).at_ hq (i := 3) rfl; simpa using this
          have g4 : wr.cell? ⟨b, off + m * 9 + 4, none⟩ = some (.int .i64 q5) := by have := (h.ext hxw).at_ hq (i := 4) rfl; simpa using this
          have g5 : wr.cell? ⟨b, off + m * 9 + 5, none⟩ = some (.int .i64 q6) := by have := (h.ext hxw).at_ hq (i := 5) rfl; simpa using this
          have g6 : wr.cell? ⟨b, off + m * 9 + 6, none⟩ = some (.int .i64 q7) := by have := (h.ext hxw).at_ hq (i := 6) rfl; simpa using this
          have g7 : wr.cell? ⟨b, off + m * 9 + 7, none⟩ = some (.int .i64 q8) := by have := (h.ext hxw).at_ hq (i := 7) rfl; simpa using this
          have g8 : wr.cell? ⟨b, off + m * 9 + 8, none⟩ = some (.int .i64 q9) := by have := (h.ext hxw).at_ hq (i := 8) rfl; simpa using this
          clear hy hq
          go_wp2_with (first
            | (go_at_call 106; refine (G0.out _).mono ?_; rintro e w1 ⟨rfl, hb1⟩; obtain ⟨hc1, hf1, hz1⟩ := hb1.rules; (try simp only [World.size_alloc] at hz1); (have hzz1 : wr.heap.size < w1.heap.size := by omega); (have hzy1 : w.heap.size < w1.heap.size := by omega))
            | (go_at_call 107; refine (in_107 _ _ _ _).mono ?_; rintro e w' ⟨rfl, rfl⟩; try simp only [hp1, hp2]))
          have hxw1 : Ext w w1 := (hxw.alloc _).trans hb1
          have hbw1 : b < w1.heap.size := by have := hxw1.len; omega
          cases cq with
          | false =>
            have hF : Hid (flowsOk slots flows = false) := all_range_false hlt (by rw [hokm.out])
            (refine wp_region_ext (by kernel_rfl) (by kernel_rfl) ?_; (repeat (first | go_big_quiet_step ((go_at_call 108; exact Xt.calls (G4.out _))) | quiet_step ((go_at_call 108; exact Xt.calls (G4.out _))))); refine wpQuiet_nil ?_; rintro _ ⟨xq, rfl⟩; have hx2 := xq.ext; generalize xq.world = w2 at hx2 ⊢)
            go_wp2
            go_ret
            exact ⟨retb (by rw [hR2.out, hF.out]), hxw1.trans hx2⟩
          | true =>
            (refine wp_region_ext (by kernel_rfl) (by kernel_rfl) ?_; (repeat (first | go_big_quiet_step ((go_at_call 108; exact Xt.calls (G4.out _))) | quiet_step ((go_at_call 108; exact Xt.calls (G4.out _))))); refine wpQuiet_nil ?_; rintro _ ⟨xq, rfl⟩; have hx2 := xq.ext; generalize xq.world = w2 at hx2 ⊢)
            go_wp2
            go_roundg (flows.length - (m + 1 + 1))
            case measure => omega
            case rel => exact ⟨m + 1 + 1, by omega, by omega, by go_num, ((hx.out.alloc _).trans hb1).trans hx2, fun (j : Nat) (hj : j < m + 1 + 1) => by by_cases e : j = m + 1; (subst e; exact hokm.out); exact H.out j (by omega)⟩
      · have hF : Hid (flowsOk slots flows = false) := F0.out (by
          rw [hN.out, Bool.eq_false_iff]
          intro hh
          apply hn
          simp only [Bool.and_eq_true, decide_eq_true_eq] at hh
          obtain ⟨⟨⟨⟨a1, a2⟩, a3⟩, a4⟩, a5⟩ := hh
          exact ⟨a5, a1, a2, a3, a4⟩)
        have hcase : p0 = false ∨ (p0 = true ∧ p1 = false) ∨ (p0 = true ∧ p1 = true ∧ p2 = false) ∨ (p0 = true ∧ p1 = true ∧ p2 = true ∧ y.slot < 0) ∨ (p0 = true ∧ p1 = true ∧ p2 = true ∧ 0 ≤ y.slot ∧ slots ≤ y.slot) := by
          cases p0
          · exact .inl rfl
          cases p1
          · exact .inr (.inl ⟨rfl, rfl⟩)
          cases p2
          · exact .inr (.inr (.inl ⟨rfl, rfl, rfl⟩))
          by_cases h0 : y.slot < 0
          · exact .inr (.inr (.inr (.inl ⟨rfl, rfl, rfl, h0⟩)))
          · refine .inr (.inr (.inr (.inr ⟨rfl, rfl, rfl, by omega, ?_⟩)))
            by_cases h1 : slots ≤ y.slot
            · exact h1
            · exact absurd ⟨rfl, rfl, rfl, by omega, by omega⟩ hn
        clear hn F0 hN OK Y
        obtain ⟨f1, f2, f3, f4, f5, f6, f7, f8, f9⟩ := y
        simp only [FlowT.vals] at G0 hp1 hp2 hcase
        have c0 : wr.cell? ⟨b, off + kk * 9, none⟩ = some (.int .i64 f1) := by have := (h.ext hxw).at_ hy (i := 0) rfl; simpa using this
        have c1 : wr.cell? ⟨b, off + kk * 9 + 1, none⟩ = some (.int .i64 f2) := by have := (h.ext hxw).at_ hy (i := 1) rfl; simpa using this
        have c2 : wr.cell? ⟨b, off + kk * 9 + 2, none⟩ = some (.int .i64 f3) := by have := (h.ext hxw).at_ hy (i := 2) rfl; simpa using this
        have c3 : wr.cell? ⟨b, off + kk * 9 + 3, none⟩ = some (.int .i64 f4) := by have := (h.ext hxw).at_ hy (i := 3) rfl; simpa using this
        have c4 : wr.cell? ⟨b, off + kk * 9 + 4, none⟩ = some (.int .i64 f5) := by have := (h.ext hxw).at_ hy (i := 4) rfl; simpa using this
        have c5 : wr.cell? ⟨b, off + kk * 9 + 5, none⟩ = some (.int .i64 f6) := by have := (h.ext hxw).at_ hy (i := 5) rfl; simpa using this
        have c6 : wr.cell? ⟨b, off + kk * 9 + 6, none⟩ = some (.int .i64 f7) := by have := (h.ext hxw).at_ hy (i := 6) rfl; simpa using this
        have c7 : wr.cell? ⟨b, off + kk * 9 + 7, none⟩ = some (.int .i64 f8) := by have := (h.ext hxw).at_ hy (i := 7) rfl; simpa using this
        have c8 : wr.cell? ⟨b, off + kk * 9 + 8, none⟩ = some (.int .i64 f9) := by have := (h.ext hxw).at_ hy (i := 8) rfl; simpa using this
        clear hy
        rcases hcase with rfl | ⟨rfl, rfl⟩ | ⟨rfl, rfl, rfl⟩ | ⟨rfl, rfl, rfl, hs2⟩ | ⟨rfl, rfl, rfl, hs2, hs3⟩
        all_goals
          go_wp2_with (first
            | (go_at_call 106; refine (G0.out _).mono ?_; rintro e w1 ⟨rfl, hb1⟩; obtain ⟨hc1, hf1, hz1⟩ := hb1.rules; (try simp only [World.size_alloc] at hz1); (have hzz1 : wr.heap.size < w1.heap.size := by omega); (have hzy1 : w.heap.size < w1.heap.size := by omega))
            | (go_at_call 107; refine (in_107 _ _ _ _).mono ?_; rintro e w' ⟨rfl, rfl⟩; try simp only [hp1, hp2]))
          all_goals (go_ret; exact ⟨retb (by rw [hR2.out, hF.out]), (hxw.alloc _).trans hb1⟩)
    · have hT : Hid (flowsOk slots flows = true) := all_range_true (fun j hj => H.out j (by omega))
      have hltz : ¬ (kk : Int) < (flows.length : Int) := by omega
      go_wp2
      go_ret
      exact ⟨retb (by rw [hR2.out, hT.out]), hxw⟩

end Go.Proofs.YtcgghcicnanliaaGreatDoor
namespace Go.Proofs.YtcgghcicnanliaaGreatDoor
open Go.RowKit
set_option maxHeartbeats 4000000
set_option maxRecDepth 100000

theorem hullValid_one (b off c : Nat) (p : Pt) (w : World) (hS : Sl encP 2 w (some ⟨b, off, none⟩) [p]) (hp : plB p = true) :
    Calls Tryz.prog 146 #[.slice (some ⟨b, off, none⟩) 1 c] w fun e w' => e = .returned (.bool true) ∧ Ext w w' := by
  obtain ⟨h1, h2, h3, h4⟩ := plB_bds hp
  have hb := hS.blk (by simp)
  have K1 := Lib.hid (fun W => (isPlace_247 p ⟨by omega, by omega⟩ ⟨by omega, by omega⟩ W).mono fun e w' h => (⟨h.1, h.2.1⟩ : e = .returned (.bool (plB p)) ∧ Ext W w'))
  rw [hp] at K1
  have e0 : w.cell? ⟨b, off, none⟩ = some (.int .i64 p.1) := by have := hS.at_ (j := 0) (i := 0) rfl rfl; simpa using this
  have e1 : w.cell? ⟨b, off + 1, none⟩ = some (.int .i64 p.2) := by have := hS.at_ (j := 0) (i := 1) rfl rfl; simpa using this
  obtain ⟨p1, p2⟩ := p
  simp only at *
  clear hS hp
  refine (callsIn_wide (n := 5)).1 ?_
  refine callsIn_of_wp_marks Tryz.func146 rfl trivial ?_ rfl
  refine wpIn_wide.2 ?_
  simp only [Tryz.ntmps146, List.size_toArray, List.length_cons, List.length_nil, Nat.reduceAdd, Nat.reduceSub, Array.replicate_succ, Array.replicate_zero, List.push_toArray, List.append_toArray, List.nil_append, List.cons_append]
  go_wp2
  refine wp_loop_rounds 2 ?_
  rw [rounds_succ]
  go_wp2
  (refine wp_region_ext (by kernel_rfl) (by kernel_rfl) ?_; (repeat (first | go_big_quiet_step ((go_at_call 247; exact Xt.calls (K1.out _))) | quiet_step ((go_at_call 247; exact Xt.calls (K1.out _))))); refine wpQuiet_nil ?_; rintro _ ⟨xq, rfl⟩; have hx2 := xq.ext; generalize xq.world = w2 at hx2 ⊢)
  obtain ⟨hc9, hf9, hz9⟩ := hx2.rules
  (try simp only [World.size_alloc] at hz9)
  have hz9a : w.heap.size < w2.heap.size := by omega
  have hz9b : w.heap.size + 1 < w2.heap.size := by omega
  go_wp2
  rw [rounds_succ]
  go_wp2
  have hs2 : w2.cell? ⟨w.heap.size + 1, 0, none⟩ = some (.bool false) := (hc9 (w.heap.size + 1) 0 (by simp only [World.size_alloc]; omega)).trans (by simp [go_sem])
  exact ⟨.bool true, by simp [results, Tryz.f146, go_sem, hs2], rfl, Ext.setCell (Ext.trans (((Ext.refl w).alloc _).alloc _ |>.alloc _) hx2) (by simp only; omega) _⟩

theorem lineIsPlace_184 (p : Pt) (hp : plB p = true) (w : World) : Calls Tryz.prog 184 #[.agg #[.int .i64 p.1, .int .i64 p.2]] w fun e w' => e = .returned (.bool true) ∧ Ext w w' := by
  have K := Lib.hid (fun W => hullValid_one W.heap.size 0 1 p (W.alloc (.cells #[.int .i64 p.1, .int .i64 p.2] 43)) (Sl.new (enc := encP) (fun _ => rfl) W [p] 43) hp)
  obtain ⟨p1, p2⟩ := p
  simp only at *
  clear hp
  go_enter Tryz.func184, Tryz.ntmps184
  have K1 := K.out (w.alloc (.cells #[.int .i64 p1, .int .i64 p2] 43))
  simp only [World.size_alloc] at K1
  have K2 := Lib.hid K1
  clear K K1
  go_wp2_with (go_at_call 146; refine (K2.out).mono ?_; rintro e w1 ⟨rfl, hb1⟩)
  go_ret
  exact ⟨rfl, xt⟩
theorem lineValid1_264 (p : Pt) (hp : plB p = true) (w : World) : Calls Tryz.prog 264 #[.agg #[.int .i64 p.1, .int .i64 p.2]] w fun e w' => e = .returned (.bool false) ∧ Ext w w' := by
  have K := Lib.hid (lineIsPlace_184 p hp)
  obtain ⟨p1, p2⟩ := p
  simp only at *
  clear hp
  go_enter Tryz.func264, Tryz.ntmps264
  go_wp2_with (go_at_call 184; refine (K.out _).mono ?_; rintro e w1 ⟨rfl, hb1⟩)
  go_ret
  exact ⟨rfl, xt⟩
end Go.Proofs.YtcgghcicnanliaaGreatDoor
