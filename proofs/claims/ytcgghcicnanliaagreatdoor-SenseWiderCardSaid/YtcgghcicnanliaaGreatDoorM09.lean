/- Walks: the table of rows (layer 12), the cells' closure. Conditions: none. Walks: small functions of the references of layers 1, 3, 12, 13, 15, 21. Conditions: none. Walks: cut.turn, cut.crosses. Conditions: none. Walks: exact.Floor, exact.Ceil, tide.down, tide.block, tide.isPlace. Conditions: a divisor from 1 on. -/
import Derived.Test.YtcgghcicnanliaaGreatDoorProg
import Derived.Test.YtcgghcicnanliaaGreatDoorM08
import Derived.Test.YtcgghcicnanliaaGreatDoorM07
import Derived.Test.YtcgghcicnanliaaGreatDoorM06
import Derived.Deep.LoopGhost
import Derived.Shelf.Abstract
set_option linter.unusedVariables false
set_option linter.unusedSimpArgs false
namespace Go.Proofs.YtcgghcicnanliaaGreatDoor
open Go.RowKit
set_option maxHeartbeats 400000
set_option maxRecDepth 100000

theorem chartValid1_87 (lo hi date : Int) (void : Bool) (w : World) :
    Calls Tryz.prog 87 #[.agg #[.int .i64 lo, .int .i64 hi, .int .i64 date, .bool void]] w fun e w' => e = .returned (.bool (!cellOk lo hi date)) ∧ Ext w w' := by
  go_enter Tryz.func87, Tryz.ntmps87
  go_wp2_with (go_at_call 88; refine (isCell_88 _ _ _ _ _).mono ?_; rintro e w' ⟨rfl, hb⟩; obtain ⟨hc, hf, hz⟩ := hb.rules; (try simp only [World.size_alloc] at hz); have hz0 : w.heap.size < w'.heap.size := by omega; (try have hz1 : w.heap.size + 1 < w'.heap.size := by omega); (try have hz2 : w.heap.size + 1 + 1 < w'.heap.size := by omega); (try have hz3 : w.heap.size + 1 + 1 + 1 < w'.heap.size := by omega))
  all_goals (go_ret; exact ⟨rfl, xt⟩)

def hold3 (a b c d e f g h i : Int) : Bool := (decide (b ≤ a) && decide (a ≤ c)) && (decide (e ≤ d) && decide (d ≤ f)) && (decide (h ≤ g) && decide (g ≤ i))

theorem hold_151 (a b c d e f g h i : Int) (w : World) :
    Calls Tryz.prog 151 #[.agg #[.int .i64 a, .int .i64 b, .int .i64 c, .int .i64 d, .int .i64 e, .int .i64 f, .int .i64 g, .int .i64 h, .int .i64 i]] w fun r w' => r = .returned (.bool (hold3 a b c d e f g h i)) ∧ Ext w w' := by
  have i0 : ∀ W, (Instr.index 203 (.agg #[.int .i64 a, .int .i64 b, .int .i64 c, .int .i64 d, .int .i64 e, .int .i64 f, .int .i64 g, .int .i64 h, .int .i64 i]) (.int .i64 0)).run Tryz.prog W = .ok (.agg #[.int .i64 a, .int .i64 b, .int .i64 c]) W := fun _ => by kernel_rfl
  have i1 : ∀ W, (Instr.index 203 (.agg #[.int .i64 a, .int .i64 b, .int .i64 c, .int .i64 d, .int .i64 e, .int .i64 f, .int .i64 g, .int .i64 h, .int .i64 i]) (.int .i64 1)).run Tryz.prog W = .ok (.agg #[.int .i64 d, .int .i64 e, .int .i64 f]) W := fun _ => by kernel_rfl
  have i2 : ∀ W, (Instr.index 203 (.agg #[.int .i64 a, .int .i64 b, .int .i64 c, .int .i64 d, .int .i64 e, .int .i64 f, .int .i64 g, .int .i64 h, .int .i64 i]) (.int .i64 2)).run Tryz.prog W = .ok (.agg #[.int .i64 g, .int .i64 h, .int .i64 i]) W := fun _ => by kernel_rfl
  go_enter Tryz.func151, Tryz.ntmps151
  go_wp2
  refine wp_loop_rounds 4 ?_
  repeat any_goals (rw [rounds_succ]; go_wp2)
  all_goals (go_ret; exact ⟨retb (by rw [Bool.eq_iff_iff]; (try simp [hold3]) <;> omega), xt⟩)

/-- table.isRow. -/
def rowOk (r : RowT) : Bool := hold3 r.tlo (-1000) r.thi r.thi (-1000) 1000 r.age 0 10000 && hold3 r.since 0 1000000000 r.part 0 500 r.turn 0 8

theorem isRow_100 (r : RowT) (w : World) :
    Calls Tryz.prog 100 #[.agg (encRow r).toArray] w fun e w' => e = .returned (.bool (rowOk r)) ∧ Ext w w' := by
  obtain ⟨a, b, c, d, f, g⟩ := r
  simp only [encRow, rowOk]
  go_enter Tryz.func100, Tryz.ntmps100
  go_wp2_with (go_at_call 151; refine (hold_151 _ _ _ _ _ _ _ _ _ _).mono ?_; rintro e w' ⟨rfl, hb⟩; obtain ⟨hc, hf, hz⟩ := hb.rules; (try simp only [World.size_alloc] at hz); have hz0 : w.heap.size < w'.heap.size := by omega; (try have hz1 : w.heap.size + 1 < w'.heap.size := by omega); (try have hz2 : w.heap.size + 1 + 1 < w'.heap.size := by omega); (try have hz3 : w.heap.size + 1 + 1 + 1 < w'.heap.size := by omega))
  all_goals (go_ret; exact ⟨retb (by simp_all), xt⟩)

theorem tableValid1_99 (r : RowT) (w : World) :
    Calls Tryz.prog 99 #[.agg (encRow r).toArray] w fun e w' => e = .returned (.bool (!rowOk r)) ∧ Ext w w' := by
  have hcon := Lib.hid (isRow_100 r)
  generalize rowOk r = o at hcon ⊢
  obtain ⟨a, b, c, d, f, g⟩ := r
  simp only [encRow] at hcon ⊢
  go_enter Tryz.func99, Tryz.ntmps99
  go_wp2_with (go_at_call 100; refine (hcon.out _).mono ?_; rintro e w' ⟨rfl, hb⟩)
  all_goals (go_ret; exact ⟨rfl, xt⟩)

/-- table.Valid. -/
def rowsOk (l : List RowT) : Bool := decide (l.length ≤ 50) && !(l.any fun r => !rowOk r)

theorem eg_99 : ∀ args w, (callFunc 99 args).run Tryz.prog w = .ok (.enter 99 args) w := enters_of Tryz.func99 (by kernel_rfl) rfl

theorem tableValid_43 (A : Option Addr) (c : Nat) (l : List RowT) (w : World) (h : Sl encRow 6 w A l) :
    Calls Tryz.prog 43 #[.slice A l.length c] w fun e w' => e = .returned (.bool (rowsOk l)) ∧ Ext w w' := by
  have hcon : l.length ≤ 50 → _ := fun hl => containsFunc_98 99 #[] eg_99 (fun r => !rowOk r) A c l w (by omega) h (fun W x _ _ => by simpa using tableValid1_99 x W)
  have H := Lib.hid hcon
  clear hcon
  unfold rowsOk
  generalize (l.any fun r => !rowOk r) = o at H ⊢
  by_cases hl : l.length ≤ 50
  · have h1 : decide (l.length ≤ 50) = true := by simpa using hl
    go_enter Tryz.func43, Tryz.ntmps43
    go_wp2_with (go_at_call 98; refine (H.out hl).mono ?_; rintro e w' ⟨rfl, hb⟩)
    all_goals (go_ret; exact ⟨retb (by simp_all), xt⟩)
  · go_enter Tryz.func43, Tryz.ntmps43
    go_wp2_with fail
    all_goals (go_ret; exact ⟨retb (by simp_all), xt⟩)

end Go.Proofs.YtcgghcicnanliaaGreatDoor
namespace Go.Proofs.YtcgghcicnanliaaGreatDoor
open Go.RowKit
set_option maxHeartbeats 4000000
set_option maxRecDepth 100000

theorem in_167 (n lo hi : Int) (w : World) : Calls Tryz.prog 167 #[.int .i64 n, .int .i64 lo, .int .i64 hi] w fun e w' => e = .returned (.bool (inB n lo hi)) ∧ w = w' := by
  go_enter Tryz.func167, Tryz.ntmps167
  go_wp2
  all_goals (go_ret; exact ⟨retb (by rw [Bool.eq_iff_iff]; (try simp [inB]) <;> omega), rfl⟩)
theorem in_170 (n lo hi : Int) (w : World) : Calls Tryz.prog 170 #[.int .i64 n, .int .i64 lo, .int .i64 hi] w fun e w' => e = .returned (.bool (inB n lo hi)) ∧ w = w' := by
  go_enter Tryz.func170, Tryz.ntmps170
  go_wp2
  all_goals (go_ret; exact ⟨retb (by rw [Bool.eq_iff_iff]; (try simp [inB]) <;> omega), rfl⟩)
theorem in_79 (n lo hi : Int) (w : World) : Calls Tryz.prog 79 #[.int .i64 n, .int .i64 lo, .int .i64 hi] w fun e w' => e = .returned (.bool (inB n lo hi)) ∧ w = w' := by
  go_enter Tryz.func79, Tryz.ntmps79
  go_wp2
  all_goals (go_ret; exact ⟨retb (by rw [Bool.eq_iff_iff]; (try simp [inB]) <;> omega), rfl⟩)
theorem in_107 (n lo hi : Int) (w : World) : Calls Tryz.prog 107 #[.int .i64 n, .int .i64 lo, .int .i64 hi] w fun e w' => e = .returned (.bool (inB n lo hi)) ∧ w = w' := by
  go_enter Tryz.func107, Tryz.ntmps107
  go_wp2
  all_goals (go_ret; exact ⟨retb (by rw [Bool.eq_iff_iff]; (try simp [inB]) <;> omega), rfl⟩)

theorem place_26 (p : Pt) (w : World) : Calls Tryz.prog 26 #[.agg #[.int .i64 p.1, .int .i64 p.2]] w fun e w' => e = .returned (.bool (plB p)) ∧ Ext w w' := by
  obtain ⟨x, y⟩ := p
  simp only [plB]
  go_enter Tryz.func26, Tryz.ntmps26
  go_wp2
  all_goals (go_ret; exact ⟨retb (by rw [Bool.eq_iff_iff]; (try simp [inB]) <;> omega), xt⟩)

theorem refCell_105 (lo hi date : Int) (void : Bool) (w : World) :
    Calls Tryz.prog 105 #[.agg #[.int .i64 lo, .int .i64 hi, .int .i64 date, .bool void]] w fun e w' => e = .returned (.bool (cellOk lo hi date)) ∧ Ext w w' := by
  go_enter Tryz.func105, Tryz.ntmps105
  go_wp2_with (go_at_call 167; refine (in_167 _ _ _ _).mono ?_; rintro e w' ⟨rfl, rfl⟩)
  all_goals (go_ret; exact ⟨retb (by rw [Bool.eq_iff_iff]; simp_all [inB, cellOk] <;> omega), xt⟩)

/-- A span from lo to hi. -/
def spanIn (a b lo hi : Int) : Bool := decide (lo ≤ a) && decide (a ≤ b) && decide (b ≤ hi)
theorem refWithin_169 (a b lo hi : Int) (w : World) :
    Calls Tryz.prog 169 #[.agg #[.int .i64 a, .int .i64 b], .int .i64 lo, .int .i64 hi] w fun e w' => e = .returned (.bool (spanIn a b lo hi)) ∧ Ext w w' := by
  go_enter Tryz.func169, Tryz.ntmps169
  go_wp2
  all_goals (go_ret; exact ⟨retb (by rw [Bool.eq_iff_iff]; (try simp [spanIn]) <;> omega), xt⟩)
theorem echoWithin_225 (a b lo hi : Int) (w : World) :
    Calls Tryz.prog 225 #[.agg #[.int .i64 a, .int .i64 b], .int .i64 lo, .int .i64 hi] w fun e w' => e = .returned (.bool (spanIn a b lo hi)) ∧ Ext w w' := by
  go_enter Tryz.func225, Tryz.ntmps225
  go_wp2
  all_goals (go_ret; exact ⟨retb (by rw [Bool.eq_iff_iff]; (try simp [spanIn]) <;> omega), xt⟩)
theorem span_80 (a b lo hi : Int) (w : World) :
    Calls Tryz.prog 80 #[.agg #[.int .i64 a, .int .i64 b], .int .i64 lo, .int .i64 hi] w fun e w' => e = .returned (.bool (spanIn a b lo hi)) ∧ Ext w w' := by
  have e : spanIn a b lo hi = (inB a lo b && decide (b ≤ hi)) := rfl
  rw [e]
  clear e
  have K := Lib.hid (in_79 a lo b)
  generalize inB a lo b = q at K ⊢
  go_enter Tryz.func80, Tryz.ntmps80
  go_wp2_with (go_at_call 79; refine (K.out _).mono ?_; rintro e w' ⟨rfl, rfl⟩)
  all_goals (go_ret; exact ⟨retb (by simp_all), xt⟩)

theorem within_eq (a b m : Int) (hm : m ≤ 1000000) : within a b m = spanIn a b (-m) m := by
  rw [Bool.eq_iff_iff]; simp [within, spanOk, spanIn]; omega
theorem refBounds_106 (f : FlowT) (w : World) : Calls Tryz.prog 106 #[.agg f.vals.toArray] w fun e w' => e = .returned (.bool f.ok) ∧ Ext w w' := by
  have hok : f.ok = (spanIn f.ulo f.uhi (-5000) 5000 && spanIn f.vlo f.vhi (-5000) 5000 && spanIn f.hlo f.hhi (-2000) 2000) := by
    simp only [FlowT.ok]
    rw [within_eq _ _ _ (by omega), within_eq _ _ _ (by omega), within_eq _ _ _ (by omega)]
  rw [hok]
  clear hok
  obtain ⟨x, y, s, a, b, c, d, g, h⟩ := f
  simp only [FlowT.vals]
  go_enter Tryz.func106, Tryz.ntmps106
  go_wp2_with (go_at_call 169; refine (refWithin_169 _ _ _ _ _).mono ?_; rintro e w1 ⟨rfl, hb1⟩; obtain ⟨hc1, hf1, hz1⟩ := hb1.rules; (try simp only [World.size_alloc] at hz1); have hzz1 : w.heap.size < w1.heap.size := by omega)
  all_goals (go_ret; exact ⟨retb (by simp_all), xt⟩)

theorem cmpF_lt (f g : FlowT) : decide (cmpF f g < 0) = (if f.slot ≠ g.slot then decide (f.slot < g.slot) else if f.y ≠ g.y then decide (f.y < g.y) else decide (f.x < g.x)) := by
  simp only [cmpF, orI, cmpI]
  split <;> split <;> (try split) <;> (rw [Bool.eq_iff_iff]) <;> (repeat' split) <;> simp <;> omega
theorem refBefore_108 (f g : FlowT) (w : World) : Calls Tryz.prog 108 #[.agg f.vals.toArray, .agg g.vals.toArray] w fun e w' => e = .returned (.bool (decide (cmpF f g < 0))) ∧ Ext w w' := by
  rw [cmpF_lt]
  obtain ⟨x, y, s, _, _, _, _, _, _⟩ := f
  obtain ⟨x', y', s', _, _, _, _, _, _⟩ := g
  simp only [FlowT.vals]
  by_cases h1 : s = s'
  · subst h1
    by_cases h2 : y = y'
    · subst h2
      simp only [ne_eq, not_true_eq_false, if_false]
      go_enter Tryz.func108, Tryz.ntmps108
      go_wp2
      all_goals (go_ret; exact ⟨rfl, xt⟩)
    · have hb : (y != y') = true := by simp [h2]
      simp only [ne_eq, not_true_eq_false, if_false, h2, not_false_eq_true, if_true]
      go_enter Tryz.func108, Tryz.ntmps108
      go_wp2
      all_goals (go_ret; exact ⟨rfl, xt⟩)
  · have hb : (s != s') = true := by simp [h1]
    simp only [ne_eq, h1, not_false_eq_true, if_true]
    go_enter Tryz.func108, Tryz.ntmps108
    go_wp2
    all_goals (go_ret; exact ⟨rfl, xt⟩)

theorem refRow_109 (r : RowT) (w : World) : Calls Tryz.prog 109 #[.agg (encRow r).toArray] w fun e w' => e = .returned (.bool (rowOk r)) ∧ Ext w w' := by
  have hok : rowOk r = (inB r.tlo (-1000) 1000 && inB r.thi r.tlo 1000 && inB r.age 0 10000 && inB r.since 0 1000000000 && inB r.part 0 500 && inB r.turn 0 8) := by
    rw [Bool.eq_iff_iff]; simp [rowOk, hold3, inB]; omega
  rw [hok]
  clear hok
  obtain ⟨a, b, c, d, f, g⟩ := r
  simp only [encRow]
  go_enter Tryz.func109, Tryz.ntmps109
  go_wp2_with (go_at_call 170; refine (in_170 _ _ _ _).mono ?_; rintro e w' ⟨rfl, rfl⟩)
  all_goals (go_ret; exact ⟨retb (by simp_all), xt⟩)

end Go.Proofs.YtcgghcicnanliaaGreatDoor
namespace Go.Proofs.YtcgghcicnanliaaGreatDoor
open Go.RowKit
set_option maxHeartbeats 4000000
set_option maxRecDepth 100000
attribute [local go_sem] Oper.semAt_some

theorem cutTurn_404 (a b c : Pt) (ha : Mid a) (hb : Mid b) (hc : Mid c) (w : World) :
    Calls Tryz.prog 404 #[.agg #[.int .i64 a.1, .int .i64 a.2], .agg #[.int .i64 b.1, .int .i64 b.2], .agg #[.int .i64 c.1, .int .i64 c.2]] w fun e w' => e = .returned (.int .i64 (turnP a b c)) ∧ Ext w w' := by
  obtain ⟨a1, a2⟩ := a
  obtain ⟨b1, b2⟩ := b
  obtain ⟨c1, c2⟩ := c
  simp only [Mid, turnP] at *
  have h1 := mul_bd (x := b1 - a1) (y := c2 - a2) (m := 2000000) (n := 2000000) (by omega) (by omega) (by omega) (by omega)
  have h2 := mul_bd (x := b2 - a2) (y := c1 - a1) (m := 2000000) (n := 2000000) (by omega) (by omega) (by omega) (by omega)
  simp only [Int.reduceMul, Int.reduceNeg] at h1 h2
  go_enter Tryz.func404, Tryz.ntmps404
  go_wp2
  go_ret
  exact ⟨rfl, xt⟩

/-- cut.crosses. -/
def crossB (s t : Int) : Bool := (decide (s < 0) && decide (0 < t)) || (decide (0 < s) && decide (t < 0))
theorem crosses_357 (s t : Int) (w : World) : Calls Tryz.prog 357 #[.int .i64 s, .int .i64 t] w fun e w' => e = .returned (.bool (crossB s t)) ∧ w = w' := by
  have D : (s < 0 ∧ 0 < t) ∨ (s < 0 ∧ ¬ 0 < t) ∨ (¬ s < 0 ∧ 0 < s ∧ t < 0) ∨ (¬ s < 0 ∧ 0 < s ∧ ¬ t < 0) ∨ (¬ s < 0 ∧ ¬ 0 < s) := by omega
  rcases D with ⟨h1, h2⟩ | ⟨h1, h2⟩ | ⟨h1, h2, h3⟩ | ⟨h1, h2, h3⟩ | ⟨h1, h2⟩
  all_goals
    first | (have e0 : decide (s < 0) = true := decide_eq_true (by omega)) | (have e0 : decide (s < 0) = false := decide_eq_false (by omega)) | skip
    first | (have e1 : decide (0 < s) = true := decide_eq_true (by omega)) | (have e1 : decide (0 < s) = false := decide_eq_false (by omega)) | skip
    first | (have e2 : decide (0 < t) = true := decide_eq_true (by omega)) | (have e2 : decide (0 < t) = false := decide_eq_false (by omega)) | skip
    first | (have e3 : decide (t < 0) = true := decide_eq_true (by omega)) | (have e3 : decide (t < 0) = false := decide_eq_false (by omega)) | skip
    go_enter Tryz.func357, Tryz.ntmps357
    go_wp2
    all_goals (go_ret; exact ⟨retb (by rw [Bool.eq_iff_iff]; simp [crossB]; omega), rfl⟩)

end Go.Proofs.YtcgghcicnanliaaGreatDoor
namespace Go.Proofs.YtcgghcicnanliaaGreatDoor
open Go.RowKit
set_option maxHeartbeats 4000000
set_option maxRecDepth 100000

theorem isWide_388 (n : Int) (w : World) :
    Calls Tryz.prog 388 #[.int .i64 n] w fun e w' => e = .returned (.bool (inB n (-1000000000000) 1000000000000)) ∧ w = w' := by
  go_enter Tryz.func388, Tryz.ntmps388
  go_wp2
  all_goals (go_ret; exact ⟨retb (by rw [Bool.eq_iff_iff]; (try simp [inB]) <;> omega), rfl⟩)

/-- Numbers within MaxSpan, a divisor from 1 on: what exact.divide gives. -/
structure Wide (a b : Int) : Prop where
  a1 : -1000000000000 ≤ a
  a2 : a ≤ 1000000000000
  b1 : 1 ≤ b
  b2 : b ≤ 1000000000000
theorem Wide.bds {a b : Int} (h : Wide a b) : 0 ≤ a % b ∧ a % b < b ∧ -1000000000000 ≤ a / b ∧ a / b ≤ 1000000000000 := by
  obtain ⟨h1, h2, h3, h4⟩ := h
  refine ⟨Int.emod_nonneg _ (by omega), Int.emod_lt_of_pos _ (by omega), Int.le_ediv_of_mul_le (by omega) (by omega), Int.ediv_le_of_le_mul (by omega) (by omega)⟩

theorem divide_389 (a b : Int) (h : Wide a b) (w : World) :
    Calls Tryz.prog 389 #[.int .i64 a, .int .i64 b] w fun e w' => e = .returned (.agg #[.int .i64 (a / b), .int .i64 (a % b)]) ∧ Ext w w' := by
  obtain ⟨m0, m1, q0, q1⟩ := h.bds
  obtain ⟨h1, h2, h3, h4⟩ := h
  have hb0 : (b == 0) = false := by simp; omega
  have hb1 : ¬ b = 0 := by omega
  have hbl : decide (b < 0) = false := decide_eq_false (by omega)
  by_cases hz : a % b = 0
  · have ht : a.tdiv b = a / b := by rw [Int.tdiv_eq_ediv, if_pos (.inr (Int.dvd_of_emod_eq_zero hz))]; omega
    have hr : a.tmod b = 0 := by rw [Int.tmod_eq_emod, if_pos (.inr (Int.dvd_of_emod_eq_zero hz)), hz]; rfl
    have hn : (a.tmod b != 0) = false := by simp [hr]
    rw [hz]
    clear hz m1 m0
    go_enter Tryz.func389, Tryz.ntmps389
    go_wp2
    all_goals go_region
    all_goals go_wp2
    all_goals ((try simp only [Exit.inBlock, Exit.then]); refine bodyPost_ret (by first | (simp [results, Tryz.f389, go_sem]; rfl) | (simp [results, Tryz.f389, go_sem]; done) | (simp [results, Tryz.f389, go_sem, *]; rfl) | (simp [results, Tryz.f389, go_sem, *]; done)) rfl ?_)
    all_goals exact ⟨by simp [ht, hr], xt⟩
  · by_cases hp : 0 ≤ a
    · have ht : a.tdiv b = a / b := by rw [Int.tdiv_eq_ediv, if_pos (.inl hp)]; omega
      have hr : a.tmod b = a % b := by rw [Int.tmod_eq_emod, if_pos (.inl hp)]; omega
      have hn : (a % b != 0) = true := by simp [hz]
      have hl : decide (a % b < 0) = false := decide_eq_false (by omega)
      go_enter Tryz.func389, Tryz.ntmps389
      go_wp2
      all_goals go_region
      all_goals go_wp2
      all_goals ((try simp only [Exit.inBlock, Exit.then]); refine bodyPost_ret (by first | (simp [results, Tryz.f389, go_sem]; rfl) | (simp [results, Tryz.f389, go_sem]; done) | (simp [results, Tryz.f389, go_sem, *]; rfl) | (simp [results, Tryz.f389, go_sem, *]; done)) rfl ?_)
      all_goals exact ⟨by simp [ht, hr], xt⟩
    · have hnd : ¬ (0 ≤ a ∨ b ∣ a) := by
        rintro (h | h)
        · exact hp h
        · exact hz (Int.emod_eq_zero_of_dvd h)
      have hs : b.sign = 1 := Int.sign_eq_one_of_pos (by omega)
      have hnb : (b.natAbs : Int) = b := by omega
      have ht : a.tdiv b = a / b + 1 := by rw [Int.tdiv_eq_ediv, if_neg hnd, hs]
      have hr : a.tmod b = a % b - b := by rw [Int.tmod_eq_emod, if_neg hnd, hnb]
      have hn : (a % b - b != 0) = true := by simp; omega
      have hl : decide (a % b - b < 0) = true := decide_eq_true (by omega)
      go_enter Tryz.func389, Tryz.ntmps389
      go_wp2
      all_goals go_region
      all_goals go_wp2
      all_goals ((try simp only [Exit.inBlock, Exit.then]); refine bodyPost_ret (by first | (simp [results, Tryz.f389, go_sem]; rfl) | (simp [results, Tryz.f389, go_sem]; done) | (simp [results, Tryz.f389, go_sem, *]; rfl) | (simp [results, Tryz.f389, go_sem, *]; done)) rfl ?_)
      all_goals exact ⟨by simp [ht, hr], xt⟩

theorem floor1_338 (q r : Int) (w : World) : Calls Tryz.prog 338 #[.agg #[.int .i64 q, .int .i64 r]] w fun e w' => e = .returned (.int .i64 q) ∧ Ext w w' := by
  go_enter Tryz.func338, Tryz.ntmps338
  go_wp2
  go_ret
  exact ⟨rfl, xt⟩
/-- exact.up. -/
def upI (q r : Int) : Int := if r = 0 then q else q + 1
theorem up_432 (q r : Int) (h1 : -1000000000000 ≤ q) (h2 : q ≤ 1000000000000) (w : World) : Calls Tryz.prog 432 #[.agg #[.int .i64 q, .int .i64 r]] w fun e w' => e = .returned (.int .i64 (upI q r)) ∧ Ext w w' := by
  by_cases hr : r = 0
  · subst hr
    go_enter Tryz.func432, Tryz.ntmps432
    go_wp2
    go_ret
    exact ⟨rfl, xt⟩
  · have e : upI q r = q + 1 := by simp [upI, hr]
    rw [e]
    clear e
    go_enter Tryz.func432, Tryz.ntmps432
    go_wp2
    go_ret
    exact ⟨rfl, xt⟩
theorem eg_338 : ∀ args w, (callFunc 338 args).run Tryz.prog w = .ok (.enter 338 args) w := enters_of Tryz.func338 (by kernel_rfl) rfl
theorem eg_432 : ∀ args w, (callFunc 432 args).run Tryz.prog w = .ok (.enter 432 args) w := enters_of Tryz.func432 (by kernel_rfl) rfl

theorem checked_337 (g : Nat) (eg : ∀ args w, (callFunc g args).run Tryz.prog w = .ok (.enter g args) w) (a b r : Int) (h : Wide a b)
    (hp : ∀ W, Calls Tryz.prog g #[.agg #[.int .i64 (a / b), .int .i64 (a % b)]] W fun e w' => e = .returned (.int .i64 r) ∧ Ext W w') (w : World) :
    Calls Tryz.prog 337 #[.int .i64 a, .int .i64 b, .func (.func g) #[] #[]] w fun e w' => e = .returned (.tuple #[.int .i64 r, .int .i64 0]) ∧ Ext w w' := by
  have K1 : Hid (∀ W, Calls Tryz.prog 388 #[.int .i64 a] W fun e w' => e = .returned (.bool true) ∧ W = w') := fun W => by
    have e : inB a (-1000000000000) 1000000000000 = true := by have := h.a1; have := h.a2; simp [inB]; omega
    rw [← e]; exact isWide_388 a W
  have K2 : Hid (∀ W, Calls Tryz.prog 388 #[.int .i64 b] W fun e w' => e = .returned (.bool true) ∧ W = w') := fun W => by
    have e : inB b (-1000000000000) 1000000000000 = true := by have := h.b1; have := h.b2; simp [inB]; omega
    rw [← e]; exact isWide_388 b W
  have K3 := Lib.hid (divide_389 a b h)
  have K4 := Lib.hid hp
  have hb0 : (b == 0) = false := by have := h.b1; simp; omega
  clear hp h
  generalize a / b = q at K3 K4
  generalize a % b = s at K3 K4
  go_enter Tryz.func337, Tryz.ntmps337
  go_wp2_with (first
    | (go_at_call 388; refine (K1.out _).mono ?_; rintro e w' ⟨rfl, rfl⟩)
    | (go_at_call 388; refine (K2.out _).mono ?_; rintro e w' ⟨rfl, rfl⟩)
    | (go_at_call 389; refine (K3.out _).mono ?_; rintro e w' ⟨rfl, hb⟩)
    | (go_at_fn g; refine (K4.out _).mono ?_; rintro e w2 ⟨rfl, hb2⟩))
  go_ret2
  exact ⟨rfl, xt⟩

theorem floor_261 (a b : Int) (h : Wide a b) (w : World) :
    Calls Tryz.prog 261 #[.int .i64 a, .int .i64 b] w fun e w' => e = .returned (.tuple #[.int .i64 (a / b), .int .i64 0]) ∧ Ext w w' := by
  have K := Lib.hid (checked_337 338 eg_338 a b (a / b) h (fun W => floor1_338 _ _ W))
  generalize a / b = q at K ⊢
  clear h
  go_enter Tryz.func261, Tryz.ntmps261
  go_wp2_with (go_at_call 337; refine (K.out _).mono ?_; rintro e w' ⟨rfl, hb⟩)
  go_ret2
  exact ⟨rfl, xt⟩
/-- exact.Ceil. -/
def ceilI (a b : Int) : Int := upI (a / b) (a % b)
theorem ceil_419 (a b : Int) (h : Wide a b) (w : World) :
    Calls Tryz.prog 419 #[.int .i64 a, .int .i64 b] w fun e w' => e = .returned (.tuple #[.int .i64 (ceilI a b), .int .i64 0]) ∧ Ext w w' := by
  have K := Lib.hid (checked_337 432 eg_432 a b (ceilI a b) h (fun W => up_432 _ _ h.bds.2.2.1 h.bds.2.2.2 W))
  generalize ceilI a b = q at K ⊢
  clear h
  go_enter Tryz.func419, Tryz.ntmps419
  go_wp2_with (go_at_call 337; refine (K.out _).mono ?_; rintro e w' ⟨rfl, hb⟩)
  go_ret2
  exact ⟨rfl, xt⟩
theorem down_176 (a b : Int) (h : Wide a b) (w : World) :
    Calls Tryz.prog 176 #[.int .i64 a, .int .i64 b] w fun e w' => e = .returned (.int .i64 (a / b)) ∧ Ext w w' := by
  have K := Lib.hid (floor_261 a b h)
  generalize a / b = q at K ⊢
  clear h
  go_enter Tryz.func176, Tryz.ntmps176
  go_wp2_with (go_at_call 261; refine (K.out _).mono ?_; rintro e w' ⟨rfl, hb⟩)
  go_ret
  exact ⟨rfl, xt⟩

theorem tideIsPlace_173 (p : Pt) (w : World) :
    Calls Tryz.prog 173 #[.agg #[.int .i64 p.1, .int .i64 p.2]] w fun e w' => e = .returned (.bool (plB p)) ∧ Ext w w' := by
  obtain ⟨x, y⟩ := p
  simp only [plB]
  go_enter Tryz.func173, Tryz.ntmps173
  go_wp2
  all_goals (go_ret; exact ⟨retb (by rw [Bool.eq_iff_iff]; (try simp [inB]) <;> omega), xt⟩)
theorem regionIsPlace_280 (p : Pt) (w : World) :
    Calls Tryz.prog 280 #[.agg #[.int .i64 p.1, .int .i64 p.2]] w fun e w' => e = .returned (.bool (plB p)) ∧ Ext w w' := by
  obtain ⟨x, y⟩ := p
  simp only [plB]
  go_enter Tryz.func280, Tryz.ntmps280
  go_wp2
  all_goals (go_ret; exact ⟨retb (by rw [Bool.eq_iff_iff]; (try simp [inB]) <;> omega), xt⟩)
theorem cutIsPlace_422 (p : Pt) (w : World) :
    Calls Tryz.prog 422 #[.agg #[.int .i64 p.1, .int .i64 p.2]] w fun e w' => e = .returned (.bool (plB p)) ∧ Ext w w' := by
  obtain ⟨x, y⟩ := p
  simp only [plB]
  go_enter Tryz.func422, Tryz.ntmps422
  go_wp2
  all_goals (go_ret; exact ⟨retb (by rw [Bool.eq_iff_iff]; (try simp [inB]) <;> omega), xt⟩)

theorem block_174 (x y : Int) (hx1 : -1000000 ≤ x) (hx2' : x ≤ 1000000) (hy1 : -1000000 ≤ y) (hy2 : y ≤ 1000000) (w : World) :
    Calls Tryz.prog 174 #[.agg #[.int .i64 x, .int .i64 y]] w fun e w' => e = .returned (.agg #[.int .i64 (x / 10000), .int .i64 (y / 10000)]) ∧ Ext w w' := by
  go_enter Tryz.func174, Tryz.ntmps174
  go_wp2
  (refine wp_region_ext_tail 6 (by kernel_rfl) (by kernel_rfl) ?_; simp only [List.take_succ_cons, List.take_zero, List.drop_succ_cons, List.drop_zero]; (repeat (first | go_big_quiet_step ((go_at_call 176; exact Xt.calls (down_176 _ _ ⟨by omega, by omega, by omega, by omega⟩ _))) | quiet_step ((go_at_call 176; exact Xt.calls (down_176 _ _ ⟨by omega, by omega, by omega, by omega⟩ _))))); refine wpQuiet_nil ?_; rintro _ ⟨xq, rfl⟩; have hx2 := xq.ext; generalize xq.world = w2 at hx2 ⊢; obtain ⟨hc9, hf9, hz9⟩ := hx2.rules; (try simp only [World.size_alloc] at hz9); (try have hz9a : w.heap.size < w2.heap.size := by omega); (try have hz9b : w.heap.size + 1 < w2.heap.size := by omega); (try have hz9c : w.heap.size + 1 + 1 < w2.heap.size := by omega); (try have hz9d : w.heap.size + 1 + 1 + 1 < w2.heap.size := by omega))
  go_wp2
  ((try simp only [Exit.inBlock, Exit.then]); refine bodyPost_ret (by first | (simp [results, Tryz.f174, go_sem]; rfl) | (simp [results, Tryz.f174, go_sem]; done) | (simp [results, Tryz.f174, go_sem, *]; rfl) | (simp [results, Tryz.f174, go_sem, *]; done)) rfl ?_)
  exact ⟨rfl, xt⟩

end Go.Proofs.YtcgghcicnanliaaGreatDoor
