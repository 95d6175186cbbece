/- Walks: line.Close's closure. Conditions: places, a distance. -/
import Derived.Test.YtcgghcicnanliaaGreatDoorProg
import Derived.Test.YtcgghcicnanliaaGreatDoorM23
import Derived.Test.YtcgghcicnanliaaGreatDoorM07
import Derived.Test.YtcgghcicnanliaaGreatDoorM06
import Derived.ChangeKeysEq
set_option linter.unusedVariables false
set_option linter.unusedSimpArgs false
namespace Go.Proofs.YtcgghcicnanliaaGreatDoor
open Go.RowKit
set_option maxHeartbeats 2000000
set_option maxRecDepth 100000

/-- A place is so near to a side. -/
def nearV (u v z : Pt) (d : Int) : Bool :=
  if dotV u v ≤ 0 then decide (dotV v v ≤ d * d)
  else if dotV u u ≤ dotV u v then decide (dotV z z ≤ d * d)
  else decide (crossV u v * crossV u v ≤ d * d * dotV u u)
def nearB (a b x : Pt) (d : Int) : Bool := nearV (subP b a) (subP x a) (subP x b) d
theorem words_le (P Q : Nat) : P ≤ Q ↔ (hiW P = hiW Q ∧ loW P = loW Q) ∨ cmp2 (hiW P) (loW P) (hiW Q) (loW Q) < 0 := by
  unfold cmp2 hiW loW
  simp only [orI, cmpI]
  (repeat' split) <;> omega
theorem run_eqArr2 (a b c d : Int) (W : World) : (binOp .eql 228 (.agg #[.int .u64 a, .int .u64 b]) (.agg #[.int .u64 c, .int .u64 d])).run Tryz.prog W = .ok (.bool (a == c && b == d)) W := by
  rw [run_eql_struct, show (10000 : Nat) = 9998 + 1 + 1 from rfl, run_equalIn_array W (9998 + 1) _ _ Tryz.underlying228 (show Tryz.prog.info? 227 = some _ from rfl)]
  have hc : Tryz.prog.cellsOf 227 = 1 := by kernel_rfl
  have q1 := run_equalIn_int W 9998 227 .u64 .u64 a c Tryz.underlying227
  have q2 := run_equalIn_int W 9998 227 .u64 .u64 b d Tryz.underlying227
  rw [hc]
  by_cases h1 : a = c <;> by_cases h2 : b = d <;> simp [List.range_succ, Op.eqItems, go_sem, q1, q2, h1, h2]

theorem sq_nonneg (a : Int) : 0 ≤ a * a := by
  rcases Int.le_total 0 a with h | h
  · exact Int.mul_nonneg h h
  · exact Int.mul_nonneg_of_nonpos_of_nonpos h h
theorem near_185 (Bx Bd : Nat) (a b x : Pt) (d : Int) (ha : Small a) (hb : Small b) (hx : Small x) (hd : 0 ≤ d ∧ d ≤ 100000) (w : World)
    (c0 : w.cell? ⟨Bx, 0, none⟩ = some (.int .i64 x.1)) (c1 : w.cell? ⟨Bx, 1, none⟩ = some (.int .i64 x.2)) (c2 : w.cell? ⟨Bd, 0, none⟩ = some (.int .i64 d)) (k1 : Bx < w.heap.size) (k2 : Bd < w.heap.size) :
    Calls Tryz.prog 185 #[.agg #[.int .i64 a.1, .int .i64 a.2], .agg #[.int .i64 b.1, .int .i64 b.2], .pointer (some ⟨Bx, 0, none⟩), .pointer (some ⟨Bd, 0, none⟩)] w fun e w' => e = .returned (.bool (nearB a b x d)) ∧ Ext w w' := by
  have L : Hid (∀ (x y z u : Int) (hp : Small (x, y)) (hq : Small (z, u)) (W : World), Calls Tryz.prog 186 #[.agg #[.int .i64 x, .int .i64 y], .agg #[.int .i64 z, .int .i64 u]] W fun e w' => e = .returned (.agg #[.int .i64 (x - z), .int .i64 (y - u)]) ∧ Ext W w') := fun x y z u hp hq W => less_186 (x, y) (z, u) hp hq W
  have D : Hid (∀ (x y z u : Int) (hp : Mid (x, y)) (hq : Mid (z, u)) (W : World), Calls Tryz.prog 187 #[.agg #[.int .i64 x, .int .i64 y], .agg #[.int .i64 z, .int .i64 u]] W fun e w' => e = .returned (.int .i64 (dotV (x, y) (z, u))) ∧ Ext W w') := fun x y z u hp hq W => dot_187 (x, y) (z, u) hp hq W
  have hu := hb.sub ha
  have hv := hx.sub ha
  have hz := hx.sub hb
  obtain ⟨a1, a2⟩ := a
  obtain ⟨b1, b2⟩ := b
  obtain ⟨x1, x2⟩ := x
  unfold nearB
  simp only [subP] at *
  have md := mul_bd (x := d) (y := d) (m := 100000) (n := 100000) (by omega) (by omega) (by omega) (by omega)
  obtain ⟨nn, hNN⟩ : ∃ nn, nearV (b1 - a1, b2 - a2) (x1 - a1, x2 - a2) (x1 - b1, x2 - b2) d = nn := ⟨_, rfl⟩
  rw [hNN]
  have HN := Lib.hid hNN
  clear hNN
  have KE := fun a b c d W => run_eqArr2 a b c d W
  go_enter Tryz.func185, Tryz.ntmps185
  go_upto_region 1 with fail
  obtain ⟨W0, hW0⟩ : ∃ W0, (w.alloc (.cells #[.int .i64 a1, .int .i64 a2] 43)).alloc (.cells #[.int .i64 b1, .int .i64 b2] 43) = W0 := ⟨_, rfl⟩
  have hE0 : Hid (Ext w W0) := by rw [← hW0]; exact ((Ext.refl w).alloc _).alloc _
  have hz0 : W0.heap.size = w.heap.size + 2 := by rw [← hW0]; simp
  have e0 : W0.cell? ⟨w.heap.size, 0, none⟩ = some (.int .i64 a1) := by rw [← hW0]; simp
  have e1 : W0.cell? ⟨w.heap.size, 1, none⟩ = some (.int .i64 a2) := by rw [← hW0]; simp
  have e2 : W0.cell? ⟨w.heap.size + 1, 0, none⟩ = some (.int .i64 b1) := by rw [← hW0]; simp
  have e3 : W0.cell? ⟨w.heap.size + 1, 1, none⟩ = some (.int .i64 b2) := by rw [← hW0]; simp
  have x0 : W0.cell? ⟨Bx, 0, none⟩ = some (.int .i64 x1) := hE0.out.seen k1 c0
  have x1' : W0.cell? ⟨Bx, 1, none⟩ = some (.int .i64 x2) := hE0.out.seen k1 c1
  have y0 : W0.cell? ⟨Bd, 0, none⟩ = some (.int .i64 d) := hE0.out.seen k2 c2
  have s1 : w.heap.size < W0.heap.size := by omega
  have s2 : w.heap.size + 1 < W0.heap.size := by omega
  have s3 : Bx < W0.heap.size := by omega
  have s4 : Bd < W0.heap.size := by omega
  rw [hW0]
  clear hW0 c0 c1 c2 hz0
  refine wp_region_mix (aF := ?aF) 12 [(9, 7, .cells #[.int .i64 0, .int .i64 0] 43), (10, 8, .cells #[.int .i64 0, .int .i64 0] 43), (11, 9, .cells #[.int .i64 0, .int .i64 0] 43)] (by kernel_rfl) (by kernel_rfl) (by kernel_rfl) (by decide) (by decide) ?run (by kernel_rfl) (by decide +kernel) ?walk ?rest
  case run =>
    intro x hx o ho _ a W
    simp only [List.mem_cons, List.not_mem_nil, or_false] at hx
    rcases hx with rfl | rfl | rfl
    all_goals
      cases ho
      simp [go_sem, ptrB]
  case walk =>
    intro W1 hW1
    obtain ⟨hc9, hf9, hz9⟩ := hW1.rules
    have z1 : w.heap.size < W1.heap.size := by omega
    have z2 : w.heap.size + 1 < W1.heap.size := by omega
    have z3 : Bx < W1.heap.size := by omega
    simp only [List.take_succ_cons, List.take_zero, List.filter_cons, isAl, Bool.not_false, Bool.not_true, if_true, Bool.false_eq_true, if_false, List.filter_nil]
    repeat (first | go_big_quiet_step ((go_at_call 186; exact Xt.calls (L.out _ _ _ _ (by assumption) (by assumption) _))) | quiet_step ((go_at_call 186; exact Xt.calls (L.out _ _ _ _ (by assumption) (by assumption) _))))
    refine wpQuiet_nil ?_
    rfl
  case rest =>
    intro bb W1 hW1 hbb hne
    obtain ⟨g7, v7⟩ := hbb (9, 7, .cells #[.int .i64 0, .int .i64 0] 43) (by simp)
    obtain ⟨g8, v8⟩ := hbb (10, 8, .cells #[.int .i64 0, .int .i64 0] 43) (by simp)
    obtain ⟨g9, v9⟩ := hbb (11, 9, .cells #[.int .i64 0, .int .i64 0] 43) (by simp)
    have n1 : bb 9 ≠ bb 10 := hne (9, 7, .cells #[.int .i64 0, .int .i64 0] 43) (by simp) (10, 8, .cells #[.int .i64 0, .int .i64 0] 43) (by simp) (by decide)
    have n2 : bb 9 ≠ bb 11 := hne (9, 7, .cells #[.int .i64 0, .int .i64 0] 43) (by simp) (11, 9, .cells #[.int .i64 0, .int .i64 0] 43) (by simp) (by decide)
    have n3 : bb 10 ≠ bb 11 := hne (10, 8, .cells #[.int .i64 0, .int .i64 0] 43) (by simp) (11, 9, .cells #[.int .i64 0, .int .i64 0] 43) (by simp) (by decide)
    simp only [List.foldl_cons, List.foldl_nil, ptrB, List.drop_succ_cons, List.drop_zero] at g7 v7 g8 v8 g9 v9 ⊢
    generalize bb 9 = p7 at *
    generalize bb 10 = p8 at *
    generalize bb 11 = p9 at *
    clear hbb hne
    have i7 := (Array.getElem?_eq_some_iff.1 v7).1
    have i8 := (Array.getElem?_eq_some_iff.1 v8).1
    have i9 := (Array.getElem?_eq_some_iff.1 v9).1
    have r70 : W1.cell? ⟨p7, 0, none⟩ = some (.int .i64 0) := by simp [World.cell?, v7]
    have r71 : W1.cell? ⟨p7, 1, none⟩ = some (.int .i64 0) := by simp [World.cell?, v7]
    have f70 : ∀ j, W1.frozen? ⟨p7, j, none⟩ = false := fun j => by simp [World.frozen?, v7]
    have r80 : W1.cell? ⟨p8, 0, none⟩ = some (.int .i64 0) := by simp [World.cell?, v8]
    have r81 : W1.cell? ⟨p8, 1, none⟩ = some (.int .i64 0) := by simp [World.cell?, v8]
    have f80 : ∀ j, W1.frozen? ⟨p8, j, none⟩ = false := fun j => by simp [World.frozen?, v8]
    have r90 : W1.cell? ⟨p9, 0, none⟩ = some (.int .i64 0) := by simp [World.cell?, v9]
    have r91 : W1.cell? ⟨p9, 1, none⟩ = some (.int .i64 0) := by simp [World.cell?, v9]
    have f90 : ∀ j, W1.frozen? ⟨p9, j, none⟩ = false := fun j => by simp [World.frozen?, v9]
    have y1 := hW1.seen s4 y0
    have hE1 := Lib.hid (hE0.out.trans hW1)
    have t4 : Bd < W1.heap.size := Nat.lt_of_lt_of_le s4 hW1.len
    have ny7 : Bd ≠ p7 := by omega
    have ny8 : Bd ≠ p8 := by omega
    have ny9 : Bd ≠ p9 := by omega
    clear e0 e1 e2 e3 x0 x1' y0 v7 v8 v9 s1 s2 s3 s4
    have hws : w.heap.size ≤ W0.heap.size := hE0.out.len
    go_upto_region 2 with fail
    refine at_world (G := fun W => Code.wp _ _ _ _ W) (fun W2 => (Ext w W2 ∧ (p7 < W2.heap.size ∧ p8 < W2.heap.size ∧ p9 < W2.heap.size ∧ Bd < W2.heap.size)) ∧ (W2.cell? ⟨p7, 0, none⟩ = some (.int .i64 (b1 - a1)) ∧ W2.cell? ⟨p7, 1, none⟩ = some (.int .i64 (b2 - a2))) ∧ (W2.cell? ⟨p8, 0, none⟩ = some (.int .i64 (x1 - a1)) ∧ W2.cell? ⟨p8, 1, none⟩ = some (.int .i64 (x2 - a2))) ∧ (W2.cell? ⟨p9, 0, none⟩ = some (.int .i64 (x1 - b1)) ∧ W2.cell? ⟨p9, 1, none⟩ = some (.int .i64 (x2 - b2))) ∧ W2.cell? ⟨Bd, 0, none⟩ = some (.int .i64 d)) ?main ?facts
    case facts =>
      refine ⟨⟨?_, ?_⟩, ?_, ?_, ?_, ?_⟩
      · exact (((((hE1.out.setCell (by simp only; omega) _).setCell (by simp only; omega) _).setCell (by simp only; omega) _).setCell (by simp only; omega) _).setCell (by simp only; omega) _).setCell (by simp only; omega) _
      · simp [go_sem, i7, i8, i9, t4]
      · simp [go_sem, r70, r71, r80, r81, r90, r91, n1, n2, n3, Ne.symm n1, Ne.symm n2, Ne.symm n3]
      · simp [go_sem, r70, r71, r80, r81, r90, r91, n1, n2, n3, Ne.symm n1, Ne.symm n2, Ne.symm n3]
      · simp [go_sem, r70, r71, r80, r81, r90, r91, n1, n2, n3, Ne.symm n1, Ne.symm n2, Ne.symm n3]
      · simp [go_sem, y1, ny7, ny8, ny9, Ne.symm ny7, Ne.symm ny8, Ne.symm ny9]
    rintro W2 ⟨⟨hE2, j7, j8, j9, jd⟩, ⟨q70, q71⟩, ⟨q80, q81⟩, ⟨q90, q91⟩, qd⟩
    have hE2 := Lib.hid hE2
    clear r70 r71 r80 r81 r90 r91 f70 f80 f90 i7 i8 i9 y1 hW1 hE1 hE0 t4 n1 n2 n3 ny7 ny8 ny9 g7 g8 g9 hws ha hb hx L
    generalize b1 - a1 = u1 at *
    generalize b2 - a2 = u2 at *
    generalize x1 - a1 = v1 at *
    generalize x2 - a2 = v2 at *
    generalize x1 - b1 = z1 at *
    generalize x2 - b2 = z2 at *
    by_cases h1 : dotV (u1, u2) (v1, v2) ≤ 0
    · have d1 : decide (dotV (u1, u2) (v1, v2) ≤ 0) = true := decide_eq_true h1
      have hN : Hid (nn = decide (dotV (v1, v2) (v1, v2) ≤ d * d)) := by show _ = _; rw [← HN.out]; unfold nearV; rw [if_pos h1]
      clear KE
      go_wp2_with (go_at_call 187; refine (D.out _ _ _ _ (by assumption) (by assumption) _).mono ?_; rintro e w3 ⟨rfl, hb3⟩; obtain ⟨hc3, hf3, hz3⟩ := hb3.rules; (have j73 : p7 < w3.heap.size := by omega); (have j83 : p8 < w3.heap.size := by omega); (have j93 : p9 < w3.heap.size := by omega); (have jd3 : Bd < w3.heap.size := by omega))
      (refine wp_region_ext (by kernel_rfl) (by kernel_rfl) ?_; (repeat (first | go_big_quiet_step (((go_at_call 187; exact Xt.calls (D.out _ _ _ _ (by assumption) (by assumption) _)))) | quiet_step (((go_at_call 187; exact Xt.calls (D.out _ _ _ _ (by assumption) (by assumption) _)))))); refine wpQuiet_nil ?_; rintro _ ⟨xq, rfl⟩; have hx2 := xq.ext; generalize xq.world = w2 at hx2 ⊢)
      go_wp2
      go_ret
      exact ⟨retb hN.out.symm, (hE2.out.trans hb3).trans hx2⟩
    have d1 : decide (dotV (u1, u2) (v1, v2) ≤ 0) = false := decide_eq_false h1
    by_cases h2 : dotV (u1, u2) (u1, u2) ≤ dotV (u1, u2) (v1, v2)
    · have d2 : decide (dotV (u1, u2) (v1, v2) ≥ dotV (u1, u2) (u1, u2)) = true := decide_eq_true h2
      have hN : Hid (nn = decide (dotV (z1, z2) (z1, z2) ≤ d * d)) := by show _ = _; rw [← HN.out]; unfold nearV; rw [if_neg h1, if_pos h2]
      clear KE
      go_wp2_with (go_at_call 187; refine (D.out _ _ _ _ (by assumption) (by assumption) _).mono ?_; rintro e w3 ⟨rfl, hb3⟩; obtain ⟨hc3, hf3, hz3⟩ := hb3.rules; (have j73 : p7 < w3.heap.size := by omega); (have j83 : p8 < w3.heap.size := by omega); (have j93 : p9 < w3.heap.size := by omega); (have jd3 : Bd < w3.heap.size := by omega))
      (refine wp_region_ext (by kernel_rfl) (by kernel_rfl) ?_; (repeat (first | go_big_quiet_step (((go_at_call 187; exact Xt.calls (D.out _ _ _ _ (by assumption) (by assumption) _)))) | quiet_step (((go_at_call 187; exact Xt.calls (D.out _ _ _ _ (by assumption) (by assumption) _)))))); refine wpQuiet_nil ?_; rintro _ ⟨xq, rfl⟩; have hx2 := xq.ext; generalize xq.world = w2 at hx2 ⊢)
      go_wp2
      go_ret
      refine ⟨retb hN.out.symm, ?_⟩
      refine Ext.trans ?_ hx2
      refine Ext.trans ?_ (by assumption)
      refine Ext.trans ?_ (by assumption)
      exact hE2.out
    have d2 : decide (dotV (u1, u2) (v1, v2) ≥ dotV (u1, u2) (u1, u2)) = false := decide_eq_false h2
    have hN : Hid (nn = decide (crossV (u1, u2) (v1, v2) * crossV (u1, u2) (v1, v2) ≤ d * d * dotV (u1, u2) (u1, u2))) := by show _ = _; rw [← HN.out]; unfold nearV; rw [if_neg h1, if_neg h2]
    have P : Hid (∀ (x y : Int) (hx : 0 ≤ x ∧ x < 9223372036854775808) (hy : 0 ≤ y ∧ y < 9223372036854775808) (W : World), Calls Tryz.prog 188 #[.int .i64 x, .int .i64 y] W fun e w' => e = .returned (.agg #[.int .u64 (hiW (x.toNat * y.toNat)), .int .u64 (loW (x.toNat * y.toNat))]) ∧ Ext W w') := fun x y hx hy W => by
      have := product_188 x.toNat y.toNat (by omega) (by omega) W
      rw [Int.toNat_of_nonneg hx.1, Int.toNat_of_nonneg hy.1] at this
      exact this
    have m1 := mul_bd (x := u1) (y := v2) (m := 1000000) (n := 1000000) hu.1 hu.2.1 hv.2.2.1 hv.2.2.2
    have m2 := mul_bd (x := u2) (y := v1) (m := 1000000) (n := 1000000) hu.2.2.1 hu.2.2.2 hv.1 hv.2.1
    have m3 := mul_bd (x := u1) (y := u1) (m := 1000000) (n := 1000000) hu.1 hu.2.1 hu.1 hu.2.1
    have m4 := mul_bd (x := u2) (y := u2) (m := 1000000) (n := 1000000) hu.2.2.1 hu.2.2.2 hu.2.2.1 hu.2.2.2
    have dq0 : Hid (0 ≤ dotV (u1, u2) (u1, u2) ∧ dotV (u1, u2) (u1, u2) < 9223372036854775808) := by
      have s1 := sq_nonneg u1
      have s2 := sq_nonneg u2
      simp only [Int.reduceMul, Int.reduceNeg] at m3 m4
      show 0 ≤ u1 * u1 + u2 * u2 ∧ u1 * u1 + u2 * u2 < 9223372036854775808
      omega
    have dd0 := sq_nonneg d
    simp only [Int.reduceMul, Int.reduceNeg] at m1 m2 md
    clear m3 m4
    obtain ⟨cc, hcc⟩ : ∃ cc, cc = u1 * v2 - u2 * v1 := ⟨_, rfl⟩
    have HC := Lib.hid hcc
    clear KE
    have hdd : 0 ≤ d * d ∧ d * d < 9223372036854775808 := ⟨dd0, by omega⟩
    by_cases hneg : u1 * v2 - u2 * v1 < 0
    · have dn : decide (u1 * v2 - u2 * v1 < 0) = true := decide_eq_true hneg
      go_wp2_with (go_at_call 187; refine (D.out _ _ _ _ (by assumption) (by assumption) _).mono ?_; rintro e w3 ⟨rfl, hb3⟩; obtain ⟨hc3, hf3, hz3⟩ := hb3.rules; (have j73 : p7 < w3.heap.size := by omega); (have j83 : p8 < w3.heap.size := by omega); (have j93 : p9 < w3.heap.size := by omega); (have jd3 : Bd < w3.heap.size := by omega))
      refine at_world (G := fun W => Code.wp _ _ _ _ W) (fun W => (Ext w W ∧ p7 < W.heap.size ∧ Bd < W.heap.size) ∧ W.cell? ⟨p7, 0, none⟩ = some (.int .i64 u1) ∧ W.cell? ⟨p7, 1, none⟩ = some (.int .i64 u2) ∧ W.cell? ⟨Bd, 0, none⟩ = some (.int .i64 d)) ?_ ?_
      rotate_left
      · refine ⟨⟨?_, by assumption, by assumption⟩, ?_⟩
        · refine Ext.trans ?_ (by assumption)
          refine Ext.trans ?_ (by assumption)
          exact hE2.out
        · simp [*]
      generalize hab : -(u1 * v2 - u2 * v1) = ab
      have hab1 : 0 ≤ ab ∧ ab < 9223372036854775808 := by omega
      have hsq : Hid (crossV (u1, u2) (v1, v2) * crossV (u1, u2) (v1, v2) = ab * ab) := by
        show (u1 * v2 - u2 * v1) * (u1 * v2 - u2 * v1) = ab * ab
        rw [← hab]
        rw [Int.neg_mul_neg]
      clear hab hneg dn m1 m2
      rintro W3 ⟨⟨hE3', k7, kd⟩, c70, c71, cd⟩
      have hE3 := Lib.hid hE3'
      clear hE3'
      refine wp_region_mix (aF := ?aF2) 12 [(10, 12, .cells #[.int .u64 0, .int .u64 0] 228), (11, 13, .cells #[.int .u64 0, .int .u64 0] 228)] (by kernel_rfl) (by kernel_rfl) (by kernel_rfl) (by decide) (by decide) ?run (by kernel_rfl) (by decide +kernel) ?walk ?rest
      case run =>
        intro x hx o ho _ a W
        simp only [List.mem_cons, List.not_mem_nil, or_false] at hx
        rcases hx with rfl | rfl
        all_goals
          cases ho
          simp [go_sem, ptrB]
      case walk =>
        intro W4 hW4
        obtain ⟨hc9, hf9, hz9⟩ := hW4.rules
        have z1 : p7 < W4.heap.size := by omega
        have z2 : Bd < W4.heap.size := by omega
        simp only [List.take_succ_cons, List.take_zero, List.filter_cons, isAl, Bool.not_false, Bool.not_true, if_true, Bool.false_eq_true, if_false, List.filter_nil]
        repeat (first | go_big_quiet_step (first | (go_at_call 188; exact Xt.calls (P.out _ _ (by first | exact hab1 | exact hdd) (by first | exact hab1 | exact dq0.out) _)) | (go_at_call 187; exact Xt.calls (D.out _ _ _ _ (by assumption) (by assumption) _))) | quiet_step (first | (go_at_call 188; exact Xt.calls (P.out _ _ (by first | exact hab1 | exact hdd) (by first | exact hab1 | exact dq0.out) _)) | (go_at_call 187; exact Xt.calls (D.out _ _ _ _ (by assumption) (by assumption) _))))
        refine wpQuiet_nil ?_
        rfl
      case rest =>
        intro bb2 W4 hW4 hbb hne
        obtain ⟨g7, v7⟩ := hbb (10, 12, .cells #[.int .u64 0, .int .u64 0] 228) (by simp)
        obtain ⟨g8, v8⟩ := hbb (11, 13, .cells #[.int .u64 0, .int .u64 0] 228) (by simp)
        have n1 : bb2 10 ≠ bb2 11 := hne (10, 12, .cells #[.int .u64 0, .int .u64 0] 228) (by simp) (11, 13, .cells #[.int .u64 0, .int .u64 0] 228) (by simp) (by decide)
        simp only [List.foldl_cons, List.foldl_nil, ptrB, List.drop_succ_cons, List.drop_zero] at g7 v7 g8 v8 ⊢
        generalize bb2 10 = pp at *
        generalize bb2 11 = pq at *
        clear hbb hne
        have i7 := (Array.getElem?_eq_some_iff.1 v7).1
        have i8 := (Array.getElem?_eq_some_iff.1 v8).1
        have r70 : W4.cell? ⟨pp, 0, none⟩ = some (.int .u64 0) := by simp [World.cell?, v7]
        have r71 : W4.cell? ⟨pp, 1, none⟩ = some (.int .u64 0) := by simp [World.cell?, v7]
        have f70 : ∀ j, W4.frozen? ⟨pp, j, none⟩ = false := fun j => by simp [World.frozen?, v7]
        have r80 : W4.cell? ⟨pq, 0, none⟩ = some (.int .u64 0) := by simp [World.cell?, v8]
        have r81 : W4.cell? ⟨pq, 1, none⟩ = some (.int .u64 0) := by simp [World.cell?, v8]
        have f80 : ∀ j, W4.frozen? ⟨pq, j, none⟩ = false := fun j => by simp [World.frozen?, v8]
        have hE4 := Lib.hid (hE3.out.trans hW4)
        have hws : w.heap.size ≤ W3.heap.size := hE3.out.len
        have hA : Hid (nn = decide (ab.toNat * ab.toNat ≤ (d * d).toNat * (dotV (u1, u2) (u1, u2)).toNat)) := by
          show _ = _
          rw [hN.out, hsq.out]
          obtain ⟨q1, q2⟩ := dq0.out
          obtain ⟨q3, q4⟩ := hab1
          have e1 : ((ab.toNat * ab.toNat : Nat) : Int) = ab * ab := by rw [Int.natCast_mul, Int.toNat_of_nonneg q3]
          have e2 : (((d * d).toNat * (dotV (u1, u2) (u1, u2)).toNat : Nat) : Int) = d * d * dotV (u1, u2) (u1, u2) := by rw [Int.natCast_mul, Int.toNat_of_nonneg dd0, Int.toNat_of_nonneg q1]
          rw [← e1, ← e2]
          exact decide_eq_decide.2 Int.ofNat_le
        generalize ab.toNat * ab.toNat = NA at *
        generalize (d * d).toNat * (dotV (u1, u2) (u1, u2)).toNat = NB at *
        clear hN hsq c70 c71 cd hc3 hf3
        go_upto_region 11 with fail
        refine at_world (G := fun W => Code.wp _ _ _ _ W) (fun W => (Ext w W ∧ pp < W.heap.size ∧ pq < W.heap.size) ∧ (W.cell? ⟨pp, 0, none⟩ = some (.int .u64 (hiW NA)) ∧ W.cell? ⟨pp, 1, none⟩ = some (.int .u64 (loW NA))) ∧ W.cell? ⟨pq, 0, none⟩ = some (.int .u64 (hiW NB)) ∧ W.cell? ⟨pq, 1, none⟩ = some (.int .u64 (loW NB))) ?_ ?_
        rotate_left
        · refine ⟨⟨?_, by simp [i7, i8]⟩, ?_, ?_⟩
          · exact (((hE4.out.setCell (by simp only; omega) _).setCell (by simp only; omega) _).setCell (by simp only; omega) _).setCell (by simp only; omega) _
          · simp [go_sem, r70, r71, r80, r81, n1, Ne.symm n1]
          · simp [go_sem, r70, r71, r80, r81, n1, Ne.symm n1]
        rintro W5 ⟨⟨hE5, k5, kq5⟩, ⟨c50, c51⟩, c60, c61⟩
        have hE5 := Lib.hid hE5
        clear r70 r71 r80 r81 f70 f80 i7 i8 v7 v8 hE4 g7 g8
        have hle := Lib.hid (words_le NA NB)
        have CMP := Lib.hid (fun W (a : W.cell? ⟨pp, 0, none⟩ = _) b c d => compare_189 pp pq (hiW NA) (loW NA) (hiW NB) (loW NB) 2 2 W a b c d)
        by_cases heq : hiW NA = hiW NB ∧ loW NA = loW NB
        · have KE : Hid (∀ W, (binOp .eql 228 (.agg #[.int .u64 (hiW NA), .int .u64 (loW NA)]) (.agg #[.int .u64 (hiW NB), .int .u64 (loW NB)])).run Tryz.prog W = .ok (.bool true) W) := fun W => by
            rw [run_eqArr2, beq_iff_eq.2 heq.1, beq_iff_eq.2 heq.2]; rfl
          have hT : Hid (nn = true) := by show _ = _; rw [hA.out, decide_eq_true_eq, hle.out]; exact .inl heq
          generalize hiW NA = ha at *
          generalize loW NA = la at *
          generalize hiW NB = hb at *
          generalize loW NB = lb at *
          clear hle CMP hA heq
          have KE := KE.out
          (refine wp_region_ext (by kernel_rfl) (by kernel_rfl) ?_; (repeat (first | go_big_quiet_step (fail) | quiet_step (fail))); refine wpQuiet_nil ?_; rintro _ ⟨xq, rfl⟩; have hx2 := xq.ext; generalize xq.world = w2 at hx2 ⊢)
          go_wp2
          go_ret
          exact ⟨retb hT.out.symm, hE5.out.trans hx2⟩
        · have KE : Hid (∀ W, (binOp .eql 228 (.agg #[.int .u64 (hiW NA), .int .u64 (loW NA)]) (.agg #[.int .u64 (hiW NB), .int .u64 (loW NB)])).run Tryz.prog W = .ok (.bool false) W) := fun W => by
            rw [run_eqArr2]
            congr 2
            rw [Bool.and_eq_false_iff, beq_eq_false_iff_ne, beq_eq_false_iff_ne]
            by_cases e : hiW NA = hiW NB
            · exact .inr fun e2 => heq ⟨e, e2⟩
            · exact .inl e
          have hT : Hid (nn = decide (cmp2 (hiW NA) (loW NA) (hiW NB) (loW NB) < 0)) := by
            show _ = _
            rw [hA.out]
            refine decide_eq_decide.2 (hle.out.trans ?_)
            exact ⟨fun h => h.resolve_left heq, .inr⟩
          generalize cmp2 (hiW NA) (loW NA) (hiW NB) (loW NB) = cm at *
          generalize hiW NA = ha at *
          generalize loW NA = la at *
          generalize hiW NB = hb at *
          generalize loW NB = lb at *
          clear hle hA heq
          have KE := KE.out
          (refine wp_region_ext (by kernel_rfl) (by kernel_rfl) ?_; (repeat (first | go_big_quiet_step (((go_at_call 189; exact Xt.calls_same (CMP.out _ (by simp [go_sem, *]) (by simp [go_sem, *]) (by simp [go_sem, *]) (by simp [go_sem, *]))))) | quiet_step (((go_at_call 189; exact Xt.calls_same (CMP.out _ (by simp [go_sem, *]) (by simp [go_sem, *]) (by simp [go_sem, *]) (by simp [go_sem, *]))))))); refine wpQuiet_nil ?_; rintro _ ⟨xq, rfl⟩; have hx2 := xq.ext; generalize xq.world = w2 at hx2 ⊢)
          go_wp2
          go_ret
          exact ⟨retb hT.out.symm, hE5.out.trans hx2⟩

    · have dn : decide (u1 * v2 - u2 * v1 < 0) = false := decide_eq_false hneg
      go_wp2_with (go_at_call 187; refine (D.out _ _ _ _ (by assumption) (by assumption) _).mono ?_; rintro e w3 ⟨rfl, hb3⟩; obtain ⟨hc3, hf3, hz3⟩ := hb3.rules; (have j73 : p7 < w3.heap.size := by omega); (have j83 : p8 < w3.heap.size := by omega); (have j93 : p9 < w3.heap.size := by omega); (have jd3 : Bd < w3.heap.size := by omega))
      refine at_world (G := fun W => Code.wp _ _ _ _ W) (fun W => (Ext w W ∧ p7 < W.heap.size ∧ Bd < W.heap.size) ∧ W.cell? ⟨p7, 0, none⟩ = some (.int .i64 u1) ∧ W.cell? ⟨p7, 1, none⟩ = some (.int .i64 u2) ∧ W.cell? ⟨Bd, 0, none⟩ = some (.int .i64 d)) ?_ ?_
      rotate_left
      · refine ⟨⟨?_, by assumption, by assumption⟩, ?_⟩
        · refine Ext.trans ?_ (by assumption)
          refine Ext.trans ?_ (by assumption)
          exact hE2.out
        · simp [*]
      generalize hab : u1 * v2 - u2 * v1 = ab
      have hab1 : 0 ≤ ab ∧ ab < 9223372036854775808 := by omega
      have hsq : Hid (crossV (u1, u2) (v1, v2) * crossV (u1, u2) (v1, v2) = ab * ab) := by
        show (u1 * v2 - u2 * v1) * (u1 * v2 - u2 * v1) = ab * ab
        rw [← hab]
        all_goals rfl
      clear hab hneg dn m1 m2
      rintro W3 ⟨⟨hE3', k7, kd⟩, c70, c71, cd⟩
      have hE3 := Lib.hid hE3'
      clear hE3'
      refine wp_region_mix (aF := ?aF3) 12 [(10, 12, .cells #[.int .u64 0, .int .u64 0] 228), (11, 13, .cells #[.int .u64 0, .int .u64 0] 228)] (by kernel_rfl) (by kernel_rfl) (by kernel_rfl) (by decide) (by decide) ?run (by kernel_rfl) (by decide +kernel) ?walk ?rest
      case run =>
        intro x hx o ho _ a W
        simp only [List.mem_cons, List.not_mem_nil, or_false] at hx
        rcases hx with rfl | rfl
        all_goals
          cases ho
          simp [go_sem, ptrB]
      case walk =>
        intro W4 hW4
        obtain ⟨hc9, hf9, hz9⟩ := hW4.rules
        have z1 : p7 < W4.heap.size := by omega
        have z2 : Bd < W4.heap.size := by omega
        simp only [List.take_succ_cons, List.take_zero, List.filter_cons, isAl, Bool.not_false, Bool.not_true, if_true, Bool.false_eq_true, if_false, List.filter_nil]
        repeat (first | go_big_quiet_step (first | (go_at_call 188; exact Xt.calls (P.out _ _ (by first | exact hab1 | exact hdd) (by first | exact hab1 | exact dq0.out) _)) | (go_at_call 187; exact Xt.calls (D.out _ _ _ _ (by assumption) (by assumption) _))) | quiet_step (first | (go_at_call 188; exact Xt.calls (P.out _ _ (by first | exact hab1 | exact hdd) (by first | exact hab1 | exact dq0.out) _)) | (go_at_call 187; exact Xt.calls (D.out _ _ _ _ (by assumption) (by assumption) _))))
        refine wpQuiet_nil ?_
        rfl
      case rest =>
        intro bb2 W4 hW4 hbb hne
        obtain ⟨g7, v7⟩ := hbb (10, 12, .cells #[.int .u64 0, .int .u64 0] 228) (by simp)
        obtain ⟨g8, v8⟩ := hbb (11, 13, .cells #[.int .u64 0, .int .u64 0] 228) (by simp)
        have n1 : bb2 10 ≠ bb2 11 := hne (10, 12, .cells #[.int .u64 0, .int .u64 0] 228) (by simp) (11, 13, .cells #[.int .u64 0, .int .u64 0] 228) (by simp) (by decide)
        simp only [List.foldl_cons, List.foldl_nil, ptrB, List.drop_succ_cons, List.drop_zero] at g7 v7 g8 v8 ⊢
        generalize bb2 10 = pp at *
        generalize bb2 11 = pq at *
        clear hbb hne
        have i7 := (Array.getElem?_eq_some_iff.1 v7).1
        have i8 := (Array.getElem?_eq_some_iff.1 v8).1
        have r70 : W4.cell? ⟨pp, 0, none⟩ = some (.int .u64 0) := by simp [World.cell?, v7]
        have r71 : W4.cell? ⟨pp, 1, none⟩ = some (.int .u64 0) := by simp [World.cell?, v7]
        have f70 : ∀ j, W4.frozen? ⟨pp, j, none⟩ = false := fun j => by simp [World.frozen?, v7]
        have r80 : W4.cell? ⟨pq, 0, none⟩ = some (.int .u64 0) := by simp [World.cell?, v8]
        have r81 : W4.cell? ⟨pq, 1, none⟩ = some (.int .u64 0) := by simp [World.cell?, v8]
        have f80 : ∀ j, W4.frozen? ⟨pq, j, none⟩ = false := fun j => by simp [World.frozen?, v8]
        have hE4 := Lib.hid (hE3.out.trans hW4)
        have hws : w.heap.size ≤ W3.heap.size := hE3.out.len
        have hA : Hid (nn = decide (ab.toNat * ab.toNat ≤ (d * d).toNat * (dotV (u1, u2) (u1, u2)).toNat)) := by
          show _ = _
          rw [hN.out, hsq.out]
          obtain ⟨q1, q2⟩ := dq0.out
          obtain ⟨q3, q4⟩ := hab1
          have e1 : ((ab.toNat * ab.toNat : Nat) : Int) = ab * ab := by rw [Int.natCast_mul, Int.toNat_of_nonneg q3]
          have e2 : (((d * d).toNat * (dotV (u1, u2) (u1, u2)).toNat : Nat) : Int) = d * d * dotV (u1, u2) (u1, u2) := by rw [Int.natCast_mul, Int.toNat_of_nonneg dd0, Int.toNat_of_nonneg q1]
          rw [← e1, ← e2]
          exact decide_eq_decide.2 Int.ofNat_le
        generalize ab.toNat * ab.toNat = NA at *
        generalize (d * d).toNat * (dotV (u1, u2) (u1, u2)).toNat = NB at *
        clear hN hsq c70 c71 cd hc3 hf3
        go_upto_region 11 with fail
        refine at_world (G := fun W => Code.wp _ _ _ _ W) (fun W => (Ext w W ∧ pp < W.heap.size ∧ pq < W.heap.size) ∧ (W.cell? ⟨pp, 0, none⟩ = some (.int .u64 (hiW NA)) ∧ W.cell? ⟨pp, 1, none⟩ = some (.int .u64 (loW NA))) ∧ W.cell? ⟨pq, 0, none⟩ = some (.int .u64 (hiW NB)) ∧ W.cell? ⟨pq, 1, none⟩ = some (.int .u64 (loW NB))) ?_ ?_
        rotate_left
        · refine ⟨⟨?_, by simp [i7, i8]⟩, ?_, ?_⟩
          · exact (((hE4.out.setCell (by simp only; omega) _).setCell (by simp only; omega) _).setCell (by simp only; omega) _).setCell (by simp only; omega) _
          · simp [go_sem, r70, r71, r80, r81, n1, Ne.symm n1]
          · simp [go_sem, r70, r71, r80, r81, n1, Ne.symm n1]
        rintro W5 ⟨⟨hE5, k5, kq5⟩, ⟨c50, c51⟩, c60, c61⟩
        have hE5 := Lib.hid hE5
        clear r70 r71 r80 r81 f70 f80 i7 i8 v7 v8 hE4 g7 g8
        have hle := Lib.hid (words_le NA NB)
        have CMP := Lib.hid (fun W (a : W.cell? ⟨pp, 0, none⟩ = _) b c d => compare_189 pp pq (hiW NA) (loW NA) (hiW NB) (loW NB) 2 2 W a b c d)
        by_cases heq : hiW NA = hiW NB ∧ loW NA = loW NB
        · have KE : Hid (∀ W, (binOp .eql 228 (.agg #[.int .u64 (hiW NA), .int .u64 (loW NA)]) (.agg #[.int .u64 (hiW NB), .int .u64 (loW NB)])).run Tryz.prog W = .ok (.bool true) W) := fun W => by
            rw [run_eqArr2, beq_iff_eq.2 heq.1, beq_iff_eq.2 heq.2]; rfl
          have hT : Hid (nn = true) := by show _ = _; rw [hA.out, decide_eq_true_eq, hle.out]; exact .inl heq
          generalize hiW NA = ha at *
          generalize loW NA = la at *
          generalize hiW NB = hb at *
          generalize loW NB = lb at *
          clear hle CMP hA heq
          have KE := KE.out
          (refine wp_region_ext (by kernel_rfl) (by kernel_rfl) ?_; (repeat (first | go_big_quiet_step (fail) | quiet_step (fail))); refine wpQuiet_nil ?_; rintro _ ⟨xq, rfl⟩; have hx2 := xq.ext; generalize xq.world = w2 at hx2 ⊢)
          go_wp2
          go_ret
          exact ⟨retb hT.out.symm, hE5.out.trans hx2⟩
        · have KE : Hid (∀ W, (binOp .eql 228 (.agg #[.int .u64 (hiW NA), .int .u64 (loW NA)]) (.agg #[.int .u64 (hiW NB), .int .u64 (loW NB)])).run Tryz.prog W = .ok (.bool false) W) := fun W => by
            rw [run_eqArr2]
            congr 2
            rw [Bool.and_eq_false_iff, beq_eq_false_iff_ne, beq_eq_false_iff_ne]
            by_cases e : hiW NA = hiW NB
            · exact .inr fun e2 => heq ⟨e, e2⟩
            · exact .inl e
          have hT : Hid (nn = decide (cmp2 (hiW NA) (loW NA) (hiW NB) (loW NB) < 0)) := by
            show _ = _
            rw [hA.out]
            refine decide_eq_decide.2 (hle.out.trans ?_)
            exact ⟨fun h => h.resolve_left heq, .inr⟩
          generalize cmp2 (hiW NA) (loW NA) (hiW NB) (loW NB) = cm at *
          generalize hiW NA = ha at *
          generalize loW NA = la at *
          generalize hiW NB = hb at *
          generalize loW NB = lb at *
          clear hle hA heq
          have KE := KE.out
          (refine wp_region_ext (by kernel_rfl) (by kernel_rfl) ?_; (repeat (first | go_big_quiet_step (((go_at_call 189; exact Xt.calls_same (CMP.out _ (by simp [go_sem, *]) (by simp [go_sem, *]) (by simp [go_sem, *]) (by simp [go_sem, *]))))) | quiet_step (((go_at_call 189; exact Xt.calls_same (CMP.out _ (by simp [go_sem, *]) (by simp [go_sem, *]) (by simp [go_sem, *]) (by simp [go_sem, *]))))))); refine wpQuiet_nil ?_; rintro _ ⟨xq, rfl⟩; have hx2 := xq.ext; generalize xq.world = w2 at hx2 ⊢)
          go_wp2
          go_ret
          exact ⟨retb hT.out.symm, hE5.out.trans hx2⟩

end Go.Proofs.YtcgghcicnanliaaGreatDoor
