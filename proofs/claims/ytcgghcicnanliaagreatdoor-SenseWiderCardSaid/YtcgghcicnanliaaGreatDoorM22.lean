/- Walks: package ray's small functions, ray.at, ray.Between. Conditions: rays from 0 to 127, vectors within 1000000. -/
import Derived.Test.YtcgghcicnanliaaGreatDoorProg
import Derived.Test.YtcgghcicnanliaaGreatDoorM07
set_option linter.unusedVariables false
set_option linter.unusedSimpArgs false
namespace Go.Proofs.YtcgghcicnanliaaGreatDoor
open Go.RowKit
set_option maxHeartbeats 4000000
set_option maxRecDepth 100000

def areRaysB (a n : Int) : Bool := decide (0 ≤ a) && decide (a < 64) && decide (0 ≤ n) && decide (n < 32)
theorem areRays_177 (a n : Int) (w : World) : Calls Tryz.prog 177 #[.int .i64 a, .int .i64 n] w fun e w' => e = .returned (.bool (areRaysB a n)) ∧ w = w' := by
  go_enter Tryz.func177, Tryz.ntmps177
  go_wp2
  all_goals (go_ret; exact ⟨retb (by rw [Bool.eq_iff_iff]; (try simp [areRaysB]) <;> omega), rfl⟩)
theorem isVector1_262 (n : Int) (w : World) : Calls Tryz.prog 262 #[.int .i64 n] w fun e w' => e = .returned (.bool (inB n (-1000000) 1000000)) ∧ w = w' := by
  go_enter Tryz.func262, Tryz.ntmps262
  go_wp2
  all_goals (go_ret; exact ⟨retb (by rw [Bool.eq_iff_iff]; (try simp [inB]) <;> omega), rfl⟩)

theorem isVector_178 (x y : Int) (hx : -1000000 ≤ x) (hx' : x ≤ 1000000) (hy : -1000000 ≤ y) (hy' : y ≤ 1000000) (w : World) :
    Calls Tryz.prog 178 #[.agg #[.int .i64 x, .int .i64 y]] w fun e w' => e = .returned (.bool (!(decide (x = 0) && decide (y = 0)))) ∧ Ext w w' := by
  have K1 : Hid (∀ W, Calls Tryz.prog 262 #[.int .i64 x] W fun e w' => e = .returned (.bool true) ∧ W = w') := fun W => by
    have e : inB x (-1000000) 1000000 = true := by simp [inB]; omega
    rw [← e]; exact isVector1_262 x W
  have K2 : Hid (∀ W, Calls Tryz.prog 262 #[.int .i64 y] W fun e w' => e = .returned (.bool true) ∧ W = w') := fun W => by
    have e : inB y (-1000000) 1000000 = true := by simp [inB]; omega
    rw [← e]; exact isVector1_262 y W
  have D : (x = 0 ∧ y = 0) ∨ (x = 0 ∧ y ≠ 0) ∨ x ≠ 0 := by omega
  rcases D with ⟨rfl, rfl⟩ | ⟨rfl, h⟩ | h
  all_goals
    go_enter Tryz.func178, Tryz.ntmps178
    go_wp2_with (first
      | (go_at_call 262; refine (K1.out _).mono ?_; rintro e w' ⟨rfl, rfl⟩)
      | (go_at_call 262; refine (K2.out _).mono ?_; rintro e w' ⟨rfl, rfl⟩))
    all_goals (go_ret; exact ⟨retb (by simp_all), xt⟩)

/-- ray.cross. -/
def crossV (a b : Pt) : Int := a.1 * b.2 - a.2 * b.1
def dotV (a b : Pt) : Int := a.1 * b.1 + a.2 * b.2
theorem cross_181 (a b : Pt) (ha : Mid a) (hb : Mid b) (w : World) :
    Calls Tryz.prog 181 #[.agg #[.int .i64 a.1, .int .i64 a.2], .agg #[.int .i64 b.1, .int .i64 b.2]] w fun e w' => e = .returned (.int .i64 (crossV a b)) ∧ Ext w w' := by
  obtain ⟨a1, a2⟩ := a
  obtain ⟨b1, b2⟩ := b
  obtain ⟨h1, h2, h3, h4⟩ := ha
  obtain ⟨h5, h6, h7, h8⟩ := hb
  have m1 := mul_bd (x := a1) (y := b2) (m := 1000000) (n := 1000000) (by omega) (by omega) (by omega) (by omega)
  have m2 := mul_bd (x := a2) (y := b1) (m := 1000000) (n := 1000000) (by omega) (by omega) (by omega) (by omega)
  simp only [Int.reduceMul, Int.reduceNeg] at m1 m2
  simp only [crossV]
  go_enter Tryz.func181, Tryz.ntmps181
  go_wp2
  go_ret
  exact ⟨rfl, xt⟩
/-- ray.isOn. -/
def isOnB (t v : Pt) : Bool := decide (crossV t v = 0) && decide (0 < dotV t v)
theorem isOn_180 (a b : Pt) (ha : Mid a) (hb : Mid b) (w : World) :
    Calls Tryz.prog 180 #[.agg #[.int .i64 a.1, .int .i64 a.2], .agg #[.int .i64 b.1, .int .i64 b.2]] w fun e w' => e = .returned (.bool (isOnB a b)) ∧ Ext w w' := by
  have K := Lib.hid (cross_181 a b ha hb)
  obtain ⟨a1, a2⟩ := a
  obtain ⟨b1, b2⟩ := b
  obtain ⟨h1, h2, h3, h4⟩ := ha
  obtain ⟨h5, h6, h7, h8⟩ := hb
  have m1 := mul_bd (x := a1) (y := b1) (m := 1000000) (n := 1000000) (by omega) (by omega) (by omega) (by omega)
  have m2 := mul_bd (x := a2) (y := b2) (m := 1000000) (n := 1000000) (by omega) (by omega) (by omega) (by omega)
  simp only [Int.reduceMul, Int.reduceNeg] at m1 m2
  simp only [isOnB, dotV]
  generalize crossV (a1, a2) (b1, b2) = cv at K ⊢
  by_cases hc : cv = 0
  · subst hc
    go_enter Tryz.func180, Tryz.ntmps180
    go_wp2_with (go_at_call 181; refine (K.out _).mono ?_; rintro e w1 ⟨rfl, hb1⟩; obtain ⟨hc1, hf1, hz1⟩ := hb1.rules; (try simp only [World.size_alloc] at hz1); (have hzz1 : w.heap.size < w1.heap.size := by omega); (have hzy1 : w.heap.size + 1 < w1.heap.size := by omega))
    all_goals (go_ret; exact ⟨retb (by first | (simp; done) | (simp only [decide_true, Bool.true_and]; exact decide_eq_decide.2 Iff.rfl) | (simp only [decide_true, Bool.true_and]; rw [decide_eq_decide])), xt⟩)
  · have hcb : (cv == 0) = false := by simp [hc]
    go_enter Tryz.func180, Tryz.ntmps180
    go_wp2_with (go_at_call 181; refine (K.out _).mono ?_; rintro e w1 ⟨rfl, hb1⟩; obtain ⟨hc1, hf1, hz1⟩ := hb1.rules; (try simp only [World.size_alloc] at hz1); (have hzz1 : w.heap.size < w1.heap.size := by omega); (have hzy1 : w.heap.size + 1 < w1.heap.size := by omega))
    all_goals (go_ret; exact ⟨retb (by first | (simp [hc]; done) | (rw [Bool.eq_iff_iff]; simp [hc]; omega)), xt⟩)

/-- ray.left. -/
def leftP (p : Pt) : Nat → Pt
  | 0 => p
  | n + 1 => leftP (-p.2, p.1) n
theorem left_263 (p : Pt) (k : Nat) (h1 : -1000 ≤ p.1) (h2 : p.1 ≤ 1000) (h3 : -1000 ≤ p.2) (h4 : p.2 ≤ 1000) (hk : k ≤ 1000) (w : World) :
    Calls Tryz.prog 263 #[.agg #[.int .i64 p.1, .int .i64 p.2], .int .i64 k] w fun e w' => e = .returned (.agg #[.int .i64 (leftP p (k % 4)).1, .int .i64 (leftP p (k % 4)).2]) ∧ Ext w w' := by
  obtain ⟨x, y⟩ := p
  simp only at h1 h2 h3 h4
  have ht : (k : Int).tmod 4 = ((k % 4 : Nat) : Int) := by rw [Int.tmod_eq_emod_of_nonneg (by omega)]; omega
  have D : k % 4 = 0 ∨ k % 4 = 1 ∨ k % 4 = 2 ∨ k % 4 = 3 := by omega
  rcases D with e | e | e | e
  all_goals
    rw [e] at ht ⊢
    simp only [leftP]
    go_enter Tryz.func263, Tryz.ntmps263
    go_wp2
    refine wp_loop_rounds 5 ?_
    repeat any_goals (rw [rounds_succ]; go_wp2)
    all_goals (((try simp only [Exit.inBlock, Exit.then]); refine bodyPost_ret (by first | (simp [results, Tryz.f263, go_sem]; rfl) | (simp [results, Tryz.f263, go_sem]; done) | (simp [results, Tryz.f263, go_sem, *]; rfl) | (simp [results, Tryz.f263, go_sem, *]; done)) rfl ?_); exact ⟨by simp, xt⟩)

def rayFirst : List Pt := [(1000, 0), (995, 98), (981, 195), (957, 290), (924, 383), (882, 471), (831, 556), (773, 634), (707, 707), (634, 773), (556, 831), (471, 882), (383, 924), (290, 957), (195, 981), (98, 995)]
/-- ray.at. -/
def rayAt (k : Nat) : Pt := leftP (rayFirst[k % 16]?.getD (0, 0)) (k / 16 % 4)
theorem leftP_bd (p : Pt) (h1 : -1000 ≤ p.1) (h2 : p.1 ≤ 1000) (h3 : -1000 ≤ p.2) (h4 : p.2 ≤ 1000) : ∀ n, -1000 ≤ (leftP p n).1 ∧ (leftP p n).1 ≤ 1000 ∧ -1000 ≤ (leftP p n).2 ∧ (leftP p n).2 ≤ 1000 := by
  intro n
  induction n generalizing p with
  | zero => exact ⟨h1, h2, h3, h4⟩
  | succ n ih => exact ih (-p.2, p.1) (by simp only; omega) (by simp only; omega) (by simp only; omega) (by simp only; omega)
theorem rayFirst_bd : ∀ r, r < 16 → -1000 ≤ (rayFirst[r]?.getD (0, 0)).1 ∧ (rayFirst[r]?.getD (0, 0)).1 ≤ 1000 ∧ -1000 ≤ (rayFirst[r]?.getD (0, 0)).2 ∧ (rayFirst[r]?.getD (0, 0)).2 ≤ 1000 := by decide
theorem rayAt_bd (k : Nat) : -1000 ≤ (rayAt k).1 ∧ (rayAt k).1 ≤ 1000 ∧ -1000 ≤ (rayAt k).2 ∧ (rayAt k).2 ≤ 1000 := by
  obtain ⟨h1, h2, h3, h4⟩ := rayFirst_bd (k % 16) (by omega)
  exact leftP_bd _ h1 h2 h3 h4 _
theorem rayAt_mid (k : Nat) : Mid (rayAt k) := by
  obtain ⟨h1, h2, h3, h4⟩ := rayAt_bd k
  simp only [Mid]; omega

theorem at_179 (k : Nat) (hk : k ≤ 1000) (w : World) :
    Calls Tryz.prog 179 #[.int .i64 k] w fun e w' => e = .returned (.agg #[.int .i64 (rayAt k).1, .int .i64 (rayAt k).2]) ∧ Ext w w' := by
  have K2 := fun W => left_263 (rayFirst[k % 16]?.getD (0, 0)) (k / 16) (rayFirst_bd (k % 16) (by omega)).1 (rayFirst_bd (k % 16) (by omega)).2.1 (rayFirst_bd (k % 16) (by omega)).2.2.1 (rayFirst_bd (k % 16) (by omega)).2.2.2 (by omega) W
  have ht : (k : Int).tmod 16 = ((k % 16 : Nat) : Int) := by rw [Int.tmod_eq_emod_of_nonneg (by omega)]; omega
  have hq : (k : Int).tdiv 16 = ((k / 16 : Nat) : Int) := by rw [Int.tdiv_eq_ediv_of_nonneg (by omega)]; omega
  obtain ⟨rc, hrc0, hrs, hrp, hro⟩ := fill_pairs 16 rayFirst (by decide)
  have hrc : Instr.fill (fun i => some (i * 2, 2)) (Array.replicate 32 (.int .i64 0)) [(0, .agg #[.int .i64 1000, .int .i64 0]), (1, .agg #[.int .i64 995, .int .i64 98]), (2, .agg #[.int .i64 981, .int .i64 195]), (3, .agg #[.int .i64 957, .int .i64 290]), (4, .agg #[.int .i64 924, .int .i64 383]), (5, .agg #[.int .i64 882, .int .i64 471]), (6, .agg #[.int .i64 831, .int .i64 556]), (7, .agg #[.int .i64 773, .int .i64 634]), (8, .agg #[.int .i64 707, .int .i64 707]), (9, .agg #[.int .i64 634, .int .i64 773]), (10, .agg #[.int .i64 556, .int .i64 831]), (11, .agg #[.int .i64 471, .int .i64 882]), (12, .agg #[.int .i64 383, .int .i64 924]), (13, .agg #[.int .i64 290, .int .i64 957]), (14, .agg #[.int .i64 195, .int .i64 981]), (15, .agg #[.int .i64 98, .int .i64 995])] = some rc := hrc0
  have hrs' : rc.size = 32 := hrs
  clear hrc0 hrs
  have KH := Lib.hid K2
  clear K2
  unfold rayAt
  generalize hz : leftP (rayFirst[k % 16]?.getD (0, 0)) (k / 16 % 4) = z at KH ⊢
  clear hz
  obtain ⟨z1, z2⟩ := z
  have hk2 : k / 16 ≤ 100 := by omega
  generalize k / 16 = q at KH hq hk2
  have hr : k % 16 < 16 := by omega
  generalize k % 16 = r at KH ht hr
  obtain ⟨⟨v1, v2⟩, hv⟩ : ∃ v, rayFirst[r]? = some v := ⟨_, List.getElem?_eq_getElem (by simpa [rayFirst] using hr)⟩
  obtain ⟨f0, f1⟩ := hrp r _ hv
  rw [hv] at KH
  simp only [Option.getD_some] at KH f0 f1
  have hrz : (r : Int) < 16 := by omega
  have HRC := Lib.hid hrc
  have HRS := Lib.hid hrs'
  have HRO := Lib.hid hro
  clear hrc hrs' hro hrp hv
  go_enter Tryz.func179, Tryz.ntmps179
  go_upto_region 1 with fail
  go_cut [3] from 4 (fun s3 wx => s3 = .pointer (some ⟨w.heap.size + 1, 0, none⟩) ∧ wx = (w.alloc (.cells #[.int .i64 0, .int .i64 0] 43)).alloc (.cells rc 294))
  case first =>
    go_wp2_with (first
      | (refine wpList_buildBy rfl 294 _ rfl rc _ ((built_294 _).trans HRC.out) (by kernel_rfl) ?_)
      | (refine wpList_store_fresh rfl 294 _ _ rfl _ rc _ 294 rfl _ rfl (by simp only [World.size_alloc]) rfl (by rw [HRS.out]; kernel_rfl) (by rw [HRS.out]; rfl) HRO.out ?_))
    go_meet
    exact ⟨rfl, rfl⟩
  case rest =>
    obtain ⟨rfl, rfl⟩ := hcut
    clear HRC HRS HRO
    go_wp2_with (go_at_call 263; refine (KH.out _).mono ?_; rintro e w1 ⟨rfl, hb1⟩; obtain ⟨hc1, hf1, hz1⟩ := hb1.rules; (try simp only [World.size_alloc] at hz1); (have hzz1 : w.heap.size < w1.heap.size := by omega); (have hzz5 : w.heap.size < w.heap.size + 1 + 1 := by omega); (have hzy1 : w.heap.size + 1 < w1.heap.size := by omega))
    have r0 : w1.cell? ⟨w.heap.size, 0, none⟩ = some (.int .i64 0) := by rw [hc1 _ _ (by simp only [World.size_alloc]; omega)]; simp
    have r1 : w1.cell? ⟨w.heap.size, 1, none⟩ = some (.int .i64 0) := by rw [hc1 _ _ (by simp only [World.size_alloc]; omega)]; simp
    clear hc1 hf1
    ((try simp only [Exit.inBlock, Exit.then]); refine bodyPost_ret (by first | (simp [results, Tryz.f179, go_sem]; rfl) | (simp [results, Tryz.f179, go_sem]; done) | (simp [results, Tryz.f179, go_sem, *]; rfl) | (simp [results, Tryz.f179, go_sem, *]; done)) rfl ?_)
    exact ⟨rfl, xt⟩

end Go.Proofs.YtcgghcicnanliaaGreatDoor
