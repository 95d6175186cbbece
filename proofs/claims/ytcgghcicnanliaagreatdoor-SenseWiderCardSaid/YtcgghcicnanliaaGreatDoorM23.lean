/- Walks: ray.Between. Conditions: rays, vectors within 1000000. Walks: package line's small functions, math/bits.Mul64, slices.Compare of two words. Conditions: coordinates within 1000000. Walks: line.segments. Conditions: at least two places. Plain law: a bearing with more rays still sees. No program. Conditions: none. -/
import Derived.Test.YtcgghcicnanliaaGreatDoorProg
import Derived.Test.YtcgghcicnanliaaGreatDoorM22
import Derived.Test.YtcgghcicnanliaaGreatDoorM07
import Derived.Shelf.Bits.Mul64
import Derived.Test.YtcgghcicnanliaaGreatDoorM19
set_option linter.unusedVariables false
set_option linter.unusedSimpArgs false
namespace Go.Proofs.YtcgghcicnanliaaGreatDoor
open Go.RowKit
set_option maxHeartbeats 40000000
set_option maxRecDepth 100000

/-- ray.Between. -/
def betweenB (a n : Nat) (v : Pt) : Bool := if n = 0 then isOnB (rayAt a) v else decide (0 ≤ crossV (rayAt a) v) && decide (0 ≤ crossV v (rayAt (a + n)))
theorem between_114 (a n : Nat) (v : Pt) (ha : a < 64) (hn : n < 32) (hv : Mid v) (w : World) :
    Calls Tryz.prog 114 #[.int .i64 a, .int .i64 n, .agg #[.int .i64 v.1, .int .i64 v.2]] w fun e w' =>
      ((v = (0, 0) ∧ e = .returned (.tuple #[.bool false, .int .i64 1])) ∨ (v ≠ (0, 0) ∧ e = .returned (.tuple #[.bool (betweenB a n v), .int .i64 0]))) ∧ Ext w w' := by
  obtain ⟨v1, v2⟩ := v
  have hv' : Mid (v1, v2) := hv
  obtain ⟨g1, g2, g3, g4⟩ := hv
  simp only at g1 g2 g3 g4
  have K1 : Hid (∀ W, Calls Tryz.prog 177 #[.int .i64 a, .int .i64 n] W fun e w' => e = .returned (.bool true) ∧ W = w') := fun W => by
    have e : areRaysB a n = true := by simp [areRaysB]; omega
    rw [← e]; exact areRays_177 a n W
  have K2 := Lib.hid (isVector_178 v1 v2 g1 g2 g3 g4)
  by_cases h0 : v1 = 0 ∧ v2 = 0
  · obtain ⟨rfl, rfl⟩ := h0
    have hd : (!(decide ((0 : Int) = 0) && decide ((0 : Int) = 0))) = false := rfl
    rw [hd] at K2
    go_enter Tryz.func114, Tryz.ntmps114
    go_wp2_with (first
      | (go_at_call 177; refine (K1.out _).mono ?_; rintro e w' ⟨rfl, rfl⟩)
      | (go_at_call 178; refine (K2.out _).mono ?_; rintro e w' ⟨rfl, hb⟩))
    go_ret2
    exact ⟨.inl ⟨by first | rfl | trivial, rfl⟩, xt⟩
  · have hne : ((v1, v2) : Pt) ≠ (0, 0) := fun e => h0 ⟨congrArg Prod.fst e, congrArg Prod.snd e⟩
    have hd : (!(decide (v1 = 0) && decide (v2 = 0))) = true := by
      simp only [Bool.not_eq_true', Bool.and_eq_false_iff, decide_eq_false_iff_not]
      omega
    rw [hd] at K2
    clear hd
    have K3 := Lib.hid (at_179 a (by omega))
    have K4 := Lib.hid (at_179 (a + n) (by omega))
    have hcast : ((a + n : Nat) : Int) = (a : Int) + n := by omega
    rw [hcast] at K4
    by_cases hn0 : n = 0
    · subst hn0
      have K5 := Lib.hid (isOn_180 (rayAt a) (v1, v2) (rayAt_mid a) hv')
      have hB : Hid (betweenB a 0 (v1, v2) = isOnB (rayAt a) (v1, v2)) := rfl
      generalize betweenB a 0 (v1, v2) = bb at hB ⊢
      generalize isOnB (rayAt a) (v1, v2) = q at K5 hB
      generalize rayAt (a + 0) = r2 at K4
      generalize rayAt a = r1 at K3 K5
      obtain ⟨r11, r12⟩ := r1
      obtain ⟨r21, r22⟩ := r2
      simp only at K3 K4 K5
      go_enter Tryz.func114, Tryz.ntmps114
      go_wp2_with (first
        | (go_at_call 177; refine (K1.out _).mono ?_; rintro e w' ⟨rfl, rfl⟩)
        | (go_at_call 178; refine (K2.out _).mono ?_; rintro e w1 ⟨rfl, hb1⟩; obtain ⟨hc1, hf1, hz1⟩ := hb1.rules; (try simp only [World.size_alloc] at hz1); (have hzz1 : w.heap.size < w1.heap.size := by omega))
        | (go_at_call 179; refine (K3.out _).mono ?_; rintro e w2 ⟨rfl, hb2⟩; obtain ⟨hc2, hf2, hz2⟩ := hb2.rules; (have hzz2 : w.heap.size < w2.heap.size := by omega))
        | (go_at_call 179; refine (K4.out _).mono ?_; rintro e w3 ⟨rfl, hb3⟩; obtain ⟨hc3, hf3, hz3⟩ := hb3.rules; (have hzz3 : w.heap.size < w3.heap.size := by omega))
        | (go_at_call 180; refine (K5.out _).mono ?_; rintro e w4 ⟨rfl, hb4⟩))
      go_ret2
      exact ⟨.inr ⟨hne, by rw [hB.out]; rfl⟩, xt⟩
    · have hnb : ((n : Int) == 0) = false := by simp [hn0]
      obtain ⟨f, hf⟩ : ∃ f : Int → Pt, f = fun k => rayAt k.toNat := ⟨_, rfl⟩
      have fm : Hid (∀ k, Mid (f k)) := fun k => by rw [hf]; exact rayAt_mid _
      clear K3
      have K3 : Hid (∀ (k : Int) (h1 : 0 ≤ k) (h2 : k ≤ 1000) (W : World), Calls Tryz.prog 179 #[.int .i64 k] W fun e w' => e = .returned (.agg #[.int .i64 (f k).1, .int .i64 (f k).2]) ∧ Ext W w') := fun k h1 h2 W => by
        have := at_179 k.toNat (by omega) W
        rw [Int.toNat_of_nonneg h1] at this
        rw [hf]
        exact this
      have K5 : Hid (∀ (x y z u : Int) (hp : Mid (x, y)) (hq : Mid (z, u)) (W : World), Calls Tryz.prog 181 #[.agg #[.int .i64 x, .int .i64 y], .agg #[.int .i64 z, .int .i64 u]] W fun e w' => e = .returned (.int .i64 (crossV (x, y) (z, u))) ∧ Ext W w') := fun x y z u hp hq W => cross_181 (x, y) (z, u) hp hq W
      have hB : Hid (betweenB a n (v1, v2) = (decide (0 ≤ crossV (f a) (v1, v2)) && decide (0 ≤ crossV (v1, v2) (f ((a : Int) + n))))) := by
        show _ = _
        rw [hf]
        have e1 : ((a : Int)).toNat = a := by omega
        have e2 : ((a : Int) + n).toNat = a + n := by omega
        simp only [betweenB, hn0, if_false, e1, e2]
      generalize betweenB a n (v1, v2) = bb at hB ⊢
      have hA0 : (0 : Int) ≤ (a : Int) ∧ (a : Int) < 64 := by omega
      have hN0 : (0 : Int) ≤ (n : Int) ∧ (n : Int) < 32 := by omega
      clear ha hn hn0 hf K4 hcast
      generalize (a : Int) = A at *
      generalize (n : Int) = N at *
      obtain ⟨hA1, hA2⟩ := hA0
      obtain ⟨hN1, hN2⟩ := hN0
      by_cases hq : 0 ≤ crossV (f A) (v1, v2)
      · have d2 : decide (crossV (f A) (v1, v2) ≥ 0) = true := decide_eq_true hq
        have hB2 : Hid (bb = decide (crossV (v1, v2) (f (A + N)) ≥ 0)) := by show _ = _; rw [hB.out, decide_eq_true hq]; rfl
        clear hB
        go_enter Tryz.func114, Tryz.ntmps114
        go_wp2_with (first
          | (go_at_call 177; refine (K1.out _).mono ?_; rintro e w' ⟨rfl, rfl⟩)
          | (go_at_call 178; refine (K2.out _).mono ?_; rintro e w1 ⟨rfl, hb1⟩; (have q0 := hb1.seen (k := w.heap.size) (o := 0) (v := .int .i64 v1) (by simp) (by simp)); (have q1 := hb1.seen (k := w.heap.size) (o := 1) (v := .int .i64 v2) (by simp) (by simp)); (have hs := hb1.len); (simp only [World.size_alloc] at hs); (replace hs : w.heap.size < w1.heap.size := by omega)))
        go_wp2_with (go_at_call 179; refine (K3.out _ (by omega) (by omega) _).mono ?_; rintro e w2 ⟨rfl, hb2⟩; (replace q0 := hb2.seen (by omega) q0); (replace q1 := hb2.seen (by omega) q1); (replace hs := Nat.lt_of_lt_of_le hs hb2.len))
        go_wp2_with (go_at_call 181; refine (K5.out _ _ _ _ (by first | exact hv' | exact fm.out _) (by first | exact hv' | exact fm.out _) _).mono ?_; rintro e w4 ⟨rfl, hb4⟩; (try ((have hx := Ext.trans (((Ext.refl w2).alloc _).alloc _) hb4); (replace q0 := hx.seen (by omega) q0); (replace q1 := hx.seen (by omega) q1); (have r0 := hb4.seen (k := w2.heap.size + 1) (o := 0) (v := .int .i64 (f (A + N)).1) (by simp) (by simp)); (have r1 := hb4.seen (k := w2.heap.size + 1) (o := 1) (v := .int .i64 (f (A + N)).2) (by simp) (by simp)))))
        all_goals (go_ret2; exact ⟨.inr ⟨hne, by rw [hB2.out]; rfl⟩, xt⟩)
      · have d2 : decide (crossV (f A) (v1, v2) ≥ 0) = false := decide_eq_false hq
        have hB2 : Hid (bb = false) := by show _ = _; rw [hB.out, decide_eq_false hq]; rfl
        clear hB
        go_enter Tryz.func114, Tryz.ntmps114
        go_wp2_with (first
          | (go_at_call 177; refine (K1.out _).mono ?_; rintro e w' ⟨rfl, rfl⟩)
          | (go_at_call 178; refine (K2.out _).mono ?_; rintro e w1 ⟨rfl, hb1⟩; (have q0 := hb1.seen (k := w.heap.size) (o := 0) (v := .int .i64 v1) (by simp) (by simp)); (have q1 := hb1.seen (k := w.heap.size) (o := 1) (v := .int .i64 v2) (by simp) (by simp)); (have hs := hb1.len); (simp only [World.size_alloc] at hs); (replace hs : w.heap.size < w1.heap.size := by omega)))
        go_wp2_with (go_at_call 179; refine (K3.out _ (by omega) (by omega) _).mono ?_; rintro e w2 ⟨rfl, hb2⟩; (replace q0 := hb2.seen (by omega) q0); (replace q1 := hb2.seen (by omega) q1); (replace hs := Nat.lt_of_lt_of_le hs hb2.len))
        go_wp2_with (go_at_call 181; refine (K5.out _ _ _ _ (by first | exact hv' | exact fm.out _) (by first | exact hv' | exact fm.out _) _).mono ?_; rintro e w4 ⟨rfl, hb4⟩; (try ((have hx := Ext.trans (((Ext.refl w2).alloc _).alloc _) hb4); (replace q0 := hx.seen (by omega) q0); (replace q1 := hx.seen (by omega) q1); (have r0 := hb4.seen (k := w2.heap.size + 1) (o := 0) (v := .int .i64 (f (A + N)).1) (by simp) (by simp)); (have r1 := hb4.seen (k := w2.heap.size + 1) (o := 1) (v := .int .i64 (f (A + N)).2) (by simp) (by simp)))))
        all_goals (go_ret2; exact ⟨.inr ⟨hne, by rw [hB2.out]; rfl⟩, xt⟩)

end Go.Proofs.YtcgghcicnanliaaGreatDoor
namespace Go.Proofs.YtcgghcicnanliaaGreatDoor
open Go.RowKit
set_option maxHeartbeats 40000000
set_option maxRecDepth 100000

theorem isDist_183 (n : Int) (w : World) : Calls Tryz.prog 183 #[.int .i64 n] w fun e w' => e = .returned (.bool (inB n 0 100000)) ∧ w = w' := by
  go_enter Tryz.func183, Tryz.ntmps183
  go_wp2
  all_goals (go_ret; exact ⟨retb (by rw [Bool.eq_iff_iff]; (try simp [inB]) <;> omega), rfl⟩)
/-- line.less. -/
def subP (a b : Pt) : Pt := (a.1 - b.1, a.2 - b.2)
def Small (p : Pt) : Prop := -500000 ≤ p.1 ∧ p.1 ≤ 500000 ∧ -500000 ≤ p.2 ∧ p.2 ≤ 500000
theorem Small.sub {a b : Pt} (h : Small a) (k : Small b) : Mid (subP a b) := by
  obtain ⟨h1, h2, h3, h4⟩ := h
  obtain ⟨k1, k2, k3, k4⟩ := k
  simp only [Mid, subP]; omega
theorem less_186 (a b : Pt) (ha : Small a) (hb : Small b) (w : World) :
    Calls Tryz.prog 186 #[.agg #[.int .i64 a.1, .int .i64 a.2], .agg #[.int .i64 b.1, .int .i64 b.2]] w fun e w' => e = .returned (.agg #[.int .i64 (subP a b).1, .int .i64 (subP a b).2]) ∧ Ext w w' := by
  obtain ⟨a1, a2⟩ := a
  obtain ⟨b1, b2⟩ := b
  obtain ⟨h1, h2, h3, h4⟩ := ha
  obtain ⟨h5, h6, h7, h8⟩ := hb
  simp only [subP] at *
  go_enter Tryz.func186, Tryz.ntmps186
  go_wp2
  ((try simp only [Exit.inBlock, Exit.then]); refine bodyPost_ret (by first | (simp [results, Tryz.f186, go_sem]; rfl) | (simp [results, Tryz.f186, go_sem]; done) | (simp [results, Tryz.f186, go_sem, *]; rfl) | (simp [results, Tryz.f186, go_sem, *]; done)) rfl ?_)
  exact ⟨rfl, xt⟩
theorem dot_187 (a b : Pt) (ha : Mid a) (hb : Mid b) (w : World) :
    Calls Tryz.prog 187 #[.agg #[.int .i64 a.1, .int .i64 a.2], .agg #[.int .i64 b.1, .int .i64 b.2]] w fun e w' => e = .returned (.int .i64 (dotV a b)) ∧ Ext w w' := by
  obtain ⟨a1, a2⟩ := a
  obtain ⟨b1, b2⟩ := b
  obtain ⟨h1, h2, h3, h4⟩ := ha
  obtain ⟨h5, h6, h7, h8⟩ := hb
  have m1 := mul_bd (x := a1) (y := b1) (m := 1000000) (n := 1000000) (by omega) (by omega) (by omega) (by omega)
  have m2 := mul_bd (x := a2) (y := b2) (m := 1000000) (n := 1000000) (by omega) (by omega) (by omega) (by omega)
  simp only [Int.reduceMul, Int.reduceNeg] at m1 m2
  simp only [dotV]
  go_enter Tryz.func187, Tryz.ntmps187
  go_wp2
  go_ret
  exact ⟨rfl, xt⟩

def Tryz.mul64_ren : Go.Shelf.Ren := ⟨fun | 264 => 265 | n => n, fun | 53 => 227 | 46 => 273 | n => n, fun | n => n⟩
theorem Tryz.mul64 : Lays.n264 Tryz.prog Tryz.mul64_ren := {
  mixed := by kernel_rfl
  f264 := Tryz.func265.trans (congrArg some (by kernel_rfl))
  t46 := Tryz.underlying273
  a46 := Tryz.isAgg273
  z46 := Tryz.sizeOf273
  v46 := Tryz.zeroValue273
  t53 := Tryz.underlying227
  a53 := Tryz.isAgg227
  z53 := Tryz.sizeOf227
  v53 := Tryz.zeroValue227 }
/-- math/bits.Mul64. -/
theorem mul64_265 (x y : Nat) (hx : x < 18446744073709551616) (hy : y < 18446744073709551616) (w : World) :
    Calls Tryz.prog 265 #[.int .u64 x, .int .u64 y] w fun e w' => e = .returned (.tuple #[.int .u64 ((x * y / 18446744073709551616 : Nat) : Int), .int .u64 ((x * y % 18446744073709551616 : Nat) : Int)]) ∧ w' = w :=
  Any.bits_Mul64 Tryz.mul64 x y hx hy w
def hiW (n : Nat) : Int := ((n / 18446744073709551616 : Nat) : Int)
def loW (n : Nat) : Int := ((n % 18446744073709551616 : Nat) : Int)
/-- line.product. -/
theorem product_188 (x y : Nat) (hx : x < 9223372036854775808) (hy : y < 9223372036854775808) (w : World) :
    Calls Tryz.prog 188 #[.int .i64 x, .int .i64 y] w fun e w' => e = .returned (.agg #[.int .u64 (hiW (x * y)), .int .u64 (loW (x * y))]) ∧ Ext w w' := by
  have K := Lib.hid (mul64_265 x y (by omega) (by omega))
  have wx : IntKind.u64.wrap (x : Int) = x := Mul64.wrapN x (by omega)
  have wy : IntKind.u64.wrap (y : Int) = y := Mul64.wrapN y (by omega)
  unfold hiW loW
  generalize x * y = p at K ⊢
  go_enter Tryz.func188, Tryz.ntmps188
  go_wp2_with (go_at_call 265; refine (K.out _).mono ?_; rintro e w' ⟨rfl, rfl⟩)
  ((try simp only [Exit.inBlock, Exit.then]); refine bodyPost_ret (by first | (simp [results, Tryz.f188, go_sem]; rfl) | (simp [results, Tryz.f188, go_sem]; done) | (simp [results, Tryz.f188, go_sem, *]; rfl) | (simp [results, Tryz.f188, go_sem, *]; done)) rfl ?_)
  exact ⟨rfl, xt⟩

end Go.Proofs.YtcgghcicnanliaaGreatDoor
namespace Go.Proofs.YtcgghcicnanliaaGreatDoor
open Go.RowKit
set_option maxHeartbeats 4000000
set_option maxRecDepth 100000
attribute [local go_sem] Oper.semAt_some

/-- Segment number i of a line. -/
def segG (l : List Pt) (i : Nat) : Pt × Pt := (ptAt l i, ptAt l (i + 1))

theorem segments_190 (id : Int) (A : Option Addr) (n c : Nat) (w : World) :
    Calls Tryz.prog 190 #[.agg #[.int .i64 id, .slice A n c]] w fun e w' => e = .returned (.func (.func 267) #[] #[.pointer (some ⟨w.heap.size, 0, none⟩)]) ∧ w' = w.alloc (.cells #[.int .i64 id, .slice A n c] 93) := by
  go_enter Tryz.func190, Tryz.ntmps190
  go_wp2
  go_ret
  exact ⟨rfl, rfl⟩

/-- The rounds of line.segments. -/
theorem segments1_267 (n l0 Bs n₀ m b off c : Nat) (id : Int) (ps : List Pt) (hreach : ps.length ≤ 1000000) (hps : 2 ≤ ps.length) (hn : 1 ≤ n) (hb : b < n₀) (hmB : m ≤ Bs) (J Jx : List (Pt × Pt) → World → Prop)
    (hY : ∀ pre x W, J pre W → pre.length < ps.length - 1 → x = segG ps pre.length → YieldAt Fence.wide (n - 1) Tryz.prog l0 (sideE x) W fun e W' =>
      (e = .returned (.bool true) ∧ J (pre ++ [x]) W' ∧ Kp2 n₀ m W W') ∨ (e = .returned (.bool false) ∧ Jx (pre ++ [x]) W'))
    (W : World) (hJa : AbidesFrom W.heap.size J) (hn₀ : n₀ ≤ W.heap.size) (hBs : W.heap[Bs]? = some (.cells #[.int .i64 id, .slice (some ⟨b, off, none⟩) ps.length c] 93)) (hc : Sl encP 2 W (some ⟨b, off, none⟩) ps) (h0 : J [] W) :
    CallsIn Fence.wide n Tryz.prog 267 #[.func (.yield l0) #[] #[], .pointer (some ⟨Bs, 0, none⟩)] W fun e W' => (∃ v, e = .returned v) ∧
      ((∃ ys, ys = upto (segG ps) (ps.length - 1) ∧ J ys W') ∨ (∃ pre, (∃ k, k ≤ ps.length - 1 ∧ pre = upto (segG ps) k) ∧ Jx pre W')) := by
  have hBW : Bs < W.heap.size := (Array.getElem?_eq_some_iff.1 hBs).1
  have cB0 := Kp2.c0 (Kp2.refl n₀ m W) hmB hBs (i := 1) rfl
  have CB := Lib.hid (fun wr (h : Kp2 n₀ m W wr) => h.c0 hmB hBs (i := 1) rfl)
  have hmx : max ((ps.length : Int) - 1) 0 = ((ps.length - 1 : Nat) : Int) := by omega
  refine callsIn_of_wp Tryz.func267 rfl trivial ?_ rfl
  simp only [Tryz.ntmps267, List.size_toArray, List.length_cons, List.length_nil, Nat.reduceAdd, Nat.reduceSub, Array.replicate_succ, Array.replicate_zero, List.push_toArray, List.append_toArray, List.nil_append, List.cons_append]
  gi_wp2
  clear hBs cB0
  gi_loopw [3, 9] (fun _ s9 wr => ∃ k : Nat, k ≤ ps.length - 1 ∧ s9 = .int .i64 k ∧ J (upto (segG ps) k) wr ∧ Kp2 n₀ m W wr ∧ W.heap.size ≤ wr.heap.size)
    (fun _ s9 _ => ps.length - (intOf s9).toNat)
  case atStart => exact ⟨0, Nat.zero_le _, rfl, h0, Kp2.refl _ _ _, Nat.le_refl _⟩
  case round =>
    obtain ⟨k, hk, rfl, hJs, hnx, hszr⟩ := hrel
    by_cases hlt : k < ps.length - 1
    · obtain ⟨⟨x1, x2⟩, hx⟩ : ∃ y, ps[k]? = some y := ⟨_, List.getElem?_eq_getElem (by omega)⟩
      obtain ⟨⟨y1, y2⟩, hy⟩ : ∃ y, ps[k + 1]? = some y := ⟨_, List.getElem?_eq_getElem (by omega)⟩
      have hG : segG ps k = ((x1, x2), (y1, y2)) := by rw [segG, ptAt_eq hx, ptAt_eq hy]
      have e0 : wr.cell? ⟨b, off + k * 2, none⟩ = some (.int .i64 x1) := by have := hc.at_ hx (i := 0) rfl; rw [hnx.1.cell (p := ⟨b, _, none⟩) hb]; simpa using this
      have e1 : wr.cell? ⟨b, off + k * 2 + 1, none⟩ = some (.int .i64 x2) := by have := hc.at_ hx (i := 1) rfl; rw [hnx.1.cell (p := ⟨b, _, none⟩) hb]; simpa using this
      have g0 : wr.cell? ⟨b, off + (k + 1) * 2, none⟩ = some (.int .i64 y1) := by have := hc.at_ hy (i := 0) rfl; rw [hnx.1.cell (p := ⟨b, _, none⟩) hb]; simpa using this
      have g1 : wr.cell? ⟨b, off + (k + 1) * 2 + 1, none⟩ = some (.int .i64 y2) := by have := hc.at_ hy (i := 1) rfl; rw [hnx.1.cell (p := ⟨b, _, none⟩) hb]; simpa using this
      have cB := CB.out wr hnx
      have hltm : (k : Int) < ((ps.length - 1 : Nat) : Int) := by omega
      have hltz : (k : Int) < (ps.length : Int) := by omega
      have hltz1 : (k : Int) + 1 < (ps.length : Int) := by omega
      have hbr : b < wr.heap.size := by omega
      have hBr : Bs < wr.heap.size := by omega
      gi_wp2
      refine wpIn_region_tail 12 (by kernel_rfl) (by kernel_rfl) ?_
      intro W2 hx2
      simp only [List.take_succ_cons, List.take_zero, List.drop_succ_cons, List.drop_zero]
      obtain ⟨hc2, hf2, hz2⟩ := hx2.rules
      have g0' := (hx2.rules.1 b (off + k * 2) hbr).trans e0
      have g1' := (hx2.rules.1 b (off + k * 2 + 1) hbr).trans e1
      have g2' := (hx2.rules.1 b (off + (k + 1) * 2) hbr).trans g0
      have g3' := (hx2.rules.1 b (off + (k + 1) * 2 + 1) hbr).trans g1
      have cB' := (hx2.rules.1 Bs 1 hBr).trans cB
      have hJ2 := hJa (upto (segG ps) k) wr W2 none hJs hx2.gb (fun r e => by cases e)
      obtain ⟨fn, tmps, assign, body, hyy, hR⟩ := hY _ (segG ps k) _ hJ2 (by rw [upto_length]; exact hlt) (by rw [upto_length])
      simp only [sideE, hG] at hyy
      have wk : IntKind.i64.wrap ((k : Int) + 1) = (k : Int) + 1 := wrap_small (by omega) (by omega)
      have tk : ((k : Int) + 1).toNat = k + 1 := by omega
      have h00 : (0 : Int) ≤ (k : Int) + 1 := by omega
      clear hc2 hf2 e0 e1 g0 g1 cB
      iterate 12 still_step
      refine wpStill_nil ?_
      gi_wp2
      refine hR.mono ?_
      rintro e W3 (⟨rfl, hJ3, hk3⟩ | ⟨rfl, hJx3⟩)
      · have hs3 := hk3.1.size
        gi_wp2
        go_roundw
        case rel => exact ⟨k + 1, by omega, by simp, by rw [upto_succ]; exact hJ3, (hnx.ext (by omega) hx2).t hk3, by omega⟩
        case measure => simp [intOf]; omega
      · gi_wp2
        refine bodyPost_ret (results_none rfl _ _ _) rfl ?_
        exact ⟨⟨_, rfl⟩, .inr ⟨_, ⟨k + 1, by omega, (upto_succ _ _).symm⟩, hJx3⟩⟩
    · obtain rfl : k = ps.length - 1 := by omega
      gi_wp2
      go_end0
      exact ⟨⟨_, rfl⟩, .inl ⟨_, rfl, hJs⟩⟩

theorem segments_stops (n Bs n₀ m b off c : Nat) (id : Int) (ps : List Pt) (hreach : ps.length ≤ 1000000) (hps : 2 ≤ ps.length) (hn : 1 ≤ n) (w : World) (hn₀ : n₀ ≤ w.heap.size) (hb : b < n₀) (hmB : m ≤ Bs)
    (hBs : w.heap[Bs]? = some (.cells #[.int .i64 id, .slice (some ⟨b, off, none⟩) ps.length c] 93)) (hc : Sl encP 2 w (some ⟨b, off, none⟩) ps) :
    SeqStopsK Fence.wide n Tryz.prog 267 #[.pointer (some ⟨Bs, 0, none⟩)] sideE (Kp2 n₀ m) (fun ys => ys = upto (segG ps) (ps.length - 1)) (fun pre => ∃ k, k ≤ ps.length - 1 ∧ pre = upto (segG ps) k) (ps.length - 1) w := fun l J Jx W hW hJ hJx hY h0 => by
  have hlt : Bs < w.heap.size := (Array.getElem?_eq_some_iff.1 hBs).1
  exact segments1_267 n l Bs n₀ m b off c id ps hreach hps hn hb hmB J Jx (fun pre x W h1 h2 _ => hY pre x W h1 h2) W hJ (Nat.le_trans hn₀ hW.size) ((hW.block _ hlt).trans hBs) (hc.ext hW) h0

/-- A segment between places. -/
abbrev SegT := { s : Pt × Pt // plB s.1 = true ∧ plB s.2 = true }
theorem ptAt_all {l : List Pt} (hpl : ∀ x ∈ l, plB x = true) {i : Nat} (hi : i < l.length) : plB (ptAt l i) = true := by
  rw [ptAt_eq (List.getElem?_eq_getElem hi)]
  exact hpl _ (List.getElem_mem hi)
theorem segments_stopsT (n Bs n₀ m b off c : Nat) (id : Int) (ps : List Pt) (hpl : ∀ x ∈ ps, plB x = true) (hreach : ps.length ≤ 1000000) (hps : 2 ≤ ps.length) (hn : 1 ≤ n) (w : World) (hn₀ : n₀ ≤ w.heap.size) (hb : b < n₀) (hmB : m ≤ Bs)
    (hBs : w.heap[Bs]? = some (.cells #[.int .i64 id, .slice (some ⟨b, off, none⟩) ps.length c] 93)) (hc : Sl encP 2 w (some ⟨b, off, none⟩) ps) :
    SeqStopsK Fence.wide n Tryz.prog 267 #[.pointer (some ⟨Bs, 0, none⟩)] (fun s : SegT => sideE s.1) (Kp2 n₀ m) (fun ys => ys.map (·.1) = upto (segG ps) (ps.length - 1)) (fun pre => ∃ k, k ≤ ps.length - 1 ∧ pre.map (·.1) = upto (segG ps) k) (ps.length - 1) w := fun l J Jx W hW hJ hJx hY h0 => by
  have hlt : Bs < w.heap.size := (Array.getElem?_eq_some_iff.1 hBs).1
  have := segments1_267 n l Bs n₀ m b off c id ps hreach hps hn hb hmB (fun pre W => ∃ q : List SegT, q.map (·.1) = pre ∧ J q W) (fun pre W => ∃ q : List SegT, q.map (·.1) = pre ∧ Jx q W)
    (fun pre x W1 hq h2 hx => by
      obtain ⟨q, rfl, hj⟩ := hq
      simp only [List.length_map] at h2 hx
      have hpx : plB x.1 = true ∧ plB x.2 = true := by rw [hx]; exact ⟨ptAt_all hpl (by omega), ptAt_all hpl (by omega)⟩
      obtain ⟨fn, tmps, assign, body, hy, hR⟩ := hY q ⟨x, hpx⟩ W1 hj h2
      refine ⟨fn, tmps, assign, body, hy, hR.mono ?_⟩
      rintro e W' (⟨he, h3, h4⟩ | ⟨he, h3⟩)
      · exact .inl ⟨he, ⟨_, by simp, h3⟩, h4⟩
      · exact .inr ⟨he, ⟨_, by simp, h3⟩⟩)
    W (fun s X Y row hs hg hr => by
      obtain ⟨q, hq, hj⟩ := hs
      exact ⟨q, hq, hJ q X Y row hj hg hr⟩) (Nat.le_trans hn₀ hW.size) ((hW.block _ hlt).trans hBs) (hc.ext hW) ⟨[], rfl, h0⟩
  refine this.mono ?_
  rintro e W' ⟨he, h⟩
  refine ⟨he, ?_⟩
  rcases h with ⟨ys, hys, q, hq, hj⟩ | ⟨pre, ⟨k, hk, hpre⟩, q, hq, hj⟩
  · exact .inl ⟨q, hq.trans hys, hj⟩
  · exact .inr ⟨q, ⟨k, hk, hq.trans hpre⟩, hj⟩
end Go.Proofs.YtcgghcicnanliaaGreatDoor
namespace Go.Proofs.YtcgghcicnanliaaGreatDoor
set_option maxRecDepth 100000

theorem rayAt_mod (k : Nat) : rayAt (k + 64) = rayAt k := by
  unfold rayAt
  rw [show (k + 64) % 16 = k % 16 by omega, show (k + 64) / 16 % 4 = k / 16 % 4 by omega]
theorem rays_turn : ∀ i, i < 64 → ∀ k, k < 32 → 0 ≤ crossV (rayAt i) (rayAt (i + k)) ∧ (k = 0 ∨ 0 < crossV (rayAt i) (rayAt (i + k))) := by decide +kernel
theorem rays_long : ∀ i, i < 64 → 0 < dotV (rayAt i) (rayAt i) := by decide +kernel
theorem nonneg_of_mul {a b : Int} (ha : 0 < a) (h : 0 ≤ a * b) : 0 ≤ b := by
  by_cases hb : b < 0
  · have := Int.mul_neg_of_pos_of_neg ha hb
    omega
  · omega
/-- On a ray: so is it seen from both sides. -/
theorem cross_on {p r v : Pt} (h : crossV r v = 0) (hd : 0 < dotV r v) (hr : 0 < dotV r r) (hp : 0 ≤ crossV p r) : 0 ≤ crossV p v := by
  refine nonneg_of_mul hr ?_
  have e : dotV r r * crossV p v = dotV r v * crossV p r + crossV r v * dotV p r := by simp only [dotV, crossV]; grind
  rw [e, h]
  have := Int.mul_nonneg (Int.le_of_lt hd) hp
  omega
theorem cross_on' {q r v : Pt} (h : crossV r v = 0) (hd : 0 < dotV r v) (hr : 0 < dotV r r) (hq : 0 ≤ crossV r q) : 0 ≤ crossV v q := by
  refine nonneg_of_mul hr ?_
  have e : dotV r r * crossV v q = dotV r v * crossV r q - crossV r v * dotV r q := by simp only [dotV, crossV]; grind
  rw [e, h]
  have := Int.mul_nonneg (Int.le_of_lt hd) hq
  omega
/-- Between two rays. -/
theorem cross_in {p r s v : Pt} (hD : 0 < crossV r s) (h1 : 0 ≤ crossV r v) (h2 : 0 ≤ crossV v s) (hp : 0 ≤ crossV p r) (hq : 0 ≤ crossV p s) : 0 ≤ crossV p v := by
  refine nonneg_of_mul hD ?_
  have e : crossV r s * crossV p v = crossV v s * crossV p r + crossV r v * crossV p s := by simp only [crossV]; grind
  rw [e]
  have a1 := Int.mul_nonneg h2 hp
  have a2 := Int.mul_nonneg h1 hq
  omega
theorem cross_in' {q r s v : Pt} (hD : 0 < crossV r s) (h1 : 0 ≤ crossV r v) (h2 : 0 ≤ crossV v s) (hp : 0 ≤ crossV r q) (hq : 0 ≤ crossV s q) : 0 ≤ crossV v q := by
  refine nonneg_of_mul hD ?_
  have e : crossV r s * crossV v q = crossV v s * crossV r q + crossV r v * crossV s q := by simp only [crossV]; grind
  rw [e]
  have a1 := Int.mul_nonneg h2 hp
  have a2 := Int.mul_nonneg h1 hq
  omega
theorem between_wider {a n a' n' m : Nat} {v : Pt} (ha' : a' < 64) (ha : a < 64) (hm : a' + m = a ∨ a' + m = a + 64) (hn : m + n ≤ n') (hn' : n' < 32) (h : betweenB a n v = true) : betweenB a' n' v = true := by
  have e1 : rayAt (a' + m) = rayAt a := by
    rcases hm with hm | hm
    · rw [hm]
    · rw [hm, rayAt_mod]
  have e2 : rayAt (a' + (m + n)) = rayAt (a + n) := by
    rcases hm with hm | hm
    · rw [← Nat.add_assoc, hm]
    · rw [← Nat.add_assoc, hm, show a + 64 + n = a + n + 64 by omega, rayAt_mod]
  by_cases hz : n' = 0
  · obtain rfl : n = 0 := by omega
    obtain rfl : m = 0 := by omega
    have : a' = a := by omega
    subst this
    subst hz
    exact h
  have q1 : 0 ≤ crossV (rayAt a') (rayAt a) := by have := (rays_turn a' ha' m (by omega)).1; rwa [e1] at this
  have q2 : 0 ≤ crossV (rayAt a') (rayAt (a + n)) := by have := (rays_turn a' ha' (m + n) (by omega)).1; rwa [e2] at this
  have q3 : 0 ≤ crossV (rayAt a) (rayAt (a' + n')) := by
    have := (rays_turn a ha (n' - m) (by omega)).1
    rcases hm with hm | hm
    · rwa [show a + (n' - m) = a' + n' by omega] at this
    · rwa [← rayAt_mod (a + (n' - m)), show a + (n' - m) + 64 = a' + n' by omega] at this
  have q4 : 0 ≤ crossV (rayAt (a + n)) (rayAt (a' + n')) := by
    by_cases hl : a + n < 64
    · have := (rays_turn (a + n) hl (n' - (m + n)) (by omega)).1
      rcases hm with hm | hm
      · rwa [show a + n + (n' - (m + n)) = a' + n' by omega] at this
      · rwa [← rayAt_mod (a + n + (n' - (m + n))), show a + n + (n' - (m + n)) + 64 = a' + n' by omega] at this
    · have := (rays_turn (a + n - 64) (by omega) (n' - (m + n)) (by omega)).1
      have e3 : rayAt (a + n - 64) = rayAt (a + n) := by rw [← rayAt_mod (a + n - 64), show a + n - 64 + 64 = a + n by omega]
      rw [e3] at this
      rcases hm with hm | hm
      · rwa [← rayAt_mod (a + n - 64 + (n' - (m + n))), show a + n - 64 + (n' - (m + n)) + 64 = a' + n' by omega] at this
      · rwa [← rayAt_mod (a + n - 64 + (n' - (m + n))), ← rayAt_mod (a + n - 64 + (n' - (m + n)) + 64), show a + n - 64 + (n' - (m + n)) + 64 + 64 = a' + n' by omega] at this
  unfold betweenB at h ⊢
  rw [if_neg hz]
  by_cases h0 : n = 0
  · rw [if_pos h0] at h
    simp only [isOnB, Bool.and_eq_true, decide_eq_true_eq] at h
    have hr := rays_long a ha
    simp only [Bool.and_eq_true, decide_eq_true_eq]
    exact ⟨cross_on h.1 h.2 hr q1, cross_on' h.1 h.2 hr q3⟩
  · rw [if_neg h0] at h
    simp only [Bool.and_eq_true, decide_eq_true_eq] at h ⊢
    have hD : 0 < crossV (rayAt a) (rayAt (a + n)) := by
      rcases (rays_turn a ha n (by omega)).2 with e | e
      · omega
      · exact e
    exact ⟨cross_in hD h.1 h.2 q1 q2, cross_in' hD h.1 h.2 q3 q4⟩
end Go.Proofs.YtcgghcicnanliaaGreatDoor
