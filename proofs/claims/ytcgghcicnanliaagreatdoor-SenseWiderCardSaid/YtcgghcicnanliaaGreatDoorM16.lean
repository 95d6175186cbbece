/- Entries: what formed, seen say. Conditions: none. Walks: chart.under, chart.At. Conditions: a chart that is right, a place. Walks: chart.At. Conditions: a chart that is right, a place. -/
import Derived.Test.YtcgghcicnanliaaGreatDoorProg
import Derived.Test.YtcgghcicnanliaaGreatDoorM15
import Derived.Test.YtcgghcicnanliaaGreatDoorM09
import Derived.Test.YtcgghcicnanliaaGreatDoorM14
import Derived.Test.YtcgghcicnanliaaGreatDoorM06
set_option linter.unusedVariables false
set_option linter.unusedSimpArgs false
namespace Go.Proofs.YtcgghcicnanliaaGreatDoor
open Go.RowKit
set_option maxRecDepth 100000

structure EntryT where
  seq : Int
  time : Int
  kind : Int
  sensor : Int
  ref : Int
  a : Int
  n : Int
  lo : Int
  hi : Int
  temp : Int
  age : Int
  since : Int
def EntryT.vals (e : EntryT) : List Value := [.int .i64 e.seq, .int .i64 e.time, .int .i64 e.kind, .int .i64 e.sensor, .int .i64 e.ref, .int .i64 e.a, .int .i64 e.n, .int .i64 e.lo, .int .i64 e.hi, .int .i64 e.temp, .int .i64 e.age, .int .i64 e.since]
def EntryT.within (e : EntryT) : Bool := withinL (limOf e.kind) e.sensor e.ref e.a e.n e.lo e.hi e.temp e.age e.since
def headOk (e : EntryT) : Bool := kindOk e.kind && inB e.seq 1 2000 && inB e.time 0 1000000000 && decide (e.lo ≤ e.hi)
def tailOk (e : EntryT) : Bool := (!(decide (e.kind = 1) || decide (e.kind = 6)) || decide (e.lo = e.hi)) && (!(decide (e.kind = 1)) || decide (e.n ≤ e.time))
/-- sense.isFormed. -/
def formOk (e : EntryT) : Bool := headOk e && e.within && tailOk e

/-- What Seen says of an entry. -/
def EntryT.Seen (e : EntryT) : Prop := (2 ≤ e.kind ∧ e.kind ≤ 7) ∧ (1 ≤ e.seq ∧ e.seq ≤ 2000) ∧ (0 ≤ e.time ∧ e.time ≤ 1000000000) ∧ (1 ≤ e.sensor ∧ e.sensor ≤ 8) ∧ (e.temp = 0 ∧ e.age = 0 ∧ e.since = 0) ∧
  ((e.kind = 2 ∧ e.ref = 0 ∧ e.a = 0 ∧ e.n = 0 ∧ -100000 ≤ e.lo ∧ e.lo ≤ e.hi ∧ e.hi ≤ 100000) ∨
   (e.kind = 4 ∧ (1 ≤ e.ref ∧ e.ref ≤ 1000000) ∧ (0 ≤ e.a ∧ e.a ≤ 63) ∧ (0 ≤ e.n ∧ e.n ≤ 31) ∧ e.lo = 0 ∧ e.hi = 0) ∨
   ((e.kind = 3 ∨ e.kind = 5 ∨ e.kind = 6 ∨ e.kind = 7) ∧ (1 ≤ e.ref ∧ e.ref ≤ 1000000) ∧ e.a = 0 ∧ e.n = 0 ∧ (0 ≤ e.lo ∧ e.lo ≤ e.hi ∧ e.hi ≤ 100000) ∧ (e.kind = 5 → e.lo = 0) ∧ (e.kind = 6 → e.lo = e.hi)))
theorem EntryT.Seen.form {e : EntryT} (h : e.Seen) : formOk e = true := by
  obtain ⟨seq, time, kind, sensor, ref, a, n, lo, hi, temp, age, since⟩ := e
  simp only [EntryT.Seen] at h
  obtain ⟨h1, h2, h3, h4, ⟨rfl, rfl, rfl⟩, h6⟩ := h
  rcases h6 with ⟨rfl, rfl, rfl, rfl, g1, g2, g3⟩ | ⟨rfl, g1, g2, g3, rfl, rfl⟩ | ⟨hk, g1, rfl, rfl, g2, g3, g4⟩
  · simp [formOk, headOk, tailOk, EntryT.within, kindOk, limOf, withinL, inB]; omega
  · simp [formOk, headOk, tailOk, EntryT.within, kindOk, limOf, withinL, inB]; omega
  · rcases hk with rfl | rfl | rfl | rfl <;> simp at g3 g4 <;> simp [formOk, headOk, tailOk, EntryT.within, kindOk, limOf, withinL, inB] <;> omega
end Go.Proofs.YtcgghcicnanliaaGreatDoor
namespace Go.Proofs.YtcgghcicnanliaaGreatDoor
open Go.RowKit
set_option maxHeartbeats 2000000
set_option maxRecDepth 100000
attribute [local go_sem] Oper.semAt_some

theorem Ext.gb {a b : World} (h : Ext a b) : a.grownBy b none := ⟨h.os, h.tape, h.output, h.size, fun k hk _ => h.block k hk⟩

/-- The cells of a row of a rectangle; of some rows. -/
def rowL (w y x0 : Int) (j : Nat) : List Int := (List.range j).map fun (q : Nat) => y * w + (x0 + q)
def recL (w y0 x0 : Int) (nx i : Nat) : List Int := (List.range i).flatMap fun (r : Nat) => rowL w (y0 + r) x0 nx
theorem rowL_succ (w y x0 : Int) (j : Nat) : rowL w y x0 (j + 1) = rowL w y x0 j ++ [y * w + (x0 + j)] := by simp [rowL, List.range_succ]
theorem recL_succ (w y0 x0 : Int) (nx i : Nat) : recL w y0 x0 nx (i + 1) = recL w y0 x0 nx i ++ rowL w (y0 + i) x0 nx := by simp [recL, List.range_succ]
theorem rowL_len (w y x0 : Int) (j : Nat) : (rowL w y x0 j).length = j := by simp [rowL]
theorem recL_len (w y0 x0 : Int) (nx i : Nat) : (recL w y0 x0 nx i).length = i * nx := by
  induction i with
  | zero => simp [recL]
  | succ i ih => rw [recL_succ, List.length_append, ih, rowL_len, Nat.succ_mul]
def unE (x : Int) : Array Value := #[.int .i64 x]
theorem Kp2.c0 {n₀ m B i : Nat} {A C : World} (h : Kp2 n₀ m A C) (hm : m ≤ B) {xs : Array Value} {t : TypeId} (hb : A.heap[B]? = some (.cells xs t)) {v : Value} (hi : xs[i]? = some v) : C.cell? ⟨B, i, none⟩ = some v := by
  rw [h.boxed hm hb]; simp [World.cell?, hb, hi]

theorem under_110 (t : ChartT) (a b : Pt) (w : World) :
    Calls Tryz.prog 110 #[.agg t.vals.toArray, .agg #[.int .i64 a.1, .int .i64 a.2], .agg #[.int .i64 b.1, .int .i64 b.2]] w fun e w' =>
      e = .returned (.func (.func 171) #[] #[.pointer (some ⟨w.heap.size, 0, none⟩), .pointer (some ⟨w.heap.size + 1, 0, none⟩), .pointer (some ⟨w.heap.size + 1 + 1, 0, none⟩)]) ∧
      w' = ((w.alloc (.cells t.vals.toArray 26)).alloc (.cells #[.int .i64 a.1, .int .i64 a.2] 43)).alloc (.cells #[.int .i64 b.1, .int .i64 b.2] 43) := by
  obtain ⟨version, x, y, tw, th, size, cA, cc, cells, bA, bc, beacons, lA, lc, lines⟩ := t
  simp only [ChartT.vals]
  go_enter Tryz.func110, Tryz.ntmps110
  go_wp2
  go_ret
  exact ⟨rfl, rfl⟩

/-- The rounds of chart.under. -/
theorem under1_171 (n l0 n₀ m Bc Bl Bh : Nat) (ver x y tw th size a1 a2 b1 b2 cx0 cx1 cy0 cy1 : Int) (s1 s2 s3 : Value) (hn : 1 ≤ n) (hmc : m ≤ Bc) (hml : m ≤ Bl) (hmh : m ≤ Bh)
    (hw1 : 1 ≤ tw) (hw2 : tw ≤ 4000) (hh1 : 1 ≤ th) (hh2 : th ≤ 4000) (hx0 : -1 ≤ cx0) (hx0' : cx0 ≤ 3000000) (hx1 : -1 ≤ cx1) (hx1' : cx1 ≤ 3000000) (hy0 : -1 ≤ cy0) (hy0' : cy0 ≤ 3000000) (hy1 : -1 ≤ cy1) (hy1' : cy1 ≤ 3000000)
    (K1 : ∀ W, Calls Tryz.prog 172 #[.int .i64 y, .int .i64 size, .int .i64 a2] W fun e w' => e = .returned (.int .i64 cy0) ∧ W = w')
    (K2 : ∀ W, Calls Tryz.prog 172 #[.int .i64 y, .int .i64 size, .int .i64 b2] W fun e w' => e = .returned (.int .i64 cy1) ∧ W = w')
    (K3 : ∀ W, Calls Tryz.prog 172 #[.int .i64 x, .int .i64 size, .int .i64 a1] W fun e w' => e = .returned (.int .i64 cx0) ∧ W = w')
    (K4 : ∀ W, Calls Tryz.prog 172 #[.int .i64 x, .int .i64 size, .int .i64 b1] W fun e w' => e = .returned (.int .i64 cx1) ∧ W = w')
    (x0 y0 : Int) (nx ny : Nat) (ex0 : x0 = max 0 cx0) (ey0 : y0 = max 0 cy0) (enx : nx = (min (tw - 1) cx1 + 1 - x0).toNat) (eny : ny = (min (th - 1) cy1 + 1 - y0).toNat)
    (J Jx : List Int → World → Prop)
    (hY : ∀ pre x W, J pre W → pre.length < ny * nx → YieldAt Fence.wide (n - 1) Tryz.prog l0 (unE x) W fun e W' =>
      (e = .returned (.bool true) ∧ J (pre ++ [x]) W' ∧ Kp2 n₀ m W W') ∨ (e = .returned (.bool false) ∧ Jx (pre ++ [x]) W'))
    (W : World) (hJa : AbidesFrom W.heap.size J) (hn₀ : n₀ ≤ W.heap.size)
    (hBc : W.heap[Bc]? = some (.cells #[.int .i64 ver, .int .i64 x, .int .i64 y, .int .i64 tw, .int .i64 th, .int .i64 size, s1, s2, s3] 26))
    (hBl : W.heap[Bl]? = some (.cells #[.int .i64 a1, .int .i64 a2] 43)) (hBh : W.heap[Bh]? = some (.cells #[.int .i64 b1, .int .i64 b2] 43)) (h0 : J [] W) :
    CallsIn Fence.wide n Tryz.prog 171 #[.func (.yield l0) #[] #[], .pointer (some ⟨Bc, 0, none⟩), .pointer (some ⟨Bl, 0, none⟩), .pointer (some ⟨Bh, 0, none⟩)] W fun e W' => (∃ v, e = .returned v) ∧
      ((∃ ys, ys = recL tw y0 x0 nx ny ∧ J ys W') ∨ (∃ pre, (∃ i j, i < ny ∧ j < nx ∧ pre = recL tw y0 x0 nx i ++ rowL tw (y0 + i) x0 (j + 1)) ∧ Jx pre W')) := by
  have C : Hid (∀ wr, Kp2 n₀ m W wr → (wr.cell? ⟨Bc, 1, none⟩ = some (.int .i64 x) ∧ wr.cell? ⟨Bc, 2, none⟩ = some (.int .i64 y) ∧ wr.cell? ⟨Bc, 3, none⟩ = some (.int .i64 tw) ∧ wr.cell? ⟨Bc, 4, none⟩ = some (.int .i64 th) ∧ wr.cell? ⟨Bc, 5, none⟩ = some (.int .i64 size)) ∧
      (wr.cell? ⟨Bl, 0, none⟩ = some (.int .i64 a1) ∧ wr.cell? ⟨Bl, 1, none⟩ = some (.int .i64 a2) ∧ wr.cell? ⟨Bh, 0, none⟩ = some (.int .i64 b1) ∧ wr.cell? ⟨Bh, 1, none⟩ = some (.int .i64 b2))) := fun wr h =>
    ⟨⟨h.c0 hmc hBc rfl, h.c0 hmc hBc rfl, h.c0 hmc hBc rfl, h.c0 hmc hBc rfl, h.c0 hmc hBc rfl⟩, h.c0 hml hBl rfl, h.c0 hml hBl rfl, h.c0 hmh hBh rfl, h.c0 hmh hBh rfl⟩
  have L : Hid (Bc < W.heap.size ∧ Bl < W.heap.size ∧ Bh < W.heap.size) := ⟨(Array.getElem?_eq_some_iff.1 hBc).1, (Array.getElem?_eq_some_iff.1 hBl).1, (Array.getElem?_eq_some_iff.1 hBh).1⟩
  have k1 := Lib.hid K1
  have k2 := Lib.hid K2
  have k3 := Lib.hid K3
  have k4 := Lib.hid K4
  have HY := Lib.hid hY
  have HA := Lib.hid hJa
  have EX := Lib.hid (And.intro enx eny)
  have wth : IntKind.i64.wrap (th - 1) = th - 1 := by rw [IntKind.wrap_i64]; (try unfold wrap64); omega
  have wtw : IntKind.i64.wrap (tw - 1) = tw - 1 := by rw [IntKind.wrap_i64]; (try unfold wrap64); omega
  clear K1 K2 K3 K4 hBc hBl hBh hY hJa enx eny
  obtain ⟨⟨c1, c2, c3, c4, c5⟩, c6, c7, c8, c9⟩ := C.out W (Kp2.refl _ _ _)
  refine callsIn_of_wp Tryz.func171 rfl trivial ?_ rfl
  simp only [Tryz.ntmps171, List.size_toArray, List.length_cons, List.length_nil, Nat.reduceAdd, Nat.reduceSub, Array.replicate_succ, Array.replicate_zero, List.push_toArray, List.append_toArray, List.nil_append, List.cons_append]
  gi_wp2_with (refine ⟨trivial, ?_⟩; gi_at_call 172; refine (callsIn_wide.2 (k1.out _)).mono ?_; rintro e w' ⟨rfl, rfl⟩)
  rw [← ey0]
  have EY := Lib.hid ey0
  have EXX := Lib.hid ex0
  have y0a : 0 ≤ y0 := by omega
  have y0b : y0 ≤ 3000000 := by omega
  have x0a : 0 ≤ x0 := by omega
  have x0b : x0 ≤ 3000000 := by omega
  clear ey0 ex0
  clear c1 c2 c3 c4 c5 c6 c7 c8 c9
  gi_loopw [5, 6] (fun s5 _ wr => ∃ i : Nat, i ≤ ny ∧ s5 = .int .i64 (y0 + i) ∧ J (recL tw y0 x0 nx i) wr ∧ Kp2 n₀ m W wr ∧ W.heap.size ≤ wr.heap.size)
    (fun s5 _ _ => (y0 + ny - intOf s5).toNat)
  case atStart => exact ⟨0, Nat.zero_le _, by simp, by simpa [recL] using h0, Kp2.refl _ _ _, Nat.le_refl _⟩
  case round =>
    obtain ⟨i, hi, rfl, hJ, hK, hz⟩ := hrel
    obtain ⟨⟨c1, c2, c3, c4, c5⟩, c6, c7, c8, c9⟩ := C.out wr hK
    obtain ⟨l1, l2, l3⟩ : Bc < wr.heap.size ∧ Bl < wr.heap.size ∧ Bh < wr.heap.size := by have := L.out; omega
    by_cases hin : i < ny
    · have hiy : y0 + i ≤ min (th - 1) cy1 := by have := EX.out.2; omega
      have hdd : decide (y0 + (i : Int) ≤ min (th - 1) cy1) = true := decide_eq_true hiy
      gi_wp2
      refine wpIn_wide.2 ?_
      (refine wp_region_ext (by kernel_rfl) (by kernel_rfl) ?_; (repeat (first | go_big_quiet_step ((go_at_call 172; exact Xt.calls_same (k2.out _))) | quiet_step ((go_at_call 172; exact Xt.calls_same (k2.out _))))); refine wpQuiet_nil ?_; rintro _ ⟨xq, rfl⟩; have hx2 := xq.ext; generalize xq.world = w2 at hx2 ⊢)
      have hJ2 := HA.out _ _ _ none hJ hx2.gb (fun r e => by cases e)
      have hK2 := hK.ext (by omega) hx2
      have hz2 : W.heap.size ≤ w2.heap.size := by have := hx2.len; omega
      clear hJ hK hz hx2 c1 c2 c3 c4 c5 c6 c7 c8 c9
      obtain ⟨⟨c1, c2, c3, c4, c5⟩, c6, c7, c8, c9⟩ := C.out w2 hK2
      gi_wp2_with (refine ⟨trivial, ?_⟩; gi_at_call 172; refine (callsIn_wide.2 (k3.out _)).mono ?_; rintro e w' ⟨rfl, rfl⟩)
      rw [← EXX.out]
      clear c1 c2 c3 c4 c5 c6 c7 c8 c9
      gi_loopw [6] (fun s6 wq => ∃ j : Nat, j ≤ nx ∧ s6 = .int .i64 (x0 + j) ∧ J (recL tw y0 x0 nx i ++ rowL tw (y0 + i) x0 j) wq ∧ Kp2 n₀ m W wq ∧ W.heap.size ≤ wq.heap.size)
        (fun s6 _ => (x0 + nx - intOf s6).toNat)
      case atStart => exact ⟨0, Nat.zero_le _, by simp, by simpa [rowL] using hJ2, hK2, hz2⟩
      case round =>
        obtain ⟨j, hj, rfl, hJ3, hK3, hz3⟩ := hrel
        obtain ⟨⟨c1, c2, c3, c4, c5⟩, c6, c7, c8, c9⟩ := C.out _ hK3
        obtain ⟨l1, l2, l3⟩ : Bc < wr.heap.size ∧ Bl < wr.heap.size ∧ Bh < wr.heap.size := by have := L.out; omega
        by_cases hjn : j < nx
        · have hjx : x0 + j ≤ min (tw - 1) cx1 := by have := EX.out.1; omega
          have hdj : decide (x0 + (j : Int) ≤ min (tw - 1) cx1) = true := decide_eq_true hjx
          have hjb : x0 + (j : Int) ≤ 4000 := by omega
          have hib : y0 + (i : Int) ≤ 4000 := by omega
          have hmb := mul_bd (x := y0 + (i : Int)) (y := tw) (m := 4000) (n := 4000) (by omega) (by omega) (by omega) (by omega)
          simp only [Int.reduceMul, Int.reduceNeg] at hmb
          gi_wp2
          refine wpIn_wide.2 ?_
          (refine wp_region_ext (by kernel_rfl) (by kernel_rfl) ?_; (repeat (first | go_big_quiet_step ((go_at_call 172; exact Xt.calls_same (k4.out _))) | quiet_step ((go_at_call 172; exact Xt.calls_same (k4.out _))))); refine wpQuiet_nil ?_; rintro _ ⟨xq, rfl⟩; have hx2 := xq.ext; generalize xq.world = w2 at hx2 ⊢)
          have hJ4 := HA.out _ _ _ none hJ3 hx2.gb (fun r e => by cases e)
          have hK4 := hK3.ext (by omega) hx2
          have hz4 : W.heap.size ≤ w2.heap.size := by have := hx2.len; omega
          have hlen : (recL tw y0 x0 nx i ++ rowL tw (y0 + i) x0 j).length < ny * nx := by
            rw [List.length_append, recL_len, rowL_len]
            have : (i + 1) * nx ≤ ny * nx := Nat.mul_le_mul_right _ hin
            rw [Nat.succ_mul] at this
            omega
          obtain ⟨fn, tmps, assign, body, hyy, hR⟩ := HY.out _ ((y0 + i) * tw + (x0 + j)) _ hJ4 hlen
          simp only [unE] at hyy
          rw [List.append_assoc, ← rowL_succ] at hR
          clear hJ3 hK3 hz3 hx2 c1 c2 c3 c4 c5 c6 c7 c8 c9 hlen hJ4
          obtain ⟨⟨c1, c2, c3, c4, c5⟩, c6, c7, c8, c9⟩ := C.out w2 hK4
          gi_wp2
          refine hR.mono ?_
          rintro e W3 (⟨rfl, hJ5, hk5⟩ | ⟨rfl, hJx5⟩)
          · have hs5 := hk5.1.size
            gi_wp2
            go_roundw
            case rel => exact ⟨j + 1, by omega, by simp; omega, hJ5, hK4.t hk5, by omega⟩
            case measure => simp [intOf]; omega
          · gi_wp2
            refine bodyPost_ret (results_none rfl _ _ _) rfl ?_
            exact ⟨⟨_, rfl⟩, .inr ⟨_, ⟨i, j, hin, hjn, rfl⟩, hJx5⟩⟩
        · obtain rfl : j = nx := by omega
          have hjx : ¬ x0 + (j : Int) ≤ min (tw - 1) cx1 := by have := EX.out.1; omega
          have hdj : decide (x0 + (j : Int) ≤ min (tw - 1) cx1) = false := decide_eq_false hjx
          gi_wp2
          refine wpIn_wide.2 ?_
          (refine wp_region_ext (by kernel_rfl) (by kernel_rfl) ?_; (repeat (first | go_big_quiet_step ((go_at_call 172; exact Xt.calls_same (k4.out _))) | quiet_step ((go_at_call 172; exact Xt.calls_same (k4.out _))))); refine wpQuiet_nil ?_; rintro _ ⟨xq, rfl⟩; have hx2 := xq.ext; generalize xq.world = w2 at hx2 ⊢)
          have hJ4 := HA.out _ _ _ none hJ3 hx2.gb (fun r e => by cases e)
          have hK4 := hK3.ext (by omega) hx2
          have hz4 : W.heap.size ≤ w2.heap.size := by have := hx2.len; omega
          gi_wp2
          go_roundw
          case rel => exact ⟨i + 1, by omega, by simp; omega, by rw [recL_succ]; exact hJ4, hK4, hz4⟩
          case measure => simp [intOf]; omega
    · obtain rfl : i = ny := by omega
      have hiy : ¬ y0 + (i : Int) ≤ min (th - 1) cy1 := by have := EX.out.2; omega
      have hdd : decide (y0 + (i : Int) ≤ min (th - 1) cy1) = false := decide_eq_false hiy
      gi_wp2
      refine wpIn_wide.2 ?_
      (refine wp_region_ext (by kernel_rfl) (by kernel_rfl) ?_; (repeat (first | go_big_quiet_step ((go_at_call 172; exact Xt.calls_same (k2.out _))) | quiet_step ((go_at_call 172; exact Xt.calls_same (k2.out _))))); refine wpQuiet_nil ?_; rintro _ ⟨xq, rfl⟩; have hx2 := xq.ext; generalize xq.world = w2 at hx2 ⊢)
      have hJ2 := HA.out _ _ _ none hJ hx2.gb (fun r e => by cases e)
      gi_wp2
      go_end0
      exact ⟨⟨_, rfl⟩, .inl ⟨_, rfl, hJ2⟩⟩

end Go.Proofs.YtcgghcicnanliaaGreatDoor
namespace Go.Proofs.YtcgghcicnanliaaGreatDoor
open Go.RowKit
set_option maxHeartbeats 8000000
set_option maxRecDepth 100000
attribute [local go_sem] Oper.semAt_some

/-- The cells of a chart that a rectangle touches. -/
def rectL (t : ChartT) (a b : Pt) : List Int :=
  recL t.w (max 0 (colI t.y t.size a.2)) (max 0 (colI t.x t.size a.1)) (min (t.w - 1) (colI t.x t.size b.1) + 1 - max 0 (colI t.x t.size a.1)).toNat (min (t.h - 1) (colI t.y t.size b.2) + 1 - max 0 (colI t.y t.size a.2)).toNat
theorem chartOk_bds {t : ChartT} (h : chartOk t = true) : (1 ≤ t.w ∧ t.w ≤ 4000 ∧ 1 ≤ t.h ∧ t.h ≤ 4000 ∧ 1 ≤ t.size ∧ t.size ≤ 10000) ∧ -500000 ≤ t.x ∧ t.x ≤ 500000 ∧ -500000 ≤ t.y ∧ t.y ≤ 500000 := by
  simp only [chartOk, chartDims, plB, inB, Bool.and_eq_true, decide_eq_true_eq] at h
  omega
theorem plB_bds {p : Pt} (h : plB p = true) : -500000 ≤ p.1 ∧ p.1 ≤ 500000 ∧ -500000 ≤ p.2 ∧ p.2 ≤ 500000 := by
  simp only [plB, inB, Bool.and_eq_true, decide_eq_true_eq] at h
  omega
theorem colI_bds {a s x : Int} (h1 : -1000000 ≤ a) (h2 : a ≤ 1000000) (h3 : -1000000 ≤ x) (h4 : x ≤ 1000000) (h5 : 1 ≤ s) : -1 ≤ colI a s x ∧ colI a s x ≤ 3000000 := by
  unfold colI
  split
  · omega
  · have hd : 0 ≤ (x - a) / s := Int.ediv_nonneg (by omega) (by omega)
    have hd2 : (x - a) / s ≤ x - a := Int.ediv_le_self _ (by omega)
    omega

theorem rowL_prefix (w y x0 : Int) (j n : Nat) (h : j ≤ n) : ∃ r, rowL w y x0 j ++ r = rowL w y x0 n := by
  obtain ⟨d, rfl⟩ := Nat.exists_eq_add_of_le h
  clear h
  induction d with
  | zero => exact ⟨[], by simp⟩
  | succ d ih =>
    obtain ⟨r, hr⟩ := ih
    exact ⟨r ++ [y * w + (x0 + (j + d : Nat))], by rw [show j + (d + 1) = j + d + 1 by omega, rowL_succ, ← hr, List.append_assoc]⟩
theorem recL_prefix (w y0 x0 : Int) (nx i n : Nat) (h : i ≤ n) : ∃ r, recL w y0 x0 nx i ++ r = recL w y0 x0 nx n := by
  obtain ⟨d, rfl⟩ := Nat.exists_eq_add_of_le h
  clear h
  induction d with
  | zero => exact ⟨[], by simp⟩
  | succ d ih =>
    obtain ⟨r, hr⟩ := ih
    exact ⟨r ++ rowL w (y0 + (i + d : Nat)) x0 nx, by rw [show i + (d + 1) = i + d + 1 by omega, recL_succ, ← hr, List.append_assoc]⟩
theorem under_stops (n : Nat) (t : ChartT) (a b : Pt) (n₀ m Bc Bl Bh : Nat) (hn : 1 ≤ n) (hok : chartOk t = true) (ha : plB a = true) (hb : plB b = true) (w : World) (hmc : m ≤ Bc) (hml : m ≤ Bl) (hmh : m ≤ Bh) (hn₀ : n₀ ≤ w.heap.size)
    (hBc : w.heap[Bc]? = some (.cells t.vals.toArray 26)) (hBl : w.heap[Bl]? = some (.cells #[.int .i64 a.1, .int .i64 a.2] 43)) (hBh : w.heap[Bh]? = some (.cells #[.int .i64 b.1, .int .i64 b.2] 43)) :
    ∃ N, SeqStopsK Fence.wide n Tryz.prog 171 #[.pointer (some ⟨Bc, 0, none⟩), .pointer (some ⟨Bl, 0, none⟩), .pointer (some ⟨Bh, 0, none⟩)] unE (Kp2 n₀ m) (fun ys => ys = rectL t a b)
      (fun pre => ∃ x rest, pre ++ rest = rectL t a b ∧ pre.head? = some x) N w := by
  obtain ⟨⟨d1, d2, d3, d4, d5, d6⟩, d7, d8, d9, d10⟩ := chartOk_bds hok
  obtain ⟨a1, a2, a3, a4⟩ := plB_bds ha
  obtain ⟨b1, b2, b3, b4⟩ := plB_bds hb
  refine ⟨(min (t.h - 1) (colI t.y t.size b.2) + 1 - max 0 (colI t.y t.size a.2)).toNat * (min (t.w - 1) (colI t.x t.size b.1) + 1 - max 0 (colI t.x t.size a.1)).toNat, fun l J Jx W hW hJ hJx hY h0 => ?_⟩
  have e1 : Bc < w.heap.size := (Array.getElem?_eq_some_iff.1 hBc).1
  have e2 : Bl < w.heap.size := (Array.getElem?_eq_some_iff.1 hBl).1
  have e3 : Bh < w.heap.size := (Array.getElem?_eq_some_iff.1 hBh).1
  have := under1_171 n l n₀ m Bc Bl Bh t.version t.x t.y t.w t.h t.size a.1 a.2 b.1 b.2 (colI t.x t.size a.1) (colI t.x t.size b.1) (colI t.y t.size a.2) (colI t.y t.size b.2) (.slice t.cA t.cells.length t.cc) (.slice t.bA t.beacons.length t.bc) (.slice t.lA t.lines.length t.lc)
    hn hmc hml hmh d1 d2 d3 d4 (colI_bds (by omega) (by omega) (by omega) (by omega) (by omega)).1 (colI_bds (by omega) (by omega) (by omega) (by omega) (by omega)).2 (colI_bds (by omega) (by omega) (by omega) (by omega) (by omega)).1 (colI_bds (by omega) (by omega) (by omega) (by omega) (by omega)).2
    (colI_bds (by omega) (by omega) (by omega) (by omega) (by omega)).1 (colI_bds (by omega) (by omega) (by omega) (by omega) (by omega)).2 (colI_bds (by omega) (by omega) (by omega) (by omega) (by omega)).1 (colI_bds (by omega) (by omega) (by omega) (by omega) (by omega)).2
    (fun W => column_172 _ _ _ (by omega) (by omega) (by omega) (by omega) (by omega) (by omega) W) (fun W => column_172 _ _ _ (by omega) (by omega) (by omega) (by omega) (by omega) (by omega) W)
    (fun W => column_172 _ _ _ (by omega) (by omega) (by omega) (by omega) (by omega) (by omega) W) (fun W => column_172 _ _ _ (by omega) (by omega) (by omega) (by omega) (by omega) (by omega) W)
    _ _ _ _ rfl rfl rfl rfl J Jx hY W hJ (Nat.le_trans hn₀ hW.size) ((hW.block _ e1).trans hBc) ((hW.block _ e2).trans hBl) ((hW.block _ e3).trans hBh) h0
  refine this.mono fun e W' ⟨hv, h⟩ => ⟨hv, h.imp (fun ⟨ys, h1, h2⟩ => ⟨ys, h1, h2⟩) (fun ⟨pre, ⟨i, j, hi, hj, hp⟩, h2⟩ => ⟨pre, ?_, h2⟩)⟩
  subst hp
  obtain ⟨r1, h1⟩ := recL_prefix t.w (max 0 (colI t.y t.size a.2)) (max 0 (colI t.x t.size a.1)) (min (t.w - 1) (colI t.x t.size b.1) + 1 - max 0 (colI t.x t.size a.1)).toNat (i + 1) _ hi
  obtain ⟨r2, h2'⟩ := rowL_prefix t.w (max 0 (colI t.y t.size a.2) + i) (max 0 (colI t.x t.size a.1)) (j + 1) _ hj
  have hne : recL t.w (max 0 (colI t.y t.size a.2)) (max 0 (colI t.x t.size a.1)) (min (t.w - 1) (colI t.x t.size b.1) + 1 - max 0 (colI t.x t.size a.1)).toNat i ++ rowL t.w (max 0 (colI t.y t.size a.2) + i) (max 0 (colI t.x t.size a.1)) (j + 1) ≠ [] := by
    rw [rowL_succ]; simp
  obtain ⟨x, l', hx⟩ := List.exists_cons_of_ne_nil hne
  refine ⟨x, r2 ++ r1, ?_, by rw [hx]; rfl⟩
  unfold rectL
  rw [← h1, recL_succ, ← h2']
  simp only [List.append_assoc]

theorem at_49 (t : ChartT) (p : Pt) (w : World) (H : t.Lies w) (hok : chartOk t = true) (hp : plB p = true) :
    Calls Tryz.prog 49 #[.agg t.vals.toArray, .agg #[.int .i64 p.1, .int .i64 p.2]] w fun e w' => e = .returned (.tuple #[.int .i64 ((rectL t p p).head?.getD 0), .bool (rectL t p p).head?.isSome, .int .i64 0]) ∧ Ext w w' := by
  have K1 := Lib.hid (fun W (hx : Ext w W) => chartValid_41 t W (H.ext hx))
  have K2 := Lib.hid (isPlace_85 p (by have := plB_bds hp; simp only [I64]; omega) (by have := plB_bds hp; simp only [I64]; omega))
  have KS := Lib.hid (fun W B => under_stops (5 - 1) t p p w.heap.size B B (B + 1) (B + 1 + 1) (by omega) hok hp hp W (by omega) (by omega) (by omega))
  have KU := Lib.hid (fun W => under_110 t p p W)
  rw [hok] at K1
  rw [hp] at K2
  clear H
  generalize rectL t p p = full at KS ⊢
  obtain ⟨px, py⟩ := p
  obtain ⟨version, x, y, tw, th, size, cA, cc, cells, bA, bc, beacons, lA, lc, lines⟩ := t
  simp only [ChartT.vals] at *
  refine (callsIn_wide (n := 5)).1 ?_
  refine callsIn_of_wp_marks Tryz.func49 rfl trivial ?_ rfl
  refine wpIn_wide.2 ?_
  simp only [Tryz.ntmps49, List.size_toArray, List.length_cons, List.length_nil, Nat.reduceAdd, Nat.reduceSub, Array.replicate_succ, Array.replicate_zero, List.push_toArray, List.append_toArray, List.nil_append, List.cons_append]
  go_wp2_with (first
    | (go_at_call 41; refine (K1.out _ xt).mono ?_; rintro e w1 ⟨rfl, hb1⟩; obtain ⟨hc1, hf1, hz1⟩ := hb1.rules; (try simp only [World.size_alloc] at hz1); (have hzz1 : w.heap.size < w1.heap.size := by omega); (have hzy1 : w.heap.size + 1 < w1.heap.size := by omega))
    | (go_at_call 85; refine (K2.out _).mono ?_; rintro e w2 ⟨rfl, hb2⟩; obtain ⟨hc2, hf2, hz2⟩ := hb2.rules; (have hzz2 : w.heap.size < w2.heap.size := by omega); (have hzy2 : w.heap.size + 1 < w2.heap.size := by omega))
    | (go_at_call 110; refine (KU.out _).mono ?_; rintro e w3 ⟨rfl, rfl⟩))
  have hE12 := hb1.trans hb2
  have q4 : Boxed w2 (w.heap.size + 1 + 1) 3 (.int .i64 0) := by
    refine (hE12.block _ (by simp)).trans ?_
    rw [Below.heap_alloc _ _ _ (by simp), Below.heap_alloc _ _ _ (by simp)]
    have := World.alloc_heap_new ((w.alloc (.cells #[.int .i64 version, .int .i64 x, .int .i64 y, .int .i64 tw, .int .i64 th, .int .i64 size, .slice cA cells.length cc, .slice bA beacons.length bc, .slice lA lines.length lc] 26)).alloc (.cells #[.int .i64 px, .int .i64 py] 43)) (.cells #[.int .i64 0] 3)
    simpa using this
  have q5 : Boxed w2 (w.heap.size + 1 + 1 + 1) 4 (.bool false) := by
    refine (hE12.block _ (by simp)).trans ?_
    rw [Below.heap_alloc _ _ _ (by simp)]
    have := World.alloc_heap_new (((w.alloc (.cells #[.int .i64 version, .int .i64 x, .int .i64 y, .int .i64 tw, .int .i64 th, .int .i64 size, .slice cA cells.length cc, .slice bA beacons.length bc, .slice lA lines.length lc] 26)).alloc (.cells #[.int .i64 px, .int .i64 py] 43)).alloc (.cells #[.int .i64 0] 3)) (.cells #[.bool false] 4)
    simpa using this
  have q6 : Boxed w2 (w.heap.size + 1 + 1 + 1 + 1) 47 (.int .i64 0) := by
    refine (hE12.block _ (by simp)).trans ?_
    have := World.alloc_heap_new ((((w.alloc (.cells #[.int .i64 version, .int .i64 x, .int .i64 y, .int .i64 tw, .int .i64 th, .int .i64 size, .slice cA cells.length cc, .slice bA beacons.length bc, .slice lA lines.length lc] 26)).alloc (.cells #[.int .i64 px, .int .i64 py] 43)).alloc (.cells #[.int .i64 0] 3)).alloc (.cells #[.bool false] 4)) (.cells #[.int .i64 0] 47)
    simpa using this
  have hE0 : Ext w w2 := (((((Ext.refl w).alloc _).alloc _).alloc _).alloc _).alloc _ |>.trans hE12
  have hz12 : w.heap.size + 5 ≤ w2.heap.size := by have := hE12.len; simp only [World.size_alloc] at this; omega
  clear hc1 hf1 hz1 hzz1 hzy1 hc2 hf2 hz2 hzz2 hzy2 hb1 hb2 hE12
  obtain ⟨W0, hW0⟩ : ∃ W0, ((w2.alloc (.cells #[.int .i64 version, .int .i64 x, .int .i64 y, .int .i64 tw, .int .i64 th, .int .i64 size, .slice cA cells.length cc, .slice bA beacons.length bc, .slice lA lines.length lc] 26)).alloc (.cells #[.int .i64 px, .int .i64 py] 43)).alloc (.cells #[.int .i64 px, .int .i64 py] 43) = W0 := ⟨_, rfl⟩
  have hz0 : W0.heap.size = w2.heap.size + 3 := by rw [← hW0]; simp
  have bC : W0.heap[w2.heap.size]? = some (.cells #[.int .i64 version, .int .i64 x, .int .i64 y, .int .i64 tw, .int .i64 th, .int .i64 size, .slice cA cells.length cc, .slice bA beacons.length bc, .slice lA lines.length lc] 26) := by
    rw [← hW0, Below.heap_alloc _ _ _ (by simp only [World.size_alloc]; omega), Below.heap_alloc _ _ _ (by simp only [World.size_alloc]; omega)]
    exact World.alloc_heap_new w2 _
  have bL : W0.heap[w2.heap.size + 1]? = some (.cells #[.int .i64 px, .int .i64 py] 43) := by
    rw [← hW0, Below.heap_alloc _ _ _ (by simp)]
    have := World.alloc_heap_new (w2.alloc (.cells #[.int .i64 version, .int .i64 x, .int .i64 y, .int .i64 tw, .int .i64 th, .int .i64 size, .slice cA cells.length cc, .slice bA beacons.length bc, .slice lA lines.length lc] 26)) (.cells #[.int .i64 px, .int .i64 py] 43)
    simpa using this
  have bH : W0.heap[w2.heap.size + 1 + 1]? = some (.cells #[.int .i64 px, .int .i64 py] 43) := by
    rw [← hW0]
    have := World.alloc_heap_new ((w2.alloc (.cells #[.int .i64 version, .int .i64 x, .int .i64 y, .int .i64 tw, .int .i64 th, .int .i64 size, .slice cA cells.length cc, .slice bA beacons.length bc, .slice lA lines.length lc] 26)).alloc (.cells #[.int .i64 px, .int .i64 py] 43)) (.cells #[.int .i64 px, .int .i64 py] 43)
    simpa using this
  have hE20 : Ext w2 W0 := by rw [← hW0]; exact (((Ext.refl w2).alloc _).alloc _).alloc _
  have r4 : Boxed W0 (w.heap.size + 1 + 1) 3 (.int .i64 0) := (hE20.block _ (by omega)).trans q4
  have r5 : Boxed W0 (w.heap.size + 1 + 1 + 1) 4 (.bool false) := (hE20.block _ (by omega)).trans q5
  have r6 : Boxed W0 (w.heap.size + 1 + 1 + 1 + 1) 47 (.int .i64 0) := (hE20.block _ (by omega)).trans q6
  have hB0 : Below w.heap.size w W0 := hE0.trans hE20
  obtain ⟨N, hst⟩ := KS.out W0 w2.heap.size (by omega) bC bL bH
  rw [hW0]
  clear hW0 q4 q5 q6 bC bL bH hE20 hE0 K1 K2 KU KS
  refine (wpIn_wide (n := 5)).1 ?_
  refine wpIn_rangeFunc_ownH rfl (by omega) (gf := 171) (lb := #[.pointer (some ⟨w2.heap.size, 0, none⟩), .pointer (some ⟨w2.heap.size + 1, 0, none⟩), .pointer (some ⟨w2.heap.size + 1 + 1, 0, none⟩)]) rfl trivial (enters_of Tryz.func171 (by kernel_rfl) rfl)
    hst Kp2.t (Kp2.b (by omega)) (Below.refl _ _) (fun _ => rfl)
    (fun pre W => (((pre = [] ∧ Boxed W (w.heap.size + 1 + 1) 3 (.int .i64 0)) ∧ Boxed W (w.heap.size + 1 + 1 + 1) 4 (.bool false)) ∧ Boxed W (w.heap.size + 1 + 1 + 1 + 1) 47 (.int .i64 0)) ∧ Below w.heap.size w W)
    (fun c pre W => ((((c = .ret ∧ pre.length = 1) ∧ Boxed W (w.heap.size + 1 + 1) 3 (.int .i64 (pre.head?.getD 0))) ∧ Boxed W (w.heap.size + 1 + 1 + 1) 4 (.bool true)) ∧ Boxed W (w.heap.size + 1 + 1 + 1 + 1) 47 (.int .i64 0)) ∧ Below w.heap.size w W)
    (OwnFrom.and (OwnFrom.and (OwnFrom.and (OwnFrom.and (ownFrom_pure _ _) (Own.from (boxed_own _ _ (fun _ => _)) _)) (Own.from (boxed_own _ _ (fun _ => _)) _)) (Own.from (boxed_own _ _ (fun _ => _)) _)) (ownFrom_below (Nat.le_refl _) (by omega)))
    (fun c => OwnFrom.and (OwnFrom.and (OwnFrom.and (OwnFrom.and (ownFrom_pure _ _) (Own.from (boxed_own _ _ (fun pre => _)) _)) (Own.from (boxed_own _ _ (fun _ => _)) _)) (Own.from (boxed_own _ _ (fun _ => _)) _)) (ownFrom_below (Nat.le_refl _) (by omega)))
    ⟨⟨⟨⟨rfl, r4⟩, r5⟩, r6⟩, hB0⟩
    (fun xv a' W => a' = { tmps := #[.agg #[.int .i64 version, .int .i64 x, .int .i64 y, .int .i64 tw, .int .i64 th, .int .i64 size, .slice cA cells.length cc, .slice bA beacons.length bc, .slice lA lines.length lc], .agg #[.int .i64 px, .int .i64 py], .pointer (some ⟨w.heap.size, 0, none⟩), .pointer (some ⟨w.heap.size + 1, 0, none⟩), .pointer (some ⟨w.heap.size + 1 + 1, 0, none⟩), .pointer (some ⟨w.heap.size + 1 + 1 + 1, 0, none⟩), .pointer (some ⟨w.heap.size + 1 + 1 + 1 + 1, 0, none⟩), .int .i64 xv, .agg #[.int .i64 version, .int .i64 x, .int .i64 y, .int .i64 tw, .int .i64 th, .int .i64 size, .slice cA cells.length cc, .slice bA beacons.length bc, .slice lA lines.length lc], .bool true, .bool false, .bool false, .agg #[.int .i64 px, .int .i64 py], .bool true, .bool false, .bool false, .agg #[.int .i64 version, .int .i64 x, .int .i64 y, .int .i64 tw, .int .i64 th, .int .i64 size, .slice cA cells.length cc, .slice bA beacons.length bc, .slice lA lines.length lc], .agg #[.int .i64 px, .int .i64 py], .agg #[.int .i64 px, .int .i64 py], .func (.func 171) #[] #[.pointer (some ⟨w2.heap.size, 0, none⟩), .pointer (some ⟨w2.heap.size + 1, 0, none⟩), .pointer (some ⟨w2.heap.size + 1 + 1, 0, none⟩)], .int .i64 xv, undef], defers := [] })
    (fun x a' _ X Y row hs hg hr => hs)
    ?assign ?body ?done ?stop
  case assign =>
    rintro l pre xv W K hI hK
    simp only [unE]
    gi_wp2
    exact hK _ _ (KeepsFrom.refl _ _) (Kp2.refl _ _ _) hI rfl
  case body =>
    rintro l pre xv a' W hl ⟨r, hr⟩ ⟨⟨⟨⟨rfl, b4⟩, b5⟩, b6⟩, hB⟩ rfl hlt
    have c4 := b4.cell
    have f4 := b4.frozen
    have c5 := b5.cell
    have f5 := b5.frozen
    have c6 := b6.cell
    have f6 := b6.frozen
    gi_wp2
    have e4 := ((b4.set (.int .i64 xv)).kept (grownBy_setCell' _ (w.heap.size + 1 + 1 + 1) (.bool true)) (by intro e; injection e with e; omega)).kept (grownBy_setCell' _ (w.heap.size + 1 + 1 + 1 + 1) (.int .i64 0)) (by intro e; injection e with e; omega)
    have e5 := ((b5.kept (grownBy_setCell' _ (w.heap.size + 1 + 1) (.int .i64 xv)) (by intro e; injection e with e; omega)).set (.bool true)).kept (grownBy_setCell' _ (w.heap.size + 1 + 1 + 1 + 1) (.int .i64 0)) (by intro e; injection e with e; omega)
    have e6 := ((b6.kept (grownBy_setCell' _ (w.heap.size + 1 + 1) (.int .i64 xv)) (by intro e; injection e with e; omega)).kept (grownBy_setCell' _ (w.heap.size + 1 + 1 + 1) (.bool true)) (by intro e; injection e with e; omega)).set (.int .i64 0)
    exact ⟨(((KeepsOthers.setCell _ _ _).trans (KeepsOthers.setCell _ _ _)).trans (KeepsOthers.setCell _ _ _)).from _, ⟨⟨⟨⟨rfl, rfl⟩, e4⟩, e5⟩, e6⟩,
      ((hB.setCell (p := ⟨w.heap.size + 1 + 1, 0, none⟩) (by simp only; omega) _).setCell (p := ⟨w.heap.size + 1 + 1 + 1, 0, none⟩) (by simp only; omega) _).setCell (p := ⟨w.heap.size + 1 + 1 + 1 + 1, 0, none⟩) (by simp only; omega) _⟩
  case done =>
    rintro D ys W hD rfl ⟨⟨⟨⟨h, b4⟩, b5⟩, b6⟩, hB⟩ hK
    subst h
    have c4 := b4.cell
    have f4 := b4.frozen
    have c5 := b5.cell
    have f5 := b5.frozen
    have c6 := b6.cell
    have f6 := b6.frozen
    go_wp2
    have e4 := ((b4.set (.int .i64 0)).kept (grownBy_setCell' _ (w.heap.size + 1 + 1 + 1) (.bool false)) (by intro e; injection e with e; omega)).kept (grownBy_setCell' _ (w.heap.size + 1 + 1 + 1 + 1) (.int .i64 0)) (by intro e; injection e with e; omega)
    have e5 := ((b5.kept (grownBy_setCell' _ (w.heap.size + 1 + 1) (.int .i64 0)) (by intro e; injection e with e; omega)).set (.bool false)).kept (grownBy_setCell' _ (w.heap.size + 1 + 1 + 1 + 1) (.int .i64 0)) (by intro e; injection e with e; omega)
    have e6 := ((b6.kept (grownBy_setCell' _ (w.heap.size + 1 + 1) (.int .i64 0)) (by intro e; injection e with e; omega)).kept (grownBy_setCell' _ (w.heap.size + 1 + 1 + 1) (.bool false)) (by intro e; injection e with e; omega)).set (.int .i64 0)
    have hBB := ((hB.setCell (p := ⟨w.heap.size + 1 + 1, 0, none⟩) (by simp only; omega) (.int .i64 0)).setCell (p := ⟨w.heap.size + 1 + 1 + 1, 0, none⟩) (by simp only; omega) (.bool false)).setCell (p := ⟨w.heap.size + 1 + 1 + 1 + 1, 0, none⟩) (by simp only; omega) (.int .i64 0)
    have hK' := (((KeepsOthers.setCell W ⟨w.heap.size + 1 + 1, 0, none⟩ (.int .i64 0)).trans (KeepsOthers.setCell _ ⟨w.heap.size + 1 + 1 + 1, 0, none⟩ (.bool false))).trans (KeepsOthers.setCell _ ⟨w.heap.size + 1 + 1 + 1 + 1, 0, none⟩ (.int .i64 0))).same D _ hK rfl
    refine ⟨by simp, .inl ⟨_, _, rfl, run_takeDeferred hK', ?_⟩⟩
    have g4 := cell_kept e4.cell (grownBy_putObj' _ D (.deferred none)) (fun r e => by cases e; exact ⟨_, hK', rfl⟩)
    have g5 := cell_kept e5.cell (grownBy_putObj' _ D (.deferred none)) (fun r e => by cases e; exact ⟨_, hK', rfl⟩)
    have g6 := cell_kept e6.cell (grownBy_putObj' _ D (.deferred none)) (fun r e => by cases e; exact ⟨_, hK', rfl⟩)
    exact ⟨.tuple #[.int .i64 0, .bool false, .int .i64 0], by simp [results, Tryz.f49, go_sem, g4, g5, g6], rfl, hBB.trans (belowK_b (w := w) (Nat.le_refl _) _ D _ _ (by omega) hK' rfl rfl)⟩
  case stop =>
    rintro D c pre W hD ⟨xv, rest, hpre, hhd⟩ ⟨⟨⟨⟨⟨rfl, hx⟩, b4⟩, b5⟩, b6⟩, hB⟩ hK
    gi_wp2
    refine ⟨by simp, .inl ⟨_, _, rfl, run_takeDeferred hK, ?_⟩⟩
    have g4 := cell_kept b4.cell (grownBy_putObj' _ D (.deferred none)) (fun r e => by cases e; exact ⟨_, hK, rfl⟩)
    have g5 := cell_kept b5.cell (grownBy_putObj' _ D (.deferred none)) (fun r e => by cases e; exact ⟨_, hK, rfl⟩)
    have g6 := cell_kept b6.cell (grownBy_putObj' _ D (.deferred none)) (fun r e => by cases e; exact ⟨_, hK, rfl⟩)
    refine ⟨.tuple #[.int .i64 (pre.head?.getD 0), .bool true, .int .i64 0], by simp [results, Tryz.f49, go_sem, g4, g5, g6], ?_, hB.trans (belowK_b (w := w) (Nat.le_refl _) _ D _ _ (by omega) hK rfl rfl)⟩
    cases pre with
    | nil => cases hhd
    | cons u l => rw [← hpre]; rfl

end Go.Proofs.YtcgghcicnanliaaGreatDoor
