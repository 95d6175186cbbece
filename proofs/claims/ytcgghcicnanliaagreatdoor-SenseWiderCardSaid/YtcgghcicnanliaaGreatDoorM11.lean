/- Walks: sound.layers, sound.Valid. Conditions: none. Rows of places that a call owns; walks: slices.Clone, SortFunc, Compact at []Point. Conditions: none. -/
import Derived.RangeFuncNested
import Derived.RangeFuncBound
import Derived.RangeFuncCalls
import Derived.RangeFuncLeaves
import Derived.RangeFuncBox
import Derived.Shelf.Abstract
import Derived.OwnWalkIn
import Derived.TacticsInMore
import Derived.LoopNIn
import Derived.LoopIn
import Derived.Test.YtcgghcicnanliaaGreatDoorProg
import Derived.Test.YtcgghcicnanliaaGreatDoorM10
import Derived.Test.YtcgghcicnanliaaGreatDoorM07
import Derived.Lib.SlicesCompact
import Derived.Lib.SliceRun
import Derived.Lib.OwnBridge
import Derived.Deep.Draws
import Derived.Deep.LoopGhost
set_option linter.unusedVariables false
set_option linter.unusedSimpArgs false
namespace Go.Proofs.YtcgghcicnanliaaGreatDoor
open Go.RowKit
set_option maxHeartbeats 2000000
set_option maxRecDepth 100000
attribute [local go_sem] Oper.semAt_some

/-- What has come when k rounds are over. -/
def upto {α : Type} (f : Nat → α) (k : Nat) : List α := (List.range k).map f
theorem upto_succ {α : Type} (f : Nat → α) (k : Nat) : upto f (k + 1) = upto f k ++ [f k] := by simp [upto, List.range_succ]
theorem upto_length {α : Type} (f : Nat → α) (k : Nat) : (upto f k).length = k := by simp [upto]
/-- A list that grows by one element at its end is such a list: its last one. -/
theorem upto_snoc {α : Type} {f : Nat → α} {k : Nat} {ini : List α} {x : α} (h : upto f k = ini ++ [x]) : ∃ m, k = m + 1 ∧ ini = upto f m ∧ x = f m := by
  cases k with
  | zero => simp [upto] at h
  | succ m =>
    rw [upto_succ] at h
    obtain ⟨e1, e2⟩ := List.append_inj' h rfl
    exact ⟨m, rfl, e1.symm, by simpa using e2.symm⟩

/-- All that came passed; the last that came did not. -/
def AllP {α : Type} (f : α → Bool) (pre : List α) : Prop := ∀ p ∈ pre, f p = true
def LastF {α : Type} (f : α → Bool) (pre : List α) : Prop := ∃ ini last, pre = ini ++ [last] ∧ f last = false
theorem AllP.nil {α : Type} (f : α → Bool) : AllP f [] := fun _ h => absurd h (by simp)
theorem AllP.snoc {α : Type} {f : α → Bool} {pre : List α} {x : α} (h : AllP f pre) (hx : f x = true) : AllP f (pre ++ [x]) := fun p hp => (List.mem_append.1 hp).elim (h p) (fun e => by rw [List.mem_singleton] at e; subst e; exact hx)
theorem LastF.mk {α : Type} {f : α → Bool} {x : α} (pre : List α) (hx : f x = false) : LastF f (pre ++ [x]) := ⟨pre, x, rfl, hx⟩
theorem AllP.all {α : Type} {f : α → Bool} {g : Nat → α} {n : Nat} (h : AllP f (upto g n)) : (List.range n).all (fun j => f (g j)) = true :=
  all_range_true (fun j hj => h _ (by simp only [upto, List.mem_map, List.mem_range]; exact ⟨j, hj, rfl⟩))
theorem LastF.all {α : Type} {f : α → Bool} {g : Nat → α} {k n : Nat} (hk : k ≤ n) (h : LastF f (upto g k)) : (List.range n).all (fun j => f (g j)) = false := by
  obtain ⟨ini, last, e1, e2⟩ := h
  obtain ⟨m, rfl, rfl, rfl⟩ := upto_snoc e1
  exact all_range_false (j := m) (by omega) e2

structure WaterT where
  til : Int
  lo : Int
  hi : Int
def WaterT.vals (x : WaterT) : List Value := [.int .i64 x.til, .int .i64 x.lo, .int .i64 x.hi]
theorem WaterT.len (x : WaterT) : x.vals.length = 3 := rfl
/-- The water number j, and the depth at which it begins. -/
def watAt (l : List WaterT) (j : Nat) : WaterT := l[j]?.getD ⟨0, 0, 0⟩
def watFrom (l : List WaterT) : Nat → Int
  | 0 => 0
  | j + 1 => (watAt l j).til
def watG (l : List WaterT) (j : Nat) : Int × WaterT := (watFrom l j, watAt l j)
def watEnc (x : Int × WaterT) : Array Value := #[.int .i64 x.1, .agg #[.int .i64 x.2.til, .int .i64 x.2.lo, .int .i64 x.2.hi]]
def watOk (x : Int × WaterT) : Bool := decide (x.1 < x.2.til) && decide (1 ≤ x.2.lo) && decide (x.2.lo ≤ x.2.hi) && decide (x.2.hi ≤ 20000)
/-- sound.Valid. -/
def soundOk (l : List WaterT) : Bool := decide (l ≠ []) && decide (l.length ≤ 20) && decide ((watAt l (l.length - 1)).til = 100000) && (List.range l.length).all (fun j => watOk (watG l j))

theorem layers_101 (A : Option Addr) (n c : Nat) (w : World) :
    Calls Tryz.prog 101 #[.slice A n c] w fun e w' => e = .returned (.func (.func 166) #[] #[.pointer (some ⟨w.heap.size, 0, none⟩)]) ∧ w' = w.alloc (.cells #[.slice A n c] 35) := by
  go_enter Tryz.func101, Tryz.ntmps101
  go_wp2
  go_ret
  exact ⟨rfl, rfl⟩

/-- Below n₀ all lies as it lay; and from m on what is cells. -/
def Kp2 (n₀ m : Nat) (W W' : World) : Prop := Below n₀ W W' ∧ ∀ k o, m ≤ k → W.heap[k]? = some o → o.isCells = true → W'.heap[k]? = some o
theorem Kp2.refl (n₀ m : Nat) (W : World) : Kp2 n₀ m W W := ⟨Below.refl _ _, fun _ _ _ h _ => h⟩
theorem Kp2.t {n₀ m : Nat} {A B C : World} (h : Kp2 n₀ m A B) (k : Kp2 n₀ m B C) : Kp2 n₀ m A C := ⟨h.1.trans k.1, fun i o hi ho hc => k.2 i o hi (h.2 i o hi ho hc) hc⟩
theorem Kp2.b {n₀ m : Nat} {w : World} (hn : n₀ ≤ w.heap.size) (W : World) (l : Nat) (o o' : Obj) (hl : w.heap.size ≤ l) (h : W.heap[l]? = some o) (h1 : o.isCells = false) (h2 : o.isWalk = false) : Kp2 n₀ m W (W.putObj l o') :=
  ⟨belowK_b hn W l o o' hl h h1 h2, fun k p hk hp hc => by
    by_cases e : k = l
    · subst e; rw [h] at hp; cases hp; rw [h1] at hc; cases hc
    · rw [World.putObj_heap_other e]; exact hp⟩
theorem Kp2.alloc {n₀ m : Nat} {A B : World} (h : Kp2 n₀ m A B) (hn : n₀ ≤ B.heap.size) (o : Obj) : Kp2 n₀ m A (B.alloc o) := ⟨h.1.alloc hn o, fun k p hk hp hc => by
    have h1 := h.2 k p hk hp hc
    rw [Below.heap_alloc B o k (Array.getElem?_eq_some_iff.1 h1).1]; exact h1⟩
theorem Kp2.ext {n₀ m : Nat} {A B C : World} (h : Kp2 n₀ m A B) (hn : n₀ ≤ B.heap.size) (hx : Ext B C) : Kp2 n₀ m A C := ⟨h.1.trans (Below.mono hx hn), fun k p hk hp hc => by
    have h1 := h.2 k p hk hp hc
    rw [hx.block k (Array.getElem?_eq_some_iff.1 h1).1]; exact h1⟩
/-- A store into a box of the caller's own. -/
theorem Kp2.set {n₀ m : Nat} {A B : World} (h : Kp2 n₀ m A B) {p : Addr} (h1 : n₀ ≤ p.block) (h2 : p.block < m) (u : Value) : Kp2 n₀ m A (B.setCell p u) := ⟨h.1.setCell h1 u, fun k o hk ho hc => by
    rw [Below.heap_setCell B p u k (by omega)]; exact h.2 k o hk ho hc⟩
theorem Kp2.boxed {n₀ m B : Nat} {A C : World} (h : Kp2 n₀ m A C) (hm : m ≤ B) {xs : Array Value} {t : TypeId} (hb : A.heap[B]? = some (.cells xs t)) (i : Nat) : C.cell? ⟨B, i, none⟩ = A.cell? ⟨B, i, none⟩ :=
  World.cell?_of_block (w := A) (by rw [h.2 B _ hm hb rfl, hb])

/-- The rounds of sound.layers at a slice that is not empty. -/
theorem layers1_166 (n l0 Bs n₀ m b off c : Nat) (ws : List WaterT) (hreach : ws.length ≤ 1000000) (hn : 1 ≤ n) (hb : b < n₀) (J Jx : List (Int × WaterT) → World → Prop)
    (hY : ∀ pre x W, J pre W → pre.length < ws.length → YieldAt Fence.wide (n - 1) Tryz.prog l0 (watEnc x) W fun e W' =>
      (e = .returned (.bool true) ∧ J (pre ++ [x]) W' ∧ Kp2 n₀ m W W') ∨ (e = .returned (.bool false) ∧ Jx (pre ++ [x]) W'))
    (W : World) (hJa : AbidesFrom W.heap.size J) (hn₀ : n₀ ≤ W.heap.size) (hm : m ≤ W.heap.size) (hBs : W.cell? ⟨Bs, 0, none⟩ = some (.slice (some ⟨b, off, none⟩) ws.length c)) (hc : Sl WaterT.vals 3 W (some ⟨b, off, none⟩) ws) (h0 : J [] W) :
    CallsIn Fence.wide n Tryz.prog 166 #[.func (.yield l0) #[] #[], .pointer (some ⟨Bs, 0, none⟩)] W fun e W' => (∃ v, e = .returned v) ∧
      ((∃ ys, ys = upto (watG ws) ws.length ∧ J ys W') ∨ (∃ pre, (∃ k, k ≤ ws.length ∧ pre = upto (watG ws) k) ∧ Jx pre W')) := by
  refine callsIn_of_wp Tryz.func166 rfl trivial ?_ rfl
  simp only [Tryz.ntmps166, List.size_toArray, List.length_cons, List.length_nil, Nat.reduceAdd, Nat.reduceSub, Array.replicate_succ, Array.replicate_zero, List.push_toArray, List.append_toArray, List.nil_append, List.cons_append]
  gi_wp2
  gi_loopw [3, 5, 8] (fun s3 _ s8 wr => ∃ k : Nat, k ≤ ws.length ∧ s3 = .int .i64 (watFrom ws k) ∧ s8 = .int .i64 k ∧ J (upto (watG ws) k) wr ∧ Below n₀ W wr ∧ W.heap.size ≤ wr.heap.size)
    (fun _ _ s8 _ => ws.length - (intOf s8).toNat)
  case atStart => exact ⟨0, Nat.zero_le _, rfl, rfl, h0, Below.refl _ _, Nat.le_refl _⟩
  case round =>
    obtain ⟨k, hk, rfl, rfl, hJs, hnx, hszr⟩ := hrel
    by_cases hlt : k < ws.length
    · obtain ⟨y, hy⟩ : ∃ y, ws[k]? = some y := ⟨_, List.getElem?_eq_getElem hlt⟩
      have hyw : watAt ws k = y := by simp [watAt, hy]
      have hG : watG ws k = (watFrom ws k, y) := by simp [watG, hyw]
      have hT : watFrom ws (k + 1) = y.til := by simp [watFrom, hyw]
      have hJ1 := hJa (upto (watG ws) k) wr (wr.alloc (.cells #[.int .i64 y.til, .int .i64 y.lo, .int .i64 y.hi] 114)) none hJs (World.grownBy_alloc _ _ none) (by simp)
      obtain ⟨fn, tmps, assign, body, hyy, hR⟩ := hY _ (watG ws k) _ hJ1 (by rw [upto_length]; exact hlt)
      have hsz : n₀ ≤ wr.heap.size := by omega
      obtain ⟨t1, t2, t3⟩ := y
      simp only [watEnc, hG] at hyy
      generalize watFrom ws k = fr at hyy hG
      have c0 : wr.cell? ⟨b, off + k * 3, none⟩ = some (.int .i64 t1) := by have := hc.at_ hy (i := 0) rfl; rw [hnx.cell (p := ⟨b, _, none⟩) hb]; simpa using this
      have c1 : wr.cell? ⟨b, off + k * 3 + 1, none⟩ = some (.int .i64 t2) := by have := hc.at_ hy (i := 1) rfl; rw [hnx.cell (p := ⟨b, _, none⟩) hb]; simpa using this
      have c2 : wr.cell? ⟨b, off + k * 3 + 2, none⟩ = some (.int .i64 t3) := by have := hc.at_ hy (i := 2) rfl; rw [hnx.cell (p := ⟨b, _, none⟩) hb]; simpa using this
      have hltz : (k : Int) < (ws.length : Int) := by omega
      have hkb : (k : Int) ≤ 1000000 := by omega
      gi_wp2
      refine hR.mono ?_
      rintro e W3 (⟨rfl, hJ3, hk3⟩ | ⟨rfl, hJx3⟩)
      · have hbx : W3.cell? ⟨wr.heap.size, 0, none⟩ = some (.int .i64 t1) := by
          rw [hk3.boxed (by omega) (World.alloc_heap_new wr _)]; simp
        have hs3 := hk3.1.size
        simp only [World.size_alloc] at hs3
        gi_wp2
        go_roundw
        case rel => exact ⟨k + 1, by omega, by simp [hT], by simp, by rw [upto_succ]; exact hJ3, hnx.trans (((Below.refl _ _).alloc hsz _).trans hk3.1), by omega⟩
        case measure => simp [intOf]; omega
      · gi_wp2
        refine bodyPost_ret (results_none rfl _ _ _) rfl ?_
        exact ⟨⟨_, rfl⟩, .inr ⟨_, ⟨k + 1, by omega, (upto_succ _ _).symm⟩, hJx3⟩⟩
    · obtain rfl : k = ws.length := by omega
      gi_wp2
      go_end0
      exact ⟨⟨_, rfl⟩, .inl ⟨_, rfl, hJs⟩⟩

theorem layers_stops (n Bs n₀ b off c : Nat) (ws : List WaterT) (hreach : ws.length ≤ 1000000) (hn : 1 ≤ n) (w : World) (hn₀ : n₀ ≤ w.heap.size) (hb : b < n₀) (hBs : Bs < w.heap.size)
    (hc0 : w.cell? ⟨Bs, 0, none⟩ = some (.slice (some ⟨b, off, none⟩) ws.length c)) (hc : Sl WaterT.vals 3 w (some ⟨b, off, none⟩) ws) :
    SeqStopsK Fence.wide n Tryz.prog 166 #[.pointer (some ⟨Bs, 0, none⟩)] watEnc (Kp2 n₀ w.heap.size) (fun ys => ys = upto (watG ws) ws.length) (fun pre => ∃ k, k ≤ ws.length ∧ pre = upto (watG ws) k) ws.length w := fun l J Jx W hW hJ hJx hY h0 => by
  have hc' := (hW.cell (p := ⟨Bs, 0, none⟩) hBs).trans hc0
  exact layers1_166 n l Bs n₀ w.heap.size b off c ws hreach hn hb J Jx hY W hJ (Nat.le_trans hn₀ hW.size) hW.size hc' (hc.ext hW) h0

theorem soundValid_44 (A : Option Addr) (c : Nat) (ws : List WaterT) (w : World) (hS : Sl WaterT.vals 3 w A ws) :
    Calls Tryz.prog 44 #[.slice A ws.length c] w fun e w' => e = .returned (.bool (soundOk ws)) ∧ Ext w w' := by
  refine (callsIn_wide (n := 5)).1 ?_
  refine callsIn_of_wp_marks Tryz.func44 rfl trivial ?_ rfl
  simp only [Tryz.ntmps44, List.size_toArray, List.length_cons, List.length_nil, Nat.reduceAdd, Nat.reduceSub, Array.replicate_succ, Array.replicate_zero, List.push_toArray, List.append_toArray, List.nil_append, List.cons_append]
  by_cases h0 : ws = []
  · subst h0
    gi_wp2
    exact ⟨.bool false, by simp [results, Tryz.f44, go_sem], retb rfl, (Ext.refl w).alloc _⟩
  have hlen : 0 < ws.length := List.length_pos_iff.2 h0
  obtain ⟨b, off, rfl⟩ := hS.addr hlen
  have hb := hS.blk hlen
  by_cases h20 : ws.length ≤ 20
  rotate_left
  · have h20z : (20 : Int) < (ws.length : Int) := by omega
    have hl0 : ¬ ((ws.length : Int) = 0) := by omega
    gi_wp2
    exact ⟨.bool false, by simp [results, Tryz.f44, go_sem], retb (by simp [soundOk, h20]), (Ext.refl w).alloc _⟩
  obtain ⟨y, hy⟩ : ∃ y, ws[ws.length - 1]? = some y := ⟨_, List.getElem?_eq_getElem (by omega)⟩
  have hyw : watAt ws (ws.length - 1) = y := by simp [watAt, hy]
  have h20z : ¬ (20 : Int) < (ws.length : Int) := by omega
  have hl0 : ¬ ((ws.length : Int) = 0) := by omega
  have hlm : ((ws.length : Int) - 1) = ((ws.length - 1 : Nat) : Int) := by omega
  have c0 : w.cell? ⟨b, off + (ws.length - 1) * 3, none⟩ = some (.int .i64 y.til) := by have := hS.at_ hy (i := 0) rfl; simpa using this
  have hq0 : ((ws.length : Int) == 0) = false := by simp; omega
  by_cases htil : y.til = 100000
  rotate_left
  · have hq1 : (y.til != 100000) = true := by simp [htil]
    gi_wp2
    exact ⟨.bool false, by simp [results, Tryz.f44, go_sem], retb (by simp [soundOk, hyw, htil]), (Ext.refl w).alloc _⟩
  have hq1 : (y.til != 100000) = false := by simp [htil]
  gi_wp2_with (refine ⟨trivial, ?_⟩; gi_at_call 101; refine (callsIn_wide.2 (layers_101 _ _ _ _)).mono ?_; rintro e w' ⟨rfl, rfl⟩)
  have bR := (Boxed.new w 4 (.bool false)).alloc (.cells #[.slice (some ⟨b, off, none⟩) ws.length c] 35)
  have bN := Boxed.new (w.alloc (.cells #[.bool false] 4)) 35 (.slice (some ⟨b, off, none⟩) ws.length c)
  have hB0 : Below w.heap.size w ((w.alloc (.cells #[.bool false] 4)).alloc (.cells #[.slice (some ⟨b, off, none⟩) ws.length c] 35)) := ((Below.refl _ w).alloc (Nat.le_refl _) _).alloc (by simp) _
  have hsz : ((w.alloc (.cells #[.bool false] 4)).alloc (.cells #[.slice (some ⟨b, off, none⟩) ws.length c] 35)).heap.size = w.heap.size + 2 := by simp
  simp only [World.size_alloc] at bN
  have hS0 := hS.ext hB0
  obtain ⟨W0, hW0⟩ : ∃ W0, (w.alloc (.cells #[.bool false] 4)).alloc (.cells #[.slice (some ⟨b, off, none⟩) ws.length c] 35) = W0 := ⟨_, rfl⟩
  rw [hW0] at bR bN hB0 hsz hS0 ⊢
  clear hW0
  refine wpIn_rangeFunc_ownH rfl (by omega) (gf := 166) (lb := #[.pointer (some ⟨w.heap.size + 1, 0, none⟩)]) rfl trivial (enters_of Tryz.func166 (by kernel_rfl) rfl)
    (layers_stops (5 - 1) (w.heap.size + 1) w.heap.size b off c ws (by omega) (by omega) W0 (by omega) hb (by omega) bN.cell hS0) Kp2.t (Kp2.b (by omega)) (Below.refl _ _) (fun _ => rfl)
    (fun pre W => (AllP watOk pre ∧ Boxed W w.heap.size 4 (.bool false)) ∧ Below w.heap.size w W)
    (fun c pre W => ((c = .ret ∧ LastF watOk pre) ∧ Boxed W w.heap.size 4 (.bool false)) ∧ Below w.heap.size w W)
    (OwnFrom.and (OwnFrom.and (ownFrom_pure _ _) (Own.from (boxed_own _ _ (fun _ => _)) _)) (ownFrom_below (Nat.le_refl _) (by omega)))
    (fun c => OwnFrom.and (OwnFrom.and (ownFrom_pure _ _) (Own.from (boxed_own _ _ (fun _ => _)) _)) (ownFrom_below (Nat.le_refl _) (by omega)))
    ⟨⟨AllP.nil _, bR⟩, hB0⟩
    (fun x a' W => ∃ Bx, W.heap[Bx]? = some (.cells #[.int .i64 x.2.til, .int .i64 x.2.lo, .int .i64 x.2.hi] 114) ∧ a' = { tmps := #[.slice (some ⟨b, off, none⟩) ws.length c, undef, .pointer (some ⟨w.heap.size, 0, none⟩), .int .i64 x.1, .pointer (some ⟨Bx, 0, none⟩), .slice (some ⟨b, off, none⟩) ws.length c, .int .i64 ws.length, .bool false, .bool false, .slice (some ⟨b, off, none⟩) ws.length c, .int .i64 ws.length, .bool false, .bool false, .bool false, .slice (some ⟨b, off, none⟩) ws.length c, .slice (some ⟨b, off, none⟩) ws.length c, .int .i64 ws.length, .int .i64 (ws.length - 1 : Nat), .pointer (some ⟨b, off + (ws.length - 1) * 3, none⟩), .pointer (some ⟨b, off + (ws.length - 1) * 3, none⟩), .int .i64 100000, .bool false, .bool false, .slice (some ⟨b, off, none⟩) ws.length c, .func (.func 166) #[] #[.pointer (some ⟨w.heap.size + 1, 0, none⟩)], .int .i64 x.1, .agg #[.int .i64 x.2.til, .int .i64 x.2.lo, .int .i64 x.2.hi], undef, undef, undef, undef, undef, undef, undef, undef, undef, undef, undef, undef, undef, undef, undef, undef, undef, undef, undef, undef, undef, undef, undef, undef, undef], defers := [] })
    (fun x a' _ X Y row hs hg hr => by
      obtain ⟨Bx, h1, h2⟩ := hs
      refine ⟨Bx, (hg.block Bx (Array.getElem?_eq_some_iff.1 h1).1 (fun e => ?_)).trans h1, h2⟩
      obtain ⟨_, o, ho, hoc⟩ := hr Bx e.symm
      rw [h1] at ho; cases ho; cases hoc)
    ?assign ?body ?done ?stop
  case assign =>
    rintro l pre x W K ⟨⟨hp, bR1⟩, hB1⟩ hK
    simp only [watEnc]
    gi_wp2
    exact hK _ _ ((KeepsOthers.alloc _ _).from _) ((Kp2.refl _ _ W).alloc hB1.size _) ⟨⟨hp, bR1.alloc _⟩, hB1.alloc hB1.size _⟩ ⟨W.heap.size, World.alloc_heap_new W _, rfl⟩
  case body =>
    rintro l pre ⟨fr, ⟨t1, t2, t3⟩⟩ a' W hl ⟨r, hr⟩ ⟨⟨hp, bR1⟩, hB1⟩ ⟨Bx, bX, rfl⟩ hlt
    have c0 : W.cell? ⟨Bx, 0, none⟩ = some (.int .i64 t1) := by simp [World.cell?, bX]
    have c1 : W.cell? ⟨Bx, 1, none⟩ = some (.int .i64 t2) := by simp [World.cell?, bX]
    have c2 : W.cell? ⟨Bx, 2, none⟩ = some (.int .i64 t3) := by simp [World.cell?, bX]
    have cR := bR1.cell
    have fR := bR1.frozen
    have D : (t1 ≤ fr ∨ (fr < t1 ∧ t2 < 1) ∨ (fr < t1 ∧ 1 ≤ t2 ∧ t3 < t2) ∨ (fr < t1 ∧ 1 ≤ t2 ∧ t2 ≤ t3 ∧ 20000 < t3)) ∨ (fr < t1 ∧ 1 ≤ t2 ∧ t2 ≤ t3 ∧ t3 ≤ 20000) := by omega
    rcases D with (d1 | ⟨d1, d2⟩ | ⟨d1, d2, d3⟩ | ⟨d1, d2, d3, d4⟩) | ⟨d1, d2, d3, d4⟩
    all_goals
      first | (have e0 : decide (t1 ≤ fr) = true := decide_eq_true (by omega)) | (have e0 : decide (t1 ≤ fr) = false := decide_eq_false (by omega)) | skip
      first | (have e1 : decide (t2 < 1) = true := decide_eq_true (by omega)) | (have e1 : decide (t2 < 1) = false := decide_eq_false (by omega)) | skip
      first | (have e2 : decide (t3 < t2) = true := decide_eq_true (by omega)) | (have e2 : decide (t3 < t2) = false := decide_eq_false (by omega)) | skip
      first | (have e3 : decide (20000 < t3) = true := decide_eq_true (by omega)) | (have e3 : decide (20000 < t3) = false := decide_eq_false (by omega)) | skip
      gi_wp2
    iterate 4
      exact ⟨(KeepsOthers.setCell _ _ _).from _, ⟨⟨rfl, LastF.mk _ (by rw [Bool.eq_false_iff]; simp [watOk]; omega)⟩, bR1.set _⟩, hB1.setCell (p := ⟨w.heap.size, 0, none⟩) (Nat.le_refl _) _⟩
    exact ⟨KeepsFrom.refl _ _, Kp2.refl _ _ _, ⟨hp.snoc (by simp [watOk]; omega), bR1⟩, hB1⟩
  case done =>
    rintro D ys W hD rfl ⟨⟨hp, bR1⟩, hB1⟩ hK
    have cR := bR1.cell
    have fR := bR1.frozen
    gi_wp2
    have hK' := (KeepsOthers.setCell W ⟨w.heap.size, 0, none⟩ (.bool true)).same D _ hK rfl
    refine ⟨by simp, .inl ⟨_, _, rfl, run_takeDeferred hK', ?_⟩⟩
    have hc5 := cell_kept (bR1.set (.bool true)).cell (grownBy_putObj' _ D (.deferred none)) (fun r e => by cases e; exact ⟨_, hK', rfl⟩)
    refine ⟨.bool true, by simp [results, Tryz.f44, go_sem, hc5], retb ?_, (hB1.setCell (p := ⟨w.heap.size, 0, none⟩) (Nat.le_refl _) _).trans (belowK_b (w := w) (Nat.le_refl _) _ D _ _ (by omega) hK' rfl rfl)⟩
    have hall := hp.all
    simp [soundOk, h0, h20, hyw, htil, hall]
  case stop =>
    rintro D c pre W hD ⟨k, hk, rfl⟩ ⟨⟨⟨rfl, hx⟩, bR1⟩, hB1⟩ hK
    gi_wp2
    refine ⟨by simp, .inl ⟨_, _, rfl, run_takeDeferred hK, ?_⟩⟩
    have hc5 := cell_kept bR1.cell (grownBy_putObj' _ D (.deferred none)) (fun r e => by cases e; exact ⟨_, hK, rfl⟩)
    refine ⟨.bool false, by simp [results, Tryz.f44, go_sem, hc5], retb ?_, hB1.trans (belowK_b (w := w) (Nat.le_refl _) _ D _ _ (by omega) hK rfl rfl)⟩
    have hall := hx.all hk
    simp [soundOk, hall]

end Go.Proofs.YtcgghcicnanliaaGreatDoor
namespace Go.Proofs.YtcgghcicnanliaaGreatDoor
open Go.RowKit Go.Sort
set_option maxHeartbeats 2000000
set_option maxRecDepth 100000

/-- The slice at block g holds the places l; the block lies from B on, and is written by nobody else. -/
def Pr (B : Nat) (w : World) (g cap : Nat) (l : List Pt) : Prop := w.ownsRow B 43 2 (.slice (some ⟨g, 0, none⟩) l.length cap) l.length (l.flatMap encP)

theorem flat_len (l : List Pt) : (l.flatMap encP).length = l.length * 2 := by
  induction l with
  | nil => rfl
  | cons x l ih => rw [List.flatMap_cons, List.length_append, ih]; simp [encP]; omega
theorem rowsP (l : List Pt) (j i : Nat) (x : Pt) (v : Value) (h : l[j]? = some x) (hi : (encP x)[i]? = some v) : (l.flatMap encP)[j * 2 + i]? = some v := getElem?_rows (enc := encP) (k := 2) (fun _ => rfl) l j i x v h hi
theorem flat_at (l : List Pt) {j : Nat} {x : Pt} (h : l[j]? = some x) : (l.flatMap encP)[j * 2]? = some (.int .i64 x.1) ∧ (l.flatMap encP)[j * 2 + 1]? = some (.int .i64 x.2) :=
  ⟨by have := rowsP l j 0 x (.int .i64 x.1) h rfl; simpa using this, rowsP l j 1 x (.int .i64 x.2) h rfl⟩

theorem Pr.blk {B : Nat} {w : World} {g cap : Nat} {l : List Pt} (h : Pr B w g cap l) : B ≤ g ∧ g < w.heap.size ∧ l.length ≤ cap ∧ cap ≤ maxLen ∧ ∃ cur, w.heap[g]? = some (.cells cur 43 (0, 0)) ∧ cur.size = cap * 2 ∧ cur.toList.take (l.length * 2) = l.flatMap encP := by
  obtain ⟨_, ⟨e0, _⟩ | ⟨g', cap', cur, e0, hb, hg, hn, hm, hs, ht⟩⟩ := h
  · cases e0
  · injection e0 with e1 _ e3
    injection e1 with e1
    injection e1 with e1
    subst e1; subst e3
    exact ⟨hb, (Array.getElem?_eq_some_iff.1 hg).1, hn, hm, cur, hg, hs, ht⟩
theorem Pr.mk {B : Nat} {w : World} {g cap : Nat} {l : List Pt} {cur : Array Value} (h1 : B ≤ g) (h2 : l.length ≤ cap) (h3 : cap ≤ maxLen) (h4 : w.heap[g]? = some (.cells cur 43 (0, 0))) (h5 : cur.size = cap * 2) (h6 : cur.toList.take (l.length * 2) = l.flatMap encP) : Pr B w g cap l :=
  ⟨flat_len l, .inr ⟨g, cap, cur, rfl, h1, h4, h2, h3, h5, h6⟩⟩
/-- What an own row's cells read. -/
theorem Pr.cells {B : Nat} {w : World} {g cap : Nat} {l : List Pt} (h : Pr B w g cap l) {j : Nat} (hj : j < l.length * 2) : w.cell? ⟨g, j, none⟩ = (l.flatMap encP)[j]? ∧ w.frozen? ⟨g, j, none⟩ = false := by
  obtain ⟨_, _, _, _, cur, hg, hs, ht⟩ := h.blk
  refine ⟨?_, by simp [World.frozen?, hg]⟩
  rw [← ht, List.getElem?_take, if_pos hj]
  simp [World.cell?, hg]
theorem Pr.at_ {B : Nat} {w : World} {g cap : Nat} {l : List Pt} (h : Pr B w g cap l) {j : Nat} {x : Pt} (hj : l[j]? = some x) :
    (w.cell? ⟨g, j * 2, none⟩ = some (.int .i64 x.1) ∧ w.cell? ⟨g, j * 2 + 1, none⟩ = some (.int .i64 x.2)) ∧ w.frozen? ⟨g, j * 2, none⟩ = false ∧ w.frozen? ⟨g, j * 2 + 1, none⟩ = false := by
  have hl : j < l.length := (List.getElem?_eq_some_iff.1 hj).1
  have ⟨a, b⟩ := flat_at l hj
  have ⟨c, d⟩ := h.cells (j := j * 2) (by omega)
  have ⟨e, f⟩ := h.cells (j := j * 2 + 1) (by omega)
  exact ⟨⟨c.trans a, e.trans b⟩, d, f⟩
theorem Pr.sl {B : Nat} {w : World} {g cap : Nat} {l : List Pt} (h : Pr B w g cap l) : Sl encP 2 w (some ⟨g, 0, none⟩) l := fun _ =>
  ⟨g, 0, rfl, h.blk.2.1, fun j x i v hj hi => by
    have hl : j < l.length := (List.getElem?_eq_some_iff.1 hj).1
    have hi2 : i < 2 := (List.getElem?_eq_some_iff.1 hi).1
    rw [Nat.zero_add, (h.cells (by omega)).1]
    exact rowsP l j i x v hj hi⟩
/-- The first k of them. -/
theorem Pr.take {B : Nat} {w : World} {g cap : Nat} {l : List Pt} (h : Pr B w g cap l) (k : Nat) : Pr B w g cap (l.take k) := by
  obtain ⟨h1, _, h3, h4, cur, hg, hs, ht⟩ := h.blk
  refine Pr.mk h1 (by simp; omega) h4 hg hs ?_
  have e : ∀ (l : List Pt) (k : Nat), (l.take k).flatMap encP = (l.flatMap encP).take (k * 2) := by
    intro l
    induction l with
    | nil => intro k; simp
    | cons x l ih =>
      intro k
      cases k with
      | zero => simp
      | succ k =>
        rw [List.take_succ_cons, List.flatMap_cons, ih, List.flatMap_cons, show (k + 1) * 2 = (encP x).length + k * 2 by simp only [encP, List.length_cons, List.length_nil]; omega, List.take_length_add_append]
  rw [e, ← ht, List.take_take]
  congr 1
  simp
theorem heap_of {w w' : World} {g : Nat} {o : Obj} (h : Ext w w') (hg : w.heap[g]? = some o) : w'.heap[g]? = some o := (h.block g (Array.getElem?_eq_some_iff.1 hg).1).trans hg
theorem Pr.ext {B : Nat} {w w' : World} {g cap : Nat} {l : List Pt} (h : Pr B w g cap l) (hx : Ext w w') : Pr B w' g cap l := by
  obtain ⟨h1, _, h3, h4, cur, hg, hs, ht⟩ := h.blk
  exact Pr.mk h1 h3 h4 (heap_of hx hg) hs ht
theorem set_flat (l : List Pt) : ∀ (j : Nat) (x : Pt), j < l.length → ((l.flatMap encP).set (j * 2) (.int .i64 x.1)).set (j * 2 + 1) (.int .i64 x.2) = (l.set j x).flatMap encP := by
  induction l with
  | nil => intro j x h; simp at h
  | cons y l ih =>
    intro j x h
    cases j with
    | zero => rfl
    | succ j =>
      rw [List.set_cons_succ, List.flatMap_cons, List.flatMap_cons, ← ih j x (by simpa using h)]
      show ((Value.int .i64 y.1 :: Value.int .i64 y.2 :: l.flatMap encP).set ((j + 1) * 2) _).set ((j + 1) * 2 + 1) _ = _
      rw [show (j + 1) * 2 = j * 2 + 1 + 1 by omega]
      rfl
/-- A store of one place. -/
theorem Pr.set {B : Nat} {w : World} {g cap : Nat} {l : List Pt} (h : Pr B w g cap l) {j : Nat} (hj : j < l.length) (x : Pt) : Pr B ((w.setCell ⟨g, j * 2, none⟩ (.int .i64 x.1)).setCell ⟨g, j * 2 + 1, none⟩ (.int .i64 x.2)) g cap (l.set j x) := by
  obtain ⟨h1, _, h3, h4, cur, hg, hs, ht⟩ := h.blk
  refine Pr.mk (cur := (cur.setIfInBounds (j * 2) (.int .i64 x.1)).setIfInBounds (j * 2 + 1) (.int .i64 x.2)) h1 (by simpa using h3) h4 ?_ (by simpa using hs) ?_
  · rw [setCell_eq, setCell_eq, mapBlock_mapBlock]
    simp [mapBlock, Array.getElem?_modify, hg, onCells]
  · rw [List.length_set, ← set_flat l j x hj, ← ht]
    simp [List.take_set]
theorem Pr.setCell_out {B : Nat} {w : World} {g cap : Nat} {l : List Pt} (h : Pr B w g cap l) {i : Nat} (hi : l.length * 2 ≤ i) (v : Value) : Pr B (w.setCell ⟨g, i, none⟩ v) g cap l := by
  obtain ⟨h1, _, h3, h4, cur, hg, hs, ht⟩ := h.blk
  refine Pr.mk (cur := cur.setIfInBounds i v) h1 h3 h4 ?_ (by simpa using hs) ?_
  · rw [setCell_eq]; simp [mapBlock, Array.getElem?_modify, hg, onCells]
  · rw [← ht, Array.toList_setIfInBounds, List.take_set, List.set_eq_of_length_le (by simp; omega)]
theorem Pr.setCells_out {B g cap : Nat} {l : List Pt} : ∀ (vs : List Value) (w : World) (i : Nat), Pr B w g cap l → l.length * 2 ≤ i → Pr B (w.setCells g i vs) g cap l
  | [], _, _, h, _ => h
  | v :: vs, w, i, h, hi => Pr.setCells_out vs _ (i + 1) (h.setCell_out hi v) (by omega)
theorem below_setCells {B g : Nat} (hg : B ≤ g) {w0 : World} : ∀ (vs : List Value) (w : World) (i : Nat), Below B w0 w → Below B w0 (w.setCells g i vs)
  | [], _, _, h => h
  | v :: vs, w, i, h => below_setCells hg vs _ (i + 1) (h.setCell (p := ⟨g, i, none⟩) hg v)

theorem Pr.holds {B : Nat} {w : World} {g cap : Nat} {l : List Pt} (h : Pr B w g cap l) : HoldsK encP 2 w g 0 l.toArray := by
  intro t ht
  have ht' : t < l.length * 2 := by simpa using ht
  have ⟨a, b⟩ := h.cells ht'
  rw [Nat.zero_add]
  refine ⟨a.trans ?_, b⟩
  obtain ⟨x, hx⟩ : ∃ x, l[t / 2]? = some x := ⟨_, List.getElem?_eq_getElem (by omega)⟩
  have e : (l.flatMap encP)[t / 2 * 2 + t % 2]? = some ((encP x)[t % 2]!) := rowsP l (t / 2) (t % 2) x _ hx (by
    have h2 : t % 2 < (encP x).length := by simp only [encP, List.length_cons, List.length_nil]; omega
    rw [getElem!_pos (encP x) (t % 2) h2]; exact List.getElem?_eq_getElem h2)
  rw [show t / 2 * 2 + t % 2 = t by omega] at e
  rw [e, get_flatK _ _ _ _ (by simpa using ht')]
  simp only [id]
  congr 3
  have : l[t / 2]! = x := by rw [getElem!_def, hx]
  simpa using this.symm

theorem flatK_list (l : List Pt) : (flatK encP 2 l.toArray) = (l.flatMap encP).toArray := by
  refine ext_get! (by rw [size_flatK, List.size_toArray, List.size_toArray, flat_len]) fun t ht => ?_
  have ht' : t < l.length * 2 := by simpa using ht
  obtain ⟨x, hx⟩ : ∃ x, l[t / 2]? = some x := ⟨_, List.getElem?_eq_getElem (by omega)⟩
  have e : (l.flatMap encP)[t / 2 * 2 + t % 2]? = some ((encP x)[t % 2]!) := rowsP l (t / 2) (t % 2) x _ hx (by
    have h2 : t % 2 < (encP x).length := by simp only [encP, List.length_cons, List.length_nil]; omega
    rw [getElem!_pos (encP x) (t % 2) h2]; exact List.getElem?_eq_getElem h2)
  rw [show t / 2 * 2 + t % 2 = t by omega] at e
  rw [get_flatK _ _ _ _ (by simpa using ht')]
  have e2 : l[t / 2]! = x := by rw [getElem!_def, hx]
  have e3 : (l.flatMap encP).toArray[t]! = (encP x)[t % 2]! := by rw [getElem!_def]; simp [e]
  rw [e3, show l.toArray[t / 2]! = x by simpa using e2]
/-- The world that the sort leaves. -/
theorem Pr.sorted {B : Nat} {w : World} {g cap n : Nat} {l l' : List Pt} {os : Array Obj} (h : Pr B w g cap l) (hl : l'.length = l.length) : Pr B (sortWorldK encP 2 w g 0 n l'.toArray os) g cap l' ∧ Below B w (sortWorldK encP 2 w g 0 n l'.toArray os) := by
  obtain ⟨h1, h2, h3, h4, cur, hg, hs, ht⟩ := h.blk
  have e : (sortWorldK encP 2 w g 0 n l'.toArray os).heap = (w.heap.modify g (onCells (putCells id 0 (l'.flatMap encP).toArray))) ++ os := by
    rw [sortWorldK, putRowK, flatK_list]; rfl
  constructor
  · refine Pr.mk (cur := putCells id 0 (l'.flatMap encP).toArray cur) h1 (by omega) h4 ?_ (by simpa [putCells] using hs) ?_
    · rw [e, Array.getElem?_append_left (by simpa using h2)]
      simp [Array.getElem?_modify, hg, onCells]
    · apply List.ext_getElem?
      intro j
      rw [List.getElem?_take]
      by_cases hj : j < l'.length * 2
      · have hjc : j < cur.size := by omega
        rw [if_pos hj, Array.getElem?_toList, putCells, Array.getElem?_mapIdx, Array.getElem?_eq_getElem hjc, Option.map_some]
        rw [if_pos (by rw [List.size_toArray, flat_len]; omega)]
        rw [List.getElem?_eq_getElem (by rw [flat_len]; exact hj)]
        simp [List.getElem?_eq_getElem (show j < (l'.flatMap encP).length by rw [flat_len]; exact hj)]
      · rw [if_neg hj, List.getElem?_eq_none (by rw [flat_len]; omega)]
  · refine ⟨rfl, rfl, rfl, ?_, fun k hk => ?_⟩
    · rw [e]; simp
    · rw [e, Array.getElem?_append_left (by simp; omega), Array.getElem?_modify, if_neg (by omega)]

theorem ltP (x y : Pt) : ltOf cmpP x y = (decide (x.1 < y.1) || (decide (x.1 = y.1) && decide (x.2 < y.2))) := by
  unfold ltOf cmpP
  simp only [orI, cmpI]
  by_cases h1 : x.1 < y.1
  · simp [h1]
  · by_cases h2 : y.1 < x.1
    · have h3 : ¬ x.1 = y.1 := by omega
      simp [h1, h2, h3]
    · have h3 : x.1 = y.1 := by omega
      by_cases h4 : x.2 < y.2
      · simp [h3, h4]
      · by_cases h5 : y.2 < x.2 <;> simp [h3, h4, h5]
theorem swoP : SWO (ltOf cmpP) where
  irrefl x := by rw [ltP]; simp
  trans x y z h1 h2 := by rw [ltP] at *; simp at *; omega
  ntrans x y z h1 h2 := by rw [ltP] at *; simp at *; omega
theorem totP (x y : Pt) (h1 : ltOf cmpP x y = false) (h2 : ltOf cmpP y x = false) : x = y := by
  rw [ltP] at *; simp at *
  refine Prod.ext ?_ ?_ <;> omega
/-- The places in hull's order. -/
def srt (l : List Pt) : List Pt := l.mergeSort fun x y => !(ltOf cmpP) y x

theorem eg_334 : ∀ args w, (callFunc 334 args).run Tryz.prog w = .ok (.enter 334 args) w := enters_of Tryz.func334 (by kernel_rfl) rfl

theorem sortFunc_333 {B g cap : Nat} {l : List Pt} {w : World} (h : Pr B w g cap l) (hl : l.length ≤ 1000000) :
    Calls Tryz.prog 333 #[.slice (some ⟨g, 0, none⟩) l.length cap, .func (.func 334) #[] #[]] w fun e w' => e = .returned (.tuple #[]) ∧ Pr B w' g cap (srt l) ∧ Below B w w' := by
  have hcon := AnyQ.slices_SortFunc_total Tryz.sortPt 2 Tryz.isAgg43 Tryz.sizeOf43 encP (fun _ => rfl) (fun x v hv => by simp [encP] at hv; rcases hv with rfl | rfl <;> rfl) cmpP swoP 334 #[] g 0 cap l.toArray w eg_334
    (fun m os dk _ x y => around1_334 x y _) h.holds h.blk.2.1 (by simp; omega) totP
  change Calls Tryz.prog 333 _ _ _ at hcon
  rw [List.size_toArray] at hcon
  refine hcon.mono ?_
  rintro e w' ⟨rfl, n, os, rfl⟩
  exact ⟨rfl, h.sorted (by simp [srt])⟩

theorem infoPt : (Tryz.prog.info? 43).map (fun i => (i.zero, i.size, i.bytes)) = some (some (.agg #[.int .i64 0, .int .i64 0]), 2, 16) := by kernel_rfl

/-- slices.Clone at places: of none that is nil; or of some. -/
theorem clone_156 (A : Option Addr) (c : Nat) (l : List Pt) (w : World) (hS : Sl encP 2 w A l) (h0 : 0 < l.length) (hl : l.length ≤ 1000000) :
    Calls Tryz.prog 156 #[.slice A l.length c] w fun e w' => ∃ g cap, e = .returned (.slice (some ⟨g, 0, none⟩) l.length cap) ∧ Pr w.heap.size w' g cap l ∧ Ext w w' := by
  obtain ⟨b, off, rfl⟩ := hS.addr h0
  obtain ⟨i0, hi, hz0, hz1, hz2⟩ := info_parts infoPt
  have hcon := AnyE.slices_Clone Tryz.clonePt i0 _ 2 16 hi hz0 hz1 hz2 rfl (by omega) Tryz.sizeOf43 b off l.length c (l.flatMap encP) w (flat_len l) (by simp [maxLen]; omega) (by omega)
    (fun t u hu => by
      have ht : t < l.length * 2 := by have := (List.getElem?_eq_some_iff.1 hu).1; rwa [flat_len] at this
      obtain ⟨x, hx⟩ : ∃ x, l[t / 2]? = some x := ⟨_, List.getElem?_eq_getElem (by omega)⟩
      have h2 : t % 2 < (encP x).length := by simp only [encP, List.length_cons, List.length_nil]; omega
      have e := rowsP l (t / 2) (t % 2) x _ hx (List.getElem?_eq_getElem h2)
      have e2 := hS.at_ hx (List.getElem?_eq_getElem h2)
      rw [show t / 2 * 2 + t % 2 = t by omega, hu] at e
      rw [show off + t / 2 * 2 + t % 2 = off + t by omega] at e2
      rw [e2, e])
    (fun u hu => by
      obtain ⟨x, _, hx⟩ := List.mem_flatMap.1 hu
      simp [encP] at hx; rcases hx with rfl | rfl <;> rfl)
  change Calls Tryz.prog 156 _ _ _ at hcon
  refine hcon.mono ?_
  rintro e w' ⟨v', rfl, hown, hnn, hx⟩
  obtain ⟨_, ⟨e0, _⟩ | ⟨g, cap, cur, rfl, hb, hg, hn, hm, hs, ht⟩⟩ := id hown
  · exact absurd e0 hnn
  · exact ⟨g, cap, rfl, hown, hx⟩
theorem clone_156_nil (n c : Nat) (w : World) : Calls Tryz.prog 156 #[.slice none n c] w fun e w' => e = .returned (.slice none 0 0) ∧ w' = w := AnyE.slices_Clone_nil Tryz.clonePt n c w

end Go.Proofs.YtcgghcicnanliaaGreatDoor
