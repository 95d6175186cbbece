/- Walks: sense.observer.holds at distances, at bearings and at nothing. Conditions: places; an observation that is right. Walks: hull.turn of any words. Conditions: none. -/
import Derived.Test.YtcgghcicnanliaaGreatDoorProg
import Derived.Test.YtcgghcicnanliaaGreatDoorM21
import Derived.Test.YtcgghcicnanliaaGreatDoorM23
import Derived.Test.YtcgghcicnanliaaGreatDoorM24
import Derived.Test.YtcgghcicnanliaaGreatDoorM19
set_option linter.unusedVariables false
set_option linter.unusedSimpArgs false
namespace Go.Proofs.YtcgghcicnanliaaGreatDoor
open Go.RowKit
set_option maxHeartbeats 8000000
set_option maxRecDepth 100000

theorem obs_at {e : EnvT} {o : EntryT} {p : Pt} {pid : Int} {pA : Option Addr} {pl pc : Nat} {w : World} {B : Nat} (h : Cells w B (obsL e o p pid pA pl pc)) :
    w.cell? ⟨B, 25, none⟩ = some (.int .i64 o.time) ∧ w.cell? ⟨B, 26, none⟩ = some (.int .i64 o.kind) ∧ w.cell? ⟨B, 29, none⟩ = some (.int .i64 o.a) ∧ w.cell? ⟨B, 30, none⟩ = some (.int .i64 o.n) ∧ w.cell? ⟨B, 31, none⟩ = some (.int .i64 o.lo) ∧ w.cell? ⟨B, 32, none⟩ = some (.int .i64 o.hi) ∧
    w.cell? ⟨B, 36, none⟩ = some (.int .i64 p.1) ∧ w.cell? ⟨B, 37, none⟩ = some (.int .i64 p.2) ∧ w.cell? ⟨B, 38, none⟩ = some (.int .i64 pid) ∧ w.cell? ⟨B, 39, none⟩ = some (.slice pA pl pc) :=
  ⟨h.2 25 _ rfl, h.2 26 _ rfl, h.2 29 _ rfl, h.2 30 _ rfl, h.2 31 _ rfl, h.2 32 _ rfl, h.2 36 _ rfl, h.2 37 _ rfl, h.2 38 _ rfl, h.2 39 _ rfl⟩

theorem holds_7 (e : EnvT) (o : EntryT) (p x : Pt) (pid : Int) (pA : Option Addr) (pl pc B : Nat) (hk : o.kind = 7) (w : World) (hC : Cells w B (obsL e o p pid pA pl pc)) :
    Calls Tryz.prog 50 #[.pointer (some ⟨B, 0, none⟩), .agg #[.int .i64 x.1, .int .i64 x.2]] w fun r w' => r = .returned (.bool true) ∧ Ext w w' := by
  obtain ⟨c25, c26, c29, c30, c31, c32, c36, c37, c38, c39⟩ := obs_at hC
  have hB := hC.1
  have hB2 : B ≠ w.heap.size := by omega
  clear hC
  rw [hk] at c26
  obtain ⟨x1, x2⟩ := x
  simp only
  go_enter Tryz.func50, Tryz.ntmps50
  go_wp2
  go_ret
  exact ⟨rfl, xt⟩

theorem holds_6 (e : EnvT) (o : EntryT) (p x : Pt) (pid : Int) (pA : Option Addr) (pl pc B : Nat) (hk : o.kind = 6) (hlo : 0 ≤ o.lo ∧ o.lo ≤ 100000) (hx : plB x = true) (hp : plB p = true) (w : World) (hC : Cells w B (obsL e o p pid pA pl pc)) :
    Calls Tryz.prog 50 #[.pointer (some ⟨B, 0, none⟩), .agg #[.int .i64 x.1, .int .i64 x.2]] w fun r w' => r = .returned (.bool (decide (o.lo * o.lo ≤ sqP x p))) ∧ Ext w w' := by
  obtain ⟨c25, c26, c29, c30, c31, c32, c36, c37, c38, c39⟩ := obs_at hC
  have hB := hC.1
  have K1 := Lib.hid (fun W (h : Ext w W) => square_113 B x p hx hp W (Nat.lt_of_lt_of_le hB h.len) ((h.rules.1 _ _ hB).trans c36) ((h.rules.1 _ _ hB).trans c37))
  clear hC c25 c29 c30 c36 c37 c38 c39
  rw [hk] at c26
  generalize sqP x p = sq at K1 ⊢
  generalize o.lo = lo at *
  generalize o.hi = hi at *
  have m1 := mul_bd (x := lo) (y := lo) (m := 100000) (n := 100000) (by omega) (by omega) (by omega) (by omega)
  obtain ⟨x1, x2⟩ := x
  simp only [Int.reduceMul] at *
  go_enter Tryz.func50, Tryz.ntmps50
  go_wp2
  (refine wp_region_ext (by kernel_rfl) (by kernel_rfl) ?_; (repeat (first | go_big_quiet_step ((go_at_call 113; exact Xt.calls (K1.out _ (Ext.trans (((Ext.refl w).alloc _).alloc _) (Xt.ext _))))) | quiet_step ((go_at_call 113; exact Xt.calls (K1.out _ (Ext.trans (((Ext.refl w).alloc _).alloc _) (Xt.ext _))))))); refine wpQuiet_nil ?_; rintro _ ⟨xq, rfl⟩; have hx2 := xq.ext; generalize xq.world = w2 at hx2 ⊢)
  go_wp2
  go_ret
  exact ⟨rfl, xt⟩

theorem holds_3 (e : EnvT) (o : EntryT) (p x : Pt) (pid : Int) (pA : Option Addr) (pl pc B : Nat) (hk : o.kind = 3) (hlo : 0 ≤ o.lo ∧ o.lo ≤ 100000) (hhi : 0 ≤ o.hi ∧ o.hi ≤ 100000) (hx : plB x = true) (hp : plB p = true) (w : World) (hC : Cells w B (obsL e o p pid pA pl pc)) :
    Calls Tryz.prog 50 #[.pointer (some ⟨B, 0, none⟩), .agg #[.int .i64 x.1, .int .i64 x.2]] w fun r w' => r = .returned (.bool (decide (o.lo * o.lo ≤ sqP x p) && decide (sqP x p ≤ o.hi * o.hi))) ∧ Ext w w' := by
  obtain ⟨c25, c26, c29, c30, c31, c32, c36, c37, c38, c39⟩ := obs_at hC
  have hB := hC.1
  have K1 := Lib.hid (fun W (h : Ext w W) => square_113 B x p hx hp W (Nat.lt_of_lt_of_le hB h.len) ((h.rules.1 _ _ hB).trans c36) ((h.rules.1 _ _ hB).trans c37))
  clear hC c25 c29 c30 c36 c37 c38 c39
  rw [hk] at c26
  generalize sqP x p = sq at K1 ⊢
  generalize o.lo = lo at *
  generalize o.hi = hi at *
  have m1 := mul_bd (x := lo) (y := lo) (m := 100000) (n := 100000) (by omega) (by omega) (by omega) (by omega)
  have m2 := mul_bd (x := hi) (y := hi) (m := 100000) (n := 100000) (by omega) (by omega) (by omega) (by omega)
  obtain ⟨x1, x2⟩ := x
  simp only [Int.reduceMul] at *
  by_cases hg : lo * lo ≤ sq
  · have hd : decide (lo * lo ≤ sq) = true := decide_eq_true hg
    go_enter Tryz.func50, Tryz.ntmps50
    go_wp2
    (refine wp_region_ext (by kernel_rfl) (by kernel_rfl) ?_; (repeat (first | go_big_quiet_step ((go_at_call 113; exact Xt.calls (K1.out _ (Ext.trans (((Ext.refl w).alloc _).alloc _) (Xt.ext _))))) | quiet_step ((go_at_call 113; exact Xt.calls (K1.out _ (Ext.trans (((Ext.refl w).alloc _).alloc _) (Xt.ext _))))))); refine wpQuiet_nil ?_; rintro _ ⟨xq, rfl⟩; have hx2 := xq.ext; generalize xq.world = w2 at hx2 ⊢)
    go_wp2
    go_ret
    exact ⟨retb (by simp [hg]), xt⟩
  · have hd : decide (lo * lo ≤ sq) = false := decide_eq_false hg
    go_enter Tryz.func50, Tryz.ntmps50
    go_wp2
    (refine wp_region_ext (by kernel_rfl) (by kernel_rfl) ?_; (repeat (first | go_big_quiet_step ((go_at_call 113; exact Xt.calls (K1.out _ (Ext.trans (((Ext.refl w).alloc _).alloc _) (Xt.ext _))))) | quiet_step ((go_at_call 113; exact Xt.calls (K1.out _ (Ext.trans (((Ext.refl w).alloc _).alloc _) (Xt.ext _))))))); refine wpQuiet_nil ?_; rintro _ ⟨xq, rfl⟩; have hx2 := xq.ext; generalize xq.world = w2 at hx2 ⊢)
    go_wp2
    go_ret
    exact ⟨retb (by rw [hd]; rfl), xt⟩

theorem holds_4 (e : EnvT) (o : EntryT) (p x : Pt) (pid : Int) (pA : Option Addr) (pl pc B : Nat) (hk : o.kind = 4) (ha : 0 ≤ o.a ∧ o.a ≤ 63) (hn : 0 ≤ o.n ∧ o.n ≤ 31) (hx : plB x = true) (hp : plB p = true) (w : World) (hC : Cells w B (obsL e o p pid pA pl pc)) :
    Calls Tryz.prog 50 #[.pointer (some ⟨B, 0, none⟩), .agg #[.int .i64 x.1, .int .i64 x.2]] w fun r w' => r = .returned (.bool (decide (x = p) || betweenB o.a.toNat o.n.toNat (subP p x))) ∧ Ext w w' := by
  obtain ⟨c25, c26, c29, c30, c31, c32, c36, c37, c38, c39⟩ := obs_at hC
  have hB := hC.1
  have hB1 : B < w.heap.size + 1 := by omega
  have hB2 : B < w.heap.size + 1 + 1 := by omega
  have hm : Mid (subP p x) := Small.sub (plB_bds hp) (plB_bds hx)
  have K1 := Lib.hid (fun W => between_114 o.a.toNat o.n.toNat (subP p x) (by omega) (by omega) hm W)
  rw [show ((o.a.toNat : Nat) : Int) = o.a by omega, show ((o.n.toNat : Nat) : Int) = o.n by omega] at K1
  obtain ⟨h1, h2, h3, h4⟩ := plB_bds hx
  obtain ⟨g1, g2, g3, g4⟩ := plB_bds hp
  clear hC c25 hm hx hp
  rw [hk] at c26
  generalize betweenB o.a.toNat o.n.toNat (subP p x) = q at K1 ⊢
  generalize o.a = oa at *
  generalize o.n = on at *
  generalize o.lo = lo at *
  generalize o.hi = hi at *
  obtain ⟨x1, x2⟩ := x
  obtain ⟨p1, p2⟩ := p
  simp only [subP] at *
  clear ha hn hk
  by_cases hv : x1 = p1 ∧ x2 = p2
  · obtain ⟨h1', h2'⟩ := hv
    have K2 : Hid (∀ W, Calls Tryz.prog 114 #[.int .i64 oa, .int .i64 on, .agg #[.int .i64 (p1 - x1), .int .i64 (p2 - x2)]] W fun e w' => e = .returned (.tuple #[.bool false, .int .i64 1]) ∧ Ext W w') := fun W => (K1.out W).mono fun e w' h => by
      obtain ⟨h | h, hx⟩ := h
      · exact ⟨h.2, hx⟩
      · exact absurd (by simp; omega) h.1
    clear K1
    subst h1' h2'
    simp only [Int.sub_self] at K2
    have HF := Lib.hid (show (decide ((x1, x2) = (x1, x2)) || q) = true by simp)
    go_enter Tryz.func50, Tryz.ntmps50
    go_wp2
    (refine wp_region_ext (by kernel_rfl) (by kernel_rfl) ?_; (repeat (first | go_big_quiet_step ((go_at_call 114; exact Xt.calls (K2.out _))) | quiet_step ((go_at_call 114; exact Xt.calls (K2.out _))))); refine wpQuiet_nil ?_; rintro _ ⟨xq, rfl⟩; have hx2 := xq.ext; generalize xq.world = w2 at hx2 ⊢)
    have hE2 : Ext w w2 := Ext.trans (((Ext.refl w).alloc _).alloc _) hx2
    have r36 : w2.cell? ⟨B, 36, none⟩ = some _ := (hE2.rules.1 B 36 hB).trans c36
    have r37 : w2.cell? ⟨B, 37, none⟩ = some _ := (hE2.rules.1 B 37 hB).trans c37
    have tb := (two_boxes w _ _ _ _ w2 hx2).1
    have s0 : w2.cell? ⟨w.heap.size, 0, none⟩ = some (.int .i64 x1) := by simp [World.cell?, tb]
    have s1 : w2.cell? ⟨w.heap.size, 1, none⟩ = some (.int .i64 x2) := by simp [World.cell?, tb]
    have z1 : B < w2.heap.size := Nat.lt_of_lt_of_le hB hE2.len
    have z2 : w.heap.size < w2.heap.size := (Array.getElem?_eq_some_iff.1 tb).1
    clear tb hx2
    go_wp2
    (refine wp_region_ext (by kernel_rfl) (by kernel_rfl) ?_; (repeat (first | go_big_quiet_step (fail) | quiet_step (fail))); refine wpQuiet_nil ?_; rintro _ ⟨xq, rfl⟩; have hx2 := xq.ext; generalize xq.world = w2 at hx2 ⊢)
    go_wp2
    go_ret
    exact ⟨retb (by rw [HF.out]; try simp), xt⟩
  · have K2 : Hid (∀ W, Calls Tryz.prog 114 #[.int .i64 oa, .int .i64 on, .agg #[.int .i64 (p1 - x1), .int .i64 (p2 - x2)]] W fun e w' => e = .returned (.tuple #[.bool q, .int .i64 0]) ∧ Ext W w') := fun W => (K1.out W).mono fun e w' h => by
      obtain ⟨h | h, hx⟩ := h
      · exact absurd h.1 (by intro h'; injection h' with h1 h2; omega)
      · exact ⟨h.2, hx⟩
    clear K1
    have HF := Lib.hid (show (decide ((x1, x2) = (p1, p2)) || q) = q by simp; intro h1 h2; exact absurd ⟨h1, h2⟩ hv)
    have D : (x1 = p1 ∧ x2 ≠ p2) ∨ x1 ≠ p1 := by omega
    rcases D with ⟨h1', h2'⟩ | h1'
    · subst h1'
      simp only [Int.sub_self] at K2
      have d2 : decide (x2 = p2) = false := decide_eq_false h2'
      have d4 : (x2 == p2) = false := by simp [h2']
      clear h2' hv
      go_enter Tryz.func50, Tryz.ntmps50
      go_wp2
      (refine wp_region_ext (by kernel_rfl) (by kernel_rfl) ?_; (repeat (first | go_big_quiet_step ((go_at_call 114; exact Xt.calls (K2.out _))) | quiet_step ((go_at_call 114; exact Xt.calls (K2.out _))))); refine wpQuiet_nil ?_; rintro _ ⟨xq, rfl⟩; have hx2 := xq.ext; generalize xq.world = w2 at hx2 ⊢)
      have hE2 : Ext w w2 := Ext.trans (((Ext.refl w).alloc _).alloc _) hx2
      have r36 : w2.cell? ⟨B, 36, none⟩ = some _ := (hE2.rules.1 B 36 hB).trans c36
      have r37 : w2.cell? ⟨B, 37, none⟩ = some _ := (hE2.rules.1 B 37 hB).trans c37
      have tb := (two_boxes w _ _ _ _ w2 hx2).1
      have s0 : w2.cell? ⟨w.heap.size, 0, none⟩ = some (.int .i64 x1) := by simp [World.cell?, tb]
      have s1 : w2.cell? ⟨w.heap.size, 1, none⟩ = some (.int .i64 x2) := by simp [World.cell?, tb]
      have z1 : B < w2.heap.size := Nat.lt_of_lt_of_le hB hE2.len
      have z2 : w.heap.size < w2.heap.size := (Array.getElem?_eq_some_iff.1 tb).1
      clear tb hx2
      go_wp2
      (refine wp_region_ext (by kernel_rfl) (by kernel_rfl) ?_; (repeat (first | go_big_quiet_step (fail) | quiet_step (fail))); refine wpQuiet_nil ?_; rintro _ ⟨xq, rfl⟩; have hx2 := xq.ext; generalize xq.world = w2 at hx2 ⊢)
      go_wp2
      go_ret
      exact ⟨retb (by rw [HF.out]; try simp), xt⟩
    · have d1 : decide (x1 = p1) = false := decide_eq_false h1'
      have d3 : (x1 == p1) = false := by simp [h1']
      clear h1' hv
      go_enter Tryz.func50, Tryz.ntmps50
      go_wp2
      (refine wp_region_ext (by kernel_rfl) (by kernel_rfl) ?_; (repeat (first | go_big_quiet_step ((go_at_call 114; exact Xt.calls (K2.out _))) | quiet_step ((go_at_call 114; exact Xt.calls (K2.out _))))); refine wpQuiet_nil ?_; rintro _ ⟨xq, rfl⟩; have hx2 := xq.ext; generalize xq.world = w2 at hx2 ⊢)
      have hE2 : Ext w w2 := Ext.trans (((Ext.refl w).alloc _).alloc _) hx2
      have r36 : w2.cell? ⟨B, 36, none⟩ = some _ := (hE2.rules.1 B 36 hB).trans c36
      have r37 : w2.cell? ⟨B, 37, none⟩ = some _ := (hE2.rules.1 B 37 hB).trans c37
      have tb := (two_boxes w _ _ _ _ w2 hx2).1
      have s0 : w2.cell? ⟨w.heap.size, 0, none⟩ = some (.int .i64 x1) := by simp [World.cell?, tb]
      have s1 : w2.cell? ⟨w.heap.size, 1, none⟩ = some (.int .i64 x2) := by simp [World.cell?, tb]
      have z1 : B < w2.heap.size := Nat.lt_of_lt_of_le hB hE2.len
      have z2 : w.heap.size < w2.heap.size := (Array.getElem?_eq_some_iff.1 tb).1
      clear tb hx2
      go_wp2
      (refine wp_region_ext (by kernel_rfl) (by kernel_rfl) ?_; (repeat (first | go_big_quiet_step (fail) | quiet_step (fail))); refine wpQuiet_nil ?_; rintro _ ⟨xq, rfl⟩; have hx2 := xq.ext; generalize xq.world = w2 at hx2 ⊢)
      go_wp2
      go_ret
      exact ⟨retb (by rw [HF.out]; try simp), xt⟩
end Go.Proofs.YtcgghcicnanliaaGreatDoor
namespace Go.Proofs.YtcgghcicnanliaaGreatDoor
open Go.RowKit
set_option maxHeartbeats 8000000
set_option maxRecDepth 100000
attribute [local go_sem] Oper.semAt_some

theorem w64_id {n : Int} (h1 : -9223372036854775808 ≤ n) (h2 : n ≤ 9223372036854775807) : wrap64 n = n := by unfold wrap64; omega
def turnW (a b c : Pt) : Int := wrap64 (wrap64 (wrap64 (b.1 - a.1) * wrap64 (c.2 - a.2)) - wrap64 (wrap64 (b.2 - a.2) * wrap64 (c.1 - a.1)))
theorem turnW_eq {a b c : Pt} (ha : Mid a) (hb : Mid b) (hc : Mid c) : turnW a b c = turnP a b c := by
  obtain ⟨a1, a2⟩ := a
  obtain ⟨b1, b2⟩ := b
  obtain ⟨c1, c2⟩ := c
  simp only [Mid, turnP, turnW] at *
  have h1 := mul_bd (x := b1 - a1) (y := c2 - a2) (m := 2000000) (n := 2000000) (by omega) (by omega) (by omega) (by omega)
  have h2 := mul_bd (x := b2 - a2) (y := c1 - a1) (m := 2000000) (n := 2000000) (by omega) (by omega) (by omega) (by omega)
  simp only [Int.reduceMul, Int.reduceNeg] at h1 h2
  rw [w64_id (n := b1 - a1) (by omega) (by omega), w64_id (n := c2 - a2) (by omega) (by omega), w64_id (n := b2 - a2) (by omega) (by omega), w64_id (n := c1 - a1) (by omega) (by omega)]
  generalize (b1 - a1) * (c2 - a2) = u at *
  generalize (b2 - a2) * (c1 - a1) = v at *
  rw [w64_id (n := u) (by omega) (by omega), w64_id (n := v) (by omega) (by omega), w64_id (n := u - v) (by omega) (by omega)]
theorem turnW_250 (a b c : Pt) (w : World) :
    Calls Tryz.prog 250 #[.agg #[.int .i64 a.1, .int .i64 a.2], .agg #[.int .i64 b.1, .int .i64 b.2], .agg #[.int .i64 c.1, .int .i64 c.2]] w fun e w' => e = .returned (.int .i64 (turnW a b c)) ∧ Ext w w' := by
  obtain ⟨a1, a2⟩ := a
  obtain ⟨b1, b2⟩ := b
  obtain ⟨c1, c2⟩ := c
  go_enter Tryz.func250, Tryz.ntmps250
  go_wp2
  go_ret
  exact ⟨by simp [turnW], xt⟩

theorem Ext.ko {a b : World} (h : Ext a b) : KeepsOthers a b := ⟨h.size, fun k o hk _ => (h.block k (Array.getElem?_eq_some_iff.1 hk).1).trans hk⟩
theorem Ext.kp2 {a b : World} {n₀ m : Nat} (h : Ext a b) (hn : n₀ ≤ a.heap.size) : Kp2 n₀ m a b := ⟨Below.mono h hn, fun k o _ hk _ => (h.block k (Array.getElem?_eq_some_iff.1 hk).1).trans hk⟩
theorem heap_own {β : Type} (B : Nat) (cs : Array Value) (t : TypeId) : Own (fun (_ : β) W => W.heap[B]? = some (.cells cs t)) := fun s X Y row hs hg hrow =>
  (hg.block B (Array.getElem?_eq_some_iff.1 hs).1 (fun e => by obtain ⟨o, ho, hc⟩ := hrow B e.symm; rw [hs] at ho; cases ho; cases hc)).trans hs

/-- hull.Has, of a polygon of three corners or more. -/
def hasP (x : Pt) (s : Pt × Pt) : Bool := decide (0 ≤ turnW s.1 s.2 x)
def hasB (l : List Pt) (x : Pt) : Bool := (List.range l.length).all fun j => hasP x (sideG l j)
theorem sides_stops (n Bs n₀ m b off c : Nat) (ps : List Pt) (hreach : ps.length ≤ 1000000) (hn : 1 ≤ n) (w : World) (hn₀ : n₀ ≤ w.heap.size) (hb : b < n₀) (hmB : m ≤ Bs)
    (hBs : w.heap[Bs]? = some (.cells #[.slice (some ⟨b, off, none⟩) ps.length c] 76)) (hc : Sl encP 2 w (some ⟨b, off, none⟩) ps) :
    SeqStopsK Fence.wide n Tryz.prog 327 #[.pointer (some ⟨Bs, 0, none⟩)] sideE (Kp2 n₀ m) (fun ys => ys = upto (sideG ps) ps.length) (fun pre => ∃ k, k ≤ ps.length ∧ pre = upto (sideG ps) k) ps.length w := fun l J Jx W hW hJ hJx hY h0 => by
  have hlt : Bs < w.heap.size := (Array.getElem?_eq_some_iff.1 hBs).1
  exact sides1_327 n l Bs n₀ m b off c ps hreach hn hb hmB J Jx hY W hJ (Nat.le_trans hn₀ hW.size) ((hW.block _ hlt).trans hBs) (hc.ext hW) h0

theorem hullHas_282 (A : Option Addr) (c : Nat) (l : List Pt) (x : Pt) (w : World) (hS : Sl encP 2 w A l) (h3 : 3 ≤ l.length) (hl : l.length ≤ 1000000) (hx1 : I64 x.1) (hx2 : I64 x.2) (hp : plB x = true)
    (hV : ∀ W, Ext w W → Calls Tryz.prog 146 #[.slice A l.length c] W fun e w' => e = .returned (.bool true) ∧ Ext W w') :
    Calls Tryz.prog 282 #[.slice A l.length c, .agg #[.int .i64 x.1, .int .i64 x.2]] w fun e w' => e = .returned (.tuple #[.bool (hasB l x), .int .i64 0]) ∧ Ext w w' := by
  have K1 := Lib.hid hV
  have K2 := Lib.hid (isPlace_247 x hx1 hx2)
  rw [hp] at K2
  clear hV
  obtain ⟨b, off, rfl⟩ := hS.addr (by omega)
  have hb := hS.blk (by omega)
  obtain ⟨px, py⟩ := x
  simp only at hx1 hx2 K2
  have h3z : ¬ ((l.length : Int) < 3) := by omega
  have h3d : decide ((l.length : Int) < 3) = false := decide_eq_false h3z
  have KT := Lib.hid (fun (s : Pt × Pt) => turnW_250 s.1 s.2 (px, py))
  have HS := Lib.hid hS
  clear hS
  refine (callsIn_wide (n := 5)).1 ?_
  refine callsIn_of_wp_marks Tryz.func282 rfl trivial ?_ rfl
  refine wpIn_wide.2 ?_
  simp only [Tryz.ntmps282, List.size_toArray, List.length_cons, List.length_nil, Nat.reduceAdd, Nat.reduceSub, Array.replicate_succ, Array.replicate_zero, List.push_toArray, List.append_toArray, List.nil_append, List.cons_append]
  go_wp2_with (first
    | (go_at_call 146; refine (K1.out _ xt).mono ?_; rintro e w1 ⟨rfl, hb1⟩; obtain ⟨hc1, hf1, hz1⟩ := hb1.rules; (try simp only [World.size_alloc] at hz1); (have hzz1 : w.heap.size < w1.heap.size := by omega); (have hzy1 : w.heap.size + 1 < w1.heap.size := by omega))
    | (go_at_call 247; refine (K2.out _).mono ?_; rintro e w2 ⟨rfl, hb2, _⟩; obtain ⟨hc2, hf2, hz2⟩ := hb2.rules; (have hzz2 : w.heap.size < w2.heap.size := by omega); (have hzy2 : w.heap.size + 1 < w2.heap.size := by omega))
    | (go_at_call 249; refine (hullSides_249 _ _ _ _).mono ?_; rintro e w3 ⟨rfl, rfl⟩))
  have hE12 := hb1.trans hb2
  have qX : w2.heap[w.heap.size]? = some (.cells #[.int .i64 px, .int .i64 py] 43) := by
    refine (hE12.block _ (by simp only [World.size_alloc]; omega)).trans ?_
    rw [Below.heap_alloc _ _ _ (by simp only [World.size_alloc]; omega), Below.heap_alloc _ _ _ (by simp only [World.size_alloc]; omega)]
    exact World.alloc_heap_new w _
  have q4 : Boxed w2 (w.heap.size + 1) 4 (.bool false) := by
    refine (hE12.block _ (by simp only [World.size_alloc]; omega)).trans ?_
    rw [Below.heap_alloc _ _ _ (by simp only [World.size_alloc]; omega)]
    have := World.alloc_heap_new (w.alloc (.cells #[.int .i64 px, .int .i64 py] 43)) (.cells #[.bool false] 4)
    simpa using this
  have q5 : Boxed w2 (w.heap.size + 1 + 1) 47 (.int .i64 0) := by
    refine (hE12.block _ (by simp only [World.size_alloc]; omega)).trans ?_
    have := World.alloc_heap_new ((w.alloc (.cells #[.int .i64 px, .int .i64 py] 43)).alloc (.cells #[.bool false] 4)) (.cells #[.int .i64 0] 47)
    simpa using this
  have hE0 : Ext w w2 := (((Ext.refl w).alloc _).alloc _).alloc _ |>.trans hE12
  have hz12 : w.heap.size + 3 ≤ w2.heap.size := by have := hE12.len; simp only [World.size_alloc] at this; omega
  clear hc1 hf1 hz1 hzz1 hzy1 hc2 hf2 hz2 hzz2 hzy2 hb1 hb2 hE12
  obtain ⟨W0, hW0⟩ : ∃ W0, w2.alloc (.cells #[.slice (some ⟨b, off, none⟩) l.length c] 76) = W0 := ⟨_, rfl⟩
  have hz0 : W0.heap.size = w2.heap.size + 1 := by rw [← hW0]; simp
  have bN : W0.heap[w2.heap.size]? = some (.cells #[.slice (some ⟨b, off, none⟩) l.length c] 76) := by rw [← hW0]; exact World.alloc_heap_new w2 _
  have hE20 : Ext w2 W0 := by rw [← hW0]; exact (Ext.refl w2).alloc _
  have rX : W0.heap[w.heap.size]? = some (.cells #[.int .i64 px, .int .i64 py] 43) := (hE20.block _ (by omega)).trans qX
  have r4 : Boxed W0 (w.heap.size + 1) 4 (.bool false) := (hE20.block _ (by omega)).trans q4
  have r5 : Boxed W0 (w.heap.size + 1 + 1) 47 (.int .i64 0) := (hE20.block _ (by omega)).trans q5
  have hB0 : Below w.heap.size w W0 := hE0.trans hE20
  have hst := sides_stops (5 - 1) w2.heap.size w.heap.size w2.heap.size b off c l (by omega) (by omega) W0 (by omega) hb (by omega) bN (HS.out.ext hB0)
  rw [hW0]
  clear hW0 q4 q5 qX bN hE20 hE0 K1 K2
  refine (wpIn_wide (n := 5)).1 ?_
  refine wpIn_rangeFunc_ownH rfl (by omega) (gf := 327) (lb := #[.pointer (some ⟨w2.heap.size, 0, none⟩)]) rfl trivial (enters_of Tryz.func327 (by kernel_rfl) rfl)
    hst Kp2.t (Kp2.b (by omega)) (Below.refl _ _) (fun _ => rfl)
    (fun pre W => (((AllP (hasP (px, py)) pre ∧ Boxed W (w.heap.size + 1) 4 (.bool false)) ∧ Boxed W (w.heap.size + 1 + 1) 47 (.int .i64 0)) ∧ W.heap[w.heap.size]? = some (.cells #[.int .i64 px, .int .i64 py] 43)) ∧ Below w.heap.size w W)
    (fun c pre W => (((c = .ret ∧ LastF (hasP (px, py)) pre) ∧ Boxed W (w.heap.size + 1) 4 (.bool false)) ∧ Boxed W (w.heap.size + 1 + 1) 47 (.int .i64 0)) ∧ Below w.heap.size w W)
    (OwnFrom.and (OwnFrom.and (OwnFrom.and (OwnFrom.and (ownFrom_pure _ _) (Own.from (boxed_own _ _ (fun _ => _)) _)) (Own.from (boxed_own _ _ (fun _ => _)) _)) (Own.from (heap_own _ _ _) _)) (ownFrom_below (Nat.le_refl _) (by omega)))
    (fun c => OwnFrom.and (OwnFrom.and (OwnFrom.and (ownFrom_pure _ _) (Own.from (boxed_own _ _ (fun _ => _)) _)) (Own.from (boxed_own _ _ (fun _ => _)) _)) (ownFrom_below (Nat.le_refl _) (by omega)))
    ⟨⟨⟨⟨AllP.nil _, r4⟩, r5⟩, rX⟩, hB0⟩
    (fun s a' W => ∃ B1 B2, (W.heap[B1]? = some (.cells #[.int .i64 s.1.1, .int .i64 s.1.2] 43) ∧ W.heap[B2]? = some (.cells #[.int .i64 s.2.1, .int .i64 s.2.2] 43)) ∧ a' = { tmps := #[Value.slice (some ⟨b, off, none⟩) l.length c, Value.agg #[.int .i64 px, .int .i64 py], undef, .pointer (some ⟨w.heap.size, 0, none⟩), .pointer (some ⟨w.heap.size + 1, 0, none⟩), .pointer (some ⟨w.heap.size + 1 + 1, 0, none⟩), undef, undef, undef, .pointer (some ⟨B1, 0, none⟩), .pointer (some ⟨B2, 0, none⟩), Value.slice (some ⟨b, off, none⟩) l.length c, .bool true, .bool false, .bool false, Value.agg #[.int .i64 px, .int .i64 py], .bool true, .bool false, .bool false, Value.slice (some ⟨b, off, none⟩) l.length c, .int .i64 l.length, .bool false, undef, undef, undef, undef, undef, undef, undef, undef, undef, undef, undef, undef, undef, undef, undef, undef, undef, undef, undef, undef, undef, undef, undef, undef, undef, undef, undef, undef, undef, undef, undef, undef, undef, undef, undef, undef, undef, undef, undef, undef, undef, undef, undef, undef, undef, undef, Value.slice (some ⟨b, off, none⟩) l.length c, .func (.func 327) #[] #[.pointer (some ⟨w2.heap.size, 0, none⟩)], .agg #[.int .i64 s.1.1, .int .i64 s.1.2], .agg #[.int .i64 s.2.1, .int .i64 s.2.2], undef, undef, undef, undef, undef], defers := [] })
    (fun s a' _ X Y row hs hg hr => by
      obtain ⟨B1, B2, ⟨h1, h1'⟩, h2⟩ := hs
      refine ⟨B1, B2, ⟨(hg.block B1 (Array.getElem?_eq_some_iff.1 h1).1 (fun e => ?_)).trans h1, (hg.block B2 (Array.getElem?_eq_some_iff.1 h1').1 (fun e => ?_)).trans h1'⟩, h2⟩
      · obtain ⟨_, o, ho, hoc⟩ := hr B1 e.symm
        rw [h1] at ho; cases ho; cases hoc
      · obtain ⟨_, o, ho, hoc⟩ := hr B2 e.symm
        rw [h1'] at ho; cases ho; cases hoc)
    ?assign ?body ?done ?stop
  case assign =>
    rintro lw pre s W K ⟨⟨⟨⟨hp, b4⟩, b5⟩, bX⟩, hB1⟩ hK
    simp only [sideE]
    gi_wp2
    refine hK _ _ (((KeepsOthers.alloc _ _).trans (KeepsOthers.alloc _ _)).from _) (((Kp2.refl _ _ W).alloc hB1.size _).alloc (by simp only [World.size_alloc]; have := hB1.size; omega) _) ⟨⟨⟨⟨hp, (b4.alloc _).alloc _⟩, (b5.alloc _).alloc _⟩, ?_⟩, (hB1.alloc hB1.size _).alloc (by simp only [World.size_alloc]; have := hB1.size; omega) _⟩ ⟨W.heap.size, W.heap.size + 1, ⟨?_, ?_⟩, rfl⟩
    · have hlt := (Array.getElem?_eq_some_iff.1 bX).1
      rw [Below.heap_alloc _ _ _ (by simp only [World.size_alloc]; omega), Below.heap_alloc _ _ _ hlt]; exact bX
    · rw [Below.heap_alloc _ _ _ (by simp only [World.size_alloc]; omega)]; exact World.alloc_heap_new W _
    · have := World.alloc_heap_new (W.alloc (.cells #[.int .i64 s.1.1, .int .i64 s.1.2] 43)) (.cells #[.int .i64 s.2.1, .int .i64 s.2.2] 43)
      simpa using this
  case body =>
    rintro lw pre ⟨⟨x1, x2⟩, ⟨y1, y2⟩⟩ a' W hl' ⟨r, hr⟩ ⟨⟨⟨⟨hp, b4⟩, b5⟩, bX⟩, hB1⟩ ⟨B1, B2, ⟨bA, bB⟩, rfl⟩ hlt
    have K4 : Hid (∀ W, Calls Tryz.prog 250 #[.agg #[.int .i64 x1, .int .i64 x2], .agg #[.int .i64 y1, .int .i64 y2], .agg #[.int .i64 px, .int .i64 py]] W fun e w' => e = .returned (.int .i64 (turnW (x1, x2) (y1, y2) (px, py))) ∧ Ext W w') := KT.out ((x1, x2), (y1, y2))
    have hdef : hasP (px, py) ((x1, x2), (y1, y2)) = decide (0 ≤ turnW (x1, x2) (y1, y2) (px, py)) := rfl
    generalize turnW (x1, x2) (y1, y2) (px, py) = t at K4 hdef
    have c0 : W.cell? ⟨B1, 0, none⟩ = some (.int .i64 x1) := by simp [World.cell?, bA]
    have c1 : W.cell? ⟨B1, 1, none⟩ = some (.int .i64 x2) := by simp [World.cell?, bA]
    have c2 : W.cell? ⟨B2, 0, none⟩ = some (.int .i64 y1) := by simp [World.cell?, bB]
    have c3 : W.cell? ⟨B2, 1, none⟩ = some (.int .i64 y2) := by simp [World.cell?, bB]
    have c4 : W.cell? ⟨w.heap.size, 0, none⟩ = some (.int .i64 px) := by simp [World.cell?, bX]
    have c5 : W.cell? ⟨w.heap.size, 1, none⟩ = some (.int .i64 py) := by simp [World.cell?, bX]
    have HD := Lib.hid hdef
    have H4 := Lib.hid b4
    have H5 := Lib.hid b5
    have HX := Lib.hid bX
    have HB := Lib.hid hB1
    clear hdef b4 b5 bX hB1 bA bB
    by_cases ht : t < 0
    all_goals
      gi_wp2_with (refine ⟨trivial, ?_⟩; gi_at_call 250; refine (CallsIn.inRound lw (callsIn_wide.2 (K4.out _))).mono ?_; rintro e w5 ⟨rfl, hx5⟩; have m4 := Boxed.ext H4.out hx5; have m5 := Boxed.ext H5.out hx5; have f4 := m4.frozen; have f5 := m5.frozen; have g4 := m4.cell; have g5 := m5.cell; have M4 := Lib.hid m4; have M5 := Lib.hid m5; clear m4 m5; have hx := Lib.hid hx5; clear hx5)
    · have hT := hx.out
      have hw5 := hT.size
      have hBW := HB.out.size
      have e4 := (M4.out.set (.bool false)).kept (grownBy_setCell' _ (w.heap.size + 1 + 1) (.int .i64 0)) (by intro e; injection e with e; omega)
      have e5 := (M5.out.kept (grownBy_setCell' _ (w.heap.size + 1) (.bool false)) (by intro e; injection e with e; omega)).set (.int .i64 0)
      exact ⟨(hT.ko.trans ((KeepsOthers.setCell _ _ _).trans (KeepsOthers.setCell _ _ _))).from _, ⟨⟨⟨rfl, LastF.mk _ (by rw [HD.out]; exact decide_eq_false (by omega))⟩, e4⟩, e5⟩,
        (HB.out.trans (Below.mono hT hBW)).setCell (p := ⟨w.heap.size + 1, 0, none⟩) (by simp only; omega) _ |>.setCell (p := ⟨w.heap.size + 1 + 1, 0, none⟩) (by simp only; omega) _⟩
    · have hT := hx.out
      have hBW := HB.out.size
      exact ⟨hT.ko.from _, hT.kp2 hBW, ⟨⟨⟨hp.snoc (by rw [HD.out]; exact decide_eq_true (by omega)), M4.out⟩, M5.out⟩, (hT.block _ (Array.getElem?_eq_some_iff.1 HX.out).1).trans HX.out⟩, HB.out.trans (Below.mono hT hBW)⟩
  case done =>
    rintro D ys W hD rfl ⟨⟨⟨⟨hp, b4⟩, b5⟩, _⟩, hB⟩ hK
    have c4 := b4.cell
    have f4 := b4.frozen
    have c5 := b5.cell
    have f5 := b5.frozen
    go_wp2
    have e4 := (b4.set (.bool true)).kept (grownBy_setCell' _ (w.heap.size + 1 + 1) (.int .i64 0)) (by intro e; injection e with e; omega)
    have e5 := (b5.kept (grownBy_setCell' _ (w.heap.size + 1) (.bool true)) (by intro e; injection e with e; omega)).set (.int .i64 0)
    have hBB := (hB.setCell (p := ⟨w.heap.size + 1, 0, none⟩) (by simp only; omega) (.bool true)).setCell (p := ⟨w.heap.size + 1 + 1, 0, none⟩) (by simp only; omega) (.int .i64 0)
    have hK' := ((KeepsOthers.setCell W ⟨w.heap.size + 1, 0, none⟩ (.bool true)).trans (KeepsOthers.setCell _ ⟨w.heap.size + 1 + 1, 0, none⟩ (.int .i64 0))).same D _ hK rfl
    refine ⟨by simp, .inl ⟨_, _, rfl, run_takeDeferred hK', ?_⟩⟩
    have g4 := cell_kept e4.cell (grownBy_putObj' _ D (.deferred none)) (fun r e => by cases e; exact ⟨_, hK', rfl⟩)
    have g5 := cell_kept e5.cell (grownBy_putObj' _ D (.deferred none)) (fun r e => by cases e; exact ⟨_, hK', rfl⟩)
    refine ⟨.tuple #[.bool true, .int .i64 0], by simp [results, Tryz.f282, go_sem, g4, g5], ?_, hBB.trans (belowK_b (w := w) (Nat.le_refl _) _ D _ _ (by omega) hK' rfl rfl)⟩
    rw [show hasB l (px, py) = true from hp.all]
  case stop =>
    rintro D c pre W hD ⟨k, hk, rfl⟩ ⟨⟨⟨⟨rfl, hx⟩, b4⟩, b5⟩, hB⟩ hK
    gi_wp2
    refine ⟨by simp, .inl ⟨_, _, rfl, run_takeDeferred hK, ?_⟩⟩
    have g4 := cell_kept b4.cell (grownBy_putObj' _ D (.deferred none)) (fun r e => by cases e; exact ⟨_, hK, rfl⟩)
    have g5 := cell_kept b5.cell (grownBy_putObj' _ D (.deferred none)) (fun r e => by cases e; exact ⟨_, hK, rfl⟩)
    refine ⟨.tuple #[.bool false, .int .i64 0], by simp [results, Tryz.f282, go_sem, g4, g5], ?_, hB.trans (belowK_b (w := w) (Nat.le_refl _) _ D _ _ (by omega) hK rfl rfl)⟩
    rw [show hasB l (px, py) = false from hx.all hk]

end Go.Proofs.YtcgghcicnanliaaGreatDoor
