/- Walks: the square of a distance of an observer; words for an observer's block. Conditions: places. Walks: chart.named at Beacon and at Line, chart.Beacon, chart.Line. Conditions: a chart that is right. Walks: the reference of layer 15: beacons, lines, Path, frame, Valid. Conditions: lists that are not too long. Walks: the references of layers 12, 13, 17: Valid. Conditions: lists that are not too long. -/
import Derived.Test.YtcgghcicnanliaaGreatDoorProg
import Derived.Test.YtcgghcicnanliaaGreatDoorM14
import Derived.Test.YtcgghcicnanliaaGreatDoorM16
import Derived.Test.YtcgghcicnanliaaGreatDoorM07
import Derived.Test.YtcgghcicnanliaaGreatDoorM06
import Derived.Test.YtcgghcicnanliaaGreatDoorM09
import Derived.Test.YtcgghcicnanliaaGreatDoorM11
set_option linter.unusedVariables false
set_option linter.unusedSimpArgs false
namespace Go.Proofs.YtcgghcicnanliaaGreatDoor
open Go.RowKit
set_option maxHeartbeats 4000000
set_option maxRecDepth 100000

/-- A block that begins with these cells. -/
def Cells (w : World) (B : Nat) (l : List Value) : Prop := B < w.heap.size ∧ ∀ k v, l[k]? = some v → w.cell? ⟨B, k, none⟩ = some v
theorem Cells.ext {w w' : World} {B : Nat} {l : List Value} (h : Cells w B l) (hx : Ext w w') : Cells w' B l := ⟨Nat.lt_of_lt_of_le h.1 hx.len, fun k v hv => hx.seen h.1 (h.2 k v hv)⟩
theorem Cells.of_heap {w : World} {B : Nat} {l : List Value} {t : TypeId} (h : w.heap[B]? = some (.cells l.toArray t)) : Cells w B l :=
  ⟨(Array.getElem?_eq_some_iff.1 h).1, fun k v hv => by simp [World.cell?, h, hv]⟩
theorem Cells.new (w : World) (l : List Value) (t : TypeId) : Cells (w.alloc (.cells l.toArray t)) w.heap.size l := Cells.of_heap (t := t) (heap_new w _)
theorem Cells.set {w : World} {B k : Nat} {l : List Value} (h : Cells w B l) (hk : k < l.length) (v : Value) : Cells (w.setCell ⟨B, k, none⟩ v) B (l.set k v) := by
  have hold := h.2 k (l[k]'hk) (List.getElem?_eq_getElem hk)
  refine ⟨by simpa using h.1, fun j u hj => ?_⟩
  by_cases e : k = j
  · subst e
    rw [List.getElem?_set_self hk] at hj
    cases hj
    exact World.cell?_setCell_same _ _ _ hold
  · rw [List.getElem?_set_ne e] at hj
    exact (World.cell?_setCell_other _ _ _ _ (by intro h'; injection h' with h1 h2; exact e h2)).trans (h.2 j u hj)

/-- The square of a distance. -/
def sqP (x a : Pt) : Int := (x.1 - a.1) * (x.1 - a.1) + (x.2 - a.2) * (x.2 - a.2)
theorem square_113 (B : Nat) (x a : Pt) (hx : plB x = true) (ha : plB a = true) (w : World) (hB : B < w.heap.size) (c0 : w.cell? ⟨B, 36, none⟩ = some (.int .i64 a.1)) (c1 : w.cell? ⟨B, 37, none⟩ = some (.int .i64 a.2)) :
    Calls Tryz.prog 113 #[.pointer (some ⟨B, 0, none⟩), .agg #[.int .i64 x.1, .int .i64 x.2]] w fun e w' => e = .returned (.int .i64 (sqP x a)) ∧ Ext w w' := by
  obtain ⟨h1, h2, h3, h4⟩ := plB_bds hx
  obtain ⟨g1, g2, g3, g4⟩ := plB_bds ha
  obtain ⟨x1, x2⟩ := x
  obtain ⟨a1, a2⟩ := a
  simp only [sqP] at *
  clear hx ha
  have m1 := mul_bd (x := x1 - a1) (y := x1 - a1) (m := 1000000) (n := 1000000) (by omega) (by omega) (by omega) (by omega)
  have m2 := mul_bd (x := x2 - a2) (y := x2 - a2) (m := 1000000) (n := 1000000) (by omega) (by omega) (by omega) (by omega)
  simp only [Int.reduceMul, Int.reduceNeg] at m1 m2
  go_enter Tryz.func113, Tryz.ntmps113
  go_wp2
  (refine wp_region_ext (by kernel_rfl) (by kernel_rfl) ?_; (repeat (first | go_big_quiet_step (fail) | quiet_step (fail))); refine wpQuiet_nil ?_; rintro _ ⟨xq, rfl⟩; have hx2 := xq.ext; generalize xq.world = w2 at hx2 ⊢)
  go_wp2
  go_ret
  exact ⟨rfl, xt⟩

end Go.Proofs.YtcgghcicnanliaaGreatDoor
namespace Go.Proofs.YtcgghcicnanliaaGreatDoor
open Go.RowKit
set_option maxHeartbeats 2000000
set_option maxRecDepth 100000

/-- The first element that bears a name. -/
def firstId {α : Type} (id : α → Int) (n : Int) (l : List α) : Option α := l.find? fun x => decide (id x = n)
theorem firstId_at {α : Type} {id : α → Int} {n : Int} {l : List α} {k : Nat} (h : ∀ j x, j < k → l[j]? = some x → decide (id x = n) = false) {y : α} (hy : l[k]? = some y) (hn : id y = n) : firstId id n l = some y := by
  unfold firstId
  rw [List.find?_eq_some_iff_getElem]
  obtain ⟨hk, e⟩ := List.getElem?_eq_some_iff.1 hy
  exact ⟨by simpa using hn, k, hk, e, fun j hj => by rw [h j _ hj (List.getElem?_eq_getElem (by omega))]; rfl⟩
theorem firstId_none {α : Type} {id : α → Int} {n : Int} {l : List α} {k : Nat} (h : ∀ j x, j < k → l[j]? = some x → decide (id x = n) = false) (hk : l.length ≤ k) : firstId id n l = none := by
  unfold firstId
  rw [List.find?_eq_none]
  intro x hx
  obtain ⟨j, hj, e⟩ := List.getElem_of_mem hx
  have := h j x (by omega) (by rw [List.getElem?_eq_getElem hj, e])
  simpa using this
theorem firstId_mem {α : Type} {id : α → Int} {n : Int} {l : List α} {y : α} (h : firstId id n l = some y) : y ∈ l ∧ id y = n := by
  unfold firstId at h
  exact ⟨List.mem_of_find?_eq_some h, by simpa using List.find?_some h⟩

theorem named_154 (g : Nat) (eg : ∀ args w, (callFunc g args).run Tryz.prog w = .ok (.enter g args) w) (idf : BeaconT → Int) (n : Int) (A : Option Addr) (c : Nat) (l : List BeaconT) (w : World) (hl : l.length ≤ 1000000) (hS : Sl encBeacon 3 w A l)
    (hp : ∀ W x, x ∈ l → Calls Tryz.prog g #[.agg (encBeacon x).toArray] W fun e w' => e = .returned (.int .i64 (idf x)) ∧ Ext W w') :
    Calls Tryz.prog 154 #[.slice A l.length c, .int .i64 n, .func (.func g) #[] #[]] w fun e w' =>
      e = .returned (.tuple #[.agg (encBeacon ((firstId idf n l).getD ⟨0, (0, 0)⟩)).toArray, .bool (firstId idf n l).isSome]) ∧ Ext w w' := by
  have HP := Lib.hid hp
  clear hp
  have hbox : Hid (Ext (w.alloc (.cells #[.int .i64 0, .int .i64 0, .int .i64 0] 112)) (w.alloc (.cells #[.int .i64 0, .int .i64 0, .int .i64 0] 112))) := Ext.refl _
  go_enter Tryz.func154, Tryz.ntmps154
  go_wp2
  go_loopg [9, 13] l.length (fun gg _ s13 wr => ∃ kk : Nat, kk ≤ l.length ∧ l.length - kk ≤ gg ∧ s13 = .int .i64 kk ∧ Hid (Ext (w.alloc (.cells #[.int .i64 0, .int .i64 0, .int .i64 0] 112)) wr) ∧ Hid (∀ j x, j < kk → l[j]? = some x → decide (idf x = n) = false))
  case atStart => exact ⟨0, Nat.zero_le _, by omega, rfl, hbox, fun j x hj => absurd hj (Nat.not_lt_zero _)⟩
  case round =>
    obtain ⟨kk, hkk, hg, rfl, hx, H⟩ := hrel
    obtain ⟨hc, hf, hz⟩ := hx.out.rules
    simp only [World.size_alloc] at hz
    have hz0 : w.heap.size < wr.heap.size := by omega
    have hxw : Ext w wr := ((Ext.refl w).alloc _).trans hx.out
    by_cases hlt : kk < l.length
    · obtain ⟨b, off, rfl⟩ := hS.addr (by omega)
      obtain ⟨y, hy⟩ : ∃ y, l[kk]? = some y := ⟨_, List.getElem?_eq_getElem hlt⟩
      have hmem := List.mem_of_getElem? hy
      have C := Lib.hid (fun W => HP.out W y hmem)
      have Y := Lib.hid hy
      have hltz : (kk : Int) < (l.length : Int) := by omega
      obtain ⟨i1, ⟨i2, i3⟩⟩ := y
      have c0 : wr.cell? ⟨b, off + kk * 3, none⟩ = some (.int .i64 i1) := by have := (hS.ext hxw).at_ hy (i := 0) rfl; simpa using this
      have c1 : wr.cell? ⟨b, off + kk * 3 + 1, none⟩ = some (.int .i64 i2) := by have := (hS.ext hxw).at_ hy (i := 1) rfl; simpa using this
      have c2 : wr.cell? ⟨b, off + kk * 3 + 2, none⟩ = some (.int .i64 i3) := by have := (hS.ext hxw).at_ hy (i := 2) rfl; simpa using this
      clear hy hmem
      generalize hqid : idf ⟨i1, ⟨i2, i3⟩⟩ = ny at C
      by_cases hq : ny = n
      · subst hq
        have hfin : Hid (firstId idf ny l = some ⟨i1, (i2, i3)⟩) := firstId_at H.out Y.out hqid
        go_wp2_with (go_at_fn g; refine (C.out _).mono ?_; rintro e w' ⟨rfl, hb'⟩; obtain ⟨hc1, hf1, hz1⟩ := hb'.rules; (try simp only [World.size_alloc] at hz1); (have hz2 : wr.heap.size < w'.heap.size := by omega); (have hz3 : w.heap.size < w'.heap.size := by omega); (have hz5 : w.heap.size < wr.heap.size + 1 := by omega))
        ((try simp only [Exit.inBlock, Exit.then]); refine bodyPost_ret (by first | (simp [results, Tryz.f154, go_sem]; rfl) | (simp [results, Tryz.f154, go_sem]; done) | (simp [results, Tryz.f154, go_sem, *]; rfl) | (simp [results, Tryz.f154, go_sem, *]; done)) rfl ?_)
        exact ⟨by rw [hfin.out]; rfl, xt⟩
      · have hqb : (ny == n) = false := by simpa using hq
        have hH : Hid (∀ j x, j < kk + 1 → l[j]? = some x → decide (idf x = n) = false) := fun j x hj hjx => by
          by_cases e : j = kk
          · subst e
            have := Y.out.symm.trans hjx
            cases this
            rw [hqid]; simpa using hq
          · exact H.out j x (by omega) hjx
        go_wp2_with (go_at_fn g; refine (C.out _).mono ?_; rintro e w' ⟨rfl, hb'⟩; obtain ⟨hc1, hf1, hz1⟩ := hb'.rules; (try simp only [World.size_alloc] at hz1); (have hz2 : wr.heap.size < w'.heap.size := by omega))
        go_roundg (l.length - (kk + 1))
        case measure => omega
        case rel => exact ⟨kk + 1, by omega, by omega, by go_num, (hx.out.alloc _).trans hb', hH.out⟩
    · have hltz : ¬ (kk : Int) < (l.length : Int) := by omega
      have hfin : Hid (firstId idf n l = none) := firstId_none H.out (by omega)
      go_wp2
      ((try simp only [Exit.inBlock, Exit.then]); refine bodyPost_ret (by first | (simp [results, Tryz.f154, go_sem]; rfl) | (simp [results, Tryz.f154, go_sem]; done) | (simp [results, Tryz.f154, go_sem, *]; rfl) | (simp [results, Tryz.f154, go_sem, *]; done)) rfl ?_)
      exact ⟨by rw [hfin.out]; rfl, xt⟩

theorem named_155 (g : Nat) (eg : ∀ args w, (callFunc g args).run Tryz.prog w = .ok (.enter g args) w) (idf : LineT → Int) (n : Int) (A : Option Addr) (c : Nat) (l : List LineT) (w : World) (hl : l.length ≤ 1000000) (hS : Sl encLine 2 w A l)
    (hp : ∀ W x, x ∈ l → Calls Tryz.prog g #[.agg (encLine x).toArray] W fun e w' => e = .returned (.int .i64 (idf x)) ∧ Ext W w') :
    Calls Tryz.prog 155 #[.slice A l.length c, .int .i64 n, .func (.func g) #[] #[]] w fun e w' =>
      e = .returned (.tuple #[.agg (encLine ((firstId idf n l).getD ⟨0, none, 0, []⟩)).toArray, .bool (firstId idf n l).isSome]) ∧ Ext w w' := by
  have HP := Lib.hid hp
  clear hp
  have hbox : Hid (Ext (w.alloc (.cells #[.int .i64 0, .slice none 0 0] 93)) (w.alloc (.cells #[.int .i64 0, .slice none 0 0] 93))) := Ext.refl _
  go_enter Tryz.func155, Tryz.ntmps155
  go_wp2
  go_loopg [9, 13] l.length (fun gg _ s13 wr => ∃ kk : Nat, kk ≤ l.length ∧ l.length - kk ≤ gg ∧ s13 = .int .i64 kk ∧ Hid (Ext (w.alloc (.cells #[.int .i64 0, .slice none 0 0] 93)) wr) ∧ Hid (∀ j x, j < kk → l[j]? = some x → decide (idf x = n) = false))
  case atStart => exact ⟨0, Nat.zero_le _, by omega, rfl, hbox, fun j x hj => absurd hj (Nat.not_lt_zero _)⟩
  case round =>
    obtain ⟨kk, hkk, hg, rfl, hx, H⟩ := hrel
    obtain ⟨hc, hf, hz⟩ := hx.out.rules
    simp only [World.size_alloc] at hz
    have hz0 : w.heap.size < wr.heap.size := by omega
    have hxw : Ext w wr := ((Ext.refl w).alloc _).trans hx.out
    by_cases hlt : kk < l.length
    · obtain ⟨b, off, rfl⟩ := hS.addr (by omega)
      obtain ⟨y, hy⟩ : ∃ y, l[kk]? = some y := ⟨_, List.getElem?_eq_getElem hlt⟩
      have hmem := List.mem_of_getElem? hy
      have C := Lib.hid (fun W => HP.out W y hmem)
      have Y := Lib.hid hy
      have hltz : (kk : Int) < (l.length : Int) := by omega
      obtain ⟨i1, i2, i3, i4⟩ := y
      have c0 : wr.cell? ⟨b, off + kk * 2, none⟩ = some (.int .i64 i1) := by have := (hS.ext hxw).at_ hy (i := 0) rfl; simpa using this
      have c1 : wr.cell? ⟨b, off + kk * 2 + 1, none⟩ = some (.slice i2 i4.length i3) := by have := (hS.ext hxw).at_ hy (i := 1) rfl; simpa using this
      clear hy hmem
      generalize hqid : idf ⟨i1, i2, i3, i4⟩ = ny at C
      by_cases hq : ny = n
      · subst hq
        have hfin : Hid (firstId idf ny l = some ⟨i1, i2, i3, i4⟩) := firstId_at H.out Y.out hqid
        go_wp2_with (go_at_fn g; refine (C.out _).mono ?_; rintro e w' ⟨rfl, hb'⟩; obtain ⟨hc1, hf1, hz1⟩ := hb'.rules; (try simp only [World.size_alloc] at hz1); (have hz2 : wr.heap.size < w'.heap.size := by omega); (have hz3 : w.heap.size < w'.heap.size := by omega); (have hz5 : w.heap.size < wr.heap.size + 1 := by omega))
        ((try simp only [Exit.inBlock, Exit.then]); refine bodyPost_ret (by first | (simp [results, Tryz.f155, go_sem]; rfl) | (simp [results, Tryz.f155, go_sem]; done) | (simp [results, Tryz.f155, go_sem, *]; rfl) | (simp [results, Tryz.f155, go_sem, *]; done)) rfl ?_)
        exact ⟨by rw [hfin.out]; rfl, xt⟩
      · have hqb : (ny == n) = false := by simpa using hq
        have hH : Hid (∀ j x, j < kk + 1 → l[j]? = some x → decide (idf x = n) = false) := fun j x hj hjx => by
          by_cases e : j = kk
          · subst e
            have := Y.out.symm.trans hjx
            cases this
            rw [hqid]; simpa using hq
          · exact H.out j x (by omega) hjx
        go_wp2_with (go_at_fn g; refine (C.out _).mono ?_; rintro e w' ⟨rfl, hb'⟩; obtain ⟨hc1, hf1, hz1⟩ := hb'.rules; (try simp only [World.size_alloc] at hz1); (have hz2 : wr.heap.size < w'.heap.size := by omega))
        go_roundg (l.length - (kk + 1))
        case measure => omega
        case rel => exact ⟨kk + 1, by omega, by omega, by go_num, (hx.out.alloc _).trans hb', hH.out⟩
    · have hltz : ¬ (kk : Int) < (l.length : Int) := by omega
      have hfin : Hid (firstId idf n l = none) := firstId_none H.out (by omega)
      go_wp2
      ((try simp only [Exit.inBlock, Exit.then]); refine bodyPost_ret (by first | (simp [results, Tryz.f155, go_sem]; rfl) | (simp [results, Tryz.f155, go_sem]; done) | (simp [results, Tryz.f155, go_sem, *]; rfl) | (simp [results, Tryz.f155, go_sem, *]; done)) rfl ?_)
      exact ⟨by rw [hfin.out]; rfl, xt⟩

theorem beacon_77 (t : ChartT) (n : Int) (w : World) (H : t.Lies w) (hok : chartOk t = true) :
    Calls Tryz.prog 77 #[.agg t.vals.toArray, .int .i64 n] w fun e w' =>
      e = .returned (.tuple #[.agg #[.int .i64 ((firstId BeaconT.id n t.beacons).getD ⟨0, (0, 0)⟩).at_.1, .int .i64 ((firstId BeaconT.id n t.beacons).getD ⟨0, (0, 0)⟩).at_.2], .bool (firstId BeaconT.id n t.beacons).isSome, .int .i64 0]) ∧ Ext w w' := by
  have K1 := Lib.hid (fun W (hx : Ext w W) => chartValid_41 t W (H.ext hx))
  have K2 := Lib.hid (fun W (hx : Ext w W) => named_154 91 eg_91 BeaconT.id n t.bA t.bc t.beacons W H.nb (H.beacons.ext hx) (fun W' x _ => beaconID_91 x W'))
  rw [hok] at K1
  clear H hok
  generalize firstId BeaconT.id n t.beacons = o at K2 ⊢
  generalize o.isSome = oi at K2 ⊢
  generalize o.getD ⟨0, (0, 0)⟩ = d at K2 ⊢
  obtain ⟨d1, ⟨d2, d3⟩⟩ := d
  obtain ⟨version, x, y, tw, th, size, cA, cc, cells, bA, bc, beacons, lA, lc, lines⟩ := t
  simp only [ChartT.vals, encBeacon] at *
  go_enter Tryz.func77, Tryz.ntmps77
  go_wp2_with (first
    | (go_at_call 41; refine (K1.out _ xt).mono ?_; rintro e w1 ⟨rfl, hb1⟩; obtain ⟨hc1, hf1, hz1⟩ := hb1.rules; (try simp only [World.size_alloc] at hz1); (have hzz1 : w.heap.size < w1.heap.size := by omega); (have hzy1 : w.heap.size + 1 < w1.heap.size := by omega))
    | (go_at_call 154; refine (K2.out _ xt).mono ?_; rintro e w2 ⟨rfl, hb2⟩; obtain ⟨hc2, hf2, hz2⟩ := hb2.rules; (have hzz2 : w.heap.size < w2.heap.size := by omega); (have hzy2 : w.heap.size + 1 < w2.heap.size := by omega)))
  ((try simp only [Exit.inBlock, Exit.then]); refine bodyPost_ret (by first | (simp [results, Tryz.f77, go_sem]; rfl) | (simp [results, Tryz.f77, go_sem]; done) | (simp [results, Tryz.f77, go_sem, *]; rfl) | (simp [results, Tryz.f77, go_sem, *]; done)) rfl ?_)
  exact ⟨rfl, xt⟩

theorem Sl.set_other {α : Type} {enc : α → List Value} {k : Nat} {w : World} {g : Nat} {l : List α} (h : Sl enc k w (some ⟨g, 0, none⟩) l) {p : Addr} (hp : p.block ≠ g) (v : Value) : Sl enc k (w.setCell p v) (some ⟨g, 0, none⟩) l := fun hl => by
  obtain ⟨b, off, e, hb, hc⟩ := h hl
  refine ⟨b, off, e, by simpa using hb, fun j x i v' hj hi => ?_⟩
  have e1 : b = g := by injection e with e; injection e with e1; exact e1.symm
  subst e1
  rw [World.cell?_of_block (w := w) (Below.heap_setCell w p v _ (fun e => hp e.symm))]
  exact hc j x i v' hj hi
/-- chart.Line at a name that is there. -/
theorem line_78 (t : ChartT) (n : Int) (w : World) (H : t.Lies w) (hok : chartOk t = true) (l : LineT) (hfo : firstId LineT.id n t.lines = some l) (hl0 : 0 < l.pts.length) (hl1 : l.pts.length ≤ 1000) :
    Calls Tryz.prog 78 #[.agg t.vals.toArray, .int .i64 n] w fun e w' => ∃ g cap, e = .returned (.tuple #[.agg #[.int .i64 l.id, .slice (some ⟨g, 0, none⟩) l.pts.length cap], .bool true, .int .i64 0]) ∧ Sl encP 2 w' (some ⟨g, 0, none⟩) l.pts ∧ w.heap.size ≤ g ∧ Ext w w' := by
  have K1 := Lib.hid (fun W (hx : Ext w W) => chartValid_41 t W (H.ext hx))
  have K2 := Lib.hid (fun W (hx : Ext w W) => named_155 94 eg_94 LineT.id n t.lA t.lc t.lines W H.nl (H.lines.ext hx) (fun W' x _ => lineID_94 x W'))
  have K3 := Lib.hid (fun W (hx : Ext w W) => clone_156 l.A l.c l.pts W ((H.pts l (firstId_mem hfo).1).ext hx) (by omega) (by omega))
  rw [hok] at K1
  rw [hfo] at K2
  clear H hok hfo
  obtain ⟨id, lA', lc', pts⟩ := l
  obtain ⟨version, x, y, tw, th, size, cA, cc, cells, bA, bc, beacons, lA, lc, lines⟩ := t
  simp only [ChartT.vals, encLine, Option.getD_some, Option.isSome_some] at *
  go_enter Tryz.func78, Tryz.ntmps78
  go_wp2_with (first
    | (go_at_call 41; refine (K1.out _ xt).mono ?_; rintro e w1 ⟨rfl, hb1⟩; obtain ⟨hc1, hf1, hz1⟩ := hb1.rules; (try simp only [World.size_alloc] at hz1); (have hzz1 : w.heap.size < w1.heap.size := by omega); (have hzy1 : w.heap.size + 1 < w1.heap.size := by omega))
    | (go_at_call 155; refine (K2.out _ xt).mono ?_; rintro e w2 ⟨rfl, hb2⟩; obtain ⟨hc2, hf2, hz2⟩ := hb2.rules; (have hzz2 : w.heap.size < w2.heap.size := by omega); (have hzy2 : w.heap.size + 1 < w2.heap.size := by omega))
    | (go_at_call 156; refine (K3.out _ xt).mono ?_; rintro e w3 ⟨g, cap, rfl, hP, hb3⟩; obtain ⟨hc3, hf3, hz3⟩ := hb3.rules; (try simp only [World.size_alloc] at hz3); (have hzz3 : w.heap.size < w3.heap.size := by omega); (have hzy3 : w.heap.size + 1 < w3.heap.size := by omega); (have hzw3 : w2.heap.size < w3.heap.size := by omega)))
  ((try simp only [Exit.inBlock, Exit.then]); refine bodyPost_ret (by first | (simp [results, Tryz.f78, go_sem]; rfl) | (simp [results, Tryz.f78, go_sem]; done) | (simp [results, Tryz.f78, go_sem, *]; rfl) | (simp [results, Tryz.f78, go_sem, *]; done)) rfl ?_)
  have hPb := hP.blk.1
  simp only [World.size_alloc] at hPb
  exact ⟨g, cap, rfl, ((hP.sl.set_other (by simp only; omega) _).set_other (by simp only; omega) _).set_other (by simp only; omega) _, by omega, xt⟩

end Go.Proofs.YtcgghcicnanliaaGreatDoor
namespace Go.Proofs.YtcgghcicnanliaaGreatDoor
open Go.RowKit Go.Lib
set_option maxHeartbeats 2000000
set_option maxRecDepth 100000

theorem namedAt_eq {α : Type} {right : α → Bool} {id : α → Int} {l : List α} {k : Nat} {y : α} (hy : l[k]? = some y) : namedAt right id l k = (right y && !((l.take k).any fun z => decide (id z = id y))) := by
  simp only [namedAt, hy]
theorem take_any_false {α : Type} {f : α → Bool} {l : List α} {k : Nat} (h : ∀ j z, j < k → l[j]? = some z → f z = false) : (l.take k).any f = false := by
  rw [List.any_eq_false]
  intro z hz
  obtain ⟨j, hj, e⟩ := List.getElem_of_mem hz
  have hjk : j < k := by simp at hj; omega
  have := h j z hjk (by rw [← e, List.getElem_take, List.getElem?_eq_getElem]; )
  simp [this]
theorem take_any_true {α : Type} {f : α → Bool} {l : List α} {k j : Nat} {z : α} (hj : j < k) (hz : l[j]? = some z) (hf : f z = true) : (l.take k).any f = true := by
  rw [List.any_eq_true]
  refine ⟨z, ?_, hf⟩
  exact List.mem_of_getElem? (i := j) (by rw [List.getElem?_take, if_pos hj]; exact hz)

theorem refBeacons_103 (A : Option Addr) (c : Nat) (l : List BeaconT) (w : World) (hS : Sl encBeacon 3 w A l) :
    Calls Tryz.prog 103 #[.slice A l.length c] w fun e w' => e = .returned (.bool (namedOk beaconOk BeaconT.id 100 l)) ∧ Ext w w' := by
  by_cases h100 : l.length ≤ 100
  rotate_left
  · have hz : (100 : Int) < (l.length : Int) := by omega
    have hF : Hid (namedOk beaconOk BeaconT.id 100 l = false) := by
      show _ = _
      unfold namedOk
      rw [decide_eq_false (by omega), Bool.and_false]
    go_enter Tryz.func103, Tryz.ntmps103
    go_wp2
    go_ret
    exact ⟨retb hF.out.symm, xt⟩
  have hz : ¬ (100 : Int) < (l.length : Int) := by omega
  go_enter Tryz.func103, Tryz.ntmps103
  go_wp2
  go_loopg [3, 4] l.length (fun gg s3 _ wr => ∃ kk : Nat, kk ≤ l.length ∧ l.length - kk ≤ gg ∧ s3 = .int .i64 kk ∧ Hid (Ext w wr) ∧ Hid (∀ j, j < kk → namedAt beaconOk BeaconT.id l j = true))
  case atStart => exact ⟨0, Nat.zero_le _, by omega, rfl, Ext.refl w, fun j hj => absurd hj (Nat.not_lt_zero _)⟩
  case round =>
    obtain ⟨kk, hkk, hg, rfl, hx, H⟩ := hrel
    have hxw : Ext w wr := hx.out
    by_cases hlt : kk < l.length
    · obtain ⟨b, off, rfl⟩ := hS.addr (by omega)
      have hb := hS.blk (by omega)
      have hbw : b < wr.heap.size := by have := hxw.len; omega
      obtain ⟨y, hy⟩ : ∃ y, l[kk]? = some y := ⟨_, List.getElem?_eq_getElem hlt⟩
      have hat := Lib.hid (namedAt_eq (right := beaconOk) (id := BeaconT.id) hy)
      obtain ⟨i1, ⟨i2, i3⟩⟩ := y
      have K2 := Lib.hid (place_26 (i2, i3))
      have hok : Hid (beaconOk ⟨i1, (i2, i3)⟩ = (inB i1 1 1000000 && plB (i2, i3))) := rfl
      generalize hq1 : inB i1 1 1000000 = q1 at hok
      generalize plB (i2, i3) = q2 at K2 hok
      have CC : ∀ W, Ext w W → W.cell? ⟨b, off + kk * 3, none⟩ = some (.int .i64 i1) ∧ W.cell? ⟨b, off + kk * 3 + 1, none⟩ = some (.int .i64 i2) ∧ W.cell? ⟨b, off + kk * 3 + 2, none⟩ = some (.int .i64 i3) := fun W hW =>
        ⟨by have := (hS.ext hW).at_ hy (i := 0) rfl; simpa using this, by have := (hS.ext hW).at_ hy (i := 1) rfl; simpa using this, by have := (hS.ext hW).at_ hy (i := 2) rfl; simpa using this⟩
      obtain ⟨c0, c1, c2⟩ := CC wr hxw
      have CH := Lib.hid CC
      clear CC hy
      have hltz : (kk : Int) < (l.length : Int) := by omega
      by_cases hq : q1 = true ∧ q2 = true
      · obtain ⟨rfl, rfl⟩ := hq
        go_wp2_with (first
          | (go_at_call 167; refine (in_167 _ _ _ _).mono ?_; rintro e w' ⟨rfl, rfl⟩; try simp only [hq1])
          | (go_at_call 26; refine (K2.out _).mono ?_; rintro e w1 ⟨rfl, hb1⟩))
        have hE1 : Hid (Ext w w1) := xt
        clear c0 c1 c2
        go_loopg [4] kk (fun gg s4 wr => ∃ m : Nat, m ≤ kk ∧ kk - m ≤ gg ∧ s4 = .int .i64 m ∧ Hid (Ext w wr) ∧ Hid (∀ j z, j < m → l[j]? = some z → decide (z.id = i1) = false))
        case atStart => exact ⟨0, Nat.zero_le _, by omega, rfl, hE1, fun j z hj => absurd hj (Nat.not_lt_zero _)⟩
        case round =>
          obtain ⟨m, hm, hg2, rfl, hx2', H2⟩ := hrel
          have hxq : Ext w wr := hx2'.out
          obtain ⟨d0, d1, d2⟩ := CH.out _ hxq
          have hbq : b < wr.heap.size := by have := hxq.len; omega
          by_cases hmk : m < kk
          · obtain ⟨z, hz'⟩ : ∃ z, l[m]? = some z := ⟨_, List.getElem?_eq_getElem (by omega)⟩
            have Z := Lib.hid hz'
            obtain ⟨z1, ⟨z2, z3⟩⟩ := z
            have e0 : wr.cell? ⟨b, off + m * 3, none⟩ = some (.int .i64 z1) := by have := (hS.ext hxq).at_ hz' (i := 0) rfl; simpa using this
            have hmz : (m : Int) < (l.length : Int) := by omega
            have hmkz : (m : Int) < (kk : Int) := by omega
            clear hz'
            by_cases heq : z1 = i1
            · have hF : Hid (namedOk beaconOk BeaconT.id 100 l = false) := by
                show _ = _
                unfold namedOk
                rw [all_range_false hlt (by rw [hat.out, hok.out, take_any_true hmk Z.out (by simpa using heq)]; rfl)]; rfl
              subst heq
              go_wp2_with fail
              (refine wp_region_ext (by kernel_rfl) (by kernel_rfl) ?_; (repeat (first | go_big_quiet_step (fail) | quiet_step (fail))); refine wpQuiet_nil ?_; rintro _ ⟨xq, rfl⟩; have hx2 := xq.ext; generalize xq.world = w2 at hx2 ⊢)
              go_wp2
              go_ret
              exact ⟨retb hF.out.symm, hxq.trans hx2⟩
            · have heb : (z1 == i1) = false := by simpa using heq
              go_wp2_with fail
              (refine wp_region_ext (by kernel_rfl) (by kernel_rfl) ?_; (repeat (first | go_big_quiet_step (fail) | quiet_step (fail))); refine wpQuiet_nil ?_; rintro _ ⟨xq, rfl⟩; have hx2 := xq.ext; generalize xq.world = w2 at hx2 ⊢)
              go_wp2
              go_roundg (kk - (m + 1))
              case measure => omega
              case rel =>
                refine ⟨m + 1, by omega, by omega, by go_num, hxq.trans hx2, fun j z hj hjz => ?_⟩
                by_cases e : j = m
                · subst e
                  have := Z.out.symm.trans hjz
                  cases this
                  simpa using heq
                · exact H2.out j z (by omega) hjz
          · have hmkz : ¬ (m : Int) < (kk : Int) := by omega
            go_wp2
            go_roundg (l.length - (kk + 1))
            case measure => omega
            case rel =>
              refine ⟨kk + 1, by omega, by omega, by go_num, hxq, fun (j : Nat) (hj : j < kk + 1) => ?_⟩
              by_cases ej : j = kk
              · subst ej
                rw [hat.out, hok.out, take_any_false (fun j z hj hz => H2.out j z (by omega) hz)]; rfl
              · exact H.out j (by omega)
      · have hF : Hid (namedOk beaconOk BeaconT.id 100 l = false) := by
          show _ = _
          unfold namedOk
          rw [all_range_false hlt (by rw [hat.out, hok.out]; cases q1 <;> cases q2 <;> simp_all)]; rfl
        have hq' : q1 = false ∨ (q1 = true ∧ q2 = false) := by cases q1 <;> cases q2 <;> simp_all
        rcases hq' with rfl | ⟨rfl, rfl⟩
        all_goals
          go_wp2_with (first
            | (go_at_call 167; refine (in_167 _ _ _ _).mono ?_; rintro e w' ⟨rfl, rfl⟩; try simp only [hq1])
            | (go_at_call 26; refine (K2.out _).mono ?_; rintro e w1 ⟨rfl, hb1⟩))
          go_ret
          exact ⟨retb hF.out.symm, xt⟩
    · have hltz : ¬ (kk : Int) < (l.length : Int) := by omega
      have hF : Hid (namedOk beaconOk BeaconT.id 100 l = true) := by
        show _ = _
        unfold namedOk
        rw [all_range_true (n := l.length) (f := namedAt beaconOk BeaconT.id l) (fun j hj => H.out j (by omega)), decide_eq_true (by omega)]; rfl
      go_wp2
      go_ret
      exact ⟨retb hF.out.symm, hx.out⟩

end Go.Proofs.YtcgghcicnanliaaGreatDoor
namespace Go.Proofs.YtcgghcicnanliaaGreatDoor
open Go.RowKit
set_option maxHeartbeats 2000000
set_option maxRecDepth 100000

theorem refRows_47 (A : Option Addr) (c : Nat) (l : List RowT) (w : World) (hS : Sl encRow 6 w A l) :
    Calls Tryz.prog 47 #[.slice A l.length c] w fun e w' => e = .returned (.bool (rowsOk l)) ∧ Ext w w' := by
  by_cases h50 : l.length ≤ 50
  rotate_left
  · have hz : (50 : Int) < (l.length : Int) := by omega
    have hF : Hid (rowsOk l = false) := by
      show _ = _
      unfold rowsOk
      rw [decide_eq_false h50, Bool.false_and]
    go_enter Tryz.func47, Tryz.ntmps47
    go_wp2
    go_ret
    exact ⟨retb hF.out.symm, xt⟩
  have hz : ¬ (50 : Int) < (l.length : Int) := by omega
  have hR : Hid (rowsOk l = !(l.any fun r => !rowOk r)) := by
    show _ = _
    unfold rowsOk
    rw [decide_eq_true h50, Bool.true_and]
  go_enter Tryz.func47, Tryz.ntmps47
  go_wp2
  go_loopg [3] l.length (fun gg s3 wr => ∃ kk : Nat, kk ≤ l.length ∧ l.length - kk ≤ gg ∧ s3 = .int .i64 kk ∧ Hid (Ext w wr) ∧ Hid (∀ j x, j < kk → l[j]? = some x → rowOk x = true))
  case atStart => exact ⟨0, Nat.zero_le _, by omega, rfl, Ext.refl w, fun j x hj => absurd hj (Nat.not_lt_zero _)⟩
  case round =>
    obtain ⟨kk, hkk, hg, rfl, hx, H⟩ := hrel
    have hxw : Ext w wr := hx.out
    by_cases hlt : kk < l.length
    · obtain ⟨b, off, rfl⟩ := hS.addr (by omega)
      obtain ⟨y, hy⟩ : ∃ y, l[kk]? = some y := ⟨_, List.getElem?_eq_getElem hlt⟩
      have Y := Lib.hid hy
      have K := Lib.hid (refRow_109 y)
      have hltz : (kk : Int) < (l.length : Int) := by omega
      have hq : Hid (rowOk y = rowOk y) := rfl
      generalize hqq : rowOk y = q at K
      have Q := Lib.hid hqq
      clear hqq hq
      obtain ⟨y1, y2, y3, y4, y5, y6⟩ := y
      have c0 : wr.cell? ⟨b, off + kk * 6, none⟩ = some (.int .i64 y1) := by have := (hS.ext hxw).at_ hy (i := 0) rfl; simpa using this
      have c1 : wr.cell? ⟨b, off + kk * 6 + 1, none⟩ = some (.int .i64 y2) := by have := (hS.ext hxw).at_ hy (i := 1) rfl; simpa using this
      have c2 : wr.cell? ⟨b, off + kk * 6 + 2, none⟩ = some (.int .i64 y3) := by have := (hS.ext hxw).at_ hy (i := 2) rfl; simpa using this
      have c3 : wr.cell? ⟨b, off + kk * 6 + 3, none⟩ = some (.int .i64 y4) := by have := (hS.ext hxw).at_ hy (i := 3) rfl; simpa using this
      have c4 : wr.cell? ⟨b, off + kk * 6 + 4, none⟩ = some (.int .i64 y5) := by have := (hS.ext hxw).at_ hy (i := 4) rfl; simpa using this
      have c5 : wr.cell? ⟨b, off + kk * 6 + 5, none⟩ = some (.int .i64 y6) := by have := (hS.ext hxw).at_ hy (i := 5) rfl; simpa using this
      clear hy
      cases q with
      | false =>
        have hF : Hid (rowsOk l = false) := by
          show _ = _
          rw [hR.out, Bool.not_eq_false', List.any_eq_true]
          exact ⟨_, List.mem_of_getElem? Y.out, by rw [Q.out]; rfl⟩
        go_wp2_with (go_at_call 109; refine (K.out _).mono ?_; rintro e w1 ⟨rfl, hb1⟩)
        go_ret
        exact ⟨retb hF.out.symm, xt⟩
      | true =>
        go_wp2_with (go_at_call 109; refine (K.out _).mono ?_; rintro e w1 ⟨rfl, hb1⟩)
        go_roundg (l.length - (kk + 1))
        case measure => omega
        case rel =>
          refine ⟨kk + 1, by omega, by omega, by go_num, hxw.trans hb1, fun j x hj hjx => ?_⟩
          by_cases e : j = kk
          · subst e
            have := Y.out.symm.trans hjx
            cases this
            exact Q.out
          · exact H.out j x (by omega) hjx
    · have hltz : ¬ (kk : Int) < (l.length : Int) := by omega
      have hF : Hid (rowsOk l = true) := by
        show _ = _
        rw [hR.out, Bool.not_eq_true', List.any_eq_false]
        intro x hx'
        obtain ⟨j, hj, e⟩ := List.getElem_of_mem hx'
        rw [H.out j x (by omega) (by rw [List.getElem?_eq_getElem hj, e])]; simp
      go_wp2
      go_ret
      exact ⟨retb hF.out.symm, hxw⟩

theorem refWaters_48 (A : Option Addr) (c : Nat) (l : List WaterT) (w : World) (hS : Sl WaterT.vals 3 w A l) :
    Calls Tryz.prog 48 #[.slice A l.length c] w fun e w' => e = .returned (.bool (soundOk l)) ∧ Ext w w' := by
  by_cases h0 : l.length < 1
  · have hz : (l.length : Int) < 1 := by omega
    have hF : Hid (soundOk l = false) := by
      show _ = _
      have : l = [] := List.length_eq_zero_iff.1 (by omega)
      subst this
      rfl
    go_enter Tryz.func48, Tryz.ntmps48
    go_wp2
    go_ret
    exact ⟨retb hF.out.symm, xt⟩
  have hz0 : ¬ (l.length : Int) < 1 := by omega
  by_cases h20 : l.length ≤ 20
  rotate_left
  · have hz : (20 : Int) < (l.length : Int) := by omega
    have hF : Hid (soundOk l = false) := by
      show _ = _
      unfold soundOk
      rw [decide_eq_false h20]; simp
    go_enter Tryz.func48, Tryz.ntmps48
    go_wp2
    go_ret
    exact ⟨retb hF.out.symm, xt⟩
  have hz : ¬ (20 : Int) < (l.length : Int) := by omega
  have hne : l ≠ [] := by intro e; subst e; simp at h0
  have hR : Hid (soundOk l = (decide ((watAt l (l.length - 1)).til = 100000) && (List.range l.length).all (fun j => watOk (watG l j)))) := by
    show _ = _
    unfold soundOk
    rw [decide_eq_true h20, decide_eq_true hne]; simp
  obtain ⟨b, off, rfl⟩ := hS.addr (by omega)
  have hb := hS.blk (by omega)
  go_enter Tryz.func48, Tryz.ntmps48
  go_wp2
  go_loopg [3, 4, 5] l.length (fun gg s3 s4 _ wr => ∃ kk : Nat, kk ≤ l.length ∧ l.length - kk ≤ gg ∧ s3 = .int .i64 (watFrom l kk) ∧ s4 = .int .i64 kk ∧ Hid (Ext w wr) ∧ Hid (∀ j, j < kk → watOk (watG l j) = true))
  case atStart => exact ⟨0, Nat.zero_le _, by omega, rfl, rfl, Ext.refl w, fun j hj => absurd hj (Nat.not_lt_zero _)⟩
  case round =>
    obtain ⟨kk, hkk, hg, rfl, rfl, hx, H⟩ := hrel
    have hxw : Ext w wr := hx.out
    by_cases hlt : kk < l.length
    · obtain ⟨y, hy⟩ : ∃ y, l[kk]? = some y := ⟨_, List.getElem?_eq_getElem hlt⟩
      have hyw : watAt l kk = y := by simp [watAt, hy]
      have hG : Hid (watG l kk = (watFrom l kk, y)) := by simp [Hid, watG, hyw]
      have hT : Hid (watFrom l (kk + 1) = y.til) := by simp [Hid, watFrom, hyw]
      have hltz : (kk : Int) < (l.length : Int) := by omega
      have hbw : b < wr.heap.size := by have := hxw.len; omega
      obtain ⟨t1, t2, t3⟩ := y
      have c0 : wr.cell? ⟨b, off + kk * 3, none⟩ = some (.int .i64 t1) := by have := (hS.ext hxw).at_ hy (i := 0) rfl; simpa using this
      have c1 : wr.cell? ⟨b, off + kk * 3 + 1, none⟩ = some (.int .i64 t2) := by have := (hS.ext hxw).at_ hy (i := 1) rfl; simpa using this
      have c2 : wr.cell? ⟨b, off + kk * 3 + 2, none⟩ = some (.int .i64 t3) := by have := (hS.ext hxw).at_ hy (i := 2) rfl; simpa using this
      clear hy hyw
      generalize watFrom l kk = fr at hG ⊢
      have D : (t1 ≤ fr ∨ (fr < t1 ∧ t2 < 1) ∨ (fr < t1 ∧ 1 ≤ t2 ∧ t3 < t2) ∨ (fr < t1 ∧ 1 ≤ t2 ∧ t2 ≤ t3 ∧ 20000 < t3)) ∨ (fr < t1 ∧ 1 ≤ t2 ∧ t2 ≤ t3 ∧ t3 ≤ 20000) := by omega
      rcases D with D | ⟨d1, d2, d3, d4⟩
      · have hF : Hid (soundOk l = false) := by
          show _ = _
          rw [hR.out, all_range_false hlt (by rw [hG.out, Bool.eq_false_iff]; simp [watOk]; omega), Bool.and_false]
        rcases D with d1 | ⟨d1, d2⟩ | ⟨d1, d2, d3⟩ | ⟨d1, d2, d3, d4⟩
        all_goals
          go_wp2
          go_ret
          exact ⟨retb hF.out.symm, xt⟩
      · have hok : Hid (watOk (watG l kk) = true) := by show _ = _; rw [hG.out]; simp [watOk]; omega
        go_wp2
        go_roundg (l.length - (kk + 1))
        case measure => omega
        case rel =>
          refine ⟨kk + 1, by omega, by omega, by rw [hT.out], by go_num, xt, fun (j : Nat) (hj : j < kk + 1) => ?_⟩
          by_cases e : j = kk
          · subst e; exact hok.out
          · exact H.out j (by omega)
    · have hltz : ¬ (kk : Int) < (l.length : Int) := by omega
      obtain rfl : kk = l.length := by omega
      have hall := all_range_true (n := l.length) (f := fun j => watOk (watG l j)) (fun j hj => H.out j hj)
      have hla : Hid (soundOk l = decide (watFrom l l.length = 100000)) := by
        show _ = _
        rw [hR.out, hall, Bool.and_true]
        obtain ⟨m, hm⟩ : ∃ m, l.length = m + 1 := ⟨l.length - 1, by omega⟩
        rw [hm]; rfl
      have HL := Lib.hid hla
      generalize watFrom l l.length = fr at HL ⊢
      clear hall hla hR
      go_wp2
      go_ret
      exact ⟨retb (by rw [HL.out.out]; first | rfl | (simp; done) | (rw [Bool.eq_iff_iff]; simp)), hxw⟩

end Go.Proofs.YtcgghcicnanliaaGreatDoor
