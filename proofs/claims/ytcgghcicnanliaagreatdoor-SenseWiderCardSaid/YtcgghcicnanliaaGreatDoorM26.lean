/- Walks: line.Valid. Conditions: a line that is right. Walks: slices.BinarySearchFunc at flows, tide.of, tide.At. Conditions: an edition of currents that is right. Walks: echo.newSounder, echo.Fits. Conditions: a chart that is right, spans that are, a cell of the chart. -/
import Derived.Test.YtcgghcicnanliaaGreatDoorProg
import Derived.Test.YtcgghcicnanliaaGreatDoorM18
import Derived.Test.YtcgghcicnanliaaGreatDoorM23
import Derived.Test.YtcgghcicnanliaaGreatDoorM25
import Derived.Test.YtcgghcicnanliaaGreatDoorM08
import Derived.Test.YtcgghcicnanliaaGreatDoorM10
import Derived.Test.YtcgghcicnanliaaGreatDoorM09
import Derived.Test.YtcgghcicnanliaaGreatDoorM14
import Derived.Test.YtcgghcicnanliaaGreatDoorM07
set_option linter.unusedVariables false
set_option linter.unusedSimpArgs false
namespace Go.Proofs.YtcgghcicnanliaaGreatDoor
open Go.RowKit
set_option maxHeartbeats 4000000
set_option maxRecDepth 100000
attribute [local go_sem] Oper.semAt_some

/-- The two ends of a segment are apart. -/
def apartS (s : Pt × Pt) : Bool := !decide (s.1 = s.2)

theorem lineValid_182 (id : Int) (A : Option Addr) (c : Nat) (l : List Pt) (w : World) (hS : Sl encP 2 w A l) (hid : 1 ≤ id ∧ id ≤ 1000000) (h2 : 2 ≤ l.length) (h64 : l.length ≤ 64) (hp : ∀ x ∈ l, plB x = true) (ha : ∀ k, k < l.length - 1 → apartS (segG l k) = true) :
    Calls Tryz.prog 182 #[.agg #[.int .i64 id, .slice A l.length c]] w fun e w' => e = .returned (.bool true) ∧ Ext w w' := by
  obtain ⟨b, off, rfl⟩ := hS.addr (by omega)
  have hb := hS.blk (by omega)
  have KC := Lib.hid (fun W (hx : Ext w W) => containsFunc_160 264 #[] (enters_of Tryz.func264 (by kernel_rfl) rfl) (fun _ => false) (some ⟨b, off, none⟩) c l W (by omega) (hS.ext hx) (fun W' x hxl _ => lineValid1_264 x (hp x hxl) W'))
  have HS := Lib.hid hS
  have HA := Lib.hid ha
  clear hS hp ha
  obtain ⟨d1, d2⟩ := hid
  have h2z : ¬ ((l.length : Int) < 2) := by omega
  have h64z : ¬ ((64 : Int) < (l.length : Int)) := by omega
  first | (have e0 : decide ((l.length : Int) < 2) = true := decide_eq_true (by omega)) | (have e0 : decide ((l.length : Int) < 2) = false := decide_eq_false (by omega)) | skip
  first | (have e1 : decide ((64 : Int) < (l.length : Int)) = true := decide_eq_true (by omega)) | (have e1 : decide ((64 : Int) < (l.length : Int)) = false := decide_eq_false (by omega)) | skip
  first | (have e2 : decide (id < 1) = true := decide_eq_true (by omega)) | (have e2 : decide (id < 1) = false := decide_eq_false (by omega)) | skip
  first | (have e3 : decide (1000000 < id) = true := decide_eq_true (by omega)) | (have e3 : decide (1000000 < id) = false := decide_eq_false (by omega)) | skip
  refine (callsIn_wide (n := 5)).1 ?_
  refine callsIn_of_wp_marks Tryz.func182 rfl trivial ?_ rfl
  refine wpIn_wide.2 ?_
  simp only [Tryz.ntmps182, List.size_toArray, List.length_cons, List.length_nil, Nat.reduceAdd, Nat.reduceSub, Array.replicate_succ, Array.replicate_zero, List.push_toArray, List.append_toArray, List.nil_append, List.cons_append]
  go_wp2_with (first
    | (go_at_call 190; refine (segments_190 _ _ _ _ _).mono ?_; rintro e w3 ⟨rfl, rfl⟩))
  have hE : Ext w (((w.alloc (.cells #[.int .i64 id, .slice (some ⟨b, off, none⟩) l.length c] 93)).alloc (.cells #[.bool false] 4)).alloc (.cells #[.int .i64 id, .slice (some ⟨b, off, none⟩) l.length c] 93)) := (((Ext.refl w).alloc _).alloc _).alloc _
  have hz0 : (((w.alloc (.cells #[.int .i64 id, .slice (some ⟨b, off, none⟩) l.length c] 93)).alloc (.cells #[.bool false] 4)).alloc (.cells #[.int .i64 id, .slice (some ⟨b, off, none⟩) l.length c] 93)).heap.size = w.heap.size + 3 := by simp
  have rX : (((w.alloc (.cells #[.int .i64 id, .slice (some ⟨b, off, none⟩) l.length c] 93)).alloc (.cells #[.bool false] 4)).alloc (.cells #[.int .i64 id, .slice (some ⟨b, off, none⟩) l.length c] 93)).heap[w.heap.size]? = some (.cells #[.int .i64 id, .slice (some ⟨b, off, none⟩) l.length c] 93) := by
    rw [Below.heap_alloc _ _ _ (by simp only [World.size_alloc]; omega), Below.heap_alloc _ _ _ (by simp only [World.size_alloc]; omega)]
    exact World.alloc_heap_new w _
  have r4 : Boxed (((w.alloc (.cells #[.int .i64 id, .slice (some ⟨b, off, none⟩) l.length c] 93)).alloc (.cells #[.bool false] 4)).alloc (.cells #[.int .i64 id, .slice (some ⟨b, off, none⟩) l.length c] 93)) (w.heap.size + 1) 4 (.bool false) := by
    refine (Below.heap_alloc _ _ _ (by simp only [World.size_alloc]; omega)).trans ?_
    have := World.alloc_heap_new (w.alloc (.cells #[.int .i64 id, .slice (some ⟨b, off, none⟩) l.length c] 93)) (.cells #[.bool false] 4)
    simpa using this
  have bN : (((w.alloc (.cells #[.int .i64 id, .slice (some ⟨b, off, none⟩) l.length c] 93)).alloc (.cells #[.bool false] 4)).alloc (.cells #[.int .i64 id, .slice (some ⟨b, off, none⟩) l.length c] 93)).heap[w.heap.size + 1 + 1]? = some (.cells #[.int .i64 id, .slice (some ⟨b, off, none⟩) l.length c] 93) := by
    have := World.alloc_heap_new ((w.alloc (.cells #[.int .i64 id, .slice (some ⟨b, off, none⟩) l.length c] 93)).alloc (.cells #[.bool false] 4)) (.cells #[.int .i64 id, .slice (some ⟨b, off, none⟩) l.length c] 93)
    simpa using this
  generalize (((w.alloc (.cells #[.int .i64 id, .slice (some ⟨b, off, none⟩) l.length c] 93)).alloc (.cells #[.bool false] 4)).alloc (.cells #[.int .i64 id, .slice (some ⟨b, off, none⟩) l.length c] 93)) = W0 at hE hz0 rX r4 bN ⊢
  have hB0 : Below w.heap.size w W0 := hE
  have hst := segments_stops (5 - 1) (w.heap.size + 1 + 1) w.heap.size w.heap.size b off c id l (by omega) h2 (by omega) W0 (by omega) hb (by omega) bN (HS.out.ext hE)
  clear bN hE
  refine (wpIn_wide (n := 5)).1 ?_
  refine wpIn_rangeFunc_ownH rfl (by omega) (gf := 267) (lb := #[.pointer (some ⟨w.heap.size + 1 + 1, 0, none⟩)]) rfl trivial (enters_of Tryz.func267 (by kernel_rfl) rfl)
    hst Kp2.t (Kp2.b (by omega)) (Below.refl _ _) (fun _ => rfl)
    (fun pre W => (Boxed W (w.heap.size + 1) 4 (.bool false) ∧ W.heap[w.heap.size]? = some (.cells #[.int .i64 id, .slice (some ⟨b, off, none⟩) l.length c] 93)) ∧ Below w.heap.size w W)
    (fun c pre W => ((c = .ret ∧ LastF apartS pre) ∧ Boxed W (w.heap.size + 1) 4 (.bool false)) ∧ Below w.heap.size w W)
    (OwnFrom.and (OwnFrom.and (Own.from (boxed_own _ _ (fun _ => _)) _) (Own.from (heap_own _ _ _) _)) (ownFrom_below (Nat.le_refl _) (by omega)))
    (fun c => OwnFrom.and (OwnFrom.and (ownFrom_pure _ _) (Own.from (boxed_own _ _ (fun _ => _)) _)) (ownFrom_below (Nat.le_refl _) (by omega)))
    ⟨⟨r4, rX⟩, hB0⟩
    (fun s a' W => ∃ B1 B2, (W.heap[B1]? = some (.cells #[.int .i64 s.1.1, .int .i64 s.1.2] 43) ∧ W.heap[B2]? = some (.cells #[.int .i64 s.2.1, .int .i64 s.2.2] 43)) ∧ a' = { tmps := #[Value.agg #[Value.int IntKind.i64 id, Value.slice (some ⟨b, off, none⟩) l.length c], Value.pointer (some ⟨w.heap.size, 0, none⟩), Value.pointer (some ⟨w.heap.size + 1, 0, none⟩), .pointer (some ⟨B1, 0, none⟩), .pointer (some ⟨B2, 0, none⟩), Value.pointer (some ⟨w.heap.size, 0, none⟩), Value.int IntKind.i64 id, Value.bool false, Value.bool false, Value.pointer (some ⟨w.heap.size, 0, none⟩), Value.int IntKind.i64 id, Value.bool false, Value.bool false, Value.bool false, Value.pointer (some ⟨w.heap.size, 1, none⟩), Value.slice (some ⟨b, off, none⟩) l.length c, Value.int IntKind.i64 l.length, Value.bool false, Value.bool false, Value.bool false, Value.pointer (some ⟨w.heap.size, 1, none⟩), Value.slice (some ⟨b, off, none⟩) l.length c, Value.int IntKind.i64 l.length, Value.bool false, Value.bool false, Value.agg #[Value.int IntKind.i64 id, Value.slice (some ⟨b, off, none⟩) l.length c], Value.func (Fn.func 267) #[] #[Value.pointer (some ⟨w.heap.size + 1 + 1, 0, none⟩)], .agg #[.int .i64 s.1.1, .int .i64 s.1.2], .agg #[.int .i64 s.2.1, .int .i64 s.2.2], undef, undef, undef, undef, undef, undef, undef], defers := [] })
    (fun s a' _ X Y row hs hg hr => by
      obtain ⟨B1, B2, ⟨h1, h1'⟩, h2⟩ := hs
      refine ⟨B1, B2, ⟨(hg.block B1 (Array.getElem?_eq_some_iff.1 h1).1 (fun e => ?_)).trans h1, (hg.block B2 (Array.getElem?_eq_some_iff.1 h1').1 (fun e => ?_)).trans h1'⟩, h2⟩
      · obtain ⟨_, o, ho, hoc⟩ := hr B1 e.symm
        rw [h1] at ho; cases ho; cases hoc
      · obtain ⟨_, o, ho, hoc⟩ := hr B2 e.symm
        rw [h1'] at ho; cases ho; cases hoc)
    ?assign ?body ?done ?stop
  case assign =>
    rintro lw pre s W K ⟨⟨b4, bX⟩, hB1⟩ hK
    simp only [sideE]
    gi_wp2
    refine hK _ _ (((KeepsOthers.alloc _ _).trans (KeepsOthers.alloc _ _)).from _) (((Kp2.refl _ _ W).alloc hB1.size _).alloc (by simp only [World.size_alloc]; have := hB1.size; omega) _) ⟨⟨(b4.alloc _).alloc _, ?_⟩, (hB1.alloc hB1.size _).alloc (by simp only [World.size_alloc]; have := hB1.size; omega) _⟩ ⟨W.heap.size, W.heap.size + 1, ⟨?_, ?_⟩, rfl⟩
    · have hlt := (Array.getElem?_eq_some_iff.1 bX).1
      rw [Below.heap_alloc _ _ _ (by simp only [World.size_alloc]; omega), Below.heap_alloc _ _ _ hlt]; exact bX
    · rw [Below.heap_alloc _ _ _ (by simp only [World.size_alloc]; omega)]; exact World.alloc_heap_new W _
    · have := World.alloc_heap_new (W.alloc (.cells #[.int .i64 s.1.1, .int .i64 s.1.2] 43)) (.cells #[.int .i64 s.2.1, .int .i64 s.2.2] 43)
      simpa using this
  case body =>
    rintro lw pre ⟨⟨x1, x2⟩, ⟨y1, y2⟩⟩ a' W hl' ⟨r, hr⟩ ⟨⟨b4, bX⟩, hB1⟩ ⟨B1, B2, ⟨bA, bB⟩, rfl⟩ hlt
    have hdef : apartS ((x1, x2), (y1, y2)) = !decide ((x1, x2) = (y1, y2)) := rfl
    have c0 : W.cell? ⟨B1, 0, none⟩ = some (.int .i64 x1) := by simp [World.cell?, bA]
    have c1 : W.cell? ⟨B1, 1, none⟩ = some (.int .i64 x2) := by simp [World.cell?, bA]
    have c2 : W.cell? ⟨B2, 0, none⟩ = some (.int .i64 y1) := by simp [World.cell?, bB]
    have c3 : W.cell? ⟨B2, 1, none⟩ = some (.int .i64 y2) := by simp [World.cell?, bB]
    have f4 := b4.frozen
    have g4 := b4.cell
    have HD := Lib.hid hdef
    have H4 := Lib.hid b4
    have HX := Lib.hid bX
    have HB := Lib.hid hB1
    clear hdef b4 bX hB1 bA bB
    by_cases h1 : x1 = y1
    · subst h1
      by_cases h3 : x2 = y2
      · subst h3
        gi_wp2
        exact ⟨(KeepsOthers.setCell _ _ _).from _, ⟨⟨rfl, LastF.mk _ (by rw [HD.out]; simp)⟩, H4.out.set _⟩, HB.out.setCell (p := ⟨w.heap.size + 1, 0, none⟩) (by simp only; omega) _⟩
      · gi_wp2
        exact ⟨KeepsFrom.refl _ _, Kp2.refl _ _ _, ⟨H4.out, HX.out⟩, HB.out⟩
    · gi_wp2
      exact ⟨KeepsFrom.refl _ _, Kp2.refl _ _ _, ⟨H4.out, HX.out⟩, HB.out⟩
  case done =>
    rintro D ys W hD rfl ⟨⟨b4, bX⟩, hB⟩ hK
    have hbx : w.heap.size < W.heap.size := (Array.getElem?_eq_some_iff.1 bX).1
    have x1 : W.cell? ⟨w.heap.size, 1, none⟩ = some (.slice (some ⟨b, off, none⟩) l.length c) := by simp [World.cell?, bX]
    have H4 := Lib.hid b4
    have HB := Lib.hid hB
    have HK := Lib.hid hK
    clear b4 bX hB hK
    have hany : (l.any fun _ => false) = false := by induction l <;> simp_all
    rw [hany] at KC
    clear hany
    go_wp2_with (go_at_call 160; refine (KC.out _ HB.out).mono ?_; rintro e w5 ⟨rfl, hx5⟩; have m4 := Boxed.ext H4.out hx5; have f4 := m4.frozen; have g4 := m4.cell; have M4 := Lib.hid m4; clear m4; have hx := Lib.hid hx5; clear hx5)
    have hT := hx.out
    have hsz := HB.out.size
    have hK5 : w5.heap[D]? = some (.deferred (some [])) := (hT.block D (Array.getElem?_eq_some_iff.1 HK.out).1).trans HK.out
    have e4 := M4.out.set (.bool true)
    have hBB := (HB.out.trans (Below.mono hT hsz)).setCell (p := ⟨w.heap.size + 1, 0, none⟩) (by simp only; omega) (.bool true)
    have hK' := (KeepsOthers.setCell w5 ⟨w.heap.size + 1, 0, none⟩ (.bool true)).same D _ hK5 rfl
    refine ⟨by simp, .inl ⟨_, _, rfl, run_takeDeferred hK', ?_⟩⟩
    have g4 := cell_kept e4.cell (grownBy_putObj' _ D (.deferred none)) (fun r e => by cases e; exact ⟨_, hK', rfl⟩)
    exact ⟨.bool true, by simp [results, Tryz.f182, go_sem, g4], rfl, hBB.trans (belowK_b (w := w) (Nat.le_refl _) _ D _ _ (by omega) hK' rfl rfl)⟩
  case stop =>
    rintro D c pre W hD ⟨k, hk, rfl⟩ ⟨⟨⟨rfl, hx⟩, b4⟩, hB⟩ hK
    exfalso
    have h0 := hx.all hk
    rw [List.all_eq_true.2 (fun j hj => HA.out j (List.mem_range.1 hj))] at h0
    cases h0
end Go.Proofs.YtcgghcicnanliaaGreatDoor
namespace Go.Proofs.YtcgghcicnanliaaGreatDoor
open Go.RowKit
set_option maxHeartbeats 8000000
set_option maxRecDepth 100000

/-- slices.BinarySearchFunc's loop. -/
def bsI {α : Type} (c : α → Int) (l : List α) : Nat → Nat → Nat → Nat
  | 0, i, _ => i
  | f + 1, i, j => if i < j then (match l[(i + j) / 2]? with
    | none => i
    | some y => if c y < 0 then bsI c l f ((i + j) / 2 + 1) j else bsI c l f i ((i + j) / 2)) else i
def bsF (l : List FlowT) (k : FlowT) : Nat := bsI (fun y => cmpF y k) l l.length 0 l.length
def bsHit (l : List FlowT) (k : FlowT) : Bool := match l[bsF l k]? with
  | none => false
  | some y => decide (cmpF y k = 0)
theorem bsI_end {α : Type} (c : α → Int) (l : List α) (f i : Nat) : bsI c l f i i = i := by cases f <;> simp [bsI]

theorem bsearch_260 (A : Option Addr) (c : Nat) (l : List FlowT) (k : FlowT) (w : World) (hl : l.length ≤ 1000000) (hS : Sl FlowT.vals 9 w A l) :
    Calls Tryz.prog 260 #[.slice A l.length c, .agg k.vals.toArray, .func (.func 97) #[] #[]] w fun e w' => e = .returned (.tuple #[.int .i64 (bsF l k), .bool (bsHit l k)]) ∧ bsF l k ≤ l.length ∧ Ext w w' := by
  have HC := Lib.hid (fun y W => tideCompare_97 y k W)
  have hE0 : ∀ W, Ext W W := Ext.refl
  have hF : Hid (bsF l k = bsI (fun y => cmpF y k) l l.length 0 l.length) := rfl
  have hH : Hid (bsHit l k = match l[bsF l k]? with | none => false | some y => decide (cmpF y k = 0)) := rfl
  generalize bsHit l k = hit at hH ⊢
  generalize bsF l k = res at hF hH ⊢
  have hk : ∀ y : FlowT, Hid (∀ W, Calls Tryz.prog 97 #[.agg y.vals.toArray, .agg k.vals.toArray] W fun e w' => e = .returned (.int .i64 (cmpF y k)) ∧ Ext W w') := fun y W => HC.out y W
  have HK := Lib.hid hk
  clear hk HC
  obtain ⟨k1, k2, k3, k4, k5, k6, k7, k8, k9⟩ := k
  simp only [FlowT.vals] at *
  have hbox : Hid (Ext (w.alloc (.cells #[.int .i64 k1, .int .i64 k2, .int .i64 k3, .int .i64 k4, .int .i64 k5, .int .i64 k6, .int .i64 k7, .int .i64 k8, .int .i64 k9] 30)) (w.alloc (.cells #[.int .i64 k1, .int .i64 k2, .int .i64 k3, .int .i64 k4, .int .i64 k5, .int .i64 k6, .int .i64 k7, .int .i64 k8, .int .i64 k9] 30))) := Ext.refl _
  go_enter Tryz.func260, Tryz.ntmps260
  go_wp2
  go_loopg [9, 10, 11] l.length (fun gg s9 s10 _ wr => ∃ lo hi : Nat, s9 = .int .i64 lo ∧ s10 = .int .i64 hi ∧ lo ≤ hi ∧ hi ≤ l.length ∧ hi - lo ≤ gg ∧ Hid (Ext (w.alloc (.cells #[.int .i64 k1, .int .i64 k2, .int .i64 k3, .int .i64 k4, .int .i64 k5, .int .i64 k6, .int .i64 k7, .int .i64 k8, .int .i64 k9] 30)) wr) ∧ Hid (∃ f, hi - lo ≤ f ∧ res = bsI (fun y => cmpF y ⟨k1, k2, k3, k4, k5, k6, k7, k8, k9⟩) l f lo hi))
  case atStart => exact ⟨0, l.length, rfl, rfl, Nat.zero_le _, Nat.le_refl _, by omega, hbox, ⟨l.length, by omega, hF.out⟩⟩
  case round =>
    obtain ⟨lo, hi, rfl, rfl, hlh, hhn, hg, hx, H⟩ := hrel
    obtain ⟨hc, hf, hz⟩ := hx.out.rules
    simp only [World.size_alloc] at hz
    have hz0 : w.heap.size < wr.heap.size := by omega
    have hxw : Ext w wr := ((Ext.refl w).alloc _).trans hx.out
    by_cases hlt : lo < hi
    · obtain ⟨b, off, rfl⟩ := hS.addr (by omega)
      have hb := hS.blk (by omega)
      have hbw : b < wr.heap.size := by have := hxw.len; omega
      clear hb
      obtain ⟨y, hy⟩ : ∃ y, l[(lo + hi) / 2]? = some y := ⟨_, List.getElem?_eq_getElem (by omega)⟩
      have Y := Lib.hid hy
      have C := HK.out y
      have H2 : Hid (∃ f, hi - lo ≤ f + 1 ∧ res = if cmpF y ⟨k1, k2, k3, k4, k5, k6, k7, k8, k9⟩ < 0 then bsI (fun y => cmpF y ⟨k1, k2, k3, k4, k5, k6, k7, k8, k9⟩) l f ((lo + hi) / 2 + 1) hi else bsI (fun y => cmpF y ⟨k1, k2, k3, k4, k5, k6, k7, k8, k9⟩) l f lo ((lo + hi) / 2)) := by
        obtain ⟨f, hf1, hf2⟩ := H.out
        cases f with
        | zero => omega
        | succ f =>
          refine ⟨f, hf1, ?_⟩
          rw [hf2]
          simp only [bsI, if_pos hlt, Y.out]
      clear H
      generalize cmpF y ⟨k1, k2, k3, k4, k5, k6, k7, k8, k9⟩ = cv at C H2
      obtain ⟨y1, y2, y3, y4, y5, y6, y7, y8, y9⟩ := y
      have c0 : wr.cell? ⟨b, off + (lo + hi) / 2 * 9, none⟩ = some (.int .i64 y1) := by have := (hS.ext hxw).at_ hy (i := 0) rfl; simpa using this
      have c1 : wr.cell? ⟨b, off + (lo + hi) / 2 * 9 + 1, none⟩ = some (.int .i64 y2) := by have := (hS.ext hxw).at_ hy (i := 1) rfl; simpa using this
      have c2 : wr.cell? ⟨b, off + (lo + hi) / 2 * 9 + 2, none⟩ = some (.int .i64 y3) := by have := (hS.ext hxw).at_ hy (i := 2) rfl; simpa using this
      have c3 : wr.cell? ⟨b, off + (lo + hi) / 2 * 9 + 3, none⟩ = some (.int .i64 y4) := by have := (hS.ext hxw).at_ hy (i := 3) rfl; simpa using this
      have c4 : wr.cell? ⟨b, off + (lo + hi) / 2 * 9 + 4, none⟩ = some (.int .i64 y5) := by have := (hS.ext hxw).at_ hy (i := 4) rfl; simpa using this
      have c5 : wr.cell? ⟨b, off + (lo + hi) / 2 * 9 + 5, none⟩ = some (.int .i64 y6) := by have := (hS.ext hxw).at_ hy (i := 5) rfl; simpa using this
      have c6 : wr.cell? ⟨b, off + (lo + hi) / 2 * 9 + 6, none⟩ = some (.int .i64 y7) := by have := (hS.ext hxw).at_ hy (i := 6) rfl; simpa using this
      have c7 : wr.cell? ⟨b, off + (lo + hi) / 2 * 9 + 7, none⟩ = some (.int .i64 y8) := by have := (hS.ext hxw).at_ hy (i := 7) rfl; simpa using this
      have c8 : wr.cell? ⟨b, off + (lo + hi) / 2 * 9 + 8, none⟩ = some (.int .i64 y9) := by have := (hS.ext hxw).at_ hy (i := 8) rfl; simpa using this
      have hhl : (lo : Int) + hi ≤ 2000000 := by omega
      have hltz : (lo : Int) < (hi : Int) := by omega
      have hml : ((lo : Int) + hi) / 2 < (l.length : Int) := by omega
      clear hy
      by_cases hcv : cv < 0
      · have hd : decide (cv < 0) = true := decide_eq_true hcv
        go_wp2_with fail
        (refine wp_region_ext (by kernel_rfl) (by kernel_rfl) ?_; (repeat (first | go_big_quiet_step ((go_at_call 97; exact Xt.calls (C.out _))) | quiet_step ((go_at_call 97; exact Xt.calls (C.out _))))); refine wpQuiet_nil ?_; rintro _ ⟨xq, rfl⟩; have hx2 := xq.ext; generalize xq.world = w2 at hx2 ⊢)
        go_wp2
        go_roundg (hi - ((lo + hi) / 2 + 1))
        case measure => omega
        case rel =>
          refine ⟨(lo + hi) / 2 + 1, hi, by rw [show ((lo : Int) + (hi : Int)) / 2 + 1 = (((lo + hi) / 2 + 1 : Nat) : Int) by omega], rfl, by omega, hhn, Nat.le_refl _, hx.out.trans hx2, ?_⟩
          obtain ⟨f, hf1, hf2⟩ := H2.out
          rw [if_pos hcv] at hf2
          exact ⟨f, by omega, hf2⟩
      · have hd : decide (cv < 0) = false := decide_eq_false hcv
        go_wp2_with fail
        (refine wp_region_ext (by kernel_rfl) (by kernel_rfl) ?_; (repeat (first | go_big_quiet_step ((go_at_call 97; exact Xt.calls (C.out _))) | quiet_step ((go_at_call 97; exact Xt.calls (C.out _))))); refine wpQuiet_nil ?_; rintro _ ⟨xq, rfl⟩; have hx2 := xq.ext; generalize xq.world = w2 at hx2 ⊢)
        go_wp2
        go_roundg ((lo + hi) / 2 - lo)
        case measure => omega
        case rel =>
          refine ⟨lo, (lo + hi) / 2, rfl, by rw [show ((lo : Int) + (hi : Int)) / 2 = (((lo + hi) / 2 : Nat) : Int) by omega], by omega, by omega, Nat.le_refl _, hx.out.trans hx2, ?_⟩
          obtain ⟨f, hf1, hf2⟩ := H2.out
          rw [if_neg (by omega)] at hf2
          exact ⟨f, by omega, hf2⟩
    · obtain rfl : hi = lo := by omega
      have hres : Hid (res = hi) := by
        obtain ⟨f, _, hf2⟩ := H.out
        rw [bsI_end] at hf2; exact hf2
      clear H
      by_cases hn : hi < l.length
      · obtain ⟨b, off, rfl⟩ := hS.addr (by omega)
        have hb := hS.blk (by omega)
        have hbw : b < wr.heap.size := by have := hxw.len; omega
        clear hb
        obtain ⟨y, hy⟩ : ∃ y, l[hi]? = some y := ⟨_, List.getElem?_eq_getElem hn⟩
        have Y := Lib.hid hy
        have C := HK.out y
        have H2 : Hid (hit = decide (cmpF y ⟨k1, k2, k3, k4, k5, k6, k7, k8, k9⟩ = 0)) := by
          have := hH.out
          rw [hres.out, Y.out] at this
          exact this
        generalize cmpF y ⟨k1, k2, k3, k4, k5, k6, k7, k8, k9⟩ = cv at C H2
        obtain ⟨y1, y2, y3, y4, y5, y6, y7, y8, y9⟩ := y
        have c0 : wr.cell? ⟨b, off + hi * 9, none⟩ = some (.int .i64 y1) := by have := (hS.ext hxw).at_ hy (i := 0) rfl; simpa using this
        have c1 : wr.cell? ⟨b, off + hi * 9 + 1, none⟩ = some (.int .i64 y2) := by have := (hS.ext hxw).at_ hy (i := 1) rfl; simpa using this
        have c2 : wr.cell? ⟨b, off + hi * 9 + 2, none⟩ = some (.int .i64 y3) := by have := (hS.ext hxw).at_ hy (i := 2) rfl; simpa using this
        have c3 : wr.cell? ⟨b, off + hi * 9 + 3, none⟩ = some (.int .i64 y4) := by have := (hS.ext hxw).at_ hy (i := 3) rfl; simpa using this
        have c4 : wr.cell? ⟨b, off + hi * 9 + 4, none⟩ = some (.int .i64 y5) := by have := (hS.ext hxw).at_ hy (i := 4) rfl; simpa using this
        have c5 : wr.cell? ⟨b, off + hi * 9 + 5, none⟩ = some (.int .i64 y6) := by have := (hS.ext hxw).at_ hy (i := 5) rfl; simpa using this
        have c6 : wr.cell? ⟨b, off + hi * 9 + 6, none⟩ = some (.int .i64 y7) := by have := (hS.ext hxw).at_ hy (i := 6) rfl; simpa using this
        have c7 : wr.cell? ⟨b, off + hi * 9 + 7, none⟩ = some (.int .i64 y8) := by have := (hS.ext hxw).at_ hy (i := 7) rfl; simpa using this
        have c8 : wr.cell? ⟨b, off + hi * 9 + 8, none⟩ = some (.int .i64 y9) := by have := (hS.ext hxw).at_ hy (i := 8) rfl; simpa using this
        have hnz : (hi : Int) < (l.length : Int) := by omega
        have hnd : decide ((hi : Int) < (l.length : Int)) = true := decide_eq_true hnz
        clear hy
        go_wp2_with fail
        (refine wp_region_ext (by kernel_rfl) (by kernel_rfl) ?_; (repeat (first | go_big_quiet_step ((go_at_call 97; exact Xt.calls (C.out _))) | quiet_step ((go_at_call 97; exact Xt.calls (C.out _))))); refine wpQuiet_nil ?_; rintro _ ⟨xq, rfl⟩; have hx2 := xq.ext; generalize xq.world = w2 at hx2 ⊢)
        go_wp2
        go_ret2
        exact ⟨by rw [hres.out, H2.out]; rfl, by rw [hres.out]; omega, xt⟩
      · have H2 : Hid (hit = false) := by
          have := hH.out
          rw [hres.out, List.getElem?_eq_none (by omega)] at this
          exact this
        have hnz : ¬ (hi : Int) < (l.length : Int) := by omega
        have hnd : decide ((hi : Int) < (l.length : Int)) = false := decide_eq_false hnz
        go_wp2_with fail
        (refine wp_region_ext (by kernel_rfl) (by kernel_rfl) ?_; (repeat (first | go_big_quiet_step (fail) | quiet_step (fail))); refine wpQuiet_nil ?_; rintro _ ⟨xq, rfl⟩; have hx2 := xq.ext; generalize xq.world = w2 at hx2 ⊢)
        go_wp2
        go_ret2
        exact ⟨by rw [hres.out, H2.out]; rfl, by rw [hres.out]; omega, xt⟩

end Go.Proofs.YtcgghcicnanliaaGreatDoor
namespace Go.Proofs.YtcgghcicnanliaaGreatDoor
open Go.RowKit
set_option maxHeartbeats 40000000
set_option maxRecDepth 100000

/-- The depth of a cell fits. -/
def fitsB (y : CellT) (h v : Sp) : Bool := y.void || (decide (y.lo + h.1 ≤ v.2) && decide (v.1 ≤ y.hi + h.2))

theorem fits1_226 (Bc Bh Bv : Nat) (i : Nat) (y : CellT) (h v : Sp) (cA : Option Addr) (cc : Nat) (cells : List CellT) (w : World) (hS : Sl encCell 4 w cA cells) (hy : cells[i]? = some y) (hn : cells.length ≤ 1000000)
    (hb : cellOk y.lo y.hi y.date = true) (h1 : -2000 ≤ h.1 ∧ h.1 ≤ 2000) (h2 : -2000 ≤ h.2 ∧ h.2 ≤ 2000)
    (c6 : w.cell? ⟨Bc, 6, none⟩ = some (.slice cA cells.length cc)) (d0 : w.cell? ⟨Bh, 0, none⟩ = some (.int .i64 h.1)) (d1 : w.cell? ⟨Bh, 1, none⟩ = some (.int .i64 h.2)) (e0 : w.cell? ⟨Bv, 0, none⟩ = some (.int .i64 v.1)) (e1 : w.cell? ⟨Bv, 1, none⟩ = some (.int .i64 v.2))
    (k1 : Bc < w.heap.size) (k2 : Bh < w.heap.size) (k3 : Bv < w.heap.size) :
    Calls Tryz.prog 226 #[.int .i64 i, .pointer (some ⟨Bc, 0, none⟩), .pointer (some ⟨Bh, 0, none⟩), .pointer (some ⟨Bv, 0, none⟩)] w fun e w' => e = .returned (.bool (fitsB y h v)) ∧ Ext w w' := by
  obtain ⟨hb1, hb2, hb3⟩ : -100000 ≤ y.lo ∧ y.lo ≤ y.hi ∧ y.hi ≤ 100000 := by
    simp only [cellOk, Bool.and_eq_true, decide_eq_true_eq] at hb
    omega
  have hil : i < cells.length := (List.getElem?_eq_some_iff.1 hy).1
  obtain ⟨b, off, rfl⟩ := hS.addr (by omega)
  have hbw := hS.blk (by omega)
  obtain ⟨lo, hi, date, void⟩ := y
  obtain ⟨ha, hb'⟩ := h
  obtain ⟨va, vb⟩ := v
  simp only at *
  have c0 : w.cell? ⟨b, off + i * 4, none⟩ = some (.int .i64 lo) := by have := hS.at_ hy (i := 0) rfl; simpa using this
  have c1 : w.cell? ⟨b, off + i * 4 + 1, none⟩ = some (.int .i64 hi) := by have := hS.at_ hy (i := 1) rfl; simpa using this
  have c2 : w.cell? ⟨b, off + i * 4 + 2, none⟩ = some (.int .i64 date) := by have := hS.at_ hy (i := 2) rfl; simpa using this
  have c3 : w.cell? ⟨b, off + i * 4 + 3, none⟩ = some (.bool void) := by have := hS.at_ hy (i := 3) rfl; simpa using this
  have hiz : (i : Int) < (cells.length : Int) := by omega
  have hib : (i : Int) ≤ 1000000 := by omega
  clear hy hS hb
  simp only [fitsB]
  cases void
  · go_enter Tryz.func226, Tryz.ntmps226
    go_wp2
    all_goals go_ret
    all_goals (refine ⟨retb ?_, xt⟩)
    all_goals rename_i hh
    all_goals first
      | (rw [decide_eq_true hh]; simp; done)
      | (rw [decide_eq_false (show ¬ lo + ha ≤ vb by omega)]; simp; done)
  · go_enter Tryz.func226, Tryz.ntmps226
    go_wp2
    all_goals (go_ret; exact ⟨retb (by simp), xt⟩)

/-- echo.newSounder. -/
theorem newSounder_133 (t : ChartT) (h v : Sp) (w : World) (H : t.Lies w) (hok : chartOk t = true) (hh : spanIn h.1 h.2 (-2000) 2000 = true) (hv : spanIn v.1 v.2 (-100000) 100000 = true) :
    Calls Tryz.prog 133 #[.agg t.vals.toArray, .agg #[.int .i64 h.1, .int .i64 h.2], .agg #[.int .i64 v.1, .int .i64 v.2]] w fun e w' => ∃ B, e = .returned (.tuple #[.pointer (some ⟨B, 0, none⟩), .bool true]) ∧ Ext w w' ∧ w.heap.size ≤ B ∧
      w'.heap[B]? = some (.cells (t.vals ++ [Value.func (.func 226) #[] #[.pointer (some ⟨w.heap.size, 0, none⟩), .pointer (some ⟨w.heap.size + 1, 0, none⟩), .pointer (some ⟨w.heap.size + 1 + 1, 0, none⟩)], Value.slice none 0 0]).toArray 183) ∧
      w'.heap[w.heap.size]? = some (.cells t.vals.toArray 26) ∧ w'.heap[w.heap.size + 1]? = some (.cells #[.int .i64 h.1, .int .i64 h.2] 28) ∧ w'.heap[w.heap.size + 1 + 1]? = some (.cells #[.int .i64 v.1, .int .i64 v.2] 28) := by
  have K1 := Lib.hid (fun W (hx : Ext w W) => chartValid_41 t W (H.ext hx))
  rw [hok] at K1
  obtain ⟨ha, hb'⟩ := h
  obtain ⟨va, vb⟩ := v
  obtain ⟨version, x, y, tw, th, size, cA, cc, cells, bA, bc, beacons, lA, lc, lines⟩ := t
  simp only [ChartT.vals, List.cons_append, List.nil_append] at *
  clear H hok
  go_enter Tryz.func133, Tryz.ntmps133
  go_wp2_with (first
    | (go_at_call 41; refine (K1.out _ xt).mono ?_; rintro e w1 ⟨rfl, hb1⟩; obtain ⟨hc1, hf1, hz1⟩ := hb1.rules; (try simp only [World.size_alloc] at hz1); (have hzz1 : w.heap.size < w1.heap.size := by omega); (have hzy1 : w.heap.size + 1 < w1.heap.size := by omega); (have hzx1 : w.heap.size + 1 + 1 < w1.heap.size := by omega))
    | (go_at_call 225; refine (echoWithin_225 _ _ _ _ _).mono ?_; rintro e w2 ⟨rfl, hb2⟩; (try simp only [hh, hv]); obtain ⟨hc2, hf2, hz2⟩ := hb2.rules; (have hzz2 : w.heap.size < w2.heap.size := by omega); (have hzy2 : w.heap.size + 1 < w2.heap.size := by omega); (have hzx2 : w.heap.size + 1 + 1 < w2.heap.size := by omega)))
  have hX : Ext (((w.alloc (.cells #[.int .i64 version, .int .i64 x, .int .i64 y, .int .i64 tw, .int .i64 th, .int .i64 size, .slice cA cells.length cc, .slice bA beacons.length bc, .slice lA lines.length lc] 26)).alloc (.cells #[.int .i64 ha, .int .i64 hb'] 28)).alloc (.cells #[.int .i64 va, .int .i64 vb] 28)) w2 := by
    refine Ext.trans ?_ (by assumption)
    refine Ext.trans ?_ (by assumption)
    assumption
  have hs := hX.len
  simp only [World.size_alloc] at hs
  go_ret2
  refine ⟨_, rfl, Ext.alloc (Ext.trans (((Ext.refl w).alloc _).alloc _ |>.alloc _) hX) _, by omega, heap_new w2 _, ?_, ?_, ?_⟩
  · rw [Below.heap_alloc _ _ _ (by omega)]
    refine (hX.block _ (by simp only [World.size_alloc]; omega)).trans ?_
    rw [Below.heap_alloc _ _ _ (by simp only [World.size_alloc]; omega), Below.heap_alloc _ _ _ (by simp only [World.size_alloc]; omega)]
    exact heap_new w _
  · rw [Below.heap_alloc _ _ _ (by omega)]
    refine (hX.block _ (by simp only [World.size_alloc]; omega)).trans ?_
    rw [Below.heap_alloc _ _ _ (by simp only [World.size_alloc]; omega)]
    have := heap_new (w.alloc (.cells #[.int .i64 version, .int .i64 x, .int .i64 y, .int .i64 tw, .int .i64 th, .int .i64 size, .slice cA cells.length cc, .slice bA beacons.length bc, .slice lA lines.length lc] 26)) (.cells #[.int .i64 ha, .int .i64 hb'] 28)
    simpa only [World.size_alloc] using this
  · rw [Below.heap_alloc _ _ _ (by omega)]
    refine (hX.block _ (by simp only [World.size_alloc]; omega)).trans ?_
    have := heap_new ((w.alloc (.cells #[.int .i64 version, .int .i64 x, .int .i64 y, .int .i64 tw, .int .i64 th, .int .i64 size, .slice cA cells.length cc, .slice bA beacons.length bc, .slice lA lines.length lc] 26)).alloc (.cells #[.int .i64 ha, .int .i64 hb'] 28)) (.cells #[.int .i64 va, .int .i64 vb] 28)
    simpa only [World.size_alloc] using this

theorem eg_226 : ∀ args w, (callFunc 226 args).run Tryz.prog w = .ok (.enter 226 args) w := enters_of Tryz.func226 (by kernel_rfl) rfl
/-- echo.Fits. -/
theorem fits_112 (t : ChartT) (i : Nat) (y : CellT) (h v : Sp) (w : World) (H : t.Lies w) (hok : chartOk t = true) (hh : spanIn h.1 h.2 (-2000) 2000 = true) (hv : spanIn v.1 v.2 (-100000) 100000 = true) (hy : t.cells[i]? = some y) :
    Calls Tryz.prog 112 #[.agg t.vals.toArray, .int .i64 i, .agg #[.int .i64 h.1, .int .i64 h.2], .agg #[.int .i64 v.1, .int .i64 v.2]] w fun e w' => e = .returned (.tuple #[.bool (fitsB y h v), .int .i64 0]) ∧ Ext w w' := by
  have K1 := Lib.hid (fun W (hx : Ext w W) => newSounder_133 t h v W (H.ext hx) hok hh hv)
  have hil : i < t.cells.length := (List.getElem?_eq_some_iff.1 hy).1
  have hcell : cellOk y.lo y.hi y.date = true := by
    simp only [chartOk, Bool.and_eq_true, Bool.not_eq_true'] at hok
    have := List.any_eq_false.1 hok.1.1.2 y (List.mem_of_getElem? hy)
    simpa using this
  have hhb : -2000 ≤ h.1 ∧ h.1 ≤ 2000 ∧ -2000 ≤ h.2 ∧ h.2 ≤ 2000 := by
    simp only [spanIn, Bool.and_eq_true, decide_eq_true_eq] at hh
    omega
  have K2 := Lib.hid (fun Bc Bh Bv W (hx : Ext w W) a b c d e f g hh' => fits1_226 Bc Bh Bv i y h v t.cA t.cc t.cells W (H.cells.ext hx) hy H.nc hcell ⟨hhb.1, hhb.2.1⟩ ⟨hhb.2.2.1, hhb.2.2.2⟩ a b c d e f g hh')
  have hnc := H.nc
  clear H hok hcell hh hv hy hhb
  generalize fitsB y h v = q at K2 ⊢
  obtain ⟨ha, hb'⟩ := h
  obtain ⟨va, vb⟩ := v
  obtain ⟨version, x, yy, tw, th, size, cA, cc, cells, bA, bc, beacons, lA, lc, lines⟩ := t
  simp only [ChartT.vals, List.cons_append, List.nil_append] at *
  have hiz : (i : Int) < (cells.length : Int) := by omega
  have e226 := eg_226
  go_enter Tryz.func112, Tryz.ntmps112
  go_upto_region 2 with (go_at_call 133; refine (K1.out _ xt).mono ?_; rintro e w1 ⟨B, rfl, hb1, hB0, hB1, hB2, hB3, hB4⟩)
  obtain ⟨hc1, hf1, hz1⟩ := hb1.rules
  simp only [World.size_alloc] at hB2 hB3 hB4 hB0 hz1
  have hzz : w.heap.size < w1.heap.size := by omega
  have hBs : B < w1.heap.size := (Array.getElem?_eq_some_iff.1 hB1).1
  have b6 : w1.cell? ⟨w.heap.size, 6, none⟩ = some (.slice cA cells.length cc) := (hc1 w.heap.size 6 (by simp only [World.size_alloc]; omega)).trans (by simp [go_sem])
  have cB : w1.cell? ⟨B, 9, none⟩ = some (Value.func (.func 226) #[] #[.pointer (some ⟨w.heap.size + 1 + 1 + 1, 0, none⟩), .pointer (some ⟨w.heap.size + 1 + 1 + 1 + 1, 0, none⟩), .pointer (some ⟨w.heap.size + 1 + 1 + 1 + 1 + 1, 0, none⟩)]) := by simp [World.cell?, hB1]
  have k1 := (Array.getElem?_eq_some_iff.1 hB2).1
  have k2 := (Array.getElem?_eq_some_iff.1 hB3).1
  have k3 := (Array.getElem?_eq_some_iff.1 hB4).1
  have hEw : Ext w w1 := Ext.trans (((Ext.refl w).alloc _).alloc _ |>.alloc _) hb1
  have K3 := K2.out (w.heap.size + 1 + 1 + 1) (w.heap.size + 1 + 1 + 1 + 1) (w.heap.size + 1 + 1 + 1 + 1 + 1) w1 hEw (by simp [World.cell?, hB2]) (by simp [World.cell?, hB3]) (by simp [World.cell?, hB3]) (by simp [World.cell?, hB4]) (by simp [World.cell?, hB4]) k1 k2 k3
  have K4 := Lib.hid K3
  have HE := Lib.hid hEw
  clear K1 K2 K3 hB1 hB2 hB3 hB4 hb1 hc1 hf1 k1 k2 k3 hEw
  go_wp2_with (go_at_call 226; refine (K4.out).mono ?_; rintro e w2 ⟨rfl, hb2⟩)
  go_ret2
  exact ⟨rfl, HE.out.trans hb2⟩

end Go.Proofs.YtcgghcicnanliaaGreatDoor
