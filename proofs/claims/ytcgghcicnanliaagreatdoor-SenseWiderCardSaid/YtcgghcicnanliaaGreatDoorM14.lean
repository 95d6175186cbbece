/- Walks: chart.areNamed at Beacon and at Line. Conditions: none. Walks: chart.Valid's closures. Conditions: none. Walks: sense.Valid. Conditions: none. Walks: chart.column, chart.under. Conditions: none. -/
import Derived.Test.YtcgghcicnanliaaGreatDoorProg
import Derived.Test.YtcgghcicnanliaaGreatDoorM13
import Derived.Maps.Own
import Derived.Maps.OwnOps
import Derived.Maps.Views
import Derived.Maps.OwnSet
import Derived.Maps.Keyed
import Derived.Shelf.Abstract
import Derived.Deep.LoopGhost
set_option linter.unusedVariables false
set_option linter.unusedSimpArgs false
namespace Go.Proofs.YtcgghcicnanliaaGreatDoor
open Go.RowKit
set_option maxHeartbeats 2000000
set_option maxRecDepth 100000

structure BeaconT where
  id : Int
  at_ : Pt
def encBeacon (b : BeaconT) : List Value := [.int .i64 b.id, .int .i64 b.at_.1, .int .i64 b.at_.2]
/-- A set of names: a map of the call's own. -/
def Names (w : World) (b n : Nat) (f : Int → Bool) : Prop := ∃ D : DataW Unit, w.ownsMap Tryz.prog 3 (plainElem Tryz.prog 4) b n D ∧ ∀ z, I64 z → D.atKey (.int .i64 z) (.lit (.bool false)) = .lit (.bool (f z))
theorem keyed3 : Maps.Keyed Tryz.prog 3 := Maps.int_keyed Tryz.underlying3
theorem wf_i64 {z : Int} (h : I64 z) : (Lit.int .i64 z).wf = true := by
  obtain ⟨h1, h2⟩ := h
  simp [Lit.wf, IntKind.min, IntKind.max, IntKind.bits, IntKind.signed]
  omega
theorem Names.new (w : World) : Names (w.alloc (.map #[] 0)) w.heap.size 0 (fun _ => false) := ⟨.map [], World.ownsMap_made _ _ _ _, fun z _ => rfl⟩
theorem Names.ext {w w' : World} {b n : Nat} {f : Int → Bool} (h : Names w b n f) (hx : Ext w w') : Names w' b n f := by
  obtain ⟨D, ⟨es, clock, hb, r⟩, hf⟩ := h
  exact ⟨D, ⟨es, clock, heap_of hx hb, r⟩, hf⟩
theorem Names.lt {w : World} {b n : Nat} {f : Int → Bool} (h : Names w b n f) : b < w.heap.size := by
  obtain ⟨D, hD, _⟩ := h
  exact hD.lt
theorem Names.look {w : World} {b n : Nat} {f : Int → Bool} (h : Names w b n f) {z : Int} (hz : I64 z) : (Instr.lookup 66 (.map (some b)) (.int .i64 z) false).run Tryz.prog w = .ok (.bool (f z)) w := by
  obtain ⟨D, hD, hf⟩ := h
  obtain ⟨v, ps, hrun, hv⟩ := hD.lookup keyed3 Tryz.underlying66 (Tryz.zeroValue4 w) (plainElem_bool Tryz.underlying4 false) (Maps.keyOf_int_mk Tryz.underlying3 (wf_i64 hz))
  rw [hf z hz] at hv
  unfold plainElem at hv
  rw [Tryz.underlying4] at hv
  cases v <;> simp at hv
  rw [hrun, hv.1]
theorem Names.put {w : World} {b n : Nat} {f : Int → Bool} (h : Names w b n f) (hn : n ≤ 1000000) {z : Int} (hz : I64 z) : ∃ w', (Instr.mapUpdate 66 (.map (some b)) (.int .i64 z) (.bool true)).run Tryz.prog w = .ok () w' ∧ Names w' b (n + 1) (fun y => f y || decide (z = y)) ∧ w.grownBy w' (some b) := by
  obtain ⟨D, hD, hf⟩ := h
  obtain ⟨w', hrun, hD', hg⟩ := hD.update keyed3 Tryz.underlying66 (by simp [maxLen]; omega) (Maps.keyOf_int_mk Tryz.underlying3 (wf_i64 hz)) (plainElem_bool Tryz.underlying4 true)
  refine ⟨w', hrun, ⟨_, hD', fun y hy => ?_⟩, hg⟩
  by_cases e : z = y
  · subst e
    rw [Maps.atKey_put_same (k := .int .i64 z) hD.isMap trivial]
    simp
  · rw [Maps.atKey_put_other (by intro h; apply e; cases h; rfl), hf y hy]
    simp [e]
/-- Element j is right, and none before it bears its name. -/
def namedAt {α : Type} (right : α → Bool) (id : α → Int) (l : List α) (j : Nat) : Bool := match l[j]? with
  | none => true
  | some x => right x && !((l.take j).any fun y => decide (id y = id x))
/-- chart.areNamed. -/
def namedOk {α : Type} (right : α → Bool) (id : α → Int) (most : Int) (l : List α) : Bool := (List.range l.length).all (namedAt right id l) && decide ((l.length : Int) ≤ most)

theorem areNamed_90 (g1 g2 : Nat) (e1 : ∀ args w, (callFunc g1 args).run Tryz.prog w = .ok (.enter g1 args) w) (e2 : ∀ args w, (callFunc g2 args).run Tryz.prog w = .ok (.enter g2 args) w) (hne : g1 ≠ g2) (right : BeaconT → Bool) (id : BeaconT → Int)
    (A : Option Addr) (c : Nat) (l : List BeaconT) (most : Int) (w : World) (hl : l.length ≤ 1000000) (hS : Sl encBeacon 3 w A l) (hid : ∀ x ∈ l, I64 (id x))
    (h1 : ∀ W x, x ∈ l → Ext w W → Calls Tryz.prog g1 #[.agg (encBeacon x).toArray] W fun e w' => e = .returned (.bool (right x)) ∧ Ext W w')
    (h2 : ∀ W x, x ∈ l → Ext w W → Calls Tryz.prog g2 #[.agg (encBeacon x).toArray] W fun e w' => e = .returned (.int .i64 (id x)) ∧ Ext W w') :
    Calls Tryz.prog 90 #[.slice A l.length c, .int .i64 most, .func (.func g1) #[] #[], .func (.func g2) #[] #[]] w fun e w' => e = .returned (.bool (namedOk right id most l)) ∧ Ext w w' := by
  have hmm := @run_makeMap Tryz.prog
  have HI := Lib.hid hid
  have H1 := Lib.hid h1
  have H2 := Lib.hid h2
  clear hid h1 h2
  have hmap : Hid (Ext w (w.alloc (.map #[] 0)) ∧ Names (w.alloc (.map #[] 0)) w.heap.size 0 (fun z => (l.take 0).any fun y => decide (id y = z))) := ⟨(Ext.refl w).alloc _, Names.new w⟩
  go_enter Tryz.func90, Tryz.ntmps90
  go_wp2
  go_loopg [11, 15] l.length (fun gg _ s15 wr => ∃ kk : Nat, kk ≤ l.length ∧ l.length - kk ≤ gg ∧ s15 = .int .i64 kk ∧ Hid (Ext w wr ∧ Names wr w.heap.size kk (fun z => (l.take kk).any fun y => decide (id y = z))) ∧ Hid (∀ j, j < kk → namedAt right id l j = true))
  case atStart => exact ⟨0, Nat.zero_le _, by omega, rfl, hmap, fun j hj => absurd hj (Nat.not_lt_zero _)⟩
  case round =>
    obtain ⟨kk, hkk, hg, rfl, hx, H⟩ := hrel
    by_cases hlt : kk < l.length
    · obtain ⟨b, off, rfl⟩ := hS.addr (by omega)
      obtain ⟨y, hy⟩ : ∃ y, l[kk]? = some y := ⟨_, List.getElem?_eq_getElem hlt⟩
      have hmem := List.mem_of_getElem? hy
      have C1 := Lib.hid (fun W => H1.out W y hmem)
      have C2 := Lib.hid (fun W => H2.out W y hmem)
      have Iy := Lib.hid (HI.out y hmem)
      have hat : Hid (namedAt right id l kk = (right y && !((l.take kk).any fun z => decide (id z = id y)))) := by show namedAt right id l kk = _; simp only [namedAt, hy]
      have htk : Hid (l.take (kk + 1) = l.take kk ++ [y]) := by show l.take (kk + 1) = _; rw [List.take_add_one, hy]; rfl
      have hltz : (kk : Int) < (l.length : Int) := by omega
      have hbw : b < wr.heap.size := Nat.lt_of_lt_of_le (hS.blk (by omega)) hx.out.1.len
      obtain ⟨i1, ⟨i2, i3⟩⟩ := y
      have c0 : wr.cell? ⟨b, off + kk * 3, none⟩ = some (.int .i64 i1) := by have := (hS.ext hx.out.1).at_ hy (i := 0) rfl; simpa using this
      have c1 : wr.cell? ⟨b, off + kk * 3 + 1, none⟩ = some (.int .i64 i2) := by have := (hS.ext hx.out.1).at_ hy (i := 1) rfl; simpa using this
      have c2 : wr.cell? ⟨b, off + kk * 3 + 2, none⟩ = some (.int .i64 i3) := by have := (hS.ext hx.out.1).at_ hy (i := 2) rfl; simpa using this
      clear hy hmem
      generalize hqid : id ⟨i1, ⟨i2, i3⟩⟩ = ny at C2 Iy hat
      have HQ := Lib.hid hqid
      clear hqid
      cases hq : right ⟨i1, ⟨i2, i3⟩⟩ with
      | false =>
        rw [hq] at C1 hat
        go_wp2_with (go_at_fn g1; refine (C1.out _ (hx.out.1.alloc _)).mono ?_; rintro e w' ⟨rfl, hb'⟩)
        go_ret
        have hF : namedOk right id most l = false := by
          unfold namedOk
          rw [all_range_false hlt (by rw [hat.out]; simp)]; rfl
        exact ⟨retb hF.symm, (hx.out.1.alloc _).trans hb'⟩
      | true =>
        rw [hq] at C1 hat
        obtain ⟨f, hf0⟩ : ∃ f, (fun z => (l.take kk).any fun y => decide (id y = z)) = f := ⟨_, rfl⟩
        have hfn : Hid ((l.take kk).any (fun z => decide (id z = ny)) = f ny) := by show _ = f ny; rw [← hf0]
        have hf := Lib.hid hf0
        have NM : Hid (Names wr w.heap.size kk f) := by show Names wr _ kk f; rw [← hf0]; exact hx.out.2
        have hxw : Ext w wr := hx.out.1
        clear hf0
        cases hs : f ny with
        | true =>
          go_wp2_with (first
            | (go_at_fn g1; refine (C1.out _ xt).mono ?_; rintro e w' ⟨rfl, hb'⟩; obtain ⟨hc1, hf1, hz1⟩ := hb'.rules; (try simp only [World.size_alloc] at hz1); have hz2 : wr.heap.size < w'.heap.size := by omega)
            | (go_at_fn g2; refine (C2.out _ xt).mono ?_; rintro e w2 ⟨rfl, hb2⟩; have hlk := (Names.ext (w' := w2) NM.out xt).look Iy.out; rw [hs] at hlk))
          go_ret
          have hF : namedOk right id most l = false := by
            unfold namedOk
            rw [all_range_false hlt (by rw [hat.out, hfn.out, hs]; rfl)]; rfl
          exact ⟨retb hF.symm, xt⟩
        | false =>
          go_wp2_with (go_at_fn g1; refine (C1.out _ xt).mono ?_; rintro e w' ⟨rfl, hb'⟩; obtain ⟨hc1, hf1, hz1⟩ := hb'.rules; (try simp only [World.size_alloc] at hz1); have hz2 : wr.heap.size < w'.heap.size := by omega)
          go_at_fn g2
          refine (C2.out _ xt).mono ?_
          rintro e w2 ⟨rfl, hb2⟩
          have hlk := (Names.ext (w' := w2) NM.out xt).look Iy.out
          rw [hs] at hlk
          obtain ⟨hc2, hf2, hz3⟩ := hb2.rules
          have hz4 : wr.heap.size < w2.heap.size := by omega
          go_wp2
          go_at_fn g2
          refine (C2.out _ xt).mono ?_
          rintro e w4 ⟨rfl, hb4⟩
          obtain ⟨wu, hpu, hNU0, hgU0⟩ := (Names.ext (w' := w4) NM.out xt).put (by omega) Iy.out
          have hNU := Lib.hid (And.intro hNU0 hgU0)
          clear hNU0 hgU0
          have hEw := Lib.hid (show Ext w w4 from xt)
          go_wp2
          go_roundg (l.length - (kk + 1))
          case measure => omega
          case rel =>
            refine ⟨kk + 1, by omega, by omega, by go_num, ⟨hEw.out.grown hNU.out.2 (by intro k e; cases e; exact Nat.le_refl _), ?_⟩, fun (j : Nat) (hj : j < kk + 1) => ?_⟩
            · have := hNU.out.1
              rw [← hf.out] at this
              have e : (fun z => (l.take (kk + 1)).any fun y => decide (id y = z)) = (fun z => (l.take kk).any (fun y => decide (id y = z)) || decide (ny = z)) := by
                funext z
                rw [htk.out, List.any_append, List.any_cons, List.any_nil, Bool.or_false, HQ.out]
              rw [e]; exact this
            · by_cases ej : j = kk
              · subst ej
                rw [hat.out, hfn.out, hs]; rfl
              · exact H.out j (by omega)
    · have hall := all_range_true (n := l.length) (f := namedAt right id l) (fun j hj => H.out j (by omega))
      have hF : Hid (namedOk right id most l = decide ((l.length : Int) ≤ most)) := by show namedOk right id most l = _; unfold namedOk; rw [hall]; rfl
      have hltz : ¬ (kk : Int) < (l.length : Int) := by omega
      clear hall
      go_wp2
      go_ret
      exact ⟨retb hF.out.symm, hx.out.1⟩

theorem areNamed_92 (g1 g2 : Nat) (e1 : ∀ args w, (callFunc g1 args).run Tryz.prog w = .ok (.enter g1 args) w) (e2 : ∀ args w, (callFunc g2 args).run Tryz.prog w = .ok (.enter g2 args) w) (hne : g1 ≠ g2) (right : LineT → Bool) (id : LineT → Int)
    (A : Option Addr) (c : Nat) (l : List LineT) (most : Int) (w : World) (hl : l.length ≤ 1000000) (hS : Sl encLine 2 w A l) (hid : ∀ x ∈ l, I64 (id x))
    (h1 : ∀ W x, x ∈ l → Ext w W → Calls Tryz.prog g1 #[.agg (encLine x).toArray] W fun e w' => e = .returned (.bool (right x)) ∧ Ext W w')
    (h2 : ∀ W x, x ∈ l → Ext w W → Calls Tryz.prog g2 #[.agg (encLine x).toArray] W fun e w' => e = .returned (.int .i64 (id x)) ∧ Ext W w') :
    Calls Tryz.prog 92 #[.slice A l.length c, .int .i64 most, .func (.func g1) #[] #[], .func (.func g2) #[] #[]] w fun e w' => e = .returned (.bool (namedOk right id most l)) ∧ Ext w w' := by
  have hmm := @run_makeMap Tryz.prog
  have HI := Lib.hid hid
  have H1 := Lib.hid h1
  have H2 := Lib.hid h2
  clear hid h1 h2
  have hmap : Hid (Ext w (w.alloc (.map #[] 0)) ∧ Names (w.alloc (.map #[] 0)) w.heap.size 0 (fun z => (l.take 0).any fun y => decide (id y = z))) := ⟨(Ext.refl w).alloc _, Names.new w⟩
  go_enter Tryz.func92, Tryz.ntmps92
  go_wp2
  go_loopg [11, 15] l.length (fun gg _ s15 wr => ∃ kk : Nat, kk ≤ l.length ∧ l.length - kk ≤ gg ∧ s15 = .int .i64 kk ∧ Hid (Ext w wr ∧ Names wr w.heap.size kk (fun z => (l.take kk).any fun y => decide (id y = z))) ∧ Hid (∀ j, j < kk → namedAt right id l j = true))
  case atStart => exact ⟨0, Nat.zero_le _, by omega, rfl, hmap, fun j hj => absurd hj (Nat.not_lt_zero _)⟩
  case round =>
    obtain ⟨kk, hkk, hg, rfl, hx, H⟩ := hrel
    by_cases hlt : kk < l.length
    · obtain ⟨b, off, rfl⟩ := hS.addr (by omega)
      obtain ⟨y, hy⟩ : ∃ y, l[kk]? = some y := ⟨_, List.getElem?_eq_getElem hlt⟩
      have hmem := List.mem_of_getElem? hy
      have C1 := Lib.hid (fun W => H1.out W y hmem)
      have C2 := Lib.hid (fun W => H2.out W y hmem)
      have Iy := Lib.hid (HI.out y hmem)
      have hat : Hid (namedAt right id l kk = (right y && !((l.take kk).any fun z => decide (id z = id y)))) := by show namedAt right id l kk = _; simp only [namedAt, hy]
      have htk : Hid (l.take (kk + 1) = l.take kk ++ [y]) := by show l.take (kk + 1) = _; rw [List.take_add_one, hy]; rfl
      have hltz : (kk : Int) < (l.length : Int) := by omega
      have hbw : b < wr.heap.size := Nat.lt_of_lt_of_le (hS.blk (by omega)) hx.out.1.len
      obtain ⟨i1, i2, i3, i4⟩ := y
      have c0 : wr.cell? ⟨b, off + kk * 2, none⟩ = some (.int .i64 i1) := by have := (hS.ext hx.out.1).at_ hy (i := 0) rfl; simpa using this
      have c1 : wr.cell? ⟨b, off + kk * 2 + 1, none⟩ = some (.slice i2 i4.length i3) := by have := (hS.ext hx.out.1).at_ hy (i := 1) rfl; simpa using this
      clear hy hmem
      generalize hqid : id ⟨i1, i2, i3, i4⟩ = ny at C2 Iy hat
      have HQ := Lib.hid hqid
      clear hqid
      cases hq : right ⟨i1, i2, i3, i4⟩ with
      | false =>
        rw [hq] at C1 hat
        go_wp2_with (go_at_fn g1; refine (C1.out _ (hx.out.1.alloc _)).mono ?_; rintro e w' ⟨rfl, hb'⟩)
        go_ret
        have hF : namedOk right id most l = false := by
          unfold namedOk
          rw [all_range_false hlt (by rw [hat.out]; simp)]; rfl
        exact ⟨retb hF.symm, (hx.out.1.alloc _).trans hb'⟩
      | true =>
        rw [hq] at C1 hat
        obtain ⟨f, hf0⟩ : ∃ f, (fun z => (l.take kk).any fun y => decide (id y = z)) = f := ⟨_, rfl⟩
        have hfn : Hid ((l.take kk).any (fun z => decide (id z = ny)) = f ny) := by show _ = f ny; rw [← hf0]
        have hf := Lib.hid hf0
        have NM : Hid (Names wr w.heap.size kk f) := by show Names wr _ kk f; rw [← hf0]; exact hx.out.2
        have hxw : Ext w wr := hx.out.1
        clear hf0
        cases hs : f ny with
        | true =>
          go_wp2_with (first
            | (go_at_fn g1; refine (C1.out _ xt).mono ?_; rintro e w' ⟨rfl, hb'⟩; obtain ⟨hc1, hf1, hz1⟩ := hb'.rules; (try simp only [World.size_alloc] at hz1); have hz2 : wr.heap.size < w'.heap.size := by omega)
            | (go_at_fn g2; refine (C2.out _ xt).mono ?_; rintro e w2 ⟨rfl, hb2⟩; have hlk := (Names.ext (w' := w2) NM.out xt).look Iy.out; rw [hs] at hlk))
          go_ret
          have hF : namedOk right id most l = false := by
            unfold namedOk
            rw [all_range_false hlt (by rw [hat.out, hfn.out, hs]; rfl)]; rfl
          exact ⟨retb hF.symm, xt⟩
        | false =>
          go_wp2_with (go_at_fn g1; refine (C1.out _ xt).mono ?_; rintro e w' ⟨rfl, hb'⟩; obtain ⟨hc1, hf1, hz1⟩ := hb'.rules; (try simp only [World.size_alloc] at hz1); have hz2 : wr.heap.size < w'.heap.size := by omega)
          go_at_fn g2
          refine (C2.out _ xt).mono ?_
          rintro e w2 ⟨rfl, hb2⟩
          have hlk := (Names.ext (w' := w2) NM.out xt).look Iy.out
          rw [hs] at hlk
          obtain ⟨hc2, hf2, hz3⟩ := hb2.rules
          have hz4 : wr.heap.size < w2.heap.size := by omega
          go_wp2
          go_at_fn g2
          refine (C2.out _ xt).mono ?_
          rintro e w4 ⟨rfl, hb4⟩
          obtain ⟨wu, hpu, hNU0, hgU0⟩ := (Names.ext (w' := w4) NM.out xt).put (by omega) Iy.out
          have hNU := Lib.hid (And.intro hNU0 hgU0)
          clear hNU0 hgU0
          have hEw := Lib.hid (show Ext w w4 from xt)
          go_wp2
          go_roundg (l.length - (kk + 1))
          case measure => omega
          case rel =>
            refine ⟨kk + 1, by omega, by omega, by go_num, ⟨hEw.out.grown hNU.out.2 (by intro k e; cases e; exact Nat.le_refl _), ?_⟩, fun (j : Nat) (hj : j < kk + 1) => ?_⟩
            · have := hNU.out.1
              rw [← hf.out] at this
              have e : (fun z => (l.take (kk + 1)).any fun y => decide (id y = z)) = (fun z => (l.take kk).any (fun y => decide (id y = z)) || decide (ny = z)) := by
                funext z
                rw [htk.out, List.any_append, List.any_cons, List.any_nil, Bool.or_false, HQ.out]
              rw [e]; exact this
            · by_cases ej : j = kk
              · subst ej
                rw [hat.out, hfn.out, hs]; rfl
              · exact H.out j (by omega)
    · have hall := all_range_true (n := l.length) (f := namedAt right id l) (fun j hj => H.out j (by omega))
      have hF : Hid (namedOk right id most l = decide ((l.length : Int) ≤ most)) := by show namedOk right id most l = _; unfold namedOk; rw [hall]; rfl
      have hltz : ¬ (kk : Int) < (l.length : Int) := by omega
      clear hall
      go_wp2
      go_ret
      exact ⟨retb hF.out.symm, hx.out.1⟩

end Go.Proofs.YtcgghcicnanliaaGreatDoor
namespace Go.Proofs.YtcgghcicnanliaaGreatDoor
open Go.RowKit
set_option maxHeartbeats 2000000
set_option maxRecDepth 100000

theorem beaconID_91 (b : BeaconT) (w : World) : Calls Tryz.prog 91 #[.agg (encBeacon b).toArray] w fun e w' => e = .returned (.int .i64 b.id) ∧ Ext w w' := by
  obtain ⟨i, x, y⟩ := b
  simp only [encBeacon]
  go_enter Tryz.func91, Tryz.ntmps91
  go_wp2
  go_ret
  exact ⟨rfl, xt⟩
theorem lineID_94 (l : LineT) (w : World) : Calls Tryz.prog 94 #[.agg (encLine l).toArray] w fun e w' => e = .returned (.int .i64 l.id) ∧ Ext w w' := by
  obtain ⟨i, A, c, pts⟩ := l
  simp only [encLine]
  go_enter Tryz.func94, Tryz.ntmps94
  go_wp2
  go_ret
  exact ⟨rfl, xt⟩
/-- chart.Valid's test of a beacon. -/
def beaconOk (b : BeaconT) : Bool := inB b.id 1 1000000 && plB b.at_
theorem chartValid2_89 (b : BeaconT) (h1 : I64 b.at_.1) (h2 : I64 b.at_.2) (w : World) : Calls Tryz.prog 89 #[.agg (encBeacon b).toArray] w fun e w' => e = .returned (.bool (beaconOk b)) ∧ Ext w w' := by
  have hcon := Lib.hid (isPlace_85 b.at_ h1 h2)
  obtain ⟨i, x, y⟩ := b
  simp only [encBeacon, beaconOk] at *
  generalize plB (x, y) = q at hcon ⊢
  go_enter Tryz.func89, Tryz.ntmps89
  go_wp2_with (first | (go_at_call 84; refine (isID_84 _ _).mono ?_; rintro e w' ⟨rfl, rfl⟩) | (go_at_call 85; refine (hcon.out _).mono ?_; rintro e w' ⟨rfl, hb⟩))
  all_goals (go_ret; exact ⟨retb (by simp_all), xt⟩)

theorem eg_87 : ∀ args w, (callFunc 87 args).run Tryz.prog w = .ok (.enter 87 args) w := enters_of Tryz.func87 (by kernel_rfl) rfl
theorem eg_89 : ∀ args w, (callFunc 89 args).run Tryz.prog w = .ok (.enter 89 args) w := enters_of Tryz.func89 (by kernel_rfl) rfl
theorem eg_91 : ∀ args w, (callFunc 91 args).run Tryz.prog w = .ok (.enter 91 args) w := enters_of Tryz.func91 (by kernel_rfl) rfl
theorem eg_93 : ∀ args w, (callFunc 93 args).run Tryz.prog w = .ok (.enter 93 args) w := enters_of Tryz.func93 (by kernel_rfl) rfl
theorem eg_94 : ∀ args w, (callFunc 94 args).run Tryz.prog w = .ok (.enter 94 args) w := enters_of Tryz.func94 (by kernel_rfl) rfl

structure ChartT where
  version : Int
  x : Int
  y : Int
  w : Int
  h : Int
  size : Int
  cA : Option Addr
  cc : Nat
  cells : List CellT
  bA : Option Addr
  bc : Nat
  beacons : List BeaconT
  lA : Option Addr
  lc : Nat
  lines : List LineT
def ChartT.vals (t : ChartT) : List Value := [.int .i64 t.version, .int .i64 t.x, .int .i64 t.y, .int .i64 t.w, .int .i64 t.h, .int .i64 t.size, .slice t.cA t.cells.length t.cc, .slice t.bA t.beacons.length t.bc, .slice t.lA t.lines.length t.lc]
/-- What lies behind a chart's slices; ints within their range; lists that are not too long. -/
structure ChartT.Lies (t : ChartT) (W : World) : Prop where
  cells : Sl encCell 4 W t.cA t.cells
  beacons : Sl encBeacon 3 W t.bA t.beacons
  lines : Sl encLine 2 W t.lA t.lines
  pts : ∀ l ∈ t.lines, Sl encP 2 W l.A l.pts
  ix : I64 t.x
  iy : I64 t.y
  ib : ∀ b ∈ t.beacons, I64 b.id ∧ I64 b.at_.1 ∧ I64 b.at_.2
  il : ∀ l ∈ t.lines, I64 l.id ∧ ∀ p ∈ l.pts, I64 p.1 ∧ I64 p.2
  nc : t.cells.length ≤ 1000000
  nb : t.beacons.length ≤ 1000000
  nl : t.lines.length ≤ 1000000
def chartDims (t : ChartT) : Bool := inB t.version 1 1000000 && decide (1 ≤ t.w) && decide (1 ≤ t.h) && decide (t.w ≤ 4000) && decide (t.h ≤ 4000) && decide (t.w * t.h = t.cells.length) && decide (t.cells.length ≤ 4000) && decide (1 ≤ t.size) && decide (t.size ≤ 10000)
/-- chart.Valid. -/
def chartOk (t : ChartT) : Bool := chartDims t && plB (t.x, t.y) && plB (t.x + t.w * t.size - 1, t.y + t.h * t.size - 1) && !(t.cells.any fun c => !cellOk c.lo c.hi c.date) && namedOk beaconOk BeaconT.id 100 t.beacons && namedOk lineOk LineT.id 50 t.lines

theorem chartValid_41 (t : ChartT) (w : World) (H : t.Lies w) : Calls Tryz.prog 41 #[.agg t.vals.toArray] w fun e w' => e = .returned (.bool (chartOk t)) ∧ Ext w w' := by
  have HL := Lib.hid H
  have K1 := Lib.hid (isPlace_85 (t.x, t.y) H.ix H.iy)
  have K3 := Lib.hid (fun W (hx : Ext w W) => containsFunc_86 87 #[] eg_87 (fun c => !cellOk c.lo c.hi c.date) t.cA t.cc t.cells W H.nc (H.cells.ext hx) (fun W x _ _ => by simpa [encCell] using chartValid1_87 x.lo x.hi x.date x.void W))
  have K4 := Lib.hid (fun W (hx : Ext w W) => areNamed_90 89 91 eg_89 eg_91 (by decide) beaconOk BeaconT.id t.bA t.bc t.beacons 100 W H.nb (H.beacons.ext hx) (fun b hb => (H.ib b hb).1) (fun W b hb _ => chartValid2_89 b (H.ib b hb).2.1 (H.ib b hb).2.2 W) (fun W b _ _ => beaconID_91 b W))
  have K5 := Lib.hid (fun W (hx : Ext w W) => areNamed_92 93 94 eg_93 eg_94 (by decide) lineOk LineT.id t.lA t.lc t.lines 50 W H.nl (H.lines.ext hx) (fun l hl => (H.il l hl).1) (fun W l hl hx' => isLine_93 l W ((H.pts l hl).ext (hx.trans hx')) (H.il l hl).2) (fun W l _ _ => lineID_94 l W))
  have hxy := Lib.hid (And.intro H.ix H.iy)
  clear H
  have hdef : chartOk t = (chartDims t && plB (t.x, t.y) && plB (t.x + t.w * t.size - 1, t.y + t.h * t.size - 1) && !(t.cells.any fun c => !cellOk c.lo c.hi c.date) && namedOk beaconOk BeaconT.id 100 t.beacons && namedOk lineOk LineT.id 50 t.lines) := rfl
  rw [hdef]
  clear hdef
  generalize (t.cells.any fun c => !cellOk c.lo c.hi c.date) = q3 at K3 ⊢
  generalize namedOk beaconOk BeaconT.id 100 t.beacons = q4 at K4 ⊢
  generalize namedOk lineOk LineT.id 50 t.lines = q5 at K5 ⊢
  have hdd : chartDims t = (inB t.version 1 1000000 && decide (1 ≤ t.w) && decide (1 ≤ t.h) && decide (t.w ≤ 4000) && decide (t.h ≤ 4000) && decide (t.w * t.h = t.cells.length) && decide (t.cells.length ≤ 4000) && decide (1 ≤ t.size) && decide (t.size ≤ 10000)) := rfl
  generalize hdims : chartDims t = dims at hdd ⊢
  clear hdims
  cases dims with
  | false =>
    obtain ⟨version, x, y, tw, th, size, cA, cc, cells, bA, bc, beacons, lA, lc, lines⟩ := t
    simp only [ChartT.vals, List.cons_append, List.nil_append] at *
    have D := Lib.hid hdd
    clear hdd K1 K3 K4 K5 hxy HL
    have hm : 1 ≤ tw → tw ≤ 4000 → 1 ≤ th → th ≤ 4000 → -16000000 ≤ tw * th ∧ tw * th ≤ 16000000 := fun a b c d => by
      have := mul_bd (x := tw) (y := th) (m := 4000) (n := 4000) (by omega) (by omega) (by omega) (by omega)
      simpa using this
    go_enter Tryz.func41, Tryz.ntmps41
    go_wp2_with (go_at_call 84; refine (isID_84 _ _).mono ?_; rintro e w' ⟨rfl, rfl⟩)
    all_goals first
      | (go_ret; exact ⟨retb (by simp), xt⟩)
      | (exfalso
         have D2 := D.out.symm
         simp only [Bool.and_eq_false_iff, decide_eq_false_iff_not] at D2
         simp_all
         done)
      | (exfalso
         have D2 := D.out.symm
         simp only [Bool.and_eq_false_iff, decide_eq_false_iff_not] at D2
         simp_all
         omega)
  | true =>
    obtain ⟨version, x, y, tw, th, size, cA, cc, cells, bA, bc, beacons, lA, lc, lines⟩ := t
    simp only [ChartT.vals, List.cons_append, List.nil_append] at *
    have D2 := hdd.symm
    simp only [Bool.and_eq_true, decide_eq_true_eq] at D2
    obtain ⟨⟨⟨⟨⟨⟨⟨⟨d1, d2⟩, d3⟩, d4⟩, d5⟩, d6⟩, d7⟩, d8⟩, d9⟩ := D2
    clear hdd HL
    have hm2 := mul_bd (x := tw) (y := size) (m := 4000) (n := 10000) (by omega) (by omega) (by omega) (by omega)
    have hm3 := mul_bd (x := th) (y := size) (m := 4000) (n := 10000) (by omega) (by omega) (by omega) (by omega)
    simp only [Int.reduceMul, Int.reduceNeg] at hm2 hm3
    have d7z : ¬ 4000 < (cells.length : Int) := by omega
    have d6z : ((tw * th : Int) != (cells.length : Int)) = false := by simp [d6]
    cases hp : plB (x, y) with
    | false =>
      rw [hp] at K1
      clear K3 K4 K5 hxy hp
      go_enter Tryz.func41, Tryz.ntmps41
      go_wp2_with (first | (go_at_call 84; refine (isID_84 _ _).mono ?_; rintro e w' ⟨rfl, rfl⟩) | (go_at_call 85; refine (K1.out _).mono ?_; rintro e w' ⟨rfl, hb⟩))
      all_goals (go_ret; exact ⟨retb (by simp), xt⟩)
    | true =>
      rw [hp] at K1
      have hbd : -500000 ≤ x ∧ x ≤ 500000 ∧ -500000 ≤ y ∧ y ≤ 500000 := by
        simp [plB, inB] at hp; omega
      obtain ⟨b1, b2, b3, b4⟩ := hbd
      have K2 := Lib.hid (isPlace_85 (x + tw * size - 1, y + th * size - 1) (by simp only [I64]; omega) (by simp only [I64]; omega))
      simp only at K2
      generalize plB (x + tw * size - 1, y + th * size - 1) = q2 at K2 ⊢
      clear hp hxy
      go_enter Tryz.func41, Tryz.ntmps41
      go_wp2_with (first
        | (go_at_call 84; refine (isID_84 _ _).mono ?_; rintro e w' ⟨rfl, rfl⟩)
        | (go_at_call 85; refine (K1.out _).mono ?_; clear K1; rintro e w' ⟨rfl, hb⟩; obtain ⟨hc, hf, hz⟩ := hb.rules; (try simp only [World.size_alloc] at hz); have hz0 : w.heap.size < w'.heap.size := by omega; (try have hz1 : w.heap.size + 1 < w'.heap.size := by omega); (try have hz2 : w.heap.size + 1 + 1 < w'.heap.size := by omega); (try have hz3 : w.heap.size + 1 + 1 + 1 < w'.heap.size := by omega))
        | (go_at_call 85; refine (K2.out _).mono ?_; rintro e w2 ⟨rfl, hb2⟩; obtain ⟨hc2, hf2, hz2⟩ := hb2.rules; have hz9 : w.heap.size < w2.heap.size := by omega)
        | (go_at_call 86; refine (K3.out _ xt).mono ?_; rintro e w3 ⟨rfl, hb3⟩; obtain ⟨hc3, hf3, hz3⟩ := hb3.rules; have hz10 : w.heap.size < w3.heap.size := by omega)
        | (go_at_call 90; refine (K4.out _ xt).mono ?_; rintro e w4 ⟨rfl, hb4⟩; obtain ⟨hc4, hf4, hz4⟩ := hb4.rules; have hz11 : w.heap.size < w4.heap.size := by omega)
        | (go_at_call 92; refine (K5.out _ xt).mono ?_; rintro e w5 ⟨rfl, hb5⟩))
      all_goals
        (go_ret; exact ⟨retb (by simp_all), xt⟩)

end Go.Proofs.YtcgghcicnanliaaGreatDoor
namespace Go.Proofs.YtcgghcicnanliaaGreatDoor
open Go.RowKit
set_option maxHeartbeats 2000000
set_option maxRecDepth 100000

structure EnvT where
  chart : ChartT
  tide : TideT
  rA : Option Addr
  rc : Nat
  rows : List RowT
  wA : Option Addr
  wc : Nat
  waters : List WaterT
def EnvT.vals (e : EnvT) : List Value := e.chart.vals ++ e.tide.vals ++ [.slice e.rA e.rows.length e.rc, .slice e.wA e.waters.length e.wc]
structure EnvT.Lies (e : EnvT) (W : World) : Prop where
  chart : e.chart.Lies W
  tide : Sl FlowT.vals 9 W e.tide.A e.tide.flows
  rows : Sl encRow 6 W e.rA e.rows
  waters : Sl WaterT.vals 3 W e.wA e.waters
theorem ChartT.Lies.ext {t : ChartT} {W W' : World} (h : t.Lies W) (hx : Ext W W') : t.Lies W' :=
  ⟨h.cells.ext hx, h.beacons.ext hx, h.lines.ext hx, fun l hl => (h.pts l hl).ext hx, h.ix, h.iy, h.ib, h.il, h.nc, h.nb, h.nl⟩
theorem EnvT.Lies.ext {e : EnvT} {W W' : World} (h : e.Lies W) (hx : Ext W W') : e.Lies W' := ⟨h.chart.ext hx, h.tide.ext hx, h.rows.ext hx, h.waters.ext hx⟩
/-- sense.Valid. -/
def envOk (e : EnvT) : Bool := chartOk e.chart && tideOk e.tide && rowsOk e.rows && soundOk e.waters

theorem senseValid_14 (e : EnvT) (w : World) (H : e.Lies w) : Calls Tryz.prog 14 #[.agg e.vals.toArray] w fun r w' => r = .returned (.bool (envOk e)) ∧ Ext w w' := by
  have K1 := Lib.hid (fun W (hx : Ext w W) => chartValid_41 e.chart W (H.chart.ext hx))
  have K2 := Lib.hid (fun W (hx : Ext w W) => tideValid_42 e.tide W (H.tide.ext hx))
  have K3 := Lib.hid (fun W (hx : Ext w W) => tableValid_43 e.rA e.rc e.rows W (H.rows.ext hx))
  have K4 := Lib.hid (fun W (hx : Ext w W) => soundValid_44 e.wA e.wc e.waters W (H.waters.ext hx))
  have hdef : envOk e = (chartOk e.chart && tideOk e.tide && rowsOk e.rows && soundOk e.waters) := rfl
  rw [hdef]
  clear hdef H
  generalize chartOk e.chart = q1 at K1 ⊢
  generalize tideOk e.tide = q2 at K2 ⊢
  generalize rowsOk e.rows = q3 at K3 ⊢
  generalize soundOk e.waters = q4 at K4 ⊢
  obtain ⟨⟨version, x, y, tw, th, size, cA, cc, cells, bA, bc, beacons, lA, lc, lines⟩, ⟨tv, ts, tn, ⟨r1, r2, r3, r4, r5, r6, r7, r8, r9⟩, fA, fc, flows⟩, rA, rc, rows, wA, wc, waters⟩ := e
  simp only [EnvT.vals, ChartT.vals, TideT.vals, FlowT.vals, List.cons_append, List.nil_append] at *
  go_enter Tryz.func14, Tryz.ntmps14
  go_wp2_with (first
    | (go_at_call 41; refine (K1.out _ xt).mono ?_; rintro e w1 ⟨rfl, hb1⟩; obtain ⟨hc1, hf1, hz1⟩ := hb1.rules; (try simp only [World.size_alloc] at hz1); have hzz1 : w.heap.size < w1.heap.size := by omega)
    | (go_at_call 42; refine (K2.out _ xt).mono ?_; rintro e w2 ⟨rfl, hb2⟩; obtain ⟨hc2, hf2, hz2⟩ := hb2.rules; have hzz2 : w.heap.size < w2.heap.size := by omega)
    | (go_at_call 43; refine (K3.out _ xt).mono ?_; rintro e w3 ⟨rfl, hb3⟩; obtain ⟨hc3, hf3, hz3⟩ := hb3.rules; have hzz3 : w.heap.size < w3.heap.size := by omega)
    | (go_at_call 44; refine (K4.out _ xt).mono ?_; rintro e w4 ⟨rfl, hb4⟩))
  all_goals (go_ret; exact ⟨retb (by simp_all), xt⟩)

end Go.Proofs.YtcgghcicnanliaaGreatDoor
namespace Go.Proofs.YtcgghcicnanliaaGreatDoor
open Go.RowKit
set_option maxHeartbeats 2000000
set_option maxRecDepth 100000

/-- chart.column. -/
def colI (from_ size x : Int) : Int := if x < from_ then -1 else (x - from_) / size

theorem column_172 (a s x : Int) (h1 : -1000000 ≤ a) (h2 : a ≤ 1000000) (h3 : -1000000 ≤ x) (h4 : x ≤ 1000000) (h5 : 1 ≤ s) (h6 : s ≤ 10000) (w : World) :
    Calls Tryz.prog 172 #[.int .i64 a, .int .i64 s, .int .i64 x] w fun e w' => e = .returned (.int .i64 (colI a s x)) ∧ w = w' := by
  by_cases h : x < a
  · have e : colI a s x = -1 := by simp [colI, h]
    rw [e]
    clear e
    go_enter Tryz.func172, Tryz.ntmps172
    go_wp2
    go_ret
    exact ⟨rfl, rfl⟩
  · have e : colI a s x = (x - a) / s := by simp [colI, h]
    rw [e]
    clear e
    have hd : 0 ≤ (x - a) / s := Int.ediv_nonneg (by omega) (by omega)
    have hd2 : (x - a) / s ≤ x - a := Int.ediv_le_self _ (by omega)
    have ht : (x - a).tdiv s = (x - a) / s := Int.tdiv_eq_ediv_of_nonneg (by omega)
    go_enter Tryz.func172, Tryz.ntmps172
    go_wp2
    go_ret
    exact ⟨by first | rfl | (simp [ht]; done) | (simp [ht]; omega), rfl⟩

end Go.Proofs.YtcgghcicnanliaaGreatDoor
