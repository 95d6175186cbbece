/- Walks: slices.Compact at []Point. Conditions: none. Walks: (*hull.chain).push. Conditions: none. Walks: slices.Backward at []Point. Conditions: none. -/
import Derived.Test.YtcgghcicnanliaaGreatDoorProg
import Derived.Test.YtcgghcicnanliaaGreatDoorM11
import Derived.Maps.AppendAt
set_option linter.unusedVariables false
set_option linter.unusedSimpArgs false
namespace Go.Proofs.YtcgghcicnanliaaGreatDoor
open Go.RowKit Go.Sort Go.Lib
set_option maxHeartbeats 2000000
set_option maxRecDepth 100000

/-- Neighbours that are equal are taken once. -/
def cpt (l : List Pt) : List Pt := compactUpTo l.toArray l.length
theorem cpt_all {l : List Pt} (h : ∀ j, j < l.length → keeps l.toArray j = true) : cpt l = l := by
  unfold cpt
  rw [compactUpTo_all _ _ h]
  have := range_map_get l.toArray
  simpa using this
theorem CompInv.take {l : List Pt} {dk : Array Pt} {k : Nat} (h : CompInv l.toArray l.length k dk) : dk.toList.take k = cpt l := by
  have hk := h.lt
  have hs := h.size
  have hl := h.len
  simp only [List.size_toArray] at hs
  apply List.ext_getElem?
  intro j
  rw [List.getElem?_take]
  by_cases hj : j < k
  · rw [if_pos hj]
    have := h.low j hj
    rw [cpt, this, Array.getElem?_toList, Array.getElem?_eq_getElem (by omega), getElem!_pos dk j (by omega)]
  · rw [if_neg hj, cpt, List.getElem?_eq_none (by omega)]
/-- 'clear(s)' at places: some cells from o on are written. -/
theorem run_clearPt (w : World) (ty : TypeId) (b o n c : Nat) (hn : 0 < n) (hc : ∀ j, j < n * 2 → (w.cell? ⟨b, o + j, none⟩).isSome = true ∧ w.frozen? ⟨b, o + j, none⟩ = false) :
    ∃ vs, (Builtin.clear_ #[76] ty #[.slice (some ⟨b, o, none⟩) n c]).run Tryz.prog w = .ok (.tuple #[]) (w.setCells b o vs) := by
  have h1 : ∀ v ∈ (Builtin.zeroCells #[.int .i64 0, .int .i64 0] n).toList, v.oneCell' = true := by
    intro v hv
    simp [Builtin.zeroCells] at hv
    obtain ⟨i, _, rfl⟩ := hv
    have : i % 2 = 0 ∨ i % 2 = 1 := by omega
    rcases this with h | h <;> simp [h, Value.oneCell']
  have hlen : (Builtin.zeroCells #[.int .i64 0, .int .i64 0] n).toList.length = n * 2 := by simp [Builtin.zeroCells]
  have hst := run_storeCells_cells (P := Tryz.prog) b o (Builtin.zeroCells #[.int .i64 0, .int .i64 0] n).toList 0 w (by rw [hlen]; intro j hj; simpa using (hc j hj).1) (by rw [hlen]; intro j hj; simpa using (hc j hj).2) h1
  simp only [Nat.add_zero] at hst
  refine ⟨(Builtin.zeroCells #[.int .i64 0, .int .i64 0] n).toList, ?_⟩
  obtain ⟨m, rfl⟩ : ∃ m, n = m + 1 := ⟨n - 1, by omega⟩
  have hz : ∀ w, (zeroValue 43).run Tryz.prog w = .ok (.agg #[.int .i64 0, .int .i64 0]) w := Tryz.zeroValue43
  have hu : ∀ w, (underlying 76).run Tryz.prog w = .ok (.slice 43) w := run_underlying Tryz.underlying76
  have hcl : (Value.agg #[.int .i64 0, .int .i64 0]).cells = #[.int .i64 0, .int .i64 0] := rfl
  simp [Builtin.clear_, hu, hz, hcl, hst]

theorem compact_162 {B g cap : Nat} {l : List Pt} {w : World} (h : Pr B w g cap l) (hl : l.length ≤ 1000000) :
    Calls Tryz.prog 162 #[.slice (some ⟨g, 0, none⟩) l.length cap] w fun e w' => e = .returned (.slice (some ⟨g, 0, none⟩) (cpt l).length cap) ∧ Pr B w' g cap (cpt l) ∧ Below B w w' := by
  have hB := h.blk.1
  have hg := h.blk.2.1
  have hcap := h.blk.2.2.1
  have hcm := h.blk.2.2.2.1
  simp only [maxLen] at hcm
  by_cases h2 : l.length < 2
  · have hall : cpt l = l := cpt_all (fun j hj => by rw [show j = 0 by omega]; rfl)
    have H := Lib.hid h
    clear h
    rw [hall]
    clear hall
    go_enter Tryz.func162, Tryz.ntmps162
    go_wp2
    go_ret
    exact ⟨rfl, H.out, Below.refl _ _⟩
  · have H := Lib.hid h
    clear h
    generalize hN0 : l.length = N at hl hcap h2 ⊢
    have hN := Lib.hid hN0
    clear hN0
    go_enter Tryz.func162, Tryz.ntmps162
    go_wp2
    go_loopg [3] N (fun gg s3 wr => ∃ m : Nat, m + 1 ≤ N ∧ N - m ≤ gg ∧ s3 = .int .i64 ((m : Int) + 1) ∧ Hid (Ext w wr) ∧ Hid (∀ j, j < m + 1 → keeps l.toArray j = true))
    case atStart => exact ⟨0, by omega, by omega, by simp, Ext.refl w, keeps_lt_one _⟩
    case round =>
      obtain ⟨m, hm, hgg, rfl, hx, A⟩ := hrel
      have hrules := hx.out.rules
      by_cases hlt : m + 1 < N
      · obtain ⟨⟨x1, x2⟩, hx1⟩ : ∃ x, l[m + 1]? = some x := ⟨_, List.getElem?_eq_getElem (by rw [hN.out]; omega)⟩
        obtain ⟨⟨y1, y2⟩, hy1⟩ : ∃ x, l[m]? = some x := ⟨_, List.getElem?_eq_getElem (by rw [hN.out]; omega)⟩
        have ⟨⟨a1, a2⟩, _⟩ := H.out.at_ hx1
        have ⟨⟨b1, b2⟩, _⟩ := H.out.at_ hy1
        have X : Hid (l.toArray[m + 1]! = (x1, x2) ∧ l.toArray[m]! = (y1, y2)) := ⟨by rw [getElem!_def]; simp [hx1], by rw [getElem!_def]; simp [hy1]⟩
        clear hx1 hy1
        simp only at a1 a2 b1 b2
        have hgw : g < wr.heap.size := by have := hx.out.len; omega
        have hltz : (m : Int) + 1 < (N : Int) := by omega
        by_cases hdup : x1 = y1 ∧ x2 = y2
        · obtain ⟨rfl, rfl⟩ := hdup
          go_wp2_with fail
          (refine wp_region_ext (by kernel_rfl) (by kernel_rfl) ?_; (repeat (first | go_big_quiet_step (fail) | quiet_step (fail))); refine wpQuiet_nil ?_; rintro _ ⟨xq, rfl⟩; have hx2 := xq.ext; generalize xq.world = w2 at hx2 ⊢)
          go_wp2
          have S0 : Hid (CompInv l.toArray (m + 1 + (0 + 1)) (m + 1) l.toArray) := CompInv.start A.out (keeps_neg (by omega) (by rw [show m + 1 - 1 = m by omega, X.out.1, X.out.2]))
          have W0 : Hid (Pr B w2 g cap l.toArray.toList ∧ RowKit.Below B w w2) := ⟨(H.out.ext hx.out).ext hx2, (Below.mono hx.out (by omega)).trans (Below.mono hx2 (by omega))⟩
          clear a1 a2 b1 b2 hrules hgw hx hx2 A X
          go_loopg [3, 5] N (fun gg s3 s5 wr => ∃ (kk j : Nat) (dk : Array Pt), s3 = .int .i64 kk ∧ s5 = .int .i64 ((j : Int) + 1) ∧ m + 1 + (j + 1) ≤ N ∧ kk < m + 1 + (j + 1) ∧ N - (m + 1 + (j + 1)) ≤ gg ∧ Hid (CompInv l.toArray (m + 1 + (j + 1)) kk dk) ∧ Hid (Pr B wr g cap dk.toList ∧ RowKit.Below B w wr))
          case atStart => exact ⟨m + 1, 0, l.toArray, by go_num, by simp, by omega, by omega, by omega, S0, W0⟩
          case round =>
            obtain ⟨kk, j, dk, rfl, rfl, h1, hkk, hg2, hI, hP⟩ := hrel
            have hds : Hid (dk.size = N) := by have := hI.out.size; simp only [List.size_toArray] at this; exact this.trans hN.out
            have hgw := hP.out.1.blk.2.1
            by_cases hlt2 : m + 1 + (j + 1) < N
            · obtain ⟨⟨u1, u2⟩, hu⟩ : ∃ x, dk.toList[m + 1 + (j + 1)]? = some x := ⟨_, List.getElem?_eq_getElem (by simp [hds.out]; omega)⟩
              obtain ⟨⟨v1, v2⟩, hv⟩ : ∃ x, dk.toList[m + 1 + j]? = some x := ⟨_, List.getElem?_eq_getElem (by simp [hds.out]; omega)⟩
              obtain ⟨⟨o1, o2⟩, ho⟩ : ∃ x, dk.toList[kk]? = some x := ⟨_, List.getElem?_eq_getElem (by simp [hds.out]; omega)⟩
              have ⟨⟨a1, a2⟩, _⟩ := hP.out.1.at_ hu
              have ⟨⟨b1, b2⟩, _⟩ := hP.out.1.at_ hv
              have ⟨⟨c1, c2⟩, f1, f2⟩ := hP.out.1.at_ ho
              have E1 : Hid (l.toArray[m + 1 + (j + 1)]! = (u1, u2)) := by show l.toArray[m + 1 + (j + 1)]! = _; rw [← hI.out.high _ (by omega), getElem!_def]; simp only [Array.getElem?_toList] at hu; rw [hu]
              have E2 : Hid (l.toArray[m + 1 + j]! = (v1, v2)) := by show l.toArray[m + 1 + j]! = _; rw [← hI.out.high _ (by omega), getElem!_def]; simp only [Array.getElem?_toList] at hv; rw [hv]
              clear hu hv ho
              rw [show (m + 1 + (j + 1)) * 2 = (m + 1) * 2 + (j + 1) * 2 by omega] at a1 a2
              rw [show (m + 1 + j) * 2 = (m + 1) * 2 + j * 2 by omega] at b1 b2
              simp only at a1 a2 b1 b2 c1 c2
              by_cases hdup : u1 = v1 ∧ u2 = v2
              · obtain ⟨rfl, rfl⟩ := hdup
                have hI2 : Hid (CompInv l.toArray (m + 1 + (j + 1) + 1) kk dk) := hI.out.skip (keeps_neg (by omega) (by rw [show m + 1 + (j + 1) - 1 = m + 1 + j by omega, E1.out, E2.out]))
                go_wp2_with fail
                (refine wp_region_ext (by kernel_rfl) (by kernel_rfl) ?_; (repeat (first | go_big_quiet_step (fail) | quiet_step (fail))); refine wpQuiet_nil ?_; rintro _ ⟨xq, rfl⟩; have hx2 := xq.ext; generalize xq.world = w2 at hx2 ⊢)
                go_wp2
                go_roundg (N - (m + 1 + (j + 1 + 1)))
                case measure => omega
                case rel => exact ⟨kk, j + 1, dk, by go_num, by go_num, by omega, by omega, by omega, hI2, ⟨hP.out.1.ext hx2, hP.out.2.trans (Below.mono hx2 (by omega))⟩⟩
              · have D : u1 ≠ v1 ∨ (u1 = v1 ∧ u2 ≠ v2) := by omega
                have hI2 : Hid (CompInv l.toArray (m + 1 + (j + 1) + 1) (kk + 1) (dk.setIfInBounds kk (u1, u2))) := by
                  have := hI.out.keep (by rw [List.size_toArray, hN.out]; exact hlt2) (keeps_pos (by
                    rw [show m + 1 + (j + 1) - 1 = m + 1 + j by omega, E1.out, E2.out]
                    intro e
                    exact hdup (by simpa using e)))
                  rwa [E1.out] at this
                clear hdup E1 E2
                rcases D with d | ⟨rfl, d⟩
                all_goals
                  go_wp2_with fail
                  (refine wp_region_ext (by kernel_rfl) (by kernel_rfl) ?_; (repeat (first | go_big_quiet_step (fail) | quiet_step (fail))); refine wpQuiet_nil ?_; rintro _ ⟨xq, rfl⟩; have hx2 := xq.ext; generalize xq.world = w2 at hx2 ⊢)
                  obtain ⟨hc2, hf2, hz2⟩ := hx2.rules
                  have hP2 : Hid (Pr B ((w2.setCell ⟨g, kk * 2, none⟩ (.int .i64 u1)).setCell ⟨g, kk * 2 + 1, none⟩ (.int .i64 u2)) g cap (dk.setIfInBounds kk (u1, u2)).toList ∧ RowKit.Below B w ((w2.setCell ⟨g, kk * 2, none⟩ (.int .i64 u1)).setCell ⟨g, kk * 2 + 1, none⟩ (.int .i64 u2))) :=
                    ⟨by rw [Array.toList_setIfInBounds]; exact (hP.out.1.ext hx2).set (by simp [hds.out]; omega) (u1, u2), ((hP.out.2.trans (Below.mono hx2 (by omega))).setCell (p := ⟨g, kk * 2, none⟩) hB _).setCell (p := ⟨g, kk * 2 + 1, none⟩) hB _⟩
                  go_wp2
                  go_roundg (N - (m + 1 + (j + 1 + 1)))
                  case measure => omega
                  case rel => exact ⟨kk + 1, j + 1, dk.setIfInBounds kk (u1, u2), by go_num, by go_num, by omega, by omega, by omega, hI2, hP2⟩
            · have hcl : ∀ ty, ∃ vs, (Builtin.clear_ #[76] ty #[.slice (some ⟨g, kk * 2, none⟩) (N - kk) (cap - kk)]).run Tryz.prog wr = .ok (.tuple #[]) (wr.setCells g (kk * 2) vs) := fun ty =>
                run_clearPt wr ty g (kk * 2) (N - kk) _ (by omega) (fun i hi => by
                  obtain ⟨x, y⟩ := hP.out.1.cells (j := kk * 2 + i) (by simp [hds.out]; omega)
                  refine ⟨?_, y⟩
                  rw [x, List.getElem?_eq_getElem (by rw [flat_len]; simp [hds.out]; omega)]; rfl)
              obtain ⟨vs, hvs⟩ := hcl 0
              clear hcl
              have hfin : Hid ((cpt l).length = kk ∧ Pr B (wr.setCells g (kk * 2) vs) g cap (cpt l) ∧ RowKit.Below B w (wr.setCells g (kk * 2) vs)) := by
                have hI2 := hI.out
                rw [show m + 1 + (j + 1) = l.length by rw [hN.out]; omega] at hI2
                have hpr := (hP.out.1.take kk)
                rw [CompInv.take hI2] at hpr
                have hlen : (cpt l).length = kk := hI2.len
                exact ⟨hlen, hpr.setCells_out vs _ _ (by omega), below_setCells hB vs _ _ hP.out.2⟩
              go_wp2
              go_ret
              exact ⟨by rw [hfin.out.1]; rfl, hfin.out.2⟩
        · have D : x1 ≠ y1 ∨ (x1 = y1 ∧ x2 ≠ y2) := by omega
          have keep : Hid (keeps l.toArray (m + 1) = true) := keeps_pos (by
            rw [show m + 1 - 1 = m by omega, X.out.1, X.out.2]
            intro e
            exact hdup (by simpa using e))
          clear hdup X
          rcases D with d | ⟨rfl, d⟩
          all_goals
            go_wp2_with fail
            (refine wp_region_ext (by kernel_rfl) (by kernel_rfl) ?_; (repeat (first | go_big_quiet_step (fail) | quiet_step (fail))); refine wpQuiet_nil ?_; rintro _ ⟨xq, rfl⟩; have hx2 := xq.ext; generalize xq.world = w2 at hx2 ⊢)
            go_wp2
            go_roundg (N - (m + 1))
            case measure => omega
            case rel => exact ⟨m + 1, by omega, by omega, by go_num, xt, fun (j : Nat) (hj : j < m + 1 + 1) => by by_cases e : j = m + 1; (subst e; exact keep.out); exact A.out j (by omega)⟩
      · have hall : cpt l = l := cpt_all (fun j hj => A.out j (by rw [hN.out] at hj; omega))
        have hall2 := Lib.hid hall
        clear hall
        have hNm : N = m + 1 := by omega
        go_wp2
        go_ret
        rw [hall2.out]
        exact ⟨by rw [hN.out]; rfl, H.out.ext hx.out, Below.mono hx.out (by omega)⟩

end Go.Proofs.YtcgghcicnanliaaGreatDoor
namespace Go.Proofs.YtcgghcicnanliaaGreatDoor
open Go.RowKit
set_option maxHeartbeats 2000000
set_option maxRecDepth 100000

/-- Below B all lies as it lay, but for block c. -/
def Bb (B c : Nat) (W W' : World) : Prop := (W'.os = W.os ∧ W'.tape = W.tape ∧ W'.output = W.output) ∧ W.heap.size ≤ W'.heap.size ∧ ∀ k, k < B → k ≠ c → W'.heap[k]? = W.heap[k]?
theorem Bb.refl (B c : Nat) (W : World) : Bb B c W W := ⟨⟨rfl, rfl, rfl⟩, Nat.le_refl _, fun _ _ _ => rfl⟩
theorem Bb.trans {B c : Nat} {X Y Z : World} (h : Bb B c X Y) (k : Bb B c Y Z) : Bb B c X Z :=
  ⟨⟨k.1.1.trans h.1.1, k.1.2.1.trans h.1.2.1, k.1.2.2.trans h.1.2.2⟩, Nat.le_trans h.2.1 k.2.1, fun i hi hc => (k.2.2 i hi hc).trans (h.2.2 i hi hc)⟩
theorem Bb.of_below {B c : Nat} {X Y : World} (h : Below B X Y) : Bb B c X Y := ⟨⟨h.os, h.tape, h.output⟩, h.size, fun k hk _ => h.block k hk⟩
theorem Bb.set {B c : Nat} {X Y : World} (h : Bb B c X Y) (v : Value) : Bb B c X (Y.setCell ⟨c, 0, none⟩ v) :=
  ⟨⟨h.1.1, h.1.2.1, h.1.2.2⟩, by simpa using h.2.1, fun k hk hc => by rw [Below.heap_setCell Y _ v k (by simpa using hc)]; exact h.2.2 k hk hc⟩
theorem keepsOthers_ext {X Y : World} (h : Ext X Y) : KeepsOthers X Y := ⟨h.size, fun _ _ ho _ => heap_of h ho⟩

/-- A chain's box: it holds the places l, in a row of its own. -/
def Chain (B : Nat) (W : World) (c : Nat) (l : List Pt) : Prop := Boxed W c 344 (.slice none 0 0) ∧ l = [] ∨ ∃ g cap, Boxed W c 344 (.slice (some ⟨g, 0, none⟩) l.length cap) ∧ Pr B W g cap l
theorem Boxed.ext {X Y : World} {b : Nat} {t : TypeId} {v : Value} (h : Boxed X b t v) (hx : Ext X Y) : Boxed Y b t v := heap_of hx h
theorem Chain.ext {B : Nat} {X Y : World} {c : Nat} {l : List Pt} (h : Chain B X c l) (hx : Ext X Y) : Chain B Y c l := by
  rcases h with ⟨h, e⟩ | ⟨g, cap, h, k⟩
  · exact .inl ⟨Boxed.ext h hx, e⟩
  · exact .inr ⟨g, cap, Boxed.ext h hx, k.ext hx⟩
/-- hull's push: the places (the last one first) without those at which it would not turn left. -/
def popR (x : Pt) : List Pt → List Pt
  | b :: a :: t => if turnP a b x ≤ 0 then popR x (a :: t) else b :: a :: t
  | s => s
def pushL (l : List Pt) (x : Pt) : List Pt := (popR x l.reverse).reverse ++ [x]
theorem pop_short {x : Pt} {s : List Pt} (h : s.length ≤ 1) : popR x s = s := by
  match s, h with
  | [], _ => rfl
  | [_], _ => rfl
theorem take_rev {l : List Pt} {m : Nat} {a b : Pt} (ha : l[m]? = some a) (hb : l[m + 1]? = some b) : (l.take (m + 2)).reverse = b :: a :: (l.take m).reverse ∧ (l.take (m + 1)).reverse = a :: (l.take m).reverse := by
  have h1 : l.take (m + 1) = l.take m ++ [a] := by rw [List.take_add_one, ha]; rfl
  have h2 : l.take (m + 2) = l.take (m + 1) ++ [b] := by rw [List.take_add_one, hb]; rfl
  rw [h2, h1]; simp

theorem tmpPt (w : World) (x : Pt) : ∀ j u, (encP x)[j]? = some u → (w.alloc (.cells #[.int .i64 x.1, .int .i64 x.2] 43)).cell? ((⟨w.heap.size, 0, none⟩ : Addr).add j) = some u := by
  intro j u hu
  have hj : j < 2 := (List.getElem?_eq_some_iff.1 hu).1
  have : j = 0 ∨ j = 1 := by omega
  rcases this with rfl | rfl <;> (simp [encP] at hu; subst hu; simp [Addr.add])

theorem push_end {B c k g' cap' : Nat} {W w2 w1 : World} {u v : Value} {l0 : List Pt} {x : Pt} {tmp : Obj} (hv : Boxed w2 c 344 u) (hrow : w2.ownsRow B 43 2 v k (l0.flatMap encP)) (hk : l0.length = k) (hBW : B ≤ W.heap.size) (hB : B ≤ w2.heap.size)
    (hown : w1.ownsRow B 43 2 (.slice (some ⟨g', 0, none⟩) (k + 1) cap') (k + 1) (l0.flatMap encP ++ encP x)) (hgrow : (w2.alloc tmp).grownBy w1 v.ownBlock) (hx : Ext W w2) :
    Boxed w1 c 344 u ∧ Chain B (w1.setCell ⟨c, 0, none⟩ (.slice (some ⟨g', 0, none⟩) (k + 1) cap')) c (l0 ++ [x]) ∧ Bb B c W (w1.setCell ⟨c, 0, none⟩ (.slice (some ⟨g', 0, none⟩) (k + 1) cap')) ∧ KeepsOthers W (w1.setCell ⟨c, 0, none⟩ (.slice (some ⟨g', 0, none⟩) (k + 1) cap')) := by
  have hv1 : Boxed w1 c 344 u := (hv.alloc tmp).kept hgrow (hv.not_row (by decide) hrow)
  refine ⟨hv1, .inr ⟨g', cap', ?_, ?_⟩, ?_, ?_⟩
  · have := hv1.set (.slice (some ⟨g', 0, none⟩) (k + 1) cap')
    rw [show (l0 ++ [x]).length = k + 1 by simp [hk]]; exact this
  · have := hown.kept (grownBy_setCell' w1 c (.slice (some ⟨g', 0, none⟩) (k + 1) cap')) (.inr (hv1.not_row (by decide) hown).symm)
    unfold Pr
    rw [show (l0 ++ [x]).length = k + 1 by simp [hk], List.flatMap_append]
    simpa using this
  · refine (Bb.of_below ((((Below.mono hx hBW).alloc hB tmp).grown hgrow (by simp; omega) fun j ej => ?_))).set _
    rcases hrow.2 with ⟨rfl, _⟩ | ⟨g, cap, cur, rfl, hb, _, _⟩
    · simp [Value.ownBlock] at ej
    · obtain rfl : g = j := by simpa [Value.ownBlock] using ej
      exact hb
  · refine ((keepsOthers_ext (hx.alloc tmp)).trans (KeepsOthers.of_grownBy hgrow fun j o ej hj => ?_)).trans (KeepsOthers.setCell _ _ _)
    have hrow' := (hrow.alloc tmp).2
    rcases hrow' with ⟨rfl, _⟩ | ⟨g, cap, cur, rfl, _, hgb, _⟩
    · simp [Value.ownBlock] at ej
    · obtain rfl : g = j := by simpa [Value.ownBlock] using ej
      rw [hgb] at hj; cases hj; rfl

theorem push_335 (B c : Nat) (l : List Pt) (p : Pt) (W : World) (hc : c < B) (hB : B ≤ W.heap.size) (hl : l.length ≤ 1000000) (hm : ∀ y ∈ l, Mid y) (hx0 : Mid p) (hS : Chain B W c l) :
    Calls Tryz.prog 335 #[.pointer (some ⟨c, 0, none⟩), .agg #[.int .i64 p.1, .int .i64 p.2]] W fun e W' => e = .returned (.tuple #[]) ∧ Chain B W' c (pushL l p) ∧ Bb B c W W' ∧ KeepsOthers W W' := by
  obtain ⟨i0, hi, hz0, hz1, hz2⟩ := info_parts infoPt
  have hcW : c < W.heap.size := by omega
  rcases hS with ⟨hS, rfl⟩ | ⟨g, cap, hv, hPr⟩
  · have cc := hS.cell
    have cf := hS.frozen
    have hSh := Lib.hid hS
    clear hS
    go_enter Tryz.func335, Tryz.ntmps335
    go_wp2
    refine wp_loop_rounds 1 ?_
    rw [rounds_succ]
    go_wp2
    (refine wp_region_ext (by kernel_rfl) (by kernel_rfl) ?_; (repeat (first | go_big_quiet_step (fail) | quiet_step (fail))); refine wpQuiet_nil ?_; rintro _ ⟨xq, rfl⟩; have hx2 := xq.ext; generalize xq.world = w2 at hx2 ⊢)
    have bx0 : w2.cell? ⟨W.heap.size, 0, none⟩ = some (.int .i64 p.1) := (hx2.rules.1 _ _ (by simp)).trans (by simp)
    have bx1 : w2.cell? ⟨W.heap.size, 1, none⟩ = some (.int .i64 p.2) := (hx2.rules.1 _ _ (by simp)).trans (by simp)
    have hz2' := hx2.len
    simp only [World.size_alloc] at hz2'
    have hX : Hid (Ext W w2) := Ext.trans (Ext.alloc (Ext.refl W) _) hx2
    have cz : c < w2.heap.size := by omega
    have hrow : w2.ownsRow B 43 2 (.slice none 0 0) 0 (([] : List Pt).flatMap encP) := World.ownsRow_nil ..
    have hv2 := Boxed.ext hSh.out hX.out
    go_wp2_with (at_builtin; refine wpList_append_own _ rfl _ _ 344 rfl B 43 i0 _ 2 16 Tryz.underlying344 hi hz0 hz1 hz2 rfl (by omega) _ _ _ rfl (hrow.alloc _) ⟨w2.heap.size, 0, none⟩ 1 1 (encP p) rfl rfl ?qc2 ?qc3 ?qc4 ?qc5 ?qc6 ?_)
    case qc2 => exact tmpPt w2 p
    case qc3 => intro u hu; simp [encP] at hu; rcases hu with rfl | rfl <;> rfl
    case qc4 => simp [maxLen]
    case qc5 => omega
    case qc6 => simp; omega
    intro v' w1 hown hgrow _
    obtain ⟨g', cap', rfl⟩ := ownsRow_succ hown
    obtain ⟨hv1, hF1, hF2, hF3⟩ := push_end (l0 := []) hv2 hrow rfl hB (by omega) hown hgrow hX.out
    have hc1 := hv1.cell
    have hf1 := hv1.frozen
    have HF := Lib.hid (And.intro hF1 (And.intro hF2 hF3))
    clear hF1 hF2 hF3
    go_wp2
    go_end0
    exact ⟨rfl, HF.out⟩
  · have cc := hv.cell
    have cf := hv.frozen
    have hSh := Lib.hid hv
    have hP := Lib.hid hPr
    have hgW := hPr.blk.2.1
    have hcap := hPr.blk.2.2.1
    have hcm := hPr.blk.2.2.2.1
    simp only [maxLen] at hcm
    clear hv hPr
    go_enter Tryz.func335, Tryz.ntmps335
    go_wp2
    go_loopg [4] l.length (fun gg s4 wr => ∃ kk : Nat, kk ≤ l.length ∧ kk ≤ gg ∧ s4 = .slice (some ⟨g, 0, none⟩) kk cap ∧ Hid (Ext (W.alloc (.cells #[.int .i64 p.1, .int .i64 p.2] 43)) wr) ∧ Hid (popR p l.reverse = popR p (l.take kk).reverse))
    case atStart => exact ⟨l.length, by omega, by omega, rfl, Ext.refl _, by show popR p l.reverse = _; rw [List.take_length]⟩
    case round =>
      obtain ⟨kk, hkk, hgg, rfl, hx, hq⟩ := hrel
      have hrules := (Ext.trans (Ext.alloc (Ext.refl W) (.cells #[.int .i64 p.1, .int .i64 p.2] 43)) hx.out).rules
      have hgw : g < wr.heap.size := by omega
      by_cases h1 : kk ≤ 1
      · have hd : decide ((1 : Int) < (kk : Int)) = false := decide_eq_false (by omega)
        go_wp2
        (refine wp_region_ext (by kernel_rfl) (by kernel_rfl) ?_; (repeat (first | go_big_quiet_step (fail) | quiet_step (fail))); refine wpQuiet_nil ?_; rintro _ ⟨xq, rfl⟩; have hx2 := xq.ext; generalize xq.world = w2 at hx2 ⊢)
        have bx0 : w2.cell? ⟨W.heap.size, 0, none⟩ = some (.int .i64 p.1) := ((hx.out.trans hx2).rules.1 _ _ (by simp)).trans (by simp)
        have bx1 : w2.cell? ⟨W.heap.size, 1, none⟩ = some (.int .i64 p.2) := ((hx.out.trans hx2).rules.1 _ _ (by simp)).trans (by simp)
        have hz2' := (hx.out.trans hx2).len
        simp only [World.size_alloc] at hz2'
        have hX : Hid (Ext W w2) := Ext.trans (Ext.alloc (Ext.refl W) _) (hx.out.trans hx2)
        have cz : c < w2.heap.size := by omega
        have hlen : Hid ((l.take (kk)).length = kk) := by show (l.take (kk)).length = kk; simp; omega
        have hrow : w2.ownsRow B 43 2 (.slice (some ⟨g, 0, none⟩) (kk) cap) (kk) ((l.take (kk)).flatMap encP) := by
          have := (hP.out.take (kk)).ext hX.out
          unfold Pr at this
          rwa [hlen.out] at this
        have hv2 := Boxed.ext hSh.out hX.out
        go_wp2_with (at_builtin; refine wpList_append_own _ rfl _ _ 344 rfl B 43 i0 _ 2 16 Tryz.underlying344 hi hz0 hz1 hz2 rfl (by omega) _ _ _ rfl (hrow.alloc _) ⟨w2.heap.size, 0, none⟩ 1 1 (encP p) rfl rfl ?qc2 ?qc3 ?qc4 ?qc5 ?qc6 ?_)
        case qc2 => exact tmpPt w2 p
        case qc3 => intro u hu; simp [encP] at hu; rcases hu with rfl | rfl <;> rfl
        case qc4 => simp [maxLen]; omega
        case qc5 => omega
        case qc6 => simp; omega
        intro v' w1 hown hgrow _
        obtain ⟨g', cap', rfl⟩ := ownsRow_succ hown
        obtain ⟨hv1, hF1, hF2, hF3⟩ := push_end (l0 := l.take (kk)) hv2 hrow hlen.out hB (by omega) hown hgrow hX.out
        have hc1 := hv1.cell
        have hf1 := hv1.frozen
        have HF := Lib.hid (And.intro hF1 (And.intro hF2 hF3))
        clear hF1 hF2 hF3
        go_wp2
        go_end0
        have e : pushL l p = l.take (kk) ++ [p] := by
          rw [pushL, hq.out, pop_short (by simp; omega), List.reverse_reverse]
        exact ⟨rfl, by rw [e]; exact HF.out⟩
      · obtain ⟨m, rfl⟩ : ∃ m, kk = m + 2 := ⟨kk - 2, by omega⟩
        obtain ⟨⟨a1, a2⟩, ha⟩ : ∃ x, l[m]? = some x := ⟨_, List.getElem?_eq_getElem (by omega)⟩
        obtain ⟨⟨b1, b2⟩, hb⟩ : ∃ x, l[m + 1]? = some x := ⟨_, List.getElem?_eq_getElem (by omega)⟩
        have ⟨⟨ca1, ca2⟩, _⟩ := hP.out.at_ ha
        have ⟨⟨cb1, cb2⟩, _⟩ := hP.out.at_ hb
        simp only at ca1 ca2 cb1 cb2
        have bx0 : wr.cell? ⟨W.heap.size, 0, none⟩ = some (.int .i64 p.1) := (hx.out.rules.1 _ _ (by simp)).trans (by simp)
        have bx1 : wr.cell? ⟨W.heap.size, 1, none⟩ = some (.int .i64 p.2) := (hx.out.rules.1 _ _ (by simp)).trans (by simp)
        have bz : W.heap.size < wr.heap.size := by have := hx.out.len; simp only [World.size_alloc] at this; omega
        have G := Lib.hid (turn_250 (a1, a2) (b1, b2) p (hm _ (List.mem_of_getElem? ha)) (hm _ (List.mem_of_getElem? hb)) hx0)
        have R := Lib.hid (take_rev ha hb)
        clear ha hb
        have hR1 : Hid (turnP (a1, a2) (b1, b2) p ≤ 0 → popR p (l.take (m + 2)).reverse = popR p (l.take (m + 1)).reverse) := fun h => by rw [R.out.1, R.out.2, popR, if_pos h]
        have hR2 : Hid (¬ turnP (a1, a2) (b1, b2) p ≤ 0 → popR p (l.take (m + 2)).reverse = (l.take (m + 2)).reverse) := fun h => by rw [R.out.1, popR, if_neg h]
        clear R
        generalize turnP (a1, a2) (b1, b2) p = t at G hR1 hR2
        have hd : decide ((1 : Int) < (m : Int) + 2) = true := decide_eq_true (by omega)
        by_cases ht : t ≤ 0
        · go_wp2
          (refine wp_region_ext (by kernel_rfl) (by kernel_rfl) ?_; (repeat (first | go_big_quiet_step ((go_at_call 250; exact Xt.calls (G.out _))) | quiet_step ((go_at_call 250; exact Xt.calls (G.out _))))); refine wpQuiet_nil ?_; rintro _ ⟨xq, rfl⟩; have hx2 := xq.ext; generalize xq.world = w2 at hx2 ⊢)
          go_wp2
          go_roundg (m + 1)
          case measure => omega
          case rel => exact ⟨m + 1, by omega, by omega, by go_num, hx.out.trans hx2, by show popR p l.reverse = _; rw [hq.out]; exact hR1.out ht⟩
        · go_wp2
          (refine wp_region_ext (by kernel_rfl) (by kernel_rfl) ?_; (repeat (first | go_big_quiet_step ((go_at_call 250; exact Xt.calls (G.out _))) | quiet_step ((go_at_call 250; exact Xt.calls (G.out _))))); refine wpQuiet_nil ?_; rintro _ ⟨xq, rfl⟩; have hx2 := xq.ext; generalize xq.world = w2 at hx2 ⊢)
          have bx0 : w2.cell? ⟨W.heap.size, 0, none⟩ = some (.int .i64 p.1) := ((hx.out.trans hx2).rules.1 _ _ (by simp)).trans (by simp)
          have bx1 : w2.cell? ⟨W.heap.size, 1, none⟩ = some (.int .i64 p.2) := ((hx.out.trans hx2).rules.1 _ _ (by simp)).trans (by simp)
          have hz2' := (hx.out.trans hx2).len
          simp only [World.size_alloc] at hz2'
          have hX : Hid (Ext W w2) := Ext.trans (Ext.alloc (Ext.refl W) _) (hx.out.trans hx2)
          have cz : c < w2.heap.size := by omega
          have hlen : Hid ((l.take (m + 2)).length = m + 2) := by show (l.take (m + 2)).length = m + 2; simp; omega
          have hrow : w2.ownsRow B 43 2 (.slice (some ⟨g, 0, none⟩) (m + 2) cap) (m + 2) ((l.take (m + 2)).flatMap encP) := by
            have := (hP.out.take (m + 2)).ext hX.out
            unfold Pr at this
            rwa [hlen.out] at this
          have hv2 := Boxed.ext hSh.out hX.out
          go_wp2_with (at_builtin; refine wpList_append_own _ rfl _ _ 344 rfl B 43 i0 _ 2 16 Tryz.underlying344 hi hz0 hz1 hz2 rfl (by omega) _ _ _ rfl (hrow.alloc _) ⟨w2.heap.size, 0, none⟩ 1 1 (encP p) rfl rfl ?qc2 ?qc3 ?qc4 ?qc5 ?qc6 ?_)
          case qc2 => exact tmpPt w2 p
          case qc3 => intro u hu; simp [encP] at hu; rcases hu with rfl | rfl <;> rfl
          case qc4 => simp [maxLen]; omega
          case qc5 => omega
          case qc6 => simp; omega
          intro v' w1 hown hgrow _
          obtain ⟨g', cap', rfl⟩ := ownsRow_succ hown
          obtain ⟨hv1, hF1, hF2, hF3⟩ := push_end (l0 := l.take (m + 2)) hv2 hrow hlen.out hB (by omega) hown hgrow hX.out
          have hc1 := hv1.cell
          have hf1 := hv1.frozen
          have HF := Lib.hid (And.intro hF1 (And.intro hF2 hF3))
          clear hF1 hF2 hF3
          go_wp2
          go_end0
          have e : pushL l p = l.take (m + 2) ++ [p] := by
            rw [pushL, hq.out, hR2.out ht, List.reverse_reverse]
          exact ⟨rfl, by rw [e]; exact HF.out⟩

end Go.Proofs.YtcgghcicnanliaaGreatDoor
namespace Go.Proofs.YtcgghcicnanliaaGreatDoor
open Go.RowKit
set_option maxHeartbeats 2000000
set_option maxRecDepth 100000
attribute [local go_sem] Oper.semAt_some

theorem Bb.b {B c : Nat} {w : World} (hn : B ≤ w.heap.size) (W : World) (l : Nat) (o o' : Obj) (hl : w.heap.size ≤ l) (h : W.heap[l]? = some o) (_ : o.isCells = false) (_ : o.isWalk = false) : Bb B c W (W.putObj l o') :=
  ⟨⟨rfl, rfl, rfl⟩, by simp, fun k hk _ => World.putObj_heap_other (by omega)⟩
theorem Bb.froz {B c : Nat} {X Y : World} (h : Bb B c X Y) {k o : Nat} (hk : k < B) (hc : k ≠ c) : Y.frozen? ⟨k, o, none⟩ = X.frozen? ⟨k, o, none⟩ := World.frozen?_of_block (w := X) (h.2.2 k hk hc)
theorem Bb.cell {B c : Nat} {X Y : World} (h : Bb B c X Y) {k o : Nat} (hk : k < B) (hc : k ≠ c) : Y.cell? ⟨k, o, none⟩ = X.cell? ⟨k, o, none⟩ := World.cell?_of_block (w := X) (h.2.2 k hk hc)

/-- Round number j of slices.Backward. -/
def bwG (l : List Pt) (j : Nat) : Int × Pt := (((l.length - 1 - j : Nat) : Int), l[l.length - 1 - j]?.getD (0, 0))
def bwEnc (x : Int × Pt) : Array Value := #[.int .i64 x.1, .agg #[.int .i64 x.2.1, .int .i64 x.2.2]]

theorem backward_336 (A : Option Addr) (n c : Nat) (w : World) :
    Calls Tryz.prog 336 #[.slice A n c] w fun e w' => e = .returned (.func (.func 387) #[] #[.pointer (some ⟨w.heap.size, 0, none⟩)]) ∧ w' = w.alloc (.cells #[.slice A n c] 76) := by
  go_enter Tryz.func336, Tryz.ntmps336
  go_wp2
  go_ret
  exact ⟨rfl, rfl⟩

theorem backward1_387 {α : Type} (enc : α → Array Value) (f : Nat → α) (n l0 Bs n₀ cc g cap : Nat) (l : List Pt) (hf : ∀ j, enc (f j) = bwEnc (bwG l j)) (hreach : l.length ≤ 1000000) (hn : 1 ≤ n) (hg : g < n₀) (hgc : g ≠ cc) (hBs : Bs < n₀) (hBc : Bs ≠ cc) (J Jx : List α → World → Prop)
    (hY : ∀ pre x W, J pre W → pre.length < l.length → YieldAt Fence.wide (n - 1) Tryz.prog l0 (enc x) W fun e W' =>
      (e = .returned (.bool true) ∧ J (pre ++ [x]) W' ∧ Bb n₀ cc W W') ∨ (e = .returned (.bool false) ∧ Jx (pre ++ [x]) W'))
    (W : World) (hb : W.cell? ⟨Bs, 0, none⟩ = some (.slice (some ⟨g, 0, none⟩) l.length cap)) (hc : Sl encP 2 W (some ⟨g, 0, none⟩) l) (h0 : J [] W) :
    CallsIn Fence.wide n Tryz.prog 387 #[.func (.yield l0) #[] #[], .pointer (some ⟨Bs, 0, none⟩)] W fun e W' => (∃ v, e = .returned v) ∧
      ((∃ ys, ys = upto f l.length ∧ J ys W') ∨ (∃ pre, (∃ k, k ≤ l.length ∧ pre = upto f k) ∧ Jx pre W')) := by
  refine callsIn_of_wp Tryz.func387 rfl trivial ?_ rfl
  simp only [Tryz.ntmps387, List.size_toArray, List.length_cons, List.length_nil, Nat.reduceAdd, Nat.reduceSub, Array.replicate_succ, Array.replicate_zero, List.push_toArray, List.append_toArray, List.nil_append, List.cons_append]
  gi_wp2
  gi_loopw [3] (fun s3 wr => ∃ k : Nat, k ≤ l.length ∧ s3 = .int .i64 ((l.length : Int) - 1 - k) ∧ J (upto f k) wr ∧ Bb n₀ cc W wr)
    (fun s3 _ => ((intOf s3) + 1).toNat)
  case atStart => exact ⟨0, Nat.zero_le _, by simp, h0, Bb.refl _ _ _⟩
  case round =>
    obtain ⟨k, hk, rfl, hJs, hnx⟩ := hrel
    by_cases hlt : k < l.length
    · obtain ⟨i, hi⟩ : ∃ i, l.length = i + 1 + k := ⟨l.length - 1 - k, by omega⟩
      obtain ⟨y, hy⟩ : ∃ y, l[i]? = some y := ⟨_, List.getElem?_eq_getElem (by omega)⟩
      have hG : bwG l k = ((i : Int), y) := by
        have e : l.length - 1 - k = i := by omega
        simp [bwG, e, hy]
      obtain ⟨fn, tmps, assign, body, hyy, hR⟩ := hY _ (f k) _ hJs (by rw [upto_length]; exact hlt)
      obtain ⟨t1, t2⟩ := y
      rw [hf, hG] at hyy
      simp only [bwEnc] at hyy
      have c0 : wr.cell? ⟨g, i * 2, none⟩ = some (.int .i64 t1) := by have := hc.at_ hy (i := 0) rfl; rw [hnx.cell hg hgc]; simpa using this
      have c1 : wr.cell? ⟨g, i * 2 + 1, none⟩ = some (.int .i64 t2) := by have := hc.at_ hy (i := 1) rfl; rw [hnx.cell hg hgc]; simpa using this
      have cb : wr.cell? ⟨Bs, 0, none⟩ = some (.slice (some ⟨g, 0, none⟩) l.length cap) := (hnx.cell hBs hBc).trans hb
      have hiz : (l.length : Int) - 1 - k = (i : Int) := by omega
      have hil : (i : Int) < (l.length : Int) := by omega
      have hN : Hid (l.length = i + 1 + k) := hi
      clear hi
      rw [hiz]
      gi_wp2
      refine hR.mono ?_
      rintro e W3 (⟨rfl, hJ3, hk3⟩ | ⟨rfl, hJx3⟩)
      · gi_wp2
        go_roundw
        case rel => exact ⟨k + 1, by omega, by congr 1; have := hN.out; omega, by rw [upto_succ]; exact hJ3, hnx.trans hk3⟩
        case measure => simp [intOf]
      · gi_wp2
        refine bodyPost_ret (results_none rfl _ _ _) rfl ?_
        exact ⟨⟨_, rfl⟩, .inr ⟨_, ⟨k + 1, by omega, (upto_succ _ _).symm⟩, hJx3⟩⟩
    · obtain rfl : k = l.length := by omega
      gi_wp2
      go_end0
      exact ⟨⟨_, rfl⟩, .inl ⟨_, rfl, hJs⟩⟩

theorem backward_stops {α : Type} (enc : α → Array Value) (f : Nat → α) (n Bs cc g cap : Nat) (l : List Pt) (hf : ∀ j, enc (f j) = bwEnc (bwG l j)) (hreach : l.length ≤ 1000000) (hn : 1 ≤ n) (w : World) (hg : g < w.heap.size) (hgc : g ≠ cc) (hBs : Bs < w.heap.size) (hBc : Bs ≠ cc)
    (hb : w.cell? ⟨Bs, 0, none⟩ = some (.slice (some ⟨g, 0, none⟩) l.length cap)) (hc : Sl encP 2 w (some ⟨g, 0, none⟩) l) :
    SeqStopsK Fence.wide n Tryz.prog 387 #[.pointer (some ⟨Bs, 0, none⟩)] enc (Bb w.heap.size cc) (fun ys => ys = upto f l.length) (fun pre => ∃ k, k ≤ l.length ∧ pre = upto f k) l.length w := fun l0 J Jx W hW _ _ hY h0 =>
  backward1_387 enc f n l0 Bs w.heap.size cc g cap l hf hreach hn hg hgc hBs hBc J Jx hY W ((hW.cell (p := ⟨Bs, 0, none⟩) hBs).trans hb) (hc.ext hW) h0

end Go.Proofs.YtcgghcicnanliaaGreatDoor
