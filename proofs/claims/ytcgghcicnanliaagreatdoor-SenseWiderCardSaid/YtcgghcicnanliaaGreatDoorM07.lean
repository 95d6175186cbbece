/- Walks of small functions of chart, tide, span, cmp, hull. Conditions: none. Walks: cmp.Or, the comparison of points and flows. Conditions: none. Walks: hull.isPlace, hull.turn, the closures of hull.Hull and hull.around. Conditions: none. DERIVED: THE SHELF's CONTRACTS AT THIS DUMP, IN PLAIN WORDS (tools/lay-plain.mjs out of 'TryzShelf.lean', which tools/lay-shelf.mjs wrote): THE SAME DECLARATIONS UNDER THE SAME NAMES: 'import', 'namespace', 'open', 'def', 'theorem' AND NOTHING ELSE: no command of the shelf's: FOR A HAND-IN. Each laying: the table of numbers ('.._ren') and one theorem, a field a fact of the dump's own or the kernel's comparison; each contract: ONE APPLICATION. Composite literals: arrays of pairs, built and stored at once. No statement about the program. Conditions: none. An array of pairs, built part by part, said in full. No statement about the program. Conditions: none. What a world that grew still has. Conditions: none. Walks: slices.Compare of two words. Conditions: none. -/
import Derived.Test.YtcgghcicnanliaaGreatDoorProg
import Derived.Test.YtcgghcicnanliaaGreatDoorM06
import Derived.Shelf.SlGeneric
import Derived.Shelf.SlSortCmp.NoneTotal
import Derived.Ground.SlsfProg
import Derived.Ground.SlgnProg
import Derived.Shelf.SlicesE.Clone
import Derived.Laws.Tables
import Derived.Great.FillDense
import Derived.Deep.Cut
set_option linter.unusedVariables false
set_option linter.unusedSimpArgs false
namespace Go.Proofs.YtcgghcicnanliaaGreatDoor
open Go.RowKit
set_option maxHeartbeats 400000

theorem isID_84 (n : Int) (w : World) :
    Calls Tryz.prog 84 #[.int .i64 n] w fun e w' => e = .returned (.bool (inB n 1 1000000)) ∧ w = w' := by
  go_enter Tryz.func84, Tryz.ntmps84
  go_wp2
  all_goals (go_ret; exact ⟨retb (by rw [Bool.eq_iff_iff]; (try simp [inB]) <;> omega), rfl⟩)

theorem isTime_95 (n : Int) (w : World) :
    Calls Tryz.prog 95 #[.int .i64 n] w fun e w' => e = .returned (.bool (inB n 0 1000000000)) ∧ w = w' := by
  go_enter Tryz.func95, Tryz.ntmps95
  go_wp2
  all_goals (go_ret; exact ⟨retb (by rw [Bool.eq_iff_iff]; (try simp [inB]) <;> omega), rfl⟩)

def cellOk (lo hi date : Int) : Bool := decide (-100000 ≤ lo) && decide (lo ≤ hi) && decide (hi ≤ 100000) && inB date 0 1000000000

theorem isCell_88 (lo hi date : Int) (void : Bool) (w : World) :
    Calls Tryz.prog 88 #[.agg #[.int .i64 lo, .int .i64 hi, .int .i64 date, .bool void]] w fun e w' => e = .returned (.bool (cellOk lo hi date)) ∧ Ext w w' := by
  go_enter Tryz.func88, Tryz.ntmps88
  go_wp2
  all_goals (go_ret; exact ⟨retb (by rw [Bool.eq_iff_iff]; (try simp [inB, cellOk]) <;> omega), xt⟩)

def spanOk (lo hi : Int) : Bool := decide (lo ≤ hi) && decide (-1000000000000 ≤ lo) && decide (hi ≤ 1000000000000)

theorem spanValid_258 (lo hi : Int) (w : World) :
    Calls Tryz.prog 258 #[.agg #[.int .i64 lo, .int .i64 hi]] w fun e w' => e = .returned (.bool (spanOk lo hi)) ∧ Ext w w' := by
  go_enter Tryz.func258, Tryz.ntmps258
  go_wp2
  all_goals (go_ret; exact ⟨retb (by rw [Bool.eq_iff_iff]; (try simp [spanOk]) <;> omega), xt⟩)

def within (lo hi most : Int) : Bool := spanOk lo hi && decide (-most ≤ lo) && decide (hi ≤ most)

theorem tideWithin_163 (lo hi most : Int) (hm : 0 ≤ most) (hm' : most ≤ 1000000) (w : World) :
    Calls Tryz.prog 163 #[.agg #[.int .i64 lo, .int .i64 hi], .int .i64 most] w fun e w' => e = .returned (.bool (within lo hi most)) ∧ Ext w w' := by
  go_enter Tryz.func163, Tryz.ntmps163
  go_wp2_with (go_at_call 258; refine (spanValid_258 _ _ _).mono ?_; rintro e w' ⟨rfl, hb⟩; obtain ⟨hc, hf, hz⟩ := hb.rules; (try simp only [World.size_alloc] at hz); have hz0 : w.heap.size < w'.heap.size := by omega; (try have hz1 : w.heap.size + 1 < w'.heap.size := by omega); (try have hz2 : w.heap.size + 1 + 1 < w'.heap.size := by omega); (try have hz3 : w.heap.size + 1 + 1 + 1 < w'.heap.size := by omega))
  all_goals (go_ret; exact ⟨retb (by simp_all [within] <;> omega), xt⟩)

structure FlowT where
  x : Int
  y : Int
  slot : Int
  ulo : Int
  uhi : Int
  vlo : Int
  vhi : Int
  hlo : Int
  hhi : Int
deriving DecidableEq, Inhabited

def FlowT.vals (f : FlowT) : List Value := [.int .i64 f.x, .int .i64 f.y, .int .i64 f.slot, .int .i64 f.ulo, .int .i64 f.uhi, .int .i64 f.vlo, .int .i64 f.vhi, .int .i64 f.hlo, .int .i64 f.hhi]

def FlowT.ok (f : FlowT) : Bool := within f.ulo f.uhi 5000 && within f.vlo f.vhi 5000 && within f.hlo f.hhi 2000

theorem isBounds_96 (f : FlowT) (w : World) :
    Calls Tryz.prog 96 #[.agg f.vals.toArray] w fun e w' => e = .returned (.bool f.ok) ∧ Ext w w' := by
  obtain ⟨x, y, s, a, b, c, d, g, h⟩ := f
  simp only [FlowT.vals, FlowT.ok]
  go_enter Tryz.func96, Tryz.ntmps96
  go_wp2_with (go_at_call 163; refine (tideWithin_163 _ _ _ (by omega) (by omega) _).mono ?_; rintro e w' ⟨rfl, hb⟩; obtain ⟨hc, hf, hz⟩ := hb.rules; (try simp only [World.size_alloc] at hz); have hz0 : w.heap.size < w'.heap.size := by omega; (try have hz1 : w.heap.size + 1 < w'.heap.size := by omega); (try have hz2 : w.heap.size + 1 + 1 < w'.heap.size := by omega); (try have hz3 : w.heap.size + 1 + 1 + 1 < w'.heap.size := by omega))
  all_goals (go_ret; exact ⟨retb (by simp_all), xt⟩)

/-- cmp.Compare. -/
def cmpI (a b : Int) : Int := if a < b then -1 else if b < a then 1 else 0

theorem isNaN_259 (a : Int) (w : World) :
    Calls Tryz.prog 259 #[.int .i64 a] w fun e w' => e = .returned (.bool false) ∧ w = w' := by
  go_enter Tryz.func259, Tryz.ntmps259
  go_wp2
  all_goals (go_ret; exact ⟨retb (by simp), rfl⟩)

theorem cmpCompare_165 (a b : Int) (w : World) :
    Calls Tryz.prog 165 #[.int .i64 a, .int .i64 b] w fun e w' => e = .returned (.int .i64 (cmpI a b)) ∧ w = w' := by
  go_enter Tryz.func165, Tryz.ntmps165
  go_wp2_with (go_at_call 259; refine (isNaN_259 _ _).mono ?_; rintro e w' ⟨rfl, rfl⟩)
  all_goals (go_ret; exact ⟨reti (by unfold cmpI; (repeat' split) <;> omega), rfl⟩)

end Go.Proofs.YtcgghcicnanliaaGreatDoor
namespace Go.Proofs.YtcgghcicnanliaaGreatDoor
open Go.RowKit
set_option maxHeartbeats 400000
set_option maxRecDepth 100000

def encI (x : Int) : List Value := [.int .i64 x]

/-- cmp.Or. -/
def orI : List Int → Int
  | [] => 0
  | x :: l => if x = 0 then orI l else x

theorem orI_drop (l : List Int) (k : Nat) (h : ∀ j, j < k → l[j]?.getD 0 = 0) : orI l = orI (l.drop k) := by
  induction k generalizing l with
  | zero => simp
  | succ k ih =>
    cases l with
    | nil => simp
    | cons x l =>
      have h0 := h 0 (by omega)
      simp at h0
      simp only [orI, h0, if_true, List.drop_succ_cons]
      exact ih l (fun j hj => by have := h (j + 1) (by omega); simpa using this)
theorem orI_at (l : List Int) (k : Nat) (h : ∀ j, j < k → l[j]?.getD 0 = 0) (hk : k < l.length) (hx : l[k] ≠ 0) : orI l = l[k] := by
  rw [orI_drop l k h, List.drop_eq_getElem_cons hk]; simp [orI, hx]
theorem orI_end (l : List Int) (k : Nat) (h : ∀ j, j < k → l[j]?.getD 0 = 0) (hk : l.length ≤ k) : orI l = 0 := by
  rw [orI_drop l k h, List.drop_of_length_le hk]; rfl

theorem cmpOr_164 (A : Option Addr) (c : Nat) (l : List Int) (w : World) (hl : l.length ≤ 1000000) (h : Sl encI 1 w A l) :
    Calls Tryz.prog 164 #[.slice A l.length c] w fun e w' => e = .returned (.int .i64 (orI l)) ∧ w = w' := by
  go_enter Tryz.func164, Tryz.ntmps164
  go_wp2
  go_loop [5, 8] (fun _ i => ∃ k : Nat, k ≤ l.length ∧ i = .int .i64 k ∧ Hid (∀ j, j < k → l[j]?.getD 0 = 0)) (fun _ i => l.length - (intOf i).toNat)
  case atStart => exact ⟨0, Nat.zero_le _, rfl, fun j hj => absurd hj (Nat.not_lt_zero _)⟩
  case round =>
    obtain ⟨k, hk, rfl, H⟩ := hrel
    by_cases hlt : k < l.length
    · obtain ⟨b, off, rfl⟩ := h.addr (by omega)
      have hc : w.cell? ⟨b, off + k, none⟩ = some (.int .i64 l[k]) := by have := h.at_ (j := k) (i := 0) (x := l[k]) (by simp) rfl; simpa using this
      by_cases hx : l[k] = 0
      · have hx' : (l[k] != 0) = false := by simp [hx]
        have H2 : Hid (l[k]?.getD 0 = 0) := by show _ = _; simp [hlt, hx]
        clear hx
        generalize l[k] = x at hc hx'
        go_wp2
        go_round
        case rel => exact ⟨k + 1, by omega, by go_num, fun j hj => by by_cases e : j = k; (subst e; exact H2); exact H j (by omega)⟩
        case measure => simp [intOf]; omega
      · have hx' : (l[k] != 0) = true := by simp [hx]
        go_wp2
        go_ret
        exact ⟨reti (orI_at l k H hlt hx).symm, rfl⟩
    · go_wp2
      go_ret
      exact ⟨reti (orI_end l k H (by omega)).symm, rfl⟩

abbrev Pt := Int × Int
def encP (p : Pt) : List Value := [.int .i64 p.1, .int .i64 p.2]
/-- hull.compare. -/
def cmpP (p q : Pt) : Int := orI [cmpI p.1 q.1, cmpI p.2 q.2]

theorem hullCompare_248 (p q : Pt) (w : World) :
    Calls Tryz.prog 248 #[.agg #[.int .i64 p.1, .int .i64 p.2], .agg #[.int .i64 q.1, .int .i64 q.2]] w fun e w' => e = .returned (.int .i64 (cmpP p q)) ∧ Ext w w' ∧ w.drawn ≤ w'.drawn := by
  have hcon : ∀ A c W, Sl encI 1 W A [cmpI p.1 q.1, cmpI p.2 q.2] → Calls Tryz.prog 164 #[.slice A (2 : Nat) c] W fun e w' => e = .returned (.int .i64 (cmpP p q)) ∧ W = w' := fun A c W h => cmpOr_164 A c _ W (by simp) h
  generalize cmpP p q = r at hcon ⊢
  have Hc := Lib.hid hcon
  clear hcon
  go_enter Tryz.func248, Tryz.ntmps248
  go_wp2
  refine wp_region_tail 10 (by kernel_rfl) (by kernel_rfl) (fun w' hb hdr => ?_)
  obtain ⟨hc, hf, hz⟩ := hb.rules; (try simp only [World.size_alloc] at hz); have hz0 : w.heap.size < w'.heap.size := by omega; (try have hz1 : w.heap.size + 1 < w'.heap.size := by omega); (try have hz2 : w.heap.size + 1 + 1 < w'.heap.size := by omega); (try have hz3 : w.heap.size + 1 + 1 + 1 < w'.heap.size := by omega)
  simp only [List.take_succ_cons, List.take_zero, List.drop_succ_cons, List.drop_zero]
  iterate 4 still_step
  still_call (sameR (cmpCompare_165 _ _ _))
  iterate 4 still_step
  still_call (sameR (cmpCompare_165 _ _ _))
  refine wpStill_nil ?_
  go_wp2_with (go_at_call 164; refine (Hc.out _ _ _ (Sl.new (enc := encI) (fun _ => rfl) _ [_, _] _)).mono ?_; rintro e w2 ⟨rfl, rfl⟩)
  go_ret
  exact ⟨rfl, xt, hdr⟩

/-- tide.compare. -/
def cmpF (f g : FlowT) : Int := orI [cmpI f.slot g.slot, cmpI f.y g.y, cmpI f.x g.x]

theorem tideCompare_97 (f g : FlowT) (w : World) :
    Calls Tryz.prog 97 #[.agg f.vals.toArray, .agg g.vals.toArray] w fun e w' => e = .returned (.int .i64 (cmpF f g)) ∧ Ext w w' := by
  obtain ⟨f1, f2, f3, f4, f5, f6, f7, f8, f9⟩ := f
  obtain ⟨g1, g2, g3, g4, g5, g6, g7, g8, g9⟩ := g
  simp only [FlowT.vals, cmpF]
  have hcon : ∀ A c W, Sl encI 1 W A [cmpI f3 g3, cmpI f2 g2, cmpI f1 g1] → Calls Tryz.prog 164 #[.slice A (3 : Nat) c] W fun e w' => e = .returned (.int .i64 (orI [cmpI f3 g3, cmpI f2 g2, cmpI f1 g1])) ∧ W = w' := fun A c W h => cmpOr_164 A c _ W (by simp) h
  generalize orI [cmpI f3 g3, cmpI f2 g2, cmpI f1 g1] = r at hcon ⊢
  have Hc := Lib.hid hcon
  clear hcon
  go_enter Tryz.func97, Tryz.ntmps97
  go_wp2
  refine wp_region_tail 15 (by kernel_rfl) (by kernel_rfl) (fun w' hb hdr => ?_)
  obtain ⟨hc, hf, hz⟩ := hb.rules; (try simp only [World.size_alloc] at hz); have hz0 : w.heap.size < w'.heap.size := by omega; (try have hz1 : w.heap.size + 1 < w'.heap.size := by omega); (try have hz2 : w.heap.size + 1 + 1 < w'.heap.size := by omega); (try have hz3 : w.heap.size + 1 + 1 + 1 < w'.heap.size := by omega)
  simp only [List.take_succ_cons, List.take_zero, List.drop_succ_cons, List.drop_zero]
  iterate 4 still_step
  still_call (sameR (cmpCompare_165 _ _ _))
  iterate 4 still_step
  still_call (sameR (cmpCompare_165 _ _ _))
  iterate 4 still_step
  still_call (sameR (cmpCompare_165 _ _ _))
  refine wpStill_nil ?_
  go_wp2_with (go_at_call 164; refine (Hc.out _ _ _ (Sl.new (enc := encI) (fun _ => rfl) _ [_, _, _] _)).mono ?_; rintro e w2 ⟨rfl, rfl⟩)
  go_ret
  exact ⟨rfl, xt⟩

end Go.Proofs.YtcgghcicnanliaaGreatDoor
namespace Go.Proofs.YtcgghcicnanliaaGreatDoor
open Go.RowKit
set_option maxHeartbeats 400000
set_option maxRecDepth 100000

/-- A number of 64 bits. -/
def I64 (x : Int) : Prop := -9223372036854775808 ≤ x ∧ x ≤ 9223372036854775807

def max4 (a b c d : Int) : Int := max (max (max a b) c) d
theorem ifgt (a b : Int) : (if b > a then b else a) = max a b := by split <;> omega
@[go_sem] theorem run_max4 {P : Program} {w : World} (ts : Array TypeId) (t : TypeId) (k k1 k2 k3 : IntKind) (x y z u : Int) :
    (Builtin.max_ ts t #[.int k x, .int k1 y, .int k2 z, .int k3 u]).run P w = .ok (.int k (max4 x y z u)) w := by
  simp [Builtin.max_, Builtin.max2, max4, ifgt]

/-- hull.isPlace. -/
def plB (p : Pt) : Bool := inB p.1 (-500000) 500000 && inB p.2 (-500000) 500000

theorem plB_iff {p : Pt} (h1 : I64 p.1) (h2 : I64 p.2) : plB p = true ↔ max4 p.1 (wrap64 (-p.1)) p.2 (wrap64 (-p.2)) ≤ 500000 ∧ -500000 ≤ p.1 ∧ -500000 ≤ p.2 := by
  obtain ⟨a, b⟩ := p
  simp only at h1 h2 ⊢
  obtain ⟨h1, h1'⟩ := h1
  obtain ⟨h2, h2'⟩ := h2
  have ha : (a = -9223372036854775808 ∧ wrap64 (-a) = a) ∨ (¬ a = -9223372036854775808 ∧ wrap64 (-a) = -a) := by unfold wrap64; omega
  have hb : (b = -9223372036854775808 ∧ wrap64 (-b) = b) ∨ (¬ b = -9223372036854775808 ∧ wrap64 (-b) = -b) := by unfold wrap64; omega
  generalize wrap64 (-a) = u at *
  generalize wrap64 (-b) = v at *
  simp only [plB, inB, max4, Bool.and_eq_true, decide_eq_true_eq]
  omega

theorem isPlace_247 (p : Pt) (h1 : I64 p.1) (h2 : I64 p.2) (w : World) :
    Calls Tryz.prog 247 #[.agg #[.int .i64 p.1, .int .i64 p.2]] w fun e w' => e = .returned (.bool (plB p)) ∧ Ext w w' ∧ w.drawn ≤ w'.drawn := by
  have hp := Lib.hid (plB_iff h1 h2)
  go_enter Tryz.func247, Tryz.ntmps247
  go_wp2
  all_goals (go_ret; exact ⟨retb (by rw [Bool.eq_iff_iff, hp.out]; (try simp) <;> omega), xt, Nat.le_refl _⟩)

theorem hullHull1_255 (p : Pt) (h1 : I64 p.1) (h2 : I64 p.2) (w : World) :
    Calls Tryz.prog 255 #[.agg #[.int .i64 p.1, .int .i64 p.2]] w fun e w' => e = .returned (.bool (!plB p)) ∧ Ext w w' := by
  go_enter Tryz.func255, Tryz.ntmps255
  go_wp2_with (go_at_call 247; refine (isPlace_247 _ h1 h2 _).mono ?_; rintro e w' ⟨rfl, hb, _⟩)
  all_goals (go_ret; exact ⟨rfl, xt⟩)

theorem around1_334 (p q : Pt) (w : World) :
    Calls Tryz.prog 334 #[.agg #[.int .i64 p.1, .int .i64 p.2], .agg #[.int .i64 q.1, .int .i64 q.2]] w fun e w' => e = .returned (.int .i64 (cmpP p q)) ∧ ∃ q os', w' = Sort.grow (w.drewN q) os' := by
  go_enter Tryz.func334, Tryz.ntmps334
  go_wp2_with (go_at_call 248; refine (hullCompare_248 _ _ _).mono ?_; rintro e w' ⟨rfl, hb, hd⟩)
  go_ret
  exact ⟨rfl, Ext.grow xt (Nat.le_trans (by simp) hd)⟩

/-- The coordinates are so small that the products of differences fit. -/
def Mid (p : Pt) : Prop := -1000000 ≤ p.1 ∧ p.1 ≤ 1000000 ∧ -1000000 ≤ p.2 ∧ p.2 ≤ 1000000

/-- hull.turn, cut.turn. -/
def turnP (a b c : Pt) : Int := (b.1 - a.1) * (c.2 - a.2) - (b.2 - a.2) * (c.1 - a.1)

theorem mul_bd {x y : Int} {m n : Int} (hx : -m ≤ x) (hx' : x ≤ m) (hy : -n ≤ y) (hy' : y ≤ n) : -(m * n) ≤ x * y ∧ x * y ≤ m * n := by
  have hm : 0 ≤ m := by omega
  have hn : 0 ≤ n := by omega
  have h1 : (m - x) * (n - y) ≥ 0 := Int.mul_nonneg (by omega) (by omega)
  have h2 : (m + x) * (n + y) ≥ 0 := Int.mul_nonneg (by omega) (by omega)
  have h3 : (m - x) * (n + y) ≥ 0 := Int.mul_nonneg (by omega) (by omega)
  have h4 : (m + x) * (n - y) ≥ 0 := Int.mul_nonneg (by omega) (by omega)
  simp only [Int.sub_mul, Int.add_mul, Int.mul_sub, Int.mul_add] at h1 h2 h3 h4
  omega

theorem turn_250 (a b c : Pt) (ha : Mid a) (hb : Mid b) (hc : Mid c) (w : World) :
    Calls Tryz.prog 250 #[.agg #[.int .i64 a.1, .int .i64 a.2], .agg #[.int .i64 b.1, .int .i64 b.2], .agg #[.int .i64 c.1, .int .i64 c.2]] w fun e w' => e = .returned (.int .i64 (turnP a b c)) ∧ Ext w w' := by
  obtain ⟨a1, a2⟩ := a
  obtain ⟨b1, b2⟩ := b
  obtain ⟨c1, c2⟩ := c
  simp only [Mid, turnP] at *
  have h1 := mul_bd (x := b1 - a1) (y := c2 - a2) (m := 2000000) (n := 2000000) (by omega) (by omega) (by omega) (by omega)
  have h2 := mul_bd (x := b2 - a2) (y := c1 - a1) (m := 2000000) (n := 2000000) (by omega) (by omega) (by omega) (by omega)
  simp only [Int.reduceMul, Int.reduceNeg] at h1 h2
  go_enter Tryz.func250, Tryz.ntmps250
  go_wp2
  go_ret
  exact ⟨rfl, xt⟩

end Go.Proofs.YtcgghcicnanliaaGreatDoor
namespace Go.Proofs
open Go.Shelf
def Tryz.cloneInt_ren : Go.Shelf.Ren := ⟨fun | 41 => 54 | n => n, fun | 22 => 41 | 23 => 3 | 4 => 4 | n => n, fun | n => n⟩
theorem Tryz.cloneInt : Go.Proofs.SlLaysE0.n41 Tryz.prog Tryz.cloneInt_ren := {
  mixed := by kernel_rfl
  f41 := ⟨Tryz.f54.name, by decide, Tryz.func54.trans (congrArg some (by kernel_rfl))⟩
  t4 := Tryz.underlying4
  a4 := Tryz.isAgg4
  z4 := Tryz.sizeOf4
  v4 := Tryz.zeroValue4
  t22 := Tryz.underlying41
  a22 := Tryz.isAgg41
  z22 := Tryz.sizeOf41
  v22 := Tryz.zeroValue41 }
def Tryz.clonePt_ren : Go.Shelf.Ren := ⟨fun | 41 => 156 | n => n, fun | 22 => 76 | 23 => 43 | 4 => 4 | n => n, fun | n => n⟩
theorem Tryz.clonePt : Go.Proofs.SlLaysE0.n41 Tryz.prog Tryz.clonePt_ren := {
  mixed := by kernel_rfl
  f41 := ⟨Tryz.f156.name, by decide, Tryz.func156.trans (congrArg some (by kernel_rfl))⟩
  t4 := Tryz.underlying4
  a4 := Tryz.isAgg4
  z4 := Tryz.sizeOf4
  v4 := Tryz.zeroValue4
  t22 := Tryz.underlying76
  a22 := Tryz.isAgg76
  z22 := Tryz.sizeOf76
  v22 := Tryz.zeroValue76 }
def Tryz.sortPt_ren : Go.Shelf.Ren := ⟨fun | 6 => 333 | 15 => 232 | 14 => 386 | 28 => 319 | 29 => 320 | 20 => 410 | 21 => 411 | 22 => 412 | 23 => 413 | 24 => 414 | 25 => 415 | 26 => 416 | 27 => 417 | 46 => 429 | 47 => 378 | 48 => 379 | 49 => 430 | 50 => 431 | 57 => 447 | n => n, fun | 22 => 76 | 24 => 43 | 25 => 225 | 3 => 3 | 39 => 273 | 0 => 0 | 53 => 337 | 55 => 227 | 4 => 4 | 46 => 331 | 45 => 330 | 50 => 290 | 5 => 5 | 9 => 9 | 66 => 371 | 70 => 375 | 76 => 392 | 77 => 199 | n => n, fun | n => n⟩
theorem Tryz.sortPt : Go.Proofs.SlLaysF0.n6 Tryz.prog Tryz.sortPt_ren := {
  mixed := by kernel_rfl
  f6 := ⟨Tryz.f333.name, by decide, Tryz.func333.trans (congrArg some (by kernel_rfl))⟩
  f14 := ⟨Tryz.f386.name, by decide, Tryz.func386.trans (congrArg some (by kernel_rfl))⟩
  f15 := Tryz.func232.trans (congrArg some (by kernel_rfl))
  f20 := ⟨Tryz.f410.name, by decide, Tryz.func410.trans (congrArg some (by kernel_rfl))⟩
  f21 := ⟨Tryz.f411.name, by decide, Tryz.func411.trans (congrArg some (by kernel_rfl))⟩
  f22 := ⟨Tryz.f412.name, by decide, Tryz.func412.trans (congrArg some (by kernel_rfl))⟩
  f23 := ⟨Tryz.f413.name, by decide, Tryz.func413.trans (congrArg some (by kernel_rfl))⟩
  f24 := ⟨Tryz.f414.name, by decide, Tryz.func414.trans (congrArg some (by kernel_rfl))⟩
  f25 := ⟨Tryz.f415.name, by decide, Tryz.func415.trans (congrArg some (by kernel_rfl))⟩
  f26 := ⟨Tryz.f416.name, by decide, Tryz.func416.trans (congrArg some (by kernel_rfl))⟩
  f27 := ⟨Tryz.f417.name, by decide, Tryz.func417.trans (congrArg some (by kernel_rfl))⟩
  f28 := Tryz.func319.trans (congrArg some (by kernel_rfl))
  f29 := Tryz.func320.trans (congrArg some (by kernel_rfl))
  f46 := ⟨Tryz.f429.name, by decide, Tryz.func429.trans (congrArg some (by kernel_rfl))⟩
  f47 := Tryz.func378.trans (congrArg some (by kernel_rfl))
  f48 := Tryz.func379.trans (congrArg some (by kernel_rfl))
  f49 := ⟨Tryz.f430.name, by decide, Tryz.func430.trans (congrArg some (by kernel_rfl))⟩
  f50 := ⟨Tryz.f431.name, by decide, Tryz.func431.trans (congrArg some (by kernel_rfl))⟩
  f57 := ⟨Tryz.f447.name, by decide, Tryz.func447.trans (congrArg some (by kernel_rfl))⟩
  t0 := Tryz.underlying0
  a0 := Tryz.isAgg0
  z0 := Tryz.sizeOf0
  v0 := Tryz.zeroValue0
  t3 := Tryz.underlying3
  a3 := Tryz.isAgg3
  z3 := Tryz.sizeOf3
  v3 := Tryz.zeroValue3
  t4 := Tryz.underlying4
  a4 := Tryz.isAgg4
  z4 := Tryz.sizeOf4
  v4 := Tryz.zeroValue4
  t5 := Tryz.underlying5
  a5 := Tryz.isAgg5
  z5 := Tryz.sizeOf5
  v5 := Tryz.zeroValue5
  t9 := Tryz.underlying9
  a9 := Tryz.isAgg9
  z9 := Tryz.sizeOf9
  v9 := Tryz.zeroValue9
  t22 := Tryz.underlying76
  a22 := Tryz.isAgg76
  z22 := Tryz.sizeOf76
  v22 := Tryz.zeroValue76
  t25 := Tryz.underlying225
  a25 := Tryz.isAgg225
  z25 := Tryz.sizeOf225
  v25 := Tryz.zeroValue225
  t39 := Tryz.underlying273
  a39 := Tryz.isAgg273
  z39 := Tryz.sizeOf273
  v39 := Tryz.zeroValue273
  t45 := Tryz.underlying330
  a45 := Tryz.isAgg330
  z45 := Tryz.sizeOf330
  v45 := Tryz.zeroValue330
  t46 := Tryz.underlying331
  a46 := Tryz.isAgg331
  z46 := Tryz.sizeOf331
  v46 := Tryz.zeroValue331
  t50 := Tryz.underlying290
  a50 := Tryz.isAgg290
  z50 := Tryz.sizeOf290
  v50 := Tryz.zeroValue290
  t53 := Tryz.underlying337
  a53 := Tryz.isAgg337
  z53 := Tryz.sizeOf337
  v53 := Tryz.zeroValue337
  t55 := Tryz.underlying227
  a55 := Tryz.isAgg227
  z55 := Tryz.sizeOf227
  v55 := Tryz.zeroValue227
  t66 := Tryz.underlying371
  a66 := Tryz.isAgg371
  z66 := Tryz.sizeOf371
  v66 := Tryz.zeroValue371
  t70 := Tryz.underlying375
  a70 := Tryz.isAgg375
  z70 := Tryz.sizeOf375
  v70 := Tryz.zeroValue375
  t76 := Tryz.underlying392
  a76 := Tryz.isAgg392
  z76 := Tryz.sizeOf392
  v76 := Tryz.zeroValue392
  t77 := Tryz.underlying199
  a77 := Tryz.isAgg199
  z77 := Tryz.sizeOf199
  v77 := Tryz.zeroValue199 }
end Go.Proofs
namespace Go.Proofs.YtcgghcicnanliaaGreatDoor
open Go.RowKit
set_option maxRecDepth 100000
theorem heap_new (w : World) (o : Obj) : (w.alloc o).heap[w.heap.size]? = some o := Array.getElem?_push_size
theorem wp_buildTo {P : Program} {o : Oper} {a : Act} {w : World} {K : Act → World → Prop} {Q : Exit → Act → World → Prop} (t : TypeId) (parts : Array (Nat × Operand)) (ho : o.op = .build t parts) (cells : Array Value)
    (hf : P.built t (parts.map fun (i, x) => (i, a.eval x)).toList = some cells) (h : K (a.put o.dst (.agg cells)) w) : o.wp P a w K Q := by
  refine wp_build t parts ho (by rw [hf]; rfl) ?_
  rw [hf]; exact h
theorem wp_buildBy {P : Program} {o : Oper} {a : Act} {w : World} {K : Act → World → Prop} {Q : Exit → Act → World → Prop} (t : TypeId) (parts : Array (Nat × Operand)) (ho : o.op = .build t parts) (cells : Array Value) (ps : List (Nat × Value))
    (hf : P.built t ps = some cells) (hp : (parts.map fun (i, x) => (i, a.eval x)).toList = ps) (h : K (a.put o.dst (.agg cells)) w) : o.wp P a w K Q :=
  wp_buildTo t parts ho cells (by rw [hp]; exact hf) h
theorem setRow_alloc (w : World) (old cs : Array Value) (t : TypeId) : (w.alloc (.cells old t)).setRow w.heap.size cs = w.alloc (.cells cs t) := by
  unfold World.setRow World.alloc
  congr 1
  apply Array.ext
  · simp
  · intro i h1 h2
    simp only [Array.getElem_modify]
    split
    · rename_i e; subst e; simp
    · rename_i e
      have : i < w.heap.size := by simp at h1; omega
      simp [Array.getElem_push, this]
/-- A composite literal that is stored into a new block. -/
theorem wp_store_fresh {P : Program} {o : Oper} {a : Act} {w : World} {K : Act → World → Prop} {Q : Exit → Act → World → Prop} (ty : TypeId) (x y : Operand) (ho : o.op = .store ty x y)
    (w0 : World) (cells old : Array Value) (t : TypeId) (hw : w = w0.alloc (.cells old t)) (hx : a.eval x = .pointer (some ⟨w0.heap.size, 0, none⟩)) (hy : a.eval y = .agg cells)
    (hi : (P.info? ty).map (·.size) = some cells.size) (hold : old.size = cells.size) (h1 : cells.all (·.oneCell') = true)
    (h : K (a.put o.dst undef) (w0.alloc (.cells cells t))) : o.wp P a w K Q := by
  subst hw
  refine wp_store_row ty x y ho w0.heap.size cells hx hy t old (heap_new w0 _) hi hold h1 ?_
  rw [setRow_alloc]; exact h
theorem wpList_buildBy {P : Program} {ops : Array Oper} {rest : List Oper} {o : Oper} {a : Act} {w : World} {Q : Exit → Act → World → Prop} (hg : o.guard = none) (t : TypeId) (parts : Array (Nat × Operand)) (ho : o.op = .build t parts) (cells : Array Value) (ps : List (Nat × Value))
    (hf : P.built t ps = some cells) (hp : (parts.map fun (i, x) => (i, a.eval x)).toList = ps) (h : wpList P ops Q rest (a.put o.dst (.agg cells)) w) : wpList P ops Q (o :: rest) a w :=
  wpList_plain hg fun _ hK => wp_buildBy t parts ho cells ps hf hp (hK _ _ h)
theorem wpList_store_fresh {P : Program} {ops : Array Oper} {rest : List Oper} {o : Oper} {a : Act} {w : World} {Q : Exit → Act → World → Prop} (hg : o.guard = none) (ty : TypeId) (x y : Operand) (ho : o.op = .store ty x y)
    (w0 : World) (cells old : Array Value) (t : TypeId) (hw : w = w0.alloc (.cells old t)) (g : Nat) (hx : a.eval x = .pointer (some ⟨g, 0, none⟩)) (hgg : w0.heap.size = g) (hy : a.eval y = .agg cells)
    (hi : (P.info? ty).map (·.size) = some cells.size) (hold : old.size = cells.size) (h1 : cells.all (·.oneCell') = true)
    (h : wpList P ops Q rest (a.put o.dst undef) (w0.alloc (.cells cells t))) : wpList P ops Q (o :: rest) a w := by
  subst hgg
  exact wpList_plain hg fun _ hK => wp_store_fresh ty x y ho w0 cells old t hw hx hy hi hold h1 (hK _ _ h)
theorem Ext.setRow {a b : World} (h : Ext a b) {g : Nat} (hg : a.heap.size ≤ g) (cs : Array Value) : Ext a (b.setRow g cs) :=
  ⟨h.os, h.tape, h.output, by rw [setRow_size]; exact h.size, fun k hk => by rw [setRow_other _ _ _ _ (by omega)]; exact h.block k hk⟩
theorem built_294 (parts : List (Nat × Value)) : Tryz.prog.built 294 parts = Instr.fill (fun i => some (i * 2, 2)) (Array.replicate 32 (.int .i64 0)) parts := by kernel_rfl
theorem built_117 (parts : List (Nat × Value)) : Tryz.prog.built 117 parts = Instr.fill (fun i => some (i * 2, 2)) (Array.replicate 18 (.int .i64 0)) parts := by kernel_rfl
theorem built_121 (parts : List (Nat × Value)) : Tryz.prog.built 121 parts = Instr.fill (fun i => some (i * 1, 1)) (Array.replicate 9 (.int .i64 0)) parts := by kernel_rfl
/-- An array of pairs, built part by part. -/
theorem fill_pairs (n : Nat) (ps : List Pt) (h : ps.length ≤ n) : ∃ r, Instr.fill (fun i => some (i * 2, 2)) (Array.replicate (n * 2) (.int .i64 0)) (((ps.map fun p => Value.agg #[.int .i64 p.1, .int .i64 p.2]).zipIdx 0).map fun x => (x.2, x.1)) = some r ∧ r.size = n * 2 ∧
    (∀ j p, ps[j]? = some p → r[j * 2]? = some (.int .i64 p.1) ∧ r[j * 2 + 1]? = some (.int .i64 p.2)) ∧ r.all (·.oneCell') = true := by
  obtain ⟨r, h1, h2, h3⟩ := Great.fill_dense (s := 2) (by omega) (ps.map fun p => Value.agg #[.int .i64 p.1, .int .i64 p.2]) 0 (Array.replicate (n * 2) (.int .i64 0)) (by
    intro v hv
    obtain ⟨p, _, rfl⟩ := List.mem_map.1 hv
    rfl) (by simp; omega)
  refine ⟨r, h1, by simpa using h2, fun j p hj => ?_, ?_⟩
  · have hlt : j < ps.length := (List.getElem?_eq_some_iff.1 hj).1
    have hm : (ps.map fun p => Value.agg #[.int .i64 p.1, .int .i64 p.2])[j]? = some (.agg #[.int .i64 p.1, .int .i64 p.2]) := by rw [List.getElem?_map, hj]; rfl
    constructor
    · rw [h3, if_pos (by simp; omega), show j * 2 / 2 - 0 = j by omega, hm, show j * 2 % 2 = 0 by omega]; rfl
    · rw [h3, if_pos (by simp; omega), show (j * 2 + 1) / 2 - 0 = j by omega, hm, show (j * 2 + 1) % 2 = 1 by omega]; rfl
  · rw [Array.all_eq_true]
    intro i hi
    have hk := h3 i
    rw [Array.getElem?_eq_getElem hi] at hk
    split at hk
    · cases e : (ps.map fun p => Value.agg #[.int .i64 p.1, .int .i64 p.2])[i / 2 - 0]? with
      | none => rw [e] at hk; cases hk
      | some v =>
        rw [e] at hk
        obtain ⟨p, _, rfl⟩ := List.mem_map.1 (List.mem_of_getElem? e)
        have : i % 2 = 0 ∨ i % 2 = 1 := by omega
        rcases this with e2 | e2 <;> rw [e2] at hk <;> (simp [Value.cells] at hk; rw [hk]; rfl)
    · rw [Array.getElem?_replicate] at hk
      split at hk
      · injection hk with hk; rw [hk]; rfl
      · cases hk

end Go.Proofs.YtcgghcicnanliaaGreatDoor
namespace Go.Proofs.YtcgghcicnanliaaGreatDoor
open Go.RowKit
set_option maxRecDepth 100000
theorem fill_pairs_eq (n : Nat) (ps : List Pt) (h : ps.length ≤ n) : Instr.fill (fun i => some (i * 2, 2)) (Array.replicate (n * 2) (.int .i64 0)) (((ps.map fun p => Value.agg #[.int .i64 p.1, .int .i64 p.2]).zipIdx 0).map fun x => (x.2, x.1)) =
    some ((ps ++ List.replicate (n - ps.length) ((0, 0) : Pt)).flatMap encP).toArray := by
  obtain ⟨r, h1, h2, h3⟩ := Great.fill_dense (s := 2) (by omega) (ps.map fun p => Value.agg #[.int .i64 p.1, .int .i64 p.2]) 0 (Array.replicate (n * 2) (.int .i64 0)) (by
    intro v hv
    obtain ⟨p, _, rfl⟩ := List.mem_map.1 hv
    rfl) (by simp; omega)
  rw [h1]
  congr 1
  apply Array.ext_getElem?
  intro k
  have hk : k = k / 2 * 2 + k % 2 := by omega
  have hm : k % 2 = 0 ∨ k % 2 = 1 := by omega
  rw [h3]
  by_cases hlt : k < ps.length * 2
  · obtain ⟨p, hp⟩ : ∃ p, ps[k / 2]? = some p := ⟨_, List.getElem?_eq_getElem (by omega)⟩
    have hp2 : (ps ++ List.replicate (n - ps.length) ((0, 0) : Pt))[k / 2]? = some p := by rw [List.getElem?_append_left (by omega)]; exact hp
    rw [if_pos (by simp; omega), Nat.sub_zero, List.getElem?_map, hp]
    have hr := fun i v => getElem?_rows (enc := encP) (k := 2) (fun _ => rfl) (ps ++ List.replicate (n - ps.length) ((0, 0) : Pt)) (k / 2) i p v hp2
    rw [List.getElem?_toArray]
    rcases hm with e | e
    · have := hr 0 _ rfl
      rw [e] at hk ⊢
      rw [← hk] at this
      rw [this]; rfl
    · have := hr 1 _ rfl
      rw [e] at hk ⊢
      rw [← hk] at this
      rw [this]; rfl
  · rw [if_neg (by simp; omega), Array.getElem?_replicate, List.getElem?_toArray]
    by_cases hn : k < n * 2
    · have hp2 : (ps ++ List.replicate (n - ps.length) ((0, 0) : Pt))[k / 2]? = some (0, 0) := by
        rw [List.getElem?_append_right (by omega), List.getElem?_replicate, if_pos (by omega)]
      have hr := fun i v => getElem?_rows (enc := encP) (k := 2) (fun _ => rfl) (ps ++ List.replicate (n - ps.length) ((0, 0) : Pt)) (k / 2) i (0, 0) v hp2
      rw [if_pos hn]
      rcases hm with e | e
      · have := hr 0 _ rfl
        rw [e] at hk
        rw [← hk] at this
        rw [this]
      · have := hr 1 _ rfl
        rw [e] at hk
        rw [← hk] at this
        rw [this]
    · rw [if_neg hn, List.getElem?_eq_none]
      have : ((ps ++ List.replicate (n - ps.length) ((0, 0) : Pt)).flatMap encP).length = (ps ++ List.replicate (n - ps.length) ((0, 0) : Pt)).length * 2 := by
        generalize ps ++ List.replicate (n - ps.length) ((0, 0) : Pt) = l
        induction l with
        | nil => rfl
        | cons x l ih => rw [List.flatMap_cons, List.length_append, ih]; simp [encP]; omega
      rw [this]; simp; omega
end Go.Proofs.YtcgghcicnanliaaGreatDoor
namespace Go.Proofs.YtcgghcicnanliaaGreatDoor
open Go.RowKit
theorem Ext.seen {a b : World} (h : Ext a b) {k o : Nat} {v : Value} (hk : k < a.heap.size) (hc : a.cell? ⟨k, o, none⟩ = some v) : b.cell? ⟨k, o, none⟩ = some v := (h.rules.1 k o hk).trans hc
theorem Ext.froz {a b : World} (h : Ext a b) {k o : Nat} {v : Bool} (hk : k < a.heap.size) (hc : a.frozen? ⟨k, o, none⟩ = v) : b.frozen? ⟨k, o, none⟩ = v := (h.rules.2.1 k o hk).trans hc
theorem Ext.blk {a b : World} (h : Ext a b) {k : Nat} {o : Obj} (hc : a.heap[k]? = some o) : b.heap[k]? = some o := by
  obtain ⟨hk, _⟩ := Array.getElem?_eq_some_iff.1 hc
  exact (h.block k hk).trans hc
end Go.Proofs.YtcgghcicnanliaaGreatDoor
namespace Go.Proofs.YtcgghcicnanliaaGreatDoor
open Go.RowKit
set_option maxHeartbeats 4000000
set_option maxRecDepth 100000

theorem isNaN_339 (a : Int) (w : World) : Calls Tryz.prog 339 #[.int .u64 a] w fun e w' => e = .returned (.bool false) ∧ w = w' := by
  go_enter Tryz.func339, Tryz.ntmps339
  go_wp2
  all_goals (go_ret; exact ⟨retb (by simp), rfl⟩)
theorem cmpCompare_266 (a b : Int) (w : World) : Calls Tryz.prog 266 #[.int .u64 a, .int .u64 b] w fun e w' => e = .returned (.int .i64 (cmpI a b)) ∧ w = w' := by
  go_enter Tryz.func266, Tryz.ntmps266
  go_wp2_with (go_at_call 339; refine (isNaN_339 _ _).mono ?_; rintro e w' ⟨rfl, rfl⟩)
  all_goals (go_ret; exact ⟨reti (by unfold cmpI; (repeat' split) <;> omega), rfl⟩)
/-- slices.Compare of two words. -/
def cmp2 (a b c d : Int) : Int := orI [cmpI a c, cmpI b d]
theorem compare_189 (B C : Nat) (a b c d : Int) (k1 k2 : Nat) (w : World) (h1 : w.cell? ⟨B, 0, none⟩ = some (.int .u64 a)) (h2 : w.cell? ⟨B, 1, none⟩ = some (.int .u64 b)) (h3 : w.cell? ⟨C, 0, none⟩ = some (.int .u64 c)) (h4 : w.cell? ⟨C, 1, none⟩ = some (.int .u64 d)) :
    Calls Tryz.prog 189 #[.slice (some ⟨B, 0, none⟩) (2 : Nat) k1, .slice (some ⟨C, 0, none⟩) (2 : Nat) k2] w fun e w' => e = .returned (.int .i64 (cmp2 a b c d)) ∧ w = w' := by
  have K1 := Lib.hid (cmpCompare_266 a c)
  have K2 := Lib.hid (cmpCompare_266 b d)
  unfold cmp2
  generalize cmpI a c = p at K1 ⊢
  generalize cmpI b d = q at K2 ⊢
  by_cases hp : p = 0
  · subst hp
    by_cases hq : q = 0
    · subst hq
      go_enter Tryz.func189, Tryz.ntmps189
      go_wp2
      refine wp_loop_rounds 3 ?_
      rw [rounds_succ]
      go_wp2_with (go_at_call 266; refine (K1.out _).mono ?_; rintro e w' ⟨rfl, rfl⟩)
      rw [rounds_succ]
      go_wp2_with (go_at_call 266; refine (K2.out _).mono ?_; rintro e w' ⟨rfl, rfl⟩)
      rw [rounds_succ]
      go_wp2
      go_ret
      exact ⟨by simp [orI], rfl⟩
    · have hqb : (q != 0) = true := by simp [hq]
      go_enter Tryz.func189, Tryz.ntmps189
      go_wp2
      refine wp_loop_rounds 2 ?_
      rw [rounds_succ]
      go_wp2_with (go_at_call 266; refine (K1.out _).mono ?_; rintro e w' ⟨rfl, rfl⟩)
      rw [rounds_succ]
      go_wp2_with (go_at_call 266; refine (K2.out _).mono ?_; rintro e w' ⟨rfl, rfl⟩)
      go_ret
      exact ⟨by simp [orI, hq], rfl⟩
  · have hpb : (p != 0) = true := by simp [hp]
    go_enter Tryz.func189, Tryz.ntmps189
    go_wp2
    refine wp_loop_rounds 1 ?_
    rw [rounds_succ]
    go_wp2_with (go_at_call 266; refine (K1.out _).mono ?_; rintro e w' ⟨rfl, rfl⟩)
    go_ret
    exact ⟨by simp [orI, hp], rfl⟩

end Go.Proofs.YtcgghcicnanliaaGreatDoor
