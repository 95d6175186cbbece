/- Walks: sense.observer.holds at echoes. Conditions: a place; an observation that is right; an environment that is right. Words that stand in for calls: what runs found, and how they are chosen. No statement about the program. Conditions: none. Readings: a value that reads as an environment, an entry, a place, is one; what lies behind its slices. Conditions: none. -/
import Derived.Test.YtcgghcicnanliaaGreatDoorProg
import Derived.Test.YtcgghcicnanliaaGreatDoorM25
import Derived.Test.YtcgghcicnanliaaGreatDoorM27
import Derived.Test.YtcgghcicnanliaaGreatDoorM26
import Derived.Test.YtcgghcicnanliaaGreatDoorM29
import Derived.Test.YtcgghcicnanliaaGreatDoorM30
import Derived.KernelRfl
import Derived.Test.YtcgghcicnanliaaGreatDoorM06
import Derived.Test.YtcgghcicnanliaaGreatDoorM21
set_option linter.unusedVariables false
set_option linter.unusedSimpArgs false
namespace Go.Proofs.YtcgghcicnanliaaGreatDoor
open Go.RowKit
set_option maxHeartbeats 8000000
set_option maxRecDepth 100000

theorem obs_env {e : EnvT} {o : EntryT} {p : Pt} {pid : Int} {pA : Option Addr} {pl pc : Nat} {w : World} {B : Nat} (h : Cells w B (obsL e o p pid pA pl pc)) {k : Nat} {v : Value} (hv : e.vals[k]? = some v) : w.cell? ⟨B, k, none⟩ = some v := by
  refine h.2 k v ?_
  unfold obsL
  rw [List.append_assoc, List.getElem?_append_left (List.getElem?_eq_some_iff.1 hv).1]
  exact hv

theorem holds_2 (e : EnvT) (o : EntryT) (p x : Pt) (pid : Int) (pA : Option Addr) (pl pc B : Nat) (hk : o.kind = 2) (ht : inB o.time 0 1000000000 = true) (hv : spanIn o.lo o.hi (-100000) 100000 = true) (hx : plB x = true) (w : World) (hC : Cells w B (obsL e o p pid pA pl pc)) (H : e.Lies w) (hok : envOk e = true) :
    Calls Tryz.prog 50 #[.pointer (some ⟨B, 0, none⟩), .agg #[.int .i64 x.1, .int .i64 x.2]] w fun r w' => r = .returned (.bool (echoB e o x)) ∧ Ext w w' := by
  obtain ⟨c25, c26, c29, c30, c31, c32, c36, c37, c38, c39⟩ := obs_at hC
  have hB := hC.1
  have hB1 : B < w.heap.size + 1 := by omega
  have hB2 : B < w.heap.size + 1 + 1 := by omega
  obtain ⟨hok1, hok2⟩ : chartOk e.chart = true ∧ tideOk e.tide = true := by
    simp only [envOk, Bool.and_eq_true] at hok
    exact ⟨hok.1.1.1, hok.1.1.2⟩
  have K1 := Lib.hid (fun W (h : Ext w W) => at_49 e.chart x W (H.chart.ext h) hok1 hx)
  have K2 := Lib.hid (fun W (h : Ext w W) => tideAt_111 e.tide x o.time W hok2 hx ht (H.tide.ext h))
  have K3 := Lib.hid (fun (i : Nat) y (hy : e.chart.cells[i]? = some y) W (h : Ext w W) => fits_112 e.chart i y (heightB e.tide x o.time) (o.lo, o.hi) W (H.chart.ext h) hok1 (height_ok hok2 x o.time) hv hy)
  have CE := Lib.hid (fun k v (hv : e.vals[k]? = some v) W (h : Ext w W) => obs_env (hC.ext h) hv)
  have KI := Lib.hid (fun i (hi : i ∈ rectL e.chart x x) => rect_bd hok1 hi)
  have HE : Hid (echoB e o x = (match (rectL e.chart x x).head? with
    | none => true
    | some i => match e.chart.cells[i.toNat]? with
      | none => true
      | some y => fitsB y (heightB e.tide x o.time) (o.lo, o.hi))) := rfl
  have HH : Hid (heightB e.tide x o.time = ((ofF e.tide (x.1 / 10000) (x.2 / 10000) ((o.time - e.tide.start) / 3600)).hlo, (ofF e.tide (x.1 / 10000) (x.2 / 10000) ((o.time - e.tide.start) / 3600)).hhi)) := rfl
  generalize echoB e o x = res at HE ⊢
  generalize ofF e.tide (x.1 / 10000) (x.2 / 10000) ((o.time - e.tide.start) / 3600) = f at K2 HH
  generalize rectL e.chart x x = rl at K1 KI HE
  generalize heightB e.tide x o.time = hp at K3 HE HH
  have HH' : hp = (f.hlo, f.hhi) := HH
  subst HH'
  clear HH hC H hok hok1 hok2 ht hv hx c29 c30 c36 c37 c38 c39
  rw [hk] at c26
  generalize o.lo = lo at *
  generalize o.hi = hi at *
  generalize o.time = tm at *
  obtain ⟨f1, f2, f3, f4, f5, f6, f7, f8, f9⟩ := f
  obtain ⟨x1, x2⟩ := x
  obtain ⟨⟨version, x, y, tw, th, size, cA, cc, cells, bA, bc, beacons, lA, lc, lines⟩, ⟨tv, start, slots, ⟨r1, r2, r3, r4, r5, r6, r7, r8, r9⟩, fA, fc, flows⟩, rA, rc, rows, wA, wc, waters⟩ := e
  simp only [ChartT.vals, TideT.vals, FlowT.vals, List.cons_append, List.nil_append] at K1 K2 K3 KI HE
  have CC : Hid (∀ W, Ext w W → (W.cell? ⟨B, 0, none⟩ = some (.int .i64 version) ∧ W.cell? ⟨B, 1, none⟩ = some (.int .i64 x) ∧ W.cell? ⟨B, 2, none⟩ = some (.int .i64 y) ∧ W.cell? ⟨B, 3, none⟩ = some (.int .i64 tw) ∧ W.cell? ⟨B, 4, none⟩ = some (.int .i64 th) ∧ W.cell? ⟨B, 5, none⟩ = some (.int .i64 size) ∧ W.cell? ⟨B, 6, none⟩ = some (.slice cA cells.length cc) ∧ W.cell? ⟨B, 7, none⟩ = some (.slice bA beacons.length bc) ∧ W.cell? ⟨B, 8, none⟩ = some (.slice lA lines.length lc))) := fun W h =>
    ⟨CE.out 0 _ rfl W h, CE.out 1 _ rfl W h, CE.out 2 _ rfl W h, CE.out 3 _ rfl W h, CE.out 4 _ rfl W h, CE.out 5 _ rfl W h, CE.out 6 _ rfl W h, CE.out 7 _ rfl W h, CE.out 8 _ rfl W h⟩
  have CT : Hid (∀ W, Ext w W → (W.cell? ⟨B, 9, none⟩ = some (.int .i64 tv) ∧ W.cell? ⟨B, 10, none⟩ = some (.int .i64 start) ∧ W.cell? ⟨B, 11, none⟩ = some (.int .i64 slots) ∧ W.cell? ⟨B, 12, none⟩ = some (.int .i64 r1) ∧ W.cell? ⟨B, 13, none⟩ = some (.int .i64 r2) ∧ W.cell? ⟨B, 14, none⟩ = some (.int .i64 r3) ∧ W.cell? ⟨B, 15, none⟩ = some (.int .i64 r4) ∧ W.cell? ⟨B, 16, none⟩ = some (.int .i64 r5) ∧ W.cell? ⟨B, 17, none⟩ = some (.int .i64 r6) ∧ W.cell? ⟨B, 18, none⟩ = some (.int .i64 r7) ∧ W.cell? ⟨B, 19, none⟩ = some (.int .i64 r8) ∧ W.cell? ⟨B, 20, none⟩ = some (.int .i64 r9) ∧ W.cell? ⟨B, 21, none⟩ = some (.slice fA flows.length fc))) := fun W h =>
    ⟨CE.out 9 _ rfl W h, CE.out 10 _ rfl W h, CE.out 11 _ rfl W h, CE.out 12 _ rfl W h, CE.out 13 _ rfl W h, CE.out 14 _ rfl W h, CE.out 15 _ rfl W h, CE.out 16 _ rfl W h, CE.out 17 _ rfl W h, CE.out 18 _ rfl W h, CE.out 19 _ rfl W h, CE.out 20 _ rfl W h, CE.out 21 _ rfl W h⟩
  have C25 := Lib.hid c25
  clear CE c25
  obtain ⟨k0, k1, k2, k3, k4, k5, k6, k7, k8⟩ := CC.out w (Ext.refl w)
  cases hh : rl.head? with
  | none =>
    have hres : res = true := by have := HE.out; rw [hh] at this; exact this
    subst hres
    rw [hh] at K1
    simp only [Option.getD_none, Option.isSome_none] at K1
    clear hh K2 K3 CT KI
    go_enter Tryz.func50, Tryz.ntmps50
    go_wp2
    (refine wp_region_ext (by kernel_rfl) (by kernel_rfl) ?_; (repeat (first | go_big_quiet_step ((go_at_call 49; exact Xt.calls (K1.out _ (Ext.trans (((Ext.refl w).alloc _).alloc _) (Xt.ext _))))) | quiet_step ((go_at_call 49; exact Xt.calls (K1.out _ (Ext.trans (((Ext.refl w).alloc _).alloc _) (Xt.ext _))))))); refine wpQuiet_nil ?_; rintro _ ⟨xq, rfl⟩; have hx2 := xq.ext; generalize xq.world = w2 at hx2 ⊢)
    go_wp2
    go_ret
    exact ⟨rfl, xt⟩
  | some i =>
    have hi2 : i ∈ rl := by
      cases rl with
      | nil => cases hh
      | cons a l => simp only [List.head?_cons, Option.some.injEq] at hh; subst hh; exact List.mem_cons_self
    obtain ⟨hi0, hi1⟩ := KI.out i hi2
    obtain ⟨yc, hyc⟩ : ∃ yc, cells[i.toNat]? = some yc := ⟨_, List.getElem?_eq_getElem hi1⟩
    have hres : fitsB yc (f8, f9) (lo, hi) = res := by have := HE.out; rw [hh] at this; simp only at this; rw [hyc] at this; exact this.symm
    have K4 := Lib.hid (K3.out i.toNat yc hyc)
    rw [show ((i.toNat : Nat) : Int) = i by omega, hres] at K4
    rw [hh] at K1
    simp only [Option.getD_some, Option.isSome_some] at K1
    clear hh K3 KI hyc hres hi0 hi1 hi2 HE
    go_enter Tryz.func50, Tryz.ntmps50
    go_wp2
    (refine wp_region_ext (by kernel_rfl) (by kernel_rfl) ?_; (repeat (first | go_big_quiet_step ((go_at_call 49; exact Xt.calls (K1.out _ (Ext.trans (((Ext.refl w).alloc _).alloc _) (Xt.ext _))))) | quiet_step ((go_at_call 49; exact Xt.calls (K1.out _ (Ext.trans (((Ext.refl w).alloc _).alloc _) (Xt.ext _))))))); refine wpQuiet_nil ?_; rintro _ ⟨xq, rfl⟩; have hx2 := xq.ext; generalize xq.world = w2 at hx2 ⊢)
    have hE2 : Ext w w2 := Ext.trans (((Ext.refl w).alloc _).alloc _) hx2
    have tb := two_boxes w _ _ _ _ w2 hx2
    have z0 : B < w2.heap.size := Nat.lt_of_lt_of_le hB hE2.len
    have z1 : w.heap.size < w2.heap.size := (Array.getElem?_eq_some_iff.1 tb.1).1
    have z2 : w.heap.size + 1 < w2.heap.size := (Array.getElem?_eq_some_iff.1 tb.2).1
    have sX : Hid (∀ W, Ext w2 W → (W.cell? ⟨w.heap.size, 0, none⟩ = some (.int .i64 x1) ∧ W.cell? ⟨w.heap.size, 1, none⟩ = some (.int .i64 x2)) ∧ W.cell? ⟨w.heap.size + 1, 0, none⟩ = some (.int .i64 lo) ∧ W.cell? ⟨w.heap.size + 1, 1, none⟩ = some (.int .i64 hi)) := fun W h =>
      ⟨⟨(h.rules.1 _ _ z1).trans (by simp [World.cell?, tb.1]), (h.rules.1 _ _ z1).trans (by simp [World.cell?, tb.1])⟩, (h.rules.1 _ _ z2).trans (by simp [World.cell?, tb.2]), (h.rules.1 _ _ z2).trans (by simp [World.cell?, tb.2])⟩
    clear tb hx2 k0 k1 k2 k3 k4 k5 k6 k7 k8 K1 c26 c31 c32
    go_wp2
    refine wp_region_box (aF := ?aF) 17 15 16 13 9 55 30 30 #[.int .i64 0, .int .i64 0, .int .i64 0, .int .i64 0, .int .i64 0, .int .i64 0, .int .i64 0, .int .i64 0, .int .i64 0] #[.int .i64 f1, .int .i64 f2, .int .i64 f3, .int .i64 f4, .int .i64 f5, .int .i64 f6, .int .i64 f7, .int .i64 f8, .int .i64 f9] (by kernel_rfl) (by kernel_rfl) (by kernel_rfl) ?run (Nat.le_of_ble_eq_true (by kernel_rfl)) (by kernel_rfl) rfl (by kernel_rfl) (by kernel_rfl) (by decide +kernel) ?walk ?fin ?rest
    case run =>
      intro o ho a W
      cases ho
      simp [go_sem, ptrB]
    case walk =>
      intro W1 hW1
      have hE1 := hE2.trans hW1
      obtain ⟨⟨s0, s1⟩, -, -⟩ := sX.out W1 hW1
      obtain ⟨k9, k10, k11, k12, k13, k14, k15, k16, k17, k18, k19, k20, k21⟩ := CT.out W1 hE1
      have c25 := (hE1.rules.1 B 25 hB).trans C25.out
      have y0 : B < W1.heap.size := Nat.lt_of_lt_of_le hB hE1.len
      have y1 : w.heap.size < W1.heap.size := Nat.lt_of_lt_of_le z1 hW1.len
      have HE1 := Lib.hid hE1
      simp only [List.take_succ_cons, List.take_zero, List.filter_cons, isSk, Bool.not_false, Bool.not_true, if_true, Bool.false_eq_true, if_false, List.filter_nil]
      repeat (first | go_big_quiet_step ((go_at_call 111; exact Xt.calls (K2.out _ (HE1.out.trans (Xt.ext _))))) | quiet_step ((go_at_call 111; exact Xt.calls (K2.out _ (HE1.out.trans (Xt.ext _))))))
      refine wpQuiet_nil ?_
      rfl
    case fin => rfl
    case rest =>
      intro p9 W1 hW1 g9 v9
      simp only [ptrB, List.drop_succ_cons, List.drop_zero]
      go_upto_region 8 with fail
      refine at_world (G := fun W => Code.wp _ _ _ _ W) (fun W2 => Ext w2 W2 ∧ p9 < W2.heap.size ∧ W2.cell? ⟨p9, 7, none⟩ = some (.int .i64 f8) ∧ W2.cell? ⟨p9, 8, none⟩ = some (.int .i64 f9)) ?_ ?facts
      case facts =>
        have i9 := (Array.getElem?_eq_some_iff.1 v9).1
        exact ⟨hW1, i9, by simp [World.cell?, v9], by simp [World.cell?, v9]⟩
      rintro W2 ⟨hW2, i9, q7, q8⟩
      have hE3 := hE2.trans hW2
      obtain ⟨⟨s0, s1⟩, s2, s3⟩ := sX.out W2 hW2
      obtain ⟨k0, k1, k2, k3, k4, k5, k6, k7, k8⟩ := CC.out W2 hE3
      have y0 : B < W2.heap.size := Nat.lt_of_lt_of_le hB hE3.len
      have y1 : w.heap.size + 1 < W2.heap.size := Nat.lt_of_lt_of_le z2 hW2.len
      have HE3 := Lib.hid hE3
      clear hE2 hW2 hW1 hE3 z0 z1 z2 v9 g9
      (refine wp_region_ext (by kernel_rfl) (by kernel_rfl) ?_; (repeat (first | go_big_quiet_step ((go_at_call 112; exact Xt.calls (K4.out _ (HE3.out.trans (Xt.ext _))))) | quiet_step ((go_at_call 112; exact Xt.calls (K4.out _ (HE3.out.trans (Xt.ext _))))))); refine wpQuiet_nil ?_; rintro _ ⟨xq, rfl⟩; have hx2 := xq.ext; generalize xq.world = w2 at hx2 ⊢)
      go_wp2
      go_ret
      exact ⟨rfl, HE3.out.trans hx2⟩
end Go.Proofs.YtcgghcicnanliaaGreatDoor
namespace Go.Ev
open Go.Proofs
noncomputable section

/-! Short words for literals. -/
def i (n : Int) : Value := .int .i64 n
def e8 (n : Int) : Value := .int .u8 n
def S (k o n m : Nat) : Value := .slice (some ⟨k, o, none⟩) n m
def Q (k o : Nat) : Value := .pointer (some ⟨k, o, none⟩)
def A (l : List Value) : Value := .agg l.toArray
def Tu (l : List Value) : Value := .tuple l.toArray
def pp (l : List (Int × Int)) : List Value := List.rec (motive := fun _ => List Value) [] (fun p _ ih => i p.1 :: i p.2 :: ih) l

theorem good_recF {P : Program} {orc} (hm : P.follows .mixedOrders = true) (hO : OrcOk (tabOf P orc) P) {r : Rec} {n : Nat} (hr : recOk r (evF (tabOf P orc) P n (.call r.f r.args r.start)) = true) : Good P r.f (orcRec r) :=
  good_rec hm hO (n := n) (by rw [← evF_eq]; exact hr)

theorem mixedP : Tryz.prog.follows .mixedOrders = true := by kernel_rfl
/-- The run ends as the row says. -/
def okB (W : List (FuncId × Word)) (r : Rec) : Bool := recOk r (evF (tabOf Tryz.prog (orcL W)) Tryz.prog 100000 (.call r.f r.args r.start))
theorem good_ok {W : List (FuncId × Word)} (hW : ∀ x ∈ W, Good Tryz.prog x.1 x.2) {r : Rec} (h : okB W r = true) : Good Tryz.prog r.f (orcRec r) := good_recF mixedP (orcL_ok hW) h
theorem all_hd {W : List (FuncId × Word)} {r : Rec} {l : List Rec} (h : (r :: l).all (okB W) = true) : okB W r = true := by rw [List.all_cons, Bool.and_eq_true] at h; exact h.1
theorem all_tl {W : List (FuncId × Word)} {r : Rec} {l : List Rec} (h : (r :: l).all (okB W) = true) : l.all (okB W) = true := by rw [List.all_cons, Bool.and_eq_true] at h; exact h.2

def orIf (c : List Value → Hp → Bool) (g k : Word) : Word := fun args h => Bool.rec (motive := fun _ => Option (Value × Hp)) (k args h) (g args h) (c args h)
theorem Good.ite {P : Program} {f : FuncId} {c} {g k : Word} (hg : Good P f g) (hk : Good P f k) : Good P f (orIf c g k) := by
  refine ⟨hg.1, fun T ht args h v h' he => ?_⟩
  unfold orIf at he
  cases hc : c args h with
  | true => rw [hc] at he; exact hg.2 T ht args h v h' he
  | false => rw [hc] at he; exact hk.2 T ht args h v h' he

/-- The first two words of a row that an argument names, as one number. -/
def keyC (l : List Value) : Int := match l with
  | x :: y :: _ => match intV x, intV y with
    | some a, some b => iadd (imul a 2000003) b
    | _, _ => 0
  | _ => 0
def keyB (b : Option Blk) (o : Nat) : Int := match b with
  | some (.cells c _ _) => keyC (ldrop c o)
  | _ => 0
def keyS (args : List Value) (h : Hp) : Int := match args with
  | v :: _ => match slcV v with
    | some (a, _) => keyB (gT h.tr a.block) a.off
    | none => 0
  | [] => 0
/-- Is the key less? -/
def ltK (m : Int) (args : List Value) (h : Hp) : Bool := gl (keyS args h) m

end
end Go.Ev
namespace Go.Proofs.YtcgghcicnanliaaGreatDoor
open Go.RowKit
set_option maxRecDepth 100000
set_option maxHeartbeats 4000000

theorem leaves_37 : leaves Tryz.prog 5 37 = some [3, 3, 3, 3, 3, 3, 22, 23, 24, 3, 3, 3, 3, 3, 3, 3, 3, 3, 3, 3, 3, 31, 34, 35] := by kernel_rfl
theorem leaves_40 : leaves Tryz.prog 5 40 = some [3, 3, 3, 3, 3, 3, 3, 3, 3, 3, 3, 3] := by kernel_rfl
theorem cellsOf_40 : Tryz.prog.cellsOf 40 = 12 := by kernel_rfl
theorem leaves_43 : leaves Tryz.prog 5 43 = some [3, 3] := by kernel_rfl
theorem cellsOf_43 : Tryz.prog.cellsOf 43 = 2 := by kernel_rfl
theorem leaves_110 : leaves Tryz.prog 5 110 = some [3, 3, 3, 4] := by kernel_rfl
theorem cellsOf_110 : Tryz.prog.cellsOf 110 = 4 := by kernel_rfl
theorem leaves_112 : leaves Tryz.prog 5 112 = some [3, 3, 3] := by kernel_rfl
theorem cellsOf_112 : Tryz.prog.cellsOf 112 = 3 := by kernel_rfl
theorem leaves_93 : leaves Tryz.prog 5 93 = some [3, 76] := by kernel_rfl
theorem cellsOf_93 : Tryz.prog.cellsOf 93 = 2 := by kernel_rfl
theorem leaves_30 : leaves Tryz.prog 5 30 = some [3, 3, 3, 3, 3, 3, 3, 3, 3] := by kernel_rfl
theorem cellsOf_30 : Tryz.prog.cellsOf 30 = 9 := by kernel_rfl
theorem leaves_148 : leaves Tryz.prog 5 148 = some [3, 3, 3, 3, 3, 3] := by kernel_rfl
theorem cellsOf_148 : Tryz.prog.cellsOf 148 = 6 := by kernel_rfl
theorem leaves_114 : leaves Tryz.prog 5 114 = some [3, 3, 3] := by kernel_rfl
theorem cellsOf_114 : Tryz.prog.cellsOf 114 = 3 := by kernel_rfl
theorem i64_of_wf {z : Int} (h : (Lit.int .i64 z).wf = true) : I64 z := by
  simp [Lit.wf, IntKind.min, IntKind.max, IntKind.signed, IntKind.bits] at h
  unfold I64
  omega
section
variable {H : Type} {enc : TypeId × Value → H} {W : World} {base : Nat} {spare : Nat → Bool} {held : Bool}
theorem cell_of {es : List Value} (h : Reads enc Tryz.prog W base spare held [3, 3, 3, 4] es) : ∃ x : CellT, encCell x = es := by
  obtain ⟨a0, h0, w0⟩ := h.int 0 Tryz.underlying3 rfl
  obtain ⟨a1, h1, w1⟩ := h.int 1 Tryz.underlying3 rfl
  obtain ⟨a2, h2, w2⟩ := h.int 2 Tryz.underlying3 rfl
  obtain ⟨a3, h3⟩ := h.bool 3 Tryz.underlying4 rfl
  refine ⟨⟨a0, a1, a2, a3⟩, ?_⟩
  refine List.ext_getElem? fun i => ?_
  rcases i with _ | _ | _ | _ | i
  · exact h0.symm
  · exact h1.symm
  · exact h2.symm
  · exact h3.symm
  · exact (List.getElem?_eq_none (by simp [encCell])).trans (List.getElem?_eq_none (by rw [h.1]; simp)).symm
theorem beacon_of {es : List Value} (h : Reads enc Tryz.prog W base spare held [3, 3, 3] es) : ∃ x : BeaconT, (I64 x.id ∧ I64 x.at_.1 ∧ I64 x.at_.2) ∧ encBeacon x = es := by
  obtain ⟨a0, h0, w0⟩ := h.int 0 Tryz.underlying3 rfl
  obtain ⟨a1, h1, w1⟩ := h.int 1 Tryz.underlying3 rfl
  obtain ⟨a2, h2, w2⟩ := h.int 2 Tryz.underlying3 rfl
  refine ⟨⟨a0, (a1, a2)⟩, ⟨i64_of_wf w0, i64_of_wf w1, i64_of_wf w2⟩, ?_⟩
  refine List.ext_getElem? fun i => ?_
  rcases i with _ | _ | _ | i
  · exact h0.symm
  · exact h1.symm
  · exact h2.symm
  · exact (List.getElem?_eq_none (by simp [encBeacon])).trans (List.getElem?_eq_none (by rw [h.1]; simp)).symm
theorem pt_of {es : List Value} (h : Reads enc Tryz.prog W base spare held [3, 3] es) : ∃ x : Pt, (I64 x.1 ∧ I64 x.2) ∧ encP x = es := by
  obtain ⟨a0, h0, w0⟩ := h.int 0 Tryz.underlying3 rfl
  obtain ⟨a1, h1, w1⟩ := h.int 1 Tryz.underlying3 rfl
  refine ⟨(a0, a1), ⟨i64_of_wf w0, i64_of_wf w1⟩, ?_⟩
  refine List.ext_getElem? fun i => ?_
  rcases i with _ | _ | i
  · exact h0.symm
  · exact h1.symm
  · exact (List.getElem?_eq_none (by simp [encP])).trans (List.getElem?_eq_none (by rw [h.1]; simp)).symm
theorem flow_of {es : List Value} (h : Reads enc Tryz.prog W base spare held [3, 3, 3, 3, 3, 3, 3, 3, 3] es) : ∃ x : FlowT, FlowT.vals x = es := by
  obtain ⟨a0, h0, w0⟩ := h.int 0 Tryz.underlying3 rfl
  obtain ⟨a1, h1, w1⟩ := h.int 1 Tryz.underlying3 rfl
  obtain ⟨a2, h2, w2⟩ := h.int 2 Tryz.underlying3 rfl
  obtain ⟨a3, h3, w3⟩ := h.int 3 Tryz.underlying3 rfl
  obtain ⟨a4, h4, w4⟩ := h.int 4 Tryz.underlying3 rfl
  obtain ⟨a5, h5, w5⟩ := h.int 5 Tryz.underlying3 rfl
  obtain ⟨a6, h6, w6⟩ := h.int 6 Tryz.underlying3 rfl
  obtain ⟨a7, h7, w7⟩ := h.int 7 Tryz.underlying3 rfl
  obtain ⟨a8, h8, w8⟩ := h.int 8 Tryz.underlying3 rfl
  refine ⟨⟨a0, a1, a2, a3, a4, a5, a6, a7, a8⟩, ?_⟩
  refine List.ext_getElem? fun i => ?_
  rcases i with _ | _ | _ | _ | _ | _ | _ | _ | _ | i
  · exact h0.symm
  · exact h1.symm
  · exact h2.symm
  · exact h3.symm
  · exact h4.symm
  · exact h5.symm
  · exact h6.symm
  · exact h7.symm
  · exact h8.symm
  · exact (List.getElem?_eq_none (by simp [FlowT.vals])).trans (List.getElem?_eq_none (by rw [h.1]; simp)).symm
theorem row_of {es : List Value} (h : Reads enc Tryz.prog W base spare held [3, 3, 3, 3, 3, 3] es) : ∃ x : RowT, encRow x = es := by
  obtain ⟨a0, h0, w0⟩ := h.int 0 Tryz.underlying3 rfl
  obtain ⟨a1, h1, w1⟩ := h.int 1 Tryz.underlying3 rfl
  obtain ⟨a2, h2, w2⟩ := h.int 2 Tryz.underlying3 rfl
  obtain ⟨a3, h3, w3⟩ := h.int 3 Tryz.underlying3 rfl
  obtain ⟨a4, h4, w4⟩ := h.int 4 Tryz.underlying3 rfl
  obtain ⟨a5, h5, w5⟩ := h.int 5 Tryz.underlying3 rfl
  refine ⟨⟨a0, a1, a2, a3, a4, a5⟩, ?_⟩
  refine List.ext_getElem? fun i => ?_
  rcases i with _ | _ | _ | _ | _ | _ | i
  · exact h0.symm
  · exact h1.symm
  · exact h2.symm
  · exact h3.symm
  · exact h4.symm
  · exact h5.symm
  · exact (List.getElem?_eq_none (by simp [encRow])).trans (List.getElem?_eq_none (by rw [h.1]; simp)).symm
theorem water_of {es : List Value} (h : Reads enc Tryz.prog W base spare held [3, 3, 3] es) : ∃ x : WaterT, WaterT.vals x = es := by
  obtain ⟨a0, h0, w0⟩ := h.int 0 Tryz.underlying3 rfl
  obtain ⟨a1, h1, w1⟩ := h.int 1 Tryz.underlying3 rfl
  obtain ⟨a2, h2, w2⟩ := h.int 2 Tryz.underlying3 rfl
  refine ⟨⟨a0, a1, a2⟩, ?_⟩
  refine List.ext_getElem? fun i => ?_
  rcases i with _ | _ | _ | i
  · exact h0.symm
  · exact h1.symm
  · exact h2.symm
  · exact (List.getElem?_eq_none (by simp [WaterT.vals])).trans (List.getElem?_eq_none (by rw [h.1]; simp)).symm
theorem entry_of {es : List Value} (h : Reads enc Tryz.prog W base spare held [3, 3, 3, 3, 3, 3, 3, 3, 3, 3, 3, 3] es) : ∃ x : EntryT, EntryT.vals x = es := by
  obtain ⟨a0, h0, w0⟩ := h.int 0 Tryz.underlying3 rfl
  obtain ⟨a1, h1, w1⟩ := h.int 1 Tryz.underlying3 rfl
  obtain ⟨a2, h2, w2⟩ := h.int 2 Tryz.underlying3 rfl
  obtain ⟨a3, h3, w3⟩ := h.int 3 Tryz.underlying3 rfl
  obtain ⟨a4, h4, w4⟩ := h.int 4 Tryz.underlying3 rfl
  obtain ⟨a5, h5, w5⟩ := h.int 5 Tryz.underlying3 rfl
  obtain ⟨a6, h6, w6⟩ := h.int 6 Tryz.underlying3 rfl
  obtain ⟨a7, h7, w7⟩ := h.int 7 Tryz.underlying3 rfl
  obtain ⟨a8, h8, w8⟩ := h.int 8 Tryz.underlying3 rfl
  obtain ⟨a9, h9, w9⟩ := h.int 9 Tryz.underlying3 rfl
  obtain ⟨a10, h10, w10⟩ := h.int 10 Tryz.underlying3 rfl
  obtain ⟨a11, h11, w11⟩ := h.int 11 Tryz.underlying3 rfl
  refine ⟨⟨a0, a1, a2, a3, a4, a5, a6, a7, a8, a9, a10, a11⟩, ?_⟩
  refine List.ext_getElem? fun i => ?_
  rcases i with _ | _ | _ | _ | _ | _ | _ | _ | _ | _ | _ | _ | i
  · exact h0.symm
  · exact h1.symm
  · exact h2.symm
  · exact h3.symm
  · exact h4.symm
  · exact h5.symm
  · exact h6.symm
  · exact h7.symm
  · exact h8.symm
  · exact h9.symm
  · exact h10.symm
  · exact h11.symm
  · exact (List.getElem?_eq_none (by simp [EntryT.vals])).trans (List.getElem?_eq_none (by rw [h.1]; simp)).symm
theorem line_of {es : List Value} (h : Reads enc Tryz.prog W base spare held [3, 76] es) : ∃ x : LineT, (Sl encP 2 W x.A x.pts ∧ I64 x.id ∧ ∀ p ∈ x.pts, I64 p.1 ∧ I64 p.2) ∧ encLine x = es := by
  obtain ⟨a0, h0, w0⟩ := h.int 0 Tryz.underlying3 rfl
  obtain ⟨A, len, cap, h1, _, _, hA, hel⟩ := h.slice 1 Tryz.underlying76 leaves_43 cellsOf_43 rfl
  obtain ⟨l, hl, hq, hS⟩ := Sl.of_cells (Q := fun p : Pt => I64 p.1 ∧ I64 p.2) (enc := encP) (k := 2) (fun _ => rfl) (by omega) (fun e => (hA e).1) (fun a ha j hj => by
    obtain ⟨es, h2, h3⟩ := hel a ha j hj
    obtain ⟨x, hx, rfl⟩ := pt_of h2
    exact ⟨x, hx, h3⟩)
  refine ⟨⟨a0, A, cap, l⟩, ⟨hS, i64_of_wf w0, hq⟩, ?_⟩
  refine List.ext_getElem? fun i => ?_
  rcases i with _ | _ | i
  · exact h0.symm
  · rw [h1, ← hl]; rfl
  · exact (List.getElem?_eq_none (by simp [encLine])).trans (List.getElem?_eq_none (by rw [h.1]; simp)).symm
theorem env_of {cs : List Value} (h : Reads enc Tryz.prog W base spare held [3, 3, 3, 3, 3, 3, 22, 23, 24, 3, 3, 3, 3, 3, 3, 3, 3, 3, 3, 3, 3, 31, 34, 35] cs) : ∃ e : EnvT, e.Raw W ∧ e.vals = cs := by
  obtain ⟨a0, h0, w0⟩ := h.int 0 Tryz.underlying3 rfl
  obtain ⟨a1, h1, w1⟩ := h.int 1 Tryz.underlying3 rfl
  obtain ⟨a2, h2, w2⟩ := h.int 2 Tryz.underlying3 rfl
  obtain ⟨a3, h3, w3⟩ := h.int 3 Tryz.underlying3 rfl
  obtain ⟨a4, h4, w4⟩ := h.int 4 Tryz.underlying3 rfl
  obtain ⟨a5, h5, w5⟩ := h.int 5 Tryz.underlying3 rfl
  obtain ⟨a9, h9, w9⟩ := h.int 9 Tryz.underlying3 rfl
  obtain ⟨a10, h10, w10⟩ := h.int 10 Tryz.underlying3 rfl
  obtain ⟨a11, h11, w11⟩ := h.int 11 Tryz.underlying3 rfl
  obtain ⟨a12, h12, w12⟩ := h.int 12 Tryz.underlying3 rfl
  obtain ⟨a13, h13, w13⟩ := h.int 13 Tryz.underlying3 rfl
  obtain ⟨a14, h14, w14⟩ := h.int 14 Tryz.underlying3 rfl
  obtain ⟨a15, h15, w15⟩ := h.int 15 Tryz.underlying3 rfl
  obtain ⟨a16, h16, w16⟩ := h.int 16 Tryz.underlying3 rfl
  obtain ⟨a17, h17, w17⟩ := h.int 17 Tryz.underlying3 rfl
  obtain ⟨a18, h18, w18⟩ := h.int 18 Tryz.underlying3 rfl
  obtain ⟨a19, h19, w19⟩ := h.int 19 Tryz.underlying3 rfl
  obtain ⟨a20, h20, w20⟩ := h.int 20 Tryz.underlying3 rfl
  obtain ⟨Ac, lenc, capc, h6, _, _, hAc, helc⟩ := h.slice 6 Tryz.underlying22 leaves_110 cellsOf_110 rfl
  obtain ⟨lc, hlc, hqc, hSc⟩ := Sl.of_cells (Q := fun x : CellT => True) (enc := encCell) (k := 4) (fun _ => rfl) (by omega) (fun e => (hAc e).1) (fun a ha j hj => by
    obtain ⟨es, g2, g3⟩ := helc a ha j hj
    obtain ⟨x, rfl⟩ := cell_of g2
    exact ⟨x, trivial, g3⟩)
  obtain ⟨Ab, lenb, capb, h7, _, _, hAb, helb⟩ := h.slice 7 Tryz.underlying23 leaves_112 cellsOf_112 rfl
  obtain ⟨lb, hlb, hqb, hSb⟩ := Sl.of_cells (Q := fun x : BeaconT => I64 x.id ∧ I64 x.at_.1 ∧ I64 x.at_.2) (enc := encBeacon) (k := 3) (fun _ => rfl) (by omega) (fun e => (hAb e).1) (fun a ha j hj => by
    obtain ⟨es, g2, g3⟩ := helb a ha j hj
    obtain ⟨x, hx, rfl⟩ := beacon_of g2
    exact ⟨x, hx, g3⟩)
  obtain ⟨Al, lenl, capl, h8, _, _, hAl, hell⟩ := h.slice 8 Tryz.underlying24 leaves_93 cellsOf_93 rfl
  obtain ⟨ll, hll, hql, hSl⟩ := Sl.of_cells (Q := fun x : LineT => Sl encP 2 W x.A x.pts ∧ I64 x.id ∧ ∀ p ∈ x.pts, I64 p.1 ∧ I64 p.2) (enc := encLine) (k := 2) (fun _ => rfl) (by omega) (fun e => (hAl e).1) (fun a ha j hj => by
    obtain ⟨es, g2, g3⟩ := hell a ha j hj
    obtain ⟨x, hx, rfl⟩ := line_of g2
    exact ⟨x, hx, g3⟩)
  obtain ⟨Af, lenf, capf, h21, _, _, hAf, helf⟩ := h.slice 21 Tryz.underlying31 leaves_30 cellsOf_30 rfl
  obtain ⟨lf, hlf, hqf, hSf⟩ := Sl.of_cells (Q := fun x : FlowT => True) (enc := FlowT.vals) (k := 9) (fun _ => rfl) (by omega) (fun e => (hAf e).1) (fun a ha j hj => by
    obtain ⟨es, g2, g3⟩ := helf a ha j hj
    obtain ⟨x, rfl⟩ := flow_of g2
    exact ⟨x, trivial, g3⟩)
  obtain ⟨Ar, lenr, capr, h22, _, _, hAr, helr⟩ := h.slice 22 Tryz.underlying34 leaves_148 cellsOf_148 rfl
  obtain ⟨lr, hlr, hqr, hSr⟩ := Sl.of_cells (Q := fun x : RowT => True) (enc := encRow) (k := 6) (fun _ => rfl) (by omega) (fun e => (hAr e).1) (fun a ha j hj => by
    obtain ⟨es, g2, g3⟩ := helr a ha j hj
    obtain ⟨x, rfl⟩ := row_of g2
    exact ⟨x, trivial, g3⟩)
  obtain ⟨Aw, lenw, capw, h23, _, _, hAw, helw⟩ := h.slice 23 Tryz.underlying35 leaves_114 cellsOf_114 rfl
  obtain ⟨lw, hlw, hqw, hSw⟩ := Sl.of_cells (Q := fun x : WaterT => True) (enc := WaterT.vals) (k := 3) (fun _ => rfl) (by omega) (fun e => (hAw e).1) (fun a ha j hj => by
    obtain ⟨es, g2, g3⟩ := helw a ha j hj
    obtain ⟨x, rfl⟩ := water_of g2
    exact ⟨x, trivial, g3⟩)
  refine ⟨⟨⟨a0, a1, a2, a3, a4, a5, Ac, capc, lc, Ab, capb, lb, Al, capl, ll⟩, ⟨a9, a10, a11, ⟨a12, a13, a14, a15, a16, a17, a18, a19, a20⟩, Af, capf, lf⟩, Ar, capr, lr, Aw, capw, lw⟩, ⟨hSc, hSb, hSl, fun x hx => (hql x hx).1, i64_of_wf w1, i64_of_wf w2, hqb, fun x hx => (hql x hx).2, hSf, hSr, hSw⟩, ?_⟩
  refine List.ext_getElem? fun i => ?_
  rcases i with _ | _ | _ | _ | _ | _ | _ | _ | _ | _ | _ | _ | _ | _ | _ | _ | _ | _ | _ | _ | _ | _ | _ | _ | i
  · exact h0.symm
  · exact h1.symm
  · exact h2.symm
  · exact h3.symm
  · exact h4.symm
  · exact h5.symm
  · rw [h6, ← hlc]; rfl
  · rw [h7, ← hlb]; rfl
  · rw [h8, ← hll]; rfl
  · exact h9.symm
  · exact h10.symm
  · exact h11.symm
  · exact h12.symm
  · exact h13.symm
  · exact h14.symm
  · exact h15.symm
  · exact h16.symm
  · exact h17.symm
  · exact h18.symm
  · exact h19.symm
  · exact h20.symm
  · rw [h21, ← hlf]; rfl
  · rw [h22, ← hlr]; rfl
  · rw [h23, ← hlw]; rfl
  · exact (List.getElem?_eq_none (by simp [EnvT.vals, ChartT.vals, TideT.vals, FlowT.vals])).trans (List.getElem?_eq_none (by rw [h.1]; simp)).symm
end
end Go.Proofs.YtcgghcicnanliaaGreatDoor
