/- Walks: the law SenseWider. Conditions: what lies behind an environment's slices. -/
import Derived.Test.YtcgghcicnanliaaGreatDoorProg
import Derived.Test.YtcgghcicnanliaaGreatDoorM33
import Derived.Test.YtcgghcicnanliaaGreatDoorM28
import Derived.Test.YtcgghcicnanliaaGreatDoorM21
import Derived.Test.YtcgghcicnanliaaGreatDoorM09
import Derived.Test.YtcgghcicnanliaaGreatDoorM29
import Derived.Test.YtcgghcicnanliaaGreatDoorM43
set_option linter.unusedVariables false
set_option linter.unusedSimpArgs false
namespace Go
open Go.RowKit
/-- In a drawn region a whole block is loaded. -/
theorem wpQuiet_load_row {P : Program} {ops : Array Oper} {C : World → Prop} {Q : Act → Prop} {rest : List Oper} {o : Oper} {a : Act} (hw : Region.wanted o (yielded ops a.tmps) = true) (ty : TypeId) (x : Operand) (ho : o.op = .load ty x)
    (g : Nat) (hx : a.eval x = .pointer (some ⟨g, 0, none⟩)) (t : TypeId) (cs : Array Value) (fr : Nat × Nat) (d : TypeDesc) (hg : ∀ W, C W → W.heap[g]? = some (.cells cs t fr))
    (hu : P.underlying ty = some d) (hd : (match d with | .struct _ | .array _ _ => true | _ => false) = true) (hi : (P.info? ty).map (·.size) = some cs.size)
    (h : wpQuiet P ops C Q rest (a.put o.dst (.agg cs))) : wpQuiet P ops C Q (o :: rest) a := by
  unfold wpQuiet
  rw [if_pos hw]
  refine ⟨_, fun W hW => ?_, h⟩
  unfold Oper.quietAt execOp
  simp only [ho, hx, Instr.loadAt, Instr.sureAddr, Sem.run_bind, Sem.run_pure, Result.andThen_ok, run_loadVar_row W g t ty cs fr d (hg W hW) hu hd hi]
  exact ⟨rfl, rfl⟩
end Go
namespace Go.Proofs.YtcgghcicnanliaaGreatDoor
open Go.RowKit
set_option maxHeartbeats 8000000
set_option maxRecDepth 100000

/-- The law's head. -/
theorem head_9 (w : World) : Calls Tryz.prog 9 #[] w fun e w' => e = .returned (.bool true) ∧ Ext w w' :=
  (Go.Ev.closed_true Go.Ev.mixedP (Go.Ev.orcL_ok Go.Ev.words9_good) (args := []) rfl (by rw [← Go.Ev.evK_eq, ← Go.Ev.evF_eq]; exact Go.Ev.head_eq) w).mono fun e w' ⟨h1, h2, h3, h4, h5, h6⟩ => ⟨h1, ⟨h4, h5, h6, h2, h3⟩⟩

theorem means_wider (e : EnvT) (o : EntryT) (low high : Int) : meansB e (widerT o low high) = meansB e o := by
  have h : (widerT o low high).kind = o.kind ∧ (widerT o low high).ref = o.ref := by
    unfold widerT
    repeat' split
    all_goals exact ⟨rfl, rfl⟩
  unfold meansB
  rw [h.1, h.2]
theorem EnvT.Raw.ext {e : EnvT} {W W' : World} (h : e.Raw W) (hx : Ext W W') : e.Raw W' :=
  ⟨h.cells.ext hx, h.beacons.ext hx, h.lines.ext hx, fun l hl => (h.pts l hl).ext hx, h.ix, h.iy, h.ib, h.il, h.tide.ext hx, h.rows.ext hx, h.waters.ext hx⟩

theorem law_7 (e : EnvT) (o : EntryT) (x : Pt) (low high : Int) (w : World) (R : e.Raw w) (hl : 0 ≤ low ∧ low ≤ 65535) (hh : 0 ≤ high ∧ high ≤ 65535) :
    Calls Tryz.prog 7 #[.agg e.vals.toArray, .agg o.vals.toArray, .agg #[.int .i64 x.1, .int .i64 x.2], .int .u16 low, .int .u16 high] w fun r w' => r = .returned (.bool true) ∧ Ext w w' := by
  obtain ⟨U, hU⟩ : ∃ U : Prop, (e.Few ∧ envOk e = true ∧ o.Seen ∧ meansB e o = true) = U := ⟨_, rfl⟩
  have K1 := Lib.hid head_9
  have K2 := Lib.hid (fun W (hx : Ext w W) => usable_24 e o W (R.ext hx))
  have K3 := Lib.hid (place_26 x)
  have K4 : Hid (U → plB x = true → ∀ W, Ext w W → Calls Tryz.prog 16 #[.agg e.vals.toArray, .agg o.vals.toArray, .agg #[.int .i64 x.1, .int .i64 x.2]] W fun r w' => r = .returned (.tuple #[.bool (holdsB e o x), .int .i64 0]) ∧ Ext W w') :=
    fun hu hp W hx => by rw [← hU] at hu; exact true_16 e o x W ((R.lies hu.1).ext hx) hu.2.1 hu.2.2.1 hu.2.2.2 hp
  have K5 : Hid (U → ∀ W, Calls Tryz.prog 33 #[.agg o.vals.toArray, .int .u16 low, .int .u16 high] W fun r w' => r = .returned (.agg (widerT o low high).vals.toArray) ∧ Ext W w') :=
    fun hu W => by rw [← hU] at hu; exact wider_33 o low high hu.2.2.1 hl hh W
  have K6 : Hid (U → plB x = true → ∀ W, Ext w W → Calls Tryz.prog 16 #[.agg e.vals.toArray, .agg (widerT o low high).vals.toArray, .agg #[.int .i64 x.1, .int .i64 x.2]] W fun r w' => r = .returned (.tuple #[.bool (holdsB e (widerT o low high) x), .int .i64 0]) ∧ Ext W w') :=
    fun hu hp W hx => by rw [← hU] at hu; exact true_16 e (widerT o low high) x W ((R.lies hu.1).ext hx) hu.2.1 (hu.2.2.1.wider hl.1 hh.1) ((means_wider e o low high).trans hu.2.2.2) hp
  have K7 : Hid (U → holdsB e o x = true → holdsB e (widerT o low high) x = true) := fun hu h => by rw [← hU] at hu; exact holds_wider e o x hu.2.2.1 hl.1 hh.1 h
  rw [hU] at K2
  have hsz := e.size
  have hsz2 := o.size
  generalize holdsB e o x = a1 at K4 K7
  generalize holdsB e (widerT o low high) x = a2 at K6 K7
  generalize e.vals.toArray = ev at K2 K4 K6 hsz ⊢
  generalize (widerT o low high).vals.toArray = ov2 at K5 K6
  generalize o.vals.toArray = ov at K2 K4 K5 hsz2 ⊢
  generalize plB x = px at K3 K4 K6
  obtain ⟨x1, x2⟩ := x
  simp only at K3 K4 K6 ⊢
  clear hU R hl hh
  have KL := Lib.hid (info37.trans (congrArg some hsz.symm))
  have KM := Lib.hid (info40.trans (congrArg some hsz2.symm))
  have KX := Lib.hid (two_boxes w ev ov 37 40)
  clear hsz hsz2
  cases px <;> cases a1 <;> cases a2
  all_goals
    go_enter Tryz.func7, Tryz.ntmps7
    go_wp2_with (first
      | (refine wpList_load_rowG (by rfl) 37 _ rfl _ rfl 37 ev _ _ (KX.out _ xt).1 Tryz.underlying37 rfl KL.out ?_)
      | (refine wpList_load_rowG (by rfl) 40 _ rfl _ rfl 40 ov _ _ (KX.out _ xt).2 Tryz.underlying40 rfl KM.out ?_)
      | (go_at_call 9; refine (K1.out _).mono ?_; rintro e w1 ⟨rfl, hb1⟩; obtain ⟨hc1, hf1, hz1⟩ := hb1.rules; (try simp only [World.size_alloc] at hz1); (have hzz1 : w.heap.size + 1 + 1 < w1.heap.size := by omega); (have hzy1 : w.heap.size + 1 < w1.heap.size := by omega))
      | (go_at_call 24; refine (K2.out _ xt).mono ?_; rintro e w2 ⟨⟨b, hb, rfl⟩, hb2⟩; have HU := Lib.hid hb; clear hb; obtain ⟨hc2, hf2, hz2⟩ := hb2.rules; (have hzz2 : w.heap.size + 1 + 1 < w2.heap.size := by omega); (have hzy2 : w.heap.size + 1 < w2.heap.size := by omega); cases b)
      | (go_at_call 26; refine (K3.out _).mono ?_; rintro e w3 ⟨rfl, hb3⟩; obtain ⟨hc3, hf3, hz3⟩ := hb3.rules; (have hzz3 : w.heap.size + 1 + 1 < w3.heap.size := by omega); (have hzy3 : w.heap.size + 1 < w3.heap.size := by omega))
      | (go_at_call 16; refine (K4.out (HU.out (by first | rfl | trivial)) (by first | rfl | trivial) _ xt).mono ?_; rintro e w4 ⟨rfl, hb4⟩; obtain ⟨hc4, hf4, hz4⟩ := hb4.rules; (have hzz4 : w.heap.size + 1 + 1 < w4.heap.size := by omega); (have hzy4 : w.heap.size + 1 < w4.heap.size := by omega)))
  all_goals first
    | (go_ret; exact ⟨retb (by simp), xt⟩)
    | skip
  all_goals
    refine wp_region_ext (by kernel_rfl) (by kernel_rfl) ?_
    repeat (first
      | (refine wpQuiet_load_row (by rfl) 37 _ rfl _ rfl 37 ev (0, 0) _ (fun W hW => ?qa) Tryz.underlying37 rfl KL.out ?_; case qa => (obtain ⟨xq, rfl⟩ := hW; exact (KX.out _ (Ext.trans xt xq.ext)).1))
      | (refine wpQuiet_load_row (by rfl) 40 _ rfl _ rfl 40 ov (0, 0) _ (fun W hW => ?qa) Tryz.underlying40 rfl KM.out ?_; case qa => (obtain ⟨xq, rfl⟩ := hW; exact (KX.out _ (Ext.trans xt xq.ext)).2))
      | go_big_quiet_step (first | (go_at_call 33; exact Xt.calls (K5.out (HU.out (by first | rfl | trivial)) _)) | (go_at_call 16; exact Xt.calls (K6.out (HU.out (by first | rfl | trivial)) (by first | rfl | trivial) _ (Ext.trans xt (Xt.ext _)))))
      | quiet_step (first | (go_at_call 33; exact Xt.calls (K5.out (HU.out (by first | rfl | trivial)) _)) | (go_at_call 16; exact Xt.calls (K6.out (HU.out (by first | rfl | trivial)) (by first | rfl | trivial) _ (Ext.trans xt (Xt.ext _))))))
    refine wpQuiet_nil ?_
    rintro _ ⟨xq, rfl⟩
    have hx2 := xq.ext
    generalize xq.world = w5 at hx2 ⊢
    go_wp2
    first
      | (exfalso; have := K7.out (HU.out (by first | rfl | trivial)); simp at this; done)
      | (go_ret; exact ⟨retb (by simp), xt⟩)
end Go.Proofs.YtcgghcicnanliaaGreatDoor
