/- Plain laws: what is true at a place, and that an observation that says less is true there, too. No program. Conditions: none. Walks: line.Close. Conditions: a line that is right, a place, a distance. Walks: sense.observer.holds at lines. Conditions: a place; an observation that is right; a line that is right. -/
import Derived.Test.YtcgghcicnanliaaGreatDoorM23
import Derived.Test.YtcgghcicnanliaaGreatDoorM17
import Derived.Test.YtcgghcicnanliaaGreatDoorM24
import Derived.Test.YtcgghcicnanliaaGreatDoorM27
import Derived.Test.YtcgghcicnanliaaGreatDoorM26
import Derived.Test.YtcgghcicnanliaaGreatDoorM28
import Derived.Test.YtcgghcicnanliaaGreatDoorProg
import Derived.Test.YtcgghcicnanliaaGreatDoorM25
set_option linter.unusedVariables false
set_option linter.unusedSimpArgs false
namespace Go.Proofs.YtcgghcicnanliaaGreatDoor
set_option maxRecDepth 100000

/-- The height of the tide at a place. -/
def heightB (t : TideT) (x : Pt) (time : Int) : Sp := let f := ofF t (x.1 / 10000) (x.2 / 10000) ((time - t.start) / 3600); (f.hlo, f.hhi)
/-- The beacon and the line of an observation. -/
def atB (e : EnvT) (o : EntryT) : Pt := ((firstId BeaconT.id o.ref e.chart.beacons).getD ⟨0, (0, 0)⟩).at_
def pathB (e : EnvT) (o : EntryT) : List Pt := ((firstId LineT.id o.ref e.chart.lines).getD ⟨0, none, 0, []⟩).pts
/-- line.Close. -/
def closeB (ps : List Pt) (x : Pt) (d : Int) : Bool := (List.range (ps.length - 1)).any fun i => nearB (segG ps i).1 (segG ps i).2 x d
def echoB (e : EnvT) (o : EntryT) (x : Pt) : Bool := match (rectL e.chart x x).head? with
  | none => true
  | some i => match e.chart.cells[i.toNat]? with
    | none => true
    | some y => fitsB y (heightB e.tide x o.time) (o.lo, o.hi)
/-- sense.observer.holds. -/
def holdsB (e : EnvT) (o : EntryT) (x : Pt) : Bool :=
  if o.kind = 2 then echoB e o x
  else if o.kind = 3 then decide (o.lo * o.lo ≤ sqP x (atB e o)) && decide (sqP x (atB e o) ≤ o.hi * o.hi)
  else if o.kind = 4 then decide (x = atB e o) || betweenB o.a.toNat o.n.toNat (subP (atB e o) x)
  else if o.kind = 5 then closeB (pathB e o) x o.hi
  else if o.kind = 6 then decide (o.lo * o.lo ≤ sqP x (atB e o))
  else true

theorem sq_mono {a b : Int} (h0 : 0 ≤ a) (h : a ≤ b) : a * a ≤ b * b := Int.mul_le_mul h h h0 (by omega)
theorem dot_self (u : Pt) : 0 ≤ dotV u u := by
  have h1 : 0 ≤ u.1 * u.1 := by rcases Int.le_total 0 u.1 with h | h; exact Int.mul_nonneg h h; exact Int.mul_nonneg_of_nonpos_of_nonpos h h
  have h2 : 0 ≤ u.2 * u.2 := by rcases Int.le_total 0 u.2 with h | h; exact Int.mul_nonneg h h; exact Int.mul_nonneg_of_nonpos_of_nonpos h h
  simp only [dotV]; omega
theorem near_mono {u v z : Pt} {d d' : Int} (h0 : 0 ≤ d) (hd : d ≤ d') (h : nearV u v z d = true) : nearV u v z d' = true := by
  have hs := sq_mono h0 hd
  unfold nearV at h ⊢
  split
  · rename_i hc
    rw [if_pos hc] at h
    simp only [decide_eq_true_eq] at h ⊢
    omega
  · rename_i hc
    rw [if_neg hc] at h
    split
    · rename_i hc2
      rw [if_pos hc2] at h
      simp only [decide_eq_true_eq] at h ⊢
      omega
    · rename_i hc2
      rw [if_neg hc2] at h
      simp only [decide_eq_true_eq] at h ⊢
      have := Int.mul_le_mul_of_nonneg_right hs (dot_self u)
      omega
theorem close_mono {ps : List Pt} {x : Pt} {d d' : Int} (h0 : 0 ≤ d) (hd : d ≤ d') (h : closeB ps x d = true) : closeB ps x d' = true := by
  unfold closeB at h ⊢
  rw [List.any_eq_true] at h ⊢
  obtain ⟨i, hi, h⟩ := h
  exact ⟨i, hi, near_mono h0 hd h⟩
theorem fits_mono {y : CellT} {h : Sp} {a b a' b' : Int} (ha : a' ≤ a) (hb : b ≤ b') (hf : fitsB y h (a, b) = true) : fitsB y h (a', b') = true := by
  simp only [fitsB, Bool.or_eq_true, Bool.and_eq_true, decide_eq_true_eq] at hf ⊢
  rcases hf with h1 | ⟨h1, h2⟩
  · exact .inl h1
  · exact .inr ⟨by omega, by omega⟩
theorem echo_mono {e : EnvT} {o o' : EntryT} {x : Pt} (ht : o'.time = o.time) (ha : o'.lo ≤ o.lo) (hb : o.hi ≤ o'.hi) (h : echoB e o x = true) : echoB e o' x = true := by
  unfold echoB at h ⊢
  rw [ht]
  split
  · rfl
  · rename_i i hi
    rw [hi] at h
    simp only at h
    split
    · rfl
    · rename_i y hy
      rw [hy] at h
      exact fits_mono ha hb h
/-- An observation that says less is true, too. -/
theorem holds_wider (e : EnvT) (o : EntryT) (x : Pt) {low high : Int} (hs : o.Seen) (h1 : 0 ≤ low) (h2 : 0 ≤ high) (h : holdsB e o x = true) : holdsB e (widerT o low high) x = true := by
  obtain ⟨g1, g2, g3, g4, g5, g6⟩ := hs
  unfold holdsB at h
  rcases g6 with ⟨hk, g6⟩ | ⟨hk, g6⟩ | ⟨hk, g6⟩
  · rw [if_pos hk] at h
    have hw : widerT o low high = { o with lo := max (-100000) (o.lo - low), hi := min 100000 (o.hi + high) } := by unfold widerT; rw [if_pos hk]
    rw [hw]
    unfold holdsB
    rw [if_pos (by simpa using hk)]
    exact echo_mono (o := o) rfl (by simp only; omega) (by simp only; omega) h
  · rw [if_neg (by omega), if_neg (by omega), if_pos hk] at h
    have hw : widerT o low high = { o with a := (o.a - min (31 - o.n) (low % 4) + 64) % 64, n := min 31 (o.n + min (31 - o.n) (low % 4) + high % 4) } := by
      unfold widerT
      rw [if_neg (by omega), if_neg (by omega), if_neg (by omega), if_neg (by omega), if_pos hk]
    rw [hw]
    unfold holdsB
    simp only
    rw [if_neg (by omega), if_neg (by omega), if_pos hk]
    rw [Bool.or_eq_true] at h ⊢
    rcases h with h | h
    · exact .inl h
    · refine .inr ?_
      refine between_wider (m := (min (31 - o.n) (low % 4)).toNat) ?_ ?_ ?_ ?_ ?_ h <;> omega
  · rcases hk with hk | hk | hk | hk
    · rw [if_neg (by omega), if_pos hk] at h
      have hw : widerT o low high = { o with lo := max 0 (o.lo - low), hi := min 100000 (o.hi + high) } := by
        unfold widerT
        rw [if_neg (by omega), if_pos (by omega)]
      rw [hw]
      unfold holdsB
      simp only
      rw [if_neg (by omega), if_pos hk]
      simp only [Bool.and_eq_true, decide_eq_true_eq] at h ⊢
      have m1 := sq_mono (a := max 0 (o.lo - low)) (b := o.lo) (by omega) (by omega)
      have m2 := sq_mono (a := o.hi) (b := min 100000 (o.hi + high)) (by omega) (by omega)
      have e1 : atB e { o with lo := max 0 (o.lo - low), hi := min 100000 (o.hi + high) } = atB e o := rfl
      rw [e1]
      omega
    · rw [if_neg (by omega), if_neg (by omega), if_neg (by omega), if_pos hk] at h
      have hw : widerT o low high = { o with hi := min 100000 (o.hi + high) } := by
        unfold widerT
        rw [if_neg (by omega), if_neg (by omega), if_pos hk]
      rw [hw]
      unfold holdsB
      simp only
      rw [if_neg (by omega), if_neg (by omega), if_neg (by omega), if_pos hk]
      exact close_mono (by omega) (by omega) h
    · rw [if_neg (by omega), if_neg (by omega), if_neg (by omega), if_neg (by omega), if_pos hk] at h
      have hw : widerT o low high = { o with lo := max 0 (o.lo - low), hi := max 0 (o.lo - low) } := by
        unfold widerT
        rw [if_neg (by omega), if_neg (by omega), if_neg (by omega), if_pos hk]
      rw [hw]
      unfold holdsB
      simp only
      rw [if_neg (by omega), if_neg (by omega), if_neg (by omega), if_neg (by omega), if_pos hk]
      simp only [decide_eq_true_eq] at h ⊢
      have m1 := sq_mono (a := max 0 (o.lo - low)) (b := o.lo) (by omega) (by omega)
      have e1 : atB e { o with lo := max 0 (o.lo - low), hi := max 0 (o.lo - low) } = atB e o := rfl
      rw [e1]
      omega
    · have hk' : (widerT o low high).kind = 7 := by unfold widerT; rw [if_neg (by omega), if_pos (by omega)]; exact hk
      unfold holdsB
      rw [if_neg (by omega), if_neg (by omega), if_neg (by omega), if_neg (by omega), if_neg (by omega)]

/-- The cells of a rectangle are cells of the chart. -/
theorem rect_bd {t : ChartT} (hok : chartOk t = true) {a b : Pt} {i : Int} (h : i ∈ rectL t a b) : 0 ≤ i ∧ i.toNat < t.cells.length := by
  obtain ⟨⟨d1, d2, d3, d4, _, _⟩, _⟩ := chartOk_bds hok
  have hwh : t.w * t.h = t.cells.length := by
    simp only [chartOk, chartDims, Bool.and_eq_true, decide_eq_true_eq] at hok
    omega
  unfold rectL recL at h
  rw [List.mem_flatMap] at h
  obtain ⟨r, hr, h⟩ := h
  rw [List.mem_range] at hr
  unfold rowL at h
  rw [List.mem_map] at h
  obtain ⟨q, hq, rfl⟩ := h
  rw [List.mem_range] at hq
  generalize hY : max 0 (colI t.y t.size a.2) + (r : Int) = y at *
  generalize hX : max 0 (colI t.x t.size a.1) + (q : Int) = x at *
  have y0 : 0 ≤ y := by omega
  have y1 : y + 1 ≤ t.h := by omega
  have x0 : 0 ≤ x := by omega
  have x1 : x + 1 ≤ t.w := by omega
  have m1 : (y + 1) * t.w ≤ t.h * t.w := Int.mul_le_mul_of_nonneg_right y1 (by omega)
  have m0 : 0 ≤ y * t.w := Int.mul_nonneg y0 (by omega)
  rw [Int.add_mul, Int.one_mul] at m1
  rw [Int.mul_comm t.h t.w, hwh] at m1
  omega
/-- The height at a place is one. -/
theorem height_ok {t : TideT} (h : tideOk t = true) (x : Pt) (time : Int) : spanIn (heightB t x time).1 (heightB t x time).2 (-2000) 2000 = true := by
  simp only [tideOk, Bool.and_eq_true] at h
  obtain ⟨⟨⟨_, hr⟩, _⟩, hf⟩ := h
  have key : ∀ f : FlowT, f.ok = true → spanIn f.hlo f.hhi (-2000) 2000 = true := fun f hf => by
    simp only [FlowT.ok, Bool.and_eq_true] at hf
    rw [← within_eq _ _ _ (by omega)]; exact hf.2
  unfold heightB ofF
  simp only
  split
  · rename_i hb
    obtain ⟨f, hff⟩ := bsHit_some hb
    rw [hff]
    refine key f ?_
    have hj := (List.getElem?_eq_some_iff.1 hff).1
    have := List.all_eq_true.1 hf _ (List.mem_range.2 hj)
    unfold flowOkAt at this
    rw [hff] at this
    simp only [Bool.and_eq_true] at this
    exact this.1.2
  · exact key _ hr
end Go.Proofs.YtcgghcicnanliaaGreatDoor
namespace Go.Proofs.YtcgghcicnanliaaGreatDoor
open Go.RowKit
set_option maxHeartbeats 8000000
set_option maxRecDepth 100000
attribute [local go_sem] Oper.semAt_some

/-- The place is not near the segment. -/
def farS (x : Pt) (d : Int) (s : Pt × Pt) : Bool := !nearB s.1 s.2 x d
theorem farS_any (l : List Pt) (x : Pt) (d : Int) : closeB l x d = !((List.range (l.length - 1)).all fun j => farS x d (segG l j)) := by
  unfold closeB farS
  rw [List.any_eq_not_all_not]
theorem AllP.val {f : Pt × Pt → Bool} {q : List SegT} (h : AllP (fun s : SegT => f s.1) q) : AllP f (q.map (·.1)) := fun p hp => by
  obtain ⟨s, hs, rfl⟩ := List.mem_map.1 hp
  exact h s hs
theorem LastF.val {f : Pt × Pt → Bool} {q : List SegT} (h : LastF (fun s : SegT => f s.1) q) : LastF f (q.map (·.1)) := by
  obtain ⟨ini, last, rfl, h⟩ := h
  exact ⟨ini.map (·.1), last.1, by simp, h⟩

theorem lineClose_115 (id : Int) (A : Option Addr) (c : Nat) (l : List Pt) (x : Pt) (d : Int) (w : World) (hS : Sl encP 2 w A l) (hid : 1 ≤ id ∧ id ≤ 1000000) (h2 : 2 ≤ l.length) (h64 : l.length ≤ 64) (hp : ∀ x ∈ l, plB x = true) (ha : ∀ k, k < l.length - 1 → apartS (segG l k) = true)
    (hx : plB x = true) (hd : 0 ≤ d ∧ d ≤ 100000) :
    Calls Tryz.prog 115 #[.agg #[.int .i64 id, .slice A l.length c], .agg #[.int .i64 x.1, .int .i64 x.2], .int .i64 d] w fun e w' => e = .returned (.tuple #[.bool (closeB l x d), .int .i64 0]) ∧ Ext w w' := by
  obtain ⟨b, off, rfl⟩ := hS.addr (by omega)
  have hb := hS.blk (by omega)
  have K1 := Lib.hid (fun W (hx : Ext w W) => lineValid_182 id (some ⟨b, off, none⟩) c l W (hS.ext hx) hid h2 h64 hp ha)
  have K2 := Lib.hid (isDist_183 d)
  have K3 := Lib.hid (lineIsPlace_184 x hx)
  have hdd : inB d 0 100000 = true := by simp [inB]; omega
  rw [hdd] at K2
  have hxs : Small x := plB_bds hx
  have KN := Lib.hid (fun (s : SegT) => near_185 (w.heap.size + 1) (w.heap.size + 1 + 1) s.1.1 s.1.2 x d (plB_bds s.2.1) (plB_bds s.2.2) hxs hd)
  have HS := Lib.hid hS
  have HP := Lib.hid hp
  have HA := Lib.hid ha
  rw [farS_any]
  obtain ⟨px, py⟩ := x
  simp only at K3 KN
  clear hS hp ha hx hxs hdd
  refine (callsIn_wide (n := 5)).1 ?_
  refine callsIn_of_wp_marks Tryz.func115 rfl trivial ?_ rfl
  refine wpIn_wide.2 ?_
  simp only [Tryz.ntmps115, List.size_toArray, List.length_cons, List.length_nil, Nat.reduceAdd, Nat.reduceSub, Array.replicate_succ, Array.replicate_zero, List.push_toArray, List.append_toArray, List.nil_append, List.cons_append]
  go_wp2_with (first
    | (go_at_call 182; refine (K1.out _ xt).mono ?_; rintro e w1 ⟨rfl, hb1⟩; obtain ⟨hc1, hf1, hz1⟩ := hb1.rules; (try simp only [World.size_alloc] at hz1); (have hzz1 : w.heap.size < w1.heap.size := by omega); (have hzy1 : w.heap.size + 1 < w1.heap.size := by omega); (have hzx1 : w.heap.size + 1 + 1 < w1.heap.size := by omega))
    | (go_at_call 183; refine (K2.out _).mono ?_; rintro e w2 ⟨rfl, rfl⟩)
    | (go_at_call 184; refine (K3.out _).mono ?_; rintro e w3 ⟨rfl, hb3⟩; obtain ⟨hc3, hf3, hz3⟩ := hb3.rules; (have hzz3 : w.heap.size < w3.heap.size := by omega); (have hzy3 : w.heap.size + 1 < w3.heap.size := by omega); (have hzx3 : w.heap.size + 1 + 1 < w3.heap.size := by omega))
    | (go_at_call 190; refine (segments_190 _ _ _ _ _).mono ?_; rintro e w4 ⟨rfl, rfl⟩))
  have hE12 := hb1.trans hb3
  have hE0 : Ext w w3 := (((((Ext.refl w).alloc _).alloc _).alloc _).alloc _).alloc _ |>.trans hE12
  have hz12 : w.heap.size + 5 ≤ w3.heap.size := by have := hE12.len; simp only [World.size_alloc] at this; omega
  have qX : w3.heap[w.heap.size + 1]? = some (.cells #[.int .i64 px, .int .i64 py] 43) := by
    refine (hE12.block _ (by simp only [World.size_alloc]; omega)).trans ?_
    rw [Below.heap_alloc _ _ _ (by simp only [World.size_alloc]; omega), Below.heap_alloc _ _ _ (by simp only [World.size_alloc]; omega), Below.heap_alloc _ _ _ (by simp only [World.size_alloc]; omega)]
    have := World.alloc_heap_new (w.alloc (.cells #[.int .i64 id, .slice (some ⟨b, off, none⟩) l.length c] 93)) (.cells #[.int .i64 px, .int .i64 py] 43)
    simpa only [World.size_alloc] using this
  have qD : w3.heap[w.heap.size + 1 + 1]? = some (.cells #[.int .i64 d] 3) := by
    refine (hE12.block _ (by simp only [World.size_alloc]; omega)).trans ?_
    rw [Below.heap_alloc _ _ _ (by simp only [World.size_alloc]; omega), Below.heap_alloc _ _ _ (by simp only [World.size_alloc]; omega)]
    have := World.alloc_heap_new ((w.alloc (.cells #[.int .i64 id, .slice (some ⟨b, off, none⟩) l.length c] 93)).alloc (.cells #[.int .i64 px, .int .i64 py] 43)) (.cells #[.int .i64 d] 3)
    simpa only [World.size_alloc] using this
  have q4 : Boxed w3 (w.heap.size + 1 + 1 + 1) 4 (.bool false) := by
    refine (hE12.block _ (by simp only [World.size_alloc]; omega)).trans ?_
    rw [Below.heap_alloc _ _ _ (by simp only [World.size_alloc]; omega)]
    have := World.alloc_heap_new (((w.alloc (.cells #[.int .i64 id, .slice (some ⟨b, off, none⟩) l.length c] 93)).alloc (.cells #[.int .i64 px, .int .i64 py] 43)).alloc (.cells #[.int .i64 d] 3)) (.cells #[.bool false] 4)
    simpa only [World.size_alloc] using this
  have q5 : Boxed w3 (w.heap.size + 1 + 1 + 1 + 1) 47 (.int .i64 0) := by
    refine (hE12.block _ (by simp only [World.size_alloc]; omega)).trans ?_
    have := World.alloc_heap_new ((((w.alloc (.cells #[.int .i64 id, .slice (some ⟨b, off, none⟩) l.length c] 93)).alloc (.cells #[.int .i64 px, .int .i64 py] 43)).alloc (.cells #[.int .i64 d] 3)).alloc (.cells #[.bool false] 4)) (.cells #[.int .i64 0] 47)
    simpa only [World.size_alloc] using this
  clear hc1 hf1 hz1 hzz1 hzy1 hzx1 hc3 hf3 hz3 hzz3 hzy3 hzx3 hb1 hb3 hE12
  have hE20 : Ext w3 ((w3.alloc (.cells #[Value.func (Fn.func 185) #[] #[.pointer (some ⟨w.heap.size + 1, 0, none⟩), .pointer (some ⟨w.heap.size + 1 + 1, 0, none⟩)]] 224)).alloc (.cells #[.int .i64 id, .slice (some ⟨b, off, none⟩) l.length c] 93)) := ((Ext.refl w3).alloc _).alloc _
  have hz0 : ((w3.alloc (.cells #[Value.func (Fn.func 185) #[] #[.pointer (some ⟨w.heap.size + 1, 0, none⟩), .pointer (some ⟨w.heap.size + 1 + 1, 0, none⟩)]] 224)).alloc (.cells #[.int .i64 id, .slice (some ⟨b, off, none⟩) l.length c] 93)).heap.size = w3.heap.size + 2 := by simp
  have bF : ((w3.alloc (.cells #[Value.func (Fn.func 185) #[] #[.pointer (some ⟨w.heap.size + 1, 0, none⟩), .pointer (some ⟨w.heap.size + 1 + 1, 0, none⟩)]] 224)).alloc (.cells #[.int .i64 id, .slice (some ⟨b, off, none⟩) l.length c] 93)).heap[w3.heap.size]? = some (.cells #[Value.func (Fn.func 185) #[] #[.pointer (some ⟨w.heap.size + 1, 0, none⟩), .pointer (some ⟨w.heap.size + 1 + 1, 0, none⟩)]] 224) := by
    rw [Below.heap_alloc _ _ _ (by simp only [World.size_alloc]; omega)]
    exact World.alloc_heap_new w3 _
  have bN : ((w3.alloc (.cells #[Value.func (Fn.func 185) #[] #[.pointer (some ⟨w.heap.size + 1, 0, none⟩), .pointer (some ⟨w.heap.size + 1 + 1, 0, none⟩)]] 224)).alloc (.cells #[.int .i64 id, .slice (some ⟨b, off, none⟩) l.length c] 93)).heap[w3.heap.size + 1]? = some (.cells #[.int .i64 id, .slice (some ⟨b, off, none⟩) l.length c] 93) := by
    have := World.alloc_heap_new (w3.alloc (.cells #[Value.func (Fn.func 185) #[] #[.pointer (some ⟨w.heap.size + 1, 0, none⟩), .pointer (some ⟨w.heap.size + 1 + 1, 0, none⟩)]] 224)) (.cells #[.int .i64 id, .slice (some ⟨b, off, none⟩) l.length c] 93)
    simpa only [World.size_alloc] using this
  generalize ((w3.alloc (.cells #[Value.func (Fn.func 185) #[] #[.pointer (some ⟨w.heap.size + 1, 0, none⟩), .pointer (some ⟨w.heap.size + 1 + 1, 0, none⟩)]] 224)).alloc (.cells #[.int .i64 id, .slice (some ⟨b, off, none⟩) l.length c] 93)) = W0 at hE20 hz0 bF bN ⊢
  have rX := (hE20.block _ (Array.getElem?_eq_some_iff.1 qX).1).trans qX
  have rD := (hE20.block _ (Array.getElem?_eq_some_iff.1 qD).1).trans qD
  have r4 : Boxed W0 (w.heap.size + 1 + 1 + 1) 4 (.bool false) := (hE20.block _ (by omega)).trans q4
  have r5 : Boxed W0 (w.heap.size + 1 + 1 + 1 + 1) 47 (.int .i64 0) := (hE20.block _ (by omega)).trans q5
  have hB0 : Below w.heap.size w W0 := hE0.trans hE20
  have hst := segments_stopsT (5 - 1) (w3.heap.size + 1) w.heap.size w.heap.size b off c id l HP.out (by omega) h2 (by omega) W0 (by omega) hb (by omega) bN (HS.out.ext hB0)
  clear bN hE0 hE20 qX qD q4 q5 K1 K2 K3
  refine (wpIn_wide (n := 5)).1 ?_
  refine wpIn_rangeFunc_ownH rfl (by omega) (gf := 267) (lb := #[.pointer (some ⟨w3.heap.size + 1, 0, none⟩)]) rfl trivial (enters_of Tryz.func267 (by kernel_rfl) rfl)
    hst Kp2.t (Kp2.b (by omega)) (Below.refl _ _) (fun _ => rfl)
    (fun pre W => (((((AllP (fun s : SegT => farS (px, py) d s.1) pre ∧ Boxed W (w.heap.size + 1 + 1 + 1) 4 (.bool false)) ∧ Boxed W (w.heap.size + 1 + 1 + 1 + 1) 47 (.int .i64 0)) ∧ W.heap[w.heap.size + 1]? = some (.cells #[.int .i64 px, .int .i64 py] 43)) ∧ W.heap[w.heap.size + 1 + 1]? = some (.cells #[.int .i64 d] 3)) ∧ W.heap[w3.heap.size]? = some (.cells #[Value.func (Fn.func 185) #[] #[.pointer (some ⟨w.heap.size + 1, 0, none⟩), .pointer (some ⟨w.heap.size + 1 + 1, 0, none⟩)]] 224)) ∧ Below w.heap.size w W)
    (fun c pre W => (((c = .ret ∧ LastF (fun s : SegT => farS (px, py) d s.1) pre) ∧ Boxed W (w.heap.size + 1 + 1 + 1) 4 (.bool true)) ∧ Boxed W (w.heap.size + 1 + 1 + 1 + 1) 47 (.int .i64 0)) ∧ Below w.heap.size w W)
    (OwnFrom.and (OwnFrom.and (OwnFrom.and (OwnFrom.and (OwnFrom.and (OwnFrom.and (ownFrom_pure _ _) (Own.from (boxed_own _ _ (fun _ => _)) _)) (Own.from (boxed_own _ _ (fun _ => _)) _)) (Own.from (heap_own _ _ _) _)) (Own.from (heap_own _ _ _) _)) (Own.from (heap_own _ _ _) _)) (ownFrom_below (Nat.le_refl _) (by omega)))
    (fun c => OwnFrom.and (OwnFrom.and (OwnFrom.and (ownFrom_pure _ _) (Own.from (boxed_own _ _ (fun _ => _)) _)) (Own.from (boxed_own _ _ (fun _ => _)) _)) (ownFrom_below (Nat.le_refl _) (by omega)))
    ⟨⟨⟨⟨⟨⟨AllP.nil _, r4⟩, r5⟩, rX⟩, rD⟩, bF⟩, hB0⟩
    (fun s a' W => ∃ B1 B2, (W.heap[B1]? = some (.cells #[.int .i64 s.1.1.1, .int .i64 s.1.1.2] 43) ∧ W.heap[B2]? = some (.cells #[.int .i64 s.1.2.1, .int .i64 s.1.2.2] 43)) ∧ a' = { tmps := #[Value.agg #[Value.int IntKind.i64 id, Value.slice (some ⟨b, off, none⟩) l.length c], Value.agg #[Value.int IntKind.i64 px, Value.int IntKind.i64 py], Value.int IntKind.i64 d, Value.pointer (some ⟨w.heap.size, 0, none⟩), Value.pointer (some ⟨w.heap.size + 1, 0, none⟩), Value.pointer (some ⟨w.heap.size + 1 + 1, 0, none⟩), Value.pointer (some ⟨w.heap.size + 1 + 1 + 1, 0, none⟩), Value.pointer (some ⟨w.heap.size + 1 + 1 + 1 + 1, 0, none⟩), Value.pointer (some ⟨w3.heap.size, 0, none⟩), .pointer (some ⟨B1, 0, none⟩), .pointer (some ⟨B2, 0, none⟩), Value.agg #[Value.int IntKind.i64 id, Value.slice (some ⟨b, off, none⟩) l.length c], Value.bool true, Value.bool false, Value.bool false, Value.int IntKind.i64 d, Value.bool true, Value.bool false, Value.bool false, Value.bool false, Value.agg #[Value.int IntKind.i64 px, Value.int IntKind.i64 py], Value.bool true, Value.bool false, Value.bool false, Value.func (Fn.func 185) #[] #[Value.pointer (some ⟨w.heap.size + 1, 0, none⟩), Value.pointer (some ⟨w.heap.size + 1 + 1, 0, none⟩)], Value.agg #[Value.int IntKind.i64 id, Value.slice (some ⟨b, off, none⟩) l.length c], Value.func (Fn.func 267) #[] #[Value.pointer (some ⟨w3.heap.size + 1, 0, none⟩)], .agg #[.int .i64 s.1.1.1, .int .i64 s.1.1.2], .agg #[.int .i64 s.1.2.1, .int .i64 s.1.2.2], undef, undef, undef, undef], defers := [] })
    (fun s a' _ X Y row hs hg hr => by
      obtain ⟨B1, B2, ⟨h1, h1'⟩, h2⟩ := hs
      refine ⟨B1, B2, ⟨(hg.block B1 (Array.getElem?_eq_some_iff.1 h1).1 (fun e => ?_)).trans h1, (hg.block B2 (Array.getElem?_eq_some_iff.1 h1').1 (fun e => ?_)).trans h1'⟩, h2⟩
      · obtain ⟨_, o, ho, hoc⟩ := hr B1 e.symm
        rw [h1] at ho; cases ho; cases hoc
      · obtain ⟨_, o, ho, hoc⟩ := hr B2 e.symm
        rw [h1'] at ho; cases ho; cases hoc)
    ?assign ?body ?done ?stop
  case assign =>
    rintro lw pre s W K ⟨⟨⟨⟨⟨⟨hp, b4⟩, b5⟩, bX⟩, bD⟩, bF⟩, hB1⟩ hK
    simp only [sideE]
    gi_wp2
    have old : ∀ (k : Nat) (o u v : Obj), W.heap[k]? = some o → ((W.alloc u).alloc v).heap[k]? = some o := fun k o u v h => by
      have hlt := (Array.getElem?_eq_some_iff.1 h).1
      rw [Below.heap_alloc _ _ _ (by simp only [World.size_alloc]; omega), Below.heap_alloc _ _ _ hlt]; exact h
    refine hK _ _ (((KeepsOthers.alloc _ _).trans (KeepsOthers.alloc _ _)).from _) (((Kp2.refl _ _ W).alloc hB1.size _).alloc (by simp only [World.size_alloc]; have := hB1.size; omega) _) ⟨⟨⟨⟨⟨⟨hp, (b4.alloc _).alloc _⟩, (b5.alloc _).alloc _⟩, old _ _ _ _ bX⟩, old _ _ _ _ bD⟩, old _ _ _ _ bF⟩, (hB1.alloc hB1.size _).alloc (by simp only [World.size_alloc]; have := hB1.size; omega) _⟩ ⟨W.heap.size, W.heap.size + 1, ⟨?_, ?_⟩, rfl⟩
    · rw [Below.heap_alloc _ _ _ (by simp only [World.size_alloc]; omega)]; exact World.alloc_heap_new W _
    · have := World.alloc_heap_new (W.alloc (.cells #[.int .i64 s.1.1.1, .int .i64 s.1.1.2] 43)) (.cells #[.int .i64 s.1.2.1, .int .i64 s.1.2.2] 43)
      simpa using this
  case body =>
    rintro lw pre ⟨⟨⟨x1, x2⟩, ⟨y1, y2⟩⟩, hs⟩ a' W hl' ⟨r, hr⟩ ⟨⟨⟨⟨⟨⟨hp, b4⟩, b5⟩, bX⟩, bD⟩, bF⟩, hB1⟩ ⟨B1, B2, ⟨bA, bB⟩, rfl⟩ hlt
    have c0 : W.cell? ⟨B1, 0, none⟩ = some (.int .i64 x1) := by simp [World.cell?, bA]
    have c1 : W.cell? ⟨B1, 1, none⟩ = some (.int .i64 x2) := by simp [World.cell?, bA]
    have c2 : W.cell? ⟨B2, 0, none⟩ = some (.int .i64 y1) := by simp [World.cell?, bB]
    have c3 : W.cell? ⟨B2, 1, none⟩ = some (.int .i64 y2) := by simp [World.cell?, bB]
    have c6 : W.cell? ⟨w3.heap.size, 0, none⟩ = some (Value.func (Fn.func 185) #[] #[.pointer (some ⟨w.heap.size + 1, 0, none⟩), .pointer (some ⟨w.heap.size + 1 + 1, 0, none⟩)]) := by simp [World.cell?, bF]
    have K4 := Lib.hid (KN.out ⟨((x1, x2), (y1, y2)), hs⟩ W (by simp [World.cell?, bX]) (by simp [World.cell?, bX]) (by simp [World.cell?, bD]) (Array.getElem?_eq_some_iff.1 bX).1 (Array.getElem?_eq_some_iff.1 bD).1)
    simp only at K4
    have hdef : farS (px, py) d ((x1, x2), (y1, y2)) = !nearB (x1, x2) (y1, y2) (px, py) d := rfl
    generalize nearB (x1, x2) (y1, y2) (px, py) d = t at K4 hdef
    have HD := Lib.hid hdef
    have HP1 := Lib.hid hp
    have H4 := Lib.hid b4
    have H5 := Lib.hid b5
    have HX := Lib.hid bX
    have HDD := Lib.hid bD
    have HF := Lib.hid bF
    have HB := Lib.hid hB1
    clear hdef hp b4 b5 bX bD bF hB1 bA bB
    cases t
    all_goals
      gi_wp2_with (refine ⟨trivial, ?_⟩; gi_at_call 185; refine (CallsIn.inRound lw (callsIn_wide.2 K4.out)).mono ?_; rintro e w5 ⟨rfl, hx5⟩; have m4 := Boxed.ext H4.out hx5; have m5 := Boxed.ext H5.out hx5; have f4 := m4.frozen; have f5 := m5.frozen; have g4 := m4.cell; have g5 := m5.cell; have M4 := Lib.hid m4; have M5 := Lib.hid m5; clear m4 m5; have hx := Lib.hid hx5; clear hx5)
    · have hT := hx.out
      have hBW := HB.out.size
      have old : ∀ (k : Nat) (o : Obj), W.heap[k]? = some o → w5.heap[k]? = some o := fun k o h => (hT.block _ (Array.getElem?_eq_some_iff.1 h).1).trans h
      exact ⟨hT.ko.from _, hT.kp2 hBW, ⟨⟨⟨⟨⟨HP1.out.snoc (by simp only; rw [HD.out]; rfl), M4.out⟩, M5.out⟩, old _ _ HX.out⟩, old _ _ HDD.out⟩, old _ _ HF.out⟩, HB.out.trans (Below.mono hT hBW)⟩
    · have hT := hx.out
      have hw5 := hT.size
      have hBW := HB.out.size
      have e4 := (M4.out.set (.bool true)).kept (grownBy_setCell' _ (w.heap.size + 1 + 1 + 1 + 1) (.int .i64 0)) (by intro e; injection e with e; omega)
      have e5 := (M5.out.kept (grownBy_setCell' _ (w.heap.size + 1 + 1 + 1) (.bool true)) (by intro e; injection e with e; omega)).set (.int .i64 0)
      exact ⟨(hT.ko.trans ((KeepsOthers.setCell _ _ _).trans (KeepsOthers.setCell _ _ _))).from _, ⟨⟨⟨rfl, LastF.mk _ (by simp only; rw [HD.out]; rfl)⟩, e4⟩, e5⟩,
        (HB.out.trans (Below.mono hT hBW)).setCell (p := ⟨w.heap.size + 1 + 1 + 1, 0, none⟩) (by simp only; omega) _ |>.setCell (p := ⟨w.heap.size + 1 + 1 + 1 + 1, 0, none⟩) (by simp only; omega) _⟩
  case done =>
    rintro D ys W hD hys ⟨⟨⟨⟨⟨⟨hp, b4⟩, b5⟩, _⟩, _⟩, _⟩, hB⟩ hK
    have hall := hp.val
    rw [hys] at hall
    have HL := Lib.hid hall.all
    have c4 := b4.cell
    have f4 := b4.frozen
    have c5 := b5.cell
    have f5 := b5.frozen
    clear hall hp
    go_wp2
    have e4 := (b4.set (.bool false)).kept (grownBy_setCell' _ (w.heap.size + 1 + 1 + 1 + 1) (.int .i64 0)) (by intro e; injection e with e; omega)
    have e5 := (b5.kept (grownBy_setCell' _ (w.heap.size + 1 + 1 + 1) (.bool false)) (by intro e; injection e with e; omega)).set (.int .i64 0)
    have hBB := (hB.setCell (p := ⟨w.heap.size + 1 + 1 + 1, 0, none⟩) (by simp only; omega) (.bool false)).setCell (p := ⟨w.heap.size + 1 + 1 + 1 + 1, 0, none⟩) (by simp only; omega) (.int .i64 0)
    have hK' := ((KeepsOthers.setCell W ⟨w.heap.size + 1 + 1 + 1, 0, none⟩ (.bool false)).trans (KeepsOthers.setCell _ ⟨w.heap.size + 1 + 1 + 1 + 1, 0, none⟩ (.int .i64 0))).same D _ hK rfl
    refine ⟨by simp, .inl ⟨_, _, rfl, run_takeDeferred hK', ?_⟩⟩
    have g4 := cell_kept e4.cell (grownBy_putObj' _ D (.deferred none)) (fun r e => by cases e; exact ⟨_, hK', rfl⟩)
    have g5 := cell_kept e5.cell (grownBy_putObj' _ D (.deferred none)) (fun r e => by cases e; exact ⟨_, hK', rfl⟩)
    exact ⟨.tuple #[.bool false, .int .i64 0], by simp [results, Tryz.f115, go_sem, g4, g5], by rw [HL.out]; rfl, hBB.trans (belowK_b (w := w) (Nat.le_refl _) _ D _ _ (by omega) hK' rfl rfl)⟩
  case stop =>
    rintro D c pre W hD ⟨k, hk, hpre⟩ ⟨⟨⟨⟨rfl, hx⟩, b4⟩, b5⟩, hB⟩ hK
    have hl := hx.val
    rw [hpre] at hl
    have HL := Lib.hid (hl.all hk)
    clear hl hx
    gi_wp2
    refine ⟨by simp, .inl ⟨_, _, rfl, run_takeDeferred hK, ?_⟩⟩
    have g4 := cell_kept b4.cell (grownBy_putObj' _ D (.deferred none)) (fun r e => by cases e; exact ⟨_, hK, rfl⟩)
    have g5 := cell_kept b5.cell (grownBy_putObj' _ D (.deferred none)) (fun r e => by cases e; exact ⟨_, hK, rfl⟩)
    exact ⟨.tuple #[.bool true, .int .i64 0], by simp [results, Tryz.f115, go_sem, g4, g5], by rw [HL.out]; rfl, hB.trans (belowK_b (w := w) (Nat.le_refl _) _ D _ _ (by omega) hK rfl rfl)⟩
end Go.Proofs.YtcgghcicnanliaaGreatDoor
namespace Go.Proofs.YtcgghcicnanliaaGreatDoor
open Go.RowKit
set_option maxHeartbeats 8000000
set_option maxRecDepth 100000

theorem holds_5 (e : EnvT) (o : EntryT) (p x : Pt) (pid : Int) (pA : Option Addr) (l : List Pt) (pc B : Nat) (hk : o.kind = 5) (hhi : 0 ≤ o.hi ∧ o.hi ≤ 100000) (hx : plB x = true) (w : World) (hC : Cells w B (obsL e o p pid pA l.length pc))
    (hS : Sl encP 2 w pA l) (hid : 1 ≤ pid ∧ pid ≤ 1000000) (h2 : 2 ≤ l.length) (h64 : l.length ≤ 64) (hp : ∀ x ∈ l, plB x = true) (ha : ∀ k, k < l.length - 1 → apartS (segG l k) = true) :
    Calls Tryz.prog 50 #[.pointer (some ⟨B, 0, none⟩), .agg #[.int .i64 x.1, .int .i64 x.2]] w fun r w' => r = .returned (.bool (closeB l x o.hi)) ∧ Ext w w' := by
  obtain ⟨c25, c26, c29, c30, c31, c32, c36, c37, c38, c39⟩ := obs_at hC
  have hB := hC.1
  have hB1 : B < w.heap.size + 1 := by omega
  have hB2 : B < w.heap.size + 1 + 1 := by omega
  have K1 := Lib.hid (fun W (h : Ext w W) => lineClose_115 pid pA pc l x o.hi W (hS.ext h) hid h2 h64 hp ha hx hhi)
  clear hC c25 c29 c30 c36 c37 hS hp ha
  rw [hk] at c26
  generalize closeB l x o.hi = sq at K1 ⊢
  generalize o.lo = lo at *
  generalize o.hi = hi at *
  obtain ⟨x1, x2⟩ := x
  simp only at *
  go_enter Tryz.func50, Tryz.ntmps50
  go_wp2
  (refine wp_region_ext (by kernel_rfl) (by kernel_rfl) ?_; (repeat (first | go_big_quiet_step ((go_at_call 115; exact Xt.calls (K1.out _ (Ext.trans (((Ext.refl w).alloc _).alloc _) (Xt.ext _))))) | quiet_step ((go_at_call 115; exact Xt.calls (K1.out _ (Ext.trans (((Ext.refl w).alloc _).alloc _) (Xt.ext _))))))); refine wpQuiet_nil ?_; rintro _ ⟨xq, rfl⟩; have hx2 := xq.ext; generalize xq.world = w2 at hx2 ⊢)
  go_wp2
  go_ret
  exact ⟨rfl, xt⟩
end Go.Proofs.YtcgghcicnanliaaGreatDoor
