/- Drawn regions: one new variable that is filled whole by one store; all else are reads and calls that make new blocks alone, in whatever order the run takes. No statement about the program. Conditions: none. The word that stands in for hull.Has, at polygons of which a word knows that they are valid. Conditions: none. -/
import Derived.Test.YtcgghcicnanliaaGreatDoorM06
import Derived.Test.YtcgghcicnanliaaGreatDoorM07
import Derived.Laws.Tables
import Derived.Test.YtcgghcicnanliaaGreatDoorM27
import Derived.Test.YtcgghcicnanliaaGreatDoorM25
set_option linter.unusedVariables false
set_option linter.unusedSimpArgs false
namespace Go
open Go.RowKit Go.Proofs.YtcgghcicnanliaaGreatDoor

/-- Is it a new variable or a store? -/
def isSk (o : Oper) : Bool := match o.op with
  | .alloc _ => true
  | .store _ _ _ => true
  | _ => false

section
variable {P : Program} {ops : Array Oper} {md : Region.Mode} {w : World} {sk : Oper → Bool}

/-- Whatever order: what is passed over apart. -/
def wpT (P : Program) (md : Region.Mode) (ops : Array Oper) (w : World) (sk : Oper → Bool) (n : Nat) (L : Array Bool → Act → Prop) : Nat → Array Bool → Act → Prop
  | 0, listed, a => L listed a
  | f + 1, listed, a => Region.ready md ops listed ≠ [] ∧ ∀ i ∈ Region.ready md ops listed, i < n ∧ ∀ o, ops[i]? = some o →
    (sk o = true → wpT P md ops w sk n L f (listed.setIfInBounds i true) a) ∧ (sk o = false → ∃ v, YR P ops w o v a ∧ wpT P md ops w sk n L f (listed.setIfInBounds i true) (a.put o.dst v))

theorem wpT_first {n i : Nat} {oi : Oper} {v : Value} {L : Array Bool → Act → Prop} (hi : ops[i]? = some oi) (hal : sk oi = false) (hsel : ∀ (j : Nat) (o : Oper) cs b, ops[j]? = some o → o.op ≠ .select cs b)
    (hs : Region.sinkB md ops n = true) (hc : Region.chainB md ops n = true) (hn : n < ops.size) (hin : i < n)
    (hdone : ∀ listed a, L listed a → ∀ j ∈ Region.ready md ops listed, n ≤ j) :
    ∀ (f : Nat) (listed : Array Bool) (a : Act), HeadInv md ops n listed →
      (∀ j oj, ops[j]? = some oj → j ≠ i → listed.getD j true = false → (∀ e ∈ oj.after, Region.binds md e = true → e.on ≠ i) → oi.apart ops oj = true) →
      i ∈ Region.ready md ops listed → YR P ops w oi v a →
      wpT P md ops w sk n L f (listed.setIfInBounds i true) (a.put oi.dst v) → wpT P md ops w sk n L (f + 1) listed a := by
  intro f
  induction f with
  | zero =>
    intro listed a inv _ hr hy H
    have hun := (mem_ready.1 hr).1
    refine ⟨fun h => (by rw [h] at hr; cases hr), fun j hj => ?_⟩
    have hjn : j < n := by
      rcases Nat.lt_or_ge j n with h | h
      · exact h
      · exact absurd hj (tail_waits hs hc hn inv _ i rfl hin hun j h)
    refine ⟨hjn, fun o ho => ?_⟩
    by_cases hji : j = i
    · subst hji
      rw [hi] at ho
      cases ho
      exact ⟨fun h => (by rw [hal] at h; cases h), fun _ => ⟨v, hy, H⟩⟩
    · have := hdone _ _ H j (ready_mono hj hji)
      omega
  | succ f ih =>
    intro listed a inv hfree hr hy H
    have hun := (mem_ready.1 hr).1
    refine ⟨fun h => (by rw [h] at hr; cases hr), fun j hj => ?_⟩
    have hjn : j < n := by
      rcases Nat.lt_or_ge j n with h | h
      · exact h
      · exact absurd hj (tail_waits hs hc hn inv _ i rfl hin hun j h)
    refine ⟨hjn, fun oj hoj => ?_⟩
    by_cases hji : j = i
    · subst hji
      rw [hi] at hoj
      cases hoj
      exact ⟨fun h => (by rw [hal] at h; cases h), fun _ => ⟨v, hy, H⟩⟩
    · obtain ⟨h1, h2⟩ := (H.2 j (ready_mono hj hji)).2 oj hoj
      obtain ⟨hjun, oj', hoj', hall⟩ := mem_ready.1 hj
      rw [hoj] at hoj'
      cases hoj'
      have hnot : ∀ e ∈ oj.after, Region.binds md e = true → e.on ≠ i := fun e he hb heq => by
        have h1 := hall e he hb
        rw [heq, getD_both hun] at h1
        cases h1
      have hap := hfree j oj hoj hji hjun hnot
      obtain ⟨p1, p2, p3⟩ := Oper.apart_spec hap
      have hfree' : ∀ k ok, ops[k]? = some ok → k ≠ i → (listed.setIfInBounds j true).getD k true = false →
          (∀ e ∈ ok.after, Region.binds md e = true → e.on ≠ i) → oi.apart ops ok = true := fun k ok hk hki hun hno => by
        refine hfree k ok hk hki ?_ hno
        by_cases hjk : j = k
        · subst hjk; exact hjun
        · rw [getD_set_ne true hjk] at hun; exact hun
      refine ⟨fun hja => ?_, fun hja => ?_⟩
      · refine ih (listed.setIfInBounds j true) a (inv.set hj hjn) hfree' (ready_mono hr (Ne.symm hji)) hy ?_
        rw [Array.setIfInBounds_comm _ _ hji]
        exact h1 hja
      · obtain ⟨u, hu, hn'⟩ := h2 hja
        refine ⟨u, hu.unput (fun cs b => hsel j oj cs b hoj) p1, ?_⟩
        refine ih (listed.setIfInBounds j true) _ (inv.set hj hjn) hfree' (ready_mono hr (Ne.symm hji)) (hy.put (fun cs b => hsel i oi cs b hi) p3 u) ?_
        rw [Array.setIfInBounds_comm _ _ hji, ← Act.put_comm a v u p2]
        exact hn'

/-- What is passed over may be passed over first. -/
theorem wpT_skip {n i : Nat} {oi : Oper} {L : Array Bool → Act → Prop} (hi : ops[i]? = some oi) (hal : sk oi = true)
    (hs : Region.sinkB md ops n = true) (hc : Region.chainB md ops n = true) (hn : n < ops.size) (hin : i < n)
    (hdone : ∀ listed a, L listed a → ∀ j ∈ Region.ready md ops listed, n ≤ j) :
    ∀ (f : Nat) (listed : Array Bool) (a : Act), HeadInv md ops n listed → i ∈ Region.ready md ops listed →
      wpT P md ops w sk n L f (listed.setIfInBounds i true) a → wpT P md ops w sk n L (f + 1) listed a := by
  intro f
  induction f with
  | zero =>
    intro listed a inv hr H
    have hun := (mem_ready.1 hr).1
    refine ⟨fun h => (by rw [h] at hr; cases hr), fun j hj => ?_⟩
    have hjn : j < n := by
      rcases Nat.lt_or_ge j n with h | h
      · exact h
      · exact absurd hj (tail_waits hs hc hn inv _ i rfl hin hun j h)
    refine ⟨hjn, fun o ho => ?_⟩
    by_cases hji : j = i
    · subst hji
      rw [hi] at ho
      cases ho
      exact ⟨fun _ => H, fun h => (by rw [hal] at h; cases h)⟩
    · have := hdone _ _ H j (ready_mono hj hji)
      omega
  | succ f ih =>
    intro listed a inv hr H
    have hun := (mem_ready.1 hr).1
    refine ⟨fun h => (by rw [h] at hr; cases hr), fun j hj => ?_⟩
    have hjn : j < n := by
      rcases Nat.lt_or_ge j n with h | h
      · exact h
      · exact absurd hj (tail_waits hs hc hn inv _ i rfl hin hun j h)
    refine ⟨hjn, fun oj hoj => ?_⟩
    by_cases hji : j = i
    · subst hji
      rw [hi] at hoj
      cases hoj
      exact ⟨fun _ => H, fun h => (by rw [hal] at h; cases h)⟩
    · obtain ⟨h1, h2⟩ := (H.2 j (ready_mono hj hji)).2 oj hoj
      refine ⟨fun hja => ?_, fun hja => ?_⟩
      · refine ih (listed.setIfInBounds j true) a (inv.set hj hjn) (ready_mono hr (Ne.symm hji)) ?_
        rw [Array.setIfInBounds_comm _ _ hji]
        exact h1 hja
      · obtain ⟨u, hu, hn'⟩ := h2 hja
        refine ⟨u, hu, ih (listed.setIfInBounds j true) _ (inv.set hj hjn) (ready_mono hr (Ne.symm hji)) ?_⟩
        rw [Array.setIfInBounds_comm _ _ hji]
        exact hn'

theorem wpT_lex {n g : Nat} {Lq : Act → Prop} (hsel : Region.noSelect ops = true) (hs : Region.sinkB md ops n = true) (hc : Region.chainB md ops n = true) (hn : n < ops.size) :
    ∀ (l : List Oper) (k : Nat) (listed : Array Bool) (a : Act), (∀ j, j < l.length → l[j]? = ops[k + j]?) → k + l.length = n → HeadInv md ops n listed → (∀ j, j < k → listed.getD j true = true) →
    Region.lexHead md ops g l.length k listed = true → wpR P ops w Lq (l.filter fun o => !sk o) a →
    wpT P md ops w sk n (fun listed' a' => Region.seqB md ops g n listed' = true ∧ (∀ j, j < n → listed'.getD j true = true) ∧ Lq a') l.length listed a
  | [], k, listed, a, _, hk, _, hlt, hB, h => by
    have : k = n := by simpa using hk
    subst this
    exact ⟨by simpa [Region.lexHead] using hB, hlt, h⟩
  | o :: l, k, listed, a, hl, hk, inv, hlt, hB, h => by
    have h0 : ops[k]? = some o := by simpa using (hl 0 (by simp)).symm
    simp only [List.length_cons, Region.lexHead, Bool.and_eq_true] at hB
    obtain ⟨⟨hr, hf⟩, hB'⟩ := hB
    have hkn : k < n := by simp only [List.length_cons] at hk; omega
    have hr' : k ∈ Region.ready md ops listed := by simpa using hr
    have hlt' : ∀ j, j < k + 1 → (listed.setIfInBounds k true).getD j true = true := fun j hj => by
      by_cases e : k = j
      · subst e
        rcases Nat.lt_or_ge k listed.size with h' | h'
        · simp [h']
        · simp [Array.getElem?_eq_none h']
      · rw [getD_set_ne true e]; exact hlt j (by omega)
    have hpos : ∀ j, j < l.length → l[j]? = ops[k + 1 + j]? := fun j hj => by have := hl (j + 1) (by simp; omega); simpa [Nat.add_assoc, Nat.add_comm 1 j] using this
    have hlen : k + 1 + l.length = n := by simp only [List.length_cons] at hk; omega
    cases hal : sk o with
    | true =>
      rw [List.filter_cons_of_neg (by simp [hal])] at h
      exact wpT_skip h0 hal hs hc hn hkn (fun listed' a' hL => seqB_ready hL.1) l.length listed a inv hr'
        (wpT_lex hsel hs hc hn l (k + 1) _ _ hpos hlen (inv.set hr' hkn) hlt' hB' h)
    | false =>
      rw [List.filter_cons_of_pos (by simp [hal])] at h
      obtain ⟨v, hy, hK⟩ := h
      exact wpT_first h0 hal (Region.noSelect_spec hsel) hs hc hn hkn (fun listed' a' hL => seqB_ready hL.1) l.length listed a inv (Region.free_spec h0 hf) hr' hy
        (wpT_lex hsel hs hc hn l (k + 1) _ _ hpos hlen (inv.set hr' hkn) hlt' hB' hK)

theorem getD_up {l : Array Bool} {j : Nat} (h : l.getD j false = true) : l.getD j true = true := by
  rw [Array.getD_eq_getD_getElem?] at h ⊢
  cases e : l[j]? with
  | none => rfl
  | some b => rw [e] at h; simpa using h
theorem getD_set_up {l : Array Bool} (i : Nat) : (l.setIfInBounds i true).getD i true = true := by
  rcases Nat.lt_or_ge i l.size with h' | h'
  · simp [h']
  · simp [Array.getElem?_eq_none h']
theorem put_keeps {a : Act} {x : Option Tmp} {v : Value} {d : Nat} (h : x ≠ some d) : (a.put x v).tmps[d]? = a.tmps[d]? := by
  cases x with
  | none => rfl
  | some t =>
    have : t ≠ d := fun e => h (by rw [e])
    simp [Act.put, Array.getElem?_setIfInBounds_ne this]
/-- What is written stands at the end. -/
theorem wpT_final {n : Nat} {aF : Act} {L : Array Bool → Act → Prop} {d : Nat} (hLf : ∀ listed a, L listed a → a = aF) : ∀ (f : Nat) (listed : Array Bool) (a : Act), wpT P md ops w sk n L f listed a →
    (∀ i o, i < n → ops[i]? = some o → listed.getD i true = false → sk o = false → o.dst ≠ some d) → aF.tmps[d]? = a.tmps[d]?
  | 0, listed, a, h, _ => by rw [hLf _ _ h]
  | f + 1, listed, a, h, hd => by
    obtain ⟨i, hi⟩ := List.exists_mem_of_ne_nil _ h.1
    obtain ⟨hin, hh⟩ := h.2 i hi
    obtain ⟨hun, o, ho, _⟩ := mem_ready.1 hi
    have hd' : ∀ j o, j < n → ops[j]? = some o → (listed.setIfInBounds i true).getD j true = false → sk o = false → o.dst ≠ some d := fun j o hj hjo hl hs => by
      by_cases e : i = j
      · subst e; rw [getD_set_up] at hl; cases hl
      · rw [getD_set_ne true e] at hl; exact hd j o hj hjo hl hs
    obtain ⟨h1, h2⟩ := hh o ho
    cases hs : sk o with
    | true => exact wpT_final hLf f _ _ (h1 hs) hd'
    | false =>
      obtain ⟨v, _, hK⟩ := h2 hs
      rw [wpT_final hLf f _ _ hK hd', put_keeps (hd i o hin ho hun hs)]

/-- The run's state: the new variable's temporary beside the others. -/
def actX (i0 : Nat) (t0 : Tmp) (listed : Array Bool) (b : Nat) (a : Act) : Act := if listed.getD i0 true = true then a.put (some t0) (ptrB b) else a
def InvX (w : World) (i0 i1 : Nat) (old cs : Array Value) (tb : TypeId) (listed : Array Bool) (b : Nat) (W : World) : Prop :=
  Ext w W ∧ (listed.getD i1 true = true → listed.getD i0 true = true) ∧ (listed.getD i0 true = true → w.heap.size ≤ b ∧ W.heap[b]? = some (.cells (if listed.getD i1 true = true then cs else old) tb))
theorem YR.actX {o : Oper} {v : Value} {i0 : Nat} {t0 : Tmp} (hs : ∀ cs b, o.op ≠ .select cs b) (listed : Array Bool) (b : Nat) (a : Act) (hx : t0 ∉ o.looksAt ops) (h : YR P ops w o v a) : YR P ops w o v (actX i0 t0 listed b a) := by
  unfold Go.actX
  split
  · exact h.put hs (fun t e => by cases e; exact hx) _
  · exact h

theorem wpAny_of_box {n g i0 i1 iv N : Nat} {t0 tv : Tmp} {o0 o1 : Oper} {ty tb : TypeId} {old cs : Array Value} {aF : Act} {L : Array Bool → Act → Prop} {Q' : Exit → Act → World → Prop}
    (h01 : i0 ≠ i1) (ho0 : ops[i0]? = some o0) (g0 : o0.guard = none) (d0 : o0.dst = some t0) (run0 : ∀ (a : Act) (W : World), (execOp a.eval o0).run P W = .ok (.value (ptrB W.heap.size)) (W.alloc (.cells old tb)))
    (ho1 : ops[i1]? = some o1) (g1 : o1.guard = none) (op1 : o1.op = .store ty (.tmp t0) (.tmp tv)) (d1 : o1.dst = none)
    (e0 : ∃ e ∈ o1.after, Region.binds md e = true ∧ e.on = i0) (ev : ∃ e ∈ o1.after, Region.binds md e = true ∧ e.on = iv)
    (hsk : ∀ i o, i < n → ops[i]? = some o → sk o = true → i = i0 ∨ i = i1)
    (hQ : ∀ i o, i < n → ops[i]? = some o → sk o = false → i ≠ i0 ∧ i ≠ i1 ∧ (∀ cs b, o.op ≠ .select cs b) ∧ t0 ∉ o.looksAt ops ∧ o.dst ≠ some t0 ∧ (i ≠ iv → o.dst ≠ some tv))
    (htv : tv ≠ t0) (hvF : aF.tmps[tv]? = some (.agg cs)) (ht0 : t0 < N) (hi : (P.info? ty).map (·.size) = some cs.size) (hold : old.size = cs.size) (h1c : cs.all (·.oneCell') = true)
    (hLf : ∀ listed a, L listed a → a = aF)
    (hL : ∀ (listed : Array Bool) (a : Act) (b : Nat) (W : World), InvX w i0 i1 old cs tb listed b W → L listed a → wpAny P md ops Q' g listed (actX i0 t0 listed b a) W) :
    ∀ (f : Nat) (listed : Array Bool) (a : Act) (b : Nat) (W : World), a.tmps.size = N → InvX w i0 i1 old cs tb listed b W → wpT P md ops w sk n L f listed a → wpAny P md ops Q' (f + g) listed (actX i0 t0 listed b a) W
  | 0, listed, a, b, W, _, hI, h => by rw [Nat.zero_add]; exact hL _ _ _ _ hI h
  | f + 1, listed, a, b, W, hN, hI, h => by
    rw [show f + 1 + g = (f + g) + 1 by omega]
    refine ⟨fun h0 => absurd h0 h.1, fun i hir => ?_⟩
    obtain ⟨hin, hh⟩ := h.2 i hir
    obtain ⟨hun, o, ho, hall⟩ := mem_ready.1 hir
    obtain ⟨h1, h2⟩ := hh o ho
    obtain ⟨x1, x2, x3⟩ := hI
    cases hs : sk o with
    | true =>
      rcases hsk i o hin ho hs with rfl | rfl
      · rw [ho0] at ho
        cases ho
        unfold wpOp
        simp only [ho0]
        have hw : Region.wanted o0 (yielded ops (actX i t0 listed b a).tmps) = true := by unfold Region.wanted; rw [g0]
        rw [hw, if_pos rfl]
        refine .inl ?_
        unfold Oper.wp
        rw [run0]
        have hu1 : ¬ listed.getD i1 true = true := fun h' => by rw [x2 h'] at hun; cases hun
        have hset : (listed.setIfInBounds i true).getD i true = true := getD_set_up i
        have hne : (listed.setIfInBounds i true).getD i1 true = listed.getD i1 true := getD_set_ne true h01
        have e1 : actX i t0 listed b a = a := by unfold actX; rw [if_neg (by rw [hun]; simp)]
        have e2 : actX i t0 (listed.setIfInBounds i true) W.heap.size a = a.put (some t0) (ptrB W.heap.size) := by unfold actX; rw [if_pos hset]
        rw [e1]
        show wpAny P md ops Q' (f + g) _ (a.put o0.dst (ptrB W.heap.size)) (W.alloc (.cells old tb))
        rw [d0, ← e2]
        refine wpAny_of_box h01 ho0 g0 d0 run0 ho1 g1 op1 d1 e0 ev hsk hQ htv hvF ht0 hi hold h1c hLf hL f _ a _ _ hN ⟨x1.alloc _, fun _ => hset, fun _ => ⟨x1.len, ?_⟩⟩ (h1 hs)
        rw [hne, if_neg hu1]
        exact Array.getElem?_push_size
      · rw [ho1] at ho
        cases ho
        obtain ⟨ed, hed, hb0, hon0⟩ := e0
        obtain ⟨evd, hevd, hbv, honv⟩ := ev
        have l0 : listed.getD i0 true = true := getD_up (by have := hall ed hed hb0; rwa [hon0] at this)
        have lv : listed.getD iv true = true := getD_up (by have := hall evd hevd hbv; rwa [honv] at this)
        obtain ⟨y1, y2⟩ := x3 l0
        rw [if_neg (by rw [hun]; simp)] at y2
        have eX : actX i0 t0 listed b a = a.put (some t0) (ptrB b) := by unfold actX; rw [if_pos l0]
        have hset : (listed.setIfInBounds i true).getD i true = true := getD_set_up i
        have hne : (listed.setIfInBounds i true).getD i0 true = listed.getD i0 true := getD_set_ne true (Ne.symm h01)
        have eX2 : actX i0 t0 (listed.setIfInBounds i true) b a = a.put (some t0) (ptrB b) := by unfold actX; rw [if_pos (by rw [hne]; exact l0)]
        have hval : a.tmps[tv]? = some (.agg cs) := by
          rw [← hvF]
          refine (wpT_final hLf (f + 1) listed a h fun j oj hj hjo hjl hjs => ?_).symm
          refine (hQ j oj hj hjo hjs).2.2.2.2.2 fun e => ?_
          subst e
          rw [lv] at hjl
          cases hjl
        unfold wpOp
        simp only [ho1]
        have hw : Region.wanted o1 (yielded ops (actX i0 t0 listed b a).tmps) = true := by unfold Region.wanted; rw [g1]
        rw [hw, if_pos rfl, eX]
        refine .inl (wp_store_row ty (.tmp t0) (.tmp tv) op1 b cs ?_ ?_ tb old y2 hi hold h1c ?_)
        · have : t0 < a.tmps.size := by rw [hN]; exact ht0
          simp [Act.eval, Act.put, ptrB, this]
        · have : (a.put (some t0) (ptrB b)).tmps[tv]? = some (.agg cs) := by rw [put_keeps (by intro e; injection e with e; exact htv e.symm)]; exact hval
          simp [Act.eval, this]
        · rw [d1]
          show wpAny P md ops Q' (f + g) _ (a.put (some t0) (ptrB b)) (W.setRow b cs)
          rw [← eX2]
          refine wpAny_of_box h01 ho0 g0 d0 run0 ho1 g1 op1 d1 ⟨ed, hed, hb0, hon0⟩ ⟨evd, hevd, hbv, honv⟩ hsk hQ htv hvF ht0 hi hold h1c hLf hL f _ a _ _ hN ⟨x1.setRow y1 _, fun _ => by rw [hne]; exact l0, fun _ => ⟨y1, ?_⟩⟩ (h1 hs)
          rw [hset, if_pos rfl]
          exact setRow_heap _ _ _ _ _ _ y2
    | false =>
      obtain ⟨v, hy, hK⟩ := h2 hs
      obtain ⟨q1, q2, hsl, q4, q5, _⟩ := hQ i o hin ho hs
      have hy' := hy.actX (i0 := i0) hsl listed b a q4
      have s0 : (listed.setIfInBounds i true).getD i0 true = listed.getD i0 true := getD_set_ne true q1
      have s1 : (listed.setIfInBounds i true).getD i1 true = listed.getD i1 true := getD_set_ne true q2
      refine wpOp_of_qOp (C := Cl W) (Cl.refl W) (K := fun a' => a' = (actX i0 t0 listed b a).put o.dst v) ?_ ((hy' W x1).qOp ho rfl)
      rintro a' W' hW' rfl
      have eX : (actX i0 t0 listed b a).put o.dst v = actX i0 t0 (listed.setIfInBounds i true) b (a.put o.dst v) := by
        unfold actX
        rw [s0]
        split
        · rw [Act.put_comm a v (ptrB b) (fun t e e' => q5 (e.trans e'.symm))]
        · rfl
      rw [eX]
      refine wpAny_of_box h01 ho0 g0 d0 run0 ho1 g1 op1 d1 e0 ev hsk hQ htv hvF ht0 hi hold h1c hLf hL f _ _ _ _ (by rw [← hN]; cases o.dst <;> simp [Act.put]) ⟨x1.trans hW'.ext, by rw [s0, s1]; exact x2, ?_⟩ hK
      rw [s0, s1]
      intro l0
      obtain ⟨y1, y2⟩ := x3 l0
      exact ⟨y1, (hW'.ext.block _ (Array.getElem?_eq_some_iff.1 y2).1).trans y2⟩

/-- What is checked of a region. -/
def boxB (ops : Array Oper) (n i0 i1 iv : Nat) (t0 tv : Tmp) (ty : TypeId) : Bool :=
  decide (i0 < n) && decide (i1 < n) && decide (i0 ≠ i1) && decide (tv ≠ t0) &&
  (match ops[i0]? with | some o => o.guard.isNone && decide (o.dst = some t0) | none => false) &&
  (match ops[i1]? with
    | some o => o.guard.isNone && decide (o.dst = none) && (match o.op with | .store ty' (.tmp x) (.tmp y) => decide (ty' = ty) && decide (x = t0) && decide (y = tv) | _ => false) &&
      o.after.any (fun e => Region.binds .any e && decide (e.on = i0)) && o.after.any (fun e => Region.binds .any e && decide (e.on = iv))
    | none => false) &&
  (List.range n).all fun i => match ops[i]? with
    | none => false
    | some o => if isSk o then decide (i = i0) || decide (i = i1) else decide (i ≠ i0) && decide (i ≠ i1) && !(o.looksAt ops).contains t0 && decide (o.dst ≠ some t0) && (decide (i = iv) || decide (o.dst ≠ some tv))
theorem wp_region_box {id : Nat} {Q : Exit → Act → World → Prop} {a aF : Act} {l : List Oper} (n i0 i1 iv : Nat) (t0 tv : Tmp) (ty tb : TypeId) (old cs : Array Value) (hm : P.follows .mixedOrders = true) (hB : Region.lexTailB .any l.toArray n = true)
    (hX : boxB l.toArray n i0 i1 iv t0 tv ty = true) (run0 : ∀ o, l[i0]? = some o → ∀ (a : Act) (W : World), (execOp a.eval o).run P W = .ok (.value (ptrB W.heap.size)) (W.alloc (.cells old tb)))
    (ht0 : t0 < a.tmps.size) (hi : (P.info? ty).map (·.size) = some cs.size) (hold : old.size = cs.size) (h1c : cs.all (·.oneCell') = true)
    (hd : (((l.take n).filter fun o => !isSk o).all fun o => match o.dst with | some t => decide (t < a.tmps.size) | none => false) = true) (hnd : (((l.take n).filter fun o => !isSk o).map (·.dst)).Nodup)
    (walk : ∀ W, Ext w W → wpQuiet P l.toArray (fun w' => ∃ x : Xt W, w' = x.world) (fun a' => a' = aF) ((l.take n).filter fun o => !isSk o) a)
    (hvF : aF.tmps[tv]? = some (.agg cs))
    (rest : ∀ (b : Nat) (W : World), Ext w W → w.heap.size ≤ b → W.heap[b]? = some (.cells cs tb) → wpList P l.toArray Q (l.drop n) (aF.put (some t0) (ptrB b)) W) : (Code.region id l.toArray true).wp P Q a w := by
  simp only [Region.lexTailB, Bool.and_eq_true, decide_eq_true_eq] at hB
  obtain ⟨⟨⟨⟨hsel, hn⟩, hs⟩, hc⟩, hlex⟩ := hB
  have hn' : n < l.length := by simpa using hn
  have htl : (l.take n).length = n := by simp; omega
  have hdl : (l.drop n).length = l.toArray.size - n := by simp
  have inv0 : HeadInv .any l.toArray n (Array.replicate l.toArray.size false) :=
    ⟨by simp, fun j oj _ hl => (by rw [getD_replicate_false] at hl; cases hl), fun t _ ht => getD_in (by simpa using ht) (getD_replicate_false _ _)⟩
  simp only [boxB, Bool.and_eq_true, decide_eq_true_eq, List.all_eq_true] at hX
  obtain ⟨⟨⟨⟨⟨⟨hi0, hi1⟩, h01⟩, htv⟩, hX0⟩, hX1⟩, hXA⟩ := hX
  split at hX0
  case h_2 => cases hX0
  rename_i o0 ho0
  split at hX1
  case h_2 => cases hX1
  rename_i o1 ho1
  simp only [Bool.and_eq_true, decide_eq_true_eq, Option.isNone_iff_eq_none, Array.any_eq_true] at hX0 hX1
  obtain ⟨g0, d0⟩ := hX0
  obtain ⟨⟨⟨⟨g1, d1⟩, hop⟩, hea⟩, heb⟩ := hX1
  split at hop
  case h_2 => cases hop
  rename_i ty' x y op1
  simp only [Bool.and_eq_true, decide_eq_true_eq] at hop
  obtain ⟨⟨rfl, rfl⟩, rfl⟩ := hop
  have hX' : ∀ (i : Nat) (o : Oper), i < n → l.toArray[i]? = some o → (isSk o = true → i = i0 ∨ i = i1) ∧ (isSk o = false → i ≠ i0 ∧ i ≠ i1 ∧ x ∉ o.looksAt l.toArray ∧ o.dst ≠ some x ∧ (i ≠ iv → o.dst ≠ some y)) := fun i o hi ho => by
    have := hXA i (List.mem_range.2 hi)
    rw [ho] at this
    simp only at this
    refine ⟨fun hal => ?_, fun hal => ?_⟩
    · rw [hal, if_pos rfl] at this
      simpa only [Bool.or_eq_true, decide_eq_true_eq] using this
    · rw [hal] at this
      simp only [Bool.false_eq_true, if_false, Bool.and_eq_true, Bool.or_eq_true, Bool.not_eq_true', decide_eq_true_eq, List.contains_eq_mem, decide_eq_false_iff_not] at this
      obtain ⟨⟨⟨⟨b1, b2⟩, b3⟩, b4⟩, b5⟩ := this
      exact ⟨b1, b2, b3, b4, fun hne => b5.resolve_left hne⟩
  have hR := quiet_R (w := w.drew) (P := P) (ops := l.toArray) (aF := aF) ((l.take n).filter fun o => !isSk o) a hd hnd (fun W hW => walk W ((Ext.refl w).drew.trans hW))
  have H := wpT_lex (sk := isSk) (md := .any) (w := w.drew) (g := l.toArray.size - n) hsel hs hc hn (l.take n) 0 _ a (fun j hj => by
    have hj' : j < n := by rw [htl] at hj; exact hj
    simp [hj']) (by simpa using htl) inv0 (fun j hj => absurd hj (Nat.not_lt_zero _)) (by rw [htl]; exact hlex) hR
  have hz : ∀ j, j < n → (Array.replicate l.toArray.size false).getD j true = false := fun j hj => by
    have : j < l.toArray.size := Nat.lt_trans hj hn
    exact getD_in (by simpa using this) (getD_replicate_false _ _)
  refine wp_region_any hm ?_
  have := wpAny_of_box (Q' := Q) (g := l.toArray.size - n) (sk := isSk) (N := a.tmps.size) (iv := iv) (aF := aF) h01 ho0 g0 d0 (run0 o0 (by simpa using ho0)) ho1 g1 op1 d1
    (by obtain ⟨k, hk, he⟩ := hea; exact ⟨_, Array.getElem_mem hk, he⟩)
    (by obtain ⟨k, hk, he⟩ := heb; exact ⟨_, Array.getElem_mem hk, he⟩)
    (fun i o hi ho hal => (hX' i o hi ho).1 hal)
    (fun i o hi ho hal => by
      obtain ⟨b1, b2, b3, b4, b5⟩ := (hX' i o hi ho).2 hal
      exact ⟨b1, b2, fun cs b => Region.noSelect_spec hsel i o cs b ho, b3, b4, b5⟩)
    htv hvF ht0 hi hold h1c (fun listed a hL => hL.2.2)
    (fun listed a' b W hI ⟨hL1, hL2, hL3⟩ => by
      subst hL3
      have e : actX i0 x listed b a' = a'.put (some x) (ptrB b) := by unfold actX; rw [if_pos (hL2 _ hi0)]
      obtain ⟨y1, y2⟩ := hI.2.2 (hL2 _ hi0)
      rw [if_pos (hL2 _ hi1)] at y2
      have := wpAny_of_seq (P := P) (ops := l.toArray) (md := .any) (Q' := Q) (l.drop n) n listed (actX i0 x listed b a') W (fun j => by simp [List.getElem?_drop]) (by rw [hdl]; exact hL1) (by
        rw [e]
        exact rest b W ((Ext.refl w).drew.trans hI.1) y1 y2)
      rwa [hdl] at this) _ _ _ 0 w.drew rfl ⟨Ext.refl _, fun h => (by rw [hz _ hi1] at h; cases h), fun h => (by rw [hz _ hi0] at h; cases h)⟩ H
  have e : actX i0 x (Array.replicate l.toArray.size false) 0 a = a := by unfold actX; rw [if_neg (by rw [hz _ hi0]; simp)]
  rw [htl, show n + (l.toArray.size - n) = l.toArray.size by omega, e] at this
  exact this
end
end Go
namespace Go.Ev
open Go.Proofs Go.Proofs.YtcgghcicnanliaaGreatDoor Go.RowKit
noncomputable section

/-- A row of words, two by two. -/
def ptsV : List Value → Option (List Pt)
  | [] => some []
  | .int .i64 x :: .int .i64 y :: r => match ptsV r with
    | some l => some ((x, y) :: l)
    | none => none
  | _ => none
theorem ptsV_ok {ι : In} : ∀ {vs vs' : List Value} {l : List Pt}, ptsV vs = some l → LR ι vs vs' → vs' = l.flatMap encP ∧ vs.length = l.length * 2 := by
  intro vs
  induction vs using ptsV.induct with
  | case1 => intro vs' l h hl; simp only [ptsV, Option.some.injEq] at h; subst h; exact ⟨hl.inv_nil, rfl⟩
  | case2 x y r l0 hr ih =>
    intro vs' l h hl
    simp only [ptsV, hr, Option.some.injEq] at h
    subst h
    obtain ⟨a, m, rfl, ha, hm⟩ := hl.inv_cons
    obtain ⟨b, m', rfl, hb, hm'⟩ := hm.inv_cons
    obtain ⟨e1, e2⟩ := ih hr hm'
    rw [ha.inv_int, hb.inv_int, e1]
    exact ⟨rfl, by simp only [List.length_cons, e2]; omega⟩
  | case3 x y r hr ih => intro vs' l h; simp [ptsV, hr] at h
  | case4 vs h1 h2 => intro vs' l h; unfold ptsV at h; split at h <;> simp_all

/-- The polygon of a slice. -/
def polyAt (h : Hp) (v : Value) : Option (List Pt) :=
  match v with
  | .slice (some a) n _ => match ldN h a.block a.off (n * 2) with
    | some vs => ptsV vs
    | none => none
  | _ => none
theorem polyAt_ok {T : Tab} {ι : In} {h : Hp} {w : World} {v v' : Value} {l : List Pt} (m : M T ι h w) (hv : VR ι v v') (he : polyAt h v = some l) :
    ∃ b off c, v' = .slice (some ⟨b, off, none⟩) l.length c ∧ Sl encP 2 w (some ⟨b, off, none⟩) l := by
  unfold polyAt at he
  split at he
  case h_2 => cases he
  rename_i a n c
  obtain ⟨k, off, sp0⟩ := a
  split at he
  case h_2 => cases he
  rename_i vs hld
  rcases hv.inv_slice with ⟨ha, _⟩ | ⟨k', off', sp, lc, c', ha, hl, rfl, hc⟩
  · cases ha
  cases ha
  have hld2 := hld
  unfold ldN at hld2
  split at hld2
  case h_2 => cases hld2
  rename_i cs e o hk
  simp only [cond_eq_ite] at hld2
  split at hld2
  case isFalse => cases hld2
  rename_i hlen
  rw [Nat.beq_eq] at hlen
  cases hld2
  obtain ⟨lc', e1, pre, c2, post, hw, hpre, hLR, _⟩ := m.at_ k _ hk
  rw [hl] at e1; cases e1
  obtain ⟨f1, f2⟩ := ptsV_ok he ((hLR.drop off).take (n * 2))
  have hn : n = l.length := by omega
  subst hn
  refine ⟨lc.blk, off + lc.shf, c', rfl, fun hpos => ⟨lc.blk, off + lc.shf, rfl, (Array.getElem?_eq_some_iff.1 hw).1, fun j x i v hj hi => ?_⟩⟩
  have h1 := getElem?_rows (enc := encP) (k := 2) (fun _ => rfl) l j i x v hj hi
  rw [← f1, List.getElem?_take] at h1
  split at h1
  case isFalse => cases h1
  rename_i hlt
  rw [List.getElem?_drop] at h1
  have h2 : (pre ++ c2 ++ post)[off + lc.shf + j * 2 + i]? = some v := by
    rw [List.append_assoc, List.getElem?_append_right (by omega), hpre, show off + lc.shf + j * 2 + i - lc.shf = off + (j * 2 + i) by omega, List.getElem?_append_left (by have := (List.getElem?_eq_some_iff.1 h1).1; omega)]
    exact h1
  simp only [World.cell?, hw]
  simpa using h2

/-- A word is a contract, where its result is flat and it may write nothing. -/
theorem good_calls {P : Program} {f : FuncId} {g : Word} (hG : Good P f g) {T : Tab} (ht : T.ty = tyOf P) {args : List Value} {h h' : Hp} {v : Value} (he : g args { h with wall := h.next } = some (v, h')) (hv : flatB v = true)
    {ι : In} {w : World} {args' : Array Value} (m : M T ι h w) (ha : LR ι args args'.toList) (W : World) (hW : Ext w W) : Calls P f args' W fun e w' => e = .returned v ∧ Ext W w' := by
  have mW : M T ι { h with wall := h.next } W := ⟨fun k b hk => by
      obtain ⟨l, h1, h2⟩ := m.at_ k b hk
      exact ⟨l, h1, h2.keep (.refl ι) (hW.block _ h2.in)⟩, m.inj, m.top⟩
  intro cs
  obtain ⟨ι', v', w', fr, s1, s2, s3, hv', _, ev⟩ := hG.2 T ht args _ v h' he ι W args' mW ha cs
  have := flat_eq hv hv'
  subst this
  refine ⟨.returned v', w', fr, ⟨rfl, ev.os, ev.tape, ev.output, ev.size, fun b hb => ev.fr b hb fun k l hk _ hl => ?_⟩, s1, s2, s3⟩
  rw [m.top k hk] at hl
  cases hl

/-- hull.turn of any words. -/
def turnW' (a b c : Pt) : Int := gw (isub (gw (imul (gw (isub b.1 a.1)) (gw (isub c.2 a.2)))) (gw (imul (gw (isub b.2 a.2)) (gw (isub c.1 a.1)))))
theorem turnW'_eq (a b c : Pt) : turnW' a b c = turnW a b c := by
  simp only [turnW', gw_eq, isub_eq, imul_eq, turnW, IntWalk.i64_left]
def hasK1 (x a b : Pt) : Bool := ile 0 (turnW' a b x)
theorem hasK1_eq (x a b : Pt) : hasK1 x a b = hasP x (a, b) := by
  rw [Bool.eq_iff_iff, hasK1, ile_iff, turnW'_eq]
  simp [hasP]
def hasGo (x a p : Pt) : List Pt → Bool
  | [] => hasK1 x p a
  | y :: r => bif hasK1 x p y then hasGo x a y r else false
def hasK (x : Pt) : List Pt → Bool
  | [] => true
  | a :: r => hasGo x a a r
theorem hasGo_iff {x a : Pt} {r0 : List Pt} : ∀ (r : List Pt) (p : Pt) (i : Nat), (a :: r0).drop i = p :: r → (hasGo x a p r = true ↔ ∀ j, i ≤ j → j < (a :: r0).length → hasP x (sideG (a :: r0) j) = true) := by
  intro r
  induction r with
  | nil =>
    intro p i hd
    have hlen := congrArg List.length hd
    simp only [List.length_drop, List.length_cons, List.length_nil] at hlen
    have hp : (a :: r0)[i]? = some p := by rw [← List.head?_drop, hd]; rfl
    have hs : sideG (a :: r0) i = (p, a) := by
      rw [sideG, ptAt_eq hp]
      have : (i + 1) % (a :: r0).length = 0 := by simp only [List.length_cons]; rw [show i + 1 = r0.length + 1 by omega, Nat.mod_self]
      rw [this]
      rfl
    simp only [hasGo, hasK1_eq]
    constructor
    · intro h j h1 h2
      have : j = i := by simp only [List.length_cons] at h2; omega
      subst this
      rw [hs]; exact h
    · intro h
      rw [← hs]
      exact h i (Nat.le_refl _) (by simp only [List.length_cons]; omega)
  | cons y r ih =>
    intro p i hd
    have hlen := congrArg List.length hd
    simp only [List.length_drop, List.length_cons] at hlen
    have hp : (a :: r0)[i]? = some p := by rw [← List.head?_drop, hd]; rfl
    have hd1 : (a :: r0).drop (i + 1) = y :: r := by rw [← List.drop_drop, hd]; rfl
    have hy : (a :: r0)[i + 1]? = some y := by rw [← List.head?_drop, hd1]; rfl
    have hs : sideG (a :: r0) i = (p, y) := by
      rw [sideG, ptAt_eq hp, Nat.mod_eq_of_lt (by simp only [List.length_cons]; omega), ptAt_eq hy]
    simp only [hasGo, cond_eq_ite, hasK1_eq, ← hs]
    have := ih y (i + 1) hd1
    constructor
    · intro h j h1 h2
      split at h
      · rename_i hh
        rcases Nat.lt_or_ge i j with hlt | hge
        · exact this.1 h j hlt h2
        · have : j = i := by omega
          subst this; exact hh
      · cases h
    · intro h
      have h0 := h i (Nat.le_refl _) (by simp only [List.length_cons]; omega)
      rw [h0]
      exact this.2 fun j h1 h2 => h j (by omega) h2
theorem hasK_eq (x : Pt) (l : List Pt) : hasK x l = hasB l x := by
  cases l with
  | nil => rfl
  | cons a r =>
    rw [Bool.eq_iff_iff]
    have h1 := hasGo_iff (x := x) (a := a) (r0 := r) r a 0 rfl
    show hasGo x a a r = true ↔ _
    rw [h1, hasB, List.all_eq_true]
    exact ⟨fun h j hj => h j (Nat.zero_le _) (by simpa using hj), fun h j _ hj => h j (by simpa using hj)⟩

def isT (r : Option (Value × Hp)) : Bool := match r with
  | some (.bool b, _) => b
  | _ => false
def hasG2 (V : Word) (s : Value) (h : Hp) (x : Pt) (l : List Pt) : Option (Value × Hp) :=
  bif plK x then bif Nat.ble 3 l.length then bif Nat.ble l.length 1000000 then bif isT (V [s] { h with wall := h.next }) then some (.tuple #[.bool (hasK x l), .int .i64 0], h) else none else none else none else none
def hasG (V : Word) : Word := fun args h => match args with
  | [s, p] => match ptV p, polyAt h s with
    | some x, some l => hasG2 V s h x l
    | _, _ => none
  | _ => none
theorem good_282 {V : Word} (hV : Good Tryz.prog 146 V) : Good Tryz.prog 282 (hasG V) := by
  refine ⟨ent Tryz.func282 rfl (by kernel_rfl), fun T ht args h v h' he ι w args' m ha => ?_⟩
  unfold hasG at he
  split at he
  case h_2 => cases he
  rename_i s p
  split at he
  case h_2 => cases he
  rename_i x l hx hl
  simp only [hasG2, cond_eq_ite] at he
  repeat' split at he
  all_goals first | (cases he; done) | skip
  rename_i h1 h2 h3 h4
  cases he
  rw [plK_eq] at h1
  have h2 := Nat.le_of_ble_eq_true h2
  have h3 := Nat.le_of_ble_eq_true h3
  obtain ⟨s', r, e1, hs, hr⟩ := ha.inv_cons
  obtain ⟨p', r', e2, hp, hr'⟩ := hr.inv_cons
  have e3 := hr'.inv_nil
  subst e3 e2
  obtain ⟨b, off, c, rfl, hS⟩ := polyAt_ok m hs hl
  have hpx := ptV_eq hx
  subst hpx
  have hpf := flat_eq (flat_pt x) hp
  subst hpf
  have ea : args' = #[.slice (some ⟨b, off, none⟩) l.length c, .agg #[.int .i64 x.1, .int .i64 x.2]] := Array.ext' e1
  subst ea
  rw [hasK_eq]
  unfold isT at h4
  split at h4
  case h_2 => cases h4
  rename_i b' hh hVe
  subst h4
  have hb1 : I64 x.1 ∧ I64 x.2 := by
    simp only [plB, YtcgghcicnanliaaGreatDoor.inB, Bool.and_eq_true, decide_eq_true_eq] at h1
    simp only [I64]; omega
  exact callS_flat m rfl (hullHas_282 _ c l x w hS h2 h3 hb1.1 hb1.2 h1 (fun W hW => good_calls hV ht hVe rfl m (.cons hs .nil) W hW))
end
end Go.Ev
