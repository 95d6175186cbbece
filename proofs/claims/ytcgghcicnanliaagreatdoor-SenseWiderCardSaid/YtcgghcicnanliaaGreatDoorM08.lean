/- slices.IndexFunc and slices.ContainsFunc at this program's types. Conditions: at most 1000000 elements; the predicate answers p at each element, and leaves what lay. -/
import Derived.Test.YtcgghcicnanliaaGreatDoorProg
import Derived.Test.YtcgghcicnanliaaGreatDoorM07
import Derived.Deep.LoopGhost
import Derived.Shelf.Abstract
set_option linter.unusedVariables false
set_option linter.unusedSimpArgs false
namespace Go.Proofs.YtcgghcicnanliaaGreatDoor
open Go.RowKit
set_option maxHeartbeats 400000
set_option maxRecDepth 100000

structure CellT where
  lo : Int
  hi : Int
  date : Int
  void : Bool
def encCell (c : CellT) : List Value := [.int .i64 c.lo, .int .i64 c.hi, .int .i64 c.date, .bool c.void]
structure RowT where
  tlo : Int
  thi : Int
  age : Int
  since : Int
  part : Int
  turn : Int
def encRow (r : RowT) : List Value := [.int .i64 r.tlo, .int .i64 r.thi, .int .i64 r.age, .int .i64 r.since, .int .i64 r.part, .int .i64 r.turn]
abbrev Sp := Int × Int
def encSp (s : Sp) : List Value := [.int .i64 s.1, .int .i64 s.2]
/-- A polygon as a value: its address, its capacity, its points. -/
structure PV where
  A : Option Addr
  c : Nat
  l : List Pt
def encPV (v : PV) : List Value := [.slice v.A v.l.length v.c]

/-- The index of the first element of which p holds, or -1. -/
def idxI {α : Type} (p : α → Bool) (l : List α) : Int := match l.findIdx? p with
  | some i => i
  | none => -1
theorem idxI_at {α : Type} {p : α → Bool} {l : List α} {k : Nat} (h : ∀ j x, j < k → l[j]? = some x → p x = false) {y : α} (hy : l[k]? = some y) (hp : p y = true) : idxI p l = k := by
  have : l.findIdx? p = some k := by
    rw [List.findIdx?_eq_some_iff_getElem]
    obtain ⟨hk, e⟩ := List.getElem?_eq_some_iff.1 hy
    exact ⟨hk, by rw [e]; exact hp, fun j hj => by rw [h j _ hj (List.getElem?_eq_getElem (by omega))]; simp⟩
  simp [idxI, this]
theorem idxI_none {α : Type} {p : α → Bool} {l : List α} {k : Nat} (h : ∀ j x, j < k → l[j]? = some x → p x = false) (hk : l.length ≤ k) : idxI p l = -1 := by
  have : l.findIdx? p = none := by
    rw [List.findIdx?_eq_none_iff]
    intro x hx
    obtain ⟨j, hj, e⟩ := List.getElem_of_mem hx
    exact h j x (by omega) (by rw [List.getElem?_eq_getElem hj, e])
  simp [idxI, this]
theorem idxI_any {α : Type} (p : α → Bool) (l : List α) : decide (idxI p l ≥ 0) = l.any p := by
  rw [← List.findIdx?_isSome]
  unfold idxI
  cases l.findIdx? p with
  | none => rfl
  | some i => simp

theorem indexFunc_159 (g : Nat) (lb : Array Value) (eg : ∀ args w, (callFunc g args).run Tryz.prog w = .ok (.enter g args) w) (p : CellT → Bool) (A : Option Addr) (c : Nat) (l : List CellT) (w : World) (hl : l.length ≤ 1000000) (h : Sl encCell 4 w A l)
    (hp : ∀ W x, x ∈ l → Ext w W → Calls Tryz.prog g (#[.agg (encCell x).toArray] ++ lb) W fun e w' => e = .returned (.bool (p x)) ∧ Ext W w') :
    Calls Tryz.prog 159 #[.slice A l.length c, .func (.func g) #[] lb] w fun e w' => e = .returned (.int .i64 (idxI p l)) ∧ Ext w w' := by
  go_enter Tryz.func159, Tryz.ntmps159
  go_wp2
  go_loopg [5, 8] l.length (fun gg _ s8 wr => ∃ kk : Nat, kk ≤ l.length ∧ l.length - kk ≤ gg ∧ s8 = .int .i64 kk ∧ Hid (Ext w wr) ∧ Hid (∀ j x, j < kk → l[j]? = some x → p x = false))
  case atStart => exact ⟨0, Nat.zero_le _, by omega, rfl, Ext.refl w, fun j x hj => absurd hj (Nat.not_lt_zero _)⟩
  case round =>
    obtain ⟨kk, hkk, hg, rfl, hx, H⟩ := hrel
    by_cases hlt : kk < l.length
    · obtain ⟨b, off, rfl⟩ := h.addr (by omega)
      obtain ⟨y, hy⟩ : ∃ y, l[kk]? = some y := ⟨_, List.getElem?_eq_getElem hlt⟩
      have hcall := hp wr y (List.mem_of_getElem? hy) hx.out
      have Y := Lib.hid hy
      have hltz : (kk : Int) < (l.length : Int) := by omega
      obtain ⟨lo, hi, date, void⟩ := y
      have c0 : wr.cell? ⟨b, off + kk * 4, none⟩ = some (.int .i64 lo) := by have := (h.ext hx.out).at_ hy (i := 0) rfl; simpa using this
      have c1 : wr.cell? ⟨b, off + kk * 4 + 1, none⟩ = some (.int .i64 hi) := by have := (h.ext hx.out).at_ hy (i := 1) rfl; simpa using this
      have c2 : wr.cell? ⟨b, off + kk * 4 + 2, none⟩ = some (.int .i64 date) := by have := (h.ext hx.out).at_ hy (i := 2) rfl; simpa using this
      have c3 : wr.cell? ⟨b, off + kk * 4 + 3, none⟩ = some (.bool void) := by have := (h.ext hx.out).at_ hy (i := 3) rfl; simpa using this
      clear hp hy
      cases hq : p ⟨lo, hi, date, void⟩ with
      | true =>
        rw [hq] at hcall
        go_wp2_with (go_at_fn g; refine hcall.mono ?_; rintro e w' ⟨rfl, hb'⟩)
        go_ret
        exact ⟨reti (idxI_at H.out Y.out hq).symm, hx.out.trans hb'⟩
      | false =>
        rw [hq] at hcall
        go_wp2_with (go_at_fn g; refine hcall.mono ?_; rintro e w' ⟨rfl, hb'⟩)
        go_roundg (l.length - (kk + 1))
        case measure => omega
        case rel =>
          refine ⟨kk + 1, by omega, by omega, by go_num, hx.out.trans hb', fun j x hj hjx => ?_⟩
          by_cases e : j = kk
          · subst e
            have := Y.out.symm.trans hjx
            cases this
            exact hq
          · exact H.out j x (by omega) hjx
    · have hltz : ¬ (kk : Int) < (l.length : Int) := by omega
      go_wp2
      go_ret
      exact ⟨reti (idxI_none H.out (by omega)).symm, hx.out⟩

theorem containsFunc_86 (g : Nat) (lb : Array Value) (eg : ∀ args w, (callFunc g args).run Tryz.prog w = .ok (.enter g args) w) (p : CellT → Bool) (A : Option Addr) (c : Nat) (l : List CellT) (w : World) (hl : l.length ≤ 1000000) (h : Sl encCell 4 w A l)
    (hp : ∀ W x, x ∈ l → Ext w W → Calls Tryz.prog g (#[.agg (encCell x).toArray] ++ lb) W fun e w' => e = .returned (.bool (p x)) ∧ Ext W w') :
    Calls Tryz.prog 86 #[.slice A l.length c, .func (.func g) #[] lb] w fun e w' => e = .returned (.bool (l.any p)) ∧ Ext w w' := by
  rw [← idxI_any]
  have hcon := Lib.hid (indexFunc_159 g lb eg p A c l w hl h hp)
  clear hp
  generalize idxI p l = r at hcon ⊢
  go_enter Tryz.func86, Tryz.ntmps86
  go_wp2_with (go_at_call 159; refine hcon.out.mono ?_; rintro e w' ⟨rfl, hb'⟩)
  go_ret
  exact ⟨rfl, hb'⟩

theorem indexFunc_152 (g : Nat) (lb : Array Value) (eg : ∀ args w, (callFunc g args).run Tryz.prog w = .ok (.enter g args) w) (p : RowT → Bool) (A : Option Addr) (c : Nat) (l : List RowT) (w : World) (hl : l.length ≤ 1000000) (h : Sl encRow 6 w A l)
    (hp : ∀ W x, x ∈ l → Ext w W → Calls Tryz.prog g (#[.agg (encRow x).toArray] ++ lb) W fun e w' => e = .returned (.bool (p x)) ∧ Ext W w') :
    Calls Tryz.prog 152 #[.slice A l.length c, .func (.func g) #[] lb] w fun e w' => e = .returned (.int .i64 (idxI p l)) ∧ Ext w w' := by
  go_enter Tryz.func152, Tryz.ntmps152
  go_wp2
  go_loopg [5, 8] l.length (fun gg _ s8 wr => ∃ kk : Nat, kk ≤ l.length ∧ l.length - kk ≤ gg ∧ s8 = .int .i64 kk ∧ Hid (Ext w wr) ∧ Hid (∀ j x, j < kk → l[j]? = some x → p x = false))
  case atStart => exact ⟨0, Nat.zero_le _, by omega, rfl, Ext.refl w, fun j x hj => absurd hj (Nat.not_lt_zero _)⟩
  case round =>
    obtain ⟨kk, hkk, hg, rfl, hx, H⟩ := hrel
    by_cases hlt : kk < l.length
    · obtain ⟨b, off, rfl⟩ := h.addr (by omega)
      obtain ⟨y, hy⟩ : ∃ y, l[kk]? = some y := ⟨_, List.getElem?_eq_getElem hlt⟩
      have hcall := hp wr y (List.mem_of_getElem? hy) hx.out
      have Y := Lib.hid hy
      have hltz : (kk : Int) < (l.length : Int) := by omega
      obtain ⟨tlo, thi, age, since, part, turn⟩ := y
      have c0 : wr.cell? ⟨b, off + kk * 6, none⟩ = some (.int .i64 tlo) := by have := (h.ext hx.out).at_ hy (i := 0) rfl; simpa using this
      have c1 : wr.cell? ⟨b, off + kk * 6 + 1, none⟩ = some (.int .i64 thi) := by have := (h.ext hx.out).at_ hy (i := 1) rfl; simpa using this
      have c2 : wr.cell? ⟨b, off + kk * 6 + 2, none⟩ = some (.int .i64 age) := by have := (h.ext hx.out).at_ hy (i := 2) rfl; simpa using this
      have c3 : wr.cell? ⟨b, off + kk * 6 + 3, none⟩ = some (.int .i64 since) := by have := (h.ext hx.out).at_ hy (i := 3) rfl; simpa using this
      have c4 : wr.cell? ⟨b, off + kk * 6 + 4, none⟩ = some (.int .i64 part) := by have := (h.ext hx.out).at_ hy (i := 4) rfl; simpa using this
      have c5 : wr.cell? ⟨b, off + kk * 6 + 5, none⟩ = some (.int .i64 turn) := by have := (h.ext hx.out).at_ hy (i := 5) rfl; simpa using this
      clear hp hy
      cases hq : p ⟨tlo, thi, age, since, part, turn⟩ with
      | true =>
        rw [hq] at hcall
        go_wp2_with (go_at_fn g; refine hcall.mono ?_; rintro e w' ⟨rfl, hb'⟩)
        go_ret
        exact ⟨reti (idxI_at H.out Y.out hq).symm, hx.out.trans hb'⟩
      | false =>
        rw [hq] at hcall
        go_wp2_with (go_at_fn g; refine hcall.mono ?_; rintro e w' ⟨rfl, hb'⟩)
        go_roundg (l.length - (kk + 1))
        case measure => omega
        case rel =>
          refine ⟨kk + 1, by omega, by omega, by go_num, hx.out.trans hb', fun j x hj hjx => ?_⟩
          by_cases e : j = kk
          · subst e
            have := Y.out.symm.trans hjx
            cases this
            exact hq
          · exact H.out j x (by omega) hjx
    · have hltz : ¬ (kk : Int) < (l.length : Int) := by omega
      go_wp2
      go_ret
      exact ⟨reti (idxI_none H.out (by omega)).symm, hx.out⟩

theorem containsFunc_98 (g : Nat) (lb : Array Value) (eg : ∀ args w, (callFunc g args).run Tryz.prog w = .ok (.enter g args) w) (p : RowT → Bool) (A : Option Addr) (c : Nat) (l : List RowT) (w : World) (hl : l.length ≤ 1000000) (h : Sl encRow 6 w A l)
    (hp : ∀ W x, x ∈ l → Ext w W → Calls Tryz.prog g (#[.agg (encRow x).toArray] ++ lb) W fun e w' => e = .returned (.bool (p x)) ∧ Ext W w') :
    Calls Tryz.prog 98 #[.slice A l.length c, .func (.func g) #[] lb] w fun e w' => e = .returned (.bool (l.any p)) ∧ Ext w w' := by
  rw [← idxI_any]
  have hcon := Lib.hid (indexFunc_152 g lb eg p A c l w hl h hp)
  clear hp
  generalize idxI p l = r at hcon ⊢
  go_enter Tryz.func98, Tryz.ntmps98
  go_wp2_with (go_at_call 152; refine hcon.out.mono ?_; rintro e w' ⟨rfl, hb'⟩)
  go_ret
  exact ⟨rfl, hb'⟩

theorem indexFunc_257 (g : Nat) (lb : Array Value) (eg : ∀ args w, (callFunc g args).run Tryz.prog w = .ok (.enter g args) w) (p : Pt → Bool) (A : Option Addr) (c : Nat) (l : List Pt) (w : World) (hl : l.length ≤ 1000000) (h : Sl encP 2 w A l)
    (hp : ∀ W x, x ∈ l → Ext w W → Calls Tryz.prog g (#[.agg (encP x).toArray] ++ lb) W fun e w' => e = .returned (.bool (p x)) ∧ Ext W w') :
    Calls Tryz.prog 257 #[.slice A l.length c, .func (.func g) #[] lb] w fun e w' => e = .returned (.int .i64 (idxI p l)) ∧ Ext w w' := by
  go_enter Tryz.func257, Tryz.ntmps257
  go_wp2
  go_loopg [5, 8] l.length (fun gg _ s8 wr => ∃ kk : Nat, kk ≤ l.length ∧ l.length - kk ≤ gg ∧ s8 = .int .i64 kk ∧ Hid (Ext w wr) ∧ Hid (∀ j x, j < kk → l[j]? = some x → p x = false))
  case atStart => exact ⟨0, Nat.zero_le _, by omega, rfl, Ext.refl w, fun j x hj => absurd hj (Nat.not_lt_zero _)⟩
  case round =>
    obtain ⟨kk, hkk, hg, rfl, hx, H⟩ := hrel
    by_cases hlt : kk < l.length
    · obtain ⟨b, off, rfl⟩ := h.addr (by omega)
      obtain ⟨y, hy⟩ : ∃ y, l[kk]? = some y := ⟨_, List.getElem?_eq_getElem hlt⟩
      have hcall := hp wr y (List.mem_of_getElem? hy) hx.out
      have Y := Lib.hid hy
      have hltz : (kk : Int) < (l.length : Int) := by omega
      obtain ⟨x1, x2⟩ := y
      have c0 : wr.cell? ⟨b, off + kk * 2, none⟩ = some (.int .i64 x1) := by have := (h.ext hx.out).at_ hy (i := 0) rfl; simpa using this
      have c1 : wr.cell? ⟨b, off + kk * 2 + 1, none⟩ = some (.int .i64 x2) := by have := (h.ext hx.out).at_ hy (i := 1) rfl; simpa using this
      clear hp hy
      cases hq : p ⟨x1, x2⟩ with
      | true =>
        rw [hq] at hcall
        go_wp2_with (go_at_fn g; refine hcall.mono ?_; rintro e w' ⟨rfl, hb'⟩)
        go_ret
        exact ⟨reti (idxI_at H.out Y.out hq).symm, hx.out.trans hb'⟩
      | false =>
        rw [hq] at hcall
        go_wp2_with (go_at_fn g; refine hcall.mono ?_; rintro e w' ⟨rfl, hb'⟩)
        go_roundg (l.length - (kk + 1))
        case measure => omega
        case rel =>
          refine ⟨kk + 1, by omega, by omega, by go_num, hx.out.trans hb', fun j x hj hjx => ?_⟩
          by_cases e : j = kk
          · subst e
            have := Y.out.symm.trans hjx
            cases this
            exact hq
          · exact H.out j x (by omega) hjx
    · have hltz : ¬ (kk : Int) < (l.length : Int) := by omega
      go_wp2
      go_ret
      exact ⟨reti (idxI_none H.out (by omega)).symm, hx.out⟩

theorem containsFunc_160 (g : Nat) (lb : Array Value) (eg : ∀ args w, (callFunc g args).run Tryz.prog w = .ok (.enter g args) w) (p : Pt → Bool) (A : Option Addr) (c : Nat) (l : List Pt) (w : World) (hl : l.length ≤ 1000000) (h : Sl encP 2 w A l)
    (hp : ∀ W x, x ∈ l → Ext w W → Calls Tryz.prog g (#[.agg (encP x).toArray] ++ lb) W fun e w' => e = .returned (.bool (p x)) ∧ Ext W w') :
    Calls Tryz.prog 160 #[.slice A l.length c, .func (.func g) #[] lb] w fun e w' => e = .returned (.bool (l.any p)) ∧ Ext w w' := by
  rw [← idxI_any]
  have hcon := Lib.hid (indexFunc_257 g lb eg p A c l w hl h hp)
  clear hp
  generalize idxI p l = r at hcon ⊢
  go_enter Tryz.func160, Tryz.ntmps160
  go_wp2_with (go_at_call 257; refine hcon.out.mono ?_; rintro e w' ⟨rfl, hb'⟩)
  go_ret
  exact ⟨rfl, hb'⟩

theorem indexFunc_428 (g : Nat) (lb : Array Value) (eg : ∀ args w, (callFunc g args).run Tryz.prog w = .ok (.enter g args) w) (p : Sp → Bool) (A : Option Addr) (c : Nat) (l : List Sp) (w : World) (hl : l.length ≤ 1000000) (h : Sl encSp 2 w A l)
    (hp : ∀ W x, x ∈ l → Ext w W → Calls Tryz.prog g (#[.agg (encSp x).toArray] ++ lb) W fun e w' => e = .returned (.bool (p x)) ∧ Ext W w') :
    Calls Tryz.prog 428 #[.slice A l.length c, .func (.func g) #[] lb] w fun e w' => e = .returned (.int .i64 (idxI p l)) ∧ Ext w w' := by
  go_enter Tryz.func428, Tryz.ntmps428
  go_wp2
  go_loopg [5, 8] l.length (fun gg _ s8 wr => ∃ kk : Nat, kk ≤ l.length ∧ l.length - kk ≤ gg ∧ s8 = .int .i64 kk ∧ Hid (Ext w wr) ∧ Hid (∀ j x, j < kk → l[j]? = some x → p x = false))
  case atStart => exact ⟨0, Nat.zero_le _, by omega, rfl, Ext.refl w, fun j x hj => absurd hj (Nat.not_lt_zero _)⟩
  case round =>
    obtain ⟨kk, hkk, hg, rfl, hx, H⟩ := hrel
    by_cases hlt : kk < l.length
    · obtain ⟨b, off, rfl⟩ := h.addr (by omega)
      obtain ⟨y, hy⟩ : ∃ y, l[kk]? = some y := ⟨_, List.getElem?_eq_getElem hlt⟩
      have hcall := hp wr y (List.mem_of_getElem? hy) hx.out
      have Y := Lib.hid hy
      have hltz : (kk : Int) < (l.length : Int) := by omega
      obtain ⟨x1, x2⟩ := y
      have c0 : wr.cell? ⟨b, off + kk * 2, none⟩ = some (.int .i64 x1) := by have := (h.ext hx.out).at_ hy (i := 0) rfl; simpa using this
      have c1 : wr.cell? ⟨b, off + kk * 2 + 1, none⟩ = some (.int .i64 x2) := by have := (h.ext hx.out).at_ hy (i := 1) rfl; simpa using this
      clear hp hy
      cases hq : p ⟨x1, x2⟩ with
      | true =>
        rw [hq] at hcall
        go_wp2_with (go_at_fn g; refine hcall.mono ?_; rintro e w' ⟨rfl, hb'⟩)
        go_ret
        exact ⟨reti (idxI_at H.out Y.out hq).symm, hx.out.trans hb'⟩
      | false =>
        rw [hq] at hcall
        go_wp2_with (go_at_fn g; refine hcall.mono ?_; rintro e w' ⟨rfl, hb'⟩)
        go_roundg (l.length - (kk + 1))
        case measure => omega
        case rel =>
          refine ⟨kk + 1, by omega, by omega, by go_num, hx.out.trans hb', fun j x hj hjx => ?_⟩
          by_cases e : j = kk
          · subst e
            have := Y.out.symm.trans hjx
            cases this
            exact hq
          · exact H.out j x (by omega) hjx
    · have hltz : ¬ (kk : Int) < (l.length : Int) := by omega
      go_wp2
      go_ret
      exact ⟨reti (idxI_none H.out (by omega)).symm, hx.out⟩

theorem containsFunc_406 (g : Nat) (lb : Array Value) (eg : ∀ args w, (callFunc g args).run Tryz.prog w = .ok (.enter g args) w) (p : Sp → Bool) (A : Option Addr) (c : Nat) (l : List Sp) (w : World) (hl : l.length ≤ 1000000) (h : Sl encSp 2 w A l)
    (hp : ∀ W x, x ∈ l → Ext w W → Calls Tryz.prog g (#[.agg (encSp x).toArray] ++ lb) W fun e w' => e = .returned (.bool (p x)) ∧ Ext W w') :
    Calls Tryz.prog 406 #[.slice A l.length c, .func (.func g) #[] lb] w fun e w' => e = .returned (.bool (l.any p)) ∧ Ext w w' := by
  rw [← idxI_any]
  have hcon := Lib.hid (indexFunc_428 g lb eg p A c l w hl h hp)
  clear hp
  generalize idxI p l = r at hcon ⊢
  go_enter Tryz.func406, Tryz.ntmps406
  go_wp2_with (go_at_call 428; refine hcon.out.mono ?_; rintro e w' ⟨rfl, hb'⟩)
  go_ret
  exact ⟨rfl, hb'⟩

theorem indexFunc_246 (g : Nat) (lb : Array Value) (eg : ∀ args w, (callFunc g args).run Tryz.prog w = .ok (.enter g args) w) (p : PV → Bool) (A : Option Addr) (c : Nat) (l : List PV) (w : World) (hl : l.length ≤ 1000000) (h : Sl encPV 1 w A l)
    (hp : ∀ W x, x ∈ l → Ext w W → Calls Tryz.prog g (#[.slice x.A x.l.length x.c] ++ lb) W fun e w' => e = .returned (.bool (p x)) ∧ Ext W w') :
    Calls Tryz.prog 246 #[.slice A l.length c, .func (.func g) #[] lb] w fun e w' => e = .returned (.int .i64 (idxI p l)) ∧ Ext w w' := by
  go_enter Tryz.func246, Tryz.ntmps246
  go_wp2
  go_loopg [5, 8] l.length (fun gg _ s8 wr => ∃ kk : Nat, kk ≤ l.length ∧ l.length - kk ≤ gg ∧ s8 = .int .i64 kk ∧ Hid (Ext w wr) ∧ Hid (∀ j x, j < kk → l[j]? = some x → p x = false))
  case atStart => exact ⟨0, Nat.zero_le _, by omega, rfl, Ext.refl w, fun j x hj => absurd hj (Nat.not_lt_zero _)⟩
  case round =>
    obtain ⟨kk, hkk, hg, rfl, hx, H⟩ := hrel
    by_cases hlt : kk < l.length
    · obtain ⟨b, off, rfl⟩ := h.addr (by omega)
      obtain ⟨y, hy⟩ : ∃ y, l[kk]? = some y := ⟨_, List.getElem?_eq_getElem hlt⟩
      have hcall := hp wr y (List.mem_of_getElem? hy) hx.out
      have Y := Lib.hid hy
      have hltz : (kk : Int) < (l.length : Int) := by omega
      obtain ⟨pA, pc, pl⟩ := y
      have c0 : wr.cell? ⟨b, off + kk, none⟩ = some (.slice pA pl.length pc) := by have := (h.ext hx.out).at_ hy (i := 0) rfl; simpa using this
      clear hp hy
      cases hq : p ⟨pA, pc, pl⟩ with
      | true =>
        rw [hq] at hcall
        go_wp2_with (go_at_fn g; refine hcall.mono ?_; rintro e w' ⟨rfl, hb'⟩)
        go_ret
        exact ⟨reti (idxI_at H.out Y.out hq).symm, hx.out.trans hb'⟩
      | false =>
        rw [hq] at hcall
        go_wp2_with (go_at_fn g; refine hcall.mono ?_; rintro e w' ⟨rfl, hb'⟩)
        go_roundg (l.length - (kk + 1))
        case measure => omega
        case rel =>
          refine ⟨kk + 1, by omega, by omega, by go_num, hx.out.trans hb', fun j x hj hjx => ?_⟩
          by_cases e : j = kk
          · subst e
            have := Y.out.symm.trans hjx
            cases this
            exact hq
          · exact H.out j x (by omega) hjx
    · have hltz : ¬ (kk : Int) < (l.length : Int) := by omega
      go_wp2
      go_ret
      exact ⟨reti (idxI_none H.out (by omega)).symm, hx.out⟩

theorem containsFunc_144 (g : Nat) (lb : Array Value) (eg : ∀ args w, (callFunc g args).run Tryz.prog w = .ok (.enter g args) w) (p : PV → Bool) (A : Option Addr) (c : Nat) (l : List PV) (w : World) (hl : l.length ≤ 1000000) (h : Sl encPV 1 w A l)
    (hp : ∀ W x, x ∈ l → Ext w W → Calls Tryz.prog g (#[.slice x.A x.l.length x.c] ++ lb) W fun e w' => e = .returned (.bool (p x)) ∧ Ext W w') :
    Calls Tryz.prog 144 #[.slice A l.length c, .func (.func g) #[] lb] w fun e w' => e = .returned (.bool (l.any p)) ∧ Ext w w' := by
  rw [← idxI_any]
  have hcon := Lib.hid (indexFunc_246 g lb eg p A c l w hl h hp)
  clear hp
  generalize idxI p l = r at hcon ⊢
  go_enter Tryz.func144, Tryz.ntmps144
  go_wp2_with (go_at_call 246; refine hcon.out.mono ?_; rintro e w' ⟨rfl, hb'⟩)
  go_ret
  exact ⟨rfl, hb'⟩

end Go.Proofs.YtcgghcicnanliaaGreatDoor
