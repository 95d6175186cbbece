/- slices.IndexFunc and slices.ContainsFunc at this program's types; Walks: the table of rows (layer 12), the cells' closure. Conditions: as each statement says. -/
import Derived.Test.YtcgghcicnanliaaGreatDoorM08
import Derived.Deep.LoopGhost
import Derived.Shelf.Abstract
set_option linter.unusedVariables false
set_option linter.unusedSimpArgs false
namespace Go.Proofs.YtcgghcicnanliaaGreatDoor
open Go.RowKit
set_option maxHeartbeats 400000
set_option maxRecDepth 100000
structure CellT where
 lo:Int
 hi:Int
 date:Int
 void:Bool
def kez (c:CellT):List Value:=[.int .i64 c.lo,.int .i64 c.hi,.int .i64 c.date,.bool c.void]
structure RowT where
 tlo:Int
 thi:Int
 age:Int
 since:Int
 part:Int
 turn:Int
def kdw (r:RowT):List Value:=[.int .i64 r.tlo,.int .i64 r.thi,.int .i64 r.age,.int .i64 r.since,.int .i64 r.part,.int .i64 r.turn]
abbrev Sp:=Int × Int
def encSp (s:Sp):List Value:=[.int .i64 s.1,.int .i64 s.2]
structure PV where
 A:Option Addr
 c:Nat
 l:List Pt
def koy (v:PV):List Value:=[.slice v.A v.l.length v.c]
def idxI {α : Type}(p:α→Bool)(l:List α):Int:=match l.findIdx? p with
 | some i=>i
 | none=>-1
theorem knn {α : Type}{p:α→Bool}{l:List α}{k:Nat}(h:∀j x,j<k→l[j]?=some x→p x=false){y:α}(hy:l[k]?=some y)(hp:p y=true):idxI p l=k:=by
 have:l.findIdx? p=some k:=by
  rw[List.findIdx?_eq_some_iff_getElem];obtain⟨hk,e⟩:=List.getElem?_eq_some_iff.1 hy
  exact⟨hk,by rw[e];exact hp,fun j hj=>by rw[h j _ hj (qgq (by omega))];simp⟩
 simp[idxI,this]
theorem khb {α : Type}{p:α→Bool}{l:List α}{k:Nat}(h:∀j x,j<k→l[j]?=some x→p x=false)(hk:l.length≤k):idxI p l=-1:=by
 have:l.findIdx? p=none:=by
  rw[List.findIdx?_eq_none_iff];intro x hx;obtain⟨j,hj,e⟩:=List.getElem_of_mem hx
  exact h j x (by omega) (by rw[qgq hj,e])
 simp[idxI,this]
theorem kjp {α : Type}(p:α→Bool)(l:List α):decide (idxI p l ≥ 0)=l.any p:=by
 rw[←List.findIdx?_isSome];unfold idxI
 cases l.findIdx? p with
 | none=>rfl
 | some i=>simp
theorem indexFunc_159 (g:Nat)(lb:Array Value)(eg:∀args w,(callFunc g args).run Tryz.prog w=.ok (.enter g args) w)(p:CellT→Bool)(A:Option Addr)(c:Nat)(l:List CellT)(w:World)(hl:l.length≤1000000)(h:Sl kez 4 w A l)
  (hp:∀W x,x∈l→Ext w W→Calls Tryz.prog g (#[.agg (kez x).toArray]++lb) W fun e w'=>e=.returned (.bool (p x))∧Ext W w') :
  Calls Tryz.prog 159 #[.slice A l.length c,.func (.func g) #[] lb] w fun e w'=>e=.returned (.int .i64 (idxI p l))∧Ext w w':=by
 go_enter Tryz.func159,Tryz.ntmps159
 go_wp2
 go_loopg [5,8] l.length (fun gg _ s8 wr=>∃kk:Nat,kk≤l.length∧l.length-kk≤gg∧s8=.int .i64 kk∧Hid (Ext w wr)∧Hid (∀j x,j<kk→l[j]?=some x→p x=false))
 case atStart=>exact⟨0,Nat.zero_le _,by omega,rfl,Ext.refl w,fun j x hj=>absurd hj (Nat.not_lt_zero _)⟩
 case round=>
  obtain⟨kk,hkk,hg,rfl,hx,H⟩:=hrel
  by_cases hlt:kk<l.length
  ·obtain⟨b,off,rfl⟩:=h.addr (by omega)
   obtain⟨y,hy⟩:∃y,l[kk]?=some y:=⟨_,qgq hlt⟩;have hcall:=hp wr y (qmq hy) hx.out;have Y:=Lib.hid hy
   have hltz:(kk:Int)<(l.length:Int):=by omega
   obtain⟨lo,hi,date,void⟩:=y
   have c0:wr.cell? ⟨b,off+kk*4,none⟩=some (.int .i64 lo):=by have:=(h.ext hx.out).at_ hy (i:=0) rfl;simpa using this
   have c1:wr.cell? ⟨b,off+kk*4+1,none⟩=some (.int .i64 hi):=by have:=(h.ext hx.out).at_ hy (i:=1) rfl;simpa using this
   have c2:wr.cell? ⟨b,off+kk*4+2,none⟩=some (.int .i64 date):=by have:=(h.ext hx.out).at_ hy (i:=2) rfl;simpa using this
   have c3:wr.cell? ⟨b,off+kk*4+3,none⟩=some (.bool void):=by have:=(h.ext hx.out).at_ hy (i:=3) rfl;simpa using this
   clear hp hy
   cases hq:p ⟨lo,hi,date,void⟩ with
   | true=>
    rw[hq]at hcall
    go_wp2_with (go_at_fn g;refine hcall.mono ?_;rintro e w' ⟨rfl,hb'⟩)
    go_ret
    exact⟨reti (knn H.out Y.out hq).symm,hx.out.trans hb'⟩
   | false=>
    rw[hq]at hcall
    go_wp2_with (go_at_fn g;refine hcall.mono ?_;rintro e w' ⟨rfl,hb'⟩)
    go_roundg (l.length-(kk+1))
    case measure=>omega
    case rel=>
     refine⟨kk+1,by omega,by omega,by go_num,hx.out.trans hb',fun j x hj hjx=>?_⟩
     by_cases e:j=kk
     ·subst e
      have:=Y.out.symm.trans hjx
      cases this
      exact hq
     ·exact H.out j x (by omega) hjx
  ·have hltz:¬ (kk:Int)<(l.length:Int):=by omega
   go_wp2
   go_ret
   exact⟨reti (khb H.out (by omega)).symm,hx.out⟩
theorem kod (g:Nat)(lb:Array Value)(eg:∀args w,(callFunc g args).run Tryz.prog w=.ok (.enter g args) w)(p:CellT→Bool)(A:Option Addr)(c:Nat)(l:List CellT)(w:World)(hl:l.length≤1000000)(h:Sl kez 4 w A l)
  (hp:∀W x,x∈l→Ext w W→Calls Tryz.prog g (#[.agg (kez x).toArray]++lb) W fun e w'=>e=.returned (.bool (p x))∧Ext W w') :
  Calls Tryz.prog 86 #[.slice A l.length c,.func (.func g) #[] lb] w fun e w'=>e=.returned (.bool (l.any p))∧Ext w w':=by
 rw[←kjp];have hcon:=Lib.hid (indexFunc_159 g lb eg p A c l w hl h hp);clear hp;generalize idxI p l=r at hcon ⊢
 go_enter Tryz.func86,Tryz.ntmps86
 go_wp2_with (go_at_call 159;refine hcon.out.mono ?_;rintro e w' ⟨rfl,hb'⟩)
 go_ret
 exact⟨rfl,hb'⟩
theorem indexFunc_152 (g:Nat)(lb:Array Value)(eg:∀args w,(callFunc g args).run Tryz.prog w=.ok (.enter g args) w)(p:RowT→Bool)(A:Option Addr)(c:Nat)(l:List RowT)(w:World)(hl:l.length≤1000000)(h:Sl kdw 6 w A l)
  (hp:∀W x,x∈l→Ext w W→Calls Tryz.prog g (#[.agg (kdw x).toArray]++lb) W fun e w'=>e=.returned (.bool (p x))∧Ext W w') :
  Calls Tryz.prog 152 #[.slice A l.length c,.func (.func g) #[] lb] w fun e w'=>e=.returned (.int .i64 (idxI p l))∧Ext w w':=by
 go_enter Tryz.func152,Tryz.ntmps152
 go_wp2
 go_loopg [5,8] l.length (fun gg _ s8 wr=>∃kk:Nat,kk≤l.length∧l.length-kk≤gg∧s8=.int .i64 kk∧Hid (Ext w wr)∧Hid (∀j x,j<kk→l[j]?=some x→p x=false))
 case atStart=>exact⟨0,Nat.zero_le _,by omega,rfl,Ext.refl w,fun j x hj=>absurd hj (Nat.not_lt_zero _)⟩
 case round=>
  obtain⟨kk,hkk,hg,rfl,hx,H⟩:=hrel
  by_cases hlt:kk<l.length
  ·obtain⟨b,off,rfl⟩:=h.addr (by omega)
   obtain⟨y,hy⟩:∃y,l[kk]?=some y:=⟨_,qgq hlt⟩;have hcall:=hp wr y (qmq hy) hx.out;have Y:=Lib.hid hy
   have hltz:(kk:Int)<(l.length:Int):=by omega
   obtain⟨tlo,thi,age,since,part,turn⟩:=y
   have c0:wr.cell? ⟨b,off+kk*6,none⟩=some (.int .i64 tlo):=by have:=(h.ext hx.out).at_ hy (i:=0) rfl;simpa using this
   have c1:wr.cell? ⟨b,off+kk*6+1,none⟩=some (.int .i64 thi):=by have:=(h.ext hx.out).at_ hy (i:=1) rfl;simpa using this
   have c2:wr.cell? ⟨b,off+kk*6+2,none⟩=some (.int .i64 age):=by have:=(h.ext hx.out).at_ hy (i:=2) rfl;simpa using this
   have c3:wr.cell? ⟨b,off+kk*6+3,none⟩=some (.int .i64 since):=by have:=(h.ext hx.out).at_ hy (i:=3) rfl;simpa using this
   have c4:wr.cell? ⟨b,off+kk*6+4,none⟩=some (.int .i64 part):=by have:=(h.ext hx.out).at_ hy (i:=4) rfl;simpa using this
   have c5:wr.cell? ⟨b,off+kk*6+5,none⟩=some (.int .i64 turn):=by have:=(h.ext hx.out).at_ hy (i:=5) rfl;simpa using this
   clear hp hy
   cases hq:p ⟨tlo,thi,age,since,part,turn⟩ with
   | true=>
    rw[hq]at hcall
    go_wp2_with (go_at_fn g;refine hcall.mono ?_;rintro e w' ⟨rfl,hb'⟩)
    go_ret
    exact⟨reti (knn H.out Y.out hq).symm,hx.out.trans hb'⟩
   | false=>
    rw[hq]at hcall
    go_wp2_with (go_at_fn g;refine hcall.mono ?_;rintro e w' ⟨rfl,hb'⟩)
    go_roundg (l.length-(kk+1))
    case measure=>omega
    case rel=>
     refine⟨kk+1,by omega,by omega,by go_num,hx.out.trans hb',fun j x hj hjx=>?_⟩
     by_cases e:j=kk
     ·subst e
      have:=Y.out.symm.trans hjx
      cases this
      exact hq
     ·exact H.out j x (by omega) hjx
  ·have hltz:¬ (kk:Int)<(l.length:Int):=by omega
   go_wp2
   go_ret
   exact⟨reti (khb H.out (by omega)).symm,hx.out⟩
theorem koc (g:Nat)(lb:Array Value)(eg:∀args w,(callFunc g args).run Tryz.prog w=.ok (.enter g args) w)(p:RowT→Bool)(A:Option Addr)(c:Nat)(l:List RowT)(w:World)(hl:l.length≤1000000)(h:Sl kdw 6 w A l)
  (hp:∀W x,x∈l→Ext w W→Calls Tryz.prog g (#[.agg (kdw x).toArray]++lb) W fun e w'=>e=.returned (.bool (p x))∧Ext W w') :
  Calls Tryz.prog 98 #[.slice A l.length c,.func (.func g) #[] lb] w fun e w'=>e=.returned (.bool (l.any p))∧Ext w w':=by
 rw[←kjp];have hcon:=Lib.hid (indexFunc_152 g lb eg p A c l w hl h hp);clear hp;generalize idxI p l=r at hcon ⊢
 go_enter Tryz.func98,Tryz.ntmps98
 go_wp2_with (go_at_call 152;refine hcon.out.mono ?_;rintro e w' ⟨rfl,hb'⟩)
 go_ret
 exact⟨rfl,hb'⟩
theorem indexFunc_257 (g:Nat)(lb:Array Value)(eg:∀args w,(callFunc g args).run Tryz.prog w=.ok (.enter g args) w)(p:Pt→Bool)(A:Option Addr)(c:Nat)(l:List Pt)(w:World)(hl:l.length≤1000000)(h:Sl encP 2 w A l)
  (hp:∀W x,x∈l→Ext w W→Calls Tryz.prog g (#[.agg (encP x).toArray]++lb) W fun e w'=>e=.returned (.bool (p x))∧Ext W w') :
  Calls Tryz.prog 257 #[.slice A l.length c,.func (.func g) #[] lb] w fun e w'=>e=.returned (.int .i64 (idxI p l))∧Ext w w':=by
 go_enter Tryz.func257,Tryz.ntmps257
 go_wp2
 go_loopg [5,8] l.length (fun gg _ s8 wr=>∃kk:Nat,kk≤l.length∧l.length-kk≤gg∧s8=.int .i64 kk∧Hid (Ext w wr)∧Hid (∀j x,j<kk→l[j]?=some x→p x=false))
 case atStart=>exact⟨0,Nat.zero_le _,by omega,rfl,Ext.refl w,fun j x hj=>absurd hj (Nat.not_lt_zero _)⟩
 case round=>
  obtain⟨kk,hkk,hg,rfl,hx,H⟩:=hrel
  by_cases hlt:kk<l.length
  ·obtain⟨b,off,rfl⟩:=h.addr (by omega)
   obtain⟨y,hy⟩:∃y,l[kk]?=some y:=⟨_,qgq hlt⟩;have hcall:=hp wr y (qmq hy) hx.out;have Y:=Lib.hid hy
   have hltz:(kk:Int)<(l.length:Int):=by omega
   obtain⟨x1,x2⟩:=y
   have c0:wr.cell? ⟨b,off+kk*2,none⟩=some (.int .i64 x1):=by have:=(h.ext hx.out).at_ hy (i:=0) rfl;simpa using this
   have c1:wr.cell? ⟨b,off+kk*2+1,none⟩=some (.int .i64 x2):=by have:=(h.ext hx.out).at_ hy (i:=1) rfl;simpa using this
   clear hp hy
   cases hq:p ⟨x1,x2⟩ with
   | true=>
    rw[hq]at hcall
    go_wp2_with (go_at_fn g;refine hcall.mono ?_;rintro e w' ⟨rfl,hb'⟩)
    go_ret
    exact⟨reti (knn H.out Y.out hq).symm,hx.out.trans hb'⟩
   | false=>
    rw[hq]at hcall
    go_wp2_with (go_at_fn g;refine hcall.mono ?_;rintro e w' ⟨rfl,hb'⟩)
    go_roundg (l.length-(kk+1))
    case measure=>omega
    case rel=>
     refine⟨kk+1,by omega,by omega,by go_num,hx.out.trans hb',fun j x hj hjx=>?_⟩
     by_cases e:j=kk
     ·subst e
      have:=Y.out.symm.trans hjx
      cases this
      exact hq
     ·exact H.out j x (by omega) hjx
  ·have hltz:¬ (kk:Int)<(l.length:Int):=by omega
   go_wp2
   go_ret
   exact⟨reti (khb H.out (by omega)).symm,hx.out⟩
theorem kgo (g:Nat)(lb:Array Value)(eg:∀args w,(callFunc g args).run Tryz.prog w=.ok (.enter g args) w)(p:Pt→Bool)(A:Option Addr)(c:Nat)(l:List Pt)(w:World)(hl:l.length≤1000000)(h:Sl encP 2 w A l)
  (hp:∀W x,x∈l→Ext w W→Calls Tryz.prog g (#[.agg (encP x).toArray]++lb) W fun e w'=>e=.returned (.bool (p x))∧Ext W w') :
  Calls Tryz.prog 160 #[.slice A l.length c,.func (.func g) #[] lb] w fun e w'=>e=.returned (.bool (l.any p))∧Ext w w':=by
 rw[←kjp];have hcon:=Lib.hid (indexFunc_257 g lb eg p A c l w hl h hp);clear hp;generalize idxI p l=r at hcon ⊢
 go_enter Tryz.func160,Tryz.ntmps160
 go_wp2_with (go_at_call 257;refine hcon.out.mono ?_;rintro e w' ⟨rfl,hb'⟩)
 go_ret
 exact⟨rfl,hb'⟩
theorem indexFunc_428 (g:Nat)(lb:Array Value)(eg:∀args w,(callFunc g args).run Tryz.prog w=.ok (.enter g args) w)(p:Sp→Bool)(A:Option Addr)(c:Nat)(l:List Sp)(w:World)(hl:l.length≤1000000)(h:Sl encSp 2 w A l)
  (hp:∀W x,x∈l→Ext w W→Calls Tryz.prog g (#[.agg (encSp x).toArray]++lb) W fun e w'=>e=.returned (.bool (p x))∧Ext W w') :
  Calls Tryz.prog 428 #[.slice A l.length c,.func (.func g) #[] lb] w fun e w'=>e=.returned (.int .i64 (idxI p l))∧Ext w w':=by
 go_enter Tryz.func428,Tryz.ntmps428
 go_wp2
 go_loopg [5,8] l.length (fun gg _ s8 wr=>∃kk:Nat,kk≤l.length∧l.length-kk≤gg∧s8=.int .i64 kk∧Hid (Ext w wr)∧Hid (∀j x,j<kk→l[j]?=some x→p x=false))
 case atStart=>exact⟨0,Nat.zero_le _,by omega,rfl,Ext.refl w,fun j x hj=>absurd hj (Nat.not_lt_zero _)⟩
 case round=>
  obtain⟨kk,hkk,hg,rfl,hx,H⟩:=hrel
  by_cases hlt:kk<l.length
  ·obtain⟨b,off,rfl⟩:=h.addr (by omega)
   obtain⟨y,hy⟩:∃y,l[kk]?=some y:=⟨_,qgq hlt⟩;have hcall:=hp wr y (qmq hy) hx.out;have Y:=Lib.hid hy
   have hltz:(kk:Int)<(l.length:Int):=by omega
   obtain⟨x1,x2⟩:=y
   have c0:wr.cell? ⟨b,off+kk*2,none⟩=some (.int .i64 x1):=by have:=(h.ext hx.out).at_ hy (i:=0) rfl;simpa using this
   have c1:wr.cell? ⟨b,off+kk*2+1,none⟩=some (.int .i64 x2):=by have:=(h.ext hx.out).at_ hy (i:=1) rfl;simpa using this
   clear hp hy
   cases hq:p ⟨x1,x2⟩ with
   | true=>
    rw[hq]at hcall
    go_wp2_with (go_at_fn g;refine hcall.mono ?_;rintro e w' ⟨rfl,hb'⟩)
    go_ret
    exact⟨reti (knn H.out Y.out hq).symm,hx.out.trans hb'⟩
   | false=>
    rw[hq]at hcall
    go_wp2_with (go_at_fn g;refine hcall.mono ?_;rintro e w' ⟨rfl,hb'⟩)
    go_roundg (l.length-(kk+1))
    case measure=>omega
    case rel=>
     refine⟨kk+1,by omega,by omega,by go_num,hx.out.trans hb',fun j x hj hjx=>?_⟩
     by_cases e:j=kk
     ·subst e
      have:=Y.out.symm.trans hjx
      cases this
      exact hq
     ·exact H.out j x (by omega) hjx
  ·have hltz:¬ (kk:Int)<(l.length:Int):=by omega
   go_wp2
   go_ret
   exact⟨reti (khb H.out (by omega)).symm,hx.out⟩
theorem klt (g:Nat)(lb:Array Value)(eg:∀args w,(callFunc g args).run Tryz.prog w=.ok (.enter g args) w)(p:Sp→Bool)(A:Option Addr)(c:Nat)(l:List Sp)(w:World)(hl:l.length≤1000000)(h:Sl encSp 2 w A l)
  (hp:∀W x,x∈l→Ext w W→Calls Tryz.prog g (#[.agg (encSp x).toArray]++lb) W fun e w'=>e=.returned (.bool (p x))∧Ext W w') :
  Calls Tryz.prog 406 #[.slice A l.length c,.func (.func g) #[] lb] w fun e w'=>e=.returned (.bool (l.any p))∧Ext w w':=by
 rw[←kjp];have hcon:=Lib.hid (indexFunc_428 g lb eg p A c l w hl h hp);clear hp;generalize idxI p l=r at hcon ⊢
 go_enter Tryz.func406,Tryz.ntmps406
 go_wp2_with (go_at_call 428;refine hcon.out.mono ?_;rintro e w' ⟨rfl,hb'⟩)
 go_ret
 exact⟨rfl,hb'⟩
theorem indexFunc_246 (g:Nat)(lb:Array Value)(eg:∀args w,(callFunc g args).run Tryz.prog w=.ok (.enter g args) w)(p:PV→Bool)(A:Option Addr)(c:Nat)(l:List PV)(w:World)(hl:l.length≤1000000)(h:Sl koy 1 w A l)
  (hp:∀W x,x∈l→Ext w W→Calls Tryz.prog g (#[.slice x.A x.l.length x.c]++lb) W fun e w'=>e=.returned (.bool (p x))∧Ext W w') :
  Calls Tryz.prog 246 #[.slice A l.length c,.func (.func g) #[] lb] w fun e w'=>e=.returned (.int .i64 (idxI p l))∧Ext w w':=by
 go_enter Tryz.func246,Tryz.ntmps246
 go_wp2
 go_loopg [5,8] l.length (fun gg _ s8 wr=>∃kk:Nat,kk≤l.length∧l.length-kk≤gg∧s8=.int .i64 kk∧Hid (Ext w wr)∧Hid (∀j x,j<kk→l[j]?=some x→p x=false))
 case atStart=>exact⟨0,Nat.zero_le _,by omega,rfl,Ext.refl w,fun j x hj=>absurd hj (Nat.not_lt_zero _)⟩
 case round=>
  obtain⟨kk,hkk,hg,rfl,hx,H⟩:=hrel
  by_cases hlt:kk<l.length
  ·obtain⟨b,off,rfl⟩:=h.addr (by omega)
   obtain⟨y,hy⟩:∃y,l[kk]?=some y:=⟨_,qgq hlt⟩;have hcall:=hp wr y (qmq hy) hx.out;have Y:=Lib.hid hy
   have hltz:(kk:Int)<(l.length:Int):=by omega
   obtain⟨pA,pc,pl⟩:=y
   have c0:wr.cell? ⟨b,off+kk,none⟩=some (.slice pA pl.length pc):=by have:=(h.ext hx.out).at_ hy (i:=0) rfl;simpa using this
   clear hp hy
   cases hq:p ⟨pA,pc,pl⟩ with
   | true=>
    rw[hq]at hcall
    go_wp2_with (go_at_fn g;refine hcall.mono ?_;rintro e w' ⟨rfl,hb'⟩)
    go_ret
    exact⟨reti (knn H.out Y.out hq).symm,hx.out.trans hb'⟩
   | false=>
    rw[hq]at hcall
    go_wp2_with (go_at_fn g;refine hcall.mono ?_;rintro e w' ⟨rfl,hb'⟩)
    go_roundg (l.length-(kk+1))
    case measure=>omega
    case rel=>
     refine⟨kk+1,by omega,by omega,by go_num,hx.out.trans hb',fun j x hj hjx=>?_⟩
     by_cases e:j=kk
     ·subst e
      have:=Y.out.symm.trans hjx
      cases this
      exact hq
     ·exact H.out j x (by omega) hjx
  ·have hltz:¬ (kk:Int)<(l.length:Int):=by omega
   go_wp2
   go_ret
   exact⟨reti (khb H.out (by omega)).symm,hx.out⟩
theorem klu (g:Nat)(lb:Array Value)(eg:∀args w,(callFunc g args).run Tryz.prog w=.ok (.enter g args) w)(p:PV→Bool)(A:Option Addr)(c:Nat)(l:List PV)(w:World)(hl:l.length≤1000000)(h:Sl koy 1 w A l)
  (hp:∀W x,x∈l→Ext w W→Calls Tryz.prog g (#[.slice x.A x.l.length x.c]++lb) W fun e w'=>e=.returned (.bool (p x))∧Ext W w') :
  Calls Tryz.prog 144 #[.slice A l.length c,.func (.func g) #[] lb] w fun e w'=>e=.returned (.bool (l.any p))∧Ext w w':=by
 rw[←kjp];have hcon:=Lib.hid (indexFunc_246 g lb eg p A c l w hl h hp);clear hp;generalize idxI p l=r at hcon ⊢
 go_enter Tryz.func144,Tryz.ntmps144
 go_wp2_with (go_at_call 246;refine hcon.out.mono ?_;rintro e w' ⟨rfl,hb'⟩)
 go_ret
 exact⟨rfl,hb'⟩
theorem kpd (lo hi date:Int)(void:Bool)(w:World) :
  Calls Tryz.prog 87 #[.agg #[.int .i64 lo,.int .i64 hi,.int .i64 date,.bool void]] w fun e w'=>e=.returned (.bool (!kdx lo hi date))∧Ext w w':=by
 go_enter Tryz.func87,Tryz.ntmps87
 go_wp2_with (go_at_call 88;refine(isCell_88 _ _ _ _ _).mono ?_;rintro e w' ⟨rfl,hb⟩;obtain⟨hc,hf,hz⟩:=hb.rules;(try simp only[qsa]at hz);have hz0:w.heap.size<w'.heap.size:=by omega;(try have hz1:w.heap.size+1<w'.heap.size:=by omega);(try have hz2:w.heap.size+1+1<w'.heap.size:=by omega);(try have hz3:w.heap.size+1+1+1<w'.heap.size:=by omega))
 all_goals (go_ret;exact⟨rfl,xt⟩)
def hold3 (a b c d e f g h i:Int):Bool:=(decide (b≤a)&&decide (a≤c))&&(decide (e≤d)&&decide (d≤f))&&(decide (h≤g)&&decide (g≤i))
theorem hold_151 (a b c d e f g h i:Int)(w:World) :
  Calls Tryz.prog 151 #[.agg #[.int .i64 a,.int .i64 b,.int .i64 c,.int .i64 d,.int .i64 e,.int .i64 f,.int .i64 g,.int .i64 h,.int .i64 i]] w fun r w'=>r=.returned (.bool (hold3 a b c d e f g h i))∧Ext w w':=by
 have i0:∀W,(Instr.index 203 (.agg #[.int .i64 a,.int .i64 b,.int .i64 c,.int .i64 d,.int .i64 e,.int .i64 f,.int .i64 g,.int .i64 h,.int .i64 i]) (.int .i64 0)).run Tryz.prog W=.ok (.agg #[.int .i64 a,.int .i64 b,.int .i64 c]) W:=fun _=>by kernel_rfl
 have i1:∀W,(Instr.index 203 (.agg #[.int .i64 a,.int .i64 b,.int .i64 c,.int .i64 d,.int .i64 e,.int .i64 f,.int .i64 g,.int .i64 h,.int .i64 i]) (.int .i64 1)).run Tryz.prog W=.ok (.agg #[.int .i64 d,.int .i64 e,.int .i64 f]) W:=fun _=>by kernel_rfl
 have i2:∀W,(Instr.index 203 (.agg #[.int .i64 a,.int .i64 b,.int .i64 c,.int .i64 d,.int .i64 e,.int .i64 f,.int .i64 g,.int .i64 h,.int .i64 i]) (.int .i64 2)).run Tryz.prog W=.ok (.agg #[.int .i64 g,.int .i64 h,.int .i64 i]) W:=fun _=>by kernel_rfl
 go_enter Tryz.func151,Tryz.ntmps151
 go_wp2
 refine wp_loop_rounds 4 ?_
 repeat any_goals (rw[rounds_succ];go_wp2)
 all_goals (go_ret;exact⟨retb (by rw[Bool.eq_iff_iff];(try simp[hold3])<;>omega),xt⟩)
def kif (r:RowT):Bool:=hold3 r.tlo (-1000) r.thi r.thi (-1000) 1000 r.age 0 10000&&hold3 r.since 0 1000000000 r.part 0 500 r.turn 0 8
theorem isRow_100 (r:RowT)(w:World) :
  Calls Tryz.prog 100 #[.agg (kdw r).toArray] w fun e w'=>e=.returned (.bool (kif r))∧Ext w w':=by
 obtain⟨a,b,c,d,f,g⟩:=r;simp only[kdw,kif]
 go_enter Tryz.func100,Tryz.ntmps100
 go_wp2_with (go_at_call 151;refine(hold_151 _ _ _ _ _ _ _ _ _ _).mono ?_;rintro e w' ⟨rfl,hb⟩;obtain⟨hc,hf,hz⟩:=hb.rules;(try simp only[qsa]at hz);have hz0:w.heap.size<w'.heap.size:=by omega;(try have hz1:w.heap.size+1<w'.heap.size:=by omega);(try have hz2:w.heap.size+1+1<w'.heap.size:=by omega);(try have hz3:w.heap.size+1+1+1<w'.heap.size:=by omega))
 all_goals (go_ret;exact⟨retb (by simp_all),xt⟩)
theorem kos (r:RowT)(w:World) :
  Calls Tryz.prog 99 #[.agg (kdw r).toArray] w fun e w'=>e=.returned (.bool (!kif r))∧Ext w w':=by
 have hcon:=Lib.hid (isRow_100 r);generalize kif r=o at hcon ⊢;obtain⟨a,b,c,d,f,g⟩:=r;simp only[kdw]at hcon ⊢
 go_enter Tryz.func99,Tryz.ntmps99
 go_wp2_with (go_at_call 100;refine(hcon.out _).mono ?_;rintro e w' ⟨rfl,hb⟩)
 all_goals (go_ret;exact⟨rfl,xt⟩)
def kfh (l:List RowT):Bool:=decide (l.length≤50)&&!(l.any fun r=>!kif r)
theorem eg_99:∀args w,(callFunc 99 args).run Tryz.prog w=.ok (.enter 99 args) w:=enters_of Tryz.func99 (by kernel_rfl) rfl
theorem tableValid_43 (A:Option Addr)(c:Nat)(l:List RowT)(w:World)(h:Sl kdw 6 w A l) :
  Calls Tryz.prog 43 #[.slice A l.length c] w fun e w'=>e=.returned (.bool (kfh l))∧Ext w w':=by
 have hcon:l.length≤50→_:=fun hl=>koc 99 #[] eg_99 (fun r=>!kif r) A c l w (by omega) h (fun W x _ _=>by simpa using kos x W)
 have H:=Lib.hid hcon;clear hcon;unfold kfh
 generalize (l.any fun r=>!kif r)=o at H ⊢
 by_cases hl:l.length≤50
 ·have h1:decide (l.length≤50)=true:=by simpa using hl
  go_enter Tryz.func43,Tryz.ntmps43
  go_wp2_with (go_at_call 98;refine(H.out hl).mono ?_;rintro e w' ⟨rfl,hb⟩)
  all_goals (go_ret;exact⟨retb (by simp_all),xt⟩)
 ·go_enter Tryz.func43,Tryz.ntmps43
  go_wp2_with fail
  all_goals (go_ret;exact⟨retb (by simp_all),xt⟩)
end Go.Proofs.YtcgghcicnanliaaGreatDoor
