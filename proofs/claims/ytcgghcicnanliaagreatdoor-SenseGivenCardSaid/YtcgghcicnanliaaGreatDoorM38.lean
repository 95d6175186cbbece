/- Walks; Walks: cut.frame; Walks: cut.crossings; Walks: cut.shared; Walks: hull.Eight; Plain laws; Walks: region.Tidy. Conditions: as each statement says. -/
import Derived.Test.YtcgghcicnanliaaGreatDoorM35
import Derived.Lib.AppendZeros
set_option linter.unusedVariables false
set_option linter.unusedSimpArgs false
namespace Go.Proofs.YtcgghcicnanliaaGreatDoor
open Go.RowKit Go.Lib
set_option maxHeartbeats 8000000
set_option maxRecDepth 100000
def AllV (r:List PV):Prop:=∀v∈r,kas v.l=true∧∀y∈v.l,plB y=true
theorem kem {l:List Pt}(h:kas l=true):1≤l.length∧l.length≤64:=by
 simp only[kas,qba,decide_eq_true_eq]at h
 omega
theorem eg_145:∀args w,(callFunc 145 args).run Tryz.prog w=.ok (.enter 145 args) w:=enters_of Tryz.func145 (by kernel_rfl) rfl
theorem invalid1_145 (v:PV)(w:World)(hS:Sl encP 2 w v.A v.l)(hp:∀y∈v.l,plB y=true):Calls Tryz.prog 145 #[.slice v.A v.l.length v.c] w fun e w'=>e=.returned (.bool (!kas v.l))∧Ext w w':=by
 have K:=Lib.hid (kba v.A v.c v.l w hS hp);clear hS hp;generalize kas v.l=q at K ⊢;generalize v.l.length=n at K ⊢;obtain⟨A,c,l⟩:=v
 simp only at K ⊢
 go_enter Tryz.func145,Tryz.ntmps145
 go_wp2_with (go_at_call 146;refine K.out.mono ?_;rintro e w1 ⟨rfl,hx1⟩)
 go_ret
 exact⟨rfl,hx1⟩
theorem invalid_70 (A:Option Addr)(c:Nat)(r:List PV)(w:World)(R:Rg w A r)(hr:r.length≤1000000)(hV:AllV r):Calls Tryz.prog 70 #[.slice A r.length c] w fun e w'=>e=.returned (.bool false)∧Ext w w':=by
 have K0:=klu 145 #[] eg_145 (fun v=>!kas v.l) A c r w hr R.sl (fun W x hx h=>by simpa using invalid1_145 x W ((R.each x hx).ext h) (hV x hx).2)
 have hF:(r.any fun v=>!kas v.l)=false:=by
  rw[List.any_eq_false];intro v hv
  simp[(hV v hv).1]
 rw[hF]at K0;have K:=Lib.hid K0;clear K0 hF R hV;generalize r.length=n at K hr ⊢
 go_enter Tryz.func70,Tryz.ntmps70
 go_wp2_with (go_at_call 144;refine K.out.mono ?_;rintro e w1 ⟨rfl,hx1⟩)
 go_ret
 exact⟨rfl,hx1⟩
theorem kdp (A:Option Addr)(c:Nat)(r:List PV)(w:World)(R:Rg w A r)(hr:r.length≤32)(hV:AllV r):Calls Tryz.prog 72 #[.slice A r.length c] w fun e w'=>e=.returned (.bool true)∧Ext w w':=by
 have K:=Lib.hid (invalid_70 A c r w R (by omega) hV)
 clear R hV;generalize r.length=n at K hr ⊢
 have hz:(n:Int)≤32:=by omega
 go_enter Tryz.func72,Tryz.ntmps72
 go_wp2_with (go_at_call 70;refine K.out.mono ?_;rintro e w1 ⟨rfl,hx1⟩)
 go_ret
 exact⟨retb (by simp[hr]),hx1⟩
theorem equal_329 (A A':Option Addr)(c c':Nat)(l m:List Pt)(w:World)(hl:l.length≤1000000)(hS:Sl encP 2 w A l)(hT:Sl encP 2 w A' m) :
  Calls Tryz.prog 329 #[.slice A l.length c,.slice A' m.length c'] w fun e w'=>e=.returned (.bool (decide (l=m)))∧Ext w w':=by
 by_cases hn:l.length=m.length
 rotate_left
 ·have hF:Hid (decide (l=m)=false):=decide_eq_false (by rintro rfl;exact hn rfl)
  have hz:¬ (l.length:Int)=(m.length:Int):=by omega
  have hb:((l.length:Int) == (m.length:Int))=false:=by simpa using hz
  go_enter Tryz.func329,Tryz.ntmps329
  go_wp2
  go_ret
  exact⟨retb hF.out.symm,Ext.refl _⟩
 rw[←hn];have HN:=Lib.hid hn;clear hn
 go_enter Tryz.func329,Tryz.ntmps329
 go_wp2
 go_loopg [5,13] l.length (fun gg _ s13 wr=>∃kk:Nat,kk≤l.length∧l.length-kk≤gg∧s13=.int .i64 kk∧Hid (Ext w wr)∧Hid (∀j:Nat,j<kk→l[j]?=m[j]?))
 case atStart=>exact⟨0,Nat.zero_le _,by omega,rfl,Ext.refl _,fun j hj=>absurd hj (Nat.not_lt_zero _)⟩
 case round=>
  obtain⟨kk,hkk,hg,rfl,hx,H⟩:=hrel
  by_cases hlt:kk<l.length
  rotate_left
  ·have hF:Hid (decide (l=m)=true):=decide_eq_true (by
    apply List.ext_getElem?
    intro i
    by_cases hi:i<kk
    ·exact H.out i hi
    ·have:=HN.out
     rw[List.getElem?_eq_none (by omega),List.getElem?_eq_none (by omega)])
   have hltz:¬ (kk:Int)<(l.length:Int):=by omega
   go_wp2
   go_ret
   exact⟨retb hF.out.symm,hx.out⟩
  obtain⟨b,off,rfl⟩:=hS.addr (by omega)
  obtain⟨b',off',rfl⟩:=hT.addr (by have:=HN.out;omega)
  obtain⟨⟨x1,x2⟩,hxx⟩:∃x,l[kk]?=some x:=⟨_,qgq hlt⟩
  obtain⟨⟨y1,y2⟩,hyy⟩:∃y,m[kk]?=some y:=⟨_,qgq (by have:=HN.out;omega)⟩
  have hltz:(kk:Int)<(l.length:Int):=by omega
  have hbw:b<wr.heap.size:=Nat.lt_of_lt_of_le (hS.blk (by omega)) hx.out.len
  have hbw':b'<wr.heap.size:=Nat.lt_of_lt_of_le (hT.blk (by have:=HN.out;omega)) hx.out.len
  have c0:wr.cell? ⟨b,off+kk*2,none⟩=some (.int .i64 x1):=by have:=(hS.ext hx.out).at_ hxx (i:=0) rfl;simpa using this
  have c1:wr.cell? ⟨b,off+kk*2+1,none⟩=some (.int .i64 x2):=by have:=(hS.ext hx.out).at_ hxx (i:=1) rfl;simpa using this
  have e0:wr.cell? ⟨b',off'+kk*2,none⟩=some (.int .i64 y1):=by have:=(hT.ext hx.out).at_ hyy (i:=0) rfl;simpa using this
  have e1:wr.cell? ⟨b',off'+kk*2+1,none⟩=some (.int .i64 y2):=by have:=(hT.ext hx.out).at_ hyy (i:=1) rfl;simpa using this
  have D:(x1=y1∧x2=y2)∨(x1=y1∧¬ x2=y2)∨(x2=y2∧¬ x1=y1)∨(¬ x2=y2∧¬ x1=y1):=by omega
  have FF:Hid (¬ (x1=y1∧x2=y2)→decide (l=m)=false):=fun h=>decide_eq_false (by
   rintro rfl;rw[hxx]at hyy;cases hyy
   exact h ⟨rfl,rfl⟩)
  have EQ:Hid (x1=y1∧x2=y2→l[kk]?=m[kk]?):=fun ⟨h1,h2⟩=>by rw[hxx,hyy,h1,h2]
  clear hxx hyy
  rcases D with ⟨rfl,rfl⟩|⟨rfl,h2⟩|⟨rfl,h1⟩|⟨h2,h1⟩
  ·go_wp2_with fail
   (refine kad (by kernel_rfl) (by kernel_rfl) ?_;(repeat (first|go_big_quiet_step (fail)|quiet_step (fail)));refine wpQuiet_nil ?_;rintro _ ⟨xq,rfl⟩;have hx2:=xq.ext;generalize xq.world=w2 at hx2 ⊢)
   go_wp2_with fail
   go_roundg (l.length-(kk+1))
   case measure=>omega
   case rel=>
    refine⟨kk+1,by omega,by omega,by go_num,hx.out.trans hx2,fun j hj=>?_⟩
    by_cases e:j=kk
    ·subst e;exact EQ.out (by simp)
    ·exact H.out j (by omega)
  ·have hF:=Lib.hid (FF.out (by omega))
   have hb:decide (x2=y2)=false:=decide_eq_false h2
   have hb2:(x2 == y2)=false:=by simpa using h2
   go_wp2_with fail
   (refine kad (by kernel_rfl) (by kernel_rfl) ?_;(repeat (first|go_big_quiet_step (fail)|quiet_step (fail)));refine wpQuiet_nil ?_;rintro _ ⟨xq,rfl⟩;have hx2:=xq.ext;generalize xq.world=w2 at hx2 ⊢)
   go_wp2_with fail
   go_ret
   exact⟨retb hF.out.symm,hx.out.trans hx2⟩
  ·have hF:=Lib.hid (FF.out (by omega))
   have hb:decide (x1=y1)=false:=decide_eq_false h1
   have hb2:(x1 == y1)=false:=by simpa using h1
   go_wp2_with fail
   (refine kad (by kernel_rfl) (by kernel_rfl) ?_;(repeat (first|go_big_quiet_step (fail)|quiet_step (fail)));refine wpQuiet_nil ?_;rintro _ ⟨xq,rfl⟩;have hx2:=xq.ext;generalize xq.world=w2 at hx2 ⊢)
   go_wp2_with fail
   go_ret
   exact⟨retb hF.out.symm,hx.out.trans hx2⟩
  ·have hF:=Lib.hid (FF.out (by omega))
   have hb:decide (x1=y1)=false:=decide_eq_false h1
   have hb2:(x1 == y1)=false:=by simpa using h1
   have hb3:decide (x2=y2)=false:=decide_eq_false h2
   have hb4:(x2 == y2)=false:=by simpa using h2
   go_wp2_with fail
   (refine kad (by kernel_rfl) (by kernel_rfl) ?_;(repeat (first|go_big_quiet_step (fail)|quiet_step (fail)));refine wpQuiet_nil ?_;rintro _ ⟨xq,rfl⟩;have hx2:=xq.ext;generalize xq.world=w2 at hx2 ⊢)
   go_wp2_with fail
   go_ret
   exact⟨retb hF.out.symm,hx.out.trans hx2⟩
def khe (ls:List (List Pt))(i k:Nat):Bool:=decide (k≠i)&&inL (ls[i]?.getD []) (ls[k]?.getD [])&&(decide (k<i)||!decide (ls[i]?.getD []=ls[k]?.getD []))
def kka (ls:List (List Pt))(i:Nat):Bool:=(List.range ls.length).any (khe ls i)
theorem map_at {r:List PV}{k:Nat}{v:PV}(h:r[k]?=some v):(r.map (·.l))[k]?.getD []=v.l:=by rw[List.getElem?_map,h];rfl
theorem covered_251 (T c i:Nat)(A:Option Addr)(r:List PV)(w:World)(R:Rg w A r)(hr:r.length≤1000000)(hV:AllV r)(hi:i<r.length)(hT:w.heap[T]?=some (.cells #[.slice A r.length c] 197)) :
  Calls Tryz.prog 251 #[.pointer (some ⟨T,0,none⟩),.int .i64 i] w fun e w'=>e=.returned (.bool (kka (r.map (·.l)) i))∧Ext w w':=by
 obtain⟨b,off,rfl⟩:=R.sl.addr (by omega)
 have hb:=R.sl.blk (by omega)
 obtain⟨vi,hvi⟩:∃x,r[i]?=some x:=⟨_,qgq hi⟩;have hli:=map_at hvi;have Vi:=hV vi (qmq hvi);have Li:=kem Vi.1
 have CT:=Lib.hid (fun W (hx:Ext w W)=>(show W.cell? ⟨T,0,none⟩=some (.slice (some ⟨b,off,none⟩) r.length c) by simp[World.cell?,kaf hx hT]))
 have CI:=Lib.hid (fun W (hx:Ext w W)=>(show W.cell? ⟨b,off+i,none⟩=some (.slice vi.A vi.l.length vi.c) by have:=(R.sl.ext hx).at_ hvi (i:=0) rfl;simpa using this))
 have CK:=Lib.hid (fun k v (hv:r[k]?=some v) W (hx:Ext w W)=>(show W.cell? ⟨b,off+k,none⟩=some (.slice v.A v.l.length v.c) by have:=(R.sl.ext hx).at_ hv (i:=0) rfl;simpa using this))
 have KW:=Lib.hid (fun k v (hv:r[k]?=some v) W (hx:Ext w W)=>within_328 vi.A v.A vi.c v.c vi.l v.l W ((R.each vi (qmq hvi)).ext hx) ((R.each v (qmq hv)).ext hx) (by omega) Vi.2 (hV v (qmq hv)).2 Vi.1 (hV v (qmq hv)).1)
 have KE:=Lib.hid (fun k v (hv:r[k]?=some v) W (hx:Ext w W)=>equal_329 vi.A v.A vi.c v.c vi.l v.l W (by omega) ((R.each vi (qmq hvi)).ext hx) ((R.each v (qmq hv)).ext hx))
 have HV:Hid (∀k v,r[k]?=some v→khe (r.map (·.l)) i k=(decide (k≠i)&&inL vi.l v.l&&(decide (k<i)||!decide (vi.l=v.l)))):=fun k v hv=>by
  unfold khe;rw[map_at hv,hli]
 have hTl:T<w.heap.size:=(qaz hT).1
 have LM:Hid ((r.map (·.l)).length=r.length):=List.length_map ..
 have HVI:=Lib.hid hvi;clear R hV hT hvi hli Vi;obtain⟨Ai,ci,li⟩:=vi
 simp only at *
 have q0:=CT.out w (Ext.refl _)
 have hiz:(i:Int)<(r.length:Int):=by omega
 go_enter Tryz.func251,Tryz.ntmps251
 go_wp2_with fail
 clear q0
 go_loopg [5,6,7,8,15] r.length (fun gg _ _ _ _ s15 wr=>∃kk:Nat,kk≤r.length∧r.length-kk≤gg∧s15=.int .i64 kk∧Hid (Ext w wr)∧Hid (∀j:Nat,j<kk→khe (r.map (·.l)) i j=false))
 case atStart=>exact⟨0,Nat.zero_le _,by omega,rfl,Ext.refl _,fun j hj=>absurd hj (Nat.not_lt_zero _)⟩
 case round=>
  obtain⟨kk,hkk,hg,rfl,hx,H⟩:=hrel
  by_cases hlt:kk<r.length
  rotate_left
  ·have hF:Hid (kka (r.map (·.l)) i=false):=by
    show _=_
    unfold kka;rw[LM.out,List.any_eq_false];intro j hj
    rw[H.out j (by have:=List.mem_range.1 hj;omega)];simp
   have hltz:¬ (kk:Int)<(r.length:Int):=by omega
   go_wp2
   go_ret
   exact⟨retb hF.out.symm,hx.out⟩
  by_cases hki:kk=i
  ·subst hki
   have q0:=CT.out wr hx.out;have q1:=CI.out wr hx.out;have K1:=Lib.hid (KW.out kk _ HVI.out)
   have z1:T<wr.heap.size:=Nat.lt_of_lt_of_le hTl hx.out.len
   have z2:b<wr.heap.size:=Nat.lt_of_lt_of_le hb hx.out.len
   have hF:Hid (∀j:Nat,j<kk+1→khe (r.map (·.l)) kk j=false):=fun j hj=>by
    by_cases e:j=kk
    ·subst e
     rw[HV.out _ _ HVI.out]
     simp
    ·exact H.out j (by omega)
   simp only at K1
   generalize inL li li=qi at K1;generalize li.length=ni at *;cases qi
   all_goals
    go_wp2_with (go_at_call 328;refine(K1.out _ hx.out).mono ?_;rintro e w1 ⟨rfl,hx1⟩)
    go_roundg (r.length-(kk+1))
    case measure=>omega
    case rel=>exact⟨kk+1,by omega,by omega,by go_num,hx.out.trans hx1,hF.out⟩
  obtain⟨v,hv⟩:∃x,r[kk]?=some x:=⟨_,qgq hlt⟩
  have hltz:(kk:Int)<(r.length:Int):=by omega
  have q0:=CT.out wr hx.out;have q1:=CI.out wr hx.out;have q2:=CK.out kk v hv wr hx.out;have K1:=Lib.hid (KW.out kk v hv);have K2:=Lib.hid (KE.out kk v hv);have HC:=Lib.hid (HV.out kk v hv)
  have z1:T<wr.heap.size:=Nat.lt_of_lt_of_le hTl hx.out.len
  have z2:b<wr.heap.size:=Nat.lt_of_lt_of_le hb hx.out.len
  have FT:Hid (khe (r.map (·.l)) i kk=true→kka (r.map (·.l)) i=true):=fun h=>by
   unfold kka;rw[List.any_eq_true]
   exact⟨kk,List.mem_range.2 (by rw[LM.out];exact hlt),h⟩
  have FN:Hid (khe (r.map (·.l)) i kk=false→∀j:Nat,j<kk+1→khe (r.map (·.l)) i j=false):=fun h j hj=>by
   by_cases e:j=kk
   ·subst e;exact h
   ·exact H.out j (by omega)
  clear hv;obtain⟨vA,vc,vl⟩:=v
  simp only at *
  generalize inL li vl=qi at K1 HC;generalize decide (li=vl)=qe at K2 HC;generalize vl.length=nv at *;generalize li.length=ni at *
  have D:(kk<i∧(kk:Int)<(i:Int))∨(i<kk∧¬ (kk:Int)<(i:Int)):=by omega
  have hcc:∀W,Ext wr W→W.cell? ⟨T,0,none⟩=some (.slice (some ⟨b,off,none⟩) r.length c)∧W.cell? ⟨b,off+i,none⟩=some (.slice Ai ni ci):=fun W h=>⟨CT.out W (hx.out.trans h),CI.out W (hx.out.trans h)⟩
  have HCC:=Lib.hid hcc;clear hcc
  rcases D with ⟨d1,d2⟩|⟨d1,d2⟩
  ·have n1:decide ((kk:Int)=(i:Int))=false:=decide_eq_false (by omega)
   have n2:((kk:Int) != (i:Int))=true:=by simp;omega
   have n3:((kk:Int) == (i:Int))=false:=by simp;omega
   cases qi with
   | false=>
    have hF:=Lib.hid (FN.out (by rw[HC.out];simp))
    go_wp2_with (go_at_call 328;refine(K1.out _ hx.out).mono ?_;rintro e w1 ⟨rfl,hx1⟩)
    go_roundg (r.length-(kk+1))
    case measure=>omega
    case rel=>exact⟨kk+1,by omega,by omega,by go_num,hx.out.trans hx1,hF.out⟩
   | true=>
    have hF:=Lib.hid (FT.out (by rw[HC.out];simp;omega))
    go_wp2_with (go_at_call 328;refine(K1.out _ hx.out).mono ?_;rintro e w1 ⟨rfl,hx1⟩)
    go_ret
    exact⟨retb hF.out.symm,hx.out.trans hx1⟩
  ·have n1:decide ((kk:Int)=(i:Int))=false:=decide_eq_false (by omega)
   have n2:((kk:Int) != (i:Int))=true:=by simp;omega
   have n3:((kk:Int) == (i:Int))=false:=by simp;omega
   have n4:decide ((kk:Int)<(i:Int))=false:=decide_eq_false (by omega)
   cases qi with
   | false=>
    have hF:=Lib.hid (FN.out (by rw[HC.out];simp))
    go_wp2_with (go_at_call 328;refine(K1.out _ hx.out).mono ?_;rintro e w1 ⟨rfl,hx1⟩)
    go_roundg (r.length-(kk+1))
    case measure=>omega
    case rel=>exact⟨kk+1,by omega,by omega,by go_num,hx.out.trans hx1,hF.out⟩
   | true=>
    cases qe with
    | false=>
     have hF:=Lib.hid (FT.out (by rw[HC.out];simp;omega))
     go_wp2_with (first
      | (go_at_call 328;refine(K1.out _ hx.out).mono ?_;rintro e w1 ⟨rfl,hx1⟩;obtain⟨c8,c9⟩:=HCC.out w1 hx1;have z3:=hx1.len;(have z4:T<w1.heap.size:=by omega);(have z5:b<w1.heap.size:=by omega))
      | (go_at_call 329;refine(K2.out _ (hx.out.trans hx1)).mono ?_;rintro e w2 ⟨rfl,hx2⟩))
     go_ret
     exact⟨retb hF.out.symm,hx.out.trans (hx1.trans hx2)⟩
    | true=>
     have hF:=Lib.hid (FN.out (by rw[HC.out];simp;omega))
     go_wp2_with (first
      | (go_at_call 328;refine(K1.out _ hx.out).mono ?_;rintro e w1 ⟨rfl,hx1⟩;obtain⟨c8,c9⟩:=HCC.out w1 hx1;have z3:=hx1.len;(have z4:T<w1.heap.size:=by omega);(have z5:b<w1.heap.size:=by omega))
      | (go_at_call 329;refine(K2.out _ (hx.out.trans hx1)).mono ?_;rintro e w2 ⟨rfl,hx2⟩))
     go_roundg (r.length-(kk+1))
     case measure=>omega
     case rel=>exact⟨kk+1,by omega,by omega,by go_num,hx.out.trans (hx1.trans hx2),hF.out⟩
set_option maxHeartbeats 4000000
def kdz (a b:Pt)(s t:Int):List Pt:=[((kdm a.1 b.1 s t).1,(kdm a.2 b.2 s t).1),((kdm a.1 b.1 s t).1,(kdm a.2 b.2 s t).2),((kdm a.1 b.1 s t).2,(kdm a.2 b.2 s t).1),((kdm a.1 b.1 s t).2,(kdm a.2 b.2 s t).2)]
theorem four_boxes (w:World)(o0 o1 o2 o3:Obj):((((w.alloc o0).alloc o1).alloc o2).alloc o3).heap[w.heap.size]?=some o0∧((((w.alloc o0).alloc o1).alloc o2).alloc o3).heap[w.heap.size+1]?=some o1 ∧
  ((((w.alloc o0).alloc o1).alloc o2).alloc o3).heap[w.heap.size+1+1]?=some o2∧((((w.alloc o0).alloc o1).alloc o2).alloc o3).heap[w.heap.size+1+1+1]?=some o3:=by
 refine⟨?_,?_,?_,?_⟩
 ·rw[Below.heap_alloc _ _ _ (by simp only[qsa];omega),Below.heap_alloc _ _ _ (by simp only[qsa];omega),Below.heap_alloc _ _ _ (by simp only[qsa];omega)];exact qan w _
 ·rw[Below.heap_alloc _ _ _ (by simp only[qsa];omega),Below.heap_alloc _ _ _ (by simp only[qsa];omega)];have:=qan (w.alloc o0) o1;simpa only[qsa]using this
 ·rw[Below.heap_alloc _ _ _ (by simp only[qsa];omega)];have:=qan ((w.alloc o0).alloc o1) o2;simpa only[qsa]using this
 ·have:=qan (((w.alloc o0).alloc o1).alloc o2) o3;simpa only[qsa]using this
theorem index115 (x y:Int):(∀W,(Instr.index 115 (.agg #[.int .i64 x,.int .i64 y]) (.int .i64 0)).run Tryz.prog W=.ok (.int .i64 x) W)∧∀W,(Instr.index 115 (.agg #[.int .i64 x,.int .i64 y]) (.int .i64 1)).run Tryz.prog W=.ok (.int .i64 y) W:=
 ⟨fun _=>by kernel_rfl,fun _=>by kernel_rfl⟩
theorem frame_358 (a b:Pt)(s t:Int)(w:World)(ha:plB a=true)(hb:plB b=true)(hs:-2000000000000≤s∧s≤2000000000000)(ht:-2000000000000≤t∧t≤2000000000000)(hst:s-t≠0) :
  Calls Tryz.prog 358 #[.agg #[.int .i64 a.1,.int .i64 a.2],.agg #[.int .i64 b.1,.int .i64 b.2],.int .i64 s,.int .i64 t] w fun e w'=>∃v,e=.returned v∧LV w.heap.size w' v (kdz a b s t)∧Ext w w':=by
 obtain⟨i0,hi,hz0,hz1,hz2⟩:=info_parts kha;obtain⟨a1,a2⟩:=a;obtain⟨b1,b2⟩:=b;simp only[plB,inB,qba,decide_eq_true_eq]at ha hb;obtain⟨W0,hW0⟩:∃W0,(((w.alloc (.cells #[.int .i64 a1,.int .i64 a2] 43)).alloc (.cells #[.int .i64 b1,.int .i64 b2] 43)).alloc (.cells #[.int .i64 s] 3)).alloc (.cells #[.int .i64 t] 3)=W0:=⟨_,rfl⟩
 have hE0:Hid (Ext w W0):=by show Ext _ _;rw[←hW0];exact((((Ext.refl w).alloc _).alloc _).alloc _).alloc _
 have hz0':W0.heap.size=w.heap.size+4:=by rw[←hW0];simp
 have g4:=four_boxes w (.cells #[.int .i64 a1,.int .i64 a2] 43) (.cells #[.int .i64 b1,.int .i64 b2] 43) (.cells #[.int .i64 s] 3) (.cells #[.int .i64 t] 3);rw[hW0]at g4;obtain⟨o0,o1,o2,o3⟩:=g4;have j0:=(kae o0).1;have j1:=(kae o0).2.1;have j2:=(kae o1).1;have j3:=(kae o1).2.1
 have j4:=Boxed.cell (show Boxed W0 (w.heap.size+1+1) 3 (.int .i64 s) from o2)
 have j5:=Boxed.cell (show Boxed W0 (w.heap.size+1+1+1) 3 (.int .i64 t) from o3)
 clear o0 o1 o2 o3;have k0:=Lib.hid (And.intro j0 (And.intro j1 (And.intro j2 (And.intro j3 (And.intro j4 j5)))));clear j0 j1 j2 j3 j4 j5
 have K1:Hid (∀x y,-500000≤x∧x≤500000→-500000≤y∧y≤500000→∀W,Ext W0 W→Calls Tryz.prog 397 #[.int .i64 x,.int .i64 y,.pointer (some ⟨w.heap.size+1+1,0,none⟩),.pointer (some ⟨w.heap.size+1+1+1,0,none⟩)] W fun e w'=>e=.returned (.agg #[.int .i64 (kdm x y s t).1,.int .i64 (kdm x y s t).2])∧Ext W w'):=fun x y hx hy W h=>by
  obtain⟨hc,_,hz⟩:=h.rules
  exact frame1_397 _ _ x y s t W hx hy hs ht hst (by omega) (by omega) ((hc _ _ (by omega)).trans k0.out.2.2.2.2.1) ((hc _ _ (by omega)).trans k0.out.2.2.2.2.2)
 have KX:=Lib.hid (K1.out a1 b1 ha.1 hb.1);have KY:=Lib.hid (K1.out a2 b2 ha.2 hb.2);have HW:=Lib.hid hW0;unfold kdz
 simp only
 generalize kdm a1 b1 s t=ex at KX ⊢;generalize kdm a2 b2 s t=ey at KY ⊢;obtain⟨x1,x2⟩:=ex;obtain⟨y1,y2⟩:=ey;clear K1 hW0 ha hb hs ht hst
 have HL:Hid (([(x1,y1),(x1,y2),(x2,y1),(x2,y2)]:List Pt)=[x1,x2].flatMap fun x=>[(x,y1),(x,y2)]):=rfl
 obtain⟨ix0,ix1⟩:=index115 x1 x2;obtain⟨iy0,iy1⟩:=index115 y1 y2
 go_enter Tryz.func358,Tryz.ntmps358
 go_wp2_with fail
 rw[HW.out]
 refine(KX.out W0 (Ext.refl _)).mono ?_
 rintro e w1 ⟨rfl,hx1⟩
 have q1:Hid (w1.cell? ⟨w.heap.size,1,none⟩=some (.int .i64 a2)∧w1.cell? ⟨w.heap.size+1,1,none⟩=some (.int .i64 b2)):=⟨(hx1.rules.1 _ _ (by omega)).trans k0.out.2.1,(hx1.rules.1 _ _ (by omega)).trans k0.out.2.2.2.1⟩
 have hX1:=Lib.hid hx1
 have hE1:Hid (Ext w w1):=hE0.out.trans hx1
 have hz1':w.heap.size+4≤w1.heap.size:=by have:=hx1.len;omega
 clear hx1 k0 HW KX
 go_wp2_with fail
 go_loopg [10,12,14,22] 2 (fun gg s10 _ _ s22 wr=>∃kk:Nat,kk≤2∧2-kk≤gg∧s22=.int .i64 kk∧Hid (LV w1.heap.size wr s10 (([x1,x2].take kk).flatMap fun x=>[(x,y1),(x,y2)])∧Ext w1 wr))
 case atStart=>exact⟨0,by omega,by omega,rfl,LV.nil _ _,Ext.refl _⟩
 case round=>
  obtain⟨kk,hkk,hg,rfl,hx⟩:=hrel;have hzx:=hx.out.2.len
  have hkz:(kk:Int)≤2:=by omega
  by_cases hlt:kk<2
  rotate_left
  ·obtain rfl:kk=2:=by omega
   go_wp2_with fail
   go_ret
   exact⟨_,rfl,by have:=hx.out.1.base (B':=w.heap.size) (by omega);simpa using this,hE1.out.trans hx.out.2⟩
  have c0:wr.cell? ⟨w.heap.size,1,none⟩=some (.int .i64 a2):=(hx.out.2.rules.1 _ _ (by omega)).trans q1.out.1
  have c1:wr.cell? ⟨w.heap.size+1,1,none⟩=some (.int .i64 b2):=(hx.out.2.rules.1 _ _ (by omega)).trans q1.out.2
  have KY2:=KY.out wr (hX1.out.trans hx.out.2)
  have HP:Hid (∀x,[x1,x2][kk]?=some x→([x1,x2].take (kk+1)).flatMap (fun x=>[(x,y1),(x,y2)])=([x1,x2].take kk).flatMap (fun x=>[(x,y1),(x,y2)])++[(x,y1),(x,y2)]):=fun x hx'=>by
   rw[List.take_add_one,hx',List.flatMap_append];simp
  have HN:Hid ((([x1,x2].take kk).flatMap (fun x=>[(x,y1),(x,y2)])).length≤4):=by show _≤_;have D:kk=0∨kk=1:=(by omega);rcases D with rfl|rfl<;>simp
  obtain⟨x,hxk⟩:∃x,[x1,x2][kk]?=some x:=⟨_,qgq (by simpa using hlt)⟩
  have HP2:=Lib.hid (HP.out x hxk)
  generalize hr:([x1,x2].take kk).flatMap (fun x=>[(x,y1),(x,y2)])=rows at hx HP2 HN
  have hD:(kk=0∧x=x1)∨(kk=1∧x=x2):=by
   have D:kk=0∨kk=1:=by omega
   rcases D with rfl|rfl
   ·left;simp at hxk;exact⟨rfl,hxk.symm⟩
   ·right;simp at hxk;exact⟨rfl,hxk.symm⟩
  clear hr hxk HP;have K2:=Lib.hid KY2;clear KY2
  rcases hD with ⟨rfl,rfl⟩|⟨rfl,rfl⟩
  all_goals
   go_wp2_with fail
   refine K2.out.mono ?_
   rintro e w2 ⟨rfl,hx2⟩
   go_wp2_with fail
   go_loopg [10,14,31] 2 (fun gg s10 _ s31 wq=>∃j:Nat,j≤2∧2-j≤gg∧s31=.int .i64 j∧Hid (LV w1.heap.size wq s10 (rows++[(x,y1),(x,y2)].take j)∧Ext w1 wq))
   case atStart=>exact⟨0,by omega,by omega,rfl,by simpa using hx.out.1.ext hx2,hx.out.2.trans hx2⟩
   case round=>
    obtain⟨j,hj,hgj,rfl,hy⟩:=hrel;have hzy:=hy.out.2.len;have HY:=Lib.hid hy.out;clear hx hx2
    have hjz:(j:Int)≤2:=by omega
    by_cases hjl:j<2
    rotate_left
    ·obtain rfl:j=2:=by omega
     go_wp2_with fail
     first
      | (go_roundg 1;case measure=>omega
         case rel=>exact⟨1,by omega,by omega,rfl,by rw[HP2.out];exact HY.out.1,HY.out.2⟩)
      | (go_roundg 0;case measure=>omega
         case rel=>exact⟨2,by omega,by omega,rfl,by rw[HP2.out];exact HY.out.1,HY.out.2⟩)
    have DJ:j=0∨j=1:=by omega
    rcases DJ with rfl|rfl
    ·go_wp2_with (at_builtin;refine kck Tryz.underlying76 hi hz0 hz1 hz2 rfl rfl _ _ rfl w1.heap.size _ (rows++[(x,y1),(x,y2)].take 0) rfl (HY.out.1.ext ((Ext.refl _).alloc _)) ?qB ⟨wr.heap.size,0,none⟩ 1 1 [(x,y1)] rfl rfl ?qr ?qb ?_)
     case qB=>simp only[qsa];omega
     case qr=>simpa using tmpPt wr (x,y1)
     case qb=>have:=HN.out;simp;omega
     intro v' w3 hv3 hb3 _
     go_wp2_with fail
     go_roundg 1
     case measure=>omega
     case rel=>exact⟨1,by omega,by omega,rfl,by simpa using hv3,Below.trans HY.out.2 (Below.trans (Below.mono ((Ext.refl _).alloc _) HY.out.2.size) hb3)⟩
    ·go_wp2_with (at_builtin;refine kck Tryz.underlying76 hi hz0 hz1 hz2 rfl rfl _ _ rfl w1.heap.size _ (rows++[(x,y1),(x,y2)].take 1) rfl (HY.out.1.ext ((Ext.refl _).alloc _)) ?qB ⟨wr.heap.size,0,none⟩ 1 1 [(x,y2)] rfl rfl ?qr ?qb ?_)
     case qB=>simp only[qsa];omega
     case qr=>simpa using tmpPt wr (x,y2)
     case qb=>have:=HN.out;simp;omega
     intro v' w3 hv3 hb3 _
     go_wp2_with fail
     go_roundg 0
     case measure=>omega
     case rel=>exact⟨2,by omega,by omega,rfl,by simpa using hv3,Below.trans HY.out.2 (Below.trans (Below.mono ((Ext.refl _).alloc _) HY.out.2.size) hb3)⟩
set_option maxHeartbeats 8000000
attribute [local go_sem] Oper.semAt_some
def crossG (s r:Pt × Pt):List Pt:=if kea (kcf s.1 s.2 r.1) (kcf s.1 s.2 r.2)&&kea (kcf r.1 r.2 s.1) (kcf r.1 r.2 s.2) then kdz r.1 r.2 (kcf s.1 s.2 r.1) (kcf s.1 s.2 r.2) else []
def kob (q:List Pt)(s:Pt × Pt):List Pt:=(upto (kbr q) q.length).flatMap (crossG s)
def kcl (p q:List Pt):List Pt:=(upto (kbr p) p.length).flatMap (kob q)
def BoxL (B c:Nat)(W:World)(l:List Pt):Prop:=∃v,Boxed W c 76 v∧LV B W v l∧(v=.slice none 0 0∨2≤l.length)
theorem lv_kept {B:Nat}{X Y:World}{v:Value}{l:List Pt}{row:Option Nat}(h:LV B X v l)(hg:X.grownBy Y row)(hr:∀k,row=some k→∃o:Obj,X.heap[k]?=some o∧o.isCells=false):LV B Y v l:=by
 refine⟨h.1,?_⟩
 rcases h.2 with h2|⟨g,cap,cur,h1,h2,h3,h4⟩
 ·exact .inl h2
 ·exact .inr ⟨g,cap,cur,h1,h2,(hg.block g (qaz h3).1 (fun e=>by obtain⟨o,ho,hc⟩:=hr g e.symm;rw[h3]at ho;cases ho;cases hc)).trans h3,h4⟩
theorem boxL_own {β : Type}(n₀ B c:Nat)(f:β→List Pt):OwnFrom n₀ (fun s W=>BoxL B c W (f s)):=fun s X Y row h hg hr=>by
 obtain⟨v,hb,hv,hn⟩:=h
 refine⟨v,hb.kept hg (fun e=>?_),lv_kept hv hg (fun k e=>?_),hn⟩
 ·obtain⟨_,o,ho,hc⟩:=hr c e.symm
  rw[show X.heap[c]?=_ from hb]at ho;cases ho;cases hc
 ·obtain⟨_,o,ho,hc⟩:=hr k e
  exact⟨o,ho,hc⟩
theorem BoxL.ext {B c:Nat}{W W':World}{l:List Pt}(h:BoxL B c W l)(hx:Ext W W'):BoxL B c W' l:=by
 obtain⟨v,h1,h2,hn⟩:=h
 exact⟨v,Boxed.ext h1 hx,h2.ext hx,hn⟩
theorem lv_apart {B b:Nat}{W:World}{v:Value}{l:List Pt}(h:LV B W v l)(hn:v=.slice none 0 0∨2≤l.length){xs:Array Value}{t:TypeId}(hb:W.heap[b]?=some (.cells xs t))(ht:t≠43∨xs.size=2):b≠v.ownBlock.getD (W.heap.size+1)∧some b≠v.ownBlock:=by
 have hlb:=(qaz hb).1
 rcases h.2 with ⟨rfl,_⟩|⟨g,cap,cur,rfl,h2,h3,h4,h5,h6,h7⟩
 ·simp[Value.ownBlock];omega
 ·have hne:b≠g:=fun e=>by
   subst e;rw[hb]at h3;simp only[Option.some.injEq,Obj.cells.injEq]at h3;obtain⟨rfl,rfl,_⟩:=h3
   rcases ht with ht|ht
   ·exact ht rfl
   ·rcases hn with hn|hn
    ·cases hn
    ·rw[ht]at h6;omega
  simp[Value.ownBlock]
  exact hne
theorem LV.row {B:Nat}{W:World}{v:Value}{l:List Pt}(h:LV B W v l)(hl:0<l.length):∃g cap,v=.slice (some ⟨g,0,none⟩) l.length cap∧Pr B W g cap l:=by
 rcases h.2 with ⟨_,h2⟩|⟨g,cap,cur,rfl,h2,h3,h4,h5,h6,h7⟩
 ·omega
 ·exact⟨g,cap,rfl,h⟩
theorem kq_own {β : Type}{B n₀ Bs:Nat}{W0:World}(hB:n₀≤B)(h0:n₀≤W0.heap.size):OwnFrom B (fun (_:β) W=>Kq n₀ Bs W0 W):=fun s X Y row h hg hr=>
 ⟨ownFrom_below (β:=β) h0 hB s X Y row h.1 hg hr,fun o ho hc=>by
  have h1:=h.2 o ho hc
  refine(hg.block Bs (qaz h1).1 (fun e=>?_)).trans h1
  obtain⟨_,o',ho',hc'⟩:=hr Bs e.symm
  rw[h1]at ho';cases ho';rw[hc]at hc';cases hc'⟩
theorem kdl {α β : Type}{f:α→List β}{m:Nat}(h:∀x,(f x).length≤m):∀l:List α,(l.flatMap f).length≤l.length*m
 | []=>by simp
 | x::l=>by
  rw[List.flatMap_cons,List.length_append,List.length_cons,Nat.succ_mul]
  have:=h x
  have:=kdl h l
  omega
theorem kkt (s r:Pt × Pt):(crossG s r).length≤4:=by unfold crossG;split<;>simp[kdz]
theorem wpListIn_app {F:Fence}{n0:Nat}{P:Program}(hu:P.underlying 76=some (.slice 43)){i:TypeInfo}{z:Value}(hi:P.info? 43=some i)(hz:i.zero=some z)(hz1:i.size=2)(hz2:i.bytes=16)(hz3:z.cells.size=2)
  {w:World} {ops:Array Oper} {rest:List Oper} {o:Oper} {a:Act} {Q:Exit→Act→World→Prop} (hgd:o.guard=none) (s x:Operand)
  (ho:o.op=.call { callee:=.builtin .append,args:=#[s,x],argTypes:=#[76,76] }) (B:Nat) (v:Value) (l:List Pt) (hs:a.eval s=v) (hv:LV B w v l) (hB:B≤w.heap.size)
  (ad:Addr) (m c:Nat) (ys:List Pt) (hx:a.eval x=.slice (some ad) m c) (hm:ys.length=m) (hr:∀j u,(ys.flatMap encP)[j]?=some u→w.cell? (ad.add j)=some u) (hbig:l.length+m≤4000000)
  (h:∀v' w',LV B w' v' (l++ys)→Below B w w'→w.grownBy w' v.ownBlock→wpListIn F n0 P ops Q rest (a.put o.dst v') w'):wpListIn F n0 P ops Q (o::rest) a w:=by
 refine wpListIn_append_own w hgd s x 76 ho B 43 i z 2 16 hu hi hz hz1 hz2 hz3 (by omega) v l.length (l.flatMap encP) hs hv ad m c (ys.flatMap encP) hx (by rw[kby,hm]) hr ints_one (by simp only[maxLen];omega) (by omega) hB ?_
 intro v' w' h1 h2 _
 refine h v' w' ?_ ((Below.refl B w).grown h2 hB (fun k e=>hv.own k e)) h2
 unfold LV;rw[List.flatMap_append,List.length_append,hm]
 exact h1
theorem turn_bd {a b c:Pt}(ha:plB a=true)(hb:plB b=true)(hc:plB c=true):-2000000000000≤kcf a b c∧kcf a b c≤2000000000000:=by
 simp only[plB,inB,qba,decide_eq_true_eq]at ha hb hc
 have h1:=kdg (x:=b.1-a.1) (y:=c.2-a.2) (m:=1000000) (n:=1000000) (by omega) (by omega) (by omega) (by omega)
 have h2:=kdg (x:=b.2-a.2) (y:=c.1-a.1) (m:=1000000) (n:=1000000) (by omega) (by omega) (by omega) (by omega)
 simp only[Int.reduceMul,Int.reduceNeg]at h1 h2;unfold kcf
 omega
theorem cross_ne {s t:Int}(h:kea s t=true):s-t≠0:=by
 simp only[kea,Bool.or_eq_true,qba,decide_eq_true_eq]at h
 omega
theorem eg_358:∀args w,(callFunc 358 args).run Tryz.prog w=.ok (.enter 358 args) w:=enters_of Tryz.func358 (by kernel_rfl) rfl
theorem crossings_376 (A A':Option Addr)(c c':Nat)(p q:List Pt)(w:World)(hS:Sl encP 2 w A p)(hT:Sl encP 2 w A' q)(hp:∀y∈p,plB y=true)(hq:∀y∈q,plB y=true)(p0:0<p.length)(q0:0<q.length)(hp64:p.length≤64)(hq64:q.length≤64) :
  Calls Tryz.prog 376 #[.slice A p.length c,.slice A' q.length c'] w fun e w'=>∃v,e=.returned v∧LV w.heap.size w' v (kcl p q)∧Ext w w':=by
 obtain⟨i0,hi,hz0,hz1,hz2⟩:=info_parts kha;obtain⟨b,off,rfl⟩:=hS.addr p0;obtain⟨b',off',rfl⟩:=hT.addr q0;have hb:=hS.blk p0;have hb':=hT.blk q0;have HS:=Lib.hid hS;have HT:=Lib.hid hT;clear hS hT
 refine(callsIn_wide (n:=9)).1 ?_
 refine callsIn_of_wp_marks Tryz.func376 rfl trivial ?_ rfl
 refine wpIn_wide.2 ?_
 simp only[Tryz.ntmps376,List.size_toArray,List.length_cons,List.length_nil,Nat.reduceAdd,Nat.reduceSub,Array.replicate_succ,Array.replicate_zero,List.push_toArray,List.append_toArray,List.nil_append,List.cons_append]
 go_wp2_with (go_at_call 359;refine(klj _ _ _ _).mono ?_;rintro e w3 ⟨rfl,rfl⟩)
 obtain⟨W0,hW0⟩:∃W0,((w.alloc (.cells #[.slice (some ⟨b',off',none⟩) q.length c'] 76)).alloc (.cells #[.slice none 0 0] 76)).alloc (.cells #[.slice (some ⟨b,off,none⟩) p.length c] 76)=W0:=⟨_,rfl⟩
 have hz0':W0.heap.size=w.heap.size+3:=by rw[←hW0];simp
 have hE0:Ext w W0:=by rw[←hW0];exact(((Ext.refl w).alloc _).alloc _).alloc _
 have bQ0:W0.heap[w.heap.size]?=some (.cells #[.slice (some ⟨b',off',none⟩) q.length c'] 76):=by
  rw[←hW0,Below.heap_alloc _ _ _ (by simp only[qsa];omega),Below.heap_alloc _ _ _ (by simp only[qsa];omega)];exact qan w _
 have bO0:Boxed W0 (w.heap.size+1) 76 (.slice none 0 0):=by
  show W0.heap[w.heap.size+1]?=_
  rw[←hW0,Below.heap_alloc _ _ _ (by simp only[qsa];omega)]
  have:=qan (w.alloc (.cells #[.slice (some ⟨b',off',none⟩) q.length c'] 76)) (.cells #[.slice none 0 0] 76)
  simpa only[qsa]using this
 have bS0:W0.heap[w.heap.size+1+1]?=some (.cells #[.slice (some ⟨b,off,none⟩) p.length c] 76):=by
  rw[←hW0]
  have:=qan ((w.alloc (.cells #[.slice (some ⟨b',off',none⟩) q.length c'] 76)).alloc (.cells #[.slice none 0 0] 76)) (.cells #[.slice (some ⟨b,off,none⟩) p.length c] 76)
  simpa only[qsa]using this
 have hst:=khd (9-1) (w.heap.size+1+1) w.heap.size b off c p hp (by omega) (by omega) W0 (by omega) hb bS0 (HS.out.ext hE0)
 have HQQ:Hid (∀W,Ext w W→∀Bs,W.heap[Bs]?=some (.cells #[.slice (some ⟨b',off',none⟩) q.length c'] 76)→SeqStopsK Fence.wide (9-1-1-1) Tryz.prog 399 #[.pointer (some ⟨Bs,0,none⟩)] (fun s:SegT=>kmt s.1) (Kq w.heap.size Bs) (fun ys=>ys.map (·.1)=upto (kbr q) q.length) (fun pre=>∃k,k≤q.length∧pre.map (·.1)=upto (kbr q) k) q.length W):=fun W h Bs hBs=>
  khd (9-1-1-1) Bs w.heap.size b' off' c' q hq (by omega) (by omega) W h.len hb' hBs (HT.out.ext h)
 have bP0:=bS0;rw[hW0];clear hW0 bS0
 refine(wpIn_wide (n:=9)).1 ?_
 refine wpIn_rangeFunc_ownH rfl (by omega) (gf:=399) (lb:=#[.pointer (some ⟨w.heap.size+1+1,0,none⟩)]) rfl trivial (enters_of Tryz.func399 (by kernel_rfl) rfl)
  hst Kq.t (Kq.b (by omega)) (Below.refl _ _) (fun _=>rfl)
  (fun pre W=>(BoxL (w.heap.size+3) (w.heap.size+1) W ((pre.map (·.1)).flatMap (kob q))∧W.heap[w.heap.size]?=some (.cells #[.slice (some ⟨b',off',none⟩) q.length c'] 76)∧W.heap[w.heap.size+1+1]?=some (.cells #[.slice (some ⟨b,off,none⟩) p.length c] 76))∧Below w.heap.size w W)
  (fun _ _ _=>False)
  (OwnFrom.and (OwnFrom.and (boxL_own _ _ _ _) (OwnFrom.and (Own.from (kdq _ _ _) _) (Own.from (kdq _ _ _) _))) (ownFrom_below (Nat.le_refl _) (by omega)))
  (fun _ _ _ _ _ h _ _=>h.elim)
  ⟨⟨⟨_,bO0,LV.nil _ _,.inl rfl⟩,bQ0,bP0⟩,hE0⟩
  (fun s a' W=>∃B1 B2,(W.heap[B1]?=some (.cells #[.int .i64 s.1.1.1,.int .i64 s.1.1.2] 43)∧W.heap[B2]?=some (.cells #[.int .i64 s.1.2.1,.int .i64 s.1.2.2] 43))∧a'={ tmps:=#[.slice (some ⟨b,off,none⟩) p.length c,.slice (some ⟨b',off',none⟩) q.length c',undef,.pointer (some ⟨w.heap.size,0,none⟩),.slice none 0 0,.pointer (some ⟨w.heap.size+1,0,none⟩),.pointer (some ⟨B1,0,none⟩),.pointer (some ⟨B2,0,none⟩),undef,undef,undef,undef,.slice (some ⟨b,off,none⟩) p.length c,.func (.func 399) #[] #[.pointer (some ⟨w.heap.size+1+1,0,none⟩)],.agg #[.int .i64 s.1.1.1,.int .i64 s.1.1.2],.agg #[.int .i64 s.1.2.1,.int .i64 s.1.2.2],undef,undef,undef,undef,undef,undef,undef,undef,undef,undef,undef,undef,undef,undef,undef,undef,undef,undef,undef,undef,undef,undef,undef,undef,undef,undef,undef,undef,undef,undef,undef,undef,undef,undef],defers:=[] })
  (fun s a' _ X Y row hs hg hr=>by
   obtain⟨B1,B2,⟨h1,h1'⟩,h2⟩:=hs
   refine⟨B1,B2,⟨(hg.block B1 (qaz h1).1 (fun e=>?_)).trans h1,(hg.block B2 (qaz h1').1 (fun e=>?_)).trans h1'⟩,h2⟩
   ·obtain⟨_,o,ho,hoc⟩:=hr B1 e.symm
    rw[h1]at ho;cases ho;cases hoc
   ·obtain⟨_,o,ho,hoc⟩:=hr B2 e.symm
    rw[h1']at ho;cases ho;cases hoc)
  ?assign ?body ?done ?stop
 case assign=>
  rintro lw pre s W K ⟨⟨hBL,bQ,bP⟩,hB1⟩ hK;have hzz:=hB1.size;simp only[kmt]
  gi_wp2
  have hX:Ext W ((W.alloc (.cells #[.int .i64 s.1.1.1,.int .i64 s.1.1.2] 43)).alloc (.cells #[.int .i64 s.1.2.1,.int .i64 s.1.2.2] 43)):=((Ext.refl W).alloc _).alloc _
  refine hK _ _ (hX.ko.from _) (hX.kq hzz) ⟨⟨hBL.ext hX,(hX.block _ (qaz bQ).1).trans bQ,(hX.block _ (qaz bP).1).trans bP⟩,hB1.trans (Below.mono hX hzz)⟩ ⟨W.heap.size,W.heap.size+1,⟨?_,?_⟩,rfl⟩
  ·rw[Below.heap_alloc _ _ _ (by simp only[qsa];omega)];exact qan W _
  ·have:=qan (W.alloc (.cells #[.int .i64 s.1.1.1,.int .i64 s.1.1.2] 43)) (.cells #[.int .i64 s.1.2.1,.int .i64 s.1.2.2] 43)
   simpa using this
 case body=>
  rintro lw pre ⟨⟨⟨x1,x2⟩,⟨y1,y2⟩⟩,hxy⟩ a' W hl' ⟨r,hr⟩ ⟨⟨hBL,bQ,bP⟩,hB1⟩ ⟨B1,B2,⟨bA,bB⟩,rfl⟩ hlt
  have cQ:W.cell? ⟨w.heap.size,0,none⟩=some (.slice (some ⟨b',off',none⟩) q.length c'):=by simp[World.cell?,bQ]
  have hzW:=hB1.size
  gi_wp2_with (refine⟨trivial,?_⟩;gi_at_call 359;refine(CallsIn.inRound lw (callsIn_wide.2 (klj _ _ _ _))).mono ?_;rintro e w5 ⟨rfl,rfl⟩)
  have KEEP:=Lib.hid (And.intro hB1 (And.intro bQ hBL));obtain⟨V0,hV0⟩:∃V0,W.alloc (.cells #[.slice (some ⟨b',off',none⟩) q.length c'] 76)=V0:=⟨_,rfl⟩
  have hzV:V0.heap.size=W.heap.size+1:=by rw[←hV0];simp
  have hEV:Ext W V0:=by rw[←hV0];exact(Ext.refl W).alloc _
  have bN:V0.heap[W.heap.size]?=some (.cells #[.slice (some ⟨b',off',none⟩) q.length c'] 76):=by rw[←hV0];exact qan W _
  have hlr:=(qaz hr).1
  have hr2:V0.heap[lw]?=some (.loop r):=(hEV.block _ hlr).trans hr
  have hst2:=HQQ.out V0 (hB1.trans (Below.mono hEV hzW)) W.heap.size bN
  have vA:V0.heap[B1]?=some (.cells #[.int .i64 x1,.int .i64 x2] 43):=(hEV.block _ (qaz bA).1).trans bA
  have vB:V0.heap[B2]?=some (.cells #[.int .i64 y1,.int .i64 y2] 43):=(hEV.block _ (qaz bB).1).trans bB
  have vQ:V0.heap[w.heap.size]?=some (.cells #[.slice (some ⟨b',off',none⟩) q.length c'] 76):=(hEV.block _ (qaz bQ).1).trans bQ
  have vP:V0.heap[w.heap.size+1+1]?=some (.cells #[.slice (some ⟨b,off,none⟩) p.length c] 76):=(hEV.block _ (qaz bP).1).trans bP
  have vN:=bN;have vL:=hBL.ext hEV;have HEV:=Lib.hid hEV
  have HN0:Hid (((pre.map (·.1)).flatMap (kob q)).length≤16384):=by
   show _≤_
   have h1:=kdl (f:=kob q) (m:=256) (fun s=>by
    have h2:=kdl (f:=crossG s) (m:=4) (kkt s) (upto (kbr q) q.length);rw[kch]at h2
    exact Nat.le_trans h2 (by omega)) (pre.map (·.1))
   rw[List.length_map]at h1
   exact Nat.le_trans h1 (by omega)
  generalize hl0:(pre.map (·.1)).flatMap (kob q)=l0 at vL HN0;have HL0:=Lib.hid hl0;rw[hV0];clear hV0 hEV bN bA bB bQ bP hBL cQ hl0
  refine wpIn_rangeFunc_ownN (l₀:=lw) (r₀:=r) rfl hr2 (by omega) (gf:=399) (lb:=#[.pointer (some ⟨W.heap.size,0,none⟩)]) rfl trivial (enters_of Tryz.func399 (by kernel_rfl) rfl)
   (SeqStopsK.inRound lw hst2) Kq.t (Kq.b (by omega)) (Below.refl _ _) (fun _=>rfl)
   (fun pre2 U=>((((BoxL (w.heap.size+3) (w.heap.size+1) U (l0++(pre2.map (·.1)).flatMap (crossG ((x1,x2),(y1,y2))))∧U.heap[B1]?=some (.cells #[.int .i64 x1,.int .i64 x2] 43))∧U.heap[B2]?=some (.cells #[.int .i64 y1,.int .i64 y2] 43))∧(U.heap[w.heap.size]?=some (.cells #[.slice (some ⟨b',off',none⟩) q.length c'] 76)∧U.heap[w.heap.size+1+1]?=some (.cells #[.slice (some ⟨b,off,none⟩) p.length c] 76)∧U.heap[W.heap.size]?=some (.cells #[.slice (some ⟨b',off',none⟩) q.length c'] 76)))∧KeepsFrom (w.heap.size+3) V0 U)∧Kq w.heap.size (w.heap.size+1+1) V0 U)
   (fun _ _ _=>False)
   (OwnFrom.and (OwnFrom.and (OwnFrom.and (OwnFrom.and (OwnFrom.and (boxL_own _ _ _ _) (Own.from (kdq _ _ _) _)) (Own.from (kdq _ _ _) _)) (OwnFrom.and (Own.from (kdq _ _ _) _) (OwnFrom.and (Own.from (kdq _ _ _) _) (Own.from (kdq _ _ _) _)))) (ownFrom_keepsFrom (Nat.le_refl _))) (kq_own (by omega) (by omega)))
   (fun _ _ _ _ _ h _ _=>h.elim)
   ⟨⟨⟨⟨⟨by simpa using vL,vA⟩,vB⟩,vQ,vP,vN⟩,KeepsFrom.refl _ _⟩,Kq.refl _ _ _⟩
   (fun s a' U=>∃C1 C2,(U.heap[C1]?=some (.cells #[.int .i64 s.1.1.1,.int .i64 s.1.1.2] 43)∧U.heap[C2]?=some (.cells #[.int .i64 s.1.2.1,.int .i64 s.1.2.2] 43))∧a'={ tmps:=#[.slice (some ⟨b,off,none⟩) p.length c,.slice (some ⟨b',off',none⟩) q.length c',undef,.pointer (some ⟨w.heap.size,0,none⟩),.slice none 0 0,.pointer (some ⟨w.heap.size+1,0,none⟩),.pointer (some ⟨B1,0,none⟩),.pointer (some ⟨B2,0,none⟩),.pointer (some ⟨C1,0,none⟩),.pointer (some ⟨C2,0,none⟩),undef,undef,.slice (some ⟨b,off,none⟩) p.length c,.func (.func 399) #[] #[.pointer (some ⟨w.heap.size+1+1,0,none⟩)],.agg #[.int .i64 x1,.int .i64 x2],.agg #[.int .i64 y1,.int .i64 y2],.slice (some ⟨b',off',none⟩) q.length c',.func (.func 399) #[] #[.pointer (some ⟨W.heap.size,0,none⟩)],.agg #[.int .i64 s.1.1.1,.int .i64 s.1.1.2],.agg #[.int .i64 s.1.2.1,.int .i64 s.1.2.2],undef,undef,undef,undef,undef,undef,undef,undef,undef,undef,undef,undef,undef,undef,undef,undef,undef,undef,undef,undef,undef,undef,undef,undef,undef,undef,undef,undef,undef,undef],defers:=[] })
   (fun s a' _ X Y row hs hg hr=>by
    obtain⟨B1,B2,⟨h1,h1'⟩,h2⟩:=hs
    refine⟨B1,B2,⟨(hg.block B1 (qaz h1).1 (fun e=>?_)).trans h1,(hg.block B2 (qaz h1').1 (fun e=>?_)).trans h1'⟩,h2⟩
    ·obtain⟨_,o,ho,hoc⟩:=hr B1 e.symm
     rw[h1]at ho;cases ho;cases hoc
    ·obtain⟨_,o,ho,hoc⟩:=hr B2 e.symm
     rw[h1']at ho;cases ho;cases hoc)
   ?assign2 ?body2 ?done2 ?stop2
  case assign2=>
   rintro lz pre2 s U K ⟨⟨⟨⟨⟨uL,uA⟩,uB⟩,uQ⟩,uK⟩,uq⟩ hK;have hzz:=uq.1.size;simp only[kmt]
   gi_wp2
   have hX:Ext U ((U.alloc (.cells #[.int .i64 s.1.1.1,.int .i64 s.1.1.2] 43)).alloc (.cells #[.int .i64 s.1.2.1,.int .i64 s.1.2.2] 43)):=((Ext.refl U).alloc _).alloc _
   refine hK _ _ (hX.ko.from _) (hX.kq (by omega)) ⟨⟨⟨⟨⟨uL.ext hX,(hX.block _ (qaz uA).1).trans uA⟩,(hX.block _ (qaz uB).1).trans uB⟩,⟨(hX.block _ (qaz uQ.1).1).trans uQ.1,(hX.block _ (qaz uQ.2.1).1).trans uQ.2.1,(hX.block _ (qaz uQ.2.2).1).trans uQ.2.2⟩⟩,uK.trans (hX.ko.from _)⟩,uq.ext (by omega) hX⟩ ⟨U.heap.size,U.heap.size+1,⟨?_,?_⟩,rfl⟩
   ·rw[Below.heap_alloc _ _ _ (by simp only[qsa];omega)];exact qan U _
   ·have:=qan (U.alloc (.cells #[.int .i64 s.1.1.1,.int .i64 s.1.1.2] 43)) (.cells #[.int .i64 s.1.2.1,.int .i64 s.1.2.2] 43)
    simpa using this
  case body2=>
   rintro lz pre2 ⟨⟨⟨c1,c2⟩,⟨d1,d2⟩⟩,hcd⟩ a2 U hlz ⟨r2,hr2'⟩ ⟨⟨⟨⟨⟨uL,uA⟩,uB⟩,uQ⟩,uK⟩,uq⟩ ⟨C1,C2,⟨uC,uD⟩,rfl⟩ hlt2
   simp only at uC uD
   obtain⟨hx,hy⟩:=hxy;obtain⟨hc,hd⟩:=hcd
   simp only at hx hy hc hd uC uD
   have Ka:=Lib.hid (kfa (x1,x2) (y1,y2) (c1,c2) (kbn hx) (kbn hy) (kbn hc));have Kb:=Lib.hid (kfa (x1,x2) (y1,y2) (d1,d2) (kbn hx) (kbn hy) (kbn hd));have Kc:=Lib.hid (kfa (c1,c2) (d1,d2) (x1,x2) (kbn hc) (kbn hd) (kbn hx));have Kd:=Lib.hid (kfa (c1,c2) (d1,d2) (y1,y2) (kbn hc) (kbn hd) (kbn hy));have bs:=turn_bd hx hy hc;have bt:=turn_bd hx hy hd
   have HG:Hid (crossG ((x1,x2),(y1,y2)) ((c1,c2),(d1,d2))=if kea (kcf (x1,x2) (y1,y2) (c1,c2)) (kcf (x1,x2) (y1,y2) (d1,d2))&&kea (kcf (c1,c2) (d1,d2) (x1,x2)) (kcf (c1,c2) (d1,d2) (y1,y2)) then kdz (c1,c2) (d1,d2) (kcf (x1,x2) (y1,y2) (c1,c2)) (kcf (x1,x2) (y1,y2) (d1,d2)) else []):=rfl
   generalize kcf (x1,x2) (y1,y2) (c1,c2)=s at Ka bs HG;generalize kcf (x1,x2) (y1,y2) (d1,d2)=t at Kb bt HG;generalize kcf (c1,c2) (d1,d2) (x1,x2)=u at Kc HG;generalize kcf (c1,c2) (d1,d2) (y1,y2)=v at Kd HG;have Ke:=Lib.hid (kim s t);have Kf:=Lib.hid (kim u v)
   have Kg:Hid (kea s t=true→∀W,Calls Tryz.prog 358 #[.agg #[.int .i64 c1,.int .i64 c2],.agg #[.int .i64 d1,.int .i64 d2],.int .i64 s,.int .i64 t] W fun e w'=>∃v,e=.returned v∧LV W.heap.size w' v (kdz (c1,c2) (d1,d2) s t)∧Ext W w'):=
    fun h W=>frame_358 (c1,c2) (d1,d2) s t W hc hd bs bt (cross_ne h)
   generalize hk1:kea s t=k1 at Ke Kg HG;generalize kea u v=k2 at Kf HG;have hzA:=(qaz uA).1;have hzB:=(qaz uB).1;have hzC:=(qaz uC).1;have hzD:=(qaz uD).1;obtain⟨a0,a1,_,_⟩:=kae uA;obtain⟨e0,e1,_,_⟩:=kae uB;obtain⟨f0,f1,_,_⟩:=kae uC;obtain⟨g0,g1,_,_⟩:=kae uD
   simp only at Ka Kb Kc Kd
   have hzU:V0.heap.size≤U.heap.size:=uq.1.size
   have HU:=Lib.hid (And.intro uL (And.intro uA (And.intro uB (And.intro uQ (And.intro uK (And.intro uq (And.intro uC uD)))))));clear uL uA uB uQ uK uq uC uD bs bt hk1
   gi_wp2_with fail
   refine kdy (by kernel_rfl) (by kernel_rfl) (by kernel_rfl) ?_
   (repeat (first|go_big_quiet_step ((go_at_call 404;first|with_reducible exact Xt.calls (Ka.out _)|exact Xt.calls (Kb.out _)))|quiet_step ((go_at_call 404;first|with_reducible exact Xt.calls (Ka.out _)|exact Xt.calls (Kb.out _)))))
   refine wpQuiet_nil ?_
   rintro _ ⟨xq,rfl⟩;have hx2:=xq.ext;generalize xq.world=U2 at hx2 ⊢;have HX2:=Lib.hid hx2;obtain⟨hc8,_,hz8⟩:=hx2.rules;have a0':=(hc8 _ _ hzA).trans a0;have a1':=(hc8 _ _ hzA).trans a1;have e0':=(hc8 _ _ hzB).trans e0;have e1':=(hc8 _ _ hzB).trans e1;have f0':=(hc8 _ _ hzC).trans f0;have f1':=(hc8 _ _ hzC).trans f1;have g0':=(hc8 _ _ hzD).trans g0;have g1':=(hc8 _ _ hzD).trans g1
   have yA:B1<U2.heap.size:=by omega
   have yB:B2<U2.heap.size:=by omega
   have yC:C1<U2.heap.size:=by omega
   have yD:C2<U2.heap.size:=by omega
   clear a0 a1 e0 e1 f0 f1 g0 g1 hc8 hz8 hx2 hzA hzB hzC hzD
   gi_wp2_with fail
   have END:Hid (∀U3,Ext U U3→(if k1&&k2 then kdz (c1,c2) (d1,d2) s t else [])=[]→((((BoxL (w.heap.size+3) (w.heap.size+1) U3 (l0++((pre2++[(⟨((c1,c2),(d1,d2)),⟨hc,hd⟩⟩:SegT)]).map (·.1)).flatMap (crossG ((x1,x2),(y1,y2))))∧U3.heap[B1]?=some (.cells #[.int .i64 x1,.int .i64 x2] 43))∧U3.heap[B2]?=some (.cells #[.int .i64 y1,.int .i64 y2] 43))∧(U3.heap[w.heap.size]?=some (.cells #[.slice (some ⟨b',off',none⟩) q.length c'] 76)∧U3.heap[w.heap.size+1+1]?=some (.cells #[.slice (some ⟨b,off,none⟩) p.length c] 76)∧U3.heap[W.heap.size]?=some (.cells #[.slice (some ⟨b',off',none⟩) q.length c'] 76)))∧KeepsFrom (w.heap.size+3) V0 U3)∧Kq w.heap.size (w.heap.size+1+1) V0 U3):=fun U3 hX h0=>by
    obtain⟨uL,uA,uB,uQ,uK,uq,_,_⟩:=HU.out
    refine⟨⟨⟨⟨⟨?_,(hX.block _ (qaz uA).1).trans uA⟩,(hX.block _ (qaz uB).1).trans uB⟩,⟨(hX.block _ (qaz uQ.1).1).trans uQ.1,(hX.block _ (qaz uQ.2.1).1).trans uQ.2.1,(hX.block _ (qaz uQ.2.2).1).trans uQ.2.2⟩⟩,uK.trans (hX.ko.from _)⟩,uq.ext (by have:=uq.1.size;omega) hX⟩
    rw[List.map_append,List.flatMap_append,List.map_singleton,List.flatMap_singleton,HG.out,h0,List.append_nil]
    exact uL.ext hX
   cases k1 with
   | false=>
    refine kdy (by kernel_rfl) (by kernel_rfl) (by kernel_rfl) ?_
    (repeat (first|go_big_quiet_step ((go_at_call 357;with_reducible exact Xt.calls_same (Ke.out _)))|quiet_step ((go_at_call 357;with_reducible exact Xt.calls_same (Ke.out _)))))
    refine wpQuiet_nil ?_
    rintro _ ⟨xq2,rfl⟩;have hx3:=xq2.ext;generalize xq2.world=U3 at hx3 ⊢
    gi_wp2_with fail
    have hX:=HX2.out.trans hx3
    exact⟨hX.ko.from _,hX.kq (by omega),END.out _ hX (by simp)⟩
   | true=>
    refine kdy (by kernel_rfl) (by kernel_rfl) (by kernel_rfl) ?_
    (repeat (first|go_big_quiet_step ((first|(go_at_call 357;first|with_reducible exact Xt.calls_same (Ke.out _)|exact Xt.calls_same (Kf.out _))|(go_at_call 404;first|with_reducible exact Xt.calls (Kc.out _)|exact Xt.calls (Kd.out _))))|quiet_step ((first|(go_at_call 357;first|with_reducible exact Xt.calls_same (Ke.out _)|exact Xt.calls_same (Kf.out _))|(go_at_call 404;first|with_reducible exact Xt.calls (Kc.out _)|exact Xt.calls (Kd.out _))))))
    refine wpQuiet_nil ?_
    rintro _ ⟨xq2,rfl⟩;have hx3:=xq2.ext;generalize xq2.world=U3 at hx3 ⊢;have hX:=Lib.hid (HX2.out.trans hx3)
    cases k2 with
    | false=>
     gi_wp2_with fail
     exact⟨hX.out.ko.from _,hX.out.kq (by omega),END.out _ hX.out (by simp)⟩
    | true=>
     have Kh:=Lib.hid (Kg.out rfl)
     have HG2:Hid (crossG ((x1,x2),(y1,y2)) ((c1,c2),(d1,d2))=kdz (c1,c2) (d1,d2) s t):=by show _=_;rw[HG.out];simp
     obtain⟨hc9,_,hz9⟩:=hx3.rules;have f0'':=(hc9 _ _ yC).trans f0';have f1'':=(hc9 _ _ yC).trans f1';have g0'':=(hc9 _ _ yD).trans g0';have g1'':=(hc9 _ _ yD).trans g1'
     have yC':C1<U3.heap.size:=by omega
     have yD':C2<U3.heap.size:=by omega
     obtain⟨v0,bO,hv0,hnv⟩:=HU.out.1.ext hX.out;have bO0':=bO.cell
     have yO:w.heap.size+1<U3.heap.size:=(qaz bO).1
     clear Ka Kb Kc Kd Ke Kf Kg HG END a0' a1' e0' e1' f0' f1' g0' g1' hc9 yC yD
     gi_wp2_with fail
     refine kgq 5 (by kernel_rfl) (by kernel_rfl) (by kernel_rfl) ?_
     simp only[List.take_succ_cons,List.take_zero]
     iterate 5 (first|go_big_quiet_step (fail)|quiet_step (fail))
     refine wpQuiet_nil ?_
     refine kcj rfl rfl rfl eg_358 ?_
     simp only[List.map_toArray,List.map_cons,List.map_nil]
     refine(Kh.out _).mono ?_
     rintro e U4 ⟨v4,rfl,hv4,hx4⟩
     have hE34:Ext U3 U4:=Ext.trans ((Ext.refl U3).drew) hx4
     have hX4:Ext U U4:=hX.out.trans hE34
     obtain⟨g4,cap4,rfl,hP4⟩:=hv4.row (by simp[kdz])
     have hL4:=hv0.ext hE34
     have bO4:Boxed U4 (w.heap.size+1) 76 v0:=Boxed.ext bO hE34
     have hz4:=hX4.len
     have hlen:(l0++(pre2.map (·.1)).flatMap (crossG ((x1,x2),(y1,y2)))).length≤20000:=by
      have h1:=kdl (f:=crossG ((x1,x2),(y1,y2))) (m:=4) (kkt _) (pre2.map (·.1));have h2:=HN0.out;rw[List.length_map]at h1;rw[List.length_append]
      omega
     refine⟨_,rfl,⟨⟨U4,hE34⟩,rfl⟩,?_⟩
     simp only[List.drop_succ_cons,List.drop_zero]
     refine wpListIn_app Tryz.underlying76 hi hz0 hz1 hz2 rfl rfl _ _ rfl (w.heap.size+3) v0 _ rfl hL4 (by omega) ⟨g4,0,none⟩ _ _ (kdz (c1,c2) (d1,d2) s t) rfl rfl hP4.reads (by simp only[kdz,List.length_cons,List.length_nil];omega) ?_
     intro v5 U5 hv5 hb5 hg5
     obtain⟨g5,cap5,hv5e,_⟩:=hv5.row (by simp only[kdz,List.length_append,List.length_cons,List.length_nil];omega)
     generalize (l0++(pre2.map (·.1)).flatMap (crossG ((x1,x2),(y1,y2)))++kdz (c1,c2) (d1,d2) s t).length=n5 at hv5e;subst hv5e
     have bO5:Boxed U5 (w.heap.size+1) 76 v0:=bO4.kept hg5 (bO4.not_row (by decide) hL4)
     have HH:=Lib.hid (And.intro hX4 (And.intro hL4 (And.intro hv5 (And.intro hb5 (And.intro hg5 (And.intro bO4 (And.intro bO5 hnv)))))));have c5:=bO5.cell;have f5:=bO5.frozen
     have y5:w.heap.size+1<U5.heap.size:=(qaz bO5).1
     clear hX4 hL4 hv5 hb5 hg5 bO4 bO5 hnv hv0 bO hP4 hv4 hx4 hE34 Kh
     gi_wp2_with fail
     obtain⟨hX4,hL4,hv5,hb5,hg5,bO4,bO5,hnv⟩:=HH.out;obtain⟨uL,uA,uB,uQ,uK,uq,_,_⟩:=HU.out
     have MV:∀(bb:Nat) (o:Obj),U.heap[bb]?=some o→(∀xs t,o=.cells xs t (0,0)→t≠43∨xs.size=2)→(∃xs t,o=.cells xs t (0,0))→bb≠w.heap.size+1→(U5.setCell ⟨w.heap.size+1,0,none⟩ (.slice (some ⟨g5,0,none⟩) n5 cap5)).heap[bb]?=some o:=fun bb o h h1 h2 h3=>by
      obtain⟨xs,ty,rfl⟩:=h2
      have h4:U4.heap[bb]?=some (.cells xs ty (0,0)):=(hX4.block _ (qaz h).1).trans h
      exact kah ((hg5.block _ (qaz h4).1 (lv_apart hL4 hnv h4 (h1 _ _ rfl)).2).trans h4) h3 _
     have hko:KeepsOthers U (U5.setCell ⟨w.heap.size+1,0,none⟩ (.slice (some ⟨g5,0,none⟩) n5 cap5)):=hX4.ko.trans ((KeepsOthers.of_grownBy hg5 (fun j o ej hj=>by
      rcases hL4.2 with ⟨rfl,_⟩|⟨g,cap,cur,rfl,_,hgb,_⟩
      ·simp[Value.ownBlock]at ej
      ·obtain rfl:g=j:=by simpa[Value.ownBlock]using ej
       rw[hgb]at hj;cases hj;rfl)).trans (KeepsOthers.setCell _ _ _))
     have hbel:Below w.heap.size U (U5.setCell ⟨w.heap.size+1,0,none⟩ (.slice (some ⟨g5,0,none⟩) n5 cap5)):=((Below.mono hX4 (by omega)).trans (Below.mono hb5 (by omega))).setCell (p:=⟨w.heap.size+1,0,none⟩) (by simp only;omega) _
     have hQ1:=MV _ _ uQ.1 (fun xs t e=>by cases e;exact .inl (by decide)) ⟨_,_,rfl⟩ (by omega)
     have hQ2:=MV _ _ uQ.2.1 (fun xs t e=>by cases e;exact .inl (by decide)) ⟨_,_,rfl⟩ (by omega)
     have hQ3:=MV _ _ uQ.2.2 (fun xs t e=>by cases e;exact .inl (by decide)) ⟨_,_,rfl⟩ (by omega)
     have bOU:U.heap[w.heap.size+1]?=U4.heap[w.heap.size+1]?:=(hX4.block _ (by omega)).symm
     have hA1:=MV _ _ uA (fun xs t e=>by cases e;exact .inr rfl) ⟨_,_,rfl⟩ (fun e=>by subst e;rw[bOU,show U4.heap[w.heap.size+1]?=_ from bO4]at uA;cases uA)
     have hB2:=MV _ _ uB (fun xs t e=>by cases e;exact .inr rfl) ⟨_,_,rfl⟩ (fun e=>by subst e;rw[bOU,show U4.heap[w.heap.size+1]?=_ from bO4]at uB;cases uB)
     refine⟨hko.from _,⟨hbel,fun o ho _=>by rw[uQ.2.2]at ho;cases ho;exact hQ3⟩,⟨⟨⟨⟨?_,hA1⟩,hB2⟩,hQ1,hQ2,hQ3⟩,uK.trans (hko.from _)⟩,uq.t ⟨hbel,fun o ho _=>by rw[uQ.2.1]at ho;cases ho;exact hQ2⟩⟩
     rw[List.map_append,List.flatMap_append,List.map_singleton,List.flatMap_singleton,HG2.out,←List.append_assoc]
     refine⟨_,bO5.set _,?_,.inr (by simp only[kdz,List.length_append,List.length_cons,List.length_nil];omega)⟩
     exact World.ownsRow.kept hv5 (grownBy_setCell' U5 (w.heap.size+1) _) (.inr (bO5.not_row (by decide) hv5).symm)
  case done2=>
   rintro ys U hys ⟨⟨⟨⟨⟨uL,uA⟩,uB⟩,uQ⟩,uK⟩,uq⟩;have hEV:=HEV.out;obtain⟨hB1,bQ,hBL⟩:=KEEP.out
   refine⟨by first|exact(hEV.ko.from _).trans uK|(rw[hz0'];exact(hEV.ko.from _).trans uK),(hEV.kq hzW).t uq,⟨?_,uQ.1,uQ.2.1⟩,(hB1.trans (Below.mono hEV hzW)).trans uq.1⟩
   rw[List.map_append,List.flatMap_append,HL0.out];rw[hys]at uL
   simpa[kob]using uL
  case stop2=>
   rintro c0 pre2 U _ h
   exact h.elim
 case done=>
  rintro D ys W hD hys ⟨⟨⟨v,bO,hv,_⟩,_⟩,hB⟩ hK;rw[hys]at hv;have c4:=bO.cell
  go_wp2
  refine⟨by simp,.inl ⟨_,_,rfl,run_takeDeferred hK,?_⟩⟩
  refine⟨v,by simp[results,Tryz.f376,go_sem],v,rfl,?_,hB.trans (belowK_b (w:=w) (Nat.le_refl _) _ D _ _ (by omega) hK rfl rfl)⟩
  exact(lv_kept hv (grownBy_putObj' _ D (.deferred none)) (fun k e=>by cases e;exact⟨_,hK,rfl⟩)).base (by omega)
 case stop=>
  rintro D k pre W _ _ h _
  exact h.elim
end Go.Proofs.YtcgghcicnanliaaGreatDoor
namespace Go.Proofs.YtcgghcicnanliaaGreatDoor
open Go.RowKit Go.Lib
set_option maxHeartbeats 4000000
set_option maxRecDepth 100000
theorem grow_385 (n:Nat)(hn:n≤1000000)(w:World) :
  Calls Tryz.prog 385 #[.slice none 0 0,.int .i64 n] w fun e w'=>∃v,e=.returned v∧LV w.heap.size w' v []∧Ext w w':=by
 obtain⟨i0,hi,hz0,hz1,hz2⟩:=info_parts kha
 by_cases h0:n=0
 ·subst h0
  go_enter Tryz.func385,Tryz.ntmps385
  go_wp2_with fail
  go_ret
  exact⟨_,rfl,LV.nil _ _,Ext.refl _⟩
 ·have hnp:(0:Int)<(n:Int):=by omega
  have hnn:¬ (n:Int)<0:=by omega
  go_enter Tryz.func385,Tryz.ntmps385
  go_wp2_with (at_builtin;refine wpList_append_run _ rfl _ _ 76 3 rfl (.slice none 0 0) (.int .i64 n) rfl rfl _ _ (run_append_nil_zeros _ 76 3 76 43 i0 _ .i64 .i64 Tryz.underlying76 Tryz.underlying3 hi hz0 n (by omega) (by omega) (by omega) (by rw[hz2];omega)) ?_)
  go_ret
  refine⟨_,rfl,?_,xt⟩
  have hc:=grownCap_ge w n 0 43
  exact⟨rfl,.inr ⟨w.heap.size,grownCap w n 0 43,_,rfl,Nat.le_refl _,qan w _,Nat.zero_le _,grownCap_le_maxLen w n 0 43 (by simp only[maxLen];omega),by simp[Builtin.zeroCells];rw[←Nat.add_mul,Nat.add_sub_cancel' hc],by simp⟩⟩
theorem Sl.readsP {W:World}{b off:Nat}{l:List Pt}(h:Sl encP 2 W (some ⟨b,off,none⟩) l):∀j u,(l.flatMap encP)[j]?=some u→W.cell? ((⟨b,off,none⟩:Addr).add j)=some u:=fun j u hu=>by
 have hj:j<l.length*2:=by have:=(List.getElem?_eq_some_iff.1 hu).1;rwa [kby]at this
 have hq:j / 2<l.length:=by omega
 have hi:j % 2<(encP (l[j / 2]'hq)).length:=by simp[encP];omega
 have h1:=getElem?_rows (enc:=encP) (k:=2) (fun _=>rfl) l (j / 2) (j % 2) _ _ (qgq hq) (qgq hi)
 rw[show j / 2*2+j % 2=j by omega,hu]at h1
 cases h1
 have:=h.at_ (qgq hq) (qgq hi)
 rw[Addr.add_lit]
 rwa [show off+j / 2*2+j % 2=off+j by omega]at this
theorem kfg (w:World)(ty:TypeId){base:Option Addr}{n cap:Nat}(A:Option Addr)(c:Nat)(h:n≤cap) :
  (Builtin.append_ #[76,76] ty #[.slice base n cap,.slice A 0 c]).run Tryz.prog w=.ok (.slice base n cap) w:=by
 obtain⟨i0,hi,hz0,hz1,hz2⟩:=info_parts kha;unfold Builtin.append_
 cases A<;>cases base<;>simp[Sem.run_bind,go_sem,Builtin.lenOf,Builtin.firstCells,h,hi,hz0,hz1]
theorem concat_332 (A:Option Addr)(c:Nat)(r:List PV)(w:World)(R:Rg w A r)(hr:r.length≤40)(hl:∀v∈r,v.l.length≤20000) :
  Calls Tryz.prog 332 #[.slice A r.length c] w fun e w'=>∃v,e=.returned v∧LV w.heap.size w' v (r.flatMap fun v=>v.l)∧Ext w w':=by
 obtain⟨i0,hi,hz0,hz1,hz2⟩:=info_parts kha
 have LB:Hid (∀k,((r.take k).flatMap fun v=>v.l).length≤k*20000):=fun k=>by
  have:∀(l:List PV),(∀v∈l,v.l.length≤20000)→(l.flatMap fun v=>v.l).length≤l.length*20000:=fun l=>by
   induction l with
   | nil=>simp
   | cons x l ih=>
    intro h;rw[List.flatMap_cons,List.length_append,List.length_cons,Nat.succ_mul]
    have h1:=h x (by simp)
    have h2:=ih (fun v hv=>h v (by simp[hv]))
    omega
  have h1:=this (r.take k) (fun v hv=>hl v (List.mem_of_mem_take hv))
  exact Nat.le_trans h1 (Nat.mul_le_mul_right _ (by simp;omega))
 have RR:=Lib.hid R
 go_enter Tryz.func332,Tryz.ntmps332
 go_wp2
 go_loopg [3,5,11] r.length (fun gg s3 _ s11 wr=>∃kk:Nat,kk≤r.length∧r.length-kk≤gg∧s11=.int .i64 kk∧s3=.int .i64 ((r.take kk).flatMap fun v=>v.l).length∧wr=w)
 case atStart=>exact⟨0,Nat.zero_le _,by omega,rfl,rfl,rfl⟩
 case round=>
  obtain⟨kk,hkk,hg,rfl,rfl,rfl⟩:=hrel;have B1:=LB.out kk
  by_cases hlt:kk<r.length
  ·obtain⟨b,off,rfl⟩:=R.sl.addr (by omega)
   obtain⟨y,hy⟩:∃y,r[kk]?=some y:=⟨_,qgq hlt⟩
   have hltz:(kk:Int)<(r.length:Int):=by omega
   have B2:=hl y (qmq hy)
   have EQ:Hid (((r.take (kk+1)).flatMap fun v=>v.l).length=((r.take kk).flatMap fun v=>v.l).length+y.l.length):=by show _=_;rw[List.take_add_one,hy,List.flatMap_append];simp
   have c0:wr.cell? ⟨b,off+kk*1,none⟩=some (.slice y.A y.l.length y.c):=by have:=R.sl.at_ hy (i:=0) rfl;simpa using this
   rw[Nat.mul_one]at c0
   generalize ((r.take kk).flatMap fun v=>v.l).length=m at B1 EQ ⊢
   clear hy;obtain⟨yA,yc,yl⟩:=y
   simp only at c0 B2 EQ
   generalize yl.length=n at c0 B2 EQ
   have hm:m≤2000000:=by omega
   go_wp2_with fail
   all_goals (first|(go_roundg (r.length-(kk+1));case measure=>omega
                     case rel=>exact⟨kk+1,by omega,by omega,by go_num,by rw[EQ.out];go_num,rfl⟩)|(exfalso;omega))
  ·obtain rfl:kk=r.length:=by omega
   rw[List.take_length]at B1 ⊢
   have K1:=Lib.hid (grow_385 (r.flatMap fun v=>v.l).length (by omega))
   generalize (r.flatMap fun v=>v.l).length=nn at K1 ⊢
   go_wp2_with (go_at_call 385;refine(K1.out _).mono ?_;rintro e w1 ⟨v1,rfl,hv1,hx1⟩)
   have hzw:=hx1.len
   go_loopg [6,8,27] r.length (fun gg s6 _ s27 wq=>∃kk:Nat,kk≤r.length∧r.length-kk≤gg∧s27=.int .i64 kk∧Hid (LV wr.heap.size wq s6 ((r.take kk).flatMap fun v=>v.l)∧Ext wr wq))
   case atStart=>exact⟨0,Nat.zero_le _,by omega,rfl,hv1,hx1⟩
   case round=>
    obtain⟨j,hj,hgj,rfl,hx⟩:=hrel
    by_cases hlt2:j<r.length
    rotate_left
    ·obtain rfl:j=r.length:=by omega
     go_wp2_with fail
     go_ret
     exact⟨_,rfl,by have:=hx.out.1;rwa [List.take_length]at this,hx.out.2⟩
    obtain⟨b,off,rfl⟩:=R.sl.addr (by omega)
    obtain⟨y,hy⟩:∃y,r[j]?=some y:=⟨_,qgq hlt2⟩
    have hjz:(j:Int)<(r.length:Int):=by omega
    have B2:=hl y (qmq hy);have B3:=LB.out j;have SY:=Lib.hid ((R.each y (qmq hy)).ext hx.out.2)
    have EQ:Hid ((r.take (j+1)).flatMap (fun v=>v.l)=(r.take j).flatMap (fun v=>v.l)++y.l):=by show _=_;rw[List.take_add_one,hy,List.flatMap_append];simp
    have zb:=hx.out.2.len
    have hbw:b<_:=Nat.lt_of_lt_of_le (R.sl.blk (by omega)) zb
    have c0:=(hx.out.2.rules.1 b (off+j*1) (R.sl.blk (by omega))).trans (show _=some (.slice y.A y.l.length y.c) by have:=R.sl.at_ hy (i:=0) rfl;simpa using this)
    rw[Nat.mul_one]at c0
    generalize (r.take j).flatMap (fun v=>v.l)=l0 at hx B3 EQ
    clear hy;obtain⟨yA,yc,yl⟩:=y
    simp only at c0 B2 EQ SY
    have HXO:=Lib.hid hx.out
    by_cases hy0:yl.length=0
    ·obtain rfl:yl=[]:=List.eq_nil_of_length_eq_zero hy0
     simp only[List.length_nil]at c0;rw[List.append_nil]at EQ
     obtain⟨base,n,cap,hu,hnc⟩:∃base n cap,u6=.slice base n cap∧n≤cap:=by
      rcases hx.out.1.2 with ⟨h1,_⟩|⟨g,cap,cur,h1,_,_,h4,_⟩
      ·exact⟨_,_,_,h1,Nat.le_refl _⟩
      ·exact⟨_,_,_,h1,h4⟩
     subst hu;clear hx
     go_wp2_with (at_builtin;refine wpList_append_run _ rfl _ _ 76 76 rfl _ _ rfl rfl _ _ (kfg _ _ yA yc hnc) ?_)
     go_roundg (r.length-(j+1))
     case measure=>omega
     case rel=>exact⟨j+1,by omega,by omega,by go_num,by rw[EQ.out];exact HXO.out.1,HXO.out.2⟩
    ·obtain⟨b2,off2,rfl⟩:=SY.out.addr (by omega)
     clear hx
     go_wp2_with (at_builtin;refine kck Tryz.underlying76 hi hz0 hz1 hz2 rfl rfl _ _ rfl _ _ l0 rfl HXO.out.1 zb ⟨b2,off2,none⟩ _ _ yl rfl rfl SY.out.readsP (by omega) ?_)
     intro v' w3 hv3 hb3 _
     go_wp2_with fail
     go_roundg (r.length-(j+1))
     case measure=>omega
     case rel=>exact⟨j+1,by omega,by omega,by go_num,by rw[EQ.out];exact hv3,Below.trans HXO.out.2 hb3⟩
def kep (p q:List Pt):List Pt:=kbg p q++kbg q p++kcl p q
theorem kjz (p q:List Pt):(kcl p q).length≤p.length*(q.length*4):=by
 have h1:=kdl (f:=kob q) (m:=q.length*4) (fun s=>by
  have h2:=kdl (f:=crossG s) (m:=4) (kkt s) (upto (kbr q) q.length)
  rwa [kch]at h2) (upto (kbr p) p.length)
 rwa [kch]at h1
theorem shared_309 (A A':Option Addr)(c c':Nat)(p q:List Pt)(w:World)(hS:Sl encP 2 w A p)(hT:Sl encP 2 w A' q)(hp:∀y∈p,plB y=true)(hq:∀y∈q,plB y=true)(p0:0<p.length)(q0:0<q.length)(hp64:p.length≤64)(hq64:q.length≤64) :
  Calls Tryz.prog 309 #[.slice A p.length c,.slice A' q.length c'] w fun e w'=>∃v,e=.returned v∧LV w.heap.size w' v (kep p q)∧Ext w w':=by
 have K1:Hid (∀W,Ext w W→Calls Tryz.prog 375 #[.slice A p.length c,.slice A' q.length c'] W fun e w'=>∃A2 c2,e=.returned (.slice A2 (kbg p q).length c2)∧Sl encP 2 w' A2 (kbg p q)∧Ext W w'):=fun W h=>(kin A A' c c' p q W (hS.ext h) (hT.ext h) (by omega) hp hq).mono fun e w' ⟨v,h1,h2,h3⟩=>by
  obtain⟨A2,c2,rfl,h4⟩:=h2.reads
  exact⟨A2,c2,h1,h4,h3⟩
 have K2:Hid (∀W,Ext w W→Calls Tryz.prog 375 #[.slice A' q.length c',.slice A p.length c] W fun e w'=>∃A2 c2,e=.returned (.slice A2 (kbg q p).length c2)∧Sl encP 2 w' A2 (kbg q p)∧Ext W w'):=fun W h=>(kin A' A c' c q p W (hT.ext h) (hS.ext h) (by omega) hq hp).mono fun e w' ⟨v,h1,h2,h3⟩=>by
  obtain⟨A2,c2,rfl,h4⟩:=h2.reads
  exact⟨A2,c2,h1,h4,h3⟩
 have K3:Hid (∀W,Ext w W→Calls Tryz.prog 376 #[.slice A p.length c,.slice A' q.length c'] W fun e w'=>∃A2 c2,e=.returned (.slice A2 (kcl p q).length c2)∧Sl encP 2 w' A2 (kcl p q)∧Ext W w'):=fun W h=>(crossings_376 A A' c c' p q W (hS.ext h) (hT.ext h) hp hq p0 q0 hp64 hq64).mono fun e w' ⟨v,h1,h2,h3⟩=>by
  obtain⟨A2,c2,rfl,h4⟩:=h2.reads
  exact⟨A2,c2,h1,h4,h3⟩
 have L1:(kbg p q).length≤64:=Nat.le_trans (List.length_filter_le _ _) hp64
 have L2:(kbg q p).length≤64:=Nat.le_trans (List.length_filter_le _ _) hq64
 have L3:(kcl p q).length≤16384:=Nat.le_trans (kjz p q) (by
  have:=Nat.mul_le_mul hp64 (Nat.mul_le_mul_right 4 hq64)
  omega)
 have HD:Hid (kep p q=[(kbg p q),(kbg q p),(kcl p q)].flatMap id):=by show _=_;simp[kep]
 generalize kep p q=sh at HD ⊢;generalize kbg p q=l1 at K1 L1 HD;generalize kbg q p=l2 at K2 L2 HD;generalize kcl p q=l3 at K3 L3 HD;generalize p.length=np at K1 K2 K3 ⊢;generalize q.length=nq at K1 K2 K3 ⊢;clear hS hT hp hq p0 q0 hp64 hq64
 go_enter Tryz.func309,Tryz.ntmps309
 go_wp2_with fail
 go_at_call 375
 refine(K1.out _ xt).mono ?_
 rintro e w1 ⟨A1,c1,rfl,h1,hx1⟩
 go_wp2_with fail
 go_at_call 375
 refine(K2.out _ xt).mono ?_
 rintro e w2 ⟨A2,c2,rfl,h2,hx2⟩
 go_wp2_with fail
 go_at_call 376
 refine(K3.out _ xt).mono ?_
 rintro e w3 ⟨A3,c3,rfl,h3,hx3⟩
 have hE3:Ext w w3:=(hx1.trans hx2).trans hx3
 obtain⟨r,hr⟩:∃r:List PV,r=[⟨A1,c1,l1⟩,⟨A2,c2,l2⟩,⟨A3,c3,l3⟩]:=⟨_,rfl⟩
 have hrl:r.length=3:=by rw[hr];rfl
 have RG:Rg (w3.alloc (.cells #[.slice A1 l1.length c1,.slice A2 l2.length c2,.slice A3 l3.length c3] 76)) (some ⟨w3.heap.size,0,none⟩) r:=by
  refine⟨?_,fun v hv=>?_⟩
  ·have:=Sl.new (enc:=koy) (k:=1) (fun _=>rfl) w3 r 76
   rw[hr]at this ⊢
   exact this
  ·have ha:Ext w3 (w3.alloc (.cells #[.slice A1 l1.length c1,.slice A2 l2.length c2,.slice A3 l3.length c3] 76)):=(Ext.refl w3).alloc _
   rw[hr]at hv;simp only[List.mem_cons,List.not_mem_nil,or_false]at hv
   rcases hv with rfl|rfl|rfl
   ·exact h1.ext ((hx2.trans hx3).trans ha)
   ·exact h2.ext (hx3.trans ha)
   ·exact h3.ext ha
 have K4:=Lib.hid (concat_332 (some ⟨w3.heap.size,0,none⟩) 3 r _ RG (by omega) (fun v hv=>by
  rw[hr]at hv;simp only[List.mem_cons,List.not_mem_nil,or_false]at hv
  rcases hv with rfl|rfl|rfl<;>(simp only;omega)))
 rw[hrl]at K4
 have HR:Hid ((r.flatMap fun v=>v.l)=sh):=by show _=_;rw[hr,HD.out];simp
 clear RG hr hrl h1 h2 h3 K1 K2 K3 L1 L2 L3
 go_wp2_with (go_at_call 332;refine K4.out.mono ?_;rintro e w4 ⟨v4,rfl,h4,hx4⟩)
 go_ret
 refine⟨v4,rfl,?_,hE3.trans (((Ext.refl w3).alloc _).trans hx4)⟩
 rw[HR.out]at h4
 exact h4.base (by have:=hE3.len;simp only[qsa];omega)
theorem kld (f:Pt→Int)(l:List Pt):∀k j,j<k→j<l.length→loL f l k≤f (ptAt l j)
 | 0,j,h,_=>by omega
 | k+1,j,h,hj=>by
  by_cases hk:k<l.length
  ·rw[loL_succ (qgq hk)]
   by_cases e:j=k
   ·subst e;rw[kbm (qgq hk)];omega
   ·have:=kld f l k j (by omega) hj;omega
  ·have:loL f l (k+1)=loL f l k:=by unfold loL;rw[List.take_of_length_le (by omega),List.take_of_length_le (by omega)]
   rw[this]
   exact kld f l k j (by omega) hj
theorem klg (f:Pt→Int)(l:List Pt):∀k j,j<k→j<l.length→f (ptAt l j)≤hiL f l k
 | 0,j,h,_=>by omega
 | k+1,j,h,hj=>by
  by_cases hk:k<l.length
  ·rw[hiL_succ (qgq hk)]
   by_cases e:j=k
   ·subst e;rw[kbm (qgq hk)];omega
   ·have:=klg f l k j (by omega) hj;omega
  ·have:hiL f l (k+1)=hiL f l k:=by unfold hiL;rw[List.take_of_length_le (by omega),List.take_of_length_le (by omega)]
   rw[this]
   exact klg f l k j (by omega) hj
theorem kjm (f:Pt→Int)(l:List Pt)(h0:0<l.length):∀k,∃j,j<l.length∧loL f l k=f (ptAt l j)
 | 0=>⟨0,h0,rfl⟩
 | k+1=>by
  obtain⟨j,hj,e⟩:=kjm f l h0 k
  by_cases hk:k<l.length
  ·rw[loL_succ (qgq hk),e]
   by_cases h:f (ptAt l j)≤f l[k]
   ·exact⟨j,hj,by omega⟩
   ·exact⟨k,hk,by rw[kbm (qgq hk)];omega⟩
  ·exact⟨j,hj,by rw[←e];unfold loL;rw[List.take_of_length_le (by omega),List.take_of_length_le (by omega)]⟩
theorem kjs (f:Pt→Int)(l:List Pt)(h0:0<l.length):∀k,∃j,j<l.length∧hiL f l k=f (ptAt l j)
 | 0=>⟨0,h0,rfl⟩
 | k+1=>by
  obtain⟨j,hj,e⟩:=kjs f l h0 k
  by_cases hk:k<l.length
  ·rw[hiL_succ (qgq hk),e]
   by_cases h:f l[k]≤f (ptAt l j)
   ·exact⟨j,hj,by omega⟩
   ·exact⟨k,hk,by rw[kbm (qgq hk)];omega⟩
  ·exact⟨j,hj,by rw[←e];unfold hiL;rw[List.take_of_length_le (by omega),List.take_of_length_le (by omega)]⟩
def upP (ly hy a b c d x:Int):List Pt:=[(x,max (max ly (a-x)) (x-d)),(x,min (min hy (b-x)) (x-c))]
def flP (lx hx a b c d y:Int):List Pt:=[(max (max lx (a-y)) (y+c),y),(min (min hx (b-y)) (y+d),y)]
def eightP (lx ly hx hy a b c d:Int):List Pt:=[lx,hx].flatMap (upP ly hy a b c d)++[ly,hy].flatMap (flP lx hx a b c d)
theorem eightP_places (l:List Pt)(h0:0<l.length)(hp:∀y∈l,plB y=true):∀y∈eightP (kbb l).1 (kbb l).2 (kbc l).1 (kbc l).2 (loL (fun x=>x.1+x.2) l l.length) (hiL (fun x=>x.1+x.2) l l.length) (loL (fun x=>x.1-x.2) l l.length) (hiL (fun x=>x.1-x.2) l l.length),plB y=true:=by
 have P:∀j,j<l.length→-500000≤(ptAt l j).1∧(ptAt l j).1≤500000∧-500000≤(ptAt l j).2∧(ptAt l j).2≤500000:=fun j hj=>by
  have:=hp _ (kcr hj)
  simp only[plB,inB,qba,decide_eq_true_eq]at this
  omega
 have F:∀j,j<l.length→(kbb l).1≤(ptAt l j).1∧(ptAt l j).1≤(kbc l).1∧(kbb l).2≤(ptAt l j).2∧(ptAt l j).2≤(kbc l).2 ∧
   loL (fun x=>x.1+x.2) l l.length≤(ptAt l j).1+(ptAt l j).2∧(ptAt l j).1+(ptAt l j).2≤hiL (fun x=>x.1+x.2) l l.length∧loL (fun x=>x.1-x.2) l l.length≤(ptAt l j).1-(ptAt l j).2∧(ptAt l j).1-(ptAt l j).2≤hiL (fun x=>x.1-x.2) l l.length:=fun j hj=>
  ⟨kld (fun x=>x.1) l _ j hj hj,klg (fun x=>x.1) l _ j hj hj,kld (fun x=>x.2) l _ j hj hj,klg (fun x=>x.2) l _ j hj hj,kld (fun x=>x.1+x.2) l _ j hj hj,klg (fun x=>x.1+x.2) l _ j hj hj,kld (fun x=>x.1-x.2) l _ j hj hj,klg (fun x=>x.1-x.2) l _ j hj hj⟩
 obtain⟨j1,h1,e1⟩:=kjm (fun x=>x.1) l h0 l.length
 obtain⟨j2,h2,e2⟩:=kjs (fun x=>x.1) l h0 l.length
 obtain⟨j3,h3,e3⟩:=kjm (fun x=>x.2) l h0 l.length
 obtain⟨j4,h4,e4⟩:=kjs (fun x=>x.2) l h0 l.length
 have p1:=P j1 h1;have p2:=P j2 h2;have p3:=P j3 h3;have p4:=P j4 h4;have f1:=F j1 h1;have f2:=F j2 h2;have f3:=F j3 h3;have f4:=F j4 h4
 have g1:(kbb l).1=(ptAt l j1).1:=e1
 have g2:(kbc l).1=(ptAt l j2).1:=e2
 have g3:(kbb l).2=(ptAt l j3).2:=e3
 have g4:(kbc l).2=(ptAt l j4).2:=e4
 intro y hy;simp only[eightP,upP,flP,List.flatMap_cons,List.flatMap_nil,List.append_nil,List.cons_append,List.nil_append,List.mem_cons,List.not_mem_nil,or_false]at hy;simp only[plB,inB,qba,decide_eq_true_eq]
 rcases hy with rfl|rfl|rfl|rfl|rfl|rfl|rfl|rfl<;>(simp only;omega)
theorem max3 (x y z:Int):∃m,m=max (max x y) z∧∀ts t W,(Builtin.max_ ts t #[.int .i64 x,.int .i64 y,.int .i64 z]).run Tryz.prog W=.ok (.int .i64 m) W:=by
 refine⟨_,rfl,fun ts t W=>?_⟩
 rw[run_max_int3]
 congr 2
 repeat' split
 all_goals omega
theorem min3 (x y z:Int):∃m,m=min (min x y) z∧∀ts t W,(Builtin.min_ ts t #[.int .i64 x,.int .i64 y,.int .i64 z]).run Tryz.prog W=.ok (.int .i64 m) W:=by
 refine⟨_,rfl,fun ts t W=>?_⟩
 rw[run_min_int3]
 congr 2
 repeat' split
 all_goals omega
theorem srt_len (l:List Pt):(srt l).length=l.length:=List.length_mergeSort l
theorem kno {l:List Pt}{y:Pt}(h:y∈kdv l):y∈l:=by
 unfold kdv at h
 split at h
 ·exact srt_mem (cpt_mem h)
 ·rcases List.mem_append.1 h with h|h
  ·exact srt_mem (cpt_mem ((kax _).1 y (List.dropLast_subset _ h)))
  ·exact srt_mem (cpt_mem (List.mem_reverse.1 ((kax _).1 y (List.dropLast_subset _ h))))
theorem knp (l:List Pt):(kdv l).length≤2*l.length:=by
 have h1:=cpt_len (srt l);have h2:=srt_len l;unfold kdv
 split
 ·omega
 ·have a1:=(kax (cpt (srt l))).2.1
  have a2:=(kax (cpt (srt l)).reverse).2.1;rw[List.length_reverse]at a2;rw[List.length_append,List.length_dropLast,List.length_dropLast]
  omega
theorem hullL_ne {l:List Pt}(h:l≠[]):kdv l≠[]:=by
 have h1:cpt (srt l)≠[]:=by
  have h0:0<(srt l).length:=by rw[srt_len];exact List.length_pos_iff.2 h
  intro e;unfold cpt Lib.compactUpTo at e;rw[List.map_eq_nil_iff,List.filter_eq_nil_iff]at e
  exact e 0 (List.mem_range.2 h0) (Lib.keeps_lt_one _ 0 (by omega))
 unfold kdv
 split
 ·exact h1
 ·have a1:=kku (l:=cpt (srt l)) (by omega)
  intro e
  have:=congrArg List.length e
  rw[List.length_append,List.length_dropLast,List.length_dropLast,List.length_nil]at this
  omega
theorem LV.other {B J:Nat}{W W':World}{v:Value}{l:List Pt}{cs:Array Value}{T:TypeId}{fr:Nat × Nat}(h:LV B W v l)(hg:W.grownBy W' v.ownBlock)(hb:W.heap[J]?=some (.cells cs T fr))(hT:T≠43):W'.heap[J]?=some (.cells cs T fr):=by
 refine(hg.block J (qaz hb).1 fun e=>?_).trans hb
 rcases h.2 with ⟨rfl,_⟩|⟨g,cap,cur,rfl,h2,h3,_⟩
 ·simp[Value.ownBlock]at e
 ·simp only[Value.ownBlock,Option.some.injEq]at e
  subst e;rw[hb]at h3;simp only[Option.some.injEq,Obj.cells.injEq]at h3
  exact hT h3.2.1
theorem knv (A:Option Addr)(c:Nat)(l:List Pt)(w:World)(hS:Sl encP 2 w A l)(hp:∀y∈l,plB y=true) :
  Calls Tryz.prog 252 #[.slice A l.length c] w fun e w'=>∃v er l8,e=.returned (.tuple #[v,.int .i64 er])∧LV w.heap.size w' v l8∧(l8=[]→v=.slice none 0 0)∧(∀y∈l8,plB y=true)∧l8.length≤16∧Ext w w':=by
 have K1:=Lib.hid (fun W (hx:Ext w W)=>khm A c l W (hS.ext hx) hp)
 cases hvb:kas l with
 | false=>
  have HB:Hid (boxV l=.tuple #[.agg #[.int .i64 0,.int .i64 0],.agg #[.int .i64 0,.int .i64 0],.int .i64 1]):=by show _=_;rw[boxV,hvb];rfl
  rw[HB.out]at K1
  go_enter Tryz.func252,Tryz.ntmps252
  go_wp2_with (go_at_call 73;refine(K1.out _ xt).mono ?_;rintro e w1 ⟨rfl,hx1⟩)
  ((try simp only[Exit.inBlock,Exit.then]);refine bodyPost_ret (by first|(simp[results,Tryz.f252,go_sem];rfl)|(simp[results,Tryz.f252,go_sem];done)|(simp[results,Tryz.f252,go_sem, *];rfl)|(simp[results,Tryz.f252,go_sem, *];done)) rfl ?_)
  exact⟨_,_,[],rfl,LV.nil _ _,fun _=>rfl,fun y hy=>by simp at hy,by simp,Ext.trans hx1 xt⟩
 | true=>
  obtain⟨i0,hi,hz0,hz1,hz2⟩:=info_parts kha
  have hv2:0<l.length∧l.length≤64:=by have:=hvb;simp only[kas,qba,decide_eq_true_eq]at this;omega
  have HB:Hid (boxV l=.tuple #[.agg #[.int .i64 (kbb l).1,.int .i64 (kbb l).2],.agg #[.int .i64 (kbc l).1,.int .i64 (kbc l).2],.int .i64 0]):=by show _=_;rw[boxV,hvb];rfl
  rw[HB.out]at K1;have HP:=Lib.hid (eightP_places l hv2.1 hp)
  have K2:=Lib.hid (fun W (hx:Ext w W)=>kly 330 eg_330 (fun x=>x.1+x.2) A c l W hv2.1 (by omega) (hS.ext hx) (fun W' x hx _=>eight1_330 x (kbn (hp x hx)) W'))
  have K3:=Lib.hid (fun W (hx:Ext w W)=>kly 331 eg_331 (fun x=>x.1-x.2) A c l W hv2.1 (by omega) (hS.ext hx) (fun W' x hx _=>eight2_331 x (kbn (hp x hx)) W'))
  have BD:(-500000≤(kbb l).1∧(kbb l).1≤500000)∧(-500000≤(kbb l).2∧(kbb l).2≤500000)∧(-500000≤(kbc l).1∧(kbc l).1≤500000)∧(-500000≤(kbc l).2∧(kbc l).2≤500000) ∧
    (-1000000≤loL (fun x=>x.1+x.2) l l.length∧loL (fun x=>x.1+x.2) l l.length≤1000000)∧(-1000000≤hiL (fun x=>x.1+x.2) l l.length∧hiL (fun x=>x.1+x.2) l l.length≤1000000) ∧
    (-1000000≤loL (fun x=>x.1-x.2) l l.length∧loL (fun x=>x.1-x.2) l l.length≤1000000)∧(-1000000≤hiL (fun x=>x.1-x.2) l l.length∧hiL (fun x=>x.1-x.2) l l.length≤1000000):=by
   have P:∀j,j<l.length→-500000≤(ptAt l j).1∧(ptAt l j).1≤500000∧-500000≤(ptAt l j).2∧(ptAt l j).2≤500000:=fun j hj=>by
    have:=hp _ (kcr hj)
    simp only[plB,inB,qba,decide_eq_true_eq]at this
    omega
   obtain⟨j1,h1,e1⟩:=kjm (fun x=>x.1) l hv2.1 l.length
   obtain⟨j2,h2,e2⟩:=kjs (fun x=>x.1) l hv2.1 l.length
   obtain⟨j3,h3,e3⟩:=kjm (fun x=>x.2) l hv2.1 l.length
   obtain⟨j4,h4,e4⟩:=kjs (fun x=>x.2) l hv2.1 l.length
   obtain⟨j5,h5,e5⟩:=kjm (fun x=>x.1+x.2) l hv2.1 l.length
   obtain⟨j6,h6,e6⟩:=kjs (fun x=>x.1+x.2) l hv2.1 l.length
   obtain⟨j7,h7,e7⟩:=kjm (fun x=>x.1-x.2) l hv2.1 l.length
   obtain⟨j8,h8,e8⟩:=kjs (fun x=>x.1-x.2) l hv2.1 l.length
   have q1:=P j1 h1;have q2:=P j2 h2;have q3:=P j3 h3;have q4:=P j4 h4;have q5:=P j5 h5;have q6:=P j6 h6;have q7:=P j7 h7;have q8:=P j8 h8;simp only[kbb,kbc]
   omega
  generalize (kbb l).1=lx at K1 HP BD;generalize (kbb l).2=ly at K1 HP BD;generalize (kbc l).1=hx at K1 HP BD;generalize (kbc l).2=hy at K1 HP BD
  generalize loL (fun x=>x.1+x.2) l l.length=a at K2 HP BD
  generalize hiL (fun x=>x.1+x.2) l l.length=b at K2 HP BD
  generalize loL (fun x=>x.1-x.2) l l.length=c1 at K3 HP BD
  generalize hiL (fun x=>x.1-x.2) l l.length=d at K3 HP BD
  generalize l.length=n at K1 K2 K3 ⊢;clear hS hp hvb hv2 HB
  go_enter Tryz.func252,Tryz.ntmps252
  go_wp2_with (go_at_call 73;refine(K1.out _ xt).mono ?_;rintro e w1 ⟨rfl,hx1⟩)
  go_at_call 148
  refine(K2.out _ (Ext.trans hx1 xt)).mono ?_
  rintro e w2 ⟨rfl,hx2⟩
  go_wp2_with fail
  go_at_call 148
  refine(K3.out _ (Ext.trans (Ext.trans hx1 (Ext.trans xt hx2)) xt)).mono ?_
  rintro e w3 ⟨rfl,hx3⟩;obtain⟨o4,o5⟩:=kbj w1 #[.int .i64 lx,.int .i64 ly] #[.int .i64 hx,.int .i64 hy] 43 43 w3 (hx2.trans hx3);obtain⟨l40,l41,_,_⟩:=kae o4;obtain⟨l50,l51,_,_⟩:=kae o5
  go_wp2_with fail
  have hE3:Hid (Ext w w3):=Ext.trans hx1 (Ext.trans xt (hx2.trans hx3))
  obtain⟨V1,hV1⟩:∃V1,w3.alloc (.cells #[.int .i64 lx,.int .i64 hx] 3)=V1:=⟨_,rfl⟩
  have hE4:Ext w3 V1:=by rw[←hV1];exact(Ext.refl w3).alloc _
  have hz1':V1.heap.size=w3.heap.size+1:=by rw[←hV1];simp
  have oI:V1.heap[w3.heap.size]?=some (.cells #[.int .i64 lx,.int .i64 hx] 3):=by rw[←hV1];exact qan w3 _
  have p4:Hid (V1.heap[w1.heap.size]?=some (.cells #[.int .i64 lx,.int .i64 ly] 43)):=(hE4.block _ (qaz o4).1).trans o4
  have p5:Hid (V1.heap[w1.heap.size+1]?=some (.cells #[.int .i64 hx,.int .i64 hy] 43)):=(hE4.block _ (qaz o5).1).trans o5
  have hEV:Hid (Ext w V1):=hE3.out.trans hE4
  have HI:=Lib.hid oI
  have z5:w1.heap.size+1<V1.heap.size:=(qaz p5.out).1
  rw[hV1]
  have hz1a:w3.heap.size<V1.heap.size:=by omega
  clear hz1' hV1 hE4 o4 o5 l40 l41 l50 l51 hx1 hx2 hx3 oI K1 K2 K3;generalize hB4:w1.heap.size=B4 at *;generalize hB6:w3.heap.size=B6 at *;clear hB4 hB6;obtain⟨⟨b1,b2⟩,⟨b3,b4⟩,⟨b5,b6⟩,⟨b7,b8⟩,⟨b9,b10⟩,⟨b11,b12⟩,⟨b13,b14⟩,⟨b15,b16⟩⟩:=BD
  go_loopg [11,13,41] 2 (fun gg s11 _ s41 wq=>∃kk:Nat,kk≤2∧2-kk≤gg∧s41=.int .i64 kk∧Hid (LV V1.heap.size wq s11 (([lx,hx].take kk).flatMap (upP ly hy a b c1 d))∧Ext V1 wq))
  case atStart=>exact⟨0,by omega,by omega,rfl,LV.nil _ _,Ext.refl _⟩
  case round=>
   obtain⟨kk,hkk,hg,rfl,hx0⟩:=hrel;have hzx:=hx0.out.2.len;obtain⟨hcx,_,_⟩:=hx0.out.2.rules
   have m40:=(hcx _ _ (by omega)).trans (kae p4.out).1
   have m41:=(hcx _ _ (by omega)).trans (kae p4.out).2.1
   have m50:=(hcx _ _ z5).trans (kae p5.out).1;have m51:=(hcx _ _ z5).trans (kae p5.out).2.1
   have i60:=(hcx _ _ (by omega)).trans (kae HI.out).1
   have i61:=(hcx _ _ (by omega)).trans (kae HI.out).2.1
   clear hcx;have HX:=Lib.hid hx0.out;clear hx0
   by_cases hlt:kk<2
   rotate_left
   ·obtain rfl:kk=2:=by omega
    obtain⟨R1,hR1⟩:∃R1,([lx,hx].take 2).flatMap (upP ly hy a b c1 d)=R1:=⟨_,rfl⟩;rw[hR1]at HX
    have HR:Hid (R1=[lx,hx].flatMap (upP ly hy a b c1 d)∧R1.length=4):=⟨by rw[←hR1];rfl,by rw[←hR1];simp[upP]⟩
    clear hR1 i60 i61
    go_wp2_with fail
    obtain⟨V2,hV2⟩:∃V2,wr.alloc (.cells #[.int .i64 ly,.int .i64 hy] 3)=V2:=⟨_,rfl⟩
    have hE5:Ext wr V2:=by rw[←hV2];exact(Ext.refl wr).alloc _
    have hz2':V2.heap.size=wr.heap.size+1:=by rw[←hV2];simp
    have oJ:V2.heap[wr.heap.size]?=some (.cells #[.int .i64 ly,.int .i64 hy] 3):=by rw[←hV2];exact qan wr _
    have HJ:=Lib.hid oJ
    have hz2a:wr.heap.size<V2.heap.size:=by omega
    have n40:=(hE5.rules.1 _ _ (by omega)).trans m40
    have n50:=(hE5.rules.1 _ _ (by omega)).trans m50
    have HX2:Hid (LV V1.heap.size V2 _ R1∧Ext V1 V2):=⟨HX.out.1.ext hE5,HX.out.2.trans hE5⟩
    rw[hV2];clear hz2' hV2 hE5 oJ m40 m41 m50 m51 HI;generalize wr.heap.size=B7 at *
    go_loopg [11,15,77] 2 (fun gg s11 _ s77 wq=>∃kk:Nat,kk≤2∧2-kk≤gg∧s77=.int .i64 kk∧Hid (LV V1.heap.size wq s11 (R1++([ly,hy].take kk).flatMap (flP lx hx a b c1 d))∧Ext V1 wq∧wq.heap[B7]?=some (.cells #[.int .i64 ly,.int .i64 hy] 3)))
    case atStart=>exact⟨0,by omega,by omega,rfl,by simpa using HX2.out.1,HX2.out.2,HJ.out⟩
    case round=>
     obtain⟨kk,hkk,hg,rfl,hx0⟩:=hrel;have hzx:=hx0.out.2.1.len;obtain⟨hcx,_,_⟩:=hx0.out.2.1.rules
     have m40:=(hcx _ _ (by omega)).trans (kae p4.out).1
     have m50:=(hcx _ _ z5).trans (kae p5.out).1;clear n40 n50 hcx;have j60:=(kae hx0.out.2.2).1;have j61:=(kae hx0.out.2.2).2.1;have HY:=Lib.hid hx0.out;clear hx0
     by_cases hlt:kk<2
     rotate_left
     ·obtain rfl:kk=2:=by omega
      have HM:Hid (eightP lx ly hx hy a b c1 d=R1++([ly,hy].take 2).flatMap (flP lx hx a b c1 d)):=by show _=_;rw[HR.out.1];rfl
      rw[HM.out]at HP
      have HN:Hid ((R1++([ly,hy].take 2).flatMap (flP lx hx a b c1 d)).length=8):=by show _=_;rw[List.length_append,HR.out.2];simp[flP]
      generalize R1++([ly,hy].take 2).flatMap (flP lx hx a b c1 d)=l8 at HP HN HY;clear HM b1 b2 b3 b4 b5 b6 b7 b8 b9 b10 b11 b12 b13 b14 b15 b16 j60 j61 m40 m50
      have hV:Hid (Ext w wr):=hEV.out.trans HY.out.2.1
      obtain⟨A8,c8,hA8,hS8⟩:=HY.out.1.reads
      have KA:=Lib.hid (around_256 A8 c8 l8 wr hS8 (by have:=HN.out;omega) (by have:=HN.out;omega) (fun y hy=>kbn (HP.out y hy)))
      have h8:=HN.out;rw[h8]at KA hA8;clear h8 hS8 hzx;subst hA8
      go_wp2_with (go_at_call 256;refine(KA.out).mono ?_;rintro e w5 ⟨g,cap,rfl,hP5,hx5⟩)
      ((try simp only[Exit.inBlock,Exit.then]);refine bodyPost_ret (by first|(simp[results,Tryz.f252,go_sem];rfl)|(simp[results,Tryz.f252,go_sem];done)|(simp[results,Tryz.f252,go_sem, *];rfl)|(simp[results,Tryz.f252,go_sem, *];done)) rfl ?_)
      exact⟨_,_,kdv l8,rfl,(LV.of_pr hP5).base (by have:=hV.out.len;omega),fun e=>absurd e (hullL_ne (by have:=HN.out;intro e;subst e;simp at this)),fun y hy=>HP.out y (kno hy),by have:=knp l8;have:=HN.out;omega,hV.out.trans hx5⟩
     have HPP:Hid (∀x,[ly,hy][kk]?=some x→([ly,hy].take (kk+1)).flatMap (flP lx hx a b c1 d)=([ly,hy].take kk).flatMap (flP lx hx a b c1 d)++flP lx hx a b c1 d x):=fun x hx'=>by
      rw[List.take_add_one,hx',List.flatMap_append];simp
     have HN:Hid ((R1++([ly,hy].take kk).flatMap (flP lx hx a b c1 d)).length≤8):=by show _≤_;rw[List.length_append,HR.out.2];have D:kk=0∨kk=1:=(by omega);rcases D with rfl|rfl<;>simp[flP]
     obtain⟨x,hxk⟩:∃x,[ly,hy][kk]?=some x:=⟨_,qgq (by simpa using hlt)⟩
     have HP2:Hid (R1++([ly,hy].take (kk+1)).flatMap (flP lx hx a b c1 d)=(R1++([ly,hy].take kk).flatMap (flP lx hx a b c1 d))++flP lx hx a b c1 d x):=by show _=_;rw[HPP.out x hxk,List.append_assoc]
     generalize hr:R1++([ly,hy].take kk).flatMap (flP lx hx a b c1 d)=rows at HY HP2 HN
     have hD:(kk=0∧x=ly)∨(kk=1∧x=hy):=by
      have D:kk=0∨kk=1:=by omega
      rcases D with rfl|rfl
      ·left;simp at hxk;exact⟨rfl,hxk.symm⟩
      ·right;simp at hxk;exact⟨rfl,hxk.symm⟩
     have bx:-500000≤x∧x≤500000:=by rcases hD with ⟨_,rfl⟩|⟨_,rfl⟩<;>omega
     have j6k:wr.cell? ⟨B7,kk,none⟩=some (.int .i64 x):=by rcases hD with ⟨rfl,rfl⟩|⟨rfl,rfl⟩<;>assumption
     clear hr hxk HPP j60 j61
     obtain⟨u1,r1,k1⟩:∃u,IntKind.i64.wrap (a-x)=u∧u=a-x:=⟨_,rfl,by rw[IntKind.wrap_i64];omega⟩
     obtain⟨u2,r2,k2⟩:∃u,IntKind.i64.wrap (x+c1)=u∧u=x+c1:=⟨_,rfl,by rw[IntKind.wrap_i64];omega⟩
     obtain⟨u3,r3,k3⟩:∃u,IntKind.i64.wrap (b-x)=u∧u=b-x:=⟨_,rfl,by rw[IntKind.wrap_i64];omega⟩
     obtain⟨u4,r4,k4⟩:∃u,IntKind.i64.wrap (x+d)=u∧u=x+d:=⟨_,rfl,by rw[IntKind.wrap_i64];omega⟩
     obtain⟨m1,hm1,M1⟩:=max3 lx u1 u2;obtain⟨m2,hm2,M2⟩:=min3 hx u3 u4
     have HU:Hid (flP lx hx a b c1 d x=[(m1,x),(m2,x)]):=by show _=_;rw[hm1,hm2,k1,k2,k3,k4];rfl
     clear b1 b2 b3 b4 b5 b6 b7 b8 b9 b10 b11 b12 b13 b14 b15 b16 k1 k2 k3 k4 bx hm1 hm2
     have hD2:kk=0∨kk=1:=by rcases hD with ⟨h,_⟩|⟨h,_⟩;exact .inl h;exact .inr h
     clear hD
     rcases hD2 with rfl|rfl
     ·go_wp2_with (at_builtin;refine kck Tryz.underlying76 hi hz0 hz1 hz2 rfl rfl _ _ rfl V1.heap.size _ rows rfl (HY.out.1.ext ((Ext.refl _).alloc _)) ?qB ⟨wr.heap.size,0,none⟩ 2 2 [(m1,x),(m2,x)] rfl rfl ?qr ?qb ?_)
      case qB=>simp only[qsa];omega
      case qr=>exact(Sl.new (enc:=encP) (k:=2) (fun _=>rfl) wr [(m1,x),(m2,x)] 43).readsP
      case qb=>have:=HN.out;simp;omega
      intro v' w4 hv4 hb4 hg4;have HG:=Lib.hid hg4;clear hg4
      go_wp2_with fail
      go_roundg 1
      case measure=>omega
      case rel=>exact⟨1,by omega,by omega,rfl,by rw[HP2.out,HU.out];exact hv4,Below.trans HY.out.2.1 (Below.trans (Below.mono ((Ext.refl _).alloc _) HY.out.2.1.size) hb4),(HY.out.1.ext ((Ext.refl _).alloc _)).other HG.out (((Ext.refl _).alloc _).block _ (qaz HY.out.2.2).1 |>.trans HY.out.2.2) (by decide)⟩
     ·go_wp2_with (at_builtin;refine kck Tryz.underlying76 hi hz0 hz1 hz2 rfl rfl _ _ rfl V1.heap.size _ rows rfl (HY.out.1.ext ((Ext.refl _).alloc _)) ?qB ⟨wr.heap.size,0,none⟩ 2 2 [(m1,x),(m2,x)] rfl rfl ?qr ?qb ?_)
      case qB=>simp only[qsa];omega
      case qr=>exact(Sl.new (enc:=encP) (k:=2) (fun _=>rfl) wr [(m1,x),(m2,x)] 43).readsP
      case qb=>have:=HN.out;simp;omega
      intro v' w4 hv4 hb4 hg4;have HG:=Lib.hid hg4;clear hg4
      go_wp2_with fail
      go_roundg 0
      case measure=>omega
      case rel=>exact⟨2,by omega,by omega,rfl,by rw[HP2.out,HU.out];exact hv4,Below.trans HY.out.2.1 (Below.trans (Below.mono ((Ext.refl _).alloc _) HY.out.2.1.size) hb4),(HY.out.1.ext ((Ext.refl _).alloc _)).other HG.out (((Ext.refl _).alloc _).block _ (qaz HY.out.2.2).1 |>.trans HY.out.2.2) (by decide)⟩
   have HPP:Hid (∀x,[lx,hx][kk]?=some x→([lx,hx].take (kk+1)).flatMap (upP ly hy a b c1 d)=([lx,hx].take kk).flatMap (upP ly hy a b c1 d)++upP ly hy a b c1 d x):=fun x hx'=>by
    rw[List.take_add_one,hx',List.flatMap_append];simp
   have HN:Hid ((([lx,hx].take kk).flatMap (upP ly hy a b c1 d)).length≤4):=by show _≤_;have D:kk=0∨kk=1:=(by omega);rcases D with rfl|rfl<;>simp[upP]
   obtain⟨x,hxk⟩:∃x,[lx,hx][kk]?=some x:=⟨_,qgq (by simpa using hlt)⟩
   have HP2:=Lib.hid (HPP.out x hxk);generalize hr:([lx,hx].take kk).flatMap (upP ly hy a b c1 d)=rows at HX HP2 HN
   have hD:(kk=0∧x=lx)∨(kk=1∧x=hx):=by
    have D:kk=0∨kk=1:=by omega
    rcases D with rfl|rfl
    ·left;simp at hxk;exact⟨rfl,hxk.symm⟩
    ·right;simp at hxk;exact⟨rfl,hxk.symm⟩
   have bx:-500000≤x∧x≤500000:=by rcases hD with ⟨_,rfl⟩|⟨_,rfl⟩<;>omega
   have i6k:wr.cell? ⟨B6,kk,none⟩=some (.int .i64 x):=by rcases hD with ⟨rfl,rfl⟩|⟨rfl,rfl⟩<;>assumption
   clear hr hxk HPP i60 i61
   obtain⟨u1,r1,k1⟩:∃u,IntKind.i64.wrap (a-x)=u∧u=a-x:=⟨_,rfl,by rw[IntKind.wrap_i64];omega⟩
   obtain⟨u2,r2,k2⟩:∃u,IntKind.i64.wrap (x-d)=u∧u=x-d:=⟨_,rfl,by rw[IntKind.wrap_i64];omega⟩
   obtain⟨u3,r3,k3⟩:∃u,IntKind.i64.wrap (b-x)=u∧u=b-x:=⟨_,rfl,by rw[IntKind.wrap_i64];omega⟩
   obtain⟨u4,r4,k4⟩:∃u,IntKind.i64.wrap (x-c1)=u∧u=x-c1:=⟨_,rfl,by rw[IntKind.wrap_i64];omega⟩
   obtain⟨m1,hm1,M1⟩:=max3 ly u1 u2;obtain⟨m2,hm2,M2⟩:=min3 hy u3 u4
   have HU:Hid (upP ly hy a b c1 d x=[(x,m1),(x,m2)]):=by show _=_;rw[hm1,hm2,k1,k2,k3,k4];rfl
   clear b1 b2 b3 b4 b5 b6 b7 b8 b9 b10 b11 b12 b13 b14 b15 b16 k1 k2 k3 k4 bx hm1 hm2
   have hD2:kk=0∨kk=1:=by rcases hD with ⟨h,_⟩|⟨h,_⟩;exact .inl h;exact .inr h
   clear hD
   rcases hD2 with rfl|rfl
   ·go_wp2_with (at_builtin;refine kck Tryz.underlying76 hi hz0 hz1 hz2 rfl rfl _ _ rfl V1.heap.size _ rows rfl (HX.out.1.ext ((Ext.refl _).alloc _)) ?qB ⟨wr.heap.size,0,none⟩ 2 2 [(x,m1),(x,m2)] rfl rfl ?qr ?qb ?_)
    case qB=>simp only[qsa];omega
    case qr=>exact(Sl.new (enc:=encP) (k:=2) (fun _=>rfl) wr [(x,m1),(x,m2)] 43).readsP
    case qb=>have:=HN.out;simp;omega
    intro v' w4 hv4 hb4 _
    go_wp2_with fail
    go_roundg 1
    case measure=>omega
    case rel=>exact⟨1,by omega,by omega,rfl,by rw[HP2.out,HU.out];exact hv4,Below.trans HX.out.2 (Below.trans (Below.mono ((Ext.refl _).alloc _) HX.out.2.size) hb4)⟩
   ·go_wp2_with (at_builtin;refine kck Tryz.underlying76 hi hz0 hz1 hz2 rfl rfl _ _ rfl V1.heap.size _ rows rfl (HX.out.1.ext ((Ext.refl _).alloc _)) ?qB ⟨wr.heap.size,0,none⟩ 2 2 [(x,m1),(x,m2)] rfl rfl ?qr ?qb ?_)
    case qB=>simp only[qsa];omega
    case qr=>exact(Sl.new (enc:=encP) (k:=2) (fun _=>rfl) wr [(x,m1),(x,m2)] 43).readsP
    case qb=>have:=HN.out;simp;omega
    intro v' w4 hv4 hb4 _
    go_wp2_with fail
    go_roundg 0
    case measure=>omega
    case rel=>exact⟨2,by omega,by omega,rfl,by rw[HP2.out,HU.out];exact hv4,Below.trans HX.out.2 (Below.trans (Below.mono ((Ext.refl _).alloc _) HX.out.2.size) hb4)⟩
theorem cmpP_less {a b:Pt}(h:lessB a b=true):cmpP a b<0:=by
 simp only[lessB,Bool.or_eq_true,qba,decide_eq_true_eq]at h;simp only[cmpP,orI,cmpI]
 repeat' split
 all_goals omega
theorem kky {l:List Pt}(h:kaq l=true):kas l=true∧(∀x∈l,plB x=true)∧1≤l.length∧l.length≤64:=by
 simp only[kaq,qba,decide_eq_true_eq]at h;obtain⟨⟨⟨⟨h1,h2⟩,hp⟩,hf⟩,hs⟩:=h
 have hp':∀x∈l,plB x=true:=List.all_eq_true.1 hp
 refine⟨?_,hp',h1,h2⟩
 have hm:∀i,i<l.length→Mid (ptAt l i):=fun i hi=>kbn (hp' _ (kcr hi))
 simp only[kas,qba,decide_eq_true_eq]
 refine⟨⟨⟨h1,h2⟩,?_⟩,?_⟩
 ·refine kap fun j hj=>?_
  have:=List.all_eq_true.1 hf j (List.mem_range.2 hj)
  rw[Bool.or_eq_true]at this ⊢
  rcases this with h|h
  ·exact .inl h
  ·exact .inr (decide_eq_true (cmpP_less h))
 ·rw[Bool.or_eq_true]at hs ⊢
  rcases hs with hs|hs
  ·exact .inl (decide_eq_true (by have:=of_decide_eq_true hs;omega))
  ·refine .inr (kap fun i hi=>?_)
   have hi':=List.all_eq_true.1 hs i (List.mem_range.2 hi);unfold kko;rw[List.all_eq_true];intro x hx;obtain⟨k,hk,rfl⟩:=List.getElem_of_mem hx;have hkk:=List.all_eq_true.1 hi' k (List.mem_range.2 hk)
   have e:l[k]=ptAt l k:=(kbm (qgq hk)).symm
   rw[e];unfold kcq at hkk;simp only[Bool.or_eq_true,decide_eq_true_eq]at hkk ⊢;simp only[kbr]
   rcases hkk with (h|h)|h
   ·exact .inl (.inl (by rw[h]))
   ·exact .inl (.inr (by rw[h]))
   ·exact .inr (by rw[turnW_eq (hm _ hi) (hm _ (Nat.mod_lt _ (by omega))) (hm _ hk)];exact h)
theorem box_places {l:List Pt}(h0:0<l.length)(hp:∀y∈l,plB y=true):plB (kbb l)=true∧plB (kbc l)=true∧(kbb l).1≤(kbc l).1∧(kbb l).2≤(kbc l).2:=by
 obtain⟨j1,a1,b1⟩:=kjm (fun x=>x.1) l h0 l.length
 obtain⟨j2,a2,b2⟩:=kjm (fun x=>x.2) l h0 l.length
 obtain⟨j3,a3,b3⟩:=kjs (fun x=>x.1) l h0 l.length
 obtain⟨j4,a4,b4⟩:=kjs (fun x=>x.2) l h0 l.length
 have c1:=hp _ (kcr a1);have c2:=hp _ (kcr a2);have c3:=hp _ (kcr a3);have c4:=hp _ (kcr a4)
 have d1:=kld (fun x=>x.1) l l.length 0 h0 h0
 have d2:=kld (fun x=>x.2) l l.length 0 h0 h0
 have d3:=klg (fun x=>x.1) l l.length 0 h0 h0
 have d4:=klg (fun x=>x.2) l l.length 0 h0 h0
 simp only[plB,inB,qba,decide_eq_true_eq]at c1 c2 c3 c4
 have e1:(kbb l).1=loL (fun x=>x.1) l l.length:=rfl
 have e2:(kbb l).2=loL (fun x=>x.2) l l.length:=rfl
 have e3:(kbc l).1=hiL (fun x=>x.1) l l.length:=rfl
 have e4:(kbc l).2=hiL (fun x=>x.2) l l.length:=rfl
 simp only[plB,inB,qba,decide_eq_true_eq];rw[e1,e2,e3,e4];rw[b1,b3]at *;rw[b2,b4]at *
 omega
def rLo (r:List (List Pt)):Nat→Pt
 | 0=>kbb (r[0]?.getD [])
 | k+1=>(min (rLo r k).1 (kbb (r[k]?.getD [])).1,min (rLo r k).2 (kbb (r[k]?.getD [])).2)
def rHi (r:List (List Pt)):Nat→Pt
 | 0=>kbc (r[0]?.getD [])
 | k+1=>(max (rHi r k).1 (kbc (r[k]?.getD [])).1,max (rHi r k).2 (kbc (r[k]?.getD [])).2)
theorem kmx {r:List (List Pt)}(h0:0<r.length)(hp:∀l∈r,0<l.length∧∀y∈l,plB y=true):∀k,k≤r.length→plB (rLo r k)=true∧plB (rHi r k)=true∧(rLo r k).1≤(rHi r k).1∧(rLo r k).2≤(rHi r k).2:=by
 have hb:∀k,k<r.length→plB (kbb (r[k]?.getD []))=true∧plB (kbc (r[k]?.getD []))=true∧(kbb (r[k]?.getD [])).1≤(kbc (r[k]?.getD [])).1∧(kbb (r[k]?.getD [])).2≤(kbc (r[k]?.getD [])).2:=fun k hk=>by
  rw[qgq hk]
  exact box_places (hp _ (List.getElem_mem hk)).1 (hp _ (List.getElem_mem hk)).2
 intro k
 induction k with
 | zero=>intro _;exact hb 0 h0
 | succ k ih=>
  intro hk
  have h1:=ih (by omega)
  have h2:=hb k (by omega)
  have e1:(rLo r (k+1)).1=min (rLo r k).1 (kbb (r[k]?.getD [])).1:=rfl
  have e2:(rLo r (k+1)).2=min (rLo r k).2 (kbb (r[k]?.getD [])).2:=rfl
  have e3:(rHi r (k+1)).1=max (rHi r k).1 (kbc (r[k]?.getD [])).1:=rfl
  have e4:(rHi r (k+1)).2=max (rHi r k).2 (kbc (r[k]?.getD [])).2:=rfl
  simp only[plB,inB,qba,decide_eq_true_eq]at h1 h2
  have f1:-500000≤(rLo r (k+1)).1∧(rLo r (k+1)).1≤500000∧-500000≤(rLo r (k+1)).2∧(rLo r (k+1)).2≤500000:=by omega
  have f2:-500000≤(rHi r (k+1)).1∧(rHi r (k+1)).1≤500000∧-500000≤(rHi r (k+1)).2∧(rHi r (k+1)).2≤500000:=by omega
  have f3:(rLo r (k+1)).1≤(rHi r (k+1)).1∧(rLo r (k+1)).2≤(rHi r (k+1)).2:=by omega
  simp only[plB,inB,qba,decide_eq_true_eq]
  exact⟨⟨⟨f1.1,f1.2.1⟩,f1.2.2.1,f1.2.2.2⟩,⟨⟨f2.1,f2.2.1⟩,f2.2.2.1,f2.2.2.2⟩,f3⟩
theorem klx {t:ChartT}(hok:kao t=true)(a b:Pt):(kig t a b).length≤4000:=by
 obtain⟨⟨d1,d2,d3,d4,_,_⟩,_⟩:=kgj hok
 have hwh:t.w*t.h=t.cells.length∧t.cells.length≤4000:=by
  simp only[kao,kcp,qba,decide_eq_true_eq]at hok
  omega
 unfold kig;rw[recL_len];generalize hny:(min (t.h-1) (colI t.y t.size b.2)+1-max 0 (colI t.y t.size a.2)).toNat=ny;generalize hnx:(min (t.w-1) (colI t.x t.size b.1)+1-max 0 (colI t.x t.size a.1)).toNat=nx
 have h1:ny≤t.h.toNat:=by omega
 have h2:nx≤t.w.toNat:=by omega
 have h3:ny*nx≤t.h.toNat*t.w.toNat:=Nat.mul_le_mul h1 h2
 have h4:((t.h.toNat*t.w.toNat:Nat):Int)=t.cells.length:=by
  rw[Int.natCast_mul,Int.toNat_of_nonneg (by omega),Int.toNat_of_nonneg (by omega),Int.mul_comm]
  exact hwh.1
 omega
set_option maxHeartbeats 8000000
def kla (ls:List (List Pt))(k:Nat):List (List Pt):=((List.range k).filter fun i=>!kka ls i).map fun i=>ls[i]?.getD []
def kfz (ls:List (List Pt)):List (List Pt):=kla ls ls.length
theorem tidyUp_succ (ls:List (List Pt))(k:Nat):kla ls (k+1)=kla ls k++if kka ls k then [] else [ls[k]?.getD []]:=by
 unfold kla;rw[List.range_succ,List.filter_append,List.map_append]
 cases h:kka ls k<;>simp[h]
theorem kpk (ls:List (List Pt))(k:Nat):(kla ls k).length≤k:=by
 unfold kla;rw[List.length_map]
 exact Nat.le_trans (List.length_filter_le _ _) (by simp)
theorem LG.beside {α β : Type}{enc:α→List Value}{enc':β→List Value}{T T' k k' B B':Nat}{W W':World}{v v':Value}{l:List α}{l':List β}(h:LG enc T k B W v l)(h':LG enc' T' k' B' W v' l')(hT:T≠T')(hg:W.grownBy W' v'.ownBlock):LG enc T k B W' v l:=by
 refine⟨h.1,?_⟩
 rcases h.2 with h2|⟨g,cap,cur,h1,h2,h3,h4⟩
 ·exact .inl h2
 ·exact .inr ⟨g,cap,cur,h1,h2,h'.other hg h3 hT,h4⟩
def Made (B:Nat)(W:World)(ro:List PV):Prop:=∀v∈ro,LG encP 43 2 B W (.slice v.A v.l.length v.c) v.l
theorem Made.each {B:Nat}{W:World}{ro:List PV}(h:Made B W ro):∀v∈ro,Sl encP 2 W v.A v.l:=fun v hv=>by
 obtain⟨A,c,e,hS,_⟩:=(h v hv).reads (fun _=>rfl)
 cases e
 exact hS
theorem tidied_147 (T c:Nat)(A:Option Addr)(r:List PV)(w:World)(R:Rg w A r)(hr:r.length≤32)(hV:AllV r)(hT:w.heap[T]?=some (.cells #[.slice A r.length c] 197)) :
  Calls Tryz.prog 147 #[.pointer (some ⟨T,0,none⟩)] w fun e w'=>∃A' c' ro,e=.returned (.slice A' ro.length c')∧Rg w' A' ro∧ro.map (·.l)=kfz (r.map (·.l))∧Ext w w':=by
 have LM:Hid ((r.map (·.l)).length=r.length):=List.length_map ..
 have KC:=Lib.hid (fun i (hi:i<r.length) W (hx:Ext w W)=>covered_251 T c i A r W (R.ext hx) (by omega) hV hi (kaf hx hT))
 have KL:=Lib.hid (fun v (hv:v∈r) W (hx:Ext w W)=>khf v.A v.c v.l W ((R.each v hv).ext hx) (by have:=kem (hV v hv).1;omega) (by have:=kem (hV v hv).1;omega))
 have CT:w.cell? ⟨T,0,none⟩=some (.slice A r.length c):=by simp[World.cell?,hT]
 have hTl:T<w.heap.size:=(qaz hT).1
 have RR:=Lib.hid R;clear hT hV R
 go_enter Tryz.func147,Tryz.ntmps147
 go_wp2_with fail
 clear CT
 go_loopg [3,4,5,18] r.length (fun gg s3 _ _ s18 wr=>∃kk:Nat,kk≤r.length∧r.length-kk≤gg∧s18=.int .i64 kk∧Hid (∃ro:List PV,LR w.heap.size wr s3 ro∧Made w.heap.size wr ro∧ro.map (·.l)=kla (r.map (·.l)) kk∧Ext w wr))
 case atStart=>exact⟨0,Nat.zero_le _,by omega,rfl,[],LG.nil _ _ _ _ _,fun v hv=>by simp at hv,rfl,Ext.refl _⟩
 case round=>
  obtain⟨kk,hkk,hg,rfl,HI⟩:=hrel;obtain⟨ro,hL,hM,hE,hx⟩:=HI.out
  have hlen:ro.length≤kk:=by have:=congrArg List.length hE;rw[List.length_map]at this;rw[this];exact kpk _ _
  by_cases hlt:kk<r.length
  rotate_left
  ·obtain rfl:kk=r.length:=by omega
   obtain⟨A3,c3,rfl,hS3,_⟩:=hL.reads (fun _=>rfl)
   have hz:(ro.length:Int)≤32:=by omega
   have hltz:¬ (r.length:Int)<(r.length:Int):=by omega
   have EE:=Lib.hid (And.intro hE (And.intro hM hx));clear hE hM hx HI hL
   go_wp2_with fail
   go_ret
   refine⟨A3,c3,ro,rfl,⟨hS3,EE.out.2.1.each⟩,?_,EE.out.2.2⟩
   unfold kfz;rw[LM.out]
   exact EE.out.1
  obtain⟨b,off,rfl⟩:=RR.out.sl.addr (by omega)
  have hb:=RR.out.sl.blk (by omega)
  obtain⟨v,hv⟩:∃x,r[kk]?=some x:=⟨_,qgq hlt⟩
  have hltz:(kk:Int)<(r.length:Int):=by omega
  have q2:wr.cell? ⟨b,off+kk,none⟩=some (.slice v.A v.l.length v.c):=by have:=(RR.out.sl.ext hx).at_ hv (i:=0) rfl;simpa using this
  have z2:b<wr.heap.size:=Nat.lt_of_lt_of_le hb hx.len
  have K1:=Lib.hid (KC.out kk hlt);have K2:=Lib.hid (KL.out v (qmq hv));have HS:=Lib.hid (tidyUp_succ (r.map (·.l)) kk);have ML:=map_at hv;rw[ML]at HS;clear hv ML;obtain⟨vA,vc,vl⟩:=v
  simp only at *
  generalize kka (r.map (·.l)) kk=q at K1 HS;have II:=Lib.hid (And.intro hL (And.intro hM (And.intro hE hx)));clear hL hM hE hx HI
  cases q with
  | true=>
   go_wp2_with (go_at_call 251;refine(K1.out _ II.out.2.2.2).mono ?_;rintro e w1 ⟨rfl,hx1⟩)
   go_roundg (r.length-(kk+1))
   case measure=>omega
   case rel=>exact⟨kk+1,by omega,by omega,by go_num,ro,II.out.1.ext hx1,fun v hv=>(II.out.2.1 v hv).ext hx1,by rw[HS.out,II.out.2.2.1];simp,II.out.2.2.2.trans hx1⟩
  | false=>
   go_wp2_with (first
    | (go_at_call 251;refine(K1.out _ II.out.2.2.2).mono ?_;rintro e w1 ⟨rfl,hx1⟩)
    | (go_at_call 156;refine(K2.out _ (II.out.2.2.2.trans hx1)).mono ?_;rintro e w2 ⟨g,cap,rfl,hP,hx2⟩)
    | (at_builtin;refine kia appsR rfl _ _ rfl w.heap.size _ ro rfl (((II.out.1.ext hx1).ext hx2).ext ((Ext.refl _).alloc _)) ?qB ⟨w2.heap.size,0,none⟩ 1 1 [⟨some ⟨g,0,none⟩,cap,vl⟩] rfl rfl (tmpOne w2 _ 76) ?qb ?_))
   case qB=>have h1:=(II.out.2.2.2.trans (hx1.trans hx2)).len;simp only[qsa];omega
   case qb=>omega
   intro v' w3 hv3 hb3 hg3 _
   have hxa:Ext wr (w2.alloc (.cells #[.slice (some ⟨g,0,none⟩) vl.length cap] 76)):=(hx1.trans hx2).trans ((Ext.refl _).alloc _)
   have hL2:=II.out.1.ext hxa
   have HH:Hid (Made w.heap.size w3 (ro++[⟨some ⟨g,0,none⟩,cap,vl⟩])∧Ext w w3):=by
    refine⟨fun v hv=>?_,Below.trans (II.out.2.2.2.trans hxa) hb3⟩
    rw[List.mem_append,List.mem_singleton]at hv
    rcases hv with hv|rfl
    ·exact((II.out.2.1 v hv).ext hxa).beside hL2 (by decide) hg3
    ·have h1:LG encP 43 2 w1.heap.size w2 (.slice (some ⟨g,0,none⟩) vl.length cap) vl:=LV.of_pr hP
     exact((h1.base (II.out.2.2.2.trans hx1).len).ext ((Ext.refl _).alloc _)).beside hL2 (by decide) hg3
   have HV3:=Lib.hid hv3;clear hL2 hxa hb3 hg3 hv3 hP hx1 hx2
   go_wp2_with fail
   go_roundg (r.length-(kk+1))
   case measure=>omega
   case rel=>exact⟨kk+1,by omega,by omega,by go_num,_,HV3.out,HH.out.1,by rw[HS.out,←II.out.2.2.1];simp,HH.out.2⟩
theorem tidy_71 (c:Nat)(A:Option Addr)(r:List PV)(w:World)(R:Rg w A r)(hr:r.length≤32)(hV:AllV r) :
  Calls Tryz.prog 71 #[.slice A r.length c] w fun e w'=>∃A' c' ro,e=.returned (.slice A' ro.length c')∧Rg w' A' ro∧ro.map (·.l)=kfz (r.map (·.l))∧Ext w w':=by
 have K:=Lib.hid (fun W T (hx:Ext w W) hT=>tidied_147 T c A r W (R.ext hx) hr hV hT)
 generalize kfz (r.map (·.l))=tl at K ⊢;generalize r.length=n at K ⊢;clear R hr hV
 go_enter Tryz.func71,Tryz.ntmps71
 go_wp2_with fail
 go_at_call 147
 refine(K.out _ w.heap.size xt ?hT).mono ?_
 case hT=>exact qan w _
 rintro e w1 ⟨A',c',ro,rfl,hR,he,hx⟩
 go_wp2_with fail
 go_ret
 refine⟨A',c',ro,rfl,hR,he,?_⟩
 refine Ext.trans ?_ hx
 exact xt
theorem tidy_31 (c:Nat)(A:Option Addr)(r:List PV)(w:World)(R:Rg w A r)(hr:r.length≤32)(hV:AllV r) :
  Calls Tryz.prog 31 #[.slice A r.length c] w fun e w'=>∃A' c' ro,e=.returned (.tuple #[.slice A' ro.length c',.int .i64 0])∧Rg w' A' ro∧ro.map (·.l)=kfz (r.map (·.l))∧Ext w w':=by
 have K1:=Lib.hid (fun W (hx:Ext w W)=>invalid_70 A c r W (R.ext hx) (by omega) hV)
 have K:=Lib.hid (fun W (hx:Ext w W)=>tidy_71 c A r W (R.ext hx) hr hV)
 generalize kfz (r.map (·.l))=tl at K ⊢;generalize r.length=n at K K1 hr ⊢;clear R hV
 have hz:¬ (4000<(n:Int)):=by omega
 go_enter Tryz.func31,Tryz.ntmps31
 go_wp2_with (first
  | (go_at_call 70;refine(K1.out _ xt).mono ?_;rintro e w1 ⟨rfl,hx1⟩)
  | (go_at_call 71;refine(K.out _ xt).mono ?_;rintro e w2 ⟨A',c',ro,rfl,hR,he,hx2⟩))
 ((try simp only[Exit.inBlock,Exit.then]);refine bodyPost_ret (by first|(simp[results,Tryz.f31,go_sem];rfl)|(simp[results,Tryz.f31,go_sem];done)|(simp[results,Tryz.f31,go_sem, *];rfl)|(simp[results,Tryz.f31,go_sem, *];done)) rfl ?_)
 exact⟨A',c',ro,rfl,hR,he,xt⟩
end Go.Proofs.YtcgghcicnanliaaGreatDoor
