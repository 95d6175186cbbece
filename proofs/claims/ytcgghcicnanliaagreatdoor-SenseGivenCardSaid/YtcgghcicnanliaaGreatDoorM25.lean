/- Walks. Conditions: as each statement says. -/
import Derived.Test.YtcgghcicnanliaaGreatDoorM24
import Derived.Test.YtcgghcicnanliaaGreatDoorM16
set_option linter.unusedVariables false
set_option linter.unusedSimpArgs false
namespace Go.Proofs.YtcgghcicnanliaaGreatDoor
open Go.RowKit Go.Lib
set_option maxHeartbeats 8000000
set_option maxRecDepth 100000
theorem refLines_104 (A:Option Addr)(c:Nat)(l:List LineT)(w:World)(hS:Sl kbp 2 w A l)(hP:∀x∈l,Sl encP 2 w x.A x.pts) :
  Calls Tryz.prog 104 #[.slice A l.length c] w fun e w'=>e=.returned (.bool (kan kbw LineT.id 50 l))∧Ext w w':=by
 by_cases h100:l.length≤50
 rotate_left
 ·have hz:(50:Int)<(l.length:Int):=by omega
  have hF:Hid (kan kbw LineT.id 50 l=false):=by
   show _=_
   unfold kan
   rw[decide_eq_false (by omega),Bool.and_false]
  go_enter Tryz.func104,Tryz.ntmps104
  go_wp2
  go_ret
  exact⟨retb hF.out.symm,xt⟩
 have hz:¬ (50:Int)<(l.length:Int):=by omega
 have HP:=Lib.hid hP;clear hP
 go_enter Tryz.func104,Tryz.ntmps104
 go_wp2
 go_loopg [3,4] l.length (fun gg s3 _ wr=>∃kk:Nat,kk≤l.length∧l.length-kk≤gg∧s3=.int .i64 kk∧Hid (Ext w wr)∧Hid (∀j,j<kk→kci kbw LineT.id l j=true))
 case atStart=>exact⟨0,Nat.zero_le _,by omega,rfl,Ext.refl w,fun j hj=>absurd hj (Nat.not_lt_zero _)⟩
 case round=>
  obtain⟨kk,hkk,hg,rfl,hx,H⟩:=hrel
  have hxw:Ext w wr:=hx.out
  by_cases hlt:kk<l.length
  ·obtain⟨b,off,rfl⟩:=hS.addr (by omega)
   have hb:=hS.blk (by omega)
   have hbw:b<wr.heap.size:=by have:=hxw.len;omega
   obtain⟨y,hy⟩:∃y,l[kk]?=some y:=⟨_,qgq hlt⟩;have hat:=Lib.hid (namedAt_eq (right:=kbw) (id:=LineT.id) hy);have K1:=Lib.hid (path_168 y wr ((HP.out y (qmq hy)).ext hxw));obtain⟨i1,iA,ic,ipts⟩:=y;generalize kbw ⟨i1,iA,ic,ipts⟩=q1 at K1 hat
   have CC:∀W,Ext w W→W.cell? ⟨b,off+kk*2,none⟩=some (.int .i64 i1)∧W.cell? ⟨b,off+kk*2+1,none⟩=some (.slice iA ipts.length ic):=fun W hW=>
    ⟨by have:=(hS.ext hW).at_ hy (i:=0) rfl;simpa using this,by have:=(hS.ext hW).at_ hy (i:=1) rfl;simpa using this⟩
   obtain⟨c0,c1⟩:=CC wr hxw;have CH:=Lib.hid CC;simp only[kbp]at K1;clear CC hy
   have hltz:(kk:Int)<(l.length:Int):=by omega
   cases q1 with
   | true=>
    go_wp2_with (go_at_call 168;refine K1.out.mono ?_;rintro e w1 ⟨rfl,hb1⟩)
    have hE1:Hid (Ext w w1):=xt
    clear c0 c1
    go_loopg [4] kk (fun gg s4 wr=>∃m:Nat,m≤kk∧kk-m≤gg∧s4=.int .i64 m∧Hid (Ext w wr)∧Hid (∀j z,j<m→l[j]?=some z→decide (z.id=i1)=false))
    case atStart=>exact⟨0,Nat.zero_le _,by omega,rfl,hE1,fun j z hj=>absurd hj (Nat.not_lt_zero _)⟩
    case round=>
     obtain⟨m,hm,hg2,rfl,hx2',H2⟩:=hrel
     have hxq:Ext w wr:=hx2'.out
     obtain⟨d0,d1⟩:=CH.out _ hxq
     have hbq:b<wr.heap.size:=by have:=hxq.len;omega
     by_cases hmk:m<kk
     ·obtain⟨z,hz'⟩:∃z,l[m]?=some z:=⟨_,qgq (by omega)⟩
      have Z:=Lib.hid hz';obtain⟨z1,z2,z3,z4⟩:=z
      have e0:wr.cell? ⟨b,off+m*2,none⟩=some (.int .i64 z1):=by have:=(hS.ext hxq).at_ hz' (i:=0) rfl;simpa using this
      have hmz:(m:Int)<(l.length:Int):=by omega
      have hmkz:(m:Int)<(kk:Int):=by omega
      clear hz'
      by_cases heq:z1=i1
      ·have hF:Hid (kan kbw LineT.id 50 l=false):=by
        show _=_
        unfold kan
        rw[kam hlt (by rw[hat.out,kiy hmk Z.out (by simpa using heq)];rfl)];rfl
       subst heq
       go_wp2_with fail
       (refine kad (by kernel_rfl) (by kernel_rfl) ?_;(repeat (first|go_big_quiet_step (fail)|quiet_step (fail)));refine wpQuiet_nil ?_;rintro _ ⟨xq,rfl⟩;have hx2:=xq.ext;generalize xq.world=w2 at hx2 ⊢)
       go_wp2
       go_ret
       exact⟨retb hF.out.symm,hxq.trans hx2⟩
      ·have heb:(z1 == i1)=false:=by simpa using heq
       go_wp2_with fail
       (refine kad (by kernel_rfl) (by kernel_rfl) ?_;(repeat (first|go_big_quiet_step (fail)|quiet_step (fail)));refine wpQuiet_nil ?_;rintro _ ⟨xq,rfl⟩;have hx2:=xq.ext;generalize xq.world=w2 at hx2 ⊢)
       go_wp2
       go_roundg (kk-(m+1))
       case measure=>omega
       case rel=>
        refine⟨m+1,by omega,by omega,by go_num,hxq.trans hx2,fun j z hj hjz=>?_⟩
        by_cases e:j=m
        ·subst e
         have:=Z.out.symm.trans hjz
         cases this
         simpa using heq
        ·exact H2.out j z (by omega) hjz
     ·have hmkz:¬ (m:Int)<(kk:Int):=by omega
      go_wp2
      go_roundg (l.length-(kk+1))
      case measure=>omega
      case rel=>
       refine⟨kk+1,by omega,by omega,by go_num,hxq,fun (j:Nat) (hj:j<kk+1)=>?_⟩
       by_cases ej:j=kk
       ·subst ej
        rw[hat.out,khw (fun j z hj hz=>H2.out j z (by omega) hz)];rfl
       ·exact H.out j (by omega)
   | false=>
    have hF:Hid (kan kbw LineT.id 50 l=false):=by
     show _=_
     unfold kan
     rw[kam hlt (by rw[hat.out];rfl)];rfl
    go_wp2_with (go_at_call 168;refine K1.out.mono ?_;rintro e w1 ⟨rfl,hb1⟩)
    go_ret
    exact⟨retb hF.out.symm,xt⟩
  ·have hltz:¬ (kk:Int)<(l.length:Int):=by omega
   have hF:Hid (kan kbw LineT.id 50 l=true):=by
    show _=_
    unfold kan
    rw[kap (n:=l.length) (f:=kci kbw LineT.id l) (fun j hj=>H.out j (by omega)),decide_eq_true (by omega)];rfl
   go_wp2
   go_ret
   exact⟨retb hF.out.symm,hx.out⟩
def kev (t:ChartT):Bool:=inB t.version 1 1000000&&inB t.w 1 4000&&inB t.h 1 4000&&inB t.size 1 10000&&decide (t.w*t.h=t.cells.length)&&decide (t.w*t.h≤4000)&&plB (t.x,t.y)&&plB (t.x+t.w*t.size-1,t.y+t.h*t.size-1)
theorem frame_102 (t:ChartT)(w:World):Calls Tryz.prog 102 #[.agg t.vals.toArray] w fun e w'=>e=.returned (.bool (kev t))∧Ext w w':=by
 have K5:=Lib.hid (kji (t.x,t.y));have K6:=Lib.hid (kji (t.x+t.w*t.size-1,t.y+t.h*t.size-1))
 by_cases hq:inB t.version 1 1000000=true∧inB t.w 1 4000=true∧inB t.h 1 4000=true∧inB t.size 1 10000=true
 rotate_left
 ·have hF:Hid (kev t=false):=by
   show _=_
   rw[Bool.eq_false_iff];intro hh
   apply hq
   simp only[kev,qba]at hh
   exact⟨hh.1.1.1.1.1.1.1,hh.1.1.1.1.1.1.2,hh.1.1.1.1.1.2,hh.1.1.1.1.2⟩
  generalize hq1:inB t.version 1 1000000=q1 at hq;generalize hq2:inB t.w 1 4000=q2 at hq;generalize hq3:inB t.h 1 4000=q3 at hq;generalize hq4:inB t.size 1 10000=q4 at hq;have HQ:=Lib.hid hq;clear hq K5 K6;obtain⟨version,x,y,tw,th,size,cA,cc,cells,bA,bc,beacons,lA,lc,lines⟩:=t;simp only[ChartT.vals]at *
  go_enter Tryz.func102,Tryz.ntmps102
  go_wp2_with (first
   | (go_at_call 167;refine(klf _ _ _ _).mono ?_;rintro e w' ⟨rfl,rfl⟩;try simp only[hq1,hq2,hq3,hq4])
   | fail)
  all_goals first
   | (go_ret;exact⟨retb hF.out.symm,xt⟩)
   | (exfalso;apply HQ.out;simp_all;done)
 obtain⟨e1,e2,e3,e4⟩:=hq
 obtain⟨d1,d2⟩:1≤t.w∧t.w≤4000:=by simpa[inB]using e2
 obtain⟨d3,d4⟩:1≤t.h∧t.h≤4000:=by simpa[inB]using e3
 obtain⟨d5,d6⟩:1≤t.size∧t.size≤10000:=by simpa[inB]using e4
 have hm1:=kdg (x:=t.w) (y:=t.h) (m:=4000) (n:=4000) (by omega) (by omega) (by omega) (by omega)
 have hm2:=kdg (x:=t.w) (y:=t.size) (m:=4000) (n:=10000) (by omega) (by omega) (by omega) (by omega)
 have hm3:=kdg (x:=t.h) (y:=t.size) (m:=4000) (n:=10000) (by omega) (by omega) (by omega) (by omega)
 simp only[Int.reduceMul,Int.reduceNeg]at hm1 hm2 hm3
 have hR:Hid (kev t=(decide (t.w*t.h=t.cells.length)&&decide (t.w*t.h≤4000)&&plB (t.x,t.y)&&plB (t.x+t.w*t.size-1,t.y+t.h*t.size-1))):=by
  show _=_
  simp only[kev,e1,e2,e3,e4,Bool.true_and]
 have hq1:=e1;have hq2:=e2;have hq3:=e3;have hq4:=e4;clear e1 e2 e3 e4
 have hb:Hid (plB (t.x,t.y)=true→(-500000≤t.x∧t.x≤500000)∧-500000≤t.y∧t.y≤500000):=fun e=>by simpa[plB,inB,and_assoc]using e
 generalize plB (t.x,t.y)=q5 at K5 hR hb;generalize plB (t.x+t.w*t.size-1,t.y+t.h*t.size-1)=q6 at K6 hR
 by_cases hq:(t.w*t.h=t.cells.length∧t.w*t.h≤4000)∧q5=true
 rotate_left
 ·have hF:Hid (kev t=false):=by
   show _=_
   rw[hR.out,Bool.eq_false_iff];intro hh
   apply hq
   simp only[qba,decide_eq_true_eq]at hh
   exact⟨hh.1.1,hh.1.2⟩
  have HQ:=Lib.hid hq;clear hq hR hb K6;obtain⟨version,x,y,tw,th,size,cA,cc,cells,bA,bc,beacons,lA,lc,lines⟩:=t;simp only[ChartT.vals]at *
  go_enter Tryz.func102,Tryz.ntmps102
  go_wp2_with (first
   | (go_at_call 167;refine(klf _ _ _ _).mono ?_;rintro e w' ⟨rfl,rfl⟩;try simp only[hq1,hq2,hq3,hq4])
   | (go_at_call 26;refine(K5.out _).mono ?_;rintro e w1 ⟨rfl,hb1⟩))
  all_goals first
   | (go_ret;exact⟨retb hF.out.symm,xt⟩)
   | (exfalso;apply HQ.out;refine⟨⟨by simp_all,by omega⟩,by simp_all⟩;done)
 obtain⟨⟨hwh,hwh4⟩,rfl⟩:=hq
 have hR2:Hid (kev t=q6):=by show _=_;rw[hR.out,decide_eq_true hwh,decide_eq_true hwh4];rfl
 obtain⟨⟨b1,b2⟩,b3,b4⟩:=hb.out rfl;clear hR hb
 have hne:((t.w*t.h:Int) != (t.cells.length:Int))=false:=by simp[hwh]
 obtain⟨version,x,y,tw,th,size,cA,cc,cells,bA,bc,beacons,lA,lc,lines⟩:=t;simp only[ChartT.vals]at *
 have hwz:¬ (4000:Int)<tw*th:=by omega
 go_enter Tryz.func102,Tryz.ntmps102
 go_wp2_with (first
  | (go_at_call 167;refine(klf _ _ _ _).mono ?_;rintro e w' ⟨rfl,rfl⟩;try simp only[hq1,hq2,hq3,hq4])
  | (go_at_call 26;refine(K5.out _).mono ?_;clear K5;rintro e w1 ⟨rfl,hb1⟩;obtain⟨hc1,hf1,hz1⟩:=hb1.rules;(try simp only[qsa]at hz1);(have hzz1:w.heap.size<w1.heap.size:=by omega))
  | (go_at_call 26;refine(K6.out _).mono ?_;rintro e w2 ⟨rfl,hb2⟩))
 all_goals (go_ret;exact⟨retb hR2.out.symm,xt⟩)
set_option maxHeartbeats 4000000
structure Rg (w:World)(A:Option Addr)(r:List PV):Prop where
 sl:Sl koy 1 w A r
 each:∀v∈r,Sl encP 2 w v.A v.l
theorem Rg.ext {w w':World}{A:Option Addr}{r:List PV}(h:Rg w A r)(hx:Ext w w'):Rg w' A r:=⟨h.sl.ext hx,fun v hv=>(h.each v hv).ext hx⟩
theorem cross_141 (a b c:Pt)(ha:Mid a)(hb:Mid b)(hc:Mid c)(w:World) :
  Calls Tryz.prog 141 #[.agg #[.int .i64 a.1,.int .i64 a.2],.agg #[.int .i64 b.1,.int .i64 b.2],.agg #[.int .i64 c.1,.int .i64 c.2]] w fun e w'=>e=.returned (.int .i64 (kcf a b c))∧Ext w w':=by
 obtain⟨a1,a2⟩:=a;obtain⟨b1,b2⟩:=b;obtain⟨c1,c2⟩:=c;simp only[Mid,kcf]at *
 have h1:=kdg (x:=b1-a1) (y:=c2-a2) (m:=2000000) (n:=2000000) (by omega) (by omega) (by omega) (by omega)
 have h2:=kdg (x:=b2-a2) (y:=c1-a1) (m:=2000000) (n:=2000000) (by omega) (by omega) (by omega) (by omega)
 simp only[Int.reduceMul,Int.reduceNeg]at h1 h2
 go_enter Tryz.func141,Tryz.ntmps141
 go_wp2
 go_ret
 exact⟨rfl,xt⟩
def lessB (a b:Pt):Bool:=decide (a.1<b.1)||(decide (a.1=b.1)&&decide (a.2<b.2))
theorem less_245 (a b:Pt)(w:World) :
  Calls Tryz.prog 245 #[.agg #[.int .i64 a.1,.int .i64 a.2],.agg #[.int .i64 b.1,.int .i64 b.2]] w fun e w'=>e=.returned (.bool (lessB a b))∧Ext w w':=by
 obtain⟨a1,a2⟩:=a;obtain⟨b1,b2⟩:=b
 have D:a1<b1∨(¬ a1<b1∧a1=b1∧a2<b2)∨(¬ a1<b1∧a1=b1∧¬ a2<b2)∨(¬ a1<b1∧¬ a1=b1):=by omega
 simp only[lessB]
 rcases D with h|⟨h1,h2,h3⟩|⟨h1,h2,h3⟩|⟨h1,h2⟩
 all_goals
  go_enter Tryz.func245,Tryz.ntmps245
  go_wp2
  all_goals (go_ret;exact⟨retb (by first|(simp_all;done)|(simp_all;omega)),xt⟩)
theorem places_244 (A:Option Addr)(c:Nat)(l:List Pt)(w:World)(hl:l.length≤1000000)(hS:Sl encP 2 w A l) :
  Calls Tryz.prog 244 #[.slice A l.length c] w fun e w'=>e=.returned (.bool (l.all plB))∧Ext w w':=by
 go_enter Tryz.func244,Tryz.ntmps244
 go_wp2
 go_loopg [3] l.length (fun gg s3 wr=>∃kk:Nat,kk≤l.length∧l.length-kk≤gg∧s3=.int .i64 kk∧Hid (Ext w wr)∧Hid (∀j x,j<kk→l[j]?=some x→plB x=true))
 case atStart=>exact⟨0,Nat.zero_le _,by omega,rfl,xt,fun j x hj=>absurd hj (Nat.not_lt_zero _)⟩
 case round=>
  obtain⟨kk,hkk,hg,rfl,hx,H⟩:=hrel
  by_cases hlt:kk<l.length
  ·obtain⟨b,off,rfl⟩:=hS.addr (by omega)
   obtain⟨y,hy⟩:∃y,l[kk]?=some y:=⟨_,qgq hlt⟩;have Y:=Lib.hid hy;have K3:=Lib.hid (kji y)
   have hltz:(kk:Int)<(l.length:Int):=by omega
   have hbw:b<wr.heap.size:=Nat.lt_of_lt_of_le (hS.blk (by omega)) hx.out.len
   generalize hp:plB y=p at K3;have HP:=Lib.hid hp;obtain⟨y1,y2⟩:=y
   have c0:wr.cell? ⟨b,off+kk*2,none⟩=some (.int .i64 y1):=by have:=(hS.ext hx.out).at_ hy (i:=0) rfl;simpa using this
   have c1:wr.cell? ⟨b,off+kk*2+1,none⟩=some (.int .i64 y2):=by have:=(hS.ext hx.out).at_ hy (i:=1) rfl;simpa using this
   clear hy hp
   cases p with
   | false=>
    have hF:Hid (l.all plB=false):=by
     show _=_
     rw[List.all_eq_false];exact⟨_,qmq Y.out,by rw[HP.out];simp⟩
    go_wp2_with (go_at_call 26;refine(K3.out _).mono ?_;rintro e w2 ⟨rfl,hx2⟩)
    go_ret
    exact⟨retb hF.out.symm,hx.out.trans hx2⟩
   | true=>
    go_wp2_with (go_at_call 26;refine(K3.out _).mono ?_;rintro e w2 ⟨rfl,hx2⟩)
    go_roundg (l.length-(kk+1))
    case measure=>omega
    case rel=>
     refine⟨kk+1,by omega,by omega,by go_num,hx.out.trans hx2,fun j x hj hjx=>?_⟩
     by_cases e:j=kk
     ·subst e
      have:=Y.out.symm.trans hjx
      cases this
      exact HP.out
     ·exact H.out j x (by omega) hjx
  ·have hltz:¬ (kk:Int)<(l.length:Int):=by omega
   have hF:Hid (l.all plB=true):=by
    show _=_
    rw[List.all_eq_true];intro x hx';obtain⟨j,hj,e⟩:=List.getElem_of_mem hx'
    exact H.out j x (by omega) (by rw[qgq hj,e])
   go_wp2
   go_ret
   exact⟨retb hF.out.symm,hx.out⟩
def kcq (l:List Pt)(i k:Nat):Bool:=decide (k=i)||decide (k=(i+1) % l.length)||decide (0<kcf (ptAt l i) (ptAt l ((i+1) % l.length)) (ptAt l k))
def kki (l:List Pt):Bool:=(List.range l.length).all fun i=>(List.range l.length).all fun k=>kcq l i k
def knr (l:List Pt):Bool:=(List.range l.length).all fun j=>decide (j=0)||lessB (ptAt l 0) (ptAt l j)
def kaq (l:List Pt):Bool:=decide (1≤l.length)&&decide (l.length≤64)&&l.all plB&&knr l&&(decide (l.length≤2)||kki l)
theorem kcr {l:List Pt}{i:Nat}(h:i<l.length):ptAt l i∈l:=by rw[kbm (qgq h)];exact List.getElem_mem h
theorem refValid_143 (A:Option Addr)(c:Nat)(l:List Pt)(w:World)(hS:Sl encP 2 w A l) :
  Calls Tryz.prog 143 #[.slice A l.length c] w fun e w'=>e=.returned (.bool (kaq l))∧Ext w w':=by
 by_cases hn:l.length<1
 ·have hF:Hid (kaq l=false):=by show _=_;unfold kaq;rw[decide_eq_false (by omega)];rfl
  go_enter Tryz.func143,Tryz.ntmps143
  go_wp2
  go_ret
  exact⟨retb hF.out.symm,xt⟩
 by_cases hn2:64<l.length
 ·have hF:Hid (kaq l=false):=by show _=_;unfold kaq;rw[decide_eq_false (show ¬ l.length≤64 by omega),Bool.and_false];rfl
  go_enter Tryz.func143,Tryz.ntmps143
  go_wp2
  go_ret
  exact⟨retb hF.out.symm,xt⟩
 have K1:=Lib.hid (places_244 A c l w (by omega) hS)
 have hR:Hid (kaq l=(l.all plB&&knr l&&(decide (l.length≤2)||kki l))):=by
  show _=_;unfold kaq;rw[decide_eq_true (show 1≤l.length by omega),decide_eq_true (show l.length≤64 by omega)];rfl
 obtain⟨b,off,rfl⟩:=hS.addr (by omega)
 have hb:=hS.blk (by omega)
 generalize hp:l.all plB=p at K1 hR
 have hnz:¬ ((l.length:Int)<1):=by omega
 have hnz2:¬ (64<(l.length:Int)):=by omega
 cases p with
 | false=>
  clear hp
  go_enter Tryz.func143,Tryz.ntmps143
  go_wp2_with (go_at_call 244;refine K1.out.mono ?_;rintro e w1 ⟨rfl,hx1⟩)
  go_ret
  exact⟨retb (by rw[hR.out];rfl),hx1⟩
 | true=>
  have HP:Hid (∀i,i<l.length→Mid (ptAt l i)):=fun i hi=>kbn (List.all_eq_true.1 hp _ (kcr hi))
  have HS:=Lib.hid (fun (W:World) (hx:Ext w W) (i:Nat) (hi:i<l.length)=>(⟨by have:=(hS.ext hx).at_ (qgq hi) (i:=0) rfl;rw[kbm (qgq hi)];simpa using this,by have:=(hS.ext hx).at_ (qgq hi) (i:=1) rfl;rw[kbm (qgq hi)];simpa using this⟩:W.cell? ⟨b,off+i*2,none⟩=some (.int .i64 (ptAt l i).1)∧W.cell? ⟨b,off+i*2+1,none⟩=some (.int .i64 (ptAt l i).2)))
  have hR2:Hid (kaq l=(knr l&&(decide (l.length≤2)||kki l))):=by show _=_;rw[hR.out];rfl
  clear hp hR hS
  go_enter Tryz.func143,Tryz.ntmps143
  go_wp2_with (go_at_call 244;refine K1.out.mono ?_;rintro e w1 ⟨rfl,hx1⟩)
  have H1:=Lib.hid hx1;clear hx1
  go_loopg [4] l.length (fun gg s4 wr=>∃kk:Nat,1≤kk∧kk≤l.length∧l.length-kk≤gg∧s4=.int .i64 kk∧Hid (Ext w wr)∧Hid (∀j,j<kk→(decide (j=0)||lessB (ptAt l 0) (ptAt l j))=true))
  case atStart=>exact⟨1,by omega,by omega,by omega,rfl,H1.out,fun j hj=>by obtain rfl:j=0:=(by omega);rfl⟩
  case round=>
   obtain⟨kk,hk1,hkk,hg,rfl,hx,H⟩:=hrel
   by_cases hlt:kk<l.length
   ·have hltz:(kk:Int)<(l.length:Int):=by omega
    have hbw:b<wr.heap.size:=Nat.lt_of_lt_of_le hb hx.out.len
    obtain⟨c0,c1⟩:=HS.out wr hx.out kk hlt
    obtain⟨g0,g1⟩:=HS.out wr hx.out 0 (by omega)
    simp only[Nat.zero_mul,Nat.add_zero]at g0 g1;have K3:=Lib.hid (less_245 (ptAt l 0) (ptAt l kk));generalize hq:lessB (ptAt l 0) (ptAt l kk)=q at K3;have HQ:=Lib.hid hq;clear hq;generalize ptAt l 0=p0 at c0 c1 g0 g1 K3;generalize ptAt l kk=pk at c0 c1 K3;obtain⟨x0,y0⟩:=p0;obtain⟨xk,yk⟩:=pk
    simp only at c0 c1 g0 g1
    cases q with
    | false=>
     have hF:Hid (kaq l=false):=by
      show _=_
      rw[hR2.out,show knr l=false from kam hlt (by rw[HQ.out,decide_eq_false (show ¬ kk=0 by omega)];rfl)];rfl
     go_wp2_with fail
     (refine kad (by kernel_rfl) (by kernel_rfl) ?_;(repeat (first|go_big_quiet_step ((go_at_call 245;exact Xt.calls (K3.out _)))|quiet_step ((go_at_call 245;exact Xt.calls (K3.out _)))));refine wpQuiet_nil ?_;rintro _ ⟨xq,rfl⟩;have hx2:=xq.ext;generalize xq.world=w2 at hx2 ⊢)
     go_wp2
     go_ret
     exact⟨retb hF.out.symm,hx.out.trans hx2⟩
    | true=>
     go_wp2_with fail
     (refine kad (by kernel_rfl) (by kernel_rfl) ?_;(repeat (first|go_big_quiet_step ((go_at_call 245;exact Xt.calls (K3.out _)))|quiet_step ((go_at_call 245;exact Xt.calls (K3.out _)))));refine wpQuiet_nil ?_;rintro _ ⟨xq,rfl⟩;have hx2:=xq.ext;generalize xq.world=w2 at hx2 ⊢)
     go_wp2
     go_roundg (l.length-(kk+1))
     case measure=>omega
     case rel=>
      refine⟨kk+1,by omega,by omega,by omega,by go_num,hx.out.trans hx2,fun j hj=>?_⟩
      by_cases e:j=kk
      ·subst e;rw[HQ.out,Bool.or_true]
      ·exact H.out j (by omega)
   ·have hltz:¬ (kk:Int)<(l.length:Int):=by omega
    have hR3:Hid (kaq l=(decide (l.length≤2)||kki l)):=by
     show _=_
     rw[hR2.out,show knr l=true from kap (fun j hj=>H.out j (by omega))];rfl
    clear H hR2 K1;have H2:=Lib.hid hx.out
    go_wp2
    go_loopg [5,6] l.length (fun gg s5 _ wq=>∃i:Nat,i≤l.length∧l.length-i≤gg∧s5=.int .i64 i∧Hid (Ext w wq)∧Hid ((2<l.length∨i=0)∧∀q,q<i→((List.range l.length).all fun k=>kcq l q k)=true))
    case atStart=>exact⟨0,by omega,by omega,rfl,H2.out,.inr rfl,fun q hq=>absurd hq (Nat.not_lt_zero _)⟩
    case round=>
     obtain⟨i,hi,hgi,rfl,hy,G⟩:=hrel;clear hx H2
     by_cases hil:i<l.length∧2<l.length
     rotate_left
     ·have hF:Hid (kaq l=true):=by
       show _=_
       rw[hR3.out]
       by_cases h2:l.length≤2
       ·rw[decide_eq_true h2];rfl
       ·obtain rfl:i=l.length:=by omega
        rw[show kki l=true from kap G.out.2,Bool.or_true]
      have D:¬ (i:Int)<(l.length:Int)∨((i:Int)<(l.length:Int)∧¬ (2<(l.length:Int))):=by omega
      rcases D with d|⟨d1,d2⟩
      all_goals
       go_wp2
       go_ret
       exact⟨retb hF.out.symm,hy.out⟩
     obtain⟨hil,h2l⟩:=hil
     have hilz:(i:Int)<(l.length:Int):=by omega
     have h2z:2<(l.length:Int):=by omega
     obtain⟨j,hjd⟩:∃j,(i+1) % l.length=j:=⟨_,rfl⟩
     have hjl:j<l.length:=by rw[←hjd];exact Nat.mod_lt _ (by omega)
     have tk:Int.tmod ((i:Int)+1) (l.length:Int)=(j:Int):=by rw[Int.tmod_eq_emod_of_nonneg (by omega),←hjd];norm_cast
     have wk:IntKind.i64.wrap ((i:Int)+1)=(i:Int)+1:=wrap_small (by omega) (by omega)
     have hnil:¬ (l=[]):=by rintro rfl;simp at hil
     have hjz:(j:Int)<(l.length:Int):=by omega
     have SD:Hid (∀k,kcq l i k=(decide (k=i)||decide (k=j)||decide (0<kcf (ptAt l i) (ptAt l j) (ptAt l k)))):=fun k=>by unfold kcq;rw[hjd]
     clear hjd
     go_wp2_with fail
     go_loopg [6] l.length (fun gg s6 wr=>∃kk:Nat,kk≤l.length∧l.length-kk≤gg∧s6=.int .i64 kk∧Hid (Ext w wr)∧Hid (∀k,k<kk→kcq l i k=true))
     case atStart=>exact⟨0,by omega,by omega,rfl,hy.out,fun k hk=>absurd hk (Nat.not_lt_zero _)⟩
     case round=>
      obtain⟨kk,hkk,hg,rfl,hx,H⟩:=hrel
      by_cases hlt:kk<l.length
      rotate_left
      ·have hltz:¬ (kk:Int)<(l.length:Int):=by omega
       obtain rfl:kk=l.length:=by omega
       go_wp2_with fail
       go_roundg (l.length-(i+1))
       case measure=>omega
       case rel=>
        refine⟨i+1,by omega,by omega,by go_num,hx.out,.inl h2l,fun q hq=>?_⟩
        by_cases e:q=i
        ·subst e;exact kap H.out
        ·exact G.out.2 q (by omega)
      have hltz:(kk:Int)<(l.length:Int):=by omega
      have hbw:b<wr.heap.size:=Nat.lt_of_lt_of_le hb hx.out.len
      obtain⟨c0,c1⟩:=HS.out wr hx.out kk hlt;obtain⟨g0,g1⟩:=HS.out wr hx.out i hil;obtain⟨e0,e1⟩:=HS.out wr hx.out j hjl;have K3:=Lib.hid (cross_141 (ptAt l i) (ptAt l j) (ptAt l kk) (HP.out i hil) (HP.out j hjl) (HP.out kk hlt));generalize ht:kcf (ptAt l i) (ptAt l j) (ptAt l kk)=t at K3;have HT:=Lib.hid ht;clear ht;generalize ptAt l i=pi at g0 g1 K3;generalize ptAt l j=pj at e0 e1 K3;generalize ptAt l kk=pk at c0 c1 K3;obtain⟨xi,yi⟩:=pi;obtain⟨xj,yj⟩:=pj;obtain⟨xk,yk⟩:=pk
      simp only at c0 c1 g0 g1 e0 e1
      have NX:Hid (kcq l i kk=true→∀k,k<kk+1→kcq l i k=true):=fun h0 k hk=>by
       by_cases e:k=kk
       ·subst e;exact h0
       ·exact H.out k (by omega)
      by_cases d1:(kk:Int)=(i:Int)
      ·have hS1:Hid (kcq l i kk=true):=by show _=_;rw[SD.out,decide_eq_true (show kk=i by omega)];rfl
       obtain rfl:kk=i:=by omega
       go_wp2_with fail
       (refine kad (by kernel_rfl) (by kernel_rfl) ?_;(repeat (first|go_big_quiet_step ((go_at_call 141;exact Xt.calls (K3.out _)))|quiet_step ((go_at_call 141;exact Xt.calls (K3.out _)))));refine wpQuiet_nil ?_;rintro _ ⟨xq,rfl⟩;have hx2:=xq.ext;generalize xq.world=w2 at hx2 ⊢)
       go_wp2_with fail
       go_roundg (l.length-(kk+1))
       case measure=>omega
       case rel=>exact⟨kk+1,by omega,by omega,by go_num,hx.out.trans hx2,NX.out hS1.out⟩
      have n1:decide ((kk:Int)=(i:Int))=false:=decide_eq_false d1
      have n2:((kk:Int) != (i:Int))=true:=by simpa using d1
      by_cases d2:(kk:Int)=(j:Int)
      ·have hS1:Hid (kcq l i kk=true):=by show _=_;rw[SD.out,decide_eq_true (show kk=j by omega),Bool.or_true];rfl
       obtain rfl:kk=j:=by omega
       go_wp2_with fail
       (refine kad (by kernel_rfl) (by kernel_rfl) ?_;(repeat (first|go_big_quiet_step ((go_at_call 141;exact Xt.calls (K3.out _)))|quiet_step ((go_at_call 141;exact Xt.calls (K3.out _)))));refine wpQuiet_nil ?_;rintro _ ⟨xq,rfl⟩;have hx2:=xq.ext;generalize xq.world=w2 at hx2 ⊢)
       go_wp2_with fail
       go_roundg (l.length-(kk+1))
       case measure=>omega
       case rel=>exact⟨kk+1,by omega,by omega,by go_num,hx.out.trans hx2,NX.out hS1.out⟩
      have n3:decide ((kk:Int)=(j:Int))=false:=decide_eq_false d2
      have n4:((kk:Int) != (j:Int))=true:=by simpa using d2
      by_cases d3:t≤0
      ·have hF:Hid (kaq l=false):=by
        show _=_
        have h1:kcq l i kk=false:=by rw[SD.out,decide_eq_false (show ¬ kk=i by omega),decide_eq_false (show ¬ kk=j by omega),HT.out,decide_eq_false (by omega)];rfl
        rw[hR3.out,decide_eq_false (show ¬ l.length≤2 by omega),show kki l=false from kam hil (kam hlt h1)];rfl
       go_wp2_with fail
       (refine kad (by kernel_rfl) (by kernel_rfl) ?_;(repeat (first|go_big_quiet_step ((go_at_call 141;exact Xt.calls (K3.out _)))|quiet_step ((go_at_call 141;exact Xt.calls (K3.out _)))));refine wpQuiet_nil ?_;rintro _ ⟨xq,rfl⟩;have hx2:=xq.ext;generalize xq.world=w2 at hx2 ⊢)
       go_wp2_with fail
       go_ret
       exact⟨retb hF.out.symm,hx.out.trans hx2⟩
      ·have hS1:Hid (kcq l i kk=true):=by show _=_;rw[SD.out,HT.out,decide_eq_true (show 0<t by omega),Bool.or_true]
       go_wp2_with fail
       (refine kad (by kernel_rfl) (by kernel_rfl) ?_;(repeat (first|go_big_quiet_step ((go_at_call 141;exact Xt.calls (K3.out _)))|quiet_step ((go_at_call 141;exact Xt.calls (K3.out _)))));refine wpQuiet_nil ?_;rintro _ ⟨xq,rfl⟩;have hx2:=xq.ext;generalize xq.world=w2 at hx2 ⊢)
       go_wp2_with fail
       go_roundg (l.length-(kk+1))
       case measure=>omega
       case rel=>exact⟨kk+1,by omega,by omega,by go_num,hx.out.trans hx2,NX.out hS1.out⟩
end Go.Proofs.YtcgghcicnanliaaGreatDoor
