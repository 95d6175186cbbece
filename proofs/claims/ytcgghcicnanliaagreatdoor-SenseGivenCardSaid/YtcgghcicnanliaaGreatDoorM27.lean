/- Walks; Walks: the references: Few, Means; the law's few and usable; Readings. Conditions: as each statement says. -/
import Derived.Test.YtcgghcicnanliaaGreatDoorM25
import Derived.Test.YtcgghcicnanliaaGreatDoorM15
set_option linter.unusedVariables false
set_option linter.unusedSimpArgs false
namespace Go.Proofs.YtcgghcicnanliaaGreatDoor
open Go.RowKit
set_option maxHeartbeats 4000000
set_option maxRecDepth 100000
theorem chart_eq (t:ChartT):kao t=(kev t&&kan kbh BeaconT.id 100 t.beacons&&kan kbw LineT.id 50 t.lines&&!(t.cells.any fun c=>!kdx c.lo c.hi c.date)):=by
 rw[Bool.eq_iff_iff];simp only[kao,kcp,kev,inB,qba,decide_eq_true_eq]
 constructor
 ·rintro⟨⟨⟨⟨⟨h1,h2⟩,h3⟩,h4⟩,h5⟩,h6⟩
  exact⟨⟨⟨⟨⟨by omega,h2⟩,h3⟩,h5⟩,h6⟩,h4⟩
 ·rintro⟨⟨⟨⟨⟨h1,h2⟩,h3⟩,h5⟩,h6⟩,h4⟩
  exact⟨⟨⟨⟨⟨by omega,h2⟩,h3⟩,h4⟩,h5⟩,h6⟩
theorem refChart_45 (t:ChartT)(w:World)(H:t.Lies w):Calls Tryz.prog 45 #[.agg t.vals.toArray] w fun e w'=>e=.returned (.bool (kao t))∧Ext w w':=by
 have K1:=Lib.hid (frame_102 t)
 have K2:=Lib.hid (fun W (hx:Ext w W)=>kov t.bA t.bc t.beacons W (H.beacons.ext hx))
 have K3:=Lib.hid (fun W (hx:Ext w W)=>refLines_104 t.lA t.lc t.lines W (H.lines.ext hx) (fun x hx'=>(H.pts x hx').ext hx))
 have hS:=H.cells;have hn:=H.nc
 have hR:Hid (kao t=(kev t&&kan kbh BeaconT.id 100 t.beacons&&kan kbw LineT.id 50 t.lines&&!(t.cells.any fun c=>!kdx c.lo c.hi c.date))):=chart_eq t
 generalize kao t=qq at hR ⊢;generalize kev t=q1 at K1 hR;generalize kan kbh BeaconT.id 100 t.beacons=q2 at K2 hR;generalize kan kbw LineT.id 50 t.lines=q3 at K3 hR;clear H;obtain⟨version,x,y,tw,th,size,cA,cc,l,bA,bc,beacons,lA,lc,lines⟩:=t;simp only[ChartT.vals]at *
 by_cases hq:q1=true∧q2=true∧q3=true
 rotate_left
 ·have hF:Hid (qq=false):=by
   show _=_
   rw[hR.out]
   cases q1<;>cases q2<;>cases q3<;>simp at hq ⊢
  cases q1<;>cases q2<;>cases q3<;>first|(simp at hq;done)|skip
  all_goals
   clear hq
   go_enter Tryz.func45,Tryz.ntmps45
   go_wp2_with (first
    | (go_at_call 102;refine(K1.out _).mono ?_;rintro e w1 ⟨rfl,hb1⟩;obtain⟨hc1,hf1,hz1⟩:=hb1.rules;(try simp only[qsa]at hz1);(have hzz1:w.heap.size<w1.heap.size:=by omega))
    | (go_at_call 103;refine(K2.out _ xt).mono ?_;rintro e w2 ⟨rfl,hb2⟩;obtain⟨hc2,hf2,hz2⟩:=hb2.rules;(have hzz2:w.heap.size<w2.heap.size:=by omega))
    | (go_at_call 104;refine(K3.out _ xt).mono ?_;rintro e w3 ⟨rfl,hb3⟩))
   go_ret
   exact⟨retb hF.out.symm,xt⟩
 obtain⟨rfl,rfl,rfl⟩:=hq
 have hR2:Hid (qq=!(l.any fun c=>!kdx c.lo c.hi c.date)):=by show _=_;rw[hR.out];simp
 clear hR
 go_enter Tryz.func45,Tryz.ntmps45
 go_wp2_with (first
  | (go_at_call 102;refine(K1.out _).mono ?_;rintro e w1 ⟨rfl,hb1⟩;obtain⟨hc1,hf1,hz1⟩:=hb1.rules;(try simp only[qsa]at hz1);(have hzz1:w.heap.size<w1.heap.size:=by omega))
  | (go_at_call 103;refine(K2.out _ xt).mono ?_;rintro e w2 ⟨rfl,hb2⟩;obtain⟨hc2,hf2,hz2⟩:=hb2.rules;(have hzz2:w.heap.size<w2.heap.size:=by omega))
  | (go_at_call 104;refine(K3.out _ xt).mono ?_;rintro e w3 ⟨rfl,hb3⟩;obtain⟨hc3,hf3,hz3⟩:=hb3.rules;(have hzz3:w.heap.size<w3.heap.size:=by omega)))
 have hE3:Ext w w3:=xt
 have h6:w3.cell? ⟨w.heap.size,6,none⟩=some (.slice cA l.length cc):=by simp[hc3,hc2,hc1,hzz1,hzz2,hzz3]
 clear hb1 hb2 hb3 hc1 hc2 hc3 hf1 hf2 hf3 K1 K2 K3 hz1 hz2 hz3 hzz1 hzz2
 go_loopg [3] l.length (fun gg s3 wr=>∃kk:Nat,kk≤l.length∧l.length-kk≤gg∧s3=.int .i64 kk∧Hid (Ext w3 wr)∧Hid (∀j x,j<kk→l[j]?=some x→kdx x.lo x.hi x.date=true))
 case atStart=>exact⟨0,Nat.zero_le _,by omega,rfl,Ext.refl w3,fun j x hj=>absurd hj (Nat.not_lt_zero _)⟩
 case round=>
  obtain⟨kk,hkk,hg,rfl,hx,HH⟩:=hrel
  have hxw:Ext w wr:=hE3.trans hx.out
  have d6:=hx.out.seen hzz3 h6
  have hzr:w.heap.size<wr.heap.size:=by have:=hx.out.len;omega
  by_cases hlt:kk<l.length
  ·obtain⟨b,off,rfl⟩:=hS.addr (by show 0<l.length;omega)
   obtain⟨y',hy⟩:∃y,l[kk]?=some y:=⟨_,qgq hlt⟩;have Y:=Lib.hid hy;have K:=Lib.hid (refCell_105 y'.lo y'.hi y'.date y'.void)
   have hltz:(kk:Int)<(l.length:Int):=by omega
   generalize hqq:kdx y'.lo y'.hi y'.date=q at K;have Q:=Lib.hid hqq;clear hqq;obtain⟨y1,y2,y3,y4⟩:=y'
   simp only at K
   have c0:wr.cell? ⟨b,off+kk*4,none⟩=some (.int .i64 y1):=by have:=(hS.ext hxw).at_ hy (i:=0) rfl;simpa using this
   have c1:wr.cell? ⟨b,off+kk*4+1,none⟩=some (.int .i64 y2):=by have:=(hS.ext hxw).at_ hy (i:=1) rfl;simpa using this
   have c2:wr.cell? ⟨b,off+kk*4+2,none⟩=some (.int .i64 y3):=by have:=(hS.ext hxw).at_ hy (i:=2) rfl;simpa using this
   have c3:wr.cell? ⟨b,off+kk*4+3,none⟩=some (.bool y4):=by have:=(hS.ext hxw).at_ hy (i:=3) rfl;simpa using this
   clear hy
   cases q with
   | false=>
    have hF:Hid (qq=false):=by
     show _=_
     rw[hR2.out,Bool.not_eq_false',List.any_eq_true]
     exact⟨_,qmq Y.out,by rw[Q.out];rfl⟩
    go_wp2_with (go_at_call 105;refine(K.out _).mono ?_;rintro e w1 ⟨rfl,hb1⟩)
    go_ret
    exact⟨retb hF.out.symm,xt⟩
   | true=>
    go_wp2_with (go_at_call 105;refine(K.out _).mono ?_;rintro e w1 ⟨rfl,hb1⟩)
    go_roundg (l.length-(kk+1))
    case measure=>omega
    case rel=>
     refine⟨kk+1,by omega,by omega,by go_num,hx.out.trans hb1,fun j x hj hjx=>?_⟩
     by_cases e:j=kk
     ·subst e
      have:=Y.out.symm.trans hjx
      cases this
      exact Q.out
     ·exact HH.out j x (by omega) hjx
  ·have hltz:¬ (kk:Int)<(l.length:Int):=by omega
   have hF:Hid (qq=true):=by
    show _=_
    rw[hR2.out,Bool.not_eq_true',List.any_eq_false];intro x hx';obtain⟨j,hj,e⟩:=List.getElem_of_mem hx'
    rw[HH.out j x (by omega) (by rw[qgq hj,e])];simp
   go_wp2
   go_ret
   exact⟨retb hF.out.symm,hxw⟩
theorem refValid_15 (e:EnvT)(w:World)(H:e.Lies w):Calls Tryz.prog 15 #[.agg e.vals.toArray] w fun r w'=>r=.returned (.bool (kfc e))∧Ext w w':=by
 have K1:=Lib.hid (fun W (hx:Ext w W)=>refChart_45 e.chart W (H.chart.ext hx))
 have K2:=Lib.hid (fun W (hx:Ext w W)=>refTide_46 e.tide W (H.tide.ext hx))
 have K3:=Lib.hid (fun W (hx:Ext w W)=>refRows_47 e.rA e.rc e.rows W (H.rows.ext hx))
 have K4:=Lib.hid (fun W (hx:Ext w W)=>refWaters_48 e.wA e.wc e.waters W (H.waters.ext hx))
 have hdef:kfc e=(kao e.chart&&kbk e.tide&&kfh e.rows&&kcg e.waters):=rfl
 rw[hdef];generalize kao e.chart=q1 at K1 ⊢;generalize kbk e.tide=q2 at K2 ⊢;generalize kfh e.rows=q3 at K3 ⊢;generalize kcg e.waters=q4 at K4 ⊢;clear H hdef;obtain⟨⟨version,x,y,tw,th,size,cA,cc,cells,bA,bc,beacons,lA,lc,lines⟩,⟨tv,start,slots,⟨r1,r2,r3,r4,r5,r6,r7,r8,r9⟩,fA,fc,flows⟩,rA,rc,rows,wA,wc,waters⟩:=e;simp only[EnvT.vals,ChartT.vals,TideT.vals,FlowT.vals,List.cons_append,List.nil_append]at *
 cases q1<;>cases q2<;>cases q3
 all_goals
  go_enter Tryz.func15,Tryz.ntmps15
  go_wp2_with (first
   | (go_at_call 45;refine(K1.out _ xt).mono ?_;rintro e w1 ⟨rfl,hb1⟩;obtain⟨hc1,hf1,hz1⟩:=hb1.rules;(try simp only[qsa]at hz1);(have hzz1:w.heap.size<w1.heap.size:=by omega))
   | (go_at_call 46;refine(K2.out _ xt).mono ?_;rintro e w2 ⟨rfl,hb2⟩;obtain⟨hc2,hf2,hz2⟩:=hb2.rules;(have hzz2:w.heap.size<w2.heap.size:=by omega))
   | (go_at_call 47;refine(K3.out _ xt).mono ?_;rintro e w3 ⟨rfl,hb3⟩;obtain⟨hc3,hf3,hz3⟩:=hb3.rules;(have hzz3:w.heap.size<w3.heap.size:=by omega))
   | (go_at_call 48;refine(K4.out _ xt).mono ?_;rintro e w4 ⟨rfl,hb4⟩))
  go_ret
  exact⟨retb (by simp),xt⟩
structure EnvT.Raw (e:EnvT)(W:World):Prop where
 cells:Sl kez 4 W e.chart.cA e.chart.cells
 beacons:Sl kbl 3 W e.chart.bA e.chart.beacons
 lines:Sl kbp 2 W e.chart.lA e.chart.lines
 pts:∀l∈e.chart.lines,Sl encP 2 W l.A l.pts
 ix:I64 e.chart.x
 iy:I64 e.chart.y
 ib:∀b∈e.chart.beacons,I64 b.id∧I64 b.at_.1∧I64 b.at_.2
 il:∀l∈e.chart.lines,I64 l.id∧∀p∈l.pts,I64 p.1∧I64 p.2
 tide:Sl FlowT.vals 9 W e.tide.A e.tide.flows
 rows:Sl kdw 6 W e.rA e.rows
 waters:Sl WaterT.vals 3 W e.wA e.waters
def EnvT.Few (e:EnvT):Prop:=e.chart.cells.length≤36∧e.chart.beacons.length≤8∧e.chart.lines.length≤4∧(∀l∈e.chart.lines,l.pts.length≤8)
theorem EnvT.Raw.lies {e:EnvT}{W:World}(h:e.Raw W)(f:e.Few):e.Lies W:=by
 obtain⟨f1,f2,f3,f4⟩:=f
 exact⟨⟨h.cells,h.beacons,h.lines,h.pts,h.ix,h.iy,h.ib,h.il,by omega,by omega,by omega⟩,h.tide,h.rows,h.waters⟩
def koi (P:Prop)(r:Ending):Prop:=∃b,(b=true→P)∧r=.returned (.bool b)
def meansB (e:EnvT)(o:EntryT):Bool:=
 if o.kind=3∨o.kind=4∨o.kind=6 then (kbz BeaconT.id o.ref e.chart.beacons).isSome else if o.kind=5 then (kbz LineT.id o.ref e.chart.lines).isSome else true
theorem means_40 (e:EnvT)(o:EntryT)(hk:2≤o.kind∧o.kind≤7)(w:World)(H:e.Lies w):Calls Tryz.prog 40 #[.agg e.vals.toArray,.agg o.vals.toArray] w fun r w'=>r=.returned (.bool (meansB e o))∧Ext w w':=by
 have K1:=Lib.hid (fun W (hx:Ext w W)=>refBeacon_82 e.chart o.ref W H.chart.nb (H.chart.beacons.ext hx))
 have K2:=Lib.hid (fun W (hx:Ext w W)=>refPath_83 e.chart o.ref W H.chart.nl (H.chart.lines.ext hx))
 unfold meansB;generalize (kbz BeaconT.id o.ref e.chart.beacons).isSome=q1 at K1 ⊢;generalize (kbz BeaconT.id o.ref e.chart.beacons).getD ⟨0,(0,0)⟩=b1 at K1;generalize (kbz LineT.id o.ref e.chart.lines).isSome=q2 at K2 ⊢;generalize (kbz LineT.id o.ref e.chart.lines).getD ⟨0,none,0,[]⟩=b2 at K2;obtain⟨i1,⟨a1,a2⟩⟩:=b1;obtain⟨j1,j2,j3,j4⟩:=b2;clear H;obtain⟨⟨version,x,y,tw,th,size,cA,cc,cells,bA,bc,beacons,lA,lc,lines⟩,⟨tv,start,slots,⟨r1,r2,r3,r4,r5,r6,r7,r8,r9⟩,fA,fc,flows⟩,rA,rc,rows,wA,wc,waters⟩:=e;obtain⟨seq,time,kind,sensor,ref,a,n,lo,hi,temp,age,since⟩:=o;simp only[EnvT.vals,ChartT.vals,TideT.vals,FlowT.vals,EntryT.vals,kbp,List.cons_append,List.nil_append]at *
 have D:kind=2∨kind=3∨kind=4∨kind=5∨kind=6∨kind=7:=by omega
 rcases D with rfl|rfl|rfl|rfl|rfl|rfl
 all_goals
  go_enter Tryz.func40,Tryz.ntmps40
  go_wp2_with (first
   | (go_at_call 82;refine(K1.out _ xt).mono ?_;rintro e w1 ⟨rfl,hb1⟩)
   | (go_at_call 83;refine(K2.out _ xt).mono ?_;rintro e w1 ⟨rfl,hb1⟩))
  go_ret
  exact⟨retb (by simp),xt⟩
theorem few_35 (e:EnvT)(w:World)(hL:Sl kbp 2 w e.chart.lA e.chart.lines):Calls Tryz.prog 35 #[.agg e.vals.toArray] w fun r w'=>koi e.Few r∧Ext w w':=by
 have hF:Hid (e.chart.cells.length≤36→e.chart.beacons.length≤8→e.chart.lines.length≤4→(∀j y,j<e.chart.lines.length→e.chart.lines[j]?=some y→y.pts.length≤8)→e.Few):=fun h1 h2 h3 h4=>
  ⟨h1,h2,h3,fun l hl=>by obtain⟨j,hj,ej⟩:=List.getElem_of_mem hl;exact h4 j l hj (by rw[qgq hj,ej])⟩
 generalize e.Few=P at hF ⊢;obtain⟨⟨version,x,y,tw,th,size,cA,cc,cells,bA,bc,beacons,lA,lc,l⟩,⟨tv,start,slots,⟨r1,r2,r3,r4,r5,r6,r7,r8,r9⟩,fA,fc,flows⟩,rA,rc,rows,wA,wc,waters⟩:=e;simp only[EnvT.vals,ChartT.vals,TideT.vals,FlowT.vals,EntryT.vals,List.cons_append,List.nil_append]at *;obtain⟨W0,hW0⟩:∃W0,(w.alloc (.cells #[.int .i64 version,.int .i64 x,.int .i64 y,.int .i64 tw,.int .i64 th,.int .i64 size,.slice cA cells.length cc,.slice bA beacons.length bc,.slice lA l.length lc,.int .i64 tv,.int .i64 start,.int .i64 slots,.int .i64 r1,.int .i64 r2,.int .i64 r3,.int .i64 r4,.int .i64 r5,.int .i64 r6,.int .i64 r7,.int .i64 r8,.int .i64 r9,.slice fA flows.length fc,.slice rA rows.length rc,.slice wA waters.length wc] 37)).alloc (.cells #[.int .i64 version,.int .i64 x,.int .i64 y,.int .i64 tw,.int .i64 th,.int .i64 size,.slice cA cells.length cc,.slice bA beacons.length bc,.slice lA l.length lc] 26)=W0:=⟨_,rfl⟩
 have hE0:Ext w W0:=by rw[←hW0];exact((Ext.refl w).alloc _).alloc _
 have hz0:W0.heap.size=w.heap.size+2:=by rw[←hW0];simp
 have a6:W0.cell? ⟨w.heap.size+1,6,none⟩=some (.slice cA cells.length cc):=by rw[←hW0];simp
 have a7:W0.cell? ⟨w.heap.size+1,7,none⟩=some (.slice bA beacons.length bc):=by rw[←hW0];simp
 have a8:W0.cell? ⟨w.heap.size+1,8,none⟩=some (.slice lA l.length lc):=by rw[←hW0];simp
 have t21:W0.cell? ⟨w.heap.size,21,none⟩=some (.slice fA flows.length fc):=by rw[←hW0];simp
 have t22:W0.cell? ⟨w.heap.size,22,none⟩=some (.slice rA rows.length rc):=by rw[←hW0];simp
 have t23:W0.cell? ⟨w.heap.size,23,none⟩=some (.slice wA waters.length wc):=by rw[←hW0];simp
 go_enter Tryz.func35,Tryz.ntmps35
 go_wp2
 (try rw[hW0])
 clear hW0
 go_loopg [4] (l.length+1) (fun gg s4 wr=>∃kk:Nat,kk≤l.length∧l.length+1-kk≤gg∧s4=.int .i64 kk∧Hid (wr=W0)∧Hid (∀j y,j<kk→l[j]?=some y→y.pts.length≤8))
 case atStart=>exact⟨0,Nat.zero_le _,by omega,rfl,rfl,fun j y hj=>absurd hj (Nat.not_lt_zero _)⟩
 case round=>
  obtain⟨kk,hkk,hg,rfl,hx,HH⟩:=hrel
  have hxx:wr=W0:=hx.out
  subst hxx
  by_cases hlt:kk<l.length∧kk<4
  ·obtain⟨hlt,h4⟩:=hlt
   obtain⟨b,off,rfl⟩:=hL.addr (by show 0<l.length;omega)
   obtain⟨y',hy⟩:∃y,l[kk]?=some y:=⟨_,qgq hlt⟩;have Y:=Lib.hid hy
   have hltz:(kk:Int)<(l.length:Int):=by omega
   have h4z:(kk:Int)<4:=by omega
   obtain⟨y1,y2,y3,y4⟩:=y'
   have c0:wr.cell? ⟨b,off+kk*2,none⟩=some (.int .i64 y1):=by have:=(hL.ext hE0).at_ hy (i:=0) rfl;simpa using this
   have c1:wr.cell? ⟨b,off+kk*2+1,none⟩=some (.slice y2 y4.length y3):=by have:=(hL.ext hE0).at_ hy (i:=1) rfl;simpa using this
   clear hy
   by_cases h8:y4.length≤8
   ·have h8z:¬ (8:Int)<(y4.length:Int):=by omega
    go_wp2
    go_roundg (l.length+1-(kk+1))
    case measure=>omega
    case rel=>
     refine⟨kk+1,by omega,by omega,by go_num,rfl,fun j x hj hjx=>?_⟩
     by_cases e:j=kk
     ·subst e
      have:=Y.out.symm.trans hjx
      cases this
      exact h8
     ·exact HH.out j x (by omega) hjx
   ·have h8z:(8:Int)<(y4.length:Int):=by omega
    go_wp2
    go_ret
    exact⟨⟨false,(fun h=>by cases h),rfl⟩,hE0⟩
  ·have D:(¬ (kk:Int)<(l.length:Int))∨((kk:Int)<(l.length:Int)∧¬ (kk:Int)<4):=by omega
   have hfin:Hid (l.length≤4→∀j y,j<l.length→l[j]?=some y→y.pts.length≤8):=fun h4 j y hj hjy=>HH.out j y (by omega) hjy
   rcases D with D|⟨D1,D2⟩
   all_goals
    go_wp2
    all_goals (go_ret;refine⟨⟨_,fun hb=>?_,rfl⟩,hE0⟩)
    all_goals first
     | (cases hb;done)
     | (simp only[decide_eq_true_eq]at *;exact hF.out (by omega) (by omega) (by omega) (hfin.out (by omega)))
theorem EnvT.size (e:EnvT):e.vals.toArray.size=24:=by
 simp[EnvT.vals,ChartT.vals,TideT.vals,FlowT.vals]
theorem EntryT.size (o:EntryT):o.vals.toArray.size=12:=rfl
theorem kle:(Tryz.prog.info? 37).map (·.size)=some 24:=by kernel_rfl
theorem knm:(Tryz.prog.info? 40).map (·.size)=some 12:=by kernel_rfl
theorem kbj (w:World)(x y:Array Value)(s t:TypeId)(W:World)(h:Ext ((w.alloc (.cells x s)).alloc (.cells y t)) W):W.heap[w.heap.size]?=some (.cells x s)∧W.heap[w.heap.size+1]?=some (.cells y t):=by
 refine⟨(h.block _ (by simp only[qsa];omega)).trans ?_,(h.block _ (by simp only[qsa];omega)).trans ?_⟩
 ·rw[Below.heap_alloc _ _ _ (by simp only[qsa];omega)]
  exact kbs w _
 ·have:=kbs (w.alloc (.cells x s)) (.cells y t)
  simpa only[qsa]using this
theorem leaves_37:leaves Tryz.prog 5 37=some [3,3,3,3,3,3,22,23,24,3,3,3,3,3,3,3,3,3,3,3,3,31,34,35]:=by kernel_rfl
theorem leaves_40:leaves Tryz.prog 5 40=some [3,3,3,3,3,3,3,3,3,3,3,3]:=by kernel_rfl
theorem leaves_43:leaves Tryz.prog 5 43=some [3,3]:=by kernel_rfl
theorem cellsOf_43:Tryz.prog.cellsOf 43=2:=by kernel_rfl
theorem leaves_110:leaves Tryz.prog 5 110=some [3,3,3,4]:=by kernel_rfl
theorem cellsOf_110:Tryz.prog.cellsOf 110=4:=by kernel_rfl
theorem leaves_112:leaves Tryz.prog 5 112=some [3,3,3]:=by kernel_rfl
theorem cellsOf_112:Tryz.prog.cellsOf 112=3:=by kernel_rfl
theorem leaves_93:leaves Tryz.prog 5 93=some [3,76]:=by kernel_rfl
theorem cellsOf_93:Tryz.prog.cellsOf 93=2:=by kernel_rfl
theorem leaves_30:leaves Tryz.prog 5 30=some [3,3,3,3,3,3,3,3,3]:=by kernel_rfl
theorem cellsOf_30:Tryz.prog.cellsOf 30=9:=by kernel_rfl
theorem leaves_148:leaves Tryz.prog 5 148=some [3,3,3,3,3,3]:=by kernel_rfl
theorem cellsOf_148:Tryz.prog.cellsOf 148=6:=by kernel_rfl
theorem leaves_114:leaves Tryz.prog 5 114=some [3,3,3]:=by kernel_rfl
theorem cellsOf_114:Tryz.prog.cellsOf 114=3:=by kernel_rfl
theorem kdu {z:Int}(h:(Lit.int .i64 z).wf=true):I64 z:=by
 simp[Lit.wf,IntKind.min,IntKind.max,IntKind.signed,IntKind.bits]at h
 unfold I64
 omega
section
variable {H:Type} {enc:TypeId × Value→H} {W:World} {base:Nat} {spare:Nat→Bool} {held:Bool}
theorem cell_of {es:List Value}(h:kcb enc Tryz.prog W base spare held [3,3,3,4] es):∃x:CellT,kez x=es:=by
 obtain⟨a0,h0,w0⟩:=h.int 0 Tryz.underlying3 rfl;obtain⟨a1,h1,w1⟩:=h.int 1 Tryz.underlying3 rfl;obtain⟨a2,h2,w2⟩:=h.int 2 Tryz.underlying3 rfl;obtain⟨a3,h3⟩:=h.bool 3 Tryz.underlying4 rfl
 refine⟨⟨a0,a1,a2,a3⟩,?_⟩
 refine List.ext_getElem? fun i=>?_
 rcases i with _|_|_|_|i
 ·exact h0.symm
 ·exact h1.symm
 ·exact h2.symm
 ·exact h3.symm
 ·exact(List.getElem?_eq_none (by simp[kez])).trans (List.getElem?_eq_none (by rw[h.1];simp)).symm
theorem beacon_of {es:List Value}(h:kcb enc Tryz.prog W base spare held [3,3,3] es):∃x:BeaconT,(I64 x.id∧I64 x.at_.1∧I64 x.at_.2)∧kbl x=es:=by
 obtain⟨a0,h0,w0⟩:=h.int 0 Tryz.underlying3 rfl;obtain⟨a1,h1,w1⟩:=h.int 1 Tryz.underlying3 rfl;obtain⟨a2,h2,w2⟩:=h.int 2 Tryz.underlying3 rfl
 refine⟨⟨a0,(a1,a2)⟩,⟨kdu w0,kdu w1,kdu w2⟩,?_⟩
 refine List.ext_getElem? fun i=>?_
 rcases i with _|_|_|i
 ·exact h0.symm
 ·exact h1.symm
 ·exact h2.symm
 ·exact(List.getElem?_eq_none (by simp[kbl])).trans (List.getElem?_eq_none (by rw[h.1];simp)).symm
theorem pt_of {es:List Value}(h:kcb enc Tryz.prog W base spare held [3,3] es):∃x:Pt,(I64 x.1∧I64 x.2)∧encP x=es:=by
 obtain⟨a0,h0,w0⟩:=h.int 0 Tryz.underlying3 rfl;obtain⟨a1,h1,w1⟩:=h.int 1 Tryz.underlying3 rfl
 refine⟨(a0,a1),⟨kdu w0,kdu w1⟩,?_⟩
 refine List.ext_getElem? fun i=>?_
 rcases i with _|_|i
 ·exact h0.symm
 ·exact h1.symm
 ·exact(List.getElem?_eq_none (by simp[encP])).trans (List.getElem?_eq_none (by rw[h.1];simp)).symm
theorem flow_of {es:List Value}(h:kcb enc Tryz.prog W base spare held [3,3,3,3,3,3,3,3,3] es):∃x:FlowT,FlowT.vals x=es:=by
 obtain⟨a0,h0,w0⟩:=h.int 0 Tryz.underlying3 rfl;obtain⟨a1,h1,w1⟩:=h.int 1 Tryz.underlying3 rfl;obtain⟨a2,h2,w2⟩:=h.int 2 Tryz.underlying3 rfl;obtain⟨a3,h3,w3⟩:=h.int 3 Tryz.underlying3 rfl;obtain⟨a4,h4,w4⟩:=h.int 4 Tryz.underlying3 rfl;obtain⟨a5,h5,w5⟩:=h.int 5 Tryz.underlying3 rfl;obtain⟨a6,h6,w6⟩:=h.int 6 Tryz.underlying3 rfl;obtain⟨a7,h7,w7⟩:=h.int 7 Tryz.underlying3 rfl;obtain⟨a8,h8,w8⟩:=h.int 8 Tryz.underlying3 rfl
 refine⟨⟨a0,a1,a2,a3,a4,a5,a6,a7,a8⟩,?_⟩
 refine List.ext_getElem? fun i=>?_
 rcases i with _|_|_|_|_|_|_|_|_|i
 ·exact h0.symm
 ·exact h1.symm
 ·exact h2.symm
 ·exact h3.symm
 ·exact h4.symm
 ·exact h5.symm
 ·exact h6.symm
 ·exact h7.symm
 ·exact h8.symm
 ·exact(List.getElem?_eq_none (by simp[FlowT.vals])).trans (List.getElem?_eq_none (by rw[h.1];simp)).symm
theorem row_of {es:List Value}(h:kcb enc Tryz.prog W base spare held [3,3,3,3,3,3] es):∃x:RowT,kdw x=es:=by
 obtain⟨a0,h0,w0⟩:=h.int 0 Tryz.underlying3 rfl;obtain⟨a1,h1,w1⟩:=h.int 1 Tryz.underlying3 rfl;obtain⟨a2,h2,w2⟩:=h.int 2 Tryz.underlying3 rfl;obtain⟨a3,h3,w3⟩:=h.int 3 Tryz.underlying3 rfl;obtain⟨a4,h4,w4⟩:=h.int 4 Tryz.underlying3 rfl;obtain⟨a5,h5,w5⟩:=h.int 5 Tryz.underlying3 rfl
 refine⟨⟨a0,a1,a2,a3,a4,a5⟩,?_⟩
 refine List.ext_getElem? fun i=>?_
 rcases i with _|_|_|_|_|_|i
 ·exact h0.symm
 ·exact h1.symm
 ·exact h2.symm
 ·exact h3.symm
 ·exact h4.symm
 ·exact h5.symm
 ·exact(List.getElem?_eq_none (by simp[kdw])).trans (List.getElem?_eq_none (by rw[h.1];simp)).symm
theorem water_of {es:List Value}(h:kcb enc Tryz.prog W base spare held [3,3,3] es):∃x:WaterT,WaterT.vals x=es:=by
 obtain⟨a0,h0,w0⟩:=h.int 0 Tryz.underlying3 rfl;obtain⟨a1,h1,w1⟩:=h.int 1 Tryz.underlying3 rfl;obtain⟨a2,h2,w2⟩:=h.int 2 Tryz.underlying3 rfl
 refine⟨⟨a0,a1,a2⟩,?_⟩
 refine List.ext_getElem? fun i=>?_
 rcases i with _|_|_|i
 ·exact h0.symm
 ·exact h1.symm
 ·exact h2.symm
 ·exact(List.getElem?_eq_none (by simp[WaterT.vals])).trans (List.getElem?_eq_none (by rw[h.1];simp)).symm
theorem entry_of {es:List Value}(h:kcb enc Tryz.prog W base spare held [3,3,3,3,3,3,3,3,3,3,3,3] es):∃x:EntryT,EntryT.vals x=es:=by
 obtain⟨a0,h0,w0⟩:=h.int 0 Tryz.underlying3 rfl;obtain⟨a1,h1,w1⟩:=h.int 1 Tryz.underlying3 rfl;obtain⟨a2,h2,w2⟩:=h.int 2 Tryz.underlying3 rfl;obtain⟨a3,h3,w3⟩:=h.int 3 Tryz.underlying3 rfl;obtain⟨a4,h4,w4⟩:=h.int 4 Tryz.underlying3 rfl;obtain⟨a5,h5,w5⟩:=h.int 5 Tryz.underlying3 rfl;obtain⟨a6,h6,w6⟩:=h.int 6 Tryz.underlying3 rfl;obtain⟨a7,h7,w7⟩:=h.int 7 Tryz.underlying3 rfl;obtain⟨a8,h8,w8⟩:=h.int 8 Tryz.underlying3 rfl;obtain⟨a9,h9,w9⟩:=h.int 9 Tryz.underlying3 rfl;obtain⟨a10,h10,w10⟩:=h.int 10 Tryz.underlying3 rfl;obtain⟨a11,h11,w11⟩:=h.int 11 Tryz.underlying3 rfl
 refine⟨⟨a0,a1,a2,a3,a4,a5,a6,a7,a8,a9,a10,a11⟩,?_⟩
 refine List.ext_getElem? fun i=>?_
 rcases i with _|_|_|_|_|_|_|_|_|_|_|_|i
 ·exact h0.symm
 ·exact h1.symm
 ·exact h2.symm
 ·exact h3.symm
 ·exact h4.symm
 ·exact h5.symm
 ·exact h6.symm
 ·exact h7.symm
 ·exact h8.symm
 ·exact h9.symm
 ·exact h10.symm
 ·exact h11.symm
 ·exact(List.getElem?_eq_none (by simp[EntryT.vals])).trans (List.getElem?_eq_none (by rw[h.1];simp)).symm
theorem line_of {es:List Value}(h:kcb enc Tryz.prog W base spare held [3,76] es):∃x:LineT,(Sl encP 2 W x.A x.pts∧I64 x.id∧∀p∈x.pts,I64 p.1∧I64 p.2)∧kbp x=es:=by
 obtain⟨a0,h0,w0⟩:=h.int 0 Tryz.underlying3 rfl;obtain⟨A,len,cap,h1,_,_,hA,hel⟩:=h.slice 1 Tryz.underlying76 leaves_43 cellsOf_43 rfl
 obtain⟨l,hl,hq,hS⟩:=Sl.of_cells (Q:=fun p:Pt=>I64 p.1∧I64 p.2) (enc:=encP) (k:=2) (fun _=>rfl) (by omega) (fun e=>(hA e).1) (fun a ha j hj=>by
  obtain⟨es,h2,h3⟩:=hel a ha j hj;obtain⟨x,hx,rfl⟩:=pt_of h2
  exact⟨x,hx,h3⟩)
 refine⟨⟨a0,A,cap,l⟩,⟨hS,kdu w0,hq⟩,?_⟩
 refine List.ext_getElem? fun i=>?_
 rcases i with _|_|i
 ·exact h0.symm
 ·rw[h1,←hl];rfl
 ·exact(List.getElem?_eq_none (by simp[kbp])).trans (List.getElem?_eq_none (by rw[h.1];simp)).symm
theorem env_of {cs:List Value}(h:kcb enc Tryz.prog W base spare held [3,3,3,3,3,3,22,23,24,3,3,3,3,3,3,3,3,3,3,3,3,31,34,35] cs):∃e:EnvT,e.Raw W∧e.vals=cs:=by
 obtain⟨a0,h0,w0⟩:=h.int 0 Tryz.underlying3 rfl;obtain⟨a1,h1,w1⟩:=h.int 1 Tryz.underlying3 rfl;obtain⟨a2,h2,w2⟩:=h.int 2 Tryz.underlying3 rfl;obtain⟨a3,h3,w3⟩:=h.int 3 Tryz.underlying3 rfl;obtain⟨a4,h4,w4⟩:=h.int 4 Tryz.underlying3 rfl;obtain⟨a5,h5,w5⟩:=h.int 5 Tryz.underlying3 rfl;obtain⟨a9,h9,w9⟩:=h.int 9 Tryz.underlying3 rfl;obtain⟨a10,h10,w10⟩:=h.int 10 Tryz.underlying3 rfl;obtain⟨a11,h11,w11⟩:=h.int 11 Tryz.underlying3 rfl;obtain⟨a12,h12,w12⟩:=h.int 12 Tryz.underlying3 rfl;obtain⟨a13,h13,w13⟩:=h.int 13 Tryz.underlying3 rfl;obtain⟨a14,h14,w14⟩:=h.int 14 Tryz.underlying3 rfl;obtain⟨a15,h15,w15⟩:=h.int 15 Tryz.underlying3 rfl;obtain⟨a16,h16,w16⟩:=h.int 16 Tryz.underlying3 rfl;obtain⟨a17,h17,w17⟩:=h.int 17 Tryz.underlying3 rfl;obtain⟨a18,h18,w18⟩:=h.int 18 Tryz.underlying3 rfl;obtain⟨a19,h19,w19⟩:=h.int 19 Tryz.underlying3 rfl;obtain⟨a20,h20,w20⟩:=h.int 20 Tryz.underlying3 rfl;obtain⟨Ac,lenc,capc,h6,_,_,hAc,helc⟩:=h.slice 6 Tryz.underlying22 leaves_110 cellsOf_110 rfl
 obtain⟨lc,hlc,hqc,hSc⟩:=Sl.of_cells (Q:=fun x:CellT=>True) (enc:=kez) (k:=4) (fun _=>rfl) (by omega) (fun e=>(hAc e).1) (fun a ha j hj=>by
  obtain⟨es,g2,g3⟩:=helc a ha j hj;obtain⟨x,rfl⟩:=cell_of g2
  exact⟨x,trivial,g3⟩)
 obtain⟨Ab,lenb,capb,h7,_,_,hAb,helb⟩:=h.slice 7 Tryz.underlying23 leaves_112 cellsOf_112 rfl
 obtain⟨lb,hlb,hqb,hSb⟩:=Sl.of_cells (Q:=fun x:BeaconT=>I64 x.id∧I64 x.at_.1∧I64 x.at_.2) (enc:=kbl) (k:=3) (fun _=>rfl) (by omega) (fun e=>(hAb e).1) (fun a ha j hj=>by
  obtain⟨es,g2,g3⟩:=helb a ha j hj;obtain⟨x,hx,rfl⟩:=beacon_of g2
  exact⟨x,hx,g3⟩)
 obtain⟨Al,lenl,capl,h8,_,_,hAl,hell⟩:=h.slice 8 Tryz.underlying24 leaves_93 cellsOf_93 rfl
 obtain⟨ll,hll,hql,hSl⟩:=Sl.of_cells (Q:=fun x:LineT=>Sl encP 2 W x.A x.pts∧I64 x.id∧∀p∈x.pts,I64 p.1∧I64 p.2) (enc:=kbp) (k:=2) (fun _=>rfl) (by omega) (fun e=>(hAl e).1) (fun a ha j hj=>by
  obtain⟨es,g2,g3⟩:=hell a ha j hj;obtain⟨x,hx,rfl⟩:=line_of g2
  exact⟨x,hx,g3⟩)
 obtain⟨Af,lenf,capf,h21,_,_,hAf,helf⟩:=h.slice 21 Tryz.underlying31 leaves_30 cellsOf_30 rfl
 obtain⟨lf,hlf,hqf,hSf⟩:=Sl.of_cells (Q:=fun x:FlowT=>True) (enc:=FlowT.vals) (k:=9) (fun _=>rfl) (by omega) (fun e=>(hAf e).1) (fun a ha j hj=>by
  obtain⟨es,g2,g3⟩:=helf a ha j hj;obtain⟨x,rfl⟩:=flow_of g2
  exact⟨x,trivial,g3⟩)
 obtain⟨Ar,lenr,capr,h22,_,_,hAr,helr⟩:=h.slice 22 Tryz.underlying34 leaves_148 cellsOf_148 rfl
 obtain⟨lr,hlr,hqr,hSr⟩:=Sl.of_cells (Q:=fun x:RowT=>True) (enc:=kdw) (k:=6) (fun _=>rfl) (by omega) (fun e=>(hAr e).1) (fun a ha j hj=>by
  obtain⟨es,g2,g3⟩:=helr a ha j hj;obtain⟨x,rfl⟩:=row_of g2
  exact⟨x,trivial,g3⟩)
 obtain⟨Aw,lenw,capw,h23,_,_,hAw,helw⟩:=h.slice 23 Tryz.underlying35 leaves_114 cellsOf_114 rfl
 obtain⟨lw,hlw,hqw,hSw⟩:=Sl.of_cells (Q:=fun x:WaterT=>True) (enc:=WaterT.vals) (k:=3) (fun _=>rfl) (by omega) (fun e=>(hAw e).1) (fun a ha j hj=>by
  obtain⟨es,g2,g3⟩:=helw a ha j hj;obtain⟨x,rfl⟩:=water_of g2
  exact⟨x,trivial,g3⟩)
 refine⟨⟨⟨a0,a1,a2,a3,a4,a5,Ac,capc,lc,Ab,capb,lb,Al,capl,ll⟩,⟨a9,a10,a11,⟨a12,a13,a14,a15,a16,a17,a18,a19,a20⟩,Af,capf,lf⟩,Ar,capr,lr,Aw,capw,lw⟩,⟨hSc,hSb,hSl,fun x hx=>(hql x hx).1,kdu w1,kdu w2,hqb,fun x hx=>(hql x hx).2,hSf,hSr,hSw⟩,?_⟩
 refine List.ext_getElem? fun i=>?_
 rcases i with _|_|_|_|_|_|_|_|_|_|_|_|_|_|_|_|_|_|_|_|_|_|_|_|i
 ·exact h0.symm
 ·exact h1.symm
 ·exact h2.symm
 ·exact h3.symm
 ·exact h4.symm
 ·exact h5.symm
 ·rw[h6,←hlc];rfl
 ·rw[h7,←hlb];rfl
 ·rw[h8,←hll];rfl
 ·exact h9.symm
 ·exact h10.symm
 ·exact h11.symm
 ·exact h12.symm
 ·exact h13.symm
 ·exact h14.symm
 ·exact h15.symm
 ·exact h16.symm
 ·exact h17.symm
 ·exact h18.symm
 ·exact h19.symm
 ·exact h20.symm
 ·rw[h21,←hlf];rfl
 ·rw[h22,←hlr];rfl
 ·rw[h23,←hlw];rfl
 ·exact(List.getElem?_eq_none (by simp[EnvT.vals,ChartT.vals,TideT.vals,FlowT.vals])).trans (List.getElem?_eq_none (by rw[h.1];simp)).symm
end
end Go.Proofs.YtcgghcicnanliaaGreatDoor
