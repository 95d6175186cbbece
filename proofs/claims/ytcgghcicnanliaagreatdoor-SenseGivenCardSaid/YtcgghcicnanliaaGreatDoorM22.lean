/- Walks: chart.Valid's closures. Conditions: none. Walks: sense.Valid. Conditions: none. Walks: chart.column, chart.under. Conditions: none. -/
import Derived.Test.YtcgghcicnanliaaGreatDoorM21
set_option linter.unusedVariables false
set_option linter.unusedSimpArgs false
namespace Go.Proofs.YtcgghcicnanliaaGreatDoor
open Go.RowKit
set_option maxHeartbeats 2000000
set_option maxRecDepth 100000
theorem beaconID_91 (b:BeaconT)(w:World):Calls Tryz.prog 91 #[.agg (kbl b).toArray] w fun e w'=>e=.returned (.int .i64 b.id)∧Ext w w':=by
 obtain⟨i,x,y⟩:=b;simp only[kbl]
 go_enter Tryz.func91,Tryz.ntmps91
 go_wp2
 go_ret
 exact⟨rfl,xt⟩
theorem lineID_94 (l:LineT)(w:World):Calls Tryz.prog 94 #[.agg (kbp l).toArray] w fun e w'=>e=.returned (.int .i64 l.id)∧Ext w w':=by
 obtain⟨i,A,c,pts⟩:=l;simp only[kbp]
 go_enter Tryz.func94,Tryz.ntmps94
 go_wp2
 go_ret
 exact⟨rfl,xt⟩
def kbh (b:BeaconT):Bool:=inB b.id 1 1000000&&plB b.at_
theorem kpc (b:BeaconT)(h1:I64 b.at_.1)(h2:I64 b.at_.2)(w:World):Calls Tryz.prog 89 #[.agg (kbl b).toArray] w fun e w'=>e=.returned (.bool (kbh b))∧Ext w w':=by
 have hcon:=Lib.hid (kej b.at_ h1 h2);obtain⟨i,x,y⟩:=b;simp only[kbl,kbh]at *;generalize plB (x,y)=q at hcon ⊢
 go_enter Tryz.func89,Tryz.ntmps89
 go_wp2_with (first|(go_at_call 84;refine(kgz _ _).mono ?_;rintro e w' ⟨rfl,rfl⟩)|(go_at_call 85;refine(hcon.out _).mono ?_;rintro e w' ⟨rfl,hb⟩))
 all_goals (go_ret;exact⟨retb (by simp_all),xt⟩)
theorem eg_87:∀args w,(callFunc 87 args).run Tryz.prog w=.ok (.enter 87 args) w:=enters_of Tryz.func87 (by kernel_rfl) rfl
theorem eg_89:∀args w,(callFunc 89 args).run Tryz.prog w=.ok (.enter 89 args) w:=enters_of Tryz.func89 (by kernel_rfl) rfl
theorem eg_91:∀args w,(callFunc 91 args).run Tryz.prog w=.ok (.enter 91 args) w:=enters_of Tryz.func91 (by kernel_rfl) rfl
theorem eg_93:∀args w,(callFunc 93 args).run Tryz.prog w=.ok (.enter 93 args) w:=enters_of Tryz.func93 (by kernel_rfl) rfl
theorem eg_94:∀args w,(callFunc 94 args).run Tryz.prog w=.ok (.enter 94 args) w:=enters_of Tryz.func94 (by kernel_rfl) rfl
structure ChartT where
 version:Int
 x:Int
 y:Int
 w:Int
 h:Int
 size:Int
 cA:Option Addr
 cc:Nat
 cells:List CellT
 bA:Option Addr
 bc:Nat
 beacons:List BeaconT
 lA:Option Addr
 lc:Nat
 lines:List LineT
def ChartT.vals (t:ChartT):List Value:=[.int .i64 t.version,.int .i64 t.x,.int .i64 t.y,.int .i64 t.w,.int .i64 t.h,.int .i64 t.size,.slice t.cA t.cells.length t.cc,.slice t.bA t.beacons.length t.bc,.slice t.lA t.lines.length t.lc]
structure ChartT.Lies (t:ChartT)(W:World):Prop where
 cells:Sl kez 4 W t.cA t.cells
 beacons:Sl kbl 3 W t.bA t.beacons
 lines:Sl kbp 2 W t.lA t.lines
 pts:∀l∈t.lines,Sl encP 2 W l.A l.pts
 ix:I64 t.x
 iy:I64 t.y
 ib:∀b∈t.beacons,I64 b.id∧I64 b.at_.1∧I64 b.at_.2
 il:∀l∈t.lines,I64 l.id∧∀p∈l.pts,I64 p.1∧I64 p.2
 nc:t.cells.length≤1000000
 nb:t.beacons.length≤1000000
 nl:t.lines.length≤1000000
def kcp (t:ChartT):Bool:=inB t.version 1 1000000&&decide (1≤t.w)&&decide (1≤t.h)&&decide (t.w≤4000)&&decide (t.h≤4000)&&decide (t.w*t.h=t.cells.length)&&decide (t.cells.length≤4000)&&decide (1≤t.size)&&decide (t.size≤10000)
def kao (t:ChartT):Bool:=kcp t&&plB (t.x,t.y)&&plB (t.x+t.w*t.size-1,t.y+t.h*t.size-1)&&!(t.cells.any fun c=>!kdx c.lo c.hi c.date)&&kan kbh BeaconT.id 100 t.beacons&&kan kbw LineT.id 50 t.lines
theorem keg (t:ChartT)(w:World)(H:t.Lies w):Calls Tryz.prog 41 #[.agg t.vals.toArray] w fun e w'=>e=.returned (.bool (kao t))∧Ext w w':=by
 have HL:=Lib.hid H;have K1:=Lib.hid (kej (t.x,t.y) H.ix H.iy)
 have K3:=Lib.hid (fun W (hx:Ext w W)=>kod 87 #[] eg_87 (fun c=>!kdx c.lo c.hi c.date) t.cA t.cc t.cells W H.nc (H.cells.ext hx) (fun W x _ _=>by simpa[kez]using kpd x.lo x.hi x.date x.void W))
 have K4:=Lib.hid (fun W (hx:Ext w W)=>areNamed_90 89 91 eg_89 eg_91 (by decide) kbh BeaconT.id t.bA t.bc t.beacons 100 W H.nb (H.beacons.ext hx) (fun b hb=>(H.ib b hb).1) (fun W b hb _=>kpc b (H.ib b hb).2.1 (H.ib b hb).2.2 W) (fun W b _ _=>beaconID_91 b W))
 have K5:=Lib.hid (fun W (hx:Ext w W)=>areNamed_92 93 94 eg_93 eg_94 (by decide) kbw LineT.id t.lA t.lc t.lines 50 W H.nl (H.lines.ext hx) (fun l hl=>(H.il l hl).1) (fun W l hl hx'=>isLine_93 l W ((H.pts l hl).ext (hx.trans hx')) (H.il l hl).2) (fun W l _ _=>lineID_94 l W))
 have hxy:=Lib.hid (And.intro H.ix H.iy);clear H
 have hdef:kao t=(kcp t&&plB (t.x,t.y)&&plB (t.x+t.w*t.size-1,t.y+t.h*t.size-1)&&!(t.cells.any fun c=>!kdx c.lo c.hi c.date)&&kan kbh BeaconT.id 100 t.beacons&&kan kbw LineT.id 50 t.lines):=rfl
 rw[hdef];clear hdef
 generalize (t.cells.any fun c=>!kdx c.lo c.hi c.date)=q3 at K3 ⊢
 generalize kan kbh BeaconT.id 100 t.beacons=q4 at K4 ⊢;generalize kan kbw LineT.id 50 t.lines=q5 at K5 ⊢
 have hdd:kcp t=(inB t.version 1 1000000&&decide (1≤t.w)&&decide (1≤t.h)&&decide (t.w≤4000)&&decide (t.h≤4000)&&decide (t.w*t.h=t.cells.length)&&decide (t.cells.length≤4000)&&decide (1≤t.size)&&decide (t.size≤10000)):=rfl
 generalize hdims:kcp t=dims at hdd ⊢;clear hdims
 cases dims with
 | false=>
  obtain⟨version,x,y,tw,th,size,cA,cc,cells,bA,bc,beacons,lA,lc,lines⟩:=t;simp only[ChartT.vals,List.cons_append,List.nil_append]at *;have D:=Lib.hid hdd;clear hdd K1 K3 K4 K5 hxy HL
  have hm:1≤tw→tw≤4000→1≤th→th≤4000→-16000000≤tw*th∧tw*th≤16000000:=fun a b c d=>by
   have:=kdg (x:=tw) (y:=th) (m:=4000) (n:=4000) (by omega) (by omega) (by omega) (by omega)
   simpa using this
  go_enter Tryz.func41,Tryz.ntmps41
  go_wp2_with (go_at_call 84;refine(kgz _ _).mono ?_;rintro e w' ⟨rfl,rfl⟩)
  all_goals first
   | (go_ret;exact⟨retb (by simp),xt⟩)
   | (exfalso
      have D2:=D.out.symm;simp only[Bool.and_eq_false_iff,decide_eq_false_iff_not]at D2
      simp_all
      done)
   | (exfalso
      have D2:=D.out.symm;simp only[Bool.and_eq_false_iff,decide_eq_false_iff_not]at D2
      simp_all
      omega)
 | true=>
  obtain⟨version,x,y,tw,th,size,cA,cc,cells,bA,bc,beacons,lA,lc,lines⟩:=t;simp only[ChartT.vals,List.cons_append,List.nil_append]at *;have D2:=hdd.symm;simp only[qba,decide_eq_true_eq]at D2;obtain⟨⟨⟨⟨⟨⟨⟨⟨d1,d2⟩,d3⟩,d4⟩,d5⟩,d6⟩,d7⟩,d8⟩,d9⟩:=D2;clear hdd HL
  have hm2:=kdg (x:=tw) (y:=size) (m:=4000) (n:=10000) (by omega) (by omega) (by omega) (by omega)
  have hm3:=kdg (x:=th) (y:=size) (m:=4000) (n:=10000) (by omega) (by omega) (by omega) (by omega)
  simp only[Int.reduceMul,Int.reduceNeg]at hm2 hm3
  have d7z:¬ 4000<(cells.length:Int):=by omega
  have d6z:((tw*th:Int) != (cells.length:Int))=false:=by simp[d6]
  cases hp:plB (x,y) with
  | false=>
   rw[hp]at K1;clear K3 K4 K5 hxy hp
   go_enter Tryz.func41,Tryz.ntmps41
   go_wp2_with (first|(go_at_call 84;refine(kgz _ _).mono ?_;rintro e w' ⟨rfl,rfl⟩)|(go_at_call 85;refine(K1.out _).mono ?_;rintro e w' ⟨rfl,hb⟩))
   all_goals (go_ret;exact⟨retb (by simp),xt⟩)
  | true=>
   rw[hp]at K1
   have hbd:-500000≤x∧x≤500000∧-500000≤y∧y≤500000:=by
    simp[plB,inB]at hp;omega
   obtain⟨b1,b2,b3,b4⟩:=hbd
   have K2:=Lib.hid (kej (x+tw*size-1,y+th*size-1) (by simp only[I64];omega) (by simp only[I64];omega))
   simp only at K2
   generalize plB (x+tw*size-1,y+th*size-1)=q2 at K2 ⊢;clear hp hxy
   go_enter Tryz.func41,Tryz.ntmps41
   go_wp2_with (first
    | (go_at_call 84;refine(kgz _ _).mono ?_;rintro e w' ⟨rfl,rfl⟩)
    | (go_at_call 85;refine(K1.out _).mono ?_;clear K1;rintro e w' ⟨rfl,hb⟩;obtain⟨hc,hf,hz⟩:=hb.rules;(try simp only[qsa]at hz);have hz0:w.heap.size<w'.heap.size:=by omega;(try have hz1:w.heap.size+1<w'.heap.size:=by omega);(try have hz2:w.heap.size+1+1<w'.heap.size:=by omega);(try have hz3:w.heap.size+1+1+1<w'.heap.size:=by omega))
    | (go_at_call 85;refine(K2.out _).mono ?_;rintro e w2 ⟨rfl,hb2⟩;obtain⟨hc2,hf2,hz2⟩:=hb2.rules;have hz9:w.heap.size<w2.heap.size:=by omega)
    | (go_at_call 86;refine(K3.out _ xt).mono ?_;rintro e w3 ⟨rfl,hb3⟩;obtain⟨hc3,hf3,hz3⟩:=hb3.rules;have hz10:w.heap.size<w3.heap.size:=by omega)
    | (go_at_call 90;refine(K4.out _ xt).mono ?_;rintro e w4 ⟨rfl,hb4⟩;obtain⟨hc4,hf4,hz4⟩:=hb4.rules;have hz11:w.heap.size<w4.heap.size:=by omega)
    | (go_at_call 92;refine(K5.out _ xt).mono ?_;rintro e w5 ⟨rfl,hb5⟩))
   all_goals
    (go_ret;exact⟨retb (by simp_all),xt⟩)
structure EnvT where
 chart:ChartT
 tide:TideT
 rA:Option Addr
 rc:Nat
 rows:List RowT
 wA:Option Addr
 wc:Nat
 waters:List WaterT
def EnvT.vals (e:EnvT):List Value:=e.chart.vals++e.tide.vals++[.slice e.rA e.rows.length e.rc,.slice e.wA e.waters.length e.wc]
structure EnvT.Lies (e:EnvT)(W:World):Prop where
 chart:e.chart.Lies W
 tide:Sl FlowT.vals 9 W e.tide.A e.tide.flows
 rows:Sl kdw 6 W e.rA e.rows
 waters:Sl WaterT.vals 3 W e.wA e.waters
theorem ChartT.Lies.ext {t:ChartT}{W W':World}(h:t.Lies W)(hx:Ext W W'):t.Lies W':=
 ⟨h.cells.ext hx,h.beacons.ext hx,h.lines.ext hx,fun l hl=>(h.pts l hl).ext hx,h.ix,h.iy,h.ib,h.il,h.nc,h.nb,h.nl⟩
theorem EnvT.Lies.ext {e:EnvT}{W W':World}(h:e.Lies W)(hx:Ext W W'):e.Lies W':=⟨h.chart.ext hx,h.tide.ext hx,h.rows.ext hx,h.waters.ext hx⟩
def kfc (e:EnvT):Bool:=kao e.chart&&kbk e.tide&&kfh e.rows&&kcg e.waters
theorem senseValid_14 (e:EnvT)(w:World)(H:e.Lies w):Calls Tryz.prog 14 #[.agg e.vals.toArray] w fun r w'=>r=.returned (.bool (kfc e))∧Ext w w':=by
 have K1:=Lib.hid (fun W (hx:Ext w W)=>keg e.chart W (H.chart.ext hx))
 have K2:=Lib.hid (fun W (hx:Ext w W)=>klb e.tide W (H.tide.ext hx))
 have K3:=Lib.hid (fun W (hx:Ext w W)=>tableValid_43 e.rA e.rc e.rows W (H.rows.ext hx))
 have K4:=Lib.hid (fun W (hx:Ext w W)=>soundValid_44 e.wA e.wc e.waters W (H.waters.ext hx))
 have hdef:kfc e=(kao e.chart&&kbk e.tide&&kfh e.rows&&kcg e.waters):=rfl
 rw[hdef];clear hdef H;generalize kao e.chart=q1 at K1 ⊢;generalize kbk e.tide=q2 at K2 ⊢;generalize kfh e.rows=q3 at K3 ⊢;generalize kcg e.waters=q4 at K4 ⊢;obtain⟨⟨version,x,y,tw,th,size,cA,cc,cells,bA,bc,beacons,lA,lc,lines⟩,⟨tv,ts,tn,⟨r1,r2,r3,r4,r5,r6,r7,r8,r9⟩,fA,fc,flows⟩,rA,rc,rows,wA,wc,waters⟩:=e;simp only[EnvT.vals,ChartT.vals,TideT.vals,FlowT.vals,List.cons_append,List.nil_append]at *
 go_enter Tryz.func14,Tryz.ntmps14
 go_wp2_with (first
  | (go_at_call 41;refine(K1.out _ xt).mono ?_;rintro e w1 ⟨rfl,hb1⟩;obtain⟨hc1,hf1,hz1⟩:=hb1.rules;(try simp only[qsa]at hz1);have hzz1:w.heap.size<w1.heap.size:=by omega)
  | (go_at_call 42;refine(K2.out _ xt).mono ?_;rintro e w2 ⟨rfl,hb2⟩;obtain⟨hc2,hf2,hz2⟩:=hb2.rules;have hzz2:w.heap.size<w2.heap.size:=by omega)
  | (go_at_call 43;refine(K3.out _ xt).mono ?_;rintro e w3 ⟨rfl,hb3⟩;obtain⟨hc3,hf3,hz3⟩:=hb3.rules;have hzz3:w.heap.size<w3.heap.size:=by omega)
  | (go_at_call 44;refine(K4.out _ xt).mono ?_;rintro e w4 ⟨rfl,hb4⟩))
 all_goals (go_ret;exact⟨retb (by simp_all),xt⟩)
def colI (from_ size x:Int):Int:=if x<from_ then -1 else (x-from_) / size
theorem khn (a s x:Int)(h1:-1000000≤a)(h2:a≤1000000)(h3:-1000000≤x)(h4:x≤1000000)(h5:1≤s)(h6:s≤10000)(w:World) :
  Calls Tryz.prog 172 #[.int .i64 a,.int .i64 s,.int .i64 x] w fun e w'=>e=.returned (.int .i64 (colI a s x))∧w=w':=by
 by_cases h:x<a
 ·have e:colI a s x=-1:=by simp[colI,h]
  rw[e];clear e
  go_enter Tryz.func172,Tryz.ntmps172
  go_wp2
  go_ret
  exact⟨rfl,rfl⟩
 ·have e:colI a s x=(x-a) / s:=by simp[colI,h]
  rw[e];clear e
  have hd:0≤(x-a) / s:=Int.ediv_nonneg (by omega) (by omega)
  have hd2:(x-a) / s≤x-a:=Int.ediv_le_self _ (by omega)
  have ht:(x-a).tdiv s=(x-a) / s:=Int.tdiv_eq_ediv_of_nonneg (by omega)
  go_enter Tryz.func172,Tryz.ntmps172
  go_wp2
  go_ret
  exact⟨by first|rfl|(simp[ht];done)|(simp[ht];omega),rfl⟩
end Go.Proofs.YtcgghcicnanliaaGreatDoor
