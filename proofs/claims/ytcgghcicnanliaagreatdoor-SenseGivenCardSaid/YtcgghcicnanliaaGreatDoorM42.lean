/- Walks: region.Box; Walks: sense.observer.height; Walks: sense.seen; Walks: echo.Conflicts; Walks: sense.Conflicts; Plain laws for SenseGiven. Conditions: as each statement says. -/
import Derived.Test.YtcgghcicnanliaaGreatDoorM18
import Derived.Test.YtcgghcicnanliaaGreatDoorM40
set_option linter.unusedVariables false
set_option linter.unusedSimpArgs false
namespace Go.Proofs.YtcgghcicnanliaaGreatDoor
open Go.RowKit Go.Lib
set_option maxHeartbeats 8000000
set_option maxRecDepth 100000
theorem regionBox_32 (A:Option Addr)(c:Nat)(r:List PV)(w:World)(R:Rg w A r)(hr:r.length≤32)(h0:0<r.length)(hV:AllV r) :
  Calls Tryz.prog 32 #[.slice A r.length c] w fun e w'=>e=.returned (.tuple #[.agg #[.int .i64 (rLo (r.map (·.l)) r.length).1,.int .i64 (rLo (r.map (·.l)) r.length).2],.agg #[.int .i64 (rHi (r.map (·.l)) r.length).1,.int .i64 (rHi (r.map (·.l)) r.length).2],.bool true,.int .i64 0])∧Ext w w':=by
 have K72:=Lib.hid (fun W (hx:Ext w W)=>kdp A c r W (R.ext hx) hr hV)
 have K73:Hid (∀x∈r,∀W,Ext w W→Calls Tryz.prog 73 #[.slice x.A x.l.length x.c] W fun e w'=>e=.returned (.tuple #[.agg #[.int .i64 (kbb x.l).1,.int .i64 (kbb x.l).2],.agg #[.int .i64 (kbc x.l).1,.int .i64 (kbc x.l).2],.int .i64 0])∧Ext W w'):=fun x hx W hw=>by
  have:=khm x.A x.c x.l W ((R.each x hx).ext hw) (hV x hx).2
  rw[boxV,if_pos (hV x hx).1]at this
  exact this
 have NE:Hid (∀x∈r,0<x.l.length):=fun x hx=>by have:=(hV x hx).1;simp only[kas,qba,decide_eq_true_eq]at this;omega
 have RR:=Lib.hid R;clear R hV
 go_enter Tryz.func32,Tryz.ntmps32
 go_wp2_with fail
 go_at_call 72
 refine(K72.out _ xt).mono ?_
 rintro e w1 ⟨rfl,hx1⟩
 have u0:w1.heap[w.heap.size]?=some (.cells #[.int .i64 0,.int .i64 0] 43):=kaf hx1 ((Below.heap_alloc _ _ _ (by simp)).trans (qan w _))
 have u1:w1.heap[w.heap.size+1]?=some (.cells #[.int .i64 0,.int .i64 0] 43):=by
  refine kaf hx1 ?_
  have:=qan (w.alloc (.cells #[.int .i64 0,.int .i64 0] 43)) (.cells #[.int .i64 0,.int .i64 0] 43)
  rwa [qsa]at this
 have hE1:Hid (Ext w w1):=Ext.trans (((Ext.refl w).alloc _).alloc _) hx1
 clear hx1
 go_wp2_with fail
 go_loopg [6,7,8,9,10,18] r.length (fun gg _ _ _ _ _ s18 wr=>∃kk:Nat,kk≤r.length∧r.length-kk≤gg∧s18=.int .i64 kk∧∃lo hi:Pt,wr.heap[w.heap.size]?=some (.cells #[.int .i64 lo.1,.int .i64 lo.2] 43)∧wr.heap[w.heap.size+1]?=some (.cells #[.int .i64 hi.1,.int .i64 hi.2] 43) ∧
  Hid (0<kk→lo=rLo (r.map (·.l)) kk∧hi=rHi (r.map (·.l)) kk)∧Hid (Ext w wr))
 case atStart=>exact⟨0,Nat.zero_le _,by omega,rfl,(0,0),(0,0),u0,u1,fun h=>absurd h (Nat.lt_irrefl _),hE1⟩
 case round=>
  obtain⟨kk,hkk,hg,rfl,⟨lo1,lo2⟩,⟨hi1,hi2⟩,v0,v1,HB,hE⟩:=hrel
  simp only at v0 v1
  obtain⟨p0,p1,p2,p3⟩:=kae v0;obtain⟨q0,q1,q2,q3⟩:=kae v1;have z0:=(qaz v0).1;have z1:=(qaz v1).1
  by_cases hlt:kk<r.length
  rotate_left
  ·have ek:kk=r.length:=by omega
   subst ek
   have hltz:¬ (r.length:Int)<(r.length:Int):=by omega
   have h0z:(r.length:Int) > 0:=by omega
   go_wp2_with fail
   go_region
   refine kbd (G:=fun W=>Exit.then _ _ _ _ W) (fun V=>Ext w V∧V.heap[w.heap.size]?=some (.cells #[.int .i64 lo1,.int .i64 lo2] 43)∧V.heap[w.heap.size+1]?=some (.cells #[.int .i64 hi1,.int .i64 hi2] 43)) ?_ ?facts
   case facts=>
    refine⟨((((hE.out.setCell (by simp only;omega) _).setCell (by simp only;omega) _).setCell (by simp only;omega) _).setCell (by simp only;omega) _).drew,?_,?_⟩
    ·exact kah (kah (kcd v0 _ _) (by omega) _) (by omega) _
    ·exact kcd (kah (kah v1 (by omega) _) (by omega) _) _ _
   clear v0 v1 p0 p1 p2 p3 q0 q1 q2 q3 z0 z1 hE;rintro V ⟨hE,v0,v1⟩;obtain⟨p0,p1,_,_⟩:=kae v0;obtain⟨q0,q1,_,_⟩:=kae v1;have HE:=Lib.hid hE;have HB2:=Lib.hid (HB.out h0);clear v0 v1 hE HB
   go_wp2_with fail
   refine bodyPost_ret (by simp[results,Tryz.f32,go_sem, *];rfl) rfl ?_
   refine⟨?_,HE.out⟩
   rw[←HB2.out.1,←HB2.out.2]
  ·have hltz:(kk:Int)<(r.length:Int):=by omega
   obtain⟨xb,xoff,rfl⟩:=RR.out.sl.addr (by omega)
   obtain⟨x,hx⟩:∃x,r[kk]?=some x:=⟨_,qgq hlt⟩
   have cr:wr.cell? ⟨xb,xoff+kk,none⟩=some (.slice x.A x.l.length x.c):=by have:=(RR.out.sl.ext hE.out).at_ hx (i:=0) rfl;simpa using this
   have yb:xb<wr.heap.size:=(RR.out.sl.ext hE.out).blk (by omega)
   have Kx:=Lib.hid (K73.out x (qmq hx));have nx:=NE.out x (qmq hx)
   have GX:Hid ((r.map (·.l))[kk]?.getD []=x.l):=by show _=_;rw[List.getElem?_map,hx];rfl
   clear hx;obtain⟨xA,xc,xl⟩:=x
   simp only at cr Kx nx GX
   go_wp2_with fail
   go_at_call 73
   refine(Kx.out _ hE.out).mono ?_
   rintro e w2 ⟨rfl,hx2⟩;replace v0:=kaf hx2 v0;replace v1:=kaf hx2 v1;replace hE:=Lib.hid (hE.out.trans hx2)
   have GB:Hid (kbb ((r.map (·.l))[kk]?.getD [])=kbb xl∧kbc ((r.map (·.l))[kk]?.getD [])=kbc xl):=by show _∧_;rw[GX.out];exact⟨rfl,rfl⟩
   clear Kx GX;generalize kbb xl=bl at GB ⊢;generalize kbc xl=bh at GB ⊢;obtain⟨bl1,bl2⟩:=bl;obtain⟨bh1,bh2⟩:=bh;clear p0 p1 p2 p3 q0 q1 q2 q3 z0 z1;obtain⟨p0,p1,p2,p3⟩:=kae v0;obtain⟨q0,q1,q2,q3⟩:=kae v1;have z0:=(qaz v0).1;have z1:=(qaz v1).1;have yw:=z1;clear hx2 cr yb
   by_cases hk0:kk=0
   ·subst hk0
    go_wp2_with fail
    obtain⟨U,hU⟩:∃U,(w2.alloc (.cells #[.int .i64 bl1,.int .i64 bl2] 43)).alloc (.cells #[.int .i64 bh1,.int .i64 bh2] 43)=U:=⟨_,rfl⟩
    have hEU:Ext w2 U:=by rw[←hU];exact((Ext.refl w2).alloc _).alloc _
    have x0:U.heap[w2.heap.size]?=some (.cells #[.int .i64 bl1,.int .i64 bl2] 43):=by rw[←hU];exact(Below.heap_alloc _ _ _ (by simp)).trans (qan w2 _)
    have x1:U.heap[w2.heap.size+1]?=some (.cells #[.int .i64 bh1,.int .i64 bh2] 43):=by
     rw[←hU];have:=qan (w2.alloc (.cells #[.int .i64 bl1,.int .i64 bl2] 43)) (.cells #[.int .i64 bh1,.int .i64 bh2] 43);rwa [qsa]at this
    rw[hU];replace v0:=kaf hEU v0;replace v1:=kaf hEU v1;replace hE:=Lib.hid (hE.out.trans hEU)
    have hzU:w2.heap.size+2=U.heap.size:=by rw[←hU];simp
    clear p0 p1 p2 p3 q0 q1 q2 q3 z0 z1 hU hEU;obtain⟨p0,p1,p2,p3⟩:=kae v0;obtain⟨q0,q1,q2,q3⟩:=kae v1;obtain⟨p4,p5,p6,p7⟩:=kae x0;obtain⟨q4,q5,q6,q7⟩:=kae x1;have z0:=(qaz v0).1;have z1:=(qaz v1).1;have z2:=(qaz x0).1;have z3:=(qaz x1).1;have HX0:=Lib.hid (And.intro x0 x1)
    have y0:w.heap.size+1<w2.heap.size:=yw
    clear x0 x1
    go_region
    refine kbd (G:=fun W=>Exit.then _ _ _ _ W) (fun V=>Ext w V∧(∃l1 l2 h1 h2:Int,V.heap[w.heap.size]?=some (.cells #[.int .i64 l1,.int .i64 l2] 43)∧V.heap[w.heap.size+1]?=some (.cells #[.int .i64 h1,.int .i64 h2] 43)∧Hid (l1=bl1∧l2=bl2∧h1=bh1∧h2=bh2))∧V.heap[w2.heap.size]?=some (.cells #[.int .i64 bl1,.int .i64 bl2] 43)∧V.heap[w2.heap.size+1]?=some (.cells #[.int .i64 bh1,.int .i64 bh2] 43)) ?_ ?facts
    case facts=>
     refine⟨((((hE.out.setCell (by simp only;omega) _).setCell (by simp only;omega) _).setCell (by simp only;omega) _).setCell (by simp only;omega) _).drew,⟨bl1,bl2,bh1,bh2,?_,?_,rfl,rfl,rfl,rfl⟩,?_,?_⟩
     ·exact kah (kah (kcd v0 _ _) (by omega) _) (by omega) _
     ·exact kcd (kah (kah v1 (by omega) _) (by omega) _) _ _
     ·exact kah (kah (kah (kah HX0.out.1 (by omega) _) (by omega) _) (by omega) _) (by omega) _
     ·exact kah (kah (kah (kah HX0.out.2 (by omega) _) (by omega) _) (by omega) _) (by omega) _
    clear v0 v1 p0 p1 p2 p3 q0 q1 q2 q3 z0 z1 z2 z3 hE p4 p5 p6 p7 q4 q5 q6 q7;rintro V ⟨hE,⟨l1,l2,h1,h2,v0,v1,HQ⟩,x0,x1⟩;obtain⟨p0,p1,p2,p3⟩:=kae v0;obtain⟨q0,q1,q2,q3⟩:=kae v1;obtain⟨p4,p5,p6,p7⟩:=kae x0;obtain⟨q4,q5,q6,q7⟩:=kae x1;have z0:=(qaz v0).1;have z1:=(qaz v1).1;have z2:=(qaz x0).1;have z3:=(qaz x1).1;have HV:=Lib.hid (And.intro v0 v1);have HE:=Lib.hid hE;clear v0 v1 x0 x1 hE
    go_wp2_with fail
    go_roundg (r.length-(0+1))
    case measure=>omega
    case rel=>
     refine⟨0+1,by omega,Nat.le_refl _,by go_num,(min l1 bl1,min l2 bl2),(max h1 bh1,max h2 bh2),?_,?_,fun _=>?_,?_⟩
     ·exact kah (kah (kcd HV.out.1 _ _) (by omega) _) (by omega) _
     ·exact kcd (kah (kah HV.out.2 (by omega) _) (by omega) _) _ _
     ·obtain⟨q1,q2,q3,q4⟩:=HQ.out;simp only[rLo,rHi,GB.out.1,GB.out.2,q1,q2,q3,q4];exact⟨trivial,trivial⟩
     ·exact(((HE.out.setCell (by simp only;omega) _).setCell (by simp only;omega) _).setCell (by simp only;omega) _).setCell (by simp only;omega) _
   ·have hkz:¬ (kk:Int)=0:=by omega
    go_upto_region 9 with fail
    refine kbd (G:=fun W=>Code.wp _ _ _ _ W) (fun V=>Ext w V∧(V.heap[w.heap.size]?=some (.cells #[.int .i64 lo1,.int .i64 lo2] 43)∧V.heap[w.heap.size+1]?=some (.cells #[.int .i64 hi1,.int .i64 hi2] 43))∧V.heap[w2.heap.size]?=some (.cells #[.int .i64 bl1,.int .i64 bl2] 43)∧V.heap[w2.heap.size+1]?=some (.cells #[.int .i64 bh1,.int .i64 bh2] 43)) ?_ ?facts
    case facts=>
     have hEU:Ext w2 ((w2.alloc (.cells #[.int .i64 bl1,.int .i64 bl2] 43)).alloc (.cells #[.int .i64 bh1,.int .i64 bh2] 43)):=((Ext.refl w2).alloc _).alloc _
     refine⟨hE.out.trans hEU,⟨kaf hEU v0,kaf hEU v1⟩,?_,?_⟩
     ·exact(Below.heap_alloc _ _ _ (by simp)).trans (qan w2 _)
     ·have:=qan (w2.alloc (.cells #[.int .i64 bl1,.int .i64 bl2] 43)) (.cells #[.int .i64 bh1,.int .i64 bh2] 43);rwa [qsa]at this
    clear v0 v1 p0 p1 p2 p3 q0 q1 q2 q3 z0 z1 hE;rintro V ⟨hE,⟨v0,v1⟩,x0,x1⟩;obtain⟨p0,p1,p2,p3⟩:=kae v0;obtain⟨q0,q1,q2,q3⟩:=kae v1;obtain⟨p4,p5,p6,p7⟩:=kae x0;obtain⟨q4,q5,q6,q7⟩:=kae x1;have z0:=(qaz v0).1;have z1:=(qaz v1).1;have z2:=(qaz x0).1;have z3:=(qaz x1).1;have HV:=Lib.hid (And.intro v0 v1);have HE:=Lib.hid hE;clear v0 v1 x0 x1 hE
    go_wp2_with fail
    go_roundg (r.length-(kk+1))
    case measure=>omega
    case rel=>
     refine⟨kk+1,by omega,Nat.le_refl _,by go_num,(min lo1 bl1,min lo2 bl2),(max hi1 bh1,max hi2 bh2),?_,?_,fun _=>?_,?_⟩
     ·exact kah (kah (kcd HV.out.1 _ _) (by omega) _) (by omega) _
     ·exact kcd (kah (kah HV.out.2 (by omega) _) (by omega) _) _ _
     ·(obtain⟨b1,b2⟩:=HB.out (by omega);simp only[rLo,rHi,GB.out.1,GB.out.2,←b1,←b2];exact⟨trivial,trivial⟩)
     ·exact(((HE.out.setCell (by simp only;omega) _).setCell (by simp only;omega) _).setCell (by simp only;omega) _).setCell (by simp only;omega) _
theorem seen_env {e:EnvT}{o:EntryT}{rest:List Value}{w:World}{B:Nat}(h:Cells w B (e.vals++o.vals++rest)){k:Nat}{v:Value}(hv:e.vals[k]?=some v):w.cell? ⟨B,k,none⟩=some v:=by
 refine h.2 k v ?_
 rw[List.append_assoc,List.getElem?_append_left (List.getElem?_eq_some_iff.1 hv).1]
 exact hv
def kbo (t:TideT)(ls:List (List Pt))(τ : Int):Sp:=let f:=kga t (rLo ls ls.length) (rHi ls ls.length) τ;(f.hlo,f.hhi)
theorem height_63 (e:EnvT)(o:EntryT)(rest:List Value)(B:Nat)(A:Option Addr)(c:Nat)(r:List PV)(w:World)(hC:Cells w B (e.vals++o.vals++rest))(hok:kbk e.tide=true)(ht:0≤o.time∧o.time≤1000000000)(H:Sl FlowT.vals 9 w e.tide.A e.tide.flows)
  (R:Rg w A r) (hr:r.length≤32) (h0:0<r.length) (hV:AllV r) :
  Calls Tryz.prog 63 #[.pointer (some ⟨B,0,none⟩),.slice A r.length c] w fun e' w'=>e'=.returned (.agg #[.int .i64 (kbo e.tide (r.map (·.l)) o.time).1,.int .i64 (kbo e.tide (r.map (·.l)) o.time).2])∧Ext w w':=by
 have hB:=hC.1
 have c25:w.cell? ⟨B,25,none⟩=some (.int .i64 o.time):=hC.2 25 _ rfl
 obtain⟨i1,i2,i3,i4⟩:=kmx (r:=r.map (·.l)) (by simpa using h0) (fun l hl=>by
  obtain⟨x,hx,rfl⟩:=List.mem_map.1 hl
  have:=(hV x hx).1
  simp only[kas,qba,decide_eq_true_eq]at this
  exact⟨by omega,(hV x hx).2⟩) r.length (by simp)
 have K32:=Lib.hid (fun W (hx:Ext w W)=>regionBox_32 A c r W (R.ext hx) hr h0 hV)
 have K137:=Lib.hid (fun W (hx:Ext w W)=>bound_137 e.tide o.time (rLo (r.map (·.l)) r.length) (rHi (r.map (·.l)) r.length) W hok i1 i2 i3 i4 ht (H.ext hx))
 have CE:=Lib.hid (fun k v (hv:e.vals[k]?=some v) W (h:Ext w W)=>seen_env (hC.ext h) hv)
 have HH:Hid (kbo e.tide (r.map (·.l)) o.time=((kga e.tide (rLo (r.map (·.l)) r.length) (rHi (r.map (·.l)) r.length) o.time).hlo,(kga e.tide (rLo (r.map (·.l)) r.length) (rHi (r.map (·.l)) r.length) o.time).hhi)):=by
  show _=_
  unfold kbo;rw[List.length_map]
 rw[HH.out];generalize kga e.tide (rLo (r.map (·.l)) r.length) (rHi (r.map (·.l)) r.length) o.time=f at K137 ⊢;generalize rLo (r.map (·.l)) r.length=lo at K137 K32;generalize rHi (r.map (·.l)) r.length=hi at K137 K32;clear HH hC hok ht H R hr h0 hV i1 i2 i3 i4;generalize r.length=n at *;generalize o.time=tm at *;obtain⟨f1,f2,f3,f4,f5,f6,f7,f8,f9⟩:=f;obtain⟨lo1,lo2⟩:=lo;obtain⟨hi1,hi2⟩:=hi;obtain⟨⟨version,x,y,tw,th,size,cA,cc,cells,bA,bc,beacons,lA,lc,lines⟩,⟨tv,start,slots,⟨r1,r2,r3,r4,r5,r6,r7,r8,r9⟩,fA,fc,flows⟩,rA,rc,rows,wA,wc,waters⟩:=e;simp only[TideT.vals,FlowT.vals,List.cons_append,List.nil_append]at K137 K32
 have CT:Hid (∀W,Ext w W→(W.cell? ⟨B,9,none⟩=some (.int .i64 tv)∧W.cell? ⟨B,10,none⟩=some (.int .i64 start)∧W.cell? ⟨B,11,none⟩=some (.int .i64 slots)∧W.cell? ⟨B,12,none⟩=some (.int .i64 r1)∧W.cell? ⟨B,13,none⟩=some (.int .i64 r2)∧W.cell? ⟨B,14,none⟩=some (.int .i64 r3)∧W.cell? ⟨B,15,none⟩=some (.int .i64 r4) ∧
   W.cell? ⟨B,16,none⟩=some (.int .i64 r5)∧W.cell? ⟨B,17,none⟩=some (.int .i64 r6)∧W.cell? ⟨B,18,none⟩=some (.int .i64 r7)∧W.cell? ⟨B,19,none⟩=some (.int .i64 r8)∧W.cell? ⟨B,20,none⟩=some (.int .i64 r9)∧W.cell? ⟨B,21,none⟩=some (.slice fA flows.length fc))):=fun W h=>
  ⟨CE.out 9 _ rfl W h,CE.out 10 _ rfl W h,CE.out 11 _ rfl W h,CE.out 12 _ rfl W h,CE.out 13 _ rfl W h,CE.out 14 _ rfl W h,CE.out 15 _ rfl W h,CE.out 16 _ rfl W h,CE.out 17 _ rfl W h,CE.out 18 _ rfl W h,CE.out 19 _ rfl W h,CE.out 20 _ rfl W h,CE.out 21 _ rfl W h⟩
 have C25:=Lib.hid c25;clear CE c25
 go_enter Tryz.func63,Tryz.ntmps63
 go_wp2_with fail
 try go_at_call 32
 refine(K32.out _ xt).mono ?_
 rintro e w1 ⟨rfl,hx1⟩
 have t4:w1.heap[w.heap.size]?=some (.cells #[.int .i64 0,.int .i64 0] 28):=kaf hx1 (qan w _)
 have hE1:Ext w w1:=Ext.trans xt hx1
 clear hx1 K32
 go_wp2_with fail
 obtain⟨w2,hw2⟩:∃w2,(w1.alloc (.cells #[.int .i64 lo1,.int .i64 lo2] 43)).alloc (.cells #[.int .i64 hi1,.int .i64 hi2] 43)=w2:=⟨_,rfl⟩
 have tb:=kbj w1 _ _ 43 43 w2 (by rw[←hw2];exact Ext.refl _)
 have hE2:Ext w w2:=by rw[←hw2];exact(hE1.alloc _).alloc _
 have t4':w2.heap[w.heap.size]?=some (.cells #[.int .i64 0,.int .i64 0] 28):=by
  rw[←hw2];exact kaf (((Ext.refl w1).alloc _).alloc _) t4
 have z0:B<w2.heap.size:=Nat.lt_of_lt_of_le hB hE2.len
 have z1:w1.heap.size<w2.heap.size:=(qaz tb.1).1
 have z2:w1.heap.size+1<w2.heap.size:=(qaz tb.2).1
 have z3:w.heap.size<w2.heap.size:=(qaz t4').1
 have sX:Hid (∀W,Ext w2 W→(W.cell? ⟨w1.heap.size,0,none⟩=some (.int .i64 lo1)∧W.cell? ⟨w1.heap.size,1,none⟩=some (.int .i64 lo2))∧W.cell? ⟨w1.heap.size+1,0,none⟩=some (.int .i64 hi1)∧W.cell? ⟨w1.heap.size+1,1,none⟩=some (.int .i64 hi2)):=fun W h=>
  ⟨⟨(h.rules.1 _ _ z1).trans (by simp[World.cell?,tb.1]),(h.rules.1 _ _ z1).trans (by simp[World.cell?,tb.1])⟩,(h.rules.1 _ _ z2).trans (by simp[World.cell?,tb.2]),(h.rules.1 _ _ z2).trans (by simp[World.cell?,tb.2])⟩
 rw[hw2];clear tb hw2 t4 hE1
 refine wp_region_box (aF:=?aF) 23 21 22 19 9 37 30 30 #[.int .i64 0,.int .i64 0,.int .i64 0,.int .i64 0,.int .i64 0,.int .i64 0,.int .i64 0,.int .i64 0,.int .i64 0] #[.int .i64 f1,.int .i64 f2,.int .i64 f3,.int .i64 f4,.int .i64 f5,.int .i64 f6,.int .i64 f7,.int .i64 f8,.int .i64 f9] (by kernel_rfl) (by kernel_rfl) (by kernel_rfl) ?run (Nat.le_of_ble_eq_true (by kernel_rfl)) (by kernel_rfl) rfl (by kernel_rfl) (by kernel_rfl) (by decide +kernel) ?walk ?fin ?rest
 case run=>
  intro o ho a W;cases ho
  simp[go_sem,ptrB]
 case walk=>
  intro W1 hW1;have hE1:=hE2.trans hW1;obtain⟨⟨s0,s1⟩,s2,s3⟩:=sX.out W1 hW1;obtain⟨k9,k10,k11,k12,k13,k14,k15,k16,k17,k18,k19,k20,k21⟩:=CT.out W1 hE1;have c25:=(hE1.rules.1 B 25 hB).trans C25.out
  have y0:B<W1.heap.size:=Nat.lt_of_lt_of_le hB hE1.len
  have y1:w1.heap.size<W1.heap.size:=Nat.lt_of_lt_of_le z1 hW1.len
  have y2:w1.heap.size+1<W1.heap.size:=Nat.lt_of_lt_of_le z2 hW1.len
  have HE1:=Lib.hid hE1;simp only[List.take_succ_cons,List.take_zero,List.filter_cons,isSk,Bool.not_false,Bool.not_true,if_true,Bool.false_eq_true,if_false,List.filter_nil]
  repeat (first|go_big_quiet_step ((go_at_call 137;exact Xt.calls (K137.out _ (HE1.out.trans (Xt.ext _)))))|quiet_step ((go_at_call 137;exact Xt.calls (K137.out _ (HE1.out.trans (Xt.ext _))))))
  refine wpQuiet_nil ?_
  rfl
 case fin=>rfl
 case rest=>
  intro p9 W1 hW1 g9 v9;have v9h:=Lib.hid v9;obtain⟨q0,q1,q2,q3,q4,q5,q6,q7,q8⟩:=kbi v9;have i9:=(qaz v9).1;have n4:=kaf hW1 t4';obtain⟨m0,m1,m2,m3⟩:=kae n4;have i4:=(qaz n4).1;have HE3:=Lib.hid (hE2.trans hW1);have HN4:=Lib.hid n4;simp only[ptrB,List.drop_succ_cons,List.drop_zero];clear sX CT K137 v9 n4
  go_wp2_with fail
  refine bodyPost_ret (by simp[results,Tryz.f63,go_sem,m0,m1,i4];rfl) rfl ?_
  exact⟨rfl,(HE3.out.setCell (by simp only;omega) _).setCell (by simp only;omega) _⟩
theorem heap_newAt (W:World)(n:Nat)(o:Obj)(h:W.heap.size=n):(W.alloc o).heap[n]?=some o:=by
 subst h
 exact qan W o
theorem look_2h (e:EnvT)(o:EntryT)(hk:o.kind=2)(w:World) :
  Calls Tryz.prog 38 #[.agg e.vals.toArray,.agg o.vals.toArray] w fun r w'=>∃B,r=.returned (.tuple #[.pointer (some ⟨B,0,none⟩),.bool true])∧w'.heap[B]?=some (.cells (obsL e o (0,0) 0 none 0 0).toArray 95)∧w.heap.size≤B∧Ext w w':=by
 have KB:=Lib.hid (obs_built e o);have hsz:=e.size;have hsz2:=o.size
 have ho2:o.vals.toArray[2]?=some (.int .i64 o.kind):=rfl
 generalize (obsL e o (0,0) 0 none 0 0).toArray=OL at KB ⊢;generalize e.vals.toArray=ev at KB hsz ⊢;generalize o.vals.toArray=ov at KB hsz2 ho2 ⊢;have KL:=Lib.hid (kle.trans (congrArg some hsz.symm));have KM:=Lib.hid (knm.trans (congrArg some hsz2.symm));have KX:=Lib.hid (kbj w ev ov 37 40);clear hsz hsz2;generalize o.kind=kd at hk ho2;subst hk
 go_enter Tryz.func38,Tryz.ntmps38
 go_wp2_with (first
  | (refine wpList_load_row rfl 37 _ rfl _ rfl 37 ev _ _ (KX.out _ xt).1 Tryz.underlying37 rfl KL.out ?_)
  | (refine wpList_load_row rfl 40 _ rfl _ rfl 40 ov _ _ (KX.out _ xt).2 Tryz.underlying40 rfl KM.out ?_)
  | (refine kfn rfl 95 _ rfl _ _ KB.out (by kernel_rfl) ?_))
 go_ret2
 exact⟨_,rfl,heap_newAt _ (w.heap.size+1+1) _ (by simp only[qsa]),by omega,xt⟩
theorem seen_53h (e:EnvT)(o:EntryT)(A:Option Addr)(c:Nat)(r:List PV)(w:World)(H:e.Lies w)(hok:kfc e=true)(hk:o.kind=2)(hf:kgn o=true)(R:Rg w A r)(hr:r.length≤32)(hV:AllV r) :
  Calls Tryz.prog 53 #[.agg e.vals.toArray,.slice A r.length c,.agg o.vals.toArray] w fun x w'=>∃B,x=.returned (.tuple #[.pointer (some ⟨B,0,none⟩),.int .i64 0])∧w'.heap[B]?=some (.cells (obsL e o (0,0) 0 none 0 0).toArray 95)∧w.heap.size≤B∧Ext w w':=by
 have K1:=Lib.hid (fun W (hx:Ext w W)=>kdp A c r W (R.ext hx) hr hV)
 have K2:=Lib.hid (fun W (h:Ext w W)=>senseValid_14 e W (H.ext h))
 rw[hok]at K2
 have K3:=Lib.hid (fun W=>isFormed_37 o (by omega) hf W)
 have K4:=Lib.hid (fun W=>look_2h e o hk W)
 have hsz:=e.size;have hsz2:=o.size
 have ho2:o.vals.toArray[2]?=some (.int .i64 2):=by rw[←hk];rfl
 generalize (obsL e o (0,0) 0 none 0 0).toArray=ob at K4 ⊢;generalize e.vals.toArray=ev at K2 K4 hsz ⊢;generalize o.vals.toArray=ov at K3 K4 hsz2 ho2 ⊢;clear H hok hk hf R hr hV;generalize r.length=n at *;have KL:=Lib.hid (kle.trans (congrArg some hsz.symm));have KM:=Lib.hid (knm.trans (congrArg some hsz2.symm));have KX:=Lib.hid (kbj w ev ov 37 40);clear hsz hsz2
 go_enter Tryz.func53,Tryz.ntmps53
 go_wp2_with (first
  | (refine kak (by rfl) 37 _ rfl _ rfl 37 ev _ _ (KX.out _ xt).1 Tryz.underlying37 rfl KL.out ?_)
  | (refine kak (by rfl) 40 _ rfl _ rfl 40 ov _ _ (KX.out _ xt).2 Tryz.underlying40 rfl KM.out ?_)
  | (go_at_call 72;refine(K1.out _ xt).mono ?_;rintro e w1 ⟨rfl,hb1⟩;obtain⟨hc1,hf1,hz1⟩:=hb1.rules;(try simp only[qsa]at hz1);(have hzz1:w.heap.size<w1.heap.size:=by omega);(have hzy1:w.heap.size+1<w1.heap.size:=by omega))
  | (go_at_call 14;refine(K2.out _ xt).mono ?_;rintro e w2 ⟨rfl,hb2⟩;obtain⟨hc2,hf2,hz2⟩:=hb2.rules;(try simp only[qsa]at hz2);(have hzz2:w.heap.size<w2.heap.size:=by omega);(have hzy2:w.heap.size+1<w2.heap.size:=by omega))
  | (go_at_call 37;refine(K3.out _).mono ?_;rintro e w3 ⟨rfl,hb3⟩;obtain⟨hc3,hf3,hz3⟩:=hb3.rules;(have hzz3:w.heap.size<w3.heap.size:=by omega);(have hzy3:w.heap.size+1<w3.heap.size:=by omega))
  | (go_at_call 38;refine(K4.out _).mono ?_;rintro e w4 ⟨B,rfl,hC,hB,hb4⟩;have HB:=Lib.hid hC;have HBz:=Lib.hid hB;clear hC hB))
 go_ret2
 exact⟨B,rfl,HB.out,by have:=HBz.out;omega,xt⟩
theorem seen_53 (e:EnvT)(o:EntryT)(A:Option Addr)(c:Nat)(r:List PV)(w:World)(H:e.Lies w)(hok:kfc e=true)(hk:o.kind=2)(hf:kgn o=true)(R:Rg w A r)(hr:r.length≤32)(hV:AllV r) :
  Calls Tryz.prog 53 #[.agg e.vals.toArray,.slice A r.length c,.agg o.vals.toArray] w fun x w'=>∃B,x=.returned (.tuple #[.pointer (some ⟨B,0,none⟩),.int .i64 0])∧Cells w' B (obsL e o (0,0) 0 none 0 0)∧w.heap.size≤B∧Ext w w':=
 (seen_53h e o A c r w H hok hk hf R hr hV).mono fun x w' ⟨B,h1,h2,h3,h4⟩=>⟨B,h1,Cells.of_heap h2,h3,h4⟩
attribute [local go_sem] Oper.semAt_some
def fitsI (t:ChartT)(h v:Sp)(i:Int):Bool:=match t.cells[i.toNat]? with
 | none=>true
 | some y=>fitsB y h v
def badL (t:ChartT)(h v:Sp)(p:List Pt):List Int:=(ken t p).filter fun i=>!fitsI t h v i
def kfb (t:ChartT)(h v:Sp)(r:List PV):List Int:=r.flatMap fun p=>badL t h v p.l
def kef (Bc:Nat):Value:=.func (.func 226) #[] #[.pointer (some ⟨Bc,0,none⟩),.pointer (some ⟨Bc+1,0,none⟩),.pointer (some ⟨Bc+1+1,0,none⟩)]
def fzC (L:koj)(b Bo:Nat):Fz where
 own W k:=∃u,W.heap[Bo]?=some (.cells #[u] 41)∧(k=Bo∨u.ownBlock=some k)
 p W:=Fix L W∧∃(u:Value) (l:List Int),W.heap[Bo]?=some (.cells #[u] 41)∧LI b W u l
 s X Y row h hg hr:=by
  obtain⟨h1,u,l,h2,h3⟩:=h
  have hBo:Y.heap[Bo]?=some (.cells #[u] 41):=(hg.block Bo (qaz h2).1 (fun e=>by obtain⟨o,ho,hc⟩:=hr Bo e.symm;rw[h2]at ho;cases ho;cases hc)).trans h2
  refine⟨⟨h1.kept hg hr,u,l,hBo,h3.kept hg hr⟩,fun k ⟨u',h4,h5⟩=>?_⟩
  rw[hBo]at h4;cases h4
  exact⟨u,h2,h5⟩
 lt X k h ho:=by
  obtain⟨h1,u,l,h2,h3⟩:=h;obtain⟨u',h4,h5⟩:=ho;rw[h2]at h4;cases h4
  rcases h5 with rfl|h5
  ·exact(qaz h2).1
  ·exact(h3.own k h5).2
theorem fzC_app {L:koj}{b Bo n₀:Nat}{W W1 W2:World}{u u':Value}{l l':List Int}(hn:n₀≤b)(hb:b≤W.heap.size)(hnB:n₀≤Bo)(hu:W.heap[Bo]?=some (.cells #[u] 41))(hl:LI b W u l)(hE:Ext W W1)(hl':LI b W2 u' l')(hg:W1.grownBy W2 u.ownBlock)(hnew:∀j,u'.ownBlock=some j→u.ownBlock=some j∨W1.heap.size≤j)
  (hL1:∀x∈L,x.2.2≠3) (hL2:∀x∈L,x.1≠Bo):Kz n₀ (fzC L b Bo) W (W2.setCell ⟨Bo,0,none⟩ u'):=by
 have h1:W1.heap[Bo]?=some (.cells #[u] 41):=kaf hE hu
 have hl1:=hl.ext hE
 have h2:Boxed W2 Bo 41 u:=hl1.other hg h1 (by decide)
 have hBo:(W2.setCell ⟨Bo,0,none⟩ u').heap[Bo]?=some (.cells #[u'] 41):=h2.set u'
 refine⟨?_,fun f=>⟨⟨?_,u',l',hBo,hl'.setBox h2 (by decide) _⟩,fun k o hk hc ho=>?_⟩⟩
 ·refine(((Below.mono hE (by omega)).trans ?_)).setCell (p:=⟨Bo,0,none⟩) hnB _
  exact(Below.refl n₀ W1).grown hg (by have:=hE.len;omega) (fun k e=>by have:=(hl1.own k e).1;omega)
 ·exact Fix.set (Fix.app (f.1.ext hE) hl1 hg hL1) hL2 _
 ·have hk1:k<W.heap.size:=(qaz hk).1
  have n1:k≠Bo:=fun e=>ho ⟨u,hu,.inl e⟩
  have n2:u.ownBlock≠some k:=fun e=>ho ⟨u,hu,.inr e⟩
  refine⟨?_,fun ⟨u2,h3,h4⟩=>?_⟩
  ·exact(Below.heap_setCell _ _ _ _ n1).trans ((hg.block k (by have:=hE.len;omega) (fun e=>n2 e.symm)).trans ((hE.block k hk1).trans hk))
  ·rw[hBo]at h3
   cases h3
   rcases h4 with h4|h4
   ·exact n1 h4
   ·rcases hnew k h4 with h5|h5
    ·exact n2 h5
    ·have:=hE.len;omega
theorem kkg {t:ChartT}{p:List Pt}{i:Int}(h:i∈ken t p):i∈kig t (kbb p) (kbc p):=(List.mem_filter.1 h).1
theorem bad_len {t:ChartT}(hok:kao t=true)(h v:Sp)(p:List Pt):(badL t h v p).length≤4000:=
 Nat.le_trans (List.length_filter_le _ _) (Nat.le_trans (List.length_filter_le _ _) (klx hok _ _))
theorem conf_len {t:ChartT}(hok:kao t=true)(h v:Sp):∀r:List PV,(kfb t h v r).length≤r.length*4000
 | []=>by simp[kfb]
 | x::r=>by
  have h1:=conf_len hok h v r;have h2:=bad_len hok h v x.l;simp only[kfb,List.flatMap_cons,List.length_append,List.length_cons]at h1 ⊢
  omega
theorem fits_226 {t:ChartT}{h v:Sp}(hok:kao t=true)(hh:kau h.1 h.2 (-2000) 2000=true)(w:World)(H:t.Lies w)(Bc:Nat)(i:Int)(h0:0≤i)(hi:i.toNat<t.cells.length)(W:World)(hx:Ext w W)
  (g0:W.heap[Bc]?=some (.cells t.vals.toArray 26)) (g1:W.heap[Bc+1]?=some (.cells #[.int .i64 h.1,.int .i64 h.2] 28)) (g2:W.heap[Bc+1+1]?=some (.cells #[.int .i64 v.1,.int .i64 v.2] 28)) :
  Calls Tryz.prog 226 #[.int .i64 i,.pointer (some ⟨Bc,0,none⟩),.pointer (some ⟨Bc+1,0,none⟩),.pointer (some ⟨Bc+1+1,0,none⟩)] W fun e w'=>e=.returned (.bool (fitsI t h v i))∧Ext W w':=by
 obtain⟨n,rfl⟩:∃n:Nat,i=(n:Int):=⟨i.toNat,by omega⟩
 obtain⟨y,hy⟩:∃y,t.cells[n]?=some y:=⟨_,qgq (by simpa using hi)⟩
 have hcell:kdx y.lo y.hi y.date=true:=by
  simp only[kao,qba,Bool.not_eq_true']at hok
  have:=List.any_eq_false.1 hok.1.1.2 y (qmq hy)
  simpa using this
 have hhb:-2000≤h.1∧h.1≤2000∧-2000≤h.2∧h.2≤2000:=by
  simp only[kau,qba,decide_eq_true_eq]at hh
  omega
 have e:fitsI t h v (n:Int)=fitsB y h v:=by simp[fitsI,hy]
 rw[e]
 exact fits1_226 Bc (Bc+1) (Bc+1+1) n y h v t.cA t.cc t.cells W (H.cells.ext hx) hy H.nc hcell ⟨hhb.1,hhb.2.1⟩ ⟨hhb.2.2.1,hhb.2.2.2⟩
  (by simp[World.cell?,g0,ChartT.vals]) (by simp[World.cell?,g1]) (by simp[World.cell?,g1]) (by simp[World.cell?,g2]) (by simp[World.cell?,g2])
  (qaz g0).1 (qaz g1).1 (qaz g2).1
theorem marks_own {β : Type}(Ds:List Nat)(n₀:Nat)(h:∀D∈Ds,D<n₀):OwnFrom n₀ (fun (_:β) X=>∀E∈Ds,X.heap[E]?=some (.deferred (some []))):=fun _ _ _ _ h2 hg hr E hE=>
 (hg.block E (qaz (h2 E hE)).1 (fun e=>by have h3:=(hr E e.symm).1;have h4:=h E hE;omega)).trans (h2 E hE)
theorem kls (t:ChartT)(h v:Sp)(A:Option Addr)(c:Nat)(r:List PV)(w:World)(H:t.Lies w)(hok:kao t=true)(hh:kau h.1 h.2 (-2000) 2000=true)(hv:kau v.1 v.2 (-100000) 100000=true)(R:Rg w A r)(hr:r.length≤32)(hV:AllV r) :
  Calls Tryz.prog 62 #[.agg t.vals.toArray,.slice A r.length c,.agg #[.int .i64 h.1,.int .i64 h.2],.agg #[.int .i64 v.1,.int .i64 v.2]] w fun e w'=>∃A2 c2,∃l:List Int,e=.returned (.tuple #[.slice A2 l.length c2,.int .i64 0])∧Sl encI 1 w' A2 l∧(∀i,i∈l↔i∈kfb t h v r)∧l.length≤200000∧Ext w w':=by
 have K72:=Lib.hid (fun W (hx:Ext w W)=>kdp A c r W (R.ext hx) hr hV)
 have K133:=Lib.hid (fun W (hx:Ext w W)=>khx t h v W (H.ext hx) hok hh hv)
 have KF:=Lib.hid (fun Bc i h0 hi W hx g0 g1 g2=>fits_226 (t:=t) (h:=h) (v:=v) hok hh w H Bc i h0 hi W hx g0 g1 g2)
 have RB:Hid (∀p i,i∈ken t p→0≤i∧i.toNat<t.cells.length):=fun p i hi=>kge hok (kkg hi)
 have KT:=Lib.hid (fun x (hx:x∈r) F n Bp Bs B u9 W hn hX hF hF0=>kix F n w.heap.size Bp Bs B x.c t x.l x.A u9 w hn rfl H hok (R.each x hx) (hV x hx).1 (hV x hx).2 W hX hF hF0)
 have CL:Hid (∀k,(kfb t h v (r.take k)).length≤128000):=fun k=>by
  have h1:=conf_len hok h v (r.take k);rw[List.length_take]at h1
  show _≤_
  omega
 have BL:Hid (∀p,(ken t p).length≤4000):=fun p=>Nat.le_trans (List.length_filter_le _ _) (klx hok _ _)
 have CS:Hid (∀k x,r[k]?=some x→kfb t h v (r.take (k+1))=kfb t h v (r.take k)++badL t h v x.l):=fun k x hx=>by
  show kfb t h v _=_
  rw[List.take_add_one,hx]
  simp[kfb,List.flatMap_append]
 have CN:Hid (kfb t h v (r.take 0)=[]):=by show _=_;simp[kfb]
 have RR:=Lib.hid R;obtain⟨nf,hnf⟩:∃nf:Int→Bool,(fitsI t h v)=nf:=⟨_,rfl⟩
 have BD:Hid (∀p,badL t h v p=(ken t p).filter fun i=>!nf i):=fun p=>by show badL t h v p=_;rw[←hnf];rfl
 rw[hnf]at KF;clear H hok hh hv R hV;obtain⟨h1,h2⟩:=h;obtain⟨v1,v2⟩:=v;generalize hcs:t.vals=cs at *
 have hcl:cs.length=9:=by rw[←hcs];rfl
 obtain⟨d0,d1,d2,d3,d4,d5,d6,d7,d8,rfl⟩:∃d0 d1 d2 d3 d4 d5 d6 d7 d8,cs=[d0,d1,d2,d3,d4,d5,d6,d7,d8]:=by
  rw[←hcs];exact⟨_,_,_,_,_,_,_,_,_,rfl⟩
 clear hcl;simp only[List.cons_append,List.nil_append]at *
 refine(callsIn_wide (n:=9)).1 ?_
 refine callsIn_of_wp_marks Tryz.func62 rfl trivial ?_ rfl
 refine wpIn_wide.2 ?_
 simp only[Tryz.ntmps62,List.size_toArray,List.length_cons,List.length_nil,Nat.reduceAdd,Nat.reduceSub,Array.replicate_succ,Array.replicate_zero,List.push_toArray,List.append_toArray,List.nil_append,List.cons_append]
 go_wp2_with fail
 go_at_call 133
 refine(K133.out _ xt).mono ?_
 rintro e w1 ⟨B,rfl,hx1,hB0,hS,hC,hH,hVV⟩;simp only[qsa]at hB0 hS hC hH hVV
 have hE1:Ext w w1:=Ext.trans ((((Ext.refl w).alloc _).alloc _).alloc _) hx1
 have hz1:=hE1.len;have zB:=(qaz hS).1;have zV:=(qaz hVV).1;clear hx1
 go_wp2_with fail
 go_at_call 72
 refine(K72.out _ xt).mono ?_
 rintro e w2 ⟨rfl,hx2⟩;have hz2:=hx2.len
 have hE2:Ext w w2:=hE1.trans (Ext.trans ((Ext.refl w1).alloc _) hx2)
 have hE12:Ext w1 w2:=Ext.trans ((Ext.refl w1).alloc _) hx2
 simp only[qsa]at hz2
 go_wp2_with fail
 obtain⟨L0,hL0⟩:∃L0:koj,L0=[(w1.heap.size,#[.pointer (some ⟨B,0,none⟩)],176),(B,#[d0,d1,d2,d3,d4,d5,d6,d7,d8,kef (w.heap.size+1+1+1),.slice none 0 0],183),
   (w.heap.size+1+1+1,#[d0,d1,d2,d3,d4,d5,d6,d7,d8],26),(w.heap.size+1+1+1+1,#[.int .i64 h1,.int .i64 h2],28),(w.heap.size+1+1+1+1+1,#[.int .i64 v1,.int .i64 v2],28)]:=⟨_,rfl⟩
 have hF2:Fix L0 w2:=by
  have q0:w2.heap[w1.heap.size]?=some (.cells #[.pointer (some ⟨B,0,none⟩)] 176):=kaf hx2 (qan w1 _)
  subst hL0;intro x hx;simp only[List.mem_cons,List.not_mem_nil,or_false]at hx
  rcases hx with rfl|rfl|rfl|rfl|rfl
  ·exact q0
  ·exact kaf hE12 hS
  ·exact kaf hE12 hC
  ·exact kaf hE12 hH
  ·exact kaf hE12 hVV
 have FX:Hid (∀W,Fix L0 W→W.heap[w1.heap.size]?=some (.cells #[.pointer (some ⟨B,0,none⟩)] 176)∧W.heap[B]?=some (.cells #[d0,d1,d2,d3,d4,d5,d6,d7,d8,kef (w.heap.size+1+1+1),.slice none 0 0] 183) ∧
   W.heap[w.heap.size+1+1+1]?=some (.cells #[d0,d1,d2,d3,d4,d5,d6,d7,d8] 26)∧W.heap[w.heap.size+1+1+1+1]?=some (.cells #[.int .i64 h1,.int .i64 h2] 28)∧W.heap[w.heap.size+1+1+1+1+1]?=some (.cells #[.int .i64 v1,.int .i64 v2] 28)):=fun W h=>by
  subst hL0
  exact⟨h (_,_,_) (by simp),h (_,_,_) (by simp),h (_,_,_) (by simp),h (_,_,_) (by simp),h (_,_,_) (by simp)⟩
 have FT:Hid (∀x∈L0,x.2.2≠3∧x.2.2≠41):=fun x hx=>by
  subst hL0;simp only[List.mem_cons,List.not_mem_nil,or_false]at hx
  rcases hx with rfl|rfl|rfl|rfl|rfl<;>exact⟨by simp,by simp⟩
 obtain⟨W0,hW0⟩:∃W0,w2.alloc (.cells #[.slice none 0 0] 41)=W0:=⟨_,rfl⟩
 have bO:Boxed W0 w2.heap.size 41 (.slice none 0 0):=by rw[←hW0];exact qan w2 _
 have hE0:Ext w W0:=by rw[←hW0];exact hE2.alloc _
 have hF0:Fix L0 W0:=hF2.ext (by rw[←hW0];exact(Ext.refl w2).alloc _)
 have hz0:W0.heap.size=w2.heap.size+1:=by rw[←hW0];simp
 obtain⟨Bo,hBo⟩:∃Bo,w2.heap.size=Bo:=⟨_,rfl⟩
 have hnB:w.heap.size≤Bo:=by omega
 rw[hW0];rw[hBo]at bO hz0 ⊢;obtain⟨p1,hp1⟩:∃p1,w1.heap.size=p1:=⟨_,rfl⟩;rw[hp1]at FX ⊢;clear hW0 hF2 hE2 hE12 hx2 hz2 zV zB hVV hH hC hS hE1 hz1 K133 K72 hL0 hBo hp1 hcs hnf hB0;clear w2 w1;obtain⟨Bc,hBc⟩:∃Bc,w.heap.size+1+1+1=Bc:=⟨_,rfl⟩;rw[hBc]at FX;clear hBc;generalize hcf:kfb t (h1,h2) (v1,v2)=cf at *;generalize hbd:badL t (h1,h2) (v1,v2)=bd at *
 have HCF:Hid (cf r=kfb t (h1,h2) (v1,v2) r):=(congrFun hcf r).symm
 clear hcf hbd
 refine at_act (G:=fun A=>Code.wp _ _ _ A _) ?_
 intro A0 hA0
 refine wp_loop_ghost_k (fun k a W=>∃(kk:Nat) (Ds:List Nat) (u14 u33 u34 u35 u36 u37 u38 u52:Value) (ds:List Deferred),kk≤r.length∧r.length-kk≤k ∧
   a={ tmps:=((((((((A0.tmps.setIfInBounds 14 u14).setIfInBounds 32 (.int .i64 kk)).setIfInBounds 33 u33).setIfInBounds 34 u34).setIfInBounds 35 u35).setIfInBounds 36 u36).setIfInBounds 37 u37).setIfInBounds 38 u38).setIfInBounds 52 u52,defers:=ds } ∧
   Hid (ds=Ds.map (fun D=>{ target:=.collected D,args:=#[] })∧Ds.Nodup∧(∀D∈Ds,Bo+1≤D∧W.heap[D]?=some (.deferred (some []))))∧Hid (Ext w W)∧Hid (Fix L0 W)∧∃u,Boxed W Bo 41 u∧LI (Bo+1) W u (cf (r.take kk))) r.length
  ⟨0,[],undef,undef,undef,undef,undef,undef,undef,undef,[],Nat.zero_le _,Nat.sub_le _ _,?sA,⟨rfl,List.nodup_nil,fun D h=>absurd h (List.not_mem_nil)⟩,hE0,hF0,_,bO,?sL⟩ ?_
 case sA=>subst hA0;simp only[List.setIfInBounds_toArray,List.set_cons_succ,List.set_cons_zero];rfl
 case sL=>rw[CN.out];exact LG.nil _ _ _ _ _
 clear hE0 hF0 bO hz0;clear W0;rintro k a W ⟨kk,Ds,u14,u33,u34,u35,u36,u37,u38,u52,ds,hkk,hk,rfl,hD,hE,hF,u,bO,hu⟩ J K hJ hK;rw[hA0];have HA:=Lib.hid hA0;clear hA0;simp only[List.setIfInBounds_toArray,List.set_cons_succ,List.set_cons_zero];obtain⟨g1,g2,g3,g4,g5⟩:=FX.out W hF.out
 have hzW:Bo<W.heap.size:=(qaz bO).1
 have c4:=bO.cell
 have cp1:W.cell? ⟨p1,0,none⟩=some (.pointer (some ⟨B,0,none⟩)):=by simp[World.cell?,g1]
 have yp1:p1<W.heap.size:=(qaz g1).1
 by_cases hlt:kk<r.length
 ·have hltz:(kk:Int)<(r.length:Int):=by omega
  obtain⟨xb,xoff,rfl⟩:=RR.out.sl.addr (by omega)
  obtain⟨x,hx⟩:∃x,r[kk]?=some x:=⟨_,qgq hlt⟩
  have cr:W.cell? ⟨xb,xoff+kk,none⟩=some (.slice x.A x.l.length x.c):=by have:=(RR.out.sl.ext hE.out).at_ hx (i:=0) rfl;simpa using this
  have yb:xb<W.heap.size:=(RR.out.sl.ext hE.out).blk (by omega)
  have KTx:=Lib.hid (KT.out x (qmq hx));have CSx:=Lib.hid (CS.out kk x hx);have BDx:=Lib.hid (BD.out x.l);have BLx:=Lib.hid (BL.out x.l);have RBx:=Lib.hid (RB.out x.l);obtain⟨xA,xc,xl⟩:=x
  simp only at cr KTx CSx BDx BLx RBx
  have CLx:=Lib.hid (CL.out kk);clear hx KT CS BD BL CL CN RB;have HJ:=Lib.hid hJ;clear hJ;have G:=Lib.hid (And.intro g2 (And.intro g3 (And.intro g4 g5)));clear g2 g3 g4 g5;have U:=Lib.hid (And.intro bO hu);clear bO hu
  go_wp2_with fail
  go_at_call 134
  refine(kmk B xl.length xc xA W).mono ?_
  rintro e W3 ⟨rfl,hW3⟩
  have hE3:Ext W W3:=by rw[hW3];exact((Ext.refl W).alloc _).alloc _
  have hs3:W3.heap[W.heap.size]?=some (.cells #[.pointer (some ⟨B,0,none⟩)] 176):=by
   rw[hW3];exact(Below.heap_alloc _ _ _ (by simp)).trans (qan W _)
  have hp3:W3.heap[W.heap.size+1]?=some (.cells #[.slice xA xl.length xc] 76):=by
   rw[hW3];have:=qan (W.alloc (.cells #[.pointer (some ⟨B,0,none⟩)] 176)) (.cells #[.slice xA xl.length xc] 76);rwa [qsa]at this
  have hz3:W3.heap.size=W.heap.size+1+1:=by rw[hW3];simp
  clear hW3
  go_wp2_with fail
  obtain⟨bO,hu⟩:=U.out;obtain⟨L1,hL1⟩:∃L1:koj,L1=(W.heap.size+1,#[.slice xA xl.length xc],76)::(W.heap.size,#[.pointer (some ⟨B,0,none⟩)],176)::L0:=⟨_,rfl⟩
  have hF3:Fix L1 W3:=by
   subst hL1;intro y hy;simp only[List.mem_cons]at hy
   rcases hy with rfl|rfl|hy
   ·exact hp3
   ·exact hs3
   ·exact(hF.out.ext hE3) y hy
  have F1:Hid (∀X,Fix L1 X→X.heap[W.heap.size+1]?=some (.cells #[.slice xA xl.length xc] 76)∧X.heap[W.heap.size]?=some (.cells #[.pointer (some ⟨B,0,none⟩)] 176)∧Fix L0 X):=fun X h=>by
   subst hL1
   exact⟨h (_,_,_) (by simp),h (_,_,_) (by simp),fun y hy=>h y (by simp[hy])⟩
  have FT1:Hid (∀y∈L1,y.2.2≠3∧y.2.2≠41):=fun y hy=>by
   subst hL1;simp only[List.mem_cons]at hy
   rcases hy with rfl|rfl|hy
   ·exact⟨by simp,by simp⟩
   ·exact⟨by simp,by simp⟩
   ·exact FT.out y hy
  clear hL1 hs3 hp3
  have hst:=KTx.out (fzC L1 (Bo+1) Bo) (9-1) (W.heap.size+1) W.heap.size B (kef Bc) W3 (by omega) (hE.out.trans hE3) (fun X h=>⟨(F1.out X h.1).1,(F1.out X h.1).2.1,_,(FX.out X (F1.out X h.1).2.2).2.1⟩) ⟨hF3,_,_,kaf hE3 bO,hu.ext hE3⟩
  have hD3:Hid (ds=Ds.map (fun D=>{ target:=.collected D,args:=#[] })∧Ds.Nodup∧(∀D∈Ds,D<W3.heap.size∧Bo+1≤D∧W3.heap[D]?=some (.deferred (some [])))):=
   ⟨hD.out.1,hD.out.2.1,fun D h=>have q:=hD.out.2.2 D h;have q2:=(qaz q.2).1;⟨Nat.lt_of_lt_of_le q2 hE3.len,q.1,(hE3.block D q2).trans q.2⟩⟩
  have hb3:Below w.heap.size w W3:=hE.out.trans hE3
  have hz3':w.heap.size≤W3.heap.size:=by omega
  have bO3:Boxed W3 Bo 41 u:=kaf hE3 bO
  have hu3:=hu.ext hE3;generalize cf (r.take kk)=l0 at hu3 CLx CSx;clear KTx U G bO hu FT hD hE hF hE3 cr yb c4 cp1 g1
  refine(wpIn_wide (n:=9)).1 ?_
  refine at_act (G:=fun A=>Code.wpIn _ _ _ _ _ A _) ?_
  intro A1 hA1
  refine wpIn_rangeFunc_ownH rfl (by omega) (gf:=227) (lb:=#[.pointer (some ⟨W.heap.size+1,0,none⟩),.pointer (some ⟨W.heap.size,0,none⟩)]) (by rw[hA1];rfl) trivial (enters_of Tryz.func227 (by kernel_rfl) rfl)
   hst Kz.t (Kz.b hz3') (Below.refl _ _) (fun _=>rfl)
   (fun pre X=>(Fix L1 X∧BoxG encI 41 3 1 (Bo+1) Bo X (l0++(pre.map (fun y=>y.1.1)).filter (fun i=>!nf i)))∧Below w.heap.size w X∧∀E∈Ds,X.heap[E]?=some (.deferred (some [])))
   (fun _ _ _=>False)
   (OwnFrom.and (OwnFrom.and (Fix.own _ _) (boxG_own _ _ _ (fun pre:List (QTs t xl)=>l0++(pre.map (fun y=>y.1.1)).filter (fun i=>!nf i)))) (OwnFrom.and (ownFrom_below (Nat.le_refl _) hz3') (marks_own Ds _ (fun D h=>(hD3.out.2.2 D h).1))))
   (fun _ _ _ _ _ h _ _=>h.elim)
   ⟨⟨hF3,_,bO3,by simpa using hu3⟩,hb3,fun D h=>(hD3.out.2.2 D h).2.2⟩
   (fun xv a' X=>a'={ tmps:=((A1.tmps.setIfInBounds 39 (.int .i64 xv.1.1)).setIfInBounds 40 (.slice xv.1.2.1 xv.1.2.2.1 xv.1.2.2.2)).setIfInBounds 15 (.int .i64 xv.1.1),defers:=[] })
   (fun x a' _ X Y row hs hg hr=>hs)
   ?assign ?body ?done ?stop
  case assign=>
   rintro l pre ⟨⟨i,sA,sn,sc⟩,hxv⟩ X K2 hI hK2;subst hA1;simp only[touchE,unE]
   gi_wp2
   exact hK2 _ _ (KeepsFrom.refl _ _) (Kz.refl _ _ _) hI rfl
  case body=>
   rintro l pre ⟨⟨i,sA,sn,sc⟩,hxv⟩ a' X hl ⟨rr,hr⟩ ⟨⟨hFX,v,bX,hv⟩,hBX,hM⟩ rfl hlen;subst hA1
   simp only at hxv
   obtain⟨g1,g2,g3,g4,g5⟩:=FX.out X (F1.out X hFX).2.2
   have c1:X.cell? ⟨p1,0,none⟩=some (.pointer (some ⟨B,0,none⟩)):=by simp[World.cell?,g1]
   have c2:X.cell? ⟨B,9,none⟩=some (.func (.func 226) #[] #[.pointer (some ⟨Bc,0,none⟩),.pointer (some ⟨Bc+1,0,none⟩),.pointer (some ⟨Bc+1+1,0,none⟩)]):=by simp[World.cell?,g2,kef]
   have c4:=bX.cell;have y1:=(qaz g1).1;have y2:=(qaz g2).1
   have y4:Bo<X.heap.size:=(qaz bX).1
   have Kf:=Lib.hid (KF.out Bc i (RBx.out i hxv).1 (RBx.out i hxv).2 X hBX g3 g4 g5)
   have LL:Hid ((l0++(pre.map (fun y=>y.1.1)).filter (fun i=>!nf i)).length≤140000):=by
    show _≤_
    have h1:=CLx.out
    have h2:=List.length_filter_le (fun i=>!nf i) (pre.map (fun y:QTs t xl=>y.1.1))
    rw[List.length_map]at h2;rw[List.length_append]
    omega
   have LE:Hid (l0++((pre++[(⟨(i,sA,sn,sc),hxv⟩:QTs t xl)]).map (fun y=>y.1.1)).filter (fun i=>!nf i)=l0++(pre.map (fun y=>y.1.1)).filter (fun i=>!nf i)++(if nf i then [] else [i])):=by
    show _=_
    rw[List.map_append,List.filter_append,←List.append_assoc]
    cases h:nf i<;>simp[h]
   generalize l0++(pre.map (fun y=>y.1.1)).filter (fun i=>!nf i)=l1 at hv LL LE
   have HF:=Lib.hid (And.intro hFX (And.intro bX (And.intro hv (And.intro hBX hM))));clear g1 g2 g3 g4 g5 hFX bX hv hBX hM;simp only[List.setIfInBounds_toArray,List.set_cons_succ,List.set_cons_zero]
   cases hni:nf i with
   | true=>
    rw[hni]at Kf LE
    gi_wp2_with (refine⟨trivial,?_⟩;gi_at_call 226;refine(CallsIn.inRound _ (callsIn_wide.2 Kf.out)).mono ?_;rintro e w5 ⟨rfl,hx5⟩)
    obtain⟨hFX,bX,hv,hBX,hM⟩:=HF.out
    exact⟨hx5.ko.from _,(Kz.refl _ _ _).ext (by omega) hx5,⟨hFX.ext hx5,v,kaf hx5 bX,by rw[LE.out];simpa using hv.ext hx5⟩,hBX.trans (Below.mono hx5 (by omega)),fun E hE=>hx5.ko.same _ _ (hM E hE) rfl⟩
   | false=>
    rw[hni]at Kf LE;have hlL:=LL.out;clear c4
    gi_wp2_with first
     | (refine⟨trivial,?_⟩;gi_at_call 226;refine(CallsIn.inRound _ (callsIn_wide.2 Kf.out)).mono ?_;rintro e w5 ⟨rfl,hx5⟩
        have hz5:=hx5.len
        have c5:=(show Boxed w5 Bo 41 v from kaf hx5 HF.out.2.1).cell
        have y5:Bo<w5.heap.size:=Nat.lt_of_lt_of_le y4 hz5
        have hv5:=Lib.hid (HF.out.2.2.1.ext hx5);have HX5:=Lib.hid hx5
        clear c1 c2 y1 y2 hx5)
     | (gi_at_builtin;refine kir appsI rfl _ _ rfl (Bo+1) v l1 rfl (hv5.out.ext ((Ext.refl _).alloc _)) ?qB ⟨w5.heap.size,0,none⟩ 1 1 [i] rfl rfl (tmpOne w5 _ 3) ?qb ?_)
    case qB=>have:=qsa w5 (.cells #[.int .i64 i] 3);omega
    case qb=>omega
    intro v' w6 hv6 hb6 hg6 hnew;obtain⟨hFX,bX,hv,hBX,hM⟩:=HF.out;have hx5:=HX5.out;have hF5:=hFX.ext hx5
    have bX5:Boxed w5 Bo 41 v:=kaf hx5 bX
    have hE5:Ext w5 (w5.alloc (.cells #[.int .i64 i] 3)):=(Ext.refl _).alloc _
    have hv1:=hv5.out.ext hE5
    have bX6:Boxed w6 Bo 41 v:=hv1.other hg6 (kaf hE5 bX5) (by decide)
    have c6:=bX6.cell;have f6:=bX6.frozen
    have y6:Bo<w6.heap.size:=(qaz bX6).1
    have HH:=Lib.hid (And.intro hE5 (And.intro hv1 (And.intro bX6 (And.intro hv6 (And.intro hb6 (And.intro hg6 hnew))))))
    obtain⟨A2,c2,rfl,_⟩:=hv6.reads (fun _=>rfl)
    generalize (l1++[i]).length=n5 at *;clear hFX bX hv hBX hM hx5 bX5 hF5 hE5 hv1 bX6 hv6 hb6 hg6 hnew c5
    gi_wp2_with fail
    obtain⟨hE5,hv1,bX6,hv6,hb6,hg6,hnew⟩:=HH.out;obtain⟨hFX,bX,hv,hBX,hM⟩:=HF.out;have hx5:=HX5.out
    have hkz:=fzC_app (L:=L1) (b:=Bo+1) (Bo:=Bo) (n₀:=w.heap.size) (by omega) (by omega) hnB bX hv (hx5.trans hE5) hv6 hg6 (fun j h=>by rw[qsa];exact hnew j h) (fun y hy=>(FT1.out y hy).1)
     (fun y hy e=>(FT1.out y hy).2 (by have q:=hFX y hy;rw[e,show X.heap[Bo]?=_ from bX]at q;exact(congrArg (fun o:Option Obj=>match o with|some (.cells _ t _)=>t|_=>0) q).symm))
    have hko:KeepsOthers X (w6.setCell ⟨Bo,0,none⟩ (.slice A2 n5 c2)):=hx5.ko.trans (hE5.ko.trans ((hv1.ko hg6).trans (KeepsOthers.setCell w6 ⟨Bo,0,none⟩ (.slice A2 n5 c2))))
    exact⟨hko.from _,hkz,⟨(hkz.2 ⟨hFX,_,_,bX,hv⟩).1.1,_,bX6.set _,by rw[LE.out];exact hv6.setBox bX6 (by decide) _⟩,hBX.trans hkz.1,fun E hE=>hko.same _ _ (hM E hE) rfl⟩
  case done=>
   rintro D ys X hD hS ⟨⟨hFX,v,bX,hv⟩,hBX,hM⟩ hKD;subst hA1
   go_wp2
   refine Handed.intro (r.length-(kk+1)) (by omega) (HJ.out _ _ _ ⟨kk+1,D::Ds,?u1,?u2,?u3,?u4,?u5,?u6,?u7,?u8,{ target:=.collected D,args:=#[] }::ds,by omega,Nat.le_refl _,?eq,⟨?q1,?q2,?q3⟩,hBX,(F1.out X hFX).2.2,v,bX,?q4⟩)
   case eq=>
    rw[HA.out];simp only[List.setIfInBounds_toArray,List.set_cons_succ,List.set_cons_zero]
    rfl
   case q1=>rw[hD3.out.1];rfl
   case q2=>exact List.nodup_cons.2 ⟨fun h=>by have:=(hD3.out.2.2 D h).1;omega,hD3.out.2.1⟩
   case q3=>
    intro E hE
    rcases List.mem_cons.1 hE with rfl|hE
    ·exact⟨by omega,hKD⟩
    ·exact⟨(hD3.out.2.2 E hE).2.1,hM E hE⟩
   case q4=>
    rw[CSx.out,BDx.out,←hS]
    exact hv
  case stop=>
   rintro D k2 pre X _ _ h _
   exact h.elim
 ·have hltz:¬ (kk:Int)<(r.length:Int):=by omega
  have ek:kk=r.length:=by omega
  subst ek;have HJ:=Lib.hid hJ;clear hJ;have CLx:=CL.out r.length;have CLy:=Lib.hid CLx
  have K135:=Lib.hid (sortInt_135 hu (by omega))
  have hbx:=Lib.hid bO;clear hu KT KF CLx bO
  go_wp2_with fail
  go_at_call 135
  refine K135.out.mono ?_
  rintro e w3 ⟨rfl,l3,hu3,hm3,hl3,hb3,hk3⟩
  have bO3:Boxed w3 Bo 41 u:=(hb3.block Bo (by omega)).trans hbx.out
  have c5:=bO3.cell
  have y5:Bo<w3.heap.size:=(qaz bO3).1
  have K136:=Lib.hid (kpb hu3 (by have:=CLy.out;omega))
  have HQ:=Lib.hid (And.intro hu3 (And.intro hm3 (And.intro hl3 (And.intro hb3 hk3))));clear hu3 hm3 hl3 hb3 hk3 bO3 c4
  go_wp2_with fail
  go_at_call 136
  refine K136.out.mono ?_
  rintro e w4 ⟨v',l4,rfl,hu4,hm4,hl4,hb4,hk4⟩
  go_wp2_with fail
  obtain⟨hu3,hm3,hl3,hb3,hk3⟩:=HQ.out
  have hM4:∀D∈Ds,w4.heap[D]?=some (.deferred (some [])):=fun D h=>hk4.same _ _ (hk3.same _ _ (hD.out.2.2 D h).2 rfl) rfl
  have hds:=hD.out.1;subst hds
  refine ked (by simp) Ds w4 hD.out.2.1 hM4 ?_
  have hu5:=kfx Ds w4 hD.out.2.1 hM4 hu4
  have hb5:=kff (n₀:=Bo+1) Ds w4 (fun D h=>(hD.out.2.2 D h).1)
  obtain⟨A2,c2,rfl,hS2,_⟩:=hu5.reads (fun _=>rfl)
  refine⟨.tuple #[.slice A2 l4.length c2,.int .i64 0],by simp[results,Tryz.f62,go_sem],A2,c2,l4,rfl,hS2,fun i=>?_,?_,?_⟩
  ·rw[hm4,hm3,List.take_length,HCF.out]
  ·have h9:(cf (List.take r.length r)).length≤128000:=CL.out _
   omega
  ·exact Below.trans (B:=w.heap.size) hE.out ((hb3.trans (hb4.trans hb5)).mono (by omega))
end Go.Proofs.YtcgghcicnanliaaGreatDoor
namespace Go.Proofs.YtcgghcicnanliaaGreatDoor
open Go.RowKit Go.Lib
set_option maxHeartbeats 8000000
set_option maxRecDepth 100000
theorem eg_63:∀args w,(callFunc 63 args).run Tryz.prog w=.ok (.enter 63 args) w:=enters_of Tryz.func63 (by kernel_rfl) rfl
theorem eg_62:∀args w,(callFunc 62 args).run Tryz.prog w=.ok (.enter 62 args) w:=enters_of Tryz.func62 (by kernel_rfl) rfl
theorem kkj (e:EnvT)(o:EntryT)(A:Option Addr)(c:Nat)(r:List PV)(w:World)(H:e.Lies w)(hok:kfc e=true)(hk:o.kind=2)(hf:kgn o=true)(hh:kau (kbo e.tide (r.map (·.l)) o.time).1 (kbo e.tide (r.map (·.l)) o.time).2 (-2000) 2000=true)(hv:kau o.lo o.hi (-100000) 100000=true)(ht:0≤o.time∧o.time≤1000000000)
  (R:Rg w A r) (hr:r.length≤32) (h0:0<r.length) (hV:AllV r) :
  Calls Tryz.prog 21 #[.agg e.vals.toArray,.slice A r.length c,.agg o.vals.toArray] w fun x w'=>∃A2 c2,∃l:List Int,x=.returned (.tuple #[.slice A2 l.length c2,.int .i64 0])∧Sl encI 1 w' A2 l∧(∀i,i∈l↔i∈kfb e.chart (kbo e.tide (r.map (·.l)) o.time) (o.lo,o.hi) r)∧l.length≤200000∧Ext w w':=by
 have hoks:kao e.chart=true∧kbk e.tide=true:=by
  have h:=hok;simp only[kfc,qba]at h
  exact⟨h.1.1.1,h.1.1.2⟩
 have K53:=Lib.hid (fun W (h:Ext w W)=>seen_53 e o A c r W (H.ext h) hok hk hf (R.ext h) hr hV)
 have K63:=Lib.hid (fun B W (h:Ext w W) (hC:Cells W B (obsL e o (0,0) 0 none 0 0))=>height_63 e o [.int .i64 0,.int .i64 0,.int .i64 0,.slice none 0 0,.slice none 0 0] B A c r W (show Cells W B (e.vals++o.vals++[.int .i64 0,.int .i64 0,.int .i64 0,.slice none 0 0,.slice none 0 0]) from hC) hoks.2 ht (H.tide.ext h) (R.ext h) hr h0 hV)
 generalize kbo e.tide (r.map (·.l)) o.time=hR at hh K63 ⊢
 have K62:=Lib.hid (fun W (h:Ext w W)=>kls e.chart hR (o.lo,o.hi) A c r W (H.chart.ext h) hoks.1 hh hv (R.ext h) hr hV)
 have KR:=Lib.hid (fun y W h=>chart_range e w 37 y W h)
 have KI:=Lib.hid (show (Tryz.prog.info? 26).map (·.size)=some e.chart.vals.length from info26)
 have hsz:=e.size;have hsz2:=o.size
 have ho2:o.vals.toArray[2]?=some (.int .i64 2):=by rw[←hk];rfl
 have ho6:o.vals.toArray[7]?=some (.int .i64 o.lo):=rfl
 have ho7:o.vals.toArray[8]?=some (.int .i64 o.hi):=rfl
 obtain⟨g1,g2⟩:=hR;generalize kfb e.chart (g1,g2) (o.lo,o.hi) r=cl at K62 ⊢
 simp only at K62 K63
 have KX:=Lib.hid (kbj w e.vals.toArray o.vals.toArray 37 40);clear H hok hk hf hh hv ht R hr hV hoks;have KL:=Lib.hid (kle.trans (congrArg some hsz.symm));have KM:=Lib.hid (knm.trans (congrArg some hsz2.symm))
 have hn:¬ (r.length:Int)=0:=by have:=h0;omega
 clear hsz hsz2 h0;obtain⟨d0,d1,d2,d3,d4,d5,d6,d7,d8,hd⟩:∃d0 d1 d2 d3 d4 d5 d6 d7 d8,e.chart.vals=[d0,d1,d2,d3,d4,d5,d6,d7,d8]:=⟨_,_,_,_,_,_,_,_,_,rfl⟩
 have hev:∀k v,e.chart.vals[k]?=some v→e.vals[k]?=some v:=fun k v h=>by
  have:e.vals=e.chart.vals++e.vals.drop 9:=rfl
  rw[this,List.getElem?_append_left (List.getElem?_eq_some_iff.1 h).1]
  exact h
 rw[hd]at K62 hev
 have CH:Hid (∀W B,Cells W B (obsL e o (0,0) 0 none 0 0)→(W.cell? ⟨B,0,none⟩=some d0∧W.cell? ⟨B,1,none⟩=some d1∧W.cell? ⟨B,2,none⟩=some d2∧W.cell? ⟨B,3,none⟩=some d3∧W.cell? ⟨B,4,none⟩=some d4∧W.cell? ⟨B,5,none⟩=some d5∧W.cell? ⟨B,6,none⟩=some d6∧W.cell? ⟨B,7,none⟩=some d7∧W.cell? ⟨B,8,none⟩=some d8)):=fun W B h=>
  have q:=fun k v hv=>seen_env (e:=e) (o:=o) (rest:=[.int .i64 0,.int .i64 0,.int .i64 0,.slice none 0 0,.slice none 0 0]) (w:=W) (B:=B) h (hev k v hv)
  ⟨q 0 _ rfl,q 1 _ rfl,q 2 _ rfl,q 3 _ rfl,q 4 _ rfl,q 5 _ rfl,q 6 _ rfl,q 7 _ rfl,q 8 _ rfl⟩
 clear hev hd KR KI;generalize obsL e o (0,0) 0 none 0 0=ob at *;generalize e.vals.toArray=ev at *;generalize o.vals.toArray=ov at *;generalize r.length=n at *
 go_enter Tryz.func21,Tryz.ntmps21
 go_wp2_with (first
  | (refine kak (by rfl) 37 _ rfl _ rfl 37 ev _ _ (KX.out _ xt).1 Tryz.underlying37 rfl KL.out ?_)
  | (refine kak (by rfl) 40 _ rfl _ rfl 40 ov _ _ (KX.out _ xt).2 Tryz.underlying40 rfl KM.out ?_)
  | (go_at_call 53;refine(K53.out _ xt).mono ?_;rintro e w1 ⟨B,rfl,hC,hB,hb1⟩;have HB:=Lib.hid hC;have HBz:=Lib.hid hB;clear hC hB;obtain⟨hc1,hf1,hz1⟩:=hb1.rules;(try simp only[qsa]at hz1);(have hzz1:w.heap.size<w1.heap.size:=by omega);(have hzy1:w.heap.size+1<w1.heap.size:=by omega)))
 refine kca (C:=fun w'=>∃x:Xt w1,w'=x.world) [0,1,2,3,4,5,6,7,9,10] 8 11 4 [_,_,_,_,_,_,_,_,_,_] rfl (by kernel_rfl) (by kernel_rfl) (Cx.of ((Ext.refl w1).drew)) ?_
 simp only[List.drop_succ_cons,List.drop_zero]
 have hE1:Ext w w1:=Ext.trans (((Ext.refl w).alloc _).alloc _) hb1
 obtain⟨c0,c1,c2,c3,c4,c5,c6,c7,c8⟩:=CH.out w1 B HB.out;have ko:=(KX.out w1 hb1).2
 have o7:w1.cell? ⟨w.heap.size+1,7,none⟩=some (.int .i64 o.lo):=by simp[World.cell?,ko,ho6]
 have o8:w1.cell? ⟨w.heap.size+1,8,none⟩=some (.int .i64 o.hi):=by simp[World.cell?,ko,ho7]
 have zB:B<w1.heap.size:=HB.out.1
 have hE1':=Lib.hid hE1;clear ko hE1
 (repeat (first|go_big_quiet_step (fail)|quiet_step (fail)))
 refine wpQuiet_nil ?_
 refine kcj rfl rfl rfl eg_63 ?_
 simp only[List.map_toArray,List.map_cons,List.map_nil]
 have hD:Ext w1 w1.drew:=(Ext.refl w1).drew
 refine(K63.out B _ (hE1'.out.trans hD) (HB.out.ext hD)).mono ?_
 rintro e w4 ⟨rfl,hx4⟩
 have hE4:Ext w1 w4:=hD.trans hx4
 refine⟨_,rfl,⟨⟨w4,hE4⟩,rfl⟩,?_⟩
 refine kcj rfl rfl rfl eg_62 ?_
 simp only[List.map_toArray,List.map_cons,List.map_nil]
 refine(K62.out _ (hE1'.out.trans hE4)).mono ?_
 rintro e w5 ⟨A2,c2',l,rfl,hS,hm,hl,hx5⟩
 have hE5:Ext w1 w5:=hE4.trans hx5
 refine⟨_,rfl,⟨⟨w5,hE5⟩,rfl⟩,?_⟩
 have HZ:=Lib.hid (And.intro hS (And.intro hm (And.intro hl (hE1'.out.trans hE5))));clear hS hm hl
 (repeat (first|go_big_quiet_step (fail)|quiet_step (fail)))
 refine wpQuiet_nil ?_
 go_wp2_with fail
 go_ret2
 exact⟨A2,c2',l,rfl,HZ.out.1,HZ.out.2.1,HZ.out.2.2.1,HZ.out.2.2.2⟩
theorem knt {e:EnvT}(h:kfc e=true):kao e.chart=true:=by
 simp only[kfc,qba]at h
 exact h.1.1.1
theorem envOk_tide {e:EnvT}(h:kfc e=true):kbk e.tide=true:=by
 simp only[kfc,qba]at h
 exact h.1.1.2
theorem conf_bd {t:ChartT}{h v:Sp}{r:List PV}{i:Int}(hok:kao t=true)(hi:i∈kfb t h v r):0≤i∧i.toNat<t.cells.length:=by
 obtain⟨p,_,hp⟩:=List.mem_flatMap.1 hi
 exact kge hok (kkg (List.mem_filter.1 hp).1)
theorem cells_bd {t:ChartT}(hok:kao t=true):0<t.cells.length∧t.cells.length≤4000:=by
 obtain⟨⟨d1,d2,d3,d4,_,_⟩,_⟩:=kgj hok
 have hwh:t.w*t.h=t.cells.length∧t.cells.length≤4000:=by
  simp only[kao,kcp,qba,decide_eq_true_eq]at hok
  omega
 have:=Int.mul_pos (show 0<t.w by omega) (show 0<t.h by omega)
 omega
theorem heightR_in {t:TideT}(hok:kbk t=true)(r:List PV)(τ : Int)(h0:0<r.length)(hV:AllV r):kau (kbo t (r.map (·.l)) τ).1 (kbo t (r.map (·.l)) τ).2 (-2000) 2000=true:=by
 obtain⟨i1,i2,i3,i4⟩:=kmx (r:=r.map (·.l)) (by simpa using h0) (fun l hl=>by
  obtain⟨x,hx,rfl⟩:=List.mem_map.1 hl
  have:=(hV x hx).1
  simp only[kas,qba,decide_eq_true_eq]at this
  exact⟨by omega,(hV x hx).2⟩) (r.map (·.l)).length (by simp)
 have hf:(kga t (rLo (r.map (·.l)) (r.map (·.l)).length) (rHi (r.map (·.l)) (r.map (·.l)).length) τ).ok=true:=kog hok _ _ _ (by assumption) (by assumption)
 unfold kbo
 simp only
 simp only[FlowT.ok,qba]at hf
 rw[←kiu _ _ _ (by omega)]
 exact hf.2
theorem seen_parts {o:EntryT}(h:o.Seen)(hk:o.kind=2):kgn o=true∧(0≤o.time∧o.time≤1000000000)∧kau o.lo o.hi (-100000) 100000=true:=by
 refine⟨h.form,h.2.2.1,?_⟩
 have h6:=h.2.2.2.2.2
 rcases h6 with h6|h6|h6
 ·simp only[kau,qba,decide_eq_true_eq];omega
 ·have:=h6.1;omega
 ·have:=h6.1;omega
theorem tidy_mem {ls:List (List Pt)}{l:List Pt}(h:l∈kfz ls):l∈ls:=by
 unfold kfz kla at h;obtain⟨i,hi,rfl⟩:=List.mem_map.1 h
 have:=List.mem_range.1 (List.mem_filter.1 hi).1
 rw[qgq this]
 exact List.getElem_mem this
theorem conflicts_nil (e:EnvT)(o:EntryT)(A:Option Addr)(c:Nat)(w:World)(H:e.Lies w)(hok:kfc e=true)(hk:o.kind=2)(hf:kgn o=true) :
  Calls Tryz.prog 21 #[.agg e.vals.toArray,.slice A 0 c,.agg o.vals.toArray] w fun x w'=>x=.returned (.tuple #[.slice none 0 0,.int .i64 0])∧Ext w w':=by
 have K53:=Lib.hid (fun W (h:Ext w W)=>seen_53 e o A c [] W (H.ext h) hok hk hf ⟨Sl.nil,fun v hv=>by cases hv⟩ (by simp) (fun v hv=>by cases hv))
 simp only[List.length_nil]at K53;have hsz:=e.size;have hsz2:=o.size
 have ho2:o.vals.toArray[2]?=some (.int .i64 2):=by rw[←hk];rfl
 generalize obsL e o (0,0) 0 none 0 0=ob at *;generalize e.vals.toArray=ev at *;generalize o.vals.toArray=ov at *;have KX:=Lib.hid (kbj w ev ov 37 40);have KL:=Lib.hid (kle.trans (congrArg some hsz.symm));have KM:=Lib.hid (knm.trans (congrArg some hsz2.symm));clear hsz hsz2 H hok hk hf
 go_enter Tryz.func21,Tryz.ntmps21
 go_wp2_with (first
  | (refine kak (by rfl) 37 _ rfl _ rfl 37 ev _ _ (KX.out _ xt).1 Tryz.underlying37 rfl KL.out ?_)
  | (refine kak (by rfl) 40 _ rfl _ rfl 40 ov _ _ (KX.out _ xt).2 Tryz.underlying40 rfl KM.out ?_)
  | (go_at_call 53;refine(K53.out _ xt).mono ?_;rintro e w1 ⟨B,rfl,hC,hB,hb1⟩;have HB:=Lib.hid hC;have HBz:=Lib.hid hB;clear hC hB;obtain⟨hc1,hf1,hz1⟩:=hb1.rules;(try simp only[qsa]at hz1);(have hzz1:w.heap.size<w1.heap.size:=by omega);(have hzy1:w.heap.size+1<w1.heap.size:=by omega)))
 go_ret2
 exact⟨rfl,xt⟩
theorem conflicts_all (e:EnvT)(o:EntryT)(A:Option Addr)(c:Nat)(r:List PV)(w:World)(H:e.Lies w)(hok:kfc e=true)(hk:o.kind=2)(hS:o.Seen)(R:Rg w A r)(hr:r.length≤32)(hV:AllV r) :
  Calls Tryz.prog 21 #[.agg e.vals.toArray,.slice A r.length c,.agg o.vals.toArray] w fun x w'=>∃A2 c2,∃l:List Int,x=.returned (.tuple #[.slice A2 l.length c2,.int .i64 0])∧Sl encI 1 w' A2 l∧(∀i,i∈l↔i∈kfb e.chart (kbo e.tide (r.map (·.l)) o.time) (o.lo,o.hi) r)∧l.length≤200000∧Ext w w':=by
 obtain⟨h1,h2,h3⟩:=seen_parts hS hk
 cases r with
 | nil=>
  refine(conflicts_nil e o A c w H hok hk h1).mono ?_
  rintro x w' ⟨rfl,hx⟩
  exact⟨none,0,[],rfl,Sl.nil,fun i=>by simp[kfb],by simp,hx⟩
 | cons v r=>exact kkj e o A c (v::r) w H hok hk h1 (heightR_in (envOk_tide hok) _ _ (by simp) hV) h3 h2 R hr (by simp) hV
end Go.Proofs.YtcgghcicnanliaaGreatDoor
