/- Walks: tide.Bound. Conditions: places in order, a tide that is right, one time. Walks: the law's close at a region. Conditions: none. -/
import Derived.Test.YtcgghcicnanliaaGreatDoorM35
set_option linter.unusedVariables false
set_option linter.unusedSimpArgs false
namespace Go.Proofs.YtcgghcicnanliaaGreatDoor
open Go.RowKit Go.Lib
set_option maxHeartbeats 8000000
set_option maxRecDepth 100000
attribute [local go_sem] Oper.semAt_some
theorem bound_137 (t:TideT)(τ : Int)(a b:Pt)(w:World)(hok:kbk t=true)(ha:plB a=true)(hb:plB b=true)(h1:a.1≤b.1)(h2:a.2≤b.2)(h3:0≤τ∧τ≤1000000000)
  (hS:Sl FlowT.vals 9 w t.A t.flows) :
  Calls Tryz.prog 137 #[.agg t.vals.toArray,.agg #[.int .i64 a.1,.int .i64 a.2],.agg #[.int .i64 b.1,.int .i64 b.2],.int .i64 τ,.int .i64 τ] w fun e w'=>e=.returned (.tuple #[.agg (kga t a b τ).vals.toArray,.int .i64 0])∧Ext w w':=by
 have K42:=Lib.hid (fun W (hx:Ext w W)=>klb t W (hS.ext hx))
 have KA:Hid (∀x y (_:Hid (plB (x,y)=true)) W,Calls Tryz.prog 173 #[.agg #[.int .i64 x,.int .i64 y]] W fun e w'=>e=.returned (.bool true)∧Ext W w'):=fun x y h W=>by
  have:=kmm (x,y) W
  rw[h.out]at this
  exact this
 have iA:=Lib.hid ha;have iB:=Lib.hid hb
 have KT:=Lib.hid (fun W=>isTime_95 τ W)
 have KJ:=Lib.hid (fun W (hx:Ext w W) Bc Bf Bt Bu Ba Bb k1 k2 k3 k4 k5 k6=>joinedSlots t τ a b hok ha hb h1 h2 h3 w hS W hx Bc Bf Bt Bu Ba Bb k1 k2 k3 k4 k5 k6)
 rw[hok]at K42
 rw[show inB τ 0 1000000000=true by simp[inB,h3]]at KT
 clear hok ha hb hS
 have hl:t.vals.toArray.size=13:=rfl
 have h1c:t.vals.toArray.all (·.oneCell')=true:=by simp[TideT.vals,FlowT.vals,Value.oneCell']
 generalize hF:kga t a b τ=F at *;clear hF;obtain⟨f1,f2,f3,f4,f5,f6,f7,f8,f9⟩:=F
 rw[show (FlowT.mk f1 f2 f3 f4 f5 f6 f7 f8 f9).vals.toArray=#[.int .i64 f1,.int .i64 f2,.int .i64 f3,.int .i64 f4,.int .i64 f5,.int .i64 f6,.int .i64 f7,.int .i64 f8,.int .i64 f9] from rfl]at *
 generalize t.vals.toArray=tv at *;obtain⟨a1,a2⟩:=a;obtain⟨b1,b2⟩:=b
 simp only at *
 have KI:Hid ((Tryz.prog.info? 33).map (·.size)=some tv.size):=by show _=_;rw[info33,hl]
 clear hl
 have h1':¬ b1<a1:=by omega
 have h2':¬ b2<a2:=by omega
 clear h1c
 go_enter Tryz.func137,Tryz.ntmps137
 go_upto_region 1 with fail
 refine kbd (G:=fun W=>Code.wp _ _ _ _ W) (fun V=>Ext w V∧w.heap.size+6≤V.heap.size∧(V.heap[w.heap.size]?=some (.cells tv 33)∧V.heap[w.heap.size+1]?=some (.cells #[.int .i64 a1,.int .i64 a2] 43)∧V.heap[w.heap.size+1+1]?=some (.cells #[.int .i64 b1,.int .i64 b2] 43)∧V.heap[w.heap.size+1+1+1]?=some (.cells #[.int .i64 τ] 3)) ∧
  V.heap[w.heap.size+1+1+1+1]?=some (.cells #[.int .i64 τ] 3)∧V.heap[w.heap.size+1+1+1+1+1]?=some (.cells #[.int .i64 0,.int .i64 0,.int .i64 0,.int .i64 0,.int .i64 0,.int .i64 0,.int .i64 0,.int .i64 0,.int .i64 0] 30)) ?_ ?facts
 case facts=>
  refine⟨xt,by simp,boxes4 w tv _ _ _ 33 43 43 3 _ xt,?_,?_⟩
  ·have:=(boxes4 ((w.alloc (.cells tv 33)).alloc (.cells #[.int .i64 a1,.int .i64 a2] 43)) #[.int .i64 b1,.int .i64 b2] #[.int .i64 τ] #[.int .i64 τ] #[.int .i64 0,.int .i64 0,.int .i64 0,.int .i64 0,.int .i64 0,.int .i64 0,.int .i64 0,.int .i64 0,.int .i64 0] 43 3 3 30 _ (Ext.refl _)).2.2.1
   simpa only[qsa]using this
  ·have:=(boxes4 ((w.alloc (.cells tv 33)).alloc (.cells #[.int .i64 a1,.int .i64 a2] 43)) #[.int .i64 b1,.int .i64 b2] #[.int .i64 τ] #[.int .i64 τ] #[.int .i64 0,.int .i64 0,.int .i64 0,.int .i64 0,.int .i64 0,.int .i64 0,.int .i64 0,.int .i64 0,.int .i64 0] 43 3 3 30 _ (Ext.refl _)).2.2.2
   simpa only[qsa]using this
 rintro V ⟨hE,hz,⟨k1,k2,k3,k4⟩,k5,k6⟩
 have KX:Hid (∀U,Ext V U→Ext w U∧(U.heap[w.heap.size]?=some (.cells tv 33)∧U.heap[w.heap.size+1]?=some (.cells #[.int .i64 a1,.int .i64 a2] 43)∧U.heap[w.heap.size+1+1]?=some (.cells #[.int .i64 b1,.int .i64 b2] 43)∧U.heap[w.heap.size+1+1+1]?=some (.cells #[.int .i64 τ] 3)) ∧
  U.heap[w.heap.size+1+1+1+1]?=some (.cells #[.int .i64 τ] 3)∧U.heap[w.heap.size+1+1+1+1+1]?=some (.cells #[.int .i64 0,.int .i64 0,.int .i64 0,.int .i64 0,.int .i64 0,.int .i64 0,.int .i64 0,.int .i64 0,.int .i64 0] 30)):=fun U h=>
  ⟨hE.trans h,⟨kaf h k1,kaf h k2,kaf h k3,kaf h k4⟩,kaf h k5,kaf h k6⟩
 have CX:Hid (∀U,Ext V U→(U.cell? ⟨w.heap.size+1,0,none⟩=some (.int .i64 a1)∧U.cell? ⟨w.heap.size+1,1,none⟩=some (.int .i64 a2))∧(U.cell? ⟨w.heap.size+1+1,0,none⟩=some (.int .i64 b1)∧U.cell? ⟨w.heap.size+1+1,1,none⟩=some (.int .i64 b2)) ∧
   (U.cell? ⟨w.heap.size+1+1+1,0,none⟩=some (.int .i64 τ)∧U.cell? ⟨w.heap.size+1+1+1+1,0,none⟩=some (.int .i64 τ))):=fun U h=>by
  obtain⟨_,⟨_,q2,q3,q4⟩,q5,_⟩:=KX.out U h;obtain⟨a0,a0',_,_⟩:=kae q2;obtain⟨b0,b0',_,_⟩:=kae q3
  exact⟨⟨a0,a0'⟩,⟨b0,b0'⟩,by simp[World.cell?,q4],by simp[World.cell?,q5]⟩
 clear k1 k2 k3 k4 k5 k6 hE
 go_wp2_with first
  | (refine kak (by rfl) 33 _ rfl _ rfl 33 tv _ _ (KX.out _ (Ext.refl _)).2.1.1 Tryz.underlying33 rfl KI.out ?_)
  | (go_at_call 42;refine(K42.out _ (KX.out _ (Ext.refl _)).1).mono ?_;rintro e w1 ⟨rfl,hb1⟩;obtain⟨⟨a0,a0'⟩,⟨b0,b0'⟩,c4,c5⟩:=CX.out _ hb1)
  | (go_at_call 173;refine(KA.out _ _ (by assumption) _).mono ?_;rintro e w2 ⟨rfl,hb2⟩;replace hb1:=hb1.trans hb2;clear hb2 a0 a0' b0 b0' c4 c5;obtain⟨⟨a0,a0'⟩,⟨b0,b0'⟩,c4,c5⟩:=CX.out _ hb1)
  | (go_at_call 95;refine(KT.out _).mono ?_;rintro e w4 ⟨rfl,rfl⟩)
 have hX:Ext V (w2.alloc (.cells #[.func (.func 233) #[] #[.pointer (some ⟨w.heap.size,0,none⟩)]] 235)):=hb1.alloc _
 obtain⟨e1,⟨k1,k2,k3,k4⟩,k5,k6⟩:=KX.out _ hX
 refine(KJ.out _ e1 _ _ _ _ _ _ (qan w2 _) k4 k1 k5 k2 k3).mono ?_
 rintro e w3 ⟨rfl,hx3⟩;have q6:=Lib.hid (kaf hx3 k6);have E3:=Lib.hid (e1.trans hx3);clear k1 k2 k3 k4 k5 k6 e1 hX hx3 a0 a0' b0 b0' c4 c5
 go_wp2_with (refine wpList_store_row rfl 30 _ _ rfl (w.heap.size+1+1+1+1+1) #[.int .i64 f1,.int .i64 f2,.int .i64 f3,.int .i64 f4,.int .i64 f5,.int .i64 f6,.int .i64 f7,.int .i64 f8,.int .i64 f9] rfl rfl 30 _ q6.out info30 rfl (by kernel_rfl) ?_)
 have hcs:=fun j=>cell_setRow_same w3 (w.heap.size+1+1+1+1+1) j _ #[.int .i64 f1,.int .i64 f2,.int .i64 f3,.int .i64 f4,.int .i64 f5,.int .i64 f6,.int .i64 f7,.int .i64 f8,.int .i64 f9] 30 (0,0) q6.out
 refine bodyPost_ret (by simp[results,Tryz.f137,go_sem,hcs];rfl) rfl ?_
 exact⟨rfl,E3.out.setRow (by omega) _⟩
end Go.Proofs.YtcgghcicnanliaaGreatDoor
namespace Go.Proofs.YtcgghcicnanliaaGreatDoor
open Go.RowKit Go.Lib
set_option maxHeartbeats 8000000
set_option maxRecDepth 100000
theorem plB_bd {p:Pt}(h:plB p=true):(-500000≤p.1∧p.1≤500000)∧-500000≤p.2∧p.2≤500000:=by
 simp only[plB,inB,qba,decide_eq_true_eq]at h
 omega
theorem wrap_in {x:Int}(h:-9000000≤x∧x≤9000000):IntKind.i64.wrap x=x:=by rw[IntKind.wrap_i64];(try unfold wrap64);omega
theorem closeR_11 (A:Option Addr)(c:Nat)(r:List PV)(w:World)(R:Rg w A r)(hr:r.length≤1000000)(hp:∀v∈r,v.l.length≤1000000∧∀y∈v.l,plB y=true) :
  Calls Tryz.prog 11 #[.slice A r.length c] w fun e w'=>koi True e∧Ext w w':=by
 go_enter Tryz.func11,Tryz.ntmps11
 go_wp2
 go_loopg [5,7,9,14] r.length (fun gg s5 _ _ s14 wr=>∃kk:Nat,∃is:Bool,∃x1 x2 y1 y2:Int,kk≤r.length∧r.length-kk≤gg∧s5=.bool is∧s14=.int .i64 kk∧Hid (Ext w wr) ∧
  wr.heap[w.heap.size]?=some (.cells #[.int .i64 x1,.int .i64 x2] 43)∧wr.heap[w.heap.size+1]?=some (.cells #[.int .i64 y1,.int .i64 y2] 43)∧Hid ((-500000≤x1∧x1≤500000)∧(-500000≤x2∧x2≤500000)))
 case atStart=>
  refine⟨0,false,0,0,0,0,Nat.zero_le _,by omega,rfl,rfl,xt,?_,?_,by omega,by omega⟩
  ·exact(kbj w _ _ 43 43 _ (Ext.refl _)).1
  ·exact(kbj w _ _ 43 43 _ (Ext.refl _)).2
 case round=>
  obtain⟨kk,is,x1,x2,y1,y2,hkk,hg,rfl,rfl,hx,g0,g1,hb⟩:=hrel
  by_cases hlt:kk<r.length
  rotate_left
  ·have hltz:¬ (kk:Int)<(r.length:Int):=by omega
   obtain⟨o20,o21,_,_⟩:=kae g0;obtain⟨o30,o31,_,_⟩:=kae g1;have z0:=(qaz g0).1;have z1:=(qaz g1).1
   have w1:IntKind.i64.wrap (x1+50000)=x1+50000:=wrap_in (by have:=hb.out;omega)
   have w2:IntKind.i64.wrap (x2+50000)=x2+50000:=wrap_in (by have:=hb.out;omega)
   have e1:decide (-500000≤x1)=true:=decide_eq_true hb.out.1.1
   have e2:decide (-500000≤x2)=true:=decide_eq_true hb.out.2.1
   have hb1:=hb.out.1.1;have hb2:=hb.out.2.1
   cases e3:decide (y1≤x1+50000)<;>cases e4:decide (y2≤x2+50000)
   all_goals
    (first|have e5:=of_decide_eq_true e3|have e5:=of_decide_eq_false e3)
    (first|have e6:=of_decide_eq_true e4|have e6:=of_decide_eq_false e4)
    go_wp2
    go_ret
    exact⟨⟨_,fun _=>trivial,rfl⟩,hx.out⟩
  obtain⟨b,off,rfl⟩:=R.sl.addr (by omega)
  obtain⟨v,hv⟩:∃x,r[kk]?=some x:=⟨_,qgq hlt⟩;have RV:=Lib.hid (R.each v (qmq hv));have PP:=Lib.hid (hp v (qmq hv))
  have hltz:(kk:Int)<(r.length:Int):=by omega
  have hbw:b<wr.heap.size:=Nat.lt_of_lt_of_le (R.sl.blk (by omega)) hx.out.len
  have c0:wr.cell? ⟨b,off+kk,none⟩=some (.slice v.A v.l.length v.c):=by have:=(R.sl.ext hx.out).at_ hv (i:=0) rfl;simpa using this
  clear hv;obtain⟨vA,vc,vl⟩:=v
  simp only at c0 RV PP
  go_wp2_with fail
  go_loopg [5,9,20] vl.length (fun gg s5 _ s20 wq=>∃m:Nat,∃is:Bool,∃x1 x2 y1 y2:Int,m≤vl.length∧vl.length-m≤gg∧s5=.bool is∧s20=.int .i64 m∧Hid (Ext w wq) ∧
   wq.heap[w.heap.size]?=some (.cells #[.int .i64 x1,.int .i64 x2] 43)∧wq.heap[w.heap.size+1]?=some (.cells #[.int .i64 y1,.int .i64 y2] 43)∧Hid ((-500000≤x1∧x1≤500000)∧(-500000≤x2∧x2≤500000)))
  case atStart=>exact⟨0,is,x1,x2,y1,y2,Nat.zero_le _,by omega,rfl,rfl,hx,g0,g1,hb⟩
  case round=>
   clear g0 g1 hb c0 hbw hx;obtain⟨m,is,x1,x2,y1,y2,hm,hg2,rfl,rfl,hx,g0,g1,hb⟩:=hrel
   by_cases hlm:m<vl.length
   rotate_left
   ·have hlmz:¬ (m:Int)<(vl.length:Int):=by omega
    go_wp2
    go_roundg (r.length-(kk+1))
    case measure=>omega
    case rel=>exact⟨kk+1,is,x1,x2,y1,y2,by omega,by omega,rfl,by go_num,hx,g0,g1,hb⟩
   have hlmz:(m:Int)<(vl.length:Int):=by omega
   obtain⟨b2,off2,rfl⟩:=RV.out.addr (by omega)
   obtain⟨⟨p1,p2⟩,hp0⟩:∃x,vl[m]?=some x:=⟨_,qgq hlm⟩;have hpb:=Lib.hid (plB_bd (PP.out.2 _ (qmq hp0)))
   have c1:wr.cell? ⟨b2,off2+m*2,none⟩=some (.int .i64 p1):=by have:=(RV.out.ext hx.out).at_ hp0 (i:=0) rfl;simpa using this
   have c2:wr.cell? ⟨b2,off2+m*2+1,none⟩=some (.int .i64 p2):=by have:=(RV.out.ext hx.out).at_ hp0 (i:=1) rfl;simpa using this
   have hb2:b2<wr.heap.size:=Nat.lt_of_lt_of_le (RV.out.blk (by omega)) hx.out.len
   have z0:=(qaz g0).1;have z1:=(qaz g1).1;clear hp0
   have n1:w.heap.size+1≠w.heap.size:=by omega
   cases is
   all_goals
    go_wp2_with fail
    refine kbd (G:=fun W=>Code.wp _ _ _ _ W) (fun V=>Ext w V∧V.heap[w.heap.size]?=some (.cells #[.int .i64 x1,.int .i64 x2] 43)∧V.heap[w.heap.size+1]?=some (.cells #[.int .i64 y1,.int .i64 y2] 43)∧V.heap[wr.heap.size]?=some (.cells #[.int .i64 p1,.int .i64 p2] 43)) ?_ ⟨hx.out.alloc _,kaf ((Ext.refl wr).alloc _) g0,kaf ((Ext.refl wr).alloc _) g1,qan wr _⟩
    rintro V ⟨hV,v0,v1,v9⟩;obtain⟨c0,c1',_,_⟩:=kae v0;obtain⟨d0,d1,_,_⟩:=kae v1;obtain⟨e0,e1,_,_⟩:=kae v9;have y0:=(qaz v0).1;have y1:=(qaz v1).1;have y9:=(qaz v9).1
    have m9:wr.heap.size≠w.heap.size:=by omega
    generalize wr.heap.size=n9 at *
   focus
    go_region
    refine kbd (G:=fun W=>Exit.then _ _ _ _ W) (fun U=>Ext w U∧U.heap[w.heap.size]?=some (.cells #[.int .i64 p1,.int .i64 p2] 43)∧U.heap[w.heap.size+1]?=some (.cells #[.int .i64 p1,.int .i64 p2] 43)∧U.heap[n9]?=some (.cells #[.int .i64 p1,.int .i64 p2] 43)) ?_
     ⟨((((hV.setCell (by simp only;omega) _).setCell (by simp only;omega) _).setCell (by simp only;omega) _).setCell (by simp only;omega) _).drew,kah (kah (kbu (kbv v0 _) _) (by omega) _) (by omega) _,kbu (kbv (kah (kah v1 (by omega) _) (by omega) _) _) _,kah (kah (kah (kah v9 (by omega) _) (by omega) _) (by omega) _) (by omega) _⟩
    clear c0 c1' d0 d1 e0 e1 y0 y1 y9 v0 v1 v9 hV;rintro V ⟨hV,v0,v1,v9⟩;obtain⟨c0,c1',_,_⟩:=kae v0;obtain⟨d0,d1,_,_⟩:=kae v1;obtain⟨e0,e1,_,_⟩:=kae v9
    go_wp2_with fail
   all_goals
    refine kln (C:=fun W=>∃x:But V w.heap.size,W=x.world) (D:=fun W=>W=V.drew) 22 [0,2,3,5,7,8,11,12,13,14,15,16,17,18,19,20,21] [1,4,6,9,10] [_,_,_,_,_,_,_,_,_,_,_,_,_,_,_,_,_] [_,_,_,_,_] rfl rfl (by kernel_rfl) (by kernel_rfl) ⟨⟨V.drew,fun _ _=>rfl⟩,rfl⟩ rfl ?_
    (repeat (first|go_big_quiet_step (fail)|quiet_step (fail)))
    refine wpQuiet_nil ?_
    (repeat (first|go_big_quiet_step (fail)|quiet_step (fail)))
    (try refine wpQuiet_nil ?_)
    refine yOp_store rfl rfl 43 _ _ rfl w.heap.size _ rfl rfl 43 _ v0 (by kernel_rfl) rfl (by simp[Value.oneCell']) ⟨⟨⟨V.drew.setRow w.heap.size _,fun k hk=>setRow_other V.drew _ k _ hk⟩,rfl⟩,?_⟩
    refine yOp_store rfl rfl 43 _ _ rfl (w.heap.size+1) _ rfl rfl 43 _ ((setRow_other _ _ _ _ n1).trans v1) (by kernel_rfl) rfl (by simp[Value.oneCell']) ?_
    refine kbd (G:=fun W=>Exit.inBlock _ _ _ _ W) (fun U=>Ext w U∧∃l1 l2 h1 h2:Int,U.heap[w.heap.size]?=some (.cells #[.int .i64 l1,.int .i64 l2] 43)∧U.heap[w.heap.size+1]?=some (.cells #[.int .i64 h1,.int .i64 h2] 43)∧((-500000≤l1∧l1≤500000)∧(-500000≤l2∧l2≤500000))) ?_
     ⟨(hV.drew.setRow (Nat.le_refl _) _).setRow (Nat.le_succ _) _,_,_,_,_,(setRow_other _ _ _ _ (Ne.symm n1)).trans (setRow_heap _ _ _ _ _ _ v0),setRow_heap _ _ _ _ _ _ ((setRow_other _ _ _ _ n1).trans v1),by
       have b1:=hb.out;have b2:=hpb.out
       (try simp only[Int.min_def])
       constructor<;>constructor<;>(repeat' split)<;>omega⟩
    rintro U ⟨hU,l1,l2,h1,h2,u0,u1,hbl⟩;have HB:=Lib.hid hbl;have HU:=Lib.hid hU;clear hbl hU;have hml:=PP.out.1
    go_wp2
    go_roundg (vl.length-(m+1))
    case measure=>omega
    case rel=>exact⟨m+1,true,l1,l2,h1,h2,by omega,by omega,rfl,by go_num,HU.out,u0,u1,HB.out⟩
end Go.Proofs.YtcgghcicnanliaaGreatDoor
