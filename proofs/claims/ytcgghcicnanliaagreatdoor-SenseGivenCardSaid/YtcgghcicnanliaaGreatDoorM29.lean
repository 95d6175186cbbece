/- Walks: hull.Valid; Walks; Walks: the references' Same of layers 3 and 7, where both are alike; Readings. Conditions: as each statement says. -/
import Derived.Test.YtcgghcicnanliaaGreatDoorM27
set_option linter.unusedVariables false
set_option linter.unusedSimpArgs false
namespace Go.Proofs.YtcgghcicnanliaaGreatDoor
open Go.RowKit Go.Lib
set_option maxHeartbeats 8000000
set_option maxRecDepth 100000
attribute [local go_sem] Oper.semAt_some
def firstP (l:List Pt):Bool:=(List.range l.length).all fun j=>decide (j=0)||decide (cmpP (ptAt l 0) (ptAt l j)<0)
def kko (l:List Pt)(s:Pt × Pt):Bool:=l.all fun x=>decide (x=s.1)||decide (x=s.2)||decide (0<kfy s.1 s.2 x)
def kas (l:List Pt):Bool:=decide (1≤l.length)&&decide (l.length≤64)&&firstP l&&(decide (l.length<3)||(List.range l.length).all fun j=>kko l (kbr l j))
theorem kba (A:Option Addr)(c:Nat)(l:List Pt)(w:World)(hS:Sl encP 2 w A l)(hp:∀x∈l,plB x=true) :
  Calls Tryz.prog 146 #[.slice A l.length c] w fun e w'=>e=.returned (.bool (kas l))∧Ext w w':=by
 by_cases hn:l.length<1
 ·have hF:Hid (kas l=false):=by show _=_;unfold kas;rw[decide_eq_false (by omega)];rfl
  go_enter Tryz.func146,Tryz.ntmps146
  go_wp2
  ((try simp only[Exit.inBlock,Exit.then]);refine bodyPost_ret (by first|(simp[results,Tryz.f146,go_sem];rfl)|(simp[results,Tryz.f146,go_sem];done)|(simp[results,Tryz.f146,go_sem, *];rfl)|(simp[results,Tryz.f146,go_sem, *];done)) rfl ?_)
  exact⟨retb hF.out.symm,xt⟩
 by_cases hn2:64<l.length
 ·have hF:Hid (kas l=false):=by show _=_;unfold kas;rw[decide_eq_false (show ¬ l.length≤64 by omega),Bool.and_false];rfl
  go_enter Tryz.func146,Tryz.ntmps146
  go_wp2
  ((try simp only[Exit.inBlock,Exit.then]);refine bodyPost_ret (by first|(simp[results,Tryz.f146,go_sem];rfl)|(simp[results,Tryz.f146,go_sem];done)|(simp[results,Tryz.f146,go_sem, *];rfl)|(simp[results,Tryz.f146,go_sem, *];done)) rfl ?_)
  exact⟨retb hF.out.symm,xt⟩
 have hR:Hid (kas l=(firstP l&&(decide (l.length<3)||(List.range l.length).all fun j=>kko l (kbr l j)))):=by
  show _=_;unfold kas;rw[decide_eq_true (show 1≤l.length by omega),decide_eq_true (show l.length≤64 by omega)];rfl
 obtain⟨b,off,rfl⟩:=hS.addr (by omega)
 have hb:=hS.blk (by omega)
 have hnz:¬ ((l.length:Int)<1):=by omega
 have hnz2:¬ (64<(l.length:Int)):=by omega
 have HP:Hid (∀i,i<l.length→plB (ptAt l i)=true):=fun i hi=>hp _ (kcr hi)
 have HS:=Lib.hid (fun (W:World) (hx:Below w.heap.size w W) (i:Nat) (hi:i<l.length)=>(⟨by have:=(hS.ext hx).at_ (qgq hi) (i:=0) rfl;rw[kbm (qgq hi)];simpa using this,by have:=(hS.ext hx).at_ (qgq hi) (i:=1) rfl;rw[kbm (qgq hi)];simpa using this⟩:W.cell? ⟨b,off+i*2,none⟩=some (.int .i64 (ptAt l i).1)∧W.cell? ⟨b,off+i*2+1,none⟩=some (.int .i64 (ptAt l i).2)))
 have HSl:=Lib.hid hS;clear hS hp
 refine(callsIn_wide (n:=5)).1 ?_
 refine callsIn_of_wp_marks Tryz.func146 rfl trivial ?_ rfl
 refine wpIn_wide.2 ?_
 simp only[Tryz.ntmps146,List.size_toArray,List.length_cons,List.length_nil,Nat.reduceAdd,Nat.reduceSub,Array.replicate_succ,Array.replicate_zero,List.push_toArray,List.append_toArray,List.nil_append,List.cons_append]
 go_wp2
 obtain⟨W0,hW0⟩:∃W0,(w.alloc (.cells #[.slice (some ⟨b,off,none⟩) l.length c] 76)).alloc (.cells #[.bool false] 4)=W0:=⟨_,rfl⟩
 have hE0:Hid (Ext w W0):=by show Ext _ _;rw[←hW0];exact((Ext.refl w).alloc _).alloc _
 have hz0:W0.heap.size=w.heap.size+2:=by rw[←hW0];simp
 have q1:Hid (W0.heap[w.heap.size]?=some (.cells #[.slice (some ⟨b,off,none⟩) l.length c] 76)):=by
  show _=_
  rw[←hW0,Below.heap_alloc _ _ _ (by simp)];exact qan w _
 have q2:Hid (Boxed W0 (w.heap.size+1) 4 (.bool false)):=by
  show W0.heap[w.heap.size+1]?=_
  rw[←hW0]
  have:=qan (w.alloc (.cells #[.slice (some ⟨b,off,none⟩) l.length c] 76)) (.cells #[.bool false] 4)
  simpa only[qsa]using this
 rw[hW0];clear hW0
 go_loopg [3,4,19] l.length (fun gg _ _ s19 wr=>∃kk:Nat,kk≤l.length∧l.length-kk≤gg∧s19=.int .i64 kk∧Hid (Ext W0 wr)∧Hid (∀j,j<kk→(decide (j=0)||decide (cmpP (ptAt l 0) (ptAt l j)<0))=true))
 case atStart=>exact⟨0,by omega,by omega,rfl,Ext.refl _,fun j hj=>absurd hj (Nat.not_lt_zero _)⟩
 case round=>
  obtain⟨kk,hkk,hg,rfl,hx,H⟩:=hrel;have hzr:=hx.out.len
  have hXr:Hid (Ext w wr):=hE0.out.trans hx.out
  have b1:wr.cell? ⟨w.heap.size,0,none⟩=some (.slice (some ⟨b,off,none⟩) l.length c):=by have:=(hx.out.block _ (by omega)).trans q1.out;simp[World.cell?,this]
  by_cases hlt:kk<l.length
  ·have hltz:(kk:Int)<(l.length:Int):=by omega
   have hkz:(kk:Int)≤64:=by omega
   have hbw:b<wr.heap.size:=Nat.lt_of_lt_of_le hb hXr.out.len
   have hwr:w.heap.size<wr.heap.size:=by omega
   have KP:Hid (∀i,i<l.length→∀W,Calls Tryz.prog 247 #[.agg #[.int .i64 (ptAt l i).1,.int .i64 (ptAt l i).2]] W fun e w'=>e=.returned (.bool true)∧Ext W w'):=fun i hi W=>by
    have hI:=kbn (HP.out i hi)
    have:=ker (ptAt l i) (by simp only[Mid,I64]at *;omega) (by simp only[Mid,I64]at *;omega) W
    rw[HP.out i hi]at this
    exact this.mono fun _ _ h=>⟨h.1,h.2.1⟩
   have r2:Hid (Boxed wr (w.heap.size+1) 4 (.bool false)):=(hx.out.block _ (by omega)).trans q2.out
   by_cases hk0:kk=0
   ·subst hk0
    obtain⟨g0,g1⟩:=HS.out wr hXr.out 0 hlt;simp only[Nat.zero_mul,Nat.add_zero]at g0 g1;have K1:=Lib.hid (KP.out 0 hlt);generalize ptAt l 0=p0 at g0 g1 K1;obtain⟨x0,y0⟩:=p0
    simp only at g0 g1
    clear KP H
    go_wp2_with fail
    (refine kad (by kernel_rfl) (by kernel_rfl) ?_;(repeat (first|go_big_quiet_step ((go_at_call 247;with_reducible exact Xt.calls (K1.out _)))|quiet_step ((go_at_call 247;with_reducible exact Xt.calls (K1.out _)))));refine wpQuiet_nil ?_;rintro _ ⟨xq,rfl⟩;have hx2:=xq.ext;generalize xq.world=w2 at hx2 ⊢)
    go_wp2_with fail
    go_roundg (l.length-1)
    case measure=>omega
    case rel=>exact⟨1,by omega,by omega,by go_num,hx.out.trans (Ext.trans xt hx2),fun (j:Nat) (hj:j<1)=>by obtain rfl:j=0:=(by omega);rfl⟩
   have hkp:(0:Int)<(kk:Int):=by omega
   have hkd:decide (0<kk)=true:=decide_eq_true (by omega)
   obtain⟨c0,c1⟩:=HS.out wr hXr.out kk hlt
   obtain⟨g0,g1⟩:=HS.out wr hXr.out 0 (by omega)
   simp only[Nat.zero_mul,Nat.add_zero]at g0 g1;have K1:=Lib.hid (KP.out kk hlt)
   have K3:Hid (∀W,Calls Tryz.prog 248 #[.agg #[.int .i64 (ptAt l 0).1,.int .i64 (ptAt l 0).2],.agg #[.int .i64 (ptAt l kk).1,.int .i64 (ptAt l kk).2]] W fun e w'=>e=.returned (.int .i64 (cmpP (ptAt l 0) (ptAt l kk)))∧Ext W w'):=fun W=>(kes (ptAt l 0) (ptAt l kk) W).mono fun _ _ h=>⟨h.1,h.2.1⟩
   generalize hq:cmpP (ptAt l 0) (ptAt l kk)=q at K3;have HQ:=Lib.hid hq;clear hq KP;generalize ptAt l 0=p0 at g0 g1 K3;generalize ptAt l kk=pk at c0 c1 K1 K3;obtain⟨x0,y0⟩:=p0;obtain⟨xk,yk⟩:=pk
   simp only at c0 c1 g0 g1
   by_cases hq0:0≤q
   ·have hF:Hid (kas l=false):=by
     show _=_
     rw[hR.out,show firstP l=false from kam hlt (by rw[HQ.out,decide_eq_false hk0,decide_eq_false (show ¬ q<0 by omega)];rfl)];rfl
    go_wp2_with fail
    (refine kad (by kernel_rfl) (by kernel_rfl) ?_;(repeat (first|go_big_quiet_step ((first|(go_at_call 247;with_reducible exact Xt.calls (K1.out _))|(go_at_call 248;with_reducible exact Xt.calls (K3.out _))))|quiet_step ((first|(go_at_call 247;with_reducible exact Xt.calls (K1.out _))|(go_at_call 248;with_reducible exact Xt.calls (K3.out _))))));refine wpQuiet_nil ?_;rintro _ ⟨xq,rfl⟩;have hx2:=xq.ext;generalize xq.world=w2 at hx2 ⊢)
    have r3:Boxed w2 (w.heap.size+1) 4 (.bool false):=(hx2.block _ (by simp only[qsa];omega)).trans ((Below.heap_alloc _ _ _ (by omega)).trans r2.out)
    have d3:=r3.cell;have f3:=r3.frozen;have hz3:=hx2.len;simp only[qsa]at hz3
    go_wp2_with fail
    have e4:=(r3.set (.bool false)).cell
    exact⟨.bool false,by simp[results,Tryz.f146,go_sem,e4],retb hF.out.symm,(hXr.out.trans (Ext.trans xt hx2)).setCell (p:=⟨w.heap.size+1,0,none⟩) (by simp only;omega) _⟩
   ·go_wp2_with fail
    (refine kad (by kernel_rfl) (by kernel_rfl) ?_;(repeat (first|go_big_quiet_step ((first|(go_at_call 247;with_reducible exact Xt.calls (K1.out _))|(go_at_call 248;with_reducible exact Xt.calls (K3.out _))))|quiet_step ((first|(go_at_call 247;with_reducible exact Xt.calls (K1.out _))|(go_at_call 248;with_reducible exact Xt.calls (K3.out _))))));refine wpQuiet_nil ?_;rintro _ ⟨xq,rfl⟩;have hx2:=xq.ext;generalize xq.world=w2 at hx2 ⊢)
    go_wp2_with fail
    go_roundg (l.length-(kk+1))
    case measure=>omega
    case rel=>
     refine⟨kk+1,by omega,by omega,by go_num,hx.out.trans (Ext.trans xt hx2),fun j hj=>?_⟩
     by_cases e:j=kk
     ·subst e;rw[HQ.out,decide_eq_true (show q<0 by omega),Bool.or_true]
     ·exact H.out j (by omega)
  ·have hltz:¬ (kk:Int)<(l.length:Int):=by omega
   have hR2:Hid (kas l=(decide (l.length<3)||(List.range l.length).all fun j=>kko l (kbr l j))):=by
    show _=_
    rw[hR.out,show firstP l=true from kap (fun j hj=>H.out j (by omega))];rfl
   have r2:Boxed wr (w.heap.size+1) 4 (.bool false):=(hx.out.block _ (by omega)).trans q2.out
   have hwr:w.heap.size<wr.heap.size:=by omega
   by_cases h3:l.length<3
   ·have hF:Hid (kas l=true):=by show _=_;rw[hR2.out,decide_eq_true h3];rfl
    have d3:=r2.cell;have f3:=r2.frozen
    have h3z:(l.length:Int)<3:=by omega
    go_wp2_with fail
    have e4:=(r2.set (.bool true)).cell
    exact⟨.bool true,by simp[results,Tryz.f146,go_sem,e4],retb hF.out.symm,hXr.out.setCell (p:=⟨w.heap.size+1,0,none⟩) (by simp only;omega) _⟩
   ·have hR3:Hid (kas l=((List.range l.length).all fun j=>kko l (kbr l j))):=by show _=_;rw[hR2.out,decide_eq_false h3];rfl
    have h3z:¬ (l.length:Int)<3:=by omega
    have R1:Hid (wr.heap[w.heap.size]?=some (.cells #[.slice (some ⟨b,off,none⟩) l.length c] 76)):=(hx.out.block _ (by omega)).trans q1.out
    have R2:=Lib.hid r2;clear r2 hR hR2 H q1 q2
    go_wp2_with (go_at_call 249;refine(kjq _ _ _ _).mono ?_;rintro e w3 ⟨rfl,rfl⟩)
    obtain⟨V0,hV0⟩:∃V0,wr.alloc (.cells #[.slice (some ⟨b,off,none⟩) l.length c] 76)=V0:=⟨_,rfl⟩
    have hz9:V0.heap.size=wr.heap.size+1:=by rw[←hV0];simp
    have bN:V0.heap[wr.heap.size]?=some (.cells #[.slice (some ⟨b,off,none⟩) l.length c] 76):=by rw[←hV0];exact qan wr _
    have hE9:Ext wr V0:=by rw[←hV0];exact(Ext.refl wr).alloc _
    have S1:V0.heap[w.heap.size]?=some (.cells #[.slice (some ⟨b,off,none⟩) l.length c] 76):=(hE9.block _ (by omega)).trans R1.out
    have S2:Boxed V0 (w.heap.size+1) 4 (.bool false):=(hE9.block _ (by omega)).trans R2.out
    have hB0:Below w.heap.size w V0:=hXr.out.trans hE9
    have hst:=kms (5-1) wr.heap.size w.heap.size wr.heap.size b off c l (by omega) (by omega) V0 (by omega) hb (by omega) bN (HSl.out.ext hB0)
    rw[hV0];clear hV0 bN hE9
    refine(wpIn_wide (n:=5)).1 ?_
    refine wpIn_rangeFunc_ownH rfl (by omega) (gf:=327) (lb:=#[.pointer (some ⟨wr.heap.size,0,none⟩)]) rfl trivial (enters_of Tryz.func327 (by kernel_rfl) rfl)
     hst Kp2.t (Kp2.b (by omega)) (Below.refl _ _) (fun _=>rfl)
     (fun pre W=>((AllP (kko l) pre∧Boxed W (w.heap.size+1) 4 (.bool false))∧W.heap[w.heap.size]?=some (.cells #[.slice (some ⟨b,off,none⟩) l.length c] 76))∧Below w.heap.size w W)
     (fun c pre W=>((c=.ret∧kpg (kko l) pre)∧Boxed W (w.heap.size+1) 4 (.bool false))∧Below w.heap.size w W)
     (OwnFrom.and (OwnFrom.and (OwnFrom.and (ownFrom_pure _ _) (Own.from (boxed_own _ _ (fun _=>_)) _)) (Own.from (kdq _ _ _) _)) (ownFrom_below (Nat.le_refl _) (by omega)))
     (fun c=>OwnFrom.and (OwnFrom.and (ownFrom_pure _ _) (Own.from (boxed_own _ _ (fun _=>_)) _)) (ownFrom_below (Nat.le_refl _) (by omega)))
     ⟨⟨⟨AllP.nil _,S2⟩,S1⟩,hB0⟩
     (fun s a' W=>∃B1 B2,(W.heap[B1]?=some (.cells #[.int .i64 s.1.1,.int .i64 s.1.2] 43)∧W.heap[B2]?=some (.cells #[.int .i64 s.2.1,.int .i64 s.2.2] 43))∧a'={ tmps:=#[Value.slice (some ⟨b,off,none⟩) l.length c,.pointer (some ⟨w.heap.size,0,none⟩),.pointer (some ⟨w.heap.size+1,0,none⟩),u3,u4,.pointer (some ⟨B1,0,none⟩),.pointer (some ⟨B2,0,none⟩),undef,undef,.slice (some ⟨b,off,none⟩) l.length c,.int .i64 l.length,.bool false,.bool false,.slice (some ⟨b,off,none⟩) l.length c,.int .i64 l.length,.bool false,.bool false,.slice (some ⟨b,off,none⟩) l.length c,.int .i64 l.length,.int .i64 kk,.bool false,u21,u22,u23,u24,u25,u26,u27,u28,u29,u30,u31,u32,u33,u34,u35,u36,u37,u38,u39,.slice (some ⟨b,off,none⟩) l.length c,.int .i64 l.length,.bool false,.slice (some ⟨b,off,none⟩) l.length c,.func (.func 327) #[] #[.pointer (some ⟨wr.heap.size,0,none⟩)],.agg #[.int .i64 s.1.1,.int .i64 s.1.2],.agg #[.int .i64 s.2.1,.int .i64 s.2.2],undef,undef,undef,undef,undef,undef,undef,undef,undef,undef,undef,undef,undef,undef,undef,undef,undef,undef,undef,undef,undef,undef],defers:=[] })
     (fun s a' _ X Y row hs hg hr=>by
      obtain⟨B1,B2,⟨h1,h1'⟩,h2⟩:=hs
      refine⟨B1,B2,⟨(hg.block B1 (qaz h1).1 (fun e=>?_)).trans h1,(hg.block B2 (qaz h1').1 (fun e=>?_)).trans h1'⟩,h2⟩
      ·obtain⟨_,o,ho,hoc⟩:=hr B1 e.symm
       rw[h1]at ho;cases ho;cases hoc
      ·obtain⟨_,o,ho,hoc⟩:=hr B2 e.symm
       rw[h1']at ho;cases ho;cases hoc)
     ?assign ?body ?done ?stop
    case assign=>
     rintro lw pre s W K ⟨⟨⟨hp,b4⟩,bS⟩,hB1⟩ hK;simp only[kmt]
     gi_wp2
     refine hK _ _ (((KeepsOthers.alloc _ _).trans (KeepsOthers.alloc _ _)).from _) (((Kp2.refl _ _ W).alloc hB1.size _).alloc (by simp only[qsa];have:=hB1.size;omega) _) ⟨⟨⟨hp,(b4.alloc _).alloc _⟩,?_⟩,(hB1.alloc hB1.size _).alloc (by simp only[qsa];have:=hB1.size;omega) _⟩ ⟨W.heap.size,W.heap.size+1,⟨?_,?_⟩,rfl⟩
     ·have hlt:=(qaz bS).1
      rw[Below.heap_alloc _ _ _ (by simp only[qsa];omega),Below.heap_alloc _ _ _ hlt];exact bS
     ·rw[Below.heap_alloc _ _ _ (by simp only[qsa];omega)];exact qan W _
     ·have:=qan (W.alloc (.cells #[.int .i64 s.1.1,.int .i64 s.1.2] 43)) (.cells #[.int .i64 s.2.1,.int .i64 s.2.2] 43)
      simpa using this
    case body=>
     rintro lw pre ⟨⟨x1,x2⟩,⟨y1,y2⟩⟩ a' W hl' ⟨r,hr⟩ ⟨⟨⟨hp,b4⟩,bS⟩,hB1⟩ ⟨B1,B2,⟨bA,bB⟩,rfl⟩ hlt
     have KT:Hid (∀i W,Calls Tryz.prog 250 #[.agg #[.int .i64 x1,.int .i64 x2],.agg #[.int .i64 y1,.int .i64 y2],.agg #[.int .i64 (ptAt l i).1,.int .i64 (ptAt l i).2]] W fun e w'=>e=.returned (.int .i64 (kfy (x1,x2) (y1,y2) (ptAt l i)))∧Ext W w'):=fun i W=>kmj (x1,x2) (y1,y2) (ptAt l i) W
     have hlA:=(qaz bA).1;have hlB:=(qaz bB).1;have hlS:=(qaz bS).1;have hl4:=(qaz b4).1
     have cS:W.cell? ⟨w.heap.size,0,none⟩=some (.slice (some ⟨b,off,none⟩) l.length c):=by simp[World.cell?,bS]
     have HA:=Lib.hid bA;have HBB:=Lib.hid bB;have H4:=Lib.hid b4;have HSS:=Lib.hid bS;have HB:=Lib.hid hB1;clear bA bB b4 bS hB1
     gi_wp2
     gi_loopw [8,49] (fun _ s49 wq=>∃k:Nat,k≤l.length∧s49=.int .i64 k∧Hid (Ext W wq)∧Hid (∀j,j<k→(decide (ptAt l j=(x1,x2))||decide (ptAt l j=(y1,y2))||decide (0<kfy (x1,x2) (y1,y2) (ptAt l j)))=true))
      (fun _ s49 _=>l.length-(intOf s49).toNat)
     case atStart=>exact⟨0,Nat.zero_le _,rfl,Ext.refl _,fun j hj=>absurd hj (Nat.not_lt_zero _)⟩
     case round=>
      obtain⟨k,hk,rfl,hX,G⟩:=hrel;have hzX:=hX.out.len
      have GA:wr.heap[B1]?=some (.cells #[.int .i64 x1,.int .i64 x2] 43):=(hX.out.block _ hlA).trans HA.out
      have GB:wr.heap[B2]?=some (.cells #[.int .i64 y1,.int .i64 y2] 43):=(hX.out.block _ hlB).trans HBB.out
      have cA0:wr.cell? ⟨B1,0,none⟩=some (.int .i64 x1):=by simp[World.cell?,GA]
      have cA1:wr.cell? ⟨B1,1,none⟩=some (.int .i64 x2):=by simp[World.cell?,GA]
      have cB0:wr.cell? ⟨B2,0,none⟩=some (.int .i64 y1):=by simp[World.cell?,GB]
      have cB1:wr.cell? ⟨B2,1,none⟩=some (.int .i64 y2):=by simp[World.cell?,GB]
      have g4:Boxed wr (w.heap.size+1) 4 (.bool false):=(hX.out.block _ hl4).trans H4.out
      have d4:=g4.cell;have f4:=g4.frozen;have G4:=Lib.hid g4;have hBz:=HB.out.size
      have hXw:Hid (Below w.heap.size w wr):=HB.out.trans (Below.mono hX.out hBz)
      clear GA GB g4 cS
      by_cases hkl:k<l.length
      rotate_left
      ·obtain rfl:k=l.length:=by omega
       have hL:Hid (kko l ((x1,x2),(y1,y2))=true):=by
        show _=_
        unfold kko;rw[List.all_eq_true];intro x hx';obtain⟨j,hj,e⟩:=List.getElem_of_mem hx'
        have:=G.out j (by omega)
        rwa [kbm (show l[j]?=some x by rw[qgq hj,e])]at this
       gi_wp2
       exact⟨hX.out.ko.from _,hX.out.kp2 hBz,⟨⟨hp.snoc hL.out,G4.out⟩,(hX.out.block _ hlS).trans HSS.out⟩,hXw.out⟩
      have hkz:(k:Int)<(l.length:Int):=by omega
      have hbq:b<wr.heap.size:=by omega
      have hlA':B1<wr.heap.size:=by omega
      have hlB':B2<wr.heap.size:=by omega
      have hl4':w.heap.size+1<wr.heap.size:=by omega
      obtain⟨c0,c1⟩:=HS.out wr hXw.out k hkl;have K4:=Lib.hid (KT.out k)
      have NX:Hid ((decide (ptAt l k=(x1,x2))||decide (ptAt l k=(y1,y2))||decide (0<kfy (x1,x2) (y1,y2) (ptAt l k)))=true→∀j,j<k+1→(decide (ptAt l j=(x1,x2))||decide (ptAt l j=(y1,y2))||decide (0<kfy (x1,x2) (y1,y2) (ptAt l j)))=true):=fun h0 j hj=>by
       by_cases e:j=k
       ·subst e;exact h0
       ·exact G.out j (by omega)
      have BD:Hid ((decide (ptAt l k=(x1,x2))||decide (ptAt l k=(y1,y2))||decide (0<kfy (x1,x2) (y1,y2) (ptAt l k)))=false→kko l ((x1,x2),(y1,y2))=false):=fun h0=>by
       unfold kko;rw[List.all_eq_false]
       exact⟨ptAt l k,kcr hkl,by rw[h0];simp⟩
      generalize kfy (x1,x2) (y1,y2) (ptAt l k)=t at K4 NX BD;generalize ptAt l k=pk at c0 c1 K4 NX BD;obtain⟨p1,p2⟩:=pk
      simp only at c0 c1 K4
      simp only[Prod.mk.injEq]at NX BD
      by_cases dx:p1=x1∧p2=x2
      ·have NX1:=Lib.hid (NX.out (by rw[decide_eq_true dx];rfl))
       obtain⟨rfl,rfl⟩:=dx;clear NX BD
       gi_wp2_with fail
       refine⟨trivial,?_⟩
       gi_wp2_with fail
       go_roundw
       case rel=>exact⟨k+1,by omega,by go_num,hX.out.trans xt,NX1.out⟩
       case measure=>simp[intOf];omega
      have Dx:p1≠x1∨(p1=x1∧p2≠x2):=by omega
      by_cases dy:p1=y1∧p2=y2
      ·have NX1:=Lib.hid (NX.out (by rw[decide_eq_true dy,Bool.or_true];rfl))
       obtain⟨rfl,rfl⟩:=dy;clear NX BD dx
       rcases Dx with Dx|⟨rfl,Dx⟩
       all_goals
        gi_wp2_with fail
        refine⟨trivial,?_⟩
        gi_wp2_with fail
        go_roundw
        case rel=>exact⟨k+1,by omega,by go_num,hX.out.trans xt,NX1.out⟩
        case measure=>simp[intOf];omega
      have Dy:p1≠y1∨(p1=y1∧p2≠y2):=by omega
      by_cases ht:t≤0
      ·have hL:=Lib.hid (BD.out (by rw[decide_eq_false dx,decide_eq_false dy,decide_eq_false (by omega)];rfl))
       clear NX BD dx dy
       rcases Dx with Dx|⟨rfl,Dx⟩<;>rcases Dy with Dy|⟨rfl,Dy⟩
       all_goals
        gi_wp2_with (refine⟨trivial,?_⟩;gi_at_call 250;refine(CallsIn.inRound lw (callsIn_wide.2 (K4.out _))).mono ?_;rintro e w5 ⟨rfl,hx5⟩;have hx6:Ext wr w5:=Ext.trans xt hx5;have m4:Boxed w5 (w.heap.size+1) 4 (.bool false):=(hx6.block _ hl4').trans G4.out;have f5:=m4.frozen;have g5:=m4.cell;have M4:=Lib.hid m4;have hX6:=Lib.hid hx6;have hz6:=hx6.len;clear m4 hx5 hx6)
        have hXX:Ext W w5:=hX.out.trans hX6.out
        exact⟨(hXX.ko.trans (KeepsOthers.setCell _ _ _)).from _,⟨⟨rfl,kpg.mk _ hL.out⟩,M4.out.set (.bool false)⟩,(HB.out.trans (Below.mono hXX hBz)).setCell (p:=⟨w.heap.size+1,0,none⟩) (by simp only;omega) _⟩
      ·have NX1:=Lib.hid (NX.out (by rw[decide_eq_true (show 0<t by omega),Bool.or_true]))
       clear NX BD dx dy
       rcases Dx with Dx|⟨rfl,Dx⟩<;>rcases Dy with Dy|⟨rfl,Dy⟩
       all_goals
        gi_wp2_with (refine⟨trivial,?_⟩;gi_at_call 250;refine(CallsIn.inRound lw (callsIn_wide.2 (K4.out _))).mono ?_;rintro e w5 ⟨rfl,hx5⟩)
        go_roundw
        case rel=>exact⟨k+1,by omega,by go_num,hX.out.trans (Ext.trans xt hx5),NX1.out⟩
        case measure=>simp[intOf];omega
    case done=>
     rintro D ys W hD rfl ⟨⟨⟨hp,b4⟩,_⟩,hB⟩ hK;have c4:=b4.cell;have f4:=b4.frozen
     go_wp2
     have e4:=b4.set (.bool true)
     have hBB:=hB.setCell (p:=⟨w.heap.size+1,0,none⟩) (by simp only;omega) (.bool true)
     have hK':=(KeepsOthers.setCell W ⟨w.heap.size+1,0,none⟩ (.bool true)).same D _ hK rfl
     refine⟨by simp,.inl ⟨_,_,rfl,run_takeDeferred hK',?_⟩⟩
     have g4:=cell_kept e4.cell (grownBy_putObj' _ D (.deferred none)) (fun r e=>by cases e;exact⟨_,hK',rfl⟩)
     refine⟨.bool true,by simp[results,Tryz.f146,go_sem,g4],?_,hBB.trans (belowK_b (w:=w) (Nat.le_refl _) _ D _ _ (by omega) hK' rfl rfl)⟩
     rw[hR3.out,show ((List.range l.length).all fun j=>kko l (kbr l j))=true from hp.all]
    case stop=>
     rintro D c pre W hD ⟨k,hk,rfl⟩ ⟨⟨⟨rfl,hx⟩,b4⟩,hB⟩ hK
     gi_wp2
     refine⟨by simp,.inl ⟨_,_,rfl,run_takeDeferred hK,?_⟩⟩
     have g4:=cell_kept b4.cell (grownBy_putObj' _ D (.deferred none)) (fun r e=>by cases e;exact⟨_,hK,rfl⟩)
     refine⟨.bool false,by simp[results,Tryz.f146,go_sem,g4],?_,hB.trans (belowK_b (w:=w) (Nat.le_refl _) _ D _ _ (by omega) hK rfl rfl)⟩
     rw[hR3.out,show ((List.range l.length).all fun j=>kko l (kbr l j))=false from hx.all hk]
end Go.Proofs.YtcgghcicnanliaaGreatDoor
namespace Go.Proofs.YtcgghcicnanliaaGreatDoor
open Go.RowKit Go.Lib
set_option maxHeartbeats 1000000
set_option maxRecDepth 100000
theorem eg_407:∀args w,(callFunc 407 args).run Tryz.prog w=.ok (.enter 407 args) w:=enters_of Tryz.func407 (by kernel_rfl) rfl
theorem svalid1_407 (s:Sp)(w:World):Calls Tryz.prog 407 #[.agg #[.int .i64 s.1,.int .i64 s.2]] w fun e w'=>e=.returned (.bool (!kcv s.1 s.2))∧Ext w w':=by
 have K:=Lib.hid (fun W=>kgd s.1 s.2 W)
 generalize kcv s.1 s.2=q at K ⊢;obtain⟨a,b⟩:=s
 simp only at K ⊢
 go_enter Tryz.func407,Tryz.ntmps407
 go_wp2_with (go_at_call 258;refine(K.out _).mono ?_;rintro e w1 ⟨rfl,hx1⟩)
 go_ret
 exact⟨rfl,xt⟩
theorem svalid_382 (A:Option Addr)(c:Nat)(l:List Sp)(w:World)(hl:l.length≤1000000)(hS:Sl encSp 2 w A l)(hok:∀s∈l,kcv s.1 s.2=true):Calls Tryz.prog 382 #[.slice A l.length c] w fun e w'=>e=.returned (.bool true)∧Ext w w':=by
 have K0:=klt 407 #[] eg_407 (fun s=>!kcv s.1 s.2) A c l w hl hS (fun W x hx h=>by simpa[encSp]using svalid1_407 x W)
 have hF:(l.any fun s=>!kcv s.1 s.2)=false:=by
  rw[List.any_eq_false];intro s hs
  simp[hok s hs]
 rw[hF]at K0;have K:=Lib.hid K0;clear K0 hF hS hok;generalize l.length=n at K hl ⊢
 go_enter Tryz.func382,Tryz.ntmps382
 go_wp2_with (go_at_call 406;refine K.out.mono ?_;rintro e w1 ⟨rfl,hx1⟩)
 go_ret
 exact⟨rfl,hx1⟩
def mnL (l:List Int):Nat→Int
 | 0=>l[0]?.getD 0
 | k+1=>min (mnL l k) (l[k]?.getD 0)
def mxL (l:List Int):Nat→Int
 | 0=>l[0]?.getD 0
 | k+1=>max (mxL l k) (l[k]?.getD 0)
theorem min_408 (A:Option Addr)(c:Nat)(l:List Int)(w:World)(h0:0<l.length)(hl:l.length≤1000000)(hS:Sl encI 1 w A l):Calls Tryz.prog 408 #[.slice A l.length c] w fun e w'=>e=.returned (.int .i64 (mnL l l.length))∧w=w':=by
 obtain⟨b,off,rfl⟩:=hS.addr h0;have hb:=hS.blk h0
 have C:=Lib.hid (fun k x (h:l[k]?=some x)=>(show w.cell? ⟨b,off+k,none⟩=some (.int .i64 x) by have:=hS.at_ h (i:=0) rfl;simpa using this))
 obtain⟨x0,hx0⟩:∃x,l[0]?=some x:=⟨_,qgq h0⟩;have c0:=C.out 0 x0 hx0;simp only[Nat.add_zero]at c0
 have E0:Hid (mnL l 1=x0):=by show _=_;simp[mnL,hx0]
 have hz:¬ (l.length:Int)<1:=by omega
 have hz0:(0:Int)<(l.length:Int):=by omega
 clear hx0 hS
 go_enter Tryz.func408,Tryz.ntmps408
 go_wp2
 go_loopg [3,4] l.length (fun gg s3 s4 wr=>∃kk:Nat,1≤kk∧kk≤l.length∧l.length-kk≤gg∧s4=.int .i64 kk∧s3=.int .i64 (mnL l kk)∧wr=w)
 case atStart=>exact⟨1,by omega,by omega,by omega,rfl,by rw[E0.out],rfl⟩
 case round=>
  obtain⟨kk,hk1,hkk,hg,rfl,rfl,rfl⟩:=hrel
  by_cases hlt:kk<l.length
  ·obtain⟨x,hx⟩:∃x,l[kk]?=some x:=⟨_,qgq hlt⟩
   have c1:=C.out kk x hx
   have E1:Hid (mnL l (kk+1)=min (mnL l kk) x):=by show _=_;simp[mnL,hx]
   have hltz:(kk:Int)<(l.length:Int):=by omega
   clear hx;generalize mnL l kk=m at *
   go_wp2
   all_goals
    go_roundg (l.length-(kk+1))
    case measure=>omega
    case rel=>exact⟨kk+1,by omega,by omega,by omega,by go_num,by rw[E1.out];try (congr 1;omega),rfl⟩
  ·obtain rfl:kk=l.length:=by omega
   go_wp2
   go_ret
   exact⟨rfl,rfl⟩
theorem max_409 (A:Option Addr)(c:Nat)(l:List Int)(w:World)(h0:0<l.length)(hl:l.length≤1000000)(hS:Sl encI 1 w A l):Calls Tryz.prog 409 #[.slice A l.length c] w fun e w'=>e=.returned (.int .i64 (mxL l l.length))∧w=w':=by
 obtain⟨b,off,rfl⟩:=hS.addr h0;have hb:=hS.blk h0
 have C:=Lib.hid (fun k x (h:l[k]?=some x)=>(show w.cell? ⟨b,off+k,none⟩=some (.int .i64 x) by have:=hS.at_ h (i:=0) rfl;simpa using this))
 obtain⟨x0,hx0⟩:∃x,l[0]?=some x:=⟨_,qgq h0⟩;have c0:=C.out 0 x0 hx0;simp only[Nat.add_zero]at c0
 have E0:Hid (mxL l 1=x0):=by show _=_;simp[mxL,hx0]
 have hz:¬ (l.length:Int)<1:=by omega
 have hz0:(0:Int)<(l.length:Int):=by omega
 clear hx0 hS
 go_enter Tryz.func409,Tryz.ntmps409
 go_wp2
 go_loopg [3,4] l.length (fun gg s3 s4 wr=>∃kk:Nat,1≤kk∧kk≤l.length∧l.length-kk≤gg∧s4=.int .i64 kk∧s3=.int .i64 (mxL l kk)∧wr=w)
 case atStart=>exact⟨1,by omega,by omega,by omega,rfl,by rw[E0.out],rfl⟩
 case round=>
  obtain⟨kk,hk1,hkk,hg,rfl,rfl,rfl⟩:=hrel
  by_cases hlt:kk<l.length
  ·obtain⟨x,hx⟩:∃x,l[kk]?=some x:=⟨_,qgq hlt⟩
   have c1:=C.out kk x hx
   have E1:Hid (mxL l (kk+1)=max (mxL l kk) x):=by show _=_;simp[mxL,hx]
   have hltz:(kk:Int)<(l.length:Int):=by omega
   clear hx;generalize mxL l kk=m at *
   go_wp2
   all_goals
    go_roundg (l.length-(kk+1))
    case measure=>omega
    case rel=>exact⟨kk+1,by omega,by omega,by omega,by go_num,by rw[E1.out];try (congr 1;omega),rfl⟩
  ·obtain rfl:kk=l.length:=by omega
   go_wp2
   go_ret
   exact⟨rfl,rfl⟩
theorem least_383 (A:Option Addr)(c:Nat)(l:List Int)(w:World)(h0:0<l.length)(hl:l.length≤1000000)(hS:Sl encI 1 w A l)(hok:kcv (mnL l l.length) (mxL l l.length)=true) :
  Calls Tryz.prog 383 #[.slice A l.length c] w fun e w'=>e=.returned (.tuple #[.agg #[.int .i64 (mnL l l.length),.int .i64 (mxL l l.length)],.int .i64 0])∧Ext w w':=by
 have K1:=Lib.hid (fun W (h:Ext w W)=>min_408 A c l W h0 hl (hS.ext h))
 have K2:=Lib.hid (fun W (h:Ext w W)=>max_409 A c l W h0 hl (hS.ext h))
 have K3:=Lib.hid (fun W=>kgd (mnL l l.length) (mxL l l.length) W)
 rw[hok]at K3;clear hS hok h0;generalize mnL l l.length=a at *;generalize mxL l l.length=b at *;generalize l.length=n at *
 have KX:=Lib.hid (fun W hx=>kbj w #[.int .i64 0,.int .i64 0] #[.int .i64 a,.int .i64 b] 28 28 W hx)
 go_enter Tryz.func383,Tryz.ntmps383
 go_wp2_with (first
  | (go_at_call 408;refine(K1.out _ xt).mono ?_;rintro e w1 ⟨rfl,rfl⟩)
  | (go_at_call 409;refine(K2.out _ xt).mono ?_;rintro e w2 ⟨rfl,rfl⟩))
 refine(K3.out _).mono ?_
 rintro e w3 ⟨rfl,hx3⟩;obtain⟨u0,u1⟩:=KX.out _ hx3;obtain⟨_,_,f0,f1⟩:=kae u0;obtain⟨c0,c1,_,_⟩:=kae u1;have z0:=(qaz u0).1;have z1:=(qaz u1).1
 have HX:Hid (Ext w w3):=Ext.trans (((Ext.refl w).alloc _).alloc _) hx3
 have HU:=Lib.hid u0;clear hx3 u0 u1
 go_wp2_with fail
 have v0:=kbu (kbv HU.out (.int .i64 a)) (.int .i64 b);obtain⟨o0,o1,_,_⟩:=kae v0;have hx:=HX.out
 (try simp only[Exit.inBlock,Exit.then])
 refine bodyPost_ret (by first|(simp[results,Tryz.f383,go_sem,o0,o1];rfl)|(simp[results,Tryz.f383,go_sem,o0,o1];done)) rfl ?_
 exact⟨rfl,xt⟩
def kjo (a b:Sp):Sp:=(min a.1 b.1,max a.2 b.2)
theorem joinS_ok {a b:Sp}(ha:kcv a.1 a.2=true)(hb:kcv b.1 b.2=true):kcv (kjo a b).1 (kjo a b).2=true:=by
 simp only[kcv,qba,decide_eq_true_eq]at ha hb
 have h:(min a.1 b.1≤max a.2 b.2∧-1000000000000≤min a.1 b.1)∧max a.2 b.2≤1000000000000:=by omega
 unfold kcv kjo;rw[decide_eq_true h.1.1,decide_eq_true h.1.2,decide_eq_true h.2]
 rfl
theorem kgt (a b:Sp)(ha:kcv a.1 a.2=true)(hb:kcv b.1 b.2=true)(w:World) :
  Calls Tryz.prog 322 #[.agg #[.int .i64 a.1,.int .i64 a.2],.agg #[.int .i64 b.1,.int .i64 b.2]] w fun e w'=>e=.returned (.tuple #[.agg #[.int .i64 (kjo a b).1,.int .i64 (kjo a b).2],.int .i64 0])∧Ext w w':=by
 have hall:∀s∈[a,b],kcv s.1 s.2=true:=fun s hs=>by
  simp only[List.mem_cons,List.not_mem_nil,or_false]at hs
  rcases hs with h|h
  ·rw[h];exact ha
  ·rw[h];exact hb
 have hle:[a,b].length≤1000000:=Nat.le_of_ble_eq_true rfl
 have K1:Hid (∀A c W,Sl encSp 2 W A [a,b]→Calls Tryz.prog 382 #[.slice A [a,b].length c] W fun e w'=>e=.returned (.bool true)∧Ext W w'):=fun A c W hS=>svalid_382 A c [a,b] W hle hS hall
 clear hall hle
 have e1:mnL [a.1,a.2,b.1,b.2] [a.1,a.2,b.1,b.2].length=(kjo a b).1:=by
  simp only[kcv,qba,decide_eq_true_eq]at ha hb
  simp[mnL,kjo];omega
 have e2:mxL [a.1,a.2,b.1,b.2] [a.1,a.2,b.1,b.2].length=(kjo a b).2:=by
  simp only[kcv,qba,decide_eq_true_eq]at ha hb
  simp[mxL,kjo];omega
 have K2:Hid (∀A c W,Sl encI 1 W A [a.1,a.2,b.1,b.2]→Calls Tryz.prog 383 #[.slice A [a.1,a.2,b.1,b.2].length c] W fun e w'=>e=.returned (.tuple #[.agg #[.int .i64 (kjo a b).1,.int .i64 (kjo a b).2],.int .i64 0])∧Ext W w'):=fun A c W hS=>by
  have:=least_383 A c [a.1,a.2,b.1,b.2] W (Nat.le_of_ble_eq_true rfl) (Nat.le_of_ble_eq_true rfl) hS (by rw[e1,e2];exact joinS_ok ha hb)
  rwa [e1,e2]at this
 clear e1 e2;generalize (kjo a b).1=j1 at *;generalize (kjo a b).2=j2 at *;obtain⟨a1,a2⟩:=a;obtain⟨b1,b2⟩:=b;simp only[List.length_cons,List.length_nil,Nat.reduceAdd]at *
 have KX:=Lib.hid (fun W hx=>kdk w #[.int .i64 a1,.int .i64 a2] #[.int .i64 b1,.int .i64 b2] #[.int .i64 0,.int .i64 0] 28 28 28 W hx)
 go_enter Tryz.func322,Tryz.ntmps322
 go_wp2_with fail
 have hS0:=Sl.new (enc:=encSp) (k:=2) (fun _=>rfl) (((w.alloc (.cells #[.int .i64 a1,.int .i64 a2] 28)).alloc (.cells #[.int .i64 b1,.int .i64 b2] 28)).alloc (.cells #[.int .i64 0,.int .i64 0] 28)) [(a1,a2),(b1,b2)] 28
 simp only[qsa]at hS0
 refine(K1.out _ 2 _ hS0).mono ?_
 rintro e w1 ⟨rfl,hx1⟩
 have hE1:Ext (((w.alloc (.cells #[.int .i64 a1,.int .i64 a2] 28)).alloc (.cells #[.int .i64 b1,.int .i64 b2] 28)).alloc (.cells #[.int .i64 0,.int .i64 0] 28)) w1:=Ext.trans ((Ext.refl _).alloc _) hx1
 obtain⟨u0,u1,u2⟩:=KX.out _ hE1;obtain⟨c0,c1,_,_⟩:=kae u0;obtain⟨d0,d1,_,_⟩:=kae u1;have z0:=(qaz u0).1;have z1:=(qaz u1).1
 have HX:Hid (Ext w w1):=Ext.trans ((((Ext.refl w).alloc _).alloc _).alloc _) hE1
 have HU:=Lib.hid u2;clear hx1 hE1 u0 u1 u2
 go_wp2_with fail
 have hS1:=Sl.new (enc:=encI) (k:=1) (fun _=>rfl) w1 [a1,a2,b1,b2] 3
 refine(K2.out _ 4 _ hS1).mono ?_
 rintro e w2 ⟨rfl,hx2⟩
 have hE2:Ext w1 w2:=Ext.trans ((Ext.refl _).alloc _) hx2
 have v2:=kaf hE2 HU.out;obtain⟨g0,g1,f0,f1⟩:=kae v2;have z3:=(qaz v2).1;have HV:=Lib.hid v2
 have HY:Hid (Ext w w2):=HX.out.trans hE2
 clear c0 c1 d0 d1 hx2 hE2 v2
 go_wp2_with fail
 have v0:=kbu (kbv HV.out (.int .i64 j1)) (.int .i64 j2);obtain⟨o0,o1,_,_⟩:=kae v0;have hx:=HY.out
 (try simp only[Exit.inBlock,Exit.then])
 refine bodyPost_ret (by first|(simp[results,Tryz.f322,go_sem,o0,o1];rfl)|(simp[results,Tryz.f322,go_sem,o0,o1];done)) rfl ?_
 exact⟨rfl,xt⟩
def joinF (f g:FlowT):FlowT:=⟨0,0,0,min f.ulo g.ulo,max f.uhi g.uhi,min f.vlo g.vlo,max f.vhi g.vhi,min f.hlo g.hlo,max f.hhi g.hhi⟩
theorem joinF_ok {f g:FlowT}(hf:f.ok=true)(hg:g.ok=true):(joinF f g).ok=true:=by
 have key:∀a b c d m:Int,within a b m=true→within c d m=true→within (min a c) (max b d) m=true:=fun a b c d m h1 h2=>by
  unfold within at *;rw[qba,qba,decide_eq_true_eq,decide_eq_true_eq]at h1 h2 ⊢
  exact⟨⟨joinS_ok (a:=(a,b)) (b:=(c,d)) h1.1.1 h2.1.1,by omega⟩,by omega⟩
 unfold FlowT.ok at *;rw[qba,qba]at hf hg ⊢
 exact⟨⟨key _ _ _ _ _ hf.1.1 hg.1.1,key _ _ _ _ _ hf.1.2 hg.1.2⟩,key _ _ _ _ _ hf.2 hg.2⟩
set_option maxHeartbeats 4000000
theorem polygons_69 (A:Option Addr)(c:Nat)(r:List PV)(w:World)(hl:r.length≤1000000)(R:Rg w A r) :
  Calls Tryz.prog 69 #[.slice A r.length c] w fun e w'=>e=.returned (.bool (r.all fun v=>kaq v.l))∧Ext w w':=by
 go_enter Tryz.func69,Tryz.ntmps69
 go_wp2
 go_loopg [3,4] r.length (fun gg s3 _ wr=>∃kk:Nat,kk≤r.length∧r.length-kk≤gg∧s3=.int .i64 kk∧Hid (Ext w wr)∧Hid (∀j x,j<kk→r[j]?=some x→kaq x.l=true))
 case atStart=>exact⟨0,Nat.zero_le _,by omega,rfl,xt,fun j x hj=>absurd hj (Nat.not_lt_zero _)⟩
 case round=>
  obtain⟨kk,hkk,hg,rfl,hx,H⟩:=hrel
  by_cases hlt:kk<r.length
  ·obtain⟨b,off,rfl⟩:=R.sl.addr (by omega)
   obtain⟨y,hy⟩:∃y,r[kk]?=some y:=⟨_,qgq hlt⟩;have Y:=Lib.hid hy
   have K3:=Lib.hid (fun W (hw:Ext w W)=>refValid_143 y.A y.c y.l W ((R.each y (qmq hy)).ext hw))
   have hltz:(kk:Int)<(r.length:Int):=by omega
   have hbw:b<wr.heap.size:=Nat.lt_of_lt_of_le (R.sl.blk (by omega)) hx.out.len
   generalize hp:kaq y.l=p at K3;have HP:=Lib.hid hp
   have c0:wr.cell? ⟨b,off+kk*1,none⟩=some (.slice y.A y.l.length y.c):=by have:=(R.sl.ext hx.out).at_ hy (i:=0) rfl;simpa using this
   rw[Nat.mul_one]at c0;clear hy hp;obtain⟨yA,yl,yc⟩:=y
   simp only at c0 K3
   cases p with
   | false=>
    have hF:Hid ((r.all fun v=>kaq v.l)=false):=by
     show _=_
     rw[List.all_eq_false];exact⟨_,qmq Y.out,by rw[HP.out];simp⟩
    go_wp2_with (go_at_call 143;refine(K3.out _ xt).mono ?_;rintro e w3 ⟨rfl,hb3⟩)
    go_ret
    exact⟨retb hF.out.symm,hx.out.trans hb3⟩
   | true=>
    go_wp2_with (go_at_call 143;refine(K3.out _ xt).mono ?_;rintro e w3 ⟨rfl,hb3⟩)
    go_roundg (r.length-(kk+1))
    case measure=>omega
    case rel=>
     refine⟨kk+1,by omega,by omega,by go_num,hx.out.trans hb3,fun j x hj hjx=>?_⟩
     by_cases e:j=kk
     ·subst e
      have:=Y.out.symm.trans hjx
      cases this
      exact HP.out
     ·exact H.out j x (by omega) hjx
  ·have hltz:¬ (kk:Int)<(r.length:Int):=by omega
   have hF:Hid ((r.all fun v=>kaq v.l)=true):=by
    show _=_
    rw[List.all_eq_true];intro x hx';obtain⟨j,hj,e⟩:=List.getElem_of_mem hx'
    exact H.out j x (by omega) (by rw[qgq hj,e])
   go_wp2
   go_ret
   exact⟨retb hF.out.symm,hx.out⟩
theorem refValid7R_30 (A:Option Addr)(c:Nat)(r:List PV)(w:World)(R:Rg w A r) :
  Calls Tryz.prog 30 #[.slice A r.length c] w fun e w'=>e=.returned (.bool (decide (r.length≤32)&&r.all fun v=>kaq v.l))∧Ext w w':=by
 by_cases hl:r.length≤32
 ·have K:=Lib.hid (polygons_69 A c r w (by omega) R)
  generalize (r.all fun v=>kaq v.l)=q at K ⊢
  have hz:(r.length:Int)≤32:=by omega
  go_enter Tryz.func30,Tryz.ntmps30
  go_wp2_with (go_at_call 69;refine K.out.mono ?_;rintro e w1 ⟨rfl,hb1⟩)
  go_ret
  exact⟨retb (by simp[hl]),xt⟩
 ·have hz:¬ (r.length:Int)≤32:=by omega
  go_enter Tryz.func30,Tryz.ntmps30
  go_wp2
  go_ret
  exact⟨retb (by simp[hl]),xt⟩
theorem few7R_36 (A:Option Addr)(c:Nat)(r:List PV)(w:World)(R:Rg w A r) :
  Calls Tryz.prog 36 #[.slice A r.length c] w fun e w'=>koi (r.length≤40) e∧Ext w w':=by
 go_enter Tryz.func36,Tryz.ntmps36
 go_wp2
 go_loopg [3,4] (r.length+1) (fun gg s3 s4 wr=>∃kk:Nat,∃n:Int,kk≤r.length∧kk≤41∧r.length+1-kk≤gg∧s3=.int .i64 n∧s4=.int .i64 kk∧wr=w)
 case atStart=>exact⟨0,0,Nat.zero_le _,by omega,by omega,rfl,rfl,rfl⟩
 case round=>
  obtain⟨kk,n,hkk,h41,hg,rfl,rfl,rfl⟩:=hrel
  by_cases hlt:kk<r.length∧kk<41
  ·obtain⟨hlt,h4⟩:=hlt
   obtain⟨b,off,rfl⟩:=R.sl.addr (by omega)
   obtain⟨y,hy⟩:∃y,r[kk]?=some y:=⟨_,qgq hlt⟩
   have hltz:(kk:Int)<(r.length:Int):=by omega
   have h4z:(kk:Int)<41:=by omega
   have c0:wr.cell? ⟨b,off+kk*1,none⟩=some (.slice y.A y.l.length y.c):=by have:=R.sl.at_ hy (i:=0) rfl;simpa using this
   rw[Nat.mul_one]at c0;clear hy;obtain⟨yA,yl,yc⟩:=y
   simp only at c0
   go_wp2
   go_roundg (r.length+1-(kk+1))
   case measure=>omega
   case rel=>exact⟨kk+1,_,by omega,by omega,by omega,rfl,by go_num,rfl⟩
  ·have D:(¬ (kk:Int)<(r.length:Int))∨((kk:Int)<(r.length:Int)∧¬ (kk:Int)<41):=by omega
   rcases D with D|⟨D1,D2⟩
   all_goals
    go_wp2
    all_goals (go_ret;refine⟨⟨_,fun hb=>?_,rfl⟩,Ext.refl _⟩)
    all_goals first
     | (cases hb;done)
     | (simp only[decide_eq_true_eq]at *;omega)
     | omega
theorem fewLawR_10 (e:EnvT)(A:Option Addr)(c:Nat)(r:List PV)(w:World)(hL:Sl kbp 2 w e.chart.lA e.chart.lines)(R:Rg w A r) :
  Calls Tryz.prog 10 #[.agg e.vals.toArray,.slice A r.length c] w fun q w'=>koi (e.Few∧r.length≤8) q∧Ext w w':=by
 have K1:=Lib.hid (fun W (hx:Ext w W)=>few_35 e W (hL.ext hx))
 have K2:=Lib.hid (fun W (hx:Ext w W)=>few7R_36 A c r W (R.ext hx))
 have hsz:=e.size;generalize e.Few=P at K1 ⊢;generalize e.vals.toArray=ev at K1 hsz ⊢;clear hL;have KL:=Lib.hid (kle.trans (congrArg some hsz.symm));clear hsz;generalize r.length=n at K2 ⊢
 go_enter Tryz.func10,Tryz.ntmps10
 go_wp2_with (first
  | (refine wpList_load_row rfl 37 _ rfl _ rfl 37 ev _ _ (kbs w _) Tryz.underlying37 rfl KL.out ?_)
  | (go_at_call 35;refine(K1.out _ xt).mono ?_;rintro e w1 ⟨⟨b,hb,rfl⟩,hb1⟩;have HB:=Lib.hid hb;clear hb;cases b)
  | (go_at_call 36;refine(K2.out _ xt).mono ?_;rintro e w2 ⟨⟨b,hb,rfl⟩,hb2⟩;clear hb;cases b))
 all_goals (go_ret;refine⟨⟨_,fun hb=>?_,rfl⟩,xt⟩)
 all_goals first
  | (cases hb;done)
  | exact⟨HB.out (by first|rfl|trivial),by simp only[decide_eq_true_eq]at hb;omega⟩
  | (simp at hb;done)
theorem refSame_61 (A A':Option Addr)(c c':Nat)(l:List Pt)(w:World)(hl:l.length≤1000000)(hS:Sl encP 2 w A l)(hT:Sl encP 2 w A' l) :
  Calls Tryz.prog 61 #[.slice A l.length c,.slice A' l.length c'] w fun e w'=>e=.returned (.bool true)∧Ext w w':=by
 go_enter Tryz.func61,Tryz.ntmps61
 go_wp2
 go_loopg [5] l.length (fun gg s5 wr=>∃kk:Nat,kk≤l.length∧l.length-kk≤gg∧s5=.int .i64 kk∧Hid (Ext w wr))
 case atStart=>exact⟨0,Nat.zero_le _,by omega,rfl,Ext.refl _⟩
 case round=>
  obtain⟨kk,hkk,hg,rfl,hx⟩:=hrel
  by_cases hlt:kk<l.length
  rotate_left
  ·have hltz:¬ (kk:Int)<(l.length:Int):=by omega
   go_wp2
   go_ret
   exact⟨rfl,hx.out⟩
  obtain⟨b,off,rfl⟩:=hS.addr (by omega)
  obtain⟨b',off',rfl⟩:=hT.addr (by omega)
  obtain⟨⟨x1,x2⟩,hxx⟩:∃x,l[kk]?=some x:=⟨_,qgq hlt⟩
  have hltz:(kk:Int)<(l.length:Int):=by omega
  have hbw:b<wr.heap.size:=Nat.lt_of_lt_of_le (hS.blk (by omega)) hx.out.len
  have hbw':b'<wr.heap.size:=Nat.lt_of_lt_of_le (hT.blk (by omega)) hx.out.len
  have c0:wr.cell? ⟨b,off+kk*2,none⟩=some (.int .i64 x1):=by have:=(hS.ext hx.out).at_ hxx (i:=0) rfl;simpa using this
  have c1:wr.cell? ⟨b,off+kk*2+1,none⟩=some (.int .i64 x2):=by have:=(hS.ext hx.out).at_ hxx (i:=1) rfl;simpa using this
  have e0:wr.cell? ⟨b',off'+kk*2,none⟩=some (.int .i64 x1):=by have:=(hT.ext hx.out).at_ hxx (i:=0) rfl;simpa using this
  have e1:wr.cell? ⟨b',off'+kk*2+1,none⟩=some (.int .i64 x2):=by have:=(hT.ext hx.out).at_ hxx (i:=1) rfl;simpa using this
  clear hxx
  go_wp2_with fail
  (refine kad (by kernel_rfl) (by kernel_rfl) ?_;(repeat (first|go_big_quiet_step (fail)|quiet_step (fail)));refine wpQuiet_nil ?_;rintro _ ⟨xq,rfl⟩;have hx2:=xq.ext;generalize xq.world=w2 at hx2 ⊢)
  go_wp2_with fail
  go_roundg (l.length-(kk+1))
  case measure=>omega
  case rel=>exact⟨kk+1,by omega,by omega,by go_num,hx.out.trans hx2⟩
theorem same_20 (A A':Option Addr)(c c':Nat)(r r':List PV)(w:World)(hl:r.length≤1000000)(R:Rg w A r)(R':Rg w A' r')(he:r.map (·.l)=r'.map (·.l))(hp:∀v∈r,v.l.length≤1000000) :
  Calls Tryz.prog 20 #[.slice A r.length c,.slice A' r'.length c'] w fun e w'=>e=.returned (.bool true)∧Ext w w':=by
 have hn:r'.length=r.length:=by have:=congrArg List.length he;simpa using this.symm
 rw[hn]
 have HE:Hid (∀(k:Nat) v v',r[k]?=some v→r'[k]?=some v'→v'.l=v.l):=fun k v v' h h'=>by
  have:=congrArg (fun l:List (List Pt)=>l[k]?) he
  simp only[List.getElem?_map,h,h',Option.map_some,Option.some.injEq]at this
  exact this.symm
 clear he
 go_enter Tryz.func20,Tryz.ntmps20
 go_wp2
 go_loopg [5,6] r.length (fun gg s5 _ wr=>∃kk:Nat,kk≤r.length∧r.length-kk≤gg∧s5=.int .i64 kk∧Hid (Ext w wr))
 case atStart=>exact⟨0,Nat.zero_le _,by omega,rfl,Ext.refl _⟩
 case round=>
  obtain⟨kk,hkk,hg,rfl,hx⟩:=hrel
  by_cases hlt:kk<r.length
  rotate_left
  ·have hltz:¬ (kk:Int)<(r.length:Int):=by omega
   go_wp2
   go_ret
   exact⟨rfl,hx.out⟩
  obtain⟨b,off,rfl⟩:=R.sl.addr (by omega)
  obtain⟨b',off',rfl⟩:=R'.sl.addr (by omega)
  obtain⟨v,hv⟩:∃x,r[kk]?=some x:=⟨_,qgq hlt⟩
  obtain⟨v',hv'⟩:∃x,r'[kk]?=some x:=⟨_,qgq (by omega)⟩
  have hltz:(kk:Int)<(r.length:Int):=by omega
  have hbw:b<wr.heap.size:=Nat.lt_of_lt_of_le (R.sl.blk (by omega)) hx.out.len
  have hbw':b'<wr.heap.size:=Nat.lt_of_lt_of_le (R'.sl.blk (by omega)) hx.out.len
  have c0:wr.cell? ⟨b,off+kk,none⟩=some (.slice v.A v.l.length v.c):=by have:=(R.sl.ext hx.out).at_ hv (i:=0) rfl;simpa using this
  have e0:wr.cell? ⟨b',off'+kk,none⟩=some (.slice v'.A v'.l.length v'.c):=by have:=(R'.sl.ext hx.out).at_ hv' (i:=0) rfl;simpa using this
  have hve:=HE.out kk v v' hv hv'
  have K:=Lib.hid (fun W (h:Ext w W)=>refSame_61 v.A v'.A v.c v'.c v.l W (hp v (qmq hv)) ((R.each v (qmq hv)).ext h) (by have:=(R'.each v' (qmq hv')).ext h;rwa [hve]at this))
  rw[hve]at e0;clear hv hv' hve;obtain⟨vA,vc,vl⟩:=v;obtain⟨vA',vc',vl'⟩:=v'
  simp only at c0 e0 K
  generalize vl.length=n at *
  go_wp2_with fail
  (refine kad (by kernel_rfl) (by kernel_rfl) ?_;(repeat (first|go_big_quiet_step ((go_at_call 61;exact Xt.calls (K.out _ (hx.out.trans (Xt.ext _)))))|quiet_step ((go_at_call 61;exact Xt.calls (K.out _ (hx.out.trans (Xt.ext _)))))));refine wpQuiet_nil ?_;rintro _ ⟨xq,rfl⟩;have hx2:=xq.ext;generalize xq.world=w2 at hx2 ⊢)
  go_wp2_with fail
  go_roundg (r.length-(kk+1))
  case measure=>omega
  case rel=>exact⟨kk+1,by omega,by omega,by go_num,hx.out.trans hx2⟩
end Go.Proofs.YtcgghcicnanliaaGreatDoor
namespace Go.Proofs.YtcgghcicnanliaaGreatDoor
open Go.RowKit
set_option maxRecDepth 100000
set_option maxHeartbeats 4000000
theorem leaves_76:leaves Tryz.prog 5 76=some [76]:=by kernel_rfl
theorem cellsOf_76:Tryz.prog.cellsOf 76=1:=by kernel_rfl
theorem leaves_5:leaves Tryz.prog 5 5=some [5]:=by kernel_rfl
theorem cellsOf_5:Tryz.prog.cellsOf 5=1:=by kernel_rfl
theorem leaves_38:leaves Tryz.prog 5 38=some [38]:=by kernel_rfl
theorem leaves_65:leaves Tryz.prog 5 65=some [65]:=by kernel_rfl
def encU (x:Int):List Value:=[.int .u8 x]
section
variable {H:Type} {enc:TypeId × Value→H} {W:World} {base:Nat} {spare:Nat→Bool} {held:Bool}
theorem poly_of {es:List Value}(h:kcb enc Tryz.prog W base spare held [76] es):∃x:PV,Sl encP 2 W x.A x.l∧koy x=es:=by
 obtain⟨A,len,cap,h1,_,_,hA,hel⟩:=h.slice 0 Tryz.underlying76 leaves_43 cellsOf_43 rfl
 obtain⟨l,hl,hq,hS⟩:=Sl.of_cells (Q:=fun p:Pt=>True) (enc:=encP) (k:=2) (fun _=>rfl) (by omega) (fun e=>(hA e).1) (fun a ha j hj=>by
  obtain⟨es,h2,h3⟩:=hel a ha j hj;obtain⟨x,_,rfl⟩:=pt_of h2
  exact⟨x,trivial,h3⟩)
 refine⟨⟨A,cap,l⟩,hS,?_⟩
 refine List.ext_getElem? fun i=>?_
 rcases i with _|i
 ·rw[h1,←hl];rfl
 ·exact(List.getElem?_eq_none (by simp[koy])).trans (List.getElem?_eq_none (by rw[h.1];simp)).symm
theorem byte_of {es:List Value}(h:kcb enc Tryz.prog W base spare held [5] es):∃x:Int,(0≤x∧x≤255)∧encU x=es:=by
 obtain⟨a0,h0,w0⟩:=h.int 0 Tryz.underlying5 rfl
 refine⟨a0,by simpa[Lit.wf,IntKind.min,IntKind.max,IntKind.signed,IntKind.bits]using w0,?_⟩
 refine List.ext_getElem? fun i=>?_
 rcases i with _|i
 ·exact h0.symm
 ·exact(List.getElem?_eq_none (by simp[encU])).trans (List.getElem?_eq_none (by rw[h.1];simp)).symm
theorem region_of {v:Value}(h:kcb enc Tryz.prog W base spare held [38] [v]):∃A c r,Rg W A r∧v=.slice A r.length c:=by
 obtain⟨A,len,cap,h1,_,_,hA,hel⟩:=h.slice 0 Tryz.underlying38 leaves_76 cellsOf_76 rfl
 obtain⟨l,hl,hq,hS⟩:=Sl.of_cells (Q:=fun x:PV=>Sl encP 2 W x.A x.l) (enc:=koy) (k:=1) (fun _=>rfl) (by omega) (fun e=>(hA e).1) (fun a ha j hj=>by
  obtain⟨es,h2,h3⟩:=hel a ha j hj;obtain⟨x,hx,rfl⟩:=poly_of h2
  exact⟨x,hx,h3⟩)
 exact⟨A,cap,l,⟨hS,hq⟩,by rw[hl];simpa using h1⟩
theorem bytes_of {v:Value}(h:kcb enc Tryz.prog W base spare held [65] [v]):∃A c l,(Sl encU 1 W A l∧∀x∈l,0≤x∧x≤255)∧v=.slice A l.length c:=by
 obtain⟨A,len,cap,h1,_,_,hA,hel⟩:=h.slice 0 Tryz.underlying65 leaves_5 cellsOf_5 rfl
 obtain⟨l,hl,hq,hS⟩:=Sl.of_cells (Q:=fun x:Int=>0≤x∧x≤255) (enc:=encU) (k:=1) (fun _=>rfl) (by omega) (fun e=>(hA e).1) (fun a ha j hj=>by
  obtain⟨es,h2,h3⟩:=hel a ha j hj;obtain⟨x,hx,rfl⟩:=byte_of h2
  exact⟨x,hx,h3⟩)
 exact⟨A,cap,l,⟨hS,hq⟩,by rw[hl];simpa using h1⟩
theorem open_row {P:Program}{w:World}{b0:Nat}{t e:TypeId}{v:Value}{d:DataW H}{ps:List MemPlace}{m:Nat}(ht:P.underlying t=some (.slice e))(hL:leaves P m t=some [t])(hval:Value.okWide P w .any b0 t v)(h:DataW.Trod enc P w base spare held t v d ps):kcb enc P w base spare held [t] [v]:=by
 obtain⟨a,len,cap,rfl⟩:=Go.WideShapes.okWide_slice ht hval;obtain⟨fuel,hf⟩:=h
 exact kgc m fuel t [t] _ _ hL hf
end
end Go.Proofs.YtcgghcicnanliaaGreatDoor
