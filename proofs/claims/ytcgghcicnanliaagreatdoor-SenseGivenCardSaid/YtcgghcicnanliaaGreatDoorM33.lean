/- Walks: hull.Has, of any list of places. Conditions: places. -/
import Derived.Test.YtcgghcicnanliaaGreatDoorM31
set_option linter.unusedVariables false
set_option linter.unusedSimpArgs false
namespace Go.Proofs.YtcgghcicnanliaaGreatDoor
open Go.RowKit Go.Lib
set_option maxHeartbeats 4000000
set_option maxRecDepth 100000
def hasSm (p q lo hi x:Pt):Bool:=decide (kfy p q x=0)&&decide (lo.1≤x.1)&&decide (x.1≤hi.1)&&decide (lo.2≤x.2)&&decide (x.2≤hi.2)
def hasL (l:List Pt)(x:Pt):Bool:=kas l&&if l.length<3 then hasSm (ptAt l 0) (ptAt l (l.length-1)) (kbb l) (kbc l) x else hasB l x
theorem hasSm_282 (b off c n:Nat)(p q lo hi x:Pt)(w:World)(hn:n=1∨n=2)(hb:b<w.heap.size)(a0:w.cell? ⟨b,off,none⟩=some (.int .i64 p.1))(a1:w.cell? ⟨b,off+1,none⟩=some (.int .i64 p.2))
  (b0:w.cell? ⟨b,off+(n-1)*2,none⟩=some (.int .i64 q.1)) (b1:w.cell? ⟨b,off+(n-1)*2+1,none⟩=some (.int .i64 q.2)) (hx:plB x=true)
  (KV:∀W,Ext w W→Calls Tryz.prog 146 #[.slice (some ⟨b,off,none⟩) n c] W fun e w'=>e=.returned (.bool true)∧Ext W w')
  (KB:∀W,Ext w W→Calls Tryz.prog 73 #[.slice (some ⟨b,off,none⟩) n c] W fun e w'=>e=.returned (.tuple #[.agg #[.int .i64 lo.1,.int .i64 lo.2],.agg #[.int .i64 hi.1,.int .i64 hi.2],.int .i64 0])∧Ext W w') :
  Calls Tryz.prog 282 #[.slice (some ⟨b,off,none⟩) n c,.agg #[.int .i64 x.1,.int .i64 x.2]] w fun e w'=>e=.returned (.tuple #[.bool (hasSm p q lo hi x),.int .i64 0])∧Ext w w':=by
 have K1:=Lib.hid KV;have K2:=Lib.hid KB;have hI:=kbn hx
 have K3:Hid (∀W,Calls Tryz.prog 247 #[.agg #[.int .i64 x.1,.int .i64 x.2]] W fun e w'=>e=.returned (.bool true)∧Ext W w'):=fun W=>by
  have:=ker x (by simp only[Mid,I64]at *;omega) (by simp only[Mid,I64]at *;omega) W
  rw[hx]at this
  exact this.mono fun _ _ h=>⟨h.1,h.2.1⟩
 have K4:Hid (∀W,Calls Tryz.prog 250 #[.agg #[.int .i64 p.1,.int .i64 p.2],.agg #[.int .i64 q.1,.int .i64 q.2],.agg #[.int .i64 x.1,.int .i64 x.2]] W fun e w'=>e=.returned (.int .i64 (kfy p q x))∧Ext W w'):=fun W=>kmj p q x W
 unfold hasSm;generalize kfy p q x=t at K4 ⊢;obtain⟨p1,p2⟩:=p;obtain⟨q1,q2⟩:=q;obtain⟨x1,x2⟩:=x;obtain⟨l1,l2⟩:=lo;obtain⟨h1,h2⟩:=hi
 simp only at *
 clear KV KB hx hI
 have KX:=Lib.hid (fun W (hx:Ext (((w.alloc (.cells #[.int .i64 x1,.int .i64 x2] 43)).alloc (.cells #[.bool false] 4)).alloc (.cells #[.int .i64 0] 47)) W)=>
  (⟨(hx.block _ (by simp only[qsa];omega)).trans (by rw[Below.heap_alloc _ _ _ (by simp only[qsa];omega),Below.heap_alloc _ _ _ (by simp only[qsa];omega)];exact qan w _),
    (hx.block _ (by simp only[qsa];omega)).trans (by rw[Below.heap_alloc _ _ _ (by simp only[qsa];omega)];have:=qan (w.alloc (.cells #[.int .i64 x1,.int .i64 x2] 43)) (.cells #[.bool false] 4);simpa only[qsa]using this),
    (hx.block _ (by simp only[qsa];omega)).trans (by have:=qan ((w.alloc (.cells #[.int .i64 x1,.int .i64 x2] 43)).alloc (.cells #[.bool false] 4)) (.cells #[.int .i64 0] 47);simpa only[qsa]using this),hx.len⟩ :
    W.heap[w.heap.size]?=some (.cells #[.int .i64 x1,.int .i64 x2] 43)∧W.heap[w.heap.size+1]?=some (.cells #[.bool false] 4)∧W.heap[w.heap.size+1+1]?=some (.cells #[.int .i64 0] 47)∧_))
 have D:t≠0∨(t=0∧x1<l1)∨(t=0∧l1≤x1∧h1<x1)∨(t=0∧l1≤x1∧x1≤h1∧x2<l2)∨(t=0∧l1≤x1∧x1≤h1∧l2≤x2∧h2<x2)∨(t=0∧l1≤x1∧x1≤h1∧l2≤x2∧x2≤h2):=by omega
 rcases hn with rfl|rfl
 rotate_left
 ·simp only[Nat.reduceSub,Nat.reduceMul]at b0 b1
  go_enter Tryz.func282,Tryz.ntmps282
  go_wp2_with (first
   | (go_at_call 146;refine(K1.out _ xt).mono ?_;rintro e w1 ⟨rfl,hx1⟩;obtain⟨g1,g2,g3,g4⟩:=KX.out _ hx1;obtain⟨c10,c11,_,_⟩:=kae g1)
   | (go_at_call 247;refine(K3.out _).mono ?_;rintro e w2 ⟨rfl,hx2⟩)
   | (go_at_call 73;refine(K2.out _ xt).mono ?_;rintro e w3 ⟨rfl,hx3⟩))
  refine kbd (G:=fun W=>Code.wp _ _ _ _ W) (fun V=>(Ext w V∧w3.heap.size+2≤V.heap.size∧w.heap.size+3≤w3.heap.size)∧V.heap[w.heap.size]?=some (.cells #[.int .i64 x1,.int .i64 x2] 43)∧V.heap[w.heap.size+1]?=some (.cells #[.bool false] 4)∧V.heap[w.heap.size+1+1]?=some (.cells #[.int .i64 0] 47) ∧
   V.heap[w3.heap.size]?=some (.cells #[.int .i64 l1,.int .i64 l2] 43)∧V.heap[w3.heap.size+1]?=some (.cells #[.int .i64 h1,.int .i64 h2] 43)) ?_ ?_
  rotate_left
  ·have E23:=hx2.trans hx3
   have z1:=hx1.len;have z3:=E23.len;simp only[qsa]at z1
   have X:Ext w1 ((w3.alloc (.cells #[.int .i64 l1,.int .i64 l2] 43)).alloc (.cells #[.int .i64 h1,.int .i64 h2] 43)):=(E23.alloc _).alloc _
   refine⟨⟨Ext.trans xt (hx1.trans X),by simp only[qsa];omega,by omega⟩,(X.block _ (by omega)).trans g1,(X.block _ (by omega)).trans g2,(X.block _ (by omega)).trans g3,?_,?_⟩
   ·rw[Below.heap_alloc _ _ _ (by simp only[qsa];omega)];exact qan w3 _
   ·have:=qan (w3.alloc (.cells #[.int .i64 l1,.int .i64 l2] 43)) (.cells #[.int .i64 h1,.int .i64 h2] 43);simpa only[qsa]using this
  rintro V ⟨⟨hV,zV,zW⟩,v1,v2,v3,v4,v5⟩;have HV:=Lib.hid hV;obtain⟨hcV,_,_⟩:=hV.rules;have n0:=(hcV b off hb).trans a0;have n1:=(hcV b (off+1) hb).trans a1;have m0:=(hcV b _ hb).trans b0;have m1:=(hcV b _ hb).trans b1;obtain⟨x10,x11,_,_⟩:=kae v1;obtain⟨l10,l11,_,_⟩:=kae v4;obtain⟨h10,h11,_,_⟩:=kae v5
  have r0:Boxed V (w.heap.size+1) 4 (.bool false):=v2
  have r1:Boxed V (w.heap.size+1+1) 47 (.int .i64 0):=v3
  have rc0:=r0.cell;have rf0:=r0.frozen;have rc1:=r1.cell;have rf1:=r1.frozen
  have zb:b<V.heap.size:=by omega
  have zl:w3.heap.size<V.heap.size:=by omega
  have zh:w3.heap.size+1<V.heap.size:=by omega
  have z0:w.heap.size<V.heap.size:=by omega
  have z1:w.heap.size+1<V.heap.size:=by omega
  have z2:w.heap.size+1+1<V.heap.size:=by omega
  clear hcV hV hx1 hx2 hx3 g1 g2 g3 g4 c10 c11 v1 v2 v3 v4 v5 r0 r1 K1 K2 K3 KX a0 a1 b0 b1;generalize w3.heap.size=B6 at *
  have FIN:Hid (∀W2:World,Ext V W2→∀u v:Value,Ext w ((W2.setCell ⟨w.heap.size+1,0,none⟩ u).setCell ⟨w.heap.size+1+1,0,none⟩ v)):=fun W2 h u v=>((HV.out.trans h).setCell (p:=⟨w.heap.size+1,0,none⟩) (by simp only;omega) _).setCell (p:=⟨w.heap.size+1+1,0,none⟩) (by simp only;omega) _
  rcases D with d1|⟨d1,d2⟩|⟨d1,d2,d3⟩|⟨d1,d2,d3,d4⟩|⟨d1,d2,d3,d4,d5⟩|⟨d1,d2,d3,d4,d5⟩
  ·have e1:decide (t=0)=false:=decide_eq_false d1
   have e2:(t == 0)=false:=by simpa using d1
   (refine kav 40 (by kernel_rfl) (by kernel_rfl) ?_;simp only[List.take_succ_cons,List.take_zero,List.drop_succ_cons,List.drop_zero];(repeat (first|go_big_quiet_step ((go_at_call 250;with_reducible exact Xt.calls (K4.out _)))|quiet_step ((go_at_call 250;with_reducible exact Xt.calls (K4.out _)))));refine wpQuiet_nil ?_;rintro _ ⟨xq,rfl⟩;have hx2:=xq.ext;generalize xq.world=w2 at hx2 ⊢;obtain⟨hc9,hf9,hz9⟩:=hx2.rules;(try simp only[qsa]at hz9);(try have hz9a:w.heap.size<w2.heap.size:=by omega);(try have hz9b:w.heap.size+1<w2.heap.size:=by omega);(try have hz9c:w.heap.size+1+1<w2.heap.size:=by omega);(try have hz9d:w.heap.size+1+1+1<w2.heap.size:=by omega))
   go_wp2_with fail
   ((try simp only[Exit.inBlock,Exit.then]);refine bodyPost_ret (by first|(simp[results,Tryz.f282,go_sem];rfl)|(simp[results,Tryz.f282,go_sem];done)|(simp[results,Tryz.f282,go_sem, *];rfl)|(simp[results,Tryz.f282,go_sem, *];done)) rfl ?_)
   exact⟨by simp[e1],FIN.out _ hx2 _ _⟩
  all_goals
   subst d1
   first|(have e0:decide (l1≤x1)=true:=decide_eq_true (by omega))|(have e0:decide (l1≤x1)=false:=decide_eq_false (by omega))|skip
   first|(have e1:decide (x1≤h1)=true:=decide_eq_true (by omega))|(have e1:decide (x1≤h1)=false:=decide_eq_false (by omega))|skip
   first|(have e2:decide (l2≤x2)=true:=decide_eq_true (by omega))|(have e2:decide (l2≤x2)=false:=decide_eq_false (by omega))|skip
   first|(have e3:decide (x2≤h2)=true:=decide_eq_true (by omega))|(have e3:decide (x2≤h2)=false:=decide_eq_false (by omega))|skip
   (refine kav 40 (by kernel_rfl) (by kernel_rfl) ?_;simp only[List.take_succ_cons,List.take_zero,List.drop_succ_cons,List.drop_zero];(repeat (first|go_big_quiet_step ((go_at_call 250;with_reducible exact Xt.calls (K4.out _)))|quiet_step ((go_at_call 250;with_reducible exact Xt.calls (K4.out _)))));refine wpQuiet_nil ?_;rintro _ ⟨xq,rfl⟩;have hx2:=xq.ext;generalize xq.world=w2 at hx2 ⊢;obtain⟨hc9,hf9,hz9⟩:=hx2.rules;(try simp only[qsa]at hz9);(try have hz9a:w.heap.size<w2.heap.size:=by omega);(try have hz9b:w.heap.size+1<w2.heap.size:=by omega);(try have hz9c:w.heap.size+1+1<w2.heap.size:=by omega);(try have hz9d:w.heap.size+1+1+1<w2.heap.size:=by omega))
   go_wp2_with fail
   ((try simp only[Exit.inBlock,Exit.then]);refine bodyPost_ret (by first|(simp[results,Tryz.f282,go_sem];rfl)|(simp[results,Tryz.f282,go_sem];done)|(simp[results,Tryz.f282,go_sem, *];rfl)|(simp[results,Tryz.f282,go_sem, *];done)) rfl ?_)
   exact⟨by simp[*],FIN.out _ hx2 _ _⟩
 ·simp only[Nat.sub_self,Nat.zero_mul,Nat.add_zero]at b0 b1
  obtain rfl:p1=q1:=by rw[a0]at b0;cases b0;rfl
  obtain rfl:p2=q2:=by rw[a1]at b1;cases b1;rfl
  go_enter Tryz.func282,Tryz.ntmps282
  go_wp2_with (first
   | (go_at_call 146;refine(K1.out _ xt).mono ?_;rintro e w1 ⟨rfl,hx1⟩;obtain⟨g1,g2,g3,g4⟩:=KX.out _ hx1;obtain⟨c10,c11,_,_⟩:=kae g1)
   | (go_at_call 247;refine(K3.out _).mono ?_;rintro e w2 ⟨rfl,hx2⟩)
   | (go_at_call 73;refine(K2.out _ xt).mono ?_;rintro e w3 ⟨rfl,hx3⟩))
  refine kbd (G:=fun W=>Code.wp _ _ _ _ W) (fun V=>(Ext w V∧w3.heap.size+2≤V.heap.size∧w.heap.size+3≤w3.heap.size)∧V.heap[w.heap.size]?=some (.cells #[.int .i64 x1,.int .i64 x2] 43)∧V.heap[w.heap.size+1]?=some (.cells #[.bool false] 4)∧V.heap[w.heap.size+1+1]?=some (.cells #[.int .i64 0] 47) ∧
   V.heap[w3.heap.size]?=some (.cells #[.int .i64 l1,.int .i64 l2] 43)∧V.heap[w3.heap.size+1]?=some (.cells #[.int .i64 h1,.int .i64 h2] 43)) ?_ ?_
  rotate_left
  ·have E23:=hx2.trans hx3
   have z1:=hx1.len;have z3:=E23.len;simp only[qsa]at z1
   have X:Ext w1 ((w3.alloc (.cells #[.int .i64 l1,.int .i64 l2] 43)).alloc (.cells #[.int .i64 h1,.int .i64 h2] 43)):=(E23.alloc _).alloc _
   refine⟨⟨Ext.trans xt (hx1.trans X),by simp only[qsa];omega,by omega⟩,(X.block _ (by omega)).trans g1,(X.block _ (by omega)).trans g2,(X.block _ (by omega)).trans g3,?_,?_⟩
   ·rw[Below.heap_alloc _ _ _ (by simp only[qsa];omega)];exact qan w3 _
   ·have:=qan (w3.alloc (.cells #[.int .i64 l1,.int .i64 l2] 43)) (.cells #[.int .i64 h1,.int .i64 h2] 43);simpa only[qsa]using this
  rintro V ⟨⟨hV,zV,zW⟩,v1,v2,v3,v4,v5⟩;have HV:=Lib.hid hV;obtain⟨hcV,_,_⟩:=hV.rules;have n0:=(hcV b off hb).trans a0;have n1:=(hcV b (off+1) hb).trans a1;have m0:=(hcV b _ hb).trans b0;have m1:=(hcV b _ hb).trans b1;obtain⟨x10,x11,_,_⟩:=kae v1;obtain⟨l10,l11,_,_⟩:=kae v4;obtain⟨h10,h11,_,_⟩:=kae v5
  have r0:Boxed V (w.heap.size+1) 4 (.bool false):=v2
  have r1:Boxed V (w.heap.size+1+1) 47 (.int .i64 0):=v3
  have rc0:=r0.cell;have rf0:=r0.frozen;have rc1:=r1.cell;have rf1:=r1.frozen
  have zb:b<V.heap.size:=by omega
  have zl:w3.heap.size<V.heap.size:=by omega
  have zh:w3.heap.size+1<V.heap.size:=by omega
  have z0:w.heap.size<V.heap.size:=by omega
  have z1:w.heap.size+1<V.heap.size:=by omega
  have z2:w.heap.size+1+1<V.heap.size:=by omega
  clear hcV hV hx1 hx2 hx3 g1 g2 g3 g4 c10 c11 v1 v2 v3 v4 v5 r0 r1 K1 K2 K3 KX a0 a1 b0 b1;generalize w3.heap.size=B6 at *
  have FIN:Hid (∀W2:World,Ext V W2→∀u v:Value,Ext w ((W2.setCell ⟨w.heap.size+1,0,none⟩ u).setCell ⟨w.heap.size+1+1,0,none⟩ v)):=fun W2 h u v=>((HV.out.trans h).setCell (p:=⟨w.heap.size+1,0,none⟩) (by simp only;omega) _).setCell (p:=⟨w.heap.size+1+1,0,none⟩) (by simp only;omega) _
  rcases D with d1|⟨d1,d2⟩|⟨d1,d2,d3⟩|⟨d1,d2,d3,d4⟩|⟨d1,d2,d3,d4,d5⟩|⟨d1,d2,d3,d4,d5⟩
  ·have e1:decide (t=0)=false:=decide_eq_false d1
   have e2:(t == 0)=false:=by simpa using d1
   (refine kav 40 (by kernel_rfl) (by kernel_rfl) ?_;simp only[List.take_succ_cons,List.take_zero,List.drop_succ_cons,List.drop_zero];(repeat (first|go_big_quiet_step ((go_at_call 250;with_reducible exact Xt.calls (K4.out _)))|quiet_step ((go_at_call 250;with_reducible exact Xt.calls (K4.out _)))));refine wpQuiet_nil ?_;rintro _ ⟨xq,rfl⟩;have hx2:=xq.ext;generalize xq.world=w2 at hx2 ⊢;obtain⟨hc9,hf9,hz9⟩:=hx2.rules;(try simp only[qsa]at hz9);(try have hz9a:w.heap.size<w2.heap.size:=by omega);(try have hz9b:w.heap.size+1<w2.heap.size:=by omega);(try have hz9c:w.heap.size+1+1<w2.heap.size:=by omega);(try have hz9d:w.heap.size+1+1+1<w2.heap.size:=by omega))
   go_wp2_with fail
   ((try simp only[Exit.inBlock,Exit.then]);refine bodyPost_ret (by first|(simp[results,Tryz.f282,go_sem];rfl)|(simp[results,Tryz.f282,go_sem];done)|(simp[results,Tryz.f282,go_sem, *];rfl)|(simp[results,Tryz.f282,go_sem, *];done)) rfl ?_)
   exact⟨by simp[e1],FIN.out _ hx2 _ _⟩
  all_goals
   subst d1
   first|(have e0:decide (l1≤x1)=true:=decide_eq_true (by omega))|(have e0:decide (l1≤x1)=false:=decide_eq_false (by omega))|skip
   first|(have e1:decide (x1≤h1)=true:=decide_eq_true (by omega))|(have e1:decide (x1≤h1)=false:=decide_eq_false (by omega))|skip
   first|(have e2:decide (l2≤x2)=true:=decide_eq_true (by omega))|(have e2:decide (l2≤x2)=false:=decide_eq_false (by omega))|skip
   first|(have e3:decide (x2≤h2)=true:=decide_eq_true (by omega))|(have e3:decide (x2≤h2)=false:=decide_eq_false (by omega))|skip
   (refine kav 40 (by kernel_rfl) (by kernel_rfl) ?_;simp only[List.take_succ_cons,List.take_zero,List.drop_succ_cons,List.drop_zero];(repeat (first|go_big_quiet_step ((go_at_call 250;with_reducible exact Xt.calls (K4.out _)))|quiet_step ((go_at_call 250;with_reducible exact Xt.calls (K4.out _)))));refine wpQuiet_nil ?_;rintro _ ⟨xq,rfl⟩;have hx2:=xq.ext;generalize xq.world=w2 at hx2 ⊢;obtain⟨hc9,hf9,hz9⟩:=hx2.rules;(try simp only[qsa]at hz9);(try have hz9a:w.heap.size<w2.heap.size:=by omega);(try have hz9b:w.heap.size+1<w2.heap.size:=by omega);(try have hz9c:w.heap.size+1+1<w2.heap.size:=by omega);(try have hz9d:w.heap.size+1+1+1<w2.heap.size:=by omega))
   go_wp2_with fail
   ((try simp only[Exit.inBlock,Exit.then]);refine bodyPost_ret (by first|(simp[results,Tryz.f282,go_sem];rfl)|(simp[results,Tryz.f282,go_sem];done)|(simp[results,Tryz.f282,go_sem, *];rfl)|(simp[results,Tryz.f282,go_sem, *];done)) rfl ?_)
   exact⟨by simp[*],FIN.out _ hx2 _ _⟩
theorem hullHasL_282 (A:Option Addr)(c:Nat)(l:List Pt)(x:Pt)(w:World)(hS:Sl encP 2 w A l)(hp:∀y∈l,plB y=true)(hx:plB x=true) :
  Calls Tryz.prog 282 #[.slice A l.length c,.agg #[.int .i64 x.1,.int .i64 x.2]] w fun e w'=>e=.returned (.tuple #[.bool (hasL l x),.int .i64 (if kas l then 0 else 1)])∧Ext w w':=by
 have K1:=Lib.hid (fun W (hx:Ext w W)=>kba A c l W (hS.ext hx) hp)
 cases hv:kas l with
 | false=>
  rw[hv]at K1
  have hL:hasL l x=false:=by unfold hasL;rw[hv];rfl
  rw[hL];simp only[Bool.false_eq_true,if_false];obtain⟨x1,x2⟩:=x;clear hS hp hx hL hv
  have KX:=Lib.hid (fun W (hx:Ext (((w.alloc (.cells #[.int .i64 x1,.int .i64 x2] 43)).alloc (.cells #[.bool false] 4)).alloc (.cells #[.int .i64 0] 47)) W)=>
   (⟨(hx.block _ (by simp only[qsa];omega)).trans (by rw[Below.heap_alloc _ _ _ (by simp only[qsa];omega)];have:=qan (w.alloc (.cells #[.int .i64 x1,.int .i64 x2] 43)) (.cells #[.bool false] 4);simpa only[qsa]using this),
     (hx.block _ (by simp only[qsa];omega)).trans (by have:=qan ((w.alloc (.cells #[.int .i64 x1,.int .i64 x2] 43)).alloc (.cells #[.bool false] 4)) (.cells #[.int .i64 0] 47);simpa only[qsa]using this),hx.len⟩ :
     Boxed W (w.heap.size+1) 4 (.bool false)∧Boxed W (w.heap.size+1+1) 47 (.int .i64 0)∧_))
  go_enter Tryz.func282,Tryz.ntmps282
  go_wp2_with (go_at_call 146;refine(K1.out _ xt).mono ?_;rintro e w1 ⟨rfl,hx1⟩;obtain⟨g2,g3,g4⟩:=KX.out _ hx1;have c2:=g2.cell;have f2:=g2.frozen;have c3:=g3.cell;have f3:=g3.frozen)
  ((try simp only[Exit.inBlock,Exit.then]);refine bodyPost_ret (by first|(simp[results,Tryz.f282,go_sem];rfl)|(simp[results,Tryz.f282,go_sem];done)|(simp[results,Tryz.f282,go_sem, *];rfl)|(simp[results,Tryz.f282,go_sem, *];done)) rfl ?_)
  exact⟨rfl,((Ext.trans xt hx1).setCell (p:=⟨w.heap.size+1,0,none⟩) (by simp only;omega) _).setCell (p:=⟨w.heap.size+1+1,0,none⟩) (by simp only;omega) _⟩
 | true=>
  have hv2:0<l.length:=by have:=hv;simp only[kas,qba,decide_eq_true_eq]at this;omega
  have KV:∀W,Ext w W→Calls Tryz.prog 146 #[.slice A l.length c] W fun e w'=>e=.returned (.bool true)∧Ext W w':=fun W h=>by have:=K1.out W h;rwa [hv]at this
  by_cases h3:l.length<3
  ·have hL:hasL l x=hasSm (ptAt l 0) (ptAt l (l.length-1)) (kbb l) (kbc l) x:=by unfold hasL;rw[hv,if_pos h3];rfl
   rw[hL];simp only[if_true];obtain⟨b,off,rfl⟩:=hS.addr hv2
   have hc:∀i,i<l.length→w.cell? ⟨b,off+i*2,none⟩=some (.int .i64 (ptAt l i).1)∧w.cell? ⟨b,off+i*2+1,none⟩=some (.int .i64 (ptAt l i).2):=fun i hi=>
    ⟨by have:=hS.at_ (qgq hi) (i:=0) rfl;rw[kbm (qgq hi)];simpa using this,by have:=hS.at_ (qgq hi) (i:=1) rfl;rw[kbm (qgq hi)];simpa using this⟩
   obtain⟨c0,c1⟩:=hc 0 hv2;simp only[Nat.zero_mul,Nat.add_zero]at c0 c1
   exact hasSm_282 b off c l.length _ _ _ _ x w (by omega) (hS.blk hv2) c0 c1 (hc _ (by omega)).1 (hc _ (by omega)).2 hx KV (fun W h=>by
    have:=khm (some ⟨b,off,none⟩) c l W (hS.ext h) hp
    rw[boxV,hv,if_pos rfl]at this
    exact this)
  ·have hL:hasL l x=hasB l x:=by unfold hasL;rw[hv,if_neg h3];rfl
   rw[hL];simp only[if_true];have hI:=kbn hx
   exact knq A c l x w hS (by omega) (by simp only[kas,qba,decide_eq_true_eq]at hv;omega) (by simp only[Mid,I64]at *;omega) (by simp only[Mid,I64]at *;omega) hx KV
end Go.Proofs.YtcgghcicnanliaaGreatDoor
