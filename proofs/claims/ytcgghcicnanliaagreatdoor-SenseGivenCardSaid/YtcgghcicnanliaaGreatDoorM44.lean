/- Walks: echo.sounder.take; Walks: echo.Cut where all conflicts are given; Walks. Conditions: as each statement says. -/
import Derived.Test.YtcgghcicnanliaaGreatDoorM42
set_option linter.unusedVariables false
set_option linter.unusedSimpArgs false
namespace Go
section
variable {P:Program} {ops:Array Oper}
theorem yOp_callM {k:Nat}{o:Oper}{f:FuncId}{x:Operand}{fs lb:Array Value}{xs:Array Operand}{ts:Array TypeId}{K:Act→World→Prop}{a:Act}{w:World}(hi:ops[k]?=some o)(hg:o.guard=none)
  (ho:o.op=.call { callee:=.value x,args:=xs,argTypes:=ts }) (hx:a.eval x=.func (.func f) fs lb) (eg:∀args w,(callFunc f args).run P w=.ok (.enter f args) w)
  (h:Calls P f (fs++xs.map a.eval++lb) w fun e w''=>∃v,e=.returned v∧K (a.put o.dst v) w''):yOp P ops k K a w:=by
 have hw:Region.wanted o (yielded ops a.tmps)=true:=by simp[Region.wanted,hg]
 unfold yOp;simp only[hi,hw,if_true]
 have:(execOp a.eval o).run P w=.ok (.enter f (fs++xs.map a.eval++lb)) w:=by
  simp[execOp,ho,resolve,invoke,hx,Deferred.ofValue,Result.andThen,eg]
 rw[this]
 exact h
end
end Go
namespace Go.Proofs.YtcgghcicnanliaaGreatDoor
open Go.RowKit Go.Lib
set_option maxHeartbeats 8000000
set_option maxRecDepth 100000
attribute [local go_sem] Oper.semAt_some
structure Xc (p:Nat)(v:Value) where
 world:World
 box:world.heap[p]?=some (.cells #[v] 301)
@[go_sem] theorem Xc.cell {p:Nat}{v:Value}(x:Xc p v):x.world.cell? ⟨p,0,none⟩=some v:=by simp[World.cell?,x.box]
instance (p:Nat) (v:Value):Inhabited (Xc p v):=⟨⟨{ (default:World) with heap:=Array.replicate (p+1) (.cells #[v] 301) },by simp⟩⟩
theorem snoc_inj {pl:List Value}{u v:Value}{W:World}{B:Nat}(h:W.heap[B]?=some (.cells (pl++[u]).toArray 183))(h':W.heap[B]?=some (.cells (pl++[v]).toArray 183)):u=v:=by
 rw[h]at h'
 simpa using h'
theorem kja {pl:List Value}{u:Value}{W:World}{B:Nat}(hpl:pl.length=10)(h:W.heap[B]?=some (.cells (pl++[u]).toArray 183))(v:Value):(W.setCell ⟨B,10,none⟩ v).heap[B]?=some (.cells (pl++[v]).toArray 183):=by
 obtain⟨hlt,hk⟩:=qaz h
 show (W.heap.modify B _)[B]?=_
 rw[Array.getElem?_eq_getElem (by rw[Array.size_modify];exact hlt),Array.getElem_modify_self,hk]
 show some (Obj.cells ((pl++[u]).toArray.setIfInBounds 10 v) 183)=_
 rw[List.setIfInBounds_toArray,←hpl,List.set_append_right _ _ (Nat.le_refl _),Nat.sub_self]
 rfl
def fzT (L:koj)(b B:Nat)(pl:List Value):Fz where
 own W k:=∃u,W.heap[B]?=some (.cells (pl++[u]).toArray 183)∧(k=B∨u.ownBlock=some k)
 p W:=Fix L W∧∃(u:Value) (l:List PV),W.heap[B]?=some (.cells (pl++[u]).toArray 183)∧LR b W u l
 s X Y row h hg hr:=by
  obtain⟨h1,u,l,h2,h3⟩:=h
  have hBo:Y.heap[B]?=some (.cells (pl++[u]).toArray 183):=(hg.block B (qaz h2).1 (fun e=>by obtain⟨o,ho,hc⟩:=hr B e.symm;rw[h2]at ho;cases ho;cases hc)).trans h2
  refine⟨⟨h1.kept hg hr,u,l,hBo,h3.kept hg hr⟩,fun k ⟨u',h4,h5⟩=>?_⟩
  obtain rfl:=snoc_inj hBo h4
  exact⟨u,h2,h5⟩
 lt X k h ho:=by
  obtain⟨h1,u,l,h2,h3⟩:=h;obtain⟨u',h4,h5⟩:=ho;obtain rfl:=snoc_inj h2 h4
  rcases h5 with rfl|h5
  ·exact(qaz h2).1
  ·exact(h3.own k h5).2
def Pcs (L:koj)(b B:Nat)(pl:List Value)(r:List PV)(u:Value)(W3:World)(n:Nat)(X:World):Prop:=
 Fix L X∧∃(v:Value) (junk:List PV),X.heap[B]?=some (.cells (pl++[v]).toArray 183)∧LR b X v (r++junk)∧junk.length≤n∧W3.heap.size≤X.heap.size∧(∀j,v.ownBlock=some j→u.ownBlock=some j∨W3.heap.size≤j) ∧
  ∀(k:Nat) (o:Obj),W3.heap[k]?=some o→o.isCells=true→k≠B→u.ownBlock≠some k→X.heap[k]?=some o
section
variable {L:koj} {b B n n₀:Nat} {pl:List Value} {r:List PV} {u:Value} {W3 X Y:World}
theorem Pcs.kept {row:Option Nat}(h:Pcs L b B pl r u W3 n X)(hg:X.grownBy Y row)(hr:∀k,row=some k→∃o:Obj,X.heap[k]?=some o∧o.isCells=false):Pcs L b B pl r u W3 n Y:=by
 obtain⟨h1,v,junk,h2,h3,h4,hz,h5,h6⟩:=h
 have hk:∀(k:Nat) (o:Obj),X.heap[k]?=some o→o.isCells=true→Y.heap[k]?=some o:=fun k o h1 h2=>(hg.block k (qaz h1).1 (fun e=>by obtain⟨o',ho,hc⟩:=hr k e.symm;rw[h1]at ho;cases ho;rw[h2]at hc;cases hc)).trans h1
 exact⟨h1.kept hg hr,v,junk,hk _ _ h2 rfl,h3.kept hg hr,h4,Nat.le_trans hz hg.size,h5,fun k o a1 a2 a3 a4=>hk k o (h6 k o a1 a2 a3 a4) a2⟩
theorem Pcs.ext (h:Pcs L b B pl r u W3 n X)(hx:Ext X Y):Pcs L b B pl r u W3 n Y:=h.kept (Ext.gb hx) (fun k e=>by cases e)
theorem Pcs.ownF {β : Type}:OwnFrom n₀ (fun (pre:List β) X=>Pcs L b B pl r u W3 pre.length X):=fun _ _ _ _ h hg hr=>Pcs.kept h hg (fun k e=>(hr k e).2)
theorem put_pcs (h:Pcs L b B pl r u W3 n X)(hpl:pl.length=10)(hb:b≤X.heap.size)(hn:n≤4000)(hr:r.length≤1000)(hnb:n₀≤b)(hnB:n₀≤B)(hL1:∀x∈L,x.1<W3.heap.size∧u.ownBlock≠some x.1)(hL2:∀x∈L,x.1≠B)(sA:Option Addr)(sn sc:Nat) :
  Calls Tryz.prog 273 #[.pointer (some ⟨B,0,none⟩),.slice sA sn sc] X fun e w'=>(∃x,e=.returned x)∧Pcs L b B pl r u W3 (n+1) w'∧Kz n₀ (fzT L b B pl) X w'∧KeepsOthers X w'∧Below n₀ X w':=by
 obtain⟨hF,v,junk,gB,hv,hj,h3,hnw,hfr⟩:=h
 have K:=put_273 b B pl v (r++junk) ⟨sA,sc,List.replicate sn (0,0)⟩ X hpl gB hv hb (by rw[List.length_append];omega)
 simp only[List.length_replicate]at K
 refine K.mono ?_
 rintro e w' ⟨hz,u',W1,rfl,h1,h2,h4,h5⟩
 have hE:Ext X (X.alloc (.cells #[.slice sA sn sc] 76)):=(Ext.refl _).alloc _
 have hv1:=hv.ext hE
 have gB1:W1.heap[B]?=some (.cells (pl++[v]).toArray 183):=hv1.other h2 (kaf hE gB) (by decide)
 have hset:(W1.setCell ⟨B,10,none⟩ u').heap[B]?=some (.cells (pl++[u']).toArray 183):=kja hpl gB1 u'
 have hLR:LR b (W1.setCell ⟨B,10,none⟩ u') u' ((r++junk)++[⟨sA,sc,List.replicate sn (0,0)⟩]):=h1.setCell (fun j e hj=>by
  have q:=h1.apart gB1 (by decide)
  exact q (by rw[e];simp only at hj;rw[hj])) u'
 have hFx:Fix L (W1.setCell ⟨B,10,none⟩ u'):=Fix.set (fun x hm=>(h2.block x.1 (by have:=hF.lt hm;have:=hE.len;omega) (fun e=>by
  rcases hnw x.1 e.symm with h6|h6
  ·exact(hL1 x hm).2 h6
  ·have:=(hL1 x hm).1;omega)).trans (kaf hE (hF x hm))) hL2 _
 have hz1:X.heap.size≤W1.heap.size:=h4.size
 have hbl:Below n₀ X (W1.setCell ⟨B,10,none⟩ u'):=(h4.mono hnb).setCell (p:=⟨B,10,none⟩) hnB _
 have hkeep:∀(k:Nat) (o:Obj),X.heap[k]?=some o→k≠B→v.ownBlock≠some k→(W1.setCell ⟨B,10,none⟩ u').heap[k]?=some o:=fun k o a1 a2 a3=>
  (Below.heap_setCell _ _ _ _ a2).trans ((h2.block k (by have:=(qaz a1).1;have:=hE.len;omega) (fun e=>a3 e.symm)).trans ((hE.block k (qaz a1).1).trans a1))
 refine⟨hz,⟨hFx,u',junk++[⟨sA,sc,List.replicate sn (0,0)⟩],hset,by rw[←List.append_assoc];exact hLR,by rw[List.length_append];simp only[List.length_cons,List.length_nil];omega,by rw[World.size_setCell];omega,fun j e=>?_,fun k o a1 a2 a3 a4=>?_⟩,⟨hbl,fun f=>⟨⟨hFx,u',_,hset,hLR⟩,fun k o hk hc ho=>?_⟩⟩,?_,hbl⟩
 ·rcases h5 j e with h6|h6
  ·exact hnw j h6
  ·exact .inr (by omega)
 ·refine hkeep k o (hfr k o a1 a2 a3 a4) a3 (fun e=>?_)
  rcases hnw k e with h6|h6
  ·exact a4 h6
  ·have:=(qaz a1).1;omega
 ·have n1:k≠B:=fun e=>ho ⟨v,gB,.inl e⟩
  have n2:v.ownBlock≠some k:=fun e=>ho ⟨v,gB,.inr e⟩
  refine⟨hkeep k o hk n1 n2,fun ⟨u2,a1,a2⟩=>?_⟩
  obtain rfl:=snoc_inj hset a1
  rcases a2 with a2|a2
  ·exact n1 a2
  ·rcases h5 k a2 with h6|h6
   ·exact n2 h6
   ·have:=(qaz hk).1;omega
 ·exact hE.ko.trans ((hv1.ko h2).trans (KeepsOthers.setCell W1 ⟨B,10,none⟩ u'))
end
theorem eg_156:∀args w,(callFunc 156 args).run Tryz.prog w=.ok (.enter 156 args) w:=enters_of Tryz.func156 (by kernel_rfl) rfl
theorem eg_273:∀args w,(callFunc 273 args).run Tryz.prog w=.ok (.enter 273 args) w:=enters_of Tryz.func273 (by kernel_rfl) rfl
theorem take_197 (t:ChartT)(h v:Sp)(b B Bc:Nat)(x:PV)(A5:Option Addr)(c5:Nat)(cs:List Int)(r:List PV)(u:Value)(w W:World)(H:t.Lies w)(hok:kao t=true)(hh:kau h.1 h.2 (-2000) 2000=true)(hS:Sl encP 2 w x.A x.l)(hx:kas x.l=true)(hp:∀y∈x.l,plB y=true)
  (h5:Sl encI 1 w A5 cs) (hl5:cs.length≤1000000) (hE:Ext w W) (hwB:w.heap.size≤B) (hBb:B<b) (hb:b≤W.heap.size) (hcB:Bc+1+1<b)
  (gB:W.heap[B]?=some (.cells (t.vals++[kef Bc,u]).toArray 183)) (g0:W.heap[Bc]?=some (.cells t.vals.toArray 26)) (g1:W.heap[Bc+1]?=some (.cells #[.int .i64 h.1,.int .i64 h.2] 28)) (g2:W.heap[Bc+1+1]?=some (.cells #[.int .i64 v.1,.int .i64 v.2] 28))
  (hL:LR b W u r) (hr:r.length≤1000) (hcov:∀i∈badL t h v x.l,i∈cs) :
  Calls Tryz.prog 197 #[.pointer (some ⟨B,0,none⟩),.slice x.A x.l.length x.c,.slice A5 cs.length c5] W fun e w'=>(∃z,e=.returned z)∧∃A' c' u',LR b w' u' (r++[⟨A',c',x.l⟩])∧w'.heap[B]?=some (.cells (t.vals++[kef Bc,u']).toArray 183)∧LG encP 43 2 b w' (.slice A' x.l.length c') x.l ∧
   W.heap.size≤w'.heap.size∧Ext w w'∧∀(k:Nat) (o:Obj),W.heap[k]?=some o→o.isCells=true→k≠B→u.ownBlock≠some k→w'.heap[k]?=some o:=by
 have KF:=Lib.hid (fun i h0 hi W hx g0 g1 g2=>fits_226 (t:=t) (h:=h) (v:=v) hok hh w H Bc i h0 hi W hx g0 g1 g2)
 have RB:Hid (∀i,i∈ken t x.l→0≤i∧i.toNat<t.cells.length):=fun i hi=>kge hok (kkg hi)
 have KT:=Lib.hid (fun F n Bp Bs u9 W hn hX hF hF0=>kix F n w.heap.size Bp Bs B x.c t x.l x.A u9 w hn rfl H hok hS hx hp W hX hF hF0)
 have KC:=Lib.hid (fun y W (hE:Ext w W)=>contains_274 A5 c5 cs y W hl5 (h5.ext hE))
 have KL:=Lib.hid (fun W (hE:Ext w W)=>khf x.A x.c x.l W (hS.ext hE) (kem hx).1 (by have:=(kem hx).2;omega))
 have CV:Hid (∀i,i∈ken t x.l→fitsI t h v i=false→cs.contains i=true):=fun i hi hf=>by
  rw[List.contains_iff_mem]
  exact hcov i (List.mem_filter.2 ⟨hi,by rw[hf];rfl⟩)
 obtain⟨nf,hnf⟩:∃nf:Int→Bool,(fitsI t h v)=nf:=⟨_,rfl⟩;rw[hnf]at KF CV
 have BL:Hid ((ken t x.l).length≤4000):=Nat.le_trans (List.length_filter_le _ _) (klx hok _ _)
 clear H hok hh hS hx hp h5 hl5 hcov hnf;obtain⟨xA,xc,xl⟩:=x
 simp only at *
 obtain⟨h1,h2⟩:=h;obtain⟨v1,v2⟩:=v;generalize hcs:t.vals=tv at *
 obtain⟨d0,d1,d2,d3,d4,d5,d6,d7,d8,rfl⟩:∃d0 d1 d2 d3 d4 d5 d6 d7 d8,tv=[d0,d1,d2,d3,d4,d5,d6,d7,d8]:=by
  rw[←hcs];exact⟨_,_,_,_,_,_,_,_,_,rfl⟩
 clear hcs;simp only[List.cons_append,List.nil_append]at *
 have c10:W.cell? ⟨B,10,none⟩=some u:=by simp[World.cell?,gB]
 have zB:=(qaz gB).1
 refine(callsIn_wide (n:=9)).1 ?_
 refine callsIn_of_wp_marks Tryz.func197 rfl trivial ?_ rfl
 refine wpIn_wide.2 ?_
 simp only[Tryz.ntmps197,List.size_toArray,List.length_cons,List.length_nil,Nat.reduceAdd,Nat.reduceSub,Array.replicate_succ,Array.replicate_zero,List.push_toArray,List.append_toArray,List.nil_append,List.cons_append]
 go_wp2_with fail
 obtain⟨W0,hW0⟩:∃W0,(W.alloc (.cells #[.pointer (some ⟨B,0,none⟩)] 176)).alloc (.cells #[.slice A5 cs.length c5] 41)=W0:=⟨_,rfl⟩
 have tb:=kbj W _ _ 176 41 W0 (by rw[←hW0];exact Ext.refl _)
 have hE0:Ext W W0:=by rw[←hW0];exact((Ext.refl W).alloc _).alloc _
 have hz0:W0.heap.size=W.heap.size+2:=by rw[←hW0];simp
 obtain⟨A7,c7,rfl,_⟩:=hL.reads (fun _=>rfl)
 rw[hW0]
 refine kol (aF:=?aF) 9 7 8 1 6 22 301 301 .nilFunc (.func (.func 273) #[.pointer (some ⟨B,0,none⟩)] #[]) (by kernel_rfl) (by kernel_rfl) (by kernel_rfl) ?run (Nat.le_of_ble_eq_true (by kernel_rfl)) (by kernel_rfl) rfl (by kernel_rfl) (by decide +kernel) ?walk ?fin ?rest
 case run=>
  intro o ho a W;cases ho
  simp[go_sem,ptrB]
 case walk=>
  intro W1 hW1
  have s0:W1.cell? ⟨W.heap.size,0,none⟩=some (.pointer (some ⟨B,0,none⟩)):=by have:=kaf hW1 tb.1;simp[World.cell?,this]
  have s1:W1.cell? ⟨B,10,none⟩=some (.slice A7 r.length c7):=by have:=kaf (hE0.trans hW1) gB;simp[World.cell?,this]
  have y0:W.heap.size<W1.heap.size:=(qaz (kaf hW1 tb.1)).1
  have y1:B<W1.heap.size:=by omega
  simp only[List.take_succ_cons,List.take_zero,List.filter_cons,isSk,Bool.not_false,Bool.not_true,if_true,Bool.false_eq_true,if_false,List.filter_nil]
  repeat (first|go_big_quiet_step (fail)|quiet_step (fail))
  refine wpQuiet_nil ?_
  rfl
 case fin=>rfl
 case rest=>
  intro p6 W1 hW1 g6 v6;simp only[ptrB,List.drop_succ_cons,List.drop_zero];have q3:=kaf hW1 tb.1;have q5:=kaf hW1 tb.2
  have hE1:Ext W W1:=hE0.trans hW1
  have hz1:=hW1.len
  have hp6:W.heap.size+2≤p6:=by omega
  have hzw:W.heap.size+2≤W1.heap.size:=by omega
  clear tb hE0 hW1 hW0 hz1 hz0 g6;clear W0
  have c3:W1.cell? ⟨W.heap.size,0,none⟩=some (.pointer (some ⟨B,0,none⟩)):=by simp[World.cell?,q3]
  have z3:W.heap.size<W1.heap.size:=by omega
  have zp6:p6<W1.heap.size:=(qaz v6).1
  go_wp2_with fail
  go_at_call 134
  refine(kmk B xl.length xc xA _).mono ?_
  rintro e W3 ⟨rfl,hW3⟩;simp only[qsa]
  have hE3:Ext W1 W3:=by rw[hW3];exact(((Ext.refl W1).alloc _).alloc _).alloc _
  obtain⟨t8,tS,tP⟩:=kdk W1 #[.bool true] #[.pointer (some ⟨B,0,none⟩)] #[.slice xA xl.length xc] 4 176 76 W3 (by rw[hW3];exact Ext.refl _)
  have hz3:W3.heap.size=W1.heap.size+1+1+1:=by rw[hW3];simp
  clear hW3 c3
  go_wp2_with fail
  generalize hp8:W1.heap.size=p8 at *
  obtain⟨L1,hL1⟩:∃L1:koj,L1=[(W.heap.size,#[.pointer (some ⟨B,0,none⟩)],176),(W.heap.size+1,#[.slice A5 cs.length c5],41),(p6,#[.func (.func 273) #[.pointer (some ⟨B,0,none⟩)] #[]],301),(p8,#[.bool true],4),(p8+1,#[.pointer (some ⟨B,0,none⟩)],176),(p8+1+1,#[.slice xA xl.length xc],76),
   (Bc,#[d0,d1,d2,d3,d4,d5,d6,d7,d8],26),(Bc+1,#[.int .i64 h1,.int .i64 h2],28),(Bc+1+1,#[.int .i64 v1,.int .i64 v2],28)]:=⟨_,rfl⟩
  have hE13:Ext W W3:=hE1.trans hE3
  have hF3:Fix L1 W3:=by
   subst hL1;intro y hy;simp only[List.mem_cons,List.not_mem_nil,or_false]at hy
   rcases hy with rfl|rfl|rfl|rfl|rfl|rfl|rfl|rfl|rfl
   ·exact kaf hE3 q3
   ·exact kaf hE3 q5
   ·exact kaf hE3 v6
   ·exact t8
   ·exact tS
   ·exact tP
   ·exact kaf hE13 g0
   ·exact kaf hE13 g1
   ·exact kaf hE13 g2
  have gB3:=kaf hE13 gB
  have FX:Hid (∀X,Fix L1 X→X.heap[W.heap.size]?=some (.cells #[.pointer (some ⟨B,0,none⟩)] 176)∧X.heap[W.heap.size+1]?=some (.cells #[.slice A5 cs.length c5] 41)∧X.heap[p6]?=some (.cells #[.func (.func 273) #[.pointer (some ⟨B,0,none⟩)] #[]] 301)∧X.heap[p8]?=some (.cells #[.bool true] 4) ∧
    X.heap[p8+1]?=some (.cells #[.pointer (some ⟨B,0,none⟩)] 176)∧X.heap[p8+1+1]?=some (.cells #[.slice xA xl.length xc] 76)∧X.heap[Bc]?=some (.cells #[d0,d1,d2,d3,d4,d5,d6,d7,d8] 26)∧X.heap[Bc+1]?=some (.cells #[.int .i64 h1,.int .i64 h2] 28)∧X.heap[Bc+1+1]?=some (.cells #[.int .i64 v1,.int .i64 v2] 28)):=fun X h=>by
   subst hL1
   exact⟨h (_,_,_) (by simp),h (_,_,_) (by simp),h (_,_,_) (by simp),h (_,_,_) (by simp),h (_,_,_) (by simp),h (_,_,_) (by simp),h (_,_,_) (by simp),h (_,_,_) (by simp),h (_,_,_) (by simp)⟩
  obtain⟨u,hu⟩:∃u:Value,Value.slice A7 r.length c7=u:=⟨_,rfl⟩;have hown:=hL.own;rw[hu]at hL gB gB3 hown;have HU:=Lib.hid hu;clear hu
  have FT1:Hid (∀y∈L1,y.1<W3.heap.size∧u.ownBlock≠some y.1):=fun y hy=>by
   refine⟨hF3.lt hy,fun e=>?_⟩
   have h7:=hown y.1 e;subst hL1;simp only[List.mem_cons,List.not_mem_nil,or_false]at hy
   rcases hy with rfl|rfl|rfl|rfl|rfl|rfl|rfl|rfl|rfl<;>simp only at h7<;>omega
  have FT2:Hid (∀y∈L1,y.1≠B):=fun y hy e=>by
   have h7:=hF3 y hy;rw[e,gB3]at h7;subst hL1;simp only[List.mem_cons,List.not_mem_nil,or_false]at hy
   rcases hy with rfl|rfl|rfl|rfl|rfl|rfl|rfl|rfl|rfl<;>simp at h7
  have hst:=KT.out (fzT L1 b B [d0,d1,d2,d3,d4,d5,d6,d7,d8,kef Bc]) (9-1) (p8+1+1) (p8+1) (kef Bc) W3 (by omega) (hE.trans hE13) (fun X h=>⟨(FX.out X h.1).2.2.2.2.2.1,(FX.out X h.1).2.2.2.2.1,by
   obtain⟨_,u9,l9,h9,_⟩:=h
   exact⟨u9,h9⟩⟩) ⟨hF3,u,r,gB3,hL.ext hE13⟩
  have hb3:Below w.heap.size w W3:=hE.trans hE13
  have hz3':w.heap.size≤W3.heap.size:=by have:=hE.len;omega
  have hP0:Pcs L1 b B [d0,d1,d2,d3,d4,d5,d6,d7,d8,kef Bc] r u W3 0 W3:=⟨hF3,u,[],gB3,by rw[List.append_nil];exact hL.ext hE13,Nat.le_refl _,Nat.le_refl _,fun j h=>.inl h,fun k o h _ _ _=>h⟩
  clear t8 tS tP q3 q5 v6 hL1 KT hF3
  refine(wpIn_wide (n:=9)).1 ?_
  refine at_act (G:=fun A=>Code.wpIn _ _ _ _ _ A _) ?_
  intro A1 hA1
  refine wpIn_rangeFunc_ownH rfl (by omega) (gf:=227) (lb:=#[.pointer (some ⟨p8+1+1,0,none⟩),.pointer (some ⟨p8+1,0,none⟩)]) (by rw[hA1];rfl) trivial (enters_of Tryz.func227 (by kernel_rfl) rfl)
   hst Kz.t (Kz.b hz3') (Below.refl _ _) (fun _=>rfl)
   (fun pre X=>Pcs L1 b B [d0,d1,d2,d3,d4,d5,d6,d7,d8,kef Bc] r u W3 pre.length X∧Below w.heap.size w X)
   (fun _ _ _=>False)
   (OwnFrom.and Pcs.ownF (ownFrom_below (Nat.le_refl _) hz3'))
   (fun _ _ _ _ _ h _ _=>h.elim)
   ⟨hP0,hb3⟩
   (fun xv a' X=>a'={ tmps:=(((A1.tmps.setIfInBounds 31 (.int .i64 xv.1.1)).setIfInBounds 32 (.slice xv.1.2.1 xv.1.2.2.1 xv.1.2.2.2)).setIfInBounds 9 (.int .i64 xv.1.1)).setIfInBounds 10 (.slice xv.1.2.1 xv.1.2.2.1 xv.1.2.2.2),defers:=[] })
   (fun x a' _ X Y row hs hg hr=>hs)
   ?assign ?body ?done ?stop
  case assign=>
   rintro l pre ⟨⟨i,sA,sn,sc⟩,hxv⟩ X K2 hI hK2;subst hA1;simp only[touchE,unE]
   gi_wp2
   exact hK2 _ _ (KeepsFrom.refl _ _) (Kz.refl _ _ _) hI rfl
  case body=>
   rintro l pre ⟨⟨i,sA,sn,sc⟩,hxv⟩ a' X hl ⟨rr,hrr⟩ ⟨hP,hBX⟩ rfl hlen;subst hA1
   simp only at hxv
   obtain⟨f3,f5,f6,f8,-,-,gc0,gc1,gc2⟩:=FX.out X hP.1
   have gBX:∃v,X.heap[B]?=some (.cells #[d0,d1,d2,d3,d4,d5,d6,d7,d8,kef Bc,v] 183):=by
    obtain⟨_,v,junk,h9,_⟩:=hP
    exact⟨v,h9⟩
   obtain⟨vv,gBX⟩:=gBX
   have c3:X.cell? ⟨W.heap.size,0,none⟩=some (.pointer (some ⟨B,0,none⟩)):=by simp[World.cell?,f3]
   have c5:X.cell? ⟨W.heap.size+1,0,none⟩=some (.slice A5 cs.length c5):=by simp[World.cell?,f5]
   have c6:X.cell? ⟨p6,0,none⟩=some (.func (.func 273) #[.pointer (some ⟨B,0,none⟩)] #[]):=by simp[World.cell?,f6]
   have c9:X.cell? ⟨B,9,none⟩=some (.func (.func 226) #[] #[.pointer (some ⟨Bc,0,none⟩),.pointer (some ⟨Bc+1,0,none⟩),.pointer (some ⟨Bc+1+1,0,none⟩)]):=by simp[World.cell?,gBX,kef]
   have y3:=(qaz f3).1;have y5:=(qaz f5).1;have y6:=(qaz f6).1;have yB:=(qaz gBX).1;have Kf:=Lib.hid (KF.out i (RB.out i hxv).1 (RB.out i hxv).2 X hBX gc0 gc1 gc2);have HP:=Lib.hid hP;have HBX:=Lib.hid hBX
   have h4k:pre.length≤4000:=by omega
   have hbX:b≤X.heap.size:=by
    obtain⟨_,v,junk,_,_,_,h9,_⟩:=HP.out
    omega
   clear f3 f5 f6 f8 gc0 gc1 gc2 hP hBX gBX;simp only[List.setIfInBounds_toArray,List.set_cons_succ,List.set_cons_zero]
   cases hni:nf i with
   | true=>
    rw[hni]at Kf
    gi_wp2_with (first
     | (refine⟨trivial,?_⟩;gi_at_call 226;refine(CallsIn.inRound _ (callsIn_wide.2 Kf.out)).mono ?_;rintro e w5 ⟨rfl,hx5⟩;obtain⟨hc5,hf5,hz5⟩:=hx5.rules;have KP:=Lib.hid (put_pcs (n₀:=w.heap.size) (HP.out.ext hx5) rfl (by omega) h4k hr (by omega) hwB FT1.out FT2.out sA sn sc))
     | (refine⟨trivial,?_⟩;gi_at_call 273;refine(CallsIn.inRound _ (callsIn_wide.2 KP.out)).mono ?_;rintro e w6 ⟨⟨z,rfl⟩,hP6,hK6,hko6,hb6⟩;have H6:=Lib.hid (And.intro hP6 (And.intro hK6 (And.intro hko6 hb6)));clear hP6 hK6 hko6 hb6)
     | (refine⟨trivial,?_⟩;go_at_K))
    obtain⟨hP6,hK6,hko6,hb6⟩:=H6.out
    exact⟨(hx5.ko.trans hko6).from _,((Kz.refl _ _ _).ext (by omega) hx5).t hK6,by rw[List.length_append];exact hP6,(HBX.out.trans (Below.mono hx5 (by omega))).trans hb6⟩
   | false=>
    rw[hni]at Kf;have hct:=CV.out i hxv hni
    gi_wp2_with (first
     | (refine⟨trivial,?_⟩;gi_at_call 226;refine(CallsIn.inRound _ (callsIn_wide.2 Kf.out)).mono ?_;rintro e w5 ⟨rfl,hx5⟩;obtain⟨hc5,hf5,hz5⟩:=hx5.rules;have KP:=Lib.hid (put_pcs (n₀:=w.heap.size) (HP.out.ext hx5) rfl (by omega) h4k hr (by omega) hwB FT1.out FT2.out sA sn sc);have KC5:=Lib.hid (KC.out i w5 (HBX.out.trans (Below.mono hx5 (by omega))));rw[hct]at KC5)
     | (refine⟨trivial,?_⟩;gi_at_call 274;refine(CallsIn.inRound _ (callsIn_wide.2 KC5.out)).mono ?_;rintro e w5' ⟨rfl,rfl⟩)
     | (refine⟨trivial,?_⟩;gi_at_call 273;refine(CallsIn.inRound _ (callsIn_wide.2 KP.out)).mono ?_;rintro e w6 ⟨⟨z,rfl⟩,hP6,hK6,hko6,hb6⟩;have H6:=Lib.hid (And.intro hP6 (And.intro hK6 (And.intro hko6 hb6)));clear hP6 hK6 hko6 hb6))
    obtain⟨hP6,hK6,hko6,hb6⟩:=H6.out
    exact⟨(hx5.ko.trans hko6).from _,((Kz.refl _ _ _).ext (by omega) hx5).t hK6,by rw[List.length_append];exact hP6,(HBX.out.trans (Below.mono hx5 (by omega))).trans hb6⟩
  case done=>
   rintro D ys X hD hS ⟨hP,hBX⟩ hKD;subst hA1;obtain⟨hFx,v,junk,gBX,hv,hj,hzX,hnw,hfr⟩:=hP;obtain⟨f3,f5,f6,f8,-,-,-,-,-⟩:=FX.out X hFx
   have c3:X.cell? ⟨W.heap.size,0,none⟩=some (.pointer (some ⟨B,0,none⟩)):=by simp[World.cell?,f3]
   have c8:X.cell? ⟨p8,0,none⟩=some (.bool true):=by simp[World.cell?,f8]
   have cB:X.cell? ⟨B,10,none⟩=some v:=by simp[World.cell?,gBX]
   have fB:X.frozen? ⟨B,10,none⟩=false:=by simp[World.frozen?,gBX]
   have y3:=(qaz f3).1;have y8:=(qaz f8).1;have yB:=(qaz gBX).1
   go_wp2_with fail
   have hlen:=hv.1
   rcases hv.2 with ⟨rfl,hn0⟩|⟨g,cap,cur,rfl,k2,k3,k4,k5,k6,k7⟩
   ·have hr0:r=[]:=List.eq_nil_of_length_eq_zero (by rw[List.length_append]at hn0;omega)
    subst hr0
    go_region
    refine kbd (G:=fun W=>Exit.then _ _ _ _ W) (fun V=>∃v2:Value,V.heap[B]?=some (.cells #[d0,d1,d2,d3,d4,d5,d6,d7,d8,kef Bc,v2] 183)∧LR b V v2 ([]:List PV)∧V.heap[p6]?=some (.cells #[.func (.func 273) #[.pointer (some ⟨B,0,none⟩)] #[]] 301)∧Ext w V∧W3.heap.size≤V.heap.size∧V.heap[D]?=some (.deferred (some []))∧(∀j,v2.ownBlock=some j→u.ownBlock=some j∨W3.heap.size≤j)∧∀(k:Nat) (o:Obj),W.heap[k]?=some o→o.isCells=true→k≠B→u.ownBlock≠some k→V.heap[k]?=some o) ?go1 ?facts1
    case facts1=>
     refine⟨Value.slice none 0 0,kja (pl:=[d0,d1,d2,d3,d4,d5,d6,d7,d8,kef Bc]) rfl gBX _,?_,?_,?_,?_,?_,fun j e=>by simp[Value.ownBlock]at e,fun k o a1 a2 a3 a4=>?_⟩
     ·exact LG.nil _ _ _ _ _
     ·exact(Below.heap_setCell _ _ _ _ (fun e=>by rw[e,gBX]at f6;cases f6)).trans f6
     ·exact((show Ext w X from hBX).setCell (p:=⟨B,10,none⟩) hwB _).drew
     ·show _≤(X.setCell _ _).heap.size
      rw[World.size_setCell];exact hzX
     ·exact(Below.heap_setCell _ _ _ _ (fun e=>by rw[e,gBX]at hKD;cases hKD)).trans hKD
     ·exact(Below.heap_setCell _ _ _ _ a3).trans (hfr k o ((hE13.block k (qaz a1).1).trans a1) a2 a3 a4)
    rintro V ⟨v2,gV,hvV,h6V,hEV,hzV,hDV,hnV,hfV⟩
    have c6:V.cell? ⟨p6,0,none⟩=some (.func (.func 273) #[.pointer (some ⟨B,0,none⟩)] #[]):=by simp[World.cell?,h6V]
    have HV:=Lib.hid (And.intro gV (And.intro hvV (And.intro h6V (And.intro hEV (And.intro hzV (And.intro hDV (And.intro hnV hfV)))))));clear gV hvV h6V hEV hzV hDV hnV hfV
    go_wp2_with fail
    refine kca (C:=fun w'=>∃x:Xc p6 (.func (.func 273) #[.pointer (some ⟨B,0,none⟩)] #[]),w'=x.world) [0,1] 2 3 0 [_,_] rfl (by kernel_rfl) (by kernel_rfl) ⟨⟨V.drew,HV.out.2.2.1⟩,rfl⟩ ?_
    simp only[List.drop_succ_cons,List.drop_zero]
    (repeat (first|go_big_quiet_step (fail)|quiet_step (fail)))
    refine wpQuiet_nil ?_
    obtain⟨gV,hvV,h6V,hEV,hzV,hDV,hnV,hfV⟩:=HV.out
    have hD1:Ext V V.drew:=(Ext.refl V).drew
    refine kcj rfl rfl rfl eg_156 ?_
    simp only[List.map_toArray,List.map_cons,List.map_nil]
    refine(KL.out V.drew (hEV.trans hD1)).mono ?_
    rintro e w5 ⟨g5,cap5,rfl,hP5,hx5⟩
    have hx5':Ext V w5:=hD1.trans hx5
    have hz5:=hx5'.len
    refine⟨_,rfl,⟨⟨w5,kaf hx5' h6V⟩,rfl⟩,?_⟩
    refine yOp_callM rfl rfl rfl rfl eg_273 ?_
    simp only[List.map_toArray,List.map_cons,List.map_nil,List.append_toArray,List.cons_append,List.nil_append]
    refine(put_273 b B [d0,d1,d2,d3,d4,d5,d6,d7,d8,kef Bc] v2 ([]:List PV) ⟨some ⟨g5,0,none⟩,cap5,xl⟩ w5 rfl (kaf hx5' gV) (hvV.ext hx5') (by omega) (by omega)).mono ?_
    rintro e w6 ⟨⟨z,rfl⟩,u',W6,rfl,h1,h2,h4,h5⟩
    simp only at h1 h2
    have hwb:w.heap.size≤b:=by omega
    have hE5:Ext w5 (w5.alloc (.cells #[.slice (some ⟨g5,0,none⟩) xl.length cap5] 76)):=(Ext.refl _).alloc _
    have hv5:=(hvV.ext hx5').ext hE5
    have gB6:=hv5.other h2 (kaf hE5 (kaf hx5' gV)) (by decide)
    have hn6:∀k,k<W3.heap.size→u.ownBlock≠some k→some k≠v2.ownBlock:=fun k a1 a2 e=>by
     rcases hnV k e.symm with h6|h6
     ·exact a2 h6
     ·omega
    have k56:∀(k:Nat) (o:Obj),V.heap[k]?=some o→k<W3.heap.size→u.ownBlock≠some k→W6.heap[k]?=some o:=fun k o a1 a2 a3=>
     (h2.block k (by have:=(qaz a1).1;have:=hE5.len;omega) (hn6 k a2 a3)).trans ((hE5.block k (by have:=(qaz a1).1;omega)).trans ((hx5'.block k (qaz a1).1).trans a1))
    have u6:u.ownBlock≠some p6:=fun e=>by have:=(hown p6 e).2;omega
    have b6:W6.heap[p6]?=some (.cells #[.func (.func 273) #[.pointer (some ⟨B,0,none⟩)] #[]] 301):=k56 p6 _ h6V (by omega) u6
    have p6B:p6≠B:=fun e=>by rw[e,gB6]at b6;cases b6
    refine⟨z,rfl,⟨⟨W6.setCell ⟨B,10,none⟩ u',(Below.heap_setCell _ _ _ _ p6B).trans b6⟩,rfl⟩,?_⟩
    refine wpQuiet_nil ?_
    have gBE:(W6.setCell ⟨B,10,none⟩ u').heap[B]?=some (.cells #[d0,d1,d2,d3,d4,d5,d6,d7,d8,kef Bc,u'] 183):=kja (pl:=[d0,d1,d2,d3,d4,d5,d6,d7,d8,kef Bc]) rfl gB6 u'
    have hD6:W6.heap[D]?=some (.deferred (some [])):=by
     refine(h2.block D (by have:=(qaz hDV).1;have:=hE5.len;omega) (fun e=>?_)).trans ((hE5.block D (by have:=(qaz hDV).1;omega)).trans ((hx5'.block D (qaz hDV).1).trans hDV))
     rcases hvV.2 with ⟨rfl,_⟩|⟨g',cap',cur',rfl,_,h3',_⟩
     ·simp[Value.ownBlock]at e
     ·simp only[Value.ownBlock,Option.some.injEq]at e
      rw[←e,hDV]at h3'
      cases h3'
    have DB:D≠B:=fun e=>by rw[e,gB6]at hD6;cases hD6
    have hDE:(W6.setCell ⟨B,10,none⟩ u').heap[D]?=some (.deferred (some [])):=(Below.heap_setCell _ _ _ _ DB).trans hD6
    have hcl:LG encP 43 2 b w5 (.slice (some ⟨g5,0,none⟩) xl.length cap5) xl:=LG.base (B:=V.drew.heap.size) hP5 (show b≤V.heap.size by omega)
    have hc6:=LG.beside (hcl.ext hE5) hv5 (by decide) h2
    have hcE:LG encP 43 2 b (W6.setCell ⟨B,10,none⟩ u') (.slice (some ⟨g5,0,none⟩) xl.length cap5) xl:=hc6.setCell (fun j e hj=>by
     have q:=hc6.apart gB6 (by decide)
     exact q (by rw[e];simp only at hj;rw[hj])) u'
    have hrE:LR b (W6.setCell ⟨B,10,none⟩ u') u' _:=h1.setCell (fun j e hj=>by
     have q:=h1.apart gB6 (by decide)
     exact q (by rw[e];simp only at hj;rw[hj])) u'
    have hEE:Ext w (W6.setCell ⟨B,10,none⟩ u'):=(Below.trans (hEV.trans hx5') (h4.mono hwb)).setCell (p:=⟨B,10,none⟩) hwB _
    have hzE:W.heap.size≤W6.heap.size:=by have:=h4.size;omega
    have hfE:∀(k:Nat) (o:Obj),W.heap[k]?=some o→o.isCells=true→k≠B→u.ownBlock≠some k→(W6.setCell ⟨B,10,none⟩ u').heap[k]?=some o:=fun k o a1 a2 a3 a4=>
     (Below.heap_setCell _ _ _ _ a3).trans (k56 k o (hfV k o a1 a2 a3 a4) (by have:=(qaz a1).1;omega) a4)
    have HE:=Lib.hid (And.intro hrE (And.intro gBE (And.intro hcE (And.intro hEE (And.intro hfE hDE)))));clear hrE gBE hcE hEE hfE hDE;have hz6:=World.size_setCell W6 ⟨B,10,none⟩ u';generalize W6.setCell ⟨B,10,none⟩ u'=WE at HE hz6 ⊢
    go_wp2_with fail
    obtain⟨hrE,gBE,hcE,hEE,hfE,hDE⟩:=HE.out
    have hM:∀E∈[D],WE.heap[E]?=some (.deferred (some [])):=fun E h=>by
     obtain rfl:E=D:=by simpa using h
     exact hDE
    refine ked (by simp) [D] WE (by simp) hM ?_
    have hput:∀(k:Nat) (o:Obj),WE.heap[k]?=some o→o.isCells=true→(kpj WE [D]).heap[k]?=some o:=fun k o a1 a2=>
     (World.putObj_heap_other (fun e=>by subst e;rw[hDE]at a1;cases a1;cases a2)).trans a1
    have hbt:=kff (n₀:=w.heap.size) [D] WE (fun E h=>by
     obtain rfl:E=D:=by simpa using h
     omega)
    refine⟨.tuple #[],by simp[results,Tryz.f197,go_sem],⟨_,rfl⟩,some ⟨g5,0,none⟩,cap5,u',kfx [D] WE (by simp) hM hrE,hput B _ gBE rfl,kfx [D] WE (by simp) hM hcE,?_,Below.trans (B:=w.heap.size) hEE hbt,fun k o a1 a2 a3 a4=>hput k o (hfE k o a1 a2 a3 (by rw[←HU.out];exact a4)) a2⟩
    have:=hbt.size
    omega
   ·have hrl:r.length≤(r++junk).length:=by rw[List.length_append];omega
    go_region
    refine kbd (G:=fun W=>Exit.then _ _ _ _ W) (fun V=>∃v2:Value,V.heap[B]?=some (.cells #[d0,d1,d2,d3,d4,d5,d6,d7,d8,kef Bc,v2] 183)∧LR b V v2 r∧V.heap[p6]?=some (.cells #[.func (.func 273) #[.pointer (some ⟨B,0,none⟩)] #[]] 301)∧Ext w V∧W3.heap.size≤V.heap.size∧V.heap[D]?=some (.deferred (some []))∧(∀j,v2.ownBlock=some j→u.ownBlock=some j∨W3.heap.size≤j)∧∀(k:Nat) (o:Obj),W.heap[k]?=some o→o.isCells=true→k≠B→u.ownBlock≠some k→V.heap[k]?=some o) ?go2 ?facts2
    case facts2=>
     refine⟨Value.slice (some ⟨g,0,none⟩) r.length cap,kja (pl:=[d0,d1,d2,d3,d4,d5,d6,d7,d8,kef Bc]) rfl gBX _,?_,?_,?_,?_,?_,hnw,fun k o a1 a2 a3 a4=>?_⟩
     ·have t1:=hv.take (fun _=>rfl) hrl (by simp)
      rw[List.take_left]at t1
      exact(t1.setCell (p:=⟨B,10,none⟩) (fun j e hj=>by
       simp only[Value.ownBlock,Option.some.injEq]at e
       simp only at hj
       rw[←e]at hj;rw[hj,gBX]at k3
       cases k3) _).ext ((Ext.refl _).drew)
     ·exact(Below.heap_setCell _ _ _ _ (fun e=>by rw[e,gBX]at f6;cases f6)).trans f6
     ·exact((show Ext w X from hBX).setCell (p:=⟨B,10,none⟩) hwB _).drew
     ·show _≤(X.setCell _ _).heap.size
      rw[World.size_setCell];exact hzX
     ·exact(Below.heap_setCell _ _ _ _ (fun e=>by rw[e,gBX]at hKD;cases hKD)).trans hKD
     ·exact(Below.heap_setCell _ _ _ _ a3).trans (hfr k o ((hE13.block k (qaz a1).1).trans a1) a2 a3 a4)
    rintro V ⟨v2,gV,hvV,h6V,hEV,hzV,hDV,hnV,hfV⟩
    have c6:V.cell? ⟨p6,0,none⟩=some (.func (.func 273) #[.pointer (some ⟨B,0,none⟩)] #[]):=by simp[World.cell?,h6V]
    have HV:=Lib.hid (And.intro gV (And.intro hvV (And.intro h6V (And.intro hEV (And.intro hzV (And.intro hDV (And.intro hnV hfV)))))));clear gV hvV h6V hEV hzV hDV hnV hfV
    go_wp2_with fail
    refine kca (C:=fun w'=>∃x:Xc p6 (.func (.func 273) #[.pointer (some ⟨B,0,none⟩)] #[]),w'=x.world) [0,1] 2 3 0 [_,_] rfl (by kernel_rfl) (by kernel_rfl) ⟨⟨V.drew,HV.out.2.2.1⟩,rfl⟩ ?_
    simp only[List.drop_succ_cons,List.drop_zero]
    (repeat (first|go_big_quiet_step (fail)|quiet_step (fail)))
    refine wpQuiet_nil ?_
    obtain⟨gV,hvV,h6V,hEV,hzV,hDV,hnV,hfV⟩:=HV.out
    have hD1:Ext V V.drew:=(Ext.refl V).drew
    refine kcj rfl rfl rfl eg_156 ?_
    simp only[List.map_toArray,List.map_cons,List.map_nil]
    refine(KL.out V.drew (hEV.trans hD1)).mono ?_
    rintro e w5 ⟨g5,cap5,rfl,hP5,hx5⟩
    have hx5':Ext V w5:=hD1.trans hx5
    have hz5:=hx5'.len
    refine⟨_,rfl,⟨⟨w5,kaf hx5' h6V⟩,rfl⟩,?_⟩
    refine yOp_callM rfl rfl rfl rfl eg_273 ?_
    simp only[List.map_toArray,List.map_cons,List.map_nil,List.append_toArray,List.cons_append,List.nil_append]
    refine(put_273 b B [d0,d1,d2,d3,d4,d5,d6,d7,d8,kef Bc] v2 r ⟨some ⟨g5,0,none⟩,cap5,xl⟩ w5 rfl (kaf hx5' gV) (hvV.ext hx5') (by omega) (by omega)).mono ?_
    rintro e w6 ⟨⟨z,rfl⟩,u',W6,rfl,h1,h2,h4,h5⟩
    simp only at h1 h2
    have hwb:w.heap.size≤b:=by omega
    have hE5:Ext w5 (w5.alloc (.cells #[.slice (some ⟨g5,0,none⟩) xl.length cap5] 76)):=(Ext.refl _).alloc _
    have hv5:=(hvV.ext hx5').ext hE5
    have gB6:=hv5.other h2 (kaf hE5 (kaf hx5' gV)) (by decide)
    have hn6:∀k,k<W3.heap.size→u.ownBlock≠some k→some k≠v2.ownBlock:=fun k a1 a2 e=>by
     rcases hnV k e.symm with h6|h6
     ·exact a2 h6
     ·omega
    have k56:∀(k:Nat) (o:Obj),V.heap[k]?=some o→k<W3.heap.size→u.ownBlock≠some k→W6.heap[k]?=some o:=fun k o a1 a2 a3=>
     (h2.block k (by have:=(qaz a1).1;have:=hE5.len;omega) (hn6 k a2 a3)).trans ((hE5.block k (by have:=(qaz a1).1;omega)).trans ((hx5'.block k (qaz a1).1).trans a1))
    have u6:u.ownBlock≠some p6:=fun e=>by have:=(hown p6 e).2;omega
    have b6:W6.heap[p6]?=some (.cells #[.func (.func 273) #[.pointer (some ⟨B,0,none⟩)] #[]] 301):=k56 p6 _ h6V (by omega) u6
    have p6B:p6≠B:=fun e=>by rw[e,gB6]at b6;cases b6
    refine⟨z,rfl,⟨⟨W6.setCell ⟨B,10,none⟩ u',(Below.heap_setCell _ _ _ _ p6B).trans b6⟩,rfl⟩,?_⟩
    refine wpQuiet_nil ?_
    have gBE:(W6.setCell ⟨B,10,none⟩ u').heap[B]?=some (.cells #[d0,d1,d2,d3,d4,d5,d6,d7,d8,kef Bc,u'] 183):=kja (pl:=[d0,d1,d2,d3,d4,d5,d6,d7,d8,kef Bc]) rfl gB6 u'
    have hD6:W6.heap[D]?=some (.deferred (some [])):=by
     refine(h2.block D (by have:=(qaz hDV).1;have:=hE5.len;omega) (fun e=>?_)).trans ((hE5.block D (by have:=(qaz hDV).1;omega)).trans ((hx5'.block D (qaz hDV).1).trans hDV))
     rcases hvV.2 with ⟨rfl,_⟩|⟨g',cap',cur',rfl,_,h3',_⟩
     ·simp[Value.ownBlock]at e
     ·simp only[Value.ownBlock,Option.some.injEq]at e
      rw[←e,hDV]at h3'
      cases h3'
    have DB:D≠B:=fun e=>by rw[e,gB6]at hD6;cases hD6
    have hDE:(W6.setCell ⟨B,10,none⟩ u').heap[D]?=some (.deferred (some [])):=(Below.heap_setCell _ _ _ _ DB).trans hD6
    have hcl:LG encP 43 2 b w5 (.slice (some ⟨g5,0,none⟩) xl.length cap5) xl:=LG.base (B:=V.drew.heap.size) hP5 (show b≤V.heap.size by omega)
    have hc6:=LG.beside (hcl.ext hE5) hv5 (by decide) h2
    have hcE:LG encP 43 2 b (W6.setCell ⟨B,10,none⟩ u') (.slice (some ⟨g5,0,none⟩) xl.length cap5) xl:=hc6.setCell (fun j e hj=>by
     have q:=hc6.apart gB6 (by decide)
     exact q (by rw[e];simp only at hj;rw[hj])) u'
    have hrE:LR b (W6.setCell ⟨B,10,none⟩ u') u' _:=h1.setCell (fun j e hj=>by
     have q:=h1.apart gB6 (by decide)
     exact q (by rw[e];simp only at hj;rw[hj])) u'
    have hEE:Ext w (W6.setCell ⟨B,10,none⟩ u'):=(Below.trans (hEV.trans hx5') (h4.mono hwb)).setCell (p:=⟨B,10,none⟩) hwB _
    have hzE:W.heap.size≤W6.heap.size:=by have:=h4.size;omega
    have hfE:∀(k:Nat) (o:Obj),W.heap[k]?=some o→o.isCells=true→k≠B→u.ownBlock≠some k→(W6.setCell ⟨B,10,none⟩ u').heap[k]?=some o:=fun k o a1 a2 a3 a4=>
     (Below.heap_setCell _ _ _ _ a3).trans (k56 k o (hfV k o a1 a2 a3 a4) (by have:=(qaz a1).1;omega) a4)
    have HE:=Lib.hid (And.intro hrE (And.intro gBE (And.intro hcE (And.intro hEE (And.intro hfE hDE)))));clear hrE gBE hcE hEE hfE hDE;have hz6:=World.size_setCell W6 ⟨B,10,none⟩ u';generalize W6.setCell ⟨B,10,none⟩ u'=WE at HE hz6 ⊢
    go_wp2_with fail
    obtain⟨hrE,gBE,hcE,hEE,hfE,hDE⟩:=HE.out
    have hM:∀E∈[D],WE.heap[E]?=some (.deferred (some [])):=fun E h=>by
     obtain rfl:E=D:=by simpa using h
     exact hDE
    refine ked (by simp) [D] WE (by simp) hM ?_
    have hput:∀(k:Nat) (o:Obj),WE.heap[k]?=some o→o.isCells=true→(kpj WE [D]).heap[k]?=some o:=fun k o a1 a2=>
     (World.putObj_heap_other (fun e=>by subst e;rw[hDE]at a1;cases a1;cases a2)).trans a1
    have hbt:=kff (n₀:=w.heap.size) [D] WE (fun E h=>by
     obtain rfl:E=D:=by simpa using h
     omega)
    refine⟨.tuple #[],by simp[results,Tryz.f197,go_sem],⟨_,rfl⟩,some ⟨g5,0,none⟩,cap5,u',kfx [D] WE (by simp) hM hrE,hput B _ gBE rfl,kfx [D] WE (by simp) hM hcE,?_,Below.trans (B:=w.heap.size) hEE hbt,fun k o a1 a2 a3 a4=>hput k o (hfE k o a1 a2 a3 (by rw[←HU.out];exact a4)) a2⟩
    have:=hbt.size
    omega
  case stop=>
   rintro D k2 pre X _ _ h _
   exact h.elim
end Go.Proofs.YtcgghcicnanliaaGreatDoor
namespace Go.Proofs.YtcgghcicnanliaaGreatDoor
open Go.RowKit Go.Lib
set_option maxHeartbeats 2000000
set_option maxRecDepth 100000
def kkw (n:Nat)(cs:List Int):Prop:=(∀(j:Nat) x,cs[j]?=some x→0≤x∧x<(n:Int))∧∀(j:Nat) x y,cs[j]?=some x→cs[j+1]?=some y→x<y
theorem made_kept {b B:Nat}{u:Value}{pl:List Value}{W W':World}{r rr:List PV}(gB:W.heap[B]?=some (.cells (pl++[u]).toArray 183))(hL:LR b W u r)(hM:Made b W rr)(hfr:∀k o,W.heap[k]?=some o→o.isCells=true→k≠B→u.ownBlock≠some k→W'.heap[k]?=some o):Made b W' rr:=fun v hv=>by
 have h:=hM v hv
 refine⟨h.1,?_⟩
 rcases h.2 with h2|⟨g,cap,cur,h1,h2,h3,h4⟩
 ·exact .inl h2
 ·refine .inr ⟨g,cap,cur,h1,h2,hfr g _ h3 rfl (fun e=>?_) (fun e=>hL.apart h3 (by decide) e.symm),h4⟩
  subst e;rw[gB]at h3;cases h3
theorem echoCut_122 (t:ChartT)(h v:Sp)(A:Option Addr)(c:Nat)(r:List PV)(A5:Option Addr)(c5:Nat)(cs:List Int)(w:World)(H:t.Lies w)(hok:kao t=true)(hh:kau h.1 h.2 (-2000) 2000=true)(hv:kau v.1 v.2 (-100000) 100000=true)(R:Rg w A r)(hr:r.length≤32)(hV:AllV r)
  (h5:Sl encI 1 w A5 cs) (hl5:cs.length≤1000000) (hup:kkw t.cells.length cs) (hcov:∀i∈kfb t h v r,i∈cs) :
  Calls Tryz.prog 122 #[.agg t.vals.toArray,.slice A r.length c,.agg #[.int .i64 h.1,.int .i64 h.2],.agg #[.int .i64 v.1,.int .i64 v.2],.slice A5 cs.length c5] w fun e w'=>∃A' c' ro,e=.returned (.tuple #[.slice A' ro.length c',.int .i64 0])∧Rg w' A' ro∧ro.map (·.l)=kfz (r.map (·.l))∧Ext w w':=by
 have K72:=Lib.hid (fun W (hx:Ext w W)=>kdp A c r W (R.ext hx) hr hV)
 have K133:=Lib.hid (fun W (hx:Ext w W)=>khx t h v W (H.ext hx) hok hh hv)
 have KT:=Lib.hid (fun (x:PV) (hx:x∈r) b B Bc rr u W hE hwB hBb hb hcB gB g0 g1 g2 hL hrr=>take_197 t h v b B Bc x A5 c5 cs rr u w W H hok hh (R.each x hx) (hV x hx).1 (hV x hx).2 h5 hl5 hE hwB hBb hb hcB gB g0 g1 g2 hL hrr (fun i hi=>hcov i (List.mem_flatMap.2 ⟨x,hx,hi⟩)))
 have KY:=Lib.hid (fun A' c' rr W (R':Rg W A' rr) (hn:rr.length≤32) (hV':AllV rr)=>tidy_31 c' A' rr W R' hn hV')
 have RR:=Lib.hid R;have VV:=Lib.hid hV
 have h6:t.vals.toArray[6]?=some (.slice t.cA t.cells.length t.cc):=rfl
 generalize hcl:t.cells.length=cl at *;clear H hok hh hv R hV hcov;obtain⟨h1,h2⟩:=h;obtain⟨v1,v2⟩:=v;generalize hcs:t.vals=tv at *
 obtain⟨d0,d1,d2,d3,d4,d5,d6,d7,d8,rfl⟩:∃d0 d1 d2 d3 d4 d5 d6 d7 d8,tv=[d0,d1,d2,d3,d4,d5,d6,d7,d8]:=by
  rw[←hcs];exact⟨_,_,_,_,_,_,_,_,_,rfl⟩
 clear hcs;simp only[List.cons_append,List.nil_append]at *
 obtain rfl:d6=.slice t.cA cl t.cc:=by simpa using h6
 clear h6
 go_enter Tryz.func122,Tryz.ntmps122
 go_wp2_with fail
 go_at_call 133
 refine(K133.out _ xt).mono ?_
 rintro e w1 ⟨B,rfl,hx1,hB0,hS,hC,hH,hVV⟩;simp only[qsa]at hB0 hS hC hH hVV
 have hE1:Ext w w1:=Ext.trans ((((Ext.refl w).alloc _).alloc _).alloc _) hx1
 have hz1:=hE1.len;have zB:=(qaz hS).1;have zV:=(qaz hVV).1
 have q6:w1.cell? ⟨w.heap.size,6,none⟩=some (.slice t.cA cl t.cc):=by
  have:=kaf hx1 ((Below.heap_alloc _ _ _ (by simp only[qsa];omega)).trans ((Below.heap_alloc _ _ _ (by simp only[qsa];omega)).trans (qan w (.cells #[d0,d1,d2,d3,d4,d5,.slice t.cA cl t.cc,d7,d8] 26))))
  simp[World.cell?,this]
 clear hx1
 go_wp2_with fail
 go_at_call 72
 refine(K72.out _ xt).mono ?_
 rintro e w2 ⟨rfl,hx2⟩
 have hE12:Ext w1 w2:=Ext.trans xt hx2
 have hE2:Ext w w2:=hE1.trans hE12
 have gS:=kaf hE12 hS;have gC:=kaf hE12 hC;have gH:=kaf hE12 hH;have gV:=kaf hE12 hVV;have zB2:=(qaz gS).1;have zV2:=(qaz gV).1
 have q6':w2.cell? ⟨w.heap.size,6,none⟩=some (.slice t.cA cl t.cc):=(hE12.rules.1 _ _ (by omega)).trans q6
 clear hS hC hH hVV q6 zB zV hx2 K133 K72
 go_wp2_with fail
 go_loopg [14,15,34] cs.length (fun gg _ _ s34 wr=>∃kk:Nat,kk≤cs.length∧cs.length-kk≤gg∧s34=.int .i64 kk∧wr=w2)
 case atStart=>exact⟨0,Nat.zero_le _,by omega,rfl,rfl⟩
 case round=>
  obtain⟨kk,hkk,hg,rfl,rfl⟩:=hrel
  by_cases hlt:kk<cs.length
  ·obtain⟨b5,off5,rfl⟩:=h5.addr (by omega)
   obtain⟨y,hy⟩:∃y,cs[kk]?=some y:=⟨_,qgq hlt⟩
   have hb5:b5<wr.heap.size:=Nat.lt_of_lt_of_le (h5.blk (by omega)) hE2.len
   have cy:wr.cell? ⟨b5,off5+kk,none⟩=some (.int .i64 y):=by have:=(h5.ext hE2).at_ hy (i:=0) rfl;simpa using this
   have hltz:(kk:Int)<(cs.length:Int):=by omega
   obtain⟨y1,y2⟩:=hup.1 kk y hy
   have e1:decide (y<0)=false:=decide_eq_false (by omega)
   have e2:decide ((cl:Int)≤y)=false:=decide_eq_false (by omega)
   have n1:¬ y<0:=by omega
   have n2:¬ (cl:Int)≤y:=by omega
   rcases kk with _|k
   ·rw[Nat.add_zero]at cy
    go_wp2
    go_roundg (cs.length-1)
    case measure=>omega
    case rel=>exact⟨1,by omega,by omega,by go_num,rfl⟩
   ·obtain⟨z,hz⟩:∃z,cs[k]?=some z:=⟨_,qgq (by omega)⟩
    have hzy:=hup.2 k z y hz hy
    have cz:wr.cell? ⟨b5,off5+k,none⟩=some (.int .i64 z):=by have:=(h5.ext hE2).at_ hz (i:=0) rfl;simpa using this
    have e3:decide (y≤z)=false:=decide_eq_false (by omega)
    have n3:¬ y≤z:=by omega
    clear hy hz
    go_wp2
    go_roundg (cs.length-(k+1+1))
    case measure=>omega
    case rel=>exact⟨k+1+1,by omega,by omega,by go_num,rfl⟩
  have hltz:¬ (kk:Int)<(cs.length:Int):=by omega
  go_wp2_with fail
  obtain⟨b,hb⟩:∃b,wr.heap.size=b:=⟨_,rfl⟩;obtain⟨Bc,hBc⟩:∃Bc,w.heap.size+1+1+1=Bc:=⟨_,rfl⟩;rw[hBc]at gS gC gH gV
  have hcB:Bc+1+1<b:=by omega
  have hBb:B<b:=by omega
  have hwB:w.heap.size≤B:=by omega
  go_loopg [17,64] r.length (fun gg _ s64 W=>∃kk:Nat,∃u:Value,∃rr:List PV,kk≤r.length∧r.length-kk≤gg∧s64=.int .i64 kk∧Hid (Ext w W∧b≤W.heap.size) ∧
   Hid (W.heap[B]?=some (.cells #[d0,d1,d2,d3,d4,d5,.slice t.cA cl t.cc,d7,d8,kef Bc,u] 183)∧W.heap[Bc]?=some (.cells #[d0,d1,d2,d3,d4,d5,.slice t.cA cl t.cc,d7,d8] 26)∧W.heap[Bc+1]?=some (.cells #[.int .i64 h1,.int .i64 h2] 28)∧W.heap[Bc+1+1]?=some (.cells #[.int .i64 v1,.int .i64 v2] 28)) ∧
   Hid (LR b W u rr∧Made b W rr)∧Hid (rr.map (·.l)=(r.map (·.l)).take kk))
  case atStart=>exact⟨0,_,[],Nat.zero_le _,by omega,rfl,⟨hE2,by omega⟩,⟨gS,gC,gH,gV⟩,⟨LG.nil _ _ _ _ _,fun v hv=>by cases hv⟩,by show _=_;simp⟩
  case round=>
   obtain⟨k,u,rr,hk,hg2,rfl,hX,hG,hL,hE3⟩:=hrel
   have hlen:rr.length=k:=by have:=congrArg List.length hE3.out;rw[List.length_map,List.length_take,List.length_map]at this;omega
   by_cases hlk:k<r.length
   ·obtain⟨xb,xoff,rfl⟩:=RR.out.sl.addr (by omega)
    obtain⟨x,hx⟩:∃x,r[k]?=some x:=⟨_,qgq hlk⟩
    have hlkz:(k:Int)<(r.length:Int):=by omega
    have cr:wr.cell? ⟨xb,xoff+k,none⟩=some (.slice x.A x.l.length x.c):=by have:=(RR.out.sl.ext hX.out.1).at_ hx (i:=0) rfl;simpa using this
    have yb:xb<wr.heap.size:=Nat.lt_of_lt_of_le (RR.out.sl.blk (by omega)) hX.out.1.len
    obtain⟨gS2,gC2,gH2,gV2⟩:=hG.out
    have KX:=Lib.hid (KT.out x (qmq hx) b B Bc rr u wr hX.out.1 hwB hBb hX.out.2 hcB gS2 gC2 gH2 gV2 hL.out.1 (by omega))
    have hX1:Hid (rr.map (·.l)++[x.l]=(r.map (·.l)).take (k+1)):=by
     show _=_
     rw[hE3.out,List.take_add_one,List.getElem?_map,hx]
     rfl
    have hbn:=hX.out.2;clear hx gS2 gC2 gH2 gV2;obtain⟨xA,xc,xl⟩:=x
    simp only at cr KX hX1
    go_wp2_with fail
    go_at_call 197
    have h7:=KX.out;clear KX
    refine Calls.mono h7 ?_
    rintro e w5 ⟨⟨z,rfl⟩,A',c',u',hL',gB',hM',hz',hx',hfr⟩
    go_wp2_with fail
    go_roundg (r.length-(k+1))
    case measure=>omega
    case rel=>
     obtain⟨gS2,gC2,gH2,gV2⟩:=hG.out
     have hown:∀j,j<b→u.ownBlock≠some j:=fun j hj e=>by have:=(hL.out.1.own j e).1;omega
     have hne:∀ {j:Nat} {cs:Array Value} {T:TypeId},wr.heap[j]?=some (.cells cs T)→T≠183→j≠B:=fun h hT e=>by
      rw[e,gS2]at h;cases h;exact hT rfl
     refine⟨k+1,u',_,by omega,by omega,by go_num,⟨hx',by omega⟩,⟨gB',hfr Bc _ gC2 rfl (hne gC2 (by decide)) (hown _ (by omega)),hfr _ _ gH2 rfl (hne gH2 (by decide)) (hown _ (by omega)),hfr _ _ gV2 rfl (hne gV2 (by decide)) (hown _ (by omega))⟩,⟨hL',?_⟩,?_⟩
     ·intro v hv
      rcases List.mem_append.1 hv with hv|hv
      ·exact made_kept (pl:=[d0,d1,d2,d3,d4,d5,.slice t.cA cl t.cc,d7,d8,kef Bc]) gS2 hL.out.1 hL.out.2 hfr v hv
      ·obtain rfl:v=⟨A',c',xl⟩:=by simpa using hv
       exact hM'
     ·show _=_
      rw[List.map_append]
      exact hX1.out
   have hlkz:¬ (k:Int)<(r.length:Int):=by omega
   have ek:k=r.length:=by omega
   subst ek
   have hE4:Hid (rr.map (·.l)=r.map (·.l)):=by show _=_;rw[hE3.out,List.take_of_length_le (by simp)]
   have RRR:Rg wr (match u with|.slice A _ _=>A|_=>none) rr:=by
    obtain⟨A',c',rfl,hS',_⟩:=hL.out.1.reads (fun _=>rfl)
    exact⟨hS',hL.out.2.each⟩
   have hn32:rr.length≤32:=by omega
   have hVr:AllV rr:=fun v hv=>by
    have hm:v.l∈r.map (·.l):=by rw[←hE4.out];exact List.mem_map.2 ⟨v,hv,rfl⟩
    obtain⟨x,hx,e⟩:=List.mem_map.1 hm;rw[←e]
    exact VV.out x hx
   obtain⟨A',c',rfl,-,-⟩:=hL.out.1.reads (fun _=>rfl)
   simp only at RRR
   have c10:wr.cell? ⟨B,10,none⟩=some (.slice A' rr.length c'):=by simp[World.cell?,hG.out.1]
   have zBr:B<wr.heap.size:=(qaz hG.out.1).1
   have K31:=Lib.hid (KY.out A' c' rr wr RRR hn32 hVr);rw[hlen]at c10 K31
   have h4:¬ (4000:Int)<(r.length:Int):=by omega
   clear hlen hE3;have HE4:=Lib.hid hE4.out
   go_wp2_with fail
   go_at_call 31
   have h7:=K31.out;clear K31
   refine Calls.mono h7 ?_
   rintro e w6 ⟨A6,c6,ro,rfl,hR6,hm6,hx6⟩;have H6:=Lib.hid (And.intro hR6 hm6);clear hR6 hm6
   go_wp2_with fail
   go_ret2
   exact⟨A6,c6,ro,rfl,H6.out.1,by rw[H6.out.2,hE4.out],hX.out.1.trans hx6⟩
set_option maxHeartbeats 8000000
theorem eg_122:∀args w,(callFunc 122 args).run Tryz.prog w=.ok (.enter 122 args) w:=enters_of Tryz.func122 (by kernel_rfl) rfl
def obsC (e:EnvT)(o:EntryT)(A:Option Addr)(n c:Nat):List Value:=e.vals++o.vals++[.int .i64 0,.int .i64 0,.int .i64 0,.slice none 0 0,.slice A n c]
theorem obs_set40 (e:EnvT)(o:EntryT)(A:Option Addr)(n c:Nat):(obsL e o (0,0) 0 none 0 0).set 40 (.slice A n c)=obsC e o A n c:=by
 obtain⟨⟨version,x,y,tw,th,size,cA,cc,cells,bA,bc,beacons,lA,lc,lines⟩,⟨tv,start,slots,⟨r1,r2,r3,r4,r5,r6,r7,r8,r9⟩,fA,fc,flows⟩,rA,rc,rows,wA,wc,waters⟩:=e;obtain⟨seq,time,kind,sensor,ref,a,n,lo,hi,temp,age,since⟩:=o
 rfl
theorem obs_40 (e:EnvT)(o:EntryT):(obsL e o (0,0) 0 none 0 0)[40]?=some (.slice none 0 0):=by
 obtain⟨⟨version,x,y,tw,th,size,cA,cc,cells,bA,bc,beacons,lA,lc,lines⟩,⟨tv,start,slots,⟨r1,r2,r3,r4,r5,r6,r7,r8,r9⟩,fA,fc,flows⟩,rA,rc,rows,wA,wc,waters⟩:=e;obtain⟨seq,time,kind,sensor,ref,a,n,lo,hi,temp,age,since⟩:=o
 rfl
theorem obsC_at (e:EnvT)(o:EntryT)(A:Option Addr)(n c:Nat):(obsC e o A n c)[31]?=some (.int .i64 o.lo)∧(obsC e o A n c)[32]?=some (.int .i64 o.hi)∧(obsC e o A n c)[40]?=some (.slice A n c):=by
 obtain⟨⟨version,x,y,tw,th,size,cA,cc,cells,bA,bc,beacons,lA,lc,lines⟩,⟨tv,start,slots,⟨r1,r2,r3,r4,r5,r6,r7,r8,r9⟩,fA,fc,flows⟩,rA,rc,rows,wA,wc,waters⟩:=e;obtain⟨seq,time,kind,sensor,ref,a,n,lo,hi,temp,age,since⟩:=o
 exact⟨rfl,rfl,rfl⟩
theorem byEcho_55 (e:EnvT)(o:EntryT)(B:Nat)(A:Option Addr)(c:Nat)(r:List PV)(A5:Option Addr)(c5:Nat)(cs:List Int)(w:World)(H:e.Lies w)(hok:kfc e=true)(hh:kau (kbo e.tide (r.map (·.l)) o.time).1 (kbo e.tide (r.map (·.l)) o.time).2 (-2000) 2000=true)(hv:kau o.lo o.hi (-100000) 100000=true)(ht:0≤o.time∧o.time≤1000000000)
  (R:Rg w A r) (hr:r.length≤32) (h0:0<r.length) (hV:AllV r) (hC:Cells w B (obsC e o A5 cs.length c5)) (h5:Sl encI 1 w A5 cs) (hl5:cs.length≤1000000) (hup:kkw e.chart.cells.length cs) (hcov:∀i∈kfb e.chart (kbo e.tide (r.map (·.l)) o.time) (o.lo,o.hi) r,i∈cs) :
  Calls Tryz.prog 55 #[.pointer (some ⟨B,0,none⟩),.slice A r.length c] w fun x w'=>∃A' c' ro,x=.returned (.tuple #[.slice A' ro.length c',.int .i64 0])∧Rg w' A' ro∧ro.map (·.l)=kfz (r.map (·.l))∧Ext w w':=by
 have hoks:kao e.chart=true∧kbk e.tide=true:=by
  have h:=hok;simp only[kfc,qba]at h
  exact⟨h.1.1.1,h.1.1.2⟩
 have K63:=Lib.hid (fun W (h:Ext w W)=>height_63 e o [.int .i64 0,.int .i64 0,.int .i64 0,.slice none 0 0,.slice A5 cs.length c5] B A c r W (show Cells W B (e.vals++o.vals++[.int .i64 0,.int .i64 0,.int .i64 0,.slice none 0 0,.slice A5 cs.length c5]) from hC.ext h) hoks.2 ht (H.tide.ext h) (R.ext h) hr h0 hV)
 generalize kbo e.tide (r.map (·.l)) o.time=hR at hh K63 hcov ⊢
 have K122:=Lib.hid (fun W (h:Ext w W)=>echoCut_122 e.chart hR (o.lo,o.hi) A c r A5 c5 cs W (H.chart.ext h) hoks.1 hh hv (R.ext h) hr hV (h5.ext h) hl5 hup hcov)
 obtain⟨g1,g2⟩:=hR
 simp only at K122 K63
 obtain⟨m31,m32,m40⟩:=obsC_at e o A5 cs.length c5;have o7:=hC.2 31 _ m31;have o8:=hC.2 32 _ m32;have o9:=hC.2 40 _ m40
 have zB:B<w.heap.size:=hC.1
 obtain⟨d0,d1,d2,d3,d4,d5,d6,d7,d8,hd⟩:∃d0 d1 d2 d3 d4 d5 d6 d7 d8,e.chart.vals=[d0,d1,d2,d3,d4,d5,d6,d7,d8]:=⟨_,_,_,_,_,_,_,_,_,rfl⟩
 have hev:∀k v,e.chart.vals[k]?=some v→e.vals[k]?=some v:=fun k v h=>by
  have:e.vals=e.chart.vals++e.vals.drop 9:=rfl
  rw[this,List.getElem?_append_left (List.getElem?_eq_some_iff.1 h).1]
  exact h
 rw[hd]at K122 hev
 have q:=fun k v hv=>seen_env (e:=e) (o:=o) (rest:=[.int .i64 0,.int .i64 0,.int .i64 0,.slice none 0 0,.slice A5 cs.length c5]) (w:=w) (B:=B) hC (hev k v hv)
 have c0:=q 0 _ rfl;have c1:=q 1 _ rfl;have c2:=q 2 _ rfl;have c3:=q 3 _ rfl;have c4:=q 4 _ rfl;have c5':=q 5 _ rfl;have c6:=q 6 _ rfl;have c7:=q 7 _ rfl;have c8:=q 8 _ rfl;clear q hev hd m31 m32 m40 H hok hh hv ht R hr hV hoks hC h5 hl5 hup hcov;generalize kfz (r.map (·.l))=tl at *;generalize r.length=n at *;generalize cs.length=nc at *;clear h0
 go_enter Tryz.func55,Tryz.ntmps55
 go_wp2_with fail
 refine kca (C:=fun w'=>∃x:Xt w,w'=x.world) [0,1,2,3,4,5,6,7,9,10,11,12,13,14,15,16,17] 8 18 4 [_,_,_,_,_,_,_,_,_,_,_,_,_,_,_,_,_] rfl (by kernel_rfl) (by kernel_rfl) (Cx.of ((Ext.refl w).drew)) ?_
 simp only[List.drop_succ_cons,List.drop_zero]
 (repeat (first|go_big_quiet_step (fail)|quiet_step (fail)))
 refine wpQuiet_nil ?_
 refine kcj rfl rfl rfl eg_63 ?_
 simp only[List.map_toArray,List.map_cons,List.map_nil]
 have hD:Ext w w.drew:=(Ext.refl w).drew
 refine(K63.out _ hD).mono ?_
 rintro e w4 ⟨rfl,hx4⟩
 have hE4:Ext w w4:=hD.trans hx4
 refine⟨_,rfl,⟨⟨w4,hE4⟩,rfl⟩,?_⟩
 refine kcj rfl rfl rfl eg_122 ?_
 simp only[List.map_toArray,List.map_cons,List.map_nil]
 refine(K122.out _ hE4).mono ?_
 rintro e w5 ⟨A2,c2',ro,rfl,hS,hm,hx5⟩
 have hE5:Ext w w5:=hE4.trans hx5
 refine⟨_,rfl,⟨⟨w5,hE5⟩,rfl⟩,?_⟩
 have HZ:=Lib.hid (And.intro hS (And.intro hm hE5));clear hS hm
 (repeat (first|go_big_quiet_step (fail)|quiet_step (fail)))
 refine wpQuiet_nil ?_
 go_wp2_with fail
 go_ret2
 exact⟨A2,c2',ro,rfl,HZ.out.1,HZ.out.2.1,HZ.out.2.2⟩
theorem senseCut_18 (e:EnvT)(o:EntryT)(A:Option Addr)(c:Nat)(r:List PV)(A5:Option Addr)(c5:Nat)(cs:List Int)(w:World)(H:e.Lies w)(hok:kfc e=true)(hk:o.kind=2)(hf:kgn o=true)(hh:0<r.length→kau (kbo e.tide (r.map (·.l)) o.time).1 (kbo e.tide (r.map (·.l)) o.time).2 (-2000) 2000=true)(hv:kau o.lo o.hi (-100000) 100000=true)(ht:0≤o.time∧o.time≤1000000000)
  (R:Rg w A r) (hr:r.length≤32) (hV:AllV r) (h5:Sl encI 1 w A5 cs) (hA5:OkA A5 cs) (hl5:cs.length≤1000000) (hup:kkw e.chart.cells.length cs) (hcov:∀i∈kfb e.chart (kbo e.tide (r.map (·.l)) o.time) (o.lo,o.hi) r,i∈cs) :
  Calls Tryz.prog 18 #[.agg e.vals.toArray,.slice A r.length c,.agg o.vals.toArray,.slice A5 cs.length c5] w fun x w'=>∃A' c' ro,x=.returned (.tuple #[.slice A' ro.length c',.int .i64 0])∧Rg w' A' ro∧ro.map (·.l)=kfz (r.map (·.l))∧Ext w w':=by
 have K53:=Lib.hid (fun W (h:Ext w W)=>seen_53h e o A c r W (H.ext h) hok hk hf (R.ext h) hr hV)
 have K54:=Lib.hid (fun W (h:Ext w W)=>clone_54 A5 c5 cs W (h5.ext h) hA5 hl5)
 have K55:=Lib.hid (fun (h0:0<r.length) B A6 c6 W (h:Ext w W) hC h6=>byEcho_55 e o B A c r A6 c6 cs W (H.ext h) hok (hh h0) hv ht (R.ext h) hr h0 hV hC h6 hl5 hup hcov)
 have KS:=Lib.hid (fun A6 c6=>obs_set40 e o A6 cs.length c6)
 have hsz:=e.size;have hsz2:=o.size
 have ho2:o.vals.toArray[2]?=some (.int .i64 2):=by rw[←hk];rfl
 have he6:e.vals.toArray[6]?=some (.slice e.chart.cA e.chart.cells.length e.chart.cc):=rfl
 have hOl:(obsL e o (0,0) 0 none 0 0).length=41:=(obs_cells e o (0,0) 0 none 0 0).1
 have hO40:=obs_40 e o;generalize obsL e o (0,0) 0 none 0 0=OL at K53 KS hOl hO40
 have hO40:OL.toArray[40]?=some (.slice none 0 0):=by simpa using hO40
 have hO:∃OC:Option Addr→Nat→List Value,(fun A6 c6=>obsC e o A6 cs.length c6)=OC:=⟨_,rfl⟩
 obtain⟨OC,hOC⟩:=hO
 have hOC2:∀A6 c6,obsC e o A6 cs.length c6=OC A6 c6:=fun A6 c6=>congrFun (congrFun hOC A6) c6
 simp only[hOC2]at K55 KS;clear hOC hOC2;generalize e.vals.toArray=ev at *;generalize o.vals.toArray=ov at *
 have TN:Hid (r.length=0→kfz (r.map (·.l))=[]):=fun h=>by rw[List.eq_nil_of_length_eq_zero h];rfl
 generalize kfz (r.map (·.l))=tl at *;have KX:=Lib.hid (kbj w ev ov 37 40);have KL:=Lib.hid (kle.trans (congrArg some hsz.symm));have KM:=Lib.hid (knm.trans (congrArg some hsz2.symm));generalize e.chart.cells.length=nc at *;clear hsz hsz2 H hok hk hf hh hv ht R hr hV hcov;generalize r.length=n at *;have hmm:=@run_makeMap Tryz.prog
 go_enter Tryz.func18,Tryz.ntmps18
 go_wp2_with (first
  | (refine kak (by rfl) 37 _ rfl _ rfl 37 ev _ _ (KX.out _ xt).1 Tryz.underlying37 rfl KL.out ?_)
  | (refine kak (by rfl) 40 _ rfl _ rfl 40 ov _ _ (KX.out _ xt).2 Tryz.underlying40 rfl KM.out ?_)
  | (go_at_call 53;refine(K53.out _ xt).mono ?_;rintro e w1 ⟨B,rfl,hC,hB,hb1⟩;have HB:=Lib.hid hC;have HBz:=Lib.hid hB;clear hC hB;obtain⟨hc1,hf1,hz1⟩:=hb1.rules;(try simp only[qsa]at hz1);(have hzz1:w.heap.size<w1.heap.size:=by omega);(have hzy1:w.heap.size+1<w1.heap.size:=by omega)))
 have hE1:Ext w w1:=Ext.trans (((Ext.refl w).alloc _).alloc _) hb1
 have q6:w1.cell? ⟨w.heap.size,6,none⟩=some (.slice e.chart.cA nc e.chart.cc):=by
  have:=(KX.out w1 hb1).1
  simp[World.cell?,this,he6]
 go_loopg [12,13,27] cs.length (fun gg _ _ s27 wr=>∃kk:Nat,kk≤cs.length∧cs.length-kk≤gg∧s27=.int .i64 kk∧wr=w1)
 case atStart=>exact⟨0,Nat.zero_le _,by omega,rfl,rfl⟩
 case round=>
  obtain⟨kk,hkk,hg,rfl,rfl⟩:=hrel
  by_cases hlt:kk<cs.length
  ·obtain⟨b5,off5,rfl⟩:=h5.addr (by omega)
   obtain⟨y,hy⟩:∃y,cs[kk]?=some y:=⟨_,qgq hlt⟩
   have hb5:b5<wr.heap.size:=Nat.lt_of_lt_of_le (h5.blk (by omega)) hE1.len
   have cy:wr.cell? ⟨b5,off5+kk,none⟩=some (.int .i64 y):=by have:=(h5.ext hE1).at_ hy (i:=0) rfl;simpa using this
   have hltz:(kk:Int)<(cs.length:Int):=by omega
   obtain⟨y1,y2⟩:=hup.1 kk y hy
   have e1:decide (y<0)=false:=decide_eq_false (by omega)
   have e2:decide ((nc:Int)≤y)=false:=decide_eq_false (by omega)
   have n1:¬ y<0:=by omega
   have n2:¬ (nc:Int)≤y:=by omega
   rcases kk with _|k
   ·rw[Nat.add_zero]at cy
    go_wp2
    go_roundg (cs.length-1)
    case measure=>omega
    case rel=>exact⟨1,by omega,by omega,by go_num,rfl⟩
   ·obtain⟨z,hz⟩:∃z,cs[k]?=some z:=⟨_,qgq (by omega)⟩
    have hzy:=hup.2 k z y hz hy
    have cz:wr.cell? ⟨b5,off5+k,none⟩=some (.int .i64 z):=by have:=(h5.ext hE1).at_ hz (i:=0) rfl;simpa using this
    have e3:decide (y≤z)=false:=decide_eq_false (by omega)
    have n3:¬ y≤z:=by omega
    clear hy hz
    go_wp2
    go_roundg (cs.length-(k+1+1))
    case measure=>omega
    case rel=>exact⟨k+1+1,by omega,by omega,by go_num,rfl⟩
  have hltz:¬ (kk:Int)<(cs.length:Int):=by omega
  by_cases h0:n=0
  ·have h0z:(n:Int)=0:=by omega
   go_wp2
   go_ret2
   exact⟨none,0,[],rfl,⟨Sl.nil,fun v hv=>by cases hv⟩,by rw[TN.out h0];rfl,hE1⟩
  have h0z:¬ (n:Int)=0:=by omega
  have hBB:=HBz.out;simp only[qsa]at hBB;clear q6
  go_wp2_with (go_at_call 54;refine(K54.out _ hE1).mono ?_;rintro e w3 ⟨A6,c6,rfl,h6,hA6,hx3⟩;have gB3:=kaf hx3 HB.out;have c40:w3.cell? ⟨B,40,none⟩=some (.slice none 0 0):=(by simp[World.cell?,gB3,hO40]);have f40:w3.frozen? ⟨B,40,none⟩=false:=(by simp[World.frozen?,gB3]);have z3:B<w3.heap.size:=(qaz gB3).1)
  have hE3:Ext w w3:=hE1.trans hx3
  have hC5:Cells (w3.setCell ⟨B,40,none⟩ (.slice A6 cs.length c6)) B (OC A6 c6):=by
   have:=(Cells.of_heap gB3).set (k:=40) (by omega) (.slice A6 cs.length c6)
   rwa [KS.out]at this
  have hE5:Ext w (w3.setCell ⟨B,40,none⟩ (.slice A6 cs.length c6)):=hE3.setCell (p:=⟨B,40,none⟩) (by simp only;omega) _
  have hE2:Ext ((w.alloc (.cells ev 37)).alloc (.cells ov 40)) (w3.setCell ⟨B,40,none⟩ (.slice A6 cs.length c6)):=(hb1.trans hx3).setCell (p:=⟨B,40,none⟩) (by simp only[qsa];omega) _
  have h65:Sl encI 1 (w3.setCell ⟨B,40,none⟩ (.slice A6 cs.length c6)) A6 cs:=by
   rcases hA6 with rfl|⟨g,rfl,hg⟩
   ·exact fun hl=>by obtain⟨_,_,e,_⟩:=h6 hl;cases e
   ·exact h6.set_other (p:=⟨B,40,none⟩) (by have:=(qaz HB.out).1;simp only;omega) _
  have HQ:=Lib.hid (And.intro hC5 (And.intro hE5 (And.intro hE2 h65)));clear hC5 hE5 hE2 h65 gB3 c40 f40 z3 hA6 h6;have hz5:=World.size_setCell w3 ⟨B,40,none⟩ (.slice A6 cs.length c6);generalize w3.setCell ⟨B,40,none⟩ (.slice A6 cs.length c6)=w5 at HQ hz5 ⊢;generalize w3.heap.size=q3 at *
  obtain⟨u1,p1,g1,x1⟩:=khl (P:=Tryz.prog) (mty:=96) (w0:=w5) (w:=w5.alloc (.map #[] 0)) (r:=q3) (k:=.int .i64 2) (.func (.func 55) #[.pointer (some ⟨B,0,none⟩)] #[]) Tryz.underlying96 Tryz.underlying3 rfl ((Ext.refl _).alloc _) (Nat.le_of_eq hz5) (by rw[←hz5];exact qan w5 _) rfl
  obtain⟨u2,p2,g2,x2⟩:=khl (P:=Tryz.prog) (mty:=96) (k:=.int .i64 3) (.func (.func 56) #[.pointer (some ⟨B,0,none⟩)] #[]) Tryz.underlying96 Tryz.underlying3 rfl x1 (Nat.le_of_eq hz5) g1 rfl;obtain⟨u3,p3,g3,x3⟩:=khl (P:=Tryz.prog) (mty:=96) (k:=.int .i64 4) (.func (.func 57) #[.pointer (some ⟨B,0,none⟩)] #[]) Tryz.underlying96 Tryz.underlying3 rfl x2 (Nat.le_of_eq hz5) g2 rfl;obtain⟨u4,p4,g4,x4⟩:=khl (P:=Tryz.prog) (mty:=96) (k:=.int .i64 5) (.func (.func 58) #[.pointer (some ⟨B,0,none⟩)] #[]) Tryz.underlying96 Tryz.underlying3 rfl x3 (Nat.le_of_eq hz5) g3 rfl;obtain⟨u5,p5,g5,x5⟩:=khl (P:=Tryz.prog) (mty:=96) (k:=.int .i64 6) (.func (.func 59) #[.pointer (some ⟨B,0,none⟩)] #[]) Tryz.underlying96 Tryz.underlying3 rfl x4 (Nat.le_of_eq hz5) g4 rfl;obtain⟨u6,p6,g6,x6⟩:=khl (P:=Tryz.prog) (mty:=96) (k:=.int .i64 7) (.func (.func 31) #[] #[]) Tryz.underlying96 Tryz.underlying3 rfl x5 (Nat.le_of_eq hz5) g5 rfl;have hlk:=run_mapFind (P:=Tryz.prog) (mty:=96) (k:=.int .i64 2) (i:=0) (val:=.func (.func 55) #[.pointer (some ⟨B,0,none⟩)] #[]) Tryz.underlying96 Tryz.underlying3 rfl g6 rfl;have ko:=(KX.out u6 (HQ.out.2.2.1.trans x6)).2
  have o2:u6.cell? ⟨w.heap.size+1,2,none⟩=some (.int .i64 2):=by simp[World.cell?,ko,ho2]
  have y2:=(qaz ko).1
  have K:=Lib.hid (K55.out (by omega) B A6 c6 u6 (HQ.out.2.1.trans x6) (HQ.out.1.ext x6) (HQ.out.2.2.2.ext x6))
  have hE6:Hid (Ext w u6):=HQ.out.2.1.trans x6
  clear hz5 g1 g2 g3 g4 g5 g6 x1 x2 x3 x4 x5 x6 ko K55;rw[p1]
  go_wp2_with fail
  have h7:=K.out;clear K
  refine Calls.mono h7 ?_
  rintro e w9 ⟨A8,c8,ro,rfl,hR8,hm8,hx8⟩;have H8:=Lib.hid (And.intro hR8 hm8);clear hR8 hm8
  go_wp2_with fail
  go_ret2
  exact⟨A8,c8,ro,rfl,H8.out.1,H8.out.2,hE6.out.trans hx8⟩
theorem cut_all (e:EnvT)(o:EntryT)(A:Option Addr)(c:Nat)(r:List PV)(A5:Option Addr)(c5:Nat)(cs:List Int)(w:World)(H:e.Lies w)(hok:kfc e=true)(hk:o.kind=2)(hS:o.Seen)(R:Rg w A r)(hr:r.length≤32)(hV:AllV r)
  (h5:Sl encI 1 w A5 cs) (hA5:OkA A5 cs) (hl5:cs.length≤1000000) (hup:kkw e.chart.cells.length cs) (hcov:∀i∈kfb e.chart (kbo e.tide (r.map (·.l)) o.time) (o.lo,o.hi) r,i∈cs) :
  Calls Tryz.prog 18 #[.agg e.vals.toArray,.slice A r.length c,.agg o.vals.toArray,.slice A5 cs.length c5] w fun x w'=>∃A' c' ro,x=.returned (.tuple #[.slice A' ro.length c',.int .i64 0])∧Rg w' A' ro∧ro.map (·.l)=kfz (r.map (·.l))∧Ext w w':=by
 obtain⟨h1,h2,h3⟩:=seen_parts hS hk
 exact senseCut_18 e o A c r A5 c5 cs w H hok hk h1 (fun h0=>heightR_in (envOk_tide hok) _ _ h0 hV) h3 h2 R hr hV h5 hA5 hl5 hup hcov
end Go.Proofs.YtcgghcicnanliaaGreatDoor
