/- Walks: the limits of an entry (sense.limits.isWithin). Conditions: none. -/
import Derived.Test.YtcgghcicnanliaaGreatDoorM08
set_option linter.unusedVariables false
set_option linter.unusedSimpArgs false
namespace Go.Proofs.YtcgghcicnanliaaGreatDoor
open Go.RowKit
set_option maxHeartbeats 4000000
set_option maxRecDepth 100000
structure LimT where
 l0:Int
 h0:Int
 l1:Int
 h1:Int
 l2:Int
 h2:Int
 l3:Int
 h3:Int
 l4:Int
 h4:Int
 l5:Int
 h5:Int
 l6:Int
 h6:Int
 l7:Int
 h7:Int
 l8:Int
 h8:Int
def LimT.vals (m:LimT):List Value:=[.int .i64 m.l0,.int .i64 m.h0,.int .i64 m.l1,.int .i64 m.h1,.int .i64 m.l2,.int .i64 m.h2,.int .i64 m.l3,.int .i64 m.h3,.int .i64 m.l4,.int .i64 m.h4,.int .i64 m.l5,.int .i64 m.h5,.int .i64 m.l6,.int .i64 m.h6,.int .i64 m.l7,.int .i64 m.h7,.int .i64 m.l8,.int .i64 m.h8]
def khr (k:Int):LimT:=
 if k=1 then ⟨0,0,0,0,0,63,0,100000,0,100000,0,100000,-1000,1000,0,10000,0,1000000000⟩
 else if k=2 then ⟨1,8,0,0,0,0,0,0,-100000,100000,-100000,100000,0,0,0,0,0,0⟩
 else if k=3∨k=6∨k=7 then ⟨1,8,1,1000000,0,0,0,0,0,100000,0,100000,0,0,0,0,0,0⟩
 else if k=4 then ⟨1,8,1,1000000,0,63,0,31,0,0,0,0,0,0,0,0,0,0⟩
 else if k=5 then ⟨1,8,1,1000000,0,0,0,0,0,0,0,100000,0,0,0,0,0,0⟩
 else ⟨0,0,0,0,0,0,0,0,0,0,0,0,0,0,0,0,0,0⟩
def kindOk (k:Int):Bool:=inB k 1 7
def kel (m:LimT)(n0 n1 n2 n3 n4 n5 n6 n7 n8:Int):Bool:=inB n0 m.l0 m.h0&&inB n1 m.l1 m.h1&&inB n2 m.l2 m.h2&&inB n3 m.l3 m.h3&&inB n4 m.l4 m.h4&&inB n5 m.l5 m.h5&&inB n6 m.l6 m.h6&&inB n7 m.l7 m.h7&&inB n8 m.l8 m.h8
def LimT.prs (m:LimT):List Pt:=[(m.l0,m.h0),(m.l1,m.h1),(m.l2,m.h2),(m.l3,m.h3),(m.l4,m.h4),(m.l5,m.h5),(m.l6,m.h6),(m.l7,m.h7),(m.l8,m.h8)]
theorem index_117 (m:LimT)(j:Nat)(p:Pt)(h:m.prs[j]?=some p)(W:World):(Instr.index 117 (.agg m.vals.toArray) (.int .i64 j)).run Tryz.prog W=.ok (.agg #[.int .i64 p.1,.int .i64 p.2]) W:=by
 obtain⟨l0,h0,l1,h1,l2,h2,l3,h3,l4,h4,l5,h5,l6,h6,l7,h7,l8,h8⟩:=m
 have hj:j<9:=by have:=(List.getElem?_eq_some_iff.1 h).1;simpa[LimT.prs]using this
 have D:j=0∨j=1∨j=2∨j=3∨j=4∨j=5∨j=6∨j=7∨j=8:=by omega
 rcases D with rfl|rfl|rfl|rfl|rfl|rfl|rfl|rfl|rfl<;>(simp only[LimT.prs,List.getElem?_cons_zero,List.getElem?_cons_succ,Option.some.injEq]at h;subst h;rfl)
theorem cell_121 (w:World)(n0 n1 n2 n3 n4 n5 n6 n7 n8:Int)(B j:Nat)(x:Int)(h:[n0,n1,n2,n3,n4,n5,n6,n7,n8][j]?=some x)
  (hB:w.heap[B]?=some (.cells #[.int .i64 n0,.int .i64 n1,.int .i64 n2,.int .i64 n3,.int .i64 n4,.int .i64 n5,.int .i64 n6,.int .i64 n7,.int .i64 n8] 121)):w.cell? ⟨B,j,none⟩=some (.int .i64 x):=by
 have hj:j<9:=by have:=(List.getElem?_eq_some_iff.1 h).1;simpa using this
 have D:j=0∨j=1∨j=2∨j=3∨j=4∨j=5∨j=6∨j=7∨j=8:=by omega
 rcases D with rfl|rfl|rfl|rfl|rfl|rfl|rfl|rfl|rfl<;>(simp only[List.getElem?_cons_zero,List.getElem?_cons_succ,Option.some.injEq]at h;subst h;simp[World.cell?,hB])
theorem isWithin_75 (m:LimT)(n0 n1 n2 n3 n4 n5 n6 n7 n8:Int)(w:World) :
  Calls Tryz.prog 75 #[.agg m.vals.toArray,.agg #[.int .i64 n0,.int .i64 n1,.int .i64 n2,.int .i64 n3,.int .i64 n4,.int .i64 n5,.int .i64 n6,.int .i64 n7,.int .i64 n8]] w fun e w'=>e=.returned (.bool (kel m n0 n1 n2 n3 n4 n5 n6 n7 n8))∧Ext w w':=by
 obtain⟨ps,hps⟩:∃ps,ps=m.prs:=⟨_,rfl⟩;obtain⟨ns,hns⟩:∃ns,ns=[n0,n1,n2,n3,n4,n5,n6,n7,n8]:=⟨_,rfl⟩
 have hpl:ps.length=9:=by rw[hps];rfl
 have hnl:ns.length=9:=by rw[hns];rfl
 have I:=Lib.hid (fun j p (h:ps[j]?=some p) W=>index_117 m j p (by rw[←hps];exact h) W)
 have C:=Lib.hid (fun W B j x (h:ns[j]?=some x) hB=>cell_121 W n0 n1 n2 n3 n4 n5 n6 n7 n8 B j x (by rw[←hns];exact h) hB)
 have hF:Hid (∀(j:Nat) (p:Pt) (x:Int),ps[j]?=some p→ns[j]?=some x→¬ (p.1≤x∧x≤p.2)→kel m n0 n1 n2 n3 n4 n5 n6 n7 n8=false):=by
  intro j p x hp hx hn;subst hps hns
  have hj:j<9:=by have:=(List.getElem?_eq_some_iff.1 hx).1;simpa using this
  have D:j=0∨j=1∨j=2∨j=3∨j=4∨j=5∨j=6∨j=7∨j=8:=by omega
  rw[Bool.eq_false_iff];intro hw;simp only[kel,inB,qba,decide_eq_true_eq]at hw
  rcases D with rfl|rfl|rfl|rfl|rfl|rfl|rfl|rfl|rfl<;>(simp only[LimT.prs,List.getElem?_cons_zero,List.getElem?_cons_succ,Option.some.injEq]at hp hx;subst hp hx;simp only at hn;omega)
 have hT:Hid ((∀(j:Nat) (p:Pt) (x:Int),j<9→ps[j]?=some p→ns[j]?=some x→p.1≤x∧x≤p.2)→kel m n0 n1 n2 n3 n4 n5 n6 n7 n8=true):=by
  intro h;subst hps hns;simp only[kel,inB,qba,decide_eq_true_eq]
  have g:=fun j hj p x h1 h2=>h j p x hj h1 h2
  refine⟨⟨⟨⟨⟨⟨⟨⟨?_,?_⟩,?_⟩,?_⟩,?_⟩,?_⟩,?_⟩,?_⟩,?_⟩
  ·exact g 0 (by omega) _ _ rfl rfl
  ·exact g 1 (by omega) _ _ rfl rfl
  ·exact g 2 (by omega) _ _ rfl rfl
  ·exact g 3 (by omega) _ _ rfl rfl
  ·exact g 4 (by omega) _ _ rfl rfl
  ·exact g 5 (by omega) _ _ rfl rfl
  ·exact g 6 (by omega) _ _ rfl rfl
  ·exact g 7 (by omega) _ _ rfl rfl
  ·exact g 8 (by omega) _ _ rfl rfl
 generalize hR:kel m n0 n1 n2 n3 n4 n5 n6 n7 n8=R at hF hT;clear hps hns hR;obtain⟨l0,h0,l1,h1,l2,h2,l3,h3,l4,h4,l5,h5,l6,h6,l7,h7,l8,h8⟩:=m;simp only[LimT.vals]at *
 go_enter Tryz.func75,Tryz.ntmps75
 go_wp2
 go_loopg [8] 9 (fun gg s8 wr=>∃kk:Nat,kk≤9∧9-kk≤gg∧s8=.int .i64 kk∧Hid (Ext ((w.alloc (.cells #[.int .i64 l0,.int .i64 h0,.int .i64 l1,.int .i64 h1,.int .i64 l2,.int .i64 h2,.int .i64 l3,.int .i64 h3,.int .i64 l4,.int .i64 h4,.int .i64 l5,.int .i64 h5,.int .i64 l6,.int .i64 h6,.int .i64 l7,.int .i64 h7,.int .i64 l8,.int .i64 h8] 117)).alloc (.cells #[.int .i64 n0,.int .i64 n1,.int .i64 n2,.int .i64 n3,.int .i64 n4,.int .i64 n5,.int .i64 n6,.int .i64 n7,.int .i64 n8] 121)) wr)∧Hid (∀(j:Nat) (p:Pt) (x:Int),j<kk→ps[j]?=some p→ns[j]?=some x→p.1≤x∧x≤p.2))
 case atStart=>exact⟨0,by omega,by omega,rfl,Ext.refl _,fun j p x hj=>absurd hj (Nat.not_lt_zero _)⟩
 case round=>
  obtain⟨kk,hkk,hg,rfl,hx,H⟩:=hrel
  have hwr:Hid (Ext w wr):=Ext.trans (((Ext.refl w).alloc _).alloc _) hx.out
  have hz:=hx.out.len;simp only[qsa]at hz
  by_cases hlt:kk<9
  ·obtain⟨p,hp⟩:∃p,ps[kk]?=some p:=⟨_,qgq (by omega)⟩
   obtain⟨x,hxx⟩:∃x,ns[kk]?=some x:=⟨_,qgq (by omega)⟩
   have i0:=fun W=>I.out kk p hp W
   have hltz:(kk:Int)<9:=by omega
   have hb:wr.heap[w.heap.size+1]?=some (.cells #[.int .i64 n0,.int .i64 n1,.int .i64 n2,.int .i64 n3,.int .i64 n4,.int .i64 n5,.int .i64 n6,.int .i64 n7,.int .i64 n8] 121):=by
    refine(hx.out.block _ (by simp)).trans ?_
    have:=kbs (w.alloc (.cells #[.int .i64 l0,.int .i64 h0,.int .i64 l1,.int .i64 h1,.int .i64 l2,.int .i64 h2,.int .i64 l3,.int .i64 h3,.int .i64 l4,.int .i64 h4,.int .i64 l5,.int .i64 h5,.int .i64 l6,.int .i64 h6,.int .i64 l7,.int .i64 h7,.int .i64 l8,.int .i64 h8] 117)) (.cells #[.int .i64 n0,.int .i64 n1,.int .i64 n2,.int .i64 n3,.int .i64 n4,.int .i64 n5,.int .i64 n6,.int .i64 n7,.int .i64 n8] 121)
    simpa only[qsa]using this
   have c0:=C.out wr _ kk x hxx hb;have HB:=Lib.hid hb;have hP:=Lib.hid hp;have hX:=Lib.hid hxx;obtain⟨lo,hi⟩:=p
   simp only at i0
   clear hp hxx hb
   have hE:Ext wr (wr.alloc (.cells #[.int .i64 lo,.int .i64 hi] 115)):=(Ext.refl wr).alloc _
   have c1:=hE.seen (by omega) c0
   have r0:(wr.alloc (.cells #[.int .i64 lo,.int .i64 hi] 115)).cell? ⟨wr.heap.size,0,none⟩=some (.int .i64 lo):=by simp
   have r1:(wr.alloc (.cells #[.int .i64 lo,.int .i64 hi] 115)).cell? ⟨wr.heap.size,1,none⟩=some (.int .i64 hi):=by simp
   have s1:w.heap.size+1<(wr.alloc (.cells #[.int .i64 lo,.int .i64 hi] 115)).heap.size:=by simp only[qsa];omega
   have s2:wr.heap.size<(wr.alloc (.cells #[.int .i64 lo,.int .i64 hi] 115)).heap.size:=by simp only[qsa];omega
   by_cases a0:x<lo
   ·have d0:decide (x<lo)=true:=decide_eq_true a0
    go_wp2
    generalize wr.alloc (.cells #[.int .i64 lo,.int .i64 hi] 115)=W2 at hE c1 r0 r1 s1 s2 ⊢
    (refine kad (by kernel_rfl) (by kernel_rfl) ?_;(repeat (first|go_big_quiet_step (fail)|quiet_step (fail)));refine wpQuiet_nil ?_;rintro _ ⟨xq,rfl⟩;have hx2:=xq.ext;generalize xq.world=w2 at hx2 ⊢)
    go_wp2
    (go_ret;exact⟨retb (hF.out kk _ _ hP.out hX.out (by simp only;omega)).symm,hwr.out.trans (hE.trans hx2)⟩)
   ·have d0:decide (x<lo)=false:=decide_eq_false a0
    by_cases a1:hi<x
    ·have d1:decide (hi<x)=true:=decide_eq_true a1
     have d2:decide (x > hi)=true:=decide_eq_true a1
     go_wp2
     generalize wr.alloc (.cells #[.int .i64 lo,.int .i64 hi] 115)=W2 at hE c1 r0 r1 s1 s2 ⊢
     (refine kad (by kernel_rfl) (by kernel_rfl) ?_;(repeat (first|go_big_quiet_step (fail)|quiet_step (fail)));refine wpQuiet_nil ?_;rintro _ ⟨xq,rfl⟩;have hx2:=xq.ext;generalize xq.world=w2 at hx2 ⊢)
     go_wp2
     (go_ret;exact⟨retb (hF.out kk _ _ hP.out hX.out (by simp only;omega)).symm,hwr.out.trans (hE.trans hx2)⟩)
    ·have d1:decide (hi<x)=false:=decide_eq_false a1
     have d2:decide (x > hi)=false:=decide_eq_false a1
     go_wp2
     generalize wr.alloc (.cells #[.int .i64 lo,.int .i64 hi] 115)=W2 at hE c1 r0 r1 s1 s2 ⊢
     (refine kad (by kernel_rfl) (by kernel_rfl) ?_;(repeat (first|go_big_quiet_step (fail)|quiet_step (fail)));refine wpQuiet_nil ?_;rintro _ ⟨xq,rfl⟩;have hx2:=xq.ext;generalize xq.world=w2 at hx2 ⊢)
     go_wp2
     go_roundg (9-(kk+1))
     case measure=>omega
     case rel=>
      refine⟨kk+1,by omega,by omega,by go_num,Ext.trans hx.out (hE.trans hx2),?_⟩
      intro j p y hj hp hy
      by_cases e:j=kk
      ·subst e
       rw[hP.out]at hp;rw[hX.out]at hy;cases hp;cases hy
       exact⟨a0,a1⟩
      ·exact H.out j p y (by omega) hp hy
  ·have e9:kk=9:=by omega
   subst e9
   go_wp2
   (go_ret;exact⟨retb (hT.out H.out).symm,hwr.out⟩)
end Go.Proofs.YtcgghcicnanliaaGreatDoor
