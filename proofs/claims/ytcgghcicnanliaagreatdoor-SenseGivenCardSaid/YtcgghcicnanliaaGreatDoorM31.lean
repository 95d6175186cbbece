/- Walks: hull.Box. Conditions: places. -/
import Derived.Test.YtcgghcicnanliaaGreatDoorM29
import Derived.BigRegion
set_option linter.unusedVariables false
set_option linter.unusedSimpArgs false
namespace Go.Proofs.YtcgghcicnanliaaGreatDoor
open Go.RowKit Go.Lib
set_option maxHeartbeats 4000000
set_option maxRecDepth 100000
def kbb (l:List Pt):Pt:=(loL (fun x=>x.1) l l.length,loL (fun x=>x.2) l l.length)
def kbc (l:List Pt):Pt:=(hiL (fun x=>x.1) l l.length,hiL (fun x=>x.2) l l.length)
def boxV (l:List Pt):Value:=if kas l then .tuple #[.agg #[.int .i64 (kbb l).1,.int .i64 (kbb l).2],.agg #[.int .i64 (kbc l).1,.int .i64 (kbc l).2],.int .i64 0]
 else .tuple #[.agg #[.int .i64 0,.int .i64 0],.agg #[.int .i64 0,.int .i64 0],.int .i64 1]
theorem khm (A:Option Addr)(c:Nat)(l:List Pt)(w:World)(hS:Sl encP 2 w A l)(hp:∀x∈l,plB x=true) :
  Calls Tryz.prog 73 #[.slice A l.length c] w fun e w'=>e=.returned (boxV l)∧Ext w w':=by
 have K1:=Lib.hid (fun W (hx:Ext w W)=>kba A c l W (hS.ext hx) hp)
 have KX:=Lib.hid (fun W (hx:Ext ((w.alloc (.cells #[.int .i64 0,.int .i64 0] 43)).alloc (.cells #[.int .i64 0,.int .i64 0] 43)) W)=>kbj w #[.int .i64 0,.int .i64 0] #[.int .i64 0,.int .i64 0] 43 43 W hx)
 have hv:Hid (kas l=true→0<l.length∧l.length≤64):=fun h=>by
  simp only[kas,qba,decide_eq_true_eq]at h;omega
 unfold boxV
 cases hvb:kas l with
 | false=>
  rw[hvb]at K1;clear hv hvb;simp only[Bool.false_eq_true,if_false]
  go_enter Tryz.func73,Tryz.ntmps73
  go_wp2_with (go_at_call 146;refine(K1.out _ xt).mono ?_;rintro e w1 ⟨rfl,hx1⟩)
  obtain⟨b2,b3⟩:=KX.out _ hx1;obtain⟨c20,c21,f20,f21⟩:=kae b2;obtain⟨c30,c31,f30,f31⟩:=kae b3
  go_region
  refine kbd (G:=fun W=>Exit.then _ _ _ _ W) (fun V=>Ext w V∧V.heap[w.heap.size]?=some (.cells #[.int .i64 0,.int .i64 0] 43)∧V.heap[w.heap.size+1]?=some (.cells #[.int .i64 0,.int .i64 0] 43)) ?_ ?_
  rotate_left
  ·exact⟨xt,kah (kah (kbu (kbv b2 _) _) (by omega) _) (by omega) _,kbu (kbv (kah (kah b3 (by omega) _) (by omega) _) _) _⟩
  rintro V ⟨hV,v2,v3⟩;obtain⟨g20,g21,_,_⟩:=kae v2;obtain⟨g30,g31,_,_⟩:=kae v3
  go_wp2
  (try simp only[Exit.inBlock,Exit.then])
  refine bodyPost_ret (by first|(simp[results,Tryz.f73,go_sem,g20,g21,g30,g31];rfl)|(simp[results,Tryz.f73,go_sem,g20,g21,g30,g31];done)) rfl ?_
  exact⟨rfl,hV⟩
 | true=>
  obtain⟨hl0,hl64⟩:=hv.out hvb;rw[hvb]at K1
  have K2:=Lib.hid (fun W (hx:Ext w W)=>kly 149 eg_149 (fun x=>x.1) A c l W hl0 (by omega) (hS.ext hx) (fun W' x _ _=>box1_149 x W'))
  have K3:=Lib.hid (fun W (hx:Ext w W)=>kly 150 eg_150 (fun x=>x.2) A c l W hl0 (by omega) (hS.ext hx) (fun W' x _ _=>box2_150 x W'))
  simp only[if_true,kbb,kbc]
  generalize loL (fun x=>x.1) l l.length=lx at K2 ⊢
  generalize hiL (fun x=>x.1) l l.length=hx at K2 ⊢
  generalize loL (fun x=>x.2) l l.length=ly at K3 ⊢
  generalize hiL (fun x=>x.2) l l.length=hy at K3 ⊢
  clear hv hvb hS
  go_enter Tryz.func73,Tryz.ntmps73
  go_wp2_with (go_at_call 146;refine(K1.out _ xt).mono ?_;rintro e w1 ⟨rfl,hx1⟩;obtain⟨b2,b3⟩:=KX.out _ hx1)
  go_at_call 148
  refine(K2.out w1 ((((Ext.refl w).alloc _).alloc _).trans hx1)).mono ?_
  rintro e w2 ⟨rfl,hx2⟩
  have hE2:Ext w w2:=((((Ext.refl w).alloc _).alloc _).trans hx1).trans hx2
  have d2:=(hx2.block _ (qaz b2).1).trans b2;have d3:=(hx2.block _ (qaz b3).1).trans b3;obtain⟨c20,c21,f20,f21⟩:=kae d2;obtain⟨c30,c31,f30,f31⟩:=kae d3
  go_wp2_with fail
  go_at_call 148
  refine(K3.out _ xt).mono ?_
  rintro e w3 ⟨rfl,hx3⟩
  have hE3:Ext w w3:=Ext.trans xt hx3
  have hz2:=hE2.len
  have e2:=(hx3.block _ (by simp only[World.size_setCell];exact(qaz d2).1)).trans (kah (kbv d2 (.int .i64 lx)) (C:=w.heap.size+1) (i:=0) (by omega) (.int .i64 hx))
  have e3:=(hx3.block _ (by simp only[World.size_setCell];exact(qaz d3).1)).trans (kbv (kah d3 (C:=w.heap.size) (i:=0) (by omega) (.int .i64 lx)) (.int .i64 hx))
  obtain⟨q20,q21,r20,r21⟩:=kae e2;obtain⟨q30,q31,r30,r31⟩:=kae e3;clear c20 c21 f20 f21 c30 c31 f30 f31 hx3
  go_wp2_with fail
  refine kbd (G:=fun W=>Code.wp _ _ _ _ W) (fun V=>Ext w V∧V.heap[w.heap.size]?=some (.cells #[.int .i64 lx,.int .i64 ly] 43)∧V.heap[w.heap.size+1]?=some (.cells #[.int .i64 hx,.int .i64 hy] 43)) ?_ ?_
  rotate_left
  ·exact⟨xt,kah (kbu e2 _) (by omega) _,kbu (kah e3 (by omega) _) _⟩
  rintro V ⟨hV,v2,v3⟩;obtain⟨g20,g21,k20,k21⟩:=kae v2;obtain⟨g30,g31,k30,k31⟩:=kae v3
  go_region
  refine kbd (G:=fun W=>Exit.then _ _ _ _ W) (fun U=>Ext w U∧U.heap[w.heap.size]?=some (.cells #[.int .i64 lx,.int .i64 ly] 43)∧U.heap[w.heap.size+1]?=some (.cells #[.int .i64 hx,.int .i64 hy] 43)) ?_ ?_
  rotate_left
  ·exact⟨xt,kah (kah (kbu (kbv v2 _) _) (by omega) _) (by omega) _,kbu (kbv (kah (kah v3 (by omega) _) (by omega) _) _) _⟩
  rintro U ⟨hU,u2,u3⟩;obtain⟨o20,o21,_,_⟩:=kae u2;obtain⟨o30,o31,_,_⟩:=kae u3
  go_wp2
  (try simp only[Exit.inBlock,Exit.then])
  refine bodyPost_ret (by first|(simp[results,Tryz.f73,go_sem,o20,o21,o30,o31];rfl)|(simp[results,Tryz.f73,go_sem,o20,o21,o30,o31];done)) rfl ?_
  exact⟨rfl,hU⟩
end Go.Proofs.YtcgghcicnanliaaGreatDoor
