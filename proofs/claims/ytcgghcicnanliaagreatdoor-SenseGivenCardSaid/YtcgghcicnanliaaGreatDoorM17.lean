/- Walks: tide.of, tide.At. Conditions: an edition of currents that is right. -/
import Derived.Test.YtcgghcicnanliaaGreatDoorM13
set_option linter.unusedVariables false
set_option linter.unusedSimpArgs false
namespace Go.Proofs.YtcgghcicnanliaaGreatDoor
open Go.RowKit
set_option maxHeartbeats 8000000
set_option maxRecDepth 100000
def ofF (t:TideT)(x y slot:Int):FlowT:=
 let k:FlowT:=⟨x,y,slot,0,0,0,0,0,0⟩
 let f:=if bsHit t.flows k then (t.flows[bsF t.flows k]?).getD t.rest else t.rest
 ⟨0,0,0,f.ulo,f.uhi,f.vlo,f.vhi,f.hlo,f.hhi⟩
theorem bsHit_some {l:List FlowT}{k:FlowT}(h:bsHit l k=true):∃f,l[bsF l k]?=some f:=by
 unfold bsHit at h
 cases e:l[bsF l k]? with
 | none=>rw[e]at h;cases h
 | some f=>exact⟨f,rfl⟩
theorem of_175 (t:TideT)(x y slot:Int)(w:World)(hl:t.flows.length≤1000000)(hS:Sl FlowT.vals 9 w t.A t.flows) :
  Calls Tryz.prog 175 #[.agg t.vals.toArray,.int .i64 x,.int .i64 y,.int .i64 slot] w fun e w'=>e=.returned (.agg (ofF t x y slot).vals.toArray)∧Ext w w':=by
 have K:=Lib.hid (fun k1 k2 k3 k4 k5 k6 k7 k8 k9 W (hx:Ext w W)=>bsearch_260 t.A t.c t.flows ⟨k1,k2,k3,k4,k5,k6,k7,k8,k9⟩ W hl (hS.ext hx))
 obtain⟨version,start,slots,⟨r1,r2,r3,r4,r5,r6,r7,r8,r9⟩,A,c,flows⟩:=t
 cases hh:bsHit flows ⟨x,y,slot,0,0,0,0,0,0⟩ with
 | false=>
  have hO:Hid (ofF ⟨version,start,slots,⟨r1,r2,r3,r4,r5,r6,r7,r8,r9⟩,A,c,flows⟩ x y slot=⟨0,0,0,r4,r5,r6,r7,r8,r9⟩):=by simp[Hid,ofF,hh]
  have hh':=hh;simp only[TideT.vals,FlowT.vals,List.cons_append,List.nil_append]at *;rw[hO.out]
  simp only
  clear hO hh
  go_enter Tryz.func175,Tryz.ntmps175
  go_upto_region 3 with fail
  go_cut [11,12] from 11 (fun s11 s12 wx=>s12=.bool false∧Ext ((((w.alloc (.cells #[.int .i64 version,.int .i64 start,.int .i64 slots,.int .i64 r1,.int .i64 r2,.int .i64 r3,.int .i64 r4,.int .i64 r5,.int .i64 r6,.int .i64 r7,.int .i64 r8,.int .i64 r9,.slice A flows.length c] 33)).alloc (.cells #[.int .i64 0,.int .i64 0,.int .i64 0,.int .i64 0,.int .i64 0,.int .i64 0,.int .i64 0,.int .i64 0,.int .i64 0] 30)).alloc (.cells #[.int .i64 x,.int .i64 y,.int .i64 slot,.int .i64 0,.int .i64 0,.int .i64 0,.int .i64 0,.int .i64 0,.int .i64 0] 30)).alloc (.cells #[.int .i64 r1,.int .i64 r2,.int .i64 r3,.int .i64 r4,.int .i64 r5,.int .i64 r6,.int .i64 r7,.int .i64 r8,.int .i64 r9] 30)) wx)
  case first=>
   go_wp2_with (go_at_call 260;refine(K.out _ _ _ _ _ _ _ _ _ _ xt).mono ?_;rintro e w1 ⟨rfl,hres,hb1⟩)
   go_meet
   exact⟨by rw[←hh'],hb1⟩
  case rest=>
   obtain⟨rfl,hb1⟩:=hcut
   have hEw:Ext w wc:=((((Ext.refl w).alloc _).alloc _).alloc _).alloc _ |>.trans hb1
   have hU:wc.heap[w.heap.size+1+1+1]?=some (.cells #[.int .i64 r1,.int .i64 r2,.int .i64 r3,.int .i64 r4,.int .i64 r5,.int .i64 r6,.int .i64 r7,.int .i64 r8,.int .i64 r9] 30):=by
    refine(hb1.block _ (by simp only[qsa];omega)).trans ?_
    have:=kbs (((w.alloc (.cells #[.int .i64 version,.int .i64 start,.int .i64 slots,.int .i64 r1,.int .i64 r2,.int .i64 r3,.int .i64 r4,.int .i64 r5,.int .i64 r6,.int .i64 r7,.int .i64 r8,.int .i64 r9,.slice A flows.length c] 33)).alloc (.cells #[.int .i64 0,.int .i64 0,.int .i64 0,.int .i64 0,.int .i64 0,.int .i64 0,.int .i64 0,.int .i64 0,.int .i64 0] 30)).alloc (.cells #[.int .i64 x,.int .i64 y,.int .i64 slot,.int .i64 0,.int .i64 0,.int .i64 0,.int .i64 0,.int .i64 0,.int .i64 0] 30)) (.cells #[.int .i64 r1,.int .i64 r2,.int .i64 r3,.int .i64 r4,.int .i64 r5,.int .i64 r6,.int .i64 r7,.int .i64 r8,.int .i64 r9] 30)
    simpa only[qsa]using this
   have hT:wc.heap[w.heap.size+1]?=some (.cells #[.int .i64 0,.int .i64 0,.int .i64 0,.int .i64 0,.int .i64 0,.int .i64 0,.int .i64 0,.int .i64 0,.int .i64 0] 30):=by
    refine(hb1.block _ (by simp only[qsa];omega)).trans ?_
    rw[Below.heap_alloc _ _ _ (by simp only[qsa];omega),Below.heap_alloc _ _ _ (by simp only[qsa];omega)]
    have:=kbs (w.alloc (.cells #[.int .i64 version,.int .i64 start,.int .i64 slots,.int .i64 r1,.int .i64 r2,.int .i64 r3,.int .i64 r4,.int .i64 r5,.int .i64 r6,.int .i64 r7,.int .i64 r8,.int .i64 r9,.slice A flows.length c] 33)) (.cells #[.int .i64 0,.int .i64 0,.int .i64 0,.int .i64 0,.int .i64 0,.int .i64 0,.int .i64 0,.int .i64 0,.int .i64 0] 30)
    simpa only[qsa]using this
   clear hb1
   have U:∀j,wc.cell? ⟨w.heap.size+1+1+1,j,none⟩=(#[.int .i64 r1,.int .i64 r2,.int .i64 r3,.int .i64 r4,.int .i64 r5,.int .i64 r6,.int .i64 r7,.int .i64 r8,.int .i64 r9]:Array Value)[j]?:=fun j=>by simp[World.cell?,hU]
   have FU:∀j,wc.frozen? ⟨w.heap.size+1+1+1,j,none⟩=false:=fun j=>by simp[World.frozen?,hU]
   have HT:=Lib.hid hT;clear hU hT
   go_wp2_with (refine wpList_store_row rfl 30 _ _ rfl (w.heap.size+1) #[.int .i64 0,.int .i64 0,.int .i64 0,.int .i64 r4,.int .i64 r5,.int .i64 r6,.int .i64 r7,.int .i64 r8,.int .i64 r9] rfl rfl 30 _ ((Below.heap_setCell _ _ _ _ (by simp only;omega)).trans ((Below.heap_setCell _ _ _ _ (by simp only;omega)).trans ((Below.heap_setCell _ _ _ _ (by simp only;omega)).trans HT.out))) (by kernel_rfl) rfl (by kernel_rfl) ?_)
   have hcs:=fun j=>cell_setRow_same (((wc.setCell ⟨w.heap.size+1+1+1,0,none⟩ (.int .i64 0)).setCell ⟨w.heap.size+1+1+1,1,none⟩ (.int .i64 0)).setCell ⟨w.heap.size+1+1+1,2,none⟩ (.int .i64 0)) (w.heap.size+1) j _ #[.int .i64 0,.int .i64 0,.int .i64 0,.int .i64 r4,.int .i64 r5,.int .i64 r6,.int .i64 r7,.int .i64 r8,.int .i64 r9] 30 (0,0) ((Below.heap_setCell _ _ _ _ (by simp only;omega)).trans ((Below.heap_setCell _ _ _ _ (by simp only;omega)).trans ((Below.heap_setCell _ _ _ _ (by simp only;omega)).trans HT.out)))
   refine bodyPost_ret (by simp[results,Tryz.f175,go_sem,hcs];rfl) rfl ?_
   exact⟨rfl,(((hEw.setCell (by simp only;omega) _).setCell (by simp only;omega) _).setCell (by simp only;omega) _).setRow (by omega) _⟩
 | true=>
  obtain⟨f,hf⟩:=bsHit_some hh
  have hO:Hid (ofF ⟨version,start,slots,⟨r1,r2,r3,r4,r5,r6,r7,r8,r9⟩,A,c,flows⟩ x y slot=⟨0,0,0,f.ulo,f.uhi,f.vlo,f.vhi,f.hlo,f.hhi⟩):=by simp[Hid,ofF,hh,hf]
  have hlt:bsF flows ⟨x,y,slot,0,0,0,0,0,0⟩<flows.length:=(List.getElem?_eq_some_iff.1 hf).1
  obtain⟨b,off,rfl⟩:∃b off,A=some ⟨b,off,none⟩:=hS.addr (by show 0<flows.length;omega)
  have hh':=hh;simp only[TideT.vals,FlowT.vals,List.cons_append,List.nil_append]at *;generalize hres0:bsF flows ⟨x,y,slot,0,0,0,0,0,0⟩=res at hlt hf;rw[hO.out];obtain⟨y1,y2,y3,y4,y5,y6,y7,y8,y9⟩:=f
  simp only
  clear hO hh
  have hltz:(res:Int)<(flows.length:Int):=by omega
  go_enter Tryz.func175,Tryz.ntmps175
  go_upto_region 3 with fail
  go_cut [11,12] from 11 (fun s11 s12 wx=>s11=.int .i64 res∧s12=.bool true∧Ext ((((w.alloc (.cells #[.int .i64 version,.int .i64 start,.int .i64 slots,.int .i64 r1,.int .i64 r2,.int .i64 r3,.int .i64 r4,.int .i64 r5,.int .i64 r6,.int .i64 r7,.int .i64 r8,.int .i64 r9,.slice (some ⟨b,off,none⟩) flows.length c] 33)).alloc (.cells #[.int .i64 0,.int .i64 0,.int .i64 0,.int .i64 0,.int .i64 0,.int .i64 0,.int .i64 0,.int .i64 0,.int .i64 0] 30)).alloc (.cells #[.int .i64 x,.int .i64 y,.int .i64 slot,.int .i64 0,.int .i64 0,.int .i64 0,.int .i64 0,.int .i64 0,.int .i64 0] 30)).alloc (.cells #[.int .i64 r1,.int .i64 r2,.int .i64 r3,.int .i64 r4,.int .i64 r5,.int .i64 r6,.int .i64 r7,.int .i64 r8,.int .i64 r9] 30)) wx)
  case first=>
   go_wp2_with (go_at_call 260;refine(K.out _ _ _ _ _ _ _ _ _ _ xt).mono ?_;rintro e w1 ⟨rfl,hres,hb1⟩)
   go_meet
   exact⟨by rw[←hres0],by rw[←hh'],hb1⟩
  case rest=>
   obtain⟨rfl,rfl,hb1⟩:=hcut
   have hEw:Ext w wc:=((((Ext.refl w).alloc _).alloc _).alloc _).alloc _ |>.trans hb1
   have hU:wc.heap[w.heap.size+1+1+1]?=some (.cells #[.int .i64 r1,.int .i64 r2,.int .i64 r3,.int .i64 r4,.int .i64 r5,.int .i64 r6,.int .i64 r7,.int .i64 r8,.int .i64 r9] 30):=by
    refine(hb1.block _ (by simp only[qsa];omega)).trans ?_
    have:=kbs (((w.alloc (.cells #[.int .i64 version,.int .i64 start,.int .i64 slots,.int .i64 r1,.int .i64 r2,.int .i64 r3,.int .i64 r4,.int .i64 r5,.int .i64 r6,.int .i64 r7,.int .i64 r8,.int .i64 r9,.slice (some ⟨b,off,none⟩) flows.length c] 33)).alloc (.cells #[.int .i64 0,.int .i64 0,.int .i64 0,.int .i64 0,.int .i64 0,.int .i64 0,.int .i64 0,.int .i64 0,.int .i64 0] 30)).alloc (.cells #[.int .i64 x,.int .i64 y,.int .i64 slot,.int .i64 0,.int .i64 0,.int .i64 0,.int .i64 0,.int .i64 0,.int .i64 0] 30)) (.cells #[.int .i64 r1,.int .i64 r2,.int .i64 r3,.int .i64 r4,.int .i64 r5,.int .i64 r6,.int .i64 r7,.int .i64 r8,.int .i64 r9] 30)
    simpa only[qsa]using this
   have hT:wc.heap[w.heap.size+1]?=some (.cells #[.int .i64 0,.int .i64 0,.int .i64 0,.int .i64 0,.int .i64 0,.int .i64 0,.int .i64 0,.int .i64 0,.int .i64 0] 30):=by
    refine(hb1.block _ (by simp only[qsa];omega)).trans ?_
    rw[Below.heap_alloc _ _ _ (by simp only[qsa];omega),Below.heap_alloc _ _ _ (by simp only[qsa];omega)]
    have:=kbs (w.alloc (.cells #[.int .i64 version,.int .i64 start,.int .i64 slots,.int .i64 r1,.int .i64 r2,.int .i64 r3,.int .i64 r4,.int .i64 r5,.int .i64 r6,.int .i64 r7,.int .i64 r8,.int .i64 r9,.slice (some ⟨b,off,none⟩) flows.length c] 33)) (.cells #[.int .i64 0,.int .i64 0,.int .i64 0,.int .i64 0,.int .i64 0,.int .i64 0,.int .i64 0,.int .i64 0,.int .i64 0] 30)
    simpa only[qsa]using this
   have hV:wc.cell? ⟨w.heap.size,12,none⟩=some (.slice (some ⟨b,off,none⟩) flows.length c):=by
    have hbk:wc.heap[w.heap.size]?=some (.cells #[.int .i64 version,.int .i64 start,.int .i64 slots,.int .i64 r1,.int .i64 r2,.int .i64 r3,.int .i64 r4,.int .i64 r5,.int .i64 r6,.int .i64 r7,.int .i64 r8,.int .i64 r9,.slice (some ⟨b,off,none⟩) flows.length c] 33):=by
     refine(hb1.block _ (by simp only[qsa];omega)).trans ?_
     rw[Below.heap_alloc _ _ _ (by simp only[qsa];omega),Below.heap_alloc _ _ _ (by simp only[qsa];omega),Below.heap_alloc _ _ _ (by simp only[qsa];omega)]
     exact kbs w _
    simp[World.cell?,hbk]
   clear hb1
   have hbw:b<wc.heap.size:=by have:=hS.blk (by show 0<flows.length;omega);have:=hEw.len;omega
   have HU:=Lib.hid hU;have HT:=Lib.hid hT;clear hU hT
   have c0:wc.cell? ⟨b,off+res*9,none⟩=some (.int .i64 y1):=by have:=(hS.ext hEw).at_ hf (i:=0) rfl;simpa using this
   have c1:wc.cell? ⟨b,off+res*9+1,none⟩=some (.int .i64 y2):=by have:=(hS.ext hEw).at_ hf (i:=1) rfl;simpa using this
   have c2:wc.cell? ⟨b,off+res*9+2,none⟩=some (.int .i64 y3):=by have:=(hS.ext hEw).at_ hf (i:=2) rfl;simpa using this
   have c3:wc.cell? ⟨b,off+res*9+3,none⟩=some (.int .i64 y4):=by have:=(hS.ext hEw).at_ hf (i:=3) rfl;simpa using this
   have c4:wc.cell? ⟨b,off+res*9+4,none⟩=some (.int .i64 y5):=by have:=(hS.ext hEw).at_ hf (i:=4) rfl;simpa using this
   have c5:wc.cell? ⟨b,off+res*9+5,none⟩=some (.int .i64 y6):=by have:=(hS.ext hEw).at_ hf (i:=5) rfl;simpa using this
   have c6:wc.cell? ⟨b,off+res*9+6,none⟩=some (.int .i64 y7):=by have:=(hS.ext hEw).at_ hf (i:=6) rfl;simpa using this
   have c7:wc.cell? ⟨b,off+res*9+7,none⟩=some (.int .i64 y8):=by have:=(hS.ext hEw).at_ hf (i:=7) rfl;simpa using this
   have c8:wc.cell? ⟨b,off+res*9+8,none⟩=some (.int .i64 y9):=by have:=(hS.ext hEw).at_ hf (i:=8) rfl;simpa using this
   go_upto_region 6 with (refine wpList_store_row rfl 30 _ _ rfl (w.heap.size+1+1+1) #[.int .i64 y1,.int .i64 y2,.int .i64 y3,.int .i64 y4,.int .i64 y5,.int .i64 y6,.int .i64 y7,.int .i64 y8,.int .i64 y9] rfl rfl 30 _ HU.out (by kernel_rfl) rfl (by kernel_rfl) ?_)
   have hEd:=hEw.setRow (g:=w.heap.size+1+1+1) (by omega) #[.int .i64 y1,.int .i64 y2,.int .i64 y3,.int .i64 y4,.int .i64 y5,.int .i64 y6,.int .i64 y7,.int .i64 y8,.int .i64 y9]
   have hU2:=setRow_heap wc (w.heap.size+1+1+1) _ #[.int .i64 y1,.int .i64 y2,.int .i64 y3,.int .i64 y4,.int .i64 y5,.int .i64 y6,.int .i64 y7,.int .i64 y8,.int .i64 y9] 30 (0,0) HU.out
   have hT2:=(setRow_other wc (w.heap.size+1+1+1) (w.heap.size+1) #[.int .i64 y1,.int .i64 y2,.int .i64 y3,.int .i64 y4,.int .i64 y5,.int .i64 y6,.int .i64 y7,.int .i64 y8,.int .i64 y9] (by omega)).trans HT.out
   generalize wc.setRow (w.heap.size+1+1+1) #[.int .i64 y1,.int .i64 y2,.int .i64 y3,.int .i64 y4,.int .i64 y5,.int .i64 y6,.int .i64 y7,.int .i64 y8,.int .i64 y9]=wd at hEd hU2 hT2 ⊢;clear c0 c1 c2 c3 c4 c5 c6 c7 c8 HU HT hbw hEw
   have U:∀j,wd.cell? ⟨w.heap.size+1+1+1,j,none⟩=(#[.int .i64 y1,.int .i64 y2,.int .i64 y3,.int .i64 y4,.int .i64 y5,.int .i64 y6,.int .i64 y7,.int .i64 y8,.int .i64 y9]:Array Value)[j]?:=fun j=>by simp[World.cell?,hU2]
   have FU:∀j,wd.frozen? ⟨w.heap.size+1+1+1,j,none⟩=false:=fun j=>by simp[World.frozen?,hU2]
   have HT2:=Lib.hid hT2;clear hU2 hT2
   go_wp2_with (refine wpList_store_row rfl 30 _ _ rfl (w.heap.size+1) #[.int .i64 0,.int .i64 0,.int .i64 0,.int .i64 y4,.int .i64 y5,.int .i64 y6,.int .i64 y7,.int .i64 y8,.int .i64 y9] rfl rfl 30 _ ((Below.heap_setCell _ _ _ _ (by simp only;omega)).trans ((Below.heap_setCell _ _ _ _ (by simp only;omega)).trans ((Below.heap_setCell _ _ _ _ (by simp only;omega)).trans HT2.out))) (by kernel_rfl) rfl (by kernel_rfl) ?_)
   have hcs:=fun j=>cell_setRow_same (((wd.setCell ⟨w.heap.size+1+1+1,0,none⟩ (.int .i64 0)).setCell ⟨w.heap.size+1+1+1,1,none⟩ (.int .i64 0)).setCell ⟨w.heap.size+1+1+1,2,none⟩ (.int .i64 0)) (w.heap.size+1) j _ #[.int .i64 0,.int .i64 0,.int .i64 0,.int .i64 y4,.int .i64 y5,.int .i64 y6,.int .i64 y7,.int .i64 y8,.int .i64 y9] 30 (0,0) ((Below.heap_setCell _ _ _ _ (by simp only;omega)).trans ((Below.heap_setCell _ _ _ _ (by simp only;omega)).trans ((Below.heap_setCell _ _ _ _ (by simp only;omega)).trans HT2.out)))
   refine bodyPost_ret (by simp[results,Tryz.f175,go_sem,hcs];rfl) rfl ?_
   exact⟨rfl,(((hEd.setCell (by simp only;omega) _).setCell (by simp only;omega) _).setCell (by simp only;omega) _).setRow (by omega) _⟩
end Go.Proofs.YtcgghcicnanliaaGreatDoor
