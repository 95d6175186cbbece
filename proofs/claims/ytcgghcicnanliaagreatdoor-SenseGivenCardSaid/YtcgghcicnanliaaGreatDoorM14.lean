/- Rows of places that a call owns; Walks: slices.Compact at []Point; Walks: (*hull.chain).push; Walks: the references of layers 12, 13, 17: Valid. Conditions: as each statement says. -/
import Derived.Test.YtcgghcicnanliaaGreatDoorM13
import Derived.Lib.SlicesCompact
import Derived.Lib.SliceRun
import Derived.Lib.OwnBridge
import Derived.Deep.Draws
import Derived.Maps.AppendAt
set_option linter.unusedVariables false
set_option linter.unusedSimpArgs false
namespace Go.Proofs.YtcgghcicnanliaaGreatDoor
open Go.RowKit Go.Sort
set_option maxHeartbeats 2000000
set_option maxRecDepth 100000
def Pr (B:Nat)(w:World)(g cap:Nat)(l:List Pt):Prop:=w.ownsRow B 43 2 (.slice (some ⟨g,0,none⟩) l.length cap) l.length (l.flatMap encP)
theorem kby (l:List Pt):(l.flatMap encP).length=l.length*2:=by
 induction l with
 | nil=>rfl
 | cons x l ih=>rw[List.flatMap_cons,List.length_append,ih];simp[encP];omega
theorem rowsP (l:List Pt)(j i:Nat)(x:Pt)(v:Value)(h:l[j]?=some x)(hi:(encP x)[i]?=some v):(l.flatMap encP)[j*2+i]?=some v:=getElem?_rows (enc:=encP) (k:=2) (fun _=>rfl) l j i x v h hi
theorem flat_at (l:List Pt){j:Nat}{x:Pt}(h:l[j]?=some x):(l.flatMap encP)[j*2]?=some (.int .i64 x.1)∧(l.flatMap encP)[j*2+1]?=some (.int .i64 x.2):=
 ⟨by have:=rowsP l j 0 x (.int .i64 x.1) h rfl;simpa using this,rowsP l j 1 x (.int .i64 x.2) h rfl⟩
theorem Pr.blk {B:Nat}{w:World}{g cap:Nat}{l:List Pt}(h:Pr B w g cap l):B≤g∧g<w.heap.size∧l.length≤cap∧cap≤maxLen∧∃cur,w.heap[g]?=some (.cells cur 43 (0,0))∧cur.size=cap*2∧cur.toList.take (l.length*2)=l.flatMap encP:=by
 obtain⟨_,⟨e0,_⟩|⟨g',cap',cur,e0,hb,hg,hn,hm,hs,ht⟩⟩:=h
 ·cases e0
 ·injection e0 with e1 _ e3
  injection e1 with e1
  injection e1 with e1
  subst e1;subst e3
  exact⟨hb,(qaz hg).1,hn,hm,cur,hg,hs,ht⟩
theorem Pr.mk {B:Nat}{w:World}{g cap:Nat}{l:List Pt}{cur:Array Value}(h1:B≤g)(h2:l.length≤cap)(h3:cap≤maxLen)(h4:w.heap[g]?=some (.cells cur 43 (0,0)))(h5:cur.size=cap*2)(h6:cur.toList.take (l.length*2)=l.flatMap encP):Pr B w g cap l:=
 ⟨kby l,.inr ⟨g,cap,cur,rfl,h1,h4,h2,h3,h5,h6⟩⟩
theorem Pr.cells {B:Nat}{w:World}{g cap:Nat}{l:List Pt}(h:Pr B w g cap l){j:Nat}(hj:j<l.length*2):w.cell? ⟨g,j,none⟩=(l.flatMap encP)[j]?∧w.frozen? ⟨g,j,none⟩=false:=by
 obtain⟨_,_,_,_,cur,hg,hs,ht⟩:=h.blk
 refine⟨?_,by simp[World.frozen?,hg]⟩
 rw[←ht,List.getElem?_take,if_pos hj]
 simp[World.cell?,hg]
theorem Pr.at_ {B:Nat}{w:World}{g cap:Nat}{l:List Pt}(h:Pr B w g cap l){j:Nat}{x:Pt}(hj:l[j]?=some x) :
  (w.cell? ⟨g,j*2,none⟩=some (.int .i64 x.1)∧w.cell? ⟨g,j*2+1,none⟩=some (.int .i64 x.2))∧w.frozen? ⟨g,j*2,none⟩=false∧w.frozen? ⟨g,j*2+1,none⟩=false:=by
 have hl:j<l.length:=(List.getElem?_eq_some_iff.1 hj).1
 have ⟨a,b⟩:=flat_at l hj
 have ⟨c,d⟩:=h.cells (j:=j*2) (by omega)
 have ⟨e,f⟩:=h.cells (j:=j*2+1) (by omega)
 exact⟨⟨c.trans a,e.trans b⟩,d,f⟩
theorem Pr.sl {B:Nat}{w:World}{g cap:Nat}{l:List Pt}(h:Pr B w g cap l):Sl encP 2 w (some ⟨g,0,none⟩) l:=fun _=>
 ⟨g,0,rfl,h.blk.2.1,fun j x i v hj hi=>by
  have hl:j<l.length:=(List.getElem?_eq_some_iff.1 hj).1
  have hi2:i<2:=(List.getElem?_eq_some_iff.1 hi).1
  rw[Nat.zero_add,(h.cells (by omega)).1]
  exact rowsP l j i x v hj hi⟩
theorem Pr.take {B:Nat}{w:World}{g cap:Nat}{l:List Pt}(h:Pr B w g cap l)(k:Nat):Pr B w g cap (l.take k):=by
 obtain⟨h1,_,h3,h4,cur,hg,hs,ht⟩:=h.blk
 refine Pr.mk h1 (by simp;omega) h4 hg hs ?_
 have e:∀(l:List Pt) (k:Nat),(l.take k).flatMap encP=(l.flatMap encP).take (k*2):=by
  intro l
  induction l with
  | nil=>intro k;simp
  | cons x l ih=>
   intro k
   cases k with
   | zero=>simp
   | succ k=>
    rw[List.take_succ_cons,List.flatMap_cons,ih,List.flatMap_cons,show (k+1)*2=(encP x).length+k*2 by simp only[encP,List.length_cons,List.length_nil];omega,List.take_length_add_append]
 rw[e,←ht,List.take_take]
 congr 1
 simp
theorem kaf {w w':World}{g:Nat}{o:Obj}(h:Ext w w')(hg:w.heap[g]?=some o):w'.heap[g]?=some o:=(h.block g (qaz hg).1).trans hg
theorem Pr.ext {B:Nat}{w w':World}{g cap:Nat}{l:List Pt}(h:Pr B w g cap l)(hx:Ext w w'):Pr B w' g cap l:=by
 obtain⟨h1,_,h3,h4,cur,hg,hs,ht⟩:=h.blk
 exact Pr.mk h1 h3 h4 (kaf hx hg) hs ht
theorem set_flat (l:List Pt):∀(j:Nat) (x:Pt),j<l.length→((l.flatMap encP).set (j*2) (.int .i64 x.1)).set (j*2+1) (.int .i64 x.2)=(l.set j x).flatMap encP:=by
 induction l with
 | nil=>intro j x h;simp at h
 | cons y l ih=>
  intro j x h
  cases j with
  | zero=>rfl
  | succ j=>
   rw[List.set_cons_succ,List.flatMap_cons,List.flatMap_cons,←ih j x (by simpa using h)]
   show ((Value.int .i64 y.1::Value.int .i64 y.2::l.flatMap encP).set ((j+1)*2) _).set ((j+1)*2+1) _=_
   rw[show (j+1)*2=j*2+1+1 by omega]
   rfl
theorem Pr.set {B:Nat}{w:World}{g cap:Nat}{l:List Pt}(h:Pr B w g cap l){j:Nat}(hj:j<l.length)(x:Pt):Pr B ((w.setCell ⟨g,j*2,none⟩ (.int .i64 x.1)).setCell ⟨g,j*2+1,none⟩ (.int .i64 x.2)) g cap (l.set j x):=by
 obtain⟨h1,_,h3,h4,cur,hg,hs,ht⟩:=h.blk
 refine Pr.mk (cur:=(cur.setIfInBounds (j*2) (.int .i64 x.1)).setIfInBounds (j*2+1) (.int .i64 x.2)) h1 (by simpa using h3) h4 ?_ (by simpa using hs) ?_
 ·rw[setCell_eq,setCell_eq,mapBlock_mapBlock]
  simp[mapBlock,Array.getElem?_modify,hg,onCells]
 ·rw[List.length_set,←set_flat l j x hj,←ht]
  simp[List.take_set]
theorem Pr.setCell_out {B:Nat}{w:World}{g cap:Nat}{l:List Pt}(h:Pr B w g cap l){i:Nat}(hi:l.length*2≤i)(v:Value):Pr B (w.setCell ⟨g,i,none⟩ v) g cap l:=by
 obtain⟨h1,_,h3,h4,cur,hg,hs,ht⟩:=h.blk
 refine Pr.mk (cur:=cur.setIfInBounds i v) h1 h3 h4 ?_ (by simpa using hs) ?_
 ·rw[setCell_eq];simp[mapBlock,Array.getElem?_modify,hg,onCells]
 ·rw[←ht,Array.toList_setIfInBounds,List.take_set,List.set_eq_of_length_le (by simp;omega)]
theorem Pr.setCells_out {B g cap:Nat}{l:List Pt}:∀(vs:List Value) (w:World) (i:Nat),Pr B w g cap l→l.length*2≤i→Pr B (w.setCells g i vs) g cap l
 | [],_,_,h,_=>h
 | v::vs,w,i,h,hi=>Pr.setCells_out vs _ (i+1) (h.setCell_out hi v) (by omega)
theorem khy {B g:Nat}(hg:B≤g){w0:World}:∀(vs:List Value) (w:World) (i:Nat),Below B w0 w→Below B w0 (w.setCells g i vs)
 | [],_,_,h=>h
 | v::vs,w,i,h=>khy hg vs _ (i+1) (h.setCell (p:=⟨g,i,none⟩) hg v)
theorem Pr.holds {B:Nat}{w:World}{g cap:Nat}{l:List Pt}(h:Pr B w g cap l):HoldsK encP 2 w g 0 l.toArray:=by
 intro t ht
 have ht':t<l.length*2:=by simpa using ht
 have ⟨a,b⟩:=h.cells ht'
 rw[Nat.zero_add]
 refine⟨a.trans ?_,b⟩
 obtain⟨x,hx⟩:∃x,l[t / 2]?=some x:=⟨_,qgq (by omega)⟩
 have e:(l.flatMap encP)[t / 2*2+t % 2]?=some ((encP x)[t % 2]!):=rowsP l (t / 2) (t % 2) x _ hx (by
  have h2:t % 2<(encP x).length:=by simp only[encP,List.length_cons,List.length_nil];omega
  rw[getElem!_pos (encP x) (t % 2) h2];exact qgq h2)
 rw[show t / 2*2+t % 2=t by omega]at e
 rw[e,get_flatK _ _ _ _ (by simpa using ht')]
 simp only[id]
 congr 3
 have:l[t / 2]! = x:=by rw[getElem!_def,hx]
 simpa using this.symm
theorem flatK_list (l:List Pt):(flatK encP 2 l.toArray)=(l.flatMap encP).toArray:=by
 refine ext_get! (by rw[size_flatK,List.size_toArray,List.size_toArray,kby]) fun t ht=>?_
 have ht':t<l.length*2:=by simpa using ht
 obtain⟨x,hx⟩:∃x,l[t / 2]?=some x:=⟨_,qgq (by omega)⟩
 have e:(l.flatMap encP)[t / 2*2+t % 2]?=some ((encP x)[t % 2]!):=rowsP l (t / 2) (t % 2) x _ hx (by
  have h2:t % 2<(encP x).length:=by simp only[encP,List.length_cons,List.length_nil];omega
  rw[getElem!_pos (encP x) (t % 2) h2];exact qgq h2)
 rw[show t / 2*2+t % 2=t by omega]at e
 rw[get_flatK _ _ _ _ (by simpa using ht')]
 have e2:l[t / 2]! = x:=by rw[getElem!_def,hx]
 have e3:(l.flatMap encP).toArray[t]! = (encP x)[t % 2]!:=by rw[getElem!_def];simp[e]
 rw[e3,show l.toArray[t / 2]! = x by simpa using e2]
theorem Pr.sorted {B:Nat}{w:World}{g cap n:Nat}{l l':List Pt}{os:Array Obj}(h:Pr B w g cap l)(hl:l'.length=l.length):Pr B (sortWorldK encP 2 w g 0 n l'.toArray os) g cap l'∧Below B w (sortWorldK encP 2 w g 0 n l'.toArray os):=by
 obtain⟨h1,h2,h3,h4,cur,hg,hs,ht⟩:=h.blk
 have e:(sortWorldK encP 2 w g 0 n l'.toArray os).heap=(w.heap.modify g (onCells (putCells id 0 (l'.flatMap encP).toArray)))++os:=by
  rw[sortWorldK,putRowK,flatK_list];rfl
 constructor
 ·refine Pr.mk (cur:=putCells id 0 (l'.flatMap encP).toArray cur) h1 (by omega) h4 ?_ (by simpa[putCells]using hs) ?_
  ·rw[e,Array.getElem?_append_left (by simpa using h2)]
   simp[Array.getElem?_modify,hg,onCells]
  ·apply List.ext_getElem?
   intro j;rw[List.getElem?_take]
   by_cases hj:j<l'.length*2
   ·have hjc:j<cur.size:=by omega
    rw[if_pos hj,Array.getElem?_toList,putCells,Array.getElem?_mapIdx,Array.getElem?_eq_getElem hjc,Option.map_some]
    rw[if_pos (by rw[List.size_toArray,kby];omega)]
    rw[qgq (by rw[kby];exact hj)]
    simp[qgq (show j<(l'.flatMap encP).length by rw[kby];exact hj)]
   ·rw[if_neg hj,List.getElem?_eq_none (by rw[kby];omega)]
 ·refine⟨rfl,rfl,rfl,?_,fun k hk=>?_⟩
  ·rw[e];simp
  ·rw[e,Array.getElem?_append_left (by simp;omega),Array.getElem?_modify,if_neg (by omega)]
theorem ltP (x y:Pt):ltOf cmpP x y=(decide (x.1<y.1)||(decide (x.1=y.1)&&decide (x.2<y.2))):=by
 unfold ltOf cmpP;simp only[orI,cmpI]
 by_cases h1:x.1<y.1
 ·simp[h1]
 ·by_cases h2:y.1<x.1
  ·have h3:¬ x.1=y.1:=by omega
   simp[h1,h2,h3]
  ·have h3:x.1=y.1:=by omega
   by_cases h4:x.2<y.2
   ·simp[h3,h4]
   ·by_cases h5:y.2<x.2<;>simp[h3,h4,h5]
theorem swoP:SWO (ltOf cmpP) where
 irrefl x:=by rw[ltP];simp
 trans x y z h1 h2:=by rw[ltP]at *;simp at *;omega
 ntrans x y z h1 h2:=by rw[ltP]at *;simp at *;omega
theorem totP (x y:Pt)(h1:ltOf cmpP x y=false)(h2:ltOf cmpP y x=false):x=y:=by
 rw[ltP]at *;simp at *
 refine Prod.ext ?_ ?_<;>omega
def srt (l:List Pt):List Pt:=l.mergeSort fun x y=>!(ltOf cmpP) y x
theorem eg_334:∀args w,(callFunc 334 args).run Tryz.prog w=.ok (.enter 334 args) w:=enters_of Tryz.func334 (by kernel_rfl) rfl
theorem sortFunc_333 {B g cap:Nat}{l:List Pt}{w:World}(h:Pr B w g cap l)(hl:l.length≤1000000) :
  Calls Tryz.prog 333 #[.slice (some ⟨g,0,none⟩) l.length cap,.func (.func 334) #[] #[]] w fun e w'=>e=.returned (.tuple #[])∧Pr B w' g cap (srt l)∧Below B w w':=by
 have hcon:=AnyQ.slices_SortFunc_total Tryz.sortPt 2 Tryz.isAgg43 Tryz.sizeOf43 encP (fun _=>rfl) (fun x v hv=>by simp[encP]at hv;rcases hv with rfl|rfl<;>rfl) cmpP swoP 334 #[] g 0 cap l.toArray w eg_334
  (fun m os dk _ x y=>around1_334 x y _) h.holds h.blk.2.1 (by simp;omega) totP
 change Calls Tryz.prog 333 _ _ _ at hcon
 rw[List.size_toArray]at hcon
 refine hcon.mono ?_
 rintro e w' ⟨rfl,n,os,rfl⟩
 exact⟨rfl,h.sorted (by simp[srt])⟩
theorem kha:(Tryz.prog.info? 43).map (fun i=>(i.zero,i.size,i.bytes))=some (some (.agg #[.int .i64 0,.int .i64 0]),2,16):=by kernel_rfl
theorem khf (A:Option Addr)(c:Nat)(l:List Pt)(w:World)(hS:Sl encP 2 w A l)(h0:0<l.length)(hl:l.length≤1000000) :
  Calls Tryz.prog 156 #[.slice A l.length c] w fun e w'=>∃g cap,e=.returned (.slice (some ⟨g,0,none⟩) l.length cap)∧Pr w.heap.size w' g cap l∧Ext w w':=by
 obtain⟨b,off,rfl⟩:=hS.addr h0;obtain⟨i0,hi,hz0,hz1,hz2⟩:=info_parts kha
 have hcon:=AnyE.slices_Clone Tryz.clonePt i0 _ 2 16 hi hz0 hz1 hz2 rfl (by omega) Tryz.sizeOf43 b off l.length c (l.flatMap encP) w (kby l) (by simp[maxLen];omega) (by omega)
  (fun t u hu=>by
   have ht:t<l.length*2:=by have:=(List.getElem?_eq_some_iff.1 hu).1;rwa [kby]at this
   obtain⟨x,hx⟩:∃x,l[t / 2]?=some x:=⟨_,qgq (by omega)⟩
   have h2:t % 2<(encP x).length:=by simp only[encP,List.length_cons,List.length_nil];omega
   have e:=rowsP l (t / 2) (t % 2) x _ hx (qgq h2);have e2:=hS.at_ hx (qgq h2)
   rw[show t / 2*2+t % 2=t by omega,hu]at e
   rw[show off+t / 2*2+t % 2=off+t by omega]at e2
   rw[e2,e])
  (fun u hu=>by
   obtain⟨x,_,hx⟩:=List.mem_flatMap.1 hu
   simp[encP]at hx;rcases hx with rfl|rfl<;>rfl)
 change Calls Tryz.prog 156 _ _ _ at hcon
 refine hcon.mono ?_
 rintro e w' ⟨v',rfl,hown,hnn,hx⟩
 obtain⟨_,⟨e0,_⟩|⟨g,cap,cur,rfl,hb,hg,hn,hm,hs,ht⟩⟩:=id hown
 ·exact absurd e0 hnn
 ·exact⟨g,cap,rfl,hown,hx⟩
theorem clone_156_nil (n c:Nat)(w:World):Calls Tryz.prog 156 #[.slice none n c] w fun e w'=>e=.returned (.slice none 0 0)∧w'=w:=AnyE.slices_Clone_nil Tryz.clonePt n c w
open Go.Lib
def cpt (l:List Pt):List Pt:=compactUpTo l.toArray l.length
theorem cpt_all {l:List Pt}(h:∀j,j<l.length→keeps l.toArray j=true):cpt l=l:=by
 unfold cpt;rw[compactUpTo_all _ _ h]
 have:=range_map_get l.toArray
 simpa using this
theorem CompInv.take {l:List Pt}{dk:Array Pt}{k:Nat}(h:CompInv l.toArray l.length k dk):dk.toList.take k=cpt l:=by
 have hk:=h.lt;have hs:=h.size;have hl:=h.len;simp only[List.size_toArray]at hs
 apply List.ext_getElem?
 intro j;rw[List.getElem?_take]
 by_cases hj:j<k
 ·rw[if_pos hj]
  have:=h.low j hj
  rw[cpt,this,Array.getElem?_toList,Array.getElem?_eq_getElem (by omega),getElem!_pos dk j (by omega)]
 ·rw[if_neg hj,cpt,List.getElem?_eq_none (by omega)]
theorem run_clearPt (w:World)(ty:TypeId)(b o n c:Nat)(hn:0<n)(hc:∀j,j<n*2→(w.cell? ⟨b,o+j,none⟩).isSome=true∧w.frozen? ⟨b,o+j,none⟩=false) :
  ∃vs,(Builtin.clear_ #[76] ty #[.slice (some ⟨b,o,none⟩) n c]).run Tryz.prog w=.ok (.tuple #[]) (w.setCells b o vs):=by
 have h1:∀v∈(Builtin.zeroCells #[.int .i64 0,.int .i64 0] n).toList,v.oneCell'=true:=by
  intro v hv
  simp[Builtin.zeroCells]at hv
  obtain⟨i,_,rfl⟩:=hv
  have:i % 2=0∨i % 2=1:=by omega
  rcases this with h|h<;>simp[h,Value.oneCell']
 have hlen:(Builtin.zeroCells #[.int .i64 0,.int .i64 0] n).toList.length=n*2:=by simp[Builtin.zeroCells]
 have hst:=run_storeCells_cells (P:=Tryz.prog) b o (Builtin.zeroCells #[.int .i64 0,.int .i64 0] n).toList 0 w (by rw[hlen];intro j hj;simpa using (hc j hj).1) (by rw[hlen];intro j hj;simpa using (hc j hj).2) h1
 simp only[Nat.add_zero]at hst
 refine⟨(Builtin.zeroCells #[.int .i64 0,.int .i64 0] n).toList,?_⟩
 obtain⟨m,rfl⟩:∃m,n=m+1:=⟨n-1,by omega⟩
 have hz:∀w,(zeroValue 43).run Tryz.prog w=.ok (.agg #[.int .i64 0,.int .i64 0]) w:=Tryz.zeroValue43
 have hu:∀w,(underlying 76).run Tryz.prog w=.ok (.slice 43) w:=run_underlying Tryz.underlying76
 have hcl:(Value.agg #[.int .i64 0,.int .i64 0]).cells=#[.int .i64 0,.int .i64 0]:=rfl
 simp[Builtin.clear_,hu,hz,hcl,hst]
theorem koe {B g cap:Nat}{l:List Pt}{w:World}(h:Pr B w g cap l)(hl:l.length≤1000000) :
  Calls Tryz.prog 162 #[.slice (some ⟨g,0,none⟩) l.length cap] w fun e w'=>e=.returned (.slice (some ⟨g,0,none⟩) (cpt l).length cap)∧Pr B w' g cap (cpt l)∧Below B w w':=by
 have hB:=h.blk.1;have hg:=h.blk.2.1;have hcap:=h.blk.2.2.1;have hcm:=h.blk.2.2.2.1;simp only[maxLen]at hcm
 by_cases h2:l.length<2
 ·have hall:cpt l=l:=cpt_all (fun j hj=>by rw[show j=0 by omega];rfl)
  have H:=Lib.hid h;clear h;rw[hall];clear hall
  go_enter Tryz.func162,Tryz.ntmps162
  go_wp2
  go_ret
  exact⟨rfl,H.out,Below.refl _ _⟩
 ·have H:=Lib.hid h
  clear h;generalize hN0:l.length=N at hl hcap h2 ⊢;have hN:=Lib.hid hN0;clear hN0
  go_enter Tryz.func162,Tryz.ntmps162
  go_wp2
  go_loopg [3] N (fun gg s3 wr=>∃m:Nat,m+1≤N∧N-m≤gg∧s3=.int .i64 ((m:Int)+1)∧Hid (Ext w wr)∧Hid (∀j,j<m+1→keeps l.toArray j=true))
  case atStart=>exact⟨0,by omega,by omega,by simp,Ext.refl w,keeps_lt_one _⟩
  case round=>
   obtain⟨m,hm,hgg,rfl,hx,A⟩:=hrel;have hrules:=hx.out.rules
   by_cases hlt:m+1<N
   ·obtain⟨⟨x1,x2⟩,hx1⟩:∃x,l[m+1]?=some x:=⟨_,qgq (by rw[hN.out];omega)⟩
    obtain⟨⟨y1,y2⟩,hy1⟩:∃x,l[m]?=some x:=⟨_,qgq (by rw[hN.out];omega)⟩
    have ⟨⟨a1,a2⟩,_⟩:=H.out.at_ hx1
    have ⟨⟨b1,b2⟩,_⟩:=H.out.at_ hy1
    have X:Hid (l.toArray[m+1]! = (x1,x2)∧l.toArray[m]! = (y1,y2)):=⟨by rw[getElem!_def];simp[hx1],by rw[getElem!_def];simp[hy1]⟩
    clear hx1 hy1
    simp only at a1 a2 b1 b2
    have hgw:g<wr.heap.size:=by have:=hx.out.len;omega
    have hltz:(m:Int)+1<(N:Int):=by omega
    by_cases hdup:x1=y1∧x2=y2
    ·obtain⟨rfl,rfl⟩:=hdup
     go_wp2_with fail
     (refine kad (by kernel_rfl) (by kernel_rfl) ?_;(repeat (first|go_big_quiet_step (fail)|quiet_step (fail)));refine wpQuiet_nil ?_;rintro _ ⟨xq,rfl⟩;have hx2:=xq.ext;generalize xq.world=w2 at hx2 ⊢)
     go_wp2
     have S0:Hid (CompInv l.toArray (m+1+(0+1)) (m+1) l.toArray):=CompInv.start A.out (keeps_neg (by omega) (by rw[show m+1-1=m by omega,X.out.1,X.out.2]))
     have W0:Hid (Pr B w2 g cap l.toArray.toList∧RowKit.Below B w w2):=⟨(H.out.ext hx.out).ext hx2,(Below.mono hx.out (by omega)).trans (Below.mono hx2 (by omega))⟩
     clear a1 a2 b1 b2 hrules hgw hx hx2 A X
     go_loopg [3,5] N (fun gg s3 s5 wr=>∃(kk j:Nat) (dk:Array Pt),s3=.int .i64 kk∧s5=.int .i64 ((j:Int)+1)∧m+1+(j+1)≤N∧kk<m+1+(j+1)∧N-(m+1+(j+1))≤gg∧Hid (CompInv l.toArray (m+1+(j+1)) kk dk)∧Hid (Pr B wr g cap dk.toList∧RowKit.Below B w wr))
     case atStart=>exact⟨m+1,0,l.toArray,by go_num,by simp,by omega,by omega,by omega,S0,W0⟩
     case round=>
      obtain⟨kk,j,dk,rfl,rfl,h1,hkk,hg2,hI,hP⟩:=hrel
      have hds:Hid (dk.size=N):=by have:=hI.out.size;simp only[List.size_toArray]at this;exact this.trans hN.out
      have hgw:=hP.out.1.blk.2.1
      by_cases hlt2:m+1+(j+1)<N
      ·obtain⟨⟨u1,u2⟩,hu⟩:∃x,dk.toList[m+1+(j+1)]?=some x:=⟨_,qgq (by simp[hds.out];omega)⟩
       obtain⟨⟨v1,v2⟩,hv⟩:∃x,dk.toList[m+1+j]?=some x:=⟨_,qgq (by simp[hds.out];omega)⟩
       obtain⟨⟨o1,o2⟩,ho⟩:∃x,dk.toList[kk]?=some x:=⟨_,qgq (by simp[hds.out];omega)⟩
       have ⟨⟨a1,a2⟩,_⟩:=hP.out.1.at_ hu
       have ⟨⟨b1,b2⟩,_⟩:=hP.out.1.at_ hv
       have ⟨⟨c1,c2⟩,f1,f2⟩:=hP.out.1.at_ ho
       have E1:Hid (l.toArray[m+1+(j+1)]! = (u1,u2)):=by show l.toArray[m+1+(j+1)]! = _;rw[←hI.out.high _ (by omega),getElem!_def];simp only[Array.getElem?_toList]at hu;rw[hu]
       have E2:Hid (l.toArray[m+1+j]! = (v1,v2)):=by show l.toArray[m+1+j]! = _;rw[←hI.out.high _ (by omega),getElem!_def];simp only[Array.getElem?_toList]at hv;rw[hv]
       clear hu hv ho
       rw[show (m+1+(j+1))*2=(m+1)*2+(j+1)*2 by omega]at a1 a2
       rw[show (m+1+j)*2=(m+1)*2+j*2 by omega]at b1 b2
       simp only at a1 a2 b1 b2 c1 c2
       by_cases hdup:u1=v1∧u2=v2
       ·obtain⟨rfl,rfl⟩:=hdup
        have hI2:Hid (CompInv l.toArray (m+1+(j+1)+1) kk dk):=hI.out.skip (keeps_neg (by omega) (by rw[show m+1+(j+1)-1=m+1+j by omega,E1.out,E2.out]))
        go_wp2_with fail
        (refine kad (by kernel_rfl) (by kernel_rfl) ?_;(repeat (first|go_big_quiet_step (fail)|quiet_step (fail)));refine wpQuiet_nil ?_;rintro _ ⟨xq,rfl⟩;have hx2:=xq.ext;generalize xq.world=w2 at hx2 ⊢)
        go_wp2
        go_roundg (N-(m+1+(j+1+1)))
        case measure=>omega
        case rel=>exact⟨kk,j+1,dk,by go_num,by go_num,by omega,by omega,by omega,hI2,⟨hP.out.1.ext hx2,hP.out.2.trans (Below.mono hx2 (by omega))⟩⟩
       ·have D:u1≠v1∨(u1=v1∧u2≠v2):=by omega
        have hI2:Hid (CompInv l.toArray (m+1+(j+1)+1) (kk+1) (dk.setIfInBounds kk (u1,u2))):=by
         have:=hI.out.keep (by rw[List.size_toArray,hN.out];exact hlt2) (keeps_pos (by
          rw[show m+1+(j+1)-1=m+1+j by omega,E1.out,E2.out]
          intro e
          exact hdup (by simpa using e)))
         rwa [E1.out]at this
        clear hdup E1 E2
        rcases D with d|⟨rfl,d⟩
        all_goals
         go_wp2_with fail
         (refine kad (by kernel_rfl) (by kernel_rfl) ?_;(repeat (first|go_big_quiet_step (fail)|quiet_step (fail)));refine wpQuiet_nil ?_;rintro _ ⟨xq,rfl⟩;have hx2:=xq.ext;generalize xq.world=w2 at hx2 ⊢)
         obtain⟨hc2,hf2,hz2⟩:=hx2.rules
         have hP2:Hid (Pr B ((w2.setCell ⟨g,kk*2,none⟩ (.int .i64 u1)).setCell ⟨g,kk*2+1,none⟩ (.int .i64 u2)) g cap (dk.setIfInBounds kk (u1,u2)).toList∧RowKit.Below B w ((w2.setCell ⟨g,kk*2,none⟩ (.int .i64 u1)).setCell ⟨g,kk*2+1,none⟩ (.int .i64 u2))):=
          ⟨by rw[Array.toList_setIfInBounds];exact(hP.out.1.ext hx2).set (by simp[hds.out];omega) (u1,u2),((hP.out.2.trans (Below.mono hx2 (by omega))).setCell (p:=⟨g,kk*2,none⟩) hB _).setCell (p:=⟨g,kk*2+1,none⟩) hB _⟩
         go_wp2
         go_roundg (N-(m+1+(j+1+1)))
         case measure=>omega
         case rel=>exact⟨kk+1,j+1,dk.setIfInBounds kk (u1,u2),by go_num,by go_num,by omega,by omega,by omega,hI2,hP2⟩
      ·have hcl:∀ty,∃vs,(Builtin.clear_ #[76] ty #[.slice (some ⟨g,kk*2,none⟩) (N-kk) (cap-kk)]).run Tryz.prog wr=.ok (.tuple #[]) (wr.setCells g (kk*2) vs):=fun ty=>
        run_clearPt wr ty g (kk*2) (N-kk) _ (by omega) (fun i hi=>by
         obtain⟨x,y⟩:=hP.out.1.cells (j:=kk*2+i) (by simp[hds.out];omega)
         refine⟨?_,y⟩
         rw[x,qgq (by rw[kby];simp[hds.out];omega)];rfl)
       obtain⟨vs,hvs⟩:=hcl 0;clear hcl
       have hfin:Hid ((cpt l).length=kk∧Pr B (wr.setCells g (kk*2) vs) g cap (cpt l)∧RowKit.Below B w (wr.setCells g (kk*2) vs)):=by
        have hI2:=hI.out
        rw[show m+1+(j+1)=l.length by rw[hN.out];omega]at hI2
        have hpr:=(hP.out.1.take kk);rw[CompInv.take hI2]at hpr
        have hlen:(cpt l).length=kk:=hI2.len
        exact⟨hlen,hpr.setCells_out vs _ _ (by omega),khy hB vs _ _ hP.out.2⟩
       go_wp2
       go_ret
       exact⟨by rw[hfin.out.1];rfl,hfin.out.2⟩
    ·have D:x1≠y1∨(x1=y1∧x2≠y2):=by omega
     have keep:Hid (keeps l.toArray (m+1)=true):=keeps_pos (by
      rw[show m+1-1=m by omega,X.out.1,X.out.2]
      intro e
      exact hdup (by simpa using e))
     clear hdup X
     rcases D with d|⟨rfl,d⟩
     all_goals
      go_wp2_with fail
      (refine kad (by kernel_rfl) (by kernel_rfl) ?_;(repeat (first|go_big_quiet_step (fail)|quiet_step (fail)));refine wpQuiet_nil ?_;rintro _ ⟨xq,rfl⟩;have hx2:=xq.ext;generalize xq.world=w2 at hx2 ⊢)
      go_wp2
      go_roundg (N-(m+1))
      case measure=>omega
      case rel=>exact⟨m+1,by omega,by omega,by go_num,xt,fun (j:Nat) (hj:j<m+1+1)=>by by_cases e:j=m+1;(subst e;exact keep.out);exact A.out j (by omega)⟩
   ·have hall:cpt l=l:=cpt_all (fun j hj=>A.out j (by rw[hN.out]at hj;omega))
    have hall2:=Lib.hid hall;clear hall
    have hNm:N=m+1:=by omega
    go_wp2
    go_ret
    rw[hall2.out]
    exact⟨by rw[hN.out];rfl,H.out.ext hx.out,Below.mono hx.out (by omega)⟩
end Go.Proofs.YtcgghcicnanliaaGreatDoor
namespace Go.Proofs.YtcgghcicnanliaaGreatDoor
open Go.RowKit
set_option maxHeartbeats 2000000
set_option maxRecDepth 100000
def Bb (B c:Nat)(W W':World):Prop:=(W'.os=W.os∧W'.tape=W.tape∧W'.output=W.output)∧W.heap.size≤W'.heap.size∧∀k,k<B→k≠c→W'.heap[k]?=W.heap[k]?
theorem Bb.refl (B c:Nat)(W:World):Bb B c W W:=⟨⟨rfl,rfl,rfl⟩,Nat.le_refl _,fun _ _ _=>rfl⟩
theorem Bb.trans {B c:Nat}{X Y Z:World}(h:Bb B c X Y)(k:Bb B c Y Z):Bb B c X Z:=
 ⟨⟨k.1.1.trans h.1.1,k.1.2.1.trans h.1.2.1,k.1.2.2.trans h.1.2.2⟩,Nat.le_trans h.2.1 k.2.1,fun i hi hc=>(k.2.2 i hi hc).trans (h.2.2 i hi hc)⟩
theorem Bb.of_below {B c:Nat}{X Y:World}(h:Below B X Y):Bb B c X Y:=⟨⟨h.os,h.tape,h.output⟩,h.size,fun k hk _=>h.block k hk⟩
theorem Bb.set {B c:Nat}{X Y:World}(h:Bb B c X Y)(v:Value):Bb B c X (Y.setCell ⟨c,0,none⟩ v):=
 ⟨⟨h.1.1,h.1.2.1,h.1.2.2⟩,by simpa using h.2.1,fun k hk hc=>by rw[Below.heap_setCell Y _ v k (by simpa using hc)];exact h.2.2 k hk hc⟩
theorem knk {X Y:World}(h:Ext X Y):KeepsOthers X Y:=⟨h.size,fun _ _ ho _=>kaf h ho⟩
def kkc (B:Nat)(W:World)(c:Nat)(l:List Pt):Prop:=Boxed W c 344 (.slice none 0 0)∧l=[]∨∃g cap,Boxed W c 344 (.slice (some ⟨g,0,none⟩) l.length cap)∧Pr B W g cap l
theorem Boxed.ext {X Y:World}{b:Nat}{t:TypeId}{v:Value}(h:Boxed X b t v)(hx:Ext X Y):Boxed Y b t v:=kaf hx h
theorem kkc.ext {B:Nat}{X Y:World}{c:Nat}{l:List Pt}(h:kkc B X c l)(hx:Ext X Y):kkc B Y c l:=by
 rcases h with ⟨h,e⟩|⟨g,cap,h,k⟩
 ·exact .inl ⟨Boxed.ext h hx,e⟩
 ·exact .inr ⟨g,cap,Boxed.ext h hx,k.ext hx⟩
def popR (x:Pt):List Pt→List Pt
 | b::a::t=>if kcf a b x≤0 then popR x (a::t) else b::a::t
 | s=>s
def khq (l:List Pt)(x:Pt):List Pt:=(popR x l.reverse).reverse++[x]
theorem pop_short {x:Pt}{s:List Pt}(h:s.length≤1):popR x s=s:=by
 match s,h with
 | [],_=>rfl
 | [_],_=>rfl
theorem take_rev {l:List Pt}{m:Nat}{a b:Pt}(ha:l[m]?=some a)(hb:l[m+1]?=some b):(l.take (m+2)).reverse=b::a::(l.take m).reverse∧(l.take (m+1)).reverse=a::(l.take m).reverse:=by
 have h1:l.take (m+1)=l.take m++[a]:=by rw[List.take_add_one,ha];rfl
 have h2:l.take (m+2)=l.take (m+1)++[b]:=by rw[List.take_add_one,hb];rfl
 rw[h2,h1];simp
theorem tmpPt (w:World)(x:Pt):∀j u,(encP x)[j]?=some u→(w.alloc (.cells #[.int .i64 x.1,.int .i64 x.2] 43)).cell? ((⟨w.heap.size,0,none⟩:Addr).add j)=some u:=by
 intro j u hu
 have hj:j<2:=(List.getElem?_eq_some_iff.1 hu).1
 have:j=0∨j=1:=by omega
 rcases this with rfl|rfl<;>(simp[encP]at hu;subst hu;simp[Addr.add])
theorem push_end {B c k g' cap':Nat}{W w2 w1:World}{u v:Value}{l0:List Pt}{x:Pt}{tmp:Obj}(hv:Boxed w2 c 344 u)(hrow:w2.ownsRow B 43 2 v k (l0.flatMap encP))(hk:l0.length=k)(hBW:B≤W.heap.size)(hB:B≤w2.heap.size)
  (hown:w1.ownsRow B 43 2 (.slice (some ⟨g',0,none⟩) (k+1) cap') (k+1) (l0.flatMap encP++encP x)) (hgrow:(w2.alloc tmp).grownBy w1 v.ownBlock) (hx:Ext W w2) :
  Boxed w1 c 344 u∧kkc B (w1.setCell ⟨c,0,none⟩ (.slice (some ⟨g',0,none⟩) (k+1) cap')) c (l0++[x])∧Bb B c W (w1.setCell ⟨c,0,none⟩ (.slice (some ⟨g',0,none⟩) (k+1) cap'))∧KeepsOthers W (w1.setCell ⟨c,0,none⟩ (.slice (some ⟨g',0,none⟩) (k+1) cap')):=by
 have hv1:Boxed w1 c 344 u:=(hv.alloc tmp).kept hgrow (hv.not_row (by decide) hrow)
 refine⟨hv1,.inr ⟨g',cap',?_,?_⟩,?_,?_⟩
 ·have:=hv1.set (.slice (some ⟨g',0,none⟩) (k+1) cap')
  rw[show (l0++[x]).length=k+1 by simp[hk]];exact this
 ·have:=hown.kept (grownBy_setCell' w1 c (.slice (some ⟨g',0,none⟩) (k+1) cap')) (.inr (hv1.not_row (by decide) hown).symm)
  unfold Pr
  rw[show (l0++[x]).length=k+1 by simp[hk],List.flatMap_append]
  simpa using this
 ·refine(Bb.of_below ((((Below.mono hx hBW).alloc hB tmp).grown hgrow (by simp;omega) fun j ej=>?_))).set _
  rcases hrow.2 with ⟨rfl,_⟩|⟨g,cap,cur,rfl,hb,_,_⟩
  ·simp[Value.ownBlock]at ej
  ·obtain rfl:g=j:=by simpa[Value.ownBlock]using ej
   exact hb
 ·refine((knk (hx.alloc tmp)).trans (KeepsOthers.of_grownBy hgrow fun j o ej hj=>?_)).trans (KeepsOthers.setCell _ _ _)
  have hrow':=(hrow.alloc tmp).2
  rcases hrow' with ⟨rfl,_⟩|⟨g,cap,cur,rfl,_,hgb,_⟩
  ·simp[Value.ownBlock]at ej
  ·obtain rfl:g=j:=by simpa[Value.ownBlock]using ej
   rw[hgb]at hj;cases hj;rfl
theorem push_335 (B c:Nat)(l:List Pt)(p:Pt)(W:World)(hc:c<B)(hB:B≤W.heap.size)(hl:l.length≤1000000)(hm:∀y∈l,Mid y)(hx0:Mid p)(hS:kkc B W c l) :
  Calls Tryz.prog 335 #[.pointer (some ⟨c,0,none⟩),.agg #[.int .i64 p.1,.int .i64 p.2]] W fun e W'=>e=.returned (.tuple #[])∧kkc B W' c (khq l p)∧Bb B c W W'∧KeepsOthers W W':=by
 obtain⟨i0,hi,hz0,hz1,hz2⟩:=info_parts kha
 have hcW:c<W.heap.size:=by omega
 rcases hS with ⟨hS,rfl⟩|⟨g,cap,hv,hPr⟩
 ·have cc:=hS.cell
  have cf:=hS.frozen;have hSh:=Lib.hid hS;clear hS
  go_enter Tryz.func335,Tryz.ntmps335
  go_wp2
  refine wp_loop_rounds 1 ?_
  rw[rounds_succ]
  go_wp2
  (refine kad (by kernel_rfl) (by kernel_rfl) ?_;(repeat (first|go_big_quiet_step (fail)|quiet_step (fail)));refine wpQuiet_nil ?_;rintro _ ⟨xq,rfl⟩;have hx2:=xq.ext;generalize xq.world=w2 at hx2 ⊢)
  have bx0:w2.cell? ⟨W.heap.size,0,none⟩=some (.int .i64 p.1):=(hx2.rules.1 _ _ (by simp)).trans (by simp)
  have bx1:w2.cell? ⟨W.heap.size,1,none⟩=some (.int .i64 p.2):=(hx2.rules.1 _ _ (by simp)).trans (by simp)
  have hz2':=hx2.len;simp only[qsa]at hz2'
  have hX:Hid (Ext W w2):=Ext.trans (Ext.alloc (Ext.refl W) _) hx2
  have cz:c<w2.heap.size:=by omega
  have hrow:w2.ownsRow B 43 2 (.slice none 0 0) 0 (([]:List Pt).flatMap encP):=World.ownsRow_nil ..
  have hv2:=Boxed.ext hSh.out hX.out
  go_wp2_with (at_builtin;refine wpList_append_own _ rfl _ _ 344 rfl B 43 i0 _ 2 16 Tryz.underlying344 hi hz0 hz1 hz2 rfl (by omega) _ _ _ rfl (hrow.alloc _) ⟨w2.heap.size,0,none⟩ 1 1 (encP p) rfl rfl ?qc2 ?qc3 ?qc4 ?qc5 ?qc6 ?_)
  case qc2=>exact tmpPt w2 p
  case qc3=>intro u hu;simp[encP]at hu;rcases hu with rfl|rfl<;>rfl
  case qc4=>simp[maxLen]
  case qc5=>omega
  case qc6=>simp;omega
  intro v' w1 hown hgrow _;obtain⟨g',cap',rfl⟩:=ownsRow_succ hown
  obtain⟨hv1,hF1,hF2,hF3⟩:=push_end (l0:=[]) hv2 hrow rfl hB (by omega) hown hgrow hX.out
  have hc1:=hv1.cell;have hf1:=hv1.frozen;have HF:=Lib.hid (And.intro hF1 (And.intro hF2 hF3));clear hF1 hF2 hF3
  go_wp2
  go_end0
  exact⟨rfl,HF.out⟩
 ·have cc:=hv.cell
  have cf:=hv.frozen;have hSh:=Lib.hid hv;have hP:=Lib.hid hPr;have hgW:=hPr.blk.2.1;have hcap:=hPr.blk.2.2.1;have hcm:=hPr.blk.2.2.2.1;simp only[maxLen]at hcm;clear hv hPr
  go_enter Tryz.func335,Tryz.ntmps335
  go_wp2
  go_loopg [4] l.length (fun gg s4 wr=>∃kk:Nat,kk≤l.length∧kk≤gg∧s4=.slice (some ⟨g,0,none⟩) kk cap∧Hid (Ext (W.alloc (.cells #[.int .i64 p.1,.int .i64 p.2] 43)) wr)∧Hid (popR p l.reverse=popR p (l.take kk).reverse))
  case atStart=>exact⟨l.length,by omega,by omega,rfl,Ext.refl _,by show popR p l.reverse=_;rw[List.take_length]⟩
  case round=>
   obtain⟨kk,hkk,hgg,rfl,hx,hq⟩:=hrel;have hrules:=(Ext.trans (Ext.alloc (Ext.refl W) (.cells #[.int .i64 p.1,.int .i64 p.2] 43)) hx.out).rules
   have hgw:g<wr.heap.size:=by omega
   by_cases h1:kk≤1
   ·have hd:decide ((1:Int)<(kk:Int))=false:=decide_eq_false (by omega)
    go_wp2
    (refine kad (by kernel_rfl) (by kernel_rfl) ?_;(repeat (first|go_big_quiet_step (fail)|quiet_step (fail)));refine wpQuiet_nil ?_;rintro _ ⟨xq,rfl⟩;have hx2:=xq.ext;generalize xq.world=w2 at hx2 ⊢)
    have bx0:w2.cell? ⟨W.heap.size,0,none⟩=some (.int .i64 p.1):=((hx.out.trans hx2).rules.1 _ _ (by simp)).trans (by simp)
    have bx1:w2.cell? ⟨W.heap.size,1,none⟩=some (.int .i64 p.2):=((hx.out.trans hx2).rules.1 _ _ (by simp)).trans (by simp)
    have hz2':=(hx.out.trans hx2).len;simp only[qsa]at hz2'
    have hX:Hid (Ext W w2):=Ext.trans (Ext.alloc (Ext.refl W) _) (hx.out.trans hx2)
    have cz:c<w2.heap.size:=by omega
    have hlen:Hid ((l.take (kk)).length=kk):=by show (l.take (kk)).length=kk;simp;omega
    have hrow:w2.ownsRow B 43 2 (.slice (some ⟨g,0,none⟩) (kk) cap) (kk) ((l.take (kk)).flatMap encP):=by
     have:=(hP.out.take (kk)).ext hX.out
     unfold Pr at this
     rwa [hlen.out]at this
    have hv2:=Boxed.ext hSh.out hX.out
    go_wp2_with (at_builtin;refine wpList_append_own _ rfl _ _ 344 rfl B 43 i0 _ 2 16 Tryz.underlying344 hi hz0 hz1 hz2 rfl (by omega) _ _ _ rfl (hrow.alloc _) ⟨w2.heap.size,0,none⟩ 1 1 (encP p) rfl rfl ?qc2 ?qc3 ?qc4 ?qc5 ?qc6 ?_)
    case qc2=>exact tmpPt w2 p
    case qc3=>intro u hu;simp[encP]at hu;rcases hu with rfl|rfl<;>rfl
    case qc4=>simp[maxLen];omega
    case qc5=>omega
    case qc6=>simp;omega
    intro v' w1 hown hgrow _;obtain⟨g',cap',rfl⟩:=ownsRow_succ hown
    obtain⟨hv1,hF1,hF2,hF3⟩:=push_end (l0:=l.take (kk)) hv2 hrow hlen.out hB (by omega) hown hgrow hX.out
    have hc1:=hv1.cell;have hf1:=hv1.frozen;have HF:=Lib.hid (And.intro hF1 (And.intro hF2 hF3));clear hF1 hF2 hF3
    go_wp2
    go_end0
    have e:khq l p=l.take (kk)++[p]:=by
     rw[khq,hq.out,pop_short (by simp;omega),List.reverse_reverse]
    exact⟨rfl,by rw[e];exact HF.out⟩
   ·obtain⟨m,rfl⟩:∃m,kk=m+2:=⟨kk-2,by omega⟩
    obtain⟨⟨a1,a2⟩,ha⟩:∃x,l[m]?=some x:=⟨_,qgq (by omega)⟩
    obtain⟨⟨b1,b2⟩,hb⟩:∃x,l[m+1]?=some x:=⟨_,qgq (by omega)⟩
    have ⟨⟨ca1,ca2⟩,_⟩:=hP.out.at_ ha
    have ⟨⟨cb1,cb2⟩,_⟩:=hP.out.at_ hb
    simp only at ca1 ca2 cb1 cb2
    have bx0:wr.cell? ⟨W.heap.size,0,none⟩=some (.int .i64 p.1):=(hx.out.rules.1 _ _ (by simp)).trans (by simp)
    have bx1:wr.cell? ⟨W.heap.size,1,none⟩=some (.int .i64 p.2):=(hx.out.rules.1 _ _ (by simp)).trans (by simp)
    have bz:W.heap.size<wr.heap.size:=by have:=hx.out.len;simp only[qsa]at this;omega
    have G:=Lib.hid (turn_250 (a1,a2) (b1,b2) p (hm _ (qmq ha)) (hm _ (qmq hb)) hx0);have R:=Lib.hid (take_rev ha hb);clear ha hb
    have hR1:Hid (kcf (a1,a2) (b1,b2) p≤0→popR p (l.take (m+2)).reverse=popR p (l.take (m+1)).reverse):=fun h=>by rw[R.out.1,R.out.2,popR,if_pos h]
    have hR2:Hid (¬ kcf (a1,a2) (b1,b2) p≤0→popR p (l.take (m+2)).reverse=(l.take (m+2)).reverse):=fun h=>by rw[R.out.1,popR,if_neg h]
    clear R;generalize kcf (a1,a2) (b1,b2) p=t at G hR1 hR2
    have hd:decide ((1:Int)<(m:Int)+2)=true:=decide_eq_true (by omega)
    by_cases ht:t≤0
    ·go_wp2
     (refine kad (by kernel_rfl) (by kernel_rfl) ?_;(repeat (first|go_big_quiet_step ((go_at_call 250;exact Xt.calls (G.out _)))|quiet_step ((go_at_call 250;exact Xt.calls (G.out _)))));refine wpQuiet_nil ?_;rintro _ ⟨xq,rfl⟩;have hx2:=xq.ext;generalize xq.world=w2 at hx2 ⊢)
     go_wp2
     go_roundg (m+1)
     case measure=>omega
     case rel=>exact⟨m+1,by omega,by omega,by go_num,hx.out.trans hx2,by show popR p l.reverse=_;rw[hq.out];exact hR1.out ht⟩
    ·go_wp2
     (refine kad (by kernel_rfl) (by kernel_rfl) ?_;(repeat (first|go_big_quiet_step ((go_at_call 250;exact Xt.calls (G.out _)))|quiet_step ((go_at_call 250;exact Xt.calls (G.out _)))));refine wpQuiet_nil ?_;rintro _ ⟨xq,rfl⟩;have hx2:=xq.ext;generalize xq.world=w2 at hx2 ⊢)
     have bx0:w2.cell? ⟨W.heap.size,0,none⟩=some (.int .i64 p.1):=((hx.out.trans hx2).rules.1 _ _ (by simp)).trans (by simp)
     have bx1:w2.cell? ⟨W.heap.size,1,none⟩=some (.int .i64 p.2):=((hx.out.trans hx2).rules.1 _ _ (by simp)).trans (by simp)
     have hz2':=(hx.out.trans hx2).len;simp only[qsa]at hz2'
     have hX:Hid (Ext W w2):=Ext.trans (Ext.alloc (Ext.refl W) _) (hx.out.trans hx2)
     have cz:c<w2.heap.size:=by omega
     have hlen:Hid ((l.take (m+2)).length=m+2):=by show (l.take (m+2)).length=m+2;simp;omega
     have hrow:w2.ownsRow B 43 2 (.slice (some ⟨g,0,none⟩) (m+2) cap) (m+2) ((l.take (m+2)).flatMap encP):=by
      have:=(hP.out.take (m+2)).ext hX.out
      unfold Pr at this
      rwa [hlen.out]at this
     have hv2:=Boxed.ext hSh.out hX.out
     go_wp2_with (at_builtin;refine wpList_append_own _ rfl _ _ 344 rfl B 43 i0 _ 2 16 Tryz.underlying344 hi hz0 hz1 hz2 rfl (by omega) _ _ _ rfl (hrow.alloc _) ⟨w2.heap.size,0,none⟩ 1 1 (encP p) rfl rfl ?qc2 ?qc3 ?qc4 ?qc5 ?qc6 ?_)
     case qc2=>exact tmpPt w2 p
     case qc3=>intro u hu;simp[encP]at hu;rcases hu with rfl|rfl<;>rfl
     case qc4=>simp[maxLen];omega
     case qc5=>omega
     case qc6=>simp;omega
     intro v' w1 hown hgrow _;obtain⟨g',cap',rfl⟩:=ownsRow_succ hown
     obtain⟨hv1,hF1,hF2,hF3⟩:=push_end (l0:=l.take (m+2)) hv2 hrow hlen.out hB (by omega) hown hgrow hX.out
     have hc1:=hv1.cell;have hf1:=hv1.frozen;have HF:=Lib.hid (And.intro hF1 (And.intro hF2 hF3));clear hF1 hF2 hF3
     go_wp2
     go_end0
     have e:khq l p=l.take (m+2)++[p]:=by
      rw[khq,hq.out,hR2.out ht,List.reverse_reverse]
     exact⟨rfl,by rw[e];exact HF.out⟩
theorem refRows_47 (A:Option Addr)(c:Nat)(l:List RowT)(w:World)(hS:Sl kdw 6 w A l) :
  Calls Tryz.prog 47 #[.slice A l.length c] w fun e w'=>e=.returned (.bool (kfh l))∧Ext w w':=by
 by_cases h50:l.length≤50
 rotate_left
 ·have hz:(50:Int)<(l.length:Int):=by omega
  have hF:Hid (kfh l=false):=by
   show _=_
   unfold kfh;rw[decide_eq_false h50,Bool.false_and]
  go_enter Tryz.func47,Tryz.ntmps47
  go_wp2
  go_ret
  exact⟨retb hF.out.symm,xt⟩
 have hz:¬ (50:Int)<(l.length:Int):=by omega
 have hR:Hid (kfh l=!(l.any fun r=>!kif r)):=by
  show _=_
  unfold kfh;rw[decide_eq_true h50,Bool.true_and]
 go_enter Tryz.func47,Tryz.ntmps47
 go_wp2
 go_loopg [3] l.length (fun gg s3 wr=>∃kk:Nat,kk≤l.length∧l.length-kk≤gg∧s3=.int .i64 kk∧Hid (Ext w wr)∧Hid (∀j x,j<kk→l[j]?=some x→kif x=true))
 case atStart=>exact⟨0,Nat.zero_le _,by omega,rfl,Ext.refl w,fun j x hj=>absurd hj (Nat.not_lt_zero _)⟩
 case round=>
  obtain⟨kk,hkk,hg,rfl,hx,H⟩:=hrel
  have hxw:Ext w wr:=hx.out
  by_cases hlt:kk<l.length
  ·obtain⟨b,off,rfl⟩:=hS.addr (by omega)
   obtain⟨y,hy⟩:∃y,l[kk]?=some y:=⟨_,qgq hlt⟩;have Y:=Lib.hid hy;have K:=Lib.hid (refRow_109 y)
   have hltz:(kk:Int)<(l.length:Int):=by omega
   have hq:Hid (kif y=kif y):=rfl
   generalize hqq:kif y=q at K;have Q:=Lib.hid hqq;clear hqq hq;obtain⟨y1,y2,y3,y4,y5,y6⟩:=y
   have c0:wr.cell? ⟨b,off+kk*6,none⟩=some (.int .i64 y1):=by have:=(hS.ext hxw).at_ hy (i:=0) rfl;simpa using this
   have c1:wr.cell? ⟨b,off+kk*6+1,none⟩=some (.int .i64 y2):=by have:=(hS.ext hxw).at_ hy (i:=1) rfl;simpa using this
   have c2:wr.cell? ⟨b,off+kk*6+2,none⟩=some (.int .i64 y3):=by have:=(hS.ext hxw).at_ hy (i:=2) rfl;simpa using this
   have c3:wr.cell? ⟨b,off+kk*6+3,none⟩=some (.int .i64 y4):=by have:=(hS.ext hxw).at_ hy (i:=3) rfl;simpa using this
   have c4:wr.cell? ⟨b,off+kk*6+4,none⟩=some (.int .i64 y5):=by have:=(hS.ext hxw).at_ hy (i:=4) rfl;simpa using this
   have c5:wr.cell? ⟨b,off+kk*6+5,none⟩=some (.int .i64 y6):=by have:=(hS.ext hxw).at_ hy (i:=5) rfl;simpa using this
   clear hy
   cases q with
   | false=>
    have hF:Hid (kfh l=false):=by
     show _=_
     rw[hR.out,Bool.not_eq_false',List.any_eq_true]
     exact⟨_,qmq Y.out,by rw[Q.out];rfl⟩
    go_wp2_with (go_at_call 109;refine(K.out _).mono ?_;rintro e w1 ⟨rfl,hb1⟩)
    go_ret
    exact⟨retb hF.out.symm,xt⟩
   | true=>
    go_wp2_with (go_at_call 109;refine(K.out _).mono ?_;rintro e w1 ⟨rfl,hb1⟩)
    go_roundg (l.length-(kk+1))
    case measure=>omega
    case rel=>
     refine⟨kk+1,by omega,by omega,by go_num,hxw.trans hb1,fun j x hj hjx=>?_⟩
     by_cases e:j=kk
     ·subst e
      have:=Y.out.symm.trans hjx
      cases this
      exact Q.out
     ·exact H.out j x (by omega) hjx
  ·have hltz:¬ (kk:Int)<(l.length:Int):=by omega
   have hF:Hid (kfh l=true):=by
    show _=_
    rw[hR.out,Bool.not_eq_true',List.any_eq_false];intro x hx';obtain⟨j,hj,e⟩:=List.getElem_of_mem hx'
    rw[H.out j x (by omega) (by rw[qgq hj,e])];simp
   go_wp2
   go_ret
   exact⟨retb hF.out.symm,hxw⟩
theorem refWaters_48 (A:Option Addr)(c:Nat)(l:List WaterT)(w:World)(hS:Sl WaterT.vals 3 w A l) :
  Calls Tryz.prog 48 #[.slice A l.length c] w fun e w'=>e=.returned (.bool (kcg l))∧Ext w w':=by
 by_cases h0:l.length<1
 ·have hz:(l.length:Int)<1:=by omega
  have hF:Hid (kcg l=false):=by
   show _=_
   have:l=[]:=List.length_eq_zero_iff.1 (by omega)
   subst this
   rfl
  go_enter Tryz.func48,Tryz.ntmps48
  go_wp2
  go_ret
  exact⟨retb hF.out.symm,xt⟩
 have hz0:¬ (l.length:Int)<1:=by omega
 by_cases h20:l.length≤20
 rotate_left
 ·have hz:(20:Int)<(l.length:Int):=by omega
  have hF:Hid (kcg l=false):=by
   show _=_
   unfold kcg;rw[decide_eq_false h20];simp
  go_enter Tryz.func48,Tryz.ntmps48
  go_wp2
  go_ret
  exact⟨retb hF.out.symm,xt⟩
 have hz:¬ (20:Int)<(l.length:Int):=by omega
 have hne:l≠[]:=by intro e;subst e;simp at h0
 have hR:Hid (kcg l=(decide ((koq l (l.length-1)).til=100000)&&(List.range l.length).all (fun j=>kmh (watG l j)))):=by
  show _=_
  unfold kcg;rw[decide_eq_true h20,decide_eq_true hne];simp
 obtain⟨b,off,rfl⟩:=hS.addr (by omega)
 have hb:=hS.blk (by omega)
 go_enter Tryz.func48,Tryz.ntmps48
 go_wp2
 go_loopg [3,4,5] l.length (fun gg s3 s4 _ wr=>∃kk:Nat,kk≤l.length∧l.length-kk≤gg∧s3=.int .i64 (kdi l kk)∧s4=.int .i64 kk∧Hid (Ext w wr)∧Hid (∀j,j<kk→kmh (watG l j)=true))
 case atStart=>exact⟨0,Nat.zero_le _,by omega,rfl,rfl,Ext.refl w,fun j hj=>absurd hj (Nat.not_lt_zero _)⟩
 case round=>
  obtain⟨kk,hkk,hg,rfl,rfl,hx,H⟩:=hrel
  have hxw:Ext w wr:=hx.out
  by_cases hlt:kk<l.length
  ·obtain⟨y,hy⟩:∃y,l[kk]?=some y:=⟨_,qgq hlt⟩
   have hyw:koq l kk=y:=by simp[koq,hy]
   have hG:Hid (watG l kk=(kdi l kk,y)):=by simp[Hid,watG,hyw]
   have hT:Hid (kdi l (kk+1)=y.til):=by simp[Hid,kdi,hyw]
   have hltz:(kk:Int)<(l.length:Int):=by omega
   have hbw:b<wr.heap.size:=by have:=hxw.len;omega
   obtain⟨t1,t2,t3⟩:=y
   have c0:wr.cell? ⟨b,off+kk*3,none⟩=some (.int .i64 t1):=by have:=(hS.ext hxw).at_ hy (i:=0) rfl;simpa using this
   have c1:wr.cell? ⟨b,off+kk*3+1,none⟩=some (.int .i64 t2):=by have:=(hS.ext hxw).at_ hy (i:=1) rfl;simpa using this
   have c2:wr.cell? ⟨b,off+kk*3+2,none⟩=some (.int .i64 t3):=by have:=(hS.ext hxw).at_ hy (i:=2) rfl;simpa using this
   clear hy hyw;generalize kdi l kk=fr at hG ⊢
   have D:(t1≤fr∨(fr<t1∧t2<1)∨(fr<t1∧1≤t2∧t3<t2)∨(fr<t1∧1≤t2∧t2≤t3∧20000<t3))∨(fr<t1∧1≤t2∧t2≤t3∧t3≤20000):=by omega
   rcases D with D|⟨d1,d2,d3,d4⟩
   ·have hF:Hid (kcg l=false):=by
     show _=_
     rw[hR.out,kam hlt (by rw[hG.out,Bool.eq_false_iff];simp[kmh];omega),Bool.and_false]
    rcases D with d1|⟨d1,d2⟩|⟨d1,d2,d3⟩|⟨d1,d2,d3,d4⟩
    all_goals
     go_wp2
     go_ret
     exact⟨retb hF.out.symm,xt⟩
   ·have hok:Hid (kmh (watG l kk)=true):=by show _=_;rw[hG.out];simp[kmh];omega
    go_wp2
    go_roundg (l.length-(kk+1))
    case measure=>omega
    case rel=>
     refine⟨kk+1,by omega,by omega,by rw[hT.out],by go_num,xt,fun (j:Nat) (hj:j<kk+1)=>?_⟩
     by_cases e:j=kk
     ·subst e;exact hok.out
     ·exact H.out j (by omega)
  ·have hltz:¬ (kk:Int)<(l.length:Int):=by omega
   obtain rfl:kk=l.length:=by omega
   have hall:=kap (n:=l.length) (f:=fun j=>kmh (watG l j)) (fun j hj=>H.out j hj)
   have hla:Hid (kcg l=decide (kdi l l.length=100000)):=by
    show _=_
    rw[hR.out,hall,Bool.and_true]
    obtain⟨m,hm⟩:∃m,l.length=m+1:=⟨l.length-1,by omega⟩
    rw[hm];rfl
   have HL:=Lib.hid hla;generalize kdi l l.length=fr at HL ⊢;clear hall hla hR
   go_wp2
   go_ret
   exact⟨retb (by rw[HL.out.out];first|rfl|(simp;done)|(rw[Bool.eq_iff_iff];simp)),hxw⟩
end Go.Proofs.YtcgghcicnanliaaGreatDoor
