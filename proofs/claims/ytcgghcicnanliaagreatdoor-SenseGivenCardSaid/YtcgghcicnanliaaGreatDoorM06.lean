/- Words for memory; Regions that draw their order; Drawn regions; Drawn regions at the wide fence; Drawn regions in a round of a range over a function; A drawn region in a round of a range over a function. Conditions: as each statement says. -/
import Derived.WalkKit
import Derived.WalkSpells
import Derived.WalkLawsBesides
import Derived.BigQuiet
import Derived.StillTailTactics
import Derived.Lib.Hide
import Derived.Sort.Grow
import Derived.StillTail
import Derived.Deep.Quiet
import Derived.Laws.Rows
import Derived.OrdersIn
import Derived.TacticsIn
import Derived.RangeFuncCalls
import Derived.Laws.Tables
import Derived.Deep.Slices
import Derived.Deep.Fields
import Derived.ChangeSame
import Derived.WideShapes
set_option linter.unusedVariables false
set_option linter.unusedSimpArgs false
namespace Go
theorem qaz {α : Type}{xs:Array α}{i:Nat}{b:α}(h:xs[i]?=some b):∃h:i<xs.size,xs[i]=b:=Array.getElem?_eq_some_iff.1 h
theorem qgq {α : Type}{l:List α}{i:Nat}(h:i<l.length):l[i]?=some l[i]:=List.getElem?_eq_getElem h
theorem qsa (w:World)(o:Obj):(w.alloc o).heap.size=w.heap.size+1:=World.size_alloc w o
theorem qan (w:World)(o:Obj):(w.alloc o).heap[w.heap.size]?=some o:=World.alloc_heap_new w o
theorem qmq {α : Type}{l:List α}{i:Nat}{a:α}(h:l[i]?=some a):a∈l:=List.mem_of_getElem? h
theorem qba (a b:Bool):((a&&b)=true)=(a=true∧b=true):=Bool.and_eq_true a b
end Go
namespace Go.Proofs.YtcgghcicnanliaaGreatDoor
open Go.RowKit
theorem retb {a b:Bool}(h:a=b):Ending.returned (.bool a)=.returned (.bool b):=by rw[h]
theorem reti {k:IntKind}{a b:Int}(h:a=b):Ending.returned (.int k a)=.returned (.int k b):=by rw[h]
def Ext (w w':World):Prop:=Below w.heap.size w w'
section
variable {a b c:World}
theorem Ext.refl (w:World):Ext w w:=Below.refl _ _
theorem Ext.trans (h:Ext a b)(k:Ext b c):Ext a c:=Below.trans h (Below.mono k h.size)
theorem Ext.alloc (h:Ext a b)(o:Obj):Ext a (b.alloc o):=Below.alloc h h.size o
theorem Ext.drew (h:Ext a b):Ext a b.drew:=Below.drew h
theorem Ext.drewN (h:Ext a b)(n:Nat):Ext a (b.drewN n):=⟨h.os,h.tape,h.output,h.size,h.block⟩
theorem Ext.setCell (h:Ext a b){p:Addr}(hp:a.heap.size≤p.block)(u:Value):Ext a (b.setCell p u):=Below.setCell h hp u
theorem Ext.len (h:Ext a b):a.heap.size≤b.heap.size:=h.size
theorem Ext.rules (h:Ext a b):(∀k o,k<a.heap.size→b.cell? ⟨k,o,none⟩=a.cell? ⟨k,o,none⟩)∧(∀k o,k<a.heap.size→b.frozen? ⟨k,o,none⟩=a.frozen? ⟨k,o,none⟩)∧a.heap.size≤b.heap.size:=
 ⟨fun k o hk=>Below.cell (p:=⟨k,o,none⟩) h hk,fun k o hk=>Below.frozen (p:=⟨k,o,none⟩) h hk,h.size⟩
theorem Ext.grown {row:Option Nat}(h:Ext a b)(hg:b.grownBy c row)(hr:∀k,row=some k→a.heap.size≤k):Ext a c:=Below.grown h hg h.size hr
end
theorem xt {a b:World}(h:Ext a b:=by repeat (first|exact Ext.refl _|assumption|refine Ext.alloc ?_ _|refine Ext.drew ?_|refine Ext.drewN ?_ _|refine Ext.trans ?_ (by assumption)|refine Ext.setCell ?_ (by first|exact Nat.le_refl _|omega|(simp only[World.size_alloc];omega)) _)):Ext a b:=h
theorem Ext.grow {a b:World}(h:Ext a b)(hd:a.drawn≤b.drawn):∃q os,b=Sort.grow (a.drewN q) os:=by
 refine⟨b.drawn-a.drawn,b.heap.extract a.heap.size b.heap.size,?_⟩
 obtain⟨h1,h2,h3,h4,h5⟩:=h
 cases b with
 | mk heap tape drawn os output=>
  simp only[Sort.grow,World.drewN]at *;subst h1 h2 h3
  congr 1
  ·refine Array.ext_getElem? fun i=>?_
   rw[Array.getElem?_append]
   split
   ·rename_i hi;rw[h5 i hi]
   ·rename_i hi
    rw[Array.getElem?_extract]
    split
    ·rw[show a.heap.size+(i-a.heap.size)=i by omega]
    ·rw[Array.getElem?_eq_none];omega
  ·omega
structure Xt (w:World) where
 world:World
 ext:Ext w world
instance (w:World):Inhabited (Xt w):=⟨⟨w,Ext.refl w⟩⟩
@[go_sem] theorem Xt.cell {w:World}(x:Xt w)(b o:Nat)(h:b<w.heap.size):x.world.cell? ⟨b,o,none⟩=w.cell? ⟨b,o,none⟩:=Below.cell (p:=⟨b,o,none⟩) x.ext h
@[go_sem] theorem Xt.froz {w:World}(x:Xt w)(b o:Nat)(h:b<w.heap.size):x.world.frozen? ⟨b,o,none⟩=w.frozen? ⟨b,o,none⟩:=Below.frozen (p:=⟨b,o,none⟩) x.ext h
theorem Xt.calls {w:World}{x:Xt w}{P:Program}{f:FuncId}{args:Array Value}{v:Value}
  (h:Calls P f args x.world fun e w'=>e=.returned v∧Ext x.world w'):Calls P f args x.world fun e w''=>e=.returned v∧∃y:Xt w,w''=y.world:=
 h.mono fun _ w' ⟨he,hx⟩=>⟨he,⟨w',x.ext.trans hx⟩,rfl⟩
theorem Xt.calls_same {w:World}{x:Xt w}{P:Program}{f:FuncId}{args:Array Value}{v:Value}
  (h:Calls P f args x.world fun e w'=>e=.returned v∧x.world=w'):Calls P f args x.world fun e w''=>e=.returned v∧∃y:Xt w,w''=y.world:=
 h.mono fun _ _ ⟨he,hx⟩=>⟨he,x,hx.symm⟩
theorem kad {P:Program}{id:Nat}{Q:Exit→Act→World→Prop}{a:Act}{w:World}{l:List Oper}(hm:P.follows .mixedOrders=true)(hB:Region.lexB .any l.toArray=true)
  (h:wpQuiet P l.toArray (fun w'=>∃x:Xt w,w'=x.world) (fun a'=>∀w',(∃x:Xt w,w'=x.world)→Q .normal a' w') l a):(Code.region id l.toArray true).wp P Q a w:=
 wp_region_quiet (C:=fun w'=>∃x:Xt w,w'=x.world) hm hB ⟨⟨w.drew,(Ext.refl w).drew⟩,rfl⟩ (by simpa using h)
theorem sameR {P:Program}{f:FuncId}{args:Array Value}{w:World}{v:Value}(h:Calls P f args w fun e w'=>e=.returned v∧w=w'):Calls P f args w fun e w'=>e=.returned v∧w'=w:=
 h.mono fun _ _ ⟨a,b⟩=>⟨a,b.symm⟩
theorem kfl {P:Program}{id:Nat}{Q:Exit→Act→World→Prop}{a:Act}{w:World}{l:List Oper}(n:Nat)(hm:P.follows .mixedOrders=true)(hB:Region.lexTailB .any l.toArray n=true)
  (h:∀W,Ext w W→Hid (w.drawn≤W.drawn)→wpStill P l.toArray W (fun a'=>wpList P l.toArray Q (l.drop n) a' W) (l.take n) a):(Code.region id l.toArray true).wp P Q a w:=
 wp_region_still_tail n hm hB (h w.drew (Ext.refl w).drew (Nat.le_succ _))
theorem kap {n:Nat}{f:Nat→Bool}(h:∀j,j<n→f j=true):(List.range n).all f=true:=by
 rw[List.all_eq_true];intro j hj;exact h j (List.mem_range.1 hj)
theorem kam {n:Nat}{f:Nat→Bool}{j:Nat}(hj:j<n)(h:f j=false):(List.range n).all f=false:=by
 rw[List.all_eq_false];exact⟨j,List.mem_range.2 hj,by simp[h]⟩
def inB (n lo hi:Int):Bool:=decide (lo≤n)&&decide (n≤hi)
def Sl {α : Type}(enc:α→List Value)(k:Nat)(w:World)(A:Option Addr)(l:List α):Prop:=
 0<l.length→∃b off,A=some ⟨b,off,none⟩∧b<w.heap.size∧∀j x i v,l[j]?=some x→(enc x)[i]?=some v→w.cell? ⟨b,off+j*k+i,none⟩=some v
section
variable {α : Type} {enc:α→List Value} {k:Nat} {w w':World} {A:Option Addr} {l:List α}
theorem Sl.nil:Sl enc k w A []:=fun h=>absurd h (by simp)
theorem Sl.ext (h:Sl enc k w A l)(hx:Ext w w'):Sl enc k w' A l:=fun hl=>by
 obtain⟨b,off,e,hb,hc⟩:=h hl
 exact⟨b,off,e,Nat.lt_of_lt_of_le hb hx.len,fun j x i v hj hi=>(Below.cell (p:=⟨b,_,none⟩) hx hb).trans (hc j x i v hj hi)⟩
theorem Sl.at_ {b off:Nat}(h:Sl enc k w (some ⟨b,off,none⟩) l){j i:Nat}{x:α}{v:Value}(hj:l[j]?=some x)(hi:(enc x)[i]?=some v):w.cell? ⟨b,off+j*k+i,none⟩=some v:=by
 have hl:0<l.length:=by have:=List.getElem?_eq_some_iff.1 hj;obtain⟨h1,_⟩:=this;omega
 obtain⟨b',off',e,_,hc⟩:=h hl;cases e
 exact hc j x i v hj hi
theorem Sl.blk {b off:Nat}(h:Sl enc k w (some ⟨b,off,none⟩) l)(hl:0<l.length):b<w.heap.size:=by
 obtain⟨b',off',e,hb,_⟩:=h hl;cases e
 exact hb
theorem getElem?_rows (hk:∀x,(enc x).length=k):∀(l:List α) (j i:Nat) (x:α) (v:Value),l[j]?=some x→(enc x)[i]?=some v→(l.flatMap enc)[j*k+i]?=some v
 | [],j,i,x,v,hj,_=>by simp at hj
 | y::l,0,i,x,v,hj,hi=>by
  simp at hj;subst hj
  have hlt:i<(enc y).length:=(List.getElem?_eq_some_iff.1 hi).1
  rw[List.flatMap_cons,Nat.zero_mul,Nat.zero_add,List.getElem?_append_left hlt];exact hi
 | y::l,j+1,i,x,v,hj,hi=>by
  have h1:(j+1)*k+i=(enc y).length+(j*k+i):=by rw[hk,Nat.succ_mul];omega
  rw[List.flatMap_cons,h1,List.getElem?_append_right (by omega),Nat.add_sub_cancel_left]
  exact getElem?_rows hk l j i x v (by simpa using hj) hi
theorem Sl.new (hk:∀x,(enc x).length=k)(w:World)(l:List α)(t:TypeId):Sl enc k (w.alloc (.cells (l.flatMap enc).toArray t)) (some ⟨w.heap.size,0,none⟩) l:=fun _=>
 ⟨w.heap.size,0,rfl,by simp,fun j x i v hj hi=>by
  have:=getElem?_rows hk l j i x v hj hi
  simp[this]⟩
theorem Sl.addr (h:Sl enc k w A l)(hl:0<l.length):∃b off,A=some ⟨b,off,none⟩:=by
 obtain⟨b,off,e,_⟩:=h hl
 exact⟨b,off,e⟩
end
end Go.Proofs.YtcgghcicnanliaaGreatDoor
namespace Go
section
variable {P:Program} {ops:Array Oper} {md:Region.Mode} {C:World→Prop}
def kmf (P:Program)(md:Region.Mode)(ops:Array Oper)(C:World→Prop)(n:Nat)(L:Array Bool→Act→Prop):Nat→Array Bool→Act→Prop
 | 0,listed,a=>L listed a
 | f+1,listed,a=>
  Region.ready md ops listed≠[]∧∀i∈Region.ready md ops listed,i<n∧qOp P ops C i (kmf P md ops C n L f (listed.setIfInBounds i true)) a
theorem khv {n g:Nat}{L:Array Bool→Act→Prop}{Q':Exit→Act→World→Prop}(hL:∀listed a w,C w→L listed a→wpAny P md ops Q' g listed a w) :
  ∀(f:Nat) (listed:Array Bool) (a:Act) (w:World),C w→kmf P md ops C n L f listed a→wpAny P md ops Q' (f+g) listed a w
 | 0,listed,a,w,hw,h=>by rw[Nat.zero_add];exact hL _ _ _ hw h
 | f+1,listed,a,w,hw,h=>by
  rw[show f+1+g=(f+g)+1 by omega]
  exact⟨fun h0=>absurd h0 h.1,fun i hi=>wpOp_of_qOp hw (fun a' w' hw' h'=>khv hL f _ a' w' hw' h') (h.2 i hi).2⟩
theorem wpAnyLQ_first {n i:Nat}{oi:Oper}{v:Value}{L:Array Bool→Act→Prop}(hi:ops[i]?=some oi)(hsel:∀(j:Nat) (o:Oper) cs b,ops[j]?=some o→o.op≠.select cs b)
  (hs:Region.sinkB md ops n=true) (hc:Region.chainB md ops n=true) (hn:n<ops.size) (hin:i<n)
  (hdone:∀listed a,L listed a→∀j∈Region.ready md ops listed,n≤j) :
  ∀(f:Nat) (listed:Array Bool) (a:Act),HeadInv md ops n listed →
   (∀j oj,ops[j]?=some oj→j≠i→listed.getD j true=false→(∀e∈oj.after,Region.binds md e=true→e.on≠i)→oi.apart ops oj=true) →
   i∈Region.ready md ops listed→YieldsIn P ops C oi v a →
   kmf P md ops C n L f (listed.setIfInBounds i true) (a.put oi.dst v)→kmf P md ops C n L (f+1) listed a:=by
 intro f
 induction f with
 | zero=>
  intro listed a inv _ hr hy H;have hun:=(mem_ready.1 hr).1
  refine⟨fun h=>(by rw[h]at hr;cases hr),fun j hj=>?_⟩
  have hjn:j<n:=by
   rcases Nat.lt_or_ge j n with h|h
   ·exact h
   ·exact absurd hj (tail_waits hs hc hn inv _ i rfl hin hun j h)
  refine⟨hjn,?_⟩
  by_cases hji:j=i
  ·subst hji;exact hy.qOp hi H
  ·have:=hdone _ _ H j (ready_mono hj hji)
   omega
 | succ f ih=>
  intro listed a inv hfree hr hy H;have hun:=(mem_ready.1 hr).1
  refine⟨fun h=>(by rw[h]at hr;cases hr),fun j hj=>?_⟩
  have hjn:j<n:=by
   rcases Nat.lt_or_ge j n with h|h
   ·exact h
   ·exact absurd hj (tail_waits hs hc hn inv _ i rfl hin hun j h)
  refine⟨hjn,?_⟩
  by_cases hji:j=i
  ·subst hji;exact hy.qOp hi H
  ·have h1:=(H.2 j (ready_mono hj hji)).2
   obtain⟨hjun,oj,hoj,hall⟩:=mem_ready.1 hj
   have hnot:∀e∈oj.after,Region.binds md e=true→e.on≠i:=fun e he hb heq=>by
    have h1:=hall e he hb;rw[heq,getD_both hun]at h1;cases h1
   have h2:=qOp_put hoj (hfree j oj hoj hji hjun hnot) (fun cs b=>hsel i oi cs b hi) (fun cs b=>hsel j oj cs b hoj) hy h1
   have hfree':∀k ok,ops[k]?=some ok→k≠i→(listed.setIfInBounds j true).getD k true=false →
     (∀e∈ok.after,Region.binds md e=true→e.on≠i)→oi.apart ops ok=true:=fun k ok hk hki hun hno=>by
    refine hfree k ok hk hki ?_ hno
    by_cases hjk:j=k
    ·subst hjk;exact hjun
    ·rw[getD_set_ne true hjk]at hun;exact hun
   refine qOp_mono (fun a' h3=>ih (listed.setIfInBounds j true) a' (inv.set hj hjn) hfree' (ready_mono hr (Ne.symm hji)) h3.1 ?_) h2
   rw[Array.setIfInBounds_comm _ _ hji]
   exact h3.2
theorem kme {n g:Nat}{Lq:Act→Prop}(hsel:Region.noSelect ops=true)(hs:Region.sinkB md ops n=true)(hc:Region.chainB md ops n=true)(hn:n<ops.size) :
  ∀(l:List Oper) (k:Nat) (listed:Array Bool) (a:Act),(∀j,j<l.length→l[j]?=ops[k+j]?)→k+l.length=n→HeadInv md ops n listed →
  Region.lexHead md ops g l.length k listed=true→wpQuiet P ops C Lq l a →
  kmf P md ops C n (fun listed' a'=>Region.seqB md ops g n listed'=true∧Lq a') l.length listed a
 | [],k,listed,a,_,hk,_,hB,h=>by
  have:k=n:=by simpa using hk
  subst this
  exact⟨by simpa[Region.lexHead]using hB,h⟩
 | o::l,k,listed,a,hl,hk,inv,hB,h=>by
  have h0:ops[k]?=some o:=by simpa using (hl 0 (by simp)).symm
  simp only[List.length_cons,Region.lexHead,qba]at hB;obtain⟨⟨hr,hf⟩,hB'⟩:=hB
  have hkn:k<n:=by simp only[List.length_cons]at hk;omega
  have hr':k∈Region.ready md ops listed:=by simpa using hr
  have hst:qOp P ops C k (wpQuiet P ops C Lq l) a:=by unfold qOp;simp only[h0];exact h
  obtain⟨v,hy,hK⟩:=yieldsIn_of_qOp h0 hst
  exact wpAnyLQ_first h0 (Region.noSelect_spec hsel) hs hc hn hkn (fun listed' a' hL=>seqB_ready hL.1) l.length listed a inv (Region.free_spec h0 hf) hr' hy
   (kme hsel hs hc hn l (k+1) _ _ (fun j hj=>by have:=hl (j+1) (by simp;omega);simpa[Nat.add_assoc,Nat.add_comm 1 j]using this) (by simp only[List.length_cons]at hk;omega) (inv.set hr' hkn) hB' hK)
theorem kho {id:Nat}{Q:Exit→Act→World→Prop}{a:Act}{w:World}{l:List Oper}(n:Nat)(hm:P.follows .mixedOrders=true)(hB:Region.lexTailB .any l.toArray n=true)(hC:C { w with drawn:=w.drawn+1 })
  (h:wpQuiet P l.toArray C (fun a'=>∀w',C w'→wpList P l.toArray Q (l.drop n) a' w') (l.take n) a):(Code.region id l.toArray true).wp P Q a w:=by
 simp only[Region.lexTailB,qba,decide_eq_true_eq]at hB;obtain⟨⟨⟨⟨hsel,hn⟩,hs⟩,hc⟩,hlex⟩:=hB
 have hn':n<l.length:=by simpa using hn
 have htl:(l.take n).length=n:=by simp;omega
 have hdl:(l.drop n).length=l.toArray.size-n:=by simp
 have inv0:HeadInv .any l.toArray n (Array.replicate l.toArray.size false):=
  ⟨by simp,fun j oj _ hl=>(by rw[getD_replicate_false]at hl;cases hl),fun t _ ht=>getD_in (by simpa using ht) (getD_replicate_false _ _)⟩
 have H:=kme (md:=.any) (g:=l.toArray.size-n) hsel hs hc hn (l.take n) 0 _ a (fun j hj=>by
  have hj':j<n:=by rw[htl]at hj;exact hj
  simp[hj']) (by simpa using htl) inv0 (by rw[htl];exact hlex) h
 refine wp_region_any hm ?_
 have:=khv (Q':=Q) (g:=l.toArray.size-n) (fun listed a' w' hw' hL=>by
  have:=wpAny_of_seq (md:=.any) (Q':=Q) (l.drop n) n listed a' w' (fun j=>by simp[List.getElem?_drop]) (by rw[hdl];exact hL.1) (hL.2 w' hw')
  rwa [hdl]at this) _ _ _ _ hC H
 rw[htl,show n+(l.toArray.size-n)=l.toArray.size by omega]at this
 exact this
end
end Go
namespace Go.Proofs.YtcgghcicnanliaaGreatDoor
open Go.RowKit
theorem kav {P:Program}{id:Nat}{Q:Exit→Act→World→Prop}{a:Act}{w:World}{l:List Oper}(n:Nat)(hm:P.follows .mixedOrders=true)(hB:Region.lexTailB .any l.toArray n=true)
  (h:wpQuiet P l.toArray (fun w'=>∃x:Xt w,w'=x.world) (fun a'=>∀w',(∃x:Xt w,w'=x.world)→wpList P l.toArray Q (l.drop n) a' w') (l.take n) a):(Code.region id l.toArray true).wp P Q a w:=
 kho (C:=fun w'=>∃x:Xt w,w'=x.world) n hm hB ⟨⟨w.drew,(Ext.refl w).drew⟩,rfl⟩ h
end Go.Proofs.YtcgghcicnanliaaGreatDoor
namespace Go
open Go.RowKit Go.Proofs.YtcgghcicnanliaaGreatDoor
def isAl (o:Oper):Bool:=match o.op with
 | .alloc _=>true
 | _=>false
section
variable {P:Program} {ops:Array Oper} {md:Region.Mode} {w:World}
def Cl (W:World):World→Prop:=fun W'=>∃x:Xt W,W'=x.world
theorem Cl.ext {W W':World}(h:Cl W W'):Ext W W':=by obtain⟨x,rfl⟩:=h;exact x.ext
theorem Cl.refl (W:World):Cl W W:=⟨⟨W,Ext.refl W⟩,rfl⟩
def YR (P:Program)(ops:Array Oper)(w:World)(o:Oper)(v:Value)(a:Act):Prop:=∀W,Ext w W→YieldsIn P ops (Cl W) o v a
theorem YR.put {o:Oper}{v:Value}{a:Act}(h:YR P ops w o v a)(hs:∀cs b,o.op≠.select cs b){d:Option Tmp}(hd:∀t,d=some t→t ∉ o.looksAt ops)(u:Value):YR P ops w o v (a.put d u):=
 fun W hW=>(h W hW).of_same (execOp_put o hs a d u hd) (wanted_put o a d u hd)
theorem YR.unput {o:Oper}{v:Value}{a:Act}{d:Option Tmp}{u:Value}(h:YR P ops w o v (a.put d u))(hs:∀cs b,o.op≠.select cs b)(hd:∀t,d=some t→t ∉ o.looksAt ops):YR P ops w o v a:=
 fun W hW=>(h W hW).of_same (execOp_put o hs a d u hd).symm (wanted_put o a d u hd).symm
def wpR (P:Program)(ops:Array Oper)(w:World)(Q:Act→Prop):List Oper→Act→Prop
 | [],a=>Q a
 | o::r,a=>∃v,YR P ops w o v a∧wpR P ops w Q r (a.put o.dst v)
def wpS (P:Program)(md:Region.Mode)(ops:Array Oper)(w:World)(n:Nat)(L:Array Bool→Act→Prop):Nat→Array Bool→Act→Prop
 | 0,listed,a=>L listed a
 | f+1,listed,a=>Region.ready md ops listed≠[]∧∀i∈Region.ready md ops listed,i<n∧∀o,ops[i]?=some o →
  (isAl o=true→wpS P md ops w n L f (listed.setIfInBounds i true) a)∧(isAl o=false→∃v,YR P ops w o v a∧wpS P md ops w n L f (listed.setIfInBounds i true) (a.put o.dst v))
theorem wpS_first {n i:Nat}{oi:Oper}{v:Value}{L:Array Bool→Act→Prop}(hi:ops[i]?=some oi)(hal:isAl oi=false)(hsel:∀(j:Nat) (o:Oper) cs b,ops[j]?=some o→o.op≠.select cs b)
  (hs:Region.sinkB md ops n=true) (hc:Region.chainB md ops n=true) (hn:n<ops.size) (hin:i<n)
  (hdone:∀listed a,L listed a→∀j∈Region.ready md ops listed,n≤j) :
  ∀(f:Nat) (listed:Array Bool) (a:Act),HeadInv md ops n listed →
   (∀j oj,ops[j]?=some oj→j≠i→listed.getD j true=false→(∀e∈oj.after,Region.binds md e=true→e.on≠i)→oi.apart ops oj=true) →
   i∈Region.ready md ops listed→YR P ops w oi v a →
   wpS P md ops w n L f (listed.setIfInBounds i true) (a.put oi.dst v)→wpS P md ops w n L (f+1) listed a:=by
 intro f
 induction f with
 | zero=>
  intro listed a inv _ hr hy H;have hun:=(mem_ready.1 hr).1
  refine⟨fun h=>(by rw[h]at hr;cases hr),fun j hj=>?_⟩
  have hjn:j<n:=by
   rcases Nat.lt_or_ge j n with h|h
   ·exact h
   ·exact absurd hj (tail_waits hs hc hn inv _ i rfl hin hun j h)
  refine⟨hjn,fun o ho=>?_⟩
  by_cases hji:j=i
  ·subst hji
   rw[hi]at ho;cases ho
   exact⟨fun h=>(by rw[hal]at h;cases h),fun _=>⟨v,hy,H⟩⟩
  ·have:=hdone _ _ H j (ready_mono hj hji)
   omega
 | succ f ih=>
  intro listed a inv hfree hr hy H;have hun:=(mem_ready.1 hr).1
  refine⟨fun h=>(by rw[h]at hr;cases hr),fun j hj=>?_⟩
  have hjn:j<n:=by
   rcases Nat.lt_or_ge j n with h|h
   ·exact h
   ·exact absurd hj (tail_waits hs hc hn inv _ i rfl hin hun j h)
  refine⟨hjn,fun oj hoj=>?_⟩
  by_cases hji:j=i
  ·subst hji
   rw[hi]at hoj;cases hoj
   exact⟨fun h=>(by rw[hal]at h;cases h),fun _=>⟨v,hy,H⟩⟩
  ·obtain⟨h1,h2⟩:=(H.2 j (ready_mono hj hji)).2 oj hoj
   obtain⟨hjun,oj',hoj',hall⟩:=mem_ready.1 hj;rw[hoj]at hoj'
   cases hoj'
   have hnot:∀e∈oj.after,Region.binds md e=true→e.on≠i:=fun e he hb heq=>by
    have h1:=hall e he hb;rw[heq,getD_both hun]at h1;cases h1
   have hap:=hfree j oj hoj hji hjun hnot;obtain⟨p1,p2,p3⟩:=Oper.apart_spec hap
   have hfree':∀k ok,ops[k]?=some ok→k≠i→(listed.setIfInBounds j true).getD k true=false →
     (∀e∈ok.after,Region.binds md e=true→e.on≠i)→oi.apart ops ok=true:=fun k ok hk hki hun hno=>by
    refine hfree k ok hk hki ?_ hno
    by_cases hjk:j=k
    ·subst hjk;exact hjun
    ·rw[getD_set_ne true hjk]at hun;exact hun
   refine⟨fun hja=>?_,fun hja=>?_⟩
   ·refine ih (listed.setIfInBounds j true) a (inv.set hj hjn) hfree' (ready_mono hr (Ne.symm hji)) hy ?_
    rw[Array.setIfInBounds_comm _ _ hji]
    exact h1 hja
   ·obtain⟨u,hu,hn'⟩:=h2 hja
    refine⟨u,hu.unput (fun cs b=>hsel j oj cs b hoj) p1,?_⟩
    refine ih (listed.setIfInBounds j true) _ (inv.set hj hjn) hfree' (ready_mono hr (Ne.symm hji)) (hy.put (fun cs b=>hsel i oi cs b hi) p3 u) ?_
    rw[Array.setIfInBounds_comm _ _ hji,←Act.put_comm a v u p2]
    exact hn'
theorem wpS_skip {n i:Nat}{oi:Oper}{L:Array Bool→Act→Prop}(hi:ops[i]?=some oi)(hal:isAl oi=true)
  (hs:Region.sinkB md ops n=true) (hc:Region.chainB md ops n=true) (hn:n<ops.size) (hin:i<n)
  (hdone:∀listed a,L listed a→∀j∈Region.ready md ops listed,n≤j) :
  ∀(f:Nat) (listed:Array Bool) (a:Act),HeadInv md ops n listed→i∈Region.ready md ops listed →
   wpS P md ops w n L f (listed.setIfInBounds i true) a→wpS P md ops w n L (f+1) listed a:=by
 intro f
 induction f with
 | zero=>
  intro listed a inv hr H;have hun:=(mem_ready.1 hr).1
  refine⟨fun h=>(by rw[h]at hr;cases hr),fun j hj=>?_⟩
  have hjn:j<n:=by
   rcases Nat.lt_or_ge j n with h|h
   ·exact h
   ·exact absurd hj (tail_waits hs hc hn inv _ i rfl hin hun j h)
  refine⟨hjn,fun o ho=>?_⟩
  by_cases hji:j=i
  ·subst hji
   rw[hi]at ho;cases ho
   exact⟨fun _=>H,fun h=>(by rw[hal]at h;cases h)⟩
  ·have:=hdone _ _ H j (ready_mono hj hji)
   omega
 | succ f ih=>
  intro listed a inv hr H;have hun:=(mem_ready.1 hr).1
  refine⟨fun h=>(by rw[h]at hr;cases hr),fun j hj=>?_⟩
  have hjn:j<n:=by
   rcases Nat.lt_or_ge j n with h|h
   ·exact h
   ·exact absurd hj (tail_waits hs hc hn inv _ i rfl hin hun j h)
  refine⟨hjn,fun oj hoj=>?_⟩
  by_cases hji:j=i
  ·subst hji
   rw[hi]at hoj;cases hoj
   exact⟨fun _=>H,fun h=>(by rw[hal]at h;cases h)⟩
  ·obtain⟨h1,h2⟩:=(H.2 j (ready_mono hj hji)).2 oj hoj
   refine⟨fun hja=>?_,fun hja=>?_⟩
   ·refine ih (listed.setIfInBounds j true) a (inv.set hj hjn) (ready_mono hr (Ne.symm hji)) ?_
    rw[Array.setIfInBounds_comm _ _ hji]
    exact h1 hja
   ·obtain⟨u,hu,hn'⟩:=h2 hja
    refine⟨u,hu,ih (listed.setIfInBounds j true) _ (inv.set hj hjn) (ready_mono hr (Ne.symm hji)) ?_⟩
    rw[Array.setIfInBounds_comm _ _ hji]
    exact hn'
theorem wpS_lex {n g:Nat}{Lq:Act→Prop}(hsel:Region.noSelect ops=true)(hs:Region.sinkB md ops n=true)(hc:Region.chainB md ops n=true)(hn:n<ops.size) :
  ∀(l:List Oper) (k:Nat) (listed:Array Bool) (a:Act),(∀j,j<l.length→l[j]?=ops[k+j]?)→k+l.length=n→HeadInv md ops n listed→(∀j,j<k→listed.getD j true=true) →
  Region.lexHead md ops g l.length k listed=true→wpR P ops w Lq (l.filter fun o=>!isAl o) a →
  wpS P md ops w n (fun listed' a'=>Region.seqB md ops g n listed'=true∧(∀j,j<n→listed'.getD j true=true)∧Lq a') l.length listed a
 | [],k,listed,a,_,hk,_,hlt,hB,h=>by
  have:k=n:=by simpa using hk
  subst this
  exact⟨by simpa[Region.lexHead]using hB,hlt,h⟩
 | o::l,k,listed,a,hl,hk,inv,hlt,hB,h=>by
  have h0:ops[k]?=some o:=by simpa using (hl 0 (by simp)).symm
  simp only[List.length_cons,Region.lexHead,qba]at hB;obtain⟨⟨hr,hf⟩,hB'⟩:=hB
  have hkn:k<n:=by simp only[List.length_cons]at hk;omega
  have hr':k∈Region.ready md ops listed:=by simpa using hr
  have hlt':∀j,j<k+1→(listed.setIfInBounds k true).getD j true=true:=fun j hj=>by
   by_cases e:k=j
   ·subst e
    rcases Nat.lt_or_ge k listed.size with h'|h'
    ·simp[h']
    ·simp[Array.getElem?_eq_none h']
   ·rw[getD_set_ne true e];exact hlt j (by omega)
  have hpos:∀j,j<l.length→l[j]?=ops[k+1+j]?:=fun j hj=>by have:=hl (j+1) (by simp;omega);simpa[Nat.add_assoc,Nat.add_comm 1 j]using this
  have hlen:k+1+l.length=n:=by simp only[List.length_cons]at hk;omega
  cases hal:isAl o with
  | true=>
   rw[List.filter_cons_of_neg (by simp[hal])]at h
   exact wpS_skip h0 hal hs hc hn hkn (fun listed' a' hL=>seqB_ready hL.1) l.length listed a inv hr'
    (wpS_lex hsel hs hc hn l (k+1) _ _ hpos hlen (inv.set hr' hkn) hlt' hB' h)
  | false=>
   rw[List.filter_cons_of_pos (by simp[hal])]at h
   obtain⟨v,hy,hK⟩:=h
   exact wpS_first h0 hal (Region.noSelect_spec hsel) hs hc hn hkn (fun listed' a' hL=>seqB_ready hL.1) l.length listed a inv (Region.free_spec h0 hf) hr' hy
    (wpS_lex hsel hs hc hn l (k+1) _ _ hpos hlen (inv.set hr' hkn) hlt' hB' hK)
abbrev Als:=List (Nat × Tmp × Obj)
def ptrB (g:Nat):Value:=.pointer (some ⟨g,0,none⟩)
def actB (As:Als)(listed:Array Bool)(b:Nat→Nat)(a:Act):Act:=As.foldl (fun a x=>if listed.getD x.1 true=true then a.put (some x.2.1) (ptrB (b x.1)) else a) a
theorem kgb (x:Nat × Tmp × Obj)(As:Als)(listed:Array Bool)(b:Nat→Nat)(a:Act):actB (x::As) listed b a=actB As listed b (if listed.getD x.1 true=true then a.put (some x.2.1) (ptrB (b x.1)) else a):=rfl
theorem actB_all:∀(As:Als) (listed:Array Bool) (b:Nat→Nat) (a:Act),(∀x∈As,listed.getD x.1 true=true)→actB As listed b a=As.foldl (fun a x=>a.put (some x.2.1) (ptrB (b x.1))) a
 | [],_,_,_,_=>rfl
 | x::As,listed,b,a,h=>by
  rw[kgb,if_pos (h x (by simp)),List.foldl_cons]
  exact actB_all As listed b _ (fun y hy=>h y (by simp[hy]))
theorem actB_none:∀(As:Als) (listed:Array Bool) (b:Nat→Nat) (a:Act),(∀x∈As,listed.getD x.1 true=false)→actB As listed b a=a
 | [],_,_,_,_=>rfl
 | x::As,listed,b,a,h=>by
  rw[kgb,if_neg (by rw[h x (by simp)];simp)]
  exact actB_none As listed b _ (fun y hy=>h y (by simp[hy]))
theorem als_inj:∀ {As:Als} {x y:Nat × Tmp × Obj},(As.map (·.1)).Nodup→x∈As→y∈As→y.1=x.1→y=x
 | [],_,_,_,h,_,_=>by cases h
 | z::As,x,y,n1,hx,hy,e=>by
  simp only[List.map_cons,List.nodup_cons]at n1
  rcases List.mem_cons.1 hy with rfl|hy'<;>rcases List.mem_cons.1 hx with rfl|hx'
  ·rfl
  ·exact absurd (List.mem_map.2 ⟨x,hx',e.symm⟩) n1.1
  ·exact absurd (List.mem_map.2 ⟨y,hy',e⟩) n1.1
  ·exact als_inj n1.2 hx' hy' e
theorem kma:∀(As:Als) (listed:Array Bool) (b:Nat→Nat) (a:Act) (d:Option Tmp) (v:Value),(∀x∈As,d≠some x.2.1)→actB As listed b (a.put d v)=(actB As listed b a).put d v
 | [],_,_,_,_,_,_=>rfl
 | x::As,listed,b,a,d,v,h=>by
  show actB As listed b (if listed.getD x.1 true=true then (a.put d v).put (some x.2.1) (ptrB (b x.1)) else a.put d v)=(actB As listed b (if listed.getD x.1 true=true then a.put (some x.2.1) (ptrB (b x.1)) else a)).put d v
  split
  ·rw[Act.put_comm a v (ptrB (b x.1)) (fun t e e'=>h x (by simp) (e.trans e'.symm)),kma As _ _ _ _ _ (fun y hy=>h y (by simp[hy]))]
  ·rw[kma As _ _ _ _ _ (fun y hy=>h y (by simp[hy]))]
theorem koh:∀(As:Als) (listed listed':Array Bool) (b b':Nat→Nat) (a:Act),(∀x∈As,listed'.getD x.1 true=listed.getD x.1 true)→(∀x∈As,b' x.1=b x.1)→actB As listed' b' a=actB As listed b a
 | [],_,_,_,_,_,_,_=>rfl
 | x::As,listed,listed',b,b',a,h,k=>by
  show actB As listed' b' (if listed'.getD x.1 true=true then a.put (some x.2.1) (ptrB (b' x.1)) else a)=actB As listed b (if listed.getD x.1 true=true then a.put (some x.2.1) (ptrB (b x.1)) else a)
  rw[h x (by simp),k x (by simp)]
  exact koh As _ _ _ _ _ (fun y hy=>h y (by simp[hy])) (fun y hy=>k y (by simp[hy]))
theorem actB_new:∀(As:Als) (listed:Array Bool) (b:Nat→Nat) (a:Act) (x:Nat × Tmp × Obj) (g:Nat),x∈As→(As.map (·.1)).Nodup→(As.map (·.2.1)).Nodup→listed.getD x.1 true=false →
  actB As (listed.setIfInBounds x.1 true) (fun k=>if k=x.1 then g else b k) a=(actB As listed b a).put (some x.2.1) (ptrB g)
 | [],_,_,_,_,_,h,_,_,_=>by cases h
 | y::As,listed,b,a,x,g,h,n1,n2,hun=>by
  simp only[List.map_cons,List.nodup_cons]at n1 n2
  rcases List.mem_cons.1 h with rfl|h
  ·rw[kgb,kgb]
   have e1:(listed.setIfInBounds x.1 true).getD x.1 true=true:=by
    rcases Nat.lt_or_ge x.1 listed.size with h'|h'
    ·simp[h']
    ·simp[Array.getElem?_eq_none h']
   rw[e1,hun,if_pos rfl,if_pos rfl,if_neg (by simp)]
   rw[kma As _ _ _ _ _ (fun z hz e=>n2.1 (by injection e with e;rw[e];exact List.mem_map.2 ⟨z,hz,rfl⟩))]
   congr 1
   have hne:∀z∈As,z.1≠x.1:=fun z hz e=>n1.1 (by rw[←e];exact List.mem_map.2 ⟨z,hz,rfl⟩)
   exact koh As _ _ _ _ _ (fun z hz=>getD_set_ne true (Ne.symm (hne z hz))) (fun z hz=>by simp[hne z hz])
  ·have hyx:y.1≠x.1:=fun e=>n1.1 (by rw[e];exact List.mem_map.2 ⟨x,h,rfl⟩)
   rw[kgb,kgb];rw[getD_set_ne true (Ne.symm hyx),if_neg hyx]
   exact actB_new As listed b _ x g h n1.2 n2.2 hun
theorem YR.actB {o:Oper}{v:Value}(hs:∀cs b,o.op≠.select cs b):∀(As:Als) (listed:Array Bool) (b:Nat→Nat) (a:Act),(∀x∈As,x.2.1 ∉ o.looksAt ops)→YR P ops w o v a→YR P ops w o v (actB As listed b a)
 | [],_,_,_,_,h=>h
 | x::As,listed,b,a,hx,h=>by
  show YR P ops w o v (Go.actB As listed b (if listed.getD x.1 true=true then a.put (some x.2.1) (ptrB (b x.1)) else a))
  refine YR.actB hs As listed b _ (fun y hy=>hx y (by simp[hy])) ?_
  split
  ·exact h.put hs (fun t e=>by cases e;exact hx x (by simp)) _
  ·exact h
def InvB (w:World)(As:Als)(listed:Array Bool)(b:Nat→Nat)(W:World):Prop:=
 Ext w W∧(∀x∈As,listed.getD x.1 true=true→w.heap.size≤b x.1∧W.heap[b x.1]?=some x.2.2)∧(∀x∈As,∀y∈As,listed.getD x.1 true=true→listed.getD y.1 true=true→x.1≠y.1→b x.1≠b y.1)
theorem InvB.ext {As:Als}{listed listed':Array Bool}{b:Nat→Nat}{W W':World}(h:InvB w As listed b W)(hx:Ext W W')(hl:∀x∈As,listed'.getD x.1 true=listed.getD x.1 true):InvB w As listed' b W':=by
 obtain⟨h1,h2,h3⟩:=h
 refine⟨h1.trans hx,fun x hx' hl'=>?_,fun x hx' y hy' l1 l2=>h3 x hx' y hy' (by rw[←hl x hx'];exact l1) (by rw[←hl y hy'];exact l2)⟩
 obtain⟨g1,g2⟩:=h2 x hx' (by rw[←hl x hx'];exact hl')
 exact⟨g1,(hx.block _ (qaz g2).1).trans g2⟩
theorem kke {n g:Nat}{As:Als}{L:Array Bool→Act→Prop}{Q':Exit→Act→World→Prop}(hn:n<ops.size)(n1:(As.map (·.1)).Nodup)(n2:(As.map (·.2.1)).Nodup)
  (hA:∀(i:Nat) (o:Oper),i<n→ops[i]?=some o→isAl o=true→∃x∈As,x.1=i∧o.dst=some x.2.1∧o.guard=none∧∀(a:Act) (W:World),(execOp a.eval o).run P W=.ok (.value (ptrB W.heap.size)) (W.alloc x.2.2))
  (hQ:∀(i:Nat) (o:Oper),i<n→ops[i]?=some o→isAl o=false→(∀cs b,o.op≠.select cs b)∧∀x∈As,x.2.1 ∉ o.looksAt ops∧o.dst≠some x.2.1∧x.1≠i)
  (hL:∀(listed:Array Bool) (a:Act) (b:Nat→Nat) (W:World),InvB w As listed b W→L listed a→wpAny P md ops Q' g listed (actB As listed b a) W) :
  ∀(f:Nat) (listed:Array Bool) (a:Act) (b:Nat→Nat) (W:World),InvB w As listed b W→wpS P md ops w n L f listed a→wpAny P md ops Q' (f+g) listed (actB As listed b a) W
 | 0,listed,a,b,W,hI,h=>by rw[Nat.zero_add];exact hL _ _ _ _ hI h
 | f+1,listed,a,b,W,hI,h=>by
  rw[show f+1+g=(f+g)+1 by omega]
  refine⟨fun h0=>absurd h0 h.1,fun i hi=>?_⟩
  obtain⟨hin,hh⟩:=h.2 i hi;obtain⟨hun,o,ho,_⟩:=mem_ready.1 hi;obtain⟨h1,h2⟩:=hh o ho
  cases hal:isAl o with
  | true=>
   obtain⟨x,hx,rfl,hd,hg,hrun⟩:=hA i o hin ho hal;unfold wpOp;simp only[ho]
   have hw:Region.wanted o (yielded ops (actB As listed b a).tmps)=true:=by unfold Region.wanted;rw[hg]
   rw[hw,if_pos rfl]
   refine .inl ?_
   unfold Oper.wp;rw[hrun]
   show wpAny P md ops Q' (f+g) _ ((actB As listed b a).put o.dst (ptrB W.heap.size)) (W.alloc x.2.2)
   rw[hd,←actB_new As listed b a x W.heap.size hx n1 n2 hun]
   refine kke hn n1 n2 hA hQ hL f _ a _ _ ?_ (h1 hal)
   obtain⟨g1,g2,g3⟩:=hI
   have hsz:∀y∈As,listed.getD y.1 true=true→b y.1<W.heap.size:=fun y hy hl=>(qaz (g2 y hy hl).2).1
   have hlist:∀y∈As,y.1≠x.1→(listed.setIfInBounds x.1 true).getD y.1 true=true→listed.getD y.1 true=true:=fun y hy hne hl=>by rwa [getD_set_ne true (Ne.symm hne)]at hl
   have heq:∀y∈As,y.1=x.1→y=x:=fun y hy e=>als_inj n1 hx hy e
   refine⟨g1.alloc _,fun y hy hl=>?_,fun y hy z hz l1 l2 hyz=>?_⟩
   ·by_cases e:y.1=x.1
    ·obtain rfl:=heq y hy e
     simp only[if_true]
     exact⟨g1.len,Array.getElem?_push_size⟩
    ·simp only[if_neg e]
     obtain⟨q1,q2⟩:=g2 y hy (hlist y hy e hl)
     exact⟨q1,(Below.heap_alloc W _ _ (qaz q2).1).trans q2⟩
   ·by_cases e1:y.1=x.1<;>by_cases e2:z.1=x.1
    ·exact absurd (e1.trans e2.symm) hyz
    ·simp only[if_pos e1,if_neg e2]
     have:=hsz z hz (hlist z hz e2 l2)
     omega
    ·simp only[if_neg e1,if_pos e2]
     have:=hsz y hy (hlist y hy e1 l1)
     omega
    ·simp only[if_neg e1,if_neg e2]
     exact g3 y hy z hz (hlist y hy e1 l1) (hlist z hz e2 l2) hyz
  | false=>
   obtain⟨v,hy,hK⟩:=h2 hal;obtain⟨hsl,hq⟩:=hQ i o hin ho hal
   have hy':=hy.actB hsl As listed b a (fun x hx=>(hq x hx).1)
   have hst:∀x∈As,(listed.setIfInBounds i true).getD x.1 true=listed.getD x.1 true:=fun x hx=>getD_set_ne true (Ne.symm (hq x hx).2.2)
   refine wpOp_of_qOp (C:=Cl W) (Cl.refl W) (K:=fun a'=>a'=(actB As listed b a).put o.dst v) ?_ ((hy' W hI.1).qOp ho rfl)
   rintro a' W' hW' rfl
   rw[←kma As _ _ _ _ _ (fun x hx=>(hq x hx).2.1),←koh As listed (listed.setIfInBounds i true) b b _ hst (fun _ _=>rfl)]
   exact kke hn n1 n2 hA hQ hL f _ _ _ _ (hI.ext hW'.ext hst) hK
theorem kih {aF:Act}{C:World→Prop}{d:Nat}:∀(l:List Oper) (a:Act),(∀o∈l,o.dst≠some d)→wpQuiet P ops C (fun a'=>a'=aF) l a→aF.tmps[d]?=a.tmps[d]?
 | [],a,_,h=>by rw[show a=aF from h]
 | o::l,a,hd,h=>by
  have key:∀v,(a.put o.dst v).tmps[d]?=a.tmps[d]?:=fun v=>by
   cases hod:o.dst with
   | none=>rfl
   | some t=>
    have:t≠d:=fun e=>hd o (by simp) (by rw[hod,e])
    simp[Act.put,Array.getElem?_setIfInBounds_ne this]
  unfold wpQuiet at h
  split at h
  ·obtain⟨v,_,h⟩:=h
   exact(kih l _ (fun o' ho'=>hd o' (by simp[ho'])) h).trans (key v)
  ·exact(kih l _ (fun o' ho'=>hd o' (by simp[ho'])) h).trans (key undef)
theorem quiet_R {aF:Act}:∀(l:List Oper) (a:Act),(l.all fun o=>match o.dst with|some t=>decide (t<a.tmps.size)|none=>false)=true→(l.map (·.dst)).Nodup→(∀W,Ext w W→wpQuiet P ops (Cl W) (fun a'=>a'=aF) l a)→wpR P ops w (fun a'=>a'=aF) l a
 | [],a,_,_,h=>h w (Ext.refl w)
 | o::l,a,hd,hnd,h=>by
  simp only[List.all_cons,qba]at hd;simp only[List.map_cons,List.nodup_cons]at hnd;obtain⟨hd1,hd2⟩:=hd
  split at hd1
  case h_2=>cases hd1
  rename_i t ht
  have htl:t<a.tmps.size:=by simpa using hd1
  have hne:∀o'∈l,o'.dst≠some t:=fun o' ho' e=>hnd.1 (by rw[ht];exact List.mem_map.2 ⟨o',ho',e⟩)
  have key:∀W,Ext w W→YieldsIn P ops (Cl W) o (aF.tmps[t]?.getD undef) a∧wpQuiet P ops (Cl W) (fun a'=>a'=aF) l (a.put o.dst (aF.tmps[t]?.getD undef)):=fun W hW=>by
   have hh:=h W hW
   have val:∀v,wpQuiet P ops (Cl W) (fun a'=>a'=aF) l (a.put o.dst v)→aF.tmps[t]?.getD undef=v:=fun v hv=>by
    rw[kih l _ hne hv,ht]
    simp[Act.put,htl]
   unfold wpQuiet at hh
   split at hh
   ·rename_i hw
    obtain⟨v,h1,h2⟩:=hh;rw[val v h2]
    exact⟨.inl ⟨hw,h1⟩,h2⟩
   ·rename_i hw
    rw[val _ hh]
    exact⟨.inr ⟨by simpa using hw,rfl⟩,hh⟩
  refine⟨aF.tmps[t]?.getD undef,fun W hW=>(key W hW).1,quiet_R l _ ?_ hnd.2 fun W hW=>(key W hW).2⟩
  have hsz:(a.put o.dst (aF.tmps[t]?.getD undef)).tmps.size=a.tmps.size:=by rw[ht];simp[Act.put]
  rw[hsz]
  exact hd2
def mixB (ops:Array Oper)(n:Nat)(As:List (Nat × Tmp)):Bool:=
 (As.all fun x=>decide (x.1<n))&&(List.range n).all fun i=>match ops[i]? with
  | none=>false
  | some o=>if isAl o then (o.guard.isNone&&match o.dst with|some d=>As.contains (i,d)|none=>false) else As.all fun x=>!(o.looksAt ops).contains x.2&&decide (o.dst≠some x.2)&&decide (x.1≠i)
theorem wp_region_mix {id:Nat}{Q:Exit→Act→World→Prop}{a aF:Act}{l:List Oper}(n:Nat)(As:Als)(hm:P.follows .mixedOrders=true)(hB:Region.lexTailB .any l.toArray n=true)
  (hX:mixB l.toArray n (As.map fun x=>(x.1,x.2.1))=true) (n1:(As.map (·.1)).Nodup) (n2:(As.map (·.2.1)).Nodup)
  (hrun:∀x∈As,∀o,l[x.1]?=some o→isAl o=true→∀(a:Act) (W:World),(execOp a.eval o).run P W=.ok (.value (ptrB W.heap.size)) (W.alloc x.2.2))
  (hd:(((l.take n).filter fun o=>!isAl o).all fun o=>match o.dst with|some t=>decide (t<a.tmps.size)|none=>false)=true) (hnd:(((l.take n).filter fun o=>!isAl o).map (·.dst)).Nodup)
  (walk:∀W,Ext w W→wpQuiet P l.toArray (fun w'=>∃x:Xt W,w'=x.world) (fun a'=>a'=aF) ((l.take n).filter fun o=>!isAl o) a)
  (rest:∀(b:Nat→Nat) (W:World),Ext w W→(∀x∈As,w.heap.size≤b x.1∧W.heap[b x.1]?=some x.2.2)→(∀x∈As,∀y∈As,x.1≠y.1→b x.1≠b y.1) →
   wpList P l.toArray Q (l.drop n) (As.foldl (fun a x=>a.put (some x.2.1) (ptrB (b x.1))) aF) W):(Code.region id l.toArray true).wp P Q a w:=by
 simp only[Region.lexTailB,qba,decide_eq_true_eq]at hB;obtain⟨⟨⟨⟨hsel,hn⟩,hs⟩,hc⟩,hlex⟩:=hB
 have hn':n<l.length:=by simpa using hn
 have htl:(l.take n).length=n:=by simp;omega
 have hdl:(l.drop n).length=l.toArray.size-n:=by simp
 have inv0:HeadInv .any l.toArray n (Array.replicate l.toArray.size false):=
  ⟨by simp,fun j oj _ hl=>(by rw[getD_replicate_false]at hl;cases hl),fun t _ ht=>getD_in (by simpa using ht) (getD_replicate_false _ _)⟩
 simp only[mixB,qba,List.all_map,List.all_eq_true,Function.comp,decide_eq_true_eq]at hX;obtain⟨hXn,hX⟩:=hX
 have hX':∀(i:Nat) (o:Oper),i<n→l.toArray[i]?=some o→(isAl o=true→o.guard=none∧∃x∈As,x.1=i∧o.dst=some x.2.1)∧(isAl o=false→∀x∈As,x.2.1 ∉ o.looksAt l.toArray∧o.dst≠some x.2.1∧x.1≠i):=fun i o hi ho=>by
  have:=hX i (List.mem_range.2 hi)
  rw[ho]at this
  simp only at this
  refine⟨fun hal=>?_,fun hal=>?_⟩
  ·rw[hal,if_pos rfl,qba]at this
   obtain⟨h1,h2⟩:=this
   split at h2
   case h_2=>cases h2
   rename_i d hd'
   simp only[List.contains_eq_mem,List.mem_map,decide_eq_true_eq]at h2;obtain⟨x,hx,e⟩:=h2
   injection e with e1 e2
   exact⟨by simpa using h1,x,hx,e1,by rw[hd',e2]⟩
  ·rw[hal]at this
   simp only[Bool.false_eq_true,if_false,List.all_map,List.all_eq_true]at this;intro x hx
   have:=this x hx
   simp only[Function.comp,qba,Bool.not_eq_true',List.contains_eq_mem,decide_eq_false_iff_not,decide_eq_true_eq]at this
   exact⟨this.1.1,this.1.2,this.2⟩
 have hR:=quiet_R (w:=w.drew) (P:=P) (ops:=l.toArray) (aF:=aF) ((l.take n).filter fun o=>!isAl o) a hd hnd (fun W hW=>walk W ((Ext.refl w).drew.trans hW))
 have H:=wpS_lex (md:=.any) (w:=w.drew) (g:=l.toArray.size-n) hsel hs hc hn (l.take n) 0 _ a (fun j hj=>by
  have hj':j<n:=by rw[htl]at hj;exact hj
  simp[hj']) (by simpa using htl) inv0 (fun j hj=>absurd hj (Nat.not_lt_zero _)) (by rw[htl];exact hlex) hR
 have h0:∀x∈As,(Array.replicate l.toArray.size false).getD x.1 true=false:=fun x hx=>by
  have:x.1<l.toArray.size:=Nat.lt_trans (hXn x hx) hn
  exact getD_in (by simpa using this) (getD_replicate_false _ _)
 refine wp_region_any hm ?_
 have:=kke (Q':=Q) (g:=l.toArray.size-n) (As:=As) hn n1 n2
  (fun i o hi ho hal=>by
   obtain⟨h1,x,hx,hxi,hxd⟩:=(hX' i o hi ho).1 hal
   exact⟨x,hx,hxi,hxd,h1,hrun x hx o (by rw[hxi];simpa using ho) hal⟩)
  (fun i o hi ho hal=>⟨fun cs b=>Region.noSelect_spec hsel i o cs b ho,(hX' i o hi ho).2 hal⟩)
  (fun listed a' b W hI ⟨hL1,hL2,hL3⟩=>by
   subst hL3
   have hAl:∀x∈As,listed.getD x.1 true=true:=fun x hx=>hL2 _ (hXn x hx)
   have e:=actB_all As listed b a' hAl
   have:=wpAny_of_seq (P:=P) (ops:=l.toArray) (md:=.any) (Q':=Q) (l.drop n) n listed (actB As listed b a') W (fun j=>by simp[List.getElem?_drop]) (by rw[hdl];exact hL1) (by
    rw[e]
    exact rest b W ((Ext.refl w).drew.trans hI.1) (fun x hx=>hI.2.1 x hx (hAl x hx)) (fun x hx y hy=>hI.2.2 x hx y hy (hAl x hx) (hAl y hy)))
   rwa [hdl]at this) _ _ _ (fun _=>0) w.drew ⟨Ext.refl _,fun x hx hl=>(by rw[h0 x hx]at hl;cases hl),fun x hx y hy l1=>(by rw[h0 x hx]at l1;cases l1)⟩ H
 rw[htl,show n+(l.toArray.size-n)=l.toArray.size by omega,actB_none As _ _ a h0]at this
 exact this
end
end Go
namespace Go.Proofs.YtcgghcicnanliaaGreatDoor
theorem kak {P:Program}{ops:Array Oper}{rest:List Oper}{o:Oper}{a:Act}{w:World}{Q:Exit→Act→World→Prop}(hw:Region.wanted o (yielded ops a.tmps)=true)(ty:TypeId)(x:Operand)(ho:o.op=.load ty x)
  (g:Nat) (hx:a.eval x=.pointer (some ⟨g,0,none⟩)) (t:TypeId) (cs:Array Value) (fr:Nat × Nat) (d:TypeDesc) (hg:w.heap[g]?=some (.cells cs t fr))
  (hu:P.underlying ty=some d) (hd:(match d with|.struct _|.array _ _=>true|_=>false)=true) (hi:(P.info? ty).map (·.size)=some cs.size)
  (h:wpList P ops Q rest (a.put o.dst (.agg cs)) w):wpList P ops Q (o::rest) a w:=by
 unfold wpList;rw[if_pos hw]
 exact .inl (wp_load_row ty x ho g hx t cs fr d hg hu hd hi h)
theorem kbd {G:World→Prop}{W:World}(F:World→Prop)(h:∀W,F W→G W)(hF:F W):G W:=h W hF
open Go.RowKit
section
variable {P:Program} {ops:Array Oper} {md:Region.Mode} {w:World} {n:Nat}
theorem wpIn_of_still {o:Oper}{a:Act}{K:Act→Prop}{K':Act→World→Prop}{Q':Exit→Act→World→Prop}(h:∀a,K a→K' a w)(hh:o.still P a w K):o.wpIn Fence.wide n P a w K' Q':=by
 unfold Oper.still at hh
 refine⟨fun _ _=>trivial,?_⟩
 show o.uponIn Fence.wide n P a K' Q' ((o.semAt none a.eval).run P w)
 rw[Oper.semAt_none];generalize (execOp a.eval o).run P w=r at *
 cases r with
 | ok x w'=>
  cases x<;>simp only[Oper.stillUpon]at hh
  case value u=>obtain⟨rfl,h2⟩:=hh;exact h _ h2
  case skip=>obtain⟨rfl,h2⟩:=hh;exact h _ h2
  case enter f args=>
   obtain⟨rfl,v,hc,h2⟩:=hh
   refine⟨fun hs=>by simp[Fence.wide]at hs,callsIn_wide.2 (hc.mono ?_)⟩
   rintro e w'' ⟨rfl,rfl⟩
   exact h _ h2
 | halt x w'=>simp only[Oper.stillUpon]at hh
theorem kom {i:Nat}{a:Act}{K:Act→Prop}{K':Act→World→Prop}{Q':Exit→Act→World→Prop}(h:∀a,K a→K' a w)(hh:stOp P ops w i K a):wpOpIn Fence.wide n P ops Q' i K' a w:=by
 unfold stOp at hh;unfold wpOpIn
 split
 ·rename_i ho;simp only[ho]at hh;exact h _ hh
 ·rename_i o ho
  simp only[ho]at hh
  split
  ·rename_i hw;simp only[hw,if_true]at hh;exact wpIn_of_still h hh
  ·rename_i hw;simp only[hw]at hh;exact⟨fun _ _=>trivial,h _ hh⟩
theorem kgr {m g:Nat}{L:Array Bool→Act→Prop}{Q':Exit→Act→World→Prop}(hL:∀listed a,L listed a→wpAnyIn Fence.wide n P md ops Q' g listed a w) :
  ∀(f:Nat) (listed:Array Bool) (a:Act),wpAnyL P md ops w m L f listed a→wpAnyIn Fence.wide n P md ops Q' (f+g) listed a w
 | 0,listed,a,h=>by rw[Nat.zero_add];exact hL _ _ h
 | f+1,listed,a,h=>by
  rw[show f+1+g=(f+g)+1 by omega]
  exact⟨fun h0=>absurd h0 h.1,fun i hi=>kom (fun a' h'=>kgr hL f _ a' h') (h.2 i hi).2⟩
theorem wpAnyIn_of_seq {F:Fence}{Q':Exit→Act→World→Prop}:∀(l:List Oper) (k:Nat) (listed:Array Bool) (a:Act) (w:World),(∀j,l[j]?=ops[k+j]?) →
  Region.seqB md ops l.length k listed=true→wpListIn F n P ops Q' l a w→wpAnyIn F n P md ops Q' l.length listed a w
 | [],_,_,_,_,_,hB,h=>⟨by simpa[Region.seqB]using hB,h⟩
 | o::l,k,listed,a,w,hl,hB,h=>by
  have h0:ops[k]?=some o:=by simpa using (hl 0).symm
  simp only[List.length_cons,Region.seqB,qba,decide_eq_true_eq]at hB
  refine⟨fun h1=>(by rw[hB.1]at h1;cases h1),fun i hi=>?_⟩
  rw[hB.1]at hi
  have hik:i=k:=by simpa using hi
  subst hik
  have hw:wpOpIn F n P ops Q' i (wpListIn F n P ops Q' l) a w:=by unfold wpOpIn;simp only[h0];exact h
  exact wpOpIn_mono (fun a' w' h'=>wpAnyIn_of_seq l (i+1) _ a' w' (fun j=>by have:=hl (j+1);simpa[Nat.add_assoc,Nat.add_comm 1 j]using this) hB.2 h') hw
theorem kgl {id:Nat}{Q:Exit→Act→World→Prop}{a:Act}{w:World}{l:List Oper}(k:Nat)(hm:P.follows .mixedOrders=true)(hB:Region.lexTailB .any l.toArray k=true)
  (h:∀W,Ext w W→wpStill P l.toArray W (fun a'=>wpListIn Fence.wide n P l.toArray Q (l.drop k) a' W) (l.take k) a):(Code.region id l.toArray true).wpIn Fence.wide n P Q a w:=by
 replace h:=h w.drew (Ext.refl w).drew;simp only[Region.lexTailB,qba,decide_eq_true_eq]at hB;obtain⟨⟨⟨⟨hsel,hn⟩,hs⟩,hc⟩,hlex⟩:=hB
 have hn':k<l.length:=by simpa using hn
 have htl:(l.take k).length=k:=by simp;omega
 have hdl:(l.drop k).length=l.toArray.size-k:=by simp
 have inv0:HeadInv .any l.toArray k (Array.replicate l.toArray.size false):=
  ⟨by simp,fun j oj _ hl=>(by rw[getD_replicate_false]at hl;cases hl),fun t _ ht=>getD_in (by simpa using ht) (getD_replicate_false _ _)⟩
 have H:=wpAnyL_lex (md:=.any) (g:=l.toArray.size-k) hsel hs hc hn (l.take k) 0 _ a (fun j hj=>by
  have hj':j<k:=by rw[htl]at hj;exact hj
  simp[hj']) (by simpa using htl) inv0 (by rw[htl];exact hlex) h
 refine wpIn_region_any hm ?_
 have:=kgr (n:=n) (Q':=Q) (g:=l.toArray.size-k) (fun listed a' hL=>by
  have:=wpAnyIn_of_seq (md:=.any) (Q':=Q) (F:=Fence.wide) (n:=n) (l.drop k) k listed a' w.drew (fun j=>by simp[List.getElem?_drop]) (by rw[hdl];exact hL.1) hL.2
  rwa [hdl]at this) _ _ _ H
 rw[htl,show k+(l.toArray.size-k)=l.toArray.size by omega]at this
 exact this
end
end Go.Proofs.YtcgghcicnanliaaGreatDoor
namespace Go
section
variable {P:Program} {ops:Array Oper} {md:Region.Mode} {C:World→Prop} {l n:Nat}
def kcs:Op→Bool
 | .defer _=>false
 | _=>true
theorem kjj {o:Op}(h:kcs o=true):∀c,o≠.defer c:=fun c e=>by rw[e]at h;cases h
theorem kop {o:Oper}(hd:kcs o.op=true){a:Act}{K:Act→Prop}{K':Act→World→Prop}{Q':Exit→Act→World→Prop}{w:World}(hw:C w)(h:∀a w',C w'→K a→K' a w')(hh:o.quiet P a C K) :
  o.wpIn (Fence.wide.inRound l) n P a w K' Q':=by
 obtain⟨v,h1,h2⟩:=hh;have h3:=h1 w hw;unfold Oper.quietAt at h3
 refine⟨fun _ _=>trivial,?_⟩
 show o.uponIn (Fence.wide.inRound l) n P a K' Q' ((o.semAt (some l) a.eval).run P w)
 rw[Oper.semAt_some l a.eval o (kjj hd)];generalize (execOp a.eval o).run P w=r at *
 cases r with
 | ok x w'=>
  cases x<;>simp only[Oper.quietUpon]at h3
  case value u=>obtain⟨rfl,rfl⟩:=h3;exact h _ _ hw h2
  case skip=>obtain⟨rfl,rfl⟩:=h3;exact h _ _ hw h2
  case enter f args=>
   obtain⟨rfl,hc⟩:=h3
   refine⟨fun hs=>by simp[Fence.wide]at hs,CallsIn.inRound l (callsIn_wide.2 (hc.mono ?_))⟩
   rintro e w'' ⟨rfl,hq⟩
   exact h _ _ hq h2
 | halt x w'=>simp only[Oper.quietUpon]at h3
theorem koo (hd:∀(i:Nat) (o:Oper),ops[i]?=some o→kcs o.op=true){i:Nat}{a:Act}{K:Act→Prop}{K':Act→World→Prop}{Q':Exit→Act→World→Prop}{w:World}(hC:C w)(h:∀a w',C w'→K a→K' a w')(hh:qOp P ops C i K a) :
  wpOpIn (Fence.wide.inRound l) n P ops Q' i K' a w:=by
 unfold qOp at hh;unfold wpOpIn
 split
 ·rename_i ho;simp only[ho]at hh;exact h _ _ hC hh
 ·rename_i o ho
  simp only[ho]at hh
  split
  ·rename_i hw;simp only[hw,if_true]at hh;exact kop (hd _ _ ho) hC h hh
  ·rename_i hw;simp only[hw]at hh;exact⟨fun _ _=>trivial,h _ _ hC hh⟩
theorem kfu (hd:∀(i:Nat) (o:Oper),ops[i]?=some o→kcs o.op=true){Q:Act→Prop}{Q':Exit→Act→World→Prop}(hQ:∀a w,C w→Q a→Q' .normal a w):∀(fuel:Nat) (listed:Array Bool) (a:Act) (w:World),C w →
  wpAnyQ P md ops C Q fuel listed a→wpAnyIn (Fence.wide.inRound l) n P md ops Q' fuel listed a w
 | 0,_,_,_,hw,h=>⟨h.1,hQ _ _ hw h.2⟩
 | fuel+1,_,_,_,hw,h=>⟨fun h0=>hQ _ _ hw (h.1 h0),fun i hi=>koo hd hw (fun a' w' hw'=>kfu hd hQ fuel _ a' w' hw') (h.2 i hi)⟩
theorem kis {id:Nat}{Q:Exit→Act→World→Prop}{a:Act}{w:World}(hd:ops.toList.all (fun o=>kcs o.op)=true)(hm:P.follows .mixedOrders=true)(hB:Region.lexB .any ops=true)(hC:C { w with drawn:=w.drawn+1 })
  (h:wpQuiet P ops C (fun a'=>∀w',C w'→Q .normal a' w') ops.toList a):(Code.region id ops true).wpIn (Fence.wide.inRound l) n P Q a w:=by
 have hd':∀(i:Nat) (o:Oper),ops[i]?=some o→kcs o.op=true:=fun i o ho=>List.all_eq_true.1 hd o (by
  have:=qmq (l:=ops.toList) (i:=i) (a:=o) (by simpa using ho)
  exact this)
 simp only[Region.lexB,qba]at hB
 refine wpIn_region_any hm (kfu hd' (Q:=fun a'=>∀w',C w'→Q .normal a' w') (fun _ w' hw' h=>h w' hw') _ _ _ _ hC ?_)
 have:=wpAnyQ_lex (C:=C) (md:=.any) hB.1 ops.toList 0 (Array.replicate ops.size false) a (by simp) (by simpa using hB.2) h
 simpa using this
end
end Go
namespace Go.Proofs.YtcgghcicnanliaaGreatDoor
open Go.RowKit
theorem kdy {P:Program}{id l n:Nat}{Q:Exit→Act→World→Prop}{a:Act}{w:World}{L:List Oper}(hd:L.all (fun o=>kcs o.op)=true)(hm:P.follows .mixedOrders=true)(hB:Region.lexB .any L.toArray=true)
  (h:wpQuiet P L.toArray (fun w'=>∃x:Xt w,w'=x.world) (fun a'=>∀w',(∃x:Xt w,w'=x.world)→Q .normal a' w') L a):(Code.region id L.toArray true).wpIn (Fence.wide.inRound l) n P Q a w:=
 kis (C:=fun w'=>∃x:Xt w,w'=x.world) (by simpa using hd) hm hB ⟨⟨w.drew,(Ext.refl w).drew⟩,rfl⟩ (by simpa using h)
end Go.Proofs.YtcgghcicnanliaaGreatDoor
namespace Go
section
variable {P:Program} {ops:Array Oper} {md:Region.Mode} {C:World→Prop} {l n lim:Nat} {Q':Exit→Act→World→Prop}
def kmb (P:Program)(o:Oper)(a:Act)(K:Act→World→Prop):Result Next→Prop
 | .ok (.value v) w'=>K (a.put o.dst v) w'
 | .ok .skip w'=>K (a.put o.dst undef) w'
 | .ok (.enter f args) w'=>Calls P f args w' fun e w''=>∃v,e=.returned v∧K (a.put o.dst v) w''
 | _=>False
def yOp (P:Program)(ops:Array Oper)(i:Nat)(K:Act→World→Prop)(a:Act)(w:World):Prop:=
 match ops[i]? with
 | none=>K a w
 | some o=>if Region.wanted o (yielded ops a.tmps) then kmb P o a K ((execOp a.eval o).run P w) else K (a.put o.dst undef) w
theorem kph {o:Oper}{a a':Act}{K K':Act→World→Prop}(h:∀v w,K (a.put o.dst v) w→K' (a'.put o.dst v) w){r:Result Next}(hh:kmb P o a K r):kmb P o a' K' r:=by
 cases r with
 | ok x w'=>
  cases x<;>simp only[kmb]at hh ⊢
  case value=>exact h _ _ hh
  case skip=>exact h _ _ hh
  case enter=>exact hh.mono fun e w'' ⟨v,he,hk⟩=>⟨v,he,h _ _ hk⟩
 | halt x w'=>simp only[kmb]at hh
theorem kdo {i:Nat}{a:Act}{w:World}{K K':Act→World→Prop}(h:∀a w,K a w→K' a w)(hh:yOp P ops i K a w):yOp P ops i K' a w:=by
 unfold yOp at *
 split
 ·rename_i ho;simp only[ho]at hh;exact h _ _ hh
 ·rename_i o ho
  simp only[ho]at hh
  split
  ·rename_i hw;simp only[hw,if_true]at hh;exact kph (fun _ _=>h _ _) hh
  ·rename_i hw;simp only[hw]at hh;exact h _ _ hh
theorem yOp_put {j:Nat}{oi oj:Oper}{v:Value}(hj:ops[j]?=some oj)(hap:oi.apart ops oj=true)(hsj:∀cs b,oj.op≠.select cs b){K:Act→World→Prop}{a:Act}{w:World}
  (h:yOp P ops j K (a.put oi.dst v) w):yOp P ops j (fun a' w'=>(∃u,a'=a.put oj.dst u)∧K (a'.put oi.dst v) w') a w:=by
 obtain⟨h1,h2,h3⟩:=Oper.apart_spec hap;unfold yOp at *;simp only[hj]at *;rw[wanted_put oj a oi.dst v h1,execOp_put oj hsj a oi.dst v h1]at h
 split
 ·rename_i hw
  simp only[hw,if_true]at h
  exact kph (fun u w' hk=>⟨⟨u,rfl⟩,by rw[←Act.put_comm a v u h2];exact hk⟩) h
 ·rename_i hw
  simp only[hw]at h
  exact⟨⟨_,rfl⟩,by rw[←Act.put_comm a v undef h2];exact h⟩
theorem kon (hd:∀(i:Nat) (o:Oper),ops[i]?=some o→kcs o.op=true){i:Nat}{a:Act}{w:World}{K:Act→World→Prop}(hh:yOp P ops i K a w):wpOpIn (Fence.wide.inRound l) n P ops Q' i K a w:=by
 unfold yOp at hh;unfold wpOpIn
 split
 ·rename_i ho;simp only[ho]at hh;exact hh
 ·rename_i o ho
  simp only[ho]at hh
  split
  ·rename_i hw
   simp only[hw,if_true]at hh
   refine⟨fun _ _=>trivial,?_⟩
   show o.uponIn (Fence.wide.inRound l) n P a K Q' ((o.semAt (some l) a.eval).run P w)
   rw[Oper.semAt_some l a.eval o (kjj (hd _ _ ho))];generalize (execOp a.eval o).run P w=r at *
   cases r with
   | ok x w'=>
    cases x<;>simp only[kmb]at hh
    case value=>exact hh
    case skip=>exact hh
    case enter=>
     refine⟨fun hs=>by simp[Fence.wide]at hs,CallsIn.inRound l (callsIn_wide.2 (hh.mono ?_))⟩
     rintro e w'' ⟨v,rfl,hk⟩
     exact hk
   | halt x w'=>simp only[kmb]at hh
  ·rename_i hw;simp only[hw]at hh;exact⟨fun _ _=>trivial,hh⟩
def anyE (P:Program)(md:Region.Mode)(ops:Array Oper)(C:World→Prop)(l n lim:Nat)(Q':Exit→Act→World→Prop):Nat→Array Bool→Act→World→Prop
 | 0,listed,a,w=>Region.ready md ops listed=[]∧Q' .normal a w
 | f+1,listed,a,w=>
  (Region.ready md ops listed=[]→Q' .normal a w) ∧
  ∀i∈Region.ready md ops listed,(i<lim→yOp P ops i (fun a' w'=>C w'∧anyE P md ops C l n lim Q' f (listed.setIfInBounds i true) a' w') a w) ∧
   (lim≤i→wpOpIn (Fence.wide.inRound l) n P ops Q' i (wpAnyIn (Fence.wide.inRound l) n P md ops Q' f (listed.setIfInBounds i true)) a w)
theorem kkx (hd:∀(i:Nat) (o:Oper),ops[i]?=some o→kcs o.op=true):∀(f:Nat) (listed:Array Bool) (a:Act) (w:World),anyE P md ops C l n lim Q' f listed a w→wpAnyIn (Fence.wide.inRound l) n P md ops Q' f listed a w
 | 0,_,_,_,h=>h
 | f+1,_,_,_,h=>⟨h.1,fun i hi=>by
  by_cases hl:i<lim
  ·exact kon hd (kdo (fun a' w' h'=>kkx hd f _ a' w' h'.2) ((h.2 i hi).1 hl))
  ·exact(h.2 i hi).2 (by omega)⟩
def Shut (md:Region.Mode)(ops:Array Oper)(listed:Array Bool):Prop:=∀j o,ops[j]?=some o→listed.getD j false=true→∀e∈o.after,Region.binds md e=true→listed.getD e.on false=true
theorem Shut.set {listed:Array Bool}(h:Shut md ops listed){i:Nat}(hi:i∈Region.ready md ops listed):Shut md ops (listed.setIfInBounds i true):=fun j o ho hj e he hb=>by
 by_cases hij:j=i
 ·subst hij
  obtain⟨_,o',ho',hall⟩:=mem_ready.1 hi;rw[ho]at ho';cases ho'
  exact getD_set_true (hall e he hb)
 ·rw[getD_set_ne false (Ne.symm hij)]at hj
  exact getD_set_true (h j o ho hj e he hb)
def waitsB (md:Region.Mode)(ops:Array Oper)(k lim:Nat):Bool:=
 (List.range ops.size).all fun j=>decide (j<lim)||(List.range k).all fun i=>((ops[j]?).map fun o=>o.after.any fun e=>Region.binds md e&&(decide (e.on=i)||((ops[e.on]?).map fun o2=>o2.after.any fun e2=>Region.binds md e2&&decide (e2.on=i)).getD false)).getD false
theorem waitsB_spec {k:Nat}(h:waitsB md ops k lim=true){listed:Array Bool}(hs:Shut md ops listed){j:Nat}(hj:j∈Region.ready md ops listed)(hl:lim≤j){i:Nat}(hi:i<k):listed.getD i false=true:=by
 obtain⟨_,o,ho,hall⟩:=mem_ready.1 hj;have h1:=List.all_eq_true.1 h j (List.mem_range.2 (qaz ho).1)
 rw[decide_eq_false (by omega),Bool.false_or]at h1
 have h2:=List.all_eq_true.1 h1 i (List.mem_range.2 hi);simp only[ho,Option.map_some,Option.getD_some]at h2;obtain⟨e,he,hb⟩:=Array.any_eq_true'.1 h2;simp only[qba,Bool.or_eq_true,decide_eq_true_eq]at hb
 obtain⟨hb1,hb2|hb2⟩:=hb
 ·rw[←hb2];exact hall e he hb1
 ·cases ho2:ops[e.on]? with
  | none=>simp[ho2]at hb2
  | some o2=>
   simp only[ho2,Option.map_some,Option.getD_some]at hb2;obtain⟨e2,he2,hb3⟩:=Array.any_eq_true'.1 hb2;simp only[qba,decide_eq_true_eq]at hb3;rw[←hb3.2]
   exact hs e.on o2 ho2 (hall e he hb1) e2 he2 hb3.1
def isRead:Op→Bool
 | .move _=>true
 | .assign _=>true
 | .load _ _=>true
 | _=>false
theorem read_value {o:Oper}(hr:isRead o.op=true){ρ : Operand→Value}{w w':World}{x:Next}(h:(execOp ρ o).run P w=.ok x w'):∃u,x=.value u:=by
 unfold execOp at h
 cases ho:o.op<;>simp only[ho,isRead,Bool.false_eq_true]at hr h
 case move=>simp only[Sem.run_pure,Result.ok.injEq]at h;exact⟨_,h.1.symm⟩
 case assign=>simp only[Sem.run_pure,Result.ok.injEq]at h;exact⟨_,h.1.symm⟩
 case load t x=>
  simp only[Sem.run_bind]at h;generalize (Instr.loadAt t (ρ x)).run P w=r at h
  cases r with
  | ok v w2=>simp only[Result.andThen,Sem.run_pure,Result.ok.injEq]at h;exact⟨_,h.1.symm⟩
  | halt y w2=>simp only[Result.andThen]at h;cases h
def kfs (P:Program)(ops:Array Oper)(C:World→Prop)(o:Oper)(v:Value)(a:Act):Prop:=
 (Region.wanted o (yielded ops a.tmps)=true∧∀w,C w→(execOp a.eval o).run P w=.ok (.value v) w)∨(Region.wanted o (yielded ops a.tmps)=false∧v=undef)
theorem yieldsS_of {o:Oper}{v:Value}{a:Act}(hr:isRead o.op=true)(h:YieldsIn P ops C o v a):kfs P ops C o v a:=by
 rcases h with ⟨h1,h2⟩|h
 ·refine .inl ⟨h1,fun w hw=>?_⟩
  have h3:=h2 w hw;unfold Oper.quietAt at h3
  cases hx:(execOp a.eval o).run P w with
  | ok x w'=>
   obtain⟨u,rfl⟩:=read_value hr hx;rw[hx]at h3;simp only[Oper.quietUpon]at h3;obtain⟨rfl,rfl⟩:=h3
   rfl
  | halt x w'=>rw[hx]at h3;simp only[Oper.quietUpon]at h3
 ·exact .inr h
theorem kfs.of_same {o:Oper}{v:Value}{a a':Act}(hy:kfs P ops C o v a)(he:execOp a'.eval o=execOp a.eval o)
  (hw:Region.wanted o (yielded ops a'.tmps)=Region.wanted o (yielded ops a.tmps)):kfs P ops C o v a':=by
 unfold kfs at *;rw[he,hw]
 exact hy
theorem kfs.yOp {i:Nat}{o:Oper}{v:Value}{a:Act}{w:World}(hi:ops[i]?=some o)(hy:kfs P ops C o v a)(hC:C w){K:Act→World→Prop}(h:K (a.put o.dst v) w):yOp P ops i K a w:=by
 unfold Go.yOp;simp only[hi]
 rcases hy with ⟨hw,hv⟩|⟨hw,rfl⟩
 ·simp only[hw,if_true,hv w hC,kmb];exact h
 ·simp only[hw,Bool.false_eq_true,if_false];exact h
theorem anyE_first {k i:Nat}{oi:Oper}{v:Value}(hi:ops[i]?=some oi)(hsel:∀(j:Nat) (o:Oper) cs b,ops[j]?=some o→o.op≠.select cs b)(hik:i<k)(hil:i<lim)(hwt:waitsB md ops k lim=true) :
  ∀(fuel:Nat) (listed:Array Bool) (a:Act) (w:World),C w→Shut md ops listed →
   (∀j oj,ops[j]?=some oj→j≠i→listed.getD j true=false→(∀e∈oj.after,Region.binds md e=true→e.on≠i)→oi.apart ops oj=true) →
   i∈Region.ready md ops listed→kfs P ops C oi v a →
   anyE P md ops C l n lim Q' fuel (listed.setIfInBounds i true) (a.put oi.dst v) w→anyE P md ops C l n lim Q' (fuel+1) listed a w:=by
 intro fuel
 induction fuel with
 | zero=>
  intro listed a w hC hsh _ hr hy H
  refine⟨fun h=>(by rw[h]at hr;cases hr),fun j hj=>?_⟩
  by_cases hji:j=i
  ·subst hji
   exact⟨fun _=>hy.yOp hi hC ⟨hC,H⟩,fun h=>by omega⟩
  ·have:=ready_mono hj hji
   rw[H.1]at this;cases this
 | succ fuel ih=>
  intro listed a w hC hsh hfree hr hy H
  refine⟨fun h=>(by rw[h]at hr;cases hr),fun j hj=>?_⟩
  by_cases hji:j=i
  ·subst hji
   exact⟨fun _=>hy.yOp hi hC ⟨hC,H⟩,fun h=>by omega⟩
  ·have hun:=(mem_ready.1 hr).1
   refine⟨fun hjl=>?_,fun hjl=>?_⟩
   ·have h1:=(H.2 j (ready_mono hj hji)).1 hjl
    obtain⟨hjun,oj,hoj,hall⟩:=mem_ready.1 hj
    have hnot:∀e∈oj.after,Region.binds md e=true→e.on≠i:=fun e he hb heq=>by
     have h1:=hall e he hb;rw[heq,getD_both hun]at h1;cases h1
    have hap:=hfree j oj hoj hji hjun hnot
    have h2:=yOp_put hoj hap (fun cs b=>hsel j oj cs b hoj) h1
    obtain⟨_,_,h3⟩:=Oper.apart_spec hap
    have hfree':∀k ok,ops[k]?=some ok→k≠i→(listed.setIfInBounds j true).getD k true=false →
      (∀e∈ok.after,Region.binds md e=true→e.on≠i)→oi.apart ops ok=true:=fun k ok hk hki hun hno=>by
     refine hfree k ok hk hki ?_ hno
     by_cases hjk:j=k
     ·subst hjk;exact hjun
     ·rw[getD_set_ne true hjk]at hun;exact hun
    refine kdo (fun a' w' h3'=>?_) h2
    obtain⟨⟨u,rfl⟩,hC',hE⟩:=h3'
    refine⟨hC',ih (listed.setIfInBounds j true) _ w' hC' (hsh.set hj) hfree' (ready_mono hr (Ne.symm hji)) (hy.of_same (execOp_put oi (fun cs b=>hsel i oi cs b hi) a oj.dst u h3) (wanted_put oi a oj.dst u h3)) ?_⟩
    rw[Array.setIfInBounds_comm _ _ hji]
    exact hE
   ·have:=waitsB_spec hwt hsh hj hjl hik
    rw[getD_both hun]at this;cases this
theorem anyE_of_seq:∀(L:List Oper) (k:Nat) (listed:Array Bool) (a:Act) (w:World),lim≤k→(∀j,L[j]?=ops[k+j]?)→Region.seqB md ops L.length k listed=true→wpListIn (Fence.wide.inRound l) n P ops Q' L a w→anyE P md ops C l n lim Q' L.length listed a w
 | [],_,_,_,_,_,_,hB,h=>⟨by simpa[Region.seqB]using hB,h⟩
 | o::L,k,listed,a,w,hk,hl,hB,h=>by
  have h0:ops[k]?=some o:=by simpa using (hl 0).symm
  simp only[List.length_cons,Region.seqB,qba,decide_eq_true_eq]at hB
  refine⟨fun h1=>(by rw[hB.1]at h1;cases h1),fun i hi=>?_⟩
  rw[hB.1]at hi
  have hik:i=k:=by simpa using hi
  subst hik
  refine⟨fun h'=>by omega,fun _=>?_⟩
  have hw:wpOpIn (Fence.wide.inRound l) n P ops Q' i (wpListIn (Fence.wide.inRound l) n P ops Q' L) a w:=by unfold wpOpIn;simp only[h0];exact h
  exact wpOpIn_mono (fun a' w' h'=>Go.Proofs.YtcgghcicnanliaaGreatDoor.wpAnyIn_of_seq L (i+1) _ a' w' (fun j=>by have:=hl (j+1);simpa[Nat.add_assoc,Nat.add_comm 1 j]using this) hB.2 h') hw
def lexK (md:Region.Mode)(ops:Array Oper):Nat→Nat→Array Bool→Bool
 | 0,k,listed=>decide (Region.ready md ops listed=[k])&&Region.seqB md ops (ops.size-k-1) (k+1) (listed.setIfInBounds k true)
 | f+1,k,listed=>(Region.ready md ops listed).contains k&&Region.free md ops listed k&&lexK md ops f (k+1) (listed.setIfInBounds k true)
theorem anyE_lex {L:List Oper}(hL:L.toArray=ops){kk:Nat}(hlim:lim=kk+1)(hs:Region.noSelect ops=true)(hwt:waitsB md ops kk lim=true)(hkl:kk<L.length):∀(H:List Oper) (k:Nat) (listed:Array Bool) (a:Act) (w:World),k+H.length=kk→C w→Shut md ops listed→(∀j,j<H.length→H[j]?=ops[k+j]?) →
  (H.all fun o=>isRead o.op)=true→lexK md ops H.length k listed=true→wpQuiet P ops C (fun a'=>yOp P ops kk (fun a2 w2=>C w2∧wpListIn (Fence.wide.inRound l) n P ops Q' (L.drop lim) a2 w2) a' w) H a →
  anyE P md ops C l n lim Q' (ops.size-k) listed a w
 | [],k,listed,a,w,hk,hC,hsh,hl,_,hB,h=>by
  simp only[List.length_nil,Nat.add_zero]at hk;simp only[wpQuiet]at h;subst hk;simp only[List.length_nil,lexK,qba,decide_eq_true_eq]at hB
  have hsz:ops.size=L.length:=by rw[←hL];simp
  obtain⟨f,hf⟩:∃f,ops.size-k=f+1:=⟨ops.size-k-1,by omega⟩
  rw[hf]
  refine⟨fun h1=>(by rw[hB.1]at h1;cases h1),fun i hi=>?_⟩
  rw[hB.1]at hi
  have hik:i=k:=by simpa using hi
  subst hik
  refine⟨fun _=>kdo (fun a' w' h'=>⟨h'.1,?_⟩) h,fun h'=>by omega⟩
  have hfl:f=(L.drop lim).length:=by rw[List.length_drop];omega
  rw[hfl]
  refine anyE_of_seq (L.drop lim) (i+1) _ a' w' (by omega) (fun j=>by rw[List.getElem?_drop,←hL,hlim];simp) ?_ h'.2
  rw[←hfl,show f=ops.size-i-1 by omega]
  exact hB.2
 | o::H,k,listed,a,w,hk,hC,hsh,hl,hR,hB,h=>by
  simp only[List.length_cons]at hk
  have h0:ops[k]?=some o:=by simpa using (hl 0 (by simp)).symm
  simp only[List.length_cons,lexK,qba]at hB;obtain⟨⟨hr,hf⟩,hB'⟩:=hB;simp only[List.all_cons,qba]at hR
  have hst:qOp P ops C k (wpQuiet P ops C (fun a'=>yOp P ops kk (fun a2 w2=>C w2∧wpListIn (Fence.wide.inRound l) n P ops Q' (L.drop lim) a2 w2) a' w) H) a:=by unfold qOp;simp only[h0];exact h
  obtain⟨v,hy,hK⟩:=yieldsIn_of_qOp h0 hst
  have hsz:ops.size=L.length:=by rw[←hL];simp
  have hrk:k∈Region.ready md ops listed:=by simpa using hr
  rw[show ops.size-k=(ops.size-(k+1))+1 by omega]
  exact anyE_first h0 (Region.noSelect_spec hs) (by omega) (by omega) hwt _ listed a w hC hsh (Region.free_spec h0 hf) hrk (yieldsS_of hR.1 hy)
   (anyE_lex hL hlim hs hwt hkl H (k+1) _ _ w (by omega) hC (hsh.set hrk) (fun j hj=>by have:=hl (j+1) (by simp;omega);simpa[Nat.add_assoc,Nat.add_comm 1 j]using this) hR.2 hB' hK)
theorem kkd {id:Nat}{Q:Exit→Act→World→Prop}{a:Act}{w:World}{L:List Oper}(k:Nat)(hd:L.all (fun o=>kcs o.op)=true)(hm:P.follows .mixedOrders=true)
  (hB:(Region.noSelect L.toArray&&waitsB .any L.toArray k (k+1)&&((L.take k).all fun o=>isRead o.op)&&decide (k<L.length)&&lexK .any L.toArray k 0 (Array.replicate L.toArray.size false))=true) (hC:C { w with drawn:=w.drawn+1 })
  (h:wpQuiet P L.toArray C (fun a'=>yOp P L.toArray k (fun a2 w2=>C w2∧wpListIn (Fence.wide.inRound l) n P L.toArray Q (L.drop (k+1)) a2 w2) a' { w with drawn:=w.drawn+1 }) (L.take k) a):(Code.region id L.toArray true).wpIn (Fence.wide.inRound l) n P Q a w:=by
 have hd':∀(i:Nat) (o:Oper),L.toArray[i]?=some o→kcs o.op=true:=fun i o ho=>List.all_eq_true.1 hd o (qmq (l:=L) (i:=i) (a:=o) (by simpa using ho))
 simp only[qba,decide_eq_true_eq]at hB;obtain⟨⟨⟨⟨hsel,hwt⟩,hR⟩,hkl⟩,hlex⟩:=hB
 have htl:(L.take k).length=k:=by simp;omega
 refine wpIn_region_any hm ?_
 have:=anyE_lex (md:=.any) (l:=l) (n:=n) (Q':=Q) (L:=L) rfl rfl hsel hwt hkl (L.take k) 0 (Array.replicate L.toArray.size false) a _ (by omega) hC (fun j o _ hj=>by rw[Array.getD_eq_getD_getElem?]at hj;simp[Array.getElem?_replicate]at hj;split at hj<;>simp at hj) (fun j hj=>by
  have hj':j<k:=by omega
  simp[hj']) hR (by rw[htl];exact hlex) h
 exact kkx hd' _ _ _ _ this
theorem kcj {k:Nat}{o:Oper}{f:FuncId}{as:Array Operand}{ts:Array TypeId}{K:Act→World→Prop}{a:Act}{w:World}(hi:ops[k]?=some o)(hg:o.guard=none)
  (ho:o.op=.call { callee:=.value (.func f),args:=as,argTypes:=ts }) (eg:∀args w,(callFunc f args).run P w=.ok (.enter f args) w)
  (h:Calls P f (as.map a.eval) w fun e w''=>∃v,e=.returned v∧K (a.put o.dst v) w''):yOp P ops k K a w:=by
 have hw:Region.wanted o (yielded ops a.tmps)=true:=by simp[Region.wanted,hg]
 unfold yOp;simp only[hi,hw,if_true]
 have:(execOp a.eval o).run P w=.ok (.enter f (as.map a.eval)) w:=by
  simp[execOp,ho,resolve,invoke,Act.eval,Deferred.ofValue,Result.andThen,eg]
 rw[this]
 exact h
end
end Go
namespace Go.Proofs.YtcgghcicnanliaaGreatDoor
open Go.RowKit
theorem kgq {P:Program}{id l n:Nat}{Q:Exit→Act→World→Prop}{a:Act}{w:World}{L:List Oper}(k:Nat)(hd:L.all (fun o=>kcs o.op)=true)(hm:P.follows .mixedOrders=true)
  (hB:(Region.noSelect L.toArray&&waitsB .any L.toArray k (k+1)&&((L.take k).all fun o=>isRead o.op)&&decide (k<L.length)&&lexK .any L.toArray k 0 (Array.replicate L.toArray.size false))=true)
  (h:wpQuiet P L.toArray (fun w'=>∃x:Xt w,w'=x.world) (fun a'=>yOp P L.toArray k (fun a2 w2=>(∃x:Xt w,w2=x.world)∧wpListIn (Fence.wide.inRound l) n P L.toArray Q (L.drop (k+1)) a2 w2) a' w.drew) (L.take k) a):(Code.region id L.toArray true).wpIn (Fence.wide.inRound l) n P Q a w:=
 kkd (C:=fun w'=>∃x:Xt w,w'=x.world) k hd hm hB ⟨⟨w.drew,(Ext.refl w).drew⟩,rfl⟩ h
end Go.Proofs.YtcgghcicnanliaaGreatDoor
namespace Go
section
variable {P:Program} {ops:Array Oper} {md:Region.Mode} {C:World→Prop} {keep:Nat→World→World→Prop} {Q':Exit→Act→World→Prop}
def isRd:Op→Bool
 | .move _=>true
 | .assign _=>true
 | .load _ _=>true
 | .extract _ _=>true
 | .fieldAddr _ _ _=>true
 | .nilCheck _=>true
 | .binOp _ _ _ _ _=>true
 | .build _ _=>true
 | .call c=>match c.callee with
  | .builtin b=>b == .min||b == .max
  | _=>false
 | _=>false
def NV (P:Program)(s:Sem Next):Prop:=∀w x w',s.run P w=.ok x w'→∃u,x=.value u
theorem NV.pure (u:Value):NV P (Pure.pure (.value u)):=fun w x w' h=>by simp only[Sem.run_pure,Result.ok.injEq]at h;exact⟨_,h.1.symm⟩
theorem NV.bind {α : Type}{s:Sem α}{f:α→Sem Next}(h:∀a,NV P (f a)):NV P (s >>= f):=fun w x w' hr=>by
 rw[Sem.run_bind]at hr;generalize Sem.run P s w=r at hr
 cases r with
 | ok v w2=>simp only[Result.andThen]at hr;exact h v _ _ _ hr
 | halt y w2=>simp only[Result.andThen]at hr;cases hr
theorem NV.nil:NV P (runtimePanic .nilDeref):=fun w x w' hr=>by
 exfalso
 simp[runtimePanic,goPanic,Sem.run_bind,go_sem]at hr
theorem rd_value {o:Oper}(hr:isRd o.op=true){ρ : Operand→Value}{w w':World}{x:Next}(h:(execOp ρ o).run P w=.ok x w'):∃u,x=.value u:=by
 refine(?_:NV P (execOp ρ o)) _ _ _ h
 unfold execOp
 cases ho:o.op<;>simp only[ho,isRd,Bool.false_eq_true]at hr ⊢
 case move=>exact NV.pure _
 case assign=>exact NV.pure _
 case nilCheck y=>
  split
  ·exact NV.nil
  ·exact NV.nil
  ·exact NV.nil
  ·split
   ·exact NV.nil
   ·refine NV.bind fun a=>NV.bind fun b=>?_
    split
    ·exact NV.bind fun _=>NV.pure _
    ·exact NV.pure _
   ·exact NV.pure _
  ·exact NV.pure _
 case call c=>
  split at hr
  ·rename_i b hb
   cases b<;>first|cases hr|skip
   all_goals
    simp only[resolve,hb,pure_bind,invoke,builtin]
    exact NV.bind fun a=>NV.pure _
  ·cases hr
 all_goals exact NV.bind fun a=>NV.pure _
theorem yieldsS_rd {o:Oper}{v:Value}{a:Act}(hr:isRd o.op=true)(h:YieldsIn P ops C o v a):kfs P ops C o v a:=by
 rcases h with ⟨h1,h2⟩|h
 ·refine .inl ⟨h1,fun w hw=>?_⟩
  have h3:=h2 w hw;unfold Oper.quietAt at h3
  cases hx:(execOp a.eval o).run P w with
  | ok x w'=>
   obtain⟨u,rfl⟩:=rd_value hr hx;rw[hx]at h3;simp only[Oper.quietUpon]at h3;obtain⟨rfl,rfl⟩:=h3
   rfl
  | halt x w'=>rw[hx]at h3;simp only[Oper.quietUpon]at h3
 ·exact .inr h
theorem wpOp_of_yOp {i:Nat}{a:Act}{w:World}{K:Act→World→Prop}(hh:yOp P ops i K a w):wpOp P ops Q' i K a w:=by
 unfold yOp at hh;unfold wpOp
 split
 ·rename_i ho;simp only[ho]at hh;exact hh
 ·rename_i o ho
  simp only[ho]at hh
  split
  ·rename_i hw
   simp only[hw,if_true]at hh
   refine .inl ?_
   unfold Oper.wp;generalize (execOp a.eval o).run P w=r at *
   cases r with
   | ok x w'=>
    cases x<;>simp only[kmb]at hh
    case value=>exact hh
    case skip=>exact hh
    case enter=>exact hh.mono (by rintro e w'' ⟨v,rfl,hk⟩;exact hk)
   | halt x w'=>simp only[kmb]at hh
  ·rename_i hw;simp only[hw]at hh;exact hh
def klq (md:Region.Mode)(ops:Array Oper)(i:Nat):Nat→Nat→Bool
 | 0,_=>false
 | f+1,j=>((ops[j]?).map fun o=>o.after.any fun e=>Region.binds md e&&(decide (e.on=i)||klq md ops i f e.on)).getD false
theorem klc {i:Nat}{listed:Array Bool}(hs:Shut md ops listed):∀(f j:Nat),klq md ops i f j=true→(∀o,ops[j]?=some o→∀e∈o.after,Region.binds md e=true→listed.getD e.on false=true)→listed.getD i false=true
 | 0,_,h,_=>by simp[klq]at h
 | f+1,j,h,hj=>by
  unfold klq at h
  cases ho:ops[j]? with
  | none=>simp[ho]at h
  | some o=>
   simp only[ho,Option.map_some,Option.getD_some]at h;obtain⟨e,he,hb⟩:=Array.any_eq_true'.1 h;simp only[qba,Bool.or_eq_true,decide_eq_true_eq]at hb;have h1:=hj o ho e he hb.1
   rcases hb.2 with h2|h2
   ·rw[←h2];exact h1
   ·exact klc hs f _ h2 fun o' ho' e' he' hb'=>hs _ o' ho' h1 e' he' hb'
def anyF (P:Program)(md:Region.Mode)(ops:Array Oper)(keep:Nat→World→World→Prop)(Q':Exit→Act→World→Prop):Nat→Array Bool→Act→World→Prop
 | 0,listed,a,w=>Region.ready md ops listed=[]∧Q' .normal a w
 | f+1,listed,a,w=>
  (Region.ready md ops listed=[]→Q' .normal a w)∧∀i∈Region.ready md ops listed,yOp P ops i (fun a' w'=>keep i w w'∧anyF P md ops keep Q' f (listed.setIfInBounds i true) a' w') a w
theorem kit:∀(f:Nat) (listed:Array Bool) (a:Act) (w:World),anyF P md ops keep Q' f listed a w→wpAny P md ops Q' f listed a w
 | 0,_,_,_,h=>h
 | f+1,_,_,_,h=>⟨h.1,fun i hi=>wpOp_of_yOp (kdo (fun a' w' h'=>kit f _ a' w' h'.2) (h.2 i hi))⟩
theorem anyF_first {N i:Nat}{oi:Oper}{v:Value}{D:World→Prop}(hi:ops[i]?=some oi)(hsel:∀(j:Nat) (o:Oper) cs b,ops[j]?=some o→o.op≠.select cs b)
  (hD:∀j w w',klq md ops i N j=false→keep j w w'→D w→D w') (hk:∀w,D w→keep i w w) :
  ∀(fuel:Nat) (listed:Array Bool) (a:Act) (w:World),D w→Shut md ops listed →
   (∀j oj,ops[j]?=some oj→j≠i→listed.getD j true=false→(∀e∈oj.after,Region.binds md e=true→e.on≠i)→oi.apart ops oj=true) →
   i∈Region.ready md ops listed→kfs P ops D oi v a →
   anyF P md ops keep Q' fuel (listed.setIfInBounds i true) (a.put oi.dst v) w→anyF P md ops keep Q' (fuel+1) listed a w:=by
 intro fuel
 induction fuel with
 | zero=>
  intro listed a w hC _ _ hr hy H
  refine⟨fun h=>(by rw[h]at hr;cases hr),fun j hj=>?_⟩
  by_cases hji:j=i
  ·subst hji
   exact hy.yOp hi hC ⟨hk w hC,H⟩
  ·have:=ready_mono hj hji
   rw[H.1]at this;cases this
 | succ fuel ih=>
  intro listed a w hC hsh hfree hr hy H
  refine⟨fun h=>(by rw[h]at hr;cases hr),fun j hj=>?_⟩
  by_cases hji:j=i
  ·subst hji
   exact hy.yOp hi hC ⟨hk w hC,H⟩
  ·have hun:=(mem_ready.1 hr).1
   have h1:=H.2 j (ready_mono hj hji);obtain⟨hjun,oj,hoj,hall⟩:=mem_ready.1 hj
   have hnot:∀e∈oj.after,Region.binds md e=true→e.on≠i:=fun e he hb heq=>by
    have h1:=hall e he hb;rw[heq,getD_both hun]at h1;cases h1
   have hnd:klq md ops i N j=false:=by
    cases hn:klq md ops i N j with
    | false=>rfl
    | true=>
     have:=klc hsh N j hn fun o ho e he hb=>by rw[hoj]at ho;cases ho;exact hall e he hb
     rw[getD_both hun]at this;cases this
   have hap:=hfree j oj hoj hji hjun hnot
   have h2:=yOp_put hoj hap (fun cs b=>hsel j oj cs b hoj) h1
   obtain⟨_,_,h3⟩:=Oper.apart_spec hap
   have hfree':∀k ok,ops[k]?=some ok→k≠i→(listed.setIfInBounds j true).getD k true=false →
     (∀e∈ok.after,Region.binds md e=true→e.on≠i)→oi.apart ops ok=true:=fun k ok hk hki hun hno=>by
    refine hfree k ok hk hki ?_ hno
    by_cases hjk:j=k
    ·subst hjk;exact hjun
    ·rw[getD_set_ne true hjk]at hun;exact hun
   refine kdo (fun a' w' h3'=>?_) h2
   obtain⟨⟨u,rfl⟩,hC',hE⟩:=h3'
   refine⟨hC',ih (listed.setIfInBounds j true) _ w' (hD j w w' hnd hC' hC) (hsh.set hj) hfree' (ready_mono hr (Ne.symm hji)) (hy.of_same (execOp_put oi (fun cs b=>hsel i oi cs b hi) a oj.dst u h3) (wanted_put oi a oj.dst u h3)) ?_⟩
   rw[Array.setIfInBounds_comm _ _ hji]
   exact hE
def kbq:List Nat→Array Bool→Array Bool
 | [],l=>l
 | k::ks,l=>kbq ks (l.setIfInBounds k true)
def runL (md:Region.Mode)(ops:Array Oper):List Nat→Array Bool→Bool
 | [],_=>true
 | k::ks,listed=>(Region.ready md ops listed).contains k&&Region.free md ops listed k&&((ops[k]?).map fun o=>isRd o.op).getD false&&runL md ops ks (listed.setIfInBounds k true)
theorem khh {N:Nat}{D:World→Prop}(hs:Region.noSelect ops=true){m:Nat}{w:World}(hC:D w):∀(ks:List Nat) (H:List Oper) (listed:Array Bool) (a:Act) (K:Act→Prop),ks.map (fun k=>ops[k]?)=H.map some→runL md ops ks listed=true →
  (∀k∈ks,(∀w,D w→keep k w w)∧∀j w w',klq md ops k N j=false→keep j w w'→D w→D w')→Shut md ops listed →
  wpQuiet P ops D K H a→(∀a',K a'→Shut md ops (kbq ks listed)→anyF P md ops keep Q' m (kbq ks listed) a' w)→anyF P md ops keep Q' (m+ks.length) listed a w
 | [],H,listed,a,K,hl,_,_,hsh,h,hK=>by
  cases H with
  | nil=>exact hK a h hsh
  | cons o H=>simp at hl
 | k::ks,H,listed,a,K,hl,hB,hk,hsh,h,hK=>by
  cases H with
  | nil=>simp at hl
  | cons o H=>
  simp only[List.map_cons,List.cons.injEq]at hl;obtain⟨h0,hl⟩:=hl;simp only[runL,qba,h0,Option.map_some,Option.getD_some]at hB;obtain⟨⟨⟨hr,hf⟩,hrd⟩,hB'⟩:=hB
  have hst:qOp P ops D k (wpQuiet P ops D K H) a:=by unfold qOp;simp only[h0];exact h
  obtain⟨v,hy,hK2⟩:=yieldsIn_of_qOp h0 hst
  have hrk:k∈Region.ready md ops listed:=by simpa using hr
  obtain⟨hk1,hk2⟩:=hk k (by simp)
  exact anyF_first h0 (Region.noSelect_spec hs) hk2 hk1 _ listed a w hC hsh (Region.free_spec h0 hf) hrk (yieldsS_rd hrd hy)
   (khh hs hC ks H _ _ K hl hB' (fun k hk'=>hk k (by simp[hk'])) (hsh.set hrk) hK2 hK)
theorem khg {m k:Nat}{listed:Array Bool}{a:Act}{w:World}(hr:Region.ready md ops listed=[k])(h:yOp P ops k (fun a' w'=>keep k w w'∧anyF P md ops keep Q' m (listed.setIfInBounds k true) a' w') a w):anyF P md ops keep Q' (m+1) listed a w:=
 ⟨fun h0=>(by rw[hr]at h0;cases h0),fun i hi=>by rw[hr]at hi;obtain rfl:i=k:=by simpa using hi
                                                 exact h⟩
theorem kds {Q Q':Act→Prop}:∀(l:List Oper) (a:Act),wpQuiet P ops C Q l a→(∀a,Q a→Q' a)→wpQuiet P ops C Q' l a
 | [],a,hq,h=>h a hq
 | o::l,a,hq,h=>by
  unfold wpQuiet at *
  split
  ·rename_i hw;rw[if_pos hw]at hq;exact Oper.quiet_mono (fun a hq=>kds l a hq h) hq
  ·rename_i hw;rw[if_neg hw]at hq;exact kds l _ hq h
theorem kfm {id:Nat}{Q:Exit→Act→World→Prop}{a:Act}{w:World}{L:List Oper}{D:World→Prop}(N m:Nat)(ks:List Nat)(H:List Oper)(hH:ks.map (fun k=>L.toArray[k]?)=H.map some)(hm:P.follows .mixedOrders=true)
  (hs:Region.noSelect L.toArray=true) (hlen:L.length=m+ks.length) (hB:runL .any L.toArray ks (Array.replicate L.length false)=true) (hD:D { w with drawn:=w.drawn+1 })
  (hk:∀k∈ks,(∀w,D w→keep k w w)∧∀j w w',klq .any L.toArray k N j=false→keep j w w'→D w→D w')
  (h:wpQuiet P L.toArray D (fun a'=>Shut .any L.toArray (kbq ks (Array.replicate L.length false))→anyF P .any L.toArray keep Q m (kbq ks (Array.replicate L.length false)) a' { w with drawn:=w.drawn+1 }) H a):(Code.region id L.toArray true).wp P Q a w:=by
 refine wp_region_any hm (kit (keep:=keep) _ _ _ _ ?_)
 rw[show Array.replicate L.toArray.size false=Array.replicate L.length false by simp,show L.toArray.size=m+ks.length by simpa using hlen]
 exact khh hs hD ks H _ a _ hH hB hk (fun j o _ hj=>by rw[getD_replicate_false]at hj;cases hj) h fun _ h=>h
theorem kjh (L:List Oper):∀n s:Nat,s+n≤L.length→(List.range' s n).map (fun k=>L.toArray[k]?)=((L.drop s).take n).map some
 | 0,s,_=>by simp
 | n+1,s,h=>by
  rw[List.range'_succ,List.map_cons,kjh L n (s+1) (by omega),List.drop_eq_getElem_cons (show s<L.length by omega),List.take_succ_cons,List.map_cons]
  simp[show s<L.length by omega]
theorem range_drop {L:List Oper}{r s:Nat}(h:L.length=r+s):(List.range' s r).map (fun k=>L.toArray[k]?)=(L.drop s).map some:=by
 rw[kjh L r s (by omega),List.take_of_length_le (by simp;omega)]
theorem kmd {id:Nat}{Q:Exit→Act→World→Prop}{a:Act}{w:World}{L:List Oper}(k r:Nat)(hm:P.follows .mixedOrders=true)
  (hB:(Region.noSelect L.toArray&&decide (L.length=r+1+k)&&runL .any L.toArray (List.range' 0 k) (Array.replicate L.length false)&&decide (Region.ready .any L.toArray (kbq (List.range' 0 k) (Array.replicate L.length false))=[k]) &&
   runL .any L.toArray (List.range' (k+1) r) ((kbq (List.range' 0 k) (Array.replicate L.length false)).setIfInBounds k true)&&decide (Region.ready .any L.toArray (kbq (List.range' (k+1) r) ((kbq (List.range' 0 k) (Array.replicate L.length false)).setIfInBounds k true))=[]))=true) (hC:C { w with drawn:=w.drawn+1 })
  (h:wpQuiet P L.toArray C (fun a'=>yOp P L.toArray k (fun a2 w2=>C w2∧wpQuiet P L.toArray C (fun a3=>Q .normal a3 w2) (L.drop (k+1)) a2) a' { w with drawn:=w.drawn+1 }) (L.take k) a):(Code.region id L.toArray true).wp P Q a w:=by
 simp only[qba,decide_eq_true_eq]at hB;obtain⟨⟨⟨⟨⟨hs,hlen⟩,h1⟩,h2⟩,h3⟩,h4⟩:=hB
 refine kfm (keep:=fun _ _=>C) (D:=C) 0 (r+1) _ (L.take k) (kjh L k 0 (by omega)) hm hs (by simpa using hlen) h1 hC (fun _ _=>⟨fun _ h=>h,fun _ _ _ _ h _=>h⟩) (kds _ _ h fun a' h' hsh=>khg h2 (kdo (fun a2 w2 h5=>⟨h5.1,?_⟩) h'))
 have:=khh (md:=.any) (keep:=fun _ _=>C) (Q':=Q) (N:=0) (m:=0) hs h5.1 (List.range' (k+1) r) _ ((kbq (List.range' 0 k) (Array.replicate L.length false)).setIfInBounds k true) a2 _ (range_drop (by omega)) h3 (fun _ _=>⟨fun _ h=>h,fun _ _ _ _ h _=>h⟩) (hsh.set (by rw[h2];simp)) h5.2 (fun a3 h6 _=>⟨h4,h6⟩)
 rwa [List.length_range',Nat.zero_add]at this
theorem kca {id:Nat}{Q:Exit→Act→World→Prop}{a:Act}{w:World}{L:List Oper}(ks:List Nat)(k1 k2 r:Nat)(H:List Oper)(hH:ks.map (fun k=>L.toArray[k]?)=H.map some)(hm:P.follows .mixedOrders=true)
  (hB:(Region.noSelect L.toArray&&decide (L.length=r+1+1+ks.length)&&decide (L.length=r+(k2+1))&&runL .any L.toArray ks (Array.replicate L.length false)&&decide (Region.ready .any L.toArray (kbq ks (Array.replicate L.length false))=[k1]) &&
   decide (Region.ready .any L.toArray ((kbq ks (Array.replicate L.length false)).setIfInBounds k1 true)=[k2]) &&
   runL .any L.toArray (List.range' (k2+1) r) (((kbq ks (Array.replicate L.length false)).setIfInBounds k1 true).setIfInBounds k2 true)&&decide (Region.ready .any L.toArray (kbq (List.range' (k2+1) r) (((kbq ks (Array.replicate L.length false)).setIfInBounds k1 true).setIfInBounds k2 true))=[]))=true) (hC:C { w with drawn:=w.drawn+1 })
  (h:wpQuiet P L.toArray C (fun a'=>yOp P L.toArray k1 (fun a1 w1=>C w1∧yOp P L.toArray k2 (fun a2 w2=>C w2∧wpQuiet P L.toArray C (fun a3=>Q .normal a3 w2) (L.drop (k2+1)) a2) a1 w1) a' { w with drawn:=w.drawn+1 }) H a):(Code.region id L.toArray true).wp P Q a w:=by
 simp only[qba,decide_eq_true_eq]at hB;obtain⟨⟨⟨⟨⟨⟨⟨hs,hlen⟩,hlen2⟩,h1⟩,h2⟩,h2'⟩,h3⟩,h4⟩:=hB
 refine kfm (keep:=fun _ _=>C) (D:=C) 0 (r+1+1) ks H hH hm hs hlen h1 hC (fun _ _=>⟨fun _ h=>h,fun _ _ _ _ h _=>h⟩) (kds _ _ h fun a' h' hsh=>khg h2 (kdo (fun a1 w1 h5=>⟨h5.1,khg h2' (kdo (fun a2 w2 h6=>⟨h6.1,?_⟩) h5.2)⟩) h'))
 have:=khh (md:=.any) (keep:=fun _ _=>C) (Q':=Q) (N:=0) (m:=0) hs h6.1 (List.range' (k2+1) r) _ (((kbq ks (Array.replicate L.length false)).setIfInBounds k1 true).setIfInBounds k2 true) a2 _ (range_drop hlen2) h3 (fun _ _=>⟨fun _ h=>h,fun _ _ _ _ h _=>h⟩) ((hsh.set (by rw[h2];simp)).set (by rw[h2'];simp)) h6.2 (fun a3 h7 _=>⟨h4,h7⟩)
 rwa [List.length_range',Nat.zero_add]at this
theorem kcx {id:Nat}{Q:Exit→Act→World→Prop}{a:Act}{w:World}{L:List Oper}(k r:Nat)(hm:P.follows .mixedOrders=true)
  (hB:(decide (k≤L.length)&&(Region.noSelect L.toArray&&decide (L.length=r+1+1+(List.range' 0 k).length)&&decide (L.length=r+(k+1+1))&&runL .any L.toArray (List.range' 0 k) (Array.replicate L.length false)&&decide (Region.ready .any L.toArray (kbq (List.range' 0 k) (Array.replicate L.length false))=[k]) &&
   decide (Region.ready .any L.toArray ((kbq (List.range' 0 k) (Array.replicate L.length false)).setIfInBounds k true)=[k+1]) &&
   runL .any L.toArray (List.range' (k+1+1) r) (((kbq (List.range' 0 k) (Array.replicate L.length false)).setIfInBounds k true).setIfInBounds (k+1) true)&&decide (Region.ready .any L.toArray (kbq (List.range' (k+1+1) r) (((kbq (List.range' 0 k) (Array.replicate L.length false)).setIfInBounds k true).setIfInBounds (k+1) true))=[])))=true) (hC:C { w with drawn:=w.drawn+1 })
  (h:wpQuiet P L.toArray C (fun a'=>yOp P L.toArray k (fun a1 w1=>C w1∧yOp P L.toArray (k+1) (fun a2 w2=>C w2∧wpQuiet P L.toArray C (fun a3=>Q .normal a3 w2) (L.drop (k+2)) a2) a1 w1) a' { w with drawn:=w.drawn+1 }) (L.take k) a):(Code.region id L.toArray true).wp P Q a w:=by
 have h0:=Bool.and_eq_true_iff.1 hB
 exact kca (List.range' 0 k) k (k+1) r _ (kjh L k 0 (by have:=of_decide_eq_true h0.1;omega)) hm h0.2 hC h
end
end Go
namespace Go.Proofs.YtcgghcicnanliaaGreatDoor
open Go.RowKit
abbrev Cx (w:World):World→Prop:=fun w'=>∃x:Xt w,w'=x.world
theorem Cx.of {w w':World}(h:Ext w w'):Cx w w':=⟨⟨w',h⟩,rfl⟩
theorem Cx.ext {w w':World}(h:Cx w w'):Ext w w':=by obtain⟨x,rfl⟩:=h;exact x.ext
end Go.Proofs.YtcgghcicnanliaaGreatDoor
namespace Go
section
variable {P:Program} {ops:Array Oper}
theorem kln {id:Nat}{Q:Exit→Act→World→Prop}{a:Act}{w:World}{L:List Oper}{C D:World→Prop}(s:Nat)(ks kt:List Nat)(H I:List Oper)(hH:ks.map (fun k=>L.toArray[k]?)=H.map some)(hI:kt.map (fun k=>L.toArray[k]?)=I.map some)(hm:P.follows .mixedOrders=true)
  (hB:(Region.noSelect L.toArray&&decide (L.length=1+1+kt.length+ks.length)&&runL .any L.toArray ks (Array.replicate L.length false)&&runL .any L.toArray kt (kbq ks (Array.replicate L.length false)) &&
   decide (Region.ready .any L.toArray (kbq kt (kbq ks (Array.replicate L.length false)))=[s])&&decide (Region.ready .any L.toArray ((kbq kt (kbq ks (Array.replicate L.length false))).setIfInBounds s true)=[s+1]) &&
   decide (Region.ready .any L.toArray (((kbq kt (kbq ks (Array.replicate L.length false))).setIfInBounds s true).setIfInBounds (s+1) true)=[]) &&
   (ks.all fun k=>klq .any L.toArray k L.length (s+1))&&kt.all fun k=>klq .any L.toArray k L.length (s+1)&&klq .any L.toArray k L.length s)=true)
  (hC:C w.drew) (hD:D w.drew)
  (h:wpQuiet P L.toArray C (wpQuiet P L.toArray D (fun a2=>yOp P L.toArray s (fun a3 w3=>C w3∧yOp P L.toArray (s+1) (Q .normal) a3 w3) a2 w.drew) I) H a):(Code.region id L.toArray true).wp P Q a w:=by
 simp only[qba,decide_eq_true_eq,List.all_eq_true]at hB;obtain⟨⟨⟨⟨⟨⟨⟨⟨hs,hlen⟩,h1⟩,h2⟩,h3⟩,h4⟩,h5⟩,h6⟩,h7⟩:=hB
 refine kfm (keep:=fun j w w'=>(j≠s+1→C w→C w')∧(j≠s→j≠s+1→D w→D w')) L.length _ ks H hH hm hs hlen h1 hC (fun k hk=>⟨fun _ _=>⟨fun _ h=>h,fun _ _ h=>h⟩,fun j w w' hn hj hc=>hj.1 (fun e=>?_) hc⟩) (kds _ _ h fun a1 h1' hsh=>?_)
 ·subst e;rw[h6 k hk]at hn;cases hn
 refine khh (N:=L.length) hs hD kt I _ a1 _ hI h2 (fun k hk=>⟨fun _ _=>⟨fun _ h=>h,fun _ _ h=>h⟩,fun j w w' hn hj hc=>hj.2 (fun e=>?_) (fun e=>?_) hc⟩) hsh h1' ?_
 ·subst e;rw[(h7 k hk).2]at hn;cases hn
 ·subst e;rw[(h7 k hk).1]at hn;cases hn
 intro a2 h2' _
 refine khg h3 (kdo (fun a3 w3 h8=>⟨⟨fun _ _=>h8.1,fun h=>absurd rfl h⟩,?_⟩) h2')
 exact khg (m:=0) h4 (kdo (fun a4 w4 h9=>⟨⟨fun h=>absurd rfl h,fun _ h=>absurd rfl h⟩,h5,h9⟩) h8.2)
theorem yOp_store {i:Nat}{o:Oper}{a:Act}{w:World}{K:Act→World→Prop}(hi:ops[i]?=some o)(hgd:o.guard=none)(ty:TypeId)(x y:Operand)(ho:o.op=.store ty x y)
  (g:Nat) (cells:Array Value) (hx:a.eval x=.pointer (some ⟨g,0,none⟩)) (hy:a.eval y=.agg cells)
  (t:TypeId) (old:Array Value) (hg:w.heap[g]?=some (.cells old t (0,0))) (hz:(P.info? ty).map (·.size)=some cells.size)
  (hold:old.size=cells.size) (h1:cells.all (·.oneCell')=true) (h:K (a.put o.dst undef) (w.setRow g cells)):yOp P ops i K a w:=by
 unfold yOp
 have hw:Region.wanted o (yielded ops a.tmps)=true:=by unfold Region.wanted;rw[hgd]
 simp only[hi,hw,if_true];unfold execOp;simp only[ho,hx,hy,Instr.storeAt,Instr.sureAddr,Sem.run_bind,Sem.run_pure,Result.andThen_ok,run_storeVar_row w g t ty old cells hg hz hold h1,kmb]
 exact h
end
end Go
namespace Go.Proofs.YtcgghcicnanliaaGreatDoor
open Go.RowKit
structure But (w:World)(n:Nat) where
 world:World
 same:∀k,k≠n→world.heap[k]?=w.heap[k]?
instance (w:World) (n:Nat):Inhabited (But w n):=⟨⟨w,fun _ _=>rfl⟩⟩
@[go_sem] theorem But.cell {w:World}{n:Nat}(x:But w n)(b o:Nat)(h:b≠n):x.world.cell? ⟨b,o,none⟩=w.cell? ⟨b,o,none⟩:=by simp[World.cell?,x.same b h]
@[go_sem] theorem But.froz {w:World}{n:Nat}(x:But w n)(b o:Nat)(h:b≠n):x.world.frozen? ⟨b,o,none⟩=w.frozen? ⟨b,o,none⟩:=by simp[World.frozen?,x.same b h]
end Go.Proofs.YtcgghcicnanliaaGreatDoor
namespace Go.Proofs.YtcgghcicnanliaaGreatDoor
open Go.ChangeShapes Go.WideShapes Go.Deep
def kni (P:Program)(lv:TypeId→Option (List TypeId)):List Field→Nat→Option (List TypeId)
 | [],_=>some []
 | f::fs,off=>match lv f.type with
  | some L=>if f.offset=off∧P.cellsOf f.type=L.length then (match kni P lv fs (off+L.length) with|some R=>some (L++R)|none=>none) else none
  | none=>none
def leaves (P:Program):Nat→TypeId→Option (List TypeId)
 | 0,_=>none
 | m+1,t=>match P.underlying t with
  | some (.struct fs)=>match kni P (leaves P m) fs.toList 0 with
   | some L=>if P.cellsOf t=L.length then some L else none
   | none=>none
  | some .bool=>some [t]
  | some (.int _)=>some [t]
  | some (.slice _)=>some [t]
  | _=>none
section
variable {H:Type} {enc:TypeId × Value→H} {P:Program} {w:World} {base:Nat} {spare:Nat→Bool} {held:Bool}
def kcb (enc:TypeId × Value→H)(P:Program)(w:World)(base:Nat)(spare:Nat→Bool)(held:Bool)(L:List TypeId)(cs:List Value):Prop:=
 cs.length=L.length∧∀(i:Nat) (t:TypeId) (v:Value),L[i]?=some t→cs[i]?=some v→∃n y,DataW.trod enc P w base spare held n t [v]=some y
theorem kcb.nil:kcb enc P w base spare held [] []:=⟨rfl,fun i t v h=>by simp at h⟩
theorem kcb.append {L R:List TypeId}{cs ds:List Value}(h:kcb enc P w base spare held L cs)(k:kcb enc P w base spare held R ds):kcb enc P w base spare held (L++R) (cs++ds):=by
 refine⟨by simp[h.1,k.1],fun i t v hi hv=>?_⟩
 by_cases hl:i<L.length
 ·rw[List.getElem?_append_left hl]at hi
  rw[List.getElem?_append_left (by rw[h.1];exact hl)]at hv
  exact h.2 i t v hi hv
 ·rw[List.getElem?_append_right (by omega)]at hi
  rw[List.getElem?_append_right (by rw[h.1];omega),h.1]at hv
  exact k.2 _ t v hi hv
theorem kcb.one {t:TypeId}{v:Value}{n:Nat}{y:DataW H × List MemPlace}(h:DataW.trod enc P w base spare held n t [v]=some y):kcb enc P w base spare held [t] [v]:=by
 refine⟨rfl,fun i t' v' hi hv=>?_⟩
 cases i with
 | zero=>simp at hi hv;subst hi hv;exact⟨n,y,h⟩
 | succ i=>simp at hi
theorem kkz {lv:TypeId→Option (List TypeId)}{n:Nat}(ih:∀t L cs x,lv t=some L→DataW.trod enc P w base spare held n t cs=some x→kcb enc P w base spare held L cs) :
  ∀(fs:List Field) (off:Nat) (L:List TypeId) (cs:List Value),kni P lv fs off=some L→off+L.length=cs.length →
   (∀f∈fs,∃x,DataW.trod enc P w base spare held n f.type ((cs.drop f.offset).take (P.cellsOf f.type))=some x)→kcb enc P w base spare held L (cs.drop off)
 | [],off,L,cs,h,hl,_=>by
  simp only[kni,Option.some.injEq]at h;subst h
  rw[List.drop_eq_nil_of_le (by simp at hl;omega)]
  exact kcb.nil
 | f::fs,off,L,cs,h,hl,hf=>by
  simp only[kni]at h
  split at h
  case h_2=>cases h
  rename_i L1 h1
  split at h
  case isFalse=>cases h
  rename_i hc
  obtain⟨ho,hk⟩:=hc
  split at h
  case h_2=>cases h
  rename_i R hR
  simp only[Option.some.injEq]at h;subst h
  obtain⟨x,hx⟩:=hf f (by simp)
  rw[ho,hk]at hx
  have e:cs.drop off=(cs.drop off).take L1.length++cs.drop (off+L1.length):=by
   rw[←List.drop_drop]
   exact(List.take_append_drop _ _).symm
  rw[e]
  exact(ih _ _ _ _ h1 hx).append (kkz ih fs _ R cs hR (by simp at hl;omega) fun g hg=>hf g (by simp[hg]))
theorem kgc:∀(m fuel:Nat) (t:TypeId) (L:List TypeId) (cs:List Value) (x:DataW H × List MemPlace),leaves P m t=some L→DataW.trod enc P w base spare held fuel t cs=some x→kcb enc P w base spare held L cs
 | 0,_,_,_,_,_,h,_=>by simp[leaves]at h
 | m+1,fuel,t,L,cs,x,h,hx=>by
  unfold leaves at h
  split at h
  case h_1 fs hu=>
   split at h
   case h_2=>cases h
   rename_i L1 hL
   split at h
   case isFalse=>cases h
   rename_i hc
   simp only[Option.some.injEq]at h;subst h;obtain⟨xs,n,_,_,hlen,hxl,hg⟩:=DataW.trod_struct hu hx
   have:=kkz (n:=n) (lv:=leaves P m) (fun t L cs x h1 h2=>kgc m n t L cs x h1 h2) fs.toList 0 L1 cs hL (by omega) (fun f hf=>by
    obtain⟨i,hi,e⟩:=List.getElem_of_mem hf
    have hi':i<fs.size:=by simpa using hi
    have hfi:fs[i]?=some f:=by rw[Array.getElem?_eq_getElem hi'];simpa using e
    have:=hg i f hfi
    exact⟨xs[i]'(by omega),this.trans (qgq (by omega))⟩)
   simpa using this
  case h_2 hu=>
   simp only[Option.some.injEq]at h;subst h;obtain⟨b,rfl,_⟩:=DataW.trod_bool hu hx
   exact kcb.one hx
  case h_3 k hu=>
   simp only[Option.some.injEq]at h;subst h;obtain⟨b,rfl,_⟩:=DataW.trod_int hu hx
   exact kcb.one hx
  case h_4 e hu=>
   simp only[Option.some.injEq]at h;subst h
   rcases open_slice hu hx with ⟨rfl,_⟩|⟨a,len,cap,_,_,_,_,rfl,_⟩
   ·exact kcb.one hx
   ·exact kcb.one hx
  case h_5=>cases h
theorem kcb.int {L:List TypeId}{cs:List Value}(h:kcb enc P w base spare held L cs)(i:Nat){t:TypeId}{k:IntKind}(ht:P.underlying t=some (.int k))(hi:L[i]?=some t) :
  ∃n,cs[i]?=some (.int k n)∧(Lit.int k n).wf=true:=by
 have hl:i<L.length:=(List.getElem?_eq_some_iff.1 hi).1
 have hv:cs[i]?=some (cs[i]'(by rw[h.1];exact hl)):=qgq _
 obtain⟨n,y,hy⟩:=h.2 i t _ hi hv;obtain⟨z,hz,_,hw⟩:=DataW.trod_int ht hy;simp only[List.cons.injEq,and_true]at hz
 exact⟨z,hv.trans (by rw[hz]),hw⟩
theorem kcb.bool {L:List TypeId}{cs:List Value}(h:kcb enc P w base spare held L cs)(i:Nat){t:TypeId}(ht:P.underlying t=some .bool)(hi:L[i]?=some t) :
  ∃b,cs[i]?=some (.bool b):=by
 have hl:i<L.length:=(List.getElem?_eq_some_iff.1 hi).1
 have hv:cs[i]?=some (cs[i]'(by rw[h.1];exact hl)):=qgq _
 obtain⟨n,y,hy⟩:=h.2 i t _ hi hv;obtain⟨z,hz,_⟩:=DataW.trod_bool ht hy;simp only[List.cons.injEq,and_true]at hz
 exact⟨z,hv.trans (by rw[hz])⟩
theorem kcb.slice {L:List TypeId}{cs:List Value}(h:kcb enc P w base spare held L cs)(i:Nat){t e:TypeId}{m:Nat}{Le:List TypeId}(ht:P.underlying t=some (.slice e))(hL:leaves P m e=some Le)(hc:P.cellsOf e=Le.length)(hi:L[i]?=some t) :
  ∃(A:Option Addr) (len cap:Nat),cs[i]?=some (.slice A len cap)∧len≤cap∧cap≤maxLen∧(A=none→len=0∧cap=0) ∧
   ∀a,A=some a→∀j,j<len→∃es:List Value,kcb enc P w base spare held Le es∧∀q v,es[q]?=some v→w.cell? (a.add (j*Le.length+q))=some v:=by
 have hl:i<L.length:=(List.getElem?_eq_some_iff.1 hi).1
 have hv:cs[i]?=some (cs[i]'(by rw[h.1];exact hl)):=qgq _
 obtain⟨n,y,hy⟩:=h.2 i t _ hi hv
 rcases open_slice ht hy with ⟨hz,_⟩|⟨a,len,cap,m',n',D,Pl,hz,hb,hle,hcm,hm,hx,hel⟩
 ·simp only[List.cons.injEq,and_true]at hz
  exact⟨none,0,0,hv.trans (by rw[hz]),Nat.le_refl _,Nat.zero_le _,fun _=>⟨rfl,rfl⟩,(fun a e=>by cases e)⟩
 ·simp only[List.cons.injEq,and_true]at hz
  refine⟨some a,len,cap,hv.trans (by rw[hz]),hle,hcm,(fun e=>by cases e),fun a' ha j hj=>?_⟩
  cases ha
  obtain⟨es,h1,h2⟩:=hel j (by rw[hm];split<;>omega)
  obtain⟨_,h3,h4⟩:=World.cells?_some h1
  refine⟨es,kgc m n' e Le es _ hL h2,fun q v hq=>?_⟩
  have hql:q<es.length:=(List.getElem?_eq_some_iff.1 hq).1
  have:=h4 q (by omega)
  rw[hq,Go.Deep.add_add,hc]at this
  exact this
end
theorem Sl.of_cells {α : Type}{Q:α→Prop}{enc:α→List Value}{k:Nat}{w:World}{A:Option Addr}{len:Nat}(hk:∀x,(enc x).length=k)(hpos:0<k)(hA:A=none→len=0)
  (h:∀a,A=some a→∀j,j<len→∃x,Q x∧∀q v,(enc x)[q]?=some v→w.cell? (a.add (j*k+q))=some v):∃l:List α,l.length=len∧(∀x∈l,Q x)∧Sl enc k w A l:=by
 cases A with
 | none=>exact⟨[],by simp[hA rfl],by simp,Sl.nil⟩
 | some a=>
  have h':=h a rfl;clear h hA
  have hex:∀m,m≤len→∃l:List α,l.length=m∧(∀x∈l,Q x)∧∀j x q v,l[j]?=some x→(enc x)[q]?=some v→w.cell? (a.add (j*k+q))=some v:=by
   intro m
   induction m with
   | zero=>intro _;exact⟨[],rfl,by simp,fun j x q v hj=>by simp at hj⟩
   | succ m ih=>
    intro hm
    obtain⟨l,hl,hq,hc⟩:=ih (by omega)
    obtain⟨x,hqx,hx⟩:=h' m (by omega)
    refine⟨l++[x],by simp[hl],fun y hy=>(by rcases List.mem_append.1 hy with h1|h1;exact hq y h1;rw[List.mem_singleton]at h1;subst h1;exact hqx),fun j y q v hj hq=>?_⟩
    by_cases hjl:j<l.length
    ·rw[List.getElem?_append_left hjl]at hj
     exact hc j y q v hj hq
    ·have hjm:j=m:=by
      have:=(List.getElem?_eq_some_iff.1 hj).1
      simp at this
      omega
     subst hjm
     rw[List.getElem?_append_right (by omega),hl]at hj
     simp at hj
     subst hj
     exact hx q v hq
  obtain⟨l,hl,hq,hc⟩:=hex len (Nat.le_refl _)
  refine⟨l,hl,hq,fun hpl=>?_⟩
  obtain⟨b,off,spot⟩:=a;obtain⟨x,hx⟩:∃x,l[0]?=some x:=⟨_,qgq hpl⟩
  obtain⟨v,hv⟩:∃v,(enc x)[0]?=some v:=⟨_,qgq (by rw[hk];exact hpos)⟩
  have h0:=hc 0 x 0 v hx hv
  have hspot:spot=none:=by simpa[Addr.add]using World.cell?_spot h0
  subst hspot
  have hb:b<w.heap.size:=by
   simp only[Addr.add,Nat.zero_mul,Nat.add_zero,if_true]at h0;unfold World.cell? at h0
   simp only at h0
   split at h0
   ·rename_i hh;exact(qaz hh).1
   ·cases h0
  refine⟨b,off,rfl,hb,fun j y q v hj hq=>?_⟩
  have:=hc j y q v hj hq
  rw[Go.WideShapes.add_plain]at this;rw[Nat.add_assoc]
  exact this
end Go.Proofs.YtcgghcicnanliaaGreatDoor
