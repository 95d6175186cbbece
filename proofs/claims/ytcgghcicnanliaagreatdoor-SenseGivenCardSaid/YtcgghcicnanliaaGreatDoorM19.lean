/- Walks: slices.Backward at []Point. Conditions: none. Walks: hull.around, hull.Hull. Conditions: none. Walks: hull.Hull, chart.isPlace and its callers. Conditions: none. -/
import Derived.Test.YtcgghcicnanliaaGreatDoorM14
import Derived.Laws.EntriesVeiled
set_option linter.unusedVariables false
set_option linter.unusedSimpArgs false
namespace Go.Proofs.YtcgghcicnanliaaGreatDoor
open Go.RowKit
set_option maxHeartbeats 2000000
set_option maxRecDepth 100000
attribute [local go_sem] Oper.semAt_some
theorem Bb.b {B c:Nat}{w:World}(hn:B≤w.heap.size)(W:World)(l:Nat)(o o':Obj)(hl:w.heap.size≤l)(h:W.heap[l]?=some o)(_:o.isCells=false)(_:o.isWalk=false):Bb B c W (W.putObj l o'):=
 ⟨⟨rfl,rfl,rfl⟩,by simp,fun k hk _=>World.putObj_heap_other (by omega)⟩
theorem Bb.froz {B c:Nat}{X Y:World}(h:Bb B c X Y){k o:Nat}(hk:k<B)(hc:k≠c):Y.frozen? ⟨k,o,none⟩=X.frozen? ⟨k,o,none⟩:=World.frozen?_of_block (w:=X) (h.2.2 k hk hc)
theorem Bb.cell {B c:Nat}{X Y:World}(h:Bb B c X Y){k o:Nat}(hk:k<B)(hc:k≠c):Y.cell? ⟨k,o,none⟩=X.cell? ⟨k,o,none⟩:=World.cell?_of_block (w:=X) (h.2.2 k hk hc)
def bwG (l:List Pt)(j:Nat):Int × Pt:=(((l.length-1-j:Nat):Int),l[l.length-1-j]?.getD (0,0))
def bwEnc (x:Int × Pt):Array Value:=#[.int .i64 x.1,.agg #[.int .i64 x.2.1,.int .i64 x.2.2]]
theorem backward_336 (A:Option Addr)(n c:Nat)(w:World) :
  Calls Tryz.prog 336 #[.slice A n c] w fun e w'=>e=.returned (.func (.func 387) #[] #[.pointer (some ⟨w.heap.size,0,none⟩)])∧w'=w.alloc (.cells #[.slice A n c] 76):=by
 go_enter Tryz.func336,Tryz.ntmps336
 go_wp2
 go_ret
 exact⟨rfl,rfl⟩
theorem backward1_387 {α : Type}(enc:α→Array Value)(f:Nat→α)(n l0 Bs n₀ cc g cap:Nat)(l:List Pt)(hf:∀j,enc (f j)=bwEnc (bwG l j))(hreach:l.length≤1000000)(hn:1≤n)(hg:g<n₀)(hgc:g≠cc)(hBs:Bs<n₀)(hBc:Bs≠cc)(J Jx:List α→World→Prop)
  (hY:∀pre x W,J pre W→pre.length<l.length→YieldAt Fence.wide (n-1) Tryz.prog l0 (enc x) W fun e W'=>
   (e=.returned (.bool true)∧J (pre++[x]) W'∧Bb n₀ cc W W')∨(e=.returned (.bool false)∧Jx (pre++[x]) W'))
  (W:World) (hb:W.cell? ⟨Bs,0,none⟩=some (.slice (some ⟨g,0,none⟩) l.length cap)) (hc:Sl encP 2 W (some ⟨g,0,none⟩) l) (h0:J [] W) :
  CallsIn Fence.wide n Tryz.prog 387 #[.func (.yield l0) #[] #[],.pointer (some ⟨Bs,0,none⟩)] W fun e W'=>(∃v,e=.returned v) ∧
   ((∃ys,ys=upto f l.length∧J ys W')∨(∃pre,(∃k,k≤l.length∧pre=upto f k)∧Jx pre W')):=by
 refine callsIn_of_wp Tryz.func387 rfl trivial ?_ rfl
 simp only[Tryz.ntmps387,List.size_toArray,List.length_cons,List.length_nil,Nat.reduceAdd,Nat.reduceSub,Array.replicate_succ,Array.replicate_zero,List.push_toArray,List.append_toArray,List.nil_append,List.cons_append]
 gi_wp2
 gi_loopw [3] (fun s3 wr=>∃k:Nat,k≤l.length∧s3=.int .i64 ((l.length:Int)-1-k)∧J (upto f k) wr∧Bb n₀ cc W wr)
  (fun s3 _=>((intOf s3)+1).toNat)
 case atStart=>exact⟨0,Nat.zero_le _,by simp,h0,Bb.refl _ _ _⟩
 case round=>
  obtain⟨k,hk,rfl,hJs,hnx⟩:=hrel
  by_cases hlt:k<l.length
  ·obtain⟨i,hi⟩:∃i,l.length=i+1+k:=⟨l.length-1-k,by omega⟩
   obtain⟨y,hy⟩:∃y,l[i]?=some y:=⟨_,qgq (by omega)⟩
   have hG:bwG l k=((i:Int),y):=by
    have e:l.length-1-k=i:=by omega
    simp[bwG,e,hy]
   obtain⟨fn,tmps,assign,body,hyy,hR⟩:=hY _ (f k) _ hJs (by rw[kch];exact hlt)
   obtain⟨t1,t2⟩:=y;rw[hf,hG]at hyy;simp only[bwEnc]at hyy
   have c0:wr.cell? ⟨g,i*2,none⟩=some (.int .i64 t1):=by have:=hc.at_ hy (i:=0) rfl;rw[hnx.cell hg hgc];simpa using this
   have c1:wr.cell? ⟨g,i*2+1,none⟩=some (.int .i64 t2):=by have:=hc.at_ hy (i:=1) rfl;rw[hnx.cell hg hgc];simpa using this
   have cb:wr.cell? ⟨Bs,0,none⟩=some (.slice (some ⟨g,0,none⟩) l.length cap):=(hnx.cell hBs hBc).trans hb
   have hiz:(l.length:Int)-1-k=(i:Int):=by omega
   have hil:(i:Int)<(l.length:Int):=by omega
   have hN:Hid (l.length=i+1+k):=hi
   clear hi;rw[hiz]
   gi_wp2
   refine hR.mono ?_
   rintro e W3 (⟨rfl,hJ3,hk3⟩|⟨rfl,hJx3⟩)
   ·gi_wp2
    go_roundw
    case rel=>exact⟨k+1,by omega,by congr 1;have:=hN.out;omega,by rw[kda];exact hJ3,hnx.trans hk3⟩
    case measure=>simp[intOf]
   ·gi_wp2
    refine bodyPost_ret (results_none rfl _ _ _) rfl ?_
    exact⟨⟨_,rfl⟩,.inr ⟨_,⟨k+1,by omega,(kda _ _).symm⟩,hJx3⟩⟩
  ·obtain rfl:k=l.length:=by omega
   gi_wp2
   go_end0
   exact⟨⟨_,rfl⟩,.inl ⟨_,rfl,hJs⟩⟩
theorem kpe {α : Type}(enc:α→Array Value)(f:Nat→α)(n Bs cc g cap:Nat)(l:List Pt)(hf:∀j,enc (f j)=bwEnc (bwG l j))(hreach:l.length≤1000000)(hn:1≤n)(w:World)(hg:g<w.heap.size)(hgc:g≠cc)(hBs:Bs<w.heap.size)(hBc:Bs≠cc)
  (hb:w.cell? ⟨Bs,0,none⟩=some (.slice (some ⟨g,0,none⟩) l.length cap)) (hc:Sl encP 2 w (some ⟨g,0,none⟩) l) :
  SeqStopsK Fence.wide n Tryz.prog 387 #[.pointer (some ⟨Bs,0,none⟩)] enc (Bb w.heap.size cc) (fun ys=>ys=upto f l.length) (fun pre=>∃k,k≤l.length∧pre=upto f k) l.length w:=fun l0 J Jx W hW _ _ hY h0=>
 backward1_387 enc f n l0 Bs w.heap.size cc g cap l hf hreach hn hg hgc hBs hBc J Jx hY W ((hW.cell (p:=⟨Bs,0,none⟩) hBs).trans hb) (hc.ext hW) h0
theorem popR_sub (x:Pt):∀s:List Pt,popR x s ⊆ s∧(popR x s).length≤s.length∧(s≠[]→popR x s≠[])
 | []=>⟨fun _ h=>h,Nat.le_refl _,fun h=>absurd rfl h⟩
 | [a]=>⟨fun _ h=>h,Nat.le_refl _,fun _=>by simp[popR]⟩
 | b::a::t=>by
  unfold popR
  split
  ·obtain⟨h1,h2,h3⟩:=popR_sub x (a::t)
   exact⟨fun y hy=>List.mem_cons_of_mem _ (h1 hy),by simp at h2 ⊢;omega,fun _=>h3 (by simp)⟩
  ·exact⟨fun _ h=>h,Nat.le_refl _,fun _=>by simp⟩
theorem pushL_mem {l:List Pt}{x y:Pt}(h:y∈khq l x):y∈l∨y=x:=by
 rw[khq,List.mem_append,List.mem_reverse,List.mem_singleton]at h
 rcases h with h|h
 ·exact .inl (List.mem_reverse.1 ((popR_sub x l.reverse).1 h))
 ·exact .inr h
theorem kna (l:List Pt)(x:Pt):(khq l x).length≤l.length+1∧(l≠[]→2≤(khq l x).length)∧khq l x≠[]:=by
 obtain⟨_,h2,h3⟩:=popR_sub x l.reverse
 refine⟨?_,fun h=>?_,by simp[khq]⟩
 ·simp[khq]at h2 ⊢;omega
 ·have:=h3 (by simpa using h)
  have:=List.length_pos_iff.2 this
  simp[khq];omega
def kbf (l:List Pt):List Pt:=l.foldl khq []
theorem kgk (l:List Pt)(x:Pt):kbf (l++[x])=khq (kbf l) x:=by simp[kbf]
theorem kax (l:List Pt):(∀y∈kbf l,y∈l)∧(kbf l).length≤l.length∧(l≠[]→kbf l≠[]):=by
 obtain⟨r,rfl⟩:∃r,l=r.reverse:=⟨l.reverse,by simp⟩
 induction r with
 | nil=>exact⟨fun _ h=>h,Nat.le_refl _,fun h=>absurd rfl h⟩
 | cons x r ih=>
  rw[List.reverse_cons];generalize r.reverse=l at ih ⊢;rw[kgk]
  refine⟨fun y hy=>?_,?_,fun _=>(kna _ _).2.2⟩
  ·rcases pushL_mem hy with h|h
   ·exact List.mem_append.2 (.inl (ih.1 y h))
   ·exact List.mem_append.2 (.inr (by simp[h]))
  ·have:=(kna (kbf l) x).1
   simp;omega
theorem kku {l:List Pt}(h:2≤l.length):2≤(kbf l).length:=by
 obtain⟨ini,x,rfl⟩:∃ini x,l=ini++[x]:=⟨l.dropLast,l.getLast (by intro e;simp[e]at h),(List.dropLast_concat_getLast _).symm⟩
 rw[kgk]
 refine(kna _ _).2.1 ((kax ini).2.2 ?_)
 intro e;subst e;simp at h
def kdv (l:List Pt):List Pt:=if (cpt (srt l)).length<3 then cpt (srt l) else (kbf (cpt (srt l))).dropLast++(kbf (cpt (srt l)).reverse).dropLast
theorem srt_mem {l:List Pt}{y:Pt}(h:y∈srt l):y∈l:=List.mem_mergeSort.1 h
theorem cpt_mem {l:List Pt}{y:Pt}(h:y∈cpt l):y∈l:=by
 unfold cpt Lib.compactUpTo at h;obtain⟨j,hj,rfl⟩:=List.mem_map.1 h
 have:=(List.mem_filter.1 hj).1
 have hl:=List.mem_range.1 this
 rw[getElem!_pos l.toArray j (by simpa using hl)]
 simp
theorem cpt_len (l:List Pt):(cpt l).length≤l.length:=by
 unfold cpt Lib.compactUpTo;rw[List.length_map]
 exact Nat.le_trans (List.length_filter_le _ _) (by simp)
theorem Pr.of_heap {B:Nat}{X Y:World}{g cap:Nat}{l:List Pt}(h:Pr B X g cap l)(e:Y.heap[g]?=X.heap[g]?):Pr B Y g cap l:=by
 obtain⟨h1,_,h3,h4,cur,hg,hs,ht⟩:=h.blk
 exact Pr.mk h1 h3 h4 (e.trans hg) hs ht
theorem Pr.base {B B':Nat}{X:World}{g cap:Nat}{l:List Pt}(h:Pr B X g cap l)(hb:B'≤B):Pr B' X g cap l:=by
 obtain⟨h1,_,h3,h4,cur,hg,hs,ht⟩:=h.blk
 exact Pr.mk (by omega) h3 h4 hg hs ht
theorem Pr.reads {B:Nat}{X:World}{g cap:Nat}{l:List Pt}(h:Pr B X g cap l):∀j u,(l.flatMap encP)[j]?=some u→X.cell? ((⟨g,0,none⟩:Addr).add j)=some u:=fun j u hu=>by
 have hj:j<l.length*2:=by have:=(List.getElem?_eq_some_iff.1 hu).1;rwa [kby]at this
 have:=(h.cells hj).1
 rw[hu]at this;rw[Addr.add_lit,Nat.zero_add]
 exact this
theorem ints_one {l:List Pt}:∀u∈l.flatMap encP,u.oneCell'=true:=fun u hu=>by
 obtain⟨x,_,hx⟩:=List.mem_flatMap.1 hu
 simp[encP]at hx;rcases hx with rfl|rfl<;>rfl
theorem kkc.of_heap {B c:Nat}{X Y:World}{l:List Pt}(h:kkc B X c l)(ec:Y.heap[c]?=X.heap[c]?)(e:∀k,B≤k→k<X.heap.size→Y.heap[k]?=X.heap[k]?):kkc B Y c l:=by
 rcases h with ⟨h,k⟩|⟨g,cap,h,k⟩
 ·exact .inl ⟨ec.trans h,k⟩
 ·exact .inr ⟨g,cap,ec.trans h,k.of_heap (e g k.blk.1 k.blk.2.1)⟩
theorem chain_own (n₀ B c:Nat){β : Type}(f:β→List Pt):OwnFrom n₀ (fun s W=>kkc B W c (f s)):=fun s X Y row h hg hr=>by
 have hne:∀ {k:Nat} {xs:Array Value} {t:TypeId} {z:Nat × Nat},X.heap[k]?=some (.cells xs t z)→Y.heap[k]?=X.heap[k]?:=fun {k xs t z} hk=>
  hg.block k (qaz hk).1 (fun e=>by obtain⟨_,o,ho,hoc⟩:=hr k e.symm;rw[hk]at ho;cases ho;cases hoc)
 rcases h with ⟨h,k⟩|⟨g,cap,h,k⟩
 ·exact .inl ⟨(hne h).trans h,k⟩
 ·obtain⟨_,_,_,_,cur,hgg,_⟩:=k.blk
  exact .inr ⟨g,cap,(hne h).trans h,k.of_heap (hne hgg)⟩
theorem bb_own {n₀ c:Nat}{W0:World}(h0:n₀≤W0.heap.size){β : Type}:OwnFrom n₀ (fun (_:β) W=>Bb n₀ c W0 W):=fun _ X Y row h hg hr=>
 h.trans ⟨⟨hg.os,hg.tape,hg.output⟩,hg.size,fun k hk _=>hg.block k (by have:=h.2.1;omega) (fun e=>by have:=(hr k e.symm).1;omega)⟩
abbrev BwT:={ x:Int × Pt // Mid x.2 }
def bwF (l:List Pt)(h:∀y∈l,Mid y)(j:Nat):BwT:=⟨bwG l j,by
 simp only[bwG]
 cases e:l[l.length-1-j]? with
 | none=>simp[Mid]
 | some y=>exact h y (qmq e)⟩
def bwE (x:BwT):Array Value:=bwEnc x.1
theorem bwF_rev (l:List Pt)(h:∀y∈l,Mid y):(upto (bwF l h) l.length).map (fun x=>x.1.2)=l.reverse:=by
 apply List.ext_getElem
 ·simp[upto]
 ·intro i h1 h2
  have hi:i<l.length:=by simpa using h2
  simp[upto,bwF,bwG,qgq (show l.length-1-i<l.length by omega)]
theorem wrap_small {n:Int}(h0:0≤n)(h1:n≤9000000000000000000):IntKind.i64.wrap n=n:=by rw[IntKind.wrap_i64];(try unfold wrap64);omega
theorem around_256 (A:Option Addr)(c:Nat)(l:List Pt)(w:World)(hS:Sl encP 2 w A l)(h0:0<l.length)(hl:l.length≤4000)(hm:∀y∈l,Mid y) :
  Calls Tryz.prog 256 #[.slice A l.length c] w fun e w'=>∃g cap,e=.returned (.slice (some ⟨g,0,none⟩) (kdv l).length cap)∧Pr w.heap.size w' g cap (kdv l)∧Ext w w':=by
 refine(callsIn_wide (n:=9)).1 ?_
 refine callsIn_of_wp_marks Tryz.func256 rfl trivial ?_ rfl
 refine wpIn_wide.2 ?_
 simp only[Tryz.ntmps256,List.size_toArray,List.length_cons,List.length_nil,Nat.reduceAdd,Nat.reduceSub,Array.replicate_succ,Array.replicate_zero,List.push_toArray,List.append_toArray,List.nil_append,List.cons_append]
 go_wp2_with (go_at_call 156;refine(khf A c l _ hS h0 (by omega)).mono ?_;rintro e w1 ⟨g,cap,rfl,hP1,hx1⟩)
 refine(sortFunc_333 hP1 (by omega)).mono ?_
 rintro e w2 ⟨rfl,hP2,hB2⟩
 have hls:(srt l).length=l.length:=by simp[srt]
 have hC:=koe hP2 (by omega)
 rw[hls]at hC
 have hsub:∀y∈cpt (srt l),Mid y:=fun y hy=>hm y (srt_mem (cpt_mem hy))
 have hlc:(cpt (srt l)).length≤4000:=by have:=cpt_len (srt l);omega
 have hun:kdv l=if (cpt (srt l)).length<3 then cpt (srt l) else (kbf (cpt (srt l))).dropLast++(kbf (cpt (srt l)).reverse).dropLast:=rfl
 generalize cpt (srt l)=s at hC hsub hlc hun
 go_wp2_with (go_at_call 162;refine hC.mono ?_;rintro e w3 ⟨rfl,hP3,hB3⟩)
 all_goals (have hX:Hid (Ext w w3):=(hx1.trans (Ext.refl w1)).trans (Ext.refl w1) |>.trans (Ext.refl w1) |> fun h=>(Below.trans h (Below.mono hB2 (Nat.le_refl _))).trans hB3)
 ·have e:kdv l=s:=by rw[hun,if_pos (by omega)]
  exact⟨.slice (some ⟨g,0,none⟩) s.length cap,by simp[results,Tryz.f256,go_sem],g,cap,by rw[e],by rw[e];exact hP3,hX.out⟩
 have hs3:3≤s.length:=by omega
 have hgw3:=hP3.blk.2.1;obtain⟨W1,hW1⟩:∃W1,((w3.alloc (.cells #[.slice none 0 0] 344)).alloc (.cells #[.slice none 0 0] 344)).alloc (.cells #[.func (.func 335) #[.pointer (some ⟨w3.heap.size,0,none⟩)] #[]] 345)=W1:=⟨_,rfl⟩
 have hE1:Hid (Ext w3 W1):=by show Ext w3 W1;rw[←hW1];exact(((Ext.refl w3).alloc _).alloc _).alloc _
 have hz1:W1.heap.size=w3.heap.size+3:=by rw[←hW1];simp
 have q1:Hid (Boxed W1 w3.heap.size 344 (.slice none 0 0)):=by show Boxed W1 _ _ _;rw[←hW1];exact((Boxed.new w3 344 _).alloc _).alloc _
 have q2:Hid (Boxed W1 (w3.heap.size+1) 344 (.slice none 0 0)):=by
  show Boxed W1 _ _ _;rw[←hW1]
  have:=(Boxed.new (w3.alloc (.cells #[.slice none 0 0] 344)) 344 (.slice none 0 0)).alloc (.cells #[.func (.func 335) #[.pointer (some ⟨w3.heap.size,0,none⟩)] #[]] 345)
  simpa using this
 have q6:Hid (Boxed W1 (w3.heap.size+1+1) 345 (.func (.func 335) #[.pointer (some ⟨w3.heap.size,0,none⟩)] #[])):=by
  show Boxed W1 _ _ _;rw[←hW1]
  have:=Boxed.new ((w3.alloc (.cells #[.slice none 0 0] 344)).alloc (.cells #[.slice none 0 0] 344)) 345 (.func (.func 335) #[.pointer (some ⟨w3.heap.size,0,none⟩)] #[])
  simpa using this
 rw[hW1];clear hW1;have hPh:=Lib.hid (hP3.ext hE1.out)
 go_loopg [8,24] s.length (fun gg _ s24 wr=>∃kk:Nat,kk≤s.length∧s.length-kk≤gg∧s24=.int .i64 kk∧Hid (kkc (w3.heap.size+3) wr w3.heap.size (kbf (s.take kk))∧Bb (w3.heap.size+3) w3.heap.size W1 wr))
 case atStart=>exact⟨0,by omega,by omega,rfl,.inl ⟨q1.out,rfl⟩,Bb.refl _ _ _⟩
 case round=>
  obtain⟨kk,hkk,hgg,rfl,hI⟩:=hrel;have hzr:=hI.out.2.2.1
  by_cases hlt:kk<s.length
  ·obtain⟨y,hy⟩:∃x,s[kk]?=some x:=⟨_,qgq hlt⟩
   have ⟨⟨a1,a2⟩,_⟩:=hPh.out.at_ hy
   rw[←hI.out.2.cell (by omega) (by omega)]at a1 a2
   have c6:wr.cell? ⟨w3.heap.size+1+1,0,none⟩=some (.func (.func 335) #[.pointer (some ⟨w3.heap.size,0,none⟩)] #[]):=by rw[hI.out.2.cell (by omega) (by omega)];exact q6.out.cell
   have hpush:=push_335 (w3.heap.size+3) w3.heap.size (kbf (s.take kk)) y (wr.alloc (.cells #[.int .i64 y.1,.int .i64 y.2] 43)) (by omega) (by simp;omega)
    (by have:=(kax (s.take kk)).2.1;simp at this;omega) (fun z hz=>hsub z (List.mem_of_mem_take ((kax (s.take kk)).1 z hz))) (hsub y (qmq hy)) (hI.out.1.ext ((Ext.refl _).alloc _))
   have hsn:s.take (kk+1)=s.take kk++[y]:=by rw[List.take_add_one,hy];rfl
   rw[←kgk,←hsn]at hpush;clear hy hsn
   have hltz:(kk:Int)<(s.length:Int):=by omega
   have hgr:g<wr.heap.size:=by omega
   have hb6:w3.heap.size+1+1<wr.heap.size:=by omega
   go_wp2_with (go_at_call 335;refine hpush.mono ?_;rintro e W' ⟨rfl,hC',hBb,_⟩)
   go_roundg (s.length-(kk+1))
   case measure=>omega
   case rel=>exact⟨kk+1,by omega,by omega,by go_num,hC',hI.out.2.trans ((Bb.of_below ((Below.refl _ wr).alloc (by omega) _)).trans hBb)⟩
  ·obtain rfl:kk=s.length:=by omega
   rw[List.take_length]at hI
   have c6:wr.cell? ⟨w3.heap.size+1+1,0,none⟩=some (.func (.func 335) #[.pointer (some ⟨w3.heap.size,0,none⟩)] #[]):=by rw[hI.out.2.cell (by omega) (by omega)];exact q6.out.cell
   have f6:wr.frozen? ⟨w3.heap.size+1+1,0,none⟩=false:=by rw[hI.out.2.froz (by omega) (by omega)];exact q6.out.frozen
   go_wp2_with (go_at_call 336;refine(backward_336 _ _ _ _).mono ?_;rintro e W' ⟨rfl,rfl⟩)
   obtain⟨W2,hW2⟩:∃W2,(wr.setCell ⟨w3.heap.size+1+1,0,none⟩ (.func (.func 335) #[.pointer (some ⟨w3.heap.size+1,0,none⟩)] #[])).alloc (.cells #[.slice (some ⟨g,0,none⟩) s.length cap] 76)=W2:=⟨_,rfl⟩
   have hz2:W2.heap.size=wr.heap.size+1:=by rw[←hW2];simp
   have hh2:∀k,k<wr.heap.size→k≠w3.heap.size+1+1→W2.heap[k]?=wr.heap[k]?:=fun k h1 h2=>by
    rw[←hW2,Below.heap_alloc _ _ _ (by simpa using h1),Below.heap_setCell _ _ _ _ h2]
   have r6:Hid (Boxed W2 (w3.heap.size+1+1) 345 (.func (.func 335) #[.pointer (some ⟨w3.heap.size+1,0,none⟩)] #[])):=by
    show Boxed W2 _ _ _
    rw[←hW2]
    have:Boxed wr (w3.heap.size+1+1) 345 (.func (.func 335) #[.pointer (some ⟨w3.heap.size,0,none⟩)] #[]):=(hI.out.2.2.2 _ (by omega) (by omega)).trans q6.out
    exact(this.set _).alloc _
   have r2:Hid (Boxed W2 (w3.heap.size+1) 344 (.slice none 0 0)):=(hh2 _ (by omega) (by omega)).trans ((hI.out.2.2.2 _ (by omega) (by omega)).trans q2.out)
   have rs:Hid (Boxed W2 wr.heap.size 76 (.slice (some ⟨g,0,none⟩) s.length cap)):=by
    show Boxed W2 _ _ _
    rw[←hW2]
    have:=Boxed.new (wr.setCell ⟨w3.heap.size+1+1,0,none⟩ (.func (.func 335) #[.pointer (some ⟨w3.heap.size+1,0,none⟩)] #[])) 76 (.slice (some ⟨g,0,none⟩) s.length cap)
    simpa using this
   have rP:Hid (Pr w.heap.size W2 g cap s):=hPh.out.of_heap ((hh2 _ (by omega) (by omega)).trans (hI.out.2.2.2 _ (by omega) (by omega)))
   have rL:Hid (kkc (w3.heap.size+3) W2 w3.heap.size (kbf s)):=hI.out.1.of_heap (hh2 _ (by omega) (by omega)) (fun k h1 h2=>hh2 k h2 (by omega))
   have hwz:w.heap.size≤w3.heap.size:=hX.out.len
   have rX:Hid (Ext w W2):=by
    refine Below.trans (Below.trans hX.out (Below.mono hE1.out hwz)) ⟨?_,?_,?_,by omega,fun k hk=>(hh2 k (by omega) (by omega)).trans (hI.out.2.2.2 k (by omega) (by omega))⟩
    ·rw[←hW2];exact hI.out.2.1.1
    ·rw[←hW2];exact hI.out.2.1.2.1
    ·rw[←hW2];exact hI.out.2.1.2.2
   rw[hW2];clear hW2 c6 f6 hh2
   refine(wpIn_wide (n:=9)).1 ?_
   refine wpIn_rangeFunc_ownH rfl (by omega) (gf:=387) (lb:=#[.pointer (some ⟨wr.heap.size,0,none⟩)]) rfl trivial (enters_of Tryz.func387 (by kernel_rfl) rfl)
    (kpe bwE (bwF s hsub) (9-1) wr.heap.size (w3.heap.size+1) g cap s (fun _=>rfl) (by omega) (by omega) W2 (by omega) (by omega) (by omega) (by omega) rs.out.cell rP.out.sl) Bb.trans (Bb.b (Nat.le_refl _)) (Below.refl _ _) (fun _=>rfl)
    (fun pre W=>kkc W2.heap.size W (w3.heap.size+1) (kbf (pre.map (fun x=>x.1.2)))∧Bb W2.heap.size (w3.heap.size+1) W2 W)
    (fun _ _ _=>False)
    (OwnFrom.and (chain_own _ _ _ _) (bb_own (Nat.le_refl _)))
    (fun _ _ _ _ _ h _ _=>h.elim)
    ⟨.inl ⟨r2.out,rfl⟩,Bb.refl _ _ _⟩
    (fun x a' W=>∃Bx,W.heap[Bx]?=some (.cells #[.int .i64 x.1.2.1,.int .i64 x.1.2.2] 43)∧a'={ tmps:=#[.slice A l.length c,undef,.slice none 0 0,.slice (some ⟨g,0,none⟩) s.length cap,.pointer (some ⟨w3.heap.size,0,none⟩),.pointer (some ⟨w3.heap.size+1,0,none⟩),.pointer (some ⟨w3.heap.size+1+1,0,none⟩),undef,u8,undef,.pointer (some ⟨Bx,0,none⟩),.slice A l.length c,.slice (some ⟨g,0,none⟩) l.length cap,.slice (some ⟨g,0,none⟩) l.length cap,.tuple #[],.slice (some ⟨g,0,none⟩) l.length cap,.slice (some ⟨g,0,none⟩) s.length cap,.slice (some ⟨g,0,none⟩) s.length cap,.int .i64 s.length,.bool (decide ((s.length:Int)<3)),undef,.func (.func 335) #[.pointer (some ⟨w3.heap.size,0,none⟩)] #[],.slice (some ⟨g,0,none⟩) s.length cap,.int .i64 s.length,.int .i64 s.length,.bool false,u26,u27,u28,u29,u30,u31,.func (.func 335) #[.pointer (some ⟨w3.heap.size+1,0,none⟩)] #[],.slice (some ⟨g,0,none⟩) s.length cap,.func (.func 387) #[] #[.pointer (some ⟨wr.heap.size,0,none⟩)],.int .i64 x.1.1,.agg #[.int .i64 x.1.2.1,.int .i64 x.1.2.2],undef,undef,undef,undef,undef,undef,undef,undef,undef,undef,undef,undef,undef,undef,undef,undef,undef],defers:=[] })
    (fun x a' _ X Y row hs hg hr=>by
     obtain⟨Bx,h1,h2⟩:=hs
     refine⟨Bx,(hg.block Bx (qaz h1).1 (fun e=>?_)).trans h1,h2⟩
     obtain⟨_,o,ho,hoc⟩:=hr Bx e.symm
     rw[h1]at ho;cases ho;cases hoc)
    ?assign ?body ?done ?stop
   case assign=>
    rintro l0 pre x W K ⟨hC,hB⟩ hK;simp only[bwE,bwEnc]
    gi_wp2
    exact hK _ _ ((KeepsOthers.alloc _ _).from _) (Bb.of_below ((Below.refl _ W).alloc hB.2.1 _)) ⟨hC.ext ((Ext.refl W).alloc _),hB.trans (Bb.of_below ((Below.refl _ W).alloc hB.2.1 _))⟩ ⟨W.heap.size,qan W _,rfl⟩
   case body=>
    rintro l0 pre ⟨⟨ix,p⟩,hp⟩ a' W hl0 ⟨r,hr⟩ ⟨hC,hB⟩ ⟨Bx,bX,rfl⟩ hlt
    have c0:W.cell? ⟨Bx,0,none⟩=some (.int .i64 p.1):=by simp[World.cell?,bX]
    have c1:W.cell? ⟨Bx,1,none⟩=some (.int .i64 p.2):=by simp[World.cell?,bX]
    have c6:W.cell? ⟨w3.heap.size+1+1,0,none⟩=some (.func (.func 335) #[.pointer (some ⟨w3.heap.size+1,0,none⟩)] #[]):=by rw[hB.cell (by omega) (by omega)];exact r6.out.cell
    have hzW:=hB.2.1
    have hpush:=push_335 W2.heap.size (w3.heap.size+1) _ p W (by omega) (by omega) (by have:=(kax (pre.map (fun x=>x.1.2))).2.1;simp at this;omega)
     (fun z hz=>by
      obtain⟨q,_,rfl⟩:=List.mem_map.1 ((kax (pre.map (fun x=>x.1.2))).1 z hz)
      exact q.2) hp hC
    have hsn:kbf ((pre++[(⟨(ix,p),hp⟩:BwT)]).map (fun x=>x.1.2))=khq (kbf (pre.map (fun x=>x.1.2))) p:=by rw[List.map_append,List.map_singleton,kgk]
    rw[←hsn]at hpush;have hpu:=Lib.hid hpush;have hBh:=Lib.hid hB;clear hpush hsn hB hC
    gi_wp2_with (refine⟨trivial,?_⟩;gi_at_call 335;refine(CallsIn.inRound l0 (callsIn_wide.2 hpu.out)).mono ?_;rintro e W' ⟨rfl,hC',hBb,hKO⟩)
    exact⟨hKO.from _,hBb,hC',hBh.out.trans hBb⟩
   case done=>
    rintro D ys W hD rfl ⟨hC,hB⟩ hK;rw[bwF_rev]at hC
    have rLD:Hid (kkc (w3.heap.size+3) W w3.heap.size (kbf s)):=rL.out.of_heap (hB.2.2 _ (by omega) (by omega)) (fun k h1 h2=>hB.2.2 k (by omega) (by omega))
    have hfin:Hid (Ext w W):=Below.trans rX.out ⟨hB.1.1,hB.1.2.1,hB.1.2.2,hB.2.1,fun k hk=>hB.2.2 k (by omega) (by omega)⟩
    obtain⟨m1,hm1⟩:∃m,(kbf s).length=m+1+1:=⟨(kbf s).length-2,by have:=kku (l:=s) (by omega);omega⟩
    obtain⟨m2,hm2⟩:∃m,(kbf s.reverse).length=m+1+1:=⟨(kbf s.reverse).length-2,by have:=kku (l:=s.reverse) (by simp;omega);omega⟩
    have hml:m1≤4000:=by have:=(kax s).2.1;omega
    have hmh:m2≤4000:=by have:=(kax s.reverse).2.1;simp at this;omega
    rcases rLD.out with ⟨_,e⟩|⟨g1,cap1,bL,pL⟩
    ·rw[e]at hm1;simp at hm1
    rcases hC with ⟨_,e⟩|⟨g2,cap2,bH,pH⟩
    ·rw[e]at hm2;simp at hm2
    have hcap1:=pL.blk.2.2.1;have hcap2:=pH.blk.2.2.1;have hcm1:=pL.blk.2.2.2.1;have hcm2:=pH.blk.2.2.2.1;simp only[maxLen]at hcm1 hcm2;have hg1:=pL.blk.2.1;have hg2:=pH.blk.2.1;have cL:=bL.cell;have cH:=bH.cell;rw[hm1]at cL hcap1;rw[hm2]at cH hcap2;have PL:=Lib.hid pL;have PH:=Lib.hid pH;have M1:=Lib.hid hm1;have M2:=Lib.hid hm2;have KD:=Lib.hid hK
    have hcD:w3.heap.size+1<W.heap.size:=by have:=hB.2.1;omega
    clear pL pH hm1 hm2 rLD bL bH hK
    go_wp2
    refine kfl 13 (by kernel_rfl) (by kernel_rfl) ?_
    rintro W9 hx9 _;obtain⟨hc9,hf9,hz9⟩:=hx9.rules
    have hcD0:w3.heap.size<W.heap.size:=by omega
    obtain⟨i0,hi,hz0,hzz1,hzz2⟩:=info_parts kha;simp only[List.take_succ_cons,List.take_zero,List.drop_succ_cons,List.drop_zero]
    have wr1:IntKind.i64.wrap ((m1:Int)+1)=(m1:Int)+1:=wrap_small (by omega) (by omega)
    have wr2:IntKind.i64.wrap ((m2:Int)+1)=(m2:Int)+1:=wrap_small (by omega) (by omega)
    have le1:(m1:Int)+1≤(cap1:Int):=by omega
    have le2:(m2:Int)+1≤(cap2:Int):=by omega
    have ge1:0≤(m1:Int)+1:=by omega
    have ge2:0≤(m2:Int)+1:=by omega
    have mx1:max ((m1:Int)+1) 0=(m1:Int)+1:=by omega
    have tn1:((m1:Int)+1).toNat=m1+1:=by omega
    have tn2:((m2:Int)+1).toNat=m2+1:=by omega
    iterate 13 still_step
    refine wpStill_nil ?_
    go_wp2_with (at_builtin;refine wpList_append_grows W9 rfl _ _ 344 rfl 43 i0 _ 2 16 Tryz.underlying344 hi hz0 hzz1 hzz2 rfl (by omega) _ _ _ ((kbf s).dropLast.flatMap encP) rfl ?qn ?qlo ?qh ⟨g2,0,none⟩ _ _ ((kbf s.reverse).dropLast.flatMap encP) rfl ?qm ?qc ints_one ?qf ?qb1 ?qb2 ?_)
    case qn=>intro e;cases e
    case qlo=>rw[kby,List.length_dropLast,M1.out];rfl
    case qh=>intro b e;cases e;have:=((PL.out.take (m1+1)).ext hx9).reads;rwa [show (kbf s).take (m1+1)=(kbf s).dropLast by rw[List.dropLast_eq_take,M1.out];rfl]at this
    case qm=>rw[kby,List.length_dropLast,M2.out];rfl
    case qc=>have:=((PH.out.take (m2+1)).ext hx9).reads;rwa [show (kbf s.reverse).take (m2+1)=(kbf s.reverse).dropLast by rw[List.dropLast_eq_take,M2.out];rfl]at this
    case qf=>omega
    case qb1=>simp[maxLen];omega
    case qb2=>omega
    intro v' wa hown hgrow;obtain⟨g',cap',rfl⟩:=ownsRow_succ (k:=m1+1+m2) hown
    have hE:kdv l=(kbf s).dropLast++(kbf s.reverse).dropLast:=by rw[hun,if_neg (by omega)]
    have hEl:(kdv l).length=m1+1+(m2+1):=by rw[hE,List.length_append,List.length_dropLast,List.length_dropLast,M1.out,M2.out];rfl
    have hPa:Pr W9.heap.size wa g' cap' (kdv l):=by
     unfold Pr;rw[hEl,hE,List.flatMap_append]
     exact hown
    have hK9:wa.heap[D]?=some (.deferred (some [])):=by
     have e9:=kaf hx9 KD.out
     rw[hgrow.block D (qaz e9).1 (by simp)]
     exact e9
    have hFin:Hid (Pr w.heap.size (wa.putObj D (.deferred none)) g' cap' (kdv l)∧Ext w (wa.putObj D (.deferred none))):=by
     refine⟨(hPa.base (by have:=hfin.out.len;have:=hx9.len;omega)).of_heap (World.putObj_heap_other ?_),?_⟩
     ·intro e
      obtain⟨_,_,_,_,cur,hgg,_⟩:=hPa.blk;rw[e,hK9]at hgg;cases hgg
     ·have h1:Ext w wa:=(hfin.out.trans hx9).grown hgrow (by simp)
      exact Below.trans h1 (belowK_b (w:=w) (Nat.le_refl _) wa D _ _ (by have:=rX.out.len;omega) hK9 rfl rfl)
    have HL:=Lib.hid hEl;clear hEl hE hPa hown hgrow
    go_wp2
    refine⟨by simp,.inl ⟨_,_,rfl,run_takeDeferred hK9,?_⟩⟩
    exact⟨_,results_tmp rfl _ _ _,g',cap',by rw[HL.out];rfl,hFin.out⟩
   case stop=>
    rintro D k pre W _ _ h _
    exact h.elim
end Go.Proofs.YtcgghcicnanliaaGreatDoor
namespace Go.Proofs.YtcgghcicnanliaaGreatDoor
open Go.RowKit
set_option maxHeartbeats 2000000
set_option maxRecDepth 100000
def kaz (l:List Pt):Int:=if 4000<l.length then 2 else if l=[] then 1 else if l.any (fun x=>!plB x) then 1 else if 64<(kdv l).length then 2 else 0
theorem kbn {p:Pt}(h:plB p=true):Mid p:=by
 simp[plB,inB]at h
 simp only[Mid];omega
theorem eg_255:∀args w,(callFunc 255 args).run Tryz.prog w=.ok (.enter 255 args) w:=enters_of Tryz.func255 (by kernel_rfl) rfl
theorem hull_158 (A:Option Addr)(c:Nat)(l:List Pt)(w:World)(hS:Sl encP 2 w A l)(hI:∀x∈l,I64 x.1∧I64 x.2) :
  Calls Tryz.prog 158 #[.slice A l.length c] w fun e w'=>∃v,e=.returned (.tuple #[v,.int .i64 (kaz l)])∧Ext w w' ∧
   ((kaz l=0∧∃g cap,v=.slice (some ⟨g,0,none⟩) (kdv l).length cap∧Pr w.heap.size w' g cap (kdv l))∨(kaz l≠0∧v=.slice none 0 0)):=by
 by_cases h1:4000<l.length
 ·have he:kaz l=2:=by simp[kaz,h1]
  have hE:=Lib.hid he;clear he
  have h1z:(4000:Int)<(l.length:Int):=by omega
  go_enter Tryz.func158,Tryz.ntmps158
  go_wp2
  go_ret2
  exact⟨_,by rw[hE.out];rfl,xt,.inr ⟨by rw[hE.out];decide,rfl⟩⟩
 have h1z:¬ (4000:Int)<(l.length:Int):=by omega
 by_cases h2:l=[]
 ·subst h2
  have hE:Hid (kaz []=1):=by simp[Hid,kaz]
  go_enter Tryz.func158,Tryz.ntmps158
  go_wp2
  go_ret2
  exact⟨_,by rw[hE.out];rfl,xt,.inr ⟨by rw[hE.out];decide,rfl⟩⟩
 have hpos:0<l.length:=List.length_pos_iff.2 h2
 have h2z:((l.length:Int) == 0)=false:=by simp;omega
 have hcon:=kgo 255 #[] eg_255 (fun x=>!plB x) A c l w (by omega) hS (fun W x hx _=>by simpa[encP]using hullHull1_255 x (hI x hx).1 (hI x hx).2 W)
 by_cases h3:l.any (fun x=>!plB x)=true
 ·rw[h3]at hcon
  have hE:Hid (kaz l=1):=by simp only[Hid,kaz];rw[if_neg h1,if_neg h2,if_pos h3]
  have hcon:=Lib.hid hcon;clear h3
  go_enter Tryz.func158,Tryz.ntmps158
  go_wp2_with (go_at_call 160;refine hcon.out.mono ?_;rintro e w' ⟨rfl,hb⟩)
  go_ret2
  exact⟨_,by rw[hE.out];rfl,xt,.inr ⟨by rw[hE.out];decide,rfl⟩⟩
 have h3':l.any (fun x=>!plB x)=false:=Bool.eq_false_iff.2 h3
 rw[h3']at hcon
 have hmid:∀y∈l,Mid y:=fun y hy=>kbn (by
  have:=List.any_eq_false.1 h3' y hy
  simpa using this)
 have hE:Hid (kaz l=if 64<(kdv l).length then 2 else 0):=by simp only[Hid,kaz];rw[if_neg h1,if_neg h2,if_neg h3]
 have hcon:=Lib.hid hcon
 have har:∀W,Ext w W→Calls Tryz.prog 256 #[.slice A l.length c] W fun e w'=>∃g cap,e=.returned (.slice (some ⟨g,0,none⟩) (kdv l).length cap)∧Pr W.heap.size w' g cap (kdv l)∧Ext W w':=fun W hx=>around_256 A c l W (hS.ext hx) hpos (by omega) hmid
 have har:=Lib.hid har;clear h3 h3';generalize kdv l=r at hE har ⊢
 by_cases h4:64<r.length
 ·have hE2:Hid (kaz l=2):=by show kaz l=2;rw[hE.out,if_pos h4]
  go_enter Tryz.func158,Tryz.ntmps158
  go_wp2_with (first|(go_at_call 160;refine hcon.out.mono ?_;rintro e w' ⟨rfl,hb⟩)|(go_at_call 256;refine(har.out _ hb).mono ?_;rintro e w2 ⟨g,cap,rfl,hP,hb2⟩))
  go_ret2
  exact⟨_,by rw[hE2.out];rfl,hb.trans hb2,.inr ⟨by rw[hE2.out];decide,rfl⟩⟩
 ·have hE2:Hid (kaz l=0):=by show kaz l=0;rw[hE.out,if_neg h4]
  go_enter Tryz.func158,Tryz.ntmps158
  go_wp2_with (first|(go_at_call 160;refine hcon.out.mono ?_;rintro e w' ⟨rfl,hb⟩)|(go_at_call 256;refine(har.out _ hb).mono ?_;rintro e w2 ⟨g,cap,rfl,hP,hb2⟩))
  go_ret2
  exact⟨_,by rw[hE2.out];rfl,hb.trans hb2,.inl ⟨hE2.out,g,cap,rfl,hP.base hb.len⟩⟩
end Go.Proofs.YtcgghcicnanliaaGreatDoor
