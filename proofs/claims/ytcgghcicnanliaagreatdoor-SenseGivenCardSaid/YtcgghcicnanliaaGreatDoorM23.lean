/- Walks: chart.named at Beacon and at Line, chart.Beacon, chart.Line; Walks: the reference of layer 21: beacon, path; Walks: chart.under, chart.At; Walks: cut.turn, cut.crosses, hull.sides. Conditions: as each statement says. -/
import Derived.Test.YtcgghcicnanliaaGreatDoorM22
set_option linter.unusedVariables false
set_option linter.unusedSimpArgs false
namespace Go.Proofs.YtcgghcicnanliaaGreatDoor
open Go.RowKit
set_option maxHeartbeats 2000000
set_option maxRecDepth 100000
def kbz {α : Type}(id:α→Int)(n:Int)(l:List α):Option α:=l.find? fun x=>decide (id x=n)
theorem firstId_at {α : Type}{id:α→Int}{n:Int}{l:List α}{k:Nat}(h:∀j x,j<k→l[j]?=some x→decide (id x=n)=false){y:α}(hy:l[k]?=some y)(hn:id y=n):kbz id n l=some y:=by
 unfold kbz;rw[List.find?_eq_some_iff_getElem];obtain⟨hk,e⟩:=List.getElem?_eq_some_iff.1 hy
 exact⟨by simpa using hn,k,hk,e,fun j hj=>by rw[h j _ hj (qgq (by omega))];rfl⟩
theorem kli {α : Type}{id:α→Int}{n:Int}{l:List α}{k:Nat}(h:∀j x,j<k→l[j]?=some x→decide (id x=n)=false)(hk:l.length≤k):kbz id n l=none:=by
 unfold kbz;rw[List.find?_eq_none];intro x hx;obtain⟨j,hj,e⟩:=List.getElem_of_mem hx
 have:=h j x (by omega) (by rw[qgq hj,e])
 simpa using this
theorem Sl.set_other {α : Type}{enc:α→List Value}{k:Nat}{w:World}{g:Nat}{l:List α}(h:Sl enc k w (some ⟨g,0,none⟩) l){p:Addr}(hp:p.block≠g)(v:Value):Sl enc k (w.setCell p v) (some ⟨g,0,none⟩) l:=fun hl=>by
 obtain⟨b,off,e,hb,hc⟩:=h hl
 refine⟨b,off,e,by simpa using hb,fun j x i v' hj hi=>?_⟩
 have e1:b=g:=by injection e with e;injection e with e1;exact e1.symm
 subst e1
 rw[World.cell?_of_block (w:=w) (Below.heap_setCell w p v _ (fun e=>hp e.symm))]
 exact hc j x i v' hj hi
theorem refBeacon_82 (t:ChartT)(n:Int)(w:World)(hl:t.beacons.length≤1000000)(hS:Sl kbl 3 w t.bA t.beacons) :
  Calls Tryz.prog 82 #[.agg t.vals.toArray,.int .i64 n] w fun e w'=>
   e=.returned (.tuple #[.agg #[.int .i64 ((kbz BeaconT.id n t.beacons).getD ⟨0,(0,0)⟩).at_.1,.int .i64 ((kbz BeaconT.id n t.beacons).getD ⟨0,(0,0)⟩).at_.2],.bool (kbz BeaconT.id n t.beacons).isSome])∧Ext w w':=by
 obtain⟨version,x,y,tw,th,size,cA,cc,cells,bA,bc,l,lA,lc,lines⟩:=t;simp only[ChartT.vals]at *;obtain⟨W0,hW0⟩:∃W0,(w.alloc (.cells #[.int .i64 version,.int .i64 x,.int .i64 y,.int .i64 tw,.int .i64 th,.int .i64 size,.slice cA cells.length cc,.slice bA l.length bc,.slice lA lines.length lc] 26)).alloc (.cells #[.int .i64 0,.int .i64 0] 43)=W0:=⟨_,rfl⟩
 have hsz:W0.heap.size=w.heap.size+2:=by rw[←hW0];simp
 have hE0:Ext w W0:=by rw[←hW0];exact((Ext.refl w).alloc _).alloc _
 have hb7:W0.cell? ⟨w.heap.size,7,none⟩=some (.slice bA l.length bc):=by rw[←hW0];simp
 have hr0:W0.cell? ⟨w.heap.size+1,0,none⟩=some (.int .i64 0):=by rw[←hW0];simp
 have hr1:W0.cell? ⟨w.heap.size+1,1,none⟩=some (.int .i64 0):=by rw[←hW0];simp
 have hg0:W0.frozen? ⟨w.heap.size+1,0,none⟩=false:=by rw[←hW0];simp
 have hg1:W0.frozen? ⟨w.heap.size+1,1,none⟩=false:=by rw[←hW0];simp
 have hrefl:Hid (Ext W0 W0):=Ext.refl _
 go_enter Tryz.func82,Tryz.ntmps82
 go_wp2
 (try rw[hW0])
 clear hW0
 go_loopg [6] l.length (fun gg s6 wr=>∃kk:Nat,kk≤l.length∧l.length-kk≤gg∧s6=.int .i64 kk∧Hid (Ext W0 wr)∧Hid (∀j x,j<kk→l[j]?=some x→decide (x.id=n)=false))
 case atStart=>exact⟨0,Nat.zero_le _,by omega,rfl,hrefl,fun j x hj=>absurd hj (Nat.not_lt_zero _)⟩
 case round=>
  obtain⟨kk,hkk,hg,rfl,hx,H⟩:=hrel;obtain⟨hc,hf,hz⟩:=hx.out.rules
  have d7:wr.cell? ⟨w.heap.size,7,none⟩=some (.slice bA l.length bc):=(hc _ _ (by omega)).trans hb7
  have r0:wr.cell? ⟨w.heap.size+1,0,none⟩=some (.int .i64 0):=(hc _ _ (by omega)).trans hr0
  have r1:wr.cell? ⟨w.heap.size+1,1,none⟩=some (.int .i64 0):=(hc _ _ (by omega)).trans hr1
  have g0:wr.frozen? ⟨w.heap.size+1,0,none⟩=false:=(hf _ _ (by omega)).trans hg0
  have g1:wr.frozen? ⟨w.heap.size+1,1,none⟩=false:=(hf _ _ (by omega)).trans hg1
  have hxw:Ext w wr:=hE0.trans hx.out
  clear hc hf hb7 hr0 hr1 hg0 hg1
  by_cases hlt:kk<l.length
  ·obtain⟨b,off,rfl⟩:=hS.addr (by omega)
   obtain⟨y,hy⟩:∃y,l[kk]?=some y:=⟨_,qgq hlt⟩;have Y:=Lib.hid hy
   have hltz:(kk:Int)<(l.length:Int):=by omega
   obtain⟨i1,⟨i2,i3⟩⟩:=y
   have c0:wr.cell? ⟨b,off+kk*3,none⟩=some (.int .i64 i1):=by have:=(hS.ext hxw).at_ hy (i:=0) rfl;simpa using this
   have c1:wr.cell? ⟨b,off+kk*3+1,none⟩=some (.int .i64 i2):=by have:=(hS.ext hxw).at_ hy (i:=1) rfl;simpa using this
   have c2:wr.cell? ⟨b,off+kk*3+2,none⟩=some (.int .i64 i3):=by have:=(hS.ext hxw).at_ hy (i:=2) rfl;simpa using this
   clear hy
   by_cases hq:i1=n
   ·subst hq
    have hfin:Hid (kbz BeaconT.id i1 l=some ⟨i1,(i2,i3)⟩):=firstId_at H.out Y.out rfl
    go_wp2
    ((try simp only[Exit.inBlock,Exit.then]);refine bodyPost_ret (by first|(simp[results,Tryz.f82,go_sem];rfl)|(simp[results,Tryz.f82,go_sem];done)|(simp[results,Tryz.f82,go_sem, *];rfl)|(simp[results,Tryz.f82,go_sem, *];done)) rfl ?_)
    exact⟨by rw[hfin.out];rfl,xt⟩
   ·have hqb:(i1 == n)=false:=by simpa using hq
    go_wp2
    go_roundg (l.length-(kk+1))
    case measure=>omega
    case rel=>
     refine⟨kk+1,by omega,by omega,by go_num,hx.out,fun j x hj hjx=>?_⟩
     by_cases e:j=kk
     ·subst e
      have:=Y.out.symm.trans hjx
      cases this
      simpa using hq
     ·exact H.out j x (by omega) hjx
  ·have hltz:¬ (kk:Int)<(l.length:Int):=by omega
   have hfin:Hid (kbz BeaconT.id n l=none):=kli H.out (by omega)
   go_wp2
   ((try simp only[Exit.inBlock,Exit.then]);refine bodyPost_ret (by first|(simp[results,Tryz.f82,go_sem];rfl)|(simp[results,Tryz.f82,go_sem];done)|(simp[results,Tryz.f82,go_sem, *];rfl)|(simp[results,Tryz.f82,go_sem, *];done)) rfl ?_)
   exact⟨by rw[hfin.out];rfl,xt⟩
theorem refPath_83 (t:ChartT)(n:Int)(w:World)(hl:t.lines.length≤1000000)(hS:Sl kbp 2 w t.lA t.lines) :
  Calls Tryz.prog 83 #[.agg t.vals.toArray,.int .i64 n] w fun e w'=>
   e=.returned (.tuple #[.agg (kbp ((kbz LineT.id n t.lines).getD ⟨0,none,0,[]⟩)).toArray,.bool (kbz LineT.id n t.lines).isSome])∧Ext w w':=by
 obtain⟨version,x,y,tw,th,size,cA,cc,cells,bA,bc,beacons,lA,lc,l⟩:=t;simp only[ChartT.vals]at *;obtain⟨W0,hW0⟩:∃W0,(w.alloc (.cells #[.int .i64 version,.int .i64 x,.int .i64 y,.int .i64 tw,.int .i64 th,.int .i64 size,.slice cA cells.length cc,.slice bA beacons.length bc,.slice lA l.length lc] 26)).alloc (.cells #[.int .i64 0,.slice none 0 0] 93)=W0:=⟨_,rfl⟩
 have hsz:W0.heap.size=w.heap.size+2:=by rw[←hW0];simp
 have hE0:Ext w W0:=by rw[←hW0];exact((Ext.refl w).alloc _).alloc _
 have hb7:W0.cell? ⟨w.heap.size,8,none⟩=some (.slice lA l.length lc):=by rw[←hW0];simp
 have hr0:W0.cell? ⟨w.heap.size+1,0,none⟩=some (.int .i64 0):=by rw[←hW0];simp
 have hr1:W0.cell? ⟨w.heap.size+1,1,none⟩=some (.slice none 0 0):=by rw[←hW0];simp
 have hg0:W0.frozen? ⟨w.heap.size+1,0,none⟩=false:=by rw[←hW0];simp
 have hg1:W0.frozen? ⟨w.heap.size+1,1,none⟩=false:=by rw[←hW0];simp
 have hrefl:Hid (Ext W0 W0):=Ext.refl _
 go_enter Tryz.func83,Tryz.ntmps83
 go_wp2
 (try rw[hW0])
 clear hW0
 go_loopg [6] l.length (fun gg s6 wr=>∃kk:Nat,kk≤l.length∧l.length-kk≤gg∧s6=.int .i64 kk∧Hid (Ext W0 wr)∧Hid (∀j x,j<kk→l[j]?=some x→decide (x.id=n)=false))
 case atStart=>exact⟨0,Nat.zero_le _,by omega,rfl,hrefl,fun j x hj=>absurd hj (Nat.not_lt_zero _)⟩
 case round=>
  obtain⟨kk,hkk,hg,rfl,hx,H⟩:=hrel;obtain⟨hc,hf,hz⟩:=hx.out.rules
  have d7:wr.cell? ⟨w.heap.size,8,none⟩=some (.slice lA l.length lc):=(hc _ _ (by omega)).trans hb7
  have r0:wr.cell? ⟨w.heap.size+1,0,none⟩=some (.int .i64 0):=(hc _ _ (by omega)).trans hr0
  have r1:wr.cell? ⟨w.heap.size+1,1,none⟩=some (.slice none 0 0):=(hc _ _ (by omega)).trans hr1
  have g0:wr.frozen? ⟨w.heap.size+1,0,none⟩=false:=(hf _ _ (by omega)).trans hg0
  have g1:wr.frozen? ⟨w.heap.size+1,1,none⟩=false:=(hf _ _ (by omega)).trans hg1
  have hxw:Ext w wr:=hE0.trans hx.out
  clear hc hf hb7 hr0 hr1 hg0 hg1
  by_cases hlt:kk<l.length
  ·obtain⟨b,off,rfl⟩:=hS.addr (by omega)
   obtain⟨y,hy⟩:∃y,l[kk]?=some y:=⟨_,qgq hlt⟩;have Y:=Lib.hid hy
   have hltz:(kk:Int)<(l.length:Int):=by omega
   obtain⟨i1,i2,i3,i4⟩:=y
   have c0:wr.cell? ⟨b,off+kk*2,none⟩=some (.int .i64 i1):=by have:=(hS.ext hxw).at_ hy (i:=0) rfl;simpa using this
   have c1:wr.cell? ⟨b,off+kk*2+1,none⟩=some (.slice i2 i4.length i3):=by have:=(hS.ext hxw).at_ hy (i:=1) rfl;simpa using this
   clear hy
   by_cases hq:i1=n
   ·subst hq
    have hfin:Hid (kbz LineT.id i1 l=some ⟨i1,i2,i3,i4⟩):=firstId_at H.out Y.out rfl
    go_wp2
    ((try simp only[Exit.inBlock,Exit.then]);refine bodyPost_ret (by first|(simp[results,Tryz.f83,go_sem];rfl)|(simp[results,Tryz.f83,go_sem];done)|(simp[results,Tryz.f83,go_sem, *];rfl)|(simp[results,Tryz.f83,go_sem, *];done)) rfl ?_)
    exact⟨by rw[hfin.out];rfl,xt⟩
   ·have hqb:(i1 == n)=false:=by simpa using hq
    go_wp2
    go_roundg (l.length-(kk+1))
    case measure=>omega
    case rel=>
     refine⟨kk+1,by omega,by omega,by go_num,hx.out,fun j x hj hjx=>?_⟩
     by_cases e:j=kk
     ·subst e
      have:=Y.out.symm.trans hjx
      cases this
      simpa using hq
     ·exact H.out j x (by omega) hjx
  ·have hltz:¬ (kk:Int)<(l.length:Int):=by omega
   have hfin:Hid (kbz LineT.id n l=none):=kli H.out (by omega)
   go_wp2
   ((try simp only[Exit.inBlock,Exit.then]);refine bodyPost_ret (by first|(simp[results,Tryz.f83,go_sem];rfl)|(simp[results,Tryz.f83,go_sem];done)|(simp[results,Tryz.f83,go_sem, *];rfl)|(simp[results,Tryz.f83,go_sem, *];done)) rfl ?_)
   exact⟨by rw[hfin.out];rfl,xt⟩
attribute [local go_sem] Oper.semAt_some
theorem Ext.gb {a b:World}(h:Ext a b):a.grownBy b none:=⟨h.os,h.tape,h.output,h.size,fun k hk _=>h.block k hk⟩
def rowL (w y x0:Int)(j:Nat):List Int:=(List.range j).map fun (q:Nat)=>y*w+(x0+q)
def recL (w y0 x0:Int)(nx i:Nat):List Int:=(List.range i).flatMap fun (r:Nat)=>rowL w (y0+r) x0 nx
theorem kmu (w y x0:Int)(j:Nat):rowL w y x0 (j+1)=rowL w y x0 j++[y*w+(x0+j)]:=by simp[rowL,List.range_succ]
theorem kjg (w y0 x0:Int)(nx i:Nat):recL w y0 x0 nx (i+1)=recL w y0 x0 nx i++rowL w (y0+i) x0 nx:=by simp[recL,List.range_succ]
theorem rowL_len (w y x0:Int)(j:Nat):(rowL w y x0 j).length=j:=by simp[rowL]
theorem recL_len (w y0 x0:Int)(nx i:Nat):(recL w y0 x0 nx i).length=i*nx:=by
 induction i with
 | zero=>simp[recL]
 | succ i ih=>rw[kjg,List.length_append,ih,rowL_len,Nat.succ_mul]
def unE (x:Int):Array Value:=#[.int .i64 x]
theorem Kp2.c0 {n₀ m B i:Nat}{A C:World}(h:Kp2 n₀ m A C)(hm:m≤B){xs:Array Value}{t:TypeId}(hb:A.heap[B]?=some (.cells xs t)){v:Value}(hi:xs[i]?=some v):C.cell? ⟨B,i,none⟩=some v:=by
 rw[h.boxed hm hb];simp[World.cell?,hb,hi]
theorem under_110 (t:ChartT)(a b:Pt)(w:World) :
  Calls Tryz.prog 110 #[.agg t.vals.toArray,.agg #[.int .i64 a.1,.int .i64 a.2],.agg #[.int .i64 b.1,.int .i64 b.2]] w fun e w'=>
   e=.returned (.func (.func 171) #[] #[.pointer (some ⟨w.heap.size,0,none⟩),.pointer (some ⟨w.heap.size+1,0,none⟩),.pointer (some ⟨w.heap.size+1+1,0,none⟩)]) ∧
   w'=((w.alloc (.cells t.vals.toArray 26)).alloc (.cells #[.int .i64 a.1,.int .i64 a.2] 43)).alloc (.cells #[.int .i64 b.1,.int .i64 b.2] 43):=by
 obtain⟨version,x,y,tw,th,size,cA,cc,cells,bA,bc,beacons,lA,lc,lines⟩:=t;simp only[ChartT.vals]
 go_enter Tryz.func110,Tryz.ntmps110
 go_wp2
 go_ret
 exact⟨rfl,rfl⟩
set_option maxHeartbeats 4000000
def ptAt (l:List Pt)(i:Nat):Pt:=l[i]?.getD (0,0)
def kbr (l:List Pt)(i:Nat):Pt × Pt:=(ptAt l i,ptAt l ((i+1) % l.length))
def kmt (x:Pt × Pt):Array Value:=#[.agg #[.int .i64 x.1.1,.int .i64 x.1.2],.agg #[.int .i64 x.2.1,.int .i64 x.2.2]]
theorem kbm {l:List Pt}{i:Nat}{x:Pt}(h:l[i]?=some x):ptAt l i=x:=by simp[ptAt,h]
theorem kjq (A:Option Addr)(n c:Nat)(w:World) :
  Calls Tryz.prog 249 #[.slice A n c] w fun e w'=>e=.returned (.func (.func 327) #[] #[.pointer (some ⟨w.heap.size,0,none⟩)])∧w'=w.alloc (.cells #[.slice A n c] 76):=by
 go_enter Tryz.func249,Tryz.ntmps249
 go_wp2
 go_ret
 exact⟨rfl,rfl⟩
theorem klj (A:Option Addr)(n c:Nat)(w:World) :
  Calls Tryz.prog 359 #[.slice A n c] w fun e w'=>e=.returned (.func (.func 399) #[] #[.pointer (some ⟨w.heap.size,0,none⟩)])∧w'=w.alloc (.cells #[.slice A n c] 76):=by
 go_enter Tryz.func359,Tryz.ntmps359
 go_wp2
 go_ret
 exact⟨rfl,rfl⟩
theorem sides1_327 (n l0 Bs n₀ m b off c:Nat)(ps:List Pt)(hreach:ps.length≤1000000)(hn:1≤n)(hb:b<n₀)(hmB:m≤Bs)(J Jx:List (Pt × Pt)→World→Prop)
  (hY:∀pre x W,J pre W→pre.length<ps.length→YieldAt Fence.wide (n-1) Tryz.prog l0 (kmt x) W fun e W'=>
   (e=.returned (.bool true)∧J (pre++[x]) W'∧Kp2 n₀ m W W')∨(e=.returned (.bool false)∧Jx (pre++[x]) W'))
  (W:World) (hJa:AbidesFrom W.heap.size J) (hn₀:n₀≤W.heap.size) (hBs:W.heap[Bs]?=some (.cells #[.slice (some ⟨b,off,none⟩) ps.length c] 76)) (hc:Sl encP 2 W (some ⟨b,off,none⟩) ps) (h0:J [] W) :
  CallsIn Fence.wide n Tryz.prog 327 #[.func (.yield l0) #[] #[],.pointer (some ⟨Bs,0,none⟩)] W fun e W'=>(∃v,e=.returned v) ∧
   ((∃ys,ys=upto (kbr ps) ps.length∧J ys W')∨(∃pre,(∃k,k≤ps.length∧pre=upto (kbr ps) k)∧Jx pre W')):=by
 have hBW:Bs<W.heap.size:=(qaz hBs).1
 have cB0:=Kp2.c0 (Kp2.refl n₀ m W) hmB hBs (i:=0) rfl
 have CB:=Lib.hid (fun wr (h:Kp2 n₀ m W wr)=>h.c0 hmB hBs (i:=0) rfl)
 refine callsIn_of_wp Tryz.func327 rfl trivial ?_ rfl
 simp only[Tryz.ntmps327,List.size_toArray,List.length_cons,List.length_nil,Nat.reduceAdd,Nat.reduceSub,Array.replicate_succ,Array.replicate_zero,List.push_toArray,List.append_toArray,List.nil_append,List.cons_append]
 gi_wp2
 clear hBs cB0
 gi_loopw [3,4,7] (fun _ _ s7 wr=>∃k:Nat,k≤ps.length∧s7=.int .i64 k∧J (upto (kbr ps) k) wr∧Kp2 n₀ m W wr∧W.heap.size≤wr.heap.size)
  (fun _ _ s7 _=>ps.length-(intOf s7).toNat)
 case atStart=>exact⟨0,Nat.zero_le _,rfl,h0,Kp2.refl _ _ _,Nat.le_refl _⟩
 case round=>
  obtain⟨k,hk,rfl,hJs,hnx,hszr⟩:=hrel
  by_cases hlt:k<ps.length
  ·obtain⟨⟨x1,x2⟩,hx⟩:∃y,ps[k]?=some y:=⟨_,qgq hlt⟩
   obtain⟨j,hjd⟩:∃j,(k+1) % ps.length=j:=⟨_,rfl⟩
   have hjl:j<ps.length:=by rw[←hjd];exact Nat.mod_lt _ (by omega)
   obtain⟨⟨y1,y2⟩,hy⟩:∃y,ps[j]?=some y:=⟨_,qgq hjl⟩
   have hG:kbr ps k=((x1,x2),(y1,y2)):=by rw[kbr,hjd,kbm hx,kbm hy]
   have hbW:b<W.heap.size:=by omega
   have e0:wr.cell? ⟨b,off+k*2,none⟩=some (.int .i64 x1):=by have:=hc.at_ hx (i:=0) rfl;rw[hnx.1.cell (p:=⟨b,_,none⟩) hb];simpa using this
   have e1:wr.cell? ⟨b,off+k*2+1,none⟩=some (.int .i64 x2):=by have:=hc.at_ hx (i:=1) rfl;rw[hnx.1.cell (p:=⟨b,_,none⟩) hb];simpa using this
   have g0:wr.cell? ⟨b,off+j*2,none⟩=some (.int .i64 y1):=by have:=hc.at_ hy (i:=0) rfl;rw[hnx.1.cell (p:=⟨b,_,none⟩) hb];simpa using this
   have g1:wr.cell? ⟨b,off+j*2+1,none⟩=some (.int .i64 y2):=by have:=hc.at_ hy (i:=1) rfl;rw[hnx.1.cell (p:=⟨b,_,none⟩) hb];simpa using this
   have cB:=CB.out wr hnx
   have hltz:(k:Int)<(ps.length:Int):=by omega
   have hbr:b<wr.heap.size:=by omega
   have hBr:Bs<wr.heap.size:=by omega
   gi_wp2
   refine kgl 10 (by kernel_rfl) (by kernel_rfl) ?_
   intro W2 hx2;simp only[List.take_succ_cons,List.take_zero,List.drop_succ_cons,List.drop_zero];obtain⟨hc2,hf2,hz2⟩:=hx2.rules;simp only[qsa]at hz2
   have hE2:Ext wr W2:=((Ext.refl wr).alloc _).trans hx2
   have f0:W2.cell? ⟨wr.heap.size,0,none⟩=some (.int .i64 x1):=by rw[hc2 _ _ (by simp)];simp
   have f1:W2.cell? ⟨wr.heap.size,1,none⟩=some (.int .i64 x2):=by rw[hc2 _ _ (by simp)];simp
   have g0':=(hE2.rules.1 b (off+j*2) hbr).trans g0;have g1':=(hE2.rules.1 b (off+j*2+1) hbr).trans g1;have cB':=(hE2.rules.1 Bs 0 hBr).trans cB
   have hJ2:=hJa (upto (kbr ps) k) wr W2 none hJs hE2.gb (fun r e=>by cases e)
   obtain⟨fn,tmps,assign,body,hyy,hR⟩:=hY _ (kbr ps k) _ hJ2 (by rw[kch];exact hlt)
   simp only[kmt,hG]at hyy
   have wk:IntKind.i64.wrap ((k:Int)+1)=(k:Int)+1:=wrap_small (by omega) (by omega)
   have tk:Int.tmod ((k:Int)+1) (ps.length:Int)=(j:Int):=by rw[Int.tmod_eq_emod_of_nonneg (by omega),←hjd];norm_cast
   have hnil:¬ (ps=[]):=by rintro rfl;simp at hlt
   have hjz:(j:Int)<(ps.length:Int):=by omega
   clear hjd
   iterate 10 still_step
   refine wpStill_nil ?_
   gi_wp2
   refine hR.mono ?_
   rintro e W3 (⟨rfl,hJ3,hk3⟩|⟨rfl,hJx3⟩)
   ·have hs3:=hk3.1.size
    gi_wp2
    go_roundw
    case rel=>exact⟨k+1,by omega,by simp,by rw[kda];exact hJ3,(hnx.ext (by omega) hE2).t hk3,by omega⟩
    case measure=>simp[intOf];omega
   ·gi_wp2
    refine bodyPost_ret (results_none rfl _ _ _) rfl ?_
    exact⟨⟨_,rfl⟩,.inr ⟨_,⟨k+1,by omega,(kda _ _).symm⟩,hJx3⟩⟩
  ·obtain rfl:k=ps.length:=by omega
   gi_wp2
   go_end0
   exact⟨⟨_,rfl⟩,.inl ⟨_,rfl,hJs⟩⟩
set_option maxHeartbeats 8000000
theorem kmi {n:Int}(h1:-9223372036854775808≤n)(h2:n≤9223372036854775807):wrap64 n=n:=by unfold wrap64;omega
def kfy (a b c:Pt):Int:=wrap64 (wrap64 (wrap64 (b.1-a.1)*wrap64 (c.2-a.2))-wrap64 (wrap64 (b.2-a.2)*wrap64 (c.1-a.1)))
theorem turnW_eq {a b c:Pt}(ha:Mid a)(hb:Mid b)(hc:Mid c):kfy a b c=kcf a b c:=by
 obtain⟨a1,a2⟩:=a;obtain⟨b1,b2⟩:=b;obtain⟨c1,c2⟩:=c;simp only[Mid,kcf,kfy]at *
 have h1:=kdg (x:=b1-a1) (y:=c2-a2) (m:=2000000) (n:=2000000) (by omega) (by omega) (by omega) (by omega)
 have h2:=kdg (x:=b2-a2) (y:=c1-a1) (m:=2000000) (n:=2000000) (by omega) (by omega) (by omega) (by omega)
 simp only[Int.reduceMul,Int.reduceNeg]at h1 h2
 rw[kmi (n:=b1-a1) (by omega) (by omega),kmi (n:=c2-a2) (by omega) (by omega),kmi (n:=b2-a2) (by omega) (by omega),kmi (n:=c1-a1) (by omega) (by omega)]
 generalize (b1-a1)*(c2-a2)=u at *;generalize (b2-a2)*(c1-a1)=v at *
 rw[kmi (n:=u) (by omega) (by omega),kmi (n:=v) (by omega) (by omega),kmi (n:=u-v) (by omega) (by omega)]
theorem kmj (a b c:Pt)(w:World) :
  Calls Tryz.prog 250 #[.agg #[.int .i64 a.1,.int .i64 a.2],.agg #[.int .i64 b.1,.int .i64 b.2],.agg #[.int .i64 c.1,.int .i64 c.2]] w fun e w'=>e=.returned (.int .i64 (kfy a b c))∧Ext w w':=by
 obtain⟨a1,a2⟩:=a;obtain⟨b1,b2⟩:=b;obtain⟨c1,c2⟩:=c
 go_enter Tryz.func250,Tryz.ntmps250
 go_wp2
 go_ret
 exact⟨by simp[kfy],xt⟩
theorem Ext.ko {a b:World}(h:Ext a b):KeepsOthers a b:=⟨h.size,fun k o hk _=>(h.block k (qaz hk).1).trans hk⟩
theorem Ext.kp2 {a b:World}{n₀ m:Nat}(h:Ext a b)(hn:n₀≤a.heap.size):Kp2 n₀ m a b:=⟨Below.mono h hn,fun k o _ hk _=>(h.block k (qaz hk).1).trans hk⟩
theorem kdq {β : Type}(B:Nat)(cs:Array Value)(t:TypeId):Own (fun (_:β) W=>W.heap[B]?=some (.cells cs t)):=fun s X Y row hs hg hrow=>
 (hg.block B (qaz hs).1 (fun e=>by obtain⟨o,ho,hc⟩:=hrow B e.symm;rw[hs]at ho;cases ho;cases hc)).trans hs
def hasP (x:Pt)(s:Pt × Pt):Bool:=decide (0≤kfy s.1 s.2 x)
def hasB (l:List Pt)(x:Pt):Bool:=(List.range l.length).all fun j=>hasP x (kbr l j)
theorem kms (n Bs n₀ m b off c:Nat)(ps:List Pt)(hreach:ps.length≤1000000)(hn:1≤n)(w:World)(hn₀:n₀≤w.heap.size)(hb:b<n₀)(hmB:m≤Bs)
  (hBs:w.heap[Bs]?=some (.cells #[.slice (some ⟨b,off,none⟩) ps.length c] 76)) (hc:Sl encP 2 w (some ⟨b,off,none⟩) ps) :
  SeqStopsK Fence.wide n Tryz.prog 327 #[.pointer (some ⟨Bs,0,none⟩)] kmt (Kp2 n₀ m) (fun ys=>ys=upto (kbr ps) ps.length) (fun pre=>∃k,k≤ps.length∧pre=upto (kbr ps) k) ps.length w:=fun l J Jx W hW hJ hJx hY h0=>by
 have hlt:Bs<w.heap.size:=(qaz hBs).1
 exact sides1_327 n l Bs n₀ m b off c ps hreach hn hb hmB J Jx hY W hJ (Nat.le_trans hn₀ hW.size) ((hW.block _ hlt).trans hBs) (hc.ext hW) h0
theorem knq (A:Option Addr)(c:Nat)(l:List Pt)(x:Pt)(w:World)(hS:Sl encP 2 w A l)(h3:3≤l.length)(hl:l.length≤1000000)(hx1:I64 x.1)(hx2:I64 x.2)(hp:plB x=true)
  (hV:∀W,Ext w W→Calls Tryz.prog 146 #[.slice A l.length c] W fun e w'=>e=.returned (.bool true)∧Ext W w') :
  Calls Tryz.prog 282 #[.slice A l.length c,.agg #[.int .i64 x.1,.int .i64 x.2]] w fun e w'=>e=.returned (.tuple #[.bool (hasB l x),.int .i64 0])∧Ext w w':=by
 have K1:=Lib.hid hV;have K2:=Lib.hid (ker x hx1 hx2);rw[hp]at K2;clear hV
 obtain⟨b,off,rfl⟩:=hS.addr (by omega)
 have hb:=hS.blk (by omega)
 obtain⟨px,py⟩:=x
 simp only at hx1 hx2 K2
 have h3z:¬ ((l.length:Int)<3):=by omega
 have h3d:decide ((l.length:Int)<3)=false:=decide_eq_false h3z
 have KT:=Lib.hid (fun (s:Pt × Pt)=>kmj s.1 s.2 (px,py))
 have HS:=Lib.hid hS;clear hS
 refine(callsIn_wide (n:=5)).1 ?_
 refine callsIn_of_wp_marks Tryz.func282 rfl trivial ?_ rfl
 refine wpIn_wide.2 ?_
 simp only[Tryz.ntmps282,List.size_toArray,List.length_cons,List.length_nil,Nat.reduceAdd,Nat.reduceSub,Array.replicate_succ,Array.replicate_zero,List.push_toArray,List.append_toArray,List.nil_append,List.cons_append]
 go_wp2_with (first
  | (go_at_call 146;refine(K1.out _ xt).mono ?_;rintro e w1 ⟨rfl,hb1⟩;obtain⟨hc1,hf1,hz1⟩:=hb1.rules;(try simp only[qsa]at hz1);(have hzz1:w.heap.size<w1.heap.size:=by omega);(have hzy1:w.heap.size+1<w1.heap.size:=by omega))
  | (go_at_call 247;refine(K2.out _).mono ?_;rintro e w2 ⟨rfl,hb2,_⟩;obtain⟨hc2,hf2,hz2⟩:=hb2.rules;(have hzz2:w.heap.size<w2.heap.size:=by omega);(have hzy2:w.heap.size+1<w2.heap.size:=by omega))
  | (go_at_call 249;refine(kjq _ _ _ _).mono ?_;rintro e w3 ⟨rfl,rfl⟩))
 have hE12:=hb1.trans hb2
 have qX:w2.heap[w.heap.size]?=some (.cells #[.int .i64 px,.int .i64 py] 43):=by
  refine(hE12.block _ (by simp only[qsa];omega)).trans ?_
  rw[Below.heap_alloc _ _ _ (by simp only[qsa];omega),Below.heap_alloc _ _ _ (by simp only[qsa];omega)]
  exact qan w _
 have q4:Boxed w2 (w.heap.size+1) 4 (.bool false):=by
  refine(hE12.block _ (by simp only[qsa];omega)).trans ?_
  rw[Below.heap_alloc _ _ _ (by simp only[qsa];omega)]
  have:=qan (w.alloc (.cells #[.int .i64 px,.int .i64 py] 43)) (.cells #[.bool false] 4)
  simpa using this
 have q5:Boxed w2 (w.heap.size+1+1) 47 (.int .i64 0):=by
  refine(hE12.block _ (by simp only[qsa];omega)).trans ?_
  have:=qan ((w.alloc (.cells #[.int .i64 px,.int .i64 py] 43)).alloc (.cells #[.bool false] 4)) (.cells #[.int .i64 0] 47)
  simpa using this
 have hE0:Ext w w2:=(((Ext.refl w).alloc _).alloc _).alloc _ |>.trans hE12
 have hz12:w.heap.size+3≤w2.heap.size:=by have:=hE12.len;simp only[qsa]at this;omega
 clear hc1 hf1 hz1 hzz1 hzy1 hc2 hf2 hz2 hzz2 hzy2 hb1 hb2 hE12;obtain⟨W0,hW0⟩:∃W0,w2.alloc (.cells #[.slice (some ⟨b,off,none⟩) l.length c] 76)=W0:=⟨_,rfl⟩
 have hz0:W0.heap.size=w2.heap.size+1:=by rw[←hW0];simp
 have bN:W0.heap[w2.heap.size]?=some (.cells #[.slice (some ⟨b,off,none⟩) l.length c] 76):=by rw[←hW0];exact qan w2 _
 have hE20:Ext w2 W0:=by rw[←hW0];exact(Ext.refl w2).alloc _
 have rX:W0.heap[w.heap.size]?=some (.cells #[.int .i64 px,.int .i64 py] 43):=(hE20.block _ (by omega)).trans qX
 have r4:Boxed W0 (w.heap.size+1) 4 (.bool false):=(hE20.block _ (by omega)).trans q4
 have r5:Boxed W0 (w.heap.size+1+1) 47 (.int .i64 0):=(hE20.block _ (by omega)).trans q5
 have hB0:Below w.heap.size w W0:=hE0.trans hE20
 have hst:=kms (5-1) w2.heap.size w.heap.size w2.heap.size b off c l (by omega) (by omega) W0 (by omega) hb (by omega) bN (HS.out.ext hB0)
 rw[hW0];clear hW0 q4 q5 qX bN hE20 hE0 K1 K2
 refine(wpIn_wide (n:=5)).1 ?_
 refine wpIn_rangeFunc_ownH rfl (by omega) (gf:=327) (lb:=#[.pointer (some ⟨w2.heap.size,0,none⟩)]) rfl trivial (enters_of Tryz.func327 (by kernel_rfl) rfl)
  hst Kp2.t (Kp2.b (by omega)) (Below.refl _ _) (fun _=>rfl)
  (fun pre W=>(((AllP (hasP (px,py)) pre∧Boxed W (w.heap.size+1) 4 (.bool false))∧Boxed W (w.heap.size+1+1) 47 (.int .i64 0))∧W.heap[w.heap.size]?=some (.cells #[.int .i64 px,.int .i64 py] 43))∧Below w.heap.size w W)
  (fun c pre W=>(((c=.ret∧kpg (hasP (px,py)) pre)∧Boxed W (w.heap.size+1) 4 (.bool false))∧Boxed W (w.heap.size+1+1) 47 (.int .i64 0))∧Below w.heap.size w W)
  (OwnFrom.and (OwnFrom.and (OwnFrom.and (OwnFrom.and (ownFrom_pure _ _) (Own.from (boxed_own _ _ (fun _=>_)) _)) (Own.from (boxed_own _ _ (fun _=>_)) _)) (Own.from (kdq _ _ _) _)) (ownFrom_below (Nat.le_refl _) (by omega)))
  (fun c=>OwnFrom.and (OwnFrom.and (OwnFrom.and (ownFrom_pure _ _) (Own.from (boxed_own _ _ (fun _=>_)) _)) (Own.from (boxed_own _ _ (fun _=>_)) _)) (ownFrom_below (Nat.le_refl _) (by omega)))
  ⟨⟨⟨⟨AllP.nil _,r4⟩,r5⟩,rX⟩,hB0⟩
  (fun s a' W=>∃B1 B2,(W.heap[B1]?=some (.cells #[.int .i64 s.1.1,.int .i64 s.1.2] 43)∧W.heap[B2]?=some (.cells #[.int .i64 s.2.1,.int .i64 s.2.2] 43))∧a'={ tmps:=#[Value.slice (some ⟨b,off,none⟩) l.length c,Value.agg #[.int .i64 px,.int .i64 py],undef,.pointer (some ⟨w.heap.size,0,none⟩),.pointer (some ⟨w.heap.size+1,0,none⟩),.pointer (some ⟨w.heap.size+1+1,0,none⟩),undef,undef,undef,.pointer (some ⟨B1,0,none⟩),.pointer (some ⟨B2,0,none⟩),Value.slice (some ⟨b,off,none⟩) l.length c,.bool true,.bool false,.bool false,Value.agg #[.int .i64 px,.int .i64 py],.bool true,.bool false,.bool false,Value.slice (some ⟨b,off,none⟩) l.length c,.int .i64 l.length,.bool false,undef,undef,undef,undef,undef,undef,undef,undef,undef,undef,undef,undef,undef,undef,undef,undef,undef,undef,undef,undef,undef,undef,undef,undef,undef,undef,undef,undef,undef,undef,undef,undef,undef,undef,undef,undef,undef,undef,undef,undef,undef,undef,undef,undef,undef,undef,Value.slice (some ⟨b,off,none⟩) l.length c,.func (.func 327) #[] #[.pointer (some ⟨w2.heap.size,0,none⟩)],.agg #[.int .i64 s.1.1,.int .i64 s.1.2],.agg #[.int .i64 s.2.1,.int .i64 s.2.2],undef,undef,undef,undef,undef],defers:=[] })
  (fun s a' _ X Y row hs hg hr=>by
   obtain⟨B1,B2,⟨h1,h1'⟩,h2⟩:=hs
   refine⟨B1,B2,⟨(hg.block B1 (qaz h1).1 (fun e=>?_)).trans h1,(hg.block B2 (qaz h1').1 (fun e=>?_)).trans h1'⟩,h2⟩
   ·obtain⟨_,o,ho,hoc⟩:=hr B1 e.symm
    rw[h1]at ho;cases ho;cases hoc
   ·obtain⟨_,o,ho,hoc⟩:=hr B2 e.symm
    rw[h1']at ho;cases ho;cases hoc)
  ?assign ?body ?done ?stop
 case assign=>
  rintro lw pre s W K ⟨⟨⟨⟨hp,b4⟩,b5⟩,bX⟩,hB1⟩ hK;simp only[kmt]
  gi_wp2
  refine hK _ _ (((KeepsOthers.alloc _ _).trans (KeepsOthers.alloc _ _)).from _) (((Kp2.refl _ _ W).alloc hB1.size _).alloc (by simp only[qsa];have:=hB1.size;omega) _) ⟨⟨⟨⟨hp,(b4.alloc _).alloc _⟩,(b5.alloc _).alloc _⟩,?_⟩,(hB1.alloc hB1.size _).alloc (by simp only[qsa];have:=hB1.size;omega) _⟩ ⟨W.heap.size,W.heap.size+1,⟨?_,?_⟩,rfl⟩
  ·have hlt:=(qaz bX).1
   rw[Below.heap_alloc _ _ _ (by simp only[qsa];omega),Below.heap_alloc _ _ _ hlt];exact bX
  ·rw[Below.heap_alloc _ _ _ (by simp only[qsa];omega)];exact qan W _
  ·have:=qan (W.alloc (.cells #[.int .i64 s.1.1,.int .i64 s.1.2] 43)) (.cells #[.int .i64 s.2.1,.int .i64 s.2.2] 43)
   simpa using this
 case body=>
  rintro lw pre ⟨⟨x1,x2⟩,⟨y1,y2⟩⟩ a' W hl' ⟨r,hr⟩ ⟨⟨⟨⟨hp,b4⟩,b5⟩,bX⟩,hB1⟩ ⟨B1,B2,⟨bA,bB⟩,rfl⟩ hlt
  have K4:Hid (∀W,Calls Tryz.prog 250 #[.agg #[.int .i64 x1,.int .i64 x2],.agg #[.int .i64 y1,.int .i64 y2],.agg #[.int .i64 px,.int .i64 py]] W fun e w'=>e=.returned (.int .i64 (kfy (x1,x2) (y1,y2) (px,py)))∧Ext W w'):=KT.out ((x1,x2),(y1,y2))
  have hdef:hasP (px,py) ((x1,x2),(y1,y2))=decide (0≤kfy (x1,x2) (y1,y2) (px,py)):=rfl
  generalize kfy (x1,x2) (y1,y2) (px,py)=t at K4 hdef
  have c0:W.cell? ⟨B1,0,none⟩=some (.int .i64 x1):=by simp[World.cell?,bA]
  have c1:W.cell? ⟨B1,1,none⟩=some (.int .i64 x2):=by simp[World.cell?,bA]
  have c2:W.cell? ⟨B2,0,none⟩=some (.int .i64 y1):=by simp[World.cell?,bB]
  have c3:W.cell? ⟨B2,1,none⟩=some (.int .i64 y2):=by simp[World.cell?,bB]
  have c4:W.cell? ⟨w.heap.size,0,none⟩=some (.int .i64 px):=by simp[World.cell?,bX]
  have c5:W.cell? ⟨w.heap.size,1,none⟩=some (.int .i64 py):=by simp[World.cell?,bX]
  have HD:=Lib.hid hdef;have H4:=Lib.hid b4;have H5:=Lib.hid b5;have HX:=Lib.hid bX;have HB:=Lib.hid hB1;clear hdef b4 b5 bX hB1 bA bB
  by_cases ht:t<0
  all_goals
   gi_wp2_with (refine⟨trivial,?_⟩;gi_at_call 250;refine(CallsIn.inRound lw (callsIn_wide.2 (K4.out _))).mono ?_;rintro e w5 ⟨rfl,hx5⟩;have m4:=Boxed.ext H4.out hx5;have m5:=Boxed.ext H5.out hx5;have f4:=m4.frozen;have f5:=m5.frozen;have g4:=m4.cell;have g5:=m5.cell;have M4:=Lib.hid m4;have M5:=Lib.hid m5;clear m4 m5;have hx:=Lib.hid hx5;clear hx5)
  ·have hT:=hx.out
   have hw5:=hT.size;have hBW:=HB.out.size
   have e4:=(M4.out.set (.bool false)).kept (grownBy_setCell' _ (w.heap.size+1+1) (.int .i64 0)) (by intro e;injection e with e;omega)
   have e5:=(M5.out.kept (grownBy_setCell' _ (w.heap.size+1) (.bool false)) (by intro e;injection e with e;omega)).set (.int .i64 0)
   exact⟨(hT.ko.trans ((KeepsOthers.setCell _ _ _).trans (KeepsOthers.setCell _ _ _))).from _,⟨⟨⟨rfl,kpg.mk _ (by rw[HD.out];exact decide_eq_false (by omega))⟩,e4⟩,e5⟩,
    (HB.out.trans (Below.mono hT hBW)).setCell (p:=⟨w.heap.size+1,0,none⟩) (by simp only;omega) _ |>.setCell (p:=⟨w.heap.size+1+1,0,none⟩) (by simp only;omega) _⟩
  ·have hT:=hx.out
   have hBW:=HB.out.size
   exact⟨hT.ko.from _,hT.kp2 hBW,⟨⟨⟨hp.snoc (by rw[HD.out];exact decide_eq_true (by omega)),M4.out⟩,M5.out⟩,(hT.block _ (qaz HX.out).1).trans HX.out⟩,HB.out.trans (Below.mono hT hBW)⟩
 case done=>
  rintro D ys W hD rfl ⟨⟨⟨⟨hp,b4⟩,b5⟩,_⟩,hB⟩ hK;have c4:=b4.cell;have f4:=b4.frozen;have c5:=b5.cell;have f5:=b5.frozen
  go_wp2
  have e4:=(b4.set (.bool true)).kept (grownBy_setCell' _ (w.heap.size+1+1) (.int .i64 0)) (by intro e;injection e with e;omega)
  have e5:=(b5.kept (grownBy_setCell' _ (w.heap.size+1) (.bool true)) (by intro e;injection e with e;omega)).set (.int .i64 0)
  have hBB:=(hB.setCell (p:=⟨w.heap.size+1,0,none⟩) (by simp only;omega) (.bool true)).setCell (p:=⟨w.heap.size+1+1,0,none⟩) (by simp only;omega) (.int .i64 0)
  have hK':=((KeepsOthers.setCell W ⟨w.heap.size+1,0,none⟩ (.bool true)).trans (KeepsOthers.setCell _ ⟨w.heap.size+1+1,0,none⟩ (.int .i64 0))).same D _ hK rfl
  refine⟨by simp,.inl ⟨_,_,rfl,run_takeDeferred hK',?_⟩⟩
  have g4:=cell_kept e4.cell (grownBy_putObj' _ D (.deferred none)) (fun r e=>by cases e;exact⟨_,hK',rfl⟩)
  have g5:=cell_kept e5.cell (grownBy_putObj' _ D (.deferred none)) (fun r e=>by cases e;exact⟨_,hK',rfl⟩)
  refine⟨.tuple #[.bool true,.int .i64 0],by simp[results,Tryz.f282,go_sem,g4,g5],?_,hBB.trans (belowK_b (w:=w) (Nat.le_refl _) _ D _ _ (by omega) hK' rfl rfl)⟩
  rw[show hasB l (px,py)=true from hp.all]
 case stop=>
  rintro D c pre W hD ⟨k,hk,rfl⟩ ⟨⟨⟨⟨rfl,hx⟩,b4⟩,b5⟩,hB⟩ hK
  gi_wp2
  refine⟨by simp,.inl ⟨_,_,rfl,run_takeDeferred hK,?_⟩⟩
  have g4:=cell_kept b4.cell (grownBy_putObj' _ D (.deferred none)) (fun r e=>by cases e;exact⟨_,hK,rfl⟩)
  have g5:=cell_kept b5.cell (grownBy_putObj' _ D (.deferred none)) (fun r e=>by cases e;exact⟨_,hK,rfl⟩)
  refine⟨.tuple #[.bool false,.int .i64 0],by simp[results,Tryz.f282,go_sem,g4,g5],?_,hB.trans (belowK_b (w:=w) (Nat.le_refl _) _ D _ _ (by omega) hK rfl rfl)⟩
  rw[show hasB l (px,py)=false from hx.all hk]
end Go.Proofs.YtcgghcicnanliaaGreatDoor
namespace Go.Ev
open Go.Proofs Go.Proofs.YtcgghcicnanliaaGreatDoor Go.RowKit
noncomputable section
def ptsV:List Value→Option (List Pt)
 | []=>some []
 | .int .i64 x::.int .i64 y::r=>match ptsV r with
  | some l=>some ((x,y)::l)
  | none=>none
 | _=>none
theorem ptsV_ok {ι : In}:∀ {vs vs':List Value} {l:List Pt},ptsV vs=some l→LR ι vs vs'→vs'=l.flatMap encP∧vs.length=l.length*2:=by
 intro vs
 induction vs using ptsV.induct with
 | case1=>intro vs' l h hl;simp only[ptsV,Option.some.injEq]at h;subst h;exact⟨hl.inv_nil,rfl⟩
 | case2 x y r l0 hr ih=>
  intro vs' l h hl;simp only[ptsV,hr,Option.some.injEq]at h;subst h;obtain⟨a,m,rfl,ha,hm⟩:=hl.inv_cons;obtain⟨b,m',rfl,hb,hm'⟩:=hm.inv_cons;obtain⟨e1,e2⟩:=ih hr hm';rw[ha.inv_int,hb.inv_int,e1]
  exact⟨rfl,by simp only[List.length_cons,e2];omega⟩
 | case3 x y r hr ih=>intro vs' l h;simp[ptsV,hr]at h
 | case4 vs h1 h2=>intro vs' l h;unfold ptsV at h;split at h<;>simp_all
def polyAt (h:Hp)(v:Value):Option (List Pt):=
 match v with
 | .slice (some a) n _=>match ldN h a.block a.off (n*2) with
  | some vs=>ptsV vs
  | none=>none
 | _=>none
theorem polyAt_ok {T:Tab}{ι : In}{h:Hp}{w:World}{v v':Value}{l:List Pt}(m:M T ι h w)(hv:VR ι v v')(he:polyAt h v=some l) :
  ∃b off c,v'=.slice (some ⟨b,off,none⟩) l.length c∧Sl encP 2 w (some ⟨b,off,none⟩) l:=by
 unfold polyAt at he
 split at he
 case h_2=>cases he
 rename_i a n c
 obtain⟨k,off,sp0⟩:=a
 split at he
 case h_2=>cases he
 rename_i vs hld
 rcases hv.inv_slice with ⟨ha,_⟩|⟨k',off',sp,lc,c',ha,hl,rfl,hc⟩
 ·cases ha
 cases ha;have hld2:=hld;unfold ldN at hld2
 split at hld2
 case h_2=>cases hld2
 rename_i cs e o hk
 simp only[cond_eq_ite]at hld2
 split at hld2
 case isFalse=>cases hld2
 rename_i hlen
 rw[Nat.beq_eq]at hlen;cases hld2;obtain⟨lc',e1,pre,c2,post,hw,hpre,hLR,_⟩:=m.at_ k _ hk;rw[hl]at e1;cases e1;obtain⟨f1,f2⟩:=ptsV_ok he ((hLR.drop off).take (n*2))
 have hn:n=l.length:=by omega
 subst hn
 refine⟨lc.blk,off+lc.shf,c',rfl,fun hpos=>⟨lc.blk,off+lc.shf,rfl,(Array.getElem?_eq_some_iff.1 hw).1,fun j x i v hj hi=>?_⟩⟩
 have h1:=getElem?_rows (enc:=encP) (k:=2) (fun _=>rfl) l j i x v hj hi
 rw[←f1,List.getElem?_take]at h1
 split at h1
 case isFalse=>cases h1
 rename_i hlt
 rw[List.getElem?_drop]at h1
 have h2:(pre++c2++post)[off+lc.shf+j*2+i]?=some v:=by
  rw[List.append_assoc,List.getElem?_append_right (by omega),hpre,show off+lc.shf+j*2+i-lc.shf=off+(j*2+i) by omega,List.getElem?_append_left (by have:=(List.getElem?_eq_some_iff.1 h1).1;omega)]
  exact h1
 simp only[World.cell?,hw]
 simpa using h2
theorem good_calls {P:Program}{f:FuncId}{g:Word}(hG:Good P f g){T:Tab}(ht:T.ty=tyOf P){args:List Value}{h h':Hp}{v:Value}(he:g args { h with wall:=h.next }=some (v,h'))(hv:kee v=true)
  {ι : In} {w:World} {args':Array Value} (m:M T ι h w) (ha:LR ι args args'.toList) (W:World) (hW:Ext w W):Calls P f args' W fun e w'=>e=.returned v∧Ext W w':=by
 have mW:M T ι { h with wall:=h.next } W:=⟨fun k b hk=>by
   obtain⟨l,h1,h2⟩:=m.at_ k b hk
   exact⟨l,h1,h2.keep (.refl ι) (hW.block _ h2.in)⟩,m.inj,m.top⟩
 intro cs;obtain⟨ι',v',w',fr,s1,s2,s3,hv',_,ev⟩:=hG.2 T ht args _ v h' he ι W args' mW ha cs
 have:=kij hv hv'
 subst this
 refine⟨.returned v',w',fr,⟨rfl,ev.os,ev.tape,ev.output,ev.size,fun b hb=>ev.fr b hb fun k l hk _ hl=>?_⟩,s1,s2,s3⟩
 rw[m.top k hk]at hl;cases hl
def turnW' (a b c:Pt):Int:=gw (isub (gw (imul (gw (isub b.1 a.1)) (gw (isub c.2 a.2)))) (gw (imul (gw (isub b.2 a.2)) (gw (isub c.1 a.1)))))
theorem turnW'_eq (a b c:Pt):turnW' a b c=kfy a b c:=by
 simp only[turnW',gw_eq,isub_eq,imul_eq,kfy,IntWalk.i64_left]
def hasK1 (x a b:Pt):Bool:=ile 0 (turnW' a b x)
theorem hasK1_eq (x a b:Pt):hasK1 x a b=hasP x (a,b):=by
 rw[Bool.eq_iff_iff,hasK1,kgh,turnW'_eq]
 simp[hasP]
def hasGo (x a p:Pt):List Pt→Bool
 | []=>hasK1 x p a
 | y::r=>bif hasK1 x p y then hasGo x a y r else false
def hasK (x:Pt):List Pt→Bool
 | []=>true
 | a::r=>hasGo x a a r
theorem hasGo_iff {x a:Pt}{r0:List Pt}:∀(r:List Pt) (p:Pt) (i:Nat),(a::r0).drop i=p::r→(hasGo x a p r=true↔∀j,i≤j→j<(a::r0).length→hasP x (kbr (a::r0) j)=true):=by
 intro r
 induction r with
 | nil=>
  intro p i hd;have hlen:=congrArg List.length hd;simp only[List.length_drop,List.length_cons,List.length_nil]at hlen
  have hp:(a::r0)[i]?=some p:=by rw[←List.head?_drop,hd];rfl
  have hs:kbr (a::r0) i=(p,a):=by
   rw[kbr,kbm hp]
   have:(i+1) % (a::r0).length=0:=by simp only[List.length_cons];rw[show i+1=r0.length+1 by omega,Nat.mod_self]
   rw[this]
   rfl
  simp only[hasGo,hasK1_eq]
  constructor
  ·intro h j h1 h2
   have:j=i:=by simp only[List.length_cons]at h2;omega
   subst this;rw[hs];exact h
  ·intro h
   rw[←hs]
   exact h i (Nat.le_refl _) (by simp only[List.length_cons];omega)
 | cons y r ih=>
  intro p i hd;have hlen:=congrArg List.length hd;simp only[List.length_drop,List.length_cons]at hlen
  have hp:(a::r0)[i]?=some p:=by rw[←List.head?_drop,hd];rfl
  have hd1:(a::r0).drop (i+1)=y::r:=by rw[←List.drop_drop,hd];rfl
  have hy:(a::r0)[i+1]?=some y:=by rw[←List.head?_drop,hd1];rfl
  have hs:kbr (a::r0) i=(p,y):=by
   rw[kbr,kbm hp,Nat.mod_eq_of_lt (by simp only[List.length_cons];omega),kbm hy]
  simp only[hasGo,cond_eq_ite,hasK1_eq,←hs]
  have:=ih y (i+1) hd1
  constructor
  ·intro h j h1 h2
   split at h
   ·rename_i hh
    rcases Nat.lt_or_ge i j with hlt|hge
    ·exact this.1 h j hlt h2
    ·have:j=i:=by omega
     subst this;exact hh
   ·cases h
  ·intro h
   have h0:=h i (Nat.le_refl _) (by simp only[List.length_cons];omega)
   rw[h0]
   exact this.2 fun j h1 h2=>h j (by omega) h2
theorem hasK_eq (x:Pt)(l:List Pt):hasK x l=hasB l x:=by
 cases l with
 | nil=>rfl
 | cons a r=>
  rw[Bool.eq_iff_iff];have h1:=hasGo_iff (x:=x) (a:=a) (r0:=r) r a 0 rfl
  show hasGo x a a r=true↔_
  rw[h1,hasB,List.all_eq_true]
  exact⟨fun h j hj=>h j (Nat.zero_le _) (by simpa using hj),fun h j _ hj=>h j (by simpa using hj)⟩
def isT (r:Option (Value × Hp)):Bool:=match r with
 | some (.bool b,_)=>b
 | _=>false
def hasG2 (V:Word)(s:Value)(h:Hp)(x:Pt)(l:List Pt):Option (Value × Hp):=
 bif plK x then bif Nat.ble 3 l.length then bif Nat.ble l.length 1000000 then bif isT (V [s] { h with wall:=h.next }) then some (.tuple #[.bool (hasK x l),.int .i64 0],h) else none else none else none else none
def hasG (V:Word):Word:=fun args h=>match args with
 | [s,p]=>match ptV p,polyAt h s with
  | some x,some l=>hasG2 V s h x l
  | _,_=>none
 | _=>none
theorem good_282 {V:Word}(hV:Good Tryz.prog 146 V):Good Tryz.prog 282 (hasG V):=by
 refine⟨ent Tryz.func282 rfl (by kernel_rfl),fun T ht args h v h' he ι w args' m ha=>?_⟩
 unfold hasG at he
 split at he
 case h_2=>cases he
 rename_i s p
 split at he
 case h_2=>cases he
 rename_i x l hx hl
 simp only[hasG2,cond_eq_ite]at he
 repeat' split at he
 all_goals first|(cases he;done)|skip
 rename_i h1 h2 h3 h4
 cases he;rw[plK_eq]at h1;have h2:=Nat.le_of_ble_eq_true h2;have h3:=Nat.le_of_ble_eq_true h3;obtain⟨s',r,e1,hs,hr⟩:=ha.inv_cons;obtain⟨p',r',e2,hp,hr'⟩:=hr.inv_cons;have e3:=hr'.inv_nil;subst e3 e2;obtain⟨b,off,c,rfl,hS⟩:=polyAt_ok m hs hl;have hpx:=knb hx;subst hpx;have hpf:=kij (flat_pt x) hp;subst hpf
 have ea:args'=#[.slice (some ⟨b,off,none⟩) l.length c,.agg #[.int .i64 x.1,.int .i64 x.2]]:=Array.ext' e1
 subst ea;rw[hasK_eq];unfold isT at h4
 split at h4
 case h_2=>cases h4
 rename_i b' hh hVe
 subst h4
 have hb1:I64 x.1∧I64 x.2:=by
  simp only[plB,YtcgghcicnanliaaGreatDoor.inB,Bool.and_eq_true,decide_eq_true_eq]at h1;simp only[I64];omega
 exact callS_flat m rfl (knq _ c l x w hS h2 h3 hb1.1 hb1.2 h1 (fun W hW=>good_calls hV ht hVe rfl m (.cons hs .nil) W hW))
end
end Go.Ev
namespace Go.Proofs.YtcgghcicnanliaaGreatDoor
open Go.RowKit
set_option maxHeartbeats 8000000
set_option maxRecDepth 100000
attribute [local go_sem] Oper.semAt_some
def kig (t:ChartT)(a b:Pt):List Int:=
 recL t.w (max 0 (colI t.y t.size a.2)) (max 0 (colI t.x t.size a.1)) (min (t.w-1) (colI t.x t.size b.1)+1-max 0 (colI t.x t.size a.1)).toNat (min (t.h-1) (colI t.y t.size b.2)+1-max 0 (colI t.y t.size a.2)).toNat
theorem kgj {t:ChartT}(h:kao t=true):(1≤t.w∧t.w≤4000∧1≤t.h∧t.h≤4000∧1≤t.size∧t.size≤10000)∧-500000≤t.x∧t.x≤500000∧-500000≤t.y∧t.y≤500000:=by
 simp only[kao,kcp,plB,inB,qba,decide_eq_true_eq]at h
 omega
theorem knc {p:Pt}(h:plB p=true):-500000≤p.1∧p.1≤500000∧-500000≤p.2∧p.2≤500000:=by
 simp only[plB,inB,qba,decide_eq_true_eq]at h
 omega
theorem kfj {a s x:Int}(h1:-1000000≤a)(h2:a≤1000000)(h3:-1000000≤x)(h4:x≤1000000)(h5:1≤s):-1≤colI a s x∧colI a s x≤3000000:=by
 unfold colI
 split
 ·omega
 ·have hd:0≤(x-a) / s:=Int.ediv_nonneg (by omega) (by omega)
  have hd2:(x-a) / s≤x-a:=Int.ediv_le_self _ (by omega)
  omega
theorem rowL_prefix (w y x0:Int)(j n:Nat)(h:j≤n):∃r,rowL w y x0 j++r=rowL w y x0 n:=by
 obtain⟨d,rfl⟩:=Nat.exists_eq_add_of_le h;clear h
 induction d with
 | zero=>exact⟨[],by simp⟩
 | succ d ih=>
  obtain⟨r,hr⟩:=ih
  exact⟨r++[y*w+(x0+(j+d:Nat))],by rw[show j+(d+1)=j+d+1 by omega,kmu,←hr,List.append_assoc]⟩
theorem recL_prefix (w y0 x0:Int)(nx i n:Nat)(h:i≤n):∃r,recL w y0 x0 nx i++r=recL w y0 x0 nx n:=by
 obtain⟨d,rfl⟩:=Nat.exists_eq_add_of_le h;clear h
 induction d with
 | zero=>exact⟨[],by simp⟩
 | succ d ih=>
  obtain⟨r,hr⟩:=ih
  exact⟨r++rowL w (y0+(i+d:Nat)) x0 nx,by rw[show i+(d+1)=i+d+1 by omega,kjg,←hr,List.append_assoc]⟩
end Go.Proofs.YtcgghcicnanliaaGreatDoor
namespace Go.Proofs.YtcgghcicnanliaaGreatDoor
open Go.RowKit
set_option maxHeartbeats 4000000
set_option maxRecDepth 100000
def Cells (w:World)(B:Nat)(l:List Value):Prop:=B<w.heap.size∧∀k v,l[k]?=some v→w.cell? ⟨B,k,none⟩=some v
theorem Cells.ext {w w':World}{B:Nat}{l:List Value}(h:Cells w B l)(hx:Ext w w'):Cells w' B l:=⟨Nat.lt_of_lt_of_le h.1 hx.len,fun k v hv=>hx.seen h.1 (h.2 k v hv)⟩
theorem Cells.of_heap {w:World}{B:Nat}{l:List Value}{t:TypeId}(h:w.heap[B]?=some (.cells l.toArray t)):Cells w B l:=
 ⟨(qaz h).1,fun k v hv=>by simp[World.cell?,h,hv]⟩
theorem Cells.new (w:World)(l:List Value)(t:TypeId):Cells (w.alloc (.cells l.toArray t)) w.heap.size l:=Cells.of_heap (t:=t) (kbs w _)
theorem Cells.set {w:World}{B k:Nat}{l:List Value}(h:Cells w B l)(hk:k<l.length)(v:Value):Cells (w.setCell ⟨B,k,none⟩ v) B (l.set k v):=by
 have hold:=h.2 k (l[k]'hk) (qgq hk)
 refine⟨by simpa using h.1,fun j u hj=>?_⟩
 by_cases e:k=j
 ·subst e
  rw[List.getElem?_set_self hk]at hj;cases hj
  exact World.cell?_setCell_same _ _ _ hold
 ·rw[List.getElem?_set_ne e]at hj
  exact(World.cell?_setCell_other _ _ _ _ (by intro h';injection h' with h1 h2;exact e h2)).trans (h.2 j u hj)
open Go.Lib
def loL (f:Pt→Int)(l:List Pt)(k:Nat):Int:=(l.take k).foldl (fun m x=>min m (f x)) (f (ptAt l 0))
def hiL (f:Pt→Int)(l:List Pt)(k:Nat):Int:=(l.take k).foldl (fun m x=>max m (f x)) (f (ptAt l 0))
theorem loL_succ {f:Pt→Int}{l:List Pt}{k:Nat}{x:Pt}(h:l[k]?=some x):loL f l (k+1)=min (loL f l k) (f x):=by
 unfold loL;rw[List.take_add_one,h];simp
theorem hiL_succ {f:Pt→Int}{l:List Pt}{k:Nat}{x:Pt}(h:l[k]?=some x):hiL f l (k+1)=max (hiL f l k) (f x):=by
 unfold hiL;rw[List.take_add_one,h];simp
theorem kly (g:Nat)(eg:∀args w,(callFunc g args).run Tryz.prog w=.ok (.enter g args) w)(f:Pt→Int)(A:Option Addr)(c:Nat)(l:List Pt)(w:World)(h0:0<l.length)(hl:l.length≤1000000)(h:Sl encP 2 w A l)
  (hp:∀W x,x∈l→Ext w W→Calls Tryz.prog g #[.agg #[.int .i64 x.1,.int .i64 x.2]] W fun e w'=>e=.returned (.int .i64 (f x))∧Ext W w') :
  Calls Tryz.prog 148 #[.slice A l.length c,.func (.func g) #[] #[]] w fun e w'=>e=.returned (.tuple #[.int .i64 (loL f l l.length),.int .i64 (hiL f l l.length)])∧Ext w w':=by
 obtain⟨b,off,rfl⟩:=h.addr h0;have hb:=h.blk h0;obtain⟨p0,hp0⟩:∃x,l[0]?=some x:=⟨_,qgq h0⟩
 have a0:w.cell? ⟨b,off,none⟩=some (.int .i64 p0.1):=by have:=h.at_ hp0 (i:=0) rfl;simpa using this
 have a1:w.cell? ⟨b,off+1,none⟩=some (.int .i64 p0.2):=by have:=h.at_ hp0 (i:=1) rfl;simpa using this
 have K0:Hid (∀W,Ext w W→Calls Tryz.prog g #[.agg #[.int .i64 p0.1,.int .i64 p0.2]] W fun e w'=>e=.returned (.int .i64 (f p0))∧Ext W w'):=fun W hx=>hp W p0 (qmq hp0) hx
 have L0:Hid (loL f l 0=f p0∧hiL f l 0=f p0):=by simp[Hid,loL,hiL,ptAt,hp0]
 have h0z:(0:Int)<(l.length:Int):=by omega
 have H:=Lib.hid h;have HP:=Lib.hid hp;obtain⟨x0,y0⟩:=p0
 simp only at a0 a1 K0
 generalize hf0:f (x0,y0)=f0 at K0 L0;clear hp0 h hp hf0
 go_enter Tryz.func148,Tryz.ntmps148
 go_wp2_with fail
 (refine kad (by kernel_rfl) (by kernel_rfl) ?_;(repeat (first|go_big_quiet_step ((go_at_fn g;exact Xt.calls (K0.out _ (Ext.trans xt (Xt.ext _)))))|quiet_step ((go_at_fn g;exact Xt.calls (K0.out _ (Ext.trans xt (Xt.ext _)))))));refine wpQuiet_nil ?_;rintro _ ⟨xq,rfl⟩;have hx2:=xq.ext;generalize xq.world=w2 at hx2 ⊢)
 go_wp2_with fail
 go_loopg [6,7,9,22] l.length (fun gg s6 s7 _ s22 wr=>∃kk:Nat,kk≤l.length∧l.length-kk≤gg∧s6=.int .i64 (loL f l kk)∧s7=.int .i64 (hiL f l kk)∧s22=.int .i64 kk∧Hid (Ext w wr))
 case atStart=>exact⟨0,Nat.zero_le _,by omega,by rw[L0.out.1],by rw[L0.out.2],rfl,hx2⟩
 case round=>
  obtain⟨kk,hkk,hg,rfl,rfl,rfl,hx⟩:=hrel
  by_cases hlt:kk<l.length
  ·obtain⟨y,hy⟩:∃y,l[kk]?=some y:=⟨_,qgq hlt⟩
   have hcall:=Lib.hid (fun W hw=>HP.out W y (qmq hy) hw)
   have E1:=Lib.hid (loL_succ (f:=f) hy);have E2:=Lib.hid (hiL_succ (f:=f) hy)
   have hltz:(kk:Int)<(l.length:Int):=by omega
   have hbw:b<wr.heap.size:=Nat.lt_of_lt_of_le hb hx.out.len
   obtain⟨x1,x2⟩:=y
   have c0:wr.cell? ⟨b,off+kk*2,none⟩=some (.int .i64 x1):=by have:=(H.out.ext hx.out).at_ hy (i:=0) rfl;simpa using this
   have c1:wr.cell? ⟨b,off+kk*2+1,none⟩=some (.int .i64 x2):=by have:=(H.out.ext hx.out).at_ hy (i:=1) rfl;simpa using this
   generalize f (x1,x2)=fy at hcall E1 E2;generalize loL f l kk=lo at E1;generalize hiL f l kk=hi at E2;clear hy
   go_wp2_with fail
   (refine kad (by kernel_rfl) (by kernel_rfl) ?_;(repeat (first|go_big_quiet_step ((go_at_fn g;exact Xt.calls (hcall.out _ (Ext.trans hx.out (Ext.trans xt (Xt.ext _))))))|quiet_step ((go_at_fn g;exact Xt.calls (hcall.out _ (Ext.trans hx.out (Ext.trans xt (Xt.ext _))))))));refine wpQuiet_nil ?_;rintro _ ⟨xq,rfl⟩;have hx2:=xq.ext;generalize xq.world=w2 at hx2 ⊢)
   go_wp2_with fail
   go_roundg (l.length-(kk+1))
   case measure=>omega
   case rel=>exact⟨kk+1,by omega,by omega,by rw[E1.out],by rw[E2.out],by go_num,hx.out.trans (Ext.trans xt hx2)⟩
  ·obtain rfl:kk=l.length:=by omega
   go_wp2_with fail
   ((try simp only[Exit.inBlock,Exit.then]);refine bodyPost_ret (by first|(simp[results,Tryz.f148,go_sem];rfl)|(simp[results,Tryz.f148,go_sem];done)|(simp[results,Tryz.f148,go_sem, *];rfl)|(simp[results,Tryz.f148,go_sem, *];done)) rfl ?_)
   exact⟨rfl,hx.out⟩
section
variable {W:World} {B C i:Nat} {a b u v:Value} {t:TypeId} {o:Obj}
theorem kae (h:W.heap[B]?=some (.cells #[a,b] t)):W.cell? ⟨B,0,none⟩=some a∧W.cell? ⟨B,1,none⟩=some b∧W.frozen? ⟨B,0,none⟩=false∧W.frozen? ⟨B,1,none⟩=false:=by
 refine⟨?_,?_,?_,?_⟩<;>simp[World.cell?,World.frozen?,h]
theorem kbv (h:W.heap[B]?=some (.cells #[a,b] t))(u:Value):(W.setCell ⟨B,0,none⟩ u).heap[B]?=some (.cells #[u,b] t):=by
 simp only[World.setCell,Array.getElem?_modify,h]
 simp
theorem kbu (h:W.heap[B]?=some (.cells #[a,b] t))(u:Value):(W.setCell ⟨B,1,none⟩ u).heap[B]?=some (.cells #[a,u] t):=by
 simp only[World.setCell,Array.getElem?_modify,h]
 simp
theorem kah (h:W.heap[B]?=some o)(hne:B≠C)(u:Value):(W.setCell ⟨C,i,none⟩ u).heap[B]?=some o:=by
 rw[Below.heap_setCell _ _ _ _ hne];exact h
end
theorem box1_149 (x:Pt)(w:World):Calls Tryz.prog 149 #[.agg #[.int .i64 x.1,.int .i64 x.2]] w fun e w'=>e=.returned (.int .i64 x.1)∧Ext w w':=by
 go_enter Tryz.func149,Tryz.ntmps149
 go_wp2
 go_ret
 exact⟨rfl,xt⟩
theorem box2_150 (x:Pt)(w:World):Calls Tryz.prog 150 #[.agg #[.int .i64 x.1,.int .i64 x.2]] w fun e w'=>e=.returned (.int .i64 x.2)∧Ext w w':=by
 go_enter Tryz.func150,Tryz.ntmps150
 go_wp2
 go_ret
 exact⟨rfl,xt⟩
theorem eight1_330 (x:Pt)(h:Mid x)(w:World):Calls Tryz.prog 330 #[.agg #[.int .i64 x.1,.int .i64 x.2]] w fun e w'=>e=.returned (.int .i64 (x.1+x.2))∧Ext w w':=by
 obtain⟨x1,x2⟩:=x;simp only[Mid]at h
 go_enter Tryz.func330,Tryz.ntmps330
 go_wp2
 go_ret
 exact⟨rfl,xt⟩
theorem eight2_331 (x:Pt)(h:Mid x)(w:World):Calls Tryz.prog 331 #[.agg #[.int .i64 x.1,.int .i64 x.2]] w fun e w'=>e=.returned (.int .i64 (x.1-x.2))∧Ext w w':=by
 obtain⟨x1,x2⟩:=x;simp only[Mid]at h
 go_enter Tryz.func331,Tryz.ntmps331
 go_wp2
 go_ret
 exact⟨rfl,xt⟩
theorem eg_149:∀args w,(callFunc 149 args).run Tryz.prog w=.ok (.enter 149 args) w:=enters_of Tryz.func149 (by kernel_rfl) rfl
theorem eg_150:∀args w,(callFunc 150 args).run Tryz.prog w=.ok (.enter 150 args) w:=enters_of Tryz.func150 (by kernel_rfl) rfl
theorem eg_330:∀args w,(callFunc 330 args).run Tryz.prog w=.ok (.enter 330 args) w:=enters_of Tryz.func330 (by kernel_rfl) rfl
theorem eg_331:∀args w,(callFunc 331 args).run Tryz.prog w=.ok (.enter 331 args) w:=enters_of Tryz.func331 (by kernel_rfl) rfl
end Go.Proofs.YtcgghcicnanliaaGreatDoor
namespace Go.Proofs.YtcgghcicnanliaaGreatDoor
open Go.RowKit
set_option maxHeartbeats 4000000
set_option maxRecDepth 100000
attribute [local go_sem] Oper.semAt_some
abbrev SegT:={ s:Pt × Pt // plB s.1=true∧plB s.2=true }
theorem ptAt_all {l:List Pt}(hpl:∀x∈l,plB x=true){i:Nat}(hi:i<l.length):plB (ptAt l i)=true:=by
 rw[kbm (qgq hi)]
 exact hpl _ (List.getElem_mem hi)
end Go.Proofs.YtcgghcicnanliaaGreatDoor
namespace Go.Proofs.YtcgghcicnanliaaGreatDoor
open Go.RowKit
set_option maxHeartbeats 40000000
set_option maxRecDepth 100000
def fitsB (y:CellT)(h v:Sp):Bool:=y.void||(decide (y.lo+h.1≤v.2)&&decide (v.1≤y.hi+h.2))
theorem fits1_226 (Bc Bh Bv:Nat)(i:Nat)(y:CellT)(h v:Sp)(cA:Option Addr)(cc:Nat)(cells:List CellT)(w:World)(hS:Sl kez 4 w cA cells)(hy:cells[i]?=some y)(hn:cells.length≤1000000)
  (hb:kdx y.lo y.hi y.date=true) (h1:-2000≤h.1∧h.1≤2000) (h2:-2000≤h.2∧h.2≤2000)
  (c6:w.cell? ⟨Bc,6,none⟩=some (.slice cA cells.length cc)) (d0:w.cell? ⟨Bh,0,none⟩=some (.int .i64 h.1)) (d1:w.cell? ⟨Bh,1,none⟩=some (.int .i64 h.2)) (e0:w.cell? ⟨Bv,0,none⟩=some (.int .i64 v.1)) (e1:w.cell? ⟨Bv,1,none⟩=some (.int .i64 v.2))
  (k1:Bc<w.heap.size) (k2:Bh<w.heap.size) (k3:Bv<w.heap.size) :
  Calls Tryz.prog 226 #[.int .i64 i,.pointer (some ⟨Bc,0,none⟩),.pointer (some ⟨Bh,0,none⟩),.pointer (some ⟨Bv,0,none⟩)] w fun e w'=>e=.returned (.bool (fitsB y h v))∧Ext w w':=by
 obtain⟨hb1,hb2,hb3⟩:-100000≤y.lo∧y.lo≤y.hi∧y.hi≤100000:=by
  simp only[kdx,qba,decide_eq_true_eq]at hb
  omega
 have hil:i<cells.length:=(List.getElem?_eq_some_iff.1 hy).1
 obtain⟨b,off,rfl⟩:=hS.addr (by omega)
 have hbw:=hS.blk (by omega)
 obtain⟨lo,hi,date,void⟩:=y;obtain⟨ha,hb'⟩:=h;obtain⟨va,vb⟩:=v
 simp only at *
 have c0:w.cell? ⟨b,off+i*4,none⟩=some (.int .i64 lo):=by have:=hS.at_ hy (i:=0) rfl;simpa using this
 have c1:w.cell? ⟨b,off+i*4+1,none⟩=some (.int .i64 hi):=by have:=hS.at_ hy (i:=1) rfl;simpa using this
 have c2:w.cell? ⟨b,off+i*4+2,none⟩=some (.int .i64 date):=by have:=hS.at_ hy (i:=2) rfl;simpa using this
 have c3:w.cell? ⟨b,off+i*4+3,none⟩=some (.bool void):=by have:=hS.at_ hy (i:=3) rfl;simpa using this
 have hiz:(i:Int)<(cells.length:Int):=by omega
 have hib:(i:Int)≤1000000:=by omega
 clear hy hS hb;simp only[fitsB];cases void
 ·go_enter Tryz.func226,Tryz.ntmps226
  go_wp2
  all_goals go_ret
  all_goals (refine⟨retb ?_,xt⟩)
  all_goals rename_i hh
  all_goals first
   | (rw[decide_eq_true hh];simp;done)
   | (rw[decide_eq_false (show ¬ lo+ha≤vb by omega)];simp;done)
 ·go_enter Tryz.func226,Tryz.ntmps226
  go_wp2
  all_goals (go_ret;exact⟨retb (by simp),xt⟩)
theorem khx (t:ChartT)(h v:Sp)(w:World)(H:t.Lies w)(hok:kao t=true)(hh:kau h.1 h.2 (-2000) 2000=true)(hv:kau v.1 v.2 (-100000) 100000=true) :
  Calls Tryz.prog 133 #[.agg t.vals.toArray,.agg #[.int .i64 h.1,.int .i64 h.2],.agg #[.int .i64 v.1,.int .i64 v.2]] w fun e w'=>∃B,e=.returned (.tuple #[.pointer (some ⟨B,0,none⟩),.bool true])∧Ext w w'∧w.heap.size≤B ∧
   w'.heap[B]?=some (.cells (t.vals++[Value.func (.func 226) #[] #[.pointer (some ⟨w.heap.size,0,none⟩),.pointer (some ⟨w.heap.size+1,0,none⟩),.pointer (some ⟨w.heap.size+1+1,0,none⟩)],Value.slice none 0 0]).toArray 183) ∧
   w'.heap[w.heap.size]?=some (.cells t.vals.toArray 26)∧w'.heap[w.heap.size+1]?=some (.cells #[.int .i64 h.1,.int .i64 h.2] 28)∧w'.heap[w.heap.size+1+1]?=some (.cells #[.int .i64 v.1,.int .i64 v.2] 28):=by
 have K1:=Lib.hid (fun W (hx:Ext w W)=>keg t W (H.ext hx))
 rw[hok]at K1;obtain⟨ha,hb'⟩:=h;obtain⟨va,vb⟩:=v;obtain⟨version,x,y,tw,th,size,cA,cc,cells,bA,bc,beacons,lA,lc,lines⟩:=t;simp only[ChartT.vals,List.cons_append,List.nil_append]at *;clear H hok
 go_enter Tryz.func133,Tryz.ntmps133
 go_wp2_with (first
  | (go_at_call 41;refine(K1.out _ xt).mono ?_;rintro e w1 ⟨rfl,hb1⟩;obtain⟨hc1,hf1,hz1⟩:=hb1.rules;(try simp only[qsa]at hz1);(have hzz1:w.heap.size<w1.heap.size:=by omega);(have hzy1:w.heap.size+1<w1.heap.size:=by omega);(have hzx1:w.heap.size+1+1<w1.heap.size:=by omega))
  | (go_at_call 225;refine(koz _ _ _ _ _).mono ?_;rintro e w2 ⟨rfl,hb2⟩;(try simp only[hh,hv]);obtain⟨hc2,hf2,hz2⟩:=hb2.rules;(have hzz2:w.heap.size<w2.heap.size:=by omega);(have hzy2:w.heap.size+1<w2.heap.size:=by omega);(have hzx2:w.heap.size+1+1<w2.heap.size:=by omega)))
 have hX:Ext (((w.alloc (.cells #[.int .i64 version,.int .i64 x,.int .i64 y,.int .i64 tw,.int .i64 th,.int .i64 size,.slice cA cells.length cc,.slice bA beacons.length bc,.slice lA lines.length lc] 26)).alloc (.cells #[.int .i64 ha,.int .i64 hb'] 28)).alloc (.cells #[.int .i64 va,.int .i64 vb] 28)) w2:=by
  refine Ext.trans ?_ (by assumption)
  refine Ext.trans ?_ (by assumption)
  assumption
 have hs:=hX.len;simp only[qsa]at hs
 go_ret2
 refine⟨_,rfl,Ext.alloc (Ext.trans (((Ext.refl w).alloc _).alloc _ |>.alloc _) hX) _,by omega,kbs w2 _,?_,?_,?_⟩
 ·rw[Below.heap_alloc _ _ _ (by omega)]
  refine(hX.block _ (by simp only[qsa];omega)).trans ?_
  rw[Below.heap_alloc _ _ _ (by simp only[qsa];omega),Below.heap_alloc _ _ _ (by simp only[qsa];omega)]
  exact kbs w _
 ·rw[Below.heap_alloc _ _ _ (by omega)]
  refine(hX.block _ (by simp only[qsa];omega)).trans ?_
  rw[Below.heap_alloc _ _ _ (by simp only[qsa];omega)]
  have:=kbs (w.alloc (.cells #[.int .i64 version,.int .i64 x,.int .i64 y,.int .i64 tw,.int .i64 th,.int .i64 size,.slice cA cells.length cc,.slice bA beacons.length bc,.slice lA lines.length lc] 26)) (.cells #[.int .i64 ha,.int .i64 hb'] 28)
  simpa only[qsa]using this
 ·rw[Below.heap_alloc _ _ _ (by omega)]
  refine(hX.block _ (by simp only[qsa];omega)).trans ?_
  have:=kbs ((w.alloc (.cells #[.int .i64 version,.int .i64 x,.int .i64 y,.int .i64 tw,.int .i64 th,.int .i64 size,.slice cA cells.length cc,.slice bA beacons.length bc,.slice lA lines.length lc] 26)).alloc (.cells #[.int .i64 ha,.int .i64 hb'] 28)) (.cells #[.int .i64 va,.int .i64 vb] 28)
  simpa only[qsa]using this
end Go.Proofs.YtcgghcicnanliaaGreatDoor
