/- Walks: sound.layers, sound.Valid; Walks; Entries: what formed, seen say; Walks: slices.BinarySearchFunc at flows, tide.of, tide.At; What runs found: sense.of at the kinds of observations. Conditions: as each statement says. -/
import Derived.RangeFuncBound
import Derived.RangeFuncBox
import Derived.OwnWalkIn
import Derived.TacticsInMore
import Derived.LoopNIn
import Derived.LoopIn
import Derived.Test.YtcgghcicnanliaaGreatDoorM12
import Derived.Test.YtcgghcicnanliaaGreatDoorM11
import Derived.Test.YtcgghcicnanliaaGreatDoorM10
import Derived.KernelRfl
set_option linter.unusedVariables false
set_option linter.unusedSimpArgs false
namespace Go.Proofs.YtcgghcicnanliaaGreatDoor
open Go.RowKit
set_option maxHeartbeats 2000000
set_option maxRecDepth 100000
attribute [local go_sem] Oper.semAt_some
def upto {α : Type}(f:Nat→α)(k:Nat):List α:=(List.range k).map f
theorem kda {α : Type}(f:Nat→α)(k:Nat):upto f (k+1)=upto f k++[f k]:=by simp[upto,List.range_succ]
theorem kch {α : Type}(f:Nat→α)(k:Nat):(upto f k).length=k:=by simp[upto]
theorem upto_snoc {α : Type}{f:Nat→α}{k:Nat}{ini:List α}{x:α}(h:upto f k=ini++[x]):∃m,k=m+1∧ini=upto f m∧x=f m:=by
 cases k with
 | zero=>simp[upto]at h
 | succ m=>
  rw[kda]at h;obtain⟨e1,e2⟩:=List.append_inj' h rfl
  exact⟨m,rfl,e1.symm,by simpa using e2.symm⟩
def AllP {α : Type}(f:α→Bool)(pre:List α):Prop:=∀p∈pre,f p=true
def kpg {α : Type}(f:α→Bool)(pre:List α):Prop:=∃ini last,pre=ini++[last]∧f last=false
theorem AllP.nil {α : Type}(f:α→Bool):AllP f []:=fun _ h=>absurd h (by simp)
theorem AllP.snoc {α : Type}{f:α→Bool}{pre:List α}{x:α}(h:AllP f pre)(hx:f x=true):AllP f (pre++[x]):=fun p hp=>(List.mem_append.1 hp).elim (h p) (fun e=>by rw[List.mem_singleton]at e;subst e;exact hx)
theorem kpg.mk {α : Type}{f:α→Bool}{x:α}(pre:List α)(hx:f x=false):kpg f (pre++[x]):=⟨pre,x,rfl,hx⟩
theorem AllP.all {α : Type}{f:α→Bool}{g:Nat→α}{n:Nat}(h:AllP f (upto g n)):(List.range n).all (fun j=>f (g j))=true:=
 kap (fun j hj=>h _ (by simp only[upto,List.mem_map,List.mem_range];exact⟨j,hj,rfl⟩))
theorem kpg.all {α : Type}{f:α→Bool}{g:Nat→α}{k n:Nat}(hk:k≤n)(h:kpg f (upto g k)):(List.range n).all (fun j=>f (g j))=false:=by
 obtain⟨ini,last,e1,e2⟩:=h;obtain⟨m,rfl,rfl,rfl⟩:=upto_snoc e1
 exact kam (j:=m) (by omega) e2
structure WaterT where
 til:Int
 lo:Int
 hi:Int
def WaterT.vals (x:WaterT):List Value:=[.int .i64 x.til,.int .i64 x.lo,.int .i64 x.hi]
theorem WaterT.len (x:WaterT):x.vals.length=3:=rfl
def koq (l:List WaterT)(j:Nat):WaterT:=l[j]?.getD ⟨0,0,0⟩
def kdi (l:List WaterT):Nat→Int
 | 0=>0
 | j+1=>(koq l j).til
def watG (l:List WaterT)(j:Nat):Int × WaterT:=(kdi l j,koq l j)
def watEnc (x:Int × WaterT):Array Value:=#[.int .i64 x.1,.agg #[.int .i64 x.2.til,.int .i64 x.2.lo,.int .i64 x.2.hi]]
def kmh (x:Int × WaterT):Bool:=decide (x.1<x.2.til)&&decide (1≤x.2.lo)&&decide (x.2.lo≤x.2.hi)&&decide (x.2.hi≤20000)
def kcg (l:List WaterT):Bool:=decide (l≠[])&&decide (l.length≤20)&&decide ((koq l (l.length-1)).til=100000)&&(List.range l.length).all (fun j=>kmh (watG l j))
theorem layers_101 (A:Option Addr)(n c:Nat)(w:World) :
  Calls Tryz.prog 101 #[.slice A n c] w fun e w'=>e=.returned (.func (.func 166) #[] #[.pointer (some ⟨w.heap.size,0,none⟩)])∧w'=w.alloc (.cells #[.slice A n c] 35):=by
 go_enter Tryz.func101,Tryz.ntmps101
 go_wp2
 go_ret
 exact⟨rfl,rfl⟩
def Kp2 (n₀ m:Nat)(W W':World):Prop:=Below n₀ W W'∧∀k o,m≤k→W.heap[k]?=some o→o.isCells=true→W'.heap[k]?=some o
theorem Kp2.refl (n₀ m:Nat)(W:World):Kp2 n₀ m W W:=⟨Below.refl _ _,fun _ _ _ h _=>h⟩
theorem Kp2.t {n₀ m:Nat}{A B C:World}(h:Kp2 n₀ m A B)(k:Kp2 n₀ m B C):Kp2 n₀ m A C:=⟨h.1.trans k.1,fun i o hi ho hc=>k.2 i o hi (h.2 i o hi ho hc) hc⟩
theorem Kp2.b {n₀ m:Nat}{w:World}(hn:n₀≤w.heap.size)(W:World)(l:Nat)(o o':Obj)(hl:w.heap.size≤l)(h:W.heap[l]?=some o)(h1:o.isCells=false)(h2:o.isWalk=false):Kp2 n₀ m W (W.putObj l o'):=
 ⟨belowK_b hn W l o o' hl h h1 h2,fun k p hk hp hc=>by
  by_cases e:k=l
  ·subst e;rw[h]at hp;cases hp;rw[h1]at hc;cases hc
  ·rw[World.putObj_heap_other e];exact hp⟩
theorem Kp2.alloc {n₀ m:Nat}{A B:World}(h:Kp2 n₀ m A B)(hn:n₀≤B.heap.size)(o:Obj):Kp2 n₀ m A (B.alloc o):=⟨h.1.alloc hn o,fun k p hk hp hc=>by
  have h1:=h.2 k p hk hp hc
  rw[Below.heap_alloc B o k (qaz h1).1];exact h1⟩
theorem Kp2.ext {n₀ m:Nat}{A B C:World}(h:Kp2 n₀ m A B)(hn:n₀≤B.heap.size)(hx:Ext B C):Kp2 n₀ m A C:=⟨h.1.trans (Below.mono hx hn),fun k p hk hp hc=>by
  have h1:=h.2 k p hk hp hc
  rw[hx.block k (qaz h1).1];exact h1⟩
theorem Kp2.set {n₀ m:Nat}{A B:World}(h:Kp2 n₀ m A B){p:Addr}(h1:n₀≤p.block)(h2:p.block<m)(u:Value):Kp2 n₀ m A (B.setCell p u):=⟨h.1.setCell h1 u,fun k o hk ho hc=>by
  rw[Below.heap_setCell B p u k (by omega)];exact h.2 k o hk ho hc⟩
theorem Kp2.boxed {n₀ m B:Nat}{A C:World}(h:Kp2 n₀ m A C)(hm:m≤B){xs:Array Value}{t:TypeId}(hb:A.heap[B]?=some (.cells xs t))(i:Nat):C.cell? ⟨B,i,none⟩=A.cell? ⟨B,i,none⟩:=
 World.cell?_of_block (w:=A) (by rw[h.2 B _ hm hb rfl,hb])
theorem layers1_166 (n l0 Bs n₀ m b off c:Nat)(ws:List WaterT)(hreach:ws.length≤1000000)(hn:1≤n)(hb:b<n₀)(J Jx:List (Int × WaterT)→World→Prop)
  (hY:∀pre x W,J pre W→pre.length<ws.length→YieldAt Fence.wide (n-1) Tryz.prog l0 (watEnc x) W fun e W'=>
   (e=.returned (.bool true)∧J (pre++[x]) W'∧Kp2 n₀ m W W')∨(e=.returned (.bool false)∧Jx (pre++[x]) W'))
  (W:World) (hJa:AbidesFrom W.heap.size J) (hn₀:n₀≤W.heap.size) (hm:m≤W.heap.size) (hBs:W.cell? ⟨Bs,0,none⟩=some (.slice (some ⟨b,off,none⟩) ws.length c)) (hc:Sl WaterT.vals 3 W (some ⟨b,off,none⟩) ws) (h0:J [] W) :
  CallsIn Fence.wide n Tryz.prog 166 #[.func (.yield l0) #[] #[],.pointer (some ⟨Bs,0,none⟩)] W fun e W'=>(∃v,e=.returned v) ∧
   ((∃ys,ys=upto (watG ws) ws.length∧J ys W')∨(∃pre,(∃k,k≤ws.length∧pre=upto (watG ws) k)∧Jx pre W')):=by
 refine callsIn_of_wp Tryz.func166 rfl trivial ?_ rfl
 simp only[Tryz.ntmps166,List.size_toArray,List.length_cons,List.length_nil,Nat.reduceAdd,Nat.reduceSub,Array.replicate_succ,Array.replicate_zero,List.push_toArray,List.append_toArray,List.nil_append,List.cons_append]
 gi_wp2
 gi_loopw [3,5,8] (fun s3 _ s8 wr=>∃k:Nat,k≤ws.length∧s3=.int .i64 (kdi ws k)∧s8=.int .i64 k∧J (upto (watG ws) k) wr∧Below n₀ W wr∧W.heap.size≤wr.heap.size)
  (fun _ _ s8 _=>ws.length-(intOf s8).toNat)
 case atStart=>exact⟨0,Nat.zero_le _,rfl,rfl,h0,Below.refl _ _,Nat.le_refl _⟩
 case round=>
  obtain⟨k,hk,rfl,rfl,hJs,hnx,hszr⟩:=hrel
  by_cases hlt:k<ws.length
  ·obtain⟨y,hy⟩:∃y,ws[k]?=some y:=⟨_,qgq hlt⟩
   have hyw:koq ws k=y:=by simp[koq,hy]
   have hG:watG ws k=(kdi ws k,y):=by simp[watG,hyw]
   have hT:kdi ws (k+1)=y.til:=by simp[kdi,hyw]
   have hJ1:=hJa (upto (watG ws) k) wr (wr.alloc (.cells #[.int .i64 y.til,.int .i64 y.lo,.int .i64 y.hi] 114)) none hJs (World.grownBy_alloc _ _ none) (by simp)
   obtain⟨fn,tmps,assign,body,hyy,hR⟩:=hY _ (watG ws k) _ hJ1 (by rw[kch];exact hlt)
   have hsz:n₀≤wr.heap.size:=by omega
   obtain⟨t1,t2,t3⟩:=y;simp only[watEnc,hG]at hyy;generalize kdi ws k=fr at hyy hG
   have c0:wr.cell? ⟨b,off+k*3,none⟩=some (.int .i64 t1):=by have:=hc.at_ hy (i:=0) rfl;rw[hnx.cell (p:=⟨b,_,none⟩) hb];simpa using this
   have c1:wr.cell? ⟨b,off+k*3+1,none⟩=some (.int .i64 t2):=by have:=hc.at_ hy (i:=1) rfl;rw[hnx.cell (p:=⟨b,_,none⟩) hb];simpa using this
   have c2:wr.cell? ⟨b,off+k*3+2,none⟩=some (.int .i64 t3):=by have:=hc.at_ hy (i:=2) rfl;rw[hnx.cell (p:=⟨b,_,none⟩) hb];simpa using this
   have hltz:(k:Int)<(ws.length:Int):=by omega
   have hkb:(k:Int)≤1000000:=by omega
   gi_wp2
   refine hR.mono ?_
   rintro e W3 (⟨rfl,hJ3,hk3⟩|⟨rfl,hJx3⟩)
   ·have hbx:W3.cell? ⟨wr.heap.size,0,none⟩=some (.int .i64 t1):=by
     rw[hk3.boxed (by omega) (qan wr _)];simp
    have hs3:=hk3.1.size;simp only[qsa]at hs3
    gi_wp2
    go_roundw
    case rel=>exact⟨k+1,by omega,by simp[hT],by simp,by rw[kda];exact hJ3,hnx.trans (((Below.refl _ _).alloc hsz _).trans hk3.1),by omega⟩
    case measure=>simp[intOf];omega
   ·gi_wp2
    refine bodyPost_ret (results_none rfl _ _ _) rfl ?_
    exact⟨⟨_,rfl⟩,.inr ⟨_,⟨k+1,by omega,(kda _ _).symm⟩,hJx3⟩⟩
  ·obtain rfl:k=ws.length:=by omega
   gi_wp2
   go_end0
   exact⟨⟨_,rfl⟩,.inl ⟨_,rfl,hJs⟩⟩
theorem layers_stops (n Bs n₀ b off c:Nat)(ws:List WaterT)(hreach:ws.length≤1000000)(hn:1≤n)(w:World)(hn₀:n₀≤w.heap.size)(hb:b<n₀)(hBs:Bs<w.heap.size)
  (hc0:w.cell? ⟨Bs,0,none⟩=some (.slice (some ⟨b,off,none⟩) ws.length c)) (hc:Sl WaterT.vals 3 w (some ⟨b,off,none⟩) ws) :
  SeqStopsK Fence.wide n Tryz.prog 166 #[.pointer (some ⟨Bs,0,none⟩)] watEnc (Kp2 n₀ w.heap.size) (fun ys=>ys=upto (watG ws) ws.length) (fun pre=>∃k,k≤ws.length∧pre=upto (watG ws) k) ws.length w:=fun l J Jx W hW hJ hJx hY h0=>by
 have hc':=(hW.cell (p:=⟨Bs,0,none⟩) hBs).trans hc0
 exact layers1_166 n l Bs n₀ w.heap.size b off c ws hreach hn hb J Jx hY W hJ (Nat.le_trans hn₀ hW.size) hW.size hc' (hc.ext hW) h0
theorem soundValid_44 (A:Option Addr)(c:Nat)(ws:List WaterT)(w:World)(hS:Sl WaterT.vals 3 w A ws) :
  Calls Tryz.prog 44 #[.slice A ws.length c] w fun e w'=>e=.returned (.bool (kcg ws))∧Ext w w':=by
 refine(callsIn_wide (n:=5)).1 ?_
 refine callsIn_of_wp_marks Tryz.func44 rfl trivial ?_ rfl
 simp only[Tryz.ntmps44,List.size_toArray,List.length_cons,List.length_nil,Nat.reduceAdd,Nat.reduceSub,Array.replicate_succ,Array.replicate_zero,List.push_toArray,List.append_toArray,List.nil_append,List.cons_append]
 by_cases h0:ws=[]
 ·subst h0
  gi_wp2
  exact⟨.bool false,by simp[results,Tryz.f44,go_sem],retb rfl,(Ext.refl w).alloc _⟩
 have hlen:0<ws.length:=List.length_pos_iff.2 h0
 obtain⟨b,off,rfl⟩:=hS.addr hlen;have hb:=hS.blk hlen
 by_cases h20:ws.length≤20
 rotate_left
 ·have h20z:(20:Int)<(ws.length:Int):=by omega
  have hl0:¬ ((ws.length:Int)=0):=by omega
  gi_wp2
  exact⟨.bool false,by simp[results,Tryz.f44,go_sem],retb (by simp[kcg,h20]),(Ext.refl w).alloc _⟩
 obtain⟨y,hy⟩:∃y,ws[ws.length-1]?=some y:=⟨_,qgq (by omega)⟩
 have hyw:koq ws (ws.length-1)=y:=by simp[koq,hy]
 have h20z:¬ (20:Int)<(ws.length:Int):=by omega
 have hl0:¬ ((ws.length:Int)=0):=by omega
 have hlm:((ws.length:Int)-1)=((ws.length-1:Nat):Int):=by omega
 have c0:w.cell? ⟨b,off+(ws.length-1)*3,none⟩=some (.int .i64 y.til):=by have:=hS.at_ hy (i:=0) rfl;simpa using this
 have hq0:((ws.length:Int) == 0)=false:=by simp;omega
 by_cases htil:y.til=100000
 rotate_left
 ·have hq1:(y.til != 100000)=true:=by simp[htil]
  gi_wp2
  exact⟨.bool false,by simp[results,Tryz.f44,go_sem],retb (by simp[kcg,hyw,htil]),(Ext.refl w).alloc _⟩
 have hq1:(y.til != 100000)=false:=by simp[htil]
 gi_wp2_with (refine⟨trivial,?_⟩;gi_at_call 101;refine(callsIn_wide.2 (layers_101 _ _ _ _)).mono ?_;rintro e w' ⟨rfl,rfl⟩)
 have bR:=(Boxed.new w 4 (.bool false)).alloc (.cells #[.slice (some ⟨b,off,none⟩) ws.length c] 35);have bN:=Boxed.new (w.alloc (.cells #[.bool false] 4)) 35 (.slice (some ⟨b,off,none⟩) ws.length c)
 have hB0:Below w.heap.size w ((w.alloc (.cells #[.bool false] 4)).alloc (.cells #[.slice (some ⟨b,off,none⟩) ws.length c] 35)):=((Below.refl _ w).alloc (Nat.le_refl _) _).alloc (by simp) _
 have hsz:((w.alloc (.cells #[.bool false] 4)).alloc (.cells #[.slice (some ⟨b,off,none⟩) ws.length c] 35)).heap.size=w.heap.size+2:=by simp
 simp only[qsa]at bN;have hS0:=hS.ext hB0;obtain⟨W0,hW0⟩:∃W0,(w.alloc (.cells #[.bool false] 4)).alloc (.cells #[.slice (some ⟨b,off,none⟩) ws.length c] 35)=W0:=⟨_,rfl⟩;rw[hW0]at bR bN hB0 hsz hS0 ⊢;clear hW0
 refine wpIn_rangeFunc_ownH rfl (by omega) (gf:=166) (lb:=#[.pointer (some ⟨w.heap.size+1,0,none⟩)]) rfl trivial (enters_of Tryz.func166 (by kernel_rfl) rfl)
  (layers_stops (5-1) (w.heap.size+1) w.heap.size b off c ws (by omega) (by omega) W0 (by omega) hb (by omega) bN.cell hS0) Kp2.t (Kp2.b (by omega)) (Below.refl _ _) (fun _=>rfl)
  (fun pre W=>(AllP kmh pre∧Boxed W w.heap.size 4 (.bool false))∧Below w.heap.size w W)
  (fun c pre W=>((c=.ret∧kpg kmh pre)∧Boxed W w.heap.size 4 (.bool false))∧Below w.heap.size w W)
  (OwnFrom.and (OwnFrom.and (ownFrom_pure _ _) (Own.from (boxed_own _ _ (fun _=>_)) _)) (ownFrom_below (Nat.le_refl _) (by omega)))
  (fun c=>OwnFrom.and (OwnFrom.and (ownFrom_pure _ _) (Own.from (boxed_own _ _ (fun _=>_)) _)) (ownFrom_below (Nat.le_refl _) (by omega)))
  ⟨⟨AllP.nil _,bR⟩,hB0⟩
  (fun x a' W=>∃Bx,W.heap[Bx]?=some (.cells #[.int .i64 x.2.til,.int .i64 x.2.lo,.int .i64 x.2.hi] 114)∧a'={ tmps:=#[.slice (some ⟨b,off,none⟩) ws.length c,undef,.pointer (some ⟨w.heap.size,0,none⟩),.int .i64 x.1,.pointer (some ⟨Bx,0,none⟩),.slice (some ⟨b,off,none⟩) ws.length c,.int .i64 ws.length,.bool false,.bool false,.slice (some ⟨b,off,none⟩) ws.length c,.int .i64 ws.length,.bool false,.bool false,.bool false,.slice (some ⟨b,off,none⟩) ws.length c,.slice (some ⟨b,off,none⟩) ws.length c,.int .i64 ws.length,.int .i64 (ws.length-1:Nat),.pointer (some ⟨b,off+(ws.length-1)*3,none⟩),.pointer (some ⟨b,off+(ws.length-1)*3,none⟩),.int .i64 100000,.bool false,.bool false,.slice (some ⟨b,off,none⟩) ws.length c,.func (.func 166) #[] #[.pointer (some ⟨w.heap.size+1,0,none⟩)],.int .i64 x.1,.agg #[.int .i64 x.2.til,.int .i64 x.2.lo,.int .i64 x.2.hi],undef,undef,undef,undef,undef,undef,undef,undef,undef,undef,undef,undef,undef,undef,undef,undef,undef,undef,undef,undef,undef,undef,undef,undef,undef],defers:=[] })
  (fun x a' _ X Y row hs hg hr=>by
   obtain⟨Bx,h1,h2⟩:=hs
   refine⟨Bx,(hg.block Bx (qaz h1).1 (fun e=>?_)).trans h1,h2⟩
   obtain⟨_,o,ho,hoc⟩:=hr Bx e.symm
   rw[h1]at ho;cases ho;cases hoc)
  ?assign ?body ?done ?stop
 case assign=>
  rintro l pre x W K ⟨⟨hp,bR1⟩,hB1⟩ hK;simp only[watEnc]
  gi_wp2
  exact hK _ _ ((KeepsOthers.alloc _ _).from _) ((Kp2.refl _ _ W).alloc hB1.size _) ⟨⟨hp,bR1.alloc _⟩,hB1.alloc hB1.size _⟩ ⟨W.heap.size,qan W _,rfl⟩
 case body=>
  rintro l pre ⟨fr,⟨t1,t2,t3⟩⟩ a' W hl ⟨r,hr⟩ ⟨⟨hp,bR1⟩,hB1⟩ ⟨Bx,bX,rfl⟩ hlt
  have c0:W.cell? ⟨Bx,0,none⟩=some (.int .i64 t1):=by simp[World.cell?,bX]
  have c1:W.cell? ⟨Bx,1,none⟩=some (.int .i64 t2):=by simp[World.cell?,bX]
  have c2:W.cell? ⟨Bx,2,none⟩=some (.int .i64 t3):=by simp[World.cell?,bX]
  have cR:=bR1.cell;have fR:=bR1.frozen
  have D:(t1≤fr∨(fr<t1∧t2<1)∨(fr<t1∧1≤t2∧t3<t2)∨(fr<t1∧1≤t2∧t2≤t3∧20000<t3))∨(fr<t1∧1≤t2∧t2≤t3∧t3≤20000):=by omega
  rcases D with (d1|⟨d1,d2⟩|⟨d1,d2,d3⟩|⟨d1,d2,d3,d4⟩)|⟨d1,d2,d3,d4⟩
  all_goals
   first|(have e0:decide (t1≤fr)=true:=decide_eq_true (by omega))|(have e0:decide (t1≤fr)=false:=decide_eq_false (by omega))|skip
   first|(have e1:decide (t2<1)=true:=decide_eq_true (by omega))|(have e1:decide (t2<1)=false:=decide_eq_false (by omega))|skip
   first|(have e2:decide (t3<t2)=true:=decide_eq_true (by omega))|(have e2:decide (t3<t2)=false:=decide_eq_false (by omega))|skip
   first|(have e3:decide (20000<t3)=true:=decide_eq_true (by omega))|(have e3:decide (20000<t3)=false:=decide_eq_false (by omega))|skip
   gi_wp2
  iterate 4
   exact⟨(KeepsOthers.setCell _ _ _).from _,⟨⟨rfl,kpg.mk _ (by rw[Bool.eq_false_iff];simp[kmh];omega)⟩,bR1.set _⟩,hB1.setCell (p:=⟨w.heap.size,0,none⟩) (Nat.le_refl _) _⟩
  exact⟨KeepsFrom.refl _ _,Kp2.refl _ _ _,⟨hp.snoc (by simp[kmh];omega),bR1⟩,hB1⟩
 case done=>
  rintro D ys W hD rfl ⟨⟨hp,bR1⟩,hB1⟩ hK;have cR:=bR1.cell;have fR:=bR1.frozen
  gi_wp2
  have hK':=(KeepsOthers.setCell W ⟨w.heap.size,0,none⟩ (.bool true)).same D _ hK rfl
  refine⟨by simp,.inl ⟨_,_,rfl,run_takeDeferred hK',?_⟩⟩
  have hc5:=cell_kept (bR1.set (.bool true)).cell (grownBy_putObj' _ D (.deferred none)) (fun r e=>by cases e;exact⟨_,hK',rfl⟩)
  refine⟨.bool true,by simp[results,Tryz.f44,go_sem,hc5],retb ?_,(hB1.setCell (p:=⟨w.heap.size,0,none⟩) (Nat.le_refl _) _).trans (belowK_b (w:=w) (Nat.le_refl _) _ D _ _ (by omega) hK' rfl rfl)⟩
  have hall:=hp.all
  simp[kcg,h0,h20,hyw,htil,hall]
 case stop=>
  rintro D c pre W hD ⟨k,hk,rfl⟩ ⟨⟨⟨rfl,hx⟩,bR1⟩,hB1⟩ hK
  gi_wp2
  refine⟨by simp,.inl ⟨_,_,rfl,run_takeDeferred hK,?_⟩⟩
  have hc5:=cell_kept bR1.cell (grownBy_putObj' _ D (.deferred none)) (fun r e=>by cases e;exact⟨_,hK,rfl⟩)
  refine⟨.bool false,by simp[results,Tryz.f44,go_sem,hc5],retb ?_,hB1.trans (belowK_b (w:=w) (Nat.le_refl _) _ D _ _ (by omega) hK rfl rfl)⟩
  have hall:=hx.all hk
  simp[kcg,hall]
end Go.Proofs.YtcgghcicnanliaaGreatDoor
namespace Go.Proofs.YtcgghcicnanliaaGreatDoor
open Go.RowKit
set_option maxHeartbeats 4000000
set_option maxRecDepth 100000
theorem klf (n lo hi:Int)(w:World):Calls Tryz.prog 167 #[.int .i64 n,.int .i64 lo,.int .i64 hi] w fun e w'=>e=.returned (.bool (inB n lo hi))∧w=w':=by
 go_enter Tryz.func167,Tryz.ntmps167
 go_wp2
 all_goals (go_ret;exact⟨retb (by rw[Bool.eq_iff_iff];(try simp[inB])<;>omega),rfl⟩)
theorem in_170 (n lo hi:Int)(w:World):Calls Tryz.prog 170 #[.int .i64 n,.int .i64 lo,.int .i64 hi] w fun e w'=>e=.returned (.bool (inB n lo hi))∧w=w':=by
 go_enter Tryz.func170,Tryz.ntmps170
 go_wp2
 all_goals (go_ret;exact⟨retb (by rw[Bool.eq_iff_iff];(try simp[inB])<;>omega),rfl⟩)
theorem in_79 (n lo hi:Int)(w:World):Calls Tryz.prog 79 #[.int .i64 n,.int .i64 lo,.int .i64 hi] w fun e w'=>e=.returned (.bool (inB n lo hi))∧w=w':=by
 go_enter Tryz.func79,Tryz.ntmps79
 go_wp2
 all_goals (go_ret;exact⟨retb (by rw[Bool.eq_iff_iff];(try simp[inB])<;>omega),rfl⟩)
theorem in_107 (n lo hi:Int)(w:World):Calls Tryz.prog 107 #[.int .i64 n,.int .i64 lo,.int .i64 hi] w fun e w'=>e=.returned (.bool (inB n lo hi))∧w=w':=by
 go_enter Tryz.func107,Tryz.ntmps107
 go_wp2
 all_goals (go_ret;exact⟨retb (by rw[Bool.eq_iff_iff];(try simp[inB])<;>omega),rfl⟩)
theorem kji (p:Pt)(w:World):Calls Tryz.prog 26 #[.agg #[.int .i64 p.1,.int .i64 p.2]] w fun e w'=>e=.returned (.bool (plB p))∧Ext w w':=by
 obtain⟨x,y⟩:=p;simp only[plB]
 go_enter Tryz.func26,Tryz.ntmps26
 go_wp2
 all_goals (go_ret;exact⟨retb (by rw[Bool.eq_iff_iff];(try simp[inB])<;>omega),xt⟩)
theorem refCell_105 (lo hi date:Int)(void:Bool)(w:World) :
  Calls Tryz.prog 105 #[.agg #[.int .i64 lo,.int .i64 hi,.int .i64 date,.bool void]] w fun e w'=>e=.returned (.bool (kdx lo hi date))∧Ext w w':=by
 go_enter Tryz.func105,Tryz.ntmps105
 go_wp2_with (go_at_call 167;refine(klf _ _ _ _).mono ?_;rintro e w' ⟨rfl,rfl⟩)
 all_goals (go_ret;exact⟨retb (by rw[Bool.eq_iff_iff];simp_all [inB,kdx]<;>omega),xt⟩)
def kau (a b lo hi:Int):Bool:=decide (lo≤a)&&decide (a≤b)&&decide (b≤hi)
theorem refWithin_169 (a b lo hi:Int)(w:World) :
  Calls Tryz.prog 169 #[.agg #[.int .i64 a,.int .i64 b],.int .i64 lo,.int .i64 hi] w fun e w'=>e=.returned (.bool (kau a b lo hi))∧Ext w w':=by
 go_enter Tryz.func169,Tryz.ntmps169
 go_wp2
 all_goals (go_ret;exact⟨retb (by rw[Bool.eq_iff_iff];(try simp[kau])<;>omega),xt⟩)
theorem koz (a b lo hi:Int)(w:World) :
  Calls Tryz.prog 225 #[.agg #[.int .i64 a,.int .i64 b],.int .i64 lo,.int .i64 hi] w fun e w'=>e=.returned (.bool (kau a b lo hi))∧Ext w w':=by
 go_enter Tryz.func225,Tryz.ntmps225
 go_wp2
 all_goals (go_ret;exact⟨retb (by rw[Bool.eq_iff_iff];(try simp[kau])<;>omega),xt⟩)
theorem kie (a b lo hi:Int)(w:World) :
  Calls Tryz.prog 80 #[.agg #[.int .i64 a,.int .i64 b],.int .i64 lo,.int .i64 hi] w fun e w'=>e=.returned (.bool (kau a b lo hi))∧Ext w w':=by
 have e:kau a b lo hi=(inB a lo b&&decide (b≤hi)):=rfl
 rw[e];clear e;have K:=Lib.hid (in_79 a lo b);generalize inB a lo b=q at K ⊢
 go_enter Tryz.func80,Tryz.ntmps80
 go_wp2_with (go_at_call 79;refine(K.out _).mono ?_;rintro e w' ⟨rfl,rfl⟩)
 all_goals (go_ret;exact⟨retb (by simp_all),xt⟩)
theorem kiu (a b m:Int)(hm:m≤1000000):within a b m=kau a b (-m) m:=by
 rw[Bool.eq_iff_iff];simp[within,kcv,kau];omega
theorem kjf (f:FlowT)(w:World):Calls Tryz.prog 106 #[.agg f.vals.toArray] w fun e w'=>e=.returned (.bool f.ok)∧Ext w w':=by
 have hok:f.ok=(kau f.ulo f.uhi (-5000) 5000&&kau f.vlo f.vhi (-5000) 5000&&kau f.hlo f.hhi (-2000) 2000):=by
  simp only[FlowT.ok]
  rw[kiu _ _ _ (by omega),kiu _ _ _ (by omega),kiu _ _ _ (by omega)]
 rw[hok];clear hok;obtain⟨x,y,s,a,b,c,d,g,h⟩:=f;simp only[FlowT.vals]
 go_enter Tryz.func106,Tryz.ntmps106
 go_wp2_with (go_at_call 169;refine(refWithin_169 _ _ _ _ _).mono ?_;rintro e w1 ⟨rfl,hb1⟩;obtain⟨hc1,hf1,hz1⟩:=hb1.rules;(try simp only[qsa]at hz1);have hzz1:w.heap.size<w1.heap.size:=by omega)
 all_goals (go_ret;exact⟨retb (by simp_all),xt⟩)
theorem cmpF_lt (f g:FlowT):decide (cmpF f g<0)=(if f.slot≠g.slot then decide (f.slot<g.slot) else if f.y≠g.y then decide (f.y<g.y) else decide (f.x<g.x)):=by
 simp only[cmpF,orI,cmpI]
 split<;>split<;>(try split)<;>(rw[Bool.eq_iff_iff])<;>(repeat' split)<;>simp<;>omega
theorem refBefore_108 (f g:FlowT)(w:World):Calls Tryz.prog 108 #[.agg f.vals.toArray,.agg g.vals.toArray] w fun e w'=>e=.returned (.bool (decide (cmpF f g<0)))∧Ext w w':=by
 rw[cmpF_lt];obtain⟨x,y,s,_,_,_,_,_,_⟩:=f;obtain⟨x',y',s',_,_,_,_,_,_⟩:=g;simp only[FlowT.vals]
 by_cases h1:s=s'
 ·subst h1
  by_cases h2:y=y'
  ·subst h2
   simp only[ne_eq,not_true_eq_false,if_false]
   go_enter Tryz.func108,Tryz.ntmps108
   go_wp2
   all_goals (go_ret;exact⟨rfl,xt⟩)
  ·have hb:(y != y')=true:=by simp[h2]
   simp only[ne_eq,not_true_eq_false,if_false,h2,not_false_eq_true,if_true]
   go_enter Tryz.func108,Tryz.ntmps108
   go_wp2
   all_goals (go_ret;exact⟨rfl,xt⟩)
 ·have hb:(s != s')=true:=by simp[h1]
  simp only[ne_eq,h1,not_false_eq_true,if_true]
  go_enter Tryz.func108,Tryz.ntmps108
  go_wp2
  all_goals (go_ret;exact⟨rfl,xt⟩)
theorem refRow_109 (r:RowT)(w:World):Calls Tryz.prog 109 #[.agg (kdw r).toArray] w fun e w'=>e=.returned (.bool (kif r))∧Ext w w':=by
 have hok:kif r=(inB r.tlo (-1000) 1000&&inB r.thi r.tlo 1000&&inB r.age 0 10000&&inB r.since 0 1000000000&&inB r.part 0 500&&inB r.turn 0 8):=by
  rw[Bool.eq_iff_iff];simp[kif,hold3,inB];omega
 rw[hok];clear hok;obtain⟨a,b,c,d,f,g⟩:=r;simp only[kdw]
 go_enter Tryz.func109,Tryz.ntmps109
 go_wp2_with (go_at_call 170;refine(in_170 _ _ _ _).mono ?_;rintro e w' ⟨rfl,rfl⟩)
 all_goals (go_ret;exact⟨retb (by simp_all),xt⟩)
structure EntryT where
 seq:Int
 time:Int
 kind:Int
 sensor:Int
 ref:Int
 a:Int
 n:Int
 lo:Int
 hi:Int
 temp:Int
 age:Int
 since:Int
def EntryT.vals (e:EntryT):List Value:=[.int .i64 e.seq,.int .i64 e.time,.int .i64 e.kind,.int .i64 e.sensor,.int .i64 e.ref,.int .i64 e.a,.int .i64 e.n,.int .i64 e.lo,.int .i64 e.hi,.int .i64 e.temp,.int .i64 e.age,.int .i64 e.since]
def EntryT.within (e:EntryT):Bool:=kel (khr e.kind) e.sensor e.ref e.a e.n e.lo e.hi e.temp e.age e.since
def headOk (e:EntryT):Bool:=kindOk e.kind&&inB e.seq 1 2000&&inB e.time 0 1000000000&&decide (e.lo≤e.hi)
def tailOk (e:EntryT):Bool:=(!(decide (e.kind=1)||decide (e.kind=6))||decide (e.lo=e.hi))&&(!(decide (e.kind=1))||decide (e.n≤e.time))
def kgn (e:EntryT):Bool:=headOk e&&e.within&&tailOk e
def EntryT.Seen (e:EntryT):Prop:=(2≤e.kind∧e.kind≤7)∧(1≤e.seq∧e.seq≤2000)∧(0≤e.time∧e.time≤1000000000)∧(1≤e.sensor∧e.sensor≤8)∧(e.temp=0∧e.age=0∧e.since=0) ∧
 ((e.kind=2∧e.ref=0∧e.a=0∧e.n=0∧-100000≤e.lo∧e.lo≤e.hi∧e.hi≤100000) ∨
  (e.kind=4∧(1≤e.ref∧e.ref≤1000000)∧(0≤e.a∧e.a≤63)∧(0≤e.n∧e.n≤31)∧e.lo=0∧e.hi=0) ∨
  ((e.kind=3∨e.kind=5∨e.kind=6∨e.kind=7)∧(1≤e.ref∧e.ref≤1000000)∧e.a=0∧e.n=0∧(0≤e.lo∧e.lo≤e.hi∧e.hi≤100000)∧(e.kind=5→e.lo=0)∧(e.kind=6→e.lo=e.hi)))
theorem EntryT.Seen.form {e:EntryT}(h:e.Seen):kgn e=true:=by
 obtain⟨seq,time,kind,sensor,ref,a,n,lo,hi,temp,age,since⟩:=e;simp only[EntryT.Seen]at h;obtain⟨h1,h2,h3,h4,⟨rfl,rfl,rfl⟩,h6⟩:=h
 rcases h6 with ⟨rfl,rfl,rfl,rfl,g1,g2,g3⟩|⟨rfl,g1,g2,g3,rfl,rfl⟩|⟨hk,g1,rfl,rfl,g2,g3,g4⟩
 ·simp[kgn,headOk,tailOk,EntryT.within,kindOk,khr,kel,inB];omega
 ·simp[kgn,headOk,tailOk,EntryT.within,kindOk,khr,kel,inB];omega
 ·rcases hk with rfl|rfl|rfl|rfl<;>simp at g3 g4<;>simp[kgn,headOk,tailOk,EntryT.within,kindOk,khr,kel,inB]<;>omega
set_option maxHeartbeats 8000000
def bsI {α : Type}(c:α→Int)(l:List α):Nat→Nat→Nat→Nat
 | 0,i,_=>i
 | f+1,i,j=>if i<j then (match l[(i+j) / 2]? with
  | none=>i
  | some y=>if c y<0 then bsI c l f ((i+j) / 2+1) j else bsI c l f i ((i+j) / 2)) else i
def bsF (l:List FlowT)(k:FlowT):Nat:=bsI (fun y=>cmpF y k) l l.length 0 l.length
def bsHit (l:List FlowT)(k:FlowT):Bool:=match l[bsF l k]? with
 | none=>false
 | some y=>decide (cmpF y k=0)
theorem bsI_end {α : Type}(c:α→Int)(l:List α)(f i:Nat):bsI c l f i i=i:=by cases f<;>simp[bsI]
theorem bsearch_260 (A:Option Addr)(c:Nat)(l:List FlowT)(k:FlowT)(w:World)(hl:l.length≤1000000)(hS:Sl FlowT.vals 9 w A l) :
  Calls Tryz.prog 260 #[.slice A l.length c,.agg k.vals.toArray,.func (.func 97) #[] #[]] w fun e w'=>e=.returned (.tuple #[.int .i64 (bsF l k),.bool (bsHit l k)])∧bsF l k≤l.length∧Ext w w':=by
 have HC:=Lib.hid (fun y W=>kfp y k W)
 have hE0:∀W,Ext W W:=Ext.refl
 have hF:Hid (bsF l k=bsI (fun y=>cmpF y k) l l.length 0 l.length):=rfl
 have hH:Hid (bsHit l k=match l[bsF l k]? with|none=>false|some y=>decide (cmpF y k=0)):=rfl
 generalize bsHit l k=hit at hH ⊢;generalize bsF l k=res at hF hH ⊢
 have hk:∀y:FlowT,Hid (∀W,Calls Tryz.prog 97 #[.agg y.vals.toArray,.agg k.vals.toArray] W fun e w'=>e=.returned (.int .i64 (cmpF y k))∧Ext W w'):=fun y W=>HC.out y W
 have HK:=Lib.hid hk;clear hk HC;obtain⟨k1,k2,k3,k4,k5,k6,k7,k8,k9⟩:=k;simp only[FlowT.vals]at *
 have hbox:Hid (Ext (w.alloc (.cells #[.int .i64 k1,.int .i64 k2,.int .i64 k3,.int .i64 k4,.int .i64 k5,.int .i64 k6,.int .i64 k7,.int .i64 k8,.int .i64 k9] 30)) (w.alloc (.cells #[.int .i64 k1,.int .i64 k2,.int .i64 k3,.int .i64 k4,.int .i64 k5,.int .i64 k6,.int .i64 k7,.int .i64 k8,.int .i64 k9] 30))):=Ext.refl _
 go_enter Tryz.func260,Tryz.ntmps260
 go_wp2
 go_loopg [9,10,11] l.length (fun gg s9 s10 _ wr=>∃lo hi:Nat,s9=.int .i64 lo∧s10=.int .i64 hi∧lo≤hi∧hi≤l.length∧hi-lo≤gg∧Hid (Ext (w.alloc (.cells #[.int .i64 k1,.int .i64 k2,.int .i64 k3,.int .i64 k4,.int .i64 k5,.int .i64 k6,.int .i64 k7,.int .i64 k8,.int .i64 k9] 30)) wr)∧Hid (∃f,hi-lo≤f∧res=bsI (fun y=>cmpF y ⟨k1,k2,k3,k4,k5,k6,k7,k8,k9⟩) l f lo hi))
 case atStart=>exact⟨0,l.length,rfl,rfl,Nat.zero_le _,Nat.le_refl _,by omega,hbox,⟨l.length,by omega,hF.out⟩⟩
 case round=>
  obtain⟨lo,hi,rfl,rfl,hlh,hhn,hg,hx,H⟩:=hrel;obtain⟨hc,hf,hz⟩:=hx.out.rules;simp only[qsa]at hz
  have hz0:w.heap.size<wr.heap.size:=by omega
  have hxw:Ext w wr:=((Ext.refl w).alloc _).trans hx.out
  by_cases hlt:lo<hi
  ·obtain⟨b,off,rfl⟩:=hS.addr (by omega)
   have hb:=hS.blk (by omega)
   have hbw:b<wr.heap.size:=by have:=hxw.len;omega
   clear hb
   obtain⟨y,hy⟩:∃y,l[(lo+hi) / 2]?=some y:=⟨_,qgq (by omega)⟩
   have Y:=Lib.hid hy;have C:=HK.out y
   have H2:Hid (∃f,hi-lo≤f+1∧res=if cmpF y ⟨k1,k2,k3,k4,k5,k6,k7,k8,k9⟩<0 then bsI (fun y=>cmpF y ⟨k1,k2,k3,k4,k5,k6,k7,k8,k9⟩) l f ((lo+hi) / 2+1) hi else bsI (fun y=>cmpF y ⟨k1,k2,k3,k4,k5,k6,k7,k8,k9⟩) l f lo ((lo+hi) / 2)):=by
    obtain⟨f,hf1,hf2⟩:=H.out
    cases f with
    | zero=>omega
    | succ f=>
     refine⟨f,hf1,?_⟩
     rw[hf2];simp only[bsI,if_pos hlt,Y.out]
   clear H;generalize cmpF y ⟨k1,k2,k3,k4,k5,k6,k7,k8,k9⟩=cv at C H2;obtain⟨y1,y2,y3,y4,y5,y6,y7,y8,y9⟩:=y
   have c0:wr.cell? ⟨b,off+(lo+hi) / 2*9,none⟩=some (.int .i64 y1):=by have:=(hS.ext hxw).at_ hy (i:=0) rfl;simpa using this
   have c1:wr.cell? ⟨b,off+(lo+hi) / 2*9+1,none⟩=some (.int .i64 y2):=by have:=(hS.ext hxw).at_ hy (i:=1) rfl;simpa using this
   have c2:wr.cell? ⟨b,off+(lo+hi) / 2*9+2,none⟩=some (.int .i64 y3):=by have:=(hS.ext hxw).at_ hy (i:=2) rfl;simpa using this
   have c3:wr.cell? ⟨b,off+(lo+hi) / 2*9+3,none⟩=some (.int .i64 y4):=by have:=(hS.ext hxw).at_ hy (i:=3) rfl;simpa using this
   have c4:wr.cell? ⟨b,off+(lo+hi) / 2*9+4,none⟩=some (.int .i64 y5):=by have:=(hS.ext hxw).at_ hy (i:=4) rfl;simpa using this
   have c5:wr.cell? ⟨b,off+(lo+hi) / 2*9+5,none⟩=some (.int .i64 y6):=by have:=(hS.ext hxw).at_ hy (i:=5) rfl;simpa using this
   have c6:wr.cell? ⟨b,off+(lo+hi) / 2*9+6,none⟩=some (.int .i64 y7):=by have:=(hS.ext hxw).at_ hy (i:=6) rfl;simpa using this
   have c7:wr.cell? ⟨b,off+(lo+hi) / 2*9+7,none⟩=some (.int .i64 y8):=by have:=(hS.ext hxw).at_ hy (i:=7) rfl;simpa using this
   have c8:wr.cell? ⟨b,off+(lo+hi) / 2*9+8,none⟩=some (.int .i64 y9):=by have:=(hS.ext hxw).at_ hy (i:=8) rfl;simpa using this
   have hhl:(lo:Int)+hi≤2000000:=by omega
   have hltz:(lo:Int)<(hi:Int):=by omega
   have hml:((lo:Int)+hi) / 2<(l.length:Int):=by omega
   clear hy
   by_cases hcv:cv<0
   ·have hd:decide (cv<0)=true:=decide_eq_true hcv
    go_wp2_with fail
    (refine kad (by kernel_rfl) (by kernel_rfl) ?_;(repeat (first|go_big_quiet_step ((go_at_call 97;exact Xt.calls (C.out _)))|quiet_step ((go_at_call 97;exact Xt.calls (C.out _)))));refine wpQuiet_nil ?_;rintro _ ⟨xq,rfl⟩;have hx2:=xq.ext;generalize xq.world=w2 at hx2 ⊢)
    go_wp2
    go_roundg (hi-((lo+hi) / 2+1))
    case measure=>omega
    case rel=>
     refine⟨(lo+hi) / 2+1,hi,by rw[show ((lo:Int)+(hi:Int)) / 2+1=(((lo+hi) / 2+1:Nat):Int) by omega],rfl,by omega,hhn,Nat.le_refl _,hx.out.trans hx2,?_⟩
     obtain⟨f,hf1,hf2⟩:=H2.out;rw[if_pos hcv]at hf2
     exact⟨f,by omega,hf2⟩
   ·have hd:decide (cv<0)=false:=decide_eq_false hcv
    go_wp2_with fail
    (refine kad (by kernel_rfl) (by kernel_rfl) ?_;(repeat (first|go_big_quiet_step ((go_at_call 97;exact Xt.calls (C.out _)))|quiet_step ((go_at_call 97;exact Xt.calls (C.out _)))));refine wpQuiet_nil ?_;rintro _ ⟨xq,rfl⟩;have hx2:=xq.ext;generalize xq.world=w2 at hx2 ⊢)
    go_wp2
    go_roundg ((lo+hi) / 2-lo)
    case measure=>omega
    case rel=>
     refine⟨lo,(lo+hi) / 2,rfl,by rw[show ((lo:Int)+(hi:Int)) / 2=(((lo+hi) / 2:Nat):Int) by omega],by omega,by omega,Nat.le_refl _,hx.out.trans hx2,?_⟩
     obtain⟨f,hf1,hf2⟩:=H2.out
     rw[if_neg (by omega)]at hf2
     exact⟨f,by omega,hf2⟩
  ·obtain rfl:hi=lo:=by omega
   have hres:Hid (res=hi):=by
    obtain⟨f,_,hf2⟩:=H.out;rw[bsI_end]at hf2;exact hf2
   clear H
   by_cases hn:hi<l.length
   ·obtain⟨b,off,rfl⟩:=hS.addr (by omega)
    have hb:=hS.blk (by omega)
    have hbw:b<wr.heap.size:=by have:=hxw.len;omega
    clear hb;obtain⟨y,hy⟩:∃y,l[hi]?=some y:=⟨_,qgq hn⟩;have Y:=Lib.hid hy;have C:=HK.out y
    have H2:Hid (hit=decide (cmpF y ⟨k1,k2,k3,k4,k5,k6,k7,k8,k9⟩=0)):=by
     have:=hH.out
     rw[hres.out,Y.out]at this
     exact this
    generalize cmpF y ⟨k1,k2,k3,k4,k5,k6,k7,k8,k9⟩=cv at C H2;obtain⟨y1,y2,y3,y4,y5,y6,y7,y8,y9⟩:=y
    have c0:wr.cell? ⟨b,off+hi*9,none⟩=some (.int .i64 y1):=by have:=(hS.ext hxw).at_ hy (i:=0) rfl;simpa using this
    have c1:wr.cell? ⟨b,off+hi*9+1,none⟩=some (.int .i64 y2):=by have:=(hS.ext hxw).at_ hy (i:=1) rfl;simpa using this
    have c2:wr.cell? ⟨b,off+hi*9+2,none⟩=some (.int .i64 y3):=by have:=(hS.ext hxw).at_ hy (i:=2) rfl;simpa using this
    have c3:wr.cell? ⟨b,off+hi*9+3,none⟩=some (.int .i64 y4):=by have:=(hS.ext hxw).at_ hy (i:=3) rfl;simpa using this
    have c4:wr.cell? ⟨b,off+hi*9+4,none⟩=some (.int .i64 y5):=by have:=(hS.ext hxw).at_ hy (i:=4) rfl;simpa using this
    have c5:wr.cell? ⟨b,off+hi*9+5,none⟩=some (.int .i64 y6):=by have:=(hS.ext hxw).at_ hy (i:=5) rfl;simpa using this
    have c6:wr.cell? ⟨b,off+hi*9+6,none⟩=some (.int .i64 y7):=by have:=(hS.ext hxw).at_ hy (i:=6) rfl;simpa using this
    have c7:wr.cell? ⟨b,off+hi*9+7,none⟩=some (.int .i64 y8):=by have:=(hS.ext hxw).at_ hy (i:=7) rfl;simpa using this
    have c8:wr.cell? ⟨b,off+hi*9+8,none⟩=some (.int .i64 y9):=by have:=(hS.ext hxw).at_ hy (i:=8) rfl;simpa using this
    have hnz:(hi:Int)<(l.length:Int):=by omega
    have hnd:decide ((hi:Int)<(l.length:Int))=true:=decide_eq_true hnz
    clear hy
    go_wp2_with fail
    (refine kad (by kernel_rfl) (by kernel_rfl) ?_;(repeat (first|go_big_quiet_step ((go_at_call 97;exact Xt.calls (C.out _)))|quiet_step ((go_at_call 97;exact Xt.calls (C.out _)))));refine wpQuiet_nil ?_;rintro _ ⟨xq,rfl⟩;have hx2:=xq.ext;generalize xq.world=w2 at hx2 ⊢)
    go_wp2
    go_ret2
    exact⟨by rw[hres.out,H2.out];rfl,by rw[hres.out];omega,xt⟩
   ·have H2:Hid (hit=false):=by
     have:=hH.out
     rw[hres.out,List.getElem?_eq_none (by omega)]at this
     exact this
    have hnz:¬ (hi:Int)<(l.length:Int):=by omega
    have hnd:decide ((hi:Int)<(l.length:Int))=false:=decide_eq_false hnz
    go_wp2_with fail
    (refine kad (by kernel_rfl) (by kernel_rfl) ?_;(repeat (first|go_big_quiet_step (fail)|quiet_step (fail)));refine wpQuiet_nil ?_;rintro _ ⟨xq,rfl⟩;have hx2:=xq.ext;generalize xq.world=w2 at hx2 ⊢)
    go_wp2
    go_ret2
    exact⟨by rw[hres.out,H2.out];rfl,by rw[hres.out];omega,xt⟩
end Go.Proofs.YtcgghcicnanliaaGreatDoor
namespace Go.Ev
open Go.Proofs Go.Proofs.YtcgghcicnanliaaGreatDoor
set_option maxRecDepth 100000
theorem closed_pair {P:Program}{T:Tab}(hT:TabOk T P)(hO:OrcOk T P){n:Nat}{f:FuncId}{args:List Value}{c:List Value}{v:Value}{h':Hp}(ha:args.all kbx=true)(hc:c.all kbx=true)(hv:kbx v=true)
  (he:ev T P n (.call f args h0)=some (.val (.tuple #[.agg c.toArray,v]) h')) (w:World) :
  Calls P f args.toArray w fun e w'=>e=.returned (.tuple #[.agg c.toArray,v])∧RowKit.Below w.heap.size w w':=by
 intro cs
 obtain⟨ι',v',w',fr,s1,s2,s3,s4,s5,s6⟩:=(ev_ok hT hO n).call f args h0 _ h' he (fun _=>none) w args.toArray (M.start w) (by simpa using LR.leaves ha) cs
 obtain⟨a',rfl,hl⟩:=s4.inv_tuple;obtain⟨x,m,hx,hxv,hm⟩:=hl.inv_cons;obtain⟨y,m',hy,hyv,hm'⟩:=hm.inv_cons;obtain rfl:=hm'.inv_nil;subst hy
 have e1:=kij (v:=.agg c.toArray) (by simpa[kee]using hc) hxv
 have e2:=kij (v:=v) (by cases v<;>simp_all [kee,kbx]) hyv
 subst e1;subst e2;obtain rfl:a'=#[.agg c.toArray,y]:=Array.ext' hx
 exact⟨.returned _,w',fr,⟨rfl,s6.os,s6.tape,s6.output,s6.size,fun b hb=>s6.fr b hb fun k l _ hk=>(by rw[show h0.tr=.leaf from rfl,Tr.get_leaf]at hk;cases hk)⟩,s1,s2,s3⟩
noncomputable def of74B (k:Int) (c:List Int):Bool:=match evF (khp Tryz.prog (fun _=>none)) Tryz.prog 100000 (.call 74 [.int .i64 k] h0) with
 | some (.val v h)=>same3 v (.tuple #[.agg (c.map (Value.int .i64)).toArray,.bool true])
 | _=>false
theorem kkn {k:Int}{c:List Int}(hb:of74B k c=true)(w:World):Calls Tryz.prog 74 #[.int .i64 k] w fun e w'=>e=.returned (.tuple #[.agg (c.map (Value.int .i64)).toArray,.bool true])∧Ext w w':=by
 unfold of74B at hb
 split at hb
 case h_2=>cases hb
 rename_i v h hev
 rw[same3_eq hb,evF_eq,evK_eq]at hev
 exact closed_pair (khi (by kernel_rfl)) noOrc rfl (by rw[List.all_eq_true];intro x hx;obtain⟨y,_,rfl⟩:=List.mem_map.1 hx;rfl) rfl hev w
end Go.Ev
namespace Go.Proofs.YtcgghcicnanliaaGreatDoor
open Go.RowKit Go.Ev
set_option maxRecDepth 100000
def LimT.ints (m:LimT):List Int:=[m.l0,m.h0,m.l1,m.h1,m.l2,m.h2,m.l3,m.h3,m.l4,m.h4,m.l5,m.h5,m.l6,m.h6,m.l7,m.h7,m.l8,m.h8]
theorem of_74 (k:Int)(hk:2≤k∧k≤7)(w:World):Calls Tryz.prog 74 #[.int .i64 k] w fun e w'=>e=.returned (.tuple #[.agg (khr k).vals.toArray,.bool true])∧Ext w w':=by
 have D:k=2∨k=3∨k=4∨k=5∨k=6∨k=7:=by omega
 rcases D with rfl|rfl|rfl|rfl|rfl|rfl
 ·exact kkn (c:=(khr 2).ints) (by kernel_rfl) w
 ·exact kkn (c:=(khr 3).ints) (by kernel_rfl) w
 ·exact kkn (c:=(khr 4).ints) (by kernel_rfl) w
 ·exact kkn (c:=(khr 5).ints) (by kernel_rfl) w
 ·exact kkn (c:=(khr 6).ints) (by kernel_rfl) w
 ·exact kkn (c:=(khr 7).ints) (by kernel_rfl) w
end Go.Proofs.YtcgghcicnanliaaGreatDoor
