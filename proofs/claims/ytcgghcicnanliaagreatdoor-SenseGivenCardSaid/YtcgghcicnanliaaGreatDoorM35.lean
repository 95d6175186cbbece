/- Walks: sense.look at observations; Words; Walks: tide.join, tide.joined; Walks: tide.joined; Walks: tide.blocks; Walks: tide.Bound's two closures. Conditions: as each statement says. -/
import Derived.Test.YtcgghcicnanliaaGreatDoorM33
set_option linter.unusedVariables false
set_option linter.unusedSimpArgs false
namespace Go.Proofs.YtcgghcicnanliaaGreatDoor
open Go.RowKit
set_option maxHeartbeats 8000000
set_option maxRecDepth 100000
def obsL (e:EnvT)(o:EntryT)(p:Pt)(pid:Int)(pA:Option Addr)(pl pc:Nat):List Value:=e.vals++o.vals++[.int .i64 p.1,.int .i64 p.2,.int .i64 pid,.slice pA pl pc,.slice none 0 0]
theorem obs_built (e:EnvT)(o:EntryT):Tryz.prog.built 95 [(0,.agg e.vals.toArray),(1,.agg o.vals.toArray)]=some (obsL e o (0,0) 0 none 0 0).toArray:=by
 obtain⟨⟨version,x,y,tw,th,size,cA,cc,cells,bA,bc,beacons,lA,lc,lines⟩,⟨tv,start,slots,⟨r1,r2,r3,r4,r5,r6,r7,r8,r9⟩,fA,fc,flows⟩,rA,rc,rows,wA,wc,waters⟩:=e;obtain⟨seq,time,kind,sensor,ref,a,n,lo,hi,temp,age,since⟩:=o
 kernel_rfl
theorem obs_cells (e:EnvT)(o:EntryT)(p:Pt)(pid:Int)(pA:Option Addr)(pl pc:Nat):(obsL e o p pid pA pl pc).length=41∧(obsL e o p pid pA pl pc)[36]?=some (.int .i64 p.1)∧(obsL e o p pid pA pl pc)[37]?=some (.int .i64 p.2)∧(obsL e o p pid pA pl pc)[38]?=some (.int .i64 pid)∧(obsL e o p pid pA pl pc)[39]?=some (.slice pA pl pc):=by
 obtain⟨⟨version,x,y,tw,th,size,cA,cc,cells,bA,bc,beacons,lA,lc,lines⟩,⟨tv,start,slots,⟨r1,r2,r3,r4,r5,r6,r7,r8,r9⟩,fA,fc,flows⟩,rA,rc,rows,wA,wc,waters⟩:=e;obtain⟨seq,time,kind,sensor,ref,a,n,lo,hi,temp,age,since⟩:=o
 exact⟨rfl,rfl,rfl,rfl,rfl⟩
theorem EnvT.chart_vals (e:EnvT):∃r,e.vals=e.chart.vals++r:=by
 refine⟨e.vals.drop 9,?_⟩
 obtain⟨⟨version,x,y,tw,th,size,cA,cc,cells,bA,bc,beacons,lA,lc,lines⟩,⟨tv,start,slots,⟨r1,r2,r3,r4,r5,r6,r7,r8,r9⟩,fA,fc,flows⟩,rA,rc,rows,wA,wc,waters⟩:=e
 rfl
theorem info26:(Tryz.prog.info? 26).map (·.size)=some 9:=by kernel_rfl
theorem chart_range (e:EnvT)(w:World)(t:TypeId)(y:Obj)(W:World)(h:Ext ((w.alloc (.cells e.vals.toArray t)).alloc y) W):W.rangeAt w.heap.size 0 e.chart.vals:=by
 have hc:=Cells.new w e.vals t;have hc2:=(hc.ext ((Ext.refl _).alloc y)).ext h;obtain⟨r,hr⟩:=e.chart_vals;intro j v hj;rw[Nat.zero_add]
 refine hc2.2 j v ?_
 rw[hr,List.getElem?_append_left (List.getElem?_eq_some_iff.1 hj).1]
 exact hj
open Go.Lib
set_option maxHeartbeats 4000000
def LV (B:Nat)(W:World)(v:Value)(l:List Pt):Prop:=W.ownsRow B 43 2 v l.length (l.flatMap encP)
section
variable {B:Nat} {W W':World} {v:Value} {l:List Pt}
theorem LV.nil (B:Nat)(W:World):LV B W (.slice none 0 0) []:=World.ownsRow_nil W B 43 2
theorem LV.ext (h:LV B W v l)(hx:Ext W W'):LV B W' v l:=by
 refine⟨h.1,?_⟩
 rcases h.2 with h2|⟨g,cap,cur,h1,h2,h3,h4⟩
 ·exact .inl h2
 ·exact .inr ⟨g,cap,cur,h1,h2,(hx.block _ (qaz h3).1).trans h3,h4⟩
theorem LV.base {B':Nat}(h:LV B W v l)(hb:B'≤B):LV B' W v l:=by
 refine⟨h.1,?_⟩
 rcases h.2 with h2|⟨g,cap,cur,h1,h2,h3,h4⟩
 ·exact .inl h2
 ·exact .inr ⟨g,cap,cur,h1,by omega,h3,h4⟩
theorem LV.own (h:LV B W v l):∀k,v.ownBlock=some k→B≤k:=fun k e=>by
 rcases h.2 with ⟨rfl,_⟩|⟨g,cap,cur,rfl,h2,_⟩
 ·simp[Value.ownBlock]at e
 ·simp[Value.ownBlock]at e;omega
theorem LV.reads (h:LV B W v l):∃A c,v=.slice A l.length c∧Sl encP 2 W A l:=by
 have h0:=h
 rcases h.2 with ⟨rfl,h2⟩|⟨g,cap,cur,rfl,h2,h3,h4,h5,h6,h7⟩
 ·exact⟨none,0,by rw[h2],by rw[List.eq_nil_of_length_eq_zero h2];exact Sl.nil⟩
 ·exact⟨_,_,rfl,(Pr.mk h2 h4 h5 h3 h6 h7).sl⟩
theorem LV.of_pr {g cap:Nat}(h:Pr B W g cap l):LV B W (.slice (some ⟨g,0,none⟩) l.length cap) l:=h
end
theorem kck {P:Program}(hu:P.underlying 76=some (.slice 43)){i:TypeInfo}{z:Value}(hi:P.info? 43=some i)(hz:i.zero=some z)(hz1:i.size=2)(hz2:i.bytes=16)(hz3:z.cells.size=2)
  {w:World} {ops:Array Oper} {rest:List Oper} {o:Oper} {a:Act} {Q:Exit→Act→World→Prop} (hgd:o.guard=none) (s x:Operand)
  (ho:o.op=.call { callee:=.builtin .append,args:=#[s,x],argTypes:=#[76,76] }) (B:Nat) (v:Value) (l:List Pt) (hs:a.eval s=v) (hv:LV B w v l) (hB:B≤w.heap.size)
  (ad:Addr) (m c:Nat) (ys:List Pt) (hx:a.eval x=.slice (some ad) m c) (hm:ys.length=m) (hr:∀j u,(ys.flatMap encP)[j]?=some u→w.cell? (ad.add j)=some u) (hbig:l.length+m≤4000000)
  (h:∀v' w',LV B w' v' (l++ys)→Below B w w'→w.grownBy w' v.ownBlock→wpList P ops Q rest (a.put o.dst v') w'):wpList P ops Q (o::rest) a w:=by
 refine wpList_append_own w hgd s x 76 ho B 43 i z 2 16 hu hi hz hz1 hz2 hz3 (by omega) v l.length (l.flatMap encP) hs hv ad m c (ys.flatMap encP) hx (by rw[kby,hm]) hr ints_one (by simp only[maxLen];omega) (by omega) hB ?_
 intro v' w' h1 h2 _
 refine h v' w' ?_ ((Below.refl B w).grown h2 hB (fun k e=>hv.own k e)) h2
 unfold LV;rw[List.flatMap_append,List.length_append,hm]
 exact h1
def kbg (l q:List Pt):List Pt:=l.filter (hasL q)
theorem kin (A A':Option Addr)(c c':Nat)(l q:List Pt)(w:World)(hS:Sl encP 2 w A l)(hT:Sl encP 2 w A' q)(hl:l.length≤4000)(hp:∀y∈l,plB y=true)(hq:∀y∈q,plB y=true) :
  Calls Tryz.prog 375 #[.slice A l.length c,.slice A' q.length c'] w fun e w'=>∃v,e=.returned v∧LV w.heap.size w' v (kbg l q)∧Ext w w':=by
 obtain⟨i0,hi,hz0,hz1,hz2⟩:=info_parts kha
 go_enter Tryz.func375,Tryz.ntmps375
 go_wp2
 go_loopg [5,7,8,9,12] l.length (fun gg s5 _ _ _ s12 wr=>∃kk:Nat,kk≤l.length∧l.length-kk≤gg∧s12=.int .i64 kk∧Hid (LV w.heap.size wr s5 ((l.take kk).filter (hasL q))∧Ext w wr))
 case atStart=>exact⟨0,Nat.zero_le _,by omega,rfl,LV.nil _ _,Ext.refl _⟩
 case round=>
  obtain⟨kk,hkk,hg,rfl,hx⟩:=hrel
  by_cases hlt:kk<l.length
  rotate_left
  ·obtain rfl:kk=l.length:=by omega
   go_wp2
   go_ret
   exact⟨_,rfl,by have:=hx.out.1;rwa [List.take_length]at this,hx.out.2⟩
  obtain⟨b,off,rfl⟩:=hS.addr (by omega)
  obtain⟨y,hy⟩:∃y,l[kk]?=some y:=⟨_,qgq hlt⟩
  have hltz:(kk:Int)<(l.length:Int):=by omega
  have hbw:b<wr.heap.size:=Nat.lt_of_lt_of_le (hS.blk (by omega)) hx.out.2.len
  have K1:=Lib.hid (fun W (h:Ext w W)=>hullHasL_282 A' c' q y W (hT.ext h) hq (hp _ (qmq hy)))
  have HN:Hid ((l.take (kk+1)).filter (hasL q)=(l.take kk).filter (hasL q)++if hasL q y then [y] else []):=by
   show _=_
   rw[List.take_add_one,hy,List.filter_append]
   congr 1
   simp[List.filter_cons]
  have hll:((l.take kk).filter (hasL q)).length≤4000:=Nat.le_trans (List.length_filter_le _ _) (by simp;omega)
  generalize (if kas q then (0:Int) else 1)=er at K1
  generalize hasL q y=hb at K1 HN;generalize (l.take kk).filter (hasL q)=l0 at hx HN hll;obtain⟨y1,y2⟩:=y
  have c0:wr.cell? ⟨b,off+kk*2,none⟩=some (.int .i64 y1):=by have:=(hS.ext hx.out.2).at_ hy (i:=0) rfl;simpa using this
  have c1:wr.cell? ⟨b,off+kk*2+1,none⟩=some (.int .i64 y2):=by have:=(hS.ext hx.out.2).at_ hy (i:=1) rfl;simpa using this
  clear hy
  cases hb with
  | false=>
   go_wp2_with (go_at_call 282;refine(K1.out _ (Ext.trans hx.out.2 xt)).mono ?_;rintro e w1 ⟨rfl,hx1⟩)
   go_roundg (l.length-(kk+1))
   case measure=>omega
   case rel=>exact⟨kk+1,by omega,by omega,by go_num,by rw[HN.out];simpa using hx.out.1.ext (Ext.trans xt hx1),hx.out.2.trans (Ext.trans xt hx1)⟩
  | true=>
   go_wp2_with (first
    | (go_at_call 282;refine(K1.out _ (Ext.trans hx.out.2 xt)).mono ?_;rintro e w1 ⟨rfl,hx1⟩;obtain⟨hc1,hf1,hz1'⟩:=hx1.rules;simp only[qsa]at hz1';have hzz1:wr.heap.size<w1.heap.size:=by omega)
    | (at_builtin;refine kck Tryz.underlying76 hi hz0 hz1 hz2 rfl rfl _ _ rfl w.heap.size _ l0 rfl ((hx.out.1.ext (Ext.trans xt hx1)).ext ((Ext.refl _).alloc _)) ?qB ⟨w1.heap.size,0,none⟩ 1 1 [(y1,y2)] rfl rfl ?qr ?qb ?_))
   case qB=>have h1:=hx1.len;have h2:=hx.out.2.len;simp only[qsa]at h1 ⊢;omega
   case qr=>simpa using tmpPt w1 (y1,y2)
   case qb=>omega
   intro v' w2 hv2 hb2 _
   go_wp2_with fail
   go_roundg (l.length-(kk+1))
   case measure=>omega
   case rel=>exact⟨kk+1,by omega,by omega,by go_num,by rw[HN.out];simpa using hv2,Below.trans (Ext.trans hx.out.2 (Ext.trans xt hx1)) (Below.trans (Below.mono ((Ext.refl _).alloc _) (by have h1:=hx1.len;have h2:=hx.out.2.len;simp only[qsa]at h1 ⊢;omega)) hb2)⟩
def inL (p q:List Pt):Bool:=decide ((kbg p q).length=p.length)
theorem within_328 (A A':Option Addr)(c c':Nat)(p q:List Pt)(w:World)(hS:Sl encP 2 w A p)(hT:Sl encP 2 w A' q)(hl:p.length≤4000)(hp:∀y∈p,plB y=true)(hq:∀y∈q,plB y=true)(vp:kas p=true)(vq:kas q=true) :
  Calls Tryz.prog 328 #[.slice A p.length c,.slice A' q.length c'] w fun e w'=>e=.returned (.tuple #[.bool (inL p q),.int .i64 0])∧Ext w w':=by
 have K1:Hid (∀W,Ext w W→Calls Tryz.prog 146 #[.slice A p.length c] W fun e w'=>e=.returned (.bool true)∧Ext W w'):=fun W h=>by have:=kba A c p W (hS.ext h) hp;rwa [vp]at this
 have K2:Hid (∀W,Ext w W→Calls Tryz.prog 146 #[.slice A' q.length c'] W fun e w'=>e=.returned (.bool true)∧Ext W w'):=fun W h=>by have:=kba A' c' q W (hT.ext h) hq;rwa [vq]at this
 have K3:Hid (∀W,Ext w W→Calls Tryz.prog 375 #[.slice A p.length c,.slice A' q.length c'] W fun e w'=>∃A2 c2,e=.returned (.slice A2 (kbg p q).length c2)∧Ext W w'):=fun W h=>(kin A A' c c' p q W (hS.ext h) (hT.ext h) hl hp hq).mono fun e w' ⟨v,h1,h2,h3⟩=>by
  obtain⟨A2,c2,rfl,_⟩:=h2.reads
  exact⟨A2,c2,h1,h3⟩
 unfold inL;generalize (kbg p q).length=n at K3 ⊢;generalize p.length=m at K1 K3 ⊢;generalize q.length=m' at K2 K3 ⊢;clear hS hT hp hq vp vq hl
 by_cases hnm:n=m
 ·subst hnm
  go_enter Tryz.func328,Tryz.ntmps328
  go_wp2_with fail
  go_at_call 146
  refine(K1.out _ xt).mono ?_
  rintro e w1 ⟨rfl,hx1⟩
  go_wp2_with fail
  go_at_call 146
  refine(K2.out _ xt).mono ?_
  rintro e w2 ⟨rfl,hx2⟩
  go_wp2_with (go_at_call 375;refine(K3.out _ xt).mono ?_;rintro e w3 ⟨A2,c2,rfl,hx3⟩)
  ((try simp only[Exit.inBlock,Exit.then]);refine bodyPost_ret (by first|(simp[results,Tryz.f328,go_sem];rfl)|(simp[results,Tryz.f328,go_sem];done)|(simp[results,Tryz.f328,go_sem, *];rfl)|(simp[results,Tryz.f328,go_sem, *];done)) rfl ?_)
  exact⟨by simp,xt⟩
 ·have hnz:¬ (n:Int)=(m:Int):=by omega
  have hnd:decide ((n:Int)=(m:Int))=false:=decide_eq_false hnz
  have hne:((n:Int) == (m:Int))=false:=by simpa using hnz
  go_enter Tryz.func328,Tryz.ntmps328
  go_wp2_with fail
  go_at_call 146
  refine(K1.out _ xt).mono ?_
  rintro e w1 ⟨rfl,hx1⟩
  go_wp2_with fail
  go_at_call 146
  refine(K2.out _ xt).mono ?_
  rintro e w2 ⟨rfl,hx2⟩
  go_wp2_with (go_at_call 375;refine(K3.out _ xt).mono ?_;rintro e w3 ⟨A2,c2,rfl,hx3⟩)
  ((try simp only[Exit.inBlock,Exit.then]);refine bodyPost_ret (by first|(simp[results,Tryz.f328,go_sem];rfl)|(simp[results,Tryz.f328,go_sem];done)|(simp[results,Tryz.f328,go_sem, *];rfl)|(simp[results,Tryz.f328,go_sem, *];done)) rfl ?_)
  exact⟨by simp[hnm],xt⟩
set_option maxHeartbeats 8000000
attribute [local go_sem] Oper.semAt_some
theorem info30:(Tryz.prog.info? 30).map (·.size)=some 9:=by kernel_rfl
theorem join_237 (f g:FlowT)(hf:f.ok=true)(hg:g.ok=true)(w:World):Calls Tryz.prog 237 #[.agg f.vals.toArray,.agg g.vals.toArray] w fun e w'=>e=.returned (.agg (joinF f g).vals.toArray)∧Ext w w':=by
 have hf':=hf;have hg':=hg;simp only[FlowT.ok,within,qba]at hf' hg'
 have K1:=Lib.hid (fun W=>kgt (f.ulo,f.uhi) (g.ulo,g.uhi) hf'.1.1.1.1 hg'.1.1.1.1 W)
 have K2:=Lib.hid (fun W=>kgt (f.vlo,f.vhi) (g.vlo,g.vhi) hf'.1.2.1.1 hg'.1.2.1.1 W)
 have K3:=Lib.hid (fun W=>kgt (f.hlo,f.hhi) (g.hlo,g.hhi) hf'.2.1.1 hg'.2.1.1 W)
 simp only[kjo]at K1 K2 K3;clear hf hg hf' hg';obtain⟨f1,f2,f3,f4,f5,f6,f7,f8,f9⟩:=f;obtain⟨g1,g2,g3,g4,g5,g6,g7,g8,g9⟩:=g;simp only[joinF,FlowT.vals]at *;generalize min f4 g4=m1 at *;generalize max f5 g5=m2 at *;generalize min f6 g6=m3 at *;generalize max f7 g7=m4 at *;generalize min f8 g8=m5 at *;generalize max f9 g9=m6 at *
 have KX:=Lib.hid (fun W hx=>kdk w #[.int .i64 f1,.int .i64 f2,.int .i64 f3,.int .i64 f4,.int .i64 f5,.int .i64 f6,.int .i64 f7,.int .i64 f8,.int .i64 f9] #[.int .i64 g1,.int .i64 g2,.int .i64 g3,.int .i64 g4,.int .i64 g5,.int .i64 g6,.int .i64 g7,.int .i64 g8,.int .i64 g9] #[.int .i64 0,.int .i64 0,.int .i64 0,.int .i64 0,.int .i64 0,.int .i64 0,.int .i64 0,.int .i64 0,.int .i64 0] 30 30 30 W hx)
 go_enter Tryz.func237,Tryz.ntmps237
 go_wp2_with fail
 try go_at_call 322
 refine(K1.out _).mono ?_
 rintro e w1 ⟨rfl,hx1⟩;obtain⟨u0,u1,u2⟩:=KX.out _ hx1;have z1:=(qaz u2).1
 have z2:w.heap.size<w1.heap.size:=by omega
 have z3:w.heap.size+1<w1.heap.size:=by omega
 have E1:Hid (Ext w w1):=Ext.trans ((((Ext.refl w).alloc _).alloc _).alloc _) hx1
 obtain⟨_,_,_,_,_,a5,a6,_,_⟩:=kbi u0;obtain⟨_,_,_,_,_,b5,b6,_,_⟩:=kbi u1;clear hx1
 go_wp2_with fail
 try go_at_call 322
 refine(K2.out _).mono ?_
 rintro e w2 ⟨rfl,hx2⟩
 have hE2:Ext w1 w2:=Ext.trans xt hx2
 replace u0:=kaf hE2 u0;replace u1:=kaf hE2 u1;replace u2:=kaf hE2 u2
 have v5:w2.heap[w1.heap.size]?=some (.cells #[.int .i64 m1,.int .i64 m2] 28):=kaf hx2 (qan w1 _)
 have y0:=(qaz v5).1
 have y1:w.heap.size<w2.heap.size:=by omega
 have y2:w.heap.size+1<w2.heap.size:=by omega
 have y3:w.heap.size+1+1<w2.heap.size:=by omega
 have E2:=Lib.hid hE2;clear a5 a6 b5 b6 hE2 hx2;obtain⟨_,_,_,_,_,_,_,a7,a8⟩:=kbi u0;obtain⟨_,_,_,_,_,_,_,b7,b8⟩:=kbi u1
 go_wp2_with fail
 try go_at_call 322
 refine(K3.out _).mono ?_
 rintro e w3 ⟨rfl,hx3⟩
 have hE3:Ext w2 w3:=Ext.trans xt hx3
 have u5:=kaf hE3 v5
 have u6:w3.heap[w2.heap.size]?=some (.cells #[.int .i64 m3,.int .i64 m4] 28):=kaf hx3 (qan w2 _)
 have q2:=Lib.hid (kaf hE3 u2);have x0:=(qaz u6).1
 have x1:w1.heap.size<w3.heap.size:=by omega
 have x3:w.heap.size+1+1<w3.heap.size:=by omega
 have E3:=Lib.hid (Ext.trans E1.out (E2.out.trans hE3));clear hE3 hx3 a7 a8 b7 b8 u0 u1 u2 v5;obtain⟨c5,c6,_,_⟩:=kae u5;obtain⟨d5,d6,_,_⟩:=kae u6
 have E4:Hid (Ext w (w3.alloc (.cells #[.int .i64 m5,.int .i64 m6] 28))):=E3.out.alloc _
 have q3:Hid ((w3.alloc (.cells #[.int .i64 m5,.int .i64 m6] 28)).heap[w.heap.size+1+1]?=some (.cells #[.int .i64 0,.int .i64 0,.int .i64 0,.int .i64 0,.int .i64 0,.int .i64 0,.int .i64 0,.int .i64 0,.int .i64 0] 30)):=(Below.heap_alloc _ _ _ x3).trans q2.out
 go_wp2_with (refine wpList_store_row rfl 30 _ _ rfl (w.heap.size+1+1) #[.int .i64 0,.int .i64 0,.int .i64 0,.int .i64 m1,.int .i64 m2,.int .i64 m3,.int .i64 m4,.int .i64 m5,.int .i64 m6] rfl rfl 30 _ q3.out info30 rfl (by kernel_rfl) ?_)
 have hcs:=fun j=>cell_setRow_same (w3.alloc (.cells #[.int .i64 m5,.int .i64 m6] 28)) (w.heap.size+1+1) j _ #[.int .i64 0,.int .i64 0,.int .i64 0,.int .i64 m1,.int .i64 m2,.int .i64 m3,.int .i64 m4,.int .i64 m5,.int .i64 m6] 30 (0,0) q3.out
 refine bodyPost_ret (by simp[results,Tryz.f237,go_sem,hcs];rfl) rfl ?_
 exact⟨rfl,E4.out.setRow (by omega) _⟩
def kde:List FlowT→FlowT
 | []=>zeroF
 | f::fs=>fs.foldl joinF f
theorem joinAll_app {l:List FlowT}(h:l≠[])(f:FlowT):kde (l++[f])=joinF (kde l) f:=by
 cases l with
 | nil=>exact absurd rfl h
 | cons x l=>simp[kde,List.foldl_append]
theorem joinAll_ok:∀ {l:List FlowT},l≠[]→(∀f∈l,f.ok=true)→(kde l).ok=true
 | [],h,_=>absurd rfl h
 | x::l,_,h=>by
  suffices hs:∀(l:List FlowT) (x:FlowT),x.ok=true→(∀f∈l,f.ok=true)→(l.foldl joinF x).ok=true from hs l x (h x (by simp)) (fun f hf=>h f (by simp[hf]))
  intro l
  induction l with
  | nil=>exact fun x hx _=>hx
  | cons y l ih=>exact fun x hx hl=>ih _ (joinF_ok hx (hl y (by simp))) (fun f hf=>hl f (by simp[hf]))
theorem rows_own {β : Type}(B:Nat)(f:β→Array Value)(t:TypeId):Own (fun (s:β) W=>W.heap[B]?=some (.cells (f s) t)):=fun s X Y row hs hg hrow=>
 (hg.block B (qaz hs).1 (fun e=>by obtain⟨o,ho,hc⟩:=hrow B e.symm;rw[hs]at ho;cases ho;cases hc)).trans hs
theorem kox {W W':World}{row:Option Nat}{B:Nat}{cs:Array Value}{t:TypeId}(h:W.heap[B]?=some (.cells cs t))(hg:W.grownBy W' row)(hr:∀k,row=some k→∃o:Obj,W.heap[k]?=some o∧o.isCells=false):W'.heap[B]?=some (.cells cs t):=
 (hg.block B (qaz h).1 (fun e=>by obtain⟨o,ho,hc⟩:=hr B e.symm;rw[h]at ho;cases ho;cases hc)).trans h
theorem kfr (W:World)(g:Nat)(cs:Array Value):W.grownBy (W.setRow g cs) (some g):=
 ⟨rfl,rfl,rfl,Nat.le_of_eq (setRow_size W g cs).symm,fun k _ hk=>setRow_other W g k cs (fun e=>hk (by rw[e]))⟩
theorem Kp2.row {n₀ m g:Nat}{A B:World}(hg:A.grownBy B (some g))(h1:n₀≤g)(h2:g<m)(hn:n₀≤A.heap.size):Kp2 n₀ m A B:=
 ⟨(Below.refl n₀ A).grown hg hn (fun k e=>by cases e;exact h1),fun k o hk ho _=>(hg.block k (qaz ho).1 (by intro e;cases e;omega)).trans ho⟩
theorem kf_row {B g:Nat}{X Y:World}(hg:X.grownBy Y (some g))(h:g<B):KeepsFrom B X Y:=KeepsFrom.of_grownBy hg (fun j e=>by cases e;exact h)
abbrev FOk:={ f:FlowT // f.ok=true }
def flowE (f:FOk):Array Value:=#[.agg f.1.vals.toArray]
theorem joined_235 (gf:FuncId)(lb:Array Value)(fs:List FlowT)(N:Nat)(w:World)(eg:∀args w,(callFunc gf args).run Tryz.prog w=.ok (.enter gf args) w)
  (hseq:∀W0,Ext w W0→w.heap.size+3=W0.heap.size→SeqStopsK Fence.wide 8 Tryz.prog gf lb flowE (Kp2 w.heap.size W0.heap.size) (fun ys=>ys.map (·.1)=fs) (fun _=>True) N W0) :
  Calls Tryz.prog 235 #[.func (.func gf) #[] lb,.func (.func 237) #[] #[]] w fun e w'=>e=.returned (.agg (kde fs).vals.toArray)∧Ext w w':=by
 refine(callsIn_wide (n:=9)).1 ?_
 refine callsIn_of_wp_marks Tryz.func235 rfl trivial ?_ rfl
 refine wpIn_wide.2 ?_
 simp only[Tryz.ntmps235,List.size_toArray,List.length_cons,List.length_nil,Nat.reduceAdd,Nat.reduceSub,Array.replicate_succ,Array.replicate_zero,List.push_toArray,List.append_toArray,List.nil_append,List.cons_append];have HS:=Lib.hid hseq;clear hseq
 go_wp2_with fail
 obtain⟨W0,hW0⟩:∃W0,((w.alloc (.cells #[.func (.func 237) #[] #[]] 278)).alloc (.cells #[.int .i64 0,.int .i64 0,.int .i64 0,.int .i64 0,.int .i64 0,.int .i64 0,.int .i64 0,.int .i64 0,.int .i64 0] 30)).alloc (.cells #[.bool true] 4)=W0:=⟨_,rfl⟩
 obtain⟨b0,b1,b2⟩:=kdk w _ _ _ 278 30 4 W0 (by rw[←hW0];exact Ext.refl _)
 have hE0:Ext w W0:=by rw[←hW0];exact(((Ext.refl w).alloc _).alloc _).alloc _
 have hz0:w.heap.size+3=W0.heap.size:=by rw[←hW0];simp
 have hst:=HS.out W0 hE0 hz0;rw[hW0];clear hW0 HS
 refine(wpIn_wide (n:=9)).1 ?_
 refine at_act (G:=fun A=>Code.wpIn _ _ _ _ _ A _) ?_
 intro A1 hA1
 refine wpIn_rangeFunc_ownH rfl (by omega) (gf:=gf) (lb:=lb) (by rw[hA1];rfl) trivial eg
  hst Kp2.t (Kp2.b (by omega)) (Below.refl _ _) (fun _=>rfl)
  (fun pre X=>((X.heap[w.heap.size]?=some (.cells #[.func (.func 237) #[] #[]] 278)∧X.heap[w.heap.size+1]?=some (.cells (kde (pre.map (·.1))).vals.toArray 30))∧X.heap[w.heap.size+1+1]?=some (.cells #[.bool pre.isEmpty] 4))∧Below w.heap.size w X)
  (fun _ _ _=>False)
  (OwnFrom.and (OwnFrom.and (OwnFrom.and (Own.from (kdq _ _ _) _) (Own.from (rows_own _ (fun pre:List FOk=>(kde (pre.map (·.1))).vals.toArray) _) _)) (Own.from (rows_own _ (fun pre:List FOk=>#[.bool pre.isEmpty]) _) _)) (ownFrom_below (Nat.le_refl _) (by omega)))
  (fun _ _ _ _ _ h _ _=>h.elim)
  ⟨⟨⟨b0,b1⟩,b2⟩,hE0⟩
  (fun f a' X=>∃C,X.heap[C]?=some (.cells f.1.vals.toArray 30)∧W0.heap.size≤C∧a'={ tmps:=(A1.tmps.setIfInBounds 8 (.agg f.1.vals.toArray)).setIfInBounds 6 (.pointer (some ⟨C,0,none⟩)),defers:=[] })
  (fun f a' _ X Y row hs hg hr=>by
   obtain⟨C,h1,h2,h3⟩:=hs
   exact⟨C,kox h1 hg (fun k e=>(hr k e).2),h2,h3⟩)
  ?assign ?body ?done ?stop
 case assign=>
  rintro l pre ⟨⟨f1,f2,f3,f4,f5,f6,f7,f8,f9⟩,hf⟩ X K2 ⟨⟨⟨h0,h1⟩,h2⟩,hB⟩ hK2;subst hA1;have hz1:=(qaz h2).1;simp only[flowE,FlowT.vals,unE]
  gi_wp2
  have hX:Ext X (X.alloc (.cells #[.int .i64 f1,.int .i64 f2,.int .i64 f3,.int .i64 f4,.int .i64 f5,.int .i64 f6,.int .i64 f7,.int .i64 f8,.int .i64 f9] 30)):=(Ext.refl X).alloc _
  exact hK2 _ _ (hX.ko.from _) (hX.kp2 (by omega)) ⟨⟨⟨kaf hX h0,kaf hX h1⟩,kaf hX h2⟩,hB.trans (Below.mono hX (by omega))⟩ ⟨X.heap.size,qan X _,by omega,rfl⟩
 case body=>
  rintro l pre ⟨f,hf⟩ a' X hl ⟨rr,hr⟩ ⟨⟨⟨h0,h1⟩,h2⟩,hB⟩ ⟨C,hC,hC2,rfl⟩ hlen;subst hA1;obtain⟨f1,f2,f3,f4,f5,f6,f7,f8,f9⟩:=f;simp only[FlowT.vals]at hC;obtain⟨c0,c1,c2,c3,c4,c5,c6,c7,c8⟩:=kbi hC;have yC:=(qaz hC).1;have y2:=(qaz h2).1;have hz:=hB.size;simp only[List.setIfInBounds_toArray,List.set_cons_succ,List.set_cons_zero]
  cases pre with
  | nil=>
   have H:=Lib.hid (And.intro h0 (And.intro h1 (And.intro h2 hB)))
   have e5:X.cell? ⟨w.heap.size+1+1,0,none⟩=some (.bool true):=by simp[World.cell?,h2]
   clear h0 h1 h2 hB
   gi_wp2_with (refine kfd rfl 30 _ _ rfl (w.heap.size+1) #[.int .i64 f1,.int .i64 f2,.int .i64 f3,.int .i64 f4,.int .i64 f5,.int .i64 f6,.int .i64 f7,.int .i64 f8,.int .i64 f9] rfl rfl 30 _ H.out.2.1 info30 rfl (by kernel_rfl) ?_
                have hG:=kfr X (w.heap.size+1) #[.int .i64 f1,.int .i64 f2,.int .i64 f3,.int .i64 f4,.int .i64 f5,.int .i64 f6,.int .i64 f7,.int .i64 f8,.int .i64 f9];have k1:=setRow_heap X (w.heap.size+1) _ #[.int .i64 f1,.int .i64 f2,.int .i64 f3,.int .i64 f4,.int .i64 f5,.int .i64 f6,.int .i64 f7,.int .i64 f8,.int .i64 f9] 30 (0,0) H.out.2.1;generalize X.setRow (w.heap.size+1) #[.int .i64 f1,.int .i64 f2,.int .i64 f3,.int .i64 f4,.int .i64 f5,.int .i64 f6,.int .i64 f7,.int .i64 f8,.int .i64 f9]=X2 at hG k1 ⊢
                have k2:=(hG.block (w.heap.size+1+1) y2 (by simp)).trans H.out.2.2.1
                have e6:X2.cell? ⟨w.heap.size+1+1,0,none⟩=some (.bool true):=by simp[World.cell?,k2]
                have e7:X2.frozen? ⟨w.heap.size+1+1,0,none⟩=false:=by simp[World.frozen?,k2]
                have y3:=(qaz k2).1;have HK:=Lib.hid (And.intro hG (And.intro k1 k2))
                clear hG k1 k2 e5)
   obtain⟨hG,k1,k2⟩:=HK.out;obtain⟨h0,h1,h2,hB⟩:=H.out;have hG2:=grownBy_setCell' X2 (w.heap.size+1+1) (.bool false)
   have kp:=(Kp2.row (n₀:=w.heap.size) (m:=W0.heap.size) hG (by omega) (by omega) hz).t (Kp2.row hG2 (by omega) (by omega) (by have:=hG.size;omega))
   exact⟨(kf_row hG (by omega)).trans (kf_row hG2 (by omega)),kp,⟨⟨kah ((hG.block _ (by omega) (by simp)).trans h0) (by omega) _,kah k1 (by omega) _⟩,(show Boxed X2 _ _ _ from k2).set _⟩,hB.trans kp.1⟩
  | cons g pre=>
   have hJ:(kde ((g::pre).map (·.1))).ok=true:=joinAll_ok (by simp) (fun x hx=>by obtain⟨y,_,rfl⟩:=List.mem_map.1 hx;exact y.2)
   have e5:X.cell? ⟨w.heap.size+1+1,0,none⟩=some (.bool false):=by simp[World.cell?,h2]
   have eJ:Hid (kde ((g::pre++[(⟨⟨f1,f2,f3,f4,f5,f6,f7,f8,f9⟩,hf⟩:FOk)]).map (·.1))=joinF (kde ((g::pre).map (·.1))) ⟨f1,f2,f3,f4,f5,f6,f7,f8,f9⟩):=by
    show _=_
    rw[List.map_append]
    exact joinAll_app (by simp) _
   have H:=Lib.hid (And.intro h0 (And.intro h1 (And.intro h2 hB)));generalize kde ((g::pre).map (·.1))=G at h1 hJ eJ H
   have K:=Lib.hid (fun W=>join_237 G ⟨f1,f2,f3,f4,f5,f6,f7,f8,f9⟩ hJ hf W)
   generalize joinF G ⟨f1,f2,f3,f4,f5,f6,f7,f8,f9⟩=JF at K eJ;obtain⟨j1,j2,j3,j4,j5,j6,j7,j8,j9⟩:=JF;obtain⟨g1,g2,g3,g4,g5,g6,g7,g8,g9⟩:=G;simp only[FlowT.vals]at h1 K;obtain⟨d0,d1,d2,d3,d4,d5,d6,d7,d8⟩:=kbi h1
   have e0:X.cell? ⟨w.heap.size,0,none⟩=some (.func (.func 237) #[] #[]):=by simp[World.cell?,h0]
   have y1:=(qaz h1).1;have y0:=(qaz h0).1;clear h0 h1 h2 hB
   gi_wp2_with first
    | (refine⟨trivial,?_⟩;gi_at_call 237;refine(CallsIn.inRound _ (callsIn_wide.2 (K.out _))).mono ?_;rintro e X2 ⟨rfl,hx2⟩
       have k1:=kaf hx2 H.out.2.1;have HX:=Lib.hid hx2
       have y5:w.heap.size+1<X2.heap.size:=(qaz k1).1
       have HK1:=Lib.hid k1
       clear k1 hx2)
    | (refine kfd rfl 30 _ _ rfl (w.heap.size+1) #[.int .i64 j1,.int .i64 j2,.int .i64 j3,.int .i64 j4,.int .i64 j5,.int .i64 j6,.int .i64 j7,.int .i64 j8,.int .i64 j9] rfl rfl 30 _ HK1.out info30 rfl (by kernel_rfl) ?_)
   obtain⟨h0,h1,h2,hB⟩:=H.out;have hx2:=HX.out;have hz2:=hx2.len;have hG:=kfr X2 (w.heap.size+1) #[.int .i64 j1,.int .i64 j2,.int .i64 j3,.int .i64 j4,.int .i64 j5,.int .i64 j6,.int .i64 j7,.int .i64 j8,.int .i64 j9];have k1:=setRow_heap X2 (w.heap.size+1) _ #[.int .i64 j1,.int .i64 j2,.int .i64 j3,.int .i64 j4,.int .i64 j5,.int .i64 j6,.int .i64 j7,.int .i64 j8,.int .i64 j9] 30 (0,0) HK1.out
   have kp:=(Ext.kp2 (n₀:=w.heap.size) (m:=W0.heap.size) hx2 hz).t (Kp2.row hG (by omega) (by omega) (by omega))
   refine⟨(hx2.ko.from _).trans (kf_row hG (by omega)),kp,⟨⟨(hG.block _ (by omega) (by simp)).trans (kaf hx2 h0),?_⟩,?_⟩,hB.trans kp.1⟩
   ·rw[eJ.out];exact k1
   ·exact(hG.block _ (by omega) (by simp)).trans (kaf hx2 h2)
 case done=>
  rintro D ys X hD hS ⟨⟨⟨h0,h1⟩,h2⟩,hB⟩ hKD;subst hA1;rw[hS]at h1;have h1':=Lib.hid h1;generalize hF:kde fs=F at *;obtain⟨f1,f2,f3,f4,f5,f6,f7,f8,f9⟩:=F;have HF:=Lib.hid hF;clear hF;simp only[FlowT.vals]at h1 h1';obtain⟨c0,c1,c2,c3,c4,c5,c6,c7,c8⟩:=kbi h1;have y1:=(qaz h1).1;clear h1
  go_wp2_with (refine wpList_store_row rfl 30 _ _ rfl (w.heap.size+1) #[.int .i64 f1,.int .i64 f2,.int .i64 f3,.int .i64 f4,.int .i64 f5,.int .i64 f6,.int .i64 f7,.int .i64 f8,.int .i64 f9] rfl rfl 30 _ h1'.out info30 rfl (by kernel_rfl) ?_)
  have hG:=kfr X (w.heap.size+1) #[.int .i64 f1,.int .i64 f2,.int .i64 f3,.int .i64 f4,.int .i64 f5,.int .i64 f6,.int .i64 f7,.int .i64 f8,.int .i64 f9];have k1:=setRow_heap X (w.heap.size+1) _ #[.int .i64 f1,.int .i64 f2,.int .i64 f3,.int .i64 f4,.int .i64 f5,.int .i64 f6,.int .i64 f7,.int .i64 f8,.int .i64 f9] 30 (0,0) h1'.out;generalize X.setRow (w.heap.size+1) #[.int .i64 f1,.int .i64 f2,.int .i64 f3,.int .i64 f4,.int .i64 f5,.int .i64 f6,.int .i64 f7,.int .i64 f8,.int .i64 f9]=X2 at hG k1 ⊢
  have hD2:X2.heap[D]?=some (.deferred (some [])):=(hG.block D (qaz hKD).1 (by intro e;cases e;omega)).trans hKD
  have k3:(X2.putObj D (.deferred none)).heap[w.heap.size+1]?=some (.cells #[.int .i64 f1,.int .i64 f2,.int .i64 f3,.int .i64 f4,.int .i64 f5,.int .i64 f6,.int .i64 f7,.int .i64 f8,.int .i64 f9] 30):=(World.putObj_heap_other (by omega)).trans k1
  have hcs:∀j,(X2.putObj D (.deferred none)).cell? ⟨w.heap.size+1,j,none⟩=(#[.int .i64 f1,.int .i64 f2,.int .i64 f3,.int .i64 f4,.int .i64 f5,.int .i64 f6,.int .i64 f7,.int .i64 f8,.int .i64 f9]:Array Value)[j]?:=fun j=>by simp[World.cell?,k3]
  refine⟨by simp,.inl ⟨_,_,rfl,run_takeDeferred hD2,?_⟩⟩
  refine⟨_,by simp[results,Tryz.f235,go_sem,hcs];rfl,?_,?_⟩
  ·rw[HF.out];rfl
  ·have hb1:Below w.heap.size X X2:=(Below.refl w.heap.size X).grown hG hB.size (fun k e=>by cases e;omega)
   exact Below.trans hB (hb1.trans (belowK_b (w:=w) (Nat.le_refl _) _ D _ _ (by omega) hD2 rfl rfl))
 case stop=>
  rintro D k pre X _ _ h _
  exact h.elim
section
variable {α : Type}
def rowB (f:Int→Int→α)(y x0:Int)(j:Nat):List α:=(List.range j).map fun k:Nat=>f (x0+k) y
def recB (f:Int→Int→α)(y0 x0:Int)(nx i:Nat):List α:=(List.range i).flatMap fun k:Nat=>rowB f (y0+k) x0 nx
theorem rowB_succ (f:Int→Int→α)(y x0:Int)(j:Nat):rowB f y x0 (j+1)=rowB f y x0 j++[f (x0+j) y]:=by simp[rowB,List.range_succ]
theorem recB_succ (f:Int→Int→α)(y0 x0:Int)(nx i:Nat):recB f y0 x0 nx (i+1)=recB f y0 x0 nx i++rowB f (y0+i) x0 nx:=by simp[recB,List.range_succ]
theorem rowB_len (f:Int→Int→α)(y x0:Int)(j:Nat):(rowB f y x0 j).length=j:=by simp[rowB]
theorem recB_len (f:Int→Int→α)(y0 x0:Int)(nx:Nat):∀i,(recB f y0 x0 nx i).length=i*nx
 | 0=>by simp[recB]
 | i+1=>by rw[recB_succ,List.length_append,recB_len f y0 x0 nx i,rowB_len,Nat.succ_mul]
theorem recB_map {β : Type}(f:Int→Int→α)(h:α→β)(y0 x0:Int)(nx i:Nat):(recB f y0 x0 nx i).map h=recB (fun x y=>h (f x y)) y0 x0 nx i:=by
 simp[recB,rowB,List.map_flatMap,Function.comp_def]
end
theorem ofF_ok {t:TideT}(h:kbk t=true)(x y s:Int):(ofF t x y s).ok=true:=by
 simp only[kbk,qba]at h;obtain⟨⟨⟨_,hr⟩,_⟩,hf⟩:=h
 have key:∀f:FlowT,f.ok=true→(⟨0,0,0,f.ulo,f.uhi,f.vlo,f.vhi,f.hlo,f.hhi⟩:FlowT).ok=true:=fun f hf=>hf
 unfold ofF
 simp only
 split
 ·rename_i hb
  obtain⟨f,hff⟩:=bsHit_some hb;rw[hff]
  refine key f ?_
  have hj:=(List.getElem?_eq_some_iff.1 hff).1
  have:=List.all_eq_true.1 hf _ (List.mem_range.2 hj)
  unfold kay at this;rw[hff]at this;simp only[qba]at this
  exact this.1.2
 ·exact key _ hr
def ofO (t:TideT)(h:kbk t=true)(slot x y:Int):FOk:=⟨ofF t x y slot,ofF_ok h x y slot⟩
theorem heap_cset {W:World}{B i:Nat}{xs:Array Value}{t:TypeId}(h:W.heap[B]?=some (.cells xs t))(v:Value):(W.setCell ⟨B,i,none⟩ v).heap[B]?=some (.cells (xs.setIfInBounds i v) t):=by
 obtain⟨hlt,hk⟩:=qaz h
 show (W.heap.modify B _)[B]?=_
 rw[Array.getElem?_eq_getElem (by rw[Array.size_modify];exact hlt),Array.getElem_modify_self,hk]
 rfl
theorem kcd {W:World}{B:Nat}{x y:Value}{t:TypeId}(h:W.heap[B]?=some (.cells #[x,y] t))(u v:Value):((W.setCell ⟨B,0,none⟩ u).setCell ⟨B,1,none⟩ v).heap[B]?=some (.cells #[u,v] t):=heap_cset (heap_cset h u) v
theorem info33:(Tryz.prog.info? 33).map (·.size)=some 13:=by kernel_rfl
theorem blocks_236 (t:TideT)(a b:Pt)(slot:Int)(w:World) :
  Calls Tryz.prog 236 #[.agg t.vals.toArray,.agg #[.int .i64 a.1,.int .i64 a.2],.agg #[.int .i64 b.1,.int .i64 b.2],.int .i64 slot] w fun e w'=>
   e=.returned (.func (.func 321) #[] #[.pointer (some ⟨w.heap.size+1,0,none⟩),.pointer (some ⟨w.heap.size+1+1,0,none⟩),.pointer (some ⟨w.heap.size,0,none⟩),.pointer (some ⟨w.heap.size+1+1+1,0,none⟩)]) ∧
   w'=(((w.alloc (.cells t.vals.toArray 33)).alloc (.cells #[.int .i64 a.1,.int .i64 a.2] 43)).alloc (.cells #[.int .i64 b.1,.int .i64 b.2] 43)).alloc (.cells #[.int .i64 slot] 3):=by
 obtain⟨version,start,slots,⟨r1,r2,r3,r4,r5,r6,r7,r8,r9⟩,A,c,flows⟩:=t;simp only[TideT.vals,FlowT.vals,List.cons_append,List.nil_append]
 go_enter Tryz.func236,Tryz.ntmps236
 go_wp2
 go_ret
 exact⟨rfl,rfl⟩
theorem blocks1_321 (n l0 n₀ m Ba Bb Bt Bs:Nat)(tv:Array Value)(a b:Pt)(slot:Int)(f:Int→Int→FOk)(hn:1≤n)(ha:plB a=true)(hb:plB b=true)(h1:a.1≤b.1)(h2:a.2≤b.2)(hl:tv.size=13)
  (nx ny:Nat) (enx:nx=(b.1 / 10000+1-a.1 / 10000).toNat) (eny:ny=(b.2 / 10000+1-a.2 / 10000).toNat)
  (J Jx:List FOk→World→Prop)
  (hY:∀pre x W,J pre W→pre.length<ny*nx→YieldAt Fence.wide (n-1) Tryz.prog l0 (flowE x) W fun e W'=>
   (e=.returned (.bool true)∧J (pre++[x]) W'∧Kp2 n₀ m W W')∨(e=.returned (.bool false)∧Jx (pre++[x]) W'))
  (W:World) (hJa:AbidesFrom W.heap.size J) (hm:m≤W.heap.size) (hnm:n₀≤m)
  (hC:∀W',Below n₀ W W'→(W'.heap[Ba]?=some (.cells #[.int .i64 a.1,.int .i64 a.2] 43)∧W'.heap[Bb]?=some (.cells #[.int .i64 b.1,.int .i64 b.2] 43)∧W'.heap[Bt]?=some (.cells tv 33)∧W'.heap[Bs]?=some (.cells #[.int .i64 slot] 3)) ∧
   ∀x y,Calls Tryz.prog 175 #[.agg tv,.int .i64 x,.int .i64 y,.int .i64 slot] W' fun e W2=>e=.returned (.agg (f x y).1.vals.toArray)∧Ext W' W2)
  (h0:J [] W) :
  CallsIn Fence.wide n Tryz.prog 321 #[.func (.yield l0) #[] #[],.pointer (some ⟨Ba,0,none⟩),.pointer (some ⟨Bb,0,none⟩),.pointer (some ⟨Bt,0,none⟩),.pointer (some ⟨Bs,0,none⟩)] W fun e W'=>(∃v,e=.returned v) ∧
   ((∃ys,ys=recB f (a.2 / 10000) (a.1 / 10000) nx ny∧J ys W')∨(∃pre,Jx pre W')):=by
 obtain⟨p1,p2,p3,p4⟩:=knc ha;obtain⟨p5,p6,p7,p8⟩:=knc hb
 have KA:Hid (∀x y (_:Hid (-500000≤x∧x≤500000∧-500000≤y∧y≤500000)) W,Calls Tryz.prog 174 #[.agg #[.int .i64 x,.int .i64 y]] W fun e w'=>e=.returned (.agg #[.int .i64 (x / 10000),.int .i64 (y / 10000)])∧Ext W w'):=fun x y h W=>by
  have h':=h.out
  exact block_174 x y (by omega) (by omega) (by omega) (by omega) W
 have iA:Hid (-500000≤a.1∧a.1≤500000∧-500000≤a.2∧a.2≤500000):=⟨p1,p2,p3,p4⟩
 have iB:Hid (-500000≤b.1∧b.1≤500000∧-500000≤b.2∧b.2≤500000):=⟨p5,p6,p7,p8⟩
 have HC:=Lib.hid hC;have HY:=Lib.hid hY;have HA:=Lib.hid hJa;clear hC hY hJa ha hb;obtain⟨a1,a2⟩:=a;obtain⟨b1,b2⟩:=b
 simp only at *
 have e1:-50≤a1 / 10000∧a1 / 10000≤b1 / 10000∧b1 / 10000≤50:=by omega
 have e2:-50≤a2 / 10000∧a2 / 10000≤b2 / 10000∧b2 / 10000≤50:=by omega
 have hnx:a1 / 10000+nx=b1 / 10000+1:=by omega
 have hny:a2 / 10000+ny=b2 / 10000+1:=by omega
 clear enx eny h1 h2 p1 p2 p3 p4 p5 p6 p7 p8
 refine callsIn_of_wp Tryz.func321 rfl trivial ?_ rfl
 simp only[Tryz.ntmps321,List.size_toArray,List.length_cons,List.length_nil,Nat.reduceAdd,Nat.reduceSub,Array.replicate_succ,Array.replicate_zero,List.push_toArray,List.append_toArray,List.nil_append,List.cons_append];obtain⟨⟨k1,k2,k3,k4⟩,k5⟩:=HC.out W (Below.refl _ _);obtain⟨c0,c1,_,_⟩:=kae k1;obtain⟨d0,d1,_,_⟩:=kae k2;have s1:=(qaz k1).1;have s2:=(qaz k2).1;clear k1 k2 k3 k4 k5
 gi_wp2_with fail
 refine wpIn_wide.2 ?_
 refine wp_region_mix (aF:=?aF) 6 [(4,6,.cells #[.int .i64 0,.int .i64 0] 43),(5,7,.cells #[.int .i64 0,.int .i64 0] 43)] ?h1 ?h2 ?h3 ?h4 ?h5 ?run ?h6 ?h7 ?walk ?rest
 case h1=>kernel_rfl
 case h2=>kernel_rfl
 case h3=>kernel_rfl
 case h4=>decide
 case h5=>decide
 case h6=>kernel_rfl
 case h7=>decide +kernel
 case run=>
  intro x hx o ho _ a W;simp only[List.mem_cons,List.not_mem_nil,or_false]at hx
  rcases hx with rfl|rfl
  all_goals
   cases ho
   simp[go_sem,ptrB]
 case walk=>
  intro W1 hW1;obtain⟨hc9,hf9,hz9⟩:=hW1.rules
  have z1:Ba<W1.heap.size:=by omega
  have z2:Bb<W1.heap.size:=by omega
  simp only[List.take_succ_cons,List.take_zero,List.filter_cons,isAl,Bool.not_false,Bool.not_true,if_true,Bool.false_eq_true,if_false,List.filter_nil]
  repeat (first|go_big_quiet_step ((go_at_call 174;exact Xt.calls (KA.out _ _ (by assumption) _)))|quiet_step ((go_at_call 174;exact Xt.calls (KA.out _ _ (by assumption) _))))
  refine wpQuiet_nil ?_
  rfl
 case rest=>
  intro bb W1 hW1 hbb hne
  obtain⟨g7,v7⟩:=hbb (4,6,.cells #[.int .i64 0,.int .i64 0] 43) (by simp)
  obtain⟨g8,v8⟩:=hbb (5,7,.cells #[.int .i64 0,.int .i64 0] 43) (by simp)
  have n1:bb 4≠bb 5:=hne (4,6,.cells #[.int .i64 0,.int .i64 0] 43) (by simp) (5,7,.cells #[.int .i64 0,.int .i64 0] 43) (by simp) (by decide)
  simp only[List.foldl_cons,List.foldl_nil,ptrB,List.drop_succ_cons,List.drop_zero]at g7 v7 g8 v8 ⊢;generalize bb 4=p7 at *;generalize bb 5=p8 at *;clear hbb hne;generalize hu1:a1 / 10000=u1 at *;generalize hu2:a2 / 10000=u2 at *;have HU:=Lib.hid (And.intro hu1 hu2);clear hu1 hu2;generalize b1 / 10000=v1 at *;generalize b2 / 10000=v2 at *;have i7:=(qaz v7).1;have i8:=(qaz v8).1;obtain⟨r70,r71,f70,f71⟩:=kae v7;obtain⟨r80,r81,f80,f81⟩:=kae v8;have HV:=Lib.hid (And.intro v7 v8);have HW1:=Lib.hid hW1;clear v7 v8 hW1 c0 c1 d0 d1 s1 s2
  go_wp2_with fail
  refine kbd (G:=fun W=>Code.wpIn _ _ _ _ _ _ W) (fun V=>Below W.heap.size W V∧V.heap[p7]?=some (.cells #[.int .i64 u1,.int .i64 u2] 43)∧V.heap[p8]?=some (.cells #[.int .i64 v1,.int .i64 v2] 43)) ?go ?facts
  case facts=>
   refine⟨?_,?_,?_⟩
   ·exact(((HW1.out.setCell (by simp only;omega) _).setCell (by simp only;omega) _).setCell (by simp only;omega) _).setCell (by simp only;omega) _
   ·exact kah (kah (kcd HV.out.1 _ _) n1 _) n1 _
   ·exact kcd (kah (kah HV.out.2 (Ne.symm n1) _) (Ne.symm n1) _) _ _
  rintro V ⟨hV,w7,w8⟩
  have hKV:Kp2 n₀ m W V:=Ext.kp2 hV (by omega)
  have CB:Hid (∀U,Kp2 n₀ m V U→U.cell? ⟨p7,0,none⟩=some (.int .i64 u1)∧U.cell? ⟨p7,1,none⟩=some (.int .i64 u2)∧U.cell? ⟨p8,0,none⟩=some (.int .i64 v1)∧U.cell? ⟨p8,1,none⟩=some (.int .i64 v2)):=fun U h=>
   ⟨h.c0 (by omega) w7 rfl,h.c0 (by omega) w7 rfl,h.c0 (by omega) w8 rfl,h.c0 (by omega) w8 rfl⟩
  have y7:=(qaz w7).1;have y8:=(qaz w8).1
  have hJV:J [] V:=HA.out _ _ _ none h0 (show Ext W V from hV).gb (fun r e=>by cases e)
  have hzV:=(show Ext W V from hV).len
  clear w7 w8 HV HW1 r70 r71 f70 f71 r80 r81 f80 f81 KA iA iB i7 i8 g7 g8 n1 h0;clear W1;obtain⟨q0,q1,q2,q3⟩:=CB.out V (Kp2.refl _ _ _)
  gi_wp2_with fail
  clear q0 q1 q2 q3
  gi_loopw [8,9] (fun s8 _ wr=>∃i:Nat,i≤ny∧s8=.int .i64 (u2+i)∧J (recB f u2 u1 nx i) wr∧Kp2 n₀ m V wr∧V.heap.size≤wr.heap.size)
   (fun s8 _ _=>(u2+ny-intOf s8).toNat)
  case atStart=>exact⟨0,Nat.zero_le _,by simp,by simpa[recB]using hJV,Kp2.refl _ _ _,Nat.le_refl _⟩
  case round=>
   obtain⟨i,hi,rfl,hJ,hK,hz⟩:=hrel;obtain⟨q0,q1,q2,q3⟩:=CB.out wr hK
   have y7':p7<wr.heap.size:=by omega
   have y8':p8<wr.heap.size:=by omega
   by_cases hin:i<ny
   ·have hiy:u2+(i:Int)≤v2:=by omega
    gi_wp2_with fail
    clear q0 q1 q2 q3
    gi_loopw [9] (fun s9 wq=>∃j:Nat,j≤nx∧s9=.int .i64 (u1+j)∧J (recB f u2 u1 nx i++rowB f (u2+i) u1 j) wq∧Kp2 n₀ m V wq∧V.heap.size≤wq.heap.size)
     (fun s9 _=>(u1+nx-intOf s9).toNat)
    case atStart=>exact⟨0,Nat.zero_le _,by simp,by simpa[rowB]using hJ,hK,hz⟩
    case round=>
     obtain⟨j,hj,rfl,hJ3,hK3,hz3⟩:=hrel;obtain⟨q0,q1,q2,q3⟩:=CB.out _ hK3
     have y7':p7<wr.heap.size:=by omega
     have y8':p8<wr.heap.size:=by omega
     by_cases hjn:j<nx
     ·have hjx:u1+(j:Int)≤v1:=by omega
      obtain⟨⟨k1,k2,k3,k4⟩,k5⟩:=HC.out _ (hKV.t hK3).1;have K175:=Lib.hid (k5 (u1+j) (u2+i))
      have ks:wr.cell? ⟨Bs,0,none⟩=some (.int .i64 slot):=by simp[World.cell?,k4]
      have k3':=Lib.hid k3
      have hlen:Hid ((recB f u2 u1 nx i++rowB f (u2+i) u1 j).length<ny*nx):=by
       show _<_
       rw[List.length_append,recB_len,rowB_len]
       have:(i+1)*nx≤ny*nx:=Nat.mul_le_mul_right _ hin
       rw[Nat.succ_mul]at this
       omega
      have HI:Hid (33=33→(Tryz.prog.info? 33).map (·.size)=some tv.size):=fun _=>by rw[info33,hl]
      clear k1 k2 k3 k4 k5
      gi_wp2_with first
       | (refine kft rfl 33 _ rfl Bt rfl 33 tv (0,0) _ k3'.out Tryz.underlying33 rfl (HI.out rfl) ?_)
       | (refine⟨trivial,?_⟩;gi_at_call 175;refine(callsIn_wide.2 K175.out).mono ?_;rintro e w2 ⟨rfl,hx2⟩
          have hJ4:=HA.out _ _ _ none hJ3 hx2.gb (fun r e=>by cases e)
          have hK4:=hK3.ext (by omega) hx2
          have hz4:V.heap.size≤w2.heap.size:=by have:=hx2.len;omega
          obtain⟨fn,tmps,assign,body,hyy,hR⟩:=HY.out _ (f (u1+j) (u2+i)) _ hJ4 hlen.out;simp only[flowE]at hyy;rw[List.append_assoc,←rowB_succ]at hR
          clear hJ3 hK3 hz3 hx2 hJ4)
      refine hR.mono ?_
      rintro e W3 (⟨rfl,hJ5,hk5⟩|⟨rfl,hJx5⟩)
      ·have hs5:=hk5.1.size
       gi_wp2
       go_roundw
       case rel=>exact⟨j+1,by omega,by simp;omega,hJ5,hK4.t hk5,by omega⟩
       case measure=>simp[intOf];omega
      ·gi_wp2
       refine bodyPost_ret (results_none rfl _ _ _) rfl ?_
       exact⟨⟨_,rfl⟩,.inr ⟨_,hJx5⟩⟩
     ·obtain rfl:j=nx:=by omega
      have hjx:¬ u1+(j:Int)≤v1:=by omega
      gi_wp2
      go_roundw
      case rel=>exact⟨i+1,by omega,by simp;omega,by rw[recB_succ];exact hJ3,hK3,hz3⟩
      case measure=>simp[intOf];omega
   ·obtain rfl:i=ny:=by omega
    have hiy:¬ u2+(i:Int)≤v2:=by omega
    gi_wp2
    go_end0
    exact⟨⟨_,rfl⟩,.inl (by rw[HU.out.1,HU.out.2];exact hJ)⟩
def blkL (t:TideT)(a b:Pt)(slot:Int):List FlowT:=recB (fun x y=>ofF t x y slot) (a.2 / 10000) (a.1 / 10000) (b.1 / 10000+1-a.1 / 10000).toNat (b.2 / 10000+1-a.2 / 10000).toNat
theorem blocks_stops (n n₀ m Ba Bb Bt Bs:Nat)(t:TideT)(a b:Pt)(slot:Int)(hn:1≤n)(hok:kbk t=true)(ha:plB a=true)(hb:plB b=true)(h1:a.1≤b.1)(h2:a.2≤b.2)
  (w0:World) (hS:Sl FlowT.vals 9 w0 t.A t.flows) (hw0:w0.heap.size≤n₀) (W:World) (hW0:Ext w0 W) (hm:m≤W.heap.size) (hnm:n₀≤m)
  (l1:Ba<n₀) (l2:Bb<n₀) (l3:Bt<n₀) (l4:Bs<n₀)
  (k1:W.heap[Ba]?=some (.cells #[.int .i64 a.1,.int .i64 a.2] 43)) (k2:W.heap[Bb]?=some (.cells #[.int .i64 b.1,.int .i64 b.2] 43)) (k3:W.heap[Bt]?=some (.cells t.vals.toArray 33)) (k4:W.heap[Bs]?=some (.cells #[.int .i64 slot] 3)) :
  SeqStopsK Fence.wide n Tryz.prog 321 #[.pointer (some ⟨Ba,0,none⟩),.pointer (some ⟨Bb,0,none⟩),.pointer (some ⟨Bt,0,none⟩),.pointer (some ⟨Bs,0,none⟩)] flowE (Kp2 n₀ m) (fun ys=>ys.map (·.1)=blkL t a b slot) (fun _=>True)
   ((b.2 / 10000+1-a.2 / 10000).toNat*(b.1 / 10000+1-a.1 / 10000).toNat) W:=fun l J Jx W1 hW hJ hJx hY h0=>by
 have hfl:t.flows.length≤1000000:=by
  simp only[kbk,qba,decide_eq_true_eq]at hok
  omega
 have hn0W:n₀≤W.heap.size:=by omega
 have hW':Below n₀ W W1:=Below.mono hW hn0W
 have:=blocks1_321 n l n₀ m Ba Bb Bt Bs t.vals.toArray a b slot (ofO t hok slot) hn ha hb h1 h2 rfl _ _ rfl rfl J Jx hY W1 hJ (Nat.le_trans hm hW.size) hnm
  (fun W2 h=>by
   have h3:Below n₀ W W2:=hW'.trans h
   refine⟨⟨(h3.block _ l1).trans k1,(h3.block _ l2).trans k2,(h3.block _ l3).trans k3,(h3.block _ l4).trans k4⟩,fun x y=>?_⟩
   exact of_175 t x y slot W2 hfl (hS.ext (Below.trans (B:=w0.heap.size) hW0 (h3.mono hw0))))
  h0
 refine this.mono ?_
 rintro e W' ⟨he,h⟩
 refine⟨he,h.imp (fun ⟨ys,h1,h2⟩=>⟨ys,?_,h2⟩) (fun ⟨pre,h⟩=>⟨pre,trivial,h⟩)⟩
 rw[h1]
 exact recB_map (ofO t hok slot) (fun x=>x.1) _ _ _ _
theorem joinedBlocks (t:TideT)(a b:Pt)(slot:Int)(hok:kbk t=true)(ha:plB a=true)(hb:plB b=true)(h1:a.1≤b.1)(h2:a.2≤b.2)
  (w0:World) (hS:Sl FlowT.vals 9 w0 t.A t.flows) (W:World) (hW0:Ext w0 W) (Ba Bb Bt Bs:Nat)
  (k1:W.heap[Ba]?=some (.cells #[.int .i64 a.1,.int .i64 a.2] 43)) (k2:W.heap[Bb]?=some (.cells #[.int .i64 b.1,.int .i64 b.2] 43)) (k3:W.heap[Bt]?=some (.cells t.vals.toArray 33)) (k4:W.heap[Bs]?=some (.cells #[.int .i64 slot] 3)) :
  Calls Tryz.prog 235 #[.func (.func 321) #[] #[.pointer (some ⟨Ba,0,none⟩),.pointer (some ⟨Bb,0,none⟩),.pointer (some ⟨Bt,0,none⟩),.pointer (some ⟨Bs,0,none⟩)],.func (.func 237) #[] #[]] W fun e w'=>
   e=.returned (.agg (kde (blkL t a b slot)).vals.toArray)∧Ext W w':=
 joined_235 321 _ (blkL t a b slot) _ W (enters_of Tryz.func321 (by kernel_rfl) rfl) fun W0 hX hz=>
  blocks_stops 8 W.heap.size W0.heap.size Ba Bb Bt Bs t a b slot (by omega) hok ha hb h1 h2 w0 hS hW0.len W0 (hW0.trans hX) (Nat.le_refl _) (by omega)
   (qaz k1).1 (qaz k2).1 (qaz k3).1 (qaz k4).1 (kaf hX k1) (kaf hX k2) (kaf hX k3) (kaf hX k4)
end Go.Proofs.YtcgghcicnanliaaGreatDoor
namespace Go
section
variable {P:Program} {ops:Array Oper}
theorem kmc {k:Nat}{o:Oper}{f:FuncId}{x:Operand}{lb:Array Value}{xs:Array Operand}{ts:Array TypeId}{K:Act→World→Prop}{a:Act}{w:World}(hi:ops[k]?=some o)(hg:o.guard=none)
  (ho:o.op=.call { callee:=.value x,args:=xs,argTypes:=ts }) (hx:a.eval x=.func (.func f) #[] lb) (eg:∀args w,(callFunc f args).run P w=.ok (.enter f args) w)
  (h:Calls P f (xs.map a.eval++lb) w fun e w''=>∃v,e=.returned v∧K (a.put o.dst v) w''):yOp P ops k K a w:=by
 have hw:Region.wanted o (yielded ops a.tmps)=true:=by simp[Region.wanted,hg]
 unfold yOp;simp only[hi,hw,if_true]
 have:(execOp a.eval o).run P w=.ok (.enter f (xs.map a.eval++lb)) w:=by
  simp[execOp,ho,resolve,invoke,hx,Deferred.ofValue,Result.andThen,eg]
 rw[this]
 exact h
end
end Go
namespace Go.Proofs.YtcgghcicnanliaaGreatDoor
open Go.RowKit Go.Lib
set_option maxHeartbeats 8000000
set_option maxRecDepth 100000
attribute [local go_sem] Oper.semAt_some
def klk (x slots:Int):Int:=max (-1) (min x slots)
theorem clamp_233 (x slots:Int)(Bt:Nat)(W:World)(c:W.cell? ⟨Bt,2,none⟩=some (.int .i64 slots))(z:Bt<W.heap.size) :
  Calls Tryz.prog 233 #[.int .i64 x,.pointer (some ⟨Bt,0,none⟩)] W fun e w'=>e=.returned (.int .i64 (klk x slots))∧Ext W w':=by
 go_enter Tryz.func233,Tryz.ntmps233
 go_wp2
 go_ret
 exact⟨rfl,Ext.refl _⟩
theorem clampI_bd (x slots:Int)(h:slots≤1000):-1≤klk x slots∧klk x slots≤1000:=by unfold klk;omega
theorem eg_176:∀args w,(callFunc 176 args).run Tryz.prog w=.ok (.enter 176 args) w:=enters_of Tryz.func176 (by kernel_rfl) rfl
theorem eg_233:∀args w,(callFunc 233 args).run Tryz.prog w=.ok (.enter 233 args) w:=enters_of Tryz.func233 (by kernel_rfl) rfl
theorem slots1_234 (n l0 n₀ m Bc Bf Bt Bu Ba Bb:Nat)(tv:Array Value)(start slots τ : Int)(a b:Pt)(g:FOk)(hn:1≤n)(hl:tv.size=13)(ht1:tv[1]?=some (.int .i64 start))(ht2:tv[2]?=some (.int .i64 slots))(hs:slots≤1000)(h1:0≤start∧start≤1000000000)(h2:0≤τ∧τ≤1000000000)
  (J Jx:List FOk→World→Prop)
  (hY:∀pre x W,J pre W→pre.length<1→YieldAt Fence.wide (n-1) Tryz.prog l0 (flowE x) W fun e W'=>
   (e=.returned (.bool true)∧J (pre++[x]) W'∧Kp2 n₀ m W W')∨(e=.returned (.bool false)∧Jx (pre++[x]) W'))
  (W:World) (hJa:AbidesFrom W.heap.size J) (hm:m≤W.heap.size) (hnm:n₀≤m)
  (hC:∀W',Below n₀ W W'→(W'.heap[Bc]?=some (.cells #[.func (.func 233) #[] #[.pointer (some ⟨Bt,0,none⟩)]] 235)∧W'.heap[Bf]?=some (.cells #[.int .i64 τ] 3)∧W'.heap[Bt]?=some (.cells tv 33)∧W'.heap[Bu]?=some (.cells #[.int .i64 τ] 3) ∧
    W'.heap[Ba]?=some (.cells #[.int .i64 a.1,.int .i64 a.2] 43)∧W'.heap[Bb]?=some (.cells #[.int .i64 b.1,.int .i64 b.2] 43)) ∧
   ∀W2 B1 B2 B3 B4,Ext W' W2→W2.heap[B1]?=some (.cells #[.int .i64 a.1,.int .i64 a.2] 43)→W2.heap[B2]?=some (.cells #[.int .i64 b.1,.int .i64 b.2] 43)→W2.heap[B3]?=some (.cells tv 33)→W2.heap[B4]?=some (.cells #[.int .i64 (klk ((τ - start) / 3600) slots)] 3) →
    Calls Tryz.prog 235 #[.func (.func 321) #[] #[.pointer (some ⟨B1,0,none⟩),.pointer (some ⟨B2,0,none⟩),.pointer (some ⟨B3,0,none⟩),.pointer (some ⟨B4,0,none⟩)],.func (.func 237) #[] #[]] W2 fun e w'=>e=.returned (.agg g.1.vals.toArray)∧Ext W2 w')
  (K236:∀(s:Int) W,Calls Tryz.prog 236 #[.agg tv,.agg #[.int .i64 a.1,.int .i64 a.2],.agg #[.int .i64 b.1,.int .i64 b.2],.int .i64 s] W fun e w'=>
   e=.returned (.func (.func 321) #[] #[.pointer (some ⟨W.heap.size+1,0,none⟩),.pointer (some ⟨W.heap.size+1+1,0,none⟩),.pointer (some ⟨W.heap.size,0,none⟩),.pointer (some ⟨W.heap.size+1+1+1,0,none⟩)]) ∧
   w'=(((W.alloc (.cells tv 33)).alloc (.cells #[.int .i64 a.1,.int .i64 a.2] 43)).alloc (.cells #[.int .i64 b.1,.int .i64 b.2] 43)).alloc (.cells #[.int .i64 s] 3))
  (h0:J [] W) :
  CallsIn Fence.wide n Tryz.prog 234 #[.func (.yield l0) #[] #[],.pointer (some ⟨Bc,0,none⟩),.pointer (some ⟨Bf,0,none⟩),.pointer (some ⟨Bt,0,none⟩),.pointer (some ⟨Bu,0,none⟩),.pointer (some ⟨Ba,0,none⟩),.pointer (some ⟨Bb,0,none⟩)] W fun e W'=>(∃v,e=.returned v) ∧
   (J [g] W'∨(∃pre,Jx pre W')):=by
 have HC:=Lib.hid hC;have HY:=Lib.hid hY;have HA:=Lib.hid hJa;have HK:=Lib.hid K236
 have hw:Wide (τ - start) 3600:=⟨by omega,by omega,by omega,by omega⟩
 have K176:=Lib.hid (down_176 (τ - start) 3600 hw)
 have hsub:Hid (IntKind.i64.wrap (τ - start)=τ - start):=by show _=_;rw[IntKind.wrap_i64];(try unfold wrap64);omega
 clear hC hY hJa K236 hw;have hcb:=clampI_bd ((τ - start) / 3600) slots hs
 have CC:Hid (∀U V,Below n₀ W U→Ext U V→(V.cell? ⟨Bc,0,none⟩=some (.func (.func 233) #[] #[.pointer (some ⟨Bt,0,none⟩)])∧V.cell? ⟨Bf,0,none⟩=some (.int .i64 τ)∧V.cell? ⟨Bt,1,none⟩=some (.int .i64 start)∧V.cell? ⟨Bt,2,none⟩=some (.int .i64 slots)∧V.cell? ⟨Bu,0,none⟩=some (.int .i64 τ)) ∧
   (Bc<V.heap.size∧Bf<V.heap.size∧Bt<V.heap.size∧Bu<V.heap.size)∧∀x,Calls Tryz.prog 233 #[.int .i64 x,.pointer (some ⟨Bt,0,none⟩)] V fun e w'=>e=.returned (.int .i64 (klk x slots))∧Ext V w'):=fun U V h hx=>by
  obtain⟨⟨k1,k2,k3,k4,_,_⟩,_⟩:=HC.out U h;replace k1:=kaf hx k1;replace k2:=kaf hx k2;replace k3:=kaf hx k3;replace k4:=kaf hx k4
  have c3:V.cell? ⟨Bt,2,none⟩=some (.int .i64 slots):=by simp[World.cell?,k3,ht2]
  have z3:=(qaz k3).1
  exact⟨⟨by simp[World.cell?,k1],by simp[World.cell?,k2],by simp[World.cell?,k3,ht1],c3,by simp[World.cell?,k4]⟩,⟨(qaz k1).1,(qaz k2).1,z3,(qaz k4).1⟩,fun x=>clamp_233 x slots Bt V c3 z3⟩
 obtain⟨s,hs0⟩:∃s,klk ((τ - start) / 3600) slots=s:=⟨_,rfl⟩;rw[hs0]at HC hcb;have HS:=Lib.hid hs0;clear hs0 ht1 ht2;obtain⟨a1,a2⟩:=a;obtain⟨b1,b2⟩:=b
 simp only at *
 refine callsIn_of_wp Tryz.func234 rfl trivial ?_ rfl
 simp only[Tryz.ntmps234,List.size_toArray,List.length_cons,List.length_nil,Nat.reduceAdd,Nat.reduceSub,Array.replicate_succ,Array.replicate_zero,List.push_toArray,List.append_toArray,List.nil_append,List.cons_append];obtain⟨⟨c1,c2,c3,c4,c5⟩,⟨z1,z2,z3,z4⟩,_⟩:=CC.out W W (Below.refl _ _) (Ext.refl _)
 gi_wp2_with fail
 refine wpIn_wide.2 ?_
 refine kcx (C:=fun w'=>∃x:Xt W,w'=x.world) 5 1 (by kernel_rfl) (by kernel_rfl) (Cx.of ((Ext.refl W).drew)) ?_
 simp only[List.take_succ_cons,List.take_zero,List.drop_succ_cons,List.drop_zero]
 (repeat (first|go_big_quiet_step (fail)|quiet_step (fail)))
 refine wpQuiet_nil ?_
 refine kcj rfl rfl rfl eg_176 ?_
 simp only[List.map_toArray,List.map_cons,List.map_nil]
 have hD:Ext W W.drew:=(Ext.refl W).drew
 refine(K176.out _).mono ?_
 rintro e w4 ⟨rfl,hx4⟩
 have hE4:Ext W w4:=hD.trans hx4
 refine⟨_,rfl,⟨⟨w4,hE4⟩,rfl⟩,?_⟩
 refine kmc rfl rfl rfl rfl eg_233 ?_
 simp only[List.map_toArray,List.map_cons,List.map_nil,List.append_toArray,List.cons_append,List.nil_append];have q5:=(CC.out W w4 (Below.refl _ _) hE4).2.2 ((τ - start) / 3600);rw[HS.out]at q5
 refine q5.mono ?_
 rintro e w5 ⟨rfl,hx5⟩
 have hE5:Ext W w5:=hE4.trans hx5
 refine⟨_,rfl,⟨⟨w5,hE5⟩,rfl⟩,?_⟩
 (repeat (first|go_big_quiet_step (fail)|quiet_step (fail)))
 refine wpQuiet_nil ?_
 have hJ5:=HA.out _ _ _ none h0 hE5.gb (fun r e=>by cases e)
 have hK5:Kp2 n₀ m W w5:=hE5.kp2 (by omega)
 have hz5:=hE5.len;clear hx4 hx5 hE4 hE5 hD c1 c2 c3 c4 c5 z1 z2 z3 z4 q5 h0
 gi_wp2_with fail
 gi_loopw [8] (fun s8 wr=>((s8=.int .i64 s∧J [] wr)∨(s8=.int .i64 (s+1)∧J [g] wr))∧Kp2 n₀ m W wr∧W.heap.size≤wr.heap.size)
  (fun s8 _=>(s+1-intOf s8).toNat)
 case atStart=>exact⟨.inl ⟨rfl,hJ5⟩,hK5,hz5⟩
 case round=>
  obtain⟨hrel,hK,hz⟩:=hrel;clear hK5 hJ5 hz5;obtain⟨⟨c1,c2,c3,c4,c5⟩,⟨z1,z2,z3,z4⟩,_⟩:=CC.out wr wr hK.1 (Ext.refl _)
  rcases hrel with ⟨rfl,hJ⟩|⟨rfl,hJ⟩
  ·gi_wp2_with fail
   refine wpIn_wide.2 ?_
   refine kcx (C:=fun w'=>∃x:Xt wr,w'=x.world) 6 1 (by kernel_rfl) (by kernel_rfl) (Cx.of ((Ext.refl wr).drew)) ?_
   simp only[List.take_succ_cons,List.take_zero,List.drop_succ_cons,List.drop_zero]
   (repeat (first|go_big_quiet_step (fail)|quiet_step (fail)))
   refine wpQuiet_nil ?_
   refine kcj rfl rfl rfl eg_176 ?_
   simp only[List.map_toArray,List.map_cons,List.map_nil]
   have hD:Ext wr wr.drew:=(Ext.refl wr).drew
   refine(K176.out _).mono ?_
   rintro e w4 ⟨rfl,hx4⟩
   have hE4:Ext wr w4:=hD.trans hx4
   refine⟨_,rfl,⟨⟨w4,hE4⟩,rfl⟩,?_⟩
   refine kmc rfl rfl rfl rfl eg_233 ?_
   simp only[List.map_toArray,List.map_cons,List.map_nil,List.append_toArray,List.cons_append,List.nil_append];have q5:=(CC.out wr w4 hK.1 hE4).2.2 ((τ - start) / 3600);rw[HS.out]at q5
   refine q5.mono ?_
   rintro e w5 ⟨rfl,hx5⟩
   have hE5:Ext wr w5:=hE4.trans hx5
   refine⟨_,rfl,⟨⟨w5,hE5⟩,rfl⟩,?_⟩
   (repeat (first|go_big_quiet_step (fail)|quiet_step (fail)))
   refine wpQuiet_nil ?_
   have hJ5:=HA.out _ _ _ none hJ hE5.gb (fun r e=>by cases e)
   have hK5:=hK.ext (by omega) hE5
   have hz5:=hE5.len
   have hz6:W.heap.size≤w5.heap.size:=by omega
   clear hx4 hx5 hE4 hE5 hD c1 c2 c3 c4 c5 z1 z2 z3 z4 q5 hJ hK hz5;obtain⟨⟨k1,k2,k3,k4,k5,k6⟩,k7⟩:=HC.out w5 hK5.1;obtain⟨a0,a1',_,_⟩:=kae k5;obtain⟨b0,b1',_,_⟩:=kae k6;have za:=(qaz k5).1;have zb:=(qaz k6).1;have k3':=Lib.hid k3;have K7:=Lib.hid k7
   have HI:Hid (33=33→(Tryz.prog.info? 33).map (·.size)=some tv.size):=fun _=>by rw[info33,hl]
   have HJ5:=Lib.hid (And.intro hJ5 hK5);clear k1 k2 k3 k4 k5 k6 k7 hJ5 hK5
   gi_wp2_with first
    | (refine kft rfl 33 _ rfl Bt rfl 33 tv (0,0) _ k3'.out Tryz.underlying33 rfl (HI.out rfl) ?_)
    | (refine⟨trivial,?_⟩;gi_at_call 236;refine(callsIn_wide.2 (HK.out _ _)).mono ?_;rintro e w6 ⟨rfl,hw6⟩
       obtain⟨m1,m2,m3,m4⟩:=boxes4 w5 tv _ _ _ 33 43 43 3 w6 (by rw[hw6];exact Ext.refl _)
       have hE6:Ext w5 w6:=by rw[hw6];exact((((Ext.refl w5).alloc _).alloc _).alloc _).alloc _
       have K235:=Lib.hid (K7.out w6 _ _ _ _ hE6 m2 m3 m1 m4);have HE6:=Lib.hid hE6
       clear hw6 m1 m2 m3 m4 hE6)
    | (refine⟨trivial,?_⟩;gi_at_call 235;refine(callsIn_wide.2 K235.out).mono ?_;rintro e w7 ⟨rfl,hx7⟩
       have hE7:Ext w5 w7:=HE6.out.trans hx7
       have hz7:=hE7.len
       have hJ7:=HA.out _ _ _ none HJ5.out.1 hE7.gb (fun r e=>by cases e)
       have hK7:=HJ5.out.2.ext (by omega) hE7
       obtain⟨fn,tmps,assign,body,hyy,hR⟩:=HY.out _ g _ hJ7 (by simp)
       simp only[flowE]at hyy
       clear hJ7 hx7 hE7)
   refine hR.mono ?_
   rintro e W3 (⟨rfl,hJ8,hk8⟩|⟨rfl,hJx8⟩)
   ·have hs8:=hk8.1.size
    gi_wp2
    go_roundw
    case rel=>exact⟨.inr ⟨by go_num,by simpa using hJ8⟩,hK7.t hk8,by omega⟩
    case measure=>simp[intOf];omega
   ·gi_wp2
    refine bodyPost_ret (results_none rfl _ _ _) rfl ?_
    exact⟨⟨_,rfl⟩,.inr ⟨_,hJx8⟩⟩
  ·have hlt:¬ s+1≤s:=by omega
   gi_wp2_with fail
   refine wpIn_wide.2 ?_
   refine kcx (C:=fun w'=>∃x:Xt wr,w'=x.world) 6 1 (by kernel_rfl) (by kernel_rfl) (Cx.of ((Ext.refl wr).drew)) ?_
   simp only[List.take_succ_cons,List.take_zero,List.drop_succ_cons,List.drop_zero]
   (repeat (first|go_big_quiet_step (fail)|quiet_step (fail)))
   refine wpQuiet_nil ?_
   refine kcj rfl rfl rfl eg_176 ?_
   simp only[List.map_toArray,List.map_cons,List.map_nil]
   have hD:Ext wr wr.drew:=(Ext.refl wr).drew
   refine(K176.out _).mono ?_
   rintro e w4 ⟨rfl,hx4⟩
   have hE4:Ext wr w4:=hD.trans hx4
   refine⟨_,rfl,⟨⟨w4,hE4⟩,rfl⟩,?_⟩
   refine kmc rfl rfl rfl rfl eg_233 ?_
   simp only[List.map_toArray,List.map_cons,List.map_nil,List.append_toArray,List.cons_append,List.nil_append];have q5:=(CC.out wr w4 hK.1 hE4).2.2 ((τ - start) / 3600);rw[HS.out]at q5
   refine q5.mono ?_
   rintro e w5 ⟨rfl,hx5⟩
   have hE5:Ext wr w5:=hE4.trans hx5
   refine⟨_,rfl,⟨⟨w5,hE5⟩,rfl⟩,?_⟩
   (repeat (first|go_big_quiet_step (fail)|quiet_step (fail)))
   refine wpQuiet_nil ?_
   have hJ5:=HA.out _ _ _ none hJ hE5.gb (fun r e=>by cases e)
   clear hx4 hx5 hE4 hE5 hD c1 c2 c3 c4 c5 z1 z2 z3 z4 q5 hJ hK
   gi_wp2_with fail
   go_end0
   exact⟨⟨_,rfl⟩,.inl hJ5⟩
def kga (t:TideT)(a b:Pt)(τ : Int):FlowT:=kde (blkL t a b (klk ((τ - t.start) / 3600) t.slots))
theorem blk_ne (t:TideT)(a b:Pt)(s:Int)(h1:a.1≤b.1)(h2:a.2≤b.2):blkL t a b s≠[]:=fun e=>by
 have h:=congrArg List.length e;unfold blkL at h;rw[recB_len]at h;simp only[List.length_nil]at h
 have e1:0<(b.1 / 10000+1-a.1 / 10000).toNat:=by omega
 have e2:0<(b.2 / 10000+1-a.2 / 10000).toNat:=by omega
 have:=Nat.mul_pos e2 e1
 omega
theorem kog {t:TideT}(hok:kbk t=true)(a b:Pt)(τ : Int)(h1:a.1≤b.1)(h2:a.2≤b.2):(kga t a b τ).ok=true:=by
 refine joinAll_ok (blk_ne t a b _ h1 h2) fun f hf=>?_
 simp only[blkL,recB,rowB,List.mem_flatMap,List.mem_map]at hf;obtain⟨_,_,_,_,rfl⟩:=hf
 exact ofF_ok hok _ _ _
theorem tideOk_bds {t:TideT}(h:kbk t=true):(0≤t.start∧t.start≤1000000000)∧0≤t.slots∧t.slots≤1000:=by
 simp only[kbk,inB,qba,decide_eq_true_eq]at h
 omega
theorem slots_stops (n n₀ m Bc Bf Bt Bu Ba Bb:Nat)(t:TideT)(τ : Int)(a b:Pt)(hn:1≤n)(hok:kbk t=true)(ha:plB a=true)(hb:plB b=true)(h1:a.1≤b.1)(h2:a.2≤b.2)(h3:0≤τ∧τ≤1000000000)
  (w0:World) (hS:Sl FlowT.vals 9 w0 t.A t.flows) (hw0:w0.heap.size≤n₀) (W:World) (hW0:Ext w0 W) (hm:m≤W.heap.size) (hnm:n₀≤m)
  (l1:Bc<n₀) (l2:Bf<n₀) (l3:Bt<n₀) (l4:Bu<n₀) (l5:Ba<n₀) (l6:Bb<n₀)
  (k1:W.heap[Bc]?=some (.cells #[.func (.func 233) #[] #[.pointer (some ⟨Bt,0,none⟩)]] 235)) (k2:W.heap[Bf]?=some (.cells #[.int .i64 τ] 3)) (k3:W.heap[Bt]?=some (.cells t.vals.toArray 33)) (k4:W.heap[Bu]?=some (.cells #[.int .i64 τ] 3))
  (k5:W.heap[Ba]?=some (.cells #[.int .i64 a.1,.int .i64 a.2] 43)) (k6:W.heap[Bb]?=some (.cells #[.int .i64 b.1,.int .i64 b.2] 43)) :
  SeqStopsK Fence.wide n Tryz.prog 234 #[.pointer (some ⟨Bc,0,none⟩),.pointer (some ⟨Bf,0,none⟩),.pointer (some ⟨Bt,0,none⟩),.pointer (some ⟨Bu,0,none⟩),.pointer (some ⟨Ba,0,none⟩),.pointer (some ⟨Bb,0,none⟩)] flowE (Kp2 n₀ m)
   (fun ys=>ys.map (·.1)=[kga t a b τ]) (fun _=>True) 1 W:=fun l J Jx W1 hW hJ hJx hY h0=>by
 have hn0W:n₀≤W.heap.size:=by omega
 have hW':Below n₀ W W1:=Below.mono hW hn0W
 obtain⟨t1,t2,t3⟩:=tideOk_bds hok
 have:=slots1_234 n l n₀ m Bc Bf Bt Bu Ba Bb t.vals.toArray t.start t.slots τ a b ⟨kga t a b τ,kog hok a b τ h1 h2⟩ hn rfl rfl rfl t3 t1 h3 J Jx hY W1 hJ (Nat.le_trans hm hW.size) hnm
  (fun W2 h=>by
   have h4:Below n₀ W W2:=hW'.trans h
   refine⟨⟨(h4.block _ l1).trans k1,(h4.block _ l2).trans k2,(h4.block _ l3).trans k3,(h4.block _ l4).trans k4,(h4.block _ l5).trans k5,(h4.block _ l6).trans k6⟩,fun W3 B1 B2 B3 B4 hx j1 j2 j3 j4=>?_⟩
   exact joinedBlocks t a b _ hok ha hb h1 h2 w0 hS W3 (Ext.trans (Below.trans (B:=w0.heap.size) hW0 (h4.mono hw0)) hx) B1 B2 B3 B4 j1 j2 j3 j4)
  (fun s W=>blocks_236 t a b s W) h0
 refine this.mono ?_
 rintro e W' ⟨he,h⟩
 exact⟨he,h.imp (fun h2=>⟨[⟨kga t a b τ,kog hok a b τ h1 (by assumption)⟩],rfl,h2⟩) (fun ⟨pre,h⟩=>⟨pre,trivial,h⟩)⟩
theorem joinedSlots (t:TideT)(τ : Int)(a b:Pt)(hok:kbk t=true)(ha:plB a=true)(hb:plB b=true)(h1:a.1≤b.1)(h2:a.2≤b.2)(h3:0≤τ∧τ≤1000000000)
  (w0:World) (hS:Sl FlowT.vals 9 w0 t.A t.flows) (W:World) (hW0:Ext w0 W) (Bc Bf Bt Bu Ba Bb:Nat)
  (k1:W.heap[Bc]?=some (.cells #[.func (.func 233) #[] #[.pointer (some ⟨Bt,0,none⟩)]] 235)) (k2:W.heap[Bf]?=some (.cells #[.int .i64 τ] 3)) (k3:W.heap[Bt]?=some (.cells t.vals.toArray 33)) (k4:W.heap[Bu]?=some (.cells #[.int .i64 τ] 3))
  (k5:W.heap[Ba]?=some (.cells #[.int .i64 a.1,.int .i64 a.2] 43)) (k6:W.heap[Bb]?=some (.cells #[.int .i64 b.1,.int .i64 b.2] 43)) :
  Calls Tryz.prog 235 #[.func (.func 234) #[] #[.pointer (some ⟨Bc,0,none⟩),.pointer (some ⟨Bf,0,none⟩),.pointer (some ⟨Bt,0,none⟩),.pointer (some ⟨Bu,0,none⟩),.pointer (some ⟨Ba,0,none⟩),.pointer (some ⟨Bb,0,none⟩)],.func (.func 237) #[] #[]] W fun e w'=>
   e=.returned (.agg (kga t a b τ).vals.toArray)∧Ext W w':=
 joined_235 234 _ [kga t a b τ] _ W (enters_of Tryz.func234 (by kernel_rfl) rfl) fun W0 hX hz=>
  slots_stops 8 W.heap.size W0.heap.size Bc Bf Bt Bu Ba Bb t τ a b (by omega) hok ha hb h1 h2 h3 w0 hS hW0.len W0 (hW0.trans hX) (Nat.le_refl _) (by omega)
   (qaz k1).1 (qaz k2).1 (qaz k3).1 (qaz k4).1 (qaz k5).1 (qaz k6).1
   (kaf hX k1) (kaf hX k2) (kaf hX k3) (kaf hX k4) (kaf hX k5) (kaf hX k6)
end Go.Proofs.YtcgghcicnanliaaGreatDoor
