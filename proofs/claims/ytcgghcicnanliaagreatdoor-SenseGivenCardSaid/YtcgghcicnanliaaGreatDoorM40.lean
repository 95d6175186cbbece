/- Walks: cut.around; Walks: cut.Meet; Walks: chart.Square; Walks: chart.under again, for callers that keep a list; Walks: chart.Touched; Walks: echo.sounder.square; Walks: the cells that a polygon touches (echo.sounder.touched). Conditions: as each statement says. -/
import Derived.Test.YtcgghcicnanliaaGreatDoorM38
import Derived.Test.YtcgghcicnanliaaGreatDoorM37
set_option linter.unusedVariables false
set_option linter.unusedSimpArgs false
namespace Go.Proofs.YtcgghcicnanliaaGreatDoor
open Go.RowKit Go.Lib
set_option maxHeartbeats 4000000
set_option maxRecDepth 100000
theorem wpList_app2 {w:World}{ops:Array Oper}{rest:List Oper}{o:Oper}{a:Act}{Q:Exit→Act→World→Prop}(hgd:o.guard=none)(s x:Operand)
  (ho:o.op=.call { callee:=.builtin .append,args:=#[s,x],argTypes:=#[76,76] }) (B:Nat) (v:Value) (l:List Pt) (hs:a.eval s=v) (hv:LV B w v l) (hB:B≤w.heap.size)
  (A:Option Addr) (m c:Nat) (ys:List Pt) (hx:a.eval x=.slice A m c) (hm:ys.length=m) (hr:Sl encP 2 w A ys) (hbig:l.length+m≤4000000)
  (h:∀v' w',LV B w' v' (l++ys)→Below B w w'→w.grownBy w' v.ownBlock→wpList Tryz.prog ops Q rest (a.put o.dst v') w'):wpList Tryz.prog ops Q (o::rest) a w:=by
 obtain⟨i0,hi,hz0,hz1,hz2⟩:=info_parts kha
 by_cases h0:ys.length=0
 ·obtain rfl:ys=[]:=List.eq_nil_of_length_eq_zero h0
  simp only[List.length_nil]at hm;subst hm
  obtain⟨base,n,cap,hu,hnc⟩:∃base n cap,v=.slice base n cap∧n≤cap:=by
   rcases hv.2 with ⟨h1,_⟩|⟨g,cap,cur,h1,_,_,h4,_⟩
   ·exact⟨_,_,_,h1,Nat.le_refl _⟩
   ·exact⟨_,_,_,h1,h4⟩
  subst hu
  refine wpList_append_run _ hgd s x 76 76 ho _ _ hs hx _ _ (kfg _ _ A c hnc) ?_
  exact h _ _ (by rwa [List.append_nil]) (Below.refl _ _) ⟨rfl,rfl,rfl,Nat.le_refl _,fun _ _ _=>rfl⟩
 ·obtain⟨b,off,rfl⟩:=hr.addr (by omega)
  exact kck Tryz.underlying76 hi hz0 hz1 hz2 rfl hgd s x ho B v l hs hv hB ⟨b,off,none⟩ m c ys hx hm hr.readsP hbig h
theorem Sl.firsts {W:World}{A:Option Addr}{l:List Pt}(h:Sl encP 2 W A l)(n:Nat):Sl encP 2 W A (l.take n):=fun hl=>by
 obtain⟨b,off,e,hb,hc⟩:=h (by rw[List.length_take]at hl;omega)
 exact⟨b,off,e,hb,fun j x i v hj hi=>hc j x i v (by rw[List.getElem?_take]at hj;split at hj;exact hj;exact absurd hj (by simp)) hi⟩
theorem Sl.rest {W:World}{b off:Nat}{l:List Pt}(h:Sl encP 2 W (some ⟨b,off,none⟩) l)(n:Nat):Sl encP 2 W (some ⟨b,off+n*2,none⟩) (l.drop n):=fun hl=>by
 obtain⟨b',off',e,hb,hc⟩:=h (by rw[List.length_drop]at hl;omega)
 cases e
 exact⟨b,off+n*2,rfl,hb,fun j x i v hj hi=>by rw[List.getElem?_drop]at hj;have:=hc (n+j) x i v hj hi;rwa [Nat.add_mul,←Nat.add_assoc]at this⟩
theorem LV.reads_cap {B:Nat}{W:World}{v:Value}{l:List Pt}(h:LV B W v l):∃A c,v=.slice A l.length c∧Sl encP 2 W A l∧l.length≤c:=by
 have h0:=h
 rcases h.2 with ⟨rfl,h2⟩|⟨g,cap,cur,rfl,h2,h3,h4,h5,h6,h7⟩
 ·exact⟨none,0,by rw[h2],by rw[List.eq_nil_of_length_eq_zero h2];exact Sl.nil,by omega⟩
 ·exact⟨_,_,rfl,(Pr.mk h2 h4 h5 h3 h6 h7).sl,h4⟩
theorem clone_lv {B:Nat}{v:Value}{l:List Pt}{w:World}(h:LV B w v l)(he:l=[]→v=.slice none 0 0)(hl:l.length≤1000000) :
  Calls Tryz.prog 156 #[v] w fun e w'=>∃v',e=.returned v'∧LV w.heap.size w' v' l∧Ext w w':=by
 by_cases h0:l=[]
 ·rw[he h0]
  subst h0
  exact(clone_156_nil 0 0 w).mono fun e w' ⟨h1,h2⟩=>⟨_,h1,LV.nil _ _,by rw[h2];exact Ext.refl _⟩
 ·obtain⟨A,c,rfl,hS⟩:=h.reads
  exact(khf A c l w hS (List.length_pos_iff.2 h0) hl).mono fun e w' ⟨g,cap,h1,h2,h3⟩=>⟨_,h1,LV.of_pr h2,h3⟩
theorem kkm {p:Pt}(h:plB p=true):I64 p.1∧I64 p.2:=by
 simp only[plB,inB,qba,decide_eq_true_eq]at h;unfold I64
 omega
theorem kjr {l:List Pt}(h0:0<l.length)(hl:l.length≤32)(hp:∀y∈l,plB y=true):kaz l=0:=by
 have h1:=knp l;unfold kaz
 rw[if_neg (by omega),if_neg (by intro e;subst e;simp at h0),if_neg (by rw[Bool.not_eq_true,List.any_eq_false];intro x hx;simp[hp x hx]),if_neg (by omega)]
theorem around_308:∀(N:Nat) (A:Option Addr) (c:Nat) (l:List Pt) (w:World) (hN:l.length≤N) (hS:Sl encP 2 w A l) (hc:l.length≤c) (hl:l.length≤4000) (hp:∀y∈l,plB y=true),
  Calls Tryz.prog 308 #[.slice A l.length c] w fun e w'=>∃v l',e=.returned (.tuple #[v,.bool (decide (0<l.length))])∧LV w.heap.size w' v l'∧(∀y∈l',plB y=true)∧Ext w w':=by
 intro N
 induction N with
 | zero=>
  intro A c l w hN hS hc hl hp
  obtain rfl:l=[]:=List.eq_nil_of_length_eq_zero (by omega)
  go_enter Tryz.func308,Tryz.ntmps308
  go_wp2_with fail
  ((try simp only[Exit.inBlock,Exit.then]);refine bodyPost_ret (by first|(simp[results,Tryz.f308,go_sem];rfl)|(simp[results,Tryz.f308,go_sem];done)|(simp[results,Tryz.f308,go_sem, *];rfl)|(simp[results,Tryz.f308,go_sem, *];done)) rfl ?_)
  exact⟨_,[],rfl,LV.nil _ _,by simp,Ext.refl _⟩
 | succ N ih=>
  intro A c l w hN hS hc hl hp
  by_cases h0:l.length=0
  ·exact ih A c l w (by omega) hS hc hl hp
  have K1:=Lib.hid (fun W (hx:Ext w W)=>hull_158 A c l W (hS.ext hx) (fun y hy=>kkm (hp y hy)))
  have hne:¬ ((l.length:Int)=0):=by omega
  have hD:decide (0<l.length)=true:=decide_eq_true (by omega)
  rw[hD]
  by_cases hE:kaz l=0
  ·rw[hE]at K1
   have HM:Hid (∀y∈kdv l,plB y=true):=fun y hy=>hp y (kno hy)
   clear hE;generalize l.length=n at K1 hne ⊢
   go_enter Tryz.func308,Tryz.ntmps308
   go_wp2_with (go_at_call 158;refine(K1.out _ (Ext.refl _)).mono ?_;rintro e w1 ⟨v,rfl,hx1,⟨_,g,cap,rfl,hP1⟩|⟨h,_⟩⟩)
   ·((try simp only[Exit.inBlock,Exit.then]);refine bodyPost_ret (by first|(simp[results,Tryz.f308,go_sem];rfl)|(simp[results,Tryz.f308,go_sem];done)|(simp[results,Tryz.f308,go_sem, *];rfl)|(simp[results,Tryz.f308,go_sem, *];done)) rfl ?_)
    exact⟨_,_,rfl,LV.of_pr hP1,HM.out,hx1⟩
   ·exact absurd rfl h
  ·have h32:32<l.length:=by
    by_cases h:32<l.length
    ·exact h
    ·exact absurd (kjr (by omega) (by omega) hp) hE
   obtain⟨b,off,rfl⟩:=hS.addr (by omega)
   obtain⟨n,hn⟩:∃n,n=l.length / 2:=⟨_,rfl⟩
   have K2:=Lib.hid (fun W (hx:Ext w W)=>ih (some ⟨b,off,none⟩) c (l.take n) W (by rw[List.length_take];omega) ((hS.ext hx).firsts n) (by rw[List.length_take];omega) (by rw[List.length_take];omega) (fun y hy=>hp y (List.mem_of_mem_take hy)))
   have K3:=Lib.hid (fun W (hx:Ext w W)=>ih (some ⟨b,off+n*2,none⟩) (c-n) (l.drop n) W (by rw[List.length_drop];omega) ((hS.ext hx).rest n) (by rw[List.length_drop];omega) (by rw[List.length_drop];omega) (fun y hy=>hp y (List.mem_of_mem_drop hy)))
   have e2:(l.take n).length=n:=by rw[List.length_take];omega
   have e3:(l.drop n).length=l.length-n:=by rw[List.length_drop]
   rw[e2]at K2;rw[e3]at K3;have KI:=Lib.hid ih
   have HN:Hid (32≤N):=by show _≤_;omega
   have d1:(n:Int)<(l.length:Int):=by omega
   have d2:n≤c:=by omega
   have d3:l.length≤c:=hc
   have d4:n≤l.length:=by omega
   have d5:n<c:=by omega
   have hdiv:Int.tdiv (l.length:Int) 2=(n:Int):=by rw[Int.tdiv_eq_ediv_of_nonneg (by omega)];omega
   have hw:wrap64 (n:Int)=(n:Int):=by unfold wrap64;omega
   have d6:(n:Int)≤(c:Int):=by omega
   have d7:¬ c=n:=by omega
   have d8:¬ n=c:=by omega
   have d9:(n:Int)≤(l.length:Int):=by omega
   have d10:(l.length:Int)≤(c:Int):=by omega
   clear ih hS hp hl hN hD e2 e3 hn h32;generalize kaz l=er at K1 hE;generalize l.length=m at *
   go_enter Tryz.func308,Tryz.ntmps308
   go_wp2_with (go_at_call 158;refine(K1.out _ (Ext.refl _)).mono ?_;rintro e w1 ⟨v,rfl,hx1,⟨h,_⟩|⟨_,rfl⟩⟩)
   ·exact absurd h hE
   go_at_call 308
   refine(K2.out _ xt).mono ?_
   rintro e w2 ⟨va,la,rfl,h2,hp2,hx2⟩
   go_wp2_with fail
   go_at_call 308
   refine(K3.out _ (Ext.trans hx1 (Ext.trans hx2 xt))).mono ?_
   rintro e w3 ⟨vb,lb,rfl,h3,hp3,hx3⟩
   have hE3:Hid (Ext w w3):=hx1.trans (hx2.trans hx3)
   obtain⟨A4,c4,rfl,hS4⟩:=h2.reads;obtain⟨A5,c5,rfl,hS5⟩:=h3.reads;have K4:=Lib.hid (knv A4 c4 la w3 (hS4.ext hx3) hp2)
   have K5:=Lib.hid (fun W (hx:Ext w3 W)=>knv A5 c5 lb W (hS5.ext hx) hp3)
   clear K1 K2 K3 h2 h3 hp2 hp3 hS4 hS5 hx1 hx2 hx3
   go_wp2_with fail
   go_at_call 252
   refine K4.out.mono ?_
   rintro e w4 ⟨vc,e4,lc,rfl,h4,n4,hp4,l4,hx4⟩
   go_wp2_with fail
   go_at_call 252
   refine(K5.out _ hx4).mono ?_
   rintro e w5 ⟨vd,e5,ld,rfl,h5,n5,hp5,l5,hx5⟩;clear K4 K5;obtain⟨A6,c6,rfl,hS6⟩:=h5.reads
   have K6:=Lib.hid (clone_lv (h4.ext hx5) n4 (by omega))
   have hE5:Hid (Ext w w5):=hE3.out.trans (hx4.trans hx5)
   have HH:=Lib.hid (And.intro hS6 (And.intro hp4 hp5));clear h4 h5 hx4 hx5 hS6 hp4 hp5 n4 n5
   go_wp2_with fail
   go_at_call 156
   refine K6.out.mono ?_
   rintro e w6 ⟨v6,rfl,h6,hx6⟩;have HX:=Lib.hid (And.intro h6 hx6);clear h6 hx6 K6
   go_wp2_with (at_builtin;refine wpList_app2 rfl _ _ rfl w5.heap.size v6 lc rfl HX.out.1 HX.out.2.len A6 _ c6 ld rfl rfl (HH.out.1.ext HX.out.2) (by omega) ?_)
   intro v7 w7 h7 hb7 _;obtain⟨A7,c7,rfl,hS7,hc7⟩:=h7.reads_cap
   have hE7:Hid (Ext w w7):=Below.trans (hE5.out.trans HX.out.2) (Below.mono hb7 hE5.out.len)
   have hlen:(lc++ld).length≤32:=by rw[List.length_append];omega
   have K7:=Lib.hid (KI.out A7 c7 (lc++ld) w7 (Nat.le_trans hlen HN.out) hS7 hc7 (by omega) (fun y hy=>by
    rcases List.mem_append.1 hy with h|h
    ·exact HH.out.2.1 y h
    ·exact HH.out.2.2 y h))
   clear hS7 hc7 h7 hb7 KI HH HX hE5;generalize (lc++ld).length=n7 at *
   go_wp2_with (go_at_call 308;refine K7.out.mono ?_;rintro e w8 ⟨v8,l8,rfl,h8,hp8,hx8⟩)
   obtain⟨A8,c8,rfl,hS8⟩:=h8.reads;have K8:=Lib.hid (knv A8 c8 l8 w8 hS8 hp8)
   go_wp2_with (go_at_call 252;refine K8.out.mono ?_;rintro e w9 ⟨v9,e9,l9,rfl,h9,n9,hp9,l9',hx9⟩)
   ((try simp only[Exit.inBlock,Exit.then]);refine bodyPost_ret (by first|(simp[results,Tryz.f308,go_sem];rfl)|(simp[results,Tryz.f308,go_sem];done)|(simp[results,Tryz.f308,go_sem, *];rfl)|(simp[results,Tryz.f308,go_sem, *];done)) rfl ?_)
   exact⟨_,l9,rfl,h9.base (by have h1:=hE7.out.len;have h2:=hx8.len;omega),hp9,hE7.out.trans (hx8.trans hx9)⟩
theorem fdiv_mid {n s D:Int}(hs:0<s)(hD:s≤D):min 0 n≤Int.fdiv (n*s) D∧Int.fdiv (n*s) D≤max 0 n:=by
 have hp:0<D:=by omega
 rw[Int.fdiv_eq_ediv_of_nonneg _ (by omega)]
 by_cases h:0≤n
 ·have h1:0≤n*s / D:=Int.ediv_nonneg (Int.mul_nonneg h (by omega)) (by omega)
  have h2:n*s / D≤n:=Int.ediv_le_of_le_mul hp (Int.mul_le_mul_of_nonneg_left hD h)
  omega
 ·have h1:n≤n*s / D:=Int.le_ediv_of_mul_le hp (Int.mul_le_mul_of_nonpos_left (by omega) hD)
  have h2:n*s / D≤0:=Int.ediv_le_of_le_mul hp (by rw[Int.zero_mul];exact Int.mul_nonpos_of_nonpos_of_nonneg (by omega) (by omega))
  omega
theorem endsP_mid {a b s t:Int}(h:kea s t=true):(min a b≤(kdm a b s t).1∧(kdm a b s t).1≤max a b)∧min a b≤(kdm a b s t).2∧(kdm a b s t).2≤max a b:=by
 have key:∀s t:Int,0<s→t<0→(min a b≤(kdm a b s t).1∧(kdm a b s t).1≤max a b)∧min a b≤(kdm a b s t).2∧(kdm a b s t).2≤max a b:=fun s t h1 h2=>by
  have e1:=fdiv_mid (n:=b-a) (s:=s) (D:=s-t) h1 (by omega)
  have e2:=fdiv_mid (n:=-(b-a)) (s:=s) (D:=s-t) h1 (by omega)
  rw[Int.neg_mul]at e2;simp only[kdm]
  omega
 have hn:kdm a b s t=kdm a b (-s) (-t):=by
  have e:-s - -t=-(s-t):=by omega
  simp only[kdm,e,Int.mul_neg];rw[Int.neg_fdiv_neg,Int.neg_fdiv_neg]
 simp only[kea,Bool.or_eq_true,qba,decide_eq_true_eq]at h
 rcases h with ⟨h1,h2⟩|⟨h1,h2⟩
 ·rw[hn];exact key _ _ (by omega) (by omega)
 ·exact key _ _ (by omega) (by omega)
theorem frameL_places {a b:Pt}{s t:Int}(ha:plB a=true)(hb:plB b=true)(h:kea s t=true):∀y∈kdz a b s t,plB y=true:=by
 have e1:=endsP_mid (a:=a.1) (b:=b.1) h;have e2:=endsP_mid (a:=a.2) (b:=b.2) h;simp only[plB,inB,qba,decide_eq_true_eq]at ha hb ⊢;intro y hy;simp only[kdz,List.mem_cons,List.not_mem_nil,or_false]at hy
 rcases hy with rfl|rfl|rfl|rfl<;>(simp only;omega)
theorem sideG_mem {l:List Pt}{k:Nat}(h:k<l.length):(kbr l k).1∈l∧(kbr l k).2∈l:=⟨kcr h,kcr (Nat.mod_lt _ (by omega))⟩
theorem kks {p q:List Pt}(hq:∀y∈q,plB y=true):∀y∈kcl p q,plB y=true:=by
 intro y hy;obtain⟨s,_,hy⟩:=List.mem_flatMap.1 hy;obtain⟨r,hr,hy⟩:=List.mem_flatMap.1 hy;unfold crossG at hy
 split at hy
 ·next h=>
  obtain⟨k,hk,rfl⟩:∃k,k<q.length∧r=kbr q k:=by
   simp only[upto,List.mem_map,List.mem_range]at hr;obtain⟨k,h1,h2⟩:=hr
   exact⟨k,h1,h2.symm⟩
  exact frameL_places (hq _ (sideG_mem hk).1) (hq _ (sideG_mem hk).2) (qba _ _ ▸ h).1 y hy
 ·simp at hy
theorem kot {p q:List Pt}(hp:∀y∈p,plB y=true)(hq:∀y∈q,plB y=true):∀y∈kep p q,plB y=true:=by
 intro y hy;unfold kep at hy;simp only[List.mem_append]at hy
 rcases hy with (hy|hy)|hy
 ·exact hp y (List.mem_filter.1 hy).1
 ·exact hq y (List.mem_filter.1 hy).1
 ·exact kks hq y hy
theorem sharedL_len {p q:List Pt}(hp:p.length≤64)(hq:q.length≤8):(kep p q).length≤4000:=by
 have h1:=kjz p q
 have h2:(kbg p q).length≤p.length:=List.length_filter_le _ _
 have h3:(kbg q p).length≤q.length:=List.length_filter_le _ _
 have h4:p.length*(q.length*4)≤64*(8*4):=Nat.mul_le_mul hp (Nat.mul_le_mul hq (Nat.le_refl _))
 simp only[kep,List.length_append]
 omega
theorem meet_229 (A A':Option Addr)(c c':Nat)(p q:List Pt)(w:World)(hS:Sl encP 2 w A p)(hT:Sl encP 2 w A' q)(hp:∀y∈p,plB y=true)(hq:∀y∈q,plB y=true)(vp:kas p=true)(vq:kas q=true)(hq8:q.length≤8) :
  Calls Tryz.prog 229 #[.slice A p.length c,.slice A' q.length c'] w fun e w'=>∃A4 n4 c4,e=.returned (.tuple #[.slice A4 n4 c4,.bool (decide (0<(kep p q).length)),.int .i64 0])∧Ext w w':=by
 have K1:Hid (∀W,Ext w W→Calls Tryz.prog 146 #[.slice A p.length c] W fun e w'=>e=.returned (.bool true)∧Ext W w'):=fun W h=>by have:=kba A c p W (hS.ext h) hp;rwa [vp]at this
 have K2:Hid (∀W,Ext w W→Calls Tryz.prog 146 #[.slice A' q.length c'] W fun e w'=>e=.returned (.bool true)∧Ext W w'):=fun W h=>by have:=kba A' c' q W (hT.ext h) hq;rwa [vq]at this
 have d1:1≤p.length∧p.length≤64:=by simp only[kas,qba,decide_eq_true_eq]at vp;omega
 have d2:1≤q.length∧q.length≤64:=by simp only[kas,qba,decide_eq_true_eq]at vq;omega
 have K3:=Lib.hid (fun W (h:Ext w W)=>shared_309 A A' c c' p q W (hS.ext h) (hT.ext h) hp hq (by omega) (by omega) d1.2 d2.2)
 have HP:=Lib.hid (And.intro (kot hp hq) (sharedL_len d1.2 hq8));generalize kep p q=sh at K3 HP ⊢;generalize p.length=m at *;generalize q.length=n at *;clear d1 d2 hS hT
 go_enter Tryz.func229,Tryz.ntmps229
 go_wp2_with fail
 go_at_call 146
 refine(K1.out _ xt).mono ?_
 rintro e w1 ⟨rfl,hx1⟩
 go_wp2_with fail
 go_at_call 146
 refine(K2.out _ xt).mono ?_
 rintro e w2 ⟨rfl,hx2⟩
 go_wp2_with (go_at_call 309;refine(K3.out _ xt).mono ?_;rintro e w3 ⟨v,rfl,h3,hx3⟩)
 obtain⟨A3,c3,rfl,hS3,hc3⟩:=h3.reads_cap;have K4:=Lib.hid (around_308 sh.length A3 c3 sh w3 (Nat.le_refl _) hS3 hc3 HP.out.2 HP.out.1)
 go_wp2_with (go_at_call 308;refine K4.out.mono ?_;rintro e w4 ⟨v,l',rfl,h4,_,hx4⟩;obtain⟨A4,c4,rfl,_⟩:=h4.reads)
 ((try simp only[Exit.inBlock,Exit.then]);refine bodyPost_ret (by first|(simp[results,Tryz.f229,go_sem];rfl)|(simp[results,Tryz.f229,go_sem];done)|(simp[results,Tryz.f229,go_sem, *];rfl)|(simp[results,Tryz.f229,go_sem, *];done)) rfl ?_)
 exact⟨_,_,_,rfl,xt⟩
def kml (p q:List Pt):Bool:=kas q&&decide (0<(kep p q).length)
theorem meet_any (A A':Option Addr)(c c':Nat)(p q:List Pt)(w:World)(hS:Sl encP 2 w A p)(hT:Sl encP 2 w A' q)(hp:∀y∈p,plB y=true)(hq:∀y∈q,plB y=true)(vp:kas p=true)(hq8:q.length≤8) :
  Calls Tryz.prog 229 #[.slice A p.length c,.slice A' q.length c'] w fun e w'=>∃A4 n4 c4 er,e=.returned (.tuple #[.slice A4 n4 c4,.bool (kml p q),.int .i64 er])∧Ext w w':=by
 cases vq:kas q with
 | true=>
  refine(meet_229 A A' c c' p q w hS hT hp hq vp vq hq8).mono fun e w' ⟨A4,n4,c4,h1,h2⟩=>⟨A4,n4,c4,0,?_,h2⟩
  rw[h1];simp[kml,vq]
 | false=>
  have K1:Hid (∀W,Ext w W→Calls Tryz.prog 146 #[.slice A p.length c] W fun e w'=>e=.returned (.bool true)∧Ext W w'):=fun W h=>by have:=kba A c p W (hS.ext h) hp;rwa [vp]at this
  have K2:Hid (∀W,Ext w W→Calls Tryz.prog 146 #[.slice A' q.length c'] W fun e w'=>e=.returned (.bool false)∧Ext W w'):=fun W h=>by have:=kba A' c' q W (hT.ext h) hq;rwa [vq]at this
  have HB:Hid (kml p q=false):=by show _=_;rw[kml,vq];rfl
  rw[HB.out];generalize p.length=m at *;generalize q.length=n at *;clear hS hT
  go_enter Tryz.func229,Tryz.ntmps229
  go_wp2_with fail
  go_at_call 146
  refine(K1.out _ xt).mono ?_
  rintro e w1 ⟨rfl,hx1⟩
  go_wp2_with fail
  go_at_call 146
  refine(K2.out _ xt).mono ?_
  rintro e w2 ⟨rfl,hx2⟩
  go_wp2_with fail
  ((try simp only[Exit.inBlock,Exit.then]);refine bodyPost_ret (by first|(simp[results,Tryz.f229,go_sem];rfl)|(simp[results,Tryz.f229,go_sem];done)|(simp[results,Tryz.f229,go_sem, *];rfl)|(simp[results,Tryz.f229,go_sem, *];done)) rfl ?_)
  exact⟨_,_,_,_,rfl,xt⟩
def sqLo (t:ChartT)(i:Int):Pt:=(t.x+Int.tmod i t.w*t.size,t.y+Int.tdiv i t.w*t.size)
def sqHi (t:ChartT)(i:Int):Pt:=((sqLo t i).1+t.size-1,(sqLo t i).2+t.size-1)
theorem kmq {t:ChartT}{i:Int}(hok:kao t=true)(h0:0≤i)(hi:i.toNat<t.cells.length):plB (sqLo t i)=true∧plB (sqHi t i)=true∧(-500000≤t.x∧t.x≤500000)∧(-500000≤t.y∧t.y≤500000)∧(1≤t.w∧1≤t.size∧t.size≤10000) ∧
  (0≤Int.tmod i t.w∧Int.tmod i t.w≤4000)∧(0≤Int.tdiv i t.w∧Int.tdiv i t.w≤4000)∧0≤Int.tmod i t.w*t.size∧Int.tmod i t.w*t.size≤40000000∧0≤Int.tdiv i t.w*t.size∧Int.tdiv i t.w*t.size≤40000000:=by
 simp only[kao,kcp,plB,inB,qba,decide_eq_true_eq]at hok;obtain⟨⟨⟨⟨⟨hD,hp1⟩,hp2⟩,_⟩,_⟩,_⟩:=hok;obtain⟨⟨⟨⟨⟨⟨⟨⟨_,w1⟩,h1⟩,w2⟩,h2⟩,hwh⟩,_⟩,s1⟩,s2⟩:=hD
 have hlt:i<t.w*t.h:=by rw[hwh];omega
 have e1:Int.tmod i t.w=i % t.w:=Int.tmod_eq_emod_of_nonneg h0
 have e2:Int.tdiv i t.w=i / t.w:=Int.tdiv_eq_ediv_of_nonneg h0
 have m1:=Int.emod_nonneg i (show t.w≠0 by omega)
 have m2:=Int.emod_lt_of_pos i (show 0<t.w by omega)
 have d1:0≤i / t.w:=Int.ediv_nonneg h0 (by omega)
 have d2:i / t.w<t.h:=Int.ediv_lt_of_lt_mul (by omega) (by rw[Int.mul_comm];exact hlt)
 have q1:(i % t.w+1)*t.size≤t.w*t.size:=Int.mul_le_mul_of_nonneg_right (by omega) (by omega)
 have q2:(i / t.w+1)*t.size≤t.h*t.size:=Int.mul_le_mul_of_nonneg_right (by omega) (by omega)
 have q3:0≤i % t.w*t.size:=Int.mul_nonneg m1 (by omega)
 have q4:0≤i / t.w*t.size:=Int.mul_nonneg d1 (by omega)
 have q5:t.w*t.size≤4000*10000:=Int.mul_le_mul w2 s2 (by omega) (by omega)
 have q6:t.h*t.size≤4000*10000:=Int.mul_le_mul h2 s2 (by omega) (by omega)
 rw[Int.add_mul,Int.one_mul]at q1 q2;simp only[plB,inB,sqHi,sqLo,e1,e2,qba,decide_eq_true_eq]
 omega
theorem square_275 (t:ChartT)(i:Int)(w:World)(H:t.Lies w)(hok:kao t=true)(h0:0≤i)(hi:i.toNat<t.cells.length) :
  Calls Tryz.prog 275 #[.agg t.vals.toArray,.int .i64 i] w fun e w'=>e=.returned (.tuple #[.agg #[.int .i64 (sqLo t i).1,.int .i64 (sqLo t i).2],.agg #[.int .i64 (sqHi t i).1,.int .i64 (sqHi t i).2],.int .i64 0])∧Ext w w':=by
 have K1:=Lib.hid (fun W (hx:Ext w W)=>keg t W (H.ext hx))
 rw[hok]at K1;obtain⟨_,_,b1,b2,⟨b3,b4,b5⟩,b6,b7,b8,b9,b10,b11⟩:=kmq hok h0 hi;obtain⟨lx,hlx⟩:∃lx,(sqLo t i).1=lx:=⟨_,rfl⟩;obtain⟨ly,hly⟩:∃ly,(sqLo t i).2=ly:=⟨_,rfl⟩
 have g1:Hid ((sqHi t i).1=lx+t.size-1):=by show _=_;rw[←hlx];rfl
 have g2:Hid ((sqHi t i).2=ly+t.size-1):=by show _=_;rw[←hly];rfl
 rw[hlx,hly,g1.out,g2.out]
 have hi2:i<(t.cells.length:Int):=by omega
 have hi3:¬ (t.cells.length:Int)≤i:=by omega
 have hi4:decide (i<0)=false:=decide_eq_false (by omega)
 have hi5:decide ((t.cells.length:Int)≤i)=false:=decide_eq_false (by omega)
 have hi6:¬ i<0:=by omega
 have hw0:t.w≠0:=by omega
 have f1:IntKind.i64.wrap (Int.tmod i t.w*t.size)=Int.tmod i t.w*t.size:=by rw[IntKind.wrap_i64];omega
 have f2:IntKind.i64.wrap (Int.tdiv i t.w*t.size)=Int.tdiv i t.w*t.size:=by rw[IntKind.wrap_i64];omega
 have f3:wrap64 (t.x+wrap64 (i % t.w*t.size))=lx:=by
  rw[←hlx,←Int.tmod_eq_emod_of_nonneg h0];simp only[sqLo];unfold wrap64;omega
 have bL:(-500000≤lx∧lx≤500000)∧-500000≤ly∧ly≤500000:=by
  have:=knc (kmq hok h0 hi).1
  rw[hlx,hly]at this
  exact⟨⟨this.1,this.2.1⟩,this.2.2⟩
 clear g1 g2 hi h0 hok H;obtain⟨version,x,y,tw,th,size,cA,cc,cells,bA,bc,beacons,lA,lc,lines⟩:=t;simp only[ChartT.vals,sqLo]at *
 have KX:=Lib.hid (fun W hx=>kdk w #[.int .i64 version,.int .i64 x,.int .i64 y,.int .i64 tw,.int .i64 th,.int .i64 size,.slice cA cells.length cc,.slice bA beacons.length bc,.slice lA lines.length lc] #[.int .i64 0,.int .i64 0] #[.int .i64 0,.int .i64 0] 26 43 43 W hx)
 generalize cells.length=n at *
 go_enter Tryz.func275,Tryz.ntmps275
 go_wp2_with (go_at_call 41;refine(K1.out _ xt).mono ?_;rintro e w1 ⟨rfl,hx1⟩;obtain⟨u2,u4,u5⟩:=KX.out _ hx1;obtain⟨q0,q1,q2,q3,q4,q5,q6,q7,q8⟩:=kbi u2;obtain⟨c0,c1,c2,c3⟩:=kae u4;obtain⟨d0,d1,d2,d3⟩:=kae u5)
 have hE1:Hid (Ext w w1):=Ext.trans xt hx1
 have z0:w.heap.size<w1.heap.size:=(qaz u2).1
 have z1:w.heap.size+1<w1.heap.size:=(qaz u4).1
 have z2:w.heap.size+1+1<w1.heap.size:=(qaz u5).1
 clear hx1
 (refine kav 21 (by kernel_rfl) (by kernel_rfl) ?_;simp only[List.take_succ_cons,List.take_zero,List.drop_succ_cons,List.drop_zero];(repeat (first|go_big_quiet_step (fail)|quiet_step (fail)));refine wpQuiet_nil ?_;rintro _ ⟨xq,rfl⟩;have hx2:=xq.ext;generalize xq.world=w2 at hx2 ⊢;obtain⟨hc9,hf9,hz9⟩:=hx2.rules;(try simp only[qsa]at hz9);(try have hz9a:w.heap.size<w2.heap.size:=by omega);(try have hz9b:w.heap.size+1<w2.heap.size:=by omega);(try have hz9c:w.heap.size+1+1<w2.heap.size:=by omega);(try have hz9d:w.heap.size+1+1+1<w2.heap.size:=by omega))
 have v4:=(hx2.block _ (qaz u4).1).trans u4;have v5:=(hx2.block _ (qaz u5).1).trans u5;have v2:=(hx2.block _ (qaz u2).1).trans u2;obtain⟨c0,c1,c2,c3⟩:=kae v4
 have hE2:Hid (Ext w w2):=hE1.out.trans hx2
 have hz9':w.heap.size+2<w2.heap.size:=(qaz v5).1
 clear hx2 hc9 hf9 hz9 u2 u4 u5 q0 q1 q2 q3 q4 q5 q6 q7 q8 d0 d1 d2 d3
 go_wp2
 refine kbd (G:=fun W=>Code.wp _ _ _ _ W) (fun V=>Ext w V∧V.heap[w.heap.size+1]?=some (.cells #[.int .i64 lx,.int .i64 ly] 43)∧V.heap[w.heap.size+1+1]?=some (.cells #[.int .i64 0,.int .i64 0] 43)∧V.heap[w.heap.size]?=some (.cells #[.int .i64 version,.int .i64 x,.int .i64 y,.int .i64 tw,.int .i64 th,.int .i64 size,.slice cA n cc,.slice bA beacons.length bc,.slice lA lines.length lc] 26)) ?_ ?_
 rotate_left
 ·have hE2':=hE2.out
  exact⟨xt,kbu (kbv v4 _) _,kah (kah v5 (by omega) _) (by omega) _,kah (kah v2 (by omega) _) (by omega) _⟩
 clear v2 v4 v5 c0 c1 c2 c3 hE2 hE1 f1 f2 f3 b1 b2 b6 b7 b8 b9 b10 b11 hlx hly K1 KX hz9a hz9b hz9c z0 z1 z2;rintro V ⟨hV,v4,v5,v2⟩;obtain⟨q0,q1,q2,q3,q4,q5,q6,q7,q8⟩:=kbi v2;obtain⟨c0,c1,c2,c3⟩:=kae v4;obtain⟨d0,d1,d2,d3⟩:=kae v5
 go_region
 refine kbd (G:=fun W=>Exit.then _ _ _ _ W) (fun U=>Ext w U∧U.heap[w.heap.size+1]?=some (.cells #[.int .i64 lx,.int .i64 ly] 43)∧U.heap[w.heap.size+1+1]?=some (.cells #[.int .i64 (lx+size-1),.int .i64 (ly+size-1)] 43)) ?_ ?_
 rotate_left
 ·exact⟨xt,kah (kah (kbu (kbv v4 _) _) (by omega) _) (by omega) _,kbu (kbv (kah (kah v5 (by omega) _) (by omega) _) _) _⟩
 rintro U ⟨hU,u2,u3⟩;obtain⟨o20,o21,_,_⟩:=kae u2;obtain⟨o30,o31,_,_⟩:=kae u3
 go_wp2
 (try simp only[Exit.inBlock,Exit.then])
 refine bodyPost_ret (by first|(simp[results,Tryz.f275,go_sem,o20,o21,o30,o31];rfl)|(simp[results,Tryz.f275,go_sem,o20,o21,o30,o31];done)) rfl ?_
 exact⟨rfl,hU⟩
attribute [local go_sem] Oper.semAt_some
structure Fx where
 p:World→Prop
 s:∀X Y row,p X→X.grownBy Y row→(∀k,row=some k→∃o:Obj,X.heap[k]?=some o∧o.isCells=false)→p Y
theorem Fx.ext (F:Fx){X Y:World}(h:F.p X)(hx:Ext X Y):F.p Y:=F.s X Y none h hx.gb (fun k e=>by cases e)
def Kf (n₀:Nat)(F:Fx)(W W':World):Prop:=Below n₀ W W'∧(F.p W→F.p W')
section
variable {n₀:Nat} {F:Fx} {A B C:World}
theorem Kf.refl (n₀:Nat)(F:Fx)(W:World):Kf n₀ F W W:=⟨Below.refl _ _,id⟩
theorem Kf.t (h:Kf n₀ F A B)(k:Kf n₀ F B C):Kf n₀ F A C:=⟨h.1.trans k.1,fun f=>k.2 (h.2 f)⟩
theorem Kf.b {w:World}(hn:n₀≤w.heap.size)(W:World)(l:Nat)(o o':Obj)(hl:w.heap.size≤l)(h:W.heap[l]?=some o)(h1:o.isCells=false)(h2:o.isWalk=false):Kf n₀ F W (W.putObj l o'):=
 ⟨belowK_b hn W l o o' hl h h1 h2,fun f=>F.s _ _ (some l) f (grownBy_putObj' W l o') (fun k e=>by cases e;exact⟨o,h,h1⟩)⟩
theorem Kf.ext (h:Kf n₀ F A B)(hn:n₀≤B.heap.size)(hx:Ext B C):Kf n₀ F A C:=⟨h.1.trans (Below.mono hx hn),fun f=>F.ext (h.2 f) hx⟩
end
theorem under1f_171 (F:Fx)(n l0 n₀ Bc Bl Bh:Nat)(ver x y tw th size a1 a2 b1 b2 cx0 cx1 cy0 cy1:Int)(s1 s2 s3:Value)(hn:1≤n)
  (hw1:1≤tw) (hw2:tw≤4000) (hh1:1≤th) (hh2:th≤4000) (hx0:-1≤cx0) (hx0':cx0≤3000000) (hx1:-1≤cx1) (hx1':cx1≤3000000) (hy0:-1≤cy0) (hy0':cy0≤3000000) (hy1:-1≤cy1) (hy1':cy1≤3000000)
  (K1:∀W,Calls Tryz.prog 172 #[.int .i64 y,.int .i64 size,.int .i64 a2] W fun e w'=>e=.returned (.int .i64 cy0)∧W=w')
  (K2:∀W,Calls Tryz.prog 172 #[.int .i64 y,.int .i64 size,.int .i64 b2] W fun e w'=>e=.returned (.int .i64 cy1)∧W=w')
  (K3:∀W,Calls Tryz.prog 172 #[.int .i64 x,.int .i64 size,.int .i64 a1] W fun e w'=>e=.returned (.int .i64 cx0)∧W=w')
  (K4:∀W,Calls Tryz.prog 172 #[.int .i64 x,.int .i64 size,.int .i64 b1] W fun e w'=>e=.returned (.int .i64 cx1)∧W=w')
  (x0 y0:Int) (nx ny:Nat) (ex0:x0=max 0 cx0) (ey0:y0=max 0 cy0) (enx:nx=(min (tw-1) cx1+1-x0).toNat) (eny:ny=(min (th-1) cy1+1-y0).toNat)
  (J Jx:List Int→World→Prop)
  (hY:∀pre x W,J pre W→pre.length<ny*nx→YieldAt Fence.wide (n-1) Tryz.prog l0 (unE x) W fun e W'=>
   (e=.returned (.bool true)∧J (pre++[x]) W'∧Kf n₀ F W W')∨(e=.returned (.bool false)∧Jx (pre++[x]) W'))
  (W:World) (hJa:AbidesFrom W.heap.size J) (hn₀:n₀≤W.heap.size)
  (hF:∀W,F.p W→W.heap[Bc]?=some (.cells #[.int .i64 ver,.int .i64 x,.int .i64 y,.int .i64 tw,.int .i64 th,.int .i64 size,s1,s2,s3] 26)∧W.heap[Bl]?=some (.cells #[.int .i64 a1,.int .i64 a2] 43)∧W.heap[Bh]?=some (.cells #[.int .i64 b1,.int .i64 b2] 43)) (hF0:F.p W) (h0:J [] W) :
  CallsIn Fence.wide n Tryz.prog 171 #[.func (.yield l0) #[] #[],.pointer (some ⟨Bc,0,none⟩),.pointer (some ⟨Bl,0,none⟩),.pointer (some ⟨Bh,0,none⟩)] W fun e W'=>(∃v,e=.returned v) ∧
   ((∃ys,ys=recL tw y0 x0 nx ny∧J ys W')∨(∃pre,(∃i j,i<ny∧j<nx∧pre=recL tw y0 x0 nx i++rowL tw (y0+i) x0 (j+1))∧Jx pre W')):=by
 have C:Hid (∀wr,Kf n₀ F W wr→(wr.cell? ⟨Bc,1,none⟩=some (.int .i64 x)∧wr.cell? ⟨Bc,2,none⟩=some (.int .i64 y)∧wr.cell? ⟨Bc,3,none⟩=some (.int .i64 tw)∧wr.cell? ⟨Bc,4,none⟩=some (.int .i64 th)∧wr.cell? ⟨Bc,5,none⟩=some (.int .i64 size)) ∧
   (wr.cell? ⟨Bl,0,none⟩=some (.int .i64 a1)∧wr.cell? ⟨Bl,1,none⟩=some (.int .i64 a2)∧wr.cell? ⟨Bh,0,none⟩=some (.int .i64 b1)∧wr.cell? ⟨Bh,1,none⟩=some (.int .i64 b2))):=fun wr h=>
  have hh:=hF wr (h.2 hF0);have q:=kbi hh.1;have q2:=kae hh.2.1;have q3:=kae hh.2.2
  ⟨⟨q.2.1,q.2.2.1,q.2.2.2.1,q.2.2.2.2.1,q.2.2.2.2.2.1⟩,q2.1,q2.2.1,q3.1,q3.2.1⟩
 have L:Hid (Bc<W.heap.size∧Bl<W.heap.size∧Bh<W.heap.size):=⟨(qaz (hF W hF0).1).1,(qaz (hF W hF0).2.1).1,(qaz (hF W hF0).2.2).1⟩
 have k1:=Lib.hid K1;have k2:=Lib.hid K2;have k3:=Lib.hid K3;have k4:=Lib.hid K4;have HY:=Lib.hid hY;have HA:=Lib.hid hJa;have EX:=Lib.hid (And.intro enx eny)
 have wth:IntKind.i64.wrap (th-1)=th-1:=by rw[IntKind.wrap_i64];(try unfold wrap64);omega
 have wtw:IntKind.i64.wrap (tw-1)=tw-1:=by rw[IntKind.wrap_i64];(try unfold wrap64);omega
 clear K1 K2 K3 K4 hY hJa enx eny;obtain⟨⟨c1,c2,c3,c4,c5⟩,c6,c7,c8,c9⟩:=C.out W (Kf.refl _ _ _)
 refine callsIn_of_wp Tryz.func171 rfl trivial ?_ rfl
 simp only[Tryz.ntmps171,List.size_toArray,List.length_cons,List.length_nil,Nat.reduceAdd,Nat.reduceSub,Array.replicate_succ,Array.replicate_zero,List.push_toArray,List.append_toArray,List.nil_append,List.cons_append]
 gi_wp2_with (refine⟨trivial,?_⟩;gi_at_call 172;refine(callsIn_wide.2 (k1.out _)).mono ?_;rintro e w' ⟨rfl,rfl⟩)
 rw[←ey0];have EY:=Lib.hid ey0;have EXX:=Lib.hid ex0
 have y0a:0≤y0:=by omega
 have y0b:y0≤3000000:=by omega
 have x0a:0≤x0:=by omega
 have x0b:x0≤3000000:=by omega
 clear ey0 ex0;clear c1 c2 c3 c4 c5 c6 c7 c8 c9
 gi_loopw [5,6] (fun s5 _ wr=>∃i:Nat,i≤ny∧s5=.int .i64 (y0+i)∧J (recL tw y0 x0 nx i) wr∧Kf n₀ F W wr∧W.heap.size≤wr.heap.size)
  (fun s5 _ _=>(y0+ny-intOf s5).toNat)
 case atStart=>exact⟨0,Nat.zero_le _,by simp,by simpa[recL]using h0,Kf.refl _ _ _,Nat.le_refl _⟩
 case round=>
  obtain⟨i,hi,rfl,hJ,hK,hz⟩:=hrel;obtain⟨⟨c1,c2,c3,c4,c5⟩,c6,c7,c8,c9⟩:=C.out wr hK
  obtain⟨l1,l2,l3⟩:Bc<wr.heap.size∧Bl<wr.heap.size∧Bh<wr.heap.size:=by have:=L.out;omega
  by_cases hin:i<ny
  ·have hiy:y0+i≤min (th-1) cy1:=by have:=EX.out.2;omega
   have hdd:decide (y0+(i:Int)≤min (th-1) cy1)=true:=decide_eq_true hiy
   gi_wp2
   refine wpIn_wide.2 ?_
   (refine kad (by kernel_rfl) (by kernel_rfl) ?_;(repeat (first|go_big_quiet_step ((go_at_call 172;exact Xt.calls_same (k2.out _)))|quiet_step ((go_at_call 172;exact Xt.calls_same (k2.out _)))));refine wpQuiet_nil ?_;rintro _ ⟨xq,rfl⟩;have hx2:=xq.ext;generalize xq.world=w2 at hx2 ⊢)
   have hJ2:=HA.out _ _ _ none hJ hx2.gb (fun r e=>by cases e)
   have hK2:=hK.ext (by omega) hx2
   have hz2:W.heap.size≤w2.heap.size:=by have:=hx2.len;omega
   clear hJ hK hz hx2 c1 c2 c3 c4 c5 c6 c7 c8 c9;obtain⟨⟨c1,c2,c3,c4,c5⟩,c6,c7,c8,c9⟩:=C.out w2 hK2
   gi_wp2_with (refine⟨trivial,?_⟩;gi_at_call 172;refine(callsIn_wide.2 (k3.out _)).mono ?_;rintro e w' ⟨rfl,rfl⟩)
   rw[←EXX.out];clear c1 c2 c3 c4 c5 c6 c7 c8 c9
   gi_loopw [6] (fun s6 wq=>∃j:Nat,j≤nx∧s6=.int .i64 (x0+j)∧J (recL tw y0 x0 nx i++rowL tw (y0+i) x0 j) wq∧Kf n₀ F W wq∧W.heap.size≤wq.heap.size)
    (fun s6 _=>(x0+nx-intOf s6).toNat)
   case atStart=>exact⟨0,Nat.zero_le _,by simp,by simpa[rowL]using hJ2,hK2,hz2⟩
   case round=>
    obtain⟨j,hj,rfl,hJ3,hK3,hz3⟩:=hrel;obtain⟨⟨c1,c2,c3,c4,c5⟩,c6,c7,c8,c9⟩:=C.out _ hK3
    obtain⟨l1,l2,l3⟩:Bc<wr.heap.size∧Bl<wr.heap.size∧Bh<wr.heap.size:=by have:=L.out;omega
    by_cases hjn:j<nx
    ·have hjx:x0+j≤min (tw-1) cx1:=by have:=EX.out.1;omega
     have hdj:decide (x0+(j:Int)≤min (tw-1) cx1)=true:=decide_eq_true hjx
     have hjb:x0+(j:Int)≤4000:=by omega
     have hib:y0+(i:Int)≤4000:=by omega
     have hmb:=kdg (x:=y0+(i:Int)) (y:=tw) (m:=4000) (n:=4000) (by omega) (by omega) (by omega) (by omega)
     simp only[Int.reduceMul,Int.reduceNeg]at hmb
     gi_wp2
     refine wpIn_wide.2 ?_
     (refine kad (by kernel_rfl) (by kernel_rfl) ?_;(repeat (first|go_big_quiet_step ((go_at_call 172;exact Xt.calls_same (k4.out _)))|quiet_step ((go_at_call 172;exact Xt.calls_same (k4.out _)))));refine wpQuiet_nil ?_;rintro _ ⟨xq,rfl⟩;have hx2:=xq.ext;generalize xq.world=w2 at hx2 ⊢)
     have hJ4:=HA.out _ _ _ none hJ3 hx2.gb (fun r e=>by cases e)
     have hK4:=hK3.ext (by omega) hx2
     have hz4:W.heap.size≤w2.heap.size:=by have:=hx2.len;omega
     have hlen:(recL tw y0 x0 nx i++rowL tw (y0+i) x0 j).length<ny*nx:=by
      rw[List.length_append,recL_len,rowL_len]
      have:(i+1)*nx≤ny*nx:=Nat.mul_le_mul_right _ hin
      rw[Nat.succ_mul]at this
      omega
     obtain⟨fn,tmps,assign,body,hyy,hR⟩:=HY.out _ ((y0+i)*tw+(x0+j)) _ hJ4 hlen;simp only[unE]at hyy;rw[List.append_assoc,←kmu]at hR;clear hJ3 hK3 hz3 hx2 c1 c2 c3 c4 c5 c6 c7 c8 c9 hlen hJ4;obtain⟨⟨c1,c2,c3,c4,c5⟩,c6,c7,c8,c9⟩:=C.out w2 hK4
     gi_wp2
     refine hR.mono ?_
     rintro e W3 (⟨rfl,hJ5,hk5⟩|⟨rfl,hJx5⟩)
     ·have hs5:=hk5.1.size
      gi_wp2
      go_roundw
      case rel=>exact⟨j+1,by omega,by simp;omega,hJ5,hK4.t hk5,by omega⟩
      case measure=>simp[intOf];omega
     ·gi_wp2
      refine bodyPost_ret (results_none rfl _ _ _) rfl ?_
      exact⟨⟨_,rfl⟩,.inr ⟨_,⟨i,j,hin,hjn,rfl⟩,hJx5⟩⟩
    ·obtain rfl:j=nx:=by omega
     have hjx:¬ x0+(j:Int)≤min (tw-1) cx1:=by have:=EX.out.1;omega
     have hdj:decide (x0+(j:Int)≤min (tw-1) cx1)=false:=decide_eq_false hjx
     gi_wp2
     refine wpIn_wide.2 ?_
     (refine kad (by kernel_rfl) (by kernel_rfl) ?_;(repeat (first|go_big_quiet_step ((go_at_call 172;exact Xt.calls_same (k4.out _)))|quiet_step ((go_at_call 172;exact Xt.calls_same (k4.out _)))));refine wpQuiet_nil ?_;rintro _ ⟨xq,rfl⟩;have hx2:=xq.ext;generalize xq.world=w2 at hx2 ⊢)
     have hJ4:=HA.out _ _ _ none hJ3 hx2.gb (fun r e=>by cases e)
     have hK4:=hK3.ext (by omega) hx2
     have hz4:W.heap.size≤w2.heap.size:=by have:=hx2.len;omega
     gi_wp2
     go_roundw
     case rel=>exact⟨i+1,by omega,by simp;omega,by rw[kjg];exact hJ4,hK4,hz4⟩
     case measure=>simp[intOf];omega
  ·obtain rfl:i=ny:=by omega
   have hiy:¬ y0+(i:Int)≤min (th-1) cy1:=by have:=EX.out.2;omega
   have hdd:decide (y0+(i:Int)≤min (th-1) cy1)=false:=decide_eq_false hiy
   gi_wp2
   refine wpIn_wide.2 ?_
   (refine kad (by kernel_rfl) (by kernel_rfl) ?_;(repeat (first|go_big_quiet_step ((go_at_call 172;exact Xt.calls_same (k2.out _)))|quiet_step ((go_at_call 172;exact Xt.calls_same (k2.out _)))));refine wpQuiet_nil ?_;rintro _ ⟨xq,rfl⟩;have hx2:=xq.ext;generalize xq.world=w2 at hx2 ⊢)
   have hJ2:=HA.out _ _ _ none hJ hx2.gb (fun r e=>by cases e)
   gi_wp2
   go_end0
   exact⟨⟨_,rfl⟩,.inl ⟨_,rfl,hJ2⟩⟩
theorem underf_stops (F:Fx)(n:Nat)(t:ChartT)(a b:Pt)(n₀ Bc Bl Bh:Nat)(hn:1≤n)(hok:kao t=true)(ha:plB a=true)(hb:plB b=true)(w:World)(hn₀:n₀≤w.heap.size)
  (hF:∀W,F.p W→W.heap[Bc]?=some (.cells t.vals.toArray 26)∧W.heap[Bl]?=some (.cells #[.int .i64 a.1,.int .i64 a.2] 43)∧W.heap[Bh]?=some (.cells #[.int .i64 b.1,.int .i64 b.2] 43)) (hF0:F.p w) :
  ∃N,N≤16000000∧SeqStopsK Fence.wide n Tryz.prog 171 #[.pointer (some ⟨Bc,0,none⟩),.pointer (some ⟨Bl,0,none⟩),.pointer (some ⟨Bh,0,none⟩)] unE (Kf n₀ F) (fun ys=>ys=kig t a b)
   (fun pre=>∃x rest,pre++rest=kig t a b∧pre.head?=some x) N w:=by
 obtain⟨⟨d1,d2,d3,d4,d5,d6⟩,d7,d8,d9,d10⟩:=kgj hok;obtain⟨a1,a2,a3,a4⟩:=knc ha;obtain⟨b1,b2,b3,b4⟩:=knc hb
 refine⟨(min (t.h-1) (colI t.y t.size b.2)+1-max 0 (colI t.y t.size a.2)).toNat*(min (t.w-1) (colI t.x t.size b.1)+1-max 0 (colI t.x t.size a.1)).toNat,Nat.le_trans (Nat.mul_le_mul (show _≤4000 by omega) (show _≤4000 by omega)) (by omega),fun l J Jx W hW hJ hJx hY h0=>?_⟩
 have:=under1f_171 F n l n₀ Bc Bl Bh t.version t.x t.y t.w t.h t.size a.1 a.2 b.1 b.2 (colI t.x t.size a.1) (colI t.x t.size b.1) (colI t.y t.size a.2) (colI t.y t.size b.2) (.slice t.cA t.cells.length t.cc) (.slice t.bA t.beacons.length t.bc) (.slice t.lA t.lines.length t.lc)
  hn d1 d2 d3 d4 (kfj (by omega) (by omega) (by omega) (by omega) (by omega)).1 (kfj (by omega) (by omega) (by omega) (by omega) (by omega)).2 (kfj (by omega) (by omega) (by omega) (by omega) (by omega)).1 (kfj (by omega) (by omega) (by omega) (by omega) (by omega)).2
  (kfj (by omega) (by omega) (by omega) (by omega) (by omega)).1 (kfj (by omega) (by omega) (by omega) (by omega) (by omega)).2 (kfj (by omega) (by omega) (by omega) (by omega) (by omega)).1 (kfj (by omega) (by omega) (by omega) (by omega) (by omega)).2
  (fun W=>khn _ _ _ (by omega) (by omega) (by omega) (by omega) (by omega) (by omega) W) (fun W=>khn _ _ _ (by omega) (by omega) (by omega) (by omega) (by omega) (by omega) W)
  (fun W=>khn _ _ _ (by omega) (by omega) (by omega) (by omega) (by omega) (by omega) W) (fun W=>khn _ _ _ (by omega) (by omega) (by omega) (by omega) (by omega) (by omega) W)
  _ _ _ _ rfl rfl rfl rfl J Jx hY W hJ (Nat.le_trans hn₀ hW.size) hF (F.ext hF0 hW) h0
 refine this.mono fun e W' ⟨hv,h⟩=>⟨hv,h.imp (fun ⟨ys,h1,h2⟩=>⟨ys,h1,h2⟩) (fun ⟨pre,⟨i,j,hi,hj,hp⟩,h2⟩=>⟨pre,?_,h2⟩)⟩
 subst hp;obtain⟨r1,h1⟩:=recL_prefix t.w (max 0 (colI t.y t.size a.2)) (max 0 (colI t.x t.size a.1)) (min (t.w-1) (colI t.x t.size b.1)+1-max 0 (colI t.x t.size a.1)).toNat (i+1) _ hi;obtain⟨r2,h2'⟩:=rowL_prefix t.w (max 0 (colI t.y t.size a.2)+i) (max 0 (colI t.x t.size a.1)) (j+1) _ hj
 have hne:recL t.w (max 0 (colI t.y t.size a.2)) (max 0 (colI t.x t.size a.1)) (min (t.w-1) (colI t.x t.size b.1)+1-max 0 (colI t.x t.size a.1)).toNat i++rowL t.w (max 0 (colI t.y t.size a.2)+i) (max 0 (colI t.x t.size a.1)) (j+1)≠[]:=by
  rw[kmu];simp
 obtain⟨x,l',hx⟩:=List.exists_cons_of_ne_nil hne
 refine⟨x,r2++r1,?_,by rw[hx];rfl⟩
 unfold kig;rw[←h1,kjg,←h2'];simp only[List.append_assoc]
set_option maxHeartbeats 8000000
def fx3 (Bc Bl Bh:Nat)(cs ds es:Array Value):Fx where
 p W:=W.heap[Bc]?=some (.cells cs 26)∧W.heap[Bl]?=some (.cells ds 43)∧W.heap[Bh]?=some (.cells es 43)
 s X Y row h hg hr:=by
  have key:∀(b:Nat) (xs:Array Value) (ty:TypeId),X.heap[b]?=some (.cells xs ty)→Y.heap[b]?=some (.cells xs ty):=fun b xs ty hb=>
   (hg.block b (qaz hb).1 (fun e=>by obtain⟨o,ho,hc⟩:=hr b e.symm;rw[hb]at ho;cases ho;cases hc)).trans hb
  exact⟨key _ _ _ h.1,key _ _ _ h.2.1,key _ _ _ h.2.2⟩
theorem touched_228 (t:ChartT)(a b:Pt)(w:World)(H:t.Lies w)(hok:kao t=true)(ha:plB a=true)(hb:plB b=true)(h1:a.1≤b.1)(h2:a.2≤b.2) :
  Calls Tryz.prog 228 #[.agg t.vals.toArray,.agg #[.int .i64 a.1,.int .i64 a.2],.agg #[.int .i64 b.1,.int .i64 b.2]] w fun e w'=>∃v,e=.returned (.tuple #[v,.int .i64 0])∧LI w.heap.size w' v (kig t a b)∧Ext w w':=by
 have K1:=Lib.hid (fun W (hx:Ext w W)=>keg t W (H.ext hx))
 have K2:=Lib.hid (kej a (kkm ha).1 (kkm ha).2);have K3:=Lib.hid (kej b (kkm hb).1 (kkm hb).2)
 have KU:=Lib.hid (fun W=>under_110 t a b W)
 have KX:=Lib.hid (fun W hx=>kdk w t.vals.toArray #[.int .i64 a.1,.int .i64 a.2] #[.int .i64 b.1,.int .i64 b.2] 26 43 43 W hx)
 have KS:=Lib.hid (fun W Bc Bl Bh hn hF=>underf_stops (fx3 Bc Bl Bh t.vals.toArray #[.int .i64 a.1,.int .i64 a.2] #[.int .i64 b.1,.int .i64 b.2]) (9-1) t a b w.heap.size Bc Bl Bh (by omega) hok ha hb W hn (fun _ h=>h) hF)
 rw[hok]at K1;rw[ha]at K2;rw[hb]at K3;clear H hok ha hb;generalize kig t a b=full at KS ⊢;obtain⟨a1,a2⟩:=a;obtain⟨b1,b2⟩:=b;obtain⟨version,x,y,tw,th,size,cA,cc,cells,bA,bc,beacons,lA,lc,lines⟩:=t;simp only[ChartT.vals]at *
 have hd1:decide (b1<a1)=false:=decide_eq_false (by omega)
 have hd2:decide (b2<a2)=false:=decide_eq_false (by omega)
 refine(callsIn_wide (n:=9)).1 ?_
 refine callsIn_of_wp_marks Tryz.func228 rfl trivial ?_ rfl
 refine wpIn_wide.2 ?_
 simp only[Tryz.ntmps228,List.size_toArray,List.length_cons,List.length_nil,Nat.reduceAdd,Nat.reduceSub,Array.replicate_succ,Array.replicate_zero,List.push_toArray,List.append_toArray,List.nil_append,List.cons_append]
 go_wp2_with fail
 go_at_call 41
 refine(K1.out _ xt).mono ?_
 rintro e w1 ⟨rfl,hx1⟩;obtain⟨u0,u1,u2⟩:=KX.out _ hx1;obtain⟨e0,e1,_,_⟩:=kae u1;have z1:=(qaz u1).1
 go_wp2_with fail
 go_at_call 85
 refine(K2.out _).mono ?_
 rintro e w2 ⟨rfl,hx2⟩;replace u0:=kaf hx2 u0;replace u1:=kaf hx2 u1;replace u2:=kaf hx2 u2;clear e0 e1 z1;obtain⟨e0,e1,_,_⟩:=kae u2;have z1:=(qaz u2).1
 go_wp2_with fail
 go_at_call 85
 refine(K3.out _).mono ?_
 rintro e w3 ⟨rfl,hx3⟩;replace u0:=kaf hx3 u0;replace u1:=kaf hx3 u1;replace u2:=kaf hx3 u2;clear e0 e1 z1;obtain⟨e0,e1,_,_⟩:=kae u1;obtain⟨f0,f1,_,_⟩:=kae u2;obtain⟨q0,q1,q2,q3,q4,q5,q6,q7,q8⟩:=kbi u0;have z1:=(qaz u0).1;have z2:=(qaz u1).1;have z3:=(qaz u2).1
 have HX:Hid (Ext w w3):=((((Ext.refl w).alloc _).alloc _).alloc _).trans (hx1.trans (hx2.trans hx3))
 clear hx1 hx2 hx3 K1 K2 K3 KX u0 u1 u2
 go_wp2_with (go_at_call 110;refine(KU.out _).mono ?_;rintro e w4 ⟨rfl,rfl⟩)
 obtain⟨W0,hW0⟩:∃W0,(((w3.alloc (.cells #[.slice none 0 0] 41)).alloc (.cells #[.int .i64 version,.int .i64 x,.int .i64 y,.int .i64 tw,.int .i64 th,.int .i64 size,.slice cA cells.length cc,.slice bA beacons.length bc,.slice lA lines.length lc] 26)).alloc (.cells #[.int .i64 a1,.int .i64 a2] 43)).alloc (.cells #[.int .i64 b1,.int .i64 b2] 43)=W0:=⟨_,rfl⟩
 have hz0:W0.heap.size=w3.heap.size+4:=by rw[←hW0];simp
 obtain⟨bO,bC,bL,bH⟩:=boxes4 w3 #[.slice none 0 0] _ _ _ 41 _ _ _ W0 (by rw[←hW0];exact Ext.refl _)
 have hB0:Below w.heap.size w W0:=by rw[←hW0];exact HX.out.trans ((((Ext.refl w3).alloc _).alloc _).alloc _ |>.alloc _)
 have hsz:=HX.out.len;rw[hW0]
 obtain⟨N,hN,hst⟩:=KS.out W0 (w3.heap.size+1) (w3.heap.size+1+1) (w3.heap.size+1+1+1) (by omega) ⟨bC,bL,bH⟩
 clear hW0 KS KU e0 e1 f0 f1 q0 q1 q2 q3 q4 q5 q6 q7 q8 bC bL bH
 refine(wpIn_wide (n:=9)).1 ?_
 refine at_act (G:=fun A=>Code.wpIn _ _ _ _ _ A _) ?_
 intro A0 hA0
 refine wpIn_rangeFunc_ownH rfl (by omega) (gf:=171) (lb:=#[.pointer (some ⟨w3.heap.size+1,0,none⟩),.pointer (some ⟨w3.heap.size+1+1,0,none⟩),.pointer (some ⟨w3.heap.size+1+1+1,0,none⟩)]) (by rw[hA0];rfl) trivial (enters_of Tryz.func171 (by kernel_rfl) rfl)
  hst Kf.t (Kf.b (by omega)) (Below.refl _ _) (fun _=>rfl)
  (fun pre W=>BoxG encI 41 3 1 w.heap.size w3.heap.size W pre∧Below w.heap.size w W)
  (fun _ _ _=>False)
  (OwnFrom.and (boxG_own _ _ _ (fun pre=>pre)) (ownFrom_below (Nat.le_refl _) (by omega)))
  (fun _ _ _ _ _ h _ _=>h.elim)
  ⟨⟨_,bO,LG.nil _ _ _ _ _⟩,hB0⟩
  (fun xv a' W=>a'={ tmps:=(A0.tmps.setIfInBounds 41 (.int .i64 xv)).setIfInBounds 9 (.int .i64 xv),defers:=[] })
  (fun x a' _ X Y row hs hg hr=>hs)
  ?assign ?body ?done ?stop
 case assign=>
  rintro l pre xv W K hI hK;subst hA0;simp only[unE]
  gi_wp2
  exact hK _ _ (KeepsFrom.refl _ _) (Kf.refl _ _ _) hI rfl
 case body=>
  rintro l pre xv a' W hl ⟨r,hr⟩ ⟨⟨v,bO,hv⟩,hB⟩ rfl hlt;subst hA0;have c4:=bO.cell
  have y4:w3.heap.size<W.heap.size:=(qaz bO).1
  simp only[List.setIfInBounds_toArray,List.set_cons_succ,List.set_cons_zero]
  gi_wp2_with (gi_at_builtin;refine kir appsI rfl _ _ rfl w.heap.size v pre rfl (hv.ext ((Ext.refl _).alloc _)) ?qB ⟨W.heap.size,0,none⟩ 1 1 [xv] rfl rfl (tmpOne W _ 3) ?qb ?_)
  case qB=>simp only[qsa];omega
  case qb=>omega
  intro v' w2 hv2 hb2 hg2 _
  have bO1:Boxed (W.alloc (.cells #[.int .i64 xv] 3)) w3.heap.size 41 v:=bO.alloc _
  have hv1:=hv.ext (W':=W.alloc (.cells #[.int .i64 xv] 3)) ((Ext.refl _).alloc _)
  have bO2:Boxed w2 w3.heap.size 41 v:=hv1.other hg2 bO1 (by decide)
  have HH:=Lib.hid (And.intro bO1 (And.intro hv1 (And.intro bO2 (And.intro hv2 (And.intro hb2 (And.intro hg2 hB))))));have c5:=bO2.cell;have f5:=bO2.frozen
  have y5:w3.heap.size<w2.heap.size:=(qaz bO2).1
  obtain⟨A2,c2,rfl,_⟩:=hv2.reads (fun _=>rfl)
  generalize (pre++[xv]).length=n5 at *;clear bO1 hv1 bO2 hv2 hb2 hg2 hB bO hv c4
  gi_wp2_with fail
  obtain⟨bO1,hv1,bO2,hv2,hb2,hg2,hB⟩:=HH.out
  have hE:Ext W (W.alloc (.cells #[.int .i64 xv] 3)):=(Ext.refl W).alloc _
  have hko:=hE.ko.trans ((hv1.ko hg2).trans (KeepsOthers.setCell w2 ⟨w3.heap.size,0,none⟩ (.slice A2 n5 c2)))
  have hbel:Below w.heap.size W (w2.setCell ⟨w3.heap.size,0,none⟩ (.slice A2 n5 c2)):=((Below.mono hE (by omega)).trans hb2).setCell (p:=⟨w3.heap.size,0,none⟩) (by simp only;omega) _
  refine⟨hko.from _,⟨hbel,fun f=>⟨?_,?_,?_⟩⟩,⟨_,bO2.set _,hv2.setBox bO2 (by decide) _⟩,hB.trans hbel⟩
  ·exact kah (hv1.other hg2 (kaf hE f.1) (by decide)) (by omega) _
  ·exact kah (hv1.other hg2 (kaf hE f.2.1) (by decide)) (by omega) _
  ·exact kah (hv1.other hg2 (kaf hE f.2.2) (by decide)) (by omega) _
 case done=>
  rintro D ys W hD rfl ⟨⟨v,bO,hv⟩,hB⟩ hK;subst hA0;have c4:=bO.cell
  go_wp2
  refine⟨by simp,.inl ⟨_,_,rfl,run_takeDeferred hK,?_⟩⟩
  refine⟨.tuple #[v,.int .i64 0],by simp[results,Tryz.f228,go_sem],v,rfl,?_,hB.trans (belowK_b (w:=w) (Nat.le_refl _) _ D _ _ (by omega) hK rfl rfl)⟩
  exact hv.kept (grownBy_putObj' _ D (.deferred none)) (fun k e=>by cases e;exact⟨_,hK,rfl⟩)
 case stop=>
  rintro D k pre W _ _ h _
  exact h.elim
end Go.Proofs.YtcgghcicnanliaaGreatDoor
namespace Go.Proofs.YtcgghcicnanliaaGreatDoor
open Go.RowKit Go.Lib
set_option maxHeartbeats 1000000
set_option maxRecDepth 100000
def sqC (t:ChartT)(i:Int):List Pt:=[sqLo t i,((sqHi t i).1,(sqLo t i).2),sqHi t i,((sqLo t i).1,(sqHi t i).2)]
def sqL (t:ChartT)(i:Int):List Pt:=kdv (sqC t i)
theorem kkh {t:ChartT}{i:Int}(hok:kao t=true)(h0:0≤i)(hi:i.toNat<t.cells.length):∀y∈sqC t i,plB y=true:=by
 obtain⟨h1,h2,_⟩:=kmq hok h0 hi;intro y hy;simp only[sqC,List.mem_cons,List.not_mem_nil,or_false]at hy;simp only[plB,inB,qba,decide_eq_true_eq]at h1 h2 ⊢
 rcases hy with rfl|rfl|rfl|rfl
 all_goals omega
theorem sqL_props {t:ChartT}{i:Int}(hok:kao t=true)(h0:0≤i)(hi:i.toNat<t.cells.length):(∀y∈sqL t i,plB y=true)∧(sqL t i).length≤8:=
 ⟨fun y hy=>kkh hok h0 hi y (kno hy),knp (sqC t i)⟩
theorem klh {W:World}{B:Nat}{a b c d e f g h i j k:Value}{t:TypeId}(hb:W.heap[B]?=some (.cells #[a,b,c,d,e,f,g,h,i,j,k] t)):W.cell? ⟨B,0,none⟩=some a∧W.cell? ⟨B,1,none⟩=some b∧W.cell? ⟨B,2,none⟩=some c∧W.cell? ⟨B,3,none⟩=some d ∧
  W.cell? ⟨B,4,none⟩=some e∧W.cell? ⟨B,5,none⟩=some f∧W.cell? ⟨B,6,none⟩=some g∧W.cell? ⟨B,7,none⟩=some h∧W.cell? ⟨B,8,none⟩=some i∧W.cell? ⟨B,9,none⟩=some j∧W.cell? ⟨B,10,none⟩=some k∧B<W.heap.size:=by
 refine⟨?_,?_,?_,?_,?_,?_,?_,?_,?_,?_,?_,(qaz hb).1⟩<;>simp[World.cell?,hb]
theorem square_230 (t:ChartT)(i:Int)(B:Nat)(u9 u10:Value)(w:World)(H:t.Lies w)(hok:kao t=true)(h0:0≤i)(hi:i.toNat<t.cells.length)(hB:w.heap[B]?=some (.cells (t.vals++[u9,u10]).toArray 183)) :
  Calls Tryz.prog 230 #[.pointer (some ⟨B,0,none⟩),.int .i64 i] w fun e w'=>∃A c,e=.returned (.slice A (sqL t i).length c)∧Sl encP 2 w' A (sqL t i)∧Ext w w':=by
 have K1:=Lib.hid (square_275 t i w H hok h0 hi)
 have HE:Hid (kaz (sqC t i)=0):=kjr (by simp[sqC]) (by simp[sqC]) (kkh hok h0 hi)
 have K2:Hid (∀W A c,Sl encP 2 W A (sqC t i)→Calls Tryz.prog 158 #[.slice A (sqC t i).length c] W fun e w'=>∃g cap,e=.returned (.tuple #[.slice (some ⟨g,0,none⟩) (sqL t i).length cap,.int .i64 0])∧Sl encP 2 w' (some ⟨g,0,none⟩) (sqL t i)∧Ext W w'):=fun W A c hS=>by
  refine(hull_158 A c (sqC t i) W hS (fun y hy=>kkm (kkh hok h0 hi y hy))).mono fun e w' ⟨v,he,hx,h⟩=>?_
  rcases h with ⟨_,g,cap,rfl,hP⟩|⟨h,_⟩
  ·exact⟨g,cap,by rw[he,HE.out];rfl,hP.sl,hx⟩
  ·exact absurd HE.out h
 rw[show (sqC t i).length=4 from rfl,show sqC t i=[sqLo t i,((sqHi t i).1,(sqLo t i).2),sqHi t i,((sqLo t i).1,(sqHi t i).2)] from rfl]at K2
 clear HE hok H h0 hi;generalize sqL t i=L at K2 ⊢;generalize sqLo t i=lo at K1 K2;generalize sqHi t i=hi at K1 K2;obtain⟨lx,ly⟩:=lo;obtain⟨hx,hy⟩:=hi;obtain⟨version,x,y,tw,th,size,cA,cc,cells,bA,bc,beacons,lA,lc,lines⟩:=t;simp only[ChartT.vals,List.cons_append,List.nil_append]at *;obtain⟨q0,q1,q2,q3,q4,q5,q6,q7,q8,q9,q10,hlt⟩:=klh hB;clear hB
 go_enter Tryz.func230,Tryz.ntmps230
 go_wp2_with fail
 go_at_call 275
 refine K1.out.mono ?_
 rintro e w1 ⟨rfl,hx1⟩;have hz1:=hx1.len;clear q0 q1 q2 q3 q4 q5 q6 q7 q8 q9 q10
 go_wp2_with fail
 have hS0:=Sl.new (enc:=encP) (k:=2) (fun _=>rfl) ((w1.alloc (.cells #[.int .i64 lx,.int .i64 ly] 43)).alloc (.cells #[.int .i64 hx,.int .i64 hy] 43)) [(lx,ly),(hx,ly),(hx,hy),(lx,hy)] 43
 simp only[qsa]at hS0
 refine(K2.out _ _ 4 hS0).mono ?_
 rintro e w2 ⟨g,cap,rfl,hS2,hx2⟩
 go_wp2_with fail
 go_ret
 refine⟨_,_,rfl,hS2,?_⟩
 refine Ext.trans ?_ hx2
 exact xt
set_option maxHeartbeats 8000000
attribute [local go_sem] Oper.semAt_some
structure Fz where
 own:World→Nat→Prop
 p:World→Prop
 s:∀X Y row,p X→X.grownBy Y row→(∀k,row=some k→∃o:Obj,X.heap[k]?=some o∧o.isCells=false)→p Y∧∀k,own Y k→own X k
 lt:∀X k,p X→own X k→k<X.heap.size
def Kz (n₀:Nat)(F:Fz)(W W':World):Prop:=Below n₀ W W'∧(F.p W→F.p W'∧∀k o,W.heap[k]?=some o→o.isCells=true→¬ F.own W k→W'.heap[k]?=some o∧¬ F.own W' k)
section
variable {n₀:Nat} {F:Fz} {A B C:World}
theorem Kz.refl (n₀:Nat)(F:Fz)(W:World):Kz n₀ F W W:=⟨Below.refl _ _,fun h=>⟨h,fun _ _ h1 _ h3=>⟨h1,h3⟩⟩⟩
theorem Kz.t (h:Kz n₀ F A B)(k:Kz n₀ F B C):Kz n₀ F A C:=
 ⟨h.1.trans k.1,fun f=>⟨(k.2 (h.2 f).1).1,fun j o h1 h2 h3=>have q:=(h.2 f).2 j o h1 h2 h3;(k.2 (h.2 f).1).2 j o q.1 h2 q.2⟩⟩
theorem Kz.grown {row:Option Nat}(hg:A.grownBy B row)(hn:n₀≤A.heap.size)(hr:∀k,row=some k→n₀≤k∧∃o:Obj,A.heap[k]?=some o∧o.isCells=false):Kz n₀ F A B:=
 ⟨(Below.refl n₀ A).grown hg hn (fun k e=>(hr k e).1),fun f=>have q:=F.s A B row f hg (fun k e=>(hr k e).2)
   ⟨q.1,fun k o h1 h2 h3=>⟨(hg.block k (qaz h1).1 (fun e=>by obtain⟨_,o',ho',hc'⟩:=hr k e.symm;rw[h1]at ho';cases ho';rw[h2]at hc';cases hc')).trans h1,fun e=>h3 (q.2 k e)⟩⟩⟩
theorem Kz.b {w:World}(hn:n₀≤w.heap.size)(W:World)(l:Nat)(o o':Obj)(hl:w.heap.size≤l)(h:W.heap[l]?=some o)(h1:o.isCells=false)(h2:o.isWalk=false):Kz n₀ F W (W.putObj l o'):=
 Kz.grown (grownBy_putObj' W l o') (by have:=(qaz h).1;omega) (fun k e=>by cases e;exact⟨by omega,o,h,h1⟩)
theorem Kz.ext (h:Kz n₀ F A B)(hn:n₀≤B.heap.size)(hx:Ext B C):Kz n₀ F A C:=h.t (Kz.grown hx.gb hn (fun k e=>by cases e))
theorem Kz.lg {α : Type}{enc:α→List Value}{T k b:Nat}{v:Value}{l:List α}(h:Kz n₀ F A C)(hF:F.p A)(hl:LG enc T k b A v l)(ho:∀g,v.ownBlock=some g→¬ F.own A g):LG enc T k b C v l∧∀g,v.ownBlock=some g→¬ F.own C g:=by
 rcases hl.2 with ⟨rfl,h2⟩|⟨g,cap,cur,rfl,h2,h3,h4⟩
 ·exact⟨⟨hl.1,.inl ⟨rfl,h2⟩⟩,fun g e=>by simp[Value.ownBlock]at e⟩
 ·have q:=(h.2 hF).2 g _ h3 rfl (ho g rfl)
  exact⟨⟨hl.1,.inr ⟨g,cap,cur,rfl,h2,q.1,h4⟩⟩,fun j e=>by simp[Value.ownBlock]at e;subst e;exact q.2⟩
end
def ken (t:ChartT)(p:List Pt):List Int:=(kig t (kbb p) (kbc p)).filter fun i=>kml p (sqL t i)
abbrev QT:=Int × Option Addr × Nat × Nat
def touchE (x:QT):Array Value:=#[.int .i64 x.1,.slice x.2.1 x.2.2.1 x.2.2.2]
theorem eg_229:∀args w,(callFunc 229 args).run Tryz.prog w=.ok (.enter 229 args) w:=enters_of Tryz.func229 (by kernel_rfl) rfl
theorem eg_230:∀args w,(callFunc 230 args).run Tryz.prog w=.ok (.enter 230 args) w:=enters_of Tryz.func230 (by kernel_rfl) rfl
theorem eg_228:∀args w,(callFunc 228 args).run Tryz.prog w=.ok (.enter 228 args) w:=enters_of Tryz.func228 (by kernel_rfl) rfl
theorem touched1_227 (F:Fz)(n l0 n₀ Bp Bs B cp:Nat)(t:ChartT)(p:List Pt)(Ap:Option Addr)(u9:Value)(w0:World)(hn:1≤n)(hn₀:n₀=w0.heap.size)(H:t.Lies w0)(hok:kao t=true)(hS:Sl encP 2 w0 Ap p)(vp:kas p=true)(hp:∀y∈p,plB y=true)
  (J Jx:List QT→World→Prop)
  (hY:∀pre x W,J pre W→pre.length<4000→x.1∈ken t p→YieldAt Fence.wide (n-1) Tryz.prog l0 (touchE x) W fun e W'=>
   (e=.returned (.bool true)∧J (pre++[x]) W'∧Kz n₀ F W W')∨(e=.returned (.bool false)∧Jx (pre++[x]) W'))
  (W:World) (hX:Ext w0 W) (hJa:AbidesFrom W.heap.size J)
  (hF:∀W,F.p W→W.heap[Bp]?=some (.cells #[.slice Ap p.length cp] 76)∧W.heap[Bs]?=some (.cells #[.pointer (some ⟨B,0,none⟩)] 176)∧∃u10,W.heap[B]?=some (.cells (t.vals++[u9,u10]).toArray 183))
  (hF0:F.p W) (h0:J [] W) :
  CallsIn Fence.wide n Tryz.prog 227 #[.func (.yield l0) #[] #[],.pointer (some ⟨Bp,0,none⟩),.pointer (some ⟨Bs,0,none⟩)] W fun e W'=>(∃v,e=.returned v) ∧
   ((∃ys,ys.map (·.1)=ken t p∧J ys W')∨(∃pre,Jx pre W')):=by
 have d1:1≤p.length∧p.length≤64:=by simp only[kas,qba,decide_eq_true_eq]at vp;omega
 obtain⟨bp1,bp2,bp3,bp4⟩:=box_places (show 0<p.length by omega) hp
 have CF:Hid (∀wr,Kz n₀ F W wr→∀W2,Ext wr W2→F.p W2∧(W2.heap[Bp]?=some (.cells #[.slice Ap p.length cp] 76)∧W2.heap[Bs]?=some (.cells #[.pointer (some ⟨B,0,none⟩)] 176)∧∃u10,W2.heap[B]?=some (.cells (t.vals++[u9,u10]).toArray 183))):=
  fun wr h W2 hx=>have q:=(F.s wr W2 none (h.2 hF0).1 hx.gb (fun k e=>by cases e)).1;⟨q,hF W2 q⟩
 have CX:Hid (∀wr,Kz n₀ F W wr→∀W2,Ext wr W2→Ext w0 W2):=fun wr h W2 hx=>(Below.trans hX (by rw[←hn₀];exact h.1)).trans (Below.mono hx (by have:=h.1.size;have:=hX.len;omega))
 have K73:Hid (∀W',Ext w0 W'→Calls Tryz.prog 73 #[.slice Ap p.length cp] W' fun e w'=>e=.returned (.tuple #[.agg #[.int .i64 (kbb p).1,.int .i64 (kbb p).2],.agg #[.int .i64 (kbc p).1,.int .i64 (kbc p).2],.int .i64 0])∧Ext W' w'):=fun W' h=>by
  have:=khm Ap cp p W' (hS.ext h) hp
  unfold boxV at this
  rwa [if_pos vp]at this
 have K228:=Lib.hid (fun W' (h:Ext w0 W')=>touched_228 t (kbb p) (kbc p) W' (H.ext h) hok bp1 bp2 bp3 bp4)
 have K230:=Lib.hid (fun x (hx:x∈kig t (kbb p) (kbc p)) W' u10 (h:Ext w0 W')=>square_230 t x B u9 u10 W' (H.ext h) hok (kge hok hx).1 (kge hok hx).2)
 have K229:=Lib.hid (fun x (hx:x∈kig t (kbb p) (kbc p)) W' A c (h:Ext w0 W') (hT:Sl encP 2 W' A (sqL t x))=>meet_any Ap A cp c p (sqL t x) W' (hS.ext h) hT hp (sqL_props hok (kge hok hx).1 (kge hok hx).2).1 vp (sqL_props hok (kge hok hx).1 (kge hok hx).2).2)
 obtain⟨f,hf⟩:∃f:Int→Bool,(fun i=>kml p (sqL t i))=f:=⟨_,rfl⟩
 have hf':∀i,kml p (sqL t i)=f i:=fun i=>by rw[←hf]
 have HT:Hid (ken t p=(kig t (kbb p) (kbc p)).filter f):=by show _=_;rw[←hf];rfl
 have hL4:=klx hok (kbb p) (kbc p);simp only[hf']at K229;generalize kig t (kbb p) (kbc p)=L at *;generalize ken t p=TL at *;generalize sqL t=sq at *;generalize kbb p=lo at *;generalize kbc p=hi at *;generalize p.length=np at *;obtain⟨lx,ly⟩:=lo;obtain⟨hx0,hy0⟩:=hi;have HY:=Lib.hid hY;have HA:=Lib.hid hJa;have HF0:=Lib.hid hF0
 have HN:Hid (n₀≤W.heap.size):=by show _≤_;rw[hn₀];exact hX.len
 clear hY hJa hF0 hF hX H hok hS vp hp d1 bp1 bp2 bp3 bp4 hf hf' hn₀;obtain⟨version,x,y,tw,th,size,cA,cc,cells,bA,bc,beacons,lA,lc,lines⟩:=t;simp only[ChartT.vals,List.cons_append,List.nil_append]at *;obtain⟨_,gP,gS,u10,gB⟩:=CF.out W (Kz.refl _ _ _) W (Ext.refl _)
 have cP:W.cell? ⟨Bp,0,none⟩=some (.slice Ap np cp):=by simp[World.cell?,gP]
 refine callsIn_of_wp Tryz.func227 rfl trivial ?_ rfl
 simp only[Tryz.ntmps227,List.size_toArray,List.length_cons,List.length_nil,Nat.reduceAdd,Nat.reduceSub,Array.replicate_succ,Array.replicate_zero,List.push_toArray,List.append_toArray,List.nil_append,List.cons_append]
 gi_wp2_with (refine⟨trivial,?_⟩;gi_at_call 73;refine(callsIn_wide.2 (K73.out _ (CX.out W (Kz.refl _ _ _) W (Ext.refl _)))).mono ?_;rintro e w1 ⟨rfl,hx1⟩)
 have hz1:=hx1.len;clear cP gP gS gB
 refine kbd (G:=fun U=>Code.wpIn _ _ _ _ _ _ U) (fun U=>Ext W U∧U.heap[w1.heap.size]?=some (.cells #[.int .i64 lx,.int .i64 ly] 43)∧U.heap[w1.heap.size+1]?=some (.cells #[.int .i64 hx0,.int .i64 hy0] 43)) ?_ ?_
 rotate_left
 ·exact⟨(Ext.trans hx1 (((Ext.refl w1).alloc _).alloc _)),by rw[Below.heap_alloc _ _ _ (by simp only[qsa];omega)];exact qan w1 _,by
   have:=qan (w1.alloc (.cells #[.int .i64 lx,.int .i64 ly] 43)) (.cells #[.int .i64 hx0,.int .i64 hy0] 43)
   simpa only[qsa]using this⟩
 rintro U ⟨hU,v0,v1⟩;obtain⟨fU,gP,gS,u10,gB⟩:=CF.out W (Kz.refl _ _ _) U hU
 have hE2:Ext W U:=hU
 have HU:=Lib.hid (And.intro fU (And.intro v0 v1))
 have CU:Hid (∀V,Ext U V→(V.cell? ⟨Bs,0,none⟩=some (.pointer (some ⟨B,0,none⟩))∧V.heap[w1.heap.size]?=some (.cells #[.int .i64 lx,.int .i64 ly] 43)∧V.heap[w1.heap.size+1]?=some (.cells #[.int .i64 hx0,.int .i64 hy0] 43)∧V.heap[B]?=some (.cells #[.int .i64 version,.int .i64 x,.int .i64 y,.int .i64 tw,.int .i64 th,.int .i64 size,.slice cA cells.length cc,.slice bA beacons.length bc,.slice lA lines.length lc,u9,u10] 183)∧Bs<V.heap.size)):=fun V h=>by
  have:=kaf h gS
  exact⟨by simp[World.cell?,this],kaf h v0,kaf h v1,kaf h gB,(qaz this).1⟩
 obtain⟨cS,v0',v1',gB',z0⟩:=CU.out U (Ext.refl U);obtain⟨e0,e1,_,_⟩:=kae v0';obtain⟨f0,f1,_,_⟩:=kae v1';obtain⟨q0,q1,q2,q3,q4,q5,q6,q7,q8,q9,q10,z3⟩:=klh gB';have z1:=(qaz v0').1;have z2:=(qaz v1').1;clear v0 v1 gP gS gB fU v0' v1' gB'
 refine wpIn_wide.2 ?_
 refine kmd (C:=fun w'=>∃x:Xt U,w'=x.world) 6 5 (by kernel_rfl) (by kernel_rfl) (Cx.of ((Ext.refl U).drew)) ?_
 simp only[List.take_succ_cons,List.take_zero,List.drop_succ_cons,List.drop_zero]
 (repeat (first|go_big_quiet_step (fail)|quiet_step (fail)))
 refine wpQuiet_nil ?_
 refine kcj rfl rfl rfl eg_228 ?_
 simp only[List.map_toArray,List.map_cons,List.map_nil]
 have hE3:Ext W U.drew:=hE2.trans ((Ext.refl U).drew)
 refine(K228.out _ (CX.out W (Kz.refl _ _ _) _ hE3)).mono ?_
 rintro e w3 ⟨v,rfl,hv,hx3⟩
 refine⟨_,rfl,⟨⟨w3,((Ext.refl U).drew).trans hx3⟩,rfl⟩,?_⟩
 (repeat (first|go_big_quiet_step (fail)|quiet_step (fail)))
 refine wpQuiet_nil ?_
 have hE4:Ext W w3:=hE3.trans hx3
 have hv3:=hv.base (B':=W.heap.size) hE3.len;have hz3:=hE4.len;clear hx3 hE3 hE2 e0 e1 f0 f1 q0 q1 q2 q3 q4 q5 q6 q7 q8 q9 q10 z0 z1 z2 z3 cS hv CU HU hU
 have hno:∀g,v.ownBlock=some g→¬ F.own w3 g:=fun g e ho=>by
  have h1:=(hv3.own g e).1
  have h2:=F.lt W g HF0.out ((F.s W w3 none HF0.out hE4.gb (fun k e=>by cases e)).2 g ho)
  omega
 have hJ0:=HA.out [] W w3 none h0 hE4.gb (fun r e=>by cases e)
 have hK0:Kz n₀ F W w3:=(Kz.refl n₀ F W).ext HN.out hE4
 obtain⟨Av,cv,rfl,_,_⟩:=hv3.reads (fun _=>rfl)
 gi_wp2_with fail
 gi_loopw [10,11,12,13,32] (fun _ _ _ _ s32 wr=>∃k:Nat,k≤L.length∧s32=.int .i64 k∧Kz n₀ F W wr∧W.heap.size≤wr.heap.size∧Hid (LI W.heap.size wr (.slice Av L.length cv) L∧∀g,(Value.slice Av L.length cv).ownBlock=some g→¬ F.own wr g)∧Hid (∃pre:List QT,pre.map (·.1)=(L.take k).filter f∧J pre wr))
  (fun _ _ _ _ s32 _=>L.length-(intOf s32).toNat)
 case atStart=>exact⟨0,Nat.zero_le _,rfl,hK0,hz3,⟨hv3,hno⟩,[],rfl,hJ0⟩
 case round=>
  obtain⟨k,hk,rfl,hK,hz,hl,hpj⟩:=hrel;obtain⟨pre,hpre,hJ⟩:=hpj.out
  by_cases hlt:k<L.length
  rotate_left
  ·obtain rfl:k=L.length:=by omega
   rw[List.take_length]at hpre;have HP:=Lib.hid hpre;clear hpre
   gi_wp2
   go_end0
   exact⟨⟨_,rfl⟩,.inl ⟨pre,by rw[HP.out,HT.out],hJ⟩⟩
  obtain⟨A',c',ee,hS',_⟩:=hl.out.1.reads (fun _=>rfl)
  cases ee
  obtain⟨b,off,rfl⟩:=hS'.addr (by omega)
  obtain⟨x,hx⟩:∃x,L[k]?=some x:=⟨_,qgq hlt⟩
  have hxL:x∈L:=qmq hx
  have c0:wr.cell? ⟨b,off+k,none⟩=some (.int .i64 x):=by have:=hS'.at_ hx (i:=0) rfl;simpa using this
  have hbw:=hS'.blk (by omega)
  have hltz:(k:Int)<(L.length:Int):=by omega
  have hplen:pre.length<4000:=by
   have h1:=congrArg List.length hpre;rw[List.length_map]at h1;have h2:=List.length_filter_le f (L.take k);rw[List.length_take]at h2
   omega
  have HTK:Hid ((L.take (k+1)).filter f=(L.take k).filter f++if f x then [x] else []):=by
   show _=_
   rw[List.take_add_one,hx,List.filter_append]
   congr 1
   cases hfx:f x<;>simp[hfx]
  obtain⟨fR,gP,gS,u10',gB⟩:=CF.out wr hK wr (Ext.refl _)
  have cP:wr.cell? ⟨Bp,0,none⟩=some (.slice Ap np cp):=by simp[World.cell?,gP]
  have cS:wr.cell? ⟨Bs,0,none⟩=some (.pointer (some ⟨B,0,none⟩)):=by simp[World.cell?,gS]
  have zP:=(qaz gP).1;have zS:=(qaz gS).1;have HGB:=Lib.hid gB;have HPRE:=Lib.hid hpre;clear hS' hx gP gS gB hpre
  gi_wp2_with fail
  refine wpIn_wide.2 ?_
  refine kcx (C:=fun w'=>∃x:Xt wr,w'=x.world) 3 7 (by kernel_rfl) (by kernel_rfl) (Cx.of ((Ext.refl wr).drew)) ?_
  simp only[List.take_succ_cons,List.take_zero,List.drop_succ_cons,List.drop_zero]
  (repeat (first|go_big_quiet_step (fail)|quiet_step (fail)))
  refine wpQuiet_nil ?_
  refine kcj rfl rfl rfl eg_230 ?_
  simp only[List.map_toArray,List.map_cons,List.map_nil]
  have hD:Ext wr wr.drew:=(Ext.refl wr).drew
  refine(K230.out x hxL _ u10' (CX.out wr hK _ hD) (kaf hD HGB.out)).mono ?_
  rintro e w4 ⟨A4,c4,rfl,hS4,hx4⟩
  have hE4:Ext wr w4:=hD.trans hx4
  refine⟨_,rfl,⟨⟨w4,hE4⟩,rfl⟩,?_⟩
  refine kcj rfl rfl rfl eg_229 ?_
  simp only[List.map_toArray,List.map_cons,List.map_nil]
  refine(K229.out x hxL _ A4 c4 (CX.out wr hK _ hE4) hS4).mono ?_
  rintro e w5 ⟨A5,n5,c5,er,rfl,hx5⟩
  have hE5:Ext wr w5:=hE4.trans hx5
  refine⟨_,rfl,⟨⟨w5,hE5⟩,rfl⟩,?_⟩
  (repeat (first|go_big_quiet_step (fail)|quiet_step (fail)))
  refine wpQuiet_nil ?_
  have hnw:n₀≤wr.heap.size:=by have:=HN.out;omega
  have hK5:=hK.ext hnw hE5
  have hl5:LI W.heap.size w5 (.slice (some ⟨b,off,none⟩) L.length cv) L∧∀g,(Value.slice (some ⟨b,off,none⟩) L.length cv).ownBlock=some g→¬ F.own w5 g:=((Kz.refl n₀ F wr).ext hnw hE5).lg fR hl.out.1 hl.out.2
  have hJ5:=HA.out pre wr w5 none hJ hE5.gb (fun r e=>by cases e)
  have hz5:=hE5.len;have HL5:=Lib.hid hl5;clear c0 hbw cP cS zP zS hS4 hx4 hx5 hE4 hD hl5
  cases hfx:f x with
  | false=>
   have HF:=Lib.hid hfx;clear hfx
   gi_wp2
   refine⟨fun _ h=>(by cases h),?_⟩
   gi_wp2
   go_roundw
   case rel=>exact⟨k+1,by omega,by simp,hK5,by omega,HL5.out,pre,by rw[HTK.out,HPRE.out,HF.out];simp,hJ5⟩
   case measure=>simp[intOf];omega
  | true=>
   have hmem:x∈TL:=by rw[HT.out];exact List.mem_filter.2 ⟨hxL,hfx⟩
   have HF:=Lib.hid hfx;clear hfx;obtain⟨fn,tmps,assign,body,hyy,hR⟩:=HY.out pre (x,A5,n5,c5) w5 hJ5 hplen hmem;simp only[touchE]at hyy
   gi_wp2
   refine hR.mono ?_
   rintro e W3 (⟨rfl,hJ3,hk3⟩|⟨rfl,hJx3⟩)
   ·have hs3:=hk3.1.size
    have hl3:=hk3.lg (hK5.2 HF0.out).1 HL5.out.1 HL5.out.2
    gi_wp2
    go_roundw
    case rel=>exact⟨k+1,by omega,by simp,hK5.t hk3,by omega,hl3,pre++[(x,A5,n5,c5)],by rw[HTK.out,List.map_append,HPRE.out,HF.out];rfl,hJ3⟩
    case measure=>simp[intOf];omega
   ·gi_wp2
    refine bodyPost_ret (results_none rfl _ _ _) rfl ?_
    exact⟨⟨_,rfl⟩,.inr ⟨_,hJx3⟩⟩
end Go.Proofs.YtcgghcicnanliaaGreatDoor
namespace Go.Proofs.YtcgghcicnanliaaGreatDoor
open Go.RowKit Go.Lib
set_option maxHeartbeats 4000000
set_option maxRecDepth 100000
theorem kmk (B n c:Nat)(A:Option Addr)(w:World) :
  Calls Tryz.prog 134 #[.pointer (some ⟨B,0,none⟩),.slice A n c] w fun e w'=>e=.returned (.func (.func 227) #[] #[.pointer (some ⟨w.heap.size+1,0,none⟩),.pointer (some ⟨w.heap.size,0,none⟩)]) ∧
   w'=(w.alloc (.cells #[.pointer (some ⟨B,0,none⟩)] 176)).alloc (.cells #[.slice A n c] 76):=by
 go_enter Tryz.func134,Tryz.ntmps134
 go_wp2
 go_ret
 exact⟨rfl,rfl⟩
abbrev QTs (t:ChartT)(p:List Pt):={ x:QT // x.1∈ken t p }
theorem kix (F:Fz)(n n₀ Bp Bs B cp:Nat)(t:ChartT)(p:List Pt)(Ap:Option Addr)(u9:Value)(w0:World)(hn:1≤n)(hn₀:n₀=w0.heap.size)(H:t.Lies w0)(hok:kao t=true)(hS:Sl encP 2 w0 Ap p)(vp:kas p=true)(hp:∀y∈p,plB y=true)
  (W:World) (hX:Ext w0 W)
  (hF:∀W,F.p W→W.heap[Bp]?=some (.cells #[.slice Ap p.length cp] 76)∧W.heap[Bs]?=some (.cells #[.pointer (some ⟨B,0,none⟩)] 176)∧∃u10,W.heap[B]?=some (.cells (t.vals++[u9,u10]).toArray 183))
  (hF0:F.p W) :
  SeqStopsK Fence.wide n Tryz.prog 227 #[.pointer (some ⟨Bp,0,none⟩),.pointer (some ⟨Bs,0,none⟩)] (fun x:QTs t p=>touchE x.1) (Kz n₀ F) (fun ys=>ys.map (·.1.1)=ken t p) (fun _=>True) 4000 W:=fun l J Jx W1 hW hJ hJx hY h0=>by
 have hX1:Ext w0 W1:=hX.trans (Below.mono hW (Nat.le_refl _))
 have:=touched1_227 F n l n₀ Bp Bs B cp t p Ap u9 w0 hn hn₀ H hok hS vp hp (fun pre W=>∃q:List (QTs t p),q.map (·.1)=pre∧J q W) (fun pre W=>∃q:List (QTs t p),q.map (·.1)=pre∧Jx q W)
  (fun pre x W2 hq h2 hx=>by
   obtain⟨q,rfl,hj⟩:=hq;simp only[List.length_map]at h2;obtain⟨fn,tmps,assign,body,hy,hR⟩:=hY q ⟨x,hx⟩ W2 hj h2
   refine⟨fn,tmps,assign,body,hy,hR.mono ?_⟩
   rintro e W' (⟨he,h3,h4⟩|⟨he,h3⟩)
   ·exact .inl ⟨he,⟨_,by simp,h3⟩,h4⟩
   ·exact .inr ⟨he,⟨_,by simp,h3⟩⟩)
  W1 hX1 (fun s X Y row hs hg hr=>by
   obtain⟨q,hq,hj⟩:=hs
   exact⟨q,hq,hJ q X Y row hj hg hr⟩) hF (F.s W W1 none hF0 (Ext.gb hW) (fun k e=>by cases e)).1 ⟨[],rfl,h0⟩
 refine this.mono ?_
 rintro e W' ⟨he,h⟩
 refine⟨he,?_⟩
 rcases h with ⟨ys,hys,q,hq,hj⟩|⟨pre,q,hq,hj⟩
 ·refine .inl ⟨q,?_,hj⟩
  show q.map (fun x=>x.1.1)=ken t p
  have h9:=congrArg (List.map (·.1)) hq;rw[List.map_map]at h9
  exact h9.trans hys
 ·exact .inr ⟨q,trivial,hj⟩
theorem put_273 (b B:Nat)(cs:List Value)(u:Value)(r:List PV)(v:PV)(W:World)(hcs:cs.length=10)(hB:W.heap[B]?=some (.cells (cs++[u]).toArray 183))(hL:LR b W u r)(hb:b≤W.heap.size)(hr:r.length≤1000000) :
  Calls Tryz.prog 273 #[.pointer (some ⟨B,0,none⟩),.slice v.A v.l.length v.c] W fun e w'=>(∃x,e=.returned x)∧∃u' W1,w'=W1.setCell ⟨B,10,none⟩ u'∧LR b W1 u' (r++[v])∧(W.alloc (.cells #[.slice v.A v.l.length v.c] 76)).grownBy W1 u.ownBlock∧Below b W W1∧(∀j,u'.ownBlock=some j→u.ownBlock=some j∨W.heap.size≤j):=by
 have c10:W.cell? ⟨B,10,none⟩=some u:=by simp[World.cell?,hB,hcs]
 have hlt:B<W.heap.size:=(qaz hB).1
 obtain⟨vA,vc,vl⟩:=v
 simp only at *
 have hE:Ext W (W.alloc (.cells #[.slice vA vl.length vc] 76)):=(Ext.refl _).alloc _
 have HB:=Lib.hid hB;have HE:=Lib.hid hE;clear hB hE
 go_enter Tryz.func273,Tryz.ntmps273
 go_wp2_with (at_builtin;refine kia appsR rfl _ _ rfl b u r rfl (hL.ext HE.out) ?qB ⟨W.heap.size,0,none⟩ 1 1 [⟨vA,vc,vl⟩] rfl rfl (tmpOne W _ 76) ?qb ?_)
 case qB=>simp only[qsa];omega
 case qb=>omega
 intro u' W1 h1 h2 h3 hnw
 have hB1:W1.heap[B]?=some (.cells (cs++[u]).toArray 183):=(hL.ext HE.out).other h3 (kaf HE.out HB.out) (by decide)
 have c1:(W1.cell? ⟨B,10,none⟩).isSome=true:=by simp[World.cell?,hB1,hcs]
 have f1:W1.frozen? ⟨B,10,none⟩=false:=by simp[World.frozen?,hB1]
 have z1:B<W1.heap.size:=(qaz hB1).1
 have c2:W1.cell? ⟨B,10,none⟩=some u:=by simp[World.cell?,hB1,hcs]
 have HH:=Lib.hid (And.intro h1 (And.intro h2 (And.intro h3 hnw)))
 obtain⟨A2,c3,rfl,_⟩:=h1.reads (fun _=>rfl)
 generalize (r++[(⟨vA,vc,vl⟩:PV)]).length=n5 at *;clear h1 h2 h3 hnw hB1 c10
 go_wp2_with fail
 go_end0
 exact⟨⟨_,rfl⟩,_,W1,rfl,HH.out.1,HH.out.2.2.1,(Below.mono HE.out hb).trans HH.out.2.1,fun j h=>(HH.out.2.2.2 j h).imp_right (fun h=>by (try rw[qsa]at h);omega)⟩
theorem index_341 (A:Option Addr)(c:Nat)(l:List Int)(x:Int)(w:World)(hl:l.length≤1000000)(hS:Sl encI 1 w A l):Calls Tryz.prog 341 #[.slice A l.length c,.int .i64 x] w fun e w'=>(∃i:Int,e=.returned (.int .i64 i)∧(decide (0≤i)=l.contains x))∧w=w':=by
 go_enter Tryz.func341,Tryz.ntmps341
 go_wp2
 go_loopg [5,8] l.length (fun gg _ s8 wr=>∃kk:Nat,kk≤l.length∧l.length-kk≤gg∧s8=.int .i64 kk∧Hid (∀j y,j<kk→l[j]?=some y→y≠x)∧wr=w)
 case atStart=>exact⟨0,Nat.zero_le _,by omega,rfl,fun j y hj=>absurd hj (Nat.not_lt_zero _),rfl⟩
 case round=>
  obtain⟨kk,hkk,hg,rfl,H,rfl⟩:=hrel
  by_cases hlt:kk<l.length
  ·obtain⟨b,off,rfl⟩:=hS.addr (by omega)
   have hb:=hS.blk (by omega)
   obtain⟨y,hy⟩:∃y,l[kk]?=some y:=⟨_,qgq hlt⟩
   have c0:wr.cell? ⟨b,off+kk,none⟩=some (.int .i64 y):=by have:=hS.at_ hy (i:=0) rfl;simpa using this
   have hltz:(kk:Int)<(l.length:Int):=by omega
   by_cases e:x=y
   ·subst e
    have hC:Hid (l.contains x=true):=by show _=_;rw[List.contains_iff_mem];exact qmq hy
    clear hy
    go_wp2
    go_ret
    exact⟨⟨_,rfl,by rw[hC.out];simp⟩,rfl⟩
   ·have e1:decide (x=y)=false:=decide_eq_false e
    have e2:(x == y)=false:=by simpa using e
    have Y:=Lib.hid hy;clear hy
    go_wp2
    go_roundg (l.length-(kk+1))
    case measure=>omega
    case rel=>
     refine⟨kk+1,by omega,by omega,by go_num,fun j z hj hz=>?_,rfl⟩
     by_cases ej:j=kk
     ·subst ej
      rw[Y.out]at hz;cases hz
      exact fun h=>e h.symm
     ·exact H.out j z (by omega) hz
  ·have hC:Hid (l.contains x=false):=by
    show _=_
    rw[Bool.eq_false_iff,Ne,List.contains_iff_mem];intro hm;obtain⟨j,hj,he⟩:=List.getElem_of_mem hm
    exact H.out j x (by omega) (by rw[qgq hj,he]) rfl
   have hltz:¬ (kk:Int)<(l.length:Int):=by omega
   go_wp2
   go_ret
   have hC2:¬ x∈l:=by have:=hC.out;rwa [Bool.eq_false_iff,Ne,List.contains_iff_mem]at this
   exact⟨⟨_,rfl,by simpa using hC2⟩,rfl⟩
theorem contains_274 (A:Option Addr)(c:Nat)(l:List Int)(x:Int)(w:World)(hl:l.length≤1000000)(hS:Sl encI 1 w A l):Calls Tryz.prog 274 #[.slice A l.length c,.int .i64 x] w fun e w'=>e=.returned (.bool (l.contains x))∧w=w':=by
 have K:=Lib.hid (index_341 A c l x w hl hS);clear hS;generalize l.contains x=q at K ⊢;generalize l.length=n at K hl ⊢
 go_enter Tryz.func274,Tryz.ntmps274
 go_wp2_with (go_at_call 341;refine K.out.mono ?_;rintro e w1 ⟨⟨i,rfl,hi⟩,rfl⟩)
 go_ret
 subst hi
 exact⟨rfl,rfl⟩
set_option maxHeartbeats 8000000
theorem usableR_24 (e:EnvT)(o:EntryT)(A:Option Addr)(c:Nat)(r:List PV)(w:World)(Re:e.Raw w)(R:Rg w A r):Calls Tryz.prog 24 #[.agg e.vals.toArray,.slice A r.length c,.agg o.vals.toArray] w fun q w'=>koi (e.Few∧kfc e=true∧o.Seen∧meansB e o=true∧r.length≤8∧(r.all fun v=>kaq v.l)=true) q∧Ext w w':=by
 have K1:=Lib.hid (fun W (hx:Ext w W)=>fewLawR_10 e A c r W (Re.lines.ext hx) (R.ext hx))
 have K2:=Lib.hid (fun W (hx:Ext w W)=>refValid7R_30 A c r W (R.ext hx))
 have K3:Hid ((r.all fun v=>kaq v.l)=true→r.length≤8→∀W,Ext w W→Calls Tryz.prog 11 #[.slice A r.length c] W fun e w'=>koi True e∧Ext W w'):=fun h h8 W hx=>closeR_11 A c r W (R.ext hx) (by omega) (fun v hv=>by
  have:=kky (List.all_eq_true.1 h v hv)
  exact⟨by omega,this.2.1⟩)
 have K4:=Lib.hid (fun (hF:e.Few) W (hx:Ext w W)=>refValid_15 e W ((Re.lies hF).ext hx))
 have K5:=Lib.hid (fun W=>(seen_51 o W).mono fun r w' ⟨b,h1,h2,h3⟩=>(⟨⟨b,h1,h2⟩,h3⟩:koi o.Seen r∧Ext W w'))
 have K6:=Lib.hid (fun (hF:e.Few) (hS:o.Seen) W (hx:Ext w W)=>means_40 e o hS.1 W ((Re.lies hF).ext hx))
 have hsz:=e.size;have hsz2:=o.size;generalize e.vals.toArray=ev at K1 K4 K6 hsz ⊢;generalize o.vals.toArray=ov at K5 K6 hsz2 ⊢;generalize meansB e o=qm at K6 ⊢;generalize kfc e=qe at K4 ⊢;generalize o.Seen=PS at K5 K6 ⊢;generalize e.Few=PF at K1 K4 K6 ⊢
 generalize (r.all fun v=>kaq v.l)=qr at K2 K3 ⊢
 clear Re R;generalize r.length=n at *;have KL:=Lib.hid (kle.trans (congrArg some hsz.symm));have KM:=Lib.hid (knm.trans (congrArg some hsz2.symm));have KX:=Lib.hid (kbj w ev ov 37 40);clear hsz hsz2
 by_cases h32:n≤32
 rotate_left
 ·have e32:decide (n≤32)=false:=decide_eq_false h32
  rw[e32,Bool.false_and]at K2
  go_enter Tryz.func24,Tryz.ntmps24
  go_wp2_with (first
   | (refine kak (by rfl) 37 _ rfl _ rfl 37 ev _ _ (KX.out _ xt).1 Tryz.underlying37 rfl KL.out ?_)
   | (refine kak (by rfl) 40 _ rfl _ rfl 40 ov _ _ (KX.out _ xt).2 Tryz.underlying40 rfl KM.out ?_)
   | (go_at_call 10;refine(K1.out _ xt).mono ?_;rintro e w1 ⟨⟨b,hb,rfl⟩,hb1⟩;have HB:=Lib.hid hb;clear hb;cases b)
   | (go_at_call 30;refine(K2.out _ xt).mono ?_;rintro e w2 ⟨rfl,hb2⟩))
  all_goals (go_ret;refine⟨⟨_,fun hb=>?_,rfl⟩,xt⟩)
  all_goals first
   | (cases hb;done)
   | (simp at hb;done)
 have e32:decide (n≤32)=true:=decide_eq_true h32
 rw[e32,Bool.true_and]at K2
 cases qr<;>cases qe<;>cases qm
 all_goals
  go_enter Tryz.func24,Tryz.ntmps24
  go_wp2_with (first
   | (refine kak (by rfl) 37 _ rfl _ rfl 37 ev _ _ (KX.out _ xt).1 Tryz.underlying37 rfl KL.out ?_)
   | (refine kak (by rfl) 40 _ rfl _ rfl 40 ov _ _ (KX.out _ xt).2 Tryz.underlying40 rfl KM.out ?_)
   | (go_at_call 10;refine(K1.out _ xt).mono ?_;rintro e w1 ⟨⟨b,hb,rfl⟩,hb1⟩;have HB:=Lib.hid hb;clear hb;cases b)
   | (go_at_call 30;refine(K2.out _ xt).mono ?_;rintro e w2 ⟨rfl,hb2⟩)
   | (go_at_call 11;refine(K3.out (by first|rfl|trivial) (HB.out (by first|rfl|trivial)).2 _ xt).mono ?_;rintro e w3 ⟨⟨b3,_,rfl⟩,hb3⟩;cases b3)
   | (go_at_call 15;refine(K4.out (HB.out (by first|rfl|trivial)).1 _ xt).mono ?_;rintro e w4 ⟨rfl,hb4⟩)
   | (go_at_call 51;refine(K5.out _).mono ?_;rintro e w5 ⟨⟨b,hb,rfl⟩,hb5⟩;have HS:=Lib.hid hb;clear hb;cases b)
   | (go_at_call 40;refine(K6.out (HB.out (by first|rfl|trivial)).1 (HS.out (by first|rfl|trivial)) _ xt).mono ?_;rintro e w6 ⟨rfl,hb6⟩))
  all_goals (go_ret;refine⟨⟨_,fun hb=>?_,rfl⟩,xt⟩)
  all_goals first
   | (cases hb;done)
   | exact⟨(HB.out (by first|rfl|trivial)).1,(by trivial),HS.out (by first|rfl|trivial),(by trivial),(HB.out (by first|rfl|trivial)).2,(by trivial)⟩
   | (simp at hb;done)
end Go.Proofs.YtcgghcicnanliaaGreatDoor
