/- What runs found: the law's head; The law's head: it is true; Walks: the law SenseGiven. Conditions: as each statement says. -/
import Derived.Test.YtcgghcicnanliaaGreatDoorM43
import Derived.Test.YtcgghcicnanliaaGreatDoorM44
set_option linter.unusedVariables false
set_option linter.unusedSimpArgs false
namespace Go.Ev
open Go.Proofs Go.Proofs.YtcgghcicnanliaaGreatDoor
noncomputable section
set_option maxRecDepth 100000
theorem head_eq:isTrue (evF (khp Tryz.prog (orcL words9)) Tryz.prog 100000 (.call 9 [] h0))=true:=by kernel_rfl
end
end Go.Ev
namespace Go.Proofs.YtcgghcicnanliaaGreatDoor
open Go.RowKit
set_option maxRecDepth 100000
theorem headG_9 (w:World):Calls Tryz.prog 9 #[] w fun e w'=>e=.returned (.bool true)∧Ext w w':=
 (Go.Ev.closed_true Go.Ev.mixedP (Go.Ev.orcL_ok Go.Ev.words9_good) (args:=[]) rfl (by rw[←Go.Ev.evK_eq,←Go.Ev.evF_eq];exact Go.Ev.head_eq) w).mono fun e w' ⟨h1,h2,h3,h4,h5,h6⟩=>⟨h1,⟨h4,h5,h6,h2,h3⟩⟩
theorem EnvT.Raw.kept {e:EnvT}{W W':World}(h:e.Raw W)(hx:Ext W W'):e.Raw W':=
 ⟨h.cells.ext hx,h.beacons.ext hx,h.lines.ext hx,fun l hl=>(h.pts l hl).ext hx,h.ix,h.iy,h.ib,h.il,h.tide.ext hx,h.rows.ext hx,h.waters.ext hx⟩
open Go.Lib
set_option maxHeartbeats 2000000
theorem wrap_in5 {x:Int}(h:-9000000≤x∧x≤9000000):IntKind.i64.wrap x=x:=by rw[IntKind.wrap_i64];(try unfold wrap64);omega
def upL (f:Int→Bool)(n:Nat):List Int:=((List.range n).filter fun k:Nat=>f (k:Int)).map fun k:Nat=>(k:Int)
theorem upL_succ (f:Int→Bool)(n:Nat):upL f (n+1)=upL f n++if f n then [(n:Int)] else []:=by
 unfold upL;rw[List.range_succ,List.filter_append,List.map_append]
 cases h:f (n:Int)<;>simp[h]
theorem upL_len (f:Int→Bool)(n:Nat):(upL f n).length≤n:=by
 unfold upL;rw[List.length_map]
 exact Nat.le_trans (List.length_filter_le _ _) (by simp)
theorem upL_mem {f:Int→Bool}{n:Nat}{i:Int}:i∈upL f n↔0≤i∧i<(n:Int)∧f i=true:=by
 unfold upL;simp only[List.mem_map,List.mem_filter,List.mem_range]
 constructor
 ·rintro⟨k,⟨h1,h2⟩,rfl⟩
  exact⟨by omega,by omega,h2⟩
 ·rintro⟨h1,h2,h3⟩
  refine⟨i.toNat,⟨by omega,?_⟩,by omega⟩
  rwa [show ((i.toNat:Nat):Int)=i by omega]
theorem upL_up (f:Int→Bool)(n:Nat):kkw n (upL f n):=by
 refine⟨fun j x h=>?_,?_⟩
 ·have:=upL_mem.1 (qmq h)
  exact⟨this.1,this.2.1⟩
 ·have key:∀n,∀(j:Nat) x y,(upL f n)[j]?=some x→(upL f n)[j+1]?=some y→x<y:=by
   intro n
   induction n with
   | zero=>intro j x y h;simp[upL]at h
   | succ n ih=>
    intro j x y h1 h2;rw[upL_succ]at h1 h2
    by_cases hj:j+1<(upL f n).length
    ·rw[List.getElem?_append_left (by omega)]at h1 h2
     exact ih j x y h1 h2
    ·rw[List.getElem?_append_right (by omega)]at h2
     cases hf:f (n:Int) with
     | false=>rw[hf]at h2;simp at h2
     | true=>
      rw[hf]at h1 h2
      have e:j+1=(upL f n).length:=by
       have:=(List.getElem?_eq_some_iff.1 h2).1
       simp at this
       omega
      rw[List.getElem?_append_left (by omega)]at h1
      have h3:=upL_mem.1 (qmq h1);have h4:=qmq h2
      obtain rfl:y=(n:Int):=by simpa using h4
      exact h3.2.1
  exact key n
theorem kcc.app {w w':World}{b n:Nat}{f:Int→Bool}{α : Type}{enc:α→List Value}{T k B:Nat}{v:Value}{l:List α}(h:kcc w b n f)(hv:LG enc T k B w v l)(hg:w.grownBy w' v.ownBlock):kcc w' b n f:=by
 obtain⟨D,⟨es,clock,hb,r⟩,hf⟩:=h
 refine⟨D,⟨es,clock,(hg.block b (qaz hb).1 (fun e=>?_)).trans hb,r⟩,hf⟩
 rcases hv.2 with ⟨rfl,_⟩|⟨g,cap,cur,rfl,_,h3,_⟩
 ·simp[Value.ownBlock]at e
 ·simp only[Value.ownBlock]at e
  cases e;rw[hb]at h3;cases h3
theorem law_5 (e:EnvT)(o:EntryT)(A:Option Addr)(c:Nat)(r:List PV)(Am:Option Addr)(cm:Nat)(more:List Int)(w:World)(Re:e.Raw w)(R:Rg w A r)(hM:Sl encU 1 w Am more)(hm:∀x∈more,0≤x∧x≤255) :
  Calls Tryz.prog 5 #[.agg e.vals.toArray,.slice A r.length c,.agg o.vals.toArray,.slice Am more.length cm] w fun q w'=>q=.returned (.bool true)∧Ext w w':=by
 obtain⟨U,hU⟩:∃U:Prop,(e.Few∧kfc e=true∧o.Seen∧meansB e o=true∧r.length≤8∧(r.all fun v=>kaq v.l)=true)=U:=⟨_,rfl⟩
 have K1:=Lib.hid headG_9
 have K2:=Lib.hid (fun W (hx:Ext w W)=>usableR_24 e o A c r W (Re.kept hx) (R.ext hx))
 rw[hU]at K2;obtain⟨cf,hcf⟩:∃cf,kfb e.chart (kbo e.tide (r.map (·.l)) o.time) (o.lo,o.hi) r=cf:=⟨_,rfl⟩
 have UU:U→(e.Few∧kfc e=true∧o.Seen∧r.length≤8∧AllV r):=fun h=>by
  rw[←hU]at h
  exact⟨h.1,h.2.1,h.2.2.1,h.2.2.2.2.1,fun v hv=>by
   have:=kky (List.all_eq_true.1 h.2.2.2.2.2 v hv)
   exact⟨this.1,this.2.1⟩⟩
 have K21:Hid (U→o.kind=2→∀W,Ext w W→Calls Tryz.prog 21 #[.agg e.vals.toArray,.slice A r.length c,.agg o.vals.toArray] W fun x w'=>∃A2 c2,∃l:List Int,x=.returned (.tuple #[.slice A2 l.length c2,.int .i64 0])∧Sl encI 1 w' A2 l∧(∀i,i∈l↔i∈cf)∧l.length≤200000∧Ext W w'):=fun hu hk W hx=>by
  obtain⟨h1,h2,h3,h4,h5⟩:=UU hu;rw[←hcf]
  exact conflicts_all e o A c r W ((Re.lies h1).ext hx) h2 hk h3 (R.ext hx) (by omega) h5
 have K18:Hid (U→o.kind=2→∀A5 c5 cs W,Ext w W→Sl encI 1 W A5 cs→OkA A5 cs→cs.length≤1000000→kkw e.chart.cells.length cs→(∀i∈cf,i∈cs)→Calls Tryz.prog 18 #[.agg e.vals.toArray,.slice A r.length c,.agg o.vals.toArray,.slice A5 cs.length c5] W fun x w'=>∃A' c' ro,x=.returned (.tuple #[.slice A' ro.length c',.int .i64 0])∧Rg w' A' ro∧ro.map (·.l)=kfz (r.map (·.l))∧Ext W w'):=fun hu hk A5 c5 cs W hx h5' hA5 hl5 hup hc=>by
  obtain⟨h1,h2,h3,h4,h5⟩:=UU hu;rw[←hcf]at hc
  exact cut_all e o A c r A5 c5 cs W ((Re.lies h1).ext hx) h2 hk h3 (R.ext hx) (by omega) h5 h5' hA5 hl5 hup hc
 have K31:Hid (U→∀W,Ext w W→Calls Tryz.prog 31 #[.slice A r.length c] W fun e w'=>∃A' c' ro,e=.returned (.tuple #[.slice A' ro.length c',.int .i64 0])∧Rg w' A' ro∧ro.map (·.l)=kfz (r.map (·.l))∧Ext W w'):=fun hu W hx=>by
  obtain⟨h1,h2,h3,h4,h5⟩:=UU hu
  exact tidy_31 c A r W (R.ext hx) (by omega) h5
 have KL0:Hid (U→∀v∈r,v.l.length≤1000000):=fun hu v hv=>by
  have:=kem ((UU hu).2.2.2.2 v hv).1
  omega
 have K20:=Lib.hid (fun A1 c1 r1 A2 c2 r2 W h1 R1 R2 he hp=>same_20 A1 A2 c1 c2 r1 r2 W h1 R1 R2 he hp)
 have CB:Hid (U→∀i∈cf,0≤i∧i.toNat<e.chart.cells.length):=fun hu i hi=>by
  obtain⟨h1,h2,_⟩:=UU hu;rw[←hcf]at hi
  exact conf_bd (knt h2) hi
 have NC:Hid (U→0<e.chart.cells.length∧e.chart.cells.length≤4000):=fun hu=>cells_bd (knt (UU hu).2.1)
 have TL:Hid (U→(kfz (r.map (·.l))).length≤1000000∧∀l∈kfz (r.map (·.l)),l.length≤1000000):=fun hu=>by
  have h8:=(UU hu).2.2.2.1
  refine⟨Nat.le_trans (kpk _ _) (by rw[List.length_map];omega),fun l hl=>?_⟩
  obtain⟨v,hv,rfl⟩:=List.mem_map.1 (tidy_mem hl)
  have:=kem ((UU hu).2.2.2.2 v hv).1
  omega
 have hsz:=e.size;have hsz2:=o.size
 have ho2:o.vals.toArray[2]?=some (.int .i64 o.kind):=rfl
 have he6:e.vals.toArray[6]?=some (.slice e.chart.cA e.chart.cells.length e.chart.cc):=rfl
 clear UU hU hcf Re R;generalize e.chart.cells.length=nc at *;generalize kfz (r.map (·.l))=tl at *;generalize e.vals.toArray=ev at *;generalize o.vals.toArray=ov at *;generalize o.kind=kd at *;generalize r.length=n at *;have KX:=Lib.hid (kbj w ev ov 37 40);have KL:=Lib.hid (kle.trans (congrArg some hsz.symm));have KM:=Lib.hid (knm.trans (congrArg some hsz2.symm));clear hsz hsz2;have hmm:=@run_makeMap Tryz.prog
 by_cases hk:kd=2
 rotate_left
 ·have hkb:(kd == 2)=false:=by simpa using hk
  go_enter Tryz.func5,Tryz.ntmps5
  go_wp2_with (first
   | (refine kak (by rfl) 37 _ rfl _ rfl 37 ev _ _ (KX.out _ xt).1 Tryz.underlying37 rfl KL.out ?_)
   | (refine kak (by rfl) 40 _ rfl _ rfl 40 ov _ _ (KX.out _ xt).2 Tryz.underlying40 rfl KM.out ?_)
   | (go_at_call 9;refine(K1.out _).mono ?_;rintro e w1 ⟨rfl,hb1⟩;obtain⟨hc1,hf1,hz1⟩:=hb1.rules;(try simp only[qsa]at hz1);(have hzz1:w.heap.size<w1.heap.size:=by omega);(have hzy1:w.heap.size+1<w1.heap.size:=by omega))
   | (go_at_call 24;refine(K2.out _ xt).mono ?_;rintro e w2 ⟨⟨b,hb,rfl⟩,hb2⟩;clear hb;obtain⟨hc2,hf2,hz2⟩:=hb2.rules;(have hzz2:w.heap.size<w2.heap.size:=by omega);(have hzy2:w.heap.size+1<w2.heap.size:=by omega);cases b))
  all_goals (go_ret;exact⟨retb (by simp),xt⟩)
 subst hk
 by_cases h20:more.length≤20
 rotate_left
 ·have h20z:(20:Int)<(more.length:Int):=by omega
  go_enter Tryz.func5,Tryz.ntmps5
  go_wp2_with (first
   | (refine kak (by rfl) 37 _ rfl _ rfl 37 ev _ _ (KX.out _ xt).1 Tryz.underlying37 rfl KL.out ?_)
   | (refine kak (by rfl) 40 _ rfl _ rfl 40 ov _ _ (KX.out _ xt).2 Tryz.underlying40 rfl KM.out ?_)
   | (go_at_call 9;refine(K1.out _).mono ?_;rintro e w1 ⟨rfl,hb1⟩;obtain⟨hc1,hf1,hz1⟩:=hb1.rules;(try simp only[qsa]at hz1);(have hzz1:w.heap.size<w1.heap.size:=by omega);(have hzy1:w.heap.size+1<w1.heap.size:=by omega))
   | (go_at_call 24;refine(K2.out _ xt).mono ?_;rintro e w2 ⟨⟨b,hb,rfl⟩,hb2⟩;clear hb;obtain⟨hc2,hf2,hz2⟩:=hb2.rules;(have hzz2:w.heap.size<w2.heap.size:=by omega);(have hzy2:w.heap.size+1<w2.heap.size:=by omega);cases b))
  all_goals (go_ret;exact⟨retb (by simp),xt⟩)
 have h20z:¬ (20:Int)<(more.length:Int):=by omega
 go_enter Tryz.func5,Tryz.ntmps5
 go_wp2_with (first
  | (refine kak (by rfl) 37 _ rfl _ rfl 37 ev _ _ (KX.out _ xt).1 Tryz.underlying37 rfl KL.out ?_)
  | (refine kak (by rfl) 40 _ rfl _ rfl 40 ov _ _ (KX.out _ xt).2 Tryz.underlying40 rfl KM.out ?_)
  | (go_at_call 9;refine(K1.out _).mono ?_;rintro e w1 ⟨rfl,hb1⟩;obtain⟨hc1,hf1,hz1⟩:=hb1.rules;(try simp only[qsa]at hz1);(have hzz1:w.heap.size<w1.heap.size:=by omega);(have hzy1:w.heap.size+1<w1.heap.size:=by omega))
  | (go_at_call 24;refine(K2.out _ xt).mono ?_;rintro e w2 ⟨⟨b,hb,rfl⟩,hb2⟩;have HU:=Lib.hid hb;clear hb;obtain⟨hc2,hf2,hz2⟩:=hb2.rules;(have hzz2:w.heap.size<w2.heap.size:=by omega);(have hzy2:w.heap.size+1<w2.heap.size:=by omega);cases b)
  | (go_at_call 21;refine(K21.out (HU.out (by first|rfl|trivial)) (by first|rfl|trivial) _ xt).mono ?_;rintro e w4 ⟨A2,c2,l,rfl,hS2,hm2,hl2,hb4⟩;obtain⟨hc4,hf4,hz4⟩:=hb4.rules;(have hzz4:w.heap.size<w4.heap.size:=by omega);(have hzy4:w.heap.size+1<w4.heap.size:=by omega)))
 all_goals first
  | (go_ret;exact⟨retb (by simp),xt⟩)
  | skip
 have hu:=HU.out (by first|rfl|trivial)
 have hE4:Ext w w4:=xt
 obtain⟨n0,n1⟩:=NC.out hu
 have I6:Hid (∀i∈l,I64 i):=fun i hi=>by
  have:=CB.out hu i ((hm2 i).1 hi)
  unfold I64;omega
 have CU:Hid (∀i∈cf,i∈l∧0≤i∧i.toNat<nc):=fun i hi=>⟨(hm2 i).2 hi,CB.out hu i hi⟩
 have hmap:Hid (Ext w4 (w4.alloc (.map #[] 0))∧kcc (w4.alloc (.map #[] 0)) w4.heap.size 0 (fun _=>false)):=⟨(Ext.refl w4).alloc _,kcc.new w4⟩
 have K18x:=Lib.hid (K18.out hu (by first|rfl|trivial))
 have K31x:=Lib.hid (K31.out hu);have KL0x:=Lib.hid (KL0.out hu);have TLx:=Lib.hid (TL.out hu)
 have Q6:Hid (∀W,Ext w4 W→W.cell? ⟨w.heap.size,6,none⟩=some (.slice e.chart.cA nc e.chart.cc)∧w.heap.size<W.heap.size):=fun W hW=>by
  have:=(KX.out W ((Ext.trans xt hb4).trans hW)).1
  exact⟨by simp[World.cell?,this,he6],(qaz this).1⟩
 clear K18 K31 K21 K2 K1 CB NC HU hm2 KL0 TL hc1 hf1 hc2 hf2 hc4 hf4 he6 ho2
 go_loopg [14,50] l.length (fun gg _ s50 wr=>∃kk:Nat,∃f:Int→Bool,kk≤l.length∧l.length-kk≤gg∧s50=.int .i64 kk∧Hid (Ext w4 wr∧kcc wr w4.heap.size kk f)∧Hid (∀i∈l.take kk,f i=true))
 case atStart=>exact⟨0,fun _=>false,Nat.zero_le _,by omega,rfl,hmap,fun i hi=>by simp at hi⟩
 case round=>
  obtain⟨kk,f,hkk,hg,rfl,hx,H⟩:=hrel
  by_cases hlt:kk<l.length
  ·obtain⟨b,off,rfl⟩:=hS2.addr (by omega)
   obtain⟨y,hy⟩:∃y,l[kk]?=some y:=⟨_,qgq hlt⟩
   have hltz:(kk:Int)<(l.length:Int):=by omega
   have hbw:b<wr.heap.size:=Nat.lt_of_lt_of_le (hS2.blk (by omega)) hx.out.1.len
   have c0:wr.cell? ⟨b,off+kk,none⟩=some (.int .i64 y):=by have:=(hS2.ext hx.out.1).at_ hy (i:=0) rfl;simpa using this
   obtain⟨wu,hpu,hNU,hgU⟩:=hx.out.2.put (by omega) (I6.out y (qmq hy))
   have hxU:Hid (Ext w4 wu):=Below.grown hx.out.1 hgU hx.out.1.len (fun k e=>by cases e;exact Nat.le_refl _)
   have HN:=Lib.hid hNU
   have HT:Hid (∀i∈l.take (kk+1),(f i||decide (y=i))=true):=fun i hi=>by
    rw[List.take_add_one,hy]at hi
    rcases List.mem_append.1 hi with hi|hi
    ·rw[H.out i hi];rfl
    ·obtain rfl:i=y:=by simpa using hi
     simp
   clear hy hNU hgU
   go_wp2
   go_roundg (l.length-(kk+1))
   case measure=>omega
   case rel=>exact⟨kk+1,_,by omega,by omega,by go_num,⟨hxU.out,HN.out⟩,HT⟩
  have hltz:¬ (kk:Int)<(l.length:Int):=by omega
  have HF:Hid (∀i∈l,f i=true):=fun i hi=>H.out i (by rw[List.take_of_length_le (by omega)];exact hi)
  clear H
  go_wp2
  go_loopg [16,59] more.length (fun gg _ s59 wr=>∃kk m:Nat,∃f:Int→Bool,kk≤more.length∧more.length-kk≤gg∧s59=.int .i64 kk∧m≤200000+kk∧Hid (Ext w4 wr∧kcc wr w4.heap.size m f)∧Hid (∀i∈l,f i=true))
  case atStart=>exact⟨0,kk,f,Nat.zero_le _,by omega,rfl,by omega,hx,HF⟩
  case round=>
   clear HF hx hltz;obtain⟨kk,m,f,hkk,hg,rfl,hmm2,hx,HF⟩:=hrel
   by_cases hlt:kk<more.length
   ·obtain⟨b,off,rfl⟩:=hM.addr (by omega)
    obtain⟨y,hy⟩:∃y,more[kk]?=some y:=⟨_,qgq hlt⟩
    have hltz:(kk:Int)<(more.length:Int):=by omega
    have hbw:b<wr.heap.size:=Nat.lt_of_lt_of_le (hM.blk (by omega)) (hE4.trans hx.out.1).len
    have c0:wr.cell? ⟨b,off+kk,none⟩=some (.int .u8 y):=by have:=(hM.ext (hE4.trans hx.out.1)).at_ hy (i:=0) rfl;simpa using this
    obtain⟨q6,z6⟩:=Q6.out wr hx.out.1;have y0:=hm y (qmq hy)
    have hncz:¬ (nc:Int)=0:=by omega
    have hw8:IntKind.i64.wrap y=y:=wrap_in5 (by omega)
    obtain⟨wu,hpu,hNU,hgU⟩:=hx.out.2.put (by omega) (z:=y % nc) (by
     have a1:=Int.emod_nonneg y hncz
     have a2:=Int.emod_lt_of_pos y (show (0:Int)<nc by omega)
     unfold I64;omega)
    have hxU:Hid (Ext w4 wu):=Below.grown hx.out.1 hgU hx.out.1.len (fun k e=>by cases e;exact Nat.le_refl _)
    have HN:=Lib.hid hNU;clear hy hNU hgU
    go_wp2
    go_roundg (more.length-(kk+1))
    case measure=>omega
    case rel=>exact⟨kk+1,m+1,_,by omega,by omega,by go_num,by omega,⟨hxU.out,HN.out⟩,fun i hi=>by rw[HF.out i hi];rfl⟩
   have hltz:¬ (kk:Int)<(more.length:Int):=by omega
   obtain⟨q6,z6⟩:=Q6.out wr hx.out.1;obtain⟨bm,hbm⟩:∃bm,wr.heap.size=bm:=⟨_,rfl⟩
   have hb4m:w4.heap.size≤bm:=by rw[←hbm];exact hx.out.1.len
   go_wp2
   go_loopg [17,18,76] nc (fun gg s17 _ s76 wq=>∃kk:Nat,∃u:Value,u=s17∧kk≤nc∧nc-kk≤gg∧s76=.int .i64 kk∧Hid (Ext w4 wq∧kcc wq w4.heap.size m f∧bm≤wq.heap.size)∧Hid (LI bm wq u (upL f kk)))
   case atStart=>exact⟨0,_,rfl,Nat.zero_le _,by omega,rfl,⟨hx.out.1,hx.out.2,by omega⟩,LG.nil _ _ _ _ _⟩
   case round=>
    clear q6 z6 hltz hbm;obtain⟨k,u17,rfl,hk,hg2,rfl,hx3,hL⟩:=hrel
    by_cases hlk:k<nc
    ·have hlkz:(k:Int)<(nc:Int):=by omega
     have hlook:=(kcc.look hx3.out.2.1 (z:=(k:Int)) (by unfold I64;omega))
     have hlen:(upL f k).length≤4000:=Nat.le_trans (upL_len f k) (by omega)
     have hsucc:=upL_succ f k;have hz3:=hx3.out.2.2
     cases hf:f (k:Int) with
     | false=>
      rw[hf]at hlook hsucc
      go_wp2
      go_roundg (nc-(k+1))
      case measure=>omega
      case rel=>exact⟨k+1,_,rfl,by omega,by omega,by go_num,hx3,by show LI _ _ _ _;rw[hsucc];simpa using hL.out⟩
     | true=>
      rw[hf]at hlook hsucc
      go_wp2_with (at_builtin;refine kia appsI rfl _ _ rfl bm u17 (upL f k) rfl (hL.out.ext ((Ext.refl _).alloc _)) ?qB ⟨wr.heap.size,0,none⟩ 1 1 [(k:Int)] rfl rfl (tmpOne wr _ 3) ?qb ?_)
      case qB=>have:=qsa wr (.cells #[.int .i64 (k:Int)] 3);omega
      case qb=>omega
      intro v' w6 hv6 hb6 hg6 _
      have hE5:Ext wr (wr.alloc (.cells #[.int .i64 (k:Int)] 3)):=(Ext.refl _).alloc _
      have hNm:=Lib.hid (kcc.app (hx3.out.2.1.ext hE5) (hL.out.ext hE5) hg6)
      have hx6:Hid (Ext w4 w6∧bm≤w6.heap.size):=by
       refine⟨(hx3.out.1.trans hE5).grown hg6 (fun j e=>by have:=(hL.out.own j e).1;omega),?_⟩
       have:=hg6.size
       have:=hE5.len
       omega
      have hv:=Lib.hid hv6;clear hv6 hb6 hg6 hE5
      go_wp2
      go_roundg (nc-(k+1))
      case measure=>omega
      case rel=>exact⟨k+1,_,rfl,by omega,by omega,by go_num,⟨hx6.out.1,hNm.out,hx6.out.2⟩,by show LI _ _ _ _;rw[hsucc];exact hv.out⟩
    have hlkz:¬ (k:Int)<(nc:Int):=by omega
    obtain rfl:k=nc:=by omega
    obtain⟨A5,c5,rfl,hS5,_⟩:=hL.out.reads (fun _=>rfl)
    have hA5:=hL.out.okA
    have hE7:Ext w wr:=hE4.trans hx3.out.1
    have KK:=Lib.hid (K18x.out A5 c5 (upL f k) wr hE7 hS5 hA5 (Nat.le_trans (upL_len f k) (by omega)) (upL_up f k) (fun i hi=>by
     obtain⟨a1,a2,a3⟩:=CU.out i hi
     exact upL_mem.2 ⟨a2,by omega,HF.out i a1⟩))
    have HX:=Lib.hid (KX.out wr ((Ext.trans xt hb4).trans hx3.out.1))
    have z0:w.heap.size<wr.heap.size:=(qaz HX.out.1).1
    have z1:w.heap.size+1<wr.heap.size:=(qaz HX.out.2).1
    generalize (upL f k).length=n5 at *
    go_wp2_with (first
     | (refine kak (by rfl) 37 _ rfl _ rfl 37 ev _ _ HX.out.1 Tryz.underlying37 rfl KL.out ?_)
     | (refine kak (by rfl) 40 _ rfl _ rfl 40 ov _ _ HX.out.2 Tryz.underlying40 rfl KM.out ?_)
     | (go_at_call 18;refine KK.out.mono ?_;rintro e w7 ⟨A8,c8,r8,rfl,hR8,hm8,hx8⟩;have H8:=Lib.hid (And.intro hR8 hm8);clear hR8 hm8)
     | (go_at_call 31;refine(K31x.out _ (hE7.trans hx8)).mono ?_;rintro e w8 ⟨A9,c9,r9,rfl,hR9,hm9,hx9⟩;have K20x:=Lib.hid (K20.out A8 c8 r8 A9 c9 r9 w8 (by have:=congrArg List.length H8.out.2;rw[List.length_map]at this;have:=TLx.out.1;omega) (H8.out.1.ext hx9) hR9 (H8.out.2.trans hm9.symm) (fun v hv=>TLx.out.2 _ (by rw[←H8.out.2];exact List.mem_map.2 ⟨v,hv,rfl⟩)));clear hR9 hm9)
     | (go_at_call 20;refine K20x.out.mono ?_;rintro e w9 ⟨rfl,hx10⟩))
    go_ret
    exact⟨rfl,((hE7.trans hx8).trans hx9).trans hx10⟩
end Go.Proofs.YtcgghcicnanliaaGreatDoor
