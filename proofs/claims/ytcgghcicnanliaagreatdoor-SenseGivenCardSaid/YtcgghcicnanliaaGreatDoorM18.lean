/- Walks: sense.isFormed at observations that are well-formed. Conditions: such an entry. -/
import Derived.Test.YtcgghcicnanliaaGreatDoorM13
set_option linter.unusedVariables false
set_option linter.unusedSimpArgs false
namespace Go.Proofs.YtcgghcicnanliaaGreatDoor
open Go.RowKit
set_option maxHeartbeats 4000000
set_option maxRecDepth 100000
theorem built9 (a b c d e f g h i:Int):Tryz.prog.built 121 [(0,.int .i64 a),(1,.int .i64 b),(2,.int .i64 c),(3,.int .i64 d),(4,.int .i64 e),(5,.int .i64 f),(6,.int .i64 g),(7,.int .i64 h),(8,.int .i64 i)]=some #[.int .i64 a,.int .i64 b,.int .i64 c,.int .i64 d,.int .i64 e,.int .i64 f,.int .i64 g,.int .i64 h,.int .i64 i]:=(built_121 _).trans (by kernel_rfl)
theorem LimT.one (m:LimT):m.vals.toArray.all (·.oneCell')=true:=by
 simp[LimT.vals,Value.oneCell']
theorem isFormed_37 (e:EntryT)(hk:2≤e.kind∧e.kind≤7)(h:kgn e=true)(w:World):Calls Tryz.prog 37 #[.agg e.vals.toArray] w fun r w'=>r=.returned (.bool true)∧Ext w w':=by
 have K1:=of_74 e.kind hk;have K2:=isWithin_75 (khr e.kind) e.sensor e.ref e.a e.n e.lo e.hi e.temp e.age e.since;have KB:=built9 e.sensor e.ref e.a e.n e.lo e.hi e.temp e.age e.since
 have HS0:(khr e.kind).vals.toArray.size=18:=rfl
 have HO0:=(khr e.kind).one
 obtain⟨⟨⟨⟨⟨_,g2,g3⟩,g4,g5⟩,g6⟩,hw⟩,ht1,ht2⟩:((((kindOk e.kind=true∧1≤e.seq∧e.seq≤2000)∧0≤e.time∧e.time≤1000000000)∧e.lo≤e.hi)∧e.within=true)∧(e.kind=6→e.lo=e.hi)∧True:=by
  simp only[kgn,headOk,tailOk,inB,qba,Bool.or_eq_true,decide_eq_true_eq,Bool.not_eq_true',decide_eq_false_iff_not,Bool.or_eq_false_iff]at h
  refine⟨⟨⟨⟨⟨h.1.1.1.1.1,h.1.1.1.1.2⟩,h.1.1.1.2⟩,h.1.1.2⟩,h.1.2⟩,fun hk6=>?_,trivial⟩
  rcases h.2.1 with h'|h'
  ·omega
  ·exact h'
 have hW:kel (khr e.kind) e.sensor e.ref e.a e.n e.lo e.hi e.temp e.age e.since=true:=hw
 rw[hW]at K2;clear hw hW h ht2;generalize (khr e.kind).vals.toArray=ls at K1 K2 HS0 HO0;generalize #[Value.int .i64 e.sensor,.int .i64 e.ref,.int .i64 e.a,.int .i64 e.n,.int .i64 e.lo,.int .i64 e.hi,.int .i64 e.temp,.int .i64 e.age,.int .i64 e.since]=ns at K2 KB;obtain⟨seq,time,kind,sensor,ref,a,n,lo,hi,temp,age,since⟩:=e;obtain⟨hk1,hk2⟩:=hk;simp only[EntryT.vals]at *;have K1:=Lib.hid K1;have K2:=Lib.hid K2;have KB:=Lib.hid KB;have HS:=Lib.hid HS0;have HO:=Lib.hid HO0;clear HS0 HO0
 have d1:decide (seq<1)=false:=decide_eq_false (by omega)
 have d2:decide (seq > 2000)=false:=decide_eq_false (by omega)
 have d3:decide (time<0)=false:=decide_eq_false (by omega)
 have d4:decide (time > 1000000000)=false:=decide_eq_false (by omega)
 have d5:decide (lo > hi)=false:=decide_eq_false (by omega)
 have d6:(kind == 1)=false:=by simp;omega
 have d7:(kind != 1)=true:=by simp;omega
 go_enter Tryz.func37,Tryz.ntmps37
 go_upto_region 2 with (first
  | (refine kiq rfl 117 _ _ rfl _ ls _ 117 rfl _ rfl (by simp only[qsa]) rfl (by rw[HS.out];kernel_rfl) (by rw[HS.out];rfl) HO.out ?_)
  | (go_at_call 74;refine(K1.out _).mono ?_;rintro e w1 ⟨rfl,hb1⟩;have HB1:=Lib.hid hb1;clear hb1))
 refine kbd (G:=fun W=>Code.wp _ _ _ _ W) (fun W=>(Hid (Ext w W)∧Hid (W.heap[w1.heap.size]?=some (.cells ls 117))∧w.heap.size<W.heap.size)∧(W.cell? ⟨w.heap.size,0,none⟩=some (.int .i64 seq)∧W.cell? ⟨w.heap.size,1,none⟩=some (.int .i64 time)∧W.cell? ⟨w.heap.size,2,none⟩=some (.int .i64 kind)∧W.cell? ⟨w.heap.size,3,none⟩=some (.int .i64 sensor)∧W.cell? ⟨w.heap.size,4,none⟩=some (.int .i64 ref)∧W.cell? ⟨w.heap.size,5,none⟩=some (.int .i64 a)∧W.cell? ⟨w.heap.size,6,none⟩=some (.int .i64 n)∧W.cell? ⟨w.heap.size,7,none⟩=some (.int .i64 lo)∧W.cell? ⟨w.heap.size,8,none⟩=some (.int .i64 hi)∧W.cell? ⟨w.heap.size,9,none⟩=some (.int .i64 temp)∧W.cell? ⟨w.heap.size,10,none⟩=some (.int .i64 age)∧W.cell? ⟨w.heap.size,11,none⟩=some (.int .i64 since))) ?_ ?_
 rotate_left
 ·have hl:=HB1.out.len
  simp only[qsa]at hl
  refine⟨⟨Ext.alloc (Ext.trans ((Ext.refl w).alloc _) HB1.out) _,kbs w1 _,by simp only[qsa];omega⟩,?_⟩
  obtain⟨hc1,hf1,hz1⟩:=HB1.out.rules
  have hlt:w.heap.size<w1.heap.size:=by omega
  simp only[qsa]at hc1
  simp[go_sem,hc1,hlt]
 clear K1;rintro W ⟨⟨HE,HL,hzz⟩,c0,c1,c2,c3,c4,c5,c6,c7,c8,c9,c10,c11⟩
 have LS:=Lib.hid (show (Tryz.prog.info? 117).map (·.size)=some ls.size by rw[HS.out];kernel_rfl)
 go_upto_region 4 with fail
 refine wp_region_lit ?_
 refine wpList_load_row rfl 117 (.tmp 3) rfl w1.heap.size rfl 117 ls (0,0) _ HL.out Tryz.underlying117 rfl LS.out ?_
 clear LS HS HO HL HB1
 by_cases h6:kind=6
 ·subst h6
  obtain rfl:=ht1 rfl;clear ht1
  go_wp2_with (first
   | (refine kfn rfl 121 _ rfl _ _ KB.out (by kernel_rfl) ?_)
   | (go_at_call 75;refine(K2.out _).mono ?_;rintro e w2 ⟨rfl,hb2⟩;obtain⟨hc2,hf2,hz2⟩:=hb2.rules;(have hzz2:w.heap.size<w2.heap.size:=by omega)))
  all_goals (go_ret;exact⟨rfl,HE.out.trans hb2⟩)
 ·have d8:(kind == 6)=false:=by simpa using h6
  clear ht1
  go_wp2_with (first
   | (refine kfn rfl 121 _ rfl _ _ KB.out (by kernel_rfl) ?_)
   | (go_at_call 75;refine(K2.out _).mono ?_;rintro e w2 ⟨rfl,hb2⟩;obtain⟨hc2,hf2,hz2⟩:=hb2.rules;(have hzz2:w.heap.size<w2.heap.size:=by omega)))
  all_goals (go_ret;exact⟨rfl,HE.out.trans hb2⟩)
end Go.Proofs.YtcgghcicnanliaaGreatDoor
