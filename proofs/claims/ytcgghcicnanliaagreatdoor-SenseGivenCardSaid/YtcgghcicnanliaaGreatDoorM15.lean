/- Walks: the reference's Formed and Seen: what is seen is formed. Conditions: none. -/
import Derived.Test.YtcgghcicnanliaaGreatDoorM13
set_option linter.unusedVariables false
set_option linter.unusedSimpArgs false
namespace Go.Proofs.YtcgghcicnanliaaGreatDoor
open Go.RowKit
set_option maxHeartbeats 4000000
set_option maxRecDepth 100000
theorem formed_1 (e:EntryT)(hk:e.kind=1)(w:World):Calls Tryz.prog 39 #[.agg e.vals.toArray] w fun r w'=>∃b,r=.returned (.bool b)∧Ext w w':=by
 obtain⟨seq,time,kind,sensor,ref,a,n,lo,hi,temp,age,since⟩:=e
 simp only at hk
 subst hk;simp only[EntryT.vals]at *
 go_enter Tryz.func39,Tryz.ntmps39
 go_wp2_with (first
  | (go_at_call 79;refine(in_79 _ _ _ _).mono ?_;rintro e w1 ⟨rfl,rfl⟩)
  | (go_at_call 80;refine(kie _ _ _ _ _).mono ?_;rintro e w1 ⟨rfl,hb1⟩;obtain⟨hc1,hf1,hz1⟩:=hb1.rules;(try simp only[qsa]at hz1);(have hzz1:w.heap.size<w1.heap.size:=by omega)))
 all_goals (go_ret;exact⟨_,rfl,xt⟩)
theorem formed_2 (e:EntryT)(hk:¬ e.kind=1)(w:World):Calls Tryz.prog 39 #[.agg e.vals.toArray] w fun r w'=>∃b,(b=true→e.Seen)∧r=.returned (.bool b)∧Ext w w':=by
 have hS:Hid (e.Seen↔e.Seen):=Iff.rfl
 obtain⟨seq,time,kind,sensor,ref,a,n,lo,hi,temp,age,since⟩:=e
 simp only at hk
 have d0:(kind == 1)=false:=by simpa using hk
 generalize hP:EntryT.Seen ⟨seq,time,kind,sensor,ref,a,n,lo,hi,temp,age,since⟩=P;have HP:=Lib.hid hP;clear hP hS;simp only[EntryT.vals]at *
 by_cases h2:kind=2
 ·subst h2
  go_enter Tryz.func39,Tryz.ntmps39
  go_wp2_with (first
   | (go_at_call 79;refine(in_79 _ _ _ _).mono ?_;rintro e w1 ⟨rfl,rfl⟩)
   | (go_at_call 80;refine(kie _ _ _ _ _).mono ?_;rintro e w1 ⟨rfl,hb1⟩;obtain⟨hc1,hf1,hz1⟩:=hb1.rules;(try simp only[qsa]at hz1);(have hzz1:w.heap.size<w1.heap.size:=by omega)))
  all_goals (go_ret;refine⟨_,fun hb=>?_,rfl,xt⟩)
  all_goals first
   | (cases hb;done)
   | (rw[←HP.out];simp only[EntryT.Seen];simp_all [inB,kau];done)
   | (rw[←HP.out];simp only[EntryT.Seen];simp_all [inB,kau];omega)
 have d2:(kind == 2)=false:=by simpa using h2
 by_cases h4:kind=4
 ·subst h4
  go_enter Tryz.func39,Tryz.ntmps39
  go_wp2_with (first
   | (go_at_call 79;refine(in_79 _ _ _ _).mono ?_;rintro e w1 ⟨rfl,rfl⟩)
   | (go_at_call 80;refine(kie _ _ _ _ _).mono ?_;rintro e w1 ⟨rfl,hb1⟩;obtain⟨hc1,hf1,hz1⟩:=hb1.rules;(try simp only[qsa]at hz1);(have hzz1:w.heap.size<w1.heap.size:=by omega)))
  all_goals (go_ret;refine⟨_,fun hb=>?_,rfl,xt⟩)
  all_goals first
   | (cases hb;done)
   | (rw[←HP.out];simp only[EntryT.Seen];simp_all [inB,kau];done)
   | (rw[←HP.out];simp only[EntryT.Seen];simp_all [inB,kau];omega)
 have d4:(kind == 4)=false:=by simpa using h4
 by_cases h3:kind=3∨kind=7
 ·rcases h3 with rfl|rfl
  all_goals
   go_enter Tryz.func39,Tryz.ntmps39
   go_wp2_with (first
    | (go_at_call 79;refine(in_79 _ _ _ _).mono ?_;rintro e w1 ⟨rfl,rfl⟩)
    | (go_at_call 80;refine(kie _ _ _ _ _).mono ?_;rintro e w1 ⟨rfl,hb1⟩;obtain⟨hc1,hf1,hz1⟩:=hb1.rules;(try simp only[qsa]at hz1);(have hzz1:w.heap.size<w1.heap.size:=by omega)))
   all_goals (go_ret;refine⟨_,fun hb=>?_,rfl,xt⟩)
   all_goals first
    | (cases hb;done)
    | (rw[←HP.out];simp only[EntryT.Seen];simp_all [inB,kau];done)
    | (rw[←HP.out];simp only[EntryT.Seen];simp_all [inB,kau];omega)
 have d3:(kind == 3)=false:=by simp;omega
 have d7:(kind == 7)=false:=by simp;omega
 by_cases h5:kind=5
 ·subst h5
  go_enter Tryz.func39,Tryz.ntmps39
  go_wp2_with (first
   | (go_at_call 79;refine(in_79 _ _ _ _).mono ?_;rintro e w1 ⟨rfl,rfl⟩)
   | (go_at_call 80;refine(kie _ _ _ _ _).mono ?_;rintro e w1 ⟨rfl,hb1⟩;obtain⟨hc1,hf1,hz1⟩:=hb1.rules;(try simp only[qsa]at hz1);(have hzz1:w.heap.size<w1.heap.size:=by omega)))
  all_goals (go_ret;refine⟨_,fun hb=>?_,rfl,xt⟩)
  all_goals first
   | (cases hb;done)
   | (rw[←HP.out];simp only[EntryT.Seen];simp_all [inB,kau];done)
   | (rw[←HP.out];simp only[EntryT.Seen];simp_all [inB,kau];omega)
 have d5:(kind == 5)=false:=by simpa using h5
 by_cases h6:kind=6
 ·subst h6
  go_enter Tryz.func39,Tryz.ntmps39
  go_wp2_with (first
   | (go_at_call 79;refine(in_79 _ _ _ _).mono ?_;rintro e w1 ⟨rfl,rfl⟩)
   | (go_at_call 80;refine(kie _ _ _ _ _).mono ?_;rintro e w1 ⟨rfl,hb1⟩;obtain⟨hc1,hf1,hz1⟩:=hb1.rules;(try simp only[qsa]at hz1);(have hzz1:w.heap.size<w1.heap.size:=by omega)))
  all_goals (go_ret;refine⟨_,fun hb=>?_,rfl,xt⟩)
  all_goals first
   | (cases hb;done)
   | (rw[←HP.out];simp only[EntryT.Seen];simp_all [inB,kau];done)
   | (rw[←HP.out];simp only[EntryT.Seen];simp_all [inB,kau];omega)
 ·have d6:(kind == 6)=false:=by simpa using h6
  go_enter Tryz.func39,Tryz.ntmps39
  go_wp2_with (first
   | (go_at_call 79;refine(in_79 _ _ _ _).mono ?_;rintro e w1 ⟨rfl,rfl⟩)
   | (go_at_call 80;refine(kie _ _ _ _ _).mono ?_;rintro e w1 ⟨rfl,hb1⟩;obtain⟨hc1,hf1,hz1⟩:=hb1.rules;(try simp only[qsa]at hz1);(have hzz1:w.heap.size<w1.heap.size:=by omega)))
  all_goals (go_ret;refine⟨_,fun hb=>?_,rfl,xt⟩)
  all_goals first
   | (cases hb;done)
   | (rw[←HP.out];simp only[EntryT.Seen];simp_all [inB,kau];done)
   | (rw[←HP.out];simp only[EntryT.Seen];simp_all [inB,kau];omega)
theorem formed_39 (e:EntryT)(w:World):Calls Tryz.prog 39 #[.agg e.vals.toArray] w fun r w'=>∃b,(b=true→e.kind=1∨e.Seen)∧r=.returned (.bool b)∧Ext w w':=by
 by_cases hk:e.kind=1
 ·exact(formed_1 e hk w).mono fun r w' ⟨b,h1,h2⟩=>⟨b,fun _=>.inl hk,h1,h2⟩
 ·exact(formed_2 e hk w).mono fun r w' ⟨b,h0,h1,h2⟩=>⟨b,fun h=>.inr (h0 h),h1,h2⟩
theorem seen_51 (e:EntryT)(w:World):Calls Tryz.prog 51 #[.agg e.vals.toArray] w fun r w'=>∃b,(b=true→e.Seen)∧r=.returned (.bool b)∧Ext w w':=by
 have K:=Lib.hid (formed_39 e)
 have hS:Hid (e.kind=1→¬ e.Seen):=fun h h'=>by have:=h'.1;omega
 obtain⟨seq,time,kind,sensor,ref,a,n,lo,hi,temp,age,since⟩:=e;generalize EntryT.Seen ⟨seq,time,kind,sensor,ref,a,n,lo,hi,temp,age,since⟩=P at *;simp only[EntryT.vals]at *
 go_enter Tryz.func51,Tryz.ntmps51
 go_wp2_with (go_at_call 39;refine(K.out _).mono ?_;rintro e w1 ⟨b,hb,rfl,hb1⟩;obtain⟨hc1,hf1,hz1⟩:=hb1.rules;(try simp only[qsa]at hz1);(have hzz1:w.heap.size<w1.heap.size:=by omega);have HB:=Lib.hid hb;clear hb;cases b)
 all_goals (go_ret;refine⟨_,fun hb=>?_,rfl,xt⟩)
 all_goals first
  | (cases hb;done)
  | (rcases HB.out trivial with h|h<;>simp_all)
end Go.Proofs.YtcgghcicnanliaaGreatDoor
