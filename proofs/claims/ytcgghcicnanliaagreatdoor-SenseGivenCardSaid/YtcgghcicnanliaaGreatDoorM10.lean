/- Walks: exact.Floor, exact.Ceil, tide.down, tide.block, tide.isPlace. Conditions: a divisor from 1 on. Words that stand in for small functions of places. Conditions: none. -/
import Derived.Test.YtcgghcicnanliaaGreatDoorM08
import Derived.Deep.LoopGhost
import Derived.Shelf.Abstract
import Derived.Test.YtcgghcicnanliaaGreatDoorM05
set_option linter.unusedVariables false
set_option linter.unusedSimpArgs false
namespace Go.Proofs.YtcgghcicnanliaaGreatDoor
open Go.RowKit
set_option maxHeartbeats 4000000
set_option maxRecDepth 100000
theorem isWide_388 (n:Int)(w:World) :
  Calls Tryz.prog 388 #[.int .i64 n] w fun e w'=>e=.returned (.bool (inB n (-1000000000000) 1000000000000))∧w=w':=by
 go_enter Tryz.func388,Tryz.ntmps388
 go_wp2
 all_goals (go_ret;exact⟨retb (by rw[Bool.eq_iff_iff];(try simp[inB])<;>omega),rfl⟩)
structure Wide (a b:Int):Prop where
 a1:-1000000000000≤a
 a2:a≤1000000000000
 b1:1≤b
 b2:b≤1000000000000
theorem Wide.bds {a b:Int}(h:Wide a b):0≤a % b∧a % b<b∧-1000000000000≤a / b∧a / b≤1000000000000:=by
 obtain⟨h1,h2,h3,h4⟩:=h
 refine⟨Int.emod_nonneg _ (by omega),Int.emod_lt_of_pos _ (by omega),Int.le_ediv_of_mul_le (by omega) (by omega),Int.ediv_le_of_le_mul (by omega) (by omega)⟩
theorem divide_389 (a b:Int)(h:Wide a b)(w:World) :
  Calls Tryz.prog 389 #[.int .i64 a,.int .i64 b] w fun e w'=>e=.returned (.agg #[.int .i64 (a / b),.int .i64 (a % b)])∧Ext w w':=by
 obtain⟨m0,m1,q0,q1⟩:=h.bds;obtain⟨h1,h2,h3,h4⟩:=h
 have hb0:(b == 0)=false:=by simp;omega
 have hb1:¬ b=0:=by omega
 have hbl:decide (b<0)=false:=decide_eq_false (by omega)
 by_cases hz:a % b=0
 ·have ht:a.tdiv b=a / b:=by rw[Int.tdiv_eq_ediv,if_pos (.inr (Int.dvd_of_emod_eq_zero hz))];omega
  have hr:a.tmod b=0:=by rw[Int.tmod_eq_emod,if_pos (.inr (Int.dvd_of_emod_eq_zero hz)),hz];rfl
  have hn:(a.tmod b != 0)=false:=by simp[hr]
  rw[hz];clear hz m1 m0
  go_enter Tryz.func389,Tryz.ntmps389
  go_wp2
  all_goals go_region
  all_goals go_wp2
  all_goals ((try simp only[Exit.inBlock,Exit.then]);refine bodyPost_ret (by first|(simp[results,Tryz.f389,go_sem];rfl)|(simp[results,Tryz.f389,go_sem];done)|(simp[results,Tryz.f389,go_sem, *];rfl)|(simp[results,Tryz.f389,go_sem, *];done)) rfl ?_)
  all_goals exact⟨by simp[ht,hr],xt⟩
 ·by_cases hp:0≤a
  ·have ht:a.tdiv b=a / b:=by rw[Int.tdiv_eq_ediv,if_pos (.inl hp)];omega
   have hr:a.tmod b=a % b:=by rw[Int.tmod_eq_emod,if_pos (.inl hp)];omega
   have hn:(a % b != 0)=true:=by simp[hz]
   have hl:decide (a % b<0)=false:=decide_eq_false (by omega)
   go_enter Tryz.func389,Tryz.ntmps389
   go_wp2
   all_goals go_region
   all_goals go_wp2
   all_goals ((try simp only[Exit.inBlock,Exit.then]);refine bodyPost_ret (by first|(simp[results,Tryz.f389,go_sem];rfl)|(simp[results,Tryz.f389,go_sem];done)|(simp[results,Tryz.f389,go_sem, *];rfl)|(simp[results,Tryz.f389,go_sem, *];done)) rfl ?_)
   all_goals exact⟨by simp[ht,hr],xt⟩
  ·have hnd:¬ (0≤a∨b ∣ a):=by
    rintro(h|h)
    ·exact hp h
    ·exact hz (Int.emod_eq_zero_of_dvd h)
   have hs:b.sign=1:=Int.sign_eq_one_of_pos (by omega)
   have hnb:(b.natAbs:Int)=b:=by omega
   have ht:a.tdiv b=a / b+1:=by rw[Int.tdiv_eq_ediv,if_neg hnd,hs]
   have hr:a.tmod b=a % b-b:=by rw[Int.tmod_eq_emod,if_neg hnd,hnb]
   have hn:(a % b-b != 0)=true:=by simp;omega
   have hl:decide (a % b-b<0)=true:=decide_eq_true (by omega)
   go_enter Tryz.func389,Tryz.ntmps389
   go_wp2
   all_goals go_region
   all_goals go_wp2
   all_goals ((try simp only[Exit.inBlock,Exit.then]);refine bodyPost_ret (by first|(simp[results,Tryz.f389,go_sem];rfl)|(simp[results,Tryz.f389,go_sem];done)|(simp[results,Tryz.f389,go_sem, *];rfl)|(simp[results,Tryz.f389,go_sem, *];done)) rfl ?_)
   all_goals exact⟨by simp[ht,hr],xt⟩
theorem floor1_338 (q r:Int)(w:World):Calls Tryz.prog 338 #[.agg #[.int .i64 q,.int .i64 r]] w fun e w'=>e=.returned (.int .i64 q)∧Ext w w':=by
 go_enter Tryz.func338,Tryz.ntmps338
 go_wp2
 go_ret
 exact⟨rfl,xt⟩
def upI (q r:Int):Int:=if r=0 then q else q+1
theorem up_432 (q r:Int)(h1:-1000000000000≤q)(h2:q≤1000000000000)(w:World):Calls Tryz.prog 432 #[.agg #[.int .i64 q,.int .i64 r]] w fun e w'=>e=.returned (.int .i64 (upI q r))∧Ext w w':=by
 by_cases hr:r=0
 ·subst hr
  go_enter Tryz.func432,Tryz.ntmps432
  go_wp2
  go_ret
  exact⟨rfl,xt⟩
 ·have e:upI q r=q+1:=by simp[upI,hr]
  rw[e];clear e
  go_enter Tryz.func432,Tryz.ntmps432
  go_wp2
  go_ret
  exact⟨rfl,xt⟩
theorem eg_338:∀args w,(callFunc 338 args).run Tryz.prog w=.ok (.enter 338 args) w:=enters_of Tryz.func338 (by kernel_rfl) rfl
theorem eg_432:∀args w,(callFunc 432 args).run Tryz.prog w=.ok (.enter 432 args) w:=enters_of Tryz.func432 (by kernel_rfl) rfl
theorem kof (g:Nat)(eg:∀args w,(callFunc g args).run Tryz.prog w=.ok (.enter g args) w)(a b r:Int)(h:Wide a b)
  (hp:∀W,Calls Tryz.prog g #[.agg #[.int .i64 (a / b),.int .i64 (a % b)]] W fun e w'=>e=.returned (.int .i64 r)∧Ext W w') (w:World) :
  Calls Tryz.prog 337 #[.int .i64 a,.int .i64 b,.func (.func g) #[] #[]] w fun e w'=>e=.returned (.tuple #[.int .i64 r,.int .i64 0])∧Ext w w':=by
 have K1:Hid (∀W,Calls Tryz.prog 388 #[.int .i64 a] W fun e w'=>e=.returned (.bool true)∧W=w'):=fun W=>by
  have e:inB a (-1000000000000) 1000000000000=true:=by have:=h.a1;have:=h.a2;simp[inB];omega
  rw[←e];exact isWide_388 a W
 have K2:Hid (∀W,Calls Tryz.prog 388 #[.int .i64 b] W fun e w'=>e=.returned (.bool true)∧W=w'):=fun W=>by
  have e:inB b (-1000000000000) 1000000000000=true:=by have:=h.b1;have:=h.b2;simp[inB];omega
  rw[←e];exact isWide_388 b W
 have K3:=Lib.hid (divide_389 a b h);have K4:=Lib.hid hp
 have hb0:(b == 0)=false:=by have:=h.b1;simp;omega
 clear hp h;generalize a / b=q at K3 K4;generalize a % b=s at K3 K4
 go_enter Tryz.func337,Tryz.ntmps337
 go_wp2_with (first
  | (go_at_call 388;refine(K1.out _).mono ?_;rintro e w' ⟨rfl,rfl⟩)
  | (go_at_call 388;refine(K2.out _).mono ?_;rintro e w' ⟨rfl,rfl⟩)
  | (go_at_call 389;refine(K3.out _).mono ?_;rintro e w' ⟨rfl,hb⟩)
  | (go_at_fn g;refine(K4.out _).mono ?_;rintro e w2 ⟨rfl,hb2⟩))
 go_ret2
 exact⟨rfl,xt⟩
theorem floor_261 (a b:Int)(h:Wide a b)(w:World) :
  Calls Tryz.prog 261 #[.int .i64 a,.int .i64 b] w fun e w'=>e=.returned (.tuple #[.int .i64 (a / b),.int .i64 0])∧Ext w w':=by
 have K:=Lib.hid (kof 338 eg_338 a b (a / b) h (fun W=>floor1_338 _ _ W))
 generalize a / b=q at K ⊢;clear h
 go_enter Tryz.func261,Tryz.ntmps261
 go_wp2_with (go_at_call 337;refine(K.out _).mono ?_;rintro e w' ⟨rfl,hb⟩)
 go_ret2
 exact⟨rfl,xt⟩
def ceilI (a b:Int):Int:=upI (a / b) (a % b)
theorem ceil_419 (a b:Int)(h:Wide a b)(w:World) :
  Calls Tryz.prog 419 #[.int .i64 a,.int .i64 b] w fun e w'=>e=.returned (.tuple #[.int .i64 (ceilI a b),.int .i64 0])∧Ext w w':=by
 have K:=Lib.hid (kof 432 eg_432 a b (ceilI a b) h (fun W=>up_432 _ _ h.bds.2.2.1 h.bds.2.2.2 W))
 generalize ceilI a b=q at K ⊢;clear h
 go_enter Tryz.func419,Tryz.ntmps419
 go_wp2_with (go_at_call 337;refine(K.out _).mono ?_;rintro e w' ⟨rfl,hb⟩)
 go_ret2
 exact⟨rfl,xt⟩
theorem down_176 (a b:Int)(h:Wide a b)(w:World) :
  Calls Tryz.prog 176 #[.int .i64 a,.int .i64 b] w fun e w'=>e=.returned (.int .i64 (a / b))∧Ext w w':=by
 have K:=Lib.hid (floor_261 a b h);generalize a / b=q at K ⊢;clear h
 go_enter Tryz.func176,Tryz.ntmps176
 go_wp2_with (go_at_call 261;refine(K.out _).mono ?_;rintro e w' ⟨rfl,hb⟩)
 go_ret
 exact⟨rfl,xt⟩
theorem kmm (p:Pt)(w:World) :
  Calls Tryz.prog 173 #[.agg #[.int .i64 p.1,.int .i64 p.2]] w fun e w'=>e=.returned (.bool (plB p))∧Ext w w':=by
 obtain⟨x,y⟩:=p;simp only[plB]
 go_enter Tryz.func173,Tryz.ntmps173
 go_wp2
 all_goals (go_ret;exact⟨retb (by rw[Bool.eq_iff_iff];(try simp[inB])<;>omega),xt⟩)
theorem block_174 (x y:Int)(hx1:-1000000≤x)(hx2':x≤1000000)(hy1:-1000000≤y)(hy2:y≤1000000)(w:World) :
  Calls Tryz.prog 174 #[.agg #[.int .i64 x,.int .i64 y]] w fun e w'=>e=.returned (.agg #[.int .i64 (x / 10000),.int .i64 (y / 10000)])∧Ext w w':=by
 go_enter Tryz.func174,Tryz.ntmps174
 go_wp2
 (refine kav 6 (by kernel_rfl) (by kernel_rfl) ?_;simp only[List.take_succ_cons,List.take_zero,List.drop_succ_cons,List.drop_zero];(repeat (first|go_big_quiet_step ((go_at_call 176;exact Xt.calls (down_176 _ _ ⟨by omega,by omega,by omega,by omega⟩ _)))|quiet_step ((go_at_call 176;exact Xt.calls (down_176 _ _ ⟨by omega,by omega,by omega,by omega⟩ _)))));refine wpQuiet_nil ?_;rintro _ ⟨xq,rfl⟩;have hx2:=xq.ext;generalize xq.world=w2 at hx2 ⊢;obtain⟨hc9,hf9,hz9⟩:=hx2.rules;(try simp only[qsa]at hz9);(try have hz9a:w.heap.size<w2.heap.size:=by omega);(try have hz9b:w.heap.size+1<w2.heap.size:=by omega);(try have hz9c:w.heap.size+1+1<w2.heap.size:=by omega);(try have hz9d:w.heap.size+1+1+1<w2.heap.size:=by omega))
 go_wp2
 ((try simp only[Exit.inBlock,Exit.then]);refine bodyPost_ret (by first|(simp[results,Tryz.f174,go_sem];rfl)|(simp[results,Tryz.f174,go_sem];done)|(simp[results,Tryz.f174,go_sem, *];rfl)|(simp[results,Tryz.f174,go_sem, *];done)) rfl ?_)
 exact⟨rfl,xt⟩
end Go.Proofs.YtcgghcicnanliaaGreatDoor
namespace Go.Ev
open Go.Proofs Go.Proofs.YtcgghcicnanliaaGreatDoor Go.RowKit
noncomputable section
theorem ent {P:Program}{f:FuncId}{fn}(h:P.funcs[f]?=some fn)(h2:fn.body.isNone=false)(h3:(fn.name == "runtime.NumGoroutine")=false):Enters P f:=⟨⟨fn,h,h2,h3⟩⟩
def khs (g:List Value→Option Value):Word:=fun args h=>match g args with
 | some v=>some (v,h)
 | none=>none
theorem ket {P:Program}{f:FuncId}{g:List Value→Option Value}(hE:Enters P f)
  (hg:∀args v,g args=some v→(∀x∈args,kee x=true)∧kee v=true∧∀w,Calls P f args.toArray w fun e w'=>e=.returned v∧RowKit.Below w.heap.size w w'):Good P f (khs g):=by
 refine⟨hE,fun T ht args h v h' he ι w args' m ha=>?_⟩
 unfold khs at he
 split at he
 case h_2=>cases he
 rename_i v0 hv
 cases he;obtain⟨h1,h2,h3⟩:=hg args _ hv
 have e:args'.toList=args:=by
  refine List.ext_getElem? fun i=>?_
  cases hi:args[i]? with
  | none=>rw[List.getElem?_eq_none_iff]at hi ⊢;rw[←ha.1];exact hi
  | some x=>
   have hlt:=(List.getElem?_eq_some_iff.1 hi).1
   have hlt':i<args'.toList.length:=by rw[←ha.1];exact hlt
   have hi':=List.getElem?_eq_getElem hlt';rw[hi']
   exact congrArg some (kij (h1 x (List.mem_of_getElem? hi)) (ha.2 i x _ hi hi'))
 have e2:args'=args.toArray:=Array.ext' (by simpa using e)
 rw[e2]
 exact callS_flat m h2 (h3 w)
def ptV (v:Value):Option Pt:=
 match v with
 | .agg cs=>match cs.toList with
  | [.int .i64 x,.int .i64 y]=>some (x,y)
  | _=>none
 | _=>none
theorem knb {v:Value}{p:Pt}(he:ptV v=some p):v=.agg #[.int .i64 p.1,.int .i64 p.2]:=by
 unfold ptV at he
 split at he
 case h_2=>cases he
 rename_i cs
 split at he
 case h_2=>cases he
 rename_i x y hcs
 cases he
 congr 1
 exact Array.ext' hcs
theorem flat_pt (p:Pt):kee (.agg #[.int .i64 p.1,.int .i64 p.2])=true:=rfl
def isub (a b:Int):Int:=iadd a (ineg b)
theorem isub_eq (a b:Int):isub a b=a-b:=by unfold isub;rw[iadd_eq,ineg_eq];omega
def ile (a b:Int):Bool:=Bool.not (gl b a)
theorem kjt {a b:Int}:gl a b=true↔a<b:=by
 cases a<;>cases b<;>simp only[gl]<;>simp<;>omega
theorem kgh {a b:Int}:ile a b=true↔a≤b:=by
 unfold ile
 have:=kjt (a:=b) (b:=a)
 cases h:gl b a<;>simp_all<;>omega
def midK (p:Pt):Bool:=bif ile (-1000000) p.1 then bif ile p.1 1000000 then bif ile (-1000000) p.2 then ile p.2 1000000 else false else false else false
theorem midK_ok {p:Pt}(h:midK p=true):Mid p:=by
 simp only[midK,cond_eq_ite]at h;unfold Mid;simp only[kgh]at h
 repeat' split at h
 all_goals first|(cases h;done)|skip
 have:=kgh.1 h
 omega
def turnK (a b c:Pt):Int:=isub (imul (isub b.1 a.1) (isub c.2 a.2)) (imul (isub b.2 a.2) (isub c.1 a.1))
theorem turnK_eq (a b c:Pt):turnK a b c=kcf a b c:=by simp only[turnK,isub_eq,imul_eq,kcf]
def turnG3 (a b c:Option Pt):Option Value:=match a,b,c with
 | some a,some b,some c=>bif midK a then bif midK b then bif midK c then some (.int .i64 (turnK a b c)) else none else none else none
 | _,_,_=>none
def turnG (args:List Value):Option Value:=match args with
 | [a,b,c]=>turnG3 (ptV a) (ptV b) (ptV c)
 | _=>none
theorem turnG_ok {args:List Value}{v:Value}(h:turnG args=some v):∃a b c:Pt,Mid a∧Mid b∧Mid c∧v=.int .i64 (kcf a b c)∧args=[.agg #[.int .i64 a.1,.int .i64 a.2],.agg #[.int .i64 b.1,.int .i64 b.2],.agg #[.int .i64 c.1,.int .i64 c.2]]:=by
 unfold turnG at h
 split at h
 case h_2=>cases h
 rename_i x y z
 unfold turnG3 at h
 split at h
 case h_2=>cases h
 rename_i a b c ha hb hc
 simp only[cond_eq_ite]at h
 repeat' split at h
 all_goals first|(cases h;done)|skip
 rename_i h1 h2 h3
 rw[turnK_eq]at h
 exact⟨a,b,c,midK_ok h1,midK_ok h2,midK_ok h3,(Option.some.inj h).symm,by rw[knb ha,knb hb,knb hc]⟩
theorem flat3 (a b c:Pt):∀x∈[Value.agg #[.int .i64 a.1,.int .i64 a.2],.agg #[.int .i64 b.1,.int .i64 b.2],.agg #[.int .i64 c.1,.int .i64 c.2]],kee x=true:=by
 intro x hx;simp only[List.mem_cons,List.not_mem_nil,or_false]at hx;rcases hx with rfl|rfl|rfl<;>rfl
theorem flat2 (a b:Pt):∀x∈[Value.agg #[.int .i64 a.1,.int .i64 a.2],.agg #[.int .i64 b.1,.int .i64 b.2]],kee x=true:=by
 intro x hx;simp only[List.mem_cons,List.not_mem_nil,or_false]at hx;rcases hx with rfl|rfl<;>rfl
theorem flat1 (a:Pt):∀x∈[Value.agg #[.int .i64 a.1,.int .i64 a.2]],kee x=true:=by
 intro x hx;simp only[List.mem_cons,List.not_mem_nil,or_false]at hx;rcases hx with rfl;rfl
theorem good_250:Good Tryz.prog 250 (khs turnG):=ket (ent Tryz.func250 rfl (by kernel_rfl)) fun args v h=>by
 obtain⟨a,b,c,ha,hb,hc,rfl,rfl⟩:=turnG_ok h
 exact⟨flat3 a b c,rfl,fun w=>turn_250 a b c ha hb hc w⟩
theorem good_404:Good Tryz.prog 404 (khs turnG):=ket (ent Tryz.func404 rfl (by kernel_rfl)) fun args v h=>by
 obtain⟨a,b,c,ha,hb,hc,rfl,rfl⟩:=turnG_ok h
 exact⟨flat3 a b c,rfl,fun w=>kfa a b c ha hb hc w⟩
def crossK (s t:Int):Bool:=bif gl s 0 then gl 0 t else bif gl 0 s then gl t 0 else false
theorem crossK_eq (s t:Int):crossK s t=kea s t:=by
 have h1:=kjt (a:=s) (b:=0);have h2:=kjt (a:=0) (b:=s);have h3:=kjt (a:=0) (b:=t);have h4:=kjt (a:=t) (b:=0);rw[Bool.eq_iff_iff];simp only[crossK,kea,cond_eq_ite]
 split
 ·simp_all;try omega
 ·split<;>simp_all<;>omega
def crossG (args:List Value):Option Value:=match args with
 | [.int .i64 s,.int .i64 t]=>some (.bool (crossK s t))
 | _=>none
theorem good_357:Good Tryz.prog 357 (khs crossG):=ket (ent Tryz.func357 rfl (by kernel_rfl)) fun args v h=>by
 unfold crossG at h
 split at h
 case h_2=>cases h
 cases h
 refine⟨fun x hx=>?_,rfl,fun w=>(kim _ _ w).mono ?_⟩
 ·simp only[List.mem_cons,List.not_mem_nil,or_false]at hx;rcases hx with rfl|rfl<;>rfl
 ·rintro e w' ⟨rfl,rfl⟩;exact⟨by rw[crossK_eq],Ext.refl _⟩
def plK (p:Pt):Bool:=bif ile (-500000) p.1 then bif ile p.1 500000 then bif ile (-500000) p.2 then ile p.2 500000 else false else false else false
theorem plK_eq (p:Pt):plK p=plB p:=by
 have h1:=kgh (a:=-500000) (b:=p.1);have h2:=kgh (a:=p.1) (b:=500000);have h3:=kgh (a:=-500000) (b:=p.2);have h4:=kgh (a:=p.2) (b:=500000);rw[Bool.eq_iff_iff];simp only[plK,plB,YtcgghcicnanliaaGreatDoor.inB,cond_eq_ite,Bool.and_eq_true,decide_eq_true_eq]
 repeat' split
 all_goals (simp_all;try omega)
def plG (args:List Value):Option Value:=match args with
 | [a]=>match ptV a with
  | some p=>bif midK p then some (.bool (plK p)) else none
  | none=>none
 | _=>none
theorem good_247:Good Tryz.prog 247 (khs plG):=ket (ent Tryz.func247 rfl (by kernel_rfl)) fun args v h=>by
 unfold plG at h
 split at h
 case h_2=>cases h
 split at h
 case h_2=>cases h
 rename_i a p hp
 simp only[cond_eq_ite]at h
 split at h
 case isFalse=>cases h
 rename_i hm
 cases h;rw[knb hp,plK_eq];obtain⟨m1,m2,m3,m4⟩:=midK_ok hm
 exact⟨flat1 p,rfl,fun w=>(ker p ⟨by omega,by omega⟩ ⟨by omega,by omega⟩ w).mono fun e w' h=>⟨h.1,h.2.1⟩⟩
def cmpK1 (a b:Int):Int:=bif gl a b then -1 else bif gl b a then 1 else 0
theorem cmpK1_eq (a b:Int):cmpK1 a b=cmpI a b:=by
 have h1:=kjt (a:=a) (b:=b);have h2:=kjt (a:=b) (b:=a);simp only[cmpK1,cmpI,cond_eq_ite]
 repeat' split
 all_goals simp_all
def cmpK (p q:Pt):Int:=bif gl p.1 q.1 then -1 else bif gl q.1 p.1 then 1 else cmpK1 p.2 q.2
theorem cmpK_eq (p q:Pt):cmpK p q=cmpP p q:=by
 have h1:=kjt (a:=p.1) (b:=q.1);have h2:=kjt (a:=q.1) (b:=p.1);simp only[cmpK,cmpP,cmpK1_eq,orI,cmpI,cond_eq_ite]
 repeat' split
 all_goals simp_all
def cmpG (args:List Value):Option Value:=match args with
 | [a,b]=>match ptV a,ptV b with
  | some p,some q=>some (.int .i64 (cmpK p q))
  | _,_=>none
 | _=>none
theorem good_248:Good Tryz.prog 248 (khs cmpG):=ket (ent Tryz.func248 rfl (by kernel_rfl)) fun args v h=>by
 unfold cmpG at h
 split at h
 case h_2=>cases h
 split at h
 case h_2=>cases h
 rename_i a b p q hp hq
 cases h;rw[knb hp,knb hq,cmpK_eq]
 exact⟨flat2 p q,rfl,fun w=>(kes p q w).mono fun e w' h=>⟨h.1,h.2.1⟩⟩
def wideK (a b:Int):Bool:=bif ile (-1000000000000) a then bif ile a 1000000000000 then bif ile 1 b then ile b 1000000000000 else false else false else false
theorem wideK_ok {a b:Int}(h:wideK a b=true):Wide a b:=by
 simp only[wideK,cond_eq_ite]at h;simp only[kgh]at h
 repeat' split at h
 all_goals first|(cases h;done)|skip
 have:=kgh.1 h
 exact⟨by omega,by omega,by omega,by omega⟩
def divG (f:Int→Int→Int)(args:List Value):Option Value:=match args with
 | [.int .i64 s,.int .i64 t]=>bif wideK s t then some (.tuple #[.int .i64 (f s t),.int .i64 0]) else none
 | _=>none
theorem divG_ok {f:Int→Int→Int}{args:List Value}{v:Value}(h:divG f args=some v):∃a b,Wide a b∧args=[.int .i64 a,.int .i64 b]∧v=.tuple #[.int .i64 (f a b),.int .i64 0]:=by
 unfold divG at h
 split at h
 case h_2=>cases h
 rename_i a b
 simp only[cond_eq_ite]at h
 split at h
 case isFalse=>cases h
 rename_i hw
 cases h
 exact⟨a,b,wideK_ok hw,rfl,rfl⟩
theorem flatI2 (a b:Int):∀x∈[Value.int .i64 a,.int .i64 b],kee x=true:=by
 intro x hx;simp only[List.mem_cons,List.not_mem_nil,or_false]at hx;rcases hx with rfl|rfl<;>rfl
theorem good_261:Good Tryz.prog 261 (khs (divG (· / ·))):=ket (ent Tryz.func261 rfl (by kernel_rfl)) fun args v h=>by
 obtain⟨a,b,hw,rfl,rfl⟩:=divG_ok h
 exact⟨flatI2 a b,rfl,fun w=>floor_261 a b hw w⟩
theorem good_419:Good Tryz.prog 419 (khs (divG ceilI)):=ket (ent Tryz.func419 rfl (by kernel_rfl)) fun args v h=>by
 obtain⟨a,b,hw,rfl,rfl⟩:=divG_ok h
 exact⟨flatI2 a b,rfl,fun w=>ceil_419 a b hw w⟩
def kfv:List (FuncId × Word):=[(404,khs turnG),(250,khs turnG),(357,khs crossG),(247,khs plG),(248,khs cmpG),(261,khs (divG (· / ·))),(419,khs (divG ceilI))]
theorem kar:∀x∈kfv,Good Tryz.prog x.1 x.2:=by
 intro x hx;simp only[kfv,List.mem_cons,List.not_mem_nil,or_false]at hx
 rcases hx with rfl|rfl|rfl|rfl|rfl|rfl|rfl
 ·exact good_404
 ·exact good_250
 ·exact good_357
 ·exact good_247
 ·exact good_248
 ·exact good_261
 ·exact good_419
end
end Go.Ev
