/- Walks of small functions of chart, tide, span, cmp, hull; Walks: cmp.Or, the comparison of points and flows; Walks; DERIVED; Each laying; Composite literals: arrays of pairs, built and stored at once. Conditions: as each statement says. -/
import Derived.Test.YtcgghcicnanliaaGreatDoorProg
import Derived.Test.YtcgghcicnanliaaGreatDoorM06
import Derived.Shelf.SlGeneric
import Derived.Shelf.SlSortCmp.NoneTotal
import Derived.Ground.SlsfProg
import Derived.Ground.SlgnProg
import Derived.Shelf.SlicesE.Clone
import Derived.Great.FillDense
import Derived.Deep.Cut
import Derived.Shelf.SortG.Plain
import Derived.Shelf.SortG.SortNone
import Derived.Shelf.SlicesE.Compact
import Derived.Great.BuildSlice
import Derived.MapKept
import Derived.Carry
set_option linter.unusedVariables false
set_option linter.unusedSimpArgs false
namespace Go.Proofs.YtcgghcicnanliaaGreatDoor
open Go.RowKit
set_option maxHeartbeats 400000
theorem kgz (n:Int)(w:World) :
  Calls Tryz.prog 84 #[.int .i64 n] w fun e w'=>e=.returned (.bool (inB n 1 1000000))∧w=w':=by
 go_enter Tryz.func84,Tryz.ntmps84
 go_wp2
 all_goals (go_ret;exact⟨retb (by rw[Bool.eq_iff_iff];(try simp[inB])<;>omega),rfl⟩)
theorem isTime_95 (n:Int)(w:World) :
  Calls Tryz.prog 95 #[.int .i64 n] w fun e w'=>e=.returned (.bool (inB n 0 1000000000))∧w=w':=by
 go_enter Tryz.func95,Tryz.ntmps95
 go_wp2
 all_goals (go_ret;exact⟨retb (by rw[Bool.eq_iff_iff];(try simp[inB])<;>omega),rfl⟩)
def kdx (lo hi date:Int):Bool:=decide (-100000≤lo)&&decide (lo≤hi)&&decide (hi≤100000)&&inB date 0 1000000000
theorem isCell_88 (lo hi date:Int)(void:Bool)(w:World) :
  Calls Tryz.prog 88 #[.agg #[.int .i64 lo,.int .i64 hi,.int .i64 date,.bool void]] w fun e w'=>e=.returned (.bool (kdx lo hi date))∧Ext w w':=by
 go_enter Tryz.func88,Tryz.ntmps88
 go_wp2
 all_goals (go_ret;exact⟨retb (by rw[Bool.eq_iff_iff];(try simp[inB,kdx])<;>omega),xt⟩)
def kcv (lo hi:Int):Bool:=decide (lo≤hi)&&decide (-1000000000000≤lo)&&decide (hi≤1000000000000)
theorem kgd (lo hi:Int)(w:World) :
  Calls Tryz.prog 258 #[.agg #[.int .i64 lo,.int .i64 hi]] w fun e w'=>e=.returned (.bool (kcv lo hi))∧Ext w w':=by
 go_enter Tryz.func258,Tryz.ntmps258
 go_wp2
 all_goals (go_ret;exact⟨retb (by rw[Bool.eq_iff_iff];(try simp[kcv])<;>omega),xt⟩)
def within (lo hi most:Int):Bool:=kcv lo hi&&decide (-most≤lo)&&decide (hi≤most)
theorem kor (lo hi most:Int)(hm:0≤most)(hm':most≤1000000)(w:World) :
  Calls Tryz.prog 163 #[.agg #[.int .i64 lo,.int .i64 hi],.int .i64 most] w fun e w'=>e=.returned (.bool (within lo hi most))∧Ext w w':=by
 go_enter Tryz.func163,Tryz.ntmps163
 go_wp2_with (go_at_call 258;refine(kgd _ _ _).mono ?_;rintro e w' ⟨rfl,hb⟩;obtain⟨hc,hf,hz⟩:=hb.rules;(try simp only[qsa]at hz);have hz0:w.heap.size<w'.heap.size:=by omega;(try have hz1:w.heap.size+1<w'.heap.size:=by omega);(try have hz2:w.heap.size+1+1<w'.heap.size:=by omega);(try have hz3:w.heap.size+1+1+1<w'.heap.size:=by omega))
 all_goals (go_ret;exact⟨retb (by simp_all [within]<;>omega),xt⟩)
structure FlowT where
 x:Int
 y:Int
 slot:Int
 ulo:Int
 uhi:Int
 vlo:Int
 vhi:Int
 hlo:Int
 hhi:Int
deriving DecidableEq,Inhabited
def FlowT.vals (f:FlowT):List Value:=[.int .i64 f.x,.int .i64 f.y,.int .i64 f.slot,.int .i64 f.ulo,.int .i64 f.uhi,.int .i64 f.vlo,.int .i64 f.vhi,.int .i64 f.hlo,.int .i64 f.hhi]
def FlowT.ok (f:FlowT):Bool:=within f.ulo f.uhi 5000&&within f.vlo f.vhi 5000&&within f.hlo f.hhi 2000
theorem knl (f:FlowT)(w:World) :
  Calls Tryz.prog 96 #[.agg f.vals.toArray] w fun e w'=>e=.returned (.bool f.ok)∧Ext w w':=by
 obtain⟨x,y,s,a,b,c,d,g,h⟩:=f;simp only[FlowT.vals,FlowT.ok]
 go_enter Tryz.func96,Tryz.ntmps96
 go_wp2_with (go_at_call 163;refine(kor _ _ _ (by omega) (by omega) _).mono ?_;rintro e w' ⟨rfl,hb⟩;obtain⟨hc,hf,hz⟩:=hb.rules;(try simp only[qsa]at hz);have hz0:w.heap.size<w'.heap.size:=by omega;(try have hz1:w.heap.size+1<w'.heap.size:=by omega);(try have hz2:w.heap.size+1+1<w'.heap.size:=by omega);(try have hz3:w.heap.size+1+1+1<w'.heap.size:=by omega))
 all_goals (go_ret;exact⟨retb (by simp_all),xt⟩)
def cmpI (a b:Int):Int:=if a<b then -1 else if b<a then 1 else 0
theorem isNaN_259 (a:Int)(w:World) :
  Calls Tryz.prog 259 #[.int .i64 a] w fun e w'=>e=.returned (.bool false)∧w=w':=by
 go_enter Tryz.func259,Tryz.ntmps259
 go_wp2
 all_goals (go_ret;exact⟨retb (by simp),rfl⟩)
theorem kco (a b:Int)(w:World) :
  Calls Tryz.prog 165 #[.int .i64 a,.int .i64 b] w fun e w'=>e=.returned (.int .i64 (cmpI a b))∧w=w':=by
 go_enter Tryz.func165,Tryz.ntmps165
 go_wp2_with (go_at_call 259;refine(isNaN_259 _ _).mono ?_;rintro e w' ⟨rfl,rfl⟩)
 all_goals (go_ret;exact⟨reti (by unfold cmpI;(repeat' split)<;>omega),rfl⟩)
set_option maxRecDepth 100000
def encI (x:Int):List Value:=[.int .i64 x]
def orI:List Int→Int
 | []=>0
 | x::l=>if x=0 then orI l else x
theorem orI_drop (l:List Int)(k:Nat)(h:∀j,j<k→l[j]?.getD 0=0):orI l=orI (l.drop k):=by
 induction k generalizing l with
 | zero=>simp
 | succ k ih=>
  cases l with
  | nil=>simp
  | cons x l=>
   have h0:=h 0 (by omega)
   simp at h0
   simp only[orI,h0,if_true,List.drop_succ_cons]
   exact ih l (fun j hj=>by have:=h (j+1) (by omega);simpa using this)
theorem orI_at (l:List Int)(k:Nat)(h:∀j,j<k→l[j]?.getD 0=0)(hk:k<l.length)(hx:l[k]≠0):orI l=l[k]:=by
 rw[orI_drop l k h,List.drop_eq_getElem_cons hk];simp[orI,hx]
theorem orI_end (l:List Int)(k:Nat)(h:∀j,j<k→l[j]?.getD 0=0)(hk:l.length≤k):orI l=0:=by
 rw[orI_drop l k h,List.drop_of_length_le hk];rfl
theorem cmpOr_164 (A:Option Addr)(c:Nat)(l:List Int)(w:World)(hl:l.length≤1000000)(h:Sl encI 1 w A l) :
  Calls Tryz.prog 164 #[.slice A l.length c] w fun e w'=>e=.returned (.int .i64 (orI l))∧w=w':=by
 go_enter Tryz.func164,Tryz.ntmps164
 go_wp2
 go_loop [5,8] (fun _ i=>∃k:Nat,k≤l.length∧i=.int .i64 k∧Hid (∀j,j<k→l[j]?.getD 0=0)) (fun _ i=>l.length-(intOf i).toNat)
 case atStart=>exact⟨0,Nat.zero_le _,rfl,fun j hj=>absurd hj (Nat.not_lt_zero _)⟩
 case round=>
  obtain⟨k,hk,rfl,H⟩:=hrel
  by_cases hlt:k<l.length
  ·obtain⟨b,off,rfl⟩:=h.addr (by omega)
   have hc:w.cell? ⟨b,off+k,none⟩=some (.int .i64 l[k]):=by have:=h.at_ (j:=k) (i:=0) (x:=l[k]) (by simp) rfl;simpa using this
   by_cases hx:l[k]=0
   ·have hx':(l[k] != 0)=false:=by simp[hx]
    have H2:Hid (l[k]?.getD 0=0):=by show _=_;simp[hlt,hx]
    clear hx;generalize l[k]=x at hc hx'
    go_wp2
    go_round
    case rel=>exact⟨k+1,by omega,by go_num,fun j hj=>by by_cases e:j=k;(subst e;exact H2);exact H j (by omega)⟩
    case measure=>simp[intOf];omega
   ·have hx':(l[k] != 0)=true:=by simp[hx]
    go_wp2
    go_ret
    exact⟨reti (orI_at l k H hlt hx).symm,rfl⟩
  ·go_wp2
   go_ret
   exact⟨reti (orI_end l k H (by omega)).symm,rfl⟩
abbrev Pt:=Int × Int
def encP (p:Pt):List Value:=[.int .i64 p.1,.int .i64 p.2]
def cmpP (p q:Pt):Int:=orI [cmpI p.1 q.1,cmpI p.2 q.2]
theorem kes (p q:Pt)(w:World) :
  Calls Tryz.prog 248 #[.agg #[.int .i64 p.1,.int .i64 p.2],.agg #[.int .i64 q.1,.int .i64 q.2]] w fun e w'=>e=.returned (.int .i64 (cmpP p q))∧Ext w w'∧w.drawn≤w'.drawn:=by
 have hcon:∀A c W,Sl encI 1 W A [cmpI p.1 q.1,cmpI p.2 q.2]→Calls Tryz.prog 164 #[.slice A (2:Nat) c] W fun e w'=>e=.returned (.int .i64 (cmpP p q))∧W=w':=fun A c W h=>cmpOr_164 A c _ W (by simp) h
 generalize cmpP p q=r at hcon ⊢;have Hc:=Lib.hid hcon;clear hcon
 go_enter Tryz.func248,Tryz.ntmps248
 go_wp2
 refine kfl 10 (by kernel_rfl) (by kernel_rfl) (fun w' hb hdr=>?_)
 obtain⟨hc,hf,hz⟩:=hb.rules;(try simp only[qsa]at hz);have hz0:w.heap.size<w'.heap.size:=by omega;(try have hz1:w.heap.size+1<w'.heap.size:=by omega);(try have hz2:w.heap.size+1+1<w'.heap.size:=by omega);(try have hz3:w.heap.size+1+1+1<w'.heap.size:=by omega)
 simp only[List.take_succ_cons,List.take_zero,List.drop_succ_cons,List.drop_zero]
 iterate 4 still_step
 still_call (sameR (kco _ _ _))
 iterate 4 still_step
 still_call (sameR (kco _ _ _))
 refine wpStill_nil ?_
 go_wp2_with (go_at_call 164;refine(Hc.out _ _ _ (Sl.new (enc:=encI) (fun _=>rfl) _ [_,_] _)).mono ?_;rintro e w2 ⟨rfl,rfl⟩)
 go_ret
 exact⟨rfl,xt,hdr⟩
def cmpF (f g:FlowT):Int:=orI [cmpI f.slot g.slot,cmpI f.y g.y,cmpI f.x g.x]
theorem kfp (f g:FlowT)(w:World) :
  Calls Tryz.prog 97 #[.agg f.vals.toArray,.agg g.vals.toArray] w fun e w'=>e=.returned (.int .i64 (cmpF f g))∧Ext w w':=by
 obtain⟨f1,f2,f3,f4,f5,f6,f7,f8,f9⟩:=f;obtain⟨g1,g2,g3,g4,g5,g6,g7,g8,g9⟩:=g;simp only[FlowT.vals,cmpF]
 have hcon:∀A c W,Sl encI 1 W A [cmpI f3 g3,cmpI f2 g2,cmpI f1 g1]→Calls Tryz.prog 164 #[.slice A (3:Nat) c] W fun e w'=>e=.returned (.int .i64 (orI [cmpI f3 g3,cmpI f2 g2,cmpI f1 g1]))∧W=w':=fun A c W h=>cmpOr_164 A c _ W (by simp) h
 generalize orI [cmpI f3 g3,cmpI f2 g2,cmpI f1 g1]=r at hcon ⊢;have Hc:=Lib.hid hcon;clear hcon
 go_enter Tryz.func97,Tryz.ntmps97
 go_wp2
 refine kfl 15 (by kernel_rfl) (by kernel_rfl) (fun w' hb hdr=>?_)
 obtain⟨hc,hf,hz⟩:=hb.rules;(try simp only[qsa]at hz);have hz0:w.heap.size<w'.heap.size:=by omega;(try have hz1:w.heap.size+1<w'.heap.size:=by omega);(try have hz2:w.heap.size+1+1<w'.heap.size:=by omega);(try have hz3:w.heap.size+1+1+1<w'.heap.size:=by omega)
 simp only[List.take_succ_cons,List.take_zero,List.drop_succ_cons,List.drop_zero]
 iterate 4 still_step
 still_call (sameR (kco _ _ _))
 iterate 4 still_step
 still_call (sameR (kco _ _ _))
 iterate 4 still_step
 still_call (sameR (kco _ _ _))
 refine wpStill_nil ?_
 go_wp2_with (go_at_call 164;refine(Hc.out _ _ _ (Sl.new (enc:=encI) (fun _=>rfl) _ [_,_,_] _)).mono ?_;rintro e w2 ⟨rfl,rfl⟩)
 go_ret
 exact⟨rfl,xt⟩
def I64 (x:Int):Prop:=-9223372036854775808≤x∧x≤9223372036854775807
def max4 (a b c d:Int):Int:=max (max (max a b) c) d
theorem ifgt (a b:Int):(if b > a then b else a)=max a b:=by split<;>omega
@[go_sem] theorem run_max4 {P:Program}{w:World}(ts:Array TypeId)(t:TypeId)(k k1 k2 k3:IntKind)(x y z u:Int) :
  (Builtin.max_ ts t #[.int k x,.int k1 y,.int k2 z,.int k3 u]).run P w=.ok (.int k (max4 x y z u)) w:=by
 simp[Builtin.max_,Builtin.max2,max4,ifgt]
def plB (p:Pt):Bool:=inB p.1 (-500000) 500000&&inB p.2 (-500000) 500000
theorem plB_iff {p:Pt}(h1:I64 p.1)(h2:I64 p.2):plB p=true↔max4 p.1 (wrap64 (-p.1)) p.2 (wrap64 (-p.2))≤500000∧-500000≤p.1∧-500000≤p.2:=by
 obtain⟨a,b⟩:=p
 simp only at h1 h2 ⊢
 obtain⟨h1,h1'⟩:=h1;obtain⟨h2,h2'⟩:=h2
 have ha:(a=-9223372036854775808∧wrap64 (-a)=a)∨(¬ a=-9223372036854775808∧wrap64 (-a)=-a):=by unfold wrap64;omega
 have hb:(b=-9223372036854775808∧wrap64 (-b)=b)∨(¬ b=-9223372036854775808∧wrap64 (-b)=-b):=by unfold wrap64;omega
 generalize wrap64 (-a)=u at *;generalize wrap64 (-b)=v at *;simp only[plB,inB,max4,qba,decide_eq_true_eq]
 omega
theorem ker (p:Pt)(h1:I64 p.1)(h2:I64 p.2)(w:World) :
  Calls Tryz.prog 247 #[.agg #[.int .i64 p.1,.int .i64 p.2]] w fun e w'=>e=.returned (.bool (plB p))∧Ext w w'∧w.drawn≤w'.drawn:=by
 have hp:=Lib.hid (plB_iff h1 h2)
 go_enter Tryz.func247,Tryz.ntmps247
 go_wp2
 all_goals (go_ret;exact⟨retb (by rw[Bool.eq_iff_iff,hp.out];(try simp)<;>omega),xt,Nat.le_refl _⟩)
theorem hullHull1_255 (p:Pt)(h1:I64 p.1)(h2:I64 p.2)(w:World) :
  Calls Tryz.prog 255 #[.agg #[.int .i64 p.1,.int .i64 p.2]] w fun e w'=>e=.returned (.bool (!plB p))∧Ext w w':=by
 go_enter Tryz.func255,Tryz.ntmps255
 go_wp2_with (go_at_call 247;refine(ker _ h1 h2 _).mono ?_;rintro e w' ⟨rfl,hb,_⟩)
 all_goals (go_ret;exact⟨rfl,xt⟩)
theorem around1_334 (p q:Pt)(w:World) :
  Calls Tryz.prog 334 #[.agg #[.int .i64 p.1,.int .i64 p.2],.agg #[.int .i64 q.1,.int .i64 q.2]] w fun e w'=>e=.returned (.int .i64 (cmpP p q))∧∃q os',w'=Sort.grow (w.drewN q) os':=by
 go_enter Tryz.func334,Tryz.ntmps334
 go_wp2_with (go_at_call 248;refine(kes _ _ _).mono ?_;rintro e w' ⟨rfl,hb,hd⟩)
 go_ret
 exact⟨rfl,Ext.grow xt (Nat.le_trans (by simp) hd)⟩
def Mid (p:Pt):Prop:=-1000000≤p.1∧p.1≤1000000∧-1000000≤p.2∧p.2≤1000000
def kcf (a b c:Pt):Int:=(b.1-a.1)*(c.2-a.2)-(b.2-a.2)*(c.1-a.1)
theorem kdg {x y:Int}{m n:Int}(hx:-m≤x)(hx':x≤m)(hy:-n≤y)(hy':y≤n):-(m*n)≤x*y∧x*y≤m*n:=by
 have hm:0≤m:=by omega
 have hn:0≤n:=by omega
 have h1:(m-x)*(n-y) ≥ 0:=Int.mul_nonneg (by omega) (by omega)
 have h2:(m+x)*(n+y) ≥ 0:=Int.mul_nonneg (by omega) (by omega)
 have h3:(m-x)*(n+y) ≥ 0:=Int.mul_nonneg (by omega) (by omega)
 have h4:(m+x)*(n-y) ≥ 0:=Int.mul_nonneg (by omega) (by omega)
 simp only[Int.sub_mul,Int.add_mul,Int.mul_sub,Int.mul_add]at h1 h2 h3 h4
 omega
theorem turn_250 (a b c:Pt)(ha:Mid a)(hb:Mid b)(hc:Mid c)(w:World) :
  Calls Tryz.prog 250 #[.agg #[.int .i64 a.1,.int .i64 a.2],.agg #[.int .i64 b.1,.int .i64 b.2],.agg #[.int .i64 c.1,.int .i64 c.2]] w fun e w'=>e=.returned (.int .i64 (kcf a b c))∧Ext w w':=by
 obtain⟨a1,a2⟩:=a;obtain⟨b1,b2⟩:=b;obtain⟨c1,c2⟩:=c;simp only[Mid,kcf]at *
 have h1:=kdg (x:=b1-a1) (y:=c2-a2) (m:=2000000) (n:=2000000) (by omega) (by omega) (by omega) (by omega)
 have h2:=kdg (x:=b2-a2) (y:=c1-a1) (m:=2000000) (n:=2000000) (by omega) (by omega) (by omega) (by omega)
 simp only[Int.reduceMul,Int.reduceNeg]at h1 h2
 go_enter Tryz.func250,Tryz.ntmps250
 go_wp2
 go_ret
 exact⟨rfl,xt⟩
end Go.Proofs.YtcgghcicnanliaaGreatDoor
namespace Go.Proofs
open Go.Shelf
def Tryz.cloneInt_ren:Go.Shelf.Ren:=⟨fun|41=>54|n=>n,fun|22=>41|23=>3|4=>4|n=>n,fun|n=>n⟩
theorem Tryz.cloneInt:Go.Proofs.SlLaysE0.n41 Tryz.prog Tryz.cloneInt_ren:={
 mixed:=by kernel_rfl
 f41:=⟨Tryz.f54.name,by decide,Tryz.func54.trans (congrArg some (by kernel_rfl))⟩
 t4:=Tryz.underlying4
 a4:=Tryz.isAgg4
 z4:=Tryz.sizeOf4
 v4:=Tryz.zeroValue4
 t22:=Tryz.underlying41
 a22:=Tryz.isAgg41
 z22:=Tryz.sizeOf41
 v22:=Tryz.zeroValue41 }
def Tryz.clonePt_ren:Go.Shelf.Ren:=⟨fun|41=>156|n=>n,fun|22=>76|23=>43|4=>4|n=>n,fun|n=>n⟩
theorem Tryz.clonePt:Go.Proofs.SlLaysE0.n41 Tryz.prog Tryz.clonePt_ren:={
 mixed:=by kernel_rfl
 f41:=⟨Tryz.f156.name,by decide,Tryz.func156.trans (congrArg some (by kernel_rfl))⟩
 t4:=Tryz.underlying4
 a4:=Tryz.isAgg4
 z4:=Tryz.sizeOf4
 v4:=Tryz.zeroValue4
 t22:=Tryz.underlying76
 a22:=Tryz.isAgg76
 z22:=Tryz.sizeOf76
 v22:=Tryz.zeroValue76 }
def Tryz.sortPt_ren:Go.Shelf.Ren:=⟨fun|6=>333|15=>232|14=>386|28=>319|29=>320|20=>410|21=>411|22=>412|23=>413|24=>414|25=>415|26=>416|27=>417|46=>429|47=>378|48=>379|49=>430|50=>431|57=>447|n=>n,fun|22=>76|24=>43|25=>225|3=>3|39=>273|0=>0|53=>337|55=>227|4=>4|46=>331|45=>330|50=>290|5=>5|9=>9|66=>371|70=>375|76=>392|77=>199|n=>n,fun|n=>n⟩
theorem Tryz.sortPt:Go.Proofs.SlLaysF0.n6 Tryz.prog Tryz.sortPt_ren:={
 mixed:=by kernel_rfl
 f6:=⟨Tryz.f333.name,by decide,Tryz.func333.trans (congrArg some (by kernel_rfl))⟩
 f14:=⟨Tryz.f386.name,by decide,Tryz.func386.trans (congrArg some (by kernel_rfl))⟩
 f15:=Tryz.func232.trans (congrArg some (by kernel_rfl))
 f20:=⟨Tryz.f410.name,by decide,Tryz.func410.trans (congrArg some (by kernel_rfl))⟩
 f21:=⟨Tryz.f411.name,by decide,Tryz.func411.trans (congrArg some (by kernel_rfl))⟩
 f22:=⟨Tryz.f412.name,by decide,Tryz.func412.trans (congrArg some (by kernel_rfl))⟩
 f23:=⟨Tryz.f413.name,by decide,Tryz.func413.trans (congrArg some (by kernel_rfl))⟩
 f24:=⟨Tryz.f414.name,by decide,Tryz.func414.trans (congrArg some (by kernel_rfl))⟩
 f25:=⟨Tryz.f415.name,by decide,Tryz.func415.trans (congrArg some (by kernel_rfl))⟩
 f26:=⟨Tryz.f416.name,by decide,Tryz.func416.trans (congrArg some (by kernel_rfl))⟩
 f27:=⟨Tryz.f417.name,by decide,Tryz.func417.trans (congrArg some (by kernel_rfl))⟩
 f28:=Tryz.func319.trans (congrArg some (by kernel_rfl))
 f29:=Tryz.func320.trans (congrArg some (by kernel_rfl))
 f46:=⟨Tryz.f429.name,by decide,Tryz.func429.trans (congrArg some (by kernel_rfl))⟩
 f47:=Tryz.func378.trans (congrArg some (by kernel_rfl))
 f48:=Tryz.func379.trans (congrArg some (by kernel_rfl))
 f49:=⟨Tryz.f430.name,by decide,Tryz.func430.trans (congrArg some (by kernel_rfl))⟩
 f50:=⟨Tryz.f431.name,by decide,Tryz.func431.trans (congrArg some (by kernel_rfl))⟩
 f57:=⟨Tryz.f447.name,by decide,Tryz.func447.trans (congrArg some (by kernel_rfl))⟩
 t0:=Tryz.underlying0
 a0:=Tryz.isAgg0
 z0:=Tryz.sizeOf0
 v0:=Tryz.zeroValue0
 t3:=Tryz.underlying3
 a3:=Tryz.isAgg3
 z3:=Tryz.sizeOf3
 v3:=Tryz.zeroValue3
 t4:=Tryz.underlying4
 a4:=Tryz.isAgg4
 z4:=Tryz.sizeOf4
 v4:=Tryz.zeroValue4
 t5:=Tryz.underlying5
 a5:=Tryz.isAgg5
 z5:=Tryz.sizeOf5
 v5:=Tryz.zeroValue5
 t9:=Tryz.underlying9
 a9:=Tryz.isAgg9
 z9:=Tryz.sizeOf9
 v9:=Tryz.zeroValue9
 t22:=Tryz.underlying76
 a22:=Tryz.isAgg76
 z22:=Tryz.sizeOf76
 v22:=Tryz.zeroValue76
 t25:=Tryz.underlying225
 a25:=Tryz.isAgg225
 z25:=Tryz.sizeOf225
 v25:=Tryz.zeroValue225
 t39:=Tryz.underlying273
 a39:=Tryz.isAgg273
 z39:=Tryz.sizeOf273
 v39:=Tryz.zeroValue273
 t45:=Tryz.underlying330
 a45:=Tryz.isAgg330
 z45:=Tryz.sizeOf330
 v45:=Tryz.zeroValue330
 t46:=Tryz.underlying331
 a46:=Tryz.isAgg331
 z46:=Tryz.sizeOf331
 v46:=Tryz.zeroValue331
 t50:=Tryz.underlying290
 a50:=Tryz.isAgg290
 z50:=Tryz.sizeOf290
 v50:=Tryz.zeroValue290
 t53:=Tryz.underlying337
 a53:=Tryz.isAgg337
 z53:=Tryz.sizeOf337
 v53:=Tryz.zeroValue337
 t55:=Tryz.underlying227
 a55:=Tryz.isAgg227
 z55:=Tryz.sizeOf227
 v55:=Tryz.zeroValue227
 t66:=Tryz.underlying371
 a66:=Tryz.isAgg371
 z66:=Tryz.sizeOf371
 v66:=Tryz.zeroValue371
 t70:=Tryz.underlying375
 a70:=Tryz.isAgg375
 z70:=Tryz.sizeOf375
 v70:=Tryz.zeroValue375
 t76:=Tryz.underlying392
 a76:=Tryz.isAgg392
 z76:=Tryz.sizeOf392
 v76:=Tryz.zeroValue392
 t77:=Tryz.underlying199
 a77:=Tryz.isAgg199
 z77:=Tryz.sizeOf199
 v77:=Tryz.zeroValue199 }
end Go.Proofs
namespace Go.Proofs.YtcgghcicnanliaaGreatDoor
open Go.RowKit
set_option maxRecDepth 100000
theorem kbs (w:World)(o:Obj):(w.alloc o).heap[w.heap.size]?=some o:=Array.getElem?_push_size
theorem wp_buildTo {P:Program}{o:Oper}{a:Act}{w:World}{K:Act→World→Prop}{Q:Exit→Act→World→Prop}(t:TypeId)(parts:Array (Nat × Operand))(ho:o.op=.build t parts)(cells:Array Value)
  (hf:P.built t (parts.map fun (i,x)=>(i,a.eval x)).toList=some cells) (h:K (a.put o.dst (.agg cells)) w):o.wp P a w K Q:=by
 refine wp_build t parts ho (by rw[hf];rfl) ?_
 rw[hf];exact h
theorem wp_buildBy {P:Program}{o:Oper}{a:Act}{w:World}{K:Act→World→Prop}{Q:Exit→Act→World→Prop}(t:TypeId)(parts:Array (Nat × Operand))(ho:o.op=.build t parts)(cells:Array Value)(ps:List (Nat × Value))
  (hf:P.built t ps=some cells) (hp:(parts.map fun (i,x)=>(i,a.eval x)).toList=ps) (h:K (a.put o.dst (.agg cells)) w):o.wp P a w K Q:=
 wp_buildTo t parts ho cells (by rw[hp];exact hf) h
theorem setRow_alloc (w:World)(old cs:Array Value)(t:TypeId):(w.alloc (.cells old t)).setRow w.heap.size cs=w.alloc (.cells cs t):=by
 unfold World.setRow World.alloc
 congr 1
 apply Array.ext
 ·simp
 ·intro i h1 h2
  simp only[Array.getElem_modify]
  split
  ·rename_i e;subst e;simp
  ·rename_i e
   have:i<w.heap.size:=by simp at h1;omega
   simp[Array.getElem_push,this]
theorem kok {P:Program}{o:Oper}{a:Act}{w:World}{K:Act→World→Prop}{Q:Exit→Act→World→Prop}(ty:TypeId)(x y:Operand)(ho:o.op=.store ty x y)
  (w0:World) (cells old:Array Value) (t:TypeId) (hw:w=w0.alloc (.cells old t)) (hx:a.eval x=.pointer (some ⟨w0.heap.size,0,none⟩)) (hy:a.eval y=.agg cells)
  (hi:(P.info? ty).map (·.size)=some cells.size) (hold:old.size=cells.size) (h1:cells.all (·.oneCell')=true)
  (h:K (a.put o.dst undef) (w0.alloc (.cells cells t))):o.wp P a w K Q:=by
 subst hw
 refine wp_store_row ty x y ho w0.heap.size cells hx hy t old (kbs w0 _) hi hold h1 ?_
 rw[setRow_alloc];exact h
theorem kfn {P:Program}{ops:Array Oper}{rest:List Oper}{o:Oper}{a:Act}{w:World}{Q:Exit→Act→World→Prop}(hg:o.guard=none)(t:TypeId)(parts:Array (Nat × Operand))(ho:o.op=.build t parts)(cells:Array Value)(ps:List (Nat × Value))
  (hf:P.built t ps=some cells) (hp:(parts.map fun (i,x)=>(i,a.eval x)).toList=ps) (h:wpList P ops Q rest (a.put o.dst (.agg cells)) w):wpList P ops Q (o::rest) a w:=
 wpList_plain hg fun _ hK=>wp_buildBy t parts ho cells ps hf hp (hK _ _ h)
theorem kiq {P:Program}{ops:Array Oper}{rest:List Oper}{o:Oper}{a:Act}{w:World}{Q:Exit→Act→World→Prop}(hg:o.guard=none)(ty:TypeId)(x y:Operand)(ho:o.op=.store ty x y)
  (w0:World) (cells old:Array Value) (t:TypeId) (hw:w=w0.alloc (.cells old t)) (g:Nat) (hx:a.eval x=.pointer (some ⟨g,0,none⟩)) (hgg:w0.heap.size=g) (hy:a.eval y=.agg cells)
  (hi:(P.info? ty).map (·.size)=some cells.size) (hold:old.size=cells.size) (h1:cells.all (·.oneCell')=true)
  (h:wpList P ops Q rest (a.put o.dst undef) (w0.alloc (.cells cells t))):wpList P ops Q (o::rest) a w:=by
 subst hgg
 exact wpList_plain hg fun _ hK=>kok ty x y ho w0 cells old t hw hx hy hi hold h1 (hK _ _ h)
theorem Ext.setRow {a b:World}(h:Ext a b){g:Nat}(hg:a.heap.size≤g)(cs:Array Value):Ext a (b.setRow g cs):=
 ⟨h.os,h.tape,h.output,by rw[setRow_size];exact h.size,fun k hk=>by rw[setRow_other _ _ _ _ (by omega)];exact h.block k hk⟩
theorem built_121 (parts:List (Nat × Value)):Tryz.prog.built 121 parts=Instr.fill (fun i=>some (i*1,1)) (Array.replicate 9 (.int .i64 0)) parts:=by kernel_rfl
theorem Ext.seen {a b:World}(h:Ext a b){k o:Nat}{v:Value}(hk:k<a.heap.size)(hc:a.cell? ⟨k,o,none⟩=some v):b.cell? ⟨k,o,none⟩=some v:=(h.rules.1 k o hk).trans hc
theorem Ext.blk {a b:World}(h:Ext a b){k:Nat}{o:Obj}(hc:a.heap[k]?=some o):b.heap[k]?=some o:=by
 obtain⟨hk,_⟩:=qaz hc
 exact(h.block k hk).trans hc
set_option maxHeartbeats 4000000
attribute [local go_sem] Oper.semAt_some
theorem kfa (a b c:Pt)(ha:Mid a)(hb:Mid b)(hc:Mid c)(w:World) :
  Calls Tryz.prog 404 #[.agg #[.int .i64 a.1,.int .i64 a.2],.agg #[.int .i64 b.1,.int .i64 b.2],.agg #[.int .i64 c.1,.int .i64 c.2]] w fun e w'=>e=.returned (.int .i64 (kcf a b c))∧Ext w w':=by
 obtain⟨a1,a2⟩:=a;obtain⟨b1,b2⟩:=b;obtain⟨c1,c2⟩:=c;simp only[Mid,kcf]at *
 have h1:=kdg (x:=b1-a1) (y:=c2-a2) (m:=2000000) (n:=2000000) (by omega) (by omega) (by omega) (by omega)
 have h2:=kdg (x:=b2-a2) (y:=c1-a1) (m:=2000000) (n:=2000000) (by omega) (by omega) (by omega) (by omega)
 simp only[Int.reduceMul,Int.reduceNeg]at h1 h2
 go_enter Tryz.func404,Tryz.ntmps404
 go_wp2
 go_ret
 exact⟨rfl,xt⟩
def kea (s t:Int):Bool:=(decide (s<0)&&decide (0<t))||(decide (0<s)&&decide (t<0))
theorem kim (s t:Int)(w:World):Calls Tryz.prog 357 #[.int .i64 s,.int .i64 t] w fun e w'=>e=.returned (.bool (kea s t))∧w=w':=by
 have D:(s<0∧0<t)∨(s<0∧¬ 0<t)∨(¬ s<0∧0<s∧t<0)∨(¬ s<0∧0<s∧¬ t<0)∨(¬ s<0∧¬ 0<s):=by omega
 rcases D with ⟨h1,h2⟩|⟨h1,h2⟩|⟨h1,h2,h3⟩|⟨h1,h2,h3⟩|⟨h1,h2⟩
 all_goals
  first|(have e0:decide (s<0)=true:=decide_eq_true (by omega))|(have e0:decide (s<0)=false:=decide_eq_false (by omega))|skip
  first|(have e1:decide (0<s)=true:=decide_eq_true (by omega))|(have e1:decide (0<s)=false:=decide_eq_false (by omega))|skip
  first|(have e2:decide (0<t)=true:=decide_eq_true (by omega))|(have e2:decide (0<t)=false:=decide_eq_false (by omega))|skip
  first|(have e3:decide (t<0)=true:=decide_eq_true (by omega))|(have e3:decide (t<0)=false:=decide_eq_false (by omega))|skip
  go_enter Tryz.func357,Tryz.ntmps357
  go_wp2
  all_goals (go_ret;exact⟨retb (by rw[Bool.eq_iff_iff];simp[kea];omega),rfl⟩)
end Go.Proofs.YtcgghcicnanliaaGreatDoor
namespace Go
open Go.RowKit Go.Proofs.YtcgghcicnanliaaGreatDoor
def isSk (o:Oper):Bool:=match o.op with
 | .alloc _=>true
 | .store _ _ _=>true
 | _=>false
section
variable {P:Program} {ops:Array Oper} {md:Region.Mode} {w:World} {sk:Oper→Bool}
def wpT (P:Program)(md:Region.Mode)(ops:Array Oper)(w:World)(sk:Oper→Bool)(n:Nat)(L:Array Bool→Act→Prop):Nat→Array Bool→Act→Prop
 | 0,listed,a=>L listed a
 | f+1,listed,a=>Region.ready md ops listed≠[]∧∀i∈Region.ready md ops listed,i<n∧∀o,ops[i]?=some o →
  (sk o=true→wpT P md ops w sk n L f (listed.setIfInBounds i true) a)∧(sk o=false→∃v,YR P ops w o v a∧wpT P md ops w sk n L f (listed.setIfInBounds i true) (a.put o.dst v))
theorem wpT_first {n i:Nat}{oi:Oper}{v:Value}{L:Array Bool→Act→Prop}(hi:ops[i]?=some oi)(hal:sk oi=false)(hsel:∀(j:Nat) (o:Oper) cs b,ops[j]?=some o→o.op≠.select cs b)
  (hs:Region.sinkB md ops n=true) (hc:Region.chainB md ops n=true) (hn:n<ops.size) (hin:i<n)
  (hdone:∀listed a,L listed a→∀j∈Region.ready md ops listed,n≤j) :
  ∀(f:Nat) (listed:Array Bool) (a:Act),HeadInv md ops n listed →
   (∀j oj,ops[j]?=some oj→j≠i→listed.getD j true=false→(∀e∈oj.after,Region.binds md e=true→e.on≠i)→oi.apart ops oj=true) →
   i∈Region.ready md ops listed→YR P ops w oi v a →
   wpT P md ops w sk n L f (listed.setIfInBounds i true) (a.put oi.dst v)→wpT P md ops w sk n L (f+1) listed a:=by
 intro f
 induction f with
 | zero=>
  intro listed a inv _ hr hy H;have hun:=(mem_ready.1 hr).1
  refine⟨fun h=>(by rw[h]at hr;cases hr),fun j hj=>?_⟩
  have hjn:j<n:=by
   rcases Nat.lt_or_ge j n with h|h
   ·exact h
   ·exact absurd hj (tail_waits hs hc hn inv _ i rfl hin hun j h)
  refine⟨hjn,fun o ho=>?_⟩
  by_cases hji:j=i
  ·subst hji
   rw[hi]at ho;cases ho
   exact⟨fun h=>(by rw[hal]at h;cases h),fun _=>⟨v,hy,H⟩⟩
  ·have:=hdone _ _ H j (ready_mono hj hji)
   omega
 | succ f ih=>
  intro listed a inv hfree hr hy H;have hun:=(mem_ready.1 hr).1
  refine⟨fun h=>(by rw[h]at hr;cases hr),fun j hj=>?_⟩
  have hjn:j<n:=by
   rcases Nat.lt_or_ge j n with h|h
   ·exact h
   ·exact absurd hj (tail_waits hs hc hn inv _ i rfl hin hun j h)
  refine⟨hjn,fun oj hoj=>?_⟩
  by_cases hji:j=i
  ·subst hji
   rw[hi]at hoj;cases hoj
   exact⟨fun h=>(by rw[hal]at h;cases h),fun _=>⟨v,hy,H⟩⟩
  ·obtain⟨h1,h2⟩:=(H.2 j (ready_mono hj hji)).2 oj hoj
   obtain⟨hjun,oj',hoj',hall⟩:=mem_ready.1 hj;rw[hoj]at hoj'
   cases hoj'
   have hnot:∀e∈oj.after,Region.binds md e=true→e.on≠i:=fun e he hb heq=>by
    have h1:=hall e he hb;rw[heq,getD_both hun]at h1;cases h1
   have hap:=hfree j oj hoj hji hjun hnot;obtain⟨p1,p2,p3⟩:=Oper.apart_spec hap
   have hfree':∀k ok,ops[k]?=some ok→k≠i→(listed.setIfInBounds j true).getD k true=false →
     (∀e∈ok.after,Region.binds md e=true→e.on≠i)→oi.apart ops ok=true:=fun k ok hk hki hun hno=>by
    refine hfree k ok hk hki ?_ hno
    by_cases hjk:j=k
    ·subst hjk;exact hjun
    ·rw[getD_set_ne true hjk]at hun;exact hun
   refine⟨fun hja=>?_,fun hja=>?_⟩
   ·refine ih (listed.setIfInBounds j true) a (inv.set hj hjn) hfree' (ready_mono hr (Ne.symm hji)) hy ?_
    rw[Array.setIfInBounds_comm _ _ hji]
    exact h1 hja
   ·obtain⟨u,hu,hn'⟩:=h2 hja
    refine⟨u,hu.unput (fun cs b=>hsel j oj cs b hoj) p1,?_⟩
    refine ih (listed.setIfInBounds j true) _ (inv.set hj hjn) hfree' (ready_mono hr (Ne.symm hji)) (hy.put (fun cs b=>hsel i oi cs b hi) p3 u) ?_
    rw[Array.setIfInBounds_comm _ _ hji,←Act.put_comm a v u p2]
    exact hn'
theorem wpT_skip {n i:Nat}{oi:Oper}{L:Array Bool→Act→Prop}(hi:ops[i]?=some oi)(hal:sk oi=true)
  (hs:Region.sinkB md ops n=true) (hc:Region.chainB md ops n=true) (hn:n<ops.size) (hin:i<n)
  (hdone:∀listed a,L listed a→∀j∈Region.ready md ops listed,n≤j) :
  ∀(f:Nat) (listed:Array Bool) (a:Act),HeadInv md ops n listed→i∈Region.ready md ops listed →
   wpT P md ops w sk n L f (listed.setIfInBounds i true) a→wpT P md ops w sk n L (f+1) listed a:=by
 intro f
 induction f with
 | zero=>
  intro listed a inv hr H;have hun:=(mem_ready.1 hr).1
  refine⟨fun h=>(by rw[h]at hr;cases hr),fun j hj=>?_⟩
  have hjn:j<n:=by
   rcases Nat.lt_or_ge j n with h|h
   ·exact h
   ·exact absurd hj (tail_waits hs hc hn inv _ i rfl hin hun j h)
  refine⟨hjn,fun o ho=>?_⟩
  by_cases hji:j=i
  ·subst hji
   rw[hi]at ho;cases ho
   exact⟨fun _=>H,fun h=>(by rw[hal]at h;cases h)⟩
  ·have:=hdone _ _ H j (ready_mono hj hji)
   omega
 | succ f ih=>
  intro listed a inv hr H;have hun:=(mem_ready.1 hr).1
  refine⟨fun h=>(by rw[h]at hr;cases hr),fun j hj=>?_⟩
  have hjn:j<n:=by
   rcases Nat.lt_or_ge j n with h|h
   ·exact h
   ·exact absurd hj (tail_waits hs hc hn inv _ i rfl hin hun j h)
  refine⟨hjn,fun oj hoj=>?_⟩
  by_cases hji:j=i
  ·subst hji
   rw[hi]at hoj;cases hoj
   exact⟨fun _=>H,fun h=>(by rw[hal]at h;cases h)⟩
  ·obtain⟨h1,h2⟩:=(H.2 j (ready_mono hj hji)).2 oj hoj
   refine⟨fun hja=>?_,fun hja=>?_⟩
   ·refine ih (listed.setIfInBounds j true) a (inv.set hj hjn) (ready_mono hr (Ne.symm hji)) ?_
    rw[Array.setIfInBounds_comm _ _ hji]
    exact h1 hja
   ·obtain⟨u,hu,hn'⟩:=h2 hja
    refine⟨u,hu,ih (listed.setIfInBounds j true) _ (inv.set hj hjn) (ready_mono hr (Ne.symm hji)) ?_⟩
    rw[Array.setIfInBounds_comm _ _ hji]
    exact hn'
theorem wpT_lex {n g:Nat}{Lq:Act→Prop}(hsel:Region.noSelect ops=true)(hs:Region.sinkB md ops n=true)(hc:Region.chainB md ops n=true)(hn:n<ops.size) :
  ∀(l:List Oper) (k:Nat) (listed:Array Bool) (a:Act),(∀j,j<l.length→l[j]?=ops[k+j]?)→k+l.length=n→HeadInv md ops n listed→(∀j,j<k→listed.getD j true=true) →
  Region.lexHead md ops g l.length k listed=true→wpR P ops w Lq (l.filter fun o=>!sk o) a →
  wpT P md ops w sk n (fun listed' a'=>Region.seqB md ops g n listed'=true∧(∀j,j<n→listed'.getD j true=true)∧Lq a') l.length listed a
 | [],k,listed,a,_,hk,_,hlt,hB,h=>by
  have:k=n:=by simpa using hk
  subst this
  exact⟨by simpa[Region.lexHead]using hB,hlt,h⟩
 | o::l,k,listed,a,hl,hk,inv,hlt,hB,h=>by
  have h0:ops[k]?=some o:=by simpa using (hl 0 (by simp)).symm
  simp only[List.length_cons,Region.lexHead,qba]at hB;obtain⟨⟨hr,hf⟩,hB'⟩:=hB
  have hkn:k<n:=by simp only[List.length_cons]at hk;omega
  have hr':k∈Region.ready md ops listed:=by simpa using hr
  have hlt':∀j,j<k+1→(listed.setIfInBounds k true).getD j true=true:=fun j hj=>by
   by_cases e:k=j
   ·subst e
    rcases Nat.lt_or_ge k listed.size with h'|h'
    ·simp[h']
    ·simp[Array.getElem?_eq_none h']
   ·rw[getD_set_ne true e];exact hlt j (by omega)
  have hpos:∀j,j<l.length→l[j]?=ops[k+1+j]?:=fun j hj=>by have:=hl (j+1) (by simp;omega);simpa[Nat.add_assoc,Nat.add_comm 1 j]using this
  have hlen:k+1+l.length=n:=by simp only[List.length_cons]at hk;omega
  cases hal:sk o with
  | true=>
   rw[List.filter_cons_of_neg (by simp[hal])]at h
   exact wpT_skip h0 hal hs hc hn hkn (fun listed' a' hL=>seqB_ready hL.1) l.length listed a inv hr'
    (wpT_lex hsel hs hc hn l (k+1) _ _ hpos hlen (inv.set hr' hkn) hlt' hB' h)
  | false=>
   rw[List.filter_cons_of_pos (by simp[hal])]at h
   obtain⟨v,hy,hK⟩:=h
   exact wpT_first h0 hal (Region.noSelect_spec hsel) hs hc hn hkn (fun listed' a' hL=>seqB_ready hL.1) l.length listed a inv (Region.free_spec h0 hf) hr' hy
    (wpT_lex hsel hs hc hn l (k+1) _ _ hpos hlen (inv.set hr' hkn) hlt' hB' hK)
theorem getD_up {l:Array Bool}{j:Nat}(h:l.getD j false=true):l.getD j true=true:=by
 rw[Array.getD_eq_getD_getElem?]at h ⊢
 cases e:l[j]? with
 | none=>rfl
 | some b=>rw[e]at h;simpa using h
theorem keu {l:Array Bool}(i:Nat):(l.setIfInBounds i true).getD i true=true:=by
 rcases Nat.lt_or_ge i l.size with h'|h'
 ·simp[h']
 ·simp[Array.getElem?_eq_none h']
theorem kmy {a:Act}{x:Option Tmp}{v:Value}{d:Nat}(h:x≠some d):(a.put x v).tmps[d]?=a.tmps[d]?:=by
 cases x with
 | none=>rfl
 | some t=>
  have:t≠d:=fun e=>h (by rw[e])
  simp[Act.put,Array.getElem?_setIfInBounds_ne this]
theorem kip {n:Nat}{aF:Act}{L:Array Bool→Act→Prop}{d:Nat}(hLf:∀listed a,L listed a→a=aF):∀(f:Nat) (listed:Array Bool) (a:Act),wpT P md ops w sk n L f listed a →
  (∀i o,i<n→ops[i]?=some o→listed.getD i true=false→sk o=false→o.dst≠some d)→aF.tmps[d]?=a.tmps[d]?
 | 0,listed,a,h,_=>by rw[hLf _ _ h]
 | f+1,listed,a,h,hd=>by
  obtain⟨i,hi⟩:=List.exists_mem_of_ne_nil _ h.1;obtain⟨hin,hh⟩:=h.2 i hi;obtain⟨hun,o,ho,_⟩:=mem_ready.1 hi
  have hd':∀j o,j<n→ops[j]?=some o→(listed.setIfInBounds i true).getD j true=false→sk o=false→o.dst≠some d:=fun j o hj hjo hl hs=>by
   by_cases e:i=j
   ·subst e;rw[keu]at hl;cases hl
   ·rw[getD_set_ne true e]at hl;exact hd j o hj hjo hl hs
  obtain⟨h1,h2⟩:=hh o ho
  cases hs:sk o with
  | true=>exact kip hLf f _ _ (h1 hs) hd'
  | false=>
   obtain⟨v,_,hK⟩:=h2 hs;rw[kip hLf f _ _ hK hd',kmy (hd i o hin ho hun hs)]
def actX (i0:Nat)(t0:Tmp)(listed:Array Bool)(b:Nat)(a:Act):Act:=if listed.getD i0 true=true then a.put (some t0) (ptrB b) else a
def InvX (w:World)(i0 i1:Nat)(old cs:Array Value)(tb:TypeId)(listed:Array Bool)(b:Nat)(W:World):Prop:=
 Ext w W∧(listed.getD i1 true=true→listed.getD i0 true=true)∧(listed.getD i0 true=true→w.heap.size≤b∧W.heap[b]?=some (.cells (if listed.getD i1 true=true then cs else old) tb))
theorem YR.actX {o:Oper}{v:Value}{i0:Nat}{t0:Tmp}(hs:∀cs b,o.op≠.select cs b)(listed:Array Bool)(b:Nat)(a:Act)(hx:t0 ∉ o.looksAt ops)(h:YR P ops w o v a):YR P ops w o v (actX i0 t0 listed b a):=by
 unfold Go.actX
 split
 ·exact h.put hs (fun t e=>by cases e;exact hx) _
 ·exact h
theorem kfe {n g i0 i1 iv N:Nat}{t0 tv:Tmp}{o0 o1:Oper}{ty tb:TypeId}{old cs:Array Value}{aF:Act}{L:Array Bool→Act→Prop}{Q':Exit→Act→World→Prop}
  (h01:i0≠i1) (ho0:ops[i0]?=some o0) (g0:o0.guard=none) (d0:o0.dst=some t0) (run0:∀(a:Act) (W:World),(execOp a.eval o0).run P W=.ok (.value (ptrB W.heap.size)) (W.alloc (.cells old tb)))
  (ho1:ops[i1]?=some o1) (g1:o1.guard=none) (op1:o1.op=.store ty (.tmp t0) (.tmp tv)) (d1:o1.dst=none)
  (e0:∃e∈o1.after,Region.binds md e=true∧e.on=i0) (ev:∃e∈o1.after,Region.binds md e=true∧e.on=iv)
  (hsk:∀i o,i<n→ops[i]?=some o→sk o=true→i=i0∨i=i1)
  (hQ:∀i o,i<n→ops[i]?=some o→sk o=false→i≠i0∧i≠i1∧(∀cs b,o.op≠.select cs b)∧t0 ∉ o.looksAt ops∧o.dst≠some t0∧(i≠iv→o.dst≠some tv))
  (htv:tv≠t0) (hvF:aF.tmps[tv]?=some (.agg cs)) (ht0:t0<N) (hi:(P.info? ty).map (·.size)=some cs.size) (hold:old.size=cs.size) (h1c:cs.all (·.oneCell')=true)
  (hLf:∀listed a,L listed a→a=aF)
  (hL:∀(listed:Array Bool) (a:Act) (b:Nat) (W:World),InvX w i0 i1 old cs tb listed b W→L listed a→wpAny P md ops Q' g listed (actX i0 t0 listed b a) W) :
  ∀(f:Nat) (listed:Array Bool) (a:Act) (b:Nat) (W:World),a.tmps.size=N→InvX w i0 i1 old cs tb listed b W→wpT P md ops w sk n L f listed a→wpAny P md ops Q' (f+g) listed (actX i0 t0 listed b a) W
 | 0,listed,a,b,W,_,hI,h=>by rw[Nat.zero_add];exact hL _ _ _ _ hI h
 | f+1,listed,a,b,W,hN,hI,h=>by
  rw[show f+1+g=(f+g)+1 by omega]
  refine⟨fun h0=>absurd h0 h.1,fun i hir=>?_⟩
  obtain⟨hin,hh⟩:=h.2 i hir;obtain⟨hun,o,ho,hall⟩:=mem_ready.1 hir;obtain⟨h1,h2⟩:=hh o ho;obtain⟨x1,x2,x3⟩:=hI
  cases hs:sk o with
  | true=>
   rcases hsk i o hin ho hs with rfl|rfl
   ·rw[ho0]at ho
    cases ho;unfold wpOp;simp only[ho0]
    have hw:Region.wanted o0 (yielded ops (actX i t0 listed b a).tmps)=true:=by unfold Region.wanted;rw[g0]
    rw[hw,if_pos rfl]
    refine .inl ?_
    unfold Oper.wp;rw[run0]
    have hu1:¬ listed.getD i1 true=true:=fun h'=>by rw[x2 h']at hun;cases hun
    have hset:(listed.setIfInBounds i true).getD i true=true:=keu i
    have hne:(listed.setIfInBounds i true).getD i1 true=listed.getD i1 true:=getD_set_ne true h01
    have e1:actX i t0 listed b a=a:=by unfold actX;rw[if_neg (by rw[hun];simp)]
    have e2:actX i t0 (listed.setIfInBounds i true) W.heap.size a=a.put (some t0) (ptrB W.heap.size):=by unfold actX;rw[if_pos hset]
    rw[e1]
    show wpAny P md ops Q' (f+g) _ (a.put o0.dst (ptrB W.heap.size)) (W.alloc (.cells old tb))
    rw[d0,←e2]
    refine kfe h01 ho0 g0 d0 run0 ho1 g1 op1 d1 e0 ev hsk hQ htv hvF ht0 hi hold h1c hLf hL f _ a _ _ hN ⟨x1.alloc _,fun _=>hset,fun _=>⟨x1.len,?_⟩⟩ (h1 hs)
    rw[hne,if_neg hu1]
    exact Array.getElem?_push_size
   ·rw[ho1]at ho
    cases ho;obtain⟨ed,hed,hb0,hon0⟩:=e0;obtain⟨evd,hevd,hbv,honv⟩:=ev
    have l0:listed.getD i0 true=true:=getD_up (by have:=hall ed hed hb0;rwa [hon0]at this)
    have lv:listed.getD iv true=true:=getD_up (by have:=hall evd hevd hbv;rwa [honv]at this)
    obtain⟨y1,y2⟩:=x3 l0
    rw[if_neg (by rw[hun];simp)]at y2
    have eX:actX i0 t0 listed b a=a.put (some t0) (ptrB b):=by unfold actX;rw[if_pos l0]
    have hset:(listed.setIfInBounds i true).getD i true=true:=keu i
    have hne:(listed.setIfInBounds i true).getD i0 true=listed.getD i0 true:=getD_set_ne true (Ne.symm h01)
    have eX2:actX i0 t0 (listed.setIfInBounds i true) b a=a.put (some t0) (ptrB b):=by unfold actX;rw[if_pos (by rw[hne];exact l0)]
    have hval:a.tmps[tv]?=some (.agg cs):=by
     rw[←hvF]
     refine(kip hLf (f+1) listed a h fun j oj hj hjo hjl hjs=>?_).symm
     refine(hQ j oj hj hjo hjs).2.2.2.2.2 fun e=>?_
     subst e;rw[lv]at hjl;cases hjl
    unfold wpOp;simp only[ho1]
    have hw:Region.wanted o1 (yielded ops (actX i0 t0 listed b a).tmps)=true:=by unfold Region.wanted;rw[g1]
    rw[hw,if_pos rfl,eX]
    refine .inl (wp_store_row ty (.tmp t0) (.tmp tv) op1 b cs ?_ ?_ tb old y2 hi hold h1c ?_)
    ·have:t0<a.tmps.size:=by rw[hN];exact ht0
     simp[Act.eval,Act.put,ptrB,this]
    ·have:(a.put (some t0) (ptrB b)).tmps[tv]?=some (.agg cs):=by rw[kmy (by intro e;injection e with e;exact htv e.symm)];exact hval
     simp[Act.eval,this]
    ·rw[d1]
     show wpAny P md ops Q' (f+g) _ (a.put (some t0) (ptrB b)) (W.setRow b cs)
     rw[←eX2]
     refine kfe h01 ho0 g0 d0 run0 ho1 g1 op1 d1 ⟨ed,hed,hb0,hon0⟩ ⟨evd,hevd,hbv,honv⟩ hsk hQ htv hvF ht0 hi hold h1c hLf hL f _ a _ _ hN ⟨x1.setRow y1 _,fun _=>by rw[hne];exact l0,fun _=>⟨y1,?_⟩⟩ (h1 hs)
     rw[hset,if_pos rfl]
     exact setRow_heap _ _ _ _ _ _ y2
  | false=>
   obtain⟨v,hy,hK⟩:=h2 hs;obtain⟨q1,q2,hsl,q4,q5,_⟩:=hQ i o hin ho hs;have hy':=hy.actX (i0:=i0) hsl listed b a q4
   have s0:(listed.setIfInBounds i true).getD i0 true=listed.getD i0 true:=getD_set_ne true q1
   have s1:(listed.setIfInBounds i true).getD i1 true=listed.getD i1 true:=getD_set_ne true q2
   refine wpOp_of_qOp (C:=Cl W) (Cl.refl W) (K:=fun a'=>a'=(actX i0 t0 listed b a).put o.dst v) ?_ ((hy' W x1).qOp ho rfl)
   rintro a' W' hW' rfl
   have eX:(actX i0 t0 listed b a).put o.dst v=actX i0 t0 (listed.setIfInBounds i true) b (a.put o.dst v):=by
    unfold actX;rw[s0]
    split
    ·rw[Act.put_comm a v (ptrB b) (fun t e e'=>q5 (e.trans e'.symm))]
    ·rfl
   rw[eX]
   refine kfe h01 ho0 g0 d0 run0 ho1 g1 op1 d1 e0 ev hsk hQ htv hvF ht0 hi hold h1c hLf hL f _ _ _ _ (by rw[←hN];cases o.dst<;>simp[Act.put]) ⟨x1.trans hW'.ext,by rw[s0,s1];exact x2,?_⟩ hK
   rw[s0,s1];intro l0;obtain⟨y1,y2⟩:=x3 l0
   exact⟨y1,(hW'.ext.block _ (qaz y2).1).trans y2⟩
def boxB (ops:Array Oper)(n i0 i1 iv:Nat)(t0 tv:Tmp)(ty:TypeId):Bool:=
 decide (i0<n)&&decide (i1<n)&&decide (i0≠i1)&&decide (tv≠t0) &&
 (match ops[i0]? with|some o=>o.guard.isNone&&decide (o.dst=some t0)|none=>false) &&
 (match ops[i1]? with
  | some o=>o.guard.isNone&&decide (o.dst=none)&&(match o.op with|.store ty' (.tmp x) (.tmp y)=>decide (ty'=ty)&&decide (x=t0)&&decide (y=tv)|_=>false) &&
   o.after.any (fun e=>Region.binds .any e&&decide (e.on=i0))&&o.after.any (fun e=>Region.binds .any e&&decide (e.on=iv))
  | none=>false) &&
 (List.range n).all fun i=>match ops[i]? with
  | none=>false
  | some o=>if isSk o then decide (i=i0)||decide (i=i1) else decide (i≠i0)&&decide (i≠i1)&&!(o.looksAt ops).contains t0&&decide (o.dst≠some t0)&&(decide (i=iv)||decide (o.dst≠some tv))
theorem wp_region_box {id:Nat}{Q:Exit→Act→World→Prop}{a aF:Act}{l:List Oper}(n i0 i1 iv:Nat)(t0 tv:Tmp)(ty tb:TypeId)(old cs:Array Value)(hm:P.follows .mixedOrders=true)(hB:Region.lexTailB .any l.toArray n=true)
  (hX:boxB l.toArray n i0 i1 iv t0 tv ty=true) (run0:∀o,l[i0]?=some o→∀(a:Act) (W:World),(execOp a.eval o).run P W=.ok (.value (ptrB W.heap.size)) (W.alloc (.cells old tb)))
  (ht0:t0<a.tmps.size) (hi:(P.info? ty).map (·.size)=some cs.size) (hold:old.size=cs.size) (h1c:cs.all (·.oneCell')=true)
  (hd:(((l.take n).filter fun o=>!isSk o).all fun o=>match o.dst with|some t=>decide (t<a.tmps.size)|none=>false)=true) (hnd:(((l.take n).filter fun o=>!isSk o).map (·.dst)).Nodup)
  (walk:∀W,Ext w W→wpQuiet P l.toArray (fun w'=>∃x:Xt W,w'=x.world) (fun a'=>a'=aF) ((l.take n).filter fun o=>!isSk o) a)
  (hvF:aF.tmps[tv]?=some (.agg cs))
  (rest:∀(b:Nat) (W:World),Ext w W→w.heap.size≤b→W.heap[b]?=some (.cells cs tb)→wpList P l.toArray Q (l.drop n) (aF.put (some t0) (ptrB b)) W):(Code.region id l.toArray true).wp P Q a w:=by
 simp only[Region.lexTailB,qba,decide_eq_true_eq]at hB;obtain⟨⟨⟨⟨hsel,hn⟩,hs⟩,hc⟩,hlex⟩:=hB
 have hn':n<l.length:=by simpa using hn
 have htl:(l.take n).length=n:=by simp;omega
 have hdl:(l.drop n).length=l.toArray.size-n:=by simp
 have inv0:HeadInv .any l.toArray n (Array.replicate l.toArray.size false):=
  ⟨by simp,fun j oj _ hl=>(by rw[getD_replicate_false]at hl;cases hl),fun t _ ht=>getD_in (by simpa using ht) (getD_replicate_false _ _)⟩
 simp only[boxB,qba,decide_eq_true_eq,List.all_eq_true]at hX;obtain⟨⟨⟨⟨⟨⟨hi0,hi1⟩,h01⟩,htv⟩,hX0⟩,hX1⟩,hXA⟩:=hX
 split at hX0
 case h_2=>cases hX0
 rename_i o0 ho0
 split at hX1
 case h_2=>cases hX1
 rename_i o1 ho1
 simp only[qba,decide_eq_true_eq,Option.isNone_iff_eq_none,Array.any_eq_true]at hX0 hX1;obtain⟨g0,d0⟩:=hX0;obtain⟨⟨⟨⟨g1,d1⟩,hop⟩,hea⟩,heb⟩:=hX1
 split at hop
 case h_2=>cases hop
 rename_i ty' x y op1
 simp only[qba,decide_eq_true_eq]at hop;obtain⟨⟨rfl,rfl⟩,rfl⟩:=hop
 have hX':∀(i:Nat) (o:Oper),i<n→l.toArray[i]?=some o→(isSk o=true→i=i0∨i=i1)∧(isSk o=false→i≠i0∧i≠i1∧x ∉ o.looksAt l.toArray∧o.dst≠some x∧(i≠iv→o.dst≠some y)):=fun i o hi ho=>by
  have:=hXA i (List.mem_range.2 hi)
  rw[ho]at this
  simp only at this
  refine⟨fun hal=>?_,fun hal=>?_⟩
  ·rw[hal,if_pos rfl]at this
   simpa only[Bool.or_eq_true,decide_eq_true_eq]using this
  ·rw[hal]at this
   simp only[Bool.false_eq_true,if_false,qba,Bool.or_eq_true,Bool.not_eq_true',decide_eq_true_eq,List.contains_eq_mem,decide_eq_false_iff_not]at this;obtain⟨⟨⟨⟨b1,b2⟩,b3⟩,b4⟩,b5⟩:=this
   exact⟨b1,b2,b3,b4,fun hne=>b5.resolve_left hne⟩
 have hR:=quiet_R (w:=w.drew) (P:=P) (ops:=l.toArray) (aF:=aF) ((l.take n).filter fun o=>!isSk o) a hd hnd (fun W hW=>walk W ((Ext.refl w).drew.trans hW))
 have H:=wpT_lex (sk:=isSk) (md:=.any) (w:=w.drew) (g:=l.toArray.size-n) hsel hs hc hn (l.take n) 0 _ a (fun j hj=>by
  have hj':j<n:=by rw[htl]at hj;exact hj
  simp[hj']) (by simpa using htl) inv0 (fun j hj=>absurd hj (Nat.not_lt_zero _)) (by rw[htl];exact hlex) hR
 have hz:∀j,j<n→(Array.replicate l.toArray.size false).getD j true=false:=fun j hj=>by
  have:j<l.toArray.size:=Nat.lt_trans hj hn
  exact getD_in (by simpa using this) (getD_replicate_false _ _)
 refine wp_region_any hm ?_
 have:=kfe (Q':=Q) (g:=l.toArray.size-n) (sk:=isSk) (N:=a.tmps.size) (iv:=iv) (aF:=aF) h01 ho0 g0 d0 (run0 o0 (by simpa using ho0)) ho1 g1 op1 d1
  (by obtain⟨k,hk,he⟩:=hea;exact⟨_,Array.getElem_mem hk,he⟩)
  (by obtain⟨k,hk,he⟩:=heb;exact⟨_,Array.getElem_mem hk,he⟩)
  (fun i o hi ho hal=>(hX' i o hi ho).1 hal)
  (fun i o hi ho hal=>by
   obtain⟨b1,b2,b3,b4,b5⟩:=(hX' i o hi ho).2 hal
   exact⟨b1,b2,fun cs b=>Region.noSelect_spec hsel i o cs b ho,b3,b4,b5⟩)
  htv hvF ht0 hi hold h1c (fun listed a hL=>hL.2.2)
  (fun listed a' b W hI ⟨hL1,hL2,hL3⟩=>by
   subst hL3
   have e:actX i0 x listed b a'=a'.put (some x) (ptrB b):=by unfold actX;rw[if_pos (hL2 _ hi0)]
   obtain⟨y1,y2⟩:=hI.2.2 (hL2 _ hi0);rw[if_pos (hL2 _ hi1)]at y2
   have:=wpAny_of_seq (P:=P) (ops:=l.toArray) (md:=.any) (Q':=Q) (l.drop n) n listed (actX i0 x listed b a') W (fun j=>by simp[List.getElem?_drop]) (by rw[hdl];exact hL1) (by
    rw[e]
    exact rest b W ((Ext.refl w).drew.trans hI.1) y1 y2)
   rwa [hdl]at this) _ _ _ 0 w.drew rfl ⟨Ext.refl _,fun h=>(by rw[hz _ hi1]at h;cases h),fun h=>(by rw[hz _ hi0]at h;cases h)⟩ H
 have e:actX i0 x (Array.replicate l.toArray.size false) 0 a=a:=by unfold actX;rw[if_neg (by rw[hz _ hi0];simp)]
 rw[htl,show n+(l.toArray.size-n)=l.toArray.size by omega,e]at this
 exact this
end
end Go
namespace Go.Proofs.YtcgghcicnanliaaGreatDoor
open Go.RowKit Go.Lib
set_option maxHeartbeats 4000000
set_option maxRecDepth 100000
theorem tdiv_bd {a b:Int}(h1:-4000000000000000000≤a)(h2:a≤4000000000000000000):-4000000000000000000≤Int.tdiv a b∧Int.tdiv a b≤4000000000000000000:=by
 have h:=Int.natAbs_tdiv a b
 have h3:(Int.tdiv a b).natAbs≤a.natAbs:=by rw[h];exact Nat.div_le_self _ _
 omega
theorem fdiv_of {a b:Int}(hb:b≠0):Int.fdiv a b=if Int.tmod a b≠0∧(decide (a<0)≠decide (b<0)) then Int.tdiv a b-1 else Int.tdiv a b:=by
 rw[Int.fdiv_eq_tdiv]
 by_cases hd:b ∣ a
 ·have:Int.tmod a b=0:=Int.tmod_eq_zero_of_dvd hd
  rw[if_pos hd,if_neg (fun h=>h.1 this)];omega
 ·have h0:Int.tmod a b≠0:=fun h=>hd (Int.dvd_of_tmod_eq_zero h)
  rw[if_neg hd]
  by_cases ha:a<0<;>by_cases hb':b<0
  ·rw[if_neg (by omega),if_neg (by omega),Int.sign_eq_neg_one_of_neg hb',if_neg (by simp[ha,hb'])];omega
  ·rw[if_neg (by omega),if_pos (by omega),Int.sign_eq_one_of_pos (by omega),if_pos ⟨h0,by simp[ha,hb']⟩]
  ·rw[if_pos (by omega),if_neg (by omega),if_pos ⟨h0,by simp[ha,hb']⟩]
  ·rw[if_pos (by omega),if_pos (by omega),if_neg (by simp[ha,hb'])];omega
theorem floor_398 (a b:Int)(hb:b≠0)(h1:-4000000000000000000≤a)(h2:a≤4000000000000000000)(w:World) :
  Calls Tryz.prog 398 #[.int .i64 a,.int .i64 b] w fun e w'=>e=.returned (.int .i64 (Int.fdiv a b))∧Ext w w':=by
 have hF:=Lib.hid (fdiv_of (a:=a) hb);have hq:=tdiv_bd (b:=b) h1 h2;generalize Int.fdiv a b=f at hF
 have D:(Int.tmod a b=0)∨(Int.tmod a b≠0∧((a<0∧b<0)∨(a<0∧¬ b<0)∨(¬ a<0∧b<0)∨(¬ a<0∧¬ b<0))):=by omega
 generalize hQ:Int.tdiv a b=q at hF hq;generalize hM:Int.tmod a b=m at hF D
 have w1:IntKind.i64.wrap q=q:=by rw[IntKind.wrap_i64];omega
 rcases D with h|⟨h,⟨d1,d2⟩|⟨d1,d2⟩|⟨d1,d2⟩|⟨d1,d2⟩⟩
 all_goals
  go_enter Tryz.func398,Tryz.ntmps398
  go_wp2
  go_ret
  exact⟨reti (by rw[hF.out];first|(simp_all;done)|(simp_all;omega)),xt⟩
def kdm (a b s t:Int):Int × Int:=(a+Int.fdiv ((b-a)*s) (s-t),a-Int.fdiv (-((b-a)*s)) (s-t))
theorem fdiv_bd {a b:Int}(hb:b≠0)(h1:-4000000000000000000≤a)(h2:a≤4000000000000000000):-4000000000000000001≤Int.fdiv a b∧Int.fdiv a b≤4000000000000000001:=by
 have h:=tdiv_bd (b:=b) h1 h2;rw[fdiv_of hb]
 split<;>omega
theorem frame1_397 (B1 B2:Nat)(a b s t:Int)(w:World)(ha:-500000≤a∧a≤500000)(hb:-500000≤b∧b≤500000)(hs:-2000000000000≤s∧s≤2000000000000)(ht:-2000000000000≤t∧t≤2000000000000)(hst:s-t≠0)
  (h1:B1<w.heap.size) (h2:B2<w.heap.size) (c1:w.cell? ⟨B1,0,none⟩=some (.int .i64 s)) (c2:w.cell? ⟨B2,0,none⟩=some (.int .i64 t)) :
  Calls Tryz.prog 397 #[.int .i64 a,.int .i64 b,.pointer (some ⟨B1,0,none⟩),.pointer (some ⟨B2,0,none⟩)] w fun e w'=>e=.returned (.agg #[.int .i64 (kdm a b s t).1,.int .i64 (kdm a b s t).2])∧Ext w w':=by
 have hm:=kdg (x:=b-a) (y:=s) (m:=1000000) (n:=2000000000000) (by omega) (by omega) (by omega) (by omega)
 simp only[Int.reduceMul,Int.reduceNeg]at hm;unfold kdm
 obtain⟨d1,r1,h1d⟩:∃d,IntKind.i64.wrap (b-a)=d∧d=b-a:=⟨_,rfl,by rw[IntKind.wrap_i64];omega⟩
 rw[←h1d]at hm ⊢
 obtain⟨n,r2,h2n⟩:∃n,IntKind.i64.wrap (d1*s)=n∧n=d1*s:=⟨_,rfl,by rw[IntKind.wrap_i64];omega⟩
 rw[←h2n]at hm ⊢
 obtain⟨d,r3,h3d⟩:∃d,IntKind.i64.wrap (s-t)=d∧d=s-t:=⟨_,rfl,by rw[IntKind.wrap_i64];omega⟩
 rw[←h3d]at hst ⊢
 obtain⟨m,r4,h4m⟩:∃m,IntKind.i64.wrap (-n)=m∧m=-n:=⟨_,rfl,by rw[IntKind.wrap_i64];omega⟩
 rw[←h4m]
 have f1:=fdiv_bd (a:=n) hst (by omega) (by omega)
 have f2:=fdiv_bd (a:=m) hst (by omega) (by omega)
 have K1:=Lib.hid (floor_398 n d hst (by omega) (by omega))
 have K2:=Lib.hid (floor_398 m d hst (by omega) (by omega))
 generalize Int.fdiv n d=q1 at K1 f1 ⊢;generalize Int.fdiv m d=q2 at K2 f2 ⊢
 obtain⟨e1,r5,h5⟩:∃e,IntKind.i64.wrap (a+q1)=e∧e=a+q1:=⟨_,rfl,by rw[IntKind.wrap_i64];omega⟩
 obtain⟨e2,r6,h6⟩:∃e,IntKind.i64.wrap (a-q2)=e∧e=a-q2:=⟨_,rfl,by rw[IntKind.wrap_i64];omega⟩
 rw[←h5,←h6];clear ha hb hs ht hst f1 f2 hm h1d h2n h3d h4m h5 h6
 go_enter Tryz.func397,Tryz.ntmps397
 go_wp2_with fail
 (refine kav 16 (by kernel_rfl) (by kernel_rfl) ?_;simp only[List.take_succ_cons,List.take_zero,List.drop_succ_cons,List.drop_zero];(repeat (first|go_big_quiet_step ((go_at_call 398;first|with_reducible exact Xt.calls (K1.out _)|exact Xt.calls (K2.out _)))|quiet_step ((go_at_call 398;first|with_reducible exact Xt.calls (K1.out _)|exact Xt.calls (K2.out _)))));refine wpQuiet_nil ?_;rintro _ ⟨xq,rfl⟩;have hx2:=xq.ext;generalize xq.world=w2 at hx2 ⊢;obtain⟨hc9,hf9,hz9⟩:=hx2.rules;(try simp only[qsa]at hz9);(try have hz9a:w.heap.size<w2.heap.size:=by omega);(try have hz9b:w.heap.size+1<w2.heap.size:=by omega);(try have hz9c:w.heap.size+1+1<w2.heap.size:=by omega);(try have hz9d:w.heap.size+1+1+1<w2.heap.size:=by omega))
 go_wp2_with fail
 ((try simp only[Exit.inBlock,Exit.then]);refine bodyPost_ret (by first|(simp[results,Tryz.f397,go_sem];rfl)|(simp[results,Tryz.f397,go_sem];done)|(simp[results,Tryz.f397,go_sem, *];rfl)|(simp[results,Tryz.f397,go_sem, *];done)) rfl ?_)
 exact⟨rfl,xt⟩
end Go.Proofs.YtcgghcicnanliaaGreatDoor
namespace Go.Proofs
open Go.Shelf
def Tryz.sortInt_ren:Go.Shelf.Ren:=⟨fun|53=>135|64=>232|63=>231|78=>319|79=>320|70=>310|71=>311|72=>312|73=>313|74=>314|75=>315|59=>316|76=>317|77=>318|88=>377|89=>378|90=>379|91=>380|92=>381|68=>259|96=>405|n=>n,fun|22=>41|23=>3|3=>3|51=>273|0=>0|67=>337|69=>227|4=>4|61=>331|60=>330|44=>290|5=>5|9=>9|75=>371|79=>375|83=>392|84=>199|n=>n,fun|n=>n⟩
theorem Tryz.sortInt:Go.Proofs.SlLaysN.n53 Tryz.prog Tryz.sortInt_ren:={
 mixed:=by kernel_rfl
 f53:=⟨Tryz.f135.name,by decide,Tryz.func135.trans (congrArg some (by kernel_rfl))⟩
 f59:=⟨Tryz.f316.name,by decide,Tryz.func316.trans (congrArg some (by kernel_rfl))⟩
 f63:=⟨Tryz.f231.name,by decide,Tryz.func231.trans (congrArg some (by kernel_rfl))⟩
 f64:=Tryz.func232.trans (congrArg some (by kernel_rfl))
 f68:=⟨Tryz.f259.name,by decide,Tryz.func259.trans (congrArg some (by kernel_rfl))⟩
 f70:=⟨Tryz.f310.name,by decide,Tryz.func310.trans (congrArg some (by kernel_rfl))⟩
 f71:=⟨Tryz.f311.name,by decide,Tryz.func311.trans (congrArg some (by kernel_rfl))⟩
 f72:=⟨Tryz.f312.name,by decide,Tryz.func312.trans (congrArg some (by kernel_rfl))⟩
 f73:=⟨Tryz.f313.name,by decide,Tryz.func313.trans (congrArg some (by kernel_rfl))⟩
 f74:=⟨Tryz.f314.name,by decide,Tryz.func314.trans (congrArg some (by kernel_rfl))⟩
 f75:=⟨Tryz.f315.name,by decide,Tryz.func315.trans (congrArg some (by kernel_rfl))⟩
 f76:=⟨Tryz.f317.name,by decide,Tryz.func317.trans (congrArg some (by kernel_rfl))⟩
 f77:=⟨Tryz.f318.name,by decide,Tryz.func318.trans (congrArg some (by kernel_rfl))⟩
 f78:=Tryz.func319.trans (congrArg some (by kernel_rfl))
 f79:=Tryz.func320.trans (congrArg some (by kernel_rfl))
 f88:=⟨Tryz.f377.name,by decide,Tryz.func377.trans (congrArg some (by kernel_rfl))⟩
 f89:=Tryz.func378.trans (congrArg some (by kernel_rfl))
 f90:=Tryz.func379.trans (congrArg some (by kernel_rfl))
 f91:=⟨Tryz.f380.name,by decide,Tryz.func380.trans (congrArg some (by kernel_rfl))⟩
 f92:=⟨Tryz.f381.name,by decide,Tryz.func381.trans (congrArg some (by kernel_rfl))⟩
 f96:=⟨Tryz.f405.name,by decide,Tryz.func405.trans (congrArg some (by kernel_rfl))⟩
 t0:=Tryz.underlying0
 a0:=Tryz.isAgg0
 z0:=Tryz.sizeOf0
 v0:=Tryz.zeroValue0
 t3:=Tryz.underlying3
 a3:=Tryz.isAgg3
 z3:=Tryz.sizeOf3
 v3:=Tryz.zeroValue3
 t4:=Tryz.underlying4
 a4:=Tryz.isAgg4
 z4:=Tryz.sizeOf4
 v4:=Tryz.zeroValue4
 t5:=Tryz.underlying5
 a5:=Tryz.isAgg5
 z5:=Tryz.sizeOf5
 v5:=Tryz.zeroValue5
 t9:=Tryz.underlying9
 a9:=Tryz.isAgg9
 z9:=Tryz.sizeOf9
 v9:=Tryz.zeroValue9
 t22:=Tryz.underlying41
 a22:=Tryz.isAgg41
 z22:=Tryz.sizeOf41
 v22:=Tryz.zeroValue41
 t23:=Tryz.underlying3
 a23:=Tryz.isAgg3
 z23:=Tryz.sizeOf3
 v23:=Tryz.zeroValue3
 t44:=Tryz.underlying290
 a44:=Tryz.isAgg290
 z44:=Tryz.sizeOf290
 v44:=Tryz.zeroValue290
 t51:=Tryz.underlying273
 a51:=Tryz.isAgg273
 z51:=Tryz.sizeOf273
 v51:=Tryz.zeroValue273
 t60:=Tryz.underlying330
 a60:=Tryz.isAgg330
 z60:=Tryz.sizeOf330
 v60:=Tryz.zeroValue330
 t61:=Tryz.underlying331
 a61:=Tryz.isAgg331
 z61:=Tryz.sizeOf331
 v61:=Tryz.zeroValue331
 t67:=Tryz.underlying337
 a67:=Tryz.isAgg337
 z67:=Tryz.sizeOf337
 v67:=Tryz.zeroValue337
 t69:=Tryz.underlying227
 a69:=Tryz.isAgg227
 z69:=Tryz.sizeOf227
 v69:=Tryz.zeroValue227
 t75:=Tryz.underlying371
 a75:=Tryz.isAgg371
 z75:=Tryz.sizeOf371
 v75:=Tryz.zeroValue371
 t79:=Tryz.underlying375
 a79:=Tryz.isAgg375
 z79:=Tryz.sizeOf375
 v79:=Tryz.zeroValue375
 t83:=Tryz.underlying392
 a83:=Tryz.isAgg392
 z83:=Tryz.sizeOf392
 v83:=Tryz.zeroValue392
 t84:=Tryz.underlying199
 a84:=Tryz.isAgg199
 z84:=Tryz.sizeOf199
 v84:=Tryz.zeroValue199 }
def Tryz.compactInt_ren:Go.Shelf.Ren:=⟨fun|43=>136|n=>n,fun|22=>41|23=>3|3=>3|4=>4|0=>0|n=>n,fun|n=>n⟩
theorem Tryz.compactInt:Go.Proofs.SlLaysE.n43 Tryz.prog Tryz.compactInt_ren:={
 mixed:=by kernel_rfl
 f43:=⟨Tryz.f136.name,by decide,Tryz.func136.trans (congrArg some (by kernel_rfl))⟩
 t0:=Tryz.underlying0
 a0:=Tryz.isAgg0
 z0:=Tryz.sizeOf0
 v0:=Tryz.zeroValue0
 t3:=Tryz.underlying3
 a3:=Tryz.isAgg3
 z3:=Tryz.sizeOf3
 v3:=Tryz.zeroValue3
 t4:=Tryz.underlying4
 a4:=Tryz.isAgg4
 z4:=Tryz.sizeOf4
 v4:=Tryz.zeroValue4
 t22:=Tryz.underlying41
 a22:=Tryz.isAgg41
 z22:=Tryz.sizeOf41
 v22:=Tryz.zeroValue41
 a23:=Tryz.isAgg3
 z23:=Tryz.sizeOf3 }
end Go.Proofs
namespace Go
open Go.RowKit Go.Proofs.YtcgghcicnanliaaGreatDoor
section
variable {P:Program} {ops:Array Oper} {md:Region.Mode} {w:World} {sk:Oper→Bool}
theorem wp_store_one' {o:Oper}{a:Act}{w:World}{K:Act→World→Prop}{Q:Exit→Act→World→Prop}(ty:TypeId)(x y:Operand)(ho:o.op=.store ty x y)
  (g:Nat) (v:Value) (hx:a.eval x=.pointer (some ⟨g,0,none⟩)) (hy:a.eval y=v)
  (t:TypeId) (old:Value) (hg:w.heap[g]?=some (.cells #[old] t (0,0))) (hi:(P.info? ty).map (·.size)=some 1) (h1:v.oneCell'=true)
  (h:K (a.put o.dst undef) (w.setRow g #[v])):o.wp P a w K Q:=by
 unfold Oper.wp execOp;simp only[ho,hx,hy,Instr.storeAt,Instr.sureAddr,Sem.run_bind,Sem.run_pure,Result.andThen_ok,run_storeVar_one w g t ty old v hg hi h1]
 exact h
theorem keb {n g i0 i1 iv N:Nat}{t0 tv:Tmp}{o0 o1:Oper}{ty tb:TypeId}{old sv:Value}{aF:Act}{L:Array Bool→Act→Prop}{Q':Exit→Act→World→Prop}
  (h01:i0≠i1) (ho0:ops[i0]?=some o0) (g0:o0.guard=none) (d0:o0.dst=some t0) (run0:∀(a:Act) (W:World),(execOp a.eval o0).run P W=.ok (.value (ptrB W.heap.size)) (W.alloc (.cells #[old] tb)))
  (ho1:ops[i1]?=some o1) (g1:o1.guard=none) (op1:o1.op=.store ty (.tmp t0) (.tmp tv)) (d1:o1.dst=none)
  (e0:∃e∈o1.after,Region.binds md e=true∧e.on=i0) (ev:∃e∈o1.after,Region.binds md e=true∧e.on=iv)
  (hsk:∀i o,i<n→ops[i]?=some o→sk o=true→i=i0∨i=i1)
  (hQ:∀i o,i<n→ops[i]?=some o→sk o=false→i≠i0∧i≠i1∧(∀cs b,o.op≠.select cs b)∧t0 ∉ o.looksAt ops∧o.dst≠some t0∧(i≠iv→o.dst≠some tv))
  (htv:tv≠t0) (hvF:aF.tmps[tv]?=some sv) (ht0:t0<N) (hi:(P.info? ty).map (·.size)=some 1) (h1c:sv.oneCell'=true)
  (hLf:∀listed a,L listed a→a=aF)
  (hL:∀(listed:Array Bool) (a:Act) (b:Nat) (W:World),InvX w i0 i1 #[old] #[sv] tb listed b W→L listed a→wpAny P md ops Q' g listed (actX i0 t0 listed b a) W) :
  ∀(f:Nat) (listed:Array Bool) (a:Act) (b:Nat) (W:World),a.tmps.size=N→InvX w i0 i1 #[old] #[sv] tb listed b W→wpT P md ops w sk n L f listed a→wpAny P md ops Q' (f+g) listed (actX i0 t0 listed b a) W
 | 0,listed,a,b,W,_,hI,h=>by rw[Nat.zero_add];exact hL _ _ _ _ hI h
 | f+1,listed,a,b,W,hN,hI,h=>by
  rw[show f+1+g=(f+g)+1 by omega]
  refine⟨fun h0=>absurd h0 h.1,fun i hir=>?_⟩
  obtain⟨hin,hh⟩:=h.2 i hir;obtain⟨hun,o,ho,hall⟩:=mem_ready.1 hir;obtain⟨h1,h2⟩:=hh o ho;obtain⟨x1,x2,x3⟩:=hI
  cases hs:sk o with
  | true=>
   rcases hsk i o hin ho hs with rfl|rfl
   ·rw[ho0]at ho
    cases ho;unfold wpOp;simp only[ho0]
    have hw:Region.wanted o0 (yielded ops (actX i t0 listed b a).tmps)=true:=by unfold Region.wanted;rw[g0]
    rw[hw,if_pos rfl]
    refine .inl ?_
    unfold Oper.wp;rw[run0]
    have hu1:¬ listed.getD i1 true=true:=fun h'=>by rw[x2 h']at hun;cases hun
    have hset:(listed.setIfInBounds i true).getD i true=true:=keu i
    have hne:(listed.setIfInBounds i true).getD i1 true=listed.getD i1 true:=getD_set_ne true h01
    have e1:actX i t0 listed b a=a:=by unfold actX;rw[if_neg (by rw[hun];simp)]
    have e2:actX i t0 (listed.setIfInBounds i true) W.heap.size a=a.put (some t0) (ptrB W.heap.size):=by unfold actX;rw[if_pos hset]
    rw[e1]
    show wpAny P md ops Q' (f+g) _ (a.put o0.dst (ptrB W.heap.size)) (W.alloc (.cells #[old] tb))
    rw[d0,←e2]
    refine keb h01 ho0 g0 d0 run0 ho1 g1 op1 d1 e0 ev hsk hQ htv hvF ht0 hi h1c hLf hL f _ a _ _ hN ⟨x1.alloc _,fun _=>hset,fun _=>⟨x1.len,?_⟩⟩ (h1 hs)
    rw[hne,if_neg hu1]
    exact Array.getElem?_push_size
   ·rw[ho1]at ho
    cases ho;obtain⟨ed,hed,hb0,hon0⟩:=e0;obtain⟨evd,hevd,hbv,honv⟩:=ev
    have l0:listed.getD i0 true=true:=getD_up (by have:=hall ed hed hb0;rwa [hon0]at this)
    have lv:listed.getD iv true=true:=getD_up (by have:=hall evd hevd hbv;rwa [honv]at this)
    obtain⟨y1,y2⟩:=x3 l0
    rw[if_neg (by rw[hun];simp)]at y2
    have eX:actX i0 t0 listed b a=a.put (some t0) (ptrB b):=by unfold actX;rw[if_pos l0]
    have hset:(listed.setIfInBounds i true).getD i true=true:=keu i
    have hne:(listed.setIfInBounds i true).getD i0 true=listed.getD i0 true:=getD_set_ne true (Ne.symm h01)
    have eX2:actX i0 t0 (listed.setIfInBounds i true) b a=a.put (some t0) (ptrB b):=by unfold actX;rw[if_pos (by rw[hne];exact l0)]
    have hval:a.tmps[tv]?=some sv:=by
     rw[←hvF]
     refine(kip hLf (f+1) listed a h fun j oj hj hjo hjl hjs=>?_).symm
     refine(hQ j oj hj hjo hjs).2.2.2.2.2 fun e=>?_
     subst e;rw[lv]at hjl;cases hjl
    unfold wpOp;simp only[ho1]
    have hw:Region.wanted o1 (yielded ops (actX i0 t0 listed b a).tmps)=true:=by unfold Region.wanted;rw[g1]
    rw[hw,if_pos rfl,eX]
    refine .inl (wp_store_one' ty (.tmp t0) (.tmp tv) op1 b sv ?_ ?_ tb old y2 hi h1c ?_)
    ·have:t0<a.tmps.size:=by rw[hN];exact ht0
     simp[Act.eval,Act.put,ptrB,this]
    ·have:(a.put (some t0) (ptrB b)).tmps[tv]?=some sv:=by rw[kmy (by intro e;injection e with e;exact htv e.symm)];exact hval
     simp[Act.eval,this]
    ·rw[d1]
     show wpAny P md ops Q' (f+g) _ (a.put (some t0) (ptrB b)) (W.setRow b #[sv])
     rw[←eX2]
     refine keb h01 ho0 g0 d0 run0 ho1 g1 op1 d1 ⟨ed,hed,hb0,hon0⟩ ⟨evd,hevd,hbv,honv⟩ hsk hQ htv hvF ht0 hi h1c hLf hL f _ a _ _ hN ⟨x1.setRow y1 _,fun _=>by rw[hne];exact l0,fun _=>⟨y1,?_⟩⟩ (h1 hs)
     rw[hset,if_pos rfl]
     exact setRow_heap _ _ _ _ _ _ y2
  | false=>
   obtain⟨v,hy,hK⟩:=h2 hs;obtain⟨q1,q2,hsl,q4,q5,_⟩:=hQ i o hin ho hs;have hy':=hy.actX (i0:=i0) hsl listed b a q4
   have s0:(listed.setIfInBounds i true).getD i0 true=listed.getD i0 true:=getD_set_ne true q1
   have s1:(listed.setIfInBounds i true).getD i1 true=listed.getD i1 true:=getD_set_ne true q2
   refine wpOp_of_qOp (C:=Cl W) (Cl.refl W) (K:=fun a'=>a'=(actX i0 t0 listed b a).put o.dst v) ?_ ((hy' W x1).qOp ho rfl)
   rintro a' W' hW' rfl
   have eX:(actX i0 t0 listed b a).put o.dst v=actX i0 t0 (listed.setIfInBounds i true) b (a.put o.dst v):=by
    unfold actX;rw[s0]
    split
    ·rw[Act.put_comm a v (ptrB b) (fun t e e'=>q5 (e.trans e'.symm))]
    ·rfl
   rw[eX]
   refine keb h01 ho0 g0 d0 run0 ho1 g1 op1 d1 e0 ev hsk hQ htv hvF ht0 hi h1c hLf hL f _ _ _ _ (by rw[←hN];cases o.dst<;>simp[Act.put]) ⟨x1.trans hW'.ext,by rw[s0,s1];exact x2,?_⟩ hK
   rw[s0,s1];intro l0;obtain⟨y1,y2⟩:=x3 l0
   exact⟨y1,(hW'.ext.block _ (qaz y2).1).trans y2⟩
theorem kol {id:Nat}{Q:Exit→Act→World→Prop}{a aF:Act}{l:List Oper}(n i0 i1 iv:Nat)(t0 tv:Tmp)(ty tb:TypeId)(old sv:Value)(hm:P.follows .mixedOrders=true)(hB:Region.lexTailB .any l.toArray n=true)
  (hX:boxB l.toArray n i0 i1 iv t0 tv ty=true) (run0:∀o,l[i0]?=some o→∀(a:Act) (W:World),(execOp a.eval o).run P W=.ok (.value (ptrB W.heap.size)) (W.alloc (.cells #[old] tb)))
  (ht0:t0<a.tmps.size) (hi:(P.info? ty).map (·.size)=some 1) (h1c:sv.oneCell'=true)
  (hd:(((l.take n).filter fun o=>!isSk o).all fun o=>match o.dst with|some t=>decide (t<a.tmps.size)|none=>false)=true) (hnd:(((l.take n).filter fun o=>!isSk o).map (·.dst)).Nodup)
  (walk:∀W,Ext w W→wpQuiet P l.toArray (fun w'=>∃x:Xt W,w'=x.world) (fun a'=>a'=aF) ((l.take n).filter fun o=>!isSk o) a)
  (hvF:aF.tmps[tv]?=some sv)
  (rest:∀(b:Nat) (W:World),Ext w W→w.heap.size≤b→W.heap[b]?=some (.cells #[sv] tb)→wpList P l.toArray Q (l.drop n) (aF.put (some t0) (ptrB b)) W):(Code.region id l.toArray true).wp P Q a w:=by
 simp only[Region.lexTailB,qba,decide_eq_true_eq]at hB;obtain⟨⟨⟨⟨hsel,hn⟩,hs⟩,hc⟩,hlex⟩:=hB
 have hn':n<l.length:=by simpa using hn
 have htl:(l.take n).length=n:=by simp;omega
 have hdl:(l.drop n).length=l.toArray.size-n:=by simp
 have inv0:HeadInv .any l.toArray n (Array.replicate l.toArray.size false):=
  ⟨by simp,fun j oj _ hl=>(by rw[getD_replicate_false]at hl;cases hl),fun t _ ht=>getD_in (by simpa using ht) (getD_replicate_false _ _)⟩
 simp only[boxB,qba,decide_eq_true_eq,List.all_eq_true]at hX;obtain⟨⟨⟨⟨⟨⟨hi0,hi1⟩,h01⟩,htv⟩,hX0⟩,hX1⟩,hXA⟩:=hX
 split at hX0
 case h_2=>cases hX0
 rename_i o0 ho0
 split at hX1
 case h_2=>cases hX1
 rename_i o1 ho1
 simp only[qba,decide_eq_true_eq,Option.isNone_iff_eq_none,Array.any_eq_true]at hX0 hX1;obtain⟨g0,d0⟩:=hX0;obtain⟨⟨⟨⟨g1,d1⟩,hop⟩,hea⟩,heb⟩:=hX1
 split at hop
 case h_2=>cases hop
 rename_i ty' x y op1
 simp only[qba,decide_eq_true_eq]at hop;obtain⟨⟨rfl,rfl⟩,rfl⟩:=hop
 have hX':∀(i:Nat) (o:Oper),i<n→l.toArray[i]?=some o→(isSk o=true→i=i0∨i=i1)∧(isSk o=false→i≠i0∧i≠i1∧x ∉ o.looksAt l.toArray∧o.dst≠some x∧(i≠iv→o.dst≠some y)):=fun i o hi ho=>by
  have:=hXA i (List.mem_range.2 hi)
  rw[ho]at this
  simp only at this
  refine⟨fun hal=>?_,fun hal=>?_⟩
  ·rw[hal,if_pos rfl]at this
   simpa only[Bool.or_eq_true,decide_eq_true_eq]using this
  ·rw[hal]at this
   simp only[Bool.false_eq_true,if_false,qba,Bool.or_eq_true,Bool.not_eq_true',decide_eq_true_eq,List.contains_eq_mem,decide_eq_false_iff_not]at this;obtain⟨⟨⟨⟨b1,b2⟩,b3⟩,b4⟩,b5⟩:=this
   exact⟨b1,b2,b3,b4,fun hne=>b5.resolve_left hne⟩
 have hR:=quiet_R (w:=w.drew) (P:=P) (ops:=l.toArray) (aF:=aF) ((l.take n).filter fun o=>!isSk o) a hd hnd (fun W hW=>walk W ((Ext.refl w).drew.trans hW))
 have H:=wpT_lex (sk:=isSk) (md:=.any) (w:=w.drew) (g:=l.toArray.size-n) hsel hs hc hn (l.take n) 0 _ a (fun j hj=>by
  have hj':j<n:=by rw[htl]at hj;exact hj
  simp[hj']) (by simpa using htl) inv0 (fun j hj=>absurd hj (Nat.not_lt_zero _)) (by rw[htl];exact hlex) hR
 have hz:∀j,j<n→(Array.replicate l.toArray.size false).getD j true=false:=fun j hj=>by
  have:j<l.toArray.size:=Nat.lt_trans hj hn
  exact getD_in (by simpa using this) (getD_replicate_false _ _)
 refine wp_region_any hm ?_
 have:=keb (Q':=Q) (g:=l.toArray.size-n) (sk:=isSk) (N:=a.tmps.size) (iv:=iv) (aF:=aF) h01 ho0 g0 d0 (run0 o0 (by simpa using ho0)) ho1 g1 op1 d1
  (by obtain⟨k,hk,he⟩:=hea;exact⟨_,Array.getElem_mem hk,he⟩)
  (by obtain⟨k,hk,he⟩:=heb;exact⟨_,Array.getElem_mem hk,he⟩)
  (fun i o hi ho hal=>(hX' i o hi ho).1 hal)
  (fun i o hi ho hal=>by
   obtain⟨b1,b2,b3,b4,b5⟩:=(hX' i o hi ho).2 hal
   exact⟨b1,b2,fun cs b=>Region.noSelect_spec hsel i o cs b ho,b3,b4,b5⟩)
  htv hvF ht0 hi h1c (fun listed a hL=>hL.2.2)
  (fun listed a' b W hI ⟨hL1,hL2,hL3⟩=>by
   subst hL3
   have e:actX i0 x listed b a'=a'.put (some x) (ptrB b):=by unfold actX;rw[if_pos (hL2 _ hi0)]
   obtain⟨y1,y2⟩:=hI.2.2 (hL2 _ hi0);rw[if_pos (hL2 _ hi1)]at y2
   have:=wpAny_of_seq (P:=P) (ops:=l.toArray) (md:=.any) (Q':=Q) (l.drop n) n listed (actX i0 x listed b a') W (fun j=>by simp[List.getElem?_drop]) (by rw[hdl];exact hL1) (by
    rw[e]
    exact rest b W ((Ext.refl w).drew.trans hI.1) y1 y2)
   rwa [hdl]at this) _ _ _ 0 w.drew rfl ⟨Ext.refl _,fun h=>(by rw[hz _ hi1]at h;cases h),fun h=>(by rw[hz _ hi0]at h;cases h)⟩ H
 have e:actX i0 x (Array.replicate l.toArray.size false) 0 a=a:=by unfold actX;rw[if_neg (by rw[hz _ hi0];simp)]
 rw[htl,show n+(l.toArray.size-n)=l.toArray.size by omega,e]at this
 exact this
end
end Go
namespace Go.Proofs.YtcgghcicnanliaaGreatDoor
open Go.RowKit
section
variable {P:Program}
theorem run_mapPush {mty kt et:TypeId}{d:TypeDesc}{w:World}{r clock:Nat}{es:Array MapEntry}{k val:Value}(hm:P.underlying mty=some (.map kt et))(hd:P.underlying kt=some d)(hk:MapKept.IsKey d k)(hb:w.heap[r]?=some (.map es clock))
  (hf:Instr.findNow d k es.toList 0=some none):(Instr.mapUpdate mty (.map (some r)) k val).run P w=.ok () { w with heap:=w.heap.setIfInBounds r (.map (es.push { key:=k,val:=val,born:=clock }) (clock+1)) }:=by
 simp[Instr.mapUpdate,run_underlying hm,MapKept.run_getObj_map hb,MapKept.run_checkKey hd hk,MapKept.run_findKey hd hf,MapKept.run_setObj_map _ hb,Result.andThen]
theorem run_mapFind {mty kt et:TypeId}{d:TypeDesc}{w:World}{r clock i:Nat}{es:Array MapEntry}{k val:Value}(hm:P.underlying mty=some (.map kt et))(hd:P.underlying kt=some d)(hk:MapKept.IsKey d k)(hb:w.heap[r]?=some (.map es clock))
  (hf:Instr.findNow d k es.toList 0=some (some (i,val))):(Instr.lookup mty (.map (some r)) k false).run P w=.ok val w:=by
 simp[Instr.lookup,run_underlying hm,MapKept.run_getObj_map hb,MapKept.run_checkKey hd hk,MapKept.run_findKey hd hf,Result.andThen]
theorem khl {mty kt et:TypeId}{d:TypeDesc}{w0 w:World}{r clock:Nat}{es:Array MapEntry}{k:Value}(val:Value)(hm:P.underlying mty=some (.map kt et))(hd:P.underlying kt=some d)(hk:MapKept.IsKey d k)(hE:Ext w0 w)(hr:w0.heap.size≤r)(hb:w.heap[r]?=some (.map es clock))
  (hf:Instr.findNow d k es.toList 0=some none):∃w',(Instr.mapUpdate mty (.map (some r)) k val).run P w=.ok () w'∧w'.heap[r]?=some (.map (es.push { key:=k,val:=val,born:=clock }) (clock+1))∧Ext w0 w':=by
 refine⟨_,run_mapPush hm hd hk hb hf,(MapKept.heap_set hb).1,hE.os,hE.tape,hE.output,?_,fun j hj=>?_⟩
 ·show w0.heap.size≤(w.heap.setIfInBounds _ _).size
  rw[Array.size_setIfInBounds]
  exact hE.len
 ·exact((MapKept.heap_set hb).2 j (by omega)).trans (hE.block j hj)
end
end Go.Proofs.YtcgghcicnanliaaGreatDoor
