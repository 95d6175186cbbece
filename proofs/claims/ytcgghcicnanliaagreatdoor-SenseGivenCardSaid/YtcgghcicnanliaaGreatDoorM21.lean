/- Walks: chart.areNamed at Beacon and at Line. Conditions: none. Walks: the reference of layer 15: Path. Conditions: none. -/
import Derived.Test.YtcgghcicnanliaaGreatDoorM20
import Derived.Maps.Own
import Derived.Maps.OwnOps
import Derived.Maps.Views
import Derived.Maps.OwnSet
import Derived.Maps.Keyed
set_option linter.unusedVariables false
set_option linter.unusedSimpArgs false
namespace Go.Proofs.YtcgghcicnanliaaGreatDoor
open Go.RowKit
set_option maxHeartbeats 2000000
set_option maxRecDepth 100000
structure BeaconT where
 id:Int
 at_:Pt
def kbl (b:BeaconT):List Value:=[.int .i64 b.id,.int .i64 b.at_.1,.int .i64 b.at_.2]
def kcc (w:World)(b n:Nat)(f:Int→Bool):Prop:=∃D:DataW Unit,w.ownsMap Tryz.prog 3 (plainElem Tryz.prog 4) b n D∧∀z,I64 z→D.atKey (.int .i64 z) (.lit (.bool false))=.lit (.bool (f z))
theorem keyed3:Maps.Keyed Tryz.prog 3:=Maps.int_keyed Tryz.underlying3
theorem wf_i64 {z:Int}(h:I64 z):(Lit.int .i64 z).wf=true:=by
 obtain⟨h1,h2⟩:=h
 simp[Lit.wf,IntKind.min,IntKind.max,IntKind.bits,IntKind.signed]
 omega
theorem kcc.new (w:World):kcc (w.alloc (.map #[] 0)) w.heap.size 0 (fun _=>false):=⟨.map [],World.ownsMap_made _ _ _ _,fun z _=>rfl⟩
theorem kcc.ext {w w':World}{b n:Nat}{f:Int→Bool}(h:kcc w b n f)(hx:Ext w w'):kcc w' b n f:=by
 obtain⟨D,⟨es,clock,hb,r⟩,hf⟩:=h
 exact⟨D,⟨es,clock,kaf hx hb,r⟩,hf⟩
theorem kcc.lt {w:World}{b n:Nat}{f:Int→Bool}(h:kcc w b n f):b<w.heap.size:=by
 obtain⟨D,hD,_⟩:=h
 exact hD.lt
theorem kcc.look {w:World}{b n:Nat}{f:Int→Bool}(h:kcc w b n f){z:Int}(hz:I64 z):(Instr.lookup 66 (.map (some b)) (.int .i64 z) false).run Tryz.prog w=.ok (.bool (f z)) w:=by
 obtain⟨D,hD,hf⟩:=h;obtain⟨v,ps,hrun,hv⟩:=hD.lookup keyed3 Tryz.underlying66 (Tryz.zeroValue4 w) (plainElem_bool Tryz.underlying4 false) (Maps.keyOf_int_mk Tryz.underlying3 (wf_i64 hz));rw[hf z hz]at hv;unfold plainElem at hv;rw[Tryz.underlying4]at hv
 cases v<;>simp at hv
 rw[hrun,hv.1]
theorem kcc.put {w:World}{b n:Nat}{f:Int→Bool}(h:kcc w b n f)(hn:n≤1000000){z:Int}(hz:I64 z):∃w',(Instr.mapUpdate 66 (.map (some b)) (.int .i64 z) (.bool true)).run Tryz.prog w=.ok () w'∧kcc w' b (n+1) (fun y=>f y||decide (z=y))∧w.grownBy w' (some b):=by
 obtain⟨D,hD,hf⟩:=h
 obtain⟨w',hrun,hD',hg⟩:=hD.update keyed3 Tryz.underlying66 (by simp[maxLen];omega) (Maps.keyOf_int_mk Tryz.underlying3 (wf_i64 hz)) (plainElem_bool Tryz.underlying4 true)
 refine⟨w',hrun,⟨_,hD',fun y hy=>?_⟩,hg⟩
 by_cases e:z=y
 ·subst e
  rw[Maps.atKey_put_same (k:=.int .i64 z) hD.isMap trivial]
  simp
 ·rw[Maps.atKey_put_other (by intro h;apply e;cases h;rfl),hf y hy]
  simp[e]
def kci {α : Type}(right:α→Bool)(id:α→Int)(l:List α)(j:Nat):Bool:=match l[j]? with
 | none=>true
 | some x=>right x&&!((l.take j).any fun y=>decide (id y=id x))
def kan {α : Type}(right:α→Bool)(id:α→Int)(most:Int)(l:List α):Bool:=(List.range l.length).all (kci right id l)&&decide ((l.length:Int)≤most)
theorem areNamed_90 (g1 g2:Nat)(e1:∀args w,(callFunc g1 args).run Tryz.prog w=.ok (.enter g1 args) w)(e2:∀args w,(callFunc g2 args).run Tryz.prog w=.ok (.enter g2 args) w)(hne:g1≠g2)(right:BeaconT→Bool)(id:BeaconT→Int)
  (A:Option Addr) (c:Nat) (l:List BeaconT) (most:Int) (w:World) (hl:l.length≤1000000) (hS:Sl kbl 3 w A l) (hid:∀x∈l,I64 (id x))
  (h1:∀W x,x∈l→Ext w W→Calls Tryz.prog g1 #[.agg (kbl x).toArray] W fun e w'=>e=.returned (.bool (right x))∧Ext W w')
  (h2:∀W x,x∈l→Ext w W→Calls Tryz.prog g2 #[.agg (kbl x).toArray] W fun e w'=>e=.returned (.int .i64 (id x))∧Ext W w') :
  Calls Tryz.prog 90 #[.slice A l.length c,.int .i64 most,.func (.func g1) #[] #[],.func (.func g2) #[] #[]] w fun e w'=>e=.returned (.bool (kan right id most l))∧Ext w w':=by
 have hmm:=@run_makeMap Tryz.prog;have HI:=Lib.hid hid;have H1:=Lib.hid h1;have H2:=Lib.hid h2;clear hid h1 h2
 have hmap:Hid (Ext w (w.alloc (.map #[] 0))∧kcc (w.alloc (.map #[] 0)) w.heap.size 0 (fun z=>(l.take 0).any fun y=>decide (id y=z))):=⟨(Ext.refl w).alloc _,kcc.new w⟩
 go_enter Tryz.func90,Tryz.ntmps90
 go_wp2
 go_loopg [11,15] l.length (fun gg _ s15 wr=>∃kk:Nat,kk≤l.length∧l.length-kk≤gg∧s15=.int .i64 kk∧Hid (Ext w wr∧kcc wr w.heap.size kk (fun z=>(l.take kk).any fun y=>decide (id y=z)))∧Hid (∀j,j<kk→kci right id l j=true))
 case atStart=>exact⟨0,Nat.zero_le _,by omega,rfl,hmap,fun j hj=>absurd hj (Nat.not_lt_zero _)⟩
 case round=>
  obtain⟨kk,hkk,hg,rfl,hx,H⟩:=hrel
  by_cases hlt:kk<l.length
  ·obtain⟨b,off,rfl⟩:=hS.addr (by omega)
   obtain⟨y,hy⟩:∃y,l[kk]?=some y:=⟨_,qgq hlt⟩;have hmem:=qmq hy
   have C1:=Lib.hid (fun W=>H1.out W y hmem)
   have C2:=Lib.hid (fun W=>H2.out W y hmem)
   have Iy:=Lib.hid (HI.out y hmem)
   have hat:Hid (kci right id l kk=(right y&&!((l.take kk).any fun z=>decide (id z=id y)))):=by show kci right id l kk=_;simp only[kci,hy]
   have htk:Hid (l.take (kk+1)=l.take kk++[y]):=by show l.take (kk+1)=_;rw[List.take_add_one,hy];rfl
   have hltz:(kk:Int)<(l.length:Int):=by omega
   have hbw:b<wr.heap.size:=Nat.lt_of_lt_of_le (hS.blk (by omega)) hx.out.1.len
   obtain⟨i1,⟨i2,i3⟩⟩:=y
   have c0:wr.cell? ⟨b,off+kk*3,none⟩=some (.int .i64 i1):=by have:=(hS.ext hx.out.1).at_ hy (i:=0) rfl;simpa using this
   have c1:wr.cell? ⟨b,off+kk*3+1,none⟩=some (.int .i64 i2):=by have:=(hS.ext hx.out.1).at_ hy (i:=1) rfl;simpa using this
   have c2:wr.cell? ⟨b,off+kk*3+2,none⟩=some (.int .i64 i3):=by have:=(hS.ext hx.out.1).at_ hy (i:=2) rfl;simpa using this
   clear hy hmem;generalize hqid:id ⟨i1,⟨i2,i3⟩⟩=ny at C2 Iy hat;have HQ:=Lib.hid hqid;clear hqid
   cases hq:right ⟨i1,⟨i2,i3⟩⟩ with
   | false=>
    rw[hq]at C1 hat
    go_wp2_with (go_at_fn g1;refine(C1.out _ (hx.out.1.alloc _)).mono ?_;rintro e w' ⟨rfl,hb'⟩)
    go_ret
    have hF:kan right id most l=false:=by
     unfold kan
     rw[kam hlt (by rw[hat.out];simp)];rfl
    exact⟨retb hF.symm,(hx.out.1.alloc _).trans hb'⟩
   | true=>
    rw[hq]at C1 hat
    obtain⟨f,hf0⟩:∃f,(fun z=>(l.take kk).any fun y=>decide (id y=z))=f:=⟨_,rfl⟩
    have hfn:Hid ((l.take kk).any (fun z=>decide (id z=ny))=f ny):=by show _=f ny;rw[←hf0]
    have hf:=Lib.hid hf0
    have NM:Hid (kcc wr w.heap.size kk f):=by show kcc wr _ kk f;rw[←hf0];exact hx.out.2
    have hxw:Ext w wr:=hx.out.1
    clear hf0
    cases hs:f ny with
    | true=>
     go_wp2_with (first
      | (go_at_fn g1;refine(C1.out _ xt).mono ?_;rintro e w' ⟨rfl,hb'⟩;obtain⟨hc1,hf1,hz1⟩:=hb'.rules;(try simp only[qsa]at hz1);have hz2:wr.heap.size<w'.heap.size:=by omega)
      | (go_at_fn g2;refine(C2.out _ xt).mono ?_;rintro e w2 ⟨rfl,hb2⟩;have hlk:=(kcc.ext (w':=w2) NM.out xt).look Iy.out;rw[hs]at hlk))
     go_ret
     have hF:kan right id most l=false:=by
      unfold kan
      rw[kam hlt (by rw[hat.out,hfn.out,hs];rfl)];rfl
     exact⟨retb hF.symm,xt⟩
    | false=>
     go_wp2_with (go_at_fn g1;refine(C1.out _ xt).mono ?_;rintro e w' ⟨rfl,hb'⟩;obtain⟨hc1,hf1,hz1⟩:=hb'.rules;(try simp only[qsa]at hz1);have hz2:wr.heap.size<w'.heap.size:=by omega)
     go_at_fn g2
     refine(C2.out _ xt).mono ?_
     rintro e w2 ⟨rfl,hb2⟩;have hlk:=(kcc.ext (w':=w2) NM.out xt).look Iy.out;rw[hs]at hlk;obtain⟨hc2,hf2,hz3⟩:=hb2.rules
     have hz4:wr.heap.size<w2.heap.size:=by omega
     go_wp2
     go_at_fn g2
     refine(C2.out _ xt).mono ?_
     rintro e w4 ⟨rfl,hb4⟩
     obtain⟨wu,hpu,hNU0,hgU0⟩:=(kcc.ext (w':=w4) NM.out xt).put (by omega) Iy.out
     have hNU:=Lib.hid (And.intro hNU0 hgU0);clear hNU0 hgU0
     have hEw:=Lib.hid (show Ext w w4 from xt)
     go_wp2
     go_roundg (l.length-(kk+1))
     case measure=>omega
     case rel=>
      refine⟨kk+1,by omega,by omega,by go_num,⟨hEw.out.grown hNU.out.2 (by intro k e;cases e;exact Nat.le_refl _),?_⟩,fun (j:Nat) (hj:j<kk+1)=>?_⟩
      ·have:=hNU.out.1
       rw[←hf.out]at this
       have e:(fun z=>(l.take (kk+1)).any fun y=>decide (id y=z))=(fun z=>(l.take kk).any (fun y=>decide (id y=z))||decide (ny=z)):=by
        funext z
        rw[htk.out,List.any_append,List.any_cons,List.any_nil,Bool.or_false,HQ.out]
       rw[e];exact this
      ·by_cases ej:j=kk
       ·subst ej
        rw[hat.out,hfn.out,hs];rfl
       ·exact H.out j (by omega)
  ·have hall:=kap (n:=l.length) (f:=kci right id l) (fun j hj=>H.out j (by omega))
   have hF:Hid (kan right id most l=decide ((l.length:Int)≤most)):=by show kan right id most l=_;unfold kan;rw[hall];rfl
   have hltz:¬ (kk:Int)<(l.length:Int):=by omega
   clear hall
   go_wp2
   go_ret
   exact⟨retb hF.out.symm,hx.out.1⟩
theorem areNamed_92 (g1 g2:Nat)(e1:∀args w,(callFunc g1 args).run Tryz.prog w=.ok (.enter g1 args) w)(e2:∀args w,(callFunc g2 args).run Tryz.prog w=.ok (.enter g2 args) w)(hne:g1≠g2)(right:LineT→Bool)(id:LineT→Int)
  (A:Option Addr) (c:Nat) (l:List LineT) (most:Int) (w:World) (hl:l.length≤1000000) (hS:Sl kbp 2 w A l) (hid:∀x∈l,I64 (id x))
  (h1:∀W x,x∈l→Ext w W→Calls Tryz.prog g1 #[.agg (kbp x).toArray] W fun e w'=>e=.returned (.bool (right x))∧Ext W w')
  (h2:∀W x,x∈l→Ext w W→Calls Tryz.prog g2 #[.agg (kbp x).toArray] W fun e w'=>e=.returned (.int .i64 (id x))∧Ext W w') :
  Calls Tryz.prog 92 #[.slice A l.length c,.int .i64 most,.func (.func g1) #[] #[],.func (.func g2) #[] #[]] w fun e w'=>e=.returned (.bool (kan right id most l))∧Ext w w':=by
 have hmm:=@run_makeMap Tryz.prog;have HI:=Lib.hid hid;have H1:=Lib.hid h1;have H2:=Lib.hid h2;clear hid h1 h2
 have hmap:Hid (Ext w (w.alloc (.map #[] 0))∧kcc (w.alloc (.map #[] 0)) w.heap.size 0 (fun z=>(l.take 0).any fun y=>decide (id y=z))):=⟨(Ext.refl w).alloc _,kcc.new w⟩
 go_enter Tryz.func92,Tryz.ntmps92
 go_wp2
 go_loopg [11,15] l.length (fun gg _ s15 wr=>∃kk:Nat,kk≤l.length∧l.length-kk≤gg∧s15=.int .i64 kk∧Hid (Ext w wr∧kcc wr w.heap.size kk (fun z=>(l.take kk).any fun y=>decide (id y=z)))∧Hid (∀j,j<kk→kci right id l j=true))
 case atStart=>exact⟨0,Nat.zero_le _,by omega,rfl,hmap,fun j hj=>absurd hj (Nat.not_lt_zero _)⟩
 case round=>
  obtain⟨kk,hkk,hg,rfl,hx,H⟩:=hrel
  by_cases hlt:kk<l.length
  ·obtain⟨b,off,rfl⟩:=hS.addr (by omega)
   obtain⟨y,hy⟩:∃y,l[kk]?=some y:=⟨_,qgq hlt⟩;have hmem:=qmq hy
   have C1:=Lib.hid (fun W=>H1.out W y hmem)
   have C2:=Lib.hid (fun W=>H2.out W y hmem)
   have Iy:=Lib.hid (HI.out y hmem)
   have hat:Hid (kci right id l kk=(right y&&!((l.take kk).any fun z=>decide (id z=id y)))):=by show kci right id l kk=_;simp only[kci,hy]
   have htk:Hid (l.take (kk+1)=l.take kk++[y]):=by show l.take (kk+1)=_;rw[List.take_add_one,hy];rfl
   have hltz:(kk:Int)<(l.length:Int):=by omega
   have hbw:b<wr.heap.size:=Nat.lt_of_lt_of_le (hS.blk (by omega)) hx.out.1.len
   obtain⟨i1,i2,i3,i4⟩:=y
   have c0:wr.cell? ⟨b,off+kk*2,none⟩=some (.int .i64 i1):=by have:=(hS.ext hx.out.1).at_ hy (i:=0) rfl;simpa using this
   have c1:wr.cell? ⟨b,off+kk*2+1,none⟩=some (.slice i2 i4.length i3):=by have:=(hS.ext hx.out.1).at_ hy (i:=1) rfl;simpa using this
   clear hy hmem;generalize hqid:id ⟨i1,i2,i3,i4⟩=ny at C2 Iy hat;have HQ:=Lib.hid hqid;clear hqid
   cases hq:right ⟨i1,i2,i3,i4⟩ with
   | false=>
    rw[hq]at C1 hat
    go_wp2_with (go_at_fn g1;refine(C1.out _ (hx.out.1.alloc _)).mono ?_;rintro e w' ⟨rfl,hb'⟩)
    go_ret
    have hF:kan right id most l=false:=by
     unfold kan
     rw[kam hlt (by rw[hat.out];simp)];rfl
    exact⟨retb hF.symm,(hx.out.1.alloc _).trans hb'⟩
   | true=>
    rw[hq]at C1 hat
    obtain⟨f,hf0⟩:∃f,(fun z=>(l.take kk).any fun y=>decide (id y=z))=f:=⟨_,rfl⟩
    have hfn:Hid ((l.take kk).any (fun z=>decide (id z=ny))=f ny):=by show _=f ny;rw[←hf0]
    have hf:=Lib.hid hf0
    have NM:Hid (kcc wr w.heap.size kk f):=by show kcc wr _ kk f;rw[←hf0];exact hx.out.2
    have hxw:Ext w wr:=hx.out.1
    clear hf0
    cases hs:f ny with
    | true=>
     go_wp2_with (first
      | (go_at_fn g1;refine(C1.out _ xt).mono ?_;rintro e w' ⟨rfl,hb'⟩;obtain⟨hc1,hf1,hz1⟩:=hb'.rules;(try simp only[qsa]at hz1);have hz2:wr.heap.size<w'.heap.size:=by omega)
      | (go_at_fn g2;refine(C2.out _ xt).mono ?_;rintro e w2 ⟨rfl,hb2⟩;have hlk:=(kcc.ext (w':=w2) NM.out xt).look Iy.out;rw[hs]at hlk))
     go_ret
     have hF:kan right id most l=false:=by
      unfold kan
      rw[kam hlt (by rw[hat.out,hfn.out,hs];rfl)];rfl
     exact⟨retb hF.symm,xt⟩
    | false=>
     go_wp2_with (go_at_fn g1;refine(C1.out _ xt).mono ?_;rintro e w' ⟨rfl,hb'⟩;obtain⟨hc1,hf1,hz1⟩:=hb'.rules;(try simp only[qsa]at hz1);have hz2:wr.heap.size<w'.heap.size:=by omega)
     go_at_fn g2
     refine(C2.out _ xt).mono ?_
     rintro e w2 ⟨rfl,hb2⟩;have hlk:=(kcc.ext (w':=w2) NM.out xt).look Iy.out;rw[hs]at hlk;obtain⟨hc2,hf2,hz3⟩:=hb2.rules
     have hz4:wr.heap.size<w2.heap.size:=by omega
     go_wp2
     go_at_fn g2
     refine(C2.out _ xt).mono ?_
     rintro e w4 ⟨rfl,hb4⟩
     obtain⟨wu,hpu,hNU0,hgU0⟩:=(kcc.ext (w':=w4) NM.out xt).put (by omega) Iy.out
     have hNU:=Lib.hid (And.intro hNU0 hgU0);clear hNU0 hgU0
     have hEw:=Lib.hid (show Ext w w4 from xt)
     go_wp2
     go_roundg (l.length-(kk+1))
     case measure=>omega
     case rel=>
      refine⟨kk+1,by omega,by omega,by go_num,⟨hEw.out.grown hNU.out.2 (by intro k e;cases e;exact Nat.le_refl _),?_⟩,fun (j:Nat) (hj:j<kk+1)=>?_⟩
      ·have:=hNU.out.1
       rw[←hf.out]at this
       have e:(fun z=>(l.take (kk+1)).any fun y=>decide (id y=z))=(fun z=>(l.take kk).any (fun y=>decide (id y=z))||decide (ny=z)):=by
        funext z
        rw[htk.out,List.any_append,List.any_cons,List.any_nil,Bool.or_false,HQ.out]
       rw[e];exact this
      ·by_cases ej:j=kk
       ·subst ej
        rw[hat.out,hfn.out,hs];rfl
       ·exact H.out j (by omega)
  ·have hall:=kap (n:=l.length) (f:=kci right id l) (fun j hj=>H.out j (by omega))
   have hF:Hid (kan right id most l=decide ((l.length:Int)≤most)):=by show kan right id most l=_;unfold kan;rw[hall];rfl
   have hltz:¬ (kk:Int)<(l.length:Int):=by omega
   clear hall
   go_wp2
   go_ret
   exact⟨retb hF.out.symm,hx.out.1⟩
open Go.Lib
theorem cpt_len_ne {l:List Pt}{j:Nat}(hj:j<l.length)(h:keeps l.toArray j=false):(cpt l).length≠l.length:=by
 have h1:(cpt l).length<l.length:=by
  unfold cpt compactUpTo;rw[List.length_map]
  have:=(List.length_filter_lt_length_iff_exists (p:=keeps l.toArray) (l:=List.range l.length)).2 ⟨j,List.mem_range.2 hj,by simp[h]⟩
  simpa using this
 omega
theorem keeps_at {l:List Pt}{m:Nat}{x y:Pt}(hx:l[m+1]?=some x)(hy:l[m]?=some y):keeps l.toArray (m+1)=!(decide (x.1=y.1)&&decide (x.2=y.2)):=by
 have e1:l.toArray[m+1]! = x:=by rw[getElem!_def];simp[hx]
 have e2:l.toArray[m]! = y:=by rw[getElem!_def];simp[hy]
 by_cases h:x.1=y.1∧x.2=y.2
 ·rw[keeps_neg (by omega) (by rw[show m+1-1=m by omega,e1,e2];exact Prod.ext h.1 h.2)]
  simp[h.1,h.2]
 ·rw[keeps_pos (by rw[show m+1-1=m by omega,e1,e2];intro e;apply h;rw[e];exact⟨rfl,rfl⟩)]
  symm
  simp only[Bool.not_eq_true',Bool.and_eq_false_iff,decide_eq_false_iff_not]
  omega
theorem path_168 (l:LineT)(w:World)(hS:Sl encP 2 w l.A l.pts) :
  Calls Tryz.prog 168 #[.agg (kbp l).toArray] w fun e w'=>e=.returned (.bool (kbw l))∧Ext w w':=by
 obtain⟨id,A,c,pts⟩:=l;simp only[kbp]at hS ⊢
 have hL:Hid (kbw ⟨id,A,c,pts⟩=(inB id 1 1000000&&inB pts.length 2 64&&(!(pts.any fun x=>!plB x)&&decide ((cpt pts).length=pts.length)))):=by
  show _=_
  have e1:decide ((2:Int)≤(pts.length:Int))=decide (2≤pts.length):=by rw[decide_eq_decide];omega
  have e2:decide ((pts.length:Int)≤64)=decide (pts.length≤64):=by rw[decide_eq_decide];omega
  simp only[kbw,inB,e1,e2,Bool.and_assoc]
 by_cases hq:inB id 1 1000000=true∧inB pts.length 2 64=true
 rotate_left
 ·have hF:Hid (kbw ⟨id,A,c,pts⟩=false):=by
   show _=_
   rw[hL.out]
   cases e1:inB id 1 1000000
   ·rfl
   ·cases e2:inB (pts.length:Int) 2 64
    ·rfl
    ·exact absurd ⟨e1,e2⟩ hq
  generalize hq1:inB id 1 1000000=q1 at hq hL;generalize hq2:inB (pts.length:Int) 2 64=q2 at hq hL
  have hq':q1=false∨(q1=true∧q2=false):=by cases q1<;>cases q2<;>simp_all
  clear hq hL
  rcases hq' with rfl|⟨rfl,rfl⟩
  all_goals
   go_enter Tryz.func168,Tryz.ntmps168
   go_wp2_with (go_at_call 167;refine(klf _ _ _ _).mono ?_;rintro e w' ⟨rfl,rfl⟩;try simp only[hq1,hq2])
   go_ret
   exact⟨retb hF.out.symm,xt⟩
 obtain⟨q1,q2⟩:=hq
 obtain⟨hl2,hl64⟩:2≤pts.length∧pts.length≤64:=by simp[inB]at q2;omega
 have hq1:=q1;have hq2:=q2;rw[q1,q2]at hL
 have hR:Hid (kbw ⟨id,A,c,pts⟩=(!(pts.any fun x=>!plB x)&&decide ((cpt pts).length=pts.length))):=by show _=_;rw[hL.out];rfl
 obtain⟨b,off,rfl⟩:=hS.addr (by omega)
 have hb:=hS.blk (by omega)
 clear hL q1 q2
 have hbox:Hid (Ext (w.alloc (.cells #[.int .i64 id,.slice (some ⟨b,off,none⟩) pts.length c] 93)) (w.alloc (.cells #[.int .i64 id,.slice (some ⟨b,off,none⟩) pts.length c] 93))):=Ext.refl _
 go_enter Tryz.func168,Tryz.ntmps168
 go_wp2_with (go_at_call 167;refine(klf _ _ _ _).mono ?_;rintro e w' ⟨rfl,rfl⟩;try simp only[hq1,hq2])
 go_loopg [3] pts.length (fun gg s3 wr=>∃kk:Nat,kk≤pts.length∧pts.length-kk≤gg∧s3=.int .i64 kk∧Hid (Ext (w.alloc (.cells #[.int .i64 id,.slice (some ⟨b,off,none⟩) pts.length c] 93)) wr)∧Hid ((∀j x,j<kk→pts[j]?=some x→plB x=true)∧(∀j,j<kk→keeps pts.toArray j=true)))
 case atStart=>exact⟨0,Nat.zero_le _,by omega,rfl,hbox,fun j x hj=>absurd hj (Nat.not_lt_zero _),fun j hj=>absurd hj (Nat.not_lt_zero _)⟩
 case round=>
  obtain⟨kk,hkk,hg,rfl,hx,H⟩:=hrel;obtain⟨hc,hf,hz⟩:=hx.out.rules;simp only[qsa]at hz
  have hz0:w.heap.size<wr.heap.size:=by omega
  have hxw:Ext w wr:=((Ext.refl w).alloc _).trans hx.out
  have hbw:b<wr.heap.size:=by omega
  clear hb
  by_cases hlt:kk<pts.length
  ·obtain⟨y,hy⟩:∃y,pts[kk]?=some y:=⟨_,qgq hlt⟩
   have Y:=Lib.hid hy;have K3:=Lib.hid (kji y)
   have hltz:(kk:Int)<(pts.length:Int):=by omega
   have hkb:(kk:Int)≤64:=by omega
   cases hp:plB y with
   | false=>
    have hF:Hid (kbw ⟨id,some ⟨b,off,none⟩,c,pts⟩=false):=by
     show _=_
     have:(pts.any fun x=>!plB x)=true:=by rw[List.any_eq_true];exact⟨y,qmq hy,by rw[hp];rfl⟩
     rw[hR.out,this];rfl
    rw[hp]at K3;obtain⟨y1,y2⟩:=y
    have c0:wr.cell? ⟨b,off+kk*2,none⟩=some (.int .i64 y1):=by have:=(hS.ext hxw).at_ hy (i:=0) rfl;simpa using this
    have c1:wr.cell? ⟨b,off+kk*2+1,none⟩=some (.int .i64 y2):=by have:=(hS.ext hxw).at_ hy (i:=1) rfl;simpa using this
    clear hy hp
    go_wp2_with fail
    (refine kad (by kernel_rfl) (by kernel_rfl) ?_;(repeat (first|go_big_quiet_step ((go_at_call 26;exact Xt.calls (K3.out _)))|quiet_step ((go_at_call 26;exact Xt.calls (K3.out _)))));refine wpQuiet_nil ?_;rintro _ ⟨xq,rfl⟩;have hx2:=xq.ext;generalize xq.world=w2 at hx2 ⊢)
    go_wp2
    go_ret
    exact⟨retb hF.out.symm,hxw.trans hx2⟩
   | true=>
    rw[hp]at K3;have HP:=Lib.hid hp;clear hp
    cases kk with
    | zero=>
     obtain⟨y1,y2⟩:=y
     have c0:wr.cell? ⟨b,off,none⟩=some (.int .i64 y1):=by have:=(hS.ext hxw).at_ hy (i:=0) rfl;simpa using this
     have c1:wr.cell? ⟨b,off+1,none⟩=some (.int .i64 y2):=by have:=(hS.ext hxw).at_ hy (i:=1) rfl;simpa using this
     clear hy
     go_wp2_with fail
     (refine kad (by kernel_rfl) (by kernel_rfl) ?_;(repeat (first|go_big_quiet_step ((go_at_call 26;exact Xt.calls (K3.out _)))|quiet_step ((go_at_call 26;exact Xt.calls (K3.out _)))));refine wpQuiet_nil ?_;rintro _ ⟨xq,rfl⟩;have hx2:=xq.ext;generalize xq.world=w2 at hx2 ⊢)
     go_wp2
     go_roundg (pts.length-1)
     case measure=>omega
     case rel=>
      refine⟨1,by omega,by omega,by go_num,hx.out.trans hx2,fun j x hj hjx=>?_,fun j hj=>?_⟩
      ·obtain rfl:j=0:=by omega
       have:=Y.out.symm.trans hjx
       cases this
       exact HP.out
      ·obtain rfl:j=0:=by omega
       exact keeps_lt_one _ 0 (by omega)
    | succ m=>
     obtain⟨q,hq⟩:∃q,pts[m]?=some q:=⟨_,qgq (by omega)⟩
     have hke:=Lib.hid (keeps_at hy hq);obtain⟨y1,y2⟩:=y;obtain⟨p1,p2⟩:=q
     have c0:wr.cell? ⟨b,off+(m+1)*2,none⟩=some (.int .i64 y1):=by have:=(hS.ext hxw).at_ hy (i:=0) rfl;simpa using this
     have c1:wr.cell? ⟨b,off+(m+1)*2+1,none⟩=some (.int .i64 y2):=by have:=(hS.ext hxw).at_ hy (i:=1) rfl;simpa using this
     have g0:wr.cell? ⟨b,off+m*2,none⟩=some (.int .i64 p1):=by have:=(hS.ext hxw).at_ hq (i:=0) rfl;simpa using this
     have g1:wr.cell? ⟨b,off+m*2+1,none⟩=some (.int .i64 p2):=by have:=(hS.ext hxw).at_ hq (i:=1) rfl;simpa using this
     have hm4:(m:Int)≤64:=by omega
     clear hy hq
     by_cases hdup:y1=p1∧y2=p2
     ·have hF:Hid (kbw ⟨id,some ⟨b,off,none⟩,c,pts⟩=false):=by
       show _=_
       rw[hR.out,decide_eq_false (cpt_len_ne hlt (by rw[hke.out];simp[hdup.1,hdup.2])),Bool.and_false]
      obtain⟨rfl,rfl⟩:=hdup
      go_wp2_with fail
      (refine kad (by kernel_rfl) (by kernel_rfl) ?_;(repeat (first|go_big_quiet_step ((go_at_call 26;exact Xt.calls (K3.out _)))|quiet_step ((go_at_call 26;exact Xt.calls (K3.out _)))));refine wpQuiet_nil ?_;rintro _ ⟨xq,rfl⟩;have hx2:=xq.ext;generalize xq.world=w2 at hx2 ⊢)
      go_wp2
      go_ret
      exact⟨retb hF.out.symm,hxw.trans hx2⟩
     ·have hk2:Hid (keeps pts.toArray (m+1)=true):=by
       show _=_
       rw[hke.out];simp only[Bool.not_eq_true',Bool.and_eq_false_iff,decide_eq_false_iff_not]
       omega
      have D:y1≠p1∨(y1=p1∧y2≠p2):=by omega
      have hNext:Hid ((∀j x,j<m+1+1→pts[j]?=some x→plB x=true)∧(∀j,j<m+1+1→keeps pts.toArray j=true)):=by
       refine⟨fun j x hj hjx=>?_,fun j hj=>?_⟩
       ·by_cases e:j=m+1
        ·subst e
         have:=Y.out.symm.trans hjx
         cases this
         exact HP.out
        ·exact H.out.1 j x (by omega) hjx
       ·by_cases e:j=m+1
        ·subst e;exact hk2.out
        ·exact H.out.2 j (by omega)
      clear hdup hke hk2
      rcases D with d|⟨rfl,d⟩
      all_goals
       go_wp2_with fail
       (refine kad (by kernel_rfl) (by kernel_rfl) ?_;(repeat (first|go_big_quiet_step ((go_at_call 26;exact Xt.calls (K3.out _)))|quiet_step ((go_at_call 26;exact Xt.calls (K3.out _)))));refine wpQuiet_nil ?_;rintro _ ⟨xq,rfl⟩;have hx2:=xq.ext;generalize xq.world=w2 at hx2 ⊢)
       go_wp2
       go_roundg (pts.length-(m+1+1))
       case measure=>omega
       case rel=>exact⟨m+1+1,by omega,by omega,by go_num,hx.out.trans hx2,hNext.out⟩
  ·have hltz:¬ (kk:Int)<(pts.length:Int):=by omega
   have hF:Hid (kbw ⟨id,some ⟨b,off,none⟩,c,pts⟩=true):=by
    show _=_
    have h1:(pts.any fun x=>!plB x)=false:=by
     rw[List.any_eq_false];intro x hx';obtain⟨j,hj,e⟩:=List.getElem_of_mem hx'
     rw[H.out.1 j x (by omega) (by rw[qgq hj,e])];simp
    have h2:cpt pts=pts:=cpt_all (fun j hj=>H.out.2 j (by omega))
    rw[hR.out,h1,h2,decide_eq_true rfl];rfl
   go_wp2
   go_ret
   exact⟨retb hF.out.symm,hxw⟩
end Go.Proofs.YtcgghcicnanliaaGreatDoor
