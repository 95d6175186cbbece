/- Walks: the reference of layer 15: beacons, lines, Path, frame, Valid; Words that stand in for calls; Words; Walks: the rounds of cut.sides; Words: three new variables, behind a world that grew since. Conditions: as each statement says. -/
import Derived.Test.YtcgghcicnanliaaGreatDoorM23
import Derived.ChangeKeysEq
import Derived.Shelf.Bits.Mul64
import Derived.Test.YtcgghcicnanliaaGreatDoorM17
set_option linter.unusedVariables false
set_option linter.unusedSimpArgs false
namespace Go.Proofs.YtcgghcicnanliaaGreatDoor
open Go.RowKit Go.Lib
set_option maxHeartbeats 2000000
set_option maxRecDepth 100000
theorem namedAt_eq {α : Type}{right:α→Bool}{id:α→Int}{l:List α}{k:Nat}{y:α}(hy:l[k]?=some y):kci right id l k=(right y&&!((l.take k).any fun z=>decide (id z=id y))):=by
 simp only[kci,hy]
theorem khw {α : Type}{f:α→Bool}{l:List α}{k:Nat}(h:∀j z,j<k→l[j]?=some z→f z=false):(l.take k).any f=false:=by
 rw[List.any_eq_false];intro z hz;obtain⟨j,hj,e⟩:=List.getElem_of_mem hz
 have hjk:j<k:=by simp at hj;omega
 have:=h j z hjk (by rw[←e,List.getElem_take,qgq];)
 simp[this]
theorem kiy {α : Type}{f:α→Bool}{l:List α}{k j:Nat}{z:α}(hj:j<k)(hz:l[j]?=some z)(hf:f z=true):(l.take k).any f=true:=by
 rw[List.any_eq_true]
 refine⟨z,?_,hf⟩
 exact qmq (i:=j) (by rw[List.getElem?_take,if_pos hj];exact hz)
theorem kov (A:Option Addr)(c:Nat)(l:List BeaconT)(w:World)(hS:Sl kbl 3 w A l) :
  Calls Tryz.prog 103 #[.slice A l.length c] w fun e w'=>e=.returned (.bool (kan kbh BeaconT.id 100 l))∧Ext w w':=by
 by_cases h100:l.length≤100
 rotate_left
 ·have hz:(100:Int)<(l.length:Int):=by omega
  have hF:Hid (kan kbh BeaconT.id 100 l=false):=by
   show _=_
   unfold kan
   rw[decide_eq_false (by omega),Bool.and_false]
  go_enter Tryz.func103,Tryz.ntmps103
  go_wp2
  go_ret
  exact⟨retb hF.out.symm,xt⟩
 have hz:¬ (100:Int)<(l.length:Int):=by omega
 go_enter Tryz.func103,Tryz.ntmps103
 go_wp2
 go_loopg [3,4] l.length (fun gg s3 _ wr=>∃kk:Nat,kk≤l.length∧l.length-kk≤gg∧s3=.int .i64 kk∧Hid (Ext w wr)∧Hid (∀j,j<kk→kci kbh BeaconT.id l j=true))
 case atStart=>exact⟨0,Nat.zero_le _,by omega,rfl,Ext.refl w,fun j hj=>absurd hj (Nat.not_lt_zero _)⟩
 case round=>
  obtain⟨kk,hkk,hg,rfl,hx,H⟩:=hrel
  have hxw:Ext w wr:=hx.out
  by_cases hlt:kk<l.length
  ·obtain⟨b,off,rfl⟩:=hS.addr (by omega)
   have hb:=hS.blk (by omega)
   have hbw:b<wr.heap.size:=by have:=hxw.len;omega
   obtain⟨y,hy⟩:∃y,l[kk]?=some y:=⟨_,qgq hlt⟩;have hat:=Lib.hid (namedAt_eq (right:=kbh) (id:=BeaconT.id) hy);obtain⟨i1,⟨i2,i3⟩⟩:=y;have K2:=Lib.hid (kji (i2,i3))
   have hok:Hid (kbh ⟨i1,(i2,i3)⟩=(inB i1 1 1000000&&plB (i2,i3))):=rfl
   generalize hq1:inB i1 1 1000000=q1 at hok;generalize plB (i2,i3)=q2 at K2 hok
   have CC:∀W,Ext w W→W.cell? ⟨b,off+kk*3,none⟩=some (.int .i64 i1)∧W.cell? ⟨b,off+kk*3+1,none⟩=some (.int .i64 i2)∧W.cell? ⟨b,off+kk*3+2,none⟩=some (.int .i64 i3):=fun W hW=>
    ⟨by have:=(hS.ext hW).at_ hy (i:=0) rfl;simpa using this,by have:=(hS.ext hW).at_ hy (i:=1) rfl;simpa using this,by have:=(hS.ext hW).at_ hy (i:=2) rfl;simpa using this⟩
   obtain⟨c0,c1,c2⟩:=CC wr hxw;have CH:=Lib.hid CC;clear CC hy
   have hltz:(kk:Int)<(l.length:Int):=by omega
   by_cases hq:q1=true∧q2=true
   ·obtain⟨rfl,rfl⟩:=hq
    go_wp2_with (first
     | (go_at_call 167;refine(klf _ _ _ _).mono ?_;rintro e w' ⟨rfl,rfl⟩;try simp only[hq1])
     | (go_at_call 26;refine(K2.out _).mono ?_;rintro e w1 ⟨rfl,hb1⟩))
    have hE1:Hid (Ext w w1):=xt
    clear c0 c1 c2
    go_loopg [4] kk (fun gg s4 wr=>∃m:Nat,m≤kk∧kk-m≤gg∧s4=.int .i64 m∧Hid (Ext w wr)∧Hid (∀j z,j<m→l[j]?=some z→decide (z.id=i1)=false))
    case atStart=>exact⟨0,Nat.zero_le _,by omega,rfl,hE1,fun j z hj=>absurd hj (Nat.not_lt_zero _)⟩
    case round=>
     obtain⟨m,hm,hg2,rfl,hx2',H2⟩:=hrel
     have hxq:Ext w wr:=hx2'.out
     obtain⟨d0,d1,d2⟩:=CH.out _ hxq
     have hbq:b<wr.heap.size:=by have:=hxq.len;omega
     by_cases hmk:m<kk
     ·obtain⟨z,hz'⟩:∃z,l[m]?=some z:=⟨_,qgq (by omega)⟩
      have Z:=Lib.hid hz';obtain⟨z1,⟨z2,z3⟩⟩:=z
      have e0:wr.cell? ⟨b,off+m*3,none⟩=some (.int .i64 z1):=by have:=(hS.ext hxq).at_ hz' (i:=0) rfl;simpa using this
      have hmz:(m:Int)<(l.length:Int):=by omega
      have hmkz:(m:Int)<(kk:Int):=by omega
      clear hz'
      by_cases heq:z1=i1
      ·have hF:Hid (kan kbh BeaconT.id 100 l=false):=by
        show _=_
        unfold kan
        rw[kam hlt (by rw[hat.out,hok.out,kiy hmk Z.out (by simpa using heq)];rfl)];rfl
       subst heq
       go_wp2_with fail
       (refine kad (by kernel_rfl) (by kernel_rfl) ?_;(repeat (first|go_big_quiet_step (fail)|quiet_step (fail)));refine wpQuiet_nil ?_;rintro _ ⟨xq,rfl⟩;have hx2:=xq.ext;generalize xq.world=w2 at hx2 ⊢)
       go_wp2
       go_ret
       exact⟨retb hF.out.symm,hxq.trans hx2⟩
      ·have heb:(z1 == i1)=false:=by simpa using heq
       go_wp2_with fail
       (refine kad (by kernel_rfl) (by kernel_rfl) ?_;(repeat (first|go_big_quiet_step (fail)|quiet_step (fail)));refine wpQuiet_nil ?_;rintro _ ⟨xq,rfl⟩;have hx2:=xq.ext;generalize xq.world=w2 at hx2 ⊢)
       go_wp2
       go_roundg (kk-(m+1))
       case measure=>omega
       case rel=>
        refine⟨m+1,by omega,by omega,by go_num,hxq.trans hx2,fun j z hj hjz=>?_⟩
        by_cases e:j=m
        ·subst e
         have:=Z.out.symm.trans hjz
         cases this
         simpa using heq
        ·exact H2.out j z (by omega) hjz
     ·have hmkz:¬ (m:Int)<(kk:Int):=by omega
      go_wp2
      go_roundg (l.length-(kk+1))
      case measure=>omega
      case rel=>
       refine⟨kk+1,by omega,by omega,by go_num,hxq,fun (j:Nat) (hj:j<kk+1)=>?_⟩
       by_cases ej:j=kk
       ·subst ej
        rw[hat.out,hok.out,khw (fun j z hj hz=>H2.out j z (by omega) hz)];rfl
       ·exact H.out j (by omega)
   ·have hF:Hid (kan kbh BeaconT.id 100 l=false):=by
     show _=_
     unfold kan
     rw[kam hlt (by rw[hat.out,hok.out];cases q1<;>cases q2<;>simp_all)];rfl
    have hq':q1=false∨(q1=true∧q2=false):=by cases q1<;>cases q2<;>simp_all
    rcases hq' with rfl|⟨rfl,rfl⟩
    all_goals
     go_wp2_with (first
      | (go_at_call 167;refine(klf _ _ _ _).mono ?_;rintro e w' ⟨rfl,rfl⟩;try simp only[hq1])
      | (go_at_call 26;refine(K2.out _).mono ?_;rintro e w1 ⟨rfl,hb1⟩))
     go_ret
     exact⟨retb hF.out.symm,xt⟩
  ·have hltz:¬ (kk:Int)<(l.length:Int):=by omega
   have hF:Hid (kan kbh BeaconT.id 100 l=true):=by
    show _=_
    unfold kan
    rw[kap (n:=l.length) (f:=kci kbh BeaconT.id l) (fun j hj=>H.out j (by omega)),decide_eq_true (by omega)];rfl
   go_wp2
   go_ret
   exact⟨retb hF.out.symm,hx.out⟩
end Go.Proofs.YtcgghcicnanliaaGreatDoor
namespace Go.Ev
open Go.Proofs
noncomputable section
def i (n:Int):Value:=.int .i64 n
def S (k o n m:Nat):Value:=.slice (some ⟨k,o,none⟩) n m
def Q (k o:Nat):Value:=.pointer (some ⟨k,o,none⟩)
def A (l:List Value):Value:=.agg l.toArray
def Tu (l:List Value):Value:=.tuple l.toArray
def pp (l:List (Int × Int)):List Value:=List.rec (motive:=fun _=>List Value) [] (fun p _ ih=>i p.1::i p.2::ih) l
def Z (k n:Nat):Value:=.slice (some ⟨k,0,some 0⟩) n n
def p0q:List Value:=pp [(188,17),(189,0),(211,0),(209,22),(208,22),(188,18)]
def p1q:List Value:=pp [(183,34),(188,17),(189,17),(209,21),(209,22),(206,32),(202,43),(201,43),(183,35)]
def p2q:List Value:=pp [(174,49),(183,34),(184,34),(202,42),(202,43),(198,52),(192,62),(191,62),(174,50)]
def p3q:List Value:=pp [(163,63),(174,49),(175,49),(192,61),(192,62),(186,70),(178,78),(177,78),(163,64)]
def p4q:List Value:=pp [(149,74),(163,63),(164,63),(178,77),(178,78),(170,86),(162,92),(161,92),(149,75)]
def p5q:List Value:=pp [(134,83),(149,74),(150,74),(162,91),(162,92),(152,98),(143,102),(142,102),(134,84)]
def p6q:List Value:=pp [(117,88),(134,83),(135,83),(143,101),(143,102),(132,106),(122,109),(121,109),(117,89)]
def p7q:List Value:=pp [(100,89),(117,88),(118,88),(122,108),(122,109),(100,111)]
def p8q:List Value:=pp [(78,108),(82,88),(83,88),(100,89),(100,111),(78,109)]
def p9q:List Value:=pp [(57,101),(65,83),(66,83),(83,88),(83,89),(79,109),(78,109),(68,106),(57,102)]
def p10q:List Value:=pp [(38,91),(50,74),(51,74),(66,83),(66,84),(58,102),(57,102),(48,98),(38,92)]
def p11q:List Value:=pp [(22,77),(36,63),(37,63),(51,74),(51,75),(39,92),(38,92),(30,86),(22,78)]
def p12q:List Value:=pp [(8,61),(25,49),(26,49),(37,63),(37,64),(23,78),(22,78),(14,70),(8,62)]
def p13q:List Value:=pp [(-2,42),(16,34),(17,34),(26,49),(26,50),(9,62),(8,62),(2,52),(-2,43)]
def p14q:List Value:=pp [(-9,21),(11,17),(12,17),(17,34),(17,35),(-1,43),(-2,43),(-6,32),(-9,22)]
def p15q:List Value:=pp [(-11,0),(11,0),(12,17),(12,18),(-8,22),(-9,22)]
def p16q:List Value:=pp [(-11,0),(-9,-22),(-8,-22),(12,-18),(12,-17),(11,0)]
def p17q:List Value:=pp [(-9,-22),(-6,-32),(-2,-43),(-1,-43),(17,-35),(17,-34),(12,-17),(11,-17),(-9,-21)]
def p18q:List Value:=pp [(-2,-43),(2,-52),(8,-62),(9,-62),(26,-50),(26,-49),(17,-34),(16,-34),(-2,-42)]
def p19q:List Value:=pp [(8,-62),(14,-70),(22,-78),(23,-78),(37,-64),(37,-63),(26,-49),(25,-49),(8,-61)]
def p20q:List Value:=pp [(22,-78),(30,-86),(38,-92),(39,-92),(51,-75),(51,-74),(37,-63),(36,-63),(22,-77)]
def p21q:List Value:=pp [(38,-92),(48,-98),(57,-102),(58,-102),(66,-84),(66,-83),(51,-74),(50,-74),(38,-91)]
def p22q:List Value:=pp [(57,-102),(68,-106),(78,-109),(79,-109),(83,-89),(83,-88),(66,-83),(65,-83),(57,-101)]
def p23q:List Value:=pp [(78,-109),(100,-111),(100,-89),(83,-88),(82,-88),(78,-108)]
def p24q:List Value:=pp [(100,-111),(122,-109),(122,-108),(118,-88),(117,-88),(100,-89)]
def p25q:List Value:=pp [(117,-89),(121,-109),(122,-109),(132,-106),(143,-102),(143,-101),(135,-83),(134,-83),(117,-88)]
def p26q:List Value:=pp [(134,-84),(142,-102),(143,-102),(152,-98),(162,-92),(162,-91),(150,-74),(149,-74),(134,-83)]
def p27q:List Value:=pp [(149,-75),(161,-92),(162,-92),(170,-86),(178,-78),(178,-77),(164,-63),(163,-63),(149,-74)]
def p28q:List Value:=pp [(163,-64),(177,-78),(178,-78),(186,-70),(192,-62),(192,-61),(175,-49),(174,-49),(163,-63)]
def p29q:List Value:=pp [(174,-50),(191,-62),(192,-62),(198,-52),(202,-43),(202,-42),(184,-34),(183,-34),(174,-49)]
def p30q:List Value:=pp [(183,-35),(201,-43),(202,-43),(206,-32),(209,-22),(209,-21),(189,-17),(188,-17),(183,-34)]
def p31q:List Value:=pp [(188,-18),(208,-22),(209,-22),(211,0),(189,0),(188,-17)]
def p32q:List Value:=pp [(0,0),(49,0),(49,49),(0,49)]
def p33q:List Value:=pp [(88,17),(89,0),(111,0),(109,22),(108,22),(88,18)]
def p34q:List Value:=pp [(83,34),(88,17),(89,17),(109,21),(109,22),(106,32),(102,43),(101,43),(83,35)]
def p35q:List Value:=pp [(74,49),(83,34),(84,34),(102,42),(102,43),(98,52),(92,62),(91,62),(74,50)]
def p36q:List Value:=pp [(63,63),(74,49),(75,49),(92,61),(92,62),(86,70),(78,78),(77,78),(63,64)]
def p37q:List Value:=pp [(49,74),(63,63),(64,63),(78,77),(78,78),(70,86),(62,92),(61,92),(49,75)]
def p38q:List Value:=pp [(34,83),(49,74),(50,74),(62,91),(62,92),(52,98),(43,102),(42,102),(34,84)]
def p39q:List Value:=pp [(17,88),(34,83),(35,83),(43,101),(43,102),(32,106),(22,109),(21,109),(17,89)]
def p40q:List Value:=pp [(0,89),(17,88),(18,88),(22,108),(22,109),(0,111)]
def p41q:List Value:=pp [(-22,108),(-18,88),(-17,88),(0,89),(0,111),(-22,109)]
def p42q:List Value:=pp [(-43,101),(-35,83),(-34,83),(-17,88),(-17,89),(-21,109),(-22,109),(-32,106),(-43,102)]
def p43q:List Value:=pp [(-62,91),(-50,74),(-49,74),(-34,83),(-34,84),(-42,102),(-43,102),(-52,98),(-62,92)]
def p44q:List Value:=pp [(-78,77),(-64,63),(-63,63),(-49,74),(-49,75),(-61,92),(-62,92),(-70,86),(-78,78)]
def p45q:List Value:=pp [(-92,61),(-75,49),(-74,49),(-63,63),(-63,64),(-77,78),(-78,78),(-86,70),(-92,62)]
def p46q:List Value:=pp [(-102,42),(-84,34),(-83,34),(-74,49),(-74,50),(-91,62),(-92,62),(-98,52),(-102,43)]
def p47q:List Value:=pp [(-109,21),(-89,17),(-88,17),(-83,34),(-83,35),(-101,43),(-102,43),(-106,32),(-109,22)]
def p48q:List Value:=pp [(-111,0),(-89,0),(-88,17),(-88,18),(-108,22),(-109,22)]
def p49q:List Value:=pp [(-111,0),(-109,-22),(-108,-22),(-88,-18),(-88,-17),(-89,0)]
def p50q:List Value:=pp [(-109,-22),(-106,-32),(-102,-43),(-101,-43),(-83,-35),(-83,-34),(-88,-17),(-89,-17),(-109,-21)]
def p51q:List Value:=pp [(-102,-43),(-98,-52),(-92,-62),(-91,-62),(-74,-50),(-74,-49),(-83,-34),(-84,-34),(-102,-42)]
def p52q:List Value:=pp [(-92,-62),(-86,-70),(-78,-78),(-77,-78),(-63,-64),(-63,-63),(-74,-49),(-75,-49),(-92,-61)]
def p53q:List Value:=pp [(-78,-78),(-70,-86),(-62,-92),(-61,-92),(-49,-75),(-49,-74),(-63,-63),(-64,-63),(-78,-77)]
def p54q:List Value:=pp [(-62,-92),(-52,-98),(-43,-102),(-42,-102),(-34,-84),(-34,-83),(-49,-74),(-50,-74),(-62,-91)]
def p55q:List Value:=pp [(-43,-102),(-32,-106),(-22,-109),(-21,-109),(-17,-89),(-17,-88),(-34,-83),(-35,-83),(-43,-101)]
def p56q:List Value:=pp [(-22,-109),(0,-111),(0,-89),(-17,-88),(-18,-88),(-22,-108)]
def p57q:List Value:=pp [(0,-111),(22,-109),(22,-108),(18,-88),(17,-88),(0,-89)]
def p58q:List Value:=pp [(17,-89),(21,-109),(22,-109),(32,-106),(43,-102),(43,-101),(35,-83),(34,-83),(17,-88)]
def p59q:List Value:=pp [(34,-84),(42,-102),(43,-102),(52,-98),(62,-92),(62,-91),(50,-74),(49,-74),(34,-83)]
def p60q:List Value:=pp [(49,-75),(61,-92),(62,-92),(70,-86),(78,-78),(78,-77),(64,-63),(63,-63),(49,-74)]
def p61q:List Value:=pp [(63,-64),(77,-78),(78,-78),(86,-70),(92,-62),(92,-61),(75,-49),(74,-49),(63,-63)]
def p62q:List Value:=pp [(74,-50),(91,-62),(92,-62),(98,-52),(102,-43),(102,-42),(84,-34),(83,-34),(74,-49)]
def p63q:List Value:=pp [(83,-35),(101,-43),(102,-43),(106,-32),(109,-22),(109,-21),(89,-17),(88,-17),(83,-34)]
def p64q:List Value:=pp [(88,-18),(108,-22),(109,-22),(111,0),(89,0),(88,-17)]
theorem good_recF {P:Program}{orc}(hm:P.follows .mixedOrders=true)(hO:OrcOk (khp P orc) P){r:Rec}{n:Nat}(hr:kow r (evF (khp P orc) P n (.call r.f r.args r.start))=true):Good P r.f (kaa r):=
 good_rec hm hO (n:=n) (by rw[←evF_eq];exact hr)
theorem mixedP:Tryz.prog.follows .mixedOrders=true:=by kernel_rfl
def okB (W:List (FuncId × Word))(r:Rec):Bool:=kow r (evF (khp Tryz.prog (orcL W)) Tryz.prog 100000 (.call r.f r.args r.start))
theorem good_ok {W:List (FuncId × Word)}(hW:∀x∈W,Good Tryz.prog x.1 x.2){r:Rec}(h:okB W r=true):Good Tryz.prog r.f (kaa r):=good_recF mixedP (orcL_ok hW) h
theorem gd {W:List (FuncId × Word)}{r:Rec}{l:List Rec}(hW:∀x∈W,Good Tryz.prog x.1 x.2)(h:l.all (okB W)=true)(k:Nat)(hk:l[k]?=some r:=by rfl):Good Tryz.prog r.f (kaa r):=good_ok hW (List.all_eq_true.1 h r (List.mem_of_getElem? hk))
theorem all_hd {W:List (FuncId × Word)}{r:Rec}{l:List Rec}(h:(r::l).all (okB W)=true):okB W r=true:=by rw[List.all_cons,Bool.and_eq_true]at h;exact h.1
theorem all_tl {W:List (FuncId × Word)}{r:Rec}{l:List Rec}(h:(r::l).all (okB W)=true):l.all (okB W)=true:=by rw[List.all_cons,Bool.and_eq_true]at h;exact h.2
def orIf (c:List Value→Hp→Bool)(g k:Word):Word:=fun args h=>Bool.rec (motive:=fun _=>Option (Value × Hp)) (k args h) (g args h) (c args h)
theorem Good.ite {P:Program}{f:FuncId}{c}{g k:Word}(hg:Good P f g)(hk:Good P f k):Good P f (orIf c g k):=by
 refine⟨hg.1,fun T ht args h v h' he=>?_⟩
 unfold orIf at he
 cases hc:c args h with
 | true=>rw[hc]at he;exact hg.2 T ht args h v h' he
 | false=>rw[hc]at he;exact hk.2 T ht args h v h' he
def keyC (l:List Value):Int:=match l with
 | x::y::_=>match intV x,intV y with
  | some a,some b=>iadd (imul a 2000003) b
  | _,_=>0
 | _=>0
def keyB (b:Option Blk)(o:Nat):Int:=match b with
 | some (.cells c _ _)=>keyC (ldrop c o)
 | _=>0
def keyS (args:List Value)(h:Hp):Int:=match args with
 | v::_=>match slcV v with
  | some (a,_)=>keyB (gT h.tr a.block) a.off
  | none=>0
 | []=>0
def ltK (m:Int)(args:List Value)(h:Hp):Bool:=gl (keyS args h) m
end
end Go.Ev
namespace Go.Proofs.YtcgghcicnanliaaGreatDoor
open Go.RowKit Go.Lib
set_option maxHeartbeats 4000000
set_option maxRecDepth 100000
def LG {α : Type}(enc:α→List Value)(T k B:Nat)(W:World)(v:Value)(l:List α):Prop:=W.ownsRow B T k v l.length (l.flatMap enc)
section
variable {α : Type} {enc:α→List Value} {T k B:Nat} {W W':World} {v:Value} {l:List α}
theorem LG.nil (enc:α→List Value)(T k B:Nat)(W:World):LG enc T k B W (.slice none 0 0) []:=World.ownsRow_nil W B T k
theorem LG.ext (h:LG enc T k B W v l)(hx:Ext W W'):LG enc T k B W' v l:=by
 refine⟨h.1,?_⟩
 rcases h.2 with h2|⟨g,cap,cur,h1,h2,h3,h4⟩
 ·exact .inl h2
 ·exact .inr ⟨g,cap,cur,h1,h2,(hx.block _ (qaz h3).1).trans h3,h4⟩
theorem LG.base {B':Nat}(h:LG enc T k B W v l)(hb:B'≤B):LG enc T k B' W v l:=by
 refine⟨h.1,?_⟩
 rcases h.2 with h2|⟨g,cap,cur,h1,h2,h3,h4⟩
 ·exact .inl h2
 ·exact .inr ⟨g,cap,cur,h1,by omega,h3,h4⟩
theorem LG.own (h:LG enc T k B W v l):∀j,v.ownBlock=some j→B≤j∧j<W.heap.size:=fun j e=>World.ownsRow.lt h j e
theorem LG.reads (h:LG enc T k B W v l)(hk:∀x,(enc x).length=k):∃A c,v=.slice A l.length c∧Sl enc k W A l∧l.length≤c:=by
 have h0:=h
 rcases h.2 with ⟨rfl,h2⟩|⟨g,cap,cur,rfl,h2,h3,h4,h5,h6,h7⟩
 ·exact⟨none,0,by rw[h2],by rw[List.eq_nil_of_length_eq_zero h2];exact Sl.nil,by omega⟩
 ·refine⟨_,_,rfl,fun _=>⟨g,0,rfl,(qaz h3).1,fun j x i v hj hi=>?_⟩,h4⟩
  have:=World.ownsRow.cells h0 (g:=g) rfl (j*k+i) v (getElem?_rows hk l j i x v hj hi)
  rw[Addr.add_lit]at this
  rwa [Nat.add_assoc]
theorem LG.kept {row:Option Nat}(h:LG enc T k B W v l)(hg:W.grownBy W' row)(hr:∀k,row=some k→∃o:Obj,W.heap[k]?=some o∧o.isCells=false):LG enc T k B W' v l:=by
 refine⟨h.1,?_⟩
 rcases h.2 with h2|⟨g,cap,cur,h1,h2,h3,h4⟩
 ·exact .inl h2
 ·exact .inr ⟨g,cap,cur,h1,h2,(hg.block g (qaz h3).1 (fun e=>by obtain⟨o,ho,hc⟩:=hr g e.symm;rw[h3]at ho;cases ho;cases hc)).trans h3,h4⟩
theorem LG.apart (h:LG enc T k B W v l){b:Nat}{xs:Array Value}{t:TypeId}{fr:Nat × Nat}(hb:W.heap[b]?=some (.cells xs t fr))(ht:t≠T):some b≠v.ownBlock:=by
 rcases h.2 with ⟨rfl,_⟩|⟨g,cap,cur,rfl,h2,h3,_⟩
 ·simp[Value.ownBlock]
 ·simp only[Value.ownBlock]
  intro e;cases e;rw[hb]at h3;cases h3
  exact ht rfl
theorem LG.other (h:LG enc T k B W v l)(hg:W.grownBy W' v.ownBlock){b:Nat}{xs:Array Value}{t:TypeId}{fr:Nat × Nat}(hb:W.heap[b]?=some (.cells xs t fr))(ht:t≠T):W'.heap[b]?=some (.cells xs t fr):=
 (hg.block b (qaz hb).1 (h.apart hb ht)).trans hb
theorem LG.setCell (h:LG enc T k B W v l){p:Addr}(hp:∀j,v.ownBlock=some j→j≠p.block)(u:Value):LG enc T k B (W.setCell p u) v l:=by
 refine⟨h.1,?_⟩
 rcases h.2 with h2|⟨g,cap,cur,rfl,h2,h3,h4⟩
 ·exact .inl h2
 ·exact .inr ⟨g,cap,cur,rfl,h2,(Below.heap_setCell _ _ _ _ (hp g rfl)).trans h3,h4⟩
theorem LG.take {A:Option Addr}{m c:Nat}(h:LG enc T k B W (.slice A m c) l)(hk:∀x,(enc x).length=k){n:Nat}(hn:n≤l.length)(h0:A≠none):LG enc T k B W (.slice A n c) (l.take n):=by
 have e1:(l.take n).length=n:=by rw[List.length_take];omega
 unfold LG;rw[e1]
 refine⟨?_,?_⟩
 ·have:∀l:List α,(l.flatMap enc).length=l.length*k:=fun l=>by
   induction l with
   | nil=>simp
   | cons x l ih=>rw[List.flatMap_cons,List.length_append,hk,ih,List.length_cons,Nat.succ_mul];omega
  rw[this,e1]
 ·rcases h.2 with ⟨h2,_⟩|⟨g,cap,cur,hv,h2,h3,h4,h5,h6,h7⟩
  ·cases h2;exact absurd rfl h0
  ·cases hv
   refine .inr ⟨g,c,cur,rfl,h2,h3,by omega,h5,h6,?_⟩
   have h8:∀l:List α,n≤l.length→(l.flatMap enc).take (n*k)=(l.take n).flatMap enc:=by
    clear h7 h3 h4 h6 h2 h5 e1 hn h h0
    induction n with
    | zero=>intro l _;simp
    | succ n ih=>
     intro l hl
     cases l with
     | nil=>simp at hl
     | cons x l=>
      rw[List.flatMap_cons,List.take_succ_cons,List.flatMap_cons,List.take_append,hk,List.take_of_length_le (by rw[hk,Nat.succ_mul];omega),←ih l (by simpa using hl)]
      congr 2
      rw[Nat.succ_mul];omega
   rw[←h8 l hn,←h7,List.take_take]
   congr 1
   have:=Nat.mul_le_mul_right k hn
   omega
end
theorem kgu {P:Program}(w:World)(base:Nat)(t ty e:TypeId)(i:TypeInfo)(z:Value)(size bytes:Nat)(ht:P.underlying t=some (.slice e))(hi:P.info? e=some i)(hz:i.zero=some z)
  (hsize:i.size=size) (hby:i.bytes=bytes) (hzs:z.cells.size=size) (hsz:0<size)
  (v:Value) (n:Nat) (xs:List Value) (hown:w.ownsRow base e size v n xs)
  (a:Addr) (m c:Nat) (news:List Value) (hl:news.length=m*size) (hnews:∀j u,news[j]?=some u→w.cell? (a.add j)=some u) (h1:∀u∈news,u.oneCell'=true)
  (h63:n+m≤maxLen) (hbytes:(n+m)*bytes≤140737488355328) (hbase:base≤w.heap.size) :
  ∃v' w',(Builtin.append_ #[t,t] ty #[v,.slice (some a) m c]).run P w=.ok v' w'∧w'.ownsRow base e size v' (n+m) (xs++news)∧w.grownBy w' v.ownBlock ∧
   (v'=.slice none 0 0↔v=.slice none 0 0∧m=0)∧(∀j,v'.ownBlock=some j→v.ownBlock=some j∨w.heap.size≤j):=by
 obtain⟨v',w',hr,h2,h3,h4⟩:=run_append_own (P:=P) w base t ty e i z size bytes ht hi hz hsize hby hzs hsz v n xs hown a m c news hl hnews h1 h63 hbytes hbase
 refine⟨v',w',hr,h2,h3,h4,fun j hj=>?_⟩
 subst hsize
 have hsmall:n+m≤9223372036854775807:=by simp only[maxLen]at h63;omega
 rcases hown.2 with ⟨rfl,rfl⟩|⟨g,cap,cur,rfl,hbg,hg,hnc,hcm,hcs,htake⟩
 ·have hx:xs=[]:=List.eq_nil_of_length_eq_zero (by simpa using hown.1)
  subst hx
  by_cases hm:m=0
  ·rw[h4.2 ⟨rfl,hm⟩]at hj;simp[Value.ownBlock]at hj
  ·have hr2:=run_append_nil (P:=P) w t ty e i z ht hi hz a m c news hl hnews (by omega) (by omega) (by have hb:=hbytes;simp only[Nat.zero_add]at hb;rw[hby];omega)
   rw[hr]at hr2;cases hr2
   simp[Value.ownBlock]at hj
   exact .inr (by omega)
 ·by_cases hroom:n+m≤cap
  ·have hfit:n*i.size+news.length≤cur.size:=by rw[hl,hcs,←Nat.add_mul];exact Nat.mul_le_mul_right _ hroom
   have hr2:=run_append_room (P:=P) w t ty e i ht hi g n cap cur hg a m c news hl hnews h1 hroom hfit;rw[hr]at hr2;cases hr2
   exact .inl hj
  ·have holds:∀j u,xs[j]?=some u→w.cell? ((⟨g,0,none⟩:Addr).add j)=some u:=hown.cells (g:=g) rfl
   have hr2:=run_append_grow (P:=P) w t ty e i z ht hi hz ⟨g,0,none⟩ n cap xs hown.1 holds a m c news hl hnews (by omega) (by omega) (growslice_fits (by omega) (by rw[hby];exact hbytes))
   rw[hr]at hr2;cases hr2
   simp[Value.ownBlock]at hj
   exact .inr (by omega)
section
variable {α : Type} {enc:α→List Value} {T k bytes:Nat} {P:Program} {ts:TypeId}
structure Apps (P:Program)(enc:α→List Value)(ts T k:Nat):Prop where
 u:P.underlying ts=some (.slice T)
 i:∃i z,P.info? T=some i∧i.zero=some z∧i.size=k∧i.bytes≤1000∧z.cells.size=k
 k0:0<k
 len:∀x,(enc x).length=k
 one:∀x,∀u∈enc x,u.oneCell'=true
theorem Apps.ones (h:Apps P enc ts T k)(l:List α):∀u∈l.flatMap enc,u.oneCell'=true:=fun u hu=>by
 obtain⟨x,_,hx⟩:=List.mem_flatMap.1 hu
 exact h.one x u hx
theorem Apps.flat (h:Apps P enc ts T k)(l:List α):(l.flatMap enc).length=l.length*k:=by
 induction l with
 | nil=>simp
 | cons x l ih=>rw[List.flatMap_cons,List.length_append,h.len,ih,List.length_cons,Nat.succ_mul];omega
theorem kia (S:Apps P enc ts T k){w:World}{ops:Array Oper}{rest:List Oper}{o:Oper}{a:Act}{Q:Exit→Act→World→Prop}(hgd:o.guard=none)(s x:Operand)
  (ho:o.op=.call { callee:=.builtin .append,args:=#[s,x],argTypes:=#[ts,ts] }) (B:Nat) (v:Value) (l:List α) (hs:a.eval s=v) (hv:LG enc T k B w v l) (hB:B≤w.heap.size)
  (ad:Addr) (m c:Nat) (ys:List α) (hx:a.eval x=.slice (some ad) m c) (hm:ys.length=m) (hr:∀j u,(ys.flatMap enc)[j]?=some u→w.cell? (ad.add j)=some u) (hbig:l.length+m≤20000000)
  (h:∀v' w',LG enc T k B w' v' (l++ys)→Below B w w'→w.grownBy w' v.ownBlock→(∀j,v'.ownBlock=some j→v.ownBlock=some j∨w.heap.size≤j)→wpList P ops Q rest (a.put o.dst v') w'):wpList P ops Q (o::rest) a w:=by
 obtain⟨i,z,hi,hz,hz1,hz2,hz3⟩:=S.i
 have hb:(l.length+m)*i.bytes≤20000000*1000:=Nat.mul_le_mul hbig hz2
 obtain⟨v',w',hrun,h1,h2,_,h4⟩:=kgu (P:=P) w B ts o.type T i z k i.bytes S.u hi hz hz1 rfl hz3 S.k0 v l.length (l.flatMap enc) hv ad m c (ys.flatMap enc) (by rw[S.flat,hm]) hr (S.ones ys) (by simp only[maxLen];omega) (by omega) hB
 refine wpList_plain hgd fun _ hK=>?_
 unfold Oper.wp execOp;simp only[ho,resolve,invoke,builtin,Sem.run_bind,Sem.run_pure,Result.andThen_ok,List.map_toArray,List.map_cons,List.map_nil,hs,hx,hrun]
 refine hK _ _ (h v' w' ?_ ((Below.refl B w).grown h2 hB (fun k e=>(LG.own hv k e).1)) h2 h4)
 unfold LG;rw[List.flatMap_append,List.length_append,hm]
 exact h1
theorem kir (S:Apps P enc ts T k){F:Fence}{n0:Nat}{w:World}{ops:Array Oper}{rest:List Oper}{o:Oper}{a:Act}{Q:Exit→Act→World→Prop}(hgd:o.guard=none)(s x:Operand)
  (ho:o.op=.call { callee:=.builtin .append,args:=#[s,x],argTypes:=#[ts,ts] }) (B:Nat) (v:Value) (l:List α) (hs:a.eval s=v) (hv:LG enc T k B w v l) (hB:B≤w.heap.size)
  (ad:Addr) (m c:Nat) (ys:List α) (hx:a.eval x=.slice (some ad) m c) (hm:ys.length=m) (hr:∀j u,(ys.flatMap enc)[j]?=some u→w.cell? (ad.add j)=some u) (hbig:l.length+m≤20000000)
  (h:∀v' w',LG enc T k B w' v' (l++ys)→Below B w w'→w.grownBy w' v.ownBlock→(∀j,v'.ownBlock=some j→v.ownBlock=some j∨w.heap.size≤j)→wpListIn F n0 P ops Q rest (a.put o.dst v') w'):wpListIn F n0 P ops Q (o::rest) a w:=by
 obtain⟨i,z,hi,hz,hz1,hz2,hz3⟩:=S.i
 have hb:(l.length+m)*i.bytes≤20000000*1000:=Nat.mul_le_mul hbig hz2
 obtain⟨v',w',hrun,h1,h2,_,h4⟩:=kgu (P:=P) w B ts o.type T i z k i.bytes S.u hi hz hz1 rfl hz3 S.k0 v l.length (l.flatMap enc) hv ad m c (ys.flatMap enc) (by rw[S.flat,hm]) hr (S.ones ys) (by simp only[maxLen];omega) (by omega) hB
 refine wpListIn_plain hgd fun K hK'=>?_
 unfold Oper.wpIn
 refine⟨?_,?_⟩
 ·simp[Oper.about,ho,resolve,Target.leads,Sem.run_pure]
 ·rw[Oper.semAt_plain F _ _ (by rw[ho];intro c hc';cases hc')]
  simp[execOp,ho,resolve,invoke,builtin,hs,hx,hrun,Result.andThen]
  refine hK' _ _ (h v' w' ?_ ((Below.refl B w).grown h2 hB (fun k e=>(LG.own hv k e).1)) h2 h4)
  unfold LG;rw[List.flatMap_append,List.length_append,hm]
  exact h1
end
theorem infoInt:(Tryz.prog.info? 3).map (fun i=>(i.zero,i.size,i.bytes))=some (some (.int .i64 0),1,8):=by kernel_rfl
theorem infoRow:(Tryz.prog.info? 76).map (fun i=>(i.zero,i.size,i.bytes))=some (some (.slice none 0 0),1,24):=by kernel_rfl
theorem info_of {T:Nat}{z:Value}{k b:Nat}(h:(Tryz.prog.info? T).map (fun i=>(i.zero,i.size,i.bytes))=some (some z,k,b)):∃i,Tryz.prog.info? T=some i∧i.zero=some z∧i.size=k∧i.bytes=b:=by
 cases e:Tryz.prog.info? T with
 | none=>rw[e]at h;cases h
 | some i=>
  rw[e]at h;simp only[Option.map_some,Option.some.injEq,Prod.mk.injEq]at h
  exact⟨i,rfl,h⟩
theorem appsI:Apps Tryz.prog encI 41 3 1:=by
 obtain⟨i,h1,h2,h3,h4⟩:=info_of infoInt
 exact⟨Tryz.underlying41,⟨i,_,h1,h2,h3,by omega,rfl⟩,by omega,fun _=>rfl,fun x u hu=>by simp[encI]at hu;subst hu;rfl⟩
theorem appsR:Apps Tryz.prog koy 38 76 1:=by
 obtain⟨i,h1,h2,h3,h4⟩:=info_of infoRow
 exact⟨Tryz.underlying38,⟨i,_,h1,h2,h3,by omega,rfl⟩,by omega,fun _=>rfl,fun x u hu=>by simp[koy]at hu;subst hu;rfl⟩
abbrev LI (B:Nat)(W:World)(v:Value)(l:List Int):Prop:=LG encI 3 1 B W v l
abbrev LR (B:Nat)(W:World)(v:Value)(r:List PV):Prop:=LG koy 76 1 B W v r
theorem at_act {G:Act→Prop}{a:Act}(h:∀A,A=a→G A):G a:=h a rfl
def BoxG {α : Type}(enc:α→List Value)(ts T k B c:Nat)(W:World)(l:List α):Prop:=∃v,Boxed W c ts v∧LG enc T k B W v l
theorem boxG_own {α β : Type}{enc:α→List Value}{ts T k:Nat}(n₀ B c:Nat)(f:β→List α):OwnFrom n₀ (fun s W=>BoxG enc ts T k B c W (f s)):=fun s X Y row h hg hr=>by
 obtain⟨v,hb,hv⟩:=h
 refine⟨v,hb.kept hg (fun e=>?_),hv.kept hg (fun k e=>?_)⟩
 ·obtain⟨_,o,ho,hc⟩:=hr c e.symm
  rw[show X.heap[c]?=_ from hb]at ho;cases ho;cases hc
 ·obtain⟨_,o,ho,hc⟩:=hr k e
  exact⟨o,ho,hc⟩
theorem BoxG.ext {α : Type}{enc:α→List Value}{ts T k B c:Nat}{W W':World}{l:List α}(h:BoxG enc ts T k B c W l)(hx:Ext W W'):BoxG enc ts T k B c W' l:=by
 obtain⟨v,h1,h2⟩:=h
 exact⟨v,Boxed.ext h1 hx,h2.ext hx⟩
theorem tmpOne (w:World)(u:Value)(T:TypeId):∀j x,[u][j]?=some x→(w.alloc (.cells #[u] T)).cell? ((⟨w.heap.size,0,none⟩:Addr).add j)=some x:=fun j x h=>by
 cases j with
 | zero=>
  cases h;rw[Addr.add_lit]
  have:=qan w (.cells #[u] T)
  simp only[World.cell?,Nat.add_zero,this]
  rfl
 | succ j=>simp at h
theorem LG.ko {α : Type}{enc:α→List Value}{T k B:Nat}{W W':World}{v:Value}{l:List α}(h:LG enc T k B W v l)(hg:W.grownBy W' v.ownBlock):KeepsOthers W W':=
 KeepsOthers.of_grownBy hg (fun j o ej hj=>by
  rcases h.2 with ⟨rfl,_⟩|⟨g,cap,cur,rfl,_,hgb,_⟩
  ·simp[Value.ownBlock]at ej
  ·obtain rfl:g=j:=by simpa[Value.ownBlock]using ej
   rw[hgb]at hj;cases hj;rfl)
theorem LG.setBox {α : Type}{enc:α→List Value}{T k B c:Nat}{W:World}{v u:Value}{l:List α}{ts:TypeId}(h:LG enc T k B W v l)(hb:Boxed W c ts u)(ht:ts≠T)(x:Value):LG enc T k B (W.setCell ⟨c,0,none⟩ x) v l:=
 h.setCell (fun j e hj=>by
  have h1:=h.apart (show W.heap[c]?=_ from hb) ht
  exact h1 (by rw[e];simp only at hj;rw[hj])) x
theorem boxes4 (w:World)(cs ds es fs:Array Value)(t u v x:TypeId)(W:World)(hx:Ext ((((w.alloc (.cells cs t)).alloc (.cells ds u)).alloc (.cells es v)).alloc (.cells fs x)) W) :
  W.heap[w.heap.size]?=some (.cells cs t)∧W.heap[w.heap.size+1]?=some (.cells ds u)∧W.heap[w.heap.size+1+1]?=some (.cells es v)∧W.heap[w.heap.size+1+1+1]?=some (.cells fs x):=by
 refine⟨(hx.block _ (by simp only[qsa];omega)).trans ?_,(hx.block _ (by simp only[qsa];omega)).trans ?_,(hx.block _ (by simp only[qsa];omega)).trans ?_,(hx.block _ (by simp only[qsa];omega)).trans ?_⟩
 ·rw[Below.heap_alloc _ _ _ (by simp only[qsa];omega),Below.heap_alloc _ _ _ (by simp only[qsa];omega),Below.heap_alloc _ _ _ (by simp only[qsa];omega)];exact qan w _
 ·rw[Below.heap_alloc _ _ _ (by simp only[qsa];omega),Below.heap_alloc _ _ _ (by simp only[qsa];omega)];have:=qan (w.alloc (.cells cs t)) (.cells ds u);simpa using this
 ·rw[Below.heap_alloc _ _ _ (by simp only[qsa];omega)];have:=qan ((w.alloc (.cells cs t)).alloc (.cells ds u)) (.cells es v);simpa using this
 ·have:=qan (((w.alloc (.cells cs t)).alloc (.cells ds u)).alloc (.cells es v)) (.cells fs x);simpa using this
end Go.Proofs.YtcgghcicnanliaaGreatDoor
namespace Go.Proofs.YtcgghcicnanliaaGreatDoor
open Go.RowKit
set_option maxHeartbeats 4000000
set_option maxRecDepth 100000
attribute [local go_sem] Oper.semAt_some
def Kq (n₀ Bs:Nat)(W W':World):Prop:=Below n₀ W W'∧∀o,W.heap[Bs]?=some o→o.isCells=true→W'.heap[Bs]?=some o
theorem Kq.refl (n₀ Bs:Nat)(W:World):Kq n₀ Bs W W:=⟨Below.refl _ _,fun _ h _=>h⟩
theorem Kq.t {n₀ Bs:Nat}{A B C:World}(h:Kq n₀ Bs A B)(k:Kq n₀ Bs B C):Kq n₀ Bs A C:=⟨h.1.trans k.1,fun o ho hc=>k.2 o (h.2 o ho hc) hc⟩
theorem Kq.b {n₀ Bs:Nat}{w:World}(hn:n₀≤w.heap.size)(W:World)(l:Nat)(o o':Obj)(hl:w.heap.size≤l)(h:W.heap[l]?=some o)(h1:o.isCells=false)(h2:o.isWalk=false):Kq n₀ Bs W (W.putObj l o'):=
 ⟨belowK_b hn W l o o' hl h h1 h2,fun p hp hc=>by
  by_cases e:Bs=l
  ·subst e;rw[h]at hp;cases hp;rw[h1]at hc;cases hc
  ·rw[World.putObj_heap_other e];exact hp⟩
theorem Kq.ext {n₀ Bs:Nat}{A B C:World}(h:Kq n₀ Bs A B)(hn:n₀≤B.heap.size)(hx:Ext B C):Kq n₀ Bs A C:=⟨h.1.trans (Below.mono hx hn),fun p hp hc=>by
  have h1:=h.2 p hp hc
  rw[hx.block Bs (qaz h1).1];exact h1⟩
theorem Kq.c0 {n₀ B i:Nat}{A C:World}(h:Kq n₀ B A C){xs:Array Value}{t:TypeId}(hb:A.heap[B]?=some (.cells xs t)){v:Value}(hi:xs[i]?=some v):C.cell? ⟨B,i,none⟩=some v:=by
 simp[World.cell?,h.2 _ hb rfl,hi]
theorem Ext.kq {a b:World}{n₀ Bs:Nat}(h:Ext a b)(hn:n₀≤a.heap.size):Kq n₀ Bs a b:=(Kq.refl n₀ Bs a).ext hn h
theorem sides1_399 (n l0 Bs n₀ b off c:Nat)(ps:List Pt)(hreach:ps.length≤1000000)(hn:1≤n)(hb:b<n₀)(J Jx:List (Pt × Pt)→World→Prop)
  (hY:∀pre x W,J pre W→pre.length<ps.length→x=kbr ps pre.length→YieldAt Fence.wide (n-1) Tryz.prog l0 (kmt x) W fun e W'=>
   (e=.returned (.bool true)∧J (pre++[x]) W'∧Kq n₀ Bs W W')∨(e=.returned (.bool false)∧Jx (pre++[x]) W'))
  (W:World) (hJa:AbidesFrom W.heap.size J) (hn₀:n₀≤W.heap.size) (hBs:W.heap[Bs]?=some (.cells #[.slice (some ⟨b,off,none⟩) ps.length c] 76)) (hc:Sl encP 2 W (some ⟨b,off,none⟩) ps) (h0:J [] W) :
  CallsIn Fence.wide n Tryz.prog 399 #[.func (.yield l0) #[] #[],.pointer (some ⟨Bs,0,none⟩)] W fun e W'=>(∃v,e=.returned v) ∧
   ((∃ys,ys=upto (kbr ps) ps.length∧J ys W')∨(∃pre,(∃k,k≤ps.length∧pre=upto (kbr ps) k)∧Jx pre W')):=by
 have hBW:Bs<W.heap.size:=(qaz hBs).1
 have cB0:=Kq.c0 (Kq.refl n₀ Bs W) hBs (i:=0) rfl
 have CB:=Lib.hid (fun wr (h:Kq n₀ Bs W wr)=>h.c0 hBs (i:=0) rfl)
 refine callsIn_of_wp Tryz.func399 rfl trivial ?_ rfl
 simp only[Tryz.ntmps399,List.size_toArray,List.length_cons,List.length_nil,Nat.reduceAdd,Nat.reduceSub,Array.replicate_succ,Array.replicate_zero,List.push_toArray,List.append_toArray,List.nil_append,List.cons_append]
 gi_wp2
 clear hBs cB0
 gi_loopw [3,4,7] (fun _ _ s7 wr=>∃k:Nat,k≤ps.length∧s7=.int .i64 k∧J (upto (kbr ps) k) wr∧Kq n₀ Bs W wr∧W.heap.size≤wr.heap.size)
  (fun _ _ s7 _=>ps.length-(intOf s7).toNat)
 case atStart=>exact⟨0,Nat.zero_le _,rfl,h0,Kq.refl _ _ _,Nat.le_refl _⟩
 case round=>
  obtain⟨k,hk,rfl,hJs,hnx,hszr⟩:=hrel
  by_cases hlt:k<ps.length
  ·obtain⟨⟨x1,x2⟩,hx⟩:∃y,ps[k]?=some y:=⟨_,qgq hlt⟩
   obtain⟨j,hjd⟩:∃j,(k+1) % ps.length=j:=⟨_,rfl⟩
   have hjl:j<ps.length:=by rw[←hjd];exact Nat.mod_lt _ (by omega)
   obtain⟨⟨y1,y2⟩,hy⟩:∃y,ps[j]?=some y:=⟨_,qgq hjl⟩
   have hG:kbr ps k=((x1,x2),(y1,y2)):=by rw[kbr,hjd,kbm hx,kbm hy]
   have hbW:b<W.heap.size:=by omega
   have e0:wr.cell? ⟨b,off+k*2,none⟩=some (.int .i64 x1):=by have:=hc.at_ hx (i:=0) rfl;rw[hnx.1.cell (p:=⟨b,_,none⟩) hb];simpa using this
   have e1:wr.cell? ⟨b,off+k*2+1,none⟩=some (.int .i64 x2):=by have:=hc.at_ hx (i:=1) rfl;rw[hnx.1.cell (p:=⟨b,_,none⟩) hb];simpa using this
   have g0:wr.cell? ⟨b,off+j*2,none⟩=some (.int .i64 y1):=by have:=hc.at_ hy (i:=0) rfl;rw[hnx.1.cell (p:=⟨b,_,none⟩) hb];simpa using this
   have g1:wr.cell? ⟨b,off+j*2+1,none⟩=some (.int .i64 y2):=by have:=hc.at_ hy (i:=1) rfl;rw[hnx.1.cell (p:=⟨b,_,none⟩) hb];simpa using this
   have cB:=CB.out wr hnx
   have hltz:(k:Int)<(ps.length:Int):=by omega
   have hbr:b<wr.heap.size:=by omega
   have hBr:Bs<wr.heap.size:=by omega
   gi_wp2
   refine kgl 10 (by kernel_rfl) (by kernel_rfl) ?_
   intro W2 hx2;simp only[List.take_succ_cons,List.take_zero,List.drop_succ_cons,List.drop_zero];obtain⟨hc2,hf2,hz2⟩:=hx2.rules;simp only[qsa]at hz2
   have hE2:Ext wr W2:=((Ext.refl wr).alloc _).trans hx2
   have f0:W2.cell? ⟨wr.heap.size,0,none⟩=some (.int .i64 x1):=by rw[hc2 _ _ (by simp)];simp
   have f1:W2.cell? ⟨wr.heap.size,1,none⟩=some (.int .i64 x2):=by rw[hc2 _ _ (by simp)];simp
   have g0':=(hE2.rules.1 b (off+j*2) hbr).trans g0;have g1':=(hE2.rules.1 b (off+j*2+1) hbr).trans g1;have cB':=(hE2.rules.1 Bs 0 hBr).trans cB
   have hJ2:=hJa (upto (kbr ps) k) wr W2 none hJs hE2.gb (fun r e=>by cases e)
   obtain⟨fn,tmps,assign,body,hyy,hR⟩:=hY _ (kbr ps k) _ hJ2 (by rw[kch];exact hlt) (by rw[kch])
   simp only[kmt,hG]at hyy
   have wk:IntKind.i64.wrap ((k:Int)+1)=(k:Int)+1:=wrap_small (by omega) (by omega)
   have tk:Int.tmod ((k:Int)+1) (ps.length:Int)=(j:Int):=by rw[Int.tmod_eq_emod_of_nonneg (by omega),←hjd];norm_cast
   have hnil:¬ (ps=[]):=by rintro rfl;simp at hlt
   have hjz:(j:Int)<(ps.length:Int):=by omega
   clear hjd
   iterate 10 still_step
   refine wpStill_nil ?_
   gi_wp2
   refine hR.mono ?_
   rintro e W3 (⟨rfl,hJ3,hk3⟩|⟨rfl,hJx3⟩)
   ·have hs3:=hk3.1.size
    gi_wp2
    go_roundw
    case rel=>exact⟨k+1,by omega,by simp,by rw[kda];exact hJ3,(hnx.ext (by omega) hE2).t hk3,by omega⟩
    case measure=>simp[intOf];omega
   ·gi_wp2
    refine bodyPost_ret (results_none rfl _ _ _) rfl ?_
    exact⟨⟨_,rfl⟩,.inr ⟨_,⟨k+1,by omega,(kda _ _).symm⟩,hJx3⟩⟩
  ·obtain rfl:k=ps.length:=by omega
   gi_wp2
   go_end0
   exact⟨⟨_,rfl⟩,.inl ⟨_,rfl,hJs⟩⟩
theorem khd (n Bs n₀ b off c:Nat)(ps:List Pt)(hpl:∀x∈ps,plB x=true)(hreach:ps.length≤1000000)(hn:1≤n)(w:World)(hn₀:n₀≤w.heap.size)(hb:b<n₀)
  (hBs:w.heap[Bs]?=some (.cells #[.slice (some ⟨b,off,none⟩) ps.length c] 76)) (hc:Sl encP 2 w (some ⟨b,off,none⟩) ps) :
  SeqStopsK Fence.wide n Tryz.prog 399 #[.pointer (some ⟨Bs,0,none⟩)] (fun s:SegT=>kmt s.1) (Kq n₀ Bs) (fun ys=>ys.map (·.1)=upto (kbr ps) ps.length) (fun pre=>∃k,k≤ps.length∧pre.map (·.1)=upto (kbr ps) k) ps.length w:=fun l J Jx W hW hJ hJx hY h0=>by
 have hlt:Bs<w.heap.size:=(qaz hBs).1
 have:=sides1_399 n l Bs n₀ b off c ps hreach hn hb (fun pre W=>∃q:List SegT,q.map (·.1)=pre∧J q W) (fun pre W=>∃q:List SegT,q.map (·.1)=pre∧Jx q W)
  (fun pre x W1 hq h2 hx=>by
   obtain⟨q,rfl,hj⟩:=hq;simp only[List.length_map]at h2 hx
   have hpx:plB x.1=true∧plB x.2=true:=by rw[hx];exact⟨ptAt_all hpl (by omega),ptAt_all hpl (Nat.mod_lt _ (by omega))⟩
   obtain⟨fn,tmps,assign,body,hy,hR⟩:=hY q ⟨x,hpx⟩ W1 hj h2
   refine⟨fn,tmps,assign,body,hy,hR.mono ?_⟩
   rintro e W' (⟨he,h3,h4⟩|⟨he,h3⟩)
   ·exact .inl ⟨he,⟨_,by simp,h3⟩,h4⟩
   ·exact .inr ⟨he,⟨_,by simp,h3⟩⟩)
  W (fun s X Y row hs hg hr=>by
   obtain⟨q,hq,hj⟩:=hs
   exact⟨q,hq,hJ q X Y row hj hg hr⟩) (Nat.le_trans hn₀ hW.size) ((hW.block _ hlt).trans hBs) (hc.ext hW) ⟨[],rfl,h0⟩
 refine this.mono ?_
 rintro e W' ⟨he,h⟩
 refine⟨he,?_⟩
 rcases h with ⟨ys,hys,q,hq,hj⟩|⟨pre,⟨k,hk,hpre⟩,q,hq,hj⟩
 ·exact .inl ⟨q,hq.trans hys,hj⟩
 ·exact .inr ⟨q,⟨k,hk,hq.trans hpre⟩,hj⟩
end Go.Proofs.YtcgghcicnanliaaGreatDoor
namespace Go.Proofs.YtcgghcicnanliaaGreatDoor
open Go.RowKit Go.Lib
set_option maxHeartbeats 4000000
set_option maxRecDepth 100000
theorem kdk (w:World)(cs ds es:Array Value)(t u v:TypeId)(W:World)(hx:Ext (((w.alloc (.cells cs t)).alloc (.cells ds u)).alloc (.cells es v)) W) :
  W.heap[w.heap.size]?=some (.cells cs t)∧W.heap[w.heap.size+1]?=some (.cells ds u)∧W.heap[w.heap.size+1+1]?=some (.cells es v):=by
 refine⟨(hx.block _ (by simp only[qsa];omega)).trans ?_,(hx.block _ (by simp only[qsa];omega)).trans ?_,(hx.block _ (by simp only[qsa];omega)).trans ?_⟩
 ·rw[Below.heap_alloc _ _ _ (by simp only[qsa];omega),Below.heap_alloc _ _ _ (by simp only[qsa];omega)];exact qan w _
 ·rw[Below.heap_alloc _ _ _ (by simp)];have:=qan (w.alloc (.cells cs t)) (.cells ds u);simpa using this
 ·have:=qan ((w.alloc (.cells cs t)).alloc (.cells ds u)) (.cells es v);simpa using this
theorem kbi {W:World}{B:Nat}{a b c d e f g h i:Value}{t:TypeId}(hb:W.heap[B]?=some (.cells #[a,b,c,d,e,f,g,h,i] t)):W.cell? ⟨B,0,none⟩=some a∧W.cell? ⟨B,1,none⟩=some b∧W.cell? ⟨B,2,none⟩=some c∧W.cell? ⟨B,3,none⟩=some d ∧
  W.cell? ⟨B,4,none⟩=some e∧W.cell? ⟨B,5,none⟩=some f∧W.cell? ⟨B,6,none⟩=some g∧W.cell? ⟨B,7,none⟩=some h∧W.cell? ⟨B,8,none⟩=some i:=by
 refine⟨?_,?_,?_,?_,?_,?_,?_,?_,?_⟩<;>simp[World.cell?,hb]
end Go.Proofs.YtcgghcicnanliaaGreatDoor
namespace Go
open Go.RowKit
theorem kft {F:Fence}{n:Nat}{P:Program}{ops:Array Oper}{rest:List Oper}{o:Oper}{a:Act}{w:World}{Q:Exit→Act→World→Prop}(hgd:o.guard=none)(ty:TypeId)(x:Operand)(ho:o.op=.load ty x)
  (g:Nat) (hx:a.eval x=.pointer (some ⟨g,0,none⟩)) (t:TypeId) (cs:Array Value) (fr:Nat × Nat) (d:TypeDesc) (hg:w.heap[g]?=some (.cells cs t fr))
  (hu:P.underlying ty=some d) (hd:(match d with|.struct _|.array _ _=>true|_=>false)=true) (hi:(P.info? ty).map (·.size)=some cs.size)
  (h:wpListIn F n P ops Q rest (a.put o.dst (.agg cs)) w):wpListIn F n P ops Q (o::rest) a w:=by
 refine wpListIn_plain hgd fun K hK'=>?_
 unfold Oper.wpIn
 refine⟨?_,?_⟩
 ·simp[Oper.about,ho]
 ·rw[Oper.semAt_plain F _ _ (by rw[ho];intro c hc';cases hc')]
  unfold execOp;simp only[ho,hx,Instr.loadAt,Instr.sureAddr,Sem.run_bind,Sem.run_pure,Result.andThen_ok,run_loadVar_row w g t ty cs fr d hg hu hd hi]
  exact hK' _ _ h
theorem kfd {F:Fence}{n:Nat}{P:Program}{ops:Array Oper}{rest:List Oper}{o:Oper}{a:Act}{w:World}{Q:Exit→Act→World→Prop}(hgd:o.guard=none)(ty:TypeId)(x y:Operand)(ho:o.op=.store ty x y)
  (g:Nat) (cells:Array Value) (hx:a.eval x=.pointer (some ⟨g,0,none⟩)) (hy:a.eval y=.agg cells)
  (t:TypeId) (old:Array Value) (hg:w.heap[g]?=some (.cells old t (0,0))) (hi:(P.info? ty).map (·.size)=some cells.size)
  (hold:old.size=cells.size) (h1:cells.all (·.oneCell')=true)
  (h:wpListIn F n P ops Q rest (a.put o.dst undef) (w.setRow g cells)):wpListIn F n P ops Q (o::rest) a w:=by
 refine wpListIn_plain hgd fun K hK'=>?_
 unfold Oper.wpIn
 refine⟨?_,?_⟩
 ·simp[Oper.about,ho]
 ·rw[Oper.semAt_plain F _ _ (by rw[ho];intro c hc';cases hc')]
  unfold execOp;simp only[ho,hx,hy,Instr.storeAt,Instr.sureAddr,Sem.run_bind,Sem.run_pure,Result.andThen_ok,run_storeVar_row w g t ty old cells hg hi hold h1]
  exact hK' _ _ h
end Go
namespace Go.Proofs.YtcgghcicnanliaaGreatDoor
open Go.RowKit Go.Lib
set_option maxHeartbeats 4000000
set_option maxRecDepth 100000
abbrev koj:=List (Nat × Array Value × TypeId)
def Fix (L:koj)(W:World):Prop:=∀x∈L,W.heap[x.1]?=some (.cells x.2.1 x.2.2)
section
variable {L:koj} {W W':World}
theorem Fix.ext (h:Fix L W)(hx:Ext W W'):Fix L W':=fun x hm=>kaf hx (h x hm)
theorem Fix.kept {row:Option Nat}(h:Fix L W)(hg:W.grownBy W' row)(hr:∀k,row=some k→∃o:Obj,W.heap[k]?=some o∧o.isCells=false):Fix L W':=fun x hm=>
 (hg.block x.1 (qaz (h x hm)).1 (fun e=>by obtain⟨o,ho,hc⟩:=hr x.1 e.symm;rw[h x hm]at ho;cases ho;cases hc)).trans (h x hm)
theorem Fix.own {β : Type}(L:koj)(n₀:Nat):OwnFrom n₀ (fun (_:β) W=>Fix L W):=fun s X Y row h hg hr=>Fix.kept h hg (fun k e=>(hr k e).2)
theorem Fix.app {α : Type}{enc:α→List Value}{T k B:Nat}{v:Value}{l:List α}(h:Fix L W)(hv:LG enc T k B W v l)(hg:W.grownBy W' v.ownBlock)(hT:∀x∈L,x.2.2≠T):Fix L W':=fun x hm=>hv.other hg (h x hm) (hT x hm)
theorem Fix.set {c i:Nat}(h:Fix L W)(hc:∀x∈L,x.1≠c)(u:Value):Fix L (W.setCell ⟨c,i,none⟩ u):=fun x hm=>kah (h x hm) (hc x hm) u
theorem Fix.lt (h:Fix L W){x:Nat × Array Value × TypeId}(hx:x∈L):x.1<W.heap.size:=(qaz (h x hx)).1
end
def kpj (W:World):List Nat→World
 | []=>W
 | D::Ds=>kpj (W.putObj D (.deferred none)) Ds
theorem ked {F:Fence}{n:Nat}{P:Program}{fn:Func}{tmps:Array Value}{R:Ending→World→Prop}{u:FrameMode}(hu:u≠.run):∀(Ds:List Nat) (W:World),Ds.Nodup→(∀D∈Ds,W.heap[D]?=some (.deferred (some []))) →
  LeavesIn F n P fn tmps R [] u (kpj W Ds)→LeavesInM F n P fn tmps R (Ds.map fun D=>{ target:=.collected D,args:=#[] }) u W
 | [],W,_,_,h=>h
 | D::Ds,W,hn,hD,h=>by
  refine⟨hu,.inl ⟨D,_,rfl,run_takeDeferred (hD D (by simp)),?_⟩⟩
  rw[List.nodup_cons]at hn
  exact ked hu Ds _ hn.2 (fun E hE=>(World.putObj_heap_other (by rintro rfl;exact hn.1 hE)).trans (hD E (by simp[hE]))) h
theorem kfx {α : Type}{enc:α→List Value}{T k B:Nat}{v:Value}{l:List α}:∀(Ds:List Nat) (W:World),Ds.Nodup→(∀D∈Ds,W.heap[D]?=some (.deferred (some [])))→LG enc T k B W v l→LG enc T k B (kpj W Ds) v l
 | [],_,_,_,h=>h
 | D::Ds,W,hn,hD,h=>by
  rw[List.nodup_cons]at hn
  exact kfx Ds _ hn.2 (fun E hE=>(World.putObj_heap_other (by rintro rfl;exact hn.1 hE)).trans (hD E (by simp[hE]))) (h.kept (grownBy_putObj' W D (.deferred none)) (fun k e=>by cases e;exact⟨_,hD D (by simp),rfl⟩))
theorem kff {n₀:Nat}:∀(Ds:List Nat) (W:World),(∀D∈Ds,n₀≤D)→Below n₀ W (kpj W Ds)
 | [],_,_=>Below.refl _ _
 | D::Ds,W,hD=>by
  refine Below.trans ?_ (kff Ds _ (fun E hE=>hD E (by simp[hE])))
  have hg:=grownBy_putObj' W D (.deferred none)
  exact⟨hg.os,hg.tape,hg.output,hg.size,fun k hk=>World.putObj_heap_other (by have:=hD D (by simp);omega)⟩
end Go.Proofs.YtcgghcicnanliaaGreatDoor
namespace Go.Proofs.YtcgghcicnanliaaGreatDoor
set_option maxRecDepth 100000
theorem kge {t:ChartT}(hok:kao t=true){a b:Pt}{i:Int}(h:i∈kig t a b):0≤i∧i.toNat<t.cells.length:=by
 obtain⟨⟨d1,d2,d3,d4,_,_⟩,_⟩:=kgj hok
 have hwh:t.w*t.h=t.cells.length:=by
  simp only[kao,kcp,qba,decide_eq_true_eq]at hok
  omega
 unfold kig recL at h;rw[List.mem_flatMap]at h;obtain⟨r,hr,h⟩:=h;rw[List.mem_range]at hr;unfold rowL at h;rw[List.mem_map]at h;obtain⟨q,hq,rfl⟩:=h;rw[List.mem_range]at hq;generalize hY:max 0 (colI t.y t.size a.2)+(r:Int)=y at *;generalize hX:max 0 (colI t.x t.size a.1)+(q:Int)=x at *
 have y0:0≤y:=by omega
 have y1:y+1≤t.h:=by omega
 have x0:0≤x:=by omega
 have x1:x+1≤t.w:=by omega
 have m1:(y+1)*t.w≤t.h*t.w:=Int.mul_le_mul_of_nonneg_right y1 (by omega)
 have m0:0≤y*t.w:=Int.mul_nonneg y0 (by omega)
 rw[Int.add_mul,Int.one_mul]at m1;rw[Int.mul_comm t.h t.w,hwh]at m1
 omega
open Go.RowKit Go.Lib Go.Sort
set_option maxHeartbeats 4000000
theorem knu (l:List Int):l.flatMap encI=l.map (Value.int .i64):=by
 induction l with
 | nil=>rfl
 | cons x l ih=>rw[List.flatMap_cons,ih];rfl
theorem LI.row {b g cap n:Nat}{w:World}{l:List Int}(h:LI b w (.slice (some ⟨g,0,none⟩) n cap) l):n=l.length∧b≤g∧n≤cap∧cap≤maxLen∧∃cur,w.heap[g]?=some (.cells cur 3 (0,0))∧cur.size=cap∧cur.toList.take n=l.map (Value.int .i64):=by
 obtain⟨_,⟨e0,_⟩|⟨g',cap',cur,e0,hb,hg,hn,hm,hs,ht⟩⟩:=h
 ·cases e0
 ·injection e0 with e1 e2 e3
  injection e1 with e1
  injection e1 with e1
  subst e1;subst e3;subst e2;rw[knu,Nat.mul_one]at ht
  exact⟨rfl,hb,hn,hm,cur,hg,by omega,ht⟩
theorem LI.mk {b g cap:Nat}{w:World}{l:List Int}{cur:Array Value}(h1:b≤g)(h2:l.length≤cap)(h3:cap≤maxLen)(h4:w.heap[g]?=some (.cells cur 3 (0,0)))(h5:cur.size=cap)(h6:cur.toList.take l.length=l.map (Value.int .i64)):LI b w (.slice (some ⟨g,0,none⟩) l.length cap) l:=
 ⟨by rw[knu];simp,.inr ⟨g,cap,cur,rfl,h1,h4,h2,h3,by omega,by rw[knu,Nat.mul_one];exact h6⟩⟩
theorem LI.holds {b g cap:Nat}{w:World}{l:List Int}(h:LI b w (.slice (some ⟨g,0,none⟩) l.length cap) l):Holds (Value.int .i64) w g 0 l.toArray:=by
 obtain⟨_,h1,h3,h4,cur,hg,hs,ht⟩:=h.row;intro j hj
 have hj':j<l.length:=by simpa using hj
 refine⟨?_,by simp[World.frozen?,hg]⟩
 have e:cur[j]?=some (Value.int .i64 l[j]):=by
  have h5:(cur.toList.take l.length)[j]?=(l.map (Value.int .i64))[j]?:=by rw[ht]
  rw[List.getElem?_take,if_pos hj',List.getElem?_map,qgq hj']at h5
  simpa using h5
 simp only[Nat.zero_add,World.cell?,hg]
 rw[getElem!_pos l.toArray j (by simpa using hj')]
 simpa using e
theorem LI.put {b g cap n:Nat}{w:World}{l l':List Int}{os:Array Obj}(h:LI b w (.slice (some ⟨g,0,none⟩) l.length cap) l)(hl:l'.length=l.length) :
  LI b (grow (putRow (Value.int .i64) (Sort.ahead w n) g 0 l'.toArray) os) (.slice (some ⟨g,0,none⟩) l.length cap) l'∧Below b w (grow (putRow (Value.int .i64) (Sort.ahead w n) g 0 l'.toArray) os)∧KeepsOthers w (grow (putRow (Value.int .i64) (Sort.ahead w n) g 0 l'.toArray) os):=by
 obtain⟨_,h1,h3,h4,cur,hg,hs,ht⟩:=h.row
 have hlt:g<w.heap.size:=(qaz hg).1
 have e:(grow (putRow (Value.int .i64) (Sort.ahead w n) g 0 l'.toArray) os).heap=(w.heap.modify g (onCells (putCells (Value.int .i64) 0 l'.toArray)))++os:=rfl
 constructor
 ·rw[←hl]
  refine LI.mk (cur:=putCells (Value.int .i64) 0 l'.toArray cur) h1 (by omega) h4 ?_ (by simpa[putCells]using hs) ?_
  ·rw[e,Array.getElem?_append_left (by simpa using hlt)]
   simp[Array.getElem?_modify,hg,onCells]
  ·apply List.ext_getElem?
   intro j;rw[List.getElem?_take]
   by_cases hj:j<l'.length
   ·have hjc:j<cur.size:=by omega
    rw[if_pos hj,Array.getElem?_toList,putCells,Array.getElem?_mapIdx,Array.getElem?_eq_getElem hjc,Option.map_some]
    rw[if_pos (by simp;omega),List.getElem?_map,qgq hj,getElem!_pos l'.toArray (j-0) (by simpa using hj)]
    simp
   ·rw[if_neg hj,List.getElem?_eq_none (by simp;omega)]
 refine⟨⟨rfl,rfl,rfl,?_,fun k hk=>?_⟩,?_,fun k o hk hc=>?_⟩
 ·rw[e];simp
 ·rw[e,Array.getElem?_append_left (by simp;omega),Array.getElem?_modify,if_neg (by omega)]
 ·rw[e];simp
 ·have hkl:k<w.heap.size:=(qaz hk).1
  rw[e,Array.getElem?_append_left (by simpa using hkl),Array.getElem?_modify,if_neg (by rintro rfl;rw[hg]at hk;cases hk;cases hc)]
  exact hk
theorem sortInt_135 {b:Nat}{v:Value}{w:World}{l:List Int}(h:LI b w v l)(hl:l.length≤1000000) :
  Calls Tryz.prog 135 #[v] w fun e w'=>e=.returned (.tuple #[])∧∃l':List Int,LI b w' v l'∧(∀x,x∈l'↔x∈l)∧l'.length=l.length∧Below b w w'∧KeepsOthers w w':=by
 rcases h.2 with ⟨rfl,h2⟩|⟨g,cap,cur,rfl,h2,h3,h4,h5,h6,h7⟩
 ·have hcon:=AnyG.slices_Sort_int_none Tryz.sortInt none 0 w
  change Calls Tryz.prog 135 _ _ _ at hcon
  refine hcon.mono ?_
  rintro e w' ⟨rfl,rfl⟩
  exact⟨rfl,l,h,fun _=>Iff.rfl,rfl,Below.refl _ _,KeepsOthers.refl _⟩
 ·have hcon:=AnyG.slices_Sort_int Tryz.sortInt g 0 cap l w h.holds (qaz h3).1 (by omega)
  change Calls Tryz.prog 135 _ _ _ at hcon
  refine hcon.mono ?_
  rintro e w' ⟨rfl,n,os,rfl⟩
  have hp:=h.put (l':=l.mergeSort fun x y=>decide (x≤y)) (n:=n) (os:=os) (List.length_mergeSort l)
  exact⟨rfl,_,hp.1,fun _=>List.mem_mergeSort,List.length_mergeSort l,hp.2⟩
theorem compact_len (l:List Int):(compactUpTo l.toArray l.length).length≤l.length:=by
 unfold compactUpTo;rw[List.length_map]
 exact Nat.le_trans (List.length_filter_le _ _) (by simp)
theorem compact_mem (l:List Int)(x:Int):x∈compactUpTo l.toArray l.length↔x∈l:=by
 unfold compactUpTo;rw[List.mem_map]
 constructor
 ·rintro⟨j,hj,rfl⟩
  have hl:=List.mem_range.1 (List.mem_filter.1 hj).1
  rw[getElem!_pos l.toArray j (by simpa using hl)]
  simp
 ·intro hx
  obtain⟨j,hj,rfl⟩:=List.getElem_of_mem hx;clear hx
  induction j with
  | zero=>exact⟨0,List.mem_filter.2 ⟨List.mem_range.2 hj,by simp[keeps]⟩,by rw[getElem!_pos l.toArray 0 (by simpa using hj)];simp⟩
  | succ j ih=>
   by_cases hk:keeps l.toArray (j+1)=true
   ·exact⟨j+1,List.mem_filter.2 ⟨List.mem_range.2 hj,hk⟩,by rw[getElem!_pos l.toArray (j+1) (by simpa using hj)];simp⟩
   ·have h1:l[j+1]=l[j]:=by
     simp only[keeps,decide_eq_true_eq,not_or,Nat.add_one_sub_one]at hk
     have h2:l.toArray[j+1]! = l.toArray[j]!:=Classical.not_not.1 hk.2
     rw[getElem!_pos l.toArray (j+1) (by simpa using hj),getElem!_pos l.toArray j (by simp;omega)]at h2
     simpa using h2
    obtain⟨i,hi,he⟩:=ih (by omega)
    exact⟨i,hi,by rw[h1];exact he⟩
theorem kpb {b:Nat}{v:Value}{w:World}{l:List Int}(h:LI b w v l)(hl:l.length≤1000000) :
  Calls Tryz.prog 136 #[v] w fun e w'=>∃(v':Value) (l':List Int),e=.returned v'∧LI b w' v' l'∧(∀x,x∈l'↔x∈l)∧l'.length≤l.length∧Below b w w'∧KeepsOthers w w':=by
 rcases h.2 with ⟨rfl,h2⟩|⟨g,cap,cur,rfl,h2,h3,h4,h5,h6,h7⟩
 ·go_enter Tryz.func136,Tryz.ntmps136
  go_wp2
  go_ret
  exact⟨_,l,rfl,h,fun _=>Iff.rfl,Nat.le_refl _,Below.refl _ _,KeepsOthers.refl _⟩
 ·have hcon:=AnyE.slices_Compact Tryz.compactInt (Value.int .i64) (fun _=>rfl) (EqlAt.intD Tryz.prog 3 .i64) (NeqAt.intD Tryz.prog 3 .i64) 0 Tryz.zeroValue3 g 0 cap l.toArray w h.holds (by simp;omega) (by simpa using h4)
  change Calls Tryz.prog 136 _ _ _ at hcon
  simp only[List.size_toArray]at hcon
  refine hcon.mono ?_
  rintro e w' ⟨rfl,q,rfl⟩;have hlen:=compact_len l
  have hp:=h.put (l':=compactUpTo l.toArray l.length++List.replicate (l.length-(compactUpTo l.toArray l.length).length) 0) (n:=q) (os:=#[]) (by rw[List.length_append,List.length_replicate];omega)
  have e0:∀X:World,grow X #[]=X:=fun X=>by simp[grow]
  rw[e0]at hp
  have hll:(compactUpTo l.toArray l.length).length≤(compactUpTo l.toArray l.length++List.replicate (l.length-(compactUpTo l.toArray l.length).length) 0).length:=by rw[List.length_append];omega
  have ht:=LG.take hp.1 (fun _=>rfl) hll (by simp)
  rw[List.take_left]at ht
  exact⟨_,_,rfl,ht,compact_mem l,hlen,hp.2⟩
end Go.Proofs.YtcgghcicnanliaaGreatDoor
namespace Go.Proofs.YtcgghcicnanliaaGreatDoor
open Go.RowKit Go.Lib
set_option maxHeartbeats 4000000
set_option maxRecDepth 100000
def OkA {α : Type}(A:Option Addr)(l:List α):Prop:=(A=none∧l=[])∨∃b off,A=some ⟨b,off,none⟩
theorem LG.okA {α : Type}{enc:α→List Value}{T k B:Nat}{W:World}{A:Option Addr}{n c:Nat}{l:List α}(h:LG enc T k B W (.slice A n c) l):OkA A l:=by
 rcases h.2 with ⟨h1,h2⟩|⟨g,cap,cur,h1,_⟩
 ·cases h1;exact .inl ⟨rfl,List.eq_nil_of_length_eq_zero h2⟩
 ·cases h1;exact .inr ⟨_,_,rfl⟩
theorem clone_54 (A:Option Addr)(c:Nat)(l:List Int)(w:World)(hS:Sl encI 1 w A l)(hA:OkA A l)(hl:l.length≤1000000) :
  Calls Tryz.prog 54 #[.slice A l.length c] w fun e w'=>∃A' c',e=.returned (.slice A' l.length c')∧Sl encI 1 w' A' l∧(A'=none∨∃g,A'=some ⟨g,0,none⟩∧w.heap.size≤g)∧Ext w w':=by
 rcases hA with ⟨rfl,rfl⟩|⟨b,off,rfl⟩
 ·have:=AnyE.slices_Clone_nil Tryz.cloneInt 0 c w
  change Calls Tryz.prog 54 _ _ _ at this
  refine this.mono ?_
  rintro e w' ⟨rfl,rfl⟩
  exact⟨none,0,rfl,Sl.nil,.inl rfl,Ext.refl _⟩
 obtain⟨i0,hi,hz0,hz1,hz2⟩:=info_of infoInt
 have hcon:=AnyE.slices_Clone Tryz.cloneInt i0 _ 1 8 hi hz0 hz1 hz2 rfl (by omega) Tryz.sizeOf3 b off l.length c (l.flatMap encI) w (appsI.flat l) (by simp[maxLen];omega) (by omega)
  (fun t u hu=>by
   have ht:t<l.length:=by have:=(List.getElem?_eq_some_iff.1 hu).1;rwa [appsI.flat,Nat.mul_one]at this
   obtain⟨x,hx⟩:∃x,l[t]?=some x:=⟨_,qgq ht⟩
   have e:=getElem?_rows (enc:=encI) (k:=1) (fun _=>rfl) l t 0 x (.int .i64 x) hx rfl
   have e2:=hS.at_ hx (i:=0) rfl;simp only[Nat.mul_one,Nat.add_zero]at e e2;rw[hu]at e;cases e
   exact e2)
  (fun u hu=>by
   obtain⟨x,_,hx⟩:=List.mem_flatMap.1 hu
   simp[encI]at hx;subst hx;rfl)
 change Calls Tryz.prog 54 _ _ _ at hcon
 refine hcon.mono ?_
 rintro e w' ⟨v',rfl,hown,hnn,hx⟩
 have hL:LI w.heap.size w' v' l:=hown
 obtain⟨A',c',rfl,hS',_⟩:=hL.reads (fun _=>rfl)
 refine⟨A',c',rfl,hS',?_,hx⟩
 rcases hL.2 with ⟨h1,_⟩|⟨g,cap,cur,h1,h2,_⟩
 ·injection h1 with h3;exact .inl h3
 ·injection h1 with h3;exact .inr ⟨g,h3,h2⟩
end Go.Proofs.YtcgghcicnanliaaGreatDoor
