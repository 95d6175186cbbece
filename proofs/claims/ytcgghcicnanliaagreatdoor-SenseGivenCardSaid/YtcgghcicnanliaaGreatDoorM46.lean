/- The row of SenseGiven. Conditions: the row's own. -/
import Derived.Test.YtcgghcicnanliaaGreatDoorRows
import Derived.Test.YtcgghcicnanliaaGreatDoorM45
import Derived.ProofKit
import Derived.Handy
import Derived.Lay
import Derived.LaidLaws
import Derived.MakeChecks
import Derived.Conc.HoldsTime
set_option linter.unusedVariables false
set_option linter.unusedSimpArgs false
namespace Go.Proofs.YtcgghcicnanliaaGreatDoor
open Go.ChangeShapes Go.WideShapes Go.ChangeAt Go.RowKit Go.Conc Go.ConcM
set_option maxRecDepth 100000
set_option maxHeartbeats 4000000
theorem klr {P:Program}{last:Machine}{w:World}{t:Trace}(h:aloneAtReturn P last w t):leavingAtReturn P last w t:=by
 obtain⟨⟨h1,h2⟩,h3,h4⟩:=h
 refine⟨h3,⟨fun g hg=>⟨0,?_⟩,h2⟩,h4⟩
 have:=List.all_eq_true.1 h1 g hg
 show g.status=.finished
 simpa using this
section
variable {H:Type} {enc:TypeId × Value→H} {P:Program}
theorem trodAll_four' {w:World}{base:Nat}{spare:Nat→Bool}{held:Bool}{t0 t1 t2 t3:TypeId}{args:Array Value}{ds:List (DataW H)}{ps:List MemPlace}(h:DataW.TrodAll enc P w base spare held [t0,t1,t2,t3] args.toList ds ps) :
  ∃v0 v1 v2 v3 d0 d1 d2 d3 p0 p1 p2 p3,args=#[v0,v1,v2,v3]∧ds=[d0,d1,d2,d3]∧DataW.Trod enc P w base spare held t0 v0 d0 p0∧DataW.Trod enc P w base spare held t1 v1 d1 p1∧DataW.Trod enc P w base spare held t2 v2 d2 p2 ∧
   DataW.Trod enc P w base spare held t3 v3 d3 p3:=by
 obtain⟨v0,vs0,d0,ds0,p0,q0,hargs,rfl,rfl,h0,hr0⟩:=trodAll_cons h;obtain⟨v1,vs1,d1,ds1,p1,q1,rfl,rfl,rfl,h1,hr1⟩:=trodAll_cons hr0;obtain⟨v2,vs2,d2,ds2,p2,q2,rfl,rfl,rfl,h2,hr2⟩:=trodAll_cons hr1;obtain⟨v3,vs3,d3,ds3,p3,q3,rfl,rfl,rfl,h3,hr3⟩:=trodAll_cons hr2;obtain⟨rfl,rfl,rfl⟩:=trodAll_nil hr3
 exact⟨v0,v1,v2,v3,d0,d1,d2,d3,p0,p1,p2,p3,by cases args;simp_all,rfl,h0,h1,h2,h3⟩
theorem kkb (hl:laidOutB P=true){W W':World}(hb:Below W.heap.size W W'):∀ {ts:List TypeId} {vs:List Value} {ds:List (DataW H)} {ps:List MemPlace},(∀t∈ts,P.readableRec t=true∧t<P.types.size) →
  DataW.TrodAll enc P W 0 (fun _=>true) true ts vs ds ps→DataW.TrodAll enc P W' 0 (fun b=>decide (b<W.heap.size)) true ts vs ds ps
 | [],vs,ds,ps,_,h=>by
  obtain⟨rfl,rfl,rfl⟩:=trodAll_nil h
  exact trodAll_mk0
 | t::ts,vs,ds,ps,ht,h=>by
  obtain⟨v,vs',d,ds',p,q,rfl,rfl,rfl,hd,hr⟩:=trodAll_cons h
  exact trodAll_cons_mk (Below.trod hl (ht t (by simp)).1 (ht t (by simp)).2 hd hb (fun x hx=>(trodAll_mk1 hd).lt x hx)) (kkb hl hb (fun u hu=>ht u (by simp[hu])) hr)
theorem kne {w:World}{spare:Nat→Bool}{held:Bool}{base b0:Nat}{t:TypeId}{v:Value}{d:DataW H}{ps:List MemPlace}{L:List TypeId}{m:Nat}{fs:Array Field}(ht:P.underlying t=some (.struct fs))(hL:leaves P m t=some L)(hval:Value.okWide P w .any b0 t v)(h:DataW.Trod enc P w base spare held t v d ps) :
  ∃cs:List Value,v=.agg cs.toArray∧kcb enc P w base spare held L cs:=by
 unfold Value.okWide at hval;rw[ht]at hval;obtain⟨cs,rfl,_,_⟩:=hval;obtain⟨fuel,hf⟩:=h
 exact⟨cs.toList,by simp,kgc m fuel t L _ _ hL hf⟩
end
theorem own_knob:ownKnob Tryz.prog.godebug=none:=by kernel_rfl
theorem laid_out:laidOutB Tryz.prog=true:=by kernel_rfl
theorem params_rows:∀t∈Tryz.f5.params.toList,Tryz.prog.readableRec t=true∧t<Tryz.prog.types.size:=by
 have h:Tryz.f5.params.toList.all (fun t=>Tryz.prog.readableRec t&&decide (t<Tryz.prog.types.size))=true:=by kernel_rfl
 intro t ht
 have:=List.all_eq_true.1 h t ht
 simpa only[qba,decide_eq_true_eq]using this
def noughts:Array Value:=#[.agg #[.int .i64 0,.int .i64 0,.int .i64 0,.int .i64 0,.int .i64 0,.int .i64 0,.slice none 0 0,.slice none 0 0,.slice none 0 0,.int .i64 0,.int .i64 0,.int .i64 0,.int .i64 0,.int .i64 0,.int .i64 0,.int .i64 0,.int .i64 0,.int .i64 0,.int .i64 0,.int .i64 0,.int .i64 0,.slice none 0 0,.slice none 0 0,.slice none 0 0],.slice none 0 0,.agg #[.int .i64 0,.int .i64 0,.int .i64 0,.int .i64 0,.int .i64 0,.int .i64 0,.int .i64 0,.int .i64 0,.int .i64 0,.int .i64 0,.int .i64 0,.int .i64 0],.slice none 0 0]
theorem lifted (os:Os)(started:os.Started)(H:Type)(enc:TypeId × Value→H)(F:Stop.Interp) :
  ReturnsInLeavingWide Rows.senseGivenRow.assume Tryz.checked os 5 .any (Rows.senseGivenRow.pre enc Tryz.prog Tryz.f5 (OpenSpec.ofChange Rows.senseGivenSpec)) ((OpenSpec.ofChange Rows.senseGivenSpec).postWith enc Tryz.prog Tryz.f5 F (outsideKept [.timePasses]) false true false):=fun enter=>by
 refine ReturnsInOpen.mono (fun _ _ _ x=>klr x) (fun _ x=>x) (returnsInHanded_of_calls (C:=Tryz.checked) (a:=Rows.senseGivenRow.assume) (Pre:=Rows.senseGivenRow.pre enc Tryz.prog Tryz.f5 (OpenSpec.ofChange Rows.senseGivenSpec))
  (Post:=(OpenSpec.ofChange Rows.senseGivenSpec).postWith enc Tryz.prog Tryz.f5 F (outsideKept [.timePasses]) false true false) own_knob started (by kernel_rfl) ?wit ?con enter)
 case wit=>
  refine⟨World.laidAll Tryz.prog os Rows.senseGivenRow.laid,fun _ _=>0,⟨#[],noughts,[]⟩,World.laidAll_os _ _ _,World.shaped_of_ZipB (by kernel_rfl) (by kernel_rfl),rfl,(Input.okWide_of_okWideB (by kernel_rfl)).2,⟨⟨ChangeSpec.pre_of_preB (fuel:=12) (by kernel_rfl),?_⟩,sizedMet_of_sizedB (fuel:=12) (by kernel_rfl)⟩,?_⟩
  ·rw[MakeChecks.laidMetH_plain _ _ _ (by kernel_rfl)]
   exact laidMet_laidAll _ (by kernel_rfl) (by kernel_rfl)
  ·simp only[Assume.holds]
   exact⟨by simp[OpenClaim.assume,Rows.senseGivenRow],fun _ _ _ _=>rfl,by simp[OpenClaim.assume,Rows.senseGivenRow],by simp[OpenClaim.assume,Rows.senseGivenRow],by simp[OpenClaim.assume,Rows.senseGivenRow]⟩
 case con=>
  intro w tape i _ _ _ hok hpre _;obtain⟨_,_,_,fn',hfn',_,_,_,_,hval0⟩:=hok
  have e0:fn'=Tryz.f5:=Option.some.inj (hfn'.symm.trans Tryz.func5)
  subst e0;obtain⟨⟨⟨ds,gs,before,hw,_⟩,_⟩,_⟩:=hpre
  have hW:=DataW.Whole.of_heap (w':=w.forCall tape i) (by rfl) hw
  obtain⟨blocks,args,vars⟩:=i
  simp only at hval0 hW
  generalize w.forCall tape ⟨blocks,args,vars⟩=W at hval0 hW ⊢;have hW':=hW;obtain⟨p,q,hA0,hV,rfl,_,_⟩:=hW
  have hA:DataW.TrodAll enc Tryz.prog W 0 (fun _=>true) true Tryz.f5.params.toList args.toList ds p:=hA0
  have hA':=hA
  have hval:∀(j:Nat) t v,Tryz.f5.params[j]?=some t→args[j]?=some v→Value.okWide Tryz.prog W .any w.heap.size t v:=hval0
  rw[Tryz.params5]at hA hval;obtain⟨v0,v1,v2,v3,d0,d1,d2,d3,p0,p1,p2,p3,rfl,rfl,h0,h1,h2,h3⟩:=trodAll_four' hA;obtain⟨rfl,rfl⟩:=trodVars_none hV;obtain⟨c0,rfl,R0⟩:=kne Tryz.underlying37 leaves_37 (hval 0 37 v0 rfl rfl) h0;have R1:=open_row Tryz.underlying38 leaves_38 (hval 1 38 v1 rfl rfl) h1;obtain⟨c2,rfl,R2⟩:=kne Tryz.underlying40 leaves_40 (hval 2 40 v2 rfl rfl) h2;have R3:=open_row Tryz.underlying65 leaves_65 (hval 3 65 v3 rfl rfl) h3;obtain⟨e,Re,rfl⟩:=env_of R0;obtain⟨A,c,r,Rr,rfl⟩:=region_of R1;obtain⟨o,rfl⟩:=entry_of R2;obtain⟨Am,cm,more,⟨hM,hm⟩,rfl⟩:=bytes_of R3
  refine(law_5 e o A c r Am cm more W Re Rr hM hm).mono fun q W' ⟨he,hx⟩=>?_
  subst he
  refine postWith_blind (postWith_of_post ?_ (by rw[hx.os];exact OsLater.refl _))
  have hbel:Below W.heap.size W { W' with os:=W.os }:=⟨rfl,hx.tape,hx.output,hx.size,hx.block⟩
  simp only[List.append_nil]at hW'
  exact⟨_,_,_,[],p,[],hW',trodAll_mk1 (shut_bool Tryz.underlying4 true),kkb laid_out hbel params_rows hA',rfl,hbel.frame _,fun h=>by cases h⟩
end Go.Proofs.YtcgghcicnanliaaGreatDoor
