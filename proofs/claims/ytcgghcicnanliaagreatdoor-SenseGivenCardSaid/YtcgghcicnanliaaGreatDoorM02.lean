/- An evaluator of closed runs: one operation, a list of operations; An evaluator of closed runs; An evaluator of closed runs: regions that draw their order. Conditions: as each statement says. -/
import Derived.Test.YtcgghcicnanliaaGreatDoorM01
import Derived.StillTail
set_option linter.unusedVariables false
set_option linter.unusedSimpArgs false
namespace Go.Ev
section
variable {T:Tab} {P:Program} {ι : In} {h h':Hp} {w w':World} {t:TypeId} {x x' v:Value} {tmps:VT} {a:Act}
theorem kju (hf:kee v=true):VR ι v v:=by
 unfold kee at hf
 split at hf
 ·rename_i cs
  have:=LR.leaves (ι:=ι) hf
  exact by simpa using VR.agg' this
 ·rename_i cs
  have:=LR.leaves (ι:=ι) hf
  exact by simpa using VR.tuple' this
 ·exact .leaf hf
theorem opd_ok (hl:TR ι tmps a.tmps.toList){o:Operand}(ho:opd tmps o=some v):VR ι v (a.eval o):=by
 unfold opd at ho
 split at ho
 ·rename_i t
  obtain⟨v',h1,h2⟩:=hl.get ho
  have h1':a.tmps[t]?=some v':=by simpa using h1
  simp only[Act.eval,Array.getD_eq_getD_getElem?,h1',Option.getD_some]
  exact h2
 ·rw[cond_eq_ite]at ho
  split at ho
  ·rename_i hf;cases ho;exact kju hf
  ·cases ho
 ·cases ho
 ·cases ho;exact .leaf rfl
def EV (ι : In)(tmps:VT)(a:Act)(o:Op):Prop:=∀x v,x∈o.operands.toList→opd tmps x=some v→VR ι v (a.eval x)
theorem TR.ev (hl:TR ι tmps a.tmps.toList)(o:Op):EV ι tmps a o:=fun _ _ _ hv=>opd_ok hl hv
theorem knf:∀ {os:List Operand} {vs:List Value},(∀x v,x∈os→opd tmps x=some v→VR ι v (a.eval x))→opds tmps os=some vs→LR ι vs (os.map a.eval)
 | [],vs,_,ho=>by simp only[opds,Option.some.injEq]at ho;subst ho;exact .nil
 | o::os,vs,hl,ho=>by
  unfold opds at ho
  split at ho
  case h_2=>cases ho
  rename_i v hv
  split at ho
  case h_2=>cases ho
  rename_i r hr
  cases ho
  exact .cons (hl _ _ (by simp) hv) (knf (fun x v hx=>hl x v (by simp[hx])) hr)
theorem opdP_ok:∀ {os:List (Nat × Operand)} {vs:List (Nat × Value)},(∀x v,x∈os.map (·.2)→opd tmps x=some v→VR ι v (a.eval x))→opdP tmps os=some vs→PR ι vs (os.map fun p=>(p.1,a.eval p.2))
 | [],vs,_,ho=>by simp only[opdP,Option.some.injEq]at ho;subst ho;trivial
 | (i,o)::os,vs,hl,ho=>by
  unfold opdP at ho
  split at ho
  case h_2=>cases ho
  rename_i v hv
  split at ho
  case h_2=>cases ho
  rename_i r hr
  cases ho
  exact⟨rfl,hl _ _ (by simp) hv,opdP_ok (fun x v hx=>hl x v (by simp at hx ⊢;exact Or.inr hx)) hr⟩
theorem opdO_ok {o:Option Operand}{r:Option Value}(hl:∀x v,o=some x→opd tmps x=some v→VR ι v (a.eval x))(ho:opdO tmps o=some r):OR ι r (o.map a.eval):=by
 unfold opdO at ho
 split at ho
 ·cases ho;trivial
 ·split at ho
  case h_2=>cases ho
  rename_i v hv
  cases ho
  exact hl _ _ rfl hv
theorem kdj (os:Array Operand)(f:Operand→Value):os.map f=(os.toList.map f).toArray:=by
 apply Array.ext';simp
theorem klz (hT:TabOk T P){o:Oper}(hl:EV ι tmps a o.op)(he:kgp T P tmps o.op=some v):∃v',(execOp a.eval o).run P w=.ok (.value v') w∧VR ι v v':=by
 unfold kgp at he
 split at he
 all_goals (rename_i hop;unfold execOp;simp only[hop])
 ·exact⟨_,rfl,hl _ _ (by simp[hop,Op.operands,Call.operands]) he⟩
 ·exact⟨_,rfl,hl _ _ (by simp[hop,Op.operands,Call.operands]) he⟩
 ·rename_i c p q
  split at he
  case h_2=>cases he
  rename_i t hc
  split at he
  case h_2=>cases he
  rename_i x y hx hy
  cases he
  have h1:=hl _ _ (by simp[hop,Op.operands,Call.operands]) hc
  refine⟨if t then a.eval p else a.eval q,?_,?_⟩
  ·simp only[h1.inv_bool,asBool,Sem.run_bind,Sem.run_pure,Result.andThen_ok]
  ·cases t
   ·exact hl _ _ (by simp[hop,Op.operands,Call.operands]) hy
   ·exact hl _ _ (by simp[hop,Op.operands,Call.operands]) hx
 ·rename_i t ps
  split at he
  case h_2=>cases he
  rename_i vs hvs
  obtain⟨v',h1,h2⟩:=eBuild_ok (w:=w) hT (opdP_ok (fun x v hx=>hl x v (by simp[hop,Op.operands];simpa using hx)) hvs) he
  refine⟨v',?_,h2⟩
  have e:(ps.map fun (i,x)=>(i,a.eval x))=(ps.toList.map fun p=>(p.1,a.eval p.2)).toArray:=by apply Array.ext';simp
  simp only[e,Sem.run_bind,h1,Result.andThen_ok,Sem.run_pure]
 ·rename_i y
  split at he
  ·rename_i b hy
   cases he
   have h1:=hl _ _ (by simp[hop,Op.operands,Call.operands]) hy
   have h2:∃b',a.eval y=.pointer (some b'):=by
    generalize a.eval y=z at h1
    cases h1 with
    | leaf h=>simp[kbx]at h
    | ptr h=>exact⟨_,rfl⟩
   obtain⟨b',hb⟩:=h2;rw[hb]at h1;rw[hb]
   exact⟨_,rfl,h1⟩
  ·rename_i g p q hy
   cases he
   have h1:=hl _ _ (by simp[hop,Op.operands,Call.operands]) hy
   have h2:∃p' q',a.eval y=.func (.func g) p' q':=by
    generalize a.eval y=z at h1
    cases h1 with
    | leaf h=>exact⟨_,_,rfl⟩
    | func=>exact⟨_,_,rfl⟩
   obtain⟨p',q',hb⟩:=h2;rw[hb]at h1;rw[hb]
   exact⟨_,rfl,h1⟩
  ·rename_i g p q hy
   cases he
   have h1:=hl _ _ (by simp[hop,Op.operands,Call.operands]) hy
   have h2:∃g' p' q',a.eval y=.func (.yield g') p' q':=by
    generalize a.eval y=z at h1
    cases h1 with
    | leaf h=>simp[kbx]at h
    | yield=>exact⟨_,_,_,rfl⟩
   obtain⟨g',p',q',hb⟩:=h2;rw[hb]at h1;rw[hb]
   exact⟨_,rfl,h1⟩
  ·cases he
 ·rename_i op t p q yt
  split at he
  case h_2=>cases he
  rename_i u y hu hy
  obtain⟨v',h1,h2⟩:=eqV_ok (w:=w) hT (hl _ _ (by simp[hop,Op.operands,Call.operands]) hu) (hl _ _ (by simp[hop,Op.operands,Call.operands]) hy) he
  exact⟨v',by rw[Sem.run_bind,h1];rfl,h2⟩
 ·rename_i op t p
  split at he
  ·rename_i k n hp
   obtain⟨h1,h2⟩:=kgg (w:=w) he
   rw[(hl _ _ (by simp[hop,Op.operands,Call.operands]) hp).inv_int]
   exact⟨v,by rw[Sem.run_bind,h1];rfl,.leaf h2⟩
  ·rename_i b hp
   obtain⟨h1,h2⟩:=kgg (w:=w) he
   rw[(hl _ _ (by simp[hop,Op.operands,Call.operands]) hp).inv_bool]
   exact⟨v,by rw[Sem.run_bind,h1];rfl,.leaf h2⟩
  ·cases he
 ·rename_i s d p
  split at he
  case h_2=>cases he
  rename_i u hu
  obtain⟨v',h1,h2⟩:=eConvert_ok (w:=w) hT (hl _ _ (by simp[hop,Op.operands,Call.operands]) hu) he
  exact⟨v',by rw[Sem.run_bind,h1];rfl,h2⟩
 ·rename_i fn first cap
  split at he
  case h_2=>cases he
  rename_i p q hp hq
  split at he
  case h_2=>cases he
  cases he
  have h1:=knf (fun x v hx=>hl x v (by simp[hop,Op.operands,Call.operands];first|exact Or.inl (by simpa using hx)|exact Or.inr (by simpa using hx)|simpa using hx)) hp
  have h2:=knf (fun x v hx=>hl x v (by simp[hop,Op.operands,Call.operands];first|exact Or.inl (by simpa using hx)|exact Or.inr (by simpa using hx)|simpa using hx)) hq
  rename_i f
  refine⟨.func (.func f) (first.map a.eval) (cap.map a.eval),by simp only[Instr.makeFunc,Sem.run_bind,Sem.run_pure,Result.andThen_ok],?_⟩
  rw[kdj first,kdj cap]
  exact .func (by simpa using h1.1) (by simpa using h2.1) (fun i v v' x y=>h1.2 i v v' (by simpa using x) (by simpa using y)) (fun i v v' x y=>h2.2 i v v' (by simpa using x) (by simpa using y))
 ·rename_i t p lo hi mx
  split at he
  case h_2=>cases he
  rename_i u l r m hu h1 h2 h3
  obtain⟨v',g1,g2⟩:=eSlice_ok (w:=w) hT (hl _ _ (by simp[hop,Op.operands,Call.operands]) hu) (opdO_ok (fun x v hx=>hl x v (by subst hx;simp[hop,Op.operands])) h1) (opdO_ok (fun x v hx=>hl x v (by subst hx;simp[hop,Op.operands])) h2) (opdO_ok (fun x v hx=>hl x v (by subst hx;simp[hop,Op.operands])) h3) he
  exact⟨v',by rw[Sem.run_bind,g1];rfl,g2⟩
 ·split at he
  case h_2=>cases he
  rename_i u hu
  obtain⟨v',h1,h2⟩:=eFieldAddr_ok (w:=w) hT (hl _ _ (by simp[hop,Op.operands,Call.operands]) hu) he
  exact⟨v',by rw[Sem.run_bind,h1];rfl,h2⟩
 ·split at he
  case h_2=>cases he
  rename_i u hu
  obtain⟨v',h1,h2⟩:=eField_ok (w:=w) hT (hl _ _ (by simp[hop,Op.operands,Call.operands]) hu) he
  exact⟨v',by rw[Sem.run_bind,h1];rfl,h2⟩
 ·split at he
  case h_2=>cases he
  rename_i u y hu hy
  obtain⟨v',h1,h2⟩:=eIndexAddr_ok (w:=w) hT (hl _ _ (by simp[hop,Op.operands,Call.operands]) hu) (hl _ _ (by simp[hop,Op.operands,Call.operands]) hy) he
  exact⟨v',by rw[Sem.run_bind,h1];rfl,h2⟩
 ·split at he
  case h_2=>cases he
  rename_i u y hu hy
  obtain⟨v',h1,h2⟩:=eIndex_ok (w:=w) hT (hl _ _ (by simp[hop,Op.operands,Call.operands]) hu) (hl _ _ (by simp[hop,Op.operands,Call.operands]) hy) he
  exact⟨v',by rw[Sem.run_bind,h1];rfl,h2⟩
 ·rename_i p ix
  split at he
  case h_2=>cases he
  rename_i vs hvs
  obtain⟨vs',hv,hr⟩:=(hl _ _ (by simp[hop,Op.operands,Call.operands]) hvs).inv_tuple
  obtain⟨v',h1,h2⟩:=hr.get he;rw[hv]
  have h1':vs'[ix]?=some v':=by simpa using h1
  exact⟨v',by simp[Instr.extract,h1'],h2⟩
 ·rename_i c
  split at he
  case h_2=>cases he
  rename_i b hb
  split at he
  case h_2=>cases he
  rename_i args hargs
  have hr:=knf (fun x v hx=>hl x v (by simp[hop,Op.operands,Call.operands];first|exact Or.inl (by simpa using hx)|exact Or.inr (by simpa using hx)|simpa using hx)) hargs
  simp only[resolve,hb,Sem.run_bind,Sem.run_pure,Result.andThen_ok,invoke,kdj c.args a.eval];generalize Array.map _ c.args=cs;obtain⟨v',h1,h2⟩:=eBuiltinP_ok (w:=w) (ts:=c.argTypes.toList) (ty:=o.type) (cs:=cs) hT hr he
  exact⟨v',by simpa using h1,h2⟩
 ·cases he
end
structure Enters (P:Program)(g:FuncId):Prop where
 at_:∃fn,P.funcs[g]?=some fn∧fn.body.isNone=false∧(fn.name == "runtime.NumGoroutine")=false
def CallS (T:Tab)(P:Program)(ι : In)(h:Hp)(w:World)(f:FuncId)(args':Array Value)(v:Value)(h':Hp):Prop:=
 ∀cs,∃ ι' v' w' fr,Steps P (lone (Frame.enter P f args' .normal) cs w) (lone fr cs w')∧fr.fn=f∧fr.leaving P w' (.returned v')∧VR ι' v v'∧M T ι' h' w'∧Evo ι h w ι' h' w'
def RoundS (T:Tab)(P:Program)(ι : In)(h:Hp)(w:World)(l:Nat)(args':Array Value)(v:Value)(h':Hp):Prop:=
 ∃f tmps assign body,(Instr.yield l args').run P w=.ok (.round l f tmps assign body) w ∧
  ∀c cs,∃ ι' v' w',Steps P (lone (Frame.round l f tmps assign body .normal) (c::cs) w) (lone (c.finish v') cs w')∧VR ι' v v'∧M T ι' h' w'∧Evo ι h w ι' h' w'
def DR (ι : In):List Nat→List Deferred→Prop
 | [],[]=>True
 | d::r,e::s=>(∃l,ι d=some l∧e={ target:=.collected l.blk,args:=#[] })∧DR ι r s
 | _,_=>False
def AtLeave (j:Option Code)(todo:List Item):Prop:=
 match j with
 | none=>todo=[]
 | some .ret=>∃k,todo=.code .ret::k
 | some (.exit id)=>∃k,exitTo id k=none∧todo=.code (.exit id)::k
 | _=>False
def RndR (ι : In)(rnd ro:Option Nat):Prop:=
 match rnd with
 | none=>ro=none
 | some l=>∃lc,ι l=some lc∧ro=some lc.blk
def klm (T:Tab)(P:Program)(ι : In)(h:Hp)(w:World)(b:Frame)(a:Act)(todo:List Item)(j:Option Code)(tmps':VT)(defs':List Nat)(h':Hp):Prop:=
 ∀cs,∃ ι' a' todo' w',Steps P (lone (b.atR a todo) cs w) (lone (b.atR a' todo') cs w')∧TR ι' tmps' a'.tmps.toList∧DR ι' defs' a'.defers∧AtLeave j todo'∧M T ι' h' w'∧Evo ι h w ι' h' w'
structure Sound (T:Tab)(P:Program)(sf:Req→Option Res):Prop where
 call:∀f args h v h',sf (.call f args h)=some (.val v h')→∀ ι w args',M T ι h w→LR ι args args'.toList→CallS T P ι h w f args' v h'
 enters:∀g args h r,sf (.call g args h)=some r→Enters P g
 round:∀l args h v h',sf (.round l args h)=some (.val v h')→∀ ι w lc args',M T ι h w→ι l=some lc→LR ι args args'.toList→RoundS T P ι h w lc.blk args' v h'
 frame:∀fn rnd tmps defs todo h j tmps' defs' h',sf (.frame fn rnd tmps defs todo h)=some (.left j tmps' defs' h')→∀ ι w b a,M T ι h w→b.fn=fn→b.kind=.normal→RndR ι rnd b.roundOf →
  TR ι tmps a.tmps.toList→DR ι defs a.defers→klm T P ι h w b a todo j tmps' defs' h'
theorem DR.mono {ι j:In}(hj:ι.le j):∀ {ds:List Nat} {es:List Deferred},DR ι ds es→DR j ds es
 | [],[],_=>trivial
 | [],_::_,h=>h.elim
 | _::_,[],h=>h.elim
 | _::_,_::_,⟨⟨l,h1,h2⟩,h3⟩=>⟨⟨l,hj _ _ h1,h2⟩,h3.mono hj⟩
theorem RndR.mono {ι j:In}(hj:ι.le j){rnd ro:Option Nat}(h:RndR ι rnd ro):RndR j rnd ro:=by
 cases rnd with
 | none=>exact h
 | some l=>obtain⟨lc,h1,h2⟩:=h;exact⟨lc,hj _ _ h1,h2⟩
section
variable {T:Tab} {P:Program} {self:Req→Option Res} {ι : In} {h h':Hp} {w w':World} {t:TypeId} {x x' v:Value} {tmps tmps':VT} {a:Act} {b:Frame}
def OpS (T:Tab)(P:Program)(ι : In)(h:Hp)(w:World)(b:Frame)(a:Act)(o:Oper)(v:Value)(h':Hp):Prop:=
 ∀(ops:Array Oper) (i:Nat) (rest:List Nat) (k:List Item) (cs:List Frame),ops[i]?=some o→Region.wanted o (yielded ops a.tmps)=true →
  ∃ ι' v' w',Steps P (lone (b.atR a (.inRegion ops (i::rest)::k)) cs w) (lone (b.atR (a.put o.dst v') (.inRegion ops rest::k)) cs w')∧VR ι' v v'∧M T ι' h' w'∧Evo ι h w ι' h' w'
theorem kex {ops:Array Oper}{i:Nat}{rest:List Nat}{k:List Item}{o:Oper}(ho:ops[i]?=some o)(v:Value):(b.atR a (.inRegion ops (i::rest)::k)).finish v=b.atR (a.put o.dst v) (.inRegion ops rest::k):=by
 rw[Frame.finish_atR,ho];rfl
theorem kdd {o:Oper}{ι':In}{v':Value}(hd:∀c,o.op≠.defer c)(hr:(execOp a.eval o).run P w=.ok (.value v') w')(hv:VR ι' v v')(hm:M T ι' h' w')(he:Evo ι h w ι' h' w'):OpS T P ι h w b a o v h':=by
 intro ops i rest k cs ho hw
 refine⟨ι',v',w',.one (step_lone_go ?_),hv,hm,he⟩
 rw[stepGR_op ho hw,Oper.semAt_eq _ _ _ hd,←kex ho]
 simp[stepG.apply,hr]
theorem op_skip {o:Oper}{ι':In}(hd:∀c,o.op≠.defer c)(hr:(execOp a.eval o).run P w=.ok .skip w')(hm:M T ι' h' w')(he:Evo ι h w ι' h' w'):OpS T P ι h w b a o undef h':=by
 intro ops i rest k cs ho hw
 refine⟨ι',undef,w',.one (step_lone_go ?_),VR.undef,hm,he⟩
 rw[stepGR_op ho hw,Oper.semAt_eq _ _ _ hd,←kex ho]
 simp[stepG.apply,hr]
theorem op_call {o:Oper}{f:FuncId}{args:Array Value}(hd:∀c,o.op≠.defer c)(hr:(execOp a.eval o).run P w=.ok (.enter f args) w)(hc:CallS T P ι h w f args v h'):OpS T P ι h w b a o v h':=by
 intro ops i rest k cs ho hw;obtain⟨ι',v',w',fr,h1,h2,h3,h4,h5,h6⟩:=hc (b.atR a (.inRegion ops (i::rest)::k)::cs)
 refine⟨ι',v',w',.head (m₁:=lone (Frame.enter P f args .normal) (b.atR a (.inRegion ops (i::rest)::k)::cs) w) (step_lone_go ?_) (h1.trans (.one ?_)),h4,h5,h6⟩
 ·rw[stepGR_op ho hw,Oper.semAt_eq _ _ _ hd]
  simp[stepG.apply,hr,Frame.atR]
 ·rw[←kex ho];exact step_leave_returned h3
theorem op_round {o:Oper}{l:Nat}{args:Array Value}(hd:∀c,o.op≠.defer c)(hr:(execOp a.eval o).run P w=(Instr.yield l args).run P w)(hc:RoundS T P ι h w l args v h'):OpS T P ι h w b a o v h':=by
 obtain⟨f,tmps,assign,body,h0,hc⟩:=hc;intro ops i rest k cs ho hw;obtain⟨ι',v',w',h1,h4,h5,h6⟩:=hc (b.atR a (.inRegion ops (i::rest)::k)) cs
 refine⟨ι',v',w',.head (m₁:=lone (Frame.round l f tmps assign body .normal) (b.atR a (.inRegion ops (i::rest)::k)::cs) w) (step_lone_go ?_) ?_,h4,h5,h6⟩
 ·rw[stepGR_op ho hw,Oper.semAt_eq _ _ _ hd]
  simp[stepG.apply,hr,h0,Frame.atR]
 ·rw[←kex ho];exact h1
theorem asVal_ok {r:Option Res}(hr:asVal r=some (v,h')):r=some (.val v h'):=by
 unfold asVal at hr
 split at hr
 ·cases hr;rfl
 ·cases hr
theorem VR.inv_func {g:FuncId}{p q:Array Value}(hv:VR ι (.func (.func g) p q) x'):∃p' q',x'=.func (.func g) p' q'∧LR ι p.toList p'.toList∧LR ι q.toList q'.toList:=by
 cases hv with
 | leaf h=>
  simp[kbx]at h
  obtain⟨rfl,rfl⟩:=h
  exact⟨_,_,rfl,.nil,.nil⟩
 | func ha hb h h'=>
  exact⟨_,_,rfl,⟨by simpa using ha,fun i v v' x y=>h i v v' (by simpa using x) (by simpa using y)⟩,⟨by simpa using hb,fun i v v' x y=>h' i v v' (by simpa using x) (by simpa using y)⟩⟩
theorem VR.inv_yield {l:Nat}{p q:Array Value}(hv:VR ι (.func (.yield l) p q) x'):∃lc,ι l=some lc∧x'=.func (.yield lc.blk) #[] #[]:=by
 cases hv with
 | leaf h=>simp[kbx]at h
 | yield h=>exact⟨_,h,rfl⟩
theorem Enters.run {g:FuncId}(e:Enters P g)(args:Array Value):(callFunc g args).run P w=.ok (.enter g args) w:=by
 obtain⟨fn,h1,h2,h3⟩:=e.at_;simp only[callFunc,Sem.run_bind,run_program,Result.andThen_ok,h1,h3,Bool.false_eq_true,if_false,h2,Sem.run_pure]
theorem eCall_ok (hs:Sound T P self)(m:M T ι h w){c:Call}{o:Oper}{f:Operand}(hop:o.op=.call c)(hcal:c.callee=.value f){fv:Value}{args:List Value}(hf:VR ι fv (a.eval f))(ha:LR ι args (c.args.toList.map a.eval))
  (he:eCall self h fv args=some (v,h')):OpS T P ι h w b a o v h':=by
 have hd:∀c,o.op≠.defer c:=fun c hc=>by rw[hop]at hc;cases hc
 unfold eCall at he
 split at he
 ·rename_i g first cap
  have he:=asVal_ok he;obtain⟨p',q',hx,hp,hq⟩:=hf.inv_func
  refine op_call (f:=g) (args:=p'++c.args.map a.eval++q') hd ?_ (hs.call _ _ _ _ _ he ι w _ m ?_)
  ·unfold execOp
   simp only[hop,resolve,hcal,hx,Deferred.ofValue,Sem.run_bind,Sem.run_pure,Result.andThen_ok,invoke]
   exact(hs.enters _ _ _ _ he).run _
  ·rw[kdj c.args]
   simpa using (hp.append ha).append hq
 ·rename_i l first cap
  rw[cond_eq_ite]at he
  split at he
  case isFalse=>cases he
  have he:=asVal_ok he;obtain⟨lc,hlc,hx⟩:=hf.inv_yield
  refine op_round (l:=lc.blk) (args:=#[]++c.args.map a.eval) hd ?_ (hs.round _ _ _ _ _ he ι w lc _ m hlc ?_)
  ·unfold execOp
   simp only[hop,resolve,hcal,hx,Deferred.ofValue,Sem.run_bind,Sem.run_pure,Result.andThen_ok,invoke]
  ·rw[kdj c.args]
   simpa using ha
 ·cases he
theorem eMem_ok (hT:TabOk T P)(hs:Sound T P self)(m:M T ι h w){o:Oper}(hl:EV ι tmps a o.op)(he:eMem T P self tmps h o.op=some (v,h')):OpS T P ι h w b a o v h':=by
 unfold eMem at he
 split at he
 all_goals (rename_i hop)
 ·obtain⟨ι',v',w',h1,h2,h3,h4⟩:=eAlloc_ok hT m he
  refine kdd (fun c hc=>(by rw[hop]at hc;cases hc)) ?_ h2 h3 h4
  unfold execOp;simp only[hop];rw[Sem.run_bind,h1];rfl
 ·split at he
  case h_2=>cases he
  rename_i u hu
  obtain⟨ι',v',w',h1,h2,h3,h4⟩:=eBox_ok (P:=P) m (hl _ _ (by simp[hop,Op.operands,Call.operands]) hu) he
  refine kdd (fun c hc=>(by rw[hop]at hc;cases hc)) ?_ h2 h3 h4
  unfold execOp;simp only[hop];rw[Sem.run_bind,h1];rfl
 ·rename_i t n ps
  split at he
  case h_2=>cases he
  rename_i vs hvs
  obtain⟨ι',v',w',h1,h2,h3,h4⟩:=kpa hT m (opdP_ok (fun x v hx=>hl x v (by simp[hop,Op.operands];simpa using hx)) hvs) he
  refine kdd (fun c hc=>(by rw[hop]at hc;cases hc)) ?_ h2 h3 h4
  have e:(ps.map fun (i,x)=>(i,a.eval x))=(ps.toList.map fun p=>(p.1,a.eval p.2)).toArray:=by apply Array.ext';simp
  unfold execOp;simp only[hop,e];rw[Sem.run_bind,h1];rfl
 ·split at he
  case h_2=>cases he
  rename_i u hu
  obtain⟨rfl,ad,v',h0,h1,h2⟩:=eLoad_ok hT m (hl _ _ (by simp[hop,Op.operands,Call.operands]) hu) he
  refine kdd (fun c hc=>(by rw[hop]at hc;cases hc)) (w':=w) ?_ h2 m (.refl m)
  unfold execOp;simp only[hop,h0,Instr.loadAt,Instr.sureAddr,Sem.run_bind,Sem.run_pure,Result.andThen_ok,h1]
 ·split at he
  case h_2=>cases he
  rename_i u y hu hy
  obtain⟨rfl,w',h1,h2,h3⟩:=eStore_ok hT m (hl _ _ (by simp[hop,Op.operands,Call.operands]) hu) (hl _ _ (by simp[hop,Op.operands,Call.operands]) hy) he
  refine op_skip (fun c hc=>(by rw[hop]at hc;cases hc)) ?_ h2 h3
  unfold execOp;simp only[hop];rw[Sem.run_bind,h1];rfl
 ·cases he
  have hn:=m.new ⟨w.heap.size,0,0⟩ (.map #[] 0) (.map [] 0) rfl ⟨#[],by simp,.nil⟩
  refine kdd (fun c hc=>(by rw[hop]at hc;cases hc)) (v':=.map (some w.heap.size)) ?_ (.map (kdb ι h.next ⟨w.heap.size,0,0⟩)) hn.1 hn.2
  unfold execOp;simp only[hop,Instr.makeMap,Option.map_none,Sem.run_bind,Sem.run_pure,Result.andThen_ok,run_newObj]
 ·split at he
  case h_2=>cases he
  rename_i u y hu hy
  obtain⟨ι',v',w',h1,h2,h3,h4⟩:=eMakeSlice_ok hT m (hl _ _ (by simp[hop,Op.operands,Call.operands]) hu) (hl _ _ (by simp[hop,Op.operands,Call.operands]) hy) he
  refine kdd (fun c hc=>(by rw[hop]at hc;cases hc)) ?_ h2 h3 h4
  unfold execOp;simp only[hop];rw[Sem.run_bind,h1];rfl
 ·split at he
  case h_2=>cases he
  rename_i u y hu hy
  obtain⟨rfl,v',h1,h2⟩:=eLookup_ok hT m (hl _ _ (by simp[hop,Op.operands,Call.operands]) hu) (hl _ _ (by simp[hop,Op.operands,Call.operands]) hy) he
  refine kdd (fun c hc=>(by rw[hop]at hc;cases hc)) (w':=w) ?_ h2 m (.refl m)
  unfold execOp;simp only[hop];rw[Sem.run_bind,h1];rfl
 ·split at he
  case h_2=>cases he
  rename_i u y z hu hy hz
  obtain⟨rfl,w',h1,h2,h3⟩:=kjv hT m (hl _ _ (by simp[hop,Op.operands,Call.operands]) hu) (hl _ _ (by simp[hop,Op.operands,Call.operands]) hy) (hl _ _ (by simp[hop,Op.operands,Call.operands]) hz) he
  refine op_skip (fun c hc=>(by rw[hop]at hc;cases hc)) ?_ h2 h3
  unfold execOp;simp only[hop];rw[Sem.run_bind,h1];rfl
 ·split at he
  case h_2=>cases he
  rename_i u y z hu hy hz
  obtain⟨rfl,w',h1,h2,h3⟩:=kjv hT m (hl _ _ (by simp[hop,Op.operands,Call.operands]) hu) (hl _ _ (by simp[hop,Op.operands,Call.operands]) hy) (hl _ _ (by simp[hop,Op.operands,Call.operands]) hz) he
  refine op_skip (fun c hc=>(by rw[hop]at hc;cases hc)) ?_ h2 h3
  unfold execOp;simp only[hop];rw[Sem.run_bind,h1];rfl
 ·rename_i c
  split at he
  case h_2=>cases he
  rename_i args hargs
  have hr:=knf (fun x v hx=>hl x v (by simp[hop,Op.operands,Call.operands];first|exact Or.inl (by simpa using hx)|exact Or.inr (by simpa using hx)|simpa using hx)) hargs
  split at he
  ·rename_i bi hb
   have key:∃ ι' v' w',(execOp a.eval o).run P w=.ok (.value v') w'∧VR ι' v v'∧M T ι' h' w'∧Evo ι h w ι' h' w':=by
    unfold execOp;simp only[hop,resolve,hb,Sem.run_bind,Sem.run_pure,Result.andThen_ok,invoke,kdj c.args a.eval];generalize Array.map _ c.args=cs;obtain⟨ι',v',w',h1,h2⟩:=eBuiltin_ok (ts:=c.argTypes.toList) (ty:=o.type) (cs:=cs) hT m hr he
    exact⟨ι',v',w',by simpa using h1,h2⟩
   obtain⟨ι',v',w',h1,h2,h3,h4⟩:=key
   exact kdd (fun c hc=>(by rw[hop]at hc;cases hc)) h1 h2 h3 h4
  ·rename_i f hf
   split at he
   case h_2=>cases he
   rename_i fv hfv
   exact eCall_ok hs m hop hf (hl _ _ (by simp[hop,Op.operands,Call.operands,hf]) hfv) hr he
  ·cases he
 ·cases he
theorem keq {o:Op}(hp:kdc o=true)(c:Call):o≠.defer c:=fun h=>by subst h;simp[kdc]at hp
theorem eOp_ok (hT:TabOk T P)(hs:Sound T P self)(m:M T ι h w)(hl:TR ι tmps a.tmps.toList){o:Oper}(he:eOp T P self tmps h o=some (v,h')):OpS T P ι h w b a o v h':=by
 unfold eOp at he;rw[cond_eq_ite]at he
 split at he
 ·rename_i hp
  split at he
  case h_2=>cases he
  rename_i u hu
  cases he;obtain⟨v',h1,h2⟩:=klz (w:=w) hT (hl.ev _) hu
  exact kdd (keq hp) h1 h2 m (.refl m)
 ·exact eMem_ok hT hs m (hl.ev _) he
theorem TR.put (hl:TR ι tmps a.tmps.toList){v v':Value}(hv:VR ι v v')(d:Option Tmp):TR ι (putL tmps d v) (a.put d v').tmps.toList:=by
 cases d with
 | none=>exact hl
 | some t=>simpa[putL,Act.put]using hl.set hv t
theorem kei (d:Option Tmp)(v:Value):(a.put d v).defers=a.defers:=by cases d<;>rfl
theorem wanted_ok {ops:Array Oper}(hl:TR ι tmps a.tmps.toList)(o:Oper):kaw ops.toList tmps o=Region.wanted o (yielded ops a.tmps):=by
 unfold kaw Region.wanted yielded
 cases hg:o.guard with
 | none=>rfl
 | some p=>
  obtain⟨j,want⟩:=p;simp only[Array.getElem?_toList]
  cases hd:(ops[j]?).bind (·.dst) with
  | none=>simp
  | some t=>
   simp only[Option.bind_some]
   cases ht:tmps.get t with
   | none=>
    have h1:=VT.none_iff.1 ht;rw[hl.1]at h1
    have h2:a.tmps[t]?=none:=by simpa using h1
    simp[h2]
   | some v=>
    obtain⟨v',h1,h2⟩:=hl.get ht
    have h3:a.tmps[t]?=some v':=by simpa using h1
    rw[h3]
    cases h2 with
    | leaf h=>cases v<;>first|(rename_i q;cases q<;>cases want<;>rfl)|rfl
    | _=>rfl
theorem eOps_ok (hT:TabOk T P)(hs:Sound T P self){ops:Array Oper}:∀ {L:List Oper} {is:List Nat} {tmps:VT} {h:Hp} {ι : In} {w:World} {a:Act},is.length=L.length→(∀(j:Nat) o i,L[j]?=some o→is[j]?=some i→ops[i]?=some o)→M T ι h w→TR ι tmps a.tmps.toList →
  eOps T P self ops.toList L tmps h=some (tmps',h')→∀(k:List Item) (cs:List Frame),∃ ι' a' w',Steps P (lone (b.atR a (.inRegion ops is::k)) cs w) (lone (b.atR a' (.inRegion ops []::k)) cs w')∧TR ι' tmps' a'.tmps.toList∧a'.defers=a.defers∧M T ι' h' w'∧Evo ι h w ι' h' w'
 | [],is,tmps,h,ι,w,a,hlen,_,m,hl,he,k,cs=>by
  simp only[eOps,Option.some.injEq,Prod.mk.injEq]at he;obtain⟨rfl,rfl⟩:=he
  have:is=[]:=List.length_eq_zero_iff.1 hlen
  subst this
  exact⟨ι,a,w,.refl _ _,hl,rfl,m,.refl m⟩
 | o::L,is,tmps,h,ι,w,a,hlen,hat,m,hl,he,k,cs=>by
  cases is with
  | nil=>simp at hlen
  | cons i is=>
   have ho:=hat 0 o i rfl rfl
   have hat':∀(j:Nat) o i,L[j]?=some o→is[j]?=some i→ops[i]?=some o:=fun j o i x y=>hat (j+1) o i (by simpa using x) (by simpa using y)
   have hlen':is.length=L.length:=by simpa using hlen
   unfold eOps at he;rw[cond_eq_ite,wanted_ok hl]at he
   split at he
   ·rename_i hw
    split at he
    case h_2=>cases he
    rename_i v h1 hv
    obtain⟨ι',v',w',s1,s2,s3,s4⟩:=eOp_ok (b:=b) hT hs m hl hv ops i is k cs ho hw;obtain⟨ι'',a',w'',r1,r2,r3,r4,r5⟩:=eOps_ok hT hs hlen' hat' s3 ((hl.mono s4.le).put s2 o.dst) he k cs
    exact⟨ι'',a',w'',s1.trans r1,r2,r3.trans (kei _ _),r4,s4.trans m r5⟩
   ·rename_i hw
    obtain⟨ι'',a',w'',r1,r2,r3,r4,r5⟩:=eOps_ok hT hs hlen' hat' m (hl.put VR.undef o.dst) he k cs
    have hsk:=stepR_op_skip (P:=P) (b:=b) (a:=a) (k:=k) (cs:=cs) (w:=w) (ops:=ops) (i:=i) (rest:=is) (by simp[ho];simpa using hw)
    simp only[ho,Option.bind_some]at hsk
    exact⟨ι'',a',w'',.head hsk r1,r2,r3.trans (kei _ _),r4,r5⟩
end
theorem fold_bits (g:Nat→Nat):∀(l:List Edge) (s i:Nat),
  (l.foldl (fun s e=>bif Region.binds .any e then s ||| 2 ^ e.on ||| g e.on else s) s).testBit i=true↔s.testBit i=true∨∃e∈l,Region.binds .any e=true∧(e.on=i∨(g e.on).testBit i=true)
 | [],s,i=>by simp
 | e::l,s,i=>by
  rw[List.foldl_cons,fold_bits g l]
  cases hb:Region.binds .any e with
  | false=>simp[hb]
  | true=>
   simp only[cond_true,Nat.testBit_or,Nat.testBit_two_pow,Bool.or_eq_true,decide_eq_true_eq,List.mem_cons,exists_eq_or_imp,hb,true_and]
   constructor
   ·rintro(((h|h)|h)|h)
    ·exact .inl h
    ·exact .inr (.inl (.inl h))
    ·exact .inr (.inl (.inr h))
    ·exact .inr (.inr h)
   ·rintro(h|((h|h)|h))
    ·exact .inl (.inl (.inl h))
    ·exact .inl (.inl (.inr h))
    ·exact .inl (.inr h)
    ·exact .inr h
theorem kek {α : Type}{l:List α}{f:α × Nat→Bool}(h:l.zipIdx.all f=true){j:Nat}{x:α}(hj:l[j]?=some x):f (x,j)=true:=by
 refine List.all_eq_true.1 h (x,j) ?_
 rw[List.mem_iff_getElem?]
 exact⟨j,by simp[hj]⟩
structure PlanF (ops:List Oper)(p:Plan):Prop where
 lt:∀(j:Nat) (o:Oper),ops[j]?=some o→∀e∈o.after,Region.binds .any e=true→e.on<j
 bit:∀(j:Nat) (o:Oper),ops[j]?=some o→∀i,(p.bs.getD j 0).testBit i=true↔∃e∈o.after,Region.binds .any e=true∧(e.on=i∨(p.bs.getD e.on 0).testBit i=true)
 own:∀(j:Nat) (o:Oper) (d:Tmp),ops[j]?=some o→o.dst=some d→d ∉ kiv o
 uses:∀(i j:Nat) (o q:Oper) (d:Tmp),ops[j]?=some o→ops[i]?=some q→q.dst=some d→i≠j→d∈kiv o→(p.bs.getD j 0).testBit i=true∨(i∈p.tail∧(p.bs.getD i 0).testBit j=true)
 dst:∀(i j:Nat) (o q:Oper) (d:Tmp),ops[j]?=some o→ops[i]?=some q→q.dst=some d→i≠j→o.dst≠some d
 guard:∀(j:Nat) (o:Oper) (i:Nat) (w:Bool),ops[j]?=some o→o.guard=some (i,w)→(p.bs.getD j 0).testBit i=true
 cover:∀j,j<ops.length→j∈p.head∨j∈p.tail
 inside:∀j,j∈p.head∨j∈p.tail→j<ops.length
 headTail:∀i∈p.head,∀j∈p.tail,(p.bs.getD i 0).testBit j=false∧i≠j
 tailHead:∀i∈p.tail,∀j∈p.head,(∀o:Oper,ops[j]?=some o→kdc o.op=false∧loadB o.op=false)→(p.bs.getD i 0).testBit j=true
 sort:sortB p.head=true
 chain:chainB p.bs p.tail=true
theorem planF {ops:List Oper}{p:Plan}(h:planOk ops p=true):PlanF ops p:=by
 simp only[planOk,Bool.and_eq_true]at h;obtain⟨⟨⟨⟨⟨⟨⟨⟨h1,h2⟩,h3⟩,h4⟩,h5⟩,h6⟩,h7⟩,h8⟩,h9⟩:=h;simp only[befOk,Bool.and_eq_true]at h1;obtain⟨_,h1⟩:=h1
 have k1:=fun j o (hj:ops[j]?=some o)=>kek h1 hj
 simp only[Bool.and_eq_true,Nat.beq_eq]at k1
 have k2:=fun j o (hj:ops[j]?=some o)=>kek h2 hj
 have k3:=fun j o (hj:ops[j]?=some o)=>kek h3 hj
 refine⟨fun j o hj e he hb=>?_,fun j o hj i=>?_,fun j o d hj hd=>?_,fun i j o q d hj hi hd hne hu=>?_,fun i j o q d hj hi hd hne=>?_,fun j o i w hj hg=>?_,fun j hj=>?_,fun j hj=>?_,fun i hi j hj=>?_,fun i hi j hj hp=>?_,h8,h9⟩
 ·have:=List.all_eq_true.1 (k1 j o hj).1 e (by simpa using he)
  simp only[hb,Bool.not_true,Bool.false_or]at this
  simp[Nat.blt]at this
  omega
 ·rw[(k1 j o hj).2,fold_bits (fun q=>p.bs.getD q 0)]
  simp
 ·have:=kek (k2 j o hj) hj
  simp only[hd,Nat.beq_refl,cond_true]at this
  simpa using this
 ·have:=kek (k2 j o hj) hi
  have hb:Nat.beq i j=false:=by rw[Bool.eq_false_iff];simpa using hne
  simp only[hd,hb,cond_false,Bool.and_eq_true,Bool.or_eq_true]at this
  rcases this.1 with (h|h)|h
  ·simp[hu]at h
  ·exact .inl h
  ·exact .inr ⟨by simpa using h.1,h.2⟩
 ·have:=kek (k2 j o hj) hi
  have hb:Nat.beq i j=false:=by rw[Bool.eq_false_iff];simpa using hne
  simp only[hd,hb,cond_false,Bool.and_eq_true]at this;intro hoe;have h:=this.2;rw[hoe]at h
  simp at h
 ·have:=k3 j o hj
  simp only[hg]at this
  exact this
 ·have:=List.all_eq_true.1 h4 j (List.mem_range.2 hj)
  simpa using this
 ·have:=List.all_eq_true.1 h5 j (List.mem_append.2 hj)
  simp[Nat.blt]at this
  omega
 ·have:=List.all_eq_true.1 (List.all_eq_true.1 h6 i hi) j hj
  simp only[Bool.and_eq_true,Bool.not_eq_true',Bool.not_eq_eq_eq_not,Bool.not_true]at this
  exact⟨this.1,fun e=>by subst e;simp at this⟩
 ·refine List.all_eq_true.1 (List.all_eq_true.1 h7 i hi) j (List.mem_filter.2 ⟨hj,?_⟩)
  cases ho:ops[j]? with
  | none=>rfl
  | some o=>simp[(hp o ho).1,(hp o ho).2]
section
variable {ops:List Oper} {p:Plan}
theorem PlanF.bit_lt (F:PlanF ops p):∀(j:Nat) {o:Oper} {i:Nat},ops[j]?=some o→(p.bs.getD j 0).testBit i=true→i<j:=by
 intro j
 induction j using Nat.strongRecOn with
 | _ j ih=>
  intro o i hj hb
  obtain⟨e,he,hbe,h|h⟩:=(F.bit j o hj i).1 hb
  ·rw[←h];exact F.lt j o hj e he hbe
  ·have hlt:=F.lt j o hj e he hbe
   have hjl:j<ops.length:=(List.getElem?_eq_some_iff.1 hj).1
   exact Nat.lt_trans (ih e.on hlt (List.getElem?_eq_getElem (by omega)) h) hlt
theorem PlanF.trans (F:PlanF ops p):∀(j:Nat) {o:Oper} {i q:Nat},ops[j]?=some o→(p.bs.getD j 0).testBit i=true→(p.bs.getD i 0).testBit q=true→(p.bs.getD j 0).testBit q=true:=by
 intro j
 induction j using Nat.strongRecOn with
 | _ j ih=>
  intro o i q hj hb hq
  obtain⟨e,he,hbe,h|h⟩:=(F.bit j o hj i).1 hb
  ·subst h;exact(F.bit j o hj q).2 ⟨e,he,hbe,.inr hq⟩
  ·have hlt:=F.lt j o hj e he hbe
   have hjl:j<ops.length:=(List.getElem?_eq_some_iff.1 hj).1
   exact(F.bit j o hj q).2 ⟨e,he,hbe,.inr (ih e.on hlt (List.getElem?_eq_getElem (by omega)) h hq)⟩
end
def khz (ops:Array Oper)(listed:Array Bool):Prop:=
 listed.size=ops.size∧∀j oj,ops[j]?=some oj→listed.getD j false=true→∀e∈oj.after,Region.binds .any e=true→listed.getD e.on false=true
section
variable {ops:Array Oper} {p:Plan} {listed:Array Bool}
theorem khz.set (c:khz ops listed){i:Nat}(hi:i∈Region.ready .any ops listed):khz ops (listed.setIfInBounds i true):=by
 obtain⟨_,oi,hoi,hall⟩:=mem_ready.1 hi
 refine⟨by simp[c.1],fun j oj hj hl e he hb=>?_⟩
 by_cases hij:i=j
 ·subst hij
  have:oj=oi:=Option.some.inj (hj.symm.trans hoi)
  subst this
  exact getD_set_true (hall e he hb)
 ·rw[getD_set_ne false hij]at hl
  exact getD_set_true (c.2 j oj hj hl e he hb)
theorem khz.bits (c:khz ops listed)(F:PlanF ops.toList p):∀(j:Nat) {i:Nat},listed.getD j false=true∨j∈Region.ready .any ops listed→(p.bs.getD j 0).testBit i=true→j<ops.size→listed.getD i false=true:=by
 intro j
 induction j using Nat.strongRecOn with
 | _ j ih=>
  intro i hj hb hlt
  have hoj:ops.toList[j]?=some ops[j]:=by simp[hlt]
  obtain⟨e,he,hbe,h⟩:=(F.bit j _ hoj i).1 hb
  have hl:listed.getD e.on false=true:=by
   rcases hj with hj|hj
   ·exact c.2 j _ (by simp[hlt]) hj e he hbe
   ·obtain⟨_,oj,ho,hall⟩:=mem_ready.1 hj
    have:oj=ops[j]:=by simpa[hlt]using ho.symm
    subst this
    exact hall e he hbe
  rcases h with h|h
  ·rw[←h];exact hl
  ·have hlt':=F.lt j _ hoj e he hbe
   exact ih e.on hlt' (.inl hl) h (by omega)
theorem khz.done (c:khz ops listed)(F:PlanF ops.toList p)(hr:Region.ready .any ops listed=[]):∀j,j<ops.size→listed.getD j false=true:=by
 intro j
 induction j using Nat.strongRecOn with
 | _ j ih=>
  intro hlt
  cases hl:listed.getD j false with
  | true=>rfl
  | false=>
   have:j∈Region.ready .any ops listed:=mem_ready.2 ⟨getD_in (by rw[c.1];exact hlt) hl,ops[j],by simp[hlt],fun e he hb=>by
    have hlt':=F.lt j ops[j] (by simp[hlt]) e he hb
    exact ih e.on hlt' (by omega)⟩
   rw[hr]at this;cases this
end
theorem any_run {P:Program}{ops:Array Oper}{b:Frame}{Inv:Array Bool→Act→World→Prop}{Fin:Act→World→Prop}
  (step:∀listed a w i,Inv listed a w→i∈Region.ready .any ops listed→∀rest k cs,∃a' w',Steps P (lone (b.atR a (.inRegion ops (i::rest)::k)) cs w) (lone (b.atR a' (.inRegion ops rest::k)) cs w')∧Inv (listed.setIfInBounds i true) a' w')
  (done:∀listed a w,Inv listed a w→Region.ready .any ops listed=[]→Fin a w)
  (size:∀listed a w,Inv listed a w→listed.size=ops.size) :
  ∀(fuel t:Nat) (listed:Array Bool) (a:Act) (w:World),Inv listed a w→((List.range ops.size).filter fun j=>!listed.getD j true).length≤fuel →
   ∀k cs,∃a' w',Steps P (lone (b.atR a (.inRegion ops (Region.linearise.go .any ops fuel t listed [])::k)) cs w) (lone (b.atR a' (.inRegion ops []::k)) cs w')∧Fin a' w':=by
 intro fuel
 induction fuel with
 | zero=>
  intro t listed a w hI hf k cs
  refine⟨a,w,.refl _ _,done listed a w hI ?_⟩
  have h0:(List.range ops.size).filter (fun j=>!listed.getD j true)=[]:=List.length_eq_zero_iff.1 (by omega)
  refine List.eq_nil_iff_forall_not_mem.2 fun j hj=>?_
  obtain⟨h1,o,h2,_⟩:=mem_ready.1 hj
  have hlt:j<ops.size:=(Array.getElem?_eq_some_iff.1 h2).1
  have:j∈(List.range ops.size).filter (fun j=>!listed.getD j true):=List.mem_filter.2 ⟨List.mem_range.2 hlt,by simp only[h1];rfl⟩
  rw[h0]at this;cases this
 | succ fuel ih=>
  intro t listed a w hI hf k cs;simp only[Region.linearise.go]
  change ∃a' w',Steps P (lone (b.atR a (.inRegion ops (match (Region.ready .any ops listed)[t % (Region.ready .any ops listed).length]? with
   | some i=>Region.linearise.go .any ops fuel (t / (Region.ready .any ops listed).length) (listed.setIfInBounds i true) [i]
   | none=>[].reverse)::k)) cs w) _∧_
  cases hi:(Region.ready .any ops listed)[t % (Region.ready .any ops listed).length]? with
  | none=>
   have hnil:Region.ready .any ops listed=[]:=by
    cases hr:Region.ready .any ops listed with
    | nil=>rfl
    | cons x xs=>
     rw[hr]at hi
     have hlt:t % (x::xs).length<(x::xs).length:=Nat.mod_lt _ (by simp)
     simp at hi
     simp at hlt
     omega
   exact⟨a,w,.refl _ _,done listed a w hI hnil⟩
  | some i=>
   have hmem:=List.mem_of_getElem? hi;simp only[];rw[linearise_go_acc,List.reverse_singleton,List.singleton_append];obtain⟨a1,w1,s1,hI1⟩:=step listed a w i hI hmem (Region.linearise.go .any ops fuel (t / (Region.ready .any ops listed).length) (listed.setIfInBounds i true) []) k cs
   obtain⟨a2,w2,s2,hF⟩:=ih (t / (Region.ready .any ops listed).length) _ a1 w1 hI1 (by
    obtain⟨h1,o,h2,_⟩:=mem_ready.1 hmem
    have hlt:i<ops.size:=(Array.getElem?_eq_some_iff.1 h2).1
    have hlt2:i<listed.size:=by rw[size _ _ _ hI];exact hlt
    have key:((List.range ops.size).filter fun j=>!(listed.setIfInBounds i true).getD j true).length<((List.range ops.size).filter fun j=>!listed.getD j true).length:=by
     have hsub:((List.range ops.size).filter fun j=>!(listed.setIfInBounds i true).getD j true)=((List.range ops.size).filter fun j=>!listed.getD j true).filter fun j=>decide (j≠i):=by
      rw[List.filter_filter]
      refine List.filter_congr fun j _=>?_
      by_cases hji:i=j
      ·subst hji;simp[hlt2]
      ·rw[getD_set_ne true hji];simp[Ne.symm hji]
     rw[hsub]
     have hin:i∈(List.range ops.size).filter (fun j=>!listed.getD j true):=List.mem_filter.2 ⟨List.mem_range.2 hlt,by simp only[h1];rfl⟩
     exact List.length_filter_lt_length_iff_exists.2 ⟨i,hin,by simp⟩
    omega) k cs
   exact⟨a2,w2,s1.trans s2,hF⟩
def Desc (n0:Nat):List Dl→Nat→Prop
 | [],n=>n0≤n
 | d::r,n=>d.lo≤d.hi∧d.hi≤n∧(∀e∈r,e.i<d.i)∧Desc n0 r d.lo
theorem Desc.le {n0:Nat}:∀ {ds:List Dl} {n:Nat},Desc n0 ds n→n0≤n
 | [],_,h=>h
 | _::_,_,⟨h1,h2,_,h4⟩=>Nat.le_trans h4.le (Nat.le_trans h1 h2)
theorem Desc.mem {n0:Nat}:∀ {ds:List Dl} {n:Nat},Desc n0 ds n→∀d∈ds,n0≤d.lo∧d.lo≤d.hi∧d.hi≤n
 | d::r,n,⟨h1,h2,h3,h4⟩,e,he=>by
  rcases List.mem_cons.1 he with rfl|he
  ·exact⟨h4.le,h1,h2⟩
  ·obtain⟨a,b,c⟩:=h4.mem e he;exact⟨a,b,by omega⟩
theorem Desc.apart {n0:Nat}:∀ {ds:List Dl} {n:Nat},Desc n0 ds n→∀d∈ds,∀e∈ds,d.i≠e.i→∀k,d.lo≤k→k<d.hi→e.lo≤k→k<e.hi→False
 | c::r,n,⟨h1,h2,h3,h4⟩,d,hd,e,he,hne,k,a1,a2,b1,b2=>by
  rcases List.mem_cons.1 hd with hd'|hd'<;>rcases List.mem_cons.1 he with he'|he'
  ·exact hne (by rw[hd',he'])
  ·subst hd';have:=(h4.mem e he').2.2;omega
  ·subst he';have:=(h4.mem d hd').2.2;omega
  ·exact h4.apart d hd' e he' hne k a1 a2 b1 b2
theorem Desc.same {n0:Nat}:∀ {ds:List Dl} {n:Nat},Desc n0 ds n→∀d∈ds,∀e∈ds,d.i=e.i→d=e
 | c::r,n,⟨h1,h2,h3,h4⟩,d,hd,e,he,hq=>by
  rcases List.mem_cons.1 hd with hd'|hd'<;>rcases List.mem_cons.1 he with he'|he'
  ·rw[hd',he']
  ·subst hd';have:=h3 e he';omega
  ·subst he';have:=h3 d hd';omega
  ·exact h4.same d hd' e he' hq
theorem kkv:∀ {l:List (Nat × Blk)} {t:Tr} {k:Nat} {b:Blk},(addAll t l).get k=some b→(k,b)∈l∨t.get k=some b
 | [],t,k,b,h=>.inr h
 | (n,c)::r,t,k,b,h=>by
  rcases kkv (l:=r) h with h|h
  ·exact .inl (List.mem_cons_of_mem _ h)
  ·rw[Tr.get_set]at h
   split at h
   ·rename_i hk;cases h;exact .inl (by rw[hk];exact List.mem_cons_self ..)
   ·exact .inr h
theorem kic {m:Nat}{h0:Tr}:∀ {ds:List Dl} {k:Nat} {b:Blk},(kbt m h0 ds).get k=some b→h0.get k=some b∨∃d∈ds,m.testBit d.i=true∧(k,b)∈d.delta
 | [],k,b,h=>.inl h
 | d::r,k,b,h=>by
  simp only[kbt,cond_eq_ite]at h
  split at h
  ·rename_i hm
   rcases kkv h with h|h
   ·exact .inr ⟨d,List.mem_cons_self ..,hm,h⟩
   ·rcases kic (ds:=r) h with h|⟨e,he,h⟩
    ·exact .inl h
    ·exact .inr ⟨e,List.mem_cons_of_mem _ he,h⟩
  ·rcases kic (ds:=r) h with h|⟨e,he,h⟩
   ·exact .inl h
   ·exact .inr ⟨e,List.mem_cons_of_mem _ he,h⟩
theorem kid {h0:Tr}:∀ {ds:List Dl} {k:Nat} {b:Blk},(kfo h0 ds).get k=some b→h0.get k=some b∨∃d∈ds,(k,b)∈d.delta
 | [],k,b,h=>.inl h
 | d::r,k,b,h=>by
  rcases kkv h with h|h
  ·exact .inr ⟨d,List.mem_cons_self ..,h⟩
  ·rcases kid (ds:=r) h with h|⟨e,he,h⟩
   ·exact .inl h
   ·exact .inr ⟨e,List.mem_cons_of_mem _ he,h⟩
theorem kjk {t:Tr}:∀ {n lo k:Nat} {b:Blk},(k,b)∈kjl t lo n→lo≤k∧k<lo+n∧t.get k=some b
 | 0,lo,k,b,h=>by simp[kjl]at h
 | n+1,lo,k,b,h=>by
  unfold kjl at h
  split at h
  ·rename_i c hc
   rcases List.mem_cons.1 h with h|h
   ·cases h;exact⟨Nat.le_refl _,by omega,hc⟩
   ·obtain⟨a1,a2,a3⟩:=kjk h;exact⟨by omega,by omega,a3⟩
  ·obtain⟨a1,a2,a3⟩:=kjk h;exact⟨by omega,by omega,a3⟩
structure Fact (T:Tab)(P:Program)(sf:Req→Option Res)(all:List Oper)(bs:List Nat)(h0:Tr)(n0:Nat)(head:List Nat)(tmpsH:VT)(dsH:List Dl)(i:Nat):Prop where
 at_:∃(o:Oper) (tmps:VT) (n:Nat) (ds e2:List Dl),all[i]?=some o∧tmps.length=tmpsH.length ∧
  (∀u,(∀q∈head,i≤q→∀o:Oper,all[q]?=some o→o.dst≠some u)→tmps.get u=tmpsH.get u) ∧
  Desc n0 ds n∧dsH=e2++ds∧(∀d∈e2,i≤d.i) ∧
  ((kaw all tmps o=false∧(∀d∈dsH,d.i≠i)∧∀d,o.dst=some d→d<tmpsH.length→tmpsH.get d=some undef) ∨
   (kaw all tmps o=true∧kdc o.op=true∧(∀d∈dsH,d.i≠i)∧∃v,kgp T P tmps o.op=some v∧∀d,o.dst=some d→d<tmpsH.length→tmpsH.get d=some v) ∨
   (kaw all tmps o=true∧kdc o.op=false∧∃v h',eMem T P sf tmps ⟨kbt (bs.getD i 0) h0 ds,n,n⟩ o.op=some (v,h')∧(∀d,o.dst=some d→d<tmpsH.length→tmpsH.get d=some v) ∧
    ((kee v=true∧∀d∈dsH,d.i≠i)∨(⟨i,n,h'.next,kjl h'.tr n (h'.next-n)⟩:Dl)∈dsH)))
theorem kgf (tmps:VT)(d:Option Tmp)(v:Value):(putL tmps d v).length=tmps.length:=by cases d<;>simp[putL,VT.len_set]
theorem kmz {tmps:VT}{d:Option Tmp}{v:Value}{u:Nat}(h:d≠some u):(putL tmps d v).get u=tmps.get u:=by
 cases d with
 | none=>rfl
 | some t=>simp[putL,VT.get_set,show u≠t from fun e=>h (by rw[e])]
theorem putL_eq {tmps:VT}{v:Value}{u:Nat}(h:u<tmps.length):(putL tmps (some u) v).get u=some v:=by simp[putL,VT.get_set,h]
theorem sortB_spec:∀ {l:List Nat},sortB l=true→l.Pairwise (· < ·)
 | [],_=>.nil
 | i::is,h=>by
  simp only[sortB,Bool.and_eq_true]at h
  exact .cons (fun j hj=>by have:=List.all_eq_true.1 h.1 j hj;simp[Nat.blt]at this;omega) (sortB_spec h.2)
section
variable {T:Tab} {P:Program} {self:Req→Option Res} {all:List Oper} {bs:List Nat} {h0:Tr} {n0:Nat}
theorem kny (hdst:∀(i j:Nat) (o q:Oper) (d:Tmp),all[j]?=some o→all[i]?=some q→q.dst=some d→i≠j→o.dst≠some d) :
  ∀ {is:List Nat} {tmps:VT} {next:Nat} {ds:List Dl} {tmpsH:VT} {nextH:Nat} {dsH:List Dl},is.Pairwise (· < ·)→(∀d∈ds,∀i∈is,d.i<i)→Desc n0 ds next →
   kik T P self all bs h0 is tmps next ds=some (tmpsH,nextH,dsH) →
   tmpsH.length=tmps.length∧Desc n0 dsH nextH∧(∃e2,dsH=e2++ds∧∀d∈e2,d.i∈is)∧(∀u,(∀q∈is,∀o:Oper,all[q]?=some o→o.dst≠some u)→tmpsH.get u=tmps.get u) ∧
    ∀i∈is,Fact T P self all bs h0 n0 is tmpsH dsH i
 | [],tmps,next,ds,tmpsH,nextH,dsH,_,_,hD,he=>by
  simp only[kik,Option.some.injEq,Prod.mk.injEq]at he;obtain⟨rfl,rfl,rfl⟩:=he
  exact⟨rfl,hD,⟨[],rfl,by simp⟩,fun _ _=>rfl,by simp⟩
 | i::is,tmps,next,ds,tmpsH,nextH,dsH,hsort,hlow,hD,he=>by
  unfold kik at he
  split at he
  case h_1=>cases he
  rename_i o ho
  have hs2:=(List.pairwise_cons.1 hsort).2;have hs1:=(List.pairwise_cons.1 hsort).1
  have wrap:∀ {v:Value} {next':Nat} {ds':List Dl},(∃e0,ds'=e0++ds∧∀d∈e0,d.i=i)→Desc n0 ds' next' →
    kik T P self all bs h0 is (putL tmps o.dst v) next' ds'=some (tmpsH,nextH,dsH) →
    ((ds'=ds∧kaw all tmps o=false∧v=undef)∨(ds'=ds∧kaw all tmps o=true∧kdc o.op=true∧kgp T P tmps o.op=some v) ∨
      (kaw all tmps o=true∧kdc o.op=false∧∃h',eMem T P self tmps ⟨kbt (bs.getD i 0) h0 ds,next,next⟩ o.op=some (v,h')∧((kee v=true∧ds'=ds)∨(⟨i,next,h'.next,kjl h'.tr next (h'.next-next)⟩:Dl)∈ds'))) →
    tmpsH.length=tmps.length∧Desc n0 dsH nextH∧(∃e2,dsH=e2++ds∧∀d∈e2,d.i∈i::is)∧(∀u,(∀q∈i::is,∀o:Oper,all[q]?=some o→o.dst≠some u)→tmpsH.get u=tmps.get u) ∧
    ∀j∈i::is,Fact T P self all bs h0 n0 (i::is) tmpsH dsH j:=by
   intro v next' ds' ⟨e0,hds',he0⟩ hD' hrec hway
   obtain⟨r1,r2,⟨e2,r3,r3'⟩,r4,r5⟩:=kny hdst hs2 (fun d hd j hj=>by
    rw[hds']at hd
    rcases List.mem_append.1 hd with hd|hd
    ·rw[he0 d hd];exact hs1 j hj
    ·exact hlow d hd j (List.mem_cons_of_mem _ hj)) hD' hrec
   have hlen:tmpsH.length=tmps.length:=by rw[r1,kgf]
   have hwrote:∀d,o.dst=some d→d<tmpsH.length→tmpsH.get d=some v:=fun d hd hlt=>by
    rw[r4 d fun q hq oq hoq hqd=>hdst i q oq o d hoq ho hd (by have:=hs1 q hq;omega) hqd,hd]
    exact putL_eq (by rw[←hlen];exact hlt)
   refine⟨hlen,r2,⟨e2++e0,by rw[r3,hds',List.append_assoc],fun d hd=>?_⟩,fun u hu=>?_,fun j hj=>?_⟩
   ·rcases List.mem_append.1 hd with hd|hd
    ·exact List.mem_cons_of_mem _ (r3' d hd)
    ·rw[he0 d hd];exact List.mem_cons_self ..
   ·rw[r4 u fun q hq=>hu q (List.mem_cons_of_mem _ hq),kmz (hu i (List.mem_cons_self ..) o ho)]
   ·rcases List.mem_cons.1 hj with rfl|hj
    ·refine⟨o,tmps,next,ds,e2++e0,ho,hlen.symm,fun u hu=>?_,hD,by rw[r3,hds',List.append_assoc],fun d hd=>?_,?_⟩
     ·rw[r4 u fun q hq=>hu q (List.mem_cons_of_mem _ hq) (Nat.le_of_lt (hs1 q hq)),kmz (hu j (List.mem_cons_self ..) (Nat.le_refl _) o ho)]
     ·rcases List.mem_append.1 hd with hd|hd
      ·exact Nat.le_of_lt (hs1 _ (r3' d hd))
      ·rw[he0 d hd];exact Nat.le_refl _
     ·have hno:ds'=ds→∀d∈dsH,d.i≠j:=fun hq d hd=>by
       rw[r3,hq]at hd
       rcases List.mem_append.1 hd with hd|hd
       ·have:=hs1 _ (r3' d hd);omega
       ·have:=hlow d hd j (List.mem_cons_self ..);omega
      rcases hway with ⟨a0,a1,a2⟩|⟨a0,a1,a2,a3⟩|⟨a1,a2,h',a3,a4⟩
      ·exact .inl ⟨a1,hno a0,by rw[←a2];exact hwrote⟩
      ·exact .inr (.inl ⟨a1,a2,hno a0,v,a3,hwrote⟩)
      ·exact .inr (.inr ⟨a1,a2,v,h',a3,hwrote,a4.imp (fun hm=>⟨hm.1,hno hm.2⟩) fun hm=>by rw[r3];exact List.mem_append.2 (.inr hm)⟩)
    ·obtain⟨oj,tj,nj,dj,ej,g1,g2,g3,g4,g5,g6,g7⟩:=(r5 j hj).at_
     have hij:=hs1 j hj
     exact⟨oj,tj,nj,dj,ej,g1,g2,fun u hu=>g3 u fun q hq=>hu q (List.mem_cons_of_mem _ hq),g4,g5,g6,g7⟩
  rw[cond_eq_ite]at he
  split at he
  ·rename_i hw
   rw[cond_eq_ite]at he
   split at he
   ·rename_i hp
    split at he
    case h_2=>cases he
    rename_i v hv
    exact wrap ⟨[],rfl,by simp⟩ hD he (.inr (.inl ⟨rfl,hw,hp,hv⟩))
   ·rename_i hp
    have hp':kdc o.op=false:=by simpa using hp
    split at he
    case h_2=>cases he
    rename_i v h' hv
    rw[cond_eq_ite]at he
    split at he
    ·rename_i hf
     exact wrap ⟨[],rfl,by simp⟩ hD he (.inr (.inr ⟨hw,hp',h',hv,.inl ⟨hf,rfl⟩⟩))
    ·rw[cond_eq_ite]at he
     split at he
     case isFalse=>cases he
     rename_i hle
     simp only[Nat.ble_eq]at hle
     exact wrap (ds':=⟨i,next,h'.next,kjl h'.tr next (h'.next-next)⟩::ds) ⟨[_],rfl,by simp⟩ ⟨hle,Nat.le_refl _,fun d hd=>hlow d hd i (List.mem_cons_self ..),hD⟩ he (.inr (.inr ⟨hw,hp',h',hv,.inr (List.mem_cons_self ..)⟩))
  ·rename_i hw
   exact wrap ⟨[],rfl,by simp⟩ hD he (.inl ⟨rfl,by simpa using hw,rfl⟩)
end
open Classical in
noncomputable def res (ι : In) (n0:Nat) (ds:List Dl) (S:Nat→Prop):In:=fun k=>if k<n0∨∃d∈ds,S d.i∧d.lo≤k∧k<d.hi then ι k else none
section
variable {ι j:In} {n0:Nat} {ds:List Dl} {S S':Nat→Prop}
theorem res_some {k:Nat}{l:Loc}(h:res ι n0 ds S k=some l):ι k=some l∧(k<n0∨∃d∈ds,S d.i∧d.lo≤k∧k<d.hi):=by
 unfold res at h
 split at h
 ·rename_i hc;exact⟨h,hc⟩
 ·cases h
theorem kgv {k:Nat}(h:k<n0∨∃d∈ds,S d.i∧d.lo≤k∧k<d.hi):res ι n0 ds S k=ι k:=by unfold res;rw[if_pos h]
theorem kmv {k:Nat}(h:¬ (k<n0∨∃d∈ds,S d.i∧d.lo≤k∧k<d.hi)):res ι n0 ds S k=none:=by unfold res;rw[if_neg h]
theorem res_le (h:∀i,S i→S' i):(res ι n0 ds S).le (res ι n0 ds S'):=fun k l hk=>by
 obtain⟨h1,h2⟩:=res_some hk
 rw[kgv (h2.imp id fun ⟨d,hd,a,b⟩=>⟨d,hd,h _ a,b⟩)];exact h1
theorem khj:(res ι n0 ds S).le ι:=fun k l hk=>(res_some hk).1
theorem res_congr (h:∀k,(k<n0∨∃d∈ds,S d.i∧d.lo≤k∧k<d.hi)→ι k=j k):res ι n0 ds S=res j n0 ds S:=by
 funext k
 by_cases hc:k<n0∨∃d∈ds,S d.i∧d.lo≤k∧k<d.hi
 ·rw[kgv hc,kgv hc,h k hc]
 ·rw[kmv hc,kmv hc]
end
def Vof (p:Plan)(q i:Nat):Prop:=i=q∨(p.bs.getD q 0).testBit i=true
def kpf (h:Hp)(dsH:List Dl)(listed:Array Bool)(k:Nat):Prop:=(∃b,h.tr.get k=some b)∨∃d∈dsH,listed.getD d.i false=true∧∃b,(k,b)∈d.delta
structure IA (T:Tab)(ops:Array Oper)(p:Plan)(h:Hp)(ι0:In)(w0:World)(a0:Act)(tmpsH:VT)(dsH:List Dl)(listed:Array Bool)(a:Act)(w:World)(ι : In):Prop where
 closed:khz ops listed
 notail:∀i∈p.tail,listed.getD i false=false
 base:∀k,k<h.next→ι k=ι0 k
 dom:∀k l,ι k=some l→k<h.next∨∃d∈dsH,listed.getD d.i false=true∧d.lo≤k∧k<d.hi
 img:∀k l,h.next≤k→ι k=some l→w0.heap.size≤l.blk
 b0:∀k b,h.tr.get k=some b→∃l,ι k=some l∧BR T (res ι h.next dsH fun _=>False) l w b
 bd:∀d∈dsH,listed.getD d.i false=true→∀k b,(k,b)∈d.delta→d.lo≤k∧k<d.hi∧∃l,ι k=some l∧BR T (res ι h.next dsH (Vof p d.i)) l w b
 inj:∀k k' l l',kpf h dsH listed k→kpf h dsH listed k'→ι k=some l→ι k'=some l'→l.blk=l'.blk→k=k'
 len:a.tmps.size=tmpsH.length
 s0:∀u v,tmpsH.get u=some v→(∀q∈p.head,∀o:Oper,ops[q]?=some o→o.dst≠some u)→∃v',a.tmps[u]?=some v'∧VR (res ι h.next dsH fun _=>False) v v'
 s1:∀q∈p.head,listed.getD q false=true→∀(o:Oper) u v,ops[q]?=some o→o.dst=some u→tmpsH.get u=some v→∃v',a.tmps[u]?=some v'∧VR (res ι h.next dsH (Vof p q)) v v'
 defers:a.defers=a0.defers
 size:w0.heap.size≤w.heap.size
 fr:∀b,b<w0.heap.size→w.heap[b]?=w0.heap[b]?
 os:w.os=w0.os
 tape:w.tape=w0.tape
 output:w.output=w0.output
section
variable {T:Tab} {P:Program} {self:Req→Option Res} {ops:Array Oper} {p:Plan} {h:Hp} {ι0 ι : In} {w0 w w':World} {a0 a:Act} {tmpsH:VT} {dsH:List Dl} {nextH:Nat} {listed:Array Bool} {b:Frame}
theorem IA.world (I:IA T ops p h ι0 w0 a0 tmpsH dsH listed a w ι)(hs:w.heap.size≤w'.heap.size)(hf:∀b,b<w.heap.size→w'.heap[b]?=w.heap[b]?)(h1:w'.os=w.os)(h2:w'.tape=w.tape)(h3:w'.output=w.output) :
  IA T ops p h ι0 w0 a0 tmpsH dsH listed a w' ι:=
 { I with
   b0:=fun k b hk=>let ⟨l,a1,a2⟩:=I.b0 k b hk;⟨l,a1,a2.keep (.refl _) (hf _ a2.in)⟩
   bd:=fun d hd hl k b hk=>let ⟨a1,a2,l,a3,a4⟩:=I.bd d hd hl k b hk;⟨a1,a2,l,a3,a4.keep (.refl _) (hf _ a4.in)⟩
   size:=Nat.le_trans I.size hs
   fr:=fun b hb=>(hf b (Nat.lt_of_lt_of_le hb I.size)).trans (I.fr b hb)
   os:=h1.trans I.os
   tape:=h2.trans I.tape
   output:=h3.trans I.output }
theorem kjb {l:Array Bool}{i j:Nat}(h:(l.setIfInBounds i true).getD j false=true):j=i∨l.getD j false=true:=by
 by_cases hij:i=j
 ·exact .inl hij.symm
 ·rw[getD_set_ne false hij]at h;exact .inr h
theorem IA.put (F:PlanF ops.toList p)(I:IA T ops p h ι0 w0 a0 tmpsH dsH listed a w ι){i:Nat}{o:Oper}(ho:ops[i]?=some o)(hi:i∈Region.ready .any ops listed)(hh:i∈p.head)(hno:∀d∈dsH,d.i≠i){v v':Value}
  (hw:∀d,o.dst=some d→d<tmpsH.length→tmpsH.get d=some v) (hv:VR (res ι h.next dsH (Vof p i)) v v'):IA T ops p h ι0 w0 a0 tmpsH dsH (listed.setIfInBounds i true) (a.put o.dst v') w ι:=by
 have hother:∀d∈dsH,(listed.setIfInBounds i true).getD d.i false=true→listed.getD d.i false=true:=fun d hd hl=>(kjb hl).resolve_left (hno d hd)
 have hlive:∀k,kpf h dsH (listed.setIfInBounds i true) k→kpf h dsH listed k:=fun k hk=>hk.imp id fun ⟨d,hd,hl,x⟩=>⟨d,hd,hother d hd hl,x⟩
 have hne:∀u,o.dst≠some u→(a.put o.dst v').tmps[u]?=a.tmps[u]?:=fun u hu=>by
  cases hd:o.dst with
  | none=>rfl
  | some t=>rw[hd]at hu;simp[Act.put,Array.getElem?_setIfInBounds,show t≠u from fun e=>hu (by rw[e])]
 refine { I with
  closed:=I.closed.set hi
  notail:=fun q hq=>?_
  dom:=fun k l hk=>(I.dom k l hk).imp id fun ⟨d,hd,hl,x⟩=>⟨d,hd,getD_set_true hl,x⟩
  bd:=fun d hd hl=>I.bd d hd (hother d hd hl)
  inj:=fun k k' l l' h1 h2=>I.inj k k' l l' (hlive k h1) (hlive k' h2)
  len:=?_
  s0:=fun u v hu hq=>?_
  s1:=fun q hq hl oq u v2 hoq hdq hu=>?_
  defers:=(kei _ _).trans I.defers }
 ·have:i≠q:=fun e=>by
   exact(F.headTail i hh q hq).2 e
  rw[getD_set_ne false this];exact I.notail q hq
 ·cases hd:o.dst<;>simp[Act.put,I.len]
 ·rw[hne u (hq i hh o ho)];exact I.s0 u v hu hq
 ·by_cases hqi:q=i
  ·subst hqi
   have:oq=o:=Option.some.inj (hoq.symm.trans ho)
   subst this
   have hlt:u<tmpsH.length:=VT.some_lt hu
   have h1:=hw u hdq hlt;rw[hu]at h1;cases h1
   refine⟨v',?_,hv⟩
   have:u<a.tmps.size:=by rw[I.len];exact hlt
   simp[Act.put,hdq,this]
  ·have hl':listed.getD q false=true:=(kjb hl).resolve_left hqi
   have:o.dst≠some u:=F.dst q i o oq u (by simpa using ho) (by simpa using hoq) hdq hqi
   rw[hne u this];exact I.s1 q hq hl' oq u v2 hoq hdq hu
theorem Desc.order {n0:Nat}:∀ {ds:List Dl} {n:Nat},Desc n0 ds n→∀d∈ds,∀e∈ds,e.i<d.i→e.hi≤d.lo
 | c::r,n,⟨h1,h2,h3,h4⟩,d,hd,e,he,hq=>by
  rcases List.mem_cons.1 hd with hd'|hd'<;>rcases List.mem_cons.1 he with he'|he'
  ·rw[hd',he']at hq;omega
  ·subst hd';exact(h4.mem e he').2.2
  ·subst he';have:=h3 d hd';omega
  ·exact h4.order d hd' e he' hq
theorem IA.putS (F:PlanF ops.toList p)(m0:M T ι0 h w0)(hD:Desc h.next dsH nextH)(I:IA T ops p h ι0 w0 a0 tmpsH dsH listed a w ι){i:Nat}{o:Oper}(ho:ops[i]?=some o)(hi:i∈Region.ready .any ops listed)(hh:i∈p.head){d:Dl}(hd:d∈dsH)(hdi:d.i=i)
  {v v':Value} (hw:∀d,o.dst=some d→d<tmpsH.length→tmpsH.get d=some v) {hp h':Hp} {ι':In} (hp1:hp.next=d.lo) (hp2:hp.wall=d.lo) (hp3:h'.next=d.hi) (hp4:d.delta=kjl h'.tr d.lo (d.hi-d.lo))
  (hm:M T (res ι h.next dsH fun q=>(p.bs.getD i 0).testBit q=true) hp w) (hv:VR ι' v v') (M':M T ι' h' w') (E:Evo (res ι h.next dsH fun q=>(p.bs.getD i 0).testBit q=true) hp w ι' h' w') :
  ∃ ι2,IA T ops p h ι0 w0 a0 tmpsH dsH (listed.setIfInBounds i true) (a.put o.dst v') w' ι2:=by
 have hisz:i<listed.size:=by rw[I.closed.1];exact(Array.getElem?_eq_some_iff.1 ho).1
 have hunl:listed.getD i false=false:=getD_both (mem_ready.1 hi).1
 have hdlo:=(hD.mem d hd)
 have hlivehp:∀k,(hp.tr.get k).isSome=true→k<d.lo:=fun k hk=>by
  obtain⟨b,hb⟩:=Option.isSome_iff_exists.1 hk;obtain⟨l,hl,_⟩:=hm.at_ k b hb;rw[←hp1];exact hm.lt hl
 have I':=I.world E.size (fun b hb=>E.fr b hb fun k l h1 h2 _=>by have:=hlivehp k h2;rw[hp2]at h1;omega) E.os E.tape E.output
 let ι2:In:=fun k=>if d.lo≤k∧k<d.hi then ι' k else ι k
 have e1:∀k,d.lo≤k∧k<d.hi→ι2 k=ι' k:=fun k hk=>if_pos hk
 have e2:∀k,¬ (d.lo≤k∧k<d.hi)→ι2 k=ι k:=fun k hk=>if_neg hk
 have bitlt:∀q,(p.bs.getD i 0).testBit q=true→q<i:=fun q hq=>F.bit_lt i (by simpa using ho) hq
 have K1:res ι2 h.next dsH (Vof p i)=ι':=by
  funext k
  by_cases hk0:k<h.next
  ·rw[kgv (.inl hk0),e2 k (by omega),E.old (by omega),kgv (.inl hk0)]
  ·by_cases hk:d.lo≤k∧k<d.hi
   ·rw[kgv (.inr ⟨d,hd,.inl hdi,hk⟩),e1 k hk]
   ·by_cases hc:∃e∈dsH,Vof p i e.i∧e.lo≤k∧k<e.hi
    ·obtain⟨e,he,hve,hke⟩:=hc
     have hbit:(p.bs.getD i 0).testBit e.i=true:=hve.resolve_left fun heq=>hk (by rw[hD.same d hd e he (by rw[hdi,heq])];exact hke)
     have hord:=hD.order d hd e he (by rw[hdi];exact bitlt _ hbit)
     rw[kgv (.inr ⟨e,he,hve,hke⟩),e2 k hk,E.old (by omega),kgv (.inr ⟨e,he,hbit,hke⟩)]
    ·rw[kmv (by rintro(h1|h1);exact hk0 h1;exact hc h1)]
     by_cases hk1:k<d.lo
     ·rw[E.old (by omega),kmv]
      rintro(h1|⟨e,he,hb,hke⟩)
      ·exact hk0 h1
      ·exact hc ⟨e,he,.inr hb,hke⟩
     ·rw[M'.top k (by omega)]
 have outd:∀e∈dsH,e.i≠i→∀k,e.lo≤k∧k<e.hi→¬ (d.lo≤k∧k<d.hi):=fun e he hne k hke hkd=>hD.apart e he d hd (by rw[hdi];exact hne) k hke.1 hke.2 hkd.1 hkd.2
 have K2:∀q,q<ops.size→listed.getD q false=true→res ι2 h.next dsH (Vof p q)=res ι h.next dsH (Vof p q):=fun q hqs hq=>res_congr fun k hk=>by
  refine e2 k ?_
  rcases hk with hk|⟨e,he,hve,hke⟩
  ·omega
  ·refine outd e he (fun heq=>?_) k hke
   rcases hve with hve|hve
   ·rw[←hve,heq,hunl]at hq;cases hq
   ·have:=I.closed.bits F q (.inl hq) hve hqs
    rw[heq,hunl]at this;cases this
 have K3:res ι2 h.next dsH (fun _=>False)=res ι h.next dsH (fun _=>False):=res_congr fun k hk=>by
  rcases hk with hk|⟨e,he,hve,hke⟩
  ·exact e2 k (by omega)
  ·exact hve.elim
 have hkn:∀k b,h.tr.get k=some b→k<h.next:=fun k b hk=>by
  obtain⟨l,hl,_⟩:=m0.at_ k b hk;exact m0.lt hl
 have dsz:∀e∈dsH,listed.getD e.i false=true→e.i<ops.size:=fun e he hl=>by
  rw[←I.closed.1]
  rcases Nat.lt_or_ge e.i listed.size with hlt|hge
  ·exact hlt
  ·simp[Array.getElem?_eq_none hge]at hl
 have hne:∀u,o.dst≠some u→(a.put o.dst v').tmps[u]?=a.tmps[u]?:=fun u hu=>by
  cases hd:o.dst with
  | none=>rfl
  | some t=>rw[hd]at hu;simp[Act.put,Array.getElem?_setIfInBounds,show t≠u from fun e=>hu (by rw[e])]
 have newImg:∀k l,d.lo≤k→ι' k=some l→w.heap.size≤l.blk:=fun k l hk hl=>by
  rcases E.img k l (by omega) hl with h1|⟨k0,l0,h1,h2,_⟩
  ·exact h1
  ·have:=hlivehp k0 h2;rw[hp2]at h1;omega
 have oldImg:∀k l,kpf h dsH listed k→ι k=some l→l.blk<w.heap.size:=fun k l hk hl=>by
  rcases hk with ⟨b,hb⟩|⟨e,he,hel,b,hb⟩
  ·obtain⟨l',a1,a2⟩:=I.b0 k b hb
   rw[hl]at a1;cases a1;exact a2.in
  ·obtain⟨_,_,l',a1,a2⟩:=I.bd e he hel k b hb
   rw[hl]at a1;cases a1;exact a2.in
 have oldOut:∀k,kpf h dsH listed k→¬ (d.lo≤k∧k<d.hi):=fun k hk=>by
  rcases hk with ⟨b,hb⟩|⟨e,he,hel,b,hb⟩
  ·have:=hkn k b hb;omega
  ·obtain⟨a1,a2,_⟩:=I.bd e he hel k b hb
   exact outd e he (fun heq=>by rw[heq,hunl]at hel;cases hel) k ⟨a1,a2⟩
 have split:∀k,kpf h dsH (listed.setIfInBounds i true) k→kpf h dsH listed k∨((d.lo≤k∧k<d.hi)∧∃b,h'.tr.get k=some b):=fun k hk=>by
  rcases hk with hk|⟨e,he,hel,b,hb⟩
  ·exact .inl (.inl hk)
  ·rcases kjb hel with heq|hel
   ·have:=hD.same d hd e he (by rw[hdi,heq])
    subst this;rw[hp4]at hb;obtain⟨a1,a2,a3⟩:=kjk hb
    exact .inr ⟨⟨a1,by omega⟩,b,a3⟩
   ·exact .inl (.inr ⟨e,he,hel,b,hb⟩)
 refine⟨ι2,I.closed.set hi,fun q hq=>?_,fun k hk=>?_,fun k l hk=>?_,fun k l hk hl=>?_,fun k b hk=>?_,fun e he hl k b hb=>?_,fun k k' l l' hk hk' hl hl' he=>?_,?_,fun u v hu hq=>?_,fun q hq hl oq u v2 hoq hdq hu=>?_,(kei _ _).trans I.defers,I'.size,I'.fr,I'.os,I'.tape,I'.output⟩
 ·rw[getD_set_ne false (F.headTail i hh q hq).2];exact I.notail q hq
 ·rw[e2 k (by omega)];exact I.base k hk
 ·by_cases hkd:d.lo≤k∧k<d.hi
  ·exact .inr ⟨d,hd,by rw[hdi];simp[hisz],hkd⟩
  ·rw[e2 k hkd]at hk
   exact(I.dom k l hk).imp id fun ⟨e,he,hl,x⟩=>⟨e,he,getD_set_true hl,x⟩
 ·by_cases hkd:d.lo≤k∧k<d.hi
  ·rw[e1 k hkd]at hl
   exact Nat.le_trans I.size (newImg k l hkd.1 hl)
  ·rw[e2 k hkd]at hl;exact I.img k l hk hl
 ·obtain⟨l,a1,a2⟩:=I'.b0 k b hk
  exact⟨l,by rw[e2 k (by have:=hkn k b hk;omega)];exact a1,by rw[K3];exact a2⟩
 ·rcases kjb hl with heq|hl
  ·have:=hD.same d hd e he (by rw[hdi,heq])
   subst this;rw[hp4]at hb;obtain⟨a1,a2,a3⟩:=kjk hb;obtain⟨l,a4,a5⟩:=M'.at_ k b a3
   exact⟨a1,by omega,l,by rw[e1 k ⟨a1,by omega⟩];exact a4,by rw[hdi,K1];exact a5⟩
  ·obtain⟨a1,a2,l,a3,a4⟩:=I'.bd e he hl k b hb
   have hne':e.i≠i:=fun heq=>by rw[heq,hunl]at hl;cases hl
   exact⟨a1,a2,l,by rw[e2 k (outd e he hne' k ⟨a1,a2⟩)];exact a3,by rw[K2 e.i (dsz e he hl) hl];exact a4⟩
 ·rcases split k hk with ho1|⟨hr,b,hb⟩<;>rcases split k' hk' with ho2|⟨hr',b',hb'⟩
  ·rw[e2 k (oldOut k ho1)]at hl;rw[e2 k' (oldOut k' ho2)]at hl'
   exact I.inj k k' l l' ho1 ho2 hl hl' he
  ·rw[e2 k (oldOut k ho1)]at hl;rw[e1 k' hr']at hl'
   have:=oldImg k l ho1 hl;have:=newImg k' l' hr'.1 hl';omega
  ·rw[e1 k hr]at hl;rw[e2 k' (oldOut k' ho2)]at hl'
   have:=oldImg k' l' ho2 hl';have:=newImg k l hr.1 hl;omega
  ·rw[e1 k hr]at hl;rw[e1 k' hr']at hl'
   exact M'.inj k k' b b' l l' hb hb' hl hl' he
 ·cases hd:o.dst<;>simp[Act.put,I.len]
 ·rw[hne u (hq i hh o ho),K3];exact I.s0 u v hu hq
 ·by_cases hqi:q=i
  ·subst hqi
   have:oq=o:=Option.some.inj (hoq.symm.trans ho)
   subst this
   have hlt:u<tmpsH.length:=VT.some_lt hu
   have h1:=hw u hdq hlt;rw[hu]at h1;cases h1
   refine⟨v',?_,by rw[K1];exact hv⟩
   have:u<a.tmps.size:=by rw[I.len];exact hlt
   simp[Act.put,hdq,this]
  ·have hl':listed.getD q false=true:=(kjb hl).resolve_left hqi
   have:o.dst≠some u:=F.dst q i o oq u (by simpa using ho) (by simpa using hoq) hdq hqi
   rw[hne u this,K2 q (Array.getElem?_eq_some_iff.1 hoq).1 hl'];exact I.s1 q hq hl' oq u v2 hoq hdq hu
end
end Go.Ev
namespace Go.Ev
section
variable {T:Tab} {P:Program} {self:Req→Option Res} {ops:Array Oper} {p:Plan} {h:Hp} {ι0 ι : In} {w0 w w':World} {a0 a:Act} {tmpsH:VT} {dsH:List Dl} {nextH:Nat} {listed:Array Bool} {b:Frame}
theorem kij {v v':Value}(hf:kee v=true)(hv:VR ι v v'):v'=v:=by
 unfold kee at hf
 split at hf
 ·obtain⟨a',rfl,hl⟩:=hv.inv_agg
  rw[Array.ext' (hl.leaf_eq hf)]
 ·obtain⟨a',rfl,hl⟩:=hv.inv_tuple
  rw[Array.ext' (hl.leaf_eq hf)]
 ·exact hv.inv_leaf hf
theorem wanted_eq {tmps:VT}{o:Oper}(hg:∀j w u,o.guard=some (j,w)→(ops[j]?).bind (·.dst)=some u→(tmps.get u=none∧a.tmps[u]?=none)∨∃v v' κ,tmps.get u=some v∧a.tmps[u]?=some v'∧VR κ v v') :
  kaw ops.toList tmps o=Region.wanted o (yielded ops a.tmps):=by
 unfold kaw Region.wanted yielded
 cases hgd:o.guard with
 | none=>rfl
 | some p=>
  obtain⟨j,want⟩:=p;simp only[Array.getElem?_toList]
  cases hd:(ops[j]?).bind (·.dst) with
  | none=>simp
  | some t=>
   simp only[Option.bind_some]
   rcases hg j want t hgd hd with ⟨h1,h2⟩|⟨v,v',κ,h1,h2,h3⟩
   ·simp[h1,h2]
   ·rw[h1,h2]
    cases h3 with
    | leaf h=>cases v<;>first|(rename_i q;cases q<;>cases want<;>rfl)|rfl
    | _=>rfl
theorem IA.step (hT:TabOk T P)(hs:Sound T P self)(F:PlanF ops.toList p)(m0:M T ι0 h w0)(hD:Desc h.next dsH nextH)(hF:∀i∈p.head,Fact T P self ops.toList p.bs h.tr h.next p.head tmpsH dsH i)
  (I:IA T ops p h ι0 w0 a0 tmpsH dsH listed a w ι) {i:Nat} (hi:i∈Region.ready .any ops listed) (hh:i∈p.head) (rest:List Nat) (k:List Item) (cs:List Frame) :
  ∃a' w' ι',Steps P (lone (b.atR a (.inRegion ops (i::rest)::k)) cs w) (lone (b.atR a' (.inRegion ops rest::k)) cs w')∧IA T ops p h ι0 w0 a0 tmpsH dsH (listed.setIfInBounds i true) a' w' ι':=by
 obtain⟨o,tmps,n,ds,e2,ho,hlen,hslots,hDs,hds,he2,hway⟩:=(hF i hh).at_
 have ho':ops[i]?=some o:=by simpa using ho
 have his:i<ops.size:=(Array.getElem?_eq_some_iff.1 ho').1
 have slot:∀u,(∀q (oq:Oper),ops[q]?=some oq→oq.dst=some u→(p.bs.getD i 0).testBit q=true∨q∈p.tail) →
   tmps.get u=tmpsH.get u∧∀v,tmps.get u=some v→∃v',a.tmps[u]?=some v'∧VR (res ι h.next dsH fun q=>(p.bs.getD i 0).testBit q=true) v v':=fun u hu=>by
  have h1:tmps.get u=tmpsH.get u:=hslots u fun q hq hiq oq hoq hdq=>by
   rcases hu q oq (by simpa using hoq) hdq with hb|ht
   ·have:=F.bit_lt i ho hb;omega
   ·exact(F.headTail q hq q ht).2 rfl
  refine⟨h1,fun v hv=>?_⟩
  rw[h1]at hv
  by_cases hex:∃(q:Nat) (oq:Oper),q∈p.head∧ops[q]?=some oq∧oq.dst=some u
  ·obtain⟨q,oq,hqh,hoq,hdq⟩:=hex
   have hb:(p.bs.getD i 0).testBit q=true:=(hu q oq hoq hdq).resolve_right fun ht=>(F.headTail q hqh q ht).2 rfl
   have hql:=I.closed.bits F i (.inr hi) hb his;obtain⟨v',g1,g2⟩:=I.s1 q hqh hql oq u v hoq hdq hv
   refine⟨v',g1,g2.mono (res_le fun r hr=>?_)⟩
   rcases hr with hr|hr
   ·rw[hr];exact hb
   ·exact F.trans i ho hb hr
  ·obtain⟨v',g1,g2⟩:=I.s0 u v hv fun q hqh oq hoq hdq=>hex ⟨q,oq,hqh,hoq,hdq⟩
   exact⟨v',g1,g2.mono (res_le fun r hr=>hr.elim)⟩
 have hev:EV (res ι h.next dsH fun q=>(p.bs.getD i 0).testBit q=true) tmps a o.op:=fun x v hx hv=>by
  cases x with
  | tmp u=>
   have hu:u∈kiv o:=List.mem_filterMap.2 ⟨.tmp u,hx,rfl⟩
   have hall:∀q (oq:Oper),ops[q]?=some oq→oq.dst=some u→(p.bs.getD i 0).testBit q=true∨q∈p.tail:=fun q oq hoq hdq=>by
    by_cases hqi:q=i
    ·subst hqi
     have:oq=o:=Option.some.inj (hoq.symm.trans ho')
     subst this
     exact absurd hu (F.own q oq u ho hdq)
    ·exact(F.uses q i o oq u ho (by simpa using hoq) hdq hqi hu).imp id fun h=>h.1
   obtain⟨v',g1,g2⟩:=(slot u hall).2 v hv
   simpa[Act.eval,Array.getD_eq_getD_getElem?,g1]using g2
  | const c=>
   simp only[opd,cond_eq_ite]at hv
   split at hv
   ·rename_i hf;cases hv;exact kju hf
   ·cases hv
  | global g=>simp[opd]at hv
  | func f=>simp only[opd,Option.some.injEq]at hv;subst hv;exact .leaf rfl
 have hwant:kaw ops.toList tmps o=Region.wanted o (yielded ops a.tmps):=wanted_eq fun j wnt u hg hu=>by
  have hb:=F.guard i o j wnt ho hg;obtain⟨oj,hoj,hdj⟩:=Option.bind_eq_some_iff.1 hu
  have hall:∀q (oq:Oper),ops[q]?=some oq→oq.dst=some u→(p.bs.getD i 0).testBit q=true∨q∈p.tail:=fun q oq hoq hdq=>by
   by_cases hqj:q=j
   ·rw[hqj];exact .inl hb
   ·exact absurd hdj (F.dst q j oj oq u (by simpa using hoj) (by simpa using hoq) hdq hqj)
  cases ht:tmps.get u with
  | none=>
   refine .inl ⟨rfl,?_⟩
   have:=VT.none_iff.1 ht
   rw[hlen]at this
   exact Array.getElem?_eq_none (by rw[I.len];exact this)
  | some v=>
   obtain⟨v',g1,g2⟩:=(slot u hall).2 v ht
   exact .inr ⟨v,v',_,rfl,g1,g2⟩
 have htree:kbt (p.bs.getD i 0) h.tr ds=kbt (p.bs.getD i 0) h.tr dsH:=by
  rw[hds]
  have:∀l:List Dl,(∀d∈l,i≤d.i)→kbt (p.bs.getD i 0) h.tr (l++ds)=kbt (p.bs.getD i 0) h.tr ds:=fun l=>by
   induction l with
   | nil=>intro _;rfl
   | cons d l ih=>
    intro hl
    have hd:(p.bs.getD i 0).testBit d.i=false:=by
     cases hb:(p.bs.getD i 0).testBit d.i with
     | false=>rfl
     | true=>have:=F.bit_lt i ho hb;have:=hl d (List.mem_cons_self ..);omega
    simp only[List.cons_append,kbt,hd,cond_false]
    exact ih fun e he=>hl e (List.mem_cons_of_mem _ he)
  exact(this e2 he2).symm
 have hkn:∀k b,h.tr.get k=some b→k<h.next:=fun k b hk=>by
  obtain⟨l,hl,_⟩:=m0.at_ k b hk;exact m0.lt hl
 have hm:M T (res ι h.next dsH fun q=>(p.bs.getD i 0).testBit q=true) ⟨kbt (p.bs.getD i 0) h.tr ds,n,n⟩ w:=by
  have hat:∀k b,(kbt (p.bs.getD i 0) h.tr ds).get k=some b→kpf h dsH listed k∧∃l,ι k=some l∧res ι h.next dsH (fun q=>(p.bs.getD i 0).testBit q=true) k=some l∧BR T (res ι h.next dsH fun q=>(p.bs.getD i 0).testBit q=true) l w b:=fun k b hk=>by
   rw[htree]at hk
   rcases kic hk with hk|⟨d,hd,hbit,hkd⟩
   ·obtain⟨l,a1,a2⟩:=I.b0 k b hk
    refine⟨.inl ⟨b,hk⟩,l,a1,?_,a2.keep (res_le fun r hr=>hr.elim) rfl⟩
    rw[kgv (.inl (hkn k b hk))];exact a1
   ·have hdl:=I.closed.bits F i (.inr hi) hbit his
    obtain⟨a1,a2,l,a3,a4⟩:=I.bd d hd hdl k b hkd
    refine⟨.inr ⟨d,hd,hdl,b,hkd⟩,l,a3,?_,a4.keep (res_le fun r hr=>?_) rfl⟩
    ·rw[kgv (.inr ⟨d,hd,hbit,a1,a2⟩)];exact a3
    ·rcases hr with hr|hr
     ·rw[hr];exact hbit
     ·exact F.trans i ho hbit hr
  refine⟨fun k b hk=>?_,fun k k' b b' l l' hk hk' hl hl' he=>?_,fun k hk=>?_⟩
  ·obtain⟨_,l,_,g2,g3⟩:=hat k b hk;exact⟨l,g2,g3⟩
  ·obtain⟨g0,_⟩:=hat k b hk
   obtain⟨g0',_⟩:=hat k' b' hk'
   exact I.inj k k' l l' g0 g0' (khj _ _ hl) (khj _ _ hl') he
  ·refine kmv ?_
   have hn:=hDs.le
   simp only at hk
   rintro(h1|⟨d,hd,hbit,h1,h2⟩)
   ·omega
   ·have hlt:=F.bit_lt i ho hbit
    rw[hds]at hd
    rcases List.mem_append.1 hd with hd|hd
    ·have:=he2 d hd;omega
    ·have:=(hDs.mem d hd).2.2;omega
 rcases hway with ⟨hw,hno,hv⟩|⟨hw,hp,hno,v,hv,hwr⟩|⟨hw,hp,v,h',hv,hwr,hflat⟩
 ·rw[hwant]at hw
  have hsk:=stepR_op_skip (P:=P) (b:=b) (a:=a) (k:=k) (cs:=cs) (w:=w) (ops:=ops) (i:=i) (rest:=rest) (by simp[ho',hw])
  simp only[ho',Option.bind_some]at hsk
  exact⟨_,w,ι,.one hsk,I.put F ho' hi hh hno hv .undef⟩
 ·rw[hwant]at hw
  obtain⟨v',g1,g2⟩:=klz (w:=w) hT hev hv;obtain⟨ι',v2,w',s1,s2,s3,s4⟩:=kdd (b:=b) (keq hp) g1 g2 hm (.refl hm) ops i rest k cs ho' hw
  have hstep:Steps P (lone (b.atR a (.inRegion ops (i::rest)::k)) cs w) (lone (b.atR (a.put o.dst v') (.inRegion ops rest::k)) cs w):=.one (step_lone_go (by
   rw[stepGR_op ho' hw,Oper.semAt_eq _ _ _ (keq hp),←kex ho']
   simp[stepG.apply,g1]))
  exact⟨_,w,ι,hstep,I.put F ho' hi hh hno hwr (g2.mono (res_le fun q hq=>.inr hq))⟩
 ·rw[hwant]at hw
  obtain⟨ι',v',w',s1,s2,s3,s4⟩:=eMem_ok (b:=b) hT hs hm hev hv ops i rest k cs ho' hw
  rcases hflat with ⟨hf,hno⟩|hd
  ·have:=kij hf s2
   subst this
   have hlive:∀k,((kbt (p.bs.getD i 0) h.tr ds).get k).isSome=true→k<n:=fun k hk=>by
    obtain⟨b,hb⟩:=Option.isSome_iff_exists.1 hk;obtain⟨l,hl,_⟩:=hm.at_ k b hb
    exact hm.lt hl
   have I':=I.world s4.size (fun b hb=>s4.fr b hb fun k l h1 h2 _=>by have:=hlive k h2;simp only at h1;omega) s4.os s4.tape s4.output
   exact⟨_,w',ι,s1,I'.put F ho' hi hh hno hwr (kju hf)⟩
  ·obtain⟨ι2,hI⟩:=I.putS (d:=⟨i,n,h'.next,kjl h'.tr n (h'.next-n)⟩) F m0 hD ho' hi hh hd rfl hwr rfl rfl rfl rfl hm s2 s3 s4
   exact⟨_,w',ι2,s1,hI⟩
end
end Go.Ev
