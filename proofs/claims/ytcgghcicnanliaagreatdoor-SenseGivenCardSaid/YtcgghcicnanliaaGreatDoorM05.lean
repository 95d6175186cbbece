/- An evaluator of closed runs. Conditions: as each statement says. -/
import Derived.Test.YtcgghcicnanliaaGreatDoorM04
set_option linter.unusedVariables false
set_option linter.unusedSimpArgs false
namespace Go.Ev
noncomputable section
def fPutL (tm:VT)(d:Option Tmp)(v:Value):VT:=(Option.rec (motive:=fun _=>VT) (tm) (fun t=>fSet tm t v) (d))
theorem kgi (tm:VT)(d:Option Tmp)(v:Value):fPutL tm d v=putL tm d v:=by
 cases d with
 | none=>rfl
 | some t=>exact fSet_eq tm t v
def fWantV (want:Bool)(o:Option Value):Bool:=(Option.rec (motive:=fun _=>Bool) (false) (fun v=>(Option.rec (motive:=fun _=>Bool) (false) (fun b=>(Bool.rec (motive:=fun _=>Bool) (Bool.not want) (want) (b))) (boolV v))) (o))
def fWant (all:List Oper)(tm:VT)(g:Nat × Bool):Bool:=(Option.rec (motive:=fun _=>Bool) (false) (fun q=>(Option.rec (motive:=fun _=>Bool) (false) (fun t=>fWantV (Prod.snd g) (fGet tm t)) (Oper.dst q))) (lget all (Prod.fst g)))
theorem fWant_eq (all:List Oper)(tm:VT)(o:Oper)(g:Nat × Bool)(hg:o.guard=some g):fWant all tm g=kaw all tm o:=by
 obtain⟨j,want⟩:=g;unfold fWant kaw;rw[hg,knh]
 simp only
 cases all[j]? with
 | none=>rfl
 | some q=>
  simp only[Option.bind_some]
  cases q.dst with
  | none=>rfl
  | some t=>
   simp only[fWantV,fGet_eq]
   cases tm.get t with
   | none=>rfl
   | some v=>simp only[boolV_eq];cases v<;>first|rfl|(rename_i b;cases b<;>rfl)
abbrev KL:=List Oper→Tab→Program→(Req→Option Res)→VT→Hp→Option (VT × Hp)
def fAft (ih:KL)(all:List Oper)(T:Tab)(P:Program)(self:Req→Option Res)(tm:VT)(d:Option Tmp)(r:R):Option (VT × Hp):=(Option.rec (motive:=fun _=>Option (VT × Hp)) (none) (fun p=>ih all T P self (fPutL tm d (Prod.fst p)) (Prod.snd p)) (r))
def fRun (o:Oper)(ih:KL)(all:List Oper)(T:Tab)(P:Program)(self:Req→Option Res)(tm:VT)(h:Hp):Option (VT × Hp):=fAft ih all T P self tm (Oper.dst o) (fOp (Oper.op o) T P self tm h o)
def fGrd (g:Nat × Bool)(o:Oper)(ih:KL)(all:List Oper)(T:Tab)(P:Program)(self:Req→Option Res)(tm:VT)(h:Hp):Option (VT × Hp):=(Bool.rec (motive:=fun _=>Option (VT × Hp)) (ih all T P self (fPutL tm (Oper.dst o) undef) h) (fRun o ih all T P self tm h) (fWant all tm g))
def fStp (o:Oper)(ih:KL):KL:=Option.rec (motive:=fun _=>Oper→KL→KL) fRun fGrd (Oper.guard o) o ih
def fOps (l:List Oper):KL:=List.rec (motive:=fun _=>KL) (fun _ _ _ _ tm h=>some (tm,h)) (fun o _ ih=>fStp o ih) l
theorem fStp_eq (o:Oper)(ih:KL)(all:List Oper)(T:Tab)(P:Program)(self:Req→Option Res)(tm:VT)(h:Hp):fStp o ih all T P self tm h =
  bif kaw all tm o then (match eOp T P self tm h o with|some (v,h')=>ih all T P self (putL tm o.dst v) h'|none=>none) else ih all T P self (putL tm o.dst undef) h:=by
 have run:fRun o ih all T P self tm h=(match eOp T P self tm h o with|some (v,h')=>ih all T P self (putL tm o.dst v) h'|none=>none):=by
  unfold fRun fAft;rw[fOp_eq]
  cases eOp T P self tm h o with
  | none=>rfl
  | some p=>simp only[kgi]
 unfold fStp
 cases hg:o.guard with
 | none=>show fRun o ih all T P self tm h=_;rw[run];simp only[kaw,hg,cond_true]
 | some g=>show fGrd g o ih all T P self tm h=_;unfold fGrd;rw[brec,fWant_eq all tm o g hg,run,kgi]
theorem fOps_eq (all:List Oper)(T:Tab)(P:Program)(self:Req→Option Res):∀(l:List Oper) (tm:VT) (h:Hp),fOps l all T P self tm h=eOps T P self all l tm h
 | [],_,_=>rfl
 | o::os,tm,h=>by
  show fStp o (fOps os) all T P self tm h=_
  rw[fStp_eq];simp only[eOps,fOps_eq all T P self os]
  cases kaw all tm o with
  | false=>rfl
  | true=>simp only[cond_true];cases eOp T P self tm h o<;>rfl
abbrev KH:=List Oper→List Nat→Tr→Tab→Program→(Req→Option Res)→VT→Nat→List Dl→Option (VT × Nat × List Dl)
def fHm (ih:KH)(i:Nat)(d:Option Tmp)(all:List Oper)(bs:List Nat)(h0:Tr)(T:Tab)(P:Program)(self:Req→Option Res)(tm:VT)(next:Nat)(ds:List Dl)(r:R):Option (VT × Nat × List Dl):=(Option.rec (motive:=fun _=>Option (VT × Nat × List Dl)) (none) (fun p=>(Bool.rec (motive:=fun _=>Option (VT × Nat × List Dl)) ((Bool.rec (motive:=fun _=>Option (VT × Nat × List Dl)) (none) (ih all bs h0 T P self (fPutL tm d (Prod.fst p)) (Hp.next (Prod.snd p)) (⟨i,next,Hp.next (Prod.snd p),kjl (Hp.tr (Prod.snd p)) next (Nat.sub (Hp.next (Prod.snd p)) next)⟩::ds)) (Nat.ble next (Hp.next (Prod.snd p))))) (ih all bs h0 T P self (fPutL tm d (Prod.fst p)) next ds) (kee (Prod.fst p)))) (r))
def fHp (ih:KH)(d:Option Tmp)(all:List Oper)(bs:List Nat)(h0:Tr)(T:Tab)(P:Program)(self:Req→Option Res)(tm:VT)(next:Nat)(ds:List Dl)(r:R):Option (VT × Nat × List Dl):=(Option.rec (motive:=fun _=>Option (VT × Nat × List Dl)) (none) (fun p=>ih all bs h0 T P self (fPutL tm d (Prod.fst p)) next ds) (r))
def fHrun (o:Oper)(i:Nat)(ih:KH)(all:List Oper)(bs:List Nat)(h0:Tr)(T:Tab)(P:Program)(self:Req→Option Res)(tm:VT)(next:Nat)(ds:List Dl):Option (VT × Nat × List Dl):=(Bool.rec (motive:=fun _=>Option (VT × Nat × List Dl)) (fHm ih i (Oper.dst o) all bs h0 T P self tm next ds (fOp (Oper.op o) T P self tm ⟨kbt (bs.getD i 0) h0 ds,next,next⟩ o)) (fHp ih (Oper.dst o) all bs h0 T P self tm next ds (fOp (Oper.op o) T P self tm ⟨h0,next,next⟩ o)) (kdc (Oper.op o)))
def fHg (g:Nat × Bool)(o:Oper)(i:Nat)(ih:KH)(all:List Oper)(bs:List Nat)(h0:Tr)(T:Tab)(P:Program)(self:Req→Option Res)(tm:VT)(next:Nat)(ds:List Dl):Option (VT × Nat × List Dl):=(Bool.rec (motive:=fun _=>Option (VT × Nat × List Dl)) (ih all bs h0 T P self (fPutL tm (Oper.dst o) undef) next ds) (fHrun o i ih all bs h0 T P self tm next ds) (fWant all tm g))
def fHo (o:Oper)(i:Nat)(ih:KH):KH:=Option.rec (motive:=fun _=>Oper→Nat→KH→KH) fHrun fHg (Oper.guard o) o i ih
def fHs (i:Nat)(ih:KH)(all:List Oper)(bs:List Nat)(h0:Tr)(T:Tab)(P:Program)(self:Req→Option Res)(tm:VT)(next:Nat)(ds:List Dl):Option (VT × Nat × List Dl):=(Option.rec (motive:=fun _=>Option (VT × Nat × List Dl)) (none) (fun o=>fHo o i ih all bs h0 T P self tm next ds) (lget all i))
def fHead (l:List Nat):KH:=List.rec (motive:=fun _=>KH) (fun _ _ _ _ _ _ tm next ds=>some (tm,next,ds)) (fun i _ ih=>fHs i ih) l
theorem fHead_eq (all:List Oper)(bs:List Nat)(h0:Tr)(T:Tab)(P:Program)(self:Req→Option Res):∀(l:List Nat) (tm:VT) (next:Nat) (ds:List Dl),fHead l all bs h0 T P self tm next ds=kik T P self all bs h0 l tm next ds
 | [],_,_,_=>rfl
 | i::is,tm,next,ds=>by
  show fHs i (fHead is) all bs h0 T P self tm next ds=_
  unfold fHs;rw[knh];simp only[kik]
  cases all[i]? with
  | none=>rfl
  | some o=>
   simp only
   have ih:=fHead_eq all bs h0 T P self is
   have run:fHrun o i (fHead is) all bs h0 T P self tm next ds=(bif kdc o.op then
    match kgp T P tm o.op with
    | some v=>kik T P self all bs h0 is (putL tm o.dst v) next ds
    | none=>none
   else
   match eMem T P self tm ⟨kbt (bs.getD i 0) h0 ds,next,next⟩ o.op with
   | some (v,h')=>
    bif kee v then kik T P self all bs h0 is (putL tm o.dst v) next ds
    else bif Nat.ble next h'.next then kik T P self all bs h0 is (putL tm o.dst v) h'.next (⟨i,next,h'.next,kjl h'.tr next (h'.next-next)⟩::ds) else none
   | none=>none):=by
    unfold fHrun;rw[brec,fOp_eq,fOp_eq];unfold eOp
    cases hp:kdc o.op with
    | true=>
     simp only[cond_true];unfold fHp
     cases kgp T P tm o.op with
     | none=>rfl
     | some v=>simp only[ih,kgi]
    | false=>
     simp only[cond_false];unfold fHm
     cases eMem T P self tm ⟨kbt (bs.getD i 0) h0 ds,next,next⟩ o.op with
     | none=>rfl
     | some p=>simp only[brec,ih,kgi];rfl
   unfold fHo
   cases hg:o.guard with
   | none=>
    show fHrun o i (fHead is) all bs h0 T P self tm next ds=_;rw[run];simp only[kaw,hg,cond_true]
    cases kdc o.op with
    | true=>simp only[cond_true];cases kgp T P tm o.op<;>rfl
    | false=>simp only[cond_false];cases eMem T P self tm ⟨kbt (bs.getD i 0) h0 ds,next,next⟩ o.op<;>rfl
   | some g=>
    show fHg g o i (fHead is) all bs h0 T P self tm next ds=_;unfold fHg;rw[brec,fWant_eq all tm o g hg,run,kgi,ih]
    cases kaw all tm o with
    | false=>rfl
    | true=>
     simp only[cond_true]
     cases kdc o.op with
     | true=>simp only[cond_true];cases kgp T P tm o.op<;>rfl
     | false=>simp only[cond_false];cases eMem T P self tm ⟨kbt (bs.getD i 0) h0 ds,next,next⟩ o.op<;>rfl
def kjn (ops:List Oper)(p:Plan):List Nat→List (Nat × TypeId × Operand × Option Tmp)
 | []=>[]
 | i::is=>match ops[i]? with
  | some o=>match o.op with
   | .load t a=>bif p.tail.all (fun j=>(p.bs.getD j 0).testBit i) then kjn ops p is else (i,t,a,o.dst)::kjn ops p is
   | _=>kjn ops p is
  | none=>kjn ops p is
def lateGo (tm:VT):List (Nat × TypeId × Operand × Option Tmp)→Option (List Lt)
 | []=>some []
 | (i,t,a,d)::r=>match opd tm a,d.bind tm.get with
  | some x,some v=>(lateGo tm r).map (⟨i,t,x,v⟩::·)
  | _,_=>none
theorem lateGo_eq (ops:List Oper)(p:Plan)(tm:VT):∀l:List Nat,lateGo tm (kjn ops p l)=kgm ops p tm l
 | []=>rfl
 | i::is=>by
  have ih:=lateGo_eq ops p tm is;simp only[kjn,kgm]
  cases ops[i]? with
  | none=>exact ih
  | some o=>
   simp only
   cases o.op<;>first|exact ih|skip
   rename_i t a
   simp only
   cases p.tail.all (fun j=>(p.bs.getD j 0).testBit i) with
   | true=>exact ih
   | false=>
    simp only[cond_false,lateGo,ih]
    cases opd tm a<;>cases o.dst.bind tm.get<;>rfl
abbrev KT:=List Lt→List Nat→List Oper→Tab→Program→(Req→Option Res)→VT→Hp→Option (VT × Hp)
def fTa (ih:KT)(i:Nat)(d:Option Tmp)(lt:List Lt)(bs:List Nat)(all:List Oper)(T:Tab)(P:Program)(self:Req→Option Res)(tm:VT)(r:R):Option (VT × Hp):=(Option.rec (motive:=fun _=>Option (VT × Hp)) (none) (fun p=>(Bool.rec (motive:=fun _=>Option (VT × Hp)) (none) (ih lt bs all T P self (fPutL tm d (Prod.fst p)) (Prod.snd p)) (knj T (Prod.snd p) (lt.filter fun e=>!(bs.getD i 0).testBit e.i)))) (r))
def fTr (o:Oper)(i:Nat)(ih:KT)(lt:List Lt)(bs:List Nat)(all:List Oper)(T:Tab)(P:Program)(self:Req→Option Res)(tm:VT)(h:Hp):Option (VT × Hp):=fTa ih i (Oper.dst o) lt bs all T P self tm (fOp (Oper.op o) T P self tm h o)
def fTg (g:Nat × Bool)(o:Oper)(i:Nat)(ih:KT)(lt:List Lt)(bs:List Nat)(all:List Oper)(T:Tab)(P:Program)(self:Req→Option Res)(tm:VT)(h:Hp):Option (VT × Hp):=(Bool.rec (motive:=fun _=>Option (VT × Hp)) (ih lt bs all T P self (fPutL tm (Oper.dst o) undef) h) (fTr o i ih lt bs all T P self tm h) (fWant all tm g))
def fTo (o:Oper)(i:Nat)(ih:KT):KT:=Option.rec (motive:=fun _=>Oper→Nat→KT→KT) fTr fTg (Oper.guard o) o i ih
def fTs (i:Nat)(ih:KT)(lt:List Lt)(bs:List Nat)(all:List Oper)(T:Tab)(P:Program)(self:Req→Option Res)(tm:VT)(h:Hp):Option (VT × Hp):=(Option.rec (motive:=fun _=>Option (VT × Hp)) (none) (fun o=>fTo o i ih lt bs all T P self tm h) (lget all i))
def fTail (l:List Nat):KT:=List.rec (motive:=fun _=>KT) (fun _ _ _ _ _ _ tm h=>some (tm,h)) (fun i _ ih=>fTs i ih) l
theorem fTail_eq (lt:List Lt)(bs:List Nat)(all:List Oper)(T:Tab)(P:Program)(self:Req→Option Res):∀(l:List Nat) (tm:VT) (h:Hp),fTail l lt bs all T P self tm h=knw T P self all bs lt l tm h
 | [],_,_=>rfl
 | i::is,tm,h=>by
  show fTs i (fTail is) lt bs all T P self tm h=_
  unfold fTs;rw[knh];simp only[knw]
  cases all[i]? with
  | none=>rfl
  | some o=>
   simp only
   have ih:=fTail_eq lt bs all T P self is
   have run:fTr o i (fTail is) lt bs all T P self tm h=(match eOp T P self tm h o with
    | some (v,h')=>bif knj T h' (lt.filter fun e=>!(bs.getD i 0).testBit e.i) then knw T P self all bs lt is (putL tm o.dst v) h' else none
    | none=>none):=by
    unfold fTr fTa;rw[fOp_eq]
    cases eOp T P self tm h o with
    | none=>rfl
    | some p=>simp only[brec,ih,kgi]
   unfold fTo
   cases hg:o.guard with
   | none=>
    show fTr o i (fTail is) lt bs all T P self tm h=_;rw[run];simp only[kaw,hg,cond_true]
    cases eOp T P self tm h o<;>rfl
   | some g=>
    show fTg g o i (fTail is) lt bs all T P self tm h=_;unfold fTg;rw[brec,fWant_eq all tm o g hg,run,kgi,ih]
    cases kaw all tm o with
    | false=>rfl
    | true=>simp only[cond_true];cases eOp T P self tm h o<;>rfl
structure Plan2 where
 p:Plan
 late:List (Nat × TypeId × Operand × Option Tmp)
def toP2 (ops:List Oper):Option Plan→List Plan2
 | some p=>[⟨p,kjn ops p p.head⟩]
 | none=>[]
def plansOf (ops:List Oper):List Plan2:=toP2 ops (planB ops true)++(toP2 ops (planB ops false)++(toP2 ops (planA ops)++[]))
def fDl (p:Plan2)(ops:List Oper)(T:Tab)(P:Program)(self:Req→Option Res)(h:Hp)(tm:VT)(next:Nat)(t:Tr)(lt:List Lt):Option (VT × Hp):=(Bool.rec (motive:=fun _=>Option (VT × Hp)) (none) (fTail (Plan.tail (Plan2.p p)) lt (Plan.bs (Plan2.p p)) ops T P self tm ⟨t,next,Hp.wall h⟩) (knj T ⟨t,next,Hp.wall h⟩ lt))
def fDh (p:Plan2)(ops:List Oper)(T:Tab)(P:Program)(self:Req→Option Res)(h:Hp)(q:VT × Nat × List Dl):Option (VT × Hp):=(Option.rec (motive:=fun _=>Option (VT × Hp)) (none) (fun lt=>fDl p ops T P self h (Prod.fst q) (Prod.fst (Prod.snd q)) (kfo (Hp.tr h) (Prod.snd (Prod.snd q))) lt) (lateGo (Prod.fst q) (Plan2.late p)))
def fDp (p:Plan2)(ops:List Oper)(T:Tab)(P:Program)(self:Req→Option Res)(tm:VT)(h:Hp):Option (VT × Hp):=(Option.rec (motive:=fun _=>Option (VT × Hp)) (none) (fun q=>fDh p ops T P self h q) (fHead (Plan.head (Plan2.p p)) ops (Plan.bs (Plan2.p p)) (Hp.tr h) T P self tm (Hp.next h) List.nil))
abbrev KD:=List Oper→Tab→Program→(Req→Option Res)→VT→Hp→Option (VT × Hp)
def fDs (p:Plan2)(ih:KD)(ops:List Oper)(T:Tab)(P:Program)(self:Req→Option Res)(tm:VT)(h:Hp):Option (VT × Hp):=(Option.rec (motive:=fun _=>Option (VT × Hp)) (ih ops T P self tm h) (fun r=>some r) (fDp p ops T P self tm h))
def fDrawL (l:List Plan2):KD:=List.rec (motive:=fun _=>KD) (fun _ _ _ _ _ _=>none) (fun p _ ih=>fDs p ih) l
def fDraw (ops:List Oper)(T:Tab)(P:Program)(self:Req→Option Res)(tm:VT)(h:Hp):Option (VT × Hp):=fDrawL (plansOf ops) ops T P self tm h
theorem fDp_eq (p:Plan)(ops:List Oper)(T:Tab)(P:Program)(self:Req→Option Res)(tm:VT)(h:Hp):fDp ⟨p,kjn ops p p.head⟩ ops T P self tm h=khc T P self ops tm h p:=by
 unfold fDp khc;rw[fHead_eq]
 cases kik T P self ops p.bs h.tr p.head tm h.next [] with
 | none=>rfl
 | some q=>
  obtain⟨tm',next,ds⟩:=q;simp only[fDh,lateGo_eq]
  cases kgm ops p tm' p.head with
  | none=>rfl
  | some lt=>simp only[fDl,brec,fTail_eq]
theorem kkp (ops:List Oper)(T:Tab)(P:Program)(self:Req→Option Res)(tm:VT)(h:Hp)(o:Option Plan)(l:List Plan2) :
  fDrawL (toP2 ops o++l) ops T P self tm h=orElse (fDrawL l ops T P self tm h) (kjx T P self ops tm h o):=by
 cases o with
 | none=>rfl
 | some p=>
  show fDs ⟨p,kjn ops p p.head⟩ (fDrawL l) ops T P self tm h=_
  unfold fDs;rw[fDp_eq];simp only[kjx]
  cases khc T P self ops tm h p<;>rfl
theorem fDraw_eq (ops:List Oper)(T:Tab)(P:Program)(self:Req→Option Res)(tm:VT)(h:Hp):fDraw ops T P self tm h=eDraw T P self ops tm h:=by
 unfold fDraw plansOf eDraw;rw[kkp,kkp,kkp]
 cases kjx T P self ops tm h (planB ops true)<;>cases kjx T P self ops tm h (planB ops false)<;>cases kjx T P self ops tm h (planA ops)<;>rfl
abbrev KC:=Tab→Program→(Req→Option Res)→FuncId→Option Nat→VT→List Nat→Hp→List Item→Code→Option Res
def cReg (draw:Bool)(ops:List Oper)(T:Tab)(P:Program)(self:Req→Option Res)(fn:FuncId)(rnd:Option Nat)(tm:VT)(defs:List Nat)(h:Hp)(k:List Item):Option Res:=(Option.rec (motive:=fun _=>Option Res) (none) (fun p=>self (.frame fn rnd (Prod.fst p) defs k (Prod.snd p))) ((Bool.rec (motive:=fun _=>Option (VT × Hp)) (fOps ops ops T P self tm h) (fDraw ops T P self tm h) (draw))))
def cCnd (t e:Code)(self:Req→Option Res)(fn:FuncId)(rnd:Option Nat)(tm:VT)(defs:List Nat)(h:Hp)(k:List Item)(v:Option Value):Option Res:=(Option.rec (motive:=fun _=>Option Res) (none) (fun v=>(Option.rec (motive:=fun _=>Option Res) (none) (fun b=>self (.frame fn rnd tm defs (.code (Bool.rec (motive:=fun _=>Code) e t b)::k) h)) (boolV v))) (v))
def cDef:KC:=fun T P self fn rnd tm defs h k c=>kjw T P self fn rnd tm defs h (.code c::k)
def fCode (c:Code):KC:=(Code.rec (motive:=fun _=>KC) (fun _ _ self fn rnd tm defs h k _=>self (.frame fn rnd tm defs k h)) (fun _ ops draw T P self fn rnd tm defs h k _=>cReg draw (Array.toList ops) T P self fn rnd tm defs h k) (fun a b _ _ _ _ self fn rnd tm defs h k _=>self (.frame fn rnd tm defs (.code a::.code b::k) h)) (fun c t e _ _ _ _ self fn rnd tm defs h k _=>cCnd t e self fn rnd tm defs h k (fOpd tm c)) (fun id b _ _ _ self fn rnd tm defs h k _=>self (.frame fn rnd tm defs (.code b::.inBlock id::k) h)) (fun b _ _ _ self fn rnd tm defs h k _=>self (.frame fn rnd tm defs (.code b::.inLoop b::k) h)) (fun _ _ _ _ _ _=>cDef) (fun _=>cDef) (fun _ _=>cDef) (fun _=>cDef) (fun _=>cDef) (fun _ _ _ _ _ tm defs h _ _=>some (.left (some .ret) tm defs h)) (fun _=>cDef) c)
theorem fCode_eq (c:Code)(T:Tab)(P:Program)(self:Req→Option Res)(fn:FuncId)(rnd:Option Nat)(tm:VT)(defs:List Nat)(h:Hp)(k:List Item):fCode c T P self fn rnd tm defs h k c=kCode T P self fn rnd tm defs h k c:=by
 cases c<;>first|rfl|skip
 case region id ops draw=>
  show cReg draw ops.toList T P self fn rnd tm defs h k=kReg self fn rnd defs k (bif draw then eDraw T P self ops.toList tm h else kOps T P self ops.toList ops.toList tm h)
  unfold cReg;rw[brec,fDraw_eq,fOps_eq,kOps_eq]
  cases (bif draw then eDraw T P self ops.toList tm h else eOps T P self ops.toList ops.toList tm h)<;>rfl
 case cond c t e=>
  show cCnd t e self fn rnd tm defs h k (fOpd tm c)=kCond self fn rnd tm defs h k t e (opd tm c)
  unfold cCnd;rw[kcu]
  cases opd tm c with
  | none=>rfl
  | some v=>
   simp only[boolV_eq]
   cases v<;>first|rfl|skip
   rename_i b
   cases b<;>rfl
abbrev KI:=Tab→Program→(Req→Option Res)→FuncId→Option Nat→VT→List Nat→Hp→List Item→Item→Option Res
def iDef:KI:=fun T P self fn rnd tm defs h k it=>kjw T P self fn rnd tm defs h (it::k)
def fItem (it:Item):KI:=(Item.rec (motive:=fun _=>KI) (fun c T P self fn rnd tm defs h k _=>fCode c T P self fn rnd tm defs h k c) (fun _ _ _ self fn rnd tm defs h k _=>self (.frame fn rnd tm defs k h)) (fun b _ _ self fn rnd tm defs h k _=>self (.frame fn rnd tm defs (.code b::.inLoop b::k) h)) (fun _ _ _ self fn rnd tm defs h k _=>self (.frame fn rnd tm defs k h)) (fun _ _=>iDef) (fun _=>iDef) (fun _=>iDef) iDef (fun _ _ _ _=>iDef) (fun _ _=>iDef) it)
theorem fItem_eq (it:Item)(T:Tab)(P:Program)(self:Req→Option Res)(fn:FuncId)(rnd:Option Nat)(tm:VT)(defs:List Nat)(h:Hp)(k:List Item):fItem it T P self fn rnd tm defs h k it=kItem T P self fn rnd tm defs h k it:=by
 cases it<;>first|rfl|skip
 case code c=>exact fCode_eq c T P self fn rnd tm defs h k
def fFrame (l:List Item):Tab→Program→(Req→Option Res)→FuncId→Option Nat→VT→List Nat→Hp→Option Res:=List.rec (motive:=fun _=>Tab→Program→(Req→Option Res)→FuncId→Option Nat→VT→List Nat→Hp→Option Res) (fun _ _ _ _ _ tm defs h=>some (.left none tm defs h)) (fun it k _ T P self fn rnd tm defs h=>fItem it T P self fn rnd tm defs h k it) l
theorem fFrame_eq (l:List Item)(T:Tab)(P:Program)(self:Req→Option Res)(fn:FuncId)(rnd:Option Nat)(tm:VT)(defs:List Nat)(h:Hp):fFrame l T P self fn rnd tm defs h=kFrame T P self fn rnd tm defs h l:=by
 cases l with
 | nil=>rfl
 | cons it k=>exact fItem_eq it T P self fn rnd tm defs h k
def fFill (vs:List Value):Nat→Vt→Vt:=List.rec (motive:=fun _=>Nat→Vt→Vt) (fun _ t=>t) (fun v _ ih i t=>ih (Nat.succ i) (sV (Nat.succ i) t i v)) vs
theorem fFill_eq:∀(vs:List Value) (i:Nat) (t:Vt),fFill vs i t=Vt.fill t i vs
 | [],_,_=>rfl
 | v::vs,i,t=>by show fFill vs (i+1) (sV (i+1) t i v)=_;rw[fFill_eq vs,sV_eq];rfl
def fTake (ds:List Nat)(h:Hp):Option Hp:=List.rec (motive:=fun _=>List Nat→Hp→Option Hp) (fun _ h=>some h) (fun _ _ _ ds h=>kec h ds) ds ds h
theorem fTake_eq (ds:List Nat)(h:Hp):fTake ds h=kec h ds:=by cases ds<;>rfl
def fRs (r:ResultVar)(T:Tab)(tm:VT)(h:Hp):Option Value:=ResultVar.rec (motive:=fun _=>Tab→VT→Hp→Option Value) (fun t _ tm _=>fGet tm t) (fun a t T tm h=>(Option.rec (motive:=fun _=>Option Value) (none) (fun v=>(Option.rec (motive:=fun _=>Option Value) (none) (fun p=>some (Prod.fst p)) (fLoad T h t v))) (fGet tm a))) r T tm h
theorem fRs_eq (r:ResultVar)(T:Tab)(tm:VT)(h:Hp):fRs r T tm h=eResult T tm h r:=by
 cases r with
 | tmp t=>exact fGet_eq tm t
 | cell a t=>
  show Option.rec (motive:=fun _=>Option Value) none (fun v=>Option.rec (motive:=fun _=>Option Value) none (fun p=>some (Prod.fst p)) (fLoad T h t v)) (fGet tm a)=(match tm.get a with|some v=>loadV T h t v|none=>none)
  rw[fGet_eq]
  cases tm.get a with
  | none=>rfl
  | some v=>simp only[fLoad_eq,loadV];cases kht T h t v<;>rfl
def fRss (l:List ResultVar)(T:Tab)(tm:VT)(h:Hp):Option (List Value):=List.rec (motive:=fun _=>Option (List Value)) (some []) (fun r _ ih=>(Option.rec (motive:=fun _=>Option (List Value)) (none) (fun v=>(Option.rec (motive:=fun _=>Option (List Value)) (none) (fun vs=>some (v::vs)) (ih))) (fRs r T tm h))) l
theorem fRss_eq (T:Tab)(tm:VT)(h:Hp):∀l:List ResultVar,fRss l T tm h=kdr T tm h l
 | []=>rfl
 | r::l=>by
  show Option.rec (motive:=fun _=>Option (List Value)) none (fun v=>Option.rec (motive:=fun _=>Option (List Value)) none (fun vs=>some (v::vs)) (fRss l T tm h)) (fRs r T tm h)=_
  rw[fRs_eq,fRss_eq T tm h l];simp only[kdr]
  cases eResult T tm h r with
  | none=>rfl
  | some v=>cases kdr T tm h l<;>rfl
def fPack (l:List Value):Value:=List.rec (motive:=fun _=>List Value→Value) (fun l=>.tuple l.toArray) (fun v r _ l=>List.rec (motive:=fun _=>Value→List Value→Value) (fun v _=>v) (fun _ _ _ _ l=>.tuple l.toArray) r v l) l l
theorem fPack_eq (l:List Value):fPack l=packV l:=by
 cases l with
 | nil=>rfl
 | cons v r=>cases r<;>rfl
def cRetB (c:Code):Bool:=(Code.rec (motive:=fun _=>Bool) false (fun _ _ _=>false) (fun _ _ _ _=>false) (fun _ _ _ _ _=>false) (fun _ _ _=>false) (fun _ _=>false) (fun _ _ _ _ _ _=>false) (fun _=>false) (fun _ _=>false) (fun _=>false) (fun _=>false) true (fun _=>false) c)
def fLeftB (j:Option Code):Bool:=(Option.rec (motive:=fun _=>Bool) (true) (fun c=>cRetB c) (j))
theorem fLeftB_eq (j:Option Code):fLeftB j=leftB j:=by
 cases j with
 | none=>rfl
 | some c=>cases c<;>rfl
def eB (rs:List ResultVar)(T:Tab)(tm:VT)(h:Hp):Option Res:=(Option.rec (motive:=fun _=>Option Res) (none) (fun vs=>some (.val (fPack vs) h)) (fRss rs T tm h))
def eL (rs:List ResultVar)(T:Tab)(j:Option Code)(tm:VT)(defs:List Nat)(h:Hp):Option Res:=(Bool.rec (motive:=fun _=>Option Res) (none) ((Option.rec (motive:=fun _=>Option Res) (none) (fun h=>eB rs T tm h) (fTake defs h))) (fLeftB j))
def eF (f:FuncId)(args:List Value)(h:Hp)(T:Tab)(self:Req→Option Res)(fi:FI):Option Res:=(Option.rec (motive:=fun _=>Option Res) (none) (fun r=>Res.rec (motive:=fun _=>List ResultVar→Tab→Option Res) (fun _ _ _ _=>none) (fun j tm defs h rs T=>eL rs T j tm defs h) r (FI.results fi) T) (self (.frame f none ⟨Nat.add (llen args) (Nat.sub (FI.ntmps fi) (llen args)),fFill args (nat_lit 0) .leaf⟩ [] [.code (FI.code fi)] h)))
def eC (f:FuncId)(args:List Value)(h:Hp)(T:Tab)(self:Req→Option Res):Option Res:=(Option.rec (motive:=fun _=>Option Res) (none) (fun fi=>eF f args h T self fi) (T.fn f))
def fEnter (f:FuncId)(args:List Value)(h:Hp)(T:Tab)(self:Req→Option Res):Option Res:=(Option.rec (motive:=fun _=>Option Res) (eC f args h T self) (fun g=>(Option.rec (motive:=fun _=>Option Res) (eC f args h T self) (fun p=>some (.val (Prod.fst p) (Prod.snd p))) (g args h))) (T.orc f))
theorem fEnter_eq (f:FuncId)(args:List Value)(h:Hp)(T:Tab)(self:Req→Option Res):fEnter f args h T self=knz T self f args h:=by
 have e:eC f args h T self=(match T.fn f with
  | some fi=>match self (.frame f none ⟨args.length+(fi.ntmps-args.length),Vt.fill .leaf 0 args⟩ [] [.code fi.code] h) with
   | some (.left j tmps defs h')=>bif leftB j then
     (match kec h' defs with
     | some h''=>match kdr T tmps h'' fi.results with
      | some vs=>some (.val (packV vs) h'')
      | none=>none
     | none=>none) else none
   | _=>none
  | none=>none):=by
  unfold eC
  cases T.fn f with
  | none=>rfl
  | some fi=>
   simp only[eF,fFill_eq,kng]
   show Option.rec (motive:=fun _=>Option Res) none (fun r=>Res.rec (motive:=fun _=>List ResultVar→Tab→Option Res) (fun _ _ _ _=>none) (fun j tm defs h rs T=>eL rs T j tm defs h) r fi.results T) (self (.frame f none ⟨args.length+(fi.ntmps-args.length),Vt.fill .leaf 0 args⟩ [] [.code fi.code] h))=_
   cases self (.frame f none ⟨args.length+(fi.ntmps-args.length),Vt.fill .leaf 0 args⟩ [] [.code fi.code] h) with
   | none=>rfl
   | some r=>
    cases r with
    | val v h=>rfl
    | left j tm defs h=>
     simp only[eL,brec,fLeftB_eq,fTake_eq]
     cases leftB j with
     | false=>rfl
     | true=>
      simp only[cond_true]
      cases kec h defs with
      | none=>rfl
      | some h=>simp only[eB,fRss_eq,fPack_eq];cases kdr T tm h fi.results<;>rfl
 unfold fEnter knz eOrc
 cases T.orc f with
 | none=>exact e
 | some g=>
  show Option.rec (motive:=fun _=>Option Res) (eC f args h T self) (fun p=>some (.val (Prod.fst p) (Prod.snd p))) (g args h)=_
  cases hg:g args h with
  | none=>simp only[hg];exact e
  | some p=>simp only[hg]
def fBody (T:Tab)(P:Program)(self:Req→Option Res)(r:Req):Option Res:=Req.rec (motive:=fun _=>Tab→Program→(Req→Option Res)→Option Res) (fun f args h T _ self=>fEnter f args h T self) (fun l args h _ _ self=>eRound self l args h) (fun fn rnd tm defs todo h T P self=>fFrame todo T P self fn rnd tm defs h) r T P self
theorem fBody_eq (T:Tab)(P:Program)(self:Req→Option Res):fBody T P self=kBody T P self:=by
 funext r
 cases r with
 | call f args h=>exact fEnter_eq f args h T self
 | round l args h=>rfl
 | frame fn rnd tm defs todo h=>exact fFrame_eq todo T P self fn rnd tm defs h
def evF (T:Tab)(P:Program)(n:Nat):Req→Option Res:=Nat.rec (motive:=fun _=>Req→Option Res) (fun _=>none) (fun _ ih=>fBody T P ih) n
theorem evF_eq (T:Tab)(P:Program):∀n,evF T P n=evK T P n
 | 0=>rfl
 | n+1=>by
  show fBody T P (evF T P n)=kBody T P (evK T P n)
  rw[fBody_eq,evF_eq T P n]
end
def nm1 (p:Nat→Bool):Value→Bool
 | .pointer (some a)=>p a.block
 | .slice (some a) _ _=>p a.block
 | _=>true
def nm2 (p:Nat→Bool):Value→Bool
 | .agg cs=>cs.toList.all (nm1 p)
 | v=>nm1 p v
def nm3 (p:Nat→Bool):Value→Bool
 | .tuple cs=>cs.toList.all (nm2 p)
 | v=>nm2 p v
def rs (p:Nat→Bool)(ι : In):In:=fun k=>if p k=true then ι k else none
theorem rs_some {p:Nat→Bool}{ι : In}{k:Nat}{l}(h:rs p ι k=some l):p k=true∧ι k=some l:=by
 unfold rs at h
 split at h
 ·rename_i hp;exact⟨hp,h⟩
 ·cases h
theorem rs_of {p:Nat→Bool}{ι : In}{k:Nat}{l}(hp:p k=true)(h:ι k=some l):rs p ι k=some l:=by unfold rs;rw[if_pos hp];exact h
section
variable {ι : In} {p:Nat→Bool} {v v':Value}
theorem VR.rs1 (hs:sim1 v=true)(hp:nm1 p v=true)(h:VR ι v v'):VR (rs p ι) v v':=by
 unfold sim1 at hs
 split at hs
 ·rename_i a
  obtain⟨b,o,sp⟩:=a
  have:sp=none:=by simpa using hs
  subst this;obtain⟨l,hl,rfl⟩:=h.inv_ptr
  exact .ptr (rs_of hp hl)
 ·rename_i a n c
  obtain⟨b,o,sp⟩:=a
  rcases h.inv_slice with ⟨ha,_⟩|⟨k,off,sp',l,c',ha,hl,rfl,hc⟩
  ·cases ha
  ·cases ha
   cases sp with
   | none=>simp at hc;subst hc;exact .slice (rs_of hp hl)
   | some t=>simp at hc;subst hc;exact .opn (rs_of hp hl)
 ·have hv:=h.inv_leaf hs
  subst hv
  exact .leaf hs
theorem LR.rsL {q:Value→Bool}{n:Value→Bool}(hf:∀v v',q v=true→n v=true→VR ι v v'→VR (rs p ι) v v'){l l':List Value}(hq:l.all q=true)(hn:l.all n=true)(h:LR ι l l'):LR (rs p ι) l l':=
 ⟨h.1,fun i x x' a b=>hf x x' (List.all_eq_true.1 hq x (List.mem_of_getElem? a)) (List.all_eq_true.1 hn x (List.mem_of_getElem? a)) (h.2 i x x' a b)⟩
theorem VR.rs2 (hs:sim2 v=true)(hp:nm2 p v=true)(h:VR ι v v'):VR (rs p ι) v v':=by
 unfold sim2 at hs
 split at hs
 ·obtain⟨a',rfl,hl⟩:=h.inv_agg
  exact VR.agg' (LR.rsL (fun v v'=>VR.rs1) hs hp hl)
 ·rename_i hna
  have:nm2 p v=nm1 p v:=by cases v<;>first|rfl|exact absurd rfl (hna _)
  rw[this]at hp
  exact VR.rs1 hs hp h
theorem LR.rs2 {l l':List Value}(hq:l.all sim2=true)(hn:l.all (nm2 p)=true)(h:LR ι l l'):LR (rs p ι) l l':=LR.rsL (fun v v'=>VR.rs2) hq hn h
theorem VR.rs3 (hs:sim3 v=true)(hp:nm3 p v=true)(h:VR ι v v'):VR (rs p ι) v v':=by
 unfold sim3 at hs
 split at hs
 ·obtain⟨a',rfl,hl⟩:=h.inv_tuple
  exact VR.tuple' (LR.rsL (fun v v'=>VR.rs2) hs hp hl)
 ·rename_i hna
  have:nm3 p v=nm2 p v:=by cases v<;>first|rfl|exact absurd rfl (hna _)
  rw[this]at hp
  exact VR.rs2 hs hp h
end
def okN (qo:Nat)(r:Rec)(k:Nat):Bool:=Nat.ble (k+1) r.n0||Nat.ble qo k
theorem okN_or {qo:Nat}{r:Rec}{k:Nat}(h:okN qo r k=true):k<r.n0∨qo≤k:=by
 simp only[okN,Bool.or_eq_true,Nat.ble_eq]at h
 omega
theorem okN_ge {qo:Nat}{r:Rec}{k:Nat}(h:qo≤k):okN qo r k=true:=by
 simp only[okN,Bool.or_eq_true,Nat.ble_eq]
 exact .inr h
def namesOk (qo:Nat)(r:Rec):Bool:=Nat.ble r.n0 qo&&Nat.ble qo r.top&&nm3 (okN qo r) r.v&&r.blks.all fun b=>b.2.1.all (nm2 (okN qo r))&&Nat.ble qo b.1
def renS (qo:Nat)(r:Rec)(s:Sub)(n k:Nat):Nat:=bif Nat.ble qo k then n+(k-qo) else (match s.at_ k with|some K=>K|none=>0)
def knd (qo:Nat)(r:Rec)(args:List Value)(h:Hp):Option (Value × Hp):=
 match unL un2 [] r.args args with
 | some s=>match unB h s r.ins with
  | some s=>bif s.all (fun x=>Nat.ble (x.1+1) r.n0) then some (sh3 (renS qo r s h.next) r.v,{ h with tr:=putBs (renS qo r s h.next) (sh2 (renS qo r s h.next)) h.tr r.blks,next:=h.next+(r.top-qo) }) else none
  | none=>none
 | none=>none
theorem recS_ok {qo:Nat}{T:Tab}{P:Program}{r:Rec}{self:Req→Option Res}(hs:Sound T P self){T':Tab}(hty:T'.ty=T.ty)(hr:kow r (self (.call r.f r.args r.start))=true){args:List Value}{h h':Hp}{v:Value}(hn:namesOk qo r=true)(ho:knd qo r args h=some (v,h')){ι : In}{w:World}{args':Array Value}
  (m:M T' ι h w) (ha:LR ι args args'.toList):CallS T' P ι h w r.f args' v h':=by
 unfold knd at ho
 split at ho
 case h_2=>cases ho
 rename_i s1 hs1
 split at ho
 case h_2=>cases ho
 rename_i s hs2
 rw[cond_eq_ite]at ho
 split at ho
 case isFalse=>cases ho
 rename_i hkeys
 cases ho
 obtain⟨a1,a2,a3⟩:=unL_ok (fun _ _ _ _=>un2_ok) hs1
 obtain⟨b1,b2,b3⟩:=unB_ok hs2
 have hone:s.one:=b2 (a2 fun k k' K h=>by cases h)
 have hlt:∀k K,s.at_ k=some K→k<r.n0:=fun k K hk=>by
  have:=List.all_eq_true.1 hkeys _ (Sub.mem_of hk)
  simp only[Nat.ble_eq]at this
  omega
 unfold kow at hr
 split at hr
 case h_2=>cases hr
 rename_i v1 h1 hev
 simp only[Bool.and_eq_true,Nat.ble_eq]at hr;obtain⟨⟨⟨⟨e1,e2⟩,e3⟩,e4⟩,e5⟩:=hr;simp only[namesOk,Bool.and_eq_true,Nat.ble_eq]at hn;obtain⟨⟨⟨f1,f2⟩,f3⟩,f4⟩:=hn
 have:=same3_eq e1
 subst this
 have hleaf:LR (sig ι s) r.args args'.toList:=(a3 ι _ ha).mono (sig_le b1)
 have sig_some:∀k l,sig ι s k=some l→∃K,s.at_ k=some K∧ι K=some l:=fun k l hk=>Option.bind_eq_some_iff.1 hk
 have stGet:∀k b,r.start.tr.get k=some b→∃x∈r.ins,k=x.1∧b=.cells x.2.1 x.2.2.1 x.2.2.2:=fun k b hk=>by
  rcases kgw hk with ⟨x,hx,h1,h2⟩|h2
  ·exact⟨x,hx,h1,by simpa using h2⟩
  ·rw[Tr.get_leaf]at h2;cases h2
 have MM0:M T (sig ι s) r.start w:=by
  refine⟨fun k b hk=>?_,fun k k' b b' l l' hk hk' hl hl' he=>?_,fun k hk=>?_⟩
  ·obtain⟨x,hx,rfl,rfl⟩:=stGet k b hk
   obtain⟨K,c',q1,q2,q3⟩:=b3 x hx;obtain⟨l,l1,pre,c'',post,p1,p2,p3,p4⟩:=m.at_ _ _ q2
   exact⟨l,sig_at q1 l1,pre,c'',post,p1,p2,q3 ι _ p3,fun ho=>by rw[←hty];exact p4 ho⟩
  ·obtain⟨x,hx,rfl,rfl⟩:=stGet k b hk
   obtain⟨x',hx',rfl,rfl⟩:=stGet k' b' hk';obtain⟨K,c',q1,q2,_⟩:=b3 x hx;obtain⟨K',c'',q1',q2',_⟩:=b3 x' hx';have hl:=(sig_some _ _ hl);have hl':=(sig_some _ _ hl');rw[q1]at hl;rw[q1']at hl';obtain⟨_,g1,g2⟩:=hl;obtain⟨_,g1',g2'⟩:=hl'
   cases g1;cases g1'
   have:=m.inj _ _ _ _ _ _ q2 q2' g2 g2' he
   subst this
   exact hone _ _ _ q1 q1'
  ·cases hq:sig ι s k with
   | none=>rfl
   | some l=>
    obtain⟨K,h1,_⟩:=sig_some _ _ hq
    have:=hlt _ _ h1
    exact absurd (show r.n0≤k from hk) (by omega)
 intro cs;obtain⟨ι1,v',w',fr,s1,s2,s3,s4,s5,s6⟩:=hs.call _ _ _ _ _ hev (sig ι s) w args' MM0 hleaf cs
 have hnone:∀k,r.n0≤k→r.start.tr.get k=none:=fun k hk=>by
  cases hq:r.start.tr.get k with
  | none=>rfl
  | some b=>
   obtain⟨x,hx,rfl,_⟩:=stGet k b hq
   have:=List.all_eq_true.1 e5 x hx
   simp only[Nat.ble_eq]at this
   omega
 have img:∀k l,r.n0≤k→ι1 k=some l→w.heap.size≤l.blk:=fun k l hk0 hk=>by
  rcases s6.img k l hk0 hk with h1|⟨k0,l0,hw,hl,_⟩
  ·exact h1
  ·rw[hnone _ hw]at hl;cases hl
 have hfr:∀b,b<w.heap.size→w'.heap[b]?=w.heap[b]?:=fun b hb=>s6.fr b hb fun k l hw hl=>by rw[hnone _ hw]at hl;cases hl
 let ι2:In:=fun k=>if h.next≤k then ι1 (qo+(k-h.next)) else ι k
 have old:∀k,k<h.next→ι2 k=ι k:=fun k hk=>if_neg (by omega)
 have hle:ι.le ι2:=fun k l hk=>by rw[old k (m.lt hk)];exact hk
 have renN:∀k,qo≤k→renS qo r s h.next k=h.next+(k-qo):=fun k hk=>by
  unfold renS;rw[cond_eq_ite,if_pos (by simpa using hk)]
 have newN:∀k,qo≤k→ι2 (renS qo r s h.next k)=ι1 k:=fun k hk=>by
  rw[renN k hk]
  show (if h.next≤h.next+(k-qo) then ι1 (qo+(h.next+(k-qo)-h.next)) else _)=_
  rw[if_pos (by omega)]
  congr 1;omega
 have new:∀k l,rs (okN qo r) ι1 k=some l→ι2 (renS qo r s h.next k)=some l:=fun k l hk=>by
  obtain⟨hpk,hk⟩:=rs_some hk
  rcases okN_or hpk with hk0|hk0
  ·have h0:ι1 k=sig ι s k:=s6.old (show k<r.start.next from hk0)
   rw[h0]at hk;obtain⟨K,h1,h2⟩:=sig_some _ _ hk
   have:renS qo r s h.next k=K:=by
    unfold renS;rw[cond_eq_ite,if_neg (by simp;omega),h1]
   rw[this,old K (m.lt h2)];exact h2
  ·rw[newN k hk0];exact hk
 have at2:∀k b,(putBs (renS qo r s h.next) (sh2 (renS qo r s h.next)) h.tr r.blks).get k=some b→(∃l,ι2 k=some l∧BR T' ι2 l w' b)∧((∃k0 b0,k=h.next+(k0-qo)∧qo≤k0∧h1.tr.get k0=some b0)∨∃b0,h.tr.get k=some b0):=fun k b hk=>by
  rcases kgw hk with ⟨x,hx,rfl,rfl⟩|hk
  ·have h2:=List.all_eq_true.1 e3 x hx
   simp only[Bool.and_eq_true]at h2;obtain⟨⟨h2,h3⟩,h4⟩:=h2;simp only[Nat.ble_eq]at h4;have hb4:=List.all_eq_true.1 f4 x hx;simp only[Bool.and_eq_true,Nat.ble_eq]at hb4;obtain⟨hb4,hb5⟩:=hb4;unfold sameB1 at h2
   split at h2
   case h_2=>cases h2
   rename_i c e o hget
   simp only[Bool.and_eq_true,Nat.beq_eq]at h2;obtain⟨⟨g1,g2⟩,g3⟩:=h2
   have g1:=kjc (fun _ _=>klw) g1
   have g3:x.2.2.2=o:=by cases hq:x.2.2.2<;>cases o<;>simp_all
   obtain⟨l,l1,l2⟩:=s5.at_ _ _ hget;obtain⟨pre,c',post,p1,p2,p3,p4⟩:=l2
   refine⟨⟨l,new _ _ (rs_of (okN_ge hb5) l1),pre,c',post,by rw[g2];exact p1,p2,?_,fun ho=>?_⟩,.inl ⟨_,_,renN _ hb5,hb5,hget⟩⟩
   ·rw[←g1]at p3
    exact LR.sh (fun v v'=>sh2_ok new) h3 (LR.rs2 h3 hb4 p3)
   ·rw[hty,g2];exact p4 (by rw[←g3];exact ho)
  ·obtain⟨l,l1,l2⟩:=m.at_ k b hk
   exact⟨⟨l,by rw[old k (m.lt l1)];exact l1,l2.keep hle (hfr _ l2.in)⟩,.inr ⟨b,hk⟩⟩
 have at3:∀k0 l,qo≤k0→ι2 (h.next+(k0-qo))=some l→ι1 k0=some l:=fun k0 l hk hl=>by
  rw[←renN k0 hk,newN k0 hk]at hl;exact hl
 refine⟨ι2,v',w',fr,s1,s2,s3,sh3_ok new e4 (VR.rs3 e4 f3 s4),⟨fun k b hk=>(at2 k b hk).1,fun k k' b b' l l' hk hk' hl hl' he=>?_,fun k hk=>?_⟩,?_⟩
 ·rcases(at2 k b hk).2 with ⟨k0,b0,rfl,n0,g⟩|⟨b0,g⟩<;>rcases(at2 k' b' hk').2 with ⟨k1,b1,rfl,n1,g'⟩|⟨b1,g'⟩
  ·have:=s5.inj _ _ _ _ _ _ g g' (at3 _ _ n0 hl) (at3 _ _ n1 hl') he
   rw[this]
  ·obtain⟨l1,q2,q3⟩:=m.at_ _ _ g'
   rw[old _ (m.lt q2),q2]at hl';cases hl'
   have:=img _ _ (Nat.le_trans f1 n0) (at3 _ _ n0 hl);have:=q3.in;omega
  ·obtain⟨l1,q2,q3⟩:=m.at_ _ _ g
   rw[old _ (m.lt q2),q2]at hl;cases hl
   have:=img _ _ (Nat.le_trans f1 n1) (at3 _ _ n1 hl');have:=q3.in;omega
  ·obtain⟨l0,q1,_⟩:=m.at_ _ _ g
   obtain⟨l1,q2,_⟩:=m.at_ _ _ g';rw[old _ (m.lt q1)]at hl;rw[old _ (m.lt q2)]at hl'
   exact m.inj _ _ _ _ _ _ g g' hl hl' he
 ·simp only at hk
  show (if h.next≤k then ι1 (qo+(k-h.next)) else ι k)=none
  rw[if_pos (by omega)]
  exact s5.top _ (by omega)
 ·refine⟨hle,fun k hk=>?_,by simp,rfl,s6.size,fun b hb _=>hfr b hb,fun k hk=>?_,fun k l hk hl=>.inl ?_,s6.os,s6.tape,s6.output⟩
  ·rcases Nat.lt_or_ge k h.next with hlt|hge
   ·exact absurd (old k hlt) hk
   ·exact hge
  ·obtain⟨b,hb⟩:=Option.isSome_iff_exists.1 hk
   rcases(at2 k b hb).2 with ⟨k0,b0,rfl,_⟩|⟨b0,g⟩
   ·exact .inr (by omega)
   ·exact .inl (by rw[g];rfl)
  ·have:ι2 k=ι1 (qo+(k-h.next)):=if_pos hk
   rw[this]at hl
   exact img _ _ (by omega) hl
theorem good_recS {P:Program}{orc}(hm:P.follows .mixedOrders=true)(hO:OrcOk (khp P orc) P){r:Rec}{n qo:Nat}(hr:kow r (evK (khp P orc) P n (.call r.f r.args r.start))=true)(hn:namesOk qo r=true):Good P r.f (knd qo r):=by
 rw[evK_eq]at hr
 exact⟨rec_enters (ev_ok (khi hm) hO n) hr,fun T ht args h v h' he ι w args' m ha=>recS_ok (ev_ok (khi hm) hO n) ht hr hn he m ha⟩
end Go.Ev
