/- An evaluator of closed runs; An evaluator of closed runs: frames, rounds, calls: its word holds; An evaluator of closed runs: its word holds, for as long as it runs. Conditions: as each statement says. -/
import Derived.Test.YtcgghcicnanliaaGreatDoorM02
import Derived.RangeFuncLeaves
import Derived.RangeFuncNested
set_option linter.unusedVariables false
set_option linter.unusedSimpArgs false
namespace Go.Ev
section
variable {T:Tab} {P:Program} {self:Req→Option Res} {ops:Array Oper} {p:Plan} {h h':Hp} {ι0 ι : In} {w0 w w':World} {a0 a:Act} {tmps tmps' tmpsH tmpsF:VT} {dsH:List Dl} {nextH:Nat} {listed:Array Bool} {b:Frame}
structure IB (T:Tab)(P:Program)(sf:Req→Option Res)(ops:Array Oper)(p:Plan)(h:Hp)(ι0:In)(w0:World)(a0:Act)(tmpsF:VT)(hF:Hp)(listed:Array Bool)(a:Act)(w:World)(ι : In)(lt:List Lt)(done rest:List Nat)(tmps:VT)(hc:Hp):Prop where
 closed:khz ops listed
 tail:p.tail=done++rest
 isDone:∀i∈done,listed.getD i false=true
 notYet:∀i∈rest,listed.getD i false=false
 nonpure:∀i∈p.head,(∀o:Oper,ops[i]?=some o→kdc o.op=false∧loadB o.op=false)→listed.getD i false=true
 run:knw T P sf ops.toList p.bs lt rest tmps hc=some (tmpsF,hF)
 mem:M T ι hc w
 evo:Evo ι0 h w0 ι hc w
 len:a.tmps.size=tmps.length
 slots:∀u v,tmps.get u=some v→(∀q∈p.head,listed.getD q false=false→∀o:Oper,ops[q]?=some o→o.dst≠some u)→∃v',a.tmps[u]?=some v'∧VR ι v v'
 facts:∀i∈p.head,listed.getD i false=false→∃(o:Oper) (tm:VT),ops[i]?=some o∧tm.length=tmps.length∧(∀u,(∀q∈p.head,i≤q→∀o:Oper,ops[q]?=some o→o.dst≠some u)→(∀q∈p.tail,listed.getD q false=true→∀o:Oper,ops[q]?=some o→o.dst≠some u)→tm.get u=tmps.get u) ∧
  ((kaw ops.toList tm o=false∧∀d,o.dst=some d→d<tmps.length→tmps.get d=some undef)∨(kaw ops.toList tm o=true∧kdc o.op=true∧∃v,kgp T P tm o.op=some v∧∀d,o.dst=some d→d<tmps.length→tmps.get d=some v) ∨
    (kaw ops.toList tm o=true∧∃e∈lt,e.i=i∧∃ad h2,o.op=.load e.t ad∧opd tm ad=some e.x∧kht T hc e.t e.x=some (e.v,h2)∧∀d,o.dst=some d→d<tmps.length→tmps.get d=some e.v))
 defers:a.defers=a0.defers
theorem klv:∀ {l m:List Value},kjd l m=true→m=l
 | [],[],_=>rfl
 | x::l,[],h=>by cases x<;>simp[kjd]at h
 | [],y::m,h=>by simp[kjd]at h
 | x::l,y::m,h=>by
  cases x<;>cases y<;>simp only[kjd,Bool.and_eq_true]at h<;>first|(cases h;done)|skip
  ·rw[klv h.2]
   rename_i a b
   have:=h.1
   cases a<;>cases b<;>simp_all
  ·rw[klv h.2]
   rename_i j a k b
   have:=h.1
   cases j<;>cases k<;>simp_all
theorem sameV_eq {v u:Value}(h:sameV v u=true):u=v:=by
 unfold sameV at h
 split at h<;>(try simp only[Bool.and_eq_true,Nat.beq_eq]at h)
 ·rw[Array.ext' (klv h)]
 ·obtain⟨rfl,rfl⟩:=h;rfl
 ·obtain⟨rfl,rfl⟩:=h;rfl
 ·obtain⟨⟨⟨rfl,rfl⟩,rfl⟩,rfl⟩:=h;rfl
 ·obtain⟨⟨⟨⟨rfl,rfl⟩,rfl⟩,rfl⟩,rfl⟩:=h;rfl
 ·have:=klv h
  simpa using this
theorem lateOk_mem {l:List Lt}(h:knj T h' l=true){e:Lt}(he:e∈l):∃h2,kht T h' e.t e.x=some (e.v,h2):=by
 have:=List.all_eq_true.1 h e he
 split at this
 ·rename_i v h2 hq
  rw[sameV_eq this]at hq
  exact⟨h2,hq⟩
 ·cases this
theorem lateOf_mem {all:List Oper}{tm:VT}:∀ {l:List Nat} {lt:List Lt},kgm all p tm l=some lt→∀ {i:Nat} {o:Oper} {t:TypeId} {ad:Operand},i∈l→all[i]?=some o→o.op=.load t ad→(∃j∈p.tail,(p.bs.getD j 0).testBit i=false) →
  ∃e∈lt,e.i=i∧e.t=t∧opd tm ad=some e.x∧o.dst.bind tm.get=some e.v
 | [],_,_,_,_,_,_,hi,_,_,_=>by cases hi
 | k::l,lt,h,i,o,t,ad,hi,ho,hop,hj=>by
  unfold kgm at h
  rcases List.mem_cons.1 hi with rfl|hi
  ·rw[ho]at h
   dsimp only at h
   rw[hop]at h
   dsimp only at h
   rw[cond_eq_ite]at h
   split at h
   ·rename_i hall
    obtain⟨j,hj1,hj2⟩:=hj
    have:=List.all_eq_true.1 hall j hj1
    rw[hj2]at this;cases this
   ·split at h
    case h_2=>cases h
    rename_i x v hx hv
    simp only[Option.map_eq_some_iff]at h;obtain⟨r,_,rfl⟩:=h
    exact⟨_,List.mem_cons_self ..,rfl,rfl,hx,hv⟩
  ·have recu:∀r,kgm all p tm l=some r→(∀e∈r,e∈lt)→∃e∈lt,e.i=i∧e.t=t∧opd tm ad=some e.x∧o.dst.bind tm.get=some e.v:=fun r hr hsub=>by
    obtain⟨e,he,x⟩:=lateOf_mem hr hi ho hop hj
    exact⟨e,hsub e he,x⟩
   split at h
   ·split at h
    ·rw[cond_eq_ite]at h
     split at h
     ·exact recu lt h fun e he=>he
     ·split at h
      case h_2=>cases h
      simp only[Option.map_eq_some_iff]at h;obtain⟨r,hr,rfl⟩:=h
      exact recu r hr fun e he=>List.mem_cons_of_mem _ he
    ·exact recu lt h fun e he=>he
   ·exact recu lt h fun e he=>he
theorem IA.toIB (F:PlanF ops.toList p)(m0:M T ι0 h w0)(hD:Desc h.next dsH nextH)(hFa:∀i∈p.head,Fact T P self ops.toList p.bs h.tr h.next p.head tmpsH dsH i)
  (hdi:∀d∈dsH,d.i∈p.head∧(d.delta≠[]→listed.getD d.i false=true))
  (I:IA T ops p h ι0 w0 a0 tmpsH dsH listed a w ι) (hall:∀i∈p.head,(∀o:Oper,ops[i]?=some o→kdc o.op=false∧loadB o.op=false)→listed.getD i false=true) (hpend:∀i∈p.head,listed.getD i false=false→∃j∈p.tail,(p.bs.getD j 0).testBit i=false)
  {lt:List Lt} (hlt:kgm ops.toList p tmpsH p.head=some lt) (hok:knj T ⟨kfo h.tr dsH,nextH,h.wall⟩ lt=true)
  (hrun:knw T P self ops.toList p.bs lt p.tail tmpsH ⟨kfo h.tr dsH,nextH,h.wall⟩=some (tmpsF,h')) :
  IB T P self ops p h ι0 w0 a0 tmpsF h' listed a w ι lt [] p.tail tmpsH ⟨kfo h.tr dsH,nextH,h.wall⟩:=by
 have hkn:∀k b,h.tr.get k=some b→k<h.next:=fun k b hk=>by
  obtain⟨l,hl,_⟩:=m0.at_ k b hk;exact m0.lt hl
 have hle:ι0.le ι:=fun k l hk=>by rw[I.base k (m0.lt hk)];exact hk
 have hat:∀k b,(kfo h.tr dsH).get k=some b→kpf h dsH listed k∧∃l,ι k=some l∧BR T ι l w b:=fun k b hk=>by
  rcases kid hk with hk|⟨d,hd,hkd⟩
  ·obtain⟨l,a1,a2⟩:=I.b0 k b hk
   exact⟨.inl ⟨b,hk⟩,l,a1,a2.keep khj rfl⟩
  ·have hl:=(hdi d hd).2 (fun e=>by rw[e]at hkd;cases hkd)
   obtain⟨a1,a2,l,a3,a4⟩:=I.bd d hd hl k b hkd
   exact⟨.inr ⟨d,hd,hl,b,hkd⟩,l,a3,a4.keep khj rfl⟩
 refine⟨I.closed,rfl,by simp,I.notail,hall,hrun,⟨fun k b hk=>(hat k b hk).2,fun k k' b b' l l' hk hk'=>I.inj k k' l l' (hat k b hk).1 (hat k' b' hk').1,fun k hk=>?_⟩,?_,I.len,fun u v hu hq=>?_,fun i hi hl=>?_,I.defers⟩
 ·cases hq:ι k with
  | none=>rfl
  | some l=>
   have hn:=hD.le
   simp only at hk
   rcases I.dom k l hq with h1|⟨d,hd,_,h1,h2⟩
   ·omega
   ·have:=(hD.mem d hd).2.2;omega
 ·refine⟨hle,fun k hk=>?_,hD.le,rfl,I.size,fun c hc _=>I.fr c hc,fun k hk=>?_,fun k l hk hl=>.inl (I.img k l hk hl),I.os,I.tape,I.output⟩
  ·rcases Nat.lt_or_ge k h.next with hlt|hge
   ·exact absurd (I.base k hlt) hk
   ·exact hge
  ·obtain⟨b,hb⟩:=Option.isSome_iff_exists.1 hk
   rcases kid hb with hb|⟨d,hd,hkd⟩
   ·exact .inl (by rw[hb];rfl)
   ·have hl:=(hdi d hd).2 (fun e=>by rw[e]at hkd;cases hkd)
    obtain⟨a1,_,_⟩:=I.bd d hd hl k b hkd
    exact .inr (Nat.le_trans (hD.mem d hd).1 a1)
 ·by_cases hex:∃(q:Nat) (oq:Oper),q∈p.head∧ops[q]?=some oq∧oq.dst=some u
  ·obtain⟨q,oq,hqh,hoq,hdq⟩:=hex
   have hl:listed.getD q false=true:=by
    cases hl:listed.getD q false with
    | true=>rfl
    | false=>exact absurd hdq (hq q hqh hl oq hoq)
   obtain⟨v',g1,g2⟩:=I.s1 q hqh hl oq u v hoq hdq hu
   exact⟨v',g1,g2.mono khj⟩
  ·obtain⟨v',g1,g2⟩:=I.s0 u v hu fun q hqh oq hoq hdq=>hex ⟨q,oq,hqh,hoq,hdq⟩
   exact⟨v',g1,g2.mono khj⟩
 ·obtain⟨o,tm,n,ds,e2,ho,hlen,hslots,_,_,_,hway⟩:=(hFa i hi).at_
  have ho':ops[i]?=some o:=by simpa using ho
  refine⟨o,tm,ho',hlen,fun u h1 _=>hslots u fun q hq hiq oq hoq=>h1 q hq hiq oq (by simpa using hoq),?_⟩
  rcases hway with ⟨hw,_,hv⟩|⟨hw,hp,_,v,hv⟩|⟨hw,hp,v,h2,hv,hwr,_⟩
  ·exact .inl ⟨hw,hv⟩
  ·exact .inr (.inl ⟨hw,hp,v,hv⟩)
  ·cases hlo:loadB o.op with
   | false=>
    have:=hall i hi fun o2 ho2=>by
     have:o2=o:=Option.some.inj (ho2.symm.trans ho')
     rw[this];exact⟨hp,hlo⟩
    rw[hl]at this;cases this
   | true=>
    obtain⟨t,ad,hop⟩:∃t ad,o.op=.load t ad:=by
     cases hq:o.op<;>rw[hq]at hlo<;>first|(cases hlo;done)|exact⟨_,_,rfl⟩
    obtain⟨e,he,k1,k2,k3,k4⟩:=lateOf_mem hlt hi ho hop (hpend i hi hl);obtain⟨h3,k5⟩:=lateOk_mem hok he;subst k2
    have hx:opd tm ad=opd tmpsH ad:=by
     cases ad with
     | tmp u=>
      refine hslots u fun q hq hiq oq hoq hdq=>?_
      have hu:u∈kiv o:=List.mem_filterMap.2 ⟨.tmp u,by simp[hop,Op.operands],rfl⟩
      by_cases hqi:q=i
      ·subst hqi
       have:oq=o:=Option.some.inj (hoq.symm.trans ho)
       subst this
       exact F.own q oq u ho hdq hu
      ·rcases F.uses q i o oq u ho hoq hdq hqi hu with h1|h1
       ·have:=F.bit_lt i ho h1;omega
       ·exact(F.headTail q hq q h1.1).2 rfl
     | _=>rfl
    refine .inr (.inr ⟨hw,e,he,k1,ad,h3,hop,by rw[hx];exact k3,k5,fun d hd hlt2=>?_⟩)
    rw[hd]at k4
    exact k4
theorem eOp_ev (hT:TabOk T P)(hs:Sound T P self)(m:M T ι h w){o:Oper}{v:Value}(hl:EV ι tmps a o.op)(he:eOp T P self tmps h o=some (v,h')):OpS T P ι h w b a o v h':=by
 unfold eOp at he;rw[cond_eq_ite]at he
 split at he
 ·rename_i hp
  split at he
  case h_2=>cases he
  rename_i u hu
  cases he;obtain⟨v',h1,h2⟩:=klz (w:=w) hT hl hu
  exact kdd (keq hp) h1 h2 m (.refl m)
 ·exact eMem_ok hT hs m hl he
theorem put_ne {o:Oper}{v:Value}{u:Nat}(hu:o.dst≠some u):(a.put o.dst v).tmps[u]?=a.tmps[u]?:=by
 cases hd:o.dst with
 | none=>rfl
 | some t=>rw[hd]at hu;simp[Act.put,Array.getElem?_setIfInBounds,show t≠u from fun e=>hu (by rw[e])]
theorem put_eq {o:Oper}{v:Value}{u:Nat}(hu:o.dst=some u)(hlt:u<a.tmps.size):(a.put o.dst v).tmps[u]?=some v:=by
 simp[Act.put,hu,hlt]
theorem IB.step (hT:TabOk T P)(hs:Sound T P self)(F:PlanF ops.toList p){lt:List Lt}{done rest:List Nat}{hc:Hp}(I:IB T P self ops p h ι0 w0 a0 tmpsF h' listed a w ι lt done rest tmps hc)(m0:M T ι0 h w0){i:Nat}(hi:i∈Region.ready .any ops listed)(is:List Nat)(k:List Item)(cs:List Frame) :
  ∃a' w',Steps P (lone (b.atR a (.inRegion ops (i::is)::k)) cs w) (lone (b.atR a' (.inRegion ops is::k)) cs w')∧∃ ι' done' rest' tmps' hc',IB T P self ops p h ι0 w0 a0 tmpsF h' (listed.setIfInBounds i true) a' w' ι' lt done' rest' tmps' hc':=by
 obtain⟨hun,o,ho,_⟩:=mem_ready.1 hi;have hunl:=getD_both hun
 have his:i<ops.size:=(Array.getElem?_eq_some_iff.1 ho).1
 have hoL:ops.toList[i]?=some o:=by simpa using ho
 have slot:∀u,(∀q (oq:Oper),ops[q]?=some oq→oq.dst=some u→((p.bs.getD i 0).testBit q=true∨(q∈p.tail∧(p.bs.getD q 0).testBit i=true)))→∀v,tmps.get u=some v→∃v',a.tmps[u]?=some v'∧VR ι v v':=fun u hu v hv=>
  I.slots u v hv fun q hqh hq oq hoq hdq=>by
   have hb:=(hu q oq hoq hdq).resolve_right fun ht=>(F.headTail q hqh q ht.1).2 rfl
   have:=I.closed.bits F i (.inr hi) hb his
   rw[hq]at this;cases this
 have opslot:∀u,u∈kiv o→∀q (oq:Oper),ops[q]?=some oq→oq.dst=some u→((p.bs.getD i 0).testBit q=true∨(q∈p.tail∧(p.bs.getD q 0).testBit i=true)):=fun u hu q oq hoq hdq=>by
  by_cases hqi:q=i
  ·subst hqi
   have:oq=o:=Option.some.inj (hoq.symm.trans ho)
   subst this
   exact absurd hu (F.own q oq u hoL hdq)
  ·exact F.uses q i o oq u hoL (by simpa using hoq) hdq hqi hu
 have gslot:∀j wnt u,o.guard=some (j,wnt)→(ops[j]?).bind (·.dst)=some u→∀q (oq:Oper),ops[q]?=some oq→oq.dst=some u→((p.bs.getD i 0).testBit q=true∨(q∈p.tail∧(p.bs.getD q 0).testBit i=true)):=fun j wnt u hg hu q oq hoq hdq=>by
  have hb:=F.guard i o j wnt hoL hg;obtain⟨oj,hoj,hdj⟩:=Option.bind_eq_some_iff.1 hu
  by_cases hqj:q=j
  ·rw[hqj];exact .inl hb
  ·exact absurd hdj (F.dst q j oj oq u (by simpa using hoj) (by simpa using hoq) hdq hqj)
 have evOf:∀ {tm:VT},(∀u,(∀q (oq:Oper),ops[q]?=some oq→oq.dst=some u→((p.bs.getD i 0).testBit q=true∨(q∈p.tail∧(p.bs.getD q 0).testBit i=true)))→tm.get u=tmps.get u)→EV ι tm a o.op:=fun {tm} htm x v hx hv=>by
  cases x with
  | tmp u=>
   have hu:u∈kiv o:=List.mem_filterMap.2 ⟨.tmp u,hx,rfl⟩
   have hv':tm.get u=some v:=hv
   rw[htm u (opslot u hu)]at hv';obtain⟨v',g1,g2⟩:=slot u (opslot u hu) v hv'
   simpa[Act.eval,Array.getD_eq_getD_getElem?,g1]using g2
  | const c=>
   simp only[opd,cond_eq_ite]at hv
   split at hv
   ·rename_i hf;cases hv;exact kju hf
   ·cases hv
  | global g=>simp[opd]at hv
  | func f=>simp only[opd,Option.some.injEq]at hv;subst hv;exact .leaf rfl
 have wantOf:∀ {tm:VT},tm.length=tmps.length→(∀u,(∀q (oq:Oper),ops[q]?=some oq→oq.dst=some u→((p.bs.getD i 0).testBit q=true∨(q∈p.tail∧(p.bs.getD q 0).testBit i=true)))→tm.get u=tmps.get u)→kaw ops.toList tm o=Region.wanted o (yielded ops a.tmps):=fun {tm} hlen htm=>wanted_eq fun j wnt u hg hu=>by
  have hall:=gslot j wnt u hg hu;rw[htm u hall]
  cases ht:tmps.get u with
  | none=>
   refine .inl ⟨rfl,?_⟩
   have:=VT.none_iff.1 ht
   exact Array.getElem?_eq_none (by rw[I.len];exact this)
  | some v=>
   obtain⟨v',g1,g2⟩:=slot u hall v ht
   exact .inr ⟨v,v',_,rfl,g1,g2⟩
 have hcov:=F.cover i (by simpa using his)
 rcases hcov with hh|ht
 ·
  obtain⟨o2,tm,ho2,hlen,hslots,hway⟩:=I.facts i hh hunl
  have:o2=o:=Option.some.inj (ho2.symm.trans ho)
  subst this
  have htm:∀u,(∀q (oq:Oper),ops[q]?=some oq→oq.dst=some u→((p.bs.getD i 0).testBit q=true∨(q∈p.tail∧(p.bs.getD q 0).testBit i=true)))→tm.get u=tmps.get u:=fun u hu=>hslots u
   (fun q hqh hiq oq hoq hdq=>by
    have hb:=(hu q oq hoq hdq).resolve_right fun ht=>(F.headTail q hqh q ht.1).2 rfl
    have:=F.bit_lt i hoL hb;omega)
   (fun q hq hql oq hoq hdq=>by
    rcases hu q oq hoq hdq with h1|⟨_,h1⟩
    ·rw[(F.headTail i hh q hq).1]at h1;cases h1
    ·have:=I.closed.bits F q (.inl hql) h1 (Array.getElem?_eq_some_iff.1 hoq).1
     rw[hunl]at this;cases this)
  have hwant:=wantOf hlen htm
  have fin:∀ {v v':Value},(∀d,o2.dst=some d→d<tmps.length→tmps.get d=some v)→VR ι v v'→IB T P self ops p h ι0 w0 a0 tmpsF h' (listed.setIfInBounds i true) (a.put o2.dst v') w ι lt done rest tmps hc:=fun {v v'} hwr hv=>by
   refine⟨I.closed.set hi,I.tail,fun q hq=>getD_set_true (I.isDone q hq),fun q hq=>?_,fun q hq hp=>getD_set_true (I.nonpure q hq hp),I.run,I.mem,I.evo,?_,fun u x hx hpend=>?_,fun q hq hl=>?_,(kei _ _).trans I.defers⟩
   ·have hqt:q∈p.tail:=by rw[I.tail];exact List.mem_append.2 (.inr hq)
    rw[getD_set_ne false (F.headTail i hh q hqt).2];exact I.notYet q hq
   ·cases hd:o2.dst<;>simp[Act.put,I.len]
   ·by_cases hd:o2.dst=some u
    ·have hlt:u<tmps.length:=VT.some_lt hx
     have h1:=hwr u hd hlt;rw[hx]at h1;cases h1
     exact⟨v',put_eq hd (by rw[I.len];exact hlt),hv⟩
    ·rw[put_ne hd]
     refine I.slots u x hx fun q hq hl oq hoq hdq=>?_
     by_cases hqi:i=q
     ·subst hqi
      have:oq=o2:=Option.some.inj (hoq.symm.trans ho)
      subst this;exact hd hdq
     ·exact hpend q hq (by rw[getD_set_ne false hqi];exact hl) oq hoq hdq
   ·have hqi:i≠q:=fun e=>by
     subst e
     have:i<listed.size:=by rw[I.closed.1];exact his
     simp[this]at hl
    rw[getD_set_ne false hqi]at hl;obtain⟨o3,tm3,g1,g2,g3,g4⟩:=I.facts q hq hl
    exact⟨o3,tm3,g1,g2,fun u h1 h2=>g3 u h1 fun q2 hq2 hql=>h2 q2 hq2 (getD_set_true hql),g4⟩
  rcases hway with ⟨hw,hwr⟩|⟨hw,hp,v,hv,hwr⟩|⟨hw,e,_,_,ad,h2,hop,hx,hld,hwr⟩
  ·rw[hwant]at hw
   have hsk:=stepR_op_skip (P:=P) (b:=b) (a:=a) (k:=k) (cs:=cs) (w:=w) (ops:=ops) (i:=i) (rest:=is) (by simp[ho,hw])
   simp only[ho,Option.bind_some]at hsk
   exact⟨_,w,.one hsk,ι,done,rest,tmps,hc,fin hwr .undef⟩
  ·rw[hwant]at hw
   obtain⟨v',g1,g2⟩:=klz (w:=w) hT (evOf htm) hv
   refine⟨_,w,.one (step_lone_go ?_),ι,done,rest,tmps,hc,fin hwr g2⟩
   rw[stepGR_op ho hw,Oper.semAt_eq _ _ _ (keq hp),←kex ho]
   simp[stepG.apply,g1]
  ·rw[hwant]at hw
   have hxr:VR ι e.x (a.eval ad):=evOf htm ad e.x (by simp[hop,Op.operands]) hx
   obtain⟨_,aad,v',g0,g1,g2⟩:=eLoad_ok hT I.mem hxr hld
   have hd:∀c,o2.op≠.defer c:=fun c hc=>by rw[hop]at hc;cases hc
   have hr:(execOp a.eval o2).run P w=.ok (.value v') w:=by
    unfold execOp;simp only[hop,g0,Instr.loadAt,Instr.sureAddr,Sem.run_bind,Sem.run_pure,Result.andThen_ok,g1]
   refine⟨_,w,.one (step_lone_go ?_),ι,done,rest,tmps,hc,fin hwr g2⟩
   rw[stepGR_op ho hw,Oper.semAt_eq _ _ _ hd,←kex ho]
   simp[stepG.apply,hr]
 ·
  have hir:i∈rest:=by
   have h1:=ht;rw[I.tail]at h1
   rcases List.mem_append.1 h1 with h1|h1
   ·have:=I.isDone i h1;rw[hunl]at this;cases this
   ·exact h1
  cases rest with
  | nil=>cases hir
  | cons r rest'=>
   have hri:i=r:=by
    rcases List.mem_cons.1 hir with h1|h1
    ·exact h1
    ·have hch:∀(l1:List Nat) {l2:List Nat},chainB p.bs (l1++r::l2)=true→i∈l2→(p.bs.getD i 0).testBit r=true:=fun l1=>by
      induction l1 with
      | nil=>
       intro l2 hc hm;simp only[List.nil_append,chainB,Bool.and_eq_true]at hc
       exact List.all_eq_true.1 hc.1 i hm
      | cons x l1 ih=>
       intro l2 hc hm;simp only[List.cons_append,chainB,Bool.and_eq_true]at hc
       exact ih hc.2 hm
     have hb:=hch done (by have:=F.chain;rw[I.tail]at this;exact this) h1
     have:=I.closed.bits F i (.inr hi) hb his
     rw[I.notYet r (List.mem_cons_self ..)]at this;cases this
   subst hri;have hrun:=I.run;unfold knw at hrun;rw[hoL]at hrun
   dsimp only at hrun
   rw[cond_eq_ite,wantOf rfl fun u _=>rfl]at hrun
   have fin:∀ {v v':Value} {h1:Hp} {ι':In} {w':World},knw T P self ops.toList p.bs lt rest' (putL tmps o.dst v) h1=some (tmpsF,h')→(∀e∈lt,(p.bs.getD i 0).testBit e.i=false→(∃h2,kht T hc e.t e.x=some (e.v,h2))→∃h2,kht T h1 e.t e.x=some (e.v,h2))→VR ι' v v'→M T ι' h1 w'→Evo ι hc w ι' h1 w' →
     IB T P self ops p h ι0 w0 a0 tmpsF h' (listed.setIfInBounds i true) (a.put o.dst v') w' ι' lt (done++[i]) rest' (putL tmps o.dst v) h1:=fun {v v' h1 ι' w'} hr hlate hv hm he=>by
    have hnd:∀q∈rest',i≠q:=fun q hq e=>by
     subst e
     have hch:∀(l1:List Nat) {l2:List Nat},chainB p.bs (l1++i::l2)=true→i∈l2→(p.bs.getD i 0).testBit i=true:=fun l1=>by
      induction l1 with
      | nil=>
       intro l2 hc hm;simp only[List.nil_append,chainB,Bool.and_eq_true]at hc
       exact List.all_eq_true.1 hc.1 i hm
      | cons x l1 ih=>
       intro l2 hc hm;simp only[List.cons_append,chainB,Bool.and_eq_true]at hc
       exact ih hc.2 hm
     have hb:=hch done (by have:=F.chain;rw[I.tail]at this;exact this) hq
     have:=F.bit_lt i hoL hb;omega
    refine⟨I.closed.set hi,by rw[I.tail];simp,fun q hq=>?_,fun q hq=>?_,fun q hq hp=>getD_set_true (I.nonpure q hq hp),hr,hm,I.evo.trans m0 he,?_,fun u x hx hpend=>?_,fun q hq hl=>?_,(kei _ _).trans I.defers⟩
    ·rcases List.mem_append.1 hq with hq|hq
     ·exact getD_set_true (I.isDone q hq)
     ·have:q=i:=by simpa using hq
      subst this
      have:q<listed.size:=by rw[I.closed.1];exact his
      simp[this]
    ·rw[getD_set_ne false (hnd q hq)];exact I.notYet q (List.mem_cons_of_mem _ hq)
    ·rw[kgf,←I.len];cases hd:o.dst<;>simp[Act.put]
    ·by_cases hd:o.dst=some u
     ·have hlt:u<tmps.length:=by have:=VT.some_lt hx;rwa [kgf]at this
      rw[hd,putL_eq hlt]at hx;cases hx
      exact⟨v',put_eq hd (by rw[I.len];exact hlt),hv⟩
     ·rw[kmz hd]at hx
      rw[put_ne hd]
      obtain⟨x',g1,g2⟩:=I.slots u x hx fun q hq hl oq hoq hdq=>by
       have hqi:i≠q:=fun e=>(F.headTail q hq i ht).2 e.symm
       exact hpend q hq (by rw[getD_set_ne false hqi];exact hl) oq hoq hdq
      exact⟨x',g1,g2.mono he.le⟩
    ·have hqi:i≠q:=fun e=>(F.headTail q hq i ht).2 e.symm
     rw[getD_set_ne false hqi]at hl;obtain⟨oq,tm,hoq,hlen,hsl,hway⟩:=I.facts q hq hl
     have hit:(listed.setIfInBounds i true).getD i false=true:=by
      have:i<listed.size:=by rw[I.closed.1];exact his
      simp[this]
     have hkeep:∀d,oq.dst=some d→(putL tmps o.dst v).get d=tmps.get d:=fun d hd=>kmz (F.dst q i o oq d hoL (by simpa using hoq) hd (Ne.symm hqi))
     refine⟨oq,tm,hoq,by rw[kgf];exact hlen,fun u h1 h2=>by rw[kmz (h2 i ht hit o ho)];exact hsl u h1 fun q hq hql=>h2 q hq (getD_set_true hql),?_⟩
     rcases hway with ⟨a1,a2⟩|⟨a1,a2,x,a3,a4⟩|⟨a1,e,a2,a3,ad,h2,a4,a5,a6,a7⟩
     ·exact .inl ⟨a1,fun d hd hlt=>by rw[hkeep d hd];exact a2 d hd (by rwa [kgf]at hlt)⟩
     ·exact .inr (.inl ⟨a1,a2,x,a3,fun d hd hlt=>by rw[hkeep d hd];exact a4 d hd (by rwa [kgf]at hlt)⟩)
     ·have hnb:(p.bs.getD i 0).testBit e.i=false:=by
       cases hb:(p.bs.getD i 0).testBit e.i with
       | false=>rfl
       | true=>
        have:=I.closed.bits F i (.inr hi) hb his
        rw[a3,hl]at this;cases this
      obtain⟨h3,hl3⟩:=hlate e a2 hnb ⟨h2,a6⟩
      exact .inr (.inr ⟨a1,e,a2,a3,ad,h3,a4,a5,hl3,fun d hd hlt=>by rw[hkeep d hd];exact a7 d hd (by rwa [kgf]at hlt)⟩)
   split at hrun
   ·rename_i hw
    split at hrun
    case h_2=>cases hrun
    rename_i v h1 hv
    rw[cond_eq_ite]at hrun
    split at hrun
    case isFalse=>cases hrun
    rename_i hlok
    obtain⟨ι',v',w',s1,s2,s3,s4⟩:=eOp_ev (b:=b) hT hs I.mem (evOf fun u _=>rfl) hv ops i is k cs ho hw
    exact⟨_,w',s1,ι',_,rest',_,h1,fin hrun (fun e he hnb _=>lateOk_mem hlok (List.mem_filter.2 ⟨he,by show (!(p.bs.getD i 0).testBit e.i)=true;rw[hnb];rfl⟩)) s2 s3 s4⟩
   ·rename_i hw
    have hsk:=stepR_op_skip (P:=P) (b:=b) (a:=a) (k:=k) (cs:=cs) (w:=w) (ops:=ops) (i:=i) (rest:=is) (by simp[ho];simpa using hw)
    simp only[ho,Option.bind_some]at hsk
    exact⟨_,w,.one hsk,ι,_,rest',_,hc,fin hrun (fun e _ _ hx=>hx) .undef I.mem (.refl I.mem)⟩
end
section
variable {T:Tab} {P:Program} {self:Req→Option Res} {ops:Array Oper} {p:Plan} {h h':Hp} {ι : In} {w:World} {a:Act} {tmps tmps':VT} {b:Frame}
theorem TR.of_slots {l:VT}{l':List Value}(hlen:l.length=l'.length)(h:∀(u:Nat) v,l.get u=some v→∃v',l'[u]?=some v'∧VR ι v v'):TR ι l l':=
 ⟨hlen,fun i v v' x y=>by
  obtain⟨v2,h1,h2⟩:=h i v x
  rw[y]at h1;cases h1;exact h2⟩
theorem eLoad_h {t:TypeId}{x v:Value}(he:kht T h t x=some (v,h')):h'=h:=by
 unfold kht at he
 split at he
 case h_2=>cases he
 split at he
 case h_2=>cases he
 rw[cond_eq_ite]at he
 split at he
 ·split at he
  ·cases he;rfl
  ·cases he
 ·split at he
  ·cases he;rfl
  ·cases he
theorem eDrawBy_ok (hT:TabOk T P)(hs:Sound T P self)(F:PlanF ops.toList p)(m:M T ι h w)(hl:TR ι tmps a.tmps.toList)(he:khc T P self ops.toList tmps h p=some (tmps',h'))(t:Nat)(k:List Item)(cs:List Frame) :
  ∃ ι' a' w',Steps P (lone (b.atR a (.inRegion ops (Region.linearise .any ops t)::k)) cs w) (lone (b.atR a' (.inRegion ops []::k)) cs w')∧TR ι' tmps' a'.tmps.toList∧a'.defers=a.defers∧M T ι' h' w'∧Evo ι h w ι' h' w':=by
 unfold khc at he
 split at he
 case h_2=>cases he
 rename_i tmpsH nextH dsH hH
 split at he
 case h_2=>cases he
 rename_i lt hlt
 rw[cond_eq_ite]at he
 split at he
 case isFalse=>cases he
 rename_i hlok
 obtain⟨f1,f2,⟨e2,f3,f3'⟩,f4,f5⟩:=kny (n0:=h.next) (fun i j o q d hj hi hq hne=>F.dst i j o q d hj hi hq hne) (sortB_spec F.sort) (by simp) (show Desc h.next [] h.next from Nat.le_refl _) hH
 have hdi:∀d∈dsH,d.i∈p.head∧(d.delta≠[]→∀o:Oper,ops[d.i]?=some o→kdc o.op=false∧loadB o.op=false):=fun d hd=>by
  have hdh:d.i∈p.head:=f3' d (by rw[f3]at hd;simpa using hd)
  refine⟨hdh,fun hne o ho=>?_⟩
  obtain⟨o2,tm,n,ds,e3,ho2,_,_,_,_,_,hway⟩:=(f5 d.i hdh).at_
  have:o2=o:=by
   have:ops[d.i]?=some o2:=by simpa using ho2
   exact Option.some.inj (this.symm.trans ho)
  subst this
  rcases hway with ⟨_,hno,_⟩|⟨_,_,hno,_⟩|⟨_,hp,v,h2,hv,_,hfl⟩
  ·exact absurd rfl (hno d hd)
  ·exact absurd rfl (hno d hd)
  ·refine⟨hp,?_⟩
   cases hlo:loadB o2.op with
   | false=>rfl
   | true=>
    obtain⟨t,ad,hop⟩:∃t ad,o2.op=.load t ad:=by
     cases hq:o2.op<;>rw[hq]at hlo<;>first|(cases hlo;done)|exact⟨_,_,rfl⟩
    rcases hfl with ⟨_,hno⟩|hmem
    ·exact absurd rfl (hno d hd)
    ·have hsame:=f2.same d hd _ hmem rfl
     rw[hop]at hv;simp only[eMem]at hv
     split at hv
     case h_2=>cases hv
     have:=eLoad_h hv
     subst this
     refine absurd ?_ hne
     rw[hsame]
     simp[kjl]
 have hsz:∀ {i},(Array.replicate ops.size false).getD i false=false:=fun {i}=>getD_replicate_false _ _
 have hle:ι.le (res ι h.next dsH fun _=>False):=fun k l hk=>by rw[kgv (.inl (m.lt hk))];exact hk
 have I0:IA T ops p h ι w a tmpsH dsH (Array.replicate ops.size false) a w ι:=by
  refine⟨⟨by simp,fun j oj _ hl=>(by rw[hsz]at hl;cases hl)⟩,fun i _=>hsz,fun _ _=>rfl,fun k l hk=>.inl (m.lt hk),fun k l hk hl=>(by rw[m.top k hk]at hl;cases hl),fun k b hk=>?_,fun d _ hl=>(by rw[hsz]at hl;cases hl),
   fun k k' l l' hk hk' hl hl' he=>?_,?_,fun u v hu hq=>?_,fun q _ hl=>(by rw[hsz]at hl;cases hl),rfl,Nat.le_refl _,fun _ _=>rfl,rfl,rfl,rfl⟩
  ·obtain⟨l,a1,a2⟩:=m.at_ k b hk;exact⟨l,a1,a2.keep hle rfl⟩
  ·rcases hk with ⟨b1,hb1⟩|⟨d,_,hd,_⟩
   ·rcases hk' with ⟨b2,hb2⟩|⟨d,_,hd,_⟩
    ·exact m.inj k k' b1 b2 l l' hb1 hb2 hl hl' he
    ·rw[hsz]at hd;cases hd
   ·rw[hsz]at hd;cases hd
  ·rw[f1,hl.1];simp
  ·rw[f4 u fun q hq' o ho=>hq q hq' o (by simpa using ho)]at hu
   obtain⟨v',h1,h2⟩:=hl.get hu
   exact⟨v',by simpa using h1,h2.mono hle⟩
 have toB:∀ {listed a1 w1 ι1},IA T ops p h ι w a tmpsH dsH listed a1 w1 ι1→(∀i∈p.head,(∀o:Oper,ops[i]?=some o→kdc o.op=false∧loadB o.op=false)→listed.getD i false=true)→(∀i∈p.head,listed.getD i false=false→∃j∈p.tail,(p.bs.getD j 0).testBit i=false) →
   IB T P self ops p h ι w a tmps' h' listed a1 w1 ι1 lt [] p.tail tmpsH ⟨kfo h.tr dsH,nextH,h.wall⟩:=fun {listed a1 w1 ι1} I hall hpend=>I.toIB F m f2 f5 (fun d hd=>⟨(hdi d hd).1,fun hne=>hall d.i (hdi d hd).1 ((hdi d hd).2 hne)⟩) hall hpend hlt hlok he
 have hend:∀ {listed a1 w1 ι1 done rest tm hc},IB T P self ops p h ι w a tmps' h' listed a1 w1 ι1 lt done rest tm hc→(∀j,j<ops.size→listed.getD j false=true) →
   ∃ ι',TR ι' tmps' a1.tmps.toList∧a1.defers=a.defers∧M T ι' h' w1∧Evo ι h w ι' h' w1:=fun {listed a1 w1 ι1 done rest tm hc} I hall=>by
  have hrest:rest=[]:=by
   cases rest with
   | nil=>rfl
   | cons r rest=>
    have h1:=I.notYet r (List.mem_cons_self ..)
    have hr:r<ops.size:=by simpa using F.inside r (.inr (by rw[I.tail];simp))
    rw[hall r hr]at h1;cases h1
  subst hrest;have hrun:=I.run;simp only[knw,Option.some.injEq,Prod.mk.injEq]at hrun;obtain⟨rfl,rfl⟩:=hrun
  refine⟨ι1,TR.of_slots (by simpa using I.len.symm) fun u v hu=>?_,I.defers,I.mem,I.evo⟩
  obtain⟨v',h1,h2⟩:=I.slots u v hu fun q hq hl=>by
   rw[hall q (by simpa using F.inside q (.inl hq))]at hl;cases hl
  exact⟨v',by simpa using h1,h2⟩
 obtain⟨a',w',s1,ι',r1,r2,r3,r4⟩:=any_run (P:=P) (ops:=ops) (b:=b)
  (Inv:=fun listed a1 w1=>(∃ ι1,IA T ops p h ι w a tmpsH dsH listed a1 w1 ι1)∨∃ ι1 done rest tm hc,IB T P self ops p h ι w a tmps' h' listed a1 w1 ι1 lt done rest tm hc)
  (Fin:=fun a1 w1=>∃ ι',TR ι' tmps' a1.tmps.toList∧a1.defers=a.defers∧M T ι' h' w1∧Evo ι h w ι' h' w1)
  (fun listed a1 w1 i hI hi rest k cs=>by
   rcases hI with ⟨ι1,I⟩|⟨ι1,done,rst,tm,hc,I⟩
   ·have his:i<ops.size:=by obtain⟨_,o,ho,_⟩:=mem_ready.1 hi;exact(Array.getElem?_eq_some_iff.1 ho).1
    rcases F.cover i (by simpa using his) with hh|ht
    ·obtain⟨a2,w2,ι2,s,I2⟩:=I.step (b:=b) hT hs F m f2 f5 hi hh rest k cs
     exact⟨a2,w2,s,.inl ⟨ι2,I2⟩⟩
    ·have IBx:=toB I (fun q hq hp=>I.closed.bits F i (.inr hi) (F.tailHead i ht q hq fun o ho=>hp o (by simpa using ho)) his)
      (fun q hq hl=>⟨i,ht,Bool.eq_false_iff.2 fun hb=>by have:=I.closed.bits F i (.inr hi) hb his;rw[hl]at this;cases this⟩)
     obtain⟨a2,w2,s,x⟩:=IBx.step (b:=b) hT hs F m hi rest k cs
     exact⟨a2,w2,s,.inr x⟩
   ·obtain⟨a2,w2,s,x⟩:=I.step (b:=b) hT hs F m hi rest k cs
    exact⟨a2,w2,s,.inr x⟩)
  (fun listed a1 w1 hI hr=>by
   rcases hI with ⟨ι1,I⟩|⟨ι1,done,rst,tm,hc,I⟩
   ·have hall:=I.closed.done F hr
    exact hend (toB I (fun q hq _=>hall q (by simpa using F.inside q (.inl hq))) fun q hq hl=>by rw[hall q (by simpa using F.inside q (.inl hq))]at hl;cases hl) hall
   ·exact hend I (I.closed.done F hr))
  (fun listed a1 w1 hI=>by
   rcases hI with ⟨ι1,I⟩|⟨ι1,done,rst,tm,hc,I⟩
   ·exact I.closed.1
   ·exact I.closed.1)
  ops.size t (Array.replicate ops.size false) a w (.inl ⟨ι,I0⟩) (Nat.le_trans (List.length_filter_le _ _) (by simp)) k cs
 exact⟨ι',a',w',s1,r1,r2,r3,r4⟩
theorem eDraw_ok (hT:TabOk T P)(hs:Sound T P self)(m:M T ι h w)(hl:TR ι tmps a.tmps.toList)(he:eDraw T P self ops.toList tmps h=some (tmps',h'))(id:Nat)(k:List Item)(cs:List Frame) :
  ∃ ι' a' w',Steps P (lone (b.atR a (.code (.region id ops true)::k)) cs w) (lone (b.atR a' k) cs w')∧TR ι' tmps' a'.tmps.toList∧a'.defers=a.defers∧M T ι' h' w'∧Evo ι h w ι' h' w':=by
 have okA:∀p,planA ops.toList=some p→PlanF ops.toList p:=fun p hp=>by
  unfold planA at hp
  dsimp only at hp
  rw[cond_eq_ite]at hp
  split at hp
  ·rename_i hq;cases hp;exact planF hq
  ·cases hp
 have okB:∀g p,planB ops.toList g=some p→PlanF ops.toList p:=fun g p hp=>by
  unfold planB at hp
  dsimp only at hp
  rw[cond_eq_ite]at hp
  split at hp
  ·rename_i hq;cases hp;exact planF hq
  ·cases hp
 have byP:∀q,(∀p,q=some p→PlanF ops.toList p)→kjx T P self ops.toList tmps h q=some (tmps',h')→∃p,PlanF ops.toList p∧khc T P self ops.toList tmps h p=some (tmps',h'):=fun q hq he=>by
  cases q with
  | none=>cases he
  | some p=>exact⟨p,hq p rfl,he⟩
 have orE:∀ {o q r:Option (VT × Hp)},orElse o q=r→q=r∨o=r:=fun {o q r} h=>by
  cases q with
  | none=>exact .inr h
  | some _=>exact .inl h
 have key:∃p,PlanF ops.toList p∧khc T P self ops.toList tmps h p=some (tmps',h'):=by
  unfold eDraw at he
  rcases orE he with he|he
  ·rcases orE he with he|he
   ·exact byP _ (okB true) he
   ·exact byP _ (okB false) he
  ·exact byP _ okA he
 obtain⟨p,F,hp⟩:=key;have md:=m.drew (w.drawn+1);obtain⟨ι',a',w',s1,r1,r2,r3,r4⟩:=eDrawBy_ok (b:=b) hT hs F md hl hp (w.tape w.drawn (.order b.fn id)) k cs
 refine⟨ι',a',w',.head (stepR_region_draw) ?_,r1,r2,r3,(Evo.drew m _).trans m r4⟩
 simp only[Region.schedule,hT.mixed,Bool.true_or,if_true]
 exact s1.trans (.one stepR_region_end)
end
section
variable {T:Tab} {P:Program} {self:Req→Option Res} {h h1 h':Hp} {ι ι1:In} {w w1:World} {a a1:Act} {tmps tmps1 tmps':VT} {defs defs1 defs':List Nat} {todo todo1:List Item} {j:Option Code} {b:Frame} {fn:FuncId} {rnd:Option Nat}
theorem klm.after (hs:Sound T P self)(m:M T ι h w)(hr:self (.frame fn rnd tmps1 defs1 todo1 h1)=some (.left j tmps' defs' h'))(hb:b.fn=fn)(hk:b.kind=.normal)(hrd:RndR ι rnd b.roundOf)
  (hstep:∀cs,∃ ι1 a1 w1,Steps P (lone (b.atR a todo) cs w) (lone (b.atR a1 todo1) cs w1)∧TR ι1 tmps1 a1.tmps.toList∧DR ι1 defs1 a1.defers∧M T ι1 h1 w1∧Evo ι h w ι1 h1 w1) :
  klm T P ι h w b a todo j tmps' defs' h':=by
 intro cs;obtain⟨ι1,a1,w1,s1,r1,r2,r3,r4⟩:=hstep cs;obtain⟨ι',a',todo',w',s2,q1,q2,q3,q4,q5⟩:=hs.frame _ _ _ _ _ _ _ _ _ _ hr ι1 w1 b a1 r3 hb hk (hrd.mono r4.le) r1 r2 cs
 exact⟨ι',a',todo',w',s1.trans s2,q1,q2,q3,q4,r4.trans m q5⟩
theorem klm.one (hs:Sound T P self)(m:M T ι h w)(hr:self (.frame fn rnd tmps defs todo1 h)=some (.left j tmps' defs' h'))(hb:b.fn=fn)(hk:b.kind=.normal)(hrd:RndR ι rnd b.roundOf)(hl:TR ι tmps a.tmps.toList)(hd:DR ι defs a.defers)
  (hstep:∀cs,step P (lone (b.atR a todo) cs w)=.next (lone (b.atR a todo1) cs w)):klm T P ι h w b a todo j tmps' defs' h':=
 .after hs m hr hb hk hrd fun cs=>⟨ι,a,w,.one (hstep cs),hl,hd,m,.refl m⟩
theorem M.loopAt (m:M T ι h w){k:Nat}{l:Loc}{st pend f ts ps as bd d}(hl:ι k=some l)(hk:h.tr.get k=some (.loop st pend f ts ps as bd d)) :
  ∃tmps' ld,ι d=some ld∧w.heap[l.blk]?=some (.loop { state:=st,pending:=pend,fn:=f,tmps:=tmps',params:=ps.toArray,assign:=as,body:=bd,defers:=ld.blk })∧TR ι ts tmps'.toList:=by
 obtain⟨l',h1,h2⟩:=m.at_ k _ hk;rw[hl]at h1;cases h1
 exact h2
theorem M.name (m:M T ι h w){k:Nat}{b:Blk}(hk:h.tr.get k=some b):∃l,ι k=some l:=let ⟨l,h,_⟩:=m.at_ k b hk;⟨l,h⟩
theorem M.putLoop (m:M T ι h w){k:Nat}{l:Loc}{st st':LoopState}{pend pend':Option Code}{f:FuncId}{ts:VT}{ps:List Tmp}{as bd:Code}{d:Nat}(hl:ι k=some l)(hk:h.tr.get k=some (.loop st pend f ts ps as bd d))(hset:setB h k (.loop st' pend' f ts ps as bd d)=some h') :
  ∃r:Loop,w.heap[l.blk]?=some (.loop r)∧r.state=st∧r.pending=pend∧M T ι h' (w.putObj l.blk (.loop { r with state:=st',pending:=pend' }))∧Evo ι h w ι h' (w.putObj l.blk (.loop { r with state:=st',pending:=pend' })):=by
 obtain⟨tmps',ld,g1,g2,g3⟩:=m.loopAt hl hk;unfold setB at hset;rw[cond_eq_ite]at hset
 split at hset
 case isFalse=>cases hset
 rename_i hw
 simp only[Nat.ble_eq]at hw;cases hset
 have hlt:l.blk<w.heap.size:=(Array.getElem?_eq_some_iff.1 g2).1
 exact⟨_,g2,rfl,rfl,m.put hk hl hw (by simp) (fun q hq=>World.putObj_heap_other hq) ⟨tmps',ld,g1,World.putObj_heap_same hlt,g3⟩ rfl rfl rfl⟩
theorem eRange_ok (hs:Sound T P self)(m:M T ι h w)(hb:b.fn=fn)(hk:b.kind=.normal)(hrd:RndR ι rnd b.roundOf)(hl:TR ι tmps a.tmps.toList)
  {f:Operand} {g:FuncId} {first cap first' cap':Array Value} {params:Array Tmp} {assign body:Code} {k:List Item} (hx:a.eval f=.func (.func g) first' cap') (hp:LR ι first.toList first'.toList) (hq:LR ι cap.toList cap'.toList)
  {defs0:List Nat} {h0:Hp} {d:Nat} {ι0:In} {w0:World} {mark:List Deferred} {ld:Loc} (m0:M T ι0 h0 w0) (e0:Evo ι h w ι0 h0 w0) (hld:ι0 d=some ld) (hd0:DR ι0 defs0 (mark++a.defers))
  (henter:(Instr.enterLoop b.fn a.tmps params assign body b.roundOf).run P w=.ok (w0.heap.size,mark) (w0.alloc (.loop { state:=.ready,pending:=none,fn:=b.fn,tmps:=a.tmps,params,assign,body,defers:=ld.blk })))
  (he:(match self (.call g (first.toList++[.func (.yield h0.next) #[] #[]]++cap.toList) (newB h0 (.loop .ready none fn tmps params.toList assign body d))) with
     | some (.val _ h')=>match h'.tr.get h0.next with
      | some (.loop s p f' ts ps as bd ds)=>match s with
       | .busy=>none
       | _=>match setB h' h0.next (.loop .exhausted p f' ts ps as bd ds) with
        | some h''=>self (.frame fn rnd tmps defs0 ((p.map Item.code).toList++k) h'')
        | none=>none
      | _=>none
     | _=>none)=some (.left j tmps' defs' h')):klm T P ι h w b a (.code (.rangeFunc f params assign body)::k) j tmps' defs' h':=by
 split at he
 case h_2=>cases he
 rename_i v h2 hcall
 split at he
 case h_2=>cases he
 rename_i s p f' ts ps as bd ds hloop
 have he':s≠.busy∧∃h3,setB h2 h0.next (.loop .exhausted p f' ts ps as bd ds)=some h3∧self (.frame fn rnd tmps defs0 ((p.map Item.code).toList++k) h3)=some (.left j tmps' defs' h'):=by
  split at he
  ·cases he
  ·rename_i hs
   split at he
   case h_2=>cases he
   rename_i h3 hset
   exact⟨fun e=>hs e,h3,hset,he⟩
 obtain⟨hsb,h3,hset,hframe⟩:=he'
 have hl0:TR ι0 tmps a.tmps.toList:=hl.mono e0.le
 have hn:=m0.new ⟨w0.heap.size,0,0⟩ (.loop { state:=.ready,pending:=none,fn:=b.fn,tmps:=a.tmps,params,assign,body,defers:=ld.blk }) (.loop .ready none fn tmps params.toList assign body d) rfl
  ⟨a.tmps,ld,m0.upd_le _ _ _ hld,by simp[hb],hl0.mono (m0.upd_le _)⟩
 have en1:Evo ι h w _ _ _:=e0.trans m hn.2
 refine .after hs m hframe hb hk hrd fun cs=>?_
 obtain⟨ι2,v',w2,fr,s1,s2,s3,s4,s5,s6⟩:=hs.call _ _ _ _ _ hcall _ _ (first'++#[.func (.yield w0.heap.size) #[] #[]]++cap') hn.1 (by
  have h1:LR (upd ι0 h0.next ⟨w0.heap.size,0,0⟩) first.toList first'.toList:=hp.mono (e0.le.trans (m0.upd_le _))
  have h2:LR (upd ι0 h0.next ⟨w0.heap.size,0,0⟩) cap.toList cap'.toList:=hq.mono (e0.le.trans (m0.upd_le _))
  have h3:VR (upd ι0 h0.next ⟨w0.heap.size,0,0⟩) (.func (.yield h0.next) #[] #[]) (.func (.yield w0.heap.size) #[] #[]):=.yield (kdb ι0 h0.next ⟨w0.heap.size,0,0⟩)
  simpa using (h1.append (.cons h3 .nil)).append h2) (b.atR { a with defers:=mark++a.defers } (.inRangeFunc w0.heap.size::k)::cs)
 have hstep:=fun k=>stepR_rangeFunc (P:=P) (b:=b) (a:=a) (k:=k) (g:=f) (cs:=cs) (f:=g) (args:=first'++#[.func (.yield w0.heap.size) #[] #[]]++cap') (w₂:=w0.alloc (.loop { state:=.ready,pending:=none,fn:=b.fn,tmps:=a.tmps,params,assign,body,defers:=ld.blk })) henter
  (d:={ target:=.fn (.func g) cap',args:=first'++#[.func (.yield w0.heap.size) #[] #[]] }) (w₁':=w0.alloc (.loop { state:=.ready,pending:=none,fn:=b.fn,tmps:=a.tmps,params,assign,body,defers:=ld.blk }))
  (by simp only[resolve,rangeCall];rw[hx];simp[Deferred.ofValue,Act.eval]) (by simp only[invoke];exact(hs.enters _ _ _ _ hcall).run _)
 obtain⟨lc,hlc⟩:=s5.name hloop
 have hlc2:lc.blk=w0.heap.size:=by
  have:=s6.le _ _ (kdb ι0 h0.next ⟨w0.heap.size,0,0⟩)
  rw[hlc]at this;cases this;rfl
 obtain⟨r,q1,q2,q3,q4,q5⟩:=s5.putLoop hlc hloop hset;rw[hlc2]at q1 q4 q5
 refine⟨ι2,{ a with defers:=mark++a.defers },_,?_,hl0.mono ((m0.upd_le _).trans s6.le),hd0.mono ((m0.upd_le _).trans s6.le),q4,(en1.trans m s6).trans m ?_⟩
 ·refine .head (hstep _) (s1.trans (.head (step_leave_returned s3) ?_))
  rw[finish_atR_inRangeFunc]
  have:=stepR_endRangeFunc (P:=P) (b:=b) (a:={ a with defers:=mark++a.defers }) (k:=k) (cs:=cs) (run_endLoop q1 (by rw[q2];exact hsb))
  rw[q3]at this
  exact .one (by simpa[World.putObj]using this)
 ·exact q5
theorem eFrame_ok (hT:TabOk T P)(hs:Sound T P self)(m:M T ι h w)(hb:b.fn=fn)(hk:b.kind=.normal)(hrd:RndR ι rnd b.roundOf)(hl:TR ι tmps a.tmps.toList)(hd:DR ι defs a.defers)
  (he:kjw T P self fn rnd tmps defs h todo=some (.left j tmps' defs' h')):klm T P ι h w b a todo j tmps' defs' h':=by
 have here:∀ {todo},AtLeave j todo→tmps=tmps'→defs=defs'→h=h'→klm T P ι h w b a todo j tmps' defs' h':=fun {todo} hj e1 e2 e3 cs=>by
  subst e1 e2 e3
  exact⟨ι,a,todo,w,.refl _ _,hl,hd,hj,m,.refl m⟩
 unfold kjw at he
 split at he
 ·simp only[Option.some.injEq,Res.left.injEq]at he
  obtain⟨rfl,rfl,rfl,rfl⟩:=he
  exact here rfl rfl rfl rfl
 ·exact .one hs m he hb hk hrd hl hd fun cs=>stepR_inBlock
 ·exact .one hs m he hb hk hrd hl hd fun cs=>step_lone_go (by simp[stepG,stepG.exec,Frame.atR])
 ·exact .one hs m he hb hk hrd hl hd fun cs=>stepR_inLoop
 ·
  split at he
  case h_2=>cases he
  rename_i l
  obtain⟨lc,hlc,hro⟩:=hrd
  split at he
  case h_2=>cases he
  rename_i p f ts ps as bd ds hlk
  split at he
  case h_2=>cases he
  rename_i h1 hset
  obtain⟨r,g1,g2,g3,g4,g5⟩:=m.putLoop hlc hlk hset
  refine .after (rnd:=some l) hs m he hb hk ⟨lc,hlc,hro⟩ fun cs=>⟨ι,a,_,.one (stepR_beginRound hro (run_beginRound g1 g2)),hl,hd,?_,?_⟩
  ·rw[←g3]at g4;exact g4
  ·rw[←g3]at g5;exact g5
 ·split at he
  ·simp only[Option.some.injEq,Res.left.injEq]at he
   obtain⟨rfl,rfl,rfl,rfl⟩:=he
   exact here ⟨_,rfl⟩ rfl rfl rfl
  ·exact .one hs m he hb hk hrd hl hd fun cs=>stepR_skip
  ·exact .one hs m he hb hk hrd hl hd fun cs=>stepR_label
  ·exact .one hs m he hb hk hrd hl hd fun cs=>stepR_seq
  ·split at he
   case h_2=>cases he
   rename_i c t hc
   have h1:=(opd_ok hl hc).inv_bool
   refine .one hs m he hb hk hrd hl hd fun cs=>?_
   rw[stepR_cond h1]
   cases t<;>rfl
  ·exact .one hs m he hb hk hrd hl hd fun cs=>stepR_block
  ·exact .one hs m he hb hk hrd hl hd fun cs=>stepR_loop
  ·exact .one hs m he hb hk hrd hl hd fun cs=>step_lone_go (by simp[stepG,stepG.exec,Frame.atR])
  ·split at he
   ·rename_i k' hx
    exact .one hs m he hb hk hrd hl hd fun cs=>stepR_exit hx
   ·rename_i hx
    split at he
    case h_2=>cases he
    simp only[Option.some.injEq,Res.left.injEq]at he;obtain⟨rfl,rfl,rfl,rfl⟩:=he
    exact here ⟨_,hx,rfl⟩ rfl rfl rfl
  ·split at he
   case h_2=>cases he
   rename_i k' hx
   exact .one hs m he hb hk hrd hl hd fun cs=>stepR_goto hx
  ·rename_i id ops draw
   split at he
   case h_2=>cases he
   rename_i tmps1 h1 hr
   rw[cond_eq_ite]at hr
   split at hr
   ·rename_i hdr
    subst hdr
    refine .after hs m he hb hk hrd fun cs=>?_
    obtain⟨ι',a',w',s1,r1,r2,r3,r4⟩:=eDraw_ok (b:=b) hT hs m hl hr id _ cs
    exact⟨ι',a',w',s1,r1,by rw[r2];exact hd.mono r4.le,r3,r4⟩
   ·rename_i hdr
    have:draw=false:=by simpa using hdr
    subst this
    refine .after hs m he hb hk hrd fun cs=>?_
    obtain⟨ι',a',w',s1,r1,r2,r3,r4⟩:=eOps_ok (b:=b) (is:=List.range ops.size) hT hs (by simp) (fun j o i hj hi=>by
     rw[List.getElem?_range (by have:=(List.getElem?_eq_some_iff.1 hj).1;simpa using this)]at hi
     cases hi;simpa using hj) m hl hr _ cs
    exact⟨ι',a',w',.head stepR_region (s1.trans (.one stepR_region_end)),r1,by rw[r2];exact hd.mono r4.le,r3,r4⟩
  ·rename_i f params assign body
   split at he
   case h_2=>cases he
   rename_i g first cap hf
   obtain⟨first',cap',hx,hp,hq⟩:=(opd_ok hl hf).inv_func
   dsimp only at he
   split at he
   ·rename_i l0
    obtain⟨lc,hlc,hro⟩:=hrd
    split at he
    case h_2=>cases he
    rename_i st pend fl ts ps as bd d hlk
    obtain⟨tm',ld,g1,g2,g3⟩:=m.loopAt hlc hlk
    exact eRange_ok hs m hb hk (show RndR ι (some l0) b.roundOf from ⟨lc,hlc,hro⟩) hl hx hp hq (mark:=[]) m (.refl m) g1 hd (by rw[hro];exact run_enterLoop_inner g2 _ _ _ _ _) he
   ·have hro:b.roundOf=none:=hrd
    have hn:=m.new ⟨w.heap.size,0,0⟩ (.deferred (some [])) (.defd false) rfl (by simp[BR])
    refine eRange_ok hs m hb hk (show RndR ι none b.roundOf from hro) hl hx hp hq (mark:=[{ target:=.collected w.heap.size,args:=#[] }]) hn.1 hn.2 (kdb _ _ _) (show DR _ (h.next::defs) (_::a.defers) from ⟨⟨_,kdb _ _ _,rfl⟩,hd.mono (m.upd_le _)⟩) ?_ he
    rw[hro]
    have:=run_enterLoop_outer (P:=P) (w:=w) b.fn a.tmps params assign body
    have hsz:({ w with heap:=w.heap.push (.deferred (some [])) }:World).heap.size=w.heap.size+1:=Array.size_push ..
    rw[hsz];exact this
  ·cases he
 ·cases he
end
structure OrcOk (T:Tab)(P:Program):Prop where
 enters:∀f g,T.orc f=some g→Enters P f
 call:∀f g args h v h',T.orc f=some g→g args h=some (v,h')→∀ ι w args',M T ι h w→LR ι args args'.toList→CallS T P ι h w f args' v h'
section
variable {T:Tab} {P:Program} {self:Req→Option Res} {h h1 h':Hp} {ι ι1:In} {w w1:World} {a a1:Act} {tmps tmps1 tmps':VT} {v:Value}
theorem setAll_ok:∀ {ps:List Tmp} {ts:VT} {as as':List Value} {ts':Array Value},TR ι ts ts'.toList→LR ι as as' →
  TR ι (setAll ts ps as) ((ps.zip as').foldl (fun (tm:Array Value) (x:Tmp × Value)=>tm.setIfInBounds x.1 x.2) ts').toList
 | [],ts,as,as',ts',hl,_=>by cases as<;>simpa[setAll]using hl
 | p::ps,ts,as,as',ts',hl,ha=>by
  cases as with
  | nil=>rw[ha.inv_nil];exact hl
  | cons x as=>
   obtain⟨x',m,rfl,hx,hm⟩:=ha.inv_cons;simp only[setAll,List.zip_cons_cons,List.foldl_cons]
   exact setAll_ok (by simpa using hl.set hx p) hm
theorem fill_get:∀ {vs:List Value} {t:Vt} {i j:Nat},(Vt.fill t i vs).get j=if i≤j∧j<i+vs.length then (vs[j-i]?).getD undef else t.get j
 | [],t,i,j=>by simp only[Vt.fill,List.length_nil];rw[if_neg (by omega)]
 | v::vs,t,i,j=>by
  rw[Vt.fill,fill_get,Vt.get_setF _ _ _ _ _ (Nat.lt_succ_self i)]
  by_cases h1:j=i
  ·subst h1
   rw[if_neg (by omega),if_pos rfl,if_pos ⟨Nat.le_refl _,by simp⟩]
   simp
  ·by_cases h2:i+1≤j∧j<i+1+vs.length
   ·rw[if_pos h2,if_pos ⟨by omega,by simp;omega⟩]
    rw[show j-i=(j-(i+1))+1 by omega]
    simp
   ·rw[if_neg h2,if_neg h1,if_neg (by simp;omega)]
theorem entry_ok {args args':List Value}(ha:LR ι args args')(k:Nat):TR ι ⟨args.length+k,Vt.fill .leaf 0 args⟩ (args'++List.replicate k undef):=by
 refine⟨by simp[VT.length,ha.1],fun i v v' x y=>?_⟩
 simp only[VT.get,cond_eq_ite,Nat.ble_eq]at x
 split at x
 case isFalse=>cases x
 rename_i hi
 cases x;rw[fill_get]
 by_cases h1:i<args.length
 ·rw[if_pos ⟨Nat.zero_le _,by omega⟩]
  rw[List.getElem?_append_left (by rw[←ha.1];exact h1)]at y
  simp only[Nat.sub_zero,List.getElem?_eq_getElem h1,Option.getD_some]
  exact ha.2 i _ _ (List.getElem?_eq_getElem h1) y
 ·rw[if_neg (by omega),Vt.get_leaf]
  rw[List.getElem?_append_right (by rw[←ha.1];omega),List.getElem?_replicate]at y
  split at y
  ·cases y;exact .undef
  ·cases y
theorem eRound_ok (hs:Sound T P self){l:Nat}{args:List Value}{args':Array Value}{lc:Loc}(m:M T ι h w)(hlc:ι l=some lc)(ha:LR ι args args'.toList)(he:eRound self l args h=some (.val v h')):RoundS T P ι h w lc.blk args' v h':=by
 unfold eRound at he
 split at he
 case h_2=>cases he
 rename_i st pend fn ts ps as bd d hlk
 rw[cond_eq_ite]at he
 split at he
 case isFalse=>cases he
 rename_i hlen
 simp only[Nat.beq_eq]at hlen
 split at he
 case h_2=>cases he
 rename_i j tmps1 h1 hfr
 split at he
 case h_2=>cases he
 rename_i st2 pend2 fn2 ts2 ps2 as2 bd2 d2 hlk2
 split at he
 case h_2=>cases he
 rename_i h2 hset
 simp only[Option.some.injEq,Res.val.injEq]at he;obtain⟨rfl,rfl⟩:=he;obtain⟨tm,ld,g1,g2,g3⟩:=m.loopAt hlc hlk
 have hsz:args'.size=(ps.toArray).size:=by have:=ha.1;simp at this ⊢;omega
 refine⟨_,_,_,_,run_yield g2 hsz,fun c cs=>?_⟩
 have htm:=setAll_ok (ps:=ps) g3 ha;obtain⟨ι',a',todo',w',s1,q1,q2,q3,q4,q5⟩:=hs.frame _ _ _ _ _ _ _ _ _ _ hfr ι w
  { (default:Frame) with fn:=fn,kind:=.normal,roundOf:=some lc.blk } { tmps:=(ps.toArray.zip args').foldl (fun tmps (t,a)=>tmps.setIfInBounds t a) tm,defers:=[] } m rfl rfl ⟨lc,hlc,rfl⟩ (by
    have e:(ps.toArray.zip args').foldl (fun (tm:Array Value) (x:Tmp × Value)=>tm.setIfInBounds x.1 x.2) tm=(ps.zip args'.toList).foldl (fun (tm:Array Value) (x:Tmp × Value)=>tm.setIfInBounds x.1 x.2) tm:=by
     rw[←Array.foldl_toList];congr 1;simp
    show TR ι _ ((ps.toArray.zip args').foldl (fun (tm:Array Value) (x:Tmp × Value)=>tm.setIfInBounds x.1 x.2) tm).toList
    rw[e];exact htm) trivial (c::cs)
 have hlc2:=q5.le _ _ hlc;obtain⟨r,r1,r2,r3,r4,r5⟩:=q4.putLoop hlc2 hlk2 hset;have hend:=run_endRound (P:=P) j r1
 have e0:(bif j.isNone then LoopState.ready else LoopState.done)=(if j.isNone then LoopState.ready else LoopState.done):=by cases j<;>rfl
 rw[e0]at r4 r5
 refine⟨ι',.bool j.isNone,_,s1.trans (.one ?_),.leaf rfl,r4,q5.trans m r5⟩
 cases j with
 | none=>
  have:todo'=[]:=q3
  subst this
  exact stepR_round_end rfl rfl hend
 | some jc=>
  cases jc with
  | ret=>
   obtain⟨k,rfl⟩:=q3
   exact stepR_round_ret rfl rfl hend
  | exit id=>
   obtain⟨k,hx,rfl⟩:=q3
   exact stepR_round_exit rfl rfl hx hend
  | _=>exact q3.elim
theorem kmn:∀ {defs:List Nat} {ds:List Deferred} {h:Hp} {ι : In} {w:World},kec h defs=some h'→M T ι h w→DR ι defs ds→∀(fr:Frame) (cs:List Frame),fr.mode=.returning→fr.defers=ds →
  ∃w',Steps P (lone fr cs w) (lone { fr with defers:=[] } cs w')∧M T ι h' w'∧Evo ι h w ι h' w'
 | [],[],h,ι,w,he,m,_,fr,cs,hm,hd=>by
  simp only[kec,Option.some.injEq]at he;subst he
  have:({ fr with defers:=[] }:Frame)=fr:=by cases fr;simp at hd;subst hd;rfl
  rw[this]
  exact⟨w,.refl _ _,m,.refl m⟩
 | [],_::_,_,_,_,_,_,h,_,_,_,_=>h.elim
 | _::_,[],_,_,_,_,_,h,_,_,_,_=>h.elim
 | d::r,e::s,h,ι,w,he,m,⟨⟨l,hl,hel⟩,hr⟩,fr,cs,hm,hd=>by
  unfold kec at he
  split at he
  case h_2=>cases he
  rename_i hk
  split at he
  case h_2=>cases he
  rename_i h1 hset
  obtain⟨l',hl',hbr⟩:=m.at_ d _ hk;rw[hl]at hl';cases hl'
  have hobj:w.heap[l.blk]?=some (.deferred (some [])):=hbr
  have hlt:l.blk<w.heap.size:=(Array.getElem?_eq_some_iff.1 hobj).1
  have hrun:=run_takeDeferred (P:=P) hobj;unfold setB at hset;rw[cond_eq_ite]at hset
  split at hset
  case isFalse=>cases hset
  rename_i hw
  simp only[Nat.ble_eq]at hw;cases hset
  obtain⟨p1,p2⟩:=m.put (w':=w.putObj l.blk (.deferred none)) (b':=.defd true) hk hl hw (by simp) (fun q hq=>World.putObj_heap_other hq) (by simp only[BR,if_true];exact World.putObj_heap_same hlt) rfl rfl rfl
  obtain⟨w',s1,q1,q2⟩:=kmn he p1 hr { fr with defers:=s } cs hm rfl
  refine⟨w',.head (step_collected (by rw[hm];simp) hd (by rw[hel]) hrun) ?_,q1,p2.trans m q2⟩
  simpa using s1
def resSem (tm:Array Value):ResultVar→Sem Value
 | .tmp t=>pure (tm.getD t undef)
 | .cell x t=>do loadVar t (←asAddr (tm.getD x undef))
theorem results_eq (fn:Func)(tm:Array Value):results fn tm=(do let vs ←fn.results.mapM (resSem tm);pure (if h:vs.size=1 then vs[0] else .tuple vs)):=by
 unfold results
 congr 2
theorem results_ok (hT:TabOk T P)(m:M T ι h w)(hl:TR ι tmps a.tmps.toList):∀ {rs:List ResultVar} {vs:List Value},kdr T tmps h rs=some vs →
  ∃vs',(rs.mapM (resSem a.tmps)).run P w=.ok vs' w∧LR ι vs vs'
 | [],vs,he=>by
  simp only[kdr,Option.some.injEq]at he;subst he
  exact⟨[],by simp,.nil⟩
 | r::rs,vs,he=>by
  unfold kdr at he
  split at he
  case h_2=>cases he
  rename_i v hv
  split at he
  case h_2=>cases he
  rename_i us hus
  cases he;obtain⟨vs',h1,h2⟩:=results_ok hT m hl hus
  cases r with
  | tmp t=>
   obtain⟨v',g1,g2⟩:=hl.get (i:=t) hv
   have g1':a.tmps[t]?=some v':=by simpa using g1
   exact⟨v'::vs',by simp[List.mapM_cons,resSem,g1',h1],.cons g2 h2⟩
  | cell x t=>
   simp only[eResult]at hv
   split at hv
   case h_2=>cases hv
   rename_i u hu
   obtain⟨u',g1,g2⟩:=hl.get (i:=x) hu
   have g1':a.tmps[x]?=some u':=by simpa using g1
   simp only[loadV,Option.map_eq_some_iff]at hv;obtain⟨⟨v0,h0⟩,hv,rfl⟩:=hv;obtain⟨_,ad,v',k0,k1,k2⟩:=eLoad_ok hT m g2 hv;subst k0
   exact⟨v'::vs',by simp[List.mapM_cons,resSem,g1',asAddr,k1,h1],.cons k2 h2⟩
theorem packV_ok {vs vs':List Value}(h:LR ι vs vs'):VR ι (packV vs) (if h:vs'.toArray.size=1 then vs'.toArray[0] else .tuple vs'.toArray):=by
 match vs,vs',h with
 | [],vs',h=>rw[h.inv_nil];exact .tuple rfl fun i v v' x _=>by simp at x
 | [v],vs',h=>
  obtain⟨v',m,rfl,hv,hm⟩:=h.inv_cons;rw[hm.inv_nil]
  simpa[packV]using hv
 | v::u::vs,vs',h=>
  have h0:=h;obtain⟨v',m,rfl,hv,hm⟩:=h.inv_cons;obtain⟨u',m2,rfl,hu,hm2⟩:=hm.inv_cons
  rw[dif_neg (by simp)]
  exact VR.tuple' h0
theorem eEnter_ok (hT:TabOk T P)(hO:OrcOk T P)(hs:Sound T P self){f:FuncId}{args:List Value}{args':Array Value}(m:M T ι h w)(ha:LR ι args args'.toList)(he:knz T self f args h=some (.val v h')):CallS T P ι h w f args' v h':=by
 unfold knz at he
 split at he
 ·rename_i v1 h1 hv
  simp only[Option.some.injEq,Res.val.injEq]at he;obtain⟨rfl,rfl⟩:=he;unfold eOrc at hv
  split at hv
  case h_2=>cases hv
  rename_i g hg
  exact hO.call f g args h _ _ hg hv ι w args' m ha
 ·split at he
  case h_2=>cases he
  rename_i fi hfi
  obtain⟨fn,k1,k2,k3,k4,k5⟩:=(hT.fn _ _ hfi).at_
  split at he
  case h_2=>cases he
  rename_i j tmps1 defs1 h1 hfr
  rw[cond_eq_ite]at he
  split at he
  case isFalse=>cases he
  rename_i hj
  split at he
  case h_2=>cases he
  rename_i h2 htk
  split at he
  case h_2=>cases he
  rename_i vs hvs
  simp only[Option.some.injEq,Res.val.injEq]at he;obtain⟨rfl,rfl⟩:=he;intro cs
  let b:Frame:={ (default:Frame) with fn:=f,kind:=.normal,roundOf:=none }
  have henter:Frame.enter P f args' .normal=b.atR { tmps:=args'++Array.replicate (fn.ntmps-args'.size) undef,defers:=[] } [.code fi.code]:=by
   simp[Frame.enter,Frame.atR,k1,k2,b]
  have hlen:args.length=args'.size:=by have:=ha.1;simpa using this
  obtain⟨ι',a',todo',w',s1,q1,q2,q3,q4,q5⟩:=hs.frame _ _ _ _ _ _ _ _ _ _ hfr ι w b { tmps:=args'++Array.replicate (fn.ntmps-args'.size) undef,defers:=[] } m rfl rfl rfl (by
   have:=entry_ok ha (fi.ntmps-args.length)
   have e:fn.ntmps-args'.size=fi.ntmps-args.length:=by rw[k3,hlen]
   rw[e]
   simpa using this) trivial cs
  have hret:∃s,step P (lone (b.atR a' todo') cs w')=.next (lone { b.atR a' s with mode:=.returning } cs w'):=by
   cases j with
   | none=>
    have:todo'=[]:=q3
    subst this
    exact⟨_,stepR_end rfl⟩
   | some jc=>
    cases jc with
    | ret=>obtain⟨k,rfl⟩:=q3;exact⟨_,stepR_ret rfl⟩
    | _=>cases hj
  obtain⟨s,hret⟩:=hret;obtain⟨w2,s2,p1,p2⟩:=kmn (P:=P) htk q4 q2 { b.atR a' s with mode:=.returning } cs rfl rfl
  obtain⟨vs',r1,r2⟩:=results_ok (P:=P) hT p1 q1 (by rw[←k4]at hvs;exact hvs)
  refine⟨ι',_,w2,_,by rw[henter];exact s1.trans (.head hret s2),rfl,⟨rfl,rfl,rfl,fn,k1,?_⟩,packV_ok r2,p1,q5.trans m p2⟩
  rw[results_eq,Array.mapM_eq_mapM_toList];simp only[Frame.atR]at r1 ⊢;simp only[Sem.run_bind,Sem.run_map,r1,Result.andThen_ok,Sem.run_pure]
theorem body_ok (hT:TabOk T P)(hO:OrcOk T P)(hs:Sound T P self):Sound T P (body T P self):=by
 refine⟨fun f args h v h' he ι w args' m ha=>eEnter_ok hT hO hs m ha he,fun g args h r he=>?_,fun l args h v h' he ι w lc args' m hlc ha=>eRound_ok hs m hlc ha he,fun fn rnd tmps defs todo h j tmps' defs' h' he ι w b a m hb hk hrd hl hd=>eFrame_ok hT hs m hb hk hrd hl hd he⟩
 simp only[body,knz]at he
 split at he
 ·rename_i v1 h1 hv
  unfold eOrc at hv
  split at hv
  case h_2=>cases hv
  rename_i g hg
  exact hO.enters _ _ hg
 ·split at he
  case h_2=>cases he
  rename_i fi hfi
  obtain⟨fn,k1,k2,k3,k4,k5⟩:=(hT.fn _ _ hfi).at_
  exact⟨fn,k1,by rw[k2];rfl,k5⟩
theorem ev_ok (hT:TabOk T P)(hO:OrcOk T P):∀n,Sound T P (ev T P n)
 | 0=>⟨fun _ _ _ _ _ h=>(by cases h),fun _ _ _ _ h=>(by cases h),fun _ _ _ _ _ h=>(by cases h),fun _ _ _ _ _ _ _ _ _ _ h=>(by cases h)⟩
 | n+1=>body_ok hT hO (ev_ok hT hO n)
def h0:Hp:={ tr:=.leaf,next:=0,wall:=0 }
theorem M.start (w:World):M T (fun _=>none) h0 w:=⟨fun k b hk=>(by rw[show h0.tr=.leaf from rfl,Tr.get_leaf]at hk;cases hk),fun k _ _ _ _ _ hk=>(by rw[show h0.tr=.leaf from rfl,Tr.get_leaf]at hk;cases hk),fun _ _=>rfl⟩
theorem closed_call (hT:TabOk T P)(hO:OrcOk T P){n:Nat}{f:FuncId}{args:List Value}{v:Value}{h':Hp}(ha:args.all kbx=true)(hv:kee v=true)(he:ev T P n (.call f args h0)=some (.val v h'))(w:World) :
  Calls P f args.toArray w fun e w'=>e=.returned v∧w.heap.size≤w'.heap.size∧(∀b,b<w.heap.size→w'.heap[b]?=w.heap[b]?)∧w'.os=w.os∧w'.tape=w.tape∧w'.output=w.output:=by
 intro cs
 obtain⟨ι',v',w',fr,s1,s2,s3,s4,s5,s6⟩:=(ev_ok hT hO n).call f args h0 v h' he (fun _=>none) w args.toArray (M.start w) (by simpa using LR.leaves ha) cs
 have:=kij hv s4
 subst this
 exact⟨.returned v',w',fr,⟨rfl,s6.size,fun b hb=>s6.fr b hb fun k l _ hk=>(by rw[show h0.tr=.leaf from rfl,Tr.get_leaf]at hk;cases hk),s6.os,s6.tape,s6.output⟩,s1,s2,s3⟩
end
def zeroOk (d:TypeDesc)(z:Value):Bool:=
 match z with
 | .agg cs=>d.isRow&&cs.toList.all kbx
 | v=>!d.isRow&&kbx v
def tyOf (P:Program)(t:TypeId):Option TI:=
 match P.underlying t with
 | some d=>match P.info? t with
  | some i=>match i.zero with
   | some z=>bif zeroOk d z then some { desc:=d,size:=i.size,bytes:=i.bytes,zero:=kdf z,agg:=d.isRow } else none
   | none=>none
  | none=>none
 | none=>none
def fnOf (P:Program)(f:FuncId):Option FI:=
 match P.funcs[f]? with
 | some fn=>match fn.body with
  | some c=>bif fn.name == "runtime.NumGoroutine" then none else some { ntmps:=fn.ntmps,code:=c,results:=fn.results.toList }
  | none=>none
 | none=>none
def khp (P:Program)(orc:FuncId→Option (List Value→Hp→Option (Value × Hp))):Tab:={ ty:=tyOf P,fn:=fnOf P,orc }
theorem khi {P:Program}{orc}(hm:P.follows .mixedOrders=true):TabOk (khp P orc) P:=by
 refine⟨fun t i h=>?_,fun f i h=>?_,hm⟩
 ·simp only[khp,tyOf]at h
  split at h
  case h_2=>cases h
  rename_i d hd
  split at h
  case h_2=>cases h
  rename_i inf hinf
  split at h
  case h_2=>cases h
  rename_i z hz
  rw[cond_eq_ite]at h
  split at h
  case isFalse=>cases h
  rename_i hok
  cases h;unfold zeroOk at hok
  split at hok
  ·rename_i cs
   simp only[Bool.and_eq_true]at hok
   refine⟨hd,⟨inf,hinf,rfl,rfl,?_⟩,rfl,fun ha=>?_,hok.2⟩
   ·simp[hz,hok.1,kdf]
   ·dsimp only at ha;rw[hok.1]at ha;cases ha
  ·rename_i hna
   simp only[Bool.and_eq_true,Bool.not_eq_true']at hok
   have hv:kdf z=[z]:=by rw[kfw,leaf_cells hok.2]
   refine⟨hd,⟨inf,hinf,rfl,rfl,?_⟩,rfl,fun _=>?_,?_⟩
   ·dsimp only;rw[hok.1,hv];simp[hz]
   ·dsimp only;rw[hv];rfl
   ·dsimp only;rw[hv];simp[hok.2]
 ·simp only[khp,fnOf]at h
  split at h
  case h_2=>cases h
  rename_i fn hfn
  split at h
  case h_2=>cases h
  rename_i c hc
  rw[cond_eq_ite]at h
  split at h
  case isTrue=>cases h
  rename_i hn
  cases h
  exact⟨fn,hfn,hc,rfl,rfl,by simpa using hn⟩
theorem noOrc {P:Program}:OrcOk (khp P fun _=>none) P:=⟨fun f g h=>(by cases h),fun f g args h v h' hg=>(by cases hg)⟩
def isTrue (r:Option Res):Bool:=
 match r with
 | some (.val (.bool b) _)=>b
 | _=>false
theorem isTrue_ok {r:Option Res}(h:isTrue r=true):∃h',r=some (.val (.bool true) h'):=by
 unfold isTrue at h
 split at h
 ·subst h;exact⟨_,rfl⟩
 ·cases h
theorem closed_true {P:Program}{orc}(hm:P.follows .mixedOrders=true)(hO:OrcOk (khp P orc) P){n:Nat}{f:FuncId}{args:List Value}(ha:args.all kbx=true)(he:isTrue (ev (khp P orc) P n (.call f args h0))=true)(w:World) :
  Calls P f args.toArray w fun e w'=>e=.returned (.bool true)∧w.heap.size≤w'.heap.size∧(∀b,b<w.heap.size→w'.heap[b]?=w.heap[b]?)∧w'.os=w.os∧w'.tape=w.tape∧w'.output=w.output:=by
 obtain⟨h',h1⟩:=isTrue_ok he
 exact closed_call (khi hm) hO ha rfl h1 w
def fw (n:Int):Int:=
 match n with
 | .ofNat m=>bif Nat.ble (m+1) 9223372036854775808 then .ofNat m else IntKind.i64.wrap (.ofNat m)
 | .negSucc m=>bif Nat.ble (m+1) 9223372036854775808 then .negSucc m else IntKind.i64.wrap (.negSucc m)
theorem fw_eq (n:Int):fw n=IntKind.i64.wrap n:=by
 have hp:∀n:Int,-9223372036854775808≤n→n<9223372036854775808→IntKind.i64.wrap n=n:=fun n h1 h2=>by
  simp only[IntKind.wrap,IntKind.bits,IntKind.signed,Bool.true_and,decide_eq_true_eq,ge_iff_le]
  split<;>omega
 unfold fw
 split
 ·rename_i m
  rw[cond_eq_ite]
  split
  ·rename_i h;simp only[Nat.ble_eq]at h;rw[hp]<;>simp only[Int.ofNat_eq_natCast]<;>omega
  ·rfl
 ·rename_i m
  rw[cond_eq_ite]
  split
  ·rename_i h;simp only[Nat.ble_eq]at h;rw[hp]<;>omega
  ·rfl
def ilt (a b:Int):Bool:=
 match a,b with
 | .ofNat m,.ofNat n=>Nat.ble (m+1) n
 | .ofNat _,.negSucc _=>false
 | .negSucc _,.ofNat _=>true
 | .negSucc m,.negSucc n=>Nat.ble (n+1) m
theorem ilt_eq (a b:Int):ilt a b=decide (a<b):=by
 rw[Bool.eq_iff_iff];unfold ilt
 cases a<;>cases b<;>simp<;>omega
def ieq (a b:Int):Bool:=
 match a,b with
 | .ofNat m,.ofNat n=>Nat.beq m n
 | .negSucc m,.negSucc n=>Nat.beq m n
 | _,_=>false
theorem ieq_eq (a b:Int):ieq a b=(a == b):=by
 rw[Bool.eq_iff_iff];unfold ieq
 cases a<;>cases b<;>simp<;>omega
def fInt (op:BinOp)(a b:Int):Option Value:=
 match op with
 | .add=>some (.int .i64 (fw (a+b)))
 | .sub=>some (.int .i64 (fw (a-b)))
 | .mul=>some (.int .i64 (fw (a*b)))
 | .eql=>some (.bool (ieq a b))
 | .neq=>some (.bool (!ieq a b))
 | .lss=>some (.bool (ilt a b))
 | .leq=>some (.bool (!ilt b a))
 | .gtr=>some (.bool (ilt b a))
 | .geq=>some (.bool (!ilt a b))
 | _=>none
theorem fInt_eq (T:Tab)(P:Program){op:BinOp}{a b:Int}{v:Value}(t:TypeId)(x y:Operand)(h:fInt op a b=some v):eqV T P op t x y (.int .i64 a) (.int .i64 b)=some v:=by
 cases op<;>simp only[fInt,Option.some.injEq]at h<;>first|(cases h;done)|skip
 all_goals subst h
 all_goals simp only[fw_eq,ilt_eq,ieq_eq,Bool.not_eq_eq_eq_not]
 all_goals (first|rfl|(show some (Value.bool _)=some (Value.bool _);congr 2;rw[Bool.eq_iff_iff];simp))
section
variable (T:Tab) (P:Program) (self:Req→Option Res)
def okV (h:Hp):Option Value→R
 | some v=>some (v,h)
 | none=>none
def kBox (h:Hp)(e:TypeId):Option Value→R
 | some v=>eBox h e v
 | none=>none
def kLoad (h:Hp)(t:TypeId):Option Value→R
 | some v=>kht T h t v
 | none=>none
def kStore2 (h:Hp)(t:TypeId)(v:Value):Option Value→R
 | some u=>knx T h t u v
 | none=>none
def kStore (h:Hp)(t:TypeId)(x:Option Value):Option Value→R
 | some v=>kStore2 T h t v x
 | none=>none
def kOr (o:Option Value):Option Value→Option Value
 | some v=>some v
 | none=>o
def kBinI (op:BinOp)(t:TypeId)(x y:Operand)(a:Value)(i:Int)(b:Value):Option Value:=
 match b with
 | .int .i64 j=>kOr (eqV T P op t x y a b) (fInt op i j)
 | b=>eqV T P op t x y a b
def kBinV (op:BinOp)(t:TypeId)(x y:Operand)(a b:Value):Option Value:=
 match a with
 | .int .i64 i=>kBinI T P op t x y a i b
 | a=>eqV T P op t x y a b
theorem kBinV_eq (op:BinOp)(t:TypeId)(x y:Operand)(a b:Value):kBinV T P op t x y a b=eqV T P op t x y a b:=by
 unfold kBinV
 split
 ·rename_i i
  unfold kBinI
  split
  ·rename_i j
   cases hf:fInt op i j with
   | none=>rfl
   | some v=>exact(fInt_eq T P t x y hf).symm
  ·rfl
 ·rfl
def kBin2 (op:BinOp)(t:TypeId)(x y:Operand)(a:Value):Option Value→Option Value
 | some b=>kBinV T P op t x y a b
 | none=>none
def kBin (op:BinOp)(t:TypeId)(x y:Operand)(b:Option Value):Option Value→Option Value
 | some a=>kBin2 T P op t x y a b
 | none=>none
def kIxA2 (t:TypeId)(v:Value):Option Value→Option Value
 | some i=>kce T t v i
 | none=>none
def kIxA (t:TypeId)(i:Option Value):Option Value→Option Value
 | some v=>kIxA2 T t v i
 | none=>none
def kFA (s:TypeId)(f:Nat):Option Value→Option Value
 | some v=>kdn T s f v
 | none=>none
def kF (s:TypeId)(f:Nat):Option Value→Option Value
 | some v=>eField T s f v
 | none=>none
def kArgs (h:Hp)(tmps:VT)(c:Call):Option (List Value)→R
 | some args=>match c.callee with
  | .builtin b=>kjy T h b c.argTypes.toList args
  | .value f=>match opd tmps f with
   | some fv=>eCall self h fv args
   | none=>none
  | .invoke ..=>none
 | none=>none
def kct (h:Hp)(tmps:VT)(o:Oper)(c:Call):R:=
 match c.callee with
 | .builtin .len|.builtin .cap|.builtin .min|.builtin .max=>okV h (kgp T P tmps o.op)
 | _=>kArgs T self h tmps c (opds tmps c.args.toList)
def kOp (tmps:VT)(h:Hp)(o:Oper):R:=
 match o.op with
 | .move x=>okV h (opd tmps x)
 | .assign x=>okV h (opd tmps x)
 | .load t a=>kLoad T h t (opd tmps a)
 | .store t a x=>kStore T h t (opd tmps x) (opd tmps a)
 | .box e x=>kBox h e (opd tmps x)
 | .binOp op t x y _=>okV h (kBin T P op t x y (opd tmps y) (opd tmps x))
 | .fieldAddr s x f=>okV h (kFA T s f (opd tmps x))
 | .field s x f=>okV h (kF T s f (opd tmps x))
 | .indexAddr t x ix=>okV h (kIxA T t (opd tmps ix) (opd tmps x))
 | .call c=>kct T P self h tmps o c
 | _=>eOp T P self tmps h o
theorem kOp_eq (tmps:VT)(h:Hp)(o:Oper):kOp T P self tmps h o=eOp T P self tmps h o:=by
 obtain⟨dst,op,ty,pos,aft,g⟩:=o;unfold kOp
 cases op<;>first|rfl|skip
 case store t a x=>simp only[eOp,kdc,eMem,cond_false];cases opd tmps a<;>cases opd tmps x<;>rfl
 case binOp op t x y yt=>simp only[eOp,kdc,kgp,cond_true];cases opd tmps x<;>cases opd tmps y<;>first|rfl|(simp only[kBin,kBin2,kBinV_eq];cases eqV T P op t x y _ _<;>rfl)
 case indexAddr t x ix=>simp only[eOp,kdc,kgp,cond_true];cases opd tmps x<;>cases opd tmps ix<;>first|rfl|(simp only[kIxA,kIxA2];cases kce T t _ _<;>rfl)
 case call c=>
  obtain⟨cal,args,at_⟩:=c;unfold kct
  cases cal with
  | builtin b=>
   cases b<;>first
    | (simp only[eOp,kdc,cond_true];cases kgp T P tmps _<;>rfl)
    | (simp only[eOp,kdc,cond_false,eMem];cases opds tmps args.toList<;>rfl)
  | value f=>simp only[eOp,kdc,cond_false,eMem];cases opds tmps args.toList<;>rfl
  | invoke r m=>simp only[eOp,kdc,cond_false,eMem];cases opds tmps args.toList<;>rfl
def kOps2 (rec:VT→Hp→Option (VT × Hp))(tmps:VT)(d:Option Tmp):R→Option (VT × Hp)
 | some (v,h)=>rec (putL tmps d v) h
 | none=>none
def kOps (all:List Oper):List Oper→VT→Hp→Option (VT × Hp)
 | [],tmps,h=>some (tmps,h)
 | o::os,tmps,h=>bif kaw all tmps o then kOps2 (kOps all os) tmps o.dst (kOp T P self tmps h o) else kOps all os (putL tmps o.dst undef) h
theorem kOps_eq (all:List Oper):∀(l:List Oper) (tmps:VT) (h:Hp),kOps T P self all l tmps h=eOps T P self all l tmps h
 | [],_,_=>rfl
 | o::os,tmps,h=>by
  simp only[kOps,eOps,kOp_eq]
  cases kaw all tmps o with
  | false=>exact kOps_eq all os _ _
  | true=>
   simp only[cond_true]
   cases eOp T P self tmps h o with
   | none=>rfl
   | some r=>exact kOps_eq all os _ _
def kReg (fn:FuncId)(rnd:Option Nat)(defs:List Nat)(k:List Item):Option (VT × Hp)→Option Res
 | some (tmps,h)=>self (.frame fn rnd tmps defs k h)
 | none=>none
def kCond (fn:FuncId)(rnd:Option Nat)(tmps:VT)(defs:List Nat)(h:Hp)(k:List Item)(t e:Code):Option Value→Option Res
 | some (.bool b)=>self (.frame fn rnd tmps defs (.code (bif b then t else e)::k) h)
 | _=>none
def kCode (fn:FuncId)(rnd:Option Nat)(tmps:VT)(defs:List Nat)(h:Hp)(k:List Item)(c:Code):Option Res:=
 match c with
 | .ret=>some (.left (some .ret) tmps defs h)
 | .skip=>self (.frame fn rnd tmps defs k h)
 | .seq a b=>self (.frame fn rnd tmps defs (.code a::.code b::k) h)
 | .cond c t e=>kCond self fn rnd tmps defs h k t e (opd tmps c)
 | .block id body=>self (.frame fn rnd tmps defs (.code body::.inBlock id::k) h)
 | .loop body=>self (.frame fn rnd tmps defs (.code body::.inLoop body::k) h)
 | .region _ ops draw=>kReg self fn rnd defs k (bif draw then eDraw T P self ops.toList tmps h else kOps T P self ops.toList ops.toList tmps h)
 | c=>kjw T P self fn rnd tmps defs h (.code c::k)
def kItem (fn:FuncId)(rnd:Option Nat)(tmps:VT)(defs:List Nat)(h:Hp)(k:List Item)(it:Item):Option Res:=
 match it with
 | .code c=>kCode T P self fn rnd tmps defs h k c
 | .inBlock _=>self (.frame fn rnd tmps defs k h)
 | .inScope _=>self (.frame fn rnd tmps defs k h)
 | .inLoop body=>self (.frame fn rnd tmps defs (.code body::.inLoop body::k) h)
 | it=>kjw T P self fn rnd tmps defs h (it::k)
def kFrame (fn:FuncId)(rnd:Option Nat)(tmps:VT)(defs:List Nat)(h:Hp):List Item→Option Res
 | []=>some (.left none tmps defs h)
 | it::k=>kItem T P self fn rnd tmps defs h k it
theorem kFrame_eq (fn:FuncId)(rnd:Option Nat)(tmps:VT)(defs:List Nat)(h:Hp)(todo:List Item):kFrame T P self fn rnd tmps defs h todo=kjw T P self fn rnd tmps defs h todo:=by
 cases todo with
 | nil=>rfl
 | cons it k=>
  simp only[kFrame]
  cases it<;>first|rfl|skip
  case code c=>
   simp only[kItem]
   cases c<;>first|rfl|skip
   case region id ops draw=>
    simp only[kCode,kjw,kOps_eq]
    cases (bif draw then eDraw T P self ops.toList tmps h else eOps T P self ops.toList ops.toList tmps h)<;>rfl
def kBody:Req→Option Res
 | .call f args h=>knz T self f args h
 | .round l args h=>eRound self l args h
 | .frame fn rnd tmps defs todo h=>kFrame T P self fn rnd tmps defs h todo
theorem kBody_eq:kBody T P self=body T P self:=by
 funext r
 cases r<;>first|rfl|exact kFrame_eq T P self _ _ _ _ _ _
end
noncomputable def evK (T:Tab) (P:Program) (n:Nat):Req→Option Res:=Nat.rec (motive:=fun _=>Req→Option Res) (fun _=>none) (fun _ ih=>kBody T P ih) n
theorem evK_eq (T:Tab)(P:Program):∀n,evK T P n=ev T P n
 | 0=>rfl
 | n+1=>by
  show kBody T P (evK T P n)=body T P (ev T P n)
  rw[kBody_eq,evK_eq T P n]
end Go.Ev
