/- An evaluator of closed runs; An evaluator of closed runs: what stands in for calls, gathered. Conditions: as each statement says. -/
import Derived.Test.YtcgghcicnanliaaGreatDoorM03
import Derived.Below
set_option linter.unusedVariables false
set_option linter.unusedSimpArgs false
namespace Go.Ev
def sim1:Value→Bool
 | .pointer (some a)=>a.spot.isNone
 | .slice (some _) _ _=>true
 | v=>kbx v
def sh1 (ρ : Nat→Nat):Value→Value
 | .pointer (some a)=>.pointer (some ⟨ρ a.block,a.off,a.spot⟩)
 | .slice (some a) n c=>.slice (some ⟨ρ a.block,a.off,a.spot⟩) n c
 | v=>v
def sim2:Value→Bool
 | .agg cs=>cs.toList.all sim1
 | v=>sim1 v
def sh2 (ρ : Nat→Nat):Value→Value
 | .agg cs=>.agg (cs.toList.map (sh1 ρ)).toArray
 | v=>sh1 ρ v
def sim3:Value→Bool
 | .tuple cs=>cs.toList.all sim2
 | v=>sim2 v
def sh3 (ρ : Nat→Nat):Value→Value
 | .tuple cs=>.tuple (cs.toList.map (sh2 ρ)).toArray
 | v=>sh2 ρ v
section
variable {ι κ : In} {ρ : Nat→Nat} {v v':Value}
theorem sh1_ok (hk:∀k l,ι k=some l→κ (ρ k)=some l)(hs:sim1 v=true)(h:VR ι v v'):VR κ (sh1 ρ v) v':=by
 unfold sim1 at hs
 split at hs
 ·rename_i a
  obtain⟨b,o,sp⟩:=a
  have:sp=none:=by simpa using hs
  subst this;obtain⟨l,hl,rfl⟩:=h.inv_ptr
  exact .ptr (hk _ _ hl)
 ·rename_i a n c
  obtain⟨b,o,sp⟩:=a
  rcases h.inv_slice with ⟨ha,_⟩|⟨k,off,sp',l,c',ha,hl,rfl,hc⟩
  ·cases ha
  ·cases ha
   cases sp with
   | none=>simp at hc;subst hc;exact .slice (hk _ _ hl)
   | some t=>simp at hc;subst hc;exact .opn (hk _ _ hl)
 ·rename_i h1 h2
  have hv:=h.inv_leaf hs;subst hv
  have:sh1 ρ v'=v':=by
   cases v'<;>first|rfl|skip
   case pointer a=>cases a with
    | none=>rfl
    | some a=>exact absurd rfl (h1 a)
   case slice a n c=>cases a with
    | none=>rfl
    | some a=>exact absurd rfl (h2 a n c)
  rw[this];exact .leaf hs
theorem LR.sh {f:Value→Value}{p:Value→Bool}(hf:∀v v',p v=true→VR ι v v'→VR κ (f v) v'){l l':List Value}(hp:l.all p=true)(h:LR ι l l'):LR κ (l.map f) l':=by
 refine⟨by simp[h.1],fun i x x' a b=>?_⟩
 rw[List.getElem?_map]at a;obtain⟨y,hy,rfl⟩:=Option.map_eq_some_iff.1 a
 exact hf y x' (List.all_eq_true.1 hp y (List.mem_of_getElem? hy)) (h.2 i y x' hy b)
theorem sh2_ok (hk:∀k l,ι k=some l→κ (ρ k)=some l)(hs:sim2 v=true)(h:VR ι v v'):VR κ (sh2 ρ v) v':=by
 unfold sim2 at hs
 split at hs
 ·obtain⟨a',rfl,hl⟩:=h.inv_agg
  have:=VR.agg' (LR.sh (fun v v'=>sh1_ok hk) hs hl)
  simpa[sh2]using this
 ·rename_i hna
  have:sh2 ρ v=sh1 ρ v:=by cases v<;>first|rfl|exact absurd rfl (hna _)
  rw[this];exact sh1_ok hk hs h
theorem sh3_ok (hk:∀k l,ι k=some l→κ (ρ k)=some l)(hs:sim3 v=true)(h:VR ι v v'):VR κ (sh3 ρ v) v':=by
 unfold sim3 at hs
 split at hs
 ·obtain⟨a',rfl,hl⟩:=h.inv_tuple
  have:=VR.tuple' (LR.sh (fun v v'=>sh2_ok hk) hs hl)
  simpa[sh3]using this
 ·rename_i hna
  have:sh3 ρ v=sh2 ρ v:=by cases v<;>first|rfl|exact absurd rfl (hna _)
  rw[this];exact sh2_ok hk hs h
end
def same0:Value→Value→Bool
 | .int .i64 a,.int .i64 b=>ieq a b
 | .int .u8 a,.int .u8 b=>ieq a b
 | .bool a,.bool b=>bif a then b else !b
 | .slice none a b,.slice none c d=>Nat.beq a c&&Nat.beq b d
 | .pointer none,.pointer none=>true
 | _,_=>false
def same1:Value→Value→Bool
 | .slice (some ⟨a,b,none⟩) m n,.slice (some ⟨c,d,none⟩) p q=>Nat.beq a c&&Nat.beq b d&&Nat.beq m p&&Nat.beq n q
 | .slice (some ⟨a,b,some e⟩) m n,.slice (some ⟨c,d,some f⟩) p q=>Nat.beq a c&&Nat.beq b d&&Nat.beq e f&&Nat.beq m p&&Nat.beq n q
 | .pointer (some ⟨a,b,none⟩),.pointer (some ⟨c,d,none⟩)=>Nat.beq a c&&Nat.beq b d
 | a,b=>same0 a b
def sameL (f:Value→Value→Bool):List Value→List Value→Bool
 | [],[]=>true
 | a::r,b::s=>f a b&&sameL f r s
 | _,_=>false
def same2:Value→Value→Bool
 | .agg a,.agg b=>sameL same1 a.toList b.toList
 | a,b=>same1 a b
def same3:Value→Value→Bool
 | .tuple a,.tuple b=>sameL same2 a.toList b.toList
 | a,b=>same2 a b
theorem same0_eq {a b:Value}(h:same0 a b=true):a=b∧kbx a=true:=by
 unfold same0 at h
 split at h<;>(try simp only[Bool.and_eq_true,Nat.beq_eq]at h)
 ·rw[ieq_eq]at h;rw[eq_of_beq h];exact⟨rfl,rfl⟩
 ·rw[ieq_eq]at h;rw[eq_of_beq h];exact⟨rfl,rfl⟩
 ·rename_i p q;cases p<;>cases q<;>simp_all [kbx]
 ·obtain⟨rfl,rfl⟩:=h;exact⟨rfl,rfl⟩
 ·exact⟨rfl,rfl⟩
 ·cases h
theorem same1_eq {a b:Value}(h:same1 a b=true):a=b:=by
 unfold same1 at h
 split at h<;>(try simp only[Bool.and_eq_true,Nat.beq_eq]at h)
 ·obtain⟨⟨⟨rfl,rfl⟩,rfl⟩,rfl⟩:=h;rfl
 ·obtain⟨⟨⟨⟨rfl,rfl⟩,rfl⟩,rfl⟩,rfl⟩:=h;rfl
 ·obtain⟨rfl,rfl⟩:=h;rfl
 ·exact(same0_eq h).1
theorem kjc {f:Value→Value→Bool}(hf:∀a b,f a b=true→a=b):∀ {l m:List Value},sameL f l m=true→l=m
 | [],[],_=>rfl
 | [],_::_,h=>by cases h
 | _::_,[],h=>by cases h
 | a::l,b::m,h=>by
  simp only[sameL,Bool.and_eq_true]at h;rw[hf a b h.1,kjc hf h.2]
theorem klw {a b:Value}(h:same2 a b=true):a=b:=by
 unfold same2 at h
 split at h
 ·rw[Array.ext' (kjc (fun _ _=>same1_eq) h)]
 ·exact same1_eq h
theorem same3_eq {a b:Value}(h:same3 a b=true):a=b:=by
 unfold same3 at h
 split at h
 ·rw[Array.ext' (kjc (fun _ _=>klw) h)]
 ·exact klw h
abbrev Sub:=List (Nat × Nat)
def Sub.at_:Sub→Nat→Option Nat
 | [],_=>none
 | (a,b)::r,k=>bif Nat.beq a k then some b else Sub.at_ r k
def Sub.has:Sub→Nat→Bool
 | [],_=>false
 | (_,b)::r,k=>bif Nat.beq b k then true else Sub.has r k
def un0 (s:Sub)(a b:Nat):Option Sub:=
 match s.at_ a with
 | some c=>bif Nat.beq c b then some s else none
 | none=>bif s.has b then none else some ((a,b)::s)
def un1 (s:Sub):Value→Value→Option Sub
 | .slice (some ⟨a,b,none⟩) m n,.slice (some ⟨c,d,none⟩) p q=>bif Nat.beq b d&&Nat.beq m p&&Nat.beq n q then un0 s a c else none
 | .slice (some ⟨a,b,some e⟩) m n,.slice (some ⟨c,d,some f⟩) p q=>bif Nat.beq b d&&Nat.beq e f&&Nat.beq m p&&Nat.beq n q then un0 s a c else none
 | .pointer (some ⟨a,b,none⟩),.pointer (some ⟨c,d,none⟩)=>bif Nat.beq b d then un0 s a c else none
 | a,b=>bif same0 a b then some s else none
def unL (f:Sub→Value→Value→Option Sub):Sub→List Value→List Value→Option Sub
 | s,[],[]=>some s
 | s,a::r,b::t=>match f s a b with
  | some s=>unL f s r t
  | none=>none
 | _,_,_=>none
def un2 (s:Sub):Value→Value→Option Sub
 | .agg a,.agg b=>unL un1 s a.toList b.toList
 | a,b=>un1 s a b
abbrev Bk:=Nat × List Value × TypeId × Bool
def unB (h:Hp):Sub→List Bk→Option Sub
 | s,[]=>some s
 | s,(k,c,e,o)::r=>match s.at_ k with
  | some K=>match h.tr.get K with
   | some (.cells c' e' o')=>bif Nat.beq e e'&&(bif o then o' else !o') then
     (match unL un2 s c c' with
     | some s=>unB h s r
     | none=>none) else none
   | _=>none
  | none=>none
def Sub.le (s t:Sub):Prop:=∀k K,s.at_ k=some K→t.at_ k=some K
def Sub.one (s:Sub):Prop:=∀k k' K,s.at_ k=some K→s.at_ k'=some K→k=k'
def sig (ι : In)(s:Sub):In:=fun k=>(s.at_ k).bind ι
theorem sig_le {ι : In}{s t:Sub}(h:s.le t):(sig ι s).le (sig ι t):=fun k l hk=>by
 unfold sig at *;obtain⟨K,h1,h2⟩:=Option.bind_eq_some_iff.1 hk;rw[h _ _ h1];exact h2
theorem Sub.has_of:∀ {s:Sub} {k K:Nat},s.at_ k=some K→s.has K=true
 | (a,b)::r,k,K,h=>by
  simp only[Sub.at_,cond_eq_ite]at h;simp only[Sub.has,cond_eq_ite]
  split at h
  ·cases h;simp
  ·split
   ·rfl
   ·exact Sub.has_of h
theorem Sub.mem_of:∀ {s:Sub} {k K:Nat},s.at_ k=some K→(k,K)∈s
 | (a,b)::r,k,K,h=>by
  simp only[Sub.at_,cond_eq_ite]at h
  split at h
  ·rename_i hk;rw[Nat.beq_eq]at hk;cases h;subst hk;exact List.mem_cons_self ..
  ·exact List.mem_cons_of_mem _ (Sub.mem_of h)
theorem un0_ok {s t:Sub}{a b:Nat}(h:un0 s a b=some t):s.le t∧(s.one→t.one)∧t.at_ a=some b:=by
 unfold un0 at h
 split at h
 ·rename_i c hc
  rw[cond_eq_ite]at h
  split at h
  ·rename_i hb;rw[Nat.beq_eq]at hb;cases h;subst hb;exact⟨fun _ _ h=>h,id,hc⟩
  ·cases h
 ·rename_i hn
  rw[cond_eq_ite]at h
  split at h
  ·cases h
  rename_i hh
  cases h
  have get:∀k,Sub.at_ ((a,b)::s) k=if a=k then some b else s.at_ k:=fun k=>by
   simp only[Sub.at_,cond_eq_ite,Nat.beq_eq]
  refine⟨fun k K hk=>?_,fun ho k k' K h1 h2=>?_,by rw[get,if_pos rfl]⟩
  ·rw[get]
   split
   ·rename_i he;subst he;rw[hn]at hk;cases hk
   ·exact hk
  ·rw[get]at h1 h2
   split at h1<;>split at h2
   ·rename_i x y;rw[←x,←y]
   ·cases h1;exact absurd (Sub.has_of h2) hh
   ·cases h2;exact absurd (Sub.has_of h1) hh
   ·exact ho _ _ _ h1 h2
def U (s:Sub)(a b:Value):Prop:=∀ ι v',VR ι b v'→VR (sig ι s) a v'
theorem sig_at {ι : In}{s:Sub}{a c:Nat}{l:Loc}(h:s.at_ a=some c)(hl:ι c=some l):sig ι s a=some l:=by
 unfold sig;rw[h];exact hl
theorem un1_ok {s t:Sub}{a b:Value}(h:un1 s a b=some t):s.le t∧(s.one→t.one)∧U t a b:=by
 unfold un1 at h
 split at h<;>rw[cond_eq_ite]at h<;>split at h
 case h_1.isFalse|h_2.isFalse|h_3.isFalse|h_4.isFalse=>cases h
 ·rename_i hq
  simp only[Bool.and_eq_true,Nat.beq_eq]at hq;obtain⟨⟨rfl,rfl⟩,rfl⟩:=hq;obtain⟨h1,h2,h3⟩:=un0_ok h
  refine⟨h1,h2,fun ι v' hv=>?_⟩
  rcases hv.inv_slice with ⟨ha,_⟩|⟨k,off,sp',l,c',ha,hl,rfl,hc⟩
  ·cases ha
  ·cases ha;simp at hc;subst hc;exact .slice (sig_at h3 hl)
 ·rename_i hq
  simp only[Bool.and_eq_true,Nat.beq_eq]at hq;obtain⟨⟨⟨rfl,rfl⟩,rfl⟩,rfl⟩:=hq;obtain⟨h1,h2,h3⟩:=un0_ok h
  refine⟨h1,h2,fun ι v' hv=>?_⟩
  rcases hv.inv_slice with ⟨ha,_⟩|⟨k,off,sp',l,c',ha,hl,rfl,hc⟩
  ·cases ha
  ·cases ha;simp at hc;subst hc;exact .opn (sig_at h3 hl)
 ·rename_i hq
  simp only[Nat.beq_eq]at hq;subst hq;obtain⟨h1,h2,h3⟩:=un0_ok h
  refine⟨h1,h2,fun ι v' hv=>?_⟩
  obtain⟨l,hl,rfl⟩:=hv.inv_ptr
  exact .ptr (sig_at h3 hl)
 ·rename_i hq
  obtain⟨rfl,hl⟩:=same0_eq hq;cases h
  exact⟨fun _ _ h=>h,id,fun ι v' hv=>by rw[hv.inv_leaf hl];exact .leaf hl⟩
theorem unL_ok {f:Sub→Value→Value→Option Sub}(hf:∀s t a b,f s a b=some t→s.le t∧(s.one→t.one)∧U t a b) :
  ∀ {l m:List Value} {s t:Sub},unL f s l m=some t→s.le t∧(s.one→t.one)∧∀ ι m',LR ι m m'→LR (sig ι t) l m'
 | [],[],s,t,h=>by cases h;exact⟨fun _ _ h=>h,id,fun ι m' h=>by rw[h.inv_nil];exact .nil⟩
 | [],_::_,_,_,h=>by cases h
 | _::_,[],_,_,h=>by cases h
 | a::l,b::m,s,t,h=>by
  simp only[unL]at h
  split at h
  case h_2=>cases h
  rename_i u hu
  obtain⟨h1,h2,h3⟩:=hf _ _ _ _ hu;obtain⟨g1,g2,g3⟩:=unL_ok hf h
  refine⟨fun k K hk=>g1 _ _ (h1 _ _ hk),fun ho=>g2 (h2 ho),fun ι m' hm=>?_⟩
  obtain⟨b',m2,rfl,hb,hm2⟩:=hm.inv_cons
  exact .cons ((h3 ι _ hb).mono (sig_le g1)) (g3 ι _ hm2)
theorem un2_ok {s t:Sub}{a b:Value}(h:un2 s a b=some t):s.le t∧(s.one→t.one)∧U t a b:=by
 unfold un2 at h
 split at h
 ·obtain⟨h1,h2,h3⟩:=unL_ok (fun _ _ _ _=>un1_ok) h
  refine⟨h1,h2,fun ι v' hv=>?_⟩
  obtain⟨a',rfl,hl⟩:=hv.inv_agg
  simpa using VR.agg' (h3 ι _ hl)
 ·exact un1_ok h
theorem unB_ok {h:Hp}:∀ {l:List Bk} {s t:Sub},unB h s l=some t→s.le t∧(s.one→t.one) ∧
  ∀x∈l,∃K c',t.at_ x.1=some K∧h.tr.get K=some (.cells c' x.2.2.1 x.2.2.2)∧∀ ι m',LR ι c' m'→LR (sig ι t) x.2.1 m'
 | [],s,t,h=>by cases h;exact⟨fun _ _ h=>h,id,fun x hx=>by cases hx⟩
 | (k,c,e,o)::r,s,t,hq=>by
  simp only[unB]at hq
  split at hq
  case h_2=>cases hq
  rename_i K hK
  split at hq
  case h_2=>cases hq
  rename_i c' e' o' hget
  rw[cond_eq_ite]at hq
  split at hq
  case isFalse=>cases hq
  rename_i hc
  simp only[Bool.and_eq_true,Nat.beq_eq]at hc;obtain⟨rfl,ho⟩:=hc
  have ho:o=o':=by cases o<;>cases o'<;>simp_all
  subst ho
  split at hq
  case h_2=>cases hq
  rename_i u hu
  obtain⟨h1,h2,h3⟩:=unL_ok (fun _ _ _ _=>un2_ok) hu
  obtain⟨g1,g2,g3⟩:=unB_ok hq
  refine⟨fun k K hk=>g1 _ _ (h1 _ _ hk),fun ho=>g2 (h2 ho),fun x hx=>?_⟩
  rcases List.mem_cons.1 hx with rfl|hx
  ·exact⟨K,c',g1 _ _ (h1 _ _ hK),hget,fun ι m' hm=>(h3 ι m' hm).mono (sig_le g1)⟩
  ·exact g3 x hx
structure Rec where
 f:FuncId
 n0:Nat
 args:List Value
 ins:List Bk
 v:Value
 top:Nat
 blks:List Bk
def putBs (ρ : Nat→Nat)(g:Value→Value)(t:Tr):List Bk→Tr
 | []=>t
 | (k,c,e,o)::r=>putBs ρ g (t.set (ρ k) (some (.cells (c.map g) e o))) r
def Rec.start (r:Rec):Hp:={ tr:=putBs id id .leaf r.ins,next:=r.n0,wall:=r.n0 }
def sameB1 (h:Hp)(b:Bk):Bool:=
 match h.tr.get b.1 with
 | some (.cells c e o)=>sameL same2 b.2.1 c&&Nat.beq b.2.2.1 e&&(bif b.2.2.2 then o else !o)
 | _=>false
def kow (r:Rec):Option Res→Bool
 | some (.val v h)=>same3 r.v v&&Nat.ble h.next r.top&&r.blks.all (fun b=>sameB1 h b&&b.2.1.all sim2&&Nat.ble r.n0 b.1)&&sim3 r.v&&r.ins.all (fun b=>Nat.ble (b.1+1) r.n0)
 | _=>false
def ren (r:Rec)(s:Sub)(n k:Nat):Nat:=bif Nat.ble r.n0 k then n+(k-r.n0) else (match s.at_ k with|some K=>K|none=>0)
def kaa (r:Rec)(args:List Value)(h:Hp):Option (Value × Hp):=
 match unL un2 [] r.args args with
 | some s=>match unB h s r.ins with
  | some s=>bif s.all (fun x=>Nat.ble (x.1+1) r.n0) then some (sh3 (ren r s h.next) r.v,{ h with tr:=putBs (ren r s h.next) (sh2 (ren r s h.next)) h.tr r.blks,next:=h.next+r.top }) else none
  | none=>none
 | none=>none
theorem kgw {ρ : Nat→Nat}{g:Value→Value}:∀ {l:List Bk} {t:Tr} {k:Nat} {b:Blk},(putBs ρ g t l).get k=some b→(∃x∈l,k=ρ x.1∧b=.cells (x.2.1.map g) x.2.2.1 x.2.2.2)∨t.get k=some b
 | [],t,k,b,h=>.inr h
 | (q,c,e,o)::r,t,k,b,h=>by
  rcases kgw (l:=r) h with ⟨x,hx,h1⟩|h
  ·exact .inl ⟨x,List.mem_cons_of_mem _ hx,h1⟩
  ·rw[Tr.get_set]at h
   split at h
   ·rename_i hk;cases h;exact .inl ⟨_,List.mem_cons_self ..,hk,rfl⟩
   ·exact .inr h
theorem rec_ok {T:Tab}{P:Program}{r:Rec}{self:Req→Option Res}(hs:Sound T P self){T':Tab}(hty:T'.ty=T.ty)(hr:kow r (self (.call r.f r.args r.start))=true){args:List Value}{h h':Hp}{v:Value}(ho:kaa r args h=some (v,h')){ι : In}{w:World}{args':Array Value}
  (m:M T' ι h w) (ha:LR ι args args'.toList):CallS T' P ι h w r.f args' v h':=by
 unfold kaa at ho
 split at ho
 case h_2=>cases ho
 rename_i s1 hs1
 split at ho
 case h_2=>cases ho
 rename_i s hs2
 rw[cond_eq_ite]at ho
 split at ho
 case isFalse=>cases ho
 rename_i hkeys
 cases ho
 obtain⟨a1,a2,a3⟩:=unL_ok (fun _ _ _ _=>un2_ok) hs1
 obtain⟨b1,b2,b3⟩:=unB_ok hs2
 have hone:s.one:=b2 (a2 fun k k' K h=>by cases h)
 have hlt:∀k K,s.at_ k=some K→k<r.n0:=fun k K hk=>by
  have:=List.all_eq_true.1 hkeys _ (Sub.mem_of hk)
  simp only[Nat.ble_eq]at this
  omega
 unfold kow at hr
 split at hr
 case h_2=>cases hr
 rename_i v1 h1 hev
 simp only[Bool.and_eq_true,Nat.ble_eq]at hr;obtain⟨⟨⟨⟨e1,e2⟩,e3⟩,e4⟩,e5⟩:=hr
 have:=same3_eq e1
 subst this
 have hleaf:LR (sig ι s) r.args args'.toList:=(a3 ι _ ha).mono (sig_le b1)
 have sig_some:∀k l,sig ι s k=some l→∃K,s.at_ k=some K∧ι K=some l:=fun k l hk=>Option.bind_eq_some_iff.1 hk
 have stGet:∀k b,r.start.tr.get k=some b→∃x∈r.ins,k=x.1∧b=.cells x.2.1 x.2.2.1 x.2.2.2:=fun k b hk=>by
  rcases kgw hk with ⟨x,hx,h1,h2⟩|h2
  ·exact⟨x,hx,h1,by simpa using h2⟩
  ·rw[Tr.get_leaf]at h2;cases h2
 have m0:M T (sig ι s) r.start w:=by
  refine⟨fun k b hk=>?_,fun k k' b b' l l' hk hk' hl hl' he=>?_,fun k hk=>?_⟩
  ·obtain⟨x,hx,rfl,rfl⟩:=stGet k b hk
   obtain⟨K,c',q1,q2,q3⟩:=b3 x hx;obtain⟨l,l1,pre,c'',post,p1,p2,p3,p4⟩:=m.at_ _ _ q2
   exact⟨l,sig_at q1 l1,pre,c'',post,p1,p2,q3 ι _ p3,fun ho=>by rw[←hty];exact p4 ho⟩
  ·obtain⟨x,hx,rfl,rfl⟩:=stGet k b hk
   obtain⟨x',hx',rfl,rfl⟩:=stGet k' b' hk';obtain⟨K,c',q1,q2,_⟩:=b3 x hx;obtain⟨K',c'',q1',q2',_⟩:=b3 x' hx';have hl:=(sig_some _ _ hl);have hl':=(sig_some _ _ hl');rw[q1]at hl;rw[q1']at hl';obtain⟨_,g1,g2⟩:=hl;obtain⟨_,g1',g2'⟩:=hl'
   cases g1;cases g1'
   have:=m.inj _ _ _ _ _ _ q2 q2' g2 g2' he
   subst this
   exact hone _ _ _ q1 q1'
  ·cases hq:sig ι s k with
   | none=>rfl
   | some l=>
    obtain⟨K,h1,_⟩:=sig_some _ _ hq
    have:=hlt _ _ h1
    exact absurd (show r.n0≤k from hk) (by omega)
 intro cs;obtain⟨ι1,v',w',fr,s1,s2,s3,s4,s5,s6⟩:=hs.call _ _ _ _ _ hev (sig ι s) w args' m0 hleaf cs
 have hnone:∀k,r.n0≤k→r.start.tr.get k=none:=fun k hk=>by
  cases hq:r.start.tr.get k with
  | none=>rfl
  | some b=>
   obtain⟨x,hx,rfl,_⟩:=stGet k b hq
   have:=List.all_eq_true.1 e5 x hx
   simp only[Nat.ble_eq]at this
   omega
 have img:∀k l,r.n0≤k→ι1 k=some l→w.heap.size≤l.blk:=fun k l hk0 hk=>by
  rcases s6.img k l hk0 hk with h1|⟨k0,l0,hw,hl,_⟩
  ·exact h1
  ·rw[hnone _ hw]at hl;cases hl
 have hfr:∀b,b<w.heap.size→w'.heap[b]?=w.heap[b]?:=fun b hb=>s6.fr b hb fun k l hw hl=>by rw[hnone _ hw]at hl;cases hl
 let ι2:In:=fun k=>if h.next≤k then ι1 (r.n0+(k-h.next)) else ι k
 have old:∀k,k<h.next→ι2 k=ι k:=fun k hk=>if_neg (by omega)
 have hle:ι.le ι2:=fun k l hk=>by rw[old k (m.lt hk)];exact hk
 have renN:∀k,r.n0≤k→ren r s h.next k=h.next+(k-r.n0):=fun k hk=>by
  unfold ren;rw[cond_eq_ite,if_pos (by simpa using hk)]
 have newN:∀k,r.n0≤k→ι2 (ren r s h.next k)=ι1 k:=fun k hk=>by
  rw[renN k hk]
  show (if h.next≤h.next+(k-r.n0) then ι1 (r.n0+(h.next+(k-r.n0)-h.next)) else _)=_
  rw[if_pos (by omega)]
  congr 1;omega
 have new:∀k l,ι1 k=some l→ι2 (ren r s h.next k)=some l:=fun k l hk=>by
  rcases Nat.lt_or_ge k r.n0 with hk0|hk0
  ·have h0:ι1 k=sig ι s k:=s6.old (show k<r.start.next from hk0)
   rw[h0]at hk;obtain⟨K,h1,h2⟩:=sig_some _ _ hk
   have:ren r s h.next k=K:=by
    unfold ren;rw[cond_eq_ite,if_neg (by simpa using hk0),h1]
   rw[this,old K (m.lt h2)];exact h2
  ·rw[newN k hk0];exact hk
 have at2:∀k b,(putBs (ren r s h.next) (sh2 (ren r s h.next)) h.tr r.blks).get k=some b→(∃l,ι2 k=some l∧BR T' ι2 l w' b)∧((∃k0 b0,k=h.next+(k0-r.n0)∧r.n0≤k0∧h1.tr.get k0=some b0)∨∃b0,h.tr.get k=some b0):=fun k b hk=>by
  rcases kgw hk with ⟨x,hx,rfl,rfl⟩|hk
  ·have h2:=List.all_eq_true.1 e3 x hx
   simp only[Bool.and_eq_true]at h2;obtain⟨⟨h2,h3⟩,h4⟩:=h2;simp only[Nat.ble_eq]at h4;unfold sameB1 at h2
   split at h2
   case h_2=>cases h2
   rename_i c e o hget
   simp only[Bool.and_eq_true,Nat.beq_eq]at h2;obtain⟨⟨g1,g2⟩,g3⟩:=h2
   have g1:=kjc (fun _ _=>klw) g1
   have g3:x.2.2.2=o:=by cases hq:x.2.2.2<;>cases o<;>simp_all
   obtain⟨l,l1,l2⟩:=s5.at_ _ _ hget;obtain⟨pre,c',post,p1,p2,p3,p4⟩:=l2
   refine⟨⟨l,new _ _ l1,pre,c',post,by rw[g2];exact p1,p2,?_,fun ho=>?_⟩,.inl ⟨_,_,renN _ h4,h4,hget⟩⟩
   ·rw[←g1]at p3
    exact LR.sh (fun v v'=>sh2_ok new) h3 p3
   ·rw[hty,g2];exact p4 (by rw[←g3];exact ho)
  ·obtain⟨l,l1,l2⟩:=m.at_ k b hk
   exact⟨⟨l,by rw[old k (m.lt l1)];exact l1,l2.keep hle (hfr _ l2.in)⟩,.inr ⟨b,hk⟩⟩
 have at3:∀k0 l,r.n0≤k0→ι2 (h.next+(k0-r.n0))=some l→ι1 k0=some l:=fun k0 l hk hl=>by
  rw[←renN k0 hk,newN k0 hk]at hl;exact hl
 refine⟨ι2,v',w',fr,s1,s2,s3,sh3_ok new e4 s4,⟨fun k b hk=>(at2 k b hk).1,fun k k' b b' l l' hk hk' hl hl' he=>?_,fun k hk=>?_⟩,?_⟩
 ·rcases(at2 k b hk).2 with ⟨k0,b0,rfl,n0,g⟩|⟨b0,g⟩<;>rcases(at2 k' b' hk').2 with ⟨k1,b1,rfl,n1,g'⟩|⟨b1,g'⟩
  ·have:=s5.inj _ _ _ _ _ _ g g' (at3 _ _ n0 hl) (at3 _ _ n1 hl') he
   rw[this]
  ·obtain⟨l1,q2,q3⟩:=m.at_ _ _ g'
   rw[old _ (m.lt q2),q2]at hl';cases hl'
   have:=img _ _ n0 (at3 _ _ n0 hl);have:=q3.in;omega
  ·obtain⟨l1,q2,q3⟩:=m.at_ _ _ g
   rw[old _ (m.lt q2),q2]at hl;cases hl
   have:=img _ _ n1 (at3 _ _ n1 hl');have:=q3.in;omega
  ·obtain⟨l0,q1,_⟩:=m.at_ _ _ g
   obtain⟨l1,q2,_⟩:=m.at_ _ _ g';rw[old _ (m.lt q1)]at hl;rw[old _ (m.lt q2)]at hl'
   exact m.inj _ _ _ _ _ _ g g' hl hl' he
 ·simp only at hk
  show (if h.next≤k then ι1 (r.n0+(k-h.next)) else ι k)=none
  rw[if_pos (by omega)]
  exact s5.top _ (by omega)
 ·refine⟨hle,fun k hk=>?_,by simp,rfl,s6.size,fun b hb _=>hfr b hb,fun k hk=>?_,fun k l hk hl=>.inl ?_,s6.os,s6.tape,s6.output⟩
  ·rcases Nat.lt_or_ge k h.next with hlt|hge
   ·exact absurd (old k hlt) hk
   ·exact hge
  ·obtain⟨b,hb⟩:=Option.isSome_iff_exists.1 hk
   rcases(at2 k b hb).2 with ⟨k0,b0,rfl,_⟩|⟨b0,g⟩
   ·exact .inr (by omega)
   ·exact .inl (by rw[g];rfl)
  ·have:ι2 k=ι1 (r.n0+(k-h.next)):=if_pos hk
   rw[this]at hl
   exact img _ _ (by omega) hl
theorem rec_enters {T:Tab}{P:Program}{r:Rec}{self:Req→Option Res}(hs:Sound T P self)(hr:kow r (self (.call r.f r.args r.start))=true):Enters P r.f:=by
 unfold kow at hr
 split at hr
 case h_2=>cases hr
 rename_i v1 h1 hev
 exact hs.enters _ _ _ _ hev
theorem M.ty {T T':Tab}(ht:T'.ty=T.ty){ι : In}{h:Hp}{w:World}(m:M T ι h w):M T' ι h w:=by
 refine⟨fun k b hk=>?_,m.inj,m.top⟩
 obtain⟨l,h1,h2⟩:=m.at_ k b hk
 refine⟨l,h1,?_⟩
 cases b with
 | cells c e o=>obtain⟨pre,c',post,p1,p2,p3,p4⟩:=h2;exact⟨pre,c',post,p1,p2,p3,fun ho=>by rw[ht];exact p4 ho⟩
 | map es cl=>exact h2
 | loop st pend fn tmps params assign body d=>exact h2
 | defd t=>exact h2
abbrev Word:=List Value→Hp→Option (Value × Hp)
def Good (P:Program)(f:FuncId)(g:Word):Prop:=
 Enters P f∧∀T:Tab,T.ty=tyOf P→∀args h v h',g args h=some (v,h')→∀ ι w args',M T ι h w→LR ι args args'.toList→CallS T P ι h w f args' v h'
def kag (g k:Word):Word:=fun args h=>match g args h with
 | some x=>some x
 | none=>k args h
theorem Good.or {P:Program}{f:FuncId}{g k:Word}(hg:Good P f g)(hk:Good P f k):Good P f (kag g k):=by
 refine⟨hg.1,fun T ht args h v h' he=>?_⟩
 unfold kag at he
 split at he
 ·rename_i x hx;cases he;exact hg.2 T ht args h v h' hx
 ·exact hk.2 T ht args h v h' he
def orcL:List (FuncId × Word)→FuncId→Option Word
 | [],_=>none
 | (f,g)::r,k=>bif Nat.beq f k then some g else orcL r k
theorem orcL_ok {P:Program}{l:List (FuncId × Word)}(h:∀x∈l,Good P x.1 x.2):OrcOk (khp P (orcL l)) P:=by
 have key:∀ {l:List (FuncId × Word)} {f g},(∀x∈l,Good P x.1 x.2)→orcL l f=some g→Good P f g:=by
  intro l
  induction l with
  | nil=>intro f g _ he;cases he
  | cons x r ih=>
   intro f g hl he;obtain⟨f1,g1⟩:=x;simp only[orcL,cond_eq_ite]at he
   split at he
   ·rename_i hq;rw[Nat.beq_eq]at hq;cases he;subst hq;exact hl _ (List.mem_cons_self ..)
   ·exact ih (fun x hx=>hl x (List.mem_cons_of_mem _ hx)) he
 exact⟨fun f g hg=>(key h hg).1,fun f g args hp v h' hg he ι w args' m ha=>(key h hg).2 _ rfl args hp v h' he ι w args' m ha⟩
theorem good_rec {P:Program}{orc}(hm:P.follows .mixedOrders=true)(hO:OrcOk (khp P orc) P){r:Rec}{n:Nat}(hr:kow r (evK (khp P orc) P n (.call r.f r.args r.start))=true):Good P r.f (kaa r):=by
 rw[evK_eq]at hr
 exact⟨rec_enters (ev_ok (khi hm) hO n) hr,fun T ht args h v h' he ι w args' m ha=>rec_ok (ev_ok (khi hm) hO n) ht hr he m ha⟩
section
variable {T:Tab} {P:Program} {ι : In} {h:Hp} {w:World} {f:FuncId} {args':Array Value} {v:Value}
theorem callS_flat (m:M T ι h w)(hv:kee v=true)(hc:Calls P f args' w fun e w'=>e=.returned v∧RowKit.Below w.heap.size w w'):CallS T P ι h w f args' v h:=by
 intro cs;obtain⟨e,w',fr,⟨rfl,b⟩,s1,s2,s3⟩:=hc cs
 refine⟨ι,v,w',fr,s1,s2,s3,kju hv,⟨fun k b' hk=>?_,m.inj,m.top⟩,?_⟩
 ·obtain⟨l,h1,h2⟩:=m.at_ k b' hk
  exact⟨l,h1,h2.keep (.refl ι) (b.block _ h2.in)⟩
 ·have:=Evo.refl m
  exact { this with size:=b.size,fr:=fun k hk _=>b.block k hk,os:=b.os,tape:=b.tape,output:=b.output,img:=fun k l hk hl=>absurd (m.lt hl) (by omega) }
end
noncomputable section
theorem brec {α : Type}(x y:α)(c:Bool):Bool.rec (motive:=fun _=>α) x y c=cond c y x:=by cases c<;>rfl
def gvS (v:Value)(gl gr:Nat→Value)(n:Nat):Value:=Nat.rec (motive:=fun _=>(Nat→Value)→(Nat→Value)→Value→Value) (fun _ _ v=>v) (fun m _ gl gr _=>Bool.rec (motive:=fun _=>Value) (gr (Nat.div m (nat_lit 2))) (gl (Nat.div m (nat_lit 2))) (Nat.beq (Nat.mod m (nat_lit 2)) (nat_lit 0))) n gl gr v
def gvL (_:Nat):Value:=undef
def gV (t:Vt):Nat→Value:=Vt.rec (motive:=fun _=>Nat→Value) gvL (fun v _ _ gl gr=>gvS v gl gr) t
theorem gV_eq:∀(t:Vt) (n:Nat),gV t n=t.get n
 | .leaf,n=>by cases n<;>rfl
 | .node v l r,0=>rfl
 | .node v l r,n+1=>by
  show Bool.rec (motive:=fun _=>Value) (gV r (n / 2)) (gV l (n / 2)) (Nat.beq (n % 2) 0)=_
  rw[brec,gV_eq l,gV_eq r];rfl
abbrev SV:=Vt→Nat→Value→Vt
def svLeaf0 (b:Value):Vt:=.node b .leaf .leaf
def sv0 (t:Vt)(b:Value):Vt:=Vt.rec (motive:=fun _=>Value→Vt) svLeaf0 (fun _ l r _ _ b=>.node b l r) t b
def kmp (ih:SV)(m:Nat)(b:Value):Vt:=Bool.rec (motive:=fun _=>Vt) (.node undef .leaf (ih .leaf (Nat.div m (nat_lit 2)) b)) (.node undef (ih .leaf (Nat.div m (nat_lit 2)) b) .leaf) (Nat.beq (Nat.mod m (nat_lit 2)) (nat_lit 0))
def kmo (v:Value)(l r:Vt)(ih:SV)(m:Nat)(b:Value):Vt:=Bool.rec (motive:=fun _=>Vt) (.node v l (ih r (Nat.div m (nat_lit 2)) b)) (.node v (ih l (Nat.div m (nat_lit 2)) b) r) (Nat.beq (Nat.mod m (nat_lit 2)) (nat_lit 0))
def svS (t:Vt)(ih:SV)(m:Nat)(b:Value):Vt:=Vt.rec (motive:=fun _=>SV→Nat→Value→Vt) kmp (fun v l r _ _ ih m b=>kmo v l r ih m b) t ih m b
def svStep (ih:SV)(t:Vt)(n:Nat)(b:Value):Vt:=Nat.rec (motive:=fun _=>SV→Vt→Value→Vt) (fun _ t b=>sv0 t b) (fun m _ ih t b=>svS t ih m b) n ih t b
def svZ (t:Vt)(_:Nat)(_:Value):Vt:=t
def sV (f:Nat):SV:=Nat.rec (motive:=fun _=>SV) svZ (fun _ ih=>svStep ih) f
theorem sV_eq:∀(f:Nat) (t:Vt) (n:Nat) (b:Value),sV f t n b=Vt.setF f t n b
 | 0,_,_,_=>rfl
 | f+1,t,0,b=>by cases t<;>rfl
 | f+1,t,n+1,b=>by
  cases t with
  | leaf=>show Bool.rec (motive:=fun _=>Vt) (.node undef .leaf (sV f .leaf (n / 2) b)) (.node undef (sV f .leaf (n / 2) b) .leaf) (Nat.beq (n % 2) 0)=_;rw[brec,sV_eq f];rfl
  | node v l r=>show Bool.rec (motive:=fun _=>Vt) (.node v l (sV f r (n / 2) b)) (.node v (sV f l (n / 2) b) r) (Nat.beq (n % 2) 0)=_;rw[brec,sV_eq f,sV_eq f];rfl
inductive Pth where
 | e
 | l (p:Pth)
 | r (p:Pth)
def pthS (ih:Nat→Pth)(m:Nat):Pth:=Bool.rec (motive:=fun _=>Pth) (.r (ih (Nat.div m (nat_lit 2)))) (.l (ih (Nat.div m (nat_lit 2)))) (Nat.beq (Nat.mod m (nat_lit 2)) (nat_lit 0))
def pthF (f:Nat):Nat→Pth:=Nat.rec (motive:=fun _=>Nat→Pth) (fun _=>.e) (fun _ ih n=>Nat.rec (motive:=fun _=>(Nat→Pth)→Pth) (fun _=>.e) (fun m _ ih=>pthS ih m) n ih) f
def pth (n:Nat):Pth:=pthF (Nat.succ n) n
def gPL (_:Pth):Value:=undef
def gP (t:Vt):Pth→Value:=Vt.rec (motive:=fun _=>Pth→Value) gPL (fun v _ _ gl gr p=>Pth.rec (motive:=fun _=>Value→(Pth→Value)→(Pth→Value)→Value) (fun v _ _=>v) (fun q _ _ gl _=>gl q) (fun q _ _ _ gr=>gr q) p v gl gr) t
theorem gP_eq:∀(f:Nat) (t:Vt) (n:Nat),n<f→gP t (pthF f n)=t.get n
 | 0,_,_,h=>absurd h (Nat.not_lt_zero _)
 | f+1,t,0,_=>by cases t<;>rfl
 | f+1,t,m+1,h=>by
  show gP t (pthS (pthF f) m)=_
  have hd:m / 2<f:=by omega
  unfold pthS;rw[brec]
  cases t with
  | leaf=>cases hb:Nat.beq (Nat.mod m 2) 0<;>rfl
  | node v l r=>
   cases hb:Nat.beq (Nat.mod m (nat_lit 2)) (nat_lit 0) with
   | true=>
    show gP l (pthF f (m / 2))=_
    rw[gP_eq f l _ hd,←gV_eq,←gV_eq]
    show _=Bool.rec (motive:=fun _=>Value) (gV r (m / 2)) (gV l (m / 2)) (Nat.beq (Nat.mod m (nat_lit 2)) (nat_lit 0))
    rw[hb]
   | false=>
    show gP r (pthF f (m / 2))=_
    rw[gP_eq f r _ hd,←gV_eq,←gV_eq]
    show _=Bool.rec (motive:=fun _=>Value) (gV r (m / 2)) (gV l (m / 2)) (Nat.beq (Nat.mod m (nat_lit 2)) (nat_lit 0))
    rw[hb]
abbrev SP:=Vt→Value→Vt
def sPl (ih:SP)(t:Vt)(b:Value):Vt:=Vt.rec (motive:=fun _=>SP→Value→Vt) (fun ih b=>.node undef (ih .leaf b) .leaf) (fun v l r _ _ ih b=>.node v (ih l b) r) t ih b
def sPr (ih:SP)(t:Vt)(b:Value):Vt:=Vt.rec (motive:=fun _=>SP→Value→Vt) (fun ih b=>.node undef .leaf (ih .leaf b)) (fun v l r _ _ ih b=>.node v l (ih r b)) t ih b
def sP (p:Pth):SP:=Pth.rec (motive:=fun _=>SP) sv0 (fun _ ih=>sPl ih) (fun _ ih=>sPr ih) p
theorem sP_eq:∀(f:Nat) (t:Vt) (n:Nat) (b:Value),n<f→sP (pthF f n) t b=sV f t n b
 | 0,_,_,_,h=>absurd h (Nat.not_lt_zero _)
 | f+1,t,0,b,_=>rfl
 | f+1,t,m+1,b,h=>by
  have hd:m / 2<f:=by omega
  show sP (pthS (pthF f) m) t b=svS t (sV f) m b
  unfold pthS;rw[brec]
  cases hb:Nat.beq (Nat.mod m (nat_lit 2)) (nat_lit 0) with
  | true=>
   cases t with
   | leaf=>
    show Vt.node undef (sP (pthF f (m / 2)) .leaf b) .leaf=kmp (sV f) m b
    unfold kmp;rw[hb,sP_eq f _ _ _ hd]
    rfl
   | node v l r=>
    show Vt.node v (sP (pthF f (m / 2)) l b) r=kmo v l r (sV f) m b
    unfold kmo;rw[hb,sP_eq f _ _ _ hd]
    rfl
  | false=>
   cases t with
   | leaf=>
    show Vt.node undef .leaf (sP (pthF f (m / 2)) .leaf b)=kmp (sV f) m b
    unfold kmp;rw[hb,sP_eq f _ _ _ hd]
    rfl
   | node v l r=>
    show Vt.node v l (sP (pthF f (m / 2)) r b)=kmo v l r (sV f) m b
    unfold kmo;rw[hb,sP_eq f _ _ _ hd]
    rfl
def fGetV (n:Nat)(t:Vt)(i:Nat):Option Value:=Bool.rec (motive:=fun _=>Option Value) none (some (gP t (pth i))) (Nat.ble (Nat.succ i) n)
def fGet (x:VT)(i:Nat):Option Value:=VT.rec (motive:=fun _=>Nat→Option Value) fGetV x i
theorem fGet_eq (x:VT)(i:Nat):fGet x i=x.get i:=by obtain⟨n,t⟩:=x;show fGetV n t i=_;unfold fGetV VT.get pth;rw[gP_eq _ _ _ (Nat.lt_succ_self i),brec]
def fSetV (i:Nat)(v:Value)(n:Nat)(t:Vt):VT:=Bool.rec (motive:=fun _=>VT) ⟨n,t⟩ ⟨n,sP (pth i) t v⟩ (Nat.ble (Nat.succ i) n)
def fSet (x:VT)(i:Nat)(v:Value):VT:=VT.rec (motive:=fun _=>Nat→Value→VT) (fun n t i v=>fSetV i v n t) x i v
theorem fSet_eq (x:VT)(i:Nat)(v:Value):fSet x i v=x.set i v:=by
 obtain⟨n,t⟩:=x
 show fSetV i v n t=_
 simp only[fSetV,pth,VT.set,brec];rw[sP_eq _ _ _ _ (Nat.lt_succ_self i),sV_eq]
def gtS (v:Option Blk)(gl gr:Nat→Option Blk)(n:Nat):Option Blk:=Nat.rec (motive:=fun _=>(Nat→Option Blk)→(Nat→Option Blk)→Option Blk→Option Blk) (fun _ _ v=>v) (fun m _ gl gr _=>Bool.rec (motive:=fun _=>Option Blk) (gr (Nat.div m (nat_lit 2))) (gl (Nat.div m (nat_lit 2))) (Nat.beq (Nat.mod m (nat_lit 2)) (nat_lit 0))) n gl gr v
def gtL (_:Nat):Option Blk:=none
def gT (t:Tr):Nat→Option Blk:=Tr.rec (motive:=fun _=>Nat→Option Blk) gtL (fun v _ _ gl gr=>gtS v gl gr) t
theorem gT_eq:∀(t:Tr) (n:Nat),gT t n=t.get n
 | .leaf,n=>by cases n<;>rfl
 | .node v l r,0=>rfl
 | .node v l r,n+1=>by
  show Bool.rec (motive:=fun _=>Option Blk) (gT r (n / 2)) (gT l (n / 2)) (Nat.beq (n % 2) 0)=_
  rw[brec,gT_eq l,gT_eq r];rfl
abbrev ST:=Tr→Nat→Option Blk→Tr
def stLeaf0 (b:Option Blk):Tr:=.node b .leaf .leaf
def st0 (t:Tr)(b:Option Blk):Tr:=Tr.rec (motive:=fun _=>Option Blk→Tr) stLeaf0 (fun _ l r _ _ b=>.node b l r) t b
def stLeafS (ih:ST)(m:Nat)(b:Option Blk):Tr:=Bool.rec (motive:=fun _=>Tr) (.node none .leaf (ih .leaf (Nat.div m (nat_lit 2)) b)) (.node none (ih .leaf (Nat.div m (nat_lit 2)) b) .leaf) (Nat.beq (Nat.mod m (nat_lit 2)) (nat_lit 0))
def stNodeS (v:Option Blk)(l r:Tr)(ih:ST)(m:Nat)(b:Option Blk):Tr:=Bool.rec (motive:=fun _=>Tr) (.node v l (ih r (Nat.div m (nat_lit 2)) b)) (.node v (ih l (Nat.div m (nat_lit 2)) b) r) (Nat.beq (Nat.mod m (nat_lit 2)) (nat_lit 0))
def stS (t:Tr)(ih:ST)(m:Nat)(b:Option Blk):Tr:=Tr.rec (motive:=fun _=>ST→Nat→Option Blk→Tr) stLeafS (fun v l r _ _ ih m b=>stNodeS v l r ih m b) t ih m b
def stStep (ih:ST)(t:Tr)(n:Nat)(b:Option Blk):Tr:=Nat.rec (motive:=fun _=>ST→Tr→Option Blk→Tr) (fun _ t b=>st0 t b) (fun m _ ih t b=>stS t ih m b) n ih t b
def stZ (t:Tr)(_:Nat)(_:Option Blk):Tr:=t
def sT (f:Nat):ST:=Nat.rec (motive:=fun _=>ST) stZ (fun _ ih=>stStep ih) f
theorem sT_eq:∀(f:Nat) (t:Tr) (n:Nat) (b:Option Blk),sT f t n b=Tr.setF f t n b
 | 0,_,_,_=>rfl
 | f+1,t,0,b=>by cases t<;>rfl
 | f+1,t,n+1,b=>by
  cases t with
  | leaf=>show Bool.rec (motive:=fun _=>Tr) (.node none .leaf (sT f .leaf (n / 2) b)) (.node none (sT f .leaf (n / 2) b) .leaf) (Nat.beq (n % 2) 0)=_;rw[brec,sT_eq f];rfl
  | node v l r=>show Bool.rec (motive:=fun _=>Tr) (.node v l (sT f r (n / 2) b)) (.node v (sT f l (n / 2) b) r) (Nat.beq (n % 2) 0)=_;rw[brec,sT_eq f,sT_eq f];rfl
def fSetT (t:Tr)(n:Nat)(b:Option Blk):Tr:=sT (Nat.succ n) t n b
theorem fSetT_eq (t:Tr)(n:Nat)(b:Option Blk):fSetT t n b=t.set n b:=sT_eq _ _ _ _
def lget {α : Type}(l:List α):Nat→Option α:=List.rec (motive:=fun _=>Nat→Option α) (fun _=>none) (fun a _ ih n=>Nat.rec (motive:=fun _=>α→(Nat→Option α)→Option α) (fun a _=>some a) (fun m _ _ ih=>ih m) n a ih) l
theorem knh {α : Type}:∀(l:List α) (n:Nat),lget l n=l[n]?
 | [],n=>by simp[lget]
 | a::l,0=>rfl
 | a::l,n+1=>by show lget l n=_;rw[knh l];simp
def ldrop {α : Type}(l:List α):Nat→List α:=List.rec (motive:=fun _=>Nat→List α) (fun _=>[]) (fun a r ih n=>Nat.rec (motive:=fun _=>α→List α→(Nat→List α)→List α) (fun a r _=>a::r) (fun m _ _ _ ih=>ih m) n a r ih) l
theorem ldrop_eq {α : Type}:∀(l:List α) (n:Nat),ldrop l n=l.drop n
 | [],n=>by simp[ldrop]
 | a::l,0=>rfl
 | a::l,n+1=>by show ldrop l n=_;rw[ldrop_eq l];rfl
def ltake {α : Type}(l:List α):Nat→List α:=List.rec (motive:=fun _=>Nat→List α) (fun _=>[]) (fun a _ ih n=>Nat.rec (motive:=fun _=>α→(Nat→List α)→List α) (fun _ _=>[]) (fun m _ a ih=>a::ih m) n a ih) l
theorem ltake_eq {α : Type}:∀(l:List α) (n:Nat),ltake l n=l.take n
 | [],n=>by simp[ltake]
 | a::l,0=>rfl
 | a::l,n+1=>by show a::ltake l n=_;rw[ltake_eq l];rfl
def llen {α : Type}(l:List α):Nat:=List.rec (motive:=fun _=>Nat) (nat_lit 0) (fun _ _ ih=>Nat.succ ih) l
theorem kng {α : Type}:∀l:List α,llen l=l.length
 | []=>rfl
 | _::l=>by show Nat.succ (llen l)=_;rw[kng l];rfl
def lapp {α : Type}(l m:List α):List α:=List.rec (motive:=fun _=>List α→List α) (fun m=>m) (fun a _ ih m=>a::ih m) l m
theorem lapp_eq {α : Type}:∀l m:List α,lapp l m=l++m
 | [],_=>rfl
 | a::l,m=>by show a::lapp l m=_;rw[lapp_eq l];rfl
def lall {α : Type}(p:α→Bool)(l:List α):Bool:=List.rec (motive:=fun _=>Bool) true (fun a _ ih=>Bool.rec (motive:=fun _=>Bool) false ih (p a)) l
theorem lall_eq {α : Type}(p:α→Bool):∀l:List α,lall p l=l.all p
 | []=>rfl
 | a::l=>by show Bool.rec (motive:=fun _=>Bool) false (lall p l) (p a)=_;rw[brec,lall_eq p l,List.all_cons];cases p a<;>rfl
end
noncomputable section
def ptrA (v:Value):Option Addr:=(Value.rec (motive_1:=fun _=>Option Addr) (motive_2:=fun _=>Unit) (motive_3:=fun _=>Unit) (fun _=>none) (fun _ _=>none) (fun _ _=>none) (fun _ _ _=>none) (fun _=>none) (fun oa=>(Option.rec (motive:=fun _=>Option Addr) (none) (fun a=>(Option.rec (motive:=fun _=>Option Addr) (some a) (fun _=>none) (Addr.spot a))) (oa))) (fun _ _ _=>none) (fun _=>none) (fun _=>none) (fun _ _ _ _ _=>none) none (fun _ _ _=>none) none (fun _ _=>none) (fun _ _=>none) (fun _ _=>()) () (fun _ _ _ _=>()) v)
theorem ptrA_eq (v:Value):ptrA v=match v with|.pointer (some ⟨k,off,none⟩)=>some ⟨k,off,none⟩|_=>none:=by
 cases v<;>try rfl
 rename_i a
 cases a with
 | none=>rfl
 | some a=>obtain⟨k,off,sp⟩:=a;cases sp<;>rfl
theorem kkl (v:Value):(∃k off,v=.pointer (some ⟨k,off,none⟩)∧ptrA v=some ⟨k,off,none⟩)∨(ptrA v=none∧∀k off,v≠.pointer (some ⟨k,off,none⟩)):=by
 rw[ptrA_eq]
 split
 ·exact .inl ⟨_,_,rfl,rfl⟩
 ·rename_i h;exact .inr ⟨rfl,fun k off e=>h k off e⟩
def one1 (v:Value):Bool:=(Value.rec (motive_1:=fun _=>Bool) (motive_2:=fun _=>Unit) (motive_3:=fun _=>Unit) (fun _=>true) (fun _ _=>true) (fun _ _=>true) (fun _ _ _=>true) (fun _=>true) (fun _=>true) (fun _ _ _=>true) (fun _=>true) (fun _=>true) (fun _ _ _ _ _=>true) true (fun _ _ _=>true) true (fun _ _=>false) (fun _ _=>false) (fun _ _=>()) () (fun _ _ _ _=>()) v)
theorem one1_eq (v:Value):one1 v=v.oneCell':=by cases v<;>rfl
def cellsV (v:Value):List Value:=(Value.rec (motive_1:=fun _=>Value→List Value) (motive_2:=fun _=>Unit) (motive_3:=fun _=>Unit) (fun _=>(fun v=>List.cons v List.nil)) (fun _ _=>(fun v=>List.cons v List.nil)) (fun _ _=>(fun v=>List.cons v List.nil)) (fun _ _ _=>(fun v=>List.cons v List.nil)) (fun _=>(fun v=>List.cons v List.nil)) (fun _=>(fun v=>List.cons v List.nil)) (fun _ _ _=>(fun v=>List.cons v List.nil)) (fun _=>(fun v=>List.cons v List.nil)) (fun _=>(fun v=>List.cons v List.nil)) (fun _ _ _ _ _=>(fun v=>List.cons v List.nil)) (fun v=>List.cons v List.nil) (fun _ _ _=>(fun v=>List.cons v List.nil)) (fun v=>List.cons v List.nil) (fun cs _ _=>Array.toList cs) (fun _ _=>(fun v=>List.cons v List.nil)) (fun _ _=>()) () (fun _ _ _ _=>()) v) v
theorem cellsV_eq (v:Value):cellsV v=kdf v:=by cases v<;>rfl
def kindI (k:IntKind)(n:Int):Option Int:=(IntKind.rec (motive:=fun _=>Int→Option Int) (fun _=>none) (fun _=>none) (fun _=>none) (fun n=>some n) (fun _=>none) (fun _=>none) (fun _=>none) (fun _=>none) k) n
def intV (v:Value):Option Int:=(Value.rec (motive_1:=fun _=>Option Int) (motive_2:=fun _=>Unit) (motive_3:=fun _=>Unit) (fun _=>none) kindI (fun _ _=>none) (fun _ _ _=>none) (fun _=>none) (fun _=>none) (fun _ _ _=>none) (fun _=>none) (fun _=>none) (fun _ _ _ _ _=>none) none (fun _ _ _=>none) none (fun _ _=>none) (fun _ _=>none) (fun _ _=>()) () (fun _ _ _ _=>()) v)
theorem intV_some {v:Value}{n:Int}(h:intV v=some n):v=.int .i64 n:=by
 cases v<;>first|cases h|skip
 rename_i k m
 cases k<;>first|cases h|skip
 rfl
def natI (n:Int):Option Nat:=Int.rec (motive:=fun _=>Option Nat) (fun m=>some m) (fun _=>none) n
def natV (v:Value):Option Nat:=(Value.rec (motive_1:=fun _=>Option Nat) (motive_2:=fun _=>Unit) (motive_3:=fun _=>Unit) (fun _=>none) (fun _ n=>natI n) (fun _ _=>none) (fun _ _ _=>none) (fun _=>none) (fun _=>none) (fun _ _ _=>none) (fun _=>none) (fun _=>none) (fun _ _ _ _ _=>none) none (fun _ _ _=>none) none (fun _ _=>none) (fun _ _=>none) (fun _ _=>()) () (fun _ _ _ _=>()) v)
theorem natV_some {v:Value}{n:Nat}(h:natV v=some n):∃k,v=.int k (.ofNat n):=by
 cases v<;>first|cases h|skip
 rename_i k m
 cases m<;>cases h
 exact⟨k,rfl⟩
def boolV (v:Value):Option Bool:=(Value.rec (motive_1:=fun _=>Option Bool) (motive_2:=fun _=>Unit) (motive_3:=fun _=>Unit) (fun b=>some b) (fun _ _=>none) (fun _ _=>none) (fun _ _ _=>none) (fun _=>none) (fun _=>none) (fun _ _ _=>none) (fun _=>none) (fun _=>none) (fun _ _ _ _ _=>none) none (fun _ _ _=>none) none (fun _ _=>none) (fun _ _=>none) (fun _ _=>()) () (fun _ _ _ _=>()) v)
theorem boolV_eq (v:Value):boolV v=match v with|.bool b=>some b|_=>none:=by cases v<;>rfl
def slcV (v:Value):Option (Addr × Nat):=(Value.rec (motive_1:=fun _=>Option (Addr × Nat)) (motive_2:=fun _=>Unit) (motive_3:=fun _=>Unit) (fun _=>none) (fun _ _=>none) (fun _ _=>none) (fun _ _ _=>none) (fun _=>none) (fun _=>none) (fun oa n _=>(Option.rec (motive:=fun _=>Option (Addr × Nat)) (none) (fun a=>some (a,n)) (oa))) (fun _=>none) (fun _=>none) (fun _ _ _ _ _=>none) none (fun _ _ _=>none) none (fun _ _=>none) (fun _ _=>none) (fun _ _=>()) () (fun _ _ _ _=>()) v)
theorem slcV_some {v:Value}{p:Addr × Nat}(h:slcV v=some p):∃c,v=.slice (some p.1) p.2 c:=by
 cases v<;>first|cases h|skip
 rename_i a n c
 cases a with
 | none=>cases h
 | some a=>cases h;exact⟨c,rfl⟩
def lenV (v:Value):Option Nat:=(Value.rec (motive_1:=fun _=>Option Nat) (motive_2:=fun _=>Unit) (motive_3:=fun _=>Unit) (fun _=>none) (fun _ _=>none) (fun _ _=>none) (fun _ _ _=>none) (fun _=>none) (fun _=>none) (fun _ n _=>some n) (fun _=>none) (fun _=>none) (fun _ _ _ _ _=>none) none (fun _ _ _=>none) none (fun _ _=>none) (fun _ _=>none) (fun _ _=>()) () (fun _ _ _ _=>()) v)
theorem lenV_some {v:Value}{n:Nat}(h:lenV v=some n):∃a c,v=.slice a n c:=by
 cases v<;>cases h
 exact⟨_,_,rfl⟩
def aTmp (t:Tmp)(tm:VT):Option Value:=fGet tm t
def aConst (v:Value)(_:VT):Option Value:=(Bool.rec (motive:=fun _=>Option Value) (none) (some v) (kee v))
def aFunc (f:FuncId)(_:VT):Option Value:=some (.func (.func f) #[] #[])
def fOpd (tm:VT)(o:Operand):Option Value:=Operand.rec (motive:=fun _=>VT→Option Value) aTmp aConst (fun _ _=>none) aFunc o tm
theorem kcu (tm:VT)(o:Operand):fOpd tm o=opd tm o:=by
 cases o with
 | tmp t=>exact fGet_eq tm t
 | const v=>show Bool.rec (motive:=fun _=>Option Value) none (some v) (kee v)=_;rw[brec];rfl
 | global g=>rfl
 | func f=>rfl
def fOpds (tm:VT)(l:List Operand):Option (List Value):=List.rec (motive:=fun _=>VT→Option (List Value)) (fun _=>some []) (fun o _ ih tm=>(Option.rec (motive:=fun _=>Option (List Value)) (none) (fun v=>(Option.rec (motive:=fun _=>Option (List Value)) (none) (fun vs=>some (v::vs)) (ih tm))) (fOpd tm o))) l tm
theorem fOpds_eq (tm:VT):∀l:List Operand,fOpds tm l=opds tm l
 | []=>rfl
 | o::l=>by
  show Option.rec (motive:=fun _=>Option (List Value)) none (fun v=>Option.rec (motive:=fun _=>Option (List Value)) none (fun vs=>some (v::vs)) (fOpds tm l)) (fOpd tm o)=_
  rw[fOpds_eq tm l,kcu];simp only[opds]
  cases opd tm o with
  | none=>rfl
  | some v=>cases opds tm l<;>rfl
def fNew (h:Hp)(b:Blk):Hp:=Hp.rec (motive:=fun _=>Blk→Hp) (fun t n w b=>⟨fSetT t n (some b),Nat.succ n,w⟩) h b
theorem fNew_eq (h:Hp)(b:Blk):fNew h b=newB h b:=by obtain⟨t,n,w⟩:=h;show (⟨fSetT t n (some b),n+1,w⟩:Hp)=_;unfold newB;rw[fSetT_eq]
def fLd (h:Hp)(k off:Nat):R:=(Option.rec (motive:=fun _=>R) (none) (fun b=>(Blk.rec (motive:=fun _=>Nat→Hp→R) (fun c _ _ off h=>(Option.rec (motive:=fun _=>R) (none) (fun v=>some (v,h)) (lget c off))) (fun _ _=>(fun _ _=>none)) (fun _ _ _ _ _ _ _ _=>(fun _ _=>none)) (fun _=>(fun _ _=>none)) (b)) off h) (gT (Hp.tr h) k))
theorem fLd_eq (h:Hp)(k off:Nat):fLd h k off=match ld h k off with|some v=>some (v,h)|none=>none:=by
 unfold fLd ld;rw[gT_eq]
 cases h.tr.get k with
 | none=>rfl
 | some b=>cases b<;>first|rfl|skip
           rename_i c e o
           show Option.rec (motive:=fun _=>R) none (fun v=>some (v,h)) (lget c off)=_
           rw[knh]
           cases hq:c[off]?<;>simp only[hq]
def fRow (h:Hp)(n:Nat)(r:List Value):R:=(Bool.rec (motive:=fun _=>R) (none) (some (.agg r.toArray,h)) (Nat.beq (llen r) n))
def fLdN (h:Hp)(k off n:Nat):R:=(Option.rec (motive:=fun _=>R) (none) (fun b=>(Blk.rec (motive:=fun _=>Nat→Nat→Hp→R) (fun c _ _ off n h=>fRow h n (ltake (ldrop c off) n)) (fun _ _=>(fun _ _ _=>none)) (fun _ _ _ _ _ _ _ _=>(fun _ _ _=>none)) (fun _=>(fun _ _ _=>none)) (b)) off n h) (gT (Hp.tr h) k))
theorem fLdN_eq (h:Hp)(k off n:Nat):fLdN h k off n=match ldN h k off n with|some vs=>some (.agg vs.toArray,h)|none=>none:=by
 unfold fLdN ldN;rw[gT_eq]
 cases h.tr.get k with
 | none=>rfl
 | some b=>cases b<;>first|rfl|skip
           rename_i c e o
           show fRow h n (ltake (ldrop c off) n)=_
           unfold fRow;rw[ltake_eq,ldrop_eq,kng,brec]
           cases hq:Nat.beq (List.take n (List.drop off c)).length n<;>simp only[hq,cond_true,cond_false]
def tyS (T:Tab)(t:TypeId):Option (Bool × Nat):=match T.ty t with
 | some i=>some (i.agg,i.size)
 | none=>none
def fLoadA (T:Tab)(h:Hp)(t:TypeId)(a:Addr):R:=(Option.rec (motive:=fun _=>R) (none) (fun p=>(Bool.rec (motive:=fun _=>R) (fLd h (Addr.block a) (Addr.off a)) (fLdN h (Addr.block a) (Addr.off a) (Prod.snd p)) (Prod.fst p))) (tyS T t))
def fLoad (T:Tab)(h:Hp)(t:TypeId)(v:Value):R:=(Option.rec (motive:=fun _=>R) (none) (fun a=>fLoadA T h t a) (ptrA v))
theorem fLoad_eq (T:Tab)(h:Hp)(t:TypeId)(v:Value):fLoad T h t v=kht T h t v:=by
 unfold fLoad
 rcases kkl v with ⟨k,off,rfl,e⟩|⟨e,hn⟩
 ·rw[e]
  show fLoadA T h t ⟨k,off,none⟩=_
  unfold fLoadA tyS kht
  cases T.ty t with
  | none=>rfl
  | some i=>simp only[brec,fLdN_eq,fLd_eq];cases i.agg<;>rfl
 ·rw[e]
  unfold kht
  split
  ·exact absurd rfl (hn _ _)
  ·rfl
def fSpl (c:List Value):Nat→List Value→Option (List Value):=List.rec (motive:=fun _=>Nat→List Value→Option (List Value)) (fun _ vs=>List.rec (motive:=fun _=>Option (List Value)) (some []) (fun _ _ _=>none) vs) (fun x c ih n vs=>List.rec (motive:=fun _=>Value→List Value→(Nat→List Value→Option (List Value))→Nat→Option (List Value)) (fun x c _ _=>some (x::c)) (fun v vs _ x _ ih n=>Nat.rec (motive:=fun _=>Value→Value→List Value→(Nat→List Value→Option (List Value))→Option (List Value)) (fun _ v vs ih=>(Option.rec (motive:=fun _=>Option (List Value)) (none) (fun r=>some (v::r)) (ih (nat_lit 0) vs))) (fun m _ x v vs ih=>(Option.rec (motive:=fun _=>Option (List Value)) (none) (fun r=>some (x::r)) (ih m (v::vs)))) n x v vs ih) vs x c ih n) c
theorem fSpl_eq:∀(c:List Value) (n:Nat) (vs:List Value),fSpl c n vs=keo c n vs
 | [],n,[]=>by cases n<;>rfl
 | [],n,_::_=>by cases n<;>rfl
 | x::c,n,[]=>by cases n<;>rfl
 | x::c,0,v::vs=>by
  show Option.rec (motive:=fun _=>Option (List Value)) none (fun r=>some (v::r)) (fSpl c 0 vs)=_
  rw[fSpl_eq c];simp only[keo];cases keo c 0 vs<;>rfl
 | x::c,n+1,v::vs=>by
  show Option.rec (motive:=fun _=>Option (List Value)) none (fun r=>some (x::r)) (fSpl c n (v::vs))=_
  rw[fSpl_eq c];simp only[keo];cases keo c n (v::vs)<;>rfl
def fStC0 (t:Tr)(n w:Nat)(k off:Nat)(vs c:List Value)(e:TypeId)(o:Bool):Option Hp:=(Bool.rec (motive:=fun _=>Option Hp) ((Bool.rec (motive:=fun _=>Option Hp) (none) (some ⟨t,n,w⟩) (kjd (ltake (ldrop c off) (llen vs)) vs))) ((Bool.rec (motive:=fun _=>Option Hp) (none) ((Option.rec (motive:=fun _=>Option Hp) (none) (fun c'=>some ⟨fSetT t k (some (.cells c' e o)),n,w⟩) (fSpl c off vs))) (lall one1 vs))) (Nat.ble w k))
def fStC (h:Hp)(k off:Nat)(vs c:List Value)(e:TypeId)(o:Bool):Option Hp:=Hp.rec (motive:=fun _=>Nat→Nat→List Value→List Value→TypeId→Bool→Option Hp) fStC0 h k off vs c e o
def fSt (h:Hp)(k off:Nat)(vs:List Value):Option Hp:=(Option.rec (motive:=fun _=>Option Hp) (none) (fun b=>(Blk.rec (motive:=fun _=>Hp→Nat→Nat→List Value→Option Hp) (fun c e o h k off vs=>fStC h k off vs c e o) (fun _ _=>(fun _ _ _ _=>none)) (fun _ _ _ _ _ _ _ _=>(fun _ _ _ _=>none)) (fun _=>(fun _ _ _ _=>none)) (b)) h k off vs) (gT (Hp.tr h) k))
theorem fSt_eq (h:Hp)(k off:Nat)(vs:List Value):fSt h k off vs=st h k off vs:=by
 unfold fSt st;rw[gT_eq]
 cases h.tr.get k with
 | none=>rfl
 | some b=>cases b<;>first|rfl|skip
           rename_i c e o
           obtain⟨t,n,w⟩:=h
           show fStC0 t n w k off vs c e o=_
           unfold fStC0
           rw[lall_eq,ltake_eq,ldrop_eq,kng,brec,brec,brec,fSpl_eq,show one1=(·.oneCell') from funext one1_eq]
           simp only[fSetT_eq]
           cases keo c off vs<;>rfl
def fStore2 (h:Hp)(a:Addr)(x:List Value)(n:Nat):R:=(Bool.rec (motive:=fun _=>R) (none) ((Option.rec (motive:=fun _=>R) (none) (fun h'=>some (undef,h')) (fSt h (Addr.block a) (Addr.off a) x))) (Nat.beq (llen x) n))
def fStore (T:Tab)(h:Hp)(t:TypeId)(x v:Value):R:=(Option.rec (motive:=fun _=>R) (none) (fun a=>(Option.rec (motive:=fun _=>R) (none) (fun p=>fStore2 h a (cellsV x) (Prod.snd p)) (tyS T t))) (ptrA v))
theorem fStore_eq (T:Tab)(h:Hp)(t:TypeId)(x v:Value):fStore T h t x v=knx T h t x v:=by
 unfold fStore
 rcases kkl v with ⟨k,off,rfl,e⟩|⟨e,hn⟩
 ·rw[e]
  show Option.rec (motive:=fun _=>R) none (fun p=>fStore2 h ⟨k,off,none⟩ (cellsV x) p.2) (tyS T t)=_
  unfold tyS knx
  cases T.ty t with
  | none=>rfl
  | some i=>simp only[fStore2,brec,fSt_eq,kng,cellsV_eq];cases st h k off (kdf x)<;>rfl
 ·rw[e]
  unfold knx
  split
  ·exact absurd rfl (hn _ _)
  ·rfl
def tyZ (T:Tab)(t:TypeId):Option (List Value):=match T.ty t with
 | some i=>some i.zero
 | none=>none
def fAlloc (T:Tab)(h:Hp)(t:TypeId):R:=(Option.rec (motive:=fun _=>R) (none) (fun z=>some (.pointer (some ⟨Hp.next h,nat_lit 0,none⟩),fNew h (.cells z t false))) (tyZ T t))
theorem fAlloc_eq (T:Tab)(h:Hp)(t:TypeId):fAlloc T h t=eAlloc T h t:=by
 unfold fAlloc tyZ eAlloc
 cases T.ty t with
 | none=>rfl
 | some i=>simp only[fNew_eq]
def fBox (h:Hp)(t:TypeId)(v:Value):R:=some (.pointer (some ⟨Hp.next h,nat_lit 0,none⟩),fNew h (.cells (cellsV v) t false))
theorem fBox_eq (h:Hp)(t:TypeId)(v:Value):fBox h t v=eBox h t v:=by
 unfold fBox eBox;rw[fNew_eq,cellsV_eq]
def fOff (T:Tab)(s:TypeId)(f:Nat):Option Nat:=match T.ty s with
 | some ⟨.struct fs,_,_,_,_⟩=>match fs.toList[f]? with
  | some fd=>match T.ty fd.type with
   | some i=>bif Nat.beq i.size 0 then none else some fd.offset
   | none=>none
  | none=>none
 | _=>none
def fFA (T:Tab)(s:TypeId)(f:Nat)(v:Value):Option Value:=(Option.rec (motive:=fun _=>Option Value) (none) (fun a=>(Option.rec (motive:=fun _=>Option Value) (none) (fun d=>some (.pointer (some ⟨Addr.block a,Nat.add (Addr.off a) d,none⟩))) (fOff T s f))) (ptrA v))
theorem fFA_eq (T:Tab)(s:TypeId)(f:Nat)(v:Value):fFA T s f v=kdn T s f v:=by
 unfold fFA
 rcases kkl v with ⟨k,off,rfl,e⟩|⟨e,hn⟩
 ·rw[e]
  show Option.rec (motive:=fun _=>Option Value) none (fun d=>some (.pointer (some ⟨k,off+d,none⟩))) (fOff T s f)=_
  unfold fOff kdn
  split
  ·rename_i fs z1 z2 z3 z4 ht
   simp only[ht]
   cases fs.toList[f]? with
   | none=>rfl
   | some fd=>
    simp only
    cases T.ty fd.type with
    | none=>rfl
    | some i=>simp only;cases Nat.beq i.size 0<;>rfl
  ·rename_i hno
   simp only
 ·rw[e]
  unfold kdn
  split
  ·exact absurd rfl (hn _ _)
  ·rfl
def elT (T:Tab)(t:TypeId):Option Nat:=match T.ty t with
 | some ⟨.slice e,_,_,_,_⟩=>match T.ty e with
  | some i=>some i.size
  | none=>none
 | _=>none
def fIx (T:Tab)(t:TypeId)(x i:Value):Option Value:=(Option.rec (motive:=fun _=>Option Value) (kce T t x i) (fun sz=>(Option.rec (motive:=fun _=>Option Value) (kce T t x i) (fun p=>(Option.rec (motive:=fun _=>Option Value) (kce T t x i) (fun j=>(Bool.rec (motive:=fun _=>Option Value) (none) (some (.pointer (some ⟨Addr.block (Prod.fst p),Nat.add (Addr.off (Prod.fst p)) (Nat.mul j sz),none⟩))) (Nat.ble (Nat.succ j) (Prod.snd p)))) (natV i))) (slcV x))) (elT T t))
theorem fIx_eq (T:Tab)(t:TypeId)(x i:Value):fIx T t x i=kce T t x i:=by
 unfold fIx
 cases hs:elT T t with
 | none=>rfl
 | some sz=>
  simp only
  cases hp:slcV x with
  | none=>rfl
  | some p=>
   simp only
   cases hj:natV i with
   | none=>rfl
   | some j=>
    simp only
    obtain⟨c,rfl⟩:=slcV_some hp;obtain⟨k,rfl⟩:=natV_some hj;unfold elT at hs
    split at hs
    case h_2=>cases hs
    rename_i e z1 z2 z3 z4 ht
    split at hs
    case h_2=>cases hs
    rename_i ti hti
    cases hs;obtain⟨⟨b,o,sp⟩,n⟩:=p;simp only[kce,ht,hti,brec,inB]
    rfl
def slT (T:Tab)(t:TypeId):Option Unit:=match T.ty t with
 | some ⟨.slice _,_,_,_,_⟩=>some ()
 | _=>none
def fLen (T:Tab)(t:TypeId)(x:Value):Option Value:=(Option.rec (motive:=fun _=>Option Value) (eLen T t x) (fun _=>(Option.rec (motive:=fun _=>Option Value) (eLen T t x) (fun n=>some (.int .i64 (.ofNat n))) (lenV x))) (slT T t))
theorem fLen_eq (T:Tab)(t:TypeId)(x:Value):fLen T t x=eLen T t x:=by
 unfold fLen
 cases hs:slT T t with
 | none=>rfl
 | some u=>
  simp only
  cases hn:lenV x with
  | none=>rfl
  | some n=>
   obtain⟨a,c,rfl⟩:=lenV_some hn;unfold slT at hs
   split at hs
   case h_2=>cases hs
   rename_i e z1 z2 z3 z4 ht
   simp only[eLen,ht]
   rfl
def isub1 (m n:Nat):Int:=(Bool.rec (motive:=fun _=>Int) (.negSucc (Nat.sub (Nat.sub n m) (nat_lit 1))) (.ofNat (Nat.sub m n)) (Nat.ble n m))
theorem isub1_eq (m n:Nat):isub1 m n=(m:Int)-n:=by
 unfold isub1;rw[brec]
 cases h:Nat.ble n m with
 | true=>simp only[cond_true];rw[Nat.ble_eq]at h;show ((m-n:Nat):Int)=_;omega
 | false=>
  simp only[cond_false]
  have:¬ n≤m:=fun hh=>by rw[←Nat.ble_eq,h]at hh;cases hh
  show Int.negSucc (n-m-1)=_
  omega
def iadd (a b:Int):Int:=Int.rec (motive:=fun _=>Int→Int) (fun m b=>Int.rec (motive:=fun _=>Nat→Int) (fun n m=>.ofNat (Nat.add m n)) (fun n m=>isub1 m (Nat.succ n)) b m) (fun m b=>Int.rec (motive:=fun _=>Nat→Int) (fun n m=>isub1 n (Nat.succ m)) (fun n m=>.negSucc (Nat.succ (Nat.add m n))) b m) a b
theorem iadd_eq (a b:Int):iadd a b=a+b:=by
 cases a with
 | ofNat m=>cases b with
  | ofNat n=>show Int.ofNat (m+n)=_;simp
  | negSucc n=>show isub1 m (n+1)=_;rw[isub1_eq];simp only[Int.ofNat_eq_natCast];omega
 | negSucc m=>cases b with
  | ofNat n=>show isub1 n (m+1)=_;rw[isub1_eq];simp only[Int.ofNat_eq_natCast];omega
  | negSucc n=>show Int.negSucc (m+n+1)=_;omega
def ineg (a:Int):Int:=Int.rec (motive:=fun _=>Int) (fun m=>Nat.rec (motive:=fun _=>Int) (.ofNat (nat_lit 0)) (fun k _=>.negSucc k) m) (fun m=>.ofNat (Nat.succ m)) a
theorem ineg_eq (a:Int):ineg a=-a:=by
 cases a with
 | ofNat m=>cases m with
  | zero=>rfl
  | succ m=>show Int.negSucc m=_;simp only[Int.ofNat_eq_natCast];omega
 | negSucc m=>show Int.ofNat (m+1)=_;simp only[Int.ofNat_eq_natCast];omega
def imul (a b:Int):Int:=Int.rec (motive:=fun _=>Int→Int) (fun m b=>Int.rec (motive:=fun _=>Nat→Int) (fun n m=>.ofNat (Nat.mul m n)) (fun n m=>ineg (.ofNat (Nat.mul m (Nat.succ n)))) b m) (fun m b=>Int.rec (motive:=fun _=>Nat→Int) (fun n m=>ineg (.ofNat (Nat.mul (Nat.succ m) n))) (fun n m=>.ofNat (Nat.mul (Nat.succ m) (Nat.succ n))) b m) a b
theorem imul_eq (a b:Int):imul a b=a*b:=by
 cases a with
 | ofNat m=>cases b with
  | ofNat n=>show Int.ofNat (m*n)=_;simp
  | negSucc n=>show ineg (.ofNat (m*(n+1)))=_;rw[ineg_eq,Int.negSucc_eq];simp[Int.mul_neg]
 | negSucc m=>cases b with
  | ofNat n=>show ineg (.ofNat ((m+1)*n))=_;rw[ineg_eq,Int.negSucc_eq];simp[Int.neg_mul]
  | negSucc n=>show Int.ofNat ((m+1)*(n+1))=_;rw[Int.negSucc_eq,Int.negSucc_eq];simp[Int.neg_mul_neg]
def gw (n:Int):Int:=Int.rec (motive:=fun _=>Int) (fun m=>(Bool.rec (motive:=fun _=>Int) (IntKind.i64.wrap (.ofNat m)) (.ofNat m) (Nat.ble (Nat.succ m) (nat_lit 9223372036854775808)))) (fun m=>(Bool.rec (motive:=fun _=>Int) (IntKind.i64.wrap (.negSucc m)) (.negSucc m) (Nat.ble (Nat.succ m) (nat_lit 9223372036854775808)))) n
theorem gw_eq (n:Int):gw n=IntKind.i64.wrap n:=by
 rw[←fw_eq]
 cases n with
 | ofNat m=>show Bool.rec (motive:=fun _=>Int) (IntKind.i64.wrap (.ofNat m)) (.ofNat m) (Nat.ble (m+1) 9223372036854775808)=_;rw[brec];rfl
 | negSucc m=>show Bool.rec (motive:=fun _=>Int) (IntKind.i64.wrap (.negSucc m)) (.negSucc m) (Nat.ble (m+1) 9223372036854775808)=_;rw[brec];rfl
def gl (a b:Int):Bool:=Int.rec (motive:=fun _=>Int→Bool) (fun m b=>Int.rec (motive:=fun _=>Nat→Bool) (fun n m=>Nat.ble (Nat.succ m) n) (fun _ _=>false) b m) (fun m b=>Int.rec (motive:=fun _=>Nat→Bool) (fun _ _=>true) (fun n m=>Nat.ble (Nat.succ n) m) b m) a b
theorem gl_eq (a b:Int):gl a b=ilt a b:=by cases a<;>cases b<;>rfl
def ge (a b:Int):Bool:=Int.rec (motive:=fun _=>Int→Bool) (fun m b=>Int.rec (motive:=fun _=>Nat→Bool) (fun n m=>Nat.beq m n) (fun _ _=>false) b m) (fun m b=>Int.rec (motive:=fun _=>Nat→Bool) (fun _ _=>false) (fun n m=>Nat.beq m n) b m) a b
theorem ge_eq (a b:Int):ge a b=ieq a b:=by cases a<;>cases b<;>rfl
def gInt (op:BinOp)(a b:Int):Option Value:=(BinOp.rec (motive:=fun _=>Int→Int→Option Value) (fun a b=>some (.int .i64 (gw (iadd a b)))) (fun a b=>some (.int .i64 (gw (iadd a (ineg b))))) (fun a b=>some (.int .i64 (gw (imul a b)))) (fun _ _=>none) (fun _ _=>none) (fun _ _=>none) (fun _ _=>none) (fun _ _=>none) (fun _ _=>none) (fun _ _=>none) (fun _ _=>none) (fun a b=>some (.bool (ge a b))) (fun a b=>some (.bool (Bool.not (ge a b)))) (fun a b=>some (.bool (gl a b))) (fun a b=>some (.bool (Bool.not (gl b a)))) (fun a b=>some (.bool (gl b a))) (fun a b=>some (.bool (Bool.not (gl a b)))) op) a b
theorem gInt_eq (op:BinOp)(a b:Int):gInt op a b=fInt op a b:=by
 cases op<;>first|rfl|skip
 case add=>show some (Value.int .i64 (gw (iadd a b)))=_;rw[gw_eq,iadd_eq,←fw_eq];rfl
 case sub=>show some (Value.int .i64 (gw (iadd a (ineg b))))=_;rw[gw_eq,iadd_eq,ineg_eq,←fw_eq];rfl
 case mul=>show some (Value.int .i64 (gw (imul a b)))=_;rw[gw_eq,imul_eq,←fw_eq];rfl
 case eql=>show some (Value.bool (ge a b))=_;rw[ge_eq];rfl
 case neq=>show some (Value.bool (!ge a b))=_;rw[ge_eq];rfl
 case lss=>show some (Value.bool (gl a b))=_;rw[gl_eq];rfl
 case leq=>show some (Value.bool (!gl b a))=_;rw[gl_eq];rfl
 case gtr=>show some (Value.bool (gl b a))=_;rw[gl_eq];rfl
 case geq=>show some (Value.bool (!gl a b))=_;rw[gl_eq];rfl
def fBin (T:Tab)(P:Program)(op:BinOp)(t:TypeId)(x y:Operand)(a b:Value):Option Value:=(Option.rec (motive:=fun _=>Option Value) (eqV T P op t x y a b) (fun i=>(Option.rec (motive:=fun _=>Option Value) (eqV T P op t x y a b) (fun j=>(Option.rec (motive:=fun _=>Option Value) (eqV T P op t x y a b) (fun v=>some v) (gInt op i j))) (intV b))) (intV a))
theorem fBin_eq (T:Tab)(P:Program)(op:BinOp)(t:TypeId)(x y:Operand)(a b:Value):fBin T P op t x y a b=eqV T P op t x y a b:=by
 unfold fBin
 cases ha:intV a with
 | none=>rfl
 | some i=>
  simp only
  cases hb:intV b with
  | none=>rfl
  | some j=>
   simp only
   rw[gInt_eq]
   cases hf:fInt op i j with
   | none=>rfl
   | some v=>
    have:=intV_some ha;have:=intV_some hb
    subst a b
    exact(fInt_eq T P t x y hf).symm
def fAsVal (r:Option Res):R:=Option.rec (motive:=fun _=>R) none (fun r=>Res.rec (motive:=fun _=>R) (fun v h=>some (v,h)) (fun _ _ _ _=>none) r) r
theorem fAsVal_eq (r:Option Res):fAsVal r=asVal r:=by
 cases r with
 | none=>rfl
 | some r=>cases r<;>rfl
def fFn (f:Fn)(first cap:Array Value)(self:Req→Option Res)(h:Hp)(args:List Value):R:=
 Fn.rec (motive:=fun _=>Array Value→Array Value→(Req→Option Res)→Hp→List Value→R) (fun g first cap self h args=>fAsVal (self (.call g (lapp (lapp (Array.toList first) args) (Array.toList cap)) h))) (fun _ _ _ _ _ _=>none) (fun _ _ _ _ _ _ _=>none) (fun _ _ _ _ _ _ _ _ _=>none)
  (fun l first cap self h args=>bif first.toList.isEmpty&&cap.toList.isEmpty then fAsVal (self (.round l args h)) else none) f first cap self h args
def fCall (self:Req→Option Res)(h:Hp)(fv:Value)(args:List Value):R:=(Value.rec (motive_1:=fun _=>(Req→Option Res)→Hp→List Value→R) (motive_2:=fun _=>Unit) (motive_3:=fun _=>Unit) (fun _=>(fun _ _ _=>none)) (fun _ _=>(fun _ _ _=>none)) (fun _ _=>(fun _ _ _=>none)) (fun _ _ _=>(fun _ _ _=>none)) (fun _=>(fun _ _ _=>none)) (fun _=>(fun _ _ _=>none)) (fun _ _ _=>(fun _ _ _=>none)) (fun _=>(fun _ _ _=>none)) (fun _=>(fun _ _ _=>none)) (fun f a b _ _=>fFn f a b) (fun _ _ _=>none) (fun _ _ _=>(fun _ _ _=>none)) (fun _ _ _=>none) (fun _ _=>(fun _ _ _=>none)) (fun _ _=>(fun _ _ _=>none)) (fun _ _=>()) () (fun _ _ _ _=>()) fv) self h args
theorem fCall_eq (self:Req→Option Res)(h:Hp)(fv:Value)(args:List Value):fCall self h fv args=eCall self h fv args:=by
 cases fv<;>first|rfl|skip
 rename_i f a b
 cases f<;>first|rfl|skip
 ·show fAsVal _=asVal _;rw[fAsVal_eq,lapp_eq,lapp_eq]
 ·show (bif _ then fAsVal _ else none)=(bif _ then asVal _ else none);rw[fAsVal_eq]
abbrev KO:=Tab→Program→(Req→Option Res)→VT→Hp→Oper→R
def okF (h:Hp)(o:Option Value):R:=(Option.rec (motive:=fun _=>R) (none) (fun v=>some (v,h)) (o))
theorem okF_eq (h:Hp)(o:Option Value):okF h o=okV h o:=by cases o<;>rfl
def fArgs (T:Tab)(self:Req→Option Res)(h:Hp)(tm:VT)(c:Call)(o:Option (List Value)):R:=(Option.rec (motive:=fun _=>R) (none) (fun args=>Callee.rec (motive:=fun _=>Tab→(Req→Option Res)→Hp→VT→Call→List Value→R) (fun f _ self h tm _ args=>(Option.rec (motive:=fun _=>R) (none) (fun fv=>fCall self h fv args) (fOpd tm f))) (fun _ _ _ _ _ _ _ _=>none) (fun b T _ h _ c args=>kjy T h b c.argTypes.toList args) (Call.callee c) T self h tm c args) (o))
theorem fArgs_eq (T:Tab)(self:Req→Option Res)(h:Hp)(tm:VT)(c:Call)(o:Option (List Value)):fArgs T self h tm c o=kArgs T self h tm c o:=by
 obtain⟨cal,args,at_⟩:=c
 cases o with
 | none=>rfl
 | some vs=>
  cases cal with
  | value f=>
   show Option.rec (motive:=fun _=>R) none (fun fv=>fCall self h fv vs) (fOpd tm f)=_
   rw[kcu];simp only[kArgs]
   cases opd tm f<;>first|rfl|exact fCall_eq _ _ _ _
  | invoke=>rfl
  | builtin=>rfl
def fLen1 (T:Tab)(h:Hp)(tm:VT)(ts:List TypeId)(as':List Operand):Option R:=List.rec (motive:=fun _=>Tab→Hp→VT→List Operand→Option R) (fun _ _ _ _=>none) (fun t _ _ T h tm as'=>List.rec (motive:=fun _=>Tab→Hp→VT→TypeId→Option R) (fun _ _ _ _=>none) (fun x r _ T h tm t=>List.rec (motive:=fun _=>Tab→Hp→VT→TypeId→Operand→Option R) (fun T h tm t x=>some (Option.rec (motive:=fun _=>R) (none) (fun v=>okF h (fLen T t v)) (fOpd tm x))) (fun _ _ _ _ _ _ _ _=>none) r T h tm t x) as' T h tm t) ts T h tm as'
theorem fLen1_eq {P:Program}{T:Tab}{h:Hp}{tm:VT}{ts:List TypeId}{l:List Operand}{r:R}(hr:fLen1 T h tm ts l=some r)(cal:Call)(hc:cal.callee=.builtin .len)(ha:cal.args.toList=l)(ht:cal.argTypes.toList=ts):okV h (kgp T P tm (.call cal))=r:=by
 cases ts with
 | nil=>cases hr
 | cons t ts=>cases l with
  | nil=>cases hr
  | cons x l=>cases l with
   | cons y l=>cases hr
   | nil=>
    simp only[kgp,hc,ha,ht]
    have:(Option.rec (motive:=fun _=>R) none (fun v=>okF h (fLen T t v)) (fOpd tm x))=r:=Option.some.inj hr
    rw[←this,kcu];simp only[opds]
    cases opd tm x with
    | none=>rfl
    | some v=>simp only[okF_eq,fLen_eq];rfl
def fCallB (b:Builtin)(T:Tab)(P:Program)(self:Req→Option Res)(tm:VT)(h:Hp)(o:Oper)(c:Call):R:=(Builtin.rec (motive:=fun _=>Tab→Program→(Req→Option Res)→VT→Hp→Oper→Call→R) (fun T P self tm h o c=>kct T P self h tm o c) (fun T P self tm h o c=>kct T P self h tm o c) (fun T P self tm h o c=>kct T P self h tm o c) (fun T P self tm h o c=>kct T P self h tm o c) (fun T P self tm h o c=>kct T P self h tm o c) (fun T P self tm h o c=>kct T P self h tm o c) (fun T P self tm h o c=>kct T P self h tm o c) (fun T P self tm h o c=>kct T P self h tm o c) (fun T P self tm h o c=>(Option.rec (motive:=fun _=>R) (kct T P self h tm o c) (fun r=>r) (fLen1 T h tm (Array.toList (Call.argTypes c)) (Array.toList (Call.args c))))) (fun T P self tm h o c=>kct T P self h tm o c) (fun T P self tm h o c=>kct T P self h tm o c) (fun T P self tm h o c=>kct T P self h tm o c) (fun T P self tm h o c=>kct T P self h tm o c) (fun T P self tm h o c=>kct T P self h tm o c) (fun T P self tm h o c=>kct T P self h tm o c) (fun T P self tm h o c=>kct T P self h tm o c) (fun T P self tm h o c=>kct T P self h tm o c) (fun T P self tm h o c=>kct T P self h tm o c) (fun T P self tm h o c=>kct T P self h tm o c) (fun T P self tm h o c=>kct T P self h tm o c) (fun T P self tm h o c=>kct T P self h tm o c) (fun T P self tm h o c=>kct T P self h tm o c) (fun T P self tm h o c=>kct T P self h tm o c) (fun T P self tm h o c=>kct T P self h tm o c) (fun T P self tm h o c=>kct T P self h tm o c) (fun T P self tm h o c=>kct T P self h tm o c) b) T P self tm h o c
def fCallO (c:Call)(T:Tab)(P:Program)(self:Req→Option Res)(tm:VT)(h:Hp)(o:Oper):R:=Callee.rec (motive:=fun _=>Tab→Program→(Req→Option Res)→VT→Hp→Oper→Call→R) (fun _ T _ self tm h _ c=>fArgs T self h tm c (fOpds tm (Array.toList (Call.args c)))) (fun _ _ T P self tm h o c=>kct T P self h tm o c) (fun b T P self tm h o c=>fCallB b T P self tm h o c) (Call.callee c) T P self tm h o c
theorem fCallO_eq (c:Call)(T:Tab)(P:Program)(self:Req→Option Res)(tm:VT)(h:Hp)(o:Oper)(ho:o.op=.call c):fCallO c T P self tm h o=kct T P self h tm o c:=by
 obtain⟨cal,args,at_⟩:=c
 cases cal with
 | value f=>
  show fArgs T self h tm ⟨.value f,args,at_⟩ (fOpds tm args.toList)=_
  rw[fArgs_eq,fOpds_eq];rfl
 | invoke=>rfl
 | builtin b=>
  cases b<;>first|rfl|skip
  show Option.rec (motive:=fun _=>R) (kct T P self h tm o ⟨.builtin .len,args,at_⟩) (fun r=>r) (fLen1 T h tm at_.toList args.toList)=_
  cases hq:fLen1 T h tm at_.toList args.toList with
  | none=>rfl
  | some r=>
   show r=okV h (kgp T P tm o.op)
   rw[ho]
   exact(fLen1_eq hq _ rfl rfl rfl).symm
def fOp (op:Op):KO:=(Op.rec (motive:=fun _=>KO) (fun x _ _ _ tm h _=>okF h (fOpd tm x)) (fun x _ _ _ tm h _=>okF h (fOpd tm x)) (fun _ _ _=>(fun T P self tm h o=>eOp T P self tm h o)) (fun e T _ _ _ h _=>fAlloc T h e) (fun e x _ _ _ tm h _=>(Option.rec (motive:=fun _=>R) (none) (fun v=>fBox h e v) (fOpd tm x))) (fun _ _=>(fun T P self tm h o=>eOp T P self tm h o)) (fun _ _ _=>(fun T P self tm h o=>eOp T P self tm h o)) (fun _ _ _ _=>(fun T P self tm h o=>eOp T P self tm h o)) (fun t a T _ _ tm h _=>(Option.rec (motive:=fun _=>R) (none) (fun v=>fLoad T h t v) (fOpd tm a))) (fun t a x T _ _ tm h _=>(Option.rec (motive:=fun _=>R) (none) (fun v=>(Option.rec (motive:=fun _=>R) (none) (fun u=>fStore T h t u v) (fOpd tm x))) (fOpd tm a))) (fun _=>(fun T P self tm h o=>eOp T P self tm h o)) (fun _=>(fun T P self tm h o=>eOp T P self tm h o)) (fun _=>(fun T P self tm h o=>eOp T P self tm h o)) (fun op t x y _ T P _ tm h _=>okF h (Option.rec (motive:=fun _=>Option Value) (none) (fun a=>(Option.rec (motive:=fun _=>Option Value) (none) (fun b=>fBin T P op t x y a b) (fOpd tm y))) (fOpd tm x))) (fun _ _ _=>(fun T P self tm h o=>eOp T P self tm h o)) (fun _ _ _=>(fun T P self tm h o=>eOp T P self tm h o)) (fun _ _=>(fun T P self tm h o=>eOp T P self tm h o)) (fun _ _=>(fun T P self tm h o=>eOp T P self tm h o)) (fun _ _ _=>(fun T P self tm h o=>eOp T P self tm h o)) (fun _ _=>(fun T P self tm h o=>eOp T P self tm h o)) (fun _ _=>(fun T P self tm h o=>eOp T P self tm h o)) (fun _ _ _=>(fun T P self tm h o=>eOp T P self tm h o)) (fun _ _ _ _ _=>(fun T P self tm h o=>eOp T P self tm h o)) (fun s x f T _ _ tm h _=>okF h (Option.rec (motive:=fun _=>Option Value) (none) (fun v=>fFA T s f v) (fOpd tm x))) (fun _ _ _=>(fun T P self tm h o=>eOp T P self tm h o)) (fun t x i T _ _ tm h _=>okF h (Option.rec (motive:=fun _=>Option Value) (none) (fun v=>(Option.rec (motive:=fun _=>Option Value) (none) (fun j=>fIx T t v j) (fOpd tm i))) (fOpd tm x))) (fun _ _ _=>(fun T P self tm h o=>eOp T P self tm h o)) (fun _ _ _ _=>(fun T P self tm h o=>eOp T P self tm h o)) (fun _ _ _ _=>(fun T P self tm h o=>eOp T P self tm h o)) (fun _ _ _=>(fun T P self tm h o=>eOp T P self tm h o)) (fun _ _ _ _=>(fun T P self tm h o=>eOp T P self tm h o)) (fun _ _=>(fun T P self tm h o=>eOp T P self tm h o)) (fun _ _=>(fun T P self tm h o=>eOp T P self tm h o)) (fun _=>(fun T P self tm h o=>eOp T P self tm h o)) (fun _ _ _ _=>(fun T P self tm h o=>eOp T P self tm h o)) (fun _ _=>(fun T P self tm h o=>eOp T P self tm h o)) (fun c=>fCallO c) (fun _=>(fun T P self tm h o=>eOp T P self tm h o)) (fun _=>(fun T P self tm h o=>eOp T P self tm h o)) (fun _=>(fun T P self tm h o=>eOp T P self tm h o)) (fun _ _=>(fun T P self tm h o=>eOp T P self tm h o)) (fun _ _ _=>(fun T P self tm h o=>eOp T P self tm h o)) (fun _ _=>(fun T P self tm h o=>eOp T P self tm h o)) op)
theorem fOp_eq (T:Tab)(P:Program)(self:Req→Option Res)(tm:VT)(h:Hp)(o:Oper):fOp o.op T P self tm h o=eOp T P self tm h o:=by
 rw[←kOp_eq];obtain⟨dst,op,ty,pos,aft,g⟩:=o
 cases op<;>first|rfl|skip
 case move x=>show okF h (fOpd tm x)=okV h (opd tm x);rw[okF_eq,kcu]
 case assign x=>show okF h (fOpd tm x)=okV h (opd tm x);rw[okF_eq,kcu]
 case alloc e=>exact fAlloc_eq T h e
 case box e x=>show Option.rec (motive:=fun _=>R) none (fun v=>fBox h e v) (fOpd tm x)=kBox h e (opd tm x);rw[kcu];cases opd tm x<;>first|rfl|exact fBox_eq _ _ _
 case load t a=>show Option.rec (motive:=fun _=>R) none (fun v=>fLoad T h t v) (fOpd tm a)=kLoad T h t (opd tm a);rw[kcu];cases opd tm a<;>first|rfl|exact fLoad_eq _ _ _ _
 case store t a x=>
  show Option.rec (motive:=fun _=>R) none (fun v=>Option.rec (motive:=fun _=>R) none (fun u=>fStore T h t u v) (fOpd tm x)) (fOpd tm a)=kStore T h t (opd tm x) (opd tm a)
  rw[kcu,kcu];cases opd tm a<;>cases opd tm x<;>first|rfl|exact fStore_eq _ _ _ _ _
 case binOp op t x y yt=>
  show okF h (Option.rec (motive:=fun _=>Option Value) none (fun a=>Option.rec (motive:=fun _=>Option Value) none (fun b=>fBin T P op t x y a b) (fOpd tm y)) (fOpd tm x))=okV h (kBin T P op t x y (opd tm y) (opd tm x))
  rw[okF_eq,kcu,kcu];cases opd tm x<;>cases opd tm y<;>first|rfl|(simp only[fBin_eq,kBin,kBin2,kBinV_eq])
 case fieldAddr s x f=>
  show okF h (Option.rec (motive:=fun _=>Option Value) none (fun v=>fFA T s f v) (fOpd tm x))=okV h (kFA T s f (opd tm x))
  rw[okF_eq,kcu];cases opd tm x<;>first|rfl|(simp only[fFA_eq,kFA])
 case indexAddr t x i=>
  show okF h (Option.rec (motive:=fun _=>Option Value) none (fun v=>Option.rec (motive:=fun _=>Option Value) none (fun j=>fIx T t v j) (fOpd tm i)) (fOpd tm x))=okV h (kIxA T t (opd tm i) (opd tm x))
  rw[okF_eq,kcu,kcu];cases opd tm x<;>cases opd tm i<;>first|rfl|(simp only[fIx_eq,kIxA,kIxA2])
 case call c=>exact fCallO_eq c T P self tm h _ rfl
end
end Go.Ev
