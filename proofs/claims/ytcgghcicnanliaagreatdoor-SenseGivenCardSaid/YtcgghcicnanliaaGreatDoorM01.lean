/- An evaluator of closed runs: its operations are those of the machine; An evaluator of closed runs. Conditions: as each statement says. -/
import Derived.Test.YtcgghcicnanliaaGreatDoorM00
set_option linter.unusedVariables false
set_option linter.unusedSimpArgs false
namespace Go.Ev
section
variable {T:Tab} {P:Program} {ι : In} {h h':Hp} {w:World} {t:TypeId} {i:TI} {x x' v:Value}
theorem kfk (b o n:Nat):(⟨b,o,none⟩:Addr).add n=⟨b,o+n,none⟩:=Addr.add_mid b o n
theorem eLoad_ok (hT:TabOk T P)(m:M T ι h w)(hx:VR ι x x')(he:kht T h t x=some (v,h')) :
  h'=h∧∃a v',x'=.pointer (some a)∧(loadVar t a).run P w=.ok v' w∧VR ι v v':=by
 unfold kht at he
 split at he
 case h_2=>cases he
 rename_i k off
 obtain⟨l,hl,rfl⟩:=hx.inv_ptr
 split at he
 case h_2=>cases he
 rename_i i hi
 have hk:=hT.ty _ _ hi;simp only[cond_eq_ite]at he
 split at he
 ·rename_i ha
  split at he
  case h_2=>cases he
  rename_i vs hvs
  cases he;obtain⟨vs',h1,h2,h3⟩:=m.ldN hl hvs
  have:=kgx (P:=P) h3
  rw[h2]at this
  exact⟨rfl,_,.agg vs'.toArray,rfl,by simp[loadVar,hk.run_isAgg,ha,hk.run_size,this],.agg' h1⟩
 ·rename_i ha
  split at he
  case h_2=>cases he
  rename_i v hv
  cases he;obtain⟨v',h1,h2⟩:=m.ld hl hv
  exact⟨rfl,_,v',rfl,by simp[loadVar,hk.run_isAgg,ha,h1],h2⟩
theorem eStore_ok (hT:TabOk T P)(m:M T ι h w){u u':Value}(hx:VR ι x x')(hu:VR ι u u')(he:knx T h t u x=some (v,h')) :
  v=undef∧∃w',(Instr.storeAt t x' u').run P w=.ok () w'∧M T ι h' w'∧Evo ι h w ι h' w':=by
 unfold knx at he
 split at he
 case h_2=>cases he
 rename_i k off
 obtain⟨l,hl,rfl⟩:=hx.inv_ptr
 split at he
 case h_2=>cases he
 rename_i i hi
 have hk:=hT.ty _ _ hi;simp only[cond_eq_ite,Nat.beq_eq]at he
 split at he
 case isFalse=>cases he
 rename_i hn
 split at he
 case h_2=>cases he
 rename_i h2 hs
 cases he;have hc:=hu.cells;obtain⟨w',h1,h3,h4⟩:=m.st hl hs hc P
 have hsz:u'.cells.size=i.size:=by
  have:=hc.1
  rw[kfw u']at this;rw[←hn,this];simp
 refine⟨rfl,w',?_,h3,h4⟩
 simp only[Instr.storeAt,Instr.sureAddr,Sem.run_bind,Sem.run_pure,Result.andThen_ok,storeVar,hk.run_size,hsz,ne_eq,not_true_eq_false,if_false];rw[kfw]at h1
 simpa using h1
theorem M.newCells (m:M T ι h w){c c':List Value}(hc:LR ι c c')(e:TypeId) :
  M T (upd ι h.next ⟨w.heap.size,0,0⟩) (newB h (.cells c e false)) { w with heap:=w.heap.push (.cells c'.toArray e) } ∧
  Evo ι h w (upd ι h.next ⟨w.heap.size,0,0⟩) (newB h (.cells c e false)) { w with heap:=w.heap.push (.cells c'.toArray e) }:=
 m.new _ _ _ rfl ⟨[],c',[],by simp,rfl,hc.mono (m.upd_le _),by simp⟩
theorem eBox_ok (m:M T ι h w)(hx:VR ι x x')(he:eBox h t x=some (v,h')) :
  ∃ ι' v' w',(Instr.box t x').run P w=.ok v' w'∧VR ι' v v'∧M T ι' h' w'∧Evo ι h w ι' h' w':=by
 simp only[eBox]at he;cases he;obtain⟨h1,h2⟩:=m.newCells hx.cells t;rw[kfw x']at h1 h2
 refine⟨_,.pointer (some ⟨w.heap.size,0,none⟩),_,?_,.ptr (off:=0) (l:=⟨w.heap.size,0,0⟩) (kdb _ _ _),h1,h2⟩
 simp[Instr.box,newVar,newRow]
theorem eAlloc_ok (hT:TabOk T P)(m:M T ι h w)(he:eAlloc T h t=some (v,h')) :
  ∃ ι' v' w',(Instr.alloc t true (.tuple #[])).run P w=.ok v' w'∧VR ι' v v'∧M T ι' h' w'∧Evo ι h w ι' h' w':=by
 unfold eAlloc at he
 split at he
 case h_2=>cases he
 rename_i i hi
 cases he;have hk:=hT.ty _ _ hi;obtain⟨h1,h2⟩:=m.newCells (LR.leaves (ι:=ι) hk.leaf) t;obtain⟨z,hz1,hz2⟩:∃z,(zeroValue t).run P w=.ok z w∧z.cells=i.zero.toArray:=⟨_,hk.run_zero,hk.zero_cells⟩;rw[←hz2]at h1 h2
 refine⟨_,.pointer (some ⟨w.heap.size,0,none⟩),_,?_,.ptr (off:=0) (l:=⟨w.heap.size,0,0⟩) (kdb _ _ _),h1,h2⟩
 simp[Instr.alloc,newVar,newRow,hz1]
theorem eFieldAddr_ok (hT:TabOk T P)(hx:VR ι x x'){f:Nat}(he:kdn T t f x=some v) :
  ∃v',(Instr.fieldAt t x' f).run P w=.ok v' w∧VR ι v v':=by
 unfold kdn at he
 split at he
 case h_2=>cases he
 rename_i k off
 obtain⟨l,hl,rfl⟩:=hx.inv_ptr
 split at he
 case h_2=>cases he
 rename_i fs _ _ _ _ hi
 have hk:=hT.ty _ _ hi
 split at he
 case h_2=>cases he
 rename_i fd hf
 split at he
 case h_2=>cases he
 rename_i ti hti
 have hk2:=hT.ty _ _ hti;simp only[cond_eq_ite,Nat.beq_eq]at he
 split at he
 case isTrue=>cases he
 rename_i hz
 cases he
 refine⟨.pointer (some ⟨l.blk,off+l.shf+fd.offset,none⟩),?_,?_⟩
 ·have hu:=run_underlying hk.und w
  have hf':fs[f]?=some fd:=by simpa using hf
  simp[Instr.fieldAt,hu,hf',Instr.sureAddr,fieldPlace,hk2.run_size,hz,kfk]
 ·rw[show off+l.shf+fd.offset=off+fd.offset+l.shf by omega]
  exact .ptr hl
theorem inB_ok {j:Int}{n:Nat}(hb:inB j n=true):0≤j∧j<n:=by
 unfold inB at hb
 split at hb
 ·simp only[Nat.ble_eq]at hb
  exact⟨Int.natCast_nonneg _,by simp only[Int.ofNat_eq_natCast];omega⟩
 ·cases hb
theorem eIndexAddr_ok (hT:TabOk T P){ix ix':Value}(hx:VR ι x x')(hix:VR ι ix ix')(he:kce T t x ix=some v) :
  ∃v',(Instr.indexAt t x' ix').run P w=.ok v' w∧VR ι v v':=by
 unfold kce at he
 split at he
 case h_2=>cases he
 rename_i q j
 rw[hix.inv_int]
 split at he
 case h_3=>cases he
 ·rename_i n e _ _ _ _ k off hi
  have hk:=hT.ty _ _ hi;obtain⟨l,hl,rfl⟩:=hx.inv_ptr
  split at he
  case h_2=>cases he
  rename_i ti hti
  have hk2:=hT.ty _ _ hti;simp only[cond_eq_ite]at he
  split at he
  case isFalse=>cases he
  rename_i hb
  cases he;obtain⟨h1,h2⟩:=inB_ok hb;have hu:=run_underlying hk.und w
  refine⟨.pointer (some ⟨l.blk,off+l.shf+j.toNat*ti.size,none⟩),?_,?_⟩
  ·simp[Instr.indexAt,asIntOf,hu,Instr.sureAddr,h1,h2,hk2.run_size,kfk]
  ·rw[show off+l.shf+j.toNat*ti.size=off+j.toNat*ti.size+l.shf by omega]
   exact .ptr hl
 ·rename_i e _ _ _ _ k off sp n c hi
  have hk:=hT.ty _ _ hi
  rcases hx.inv_slice with ⟨ha,_⟩|⟨k',off',sp',l,c',ha,hl,rfl,_⟩
  ·cases ha
  cases ha
  split at he
  case h_2=>cases he
  rename_i ti hti
  have hk2:=hT.ty _ _ hti;simp only[cond_eq_ite]at he
  split at he
  case isFalse=>cases he
  rename_i hb
  cases he;obtain⟨h1,h2⟩:=inB_ok hb;have hu:=run_underlying hk.und w
  refine⟨.pointer (some ⟨l.blk,off+l.shf+j.toNat*ti.size,none⟩),?_,?_⟩
  ·simp[Instr.indexAt,asIntOf,hu,h1,h2,hk2.run_size,kfk]
  ·rw[show off+l.shf+j.toNat*ti.size=off+j.toNat*ti.size+l.shf by omega]
   exact .ptr hl
theorem partV_ok (hT:TabOk T P){cs:List Value}{cs':Array Value}{off:Nat}(hc:LR ι cs cs'.toList)(hp:partV T t cs off=some v) :
  ∃v',(part t cs' off).run P w=.ok v' w∧VR ι v v':=by
 unfold partV at hp
 split at hp
 case h_2=>cases hp
 rename_i i hi
 have hk:=hT.ty _ _ hi;simp only[cond_eq_ite]at hp
 split at hp
 ·rename_i ha
  cases hp
  refine⟨.agg (cs'.extract off (off+i.size)),by simp[part,hk.run_isAgg,ha,hk.run_size],?_⟩
  have:=VR.agg' ((hc.drop off).take i.size)
  have e:(cs'.extract off (off+i.size))=((cs'.toList.drop off).take i.size).toArray:=by
   apply Array.ext'
   simp[Array.toList_extract,List.extract_eq_take_drop]
  rw[e];exact this
 ·rename_i ha
  obtain⟨v',h1,h2⟩:=hc.get hp
  have h1':cs'[off]?=some v':=by simpa using h1
  exact⟨v',by simp[part,hk.run_isAgg,ha,h1'],h2⟩
theorem eField_ok (hT:TabOk T P)(hx:VR ι x x'){f:Nat}(he:eField T t f x=some v) :
  ∃v',(Instr.field t x' f).run P w=.ok v' w∧VR ι v v':=by
 unfold eField at he
 split at he
 case h_2=>cases he
 rename_i cs
 obtain⟨cs',rfl,hc⟩:=hx.inv_agg
 split at he
 case h_2=>cases he
 rename_i fs _ _ _ _ hi
 have hk:=hT.ty _ _ hi
 split at he
 case h_2=>cases he
 rename_i fd hf
 split at he
 case h_2=>cases he
 rename_i v hv
 cases he;obtain⟨v',h1,h2⟩:=partV_ok (w:=w) hT hc hv;have hu:=run_underlying hk.und w
 have hf':fs[f]?=some fd:=by simpa using hf
 exact⟨v',by simp[Instr.field,hu,hf',asAgg,h1],h2⟩
theorem eIndex_ok (hT:TabOk T P){ix ix':Value}(hx:VR ι x x')(hix:VR ι ix ix')(he:eIndex T t x ix=some v) :
  ∃v',(Instr.index t x' ix').run P w=.ok v' w∧VR ι v v':=by
 unfold eIndex at he
 split at he
 case h_2=>cases he
 rename_i q j
 rw[hix.inv_int]
 split at he
 case h_3=>cases he
 ·rename_i _ _ _ _ s hi
  have hk:=hT.ty _ _ hi;rw[hx.inv_leaf rfl];simp only[cond_eq_ite]at he
  split at he
  case isFalse=>cases he
  rename_i hb
  split at he
  case h_2=>cases he
  rename_i b hbs
  cases he;obtain⟨h1,h2⟩:=inB_ok hb;have hu:=run_underlying hk.und w
  exact⟨_,by simp[Instr.index,asIntOf,hu,h1,hbs],.leaf rfl⟩
 rename_i n e _ _ _ _ cs hi
 have hk:=hT.ty _ _ hi;obtain⟨cs',rfl,hc⟩:=hx.inv_agg
 split at he
 case h_2=>cases he
 rename_i ti hti
 have hk2:=hT.ty _ _ hti;simp only[cond_eq_ite]at he
 split at he
 case isFalse=>cases he
 rename_i hb
 split at he
 case h_2=>cases he
 rename_i v hv
 cases he;obtain⟨h1,h2⟩:=inB_ok hb;obtain⟨v',h3,h4⟩:=partV_ok (w:=w) hT hc hv;have hu:=run_underlying hk.und w
 exact⟨v',by simp[Instr.index,asIntOf,hu,h1,h2,hk2.run_size,h3],h4⟩
def OR (ι : In):Option Value→Option Value→Prop
 | none,none=>True
 | some v,some v'=>VR ι v v'
 | _,_=>False
theorem bnd_ok {o o':Option Value}{d n:Nat}(ho:OR ι o o')(hb:bnd d o=some n):(o=none∧o'=none∧n=d)∨∃q,o'=some (.int q (n:Int))∧o.isSome=true:=by
 unfold bnd at hb
 split at hb
 ·cases hb;cases o' with
  | none=>exact .inl ⟨rfl,rfl,rfl⟩
  | some _=>exact ho.elim
 ·cases hb
  cases o' with
  | none=>exact ho.elim
  | some v'=>
   have:=VR.inv_int ho
   exact .inr ⟨_,by rw[this];rfl,rfl⟩
 ·cases hb
theorem kfq {lo lo' hi hi' mx mx':Option Value}{s:Bool}{len cap cap' l r m:Nat}(h1:OR ι lo lo')(h2:OR ι hi hi')(h3:OR ι mx mx')(hl:bnd 0 lo=some l)(hr:bnd len hi=some r)
  (hm:bnd cap mx=some m) (a:l≤r) (b:r≤m) (c:m≤cap) (d:cap≤cap') (e:(mx.isSome&&hi.isNone)=false) :
  (Instr.sliceBounds s len cap' lo' hi' mx').run P w=.ok (l,r,if mx.isSome then m else cap') w:=by
 have sb:∀(q:IntKind) (n y:Nat) (cd:BoundsCode),n≤y→(Instr.sliceBound (.int q (n:Int)) y cd).run P w=.ok n w:=fun q n y cd hn=>by
  have:((n:Int)≤(y:Int)):=by omega
  simp[Instr.sliceBound,asIntOf,this]
 unfold Instr.sliceBounds
 rcases bnd_ok h3 hm with ⟨rfl,rfl,rfl⟩|⟨qm,rfl,hms⟩
 ·rcases bnd_ok h2 hr with ⟨rfl,rfl,rfl⟩|⟨qr,rfl,hrs⟩
  ·rcases bnd_ok h1 hl with ⟨rfl,rfl,rfl⟩|⟨ql,rfl,hls⟩
   ·simp
   ·simp[sb ql l r _ a]
  ·rcases bnd_ok h1 hl with ⟨rfl,rfl,rfl⟩|⟨ql,rfl,hls⟩
   ·simp[sb qr r cap' _ (by omega)]
   ·simp[sb qr r cap' _ (by omega),sb ql l r _ a]
 ·rcases bnd_ok h2 hr with ⟨rfl,rfl,rfl⟩|⟨qr,rfl,hrs⟩
  ·rw[hms]at e;simp at e
  ·rcases bnd_ok h1 hl with ⟨rfl,rfl,rfl⟩|⟨ql,rfl,hls⟩
   ·simp[sb qm m cap' _ (by omega),sb qr r m _ b,hms]
   ·simp[sb qm m cap' _ (by omega),sb qr r m _ b,sb ql l r _ a,hms]
theorem eSlice_ok (hT:TabOk T P){lo lo' hi hi' mx mx':Option Value}(hx:VR ι x x')(h1:OR ι lo lo')(h2:OR ι hi hi')(h3:OR ι mx mx')(he:eSlice T t x lo hi mx=some v) :
  ∃v',(Instr.sliceAt t x' lo' hi' mx').run P w=.ok v' w∧VR ι v v':=by
 unfold eSlice at he;rw[cond_eq_ite]at he
 split at he
 ·cases he
 rename_i hmh
 have hmh':(mx.isSome&&hi.isNone)=false:=Bool.eq_false_iff.2 hmh
 split at he
 ·rename_i e _ _ _ _ k off sp len cap hty
  have hk:=hT.ty _ _ hty;have hu:=run_underlying hk.und w
  rcases hx.inv_slice with ⟨ha,_⟩|⟨k',off',sp',l,c',ha,hl,rfl,hc'⟩
  ·cases ha
  cases ha
  split at he
  case h_2=>cases he
  rename_i ti l0 r0 m0 hti hb1 hb2 hb3
  have hk2:=hT.ty _ _ hti;rw[cond_eq_ite]at he
  split at he
  case isFalse=>cases he
  rename_i hle
  simp only[Bool.and_eq_true,Nat.ble_eq]at hle;obtain⟨⟨a1,a2⟩,a3⟩:=hle
  have hcc:cap≤c':=by rw[hc'];split<;>omega
  have hsb:=kfq (P:=P) (w:=w) (s:=true) h1 h2 h3 hb1 hb2 hb3 a1 a2 a3 hcc hmh'
  split at he
  ·rename_i spv _
   rw[cond_eq_ite]at he
   split at he
   ·cases he
   ·rename_i hne
    simp only[Nat.beq_eq]at hne;cases he
    have hm0:m0=cap:=by simpa[bnd]using hb3.symm
    have hmx':mx'=none:=by cases mx' with
     | none=>rfl
     | some _=>exact h3.elim
    subst hmx';simp only[Option.isSome_some,if_true]at hc'
    refine⟨.slice (some ⟨l.blk,off+l.shf+l0*ti.size,none⟩) (r0-l0) (c'-l0),?_,?_⟩
    ·simp only[Instr.sliceAt,Sem.run_bind,hu,Result.andThen_ok,Instr.slice,hsb,hk2.run_size]
     simp only[Option.isSome_none,Bool.false_eq_true,if_false,Sem.run_pure]
     rw[if_neg (by omega)]
     simp[kfk]
    ·rw[show off+l.shf+l0*ti.size=off+l0*ti.size+l.shf by omega,hc',show cap+l.ext-l0=m0-l0+l.ext by omega]
     exact .opn hl
  ·rename_i hno
   cases he
   have hms:(if mx.isSome then m0 else c')=m0:=by
    cases mx with
    | some _=>rfl
    | none=>
     have hm0:m0=cap:=by simpa[bnd]using hb3.symm
     cases sp with
     | none=>simp at hc';simp[hc',hm0]
     | some s=>exact absurd rfl (hno s rfl)
   rw[hms]at hsb
   have key:(Instr.sliceAt t (.slice (some ⟨l.blk,off+l.shf,none⟩) len c') lo' hi' mx').run P w=.ok (.slice (some ⟨l.blk,(bif Nat.beq m0 l0 then off else off+l0*ti.size)+l.shf,none⟩) (r0-l0) (m0-l0)) w:=by
    simp only[Instr.sliceAt,Sem.run_bind,hu,Result.andThen_ok,Instr.slice,hsb,hk2.run_size,Sem.run_pure]
    by_cases hq:m0=l0
    ·simp[hq]
    ·have:Nat.beq m0 l0=false:=by rw[Bool.eq_false_iff];simpa using hq
     rw[if_neg hq]
     simp[this,kfk]
     omega
   exact⟨_,key,.slice hl⟩
 ·rename_i e _ _ _ _ len cap hty
  have hk:=hT.ty _ _ hty;have hu:=run_underlying hk.und w
  rcases hx.inv_slice with ⟨_,rfl⟩|⟨k',off',sp',l,c',ha,_⟩
  case inr=>cases ha
  split at he
  case h_2=>cases he
  rename_i ti l0 r0 m0 hti hb1 hb2 hb3
  have hk2:=hT.ty _ _ hti;rw[cond_eq_ite]at he
  split at he
  case isFalse=>cases he
  rename_i hle
  simp only[Bool.and_eq_true,Nat.ble_eq]at hle;obtain⟨⟨a1,a2⟩,a3⟩:=hle;cases he;have hsb:=kfq (P:=P) (w:=w) (s:=true) h1 h2 h3 hb1 hb2 hb3 a1 a2 a3 (Nat.le_refl _) hmh'
  have hms:(if mx.isSome then m0 else cap)=m0:=by
   cases mx with
   | some _=>rfl
   | none=>simpa[bnd]using hb3
  rw[hms]at hsb
  exact⟨.slice none (r0-l0) (m0-l0),by simp[Instr.sliceAt,hu,Instr.slice,hsb,hk2.run_size],.leaf rfl⟩
 ·rename_i n e _ _ _ _ k off hty
  have hk:=hT.ty _ _ hty;have hu:=run_underlying hk.und w;obtain⟨l,hl,rfl⟩:=hx.inv_ptr
  split at he
  case h_2=>cases he
  rename_i ti l0 r0 m0 hti hb1 hb2 hb3
  have hk2:=hT.ty _ _ hti;rw[cond_eq_ite]at he
  split at he
  case isFalse=>cases he
  rename_i hle
  simp only[Bool.and_eq_true,Nat.ble_eq]at hle;obtain⟨⟨a1,a2⟩,a3⟩:=hle;cases he;have hsb:=kfq (P:=P) (w:=w) (s:=false) h1 h2 h3 hb1 hb2 hb3 a1 a2 a3 (Nat.le_refl _) hmh'
  have hms:(if mx.isSome then m0 else n)=m0:=by
   cases mx with
   | some _=>rfl
   | none=>simpa[bnd]using hb3
  rw[hms]at hsb
  refine⟨.slice (some ⟨l.blk,(bif Nat.beq m0 l0 then off else off+l0*ti.size)+l.shf,none⟩) (r0-l0) (m0-l0),?_,.slice hl⟩
  simp only[Instr.sliceAt,Sem.run_bind,hu,Result.andThen_ok,Instr.sureAddr,hsb,hk2.run_size,Sem.run_pure]
  by_cases hq:m0=l0
  ·simp[hq]
  ·have:Nat.beq m0 l0=false:=by rw[Bool.eq_false_iff];simpa using hq
   rw[if_neg hq]
   simp[this,kfk]
   omega
 ·cases he
end
theorem kkk {α : Type}{P:Program}{w:World}{a:α}:∀ {s:Sem α},kii P s=some a→s.run P w=.ok a w
 | .pure _,h=>by simp only[kii,Option.some.injEq]at h;rw[h];rfl
 | .program k,h=>by
  simp only[kii]at h
  exact kkk (s:=k P) h
 | .mark m k,h=>by
  simp only[kii]at h
  exact kkk (s:=k) h
theorem wrap_small {n:Nat}(h:n≤1000000):IntKind.i64.wrap (n:Int)=n:=by
 have h1:((n:Int) % (2 ^ 64:Int))=n:=Int.emod_eq_of_lt (by omega) (by omega)
 simp only[IntKind.wrap,IntKind.bits,IntKind.signed,h1]
 rw[if_neg (by simp;omega)]
theorem rep_get (z:List Value):∀(n j:Nat),(rep z n)[j]?=if j<n*z.length then z[j % z.length]? else none
 | 0,j=>by simp[rep]
 | n+1,j=>by
  rw[rep,List.getElem?_append,rep_get z n]
  by_cases hj:j<z.length
  ·rw[if_pos hj,if_pos (by rw[Nat.succ_mul];omega),Nat.mod_eq_of_lt hj]
  ·rw[if_neg hj]
   have h1:j % z.length=(j-z.length) % z.length:=by rw[←Nat.mod_eq_sub_mod (by omega)]
   rw[h1,Nat.succ_mul]
   by_cases h2:j-z.length<n*z.length
   ·rw[if_pos h2,if_pos (by omega)]
   ·rw[if_neg h2,if_neg (by omega)]
theorem kmw (z:List Value)(n:Nat):((Array.range (n*z.length)).map fun x=>z.toArray[x % z.toArray.size]!)=(rep z n).toArray:=by
 apply Array.ext'
 apply List.ext_getElem?
 intro j;simp only[Array.toList_map,Array.toList_range,List.getElem?_map,rep_get,List.size_toArray]
 by_cases hj:j<n*z.length
 ·have hz:0<z.length:=by rcases Nat.eq_zero_or_pos z.length with h0|h0
                         ·rw[h0]at hj;omega
                         ·exact h0
  have hm:j % z.length<z.length:=Nat.mod_lt _ hz
  rw[if_pos hj,List.getElem?_range hj]
  simp[hm]
 ·rw[if_neg hj]
  simp[List.getElem?_eq_none,Nat.le_of_not_lt hj]
theorem kje {z:List Value}(h:z.all kbx=true):∀n,(rep z n).all kbx=true
 | 0=>rfl
 | n+1=>by rw[rep,List.all_append,h,kje h n];rfl
theorem rep_zero {z:List Value}{n:Nat}(h:n*z.length=0):rep z n=[]:=by
 apply List.ext_getElem?
 intro j;rw[rep_get,h];simp
section
variable {T:Tab} {P:Program} {ι : In} {h h':Hp} {w:World} {t:TypeId} {i:TI} {x x' v:Value}
theorem eMakeSlice_ok (hT:TabOk T P)(m:M T ι h w){a a' b b':Value}(ha:VR ι a a')(hb:VR ι b b')(he:kkr T h t a b=some (v,h')) :
  ∃ ι' v' w',(Instr.makeSlice t a' b').run P w=.ok v' w'∧VR ι' v v'∧M T ι' h' w'∧Evo ι h w ι' h' w':=by
 unfold kkr at he
 split at he
 case h_2=>cases he
 rename_i q1 l q2 c
 rw[ha.inv_int,hb.inv_int]
 split at he
 case h_2=>cases he
 rename_i e _ _ _ _ hty
 have hu:=run_underlying (hT.ty _ _ hty).und w
 split at he
 case h_2=>cases he
 rename_i ti hti
 have hk2:=hT.ty _ _ hti;rw[cond_eq_ite]at he
 split at he
 case isFalse=>cases he
 rename_i hle
 simp only[Bool.and_eq_true,Nat.ble_eq,Nat.beq_eq]at hle;obtain⟨⟨a1,a2⟩,a3⟩:=hle;cases he
 have hc:c≤1000000:=Nat.le_trans (Nat.le_mul_of_pos_right c (Nat.succ_pos _)) a2
 have hbc:ti.bytes*c≤1000000:=Nat.le_trans (by rw[Nat.mul_comm];exact Nat.mul_le_mul_left _ (Nat.le_succ _)) a2
 obtain⟨f,hf1,hf2,hf3⟩:=hk2.run_info (w:=w);obtain⟨h1,h2⟩:=m.newCells (LR.leaves (ι:=ι) (kje hk2.leaf c)) e
 refine⟨_,.slice (some ⟨w.heap.size,0,none⟩) l c,_,?_,.slice (off:=0) (l:=⟨w.heap.size,0,0⟩) (kdb _ _ _),h1,h2⟩
 have w1:=wrap_small (n:=l) (by omega)
 have w2:=wrap_small hc
 have g1:(decide ((Int.ofNat c)<0)||decide ((ti.bytes:Int)*(Int.ofNat c) > 2 ^ 48))=false:=by
  simp only[Int.ofNat_eq_natCast,←Int.natCast_mul];rw[Bool.or_eq_false_iff]
  exact⟨by simp,by simp;omega⟩
 simp only[Int.ofNat_eq_natCast]at g1 w1 w2 ⊢;obtain⟨z,hz1,hz2⟩:∃z,(zeroValue e).run P w=.ok z w∧z.cells=ti.zero.toArray:=⟨_,hk2.run_zero,hk2.zero_cells⟩
 have hcells:(Array.range (c*ti.size)).map (fun x=>ti.zero.toArray[x % ti.zero.toArray.size]!)=(rep ti.zero c).toArray:=by rw[←a3];exact kmw _ _
 simp only[Instr.makeSlice,Sem.run_bind,hu,Result.andThen_ok,asInt,asIntOf,Sem.run_pure,hf1,hf3,w1,w2]
 have g2:¬ ((l:Int) > (c:Int)):=by omega
 have g3:¬ ((l:Int)<0):=by omega
 rw[if_neg (by rw[g1];simp[g2,g3])]
 by_cases h0:c*ti.size=0
 ·have hr:rep ti.zero c=[]:=rep_zero (by rw[a3];exact h0)
  simp[hk2.run_size,h0,newRow,hr,show Array.range 0=#[] from rfl]
 ·simp only[Int.toNat_natCast,Sem.run_bind,run_askRoom,Result.andThen_ok,hk2.run_size,h0,if_false,hz1,hz2,Sem.run_pure,newRow,run_newObj,hcells]
def PR (ι : In):List (Nat × Value)→List (Nat × Value)→Prop
 | [],[]=>True
 | (i,v)::r,(j,u)::s=>i=j∧VR ι v u∧PR ι r s
 | _,_=>False
theorem fold_set (off:Nat):∀(vs:List Value) (k:Nat) (cells:Array Value),off+k+vs.length≤cells.size →
  ((vs.zipIdx k).foldl (fun cs (c,j)=>cs.setIfInBounds (off+j) c) cells).toList=cells.toList.take (off+k)++vs++cells.toList.drop (off+k+vs.length)
 | [],k,cells,_=>by simp
 | v::vs,k,cells,hl=>by
  simp only[List.zipIdx_cons,List.foldl_cons]
  rw[fold_set off vs (k+1) _ (by simp at hl ⊢;omega)]
  have e:=list_seg_step cells.toList (off+k) v vs (by simp at hl ⊢;omega)
  simpa[Array.toList_setIfInBounds,Nat.add_assoc]using e
theorem fill_ok {place place':Nat→Option (Nat × Nat)}(hp:∀i x,place i=some x→place' i=some x):∀ {parts parts':List (Nat × Value)} {cells r:List Value} {cells':Array Value},
  eFill place cells parts=some r→PR ι parts parts'→LR ι cells cells'.toList→∃r':Array Value,Instr.fill place' cells' parts'=some r'∧LR ι r r'.toList
 | [],[],cells,r,cells',he,_,hc=>by simp only[eFill,Option.some.injEq]at he;subst he;exact⟨cells',rfl,hc⟩
 | [],_::_,_,_,_,_,h,_=>h.elim
 | _::_,[],_,_,_,_,h,_=>by simp[PR]at h
 | (i,v)::rest,(j,u)::rest',cells,r,cells',he,⟨hij,hv,hr⟩,hc=>by
  subst hij;unfold eFill at he
  split at he
  case h_2=>cases he
  rename_i off size hpl
  simp only[cond_eq_ite,Nat.beq_eq,Bool.and_eq_true]at he
  split at he
  case isFalse=>cases he
  rename_i hsz
  obtain⟨hsz,hne⟩:=hsz
  split at he
  case h_2=>cases he
  rename_i c2 hsp
  obtain⟨rfl,hle⟩:=kiz hsp;have hvc:=hv.cells
  have hus:u.cells.size=size:=by rw[←hsz,hvc.1,kfw];simp
  have hcl:=hc.1;simp only[Array.length_toList]at hcl;unfold Instr.fill;rw[hp _ _ hpl]
  have hle':=hle (by simpa using hne)
  have hfit:off+u.cells.size≤cells'.size:=by omega
  dsimp only
  rw[if_neg (by simp[hus];omega)]
  have hfold:=fold_set off u.cells.toList 0 cells' (by simpa using hfit)
  rw[←Array.toList_zipIdx,Array.foldl_toList]at hfold;rw[kfw u]at hvc
  refine fill_ok hp he hr ?_
  rw[hfold];simp only[Nat.add_zero];rw[←hvc.1]
  exact((hc.take off).append hvc).append (hc.drop (off+(kdf v).length))
theorem places_ok (hT:TabOk T P):∀ {fs:List Field},fs.all (fun f=>(T.ty f.type).isSome)=true →
  ∃places,fs.mapM (fun f=>(P.info? f.type).map fun i=>(f.offset,i.size))=some places∧∀(j:Nat) fd ti,fs[j]?=some fd→T.ty fd.type=some ti→places[j]?=some (fd.offset,ti.size)
 | [],_=>⟨[],by simp,fun j fd ti hj=>by simp at hj⟩
 | f::fs,h=>by
  simp only[List.all_cons,Bool.and_eq_true]at h;obtain⟨ti,hti⟩:=Option.isSome_iff_exists.1 h.1;obtain⟨places,h1,h2⟩:=places_ok hT h.2;obtain⟨inf,hi1,hi2,_⟩:=(hT.ty _ _ hti).inf
  refine⟨(f.offset,ti.size)::places,by simp[List.mapM_cons,hi1,h1,hi2],fun j fd tj hj ht=>?_⟩
  cases j with
  | zero=>
   simp at hj
   subst hj;rw[hti]at ht;cases ht
   rfl
  | succ j=>simpa using h2 j fd tj (by simpa using hj) ht
theorem eBuild_ok (hT:TabOk T P){parts parts':List (Nat × Value)}(hp:PR ι parts parts')(he:eBuild T t parts=some v) :
  ∃v',(Instr.build t parts'.toArray).run P w=.ok v' w∧VR ι v v':=by
 unfold eBuild at he
 split at he
 ·rename_i fs _ _ z ag hi
  have hk:=hT.ty _ _ hi;obtain⟨inf,hi1,hi2,hi3,hi4⟩:=hk.inf;rw[cond_eq_ite]at he
  split at he
  ·cases he
  rename_i hall
  split at he
  case h_2=>cases he
  rename_i cs hf
  cases he
  have hall':fs.toList.all (fun f=>(T.ty f.type).isSome)=true:=by
   cases hq:fs.toList.all (fun f=>(T.ty f.type).isSome) with
   | true=>rfl
   | false=>rw[hq]at hall;exact absurd rfl hall
  obtain⟨places,h1,h2⟩:=places_ok hT hall'
  obtain⟨r',hr1,hr2⟩:=fill_ok (place':=fun x=>places.toArray[x]?) (fun j x hx=>by
   split at hx
   ·rename_i fd hfd
    simp only[Option.map_eq_some_iff]at hx;obtain⟨ti,hti,rfl⟩:=hx
    simpa using h2 j fd ti hfd hti
   ·cases hx) hf hp (LR.leaves (ι:=ι) hk.leaf)
  refine⟨.agg r',run_build w t _ r' ?_,by simpa using VR.agg' hr2⟩
  have hz:=hk.zero_cells
  dsimp only at hz hi4
  simp only[Program.built,hi1,hk.und,hi4,h1];rw[hz]
  exact hr1
 ·rename_i n e _ _ z ag hi
  have hk:=hT.ty _ _ hi;obtain⟨inf,hi1,hi2,hi3,hi4⟩:=hk.inf
  split at he
  case h_2=>cases he
  rename_i ti hti
  obtain⟨inf2,hj1,hj2,_⟩:=(hT.ty _ _ hti).inf
  split at he
  case h_2=>cases he
  rename_i cs hf
  cases he
  obtain⟨r',hr1,hr2⟩:=fill_ok (place':=fun i=>some (i*ti.size,ti.size)) (fun j x hx=>hx) hf hp (LR.leaves (ι:=ι) hk.leaf)
  refine⟨.agg r',run_build w t _ r' ?_,by simpa using VR.agg' hr2⟩
  have hz:=hk.zero_cells
  dsimp only at hz hi4
  simp only[Program.built,hi1,hk.und,hi4,hj1,hj2];rw[hz]
  exact hr1
 ·cases he
theorem kpa (hT:TabOk T P)(m:M T ι h w){parts parts':List (Nat × Value)}{n:Nat}(hp:PR ι parts parts')(he:kil T h t n parts=some (v,h')) :
  ∃ ι' v' w',(Instr.buildSlice t n parts'.toArray).run P w=.ok v' w'∧VR ι' v v'∧M T ι' h' w'∧Evo ι h w ι' h' w':=by
 unfold kil at he
 split at he
 case h_2=>cases he
 rename_i e _ _ _ _ hi
 have hu:=run_underlying (hT.ty _ _ hi).und w
 split at he
 case h_2=>cases he
 rename_i ti hti
 have hk2:=hT.ty _ _ hti;rw[cond_eq_ite]at he
 split at he
 case isFalse=>cases he
 rename_i hle
 simp only[Bool.and_eq_true,Nat.ble_eq,Nat.beq_eq]at hle;obtain⟨a1,a2⟩:=hle
 split at he
 case h_2=>cases he
 rename_i cs hf
 cases he
 obtain⟨r',hr1,hr2⟩:=fill_ok (place':=fun i=>some (i*ti.size,ti.size)) (fun j x hx=>hx) (cells':=(rep ti.zero n).toArray) hf hp (by simpa using LR.leaves (ι:=ι) (kje hk2.leaf n))
 obtain⟨h1,h2⟩:=m.newCells hr2 e
 refine⟨_,.slice (some ⟨w.heap.size,0,none⟩) n n,_,?_,.slice (off:=0) (l:=⟨w.heap.size,0,0⟩) (kdb _ _ _),h1,h2⟩
 obtain⟨z,hz1,hz2⟩:∃z,(zeroValue e).run P w=.ok z w∧z.cells=ti.zero.toArray:=⟨_,hk2.run_zero,hk2.zero_cells⟩
 have hcells:(Array.range (n*ti.size)).map (fun x=>ti.zero.toArray[x % ti.zero.toArray.size]!)=(rep ti.zero n).toArray:=by rw[←a2];exact kmw _ _
 have g:¬ n*ti.size > 2 ^ 24:=by omega
 simp only[Instr.buildSlice,Sem.run_bind,hu,Result.andThen_ok,hk2.run_size]
 by_cases h0:n*ti.size=0
 ·have hr:rep ti.zero n=[]:=rep_zero (by rw[a2];exact h0)
  rw[hr]at hr1
  simp[h0,newRow,show Array.range 0=#[] from rfl,hr1]
 ·simp[g,h0,hz1,hz2,newRow]
  simp at hcells
  rw[hcells]
  simp[hr1]
theorem kat {op:BinOp}{x y:Operand}{a b:Value}(h:(match a,b with|.nilIface,.nilIface=>false|.agg _,.agg _=>false|_,_=>true)=true):(eqGuard op t x y a b).run P w=.ok () w:=by
 unfold eqGuard
 cases op<;>first|rfl|(cases a<;>cases b<;>first|rfl|cases h)
theorem kgg {s:Sem Value}(hs:khk P s=some v):s.run P w=.ok v w∧kbx v=true:=by
 unfold khk at hs
 split at hs
 ·rename_i u hu
  rw[cond_eq_ite]at hs
  split at hs
  ·rename_i hl
   cases hs
   exact⟨kkk hu,hl⟩
  ·cases hs
 ·cases hs
theorem LR.leaf_eq {l l':List Value}(h:l.all kbx=true)(hl:LR ι l l'):l'=l:=by
 apply List.ext_getElem?
 intro i
 cases hi:l[i]? with
 | none=>
  have:=List.getElem?_eq_none_iff.1 hi
  rw[hl.1]at this
  exact List.getElem?_eq_none this
 | some v=>
  obtain⟨v',h1,h2⟩:=hl.get hi;rw[h1,h2.inv_leaf (List.all_eq_true.1 h v (List.mem_of_getElem? hi))]
theorem boolT_ok (hT:TabOk T P)(hb:boolT T t=true):P.underlying t=some .bool:=by
 unfold boolT at hb
 split at hb
 ·rename_i hq;exact(hT.ty _ _ hq).und
 ·cases hb
theorem kmr (hT:TabOk T P)(hb:sliceT T t=true):∃e,P.underlying t=some (.slice e):=by
 unfold sliceT at hb
 split at hb
 ·rename_i hq;exact⟨_,(hT.ty _ _ hq).und⟩
 ·cases hb
theorem ptrT_ok (hT:TabOk T P)(hb:ptrT T t=true):∃e,P.underlying t=some (.pointer e):=by
 unfold ptrT at hb
 split at hb
 ·rename_i hq;exact⟨_,(hT.ty _ _ hq).und⟩
 ·cases hb
theorem kiw {op:BinOp}{r:Bool}{x y:Operand}{a b:Value}(hg:(eqGuard op t x y a b).run P w=.ok () w)(he:tst op r=some v)
  (h1:op=.eql→(binOp .eql t a b).run P w=.ok (.bool r) w) (h2:op=.neq→(binOp .neq t a b).run P w=.ok (.bool (!r)) w) :
  ∃v',(do eqGuard op t x y a b;binOp op t a b:Sem Value).run P w=.ok v' w∧VR ι v v':=by
 unfold tst at he
 split at he
 ·cases he;exact⟨_,by rw[Sem.run_bind,hg,Result.andThen_ok,h1 rfl],.leaf rfl⟩
 ·cases he;exact⟨_,by rw[Sem.run_bind,hg,Result.andThen_ok,h2 rfl],.leaf rfl⟩
 ·cases he
theorem eqIn_bool (hu:P.underlying t=some .bool)(d:Nat)(p q:Bool):(Op.equalIn (d+1) t (.bool p) (.bool q)).run P w=.ok (p == q) w:=by
 simp[Op.equalIn,run_underlying hu]
theorem eqIn_sliceL {e:TypeId}(hu:P.underlying t=some (.slice e))(d n c n' c':Nat)(q:Option Addr):(Op.equalIn (d+1) t (.slice none n c) (.slice q n' c')).run P w=.ok q.isNone w:=by
 simp[Op.equalIn,run_underlying hu]
theorem eqIn_sliceR {e:TypeId}(hu:P.underlying t=some (.slice e))(d n c n' c':Nat)(a:Addr):(Op.equalIn (d+1) t (.slice (some a) n c) (.slice none n' c')).run P w=.ok false w:=by
 simp[Op.equalIn,run_underlying hu]
theorem eqIn_ptrL {e:TypeId}(hu:P.underlying t=some (.pointer e))(d:Nat)(q:Option Addr):(Op.equalIn (d+1) t (.pointer none) (.pointer q)).run P w=.ok q.isNone w:=by
 simp[Op.equalIn,run_underlying hu]
theorem eqIn_ptrR {e:TypeId}(hu:P.underlying t=some (.pointer e))(d:Nat)(a:Addr):(Op.equalIn (d+1) t (.pointer (some a)) (.pointer none)).run P w=.ok false w:=by
 simp[Op.equalIn,run_underlying hu]
theorem eqBy {a b:Value}{r:Bool}(hb:∀k n,b≠.int k n)(hk:(match a with|.bool _|.slice ..=>true|.pointer _=>(match b with|.pointer _=>true|_=>false)|_=>false)=true)(hr:(Op.equalIn (9999+1) t a b).run P w=.ok r w) :
  (binOp .eql t a b).run P w=.ok (.bool r) w∧(binOp .neq t a b).run P w=.ok (.bool (!r)) w:=by
 have h1:(Op.equal t a b).run P w=.ok r w:=hr
 cases a<;>first|(cases hk;done)|skip
 all_goals (cases b<;>first|(cases hk;done)|(constructor<;>(simp only[binOp];rw[Sem.run_bind,h1];rfl))|exact absurd rfl (hb _ _))
theorem eqV_ok (hT:TabOk T P){op:BinOp}{x y:Operand}{a a' b b':Value}(ha:VR ι a a')(hb:VR ι b b')(he:eqV T P op t x y a b=some v) :
  ∃v',(do eqGuard op t x y a' b';binOp op t a' b':Sem Value).run P w=.ok v' w∧VR ι v v':=by
 unfold eqV at he
 split at he
 ·rw[ha.inv_int,hb.inv_int]
  obtain⟨h1,h2⟩:=kgg (w:=w) he
  exact⟨v,h1,.leaf h2⟩
 ·rename_i p q
  rw[ha.inv_bool,hb.inv_bool];rw[cond_eq_ite]at he
  split at he
  case isFalse=>cases he
  rename_i hty
  have hu:=boolT_ok hT hty
  have hr:=eqBy (by simp) rfl (eqIn_bool (w:=w) hu 9999 p q)
  have hpq:(p == q)=(bif p then q else !q):=by cases p<;>cases q<;>rfl
  rw[hpq]at hr
  exact kiw (kat rfl) he (fun _=>hr.1) (fun _=>hr.2)
 ·rename_i n1 c1 q n2 c2
  rw[cond_eq_ite]at he
  split at he
  case isFalse=>cases he
  rename_i hty
  obtain⟨e,hu⟩:=kmr hT hty
  have hq:∃q' c',b'=.slice q' n2 c'∧q'.isNone=q.isNone:=by
   rcases hb.inv_slice with ⟨h1,h2⟩|⟨k,off,sp,l,c',h1,h2,h3,_⟩
   ·exact⟨none,_,h2,by rw[h1]⟩
   ·exact⟨_,_,h3,by rw[h1];rfl⟩
  obtain⟨q',c',rfl,hqq⟩:=hq
  rcases ha.inv_slice with ⟨_,rfl⟩|⟨k,off,sp,l,c',h1,_⟩
  case inr=>cases h1
  have hr:=eqBy (by simp) rfl (eqIn_sliceL (w:=w) hu 9999 n1 c1 n2 c' q')
  first
   | exact kiw (kat rfl) he (fun _=>hr.1) (fun _=>hr.2)
   | (rw[hqq]at hr;exact kiw (kat rfl) he (fun _=>hr.1) (fun _=>hr.2))
 ·rename_i a1 n1 c1 n2 c2
  rw[cond_eq_ite]at he
  split at he
  case isFalse=>cases he
  rename_i hty
  obtain⟨e,hu⟩:=kmr hT hty
  rcases hb.inv_slice with ⟨_,rfl⟩|⟨k,off,sp,l,c',h1,_⟩
  case inr=>cases h1
  rcases ha.inv_slice with ⟨h1,_⟩|⟨k,off,sp,l,c',h1,_,rfl,_⟩
  ·cases h1
  have hr:=eqBy (by simp) rfl (eqIn_sliceR (w:=w) hu 9999 n1 c' n2 c2 ⟨l.blk,off+l.shf,none⟩)
  first
   | exact kiw (kat rfl) he (fun _=>hr.1) (fun _=>hr.2)
   | (rw[hqq]at hr;exact kiw (kat rfl) he (fun _=>hr.1) (fun _=>hr.2))
 ·rename_i q
  rw[cond_eq_ite]at he
  split at he
  case isFalse=>cases he
  rename_i hty
  obtain⟨e,hu⟩:=ptrT_ok hT hty
  have hq:∃q',b'=.pointer q'∧q'.isNone=q.isNone:=by
   cases hb with
   | leaf h=>exact⟨_,rfl,rfl⟩
   | ptr h=>exact⟨_,rfl,rfl⟩
  obtain⟨q',rfl,hqq⟩:=hq;rw[ha.inv_leaf rfl]
  have hr:=eqBy (by simp) rfl (eqIn_ptrL (w:=w) hu 9999 q')
  first
   | exact kiw (kat rfl) he (fun _=>hr.1) (fun _=>hr.2)
   | (rw[hqq]at hr;exact kiw (kat rfl) he (fun _=>hr.1) (fun _=>hr.2))
 ·rename_i a1
  rw[cond_eq_ite]at he
  split at he
  case isFalse=>cases he
  rename_i hty
  obtain⟨e,hu⟩:=ptrT_ok hT hty;rw[hb.inv_leaf rfl]
  have hq:∃q',a'=.pointer (some q'):=by
   cases ha with
   | leaf h=>exact⟨_,rfl⟩
   | ptr h=>exact⟨_,rfl⟩
  obtain⟨q',rfl⟩:=hq
  have hr:=eqBy (by simp) rfl (eqIn_ptrR (w:=w) hu 9999 q')
  first
   | exact kiw (kat rfl) he (fun _=>hr.1) (fun _=>hr.2)
   | (rw[hqq]at hr;exact kiw (kat rfl) he (fun _=>hr.1) (fun _=>hr.2))
 ·rename_i xs ys
  rw[cond_eq_ite]at he
  split at he
  case isFalse=>cases he
  rename_i hl
  simp only[Bool.and_eq_true]at hl;obtain⟨xs',rfl,hx⟩:=ha.inv_agg;obtain⟨ys',rfl,hy⟩:=hb.inv_agg
  have e1:xs'=xs:=Array.ext' (hx.leaf_eq hl.1)
  have e2:ys'=ys:=Array.ext' (hy.leaf_eq hl.2)
  subst e1 e2;obtain⟨h1,h2⟩:=kgg (w:=w) he
  exact⟨v,h1,.leaf h2⟩
 ·cases he
theorem eConvert_ok (hT:TabOk T P){s:TypeId}(hx:VR ι x x')(he:eConvert T s t x=some v):∃v',(convert s t x').run P w=.ok v' w∧VR ι v v':=by
 unfold eConvert at he
 split at he
 case h_2=>cases he
 rw[hx.inv_int]
 split at he
 case h_2=>cases he
 rename_i k _ _ _ _ hi
 have hu:=run_underlying (hT.ty _ _ hi).und w;rw[cond_eq_ite]at he
 split at he
 case isFalse=>cases he
 rename_i hs
 cases he;obtain⟨ti,hti⟩:=Option.isSome_iff_exists.1 hs;have hu2:=(hT.ty _ _ hti).run_und (w:=w)
 exact⟨_,by simp[convert,hu2,hu,Conv.intToInt],.leaf rfl⟩
end
section
variable {T:Tab} {P:Program} {ι : In} {h h':Hp} {w w':World} {t:TypeId} {i:TI} {x x' v:Value}
theorem M.kill (m:M T ι h w)(k:Nat):M T ι { h with tr:=h.tr.set k none } w∧Evo ι h w ι { h with tr:=h.tr.set k none } w:=by
 have hget:∀q b,(h.tr.set k none).get q=some b→h.tr.get q=some b:=fun q b hq=>by
  rw[Tr.get_set]at hq
  split at hq
  ·cases hq
  ·exact hq
 refine⟨⟨fun q b hq=>m.at_ q b (hget q b hq),fun k k' b b' l l' a a'=>m.inj k k' b b' l l' (hget _ _ a) (hget _ _ a'),m.top⟩,?_⟩
 refine⟨.refl ι,fun q hq=>absurd rfl hq,Nat.le_refl _,rfl,Nat.le_refl _,fun _ _ _=>rfl,fun q hq=>?_,fun q l hq hl=>(by rw[m.top q hq]at hl;cases hl),rfl,rfl,rfl⟩
 obtain⟨b,hb⟩:=Option.isSome_iff_exists.1 hq
 exact .inl (by rw[hget q b hb];rfl)
theorem M.move (m:M T ι h w){k:Nat}{b b':Blk}{l l':Loc}(hk:h.tr.get k=some b)(hl:ι k=some l)(hw:h.wall≤k)(hb':l'.blk=l.blk)
  (hs:w'.heap.size=w.heap.size) (ho:∀c,c≠l.blk→w'.heap[c]?=w.heap[c]?) (hb:BR T (upd ι h.next l') l' w' b') (h1:w'.os=w.os) (h2:w'.tape=w.tape) (h3:w'.output=w.output) :
  M T (upd ι h.next l') (newB { h with tr:=h.tr.set k none } b') w'∧Evo ι h w (upd ι h.next l') (newB { h with tr:=h.tr.set k none } b') w':=by
 have hkn:k<h.next:=m.lt hl
 have hget:∀q,(newB { h with tr:=h.tr.set k none } b').tr.get q=if q=h.next then some b' else if q=k then none else h.tr.get q:=fun q=>by simp[newB,Tr.get_set]
 have hold:∀q c,q≠h.next→(newB { h with tr:=h.tr.set k none } b').tr.get q=some c→q≠k∧h.tr.get q=some c:=fun q c hq hc=>by
  rw[hget,if_neg hq]at hc
  split at hc
  ·cases hc
  ·rename_i h5;exact⟨h5,hc⟩
 refine⟨⟨fun q c hc=>?_,fun q q' c c' l1 l2 hc hc' e1 e2 he=>?_,fun q hq=>?_⟩,?_⟩
 ·by_cases hq:q=h.next
  ·rw[hget,if_pos hq]at hc;cases hc
   subst hq
   exact⟨l',kdb _ _ _,hb⟩
  ·obtain⟨hqk,hc⟩:=hold q c hq hc
   obtain⟨l1,a1,a2⟩:=m.at_ q c hc
   refine⟨l1,by rw[kdt ι l' hq];exact a1,a2.keep (m.upd_le l') (ho _ fun he=>hqk (m.inj q k c b l1 l hc hk a1 hl he))⟩
 ·by_cases hq:q=h.next<;>by_cases hq':q'=h.next
  ·rw[hq,hq']
  ·obtain⟨hqk,hc'⟩:=hold q' c' hq' hc'
   rw[hq,kdb]at e1;cases e1;rw[kdt ι l' hq']at e2
   exact absurd (m.inj q' k c' b l2 l hc' hk e2 hl (by rw[←he,hb'])) hqk
  ·obtain⟨hqk,hc⟩:=hold q c hq hc
   rw[hq',kdb]at e2;cases e2;rw[kdt ι l' hq]at e1
   exact absurd (m.inj q k c b l1 l hc hk e1 hl (by rw[he,hb'])) hqk
  ·rw[kdt ι l' hq]at e1;rw[kdt ι l' hq']at e2
   exact m.inj q q' c c' l1 l2 (hold q c hq hc).2 (hold q' c' hq' hc').2 e1 e2 he
 ·simp only[newB]at hq
  rw[kdt ι l' (by omega)];exact m.top q (by omega)
 ·refine⟨m.upd_le l',fun q hq=>?_,by simp[newB],rfl,by omega,fun c hc hno=>ho c fun he=>hno k l hw (by simp[hk]) hl he.symm,fun q hq=>?_,fun q l1 hq hl1=>?_,h1,h2,h3⟩
  ·by_cases he:q=h.next
   ·omega
   ·exact absurd (kdt ι l' he) hq
  ·by_cases he:q=h.next
   ·exact .inr (by omega)
   ·obtain⟨c,hc⟩:=Option.isSome_iff_exists.1 hq
    exact .inl (by rw[(hold q c he hc).2];rfl)
  ·by_cases he:q=h.next
   ·rw[he,kdb]at hl1;cases hl1
    exact .inr ⟨k,l,hw,by simp[hk],hl,hb'.symm⟩
   ·rw[kdt ι l' he,m.top q hq]at hl1;cases hl1
theorem cells_ok (m:M T ι h w){size n:Nat}{vs:List Value}(hx:VR ι x x')(hc:kcw h size n x=some vs) :
  ∃vs',(Builtin.firstCells size n x').run P w=.ok vs'.toArray w∧LR ι vs vs':=by
 unfold kcw at hc
 split at hc
 ·rename_i k off sp _ _
  rcases hx.inv_slice with ⟨ha,_⟩|⟨k',off',sp',l,c',ha,hl,rfl,_⟩
  ·cases ha
  cases ha;obtain⟨vs',h1,h2,h3⟩:=m.ldN hl hc
  have:=kgx (P:=P) h3
  rw[h2]at this
  exact⟨vs',by simp[Builtin.firstCells,this],h1⟩
 ·rcases hx.inv_slice with ⟨_,rfl⟩|⟨k',off',sp',l,c',ha,_⟩
  case inr=>cases ha
  cases hc
  exact⟨[],by simp[Builtin.firstCells],.nil⟩
 ·cases hc
theorem growBy_le (n:Nat):∀(r c B:Nat),c≤B→Builtin.growBy n r c≤(B+1000)*2 ^ r
 | 0,c,B,h=>by simp[Builtin.growBy];omega
 | r+1,c,B,h=>by
  unfold Builtin.growBy
  split
  ·have:1≤2 ^ (r+1):=Nat.one_le_two_pow
   calc c≤B+1000:=by omega
    _=(B+1000)*1:=by omega
    _≤(B+1000)*2 ^ (r+1):=Nat.mul_le_mul_left _ this
  ·have:=growBy_le n r (c+(c+768) / 4) (2*B+1000) (by omega)
   refine Nat.le_trans this ?_
   rw[Nat.pow_succ,←Nat.mul_assoc,Nat.mul_right_comm]
   exact Nat.mul_le_mul_right _ (by omega)
theorem nextcap_le {need cap:Nat}(hn:need≤1000000)(hc:cap≤1000000):Builtin.nextslicecap need cap≤16016000:=by
 unfold Builtin.nextslicecap
 split
 ·omega
 ·split
  ·omega
  ·have:=growBy_le need 4 cap 1000000 hc
   omega
theorem khu (z:Array Value)(n:Nat):(Builtin.zeroCells z n).size=n*z.size:=by simp[Builtin.zeroCells]
structure ApOk (P:Program)(t:TypeId)(i:TI)(n:Nat)(run:Option Addr→Nat→Nat→Sem Value)(ap:Sem (Array Value)):Prop where
 room:∀ {w w':World} {base:Option Addr} {len cap':Nat} {new:List Value},ap.run P w=.ok new.toArray w→len+n≤cap' →
  (match base with|some a=>storeCells (a.add (len*i.size)) new|none=>pure ()).run P w=.ok () w'→(run base len cap').run P w=.ok (.slice base (len+n) cap') w'
 grow:∀ {w:World} {base:Option Addr} {len cap':Nat} {old new:List Value},
  (Builtin.firstCells i.size len (.slice base len cap')).run P { w with drawn:=w.drawn+1 }=.ok old.toArray { w with drawn:=w.drawn+1 } →
  ap.run P { w with drawn:=w.drawn+1 }=.ok new.toArray { w with drawn:=w.drawn+1 }→cap'<len+n→(len+n)*(i.bytes+1)≤1000000 →
  ∃(rest:List Value) (ext:Nat),(run base len cap').run P w=.ok (.slice (some ⟨w.heap.size,0,none⟩) (len+n) (len+n+ext)) { w with drawn:=w.drawn+1,heap:=w.heap.push (.cells (old++new++rest).toArray t) } ∧
   rest.length=ext*i.zero.length
theorem grow_facts (hk:TyOk P t i){len cap' n:Nat}(hroom:cap'<len+n)(hb:(len+n)*(i.bytes+1)≤1000000) :
  (¬ Builtin.nextslicecap (len+n) cap'*i.bytes > 2 ^ 48)∧(¬ ((len+n:Nat):Int) > IntKind.i64.max)∧(∃g,(∀W,(typeInfo t).run P W=.ok g W)∧g.bytes=i.bytes) ∧
   (∃z,(∀W,(zeroValue t).run P W=.ok z W)∧z.cells=i.zero.toArray)∧(Question.appendCap (len+n) cap' t).forced=false ∧
   ∀w:World,∃ext,(Question.appendCap (len+n) cap' t).cut (w.tape w.drawn (Question.appendCap (len+n) cap' t))=len+n+ext:=by
 have hlen:len+n≤1000000:=Nat.le_trans (Nat.le_mul_of_pos_right _ (Nat.succ_pos _)) hb
 have hby':i.bytes≤1000000:=by
  have:=Nat.le_mul_of_pos_left (i.bytes+1) (show 0<len+n by omega)
  omega
 have hnc:=nextcap_le hlen (cap:=cap') (by omega)
 refine⟨?_,?_,?_,⟨_,fun W=>hk.run_zero,hk.zero_cells⟩,rfl,fun w=>⟨_,rfl⟩⟩
 ·have:=Nat.mul_le_mul hnc hby'
  omega
 ·simp only[IntKind.max,IntKind.signed,IntKind.bits];simp;omega
 ·obtain⟨g,hg1,_,hg3,_⟩:=hk.inf
  exact⟨g,fun W=>by simp[typeInfo,hg1],hg3⟩
theorem klp (hk:TyOk P t i){st q ty:TypeId}{eq:TypeId}(hs:P.underlying st=some (.slice t))(hq:P.underlying q=some (.slice eq))(n:Nat)(b:Option Addr)(c:Nat) :
  ApOk P t i n (fun base len cap'=>Builtin.append_ #[st,q] ty #[.slice base len cap',.slice b n c]) (Builtin.firstCells i.size n (.slice b n c)):=by
 constructor
 ·intro w w' base len cap' new hnew hroom hst
  unfold Builtin.append_;simp only[List.getElem?_toArray,List.getElem?_cons_zero,List.getElem?_cons_succ,Sem.run_bind,run_underlying hs,Result.andThen_ok,hk.run_size,run_underlying hq,Sem.run_pure,Bool.false_eq_true,if_false,Builtin.lenOf,Bool.not_false,if_true,hroom,hnew]
  cases base with
  | none=>simp only[Sem.run_pure,Result.ok.injEq,true_and]at hst ⊢;simp[hst]
  | some a=>simp only at hst ⊢;rw[Sem.run_bind,hst];rfl
 ·intro w base len cap' old new hold hnew hroom hb
  obtain⟨hprod,hmax,⟨g,hg1,hg2⟩,⟨z,hz1,hz2⟩,hqq,hx⟩:=grow_facts hk hroom hb;obtain⟨ext,hext⟩:=hx w
  refine⟨(Builtin.zeroCells i.zero.toArray ext).toList,ext,?_,by simp[khu]⟩
  have hnle:¬ len+n≤cap':=by omega
  unfold Builtin.append_;simp only[List.getElem?_toArray,List.getElem?_cons_zero,List.getElem?_cons_succ,Sem.run_bind,run_underlying hs,Result.andThen_ok,hk.run_size,run_underlying hq,Sem.run_pure,Bool.false_eq_true,if_false,Builtin.lenOf,Bool.not_false,if_true,hnle]
  rw[hg1,Result.andThen_ok,if_neg (by rintro⟨h1,_⟩;exact hmax h1)]
  simp only[Sem.run_bind,hg1,Result.andThen_ok,hg2,hprod,if_false,run_choose,hqq,Bool.false_eq_true,hext,run_askRoom,hold,hnew,hz1,hz2,newRow,run_newObj,Sem.run_pure,Nat.add_sub_cancel_left]
  simp
  congr 2
  apply Array.ext'
  simp
theorem klo (hk:TyOk P t i){st q ty:TypeId}{kq:IntKind}(hs:P.underlying st=some (.slice t))(hq:P.underlying q=some (.int kq))(n:Nat)(k:IntKind)
  (hn:n*(i.bytes+1)≤1000000) :
  ApOk P t i n (fun base len cap'=>Builtin.append_ #[st,q] ty #[.slice base len cap',.int k (n:Int)]) (if n*i.size=0 then pure #[] else do pure (Builtin.zeroCells (←zeroValue t).cells n)):=by
 have hn':n≤1000000:=Nat.le_trans (Nat.le_mul_of_pos_right n (Nat.succ_pos _)) hn
 have hb:n*i.bytes≤1000000:=Nat.le_trans (Nat.mul_le_mul_left _ (Nat.le_succ _)) hn
 obtain⟨g,hg1,hg2⟩:∃g,(∀W,(typeInfo t).run P W=.ok g W)∧g.bytes=i.bytes:=by
  obtain⟨g,hg1,_,hg3,_⟩:=hk.inf
  exact⟨g,fun W=>by simp[typeInfo,hg1],hg3⟩
 have h1:¬ ((n:Int)<0):=by omega
 have h2:¬ ((n:Int)*(i.bytes:Int) > 2 ^ 48):=by
  rw[←Int.natCast_mul];omega
 constructor
 ·intro w w' base len cap' new hnew hroom hst
  unfold Builtin.append_;simp only[List.getElem?_toArray,List.getElem?_cons_zero,List.getElem?_cons_succ,Sem.run_bind,run_underlying hs,Result.andThen_ok,hk.run_size,run_underlying hq,Sem.run_pure,if_true,asInt,asIntOf,wrap_small hn',h1,if_false,hg1,hg2,h2,Int.toNat_natCast,Bool.not_true,Bool.false_eq_true,hroom,hnew]
  cases base with
  | none=>simp only[Sem.run_pure,Result.ok.injEq,true_and]at hst ⊢;simp[hst]
  | some a=>simp only at hst ⊢;rw[Sem.run_bind,hst];rfl
 ·intro w base len cap' old new hold hnew hroom hbig
  obtain⟨hprod,hmax,_,⟨z,hz1,hz2⟩,hqq,hx⟩:=grow_facts hk hroom hbig;obtain⟨ext,hext⟩:=hx w
  refine⟨(Builtin.zeroCells i.zero.toArray ext).toList,ext,?_,by simp[khu]⟩
  have hnle:¬ len+n≤cap':=by omega
  unfold Builtin.append_;simp only[List.getElem?_toArray,List.getElem?_cons_zero,List.getElem?_cons_succ,Sem.run_bind,run_underlying hs,Result.andThen_ok,hk.run_size,run_underlying hq,Sem.run_pure,if_true,asInt,asIntOf,wrap_small hn',h1,if_false,hg1,hg2,h2,Int.toNat_natCast,Bool.not_true,Bool.false_eq_true,hnle]
  rw[if_neg (by rintro⟨h3,_⟩;exact hmax h3)]
  simp only[Sem.run_bind,hg1,Result.andThen_ok,hg2,hprod,if_false,run_choose,hqq,Bool.false_eq_true,hext,run_askRoom,hold,hnew,hz1,hz2,newRow,run_newObj,Sem.run_pure,Nat.add_sub_cancel_left]
  simp
  congr 2
  apply Array.ext'
  simp
theorem kio {z:List Value}{n:Nat}:Builtin.zeroCells z.toArray n=(rep z n).toArray:=by
 have:=kmw z n
 simpa[Builtin.zeroCells]using this
theorem tailOf_ok (hT:TabOk T P)(hk:TyOk P t i){st q ty:TypeId}{n:Nat}{new:List Value}(hs:P.underlying st=some (.slice t))(hx:VR ι x x')(he:tailOf T h i q x=some (n,new)) :
  ∃ap,ApOk P t i n (fun base len cap'=>Builtin.append_ #[st,q] ty #[.slice base len cap',x']) ap ∧
   ∀w,M T ι h w→∃new',ap.run P w=.ok new'.toArray w∧LR ι new new':=by
 unfold tailOf at he
 split at he
 ·rename_i b n c
  rw[cond_eq_ite]at he
  split at he
  case isFalse=>cases he
  rename_i hq
  obtain⟨eq,hq⟩:=kmr hT hq
  split at he
  case h_2=>cases he
  rename_i vs hvs
  cases he
  have hx2:∃b c,x'=.slice b n c:=by
   rcases hx.inv_slice with ⟨_,h2⟩|⟨_,_,_,_,_,_,_,h2,_⟩
   ·exact⟨_,_,h2⟩
   ·exact⟨_,_,h2⟩
  obtain⟨b',c',rfl⟩:=hx2
  exact⟨_,klp hk hs hq n b' c',fun w m=>cells_ok m hx hvs⟩
 ·rename_i k n
  rw[cond_eq_ite]at he
  split at he
  case isFalse=>cases he
  rename_i hq
  simp only[Bool.and_eq_true,Nat.ble_eq,Nat.beq_eq]at hq;obtain⟨⟨hq1,hq2⟩,hq3⟩:=hq;cases he
  obtain⟨kq,hkq⟩:∃kq,P.underlying q=some (.int kq):=by
   unfold keyT at hq1
   split at hq1
   ·rename_i hq;exact⟨_,(hT.ty _ _ hq).und⟩
   ·cases hq1
  rw[hx.inv_int]
  refine⟨_,klo hk hs hkq n k hq2,fun w m=>⟨rep i.zero n,?_,LR.leaves (kje hk.leaf n)⟩⟩
  obtain⟨z,hz1,hz2⟩:∃z,(zeroValue t).run P w=.ok z w∧z.cells=i.zero.toArray:=⟨_,hk.run_zero,hk.zero_cells⟩
  by_cases h0:n*i.size=0
  ·rw[if_pos h0,rep_zero (by rw[hq3];exact h0)];rfl
  ·rw[if_neg h0]
   simp only[Sem.run_bind,hz1,Result.andThen_ok,hz2,Sem.run_pure,kio]
 ·cases he
theorem eAppend_ok (hT:TabOk T P)(m:M T ι h w){q ty:TypeId}{s s':Value}(hs:VR ι s s')(hx:VR ι x x')(he:eAppend T h t q s x=some (v,h')) :
  ∃ ι' v' w',(Builtin.append_ #[t,q] ty #[s',x']).run P w=.ok v' w'∧VR ι' v v'∧M T ι' h' w'∧Evo ι h w ι' h' w':=by
 unfold eAppend at he
 split at he
 case h_2=>cases he
 rename_i e _ _ _ _ base len cap hty
 have hu:=(hT.ty _ _ hty).und
 split at he
 case h_2=>cases he
 rename_i ti hti
 have hk:=hT.ty _ _ hti
 split at he
 case h_2=>cases he
 rename_i n new hnew
 obtain⟨ap,hrun,hap⟩:=tailOf_ok (ty:=ty) hT hk hu hx hnew;rw[cond_eq_ite]at he
 split at he
 ·
  rename_i hfit
  simp only[Nat.ble_eq]at hfit;obtain⟨new',hn1,hn2⟩:=hap w m
  split at he
  ·rename_i k off sp
   split at he
   case h_2=>cases he
   rename_i h2 hst
   cases he
   rcases hs.inv_slice with ⟨ha,_⟩|⟨k',off',sp',l,c',ha,hl,rfl,hc'⟩
   ·cases ha
   cases ha;obtain⟨w',h1,h3,h4⟩:=m.st hl hst hn2 P
   have hcc:cap≤c':=by rw[hc'];split<;>omega
   refine⟨ι,_,w',hrun.room hn1 (by omega) ?_,?_,h3,h4⟩
   ·rw[show off+len*ti.size+l.shf=off+l.shf+len*ti.size by omega]at h1
    simpa[kfk]using h1
   ·cases sp with
    | none=>simp at hc';rw[hc'];exact .slice hl
    | some s=>simp at hc';rw[hc'];exact .opn hl
  ·cases he
   rcases hs.inv_slice with ⟨_,rfl⟩|⟨k',off',sp',l,c',ha,_⟩
   case inr=>cases ha
   exact⟨ι,_,w,hrun.room hn1 hfit rfl,.leaf rfl,m,.refl m⟩
 ·rename_i hfit
  simp only[Nat.ble_eq]at hfit
  split at he
  case h_2=>cases he
  rename_i old hold
  rw[cond_eq_ite]at he
  split at he
  case isFalse=>cases he
  rename_i hbig
  simp only[Bool.and_eq_true,Nat.ble_eq,Nat.beq_eq]at hbig
  have grow:∀(h1:Hp) (hm1:M T ι h1 w) (b':Option Addr) (c':Nat),VR ι (.slice base len cap) (.slice b' len c')→c'<len+n→Evo ι h w ι h1 w→h1.next=h.next →
    ∃ ι' v' w',(Builtin.append_ #[t,q] ty #[.slice b' len c',x']).run P w=.ok v' w'∧VR ι' (.slice (some ⟨h.next,0,some 0⟩) (len+n) (len+n)) v'∧M T ι' (newB h1 (.cells (old++new) e true)) w'∧Evo ι h w ι' (newB h1 (.cells (old++new) e true)) w':=by
   intro h1 hm1 b' c' hs' hc' hev hnx;have md:=m.drew (w.drawn+1);obtain⟨old',ho1,ho2⟩:=cells_ok (P:=P) md hs' hold;obtain⟨new',hn1,hn2⟩:=hap _ md;obtain⟨rest,ext,hr1,hr2⟩:=hrun.grow (base:=b') ho1 hn1 hc' hbig.1;have m1d:=hm1.drew (w.drawn+1)
   have hnew2:=m1d.new ⟨w.heap.size,0,ext⟩ (.cells (old'++new'++rest).toArray e) (.cells (old++new) e true) rfl ⟨[],old'++new',rest,by simp,rfl,(ho2.append hn2).mono (m1d.upd_le _),fun _=>⟨ti,hti,by rw[hr2,hbig.2]⟩⟩
   refine⟨_,_,_,hr1,?_,hnew2.1,(hev.trans m (Evo.drew hm1 _)).trans m hnew2.2⟩
   have:=VR.opn (off:=0) (s:=0) (n:=len+n) (c:=len+n) (kdb ι h.next ⟨w.heap.size,0,ext⟩)
   rw[hnx]
   exact this
  split at he
  ·rename_i k off sp
   split at he
   case h_2=>cases he
   rename_i c e' hkb
   rw[cond_eq_ite]at he
   split at he
   case isFalse=>cases he
   rename_i hcond
   simp only[Bool.and_eq_true,Nat.ble_eq,Nat.beq_eq]at hcond;obtain⟨⟨⟨⟨hc1,hc2⟩,hc3⟩,hc4⟩,hc5⟩:=hcond;cases he;subst hc3
   rcases hs.inv_slice with ⟨ha,_⟩|⟨k',off',sp',l,c',ha,hl,rfl,hc'⟩
   ·cases ha
   cases ha;simp only[Option.isSome_some,if_true]at hc'
   by_cases hroom:len+n≤c'
   ·
    obtain⟨new',hn1,hn2⟩:=hap w m;obtain⟨pre,cc,post,g1,g2,g3,g4⟩:=m.cellsAt hl hkb;obtain⟨ti',hti',g5⟩:=g4 rfl;rw[hti]at hti';cases hti'
    have hold2:old=(c.drop off).take (len*ti.size)∧old.length=len*ti.size:=by
     simp only[kcw,ldN,hkb,cond_eq_ite,Nat.beq_eq]at hold
     split at hold
     ·rename_i hq;cases hold;exact⟨rfl,hq⟩
     ·cases hold
    obtain⟨rfl,holdl⟩:=hold2;have hcl:=g3.1
    have hnl:new'.length=n*ti.size:=by rw[←hn2.1];exact hc5
    have hfit1:off+len*ti.size≤cc.length:=by
     simp only[List.length_take,List.length_drop]at holdl;omega
    have hoff:off≤cc.length:=by omega
    have hmul:(len+n)*ti.size≤(cap+l.ext)*ti.size:=Nat.mul_le_mul_right _ (by omega)
    have hmul2:len*ti.size+n*ti.size≤cap*ti.size+l.ext*ti.size:=by rw[←Nat.add_mul,←Nat.add_mul];exact hmul
    have hfit2:off+l.shf+len*ti.size+0+new'.length≤(pre++cc++post).toArray.size:=by
     simp only[List.size_toArray,List.length_append];omega
    have hst:=run_storeCells_at P l.blk (off+l.shf+len*ti.size) e new' 0 _ w g1 hfit2 (hn2.one hc4)
    have hY:((pre++cc++post).toArray.toList.take (off+l.shf+len*ti.size+0)++new'++(pre++cc++post).toArray.toList.drop (off+l.shf+len*ti.size+0+new'.length)).toArray =
      (pre++cc.take off++((cc.drop off).take (len*ti.size)++new')++(pre++cc++post).drop (off+l.shf+len*ti.size+new'.length)).toArray:=by
     simp only[Nat.add_zero]
     rw[show (pre++cc++post).toArray.toList.take (off+l.shf+len*ti.size)=pre++(cc.take off++(cc.drop off).take (len*ti.size)) by
      rw[show off+l.shf+len*ti.size=off+len*ti.size+pre.length by omega,take_mid hfit1,List.take_add]]
     simp[List.append_assoc]
    rw[hY]at hst
    have hrr:=hrun.room (base:=some ⟨l.blk,off+l.shf,none⟩) hn1 hroom (by dsimp only;rw[kfk];exact hst)
    have hmv:=m.move (w':=w.setRow l.blk _) (l':=⟨l.blk,l.shf+off,cap+l.ext-(len+n)⟩) (b':=.cells ((c.drop off).take (len*ti.size)++new) e true) hkb hl hc1 rfl (by simp) (fun q hq=>setRow_other _ _ _ _ hq)
     ⟨pre++cc.take off,(cc.drop off).take (len*ti.size)++new',(pre++cc++post).drop (off+l.shf+len*ti.size+new'.length),by
      rw[setRow_heap w l.blk _ _ e (0,0) g1],by simp only[List.length_append,List.length_take];omega,
      ((((g3.drop off).take _).append hn2).mono (m.upd_le _)),fun _=>⟨ti,hti,by
        simp only[List.length_drop,List.length_append];rw[Nat.sub_mul,Nat.add_mul,Nat.add_mul]
        omega⟩⟩ rfl rfl rfl
    refine⟨_,_,_,hrr,?_,hmv.1,hmv.2⟩
    have:=VR.opn (off:=0) (s:=0) (n:=len+n) (c:=len+n) (kdb ι h.next ⟨l.blk,l.shf+off,cap+l.ext-(len+n)⟩)
    dsimp only at this
    rw[show 0+(l.shf+off)=off+l.shf by omega,show len+n+(cap+l.ext-(len+n))=c' by omega]at this
    exact this
   ·obtain⟨hk1,hk2⟩:=m.kill k
    exact grow _ hk1 _ c' hs (by omega) hk2 rfl
  ·rename_i hno
   cases he
   rcases hs.inv_slice with ⟨_,rfl⟩|⟨k',off',sp',l,c',ha,hl,rfl,hc'⟩
   ·exact grow h m none cap hs (by omega) (.refl m) rfl
   ·cases sp' with
    | some sp=>exact absurd ha (hno _ _ _)
    | none=>
     simp at hc'
     exact grow h m _ c' hs (by omega) (.refl m) rfl
end
section
variable {T:Tab} {P:Program} {ι : In} {h h':Hp} {w w':World} {t:TypeId} {i:TI} {x x' v:Value}
theorem eCopy_ok (hT:TabOk T P)(m:M T ι h w){ts:List TypeId}{ty:TypeId}{d d' s s':Value}(hd:VR ι d d')(hs:VR ι s s')(he:eCopy T h t d s=some (v,h')) :
  ∃ ι' v' w',(Builtin.copy_ (t::ts).toArray ty #[d',s']).run P w=.ok v' w'∧VR ι' v v'∧M T ι' h' w'∧Evo ι h w ι' h' w':=by
 unfold eCopy at he
 split at he
 case h_2=>cases he
 rename_i e _ _ _ _ base len cap sb n sc hty
 have hu:=(hT.ty _ _ hty).und
 split at he
 case h_2=>cases he
 rename_i ti hti
 have hk:=hT.ty _ _ hti
 have hmin:(bif Nat.ble n len then n else len)=Nat.min n len:=by
  rw[cond_eq_ite];simp only[Nat.ble_eq];rfl
 dsimp only at he
 rw[hmin]at he
 split at he
 case h_2=>cases he
 rename_i cs hcs
 obtain⟨cs',hn1,hn2⟩:=cells_ok (P:=P) m hs hcs
 have hs2:∃b c,s'=.slice b n c:=by
  rcases hs.inv_slice with ⟨_,h2⟩|⟨_,_,_,_,_,_,_,h2,_⟩
  ·exact⟨_,_,h2⟩
  ·exact⟨_,_,h2⟩
 obtain⟨b',c',rfl⟩:=hs2
 split at he
 ·rename_i k off sp
  split at he
  case h_2=>cases he
  rename_i h2 hst
  cases he
  rcases hd.inv_slice with ⟨ha,_⟩|⟨k',off',sp',l,dc,ha,hl,rfl,hc'⟩
  ·cases ha
  cases ha;obtain⟨w',h1,h3,h4⟩:=m.st hl hst hn2 P
  refine⟨ι,goInt (Nat.min n len),w',?_,.leaf rfl,h3,h4⟩
  simp only[Builtin.copy_,List.getElem?_toArray,List.getElem?_cons_zero,List.getElem?_cons_succ,Sem.run_bind,run_underlying hu,Result.andThen_ok,hk.run_size,Builtin.lenOf,Sem.run_pure,hn1];rw[h1];rfl
 ·cases he
  rcases hd.inv_slice with ⟨_,rfl⟩|⟨k',off',sp',l,dc,ha,_⟩
  case inr=>cases ha
  refine⟨ι,goInt (Nat.min n len),w,?_,.leaf rfl,m,.refl m⟩
  simp only[Builtin.copy_,List.getElem?_toArray,List.getElem?_cons_zero,List.getElem?_cons_succ,Sem.run_bind,run_underlying hu,Result.andThen_ok,hk.run_size,Builtin.lenOf,Sem.run_pure,hn1]
theorem eClear_ok (hT:TabOk T P)(m:M T ι h w){ts:List TypeId}{ty:TypeId}(hx:VR ι x x')(he:eClear T h t x=some (v,h')) :
  ∃ ι' v' w',(Builtin.clear_ (t::ts).toArray ty #[x']).run P w=.ok v' w'∧VR ι' v v'∧M T ι' h' w'∧Evo ι h w ι' h' w':=by
 unfold eClear at he
 split at he
 ·rename_i e _ _ _ _ k off sp n cap hty
  have hu:=(hT.ty _ _ hty).und
  split at he
  case h_2=>cases he
  rename_i ti hti
  have hk:=hT.ty _ _ hti
  split at he
  case h_2=>cases he
  rename_i h2 hst
  cases he
  rcases hx.inv_slice with ⟨ha,_⟩|⟨k',off',sp',l,dc,ha,hl,rfl,hc'⟩
  ·cases ha
  cases ha;obtain⟨z,hz1,hz2⟩:∃z,(zeroValue e).run P w=.ok z w∧z.cells=ti.zero.toArray:=⟨_,hk.run_zero,hk.zero_cells⟩;obtain⟨w',h1,h3,h4⟩:=m.st hl hst (LR.leaves (kje hk.leaf n)) P
  cases n with
  | zero=>
   have hw:w'=w:=by
    simp only[rep]at h1;simp only[storeCells,Sem.run_pure,Result.ok.injEq,true_and]at h1
    exact h1.symm
   subst hw
   exact⟨ι,_,w',by simp[Builtin.clear_,run_underlying hu],.tuple rfl (fun i v v' x _=>by simp at x),h3,h4⟩
  | succ n=>
   refine⟨ι,.tuple #[],w',?_,.tuple rfl (fun i v v' x _=>by simp at x),h3,h4⟩
   simp only[Builtin.clear_,List.getElem?_toArray,List.getElem?_cons_zero,Sem.run_bind,run_underlying hu,Result.andThen_ok,hz1,hz2,kio];rw[h1];rfl
 ·rename_i e _ _ _ _ n cap hty
  have hu:=(hT.ty _ _ hty).und;cases he
  rcases hx.inv_slice with ⟨_,rfl⟩|⟨k',off',sp',l,dc,ha,_⟩
  case inr=>cases ha
  exact⟨ι,_,w,by simp[Builtin.clear_,run_underlying hu],.tuple rfl (fun i v v' x _=>by simp at x),m,.refl m⟩
 ·cases he
theorem eLen_ok (hT:TabOk T P){ty:TypeId}{ts:List TypeId}(hx:VR ι x x')(he:eLen T t x=some v):∃v',(Builtin.len_ (t::ts).toArray ty #[x']).run P w=.ok v' w∧VR ι v v':=by
 unfold eLen at he
 split at he
 ·rename_i n e _ _ _ _ hty
  have hu:=(hT.ty _ _ hty).und;cases he
  exact⟨_,by simp[Builtin.len_,run_underlying hu],.leaf rfl⟩
 ·rename_i hty
  have hu:=(hT.ty _ _ hty).und;cases he
  rcases hx.inv_slice with ⟨_,rfl⟩|⟨_,_,_,_,_,_,_,rfl,_⟩
  ·exact⟨_,by simp[Builtin.len_,run_underlying hu],.leaf rfl⟩
  ·exact⟨_,by simp[Builtin.len_,run_underlying hu],.leaf rfl⟩
 ·rename_i hty
  have hu:=(hT.ty _ _ hty).und;cases he;rw[hx.inv_leaf rfl]
  exact⟨_,by simp[Builtin.len_,run_underlying hu],.leaf rfl⟩
 ·cases he
theorem eCap_ok (hT:TabOk T P){ty:TypeId}{ts:List TypeId}(hx:VR ι x x')(he:eCap T t x=some v):∃v',(Builtin.cap_ (t::ts).toArray ty #[x']).run P w=.ok v' w∧VR ι v v':=by
 unfold eCap at he
 split at he
 ·rename_i n e _ _ _ _ hty
  have hu:=(hT.ty _ _ hty).und;cases he
  exact⟨_,by simp[Builtin.cap_,run_underlying hu],.leaf rfl⟩
 ·rename_i hty
  have hu:=(hT.ty _ _ hty).und;cases he
  rcases hx.inv_slice with ⟨_,rfl⟩|⟨_,_,_,_,_,ha,_⟩
  ·exact⟨_,by simp[Builtin.cap_,run_underlying hu],.leaf rfl⟩
  ·cases ha
 ·rename_i hty
  have hu:=(hT.ty _ _ hty).und;cases he
  rcases hx.inv_slice with ⟨ha,_⟩|⟨_,_,_,_,_,ha,_,rfl,hc⟩
  ·cases ha
  ·cases ha
   simp at hc
   subst hc
   exact⟨_,by simp[Builtin.cap_,run_underlying hu],.leaf rfl⟩
 ·cases he
theorem minL_ok {k:IntKind}:∀ {a b:Int} {l l':List Value},LR ι l l'→minL a l=some b→(l'.foldlM Builtin.min2 (.int k a)).run P w=.ok (.int k b) w
 | a,b,[],l',hl,h=>by
  simp only[minL,Option.some.injEq]at h;rw[hl.inv_nil,h];rfl
 | a,b,v::l,l',hl,h=>by
  cases v<;>simp only[minL]at h<;>try (cases h;done)
  obtain⟨v',m,rfl,hv,hm⟩:=hl.inv_cons;rw[hv.inv_int,List.foldlM_cons];simp only[Builtin.min2,Sem.run_bind,Sem.run_pure,Result.andThen_ok]
  exact minL_ok hm h
theorem maxL_ok {k:IntKind}:∀ {a b:Int} {l l':List Value},LR ι l l'→maxL a l=some b→(l'.foldlM Builtin.max2 (.int k a)).run P w=.ok (.int k b) w
 | a,b,[],l',hl,h=>by
  simp only[maxL,Option.some.injEq]at h;rw[hl.inv_nil,h];rfl
 | a,b,v::l,l',hl,h=>by
  cases v<;>simp only[maxL]at h<;>try (cases h;done)
  obtain⟨v',m,rfl,hv,hm⟩:=hl.inv_cons;rw[hv.inv_int,List.foldlM_cons];simp only[Builtin.max2,Sem.run_bind,Sem.run_pure,Result.andThen_ok]
  exact maxL_ok hm h
theorem eBuiltinP_ok (hT:TabOk T P){b:Builtin}{ts:List TypeId}{ty:TypeId}{cs:Array Bool}{args args':List Value}(ha:LR ι args args')(he:koa T b ts args=some v) :
  ∃v',(builtin b ts.toArray ty cs args'.toArray).run P w=.ok (.value v') w∧VR ι v v':=by
 unfold koa at he
 split at he
 ·obtain⟨x',m,rfl,hx,hm⟩:=ha.inv_cons
  rw[hm.inv_nil]
  rename_i t ts x
  obtain⟨v',h1,h2⟩:=eLen_ok (w:=w) (ty:=ty) (ts:=ts) hT hx he
  refine⟨v',?_,h2⟩
  simp only[builtin,Sem.run_bind]
  rw[show #[x']=[x'].toArray from rfl]at h1
  rw[h1];rfl
 ·obtain⟨x',m,rfl,hx,hm⟩:=ha.inv_cons
  rw[hm.inv_nil]
  rename_i t ts x
  obtain⟨v',h1,h2⟩:=eCap_ok (w:=w) (ty:=ty) (ts:=ts) hT hx he
  refine⟨v',?_,h2⟩
  simp only[builtin,Sem.run_bind]
  rw[show #[x']=[x'].toArray from rfl]at h1
  rw[h1];rfl
 ·obtain⟨x',m,rfl,hx,hm⟩:=ha.inv_cons
  rename_i k a r
  simp only[Option.map_eq_some_iff]at he;obtain⟨b,hb,rfl⟩:=he;rw[hx.inv_int]
  refine⟨_,?_,.leaf rfl⟩
  simp only[builtin,Sem.run_bind,Builtin.min_,minL_ok hm hb,Result.andThen_ok]
  rfl
 ·obtain⟨x',m,rfl,hx,hm⟩:=ha.inv_cons
  rename_i k a r
  simp only[Option.map_eq_some_iff]at he;obtain⟨b,hb,rfl⟩:=he;rw[hx.inv_int]
  refine⟨_,?_,.leaf rfl⟩
  simp only[builtin,Sem.run_bind,Builtin.max_,maxL_ok hm hb,Result.andThen_ok]
  rfl
 ·cases he
theorem eBuiltin_ok (hT:TabOk T P)(m:M T ι h w){b:Builtin}{ts:List TypeId}{ty:TypeId}{cs:Array Bool}{args args':List Value}(ha:LR ι args args')(he:kjy T h b ts args=some (v,h')) :
  ∃ ι' v' w',(builtin b ts.toArray ty cs args'.toArray).run P w=.ok (.value v') w'∧VR ι' v v'∧M T ι' h' w'∧Evo ι h w ι' h' w':=by
 unfold kjy at he
 split at he
 ·obtain⟨x',m1,rfl,hx,hm⟩:=ha.inv_cons
  obtain⟨y',m2,rfl,hy,hm2⟩:=hm.inv_cons;rw[hm2.inv_nil];obtain⟨ι',v',w',h1,h2⟩:=eAppend_ok (ty:=ty) hT m hx hy he
  refine⟨ι',v',w',?_,h2⟩
  simp only[builtin,Sem.run_bind];rw[h1];rfl
 ·obtain⟨x',m1,rfl,hx,hm⟩:=ha.inv_cons
  obtain⟨y',m2,rfl,hy,hm2⟩:=hm.inv_cons;rw[hm2.inv_nil];obtain⟨ι',v',w',h1,h2⟩:=eCopy_ok (ty:=ty) hT m hx hy he
  refine⟨ι',v',w',?_,h2⟩
  simp only[builtin,Sem.run_bind];rw[h1];rfl
 ·obtain⟨x',m1,rfl,hx,hm⟩:=ha.inv_cons
  rw[hm.inv_nil];obtain⟨ι',v',w',h1,h2⟩:=eClear_ok (ty:=ty) hT m hx he
  refine⟨ι',v',w',?_,h2⟩
  simp only[builtin,Sem.run_bind]
  rw[show #[x']=[x'].toArray from rfl]at h1
  rw[h1];rfl
 ·cases he
theorem keyT_ok (hT:TabOk T P)(hq:keyT T t=true):∃k,P.underlying t=some (.int k):=by
 unfold keyT at hq
 split at hq
 ·rename_i hq2;exact⟨_,(hT.ty _ _ hq2).und⟩
 ·cases hq
theorem kll {k:IntKind}(hu:P.underlying t=some (.int k))(e:Bool)(d:Nat)(q:IntKind)(n:Int):(Instr.checkKey e (d+1) t (.int q n)).run P w=.ok () w:=by
 simp[Instr.checkKey,run_underlying hu]
theorem keh {r:Nat}{es:Array MapEntry}{c:Nat}(h:w.heap[r]?=some (.map es c)):(getObj r).run P w=.ok (.map es c) w:=by
 simp[getObj,Sem.run,h]
theorem run_setMap {r:Nat}{es:Array MapEntry}{c:Nat}{o:Obj}(h:w.heap[r]?=some (.map es c)):(setObj r o).run P w=.ok () { w with heap:=w.heap.setIfInBounds r o }:=by
 simp[setObj,Sem.run,h]
theorem ER.inv_cons {k:Value}{b:Nat}{es:List (Value × Value × Nat)}{es':List MapEntry}(h:ER ι ((k,v,b)::es) es') :
  ∃e r,es'=e::r∧e.key=k∧(∃q n,k=.int q n)∧VR ι v e.val∧e.born=b∧ER ι es r:=by
 cases es' with
 | nil=>have:=h.1;simp at this
 | cons e r=>
  obtain⟨h1,h2,h3,h4⟩:=h.2 0 k v b e rfl rfl
  exact⟨e,r,rfl,h1,h2,h3,h4,by have:=h.1;simpa using this,fun i k v b e x y=>h.2 (i+1) k v b e (by simpa using x) (by simpa using y)⟩
theorem ER.cons {k:Value}{b:Nat}{es:List (Value × Value × Nat)}{es':List MapEntry}{e:MapEntry}(h1:e.key=k)(h2:∃q n,k=.int q n)(h3:VR ι v e.val)(h4:e.born=b)(h:ER ι es es') :
  ER ι ((k,v,b)::es) (e::es'):=by
 refine⟨by simp[h.1],fun i k' v' b' e' x y=>?_⟩
 cases i with
 | zero=>
  simp at x y
  obtain⟨rfl,rfl,rfl⟩:=x;subst y
  exact⟨h1,h2,h3,h4⟩
 | succ i=>exact h.2 i k' v' b' e' (by simpa using x) (by simpa using y)
theorem ER.nil:ER ι [] []:=⟨rfl,fun i k v b e x=>by simp at x⟩
theorem kgy {kk q:IntKind}{n:Int}{k:Value}{r:Bool}(h:keyEq (.int q n) k=some r):Instr.sameNow (.int kk) (.int q n) k=some r:=by
 cases k<;>simp[keyEq]at h
 simp[Instr.sameNow,h]
theorem mfind_ok {kk q:IntKind}{n:Int}:∀ {es:List (Value × Value × Nat)} {es':List MapEntry} {o:Option Value} (i:Nat),ER ι es es'→mfind (.int q n) es=some o →
  (o=none∧Instr.findNow (.int kk) (.int q n) es' i=some none)∨∃v v' j,o=some v∧Instr.findNow (.int kk) (.int q n) es' i=some (some (j,v'))∧VR ι v v'
 | [],es',o,i,he,hf=>by
  have:es'=[]:=List.length_eq_zero_iff.1 he.1.symm
  subst this;simp only[mfind,Option.some.injEq]at hf
  exact .inl ⟨hf.symm,rfl⟩
 | (k,v,b)::es,es',o,i,he,hf=>by
  obtain⟨e,r,rfl,h1,h2,h3,h4,h5⟩:=he.inv_cons;unfold mfind at hf
  split at hf
  ·rename_i hk
   cases hf
   refine .inr ⟨v,e.val,i,rfl,?_,h3⟩
   unfold Instr.findNow;rw[h1,kgy hk]
  ·rename_i hk
   have ih:=mfind_ok (kk:=kk) (i+1) h5 hf;unfold Instr.findNow;rw[h1,kgy hk]
   exact ih
  ·cases hf
theorem M.mapAt (m:M T ι h w){k:Nat}{l:Loc}{es:List (Value × Value × Nat)}{c:Nat}(hl:ι k=some l)(hk:h.tr.get k=some (.map es c)):∃es',w.heap[l.blk]?=some (.map es' c)∧ER ι es es'.toList:=by
 obtain⟨l',h1,h2⟩:=m.at_ k _ hk;rw[hl]at h1;cases h1
 exact h2
theorem eLookup_ok (hT:TabOk T P)(m:M T ι h w){k k':Value}{ok:Bool}(hx:VR ι x x')(hk:VR ι k k')(he:eLookup T h t x k ok=some (v,h')) :
  h'=h∧∃v',(Instr.lookup t x' k' ok).run P w=.ok v' w∧VR ι v v':=by
 unfold eLookup at he
 split at he
 case h_2=>cases he
 rename_i kt e _ _ _ _ hty
 have hu:=run_underlying (hT.ty _ _ hty).und w;rw[cond_eq_ite]at he
 split at he
 ·cases he
 rename_i hkt
 have hkt':keyT T kt=true:=by simpa using hkt
 obtain⟨kk,hkk⟩:=keyT_ok hT hkt'
 split at he
 case h_2=>cases he
 rename_i ti r q n hti
 have hk2:=hT.ty _ _ hti;obtain⟨l,hl,rfl⟩:=hx.inv_map
 split at he
 case h_2=>cases he
 rename_i es c hm
 obtain⟨es',hes1,hes2⟩:=m.mapAt hl hm
 split at he
 case h_2=>cases he
 rename_i o ho
 rw[hk.inv_int]
 have hck:=fun e=>kll (w:=w) hkk e 9999 q n
 have hz:=hk2.run_zero (w:=w)
 have hzv:∃z',(zeroValue e).run P w=.ok z' w∧VR ι (bif ti.agg then .agg ti.zero.toArray else ti.zero.headD undef) z':=by
  refine⟨_,hz,?_⟩
  cases ha:ti.agg with
  | true=>exact VR.agg' (LR.leaves hk2.leaf)
  | false=>
   have h1:=hk2.one ha;have h2:=hk2.leaf
   cases hz:ti.zero with
   | nil=>simp[hz]at h1
   | cons v l=>
    simp only[hz,List.all_cons,Bool.and_eq_true]at h2
    exact .leaf h2.1
 obtain⟨z',hz1,hz2⟩:=hzv
 rcases mfind_ok (kk:=kk) 0 hes2 ho with ⟨rfl,hf⟩|⟨u,u',j,rfl,hf,hu2⟩
 ·simp only[Option.getD_none,Option.isSome_none]at he
  have hfk:(Instr.findKey kt (.int q n) es'.toList).run P w=.ok none w:=by
   simp[Instr.findKey,run_underlying hkk,hf]
  cases ok<;>simp only[cond_true,cond_false,Option.some.injEq,Prod.mk.injEq]at he<;>obtain⟨rfl,rfl⟩:=he
  ·refine⟨rfl,z',?_,hz2⟩
   simp only[Instr.lookup,Sem.run_bind,hu,Result.andThen_ok,keh hes1,Sem.run_pure]
   rw[show Instr.checkKey es'.isEmpty 10000 kt (.int q n)=Instr.checkKey es'.isEmpty (9999+1) kt (.int q n) from rfl,hck,Result.andThen_ok,hfk]
   simp[hz1]
  ·refine⟨rfl,.tuple #[z',.bool false],?_,VR.tuple' (.cons hz2 (.cons (.leaf rfl) .nil))⟩
   simp only[Instr.lookup,Sem.run_bind,hu,Result.andThen_ok,keh hes1,Sem.run_pure]
   rw[show Instr.checkKey es'.isEmpty 10000 kt (.int q n)=Instr.checkKey es'.isEmpty (9999+1) kt (.int q n) from rfl,hck,Result.andThen_ok,hfk]
   simp[hz1]
 ·simp only[Option.getD_some,Option.isSome_some]at he
  have hfk:(Instr.findKey kt (.int q n) es'.toList).run P w=.ok (some (j,u')) w:=by
   simp[Instr.findKey,run_underlying hkk,hf]
  cases ok<;>simp only[cond_true,cond_false,Option.some.injEq,Prod.mk.injEq]at he<;>obtain⟨rfl,rfl⟩:=he
  ·refine⟨rfl,u',?_,hu2⟩
   simp only[Instr.lookup,Sem.run_bind,hu,Result.andThen_ok,keh hes1,Sem.run_pure]
   rw[show Instr.checkKey es'.isEmpty 10000 kt (.int q n)=Instr.checkKey es'.isEmpty (9999+1) kt (.int q n) from rfl,hck,Result.andThen_ok,hfk]
   simp
  ·refine⟨rfl,.tuple #[u',.bool true],?_,VR.tuple' (.cons hu2 (.cons (.leaf rfl) .nil))⟩
   simp only[Instr.lookup,Sem.run_bind,hu,Result.andThen_ok,keh hes1,Sem.run_pure]
   rw[show Instr.checkKey es'.isEmpty 10000 kt (.int q n)=Instr.checkKey es'.isEmpty (9999+1) kt (.int q n) from rfl,hck,Result.andThen_ok,hfk]
   simp
theorem keyEq_true {q:IntKind}{n:Int}{k:Value}(h:keyEq (.int q n) k=some true):k=.int q n:=by
 cases k<;>simp[keyEq]at h
 obtain⟨rfl,rfl⟩:=h
 rfl
theorem mput_ok {kk q:IntKind}{n:Int}{v':Value}{clock:Nat}(hv:VR ι v v'):∀ {es:List (Value × Value × Nat)} {es':List MapEntry} {es2:List (Value × Value × Nat)} {g:Bool} (i:Nat),ER ι es es'→mput (.int q n) v clock es=some (es2,g) →
  (g=true∧Instr.findNow (.int kk) (.int q n) es' i=some none∧ER ι es2 (es'++[{ key:=.int q n,val:=v',born:=clock }])) ∨
  (g=false∧∃j u e,Instr.findNow (.int kk) (.int q n) es' i=some (some (i+j,u))∧es'[j]?=some e∧e.key=.int q n∧ER ι es2 (es'.modify j fun e=>{ e with key:=.int q n,val:=v' }))
 | [],es',es2,g,i,he,hf=>by
  have:es'=[]:=List.length_eq_zero_iff.1 he.1.symm
  subst this;simp only[mput,Option.some.injEq,Prod.mk.injEq]at hf;obtain⟨rfl,rfl⟩:=hf
  exact .inl ⟨rfl,rfl,.cons rfl ⟨_,_,rfl⟩ hv rfl .nil⟩
 | (k,u,b)::es,es',es2,g,i,he,hf=>by
  obtain⟨e,r,rfl,h1,h2,h3,h4,h5⟩:=he.inv_cons;unfold mput at hf
  split at hf
  ·rename_i hk
   simp only[Option.some.injEq,Prod.mk.injEq]at hf;obtain⟨rfl,rfl⟩:=hf;have hkq:=keyEq_true hk
   refine .inr ⟨rfl,0,e.val,e,?_,rfl,by rw[h1,hkq],?_⟩
   ·unfold Instr.findNow
    rw[h1,kgy hk];rfl
   ·simp only[List.modify_zero_cons]
    exact .cons rfl ⟨_,_,rfl⟩ hv h4 h5
  ·rename_i hk
   simp only[Option.map_eq_some_iff]at hf;obtain⟨⟨r2,g2⟩,hr2,hf⟩:=hf;simp only[Prod.mk.injEq]at hf;obtain⟨rfl,rfl⟩:=hf
   rcases mput_ok (kk:=kk) hv (i+1) h5 hr2 with ⟨rfl,a1,a2⟩|⟨rfl,j,u0,e0,a1,a2,a3,a4⟩
   ·refine .inl ⟨rfl,?_,.cons h1 h2 h3 h4 a2⟩
    unfold Instr.findNow;rw[h1,kgy hk];exact a1
   ·refine .inr ⟨rfl,j+1,u0,e0,?_,by simpa using a2,a3,?_⟩
    ·unfold Instr.findNow
     rw[h1,kgy hk];dsimp only;rw[a1]
     congr 3;omega
    ·simp only[List.modify_succ_cons]
     exact .cons h1 h2 h3 h4 a4
  ·cases hf
theorem sameBits_int (d:Nat)(q:IntKind)(n:Int):Instr.sameBits d (.int q n) (.int q n)=true:=by
 cases d<;>simp[Instr.sameBits]
theorem kjv (hT:TabOk T P)(m:M T ι h w){k k' u u':Value}(hx:VR ι x x')(hk:VR ι k k')(hu:VR ι u u')(he:kkq T h t x k u=some (v,h')) :
  v=undef∧∃w',(Instr.mapUpdate t x' k' u').run P w=.ok () w'∧M T ι h' w'∧Evo ι h w ι h' w':=by
 unfold kkq at he
 split at he
 case h_2=>cases he
 rename_i kt e _ _ _ _ r q n hty
 have hun:=run_underlying (hT.ty _ _ hty).und w;rw[cond_eq_ite]at he
 split at he
 ·cases he
 rename_i hkt
 have hkt':keyT T kt=true:=by simpa using hkt
 obtain⟨kk,hkk⟩:=keyT_ok hT hkt';obtain⟨l,hl,rfl⟩:=hx.inv_map
 split at he
 case h_2=>cases he
 rename_i es c hm
 obtain⟨es',hes1,hes2⟩:=m.mapAt hl hm
 split at he
 case h_2=>cases he
 rename_i es2 g hg
 simp only[Option.map_eq_some_iff,Prod.mk.injEq]at he;obtain⟨h2,hset,rfl,rfl⟩:=he
 refine⟨rfl,?_⟩
 rw[hk.inv_int];have hck:=kll (w:=w) hkk false 9999 q n;unfold setB at hset;rw[cond_eq_ite]at hset
 split at hset
 case isFalse=>cases hset
 rename_i hw
 simp only[Nat.ble_eq]at hw;cases hset
 have hlt:l.blk<w.heap.size:=(Array.getElem?_eq_some_iff.1 hes1).1
 have fin:∀(ea:Array MapEntry) (cl:Nat),ER ι es2 ea.toList→M T ι { h with tr:=h.tr.set r (some (.map es2 cl)) } { w with heap:=w.heap.setIfInBounds l.blk (.map ea cl) }∧Evo ι h w ι { h with tr:=h.tr.set r (some (.map es2 cl)) } { w with heap:=w.heap.setIfInBounds l.blk (.map ea cl) }:=fun ea cl hea=>
  m.put hm hl hw (by simp) (fun q hq=>by simp[Array.getElem?_setIfInBounds,Ne.symm hq]) ⟨ea,by simp[hlt],hea⟩ rfl rfl rfl
 rcases mput_ok (kk:=kk) hu 0 hes2 hg with ⟨rfl,a1,a2⟩|⟨rfl,j,u0,e0,a1,a2,a3,a4⟩
 ·obtain⟨f1,f2⟩:=fin (es'.push { key:=.int q n,val:=u',born:=c }) (c+1) (by simpa using a2)
  refine⟨_,?_,f1,f2⟩
  have hfk:(Instr.findKey kt (.int q n) es'.toList).run P w=.ok none w:=by
   simp[Instr.findKey,run_underlying hkk,a1]
  simp only[Instr.mapUpdate,Sem.run_bind,hun,Result.andThen_ok,keh hes1]
  rw[show Instr.checkKey false 10000 kt (.int q n)=Instr.checkKey false (9999+1) kt (.int q n) from rfl,hck,Result.andThen_ok,hfk]
  simp[run_setMap hes1]
 ·obtain⟨f1,f2⟩:=fin (es'.modify j fun e=>{ e with key:=.int q n,val:=u' }) c (by simpa using a4)
  refine⟨_,?_,f1,f2⟩
  have hfk:(Instr.findKey kt (.int q n) es'.toList).run P w=.ok (some (j,u0)) w:=by
   simp only[Nat.zero_add]at a1
   simp[Instr.findKey,run_underlying hkk,a1]
  have ha2:es'[j]?=some e0:=by simpa using a2
  simp only[Instr.mapUpdate,Sem.run_bind,hun,Result.andThen_ok,keh hes1]
  rw[show Instr.checkKey false 10000 kt (.int q n)=Instr.checkKey false (9999+1) kt (.int q n) from rfl,hck,Result.andThen_ok,hfk]
  simp[run_setMap hes1,ha2,a3,Instr.keyThatStays,sameBits_int]
end
end Go.Ev
