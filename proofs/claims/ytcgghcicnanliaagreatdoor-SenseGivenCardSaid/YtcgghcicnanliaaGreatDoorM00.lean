/- An evaluator of closed runs: its words; An evaluator of closed runs: what its values and blocks stand for; An evaluator of closed runs. Conditions: as each statement says. -/
import Derived.AtR
import Derived.Orders
import Derived.Laws.CopyRow
import Derived.Laws.Cells
import Derived.Laws.Entries
import Derived.Deep.MidRow
set_option linter.unusedVariables false
set_option linter.unusedSimpArgs false
namespace Go.Ev
inductive Vt where
 | leaf
 | node (v:Value) (l r:Vt)
 deriving Inhabited
def Vt.get:Vt→Nat→Value
 | .leaf,_=>undef
 | .node v l r,n=>
  match n with
  | 0=>v
  | m+1=>bif Nat.beq (m % 2) 0 then l.get (m / 2) else r.get (m / 2)
def Vt.setF:Nat→Vt→Nat→Value→Vt
 | 0,t,_,_=>t
 | f+1,t,n,b=>
  match n with
  | 0=>match t with
   | .leaf=>.node b .leaf .leaf
   | .node _ l r=>.node b l r
  | m+1=>match t with
   | .leaf=>bif Nat.beq (m % 2) 0 then .node undef (Vt.setF f .leaf (m / 2) b) .leaf else .node undef .leaf (Vt.setF f .leaf (m / 2) b)
   | .node v l r=>bif Nat.beq (m % 2) 0 then .node v (Vt.setF f l (m / 2) b) r else .node v l (Vt.setF f r (m / 2) b)
structure VT where
 n:Nat
 t:Vt
 deriving Inhabited
def VT.length (x:VT):Nat:=x.n
def VT.get (x:VT)(i:Nat):Option Value:=bif Nat.ble (i+1) x.n then some (x.t.get i) else none
def VT.set (x:VT)(i:Nat)(v:Value):VT:=bif Nat.ble (i+1) x.n then { x with t:=Vt.setF (i+1) x.t i v } else x
def Vt.fill:Vt→Nat→List Value→Vt
 | t,_,[]=>t
 | t,i,v::vs=>Vt.fill (Vt.setF (i+1) t i v) (i+1) vs
inductive Blk where
 | cells (c:List Value) (elem:TypeId) (opn:Bool)
 | map (es:List (Value × Value × Nat)) (clock:Nat)
 | loop (st:LoopState) (pend:Option Code) (fn:FuncId) (tmps:VT) (params:List Tmp) (assign body:Code) (defers:Nat)
 | defd (taken:Bool)
 deriving Inhabited
inductive Tr where
 | leaf
 | node (v:Option Blk) (l r:Tr)
 deriving Inhabited
def Tr.get:Tr→Nat→Option Blk
 | .leaf,_=>none
 | .node v l r,n=>
  match n with
  | 0=>v
  | m+1=>bif Nat.beq (m % 2) 0 then l.get (m / 2) else r.get (m / 2)
def Tr.setF:Nat→Tr→Nat→Option Blk→Tr
 | 0,t,_,_=>t
 | f+1,t,n,b=>
  match n with
  | 0=>match t with
   | .leaf=>.node b .leaf .leaf
   | .node _ l r=>.node b l r
  | m+1=>match t with
   | .leaf=>bif Nat.beq (m % 2) 0 then .node none (Tr.setF f .leaf (m / 2) b) .leaf else .node none .leaf (Tr.setF f .leaf (m / 2) b)
   | .node v l r=>bif Nat.beq (m % 2) 0 then .node v (Tr.setF f l (m / 2) b) r else .node v l (Tr.setF f r (m / 2) b)
def Tr.set (t:Tr)(n:Nat)(b:Option Blk):Tr:=Tr.setF (n+1) t n b
structure Hp where
 tr:Tr
 next:Nat
 wall:Nat
 deriving Inhabited
structure TI where
 desc:TypeDesc
 size:Nat
 bytes:Nat
 zero:List Value
 agg:Bool
 deriving Inhabited
structure FI where
 ntmps:Nat
 code:Code
 results:List ResultVar
 deriving Inhabited
structure Tab where
 ty:TypeId→Option TI
 fn:FuncId→Option FI
 orc:FuncId→Option (List Value→Hp→Option (Value × Hp)):=fun _=>none
def kdf:Value→List Value
 | .agg cs=>cs.toList
 | v=>[v]
def kbx:Value→Bool
 | .bool _|.int ..|.float ..|.complex ..|.string _|.pointer none|.slice none _ _|.map none|.chan none|.nilFunc|.nilIface=>true
 | .func (.func _) a b=>a.toList.isEmpty&&b.toList.isEmpty
 | _=>false
def kee:Value→Bool
 | .agg cs=>cs.toList.all kbx
 | .tuple cs=>cs.toList.all kbx
 | v=>kbx v
def ld (h:Hp)(k off:Nat):Option Value:=
 match h.tr.get k with
 | some (.cells c _ _)=>c[off]?
 | _=>none
def ldN (h:Hp)(k off n:Nat):Option (List Value):=
 match h.tr.get k with
 | some (.cells c _ _)=>let r:=(c.drop off).take n;bif Nat.beq r.length n then some r else none
 | _=>none
def keo:List Value→Nat→List Value→Option (List Value)
 | c,_,[]=>some c
 | [],_,_::_=>none
 | _::c,0,v::vs=>(keo c 0 vs).map (v::·)
 | x::c,n+1,vs=>(keo c n vs).map (x::·)
def kjd:List Value→List Value→Bool
 | [],[]=>true
 | .int j a::r,.int k b::s=>(match j,k with|.i64,.i64=>decide (a=b)|_,_=>false)&&kjd r s
 | .bool a::r,.bool b::s=>(bif a then b else !b)&&kjd r s
 | _,_=>false
def st (h:Hp)(k off:Nat)(vs:List Value):Option Hp:=
 match h.tr.get k with
 | some (.cells c e o)=>
  bif Nat.ble h.wall k then
   bif vs.all (·.oneCell') then
    (match keo c off vs with
    | some c'=>some { h with tr:=h.tr.set k (some (.cells c' e o)) }
    | none=>none) else none
  else bif kjd ((c.drop off).take vs.length) vs then some h else none
 | _=>none
def setB (h:Hp)(k:Nat)(b:Blk):Option Hp:=
 bif Nat.ble h.wall k then some { h with tr:=h.tr.set k (some b) } else none
def newB (h:Hp)(b:Blk):Hp:={ h with tr:=h.tr.set h.next (some b),next:=h.next+1 }
def opd (tmps:VT):Operand→Option Value
 | .tmp t=>tmps.get t
 | .const v=>bif kee v then some v else none
 | .global _=>none
 | .func f=>some (.func (.func f) #[] #[])
def opds (tmps:VT):List Operand→Option (List Value)
 | []=>some []
 | o::os=>match opd tmps o with
  | some v=>match opds tmps os with
   | some vs=>some (v::vs)
   | none=>none
  | none=>none
def opdO (tmps:VT):Option Operand→Option (Option Value)
 | none=>some none
 | some o=>match opd tmps o with
  | some v=>some (some v)
  | none=>none
def kii {α : Type}(P:Program):Sem α→Option α
 | .pure a=>some a
 | .program k=>kii P (k P)
 | .mark _ k=>kii P k
 | _=>none
def khk (P:Program)(s:Sem Value):Option Value:=
 match kii P s with
 | some v=>bif kbx v then some v else none
 | none=>none
def boolT (T:Tab)(t:TypeId):Bool:=match T.ty t with
 | some ⟨.bool,_,_,_,_⟩=>true
 | _=>false
def sliceT (T:Tab)(t:TypeId):Bool:=match T.ty t with
 | some ⟨.slice _,_,_,_,_⟩=>true
 | _=>false
def ptrT (T:Tab)(t:TypeId):Bool:=match T.ty t with
 | some ⟨.pointer _,_,_,_,_⟩=>true
 | _=>false
def keyT (T:Tab)(t:TypeId):Bool:=
 match T.ty t with
 | some ⟨.int _,_,_,_,_⟩=>true
 | _=>false
abbrev R:=Option (Value × Hp)
def kht (T:Tab)(h:Hp)(t:TypeId):Value→R
 | .pointer (some ⟨k,off,none⟩)=>match T.ty t with
  | some i=>bif i.agg then (match ldN h k off i.size with|some vs=>some (.agg vs.toArray,h)|none=>none)
   else (match ld h k off with|some v=>some (v,h)|none=>none)
  | none=>none
 | _=>none
def loadV (T:Tab)(h:Hp)(t:TypeId)(v:Value):Option Value:=(kht T h t v).map (·.1)
def knx (T:Tab)(h:Hp)(t:TypeId)(x:Value):Value→R
 | .pointer (some ⟨k,off,none⟩)=>match T.ty t with
  | some i=>bif Nat.beq (kdf x).length i.size then (match st h k off (kdf x) with|some h'=>some (undef,h')|none=>none) else none
  | none=>none
 | _=>none
def eAlloc (T:Tab)(h:Hp)(t:TypeId):R:=
 match T.ty t with
 | some i=>some (.pointer (some ⟨h.next,0,none⟩),newB h (.cells i.zero t false))
 | none=>none
def eBox (h:Hp)(t:TypeId)(v:Value):R:=some (.pointer (some ⟨h.next,0,none⟩),newB h (.cells (kdf v) t false))
def kdn (T:Tab)(s:TypeId)(f:Nat):Value→Option Value
 | .pointer (some ⟨k,off,none⟩)=>match T.ty s with
  | some ⟨.struct fs,_,_,_,_⟩=>match fs.toList[f]? with
   | some fd=>match T.ty fd.type with
    | some i=>bif Nat.beq i.size 0 then none else some (.pointer (some ⟨k,off+fd.offset,none⟩))
    | none=>none
   | none=>none
  | _=>none
 | _=>none
def inB (i:Int)(n:Nat):Bool:=match i with
 | .ofNat j=>Nat.ble (j+1) n
 | _=>false
def kce (T:Tab)(t:TypeId)(x ix:Value):Option Value:=
 match ix with
 | .int _ i=>match T.ty t,x with
  | some ⟨.array n e,_,_,_,_⟩,.pointer (some ⟨k,off,none⟩)=>match T.ty e with
   | some ti=>bif inB i n then some (.pointer (some ⟨k,off+i.toNat*ti.size,none⟩)) else none
   | none=>none
  | some ⟨.slice e,_,_,_,_⟩,.slice (some ⟨k,off,_⟩) n _=>match T.ty e with
   | some ti=>bif inB i n then some (.pointer (some ⟨k,off+i.toNat*ti.size,none⟩)) else none
   | none=>none
  | _,_=>none
 | _=>none
def partV (T:Tab)(t:TypeId)(cs:List Value)(off:Nat):Option Value:=
 match T.ty t with
 | some i=>bif i.agg then some (.agg ((cs.drop off).take i.size).toArray) else cs[off]?
 | none=>none
def eField (T:Tab)(t:TypeId)(f:Nat):Value→Option Value
 | .agg cs=>match T.ty t with
  | some ⟨.struct fs,_,_,_,_⟩=>match fs.toList[f]? with
   | some fd=>match partV T fd.type cs.toList fd.offset with
    | some v=>some (v)
    | none=>none
   | none=>none
  | _=>none
 | _=>none
def eIndex (T:Tab)(t:TypeId)(x ix:Value):Option Value:=
 match ix with
 | .int _ i=>match T.ty t,x with
  | some ⟨.string,_,_,_,_⟩,.string s=>bif inB i s.size then (match s[i.toNat]? with|some b=>some (.int .u8 b.toNat)|none=>none) else none
  | some ⟨.array n e,_,_,_,_⟩,.agg cs=>match T.ty e with
   | some ti=>bif inB i n then (match partV T e cs.toList (i.toNat*ti.size) with|some v=>some (v)|none=>none) else none
   | none=>none
  | _,_=>none
 | _=>none
def bnd (d:Nat):Option Value→Option Nat
 | none=>some d
 | some (.int _ (.ofNat n))=>some n
 | _=>none
def eSlice (T:Tab)(t:TypeId)(x:Value)(lo hi mx:Option Value):Option Value:=
 bif mx.isSome&&hi.isNone then none else
 match T.ty t,x with
 | some ⟨.slice e,_,_,_,_⟩,.slice (some ⟨k,off,sp⟩) len cap=>match T.ty e,bnd 0 lo,bnd len hi,bnd cap mx with
  | some ti,some l,some r,some m=>
   bif Nat.ble l r&&Nat.ble r m&&Nat.ble m cap then
    (match sp,mx with
     | some _,none=>bif Nat.beq m l then none else some (.slice (some ⟨k,off+l*ti.size,sp⟩) (r-l) (m-l))
     | _,_=>some (.slice (some ⟨k,bif Nat.beq m l then off else off+l*ti.size,none⟩) (r-l) (m-l)))
   else none
  | _,_,_,_=>none
 | some ⟨.slice e,_,_,_,_⟩,.slice none len cap=>match T.ty e,bnd 0 lo,bnd len hi,bnd cap mx with
  | some _,some l,some r,some m=>bif Nat.ble l r&&Nat.ble r m&&Nat.ble m cap then some (.slice none (r-l) (m-l)) else none
  | _,_,_,_=>none
 | some ⟨.array n e,_,_,_,_⟩,.pointer (some ⟨k,off,none⟩)=>match T.ty e,bnd 0 lo,bnd n hi,bnd n mx with
  | some ti,some l,some r,some m=>
   bif Nat.ble l r&&Nat.ble r m&&Nat.ble m n then some (.slice (some ⟨k,bif Nat.beq m l then off else off+l*ti.size,none⟩) (r-l) (m-l)) else none
  | _,_,_,_=>none
 | _,_=>none
def rep (z:List Value):Nat→List Value
 | 0=>[]
 | n+1=>z++rep z n
def kkr (T:Tab)(h:Hp)(t:TypeId):Value→Value→R
 | .int _ (.ofNat l),.int _ (.ofNat c)=>match T.ty t with
  | some ⟨.slice e,_,_,_,_⟩=>match T.ty e with
   | some ti=>bif Nat.ble l c&&Nat.ble (c*(ti.bytes+1)) 1000000&&Nat.beq ti.zero.length ti.size then
     some (.slice (some ⟨h.next,0,none⟩) l c,newB h (.cells (rep ti.zero c) e false)) else none
   | none=>none
  | _=>none
 | _,_=>none
def eFill (place:Nat→Option (Nat × Nat)):List Value→List (Nat × Value)→Option (List Value)
 | cells,[]=>some cells
 | cells,(i,v)::rest=>match place i with
  | some (off,size)=>bif Nat.beq (kdf v).length size&&!(kdf v).isEmpty then (match keo cells off (kdf v) with
    | some c=>eFill place c rest
    | none=>none) else none
  | none=>none
def opdP (tmps:VT):List (Nat × Operand)→Option (List (Nat × Value))
 | []=>some []
 | (i,o)::os=>match opd tmps o with
  | some v=>match opdP tmps os with
   | some vs=>some ((i,v)::vs)
   | none=>none
  | none=>none
def eBuild (T:Tab)(t:TypeId)(parts:List (Nat × Value)):Option Value:=
 match T.ty t with
 | some ⟨.struct fs,_,_,z,_⟩=>bif !fs.toList.all (fun f=>(T.ty f.type).isSome) then none else match eFill (fun i=>match fs.toList[i]? with
   | some f=>(T.ty f.type).map fun ti=>(f.offset,ti.size)
   | none=>none) z parts with
  | some cs=>some (.agg cs.toArray)
  | none=>none
 | some ⟨.array _ e,_,_,z,_⟩=>match T.ty e with
  | some ti=>match eFill (fun i=>some (i*ti.size,ti.size)) z parts with
   | some cs=>some (.agg cs.toArray)
   | none=>none
  | none=>none
 | _=>none
def kil (T:Tab)(h:Hp)(t:TypeId)(n:Nat)(parts:List (Nat × Value)):R:=
 match T.ty t with
 | some ⟨.slice e,_,_,_,_⟩=>match T.ty e with
  | some ti=>bif Nat.ble (n*ti.size) 1000000&&Nat.beq ti.zero.length ti.size then
    (match eFill (fun i=>some (i*ti.size,ti.size)) (rep ti.zero n) parts with
    | some cs=>some (.slice (some ⟨h.next,0,none⟩) n n,newB h (.cells cs e false))
    | none=>none) else none
  | none=>none
 | _=>none
def tst (op:BinOp)(r:Bool):Option Value:=
 match op with
 | .eql=>some (.bool r)
 | .neq=>some (.bool (!r))
 | _=>none
def eqV (T:Tab)(P:Program)(op:BinOp)(t:TypeId)(x y:Operand)(a b:Value):Option Value:=
 match a,b with
 | .int ..,.int ..=>khk P (do eqGuard op t x y a b;binOp op t a b)
 | .bool p,.bool q=>bif boolT T t then tst op (bif p then q else !q) else none
 | .slice none _ _,.slice q _ _=>bif sliceT T t then tst op q.isNone else none
 | .slice (some _) _ _,.slice none _ _=>bif sliceT T t then tst op false else none
 | .pointer none,.pointer q=>bif ptrT T t then tst op q.isNone else none
 | .pointer (some _),.pointer none=>bif ptrT T t then tst op false else none
 | .agg xs,.agg ys=>bif xs.toList.all kbx&&ys.toList.all kbx then khk P (do eqGuard op t x y a b;binOp op t a b) else none
 | _,_=>none
def eConvert (T:Tab)(src dst:TypeId):Value→Option Value
 | .int _ n=>match T.ty dst with
  | some ⟨.int k,_,_,_,_⟩=>bif (T.ty src).isSome then some (.int k (k.wrap n)) else none
  | _=>none
 | _=>none
def keyEq:Value→Value→Option Bool
 | .int p a,.int q b=>if p=q then some (a == b) else none
 | _,_=>none
def mfind (k:Value):List (Value × Value × Nat)→Option (Option Value)
 | []=>some none
 | (a,v,_)::es=>match keyEq k a with
  | some true=>some (some v)
  | some false=>mfind k es
  | none=>none
def eLookup (T:Tab)(h:Hp)(t:TypeId)(x k:Value)(ok:Bool):R:=
 match T.ty t with
 | some ⟨.map kt e,_,_,_,_⟩=>bif !keyT T kt then none else match T.ty e,x,k with
  | some ti,.map (some r),.int ..=>match h.tr.get r with
   | some (.map es _)=>match mfind k es with
    | some o=>
     let z:Value:=bif ti.agg then .agg ti.zero.toArray else ti.zero.headD undef
     let v:=o.getD z
     some (bif ok then .tuple #[v,.bool o.isSome] else v,h)
    | none=>none
   | _=>none
  | _,_,_=>none
 | _=>none
def mput (k v:Value)(clock:Nat):List (Value × Value × Nat)→Option (List (Value × Value × Nat) × Bool)
 | []=>some ([(k,v,clock)],true)
 | (a,u,b)::es=>match keyEq k a with
  | some true=>some ((k,v,b)::es,false)
  | some false=>(mput k v clock es).map fun (r,g)=>((a,u,b)::r,g)
  | none=>none
def kkq (T:Tab)(h:Hp)(t:TypeId)(m k v:Value):R:=
 match T.ty t,m,k with
 | some ⟨.map kt _,_,_,_,_⟩,.map (some r),.int ..=>bif !keyT T kt then none else match h.tr.get r with
  | some (.map es clock)=>match mput k v clock es with
   | some (es',g)=>(setB h r (.map es' (bif g then clock+1 else clock))).map fun h'=>(undef,h')
   | none=>none
  | _=>none
 | _,_,_=>none
def kcw (h:Hp)(size n:Nat):Value→Option (List Value)
 | .slice (some ⟨k,off,_⟩) _ _=>ldN h k off (n*size)
 | .slice none _ _=>some []
 | _=>none
def tailOf (T:Tab)(h:Hp)(ti:TI)(q:TypeId)(x:Value):Option (Nat × List Value):=
 match x with
 | .slice _ n _=>bif sliceT T q then (match kcw h ti.size n x with|some vs=>some (n,vs)|none=>none) else none
 | .int _ (.ofNat n)=>bif keyT T q&&Nat.ble (n*(ti.bytes+1)) 1000000&&Nat.beq ti.zero.length ti.size then some (n,rep ti.zero n) else none
 | _=>none
def eAppend (T:Tab)(h:Hp)(t q:TypeId)(s x:Value):R:=
 match T.ty t,s with
 | some ⟨.slice e,_,_,_,_⟩,.slice base len cap=>match T.ty e with
  | some ti=>match tailOf T h ti q x with
   | some (n,new)=>
    bif Nat.ble (len+n) cap then
     (match base with
      | some ⟨k,off,_⟩=>match st h k (off+len*ti.size) new with
       | some h'=>some (.slice base (len+n) cap,h')
       | none=>none
      | none=>some (.slice base (len+n) cap,h))
    else
     match kcw h ti.size len s with
     | some old=>
      let res:Value:=.slice (some ⟨h.next,0,some 0⟩) (len+n) (len+n)
      let blk:Blk:=.cells (old++new) e true
      bif Nat.ble ((len+n)*(ti.bytes+1)) 1000000&&Nat.beq ti.zero.length ti.size then
      (match base with
       | some ⟨k,off,some _⟩=>
        (match h.tr.get k with
         | some (.cells c e' true)=>bif Nat.ble h.wall k&&Nat.beq (off+cap*ti.size) c.length&&Nat.beq e e'&&new.all (·.oneCell')&&Nat.beq new.length (n*ti.size) then
           some (res,newB { h with tr:=h.tr.set k none } blk) else none
         | _=>none)
       | _=>some (res,newB h blk)) else none
     | none=>none
   | none=>none
  | none=>none
 | _,_=>none
def eCopy (T:Tab)(h:Hp)(t:TypeId)(d s:Value):R:=
 match T.ty t,d,s with
 | some ⟨.slice e,_,_,_,_⟩,.slice base len _,.slice _ n _=>match T.ty e with
  | some ti=>
   let m:=bif Nat.ble n len then n else len
   match kcw h ti.size m s with
   | some cs=>match base with
    | some ⟨k,off,_⟩=>match st h k off cs with
     | some h'=>some (goInt m,h')
     | none=>none
    | none=>some (goInt m,h)
   | none=>none
  | none=>none
 | _,_,_=>none
def eLen (T:Tab)(t:TypeId)(x:Value):Option Value:=
 match T.ty t,x with
 | some ⟨.array n _,_,_,_,_⟩,_=>some (goInt n)
 | some ⟨.slice _,_,_,_,_⟩,.slice _ n _=>some (goInt n)
 | some ⟨.map _ _,_,_,_,_⟩,.map none=>some (goInt 0)
 | _,_=>none
def eCap (T:Tab)(t:TypeId)(x:Value):Option Value:=
 match T.ty t,x with
 | some ⟨.array n _,_,_,_,_⟩,_=>some (goInt n)
 | some ⟨.slice _,_,_,_,_⟩,.slice none _ c=>some (goInt c)
 | some ⟨.slice _,_,_,_,_⟩,.slice (some ⟨_,_,none⟩) _ c=>some (goInt c)
 | _,_=>none
def minL:Int→List Value→Option Int
 | a,[]=>some a
 | a,.int _ b::r=>minL (if b<a then b else a) r
 | _,_::_=>none
def maxL:Int→List Value→Option Int
 | a,[]=>some a
 | a,.int _ b::r=>maxL (if b > a then b else a) r
 | _,_::_=>none
def koa (T:Tab)(b:Builtin)(ts:List TypeId)(args:List Value):Option Value:=
 match b,ts,args with
 | .len,t::_,[x]=>eLen T t x
 | .cap,t::_,[x]=>eCap T t x
 | .min,_,.int k a::r=>(minL a r).map fun b=>.int k b
 | .max,_,.int k a::r=>(maxL a r).map fun b=>.int k b
 | _,_,_=>none
def eClear (T:Tab)(h:Hp)(t:TypeId)(x:Value):R:=
 match T.ty t,x with
 | some ⟨.slice e,_,_,_,_⟩,.slice (some ⟨k,off,_⟩) n _=>match T.ty e with
  | some ti=>match st h k off (rep ti.zero n) with
   | some h'=>some (.tuple #[],h')
   | none=>none
  | none=>none
 | some ⟨.slice _,_,_,_,_⟩,.slice none _ _=>some (.tuple #[],h)
 | _,_=>none
def kjy (T:Tab)(h:Hp)(b:Builtin)(ts:List TypeId)(args:List Value):R:=
 match b,ts,args with
 | .append,[t,q],[s,x]=>eAppend T h t q s x
 | .copy,t::_,[d,s]=>eCopy T h t d s
 | .clear,t::_,[x]=>eClear T h t x
 | _,_,_=>none
inductive Req where
 | call (f:FuncId) (args:List Value) (h:Hp)
 | round (l:Nat) (args:List Value) (h:Hp)
 | frame (fn:FuncId) (rnd:Option Nat) (tmps:VT) (defs:List Nat) (todo:List Item) (h:Hp)
inductive Res where
 | val (v:Value) (h:Hp)
 | left (jump:Option Code) (tmps:VT) (defs:List Nat) (h:Hp)
def asVal:Option Res→R
 | some (.val v h)=>some (v,h)
 | _=>none
def eCall (self:Req→Option Res)(h:Hp)(fv:Value)(args:List Value):R:=
 match fv with
 | .func (.func g) first cap=>asVal (self (.call g (first.toList++args++cap.toList) h))
 | .func (.yield l) first cap=>bif first.toList.isEmpty&&cap.toList.isEmpty then asVal (self (.round l args h)) else none
 | _=>none
def kgp (T:Tab)(P:Program)(tmps:VT)(o:Op):Option Value:=
 match o with
 | .move x|.assign x=>opd tmps x
 | .pick c a b=>match opd tmps c with
  | some (.bool t)=>match opd tmps a,opd tmps b with
   | some x,some y=>some (bif t then x else y)
   | _,_=>none
  | _=>none
 | .build t ps=>match opdP tmps ps.toList with
  | some vs=>eBuild T t vs
  | none=>none
 | .nilCheck x=>match opd tmps x with
  | some (.pointer (some a))=>some (.pointer (some a))
  | some (.func (.func g) a b)=>some (.func (.func g) a b)
  | some (.func (.yield g) a b)=>some (.func (.yield g) a b)
  | _=>none
 | .binOp op t x y _=>match opd tmps x,opd tmps y with
  | some a,some b=>eqV T P op t x y a b
  | _,_=>none
 | .unOp op _ x=>match opd tmps x with
  | some (.int k n)=>khk P (Op.unary op (.int k n))
  | some (.bool b)=>khk P (Op.unary op (.bool b))
  | _=>none
 | .convert s d x=>match opd tmps x with
  | some v=>eConvert T s d v
  | none=>none
 | .makeFunc fn first cap=>match opds tmps first.toList,opds tmps cap.toList with
  | some a,some b=>match fn with
   | .func f=>some (.func (.func f) a.toArray b.toArray)
   | _=>none
  | _,_=>none
 | .slice t x lo hi mx=>match opd tmps x,opdO tmps lo,opdO tmps hi,opdO tmps mx with
  | some v,some a,some b,some c=>eSlice T t v a b c
  | _,_,_,_=>none
 | .fieldAddr s x f=>match opd tmps x with
  | some v=>kdn T s f v
  | none=>none
 | .field t x f=>match opd tmps x with
  | some v=>eField T t f v
  | none=>none
 | .indexAddr t x ix=>match opd tmps x,opd tmps ix with
  | some v,some i=>kce T t v i
  | _,_=>none
 | .index t x ix=>match opd tmps x,opd tmps ix with
  | some v,some i=>eIndex T t v i
  | _,_=>none
 | .extract t ix=>match opd tmps t with
  | some (.tuple vs)=>vs.toList[ix]?
  | _=>none
 | .call c=>match c.callee with
  | .builtin b=>match opds tmps c.args.toList with
   | some args=>koa T b c.argTypes.toList args
   | none=>none
  | _=>none
 | _=>none
def kdc:Op→Bool
 | .move _|.assign _|.pick ..|.build ..|.nilCheck _|.binOp ..|.unOp ..|.convert ..|.makeFunc ..|.slice ..|.fieldAddr ..|.field ..|.indexAddr ..|.index ..|.extract ..=>true
 | .call c=>match c.callee with
  | .builtin .len|.builtin .cap|.builtin .min|.builtin .max=>true
  | _=>false
 | _=>false
def eMem (T:Tab)(P:Program)(self:Req→Option Res)(tmps:VT)(h:Hp)(o:Op):R:=
 match o with
 | .alloc e=>eAlloc T h e
 | .box e x=>match opd tmps x with
  | some v=>eBox h e v
  | none=>none
 | .buildSlice t n ps=>match opdP tmps ps.toList with
  | some vs=>kil T h t n vs
  | none=>none
 | .load t a=>match opd tmps a with
  | some v=>kht T h t v
  | none=>none
 | .store t a x=>match opd tmps a,opd tmps x with
  | some v,some u=>knx T h t u v
  | _,_=>none
 | .makeMap _ none=>some (.map (some h.next),newB h (.map [] 0))
 | .makeSlice t l c=>match opd tmps l,opd tmps c with
  | some a,some b=>kkr T h t a b
  | _,_=>none
 | .lookup t x ix ok=>match opd tmps x,opd tmps ix with
  | some v,some i=>eLookup T h t v i ok
  | _,_=>none
 | .mapUpdate t m k x|.insert t m k x=>match opd tmps m,opd tmps k,opd tmps x with
  | some m,some k,some x=>kkq T h t m k x
  | _,_,_=>none
 | .call c=>match opds tmps c.args.toList with
  | some args=>match c.callee with
   | .builtin b=>kjy T h b c.argTypes.toList args
   | .value f=>match opd tmps f with
    | some fv=>eCall self h fv args
    | none=>none
   | .invoke ..=>none
  | none=>none
 | _=>none
def eOp (T:Tab)(P:Program)(self:Req→Option Res)(tmps:VT)(h:Hp)(o:Oper):R:=
 bif kdc o.op then
  match kgp T P tmps o.op with
  | some v=>some (v,h)
  | none=>none
 else eMem T P self tmps h o.op
def putL (tmps:VT)(d:Option Tmp)(v:Value):VT:=
 match d with
 | some t=>tmps.set t v
 | none=>tmps
def kaw (all:List Oper)(tmps:VT)(o:Oper):Bool:=
 match o.guard with
 | none=>true
 | some (j,want)=>match (all[j]?).bind (·.dst) with
  | some t=>match tmps.get t with
   | some (.bool b)=>bif b then want else !want
   | _=>false
  | none=>false
def eOps (T:Tab)(P:Program)(self:Req→Option Res)(all:List Oper):List Oper→VT→Hp→Option (VT × Hp)
 | [],tmps,h=>some (tmps,h)
 | o::os,tmps,h=>
  bif kaw all tmps o then
   match eOp T P self tmps h o with
   | some (v,h')=>eOps T P self all os (putL tmps o.dst v) h'
   | none=>none
  else eOps T P self all os (putL tmps o.dst undef) h
def eResult (T:Tab)(tmps:VT)(h:Hp):ResultVar→Option Value
 | .tmp t=>tmps.get t
 | .cell a t=>match tmps.get a with
  | some v=>loadV T h t v
  | none=>none
def kdr (T:Tab)(tmps:VT)(h:Hp):List ResultVar→Option (List Value)
 | []=>some []
 | r::rs=>match eResult T tmps h r with
  | some v=>match kdr T tmps h rs with
   | some vs=>some (v::vs)
   | none=>none
  | none=>none
def packV:List Value→Value
 | [v]=>v
 | vs=>.tuple vs.toArray
def kec (h:Hp):List Nat→Option Hp
 | []=>some h
 | d::ds=>match h.tr.get d with
  | some (.defd false)=>match setB h d (.defd true) with
   | some h'=>kec h' ds
   | none=>none
  | _=>none
def befores:List Oper→List Nat→List Nat
 | [],acc=>acc
 | o::os,acc=>befores os (acc++[o.after.toList.foldl (fun s e=>bif Region.binds .any e then s ||| 2 ^ e.on ||| acc.getD e.on 0 else s) 0])
def kiv (o:Oper):List Tmp:=o.op.operands.toList.filterMap fun|.tmp t=>some t|_=>none
def tmpsOk (ops:List Oper)(bs tl:List Nat):Bool:=
 (ops.zipIdx).all fun (o,j)=>(ops.zipIdx).all fun (p,i)=>
  match p.dst with
  | none=>true
  | some d=>bif Nat.beq i j then !(kiv o).contains d else
    ((!(kiv o).contains d||(bs.getD j 0).testBit i||(tl.contains i&&(bs.getD i 0).testBit j))&&(match o.dst with|some e=>!Nat.beq d e|none=>true))
def guardsOk (ops:List Oper)(bs:List Nat):Bool:=
 (ops.zipIdx).all fun (o,j)=>match o.guard with
  | none=>true
  | some (i,_)=>(bs.getD j 0).testBit i
def maskOf:List Nat→Nat
 | []=>0
 | i::r=>2 ^ i ||| maskOf r
def tailGo (bs:List Nat)(pm:Nat):Nat→List Nat→List Nat
 | 0,acc=>acc
 | j+1,acc=>
  bif pm.testBit j then tailGo bs pm j acc
  else bif Nat.beq ((bs.getD j 0 ||| pm) &&& (2 ^ j-1)) (2 ^ j-1) then tailGo bs pm j (j::acc) else acc
structure Plan where
 head:List Nat
 tail:List Nat
 bs:List Nat
def writesB:Op→Bool
 | .store ..|.mapUpdate ..|.insert ..=>true
 | .call c=>match c.callee with
  | .builtin .append|.builtin .copy|.builtin .clear=>true
  | _=>false
 | _=>false
def warGo (bs:List Nat)(all:List (Oper × Nat)):List (Oper × Nat)→List Nat
 | []=>[]
 | (p,i)::r=>match p.dst with
  | none=>warGo bs all r
  | some d=>bif all.any (fun (o,j)=>!Nat.beq i j&&(kiv o).contains d&&!(bs.getD j 0).testBit i) then i::warGo bs all r else warGo bs all r
def planOf (ops:List Oper)(greedy:Bool):Plan:=
 let bs:=befores ops []
 let pm:=maskOf ((ops.zipIdx).filterMap fun (o,i)=>bif kdc o.op then some i else none)
 let c:=maskOf (warGo bs ops.zipIdx ops.zipIdx) ||| maskOf ((ops.zipIdx).filterMap fun (o,i)=>bif writesB o.op then some i else none) ||| (bif greedy then maskOf (tailGo bs pm ops.length []) else 0)
 let tl:=(List.range ops.length).filter fun i=>c.testBit i||!Nat.beq (bs.getD i 0 &&& c) 0
 { head:=(List.range ops.length).filter fun i=>!tl.contains i,tail:=tl,bs }
def sortB:List Nat→Bool
 | []=>true
 | i::is=>(is.all fun j=>Nat.blt i j)&&sortB is
def chainB (bs:List Nat):List Nat→Bool
 | []=>true
 | i::is=>(is.all fun j=>(bs.getD j 0).testBit i)&&chainB bs is
def loadB:Op→Bool
 | .load ..=>true
 | _=>false
def befOk (ops:List Oper)(bs:List Nat):Bool:=
 Nat.beq bs.length ops.length&&(ops.zipIdx).all fun (o,j)=>
  (o.after.toList.all fun e=>!Region.binds .any e||Nat.blt e.on j) &&
  Nat.beq (bs.getD j 0) (o.after.toList.foldl (fun s e=>bif Region.binds .any e then s ||| 2 ^ e.on ||| bs.getD e.on 0 else s) 0)
def planOk (ops:List Oper)(p:Plan):Bool:=
 let need:=p.head.filter fun i=>match ops[i]? with|some o=>!kdc o.op&&!loadB o.op|none=>true
 befOk ops p.bs&&tmpsOk ops p.bs p.tail&&guardsOk ops p.bs &&
 ((List.range ops.length).all fun i=>p.head.contains i||p.tail.contains i) &&
 ((p.head++p.tail).all fun i=>Nat.blt i ops.length) &&
 (p.head.all fun i=>p.tail.all fun j=>!(p.bs.getD i 0).testBit j&&!Nat.beq i j) &&
 (p.tail.all fun i=>need.all fun j=>(p.bs.getD i 0).testBit j) &&
 sortB p.head&&chainB p.bs p.tail
def planA (ops:List Oper):Option Plan:=
 let p:Plan:={ head:=List.range ops.length,tail:=[],bs:=befores ops [] }
 bif planOk ops p then some p else none
def planB (ops:List Oper)(greedy:Bool):Option Plan:=
 let p:=planOf ops greedy
 bif planOk ops p then some p else none
structure Dl where
 i:Nat
 lo:Nat
 hi:Nat
 delta:List (Nat × Blk)
def addAll (t:Tr):List (Nat × Blk)→Tr
 | []=>t
 | (n,b)::r=>addAll (t.set n (some b)) r
def kbt (m:Nat)(h0:Tr):List Dl→Tr
 | []=>h0
 | d::r=>bif m.testBit d.i then addAll (kbt m h0 r) d.delta else kbt m h0 r
def kfo (h0:Tr):List Dl→Tr
 | []=>h0
 | d::r=>addAll (kfo h0 r) d.delta
def kjl (t:Tr):Nat→Nat→List (Nat × Blk)
 | _,0=>[]
 | lo,n+1=>match t.get lo with
  | some b=>(lo,b)::kjl t (lo+1) n
  | none=>kjl t (lo+1) n
def kik (T:Tab)(P:Program)(self:Req→Option Res)(all:List Oper)(bs:List Nat)(h0:Tr):List Nat→VT→Nat→List Dl→Option (VT × Nat × List Dl)
 | [],tmps,next,ds=>some (tmps,next,ds)
 | i::is,tmps,next,ds=>
  match all[i]? with
  | none=>none
  | some o=>
  bif kaw all tmps o then
   bif kdc o.op then
    match kgp T P tmps o.op with
    | some v=>kik T P self all bs h0 is (putL tmps o.dst v) next ds
    | none=>none
   else
   match eMem T P self tmps ⟨kbt (bs.getD i 0) h0 ds,next,next⟩ o.op with
   | some (v,h')=>
    bif kee v then kik T P self all bs h0 is (putL tmps o.dst v) next ds
    else bif Nat.ble next h'.next then kik T P self all bs h0 is (putL tmps o.dst v) h'.next (⟨i,next,h'.next,kjl h'.tr next (h'.next-next)⟩::ds) else none
   | none=>none
  else kik T P self all bs h0 is (putL tmps o.dst undef) next ds
def sameV:Value→Value→Bool
 | .agg a,.agg b=>kjd a.toList b.toList
 | .pointer (some ⟨a,b,none⟩),.pointer (some ⟨c,d,none⟩)=>Nat.beq a c&&Nat.beq b d
 | .slice none a b,.slice none c d=>Nat.beq a c&&Nat.beq b d
 | .slice (some ⟨a,b,none⟩) m n,.slice (some ⟨c,d,none⟩) p q=>Nat.beq a c&&Nat.beq b d&&Nat.beq m p&&Nat.beq n q
 | .slice (some ⟨a,b,some e⟩) m n,.slice (some ⟨c,d,some f⟩) p q=>Nat.beq a c&&Nat.beq b d&&Nat.beq e f&&Nat.beq m p&&Nat.beq n q
 | a,b=>kjd [a] [b]
structure Lt where
 i:Nat
 t:TypeId
 x:Value
 v:Value
def kgm (ops:List Oper)(p:Plan)(tmps:VT):List Nat→Option (List Lt)
 | []=>some []
 | i::is=>match ops[i]? with
  | some o=>match o.op with
   | .load t a=>bif p.tail.all (fun j=>(p.bs.getD j 0).testBit i) then kgm ops p tmps is else
    match opd tmps a,o.dst.bind tmps.get with
    | some x,some v=>(kgm ops p tmps is).map (⟨i,t,x,v⟩::·)
    | _,_=>none
   | _=>kgm ops p tmps is
  | none=>kgm ops p tmps is
def knj (T:Tab)(h:Hp)(l:List Lt):Bool:=
 l.all fun e=>match kht T h e.t e.x with
  | some (v,_)=>sameV e.v v
  | none=>false
def knw (T:Tab)(P:Program)(self:Req→Option Res)(all:List Oper)(bs:List Nat)(lt:List Lt):List Nat→VT→Hp→Option (VT × Hp)
 | [],tmps,h=>some (tmps,h)
 | i::is,tmps,h=>match all[i]? with
  | none=>none
  | some o=>bif kaw all tmps o then
    match eOp T P self tmps h o with
    | some (v,h')=>bif knj T h' (lt.filter fun e=>!(bs.getD i 0).testBit e.i) then knw T P self all bs lt is (putL tmps o.dst v) h' else none
    | none=>none
   else knw T P self all bs lt is (putL tmps o.dst undef) h
def khc (T:Tab)(P:Program)(self:Req→Option Res)(ops:List Oper)(tmps:VT)(h:Hp)(p:Plan):Option (VT × Hp):=
 match kik T P self ops p.bs h.tr p.head tmps h.next [] with
 | some (tmps',next,ds)=>match kgm ops p tmps' p.head with
  | some lt=>bif knj T ⟨kfo h.tr ds,next,h.wall⟩ lt then knw T P self ops p.bs lt p.tail tmps' ⟨kfo h.tr ds,next,h.wall⟩ else none
  | none=>none
 | none=>none
def orElse (o:Option (VT × Hp)):Option (VT × Hp)→Option (VT × Hp)
 | some r=>some r
 | none=>o
def kjx (T:Tab)(P:Program)(self:Req→Option Res)(ops:List Oper)(tmps:VT)(h:Hp):Option Plan→Option (VT × Hp)
 | some p=>khc T P self ops tmps h p
 | none=>none
def eDraw (T:Tab)(P:Program)(self:Req→Option Res)(ops:List Oper)(tmps:VT)(h:Hp):Option (VT × Hp):=
 orElse (kjx T P self ops tmps h (planA ops)) (orElse (kjx T P self ops tmps h (planB ops false)) (kjx T P self ops tmps h (planB ops true)))
def setAll (tmps:VT):List Tmp→List Value→VT
 | t::ts,v::vs=>setAll (tmps.set t v) ts vs
 | _,_=>tmps
def kjw (T:Tab)(P:Program)(self:Req→Option Res)(fn:FuncId)(rnd:Option Nat)(tmps:VT)(defs:List Nat)(h:Hp):List Item→Option Res
 | []=>some (.left none tmps defs h)
 | .inBlock _::k|.inScope _::k=>self (.frame fn rnd tmps defs k h)
 | .inLoop body::k=>self (.frame fn rnd tmps defs (.code body::.inLoop body::k) h)
 | .beginRound::k=>match rnd with
  | some l=>match h.tr.get l with
   | some (.loop .ready p f ts ps ag bd ds)=>match setB h l (.loop .busy p f ts ps ag bd ds) with
    | some h'=>self (.frame fn rnd tmps defs k h')
    | none=>none
   | _=>none
  | none=>none
 | .code c::k=>match c with
  | .ret=>some (.left (some .ret) tmps defs h)
  | .skip|.label _=>self (.frame fn rnd tmps defs k h)
  | .seq a b=>self (.frame fn rnd tmps defs (.code a::.code b::k) h)
  | .cond c t e=>match opd tmps c with
   | some (.bool b)=>self (.frame fn rnd tmps defs (.code (bif b then t else e)::k) h)
   | _=>none
  | .block id body=>self (.frame fn rnd tmps defs (.code body::.inBlock id::k) h)
  | .loop body=>self (.frame fn rnd tmps defs (.code body::.inLoop body::k) h)
  | .scope body=>self (.frame fn rnd tmps defs (.code body::.inScope body::k) h)
  | .exit id=>match exitTo id k with
   | some k'=>self (.frame fn rnd tmps defs k' h)
   | none=>match rnd with
    | some _=>some (.left (some (.exit id)) tmps defs h)
    | none=>none
  | .goto l=>match gotoIn l k with
   | some k'=>self (.frame fn rnd tmps defs k' h)
   | none=>none
  | .region _ ops draw=>match (bif draw then eDraw T P self ops.toList tmps h else eOps T P self ops.toList ops.toList tmps h) with
   | some (tmps',h')=>self (.frame fn rnd tmps' defs k h')
   | none=>none
  | .rangeFunc f params assign body=>match opd tmps f with
   | some (.func (.func g) first cap)=>
    let go (defs:List Nat) (h:Hp) (d:Nat):Option Res:=
     let l:=h.next
     match self (.call g (first.toList++[.func (.yield l) #[] #[]]++cap.toList) (newB h (.loop .ready none fn tmps params.toList assign body d))) with
     | some (.val _ h')=>match h'.tr.get l with
      | some (.loop s p f' ts ps ag bd ds)=>match s with
       | .busy=>none
       | _=>match setB h' l (.loop .exhausted p f' ts ps ag bd ds) with
        | some h''=>self (.frame fn rnd tmps defs ((p.map Item.code).toList++k) h'')
        | none=>none
      | _=>none
     | _=>none
    match rnd with
    | some l0=>match h.tr.get l0 with
     | some (.loop _ _ _ _ _ _ _ d)=>go defs h d
     | _=>none
    | none=>go (h.next::defs) (newB h (.defd false)) h.next
   | _=>none
  | .refuse _=>none
 | _=>none
def eRound (self:Req→Option Res)(l:Nat)(args:List Value)(h:Hp):Option Res:=
 match h.tr.get l with
 | some (.loop _ _ fn ts ps ag bd _)=>
  bif Nat.beq args.length ps.length then
   match self (.frame fn (some l) (setAll ts ps args) [] [.code ag,.beginRound,.code bd] h) with
   | some (.left j _ [] h')=>match h'.tr.get l with
    | some (.loop _ _ f' ts' ps' ag' bd' d')=>match setB h' l (.loop (bif j.isNone then .ready else .done) j f' ts' ps' ag' bd' d') with
     | some h''=>some (.val (.bool j.isNone) h'')
     | none=>none
    | _=>none
   | _=>none
  else none
 | _=>none
def leftB:Option Code→Bool
 | none|some .ret=>true
 | _=>false
def eOrc (T:Tab)(f:FuncId)(args:List Value)(h:Hp):Option (Value × Hp):=
 match T.orc f with
 | some g=>g args h
 | none=>none
def knz (T:Tab)(self:Req→Option Res)(f:FuncId)(args:List Value)(h:Hp):Option Res:=
 match eOrc T f args h with
 | some (v,h')=>some (.val v h')
 | none=>
 match T.fn f with
 | some fi=>match self (.frame f none ⟨args.length+(fi.ntmps-args.length),Vt.fill .leaf 0 args⟩ [] [.code fi.code] h) with
  | some (.left j tmps defs h')=>bif leftB j then
    (match kec h' defs with
    | some h''=>match kdr T tmps h'' fi.results with
     | some vs=>some (.val (packV vs) h'')
     | none=>none
    | none=>none) else none
  | _=>none
 | none=>none
def body (T:Tab)(P:Program)(self:Req→Option Res):Req→Option Res
 | .call f args h=>knz T self f args h
 | .round l args h=>eRound self l args h
 | .frame fn rnd tmps defs todo h=>kjw T P self fn rnd tmps defs h todo
def ev (T:Tab)(P:Program):Nat→Req→Option Res
 | 0=>fun _=>none
 | n+1=>body T P (ev T P n)
theorem Tr.get_leaf (n:Nat):Tr.leaf.get n=none:=by cases n<;>rfl
theorem nb0 (n:Nat):Nat.beq n 0=decide (n=0):=by cases n<;>rfl
theorem Tr.get_setF:∀(f:Nat) (t:Tr) (n:Nat) (b:Option Blk) (m:Nat),n<f→(Tr.setF f t n b).get m=if m=n then b else t.get m
 | 0,_,_,_,_,h=>absurd h (Nat.not_lt_zero _)
 | f+1,t,0,b,m,_=>by
  cases t<;>cases m<;>simp[Tr.setF,Tr.get,Tr.get_leaf]
 | f+1,t,n+1,b,m,h=>by
  have hn:n / 2<f:=by omega
  have ih:=fun t m=>Tr.get_setF f t (n / 2) b m hn
  cases t with
  | leaf=>
   cases m with
   | zero=>by_cases hb:n % 2=0<;>simp[Tr.setF,Tr.get,nb0,hb]
   | succ m=>
    have h0:=ih .leaf (m / 2);rw[Tr.get_leaf]at h0
    by_cases hb:n % 2=0<;>by_cases hm:m % 2=0<;>by_cases hq:m / 2=n / 2<;>by_cases he:m=n<;>simp[Tr.setF,Tr.get,nb0,hb,hm,he,Tr.get_leaf]<;>first|omega|(simp[h0,hq];done)|(simp[ih,Tr.get_leaf];done)|(simp_all;done)|(subst he;simp_all;done)|skip
  | node v l r=>
   cases m with
   | zero=>by_cases hb:n % 2=0<;>simp[Tr.setF,Tr.get,nb0,hb]
   | succ m=>
    by_cases hb:n % 2=0<;>by_cases hm:m % 2=0<;>by_cases hq:m / 2=n / 2<;>by_cases he:m=n<;>simp[Tr.setF,Tr.get,nb0,hb,hm,he]<;>first|omega|(simp[ih,hq];done)|(simp[ih];done)|(simp_all;done)|skip
theorem Tr.get_set (t:Tr)(n:Nat)(b:Option Blk)(m:Nat):(t.set n b).get m=if m=n then b else t.get m:=Tr.get_setF _ _ _ _ _ (Nat.lt_succ_self _)
structure Loc where
 blk:Nat
 shf:Nat
 ext:Nat
abbrev In:=Nat→Option Loc
def In.le (i j:In):Prop:=∀k l,i k=some l→j k=some l
theorem In.le.refl (i:In):i.le i:=fun _ _ h=>h
theorem In.le.trans {i j k:In}(h:i.le j)(h':j.le k):i.le k:=fun _ _ e=>h' _ _ (h _ _ e)
inductive VR (ι : In):Value→Value→Prop
 | leaf {v:Value} (h:kbx v=true):VR ι v v
 | ptr {k off:Nat} {l:Loc} (h:ι k=some l):VR ι (.pointer (some ⟨k,off,none⟩)) (.pointer (some ⟨l.blk,off+l.shf,none⟩))
 | slice {k off n c:Nat} {l:Loc} (h:ι k=some l):VR ι (.slice (some ⟨k,off,none⟩) n c) (.slice (some ⟨l.blk,off+l.shf,none⟩) n c)
 | opn {k off s n c:Nat} {l:Loc} (h:ι k=some l):VR ι (.slice (some ⟨k,off,some s⟩) n c) (.slice (some ⟨l.blk,off+l.shf,none⟩) n (c+l.ext))
 | map {k:Nat} {l:Loc} (h:ι k=some l):VR ι (.map (some k)) (.map (some l.blk))
 | yield {k:Nat} {l:Loc} (h:ι k=some l):VR ι (.func (.yield k) #[] #[]) (.func (.yield l.blk) #[] #[])
 | func {f:FuncId} {a b a' b':Array Value} (ha:a.size=a'.size) (hb:b.size=b'.size) (h:∀(i:Nat) v v',a[i]?=some v→a'[i]?=some v'→VR ι v v')
   (h':∀(i:Nat) v v',b[i]?=some v→b'[i]?=some v'→VR ι v v'):VR ι (.func (.func f) a b) (.func (.func f) a' b')
 | agg {a a':Array Value} (ha:a.size=a'.size) (h:∀(i:Nat) v v',a[i]?=some v→a'[i]?=some v'→VR ι v v'):VR ι (.agg a) (.agg a')
 | tuple {a a':Array Value} (ha:a.size=a'.size) (h:∀(i:Nat) v v',a[i]?=some v→a'[i]?=some v'→VR ι v v'):VR ι (.tuple a) (.tuple a')
theorem VR.mono {i j:In}(hij:i.le j){v v':Value}(h:VR i v v'):VR j v v':=by
 induction h with
 | leaf h=>exact .leaf h
 | ptr h=>exact .ptr (hij _ _ h)
 | slice h=>exact .slice (hij _ _ h)
 | opn h=>exact .opn (hij _ _ h)
 | map h=>exact .map (hij _ _ h)
 | yield h=>exact .yield (hij _ _ h)
 | func ha hb _ _ ih ih'=>exact .func ha hb ih ih'
 | agg ha _ ih=>exact .agg ha ih
 | tuple ha _ ih=>exact .tuple ha ih
def LR (ι : In)(l l':List Value):Prop:=l.length=l'.length∧∀(i:Nat) v v',l[i]?=some v→l'[i]?=some v'→VR ι v v'
section
variable {ι j:In} {l l' m m':List Value} {v v':Value}
theorem LR.mono (h:ι.le j)(hl:LR ι l l'):LR j l l':=⟨hl.1,fun i v v' a b=>(hl.2 i v v' a b).mono h⟩
theorem LR.nil:LR ι [] []:=⟨rfl,fun i v v' h=>by simp at h⟩
theorem LR.cons (h:VR ι v v')(hl:LR ι l l'):LR ι (v::l) (v'::l'):=by
 refine⟨by simp[hl.1],fun i x x' a b=>?_⟩
 cases i with
 | zero=>simp at a b;subst a b;exact h
 | succ i=>simp at a b;exact hl.2 i _ _ a b
theorem LR.get (h:LR ι l l'){i:Nat}(hi:l[i]?=some v):∃v',l'[i]?=some v'∧VR ι v v':=by
 have hlt:i<l'.length:=by rw[←h.1];exact(List.getElem?_eq_some_iff.1 hi).1
 exact⟨l'[i],List.getElem?_eq_getElem hlt,h.2 i _ _ hi (List.getElem?_eq_getElem hlt)⟩
theorem LR.inv_nil (h:LR ι [] l'):l'=[]:=List.length_eq_zero_iff.1 h.1.symm
theorem LR.inv_cons (h:LR ι (v::l) l'):∃v' m,l'=v'::m∧VR ι v v'∧LR ι l m:=by
 cases l' with
 | nil=>have:=h.1;simp at this
 | cons v' m=>
  refine⟨v',m,rfl,h.2 0 _ _ rfl rfl,by have:=h.1;simpa using this,fun i x x' a b=>h.2 (i+1) _ _ (by simpa using a) (by simpa using b)⟩
theorem LR.append (h:LR ι l l')(h':LR ι m m'):LR ι (l++m) (l'++m'):=by
 refine⟨by simp[h.1,h'.1],fun i x x' a b=>?_⟩
 rw[List.getElem?_append]at a b;rw[←h.1]at b
 split at a<;>rename_i hi
 ·rw[if_pos hi]at b;exact h.2 _ _ _ a b
 ·rw[if_neg hi]at b;exact h'.2 _ _ _ a b
theorem LR.drop (h:LR ι l l')(n:Nat):LR ι (l.drop n) (l'.drop n):=
 ⟨by simp[h.1],fun i x x' a b=>h.2 (n+i) _ _ (by rw[List.getElem?_drop]at a;exact a) (by rw[List.getElem?_drop]at b;exact b)⟩
theorem LR.take (h:LR ι l l')(n:Nat):LR ι (l.take n) (l'.take n):=by
 refine⟨by simp[h.1],fun i x x' a b=>?_⟩
 rw[List.getElem?_take]at a b
 split at a
 ·rename_i hi;rw[if_pos hi]at b;exact h.2 i _ _ a b
 ·cases a
theorem LR.set (h:LR ι l l')(hv:VR ι v v')(n:Nat):LR ι (l.set n v) (l'.set n v'):=by
 refine⟨by simp[h.1],fun i x x' a b=>?_⟩
 rw[List.getElem?_set]at a b;rw[←h.1]at b
 split at a
 ·rename_i hi;rw[if_pos hi]at b
  split at a
  ·rename_i hj;rw[if_pos hj]at b;simp at a b;subst a b;exact hv
  ·cases a
 ·rename_i hi;rw[if_neg hi]at b;exact h.2 i _ _ a b
def TR (ι : In)(t:VT)(l:List Value):Prop:=t.length=l.length∧∀(i:Nat) v v',t.get i=some v→l[i]?=some v'→VR ι v v'
theorem VT.some_lt {t:VT}{i:Nat}{v:Value}(h:t.get i=some v):i<t.length:=by
 unfold VT.get at h;rw[cond_eq_ite]at h
 split at h
 ·rename_i hi;exact Nat.lt_of_succ_le (show i+1≤t.n by simpa using hi)
 ·cases h
theorem VT.none_iff {t:VT}{i:Nat}:t.get i=none↔t.length≤i:=by
 unfold VT.get;rw[cond_eq_ite]
 split
 ·rename_i hi;simp only[Nat.ble_eq]at hi;simp[VT.length];omega
 ·rename_i hi;simp only[Nat.ble_eq]at hi;simp[VT.length];omega
theorem Vt.get_leaf (n:Nat):Vt.leaf.get n=undef:=by cases n<;>rfl
theorem Vt.get_setF:∀(f:Nat) (t:Vt) (n:Nat) (b:Value) (m:Nat),n<f→(Vt.setF f t n b).get m=if m=n then b else t.get m
 | 0,_,_,_,_,h=>absurd h (Nat.not_lt_zero _)
 | f+1,t,0,b,m,_=>by
  cases t<;>cases m<;>simp[Vt.setF,Vt.get,Vt.get_leaf]
 | f+1,t,n+1,b,m,h=>by
  have hn:n / 2<f:=by omega
  have ih:=fun t m=>Vt.get_setF f t (n / 2) b m hn
  cases t with
  | leaf=>
   cases m with
   | zero=>by_cases hb:n % 2=0<;>simp[Vt.setF,Vt.get,nb0,hb]
   | succ m=>
    have h0:=ih .leaf (m / 2);rw[Vt.get_leaf]at h0
    by_cases hb:n % 2=0<;>by_cases hm:m % 2=0<;>by_cases hq:m / 2=n / 2<;>by_cases he:m=n<;>simp[Vt.setF,Vt.get,nb0,hb,hm,he,Vt.get_leaf]<;>first|omega|(simp[h0,hq];done)|(simp[ih,Vt.get_leaf];done)|(simp_all;done)|(subst he;simp_all;done)|skip
  | node v l r=>
   cases m with
   | zero=>by_cases hb:n % 2=0<;>simp[Vt.setF,Vt.get,nb0,hb]
   | succ m=>
    by_cases hb:n % 2=0<;>by_cases hm:m % 2=0<;>by_cases hq:m / 2=n / 2<;>by_cases he:m=n<;>simp[Vt.setF,Vt.get,nb0,hb,hm,he]<;>first|omega|(simp[ih,hq];done)|(simp[ih];done)|(simp_all;done)|skip
theorem VT.len_set (t:VT)(i:Nat)(v:Value):(t.set i v).length=t.length:=by
 unfold VT.set;rw[cond_eq_ite]
 split<;>rfl
theorem VT.get_set (t:VT)(i:Nat)(v:Value)(j:Nat):(t.set i v).get j=if j=i then (if i<t.length then some v else none) else t.get j:=by
 by_cases hi:i<t.length
 ·have hset:t.set i v={ t with t:=Vt.setF (i+1) t.t i v }:=by
   unfold VT.set
   rw[cond_eq_ite,if_pos (by simp only[Nat.ble_eq];exact hi)]
  rw[hset];simp only[VT.get,cond_eq_ite,Nat.ble_eq,Vt.get_setF _ _ _ _ _ (Nat.lt_succ_self i)]
  by_cases hj:j=i
  ·subst hj
   have:j+1≤t.n:=hi
   simp[this,hi]
  ·simp[hj]
 ·have hset:t.set i v=t:=by
   unfold VT.set
   rw[cond_eq_ite,if_neg (by simp only[Nat.ble_eq];exact hi)]
  rw[hset]
  by_cases hj:j=i
  ·subst hj;rw[if_pos rfl,if_neg hi];exact VT.none_iff.2 (by omega)
  ·rw[if_neg hj]
theorem TR.mono {ι j:In}(h:ι.le j){t:VT}{l:List Value}(hl:TR ι t l):TR j t l:=⟨hl.1,fun i v v' a b=>(hl.2 i v v' a b).mono h⟩
theorem TR.get {ι : In}{t:VT}{l:List Value}(h:TR ι t l){i:Nat}{v:Value}(hi:t.get i=some v):∃v',l[i]?=some v'∧VR ι v v':=by
 have hlt:i<l.length:=by rw[←h.1];exact VT.some_lt hi
 exact⟨l[i],List.getElem?_eq_getElem hlt,h.2 i _ _ hi (List.getElem?_eq_getElem hlt)⟩
theorem TR.set {ι : In}{t:VT}{l:List Value}{v v':Value}(h:TR ι t l)(hv:VR ι v v')(n:Nat):TR ι (t.set n v) (l.set n v'):=by
 refine⟨by rw[VT.len_set,h.1];simp,fun i x x' a b=>?_⟩
 rw[VT.get_set]at a;rw[List.getElem?_set]at b
 by_cases hi:i=n
 ·rw[if_pos hi]at a
  rw[if_pos hi.symm]at b
  split at a
  ·rename_i hlt;rw[if_pos (by rw[←h.1];exact hlt)]at b;cases a;cases b;exact hv
  ·cases a
 ·rw[if_neg hi]at a
  rw[if_neg (Ne.symm hi)]at b
  exact h.2 i _ _ a b
theorem kiz:∀ {c:List Value} {n:Nat} {x r:List Value},keo c n x=some r→r=c.take n++x++c.drop (n+x.length)∧(x≠[]→n+x.length≤c.length)
 | c,n,[],r,h=>by
  cases c<;>simp[keo]at h<;>subst h<;>simp
 | [],n,_::_,r,h=>by simp[keo]at h
 | _::c,0,v::vs,r,h=>by
  simp only[keo,Option.map_eq_some_iff]at h;obtain⟨r',h1,rfl⟩:=h;obtain⟨rfl,h3⟩:=kiz h1
  refine⟨by simp,fun _=>?_⟩
  cases vs with
  | nil=>simp
  | cons u us=>have:=h3 (by simp);simp at this ⊢;omega
 | y::c,n+1,v::vs,r,h=>by
  simp only[keo,Option.map_eq_some_iff]at h;obtain⟨r',h1,rfl⟩:=h;obtain⟨rfl,h3⟩:=kiz h1
  have:=h3 (by simp)
  refine⟨by simp[show n+1+(vs.length+1)=(n+(vs.length+1))+1 by omega],fun _=>by simp at this ⊢;omega⟩
end
def ER (ι : In)(es:List (Value × Value × Nat))(es':List MapEntry):Prop:=
 es.length=es'.length∧∀(i:Nat) k v b e,es[i]?=some (k,v,b)→es'[i]?=some e→e.key=k∧(∃q n,k=.int q n)∧VR ι v e.val∧e.born=b
theorem ER.mono {ι j:In}(h:ι.le j){es es'}(he:ER ι es es'):ER j es es':=
 ⟨he.1,fun i k v b e x y=>let ⟨p,q,r,s⟩:=he.2 i k v b e x y;⟨p,q,r.mono h,s⟩⟩
def BR (T:Tab)(ι : In)(l:Loc)(w:World):Blk→Prop
 | .cells c e opn=>∃pre c' post,w.heap[l.blk]?=some (.cells (pre++c'++post).toArray e (0,0))∧pre.length=l.shf∧LR ι c c'∧(opn=true→∃ti,T.ty e=some ti∧post.length=l.ext*ti.size)
 | .map es clock=>∃es',w.heap[l.blk]?=some (.map es' clock)∧ER ι es es'.toList
 | .loop st pend fn tmps params assign body d=>∃tmps' ld,ι d=some ld∧w.heap[l.blk]?=some (.loop { state:=st,pending:=pend,fn,tmps:=tmps',params:=params.toArray,assign,body,defers:=ld.blk })∧TR ι tmps tmps'.toList
 | .defd taken=>w.heap[l.blk]?=some (.deferred (if taken then none else some []))
section
variable {T:Tab} {ι j:In} {l:Loc} {w w':World} {b:Blk}
theorem BR.keep (h:BR T ι l w b)(hj:ι.le j)(hw:w'.heap[l.blk]?=w.heap[l.blk]?):BR T j l w' b:=by
 cases b with
 | cells c e o=>obtain⟨pre,c',post,h1,h2,h3,h4⟩:=h;exact⟨pre,c',post,hw.trans h1,h2,h3.mono hj,h4⟩
 | map es cl=>obtain⟨es',h1,h2⟩:=h;exact⟨es',hw.trans h1,h2.mono hj⟩
 | loop st pend fn tmps params assign body d=>obtain⟨tmps',ld,h1,h2,h3⟩:=h;exact⟨tmps',ld,hj _ _ h1,hw.trans h2,h3.mono hj⟩
 | defd t=>exact hw.trans h
theorem BR.in (h:BR T ι l w b):l.blk<w.heap.size:=by
 have:∃o,w.heap[l.blk]?=some o:=by
  cases b with
  | cells c e o=>obtain⟨pre,c',post,h1,_⟩:=h;exact⟨_,h1⟩
  | map es cl=>obtain⟨es',h1,h2⟩:=h;exact⟨_,h1⟩
  | loop st pend fn tmps params assign body d=>obtain⟨tmps',ld,h1,h2,h3⟩:=h;exact⟨_,h2⟩
  | defd t=>exact⟨_,h⟩
 obtain⟨o,ho⟩:=this
 exact(Array.getElem?_eq_some_iff.1 ho).1
end
structure M (T:Tab)(ι : In)(h:Hp)(w:World):Prop where
 at_:∀k b,h.tr.get k=some b→∃l,ι k=some l∧BR T ι l w b
 inj:∀k k' b b' l l',h.tr.get k=some b→h.tr.get k'=some b'→ι k=some l→ι k'=some l'→l.blk=l'.blk→k=k'
 top:∀k,h.next≤k→ι k=none
structure Evo (ι : In)(h:Hp)(w:World)(ι':In)(h':Hp)(w':World):Prop where
 le:ι.le ι'
 dom:∀k,ι' k≠ι k→h.next≤k
 nx:h.next≤h'.next
 wall:h'.wall=h.wall
 size:w.heap.size≤w'.heap.size
 fr:∀b,b<w.heap.size→(∀k l,h.wall≤k→(h.tr.get k).isSome=true→ι k=some l→l.blk≠b)→w'.heap[b]?=w.heap[b]?
 live:∀k,(h'.tr.get k).isSome=true→(h.tr.get k).isSome=true∨h.next≤k
 img:∀k l,h.next≤k→ι' k=some l→w.heap.size≤l.blk∨∃k0 l0,h.wall≤k0∧(h.tr.get k0).isSome=true∧ι k0=some l0∧l0.blk=l.blk
 os:w'.os=w.os
 tape:w'.tape=w.tape
 output:w'.output=w.output
section
variable {T:Tab} {ι ι' ι'':In} {h h' h'':Hp} {w w' w'':World}
theorem M.lt (m:M T ι h w){k:Nat}{l:Loc}(hk:ι k=some l):k<h.next:=by
 rcases Nat.lt_or_ge k h.next with hlt|hge
 ·exact hlt
 ·rw[m.top k hge]at hk;cases hk
theorem Evo.refl (m:M T ι h w):Evo ι h w ι h w where
 le:=.refl ι
 dom:=fun k hk=>absurd rfl hk
 nx:=Nat.le_refl _
 wall:=rfl
 size:=Nat.le_refl _
 fr:=fun _ _ _=>rfl
 live:=fun _ hk=>.inl hk
 img:=fun k l hk hl=>by rw[m.top k hk]at hl;cases hl
 os:=rfl
 tape:=rfl
 output:=rfl
theorem Evo.old (e:Evo ι h w ι' h' w'){k:Nat}(hk:k<h.next):ι' k=ι k:=by
 rcases Classical.em (ι' k=ι k) with he|he
 ·exact he
 ·exact absurd (e.dom k he) (by omega)
theorem Evo.trans (m:M T ι h w)(e:Evo ι h w ι' h' w')(e':Evo ι' h' w' ι'' h'' w''):Evo ι h w ι'' h'' w'' where
 le:=e.le.trans e'.le
 dom:=fun k hk=>by
  rcases Classical.em (ι'' k=ι' k) with he|he
  ·rw[he]at hk;exact e.dom k hk
  ·exact Nat.le_trans e.nx (e'.dom k he)
 nx:=Nat.le_trans e.nx e'.nx
 wall:=e'.wall.trans e.wall
 size:=Nat.le_trans e.size e'.size
 fr:=fun b hb hno=>by
  have h1:=e.fr b hb hno;rw[←h1]
  refine e'.fr b (Nat.lt_of_lt_of_le hb e.size) fun k l hk hl hi=>?_
  rw[e.wall]at hk
  rcases e.live k hl with ho|ho
  ·have hkn:k<h.next:=by
    obtain⟨b0,hb0⟩:=Option.isSome_iff_exists.1 ho;obtain⟨l0,hl0,_⟩:=m.at_ k b0 hb0
    exact m.lt hl0
   rw[e.old hkn]at hi
   exact hno k l hk ho hi
  ·rcases e.img k l ho hi with hq|⟨k0,l0,a1,a2,a3,a4⟩
   ·omega
   ·rw[←a4];exact hno k0 l0 a1 a2 a3
 live:=fun k hk=>by
  rcases e'.live k hk with ho|ho
  ·exact e.live k ho
  ·exact .inr (Nat.le_trans e.nx ho)
 img:=fun k l hk hl=>by
  rcases Nat.lt_or_ge k h'.next with hlt|hge
  ·rw[e'.old hlt]at hl;exact e.img k l hk hl
  ·rcases e'.img k l hge hl with hq|⟨k0,l0,a1,a2,a3,a4⟩
   ·exact .inl (Nat.le_trans e.size hq)
   ·rw[e.wall]at a1
    rcases e.live k0 a2 with ho|ho
    ·have hkn:k0<h.next:=by
      obtain⟨b0,hb0⟩:=Option.isSome_iff_exists.1 ho;obtain⟨l1,hl1,_⟩:=m.at_ k0 b0 hb0
      exact m.lt hl1
     rw[e.old hkn]at a3
     exact .inr ⟨k0,l0,a1,ho,a3,a4⟩
    ·rw[←a4];exact e.img k0 l0 ho a3
 os:=e'.os.trans e.os
 tape:=e'.tape.trans e.tape
 output:=e'.output.trans e.output
theorem M.drew (m:M T ι h w)(n:Nat):M T ι h { w with drawn:=n }:=⟨fun k b hb=>let ⟨l,a,c⟩:=m.at_ k b hb;⟨l,a,c.keep (.refl _) rfl⟩,m.inj,m.top⟩
theorem Evo.drew (m:M T ι h w)(n:Nat):Evo ι h w ι h { w with drawn:=n } where
 le:=.refl ι
 dom:=fun k hk=>absurd rfl hk
 nx:=Nat.le_refl _
 wall:=rfl
 size:=Nat.le_refl _
 fr:=fun _ _ _=>rfl
 live:=fun _ hk=>.inl hk
 img:=fun k l hk hl=>by rw[m.top k hk]at hl;cases hl
 os:=rfl
 tape:=rfl
 output:=rfl
def upd (ι : In)(k:Nat)(l:Loc):In:=fun j=>if j=k then some l else ι j
theorem kdb (ι : In)(k:Nat)(l:Loc):upd ι k l k=some l:=by simp[upd]
theorem kdt (ι : In){k j:Nat}(l:Loc)(h:j≠k):upd ι k l j=ι j:=by simp[upd,h]
theorem M.upd_le (m:M T ι h w)(l:Loc):ι.le (upd ι h.next l):=fun k l' hk=>by
 have:=m.lt hk
 rw[kdt ι l (by omega)];exact hk
theorem M.new (m:M T ι h w)(l:Loc)(o:Obj)(b:Blk)(hl:l.blk=w.heap.size)(hb:BR T (upd ι h.next l) l { w with heap:=w.heap.push o } b) :
  M T (upd ι h.next l) (newB h b) { w with heap:=w.heap.push o }∧Evo ι h w (upd ι h.next l) (newB h b) { w with heap:=w.heap.push o }:=by
 have hold:∀c,c<w.heap.size→(w.heap.push o)[c]?=w.heap[c]?:=fun c hc=>by simp[Array.getElem?_push,Nat.ne_of_lt hc]
 have hget:∀k,(newB h b).tr.get k=if k=h.next then some b else h.tr.get k:=fun k=>by simp[newB,Tr.get_set]
 refine⟨⟨fun k c hc=>?_,fun k k' c c' l1 l2 hc hc' e1 e2 he=>?_,fun k hk=>?_⟩,?_⟩
 ·rw[hget]at hc
  split at hc
  ·rename_i hk;subst hk;cases hc;exact⟨l,kdb _ _ _,hb⟩
  ·rename_i hk
   obtain⟨l1,a1,a2⟩:=m.at_ k c hc
   exact⟨l1,by rw[kdt ι l hk];exact a1,a2.keep (m.upd_le l) (hold _ a2.in)⟩
 ·rw[hget]at hc hc'
  have key:∀k c l1,k≠h.next→h.tr.get k=some c→ι k=some l1→l1.blk<w.heap.size:=fun k c l1 hk hc e1=>by
   obtain⟨l3,a1,a2⟩:=m.at_ k c hc;rw[e1]at a1;cases a1;exact a2.in
  by_cases hk:k=h.next<;>by_cases hk':k'=h.next
  ·rw[hk,hk']
  ·rw[if_neg hk']at hc';rw[kdt ι l hk']at e2;rw[hk,kdb]at e1;cases e1
   have:=key k' c' l2 hk' hc' e2;omega
  ·rw[if_neg hk]at hc;rw[kdt ι l hk]at e1;rw[hk',kdb]at e2;cases e2
   have:=key k c l1 hk hc e1;omega
  ·rw[if_neg hk]at hc;rw[if_neg hk']at hc';rw[kdt ι l hk]at e1;rw[kdt ι l hk']at e2
   exact m.inj k k' c c' l1 l2 hc hc' e1 e2 he
 ·simp only[newB]at hk
  rw[kdt ι l (by omega)];exact m.top k (by omega)
 ·refine⟨m.upd_le l,fun k hk=>?_,by simp[newB],rfl,by simp,fun c hc _=>hold c hc,fun k hk=>?_,fun k l1 hk hl1=>?_,rfl,rfl,rfl⟩
  ·by_cases he:k=h.next
   ·omega
   ·exact absurd (kdt ι l he) hk
  ·rw[hget]at hk
   by_cases he:k=h.next
   ·exact .inr (by omega)
   ·rw[if_neg he]at hk;exact .inl hk
  ·by_cases he:k=h.next
   ·rw[he,kdb]at hl1;cases hl1;exact .inl (by omega)
   ·rw[kdt ι l he,m.top k hk]at hl1;cases hl1
theorem M.put (m:M T ι h w){k:Nat}{b b':Blk}{l:Loc}(hk:h.tr.get k=some b)(hl:ι k=some l)(hw:h.wall≤k)
  (hs:w'.heap.size=w.heap.size) (ho:∀c,c≠l.blk→w'.heap[c]?=w.heap[c]?) (hb:BR T ι l w' b') (h1:w'.os=w.os) (h2:w'.tape=w.tape) (h3:w'.output=w.output) :
  M T ι { h with tr:=h.tr.set k (some b') } w'∧Evo ι h w ι { h with tr:=h.tr.set k (some b') } w':=by
 refine⟨⟨fun q c hc=>?_,fun q q' c c' l1 l2 hc hc' e1 e2 he=>?_,m.top⟩,?_⟩
 ·simp only[Tr.get_set]at hc
  split at hc
  ·rename_i hq;subst hq;cases hc;exact⟨l,hl,hb⟩
  ·rename_i hq
   obtain⟨l1,a1,a2⟩:=m.at_ q c hc
   refine⟨l1,a1,a2.keep (.refl _) (ho _ fun he=>hq (m.inj q k c b l1 l hc hk a1 hl he))⟩
 ·have key:∀q c,(h.tr.set k (some b')).get q=some c→∃c0,h.tr.get q=some c0:=fun q c hc=>by
   rw[Tr.get_set]at hc
   split at hc
   ·rename_i hq;subst hq;exact⟨b,hk⟩
   ·exact⟨c,hc⟩
  obtain⟨c0,hc0⟩:=key q c hc;obtain⟨c1,hc1⟩:=key q' c' hc'
  exact m.inj q q' c0 c1 l1 l2 hc0 hc1 e1 e2 he
 ·refine⟨.refl ι,fun q hq=>absurd rfl hq,Nat.le_refl _,rfl,by omega,fun c hc hno=>ho c fun he=>hno k l hw (by simp[hk]) hl he.symm,fun q hq=>?_,fun q l1 hq hl1=>?_,h1,h2,h3⟩
  ·simp only[Tr.get_set]at hq
   split at hq
   ·rename_i he;subst he;exact .inl (by simp[hk])
   ·exact .inl hq
  ·rw[m.top q hq]at hl1;cases hl1
end
structure TyOk (P:Program)(t:TypeId)(i:TI):Prop where
 und:P.underlying t=some i.desc
 inf:∃f,P.info? t=some f∧f.size=i.size∧f.bytes=i.bytes∧f.zero=some (if i.agg then .agg i.zero.toArray else i.zero.headD undef)
 agg:i.agg=i.desc.isRow
 one:i.agg=false→i.zero.length=1
 leaf:i.zero.all kbx=true
structure FnOk (P:Program)(f:FuncId)(i:FI):Prop where
 at_:∃fn,P.funcs[f]?=some fn∧fn.body=some i.code∧fn.ntmps=i.ntmps∧fn.results.toList=i.results∧(fn.name == "runtime.NumGoroutine")=false
structure TabOk (T:Tab)(P:Program):Prop where
 ty:∀t i,T.ty t=some i→TyOk P t i
 fn:∀f i,T.fn f=some i→FnOk P f i
 mixed:P.follows .mixedOrders=true
section
variable {T:Tab} {P:Program} {ι : In} {h h':Hp} {w:World} {t:TypeId} {i:TI}
theorem TyOk.run_und (k:TyOk P t i):(underlying t).run P w=.ok i.desc w:=run_underlying k.und w
theorem TyOk.run_size (k:TyOk P t i):(sizeOf t).run P w=.ok i.size w:=by
 obtain⟨f,h1,h2,_⟩:=k.inf
 simp[sizeOf,typeInfo,h1,h2]
theorem TyOk.run_info (k:TyOk P t i):∃f,(typeInfo t).run P w=.ok f w∧f.size=i.size∧f.bytes=i.bytes:=by
 obtain⟨f,h1,h2,h3,_⟩:=k.inf
 exact⟨f,by simp[typeInfo,h1],h2,h3⟩
theorem TyOk.run_zero (k:TyOk P t i):(zeroValue t).run P w=.ok (if i.agg then .agg i.zero.toArray else i.zero.headD undef) w:=by
 obtain⟨f,h1,h2,h3,h4⟩:=k.inf
 simp[zeroValue,typeInfo,h1,h4]
theorem leaf_cells {v:Value}(h:kbx v=true):v.cells=#[v]:=by cases v<;>first|rfl|simp[kbx]at h
theorem kfw (v:Value):kdf v=v.cells.toList:=by cases v<;>rfl
theorem TyOk.zero_cells (k:TyOk P t i):(if i.agg then Value.agg i.zero.toArray else i.zero.headD undef).cells=i.zero.toArray:=by
 cases ha:i.agg with
 | true=>rfl
 | false=>
  have h1:=k.one ha;have h2:=k.leaf
  cases hz:i.zero with
  | nil=>simp[hz]at h1
  | cons v l=>
   have:l=[]:=by simpa[hz]using h1
   subst this;simp only[hz,List.all_cons,List.all_nil,Bool.and_true]at h2
   simp[leaf_cells h2]
theorem TyOk.run_isAgg (k:TyOk P t i):(isAgg t).run P w=.ok i.agg w:=by
 rw[k.agg];simp only[isAgg,Sem.run_bind,k.run_und,Result.andThen_ok]
 cases i.desc<;>rfl
theorem LR.leaves {l:List Value}(h:l.all kbx=true):LR ι l l:=⟨rfl,fun i v v' a b=>by
 rw[a]at b;cases b
 exact .leaf (List.all_eq_true.1 h v (List.mem_of_getElem? a))⟩
theorem VR.inv_ptr {k off:Nat}{x':Value}(hv:VR ι (.pointer (some ⟨k,off,none⟩)) x'):∃l,ι k=some l∧x'=.pointer (some ⟨l.blk,off+l.shf,none⟩):=by
 cases hv with
 | leaf h=>simp[kbx]at h
 | ptr h=>exact⟨_,h,rfl⟩
theorem VR.inv_int {k:IntKind}{n:Int}{x':Value}(hv:VR ι (.int k n) x'):x'=.int k n:=by cases hv;rfl
theorem VR.inv_bool {b:Bool}{x':Value}(hv:VR ι (.bool b) x'):x'=.bool b:=by cases hv;rfl
theorem VR.inv_agg {a:Array Value}{x':Value}(hv:VR ι (.agg a) x'):∃a',x'=.agg a'∧LR ι a.toList a'.toList:=by
 cases hv with
 | leaf h=>simp[kbx]at h
 | agg ha h=>exact⟨_,rfl,by simpa using ha,fun i v v' x y=>h i v v' (by simpa using x) (by simpa using y)⟩
theorem VR.inv_tuple {a:Array Value}{x':Value}(hv:VR ι (.tuple a) x'):∃a',x'=.tuple a'∧LR ι a.toList a'.toList:=by
 cases hv with
 | leaf h=>simp[kbx]at h
 | tuple ha h=>exact⟨_,rfl,by simpa using ha,fun i v v' x y=>h i v v' (by simpa using x) (by simpa using y)⟩
theorem VR.inv_map {k:Nat}{x':Value}(hv:VR ι (.map (some k)) x'):∃l,ι k=some l∧x'=.map (some l.blk):=by
 cases hv with
 | leaf h=>simp[kbx]at h
 | map h=>exact⟨_,h,rfl⟩
theorem VR.inv_leaf {v x':Value}(h:kbx v=true)(hv:VR ι v x'):x'=v:=by
 cases hv with
 | leaf h=>rfl
 | func ha hb _ _=>
  rename_i f a b a' b' _ _
  simp[kbx]at h
  obtain⟨h1,h2⟩:=h;subst h1 h2
  have e1:a'=#[]:=by simpa using ha.symm
  have e2:b'=#[]:=by simpa using hb.symm
  rw[e1,e2]
 | _=>simp[kbx]at h
theorem VR.inv_slice {a:Option Addr}{n c:Nat}{x':Value}(hv:VR ι (.slice a n c) x') :
  (a=none∧x'=.slice none n c)∨(∃k off sp l c',a=some ⟨k,off,sp⟩∧ι k=some l∧x'=.slice (some ⟨l.blk,off+l.shf,none⟩) n c'∧c'=(if sp.isSome then c+l.ext else c)):=by
 cases hv with
 | leaf h=>cases a with
  | none=>exact .inl ⟨rfl,rfl⟩
  | some a=>simp[kbx]at h
 | slice h=>exact .inr ⟨_,_,_,_,_,rfl,h,rfl,by simp⟩
 | opn h=>exact .inr ⟨_,_,_,_,_,rfl,h,rfl,by simp⟩
theorem VR.agg' {a a':List Value}(h:LR ι a a'):VR ι (.agg a.toArray) (.agg a'.toArray):=
 .agg (by simp[h.1]) fun i v v' x y=>h.2 i v v' (by simpa using x) (by simpa using y)
theorem VR.tuple' {a a':List Value}(h:LR ι a a'):VR ι (.tuple a.toArray) (.tuple a'.toArray):=
 .tuple (by simp[h.1]) fun i v v' x y=>h.2 i v v' (by simpa using x) (by simpa using y)
theorem VR.undef:VR ι Go.undef Go.undef:=.tuple rfl fun i v v' x _=>by simp at x
theorem VR.cells {v v':Value}(h:VR ι v v'):LR ι (kdf v) (kdf v'):=by
 cases h with
 | leaf h=>cases v<;>first|exact .cons (.leaf h) .nil|simp[kbx]at h
 | agg ha h=>exact⟨by simpa[kdf]using ha,fun i v v' x y=>h i v v' (by simpa[kdf]using x) (by simpa[kdf]using y)⟩
 | ptr h=>exact .cons (.ptr h) .nil
 | slice h=>exact .cons (.slice h) .nil
 | opn h=>exact .cons (.opn h) .nil
 | map h=>exact .cons (.map h) .nil
 | yield h=>exact .cons (.yield h) .nil
 | func ha hb h h'=>exact .cons (.func ha hb h h') .nil
 | tuple ha h=>exact .cons (.tuple ha h) .nil
theorem VR.one {v v':Value}(h:VR ι v v')(ho:v.oneCell'=true):v'.oneCell'=true:=by
 cases h<;>first|rfl|exact ho|simp[Value.oneCell']at ho
theorem LR.one {l l':List Value}(h:LR ι l l')(ho:l.all (·.oneCell')=true):∀v∈l',v.oneCell'=true:=fun v hv=>by
 obtain⟨i,hi⟩:=List.getElem?_of_mem hv
 have hlt:i<l.length:=by rw[h.1];exact(List.getElem?_eq_some_iff.1 hi).1
 exact(h.2 i _ _ (List.getElem?_eq_getElem hlt) hi).one (List.all_eq_true.1 ho _ (List.getElem_mem hlt))
theorem getElem?_mid {pre c' post:List Value}{i:Nat}{v:Value}(h:c'[i]?=some v):(pre++c'++post)[i+pre.length]?=some v:=by
 have hlt:i<c'.length:=(List.getElem?_eq_some_iff.1 h).1
 rw[List.append_assoc,List.getElem?_append_right (by omega),Nat.add_sub_cancel,List.getElem?_append_left hlt,h]
theorem M.cellsAt (m:M T ι h w){k:Nat}{l:Loc}{c:List Value}{e:TypeId}{o:Bool}(hl:ι k=some l)(hk:h.tr.get k=some (.cells c e o)) :
  ∃pre c' post,w.heap[l.blk]?=some (.cells (pre++c'++post).toArray e (0,0))∧pre.length=l.shf∧LR ι c c'∧(o=true→∃ti,T.ty e=some ti∧post.length=l.ext*ti.size):=by
 obtain⟨l',h1,h2⟩:=m.at_ k _ hk;rw[hl]at h1;cases h1
 exact h2
theorem M.ld (m:M T ι h w){k off:Nat}{l:Loc}{v:Value}(hl:ι k=some l)(hv:ld h k off=some v):∃v',w.cell? ⟨l.blk,off+l.shf,none⟩=some v'∧VR ι v v':=by
 unfold Ev.ld at hv
 split at hv
 ·rename_i c e o hk
  obtain⟨pre,c',post,h1,h2,h3,_⟩:=m.cellsAt hl hk;obtain⟨v',hv',hr⟩:=h3.get hv
  refine⟨v',?_,hr⟩
  have:=getElem?_mid (pre:=pre) (post:=post) hv'
  simp only[World.cell?,h1,←h2]
  simpa using this
 ·cases hv
theorem M.ldN (m:M T ι h w){k off n:Nat}{l:Loc}{vs:List Value}(hl:ι k=some l)(hv:ldN h k off n=some vs) :
  ∃vs',LR ι vs vs'∧vs'.length=n∧w.rangeAt l.blk (off+l.shf) vs':=by
 unfold Ev.ldN at hv
 split at hv
 ·rename_i c e o hk
  simp only[cond_eq_ite,Nat.beq_eq]at hv
  split at hv
  ·rename_i hn
   cases hv;obtain⟨pre,c',post,h1,h2,h3,_⟩:=m.cellsAt hl hk;have hr:=(h3.drop off).take n
   refine⟨_,hr,by rw[←hr.1];simpa using hn,fun j v hj=>?_⟩
   rw[List.getElem?_take]at hj
   split at hj
   ·rw[List.getElem?_drop]at hj
    have:=getElem?_mid (pre:=pre) (post:=post) hj
    simp only[World.cell?,h1,←h2]
    rw[show off+pre.length+j=off+j+pre.length by omega]
    simpa using this
   ·cases hj
  ·cases hv
 ·cases hv
theorem kgx {b o:Nat}{cs:List Value}(h:w.rangeAt b o cs):(loadCells ⟨b,o,none⟩ cs.length).run P w=.ok cs.toArray w:=
 run_loadCells_list (P:=P) w ⟨b,o,none⟩ cs fun j v hv=>by rw[Addr.add_mid];exact h j v hv
theorem take_mid {pre c post:List Value}{n:Nat}(h:n≤c.length):(pre++c++post).take (n+pre.length)=pre++c.take n:=by
 rw[List.append_assoc,Nat.add_comm,List.take_length_add_append,List.take_append_of_le_length h]
theorem drop_mid {pre c post:List Value}{n:Nat}(h:n≤c.length):(pre++c++post).drop (n+pre.length)=c.drop n++post:=by
 rw[List.append_assoc,Nat.add_comm,List.drop_length_add_append,List.drop_append_of_le_length h]
theorem sameB_ok:∀ {l m:List Value} {l' m':List Value},kjd l m=true→LR ι l l'→LR ι m m'→m'=l'∧m.all (·.oneCell')=true
 | [],[],l',m',_,hl,hm=>by rw[hl.inv_nil,hm.inv_nil];exact⟨rfl,rfl⟩
 | x::l,[],_,_,h,_,_=>by cases x<;>simp[kjd]at h
 | [],y::m,_,_,h,_,_=>by simp[kjd]at h
 | x::l,y::m,l',m',h,hl,hm=>by
  obtain⟨x',r,rfl,hx,hr⟩:=hl.inv_cons;obtain⟨y',s,rfl,hy,hs⟩:=hm.inv_cons
  cases x<;>cases y<;>simp only[kjd,Bool.and_eq_true]at h<;>first|(cases h;done)|skip
  ·obtain⟨h1,h2⟩:=h
   obtain⟨e1,e2⟩:=sameB_ok h2 hr hs;rw[hx.inv_bool,hy.inv_bool,e1]
   refine⟨?_,by rw[List.all_cons,e2];rfl⟩
   rename_i a b
   cases a<;>cases b<;>simp_all
  ·obtain⟨h1,h2⟩:=h
   obtain⟨e1,e2⟩:=sameB_ok h2 hr hs;rw[hx.inv_int,hy.inv_int,e1]
   refine⟨?_,by rw[List.all_cons,e2];rfl⟩
   rename_i j a k b
   cases j<;>cases k<;>simp_all
theorem M.st (m:M T ι h w){k off:Nat}{l:Loc}{vs vs':List Value}(hl:ι k=some l)(hs:st h k off vs=some h')(hv:LR ι vs vs')(P:Program) :
  ∃w',(storeCells ⟨l.blk,off+l.shf,none⟩ vs').run P w=.ok () w'∧M T ι h' w'∧Evo ι h w ι h' w':=by
 unfold Ev.st at hs
 split at hs
 case h_2=>cases hs
 rename_i c e o hk
 rw[cond_eq_ite]at hs;obtain⟨pre,c',post,h1,h2,h3,h4⟩:=m.cellsAt hl hk
 split at hs
 ·rename_i hw
  simp only[Nat.ble_eq]at hw;rw[cond_eq_ite]at hs
  split at hs
  case isFalse=>cases hs
  rename_i hone
  split at hs
  case h_2=>cases hs
  rename_i c2 hsp
  cases hs;obtain⟨rfl,hle⟩:=kiz hsp;have hlen:=hv.1
  by_cases hnil:vs=[]
  ·subst hnil
   have:=hv.inv_nil;subst this
   refine⟨w,rfl,?_⟩
   refine m.put hk hl hw rfl (fun _ _=>rfl) ⟨pre,c',post,h1,h2,?_,h4⟩ rfl rfl rfl
   simpa using h3
  ·have hle':=hle hnil
   have hc:=h3.1
   have hfit:off+l.shf+0+vs'.length≤(pre++c'++post).toArray.size:=by simp;omega
   have hrun:=run_storeCells_at P l.blk (off+l.shf) e vs' 0 _ w h1 hfit (hv.one hone)
   refine⟨_,hrun,?_⟩
   refine m.put hk hl hw (by simp) (fun q hq=>setRow_other _ _ _ _ hq) ⟨pre,c'.take off++vs'++c'.drop (off+vs.length),post,?_,h2,?_,h4⟩ rfl rfl rfl
   ·rw[setRow_heap w l.blk _ _ e (0,0) h1]
    simp only[Nat.add_zero]
    rw[show off+l.shf=off+pre.length by omega,take_mid (by omega),show off+pre.length+vs'.length=off+vs.length+pre.length by omega,drop_mid (by omega)]
    simp
   ·exact((h3.take off).append hv).append (h3.drop _)
 ·rw[cond_eq_ite]at hs
  split at hs
  case isFalse=>cases hs
  rename_i hsame
  cases hs;have hr:=(h3.drop off).take vs.length;obtain⟨heq,hone⟩:=sameB_ok hsame hr hv
  refine⟨w,?_,m,.refl m⟩
  have hlen:vs'.length=vs.length:=hv.1.symm
  by_cases hnil:vs'=[]
  ·subst hnil;rfl
  ·have hl2:((c'.drop off).take vs.length).length=vs.length:=by rw[←heq,hlen]
   simp only[List.length_take,List.length_drop]at hl2
   have hpos:0<vs.length:=by rw[←hlen];exact List.length_pos_iff.2 hnil
   have hfit:off+l.shf+0+vs'.length≤(pre++c'++post).toArray.size:=by simp;omega
   have hrun:=run_storeCells_at P l.blk (off+l.shf) e vs' 0 _ w h1 hfit (hv.one hone);rw[hrun]
   have hrow:((pre++c'++post).toArray.toList.take (off+l.shf+0)++vs'++(pre++c'++post).toArray.toList.drop (off+l.shf+0+vs'.length)).toArray=(pre++c'++post).toArray:=by
    simp only[Nat.add_zero]
    rw[show off+l.shf=off+pre.length by omega]
    have e1:=take_mid (pre:=pre) (c:=c') (post:=post) (n:=off) (by omega)
    have e2:=drop_mid (pre:=pre) (c:=c') (post:=post) (n:=off+vs.length) (by omega)
    rw[show off+pre.length+vs'.length=off+vs.length+pre.length by omega]
    simp only[e1,e2,heq]
    congr 1
    have e3:c'=c'.take off++((c'.drop off).take vs.length++c'.drop (off+vs.length)):=by
     rw[←List.drop_drop,List.take_append_drop,List.take_append_drop]
    rw[show (pre++c'++post)=(pre++(c'.take off++((c'.drop off).take vs.length++c'.drop (off+vs.length)))++post) by rw[←e3]]
    simp[List.append_assoc]
   rw[hrow,setRow_self w l.blk _ e (0,0) h1]
end
end Go.Ev
