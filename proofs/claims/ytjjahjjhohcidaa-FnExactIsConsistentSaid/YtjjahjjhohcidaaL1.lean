/- Value semantics for Go code, part 1: the data and the steps of a run over plain data, and what they say of memory. Conditions: none beyond those in each lemma. -/
import Derived.Calls
import Derived.Maps.AppendAt
set_option linter.unusedSimpArgs false
set_option linter.unusedVariables false
namespace Dv
open Go
abbrev A2:=List Nat
inductive D where
 | undef
 | int (k:IntKind) (n:Int)
 | bool (b:Bool)
 | str (s:ByteArray)
 | konst (v:Value)
 | sl (e:TypeId) (xs:List D)
 | own (e:TypeId) (xs:List D)
 | agg (xs:List D)
 | tup (xs:List D)
 | clo (f:FuncId) (xs:List D)
 | ocl (p:Bool) (f:FuncId) (xs:List D)
 | mp (k e:TypeId) (es:List (List Int×List Int))
 | box (xs:List D)
 | cptr (xs:List D)
 | vw (L:A2) (n m:Nat)
 | pe (L:A2) (c:Nat) (n m:Nat)
 | vs (e:TypeId) (L:A2) (n m lo len:Nat)
instance:Inhabited D:=⟨.undef⟩
inductive Ty where
 | int (k:IntKind)
 | bool
 | string
 | slice (e:TypeId)
 | struct (fs:List TypeId)
 | func
 | ptr
 | map (k e:TypeId)
 | other
structure Tys where
 ty:TypeId→Ty
 nest:TypeId→Option (List (Nat×TypeId)):=fun _=>none
def Ty.size:Ty→Nat
 | .struct fs=>fs.length
 | _=>1
def Ty.isStruct:Ty→Bool
 | .struct _=>true
 | _=>false
def Tys.size(T:Tys)(t:TypeId):Nat:=(T.ty t).size
def Tys.known(T:Tys)(t:TypeId):Bool:=match T.ty t with | .other=>false | .map _ _=>false | .struct []=>false | _=>true
def Tys.foff(T:Tys)(t:TypeId)(i:Nat):Option Nat:=
 match T.nest t with
 | none=>if i<T.size t then some i else none
 | some fl=>(fl[i]?).map (·.1)
def Tys.isStruct(T:Tys)(t:TypeId):Bool:=(T.ty t).isStruct
def Tys.isSl(T:Tys)(t e:TypeId):Bool:=match T.ty t with | .slice e'=>e'==e | _=>false
def Tys.elem(T:Tys)(t:TypeId):Bool:=T.known t&&decide (T.size t≤4)
def Tys.zero1(T:Tys)(t:TypeId):D:=
 match T.ty t with
 | .int k=> .int k 0
 | .bool=> .bool false
 | .string=> .str ByteArray.empty
 | .slice e=> .own e []
 | .func=> .konst .nilFunc
 | .ptr=> .konst (.pointer none)
 | _=> .undef
def Tys.zeros(T:Tys)(t:TypeId):List D:=
 match T.ty t with
 | .struct fs=>fs.map T.zero1
 | _=>[T.zero1 t]
def D.isObj:D→Bool
 | .own _ _=>true
 | .box _=>true
 | .mp _ _ _=>true
 | _=>false
mutual
def D.hasObj:D→Bool
 | .own _ _=>true
 | .box _=>true
 | .mp _ _ _=>true
 | .agg xs=>AC xs
 | .tup xs=>AC xs
 | _=>false
def AC:List D→Bool
 | []=>false
 | d::ds=>d.hasObj||AC ds
end
structure St where
 v:Nat→D
 k:Nat→Nat
 m:Nat→Nat
def F6{α:Type}(f:Nat→α)(t:Nat)(d:α):Nat→α:=fun u=>if u=t then d else f u
def St.put(s:St)(t:Nat)(d:D):St:=
 if d.hasObj then {v:=F6 s.v t d,k:=F6 s.k t (s.k t+1),m:=s.m}else {s with v:=F6 s.v t d}
def St.clr(s:St)(t:Nat):St:={s with v:=F6 s.v t .undef}
def St.bump(s:St)(t:Nat):St:={s with m:=F6 s.m t (s.m t+1)}
def AX:D→A2→Option D
 | d,[]=>some d
 | .own _ xs,c::p=>(xs[c]?).bind fun d=>AX d p
 | .box xs,c::p=>(xs[c]?).bind fun d=>AX d p
 | .agg xs,c::p=>(xs[c]?).bind fun d=>AX d p
 | .tup xs,c::p=>(xs[c]?).bind fun d=>AX d p
 | _,_::_=>none
def CU:D→A2→D→D
 | _,[],x=>x
 | .own e xs,c::p,x=> .own e (xs.set c (CU (xs.getD c .undef) p x))
 | .box xs,c::p,x=> .box (xs.set c (CU (xs.getD c .undef) p x))
 | .agg xs,c::p,x=> .agg (xs.set c (CU (xs.getD c .undef) p x))
 | .tup xs,c::p,x=> .tup (xs.set c (CU (xs.getD c .undef) p x))
 | d,_::_,_=>d
def St.get(s:St):A2→Option D
 | []=>none
 | t::p=>AX (s.v t) p
def St.set(s:St)(L:A2)(x:D):St:=
 match L with
 | []=>s
 | t::p=>{s with v:=F6 s.v t (CU (s.v t) p x)}
structure Pm where
 rd:Nat→Bool
 wr:Nat→Bool
def Pm.all:Pm:=⟨fun _=>true,fun _=>true⟩
def St.look(s:St)(pm:Pm)(L:A2)(n m:Nat):Option D:=
 match L with
 | []=>none
 | t::p=>
  if pm.rd t&&(s.k t==n)&&(p.isEmpty||s.m t==m)then
   match AX (s.v t) p with
   | some (.own e xs)=>some (.own e xs)
   | some (.box xs)=>some (.box xs)
   | _=>none
  else none
def Oz(s:St)(L:A2):D:= .vw L (s.k (L.headD 0)) (s.m (L.headD 0))
def Bq(s:St)(L:A2)(c:Nat):D→D
 | .own _ _=>Oz s (L++[c])
 | .box _=>Oz s (L++[c])
 | d=>d
mutual
def BX:D→Option D
 | .own e xs=>(B5 xs).map (.sl e)
 | .box xs=>(B5 xs).map .cptr
 | .agg xs=>(B5 xs).map .agg
 | .tup xs=>(B5 xs).map .tup
 | .vw _ _ _=>none
 | .pe _ _ _ _=>none
 | .vs _ _ _ _ _ _=>none
 | .undef=>none
 | .int k n=>some (.int k n)
 | .bool b=>some (.bool b)
 | .str s=>some (.str s)
 | .konst v=>some (.konst v)
 | .sl e xs=>some (.sl e xs)
 | .clo f xs=>some (.clo f xs)
 | .ocl _ _ _=>none
 | .mp _ _ _=>none
 | .cptr xs=>some (.cptr xs)
def B5:List D→Option (List D)
 | []=>some []
 | d::ds=>(BX d).bind fun d'=>(B5 ds).map (d':: ·)
end
mutual
def BA:D→Bool
 | .sl _ xs=> !xs.isEmpty
 | .cptr _=>true
 | .clo _ xs=> !xs.isEmpty
 | .ocl _ _ _=>true
 | .mp _ _ _=>true
 | .own _ xs=>BB xs
 | .box xs=>BB xs
 | .agg xs=>BB xs
 | .tup xs=>BB xs
 | .vw _ _ _=>true
 | .pe _ _ _ _=>true
 | .vs _ _ _ _ _ _=>true
 | _=>false
def BB:List D→Bool
 | []=>false
 | d::ds=>BA d||BB ds
end
end Dv
namespace Dv
open Go
def IY(op:BinOp)(k:IntKind)(x y:Int):Int:=
 let a:=BitVec.ofInt k.bits x
 let b:=BitVec.ofInt k.bits y
 k.wrap (match op with
  | .and=>(a &&& b).toNat
  | .or=>(a ||| b).toNat
  | .xor=>(a ^^^ b).toNat
  | _=>(a &&& ~~~b).toNat)
def BM(op:BinOp)(a b:D):Option D:=
 match a,b with
 | .int k x, .int k' y=>
  match op with
  | .shl=>if y<0 then none else some (.int k (k.wrap (x*2 ^ (min y.toNat k.bits))))
  | .shr=>if y<0 then none else some (.int k (x.fdiv (2 ^ (min y.toNat k.bits))))
  | _=>
   if k=k' then
    match op with
    | .add=>some (.int k (k.wrap (x+y)))
    | .sub=>some (.int k (k.wrap (x-y)))
    | .mul=>some (.int k (k.wrap (x*y)))
    | .quo=>if y=0 then none else some (.int k (k.wrap (x.tdiv y)))
    | .rem=>if y=0 then none else some (.int k (x.tmod y))
    | .and=>some (.int k (IY .and k x y))
    | .or=>some (.int k (IY .or k x y))
    | .xor=>some (.int k (IY .xor k x y))
    | .andNot=>some (.int k (IY .andNot k x y))
    | .eql=>some (.bool (x==y))
    | .neq=>some (.bool (x != y))
    | .lss=>some (.bool (x<y))
    | .leq=>some (.bool (x≤y))
    | .gtr=>some (.bool (x>y))
    | .geq=>some (.bool (x≥y))
    | _=>none
   else none
 | .bool x, .bool y=>
  match op with
  | .eql=>some (.bool (x==y))
  | .neq=>some (.bool (!(x==y)))
  | _=>none
 | .str x, .str y=>
  match op with
  | .add=>if x.size+y.size<1099511627776 then some (.str (x++y))else none
  | .eql=>some (.bool (x.toList==y.toList))
  | .neq=>some (.bool (!(x.toList==y.toList)))
  | .lss=>some (.bool (Op.bytesLess x.toList y.toList))
  | _=>none
 | .agg [.int k x, .int l y], .agg [.int k' x', .int l' y']=>
  if k=k'∧l=l' then
   match op with
   | .eql=>some (.bool ((x==x')&&(y==y')))
   | .neq=>some (.bool (!((x==x')&&(y==y'))))
   | _=>none
  else none
 | _,_=>none
def M1(x y:Int):Int:=if y<x then y else x
def Qb(x y:Int):Int:=if x<y then y else x
def Iy(mx:Bool)(a b:D):Option D:=
 match a,b with
 | .int k x, .int k' y=>if k=k' then some (.int k (if mx=true then Qb x y else M1 x y))else none
 | _,_=>none
def Vo(op:UnOp)(a:D):Option D:=
 match op,a with
 | .neg, .int k n=>some (.int k (k.wrap (0-n)))
 | .not, .bool b=>some (.bool (!b))
 | _,_=>none
def HA(T:Tys)(t:TypeId):Value→Option D
 | .int k n=>some (.int k n)
 | .bool b=>some (.bool b)
 | .string s=>some (.str s)
 | .slice none 0 0=>match T.ty t with | .slice e=>some (.own e []) | .other=>some (.konst (.slice none 0 0)) | _=>none
 | .nilFunc=>some (.konst .nilFunc)
 | .nilIface=>some (.konst .nilIface)
 | .pointer none=>some (.konst (.pointer none))
 | _=>none
def ev(T:Tys)(s:St)(t:TypeId):Operand→Option D
 | .tmp u=>some (s.v u)
 | .const v=>HA T t v
 | .func f=>some (.clo f [])
 | .global _=>none
def GJ(pm:Pm)(s:St)(L:A2)(n m:Nat):Option (D×St):=
 match s.look pm L n m with
 | none=>none
 | some c=>
  if pm.wr (L.headD 0)then
   match s.get L.dropLast with
   | some (.own _ _)=>(BX c).map fun c'=>(c',s.set L c')
   | _=>some (c,s.set L .undef)
  else none
mutual
def Af(pm:Pm)(s:St):D→Option (D×St)
 | .vw L n m=>GJ pm s L n m
 | .agg xs=>(C6 pm s xs).map fun r=>(.agg r.1,r.2)
 | .own e xs=>some (.own e xs,s)
 | .box xs=>some (.box xs,s)
 | .int k n=>some (.int k n,s)
 | .bool b=>some (.bool b,s)
 | .str x=>some (.str x,s)
 | .konst v=>match v with | .tuple _=>none | .agg _=>none | v=>some (.konst v,s)
 | .sl e xs=>some (.sl e xs,s)
 | .clo f xs=>some (.clo f xs,s)
 | .ocl _ _ _=>none
 | .mp _ _ _=>none
 | .cptr xs=>some (.cptr xs,s)
 | .undef=>none
 | .tup _=>none
 | .pe _ _ _ _=>none
 | .vs _ _ _ _ _ _=>none
def C6(pm:Pm)(s:St):List D→Option (List D×St)
 | []=>some ([],s)
 | d::ds=>(Af pm s d).bind fun r=>(C6 pm r.2 ds).map fun q=>(r.1::q.1,q.2)
end
def take(T:Tys)(pm:Pm)(s:St)(t:TypeId)(x:Operand):Option (D×St):=
 match ev T s t x with
 | none=>none
 | some d=>
  match x with
  | .tmp u=>Af pm (if d.hasObj then s.clr u else s) d
  | _=>Af pm s d
def Cr(pm:Pm)(s:St)(x:Operand)(d:D):Option (A2×Nat×D):=
 match d with
 | .box xs=>match x with | .tmp u=>some ([u],0, .box xs) | _=>none
 | .vw L n m=>match s.look pm L n m with | some (.box xs)=>some (L,0, .box xs) | _=>none
 | .pe L c n m=>match s.look pm L n m with | some o=>some (L,c,o) | none=>none
 | _=>none
def D.cells:D→List D
 | .own _ xs=>xs
 | .box xs=>xs
 | _=>[]
def D.withCells:D→List D→D
 | .own e _,ys=> .own e ys
 | .box _,ys=> .box ys
 | d,_=>d
def Ak(pm:Pm)(s:St)(x:Operand)(d:D):Option (TypeId×List D×Option (A2×Nat×Nat)):=
 match d with
 | .sl e xs=>some (e,xs,none)
 | .own e xs=>match x with | .tmp u=>some (e,xs,some ([u],s.k u,s.m u)) | _=>if xs.isEmpty then some (e,xs,none)else none
 | .vw L n m=>match s.look pm L n m with | some (.own e xs)=>some (e,xs,some (L,n,m)) | _=>none
 | _=>none
def Tys.len(T:Tys)(e:TypeId)(xs:List D):Nat:=if T.size e=1 then xs.length else xs.length / T.size e
def Al:List D→Nat→List D→List D
 | xs,_,[]=>xs
 | xs,c,y::ys=>Al (xs.set c y) (c+1) ys
def D.isAgg:D→Bool
 | .agg _=>true
 | _=>false
def D.asCells:D→List D
 | .agg xs=>xs
 | d=>[d]
def Ai:D→Bool
 | .undef=>false
 | .agg _=>false
 | .tup _=>false
 | .vw _ _ _=>false
 | .pe _ _ _ _=>false
 | .vs _ _ _ _ _ _=>false
 | .ocl _ _ _=>false
 | .mp _ _ _=>false
 | .konst (.tuple _)=>false
 | .konst (.agg _)=>false
 | _=>true
def Aj(d:D):Option D:=if d.hasObj then none else some d
def Bn(T:Tys)(pm:Pm)(s:St)(t:TypeId)(x:Operand)(d:D):Option D:=
 if T.known t then
  match d with
  | .cptr xs=>
   if T.isStruct t then(if T.size t≤xs.length then some (.agg (xs.take (T.size t)))else none)else xs[0]?
  | .ocl true f xs=>if T.isStruct t then none else some (.ocl false f xs)
  | d=>
   match Cr pm s x d with
   | none=>none
   | some (L,c,o)=>
    if T.isStruct t then
     if c+T.size t≤o.cells.length then Aj (.agg ((List.range (T.size t)).map fun i=>Bq s L (c+i) (o.cells.getD (c+i) .undef)))else none
    else(o.cells[c]?).bind fun x=>Aj (Bq s L c x)
 else none
def JU(pm:Pm)(s:St)(L:A2)(n m:Nat):Option (D×St):=
 match s.look pm L n m with
 | none=>none
 | some c=>if pm.wr (L.headD 0)then some (c,s.set L .undef)else none
def EM(T:Tys)(pm:Pm)(s:St)(t:TypeId)(x:Operand):Option (D×St):=
 match ev T s t x with
 | some (.vw L n m)=>JU pm s L n m
 | _=>take T pm s t x
def CF(T:Tys)(pm:Pm)(t:TypeId)(ax:Operand)(q:Option (D×St)):Option St:=
 match q with
 | none=>none
 | some (d,s1)=>
  match ev T s1 t ax with
  | none=>none
  | some ad=>
   match Cr pm s1 ax ad with
   | none=>none
   | some (L,c,o)=>
    if T.known t&&pm.wr (L.headD 0)&&d.asCells.all Ai&&(T.size t==d.asCells.length)&&(T.isStruct t==d.isAgg)&&decide (c+T.size t≤o.cells.length)then
     let s2:=s1.set L (o.withCells (Al o.cells c d.asCells))
     some (if d.hasObj||AC o.cells then s2.bump (L.headD 0)else s2)
    else none
def E1(T:Tys)(pm:Pm)(s:St)(t:TypeId)(ax:Operand)(x:Operand):Option St:=CF T pm t ax (take T pm s t x)
def Dk(s:St)(t0:Nat):D→D
 | .vw [r] n m=>if r=t0∧n=s.k t0 then .undef else .vw [r] n m
 | d=>d
def IZ(T:Tys)(pm:Pm)(s:St)(t:TypeId)(ax x:Operand):Option St:=
 match ax,x with
 | .tmp t0, .tmp u=>
  match s.v t0,s.v u with
  | .box [_], .ocl false f xs=>if T.known t&& !T.isStruct t&&(T.size t==1)&&pm.rd t0&&pm.wr t0 then some (s.set [t0] (.ocl true f (xs.map (Dk s t0))))else none
  | _,_=>none
 | _,_=>none
def CG(T:Tys)(pm:Pm)(s:St)(t:TypeId)(x:Operand)(d:D)(i:Nat):Option D:=
 match T.foff t i with
 | none=>none
 | some j=>
  if T.isStruct t then
   match d with
   | .box _=>match x with | .tmp u=>some (.pe [u] j (s.k u) (s.m u)) | _=>none
   | .vw L n m=>match s.look pm L n m with | some (.box _)=>some (.pe L j n m) | _=>none
   | .pe L c n m=>match s.look pm L n m with | some _=>some (.pe L (c+j) n m) | none=>none
   | .cptr xs=>some (.cptr (xs.drop j))
   | _=>none
  else none
def Bd(T:Tys)(pm:Pm)(s:St)(t:TypeId)(x:Operand)(d i:D):Option D:=
 match T.ty t,i with
 | .slice e, .int _ n=>
  match Ak pm s x d with
  | some (e',xs,o)=>
   if e'=e∧T.known e=true∧0≤n∧n.toNat<T.len e xs then
    match o with
    | none=>some (.cptr ((xs.drop (n.toNat*T.size e)).take (T.size e)))
    | some (L,a,b)=>some (.pe L (n.toNat*T.size e) a b)
   else none
  | none=>none
 | _,_=>none
def FA(T:Tys)(pm:Pm)(s:St)(t:TypeId)(x:Operand)(d:D):Option D:=
 match T.ty t,d with
 | .string, .str b=>some (.int .i64 b.size)
 | .slice _,d=>match Ak pm s x d with
  | some (e,xs,_)=>if T.known e then some (.int .i64 (T.len e xs))else none
  | none=>none
 | _,_=>none
def SA(T:Tys)(pm:Pm)(s:St)(t e1:TypeId)(L:A2)(va vb lo len:Nat)(i:D):Option D:=
 match T.ty t,i with
 | .slice e, .int _ n=>
  match s.look pm L va vb with
  | some (.own e2 xs)=>if e1=e∧e2=e∧T.known e=true∧T.size e=1∧0≤n∧n.toNat<len∧lo+len≤xs.length then some (.pe L (lo+n.toNat) va vb)else none
  | _=>none
 | _,_=>none
def IC(T:Tys)(pm:Pm)(s:St)(t:TypeId)(x:Operand)(d i:D):Option D:=
 match d with
 | .vs e L va vb lo len=>SA T pm s t e L va vb lo len i
 | d=>Bd T pm s t x d i
def Ud(len:Nat):Ty→Option D
 | .slice _=>some (.int .i64 len)
 | _=>none
def NK(T:Tys)(pm:Pm)(s:St)(t:TypeId)(x:Operand)(d:D):Option D:=
 match d with
 | .vs _ _ _ _ _ len=>Ud len (T.ty t)
 | d=>FA T pm s t x d
def GH(T:Tys)(s:St)(dflt:Nat):Option Operand→Option Nat
 | none=>some dflt
 | some x=>match ev T s 0 x with
  | some (.int _ n)=>if 0≤n then some n.toNat else none
  | _=>none
def JV(L:A2)(n m:Nat)(e:TypeId)(l h:Nat)(s:St):Option (D×St):=some (.vs e L n m l (h-l),s)
def DU(T:Tys)(pm:Pm)(s:St)(t:TypeId)(x:Operand)(d:D)(lo hi mx:Option Operand):Option (D×St):=
 match T.ty t,d with
 | .string, .str b=>
  match GH T s 0 lo,GH T s b.size hi with
  | some l,some h=>if l≤h∧h≤b.size∧mx.isNone then some (.str (b.extract l h),s)else none
  | _,_=>none
 | .slice e',d=>match Ak pm s x d with
  | none=>none
  | some (e,xs,o)=>
   match GH T s 0 lo,GH T s (T.len e xs) hi with
   | some l,some h=>
    if e'=e∧T.known e=true∧l≤h∧h≤T.len e xs then
     if mx.isSome then
      match GH T s 0 mx with
      | some q=>if l=h∧h=q∧hi.isSome=true then some (.own e [],s)else none
      | none=>none
     else match o with
      | none=>some (.sl e ((xs.take (h*T.size e)).drop (l*T.size e)),s)
      | some (L,va,vb)=>
       if pm.wr (L.headD 0)then
        match B5 xs with
        | some ys=>some (.sl e ((ys.take (h*T.size e)).drop (l*T.size e)),s.set L (.sl e ys))
        | none=>none
       else JV L va vb e l h s
    else none
   | _,_=>none
 | _,_=>none
def Pm.see(pm:Pm):Pm:=⟨pm.rd,fun _=>false⟩
def ZD(pm:Pm):Operand→Bool
 | .tmp u=>pm.wr u
 | _=>true
def GK(T:Tys)(pm:Pm)(s:St)(t:TypeId)(x:Operand)(hi:Option Operand):Option (D×St):=
 match T.ty t with
 | .slice e'=>
  match (if ZD pm x then take T pm s t x else none)with
  | some (.own e xs,s1)=>
   match GH T s (T.len e xs) hi with
   | some h=>if e'=e∧T.known e=true∧h≤T.len e xs then some (.own e (xs.take (h*T.size e)),s1)else none
   | none=>none
  | _=>none
 | _=>none
def En(T:Tys)(pm:Pm)(s:St)(t:TypeId)(x:Operand)(lo:Option Operand):Option (D×St):=
 match T.ty t with
 | .slice e'=>
  match (if ZD pm x then take T pm s t x else none)with
  | some (.own e xs,s1)=>
   match GH T s 0 lo with
   | some l=>if e'=e∧T.known e=true∧l≤T.len e xs then some (.own e (xs.drop (l*T.size e)),s1)else none
   | none=>none
  | _=>none
 | _=>none
def HQ(pm:Pm)(s:St)(x:Operand)(d:D):Option (TypeId×A2×List D×Nat×Nat):=
 match d with
 | .vs e L n m lo len=>
  match s.look pm L n m with
  | some (.own e' xs)=>if e'=e∧lo+len≤xs.length then some (e,L,xs,lo,len)else none
  | _=>none
 | d=>
  match Ak pm s x d with
  | some (e,xs,some (L,_,_))=>some (e,L,xs,0,xs.length)
  | _=>none
def Iz(pm:Pm)(s:St)(x:Operand)(d:D):Option (TypeId×List D):=
 match d with
 | .vs e L n m lo len=>
  match s.look pm L n m with
  | some (.own e' xs)=>if e'=e∧lo+len≤xs.length then some (e,(xs.drop lo).take len)else none
  | _=>none
 | d=>(Ak pm s x d).map fun r=>(r.1,r.2.1)
def Fp(T:Tys)(pm:Pm)(s:St)(t:TypeId)(x y:Operand)(a b:D):Option (D×St):=
 match HQ pm s x a,Iz pm s y b with
 | some (e,L,xs,lo,len),some (e',ys)=>
  if T.isSl t e&&(e==e')&&T.known e&&(T.size e==1)&& !AC xs&& !AC ys&&ys.all Ai&&pm.wr (L.headD 0)then
   some (.int .i64 (min len ys.length:Nat),s.set L (.own e (Al xs lo (ys.take (min len ys.length)))))
  else none
 | _,_=>none
def Ea(T:Tys)(pm:Pm)(s:St)(t:TypeId)(x:Operand)(a:D):Option (D×St):=
 match HQ pm s x a with
 | some (e,L,xs,lo,len)=>
  if T.isSl t e&&T.known e&&(T.size e==1)&& !T.isStruct e&&Ai (T.zero1 e)&&pm.wr (L.headD 0)then
   some (.tup [],(s.set L (.own e (Al xs lo (List.replicate len (T.zero1 e))))).bump (L.headD 0))
  else none
 | none=>none
def CV(T:Tys)(pm:Pm)(s:St)(ty:TypeId)(x y:Operand):Option (D×St):=
 match T.ty ty with
 | .slice e=>
  match EM T pm s ty x with
  | some (.own e1 xs,s1)=>
   match ev T s1 ty y with
   | some d=>
    match Ak pm s1 y d with
    | some (e2,ys,_)=>
     if e1=e∧e2=e∧T.elem e=true∧ys.all Ai=true∧xs.length+ys.length<1099511627776 then
      if AC ys then
       match d,y with
       | .own _ _, .tmp u=>some (.own e (xs++ys),s1.clr u)
       | _,_=>none
      else some (.own e (xs++ys),s1)
     else none
    | none=>none
   | none=>none
  | _=>none
 | _=>none
def Ci(T:Tys)(ty:TypeId)(l c:D):Option D:=
 match T.ty ty,l,c with
 | .slice e, .int .i64 n, .int .i64 q=>
  if 0≤n∧n=q∧n<1099511627776∧T.elem e=true then
   if T.isStruct e=true then some (.own e (List.replicate n.toNat (T.zeros e)).flatten)
   else if T.size e=1 then some (.own e (List.replicate n.toNat (T.zero1 e)))else none
  else none
 | _,_,_=>none
def CW(T:Tys)(pm:Pm)(tf:Nat→TypeId)(sz:Nat):St→List D→List (Nat×Operand)→Option (List D×St)
 | s,cs,[]=>some (cs,s)
 | s,cs,(i,x)::rest=>
  match take T pm s (tf i) x with
  | none=>none
  | some (d,s1)=>if d.asCells.length=sz∧i*sz+sz≤cs.length then CW T pm tf sz s1 (Al cs (i*sz) d.asCells) rest else none
def E3(T:Tys)(pm:Pm)(fl:List (Nat×TypeId)):St→List D→List (Nat×Operand)→Option (List D×St)
 | s,cs,[]=>some (cs,s)
 | s,cs,(i,x)::rest=>
  match fl[i]? with
  | none=>none
  | some (off,ty)=>
   match take T pm s ty x with
   | none=>none
   | some (d,s1)=>if d.asCells.length=T.size ty∧off+T.size ty≤cs.length then E3 T pm fl s1 (Al cs off d.asCells) rest else none
def Tys.nums(T:Tys)(t:TypeId):Option (Bool×Nat):=
 match T.ty t with
 | .int .i64=>some (false,1)
 | .struct [a,b]=>match T.ty a,T.ty b,T.nest t with | .int .i64, .int .i64,none=>some (true,2) | _,_,_=>none
 | _=>none
def P3:List D→Option (List Int)
 | []=>some []
 | .int .i64 n::ds=>(P3 ds).map (n:: ·)
 | _=>none
def EN(ag:Bool)(n:Nat):D→Option (List Int)
 | .int .i64 x=>if ag=false∧n=1 then some [x]else none
 | .agg xs=>if ag=true∧xs.length=n then P3 xs else none
 | _=>none
def HB(ag:Bool)(l:List Int):D:=if ag=true then .agg (l.map (.int .i64))else .int .i64 (l.headD 0)
def St.lookM(s:St)(pm:Pm)(L:A2)(n:Nat):Option (TypeId×TypeId×List (List Int×List Int)):=
 match L with
 | [t]=>if pm.rd t&&(s.k t==n)then(match s.v t with | .mp k e es=>some (k,e,es) | _=>none)else none
 | _=>none
def HR(pm:Pm)(s:St)(x:Operand)(d:D):Option (TypeId×TypeId×List (List Int×List Int)×A2):=
 match d with
 | .mp k e es=>match x with | .tmp u=>some (k,e,es,[u]) | _=>none
 | .vw L n _=>(s.lookM pm L n).map fun q=>(q.1,q.2.1,q.2.2,L)
 | _=>none
def HC(es:List (List Int×List Int))(k v:List Int):List (List Int×List Int):=
 match es.findIdx? (fun p=>p.1==k)with
 | some i=>es.set i (k,v)
 | none=>es++[(k,v)]
def FV(es:List (List Int×List Int))(k:List Int)(n:Nat):List Int×Bool:=
 match es.find? (fun p=>p.1==k)with
 | some p=>(p.2,true)
 | none=>(List.replicate n 0,false)
def Eh(T:Tys)(t:TypeId):Option D:=
 match T.ty t with
 | .map k e=>if(T.nums k).isSome&&(T.nums e).isSome then some (.mp k e [])else none
 | _=>none
def DG(T:Tys)(pm:Pm)(s:St)(t:TypeId)(x:Operand)(d i:D)(ok:Bool):Option D:=
 match T.ty t,HR pm s x d with
 | .map k e,some (k',e',es,_)=>
  match T.nums k,T.nums e with
  | some (ka,kn),some (ea,en)=>
   if k'=k∧e'=e then
    (EN ka kn i).map fun key=>if ok=true then .tup [HB ea (FV es key en).1, .bool (FV es key en).2]else HB ea (FV es key en).1
   else none
  | _,_=>none
 | _,_=>none
def D9(T:Tys)(pm:Pm)(s:St)(t:TypeId)(x:Operand)(d i v:D):Option St:=
 match T.ty t,HR pm s x d with
 | .map k e,some (k',e',es,L)=>
  match T.nums k,T.nums e with
  | some (ka,kn),some (ea,en)=>
   if k'=k∧e'=e∧pm.wr (L.headD 0)=true then
    match EN ka kn i,EN ea en v with
    | some key,some val=>some (s.set L (.mp k e (HC es key val)))
    | _,_=>none
   else none
  | _,_=>none
 | _,_=>none
def Ks(T:Tys)(pm:Pm)(s:St)(t:TypeId)(x:Operand)(d:D):Option D:=
 match T.ty t,HR pm s x d with
 | .map _ _,some (_,_,es,_)=>some (.int .i64 es.length)
 | _,_=>none
def NL(T:Tys)(op:BinOp)(t:TypeId)(y:Operand):Option Bool:=
 match y with
 | .const (.slice none 0 0)=>
  match T.ty t with
  | .slice _=>match op with | .eql=>some true | .neq=>some false | _=>none
  | _=>none
 | _=>none
def HS(pm:Pm)(s:St)(d:D):Option Bool:=
 match d with
 | .sl _ (_::_)=>some false
 | .own _ (_::_)=>some false
 | .vw L n m=>match s.look pm L n m with | some (.own _ (_::_))=>some false | _=>none
 | .konst (.slice A _ _)=>some A.isNone
 | _=>none
def ZE:Option D→Bool
 | some (.konst (.slice _ 0 _))=>true
 | _=>false
def Eo(T:Tys)(pm:Pm)(s:St)(ty:TypeId)(x:Operand):Option (D×St):=
 match T.ty ty with
 | .slice e=>
  match take T pm s ty x with
  | some (.own e1 xs,s1)=>if e1=e∧T.known e=true then some (.own e xs,s1)else none
  | _=>none
 | _=>none
def JW:Option D→Option (List D)
 | some (.agg xs)=>if AC xs then none else some xs
 | _=>none
def NM:D→Bool
 | .tup _=>true
 | _=>false
def Vq(pm:Pm)(s:St)(r:Nat):Bool:=pm.rd r&&NM (s.v r)
def NJ(pm:Pm)(s:St):D→Bool
 | .vw (r::_::_) _ _=>Vq pm s r
 | _=>false
def M2(pm:Pm)(s:St):D→Bool
 | .agg xs=> !AC xs&&xs.any (NJ pm s)
 | d=>NJ pm s d
end Dv
namespace Dv
open Go
def G:Nat:=100000
structure Env where
 T:Tys
 lends:FuncId→Bool
 call:FuncId→List D→List D→Option (D×List D)
def Ck(lend:Bool)(pm:Pm)(s:St)(j:Nat)(L0:A2)(d:D):Option (D×List (A2×D)):=
 match d with
 | .vw L n m=>
  match s.look pm L n m with
  | some c=>if lend then some (.vw [G+j] 0 0,[(L,c)])else(BX c).map fun c'=>(c',[(L,c)])
  | none=>none
 | .own e xs=>if lend then some (.vw [G+j] 0 0,[(L0, .own e xs)])else(BX (.own e xs)).map fun c'=>(c',[(L0, .own e xs)])
 | .box xs=>if lend then some (.vw [G+j] 0 0,[(L0, .box xs)])else(BX (.box xs)).map fun c'=>(c',[(L0, .box xs)])
 | .undef=>none
 | .tup _=>none
 | .agg _=>none
 | .pe _ _ _ _=>none
 | .vs _ _ _ _ _ _=>none
 | .ocl _ _ _=>none
 | .mp _ _ _=>none
 | d=>some (d,[])
def Br(lend:Bool)(pm:Pm)(s:St)(L0:A2):Nat→Nat→List D→Option (List D×List (A2×D))
 | _,_,[]=>some ([],[])
 | j,i,d::ds=>
  match Ck lend pm s j (L0++[i]) d with
  | none=>none
  | some (a,l)=>
   match Br lend pm s L0 (j+l.length) (i+1) ds with
   | none=>none
   | some (as,ls)=>some (a::as,l++ls)
def B4(lend:Bool)(pm:Pm)(s:St)(j:Nat)(L0:A2)(d:D):Option (D×List (A2×D)):=
 match d with
 | .agg xs=>(Br lend pm s L0 j 0 xs).map fun r=>(.agg r.1,r.2)
 | d=>Ck lend pm s j L0 d
def LO(T:Tys)(pm:Pm)(s:St)(e:TypeId)(L:A2)(n m lo len:Nat):Option (D×List (A2×D)):=
 match s.look pm L n m with
 | some (.own e' xs)=>
  if e'=e∧T.known e=true∧(lo+len)*T.size e≤xs.length then
   (B5 xs).map fun ys=>(.sl e ((ys.drop (lo*T.size e)).take (len*T.size e)),[(L, .own e' xs)])
  else none
 | _=>none
def EO(T:Tys)(lend:Bool)(pm:Pm)(s:St)(j:Nat)(L0:A2)(d:D):Option (D×List (A2×D)):=
 match d with
 | .vs e L n m lo len=>if lend then none else LO T pm s e L n m lo len
 | d=>B4 lend pm s j L0 d
def BW(E:Env)(lend:Bool)(pm:Pm)(s:St):Nat→List (Operand×TypeId)→Option (List D×List (A2×D))
 | _,[]=>some ([],[])
 | j,(x,t)::rest=>
  match ev E.T s t x with
  | none=>none
  | some d=>
   match EO E.T lend pm s j (match x with | .tmp u=>[u] | _=>[]) d with
   | none=>none
   | some (a,l)=>
    match BW E lend pm s (j+l.length) rest with
    | none=>none
    | some (as,ls)=>some (a::as,l++ls)
def back(deep:Bool):St→List (A2×D)→St
 | s,[]=>s
 | s,(L,c)::rest=>back deep (if L.isEmpty then s else if deep then(s.set L c).bump (L.headD 0)else s.set L c) rest
def Bu:List A2→Bool
 | []=>true
 | L::Ls=>(L.isEmpty||Ls.all fun M=>M.isEmpty||(!L.isPrefixOf M&& !M.isPrefixOf L))&&Bu Ls
def St.putO(s:St)(dst:Option Tmp)(d:D):St:=
 match dst with
 | some t=>s.put t d
 | none=>s
def Df:List (A2×D)→Option (List (A2×D))
 | []=>some []
 | (L,c)::rest=>(BX c).bind fun c'=>(Df rest).map ((L,c'):: ·)
def M3(d:D):Bool:=(BX d).isSome
def M4:D→Bool
 | .undef=>true
 | d=>(BX d).isSome
def EP(s:St)(Ls:List A2)(outs:List D):St:=back true (back false s (Ls.map fun L=>(L, .undef))) (Ls.zip outs)
def Dl(E:Env)(pm:Pm)(s:St)(dst:Option Tmp)(f:FuncId)(xs:List (Operand×TypeId))(caps:List D):Option St:=
 if E.lends f then
  match BW E true pm s 0 xs with
  | none=>none
  | some (as,ls)=>
   if Bu (ls.map (·.1))&&ls.all (fun l=>pm.wr (l.1.headD 0))&&ls.all (fun l=>M3 l.2)then
    match E.call f (as++caps) (ls.map (·.2))with
    | some (r,outs)=>if outs.length=ls.length then some ((EP s (ls.map (·.1)) outs).putO dst r)else none
    | none=>none
   else none
 else
  match BW E false pm s 0 xs with
  | none=>none
  | some (as,ls)=>
   match E.call f (as++caps) []with
   | some (r,_)=>
    if BA r then
     if Bu (ls.map (·.1))&&ls.all (fun l=>pm.wr (l.1.headD 0))then(Df ls).map fun ls'=>(back false s ls').putO dst r else none
    else some (s.putO dst r)
   | none=>none
def Eb(pm:Pm)(s:St):List Operand→Option (List D×St)
 | []=>some ([],s)
 | x::rest=>
  match x with
  | .tmp u=>
   match s.v u with
   | .box xs=>
    match B5 xs with
    | some ys=>if pm.wr u then(Eb pm (s.set [u] (.cptr ys)) rest).map fun r=>(.cptr ys::r.1,r.2)else none
    | none=>none
   | .cptr ys=>(Eb pm s rest).map fun r=>(.cptr ys::r.1,r.2)
   | _=>none
  | _=>none
def GL(s:St):List Operand→Option (List D)
 | []=>some []
 | x::rest=>
  match x with
  | .tmp u=>
   match s.v u with
   | .box _=>(GL s rest).map (Oz s [u]:: ·)
   | .cptr ys=>(GL s rest).map (.cptr ys:: ·)
   | _=>none
  | _=>none
def Dg(m:Nat):Nat→List Operand→List Operand
 | _,[]=>[]
 | i,x::xs=>if m.testBit i then Dg m (i+1) xs else x::Dg m (i+1) xs
def JX(pm:Pm)(s:St)(m:Nat)(l:List Operand):Option (List D×St):=
 match Eb pm s (Dg m 0 l)with
 | none=>none
 | some (_,s1)=>(GL s1 l).map fun ds=>(ds,s1)
def BL(pm:Pm)(s:St):Nat→List D→Option (List D×List (A2×D))
 | _,[]=>some ([],[])
 | j,d::rest=>
  match d with
  | .vw L n m=>
   match s.look pm L n m with
   | some c=>(BL pm s (j+1) rest).map fun r=>(.vw [G+j] 0 0::r.1,(L,c)::r.2)
   | none=>none
  | .cptr ys=>(BL pm s j rest).map fun r=>(.cptr ys::r.1,r.2)
  | .undef=>(BL pm s j rest).map fun r=>(.undef::r.1,r.2)
  | _=>none
def Ds(f:FuncId)(cs:List D):D→D
 | .undef=> .ocl true f cs
 | d=>d
def Ep(E:Env)(pm:Pm)(s:St)(dst:Option Tmp)(f:FuncId)(xs:List (Operand×TypeId))(caps:List D):Option St:=
 match BW E true pm s 0 xs with
 | none=>none
 | some (as,ls)=>
  match BL pm s ls.length caps with
  | none=>none
  | some (cs,lc)=>
   if Bu ((ls++lc).map (·.1))&&(ls++lc).all (fun l=>pm.wr (l.1.headD 0))&&(ls++lc).all (fun l=>M3 l.2)then
    match E.call f (as++cs.map (Ds f cs)) ((ls++lc).map (·.2))with
    | some (r,outs)=>if outs.length=(ls++lc).length then some ((EP s ((ls++lc).map (·.1)) outs).putO dst r)else none
    | none=>none
   else none
def By(s:St)(L:A2):Nat→List D→List D
 | _,[]=>[]
 | j,y::ys=>Bq s L j y::By s L (j+1) ys
def ED(s:St)(u i:Nat):D→D
 | .agg ys=> .agg (By s [u,i] 0 ys)
 | c=>Bq s [u] i c
def EE(s:St)(u:Nat):Nat→List D→List D
 | _,[]=>[]
 | i,x::xs=>ED s u i x::EE s u (i+1) xs
def M5(s:St)(dst:Option Tmp)(u:Nat):D→St
 | .tup xs=>if AC (EE s u 0 xs)then(s.clr u).putO dst (.tup xs)else s.putO dst (.tup (EE s u 0 xs))
 | d=>(s.clr u).putO dst d
def Ao(s:St)(dst:Option Tmp)(x:Operand)(d:D):St:=
 match x with
 | .tmp u=>if d.isObj then s.putO dst (Oz s [u])else if d.hasObj then M5 s dst u d else s.putO dst d
 | _=>s.putO dst d
def AS(pm:Pm)(s:St)(dst:Option Tmp)(x:Operand)(d:D):Option St:=
 match x with
 | .tmp u=>
  if M2 pm s d then(Af pm s d).map fun q=>q.2.putO dst q.1
  else match d with
  | .vw [r] n m=>(GJ pm s [r] n m).map fun q=>q.2.putO dst q.1
  | d=>some (if d.hasObj then(s.clr u).putO dst d else s.putO dst d)
 | _=>some (s.putO dst d)
def DV(s:St)(dst:Option Tmp)(x:Operand)(d:D)(i:Nat):Option St:=
 match x,d with
 | .tmp u, .tup xs=>
  match xs[i]? with
  | none=>none
  | some (.agg ys)=>(Aj (.agg ((List.range ys.length).map fun j=>Bq s [u,i] j (ys.getD j .undef)))).map fun r=>s.putO dst r
  | some c=>(Aj (Bq s [u] i c)).map fun r=>s.putO dst r
 | _,_=>none
def P4(k:IntKind):Ty→Bool
 | .int k'=>decide (k'=k)
 | _=>false
def Qc(T:Tys)(k l:IntKind):Ty→Bool
 | .struct [a,b]=>P4 k (T.ty a)&&P4 l (T.ty b)
 | _=>false
def FR(T:Tys)(t:TypeId):D→Bool
 | .bool _=>match T.ty t with | .bool=>true | _=>false
 | .agg [.int k _, .int l _]=>Qc T k l (T.ty t)
 | .agg _=>false
 | _=>true
def CN(pm:Pm)(s:St)(dst:Option Tmp):Option St:=
 match dst with
 | some t=>if pm.rd t&&pm.wr t then(BX (s.v t)).map fun c=>s.set [t] c else none
 | none=>none
def FW(pm:Pm)(s:St)(dst:Option Tmp):Option St:=
 match dst with
 | some t=>
  if pm.rd t&&pm.wr t then
   match s.v t with
   | .own e xs=>(B5 xs).map fun ys=>s.set [t] (.own e ys)
   | _=>none
  else none
 | none=>none
def ZF(t:TypeId):TypeId:=if t=900003 then t else if t<1000000 then t else t-1000000
def SB(t:TypeId):Bool:=if t=900003 then true else if t<1000000 then false else true
def JY(T:Tys)(pm:Pm)(s:St)(dst:Option Tmp)(t:TypeId)(len:Nat)(parts:Array (Nat×Operand)):Option St:=
 match T.ty t with
 | .slice e=>
  if len*T.size e≤4096∧T.known e=true then
   (CW T pm (fun _=>e) (T.size e) s ((List.range (len*T.size e)).map fun j=>(T.zeros e).getD (j % T.size e) .undef) parts.toList).map fun r=>r.2.putO dst (.own e r.1)
  else none
 | _=>none
def GM(T:Tys)(pm:Pm)(s:St)(dst:Option Tmp)(t:TypeId)(x:Operand):Option St:=
 match JW (ev T s t x)with
 | some ds=>if T.isStruct t then some (s.putO dst (.box ds))else none
 | none=>
  match take T pm s t x with
  | some (d,s1)=>if T.isStruct t==d.isAgg then some (s1.putO dst (.box d.asCells))else none
  | none=>none
def NN(pm:Pm)(s:St)(dst:Option Tmp)(u:Tmp):Option St:=
 match dst with
 | some t=>
  if pm.rd t then
   match s.v t with
   | .bool b=>if b then some s else CN pm s (some u)
   | _=>none
  else none
 | none=>none
def DH(T:Tys)(pm:Pm)(s:St)(dst:Option Tmp)(op:BinOp)(t:TypeId)(x y:Operand):Option St:=
 match NL T op t y with
 | some q=>(ev T s t x).bind fun d=>(HS pm s d).map fun b=>s.putO dst (.bool (b==q))
 | none=>
  match ev T s t x,ev T s t y with
  | some a,some b=>if FR T t a then(BM op a b).map fun r=>s.putO dst r else none
  | _,_=>none
def SD(T:Tys)(t:TypeId):TypeId:=match T.ty t with | .map k _=>k | _=>0
def JZ(T:Tys)(t:TypeId):TypeId:=match T.ty t with | .map _ e=>e | _=>0
def FX(T:Tys)(pm:Pm)(s:St)(t:TypeId)(x:Operand)(d:D):Option D:=
 match d with
 | .mp _ _ _=>Ks T pm s t x d
 | .vw L n m=>match T.ty t with
  | .map _ _=>Ks T pm s t x (.vw L n m)
  | _=>NK T pm s t x (.vw L n m)
 | d=>NK T pm s t x d
def LP(ty:TypeId)(ts:List TypeId):List TypeId:=if ty=900013 then ts.map (fun _=>900013)else ts
theorem R0(ty:TypeId)(ts:List TypeId):(LP ty ts).length=ts.length:=by unfold LP;split<;>simp
def Kt(T:Tys)(s:St)(dst:Option Tmp)(t:TypeId)(l c:Operand):Option St:=
 match ev T s 0 l,ev T s 0 c with
 | some a,some b=>(Ci T t a b).map fun r=>s.putO dst r
 | _,_=>none
def M6:Operand→Option Tmp
 | .tmp u=>some u
 | _=>none
def UU(E:Env)(pm:Pm)(s:St)(o:Oper):Option St:=
 match o.op with
 | .move x=>(ev E.T s o.type x).map fun d=>Ao s o.dst x d
 | .assign x=>(ev E.T s (ZF o.type) x).bind fun d=>if SB o.type=true then(AS pm s o.dst x d).bind fun s1=>CN pm s1 o.dst else AS pm s o.dst x d
 | .nilCheck x=>(ev E.T s o.type x).bind fun d=>
   match d with
   | .box _=>some (Ao s o.dst x d)
   | .vw L n m=>match s.look pm L n m with | some (.box _)=>some (Ao s o.dst x d) | _=>none
   | .pe L _ n m=>match s.look pm L n m with | some _=>some (Ao s o.dst x d) | none=>none
   | .cptr _=>some (Ao s o.dst x d)
   | .clo _ _=>some (Ao s o.dst x d)
   | .ocl false _ _=>some (Ao s o.dst x d)
   | _=>none
 | .pick c a b=>
  match ev E.T s o.type c,ev E.T s o.type a,ev E.T s o.type b with
  | some (.bool t),some x,some y=>if(if t then x else y).hasObj then none else some (s.putO o.dst (if t then x else y))
  | _,_,_=>none
 | .alloc t=>if E.T.known t then some (s.putO o.dst (.box (E.T.zeros t)))else none
 | .box t x=>if o.type=900003 then(GM E.T pm s o.dst t x).bind fun s1=>CN pm s1 o.dst else GM E.T pm s o.dst t x
 | .build t parts=>
  match E.T.nest t with
  | some fl=>if E.T.isStruct t&&E.T.known t then(E3 E.T pm fl s (E.T.zeros t) parts.toList).map fun r=>r.2.putO o.dst (.agg r.1)else none
  | none=>
   match E.T.ty t with
   | .struct fs=>if E.T.known t then(CW E.T pm (fun i=>fs.getD i 0) 1 s (E.T.zeros t) parts.toList).map fun r=>r.2.putO o.dst (.agg r.1)else none
   | _=>none
 | .buildSlice t len parts=>if o.type=900004 then(JY E.T pm s o.dst t len parts).bind fun s1=>FW pm s1 o.dst else JY E.T pm s o.dst t len parts
 | .load t x=>(ev E.T s t x).bind fun d=>(Bn E.T pm s t x d).map fun r=>s.putO o.dst r
 | .store t a x=>if o.dst.isNone then(if o.type=900007 then CF E.T pm t a (EM E.T pm s t x)else if o.type=900010 then IZ E.T pm s t a x else if o.type=900011 then(E1 E.T pm s t a x).bind fun s1=>CN pm s1 (M6 a)else E1 E.T pm s t a x)else none
 | .binOp op t x y _=>if o.type<2000000 then DH E.T pm s o.dst op t x y else(DH E.T pm s o.dst op t x y).bind fun s1=>NN pm s1 o.dst (o.type-2000000)
 | .unOp op t x=>(ev E.T s t x).bind fun a=>(Vo op a).map fun r=>s.putO o.dst r
 | .convert src dst x=>
  if E.T.known src then
   match ev E.T s src x,E.T.ty dst with
   | some (.int _ n), .int k=>some (s.putO o.dst (.int k (k.wrap n)))
   | some (.str b), .string=>some (s.putO o.dst (.str b))
   | _,_=>none
  else none
 | .makeFunc (.func f) first captured=>
  if o.type<3000000 then(if first.isEmpty then(Eb pm s captured.toList).map fun r=>r.2.putO o.dst (.clo f r.1)else none)
  else(if first.isEmpty then(JX pm s (o.type-3000000) captured.toList).map fun r=>r.2.putO o.dst (.ocl false f r.1)else none)
 | .makeSlice t l c=>if o.type=900012 then(Kt E.T s o.dst t l c).bind fun s1=>FW pm s1 o.dst else Kt E.T s o.dst t l c
 | .slice t x lo hi mx=>
  if o.type=900002 then(if lo.isNone&&mx.isNone then(GK E.T pm s t x hi).map fun r=>r.2.putO o.dst r.1 else none)
  else if o.type=900005 then(if hi.isNone&&mx.isNone then(En E.T pm s t x lo).map fun r=>r.2.putO o.dst r.1 else none)
  else(ev E.T s t x).bind fun d=>(DU E.T (if o.type=900001 then pm.see else pm) s t x d lo hi mx).map fun r=>r.2.putO o.dst r.1
 | .fieldAddr t x i=>(ev E.T s t x).bind fun d=>(CG E.T pm s t x d i).map fun r=>s.putO o.dst r
 | .indexAddr t x i=>
  match ev E.T s t x,ev E.T s 0 i with
  | some a,some b=>(IC E.T pm s t x a b).map fun r=>s.putO o.dst r
  | _,_=>none
 | .makeMap t r=>if r.isNone then(Eh E.T t).map fun d=>s.putO o.dst d else none
 | .lookup t x i ok=>
  match ev E.T s t x,ev E.T s (SD E.T t) i with
  | some a,some b=>(DG E.T pm s t x a b ok).map fun r=>s.putO o.dst r
  | _,_=>none
 | .mapUpdate t x i v=>
  if o.dst.isNone then
   match ev E.T s t x,ev E.T s (SD E.T t) i,ev E.T s (JZ E.T t) v with
   | some a,some b,some c=>D9 E.T pm s t x a b c
   | _,_,_=>none
  else none
 | .extract x i=>(ev E.T s o.type x).bind fun d=>DV s o.dst x d i
 | .call c=>
  match c.callee with
  | .builtin .len=>match c.args.toList,c.argTypes.toList with
   | [x],[t]=>(ev E.T s t x).bind fun d=>(FX E.T pm s t x d).map fun r=>s.putO o.dst r
   | _,_=>none
  | .builtin .append=>match c.args.toList,c.argTypes.toList with
   | [x,y],[t,t']=>if t=t' then(if ZE (ev E.T s t y)then Eo E.T pm s t x else CV E.T pm s t x y).map fun r=>r.2.putO o.dst r.1 else none
   | _,_=>none
  | .builtin .copy=>match c.args.toList,c.argTypes.toList with
   | [x,y],[t,_]=>match ev E.T s t x,ev E.T s t y with
    | some a,some b=>(Fp E.T pm s t x y a b).map fun r=>r.2.putO o.dst r.1
    | _,_=>none
   | _,_=>none
  | .builtin .clear=>match c.args.toList,c.argTypes.toList with
   | [x],[t]=>(ev E.T s t x).bind fun a=>(Ea E.T pm s t x a).map fun r=>r.2.putO o.dst r.1
   | _,_=>none
  | .builtin .min=>match c.args.toList,c.argTypes.toList with
   | [x,y],[t,t']=>match ev E.T s t x,ev E.T s t' y with
    | some a,some b=>(Iy false a b).map fun r=>s.putO o.dst r
    | _,_=>none
   | _,_=>none
  | .builtin .max=>match c.args.toList,c.argTypes.toList with
   | [x,y],[t,t']=>match ev E.T s t x,ev E.T s t' y with
    | some a,some b=>(Iy true a b).map fun r=>s.putO o.dst r
    | _,_=>none
   | _,_=>none
  | .value (.func f)=>if c.args.size=c.argTypes.size then Dl E pm s o.dst f (c.args.toList.zip (LP o.type c.argTypes.toList)) []else none
  | .value (.tmp u)=>match s.v u with
   | .clo f caps=>if c.args.size=c.argTypes.size then Dl E pm s o.dst f (c.args.toList.zip c.argTypes.toList) caps else none
   | .ocl false f caps=>if c.args.size=c.argTypes.size then Ep E pm s o.dst f (c.args.toList.zip c.argTypes.toList) caps else none
   | _=>none
  | _=>none
 | _=>none
def FY(ops:Array Oper)(s:St)(o:Oper):Option Bool:=
 match o.guard with
 | none=>some true
 | some (j,b)=>
  match (ops[j]?).bind (·.dst)with
  | none=>some false
  | some t=>match s.v t with
   | .bool b'=>some (b'==b)
   | .konst (.tuple _)=>some false
   | _=>none
def E4(E:Env)(ops:Array Oper)(pm:Pm)(s:St)(o:Oper):Option St:=
 match FY ops s o with
 | some true=>UU E pm s o
 | some false=>some (s.putO o.dst (.konst undef))
 | none=>none
def SE(t:Tmp):Operand→Bool
 | .tmp u=>u==t
 | _=>false
def NO(lends:FuncId→Bool)(t:Tmp):List Oper→Nat
 | []=>0
 | o::rest=>
  match o.op with
  | .call {callee:= .builtin .append,args:=args, .. }=>if(args.toList.take 1).any (SE t)then 900002 else NO lends t rest
  | .call {callee:= .builtin .clear,args:=args, .. }=>if args.toList.any (SE t)then 900001 else NO lends t rest
  | .call {callee:= .value (.func f),args:=args, .. }=>if args.toList.any (SE t)&& !lends f then 900001 else NO lends t rest
  | _=>NO lends t rest
def cj(t:Tmp)(pos:String):Bool:=
 match t with
 | 10=>pos== "l11_value.go:265"
 | 5=>pos== "l13_problem.go:206"
 | 6=>pos== "l16_zero.go:155"
 | 7=>pos== "l16_zero.go:155" ||pos== "l11_value.go:225" ||pos== "l11_value.go:229"
 | _=>false
def ZG(t:Tmp)(pos:String):Bool:=
 match t with
 | 5=>pos== "l13_problem.go:202"
 | 2=>pos== "l15_relax.go:297"
 | _=>false
def cm(t:Tmp)(pos:String):Nat:=
 match t with
 | 24=>if pos== "l13_problem.go:218" then 2000005 else 0
 | _=>0
def ZH(t:Tmp)(pos:String):Nat:=
 match t with
 | 41=>if pos== "slices.go:254" then 900002 else 0
 | 31=>if pos== "slices.go:402" then 900001 else 0
 | 64=>if pos== "slices.go:411" then 900002 else 0
 | 28=>if pos== "slices.go:377" then 900001 else 0
 | 59=>if pos== "slices.go:386" then 900002 else 0
 | 80=>if pos== "l13_problem.go:229" then 900002 else 0
 | 74=>if pos== "l15_relax.go:48" then 900002 else 0
 | _=>0
def Ue(pos:String):Bool:=pos== "l8_metric.go:12"
def ZI(t:Tmp)(pos:String):Bool:=
 match t with
 | 12=>pos== "l15_relax.go:222"
 | 43=>pos== "l15_relax.go:231"
 | _=>false
def co(t:Tmp)(pos:String):Bool:=
 match t with
 | 2=>pos== "l15_relax.go:171"
 | 3=>pos== "l15_relax.go:171"
 | _=>false
def cq(t:Tmp)(pos:String):Bool:=
 match t with
 | 31=>pos== "l15_relax.go:176"
 | 34=>pos== "l15_relax.go:176"
 | _=>false
def cr(t:Tmp)(pos:String):Bool:=
 match t with
 | 32=>pos== "exact.go:4967" ||pos== "exact.go:3920"
 | _=>false
def nJ(pos:String):Nat:=
 if pos== "l16_zero.go:237" then 12 else if pos== "l17_eliminate.go:125" then 10 else 0
def ct(pos:String):Bool:=pos== "l16_zero.go:237" ||pos== "l17_eliminate.go:125"
def nK(u:Option Tmp)(pos:String):Bool:=
 match u with
 | some 6=>pos== "l8_metric.go:252"
 | _=>false
def cu(pos:String):Bool:=pos== "slices.go:502" ||pos== "l5_view.go:40" ||pos== "l5_view.go:52"
def nL(t:Tmp)(pos:String):Bool:=
 match t with
 | 30=>pos== "slices.go:525"
 | _=>false
def NP(lends:FuncId→Bool)(ops:List Oper)(o:Oper):TypeId:=
 match o.op,o.dst with
 | .assign _,some t=>if cj t o.pos then 900003 else if ZG t o.pos then 1000000+o.type else o.type
 | .slice _ _ lo hi mx,some t=>
  if lo.isSome&&hi.isNone&&mx.isNone&&Ue o.pos then 900005 else
  match (match ZH t o.pos with | 0=>NO lends t ops | n=>n)with
  | 0=>o.type
  | n=>if n=900002 then(if lo.isNone&&mx.isNone then n else o.type)else n
 | .buildSlice ..,some t=>if ZI t o.pos then 900004 else o.type
 | .box ..,some t=>if co t o.pos then 900003 else o.type
 | .binOp ..,some t=>match cm t o.pos with | 0=>o.type | n=>n
 | .store _ a _,none=>if o.pos== "slices.go:249" then 900007 else if ct o.pos then 900010 else if nK (M6 a) o.pos then 900011 else o.type
 | .makeSlice ..,some t=>if nL t o.pos then 900012 else o.type
 | .call {callee:= .value (.func _), .. },some _=>if cu o.pos then 900013 else o.type
 | .makeFunc ..,some _=>match nJ o.pos with | 0=>o.type | n=>3000000+n
 | _,_=>o.type
def cv(lends:FuncId→Bool)(ops:List Oper)(o:Oper):Oper:={o with type:=NP lends ops o}
def Ja(lends:FuncId→Bool)(ops:List Oper)(o:Oper):Oper:={o with type:=if NP lends ops o=900002∨NP lends ops o=900003 then NP lends ops o else o.type}
def Ku(E:Env)(ops:Array Oper):St→List Oper→Option St
 | s,[]=>some s
 | s,o::rest=>(E4 E ops Pm.all s (cv E.lends ops.toList o)).bind fun s'=>Ku E ops s' rest
def E5(o:Oper):List Nat:=o.op.operands.toList.filterMap fun | .tmp t=>some t | _=>none
def Jb0(ops:List Oper):Nat→Nat→Nat
 | 0,t=>t
 | n+1,t=>
  match ops.find? (fun o=>o.dst==some t)with
  | some o=>match o.op with
   | .move (.tmp u)=>Jb0 ops n u
   | .load _ (.tmp u)=>Jb0 ops n u
   | .fieldAddr _ (.tmp u) _=>Jb0 ops n u
   | .indexAddr _ (.tmp u) _=>Jb0 ops n u
   | .nilCheck (.tmp u)=>Jb0 ops n u
   | .extract (.tmp u) _=>Jb0 ops n u
   | .slice _ (.tmp u) _ _ _=>Jb0 ops n u
   | _=>t
  | none=>t
def Uf(ops:List Oper)(t:Nat):Bool:=
 match ops.find? (fun o=>o.dst==some t)with
 | some o=>match o.op with
  | .extract _ i=>decide (0<i)
  | _=>false
 | none=>false
def Qd(ops:List Oper)(o:Oper):List Nat:=
 match o.op with
 | .extract .. =>[]
 | .assign (.tmp u)=>if Uf ops u then []else [Jb0 ops ops.length u]
 | _=>(E5 o).map (Jb0 ops ops.length)
def Vr(pos:String):Bool:=pos== "l17_eliminate.go:152" ||pos== "l13_problem.go:226" ||pos== "l13_problem.go:229" ||pos== "l15_relax.go:45" ||pos== "l15_relax.go:48"
def LQ(o:Oper):List Nat:=
 match o.op with
 | .binOp .. =>[]
 | .unOp .. =>[]
 | .convert .. =>[]
 | .pick .. =>[]
 | .move .. =>[]
 | _=>if Vr o.pos then(List.range 8).map (G+ ·)else []
def Cs(ops:List Oper)(o:Oper):List Nat:=
 let xs:=E5 o
 LQ o++o.dst.toList++xs++Qd ops o++
  (match o.guard with | some (j,_)=>((ops[j]?).bind (·.dst)).toList | none=>[])
def Op.calm:Op→Bool
 | .load .. | .binOp .. | .unOp .. | .convert .. | .fieldAddr .. | .indexAddr .. | .pick .. | .alloc .. | .makeSlice .. | .extract .. | .slice .. | .lookup .. | .makeMap .. | .nilCheck .. =>true
 | .call {callee:= .builtin .len, .. }=>true
 | _=>false
def ZJ(ops:List Oper)(u:Nat):Bool:=
 match ops.find? (fun q=>q.dst==some u)with
 | some q=>match q.op with
  | .call {callee:= .value _, .. }=>true
  | .build .. =>true
  | .move _=>true
  | .extract .. =>true
  | _=>false
 | none=>false
def cw(ops:List Oper)(u:Nat):Bool:=
 match ops.find? (fun q=>q.dst==some u)with
 | some q=>match q.op with
  | .load 3 _=>true
  | .move _=>q.type==3
  | _=>false
 | none=>false
def Bv(lends:FuncId→Bool)(ops:List Oper)(o:Oper):List Nat:=
 if NP lends ops o=900002 then(if Vr o.pos then LQ o++o.dst.toList++E5 o else Cs ops o)
 else if Op.calm o.op then o.dst.toList
 else match o.op with
  | .move (.tmp u)=>o.dst.toList++(if ZJ ops u then [u]else [])
  | .move _=>o.dst.toList
  | .call {callee:= .value (.func f), .. }=>if lends f then Cs ops o else if o.dst.any (cr · o.pos)then o.dst.toList++E5 o else o.dst.toList
  | .build .. =>o.dst.toList++E5 o++((E5 o).filter fun u=> !cw ops u).map (Jb0 ops ops.length)
  | .assign _=>if o.type=3 then o.dst.toList++E5 o else Cs ops o
  | .makeFunc .. =>if o.dst.any (cq · o.pos)then o.dst.toList else Cs ops o
  | _=>Cs ops o
def Dm(lends:FuncId→Bool)(ops:List Oper)(o:Oper):Pm:=
 let R:=ops.flatMap (Bv lends ops)
 let N:=Cs ops o
 let W:=Bv lends ops o
 ⟨fun r=>N.contains r|| !R.contains r,fun r=>W.contains r⟩
def M7(acc:List Nat)(o:Oper):Nat:=o.after.toList.foldl (fun m e=>if Region.binds .any e then(m ||| 2 ^ e.on) ||| acc.getD e.on 0 else m) 0
def JH(ops:List Oper):List Nat:=ops.foldl (init:=[]) fun acc o=>acc++[M7 acc o]
def Qe(a b:List Nat):Bool:=a.any fun x=>b.contains x
def GN(lends:FuncId→Bool)(ops:List Oper):Bool:=
 let B:=JH ops
 let N:=ops.map (Cs ops)
 let W:=ops.map (Bv lends ops)
 (ops.zipIdx.all fun q=>q.1.after.toList.all fun e=> !Region.binds .any e||decide (e.on<q.2))&&
 (List.range ops.length).all fun j=>(List.range j).all fun i=>
  (B.getD j 0).testBit i||(!Qe (W.getD i []) (N.getD j [])&& !Qe (N.getD i []) (W.getD j []))
def P5(pm:Pm)(s:St)(o:Oper):Bool:=
 match o.op with
 | .move (.tmp u)=> !(s.v u).hasObj||(s.v u).isObj||pm.wr u
 | _=>true
def H5(E:Env)(ops:Array Oper)(l:List Oper):St→List Oper→Option St
 | s,[]=>some s
 | s,o::rest=>if P5 (Dm E.lends l o) s o then(E4 E ops (Dm E.lends l o) s (Ja E.lends ops.toList o)).bind fun s'=>H5 E ops l s' rest else none
inductive Ex where
 | normal
 | exit (id:Nat)
 | ret
def DI(step:St→Option (Ex×St)):Nat→St→Option (Ex×St)
 | 0,_=>none
 | n+1,s=>
  match step s with
  | none=>none
  | some (.normal,s')=>DI step n s'
  | some r=>some r
open Classical in
noncomputable def Jb(step:St→Option (Ex×St))(s:St):Option (Ex×St):=
 if h: ∃r n,DI step n s=some r then some h.choose else none
noncomputable def Bj(E:Env):Code→St→Option (Ex×St)
 | .skip,s=>some (.normal,s)
 | .region _ ops draw,s=>
  if draw then(if GN E.lends ops.toList then(H5 E ops ops.toList s ops.toList).map fun s'=>(.normal,s')else none)
  else(Ku E ops s ops.toList).map fun s'=>(.normal,s')
 | .seq a b,s=>
  match Bj E a s with
  | some (.normal,s')=>Bj E b s'
  | r=>r
 | .cond c a b,s=>
  match ev E.T s 0 c with
  | some (.bool t)=>if t then Bj E a s else Bj E b s
  | _=>none
 | .block id c,s=>
  match Bj E c s with
  | some (.exit j,s')=>if j=id then some (.normal,s')else some (.exit j,s')
  | r=>r
 | .loop c,s=>Jb (Bj E c) s
 | .exit id,s=>some (.exit id,s)
 | .ret,s=>some (.ret,s)
 | _,_=>none
def entry(args lent:List D):St:=
 {v:=fun t=>if t<G then args.getD t .undef else lent.getD (t-G) .undef,k:=fun _=>0,m:=fun _=>0}
def Jc(T:Tys)(s:St):ResultVar→Option (D×St)
 | .tmp t=>Af Pm.all (if(s.v t).hasObj then s.clr t else s) (s.v t)
 | .cell t ty=>
  if T.known ty then
   match s.v t with
   | .box xs=>
    if T.isStruct ty then(if xs.length=T.size ty then(C6 Pm.all (s.clr t) xs).map fun r=>(.agg r.1,r.2)else none)
    else match xs with
     | [d]=>Af Pm.all (s.clr t) d
     | _=>none
   | .cptr xs=>if T.isStruct ty then(if xs.length=T.size ty then some (.agg xs,s)else none)else match xs with | [d]=>some (d,s) | _=>none
   | _=>none
  else none
def FZ(T:Tys):St→List ResultVar→Option (List D×St)
 | s,[]=>some ([],s)
 | s,r::rs=>(Jc T s r).bind fun q=>(FZ T q.2 rs).map fun p=>(q.1::p.1,p.2)
def FB(T:Tys)(s:St)(rs:List ResultVar):Option (D×St):=
 match rs with
 | [r]=>Jc T s r
 | rs=>(FZ T s rs).map fun q=>(.tup q.1,q.2)
def Kv(T:Tys)(n:Nat)(rs:List ResultVar)(s:St):Option (D×List D):=
 match FB T s rs with
 | none=>none
 | some (r,s')=>if M3 r&&((List.range n).map fun j=>s'.v (G+j)).all M4 then some (r,(List.range n).map fun j=>s'.v (G+j))else none
noncomputable def NQ(E:Env)(fn:Func)(args lent:List D):Option (D×List D):=
 match fn.body with
 | none=>none
 | some c=>
  match Bj E c (entry args lent)with
  | some (.normal,s)=>Kv E.T lent.length fn.results.toList s
  | some (.ret,s)=>Kv E.T lent.length fn.results.toList s
  | _=>none
end Dv
namespace Dv
open Go
abbrev Em(F:Nat→Prop):Prop:= ∀k,¬F k
abbrev V0:A2→Nat→Nat→Value→Prop:=fun _ _ _ _=>False
abbrev Dj:A2→Nat→Nat→Nat→Value→Prop:=fun _ _ _ _ _=>False
def B6(ag:Bool)(l:List Int):Value:=if ag=true then .agg (l.map (Value.int .i64)).toArray else .int .i64 (l.headD 0)
inductive W(T:Tys)(S:Nat→Prop)(w:World):(A2→Nat→Nat→Value→Prop)→(A2→Nat→Nat→Nat→Value→Prop)→D→Value→(Nat→Prop)→Prop
 | undef {V Vp v F} (h:Em F):W T S w V Vp .undef v F
 | int {V Vp k n F} (h:Em F):W T S w V Vp (.int k n) (.int k n) F
 | bool {V Vp b F} (h:Em F):W T S w V Vp (.bool b) (.bool b) F
 | str {V Vp s F} (h:Em F):W T S w V Vp (.str s) (.string s) F
 | konst {V Vp v F} (h:Em F):W T S w V Vp (.konst v) v F
 | sl {V Vp e xs A n c F} (us:Nat→Value) (h:Em F) (hn:xs.length=n*T.size e) (hc:n≤c) (hm:c≤maxLen)
   (hx: ∀i x,xs[i]? =some x→ ∃ad,A=some ad∧S ad.block∧w.cell? (ad.add i)=some (us i))
   (hw: ∀i x,xs[i]? =some x→W T S w V0 Dj x (us i) (fun _=>False)):W T S w V Vp (.sl e xs) (.slice A n c) F
 | own0 {V Vp e A F} (h:Em F):W T S w V Vp (.own e []) (.slice A 0 0) F
 | own {V Vp e xs b o n c cs F} (us:Nat→Value) (Fi:Nat→Nat→Prop) (hb:w.heap[b]? =some (.cells cs e (0,0))) (hz:cs.size=o+c*T.size e) (hn:xs.length=n*T.size e)
   (hc:n≤c) (hm:c≤maxLen) (hx: ∀i x,xs[i]? =some x→cs[o+i]? =some (us i))
   (hF: ∀k,F k↔k=b∨ ∃i,i<xs.length∧Fi i k) (hFb: ∀i,i<xs.length→ ¬Fi i b)
   (hd: ∀i j k,i<xs.length→j<xs.length→i≠j→Fi i k→ ¬Fi j k) (hS: ¬S b)
   (hw: ∀i x,xs[i]? =some x→W T S w V Vp x (us i) (Fi i)):W T S w V Vp (.own e xs) (.slice (some ⟨b,o,none⟩) n c) F
 | box {V Vp t xs b cs F} (us:Nat→Value) (Fi:Nat→Nat→Prop) (hb:w.heap[b]? =some (.cells cs t (0,0))) (hz:cs.size=xs.length)
   (hx: ∀i x,xs[i]? =some x→cs[i]? =some (us i))
   (hF: ∀k,F k↔k=b∨ ∃i,i<xs.length∧Fi i k) (hFb: ∀i,i<xs.length→ ¬Fi i b)
   (hd: ∀i j k,i<xs.length→j<xs.length→i≠j→Fi i k→ ¬Fi j k) (hS: ¬S b)
   (hw: ∀i x,xs[i]? =some x→W T S w V Vp x (us i) (Fi i)):W T S w V Vp (.box xs) (.pointer (some ⟨b,0,none⟩)) F
 | cptr {V Vp xs ad F} (us:Nat→Value) (h:Em F) (hx: ∀i x,xs[i]? =some x→S ad.block∧w.cell? (ad.add i)=some (us i))
   (hw: ∀i x,xs[i]? =some x→W T S w V0 Dj x (us i) (fun _=>False)):W T S w V Vp (.cptr xs) (.pointer (some ad)) F
 | agg {V Vp xs vs F} (us:Nat→Value) (Fi:Nat→Nat→Prop) (hz:vs.size=xs.length) (hx: ∀i x,xs[i]? =some x→vs[i]? =some (us i))
   (hF: ∀k,F k↔ ∃i,i<xs.length∧Fi i k) (hd: ∀i j k,i<xs.length→j<xs.length→i≠j→Fi i k→ ¬Fi j k)
   (hw: ∀i x,xs[i]? =some x→W T S w V Vp x (us i) (Fi i)):W T S w V Vp (.agg xs) (.agg vs) F
 | tup {V Vp xs vs F} (us:Nat→Value) (Fi:Nat→Nat→Prop) (hz:vs.size=xs.length) (hx: ∀i x,xs[i]? =some x→vs[i]? =some (us i))
   (hF: ∀k,F k↔ ∃i,i<xs.length∧Fi i k) (hd: ∀i j k,i<xs.length→j<xs.length→i≠j→Fi i k→ ¬Fi j k)
   (hw: ∀i x,xs[i]? =some x→W T S w V Vp x (us i) (Fi i)):W T S w V Vp (.tup xs) (.tuple vs) F
 | clo {V Vp f xs vs F} (us:Nat→Value) (h:Em F) (hz:vs.size=xs.length) (hx: ∀i x,xs[i]? =some x→vs[i]? =some (us i))
   (hw: ∀i x,xs[i]? =some x→W T S w V0 Dj x (us i) (fun _=>False)):W T S w V Vp (.clo f xs) (.func (.func f) #[] vs) F
 | ocl {V Vp p f xs vs v F} (us:Nat→Value) (h:Em F) (hz:vs.size=xs.length) (hx: ∀i x,xs[i]? =some x→vs[i]? =some (us i))
   (hw: ∀i x,xs[i]? =some x→W T S w V Vp x (us i) (fun _=>False))
   (hs: ∀i,xs[i]? =some .undef→ ∃ad,us i= .pointer (some ad)∧S ad.block∧w.cell? (ad.add 0)=some (.func (.func f) #[] vs))
   (hv:(p=false∧v= .func (.func f) #[] vs)∨(p=true∧ ∃ad,v= .pointer (some ad)∧S ad.block∧w.cell? (ad.add 0)=some (.func (.func f) #[] vs))):W T S w V Vp (.ocl p f xs) v F
 | mp {V Vp k e es b clock ents F ka kn ea en} (hka:T.nums k=some (ka,kn)) (hea:T.nums e=some (ea,en)) (hb:w.heap[b]? =some (.map ents clock))
   (hes:ents.toList.map (fun x=>(x.key,x.val))=es.map fun p=>(B6 ka p.1,B6 ea p.2)) (hl: ∀p∈es,p.1.length=kn∧p.2.length=en)
   (hF: ∀j,F j↔j=b) (hS: ¬S b):W T S w V Vp (.mp k e es) (.map (some b)) F
 | vw {V Vp L n m v F} (h:Em F) (hv:V L n m v):W T S w V Vp (.vw L n m) v F
 | pe {V Vp L c n m v F} (h:Em F) (hv:Vp L c n m v):W T S w V Vp (.pe L c n m) v F
 | vs {V Vp e L n m lo len A q F} (h:Em F) (hl:len≤q) (hm:q≤maxLen) (hv:0<len→ ∃ad,A=some ad∧Vp L (lo*T.size e) n m (.pointer (some ad))):W T S w V Vp (.vs e L n m lo len) (.slice A len q) F
section
variable {T:Tys} {S S':Nat→Prop} {w w':World} {V V':A2→Nat→Nat→Value→Prop} {Vp Vp':A2→Nat→Nat→Nat→Value→Prop}
theorem Er{w w':World}{ad:Addr}(h:w'.heap[ad.block]? =w.heap[ad.block]?)(i:Nat):w'.cell? (ad.add i)=w.cell? (ad.add i):=by
 apply World.cell?_of_block
 have:(ad.add i).block=ad.block:=by unfold Addr.add;split<;>rfl
 rw [this];exact h
theorem W.mono{d:D}{v:Value}{F:Nat→Prop}(hS: ∀k,S k→S' k∧w'.heap[k]? =w.heap[k]?)(h:W T S w V Vp d v F):
  ∀(V':A2→Nat→Nat→Value→Prop) (Vp':A2→Nat→Nat→Nat→Value→Prop),(∀L n m v,V L n m v→V' L n m v)→(∀L c n m v,Vp L c n m v→Vp' L c n m v)→
  (∀k,F k→ ¬S' k∧w'.heap[k]? =w.heap[k]?)→W T S' w' V' Vp' d v F:=by
 induction h with
 | undef h=>exact fun _ _ _ _ _=> .undef h
 | int h=>exact fun _ _ _ _ _=> .int h
 | bool h=>exact fun _ _ _ _ _=> .bool h
 | str h=>exact fun _ _ _ _ _=> .str h
 | konst h=>exact fun _ _ _ _ _=> .konst h
 | sl us h hn hc hm hx hw ih=>
  intro _ _ _ _ _
  refine .sl us h hn hc hm (fun i x hi=> ?_) (fun i x hi=>ih i x hi V0 Dj (fun _ _ _ _ h=>h) (fun _ _ _ _ _ h=>h) (fun k hk=>hk.elim))
  obtain⟨ad,ha,hs,hcell⟩:=hx i x hi
  exact⟨ad,ha,(hS _ hs).1,by rw [Er (hS _ hs).2];exact hcell⟩
 | own0 h=>exact fun _ _ _ _ _=> .own0 h
 | own us Fi hb hz hn hc hm hx hF hFb hd hSb hw ih=>
  intro V' Vp' hV hVp hk
  have hkb:=hk _ ((hF _).2 (.inl rfl))
  exact .own us Fi (hkb.2.trans hb) hz hn hc hm hx hF hFb hd hkb.1 (fun i x hi=>ih i x hi V' Vp' hV hVp (fun k hf=>hk k ((hF k).2 (.inr ⟨i,(List.getElem?_eq_some_iff.1 hi).1,hf⟩))))
 | box us Fi hb hz hx hF hFb hd hSb hw ih=>
  intro V' Vp' hV hVp hk
  have hkb:=hk _ ((hF _).2 (.inl rfl))
  exact .box us Fi (hkb.2.trans hb) hz hx hF hFb hd hkb.1 (fun i x hi=>ih i x hi V' Vp' hV hVp (fun k hf=>hk k ((hF k).2 (.inr ⟨i,(List.getElem?_eq_some_iff.1 hi).1,hf⟩))))
 | cptr us h hx hw ih=>
  intro _ _ _ _ _
  refine .cptr us h (fun i x hi=> ?_) (fun i x hi=>ih i x hi V0 Dj (fun _ _ _ _ h=>h) (fun _ _ _ _ _ h=>h) (fun k hk=>hk.elim))
  obtain⟨hs,hcell⟩:=hx i x hi
  exact⟨(hS _ hs).1,by rw [Er (hS _ hs).2];exact hcell⟩
 | agg us Fi hz hx hF hd hw ih=>
  intro V' Vp' hV hVp hk
  exact .agg us Fi hz hx hF hd (fun i x hi=>ih i x hi V' Vp' hV hVp (fun k hf=>hk k ((hF k).2 ⟨i,(List.getElem?_eq_some_iff.1 hi).1,hf⟩)))
 | tup us Fi hz hx hF hd hw ih=>
  intro V' Vp' hV hVp hk
  exact .tup us Fi hz hx hF hd (fun i x hi=>ih i x hi V' Vp' hV hVp (fun k hf=>hk k ((hF k).2 ⟨i,(List.getElem?_eq_some_iff.1 hi).1,hf⟩)))
 | clo us h hz hx hw ih=>exact fun _ _ _ _ _=> .clo us h hz hx (fun i x hi=>ih i x hi V0 Dj (fun _ _ _ _ h=>h) (fun _ _ _ _ _ h=>h) (fun k hk=>hk.elim))
 | ocl us h hz hx hw hs hv ih=>
  intro V' Vp' hV hVp hk
  refine .ocl us h hz hx (fun i x hi=>ih i x hi V' Vp' hV hVp (fun k hk=>hk.elim)) (fun i hi=> ?_) ?_
  ·obtain⟨ad,h1,h2,h3⟩:=hs i hi
   exact⟨ad,h1,(hS _ h2).1,by rw [Er (hS _ h2).2];exact h3⟩
  ·rcases hv with h1 | ⟨h1,ad,h2,h3,h4⟩
   ·exact .inl h1
   ·exact .inr ⟨h1,ad,h2,(hS _ h3).1,by rw [Er (hS _ h3).2];exact h4⟩
 | mp hka hea hb hes hl hF hSb=>
  intro V' Vp' hV hVp hk
  have hkb:=hk _ ((hF _).2 rfl)
  exact .mp hka hea (hkb.2.trans hb) hes hl hF hkb.1
 | vw h hv=>exact fun _ _ hV _ _=> .vw h (hV _ _ _ _ hv)
 | pe h hv=>exact fun _ _ _ hVp _=> .pe h (hVp _ _ _ _ _ hv)
 | vs h hl hm hv=>exact fun _ _ _ hVp _=> .vs h hl hm (fun h0=>by obtain⟨ad,e1,e2⟩:=hv h0;exact⟨ad,e1,hVp _ _ _ _ _ e2⟩)
theorem W.notS{d:D}{v:Value}{F:Nat→Prop}(h:W T S w V Vp d v F): ∀k,F k→ ¬S k:=by
 induction h with
 | mp hka hea hb hes hl hF hSb=>intro k hk;rw [(hF k).1 hk];exact hSb
 | own us Fi hb hz hn hc hm hx hF hFb hd hSb hw ih=>
  intro k hk
  rcases(hF k).1 hk with rfl | ⟨i,hi,hf⟩
  ·exact hSb
  ·exact ih i _ (List.getElem?_eq_getElem hi) k hf
 | box us Fi hb hz hx hF hFb hd hSb hw ih=>
  intro k hk
  rcases(hF k).1 hk with rfl | ⟨i,hi,hf⟩
  ·exact hSb
  ·exact ih i _ (List.getElem?_eq_getElem hi) k hf
 | agg us Fi hz hx hF hd hw ih=>
  intro k hk
  obtain⟨i,hi,hf⟩:=(hF k).1 hk
  exact ih i _ (List.getElem?_eq_getElem hi) k hf
 | tup us Fi hz hx hF hd hw ih=>
  intro k hk
  obtain⟨i,hi,hf⟩:=(hF k).1 hk
  exact ih i _ (List.getElem?_eq_getElem hi) k hf
 | undef h=>exact fun k hk=>(h k hk).elim
 | int h=>exact fun k hk=>(h k hk).elim
 | bool h=>exact fun k hk=>(h k hk).elim
 | str h=>exact fun k hk=>(h k hk).elim
 | konst h=>exact fun k hk=>(h k hk).elim
 | sl us h=>exact fun k hk=>(h k hk).elim
 | own0 h=>exact fun k hk=>(h k hk).elim
 | cptr us h=>exact fun k hk=>(h k hk).elim
 | clo us h=>exact fun k hk=>(h k hk).elim
 | ocl us h=>exact fun k hk=>(h k hk).elim
 | vw h=>exact fun k hk=>(h k hk).elim
 | pe h=>exact fun k hk=>(h k hk).elim
 | vs h=>exact fun k hk=>(h k hk).elim
theorem Es{w:World}{b:Nat}{o:Obj}(h:w.heap[b]? =some o):b<w.heap.size:=by
 rcases Nat.lt_or_ge b w.heap.size with h' | h'
 ·exact h'
 ·rw [Array.getElem?_eq_none h']at h;cases h
theorem W.lt{d:D}{v:Value}{F:Nat→Prop}(h:W T S w V Vp d v F): ∀k,F k→k<w.heap.size:=by
 induction h with
 | mp hka hea hb hes hl hF hSb=>intro k hk;rw [(hF k).1 hk];exact Es hb
 | own us Fi hb hz hn hc hm hx hF hFb hd hSb hw ih=>
  intro k hk
  rcases(hF k).1 hk with rfl | ⟨i,hi,hf⟩
  ·exact Es hb
  ·exact ih i _ (List.getElem?_eq_getElem hi) k hf
 | box us Fi hb hz hx hF hFb hd hSb hw ih=>
  intro k hk
  rcases(hF k).1 hk with rfl | ⟨i,hi,hf⟩
  ·exact Es hb
  ·exact ih i _ (List.getElem?_eq_getElem hi) k hf
 | agg us Fi hz hx hF hd hw ih=>
  intro k hk
  obtain⟨i,hi,hf⟩:=(hF k).1 hk
  exact ih i _ (List.getElem?_eq_getElem hi) k hf
 | tup us Fi hz hx hF hd hw ih=>
  intro k hk
  obtain⟨i,hi,hf⟩:=(hF k).1 hk
  exact ih i _ (List.getElem?_eq_getElem hi) k hf
 | undef h=>exact fun k hk=>(h k hk).elim
 | int h=>exact fun k hk=>(h k hk).elim
 | bool h=>exact fun k hk=>(h k hk).elim
 | str h=>exact fun k hk=>(h k hk).elim
 | konst h=>exact fun k hk=>(h k hk).elim
 | sl us h=>exact fun k hk=>(h k hk).elim
 | own0 h=>exact fun k hk=>(h k hk).elim
 | cptr us h=>exact fun k hk=>(h k hk).elim
 | clo us h=>exact fun k hk=>(h k hk).elim
 | ocl us h=>exact fun k hk=>(h k hk).elim
 | vw h=>exact fun k hk=>(h k hk).elim
 | pe h=>exact fun k hk=>(h k hk).elim
 | vs h=>exact fun k hk=>(h k hk).elim
theorem W.congr{d:D}{v:Value}{F F':Nat→Prop}(h:W T S w V Vp d v F)(he: ∀k,F k↔F' k):W T S w V Vp d v F':=by
 have:F=F':=funext fun k=>propext (he k)
 exact this▸h
theorem Et{xs ys:List D}(h:B5 xs=some ys):ys.length=xs.length∧ ∀(i:Nat) (x:D),xs[i]? =some x→ ∃y,ys[i]? =some y∧BX x=some y:=by
 induction xs generalizing ys with
 | nil=>simp [B5]at h;subst h;simp
 | cons d ds ih=>
  simp only [B5,Option.bind_eq_some_iff,Option.map_eq_some_iff]at h
  obtain⟨d',hd,ds',hds,rfl⟩:=h
  obtain⟨hl,hi⟩:=ih hds
  refine⟨by simp [hl],fun i x hx=> ?_⟩
  cases i with
  | zero=>simp at hx;subst hx;exact⟨d',by simp,hd⟩
  | succ i=>simp at hx;simpa using hi i x hx
theorem Cv{xs ys:List D}(h:B5 xs=some ys){i:Nat}{y:D}(hy:ys[i]? =some y): ∃x,xs[i]? =some x∧BX x=some y:=by
 obtain⟨hl,hi⟩:=Et h
 have hlt:i<ys.length:=(List.getElem?_eq_some_iff.1 hy).1
 obtain⟨y',hy',hf⟩:=hi i _ (List.getElem?_eq_getElem (l:=xs) (by omega))
 rw [hy]at hy'
 exact⟨_,List.getElem?_eq_getElem (by omega),by rw [hf,hy']⟩
theorem Jd(b i:Nat):(Addr.add ⟨b,0,none⟩ i)=⟨b,i,none⟩:=by
 unfold Addr.add;split
 ·rename_i h;subst h;rfl
 ·simp
theorem Fq{w:World}{b i:Nat}{cs:Array Value}{t:TypeId}{fr:Nat×Nat}(hb:w.heap[b]? =some (.cells cs t fr)):w.cell? (Addr.add ⟨b,0,none⟩ i)=cs[i]? :=by
 rw [Jd];exact cell_of_row w _ _ _ _ _ hb
theorem Gq(b o i:Nat):(Addr.add ⟨b,o,none⟩ i)=⟨b,o+i,none⟩:=by
 unfold Addr.add;split
 ·rename_i h;subst h;rfl
 ·simp
theorem CX{w:World}{b o i:Nat}{cs:Array Value}{t:TypeId}{fr:Nat×Nat}(hb:w.heap[b]? =some (.cells cs t fr)):w.cell? (Addr.add ⟨b,o,none⟩ i)=cs[o+i]? :=by
 rw [Gq];exact cell_of_row w _ _ _ _ _ hb
theorem W.freeze{d:D}{v:Value}{F:Nat→Prop}(h:W T S w V Vp d v F):
  ∀d',BX d=some d'→(∀k,F k→S' k)→(∀k,S k→S' k)→W T S' w V0 Dj d' v (fun _=>False):=by
 have hE:Em (fun _:Nat=>False):=fun _ h=>h
 induction h with
 | undef h=>intro d' hd;simp [BX]at hd
 | int h=>intro d' hd _ _;simp [BX]at hd;subst hd;exact .int hE
 | bool h=>intro d' hd _ _;simp [BX]at hd;subst hd;exact .bool hE
 | str h=>intro d' hd _ _;simp [BX]at hd;subst hd;exact .str hE
 | konst h=>intro d' hd _ _;simp [BX]at hd;subst hd;exact .konst hE
 | sl us h hn hc hm hx hw ih=>
  intro d' hd _ hS
  simp only [BX,Option.some.injEq]at hd;subst hd
  exact W.mono (fun k hk=>⟨hS k hk,rfl⟩) (W.sl (V:=V0) (Vp:=Dj) us hE hn hc hm hx hw) _ _ (fun _ _ _ _ h=>h.elim) (fun _ _ _ _ _ h=>h.elim) (fun _ h=>h.elim)
 | own0 h=>
  intro d' hd _ _;simp [BX,B5]at hd;subst hd
  exact .sl (fun _=> .bool false) hE (by simp) (Nat.le_refl _) (Nat.zero_le _) (by simp) (by simp)
 | own us Fi hb hz hn hc hm hx hF hFb hd hSb hw ih=>
  intro d' hd' hFS hS
  simp only [BX,Option.map_eq_some_iff]at hd'
  obtain⟨ys,hys,rfl⟩:=hd'
  obtain⟨hl,_⟩:=Et hys
  refine .sl us hE (by rw [hl];exact hn) hc hm (fun i y hy=> ?_) (fun i y hy=> ?_)
  ·obtain⟨x,hx',hfx⟩:=Cv hys hy
   refine⟨_,rfl,hFS _ ((hF _).2 (.inl rfl)), ?_⟩
   rw [CX hb];exact hx i x hx'
  ·obtain⟨x,hx',hfx⟩:=Cv hys hy
   exact ih i x hx' y hfx (fun k hk=>hFS k ((hF k).2 (.inr ⟨i,(List.getElem?_eq_some_iff.1 hx').1,hk⟩))) hS
 | box us Fi hb hz hx hF hFb hd hSb hw ih=>
  intro d' hd' hFS hS
  simp only [BX,Option.map_eq_some_iff]at hd'
  obtain⟨ys,hys,rfl⟩:=hd'
  refine .cptr us hE (fun i y hy=> ?_) (fun i y hy=> ?_)
  ·obtain⟨x,hx',hfx⟩:=Cv hys hy
   refine⟨hFS _ ((hF _).2 (.inl rfl)), ?_⟩
   have:=hx i x hx'
   simp only [Addr.add];split
   ·rename_i h0;subst h0;rw [cell_of_row w _ _ _ _ _ hb];exact this
   ·simp only [Nat.zero_add];rw [cell_of_row w _ _ _ _ _ hb];exact this
  ·obtain⟨x,hx',hfx⟩:=Cv hys hy
   exact ih i x hx' y hfx (fun k hk=>hFS k ((hF k).2 (.inr ⟨i,(List.getElem?_eq_some_iff.1 hx').1,hk⟩))) hS
 | cptr us h hx hw ih=>
  intro d' hd _ hS
  simp only [BX,Option.some.injEq]at hd;subst hd
  exact W.mono (fun k hk=>⟨hS k hk,rfl⟩) (W.cptr (V:=V0) (Vp:=Dj) us hE hx hw) _ _ (fun _ _ _ _ h=>h.elim) (fun _ _ _ _ _ h=>h.elim) (fun _ h=>h.elim)
 | agg us Fi hz hx hF hd hw ih=>
  intro d' hd' hFS hS
  simp only [BX,Option.map_eq_some_iff]at hd'
  obtain⟨ys,hys,rfl⟩:=hd'
  obtain⟨hl,_⟩:=Et hys
  refine .agg us (fun _ _=>False) (by rw [hl];exact hz) (fun i y hy=> ?_) (by simp) (by simp) (fun i y hy=> ?_)
  ·obtain⟨x,hx',hfx⟩:=Cv hys hy;exact hx i x hx'
  ·obtain⟨x,hx',hfx⟩:=Cv hys hy
   exact ih i x hx' y hfx (fun k hk=>hFS k ((hF k).2 ⟨i,(List.getElem?_eq_some_iff.1 hx').1,hk⟩)) hS
 | tup us Fi hz hx hF hd hw ih=>
  intro d' hd' hFS hS
  simp only [BX,Option.map_eq_some_iff]at hd'
  obtain⟨ys,hys,rfl⟩:=hd'
  obtain⟨hl,_⟩:=Et hys
  refine .tup us (fun _ _=>False) (by rw [hl];exact hz) (fun i y hy=> ?_) (by simp) (by simp) (fun i y hy=> ?_)
  ·obtain⟨x,hx',hfx⟩:=Cv hys hy;exact hx i x hx'
  ·obtain⟨x,hx',hfx⟩:=Cv hys hy
   exact ih i x hx' y hfx (fun k hk=>hFS k ((hF k).2 ⟨i,(List.getElem?_eq_some_iff.1 hx').1,hk⟩)) hS
 | clo us h hz hx hw ih=>
  intro d' hd _ hS
  simp only [BX,Option.some.injEq]at hd;subst hd
  exact W.mono (fun k hk=>⟨hS k hk,rfl⟩) (W.clo (V:=V0) (Vp:=Dj) us hE hz hx hw) _ _ (fun _ _ _ _ h=>h.elim) (fun _ _ _ _ _ h=>h.elim) (fun _ h=>h.elim)
 | ocl us h hz hx hw hs hv ih=>intro d' hd;simp [BX]at hd
 | mp=>intro d' hd;simp [BX]at hd
 | vw h hv=>intro d' hd;simp [BX]at hd
 | pe h hv=>intro d' hd;simp [BX]at hd
 | vs h hl hm hv=>intro d' hd;simp [BX]at hd
theorem W.up{d:D}{v:Value}{F:Nat→Prop}(h:W T S w V0 Dj d v F):W T S w V Vp d v F:=
 W.mono (S':=S) (w':=w) (fun _ hk=>⟨hk,rfl⟩) h _ _ (fun _ _ _ _ h=>h.elim) (fun _ _ _ _ _ h=>h.elim) (fun k hk=>⟨h.notS k hk,rfl⟩)
def AH(w:World):Value→A2→Option Value
 | v,[]=>some v
 | .slice (some ad) _ _,c::p=>(w.cell? (ad.add c)).bind fun u=>AH w u p
 | .pointer (some ad),c::p=>(w.cell? (ad.add c)).bind fun u=>AH w u p
 | .agg cs,c::p=>(cs[c]?).bind fun u=>AH w u p
 | .tuple cs,c::p=>(cs[c]?).bind fun u=>AH w u p
 | _,_::_=>none
theorem W.follow_frame{p:A2}: ∀ {d:D} {v:Value} {F:Nat→Prop},W T S w V Vp d v F→(∀k,F k→w'.heap[k]? =w.heap[k]?)→
  ∀d',AX d p=some d'→AH w' v p=AH w v p:=by
 induction p with
 | nil=>intro d v F _ _ d' _;simp [AH]
 | cons c p ih=>
  intro d v F h hk d' hd
  cases h with
  | own us Fi hb hz hn hc hm hx hF hFb hdj hSb hw=>
   simp only [AX,Option.bind_eq_some_iff]at hd
   obtain⟨x,hxc,hd⟩:=hd
   have hlt:=(List.getElem?_eq_some_iff.1 hxc).1
   have hb':=(hk _ ((hF _).2 (.inl rfl))).trans hb
   simp only [AH,CX hb,CX hb',hx c x hxc,Option.bind_some]
   exact ih (hw c x hxc) (fun k hf=>hk k ((hF k).2 (.inr ⟨c,hlt,hf⟩))) d' hd
  | box us Fi hb hz hx hF hFb hdj hSb hw=>
   simp only [AX,Option.bind_eq_some_iff]at hd
   obtain⟨x,hxc,hd⟩:=hd
   have hlt:=(List.getElem?_eq_some_iff.1 hxc).1
   have hb':=(hk _ ((hF _).2 (.inl rfl))).trans hb
   simp only [AH,Fq hb,Fq hb',hx c x hxc,Option.bind_some]
   exact ih (hw c x hxc) (fun k hf=>hk k ((hF k).2 (.inr ⟨c,hlt,hf⟩))) d' hd
  | agg us Fi hz hx hF hdj hw=>
   simp only [AX,Option.bind_eq_some_iff]at hd
   obtain⟨x,hxc,hd⟩:=hd
   have hlt:=(List.getElem?_eq_some_iff.1 hxc).1
   simp only [AH,hx c x hxc,Option.bind_some]
   exact ih (hw c x hxc) (fun k hf=>hk k ((hF k).2 ⟨c,hlt,hf⟩)) d' hd
  | tup us Fi hz hx hF hdj hw=>
   simp only [AX,Option.bind_eq_some_iff]at hd
   obtain⟨x,hxc,hd⟩:=hd
   have hlt:=(List.getElem?_eq_some_iff.1 hxc).1
   simp only [AH,hx c x hxc,Option.bind_some]
   exact ih (hw c x hxc) (fun k hf=>hk k ((hF k).2 ⟨c,hlt,hf⟩)) d' hd
  | own0=>simp [AX]at hd
  | _=>simp [AX]at hd
theorem FC{xs:List D}{c:Nat}{x:D}(h:xs[c]? =some x):xs.getD c .undef=x:=by rw [List.getD_eq_getElem?_getD,h];rfl
def Je(p q:A2):Prop:= ∃c r,q=p++c::r
theorem W.focus{p:A2}: ∀ {d:D} {v:Value} {F:Nat→Prop},W T S w V Vp d v F→ ∀d',AX d p=some d'→
  ∃v' F',AH w v p=some v'∧W T S w V Vp d' v' F'∧(∀k,F' k→F k)∧
   (∀(w':World) (S':Nat→Prop) (V':A2→Nat→Nat→Value→Prop) (Vp':A2→Nat→Nat→Nat→Value→Prop) (d'':D) (F'':Nat→Prop),
    (∀k,F k→ ¬F' k→w'.heap[k]? =w.heap[k]? ∧ ¬S' k∧ ¬F'' k)→(∀k,S k→S' k∧w'.heap[k]? =w.heap[k]?)→
    (∀L n m v,V L n m v→V' L n m v)→(∀L c n m v,Vp L c n m v→Vp' L c n m v)→W T S' w' V' Vp' d'' v' F''→
    W T S' w' V' Vp' (CU d p d'') v (fun k=>(F k∧ ¬F' k)∨F'' k))∧
   (∀(w':World),(∀k,F k→ ¬F' k→w'.heap[k]? =w.heap[k]?)→ ∀(q:A2) (o:D),AX d q=some o→ ¬Je p q→AH w' v q=AH w v q):=by
 induction p with
 | nil=>
  intro d v F h d' hd
  simp only [AX,Option.some.injEq]at hd
  subst hd
  refine⟨v,F,rfl,h,fun _ h=>h,fun w' S' V' Vp' d'' F'' _ _ _ _ hn=> ?_,fun w' _ q o _ hq=> ?_⟩
  ·simp only [CU]
   exact hn.congr fun k=>⟨fun h=> .inr h,fun h=>h.elim (fun h=>(h.2 h.1).elim) id⟩
  ·cases q with
   | nil=>simp [AH]
   | cons c r=>exact(hq ⟨c,r,rfl⟩).elim
 | cons c p ih=>
  intro d v F h d' hd
  cases h with
  | own us Fi hb hz hn hc hm hx hF hFb hdj hSb hw=>
   simp only [AX,Option.bind_eq_some_iff]at hd
   obtain⟨x,hxc,hd⟩:=hd
   have hlt:=(List.getElem?_eq_some_iff.1 hxc).1
   obtain⟨v',F',hfo,hW',hsub,hset,hst⟩:=ih (hw c x hxc) d' hd
   have hFb': ¬F' _:=fun h=>hFb c hlt (hsub _ h)
   refine⟨v',F', ?_,hW',fun k h=>(hF k).2 (.inr ⟨c,hlt,hsub k h⟩),fun w' S' V' Vp' d'' F'' hr hS hV hVp hnew=> ?_,fun w' hr q o hq hns=> ?_⟩
   ·simp only [AH,CX hb,hx c x hxc,Option.bind_some];exact hfo
   ·have hb0:=hr _ ((hF _).2 (.inl rfl)) hFb'
    have hel:=hset w' S' V' Vp' d'' F'' (fun k hk hn=>hr k ((hF k).2 (.inr ⟨c,hlt,hk⟩)) hn) hS hV hVp hnew
    simp only [CU,FC hxc]
    refine .own us (fun i=>if i=c then(fun k=>(Fi c k∧ ¬F' k)∨F'' k)else Fi i) (hb0.1.trans hb) hz (by simpa using hn) hc hm ?_ ?_ ?_ ?_ hb0.2.1 ?_
    ·intro i y hy
     rw [List.getElem?_set]at hy
     split at hy
     ·rename_i hic;subst hic;exact hx _ x hxc
     ·exact hx i y hy
    ·intro k
     rw [hF k]
     simp only [List.length_set]
     constructor
     ·rintro(⟨rfl | ⟨i,hi,hf⟩,hnf⟩ | hf)
      ·exact .inl rfl
      ·by_cases hic:i=c
       ·subst hic;exact .inr ⟨i,hi,by simp [hf,hnf]⟩
       ·exact .inr ⟨i,hi,by simp [hic,hf]⟩
      ·exact .inr ⟨c,hlt,by simp [hf]⟩
     ·rintro(rfl | ⟨i,hi,hf⟩)
      ·exact .inl ⟨.inl rfl,hFb'⟩
      ·by_cases hic:i=c
       ·subst hic
        simp only [if_true]at hf
        rcases hf with⟨hf,hnf⟩ | hf
        ·exact .inl ⟨.inr ⟨i,hi,hf⟩,hnf⟩
        ·exact .inr hf
       ·simp only [hic,if_false]at hf
        exact .inl ⟨.inr ⟨i,hi,hf⟩,fun h=>hdj i c k hi hlt hic hf (hsub k h)⟩
    ·intro i hi
     simp only [List.length_set]at hi
     by_cases hic:i=c
     ·subst hic
      simp only [if_true]
      rintro(⟨hf,_⟩ | hf)
      ·exact hFb i hi hf
      ·exact hb0.2.2 hf
     ·simp only [hic,if_false];exact hFb i hi
    ·intro i j k hi hj hij
     simp only [List.length_set]at hi hj
     by_cases hic:i=c
     ·subst hic
      have hji: ¬j=i:=fun h=>hij h.symm
      simp only [if_true,hji,if_false]
      rintro(⟨hf,_⟩ | hf) hfj
      ·exact hdj i j k hi hj hij hf hfj
      ·exact(hr k ((hF k).2 (.inr ⟨j,hj,hfj⟩)) (fun h=>hdj j i k hj hi hji hfj (hsub k h))).2.2 hf
     ·simp only [hic,if_false]
      by_cases hjc:j=c
      ·subst hjc
       simp only [if_true]
       rintro hfi (⟨hf,_⟩ | hf)
       ·exact hdj i j k hi hj hij hfi hf
       ·exact(hr k ((hF k).2 (.inr ⟨i,hi,hfi⟩)) (fun h=>hdj i j k hi hj hij hfi (hsub k h))).2.2 hf
      ·simp only [hjc,if_false];exact hdj i j k hi hj hij
    ·intro i y hy
     rw [List.getElem?_set]at hy
     split at hy
     ·rename_i hic
      subst hic
      simp only [Option.some.injEq]at hy
      subst hy
      simp only [if_true]
      exact hel
     ·rename_i hic
      have hic': ¬i=c:=fun h=>hic h.symm
      have hi:=(List.getElem?_eq_some_iff.1 hy).1
      simp only [hic',if_false]
      exact W.mono hS (hw i y hy) V' Vp' hV hVp (fun k hf=>⟨(hr k ((hF k).2 (.inr ⟨i,hi,hf⟩)) (fun h=>hdj i c k hi hlt hic' hf (hsub k h))).2.1,
       (hr k ((hF k).2 (.inr ⟨i,hi,hf⟩)) (fun h=>hdj i c k hi hlt hic' hf (hsub k h))).1⟩)
   ·cases q with
    | nil=>simp [AH]
    | cons c' r=>
     have hb':=(hr _ ((hF _).2 (.inl rfl)) hFb').trans hb
     simp only [AX,Option.bind_eq_some_iff]at hq
     obtain⟨y,hy,hq⟩:=hq
     have hlt':=(List.getElem?_eq_some_iff.1 hy).1
     simp only [AH,CX hb,CX hb',hx c' y hy,Option.bind_some]
     by_cases hcc:c'=c
     ·subst hcc
      rw [hxc]at hy;injection hy with hy;subst hy
      exact hst w' (fun k hk hn=>hr k ((hF k).2 (.inr ⟨c',hlt,hk⟩)) hn) r o hq (fun⟨a,b,e⟩=>hns ⟨a,b,by rw [e];rfl⟩)
     ·exact W.follow_frame (hw c' y hy) (fun k hf=>hr k ((hF k).2 (.inr ⟨c',hlt',hf⟩)) (fun h=>hdj c' c k hlt' hlt hcc hf (hsub k h))) o hq
  | box us Fi hb hz hx hF hFb hdj hSb hw=>
   simp only [AX,Option.bind_eq_some_iff]at hd
   obtain⟨x,hxc,hd⟩:=hd
   have hlt:=(List.getElem?_eq_some_iff.1 hxc).1
   obtain⟨v',F',hfo,hW',hsub,hset,hst⟩:=ih (hw c x hxc) d' hd
   have hFb': ¬F' _:=fun h=>hFb c hlt (hsub _ h)
   refine⟨v',F', ?_,hW',fun k h=>(hF k).2 (.inr ⟨c,hlt,hsub k h⟩),fun w' S' V' Vp' d'' F'' hr hS hV hVp hnew=> ?_,fun w' hr q o hq hns=> ?_⟩
   ·simp only [AH,Fq hb,hx c x hxc,Option.bind_some];exact hfo
   ·have hb0:=hr _ ((hF _).2 (.inl rfl)) hFb'
    have hel:=hset w' S' V' Vp' d'' F'' (fun k hk hn=>hr k ((hF k).2 (.inr ⟨c,hlt,hk⟩)) hn) hS hV hVp hnew
    simp only [CU,FC hxc]
    refine .box us (fun i=>if i=c then(fun k=>(Fi c k∧ ¬F' k)∨F'' k)else Fi i) (hb0.1.trans hb) (by simpa using hz) ?_ ?_ ?_ ?_ hb0.2.1 ?_
    ·intro i y hy
     rw [List.getElem?_set]at hy
     split at hy
     ·rename_i hic;subst hic;exact hx _ x hxc
     ·exact hx i y hy
    ·intro k
     rw [hF k]
     simp only [List.length_set]
     constructor
     ·rintro(⟨rfl | ⟨i,hi,hf⟩,hnf⟩ | hf)
      ·exact .inl rfl
      ·by_cases hic:i=c
       ·subst hic;exact .inr ⟨i,hi,by simp [hf,hnf]⟩
       ·exact .inr ⟨i,hi,by simp [hic,hf]⟩
      ·exact .inr ⟨c,hlt,by simp [hf]⟩
     ·rintro(rfl | ⟨i,hi,hf⟩)
      ·exact .inl ⟨.inl rfl,hFb'⟩
      ·by_cases hic:i=c
       ·subst hic
        simp only [if_true]at hf
        rcases hf with⟨hf,hnf⟩ | hf
        ·exact .inl ⟨.inr ⟨i,hi,hf⟩,hnf⟩
        ·exact .inr hf
       ·simp only [hic,if_false]at hf
        exact .inl ⟨.inr ⟨i,hi,hf⟩,fun h=>hdj i c k hi hlt hic hf (hsub k h)⟩
    ·intro i hi
     simp only [List.length_set]at hi
     by_cases hic:i=c
     ·subst hic
      simp only [if_true]
      rintro(⟨hf,_⟩ | hf)
      ·exact hFb i hi hf
      ·exact hb0.2.2 hf
     ·simp only [hic,if_false];exact hFb i hi
    ·intro i j k hi hj hij
     simp only [List.length_set]at hi hj
     by_cases hic:i=c
     ·subst hic
      have hji: ¬j=i:=fun h=>hij h.symm
      simp only [if_true,hji,if_false]
      rintro(⟨hf,_⟩ | hf) hfj
      ·exact hdj i j k hi hj hij hf hfj
      ·exact(hr k ((hF k).2 (.inr ⟨j,hj,hfj⟩)) (fun h=>hdj j i k hj hi hji hfj (hsub k h))).2.2 hf
     ·simp only [hic,if_false]
      by_cases hjc:j=c
      ·subst hjc
       simp only [if_true]
       rintro hfi (⟨hf,_⟩ | hf)
       ·exact hdj i j k hi hj hij hfi hf
       ·exact(hr k ((hF k).2 (.inr ⟨i,hi,hfi⟩)) (fun h=>hdj i j k hi hj hij hfi (hsub k h))).2.2 hf
      ·simp only [hjc,if_false];exact hdj i j k hi hj hij
    ·intro i y hy
     rw [List.getElem?_set]at hy
     split at hy
     ·rename_i hic
      subst hic
      simp only [Option.some.injEq]at hy
      subst hy
      simp only [if_true]
      exact hel
     ·rename_i hic
      have hic': ¬i=c:=fun h=>hic h.symm
      have hi:=(List.getElem?_eq_some_iff.1 hy).1
      simp only [hic',if_false]
      exact W.mono hS (hw i y hy) V' Vp' hV hVp (fun k hf=>⟨(hr k ((hF k).2 (.inr ⟨i,hi,hf⟩)) (fun h=>hdj i c k hi hlt hic' hf (hsub k h))).2.1,
       (hr k ((hF k).2 (.inr ⟨i,hi,hf⟩)) (fun h=>hdj i c k hi hlt hic' hf (hsub k h))).1⟩)
   ·cases q with
    | nil=>simp [AH]
    | cons c' r=>
     have hb':=(hr _ ((hF _).2 (.inl rfl)) hFb').trans hb
     simp only [AX,Option.bind_eq_some_iff]at hq
     obtain⟨y,hy,hq⟩:=hq
     have hlt':=(List.getElem?_eq_some_iff.1 hy).1
     simp only [AH,Fq hb,Fq hb',hx c' y hy,Option.bind_some]
     by_cases hcc:c'=c
     ·subst hcc
      rw [hxc]at hy;injection hy with hy;subst hy
      exact hst w' (fun k hk hn=>hr k ((hF k).2 (.inr ⟨c',hlt,hk⟩)) hn) r o hq (fun⟨a,b,e⟩=>hns ⟨a,b,by rw [e];rfl⟩)
     ·exact W.follow_frame (hw c' y hy) (fun k hf=>hr k ((hF k).2 (.inr ⟨c',hlt',hf⟩)) (fun h=>hdj c' c k hlt' hlt hcc hf (hsub k h))) o hq
  | agg us Fi hz hx hF hdj hw=>
   simp only [AX,Option.bind_eq_some_iff]at hd
   obtain⟨x,hxc,hd⟩:=hd
   have hlt:=(List.getElem?_eq_some_iff.1 hxc).1
   obtain⟨v',F',hfo,hW',hsub,hset,hst⟩:=ih (hw c x hxc) d' hd
   refine⟨v',F', ?_,hW',fun k h=>(hF k).2 ⟨c,hlt,hsub k h⟩,fun w' S' V' Vp' d'' F'' hr hS hV hVp hnew=> ?_,fun w' hr q o hq hns=> ?_⟩
   ·simp only [AH,hx c x hxc,Option.bind_some];exact hfo
   ·have hel:=hset w' S' V' Vp' d'' F'' (fun k hk hn=>hr k ((hF k).2 ⟨c,hlt,hk⟩) hn) hS hV hVp hnew
    simp only [CU,FC hxc]
    refine .agg us (fun i=>if i=c then(fun k=>(Fi c k∧ ¬F' k)∨F'' k)else Fi i) (by simpa using hz) ?_ ?_ ?_ ?_
    ·intro i y hy
     rw [List.getElem?_set]at hy
     split at hy
     ·rename_i hic;subst hic;exact hx _ x hxc
     ·exact hx i y hy
    ·intro k
     rw [hF k]
     simp only [List.length_set]
     constructor
     ·rintro(⟨⟨i,hi,hf⟩,hnf⟩ | hf)
      ·by_cases hic:i=c
       ·subst hic;exact⟨i,hi,by simp [hf,hnf]⟩
       ·exact⟨i,hi,by simp [hic,hf]⟩
      ·exact⟨c,hlt,by simp [hf]⟩
     ·rintro⟨i,hi,hf⟩
      by_cases hic:i=c
      ·subst hic
       simp only [if_true]at hf
       rcases hf with⟨hf,hnf⟩ | hf
       ·exact .inl ⟨⟨i,hi,hf⟩,hnf⟩
       ·exact .inr hf
      ·simp only [hic,if_false]at hf
       exact .inl ⟨⟨i,hi,hf⟩,fun h=>hdj i c k hi hlt hic hf (hsub k h)⟩
    ·intro i j k hi hj hij
     simp only [List.length_set]at hi hj
     by_cases hic:i=c
     ·subst hic
      have hji: ¬j=i:=fun h=>hij h.symm
      simp only [if_true,hji,if_false]
      rintro(⟨hf,_⟩ | hf) hfj
      ·exact hdj i j k hi hj hij hf hfj
      ·exact(hr k ((hF k).2 ⟨j,hj,hfj⟩) (fun h=>hdj j i k hj hi hji hfj (hsub k h))).2.2 hf
     ·simp only [hic,if_false]
      by_cases hjc:j=c
      ·subst hjc
       simp only [if_true]
       rintro hfi (⟨hf,_⟩ | hf)
       ·exact hdj i j k hi hj hij hfi hf
       ·exact(hr k ((hF k).2 ⟨i,hi,hfi⟩) (fun h=>hdj i j k hi hj hij hfi (hsub k h))).2.2 hf
      ·simp only [hjc,if_false];exact hdj i j k hi hj hij
    ·intro i y hy
     rw [List.getElem?_set]at hy
     split at hy
     ·rename_i hic
      subst hic
      simp only [Option.some.injEq]at hy
      subst hy
      simp only [if_true]
      exact hel
     ·rename_i hic
      have hic': ¬i=c:=fun h=>hic h.symm
      have hi:=(List.getElem?_eq_some_iff.1 hy).1
      simp only [hic',if_false]
      exact W.mono hS (hw i y hy) V' Vp' hV hVp (fun k hf=>⟨(hr k ((hF k).2 ⟨i,hi,hf⟩) (fun h=>hdj i c k hi hlt hic' hf (hsub k h))).2.1,
       (hr k ((hF k).2 ⟨i,hi,hf⟩) (fun h=>hdj i c k hi hlt hic' hf (hsub k h))).1⟩)
   ·cases q with
    | nil=>simp [AH]
    | cons c' r=>
     simp only [AX,Option.bind_eq_some_iff]at hq
     obtain⟨y,hy,hq⟩:=hq
     have hlt':=(List.getElem?_eq_some_iff.1 hy).1
     simp only [AH,hx c' y hy,Option.bind_some]
     by_cases hcc:c'=c
     ·subst hcc
      rw [hxc]at hy;injection hy with hy;subst hy
      exact hst w' (fun k hk hn=>hr k ((hF k).2 ⟨c',hlt,hk⟩) hn) r o hq (fun⟨a,b,e⟩=>hns ⟨a,b,by rw [e];rfl⟩)
     ·exact W.follow_frame (hw c' y hy) (fun k hf=>hr k ((hF k).2 ⟨c',hlt',hf⟩) (fun h=>hdj c' c k hlt' hlt hcc hf (hsub k h))) o hq
  | tup us Fi hz hx hF hdj hw=>
   simp only [AX,Option.bind_eq_some_iff]at hd
   obtain⟨x,hxc,hd⟩:=hd
   have hlt:=(List.getElem?_eq_some_iff.1 hxc).1
   obtain⟨v',F',hfo,hW',hsub,hset,hst⟩:=ih (hw c x hxc) d' hd
   refine⟨v',F', ?_,hW',fun k h=>(hF k).2 ⟨c,hlt,hsub k h⟩,fun w' S' V' Vp' d'' F'' hr hS hV hVp hnew=> ?_,fun w' hr q o hq hns=> ?_⟩
   ·simp only [AH,hx c x hxc,Option.bind_some];exact hfo
   ·have hel:=hset w' S' V' Vp' d'' F'' (fun k hk hn=>hr k ((hF k).2 ⟨c,hlt,hk⟩) hn) hS hV hVp hnew
    simp only [CU,FC hxc]
    refine .tup us (fun i=>if i=c then(fun k=>(Fi c k∧ ¬F' k)∨F'' k)else Fi i) (by simpa using hz) ?_ ?_ ?_ ?_
    ·intro i y hy
     rw [List.getElem?_set]at hy
     split at hy
     ·rename_i hic;subst hic;exact hx _ x hxc
     ·exact hx i y hy
    ·intro k
     rw [hF k]
     simp only [List.length_set]
     constructor
     ·rintro(⟨⟨i,hi,hf⟩,hnf⟩ | hf)
      ·by_cases hic:i=c
       ·subst hic;exact⟨i,hi,by simp [hf,hnf]⟩
       ·exact⟨i,hi,by simp [hic,hf]⟩
      ·exact⟨c,hlt,by simp [hf]⟩
     ·rintro⟨i,hi,hf⟩
      by_cases hic:i=c
      ·subst hic
       simp only [if_true]at hf
       rcases hf with⟨hf,hnf⟩ | hf
       ·exact .inl ⟨⟨i,hi,hf⟩,hnf⟩
       ·exact .inr hf
      ·simp only [hic,if_false]at hf
       exact .inl ⟨⟨i,hi,hf⟩,fun h=>hdj i c k hi hlt hic hf (hsub k h)⟩
    ·intro i j k hi hj hij
     simp only [List.length_set]at hi hj
     by_cases hic:i=c
     ·subst hic
      have hji: ¬j=i:=fun h=>hij h.symm
      simp only [if_true,hji,if_false]
      rintro(⟨hf,_⟩ | hf) hfj
      ·exact hdj i j k hi hj hij hf hfj
      ·exact(hr k ((hF k).2 ⟨j,hj,hfj⟩) (fun h=>hdj j i k hj hi hji hfj (hsub k h))).2.2 hf
     ·simp only [hic,if_false]
      by_cases hjc:j=c
      ·subst hjc
       simp only [if_true]
       rintro hfi (⟨hf,_⟩ | hf)
       ·exact hdj i j k hi hj hij hfi hf
       ·exact(hr k ((hF k).2 ⟨i,hi,hfi⟩) (fun h=>hdj i j k hi hj hij hfi (hsub k h))).2.2 hf
      ·simp only [hjc,if_false];exact hdj i j k hi hj hij
    ·intro i y hy
     rw [List.getElem?_set]at hy
     split at hy
     ·rename_i hic
      subst hic
      simp only [Option.some.injEq]at hy
      subst hy
      simp only [if_true]
      exact hel
     ·rename_i hic
      have hic': ¬i=c:=fun h=>hic h.symm
      have hi:=(List.getElem?_eq_some_iff.1 hy).1
      simp only [hic',if_false]
      exact W.mono hS (hw i y hy) V' Vp' hV hVp (fun k hf=>⟨(hr k ((hF k).2 ⟨i,hi,hf⟩) (fun h=>hdj i c k hi hlt hic' hf (hsub k h))).2.1,
       (hr k ((hF k).2 ⟨i,hi,hf⟩) (fun h=>hdj i c k hi hlt hic' hf (hsub k h))).1⟩)
   ·cases q with
    | nil=>simp [AH]
    | cons c' r=>
     simp only [AX,Option.bind_eq_some_iff]at hq
     obtain⟨y,hy,hq⟩:=hq
     have hlt':=(List.getElem?_eq_some_iff.1 hy).1
     simp only [AH,hx c' y hy,Option.bind_some]
     by_cases hcc:c'=c
     ·subst hcc
      rw [hxc]at hy;injection hy with hy;subst hy
      exact hst w' (fun k hk hn=>hr k ((hF k).2 ⟨c',hlt,hk⟩) hn) r o hq (fun⟨a,b,e⟩=>hns ⟨a,b,by rw [e];rfl⟩)
     ·exact W.follow_frame (hw c' y hy) (fun k hf=>hr k ((hF k).2 ⟨c',hlt',hf⟩) (fun h=>hdj c' c k hlt' hlt hcc hf (hsub k h))) o hq
  | own0=>simp [AX]at hd
  | _=>simp [AX]at hd
end
end Dv
namespace Dv
open Go
def NR(s:St)(L:A2)(n m:Nat):Prop:=
 ∃t p d,L=t::p∧s.k t=n∧(p=[]∨s.m t=m)∧AX (s.v t) p=some d∧d.isObj=true
def Be(w:World)(rv:Nat→Value):A2→Option Value
 | []=>none
 | t::p=>AH w (rv t) p
def Ft:Value→Option Addr
 | .slice A _ _=>A
 | .pointer A=>A
 | _=>none
def Jf(s:St)(L:A2)(n m:Nat):Prop:=n≤s.k (L.headD 0)∧m≤s.m (L.headD 0)
def VR(s:St)(w:World)(rv:Nat→Value)(L:A2)(n m:Nat)(v:Value):Prop:=
 Jf s L n m∧(NR s L n m→Be w rv L=some v)
def VpR(s:St)(w:World)(rv:Nat→Value)(L:A2)(c n m:Nat)(v:Value):Prop:=
 Jf s L n m∧(NR s L n m→ ∃hv ad,Be w rv L=some hv∧Ft hv=some ad∧v= .pointer (some (ad.add c)))
structure Keeps(s:St)(w:World)(rv:Nat→Value)(s':St)(w':World)(rv':Nat→Value):Prop where
 hk: ∀t,s.k t≤s'.k t
 hm: ∀t,s.m t≤s'.m t
 hv: ∀L n m,Jf s L n m→NR s' L n m→NR s L n m∧Be w' rv' L=Be w rv L
theorem Jf.mono{s s':St}{L:A2}{n m:Nat}(h:Jf s L n m)(hk: ∀t,s.k t≤s'.k t)(hm: ∀t,s.m t≤s'.m t):Jf s' L n m:=
 ⟨Nat.le_trans h.1 (hk _),Nat.le_trans h.2 (hm _)⟩
theorem Keeps.VR{s s':St}{w w':World}{rv rv':Nat→Value}(h:Keeps s w rv s' w' rv'): ∀L n m v,VR s w rv L n m v→VR s' w' rv' L n m v:=
 fun L n m v ⟨he,hv⟩=>⟨he.mono h.hk h.hm,fun hva=>by
  obtain⟨h1,h2⟩:=h.hv L n m he hva
  rw [h2];exact hv h1⟩
theorem Keeps.VpR{s s':St}{w w':World}{rv rv':Nat→Value}(h:Keeps s w rv s' w' rv'): ∀L c n m v,VpR s w rv L c n m v→VpR s' w' rv' L c n m v:=
 fun L c n m v ⟨he,hv⟩=>⟨he.mono h.hk h.hm,fun hva=>by
  obtain⟨h1,h2⟩:=h.hv L n m he hva
  rw [h2];exact hv h1⟩
theorem Keeps.refl(s:St)(w:World)(rv:Nat→Value):Keeps s w rv s w rv:=⟨fun _=>Nat.le_refl _,fun _=>Nat.le_refl _,fun _ _ _ _ h=>⟨h,rfl⟩⟩
theorem Keeps.trans{s s' s'':St}{w w' w'':World}{rv rv' rv'':Nat→Value}(h:Keeps s w rv s' w' rv')(g:Keeps s' w' rv' s'' w'' rv''):Keeps s w rv s'' w'' rv'':=
 ⟨fun t=>Nat.le_trans (h.hk t) (g.hk t),fun t=>Nat.le_trans (h.hm t) (g.hm t),fun L n m he hv=>by
  obtain⟨h1,h2⟩:=g.hv L n m (he.mono h.hk h.hm) hv
  obtain⟨h3,h4⟩:=h.hv L n m he h1
  exact⟨h3,h2.trans h4⟩⟩
abbrev WR(T:Tys)(s:St)(rv:Nat→Value)(w:World)(S:Nat→Prop):D→Value→(Nat→Prop)→Prop:=W T S w (VR s w rv) (VpR s w rv)
structure Rel(T:Tys)(s:St)(rv:Nat→Value)(w:World)(S:Nat→Prop)(Fs:Nat→Nat→Prop):Prop where
 val: ∀t,WR T s rv w S (s.v t) (rv t) (Fs t)
 disj: ∀t u k,t≠u→Fs t k→ ¬Fs u k
 lt: ∀k,S k→k<w.heap.size
section
variable {T:Tys} {s s':St} {rv rv':Nat→Value} {w w':World} {S S':Nat→Prop} {Fs:Nat→Nat→Prop}
theorem WR.keep{d:D}{v:Value}{F:Nat→Prop}(h:WR T s rv w S d v F)(hk:Keeps s w rv s' w' rv')(hS: ∀k,S k→S' k∧w'.heap[k]? =w.heap[k]?)
  (hF: ∀k,F k→ ¬S' k∧w'.heap[k]? =w.heap[k]?):WR T s' rv' w' S' d v F:=
 W.mono hS h _ _ hk.VR hk.VpR hF
theorem WR.same{d:D}{v:Value}{F:Nat→Prop}(h:WR T s rv w S d v F)(hk:Keeps s w rv s' w rv'):WR T s' rv' w S d v F:=
 h.keep hk (fun _ h=>⟨h,rfl⟩) (fun k hf=>⟨h.notS k hf,rfl⟩)
theorem B7{xs:List D}(h:AC xs=false){c:Nat}{x:D}(hx:xs[c]? =some x):x.hasObj=false:=by
 induction xs generalizing c with
 | nil=>simp at hx
 | cons d ds ih=>
  simp only [AC,Bool.or_eq_false_iff]at h
  cases c with
  | zero=>simp at hx;subst hx;exact h.1
  | succ c=>simp at hx;exact ih h.2 hx
theorem Jg{d:D}(h:d.hasObj=false):d.isObj=false:=by cases d<;>simp_all [D.hasObj,D.isObj]
theorem Eu{p:A2}: ∀ {d x:D},d.hasObj=false→AX d p=some x→x.isObj=false:=by
 induction p with
 | nil=>intro d x h hp;simp only [AX,Option.some.injEq]at hp;subst hp;exact Jg h
 | cons c p ih=>
  intro d x h hp
  cases d<;>simp only [AX]at hp<;>try (cases hp;done)
  case own=>simp [D.hasObj]at h
  case box=>simp [D.hasObj]at h
  case agg xs=>
   simp only [D.hasObj]at h
   simp only [Option.bind_eq_some_iff]at hp
   obtain⟨y,hy,hp⟩:=hp
   exact ih (B7 h hy) hp
  case tup xs=>
   simp only [D.hasObj]at h
   simp only [Option.bind_eq_some_iff]at hp
   obtain⟨y,hy,hp⟩:=hp
   exact ih (B7 h hy) hp
theorem AI{α:Type}(f:Nat→α)(t:Nat)(d:α):F6 f t d t=d:=by simp [F6]
theorem AD{α:Type}(f:Nat→α){t u:Nat}(d:α)(h:u≠t):F6 f t d u=f u:=by simp [F6,h]
theorem Keeps.clr(s:St)(w:World)(rv:Nat→Value)(u:Nat):Keeps s w rv (s.clr u) w rv:=by
 refine⟨fun _=>Nat.le_refl _,fun _=>Nat.le_refl _,fun L n m _ hv=>⟨?_,rfl⟩⟩
 obtain⟨t,p,d,rfl,h1,h2,h3,h4⟩:=hv
 refine⟨t,p,d,rfl,h1,h2, ?_,h4⟩
 by_cases htu:t=u
 ·subst htu
  simp only [St.clr,AI]at h3
  have:=Eu (d:= .undef) rfl h3
  rw [h4]at this;cases this
 ·simpa [St.clr,AD _ _ htu] using h3
theorem Keeps.put(s:St)(w:World)(rv:Nat→Value)(u:Nat)(d:D)(v:Value):Keeps s w rv (s.put u d) w (F6 rv u v):=by
 unfold St.put
 split
 ·refine⟨fun t=> ?_,fun _=>Nat.le_refl _,fun L n m he hv=> ?_⟩
  ·by_cases h:t=u
   ·subst h;simp [AI]
   ·simp [AD _ _ h]
  ·obtain⟨t,p,x,rfl,h1,h2,h3,h4⟩:=hv
   by_cases h:t=u
   ·subst h
    simp only [AI]at h1
    have:=he.1
    simp only [List.headD_cons]at this
    omega
   ·simp only [AD _ _ h]at h1 h3
    exact⟨⟨t,p,x,rfl,h1,h2,h3,h4⟩,by simp [Be,AD _ _ h]⟩
 ·rename_i hd
  refine⟨fun _=>Nat.le_refl _,fun _=>Nat.le_refl _,fun L n m he hv=> ?_⟩
  obtain⟨t,p,x,rfl,h1,h2,h3,h4⟩:=hv
  by_cases h:t=u
  ·subst h
   simp only [AI]at h3
   have:=Eu (by simpa using hd) h3
   rw [h4]at this;cases this
  ·simp only [AD _ _ h]at h3
   exact⟨⟨t,p,x,rfl,h1,h2,h3,h4⟩,by simp [Be,AD _ _ h]⟩
theorem Rel.clr(h:Rel T s rv w S Fs)(u:Nat):Rel T (s.clr u) rv w S (F6 Fs u (fun _=>False)):=by
 refine⟨fun t=> ?_,fun t t' k hne=> ?_,h.lt⟩
 ·by_cases htu:t=u
  ·subst htu;simp only [St.clr,AI];exact .undef (fun _ h=>h)
  ·have:=(h.val t).same (Keeps.clr s w rv u)
   simpa [St.clr,AD _ _ htu] using this
 ·by_cases h1:t=u
  ·subst h1;simp [AI]
  ·by_cases h2:t'=u
   ·subst h2;simp [AI]
   ·simp only [AD _ _ h1,AD _ _ h2];exact h.disj t t' k hne
theorem Vs(s:St)(u:Nat)(d:D):(s.put u d).v=F6 s.v u d:=by unfold St.put;split<;>rfl
theorem Rel.put(h:Rel T s rv w S Fs)(u:Nat){d:D}{v:Value}{F:Nat→Prop}(hd:WR T s rv w S d v F)(hF: ∀t k,t≠u→F k→ ¬Fs t k):
  Rel T (s.put u d) (F6 rv u v) w S (F6 Fs u F):=by
 have hk:=Keeps.put s w rv u d v
 refine⟨fun t=> ?_,fun t t' k hne=> ?_,h.lt⟩
 ·rw [Vs]
  by_cases htu:t=u
  ·subst htu;simp only [AI];exact hd.same hk
  ·simp only [AD _ _ htu];exact(h.val t).same hk
 ·by_cases h1:t=u
  ·subst h1
   have h2:t'≠t:=fun e=>hne e.symm
   simp only [AI,AD _ _ h2]
   exact fun hf hg=>hF t' k h2 hf hg
  ·by_cases h2:t'=u
   ·subst h2
    simp only [AI,AD _ _ h1]
    exact fun hf hg=>hF t k h1 hg hf
   ·simp only [AD _ _ h1,AD _ _ h2];exact h.disj t t' k hne
theorem SF{p:A2}: ∀ {d x y:D},AX d p=some y→AX (CU d p x) p=some x:=by
 induction p with
 | nil=>intro d x y _;simp [AX,CU]
 | cons c p ih=>
  intro d x y h
  cases d<;>simp only [AX]at h<;>try (cases h;done)
  all_goals
   simp only [Option.bind_eq_some_iff]at h
   obtain⟨z,hz,h⟩:=h
   have hlt:=(List.getElem?_eq_some_iff.1 hz).1
   simp only [CU,AX,FC hz,List.getElem?_set,hlt,if_true,Option.bind_some]
   exact ih h
theorem ID{p:A2}: ∀ {d x y:D} {q:A2} {o:D},AX d p=some y→AX (CU d p x) q=some o→o.isObj=true→
  (∃r,q=p++r∧AX x r=some o)∨((∀r,q≠p++r)∧ ∃o',AX d q=some o'∧o'.isObj=true):=by
 induction p with
 | nil=>intro d x y q o _ h _;exact .inl ⟨q,rfl,by simpa [CU] using h⟩
 | cons c p ih=>
  intro d x y q o hp hq ho
  cases q with
  | nil=>
   refine .inr ⟨(fun r h=>by cases h), ?_⟩
   simp only [AX,Option.some.injEq]at hq
   refine⟨d,rfl, ?_⟩
   subst hq
   cases d<;>simp only [AX]at hp<;>try (cases hp;done)
   all_goals first | rfl | (simp [CU,D.isObj]at ho)
  | cons c' q=>
   cases d<;>simp only [AX]at hp<;>try (cases hp;done)
   all_goals
    simp only [Option.bind_eq_some_iff]at hp
    obtain⟨z,hz,hp⟩:=hp
    have hlt:=(List.getElem?_eq_some_iff.1 hz).1
    simp only [CU,AX,FC hz,List.getElem?_set]at hq
    by_cases hcc:c=c'
    ·subst hcc
     simp only [hlt,if_true,Option.bind_some]at hq
     rcases ih hp hq ho with⟨r,rfl,hr⟩ | ⟨hne,o',ho',hoo⟩
     ·exact .inl ⟨r,rfl,hr⟩
     ·exact .inr ⟨(fun r h=>hne r (by injection h)),o',by simp [AX,hz,ho'],hoo⟩
    ·simp only [hcc,if_false]at hq
     exact .inr ⟨(fun r h=>hcc (by injection h with h1 h2;exact h1.symm)),o,by simpa [AX] using hq,ho⟩
theorem Rel.focus(h:Rel T s rv w S Fs){t:Nat}{p:A2}{d:D}(hg:AX (s.v t) p=some d):
  ∃v F,Be w rv (t::p)=some v∧WR T s rv w S d v F∧(∀k,F k→Fs t k)∧
   (∀(w':World) (S':Nat→Prop) (s':St) (d':D) (F':Nat→Prop),s'.v=F6 s.v t (CU (s.v t) p d')→
    (∀k u,Fs u k→ ¬F k→w'.heap[k]? =w.heap[k]? ∧ ¬S' k∧ ¬F' k)→(∀k,S k→S' k∧w'.heap[k]? =w.heap[k]?)→(∀k,S' k→k<w'.heap.size)→
    Keeps s w rv s' w' rv→WR T s' rv w' S' d' v F'→
    Rel T s' rv w' S' (F6 Fs t (fun k=>(Fs t k∧ ¬F k)∨F' k)))∧
   (∀(w':World),(∀k,Fs t k→ ¬F k→w'.heap[k]? =w.heap[k]?)→ ∀(q:A2) (o:D),AX (s.v t) q=some o→ ¬Je p q→AH w' (rv t) q=AH w (rv t) q):=by
 obtain⟨v,F,hfo,hW,hsub,hset,hst⟩:=(h.val t).focus d hg
 refine⟨v,F,hfo,hW,hsub,fun w' S' s' d' F' hs' hr hS hlt hk hn=> ?_,hst⟩
 refine⟨fun u=> ?_,fun u u' k hne=> ?_,hlt⟩
 ·rw [hs']
  by_cases hut:u=t
  ·subst hut
   simp only [AI]
   exact hset w' S' _ _ d' F' (fun k hf hn=>hr k u hf hn) hS hk.VR hk.VpR hn
  ·simp only [AD _ _ hut]
   exact(h.val u).keep hk hS (fun k hf=>⟨(hr k u hf (fun hF=>h.disj u t k hut hf (hsub k hF))).2.1,(hr k u hf (fun hF=>h.disj u t k hut hf (hsub k hF))).1⟩)
 ·by_cases h1:u=t
  ·subst h1
   have h2:u'≠u:=fun e=>hne e.symm
   simp only [AI,AD _ _ h2]
   rintro(⟨hf,_⟩ | hf) hg
   ·exact h.disj u u' k hne hf hg
   ·exact(hr k u' hg (fun hF=>h.disj u' u k h2 hg (hsub k hF))).2.2 hf
  ·by_cases h2:u'=t
   ·subst h2
    simp only [AI,AD _ _ h1]
    rintro hf (⟨hg,_⟩ | hg)
    ·exact h.disj u u' k hne hf hg
    ·exact(hr k u hf (fun hF=>h.disj u u' k h1 hf (hsub k hF))).2.2 hg
   ·simp only [AD _ _ h1,AD _ _ h2];exact h.disj u u' k hne
end
end Dv
namespace Dv
open Go
mutual
theorem Gr: ∀(d d':D),BX d=some d'→d'.hasObj=false
 | .own e xs,d',h=>by
  simp only [BX,Option.map_eq_some_iff]at h;obtain⟨ys,_,rfl⟩:=h;rfl
 | .box xs,d',h=>by
  simp only [BX,Option.map_eq_some_iff]at h;obtain⟨ys,_,rfl⟩:=h;rfl
 | .agg xs,d',h=>by
  simp only [BX,Option.map_eq_some_iff]at h;obtain⟨ys,hy,rfl⟩:=h;exact Fv xs ys hy
 | .tup xs,d',h=>by
  simp only [BX,Option.map_eq_some_iff]at h;obtain⟨ys,hy,rfl⟩:=h;exact Fv xs ys hy
 | .vw _ _ _,d',h=>by simp [BX]at h
 | .pe _ _ _ _,d',h=>by simp [BX]at h
 | .vs _ _ _ _ _ _,d',h=>by simp [BX]at h
 | .undef,d',h=>by simp [BX]at h
 | .int k n,d',h=>by simp [BX]at h;subst h;rfl
 | .bool b,d',h=>by simp [BX]at h;subst h;rfl
 | .str s,d',h=>by simp [BX]at h;subst h;rfl
 | .konst v,d',h=>by simp [BX]at h;subst h;rfl
 | .sl e xs,d',h=>by simp [BX]at h;subst h;rfl
 | .clo f xs,d',h=>by simp [BX]at h;subst h;rfl
 | .cptr xs,d',h=>by simp [BX]at h;subst h;rfl
theorem Fv: ∀(xs ys:List D),B5 xs=some ys→AC ys=false
 | [],ys,h=>by simp [B5]at h;subst h;rfl
 | d::ds,ys,h=>by
  simp only [B5,Option.bind_eq_some_iff,Option.map_eq_some_iff]at h
  obtain⟨d',hd,ds',hds,rfl⟩:=h
  simp only [AC,Gr d d' hd,Fv ds ds' hds,Bool.or_self]
end
section
variable {T:Tys} {s s':St} {rv rv':Nat→Value} {w w':World} {S S':Nat→Prop} {Fs Fs':Nat→Nat→Prop}
theorem BQ{pm:Pm}{L:A2}{n m:Nat}{c:D}(h:s.look pm L n m=some c):
  ∃t p,L=t::p∧AX (s.v t) p=some c∧c.isObj=true∧NR s L n m:=by
 unfold St.look at h
 cases L with
 | nil=>simp at h
 | cons t p=>
  simp only at h
  split at h
  ·rename_i hc
   simp only [Bool.and_eq_true,beq_iff_eq,Bool.or_eq_true,List.isEmpty_iff]at hc
   obtain⟨⟨_,hk⟩,hm⟩:=hc
   split at h
   ·rename_i e xs hg
    simp only [Option.some.injEq]at h;subst h
    exact⟨t,p,rfl,hg,rfl,t,p,_,rfl,hk,hm,hg,rfl⟩
   ·rename_i xs hg
    simp only [Option.some.injEq]at h;subst h
    exact⟨t,p,rfl,hg,rfl,t,p,_,rfl,hk,hm,hg,rfl⟩
   ·cases h
  ·cases h
theorem NS{s:St}{pm:Pm}{L:A2}{n m:Nat}{c:D}(h:s.look pm L n m=some c):(∃e xs,c= .own e xs)∨ ∃xs,c= .box xs:=by
 unfold St.look at h
 cases L with
 | nil=>simp at h
 | cons t p=>
  simp only at h
  split at h
  ·split at h
   ·injection h with h;exact .inl ⟨_,_,h.symm⟩
   ·injection h with h;exact .inr ⟨_,h.symm⟩
   ·cases h
  ·cases h
theorem Keeps.set0{t:Nat}{p:A2}{x y:D}(hg:AX (s.v t) p=some y)(hx:x.hasObj=false):Keeps s w rv (s.set (t::p) x) w rv:=by
 refine⟨fun _=>Nat.le_refl _,fun _=>Nat.le_refl _,fun L n m _ hv=>⟨?_,rfl⟩⟩
 obtain⟨t',q,o,rfl,h1,h2,h3,h4⟩:=hv
 by_cases htt:t'=t
 ·subst htt
  simp only [St.set,AI]at h3
  rcases ID hg h3 h4 with⟨r,rfl,hr⟩ | ⟨_,o',ho',hoo⟩
  ·have:=Eu hx hr;rw [h4]at this;cases this
  ·exact⟨t',q,o',rfl,h1,h2,ho',hoo⟩
 ·simp only [St.set,AD _ _ htt]at h3
  exact⟨t',q,o,rfl,h1,h2,h3,h4⟩
structure Hand(T:Tys)(s:St)(rv:Nat→Value)(w:World)(S:Nat→Prop)(Fs:Nat→Nat→Prop)(d:D)(v:Value)(F:Nat→Prop):Prop where
 val:WR T s rv w S d v F
 apart: ∀t k,F k→ ¬Fs t k
structure Sub(S:Nat→Prop)(Fs:Nat→Nat→Prop)(S':Nat→Prop)(Fs':Nat→Nat→Prop)(F:Nat→Prop):Prop where
 sS: ∀k,S k→S' k
 sS': ∀k,S' k→S k∨ ∃u,Fs u k
 sF: ∀u k,Fs' u k→Fs u k
 sH: ∀k,F k→ ∃u,Fs u k
theorem NT{pm:Pm}{L:A2}{n m:Nat}{d:D}{v:Value}(h:Rel T s rv w S Fs)(hp:JU pm s L n m=some (d,s'))(hv:VR s w rv L n m v):
  ∃S' Fs' F,Rel T s' rv w S' Fs'∧Hand T s' rv w S' Fs' d v F∧Keeps s w rv s' w rv∧Sub S Fs S' Fs' F:=by
 unfold JU at hp
 cases hl:s.look pm L n m with
 | none=>simp [hl]at hp
 | some c=>
  simp only [hl]at hp
  obtain⟨t,p,rfl,hg,hobj,hval⟩:=BQ hl
  have hfo:=hv.2 hval
  obtain⟨v',F,hfo',hW,hsub,hset,_⟩:=h.focus hg
  rw [hfo]at hfo'
  injection hfo' with hfo'
  subst hfo'
  split at hp
  ·simp only [Option.some.injEq,Prod.mk.injEq]at hp
   obtain⟨rfl,rfl⟩:=hp
   have hk:=Keeps.set0 (w:=w) (rv:=rv) (x:= .undef) hg rfl
   refine⟨S,F6 Fs t (fun k=>(Fs t k∧ ¬F k)∨False),F, ?_,⟨hW.same hk, ?_⟩,hk,⟨fun _ h=>h,fun k h=> .inl h, ?_,fun k hk=>⟨t,hsub k hk⟩⟩⟩
   ·exact hset w S _ .undef (fun _=>False) rfl (fun k u hu hn=>⟨rfl,(h.val u).notS k hu,id⟩) (fun k hk=>⟨hk,rfl⟩) h.lt hk (.undef (fun _ h=>h))
   ·intro u k hf hu
    by_cases hut:u=t
    ·subst hut;simp only [AI,or_false]at hu;exact hu.2 hf
    ·rw [AD _ _ hut]at hu;exact h.disj u t k hut hu (hsub k hf)
   ·intro u k hu
    by_cases hut:u=t
    ·subst hut;simp only [AI,or_false]at hu;exact hu.1
    ·simpa [AD _ _ hut] using hu
  ·cases hp
theorem Jh{pm:Pm}{L:A2}{n m:Nat}{d:D}{v:Value}(h:Rel T s rv w S Fs)(hp:GJ pm s L n m=some (d,s'))(hv:VR s w rv L n m v):
  ∃S' Fs' F,Rel T s' rv w S' Fs'∧Hand T s' rv w S' Fs' d v F∧Keeps s w rv s' w rv∧Sub S Fs S' Fs' F:=by
 unfold GJ at hp
 cases hl:s.look pm L n m with
 | none=>simp [hl]at hp
 | some c=>
  simp only [hl]at hp
  obtain⟨t,p,rfl,hg,hobj,hval⟩:=BQ hl
  have hfo:=hv.2 hval
  obtain⟨v',F,hfo',hW,hsub,hset,_⟩:=h.focus hg
  rw [hfo]at hfo'
  injection hfo' with hfo'
  subst hfo'
  split at hp
  ·split at hp
   ·simp only [Option.map_eq_some_iff,Prod.mk.injEq]at hp
    obtain⟨c',hc',rfl,rfl⟩:=hp
    have hno:=Gr c c' hc'
    have hk:=Keeps.set0 (w:=w) (rv:=rv) hg hno
    refine⟨fun k=>S k∨F k,F6 Fs t (fun k=>(Fs t k∧ ¬F k)∨False),fun _=>False, ?_,⟨?_,fun _ _ h=>h.elim⟩,hk,⟨fun k h=> .inl h, ?_, ?_,fun _ h=>h.elim⟩⟩
    ·refine hset w _ _ c' (fun _=>False) rfl (fun k u hu hn=>⟨rfl, ?_,id⟩) (fun k hk=>⟨.inl hk,rfl⟩) ?_ hk ?_
     ·rintro(hs | hf)
      ·exact(h.val u).notS k hu hs
      ·exact hn hf
     ·rintro k (hs | hf)
      ·exact h.lt k hs
      ·exact hW.lt k hf
     ·exact(hW.freeze c' hc' (fun k hk=> .inr hk) (fun k hk=> .inl hk)).up
    ·exact(hW.freeze c' hc' (fun k hk=> .inr hk) (fun k hk=> .inl hk)).up
    ·rintro k (hs | hf)
     ·exact .inl hs
     ·exact .inr ⟨t,hsub k hf⟩
    ·intro u k hu
     by_cases hut:u=t
     ·subst hut;simp only [AI,or_false]at hu;exact hu.1
     ·simpa [AD _ _ hut] using hu
   ·simp only [Option.some.injEq,Prod.mk.injEq]at hp
    obtain⟨rfl,rfl⟩:=hp
    have hk:=Keeps.set0 (w:=w) (rv:=rv) (x:= .undef) hg rfl
    refine⟨S,F6 Fs t (fun k=>(Fs t k∧ ¬F k)∨False),F, ?_,⟨hW.same hk, ?_⟩,hk,⟨fun _ h=>h,fun k h=> .inl h, ?_,fun k hk=>⟨t,hsub k hk⟩⟩⟩
    ·exact hset w S _ .undef (fun _=>False) rfl (fun k u hu hn=>⟨rfl,(h.val u).notS k hu,id⟩) (fun k hk=>⟨hk,rfl⟩) h.lt hk (.undef (fun _ h=>h))
    ·intro u k hf hu
     by_cases hut:u=t
     ·subst hut;simp only [AI,or_false]at hu;exact hu.2 hf
     ·rw [AD _ _ hut]at hu;exact h.disj u t k hut hu (hsub k hf)
    ·intro u k hu
     by_cases hut:u=t
     ·subst hut;simp only [AI,or_false]at hu;exact hu.1
     ·simpa [AD _ _ hut] using hu
  ·cases hp
theorem Hand.keep{d:D}{v:Value}{F:Nat→Prop}(h:Hand T s rv w S Fs d v F)(hk:Keeps s w rv s' w rv)(hS: ∀k,S k→S' k)(hF: ∀k,F k→ ¬S' k)(ha: ∀t k,F k→ ¬Fs' t k):
  Hand T s' rv w S' Fs' d v F:=
 ⟨h.val.keep hk (fun k hk=>⟨hS k hk,rfl⟩) (fun k hf=>⟨hF k hf,rfl⟩),ha⟩
end
end Dv
namespace Dv
open Go
structure Tk(S:Nat→Prop)(Fs:Nat→Nat→Prop)(F:Nat→Prop)(S':Nat→Prop)(Fs':Nat→Nat→Prop)(F':Nat→Prop):Prop where
 sS: ∀k,S k→S' k
 sS': ∀k,S' k→S k∨(∃u,Fs u k)∨F k
 sF: ∀u k,Fs' u k→Fs u k
 sH: ∀k,F' k→F k∨ ∃u,Fs u k
theorem Tk.refl(S:Nat→Prop)(Fs:Nat→Nat→Prop)(F:Nat→Prop):Tk S Fs F S Fs F:=
 ⟨fun _ h=>h,fun _ h=> .inl h,fun _ _ h=>h,fun _ h=> .inl h⟩
mutual
theorem DJ{T:Tys}{rv:Nat→Value}{w:World}{pm:Pm}: ∀(d:D) {s s':St} {d':D} {v:Value} {S:Nat→Prop} {Fs:Nat→Nat→Prop} {F:Nat→Prop},
  Af pm s d=some (d',s')→Rel T s rv w S Fs→Hand T s rv w S Fs d v F→
  ∃S' Fs' F',Rel T s' rv w S' Fs'∧Hand T s' rv w S' Fs' d' v F'∧Keeps s w rv s' w rv∧Tk S Fs F S' Fs' F'
 | .vw L n m,s,s',d',v,S,Fs,F,ht,h,hh=>by
  simp only [Af]at ht
  cases hh.val with
  | vw hE hv=>
   obtain⟨S',Fs',F',h1,h2,h3,h4⟩:=Jh h ht hv
   exact⟨S',Fs',F',h1,h2,h3,h4.sS,fun k hk=>(h4.sS' k hk).imp id .inl,h4.sF,fun k hk=> .inr (h4.sH k hk)⟩
 | .agg xs,s,s',d',v,S,Fs,F,ht,h,hh=>by
  simp only [Af,Option.map_eq_some_iff,Prod.mk.injEq]at ht
  obtain⟨⟨ys,s1⟩,hy,rfl,rfl⟩:=ht
  cases hh.val with
  | agg us Fi hz hx hF hd hw=>
   obtain⟨S',Fs',Gi,h1,h2,h3,h4,h5,h6,h7,h8,h9,h10⟩:=Fw xs hy h us Fi hw (fun i t k hi hf=>hh.apart t k ((hF k).2 ⟨i,hi,hf⟩)) hd
   refine⟨S',Fs',fun k=> ∃i,i<ys.length∧Gi i k,h1,⟨.agg us Gi (by rw [h2];exact hz) (fun i y hy=> ?_) (fun _=>Iff.rfl) (fun i j k hi hj=>h5 i j k hi hj) h3,fun t k ⟨i,hi,hg⟩=>h4 i t k hi hg⟩,h6,h7, ?_,h9, ?_⟩
   ·have hlt:i<ys.length:=(List.getElem?_eq_some_iff.1 hy).1
    exact hx i _ (List.getElem?_eq_getElem (by omega))
   ·intro k hk
    rcases h8 k hk with hk | hk | ⟨i,hi,hk⟩
    ·exact .inl hk
    ·exact .inr (.inl hk)
    ·exact .inr (.inr ((hF k).2 ⟨i,hi,hk⟩))
   ·rintro k ⟨i,hi,hg⟩
    rcases h10 i k hi hg with hf | hf
    ·exact .inl ((hF k).2 ⟨i,by omega,hf⟩)
    ·exact .inr hf
 | .own e xs,s,s',d',v,S,Fs,F,ht,h,hh=>by
  simp only [Af,Option.some.injEq,Prod.mk.injEq]at ht;obtain⟨rfl,rfl⟩:=ht
  exact⟨S,Fs,F,h,hh,Keeps.refl _ _ _,Tk.refl _ _ _⟩
 | .box xs,s,s',d',v,S,Fs,F,ht,h,hh=>by
  simp only [Af,Option.some.injEq,Prod.mk.injEq]at ht;obtain⟨rfl,rfl⟩:=ht
  exact⟨S,Fs,F,h,hh,Keeps.refl _ _ _,Tk.refl _ _ _⟩
 | .int k n,s,s',d',v,S,Fs,F,ht,h,hh=>by
  simp only [Af,Option.some.injEq,Prod.mk.injEq]at ht;obtain⟨rfl,rfl⟩:=ht
  exact⟨S,Fs,F,h,hh,Keeps.refl _ _ _,Tk.refl _ _ _⟩
 | .bool b,s,s',d',v,S,Fs,F,ht,h,hh=>by
  simp only [Af,Option.some.injEq,Prod.mk.injEq]at ht;obtain⟨rfl,rfl⟩:=ht
  exact⟨S,Fs,F,h,hh,Keeps.refl _ _ _,Tk.refl _ _ _⟩
 | .str x,s,s',d',v,S,Fs,F,ht,h,hh=>by
  simp only [Af,Option.some.injEq,Prod.mk.injEq]at ht;obtain⟨rfl,rfl⟩:=ht
  exact⟨S,Fs,F,h,hh,Keeps.refl _ _ _,Tk.refl _ _ _⟩
 | .konst x,s,s',d',v,S,Fs,F,ht,h,hh=>by
  have:d'= .konst x∧s'=s:=by
   cases x<;>simp_all [Af]
  obtain⟨rfl,rfl⟩:=this
  exact⟨S,Fs,F,h,hh,Keeps.refl _ _ _,Tk.refl _ _ _⟩
 | .sl e xs,s,s',d',v,S,Fs,F,ht,h,hh=>by
  simp only [Af,Option.some.injEq,Prod.mk.injEq]at ht;obtain⟨rfl,rfl⟩:=ht
  exact⟨S,Fs,F,h,hh,Keeps.refl _ _ _,Tk.refl _ _ _⟩
 | .clo f xs,s,s',d',v,S,Fs,F,ht,h,hh=>by
  simp only [Af,Option.some.injEq,Prod.mk.injEq]at ht;obtain⟨rfl,rfl⟩:=ht
  exact⟨S,Fs,F,h,hh,Keeps.refl _ _ _,Tk.refl _ _ _⟩
 | .cptr xs,s,s',d',v,S,Fs,F,ht,h,hh=>by
  simp only [Af,Option.some.injEq,Prod.mk.injEq]at ht;obtain⟨rfl,rfl⟩:=ht
  exact⟨S,Fs,F,h,hh,Keeps.refl _ _ _,Tk.refl _ _ _⟩
 | .undef,s,s',d',v,S,Fs,F,ht,h,hh=>by simp [Af]at ht
 | .tup _,s,s',d',v,S,Fs,F,ht,h,hh=>by simp [Af]at ht
 | .pe _ _ _ _,s,s',d',v,S,Fs,F,ht,h,hh=>by simp [Af]at ht
 | .vs _ _ _ _ _ _,s,s',d',v,S,Fs,F,ht,h,hh=>by simp [Af]at ht
theorem Fw{T:Tys}{rv:Nat→Value}{w:World}{pm:Pm}: ∀(xs:List D) {s s':St} {ys:List D} {S:Nat→Prop} {Fs:Nat→Nat→Prop},
  C6 pm s xs=some (ys,s')→Rel T s rv w S Fs→ ∀(us:Nat→Value) (Fi:Nat→Nat→Prop),(∀i x,xs[i]? =some x→WR T s rv w S x (us i) (Fi i))→
  (∀i t k,i<xs.length→Fi i k→ ¬Fs t k)→(∀i j k,i<xs.length→j<xs.length→i≠j→Fi i k→ ¬Fi j k)→
  ∃(S':Nat→Prop) (Fs' Gi:Nat→Nat→Prop),Rel T s' rv w S' Fs'∧ys.length=xs.length∧(∀i y,ys[i]? =some y→WR T s' rv w S' y (us i) (Gi i))∧
   (∀i t k,i<ys.length→Gi i k→ ¬Fs' t k)∧(∀i j k,i<ys.length→j<ys.length→i≠j→Gi i k→ ¬Gi j k)∧Keeps s w rv s' w rv∧
   (∀k,S k→S' k)∧(∀k,S' k→S k∨(∃u,Fs u k)∨ ∃i,i<xs.length∧Fi i k)∧(∀u k,Fs' u k→Fs u k)∧(∀i k,i<ys.length→Gi i k→Fi i k∨ ∃u,Fs u k)
 | [],s,s',ys,S,Fs,ht,h,us,Fi,hw,hap,hd=>by
  simp only [C6,Option.some.injEq,Prod.mk.injEq]at ht;obtain⟨rfl,rfl⟩:=ht
  exact⟨S,Fs,fun _ _=>False,h,rfl,by simp,by simp,by simp,Keeps.refl _ _ _,fun _ h=>h,fun _ h=> .inl h,fun _ _ h=>h,by simp⟩
 | d::ds,s,s',ys,S,Fs,ht,h,us,Fi,hw,hap,hd=>by
  simp only [C6,Option.bind_eq_some_iff,Option.map_eq_some_iff,Prod.mk.injEq]at ht
  obtain⟨⟨d',s1⟩,hd1,⟨ds',s2⟩,hds,rfl,rfl⟩:=ht
  obtain⟨S1,Fs1,F1,r1,hh1,k1,t1⟩:=DJ d hd1 h ⟨hw 0 d rfl,fun t k hf=>hap 0 t k (by simp) hf⟩
  have htail: ∀i x,ds[i]? =some x→WR T s1 rv w S1 x (us (i+1)) (Fi (i+1)):=fun i x hx=>by
   have hlt:=(List.getElem?_eq_some_iff.1 hx).1
   have h0:=hw (i+1) x (by simpa using hx)
   refine h0.keep k1 (fun k hk=>⟨t1.sS k hk,rfl⟩) (fun k hf=>⟨fun hs=> ?_,rfl⟩)
   rcases t1.sS' k hs with hs | ⟨u,hu⟩ | hf0
   ·exact h0.notS k hf hs
   ·exact hap (i+1) u k (by simp;omega) hf hu
   ·exact hd (i+1) 0 k (by simp;omega) (by simp) (by omega) hf hf0
  obtain⟨S2,Fs2,Gi,r2,hl,hg,hga,hgd,k2,q1,q2,q3,q4⟩:=Fw ds hds r1 (fun i=>us (i+1)) (fun i=>Fi (i+1)) htail
   (fun i t k hi hf hu=>hap (i+1) t k (by simp;omega) hf (t1.sF t k hu)) (fun i j k hi hj hij=>hd (i+1) (j+1) k (by simp;omega) (by simp;omega) (by omega))
  have hF1: ∀i k,i<ds.length→F1 k→ ¬Fi (i+1) k:=fun i k hi hf hf'=>by
   rcases t1.sH k hf with hf | ⟨u,hu⟩
   ·exact hd 0 (i+1) k (by simp) (by simp;omega) (by omega) hf hf'
   ·exact hap (i+1) u k (by simp;omega) hf' hu
  refine⟨S2,Fs2,fun i=>match i with | 0=>F1 | i+1=>Gi i,r2,by simp [hl],fun i y hy=> ?_,fun i t k hi hg'=> ?_,fun i j k hi hj hij=> ?_,k1.trans k2,fun k hk=>q1 k (t1.sS k hk),fun k hk=> ?_,fun u k hu=>t1.sF u k (q3 u k hu),fun i k hi hg'=> ?_⟩
  ·cases i with
   | zero=>
    simp at hy;subst hy
    refine hh1.val.keep k2 (fun k hk=>⟨q1 k hk,rfl⟩) (fun k hf=>⟨fun hs=> ?_,rfl⟩)
    rcases q2 k hs with hs | ⟨u,hu⟩ | ⟨i,hi,hf'⟩
    ·exact hh1.val.notS k hf hs
    ·exact hh1.apart u k hf hu
    ·exact hF1 i k hi hf hf'
   | succ i=>simp at hy;exact hg i y hy
  ·cases i with
   | zero=>exact fun hu=>hh1.apart t k hg' (q3 t k hu)
   | succ i=>simp at hi;exact hga i t k (by omega) hg'
  ·cases i with
   | zero=>
    cases j with
    | zero=>exact absurd rfl hij
    | succ j=>
     simp at hj
     intro hf hg'
     rcases q4 j k (by omega) hg' with hf' | ⟨u,hu⟩
     ·exact hF1 j k (by omega) hf hf'
     ·exact hh1.apart u k hf hu
   | succ i=>
    simp at hi
    cases j with
    | zero=>
     intro hg' hf
     rcases q4 i k (by omega) hg' with hf' | ⟨u,hu⟩
     ·exact hF1 i k (by omega) hf hf'
     ·exact hh1.apart u k hf hu
    | succ j=>simp at hj;exact hgd i j k (by omega) (by omega) (by omega)
  ·rcases q2 k hk with hs | ⟨u,hu⟩ | ⟨i,hi,hf⟩
   ·rcases t1.sS' k hs with hs | hu | hf
    ·exact .inl hs
    ·exact .inr (.inl hu)
    ·exact .inr (.inr ⟨0,by simp,hf⟩)
   ·exact .inr (.inl ⟨u,t1.sF u k hu⟩)
   ·exact .inr (.inr ⟨i+1,by simp;omega,hf⟩)
  ·cases i with
   | zero=>exact t1.sH k hg'
   | succ i=>
    simp at hi
    rcases q4 i k (by omega) hg' with hf | ⟨u,hu⟩
    ·exact .inl hf
    ·exact .inr ⟨u,t1.sF u k hu⟩
end
theorem Ei{T:Tys}{S:Nat→Prop}{w:World}{V:A2→Nat→Nat→Value→Prop}{Vp:A2→Nat→Nat→Nat→Value→Prop}{d:D}{v:Value}{F:Nat→Prop}
  (h:W T S w V Vp d v F)(hs:Ai d=true):v.oneCell'=true∧v.cells= #[v]:=by
 cases h<;>first
  | exact⟨rfl,rfl⟩
  | (simp [Ai]at hs;done)
  | (rename_i hE;cases v<;>simp_all [Ai,Value.oneCell',Value.cells])
theorem P6{pm:Pm}{s s':St}{L:A2}{n m:Nat}{d:D}(h:GJ pm s L n m=some (d,s')):Ai d=true:=by
 unfold GJ at h
 cases hl:s.look pm L n m with
 | none=>simp [hl]at h
 | some c=>
  simp only [hl]at h
  obtain⟨t,p,rfl,hg,hobj,_⟩:=BQ hl
  split at h
  ·split at h
   ·simp only [Option.map_eq_some_iff,Prod.mk.injEq]at h
    obtain⟨c',hc',rfl,_⟩:=h
    rcases NS hl with⟨e,xs,rfl⟩ | ⟨xs,rfl⟩
    ·simp only [BX,Option.map_eq_some_iff]at hc';obtain⟨ys,_,rfl⟩:=hc';rfl
    ·simp only [BX,Option.map_eq_some_iff]at hc';obtain⟨ys,_,rfl⟩:=hc';rfl
   ·simp only [Option.some.injEq,Prod.mk.injEq]at h
    obtain⟨rfl,_⟩:=h
    rcases NS hl with⟨e,xs,rfl⟩ | ⟨xs,rfl⟩<;>rfl
  ·cases h
theorem GO{pm:Pm}{s s':St}{d d':D}(h:Af pm s d=some (d',s')):Ai d'=true∨ ∃xs,d'= .agg xs:=by
 cases d<;>simp only [Af]at h
 case vw=>exact .inl (P6 h)
 case agg=>
  simp only [Option.map_eq_some_iff,Prod.mk.injEq]at h
  obtain⟨q,_,rfl,_⟩:=h
  exact .inr ⟨_,rfl⟩
 case konst x=>
  refine .inl ?_
  cases x<;>simp_all<;>(obtain⟨rfl,_⟩:=h;rfl)
 all_goals first
  | (cases h;done)
  | (simp only [Option.some.injEq,Prod.mk.injEq]at h;obtain⟨rfl,_⟩:=h;exact .inl rfl)
end Dv
namespace Dv
open Go
def AJ(a:Act)(gh:Nat→Value)(t:Nat):Value:=if t<G then a.tmps.getD t undef else gh (t-G)
structure Step(w:World)(S:Nat→Prop)(Fs:Nat→Nat→Prop)(w':World)(S':Nat→Prop)(Fs':Nat→Nat→Prop):Prop where
 os:w'.os=w.os
 tape:w'.tape=w.tape
 output:w'.output=w.output
 size:w.heap.size≤w'.heap.size
 heap: ∀k,k<w.heap.size→(∀u,¬Fs u k)→w'.heap[k]? =w.heap[k]?
 sS: ∀k,S k→S' k
 sS': ∀k,S' k→S k∨(∃u,Fs u k)∨w.heap.size≤k
 sF: ∀u k,Fs' u k→(∃u,Fs u k)∨w.heap.size≤k
theorem Step.refl(w:World)(S:Nat→Prop)(Fs:Nat→Nat→Prop):Step w S Fs w S Fs:=
 ⟨rfl,rfl,rfl,Nat.le_refl _,fun _ _ _=>rfl,fun _ h=>h,fun _ h=> .inl h,fun u _ h=> .inl ⟨u,h⟩⟩
theorem Step.trans{w w' w'':World}{S S' S'':Nat→Prop}{Fs Fs' Fs'':Nat→Nat→Prop}(h:Step w S Fs w' S' Fs')(g:Step w' S' Fs' w'' S'' Fs''):Step w S Fs w'' S'' Fs'':=by
 refine⟨g.os.trans h.os,g.tape.trans h.tape,g.output.trans h.output,Nat.le_trans h.size g.size,fun k hk hn=> ?_,fun k hk=>g.sS k (h.sS k hk),fun k hk=> ?_,fun u k hu=> ?_⟩
 ·refine(g.heap k (Nat.lt_of_lt_of_le hk h.size) (fun u hu=> ?_)).trans (h.heap k hk hn)
  rcases h.sF u k hu with⟨u',hu'⟩ | hge
  ·exact hn u' hu'
  ·omega
 ·rcases g.sS' k hk with hk | ⟨u,hu⟩ | hge
  ·exact h.sS' k hk
  ·exact .inr (h.sF u k hu)
  ·have:=h.size;exact .inr (.inr (by omega))
 ·rcases g.sF u k hu with⟨u',hu'⟩ | hge
  ·exact h.sF u' k hu'
  ·have:=h.size;exact .inr (by omega)
theorem Step.of_sub{w:World}{S S':Nat→Prop}{Fs Fs':Nat→Nat→Prop}(h1: ∀k,S k→S' k)(h2: ∀k,S' k→S k∨ ∃u,Fs u k)(h3: ∀u k,Fs' u k→ ∃u,Fs u k):Step w S Fs w S' Fs':=
 ⟨rfl,rfl,rfl,Nat.le_refl _,fun _ _ _=>rfl,h1,fun k hk=>(h2 k hk).imp id .inl,fun u k hu=> .inl (h3 u k hu)⟩
def Ay(T:Tys)(gh:Nat→Value)(N:Nat)(s':St)(w:World)(S:Nat→Prop)(Fs:Nat→Nat→Prop)(a':Act)(w':World):Prop:=
 ∃S' Fs',Rel T s' (AJ a' gh) w' S' Fs'∧Step w S Fs w' S' Fs'∧a'.defers=[]∧a'.tmps.size=N
section
variable {T:Tys} {s s':St} {gh:Nat→Value} {a:Act} {w w':World} {S S':Nat→Prop} {Fs Fs':Nat→Nat→Prop} {N:Nat}
theorem SG(hN:a.tmps.size=N){t:Nat}(ht:t<N)(hG:N≤G)(v:Value):AJ (a.put (some t) v) gh=F6 (AJ a gh) t v:=by
 funext u
 unfold AJ Act.put F6
 by_cases hu:u=t
 ·subst hu
  have:u<G:=by omega
  have h2:u<a.tmps.size:=by omega
  simp [this,Array.getD,h2]
 ·by_cases h2:u<G
  ·simp only [h2,if_true,hu,if_false]
   simp only [Array.getD_eq_getD_getElem?]
   rw [Array.getElem?_setIfInBounds_ne (Ne.symm hu)]
  ·simp [h2,hu]
theorem Ar{w0:World}{S0:Nat→Prop}{Fs0:Nat→Nat→Prop}{d:D}{v:Value}{F:Nat→Prop}{dst:Option Tmp}(h:Rel T s (AJ a gh) w S Fs)
  (hd:WR T s (AJ a gh) w S d v F)(hF: ∀t k,some t≠dst→F k→ ¬Fs t k)(hst:Step w0 S0 Fs0 w S Fs)(hFn: ∀k,F k→(∃u,Fs0 u k)∨w0.heap.size≤k)
  (hdef:a.defers=[])(hN:a.tmps.size=N)(hG:N≤G)(hdst: ∀t,dst=some t→t<N):Ay T gh N (s.putO dst d) w0 S0 Fs0 (a.put dst v) w:=by
 cases dst with
 | none=>exact⟨S,Fs,h,hst,hdef,hN⟩
 | some t=>
  refine⟨S,F6 Fs t F, ?_, ?_,by simpa [Act.put] using hdef,by simpa [Act.put] using hN⟩
  ·rw [SG hN (hdst t rfl) hG]
   exact h.put t hd (fun u k hu=>hF u k (fun e=>hu (by injection e)))
  ·refine⟨hst.os,hst.tape,hst.output,hst.size,hst.heap,hst.sS,hst.sS',fun u k hu=> ?_⟩
   by_cases hut:u=t
   ·subst hut;simp only [AI]at hu;exact hFn k hu
   ·rw [AD _ _ hut]at hu;exact hst.sF u k hu
theorem BF{V:A2→Nat→Nat→Value→Prop}{Vp:A2→Nat→Nat→Nat→Value→Prop}{d:D}{v:Value}{F:Nat→Prop}(h:W T S w V Vp d v F):d.hasObj=false→Em F:=by
 induction h with
 | own=>intro h;simp [D.hasObj]at h
 | own0 h=>intro _;exact h
 | box=>intro h;simp [D.hasObj]at h
 | mp=>intro h;simp [D.hasObj]at h
 | agg us Fi hz hx hF hd hw ih=>
  intro h k hk
  obtain⟨i,hi,hf⟩:=(hF k).1 hk
  exact ih i _ (List.getElem?_eq_getElem hi) (B7 (by simpa [D.hasObj] using h) (List.getElem?_eq_getElem hi)) k hf
 | tup us Fi hz hx hF hd hw ih=>
  intro h k hk
  obtain⟨i,hi,hf⟩:=(hF k).1 hk
  exact ih i _ (List.getElem?_eq_getElem hi) (B7 (by simpa [D.hasObj] using h) (List.getElem?_eq_getElem hi)) k hf
 | undef h=>intro _;exact h
 | int h=>intro _;exact h
 | bool h=>intro _;exact h
 | str h=>intro _;exact h
 | konst h=>intro _;exact h
 | sl us h=>intro _;exact h
 | cptr us h=>intro _;exact h
 | clo us h=>intro _;exact h
 | ocl us h=>intro _;exact h
 | vw h=>intro _;exact h
 | pe h=>intro _;exact h
 | vs h=>intro _;exact h
def AW(N:Nat):Operand→Prop
 | .tmp u=>u<N
 | _=>True
theorem Bs(hG:N≤G){u:Nat}(hu:u<N):a.eval (.tmp u)=AJ a gh u:=by
 have:u<G:=by omega
 simp [Act.eval,AJ,this]
theorem SH{V:A2→Nat→Nat→Value→Prop}{Vp:A2→Nat→Nat→Nat→Value→Prop}{t:TypeId}{v:Value}{d:D}(h:HA T t v=some d):W T S w V Vp d v (fun _=>False):=by
 have hE:Em (fun _:Nat=>False):=fun _ h=>h
 unfold HA at h
 split at h<;>try (simp only [Option.some.injEq]at h;subst h)
 ·exact .int hE
 ·exact .bool hE
 ·exact .str hE
 ·split at h
  ·simp only [Option.some.injEq]at h;subst h;exact .own0 hE
  ·simp only [Option.some.injEq]at h;subst h;exact .konst hE
  ·cases h
 ·exact .konst hE
 ·exact .konst hE
 ·exact .konst hE
 ·cases h
def SI(Fs:Nat→Nat→Prop):Operand→Nat→Prop
 | .tmp u=>Fs u
 | _=>fun _=>False
theorem CH(h:Rel T s (AJ a gh) w S Fs)(hG:N≤G){t:TypeId}{x:Operand}(hx:AW N x){d:D}(he:ev T s t x=some d):
  WR T s (AJ a gh) w S d (a.eval x) (SI Fs x):=by
 cases x with
 | tmp u=>
  simp only [ev,Option.some.injEq]at he;subst he
  rw [Bs (gh:=gh) hG hx];exact h.val u
 | const v=>exact SH he
 | func f=>
  simp only [ev,Option.some.injEq]at he;subst he
  exact .clo (fun _=> .bool false) (fun _ h=>h) rfl (by simp) (by simp)
 | global g=>simp [ev]at he
theorem Cl{pm:Pm}(h:Rel T s (AJ a gh) w S Fs)(hG:N≤G){t:TypeId}{x:Operand}(hx:AW N x){d:D}(ht:take T pm s t x=some (d,s')):
  ∃S' Fs' F,Rel T s' (AJ a gh) w S' Fs'∧Hand T s' (AJ a gh) w S' Fs' d (a.eval x) F∧Keeps s w (AJ a gh) s' w (AJ a gh)∧Step w S Fs w S' Fs'∧(∀k,F k→ ∃u,Fs u k)∧(∀u k,Fs' u k→Fs u k):=by
 unfold take at ht
 cases he:ev T s t x with
 | none=>simp [he]at ht
 | some d0=>
  simp only [he]at ht
  have hW:=CH h hG hx he
  cases x with
  | tmp u=>
   simp only at ht
   simp only [SI]at hW
   by_cases ho:d0.hasObj=true
   ·simp only [ho,if_true]at ht
    have hk:=Keeps.clr s w (AJ a gh) u
    have h1:=h.clr u
    have hh:Hand T (s.clr u) (AJ a gh) w S (F6 Fs u (fun _=>False)) d0 (a.eval (.tmp u)) (Fs u):=⟨hW.same hk,fun t k hf hu=>by
     by_cases htu:t=u
     ·subst htu;simp [AI]at hu
     ·rw [AD _ _ htu]at hu;exact h.disj t u k htu hu hf⟩
    obtain⟨S',Fs',F',r,hh',k',tk⟩:=DJ d0 ht h1 hh
    have hsub: ∀v k,F6 Fs u (fun _=>False) v k→Fs v k:=fun v k hv=>by
     by_cases hvu:v=u
     ·subst hvu;simp [AI]at hv
     ·rwa [AD _ _ hvu]at hv
    refine⟨S',Fs',F',r,hh',hk.trans k',Step.of_sub tk.sS (fun k hk=> ?_) (fun v k hv=>⟨v,hsub v k (tk.sF v k hv)⟩),fun k hf=> ?_,fun v k hv=>hsub v k (tk.sF v k hv)⟩
    ·rcases tk.sS' k hk with hk | ⟨v,hv⟩ | hf
     ·exact .inl hk
     ·exact .inr ⟨v,hsub v k hv⟩
     ·exact .inr ⟨u,hf⟩
    ·rcases tk.sH k hf with hf | ⟨v,hv⟩
     ·exact⟨u,hf⟩
     ·exact⟨v,hsub v k hv⟩
   ·simp only [ho]at ht
    have hE:=BF hW (by simpa using ho)
    obtain⟨S',Fs',F',r,hh',k',tk⟩:=DJ d0 ht h ⟨hW,fun t k hf=>(hE k hf).elim⟩
    refine⟨S',Fs',F',r,hh',k',Step.of_sub tk.sS (fun k hk=> ?_) (fun v k hv=>⟨v,tk.sF v k hv⟩),fun k hf=> ?_,tk.sF⟩
    ·rcases tk.sS' k hk with hk | hv | hf
     ·exact .inl hk
     ·exact .inr hv
     ·exact(hE k hf).elim
    ·rcases tk.sH k hf with hf | hv
     ·exact(hE k hf).elim
     ·exact hv
  | const v=>
   obtain⟨S',Fs',F',r,hh',k',tk⟩:=DJ d0 ht h ⟨hW,fun t k hf=>hf.elim⟩
   refine⟨S',Fs',F',r,hh',k',Step.of_sub tk.sS (fun k hk=> ?_) (fun v k hv=>⟨v,tk.sF v k hv⟩),fun k hf=> ?_,tk.sF⟩
   ·rcases tk.sS' k hk with hk | hv | hf
    ·exact .inl hk
    ·exact .inr hv
    ·exact hf.elim
   ·rcases tk.sH k hf with hf | hv
    ·exact hf.elim
    ·exact hv
  | func f=>
   obtain⟨S',Fs',F',r,hh',k',tk⟩:=DJ d0 ht h ⟨hW,fun t k hf=>hf.elim⟩
   refine⟨S',Fs',F',r,hh',k',Step.of_sub tk.sS (fun k hk=> ?_) (fun v k hv=>⟨v,tk.sF v k hv⟩),fun k hf=> ?_,tk.sF⟩
   ·rcases tk.sS' k hk with hk | hv | hf
    ·exact .inl hk
    ·exact .inr hv
    ·exact hf.elim
   ·rcases tk.sH k hf with hf | hv
    ·exact hf.elim
    ·exact hv
  | global g=>simp [ev]at he
theorem Ia{pm:Pm}(h:Rel T s (AJ a gh) w S Fs)(hG:N≤G){t:TypeId}{x:Operand}(hx:AW N x){d:D}(ht:EM T pm s t x=some (d,s')):
  ∃S' Fs' F,Rel T s' (AJ a gh) w S' Fs'∧Hand T s' (AJ a gh) w S' Fs' d (a.eval x) F∧Keeps s w (AJ a gh) s' w (AJ a gh)∧Step w S Fs w S' Fs'∧(∀k,F k→ ∃u,Fs u k)∧(∀u k,Fs' u k→Fs u k):=by
 unfold EM at ht
 split at ht
 ·rename_i L n m he
  have hW:=CH h hG hx he
  generalize hvx:a.eval x=vx at*
  cases hW with
  | vw hE hv=>
   obtain⟨S',Fs',F,r,hh,hk,sb⟩:=NT h ht hv
   exact⟨S',Fs',F,r,hh,hk,Step.of_sub sb.sS sb.sS' (fun u k hu=>⟨u,sb.sF u k hu⟩),sb.sH,sb.sF⟩
 ·exact Cl h hG hx ht
end
end Dv
