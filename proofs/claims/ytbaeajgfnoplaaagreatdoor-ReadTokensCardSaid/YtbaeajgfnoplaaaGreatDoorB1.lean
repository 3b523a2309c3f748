import GoSem.Dispatch
import GoSem.Machine.Return
import Derived.Calls
import Derived.RowKit
import Derived.Lib.FrozenHead
import Derived.WalkKit
import Derived.Deep.AppendSrc
import Derived.Laws.StructEq
import Derived.Room.AppendAny
section
namespace TL
open Go
inductive Tr (α:Type) where
 |nil
 |node (v:Option α) (l r:Tr α)
 deriving Inhabited
namespace Tr
variable {α:Type}
def get:Tr α->Nat->Option α
 | .nil,_=>none
 | .node v l r,k=>match k with
  |0=>v
  |k+1=>match Nat.beq (Nat.mod k 2) 0 with
   |true=>l.get (Nat.div k 2)
   |false=>r.get (Nat.div k 2)
def set:Nat->Tr α->Nat->α->Tr α
 |0,t,_,_=>t
 |n+1,.nil,k,x=>match k with
  |0=>.node (some x) .nil .nil
  |k+1=>match Nat.beq (Nat.mod k 2) 0 with
   |true=>.node none (set n .nil (Nat.div k 2) x) .nil
   |false=>.node none .nil (set n .nil (Nat.div k 2) x)
 |n+1,.node v l r,k,x=>match k with
  |0=>.node (some x) l r
  |k+1=>match Nat.beq (Nat.mod k 2) 0 with
   |true=>.node v (set n l (Nat.div k 2) x) r
   |false=>.node v l (set n r (Nat.div k 2) x)
end Tr
def kindEq:IntKind->IntKind->Bool
 | .i8,.i8|.i16,.i16|.i32,.i32|.i64,.i64|.u8,.u8|.u16,.u16|.u32,.u32|.u64,.u64=>true
 |_,_=>false
def lenL {α:Type}:List α->Nat
 |[]=>0
 |_ ::l=>Nat.succ (lenL l)
def nth {α:Type}:List α->Nat->Option α
 |[],_=>none
 |a ::_,0=>some a
 |_ ::l,k+1=>nth l k
inductive D where
 |lit (v:Value)
 |sl (es:List D)
 |agg (cs:List D)
 |ifc (t:TypeId) (d:D)
 |tup (ds:List D)
 |pt (d:D)
 |mp (ks vs:List D)
 deriving Inhabited
namespace D
abbrev int (n:Int):D:=.lit (.int .i64 n)
abbrev bool (b:Bool):D:=.lit (.bool b)
abbrev str (b:ByteArray):D:=.lit (.string b)
def toInt:D->Int|.lit (.int _ n)=>n|_=>0
def isInt (k:IntKind):D->Bool|.lit (.int j _)=>kindEq j k|_=>false
def toBool:D->Bool|.lit (.bool b)=>b|_=>false
def isBool:D->Bool|.lit (.bool _)=>true|_=>false
def toStr:D->ByteArray|.lit (.string b)=>b|_=>.empty
def isStr:D->Bool|.lit (.string _)=>true|_=>false
def toSl:D->List D|.sl es=>es|_=>[]
def isSl:D->Bool|.sl _=>true|_=>false
def cells:D->List D|.agg cs=>cs|d=>[d]
def cell (d:D) (j:Nat):D:=d.cells.getD j (.lit (.tuple #[]))
def leaf:D->Bool
 | .agg _|.tup _=>false
 | .lit (.agg _)|.lit (.tuple _)=>false
 |_=>true
def isAgg (n:Nat):D->Bool|.agg cs=>Nat.beq (lenL cs) n&&cs.all leaf|_=>false
def proj:D->Nat->D|.tup ds,k=>ds.getD k (.lit (.tuple #[]))|_,_=>.lit (.tuple #[])
def isTup (n:Nat):D->Bool|.tup ds=>Nat.beq (lenL ds) n|_=>false
def hasTup (n:Nat):D->Bool|.tup ds=>Nat.blt n (lenL ds)|_=>false
def ifcT:D->TypeId|.ifc t _=>t|_=>0
def ifcD:D->D|.ifc _ d=>d|_=>.lit (.tuple #[])
def isIfc:D->Bool|.ifc _ _=>true|_=>false
def isNilIfc:D->Bool|.lit .nilIface=>true|_=>false
def el (es:List D) (i:Nat):D:=es.getD i (.lit (.tuple #[]))
def len (es:List D):Int:=es.length
def inb (n:Int) (len:Int):Prop:=0<=n∧n<len
def cut (lo hi len:Int):Prop:=0<=lo∧lo<=hi∧hi<=len
def has (d:D) (m:Nat):Prop:=m<=d.cells.length
def wide (d:D) (m:Nat):Prop:=d.cells.length=m
def sub (es:List D) (lo hi:Int):List D:=(es.take hi.toNat).drop lo.toNat
def ssub (b:ByteArray) (lo hi:Int):ByteArray:=b.extract lo.toNat hi.toNat
def slen (b:ByteArray):Int:=b.size
def sat (b:ByteArray) (n:Int):Int:=(b.get! n.toNat).toNat
def sfit (a b:ByteArray):Prop:=a.size+b.size<=4611686018427387904
def scat (a b:ByteArray):ByteArray:=a++b
def app (a b:List D):List D:=a++b
def put (es:List D) (k:Nat) (d:D):List D:=es.set k d
def rows (es:List D) (sz:Nat):Prop:=∀d∈es,d.cells.length=sz
def lby:D->Nat
 | .lit (.string _)|.lit .nilIface|.ifc _ _=>16
 | .sl _|.lit (.slice ..)=>24
 |_=>8
def sumBy:List D->Nat
 |[]=>0
 |d ::l=>Nat.add d.lby (sumBy l)
def by_:D->Nat
 | .agg cs=>sumBy cs
 | .lit (.bool _)=>1
 | .lit (.int .i8 _)|.lit (.int .u8 _)=>1
 | .lit (.int .i16 _)|.lit (.int .u16 _)=>2
 | .lit (.int .i32 _)|.lit (.int .u32 _)=>4
 |d=>d.lby
def flat (d:D):Bool:=d.cells.all leaf
def bys (es:List D) (b:Nat):Prop:=∀d∈es,d.by_=b∧d.flat=true
def nat (n:Int):Nat:=n.toNat
def zero:Int:=0
def add (k:IntKind) (a b:Int):Int:=k.wrap (a+b)
def sub_ (k:IntKind) (a b:Int):Int:=k.wrap (a-b)
def mul (k:IntKind) (a b:Int):Int:=k.wrap (a*b)
def neg (k:IntKind) (a:Int):Int:=k.wrap (-a)
def conv (k:IntKind) (a:Int):Int:=k.wrap a
def rem (a b:Int):Int:=a.tmod b
def quo (k:IntKind) (a b:Int):Int:=k.wrap (a.tdiv b)
def nz (a:Int):Prop:=a≠0
def ieq (a b:Int):Bool:=a==b
def beq (a b:Bool):Bool:=a==b
def seq (a b:ByteArray):Bool:=a==b
def ilt (a b:Int):Bool:=decide (a<b)
def ile (a b:Int):Bool:=decide (a<=b)
def bif_ (c a b:Bool):Bool:=if c then a else b
def bnot (a:Bool):Bool:=!a
def band (a b:Bool):Bool:=a&&b
def upd (d:D) (off:Nat) (l:List D):D:=match d with
 | .agg cs=>.agg (cs.take off++l++cs.drop (off+l.length))
 |d=>l.getD 0 d
def takes (d:D) (sz off n:Nat):Prop:=d.isAgg sz=true∨(d.leaf=true∧sz=1∧off=0∧n=1)
end D
inductive T where
 |sym (d:D)
 |kb (b:Bool)
 |kn (k:IntKind) (n:Int)
 |ptr (o off:Nat)
 |ept (d:D) (off:Nat)
 |epw (o e i off:Nat)
 |sh (o e:Nat)
 |emp
 |clp (n:Nat) (es:List D)
 |fn (f:Fn) (first cap:List T)
 |ifc (t:TypeId) (v:T)
 |agg (cs:List T)
 |tup (vs:List T)
 |gd (c:Bool) (v:T)
 |mp (o:Nat)
 |yld (o:Nat)
 |slb (o n:Nat)
 |itr (o:Nat)
 |ub (e:Bool)
 |nel (o m r i:Nat)
 |cln (j:Nat) (d:D)
 deriving Inhabited
inductive Df where
 |call (f:T) (args:List T)
 |mark (o:Nat)
 |marks (o:Nat)
 |bads
 |bad
 deriving Inhabited
def Df.one:Df->Bool
 | .marks _|.bads=>false
 |_=>true
structure Fr where
 n:Nat
 tm:Tr T
 df:List Df:=[]
 deriving Inhabited
structure Lp where
 st:LoopState
 pend:Option Code
 fid:FuncId
 fr:Fr
 params:List Nat
 assign:Code
 body:Code
inductive Ob where
 |box (cs:List T)
 |arr (sz:Nat) (es:List D) (era:Nat)
 |frz (sz:Nat) (es:List D) (era:Nat)
 |map (es:List (T×T))
 |sit (b:ByteArray) (pos:Nat)
 |lp (l:Lp)
 |dfr
 |nar (nj sz:Nat) (es:List D) (era m rera:Nat) (hole:Option Nat)
 |rws (sz:Nat) (rss:List (List D)) (rera:Nat)
 |gone
 |mks
 |bld (ty:TypeId) (m:Nat)
 |bbf (ty:TypeId) (l:List UInt8)
 |lpd (st:LoopState) (pend:Option Code)
 deriving Inhabited
def Ob.isArr:Ob->Bool
 | .arr ..|.frz ..|.nar ..|.rws ..|.gone|.mks|.bbf ..=>true
 |_=>false
def Ob.isA:Ob->Bool
 | .arr ..|.frz ..=>true
 |_=>false
def Ob.odd:Ob->Bool
 | .map _|.sit _ _|.lp _|.dfr|.lpd ..=>true
 |_=>false
structure St where
 ob:Tr Ob
 nob:Nat
 fl:Nat
 lo:Nat
 deriving Inhabited
def fuelTr:Nat:=64
def bigN:Nat:=1000000000
def Fr.get (fr:Fr) (k:Nat):Option T:=fr.tm.get k
def Fr.put (fr:Fr) (k:Nat) (v:T):Fr:={fr with tm:=fr.tm.set fuelTr k v}
def Fr.putO (fr:Fr) (k:Option Nat) (v:T):Fr:=match k with|some k=>fr.put k v|none=>fr
def mkFr (n:Nat) (l:List (Nat×T)):Fr:=⟨n,l.foldr (λp t=>t.set fuelTr p.1 p.2) .nil,[]⟩
inductive Lk where
 |int (k:IntKind)|bool|str|no
 deriving DecidableEq,Inhabited
inductive Kd where
 |leaf (l:Lk)
 |ptr
 |slice (sz:Nat) (agg:Bool) (by_:Nat) (zero:List D)
 |struct (fs:List (Nat×Nat×Bool))
 |array (len sz:Nat) (agg:Bool)
 |iface
 |other
 deriving Inhabited
structure TI where
 size:Nat
 agg:Bool
 zero:List D
 lks:List Lk
 kd:Kd
 deriving Inhabited
structure Contract where
 pre:List D->Prop
 f:List D->D
structure Env where
 P:Program
 ti:Nat->Option TI
 fnc:Nat->Option Func
 gam:Nat->Option Contract
def ofVal:Value->Option D
 | .bool b=>some (.lit (.bool b))
 | .int k n=>some (.lit (.int k n))
 | .string s=>some (.lit (.string s))
 | .pointer none=>some (.lit (.pointer none))
 | .map none=>some (.lit (.map none))
 | .nilFunc=>some (.lit .nilFunc)
 | .nilIface=>some (.lit .nilIface)
 | .tuple a=>match a.toList with
  |[]=>some (.lit (.tuple #[]))
  |_=>none
 |_=>none
def ofConst:Value->Option T
 | .bool b=>some (.kb b)
 | .int k n=>some (.kn k n)
 | .slice none 0 0=>some .emp
 | .func f a b=>match a.toList,b.toList with
  |[],[]=>some (.fn f [] [])
  |_,_=>none
 | .iface t v=>(ofVal v).map λd=>.sym (.ifc t d)
 |v=>(ofVal v).map .sym
def ofZero:D->T
 | .lit (.bool b)=>.kb b
 | .lit (.int k n)=>.kn k n
 | .sl []=>.emp
 |d=>.sym d
def T.leaf:T->Prop
 | .sym d=>d.leaf=true
 | .agg _|.tup _|.gd _ _=>False
 |_=>True
def cellsT (i:TI):T->Option (Prop×List T)
 | .agg cs=>bif i.agg&&Nat.beq (lenL cs) i.size then some (True,cs) else none
 | .sym d=>
  bif i.agg then some (d.isAgg i.size=true,(List.range i.size).map λj=>.sym (d.cell j))
  else bif Nat.beq i.size 1 then some (d.leaf=true,[.sym d]) else none
 | .tup _|.gd _ _=>none
 |t=>bif i.agg then none else bif Nat.beq i.size 1 then some (True,[t]) else none
def packT (agg:Bool) (cs:List T):Option T:=
 bif agg then some (.agg cs) else match cs with
  |[x]=>some x
  |_=>none
def opdT (fr:Fr):Operand->Option T
 | .tmp k=>fr.get k
 | .const v=>ofConst v
 | .global _=>none
 | .func f=>some (.fn (.func f) [] [])
def opdsT (fr:Fr):List Operand->Option (List T)
 |[]=>some []
 |x ::l=>match opdT fr x,opdsT fr l with
  |some t,some r=>some (t ::r)
  |_,_=>none
def intT (k:IntKind):T->Option (Prop×Int)
 | .kn j n=>bif kindEq j k then some (True,n) else none
 | .sym d=>some (d.isInt k=true,d.toInt)
 |_=>none
def boolT:T->Option (Prop×Bool)
 | .kb b=>some (True,b)
 | .sym d=>some (d.isBool=true,d.toBool)
 |_=>none
def strT:T->Option (Prop×ByteArray)
 | .sym d=>some (d.isStr=true,d.toStr)
 |_=>none
def slT (s:St):T->Option (Prop×List D)
 | .emp=>some (True,[])
 | .clp _ es=>some (True,es)
 | .cln _ d=>some (True,[d])
 | .sym d=>some (d.isSl=true,d.toSl)
 | .sh o e=>match s.ob.get o with
  |some (.arr _ es era)|some (.frz _ es era)=>bif Nat.beq e era then some (True,es) else none
  |_=>none
 |_=>none
def fullD (nj:Nat) (d:D) (rs:List D):D:=.agg (d.cells.set nj (.sl rs))
def fulls (nj:Nat) (es:List D) (rss:List (List D)):List D:=List.zipWith (fullD nj) es rss
def rwsT (s:St) (m r:Nat):Option (List (List D)):=match s.ob.get m with
 |some (.rws _ rss r')=>bif Nat.beq r r' then some rss else none
 |_=>none
mutual
def toD (s:St):T->Option (Prop×D×List Nat)
 | .sym d=>some (True,d,[])
 | .kb b=>some (True,.lit (.bool b),[])
 | .kn k n=>some (True,.lit (.int k n),[])
 | .emp=>some (True,.sl [],[])
 | .clp _ es=>some (True,.sl es,[])
 | .cln _ d=>some (True,.sl [d],[])
 | .sh o e=>match s.ob.get o with
  |some (.arr _ es era)=>bif Nat.beq e era then some (True,.sl es,[o]) else none
  |some (.frz _ es era)=>bif Nat.beq e era then some (True,.sl es,[]) else none
  |some (.nar nj _ es era m r none)=>match rwsT s m r with
   |some rss=>bif Nat.beq e era&&Nat.blt m bigN then some (True,.sl (fulls nj es rss),[o,m]) else none
   |none=>none
  |_=>none
 | .ifc t v=>match toD s v with
  |some (p,d,os)=>some (p,.ifc t d,os)
  |none=>none
 | .agg cs=>match toDs s cs with
  |some (p,ds,os)=>some (p∧ds.all D.leaf=true,.agg ds,os)
  |none=>none
 | .tup cs=>match toDs s cs with
  |some (p,ds,os)=>some (p,.tup ds,os)
  |none=>none
 |_=>none
def toDs (s:St):List T->Option (Prop×List D×List Nat)
 |[]=>some (True,[],[])
 |t ::l=>match toD s t,toDs s l with
  |some (p,d,os),some (q,ds,ps)=>some (p∧q,d ::ds,os++ps)
  |_,_=>none
end
def freeze (s:St):List Nat->Option St
 |[]=>some s
 |o ::l=>
  bif Nat.ble s.fl o then match s.ob.get o with
   |some (.arr sz es era)=>freeze {s with ob:=s.ob.set fuelTr o (.frz sz es era)} l
   |some (.frz _ _ _)=>freeze s l
   |some (.nar nj sz es era m r none)=>match rwsT s m r with
    |some rss=>bif l.contains m&&(Nat.ble s.fl m&&Nat.blt m bigN) then freeze {s with ob:=(s.ob.set fuelTr m .gone).set fuelTr o (.frz sz (fulls nj es rss) era)} l else none
    |none=>none
   |some (.rws ..)=>freeze s l
   |some .gone=>freeze s l
   |_=>none
  else none
def newOb (s:St) (o:Ob):Nat×St:=(s.nob,{s with ob:=s.ob.set fuelTr s.nob o,nob:=Nat.succ s.nob})
def eqLeaf:Lk->T->T->Option (Prop×Bool)
 | .int k,a,b=>match intT k a,intT k b with
  |some (p,x),some (q,y)=>some (p∧q,D.ieq x y)
  |_,_=>none
 | .bool,a,b=>match boolT a,boolT b with
  |some (p,x),some (q,y)=>some (p∧q,D.beq x y)
  |_,_=>none
 | .str,a,b=>match strT a,strT b with
  |some (p,x),some (q,y)=>some (p∧q,D.seq x y)
  |_,_=>none
 | .no,_,_=>none
def eqLeaves:List Lk->List T->List T->Option (Prop×Bool)
 |[],[],[]=>some (True,true)
 |k ::ks,a ::as,b ::bs=>match eqLeaf k a b,eqLeaves ks as bs with
  |some (p,x),some (q,y)=>some (p∧q,D.band x y)
  |_,_=>none
 |_,_,_=>none
def eqPtr:T->T->Option (Prop×Bool)
 | .sym (.lit (.pointer none)),.ptr _ _=>some (True,false)
 | .ptr _ _,.sym (.lit (.pointer none))=>some (True,false)
 |_,_=>none
def eqIfc:T->T->Option (Prop×Bool)
 | .sym (.lit .nilIface),.ifc _ _=>some (True,false)
 | .ifc _ _,.sym (.lit .nilIface)=>some (True,false)
 |_,_=>none
def arrT (s:St) (o e:Nat):Option (Nat×List D):=
 match s.ob.get o with
 |some (.arr sz es era)=>bif Nat.beq e era then some (sz,es) else none
 |some (.frz sz es era)=>bif Nat.beq e era then some (sz,es) else none
 |_=>none
def partD (i:TI) (d:D) (off:Nat):Option T:=
 bif i.agg then some (.agg ((List.range i.size).map λj=>.sym (d.cell (Nat.add off j))))
 else bif Nat.beq i.size 1 then some (.sym (d.cell off)) else none
abbrev Res:=Option (Prop×T×St)
def unitT:T:=.sym (.lit (.tuple #[]))
def loadT (i:TI) (s:St):T->Res
 | .ptr o off=>match s.ob.get o with
  |some (.box cs)=>
   let l:=(cs.drop off).take i.size
   bif Nat.beq (lenL l) i.size then (packT i.agg l).map λt=>(True,t,s) else none
  |_=>none
 | .ept d off=>(partD i d off).map λt=>(d.has (Nat.add off i.size),t,s)
 | .epw o e k off=>match arrT s o e with
  |some (_,es)=>(partD i (D.el es k) off).map λt=>(D.inb k (D.len es)∧(D.el es k).has (Nat.add off i.size),t,s)
  |none=>none
 |_=>none
def leaves:List T->Prop
 |[]=>True
 |t ::l=>t.leaf∧leaves l
def storeT (i:TI) (s:St) (a x:T):Res:=
 match cellsT i x with
 |none=>none
 |some (p,l)=>match a with
  | .ptr o off=>match s.ob.get o with
   |some (.box cs)=>
    bif Nat.ble s.fl o&&Nat.ble (Nat.add off (lenL l)) (lenL cs) then
     some (p∧leaves l,unitT,{s with ob:=s.ob.set fuelTr o (.box (cs.take off++l++cs.drop (Nat.add off (lenL l))))})
    else none
   |_=>none
  | .epw o e k off=>match toDs s l with
   |some (q,ds,os)=>match freeze s os with
    |some s1=>match s1.ob.get o with
     |some (.arr sz es era)=>
      bif Nat.ble s1.fl o&&Nat.beq e era then
       some (p∧q∧ds.all D.leaf=true∧D.inb k (D.len es)∧(D.el es k).takes sz off (lenL ds)∧Nat.ble (Nat.add off (lenL ds)) sz=true∧((D.el es k).upd off ds).by_=(D.el es k).by_,
        unitT,{s1 with ob:=s1.ob.set fuelTr o (.arr sz (D.put es k ((D.el es k).upd off ds)) era)})
      else none
     |_=>none
    |none=>none
   |none=>none
  |_=>none
def fillT (place:Nat->Option (Nat×TI)) (cells:List T):List (Nat×T)->Option (Prop×List T)
 |[]=>some (True,cells)
 |(k,v) ::rest=>match place k with
  |none=>none
  |some (off,i)=>match cellsT i v with
   |none=>none
   |some (p,l)=>
    bif Nat.ble (Nat.add off (lenL l)) (lenL cells) then
     (fillT place (cells.take off++l++cells.drop (Nat.add off (lenL l))) rest).map λ(q,r)=>(p∧leaves l∧q,r)
    else none
def partsT (fr:Fr):List (Nat×Operand)->Option (List (Nat×T))
 |[]=>some []
 |(k,x) ::l=>match opdT fr x,partsT fr l with
  |some t,some r=>some ((k,t) ::r)
  |_,_=>none
def elemsT (s:St) (i:TI) (es:List D):List (Nat×T)->Option (Prop×List D×List Nat)
 |[]=>some (True,es,[])
 |(k,v) ::rest=>match toD s v with
  |none=>none
  |some (p,d,os)=>
   bif Nat.blt k (lenL es) then
    (elemsT s i (es.set k d) rest).map λ(q,r,ps)=>(p∧(bif i.agg then d.isAgg i.size else d.leaf)=true∧q,r,os++ps)
   else none
def cmpT (op:BinOp) (k:IntKind) (m n:Int):Option D:=
 match op with
 | .lss=>some (.lit (.bool (D.ilt m n)))
 | .leq=>some (.lit (.bool (D.ile m n)))
 | .gtr=>some (.lit (.bool (D.ilt n m)))
 | .geq=>some (.lit (.bool (D.ile n m)))
 | .add=>some (.lit (.int k (D.add k m n)))
 | .sub=>some (.lit (.int k (D.sub_ k m n)))
 | .mul=>some (.lit (.int k (D.mul k m n)))
 |_=>none
def divT (op:BinOp) (k:IntKind) (m n:Int):Option D:=
 match op with
 | .rem=>some (.lit (.int k (D.rem m n)))
 | .quo=>some (.lit (.int k (D.quo k m n)))
 |_=>none
def eqlT (i:TI) (a b:T):Option (Prop×Bool):=
 bif i.agg then match i.lks,cellsT i a,cellsT i b with
  |[],_,_=>none
  |k ::ks,some (p,as),some (q,bs)=>(eqLeaves (k ::ks) as bs).map λ(r,x)=>(p∧q∧r,x)
  |_,_,_=>none
 else match i.kd with
  | .leaf k=>eqLeaf k a b
  | .ptr=>eqPtr a b
  | .iface=>eqIfc a b
  |_=>none
def binT (i:TI) (op:BinOp) (a b:T):Option (Prop×D):=
 match op with
 | .eql=>(eqlT i a b).map λ(p,r)=>(p,.lit (.bool r))
 | .neq=>(eqlT i a b).map λ(p,r)=>(p,.lit (.bool (D.bnot r)))
 |op=>match i.kd with
  | .leaf (.int k)=>match intT k a,intT k b with
   |some (p,m),some (q,n)=>match cmpT op k m n with
    |some d=>some (p∧q,d)
    |none=>(divT op k m n).map λd=>(p∧q∧D.nz n,d)
   |_,_=>none
  | .leaf .str=>match op,strT a,strT b with
   | .add,some (p,m),some (q,n)=>some (p∧q∧D.sfit m n,.lit (.string (D.scat m n)))
   |_,_,_=>none
  |_=>none
def optT (fr:Fr):Option Operand->Option (Option T)
 |none=>some none
 |some x=>(opdT fr x).map some
def boundT (dflt:Int):Option T->Option (Prop×Int)
 |none=>some (True,dflt)
 |some t=>intT .i64 t
def ownSl:T->List Nat
 | .sh o _=>[o]
 |_=>[]
def sliceT (i:TI) (s:St) (v:T) (l h m:Option T):Res:=
 match i.kd,boundT D.zero l with
 | .leaf .str,some (p,lo)=>match strT v,m with
  |some (q,b),none=>match boundT (D.slen b) h with
   |some (r,hi)=>some (p∧q∧r∧D.cut lo hi (D.slen b),.sym (.lit (.string (D.ssub b lo hi))),s)
   |none=>none
  |_,_=>none
 | .slice sz _ _ _,some (p,lo)=>match slT s v,freeze s (ownSl v) with
  |some (q,es),some s'=>match boundT (D.len es) h,m,h with
   |some (r,hi),none,_=>some (p∧q∧r∧D.rows es sz∧D.cut lo hi (D.len es),.sym (.sl (D.sub es lo hi)),s')
   |some (r,hi),some y,some _=>match y with
    | .kn .i64 0=>some (p∧q∧r∧lo=D.zero∧hi=D.zero,.emp,s)
    |y=>(intT .i64 y).map λ(t,mx)=>
     (p∧q∧r∧t∧D.rows es sz∧D.cut lo hi (D.len es)∧mx=hi,.clp 0 (D.sub es lo hi),s')
   |_,_,_=>none
  |_,_=>none
 |_,_=>none
def armT:T->Option (Prop×Bool)
 | .gd g v=>match boolT v with
  |some (q,y)=>some (g=true∧q,y)
  |none=>none
 | .kb b=>some (True,b)
 | .sym d=>some (d.isBool=true,d.toBool)
 |_=>none
def pickT (c a b:T):Option (Prop×T):=
 match c with
 | .kb u=>match armT (bif u then a else b) with
  |some (q,y)=>some (q,.sym (.lit (.bool y)))
  |none=>none
 |c=>match boolT c,armT a,armT b with
  |some (p,t),some (q,x),some (r,y)=>some (p∧(t=true->q)∧(t=false->r),.sym (.lit (.bool (D.bif_ t x y))))
  |_,_,_=>none
def arrAddrT (n sz:Nat) (s:St) (x ix:T):Res:=match x,ix with
 | .ept d b,.kn .i64 (.ofNat j)=>bif Nat.blt j n then some (True,.ept d (Nat.add b (Nat.mul j sz)),s) else none
 |_,_=>none
theorem arrAddrT_st {n sz:Nat} {s s':St} {x ix t:T} {p:Prop} (h:arrAddrT n sz s x ix=some (p,t,s')):s'=s:=by
 unfold arrAddrT at h
 split at h
 .rename_i d b j
  cases hb:Nat.blt j n<;>rw[hb] at h<;>cases h
  rfl
 .cases h
def indexAddrT (i:TI) (s:St) (x ix:T):Res:=
 match i.kd,intT .i64 ix with
 | .slice sz _ _ _,some (p,n)=>match x with
  | .sh o e=>match arrT s o e with
   |some (z,es)=>bif Nat.beq z sz then some (p∧D.inb n (D.len es),.epw o e (D.nat n) 0,s) else none
   |none=>none
  |v=>match slT s v with
   |some (q,es)=>some (p∧q∧D.inb n (D.len es)∧(D.el es (D.nat n)).wide sz,.ept (D.el es (D.nat n)) 0,s)
   |none=>none
 | .array n sz _,_=>arrAddrT n sz s x ix
 |_,_=>none
def fieldAddrT (i:TI) (s:St) (k:Nat) (x:T):Res:=
 match i.kd with
 | .struct fs=>match nth fs k with
  |some (off,size,_)=>bif Nat.beq size 0 then none else match x with
   | .ptr o b=>some (True,.ptr o (Nat.add b off),s)
   | .ept d b=>some (True,.ept d (Nat.add b off),s)
   | .epw o e j b=>some (True,.epw o e j (Nat.add b off),s)
   |_=>none
  |none=>none
 |_=>none
def fieldT (i:TI) (s:St) (k:Nat) (x:T):Res:=
 match i.kd with
 | .struct fs=>match nth fs k,cellsT i x with
  |some (off,size,ag),some (p,cs)=>
   let l:=(cs.drop off).take size
   bif Nat.beq (lenL l) size&&!(Nat.beq size 0) then (packT ag l).map λt=>(p,t,s) else none
  |_,_=>none
 |_=>none
def indexT (i:TI) (s:St) (x ix:T):Res:=
 match i.kd,intT .i64 ix,strT x with
 | .leaf .str,some (p,n),some (q,b)=>some (p∧q∧D.inb n (D.slen b),.sym (.lit (.int .u8 (D.sat b n))),s)
 |_,_,_=>none
def assertT (i:TI) (s:St) (t:TypeId) (ok:Bool) (x:T):Res:=
 match i.kd,x,ok with
 | .iface,_,_=>none
 |_,.ifc u v,true=>bif Nat.beq u t then some (True,.tup [v,.kb true],s) else
   (packT i.agg (i.zero.map ofZero)).map λz=>(True,.tup [z,.kb false],s)
 |_,.ifc u v,false=>bif Nat.beq u t then some (True,v,s) else none
 |_,_,_=>none
def unT (i:TI) (op:UnOp) (v:T):Option (Prop×D):=
 match op,i.kd with
 | .not,.leaf .bool=>(boolT v).map λ(p,b)=>(p,.lit (.bool (D.bnot b)))
 | .neg,.leaf (.int k)=>(intT k v).map λ(p,n)=>(p,.lit (.int k (D.neg k n)))
 |_,_=>none
def convT (i j:TI) (s:St) (v:T):Res:=
 match i.kd,j.kd with
 | .leaf (.int k),.leaf (.int l)=>(intT k v).map λ(p,n)=>(p,.sym (.lit (.int l (D.conv l n))),s)
 | .leaf .str,.leaf .str=>(strT v).map λ(p,_)=>(p,v,s)
 |_,_=>none
def extractT (s:St) (k:Nat):T->Res
 | .tup vs=>(nth vs k).map λt=>(True,t,s)
 | .sym d=>some (d.hasTup k=true,.sym (d.proj k),s)
 |_=>none
def opT (E:Env) (fr:Fr) (s:St) (o:Op):Res:=
 match o with
 | .move x=>(opdT fr x).map λt=>(True,t,s)
 | .assign x=>(opdT fr x).map λt=>(True,t,s)
 | .pick c a b=>match opdT fr c,opdT fr a,opdT fr b with
  |some c,some a,some b=>(pickT c a b).map λ(p,t)=>(p,t,s)
  |_,_,_=>none
 | .alloc t=>match E.ti t with
  |some i=>bif Nat.blt s.nob bigN then some (True,.ptr s.nob 0,(newOb s (.box (i.zero.map ofZero))).2) else none
  |none=>none
 | .box t x=>match E.ti t,opdT fr x with
  |some i,some v=>bif Nat.blt s.nob bigN then (cellsT i v).map λ(p,cs)=>(p,.ptr s.nob 0,(newOb s (.box cs)).2) else none
  |_,_=>none
 | .build t parts=>match E.ti t,partsT fr parts.toList with
  |some i,some ps=>match i.kd with
   | .struct fs=>(fillT (λk=>match nth fs k with|some (off,size,ag)=>some (off,{(default:TI) with size:=size,agg:=ag})|none=>none) (i.zero.map ofZero) ps).map
     λ(p,cs)=>(p,.agg cs,s)
   |_=>none
  |_,_=>none
 | .buildSlice t len parts=>match E.ti t,partsT fr parts.toList with
  |some i,some ps=>match i.kd with
   | .slice sz ag _ zero=>
    bif (ag||Nat.beq sz 1)&&(Nat.beq (lenL zero) sz&&(!(Nat.beq sz 0)&&Nat.ble (Nat.mul len sz) 16777216)) then
     match elemsT s {(default:TI) with size:=sz,agg:=ag} (List.replicate len (bif ag then .agg zero else zero.getD 0 default)) ps with
     |some (p,es,os)=>(freeze s os).map λs=>(p,.clp len es,s)
     |none=>none
    else none
   |_=>none
  |_,_=>none
 | .load t a=>match E.ti t,opdT fr a with
  |some i,some a=>loadT i s a
  |_,_=>none
 | .store t a x=>match E.ti t,opdT fr a,opdT fr x with
  |some i,some a,some x=>storeT i s a x
  |_,_,_=>none
 | .nilCheck x=>match opdT fr x with
  |some (.ptr o b)=>some (True,.ptr o b,s)
  |some (.ept d b)=>some (True,.ept d b,s)
  |some (.epw o e j b)=>some (True,.epw o e j b,s)
  |some (.ifc t v)=>some (True,.ifc t v,s)
  |some (.fn (.func f) a b)=>some (True,.fn (.func f) a b,s)
  |some (.sym d)=>some (d.isIfc=true,.sym d,s)
  |_=>none
 | .binOp op t x y _=>match E.ti t,opdT fr x,opdT fr y with
  |some i,some a,some b=>(binT i op a b).map λ(p,d)=>(p,.sym d,s)
  |_,_,_=>none
 | .unOp op t x=>match E.ti t,opdT fr x with
  |some i,some v=>(unT i op v).map λ(p,d)=>(p,.sym d,s)
  |_,_=>none
 | .convert src dst x=>match E.ti src,E.ti dst,opdT fr x with
  |some i,some j,some v=>convT i j s v
  |_,_,_=>none
 | .makeInterface t x=>match E.ti t,opdT fr x with
  |some i,some v=>match i.kd with
   | .iface=>none
   |_=>some (True,.ifc t v,s)
  |_,_=>none
 | .makeFunc f first cap=>match opdsT fr first.toList,opdsT fr cap.toList with
  |some a,some b=>some (True,.fn f a b,s)
  |_,_=>none
 | .extract x k=>match opdT fr x with
  |some v=>extractT s k v
  |none=>none
 | .fieldAddr t x k=>match E.ti t,opdT fr x with
  |some i,some v=>fieldAddrT i s k v
  |_,_=>none
 | .field t x k=>match E.ti t,opdT fr x with
  |some i,some v=>fieldT i s k v
  |_,_=>none
 | .indexAddr t x ix=>match E.ti t,opdT fr x,opdT fr ix with
  |some i,some v,some n=>indexAddrT i s v n
  |_,_,_=>none
 | .index t x ix=>match E.ti t,opdT fr x,opdT fr ix with
  |some i,some v,some n=>indexT i s v n
  |_,_,_=>none
 | .slice t x lo hi mx=>match E.ti t,opdT fr x,optT fr lo,optT fr hi,optT fr mx with
  |some i,some v,some l,some h,some m=>sliceT i s v l h m
  |_,_,_,_,_=>none
 | .typeAssert x _ t ok=>match E.ti t,opdT fr x with
  |some i,some v=>assertT i s t ok v
  |_,_=>none
 |_=>none
def D.few (a b:List D):Prop:=a.length+b.length<=17179869184
def appendT (i:TI) (s:St) (x y:T):Res:=
 bif !(Nat.blt s.nob bigN) then none else
 match i.kd,slT s y with
 | .slice sz _ bt _,some (q,new)=>
  match x with
  | .emp=>some (q∧D.rows new sz∧D.bys new bt,.sh s.nob 0,(newOb s (.arr sz new 0)).2)
  | .clp _ es=>
   let q':=q∧D.rows (D.app es new) sz∧D.bys (D.app es new) bt∧D.few es new
   match y with
   | .clp (_+1) _=>some (q',.sh s.nob 0,(newOb s (.arr sz (D.app es new) 0)).2)
   |_=>some (q',.sym (.sl (D.app es new)),s)
  | .sh o e=>match s.ob.get o with
   |some (.arr z es era)=>
    bif Nat.ble s.fl o&&Nat.beq e era&&Nat.beq z sz&&!(ownSl y).contains o then
     some (q∧D.rows new sz∧D.bys (D.app es new) bt∧D.few es new,.sh o (Nat.succ era),{s with ob:=s.ob.set fuelTr o (.arr sz (D.app es new) (Nat.succ era))})
    else none
   |_=>none
  |_=>none
 |_,_=>none
def builtinT (E:Env) (s:St) (b:Builtin) (argTypes:Array TypeId) (args:List T):Res:=
 match b,args with
 | .len,[x]=>match strT x,(nth argTypes.toList 0).bind E.ti with
  |some (p,b),some i=>match i.kd with
   | .leaf .str=>some (p,.sym (.lit (.int .i64 (D.slen b))),s)
   | .slice _ _ _ _=>(slT s x).map λ(p,es)=>(p,.sym (.lit (.int .i64 (D.len es))),s)
   |_=>none
  |none,some i=>match i.kd with
   | .slice _ _ _ _=>(slT s x).map λ(p,es)=>(p,.sym (.lit (.int .i64 (D.len es))),s)
   |_=>none
  |_,_=>none
 | .append,[x,y]=>match argTypes.toList with
  |[t,u]=>match E.ti t,E.ti u with
   |some i,some j=>match j.kd with
    | .slice _ _ _ _=>appendT i s x y
    |_=>none
   |_,_=>none
  |_=>none
 |_,_=>none
end TL
end
section
namespace TL
open Go
inductive Ex where
 |nrm
 |ext (id:Nat)
 |ret
 |pan (v:T)
def ungd:T->Option (Prop×T)
 | .gd c v=>some (c=true,v)
 |t=>some (True,t)
def calleeT:T->List T->Option (FuncId×List T)
 | .fn (.func f) first cap,args=>some (f,first++args++cap)
 |_,_=>none
section
variable (E:Env)
def gamT (s:St) (f:FuncId) (args:List T):Option (Prop×T×St):=
 match E.gam f with
 |none=>none
 |some c=>match toDs s args with
  |none=>none
  |some (p,ds,os)=>(freeze s os).map λs'=>(p∧c.pre ds,.sym (c.f ds),s')
abbrev CallW:=FuncId->List T->St->(T->St->Prop)->(T->St->Prop)->Prop
def pand (p q:Prop):Prop:=p∧q
variable (call:CallW)
def wpOper (o:Oper) (fr:Fr) (s:St) (kp:T->St->Prop) (k:T->St->Prop):Prop:=
 match o.op with
 | .call c=>match opdsT fr c.args.toList with
  |none=>False
  |some args=>match c.callee with
   | .builtin b=>match builtinT E s b c.argTypes args with
    |none=>False
    |some (p,t,s')=>p∧k t s'
   | .value f=>match (opdT fr f).bind (calleeT · args) with
    |none=>False
    |some (f,args)=>match gamT E s f args with
     |some (p,t,s')=>p∧k t s'
     |none=>call f args s k kp
   | .invoke _ _=>False
 | .panic x=>match opdT fr x with
  |some (.ifc t v)=>kp (.ifc t v) s
  |_=>False
 |op=>match opT E fr s op with
  |none=>False
  |some (p,t,s')=>p∧k t s'
def gdFr (c:Bool) (fr:Fr) (o:Op):Option (Prop×Fr):=
 o.operands.toList.foldl (λr x=>match r,x with
  |some (p,f),.tmp k=>match f.get k with
   |some (.gd g v)=>some (p∧(c=true->g=true),f.put k v)
   |_=>some (p,f)
  |r,_=>r) (some (True,fr))
def guardT (ops:Array Oper) (fr:Fr) (o:Oper):Option (Option (Prop×Bool)):=
 match o.guard with
 |none=>some none
 |some (j,want)=>match ((nth ops.toList j).bind (·.dst)).bind fr.get with
  |some t=>match boolT t with
   |some (p,b)=>some (some (p,D.beq b want))
   |none=>none
  |none=>none
def quietT (fr:Fr) (s:St) (o:Oper):Option (Prop×T):=
 match o.op with
 | .call c=>match opdsT fr c.args.toList with
  |none=>none
  |some args=>match c.callee with
   | .builtin .len=>(builtinT E s .len c.argTypes args).map λ(p,t,_)=>(p,t)
   | .value f=>match (opdT fr f).bind (calleeT · args) with
    |none=>none
    |some (f,args)=>match E.gam f,toDs s args with
     |some c,some (p,ds,[])=>some (p∧c.pre ds,.sym (c.f ds))
     |_,_=>none
   |_=>none
 | .store ..|.alloc ..|.box ..|.buildSlice ..=>none
 | .slice t x lo hi mx=>match opdT fr x with
  |some (.sh _ _)=>none
  |_=>(opT E fr s (.slice t x lo hi mx)).map λ(p,t,_)=>(p,t)
 |op=>(opT E fr s op).map λ(p,t,_)=>(p,t)
def okDst (fr:Fr):Option Nat->Bool
 |none=>true
 |some d=>Nat.blt d fr.n
def wpOps (ops:Array Oper) (kp:Fr->T->St->Prop) (k:Fr->St->Prop):List Oper->Fr->St->Prop
 |[],fr,s=>k fr s
 |o ::l,fr,s=>match okDst fr o.dst,guardT ops fr o with
  |false,_=>False
  |true,none=>False
  |true,some none=>wpOper E call o fr s (kp fr) λt s'=>wpOps ops kp k l (fr.putO o.dst t) s'
  |true,some (some (pg,c))=>match gdFr c fr o.op with
   |none=>False
   |some (p,f)=>match quietT E f s o with
    |none=>False
    |some (q,t)=>pg∧p∧(c=true->q)∧wpOps ops kp k l (fr.putO o.dst (.gd c t)) s
end
def initTm:List T->Nat->Tr T->Tr T
 |[],_,t=>t
 |a ::l,k,t=>initTm l (Nat.succ k) (t.set fuelTr k a)
def resultsT (E:Env) (s:St) (fr:Fr):List ResultVar->Option (Prop×List T)
 |[]=>some (True,[])
 | .tmp t ::l=>match fr.get t,resultsT E s fr l with
  |some x,some (p,r)=>some (p,x ::r)
  |_,_=>none
 | .cell a t ::l=>match (E.ti t),fr.get a with
  |some i,some a=>match loadT i s a,resultsT E s fr l with
   |some (p,x,_),some (q,r)=>some (p∧q,x ::r)
   |_,_=>none
  |_,_=>none
def tupT:List T->T
 |[x]=>x
 |l=>.tup l
structure LS where
 n:Nat
 tm:List (Nat×T)
 ob:List (Nat×Ob)
 nob:Nat
 fl:Nat
 lo:Nat
def LS.fr (l:LS):Fr:=⟨l.n,l.tm.foldr (λp t=>t.set fuelTr p.1 p.2) .nil,[]⟩
def LS.st (l:LS):St:=⟨l.ob.foldr (λp t=>t.set fuelTr p.1 p.2) .nil,l.nob,l.fl,l.lo⟩
mutual
def below (n:Nat):T->Bool
 | .ptr o _=>Nat.blt o n
 | .epw o _ _ _=>Nat.blt o n
 | .sh o _=>Nat.blt o n
 | .mp o=>Nat.blt o n
 | .yld o=>Nat.blt o n
 | .slb o _=>Nat.blt o n
 | .itr o=>Nat.blt o n
 | .fn _ a b=>belows n a&&belows n b
 | .ifc _ v=>below n v
 | .agg cs=>belows n cs
 | .tup cs=>belows n cs
 | .gd _ v=>below n v
 |_=>true
def belows (n:Nat):List T->Bool
 |[]=>true
 |t ::l=>below n t&&belows n l
end
def obBelow (n:Nat):Ob->Bool
 | .box cs=>belows n cs
 |_=>true
def fitsTm (fr:Fr) (n:Nat):List (Nat×T)->Prop
 |[]=>True
 |(k,t) ::l=>(fr.get k=some t∧below n t=true)∧fitsTm fr n l
def fitsOb (s:St) (n:Nat):List (Nat×Ob)->Prop
 |[]=>True
 |(k,t) ::l=>(s.ob.get k=some t∧Nat.blt k n=true∧obBelow n t=true)∧fitsOb s n l
def LS.fits (l:LS) (fr:Fr) (s:St):Prop:=
 fr.n=l.n∧s.fl=l.fl∧s.lo=l.lo∧Nat.ble l.lo l.nob=true∧Nat.ble l.nob s.nob=true∧fitsTm fr l.nob l.tm∧fitsOb s l.nob l.ob
def exLoop (k:Fr->St->Prop) (Q:Ex->Fr->St->Prop):Ex->Fr->St->Prop
 | .nrm,fr,s=>k fr s
 | .ext i,fr,s=>Q (.ext i) fr s
 | .ret,fr,s=>Q .ret fr s
 | .pan v,fr,s=>Q (.pan v) fr s
def exSeq (k:Fr->St->Prop) (Q:Ex->Fr->St->Prop):Ex->Fr->St->Prop
 | .nrm,fr,s=>k fr s
 | .ext i,fr,s=>Q (.ext i) fr s
 | .ret,fr,s=>Q .ret fr s
 | .pan v,fr,s=>Q (.pan v) fr s
def exBlock (i:Nat) (Q:Ex->Fr->St->Prop):Ex->Fr->St->Prop
 | .nrm,fr,s=>Q .nrm fr s
 | .ext j,fr,s=>match Nat.beq j i with
  |true=>Q .nrm fr s
  |false=>Q (.ext j) fr s
 | .ret,fr,s=>Q .ret fr s
 | .pan v,fr,s=>Q (.pan v) fr s
def wpC (E:Env) (call:CallW):Code->(Ex->Fr->St->Prop)->Fr->St->Prop
 | .region _ ops false,Q,fr,s=>wpOps E call ops (λfr t s=>Q (.pan t) fr s) (Q .nrm) ops.toList fr s
 | .seq a b,Q,fr,s=>wpC E call a (exSeq (wpC E call b Q) Q) fr s
 | .cond c a b,Q,fr,s=>match opdT fr c with
  |some (.kb true)=>wpC E call a Q fr s
  |some (.kb false)=>wpC E call b Q fr s
  |some t=>match boolT t with
   |some (p,t)=>p∧(t=true->wpC E call a Q fr s)∧(t=false->wpC E call b Q fr s)
   |none=>False
  |none=>False
 | .block i b,Q,fr,s=>wpC E call b (exBlock i Q) fr s
 | .loop b,Q,fr,s=>∃(α:Type) (L:α->LS) (μ:α->Nat) (x:α),(L x).fits fr s∧
   ∀x,wpC E call b (exLoop (λfr s=>∃y,μ y<μ x∧(L y).fits fr s) Q) (L x).fr (L x).st
 | .exit i,Q,fr,s=>Q (.ext i) fr s
 | .ret,Q,fr,s=>Q .ret fr s
 | .skip,Q,fr,s=>Q .nrm fr s
 | .label _,Q,fr,s=>Q .nrm fr s
 | .scope b,Q,fr,s=>wpC E call b Q fr s
 |_,_,_,_=>False
def callW (E:Env):Nat->CallW
 |0,_,_,_,_,_=>False
 |n+1,f,args,s,k,kp=>match E.fnc f with
  |none=>False
  |some fn=>match fn.body with
   |none=>False
   |some c=>
    bif Nat.ble (lenL args) fn.ntmps&&Nat.blt fn.ntmps bigN then
     wpC E (callW E n) c (λe fr s'=>match e with
      | .nrm|.ret=>match resultsT E s' fr fn.results.toList with
       |some (p,l)=>p∧k (tupT l) {s' with lo:=s.lo}
       |none=>False
      | .pan v=>kp v {s' with lo:=s.lo}
      | .ext _=>False) {n:=fn.ntmps,tm:=initTm args 0 .nil} {s with lo:=s.nob}
    else False
end TL
end
section
namespace TL
theorem lenL_eq {α:Type} (l:List α):lenL l=l.length:=by
 induction l with
 |nil=>rfl
 |cons a l ih=>simp[lenL,ih]
theorem nth_eq {α:Type} (l:List α) (k:Nat):nth l k=l[k]?:=by
 induction l generalizing k with
 |nil=>cases k<;>rfl
 |cons a l ih=>cases k with
  |zero=>rfl
  |succ k=>simp[nth,ih]
namespace Tr
variable {α:Type}
theorem get_nil (k:Nat):(Tr.nil:Tr α).get k=none:=by cases k<;>rfl
theorem get_zero (v:Option α) (l r:Tr α):(Tr.node v l r).get 0=v:=by simp[get]
theorem get_succ (v:Option α) (l r:Tr α) (k:Nat):(Tr.node v l r).get (k+1)=if k%2=0 then l.get (k/2) else r.get (k/2):=by
 simp[get]
 by_cases h:k%2=0
 .have:Nat.beq (Nat.mod k 2) 0=true:=by
   show Nat.beq (k%2) 0=true
   rw[h];rfl
  simp[this,h]
  rfl
 .have:Nat.beq (Nat.mod k 2) 0=false:=by
   show Nat.beq (k%2) 0=false
   have:k%2=1:=by omega
   rw[this];rfl
  simp[this,h]
  rfl
theorem set_zero_node (n:Nat) (v:Option α) (l r:Tr α) (x:α):Tr.set (n+1) (.node v l r) 0 x=.node (some x) l r:=rfl
theorem set_zero_nil (n:Nat) (x:α):Tr.set (n+1) .nil 0 x=.node (some x) .nil .nil:=rfl
theorem set_succ_node (n:Nat) (v:Option α) (l r:Tr α) (k:Nat) (x:α) :
  Tr.set (n+1) (.node v l r) (k+1) x=if k%2=0 then .node v (Tr.set n l (k/2) x) r else .node v l (Tr.set n r (k/2) x):=by
 simp[set]
 by_cases h:k%2=0
 .have:Nat.beq (Nat.mod k 2) 0=true:=by
   show Nat.beq (k%2) 0=true
   rw[h];rfl
  simp[this,h]
  rfl
 .have:Nat.beq (Nat.mod k 2) 0=false:=by
   show Nat.beq (k%2) 0=false
   have:k%2=1:=by omega
   rw[this];rfl
  simp[this,h]
  rfl
theorem set_succ_nil (n:Nat) (k:Nat) (x:α) :
  Tr.set (n+1) .nil (k+1) x=if k%2=0 then .node none (Tr.set n .nil (k/2) x) .nil else .node none .nil (Tr.set n .nil (k/2) x):=by
 simp[set]
 by_cases h:k%2=0
 .have:Nat.beq (Nat.mod k 2) 0=true:=by
   show Nat.beq (k%2) 0=true
   rw[h];rfl
  simp[this,h]
  rfl
 .have:Nat.beq (Nat.mod k 2) 0=false:=by
   show Nat.beq (k%2) 0=false
   have:k%2=1:=by omega
   rw[this];rfl
  simp[this,h]
  rfl
theorem get_set (n:Nat):∀(t:Tr α) (k j:Nat) (x:α),k+1<2 ^ n->(Tr.set n t k x).get j=if j=k then some x else t.get j:=by
 induction n with
 |zero=>omega
 |succ n ih=>
  intro t k j x h
  cases k with
  |zero=>
   cases t with
   |nil=>
    rw[set_zero_nil]
    cases j with
    |zero=>rfl
    |succ j=>rw[get_succ];simp[get_nil]
   |node v l r=>
    cases j with
    |zero=>rfl
    |succ j=>rfl
  |succ k=>
   have hk':k/2+1<2 ^ n:=by
    omega
   cases t with
   |nil=>
    rw[set_succ_nil]
    cases j with
    |zero=>split<;>simp[get_zero,get_nil]
    |succ j=>
     by_cases hk2:k%2=0
     .rw[if_pos hk2,get_succ,get_nil]
      by_cases hj2:j%2=0
      .grind[get_nil]
      .rw[if_neg hj2,get_nil,if_neg (by omega)]
     .rw[if_neg hk2,get_succ,get_nil]
      by_cases hj2:j%2=0
      .rw[if_pos hj2,get_nil,if_neg (by omega)]
      .grind[get_nil]
   |node v l r=>
    rw[set_succ_node]
    cases j with
    |zero=>split<;>simp[get_zero]
    |succ j=>
     by_cases hk2:k%2=0
     .rw[if_pos hk2,get_succ,get_succ]
      grind
     .rw[if_neg hk2,get_succ,get_succ]
      grind
theorem get_set64 (t:Tr α) (k j:Nat) (x:α) (h:k<bigN):(Tr.set fuelTr t k x).get j=if j=k then some x else t.get j:=
 get_set _ _ _ _ _ (by unfold fuelTr;unfold bigN at h;omega)
end Tr
end TL
end
section
namespace TL
open Go
structure ASl where
 a:Option Addr
 len:Nat
 cap:Nat
 sz:Nat
structure Gh where
 blk:Nat->Option Nat
 arr:Nat->Nat->Option ASl
 imm:Nat->Prop
inductive DRel (I:Nat->Prop) (w:World):D->Value->Prop where
 |lit (v:Value):DRel I w (.lit v) v
 |sl (es:List D) (a:Option Addr) (cap sz:Nat) (val:Nat->Nat->Value)
   (hcap:es.length<=cap) (hsz:∀d∈es,d.cells.length=sz) (hby:∀d∈es,es.length*d.by_<=281474976710656)
   (ha:es≠[]->∃ad,a=some ad∧I ad.block∧∀i j d c,es[i]?=some d->d.cells[j]?=some c->w.cell? (ad.add (i*sz+j))=some (val i j))
   (hc:∀i j d c,es[i]?=some d->d.cells[j]?=some c->DRel I w c (val i j)):DRel I w (.sl es) (.slice a es.length cap)
 |agg (cs:List D) (vs:Array Value) (hl:cs.length=vs.size) (hf:∀c∈cs,c.leaf=true)
   (h:∀(j:Nat) (c:D) (v:Value),cs[j]?=some c->vs[j]?=some v->DRel I w c v):DRel I w (.agg cs) (.agg vs)
 |ifc (t:TypeId) (d:D) (v:Value) (h:DRel I w d v):DRel I w (.ifc t d) (.iface t v)
 |tup (ds:List D) (vs:Array Value) (hl:ds.length=vs.size)
   (h:∀(j:Nat) (c:D) (v:Value),ds[j]?=some c->vs[j]?=some v->DRel I w c v):DRel I w (.tup ds) (.tuple vs)
 |pt (d:D) (ad:Addr) (val:Nat->Value) (hi:I ad.block) (hc:∀j c,d.cells[j]?=some c->w.cell? (ad.add j)=some (val j))
   (hd:∀j c,d.cells[j]?=some c->DRel I w c (val j)):DRel I w (.pt d) (.pointer (some (ad.add 0)))
 |mp (ks vs:List D) (b:Nat) (ms:Array MapEntry) (n:Nat) (hi:I b) (hb:w.heap[b]?=some (.map ms n)) (h1:ks.length=ms.size) (h2:vs.length=ms.size)
   (hk:∀(j:Nat) (c:D) (m:MapEntry),ks[j]?=some c->ms[j]?=some m->DRel I w c m.key) (hv:∀(j:Nat) (c:D) (m:MapEntry),vs[j]?=some c->ms[j]?=some m->DRel I w c m.val):DRel I w (.mp ks vs) (.map (some b))
 |mpp (ks vs ks' vs':List D) (b:Nat) (hp:List.Perm (ks.zip vs) (ks'.zip vs')) (hl:ks.length=vs.length) (hl':ks'.length=vs'.length) (hn:ks.Nodup) (h:DRel I w (.mp ks' vs') (.map (some b))):DRel I w (.mp ks vs) (.map (some b))
def tabs:List (Nat×Array Value):=[]
def Keeps (I:Nat->Prop) (w w':World):Prop:=∀b,I b->w'.heap[b]?=w.heap[b]?
def GlOk (I:Nat->Prop) (w:World):Prop:=∀p∈tabs,I p.1∧∃ty fz,w.heap[p.1]?=some (.cells p.2 ty fz)
theorem GlOk.mono {I I':Nat->Prop} {w w':World} (h:GlOk I w) (hk:Keeps I w w') (hI:∀b,I b->I' b):GlOk I' w':=λp hp=>
 let ⟨h1,ty,fz,e⟩:=h p hp
 ⟨hI _ h1,ty,fz,(hk _ h1).trans e⟩
theorem Keeps.cell {I:Nat->Prop} {w w':World} (h:Keeps I w w') {a:Addr} (ha:I a.block):w'.cell? a=w.cell? a:=by
 unfold World.cell?
 rw[h _ ha]
theorem add_block (a:Addr) (n:Nat):(a.add n).block=a.block:=by unfold Addr.add;split<;>rfl
theorem DRel.mono {I I':Nat->Prop} {w w':World} (hk:Keeps I w w') (hI:∀b,I b->I' b) {d:D} {v:Value} (h:DRel I w d v):DRel I' w' d v:=by
 induction h with
 |lit v=>exact .lit v
 |sl es a cap sz val hcap hsz hby ha hc ih=>
  refine .sl es a cap sz val hcap hsz hby (λhne=>?_) ih
  let ⟨ad,he,hb,hcell⟩:=ha hne
  refine ⟨ad,he,hI _ hb,λi j d c hd hcj=>?_⟩
  rw[hk.cell (by rw[add_block];exact hb)]
  simp_all
 |agg cs vs hl hf h ih=>exact .agg cs vs hl hf ih
 |ifc t d v h ih=>exact .ifc t d v ih
 |tup ds vs hl h ih=>exact .tup ds vs hl ih
 |pt d ad val hi hc hd ih=>exact .pt d ad val (hI _ hi) (λj c hj=>by rw[hk.cell (by rw[add_block];exact hi)];exact hc j c hj) ih
 |mp ks vs b ms n hi hb h1 h2 _ _ ih ih'=>exact .mp ks vs b ms n (hI _ hi) (by rw[hk b hi];exact hb) h1 h2 ih ih'
 |mpp ks vs ks' vs' b hp hl hl' hn _ ih=>exact .mpp ks vs ks' vs' b hp hl hl' hn ih
def rc (r i:Nat):Nat:=2 ^ r*(2*i+1)
def litD (nj:Nat) (d:D) (h:Value):D:=.agg (d.cells.set nj (.lit h))
inductive TRel (g:Gh) (w:World):T->Value->Prop where
 |sym (d:D) (v:Value) (h:DRel g.imm w d v):TRel g w (.sym d) v
 |kb (b:Bool):TRel g w (.kb b) (.bool b)
 |kn (k:IntKind) (n:Int):TRel g w (.kn k n) (.int k n)
 |ptr (o off b:Nat) (h:g.blk o=some b):TRel g w (.ptr o off) (.pointer (some ⟨b,off,none⟩))
 |ept (d:D) (off:Nat) (ad:Addr) (val:Nat->Value) (hi:g.imm ad.block)
   (hc:∀j c,d.cells[j]?=some c->w.cell? (ad.add j)=some (val j)) (hd:∀j c,d.cells[j]?=some c->DRel g.imm w c (val j)) :
   TRel g w (.ept d off) (.pointer (some (ad.add off)))
 |epw (o e i off len cap sz:Nat) (ad:Addr) (h:g.arr o e=some ⟨some ad,len,cap,sz⟩):TRel g w (.epw o e i off) (.pointer (some (ad.add (i*sz+off))))
 |sh (o e len cap sz:Nat) (a:Option Addr) (h:g.arr o e=some ⟨a,len,cap,sz⟩):TRel g w (.sh o e) (.slice a len cap)
 |emp (a:Option Addr):TRel g w .emp (.slice a 0 0)
 |clp (n:Nat) (es:List D) (a:Option Addr) (hn:n<=es.length) (h:DRel g.imm w (.sl es) (.slice a es.length es.length)):TRel g w (.clp n es) (.slice a es.length es.length)
 |fn (f:Fn) (fs cs:List T) (va vc:Array Value) (hl:fs.length=va.size) (hm:cs.length=vc.size)
   (h:∀(j:Nat) (t:T) (v:Value),fs[j]?=some t->va[j]?=some v->TRel g w t v)
   (h':∀(j:Nat) (t:T) (v:Value),cs[j]?=some t->vc[j]?=some v->TRel g w t v):TRel g w (.fn f fs cs) (.func f va vc)
 |ifc (t:TypeId) (x:T) (v:Value) (h:TRel g w x v):TRel g w (.ifc t x) (.iface t v)
 |agg (cs:List T) (vs:Array Value) (hl:cs.length=vs.size)
   (h:∀(j:Nat) (t:T) (v:Value),cs[j]?=some t->vs[j]?=some v->TRel g w t v):TRel g w (.agg cs) (.agg vs)
 |tup (cs:List T) (vs:Array Value) (hl:cs.length=vs.size)
   (h:∀(j:Nat) (t:T) (v:Value),cs[j]?=some t->vs[j]?=some v->TRel g w t v):TRel g w (.tup cs) (.tuple vs)
 |gd (c:Bool) (t:T) (v:Value) (h:c=true->TRel g w t v):TRel g w (.gd c t) v
 |mp (o b:Nat) (h:g.blk o=some b):TRel g w (.mp o) (.map (some b))
 |yld (o b:Nat) (h:g.blk o=some b):TRel g w (.yld o) (.func (.yield b) #[] #[])
 |slb (o n b:Nat) (h:g.blk o=some b):TRel g w (.slb o n) (.slice (some ⟨b,0,none⟩) n n)
 |itr (o b:Nat) (h:g.blk o=some b):TRel g w (.itr o) (.pointer (some ⟨b,0,none⟩))
 |ub (e b:Bool) (h:b=true->e=true):TRel g w (.ub e) (.bool b)
 |nel (o m r i len cap sz:Nat) (a:Option Addr) (h:g.arr m (rc r i)=some ⟨a,len,cap,sz⟩):TRel g w (.nel o m r i) (.slice a len cap)
 |cln (j:Nat) (d:D) (c:Option Addr) (a:Option Addr) (hj:d.cells[j]?=some (.sl [])) (hd:DRel g.imm w (.sl [litD j d (.slice c 0 0)]) (.slice a 1 1)):TRel g w (.cln j d) (.slice a 1 1)
inductive ObRel (g:Gh) (w:World) (b:Nat):Ob->Obj->Prop where
 |box (cs:List T) (vs:Array Value) (ty:TypeId) (hl:cs.length=vs.size) (h:∀(j:Nat) (t:T) (v:Value),cs[j]?=some t->vs[j]?=some v->TRel g w t v):ObRel g w b (.box cs) (.cells vs ty (0,0))
 |map (es:List (T×T)) (ms:Array MapEntry) (c:Nat) (hl:es.length=ms.size)
   (h:∀(j:Nat) (t:T×T) (m:MapEntry),es[j]?=some t->ms[j]?=some m->TRel g w t.1 m.key∧TRel g w t.2 m.val):ObRel g w b (.map es) (.map ms c)
 |sit (s:ByteArray) (pos:Nat):ObRel g w b (.sit s pos) (.stringIter s pos)
 |lp (l:Lp) (r:Loop) (h1:r.state=l.st) (h2:r.pending=l.pend) (h4:r.params.toList=l.params) (h5:r.assign=l.assign) (h6:r.body=l.body)
   (h8:r.tmps.size=l.fr.n) (h9:∀k t,l.fr.get k=some t->∃v,r.tmps[k]?=some v∧TRel g w t v):ObRel g w b (.lp l) (.loop r)
 |dfr:ObRel g w b .dfr (.deferred (some []))
 |lpd (st:LoopState) (pend:Option Code) (r:Loop) (h1:r.state=st) (h2:r.pending=pend):ObRel g w b (.lpd st pend) (.loop r)
 |bld (ty:TypeId) (m:Nat) (p v:Value) (hp:p=.pointer none∨p=.pointer (some ⟨b,0,none⟩)) (hv:TRel g w (.sh m 0) v):ObRel g w b (.bld ty m) (.cells #[p,v] ty (0,0))
def Owned (g:Gh) (o b:Nat):Prop:=¬g.imm b∧(g.blk o=some b∨∃e x ad,g.arr o e=some x∧x.a=some ad∧ad.block=b∧x.cap≠0)
structure AOk (g:Gh) (w:World) (fz:Bool) (sz:Nat) (es:List D) (x:ASl):Prop where
 len:x.len=es.length
 cap:x.len<=x.cap
 rows:∀d∈es,d.cells.length=sz
 pos:0<sz
 byt:∀d∈es,es.length*d.by_<=281474976710656
 mem:x.cap≠0->∃b vs ty,x.a=some ⟨b,0,none⟩∧(fz=true↔g.imm b)∧w.heap[b]?=some (.cells vs ty (0,0))∧x.cap*sz<=vs.size∧
  ∀i d j c,es[i]?=some d->d.cells[j]?=some c->∃v,vs[i*sz+j]?=some v∧DRel g.imm w c v
def arrOb (fz:Bool) (sz:Nat) (es:List D) (era:Nat):Ob:=if fz then .frz sz es era else .arr sz es era
def BoxOk (g:Gh) (s:St) (w:World) (o b:Nat):Prop:=
 ¬g.imm b∧b<w.heap.size∧∀ob,s.ob.get o=some ob->∃h,w.heap[b]?=some h∧ObRel g w b ob h
theorem BoxOk.box {g:Gh} {s:St} {w:World} {o b:Nat} (h:BoxOk g s w o b) {cs:List T} (ho:s.ob.get o=some (.box cs)) :
  ∃vs ty,w.heap[b]?=some (.cells vs ty (0,0))∧cs.length=vs.size∧∀(j:Nat) (t:T) (v:Value),cs[j]?=some t->vs[j]?=some v->TRel g w t v:=by
 let ⟨x,hh,hr⟩:=h.2.2 _ ho
 cases hr with
 |box cs vs ty hl hr=>grind
theorem BoxOk.notArr {g:Gh} {s:St} {w:World} {o b:Nat} (h:BoxOk g s w o b) (fz:Bool) {sz:Nat} {es:List D} {e:Nat} (ho:s.ob.get o=some (if fz then .frz sz es e else .arr sz es e)):False:=by
 let ⟨x,hh,hr⟩:=h.2.2 _ ho
 cases fz<;>cases hr
theorem ObRel.notArr {g:Gh} {w:World} {b:Nat} {ob:Ob} {h:Obj} (hr:ObRel g w b ob h):ob.isArr=false:=by cases hr<;>rfl
def ASl.at (x:ASl) (b:Nat):Prop:=∃ad,x.a=some ad∧ad.block=b∧x.cap≠0
def lits (nj:Nat) (es:List D) (hs:List Value):List D:=List.zipWith (litD nj) es hs
def Link (g:Gh) (m rera:Nat) (hole:Option Nat) (hs:List Value):Prop:=
 (∀(i:Nat) (h:Value),hs[i]?=some h->∃a n k,h=.slice a n k)∧∀(i:Nat) (h:Value),hs[i]?=some h->hole≠some i->∃y,g.arr m (rc rera i)=some y∧h=.slice y.a y.len y.cap
def PlainAt (g:Gh) (w:World) (o e:Nat) (x:ASl) (ob:Ob):Prop:=
 ∃fz es era,ob=arrOb fz x.sz es era∧e<=era∧(∀e',era<e'->g.arr o e'=none)∧(e=era->AOk g w fz x.sz es x)
def NarAt (g:Gh) (w:World) (o e:Nat) (x:ASl) (ob:Ob):Prop:=
 ∃nj es era m rera hole,ob=.nar nj x.sz es era m rera hole∧e<=era∧(∀e',era<e'->g.arr o e'=none)∧
  (e=era->∃hs,hs.length=es.length∧AOk g w false x.sz (lits nj es hs) x∧Link g m rera hole hs)
def RwsAt (g:Gh) (w:World) (o e:Nat) (x:ASl) (ob:Ob):Prop:=
 ∃sz rss rera,ob=.rws sz rss rera∧(∀r i,rera<r->g.arr o (rc r i)=none)∧
  (∀i i' y y',i≠i'->g.arr o (rc rera i)=some y->g.arr o (rc rera i')=some y'->∀b,y.at b->¬y'.at b)∧
  (∀i,e=rc rera i->x.sz=sz∧∃rs,rss[i]?=some rs∧AOk g w false sz rs x)
def MksAt (g:Gh) (w:World) (e:Nat) (x:ASl) (ob:Ob):Prop:=
 ob=.mks∧x.a=some ⟨e,0,none⟩∧x.cap≠0∧¬g.imm e∧w.heap[e]?=some (.deferred (some []))
def BufOk (I:Nat->Prop) (w:World) (ty:TypeId) (l:List UInt8) (x:ASl):Prop:=
 ((l=[]∧x.a=none∧x.len=0∧x.cap=0)∨(l≠[]∧∃b,x.a=some ⟨b,0,none⟩∧x.cap≠0∧¬I b))∧w.ownsRowF 0 ty 1 (.slice x.a x.len x.cap) l.length (Go.Lib.byteCells l)
def BufAt (g:Gh) (w:World) (x:ASl) (ob:Ob):Prop:=∃ty l,ob=.bbf ty l∧BufOk g.imm w ty l x
theorem BufOk.tr {I I':Nat->Prop} {w w':World} {ty:TypeId} {l:List UInt8} {x:ASl} (h:BufOk I w ty l x) (hM:∀b,x.a=some ⟨b,0,none⟩->x.cap≠0->w'.heap[b]?=w.heap[b]?∧(I' b->I b)):BufOk I' w' ty l x:=by
 obtain ⟨h1,h2,h3⟩:=h
 rcases h1 with ⟨rfl,a1,a2,a3⟩|⟨a1,b,a2,a3,a4⟩
 .refine ⟨.inl ⟨rfl,a1,a2,a3⟩,h2,.inl ⟨by rw[a1,a2,a3],rfl⟩⟩
 .let ⟨k1,k2⟩:=hM b a2 a3
  refine ⟨.inr ⟨a1,b,a2,a3,λh=>a4 (k2 h)⟩,h2,?_⟩
  rcases h3 with ⟨h4,_⟩|⟨g,cap,cur,fz,h4,h5,h6,h7⟩
  .rw[a2] at h4;simp at h4
  .have hg:g=b:=by rw[a2] at h4;simp at h4;exact h4.1.symm
   subst hg
   exact .inr ⟨g,cap,cur,fz,h4,h5,k1.trans h6,h7⟩
def ArrAt (g:Gh) (w:World) (o e:Nat) (x:ASl) (ob:Ob):Prop:=
 PlainAt g w o e x ob∨NarAt g w o e x ob∨RwsAt g w o e x ob∨ob=.gone∨MksAt g w e x ob∨BufAt g w x ob
theorem ArrAt.isArr {g:Gh} {w:World} {o e:Nat} {x:ASl} {ob:Ob} (h:ArrAt g w o e x ob):ob.isArr=true:=by
 rcases h with ⟨fz,_,_,rfl,_⟩|⟨_,_,_,_,_,_,rfl,_⟩|⟨_,_,_,rfl,_⟩|rfl|⟨rfl,_⟩|⟨_,_,rfl,_⟩
 .cases fz<;>rfl
 .rfl
 .rfl
 .rfl
 .rfl
 .rfl
theorem ArrAt.old {g:Gh} {w:World} {o e:Nat} {x:ASl} {ob:Ob} (h:ArrAt g w o e x ob) (hi:ob.isA=true):PlainAt g w o e x ob:=by
 rcases h with h|⟨_,_,_,_,_,_,rfl,_⟩|⟨_,_,_,rfl,_⟩|rfl|⟨rfl,_⟩|⟨_,_,rfl,_⟩
 .exact h
 .cases hi
 .cases hi
 .cases hi
 .cases hi
 .cases hi
def ArrOk (g:Gh) (s:St) (w:World) (o e:Nat) (x:ASl):Prop:=
 (∀ad,x.a=some ad->x.cap≠0->ad.block<w.heap.size)∧∀ob,s.ob.get o=some ob->ArrAt g w o e x ob
theorem ArrOk.old {g:Gh} {s:St} {w:World} {o e:Nat} {x:ASl} (h:ArrOk g s w o e x) (ob:Ob) (ho:s.ob.get o=some ob) (hi:ob.isA=true) :
  ∃fz es era,ob=arrOb fz x.sz es era∧e<=era∧(∀e',era<e'->g.arr o e'=none)∧(e=era->AOk g w fz x.sz es x):=(h.2 ob ho).old hi
theorem arrOb_isA (fz:Bool) (sz:Nat) (es:List D) (era:Nat):(arrOb fz sz es era).isA=true:=by cases fz<;>rfl
structure SRel (g:Gh) (s:St) (w:World):Prop where
 nob:s.nob<=bigN
 bnd:∀o,s.nob<=o->g.blk o=none∧∀e,g.arr o e=none
 box:∀o b,g.blk o=some b->BoxOk g s w o b
 arr:∀o e x,g.arr o e=some x->ArrOk g s w o e x
 imm:∀b,g.imm b->b<w.heap.size
 uni:∀o o' b,Owned g o b->Owned g o' b->o=o'
 glo:GlOk g.imm w
inductive DfRel (g:Gh) (w:World):Df->Deferred->Prop where
 |call (f:T) (args:List T) (fv:Fn) (first cap vargs:Array Value) (h3:TRel g w f (.func fv first cap)) (h4:args.length=vargs.size)
   (h5:∀(j:Nat) (t:T) (v:Value),args[j]?=some t->vargs[j]?=some v->TRel g w t v):DfRel g w (.call f args) {target:=.fn fv cap,args:=first++vargs}
 |mark (o b:Nat) (h:g.blk o=some b):DfRel g w (.mark o) {target:=.collected b,args:=#[]}
 |bad (d:Deferred):DfRel g w .bad d
inductive DfRels (g:Gh) (w:World):List Df->List Deferred->Prop where
 |nil:DfRels g w [] []
 |cons {d:Df} {e:Deferred} {l:List Df} {m:List Deferred} (h:DfRel g w d e) (t:DfRels g w l m):DfRels g w (d ::l) (e ::m)
 |marks (o:Nat) (bs:List Nat) {l:List Df} {m:List Deferred} (hn:bs.Nodup) (h:∀b∈bs,∃n c,TRel g w (.sh o b) (.slice (some ⟨b,0,none⟩) n c)) (t:DfRels g w l m):DfRels g w (.marks o ::l) (bs.map (λb=>{target:=.collected b,args:=#[]})++m)
 |bads (xs:List Deferred) {l:List Df} {m:List Deferred} (t:DfRels g w l m):DfRels g w (.bads ::l) (xs++m)
structure FRel (g:Gh) (fr:Fr) (a:Act) (w:World):Prop where
 size:a.tmps.size=fr.n
 df:DfRels g w fr.df a.defers
 tm:∀k t,fr.get k=some t->∃v,a.tmps[k]?=some v∧TRel g w t v
structure Ext (fl:Nat) (g:Gh) (w:World) (g':Gh) (w':World):Prop where
 blk:∀o b,g.blk o=some b->g'.blk o=some b
 arr:∀o e x,g.arr o e=some x->g'.arr o e=some x
 imm:∀b,g.imm b->g'.imm b
 size:w.heap.size<=w'.heap.size
 heap:∀b,b<w.heap.size->(∀o,fl<=o->¬Owned g o b)->w'.heap[b]?=w.heap[b]?
 own:∀o b,Owned g' o b->Owned g o b∨w.heap.size<=b
 immn:∀b,g'.imm b->g.imm b∨w.heap.size<=b∨∃o,fl<=o∧Owned g o b
 os:w'.os=w.os
 output:w'.output=w.output
theorem Ext.refl (fl:Nat) (g:Gh) (w:World):Ext fl g w g w:=
 ⟨λ_ _ h=>h,λ_ _ _ h=>h,λ_ h=>h,Nat.le_refl _,λ_ _ _=>rfl,λ_ _ h=>.inl h,λ_ h=>.inl h,rfl,rfl⟩
theorem Ext.trans {fl:Nat} {g g' g'':Gh} {w w' w'':World} (h:Ext fl g w g' w') (k:Ext fl g' w' g'' w''):Ext fl g w g'' w'' where
 blk o b e:=k.blk o b (h.blk o b e)
 arr o e x e':=k.arr o e x (h.arr o e x e')
 imm b e:=k.imm b (h.imm b e)
 size:=Nat.le_trans h.size k.size
 heap b hb hn:=by
  rw[k.heap b (Nat.lt_of_lt_of_le hb h.size) (λo ho hO=>?_),h.heap b hb hn]
  rcases h.own o b hO with hO|hO
  .grind
  .omega
 own o b hO:=by
  rcases k.own o b hO with hO|hO
  .exact h.own o b hO
  .exact .inr (Nat.le_trans h.size hO)
 immn b hb:=by
  rcases k.immn b hb with hb|hb|⟨o,ho,hO⟩
  .exact h.immn b hb
  .exact .inr (.inl (Nat.le_trans h.size hb))
  .rcases h.own o b hO with hO|hO
   .grind
   omega
 os:=k.os.trans h.os
 output:=k.output.trans h.output
theorem Ext.mono {fl fl':Nat} {g g':Gh} {w w':World} (h:Ext fl g w g' w') (hf:fl'<=fl):Ext fl' g w g' w':=
 {h with
  heap:=λb hb hn=>h.heap b hb (λo ho=>hn o (Nat.le_trans hf ho))
  immn:=λb hb=>(h.immn b hb).imp id (Or.imp id λ⟨o,ho,hO⟩=>⟨o,Nat.le_trans hf ho,hO⟩)}
theorem Ext.keeps {fl:Nat} {g g':Gh} {w w':World} (h:Ext fl g w g' w') (hi:∀b,g.imm b->b<w.heap.size):Keeps g.imm w w':=
 λb hb=>h.heap b (hi b hb) λ_ _ hO=>hO.1 hb
theorem SRel.gext {fl:Nat} {g g':Gh} {s:St} {w w':World} (hs:SRel g s w) (he:Ext fl g w g' w'):GlOk g'.imm w':=hs.glo.mono (he.keeps hs.imm) he.imm
theorem DRel.ext {fl:Nat} {g g':Gh} {w w':World} (h:Ext fl g w g' w') (hi:∀b,g.imm b->b<w.heap.size) {d:D} {v:Value} (hd:DRel g.imm w d v):DRel g'.imm w' d v:=
 hd.mono (h.keeps hi) h.imm
theorem TRel.ext {fl:Nat} {g g':Gh} {w w':World} (h:Ext fl g w g' w') (hi:∀b,g.imm b->b<w.heap.size) {t:T} {v:Value} (ht:TRel g w t v):TRel g' w' t v:=by
 induction ht with
 |sym d v hd=>exact .sym d v (hd.ext h hi)
 |kb b=>exact .kb b
 |kn k n=>exact .kn k n
 |ptr o off b hb=>exact .ptr o off b (h.blk o b hb)
 |ept d off ad val him hc hd=>
  exact .ept d off ad val (h.imm _ him) (λj c hj=>by rw[(h.keeps hi).cell (by rw[add_block];exact him)];grind) (λj c hj=>(hd j c hj).ext h hi)
 |epw o e i off len cap sz ad hx=>exact .epw o e i off len cap sz ad (h.arr _ _ _ hx)
 |sh o e len cap sz a hx=>exact .sh o e len cap sz a (h.arr _ _ _ hx)
 |emp a=>exact .emp a
 |clp n es a hn hd=>exact .clp n es a hn (hd.ext h hi)
 |fn f fs cs va vc hl hm _ _ ih ih'=>exact .fn f fs cs va vc hl hm ih ih'
 |ifc t x v _ ih=>exact .ifc t x v ih
 |agg cs vs hl _ ih=>exact .agg cs vs hl ih
 |tup cs vs hl _ ih=>exact .tup cs vs hl ih
 |gd c t v _ ih=>exact .gd c t v ih
 |mp o b hb=>exact .mp o b (h.blk o b hb)
 |yld o b hb=>exact .yld o b (h.blk o b hb)
 |slb o n b hb=>exact .slb o n b (h.blk o b hb)
 |itr o b hb=>exact .itr o b (h.blk o b hb)
 |ub e b h=>exact .ub e b h
 |nel o m r i len cap sz a hx=>exact .nel o m r i len cap sz a (h.arr _ _ _ hx)
 |cln j d c a hj hd=>exact .cln j d c a hj (hd.ext h hi)
theorem TRel.garr {g g':Gh} {w:World} (ha:∀k j y,g.arr k j=some y->g'.arr k j=some y) (hb:g'.blk=g.blk) (hi:g'.imm=g.imm) {t:T} {v:Value} (ht:TRel g w t v):TRel g' w t v:=by
 induction ht with
 |sym d v hd=>exact .sym d v (hi▸hd)
 |kb b=>exact .kb b
 |kn k n=>exact .kn k n
 |ptr o off b h=>exact .ptr o off b (hb▸h)
 |ept d off ad val him hc hd=>exact .ept d off ad val (hi▸him) hc (λj c hj=>hi▸hd j c hj)
 |epw o e i off len cap sz ad hx=>exact .epw o e i off len cap sz ad (ha _ _ _ hx)
 |sh o e len cap sz a hx=>exact .sh o e len cap sz a (ha _ _ _ hx)
 |emp a=>exact .emp a
 |clp n es a hn hd=>exact .clp n es a hn (hi▸hd)
 |fn f fs cs va vc hl hm _ _ ih ih'=>exact .fn f fs cs va vc hl hm ih ih'
 |ifc t x v _ ih=>exact .ifc t x v ih
 |agg cs vs hl _ ih=>exact .agg cs vs hl ih
 |tup cs vs hl _ ih=>exact .tup cs vs hl ih
 |gd c t v _ ih=>exact .gd c t v ih
 |mp o b h=>exact .mp o b (hb▸h)
 |yld o b h=>exact .yld o b (hb▸h)
 |slb o n b h=>exact .slb o n b (hb▸h)
 |itr o b h=>exact .itr o b (hb▸h)
 |ub e b h=>exact .ub e b h
 |nel o m r i len cap sz a hx=>exact .nel o m r i len cap sz a (ha _ _ _ hx)
 |cln j d c a hj hd=>exact .cln j d c a hj (hi▸hd)
theorem ObRel.imp {g g':Gh} {w w':World} (hT:∀t v,TRel g w t v->TRel g' w' t v) {b:Nat} {ob:Ob} {x:Obj} (hr:ObRel g w b ob x):ObRel g' w' b ob x:=by
 cases hr with
 |box cs vs ty hl hr=>exact .box cs vs ty hl λj t v h1 h2=>hT _ _ (hr j t v h1 h2)
 |map es ms c hl hr=>exact .map es ms c hl λj t m h1 h2=>⟨hT _ _ (hr j t m h1 h2).1,hT _ _ (hr j t m h1 h2).2⟩
 |sit s pos=>exact .sit s pos
 |lp l r h1 h2 h4 h5 h6 h8 h9=>exact .lp l r h1 h2 h4 h5 h6 h8 λk t hk=>let ⟨v,hv,ht⟩:=h9 k t hk;⟨v,hv,hT _ _ ht⟩
 |dfr=>exact .dfr
 |lpd st pend r h1 h2=>exact .lpd st pend r h1 h2
 |bld ty m p v hp hv=>exact .bld ty m p v hp (hT _ _ hv)
theorem ObRel.ext {fl:Nat} {g g':Gh} {w w':World} (h:Ext fl g w g' w') (hi:∀b,g.imm b->b<w.heap.size) {b:Nat} {ob:Ob} {x:Obj} (hr:ObRel g w b ob x):ObRel g' w' b ob x:=
 hr.imp (λ_ _ ht=>ht.ext h hi)
def LeftT (p:T->Bool) (t u:T):Prop:=(u=t∧p t=false)∨∃v,u=.gd false v
def LeftObP (p:T->Bool) (ob ob2:Ob):Prop:=
 match ob,ob2 with
 | .box cs,.box ds=>cs.length=ds.length∧∀(j:Nat) (t u:T),cs[j]?=some t->ds[j]?=some u->LeftT p t u
 | .map es,.map ds=>es.length=ds.length∧∀(j:Nat) (t u:T×T),es[j]?=some t->ds[j]?=some u->LeftT p t.1 u.1∧LeftT p t.2 u.2
 | .nar nj sz es era m rera hole,ob2=>(ob2=.nar nj sz es era m rera hole∧p (.sh m 0)=false)∨ob2=.gone
 | .bld ty m,ob2=>(ob2=.bld ty m∧p (.sh m 0)=false)∨∃u v,ob2=.box [.gd false u,.gd false v]
 | .lp l,.lp m=>m={l with fr:=m.fr}∧m.fr.n=l.fr.n∧∀k u,m.fr.get k=some u->∃t,l.fr.get k=some t∧LeftT p t u
 |ob,ob2=>ob=ob2
theorem LeftT.rel {g g':Gh} {w w':World} {p:T->Bool} (hT:∀t v,TRel g w t v->p t=false->TRel g' w' t v) {t u:T} {v:Value} (h:LeftT p t u) (ht:TRel g w t v):TRel g' w' u v:=by
 rcases h with ⟨rfl,hp⟩|⟨x,rfl⟩
 .grind
 .exact .gd _ _ _ λh=>by cases h
theorem getElem?_isSome_lt' {α:Type} {l:List α} {j:Nat} {a:α} (h:l[j]?=some a):j<l.length:=(List.getElem?_eq_some_iff.1 h).1
theorem ObRel.left {g g':Gh} {w w':World} {p:T->Bool} (hT:∀t v,TRel g w t v->p t=false->TRel g' w' t v) {b:Nat} {ob ob2:Ob} {x:Obj} (hr:ObRel g w b ob x) (hl:LeftObP p ob ob2):ObRel g' w' b ob2 x:=by
 cases hr with
 |box cs vs ty hlen hr=>
  cases ob2 with
  |box ds=>
   let ⟨l1,l2⟩:=hl
   refine .box ds vs ty (by omega) λj u v hu hv=>?_
   have hj:j<cs.length:=by grind
   exact (l2 j _ u (List.getElem?_eq_getElem hj) hu).rel hT (hr j _ v (List.getElem?_eq_getElem hj) hv)
  |_=>cases hl
 |map es ms c hlen hr=>
  cases ob2 with
  |map ds=>
   let ⟨l1,l2⟩:=hl
   refine .map ds ms c (by omega) λj u m hu hm=>?_
   have hj:j<es.length:=by grind
   have h1:=l2 j _ u (List.getElem?_eq_getElem hj) hu
   have h2:=hr j _ m (List.getElem?_eq_getElem hj) hm
   exact ⟨h1.1.rel hT h2.1,h1.2.rel hT h2.2⟩
  |_=>cases hl
 |sit s pos=>cases ob2<;>first|(cases hl;exact .sit _ _)|cases hl
 |lp l r h1 h2 h4 h5 h6 h8 h9=>
  cases ob2 with
  |lp m=>
   let ⟨e,k1,k2⟩:=hl
   rw[e]
   refine .lp _ r h1 h2 h4 h5 h6 (h8.trans k1.symm) λk u hu=>?_
   let ⟨t,ht,hlt⟩:=k2 k u hu
   let ⟨v,hv,htv⟩:=h9 k t ht
   exact ⟨v,hv,hlt.rel hT htv⟩
  |_=>cases hl
 |dfr=>cases ob2<;>first|exact .dfr|cases hl
 |lpd st pend r h1 h2=>cases ob2<;>first|(cases hl;exact .lpd _ _ r h1 h2)|cases hl
 |bld ty m p v hp hv=>
  rcases hl with ⟨rfl,h⟩|⟨u,v',rfl⟩
  .exact .bld ty m p v hp (hT _ _ hv h)
  .refine .box _ _ _ rfl λj t y h1 h2=>?_
   match j with
   |0=>cases h1;exact .gd _ _ _ λh=>by cases h
   |1=>cases h1;exact .gd _ _ _ λh=>by cases h
   |j+2=>simp at h1
theorem DfRel.imp {g g':Gh} {w w':World} (hT:∀t v,TRel g w t v->TRel g' w' t v) (hb:∀o b,g.blk o=some b->g'.blk o=some b) {d:Df} {e:Deferred} (h:DfRel g w d e):DfRel g' w' d e:=by
 cases h with
 |call f args fv first cap vargs h3 h4 h5=>exact .call f args fv first cap vargs (hT _ _ h3) h4 (λj t v k1 k2=>hT _ _ (h5 j t v k1 k2))
 |mark o b h=>exact .mark o b (hb o b h)
 |bad=>exact .bad _
theorem DfRels.imp {g g':Gh} {w w':World} (hT:∀t v,TRel g w t v->TRel g' w' t v) (hb:∀o b,g.blk o=some b->g'.blk o=some b) {l:List Df} {m:List Deferred} (h:DfRels g w l m):DfRels g' w' l m:=by
 induction h with
 |nil=>exact .nil
 |cons h _ ih=>exact .cons (h.imp hT hb) ih
 |marks o bs hn h _ ih=>exact .marks o bs hn (λb hb'=>let ⟨n,c,h1⟩:=h b hb';⟨n,c,hT _ _ h1⟩) ih
 |bads xs _ ih=>exact .bads xs ih
def LeftDf (p:T->Bool) (d e:Df):Prop:=(e=.bad∧d.one=true)∨(e=d∧match d with
 | .call f args=>p f=false∧∀t∈args,p t=false
 | .mark o=>p (.ptr o 0)=false
 | .marks _=>False
 | .bads=>False
 | .bad=>True)
inductive LeftDfs (p:T->Bool):List Df->List Df->Prop where
 |nil:LeftDfs p [] []
 |cons {d e:Df} {l m:List Df} (h:LeftDf p d e) (t:LeftDfs p l m):LeftDfs p (d ::l) (e ::m)
 |marks (o:Nat) {l m:List Df} (h:∀e,p (.sh o e)=false) (t:LeftDfs p l m):LeftDfs p (.marks o ::l) (.marks o ::m)
 |mbad (o:Nat) {l m:List Df} (t:LeftDfs p l m):LeftDfs p (.marks o ::l) (.bads ::m)
 |bads {l m:List Df} (t:LeftDfs p l m):LeftDfs p (.bads ::l) (.bads ::m)
theorem LeftDf.rel {g g':Gh} {w w':World} {p:T->Bool} (hT:∀t v,TRel g w t v->p t=false->TRel g' w' t v) {d e:Df} {x:Deferred} (h:LeftDf p d e) (hr:DfRel g w d x):DfRel g' w' e x:=by
 rcases h with ⟨rfl,_⟩|⟨rfl,h⟩
 .exact .bad _
 .cases hr with
  |call f args fv first cap vargs h3 h4 h5=>exact .call f args fv first cap vargs (hT _ _ h3 h.1) h4 (λj t v k1 k2=>hT _ _ (h5 j t v k1 k2) (h.2 t (List.mem_of_getElem? k1)))
  |mark o b hb=>
   have:=hT _ _ (.ptr o 0 b hb) h
   cases this with
   |ptr _ _ _ hb'=>exact .mark o b hb'
  |bad=>exact .bad _
theorem LeftDfs.rel {g g':Gh} {w w':World} {p:T->Bool} (hT:∀t v,TRel g w t v->p t=false->TRel g' w' t v):∀{l m:List Df} {xs:List Deferred},LeftDfs p l m->DfRels g w l xs->DfRels g' w' m xs
 |_,_,_,.nil,.nil=>.nil
 |_,_,_,.cons h t,.cons k u=>.cons (h.rel hT k) (LeftDfs.rel hT t u)
 |_,_,_,.cons h _,.marks _ _ _ _ _=>by rcases h with ⟨_,h⟩|⟨_,h⟩<;>cases h
 |_,_,_,.cons h _,.bads _ _=>by rcases h with ⟨_,h⟩|⟨_,h⟩<;>cases h
 |_,_,_,.marks o h t,.marks _ bs hn k u=>.marks o bs hn (λb hb=>let ⟨n,c,h1⟩:=k b hb;⟨n,c,hT _ _ h1 (h b)⟩) (LeftDfs.rel hT t u)
 |_,_,_,.marks _ _ _,.cons k _=>by cases k
 |_,_,_,.mbad o t,.marks _ bs _ _ u=>.bads _ (LeftDfs.rel hT t u)
 |_,_,_,.mbad _ _,.cons k _=>by cases k
 |_,_,_,.bads t,.bads xs u=>.bads xs (LeftDfs.rel hT t u)
 |_,_,_,.bads _,.cons k _=>by cases k
theorem FRel.ext {fl:Nat} {g g':Gh} {w w':World} (h:Ext fl g w g' w') (hi:∀b,g.imm b->b<w.heap.size) {fr:Fr} {a:Act} (hf:FRel g fr a w):FRel g' fr a w':=
 ⟨hf.size,hf.df.imp (λ_ _ ht=>ht.ext h hi) h.blk,λk t hk=>let ⟨v,hv,ht⟩:=hf.tm k t hk;⟨v,hv,ht.ext h hi⟩⟩
end TL
end
section
namespace TL
open Go
def aggDesc:TypeDesc->Bool
 | .struct _|.array _ _=>true
 |_=>false
def ZVal (d:D) (v:Value):Prop:=(d=.sl []∧v=.slice none 0 0)∨d=.lit v
def ZOk (zero:List D) (cells:Array Value):Prop:=
 zero.length=cells.size∧∀(j:Nat) (d:D) (v:Value),zero[j]?=some d->cells[j]?=some v->ZVal d v
def KdOk (P:Program):Kd->TypeDesc->Prop
 | .leaf (.int k),d=>d=.int k
 | .leaf .bool,d=>d=.bool
 | .leaf .str,d=>d=.string
 | .leaf .no,_=>True
 | .ptr,d=>∃e,d=.pointer e
 | .slice sz ag bt zero,d=>∃e j d' z,d=.slice e∧P.info? e=some j∧j.size=sz∧P.underlying e=some d'∧ag=aggDesc d'∧j.zero=some z∧ZOk zero z.cells∧j.bytes<=4096∧0<sz∧j.bytes<=bt∧bt<=2*j.bytes∧0<j.bytes∧zero.length=sz
 | .struct fs,d=>∃fields,d=.struct fields∧fields.size=fs.length∧∀(k:Nat) off size ag,fs[k]?=some (off,size,ag)->
   ∃f j d',fields[k]?=some f∧f.offset=off∧P.info? f.type=some j∧j.size=size∧P.underlying f.type=some d'∧ag=aggDesc d'
 | .array len sz ag,d=>∃e j d',d=.array len e∧P.info? e=some j∧j.size=sz∧P.underlying e=some d'∧ag=aggDesc d'
 | .iface,d=>∃ms,d=.interface ms
 | .other,_=>True
def LkVal:Lk->Value->Prop
 | .int k,v=>∃n,v=.int k n
 | .bool,v=>∃b,v=.bool b
 | .str,v=>∃b,v=.string b
 | .no,_=>False
def eqVal:Value->Value->Bool
 | .int _ a,.int _ b=>a==b
 | .bool a,.bool b=>a==b
 | .string a,.string b=>a==b
 |_,_=>false
def eqVals:List Value->List Value->Bool
 |a ::l,b ::m=>eqVal a b&&eqVals l m
 |_,_=>true
def EqOk (P:Program) (t:TypeId) (lks:List Lk):Prop:=
 ∀(w:World) (op:BinOp) (x y:Operand) (xs ys:Array Value),xs.size=lks.length->ys.size=lks.length->
  (∀(j:Nat) (l:Lk) (v:Value),lks[j]?=some l->xs[j]?=some v->LkVal l v)->(∀(j:Nat) (l:Lk) (v:Value),lks[j]?=some l->ys[j]?=some v->LkVal l v)->
  (eqGuard op t x y (.agg xs) (.agg ys)).run P w=.ok () w∧(Op.equal t (.agg xs) (.agg ys)).run P w=.ok (eqVals xs.toList ys.toList) w
structure TIok (P:Program) (t:TypeId) (i:TI):Prop where
 eqs:i.agg=true->i.lks≠[]->EqOk P t i.lks
 nif:∀ms,P.underlying t=some (.interface ms)->i.kd=.iface
 zag:∀x z,P.info? t=some x->x.zero=some z->(i.agg=true->∃vs,z=.agg vs)∧(i.agg=false->z.cells=#[z])
 all:∃x d z,P.info? t=some x∧P.underlying t=some d∧x.size=i.size∧i.agg=aggDesc d∧x.zero=some z∧ZOk i.zero z.cells∧KdOk P i.kd d
section
variable {P:Program}
theorem run_underlying' {t:TypeId} {d:TypeDesc} (h:P.underlying t=some d) (w:World):(underlying t).run P w=.ok d w:=by
 simp[underlying,h]
theorem run_typeInfo' {t:TypeId} {x:TypeInfo} (h:P.info? t=some x) (w:World):(typeInfo t).run P w=.ok x w:=by
 simp[typeInfo,h]
theorem run_sizeOf' {t:TypeId} {x:TypeInfo} (h:P.info? t=some x) (w:World):(Go.sizeOf t).run P w=.ok x.size w:=by
 simp[Go.sizeOf,run_typeInfo' h]
theorem run_isAgg' {t:TypeId} {d:TypeDesc} (h:P.underlying t=some d) (w:World):(isAgg t).run P w=.ok (aggDesc d) w:=by
 simp[isAgg,Sem.run_bind,run_underlying' h,Result.andThen_ok]
 cases d<;>rfl
theorem run_zeroValue' {t:TypeId} {x:TypeInfo} {z:Value} (h:P.info? t=some x) (hz:x.zero=some z) (w:World):(zeroValue t).run P w=.ok z w:=by
 simp[zeroValue,run_typeInfo' h,hz]
theorem beq_iff' {a b:Nat}:Nat.beq a b=true↔a=b:=by
 simp_all
theorem run_loadVar' {t:TypeId} {x:TypeInfo} {d:TypeDesc} (hi:P.info? t=some x) (hu:P.underlying t=some d) (w:World) (a:Addr) (vals:List Value) (hl:vals.length=x.size)
  (hc:∀j v,vals[j]?=some v->w.cell? (a.add j)=some v) (h1:aggDesc d=false->∃v,vals=[v]) :
  (loadVar t a).run P w=.ok (if aggDesc d then .agg vals.toArray else vals.headD undef) w:=by
 have hls:=run_loadCells_list (P:=P) w a vals hc
 simp only[loadVar,Sem.run_bind,run_isAgg' hu,Result.andThen_ok]
 cases hd:aggDesc d with
 |true=>simp[run_sizeOf' hi,<-hl,hls]
 |false=>
  obtain ⟨v,rfl⟩:=h1 hd
  have h0:=hc 0 v rfl
  simp[Addr.add] at h0
  simp[h0]
end
theorem getElem?_isSome_lt {α:Type} {l:List α} {j:Nat} {x:α} (h:l[j]?=some x):j<l.length:=by
 grind
theorem range_some {n j k:Nat} (h:(List.range n)[j]?=some k):j=k∧j<n:=by
 grind
theorem add_add' (a:Addr) (i j:Nat):(a.add i).add j=a.add (i+j):=by
 unfold Addr.add
 by_cases hi:i=0<;>by_cases hj:j=0<;>simp[hi,hj,Nat.add_assoc]
theorem packT_some {ag:Bool} {cs:List T} {t:T} (h:packT ag cs=some t):(ag=true∧t=.agg cs)∨(ag=false∧cs=[t]):=by
 unfold packT at h
 grind
theorem packT_rel {g:Gh} {w:World} {ag:Bool} {cs:List T} {t:T} (h:packT ag cs=some t) {vals:List Value} (hl:cs.length=vals.length)
  (hv:∀(j:Nat) (t:T) (v:Value),cs[j]?=some t->vals[j]?=some v->TRel g w t v) :
  TRel g w t (if ag then .agg vals.toArray else vals.headD undef)∧(ag=false->∃v,vals=[v]):=by
 rcases packT_some h with ⟨rfl,rfl⟩|⟨rfl,rfl⟩
 .exact ⟨.agg _ _ (by simpa using hl) (λj t v h1 h2=>hv j t v h1 (by simpa using h2)),λh=>by cases h⟩
 .match vals,hl with
  |[v],_=>exact ⟨hv 0 _ _ rfl rfl,λ_=>⟨v,rfl⟩⟩
theorem take_drop_get {α:Type} (l:List α) (off n j:Nat) (x:α) (h:((l.drop off).take n)[j]?=some x):l[off+j]?=some x∧j<n:=by
 grind
theorem D.cell_get (d:D) (j:Nat) (h:j<d.cells.length):d.cells[j]?=some (d.cell j):=by
 grind[D.cell]
theorem partD_sound {P:Program} {ty:TypeId} {i:TI} (hi:TIok P ty i) {g:Gh} {w:World} {d:D} {off:Nat} {t:T} (h:partD i d off=some t) (hh:d.has (Nat.add off i.size))
  {ad:Addr} {val:Nat->Value} (hc:∀j c,d.cells[j]?=some c->w.cell? (ad.add j)=some (val j)) (hd:∀j c,d.cells[j]?=some c->DRel g.imm w c (val j)) :
  ∃v,(loadVar ty (ad.add off)).run P w=.ok v w∧TRel g w t v:=by
 let ⟨x,ds,z,hx,hu,hsz,hag,_⟩:=hi.all
 have hn:off+i.size<=d.cells.length:=hh
 have hcell:∀j,j<i.size->w.cell? ((ad.add off).add j)=some (val (off+j))∧DRel g.imm w (d.cell (off+j)) (val (off+j)):=by
  grind[add_add',D.cell_get]
 have hrun:=run_loadVar' (P:=P) hx hu w (ad.add off) ((List.range i.size).map λj=>val (off+j)) (by simp[hsz]) (λj v hj=>by
  grind)
 unfold partD at h
 cases hg:i.agg with
 |true=>
  rw[hg] at h hag
  simp at h
  subst h
  refine ⟨_,hrun (λhf=>by simp_all),?_⟩
  rw[<-hag]
  refine .agg _ _ (by simp) (λj t v h1 h2=>?_)
  simp at h1
  obtain ⟨k,hk,rfl⟩:=h1
  obtain ⟨rfl,hlt⟩:=range_some hk
  have hv:v=val (off+j):=by
   simp_all
  subst hv
  exact .sym _ _ (hcell j hlt).2
 |false=>
  rw[hg] at h hag
  by_cases h1:Nat.beq i.size 1=true
  .simp[h1] at h
   subst h
   have h1':=beq_iff'.1 h1
   refine ⟨_,hrun (λ_=>⟨val off,by simp[h1']⟩),?_⟩
   rw[<-hag]
   have:=(hcell 0 (by omega)).2
   simp[h1']
   exact .sym _ _ (by omega)
  simp_all
end TL
end
section
namespace TL
open Go
theorem cond_some {α:Type} {b:Bool} {x y:Option α} {z:α} (h:(bif b then x else y)=some z):(b=true∧x=some z)∨(b=false∧y=some z):=by
 grind
theorem leaf_val {I:Nat->Prop} {w:World} {d:D} {v:Value} (hl:d.leaf=true) (h:DRel I w d v):v.oneCell'=true∧v.cells=#[v]:=by
 cases h with
 |lit v=>cases v<;>first|exact ⟨rfl,rfl⟩|cases hl
 |sl=>exact ⟨rfl,rfl⟩
 |agg=>cases hl
 |tup=>cases hl
 |_=>exact ⟨rfl,rfl⟩
theorem tleaf_val {g:Gh} {w:World} {t:T} {v:Value} (hl:t.leaf) (h:TRel g w t v):v.oneCell'=true∧v.cells=#[v]:=by
 cases h with
 |sym d v hd=>exact leaf_val hl hd
 |agg=>exact hl.elim
 |tup=>exact hl.elim
 |gd=>exact hl.elim
 |_=>exact ⟨rfl,rfl⟩
theorem isAgg_spec {n:Nat} {d:D} (h:d.isAgg n=true):∃cs,d=.agg cs∧cs.length=n∧∀c∈cs,c.leaf=true:=by
 unfold D.isAgg at h
 split at h
 .rename_i cs
  simp only[Bool.and_eq_true] at h
  refine ⟨cs,rfl,?_,?_⟩
  .rw[<-lenL_eq];exact beq_iff'.1 h.1
  .simpa using h.2
 .cases h
theorem cellsT_sound {g:Gh} {w:World} {i:TI} {t:T} {v:Value} {p:Prop} {cs:List T} (h:cellsT i t=some (p,cs)) (hp:p) (ht:TRel g w t v) :
  cs.length=i.size∧v.cells.size=i.size∧(∀(j:Nat) (t:T) (u:Value),cs[j]?=some t->v.cells[j]?=some u->TRel g w t u)∧
  (i.agg=true->∃vs,v=.agg vs)∧(i.agg=false->v.cells=#[v]∧i.size=1):=by
 cases ht with
 |agg ts vs hl hr=>
  rcases cond_some h with ⟨hb,h⟩|⟨_,h⟩
  .simp only[Bool.and_eq_true] at hb
   have hn:=beq_iff'.1 hb.2
   rw[lenL_eq] at hn
   obtain ⟨_,rfl⟩:=h
   refine ⟨hn,by simp[Value.cells,<-hl,hn],λj t u h1 h2=>hr j t u h1 h2,λ_=>⟨vs,rfl⟩,λhf=>by simp_all⟩
  .cases h
 |sym d v hd=>
  rcases cond_some h with ⟨hb,h⟩|⟨hb,h⟩
  .obtain ⟨rfl,rfl⟩:=h
   obtain ⟨ds,rfl,hn,hlf⟩:=isAgg_spec hp
   cases hd with
   |agg _ vs hl _ hr=>
    refine ⟨by simp,by simp[Value.cells,<-hl,hn],λj t u h1 h2=>?_,λ_=>⟨vs,rfl⟩,λhf=>by simp_all⟩
    simp at h1
    obtain ⟨k,hk,rfl⟩:=h1
    obtain ⟨rfl,hlt⟩:=range_some hk
    exact .sym _ _ (hr j _ u (D.cell_get (.agg ds) j (by simpa[D.cells,hn] using hlt)) h2)
  .rcases cond_some h with ⟨h1,h⟩|⟨_,h⟩
   .obtain ⟨rfl,rfl⟩:=h
    have h1':=beq_iff'.1 h1
    let ⟨_,hc⟩:=leaf_val hp hd
    refine ⟨by simp[h1'],by simp[hc,h1'],λj t u h2 h3=>?_,λhf=>(by simp_all),λ_=>⟨hc,h1'⟩⟩
    rw[hc] at h3
    cases j with
    |zero=>simp at h2 h3;subst h2;subst h3;exact .sym _ _ hd
    |succ j=>simp at h2
   .cases h
 |tup=>cases h
 |gd=>cases h
 |kb|kn|ptr|ept|epw|sh|emp|clp|fn|ifc|mp|yld|slb|itr|ub|nel|cln=>
  all_goals
   simp only[cellsT] at h
   rcases cond_some h with ⟨_,h⟩|⟨hb,h⟩
   .cases h
   .rcases cond_some h with ⟨h1,h⟩|⟨_,h⟩
    .simp only[Option.some.injEq,Prod.mk.injEq] at h
     obtain ⟨_,rfl⟩:=h
     have h1':=beq_iff'.1 h1
     refine ⟨by simp[h1'],by simp[Value.cells,h1'],?_,λhf=>(by rw[hb] at hf;cases hf),λ_=>⟨rfl,h1'⟩⟩
     intro j t u h2 h3
     cases j with
     |zero=>simp[Value.cells] at h2 h3;subst h2;subst h3;constructor<;>assumption
     |succ j=>simp at h2
    .cases h
theorem arrT_some {s:St} {o e sz:Nat} {es:List D} (h:arrT s o e=some (sz,es)):∃fz,s.ob.get o=some (arrOb fz sz es e):=by
 unfold arrT at h
 split at h
 .rename_i sz' es' era ho
  rcases cond_some h with ⟨hb,h⟩|⟨_,h⟩
  .have:=beq_iff'.1 hb
   subst this
   simp at h
   obtain ⟨rfl,rfl⟩:=h
   exact ⟨false,ho⟩
  .cases h
 .rename_i sz' es' era ho
  rcases cond_some h with ⟨hb,h⟩|⟨_,h⟩
  .have:=beq_iff'.1 hb
   subst this
   simp at h
   obtain ⟨rfl,rfl⟩:=h
   exact ⟨true,ho⟩
  .cases h
 .cases h
theorem arrOb_inj {fz fz':Bool} {sz sz' e e':Nat} {es es':List D} (h:arrOb fz sz es e=arrOb fz' sz' es' e'):fz=fz'∧sz=sz'∧es=es'∧e=e':=by
 cases fz<;>cases fz'<;>simp[arrOb] at h<;>exact ⟨rfl,h⟩
theorem SRel.arrNow {g:Gh} {s:St} {w:World} (hs:SRel g s w) {fz:Bool} {o e sz:Nat} {es:List D} {x:ASl} (ho:s.ob.get o=some (arrOb fz sz es e)) (hx:g.arr o e=some x) :
  AOk g w fz sz es x∧x.sz=sz:=by
 let ⟨fz',es',era,ho',_,_,hok⟩:=(hs.arr o e x hx).old _ ho (arrOb_isA _ _ _ _)
 obtain ⟨rfl,h2,rfl,rfl⟩:=arrOb_inj ho'
 simp_all
theorem cell?_of_block {w:World} {b off:Nat} {vs:Array Value} {ty:TypeId} {fz:Nat×Nat} (h:w.heap[b]?=some (.cells vs ty fz)):w.cell? ⟨b,off,none⟩=vs[off]?:=by
 simp[World.cell?,h]
theorem add_mk (b off n:Nat):(⟨b,off,none⟩:Addr).add n=⟨b,off+n,none⟩:=by
 unfold Addr.add
 split<;>simp_all
theorem inb_nat {k:Nat} {es:List D} (h:D.inb (k:Int) (D.len es)):k<es.length:=by
 have:=h.2
 unfold D.len at this
 omega
theorem D.el_get {es:List D} {k:Nat} (h:k<es.length):es[k]?=some (D.el es k):=by
 grind[D.el]
theorem loadT_sound {P:Program} {ty:TypeId} {i:TI} (hi:TIok P ty i) {g:Gh} {s s':St} {w:World} (hs:SRel g s w) {x:T} {vx:Value} (hx:TRel g w x vx)
  {p:Prop} {t:T} (h:loadT i s x=some (p,t,s')) (hp:p):∃v,(Instr.loadAt ty vx).run P w=.ok v w∧TRel g w t v∧s'=s:=by
 cases hx with
 |ptr o off b hb=>
  cases ho:s.ob.get o with
  |none=>simp[loadT,ho] at h
  |some ob=>
  simp[loadT,ho] at h
  cases ob with
  |box cs=>
  let ⟨vs,ety,hh,hl,hr⟩:=(hs.box o b hb).box ho
  rcases cond_some h with ⟨hn,h⟩|⟨_,h⟩
  .have hn':=beq_iff'.1 hn
   rw[lenL_eq] at hn'
   simp only[Option.map_eq_some_iff,Prod.mk.injEq] at h
   obtain ⟨t',ht',_,rfl,rfl⟩:=h
   let ⟨xi,d,z,hxi,hu,hsz,hag,_⟩:=hi.all
   have hlen:((vs.toList.drop off).take i.size).length=i.size:=by
    have:((cs.drop off).take i.size).length=((vs.toList.drop off).take i.size).length:=by simp[hl]
    rw[<-this,hn']
   let ⟨hrel,h1⟩:=packT_rel (g:=g) (w:=w) ht' (vals:=(vs.toList.drop off).take i.size) (by rw[hn',hlen]) (λj t v h1 h2=>by
    let ⟨h1,_⟩:=take_drop_get _ _ _ _ _ h1
    let ⟨h2,_⟩:=take_drop_get _ _ _ _ _ h2
    exact hr _ _ _ h1 (by simpa using h2))
   refine ⟨_,?_,hrel,rfl⟩
   have:=run_loadVar' (P:=P) hxi hu w ⟨b,off,none⟩ ((vs.toList.drop off).take i.size) (by rw[hlen,hsz]) (λj v hj=>by
    let ⟨hj,_⟩:=take_drop_get _ _ _ _ _ hj
    rw[add_mk,cell?_of_block hh]
    simpa using hj) (λhf=>h1 (by rw[hag,hf]))
   rw[hag]
   simpa[Instr.loadAt,Instr.sureAddr] using this
  .cases h
  |_=>simp at h
 |ept d off ad val him hc hd=>
  simp only[loadT,Option.map_eq_some_iff,Prod.mk.injEq] at h
  obtain ⟨t',ht',rfl,rfl,rfl⟩:=h
  let ⟨v,hv,ht⟩:=partD_sound hi ht' hp hc hd
  exact ⟨v,by simpa[Instr.loadAt,Instr.sureAddr] using hv,ht,rfl⟩
 |epw o e k off len cap sz ad hx=>
  simp only[loadT] at h
  cases ha:arrT s o e with
  |none=>simp[ha] at h
  |some q=>
   let ⟨sz',es⟩:=q
   let ⟨fz,ho⟩:=arrT_some ha
   let ⟨hok,hsz⟩:=hs.arrNow ho hx
   simp only[ha,Option.map_eq_some_iff,Prod.mk.injEq] at h
   obtain ⟨t',ht',rfl,rfl,rfl⟩:=h
   subst hsz
   have hk:=inb_nat hp.1
   have hcap:(⟨some ad,len,cap,sz⟩:ASl).cap≠0:=by
    have h1:=hok.len
    have h2:=hok.cap
    omega
   let ⟨b,vs,ety,hab,_,hh,_,hcells⟩:=hok.mem hcap
   simp at hab
   subst hab
   have hex:∀j,∃v,∀c,(D.el es k).cells[j]?=some c->w.cell? ((⟨b,k*sz,none⟩:Addr).add j)=some v∧DRel g.imm w c v:=by
    intro j
    by_cases hj:j<(D.el es k).cells.length
    .let ⟨v,hv,hd⟩:=hcells k _ j _ (D.el_get hk) (List.getElem?_eq_getElem hj)
     refine ⟨v,λc hc=>?_⟩
     rw[List.getElem?_eq_getElem hj] at hc
     rw[<-Option.some.inj hc,add_mk,cell?_of_block hh]
     exact ⟨hv,hd⟩
    .exact ⟨undef,λc hc=>by rw[List.getElem?_eq_none (by omega)] at hc;cases hc⟩
   let ⟨val,hval⟩:=Classical.axiomOfChoice hex
   let ⟨v,hv,ht⟩:=partD_sound hi ht' hp.2 (ad:=⟨b,k*sz,none⟩) (val:=val) (λj c hc=>(hval j c hc).1) (λj c hc=>(hval j c hc).2)
   refine ⟨v,?_,ht,rfl⟩
   rw[add_mk] at hv
   rw[add_mk]
   simpa[Instr.loadAt,Instr.sureAddr] using hv
 |_=>simp[loadT] at h
end TL
end
section
namespace TL
open Go
theorem setRow_other (w:World) (g b:Nat) (cs:Array Value) (h:b≠g):(w.setRow g cs).heap[b]?=w.heap[b]?:=by
 unfold World.setRow
 rw[Array.getElem?_modify,if_neg (λe=>h e.symm)]
theorem SRel.lt {g:Gh} {s:St} {w:World} (hs:SRel g s w) {o b:Nat} (h:g.blk o=some b):o<s.nob:=by
 rcases Nat.lt_or_ge o s.nob with h'|h'
 .exact h'
 .rw[(hs.bnd o h').1] at h;cases h
theorem SRel.lt' {g:Gh} {s:St} {w:World} (hs:SRel g s w) {o e:Nat} {x:ASl} (h:g.arr o e=some x):o<s.nob:=by
 rcases Nat.lt_or_ge o s.nob with h'|h'
 .exact h'
 .rw[(hs.bnd o h').2 e] at h;cases h
theorem SRel.ownLt {g:Gh} {s:St} {w:World} (hs:SRel g s w) {o b:Nat} (h:Owned g o b):b<w.heap.size∧o<s.nob:=by
 rcases h.2 with h1|⟨e,x,ad,h1,ha,hbe,hc⟩
 .exact ⟨(hs.box o b h1).2.1,hs.lt h1⟩
 .exact ⟨hbe▸(hs.arr o e x h1).1 ad ha hc,hs.lt' h1⟩
theorem BoxOk.ext {g g':Gh} {s s':St} {w w':World} {fl o b:Nat} (he:Ext fl g w g' w') (hi:∀b,g.imm b->b<w.heap.size) (hb:w'.heap[b]?=w.heap[b]?)
  (ho:s'.ob.get o=s.ob.get o) (him:¬g'.imm b) (h:BoxOk g s w o b):BoxOk g' s' w' o b:=by
 let ⟨_,hlt,hr⟩:=h
 refine ⟨him,Nat.lt_of_lt_of_le hlt he.size,λob hob=>?_⟩
 let ⟨x,h1,h2⟩:=hr ob (ho▸hob)
 exact ⟨x,hb.trans h1,h2.ext he hi⟩
theorem AOk.ext {g g':Gh} {w w':World} {fl:Nat} {fz:Bool} {sz:Nat} {es:List D} {x:ASl} (he:Ext fl g w g' w') (hi:∀b,g.imm b->b<w.heap.size)
  (hb:∀b,x.a=some ⟨b,0,none⟩->x.cap≠0->w'.heap[b]?=w.heap[b]?∧(g'.imm b↔g.imm b)) (h:AOk g w fz sz es x):AOk g' w' fz sz es x:=
 ⟨h.len,h.cap,h.rows,h.pos,h.byt,λhc=>by
  let ⟨b,vs,ty,h1,h2,h3,h4,h5⟩:=h.mem hc
  let ⟨k1,k2⟩:=hb b h1 hc
  exact ⟨b,vs,ty,h1,h2.trans k2.symm,k1.trans h3,h4,λi d j c hd hj=>let ⟨v,hv,hr⟩:=h5 i d j c hd hj;⟨v,hv,hr.ext he hi⟩⟩⟩
theorem AOk.imm_eq {g g':Gh} {w:World} {fz:Bool} {sz:Nat} {es:List D} {x:ASl} (h:AOk g w fz sz es x) (hi:g'.imm=g.imm):AOk g' w fz sz es x:=
 ⟨h.len,h.cap,h.rows,h.pos,h.byt,by rw[hi];exact h.mem⟩
theorem Link.le {g g':Gh} {m rera:Nat} {hole:Option Nat} {hs:List Value} (h:Link g m rera hole hs) (ha:∀j y,g.arr m j=some y->g'.arr m j=some y):Link g' m rera hole hs:=
 ⟨h.1,λi v hi hh=>let ⟨y,h1,h2⟩:=h.2 i v hi hh;⟨y,ha _ _ h1,h2⟩⟩
theorem ArrAt.tr {g g':Gh} {w w':World} {o e:Nat} {x:ASl} {ob:Ob} (h:ArrAt g w o e x ob) (hA:∀{fz sz es},AOk g w fz sz es x->AOk g' w' fz sz es x) (ha:∀k j y,g.arr k j=some y->g'.arr k j=some y) (hg:g'.arr o=g.arr o) (hM:∀b,x.a=some ⟨b,0,none⟩->x.cap≠0->w'.heap[b]?=w.heap[b]?∧(g'.imm b↔g.imm b)):ArrAt g' w' o e x ob:=by
 rcases h with ⟨fz,es,era,h1,h2,h3,h5⟩|⟨nj,es,era,m,rera,hole,h1,h2,h3,h5⟩|⟨sz,rss,rera,h1,h2,h3,h5⟩|h|⟨h1,h2,h3,h4,h5⟩|⟨ty,l,h1,h2⟩
 .exact .inl ⟨fz,es,era,h1,h2,λe' h=>by simp_all,λh=>hA (h5 h)⟩
 .exact .inr (.inl ⟨nj,es,era,m,rera,hole,h1,h2,λe' h=>by simp_all,λh=>let ⟨hs,k1,k2,k3⟩:=h5 h;⟨hs,k1,hA k2,k3.le (ha m)⟩⟩)
 .exact .inr (.inr (.inl ⟨sz,rss,rera,h1,λr i h=>by simp_all,by grind,λi h=>let ⟨k1,rs,k2,k3⟩:=h5 i h;⟨k1,rs,k2,hA k3⟩⟩))
 .exact .inr (.inr (.inr (.inl h)))
 .let ⟨k1,k2⟩:=hM e h2 h3
  exact .inr (.inr (.inr (.inr (.inl ⟨h1,h2,h3,λhi=>h4 (k2.1 hi),k1.trans h5⟩))))
 .exact .inr (.inr (.inr (.inr (.inr ⟨ty,l,h1,h2.tr λb k1 k2=>(hM b k1 k2).imp id λk=>k.1⟩))))
theorem ArrAt.left {p:T->Bool} {g g':Gh} {w w':World} {o e:Nat} {x:ASl} {ob ob2:Ob} (h:ArrAt g w o e x ob) (hl:LeftObP p ob ob2) (hA:∀{fz sz es},AOk g w fz sz es x->AOk g' w' fz sz es x)
  (ha:∀m j y,p (.sh m 0)=false->g.arr m j=some y->g'.arr m j=some y) (hg:g'.arr o=g.arr o) (hM:∀b,x.a=some ⟨b,0,none⟩->x.cap≠0->w'.heap[b]?=w.heap[b]?∧(g'.imm b↔g.imm b)):ArrAt g' w' o e x ob2:=by
 rcases h with ⟨fz,es,era,rfl,h2,h3,h5⟩|⟨nj,es,era,m,rera,hole,rfl,h2,h3,h5⟩|⟨sz,rss,rera,rfl,h2,h3,h5⟩|rfl|⟨rfl,h2,h3,h4,h5⟩|⟨ty,l,rfl,h2⟩
 .have:ob2=arrOb fz x.sz es era:=by
   cases fz<;>exact hl.symm
  exact .inl ⟨fz,es,era,this,h2,λe' h=>by simp_all,λh=>hA (h5 h)⟩
 .rcases hl with ⟨rfl,hp⟩|rfl
  .exact .inr (.inl ⟨nj,es,era,m,rera,hole,rfl,h2,λe' h=>by simp_all,λh=>let ⟨hs,k1,k2,k3⟩:=h5 h;⟨hs,k1,hA k2,k3.le (λj y=>ha m j y hp)⟩⟩)
  .exact .inr (.inr (.inr (.inl rfl)))
 .have:ob2=.rws sz rss rera:=hl.symm
  exact .inr (.inr (.inl ⟨sz,rss,rera,this,λr i h=>by simp_all,by grind,λi h=>let ⟨k1,rs,k2,k3⟩:=h5 i h;⟨k1,rs,k2,hA k3⟩⟩))
 .have:ob2=.gone:=hl.symm
  exact .inr (.inr (.inr (.inl this)))
 .have:ob2=.mks:=hl.symm
  let ⟨k1,k2⟩:=hM e h2 h3
  exact .inr (.inr (.inr (.inr (.inl ⟨this,h2,h3,λhi=>h4 (k2.1 hi),k1.trans h5⟩))))
 .have:ob2=.bbf ty l:=hl.symm
  exact .inr (.inr (.inr (.inr (.inr ⟨ty,l,this,h2.tr λb k1 k2=>(hM b k1 k2).imp id λk=>k.1⟩))))
theorem ArrOk.ext {g g':Gh} {s s':St} {w w':World} {fl o e:Nat} {x:ASl} (he:Ext fl g w g' w') (hi:∀b,g.imm b->b<w.heap.size)
  (hb:∀b,x.a=some ⟨b,0,none⟩->x.cap≠0->w'.heap[b]?=w.heap[b]?∧(g'.imm b↔g.imm b))
  (ho:s'.ob.get o=s.ob.get o) (hg:g'.arr o=g.arr o) (h:ArrOk g s w o e x):ArrOk g' s' w' o e x:=by
 refine ⟨λad ha hc=>Nat.lt_of_lt_of_le (h.1 ad ha hc) he.size,λob hob=>?_⟩
 exact (h.2 ob (ho▸hob)).tr (λh=>h.ext he hi hb) (λk j y h=>he.arr k j y h) hg hb
theorem SRel.setBox {g:Gh} {s:St} {w:World} (hs:SRel g s w) {o b:Nat} (hb:g.blk o=some b) {cs0:List T} (hsome:s.ob.get o=some (.box cs0)) (hfl:s.fl<=o) {cs':List T} {vs':Array Value} (hl:cs'.length=vs'.size)
  (hr:∀(j:Nat) (t:T) (v:Value),cs'[j]?=some t->vs'[j]?=some v->TRel g w t v) :
  SRel g {s with ob:=s.ob.set fuelTr o (.box cs')} (w.setRow b vs')∧Ext s.fl g w g (w.setRow b vs'):=by
 have hown:Owned g o b:=⟨(hs.box o b hb).1,.inl hb⟩
 have hob:o<bigN:=Nat.lt_of_lt_of_le (hs.lt hb) hs.nob
 have he:Ext s.fl g w g (w.setRow b vs'):=
  ⟨λ_ _ h=>h,λ_ _ _ h=>h,λ_ h=>h,by simp,λb' _ hn=>setRow_other w b b' vs' (λe=>hn o hfl (e▸hown)),
   λ_ _ h=>.inl h,λ_ h=>.inl h,rfl,rfl⟩
 refine ⟨⟨hs.nob,hs.bnd,λo' b' hb'=>?_,λo' e x hx=>?_,λb' hb'=>by simpa using hs.imm b' hb',hs.uni,hs.gext he⟩,he⟩
 .by_cases hoo:o'=o
  .subst hoo
   rw[hb] at hb'
   simp at hb'
   subst hb'
   let ⟨h1,h2,h3⟩:=hs.box o' b hb
   let ⟨vs,ty,h4,h5,h6⟩:=(hs.box o' b hb).box hsome
   refine ⟨h1,by simpa using h2,λob2 hob2=>⟨_,setRow_heap w b vs vs' ty _ h4,?_⟩⟩
   rw[Tr.get_set64 _ _ _ _ hob,if_pos rfl] at hob2
   obtain rfl:=Option.some.inj hob2
   exact .box _ _ _ hl λj t v ht hv=>(hr j t v ht hv).ext he hs.imm
  .have hbb:b'≠b:=λe=>hoo (hs.uni o' o b (e▸⟨(hs.box o' b' hb').1,.inl hb'⟩) hown)
   exact (hs.box o' b' hb').ext he hs.imm (setRow_other w b b' vs' hbb) (by simp;rw[Tr.get_set64 _ _ _ _ hob,if_neg hoo]) (hs.box o' b' hb').1
 .have hoo:o'≠o:=by
   rintro rfl
   cases ((hs.arr o' e x hx).2 _ hsome).isArr
  refine (hs.arr o' e x hx).ext he hs.imm (λb' hb' hc=>⟨setRow_other w b b' vs' ?_,Iff.rfl⟩) (by simp;rw[Tr.get_set64 _ _ _ _ hob,if_neg hoo]) rfl
  rintro rfl
  by_cases him:g.imm b'
  .exact hown.1 him
  .exact hoo (hs.uni o' o b' ⟨him,.inr ⟨e,x,_,hx,hb',rfl,hc⟩⟩ hown)
def Gh.newBox (g:Gh) (o b:Nat):Gh:={g with blk:=λk=>if k=o then some b else g.blk k}
theorem alloc_old (w:World) (o:Obj) (b:Nat) (h:b<w.heap.size):(w.alloc o).heap[b]?=w.heap[b]?:=by
 show (w.heap.push o)[b]?=_
 rw[Array.getElem?_push,if_neg (by omega)]
theorem alloc_new (w:World) (o:Obj):(w.alloc o).heap[w.heap.size]?=some o:=by
 show (w.heap.push o)[w.heap.size]?=_
 simp
theorem SRel.newObj {g:Gh} {s:St} {w:World} (hs:SRel g s w) (hn:s.nob<bigN) {ob0:Ob} {x0:Obj} (hr:ObRel g w w.heap.size ob0 x0) :
  SRel (g.newBox s.nob w.heap.size) (newOb s ob0).2 (w.alloc x0)∧Ext s.fl g w (g.newBox s.nob w.heap.size) (w.alloc x0):=by
 have hnone:=hs.bnd s.nob (Nat.le_refl _)
 have hold:∀o b,g.blk o=some b->(g.newBox s.nob w.heap.size).blk o=some b:=λo b h=>by
  have:o≠s.nob:=λe=>by rw[e,hnone.1] at h;cases h
  simp[Gh.newBox,this,h]
 have hown:∀o b,Owned (g.newBox s.nob w.heap.size) o b->Owned g o b∨(o=s.nob∧b=w.heap.size):=by
  rintro o b ⟨h1,h2|h2⟩
  .by_cases ho:o=s.nob
   .subst ho
    simp[Gh.newBox] at h2
    exact .inr ⟨rfl,h2.symm⟩
   .simp[Gh.newBox,ho] at h2
    exact .inl ⟨h1,.inl h2⟩
  .exact .inl ⟨h1,.inr h2⟩
 have he:Ext s.fl g w (g.newBox s.nob w.heap.size) (w.alloc x0):=
  ⟨hold,λ_ _ _ h=>h,λ_ h=>h,by simp,λb hb _=>alloc_old w _ b hb,
   λo b h=>(hown o b h).imp id λh=>by omega,λ_ h=>.inl h,rfl,rfl⟩
 refine ⟨⟨by simp only[newOb];omega,λo ho=>?_,λo b hb=>?_,λo e x hx=>?_,λb hb=>?_,λo o' b h h'=>?_,hs.gext he⟩,he⟩
 .simp only[newOb] at ho
  have h1:o≠s.nob:=by omega
  simp[Gh.newBox,h1]
  exact hs.bnd o (by omega)
 .by_cases ho:o=s.nob
  .subst ho
   have hbe:b=w.heap.size:=by
    simp[Gh.newBox] at hb
    exact hb.symm
   subst hbe
   refine ⟨λhim=>?_,by simp,λob hob=>⟨_,alloc_new w _,?_⟩⟩
   .have:=hs.imm _ him
    omega
   .simp[newOb] at hob
    rw[Tr.get_set64 _ _ _ _ hn,if_pos rfl] at hob
    obtain rfl:=Option.some.inj hob
    exact hr.ext he hs.imm
  .have hb':g.blk o=some b:=by simpa[Gh.newBox,ho] using hb
   have hok:=hs.box o b hb'
   exact hok.ext he hs.imm (alloc_old w _ b hok.2.1) (by simp[newOb];rw[Tr.get_set64 _ _ _ _ hn,if_neg ho]) hok.1
 .have hok:=hs.arr o e x hx
  have ho:o≠s.nob:=λh=>by
   have hx':g.arr o e=some x:=hx
   rw[h,hnone.2 e] at hx'
   cases hx'
  refine hok.ext he hs.imm (λb hb hc=>⟨alloc_old w _ b ?_,Iff.rfl⟩) (by simp[newOb];rw[Tr.get_set64 _ _ _ _ hn,if_neg ho]) rfl
  exact hok.1 _ hb hc
 .have:=hs.imm b hb
  simp
  omega
 .rcases hown o b h with h1|⟨h1,h3⟩<;>rcases hown o' b h' with h2|⟨h2,h4⟩
  .exact hs.uni o o' b h1 h2
  .have:=(hs.ownLt h1).1
   omega
  .have:=(hs.ownLt h2).1
   omega
  .rw[h1,h2]
theorem SRel.newBox {g:Gh} {s:St} {w:World} (hs:SRel g s w) (hn:s.nob<bigN) {cs:List T} {vs:Array Value} (ty:TypeId) (hl:cs.length=vs.size)
  (hr:∀(j:Nat) (t:T) (v:Value),cs[j]?=some t->vs[j]?=some v->TRel g w t v) :
  SRel (g.newBox s.nob w.heap.size) (newOb s (.box cs)).2 (w.alloc (.cells vs ty))∧Ext s.fl g w (g.newBox s.nob w.heap.size) (w.alloc (.cells vs ty)):=
 hs.newObj hn (.box cs vs ty hl hr)
end TL
end
section
namespace TL
open Go
def Gh.era (g:Gh) (o e:Nat) (x:ASl):Gh:={g with arr:=λk j=>if k=o∧j=e then some x else g.arr k j}
theorem Gh.era_same (g:Gh) (o e:Nat) (x:ASl):(g.era o e x).arr o e=some x:=by simp[Gh.era]
theorem Gh.era_other (g:Gh) (o e k j:Nat) (x:ASl) (h:¬(k=o∧j=e)):(g.era o e x).arr k j=g.arr k j:=by simp[Gh.era,h]
theorem SRel.bump {g:Gh} {s:St} {w w':World} (hs:SRel g s w) {o e sz:Nat} {es es':List D} {x x':ASl} (ho:s.ob.get o=some (.arr sz es e)) (hx:g.arr o e=some x)
  (hfl:s.fl<=o) (hos:w'.os=w.os) (hout:w'.output=w.output) (hsize:w.heap.size<=w'.heap.size)
  (hheap:∀b,b<w.heap.size->¬x.at b->w'.heap[b]?=w.heap[b]?)
  (hx':∀b,x'.at b->b<w'.heap.size∧(w.heap.size<=b∨x.at b))
  (hok:AOk (g.era o (e+1) x') w' false sz es' x') (hxs:x'.sz=sz) :
  SRel (g.era o (e+1) x') {s with ob:=s.ob.set fuelTr o (.arr sz es' (e+1))} w'∧Ext s.fl g w (g.era o (e+1) x') w':=by
 have hob:o<bigN:=Nat.lt_of_lt_of_le (hs.lt' hx) hs.nob
 let ⟨hnow,hxsz⟩:=hs.arrNow (fz:=false) ho hx
 have hnext:∀e',e<e'->g.arr o e'=none:=by
  let ⟨fz,es0,era,h1,_,h3,_⟩:=(hs.arr o e x hx).old _ ho rfl
  have h1':arrOb false sz es e=arrOb fz x.sz es0 era:=h1
  obtain ⟨_,_,_,rfl⟩:=arrOb_inj h1'
  exact h3
 have hnimm:∀b,x.at b->¬g.imm b:=by
  rintro b ⟨ad,h1,rfl,h3⟩ him
  let ⟨b',_,_,k1,k2,_⟩:=hnow.mem h3
  grind
 have hownx:∀b,x.at b->Owned g o b:=λb hb=>by
  let ⟨ad,h1,h2,h3⟩:=hb
  exact ⟨hnimm b ⟨ad,h1,h2,h3⟩,.inr ⟨e,x,ad,hx,h1,h2,h3⟩⟩
 have harr:∀k j y,g.arr k j=some y->(g.era o (e+1) x').arr k j=some y:=λk j y h=>by
  rw[Gh.era_other]
  .exact h
  grind
 have hown:∀k b,Owned (g.era o (e+1) x') k b->Owned g k b∨(k=o∧x'.at b):=by
  rintro k b ⟨h1,h2|⟨j,y,ad,h2,h3,h4,h5⟩⟩
  .exact .inl ⟨h1,.inl h2⟩
  .by_cases hkj:k=o∧j=e+1
   .obtain ⟨rfl,rfl⟩:=hkj
    rw[Gh.era_same] at h2
    simp at h2
    subst h2
    exact .inr ⟨rfl,ad,h3,h4,h5⟩
   .rw[Gh.era_other _ _ _ _ _ _ hkj] at h2
    exact .inl ⟨h1,.inr ⟨j,y,ad,h2,h3,h4,h5⟩⟩
 have hown':∀k b,Owned (g.era o (e+1) x') k b->Owned g k b∨(k=o∧w.heap.size<=b):=λk b h=>by
  grind
 have he:Ext s.fl g w (g.era o (e+1) x') w':=
  ⟨λ_ _ h=>h,harr,λ_ h=>h,hsize,λb hb hn=>hheap b hb λhat=>hn o hfl (hownx b hat),λk b h=>(hown' k b h).imp id (·.2),λ_ h=>.inl h,hos,hout⟩
 refine ⟨⟨hs.nob,λk hk=>⟨(hs.bnd k hk).1,λj=>?_⟩,λk b hb=>?_,λk j y hy=>?_,λb hb=>Nat.lt_of_lt_of_le (hs.imm b hb) hsize,λk k' b h h'=>?_,hs.gext he⟩,he⟩
 .rw[Gh.era_other]
  .exact (hs.bnd k hk).2 j
  .rintro ⟨rfl,_⟩
   have:=hs.lt' hx
   grind
 .have hko:k≠o:=by
   rintro rfl
   exact (hs.box k b hb).notArr false ho
  have hbox:=hs.box k b hb
  refine hbox.ext he hs.imm (hheap b hbox.2.1 λhat=>hko (hs.uni k o b ⟨hbox.1,.inl hb⟩ (hownx b hat))) (by simp;rw[Tr.get_set64 _ _ _ _ hob,if_neg hko]) hbox.1
 .by_cases hko:k=o
  .subst hko
   by_cases hj:j=e+1
   .subst hj
    rw[Gh.era_same] at hy
    simp at hy
    subst hy
    refine ⟨λad ha hc=>(hx' _ ⟨ad,ha,rfl,hc⟩).1,λob hob2=>.inl ⟨false,es',e+1,?_,Nat.le_refl _,λe' h=>?_,λ_=>hxs▸hok⟩⟩
    .rw[Tr.get_set64 _ _ _ _ hob,if_pos rfl] at hob2
     grind[arrOb]
    grind[Gh.era_other]
   .have hy':g.arr k j=some y:=by rwa [Gh.era_other _ _ _ _ _ _ (by omega)] at hy
    have h4:=(hs.arr k j y hy').1
    let ⟨fz,es0,era,h1,h2,h3,_⟩:=(hs.arr k j y hy').old _ ho rfl
    have h1':arrOb false sz es e=arrOb fz y.sz es0 era:=h1
    obtain ⟨_,hysz,_,rfl⟩:=arrOb_inj h1'
    refine ⟨λad ha hc=>Nat.lt_of_lt_of_le (h4 ad ha hc) hsize,λob hob2=>.inl ⟨false,es',e+1,?_,by omega,λe' h=>?_,λh=>by omega⟩⟩
    .rw[Tr.get_set64 _ _ _ _ hob,if_pos rfl] at hob2
     grind[arrOb]
    grind[Gh.era_other]
  .have hy':g.arr k j=some y:=by rwa [Gh.era_other _ _ _ _ _ _ (λh=>hko h.1)] at hy
   have hok':=hs.arr k j y hy'
   refine hok'.ext he hs.imm (λb hb hc=>⟨?_,Iff.rfl⟩) (by simp;rw[Tr.get_set64 _ _ _ _ hob,if_neg hko]) (funext λj=>Gh.era_other _ _ _ _ _ _ (λh=>hko h.1))
   refine hheap b (hok'.1 _ hb hc) λhat=>?_
   by_cases him:g.imm b
   .simp_all
   .exact hko (hs.uni k o b ⟨him,.inr ⟨j,y,_,hy',hb,rfl,hc⟩⟩ (hownx b hat))
 .rcases hown' k b h with h1|⟨h1,h3⟩<;>rcases hown' k' b h' with h2|⟨h2,h4⟩
  .exact hs.uni k k' b h1 h2
  .have:=(hs.ownLt h1).1
   omega
  .have:=(hs.ownLt h2).1
   omega
  .rw[h1,h2]
theorem SRel.newArr {g:Gh} {s:St} {w w':World} (hs:SRel g s w) (hn:s.nob<bigN) {sz:Nat} {es:List D} {x:ASl}
  (hos:w'.os=w.os) (hout:w'.output=w.output) (hsize:w.heap.size<=w'.heap.size)
  (hheap:∀b,b<w.heap.size->w'.heap[b]?=w.heap[b]?) (hx:∀b,x.at b->w.heap.size<=b∧b<w'.heap.size)
  (hok:AOk (g.era s.nob 0 x) w' false sz es x) (hxs:x.sz=sz) :
  SRel (g.era s.nob 0 x) (newOb s (.arr sz es 0)).2 w'∧Ext s.fl g w (g.era s.nob 0 x) w':=by
 have hnone:=hs.bnd s.nob (Nat.le_refl _)
 have harr:∀k j y,g.arr k j=some y->(g.era s.nob 0 x).arr k j=some y:=λk j y h=>by
  rw[Gh.era_other]
  .exact h
  grind
 have hown:∀k b,Owned (g.era s.nob 0 x) k b->Owned g k b∨(k=s.nob∧w.heap.size<=b):=by
  rintro k b ⟨h1,h2|⟨j,y,ad,h2,h3,h4,h5⟩⟩
  .exact .inl ⟨h1,.inl h2⟩
  .by_cases hkj:k=s.nob∧j=0
   .obtain ⟨rfl,rfl⟩:=hkj
    rw[Gh.era_same] at h2
    simp at h2
    subst h2
    exact .inr ⟨rfl,(hx b ⟨ad,h3,h4,h5⟩).1⟩
   .rw[Gh.era_other _ _ _ _ _ _ hkj] at h2
    exact .inl ⟨h1,.inr ⟨j,y,ad,h2,h3,h4,h5⟩⟩
 have he:Ext s.fl g w (g.era s.nob 0 x) w':=
  ⟨λ_ _ h=>h,harr,λ_ h=>h,hsize,λb hb _=>hheap b hb,λk b h=>(hown k b h).imp id (·.2),λ_ h=>.inl h,hos,hout⟩
 refine ⟨⟨by simp only[newOb];omega,λk hk=>?_,λk b hb=>?_,λk j y hy=>?_,λb hb=>Nat.lt_of_lt_of_le (hs.imm b hb) hsize,λk k' b h h'=>?_,hs.gext he⟩,he⟩
 .simp only[newOb] at hk
  refine ⟨(hs.bnd k (by omega)).1,λj=>?_⟩
  rw[Gh.era_other _ _ _ _ _ _ (by omega)]
  exact (hs.bnd k (by omega)).2 j
 .have hb':g.blk k=some b:=hb
  have hbox:=hs.box k b hb'
  have hko:k≠s.nob:=λh=>by simp_all
  exact hbox.ext he hs.imm (hheap b hbox.2.1) (by simp[newOb];rw[Tr.get_set64 _ _ _ _ hn,if_neg hko]) hbox.1
 .by_cases hkj:k=s.nob∧j=0
  .obtain ⟨rfl,rfl⟩:=hkj
   rw[Gh.era_same] at hy
   simp at hy
   subst hy
   refine ⟨λad ha hc=>(hx _ ⟨ad,ha,rfl,hc⟩).2,λob hob2=>.inl ⟨false,es,0,?_,Nat.le_refl _,λe' h=>?_,λ_=>hxs▸hok⟩⟩
   .simp[newOb] at hob2
    rw[Tr.get_set64 _ _ _ _ hn,if_pos rfl] at hob2
    grind[arrOb]
   grind[Gh.era_other]
  .rw[Gh.era_other _ _ _ _ _ _ hkj] at hy
   have hko:k≠s.nob:=λh=>by simp_all
   have hok':=hs.arr k j y hy
   refine hok'.ext he hs.imm (λb hb hc=>⟨?_,Iff.rfl⟩) (by simp[newOb];rw[Tr.get_set64 _ _ _ _ hn,if_neg hko]) (funext λj=>Gh.era_other _ _ _ _ _ _ (λh=>hko h.1))
   exact hheap b (hok'.1 _ hb hc)
 .rcases hown k b h with h1|⟨h1,h3⟩<;>rcases hown k' b h' with h2|⟨h2,h4⟩
  .exact hs.uni k k' b h1 h2
  .have:=(hs.ownLt h1).1
   omega
  .have:=(hs.ownLt h2).1
   omega
  .rw[h1,h2]
theorem SRel.putArr {g:Gh} {s:St} {w:World} (hs:SRel g s w) {o e sz b:Nat} {es es':List D} {x:ASl} (ho:s.ob.get o=some (.arr sz es e)) (hx:g.arr o e=some x)
  (hfl:s.fl<=o) (hb:x.at b) {vs':Array Value} (hok:AOk g (w.setRow b vs') false sz es' x) :
  SRel g {s with ob:=s.ob.set fuelTr o (.arr sz es' e)} (w.setRow b vs')∧Ext s.fl g w g (w.setRow b vs'):=by
 have hob:o<bigN:=Nat.lt_of_lt_of_le (hs.lt' hx) hs.nob
 let ⟨hnow,hxsz⟩:=hs.arrNow (fz:=false) ho hx
 have hnimm:¬g.imm b:=by
  obtain ⟨ad,h1,rfl,h3⟩:=hb
  intro him
  let ⟨b',_,_,k1,k2,_⟩:=hnow.mem h3
  grind
 have hown:Owned g o b:=by
  let ⟨ad,h1,h2,h3⟩:=hb
  exact ⟨hnimm,.inr ⟨e,x,ad,hx,h1,h2,h3⟩⟩
 have he:Ext s.fl g w g (w.setRow b vs'):=
  ⟨λ_ _ h=>h,λ_ _ _ h=>h,λ_ h=>h,by simp,λb' _ hn=>setRow_other w b b' vs' (λe=>hn o hfl (e▸hown)),
   λ_ _ h=>.inl h,λ_ h=>.inl h,rfl,rfl⟩
 refine ⟨⟨hs.nob,hs.bnd,λk c hc=>?_,λk j y hy=>?_,λb' hb'=>by simpa using hs.imm b' hb',hs.uni,hs.gext he⟩,he⟩
 .have hko:k≠o:=by
   rintro rfl
   exact (hs.box k c hc).notArr false ho
  have hbox:=hs.box k c hc
  exact hbox.ext he hs.imm (setRow_other w b c vs' λe=>hko (hs.uni k o c ⟨hbox.1,.inl hc⟩ (e▸hown))) (by simp;rw[Tr.get_set64 _ _ _ _ hob,if_neg hko]) hbox.1
 .by_cases hko:k=o
  .subst hko
   have h4:=(hs.arr k j y hy).1
   let ⟨fz,es0,era,h1,h2,h3,_⟩:=(hs.arr k j y hy).old _ ho rfl
   have h1':arrOb false sz es e=arrOb fz y.sz es0 era:=h1
   obtain ⟨_,hysz,_,rfl⟩:=arrOb_inj h1'
   refine ⟨λad ha hc=>by simp_all,λob hob2=>.inl ⟨false,es',e,?_,h2,h3,λhje=>?_⟩⟩
   .rw[Tr.get_set64 _ _ _ _ hob,if_pos rfl] at hob2
    grind[arrOb]
   simp_all
  .have hok':=hs.arr k j y hy
   refine hok'.ext he hs.imm (λc hc hcap=>⟨setRow_other w b c vs' ?_,Iff.rfl⟩) (by simp;rw[Tr.get_set64 _ _ _ _ hob,if_neg hko]) rfl
   rintro rfl
   exact hko (hs.uni k o c ⟨hnimm,.inr ⟨j,y,_,hy,hc,rfl,hcap⟩⟩ hown)
def Gh.frz (g:Gh) (P:Nat->Prop):Gh:={g with imm:=λb=>g.imm b∨P b}
theorem SRel.freeze1 {g:Gh} {s:St} {w:World} (hs:SRel g s w) {o e sz:Nat} {es:List D} {x:ASl} (ho:s.ob.get o=some (.arr sz es e)) (hx:g.arr o e=some x)
  (hfl:s.fl<=o) :
  SRel (g.frz x.at) {s with ob:=s.ob.set fuelTr o (.frz sz es e)} w∧Ext s.fl g w (g.frz x.at) w:=by
 have hob:o<bigN:=Nat.lt_of_lt_of_le (hs.lt' hx) hs.nob
 let ⟨hnow,hxsz⟩:=hs.arrNow (fz:=false) ho hx
 have hnimm:∀b,x.at b->¬g.imm b:=by
  rintro b ⟨ad,h1,rfl,h3⟩ him
  let ⟨b',_,_,k1,k2,_⟩:=hnow.mem h3
  grind
 have hownx:∀b,x.at b->Owned g o b:=λb hb=>by
  let ⟨ad,h1,h2,h3⟩:=hb
  exact ⟨hnimm b ⟨ad,h1,h2,h3⟩,.inr ⟨e,x,ad,hx,h1,h2,h3⟩⟩
 have hown:∀k b,Owned (g.frz x.at) k b->Owned g k b∧¬x.at b:=λk b h=>⟨⟨λhi=>h.1 (.inl hi),h.2⟩,λhi=>h.1 (.inr hi)⟩
 have he:Ext s.fl g w (g.frz x.at) w:=
  ⟨λ_ _ h=>h,λ_ _ _ h=>h,λ_ h=>.inl h,Nat.le_refl _,λ_ _ _=>rfl,λk b h=>.inl (hown k b h).1,
   λb h=>h.imp id λh=>.inr ⟨o,hfl,hownx b h⟩,rfl,rfl⟩
 refine ⟨⟨hs.nob,hs.bnd,λk c hc=>?_,λk j y hy=>?_,λb hb=>?_,λk k' b h h'=>hs.uni k k' b (hown k b h).1 (hown k' b h').1,hs.gext he⟩,he⟩
 .have hko:k≠o:=by
   rintro rfl
   exact (hs.box k c hc).notArr false ho
  have hbox:=hs.box k c hc
  refine hbox.ext he hs.imm rfl (by simp;rw[Tr.get_set64 _ _ _ _ hob,if_neg hko]) ?_
  rintro (him|hat)
  .exact hbox.1 him
  .exact hko (hs.uni k o c ⟨hbox.1,.inl hc⟩ (hownx c hat))
 .by_cases hko:k=o
  .subst hko
   have h4:=(hs.arr k j y hy).1
   let ⟨fz,es0,era,h1,h2,h3,_⟩:=(hs.arr k j y hy).old _ ho rfl
   have h1':arrOb false sz es e=arrOb fz y.sz es0 era:=h1
   obtain ⟨_,hysz,_,rfl⟩:=arrOb_inj h1'
   refine ⟨h4,λob hob2=>.inl ⟨true,es,e,?_,h2,h3,λhje=>?_⟩⟩
   .rw[Tr.get_set64 _ _ _ _ hob,if_pos rfl] at hob2
    grind[arrOb]
   .subst hje
    have hy':g.arr k j=some y:=hy
    rw[hx] at hy'
    simp at hy'
    subst hy'
    refine ⟨hnow.len,hnow.cap,λd hd=>hysz▸hnow.rows d hd,hysz▸hnow.pos,hnow.byt,λhc=>?_⟩
    let ⟨b,vs,ty,k1,_,k3,k4,k5⟩:=hnow.mem hc
    exact ⟨b,vs,ty,k1,⟨λ_=>.inr ⟨_,k1,rfl,hc⟩,λ_=>rfl⟩,k3,hysz▸k4,λi d j c hd hj=>let ⟨v,hv,hr⟩:=k5 i d j c hd hj;⟨v,hysz▸hv,hr.ext he hs.imm⟩⟩
  .have hok':=hs.arr k j y hy
   refine hok'.ext he hs.imm (λc hc hcap=>⟨rfl,⟨λh=>h.elim id λhat=>?_,.inl⟩⟩) (by simp;rw[Tr.get_set64 _ _ _ _ hob,if_neg hko]) rfl
   by_cases him:g.imm c
   .exact him
   .exact absurd (hs.uni k o c ⟨him,.inr ⟨j,y,_,hy,hc,rfl,hcap⟩⟩ (hownx c hat)) hko
 .rcases hb with hb|hb
  .exact hs.imm b hb
  .exact (hs.ownLt (hownx b hb)).1
end TL
end
section
namespace TL
open Go
theorem rc_inj:∀{r r' i i':Nat},rc r i=rc r' i'->r=r'∧i=i'
 |0,0,i,i',h=>by simp[rc] at h;omega
 |0,r'+1,i,i',h=>by
  simp[rc,Nat.pow_zero,Nat.one_mul,Nat.pow_succ,Nat.mul_comm _ 2,Nat.mul_assoc] at h
  omega
 |r+1,0,i,i',h=>by
  simp[rc,Nat.pow_zero,Nat.one_mul,Nat.pow_succ,Nat.mul_comm _ 2,Nat.mul_assoc] at h
  omega
 |r+1,r'+1,i,i',h=>by
  have:rc r i=rc r' i':=by
   grind[rc]
  have:=rc_inj this
  omega
theorem SRel.getEq {g:Gh} {s s':St} {w:World} (hs:SRel g s w) (hn:s'.nob=s.nob) (ho:∀o,s'.ob.get o=s.ob.get o):SRel g s' w:=
 ⟨hn▸hs.nob,λo h=>hs.bnd o (hn▸h),λo b h=>let ⟨h1,h2,h3⟩:=hs.box o b h;⟨h1,h2,λob hob=>h3 ob (ho o▸hob)⟩,λo e x h=>let ⟨h1,h2⟩:=hs.arr o e x h;⟨h1,λob hob=>h2 ob (ho o▸hob)⟩,hs.imm,hs.uni,hs.glo⟩
theorem SRel.noBlk {g:Gh} {s:St} {w:World} (hs:SRel g s w) {o:Nat} {ob:Ob} (ho:s.ob.get o=some ob) (hi:ob.isArr=true):g.blk o=none:=by
 cases h:g.blk o with
 |none=>rfl
 |some b=>
  let ⟨x,_,h2⟩:=(hs.box o b h).2.2 ob ho
  have:=h2.notArr
  simp_all
theorem SRel.narNow {g:Gh} {s:St} {w:World} (hs:SRel g s w) {o e nj sz:Nat} {es:List D} {era m rera:Nat} {hole:Option Nat} {x:ASl} (ho:s.ob.get o=some (.nar nj sz es era m rera hole)) (hx:g.arr o e=some x) :
  x.sz=sz∧e<=era∧(∀e',era<e'->g.arr o e'=none)∧(e=era->∃hl,hl.length=es.length∧AOk g w false sz (lits nj es hl) x∧Link g m rera hole hl):=by
 rcases (hs.arr o e x hx).2 _ ho with ⟨fz,_,_,h,_⟩|⟨nj',es',era',m',rera',hole',h,h2,h3,h4⟩|⟨_,_,_,h,_⟩|h|⟨h,_⟩|⟨_,_,h,_⟩
 .cases fz<;>cases h
 .simp_all
 .cases h
 .cases h
 .cases h
 .cases h
theorem SRel.view {g:Gh} {s:St} {w:World} (hs:SRel g s w) {o nj sz:Nat} {es:List D} {era m rera:Nat} {hole:Option Nat} {x:ASl} (ho:s.ob.get o=some (.nar nj sz es era m rera hole)) (hx:g.arr o era=some x) :
  ∃hl,hl.length=es.length∧AOk g w false sz (lits nj es hl) x∧Link g m rera hole hl∧SRel g {s with ob:=s.ob.set fuelTr o (.arr sz (lits nj es hl) era)} w:=by
 have hob:o<bigN:=Nat.lt_of_lt_of_le (hs.lt' hx) hs.nob
 let ⟨_,_,_,h4⟩:=hs.narNow ho hx
 let ⟨hl,h5,h6,h7⟩:=h4 rfl
 have hnb:=hs.noBlk ho rfl
 refine ⟨hl,h5,h6,h7,hs.nob,hs.bnd,λk b hb=>?_,λk e y hy=>?_,hs.imm,hs.uni,hs.glo⟩
 .have hko:k≠o:=by grind
  let ⟨k1,k2,k3⟩:=hs.box k b hb
  refine ⟨k1,k2,λob hob2=>k3 ob ?_⟩
  simp at hob2
  rwa [Tr.get_set64 _ _ _ _ hob,if_neg hko] at hob2
 .let ⟨k1,k2⟩:=hs.arr k e y hy
  refine ⟨k1,λob hob2=>?_⟩
  rw[Tr.get_set64 _ _ _ _ hob] at hob2
  by_cases hko:k=o
  .subst hko
   rw[if_pos rfl] at hob2
   obtain rfl:=Option.some.inj hob2
   let ⟨q1,q2,q3,_⟩:=hs.narNow ho hy
   refine .inl ⟨false,lits nj es hl,era,by rw[q1];rfl,q2,q3,λhe=>?_⟩
   simp_all
  simp_all
theorem SRel.unview {g:Gh} {s:St} {w:World} (hs:SRel g s w) {o nj sz:Nat} {es:List D} {era m rera:Nat} {hole:Option Nat} {hl:List Value} (hob:o<bigN) (ho:s.ob.get o=some (.arr sz (lits nj es hl) era)) (hlen:hl.length=es.length)
  (hL:Link g m rera hole hl):SRel g {s with ob:=s.ob.set fuelTr o (.nar nj sz es era m rera hole)} w:=by
 have hnb:=hs.noBlk ho rfl
 refine ⟨hs.nob,hs.bnd,λk b hb=>?_,λk e y hy=>?_,hs.imm,hs.uni,hs.glo⟩
 .have hko:k≠o:=by grind
  let ⟨k1,k2,k3⟩:=hs.box k b hb
  refine ⟨k1,k2,λob hob2=>k3 ob ?_⟩
  simp at hob2
  rwa [Tr.get_set64 _ _ _ _ hob,if_neg hko] at hob2
 .let ⟨k1,k2⟩:=hs.arr k e y hy
  refine ⟨k1,λob hob2=>?_⟩
  rw[Tr.get_set64 _ _ _ _ hob] at hob2
  by_cases hko:k=o
  .subst hko
   rw[if_pos rfl] at hob2
   obtain rfl:=Option.some.inj hob2
   let ⟨fz,es',era',h1,h2,h3,h4⟩:=(hs.arr k e y hy).old _ ho rfl
   have h1':arrOb false sz (lits nj es hl) era=arrOb fz y.sz es' era':=h1
   obtain ⟨rfl,hsz,rfl,rfl⟩:=arrOb_inj h1'
   exact .inr (.inl ⟨nj,es,era,m,rera,hole,by rw[hsz],h2,h3,λhe=>⟨hl,hlen,h4 he,hL⟩⟩)
  simp_all
theorem SRel.rwsNow {g:Gh} {s:St} {w:World} (hs:SRel g s w) {m e sz:Nat} {rss:List (List D)} {r:Nat} {y:ASl} (hm:s.ob.get m=some (.rws sz rss r)) (hy:g.arr m e=some y) :
  (∀r' i,r<r'->g.arr m (rc r' i)=none)∧(∀i i' y y',i≠i'->g.arr m (rc r i)=some y->g.arr m (rc r i')=some y'->∀b,y.at b->¬y'.at b)∧
   (∀i,e=rc r i->y.sz=sz∧∃rs,rss[i]?=some rs∧AOk g w false sz rs y):=by
 rcases (hs.arr m e y hy).2 _ hm with ⟨fz,_,_,h,_⟩|⟨_,_,_,_,_,_,h,_⟩|⟨sz',rss',r',h,h2,h3,h4⟩|h|⟨h,_⟩|⟨_,_,h,_⟩
 .cases fz<;>cases h
 .cases h
 .grind
 .cases h
 .cases h
 .cases h
theorem AOk.at_ {g:Gh} {w:World} {fz:Bool} {sz:Nat} {es:List D} {x:ASl} (h:AOk g w fz sz es x) {b:Nat} (hb:x.at b):(fz=true↔g.imm b)∧∃vs ty,x.a=some ⟨b,0,none⟩∧w.heap[b]?=some (.cells vs ty (0,0)):=by
 let ⟨ad,h1,h2,h3⟩:=hb
 let ⟨b',vs,ty,k1,k2,k3,_⟩:=h.mem h3
 grind
theorem AOk.drel {g:Gh} {w:World} {fz:Bool} {sz:Nat} {es:List D} {x:ASl} (hok:AOk g w fz sz es x) {I:Nat->Prop} (hI:∀b,g.imm b->I b) (hx:∀b,x.at b->I b):DRel I w (.sl es) (.slice x.a x.len x.cap):=by
 rw[hok.len]
 by_cases hc:x.cap=0
 .have h0:es=[]:=by
   have h1:=hok.len
   have h2:=hok.cap
   simp_all
  subst h0
  exact .sl [] x.a x.cap sz (λ_ _=>undef) (by simp) (by simp) (by simp) (λh=>absurd rfl h) (λi j d c h=>by simp at h)
 .let ⟨b,vs,ty,h1,h2,h3,h4,h5⟩:=hok.mem hc
  have hex:∀q:Nat×Nat,∃v,∀d c,es[q.1]?=some d->d.cells[q.2]?=some c->vs[q.1*sz+q.2]?=some v∧DRel I w c v:=by
   rintro ⟨i,j⟩
   by_cases hi:i<es.length
   .by_cases hj:j<(es[i]).cells.length
    .let ⟨v,hv,hr⟩:=h5 i _ j _ (List.getElem?_eq_getElem hi) (List.getElem?_eq_getElem hj)
     refine ⟨v,λd c hd hc=>?_⟩
     rw[List.getElem?_eq_getElem hi] at hd
     simp at hd
     subst hd
     rw[List.getElem?_eq_getElem hj] at hc
     simp at hc
     subst hc
     exact ⟨hv,hr.mono (λ_ _=>rfl) hI⟩
    .refine ⟨undef,λd c hd hc=>?_⟩
     simp_all
   simp_all
  let ⟨val,hval⟩:=Classical.axiomOfChoice hex
  refine .sl es x.a x.cap sz (λi j=>val (i,j)) (by have:=hok.len;have:=hok.cap;omega) hok.rows hok.byt (λ_=>⟨_,h1,hx b ⟨_,h1,rfl,hc⟩,λi j d c hd hj=>?_⟩) (λi j d c hd hj=>(hval (i,j) d c hd hj).2)
  rw[add_mk,cell?_of_block h3]
  simp_all
theorem sumBy_eq (l:List D):D.sumBy l=(l.map D.lby).sum:=by
 induction l with
 |nil=>rfl
 |cons a l ih=>grind[D.sumBy]
theorem set_self' {α:Type} {l:List α} {i:Nat} {a:α} (h:l[i]?=some a):l.set i a=l:=by
 apply List.ext_getElem?
 grind
theorem lits_get {nj:Nat} {es:List D} {hl:List Value} (hlen:hl.length=es.length) {i:Nat} {d:D} (h:es[i]?=some d):∃v,hl[i]?=some v∧(lits nj es hl)[i]?=some (litD nj d v):=by
 have hi:=getElem?_isSome_lt h
 simp_all[lits]
theorem lits_len {nj:Nat} {es:List D} {hl:List Value} (hlen:hl.length=es.length):(lits nj es hl).length=es.length:=by simp[lits];omega
theorem fullD_by (nj:Nat) (d:D) (rs:List D) (a:Option Addr) (n m:Nat):(fullD nj d rs).by_=(litD nj d (.slice a n m)).by_:=by
 show D.sumBy _=D.sumBy _
 rw[sumBy_eq,sumBy_eq,List.map_set,List.map_set]
 rfl
theorem cln_data {I:Nat->Prop} {w:World} {j:Nat} {d:D} {c a:Option Addr} (hj:d.cells[j]?=some (.sl [])) (hd:DRel I w (.sl [litD j d (.slice c 0 0)]) (.slice a 1 1)):DRel I w (.sl [d]) (.slice a 1 1):=by
 have hlt:=getElem?_isSome_lt hj
 generalize hv:(Value.slice a 1 1)=v at hd
 cases hd with
 |sl es a' cap sz val hcap hsz hby ha hc=>
 cases hv
 have hl:(litD j d (.slice c 0 0)).cells=d.cells.set j (.lit (.slice c 0 0)):=rfl
 have hcell:∀(k:Nat) (x:D),d.cells[k]?=some x->∃x',(litD j d (.slice c 0 0)).cells[k]?=some x'∧∀u,DRel I w x' u->DRel I w x u:=λk x hx=>by
  by_cases hk:k=j
  .subst hk
   rw[hj] at hx
   cases hx
   refine ⟨.lit (.slice c 0 0),by rw[hl,List.getElem?_set_self hlt],λu hu=>?_⟩
   cases hu
   exact .sl [] c 0 0 (λ_ _=>undef) (by simp) (by simp) (by simp) (λh=>absurd rfl h) (λi j d c h=>by simp at h)
  grind
 have hby':d.by_=(litD j d (.slice c 0 0)).by_:=by
  cases d with
  |agg cs=>
   show D.sumBy cs=D.sumBy (cs.set j (.lit (.slice c 0 0)))
   rw[sumBy_eq,sumBy_eq,List.map_set]
   have:(cs.map D.lby)[j]?=some 24:=by
    rw[List.getElem?_map]
    have hj':cs[j]?=some (.sl []):=hj
    rw[hj']
    rfl
   have h24:(D.lit (Value.slice c 0 0)).lby=24:=rfl
   rw[h24,set_self' this]
  |_=>
   have h0:j=0:=by have:j<1:=hlt;omega
   subst h0
   cases hj<;>rfl
 refine .sl [d] a 1 sz val (by simp) (λx hx=>?_) (λx hx=>?_) (λ_=>?_) (λi k x y h1 h2=>?_)
 .rw[List.mem_singleton.1 hx,<-hsz _ (List.mem_singleton.2 rfl),hl,List.length_set]
 .simp_all
 .grind
 grind
theorem SRel.freezeNar {g:Gh} {s:St} {w:World} (hs:SRel g s w) {o m nj sz szr:Nat} {es:List D} {rss:List (List D)} {era r:Nat} {x:ASl} (ho:s.ob.get o=some (.nar nj sz es era m r none)) (hm:s.ob.get m=some (.rws szr rss r))
  (hmN:m<bigN) (hx:g.arr o era=some x) (hfl:s.fl<=o) (hflm:s.fl<=m) :
  ∃g',SRel g' {s with ob:=(s.ob.set fuelTr m .gone).set fuelTr o (.frz sz (fulls nj es rss) era)} w∧Ext s.fl g w g' w:=by
 have hob:o<bigN:=Nat.lt_of_lt_of_le (hs.lt' hx) hs.nob
 have hom:o≠m:=by grind
 let ⟨hxsz,_,hnx,h4⟩:=hs.narNow ho hx
 let ⟨hl,hlen,hok,hL⟩:=h4 rfl
 let R:Nat->Prop:=λb=>x.at b∨∃i y,g.arr m (rc r i)=some y∧y.at b
 have hRo:∀b,R b->∃k,s.fl<=k∧(k=o∨k=m)∧Owned g k b:=by
  rintro b (hb|⟨i,y,hy,hb⟩)
  .have h1:=(hok.at_ hb).1
   let ⟨ad,k1,k2,k3⟩:=hb
   exact ⟨o,hfl,.inl rfl,λhim=>Bool.noConfusion (h1.2 him),.inr ⟨era,x,ad,hx,k1,k2,k3⟩⟩
  .let ⟨_,rs,_,hr⟩:=(hs.rwsNow hm hy).2.2 i rfl
   have h1:=(hr.at_ hb).1
   let ⟨ad,k1,k2,k3⟩:=hb
   exact ⟨m,hflm,.inr rfl,λhim=>Bool.noConfusion (h1.2 him),.inr ⟨_,y,ad,hy,k1,k2,k3⟩⟩
 have hnimm:∀b,R b->¬g.imm b:=λb hb=>let ⟨_,_,_,hO⟩:=hRo b hb;hO.1
 have hown:∀k b,Owned (g.frz R) k b->Owned g k b∧¬R b:=λk b h=>⟨⟨λhi=>h.1 (.inl hi),h.2⟩,λhi=>h.1 (.inr hi)⟩
 have he:Ext s.fl g w (g.frz R) w:=
  ⟨λ_ _ h=>h,λ_ _ _ h=>h,λ_ h=>.inl h,Nat.le_refl _,λ_ _ _=>rfl,λk b h=>.inl (hown k b h).1,
   λb h=>h.imp id λh=>.inr (let ⟨k,h1,_,h3⟩:=hRo b h;⟨k,h1,h3⟩),rfl,rfl⟩
 have hget:∀k,((s.ob.set fuelTr m .gone).set fuelTr o (.frz sz (fulls nj es rss) era)).get k=if k=o then some (.frz sz (fulls nj es rss) era) else if k=m then some .gone else s.ob.get k:=λk=>by
  rw[Tr.get_set64 _ _ _ _ hob,Tr.get_set64 _ _ _ _ hmN]
 have hnbo:=hs.noBlk ho rfl
 have hnbm:=hs.noBlk hm rfl
 refine ⟨g.frz R,⟨hs.nob,hs.bnd,λk c hc=>?_,λk j y hy=>?_,λb hb=>?_,λk k' b h h'=>hs.uni k k' b (hown k b h).1 (hown k' b h').1,hs.gext he⟩,he⟩
 .have hc':g.blk k=some c:=hc
  have hko:k≠o:=by grind
  have hkm:k≠m:=by grind
  have hbox:=hs.box k c hc
  refine hbox.ext he hs.imm rfl (by simp;rw[hget,if_neg hko,if_neg hkm]) ?_
  rintro (him|hat)
  .exact hbox.1 him
  .let ⟨k',_,h1,h2⟩:=hRo c hat
   have:=hs.uni k k' c ⟨hbox.1,.inl hc⟩ h2
   omega
 .have hy':g.arr k j=some y:=hy
  by_cases hko:k=o
  .subst hko
   let ⟨q1,q2,_,_⟩:=hs.narNow ho hy'
   refine ⟨(hs.arr k j y hy').1,λob hob2=>?_⟩
   simp at hob2
   rw[hget,if_pos rfl] at hob2
   obtain rfl:=Option.some.inj hob2
   refine .inl ⟨true,fulls nj es rss,era,by rw[q1];rfl,q2,hnx,λhje=>?_⟩
   subst hje
   rw[hx] at hy'
   cases hy'
   rw[q1]
   have hrow:∀(i:Nat) (d:D),es[i]?=some d->∃(rs:List D) (yy:ASl),rss[i]?=some rs∧hl[i]?=some (Value.slice yy.a yy.len yy.cap)∧(lits nj es hl)[i]?=some (litD nj d (.slice yy.a yy.len yy.cap))∧DRel (g.frz R).imm w (.sl rs) (.slice yy.a yy.len yy.cap):=by
    intro i d hd
    let ⟨v,hv,hlit⟩:=lits_get (nj:=nj) hlen hd
    obtain ⟨yy,hyy,rfl⟩:=hL.2 i v hv (by simp)
    let ⟨_,rs,hrs,hra⟩:=(hs.rwsNow hm hyy).2.2 i rfl
    exact ⟨rs,yy,hrs,hv,hlit,hra.drel (λ_ h=>.inl h) (λb hb=>.inr (.inr ⟨i,yy,hyy,hb⟩))⟩
   have hfl1:(fulls nj es rss).length=es.length:=by
    rw[fulls,List.length_zipWith]
    rcases Nat.lt_or_ge rss.length es.length with h|h
    .let ⟨rs,_,hrs,_⟩:=hrow rss.length _ (List.getElem?_eq_getElem h)
     simp_all
    .omega
   have hfget:∀(i:Nat) (f:D),(fulls nj es rss)[i]?=some f->∃d rs,es[i]?=some d∧rss[i]?=some rs∧f=fullD nj d rs:=by
    grind[fulls]
   refine ⟨by rw[hfl1];have:=hok.len;rw[lits_len hlen] at this;exact this,hok.cap,λf hf=>?_,hok.pos,λf hf=>?_,λhc=>?_⟩
   .let ⟨i,hi⟩:=List.getElem?_of_mem hf
    obtain ⟨d,rs,h1,h2,rfl⟩:=hfget i f hi
    let ⟨_,_,_,_,hlit,_⟩:=hrow i d h1
    have:=hok.rows _ (List.mem_of_getElem? hlit)
    grind[litD,fullD,D.cells]
   .let ⟨i,hi⟩:=List.getElem?_of_mem hf
    obtain ⟨d,rs,h1,h2,rfl⟩:=hfget i f hi
    let ⟨_,yy,_,_,hlit,_⟩:=hrow i d h1
    rw[fullD_by nj d rs yy.a yy.len yy.cap]
    have hb:=hok.byt _ (List.mem_of_getElem? hlit)
    grind[lits_len]
   .let ⟨b,vs,ty,k1,_,k3,k4,k5⟩:=hok.mem hc
    refine ⟨b,vs,ty,k1,⟨λ_=>.inr (.inl ⟨_,k1,rfl,hc⟩),λ_=>rfl⟩,k3,k4,λi f jj c hf hjj=>?_⟩
    obtain ⟨d,rs,h1,h2,rfl⟩:=hfget i f hf
    let ⟨rs',yy,h2',hv,hlit,hdr⟩:=hrow i d h1
    rw[h2] at h2'
    cases h2'
    by_cases hjn:jj=nj
    .subst hjn
     have hlt:jj<d.cells.length:=by grind[fullD,D.cells]
     let ⟨v,hv1,hv2⟩:=k5 i _ jj (.lit (.slice yy.a yy.len yy.cap)) hlit (by show (d.cells.set jj _)[jj]?=_;rw[List.getElem?_set_self hlt])
     cases hv2
     have hce:c=.sl rs:=by
      have hj2:(d.cells.set jj (.sl rs))[jj]?=some c:=hjj
      simp_all
     simp_all
    .let ⟨v,hv1,hv2⟩:=k5 i _ jj c hlit (by
      grind[litD,fullD,D.cells])
     exact ⟨v,hv1,hv2.ext he hs.imm⟩
  .by_cases hkm:k=m
   .subst hkm
    refine ⟨(hs.arr k j y hy').1,λob hob2=>?_⟩
    rw[hget,if_neg hko,if_pos rfl] at hob2
    obtain rfl:=Option.some.inj hob2
    exact .inr (.inr (.inr (.inl rfl)))
   .have hok':=hs.arr k j y hy'
    refine hok'.ext he hs.imm (λc hc hcap=>⟨rfl,⟨λh=>h.elim id λhat=>?_,.inl⟩⟩) (by simp;rw[hget,if_neg hko,if_neg hkm]) rfl
    by_cases him:g.imm c
    .exact him
    .let ⟨k',_,h1,h2⟩:=hRo c hat
     have:=hs.uni k k' c ⟨him,.inr ⟨j,y,_,hy',hc,rfl,hcap⟩⟩ h2
     omega
 .rcases hb with hb|hb
  .exact hs.imm b hb
  .let ⟨k,_,_,h⟩:=hRo b hb
   exact (hs.ownLt h).1
structure AppPost (g:Gh) (w:World) (n:Nat) (es:List D) (x:ASl) (v:Value) (w':World) (x':ASl):Prop where
 val:v=.slice x'.a x'.len x'.cap
 sz:x'.sz=n
 os:w'.os=w.os
 output:w'.output=w.output
 size:w.heap.size<=w'.heap.size
 heap:∀b,b<w.heap.size->¬x.at b->w'.heap[b]?=w.heap[b]?
 at_:∀b,x'.at b->b<w'.heap.size∧(w.heap.size<=b∨x.at b)
 ok:AOk g w' false n es x'
noncomputable def Gh.rowEra (g:Gh) (m r i:Nat) (y:ASl):Gh:=by
 classical
 exact {g with arr:=λk j=>if k=m then (if h:∃i',j=rc (r+1) i' then (if h.choose=i then some y else g.arr m (rc r h.choose)) else g.arr m j) else g.arr k j}
theorem Gh.rowEra_other {g:Gh} {m r i:Nat} {y:ASl} {k:Nat} (h:k≠m):(g.rowEra m r i y).arr k=g.arr k:=by
 funext j
 simp[Gh.rowEra,h]
theorem Gh.rowEra_new {g:Gh} {m r i:Nat} {y:ASl} (i':Nat):(g.rowEra m r i y).arr m (rc (r+1) i')=if i'=i then some y else g.arr m (rc r i'):=by
 have hex:∃i'',rc (r+1) i'=rc (r+1) i'':=⟨i',rfl⟩
 have hc:hex.choose=i':=(rc_inj hex.choose_spec).2.symm
 simp[Gh.rowEra,dif_pos hex,hc]
theorem Gh.rowEra_old {g:Gh} {m r i:Nat} {y:ASl} {j:Nat} (h:∀i',j≠rc (r+1) i'):(g.rowEra m r i y).arr m j=g.arr m j:=by
 simp_all[Gh.rowEra]
theorem SRel.bumpRow {g:Gh} {s:St} {w w':World} (hs:SRel g s w) {o m nj sz szr:Nat} {es:List D} {rss:List (List D)} {era r i:Nat} {y y':ASl} {v:Value} {rs':List D} (ho:s.ob.get o=some (.nar nj sz es era m r none))
  (hm:s.ob.get m=some (.rws szr rss r)) (hoN:o<bigN) (hy:g.arr m (rc r i)=some y) (hp:AppPost g w szr rs' y v w' y') (hflm:s.fl<=m) :
  SRel (g.rowEra m r i y') {s with ob:=(s.ob.set fuelTr m (.rws szr (rss.set i rs') (r+1))).set fuelTr o (.nar nj sz es era m (r+1) (some i))} w'∧Ext s.fl g w (g.rowEra m r i y') w':=by
 have hmN:m<bigN:=Nat.lt_of_lt_of_le (hs.lt' hy) hs.nob
 have hom:o≠m:=by grind
 let ⟨hnone,hapart,hrow⟩:=hs.rwsNow hm hy
 let ⟨_,rs0,hrs0,hok0⟩:=hrow i rfl
 have hilt:=getElem?_isSome_lt hrs0
 have hyO:∀b,y.at b->Owned g m b:=λb hb=>by
  have h1:=(hok0.at_ hb).1
  let ⟨ad,k1,k2,k3⟩:=hb
  exact ⟨λhim=>Bool.noConfusion (h1.2 him),.inr ⟨_,y,ad,hy,k1,k2,k3⟩⟩
 have harr:∀k j z,g.arr k j=some z->(g.rowEra m r i y').arr k j=some z:=λk j z h=>by
  grind[Gh.rowEra_old,Gh.rowEra_other]
 have hnewarr:∀k j z,(g.rowEra m r i y').arr k j=some z->(k=m∧j=rc (r+1) i∧z=y')∨(k=m∧∃i',i'≠i∧j=rc (r+1) i'∧g.arr m (rc r i')=some z)∨((∀i',k=m->j≠rc (r+1) i')∧g.arr k j=some z):=λk j z h=>by
  by_cases hk:k=m
  .subst hk
   by_cases hj:∃i',j=rc (r+1) i'
   .obtain ⟨i',rfl⟩:=hj
    rw[Gh.rowEra_new] at h
    grind
   grind[Gh.rowEra_old]
  grind[Gh.rowEra_other]
 have hown:∀k b,Owned (g.rowEra m r i y') k b->Owned g k b∨(k=m∧w.heap.size<=b):=by
  rintro k b ⟨h1,h2|⟨j,z,ad,h2,h3,h4,h5⟩⟩
  .exact .inl ⟨h1,.inl h2⟩
  .rcases hnewarr k j z h2 with ⟨rfl,_,rfl⟩|⟨rfl,i',_,_,h⟩|⟨_,h⟩
   .rcases (hp.at_ b ⟨ad,h3,h4,h5⟩).2 with h|h
    .omega
    simp_all
   .exact .inl ⟨h1,.inr ⟨_,z,ad,h,h3,h4,h5⟩⟩
   .exact .inl ⟨h1,.inr ⟨j,z,ad,h,h3,h4,h5⟩⟩
 have he:Ext s.fl g w (g.rowEra m r i y') w':=
  ⟨λ_ _ h=>h,harr,λ_ h=>h,hp.size,λb hb hn=>hp.heap b hb λhat=>hn m hflm (hyO b hat),λk b h=>(hown k b h).imp id (·.2),λ_ h=>.inl h,hp.os,hp.output⟩
 have hget:∀k,((s.ob.set fuelTr m (.rws szr (rss.set i rs') (r+1))).set fuelTr o (.nar nj sz es era m (r+1) (some i))).get k=if k=o then some (.nar nj sz es era m (r+1) (some i)) else if k=m then some (.rws szr (rss.set i rs') (r+1)) else s.ob.get k:=λk=>by
  rw[Tr.get_set64 _ _ _ _ hoN,Tr.get_set64 _ _ _ _ hmN]
 have hnbo:=hs.noBlk ho rfl
 have hnbm:=hs.noBlk hm rfl
 have hstay:∀k j z,g.arr k j=some z->k≠m->∀b,z.a=some ⟨b,0,none⟩->z.cap≠0->w'.heap[b]?=w.heap[b]?:=λk j z hz hk b hb hc=>by
  refine hp.heap b ((hs.arr k j z hz).1 _ hb hc) λhat=>?_
  have hO:=hyO b hat
  exact hk (hs.uni k m b ⟨hO.1,.inr ⟨j,z,_,hz,hb,rfl,hc⟩⟩ hO)
 refine ⟨⟨hs.nob,λk hk=>⟨(hs.bnd k hk).1,λj=>?_⟩,λk b hb=>?_,λk j z hz=>?_,λb hb=>Nat.lt_of_lt_of_le (hs.imm b hb) hp.size,λk k' b h h'=>?_,hs.gext he⟩,he⟩
 .rw[Gh.rowEra_other (by rintro rfl;have:=hs.lt' hy;grind)]
  exact (hs.bnd k hk).2 j
 .have hb':g.blk k=some b:=hb
  have hko:k≠o:=by grind
  have hkm:k≠m:=by grind
  have hbox:=hs.box k b hb'
  exact hbox.ext he hs.imm (hp.heap b hbox.2.1 λhat=>hkm (hs.uni k m b ⟨hbox.1,.inl hb'⟩ (hyO b hat))) (by simp;rw[hget,if_neg hko,if_neg hkm]) hbox.1
 .by_cases hkm:k=m
  .subst hkm
   refine ⟨λad ha hc=>?_,λob hob=>?_⟩
   .rcases hnewarr k j z hz with ⟨_,_,rfl⟩|⟨_,i',_,_,h⟩|⟨_,h⟩
    .exact (hp.at_ _ ⟨ad,ha,rfl,hc⟩).1
    .exact Nat.lt_of_lt_of_le ((hs.arr k _ z h).1 ad ha hc) hp.size
    .exact Nat.lt_of_lt_of_le ((hs.arr k _ z h).1 ad ha hc) hp.size
   .rw[hget,if_neg (λe=>hom e.symm),if_pos rfl] at hob
    obtain rfl:=Option.some.inj hob
    refine .inr (.inr (.inl ⟨szr,rss.set i rs',r+1,rfl,λr' i' hr'=>?_,λi1 i2 y1 y2 hne h1 h2 b hb1 hb2=>?_,λi' hj=>?_⟩))
    .grind[Gh.rowEra_old,rc_inj]
    .rw[Gh.rowEra_new] at h1 h2
     have mix:∀i3 y3,i3≠i->g.arr k (rc r i3)=some y3->∀b,y'.at b->¬y3.at b:=λi3 y3 hn h3 b hb hb3=>by
      rcases (hp.at_ b hb).2 with h|h
      .let ⟨ad,k1,k2,k3⟩:=hb3
       have:=(hs.arr k _ y3 h3).1 ad k1 k3
       omega
      grind
     grind
    .subst hj
     rw[Gh.rowEra_new] at hz
     split at hz
     .rename_i e1
      subst e1
      cases hz
      exact ⟨hp.sz,rs',by rw[List.getElem?_set_self hilt],hp.ok.imm_eq rfl⟩
     .rename_i e1
      let ⟨q1,rs,q2,q3⟩:=(hs.rwsNow hm hz).2.2 i' rfl
      refine ⟨q1,rs,by grind,q3.ext he hs.imm (λb hb hc=>⟨?_,Iff.rfl⟩)⟩
      exact hp.heap b ((hs.arr k _ z hz).1 _ hb hc) (λhat=>hapart i i' y z (λe=>e1 e.symm) hy hz b hat ⟨_,hb,rfl,hc⟩)
  .have hz':g.arr k j=some z:=by grind
   by_cases hko:k=o
   .subst hko
    let ⟨q1,q2,q3,q4⟩:=hs.narNow ho hz'
    refine ⟨λad ha hc=>Nat.lt_of_lt_of_le ((hs.arr k j z hz').1 ad ha hc) hp.size,λob hob=>?_⟩
    rw[hget,if_pos rfl] at hob
    obtain rfl:=Option.some.inj hob
    refine .inr (.inl ⟨nj,es,era,m,r+1,some i,by rw[q1],q2,λe' h=>by rw[Gh.rowEra_other hkm];exact q3 e' h,λhje=>?_⟩)
    let ⟨hl,k1,k2,k3⟩:=q4 hje
    refine ⟨hl,k1,q1▸(k2.ext he hs.imm (λb hb hc=>⟨hstay k j z hz' hkm b hb hc,Iff.rfl⟩)),k3.1,λi' h hh hne=>?_⟩
    let ⟨yy,h1,h2⟩:=k3.2 i' h hh (by simp)
    exact ⟨yy,by rw[Gh.rowEra_new,if_neg (λe=>hne (by rw[e]))];exact h1,h2⟩
   .exact (hs.arr k j z hz').ext he hs.imm (λb hb hc=>⟨hstay k j z hz' hkm b hb hc,Iff.rfl⟩) (by simp;rw[hget,if_neg hko,if_neg hkm]) (Gh.rowEra_other hkm)
 .rcases hown k b h with h1|⟨h1,h3⟩<;>rcases hown k' b h' with h2|⟨h2,h4⟩
  .exact hs.uni k k' b h1 h2
  .have:=(hs.ownLt h1).1
   omega
  .have:=(hs.ownLt h2).1
   omega
  .rw[h1,h2]
noncomputable def Gh.addRows (g:Gh) (m:Nat) (ys:List ASl):Gh:=by
 classical
 exact {g with arr:=λk j=>if k=m then (if h:∃i,j=rc 0 i then ys[h.choose]? else none) else g.arr k j}
theorem Gh.addRows_other {g:Gh} {m:Nat} {ys:List ASl} {k:Nat} (h:k≠m):(g.addRows m ys).arr k=g.arr k:=by
 funext j
 simp[Gh.addRows,h]
theorem Gh.addRows_new {g:Gh} {m:Nat} {ys:List ASl} (i:Nat):(g.addRows m ys).arr m (rc 0 i)=ys[i]?:=by
 have hex:∃i',rc 0 i=rc 0 i':=⟨i,rfl⟩
 have hc:hex.choose=i:=(rc_inj hex.choose_spec).2.symm
 simp[Gh.addRows,dif_pos hex,hc]
theorem Gh.addRows_some {g:Gh} {m:Nat} {ys:List ASl} {j:Nat} {z:ASl} (h:(g.addRows m ys).arr m j=some z):∃i,j=rc 0 i∧ys[i]?=some z:=by
 by_cases hj:∃i,j=rc 0 i
 .obtain ⟨i,rfl⟩:=hj
  rw[Gh.addRows_new] at h
  exact ⟨i,rfl,h⟩
 .simp only[Gh.addRows,if_true,dif_neg hj] at h
  cases h
theorem SRel.addRws {g:Gh} {s:St} {w:World} (hs:SRel g s w) (hn:s.nob<bigN) {sz:Nat} {rss:List (List D)} {ys:List ASl} (hx:∀y∈ys,∀b,y.at b->b<w.heap.size∧∀o,¬Owned g o b)
  (hok:∀(i:Nat) (y:ASl),ys[i]?=some y->y.sz=sz∧∃rs,rss[i]?=some rs∧AOk g w false sz rs y) (hap:ys.Pairwise λx y=>∀b,x.at b->¬y.at b) :
  SRel (g.addRows s.nob ys) (newOb s (.rws sz rss 0)).2 w∧(∀k j y,g.arr k j=some y->(g.addRows s.nob ys).arr k j=some y)∧(∀k b,Owned (g.addRows s.nob ys) k b->Owned g k b∨(k=s.nob∧∃y∈ys,y.at b)):=by
 have hnone:=hs.bnd s.nob (Nat.le_refl _)
 have harr:∀k j y,g.arr k j=some y->(g.addRows s.nob ys).arr k j=some y:=λk j y h=>by
  rw[Gh.addRows_other]
  .exact h
  grind
 have hown:∀k b,Owned (g.addRows s.nob ys) k b->Owned g k b∨(k=s.nob∧∃y∈ys,y.at b):=by
  rintro k b ⟨h1,h2|⟨j,y,ad,h2,h3⟩⟩
  .exact .inl ⟨h1,.inl h2⟩
  .by_cases hk:k=s.nob
   .subst hk
    let ⟨i,_,hi⟩:=Gh.addRows_some h2
    exact .inr ⟨rfl,y,List.mem_of_getElem? hi,ad,h3⟩
   .rw[Gh.addRows_other hk] at h2
    exact .inl ⟨h1,.inr ⟨j,y,ad,h2,h3⟩⟩
 have hget:∀k,(newOb s (.rws sz rss 0)).2.ob.get k=if k=s.nob then some (.rws sz rss 0) else s.ob.get k:=λk=>by
  simp[newOb]
  rw[Tr.get_set64 _ _ _ _ hn]
 refine ⟨⟨by simp only[newOb];omega,λk hk=>?_,λk b hb=>?_,λk j y hy=>?_,hs.imm,λk k' b h h'=>?_,hs.glo⟩,harr,hown⟩
 .simp only[newOb] at hk
  refine ⟨(hs.bnd k (by omega)).1,λj=>?_⟩
  rw[Gh.addRows_other (by omega)]
  exact (hs.bnd k (by omega)).2 j
 .have hb':g.blk k=some b:=hb
  have hko:k≠s.nob:=λh=>by simp_all
  let ⟨k1,k2,k3⟩:=hs.box k b hb'
  refine ⟨k1,k2,λob hob=>?_⟩
  rw[hget,if_neg hko] at hob
  let ⟨x,h1,h2⟩:=k3 ob hob
  refine ⟨x,h1,?_⟩
  exact h2.imp (λt v ht=>ht.garr harr rfl rfl)
 .by_cases hk:k=s.nob
  .subst hk
   obtain ⟨i,rfl,hi⟩:=Gh.addRows_some hy
   refine ⟨λad ha hc=>(hx y (List.mem_of_getElem? hi) _ ⟨ad,ha,rfl,hc⟩).1,λob hob=>?_⟩
   rw[hget,if_pos rfl] at hob
   obtain rfl:=Option.some.inj hob
   refine .inr (.inr (.inl ⟨sz,rss,0,rfl,λr' i' hr'=>?_,λi1 i2 y1 y2 hne h1 h2 b hb1 hb2=>?_,λi' hj=>?_⟩))
   .cases h:(g.addRows s.nob ys).arr s.nob (rc r' i') with
    |none=>rfl
    |some z=>
     grind[Gh.addRows_some,rc_inj]
   .grind[Gh.addRows_new,List.pairwise_iff_getElem]
   .have:=(rc_inj hj).2
    subst this
    let ⟨q1,rs,q2,q3⟩:=hok i y hi
    exact ⟨q1,rs,q2,q3.imm_eq rfl⟩
  .have hy':g.arr k j=some y:=by grind[Gh.addRows_other]
   let ⟨k1,k2⟩:=hs.arr k j y hy'
   refine ⟨k1,λob hob=>?_⟩
   rw[hget,if_neg hk] at hob
   exact (k2 ob hob).tr (λh=>h.imm_eq rfl) harr (Gh.addRows_other hk) (λ_ _ _=>⟨rfl,Iff.rfl⟩)
 .rcases hown k b h with h1|⟨h1,y1,m1,a1⟩<;>rcases hown k' b h' with h2|⟨h2,y2,m2,a2⟩
  .exact hs.uni k k' b h1 h2
  .grind
  .grind
  .rw[h1,h2]
end TL
end
section
namespace TL
open Go
theorem SRel.slData {g:Gh} {s:St} {w:World} (hs:SRel g s w) {o e sz:Nat} {es:List D} {x:ASl} (ho:s.ob.get o=some (.frz sz es e)) (hx:g.arr o e=some x) :
  DRel g.imm w (.sl es) (.slice x.a x.len x.cap):=by
 let ⟨hok,_⟩:=hs.arrNow (fz:=true) ho hx
 exact hok.drel (λ_ h=>h) (λb hb=>(hok.at_ hb).1.1 rfl)
def Live (g:Gh) (s:St) (o:Nat):Prop:=o<bigN∧((∃e x,g.arr o e=some x∧((∃fz sz es,s.ob.get o=some (arrOb fz sz es e))∨∃nj sz es m r hole,s.ob.get o=some (.nar nj sz es e m r hole)))∨(∃sz rss r,s.ob.get o=some (.rws sz rss r))∨s.ob.get o=some .gone)
theorem Live.isArr {g:Gh} {s:St} {o:Nat} {ob:Ob} (h:Live g s o) (ho:s.ob.get o=some ob):ob.isArr=true:=by
 rcases h.2 with ⟨_,_,_,⟨fz,_,_,h⟩|⟨_,_,_,_,_,_,h⟩⟩|⟨_,_,_,h⟩|h
 .rw[ho] at h;cases h;cases fz<;>rfl
 .rw[ho] at h;cases h;rfl
 .rw[ho] at h;cases h;rfl
 .rw[ho] at h;cases h;rfl
structure Frozen (s s':St) (os:List Nat):Prop where
 fl:s'.fl=s.fl
 nob:s'.nob=s.nob
 hit:∀o∈os,∀fz sz es e,s.ob.get o=some (arrOb fz sz es e)->s'.ob.get o=some (.frz sz es e)
 frz:∀o sz es e,s.ob.get o=some (.frz sz es e)->s'.ob.get o=some (.frz sz es e)
 nar:∀o∈os,∀nj sz es e m r rss,s.ob.get o=some (.nar nj sz es e m r none)->rwsT s m r=some rss->s'.ob.get o=some (.frz sz (fulls nj es rss) e)
theorem Frozen.sub {s s':St} {os os':List Nat} (h:Frozen s s' os) (hs:∀o∈os',o∈os):Frozen s s' os':=
 ⟨h.fl,h.nob,λo ho=>h.hit o (hs o ho),h.frz,λo ho=>h.nar o (hs o ho)⟩
theorem rwsT_some {s:St} {m r:Nat} {rss:List (List D)} (h:rwsT s m r=some rss):∃sz,s.ob.get m=some (.rws sz rss r):=by
 unfold rwsT at h
 split at h
 .rename_i sz rss' r' hm
  rcases cond_some h with ⟨hb,h⟩|⟨_,h⟩
  .simp_all
  .cases h
 .cases h
theorem freeze_cons {s s':St} {o:Nat} {os:List Nat} (h:freeze s (o ::os)=some s'):s.fl<=o∧
  ((∃sz es e,s.ob.get o=some (.arr sz es e)∧freeze {s with ob:=s.ob.set fuelTr o (.frz sz es e)} os=some s')∨
   (∃sz es e,s.ob.get o=some (.frz sz es e)∧freeze s os=some s')∨
   (((∃sz rss r,s.ob.get o=some (.rws sz rss r))∨s.ob.get o=some .gone)∧freeze s os=some s')∨
   (∃nj sz es e m r rss szr,s.ob.get o=some (.nar nj sz es e m r none)∧s.ob.get m=some (.rws szr rss r)∧rwsT s m r=some rss∧(m∈os∧s.fl<=m)∧m<bigN∧freeze {s with ob:=(s.ob.set fuelTr m .gone).set fuelTr o (.frz sz (fulls nj es rss) e)} os=some s')):=by
 rcases cond_some h with ⟨hb,h⟩|⟨_,h⟩
 .refine ⟨Nat.le_of_ble_eq_true hb,?_⟩
  split at h
  .grind
  .simp_all
  .rename_i nj sz es e m r ho
   split at h
   .rename_i rss hr
    rcases cond_some h with ⟨hb2,h⟩|⟨_,h⟩
    .rw[Bool.and_eq_true] at hb2
     let ⟨szr,hm⟩:=rwsT_some hr
     rw[Bool.and_eq_true] at hb2
     exact .inr (.inr (.inr ⟨nj,sz,es,e,m,r,rss,szr,ho,hm,hr,⟨by grind,Nat.le_of_ble_eq_true hb2.2.1⟩,Nat.le_of_ble_eq_true hb2.2.2,h⟩))
    .cases h
   .cases h
  .simp_all
  .simp_all
  .cases h
 .cases h
theorem freeze_gone:∀{os:List Nat} {s s':St} {m:Nat},freeze s os=some s'->s.ob.get m=some .gone->(∀o∈os,o<bigN)->∀o∈os,∀nj sz es e r hole,s.ob.get o≠some (.nar nj sz es e m r hole)
 |[],_,_,_,_,_,_,o,ho,_,_,_,_,_,_=>by cases ho
 |o1 ::os,s,s',m,h,hg,hN,o,ho,nj,sz,es,e,r,hole=>λhn=>by
  obtain ⟨_,h1|h1|h1|h1⟩:=freeze_cons h
  .let ⟨sz1,es1,e1,ho1,h2⟩:=h1
   have hom:m≠o1:=by grind
   have hoo:o≠o1:=by grind
   have hget:∀k,k≠o1->({s with ob:=s.ob.set fuelTr o1 (.frz sz1 es1 e1)}:St).ob.get k=s.ob.get k:=λk hk=>by
    show (s.ob.set fuelTr o1 _).get k=_
    rw[Tr.get_set64 _ _ _ _ (hN o1 (by simp)),if_neg hk]
   exact freeze_gone h2 (by rw[hget m hom];exact hg) (λk hk=>hN k (by simp[hk])) o ((List.mem_cons.1 ho).resolve_left hoo) nj sz es e r hole (by simp_all)
  .let ⟨sz1,es1,e1,ho1,h2⟩:=h1
   have hoo:o≠o1:=by grind
   exact freeze_gone h2 hg (λk hk=>hN k (by simp[hk])) o ((List.mem_cons.1 ho).resolve_left hoo) nj sz es e r hole hn
  .let ⟨ho1,h2⟩:=h1
   have hoo:o≠o1:=by
    rintro rfl
    rcases ho1 with ⟨_,_,_,h⟩|h<;>(rw[hn] at h;cases h)
   exact freeze_gone h2 hg (λk hk=>hN k (by simp[hk])) o ((List.mem_cons.1 ho).resolve_left hoo) nj sz es e r hole hn
  .let ⟨nj1,sz1,es1,e1,m1,r1,rss1,szr1,ho1,hm1,_,_,hmN,h2⟩:=h1
   have hmm:m≠m1:=by grind
   have hom:m≠o1:=by grind
   by_cases hoo:o=o1
   .simp_all
   .have hom1:o≠m1:=by grind
    have hget:∀k,k≠o1->k≠m1->({s with ob:=(s.ob.set fuelTr m1 .gone).set fuelTr o1 (.frz sz1 (fulls nj1 es1 rss1) e1)}:St).ob.get k=s.ob.get k:=λk hk hk2=>by
     show ((s.ob.set fuelTr m1 _).set fuelTr o1 _).get k=_
     rw[Tr.get_set64 _ _ _ _ (hN o1 (by simp)),if_neg hk,Tr.get_set64 _ _ _ _ hmN,if_neg hk2]
    exact freeze_gone h2 (by rw[hget m hom hmm];exact hg) (λk hk=>hN k (by simp[hk])) o ((List.mem_cons.1 ho).resolve_left hoo) nj sz es e r hole (by simp_all)
theorem freeze_sound (os:List Nat):∀{g:Gh} {s s':St} {w:World},SRel g s w->freeze s os=some s'->(∀o∈os,Live g s o)->
  ∃g',SRel g' s' w∧Ext s.fl g w g' w∧Frozen s s' os:=by
 induction os with
 |nil=>
  intro g s s' w hs h _
  simp[freeze] at h
  subst h
  exact ⟨g,hs,Ext.refl _ _ _,⟨rfl,rfl,λo ho=>(by cases ho),λ_ _ _ _ h=>h,λo ho=>(by cases ho)⟩⟩
 |cons o os ih=>
  intro g s s' w hs h hl
  have hN:∀k∈o ::os,k<bigN:=λk hk=>(hl k hk).1
  have hob:=hN o (by simp)
  obtain ⟨hfl,h1|h1|h1|h1⟩:=freeze_cons h
  .obtain ⟨sz,es,e0,ho,h⟩:=h1
   obtain ⟨x,hx⟩:∃x,g.arr o e0=some x:=by
    rcases (hl o (by simp)).2 with ⟨e,x,hx,⟨fz,_,_,h⟩|⟨_,_,_,_,_,_,h⟩⟩|⟨_,_,_,h⟩|h
    .grind[arrOb,Option.some.inj,arrOb_inj]
    .simp_all
    .simp_all
    simp_all
   obtain ⟨hs1,he1⟩:=hs.freeze1 ho hx hfl
   have hget:∀k,({s with ob:=s.ob.set fuelTr o (.frz sz es e0)}:St).ob.get k=if k=o then some (.frz sz es e0) else s.ob.get k:=λk=>Tr.get_set64 _ _ _ _ hob
   obtain ⟨g',hs',he',hf'⟩:=ih hs1 h (λk hk=>by
    by_cases hko:k=o
    .subst hko
     exact ⟨hob,.inl ⟨e0,x,hx,.inl ⟨true,sz,es,by rw[hget,if_pos rfl];rfl⟩⟩⟩
    .have:=hl k (by simp[hk])
     unfold Live at this ⊢
     rw[hget,if_neg hko]
     exact this)
   refine ⟨g',hs',he1.trans he',⟨hf'.fl,hf'.nob,λk hk fz sz' es' e' h1=>?_,λk sz' es' e' h1=>?_,λk hk nj sz' es' e' m r rss h1 h2=>?_⟩⟩
   .by_cases hko:k=o
    .subst hko
     rw[ho] at h1
     have h1':arrOb false sz es e0=_:=Option.some.inj h1
     obtain ⟨_,rfl,rfl,rfl⟩:=arrOb_inj h1'
     exact hf'.frz k sz es e0 (by rw[hget,if_pos rfl])
    .exact hf'.hit k ((List.mem_cons.1 hk).resolve_left hko) fz sz' es' e' (by simp_all)
   .have hko:k≠o:=by
     grind
    exact hf'.frz k sz' es' e' (by simp_all)
   .have hko:k≠o:=by grind
    obtain ⟨szr,hm⟩:=rwsT_some h2
    have hmo:m≠o:=by grind
    exact hf'.nar k ((List.mem_cons.1 hk).resolve_left hko) nj sz' es' e' m r rss (by simp_all) (by simp_all[rwsT])
  .obtain ⟨sz,es,e,ho,h⟩:=h1
   obtain ⟨g',hs',he',hf'⟩:=ih hs h (λk hk=>hl k (by simp[hk]))
   refine ⟨g',hs',he',⟨hf'.fl,hf'.nob,λk hk fz sz' es' e' h1=>?_,hf'.frz,λk hk nj sz' es' e' m r rss h1 h2=>?_⟩⟩
   .rcases List.mem_cons.1 hk with rfl|hk
    .rw[ho] at h1
     have h1':arrOb true sz es e=_:=Option.some.inj h1
     obtain ⟨_,rfl,rfl,rfl⟩:=arrOb_inj h1'
     exact hf'.frz k sz es e ho
    .exact hf'.hit k hk fz sz' es' e' h1
   .have hko:k≠o:=by grind
    exact hf'.nar k ((List.mem_cons.1 hk).resolve_left hko) nj sz' es' e' m r rss h1 h2
  .obtain ⟨ho,h⟩:=h1
   obtain ⟨g',hs',he',hf'⟩:=ih hs h (λk hk=>hl k (by simp[hk]))
   refine ⟨g',hs',he',⟨hf'.fl,hf'.nob,λk hk fz sz' es' e' h1=>?_,hf'.frz,λk hk nj sz' es' e' m r rss h1 h2=>?_⟩⟩
   .have hko:k≠o:=by rintro rfl;rcases ho with ⟨_,_,_,h⟩|h<;>(rw[h1] at h;cases fz<;>cases h)
    exact hf'.hit k ((List.mem_cons.1 hk).resolve_left hko) fz sz' es' e' h1
   .have hko:k≠o:=by rintro rfl;rcases ho with ⟨_,_,_,h⟩|h<;>(rw[h1] at h;cases h)
    exact hf'.nar k ((List.mem_cons.1 hk).resolve_left hko) nj sz' es' e' m r rss h1 h2
  .obtain ⟨nj,sz,es,e0,m,r,rss,szr,ho,hm,hr,⟨_,hflm⟩,hmN,h⟩:=h1
   obtain ⟨x,hx⟩:∃x,g.arr o e0=some x:=by
    rcases (hl o (by simp)).2 with ⟨e,x,hx,⟨fz,_,_,h⟩|⟨_,_,_,_,_,_,h⟩⟩|⟨_,_,_,h⟩|h
    .rw[ho] at h;cases fz<;>cases h
    .simp_all
    .simp_all
    simp_all
   obtain ⟨g1,hs1,he1⟩:=hs.freezeNar ho hm hmN hx hfl hflm
   have hom:o≠m:=by grind
   have hget:∀k,({s with ob:=(s.ob.set fuelTr m .gone).set fuelTr o (.frz sz (fulls nj es rss) e0)}:St).ob.get k=if k=o then some (.frz sz (fulls nj es rss) e0) else if k=m then some .gone else s.ob.get k:=λk=>by
    show ((s.ob.set fuelTr m _).set fuelTr o _).get k=_
    rw[Tr.get_set64 _ _ _ _ hob,Tr.get_set64 _ _ _ _ hmN]
   obtain ⟨g',hs',he',hf'⟩:=ih hs1 h (λk hk=>by
    by_cases hko:k=o
    .subst hko
     exact ⟨hob,.inl ⟨e0,x,he1.arr _ _ _ hx,.inl ⟨true,sz,_,by rw[hget,if_pos rfl];rfl⟩⟩⟩
    .by_cases hkm:k=m
     .subst hkm
      exact ⟨hmN,.inr (.inr (by rw[hget,if_neg hko,if_pos rfl]))⟩
     .obtain ⟨h0,h1⟩:=hl k (by simp[hk])
      refine ⟨h0,?_⟩
      rw[hget,if_neg hko,if_neg hkm]
      exact h1.imp (λ⟨e',x',h1,h2⟩=>⟨e',x',he1.arr _ _ _ h1,h2⟩) id)
   refine ⟨g',hs',he1.trans he',⟨hf'.fl,hf'.nob,λk hk fz sz' es' e' h1=>?_,λk sz' es' e' h1=>?_,λk hk nj' sz' es' e' m' r' rss' h1 h2=>?_⟩⟩
   .have hko:k≠o:=by rintro rfl;rw[ho] at h1;cases fz<;>cases h1
    have hkm:k≠m:=by rintro rfl;rw[hm] at h1;cases fz<;>cases h1
    exact hf'.hit k ((List.mem_cons.1 hk).resolve_left hko) fz sz' es' e' (by simp_all)
   .have hko:k≠o:=by grind
    have hkm:k≠m:=by grind
    exact hf'.frz k sz' es' e' (by simp_all)
   .by_cases hko:k=o
    .subst hko
     rw[ho] at h1
     cases h1
     rw[hr] at h2
     cases h2
     exact hf'.frz k _ _ _ (by rw[hget,if_pos rfl])
    .have hk':=(List.mem_cons.1 hk).resolve_left hko
     obtain ⟨szr',hm'⟩:=rwsT_some h2
     have hkm:k≠m:=by grind
     have hmo:m'≠o:=by grind
     have hmm:m'≠m:=by
      rintro rfl
      exact freeze_gone h (m:=m') (by rw[hget,if_neg hmo,if_pos rfl]) (λk hk=>hN k (by simp[hk])) k hk' nj' sz' es' e' r' none (by simp_all)
     exact hf'.nar k hk' nj' sz' es' e' m' r' rss' (by simp_all) (by simp_all[rwsT])
mutual
theorem toD_sound {g:Gh} {s:St} {w:World} (hs:SRel g s w):∀(t:T) {v:Value} {p:Prop} {d:D} {os:List Nat},toD s t=some (p,d,os)->p->TRel g w t v->
  (∀o∈os,Live g s o)∧∀(g':Gh) (s':St),SRel g' s' w->Ext s.fl g w g' w->Frozen s s' os->DRel g'.imm w d v
 | .sym d,v,p,d',os,h,hp,ht=>by
  obtain ⟨_,rfl,rfl⟩:=h
  cases ht with
  |sym _ _ hd=>exact ⟨λo ho=>(by cases ho),λg' s' _ he _=>hd.ext he hs.imm⟩
 | .kb b,v,p,d',os,h,hp,ht=>by
  obtain ⟨_,rfl,rfl⟩:=h
  cases ht
  exact ⟨λo ho=>(by cases ho),λg' s' _ he _=>.lit _⟩
 | .kn k n,v,p,d',os,h,hp,ht=>by
  obtain ⟨_,rfl,rfl⟩:=h
  cases ht
  exact ⟨λo ho=>(by cases ho),λg' s' _ he _=>.lit _⟩
 | .emp,v,p,d',os,h,hp,ht=>by
  obtain ⟨_,rfl,rfl⟩:=h
  cases ht with
  |emp a=>exact ⟨λo ho=>(by cases ho),λg' s' _ he _=>.sl [] a 0 0 (λ_ _=>undef) (by simp) (by simp) (by simp) (λh=>absurd rfl h) (λi j d c h=>by simp at h)⟩
 | .clp n es,v,p,d',os,h,hp,ht=>by
  obtain ⟨_,rfl,rfl⟩:=h
  cases ht with
  |clp _ _ a hn hd=>exact ⟨λo ho=>(by cases ho),λg' s' _ he _=>hd.ext he hs.imm⟩
 | .cln j d,v,p,d',os,h,hp,ht=>by
  obtain ⟨_,rfl,rfl⟩:=h
  cases ht with
  |cln _ _ c a hj hd=>exact ⟨λo ho=>(by cases ho),λg' s' _ he _=>(cln_data hj hd).ext he hs.imm⟩
 | .nel _ _ _ _,_,_,_,_,h,_,_=>by simp[toD] at h
 | .sh o e,v,p,d',os,h,hp,ht=>by
  cases ht with
  |sh _ _ len cap sz a hx=>
  simp[toD] at h
  split at h
  .rename_i sz' es era ho
   rcases cond_some h with ⟨hb,h'⟩|⟨_,h'⟩
   .have hee:=beq_iff'.1 hb
    obtain ⟨_,rfl,rfl⟩:=h'
    clear h hb
    subst hee
    refine ⟨λk hk=>?_,λg' s' hs' he hf=>?_⟩
    .simp at hk
     subst hk
     exact ⟨Nat.lt_of_lt_of_le (hs.lt' hx) hs.nob,.inl ⟨e,_,hx,.inl ⟨false,sz',es,ho⟩⟩⟩
    .exact hs'.slData (hf.hit o (by simp) false sz' es e ho) (he.arr _ _ _ hx)
   .cases h'
  .rename_i sz' es era ho
   rcases cond_some h with ⟨hb,h'⟩|⟨_,h'⟩
   .have hee:=beq_iff'.1 hb
    obtain ⟨_,rfl,rfl⟩:=h'
    clear h hb
    subst hee
    exact ⟨λk hk=>(by cases hk),λg' s' hs' he hf=>hs'.slData (hf.frz o sz' es e ho) (he.arr _ _ _ hx)⟩
   .cases h'
  .rename_i nj sz' es era m r ho
   split at h
   .rename_i rss hr
    rcases cond_some h with ⟨hb,h'⟩|⟨_,h'⟩
    .rw[Bool.and_eq_true] at hb
     have hee:=beq_iff'.1 hb.1
     have hmN:m<bigN:=Nat.le_of_ble_eq_true hb.2
     obtain ⟨_,rfl,rfl⟩:=h'
     clear h hb
     subst hee
     refine ⟨λk hk=>?_,λg' s' hs' he hf=>?_⟩
     .simp at hk
      rcases hk with rfl|rfl
      .exact ⟨Nat.lt_of_lt_of_le (hs.lt' hx) hs.nob,.inl ⟨e,_,hx,.inr ⟨nj,sz',es,m,r,none,ho⟩⟩⟩
      .let ⟨szr,hm⟩:=rwsT_some hr
       exact ⟨hmN,.inr (.inl ⟨szr,rss,r,hm⟩)⟩
     .exact hs'.slData (hf.nar o (by simp) nj sz' es e m r rss ho hr) (he.arr _ _ _ hx)
    .cases h'
   .cases h
  .cases h
 | .ifc t x,v,p,d',os,h,hp,ht=>by
  cases ht with
  |ifc _ _ u hu=>
  simp[toD] at h
  split at h
  .rename_i q d os' hd
   obtain ⟨rfl,rfl,rfl⟩:=h
   let ⟨h1,h2⟩:=toD_sound hs x hd hp hu
   exact ⟨h1,λg' s' a b c=>.ifc _ _ _ (h2 g' s' a b c)⟩
  .cases h
 | .agg cs,v,p,d',os,h,hp,ht=>by
  cases ht with
  |agg _ vs hl hr=>
  simp only[toD] at h
  split at h
  .rename_i q ds os' hd
   obtain ⟨rfl,rfl,rfl⟩:=h
   let ⟨h0,h1,h2⟩:=toDs_sound hs cs (vs:=vs.toList) hd hp.1 (by simpa using hl) (λj t v ht hv=>hr j t v ht (by simpa using hv))
   refine ⟨h1,λg' s' a b c=>.agg _ _ (by rw[h0,hl]) (λd hd=>by simp_all) (λj d v hd hv=>h2 g' s' a b c j d v hd (by simpa using hv))⟩
  .cases h
 | .tup cs,v,p,d',os,h,hp,ht=>by
  cases ht with
  |tup _ vs hl hr=>
  simp[toD] at h
  split at h
  .rename_i q ds os' hd
   obtain ⟨rfl,rfl,rfl⟩:=h
   let ⟨h0,h1,h2⟩:=toDs_sound hs cs (vs:=vs.toList) hd hp (by simpa using hl) (λj t v ht hv=>hr j t v ht (by simpa using hv))
   exact ⟨h1,λg' s' a b c=>.tup _ _ (by rw[h0,hl]) (λj d v hd hv=>h2 g' s' a b c j d v hd (by simpa using hv))⟩
  .cases h
 | .ptr _ _,_,_,_,_,h,_,_=>by simp[toD] at h
 | .ept _ _,_,_,_,_,h,_,_=>by simp[toD] at h
 | .epw _ _ _ _,_,_,_,_,h,_,_=>by simp[toD] at h
 | .fn _ _ _,_,_,_,_,h,_,_=>by simp[toD] at h
 | .gd _ _,_,_,_,_,h,_,_=>by simp[toD] at h
theorem toDs_sound {g:Gh} {s:St} {w:World} (hs:SRel g s w):∀(ts:List T) {vs:List Value} {p:Prop} {ds:List D} {os:List Nat},toDs s ts=some (p,ds,os)->p->ts.length=vs.length->
  (∀(j:Nat) (t:T) (v:Value),ts[j]?=some t->vs[j]?=some v->TRel g w t v)->
  ds.length=ts.length∧(∀o∈os,Live g s o)∧∀(g':Gh) (s':St),SRel g' s' w->Ext s.fl g w g' w->Frozen s s' os->
   ∀(j:Nat) (d:D) (v:Value),ds[j]?=some d->vs[j]?=some v->DRel g'.imm w d v
 |[],vs,p,ds,os,h,hp,hl,hr=>by
  obtain ⟨_,rfl,rfl⟩:=h
  exact ⟨rfl,λo ho=>(by cases ho),λg' s' _ _ _ j d v hd=>by simp at hd⟩
 |t ::ts,vs,p,ds,os,h,hp,hl,hr=>by
  simp[toDs] at h
  split at h
  .rename_i p1 d os1 p2 ds2 os2 h1 h2
   simp only[Option.some.injEq,Prod.mk.injEq] at h
   obtain ⟨rfl,rfl,rfl⟩:=h
   match vs,hl with
   |v ::vs,hl=>
    let ⟨a1,a2⟩:=toD_sound hs t h1 hp.1 (hr 0 t v rfl rfl)
    let ⟨b0,b1,b2⟩:=toDs_sound hs ts (vs:=vs) h2 hp.2 (by simpa using hl) (λj t v ht hv=>hr (j+1) t v (by simpa using ht) (by simpa using hv))
    refine ⟨by simp[b0],λo ho=>?_,λg' s' x y z j d v hd hv=>?_⟩
    .rcases List.mem_append.1 ho with ho|ho
     .exact a1 o ho
     .exact b1 o ho
    .have z1:Frozen s s' os1:=z.sub (λo ho=>List.mem_append_left _ ho)
     have z2:Frozen s s' os2:=z.sub (λo ho=>List.mem_append_right _ ho)
     cases j with
     |zero=>
      simp at hd hv
      subst hd
      subst hv
      exact a2 g' s' x y z1
     |succ j=>exact b2 g' s' x y z2 j d v (by simpa using hd) (by simpa using hv)
  .cases h
end
end TL
end
section
namespace TL
open Go
def PW {α β:Type} (R:α->β->Prop) (l:List α) (m:List β):Prop:=l.length=m.length∧∀(j:Nat) (a:α) (b:β),l[j]?=some a->m[j]?=some b->R a b
section
variable {α β:Type} {R:α->β->Prop}
theorem PW.append {l l':List α} {m m':List β} (h:PW R l m) (h':PW R l' m'):PW R (l++l') (m++m'):=by
 refine ⟨by simp[h.1,h'.1],λj a b ha hb=>?_⟩
 rw[List.getElem?_append] at ha hb
 rw[<-h.1] at hb
 by_cases hj:j<l.length
 .rw[if_pos hj] at ha hb
  exact h.2 j a b ha hb
 .rw[if_neg hj] at ha hb
  exact h'.2 _ a b ha hb
theorem PW.take {l:List α} {m:List β} (h:PW R l m) (n:Nat):PW R (l.take n) (m.take n):=by
 refine ⟨by simp[h.1],λj a b ha hb=>?_⟩
 rw[List.getElem?_take] at ha hb
 by_cases hj:j<n
 .rw[if_pos hj] at ha hb
  exact h.2 j a b ha hb
 simp_all
theorem PW.drop {l:List α} {m:List β} (h:PW R l m) (n:Nat):PW R (l.drop n) (m.drop n):=by
 refine ⟨by simp[h.1],λj a b ha hb=>?_⟩
 rw[List.getElem?_drop] at ha hb
 exact h.2 _ a b ha hb
end
theorem leaves_mem {l:List T} (h:leaves l):∀t∈l,t.leaf:=by
 induction l with
 |nil=>simp_all
 |cons a l ih=>
  intro t ht
  rcases List.mem_cons.1 ht with rfl|ht
  .exact h.1
  .exact ih h.2 t ht
theorem PW.one {g:Gh} {w:World} {l:List T} {vs:List Value} (h:PW (TRel g w) l vs) (hl:leaves l):∀v∈vs,v.oneCell'=true:=by
 intro v hv
 obtain ⟨j,hj,rfl⟩:=List.getElem_of_mem hv
 have hj':j<l.length:=by rw[h.1];exact hj
 exact (tleaf_val (leaves_mem hl _ (List.getElem_mem hj')) (h.2 j _ _ (List.getElem?_eq_getElem hj') (List.getElem?_eq_getElem hj))).1
theorem run_storeVar' {P:Program} {t:TypeId} {x:TypeInfo} (hi:P.info? t=some x) (w:World) (b off:Nat) (v:Value) (hsz:v.cells.size=x.size) {vs:Array Value} {ty:TypeId}
  (hh:w.heap[b]?=some (.cells vs ty (0,0))) (hl:off+v.cells.size<=vs.size) (h1:∀u∈v.cells.toList,u.oneCell'=true) :
  (storeVar t ⟨b,off,none⟩ v).run P w=.ok () (w.setRow b (vs.toList.take off++v.cells.toList++vs.toList.drop (off+v.cells.size)).toArray):=by
 have:=run_storeCells_at (P:=P) b off ty v.cells.toList 0 vs w hh (by simpa using hl) h1
 simp_all[storeVar,run_sizeOf']
theorem cellsT_pw {g:Gh} {w:World} {i:TI} {t:T} {v:Value} {p:Prop} {cs:List T} (h:cellsT i t=some (p,cs)) (hp:p) (ht:TRel g w t v) :
  PW (TRel g w) cs v.cells.toList∧cs.length=i.size:=by
 let ⟨h1,h2,h3,_⟩:=cellsT_sound h hp ht
 exact ⟨⟨by simp[h1,h2],λj a b ha hb=>h3 j a b ha (by simpa using hb)⟩,h1⟩
theorem D.all_leaf {ds:List D} (h:ds.all D.leaf=true):∀d∈ds,d.leaf=true:=by simpa using h
theorem put_get (es:List D) (k i:Nat) (d d':D) (h:(D.put es k d)[i]?=some d'):(i=k∧k<es.length∧d'=d)∨(i≠k∧es[i]?=some d'):=by
 unfold D.put at h
 grind
theorem storeT_sound {P:Program} {ty:TypeId} {i:TI} (hi:TIok P ty i) {g:Gh} {s s':St} {w:World} (hs:SRel g s w) {a x:T} {va vx:Value} (ha:TRel g w a va) (hx:TRel g w x vx)
  {p:Prop} {t:T} (h:storeT i s a x=some (p,t,s')) (hp:p) :
  ∃w' g',(Instr.storeAt ty va vx).run P w=.ok () w'∧SRel g' s' w'∧Ext s.fl g w g' w'∧t=unitT:=by
 let ⟨xi,d0,z,hxi,hu,hsz,hag,_⟩:=hi.all
 unfold storeT at h
 cases hc:cellsT i x with
 |none=>simp[hc] at h
 |some q=>
  let ⟨q,l⟩:=q
  simp only[hc] at h
  cases ha with
  |ptr o off b hb=>
   cases ho:s.ob.get o with
   |none=>simp[ho] at h
   |some ob=>
   simp only[ho] at h
   cases ob with
   |box cs=>
   let ⟨vs,ety,hh,hl,hr⟩:=(hs.box o b hb).box ho
   rcases cond_some h with ⟨hn,h⟩|⟨_,h⟩
   .simp only[Bool.and_eq_true] at hn
    have hfl:=Nat.le_of_ble_eq_true hn.1
    have hlen:off+lenL l<=lenL cs:=Nat.le_of_ble_eq_true hn.2
    rw[lenL_eq,lenL_eq] at hlen
    obtain ⟨rfl,rfl,rfl⟩:=h
    let ⟨hpw,hlsz⟩:=cellsT_pw hc hp.1 hx
    have hvs:vx.cells.size=l.length:=by simpa using hpw.1.symm
    have hcs:PW (TRel g w) cs vs.toList:=⟨by simpa using hl,λj a b h1 h2=>hr j a b h1 (by simpa using h2)⟩
    have hrun:=run_storeVar' (P:=P) hxi w b off vx (by rw[hvs,hlsz,hsz]) hh (by omega) (hpw.one hp.2)
    rw[hvs] at hrun
    have hnew:PW (TRel g w) (cs.take off++l++cs.drop (Nat.add off (lenL l))) (vs.toList.take off++vx.cells.toList++vs.toList.drop (off+l.length)):=by
     rw[lenL_eq]
     exact ((hcs.take off).append hpw).append (hcs.drop _)
    let ⟨hs',he⟩:=hs.setBox hb ho hfl (cs':=cs.take off++l++cs.drop (Nat.add off (lenL l)))
     (vs':=(vs.toList.take off++vx.cells.toList++vs.toList.drop (off+l.length)).toArray) (by simpa using hnew.1) (λj t v h1 h2=>hnew.2 j t v h1 (by simpa using h2))
    exact ⟨_,g,by simpa[Instr.storeAt,Instr.sureAddr] using hrun,hs',he,rfl⟩
   .cases h
   |_=>simp at h
  |epw o e k off len cap sz ad hga0=>
   cases hd:toDs s l with
   |none=>simp[hd] at h
   |some r=>
    let ⟨r,ds,os⟩:=r
    simp only[hd] at h
    cases hfz0:freeze s os with
    |none=>simp[hfz0] at h
    |some s1=>
    simp only[hfz0] at h
    cases ho:s1.ob.get o with
    |none=>simp[ho] at h
    |some ob=>
     cases ob with
     |box _=>simp[ho] at h
     |frz _ _ _=>simp[ho] at h
     |map _=>simp[ho] at h
     |sit _ _=>simp[ho] at h
     |nar _ _ _ _ _ _ _=>simp[ho] at h
     |rws _ _ _=>simp[ho] at h
     |gone=>simp[ho] at h
     |mks=>simp[ho] at h
     |bld _ _=>simp[ho] at h
     |bbf _ _=>simp[ho] at h
     |lp _=>simp[ho] at h
     |dfr=>simp[ho] at h
     |lpd _ _=>simp[ho] at h
     |arr sz' es era=>
      simp only[ho] at h
      rcases cond_some h with ⟨hn,h9⟩|⟨_,h9⟩
      .simp only[Bool.and_eq_true] at hn
       let ⟨hfl,hee⟩:=hn
       have hfl:=Nat.le_of_ble_eq_true hfl
       have hee:=beq_iff'.1 hee
       subst hee
       simp only[Option.some.injEq,Prod.mk.injEq] at h9
       obtain ⟨rfl,rfl,rfl⟩:=h9
       let ⟨hp1,hp2,hp3,hp4,hp5,hp6,hp7⟩:=hp
       let ⟨hpw,hlsz⟩:=cellsT_pw hc hp1 hx
       let ⟨b0,b1,b2⟩:=toDs_sound hs l hd hp2 hpw.1 hpw.2
       let ⟨g1,hs1,he1,hfrz⟩:=freeze_sound os hs hfz0 b1
       have hrel:=b2 g1 s1 hs1 he1 hfrz
       have hga:=he1.arr _ _ _ hga0
       clear hga0
       have hflq:=hfrz.fl
       clear b1 b2 hd hfz0 hfrz
       let ⟨hok,hsz'⟩:=hs1.arrNow (fz:=false) ho hga
       change sz=sz' at hsz'
       subst hsz'
       have hk:=inb_nat hp4
       obtain ⟨cs0,hcs0,hcl,hsc0⟩:∃cs0,(D.el es k).cells=cs0∧cs0.length=sz∧(off+ds.length<=sz->(D.upd (D.el es k) off ds).cells=cs0.take off++ds++cs0.drop (off+ds.length)):=by
        rcases hp5 with hp5|⟨h1,h2,h3,h4⟩
        .let ⟨cs0,hcs0,hcl,hcf⟩:=isAgg_spec hp5
         exact ⟨cs0,by rw[hcs0];rfl,hcl,λ_=>by rw[hcs0];rfl⟩
        .rw[lenL_eq] at h4
         obtain ⟨d1,rfl⟩:=List.length_eq_one_iff.1 h4
         have hl1:=D.all_leaf hp3 d1 (by simp)
         have hc1:∀d:D,d.leaf=true->d.cells=[d]:=by
          intro d hd
          cases d<;>first|rfl|simp[D.leaf] at hd
         refine ⟨[D.el es k],hc1 _ h1,h2.symm,λ_=>?_⟩
         subst h3
         have:D.upd (D.el es k) 0 [d1]=d1:=by
          generalize D.el es k=q at h1
          cases q<;>first|rfl|simp[D.leaf] at h1
         rw[this,hc1 _ hl1]
         rfl
       have hoff:off+ds.length<=sz:=by
        have:=Nat.le_of_ble_eq_true hp6
        rw[lenL_eq] at this
        exact this
       have h1:=hok.len
       have h2:=hok.cap
       simp only at h1 h2
       let ⟨b,vs,ety,hab,hfz,hh,hcapsz,hcells⟩:=hok.mem (by simp only;omega)
       simp at hab
       subst hab
       have hvs:vx.cells.size=ds.length:=by rw[b0];simpa using hpw.1.symm
       have hbound:k*sz+sz<=vs.size:=by
        have:(k+1)*sz<=cap*sz:=Nat.mul_le_mul_right _ (by omega)
        rw[Nat.add_mul,Nat.one_mul] at this
        exact Nat.le_trans this hcapsz
       have hone:∀u∈vx.cells.toList,u.oneCell'=true:=by
        intro u hu
        obtain ⟨j,hj,rfl⟩:=List.getElem_of_mem hu
        have hj':j<ds.length:=by rw[b0,hpw.1];exact hj
        exact (leaf_val (D.all_leaf hp3 _ (List.getElem_mem hj')) (hrel j _ _ (List.getElem?_eq_getElem hj') (List.getElem?_eq_getElem hj))).1
       have hrun:=run_storeVar' (P:=P) hxi w b (k*sz+off) vx (by rw[hvs,b0,hlsz,hsz]) hh (by omega) hone
       have hat:(⟨some ⟨b,0,none⟩,len,cap,sz⟩:ASl).at b:=⟨_,rfl,rfl,by simp only;omega⟩
       have hsc:=hsc0 hoff
       have hnewlen:(vs.toList.take (k*sz+off)++vx.cells.toList++vs.toList.drop (k*sz+off+vx.cells.size)).length=vs.size:=by
        simp[hvs];omega
       have hok':AOk g1 (w.setRow b (vs.toList.take (k*sz+off)++vx.cells.toList++vs.toList.drop (k*sz+off+vx.cells.size)).toArray) false sz
         (D.put es k ((D.el es k).upd off ds)) ⟨some ⟨b,0,none⟩,len,cap,sz⟩:=by
        refine ⟨by simp[D.put,h1],h2,λd hd=>?_,hok.pos,λd hd=>?_,λ_=>⟨b,_,ety,rfl,hfz,setRow_heap w b vs _ ety _ hh,by simp only[List.size_toArray];rw[hnewlen];exact hcapsz,?_⟩⟩
        .obtain ⟨j,hj,rfl⟩:=List.getElem_of_mem hd
         rcases put_get _ _ _ _ _ (List.getElem?_eq_getElem hj) with ⟨rfl,_,he⟩|⟨_,he⟩
         .rw[he,hsc]
          simp[hcl]
          omega
         .exact hok.rows _ (List.mem_of_getElem? he)
        .obtain ⟨j,hj,rfl⟩:=List.getElem_of_mem hd
         rcases put_get _ _ _ _ _ (List.getElem?_eq_getElem hj) with ⟨rfl,_,he⟩|⟨_,he⟩
         .rw[he,hp7]
          have hb:=hok.byt _ (List.mem_of_getElem? (D.el_get hk))
          simpa[D.put] using hb
         .have hb:=hok.byt _ (List.mem_of_getElem? he)
          simpa[D.put] using hb
        .intro i d j c hd hj
         have hnochange:∀(v:Value),vs[i*sz+j]?=some v->(i≠k∧j<sz∨i=k∧(j<off∨off+ds.length<=j))->
           (vs.toList.take (k*sz+off)++vx.cells.toList++vs.toList.drop (k*sz+off+vx.cells.size)).toArray[i*sz+j]?=some v:=by
          intro v hv hcase
          have hcase':i*sz+j<k*sz+off∨k*sz+off+ds.length<=i*sz+j:=by
           rcases hcase with ⟨hik,hj⟩|⟨rfl,hj⟩
           .rcases Nat.lt_or_gt_of_ne hik with hik|hik
            .have:(i+1)*sz<=k*sz:=Nat.mul_le_mul_right _ hik
             rw[Nat.add_mul,Nat.one_mul] at this
             left;omega
            .have:(k+1)*sz<=i*sz:=Nat.mul_le_mul_right _ hik
             rw[Nat.add_mul,Nat.one_mul] at this
             right;omega
           .rcases hj with hj|hj
            .left;omega
            .right;omega
          rw[List.getElem?_toArray,List.getElem?_append,List.getElem?_append]
          rcases hcase' with hc1|hc1
          .rw[if_pos (by simp[hvs];omega),if_pos (by simp;omega),List.getElem?_take,if_pos hc1]
           simpa using hv
          .rw[if_neg (by simp[hvs];omega),List.getElem?_drop]
           have:k*sz+off+vx.cells.size+(i*sz+j-(List.take (k*sz+off) vs.toList++vx.cells.toList).length)=i*sz+j:=by
            simp[hvs];omega
           rw[this]
           simpa using hv
         rcases put_get _ _ _ _ _ hd with ⟨rfl,hlt,rfl⟩|⟨hik,hd⟩
         .rw[hsc] at hj
          by_cases hin:off<=j∧j<off+ds.length
          .have hj2:ds[j-off]?=some c:=by
            rw[List.getElem?_append,if_pos (by simp[hcl];omega),List.getElem?_append,if_neg (by simp[hcl];omega)] at hj
            have:j-(cs0.take off).length=j-off:=by simp[hcl];omega
            rwa [this] at hj
           have hlt2:j-off<vx.cells.size:=by omega
           refine ⟨vx.cells[j-off],?_,?_⟩
           .rw[List.getElem?_toArray,List.getElem?_append,if_pos (by simp[hvs];omega),List.getElem?_append,if_neg (by simp;omega)]
            have:i*sz+j-(List.take (i*sz+off) vs.toList).length=j-off:=by simp;omega
            rw[this]
            simp
           .have:=hrel (j-off) c vx.cells[j-off] hj2 (by simp)
            exact this.ext (Ext.refl 0 g1 w) hs1.imm |>.mono (λb' hb'=>setRow_other w b b' _ (λe=>by subst e;exact Bool.noConfusion (hfz.2 hb'))) (λ_ h=>h)
          .have hj2:cs0[j]?=some c:=by
            rw[List.getElem?_append,List.getElem?_append] at hj
            by_cases hlo:j<off
            .rw[if_pos (by simp[hcl];omega),if_pos (by simp[hcl];omega),List.getElem?_take,if_pos hlo] at hj
             exact hj
            .rw[if_neg (by simp[hcl];omega),List.getElem?_drop] at hj
             have:off+ds.length+(j-(List.take off cs0++ds).length)=j:=by simp[hcl];omega
             rwa [this] at hj
           let ⟨v,hv,hr⟩:=hcells i (D.el es i) j c (D.el_get hlt) (by rw[hcs0];exact hj2)
           refine ⟨v,hnochange v hv (.inr ⟨rfl,by omega⟩),hr.mono (λb' hb'=>setRow_other w b b' _ (λe=>by subst e;exact Bool.noConfusion (hfz.2 hb'))) (λ_ h=>h)⟩
         .let ⟨v,hv,hr⟩:=hcells i d j c hd hj
          have hjs:j<sz:=by rw[<-hok.rows d (List.mem_of_getElem? hd)];exact getElem?_isSome_lt hj
          exact ⟨v,hnochange v hv (.inl ⟨hik,hjs⟩),hr.mono (λb' hb'=>setRow_other w b b' _ (λe=>by subst e;exact Bool.noConfusion (hfz.2 hb'))) (λ_ h=>h)⟩
       let ⟨hs',he⟩:=hs1.putArr ho hga hfl hat hok'
       refine ⟨_,g1,?_,hs',he1.trans (hflq▸he),rfl⟩
       rw[add_mk]
       simpa[Instr.storeAt,Instr.sureAddr] using hrun
      .cases h9
  |_=>simp at h
end TL
end
section
namespace TL
open Go
theorem kindEq_eq {j k:IntKind} (h:kindEq j k=true):j=k:=by cases j<;>cases k<;>first|rfl|cases h
section
variable {g:Gh} {w:World} {t:T} {v:Value} {p:Prop}
theorem isInt_val {I:Nat->Prop} {d:D} {k:IntKind} (h:D.isInt k d=true) (hd:DRel I w d v):v=.int k d.toInt:=by
 cases hd with
 |lit v=>
  cases v with
  |int j n=>rw[kindEq_eq h];rfl
  |_=>cases h
 |_=>cases h
theorem isBool_val {I:Nat->Prop} {d:D} (h:d.isBool=true) (hd:DRel I w d v):v=.bool d.toBool:=by
 cases hd with
 |lit v=>
  cases v with
  |bool b=>rfl
  |_=>cases h
 |_=>cases h
theorem isStr_val {I:Nat->Prop} {d:D} (h:d.isStr=true) (hd:DRel I w d v):v=.string d.toStr:=by
 cases hd with
 |lit v=>
  cases v with
  |string b=>rfl
  |_=>cases h
 |_=>cases h
theorem intT_sound {k:IntKind} {n:Int} (h:intT k t=some (p,n)) (hp:p) (ht:TRel g w t v):v=.int k n:=by
 cases ht with
 |kn j m=>
  rcases cond_some h with ⟨hb,h⟩|⟨_,h⟩
  .simp only[Option.some.injEq,Prod.mk.injEq] at h
   rw[kindEq_eq hb,h.2]
  .cases h
 |sym d v hd=>
  obtain ⟨rfl,rfl⟩:=h
  exact isInt_val hp hd
 |_=>simp[intT] at h
theorem boolT_sound {b:Bool} (h:boolT t=some (p,b)) (hp:p) (ht:TRel g w t v):v=.bool b:=by
 cases ht with
 |kb c=>
  simp only[boolT,Option.some.injEq,Prod.mk.injEq] at h
  rw[h.2]
 |sym d v hd=>
  obtain ⟨rfl,rfl⟩:=h
  exact isBool_val hp hd
 |_=>simp[boolT] at h
theorem strT_sound {b:ByteArray} (h:strT t=some (p,b)) (hp:p) (ht:TRel g w t v):v=.string b:=by
 cases ht with
 |sym d v hd=>
  obtain ⟨rfl,rfl⟩:=h
  exact isStr_val hp hd
 |_=>simp[strT] at h
theorem D.isSl_spec {d:D} (h:d.isSl=true):d=.sl d.toSl:=by
 cases d<;>first|rfl|cases h
theorem slT_len {s:St} (hs:SRel g s w) {es:List D} (h:slT s t=some (p,es)) (hp:p) (ht:TRel g w t v):∃a cap,v=.slice a es.length cap∧es.length<=cap:=by
 cases ht with
 |emp a=>
  obtain ⟨_,rfl⟩:=h
  exact ⟨a,0,rfl,by simp⟩
 |clp n es' a hn hd=>
  obtain ⟨_,rfl⟩:=h
  exact ⟨a,_,rfl,Nat.le_refl _⟩
 |cln j d c a hj hd=>
  obtain ⟨_,rfl⟩:=h
  exact ⟨a,1,rfl,Nat.le_refl _⟩
 |sym d v hd=>
  obtain ⟨rfl,rfl⟩:=h
  rw[D.isSl_spec hp] at hd
  generalize d.toSl=es at *
  cases hd with
  |sl _ a cap sz val hcap=>exact ⟨a,cap,rfl,hcap⟩
 |sh o e len cap sz a hx=>
  simp[slT] at h
  have key:∀fz sz' (es':List D) era,s.ob.get o=some (arrOb fz sz' es' era)->(bif Nat.beq e era then some (True,es') else none)=some (p,es)->
    ∃a' cap',Value.slice a len cap=.slice a' es.length cap'∧es.length<=cap':=by
   intro fz sz' es' era ho h
   rcases cond_some h with ⟨hb,h⟩|⟨_,h⟩
   .have hee:=beq_iff'.1 hb
    obtain ⟨_,rfl⟩:=h
    let ⟨hok,_⟩:=hs.arrNow (hee▸ho) hx
    have h1:=hok.len
    have h2:=hok.cap
    simp only at h1 h2
    exact ⟨a,cap,by rw[h1],by omega⟩
   .cases h
  split at h
  .rename_i sz' es' era ho
   exact key false sz' es' era ho h
  .rename_i sz' es' era ho
   exact key true sz' es' era ho h
  .cases h
 |_=>simp[slT] at h
end
section
variable {P:Program} {g:Gh} {w:World}
theorem armT_sound {x:T} {vx:Value} {q:Prop} {y:Bool} (h:armT x=some (q,y)) (hq:q) (hr:TRel g w x vx):vx=.bool y:=by
 cases hr with
 |gd c t v hcv=>
  simp[armT] at h
  split at h
  .rename_i q' y' h1
   obtain ⟨rfl,rfl⟩:=h
   exact boolT_sound h1 hq.2 (hcv hq.1)
  .cases h
 |kb b=>
  simp only[armT,Option.some.injEq,Prod.mk.injEq] at h
  rw[h.2]
 |sym d v hd=>
  obtain ⟨rfl,rfl⟩:=h
  exact isBool_val hq hd
 |_=>simp[armT] at h
theorem pickT_sound {c a b:T} {vc va vb:Value} {p:Prop} {t:T} (h:pickT c a b=some (p,t)) (hp:p) (hc:TRel g w c vc) (ha:TRel g w a va) (hb:TRel g w b vb) :
  ∃u,vc=.bool u∧TRel g w t (if u then va else vb):=by
 unfold pickT at h
 split at h
 .rename_i u
  cases hc
  refine ⟨u,rfl,?_⟩
  split at h
  .rename_i q y ha'
   obtain ⟨rfl,rfl⟩:=h
   cases u with
   |true=>rw[if_pos rfl,armT_sound ha' hp ha];exact .sym _ _ (.lit _)
   |false=>rw[if_neg Bool.noConfusion,armT_sound ha' hp hb];exact .sym _ _ (.lit _)
  .cases h
 split at h
 .rename_i p0 u q1 x1 q2 x2 hu h1 h2
  obtain ⟨rfl,rfl⟩:=h
  have hu':=boolT_sound hu hp.1 hc
  refine ⟨u,hu',?_⟩
  cases u with
  |true=>
   rw[armT_sound h1 (hp.2.1 rfl) ha]
   exact .sym _ _ (.lit _)
  |false=>
   rw[armT_sound h2 (hp.2.2 rfl) hb]
   exact .sym _ _ (.lit _)
 .cases h
theorem eqLeaf_sound {l:Lk} {a b:T} {va vb:Value} {p:Prop} {r:Bool} (h:eqLeaf l a b=some (p,r)) (hp:p) (ha:TRel g w a va) (hb:TRel g w b vb) :
  LkVal l va∧LkVal l vb∧r=eqVal va vb:=by
 cases l with
 |int k=>
  simp[eqLeaf] at h
  split at h
  .rename_i p1 x p2 y h1 h2
   obtain ⟨rfl,rfl⟩:=h
   rw[intT_sound h1 hp.1 ha,intT_sound h2 hp.2 hb]
   exact ⟨⟨_,rfl⟩,⟨_,rfl⟩,rfl⟩
  .cases h
 |bool=>
  simp[eqLeaf] at h
  split at h
  .rename_i p1 x p2 y h1 h2
   obtain ⟨rfl,rfl⟩:=h
   rw[boolT_sound h1 hp.1 ha,boolT_sound h2 hp.2 hb]
   exact ⟨⟨_,rfl⟩,⟨_,rfl⟩,rfl⟩
  .cases h
 |str=>
  simp[eqLeaf] at h
  split at h
  .rename_i p1 x p2 y h1 h2
   obtain ⟨rfl,rfl⟩:=h
   rw[strT_sound h1 hp.1 ha,strT_sound h2 hp.2 hb]
   exact ⟨⟨_,rfl⟩,⟨_,rfl⟩,rfl⟩
  .cases h
 |no=>simp[eqLeaf] at h
theorem eqLeaves_sound:∀(ls:List Lk) (as bs:List T) (va vb:List Value) {p:Prop} {r:Bool},eqLeaves ls as bs=some (p,r)->p->PW (TRel g w) as va->PW (TRel g w) bs vb->
  va.length=ls.length∧vb.length=ls.length∧(∀(j:Nat) (l:Lk) (v:Value),ls[j]?=some l->va[j]?=some v->LkVal l v)∧
   (∀(j:Nat) (l:Lk) (v:Value),ls[j]?=some l->vb[j]?=some v->LkVal l v)∧r=eqVals va vb
 |[],[],[],va,vb,p,r,h,hp,ha,hb=>by
  simp only[eqLeaves,Option.some.injEq,Prod.mk.injEq] at h
  have h1:va=[]:=List.eq_nil_of_length_eq_zero ha.1.symm
  have h2:vb=[]:=List.eq_nil_of_length_eq_zero hb.1.symm
  subst h1
  subst h2
  refine ⟨rfl,rfl,λj l v h=>by simp at h,λj l v h=>by simp at h,h.2.symm⟩
 |l ::ls,a ::as,b ::bs,va,vb,p,r,h,hp,ha,hb=>by
  simp[eqLeaves] at h
  split at h
  .rename_i p1 x p2 y h1 h2
   simp only[Option.some.injEq,Prod.mk.injEq] at h
   obtain ⟨rfl,rfl⟩:=h
   match va,vb,ha,hb with
   |v ::va,u ::vb,ha,hb=>
    let ⟨k1,k2,k3⟩:=eqLeaf_sound h1 hp.1 (ha.2 0 _ _ rfl rfl) (hb.2 0 _ _ rfl rfl)
    let ⟨m1,m2,m3,m4,m5⟩:=eqLeaves_sound ls as bs va vb h2 hp.2 ⟨by simpa using ha.1,λj x y hx hy=>ha.2 (j+1) x y (by simpa using hx) (by simpa using hy)⟩
     ⟨by simpa using hb.1,λj x y hx hy=>hb.2 (j+1) x y (by simpa using hx) (by simpa using hy)⟩
    refine ⟨by simp[m1],by simp[m2],λj l' v' hl hv=>?_,λj l' v' hl hv=>?_,?_⟩
    .grind
    .grind
    .rw[k3,m5];rfl
  .cases h
 |[],[],_ ::_,_,_,_,_,h,_,_,_=>by simp[eqLeaves] at h
 |[],_ ::_,_,_,_,_,_,h,_,_,_=>by simp[eqLeaves] at h
 |_ ::_,[],_,_,_,_,_,h,_,_,_=>by simp[eqLeaves] at h
 |_ ::_,_ ::_,[],_,_,_,_,h,_,_,_=>by simp[eqLeaves] at h
theorem run_eq_pn (d:Nat) {ty e:TypeId} (hu:P.underlying ty=some (.pointer e)) (a:Addr):(Op.equalIn (d+1) ty (.pointer none) (.pointer (some a))).run P w=.ok false w:=by
 simp only[Op.equalIn,Sem.run_bind,run_underlying' hu,Result.andThen_ok];rfl
theorem run_eq_np (d:Nat) {ty e:TypeId} (hu:P.underlying ty=some (.pointer e)) (a:Addr):(Op.equalIn (d+1) ty (.pointer (some a)) (.pointer none)).run P w=.ok false w:=by
 simp only[Op.equalIn,Sem.run_bind,run_underlying' hu,Result.andThen_ok];rfl
theorem run_eq_in (d:Nat) {ty:TypeId} {ms:Array (String×TypeId)} (hu:P.underlying ty=some (.interface ms)) (t:TypeId) (v:Value):(Op.equalIn (d+1) ty .nilIface (.iface t v)).run P w=.ok false w:=by
 simp only[Op.equalIn,Sem.run_bind,run_underlying' hu,Result.andThen_ok];rfl
theorem run_eq_ni (d:Nat) {ty:TypeId} {ms:Array (String×TypeId)} (hu:P.underlying ty=some (.interface ms)) (t:TypeId) (v:Value):(Op.equalIn (d+1) ty (.iface t v) .nilIface).run P w=.ok false w:=by
 simp only[Op.equalIn,Sem.run_bind,run_underlying' hu,Result.andThen_ok];rfl
theorem run_cmp {ty:TypeId} {va vb:Value} {r:Bool} (x y:Operand) (h1:binOp .eql ty va vb=(do pure (.bool (<-Op.equal ty va vb)))) (h2:binOp .neq ty va vb=(do pure (.bool (!(<-Op.equal ty va vb)))))
  (hg:∀op,(eqGuard op ty x y va vb).run P w=.ok () w) (he:(Op.equalIn (9999+1) ty va vb).run P w=.ok r w) :
  ((do eqGuard .eql ty x y va vb;binOp .eql ty va vb:Sem Value)).run P w=.ok (.bool r) w∧((do eqGuard .neq ty x y va vb;binOp .neq ty va vb:Sem Value)).run P w=.ok (.bool (!r)) w:=by
 have he':(Op.equal ty va vb).run P w=.ok r w:=he
 simp_all
theorem eqlT_sound {ty:TypeId} {i:TI} (hi:TIok P ty i) {a b:T} {va vb:Value} {p:Prop} {r:Bool} (h:eqlT i a b=some (p,r)) (hp:p) (ha:TRel g w a va) (hb:TRel g w b vb) (x y:Operand) :
  ((do eqGuard .eql ty x y va vb;binOp .eql ty va vb:Sem Value)).run P w=.ok (.bool r) w∧((do eqGuard .neq ty x y va vb;binOp .neq ty va vb:Sem Value)).run P w=.ok (.bool (!r)) w:=by
 let ⟨xi,d0,z,hxi,hu,hsz,hag,hz,hzok,hkd⟩:=hi.all
 rcases cond_some h with ⟨hagg,h⟩|⟨hagg,h⟩
 .split at h
  .cases h
  .rename_i k ks qa as qb bs hk hca hcb
   simp only[Option.map_eq_some_iff,Prod.mk.injEq] at h
   obtain ⟨⟨q,r'⟩,he,rfl,rfl⟩:=h
   let ⟨hpa,_⟩:=cellsT_pw hca hp.1 ha
   let ⟨hpb,_⟩:=cellsT_pw hcb hp.2.1 hb
   let ⟨_,_,_,hva,_⟩:=cellsT_sound hca hp.1 ha
   let ⟨_,_,_,hvb,_⟩:=cellsT_sound hcb hp.2.1 hb
   obtain ⟨xs,rfl⟩:=hva hagg
   obtain ⟨ys,rfl⟩:=hvb hagg
   let ⟨m1,m2,m3,m4,m5⟩:=eqLeaves_sound (k ::ks) as bs _ _ he hp.2.2 hpa hpb
   simp only[Value.cells] at m1 m2 m3 m4 m5
   have hne:i.lks≠[]:=by rw[hk];simp
   rw[<-hk] at m1 m2 m3 m4
   have key:∀op,_:=λop=>hi.eqs hagg hne w op x y xs ys (by simpa using m1) (by simpa using m2) (λj l v h1 h2=>m3 j l v h1 (by simpa using h2)) (λj l v h1 h2=>m4 j l v h1 (by simpa using h2))
   refine ⟨?_,?_⟩
   .rw[Sem.run_bind,(key .eql).1]
    simp only[Result.andThen_ok,binOp,Sem.run_bind,(key .eql).2,m5]
    rfl
   .rw[Sem.run_bind,(key .neq).1]
    simp only[Result.andThen_ok,binOp,Sem.run_bind,(key .neq).2,m5]
    rfl
  .cases h
 .split at h
  .rename_i l hl
   obtain ⟨hva,hvb,rfl⟩:=eqLeaf_sound h hp ha hb
   rw[hl] at hkd
   cases l with
   |int k=>
    obtain ⟨m,rfl⟩:=hva
    obtain ⟨n,rfl⟩:=hvb
    simp[eqGuard,binOp,Op.intCmp,eqVal,bne]
   |bool=>
    obtain ⟨m,rfl⟩:=hva
    obtain ⟨n,rfl⟩:=hvb
    subst hkd
    exact run_cmp x y rfl rfl (λop=>by cases op<;>rfl) (run_equalIn_bool' w _ _ _ _ hu)
   |str=>
    obtain ⟨m,rfl⟩:=hva
    obtain ⟨n,rfl⟩:=hvb
    simp_all[eqGuard,binOp,Op.stringOp,eqVal,beq_toListBytes]
   |no=>exact hva.elim
  .rename_i hl
   rw[hl] at hkd
   obtain ⟨e,rfl⟩:=hkd
   unfold eqPtr at h
   split at h
   .obtain ⟨_,rfl⟩:=h
    cases ha with
    |sym _ _ ha=>
    cases ha
    cases hb
    exact run_cmp x y rfl rfl (λop=>by cases op<;>rfl) (run_eq_pn _ hu _)
   .obtain ⟨_,rfl⟩:=h
    cases hb with
    |sym _ _ hb=>
    cases hb
    cases ha
    exact run_cmp x y rfl rfl (λop=>by cases op<;>rfl) (run_eq_np _ hu _)
   .cases h
  .rename_i hl
   rw[hl] at hkd
   obtain ⟨e,rfl⟩:=hkd
   unfold eqIfc at h
   split at h
   .obtain ⟨_,rfl⟩:=h
    cases ha with
    |sym _ _ ha=>
    cases ha
    cases hb
    exact run_cmp x y rfl rfl (λop=>by cases op<;>rfl) (run_eq_in _ hu _ _)
   .obtain ⟨_,rfl⟩:=h
    cases hb with
    |sym _ _ hb=>
    cases hb
    cases ha
    exact run_cmp x y rfl rfl (λop=>by cases op<;>rfl) (run_eq_ni _ hu _ _)
   .cases h
  .cases h
end
end TL
end
section
namespace TL
open Go
section
variable {P:Program} {g:Gh} {w:World}
theorem binT_sound {ty:TypeId} {i:TI} (hi:TIok P ty i) {op:BinOp} {a b:T} {va vb:Value} {p:Prop} {d:D} (h:binT i op a b=some (p,d)) (hp:p) (ha:TRel g w a va) (hb:TRel g w b vb) (x y:Operand) :
  ∃v,((do eqGuard op ty x y va vb;binOp op ty va vb:Sem Value)).run P w=.ok v w∧TRel g w (.sym d) v:=by
 unfold binT at h
 split at h
 .simp only[Option.map_eq_some_iff,Prod.mk.injEq] at h
  obtain ⟨⟨q,r⟩,he,rfl,rfl⟩:=h
  exact ⟨_,(eqlT_sound hi he hp ha hb x y).1,.sym _ _ (.lit _)⟩
 .simp only[Option.map_eq_some_iff,Prod.mk.injEq] at h
  obtain ⟨⟨q,r⟩,he,rfl,rfl⟩:=h
  exact ⟨_,(eqlT_sound hi he hp ha hb x y).2,.sym _ _ (.lit _)⟩
 .rename_i hne1 hne2
  split at h
  .rename_i k hk
   split at h
   .rename_i p1 m p2 n h1 h2
    cases hc:cmpT op k m n with
    |some d'=>
     simp only[hc,Option.some.injEq,Prod.mk.injEq] at h
     obtain ⟨rfl,rfl⟩:=h
     rw[intT_sound h1 hp.1 ha,intT_sound h2 hp.2 hb]
     cases op<;>simp only[cmpT,Option.some.injEq] at hc<;>first
      |(cases hc;done)
      |(
        subst hc
        refine ⟨_,?_,.sym _ _ (.lit _)⟩
        simp[eqGuard,binOp,Op.intCmp,Op.intArith,D.ilt,D.ile,D.add,D.sub_,D.mul])
    |none=>
     simp only[hc,Option.map_eq_some_iff,Prod.mk.injEq] at h
     obtain ⟨d',hd,rfl,rfl⟩:=h
     rw[intT_sound h1 hp.1 ha,intT_sound h2 hp.2.1 hb]
     have hz:n≠0:=hp.2.2
     cases op<;>simp only[divT,Option.some.injEq] at hd<;>first
      |(cases hd;done)
      |(
        subst hd
        refine ⟨_,?_,.sym _ _ (.lit _)⟩
        simp[eqGuard,binOp,Op.intDiv,hz,D.rem,D.quo])
   .cases h
  .split at h
   .rename_i p1 m p2 n h1 h2
    obtain ⟨rfl,rfl⟩:=h
    rw[strT_sound h1 hp.1 ha,strT_sound h2 hp.2.1 hb]
    have hfit:m.size+n.size<=4611686018427387904:=hp.2.2
    refine ⟨_,?_,.sym _ _ (.lit _)⟩
    simp[eqGuard,binOp,Op.stringOp,D.scat]
    omega
   .cases h
  .cases h
theorem unT_sound {i:TI} {op:UnOp} {a:T} {va:Value} {p:Prop} {d:D} (h:unT i op a=some (p,d)) (hp:p) (ha:TRel g w a va) :
  ∃v,(Op.unary op va).run P w=.ok v w∧TRel g w (.sym d) v:=by
 unfold unT at h
 split at h
 .simp only[Option.map_eq_some_iff,Prod.mk.injEq] at h
  obtain ⟨⟨q,r⟩,he,rfl,rfl⟩:=h
  rw[boolT_sound he hp ha]
  exact ⟨_,rfl,.sym _ _ (.lit _)⟩
 .simp only[Option.map_eq_some_iff,Prod.mk.injEq] at h
  obtain ⟨⟨q,r⟩,he,rfl,rfl⟩:=h
  rw[intT_sound he hp ha]
  refine ⟨_,rfl,?_⟩
  rw[show (0:Int)-r=-r from by omega]
  exact .sym _ _ (.lit _)
 .cases h
theorem convT_sound {src dst:TypeId} {i j:TI} (hi:TIok P src i) (hj:TIok P dst j) {s s':St} {a:T} {va:Value} {p:Prop} {t:T} (h:convT i j s a=some (p,t,s')) (hp:p) (ha:TRel g w a va) :
  ∃v,(convert src dst va).run P w=.ok v w∧TRel g w t v∧s'=s:=by
 let ⟨_,d1,_,_,hu1,_,_,_,_,hk1⟩:=hi.all
 let ⟨_,d2,_,_,hu2,_,_,_,_,hk2⟩:=hj.all
 unfold convT at h
 split at h
 .rename_i k l hik hjk
  simp only[Option.map_eq_some_iff,Prod.mk.injEq] at h
  obtain ⟨⟨q,n⟩,he,rfl,rfl,rfl⟩:=h
  rw[hik] at hk1
  rw[hjk] at hk2
  subst hk2
  rw[intT_sound he hp ha]
  exact ⟨_,by simp[convert,run_underlying' hu1,run_underlying' hu2,Conv.intToInt];rfl,.sym _ _ (.lit _),rfl⟩
 .rename_i hik hjk
  simp only[Option.map_eq_some_iff,Prod.mk.injEq] at h
  obtain ⟨⟨q,b⟩,hb,rfl,rfl,rfl⟩:=h
  rw[hik] at hk1
  rw[hjk] at hk2
  subst hk2
  have hb':=strT_sound hb hp ha
  subst hb'
  exact ⟨_,by simp[convert,run_underlying' hu1,run_underlying' hu2],ha,rfl⟩
 .cases h
theorem extractT_sound {s s':St} {k:Nat} {a:T} {va:Value} {p:Prop} {t:T} (h:extractT s k a=some (p,t,s')) (hp:p) (ha:TRel g w a va) :
  ∃v,(Instr.extract va k).run P w=.ok v w∧TRel g w t v∧s'=s:=by
 cases ha with
 |tup ts vs hl hr=>
  simp only[extractT,nth_eq,Option.map_eq_some_iff,Prod.mk.injEq] at h
  obtain ⟨t',ht,_,rfl,rfl⟩:=h
  have hk:k<vs.size:=by grind
  refine ⟨vs[k],by simp[Instr.extract,Array.getElem?_eq_getElem hk],hr k _ _ ht (Array.getElem?_eq_getElem hk),rfl⟩
 |sym d v hd=>
  obtain ⟨rfl,rfl,rfl⟩:=h
  cases hd with
  |tup ds vs hl hr=>
   have hlt:k<ds.length:=by
    have:Nat.blt k (lenL ds)=true:=hp
    simp_all[lenL_eq]
   have hk:k<vs.size:=by omega
   refine ⟨vs[k],by simp_all[Instr.extract],.sym _ _ ?_,rfl⟩
   refine hr k _ _ ?_ (Array.getElem?_eq_getElem hk)
   grind[D.proj]
  |_=>cases hp
 |_=>simp[extractT] at h
theorem add_zero' (a:Addr):a.add 0=a:=by rfl
theorem fieldAddrT_sound {ty:TypeId} {i:TI} (hi:TIok P ty i) {s s':St} {k:Nat} {a:T} {va:Value} {p:Prop} {t:T} (h:fieldAddrT i s k a=some (p,t,s')) (ha:TRel g w a va) :
  ∃v,(Instr.fieldAt ty va k).run P w=.ok v w∧TRel g w t v∧s'=s:=by
 let ⟨_,d1,_,_,hu1,_,_,_,_,hk1⟩:=hi.all
 unfold fieldAddrT at h
 split at h
 .rename_i fs hfs
  rw[hfs] at hk1
  obtain ⟨fields,rfl,hsz,hf⟩:=hk1
  split at h
  .rename_i off size ag hn
   rw[nth_eq] at hn
   let ⟨f,j,d',hf1,hf2,hf3,hf4,_⟩:=hf k off size ag hn
   rcases cond_some h with ⟨_,h⟩|⟨h0,h⟩
   .cases h
   .have hne:j.size≠0:=by
     intro e
     simp_all
    have hrun:∀ad,(Instr.fieldAt ty (.pointer (some ad)) k).run P w=.ok (.pointer (some (ad.add off))) w:=by
     simp_all[Instr.fieldAt,Instr.sureAddr,run_underlying',fieldPlace,run_sizeOf']
    cases ha with
    |ptr o b bl hb=>
     obtain ⟨_,rfl,rfl⟩:=h
     refine ⟨_,hrun _,?_,rfl⟩
     rw[add_mk]
     exact .ptr _ _ _ hb
    |ept d b ad val him hc hd=>
     obtain ⟨_,rfl,rfl⟩:=h
     refine ⟨_,hrun _,?_,rfl⟩
     rw[add_add']
     exact .ept _ _ _ _ him hc hd
    |epw o e j' b len cap sz ad hx=>
     obtain ⟨_,rfl,rfl⟩:=h
     refine ⟨_,hrun _,?_,rfl⟩
     rw[add_add',Nat.add_assoc]
     exact .epw _ _ _ _ _ _ _ _ hx
    |_=>simp at h
  .cases h
 .cases h
theorem run_part {t:TypeId} {x:TypeInfo} {d:TypeDesc} (hi:P.info? t=some x) (hu:P.underlying t=some d) (vs:Array Value) (off:Nat) (hl:off+x.size<=vs.size) (h1:aggDesc d=false->x.size=1) :
  (part t vs off).run P w=.ok (if aggDesc d then .agg ((vs.toList.drop off).take x.size).toArray else ((vs.toList.drop off).take x.size).headD undef) w:=by
 simp only[part,Sem.run_bind,run_isAgg' hu,Result.andThen_ok]
 cases hd:aggDesc d with
 |true=>
  simp only[if_true,Sem.run_bind,run_sizeOf' hi,Result.andThen_ok,Sem.run_pure]
  congr 2
  grind
 |false=>
  have hs:=h1 hd
  have hlt:off<vs.size:=by omega
  simp_all[List.drop_eq_getElem_cons]
theorem fieldT_sound {ty:TypeId} {i:TI} (hi:TIok P ty i) {s s':St} {k:Nat} {a:T} {va:Value} {p:Prop} {t:T} (h:fieldT i s k a=some (p,t,s')) (hp:p) (ha:TRel g w a va) :
  ∃v,(Instr.field ty va k).run P w=.ok v w∧TRel g w t v∧s'=s:=by
 let ⟨_,d1,_,_,hu1,hsz1,hag1,_,_,hk1⟩:=hi.all
 unfold fieldT at h
 split at h
 .rename_i fs hfs
  rw[hfs] at hk1
  obtain ⟨fields,rfl,hsz,hf⟩:=hk1
  split at h
  .rename_i off size ag q cs hn hc
   rw[nth_eq] at hn
   let ⟨f,j,d',hf1,hf2,hf3,hf4,hf5,hf6⟩:=hf k off size ag hn
   rcases cond_some h with ⟨hl,h⟩|⟨_,h⟩
   .have hl':=beq_iff'.1 (Bool.and_eq_true_iff.1 hl).1
    rw[lenL_eq] at hl'
    simp only[Option.map_eq_some_iff,Prod.mk.injEq] at h
    obtain ⟨t',ht,rfl,rfl,rfl⟩:=h
    let ⟨hpw,hlen⟩:=cellsT_pw hc hp ha
    let ⟨_,_,_,hva,_⟩:=cellsT_sound hc hp ha
    obtain ⟨vs,rfl⟩:=hva (by rw[hag1];rfl)
    simp[Value.cells] at hpw
    have hpw2:=(hpw.drop off).take size
    let ⟨hrel,h1⟩:=packT_rel (g:=g) (w:=w) ht hpw2.1 hpw2.2
    have hlv:((vs.toList.drop off).take size).length=size:=by rw[<-hpw2.1,hl']
    have hs0:size≠0:=by
     intro e
     simp_all
    have hle:off+size<=vs.size:=by
     grind
    refine ⟨_,?_,hrel,rfl⟩
    have hr:=run_part (P:=P) (w:=w) hf3 hf5 vs off (by omega) (λhd=>by
     grind)
    simp_all[Instr.field,run_underlying',asAgg]
   .cases h
  .cases h
 .cases h
end
end TL
end
section
namespace TL
open Go
section
variable {P:Program} {g:Gh} {w:World}
theorem run_indexAt {ty e:TypeId} {j:TypeInfo} (hu:P.underlying ty=some (.slice e)) (hj:P.info? e=some j) (a:Addr) (len cap:Nat) (n:Int) (h:0<=n∧n<len) :
  (Instr.indexAt ty (.slice (some a) len cap) (.int .i64 n)).run P w=.ok (.pointer (some (a.add (n.toNat *j.size)))) w:=by
 simp[Instr.indexAt,asIntOf,run_underlying' hu,run_sizeOf' hj,h]
theorem slT_data {s s':St} (hs:SRel g s w) {t:T} {v:Value} {p:Prop} {es:List D} (h:slT s t=some (p,es)) (hp:p) (ht:TRel g w t v)
  (hf:freeze s (ownSl t)=some s') :
  ∃g',SRel g' s' w∧Ext s.fl g w g' w∧s'.fl=s.fl∧s'.nob=s.nob∧DRel g'.imm w (.sl es) v:=by
 cases ht with
 |emp a=>
  simp only[slT,Option.some.injEq,Prod.mk.injEq] at h
  simp[ownSl,freeze,Option.some.injEq] at hf
  subst hf
  exact ⟨g,hs,Ext.refl _ _ _,rfl,rfl,by
   rw[<-h.2]
   exact .sl [] a 0 0 (λ_ _=>undef) (by simp) (by simp) (by simp) (λh=>absurd rfl h) (λi j d c h=>by simp at h)⟩
 |clp n es' a hn hd=>
  simp[ownSl,freeze,Option.some.injEq] at hf
  subst hf
  obtain ⟨_,rfl⟩:=h
  exact ⟨g,hs,Ext.refl _ _ _,rfl,rfl,hd⟩
 |cln j d c a hj hd=>
  simp[ownSl,freeze,Option.some.injEq] at hf
  subst hf
  obtain ⟨_,rfl⟩:=h
  exact ⟨g,hs,Ext.refl _ _ _,rfl,rfl,cln_data hj hd⟩
 |sym d v hd=>
  simp[ownSl,freeze,Option.some.injEq] at hf
  subst hf
  obtain ⟨rfl,rfl⟩:=h
  rw[D.isSl_spec hp] at hd
  exact ⟨g,hs,Ext.refl _ _ _,rfl,rfl,hd⟩
 |sh o e len cap sz a hx=>
  have key:∀fz sz' (es':List D) era,s.ob.get o=some (arrOb fz sz' es' era)->(bif Nat.beq e era then some (True,es') else none)=some (p,es)->
    s.ob.get o=some (arrOb fz sz' es e):=by
   intro fz sz' es' era ho h
   rcases cond_some h with ⟨hb,h⟩|⟨_,h⟩
   .have hee:=beq_iff'.1 hb
    simp only[Option.some.injEq,Prod.mk.injEq] at h
    rw[ho,h.2,hee]
   .cases h
  have key2:∃fz sz',s.ob.get o=some (arrOb fz sz' es e):=by
   simp[slT] at h
   split at h
   .rename_i sz' es' era ho
    exact ⟨_,_,key false sz' es' era ho h⟩
   .rename_i sz' es' era ho
    exact ⟨_,_,key true sz' es' era ho h⟩
   .cases h
  let ⟨fz,sz',ho⟩:=key2
  let ⟨g',hs',he,hfr⟩:=freeze_sound [o] hs hf (λk hk=>by
   simp at hk
   subst hk
   exact ⟨Nat.lt_of_lt_of_le (hs.lt' hx) hs.nob,.inl ⟨e,_,hx,.inl ⟨fz,sz',es,ho⟩⟩⟩)
  have hd:=hs'.slData (hfr.hit o (by simp) fz sz' es e ho) (he.arr _ _ _ hx)
  exact ⟨g',hs',he,hfr.fl,hfr.nob,hd⟩
 |_=>simp[slT] at h
theorem drel_sl {I:Nat->Prop} {es:List D} {v:Value} (h:DRel I w (.sl es) v):∃a cap,v=.slice a es.length cap∧es.length<=cap∧(∀d∈es,es.length*d.by_<=281474976710656)∧(es≠[]->∃ad sz,a=some ad∧(∀d∈es,d.cells.length=sz)∧I ad.block∧
  ∃val:Nat->Nat->Value,(∀i j d c,es[i]?=some d->d.cells[j]?=some c->w.cell? (ad.add (i*sz+j))=some (val i j))∧
   (∀i j d c,es[i]?=some d->d.cells[j]?=some c->DRel I w c (val i j))):=by
 cases h with
 |sl _ a cap sz val hcap hsz hby ha hc=>
  refine ⟨a,cap,rfl,hcap,hby,λhne=>?_⟩
  let ⟨ad,h1,h2,h3⟩:=ha hne
  exact ⟨ad,sz,h1,hsz,h2,val,h3,hc⟩
theorem arrAddrT_sound {ty:TypeId} {i:TI} (hi:TIok P ty i) {s s':St} {x ix:T} {vx vi:Value} {p:Prop} {t:T} {n sz:Nat} {ag:Bool} (hkd:i.kd=.array n sz ag) (h:arrAddrT n sz s x ix=some (p,t,s'))
  (hx:TRel g w x vx) (hix:TRel g w ix vi):∃v,(Instr.indexAt ty vx vi).run P w=.ok v w∧TRel g w t v∧s'=s:=by
 let ⟨_,d1,_,_,hu1,_,_,_,_,hk1⟩:=hi.all
 rw[hkd] at hk1
 obtain ⟨e,j,d',rfl,hj,hjs,_,_⟩:=hk1
 unfold arrAddrT at h
 split at h
 .rename_i d b k
  rcases cond_some h with ⟨hb,h3⟩|⟨_,h3⟩
  .obtain ⟨_,rfl,rfl⟩:=h3
   have hk:k<n:=Nat.le_of_ble_eq_true hb
   cases hix with
   |kn _ _=>
   cases hx with
   |ept _ _ ad val him hc hd=>
   refine ⟨.pointer (some ((ad.add b).add (k*sz))),?_,?_,rfl⟩
   .simp[Instr.indexAt,Instr.sureAddr,asIntOf,run_underlying' hu1,run_sizeOf' hj,hjs,hk]
   .rw[add_add']
    exact .ept _ _ _ _ him hc hd
  .cases h3
 .cases h
theorem indexAddrT_sound {ty:TypeId} {i:TI} (hi:TIok P ty i) {s s':St} (hs:SRel g s w) {x ix:T} {vx vi:Value} {p:Prop} {t:T} (h:indexAddrT i s x ix=some (p,t,s')) (hp:p)
  (hx:TRel g w x vx) (hix:TRel g w ix vi):∃v,(Instr.indexAt ty vx vi).run P w=.ok v w∧TRel g w t v∧s'=s:=by
 let ⟨_,d1,_,_,hu1,_,_,_,_,hk1⟩:=hi.all
 unfold indexAddrT at h
 split at h
 .rename_i sz ag bt zero q n hkd hn
  rw[hkd] at hk1
  obtain ⟨e,j,d',z,rfl,hj,hjs,_,_,_,_,_,hpos,_⟩:=hk1
  have gen:∀{es:List D} {q':Prop},slT s x=some (q',es)->q'->D.inb n (D.len es)->(D.el es (D.nat n)).wide sz->(∀o e,x≠.sh o e)->q->∃v,(Instr.indexAt ty vx vi).run P w=.ok v w∧TRel g w (.ept (D.el es (D.nat n)) 0) v:=by
   intro es q' hsl hq' hin hw hnsh hq
   have hvi:=intT_sound hn hq hix
   subst hvi
   have hlt:n.toNat<es.length:=by
    have h1:=hin.1
    have h2:=hin.2
    unfold D.len at h2
    omega
   have hne:es≠[]:=by
    intro e
    rw[e] at hlt
    simp at hlt
   have hd':DRel g.imm w (.sl es) vx:=by
    cases hx with
    |sym d v hd=>
     obtain ⟨rfl,rfl⟩:=hsl
     rw[<-D.isSl_spec hq']
     exact hd
    |clp m es' a hm hd=>
     obtain ⟨_,rfl⟩:=hsl
     exact hd
    |emp a=>
     simp only[slT,Option.some.injEq,Prod.mk.injEq] at hsl
     exact absurd hsl.2.symm hne
    |cln j d c a hj hd=>
     obtain ⟨_,rfl⟩:=hsl
     exact cln_data hj hd
    |sh o e len cap sz a hx=>exact absurd rfl (hnsh o e)
    |_=>simp[slT] at hsl
   obtain ⟨a,cap,rfl,hcap,_,hrest⟩:=drel_sl hd'
   obtain ⟨ad,sz',rfl,hsz,him,val,hc,hr⟩:=hrest hne
   have hel:=D.el_get hlt
   have hszz:sz'=sz:=by
    have h1:=hsz (D.el es n.toNat) (List.mem_of_getElem? hel)
    exact h1.symm.trans hw
   subst hszz
   refine ⟨_,run_indexAt hu1 hj ad _ _ n ⟨hin.1,?_⟩,?_⟩
   .have:=hin.2
    exact this
   .rw[hjs,<-add_zero' (ad.add (n.toNat *sz'))]
    refine .ept _ 0 (ad.add (n.toNat *sz')) (val n.toNat) (by rw[add_block];exact him) (λk c hk=>?_) (λk c hk=>hr _ _ _ _ hel hk)
    rw[add_add']
    exact hc _ _ _ _ hel hk
  split at h
  .rename_i o e'
   split at h
   .rename_i z' es harr
    rcases cond_some h with ⟨hb,h3⟩|⟨_,h3⟩
    .have hzz:=beq_iff'.1 hb
     obtain ⟨rfl,rfl,rfl⟩:=h3
     clear h hb
     subst hzz
     have hvi:=intT_sound hn hp.1 hix
     subst hvi
     cases hx with
     |sh _ _ len cap sz' a hxa=>
     let ⟨fz,ho⟩:=arrT_some harr
     let ⟨hok,hsz⟩:=hs.arrNow ho hxa
     subst hsz
     have h1:=hp.2.1
     have h2:=hp.2.2
     unfold D.len at h2
     have hl:=hok.len
     have hc:=hok.cap
     simp only at hl hc
     let ⟨b,vs,ety,hab,_⟩:=hok.mem (by simp only;omega)
     subst hab
     refine ⟨_,run_indexAt hu1 hj _ _ _ n ⟨h1,by omega⟩,?_,rfl⟩
     rw[hjs]
     exact .epw o e' n.toNat 0 _ _ _ _ hxa
    .cases h3
   .cases h
  .rename_i x' hnsh
   split at h
   .rename_i q' es hsl
    obtain ⟨rfl,rfl,rfl⟩:=h
    let ⟨v,h1,h2⟩:=gen hsl hp.2.1 hp.2.2.1 hp.2.2.2 (λo e he=>hnsh o e he) hp.1
    exact ⟨v,h1,h2,rfl⟩
   .cases h
 .rename_i n sz ag hkd
  exact arrAddrT_sound hi hkd h hx hix
 .cases h
theorem get!_some {b:ByteArray} {k:Nat} (h:k<b.size):b[k]?=some (b.get! k):=by
 rw[getElem?_pos b k h]
 congr 1
 show b.data[k]=b.data[k]!
 rw[getElem!_pos b.data k h]
theorem indexT_sound {ty:TypeId} {i:TI} (hi:TIok P ty i) {s s':St} {x ix:T} {vx vi:Value} {p:Prop} {t:T} (h:indexT i s x ix=some (p,t,s')) (hp:p)
  (hx:TRel g w x vx) (hix:TRel g w ix vi):∃v,(Instr.index ty vx vi).run P w=.ok v w∧TRel g w t v∧s'=s:=by
 let ⟨_,d1,_,_,hu1,_,_,_,_,hk1⟩:=hi.all
 unfold indexT at h
 split at h
 .rename_i q n q' b hkd hn hb
  rw[hkd] at hk1
  subst hk1
  obtain ⟨rfl,rfl,rfl⟩:=h
  rw[intT_sound hn hp.1 hix,strT_sound hb hp.2.1 hx]
  have h1:=hp.2.2.1
  have h2:=hp.2.2.2
  unfold D.slen at h2
  refine ⟨_,?_,.sym _ _ (.lit _),rfl⟩
  simp[Instr.index,asIntOf,Sem.run_bind,Result.andThen_ok,run_underlying' hu1]
  rw[if_pos h1,get!_some (by omega)]
  rfl
 .cases h
theorem zero_rel {zero:List D} {cells:Array Value} (h:ZOk zero cells):(zero.map ofZero).length=cells.size∧
  ∀(j:Nat) (t:T) (v:Value),(zero.map ofZero)[j]?=some t->cells[j]?=some v->TRel g w t v:=by
 refine ⟨by simpa using h.1,λj t v h1 h2=>?_⟩
 simp at h1
 obtain ⟨d,hd,rfl⟩:=h1
 rcases h.2 j d v hd h2 with ⟨rfl,rfl⟩|rfl
 .exact .emp none
 .unfold ofZero
  split
  .rename_i heq
   simp at heq
   subst heq
   exact .kb _
  .rename_i heq
   simp at heq
   subst heq
   exact .kn _ _
  .simp_all
  .exact .sym _ _ (.lit _)
theorem assertT_sound {ty xt:TypeId} {i:TI} (hi:TIok P ty i) {s s':St} {ok:Bool} {x:T} {vx:Value} {p:Prop} {t:T} (h:assertT i s ty ok x=some (p,t,s'))
  (hx:TRel g w x vx) :
  ∃v,(Instr.typeAssert vx xt ty ok).run P w=.ok v w∧TRel g w t v∧s'=s:=by
 let ⟨xi,d1,z,hxi,hu1,_,hag,hzx,hzok,hk1⟩:=hi.all
 let ⟨hz1,hz2⟩:=hi.zag xi z hxi hzx
 have hni:i.kd≠.iface->∀ms,P.underlying ty≠some (.interface ms):=λhk ms he=>hk (hi.nif ms he)
 unfold assertT at h
 have hrun:i.kd≠.iface->∀u v,(Instr.typeAssert (.iface u v) xt ty ok).run P w=((if u=ty then pure (if ok then .tuple #[v,.bool true] else v) else
   if ok then do pure (.tuple #[<-zeroValue ty,.bool false]) else runtimePanic (.typeAssertion (some xt) (some u) ty "")):Sem Value).run P w:=by
  simp_all[Instr.typeAssert,run_underlying']
 split at h
 .cases h
 .rename_i u v hk
  cases hx with
  |ifc _ _ vv hv=>
  rcases cond_some h with ⟨hb,h⟩|⟨hb,h⟩
  .have hee:=beq_iff'.1 hb
   simp only[Option.some.injEq,Prod.mk.injEq] at h
   obtain ⟨_,rfl,rfl⟩:=h
   clear hb
   subst hee
   refine ⟨_,by rw[hrun hk,if_pos rfl];rfl,.tup _ _ rfl (λj t v h1 h2=>?_),rfl⟩
   match j with
   |0=>simp_all
   |1=>simp at h1 h2;subst h1;subst h2;exact .kb _
   |j+2=>simp at h1
  .have hne:u≠ty:=λe=>by
    simp_all
   simp only[Option.map_eq_some_iff,Prod.mk.injEq] at h
   obtain ⟨tz,htz,_,rfl,rfl⟩:=h
   let ⟨hzl,hzr⟩:=zero_rel (g:=g) (w:=w) hzok
   have hrel:TRel g w tz z:=by
    rcases packT_some htz with ⟨ha,rfl⟩|⟨ha,he⟩
    .obtain ⟨vs,rfl⟩:=hz1 ha
     exact .agg _ _ hzl hzr
    .have:=hz2 ha
     rw[he,this] at hzr
     exact hzr 0 _ _ rfl rfl
   refine ⟨_,by rw[hrun hk,if_neg hne];simp only[if_true,Sem.run_bind,run_zeroValue' hxi hzx,Result.andThen_ok,Sem.run_pure];rfl,.tup _ _ rfl (λj t v h1 h2=>?_),rfl⟩
   match j with
   |0=>grind
   |1=>simp at h1 h2;subst h1;subst h2;exact .kb _
   |j+2=>simp at h1
 .rename_i u v hk
  cases hx with
  |ifc _ _ vv hv=>
  rcases cond_some h with ⟨hb,h⟩|⟨hb,h⟩
  .simp_all
  .cases h
 .cases h
end
end TL
end
section
namespace TL
open Go
section
variable {P:Program} {g:Gh} {w:World}
inductive ORel (g:Gh) (w:World):Option T->Option Value->Prop where
 |no:ORel g w none none
 |yes (t:T) (v:Value) (h:TRel g w t v):ORel g w (some t) (some v)
theorem boundT_sound {dflt n:Int} {l:Option T} {v:Option Value} {p:Prop} (h:boundT dflt l=some (p,n)) (hp:p) (hr:ORel g w l v) :
  (v=none∧l=none∧n=dflt)∨(v=some (.int .i64 n)∧∃t,l=some t):=by
 cases hr with
 |no=>
  simp only[boundT,Option.some.injEq,Prod.mk.injEq] at h
  exact .inl ⟨rfl,rfl,h.2.symm⟩
 |yes t v hv=>exact .inr ⟨by rw[intT_sound h hp hv],t,rfl⟩
theorem run_sliceBound (n:Int) (y:Nat) (code:BoundsCode) (h:0<=n∧n<=y):(Instr.sliceBound (.int .i64 n) y code).run P w=.ok n.toNat w:=by
 simp[Instr.sliceBound,asIntOf,h]
theorem run_sliceBounds2 (isSlice:Bool) (len cap:Nat) {low high:Option Value} {lo hi:Int} (hl:(low=none∧lo=0)∨low=some (.int .i64 lo)) (hh:(high=none∧hi=len)∨high=some (.int .i64 hi))
  (h0:0<=lo) (h1:lo<=hi) (h2:hi<=cap):(Instr.sliceBounds isSlice len cap low high none).run P w=.ok (lo.toNat,hi.toNat,cap) w:=by
 rcases hl with ⟨rfl,rfl⟩|rfl<;>rcases hh with ⟨rfl,rfl⟩|rfl
 .rfl
 .simp_all[Instr.sliceBounds,run_sliceBound]
 .simp_all[Instr.sliceBounds,run_sliceBound]
 .simp[Instr.sliceBounds,run_sliceBound hi cap _ ⟨by omega,h2⟩,run_sliceBound lo hi.toNat _ ⟨h0,by omega⟩]
theorem run_sliceBounds3 (isSlice:Bool) (len cap:Nat) {low:Option Value} {lo hi mx:Int} (hl:(low=none∧lo=0)∨low=some (.int .i64 lo))
  (h0:0<=lo) (h1:lo<=hi) (h2:hi<=mx) (h3:mx<=cap):(Instr.sliceBounds isSlice len cap low (some (.int .i64 hi)) (some (.int .i64 mx))).run P w=.ok (lo.toNat,hi.toNat,mx.toNat) w:=by
 rcases hl with ⟨rfl,rfl⟩|rfl
 .simp[Instr.sliceBounds,run_sliceBound mx cap _ ⟨by omega,h3⟩,run_sliceBound hi mx.toNat _ ⟨by omega,by omega⟩]
 .simp[Instr.sliceBounds,run_sliceBound mx cap _ ⟨by omega,h3⟩,run_sliceBound hi mx.toNat _ ⟨by omega,by omega⟩,run_sliceBound lo hi.toNat _ ⟨h0,by omega⟩]
theorem drel_sub {I:Nat->Prop} {es:List D} {a:Option Addr} {len cap sz:Nat} (h:DRel I w (.sl es) (.slice a len cap)) (hsz:D.rows es sz) {lo hi:Int} (hc:D.cut lo hi (D.len es))
  (m:Nat) (hm:hi.toNat<=m) (_hm2:m<=cap) :
  (D.sub es lo hi).length=hi.toNat-lo.toNat∧DRel I w (.sl (D.sub es lo hi)) (.slice (if m=lo.toNat then a else a.map (·.add (lo.toNat *sz))) (hi.toNat-lo.toNat) (m-lo.toNat)):=by
 let ⟨a',cap',he,hcap,hby,hrest⟩:=drel_sl h
 obtain ⟨rfl,rfl,rfl⟩:=he
 let ⟨h0,h1,h2⟩:=hc
 unfold D.len at h2
 have hlen:(D.sub es lo hi).length=hi.toNat-lo.toNat:=by
  simp[D.sub]
  omega
 refine ⟨hlen,?_⟩
 have hget:∀i d,(D.sub es lo hi)[i]?=some d->es[lo.toNat+i]?=some d:=by
  grind[D.sub]
 have hmem:∀d∈D.sub es lo hi,d∈es:=λd hd=>List.mem_of_mem_take (List.mem_of_mem_drop hd)
 rw[<-hlen]
 by_cases hne:es=[]
 .subst hne
  have:D.sub [] lo hi=[]:=by simp[D.sub]
  rw[this]
  exact .sl [] _ _ sz (λ_ _=>undef) (by simp) (by simp) (by simp) (λh=>absurd rfl h) (λi j d c h=>by simp at h)
 .obtain ⟨ad,sz',rfl,hszz,him,val,hcell,hr⟩:=hrest hne
  have hs0:sz'=sz:=by
   obtain ⟨d,ds,rfl⟩:=List.exists_cons_of_ne_nil hne
   rw[<-hszz d (by simp),hsz d (by simp)]
  subst hs0
  refine .sl _ _ _ sz' (λi j=>val (lo.toNat+i) j) (by omega) (λd hd=>hsz d (hmem d hd)) (λd hd=>Nat.le_trans (Nat.mul_le_mul_right _ (by omega)) (hby d (hmem d hd))) (λhsub=>?_) (λi j d c hd hj=>hr _ _ _ _ (hget i d hd) hj)
  have hlt:0<(D.sub es lo hi).length:=List.length_pos_iff.2 hsub
  refine ⟨ad.add (lo.toNat *sz'),by grind,by rw[add_block];exact him,λi j d c hd hj=>?_⟩
  grind[add_add']
theorem sliceT_sound {ty:TypeId} {i:TI} (hi:TIok P ty i) {s s':St} (hs:SRel g s w) {x:T} {l h m:Option T} {vx:Value} {vl vh vm:Option Value} {p:Prop} {t:T}
  (he:sliceT i s x l h m=some (p,t,s')) (hp:p) (hx:TRel g w x vx) (hl:ORel g w l vl) (hh:ORel g w h vh) (hm:ORel g w m vm) :
  ∃g' v,(Instr.sliceAt ty vx vl vh vm).run P w=.ok v w∧SRel g' s' w∧Ext s.fl g w g' w∧TRel g' w t v∧s'.fl=s.fl∧s'.nob=s.nob:=by
 let ⟨_,d1,_,_,hu1,_,_,_,_,hk1⟩:=hi.all
 unfold sliceT at he
 split at he
 .rename_i p0 lo hkd hlo
  rw[hkd] at hk1
  subst hk1
  split at he
  .rename_i q b hb
   split at he
   .rename_i r hi2 hhi
    obtain ⟨rfl,rfl,rfl⟩:=he
    let ⟨c0,c1,c2⟩:=hp.2.2.2
    rw[strT_sound hb hp.2.1 hx]
    cases hm
    refine ⟨g,_,?_,hs,Ext.refl _ _ _,.sym _ _ (.lit _),rfl,rfl⟩
    have hl':=boundT_sound hlo hp.1 hl
    have hh':=boundT_sound hhi hp.2.2.1 hh
    have hb2:=run_sliceBounds2 (P:=P) (w:=w) false b.size b.size (hl'.imp (λh=>⟨h.1,h.2.2⟩) (·.1)) (hh'.imp (λh=>⟨h.1,h.2.2⟩) (·.1)) c0 c1 c2
    simp_all[Instr.sliceAt,Instr.slice,run_underlying',D.ssub]
   .cases he
  .cases he
 .rename_i sz ag bt zero p0 lo hkd hlo
  rw[hkd] at hk1
  obtain ⟨e,j,d',z,rfl,hj,hjs,_,_,_,_,_,hpos,_⟩:=hk1
  split at he
  .rename_i q es s1 hsl hfr
   have hl':=λhp0=>boundT_sound hlo hp0 hl
   split at he
   .rename_i r hi2 hhi
    obtain ⟨rfl,rfl,rfl⟩:=he
    cases hm
    let ⟨hp0,hq,hr,hrows,hcut⟩:=hp
    let ⟨g',hs',hext,hfl,hnob,hd⟩:=slT_data hs hsl hq hx hfr
    obtain ⟨a,cap,rfl,hcap,_⟩:=drel_sl hd
    let ⟨c0,c1,c2⟩:=hcut
    unfold D.len at c2
    have hh':=boundT_sound hhi hr hh
    let ⟨_,hsub⟩:=drel_sub hd hrows ⟨c0,c1,c2⟩ cap (by omega) (Nat.le_refl _)
    refine ⟨g',_,?_,hs',hext,.sym _ _ hsub,hfl,hnob⟩
    have hb2:=run_sliceBounds2 (P:=P) (w:=w) true es.length cap ((hl' hp0).imp (λh=>⟨h.1,h.2.2⟩) (·.1)) (hh'.imp (λh=>⟨h.1,h.2.2⟩) (·.1)) c0 c1 (by omega:hi2<=cap)
    simp only[Instr.sliceAt,Instr.slice,Sem.run_bind,run_underlying' hu1,Result.andThen_ok,run_sizeOf' hj,hjs,hb2]
    rfl
   .rename_i r hi2 y th hhi
    cases hm with
    |yes _ vy hy=>
    split at he
    .obtain ⟨rfl,rfl,rfl⟩:=he
     let ⟨hp0,hq,hr,e1,e2⟩:=hp
     obtain ⟨a,cap,rfl,hcap⟩:=slT_len hs hsl hq hx
     have hh':=boundT_sound hhi hr hh
     cases hy
     rcases hh' with ⟨_,h',_⟩|⟨hv,_⟩
     .cases h'
     .have z1:hi2=0:=e2
      refine ⟨g,_,?_,hs,Ext.refl _ _ _,.emp a,rfl,rfl⟩
      have hb2:=run_sliceBounds3 (P:=P) (w:=w) true es.length cap ((hl' hp0).imp (λh=>⟨h.1,h.2.2⟩) (·.1)) (by omega) (by omega:lo<=hi2) (by omega:hi2<=0) (by omega)
      simp_all[Instr.sliceAt,Instr.slice,run_underlying',run_sizeOf']
    .simp only[Option.map_eq_some_iff,Prod.mk.injEq] at he
     obtain ⟨⟨t',mx⟩,hmx,rfl,rfl,rfl⟩:=he
     obtain ⟨hp0,hq,hr,ht,hrows,hcut,rfl⟩:=hp
     let ⟨g',hs',hext,hfl,hnob,hd⟩:=slT_data hs hsl hq hx hfr
     obtain ⟨a,cap,rfl,hcap,_⟩:=drel_sl hd
     let ⟨c0,c1,c2⟩:=hcut
     unfold D.len at c2
     have hh':=boundT_sound hhi hr hh
     let ⟨hlen,hsub⟩:=drel_sub hd hrows ⟨c0,c1,c2⟩ mx.toNat (Nat.le_refl _) (by omega)
     rw[intT_sound hmx ht hy]
     rcases hh' with ⟨_,h',_⟩|⟨hv,_⟩
     .cases h'
     .subst hv
      rw[<-hlen] at hsub
      refine ⟨g',.slice (if mx.toNat=lo.toNat then a else a.map (·.add (lo.toNat *sz))) (D.sub es lo mx).length (D.sub es lo mx).length,?_,hs',hext,.clp 0 _ _ (Nat.zero_le _) hsub,hfl,hnob⟩
      have hb2:=run_sliceBounds3 (P:=P) (w:=w) true es.length cap ((hl' hp0).imp (λh=>⟨h.1,h.2.2⟩) (·.1)) c0 c1 (Int.le_refl _) (by omega:mx<=cap)
      simp only[Instr.sliceAt,Instr.slice,Sem.run_bind,run_underlying' hu1,Result.andThen_ok,run_sizeOf' hj,hjs,hb2,hlen]
      rfl
   .cases he
  .cases he
 .cases he
theorem len_sound {E:Env} {s s':St} (hs:SRel g s w) {x:T} {vx:Value} {argTypes:Array TypeId} {rt:TypeId} {p:Prop} {t:T} (hE:∀k i,E.ti k=some i->TIok P k i)
  (h:builtinT E s .len argTypes [x]=some (p,t,s')) (hp:p) (hx:TRel g w x vx) :
  ∃v,(Builtin.len_ argTypes rt #[vx]).run P w=.ok v w∧TRel g w t v∧s'=s:=by
 unfold builtinT at h
 simp at h
 have harg:∀i,(nth argTypes.toList 0).bind E.ti=some i->∃ty,argTypes[0]?=some ty∧TIok P ty i:=by
  grind[nth_eq]
 have slcase:∀i q es,(nth argTypes.toList 0).bind E.ti=some i->(∃a b c d,i.kd=.slice a b c d)->slT s x=some (q,es)->q->
   ∃v,(Builtin.len_ argTypes rt #[vx]).run P w=.ok v w∧TRel g w (.sym (.lit (.int .i64 (D.len es)))) v:=by
  intro i q es hi hk hsl hq
  let ⟨ty,h1,h2⟩:=harg i hi
  let ⟨_,d1,_,_,hu1,_,_,_,_,hk1⟩:=h2.all
  let ⟨a,b,c,d,hk⟩:=hk
  rw[hk] at hk1
  obtain ⟨e,j,d',z,rfl,_⟩:=hk1
  obtain ⟨a,cap,rfl,_⟩:=slT_len hs hsl hq hx
  refine ⟨_,?_,.sym _ _ (.lit _)⟩
  simp_all[Builtin.len_,run_underlying',goInt,D.len]
 split at h
 .rename_i q b i hb hi
  split at h
  .rename_i hk
   obtain ⟨rfl,rfl,rfl⟩:=h
   let ⟨ty,h1,h2⟩:=harg i hi
   let ⟨_,d1,_,_,hu1,_,_,_,_,hk1⟩:=h2.all
   rw[hk] at hk1
   subst hk1
   rw[strT_sound hb hp hx]
   refine ⟨_,?_,.sym _ _ (.lit _),rfl⟩
   simp[Builtin.len_,h1,run_underlying' hu1,goInt,D.slen]
  .rename_i a b c d hk
   simp only[Option.map_eq_some_iff,Prod.mk.injEq] at h
   obtain ⟨⟨q',es⟩,hsl,rfl,rfl,rfl⟩:=h
   let ⟨v,h1,h2⟩:=slcase i q' es hi ⟨_,_,_,_,hk⟩ hsl hp
   simp_all
  .cases h
 .rename_i i _ hi
  split at h
  .rename_i a b c d hk
   simp only[Option.map_eq_some_iff,Prod.mk.injEq] at h
   obtain ⟨⟨q',es⟩,hsl,rfl,rfl,rfl⟩:=h
   let ⟨v,h1,h2⟩:=slcase i q' es hi ⟨_,_,_,_,hk⟩ hsl hp
   simp_all
  .cases h
 .cases h
end
end TL
end
section
namespace TL
open Go
section
variable {P:Program} {g:Gh} {w:World}
theorem ofVal_some {v:Value} {d:D} (h:ofVal v=some d):d=.lit v:=by
 unfold ofVal at h
 grind[Array.toList_eq_nil_iff]
theorem ofConst_sound {v:Value} {t:T} (h:ofConst v=some t):TRel g w t v:=by
 unfold ofConst at h
 split at h
 .simp at h;subst h;exact .kb _
 .simp at h;subst h;exact .kn _ _
 .simp at h;subst h;exact .emp _
 .split at h
  .rename_i ha hb
   simp at h
   subst h
   rw[Array.toList_eq_nil_iff.1 ha,Array.toList_eq_nil_iff.1 hb]
   exact .fn _ _ _ _ _ rfl rfl (λj t v h=>by simp at h) (λj t v h=>by simp at h)
  .cases h
 .simp at h
  obtain ⟨d,hd,rfl⟩:=h
  rw[ofVal_some hd]
  exact .sym _ _ (.ifc _ _ _ (.lit _))
 .simp at h
  obtain ⟨d,hd,rfl⟩:=h
  rw[ofVal_some hd]
  exact .sym _ _ (.lit _)
theorem opdT_sound {fr:Fr} {a:Act} (hf:FRel g fr a w) {x:Operand} {t:T} (h:opdT fr x=some t):TRel g w t (a.eval x):=by
 cases x with
 |tmp k=>
  let ⟨v,hv,ht⟩:=hf.tm k t h
  simp_all[Act.eval]
 |const v=>exact ofConst_sound h
 |global _=>cases h
 |func f=>
  simp[opdT,Option.some.injEq] at h
  subst h
  exact .fn _ _ _ _ _ rfl rfl (λj t v h=>by simp at h) (λj t v h=>by simp at h)
theorem opdsT_sound {fr:Fr} {a:Act} (hf:FRel g fr a w):∀{l:List Operand} {ts:List T},opdsT fr l=some ts->PW (TRel g w) ts (l.map a.eval)
 |[],ts,h=>by
  simp only[opdsT,Option.some.injEq] at h
  subst h
  exact ⟨rfl,λj t v h=>by simp at h⟩
 |x ::l,ts,h=>by
  simp[opdsT] at h
  split at h
  .rename_i t r h1 h2
   simp at h
   subst h
   have ih:=opdsT_sound hf h2
   refine ⟨by simp[ih.1],λj t' v ht hv=>?_⟩
   cases j with
   |zero=>grind[opdT_sound]
   |succ j=>exact ih.2 j t' v (by simpa using ht) (by simpa using hv)
  .cases h
def PartRel (g:Gh) (w:World) (a:Nat×T) (b:Nat×Value):Prop:=a.1=b.1∧TRel g w a.2 b.2
theorem partsT_sound {fr:Fr} {a:Act} (hf:FRel g fr a w):∀{l:List (Nat×Operand)} {ts:List (Nat×T)},partsT fr l=some ts->PW (PartRel g w) ts (l.map λ(i,x)=>(i,a.eval x))
 |[],ts,h=>by
  simp only[partsT,Option.some.injEq] at h
  subst h
  exact ⟨rfl,λj t v h=>by simp at h⟩
 |(k,x) ::l,ts,h=>by
  simp[partsT] at h
  split at h
  .rename_i t r h1 h2
   simp at h
   subst h
   have ih:=partsT_sound hf h2
   refine ⟨by simpa using ih.1,λj t' v ht hv=>?_⟩
   cases j with
   |zero=>simp at ht hv;subst ht;subst hv;exact ⟨rfl,opdT_sound hf h1⟩
   |succ j=>exact ih.2 j t' v (by simpa using ht) (by simpa using hv)
  .cases h
theorem optT_sound {fr:Fr} {a:Act} (hf:FRel g fr a w) {x:Option Operand} {t:Option T} (h:optT fr x=some t):ORel g w t (x.map a.eval):=by
 cases x with
 |none=>
  simp[optT,Option.some.injEq] at h
  subst h
  exact .no
 |some x=>
  simp[optT,Option.map_eq_some_iff] at h
  obtain ⟨u,hu,rfl⟩:=h
  exact .yes _ _ (opdT_sound hf hu)
theorem foldl_set (off:Nat):∀(l:List Value) (i0:Nat) (cells:Array Value),off+i0+l.length<=cells.size->
  (l.zipIdx i0).foldl (λcs x=>cs.setIfInBounds (off+x.2) x.1) cells=(cells.toList.take (off+i0)++l++cells.toList.drop (off+i0+l.length)).toArray
 |[],i0,cells,h=>by simp
 |c ::l,i0,cells,h=>by
  simp at h
  simp only[List.zipIdx_cons,List.foldl_cons]
  rw[foldl_set off l (i0+1) _ (by simp;omega)]
  congr 1
  have e1:off+(i0+1)=off+i0+1:=by omega
  have e2:off+i0+1+l.length=off+i0+(l.length+1):=by omega
  have h1:(cells.toList.set (off+i0) c).take (off+i0+1)=cells.toList.take (off+i0)++[c]:=by
   rw[List.take_add_one,List.take_set,List.getElem?_set,if_pos rfl,if_pos (by simp;omega)]
   grind[List.set_eq_of_length_le]
  simp_all[List.drop_set]
theorem fillT_sound {place:Nat->Option (Nat×TI)} {pl:Nat->Option (Nat×Nat)} (hplace:∀k off i,place k=some (off,i)->pl k=some (off,i.size)) :
  ∀(ps:List (Nat×T)) (vs:List (Nat×Value)) {cells:List T} {cs:Array Value} {p:Prop} {r:List T},fillT place cells ps=some (p,r)->p->PW (PartRel g w) ps vs->PW (TRel g w) cells cs.toList->
   ∃rs,Instr.fill pl cs vs=some rs∧PW (TRel g w) r rs.toList
 |[],[],cells,cs,p,r,h,hp,_,hc=>by
  obtain ⟨_,rfl⟩:=h
  exact ⟨cs,rfl,hc⟩
 |(k,t) ::ps,(k',v) ::vs,cells,cs,p,r,h,hp,hpw,hc=>by
  have hkv:=hpw.2 0 _ _ rfl rfl
  obtain ⟨rfl,hv⟩:=hkv
  have hrest:PW (PartRel g w) ps vs:=⟨by simpa using hpw.1,λj a b ha hb=>hpw.2 (j+1) a b (by simpa using ha) (by simpa using hb)⟩
  simp only[fillT] at h
  split at h
  .cases h
  .rename_i off i hpl
   split at h
   .cases h
   .rename_i q l hl
    rcases cond_some h with ⟨hb,h⟩|⟨_,h⟩
    .simp only[Option.map_eq_some_iff,Prod.mk.injEq] at h
     obtain ⟨⟨p',r'⟩,hr,rfl,rfl⟩:=h
     have hle:=Nat.le_of_ble_eq_true hb
     rw[lenL_eq,lenL_eq] at hle
     let ⟨hlp,hls⟩:=cellsT_pw hl hp.1 hv
     have hvl:v.cells.size=l.length:=by simpa using hlp.1.symm
     have hcl:cells.length=cs.size:=by simpa using hc.1
     have hle2:off+v.cells.toList.length<=cs.size:=by
      simp_all
     have hfold:=foldl_set off v.cells.toList 0 cs (by omega)
     simp only[Nat.add_zero] at hfold
     let ⟨rs,h1,h2⟩:=fillT_sound hplace ps vs (cs:=(cs.toList.take off++v.cells.toList++cs.toList.drop (off+v.cells.toList.length)).toArray) hr hp.2.2 hrest (by
      rw[lenL_eq]
      simp only[Array.length_toList,hvl]
      exact ((hc.take off).append hlp).append (hc.drop _))
     refine ⟨rs,?_,h2⟩
     have hno:¬(v.cells.size≠i.size||off+v.cells.size>cs.size)=true:=by
      simp_all
     simp only[Instr.fill,hplace _ _ _ hpl]
     rw[if_neg hno,<-h1,<-hfold]
     congr 1
     rw[<-Array.foldl_toList,Array.toList_zipIdx]
    .cases h
 |[],_ ::_,_,_,_,_,_,_,hpw,_=>by simp[PW] at hpw
 |_ ::_,[],_,_,_,_,_,_,hpw,_=>by simp[PW] at hpw
theorem run_mapM_list {α β:Type} (f:α->Sem β) (r:α->β):∀(l:List α),(∀x∈l,(f x).run P w=.ok (r x) w)->(l.mapM f).run P w=.ok (l.map r) w
 |[],_=>rfl
 |x ::l,h=>by
  have h2:=run_mapM_list f r l (λy hy=>h y (by simp[hy]))
  simp_all
theorem build_sound {ty:TypeId} {i:TI} (hi:TIok P ty i) {fs:List (Nat×Nat×Bool)} (hk:i.kd=.struct fs) {ps:List (Nat×T)} {vs:Array (Nat×Value)} (hpw:PW (PartRel g w) ps vs.toList)
  {p:Prop} {cs:List T} (h:fillT (λk=>match nth fs k with|some (off,size,ag)=>some (off,{(default:TI) with size:=size,agg:=ag})|none=>none) (i.zero.map ofZero) ps=some (p,cs)) (hp:p) :
  ∃v,(Instr.build ty vs).run P w=.ok v w∧TRel g w (.agg cs) v:=by
 let ⟨xi,d1,z,hxi,hu1,_,hag,hzx,hzok,hk1⟩:=hi.all
 rw[hk] at hk1
 obtain ⟨fields,rfl,hsz,hf⟩:=hk1
 have hzr:=zero_rel (g:=g) (w:=w) hzok
 have hex:∀f:Field,∃n:Nat,f∈fields.toList->(Go.sizeOf f.type).run P w=.ok n w:=by
  intro f
  by_cases hm:f∈fields.toList
  .obtain ⟨k,hk,rfl⟩:=List.getElem_of_mem hm
   have hk':k<fs.length:=by rw[<-hsz];simpa using hk
   let ⟨f',j,d',h1,h2,h3,h4,_⟩:=hf k (fs[k]).1 (fs[k]).2.1 (fs[k]).2.2 (List.getElem?_eq_getElem hk')
   have:f'=fields.toList[k]:=by
    have h1':fields.toList[k]?=some f':=by simpa using h1
    rw[List.getElem?_eq_getElem hk] at h1'
    exact (Option.some.inj h1').symm
   subst this
   exact ⟨j.size,λ_=>run_sizeOf' h3 w⟩
  .exact ⟨0,λh=>absurd h hm⟩
 let ⟨sz,hsz2⟩:=Classical.axiomOfChoice hex
 have hmap:=run_mapM_list (P:=P) (w:=w) (λf:Field=>Functor.map (Prod.mk f.offset) <| Go.sizeOf f.type) (λf=>(f.offset,sz f)) fields.toList (λf hf=>by simp[hsz2 f hf])
 obtain ⟨rs,h1,h2⟩:=fillT_sound (g:=g) (w:=w) (pl:=λk=>((fields.toList.map λf=>(f.offset,sz f)).toArray)[k]?) (λk off ti hpl=>by
  simp[nth_eq] at hpl
  split at hpl
  .rename_i off' size ag hfk
   simp at hpl
   obtain ⟨rfl,rfl⟩:=hpl
   let ⟨f',j,d',h1,h2,h3,h4,_⟩:=hf k off' size ag hfk
   have hmem:f'∈fields.toList:=by
    have h1':fields.toList[k]?=some f':=by simpa using h1
    exact List.mem_of_getElem? h1'
   have hs:=hsz2 f' hmem
   rw[run_sizeOf' h3] at hs
   simp at hs
   simp[h1,h2,<-hs,h4]
  .cases hpl) ps vs.toList h hp hpw ⟨by simpa using hzr.1,λj t v h1 h2=>hzr.2 j t v h1 (by simpa using h2)⟩
 refine ⟨.agg rs,?_,.agg _ _ (by simpa using h2.1) (λj t v h3 h4=>h2.2 j t v h3 (by simpa using h4))⟩
 simp only[Instr.build,Sem.run_bind,run_zeroValue' hxi hzx,run_underlying' hu1,Result.andThen_ok,Array.mapM_eq_mapM_toList]
 simp at h1
 simp[hmap,h1]
end
end TL
end
section
namespace TL
open Go
section
variable {P:Program} {g:Gh} {w:World}
theorem SRel.newImm {s:St} (hs:SRel g s w) {w':World} (o:Obj) (hh:w'.heap=w.heap.push o) (hos:w'.os=w.os) (hout:w'.output=w.output) :
  SRel (g.frz (·=w.heap.size)) s w'∧Ext s.fl g w (g.frz (·=w.heap.size)) w':=by
 have hold:∀b,b<w.heap.size->w'.heap[b]?=w.heap[b]?:=λb hb=>by rw[hh,Array.getElem?_push,if_neg (by omega)]
 have hsize:w'.heap.size=w.heap.size+1:=by rw[hh];simp
 have hown:∀k b,Owned (g.frz (·=w.heap.size)) k b->Owned g k b:=λk b h=>⟨λhi=>h.1 (.inl hi),h.2⟩
 have he:Ext s.fl g w (g.frz (·=w.heap.size)) w':=
  ⟨λ_ _ h=>h,λ_ _ _ h=>h,λ_ h=>.inl h,by omega,λb hb _=>hold b hb,λk b h=>.inl (hown k b h),λb h=>h.imp id λh=>.inl (by omega),hos,hout⟩
 refine ⟨⟨hs.nob,hs.bnd,λk c hc=>?_,λk j y hy=>?_,λb hb=>?_,λk k' b h h'=>hs.uni k k' b (hown k b h) (hown k' b h'),hs.gext he⟩,he⟩
 .have hbox:=hs.box k c hc
  refine hbox.ext he hs.imm (hold c hbox.2.1) rfl ?_
  rintro (h|h)
  .exact hbox.1 h
  .have:=hbox.2.1
   omega
 .have hok:=hs.arr k j y hy
  have hb4:∀ad,y.a=some ad->y.cap≠0->ad.block<w.heap.size:=hok.1
  refine hok.ext he hs.imm (λb hb hc=>⟨hold b (hb4 _ hb hc),⟨λh=>h.elim id λh=>?_,.inl⟩⟩) rfl rfl
  simp_all
 .rcases hb with hb|hb
  .have:=hs.imm b hb
   omega
  .omega
structure RowRel (I:Nat->Prop) (w:World) (sz:Nat) (es:List D) (cells:Array Value):Prop where
 size:cells.size=es.length*sz
 rows:∀d∈es,d.cells.length=sz
 rel:∀i j d c,es[i]?=some d->d.cells[j]?=some c->∃v,cells[i*sz+j]?=some v∧DRel I w c v
theorem elem_cells {I:Nat->Prop} {ag:Bool} {sz:Nat} {d:D} {v:Value} (h:(bif ag then d.isAgg sz else d.leaf)=true) (h1:(ag||Nat.beq sz 1)=true) (hd:DRel I w d v) :
  d.cells.length=sz∧v.cells.size=sz∧∀(j:Nat) (c:D) (u:Value),d.cells[j]?=some c->v.cells[j]?=some u->DRel I w c u:=by
 cases ag with
 |true=>
  obtain ⟨cs,rfl,hl,_⟩:=isAgg_spec h
  cases hd with
  |agg _ vs hl2 _ hr=>exact ⟨hl,by simp[Value.cells,<-hl2,hl],λj c u h2 h3=>hr j c u h2 h3⟩
 |false=>
  simp at h h1
  let ⟨_,hc⟩:=leaf_val h hd
  have hdc:d.cells=[d]:=by
   cases d<;>first|rfl|(simp[D.leaf] at h)
  grind
theorem elemsT_live {s:St} (hs:SRel g s w) {i:TI}:∀(ps:List (Nat×T)) (vs:List (Nat×Value)) {es r:List D} {p:Prop} {os:List Nat},elemsT s i es ps=some (p,r,os)->p->PW (PartRel g w) ps vs->
  ∀o∈os,Live g s o
 |[],_,es,r,p,os,h,hp,_=>by
  obtain ⟨_,rfl,rfl⟩:=h
  intro o ho
  cases ho
 |(k,t) ::ps,(k',v) ::vs,es,r,p,os,h,hp,hpw=>by
  obtain ⟨rfl,hv⟩:=hpw.2 0 _ _ rfl rfl
  have hrest:PW (PartRel g w) ps vs:=⟨by simpa using hpw.1,λj a b ha hb=>hpw.2 (j+1) a b (by simpa using ha) (by simpa using hb)⟩
  simp only[elemsT] at h
  split at h
  .cases h
  .rename_i q d os1 hd
   rcases cond_some h with ⟨hb,h⟩|⟨_,h⟩
   .simp only[Option.map_eq_some_iff,Prod.mk.injEq] at h
    obtain ⟨⟨p',r',os2⟩,hrec,rfl,rfl,rfl⟩:=h
    let ⟨a1,_⟩:=toD_sound hs t hd hp.1 hv
    have a2:=elemsT_live hs ps vs hrec hp.2.2 hrest
    intro o ho
    rcases List.mem_append.1 ho with ho|ho
    .exact a1 o ho
    .exact a2 o ho
   .cases h
 |_ ::_,[],_,_,_,_,_,_,hpw=>by simp[PW] at hpw
theorem elemsT_sound {s:St} (hs:SRel g s w) {sz:Nat} {ag:Bool} (h1:(ag||Nat.beq sz 1)=true) {g':Gh} {s':St} (hs':SRel g' s' w) (he:Ext s.fl g w g' w) :
  ∀(ps:List (Nat×T)) (vs:List (Nat×Value)) {es r:List D} {cells:Array Value} {p:Prop} {os:List Nat},elemsT s {(default:TI) with size:=sz,agg:=ag} es ps=some (p,r,os)->p->PW (PartRel g w) ps vs->
   Frozen s s' os->RowRel g'.imm w sz es cells->(∀o∈os,Live g s o)∧∃rs,Instr.fill (λi=>some (i*sz,sz)) cells vs=some rs∧RowRel g'.imm w sz r rs∧r.length=es.length
 |[],[],es,r,cells,p,os,h,hp,_,_,hr=>by
  obtain ⟨_,rfl,rfl⟩:=h
  exact ⟨λo ho=>(by cases ho),cells,rfl,hr,rfl⟩
 |(k,t) ::ps,(k',v) ::vs,es,r,cells,p,os,h,hp,hpw,hfr,hr=>by
  obtain ⟨rfl,hv⟩:=hpw.2 0 _ _ rfl rfl
  simp only at hv
  have hrest:PW (PartRel g w) ps vs:=⟨by simpa using hpw.1,λj a b ha hb=>hpw.2 (j+1) a b (by simpa using ha) (by simpa using hb)⟩
  simp only[elemsT] at h
  split at h
  .cases h
  .rename_i q d os1 hd
   rcases cond_some h with ⟨hb,h⟩|⟨_,h⟩
   .simp only[Option.map_eq_some_iff,Prod.mk.injEq] at h
    obtain ⟨⟨p',r',os2⟩,hrec,rfl,rfl,rfl⟩:=h
    have hlt:k<es.length:=by
     simp_all[lenL_eq]
    let ⟨a1,a2⟩:=toD_sound hs t hd hp.1 hv
    have z1:Frozen s s' os1:=hfr.sub (λo ho=>List.mem_append_left _ ho)
    have z2:Frozen s s' os2:=hfr.sub (λo ho=>List.mem_append_right _ ho)
    have hdr:=a2 g' s' hs' he z1
    let ⟨c1,c2,c3⟩:=elem_cells hp.2.1 h1 hdr
    have hbound:k*sz+sz<=cells.size:=by
     rw[hr.size]
     have:(k+1)*sz<=es.length*sz:=Nat.mul_le_mul_right _ hlt
     grind
    have hfold:=foldl_set (k*sz) v.cells.toList 0 cells (by simp_all)
    simp only[Nat.add_zero,Array.length_toList,c2] at hfold
    have hnew:RowRel g'.imm w sz (es.set k d) (cells.toList.take (k*sz)++v.cells.toList++cells.toList.drop (k*sz+sz)).toArray:=by
     refine ⟨?_,λx hx=>?_,λi j x c hx hj=>?_⟩
     .simp only[List.size_toArray,List.length_append,List.length_take,Array.length_toList,List.length_drop,c2,List.length_set,<-hr.size]
      omega
     .rcases List.mem_or_eq_of_mem_set hx with hx|rfl
      .exact hr.rows x hx
      .exact c1
     .rw[List.getElem?_set] at hx
      by_cases hki:k=i
      .subst hki
       rw[if_pos rfl,if_pos hlt] at hx
       simp at hx
       subst hx
       have hjs:j<sz:=by grind
       refine ⟨v.cells[j],?_,c3 j c _ hj (Array.getElem?_eq_getElem (by omega))⟩
       grind
      .rw[if_neg hki] at hx
       let ⟨u,hu,hd⟩:=hr.rel i j x c hx hj
       have hjs:j<sz:=by rw[<-hr.rows x (List.mem_of_getElem? hx)];grind
       refine ⟨u,?_,hd⟩
       rw[List.getElem?_toArray,List.getElem?_append,List.getElem?_append]
       rcases Nat.lt_or_gt_of_ne (λe=>hki e.symm:i≠k) with hik|hik
       .have:(i+1)*sz<=k*sz:=Nat.mul_le_mul_right _ hik
        grind
       .have:(k+1)*sz<=i*sz:=Nat.mul_le_mul_right _ hik
        grind
    let ⟨b1,rs,b2,b3,b4⟩:=elemsT_sound hs h1 hs' he ps vs hrec hp.2.2 hrest z2 hnew
    refine ⟨λo ho=>?_,rs,?_,b3,by rw[b4];simp⟩
    .grind
    .have hno:¬(v.cells.size≠sz||k*sz+v.cells.size>cells.size)=true:=by
      simp_all
     simp only[Instr.fill]
     rw[if_neg hno,<-b2,<-hfold]
     congr 1
     rw[<-Array.foldl_toList,Array.toList_zipIdx]
   .cases h
 |[],_ ::_,_,_,_,_,_,_,_,hpw,_,_=>by simp[PW] at hpw
 |_ ::_,[],_,_,_,_,_,_,_,hpw,_,_=>by simp[PW] at hpw
theorem by_le (d:D):d.by_<=24*d.cells.length:=by
 have hl:∀x:D,x.lby<=24:=by intro x;unfold D.lby;split<;>omega
 have hs:∀l:List D,D.sumBy l<=24*l.length:=by
  intro l
  induction l with
  |nil=>exact Nat.zero_le _
  |cons a l ih=>
   grind[D.sumBy]
 cases d with
 |agg cs=>exact hs cs
 |lit v=>
  unfold D.by_
  have:(D.lit v).cells.length=1:=rfl
  rw[this]
  split<;>first|omega|exact hl _|simp_all
 |sl es=>exact hl (.sl es)
 |ifc t d=>exact hl (.ifc t d)
 |tup ds=>exact hl (.tup ds)
 |pt d=>exact hl (.pt d)
 |mp k v=>exact hl (.mp k v)
theorem RowRel.drel {I:Nat->Prop} {sz:Nat} {es:List D} {cells:Array Value} (h:RowRel I w sz es cells) {b:Nat} {ty:TypeId} {fz:Nat×Nat} (hb:w.heap[b]?=some (.cells cells ty fz)) (hI:I b) {cap:Nat} (hcap:es.length<=cap)
  (hby:∀d∈es,es.length*d.by_<=281474976710656):DRel I w (.sl es) (.slice (some ⟨b,0,none⟩) es.length cap):=by
 have hex:∀q:Nat×Nat,∃v,∀d c,es[q.1]?=some d->d.cells[q.2]?=some c->cells[q.1*sz+q.2]?=some v∧DRel I w c v:=by
  rintro ⟨i,j⟩
  by_cases hi:i<es.length
  .by_cases hj:j<(es[i]).cells.length
   .let ⟨v,hv,hr⟩:=h.rel i j _ _ (List.getElem?_eq_getElem hi) (List.getElem?_eq_getElem hj)
    refine ⟨v,λd c hd hc=>?_⟩
    grind
   .refine ⟨undef,λd c hd hc=>?_⟩
    simp_all
  simp_all
 let ⟨val,hval⟩:=Classical.axiomOfChoice hex
 refine .sl es _ cap sz (λi j=>val (i,j)) hcap h.rows hby (λ_=>⟨_,rfl,hI,λi j d c hd hj=>?_⟩) (λi j d c hd hj=>(hval (i,j) d c hd hj).2)
 rw[add_mk,cell?_of_block hb]
 simp_all
theorem zval_drel {I:Nat->Prop} {d:D} {v:Value} (h:ZVal d v):DRel I w d v:=by
 rcases h with ⟨rfl,rfl⟩|rfl
 .exact .sl [] none 0 0 (λ_ _=>undef) (by simp) (by simp) (by simp) (λh=>absurd rfl h) (λi j d c h=>by simp at h)
 .exact .lit _
theorem RowRel.mono {I I':Nat->Prop} {w w':World} {sz:Nat} {es:List D} {cells:Array Value} (h:RowRel I w sz es cells) (hk:Keeps I w w') (hI:∀b,I b->I' b):RowRel I' w' sz es cells:=
 ⟨h.size,h.rows,λi j d c hd hj=>let ⟨v,hv,hr⟩:=h.rel i j d c hd hj;⟨v,hv,hr.mono hk hI⟩⟩
theorem zero_row {I:Nat->Prop} {ag:Bool} {sz len:Nat} {zero:List D} {cells:Array Value} (hz:ZOk zero cells) (h1:(ag||Nat.beq sz 1)=true) (hl:lenL zero=sz) :
  RowRel I w sz (List.replicate len (bif ag then .agg zero else zero.getD 0 default)) ((Array.range (len*sz)).map (cells[·%cells.size]!)):=by
 rw[lenL_eq] at hl
 have hcs:cells.size=sz:=by rw[<-hz.1,hl]
 have hd:(bif ag then D.agg zero else zero.getD 0 default).cells=zero:=by
  cases ag with
  |true=>rfl
  |false=>
   simp at h1
   have hl1:zero.length=1:=by rw[hl,h1]
   match zero,hl1 with
   |[d],_=>
    have:=hz.2 0 d cells[0] rfl (Array.getElem?_eq_getElem (by omega))
    rcases this with ⟨h,_⟩|h<;>(rw[h];rfl)
 refine ⟨by simp,λd hd'=>?_,λi j d c hi hj=>?_⟩
 .rw[List.eq_of_mem_replicate hd',hd,hl]
 .have hi':i<len:=by grind
  have hdd:d=(bif ag then D.agg zero else zero.getD 0 default):=List.eq_of_mem_replicate (List.mem_of_getElem? hi)
  rw[hdd,hd] at hj
  have hjs:j<sz:=by grind
  have hlt:i*sz+j<len*sz:=by
   have:(i+1)*sz<=len*sz:=Nat.mul_le_mul_right _ hi'
   grind
  refine ⟨cells[j]'(by omega),?_,zval_drel (hz.2 j c _ hj (Array.getElem?_eq_getElem (by omega)))⟩
  have hm:(i*sz+j)%cells.size=j:=by
   rw[hcs,Nat.mul_comm,Nat.mul_add_mod,Nat.mod_eq_of_lt hjs]
  simp[hlt,hm]
  rw[getElem!_pos cells j (by omega)]
theorem buildSlice_sound {ty:TypeId} {i:TI} (hi:TIok P ty i) {s s1:St} (hs:SRel g s w) {sz bt len:Nat} {ag:Bool} {zero:List D} (hk:i.kd=.slice sz ag bt zero) (h1:(ag||Nat.beq sz 1)=true) (hzl:lenL zero=sz) (h0:sz≠0)
  (hlen:len*sz<=16777216) {ps:List (Nat×T)} {vs:Array (Nat×Value)} (hpw:PW (PartRel g w) ps vs.toList) {p:Prop} {es:List D} {os:List Nat}
  (h:elemsT s {(default:TI) with size:=sz,agg:=ag} (List.replicate len (bif ag then .agg zero else zero.getD 0 default)) ps=some (p,es,os)) (hp:p) (hf:freeze s os=some s1) :
  ∃w' g' v,(Instr.buildSlice ty len vs).run P w=.ok v w'∧SRel g' s1 w'∧Ext s.fl g w g' w'∧TRel g' w' (.clp len es) v∧s1.fl=s.fl∧s1.nob=s.nob:=by
 let ⟨xi,d1,z,hxi,hu1,_,hag,hzx,hzok,hk1⟩:=hi.all
 rw[hk] at hk1
 obtain ⟨e,j,d',z',rfl,hj,hjs,hue,hage,hjz,hz',_,_,_⟩:=hk1
 have live:=elemsT_live hs ps vs.toList h hp hpw
 let ⟨g1,hs1,he1,hfr⟩:=freeze_sound os hs hf live
 let ⟨_,rs,hfill,hrow,hrl⟩:=elemsT_sound hs h1 hs1 he1 ps vs.toList h hp hpw hfr (zero_row hz' h1 hzl)
 have hle:es.length=len:=by rw[hrl];simp
 let ⟨hs2,he2⟩:=hs1.newImm (w':=w.alloc (.cells rs e)) (.cells rs e) rfl rfl rfl
 have hrow2:=hrow.mono (he2.keeps hs1.imm) he2.imm
 have hd:=hrow2.drel (cap:=es.length) (alloc_new w _) (.inr rfl) (Nat.le_refl _) (λd hd=>by
  have h3:=by_le d
  rw[hrow.rows d hd] at h3
  have h4:es.length*d.by_<=len*(24*sz):=by simp_all[Nat.mul_le_mul_left]
  grind)
 refine ⟨_,_,.slice (some ⟨w.heap.size,0,none⟩) es.length es.length,?_,hs2,(hfr.fl▸he1.trans (hfr.fl▸he2)),.clp len es _ (by omega) hd,hfr.fl,hfr.nob⟩
 have hno:¬(len*sz>2 ^ 24):=by omega
 by_cases hl0:len*sz=0
 .have hl00:len=0:=by
   grind[Nat.mul_eq_zero]
  subst hl00
  simp at hfill
  have hr0:(Array.range 0).map (λx=>z'.cells[x%z'.cells.size]!)=#[]:=by simp
  rw[hr0] at hfill
  have he0:es.length=0:=hle
  have hr1:Array.range 0=#[]:=by simp
  simp[hr1,Instr.buildSlice,run_underlying' hu1,run_sizeOf' hj,hjs,hfill,newRow,he0]
 .simp[Instr.buildSlice,run_underlying' hu1,run_sizeOf' hj,hjs,run_zeroValue' hj hjz,hno,hl0,hfill,newRow,hle]
end
end TL
end
section
namespace TL
open Go
section
variable {P:Program} {g:Gh} {w:World}
structure VRow (I:Nat->Prop) (w:World) (sz:Nat) (es:List D) (vals:List Value):Prop where
 len:vals.length=es.length*sz
 rows:∀d∈es,d.cells.length=sz
 rel:∀i j d c,es[i]?=some d->d.cells[j]?=some c->∃v,vals[i*sz+j]?=some v∧DRel I w c v
theorem idx_lt {i j n sz:Nat} (hi:i<n) (hj:j<sz):i*sz+j<n*sz:=by
 have:(i+1)*sz<=n*sz:=Nat.mul_le_mul_right _ hi
 grind
theorem idx_div {i j sz:Nat} (hj:j<sz):(i*sz+j)/sz=i∧(i*sz+j)%sz=j:=by
 grind[Nat.mul_comm,Nat.mul_add_div,Nat.div_eq_of_lt,Nat.mul_add_mod,Nat.mod_eq_of_lt]
def rowVals (sz n:Nat) (val:Nat->Nat->Value):List Value:=(List.range (n*sz)).map λk=>val (k/sz) (k%sz)
theorem rowVals_get {sz n:Nat} {val:Nat->Nat->Value} {i j:Nat} (hi:i<n) (hj:j<sz):(rowVals sz n val)[i*sz+j]?=some (val i j):=by
 grind[idx_div,rowVals,idx_lt]
theorem rowVals_some {sz n:Nat} {val:Nat->Nat->Value} {k:Nat} {v:Value} (h0:0<sz) (h:(rowVals sz n val)[k]?=some v):∃i j,i<n∧j<sz∧k=i*sz+j∧v=val i j:=by
 simp[rowVals,List.getElem?_map,Option.map_eq_some_iff] at h
 obtain ⟨k',hk,rfl⟩:=h
 obtain ⟨rfl,hlt⟩:=range_some hk
 refine ⟨k/sz,k%sz,Nat.div_lt_of_lt_mul (by grind),Nat.mod_lt _ h0,?_,rfl⟩
 grind[Nat.div_add_mod]
theorem slT_cells {s:St} (hs:SRel g s w) {t:T} {v:Value} {p:Prop} {es:List D} (h:slT s t=some (p,es)) (hp:p) (ht:TRel g w t v) {sz:Nat} (h0:0<sz) (hrows:D.rows es sz) :
  ∃a cap,v=.slice a es.length cap∧es.length<=cap∧(∀d∈es,es.length*d.by_<=281474976710656)∧
   (es≠[]->∃ad val,a=some ad∧(g.imm ad.block∨∃o,ownSl t=[o]∧Owned g o ad.block)∧
    (∀i j,i<es.length->j<sz->w.cell? (ad.add (i*sz+j))=some (val i j))∧VRow g.imm w sz es (rowVals sz es.length val)):=by
 have data:∀{v:Value},DRel g.imm w (.sl es) v->∃a cap,v=.slice a es.length cap∧es.length<=cap∧(∀d∈es,es.length*d.by_<=281474976710656)∧
   (es≠[]->∃ad val,a=some ad∧(g.imm ad.block∨∃o,ownSl t=[o]∧Owned g o ad.block)∧
    (∀i j,i<es.length->j<sz->w.cell? (ad.add (i*sz+j))=some (val i j))∧VRow g.imm w sz es (rowVals sz es.length val)):=by
  intro v hd
  obtain ⟨a,cap,rfl,hcap,hby,hrest⟩:=drel_sl hd
  refine ⟨a,cap,rfl,hcap,hby,λhne=>?_⟩
  obtain ⟨ad,sz',rfl,hsz,him,val,hc,hr⟩:=hrest hne
  have hss:sz'=sz:=by
   obtain ⟨d,ds,rfl⟩:=List.exists_cons_of_ne_nil hne
   rw[<-hsz d (by simp),hrows d (by simp)]
  subst hss
  have hcell:∀i j (hi:i<es.length) (hj:j<sz'),(es[i]).cells[j]?=some ((es[i]).cells[j]'(by rw[hsz _ (List.getElem_mem hi)];exact hj)):=λi j hi hj=>List.getElem?_eq_getElem _
  refine ⟨ad,val,rfl,.inl him,λi j hi hj=>hc i j _ _ (List.getElem?_eq_getElem hi) (hcell i j hi hj),⟨by simp[rowVals],hsz,λi j d c hd hj=>?_⟩⟩
  have hi:=getElem?_isSome_lt hd
  have hj':j<sz':=by rw[<-hsz d (List.mem_of_getElem? hd)];exact getElem?_isSome_lt hj
  exact ⟨val i j,rowVals_get hi hj',hr i j d c hd hj⟩
 cases ht with
 |emp a=>
  obtain ⟨_,rfl⟩:=h
  exact ⟨a,0,rfl,Nat.le_refl _,by simp,λh=>absurd rfl h⟩
 |clp n es' a hn hd=>
  obtain ⟨_,rfl⟩:=h
  exact data hd
 |cln j d c a hj hd=>
  obtain ⟨_,rfl⟩:=h
  exact data (cln_data hj hd)
 |sym d v hd=>
  obtain ⟨rfl,rfl⟩:=h
  rw[D.isSl_spec hp] at hd
  exact data hd
 |sh o e len cap sz2 a hx=>
  have key:∃fz sz',s.ob.get o=some (arrOb fz sz' es e):=by
   simp[slT] at h
   split at h
   .rename_i sz' es' era ho
    rcases cond_some h with ⟨hb,h⟩|⟨_,h⟩
    .have hee:=beq_iff'.1 hb
     simp only[Option.some.injEq,Prod.mk.injEq] at h
     exact ⟨false,sz',by rw[ho,h.2,hee];rfl⟩
    .cases h
   .rename_i sz' es' era ho
    rcases cond_some h with ⟨hb,h⟩|⟨_,h⟩
    .have hee:=beq_iff'.1 hb
     simp only[Option.some.injEq,Prod.mk.injEq] at h
     exact ⟨true,sz',by rw[ho,h.2,hee];rfl⟩
    .cases h
   .cases h
  let ⟨fz,sz',ho⟩:=key
  let ⟨hok,hszz⟩:=hs.arrNow ho hx
  have h1:=hok.len
  have h2:=hok.cap
  simp only at h1 h2
  refine ⟨a,cap,by rw[h1],by omega,hok.byt,λhne=>?_⟩
  have hpos:0<es.length:=List.length_pos_iff.2 hne
  let ⟨b,vs,ty,hab,hfz,hh,hcs,hcells⟩:=hok.mem (by simp only;omega)
  subst hab
  have hss:sz'=sz:=by
   obtain ⟨d,ds,rfl⟩:=List.exists_cons_of_ne_nil hne
   rw[<-hok.rows d (by simp),hrows d (by simp)]
  subst hss
  have hcs':cap*sz'<=vs.size:=hcs
  have hvs:∀i j,i<es.length->j<sz'->i*sz'+j<vs.size:=λi j hi hj=>by
   have:=idx_lt (show i<cap by omega) hj
   omega
  refine ⟨⟨b,0,none⟩,λi j=>vs.getD (i*sz'+j) undef,rfl,?_,λi j hi hj=>?_,⟨by simp[rowVals],hok.rows,λi j d c hd hj=>?_⟩⟩
  .by_cases him:g.imm b
   .exact .inl him
   .exact .inr ⟨o,rfl,him,.inr ⟨e,_,_,hx,rfl,rfl,by simp only;omega⟩⟩
  .rw[add_mk,cell?_of_block hh]
   have:=hvs i j hi hj
   simp[this]
  .have hi:=getElem?_isSome_lt hd
   have hj':j<sz':=by rw[<-hok.rows d (List.mem_of_getElem? hd)];exact getElem?_isSome_lt hj
   let ⟨u,hu,hr⟩:=hcells i d j c hd hj
   refine ⟨u,?_,hr⟩
   rw[rowVals_get hi hj']
   simp[hu]
 |_=>simp[slT] at h
theorem VRow.one {I:Nat->Prop} {sz:Nat} {es:List D} {vals:List Value} (h:VRow I w sz es vals) (h0:0<sz) (hf:∀d∈es,d.flat=true):∀v∈vals,v.oneCell'=true:=by
 intro v hv
 obtain ⟨k,hk,rfl⟩:=List.getElem_of_mem hv
 have hk':k<es.length*sz:=by rw[<-h.len];exact hk
 have hi:k/sz<es.length:=Nat.div_lt_of_lt_mul (by grind)
 have hj:k%sz<sz:=Nat.mod_lt _ h0
 have hmem:=List.getElem_mem hi
 have hjl:k%sz<(es[k/sz]).cells.length:=by rw[h.rows _ hmem];exact hj
 let ⟨u,hu,hr⟩:=h.rel (k/sz) (k%sz) _ _ (List.getElem?_eq_getElem hi) (List.getElem?_eq_getElem hjl)
 grind[Nat.div_add_mod,D.flat,leaf_val,List.getElem_mem]
theorem VRow.append {I:Nat->Prop} {sz:Nat} {es es':List D} {vals vals':List Value} (h:VRow I w sz es vals) (h':VRow I w sz es' vals'):VRow I w sz (es++es') (vals++vals'):=by
 refine ⟨by simp[h.len,h'.len,Nat.add_mul],λd hd=>?_,λi j d c hd hj=>?_⟩
 .rcases List.mem_append.1 hd with hd|hd
  .exact h.rows d hd
  .exact h'.rows d hd
 .rw[List.getElem?_append] at hd
  by_cases hi:i<es.length
  .rw[if_pos hi] at hd
   let ⟨v,hv,hr⟩:=h.rel i j d c hd hj
   grind
  .rw[if_neg hi] at hd
   let ⟨v,hv,hr⟩:=h'.rel (i-es.length) j d c hd hj
   refine ⟨v,?_,hr⟩
   have hge:es.length*sz<=i*sz:=Nat.mul_le_mul_right _ (by omega)
   rw[List.getElem?_append,if_neg (by rw[h.len];omega),h.len]
   grind[Nat.sub_mul]
theorem VRow.nil {I:Nat->Prop} {sz:Nat}:VRow I w sz [] []:=⟨by simp,by simp,λi j d c h=>by simp at h⟩
theorem VRow.mono {I I':Nat->Prop} {w w':World} {sz:Nat} {es:List D} {vals:List Value} (h:VRow I w sz es vals) (hk:Keeps I w w') (hI:∀b,I b->I' b):VRow I' w' sz es vals:=
 ⟨h.len,h.rows,λi j d c hd hj=>let ⟨v,hv,hr⟩:=h.rel i j d c hd hj;⟨v,hv,hr.mono hk hI⟩⟩
theorem slT_src {s:St} (hs:SRel g s w) {t:T} {v:Value} {p:Prop} {es:List D} (h:slT s t=some (p,es)) (hp:p) (ht:TRel g w t v) {sz:Nat} (h0:0<sz) (hrows:D.rows es sz) (hf:∀d∈es,d.flat=true)
  {tx e':TypeId} (hk:P.underlying tx=some (.slice e')):∃news,Src P sz tx v es.length news w∧VRow g.imm w sz es news∧Builtin.lenOf v=Sem.pure es.length:=by
 obtain ⟨a,cap,rfl,hcap,hby,hrest⟩:=slT_cells hs h hp ht h0 hrows
 by_cases hne:es=[]
 .subst hne
  refine ⟨[],?_,.nil,rfl⟩
  cases a with
  |none=>exact Src.ofNil w hk cap
  |some ad=>grind[Src.ofSlice]
 .obtain ⟨ad,val,rfl,_,hc,hv⟩:=hrest hne
  refine ⟨_,Src.ofSlice w hk ad es.length cap _ hv.len (λk u hu=>?_) (hv.one h0 hf),hv,rfl⟩
  obtain ⟨i,j,hi,hj,rfl,rfl⟩:=rowVals_some h0 hu
  grind
theorem holdsV_of_cells {ad:Addr} {n:Nat} (hn:0<n) (h:∀k,k<n->(w.cell? (ad.add k)).isSome=true):Room.holdsV w ad n=true:=by
 have hlast:=h (n-1) (by omega)
 have h0:=h 0 hn
 rw[add_zero'] at h0
 unfold World.cell? at hlast h0
 rw[add_block] at hlast
 unfold Room.holdsV World.shape?
 cases hb:w.heap[ad.block]? with
 |none=>grind
 |some o=>
  cases o with
  |cells c e fr=>
   have hs2:(ad.add (n-1)).spot.isSome=false:=by
    grind
   have hoff:(ad.add (n-1)).off=ad.off+(n-1):=by
    unfold Addr.add
    split<;>simp_all
   have:ad.spot.isNone=true:=by cases hh:ad.spot<;>simp_all
   grind
  |_=>simp[hb] at h0
theorem runT_mayShare_apart (size n m b:Nat) (cur:Array Value) (e:TypeId) (hg:w.heap[b]?=some (.cells cur e (0,0))) (hle:n*size<=cur.size)
  (ad:Addr) (c:Nat) (hne:b≠ad.block) (hx:Room.holdsV w ad (m*size)=true) :
  (Builtin.mayShare size n m (some ⟨b,0,none⟩) (.slice (some ad) m c)).runT P w #[]=(.ok false w,#[]):=by
 have hv:Room.holdsV w ⟨b,0,none⟩ (n*size)=true:=by grind[Room.holdsV,World.shape?]
 have hf:w.frozen? ((⟨b,0,none⟩:Addr).add (n/2*size))=false:=by
  grind[Addr.add,World.frozen?]
 simp[-Sem.runT_eq,Builtin.mayShare,Room.Sem.bind_def,frozen,Sem.runT,Room.Sem.runT_bind,Room.runT_holdsCells',Room.Sem.runT_pure',hv,hx,hf,hne]
def AppOr (P:Program) (t tx rt:TypeId) (vx vy:Value) (w:World) (R:Value->World->Prop):Prop:=
 ∃v w',(Builtin.append_ #[t,tx] rt #[vx,vy]).run P w=.ok v w'∧R v w'
theorem app_grow {ty tx rt e e':TypeId} {j:TypeInfo} {z:Value} (hu:P.underlying ty=some (.slice e)) (_hut:P.underlying tx=some (.slice e')) (hj:P.info? e=some j) (hz:j.zero=some z) (hb0:0<j.bytes)
  {base:Option Addr} {len cap n:Nat} {olds news:List Value} {vy:Value} (hold:(Builtin.firstCells j.size len (.slice base len cap)).run P w.drew=.ok olds.toArray w.drew)
  (hs:Src P j.size tx vy n news w) (hg:cap<len+n) (hp:Builtin.nextslicecap (len+n) cap*j.bytes<=281474976710656) :
  AppOr P ty tx rt (.slice base len cap) vy w λv w'=>∃cap',v=.slice (some ⟨w.heap.size,0,none⟩) (len+n) cap'∧len+n<=cap'∧
   w'=w.drew.alloc (.cells ((olds++news).toArray++Builtin.zeroCells z.cells (cap'-(len+n))) e):=by
 have hnb:(len+n)*j.bytes<=281474976710656:=Nat.le_trans (Nat.mul_le_mul_right _ (le_nextslicecap (by omega))) hp
 have h63:((len+n:Nat):Int)<=9223372036854775807:=by
  have:len+n<=(len+n)*j.bytes:=Nat.le_mul_of_pos_right _ hb0
  omega
 have hrun:=run_append_grow_src (P:=P) w ty tx rt e j z hu hj hz base len cap olds hold vy n news hs hg h63 hp
 exact ⟨_,_,hrun,_,rfl,grownCap_ge w (len+n) cap e,rfl⟩
theorem app_none {ty tx rt e:TypeId} {j:TypeInfo} (hu:P.underlying ty=some (.slice e)) (hj:P.info? e=some j) {base:Option Addr} {len cap:Nat} {vy:Value} (hs:Src P j.size tx vy 0 [] w) (hlc:len<=cap) :
  (Builtin.append_ #[ty,tx] rt #[.slice base len cap,vy]).run P w=.ok (.slice base len cap) w:=by
 rcases hs.kind with ⟨e',hk⟩|hk<;>cases base<;>
  simp[Builtin.append_,run_underlying' hu,run_underlying' hk,run_sizeOf' hj,hs.len,hlc,hs.cells,storeCells]
end
end TL
end
