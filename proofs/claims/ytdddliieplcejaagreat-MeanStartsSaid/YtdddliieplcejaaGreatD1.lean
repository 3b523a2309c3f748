import GoSem.Dispatch
import GoSem.Machine.Return
import Derived.Calls
import Derived.RowKit
import Derived.WalkKit
import Derived.Deep.AppendSrc
import Derived.Laws.StructEq
import Derived.Room.AppendAny
import Derived.RangeFuncIn
import Derived.RangeFuncLeaves
import Derived.RangeFuncRecord
import Derived.Orders
set_option linter.all false
set_option maxRecDepth 100000
set_option maxHeartbeats 0
noncomputable section
section
namespace TL
section
abbrev bf:=@Option.some.injEq
abbrev bB:=@Prod.mk.injEq
abbrev eA:=@Option.map_eq_some_iff
abbrev gm:=@List.getElem?_eq_getElem
abbrev bw:=@if_neg
abbrev fQ:=@Nat.le_of_ble_eq_true
abbrev eE:=@Bool.and_eq_true
abbrev bL:=@if_pos
abbrev gL:=@List.mem_cons_of_mem
abbrev iW:=@List.mem_append_right
abbrev dy:=@Nat.lt_of_lt_of_le
abbrev bT:=@Nat.le_refl
abbrev eJ:=@List.mem_append_left
abbrev eC:=@List.mem_cons_self
abbrev dX:=@Option.map_some
abbrev eg:=@List.mem_append
abbrev eI:=@Option.some.inj
abbrev fI:=@List.length_cons
abbrev gW:=@List.mem_of_getElem?
abbrev fH:=@Int.natCast_add
abbrev fJ:=@Int.natCast_one
abbrev gr:=@List.all_eq_true
abbrev fc:=@List.mem_cons
abbrev gQ:=@List.getElem?_map
abbrev dM:=@cond_true
abbrev jg:=@List.length_append
abbrev fS:=@Nat.le_trans
abbrev iC:=@decide_eq_false
abbrev lI:=@List.getElem?_append
abbrev oN:=@Array.getElem?_eq_getElem
abbrev ig:=@decide_eq_true
abbrev pQ:=@List.getD_eq_getElem?_getD
abbrev iL:=@Bool.true_and
abbrev nT:=@Nat.eq_of_beq_eq_true
abbrev jr:=@Bool.false_and
abbrev mq:=@List.mem_singleton
abbrev eO:=@if_false
abbrev gE:=@cond_false
abbrev tW:=@List.getElem?_eq_some_iff
abbrev lB:=@List.append_nil
abbrev lA:=@Bool.or_eq_true
abbrev qC:=@List.length_singleton
abbrev sr:=@List.getElem?_cons_zero
abbrev sq:=@Option.bind_eq_some_iff
abbrev ju:=@Nat.zero_add
abbrev so:=@List.pairwise_append
abbrev AJ:=@List.eq_nil_of_length_eq_zero
abbrev fR:=@if_true
abbrev lZ:=@List.map_cons
abbrev qA:=@decide_eq_true_eq
abbrev uw:=@List.getElem_of_mem
abbrev sn:=@List.append_assoc
abbrev wB:=@Nat.mul_le_mul_right
abbrev wA:=@Bool.or_eq_false_iff
abbrev zj:=@List.singleton_append
abbrev wz:=@List.mem_filterMap
abbrev zi:=@List.contains_eq_mem
abbrev xO:=@List.getElem?_take
abbrev AI:=@Bool.and_eq_true_iff
abbrev Jv:=@List.mem_zipIdx_iff_getElem?
abbrev Ju:=@Array.getElem?_eq_some_iff
abbrev xN:=@List.nil_append
abbrev GO:=@Nat.ble_eq_true_of_le
abbrev nB:=@congrArg
abbrev CH:=@of_decide_eq_true
abbrev DZ:=@List.getElem?_drop
abbrev zh:=@Nat.testBit_or
abbrev AH:=@List.length_set
abbrev AG:=@List.length_nil
abbrev GN:=@Array.toList_append
abbrev Jt:=@List.getElem?_eq_none
abbrev Js:=@List.getElem?_zipWith
abbrev LL:=@decide_eq_false_iff_not
abbrev xM:=@Nat.mul_comm
abbrev LK:=@List.getElem?_set_self
abbrev GM:=@List.getElem?_set
abbrev GL:=@Bool.not_eq_true'
abbrev zg:=@List.mem_map
abbrev LJ:=@List.getElem?_set_ne
abbrev GK:=@List.getElem_mem
abbrev Jr:=@Int.toNat_natCast
abbrev LI:=@List.length_pos_iff
abbrev LH:=@Int.toNat_of_nonneg
abbrev On:=@List.getElem?_toArray
abbrev Jq:=@Option.bind_some
abbrev Jp:=@Option.getD_some
abbrev DY:=@Bool.and_true
abbrev SL:=@Classical.axiomOfChoice
abbrev Vh:=@Array.getD_eq_getD_getElem?
abbrev Jo:=@List.length_map
abbrev CG:=@Nat.add_mul
abbrev LG:=@List.length_take
abbrev LF:=@List.length_drop
abbrev Om:=@Int.add_sub_cancel
abbrev Vg:=@List.mem_or_eq_of_mem_set
abbrev DX:=@Nat.one_mul
abbrev SK:=@List.getElem?_of_mem
abbrev LD:=@List.foldl_cons
abbrev SJ:=@List.getElem?_range
abbrev SI:=@Array.length_toList
abbrev Md:=@List.length_eq_one_iff
abbrev wZ:=@Nat.zero_le
abbrev zm:=@Nat.lt_or_ge
abbrev zl:=@Nat.le_of_eq
abbrev Mc:=@List.take_append_drop
abbrev Mb:=@Array.getElem?_toList
abbrev Q3:=@List.exists_cons_of_ne_nil
abbrev HU:=@List.nodup_append
abbrev Q2:=@List.pairwise_iff_getElem
abbrev Q1:=@List.drop_eq_getElem_cons
abbrev Q0:=@Option.filter_eq_some_iff
abbrev QZ:=@List.getElem?_append_left
abbrev Ee:=@Bool.and_false
abbrev HT:=@List.take_length
abbrev Ma:=@List.map_congr_left
abbrev VF:=@Array.getElem?_setIfInBounds_ne
abbrev ru:=@Iff.rfl
abbrev Ed:=@List.all_cons
abbrev zk:=@Nat.not_le
abbrev LZ:=@List.ext_getElem?
abbrev LY:=@List.size_toArray
abbrev LX:=@List.any_eq_false
abbrev Ec:=@Nat.add_zero
abbrev QY:=@Array.getElem?_append
abbrev HS:=@Option.map_map
abbrev QX:=@Nat.div_lt_of_lt_mul
abbrev LW:=@List.any_eq_true
abbrev BW:=@Nat.not_lt
abbrev HR:=@Bool.and_self
abbrev VE:=@List.getElem?_append_right
abbrev Eb:=@Nat.le_succ
abbrev QW:=@Array.getElem?_push
abbrev LV:=@List.map_append
abbrev LU:=@List.cons.injEq
abbrev VD:=@List.extract_eq_take_drop
abbrev VC:=@Classical.byContradiction
abbrev LS:=@List.all_append
abbrev HQ:=@Nat.beq_refl
abbrev HP:=@List.map_set
abbrev VB:=@List.eq_of_mem_replicate
abbrev HO:=@List.map_nil
abbrev Ea:=@Array.ext'
abbrev LR:=@Nat.mul_le_mul
abbrev LQ:=@List.drop_drop
abbrev Vy:=@Array.toList_eq_nil_iff
abbrev Vx:=@List.pairwise_singleton
abbrev QV:=@List.flatMap_cons
abbrev Vw:=@List.getElem_cons_zero
abbrev LP:=@Nat.mul_assoc
abbrev LN:=@Bool.not_true
abbrev LM:=@Bool.false_or
abbrev QU:=@Option.bind_none
abbrev QT:=@Array.toList_map
open Go
inductive Tr(α:Type) where
 |nil
 |node (v:Option α) (l r:Tr α)
 deriving Inhabited
namespace Tr
variable {α:Type}
def get:Tr α->Nat->Option α
 | .nil,_=>none
 | .node v l r,k=>match k with
  |0=>v
  |k+1=>match Nat.beq (Nat.mod k 2) 0 with
   |true=>l.get (Nat.div k 2)
   |false=>r.get (Nat.div k 2)
def set:Nat->Tr α->Nat->α->Tr α
 |0,t,_,_=>t
 |n+1,.nil,k,x=>match k with
  |0=>.node (some x) .nil .nil
  |k+1=>match Nat.beq (Nat.mod k 2) 0 with
   |true=>.node none (set n .nil (Nat.div k 2) x) .nil
   |false=>.node none .nil (set n .nil (Nat.div k 2) x)
 |n+1,.node v l r,k,x=>match k with
  |0=>.node (some x) l r
  |k+1=>match Nat.beq (Nat.mod k 2) 0 with
   |true=>.node v (set n l (Nat.div k 2) x) r
   |false=>.node v l (set n r (Nat.div k 2) x)
end Tr
def nD:IntKind->IntKind->Bool
 | .i8,.i8|.i16,.i16|.i32,.i32|.i64,.i64|.u8,.u8|.u16,.u16|.u32,.u32|.u64,.u64=>true
 |_,_=>false
def cA{α:Type}:List α->Nat
 |[]=>0
 |_::l=>Nat.succ (cA l)
def nth{α:Type}:List α->Nat->Option α
 |[],_=>none
 |a::_,0=>some a
 |_::l,k+1=>nth l k
inductive D where
 |lit (v:Value)
 |sl (es:List D)
 |agg (cs:List D)
 |cR (t:TypeId) (d:D)
 |gq (ds:List D)
 deriving Inhabited
namespace D
def toInt:D->Int|.lit (.int _ n)=>n|_=>0
def isInt(k:IntKind):D->Bool|.lit (.int j _)=>nD j k|_=>false
def toBool:D->Bool|.lit (.bool b)=>b|_=>false
def isBool:D->Bool|.lit (.bool _)=>true|_=>false
def toStr:D->ByteArray|.lit (.string b)=>b|_=>.empty
def isStr:D->Bool|.lit (.string _)=>true|_=>false
def ac0:D->List D|.sl es=>es|_=>[]
def ahn:D->Bool|.sl _=>true|_=>false
def cells:D->List D|.agg cs=>cs|d=>[d]
def cell(d:D)(j:Nat):D:=d.cells.getD j (.lit (.tuple #[]))
def leaf:D->Bool
 | .agg _|.gq _=>false
 | .lit (.agg _)|.lit (.tuple _)=>false
 |_=>true
def isAgg(n:Nat):D->Bool|.agg cs=>Nat.beq (cA cs) n&&cs.all leaf|_=>false
def proj:D->Nat->D|.gq ds,k=>ds.getD k (.lit (.tuple #[]))|_,_=>.lit (.tuple #[])
def aeo(n:Nat):D->Bool|.gq ds=>Nat.blt n (cA ds)|_=>false
def aho:D->Bool|.cR _ _=>true|_=>false
def el(es:List D)(i:Nat):D:=es.getD i (.lit (.tuple #[]))
def len(es:List D):Int:=es.length
def GU(n:Int)(len:Int):Prop:=0<=n∧n<len
def cut(lo hi len:Int):Prop:=0<=lo∧lo<=hi∧hi<=len
def has(d:D)(m:Nat):Prop:=m<=d.cells.length
def wide(d:D)(m:Nat):Prop:=d.cells.length=m
def sub(es:List D)(lo hi:Int):List D:=(es.take hi.toNat).drop lo.toNat
def Zp(b:ByteArray)(lo hi:Int):ByteArray:=b.extract lo.toNat hi.toNat
def DL(b:ByteArray):Int:=b.size
def sat(b:ByteArray)(n:Int):Int:=(b.get! n.toNat).toNat
def Zq(a b:ByteArray):Prop:=a.size+b.size<=4611686018427387904
def U6(a b:ByteArray):ByteArray:=a++b
def app(a b:List D):List D:=a++b
def put(es:List D)(k:Nat)(d:D):List D:=es.set k d
def rows(es:List D)(sz:Nat):Prop:=∀d∈es,d.cells.length=sz
def lby:D->Nat
 | .lit (.string _)|.lit .nilIface|.cR _ _=>16
 | .sl _|.lit (.slice ..)=>24
 |_=>8
def m6:List D->Nat
 |[]=>0
 |d::l=>Nat.add d.lby (m6 l)
def qT:D->Nat
 | .agg cs=>m6 cs
 | .lit (.bool _)=>1
 | .lit (.int .i8 _)|.lit (.int .u8 _)=>1
 | .lit (.int .i16 _)|.lit (.int .u16 _)=>2
 | .lit (.int .i32 _)|.lit (.int .u32 _)=>4
 |d=>d.lby
def flat(d:D):Bool:=d.cells.all leaf
def UI(es:List D)(b:Nat):Prop:=∀d∈es,d.qT=b∧d.flat=true
def nat(n:Int):Nat:=n.toNat
def zero:Int:=0
def add(k:IntKind)(a b:Int):Int:=k.wrap (a+b)
def dN(k:IntKind)(a b:Int):Int:=k.wrap (a-b)
def mul(k:IntKind)(a b:Int):Int:=k.wrap (a*b)
def neg(k:IntKind)(a:Int):Int:=k.wrap (-a)
def conv(k:IntKind)(a:Int):Int:=k.wrap a
def rem(a b:Int):Int:=a.tmod b
def quo(k:IntKind)(a b:Int):Int:=k.wrap (a.tdiv b)
def nz(a:Int):Prop:=a≠0
def aO(a b:Int):Bool:=a==b
def beq(a b:Bool):Bool:=a==b
def seq(a b:ByteArray):Bool:=a==b
def bN(a b:Int):Bool:=decide (a<b)
def eu(a b:Int):Bool:=decide (a<=b)
def aiR(c a b:Bool):Bool:=if c then a else b
def aM(a:Bool):Bool:=!a
def ey(a b:Bool):Bool:=a&&b
def QA(d:D)(off:Nat)(l:List D):D:=match d with
 | .agg cs=>.agg (cs.take off++l++cs.drop (off+l.length))
 |d=>l.getD 0 d
def QG(d:D)(sz off n:Nat):Prop:=d.isAgg sz=true∨(d.leaf=true∧sz=1∧off=0∧n=1)
end D
inductive T where
 |sym (d:D)
 |kb (b:Bool)
 |kn (k:IntKind) (n:Int)
 |ptr (o off:Nat)
 |mV (d:D) (off:Nat)
 |kL (o e i off:Nat)
 |sh (o e:Nat)
 |emp
 |jI (n:Nat) (es:List D)
 |fn (f:Fn) (first cap:List T)
 |cR (t:TypeId) (v:T)
 |agg (cs:List T)
 |gq (vs:List T)
 |gd (c:Bool) (v:T)
 |mp (o:Nat)
 |rZ (o:Nat)
 |rY (o:Nat)
 |ub (e:Bool)
 |qF (o m r i:Nat)
 |n9 (j:Nat) (d:D)
 deriving Inhabited
inductive Df where
 |call (f:T) (args:List T)
 |mark (o:Nat)
 |bad
 deriving Inhabited
structure Fr where
 n:Nat
 tm:Tr T
 df:List Df:=[]
 deriving Inhabited
structure Lp where
 st:LoopState
 oO:Option Code
 fid:FuncId
 fr:Fr
 params:List Nat
 assign:Code
 body:Code
inductive Ob where
 |box (cs:List T)
 |arr (sz:Nat) (es:List D) (era:Nat)
 |kf (sz:Nat) (es:List D) (era:Nat)
 |map (es:List (T×T))
 |pO (b:ByteArray) (pos:Nat)
 |lp (l:Lp)
 |Av
 |kE (nj sz:Nat) (es:List D) (era m dg:Nat) (hole:Option Nat)
 |rws (sz:Nat) (dL:List (List D)) (dg:Nat)
 |gone
 deriving Inhabited
def Ob.oY:Ob->Bool
 | .arr ..|.kf ..|.kE ..|.rws ..|.gone=>true
 |_=>false
def Ob.isA:Ob->Bool
 | .arr ..|.kf ..=>true
 |_=>false
def Ob.odd:Ob->Bool
 | .map _|.pO _ _|.lp _|.Av=>true
 |_=>false
structure St where
 ob:Tr Ob
 aH:Nat
 fl:Nat
 lo:Nat
 deriving Inhabited
def aI:Nat:=64
def bA:Nat:=1000000000
def Fr.get(fr:Fr)(k:Nat):Option T:=fr.tm.get k
def Fr.put(fr:Fr)(k:Nat)(v:T):Fr:={fr with tm:=fr.tm.set aI k v}
def Fr.ij(fr:Fr)(k:Option Nat)(v:T):Fr:=match k with|some k=>fr.put k v|none=>fr
inductive Lk where
 |int (k:IntKind)|bool|str|no
 deriving DecidableEq,Inhabited
inductive Kd where
 |leaf (l:Lk)
 |ptr
 |slice (sz:Nat) (agg:Bool) (qT:Nat) (zero:List D)
 |struct (fs:List (Nat×Nat×Bool))
 |array (len sz:Nat) (agg:Bool)
 |iface
 |other
 deriving Inhabited
structure TI where
 size:Nat
 agg:Bool
 zero:List D
 YW:List Lk
 kd:Kd
 deriving Inhabited
structure NY where
 pre:List D->Prop
 f:List D->D
structure Env where
 P:Program
 ti:Nat->Option TI
 UG:Nat->Option Func
 Hh:Nat->Option NY
def Cd:Value->Option D
 | .bool b=>some (.lit (.bool b))
 | .int k n=>some (.lit (.int k n))
 | .string s=>some (.lit (.string s))
 | .pointer none=>some (.lit (.pointer none))
 | .map none=>some (.lit (.map none))
 | .nilFunc=>some (.lit .nilFunc)
 | .nilIface=>some (.lit .nilIface)
 | .tuple a=>match a.toList with
  |[]=>some (.lit (.tuple #[]))
  |_=>none
 |_=>none
def ofConst:Value->Option T
 | .bool b=>some (.kb b)
 | .int k n=>some (.kn k n)
 | .slice none 0 0=>some .emp
 | .func f a b=>match a.toList,b.toList with
  |[],[]=>some (.fn f [] [])
  |_,_=>none
 | .iface t v=>(Cd v).map λd=>.sym (.cR t d)
 |v=>(Cd v).map .sym
def oQ:D->T
 | .lit (.bool b)=>.kb b
 | .lit (.int k n)=>.kn k n
 | .sl []=>.emp
 |d=>.sym d
def T.leaf:T->Prop
 | .sym d=>d.leaf=true
 | .agg _|.gq _|.gd _ _=>False
 |_=>True
def iT(i:TI):T->Option (Prop×List T)
 | .agg cs=>bif i.agg&&Nat.beq (cA cs) i.size then some (True,cs)else none
 | .sym d=>
  bif i.agg then some (d.isAgg i.size=true,(List.range i.size).map λj=>.sym (d.cell j))
  else bif Nat.beq i.size 1 then some (d.leaf=true,[.sym d])else none
 | .gq _|.gd _ _=>none
 |t=>bif i.agg then none else bif Nat.beq i.size 1 then some (True,[t])else none
def uy(agg:Bool)(cs:List T):Option T:=
 bif agg then some (.agg cs)else match cs with
  |[x]=>some x
  |_=>none
def jw(fr:Fr):Operand->Option T
 | .tmp k=>fr.get k
 | .const v=>ofConst v
 | .global _=>none
 | .func f=>some (.fn (.func f) [] [])
def w6(fr:Fr):List Operand->Option (List T)
 |[]=>some []
 |x::l=>match jw fr x,w6 fr l with
  |some t,some r=>some (t::r)
  |_,_=>none
def tZ(k:IntKind):T->Option (Prop×Int)
 | .kn j n=>bif nD j k then some (True,n)else none
 | .sym d=>some (d.isInt k=true,d.toInt)
 |_=>none
def xu:T->Option (Prop×Bool)
 | .kb b=>some (True,b)
 | .sym d=>some (d.isBool=true,d.toBool)
 |_=>none
def xH:T->Option (Prop×ByteArray)
 | .sym d=>some (d.isStr=true,d.toStr)
 |_=>none
def rf(s:St):T->Option (Prop×List D)
 | .emp=>some (True,[])
 | .jI _ es=>some (True,es)
 | .n9 _ d=>some (True,[d])
 | .sym d=>some (d.ahn=true,d.ac0)
 | .sh o e=>match s.ob.get o with
  |some (.arr _ es era)|some (.kf _ es era)=>bif Nat.beq e era then some (True,es)else none
  |_=>none
 |_=>none
def zP(nj:Nat)(d:D)(rs:List D):D:=.agg (d.cells.set nj (.sl rs))
def iZ(nj:Nat)(es:List D)(dL:List (List D)):List D:=List.zipWith (zP nj) es dL
def GF(s:St)(m r:Nat):Option (List (List D)):=match s.ob.get m with
 |some (.rws _ dL r')=>bif Nat.beq r r' then some dL else none
 |_=>none
mutual
def vU(s:St):T->Option (Prop×D×List Nat)
 | .sym d=>some (True,d,[])
 | .kb b=>some (True,.lit (.bool b),[])
 | .kn k n=>some (True,.lit (.int k n),[])
 | .emp=>some (True,.sl [],[])
 | .jI _ es=>some (True,.sl es,[])
 | .n9 _ d=>some (True,.sl [d],[])
 | .sh o e=>match s.ob.get o with
  |some (.arr _ es era)=>bif Nat.beq e era then some (True,.sl es,[o])else none
  |some (.kf _ es era)=>bif Nat.beq e era then some (True,.sl es,[])else none
  |some (.kE nj _ es era m r none)=>match GF s m r with
   |some dL=>bif Nat.beq e era&&Nat.blt m bA then some (True,.sl (iZ nj es dL),[o,m])else none
   |none=>none
  |_=>none
 | .cR t v=>match vU s v with
  |some (p,d,os)=>some (p,.cR t d,os)
  |none=>none
 | .agg cs=>match lY s cs with
  |some (p,ds,os)=>some (p∧ds.all D.leaf=true,.agg ds,os)
  |none=>none
 | .gq cs=>match lY s cs with
  |some (p,ds,os)=>some (p,.gq ds,os)
  |none=>none
 |_=>none
def lY(s:St):List T->Option (Prop×List D×List Nat)
 |[]=>some (True,[],[])
 |t::l=>match vU s t,lY s l with
  |some (p,d,os),some (q,ds,ps)=>some (p∧q,d::ds,os++ps)
  |_,_=>none
end
def freeze(s:St):List Nat->Option St
 |[]=>some s
 |o::l=>
  bif Nat.ble s.fl o then match s.ob.get o with
   |some (.arr sz es era)=>freeze {s with ob:=s.ob.set aI o (.kf sz es era)} l
   |some (.kf _ _ _)=>freeze s l
   |some (.kE nj sz es era m r none)=>match GF s m r with
    |some dL=>bif l.contains m&&(Nat.ble s.fl m&&Nat.blt m bA)then freeze {s with ob:=(s.ob.set aI m .gone).set aI o (.kf sz (iZ nj es dL) era)} l else none
    |none=>none
   |some (.rws ..)=>freeze s l
   |some .gone=>freeze s l
   |_=>none
  else none
def ec(s:St)(o:Ob):Nat×St:=(s.aH,{s with ob:=s.ob.set aI s.aH o,aH:=Nat.succ s.aH})
def pg:Lk->T->T->Option (Prop×Bool)
 | .int k,a,b=>match tZ k a,tZ k b with
  |some (p,x),some (q,y)=>some (p∧q,D.aO x y)
  |_,_=>none
 | .bool,a,b=>match xu a,xu b with
  |some (p,x),some (q,y)=>some (p∧q,D.beq x y)
  |_,_=>none
 | .str,a,b=>match xH a,xH b with
  |some (p,x),some (q,y)=>some (p∧q,D.seq x y)
  |_,_=>none
 | .no,_,_=>none
def jG:List Lk->List T->List T->Option (Prop×Bool)
 |[],[],[]=>some (True,true)
 |k::ks,a::as,b::bs=>match pg k a b,jG ks as bs with
  |some (p,x),some (q,y)=>some (p∧q,D.ey x y)
  |_,_=>none
 |_,_,_=>none
def ab7:T->T->Option (Prop×Bool)
 | .sym (.lit (.pointer none)),.ptr _ _=>some (True,false)
 | .ptr _ _,.sym (.lit (.pointer none))=>some (True,false)
 |_,_=>none
def ab8:T->T->Option (Prop×Bool)
 | .sym (.lit .nilIface),.cR _ _=>some (True,false)
 | .cR _ _,.sym (.lit .nilIface)=>some (True,false)
 |_,_=>none
def Hu(s:St)(o e:Nat):Option (Nat×List D):=
 match s.ob.get o with
 |some (.arr sz es era)=>bif Nat.beq e era then some (sz,es)else none
 |some (.kf sz es era)=>bif Nat.beq e era then some (sz,es)else none
 |_=>none
def nM(i:TI)(d:D)(off:Nat):Option T:=
 bif i.agg then some (.agg ((List.range i.size).map λj=>.sym (d.cell (Nat.add off j))))
 else bif Nat.beq i.size 1 then some (.sym (d.cell off))else none
abbrev qU:=Option (Prop×T×St)
def QB:T:=.sym (.lit (.tuple #[]))
def loadT(i:TI)(s:St):T->qU
 | .ptr o off=>match s.ob.get o with
  |some (.box cs)=>
   let l:=(cs.drop off).take i.size
   bif Nat.beq (cA l) i.size then(uy i.agg l).map λt=>(True,t,s)else none
  |_=>none
 | .mV d off=>(nM i d off).map λt=>(d.has (Nat.add off i.size),t,s)
 | .kL o e k off=>match Hu s o e with
  |some (_,es)=>(nM i (D.el es k) off).map λt=>(D.GU k (D.len es)∧(D.el es k).has (Nat.add off i.size),t,s)
  |none=>none
 |_=>none
def leaves:List T->Prop
 |[]=>True
 |t::l=>t.leaf∧leaves l
def storeT(i:TI)(s:St)(a x:T):qU:=
 match iT i x with
 |none=>none
 |some (p,l)=>match a with
  | .ptr o off=>match s.ob.get o with
   |some (.box cs)=>
    bif Nat.ble s.fl o&&Nat.ble (Nat.add off (cA l)) (cA cs)then
     some (p∧leaves l,QB,{s with ob:=s.ob.set aI o (.box (cs.take off++l++cs.drop (Nat.add off (cA l))))})
    else none
   |_=>none
  | .kL o e k off=>match lY s l with
   |some (q,ds,os)=>match freeze s os with
    |some s1=>match s1.ob.get o with
     |some (.arr sz es era)=>
      bif Nat.ble s1.fl o&&Nat.beq e era then
       some (p∧q∧ds.all D.leaf=true∧D.GU k (D.len es)∧(D.el es k).QG sz off (cA ds)∧Nat.ble (Nat.add off (cA ds)) sz=true∧((D.el es k).QA off ds).qT=(D.el es k).qT,
        QB,{s1 with ob:=s1.ob.set aI o (.arr sz (D.put es k ((D.el es k).QA off ds)) era)})
      else none
     |_=>none
    |none=>none
   |none=>none
  |_=>none
def Cl(place:Nat->Option (Nat×TI))(cells:List T):List (Nat×T)->Option (Prop×List T)
 |[]=>some (True,cells)
 |(k,v)::rest=>match place k with
  |none=>none
  |some (off,i)=>match iT i v with
   |none=>none
   |some (p,l)=>
    bif Nat.ble (Nat.add off (cA l)) (cA cells)then
     (Cl place (cells.take off++l++cells.drop (Nat.add off (cA l))) rest).map λ(q,r)=>(p∧leaves l∧q,r)
    else none
def qD(fr:Fr):List (Nat×Operand)->Option (List (Nat×T))
 |[]=>some []
 |(k,x)::l=>match jw fr x,qD fr l with
  |some t,some r=>some ((k,t)::r)
  |_,_=>none
def nF(s:St)(i:TI)(es:List D):List (Nat×T)->Option (Prop×List D×List Nat)
 |[]=>some (True,es,[])
 |(k,v)::rest=>match vU s v with
  |none=>none
  |some (p,d,os)=>
   bif Nat.blt k (cA es)then
    (nF s i (es.set k d) rest).map λ(q,r,ps)=>(p∧(bif i.agg then d.isAgg i.size else d.leaf)=true∧q,r,os++ps)
   else none
def Px(op:BinOp)(k:IntKind)(m n:Int):Option D:=
 match op with
 | .lss=>some (.lit (.bool (D.bN m n)))
 | .leq=>some (.lit (.bool (D.eu m n)))
 | .gtr=>some (.lit (.bool (D.bN n m)))
 | .geq=>some (.lit (.bool (D.eu n m)))
 | .add=>some (.lit (.int k (D.add k m n)))
 | .sub=>some (.lit (.int k (D.dN k m n)))
 | .mul=>some (.lit (.int k (D.mul k m n)))
 |_=>none
def Xv(op:BinOp)(k:IntKind)(m n:Int):Option D:=
 match op with
 | .rem=>some (.lit (.int k (D.rem m n)))
 | .quo=>some (.lit (.int k (D.quo k m n)))
 |_=>none
def TN(i:TI)(a b:T):Option (Prop×Bool):=
 bif i.agg then match i.YW,iT i a,iT i b with
  |[],_,_=>none
  |k::ks,some (p,as),some (q,bs)=>(jG (k::ks) as bs).map λ(r,x)=>(p∧q∧r,x)
  |_,_,_=>none
 else match i.kd with
  | .leaf k=>pg k a b
  | .ptr=>ab7 a b
  | .iface=>ab8 a b
  |_=>none
def Kk(i:TI)(op:BinOp)(a b:T):Option (Prop×D):=
 match op with
 | .eql=>(TN i a b).map λ(p,r)=>(p,.lit (.bool r))
 | .neq=>(TN i a b).map λ(p,r)=>(p,.lit (.bool (D.aM r)))
 |op=>match i.kd with
  | .leaf (.int k)=>match tZ k a,tZ k b with
   |some (p,m),some (q,n)=>match Px op k m n with
    |some d=>some (p∧q,d)
    |none=>(Xv op k m n).map λd=>(p∧q∧D.nz n,d)
   |_,_=>none
  | .leaf .str=>match op,xH a,xH b with
   | .add,some (p,m),some (q,n)=>some (p∧q∧D.Zq m n,.lit (.string (D.U6 m n)))
   |_,_,_=>none
  |_=>none
def Mq(fr:Fr):Option Operand->Option (Option T)
 |none=>some none
 |some x=>(jw fr x).map some
def vo(dflt:Int):Option T->Option (Prop×Int)
 |none=>some (True,dflt)
 |some t=>tZ .i64 t
def p9:T->List Nat
 | .sh o _=>[o]
 |_=>[]
def oG(i:TI)(s:St)(v:T)(l h m:Option T):qU:=
 match i.kd,vo D.zero l with
 | .leaf .str,some (p,lo)=>match xH v,m with
  |some (q,b),none=>match vo (D.DL b) h with
   |some (r,hi)=>some (p∧q∧r∧D.cut lo hi (D.DL b),.sym (.lit (.string (D.Zp b lo hi))),s)
   |none=>none
  |_,_=>none
 | .slice sz _ _ _,some (p,lo)=>match rf s v,freeze s (p9 v)with
  |some (q,es),some s'=>match vo (D.len es) h,m,h with
   |some (r,hi),none,_=>some (p∧q∧r∧D.rows es sz∧D.cut lo hi (D.len es),.sym (.sl (D.sub es lo hi)),s')
   |some (r,hi),some y,some _=>match y with
    | .kn .i64 0=>some (p∧q∧r∧lo=D.zero∧hi=D.zero,.emp,s)
    |y=>(tZ .i64 y).map λ(t,mx)=>
     (p∧q∧r∧t∧D.rows es sz∧D.cut lo hi (D.len es)∧mx=hi,.jI 0 (D.sub es lo hi),s')
   |_,_,_=>none
  |_,_=>none
 |_,_=>none
def FR:T->Option (Prop×Bool)
 | .gd g v=>match xu v with
  |some (q,y)=>some (g=true∧q,y)
  |none=>none
 | .kb b=>some (True,b)
 | .sym d=>some (d.isBool=true,d.toBool)
 |_=>none
def HW(c a b:T):Option (Prop×T):=
 match c with
 | .kb u=>match FR (bif u then a else b)with
  |some (q,y)=>some (q,.sym (.lit (.bool y)))
  |none=>none
 |c=>match xu c,FR a,FR b with
  |some (p,t),some (q,x),some (r,y)=>some (p∧(t=true->q)∧(t=false->r),.sym (.lit (.bool (D.aiR t x y))))
  |_,_,_=>none
def kG(i:TI)(s:St)(x ix:T):qU:=
 match i.kd,tZ .i64 ix with
 | .slice sz _ _ _,some (p,n)=>match x with
  | .sh o e=>match Hu s o e with
   |some (z,es)=>bif Nat.beq z sz then some (p∧D.GU n (D.len es),.kL o e (D.nat n) 0,s)else none
   |none=>none
  |v=>match rf s v with
   |some (q,es)=>some (p∧q∧D.GU n (D.len es)∧(D.el es (D.nat n)).wide sz,.mV (D.el es (D.nat n)) 0,s)
   |none=>none
 |_,_=>none
def o8(i:TI)(s:St)(k:Nat)(x:T):qU:=
 match i.kd with
 | .struct fs=>match nth fs k with
  |some (off,size,_)=>bif Nat.beq size 0 then none else match x with
   | .ptr o b=>some (True,.ptr o (Nat.add b off),s)
   | .mV d b=>some (True,.mV d (Nat.add b off),s)
   | .kL o e j b=>some (True,.kL o e j (Nat.add b off),s)
   |_=>none
  |none=>none
 |_=>none
def E5(i:TI)(s:St)(k:Nat)(x:T):qU:=
 match i.kd with
 | .struct fs=>match nth fs k,iT i x with
  |some (off,size,ag),some (p,cs)=>
   let l:=(cs.drop off).take size
   bif Nat.beq (cA l) size&&!(Nat.beq size 0)then(uy ag l).map λt=>(p,t,s)else none
  |_,_=>none
 |_=>none
def ER(i:TI)(s:St)(x ix:T):qU:=
 match i.kd,tZ .i64 ix,xH x with
 | .leaf .str,some (p,n),some (q,b)=>some (p∧q∧D.GU n (D.DL b),.sym (.lit (.int .u8 (D.sat b n))),s)
 |_,_,_=>none
def qq(i:TI)(s:St)(t:TypeId)(ok:Bool)(x:T):qU:=
 match i.kd,x,ok with
 | .iface,_,_=>none
 |_,.cR u v,true=>bif Nat.beq u t then some (True,.gq [v,.kb true],s)else
   (uy i.agg (i.zero.map oQ)).map λz=>(True,.gq [z,.kb false],s)
 |_,.cR u v,false=>bif Nat.beq u t then some (True,v,s)else none
 |_,_,_=>none
def unT(i:TI)(op:UnOp)(v:T):Option (Prop×D):=
 match op,i.kd with
 | .not,.leaf .bool=>(xu v).map λ(p,b)=>(p,.lit (.bool (D.aM b)))
 | .neg,.leaf (.int k)=>(tZ k v).map λ(p,n)=>(p,.lit (.int k (D.neg k n)))
 |_,_=>none
def IE(i j:TI)(s:St)(v:T):qU:=
 match i.kd,j.kd with
 | .leaf (.int k),.leaf (.int l)=>(tZ k v).map λ(p,n)=>(p,.sym (.lit (.int l (D.conv l n))),s)
 | .leaf .str,.leaf .str=>(xH v).map λ(p,_)=>(p,v,s)
 |_,_=>none
def o9(s:St)(k:Nat):T->qU
 | .gq vs=>(nth vs k).map λt=>(True,t,s)
 | .sym d=>some (d.aeo k=true,.sym (d.proj k),s)
 |_=>none
def ny(E:Env)(fr:Fr)(s:St)(o:Op):qU:=
 match o with
 | .move x=>(jw fr x).map λt=>(True,t,s)
 | .assign x=>(jw fr x).map λt=>(True,t,s)
 | .pick c a b=>match jw fr c,jw fr a,jw fr b with
  |some c,some a,some b=>(HW c a b).map λ(p,t)=>(p,t,s)
  |_,_,_=>none
 | .alloc t=>match E.ti t with
  |some i=>bif Nat.blt s.aH bA then some (True,.ptr s.aH 0,(ec s (.box (i.zero.map oQ))).2)else none
  |none=>none
 | .box t x=>match E.ti t,jw fr x with
  |some i,some v=>bif Nat.blt s.aH bA then(iT i v).map λ(p,cs)=>(p,.ptr s.aH 0,(ec s (.box cs)).2)else none
  |_,_=>none
 | .build t parts=>match E.ti t,qD fr parts.toList with
  |some i,some ps=>match i.kd with
   | .struct fs=>(Cl (λk=>match nth fs k with|some (off,size,ag)=>some (off,{(default:TI)with size:=size,agg:=ag})|none=>none) (i.zero.map oQ) ps).map
     λ(p,cs)=>(p,.agg cs,s)
   |_=>none
  |_,_=>none
 | .buildSlice t len parts=>match E.ti t,qD fr parts.toList with
  |some i,some ps=>match i.kd with
   | .slice sz ag _ zero=>
    bif (ag||Nat.beq sz 1)&&(Nat.beq (cA zero) sz&&(!(Nat.beq sz 0)&&Nat.ble (Nat.mul len sz) 16777216))then
     match nF s {(default:TI)with size:=sz,agg:=ag} (List.replicate len (bif ag then .agg zero else zero.getD 0 default)) ps with
     |some (p,es,os)=>(freeze s os).map λs=>(p,.jI len es,s)
     |none=>none
    else none
   |_=>none
  |_,_=>none
 | .load t a=>match E.ti t,jw fr a with
  |some i,some a=>loadT i s a
  |_,_=>none
 | .store t a x=>match E.ti t,jw fr a,jw fr x with
  |some i,some a,some x=>storeT i s a x
  |_,_,_=>none
 | .nilCheck x=>match jw fr x with
  |some (.ptr o b)=>some (True,.ptr o b,s)
  |some (.mV d b)=>some (True,.mV d b,s)
  |some (.kL o e j b)=>some (True,.kL o e j b,s)
  |some (.cR t v)=>some (True,.cR t v,s)
  |some (.fn (.func f) a b)=>some (True,.fn (.func f) a b,s)
  |some (.sym d)=>some (d.aho=true,.sym d,s)
  |_=>none
 | .binOp op t x y _=>match E.ti t,jw fr x,jw fr y with
  |some i,some a,some b=>(Kk i op a b).map λ(p,d)=>(p,.sym d,s)
  |_,_,_=>none
 | .unOp op t x=>match E.ti t,jw fr x with
  |some i,some v=>(unT i op v).map λ(p,d)=>(p,.sym d,s)
  |_,_=>none
 | .convert src dst x=>match E.ti src,E.ti dst,jw fr x with
  |some i,some j,some v=>IE i j s v
  |_,_,_=>none
 | .makeInterface t x=>match E.ti t,jw fr x with
  |some i,some v=>match i.kd with
   | .iface=>none
   |_=>some (True,.cR t v,s)
  |_,_=>none
 | .makeFunc f first cap=>match w6 fr first.toList,w6 fr cap.toList with
  |some a,some b=>some (True,.fn f a b,s)
  |_,_=>none
 | .extract x k=>match jw fr x with
  |some v=>o9 s k v
  |none=>none
 | .fieldAddr t x k=>match E.ti t,jw fr x with
  |some i,some v=>o8 i s k v
  |_,_=>none
 | .field t x k=>match E.ti t,jw fr x with
  |some i,some v=>E5 i s k v
  |_,_=>none
 | .indexAddr t x ix=>match E.ti t,jw fr x,jw fr ix with
  |some i,some v,some n=>kG i s v n
  |_,_,_=>none
 | .index t x ix=>match E.ti t,jw fr x,jw fr ix with
  |some i,some v,some n=>ER i s v n
  |_,_,_=>none
 | .slice t x lo hi mx=>match E.ti t,jw fr x,Mq fr lo,Mq fr hi,Mq fr mx with
  |some i,some v,some l,some h,some m=>oG i s v l h m
  |_,_,_,_,_=>none
 | .typeAssert x _ t ok=>match E.ti t,jw fr x with
  |some i,some v=>qq i s t ok v
  |_,_=>none
 |_=>none
def D.RD(a b:List D):Prop:=a.length+b.length<=17179869184
def qt(i:TI)(s:St)(x y:T):qU:=
 bif !(Nat.blt s.aH bA)then none else
 match i.kd,rf s y with
 | .slice sz _ bt _,some (q,new)=>
  match x with
  | .emp=>some (q∧D.rows new sz∧D.UI new bt,.sh s.aH 0,(ec s (.arr sz new 0)).2)
  | .jI _ es=>
   let q':=q∧D.rows (D.app es new) sz∧D.UI (D.app es new) bt∧D.RD es new
   match y with
   | .jI (_+1) _=>some (q',.sh s.aH 0,(ec s (.arr sz (D.app es new) 0)).2)
   |_=>some (q',.sym (.sl (D.app es new)),s)
  | .sh o e=>match s.ob.get o with
   |some (.arr z es era)=>
    bif Nat.ble s.fl o&&Nat.beq e era&&Nat.beq z sz&&!(p9 y).contains o then
     some (q∧D.rows new sz∧D.UI (D.app es new) bt∧D.RD es new,.sh o (Nat.succ era),{s with ob:=s.ob.set aI o (.arr sz (D.app es new) (Nat.succ era))})
    else none
   |_=>none
  |_=>none
 |_,_=>none
def eY(E:Env)(s:St)(b:Builtin)(argTypes:Array TypeId)(args:List T):qU:=
 match b,args with
 | .len,[x]=>match xH x,(nth argTypes.toList 0).bind E.ti with
  |some (p,b),some i=>match i.kd with
   | .leaf .str=>some (p,.sym (.lit (.int .i64 (D.DL b))),s)
   | .slice _ _ _ _=>(rf s x).map λ(p,es)=>(p,.sym (.lit (.int .i64 (D.len es))),s)
   |_=>none
  |none,some i=>match i.kd with
   | .slice _ _ _ _=>(rf s x).map λ(p,es)=>(p,.sym (.lit (.int .i64 (D.len es))),s)
   |_=>none
  |_,_=>none
 | .append,[x,y]=>match argTypes.toList with
  |[t,u]=>match E.ti t,E.ti u with
   |some i,some j=>match j.kd with
    | .slice _ _ _ _=>qt i s x y
    |_=>none
   |_,_=>none
  |_=>none
 |_,_=>none
end
end TL
end
section
namespace TL
open Go
section
def wg:T->List T->Option (FuncId×List T)
 | .fn (.func f) first cap,args=>some (f,first++args++cap)
 |_,_=>none
section
variable (E:Env)
def gamT(s:St)(f:FuncId)(args:List T):Option (Prop×T×St):=
 match E.Hh f with
 |none=>none
 |some c=>match lY s args with
  |none=>none
  |some (p,ds,os)=>(freeze s os).map λs'=>(p∧c.pre ds,.sym (c.f ds),s')
abbrev ajX:=FuncId->List T->St->(T->St->Prop)->(T->St->Prop)->Prop
variable (call:ajX)
def agD(fr:Fr):Option Nat->Bool
 |none=>true
 |some d=>Nat.blt d fr.n
end
def AT:List T->Nat->Tr T->Tr T
 |[],_,t=>t
 |a::l,k,t=>AT l (Nat.succ k) (t.set aI k a)
def kq(E:Env)(s:St)(fr:Fr):List ResultVar->Option (Prop×List T)
 |[]=>some (True,[])
 | .tmp t::l=>match fr.get t,kq E s fr l with
  |some x,some (p,r)=>some (p,x::r)
  |_,_=>none
 | .cell a t::l=>match(E.ti t),fr.get a with
  |some i,some a=>match loadT i s a,kq E s fr l with
   |some (p,x,_),some (q,r)=>some (p∧q,x::r)
   |_,_=>none
  |_,_=>none
def acY:List T->T
 |[x]=>x
 |l=>.gq l
end
end TL
end
section
namespace TL
section
def bH{α:Type}(l:List α):cA l=l.length:=by
 induction l with|nil=>rfl|cons a l ih=>simp[cA,ih]
def jx{α:Type}(l:List α)(k:Nat):nth l k=l[k]?:=by
 induction l generalizing k with
 |nil=>cases k<;>rfl
 |cons a l ih=>cases k with|zero=>rfl|succ k=>simp[nth,ih]
namespace Tr
variable {α:Type}
def get_nil(k:Nat):(Tr.nil:Tr α).get k=none:=by cases k<;>rfl
def fN(v:Option α)(l r:Tr α):(Tr.node v l r).get 0=v:=by simp[get]
def cP(v:Option α)(l r:Tr α)(k:Nat):(Tr.node v l r).get (k+1)=if k%2=0 then l.get (k/2)else r.get (k/2):=by
 simp only[get];by_cases h:k%2=0
 .have:Nat.beq (Nat.mod k 2) 0=true:=by show Nat.beq (k%2) 0=true;rw[h];rfl
  simp[this,h];rfl
 .have:Nat.beq (Nat.mod k 2) 0=false:=by
   show Nat.beq (k%2) 0=false;have:k%2=1:=by omega
   rw[this];rfl
  simp[this,h];rfl
theorem wT(n:Nat)(v:Option α)(l r:Tr α)(x:α):Tr.set (n+1) (.node v l r) 0 x=.node (some x) l r:=rfl
theorem y8(n:Nat)(x:α):Tr.set (n+1) .nil 0 x=.node (some x) .nil .nil:=rfl
def mO(n:Nat)(v:Option α)(l r:Tr α)(k:Nat)(x:α) :
  Tr.set (n+1) (.node v l r) (k+1) x=if k%2=0 then .node v (Tr.set n l (k/2) x) r else .node v l (Tr.set n r (k/2) x):=by
 simp only[set];by_cases h:k%2=0
 .have:Nat.beq (Nat.mod k 2) 0=true:=by show Nat.beq (k%2) 0=true;rw[h];rfl
  simp[this,h];rfl
 .have:Nat.beq (Nat.mod k 2) 0=false:=by
   show Nat.beq (k%2) 0=false;have:k%2=1:=by omega
   rw[this];rfl
  simp[this,h];rfl
def nQ(n:Nat)(k:Nat)(x:α) :
  Tr.set (n+1) .nil (k+1) x=if k%2=0 then .node none (Tr.set n .nil (k/2) x) .nil else .node none .nil (Tr.set n .nil (k/2) x):=by
 simp only[set];by_cases h:k%2=0
 .have:Nat.beq (Nat.mod k 2) 0=true:=by show Nat.beq (k%2) 0=true;rw[h];rfl
  simp[this,h];rfl
 .have:Nat.beq (Nat.mod k 2) 0=false:=by
   show Nat.beq (k%2) 0=false;have:k%2=1:=by omega
   rw[this];rfl
  simp[this,h];rfl
def aaK(n:Nat):∀(t:Tr α)(k j:Nat)(x:α),k+1<2 ^ n->(Tr.set n t k x).get j=if j=k then some x else t.get j:=by
 induction n with
 |zero=>intro t k j x h;simp at h
 |succ n ih=>
  intro t k j x h;cases k with
  |zero=>
   cases t with
   |nil=>
    rw[y8];cases j with|zero=>simp[fN]|succ j=>rw[cP];simp[get_nil]
   |node v l r=>
    rw[wT];cases j with|zero=>simp[fN]|succ j=>rw[cP,cP];simp
  |succ k=>
   have hk':k/2+1<2 ^ n:=by rw[Nat.pow_succ]at h;omega
   cases t with
   |nil=>
    rw[nQ];cases j with
    |zero=>split<;>simp[fN,get_nil]
    |succ j=>
     by_cases hk2:k%2=0
     .rw[bL hk2,cP,get_nil];by_cases hj2:j%2=0
      .rw[bL hj2,ih _ _ _ _ hk',get_nil];have:j/2=k/2↔j+1=k+1:=by omega
       simp[this,get_nil]
      .rw[bw hj2,get_nil,bw (by omega)]
     .rw[bw hk2,cP,get_nil];by_cases hj2:j%2=0
      .rw[bL hj2,get_nil,bw (by omega)]
      .rw[bw hj2,ih _ _ _ _ hk',get_nil];have:j/2=k/2↔j+1=k+1:=by omega
       simp[this,get_nil]
   |node v l r=>
    rw[mO];cases j with
    |zero=>split<;>simp[fN]
    |succ j=>
     by_cases hk2:k%2=0
     .rw[bL hk2,cP,cP];by_cases hj2:j%2=0
      .rw[bL hj2,bL hj2,ih _ _ _ _ hk'];have:j/2=k/2↔j+1=k+1:=by omega
       simp[this]
      .rw[bw hj2,bw hj2,bw (by omega)]
     .rw[bw hk2,cP,cP];by_cases hj2:j%2=0
      .rw[bL hj2,bL hj2,bw (by omega)]
      .rw[bw hj2,bw hj2,ih _ _ _ _ hk'];have:j/2=k/2↔j+1=k+1:=by omega
       simp[this]
def aT(t:Tr α)(k j:Nat)(x:α)(h:k<bA):(Tr.set aI t k x).get j=if j=k then some x else t.get j:=
 aaK _ _ _ _ _ (by unfold aI;unfold bA at h;omega)
end Tr
end
end TL
end
section
namespace TL
open Go
section
structure fB where
 a:Option Addr
 len:Nat
 cap:Nat
 sz:Nat
structure Gh where
 cj:Nat->Option Nat
 arr:Nat->Nat->Option fB
 bz:Nat->Prop
inductive dZ(I:Nat->Prop)(w:World):D->Value->Prop where
 |lit (v:Value):dZ I w (.lit v) v
 |sl (es:List D) (a:Option Addr) (cap sz:Nat) (val:Nat->Nat->Value)
   (hcap:es.length<=cap) (hsz:∀d∈es,d.cells.length=sz) (hby:∀d∈es,es.length*d.qT<=281474976710656)
   (ha:es≠[]->∃ad,a=some ad∧I ad.block∧∀i j d c,es[i]?=some d->d.cells[j]?=some c->w.cell? (ad.add (i*sz+j))=some (val i j))
   (hc:∀i j d c,es[i]?=some d->d.cells[j]?=some c->dZ I w c (val i j)):dZ I w (.sl es) (.slice a es.length cap)
 |agg (cs:List D) (vs:Array Value) (hl:cs.length=vs.size) (hf:∀c∈cs,c.leaf=true)
   (h:∀(j:Nat)(c:D)(v:Value),cs[j]?=some c->vs[j]?=some v->dZ I w c v):dZ I w (.agg cs) (.agg vs)
 |cR (t:TypeId) (d:D) (v:Value) (h:dZ I w d v):dZ I w (.cR t d) (.iface t v)
 |gq (ds:List D) (vs:Array Value) (hl:ds.length=vs.size)
   (h:∀(j:Nat)(c:D)(v:Value),ds[j]?=some c->vs[j]?=some v->dZ I w c v):dZ I w (.gq ds) (.tuple vs)
def tQ(I:Nat->Prop)(w w':World):Prop:=∀b,I b->w'.heap[b]?=w.heap[b]?
def tQ.cell{I:Nat->Prop}{w w':World}(h:tQ I w w'){a:Addr}(ha:I a.block):w'.cell? a=w.cell? a:=by unfold World.cell?;rw[h _ ha]
def kZ(a:Addr)(n:Nat):(a.add n).block=a.block:=by unfold Addr.add;split<;>rfl
variable {I:Nat->Prop}{w w':World}{d:D}{v:Value}{g g':Gh}{s:St}{o b e fl:Nat}{ob:Ob}{x:fB}{t:T}{p:T->Bool}
def dZ.mono{I':Nat->Prop}(hk:tQ I w w')(hI:∀b,I b->I' b)(h:dZ I w d v):dZ I' w' d v:=by
 induction h with
 |lit v=>exact .lit v
 |sl es a cap sz val hcap hsz hby ha hc ih=>refine .sl es a cap sz val hcap hsz hby (λhne=>?_) ih;obtain⟨ad,he,hb,hcell⟩:=ha hne;refine⟨ad,he,hI _ hb,λi j d c hd hcj=>?_⟩;rw[hk.cell (by rw[kZ];exact hb)];exact hcell i j d c hd hcj
 |agg cs vs hl hf h ih=>exact .agg cs vs hl hf ih
 |cR t d v h ih=>exact .cR t d v ih
 |gq ds vs hl h ih=>exact .gq ds vs hl ih
def rc(r i:Nat):Nat:=2 ^ r*(2*i+1)
def iQ(nj:Nat)(d:D)(h:Value):D:=.agg (d.cells.set nj (.lit h))
inductive aJ(g:Gh)(w:World):T->Value->Prop where
 |sym (d:D) (v:Value) (h:dZ g.bz w d v):aJ g w (.sym d) v
 |kb (b:Bool):aJ g w (.kb b) (.bool b)
 |kn (k:IntKind) (n:Int):aJ g w (.kn k n) (.int k n)
 |ptr (o off b:Nat) (h:g.cj o=some b):aJ g w (.ptr o off) (.pointer (some ⟨b,off,none⟩))
 |mV (d:D) (off:Nat) (ad:Addr) (val:Nat->Value) (hi:g.bz ad.block)
   (hc:∀j c,d.cells[j]?=some c->w.cell? (ad.add j)=some (val j)) (hd:∀j c,d.cells[j]?=some c->dZ g.bz w c (val j)) :
   aJ g w (.mV d off) (.pointer (some (ad.add off)))
 |kL (o e i off len cap sz:Nat) (ad:Addr) (h:g.arr o e=some ⟨some ad,len,cap,sz⟩):aJ g w (.kL o e i off) (.pointer (some (ad.add (i*sz+off))))
 |sh (o e len cap sz:Nat) (a:Option Addr) (h:g.arr o e=some ⟨a,len,cap,sz⟩):aJ g w (.sh o e) (.slice a len cap)
 |emp (a:Option Addr):aJ g w .emp (.slice a 0 0)
 |jI (n:Nat) (es:List D) (a:Option Addr) (hn:n<=es.length) (h:dZ g.bz w (.sl es) (.slice a es.length es.length)):aJ g w (.jI n es) (.slice a es.length es.length)
 |fn (f:Fn) (fs cs:List T) (va vc:Array Value) (hl:fs.length=va.size) (hm:cs.length=vc.size)
   (h:∀(j:Nat)(t:T)(v:Value),fs[j]?=some t->va[j]?=some v->aJ g w t v)
   (h':∀(j:Nat)(t:T)(v:Value),cs[j]?=some t->vc[j]?=some v->aJ g w t v):aJ g w (.fn f fs cs) (.func f va vc)
 |cR (t:TypeId) (x:T) (v:Value) (h:aJ g w x v):aJ g w (.cR t x) (.iface t v)
 |agg (cs:List T) (vs:Array Value) (hl:cs.length=vs.size)
   (h:∀(j:Nat)(t:T)(v:Value),cs[j]?=some t->vs[j]?=some v->aJ g w t v):aJ g w (.agg cs) (.agg vs)
 |gq (cs:List T) (vs:Array Value) (hl:cs.length=vs.size)
   (h:∀(j:Nat)(t:T)(v:Value),cs[j]?=some t->vs[j]?=some v->aJ g w t v):aJ g w (.gq cs) (.tuple vs)
 |gd (c:Bool) (t:T) (v:Value) (h:c=true->aJ g w t v):aJ g w (.gd c t) v
 |mp (o b:Nat) (h:g.cj o=some b):aJ g w (.mp o) (.map (some b))
 |rZ (o b:Nat) (h:g.cj o=some b):aJ g w (.rZ o) (.func (.yield b) #[] #[])
 |rY (o b:Nat) (h:g.cj o=some b):aJ g w (.rY o) (.pointer (some ⟨b,0,none⟩))
 |ub (e b:Bool) (h:b=true->e=true):aJ g w (.ub e) (.bool b)
 |qF (o m r i len cap sz:Nat) (a:Option Addr) (h:g.arr m (rc r i)=some ⟨a,len,cap,sz⟩):aJ g w (.qF o m r i) (.slice a len cap)
 |n9 (j:Nat) (d:D) (c:Option Addr) (a:Option Addr) (hj:d.cells[j]?=some (.sl [])) (hd:dZ g.bz w (.sl [iQ j d (.slice c 0 0)]) (.slice a 1 1)):aJ g w (.n9 j d) (.slice a 1 1)
inductive gU(g:Gh)(w:World):Ob->Obj->Prop where
 |box (cs:List T) (vs:Array Value) (ty:TypeId) (hl:cs.length=vs.size) (h:∀(j:Nat)(t:T)(v:Value),cs[j]?=some t->vs[j]?=some v->aJ g w t v):gU g w (.box cs) (.cells vs ty (0,0))
 |map (es:List (T×T)) (ms:Array MapEntry) (c:Nat) (hl:es.length=ms.size)
   (h:∀(j:Nat)(t:T×T)(m:MapEntry),es[j]?=some t->ms[j]?=some m->aJ g w t.1 m.key∧aJ g w t.2 m.val):gU g w (.map es) (.map ms c)
 |pO (s:ByteArray) (pos:Nat):gU g w (.pO s pos) (.stringIter s pos)
 |lp (l:Lp) (r:Loop) (h1:r.state=l.st) (h2:r.pending=l.oO) (h4:r.params.toList=l.params) (h5:r.assign=l.assign) (h6:r.body=l.body)
   (h8:r.tmps.size=l.fr.n) (h9:∀k t,l.fr.get k=some t->∃v,r.tmps[k]?=some v∧aJ g w t v):gU g w (.lp l) (.loop r)
 |Av:gU g w .Av (.deferred (some []))
def bK(g:Gh)(o b:Nat):Prop:=¬g.bz b∧(g.cj o=some b∨∃e x ad,g.arr o e=some x∧x.a=some ad∧ad.block=b∧x.cap≠0)
structure vR(g:Gh)(w:World)(fz:Bool)(sz:Nat)(es:List D)(x:fB):Prop where
 len:x.len=es.length
 cap:x.len<=x.cap
 rows:∀d∈es,d.cells.length=sz
 pos:0<sz
 Ze:∀d∈es,es.length*d.qT<=281474976710656
 emp:es=[]->x.cap=0
 mem:x.cap≠0->∃b vs ty,x.a=some ⟨b,0,none⟩∧(fz=true↔g.bz b)∧w.heap[b]?=some (.cells vs ty (0,0))∧x.cap*sz<=vs.size∧
  ∀i d j c,es[i]?=some d->d.cells[j]?=some c->∃v,vs[i*sz+j]?=some v∧dZ g.bz w c v
def fD(fz:Bool)(sz:Nat)(es:List D)(era:Nat):Ob:=if fz then .kf sz es era else .arr sz es era
def vN(g:Gh)(s:St)(w:World)(o b:Nat):Prop:=
 ¬g.bz b∧b<w.heap.size∧∀ob,s.ob.get o=some ob->∃h,w.heap[b]?=some h∧gU g w ob h
def vN.box{g:Gh}{s:St}{w:World}{o b:Nat}(h:vN g s w o b){cs:List T}(ho:s.ob.get o=some (.box cs)) :
  ∃vs ty,w.heap[b]?=some (.cells vs ty (0,0))∧cs.length=vs.size∧∀(j:Nat)(t:T)(v:Value),cs[j]?=some t->vs[j]?=some v->aJ g w t v:=by
 obtain⟨x,hh,hr⟩:=h.2.2 _ ho;cases hr with|box cs vs ty hl hr=>exact⟨vs,ty,hh,hl,hr⟩
def vN.Eu(h:vN g s w o b)(fz:Bool){sz:Nat}{es:List D}(ho:s.ob.get o=some (if fz then .kf sz es e else .arr sz es e)):False:=by obtain⟨x,hh,hr⟩:=h.2.2 _ ho;cases fz<;>cases hr
def gU.Eu{h:Obj}(hr:gU g w ob h):ob.oY=false:=by cases hr<;>rfl
def fB.at(x:fB)(b:Nat):Prop:=∃ad,x.a=some ad∧ad.block=b∧x.cap≠0
def lits(nj:Nat)(es:List D)(hs:List Value):List D:=List.zipWith (iQ nj) es hs
def Hy(g:Gh)(m dg:Nat)(hole:Option Nat)(hs:List Value):Prop:=
 (∀(i:Nat)(h:Value),hs[i]?=some h->∃a n k,h=.slice a n k)∧∀(i:Nat)(h:Value),hs[i]?=some h->hole≠some i->∃y,g.arr m (rc dg i)=some y∧h=.slice y.a y.len y.cap
def RR(g:Gh)(w:World)(o e:Nat)(x:fB)(ob:Ob):Prop:=
 ∃fz es era,ob=fD fz x.sz es era∧e<=era∧(∀e',era<e'->g.arr o e'=none)∧(e=era->vR g w fz x.sz es x)
def ajO(g:Gh)(w:World)(o e:Nat)(x:fB)(ob:Ob):Prop:=
 ∃nj es era m dg hole,ob=.kE nj x.sz es era m dg hole∧e<=era∧(∀e',era<e'->g.arr o e'=none)∧
  (e=era->∃hs,hs.length=es.length∧vR g w false x.sz (lits nj es hs) x∧Hy g m dg hole hs)
def ajH(g:Gh)(w:World)(o e:Nat)(x:fB)(ob:Ob):Prop:=
 ∃sz dL dg,ob=.rws sz dL dg∧(∀r i,dg<r->g.arr o (rc r i)=none)∧
  (∀i i' y y',i≠i'->g.arr o (rc dg i)=some y->g.arr o (rc dg i')=some y'->∀b,y.at b->¬y'.at b)∧
  (∀i,e=rc dg i->x.sz=sz∧∃rs,dL[i]?=some rs∧vR g w false sz rs x)
def tU(g:Gh)(w:World)(o e:Nat)(x:fB)(ob:Ob):Prop:=
 RR g w o e x ob∨ajO g w o e x ob∨ajH g w o e x ob∨ob=.gone
def tU.oY{g:Gh}{w:World}{o e:Nat}{x:fB}{ob:Ob}(h:tU g w o e x ob):ob.oY=true:=by
 rcases h with⟨fz,_,_,rfl,_⟩|⟨_,_,_,_,_,_,rfl,_⟩|⟨_,_,_,rfl,_⟩|rfl
 .cases fz<;>rfl
 .rfl
 .rfl
 .rfl
def tU.old(h:tU g w o e x ob)(hi:ob.isA=true):RR g w o e x ob:=by
 rcases h with h|⟨_,_,_,_,_,_,rfl,_⟩|⟨_,_,_,rfl,_⟩|rfl
 .exact h
 .cases hi
 .cases hi
 .cases hi
def Aq(g:Gh)(s:St)(w:World)(o e:Nat)(x:fB):Prop:=
 (∀ad,x.a=some ad->x.cap≠0->ad.block<w.heap.size)∧∀ob,s.ob.get o=some ob->tU g w o e x ob
def Aq.old{g:Gh}{s:St}{w:World}{o e:Nat}{x:fB}(h:Aq g s w o e x)(ob:Ob)(ho:s.ob.get o=some ob)(hi:ob.isA=true) :
  ∃fz es era,ob=fD fz x.sz es era∧e<=era∧(∀e',era<e'->g.arr o e'=none)∧(e=era->vR g w fz x.sz es x):=(h.2 ob ho).old hi
def T6(fz:Bool)(sz:Nat)(es:List D)(era:Nat):(fD fz sz es era).isA=true:=by cases fz<;>rfl
structure bg(g:Gh)(s:St)(w:World):Prop where
 aH:s.aH<=bA
 ak:∀o,s.aH<=o->g.cj o=none∧∀e,g.arr o e=none
 box:∀o b,g.cj o=some b->vN g s w o b
 arr:∀o e x,g.arr o e=some x->Aq g s w o e x
 bz:∀b,g.bz b->b<w.heap.size
 mj:∀o o' b,bK g o b->bK g o' b->o=o'
inductive vM(g:Gh)(w:World):Df->Deferred->Prop where
 |call (f:T) (args:List T) (fv:Fn) (first cap wQ:Array Value) (h3:aJ g w f (.func fv first cap)) (h4:args.length=wQ.size)
   (h5:∀(j:Nat)(t:T)(v:Value),args[j]?=some t->wQ[j]?=some v->aJ g w t v):vM g w (.call f args) {target:=.fn fv cap,args:=first++wQ}
 |mark (o b:Nat) (h:g.cj o=some b):vM g w (.mark o) {target:=.collected b,args:=#[]}
 |bad (d:Deferred):vM g w .bad d
inductive j9(g:Gh)(w:World):List Df->List Deferred->Prop where
 |nil:j9 g w [] []
 |cons {d:Df} {e:Deferred} {l:List Df} {m:List Deferred} (h:vM g w d e) (t:j9 g w l m):j9 g w (d::l) (e::m)
structure cE(g:Gh)(fr:Fr)(a:Act)(w:World):Prop where
 size:a.tmps.size=fr.n
 df:j9 g w fr.df a.defers
 tm:∀k t,fr.get k=some t->∃v,a.tmps[k]?=some v∧aJ g w t v
structure Ext(fl:Nat)(g:Gh)(w:World)(g':Gh)(w':World):Prop where
 cj:∀o b,g.cj o=some b->g'.cj o=some b
 arr:∀o e x,g.arr o e=some x->g'.arr o e=some x
 bz:∀b,g.bz b->g'.bz b
 size:w.heap.size<=w'.heap.size
 heap:∀b,b<w.heap.size->(∀o,fl<=o->¬bK g o b)->w'.heap[b]?=w.heap[b]?
 own:∀o b,bK g' o b->bK g o b∨w.heap.size<=b
 uJ:∀b,g'.bz b->g.bz b∨w.heap.size<=b∨∃o,fl<=o∧bK g o b
 os:w'.os=w.os
 output:w'.output=w.output
def Ext.refl(fl:Nat)(g:Gh)(w:World):Ext fl g w g w:=
 ⟨λ_ _ h=>h,λ_ _ _ h=>h,λ_ h=>h,bT _,λ_ _ _=>rfl,λ_ _ h=>.inl h,λ_ h=>.inl h,rfl,rfl⟩
def Ext.trans{fl:Nat}{g g' xh:Gh}{w w' w'':World}(h:Ext fl g w g' w')(k:Ext fl g' w' xh w''):Ext fl g w xh w'' where
 cj o b e:=k.cj o b (h.cj o b e)
 arr o e x e':=k.arr o e x (h.arr o e x e')
 bz b e:=k.bz b (h.bz b e)
 size:=fS h.size k.size
 heap b hb hn:=by
  rw[k.heap b (dy hb h.size) (λo ho hO=>?_),h.heap b hb hn];rcases h.own o b hO with hO|hO
  .exact hn o ho hO
  .omega
 own o b hO:=by
  rcases k.own o b hO with hO|hO
  .exact h.own o b hO
  .exact .inr (fS h.size hO)
 uJ b hb:=by
  rcases k.uJ b hb with hb|hb|⟨o,ho,hO⟩
  .exact h.uJ b hb
  .exact .inr (.inl (fS h.size hb))
  .rcases h.own o b hO with hO|hO
   .exact .inr (.inr ⟨o,ho,hO⟩)
   .exact .inr (.inl hO)
 os:=k.os.trans h.os
 output:=k.output.trans h.output
def Ext.keeps(h:Ext fl g w g' w')(hi:∀b,g.bz b->b<w.heap.size):tQ g.bz w w':=
 λb hb=>h.heap b (hi b hb) λ_ _ hO=>hO.1 hb
def dZ.ext(h:Ext fl g w g' w')(hi:∀b,g.bz b->b<w.heap.size)(hd:dZ g.bz w d v):dZ g'.bz w' d v:=
 hd.mono (h.keeps hi) h.bz
def aJ.ext{fl:Nat}{g g':Gh}{w w':World}(h:Ext fl g w g' w')(hi:∀b,g.bz b->b<w.heap.size){t:T}{v:Value}(ht:aJ g w t v):aJ g' w' t v:=by
 induction ht with|sym d v hd=>exact .sym d v (hd.ext h hi)|kb b=>exact .kb b|kn k n=>exact .kn k n|ptr o off b hb=>exact .ptr o off b (h.cj o b hb)|mV d off ad val jt hc hd=>exact .mV d off ad val (h.bz _ jt) (λj c hj=>by rw[(h.keeps hi).cell (by rw[kZ];exact jt)];exact hc j c hj) (λj c hj=>(hd j c hj).ext h hi)|kL o e i off len cap sz ad hx=>exact .kL o e i off len cap sz ad (h.arr _ _ _ hx)|sh o e len cap sz a hx=>exact .sh o e len cap sz a (h.arr _ _ _ hx)|emp a=>exact .emp a|jI n es a hn hd=>exact .jI n es a hn (hd.ext h hi)|fn f fs cs va vc hl hm _ _ ih Tj=>exact .fn f fs cs va vc hl hm ih Tj|cR t x v _ ih=>exact .cR t x v ih|agg cs vs hl _ ih=>exact .agg cs vs hl ih|gq cs vs hl _ ih=>exact .gq cs vs hl ih|gd c t v _ ih=>exact .gd c t v ih|mp o b hb=>exact .mp o b (h.cj o b hb)|rZ o b hb=>exact .rZ o b (h.cj o b hb)|rY o b hb=>exact .rY o b (h.cj o b hb)|ub e b h=>exact .ub e b h|qF o m r i len cap sz a hx=>exact .qF o m r i len cap sz a (h.arr _ _ _ hx)|n9 j d c a hj hd=>exact .n9 j d c a hj (hd.ext h hi)
def aJ.apo(ha:∀k j y,g.arr k j=some y->g'.arr k j=some y)(hb:g'.cj=g.cj)(hi:g'.bz=g.bz)(ht:aJ g w t v):aJ g' w t v:=by
 induction ht with|sym d v hd=>exact .sym d v (hi▸hd)|kb b=>exact .kb b|kn k n=>exact .kn k n|ptr o off b h=>exact .ptr o off b (hb▸h)|mV d off ad val jt hc hd=>exact .mV d off ad val (hi▸jt) hc (λj c hj=>hi▸hd j c hj)|kL o e i off len cap sz ad hx=>exact .kL o e i off len cap sz ad (ha _ _ _ hx)|sh o e len cap sz a hx=>exact .sh o e len cap sz a (ha _ _ _ hx)|emp a=>exact .emp a|jI n es a hn hd=>exact .jI n es a hn (hi▸hd)|fn f fs cs va vc hl hm _ _ ih Tj=>exact .fn f fs cs va vc hl hm ih Tj|cR t x v _ ih=>exact .cR t x v ih|agg cs vs hl _ ih=>exact .agg cs vs hl ih|gq cs vs hl _ ih=>exact .gq cs vs hl ih|gd c t v _ ih=>exact .gd c t v ih|mp o b h=>exact .mp o b (hb▸h)|rZ o b h=>exact .rZ o b (hb▸h)|rY o b h=>exact .rY o b (hb▸h)|ub e b h=>exact .ub e b h|qF o m r i len cap sz a hx=>exact .qF o m r i len cap sz a (ha _ _ _ hx)|n9 j d c a hj hd=>exact .n9 j d c a hj (hi▸hd)
def gU.imp(hT:∀t v,aJ g w t v->aJ g' w' t v){x:Obj}(hr:gU g w ob x):gU g' w' ob x:=by
 cases hr with
 |box cs vs ty hl hr=>exact .box cs vs ty hl λj t v h1 h2=>hT _ _ (hr j t v h1 h2)
 |map es ms c hl hr=>exact .map es ms c hl λj t m h1 h2=>⟨hT _ _ (hr j t m h1 h2).1,hT _ _ (hr j t m h1 h2).2⟩
 |pO s pos=>exact .pO s pos
 |lp l r h1 h2 h4 h5 h6 h8 h9=>exact .lp l r h1 h2 h4 h5 h6 h8 λk t hk=>let ⟨v,hv,ht⟩:=h9 k t hk;⟨v,hv,hT _ _ ht⟩
 |Av=>exact .Av
def gU.ext{fl:Nat}{g g':Gh}{w w':World}(h:Ext fl g w g' w')(hi:∀b,g.bz b->b<w.heap.size){ob:Ob}{x:Obj}(hr:gU g w ob x):gU g' w' ob x:=
 hr.imp (λ_ _ ht=>ht.ext h hi)
def tP(p:T->Bool)(t u:T):Prop:=(u=t∧p t=false)∨∃v,u=.gd false v
def qu(p:T->Bool)(ob Ar:Ob):Prop:=
 match ob,Ar with
 | .box cs,.box ds=>cs.length=ds.length∧∀(j:Nat)(t u:T),cs[j]?=some t->ds[j]?=some u->tP p t u
 | .map es,.map ds=>es.length=ds.length∧∀(j:Nat)(t u:T×T),es[j]?=some t->ds[j]?=some u->tP p t.1 u.1∧tP p t.2 u.2
 | .kE nj sz es era m dg hole,Ar=>(Ar=.kE nj sz es era m dg hole∧p (.sh m 0)=false)∨Ar=.gone
 | .lp l,.lp m=>m={l with fr:=m.fr}∧m.fr.n=l.fr.n∧∀k u,m.fr.get k=some u->∃t,l.fr.get k=some t∧tP p t u
 |ob,Ar=>ob=Ar
def tP.rel(hT:∀t v,aJ g w t v->p t=false->aJ g' w' t v){u:T}(h:tP p t u)(ht:aJ g w t v):aJ g' w' u v:=by
 rcases h with⟨rfl,hp⟩|⟨x,rfl⟩
 .exact hT _ _ ht hp
 .exact .gd _ _ _ λh=>by cases h
def nN{α:Type}{l:List α}{j:Nat}{a:α}(h:l[j]?=some a):j<l.length:=(tW.1 h).1
def gU.left(hT:∀t v,aJ g w t v->p t=false->aJ g' w' t v){Ar:Ob}{x:Obj}(hr:gU g w ob x)(hl:qu p ob Ar):gU g' w' Ar x:=by
 cases hr with
 |box cs vs ty hlen hr=>
  cases Ar with
  |box ds=>
   obtain⟨l1,l2⟩:=hl;refine .box ds vs ty (by omega) λj u v hu hv=>?_;have hj:j<cs.length:=by rw[l1];exact nN hu
   exact(l2 j _ u (gm hj) hu).rel hT (hr j _ v (gm hj) hv)
  |_=>cases hl
 |map es ms c hlen hr=>
  cases Ar with
  |map ds=>
   obtain⟨l1,l2⟩:=hl;refine .map ds ms c (by omega) λj u m hu hm=>?_;have hj:j<es.length:=by rw[l1];exact nN hu
   have h1:=l2 j _ u (gm hj) hu;have h2:=hr j _ m (gm hj) hm;exact⟨h1.1.rel hT h2.1,h1.2.rel hT h2.2⟩
  |_=>cases hl
 |pO s pos=>cases Ar<;>first|(cases hl;exact .pO _ _)|cases hl
 |lp l r h1 h2 h4 h5 h6 h8 h9=>
  cases Ar with
  |lp m=>obtain⟨e,k1,k2⟩:=hl;rw[e];refine .lp _ r h1 h2 h4 h5 h6 (h8.trans k1.symm) λk u hu=>?_;obtain⟨t,ht,hlt⟩:=k2 k u hu;obtain⟨v,hv,htv⟩:=h9 k t ht;exact⟨v,hv,hlt.rel hT htv⟩
  |_=>cases hl
 |Av=>cases Ar<;>first|exact .Av|cases hl
def vM.imp(hT:∀t v,aJ g w t v->aJ g' w' t v)(hb:∀o b,g.cj o=some b->g'.cj o=some b){d:Df}{e:Deferred}(h:vM g w d e):vM g' w' d e:=by
 cases h with
 |call f args fv first cap wQ h3 h4 h5=>exact .call f args fv first cap wQ (hT _ _ h3) h4 (λj t v k1 k2=>hT _ _ (h5 j t v k1 k2))
 |mark o b h=>exact .mark o b (hb o b h)
 |bad=>exact .bad _
def j9.imp{g g':Gh}{w w':World}(hT:∀t v,aJ g w t v->aJ g' w' t v)(hb:∀o b,g.cj o=some b->g'.cj o=some b){l:List Df}{m:List Deferred}(h:j9 g w l m):j9 g' w' l m:=by
 induction h with|nil=>exact .nil|cons h _ ih=>exact .cons (h.imp hT hb) ih
def Ks(p:T->Bool)(d e:Df):Prop:=e=.bad∨(e=d∧match d with
 | .call f args=>p f=false∧∀t∈args,p t=false
 | .mark o=>p (.ptr o 0)=false
 | .bad=>True)
inductive tu(p:T->Bool):List Df->List Df->Prop where
 |nil:tu p [] []
 |cons {d e:Df} {l m:List Df} (h:Ks p d e) (t:tu p l m):tu p (d::l) (e::m)
def Ks.rel(hT:∀t v,aJ g w t v->p t=false->aJ g' w' t v){d e:Df}{x:Deferred}(h:Ks p d e)(hr:vM g w d x):vM g' w' e x:=by
 rcases h with rfl|⟨rfl,h⟩
 .exact .bad _
 .cases hr with
  |call f args fv first cap wQ h3 h4 h5=>exact .call f args fv first cap wQ (hT _ _ h3 h.1) h4 (λj t v k1 k2=>hT _ _ (h5 j t v k1 k2) (h.2 t (gW k1)))
  |mark o b hb=>
   have:=hT _ _ (.ptr o 0 b hb) h;cases this with|ptr _ _ _ hb'=>exact .mark o b hb'
  |bad=>exact .bad _
def tu.rel{g g':Gh}{w w':World}{p:T->Bool}(hT:∀t v,aJ g w t v->p t=false->aJ g' w' t v):∀{l m:List Df}{xs:List Deferred},tu p l m->j9 g w l xs->j9 g' w' m xs
 |_,_,_,.nil,.nil=>.nil
 |_,_,_,.cons h t,.cons k u=>.cons (h.rel hT k) (tu.rel hT t u)
def cE.ext{fl:Nat}{g g':Gh}{w w':World}(h:Ext fl g w g' w')(hi:∀b,g.bz b->b<w.heap.size){fr:Fr}{a:Act}(hf:cE g fr a w):cE g' fr a w':=
 ⟨hf.size,hf.df.imp (λ_ _ ht=>ht.ext h hi) h.cj,λk t hk=>let ⟨v,hv,ht⟩:=hf.tm k t hk;⟨v,hv,ht.ext h hi⟩⟩
end
section
def dP:TypeDesc->Bool
 | .struct _|.array _ _=>true
 |_=>false
def aeY(d:D)(v:Value):Prop:=(d=.sl []∧v=.slice none 0 0)∨d=.lit v
def ZOk(zero:List D)(cells:Array Value):Prop:=
 zero.length=cells.size∧∀(j:Nat)(d:D)(v:Value),zero[j]?=some d->cells[j]?=some v->aeY d v
def NN(P:Program):Kd->TypeDesc->Prop
 | .leaf (.int k),d=>d=.int k
 | .leaf .bool,d=>d=.bool
 | .leaf .str,d=>d=.string
 | .leaf .no,_=>True
 | .ptr,d=>∃e,d=.pointer e
 | .slice sz ag bt zero,d=>∃e j d' z,d=.slice e∧P.info? e=some j∧j.size=sz∧P.underlying e=some d'∧ag=dP d'∧j.zero=some z∧ZOk zero z.cells∧j.bytes<=4096∧0<sz∧j.bytes<=bt∧bt<=2*j.bytes∧0<j.bytes∧zero.length=sz
 | .struct fs,d=>∃fields,d=.struct fields∧fields.size=fs.length∧∀(k:Nat)off size ag,fs[k]?=some (off,size,ag)->
   ∃f j d',fields[k]?=some f∧f.offset=off∧P.info? f.type=some j∧j.size=size∧P.underlying f.type=some d'∧ag=dP d'
 | .array len sz ag,d=>∃e j d',d=.array len e∧P.info? e=some j∧j.size=sz∧P.underlying e=some d'∧ag=dP d'
 | .iface,d=>∃ms,d=.interface ms
 | .other,_=>True
def Aj:Lk->Value->Prop
 | .int k,v=>∃n,v=.int k n
 | .bool,v=>∃b,v=.bool b
 | .str,v=>∃b,v=.string b
 | .no,_=>False
def Fe:Value->Value->Bool
 | .int _ a,.int _ b=>a==b
 | .bool a,.bool b=>a==b
 | .string a,.string b=>a==b
 |_,_=>false
def kK:List Value->List Value->Bool
 |a::l,b::m=>Fe a b&&kK l m
 |_,_=>true
def afF(P:Program)(t:TypeId)(YW:List Lk):Prop:=
 ∀(w:World)(op:BinOp)(x y:Operand)(xs ys:Array Value),xs.size=YW.length->ys.size=YW.length->
  (∀(j:Nat)(l:Lk)(v:Value),YW[j]?=some l->xs[j]?=some v->Aj l v)->(∀(j:Nat)(l:Lk)(v:Value),YW[j]?=some l->ys[j]?=some v->Aj l v)->
  (eqGuard op t x y (.agg xs) (.agg ys)).run P w=.ok () w∧(Op.equal t (.agg xs) (.agg ys)).run P w=.ok (kK xs.toList ys.toList) w
structure nu(P:Program)(t:TypeId)(i:TI):Prop where
 eqs:i.agg=true->i.YW≠[]->afF P t i.YW
 nif:∀ms,P.underlying t=some (.interface ms)->i.kd=.iface
 zag:∀x z,P.info? t=some x->x.zero=some z->(i.agg=true->∃vs,z=.agg vs)∧(i.agg=false->z.cells=#[z])
 all:∃x d z,P.info? t=some x∧P.underlying t=some d∧x.size=i.size∧i.agg=dP d∧x.zero=some z∧ZOk i.zero z.cells∧NN P i.kd d
section
variable {P:Program}
def aL{t:TypeId}{d:TypeDesc}(h:P.underlying t=some d)(w:World):(underlying t).run P w=.ok d w:=by simp[underlying,h]
def qy{t:TypeId}{x:TypeInfo}(h:P.info? t=some x)(w:World):(typeInfo t).run P w=.ok x w:=by simp[typeInfo,h]
def dB{t:TypeId}{x:TypeInfo}(h:P.info? t=some x)(w:World):(Go.sizeOf t).run P w=.ok x.size w:=by simp[Go.sizeOf,qy h]
def si{t:TypeId}{d:TypeDesc}(h:P.underlying t=some d)(w:World):(isAgg t).run P w=.ok (dP d) w:=by simp only[isAgg,Sem.run_bind,aL h,Result.andThen_ok];cases d<;>rfl
def ef{t:TypeId}{x:TypeInfo}{z:Value}(h:P.info? t=some x)(hz:x.zero=some z)(w:World):(zeroValue t).run P w=.ok z w:=by simp[zeroValue,qy h,hz]
def beq_iff'{a b:Nat}:Nat.beq a b=true↔a=b:=by
 constructor
 .exact nT
 .intro h;subst h;exact HQ a
def zb{t:TypeId}{x:TypeInfo}{d:TypeDesc}(hi:P.info? t=some x)(hu:P.underlying t=some d)(w:World)(a:Addr)(vals:List Value)(hl:vals.length=x.size)
  (hc:∀j v,vals[j]?=some v->w.cell? (a.add j)=some v) (h1:dP d=false->∃v,vals=[v]) :
  (loadVar t a).run P w=.ok (if dP d then .agg vals.toArray else vals.headD undef) w:=by
 have hls:=run_loadCells_list (P:=P) w a vals hc;simp only[loadVar,Sem.run_bind,si hu,Result.andThen_ok];cases hd:dP d with|true=>simp[dB hi,<-hl,hls]|false=>obtain⟨v,rfl⟩:=h1 hd;have h0:=hc 0 v rfl;simp[Addr.add]at h0;simp[h0]
end
variable {j:Nat}{ag:Bool}{cs:List T}{t:T}{g:Gh}{w:World}
def aD{α:Type}{l:List α}{x:α}(h:l[j]?=some x):j<l.length:=by
 rcases zm j l.length with h'|h'
 .exact h'
 .rw[Jt h']at h;cases h
def oM{n k:Nat}(h:(List.range n)[j]?=some k):j=k∧j<n:=by
 have hlt:j<n:=by have:=aD h;simpa using this
 rw[SJ hlt]at h;exact⟨by simpa using h,hlt⟩
def vD(a:Addr)(i j:Nat):(a.add i).add j=a.add (i+j):=by unfold Addr.add;by_cases hi:i=0<;>by_cases hj:j=0<;>simp[hi,hj,Nat.add_assoc]
def El(h:uy ag cs=some t):(ag=true∧t=.agg cs)∨(ag=false∧cs=[t]):=by
 unfold uy at h;cases ag with
 |true=>simp at h;exact .inl ⟨rfl,h.symm⟩
 |false=>
  simp at h;split at h
  .simp at h;subst h;exact .inr ⟨rfl,rfl⟩
  .cases h
def vY(h:uy ag cs=some t){vals:List Value}(hl:cs.length=vals.length)
  (hv:∀(j:Nat)(t:T)(v:Value),cs[j]?=some t->vals[j]?=some v->aJ g w t v) :
  aJ g w t (if ag then .agg vals.toArray else vals.headD undef)∧(ag=false->∃v,vals=[v]):=by
 rcases El h with⟨rfl,rfl⟩|⟨rfl,rfl⟩
 .exact ⟨.agg _ _ (by simpa using hl) (λj t v h1 h2=>hv j t v h1 (by simpa using h2)),λh=>by cases h⟩
 .match vals,hl with
  |[v],_=>exact⟨hv 0 _ _ rfl rfl,λ_=>⟨v,rfl⟩⟩
def qx{α:Type}(l:List α)(off n j:Nat)(x:α)(h:((l.drop off).take n)[j]?=some x):l[off+j]?=some x∧j<n:=by
 rw[xO]at h;split at h
 .rename_i hj;rw[DZ]at h;exact⟨h,hj⟩
 .cases h
def D.Fz(d:D)(j:Nat)(h:j<d.cells.length):d.cells[j]?=some (d.cell j):=by simp[D.cell,List.getD,gm h]
def BX{P:Program}{ty:TypeId}{i:TI}(hi:nu P ty i){d:D}{off:Nat}(h:nM i d off=some t)(hh:d.has (Nat.add off i.size))
  {ad:Addr} {val:Nat->Value} (hc:∀j c,d.cells[j]?=some c->w.cell? (ad.add j)=some (val j)) (hd:∀j c,d.cells[j]?=some c->dZ g.bz w c (val j)) :
  ∃v,(loadVar ty (ad.add off)).run P w=.ok v w∧aJ g w t v:=by
 obtain⟨x,ds,z,hx,hu,hsz,pP,_⟩:=hi.all;have hn:off+i.size<=d.cells.length:=hh;have hcell:∀j,j<i.size->w.cell? ((ad.add off).add j)=some (val (off+j))∧dZ g.bz w (d.cell (off+j)) (val (off+j)):=by
  intro j hj;have hlt:off+j<d.cells.length:=by omega
  rw[vD];exact⟨hc _ _ (D.Fz d _ hlt),hd _ _ (D.Fz d _ hlt)⟩
 have hrun:=zb (P:=P) hx hu w (ad.add off) ((List.range i.size).map λj=>val (off+j)) (by simp[hsz]) (λj v hj=>by
  simp only[gQ,eA]at hj;obtain⟨k,hk,rfl⟩:=hj;obtain⟨rfl,hlt⟩:=oM hk;exact(hcell j hlt).1)
 unfold nM at h;cases hg:i.agg with
 |true=>
  rw[hg]at h pP;simp at h;subst h;refine⟨_,hrun (λhf=>by rw[<-pP]at hf;cases hf),?_⟩;rw[<-pP];simp only[fR];refine .agg _ _ (by simp) (λj t v h1 h2=>?_);simp only[gQ,eA]at h1;obtain⟨k,hk,rfl⟩:=h1;obtain⟨rfl,hlt⟩:=oM hk;have hv:v=val (off+j):=by simp[hlt]at h2;exact h2.symm
  subst hv;exact .sym _ _ (hcell j hlt).2
 |false=>
  rw[hg]at h pP;simp at h;by_cases h1:Nat.beq i.size 1=true
  .simp[h1]at h;subst h;have zL:=beq_iff'.1 h1;refine⟨_,hrun (λ_=>⟨val off,by simp[zL]⟩),?_⟩;rw[<-pP];have:=(hcell 0 (by omega)).2;simp[zL];exact .sym _ _ (by simpa using this)
  .rw[Bool.not_eq_true]at h1;simp[h1]at h
end
section
def af{α:Type}{b:Bool}{x y:Option α}{z:α}(h:(bif b then x else y)=some z):(b=true∧x=some z)∨(b=false∧y=some z):=by
 cases b
 .exact .inr ⟨rfl,h⟩
 .exact .inl ⟨rfl,h⟩
variable {w:World}{d:D}{v:Value}{g:Gh}{t:T}{i:TI}{s:St}{o e sz k:Nat}{es:List D}{fz:Bool}
def uH{I:Nat->Prop}(hl:d.leaf=true)(h:dZ I w d v):v.oneCell'=true∧v.cells=#[v]:=by
 cases h with
 |lit v=>cases v<;>first|exact⟨rfl,rfl⟩|cases hl
 |sl=>exact⟨rfl,rfl⟩
 |agg=>cases hl
 |cR=>exact⟨rfl,rfl⟩
 |gq=>cases hl
def Sr(hl:t.leaf)(h:aJ g w t v):v.oneCell'=true∧v.cells=#[v]:=by cases h with|sym d v hd=>exact uH hl hd|agg=>exact hl.elim|gq=>exact hl.elim|gd=>exact hl.elim|_=>exact⟨rfl,rfl⟩
def xZ{n:Nat}(h:d.isAgg n=true):∃cs,d=.agg cs∧cs.length=n∧∀c∈cs,c.leaf=true:=by
 unfold D.isAgg at h;split at h
 .rename_i cs;simp only[eE]at h;refine⟨cs,rfl,?_,?_⟩
  .rw[<-bH];exact beq_iff'.1 h.1
  .simpa using h.2
 .cases h
def lV{p:Prop}{cs:List T}(h:iT i t=some (p,cs))(hp:p)(ht:aJ g w t v) :
  cs.length=i.size∧v.cells.size=i.size∧(∀(j:Nat)(t:T)(u:Value),cs[j]?=some t->v.cells[j]?=some u->aJ g w t u)∧
  (i.agg=true->∃vs,v=.agg vs)∧(i.agg=false->v.cells=#[v]∧i.size=1):=by
 cases ht with
 |agg ts vs hl hr=>
  simp only[iT]at h;rcases af h with⟨hb,h⟩|⟨_,h⟩
  .simp only[eE]at hb;have hn:=beq_iff'.1 hb.2;rw[bH]at hn;simp only[bf,bB]at h;obtain⟨_,rfl⟩:=h;refine⟨hn,by simp[Value.cells,<-hl,hn],λj t u h1 h2=>hr j t u h1 h2,λ_=>⟨vs,rfl⟩,λhf=>by rw[hb.1]at hf;cases hf⟩
  .cases h
 |sym d v hd=>
  simp only[iT]at h;rcases af h with⟨hb,h⟩|⟨hb,h⟩
  .simp only[bf,bB]at h;obtain⟨rfl,rfl⟩:=h;obtain⟨ds,rfl,hn,hlf⟩:=xZ hp;cases hd with|agg _ vs hl _ hr=>refine⟨by simp,by simp[Value.cells,<-hl,hn],λj t u h1 h2=>?_,λ_=>⟨vs,rfl⟩,λhf=>by rw[hb]at hf;cases hf⟩;simp only[gQ,eA]at h1;obtain⟨k,hk,rfl⟩:=h1;obtain⟨rfl,hlt⟩:=oM hk;exact .sym _ _ (hr j _ u (D.Fz (.agg ds) j (by simpa[D.cells,hn]using hlt)) h2)
  .rcases af h with⟨h1,h⟩|⟨_,h⟩
   .simp only[bf,bB]at h;obtain⟨rfl,rfl⟩:=h;have zL:=beq_iff'.1 h1;obtain⟨_,hc⟩:=uH hp hd;refine⟨by simp[zL],by simp[hc,zL],λj t u h2 h3=>?_,λhf=>(by rw[hb]at hf;cases hf),λ_=>⟨hc,zL⟩⟩;rw[hc]at h3;cases j with|zero=>simp at h2 h3;subst h2;subst h3;exact .sym _ _ hd|succ j=>simp at h2
   .cases h
 |gq=>cases h
 |gd=>cases h
 |kb|kn|ptr|mV|kL|sh|emp|jI|fn|cR|mp|rZ|rY|ub|qF|n9=>
  all_goals
   simp only[iT]at h;rcases af h with⟨_,h⟩|⟨hb,h⟩
   .cases h
   .rcases af h with⟨h1,h⟩|⟨_,h⟩
    .simp only[bf,bB]at h;obtain⟨_,rfl⟩:=h;have zL:=beq_iff'.1 h1;refine⟨by simp[zL],by simp[Value.cells,zL],?_,λhf=>(by rw[hb]at hf;cases hf),λ_=>⟨rfl,zL⟩⟩;intro j t u h2 h3;cases j with|zero=>simp[Value.cells]at h2 h3;subst h2;subst h3;constructor<;>assumption|succ j=>simp at h2
    .cases h
def IL(h:Hu s o e=some (sz,es)):∃fz,s.ob.get o=some (fD fz sz es e):=by
 unfold Hu at h;split at h
 .rename_i sz' es' era ho;rcases af h with⟨hb,h⟩|⟨_,h⟩
  .have:=beq_iff'.1 hb;subst this;simp at h;obtain⟨rfl,rfl⟩:=h;exact⟨false,ho⟩
  .cases h
 .rename_i sz' es' era ho;rcases af h with⟨hb,h⟩|⟨_,h⟩
  .have:=beq_iff'.1 hb;subst this;simp at h;obtain⟨rfl,rfl⟩:=h;exact⟨true,ho⟩
  .cases h
 .cases h
def jW{jZ:Bool}{sz' e':Nat}{es':List D}(h:fD fz sz es e=fD jZ sz' es' e'):fz=jZ∧sz=sz'∧es=es'∧e=e':=by cases fz<;>cases jZ<;>simp[fD]at h<;>exact⟨rfl,h⟩
def bg.nG(hs:bg g s w){x:fB}(ho:s.ob.get o=some (fD fz sz es e))(hx:g.arr o e=some x) :
  vR g w fz sz es x∧x.sz=sz:=by
 obtain⟨jZ,es',era,ho',_,_,hok⟩:=(hs.arr o e x hx).old _ ho (T6 _ _ _ _);obtain⟨rfl,h2,rfl,rfl⟩:=jW ho';exact⟨h2▸hok rfl,h2.symm⟩
def cell?_of_block{b off:Nat}{vs:Array Value}{ty:TypeId}{fz:Nat×Nat}(h:w.heap[b]?=some (.cells vs ty fz)):w.cell? ⟨b,off,none⟩=vs[off]?:=by simp[World.cell?,h]
def nH(b off n:Nat):(⟨b,off,none⟩:Addr).add n=⟨b,off+n,none⟩:=by unfold Addr.add;split<;>simp_all
def Rg(h:D.GU (k:Int) (D.len es)):k<es.length:=by have:=h.2;unfold D.len at this;omega
def D.J8(h:k<es.length):es[k]?=some (D.el es k):=by simp[D.el,List.getD,gm h]
def Ce{P:Program}{ty:TypeId}(hi:nu P ty i){s':St}(hs:bg g s w){x:T}{vx:Value}(hx:aJ g w x vx)
  {p:Prop} {t:T} (h:loadT i s x=some (p,t,s')) (hp:p):∃v,(Instr.loadAt ty vx).run P w=.ok v w∧aJ g w t v∧s'=s:=by
 cases hx with
 |ptr o off b hb=>
  cases ho:s.ob.get o with
  |none=>simp[loadT,ho]at h
  |some ob=>
  simp only[loadT,ho]at h;cases ob with
  |box cs=>
  obtain⟨vs,UH,hh,hl,hr⟩:=(hs.box o b hb).box ho;simp only at h;rcases af h with⟨hn,h⟩|⟨_,h⟩
  .have hn':=beq_iff'.1 hn;rw[bH]at hn';simp only[eA,bB]at h;obtain⟨t',ht',_,rfl,rfl⟩:=h;obtain⟨xi,d,z,xb,hu,hsz,pP,_⟩:=hi.all;have hlen:((vs.toList.drop off).take i.size).length=i.size:=by
    have:((cs.drop off).take i.size).length=((vs.toList.drop off).take i.size).length:=by simp[hl]
    rw[<-this,hn']
   obtain⟨lC,h1⟩:=vY (g:=g) (w:=w) ht' (vals:=(vs.toList.drop off).take i.size) (by rw[hn',hlen]) (λj t v h1 h2=>by
    obtain⟨h1,_⟩:=qx _ _ _ _ _ h1;obtain⟨h2,_⟩:=qx _ _ _ _ _ h2;exact hr _ _ _ h1 (by simpa using h2))
   refine⟨_,?_,lC,rfl⟩;have:=zb (P:=P) xb hu w ⟨b,off,none⟩ ((vs.toList.drop off).take i.size) (by rw[hlen,hsz]) (λj v hj=>by
    obtain⟨hj,_⟩:=qx _ _ _ _ _ hj;rw[nH,cell?_of_block hh];simpa using hj) (λhf=>h1 (by rw[pP,hf]))
   rw[pP];simpa[Instr.loadAt,Instr.sureAddr]using this
  .cases h
  |_=>simp at h
 |mV d off ad val jt hc hd=>simp only[loadT,eA,bB]at h;obtain⟨t',ht',rfl,rfl,rfl⟩:=h;obtain⟨v,hv,ht⟩:=BX hi ht' hp hc hd;exact⟨v,by simpa[Instr.loadAt,Instr.sureAddr]using hv,ht,rfl⟩
 |kL o e k off len cap sz ad hx=>
  simp only[loadT]at h;cases ha:Hu s o e with
  |none=>simp[ha]at h
  |some q=>
   obtain⟨sz',es⟩:=q;obtain⟨fz,ho⟩:=IL ha;obtain⟨hok,hsz⟩:=hs.nG ho hx;simp only[ha,eA,bB]at h;obtain⟨t',ht',rfl,rfl,rfl⟩:=h;simp only at hsz;subst hsz;have hk:=Rg hp.1;have hcap:(⟨some ad,len,cap,sz⟩:fB).cap≠0:=by have h1:=hok.len;have h2:=hok.cap;simp only at h1 h2 ⊢;omega
   obtain⟨b,vs,UH,hab,_,hh,_,kI⟩:=hok.mem hcap;simp only[bf]at hab;subst hab;have hex:∀j,∃v,∀c,(D.el es k).cells[j]?=some c->w.cell? ((⟨b,k*sz,none⟩:Addr).add j)=some v∧dZ g.bz w c v:=by
    intro j;by_cases hj:j<(D.el es k).cells.length
    .obtain ⟨v,hv,hd⟩:=kI k _ j _ (D.J8 hk) (gm hj);refine⟨v,λc hc=>?_⟩;rw[gm hj]at hc;rw[<-eI hc,nH,cell?_of_block hh];exact⟨hv,hd⟩
    .exact ⟨undef,λc hc=>by rw[Jt (by omega)]at hc;cases hc⟩
   obtain⟨val,hval⟩:=SL hex;obtain⟨v,hv,ht⟩:=BX hi ht' hp.2 (ad:=⟨b,k*sz,none⟩) (val:=val) (λj c hc=>(hval j c hc).1) (λj c hc=>(hval j c hc).2);refine⟨v,?_,ht,rfl⟩;rw[nH]at hv;rw[nH];simpa[Instr.loadAt,Instr.sureAddr]using hv
 |_=>simp[loadT]at h
end
section
def setRow_other(w:World)(g b:Nat)(cs:Array Value)(h:b≠g):(w.setRow g cs).heap[b]?=w.heap[b]?:=by unfold World.setRow;rw[Array.getElem?_modify,bw (λe=>h e.symm)]
variable {g g':Gh}{s s':St}{w w':World}{o b e fl sz:Nat}{x:fB}{fz:Bool}{es:List D}{ob:Ob}
def bg.lt(hs:bg g s w)(h:g.cj o=some b):o<s.aH:=by
 rcases zm o s.aH with h'|h'
 .exact h'
 .rw[(hs.ak o h').1]at h;cases h
def bg.lt'(hs:bg g s w)(h:g.arr o e=some x):o<s.aH:=by
 rcases zm o s.aH with h'|h'
 .exact h'
 .rw[(hs.ak o h').2 e]at h;cases h
def bg.rB(hs:bg g s w)(h:bK g o b):b<w.heap.size∧o<s.aH:=by
 rcases h.2 with h1|⟨e,x,ad,h1,ha,hbe,hc⟩
 .exact ⟨(hs.box o b h1).2.1,hs.lt h1⟩
 .exact ⟨hbe▸(hs.arr o e x h1).1 ad ha hc,hs.lt' h1⟩
def vN.ext{g g':Gh}{s s':St}{w w':World}{fl o b:Nat}(he:Ext fl g w g' w')(hi:∀b,g.bz b->b<w.heap.size)(hb:w'.heap[b]?=w.heap[b]?)
  (ho:s'.ob.get o=s.ob.get o) (jt:¬g'.bz b) (h:vN g s w o b):vN g' s' w' o b:=by
 obtain⟨_,hlt,hr⟩:=h;refine⟨jt,dy hlt he.size,λob cB=>?_⟩;obtain⟨x,h1,h2⟩:=hr ob (ho▸cB);exact⟨x,hb.trans h1,h2.ext he hi⟩
def vR.ext{g g':Gh}{w w':World}{fl:Nat}{fz:Bool}{sz:Nat}{es:List D}{x:fB}(he:Ext fl g w g' w')(hi:∀b,g.bz b->b<w.heap.size)
  (hb:∀b,x.a=some ⟨b,0,none⟩->x.cap≠0->w'.heap[b]?=w.heap[b]?∧(g'.bz b↔g.bz b)) (h:vR g w fz sz es x):vR g' w' fz sz es x:=
 ⟨h.len,h.cap,h.rows,h.pos,h.Ze,h.emp,λhc=>by
  obtain⟨b,vs,ty,h1,h2,h3,h4,h5⟩:=h.mem hc;obtain⟨k1,k2⟩:=hb b h1 hc;exact⟨b,vs,ty,h1,h2.trans k2.symm,k1.trans h3,h4,λi d j c hd hj=>let ⟨v,hv,hr⟩:=h5 i d j c hd hj;⟨v,hv,hr.ext he hi⟩⟩⟩
def vR.j5(h:vR g w fz sz es x)(hi:g'.bz=g.bz):vR g' w fz sz es x:=
 ⟨h.len,h.cap,h.rows,h.pos,h.Ze,h.emp,by rw[hi];exact h.mem⟩
def Hy.le{m dg:Nat}{hole:Option Nat}{hs:List Value}(h:Hy g m dg hole hs)(ha:∀j y,g.arr m j=some y->g'.arr m j=some y):Hy g' m dg hole hs:=
 ⟨h.1,λi v hi hh=>let ⟨y,h1,h2⟩:=h.2 i v hi hh;⟨y,ha _ _ h1,h2⟩⟩
def tU.tr(h:tU g w o e x ob)(hA:∀{fz sz es},vR g w fz sz es x->vR g' w' fz sz es x)(ha:∀k j y,g.arr k j=some y->g'.arr k j=some y)(hg:g'.arr o=g.arr o):tU g' w' o e x ob:=by
 rcases h with⟨fz,es,era,h1,h2,h3,h5⟩|⟨nj,es,era,m,dg,hole,h1,h2,h3,h5⟩|⟨sz,dL,dg,h1,h2,h3,h5⟩|h
 .exact .inl ⟨fz,es,era,h1,h2,λe' h=>by rw[hg];exact h3 e' h,λh=>hA (h5 h)⟩
 .exact .inr (.inl ⟨nj,es,era,m,dg,hole,h1,h2,λe' h=>by rw[hg];exact h3 e' h,λh=>let ⟨hs,k1,k2,k3⟩:=h5 h;⟨hs,k1,hA k2,k3.le (ha m)⟩⟩)
 .exact .inr (.inr (.inl ⟨sz,dL,dg,h1,λr i h=>by rw[hg];exact h2 r i h,by rw[hg];exact h3,λi h=>let ⟨k1,rs,k2,k3⟩:=h5 i h;⟨k1,rs,k2,hA k3⟩⟩))
 .exact .inr (.inr (.inr h))
def tU.left{p:T->Bool}{Ar:Ob}(h:tU g w o e x ob)(hl:qu p ob Ar)(hA:∀{fz sz es},vR g w fz sz es x->vR g' w' fz sz es x)
  (ha:∀m j y,p (.sh m 0)=false->g.arr m j=some y->g'.arr m j=some y) (hg:g'.arr o=g.arr o):tU g' w' o e x Ar:=by
 rcases h with⟨fz,es,era,rfl,h2,h3,h5⟩|⟨nj,es,era,m,dg,hole,rfl,h2,h3,h5⟩|⟨sz,dL,dg,rfl,h2,h3,h5⟩|rfl
 .have:Ar=fD fz x.sz es era:=by cases fz<;>exact hl.symm
  exact .inl ⟨fz,es,era,this,h2,λe' h=>by rw[hg];exact h3 e' h,λh=>hA (h5 h)⟩
 .rcases hl with⟨rfl,hp⟩|rfl
  .exact .inr (.inl ⟨nj,es,era,m,dg,hole,rfl,h2,λe' h=>by rw[hg];exact h3 e' h,λh=>let ⟨hs,k1,k2,k3⟩:=h5 h;⟨hs,k1,hA k2,k3.le (λj y=>ha m j y hp)⟩⟩)
  .exact .inr (.inr (.inr rfl))
 .have:Ar=.rws sz dL dg:=hl.symm;exact .inr (.inr (.inl ⟨sz,dL,dg,this,λr i h=>by rw[hg];exact h2 r i h,by rw[hg];exact h3,λi h=>let ⟨k1,rs,k2,k3⟩:=h5 i h;⟨k1,rs,k2,hA k3⟩⟩))
 .have:Ar=.gone:=hl.symm;exact .inr (.inr (.inr this))
def Aq.ext{g g':Gh}{s s':St}{w w':World}{fl o e:Nat}{x:fB}(he:Ext fl g w g' w')(hi:∀b,g.bz b->b<w.heap.size)
  (hb:∀b,x.a=some ⟨b,0,none⟩->x.cap≠0->w'.heap[b]?=w.heap[b]?∧(g'.bz b↔g.bz b))
  (ho:s'.ob.get o=s.ob.get o) (hg:g'.arr o=g.arr o) (h:Aq g s w o e x):Aq g' s' w' o e x:=by
 refine⟨λad ha hc=>dy (h.1 ad ha hc) he.size,λob cB=>?_⟩;exact(h.2 ob (ho▸cB)).tr (λh=>h.ext he hi hb) (λk j y h=>he.arr k j y h) hg
def bg.ac3(hs:bg g s w)(hb:g.cj o=some b){cs0:List T}(hsome:s.ob.get o=some (.box cs0))(hfl:s.fl<=o){cs':List T}{vs':Array Value}(hl:cs'.length=vs'.size)
  (hr:∀(j:Nat)(t:T)(v:Value),cs'[j]?=some t->vs'[j]?=some v->aJ g w t v) :
  bg g {s with ob:=s.ob.set aI o (.box cs')} (w.setRow b vs')∧Ext s.fl g w g (w.setRow b vs'):=by
 have hown:bK g o b:=⟨(hs.box o b hb).1,.inl hb⟩;have cB:o<bA:=dy (hs.lt hb) hs.aH;have he:Ext s.fl g w g (w.setRow b vs'):=
  ⟨λ_ _ h=>h,λ_ _ _ h=>h,λ_ h=>h,by simp,λb' _ hn=>setRow_other w b b' vs' (λe=>hn o hfl (e▸hown)),
   λ_ _ h=>.inl h,λ_ h=>.inl h,rfl,rfl⟩
 refine⟨⟨hs.aH,hs.ak,λo' b' hb'=>?_,λo' e x hx=>?_,λb' hb'=>by simpa using hs.bz b' hb',hs.mj⟩,he⟩
 .by_cases yd:o'=o
  .subst yd;rw[hb]at hb';simp at hb';subst hb';obtain⟨h1,h2,h3⟩:=hs.box o' b hb;obtain⟨vs,ty,h4,h5,h6⟩:=(hs.box o' b hb).box hsome;refine⟨h1,by simpa using h2,λAr ei=>⟨_,setRow_heap w b vs vs' ty _ h4,?_⟩⟩;simp only[]at ei;rw[Tr.aT _ _ _ _ cB,bL rfl]at ei;obtain rfl:=eI ei;exact .box _ _ _ hl λj t v ht hv=>(hr j t v ht hv).ext he hs.bz
  .have EX:b'≠b:=λe=>yd (hs.mj o' o b (e▸⟨(hs.box o' b' hb').1,.inl hb'⟩) hown);exact(hs.box o' b' hb').ext he hs.bz (setRow_other w b b' vs' EX) (by simp only[];rw[Tr.aT _ _ _ _ cB,bw yd]) (hs.box o' b' hb').1
 .have yd:o'≠o:=by
   rintro rfl
   cases((hs.arr o' e x hx).2 _ hsome).oY
  refine(hs.arr o' e x hx).ext he hs.bz (λb' hb' hc=>⟨setRow_other w b b' vs' ?_,ru⟩) (by simp only[];rw[Tr.aT _ _ _ _ cB,bw yd]) rfl
  rintro rfl
  by_cases jt:g.bz b'
  .exact hown.1 jt
  .exact yd (hs.mj o' o b' ⟨jt,.inr ⟨e,x,_,hx,hb',rfl,hc⟩⟩ hown)
def Gh.dj(g:Gh)(o b:Nat):Gh:={g with cj:=λk=>if k=o then some b else g.cj k}
def oC(w:World)(o:Obj)(b:Nat)(h:b<w.heap.size):(w.alloc o).heap[b]?=w.heap[b]?:=by show(w.heap.push o)[b]?=_;rw[QW,bw (by omega)]
def wh(w:World)(o:Obj):(w.alloc o).heap[w.heap.size]?=some o:=by show(w.heap.push o)[w.heap.size]?=_;simp
def bg.newObj(hs:bg g s w)(hn:s.aH<bA){ob0:Ob}{x0:Obj}(hr:gU g w ob0 x0) :
  bg (g.dj s.aH w.heap.size) (ec s ob0).2 (w.alloc x0)∧Ext s.fl g w (g.dj s.aH w.heap.size) (w.alloc x0):=by
 have hnone:=hs.ak s.aH (bT _);have hold:∀o b,g.cj o=some b->(g.dj s.aH w.heap.size).cj o=some b:=λo b h=>by
  have:o≠s.aH:=λe=>by rw[e,hnone.1]at h;cases h
  simp[Gh.dj,this,h]
 have hown:∀o b,bK (g.dj s.aH w.heap.size) o b->bK g o b∨(o=s.aH∧b=w.heap.size):=by
  rintro o b ⟨h1,h2|h2⟩
  .by_cases ho:o=s.aH
   .subst ho;simp[Gh.dj]at h2;exact .inr ⟨rfl,h2.symm⟩
   .simp[Gh.dj,ho]at h2;exact .inl ⟨h1,.inl h2⟩
  .exact .inl ⟨h1,.inr h2⟩
 have he:Ext s.fl g w (g.dj s.aH w.heap.size) (w.alloc x0):=
  ⟨hold,λ_ _ _ h=>h,λ_ h=>h,by simp,λb hb _=>oC w _ b hb,
   λo b h=>(hown o b h).imp id λh=>by omega,λ_ h=>.inl h,rfl,rfl⟩
 refine⟨⟨by simp only[ec];omega,λo ho=>?_,λo b hb=>?_,λo e x hx=>?_,λb hb=>?_,λo o' b h h'=>?_⟩,he⟩
 .simp only[ec]at ho;have h1:o≠s.aH:=by omega
  simp only[Gh.dj,h1,eO];exact hs.ak o (by omega)
 .by_cases ho:o=s.aH
  .subst ho;have hbe:b=w.heap.size:=by simp[Gh.dj]at hb;exact hb.symm
   subst hbe;refine⟨λjt=>?_,by simp,λob cB=>⟨_,wh w _,?_⟩⟩
   .have:=hs.bz _ jt;omega
   .simp only[ec]at cB;rw[Tr.aT _ _ _ _ hn,bL rfl]at cB;obtain rfl:=eI cB;exact hr.ext he hs.bz
  .have hb':g.cj o=some b:=by simpa[Gh.dj,ho]using hb
   have hok:=hs.box o b hb';exact hok.ext he hs.bz (oC w _ b hok.2.1) (by simp only[ec];rw[Tr.aT _ _ _ _ hn,bw ho]) hok.1
 .have hok:=hs.arr o e x hx;have ho:o≠s.aH:=λh=>by have hx':g.arr o e=some x:=hx;rw[h,hnone.2 e]at hx';cases hx'
  refine hok.ext he hs.bz (λb hb hc=>⟨oC w _ b ?_,ru⟩) (by simp only[ec];rw[Tr.aT _ _ _ _ hn,bw ho]) rfl;exact hok.1 _ hb hc
 .have:=hs.bz b hb;simp;omega
 .rcases hown o b h with h1|⟨h1,h3⟩<;>rcases hown o' b h' with h2|⟨h2,h4⟩
  .exact hs.mj o o' b h1 h2
  .have:=(hs.rB h1).1;omega
  .have:=(hs.rB h2).1;omega
  .rw[h1,h2]
def bg.dj{g:Gh}{s:St}{w:World}(hs:bg g s w)(hn:s.aH<bA){cs:List T}{vs:Array Value}(ty:TypeId)(hl:cs.length=vs.size)
  (hr:∀(j:Nat)(t:T)(v:Value),cs[j]?=some t->vs[j]?=some v->aJ g w t v) :
  bg (g.dj s.aH w.heap.size) (ec s (.box cs)).2 (w.alloc (.cells vs ty))∧Ext s.fl g w (g.dj s.aH w.heap.size) (w.alloc (.cells vs ty)):=
 hs.newObj hn (.box cs vs ty hl hr)
end
section
def Gh.era(g:Gh)(o e:Nat)(x:fB):Gh:={g with arr:=λk j=>if k=o∧j=e then some x else g.arr k j}
def Gh.fC(g:Gh)(o e:Nat)(x:fB):(g.era o e x).arr o e=some x:=by simp[Gh.era]
def Gh.ct(g:Gh)(o e k j:Nat)(x:fB)(h:¬(k=o∧j=e)):(g.era o e x).arr k j=g.arr k j:=by simp[Gh.era,h]
variable {g:Gh}{s:St}{w w':World}{o e sz:Nat}{es es':List D}{x:fB}
def bg.apR(hs:bg g s w){x':fB}(ho:s.ob.get o=some (.arr sz es e))(hx:g.arr o e=some x)
  (hfl:s.fl<=o) (hos:w'.os=w.os) (hout:w'.output=w.output) (hsize:w.heap.size<=w'.heap.size)
  (jY:∀b,b<w.heap.size->¬x.at b->w'.heap[b]?=w.heap[b]?)
  (hx':∀b,x'.at b->b<w'.heap.size∧(w.heap.size<=b∨x.at b))
  (hok:vR (g.era o (e+1) x') w' false sz es' x') (hxs:x'.sz=sz) :
  bg (g.era o (e+1) x') {s with ob:=s.ob.set aI o (.arr sz es' (e+1))} w'∧Ext s.fl g w (g.era o (e+1) x') w':=by
 have cB:o<bA:=dy (hs.lt' hx) hs.aH;obtain⟨sN,adF⟩:=hs.nG (fz:=false) ho hx;have hnext:∀e',e<e'->g.arr o e'=none:=by obtain⟨fz,es0,era,h1,_,h3,_⟩:=(hs.arr o e x hx).old _ ho rfl;have zL:fD false sz es e=fD fz x.sz es0 era:=h1;obtain⟨_,_,_,rfl⟩:=jW zL;exact h3
 have tG:∀b,x.at b->¬g.bz b:=by
  rintro b ⟨ad,h1,rfl,h3⟩ jt
  obtain⟨b',_,_,k1,k2,_⟩:=sN.mem h3;rw[h1]at k1;simp only[bf]at k1;subst k1;exact Bool.noConfusion (k2.2 jt)
 have zH:∀b,x.at b->bK g o b:=λb hb=>by obtain⟨ad,h1,h2,h3⟩:=hb;exact⟨tG b ⟨ad,h1,h2,h3⟩,.inr ⟨e,x,ad,hx,h1,h2,h3⟩⟩
 have eP:∀k j y,g.arr k j=some y->(g.era o (e+1) x').arr k j=some y:=λk j y h=>by
  rw[Gh.ct]
  .exact h
  .rintro ⟨rfl,rfl⟩
   rw[hnext _ (by omega)]at h;cases h
 have hown:∀k b,bK (g.era o (e+1) x') k b->bK g k b∨(k=o∧x'.at b):=by
  rintro k b ⟨h1,h2|⟨j,y,ad,h2,h3,h4,h5⟩⟩
  .exact .inl ⟨h1,.inl h2⟩
  .by_cases JV:k=o∧j=e+1
   .obtain ⟨rfl,rfl⟩:=JV;rw[Gh.fC]at h2;simp only[bf]at h2;subst h2;exact .inr ⟨rfl,ad,h3,h4,h5⟩
   .rw[Gh.ct _ _ _ _ _ _ JV]at h2;exact .inl ⟨h1,.inr ⟨j,y,ad,h2,h3,h4,h5⟩⟩
 have Wy:∀k b,bK (g.era o (e+1) x') k b->bK g k b∨(k=o∧w.heap.size<=b):=λk b h=>by
  rcases hown k b h with h1|⟨h0,h1⟩
  .exact .inl h1
  .rcases (hx' b h1).2 with h2|h2
   .exact .inr ⟨h0,h2⟩
   .exact .inl (h0▸zH b h2)
 have he:Ext s.fl g w (g.era o (e+1) x') w':=
  ⟨λ_ _ h=>h,eP,λ_ h=>h,hsize,λb hb hn=>jY b hb λlE=>hn o hfl (zH b lE),λk b h=>(Wy k b h).imp id (·.2),λ_ h=>.inl h,hos,hout⟩
 refine⟨⟨hs.aH,λk hk=>⟨(hs.ak k hk).1,λj=>?_⟩,λk b hb=>?_,λk j y hy=>?_,λb hb=>dy (hs.bz b hb) hsize,λk k' b h h'=>?_⟩,he⟩
 .rw[Gh.ct]
  .exact (hs.ak k hk).2 j
  .rintro ⟨rfl,_⟩
   have:=hs.lt' hx;simp only at hk;omega
 .have gx:k≠o:=by
   rintro rfl
   exact(hs.box k b hb).Eu false ho
  have gS:=hs.box k b hb;refine gS.ext he hs.bz (jY b gS.2.1 λlE=>gx (hs.mj k o b ⟨gS.1,.inl hb⟩ (zH b lE))) (by simp only[];rw[Tr.aT _ _ _ _ cB,bw gx]) gS.1
 .by_cases gx:k=o
  .subst gx;by_cases hj:j=e+1
   .subst hj;rw[Gh.fC]at hy;simp only[bf]at hy;subst hy;refine⟨λad ha hc=>(hx' _ ⟨ad,ha,rfl,hc⟩).1,λob ei=>.inl ⟨false,es',e+1,?_,bT _,λe' h=>?_,λ_=>hxs▸hok⟩⟩
    .simp only[]at ei;rw[Tr.aT _ _ _ _ cB,bL rfl]at ei;rw[<-eI ei];simp only[fD,hxs];rfl
    .rw[Gh.ct _ _ _ _ _ _ (by omega)];exact hnext e' (by omega)
   .have hy':g.arr k j=some y:=by rwa [Gh.ct _ _ _ _ _ _ (by omega)]at hy
    have h4:=(hs.arr k j y hy').1;obtain⟨fz,es0,era,h1,h2,h3,_⟩:=(hs.arr k j y hy').old _ ho rfl;have zL:fD false sz es e=fD fz y.sz es0 era:=h1;obtain⟨_,GW,_,rfl⟩:=jW zL;refine⟨λad ha hc=>dy (h4 ad ha hc) hsize,λob ei=>.inl ⟨false,es',e+1,?_,by omega,λe' h=>?_,λh=>by omega⟩⟩
    .simp only[]at ei;rw[Tr.aT _ _ _ _ cB,bL rfl]at ei;rw[<-eI ei];simp only[fD,<-GW];rfl
    .rw[Gh.ct _ _ _ _ _ _ (by omega)];exact hnext e' (by omega)
  .have hy':g.arr k j=some y:=by rwa [Gh.ct _ _ _ _ _ _ (λh=>gx h.1)]at hy
   have wF:=hs.arr k j y hy';refine wF.ext he hs.bz (λb hb hc=>⟨?_,ru⟩) (by simp only[];rw[Tr.aT _ _ _ _ cB,bw gx]) (funext λj=>Gh.ct _ _ _ _ _ _ (λh=>gx h.1));refine jY b (wF.1 _ hb hc) λlE=>?_;by_cases jt:g.bz b
   .exact tG b lE jt
   .exact gx (hs.mj k o b ⟨jt,.inr ⟨j,y,_,hy',hb,rfl,hc⟩⟩ (zH b lE))
 .rcases Wy k b h with h1|⟨h1,h3⟩<;>rcases Wy k' b h' with h2|⟨h2,h4⟩
  .exact hs.mj k k' b h1 h2
  .have:=(hs.rB h1).1;omega
  .have:=(hs.rB h2).1;omega
  .rw[h1,h2]
def bg.Ox(hs:bg g s w)(hn:s.aH<bA)
  (hos:w'.os=w.os) (hout:w'.output=w.output) (hsize:w.heap.size<=w'.heap.size)
  (jY:∀b,b<w.heap.size->w'.heap[b]?=w.heap[b]?) (hx:∀b,x.at b->w.heap.size<=b∧b<w'.heap.size)
  (hok:vR (g.era s.aH 0 x) w' false sz es x) (hxs:x.sz=sz) :
  bg (g.era s.aH 0 x) (ec s (.arr sz es 0)).2 w'∧Ext s.fl g w (g.era s.aH 0 x) w':=by
 have hnone:=hs.ak s.aH (bT _);have eP:∀k j y,g.arr k j=some y->(g.era s.aH 0 x).arr k j=some y:=λk j y h=>by
  rw[Gh.ct]
  .exact h
  .rintro ⟨rfl,_⟩
   rw[hnone.2]at h;cases h
 have hown:∀k b,bK (g.era s.aH 0 x) k b->bK g k b∨(k=s.aH∧w.heap.size<=b):=by
  rintro k b ⟨h1,h2|⟨j,y,ad,h2,h3,h4,h5⟩⟩
  .exact .inl ⟨h1,.inl h2⟩
  .by_cases JV:k=s.aH∧j=0
   .obtain ⟨rfl,rfl⟩:=JV;rw[Gh.fC]at h2;simp only[bf]at h2;subst h2;exact .inr ⟨rfl,(hx b ⟨ad,h3,h4,h5⟩).1⟩
   .rw[Gh.ct _ _ _ _ _ _ JV]at h2;exact .inl ⟨h1,.inr ⟨j,y,ad,h2,h3,h4,h5⟩⟩
 have he:Ext s.fl g w (g.era s.aH 0 x) w':=
  ⟨λ_ _ h=>h,eP,λ_ h=>h,hsize,λb hb _=>jY b hb,λk b h=>(hown k b h).imp id (·.2),λ_ h=>.inl h,hos,hout⟩
 refine⟨⟨by simp only[ec];omega,λk hk=>?_,λk b hb=>?_,λk j y hy=>?_,λb hb=>dy (hs.bz b hb) hsize,λk k' b h h'=>?_⟩,he⟩
 .simp only[ec]at hk;refine⟨(hs.ak k (by omega)).1,λj=>?_⟩;rw[Gh.ct _ _ _ _ _ _ (by omega)];exact(hs.ak k (by omega)).2 j
 .have hb':g.cj k=some b:=hb;have gS:=hs.box k b hb';have gx:k≠s.aH:=λh=>by rw[h,hnone.1]at hb';cases hb'
  exact gS.ext he hs.bz (jY b gS.2.1) (by simp only[ec];rw[Tr.aT _ _ _ _ hn,bw gx]) gS.1
 .by_cases JV:k=s.aH∧j=0
  .obtain ⟨rfl,rfl⟩:=JV;rw[Gh.fC]at hy;simp only[bf]at hy;subst hy;refine⟨λad ha hc=>(hx _ ⟨ad,ha,rfl,hc⟩).2,λob ei=>.inl ⟨false,es,0,?_,bT _,λe' h=>?_,λ_=>hxs▸hok⟩⟩
   .simp only[ec]at ei;rw[Tr.aT _ _ _ _ hn,bL rfl]at ei;rw[<-eI ei];simp only[fD,hxs];rfl
   .rw[Gh.ct _ _ _ _ _ _ (by omega)];exact hnone.2 e'
  .rw[Gh.ct _ _ _ _ _ _ JV]at hy;have gx:k≠s.aH:=λh=>by rw[h,hnone.2]at hy;cases hy
   have wF:=hs.arr k j y hy;refine wF.ext he hs.bz (λb hb hc=>⟨?_,ru⟩) (by simp only[ec];rw[Tr.aT _ _ _ _ hn,bw gx]) (funext λj=>Gh.ct _ _ _ _ _ _ (λh=>gx h.1));exact jY b (wF.1 _ hb hc)
 .rcases hown k b h with h1|⟨h1,h3⟩<;>rcases hown k' b h' with h2|⟨h2,h4⟩
  .exact hs.mj k k' b h1 h2
  .have:=(hs.rB h1).1;omega
  .have:=(hs.rB h2).1;omega
  .rw[h1,h2]
def bg.ada(hs:bg g s w){b:Nat}(ho:s.ob.get o=some (.arr sz es e))(hx:g.arr o e=some x)
  (hfl:s.fl<=o) (hb:x.at b) {vs':Array Value} (hok:vR g (w.setRow b vs') false sz es' x) :
  bg g {s with ob:=s.ob.set aI o (.arr sz es' e)} (w.setRow b vs')∧Ext s.fl g w g (w.setRow b vs'):=by
 have cB:o<bA:=dy (hs.lt' hx) hs.aH;obtain⟨sN,adF⟩:=hs.nG (fz:=false) ho hx;have tG:¬g.bz b:=by obtain⟨ad,h1,rfl,h3⟩:=hb;intro jt;obtain⟨b',_,_,k1,k2,_⟩:=sN.mem h3;rw[h1]at k1;simp only[bf]at k1;subst k1;exact Bool.noConfusion (k2.2 jt)
 have hown:bK g o b:=by obtain⟨ad,h1,h2,h3⟩:=hb;exact⟨tG,.inr ⟨e,x,ad,hx,h1,h2,h3⟩⟩
 have he:Ext s.fl g w g (w.setRow b vs'):=
  ⟨λ_ _ h=>h,λ_ _ _ h=>h,λ_ h=>h,by simp,λb' _ hn=>setRow_other w b b' vs' (λe=>hn o hfl (e▸hown)),
   λ_ _ h=>.inl h,λ_ h=>.inl h,rfl,rfl⟩
 refine⟨⟨hs.aH,hs.ak,λk c hc=>?_,λk j y hy=>?_,λb' hb'=>by simpa using hs.bz b' hb',hs.mj⟩,he⟩
 .have gx:k≠o:=by
   rintro rfl
   exact(hs.box k c hc).Eu false ho
  have gS:=hs.box k c hc;exact gS.ext he hs.bz (setRow_other w b c vs' λe=>gx (hs.mj k o c ⟨gS.1,.inl hc⟩ (e▸hown))) (by simp only[];rw[Tr.aT _ _ _ _ cB,bw gx]) gS.1
 .by_cases gx:k=o
  .subst gx;have h4:=(hs.arr k j y hy).1;obtain⟨fz,es0,era,h1,h2,h3,_⟩:=(hs.arr k j y hy).old _ ho rfl;have zL:fD false sz es e=fD fz y.sz es0 era:=h1;obtain⟨_,GW,_,rfl⟩:=jW zL;refine⟨λad ha hc=>by simpa using h4 ad ha hc,λob ei=>.inl ⟨false,es',e,?_,h2,h3,λhje=>?_⟩⟩
   .simp only[]at ei;rw[Tr.aT _ _ _ _ cB,bL rfl]at ei;rw[<-eI ei];simp only[fD,<-GW];rfl
   .subst hje;rw[hx]at hy;simp only[bf]at hy;subst hy;exact GW▸hok
  .have wF:=hs.arr k j y hy;refine wF.ext he hs.bz (λc hc hcap=>⟨setRow_other w b c vs' ?_,ru⟩) (by simp only[];rw[Tr.aT _ _ _ _ cB,bw gx]) rfl
   rintro rfl
   exact gx (hs.mj k o c ⟨tG,.inr ⟨j,y,_,hy,hc,rfl,hcap⟩⟩ hown)
def Gh.kf(g:Gh)(P:Nat->Prop):Gh:={g with bz:=λb=>g.bz b∨P b}
def bg.aaN(hs:bg g s w)(ho:s.ob.get o=some (.arr sz es e))(hx:g.arr o e=some x)
  (hfl:s.fl<=o) :
  bg (g.kf x.at) {s with ob:=s.ob.set aI o (.kf sz es e)} w∧Ext s.fl g w (g.kf x.at) w:=by
 have cB:o<bA:=dy (hs.lt' hx) hs.aH;obtain⟨sN,adF⟩:=hs.nG (fz:=false) ho hx;have tG:∀b,x.at b->¬g.bz b:=by
  rintro b ⟨ad,h1,rfl,h3⟩ jt
  obtain⟨b',_,_,k1,k2,_⟩:=sN.mem h3;rw[h1]at k1;simp only[bf]at k1;subst k1;exact Bool.noConfusion (k2.2 jt)
 have zH:∀b,x.at b->bK g o b:=λb hb=>by obtain⟨ad,h1,h2,h3⟩:=hb;exact⟨tG b ⟨ad,h1,h2,h3⟩,.inr ⟨e,x,ad,hx,h1,h2,h3⟩⟩
 have hown:∀k b,bK (g.kf x.at) k b->bK g k b∧¬x.at b:=λk b h=>⟨⟨λhi=>h.1 (.inl hi),h.2⟩,λhi=>h.1 (.inr hi)⟩;have he:Ext s.fl g w (g.kf x.at) w:=
  ⟨λ_ _ h=>h,λ_ _ _ h=>h,λ_ h=>.inl h,bT _,λ_ _ _=>rfl,λk b h=>.inl (hown k b h).1,
   λb h=>h.imp id λh=>.inr ⟨o,hfl,zH b h⟩,rfl,rfl⟩
 refine⟨⟨hs.aH,hs.ak,λk c hc=>?_,λk j y hy=>?_,λb hb=>?_,λk k' b h h'=>hs.mj k k' b (hown k b h).1 (hown k' b h').1⟩,he⟩
 .have gx:k≠o:=by
   rintro rfl
   exact(hs.box k c hc).Eu false ho
  have gS:=hs.box k c hc;refine gS.ext he hs.bz rfl (by simp only[];rw[Tr.aT _ _ _ _ cB,bw gx]) ?_
  rintro(jt|lE)
  .exact gS.1 jt
  .exact gx (hs.mj k o c ⟨gS.1,.inl hc⟩ (zH c lE))
 .by_cases gx:k=o
  .subst gx;have h4:=(hs.arr k j y hy).1;obtain⟨fz,es0,era,h1,h2,h3,_⟩:=(hs.arr k j y hy).old _ ho rfl;have zL:fD false sz es e=fD fz y.sz es0 era:=h1;obtain⟨_,GW,_,rfl⟩:=jW zL;refine⟨h4,λob ei=>.inl ⟨true,es,e,?_,h2,h3,λhje=>?_⟩⟩
   .simp only[]at ei;rw[Tr.aT _ _ _ _ cB,bL rfl]at ei;rw[<-eI ei];simp only[fD,<-GW];rfl
   .subst hje;have hy':g.arr k j=some y:=hy;rw[hx]at hy';simp only[bf]at hy';subst hy';refine⟨sN.len,sN.cap,λd hd=>GW▸sN.rows d hd,GW▸sN.pos,sN.Ze,sN.emp,λhc=>?_⟩;obtain⟨b,vs,ty,k1,_,k3,k4,k5⟩:=sN.mem hc;exact⟨b,vs,ty,k1,⟨λ_=>.inr ⟨_,k1,rfl,hc⟩,λ_=>rfl⟩,k3,GW▸k4,λi d j c hd hj=>let ⟨v,hv,hr⟩:=k5 i d j c hd hj;⟨v,GW▸hv,hr.ext he hs.bz⟩⟩
  .have wF:=hs.arr k j y hy;refine wF.ext he hs.bz (λc hc hcap=>⟨rfl,⟨λh=>h.elim id λlE=>?_,.inl⟩⟩) (by simp only[];rw[Tr.aT _ _ _ _ cB,bw gx]) rfl;by_cases jt:g.bz c
   .exact jt
   .exact absurd (hs.mj k o c ⟨jt,.inr ⟨j,y,_,hy,hc,rfl,hcap⟩⟩ (zH c lE)) gx
 .rcases hb with hb|hb
  .exact hs.bz b hb
  .exact (hs.rB (zH b hb)).1
end
section
def qz:∀{r r' i i':Nat},rc r i=rc r' i'->r=r'∧i=i'
 |0,0,i,i',h=>by simp[rc]at h;exact⟨rfl,by omega⟩
 |0,r'+1,i,i',h=>by simp only[rc,Nat.pow_zero,DX,Nat.pow_succ,xM _ 2,LP]at h;omega
 |r+1,0,i,i',h=>by simp only[rc,Nat.pow_zero,DX,Nat.pow_succ,xM _ 2,LP]at h;omega
 |r+1,r'+1,i,i',h=>by
  have:rc r i=rc r' i':=by simp only[rc,Nat.pow_succ,xM _ 2,LP]at h ⊢;exact Nat.eq_of_mul_eq_mul_left (by omega:0<2) h
  have:=qz this;exact⟨by omega,this.2⟩
variable {g:Gh}{s:St}{w:World}{o e nj sz era m dg r i j szr k:Nat}{es:List D}{hole:Option Nat}{x y:fB}{hl:List Value}{dL:List (List D)}{fz:Bool}{I:Nat->Prop}{d:D}{ys:List fB}
def bg.W9{s':St}(hs:bg g s w)(hn:s'.aH=s.aH)(ho:∀o,s'.ob.get o=s.ob.get o):bg g s' w:=
 ⟨hn▸hs.aH,λo h=>hs.ak o (hn▸h),λo b h=>let ⟨h1,h2,h3⟩:=hs.box o b h;⟨h1,h2,λob cB=>h3 ob (ho o▸cB)⟩,λo e x h=>let ⟨h1,h2⟩:=hs.arr o e x h;⟨h1,λob cB=>h2 ob (ho o▸cB)⟩,hs.bz,hs.mj⟩
def bg.zx(hs:bg g s w){ob:Ob}(ho:s.ob.get o=some ob)(hi:ob.oY=true):g.cj o=none:=by cases h:g.cj o with|none=>rfl|some b=>obtain⟨x,_,h2⟩:=(hs.box o b h).2.2 ob ho;have:=h2.Eu;rw[hi]at this;cases this
def bg.AO(hs:bg g s w)(ho:s.ob.get o=some (.kE nj sz es era m dg hole))(hx:g.arr o e=some x) :
  x.sz=sz∧e<=era∧(∀e',era<e'->g.arr o e'=none)∧(e=era->∃hl,hl.length=es.length∧vR g w false sz (lits nj es hl) x∧Hy g m dg hole hl):=by
 rcases(hs.arr o e x hx).2 _ ho with⟨fz,_,_,h,_⟩|⟨nj',es',aiC,m',Vc,hole',h,h2,h3,h4⟩|⟨_,_,_,h,_⟩|h
 .cases fz<;>cases h
 .cases h;exact⟨rfl,h2,h3,h4⟩
 .cases h
 .cases h
def bg.view(hs:bg g s w)(ho:s.ob.get o=some (.kE nj sz es era m dg hole))(hx:g.arr o era=some x) :
  ∃hl,hl.length=es.length∧vR g w false sz (lits nj es hl) x∧Hy g m dg hole hl∧bg g {s with ob:=s.ob.set aI o (.arr sz (lits nj es hl) era)} w:=by
 have cB:o<bA:=dy (hs.lt' hx) hs.aH;obtain⟨_,_,_,h4⟩:=hs.AO ho hx;obtain⟨hl,h5,h6,h7⟩:=h4 rfl;have hnb:=hs.zx ho rfl;refine⟨hl,h5,h6,h7,hs.aH,hs.ak,λk b hb=>?_,λk e y hy=>?_,hs.bz,hs.mj⟩
 .have gx:k≠o:=by rintro rfl;rw[hnb]at hb;cases hb
  obtain⟨k1,k2,k3⟩:=hs.box k b hb;refine⟨k1,k2,λob ei=>k3 ob ?_⟩;simp only[]at ei;rwa [Tr.aT _ _ _ _ cB,bw gx]at ei
 .obtain ⟨k1,k2⟩:=hs.arr k e y hy;refine⟨k1,λob ei=>?_⟩;simp only[]at ei;rw[Tr.aT _ _ _ _ cB]at ei;by_cases gx:k=o
  .subst gx;rw[bL rfl]at ei;obtain rfl:=eI ei;obtain⟨q1,q2,q3,_⟩:=hs.AO ho hy;refine .inl ⟨false,lits nj es hl,era,by rw[q1];rfl,q2,q3,λhe=>?_⟩;subst he;rw[hx]at hy;cases hy;rw[q1];exact h6
  .rw[bw gx]at ei;exact k2 ob ei
def bg.UP(hs:bg g s w)(cB:o<bA)(ho:s.ob.get o=some (.arr sz (lits nj es hl) era))(hlen:hl.length=es.length)
  (hL:Hy g m dg hole hl):bg g {s with ob:=s.ob.set aI o (.kE nj sz es era m dg hole)} w:=by
 have hnb:=hs.zx ho rfl;refine⟨hs.aH,hs.ak,λk b hb=>?_,λk e y hy=>?_,hs.bz,hs.mj⟩
 .have gx:k≠o:=by rintro rfl;rw[hnb]at hb;cases hb
  obtain⟨k1,k2,k3⟩:=hs.box k b hb;refine⟨k1,k2,λob ei=>k3 ob ?_⟩;simp only[]at ei;rwa [Tr.aT _ _ _ _ cB,bw gx]at ei
 .obtain ⟨k1,k2⟩:=hs.arr k e y hy;refine⟨k1,λob ei=>?_⟩;simp only[]at ei;rw[Tr.aT _ _ _ _ cB]at ei;by_cases gx:k=o
  .subst gx;rw[bL rfl]at ei;obtain rfl:=eI ei;obtain⟨fz,es',aiC,h1,h2,h3,h4⟩:=(hs.arr k e y hy).old _ ho rfl;have zL:fD false sz (lits nj es hl) era=fD fz y.sz es' aiC:=h1;obtain⟨rfl,hsz,rfl,rfl⟩:=jW zL;exact .inr (.inl ⟨nj,es,era,m,dg,hole,by rw[hsz],h2,h3,λhe=>⟨hl,hlen,h4 he,hL⟩⟩)
  .rw[bw gx]at ei;exact k2 ob ei
def bg.oJ(hs:bg g s w)(hm:s.ob.get m=some (.rws sz dL r))(hy:g.arr m e=some y) :
  (∀r' i,r<r'->g.arr m (rc r' i)=none)∧(∀i i' y y',i≠i'->g.arr m (rc r i)=some y->g.arr m (rc r i')=some y'->∀b,y.at b->¬y'.at b)∧
   (∀i,e=rc r i->y.sz=sz∧∃rs,dL[i]?=some rs∧vR g w false sz rs y):=by
 rcases(hs.arr m e y hy).2 _ hm with⟨fz,_,_,h,_⟩|⟨_,_,_,_,_,_,h,_⟩|⟨sz',Zv,r',h,h2,h3,h4⟩|h
 .cases fz<;>cases h
 .cases h
 .cases h;exact⟨h2,h3,h4⟩
 .cases h
def vR.at_(h:vR g w fz sz es x){b:Nat}(hb:x.at b):(fz=true↔g.bz b)∧∃vs ty,x.a=some ⟨b,0,none⟩∧w.heap[b]?=some (.cells vs ty (0,0)):=by obtain⟨ad,h1,h2,h3⟩:=hb;obtain⟨b',vs,ty,k1,k2,k3,_⟩:=h.mem h3;rw[k1]at h1;cases h1;simp only at h2;subst h2;exact⟨k2,vs,ty,k1,k3⟩
def vR.TW(hok:vR g w fz sz es x)(hI:∀b,g.bz b->I b)(hx:∀b,x.at b->I b):dZ I w (.sl es) (.slice x.a x.len x.cap):=by
 rw[hok.len];by_cases hc:x.cap=0
 .have h0:es=[]:=by have h1:=hok.len;have h2:=hok.cap;exact AJ (by omega)
  subst h0;exact .sl [] x.a x.cap sz (λ_ _=>undef) (by simp) (by simp) (by simp) (λh=>absurd rfl h) (λi j d c h=>by simp at h)
 .obtain ⟨b,vs,ty,h1,h2,h3,h4,h5⟩:=hok.mem hc;have hex:∀q:Nat×Nat,∃v,∀d c,es[q.1]?=some d->d.cells[q.2]?=some c->vs[q.1*sz+q.2]?=some v∧dZ I w c v:=by
   rintro⟨i,j⟩
   by_cases hi:i<es.length
   .by_cases hj:j<(es[i]).cells.length
    .obtain ⟨v,hv,hr⟩:=h5 i _ j _ (gm hi) (gm hj);refine⟨v,λd c hd hc=>?_⟩;rw[gm hi]at hd;simp only[bf]at hd;subst hd;rw[gm hj]at hc;simp only[bf]at hc;subst hc;exact⟨hv,hr.mono (λ_ _=>rfl) hI⟩
    .refine ⟨undef,λd c hd hc=>?_⟩;rw[gm hi]at hd;simp only[bf]at hd;subst hd;exact absurd (aD hc) hj
   .exact ⟨undef,λd c hd _=>absurd (aD hd) hi⟩
  obtain⟨val,hval⟩:=SL hex;refine .sl es x.a x.cap sz (λi j=>val (i,j)) (by have:=hok.len;have:=hok.cap;omega) hok.rows hok.Ze (λ_=>⟨_,h1,hx b ⟨_,h1,rfl,hc⟩,λi j d c hd hj=>?_⟩) (λi j d c hd hj=>(hval (i,j) d c hd hj).2);rw[nH,cell?_of_block h3];simpa using(hval (i,j) d c hd hj).1
def y4(l:List D):D.m6 l=(l.map D.lby).sum:=by
 induction l with|nil=>rfl|cons a l ih=>simp only[D.m6,lZ,List.sum_cons,<-ih];rfl
def HJ{α:Type}{l:List α}{a:α}(h:l[i]?=some a):l.set i a=l:=by
 apply LZ;intro k;rw[GM];split
 .rename_i e;subst e;rw[h,bL (tW.1 h).1]
 .rfl
def V3(hlen:hl.length=es.length)(h:es[i]?=some d):∃v,hl[i]?=some v∧(lits nj es hl)[i]?=some (iQ nj d v):=by have hi:=aD h;refine⟨hl[i]'(by omega),gm _,?_⟩;simp[lits,Js,h,gm (by omega:i<hl.length)]
def lO(hlen:hl.length=es.length):(lits nj es hl).length=es.length:=by simp[lits];omega
def zO(nj:Nat)(d:D)(rs:List D)(a:Option Addr)(n m:Nat):(zP nj d rs).qT=(iQ nj d (.slice a n m)).qT:=by show D.m6 _=D.m6 _;rw[y4,y4,HP,HP];rfl
def z6{c a:Option Addr}(hj:d.cells[j]?=some (.sl []))(hd:dZ I w (.sl [iQ j d (.slice c 0 0)]) (.slice a 1 1)):dZ I w (.sl [d]) (.slice a 1 1):=by
 have hlt:=aD hj;generalize hv:(Value.slice a 1 1)=v at hd;cases hd with
 |sl es a' cap sz val hcap hsz hby ha hc=>
 cases hv;have hl:(iQ j d (.slice c 0 0)).cells=d.cells.set j (.lit (.slice c 0 0)):=rfl;have hcell:∀(k:Nat)(x:D),d.cells[k]?=some x->∃x',(iQ j d (.slice c 0 0)).cells[k]?=some x'∧∀u,dZ I w x' u->dZ I w x u:=λk x hx=>by
  by_cases hk:k=j
  .subst hk;rw[hj]at hx;cases hx;refine⟨.lit (.slice c 0 0),by rw[hl,LK hlt],λu hu=>?_⟩;cases hu;exact .sl [] c 0 0 (λ_ _=>undef) (by simp) (by simp) (by simp) (λh=>absurd rfl h) (λi j d c h=>by simp at h)
  .exact ⟨x,by rw[hl,LJ (λe=>hk e.symm)];exact hx,λu hu=>hu⟩
 have aoL:d.qT=(iQ j d (.slice c 0 0)).qT:=by
  cases d with
  |agg cs=>
   show D.m6 cs=D.m6 (cs.set j (.lit (.slice c 0 0)));rw[y4,y4,HP];have:(cs.map D.lby)[j]?=some 24:=by rw[gQ];have hj':cs[j]?=some (.sl []):=hj;rw[hj'];rfl
   have h24:(D.lit (Value.slice c 0 0)).lby=24:=rfl;rw[h24,HJ this]
  |_=>
   have h0:j=0:=by have:j<1:=hlt;omega
   subst h0;cases hj<;>rfl
 refine .sl [d] a 1 sz val (by simp) (λx hx=>?_) (λx hx=>?_) (λ_=>?_) (λi k x y h1 h2=>?_)
 .rw[mq.1 hx,<-hsz _ (mq.2 rfl),hl,AH]
 .rw[mq.1 hx,aoL];exact hby _ (mq.2 rfl)
 .obtain ⟨ad,h1,h2,h3⟩:=ha (by simp);refine⟨ad,h1,h2,λi k x y h1 h2=>?_⟩;cases i with
  |zero=>simp only[sr,bf]at h1;subst h1;obtain⟨x',hx',_⟩:=hcell k y h2;exact h3 0 k _ x' rfl hx'
  |succ i=>simp at h1
 .cases i with
  |zero=>simp only[sr,bf]at h1;subst h1;obtain⟨x',hx',hr⟩:=hcell k y h2;exact hr _ (hc 0 k _ x' rfl hx')
  |succ i=>simp at h1
def bg.TE(hs:bg g s w)(ho:s.ob.get o=some (.kE nj sz es era m r none))(hm:s.ob.get m=some (.rws szr dL r))
  (O4:m<bA) (hx:g.arr o era=some x) (hfl:s.fl<=o) (WN:s.fl<=m) :
  ∃g',bg g' {s with ob:=(s.ob.set aI m .gone).set aI o (.kf sz (iZ nj es dL) era)} w∧Ext s.fl g w g' w:=by
 have cB:o<bA:=dy (hs.lt' hx) hs.aH;have hom:o≠m:=by rintro rfl;rw[ho]at hm;cases hm
 obtain⟨adF,_,OZ,h4⟩:=hs.AO ho hx;obtain⟨hl,hlen,hok,hL⟩:=h4 rfl
 let R:Nat->Prop:=λb=>x.at b∨∃i y,g.arr m (rc r i)=some y∧y.at b
 have hRo:∀b,R b->∃k,s.fl<=k∧(k=o∨k=m)∧bK g k b:=by
  rintro b (hb|⟨i,y,hy,hb⟩)
  .have h1:=(hok.at_ hb).1;obtain⟨ad,k1,k2,k3⟩:=hb;exact⟨o,hfl,.inl rfl,λjt=>Bool.noConfusion (h1.2 jt),.inr ⟨era,x,ad,hx,k1,k2,k3⟩⟩
  .obtain ⟨_,rs,_,hr⟩:=(hs.oJ hm hy).2.2 i rfl;have h1:=(hr.at_ hb).1;obtain⟨ad,k1,k2,k3⟩:=hb;exact⟨m,WN,.inr rfl,λjt=>Bool.noConfusion (h1.2 jt),.inr ⟨_,y,ad,hy,k1,k2,k3⟩⟩
 have tG:∀b,R b->¬g.bz b:=λb hb=>let ⟨_,_,_,hO⟩:=hRo b hb;hO.1;have hown:∀k b,bK (g.kf R) k b->bK g k b∧¬R b:=λk b h=>⟨⟨λhi=>h.1 (.inl hi),h.2⟩,λhi=>h.1 (.inr hi)⟩;have he:Ext s.fl g w (g.kf R) w:=
  ⟨λ_ _ h=>h,λ_ _ _ h=>h,λ_ h=>.inl h,bT _,λ_ _ _=>rfl,λk b h=>.inl (hown k b h).1,
   λb h=>h.imp id λh=>.inr (let ⟨k,h1,_,h3⟩:=hRo b h;⟨k,h1,h3⟩),rfl,rfl⟩
 have cJ:∀k,((s.ob.set aI m .gone).set aI o (.kf sz (iZ nj es dL) era)).get k=if k=o then some (.kf sz (iZ nj es dL) era)else if k=m then some .gone else s.ob.get k:=λk=>by rw[Tr.aT _ _ _ _ cB,Tr.aT _ _ _ _ O4]
 have adY:=hs.zx ho rfl;have adZ:=hs.zx hm rfl;refine⟨g.kf R,⟨hs.aH,hs.ak,λk c hc=>?_,λk j y hy=>?_,λb hb=>?_,λk k' b h h'=>hs.mj k k' b (hown k b h).1 (hown k' b h').1⟩,he⟩
 .have hc':g.cj k=some c:=hc;have gx:k≠o:=by rintro rfl;rw[adY]at hc';cases hc'
  have hkm:k≠m:=by rintro rfl;rw[adZ]at hc';cases hc'
  have gS:=hs.box k c hc;refine gS.ext he hs.bz rfl (by simp only[];rw[cJ,bw gx,bw hkm]) ?_
  rintro(jt|lE)
  .exact gS.1 jt
  .obtain ⟨k',_,h1,h2⟩:=hRo c lE;have:=hs.mj k k' c ⟨gS.1,.inl hc⟩ h2;subst this;exact h1.elim gx hkm
 .have hy':g.arr k j=some y:=hy;by_cases gx:k=o
  .subst gx;obtain⟨q1,q2,_,_⟩:=hs.AO ho hy';refine⟨(hs.arr k j y hy').1,λob ei=>?_⟩;simp only[]at ei;rw[cJ,bL rfl]at ei;obtain rfl:=eI ei;refine .inl ⟨true,iZ nj es dL,era,by rw[q1];rfl,q2,OZ,λhje=>?_⟩;subst hje;rw[hx]at hy';cases hy';rw[q1];have hrow:∀(i:Nat)(d:D),es[i]?=some d->∃(rs:List D)(yy:fB),dL[i]?=some rs∧hl[i]?=some (Value.slice yy.a yy.len yy.cap)∧(lits nj es hl)[i]?=some (iQ nj d (.slice yy.a yy.len yy.cap))∧dZ (g.kf R).bz w (.sl rs) (.slice yy.a yy.len yy.cap):=by intro i d hd;obtain⟨v,hv,MJ⟩:=V3 (nj:=nj) hlen hd;obtain⟨yy,hyy,rfl⟩:=hL.2 i v hv (by simp);obtain⟨_,rs,hrs,hra⟩:=(hs.oJ hm hyy).2.2 i rfl;exact⟨rs,yy,hrs,hv,MJ,hra.TW (λ_ h=>.inl h) (λb hb=>.inr (.inr ⟨i,yy,hyy,hb⟩))⟩
   have JW:(iZ nj es dL).length=es.length:=by
    rw[iZ,List.length_zipWith];rcases zm dL.length es.length with h|h
    .obtain ⟨rs,_,hrs,_⟩:=hrow dL.length _ (gm h);have:=aD hrs;omega
    .omega
   have WS:∀(i:Nat)(f:D),(iZ nj es dL)[i]?=some f->∃d rs,es[i]?=some d∧dL[i]?=some rs∧f=zP nj d rs:=by
    intro i f hf;rw[iZ,Js]at hf;split at hf
    .rename_i d rs h1 h2;exact⟨d,rs,h1,h2,(eI hf).symm⟩
    .cases hf
   refine⟨by rw[JW];have:=hok.len;rw[lO hlen]at this;exact this,hok.cap,λf hf=>?_,hok.pos,λf hf=>?_,λh=>?_,λhc=>?_⟩
   .obtain ⟨i,hi⟩:=SK hf;obtain⟨d,rs,h1,h2,rfl⟩:=WS i f hi;obtain⟨_,_,_,_,MJ,_⟩:=hrow i d h1;have:=hok.rows _ (gW MJ);simp only[iQ,zP,D.cells,AH]at this ⊢;exact this
   .obtain ⟨i,hi⟩:=SK hf;obtain⟨d,rs,h1,h2,rfl⟩:=WS i f hi;obtain⟨_,yy,_,_,MJ,_⟩:=hrow i d h1;rw[zO nj d rs yy.a yy.len yy.cap];have hb:=hok.Ze _ (gW MJ);rw[lO hlen]at hb;rw[JW];exact hb
   .refine hok.emp ?_;have:es.length=0:=by rw[<-JW,h];rfl
    exact AJ (by rw[lO hlen];exact this)
   .obtain ⟨b,vs,ty,k1,_,k3,k4,k5⟩:=hok.mem hc;refine⟨b,vs,ty,k1,⟨λ_=>.inr (.inl ⟨_,k1,rfl,hc⟩),λ_=>rfl⟩,k3,k4,λi f jj c hf hjj=>?_⟩;obtain⟨d,rs,h1,h2,rfl⟩:=WS i f hf;obtain⟨rs',yy,h2',hv,MJ,Tv⟩:=hrow i d h1;rw[h2]at h2';cases h2';by_cases hjn:jj=nj
    .subst hjn;have hlt:jj<d.cells.length:=by have:=aD hjj;simpa[zP,D.cells]using this
     obtain⟨v,Dm,OQ⟩:=k5 i _ jj (.lit (.slice yy.a yy.len yy.cap)) MJ (by show(d.cells.set jj _)[jj]?=_;rw[LK hlt]);cases OQ;have hce:c=.sl rs:=by have hj2:(d.cells.set jj (.sl rs))[jj]?=some c:=hjj;rw[LK hlt]at hj2;exact(eI hj2).symm
     rw[hce];exact⟨_,Dm,Tv⟩
    .obtain ⟨v,Dm,OQ⟩:=k5 i _ jj c MJ (by
      simp only[iQ,zP,D.cells]at hjj ⊢;rw[LJ (λe=>hjn e.symm)]at hjj ⊢;exact hjj)
     exact⟨v,Dm,OQ.ext he hs.bz⟩
  .by_cases hkm:k=m
   .subst hkm;refine⟨(hs.arr k j y hy').1,λob ei=>?_⟩;simp only[]at ei;rw[cJ,bw gx,bL rfl]at ei;obtain rfl:=eI ei;exact .inr (.inr (.inr rfl))
   .have wF:=hs.arr k j y hy';refine wF.ext he hs.bz (λc hc hcap=>⟨rfl,⟨λh=>h.elim id λlE=>?_,.inl⟩⟩) (by simp only[];rw[cJ,bw gx,bw hkm]) rfl;by_cases jt:g.bz c
    .exact jt
    .obtain ⟨k',_,h1,h2⟩:=hRo c lE;have:=hs.mj k k' c ⟨jt,.inr ⟨j,y,_,hy',hc,rfl,hcap⟩⟩ h2;subst this;exact absurd h1 (λh=>h.elim gx hkm)
 .rcases hb with hb|hb
  .exact hs.bz b hb
  .obtain ⟨k,_,_,h⟩:=hRo b hb;exact(hs.rB h).1
structure Sj(g:Gh)(w:World)(n:Nat)(es:List D)(x:fB)(v:Value)(w':World)(x':fB):Prop where
 val:v=.slice x'.a x'.len x'.cap
 sz:x'.sz=n
 os:w'.os=w.os
 output:w'.output=w.output
 size:w.heap.size<=w'.heap.size
 heap:∀b,b<w.heap.size->¬x.at b->w'.heap[b]?=w.heap[b]?
 at_:∀b,x'.at b->b<w'.heap.size∧(w.heap.size<=b∨x.at b)
 ok:vR g w' false n es x'
noncomputable def Gh.nA(g:Gh)(m r i:Nat)(y:fB):Gh:=by
 classical
 exact{g with arr:=λk j=>if k=m then(if h:∃i',j=rc (r+1) i' then(if h.choose=i then some y else g.arr m (rc r h.choose))else g.arr m j)else g.arr k j}
def Gh.jN(h:k≠m):(g.nA m r i y).arr k=g.arr k:=by
 funext j
 simp[Gh.nA,h]
def Gh.oK(i':Nat):(g.nA m r i y).arr m (rc (r+1) i')=if i'=i then some y else g.arr m (rc r i'):=by have hex:∃i'',rc (r+1) i'=rc (r+1) i'':=⟨i',rfl⟩;have hc:hex.choose=i':=(qz hex.choose_spec).2.symm;simp only[Gh.nA,fR,dif_pos hex,hc]
def Gh.xK(h:∀i',j≠rc (r+1) i'):(g.nA m r i y).arr m j=g.arr m j:=by have hex:¬∃i'',j=rc (r+1) i'':=λ⟨i'',e⟩=>h i'' e;simp only[Gh.nA,fR,dif_neg hex]
def bg.abc{w':World}(hs:bg g s w){y':fB}{v:Value}{rs':List D}(ho:s.ob.get o=some (.kE nj sz es era m r none))
  (hm:s.ob.get m=some (.rws szr dL r)) (uL:o<bA) (hy:g.arr m (rc r i)=some y) (hp:Sj g w szr rs' y v w' y') (WN:s.fl<=m) :
  bg (g.nA m r i y') {s with ob:=(s.ob.set aI m (.rws szr (dL.set i rs') (r+1))).set aI o (.kE nj sz es era m (r+1) (some i))} w'∧Ext s.fl g w (g.nA m r i y') w':=by
 have O4:m<bA:=dy (hs.lt' hy) hs.aH;have hom:o≠m:=by rintro rfl;rw[ho]at hm;cases hm
 obtain⟨hnone,hapart,hrow⟩:=hs.oJ hm hy;obtain⟨_,rs0,aao,an9⟩:=hrow i rfl;have hilt:=aD aao;have hyO:∀b,y.at b->bK g m b:=λb hb=>by have h1:=(an9.at_ hb).1;obtain⟨ad,k1,k2,k3⟩:=hb;exact⟨λjt=>Bool.noConfusion (h1.2 jt),.inr ⟨_,y,ad,hy,k1,k2,k3⟩⟩
 have eP:∀k j z,g.arr k j=some z->(g.nA m r i y').arr k j=some z:=λk j z h=>by
  by_cases hk:k=m
  .subst hk;rw[Gh.xK (λi' e=>by rw[e,hnone (r+1) i' (by omega)]at h;cases h)];exact h
  .rw[Gh.jN hk];exact h
 have Rp:∀k j z,(g.nA m r i y').arr k j=some z->(k=m∧j=rc (r+1) i∧z=y')∨(k=m∧∃i',i'≠i∧j=rc (r+1) i'∧g.arr m (rc r i')=some z)∨((∀i',k=m->j≠rc (r+1) i')∧g.arr k j=some z):=λk j z h=>by
  by_cases hk:k=m
  .subst hk;by_cases hj:∃i',j=rc (r+1) i'
   .obtain ⟨i',rfl⟩:=hj;rw[Gh.oK]at h;split at h
    .rename_i hii;subst hii;exact .inl ⟨rfl,rfl,(eI h).symm⟩
    .rename_i hii;exact .inr (.inl ⟨rfl,i',hii,rfl,h⟩)
   .rw[Gh.xK (λi' e=>hj ⟨i',e⟩)]at h;exact .inr (.inr ⟨λi' _ e=>hj ⟨i',e⟩,h⟩)
  .rw[Gh.jN hk]at h;exact .inr (.inr ⟨λi' e=>absurd e hk,h⟩)
 have hown:∀k b,bK (g.nA m r i y') k b->bK g k b∨(k=m∧w.heap.size<=b):=by
  rintro k b ⟨h1,h2|⟨j,z,ad,h2,h3,h4,h5⟩⟩
  .exact .inl ⟨h1,.inl h2⟩
  .rcases Rp k j z h2 with⟨rfl,_,rfl⟩|⟨rfl,i',_,_,h⟩|⟨_,h⟩
   .rcases (hp.at_ b ⟨ad,h3,h4,h5⟩).2 with h|h
    .exact .inr ⟨rfl,h⟩
    .exact .inl (hyO b h)
   .exact .inl ⟨h1,.inr ⟨_,z,ad,h,h3,h4,h5⟩⟩
   .exact .inl ⟨h1,.inr ⟨j,z,ad,h,h3,h4,h5⟩⟩
 have he:Ext s.fl g w (g.nA m r i y') w':=
  ⟨λ_ _ h=>h,eP,λ_ h=>h,hp.size,λb hb hn=>hp.heap b hb λlE=>hn m WN (hyO b lE),λk b h=>(hown k b h).imp id (·.2),λ_ h=>.inl h,hp.os,hp.output⟩
 have cJ:∀k,((s.ob.set aI m (.rws szr (dL.set i rs') (r+1))).set aI o (.kE nj sz es era m (r+1) (some i))).get k=if k=o then some (.kE nj sz es era m (r+1) (some i))else if k=m then some (.rws szr (dL.set i rs') (r+1))else s.ob.get k:=λk=>by rw[Tr.aT _ _ _ _ uL,Tr.aT _ _ _ _ O4]
 have adY:=hs.zx ho rfl;have adZ:=hs.zx hm rfl;have Rl:∀k j z,g.arr k j=some z->k≠m->∀b,z.a=some ⟨b,0,none⟩->z.cap≠0->w'.heap[b]?=w.heap[b]?:=λk j z hz hk b hb hc=>by refine hp.heap b ((hs.arr k j z hz).1 _ hb hc) λlE=>?_;have hO:=hyO b lE;exact hk (hs.mj k m b ⟨hO.1,.inr ⟨j,z,_,hz,hb,rfl,hc⟩⟩ hO)
 refine⟨⟨hs.aH,λk hk=>⟨(hs.ak k hk).1,λj=>?_⟩,λk b hb=>?_,λk j z hz=>?_,λb hb=>dy (hs.bz b hb) hp.size,λk k' b h h'=>?_⟩,he⟩
 .rw[Gh.jN (by rintro rfl;have:=hs.lt' hy;simp only at hk;omega)];exact(hs.ak k hk).2 j
 .have hb':g.cj k=some b:=hb;have gx:k≠o:=by rintro rfl;rw[adY]at hb';cases hb'
  have hkm:k≠m:=by rintro rfl;rw[adZ]at hb';cases hb'
  have gS:=hs.box k b hb';exact gS.ext he hs.bz (hp.heap b gS.2.1 λlE=>hkm (hs.mj k m b ⟨gS.1,.inl hb'⟩ (hyO b lE))) (by simp only[];rw[cJ,bw gx,bw hkm]) gS.1
 .by_cases hkm:k=m
  .subst hkm;refine⟨λad ha hc=>?_,λob cB=>?_⟩
   .rcases Rp k j z hz with⟨_,_,rfl⟩|⟨_,i',_,_,h⟩|⟨_,h⟩
    .exact (hp.at_ _ ⟨ad,ha,rfl,hc⟩).1
    .exact dy ((hs.arr k _ z h).1 ad ha hc) hp.size
    .exact dy ((hs.arr k _ z h).1 ad ha hc) hp.size
   .simp only[]at cB;rw[cJ,bw (λe=>hom e.symm),bL rfl]at cB;obtain rfl:=eI cB;refine .inr (.inr (.inl ⟨szr,dL.set i rs',r+1,rfl,λr' i' hr'=>?_,λi1 i2 y1 y2 hne h1 h2 b n5 fM=>?_,λi' hj=>?_⟩))
    .rw[Gh.xK (λi'' e=>by have:=(qz e).1;omega)];exact hnone r' i' (by omega)
    .rw[Gh.oK]at h1 h2;have mix:∀i3 y3,i3≠i->g.arr k (rc r i3)=some y3->∀b,y'.at b->¬y3.at b:=λi3 y3 hn h3 b hb Pa=>by
      rcases(hp.at_ b hb).2 with h|h
      .obtain ⟨ad,k1,k2,k3⟩:=Pa;have:=(hs.arr k _ y3 h3).1 ad k1 k3;omega
      .exact hapart i i3 y y3 (λe=>hn e.symm) hy h3 b h Pa
     split at h1
     .rename_i e1;cases h1;rw[bw (λe=>hne (e1.trans e.symm))]at h2;exact mix i2 y2 (λe=>hne (e1.trans e.symm)) h2 b n5 fM
     .rename_i e1;split at h2
      .cases h2;exact mix i1 y1 e1 h1 b fM n5
      .exact hapart i1 i2 y1 y2 hne h1 h2 b n5 fM
    .subst hj;rw[Gh.oK]at hz;split at hz
     .rename_i e1;subst e1;cases hz;exact⟨hp.sz,rs',by rw[LK hilt],hp.ok.j5 rfl⟩
     .rename_i e1;obtain⟨q1,rs,q2,q3⟩:=(hs.oJ hm hz).2.2 i' rfl;refine⟨q1,rs,by rw[LJ (λe=>e1 e.symm)];exact q2,q3.ext he hs.bz (λb hb hc=>⟨?_,ru⟩)⟩;exact hp.heap b ((hs.arr k _ z hz).1 _ hb hc) (λlE=>hapart i i' y z (λe=>e1 e.symm) hy hz b lE ⟨_,hb,rfl,hc⟩)
  .have GV:g.arr k j=some z:=by rw[Gh.jN hkm]at hz;exact hz
   by_cases gx:k=o
   .subst gx;obtain⟨q1,q2,q3,q4⟩:=hs.AO ho GV;refine⟨λad ha hc=>dy ((hs.arr k j z GV).1 ad ha hc) hp.size,λob cB=>?_⟩;simp only[]at cB;rw[cJ,bL rfl]at cB;obtain rfl:=eI cB;refine .inr (.inl ⟨nj,es,era,m,r+1,some i,by rw[q1],q2,λe' h=>by rw[Gh.jN hkm];exact q3 e' h,λhje=>?_⟩);obtain⟨hl,k1,k2,k3⟩:=q4 hje;refine⟨hl,k1,q1▸(k2.ext he hs.bz (λb hb hc=>⟨Rl k j z GV hkm b hb hc,ru⟩)),k3.1,λi' h hh hne=>?_⟩;obtain⟨yy,h1,h2⟩:=k3.2 i' h hh (by simp);exact⟨yy,by rw[Gh.oK,bw (λe=>hne (by rw[e]))];exact h1,h2⟩
   .exact (hs.arr k j z GV).ext he hs.bz (λb hb hc=>⟨Rl k j z GV hkm b hb hc,ru⟩) (by simp only[];rw[cJ,bw gx,bw hkm]) (Gh.jN hkm)
 .rcases hown k b h with h1|⟨h1,h3⟩<;>rcases hown k' b h' with h2|⟨h2,h4⟩
  .exact hs.mj k k' b h1 h2
  .have:=(hs.rB h1).1;omega
  .have:=(hs.rB h2).1;omega
  .rw[h1,h2]
noncomputable def Gh.gD(g:Gh)(m:Nat)(ys:List fB):Gh:=by
 classical
 exact{g with arr:=λk j=>if k=m then(if h:∃i,j=rc 0 i then ys[h.choose]? else none)else g.arr k j}
def Gh.g7(h:k≠m):(g.gD m ys).arr k=g.arr k:=by
 funext j
 simp[Gh.gD,h]
def Gh.vE(i:Nat):(g.gD m ys).arr m (rc 0 i)=ys[i]?:=by have hex:∃i',rc 0 i=rc 0 i':=⟨i,rfl⟩;have hc:hex.choose=i:=(qz hex.choose_spec).2.symm;simp only[Gh.gD,fR,dif_pos hex,hc]
def Gh.td{z:fB}(h:(g.gD m ys).arr m j=some z):∃i,j=rc 0 i∧ys[i]?=some z:=by
 by_cases hj:∃i,j=rc 0 i
 .obtain ⟨i,rfl⟩:=hj;rw[Gh.vE]at h;exact⟨i,rfl,h⟩
 .simp only[Gh.gD,fR,dif_neg hj]at h;cases h
def bg.aeX(hs:bg g s w)(hn:s.aH<bA)(hx:∀y∈ys,∀b,y.at b->b<w.heap.size∧∀o,¬bK g o b)
  (hok:∀(i:Nat)(y:fB),ys[i]?=some y->y.sz=sz∧∃rs,dL[i]?=some rs∧vR g w false sz rs y) (hap:ys.Pairwise λx y=>∀b,x.at b->¬y.at b) :
  bg (g.gD s.aH ys) (ec s (.rws sz dL 0)).2 w∧(∀k j y,g.arr k j=some y->(g.gD s.aH ys).arr k j=some y)∧(∀k b,bK (g.gD s.aH ys) k b->bK g k b∨(k=s.aH∧∃y∈ys,y.at b)):=by
 have hnone:=hs.ak s.aH (bT _);have eP:∀k j y,g.arr k j=some y->(g.gD s.aH ys).arr k j=some y:=λk j y h=>by
  rw[Gh.g7]
  .exact h
  .rintro rfl
   rw[hnone.2]at h;cases h
 have hown:∀k b,bK (g.gD s.aH ys) k b->bK g k b∨(k=s.aH∧∃y∈ys,y.at b):=by
  rintro k b ⟨h1,h2|⟨j,y,ad,h2,h3⟩⟩
  .exact .inl ⟨h1,.inl h2⟩
  .by_cases hk:k=s.aH
   .subst hk;obtain⟨i,_,hi⟩:=Gh.td h2;exact .inr ⟨rfl,y,gW hi,ad,h3⟩
   .rw[Gh.g7 hk]at h2;exact .inl ⟨h1,.inr ⟨j,y,ad,h2,h3⟩⟩
 have cJ:∀k,(ec s (.rws sz dL 0)).2.ob.get k=if k=s.aH then some (.rws sz dL 0)else s.ob.get k:=λk=>by simp only[ec];rw[Tr.aT _ _ _ _ hn]
 refine⟨⟨by simp only[ec];omega,λk hk=>?_,λk b hb=>?_,λk j y hy=>?_,hs.bz,λk k' b h h'=>?_⟩,eP,hown⟩
 .simp only[ec]at hk;refine⟨(hs.ak k (by omega)).1,λj=>?_⟩;rw[Gh.g7 (by omega)];exact(hs.ak k (by omega)).2 j
 .have hb':g.cj k=some b:=hb;have gx:k≠s.aH:=λh=>by rw[h,hnone.1]at hb';cases hb'
  obtain⟨k1,k2,k3⟩:=hs.box k b hb';refine⟨k1,k2,λob cB=>?_⟩;rw[cJ,bw gx]at cB;obtain⟨x,h1,h2⟩:=k3 ob cB;refine⟨x,h1,?_⟩;exact h2.imp (λt v ht=>ht.apo eP rfl rfl)
 .by_cases hk:k=s.aH
  .subst hk;obtain⟨i,rfl,hi⟩:=Gh.td hy;refine⟨λad ha hc=>(hx y (gW hi) _ ⟨ad,ha,rfl,hc⟩).1,λob cB=>?_⟩;rw[cJ,bL rfl]at cB;obtain rfl:=eI cB;refine .inr (.inr (.inl ⟨sz,dL,0,rfl,λr' i' hr'=>?_,λi1 i2 y1 y2 hne h1 h2 b n5 fM=>?_,λi' hj=>?_⟩))
   .cases h:(g.gD s.aH ys).arr s.aH (rc r' i')with|none=>rfl|some z=>obtain⟨i2,e,_⟩:=Gh.td h;have:=(qz e).1;omega
   .rw[Gh.vE]at h1 h2;have hp:=Q2.1 hap;obtain⟨l1,g1⟩:=tW.1 h1;obtain⟨l2,g2⟩:=tW.1 h2;rcases Nat.lt_or_gt_of_ne hne with h|h
    .exact hp i1 i2 l1 l2 h b (g1▸n5) (g2▸fM)
    .exact hp i2 i1 l2 l1 h b (g2▸fM) (g1▸n5)
   .have:=(qz hj).2;subst this;obtain⟨q1,rs,q2,q3⟩:=hok i y hi;exact⟨q1,rs,q2,q3.j5 rfl⟩
  .have hy':g.arr k j=some y:=by rw[Gh.g7 hk]at hy;exact hy
   obtain⟨k1,k2⟩:=hs.arr k j y hy';refine⟨k1,λob cB=>?_⟩;rw[cJ,bw hk]at cB;exact(k2 ob cB).tr (λh=>h.j5 rfl) eP (Gh.g7 hk)
 .rcases hown k b h with h1|⟨h1,y1,m1,a1⟩<;>rcases hown k' b h' with h2|⟨h2,y2,m2,a2⟩
  .exact hs.mj k k' b h1 h2
  .exact absurd h1 ((hx y2 m2 b a2).2 k)
  .exact absurd h2 ((hx y1 m1 b a1).2 k')
  .rw[h1,h2]
end
section
variable {g:Gh}{s s':St}{w:World}{o:Nat}{os:List Nat}
def bg.Ja(hs:bg g s w){e sz:Nat}{es:List D}{x:fB}(ho:s.ob.get o=some (.kf sz es e))(hx:g.arr o e=some x) :
  dZ g.bz w (.sl es) (.slice x.a x.len x.cap):=by
 obtain⟨hok,_⟩:=hs.nG (fz:=true) ho hx;exact hok.TW (λ_ h=>h) (λb hb=>(hok.at_ hb).1.1 rfl)
def Live(g:Gh)(s:St)(o:Nat):Prop:=o<bA∧((∃e x,g.arr o e=some x∧((∃fz sz es,s.ob.get o=some (fD fz sz es e))∨∃nj sz es m r hole,s.ob.get o=some (.kE nj sz es e m r hole)))∨(∃sz dL r,s.ob.get o=some (.rws sz dL r))∨s.ob.get o=some .gone)
def Live.oY{g:Gh}{s:St}{o:Nat}{ob:Ob}(h:Live g s o)(ho:s.ob.get o=some ob):ob.oY=true:=by
 rcases h.2 with⟨_,_,_,⟨fz,_,_,h⟩|⟨_,_,_,_,_,_,h⟩⟩|⟨_,_,_,h⟩|h
 .rw[ho]at h;cases h;cases fz<;>rfl
 .rw[ho]at h;cases h;rfl
 .rw[ho]at h;cases h;rfl
 .rw[ho]at h;cases h;rfl
structure jM(s s':St)(os:List Nat):Prop where
 fl:s'.fl=s.fl
 aH:s'.aH=s.aH
 hit:∀o∈os,∀fz sz es e,s.ob.get o=some (fD fz sz es e)->s'.ob.get o=some (.kf sz es e)
 kf:∀o sz es e,s.ob.get o=some (.kf sz es e)->s'.ob.get o=some (.kf sz es e)
 kE:∀o∈os,∀nj sz es e m r dL,s.ob.get o=some (.kE nj sz es e m r none)->GF s m r=some dL->s'.ob.get o=some (.kf sz (iZ nj es dL) e)
def jM.sub{os':List Nat}(h:jM s s' os)(hs:∀o∈os',o∈os):jM s s' os':=
 ⟨h.fl,h.aH,λo ho=>h.hit o (hs o ho),h.kf,λo ho=>h.kE o (hs o ho)⟩
def oq{m r:Nat}{dL:List (List D)}(h:GF s m r=some dL):∃sz,s.ob.get m=some (.rws sz dL r):=by
 unfold GF at h;split at h
 .rename_i sz Zv r' hm;rcases af h with⟨hb,h⟩|⟨_,h⟩
  .cases h;have:=beq_iff'.1 hb;subst this;exact⟨sz,hm⟩
  .cases h
 .cases h
def uU(h:freeze s (o::os)=some s'):s.fl<=o∧
  ((∃sz es e,s.ob.get o=some (.arr sz es e)∧freeze {s with ob:=s.ob.set aI o (.kf sz es e)} os=some s')∨
   (∃sz es e,s.ob.get o=some (.kf sz es e)∧freeze s os=some s')∨
   (((∃sz dL r,s.ob.get o=some (.rws sz dL r))∨s.ob.get o=some .gone)∧freeze s os=some s')∨
   (∃nj sz es e m r dL szr,s.ob.get o=some (.kE nj sz es e m r none)∧s.ob.get m=some (.rws szr dL r)∧GF s m r=some dL∧(m∈os∧s.fl<=m)∧m<bA∧freeze {s with ob:=(s.ob.set aI m .gone).set aI o (.kf sz (iZ nj es dL) e)} os=some s')):=by
 simp only[freeze]at h;rcases af h with⟨hb,h⟩|⟨_,h⟩
 .refine ⟨fQ hb,?_⟩;split at h
  .rename_i sz es e ho;exact .inl ⟨sz,es,e,ho,h⟩
  .rename_i sz es e ho;exact .inr (.inl ⟨sz,es,e,ho,h⟩)
  .rename_i nj sz es e m r ho;split at h
   .rename_i dL hr;rcases af h with⟨fM,h⟩|⟨_,h⟩
    .rw[eE]at fM;obtain⟨szr,hm⟩:=oq hr;rw[eE]at fM;exact .inr (.inr (.inr ⟨nj,sz,es,e,m,r,dL,szr,ho,hm,hr,⟨by simpa using fM.1,fQ fM.2.1⟩,fQ fM.2.2,h⟩))
    .cases h
   .cases h
  .rename_i sz dL r ho;exact .inr (.inr (.inl ⟨.inl ⟨sz,dL,r,ho⟩,h⟩))
  .rename_i ho;exact .inr (.inr (.inl ⟨.inr ho,h⟩))
  .cases h
 .cases h
def nq:∀{os:List Nat}{s s':St}{m:Nat},freeze s os=some s'->s.ob.get m=some .gone->(∀o∈os,o<bA)->∀o∈os,∀nj sz es e r hole,s.ob.get o≠some (.kE nj sz es e m r hole)
 |[],_,_,_,_,_,_,o,ho,_,_,_,_,_,_=>by cases ho
 |o1::os,s,s',m,h,hg,hN,o,ho,nj,sz,es,e,r,hole=>λhn=>by
  obtain⟨_,h1|h1|h1|h1⟩:=uU h
  .obtain ⟨sz1,es1,e1,Au,h2⟩:=h1;have hom:m≠o1:=by rintro rfl;rw[hg]at Au;cases Au
   have yd:o≠o1:=by rintro rfl;rw[hn]at Au;cases Au
   have cJ:∀k,k≠o1->({s with ob:=s.ob.set aI o1 (.kf sz1 es1 e1)}:St).ob.get k=s.ob.get k:=λk hk=>by show(s.ob.set aI o1 _).get k=_;rw[Tr.aT _ _ _ _ (hN o1 (by simp)),bw hk]
   exact nq h2 (by rw[cJ m hom];exact hg) (λk hk=>hN k (by simp[hk])) o ((fc.1 ho).resolve_left yd) nj sz es e r hole (by rw[cJ o yd];exact hn)
  .obtain ⟨sz1,es1,e1,Au,h2⟩:=h1;have yd:o≠o1:=by rintro rfl;rw[hn]at Au;cases Au
   exact nq h2 hg (λk hk=>hN k (by simp[hk])) o ((fc.1 ho).resolve_left yd) nj sz es e r hole hn
  .obtain ⟨Au,h2⟩:=h1;have yd:o≠o1:=by
    rintro rfl
    rcases Au with⟨_,_,_,h⟩|h<;>(rw[hn]at h;cases h)
   exact nq h2 hg (λk hk=>hN k (by simp[hk])) o ((fc.1 ho).resolve_left yd) nj sz es e r hole hn
  .obtain ⟨nj1,sz1,es1,e1,m1,r1,ak1,szr1,Au,WD,_,_,O4,h2⟩:=h1;have Za:m≠m1:=by rintro rfl;rw[hg]at WD;cases WD
   have hom:m≠o1:=by rintro rfl;rw[hg]at Au;cases Au
   by_cases yd:o=o1
   .subst yd;rw[hn]at Au;cases Au;exact Za rfl
   .have an7:o≠m1:=by rintro rfl;rw[hn]at WD;cases WD
    have cJ:∀k,k≠o1->k≠m1->({s with ob:=(s.ob.set aI m1 .gone).set aI o1 (.kf sz1 (iZ nj1 es1 ak1) e1)}:St).ob.get k=s.ob.get k:=λk hk hk2=>by show((s.ob.set aI m1 _).set aI o1 _).get k=_;rw[Tr.aT _ _ _ _ (hN o1 (by simp)),bw hk,Tr.aT _ _ _ _ O4,bw hk2]
    exact nq h2 (by rw[cJ m hom Za];exact hg) (λk hk=>hN k (by simp[hk])) o ((fc.1 ho).resolve_left yd) nj sz es e r hole (by rw[cJ o yd an7];exact hn)
def en(os:List Nat):∀{g:Gh}{s s':St}{w:World},bg g s w->freeze s os=some s'->(∀o∈os,Live g s o)->
  ∃g',bg g' s' w∧Ext s.fl g w g' w∧jM s s' os:=by
 induction os with
 |nil=>intro g s s' w hs h _;simp[freeze]at h;subst h;exact⟨g,hs,Ext.refl _ _ _,⟨rfl,rfl,λo ho=>(by cases ho),λ_ _ _ _ h=>h,λo ho=>(by cases ho)⟩⟩
 |cons o os ih=>
  intro g s s' w hs h hl;have hN:∀k∈o::os,k<bA:=λk hk=>(hl k hk).1;have cB:=hN o (by simp);obtain⟨hfl,h1|h1|h1|h1⟩:=uU h
  .obtain ⟨sz,es,e0,ho,h⟩:=h1;obtain⟨x,hx⟩:∃x,g.arr o e0=some x:=by
    rcases(hl o (by simp)).2 with⟨e,x,hx,⟨fz,_,_,h⟩|⟨_,_,_,_,_,_,h⟩⟩|⟨_,_,_,h⟩|h
    .rw[ho]at h;have h':fD false sz es e0=_:=eI h;exact⟨x,(jW h').2.2.2▸hx⟩
    .rw[ho]at h;cases h
    .rw[ho]at h;cases h
    .rw[ho]at h;cases h
   obtain⟨fq,pT⟩:=hs.aaN ho hx hfl;have cJ:∀k,({s with ob:=s.ob.set aI o (.kf sz es e0)}:St).ob.get k=if k=o then some (.kf sz es e0)else s.ob.get k:=λk=>Tr.aT _ _ _ _ cB
   obtain⟨g',hs',he',hf'⟩:=ih fq h (λk hk=>by
    by_cases gx:k=o
    .subst gx;exact⟨cB,.inl ⟨e0,x,hx,.inl ⟨true,sz,es,by rw[cJ,bL rfl];rfl⟩⟩⟩
    .have:=hl k (by simp[hk]);unfold Live at this ⊢;rw[cJ,bw gx];exact this)
   refine⟨g',hs',pT.trans he',⟨hf'.fl,hf'.aH,λk hk fz sz' es' e' h1=>?_,λk sz' es' e' h1=>?_,λk hk nj sz' es' e' m r dL h1 h2=>?_⟩⟩
   .by_cases gx:k=o
    .subst gx;rw[ho]at h1;have zL:fD false sz es e0=_:=eI h1;obtain⟨_,rfl,rfl,rfl⟩:=jW zL;exact hf'.kf k sz es e0 (by rw[cJ,bL rfl])
    .exact hf'.hit k ((fc.1 hk).resolve_left gx) fz sz' es' e' (by rw[cJ,bw gx];exact h1)
   .have gx:k≠o:=by
     rintro rfl
     rw[ho]at h1;cases h1
    exact hf'.kf k sz' es' e' (by rw[cJ,bw gx];exact h1)
   .have gx:k≠o:=by rintro rfl;rw[ho]at h1;cases h1
    obtain⟨szr,hm⟩:=oq h2;have hmo:m≠o:=by rintro rfl;rw[ho]at hm;cases hm
    exact hf'.kE k ((fc.1 hk).resolve_left gx) nj sz' es' e' m r dL (by rw[cJ,bw gx];exact h1) (by simp only[GF];rw[cJ,bw hmo];exact h2)
  .obtain ⟨sz,es,e,ho,h⟩:=h1;obtain⟨g',hs',he',hf'⟩:=ih hs h (λk hk=>hl k (by simp[hk]));refine⟨g',hs',he',⟨hf'.fl,hf'.aH,λk hk fz sz' es' e' h1=>?_,hf'.kf,λk hk nj sz' es' e' m r dL h1 h2=>?_⟩⟩
   .rcases fc.1 hk with rfl|hk
    .rw[ho]at h1;have zL:fD true sz es e=_:=eI h1;obtain⟨_,rfl,rfl,rfl⟩:=jW zL;exact hf'.kf k sz es e ho
    .exact hf'.hit k hk fz sz' es' e' h1
   .have gx:k≠o:=by rintro rfl;rw[ho]at h1;cases h1
    exact hf'.kE k ((fc.1 hk).resolve_left gx) nj sz' es' e' m r dL h1 h2
  .obtain ⟨ho,h⟩:=h1;obtain⟨g',hs',he',hf'⟩:=ih hs h (λk hk=>hl k (by simp[hk]));refine⟨g',hs',he',⟨hf'.fl,hf'.aH,λk hk fz sz' es' e' h1=>?_,hf'.kf,λk hk nj sz' es' e' m r dL h1 h2=>?_⟩⟩
   .have gx:k≠o:=by rintro rfl;rcases ho with⟨_,_,_,h⟩|h<;>(rw[h1]at h;cases fz<;>cases h)
    exact hf'.hit k ((fc.1 hk).resolve_left gx) fz sz' es' e' h1
   .have gx:k≠o:=by rintro rfl;rcases ho with⟨_,_,_,h⟩|h<;>(rw[h1]at h;cases h)
    exact hf'.kE k ((fc.1 hk).resolve_left gx) nj sz' es' e' m r dL h1 h2
  .obtain ⟨nj,sz,es,e0,m,r,dL,szr,ho,hm,hr,⟨_,WN⟩,O4,h⟩:=h1;obtain⟨x,hx⟩:∃x,g.arr o e0=some x:=by
    rcases(hl o (by simp)).2 with⟨e,x,hx,⟨fz,_,_,h⟩|⟨_,_,_,_,_,_,h⟩⟩|⟨_,_,_,h⟩|h
    .rw[ho]at h;cases fz<;>cases h
    .rw[ho]at h;cases h;exact⟨x,hx⟩
    .rw[ho]at h;cases h
    .rw[ho]at h;cases h
   obtain⟨g1,fq,pT⟩:=hs.TE ho hm O4 hx hfl WN;have hom:o≠m:=by rintro rfl;rw[ho]at hm;cases hm
   have cJ:∀k,({s with ob:=(s.ob.set aI m .gone).set aI o (.kf sz (iZ nj es dL) e0)}:St).ob.get k=if k=o then some (.kf sz (iZ nj es dL) e0)else if k=m then some .gone else s.ob.get k:=λk=>by show((s.ob.set aI m _).set aI o _).get k=_;rw[Tr.aT _ _ _ _ cB,Tr.aT _ _ _ _ O4]
   obtain⟨g',hs',he',hf'⟩:=ih fq h (λk hk=>by
    by_cases gx:k=o
    .subst gx;exact⟨cB,.inl ⟨e0,x,pT.arr _ _ _ hx,.inl ⟨true,sz,_,by rw[cJ,bL rfl];rfl⟩⟩⟩
    .by_cases hkm:k=m
     .subst hkm;exact⟨O4,.inr (.inr (by rw[cJ,bw gx,bL rfl]))⟩
     .obtain ⟨h0,h1⟩:=hl k (by simp[hk]);refine⟨h0,?_⟩;rw[cJ,bw gx,bw hkm];exact h1.imp (λ⟨e',x',h1,h2⟩=>⟨e',x',pT.arr _ _ _ h1,h2⟩) id)
   refine⟨g',hs',pT.trans he',⟨hf'.fl,hf'.aH,λk hk fz sz' es' e' h1=>?_,λk sz' es' e' h1=>?_,λk hk nj' sz' es' e' m' r' Zv h1 h2=>?_⟩⟩
   .have gx:k≠o:=by rintro rfl;rw[ho]at h1;cases fz<;>cases h1
    have hkm:k≠m:=by rintro rfl;rw[hm]at h1;cases fz<;>cases h1
    exact hf'.hit k ((fc.1 hk).resolve_left gx) fz sz' es' e' (by rw[cJ,bw gx,bw hkm];exact h1)
   .have gx:k≠o:=by rintro rfl;rw[ho]at h1;cases h1
    have hkm:k≠m:=by rintro rfl;rw[hm]at h1;cases h1
    exact hf'.kf k sz' es' e' (by rw[cJ,bw gx,bw hkm];exact h1)
   .by_cases gx:k=o
    .subst gx;rw[ho]at h1;cases h1;rw[hr]at h2;cases h2;exact hf'.kf k _ _ _ (by rw[cJ,bL rfl])
    .have hk':=(fc.1 hk).resolve_left gx;obtain⟨szr',hm'⟩:=oq h2;have hkm:k≠m:=by rintro rfl;rw[hm]at h1;cases h1
     have hmo:m'≠o:=by rintro rfl;rw[ho]at hm';cases hm'
     have Za:m'≠m:=by
      rintro rfl
      exact nq h (m:=m') (by rw[cJ,bw hmo,bL rfl]) (λk hk=>hN k (by simp[hk])) k hk' nj' sz' es' e' r' none (by rw[cJ,bw gx,bw hkm];exact h1)
     exact hf'.kE k hk' nj' sz' es' e' m' r' Zv (by rw[cJ,bw gx,bw hkm];exact h1) (by simp only[GF];rw[cJ,bw hmo,bw Za];exact h2)
mutual
def kQ{g:Gh}{s:St}{w:World}(hs:bg g s w):∀(t:T){v:Value}{p:Prop}{d:D}{os:List Nat},vU s t=some (p,d,os)->p->aJ g w t v->
  (∀o∈os,Live g s o)∧∀(g':Gh)(s':St),bg g' s' w->Ext s.fl g w g' w->jM s s' os->dZ g'.bz w d v
 | .sym d,v,p,d',os,h,hp,ht=>by simp only[vU,bf,bB]at h;obtain⟨_,rfl,rfl⟩:=h;cases ht with|sym _ _ hd=>exact⟨λo ho=>(by cases ho),λg' s' _ he _=>hd.ext he hs.bz⟩
 | .kb b,v,p,d',os,h,hp,ht=>by simp only[vU,bf,bB]at h;obtain⟨_,rfl,rfl⟩:=h;cases ht;exact⟨λo ho=>(by cases ho),λg' s' _ he _=>.lit _⟩
 | .kn k n,v,p,d',os,h,hp,ht=>by simp only[vU,bf,bB]at h;obtain⟨_,rfl,rfl⟩:=h;cases ht;exact⟨λo ho=>(by cases ho),λg' s' _ he _=>.lit _⟩
 | .emp,v,p,d',os,h,hp,ht=>by simp only[vU,bf,bB]at h;obtain⟨_,rfl,rfl⟩:=h;cases ht with|emp a=>exact⟨λo ho=>(by cases ho),λg' s' _ he _=>.sl [] a 0 0 (λ_ _=>undef) (by simp) (by simp) (by simp) (λh=>absurd rfl h) (λi j d c h=>by simp at h)⟩
 | .jI n es,v,p,d',os,h,hp,ht=>by simp only[vU,bf,bB]at h;obtain⟨_,rfl,rfl⟩:=h;cases ht with|jI _ _ a hn hd=>exact⟨λo ho=>(by cases ho),λg' s' _ he _=>hd.ext he hs.bz⟩
 | .n9 j d,v,p,d',os,h,hp,ht=>by simp only[vU,bf,bB]at h;obtain⟨_,rfl,rfl⟩:=h;cases ht with|n9 _ _ c a hj hd=>exact⟨λo ho=>(by cases ho),λg' s' _ he _=>(z6 hj hd).ext he hs.bz⟩
 | .qF _ _ _ _,_,_,_,_,h,_,_=>by simp[vU]at h
 | .sh o e,v,p,d',os,h,hp,ht=>by
  cases ht with
  |sh _ _ len cap sz a hx=>
  simp only[vU]at h;split at h
  .rename_i sz' es era ho;rcases af h with⟨hb,h'⟩|⟨_,h'⟩
   .have hee:=beq_iff'.1 hb;simp only[bf,bB]at h';obtain⟨_,rfl,rfl⟩:=h';clear h hb;subst hee;refine⟨λk hk=>?_,λg' s' hs' he hf=>?_⟩
    .simp at hk;subst hk;exact⟨dy (hs.lt' hx) hs.aH,.inl ⟨e,_,hx,.inl ⟨false,sz',es,ho⟩⟩⟩
    .exact hs'.Ja (hf.hit o (by simp) false sz' es e ho) (he.arr _ _ _ hx)
   .cases h'
  .rename_i sz' es era ho;rcases af h with⟨hb,h'⟩|⟨_,h'⟩
   .have hee:=beq_iff'.1 hb;simp only[bf,bB]at h';obtain⟨_,rfl,rfl⟩:=h';clear h hb;subst hee;exact⟨λk hk=>(by cases hk),λg' s' hs' he hf=>hs'.Ja (hf.kf o sz' es e ho) (he.arr _ _ _ hx)⟩
   .cases h'
  .rename_i nj sz' es era m r ho;split at h
   .rename_i dL hr;rcases af h with⟨hb,h'⟩|⟨_,h'⟩
    .rw[eE]at hb;have hee:=beq_iff'.1 hb.1;have O4:m<bA:=fQ hb.2;simp only[bf,bB]at h';obtain⟨_,rfl,rfl⟩:=h';clear h hb;subst hee;refine⟨λk hk=>?_,λg' s' hs' he hf=>?_⟩
     .simp at hk;rcases hk with rfl|rfl
      .exact ⟨dy (hs.lt' hx) hs.aH,.inl ⟨e,_,hx,.inr ⟨nj,sz',es,m,r,none,ho⟩⟩⟩
      .obtain ⟨szr,hm⟩:=oq hr;exact⟨O4,.inr (.inl ⟨szr,dL,r,hm⟩)⟩
     .exact hs'.Ja (hf.kE o (by simp) nj sz' es e m r dL ho hr) (he.arr _ _ _ hx)
    .cases h'
   .cases h
  .cases h
 | .cR t x,v,p,d',os,h,hp,ht=>by
  cases ht with
  |cR _ _ u hu=>
  simp only[vU]at h;split at h
  .rename_i q d os' hd;simp only[bf,bB]at h;obtain⟨rfl,rfl,rfl⟩:=h;obtain⟨h1,h2⟩:=kQ hs x hd hp hu;exact⟨h1,λg' s' a b c=>.cR _ _ _ (h2 g' s' a b c)⟩
  .cases h
 | .agg cs,v,p,d',os,h,hp,ht=>by
  cases ht with
  |agg _ vs hl hr=>
  simp only[vU]at h;split at h
  .rename_i q ds os' hd;simp only[bf,bB]at h;obtain⟨rfl,rfl,rfl⟩:=h;obtain⟨h0,h1,h2⟩:=r7 hs cs (vs:=vs.toList) hd hp.1 (by simpa using hl) (λj t v ht hv=>hr j t v ht (by simpa using hv));refine⟨h1,λg' s' a b c=>.agg _ _ (by rw[h0,hl]) (λd hd=>by have:=hp.2;rw[gr]at this;exact this d hd) (λj d v hd hv=>h2 g' s' a b c j d v hd (by simpa using hv))⟩
  .cases h
 | .gq cs,v,p,d',os,h,hp,ht=>by
  cases ht with
  |gq _ vs hl hr=>
  simp only[vU]at h;split at h
  .rename_i q ds os' hd;simp only[bf,bB]at h;obtain⟨rfl,rfl,rfl⟩:=h;obtain⟨h0,h1,h2⟩:=r7 hs cs (vs:=vs.toList) hd hp (by simpa using hl) (λj t v ht hv=>hr j t v ht (by simpa using hv));exact⟨h1,λg' s' a b c=>.gq _ _ (by rw[h0,hl]) (λj d v hd hv=>h2 g' s' a b c j d v hd (by simpa using hv))⟩
  .cases h
 | .ptr _ _,_,_,_,_,h,_,_=>by simp[vU]at h
 | .mV _ _,_,_,_,_,h,_,_=>by simp[vU]at h
 | .kL _ _ _ _,_,_,_,_,h,_,_=>by simp[vU]at h
 | .fn _ _ _,_,_,_,_,h,_,_=>by simp[vU]at h
 | .gd _ _,_,_,_,_,h,_,_=>by simp[vU]at h
def r7{g:Gh}{s:St}{w:World}(hs:bg g s w):∀(ts:List T){vs:List Value}{p:Prop}{ds:List D}{os:List Nat},lY s ts=some (p,ds,os)->p->ts.length=vs.length->
  (∀(j:Nat)(t:T)(v:Value),ts[j]?=some t->vs[j]?=some v->aJ g w t v)->
  ds.length=ts.length∧(∀o∈os,Live g s o)∧∀(g':Gh)(s':St),bg g' s' w->Ext s.fl g w g' w->jM s s' os->
   ∀(j:Nat)(d:D)(v:Value),ds[j]?=some d->vs[j]?=some v->dZ g'.bz w d v
 |[],vs,p,ds,os,h,hp,hl,hr=>by simp only[lY,bf,bB]at h;obtain⟨_,rfl,rfl⟩:=h;exact⟨rfl,λo ho=>(by cases ho),λg' s' _ _ _ j d v hd=>by simp at hd⟩
 |t::ts,vs,p,ds,os,h,hp,hl,hr=>by
  simp only[lY]at h;split at h
  .rename_i p1 d Q6 p2 ds2 SV h1 h2;simp only[bf,bB]at h;obtain⟨rfl,rfl,rfl⟩:=h
   match vs,hl with
   |v::vs,hl=>
    obtain⟨a1,a2⟩:=kQ hs t h1 hp.1 (hr 0 t v rfl rfl);obtain⟨b0,b1,b2⟩:=r7 hs ts (vs:=vs) h2 hp.2 (by simpa using hl) (λj t v ht hv=>hr (j+1) t v (by simpa using ht) (by simpa using hv));refine⟨by simp[b0],λo ho=>?_,λg' s' x y z j d v hd hv=>?_⟩
    .rcases eg.1 ho with ho|ho
     .exact a1 o ho
     .exact b1 o ho
    .have z1:jM s s' Q6:=z.sub (λo ho=>eJ _ ho);have z2:jM s s' SV:=z.sub (λo ho=>iW _ ho);cases j with|zero=>simp at hd hv;subst hd;subst hv;exact a2 g' s' x y z1|succ j=>exact b2 g' s' x y z2 j d v (by simpa using hd) (by simpa using hv)
  .cases h
end
end
section
def PW{α β:Type}(R:α->β->Prop)(l:List α)(m:List β):Prop:=l.length=m.length∧∀(j:Nat)(a:α)(b:β),l[j]?=some a->m[j]?=some b->R a b
section
variable {α β:Type}{R:α->β->Prop}
def PW.append{l l':List α}{m m':List β}(h:PW R l m)(h':PW R l' m'):PW R (l++l') (m++m'):=by
 refine⟨by simp[h.1,h'.1],λj a b ha hb=>?_⟩;rw[lI]at ha hb;rw[<-h.1]at hb;by_cases hj:j<l.length
 .rw[bL hj]at ha hb;exact h.2 j a b ha hb
 .rw[bw hj]at ha hb;exact h'.2 _ a b ha hb
def PW.take{l:List α}{m:List β}(h:PW R l m)(n:Nat):PW R (l.take n) (m.take n):=by
 refine⟨by simp[h.1],λj a b ha hb=>?_⟩;rw[xO]at ha hb;by_cases hj:j<n
 .rw[bL hj]at ha hb;exact h.2 j a b ha hb
 .rw[bw hj]at ha;cases ha
def PW.drop{l:List α}{m:List β}(h:PW R l m)(n:Nat):PW R (l.drop n) (m.drop n):=by refine⟨by simp[h.1],λj a b ha hb=>?_⟩;rw[DZ]at ha hb;exact h.2 _ a b ha hb
end
def OG{l:List T}(h:leaves l):∀t∈l,t.leaf:=by
 induction l with
 |nil=>intro t ht;cases ht
 |cons a l ih=>
  intro t ht;rcases fc.1 ht with rfl|ht
  .exact h.1
  .exact ih h.2 t ht
variable {g:Gh}{w:World}{P:Program}{i:TI}
def PW.one{l:List T}{vs:List Value}(h:PW (aJ g w) l vs)(hl:leaves l):∀v∈vs,v.oneCell'=true:=by
 intro v hv;obtain⟨j,hj,rfl⟩:=uw hv;have hj':j<l.length:=by rw[h.1];exact hj
 exact(Sr (OG hl _ (GK hj')) (h.2 j _ _ (gm hj') (gm hj))).1
def wV{t:TypeId}{x:TypeInfo}(hi:P.info? t=some x)(w:World)(b off:Nat)(v:Value)(hsz:v.cells.size=x.size){vs:Array Value}{ty:TypeId}
  (hh:w.heap[b]?=some (.cells vs ty (0,0))) (hl:off+v.cells.size<=vs.size) (h1:∀u∈v.cells.toList,u.oneCell'=true) :
  (storeVar t ⟨b,off,none⟩ v).run P w=.ok () (w.setRow b (vs.toList.take off++v.cells.toList++vs.toList.drop (off+v.cells.size)).toArray):=by
 have:=run_storeCells_at (P:=P) b off ty v.cells.toList 0 vs w hh (by simpa using hl) h1;simp only[Ec,SI]at this;simp[storeVar,dB hi,hsz,this]
def oA{t:T}{v:Value}{p:Prop}{cs:List T}(h:iT i t=some (p,cs))(hp:p)(ht:aJ g w t v) :
  PW (aJ g w) cs v.cells.toList∧cs.length=i.size:=by
 obtain⟨h1,h2,h3,_⟩:=lV h hp ht;exact⟨⟨by simp[h1,h2],λj a b ha hb=>h3 j a b ha (by simpa using hb)⟩,h1⟩
def D.NB{ds:List D}(h:ds.all D.leaf=true):∀d∈ds,d.leaf=true:=by simpa using h
def Jx(es:List D)(k i:Nat)(d d':D)(h:(D.put es k d)[i]?=some d'):(i=k∧k<es.length∧d'=d)∨(i≠k∧es[i]?=some d'):=by
 unfold D.put at h;rw[GM]at h;by_cases hik:k=i
 .subst hik;rw[bL rfl]at h;by_cases hlt:k<es.length
  .rw[bL hlt]at h;exact .inl ⟨rfl,hlt,(eI h).symm⟩
  .rw[bw hlt]at h;cases h
 .rw[bw hik]at h;exact .inr ⟨λe=>hik e.symm,h⟩
def I5{ty:TypeId}(hi:nu P ty i){s s':St}(hs:bg g s w){a x:T}{va vx:Value}(ha:aJ g w a va)(hx:aJ g w x vx)
  {p:Prop} {t:T} (h:storeT i s a x=some (p,t,s')) (hp:p) :
  ∃w' g',(Instr.storeAt ty va vx).run P w=.ok () w'∧bg g' s' w'∧Ext s.fl g w g' w'∧t=QB:=by
 obtain⟨xi,d0,z,xb,hu,hsz,pP,_⟩:=hi.all;unfold storeT at h;cases hc:iT i x with
 |none=>simp[hc]at h
 |some q=>
  obtain⟨q,l⟩:=q;simp only[hc]at h;cases ha with
  |ptr o off b hb=>
   cases ho:s.ob.get o with
   |none=>simp[ho]at h
   |some ob=>
   simp only[ho]at h;cases ob with
   |box cs=>
   obtain⟨vs,UH,hh,hl,hr⟩:=(hs.box o b hb).box ho;simp only at h;rcases af h with⟨hn,h⟩|⟨_,h⟩
   .simp only[eE]at hn;have hfl:=fQ hn.1;have hlen:off+cA l<=cA cs:=fQ hn.2;rw[bH,bH]at hlen;simp only[bf,bB]at h;obtain⟨rfl,rfl,rfl⟩:=h;obtain⟨dc,ad2⟩:=oA hc hp.1 hx;have hvs:vx.cells.size=l.length:=by simpa using dc.1.symm
    have hcs:PW (aJ g w) cs vs.toList:=⟨by simpa using hl,λj a b h1 h2=>hr j a b h1 (by simpa using h2)⟩;have hrun:=wV (P:=P) xb w b off vx (by rw[hvs,ad2,hsz]) hh (by omega) (dc.one hp.2);rw[hvs]at hrun;have hnew:PW (aJ g w) (cs.take off++l++cs.drop (Nat.add off (cA l))) (vs.toList.take off++vx.cells.toList++vs.toList.drop (off+l.length)):=by rw[bH];exact((hcs.take off).append dc).append (hcs.drop _)
    obtain⟨hs',he⟩:=hs.ac3 hb ho hfl (cs':=cs.take off++l++cs.drop (Nat.add off (cA l)))
     (vs':=(vs.toList.take off++vx.cells.toList++vs.toList.drop (off+l.length)).toArray) (by simpa using hnew.1) (λj t v h1 h2=>hnew.2 j t v h1 (by simpa using h2))
    exact⟨_,g,by simpa[Instr.storeAt,Instr.sureAddr]using hrun,hs',he,rfl⟩
   .cases h
   |_=>simp at h
  |kL o e k off len cap sz ad aic=>
   cases hd:lY s l with
   |none=>simp[hd]at h
   |some r=>
    obtain⟨r,ds,os⟩:=r;simp only[hd]at h;cases aaA:freeze s os with
    |none=>simp[aaA]at h
    |some s1=>
    simp only[aaA]at h;cases ho:s1.ob.get o with
    |none=>simp[ho]at h
    |some ob=>
     cases ob with
     |box _=>simp[ho]at h
     |kf _ _ _=>simp[ho]at h
     |map _=>simp[ho]at h
     |pO _ _=>simp[ho]at h
     |kE _ _ _ _ _ _ _=>simp[ho]at h
     |rws _ _ _=>simp[ho]at h
     |gone=>simp[ho]at h
     |lp _=>simp[ho]at h
     |Av=>simp[ho]at h
     |arr sz' es era=>
      simp only[ho]at h;rcases af h with⟨hn,h9⟩|⟨_,h9⟩
      .simp only[eE]at hn;obtain⟨hfl,hee⟩:=hn;have hfl:=fQ hfl;have hee:=beq_iff'.1 hee;subst hee;simp only[bf,bB]at h9;obtain⟨rfl,rfl,rfl⟩:=h9;obtain⟨kH,Wx,hp3,hp4,hp5,hp6,hp7⟩:=hp;obtain⟨dc,ad2⟩:=oA hc kH hx;obtain⟨b0,b1,b2⟩:=r7 hs l hd Wx dc.1 dc.2;obtain⟨g1,fq,pT,ad9⟩:=en os hs aaA b1;have lC:=b2 g1 s1 fq pT ad9;have hga:=pT.arr _ _ _ aic;clear aic;have aoE:=ad9.fl;clear b1 b2 hd aaA ad9;obtain⟨hok,ahG⟩:=fq.nG (fz:=false) ho hga;change sz=sz' at ahG;subst ahG;have hk:=Rg hp4;obtain⟨cs0,aaE,hcl,anS⟩:∃cs0,(D.el es k).cells=cs0∧cs0.length=sz∧(off+ds.length<=sz->(D.QA (D.el es k) off ds).cells=cs0.take off++ds++cs0.drop (off+ds.length)):=by
        rcases hp5 with hp5|⟨h1,h2,h3,h4⟩
        .obtain ⟨cs0,aaE,hcl,hcf⟩:=xZ hp5;exact⟨cs0,by rw[aaE];rfl,hcl,λ_=>by rw[aaE];rfl⟩
        .rw[bH]at h4;obtain⟨d1,rfl⟩:=Md.1 h4;have JU:=D.NB hp3 d1 (by simp);have UF:∀d:D,d.leaf=true->d.cells=[d]:=by intro d hd;cases d<;>first|rfl|simp[D.leaf]at hd
         refine⟨[D.el es k],UF _ h1,h2.symm,λ_=>?_⟩;subst h3;have:D.QA (D.el es k) 0 [d1]=d1:=by generalize D.el es k=q at h1;cases q<;>first|rfl|simp[D.leaf]at h1
         rw[this,UF _ JU];rfl
       have hoff:off+ds.length<=sz:=by have:=fQ hp6;rw[bH]at this;exact this
       have h1:=hok.len;have h2:=hok.cap;simp only at h1 h2;obtain⟨b,vs,UH,hab,hfz,hh,WY,kI⟩:=hok.mem (by simp only;omega);simp only[bf]at hab;subst hab;have hvs:vx.cells.size=ds.length:=by rw[b0];simpa using dc.1.symm
       have hbound:k*sz+sz<=vs.size:=by have:(k+1)*sz<=cap*sz:=wB _ (by omega);rw[CG,DX]at this;exact fS this WY
       have hone:∀u∈vx.cells.toList,u.oneCell'=true:=by
        intro u hu;obtain⟨j,hj,rfl⟩:=uw hu;have hj':j<ds.length:=by rw[b0,dc.1];exact hj
        exact(uH (D.NB hp3 _ (GK hj')) (lC j _ _ (gm hj') (gm hj))).1
       have hrun:=wV (P:=P) xb w b (k*sz+off) vx (by rw[hvs,b0,ad2,hsz]) hh (by omega) hone;have lE:(⟨some ⟨b,0,none⟩,len,cap,sz⟩:fB).at b:=⟨_,rfl,rfl,by simp only;omega⟩;have hsc:=anS hoff;have aaq:(vs.toList.take (k*sz+off)++vx.cells.toList++vs.toList.drop (k*sz+off+vx.cells.size)).length=vs.size:=by simp[hvs];omega
       have wF:vR g1 (w.setRow b (vs.toList.take (k*sz+off)++vx.cells.toList++vs.toList.drop (k*sz+off+vx.cells.size)).toArray) false sz
         (D.put es k ((D.el es k).QA off ds)) ⟨some ⟨b,0,none⟩,len,cap,sz⟩:=by
        refine⟨by simp[D.put,h1],h2,λd hd=>?_,hok.pos,λd hd=>?_,λh0=>?_,λ_=>⟨b,_,UH,rfl,hfz,setRow_heap w b vs _ UH _ hh,by simp only[LY];rw[aaq];exact WY,?_⟩⟩
        .obtain ⟨j,hj,rfl⟩:=uw hd;rcases Jx _ _ _ _ _ (gm hj)with⟨rfl,_,he⟩|⟨_,he⟩
         .rw[he,hsc];simp[hcl];omega
         .exact hok.rows _ (gW he)
        .obtain ⟨j,hj,rfl⟩:=uw hd;rcases Jx _ _ _ _ _ (gm hj)with⟨rfl,_,he⟩|⟨_,he⟩
         .rw[he,hp7];have hb:=hok.Ze _ (gW (D.J8 hk));simpa[D.put]using hb
         .have hb:=hok.Ze _ (gW he);simpa[D.put]using hb
        .have:es.length=0:=by simpa[D.put]using nB List.length h0
         omega
        .intro i d j c hd hj;have Im:∀(v:Value),vs[i*sz+j]?=some v->(i≠k∧j<sz∨i=k∧(j<off∨off+ds.length<=j))->
           (vs.toList.take (k*sz+off)++vx.cells.toList++vs.toList.drop (k*sz+off+vx.cells.size)).toArray[i*sz+j]?=some v:=by
          intro v hv Iq;have hlt:i*sz+j<vs.size:=by have:=(Ju.1 hv).1;exact this
          have aej:i*sz+j<k*sz+off∨k*sz+off+ds.length<=i*sz+j:=by
           rcases Iq with⟨hik,hj⟩|⟨rfl,hj⟩
           .rcases Nat.lt_or_gt_of_ne hik with hik|hik
            .have:(i+1)*sz<=k*sz:=wB _ hik;rw[CG,DX]at this
             left;omega
            .have:(k+1)*sz<=i*sz:=wB _ hik;rw[CG,DX]at this
             right;omega
           .rcases hj with hj|hj
            .left;omega
            .right;omega
          rw[On,lI,lI];rcases aej with UF|UF
          .rw[bL (by simp[hvs];omega),bL (by simp;omega),xO,bL UF];simpa using hv
          .rw[bw (by simp[hvs];omega),DZ];have:k*sz+off+vx.cells.size+(i*sz+j-(List.take (k*sz+off) vs.toList++vx.cells.toList).length)=i*sz+j:=by simp[hvs];omega
           rw[this];simpa using hv
         rcases Jx _ _ _ _ _ hd with⟨rfl,hlt,rfl⟩|⟨hik,hd⟩
         .rw[hsc]at hj;have pS:j<sz:=by have:=aD hj;simp[hcl]at this;omega
          by_cases hin:off<=j∧j<off+ds.length
          .have hj2:ds[j-off]?=some c:=by
            rw[lI,bL (by simp[hcl];omega),lI,bw (by simp[hcl];omega)]at hj;have:j-(cs0.take off).length=j-off:=by simp[hcl];omega
            rwa [this]at hj
           have ad1:j-off<vx.cells.size:=by omega
           refine⟨vx.cells[j-off],?_,?_⟩
           .rw[On,lI,bL (by simp[hvs];omega),lI,bw (by simp;omega)];have:i*sz+j-(List.take (i*sz+off) vs.toList).length=j-off:=by simp;omega
            rw[this];simp[ad1]
           .have:=lC (j-off) c vx.cells[j-off] hj2 (by simp[ad1]);exact this.ext (Ext.refl 0 g1 w) fq.bz |>.mono (λb' hb'=>setRow_other w b b' _ (λe=>by subst e;exact Bool.noConfusion (hfz.2 hb'))) (λ_ h=>h)
          .have hj2:cs0[j]?=some c:=by
            rw[lI,lI]at hj;by_cases hlo:j<off
            .rw[bL (by simp[hcl];omega),bL (by simp[hcl];omega),xO,bL hlo]at hj;exact hj
            .rw[bw (by simp[hcl];omega),DZ]at hj;have:off+ds.length+(j-(List.take off cs0++ds).length)=j:=by simp[hcl];omega
             rwa [this]at hj
           obtain⟨v,hv,hr⟩:=kI i (D.el es i) j c (D.J8 hlt) (by rw[aaE];exact hj2);refine⟨v,Im v hv (.inr ⟨rfl,by omega⟩),hr.mono (λb' hb'=>setRow_other w b b' _ (λe=>by subst e;exact Bool.noConfusion (hfz.2 hb'))) (λ_ h=>h)⟩
         .obtain ⟨v,hv,hr⟩:=kI i d j c hd hj;have pS:j<sz:=by rw[<-hok.rows d (gW hd)];exact aD hj
          exact⟨v,Im v hv (.inl ⟨hik,pS⟩),hr.mono (λb' hb'=>setRow_other w b b' _ (λe=>by subst e;exact Bool.noConfusion (hfz.2 hb'))) (λ_ h=>h)⟩
       obtain⟨hs',he⟩:=fq.ada ho hga hfl lE wF;refine⟨_,g1,?_,hs',pT.trans (aoE▸he),rfl⟩;rw[nH];simpa[Instr.storeAt,Instr.sureAddr]using hrun
      .cases h9
  |_=>simp at h
end
section
variable {k:IntKind}{I:Nat->Prop}{d:D}{b a:T}{va vb:Value}{r:Bool}
def AR{j:IntKind}(h:nD j k=true):j=k:=by cases j<;>cases k<;>first|rfl|cases h
section
variable {g:Gh}{w:World}{t:T}{v:Value}{p:Prop}
def Ti(h:D.isInt k d=true)(hd:dZ I w d v):v=.int k d.toInt:=by
 cases hd with
 |lit v=>
  cases v with|int j n=>rw[AR h];rfl|_=>cases h
 |_=>cases h
def EO(h:d.isBool=true)(hd:dZ I w d v):v=.bool d.toBool:=by
 cases hd with
 |lit v=>
  cases v with|bool b=>rfl|_=>cases h
 |_=>cases h
def Th(h:d.isStr=true)(hd:dZ I w d v):v=.string d.toStr:=by
 cases hd with
 |lit v=>
  cases v with|string b=>rfl|_=>cases h
 |_=>cases h
def dJ{n:Int}(h:tZ k t=some (p,n))(hp:p)(ht:aJ g w t v):v=.int k n:=by
 cases ht with
 |kn j m=>
  simp only[tZ]at h;rcases af h with⟨hb,h⟩|⟨_,h⟩
  .simp only[bf,bB]at h;rw[AR hb,h.2]
  .cases h
 |sym d v hd=>simp only[tZ,bf,bB]at h;obtain⟨rfl,rfl⟩:=h;exact Ti hp hd
 |_=>simp[tZ]at h
def iK{b:Bool}(h:xu t=some (p,b))(hp:p)(ht:aJ g w t v):v=.bool b:=by
 cases ht with
 |kb c=>simp only[xu,bf,bB]at h;rw[h.2]
 |sym d v hd=>simp only[xu,bf,bB]at h;obtain⟨rfl,rfl⟩:=h;exact EO hp hd
 |_=>simp[xu]at h
def gV{b:ByteArray}(h:xH t=some (p,b))(hp:p)(ht:aJ g w t v):v=.string b:=by
 cases ht with
 |sym d v hd=>simp only[xH,bf,bB]at h;obtain⟨rfl,rfl⟩:=h;exact Th hp hd
 |_=>simp[xH]at h
def D.v7(h:d.ahn=true):d=.sl d.ac0:=by cases d<;>first|rfl|cases h
def QL{s:St}(hs:bg g s w){es:List D}(h:rf s t=some (p,es))(hp:p)(ht:aJ g w t v):∃a cap,v=.slice a es.length cap∧es.length<=cap:=by
 cases ht with
 |emp a=>simp only[rf,bf,bB]at h;obtain⟨_,rfl⟩:=h;exact⟨a,0,rfl,by simp⟩
 |jI n es' a hn hd=>simp only[rf,bf,bB]at h;obtain⟨_,rfl⟩:=h;exact⟨a,_,rfl,bT _⟩
 |n9 j d c a hj hd=>simp only[rf,bf,bB]at h;obtain⟨_,rfl⟩:=h;exact⟨a,1,rfl,bT _⟩
 |sym d v hd=>
  simp only[rf,bf,bB]at h;obtain⟨rfl,rfl⟩:=h;rw[D.v7 hp]at hd;generalize d.ac0=es at *
  cases hd with|sl _ a cap sz val hcap=>exact⟨a,cap,rfl,hcap⟩
 |sh o e len cap sz a hx=>
  simp only[rf]at h;have key:∀fz sz'(es':List D)era,s.ob.get o=some (fD fz sz' es' era)->(bif Nat.beq e era then some (True,es')else none)=some (p,es)->
    ∃a' cap',Value.slice a len cap=.slice a' es.length cap'∧es.length<=cap':=by
   intro fz sz' es' era ho h;rcases af h with⟨hb,h⟩|⟨_,h⟩
   .have hee:=beq_iff'.1 hb;simp only[bf,bB]at h;obtain⟨_,rfl⟩:=h;obtain⟨hok,_⟩:=hs.nG (hee▸ho) hx;have h1:=hok.len;have h2:=hok.cap;simp only at h1 h2;exact⟨a,cap,by rw[h1],by omega⟩
   .cases h
  split at h
  .rename_i sz' es' era ho;exact key false sz' es' era ho h
  .rename_i sz' es' era ho;exact key true sz' es' era ho h
  .cases h
 |_=>simp[rf]at h
end
section
variable {P:Program}{g:Gh}{w:World}
def s9{x:T}{vx:Value}{q:Prop}{y:Bool}(h:FR x=some (q,y))(hq:q)(hr:aJ g w x vx):vx=.bool y:=by
 cases hr with
 |gd c t v hcv=>
  simp only[FR]at h;split at h
  .rename_i q' y' h1;simp only[bf,bB]at h;obtain⟨rfl,rfl⟩:=h;exact iK h1 hq.2 (hcv hq.1)
  .cases h
 |kb b=>simp only[FR,bf,bB]at h;rw[h.2]
 |sym d v hd=>simp only[FR,bf,bB]at h;obtain⟨rfl,rfl⟩:=h;exact EO hq hd
 |_=>simp[FR]at h
def Mj{c:T}{vc:Value}{p:Prop}{t:T}(h:HW c a b=some (p,t))(hp:p)(hc:aJ g w c vc)(ha:aJ g w a va)(hb:aJ g w b vb) :
  ∃u,vc=.bool u∧aJ g w t (if u then va else vb):=by
 unfold HW at h;split at h
 .rename_i u;cases hc;refine⟨u,rfl,?_⟩;split at h
  .rename_i q y Zb;simp only[bf,bB]at h;obtain⟨rfl,rfl⟩:=h;cases u with|true=>rw[bL rfl,s9 Zb hp ha];exact .sym _ _ (.lit _)|false=>rw[bw Bool.noConfusion,s9 Zb hp hb];exact .sym _ _ (.lit _)
  .cases h
 split at h
 .rename_i p0 u q1 x1 q2 x2 hu h1 h2;simp only[bf,bB]at h;obtain⟨rfl,rfl⟩:=h;have Gy:=iK hu hp.1 hc;refine⟨u,Gy,?_⟩;cases u with|true=>rw[s9 h1 (hp.2.1 rfl) ha];exact .sym _ _ (.lit _)|false=>rw[s9 h2 (hp.2.2 rfl) hb];exact .sym _ _ (.lit _)
 .cases h
def zX{l:Lk}{p:Prop}(h:pg l a b=some (p,r))(hp:p)(ha:aJ g w a va)(hb:aJ g w b vb) :
  Aj l va∧Aj l vb∧r=Fe va vb:=by
 cases l with
 |int k=>
  simp only[pg]at h;split at h
  .rename_i p1 x p2 y h1 h2;simp only[bf,bB]at h;obtain⟨rfl,rfl⟩:=h;rw[dJ h1 hp.1 ha,dJ h2 hp.2 hb];exact⟨⟨_,rfl⟩,⟨_,rfl⟩,rfl⟩
  .cases h
 |bool=>
  simp only[pg]at h;split at h
  .rename_i p1 x p2 y h1 h2;simp only[bf,bB]at h;obtain⟨rfl,rfl⟩:=h;rw[iK h1 hp.1 ha,iK h2 hp.2 hb];exact⟨⟨_,rfl⟩,⟨_,rfl⟩,rfl⟩
  .cases h
 |str=>
  simp only[pg]at h;split at h
  .rename_i p1 x p2 y h1 h2;simp only[bf,bB]at h;obtain⟨rfl,rfl⟩:=h;rw[gV h1 hp.1 ha,gV h2 hp.2 hb];exact⟨⟨_,rfl⟩,⟨_,rfl⟩,rfl⟩
  .cases h
 |no=>simp[pg]at h
def uX:∀(ls:List Lk)(as bs:List T)(va vb:List Value){p:Prop}{r:Bool},jG ls as bs=some (p,r)->p->PW (aJ g w) as va->PW (aJ g w) bs vb->
  va.length=ls.length∧vb.length=ls.length∧(∀(j:Nat)(l:Lk)(v:Value),ls[j]?=some l->va[j]?=some v->Aj l v)∧
   (∀(j:Nat)(l:Lk)(v:Value),ls[j]?=some l->vb[j]?=some v->Aj l v)∧r=kK va vb
 |[],[],[],va,vb,p,r,h,hp,ha,hb=>by simp only[jG,bf,bB]at h;have h1:va=[]:=AJ ha.1.symm;have h2:vb=[]:=AJ hb.1.symm;subst h1;subst h2;refine⟨rfl,rfl,λj l v h=>by simp at h,λj l v h=>by simp at h,h.2.symm⟩
 |l::ls,a::as,b::bs,va,vb,p,r,h,hp,ha,hb=>by
  simp only[jG]at h;split at h
  .rename_i p1 x p2 y h1 h2;simp only[bf,bB]at h;obtain⟨rfl,rfl⟩:=h
   match va,vb,ha,hb with
   |v::va,u::vb,ha,hb=>
    obtain⟨k1,k2,k3⟩:=zX h1 hp.1 (ha.2 0 _ _ rfl rfl) (hb.2 0 _ _ rfl rfl);obtain⟨m1,m2,m3,m4,m5⟩:=uX ls as bs va vb h2 hp.2 ⟨by simpa using ha.1,λj x y hx hy=>ha.2 (j+1) x y (by simpa using hx) (by simpa using hy)⟩
     ⟨by simpa using hb.1,λj x y hx hy=>hb.2 (j+1) x y (by simpa using hx) (by simpa using hy)⟩
    refine⟨by simp[m1],by simp[m2],λj l' v' hl hv=>?_,λj l' v' hl hv=>?_,?_⟩
    .cases j with|zero=>simp at hl hv;subst hl;subst hv;exact k1|succ j=>exact m3 j l' v' (by simpa using hl) (by simpa using hv)
    .cases j with|zero=>simp at hl hv;subst hl;subst hv;exact k2|succ j=>exact m4 j l' v' (by simpa using hl) (by simpa using hv)
    .rw[k3,m5];rfl
  .cases h
 |[],[],_::_,_,_,_,_,h,_,_,_=>by simp[jG]at h
 |[],_::_,_,_,_,_,_,h,_,_,_=>by simp[jG]at h
 |_::_,[],_,_,_,_,_,h,_,_,_=>by simp[jG]at h
 |_::_,_::_,[],_,_,_,_,h,_,_,_=>by simp[jG]at h
def SE(d:Nat){ty e:TypeId}(hu:P.underlying ty=some (.pointer e))(a:Addr):(Op.equalIn (d+1) ty (.pointer none) (.pointer (some a))).run P w=.ok false w:=by simp only[Op.equalIn,Sem.run_bind,aL hu,Result.andThen_ok];rfl
def SF(d:Nat){ty e:TypeId}(hu:P.underlying ty=some (.pointer e))(a:Addr):(Op.equalIn (d+1) ty (.pointer (some a)) (.pointer none)).run P w=.ok false w:=by simp only[Op.equalIn,Sem.run_bind,aL hu,Result.andThen_ok];rfl
def SG(d:Nat){ty:TypeId}{ms:Array (String×TypeId)}(hu:P.underlying ty=some (.interface ms))(t:TypeId)(v:Value):(Op.equalIn (d+1) ty .nilIface (.iface t v)).run P w=.ok false w:=by simp only[Op.equalIn,Sem.run_bind,aL hu,Result.andThen_ok];rfl
def HM(d:Nat){ty:TypeId}{ms:Array (String×TypeId)}(hu:P.underlying ty=some (.interface ms))(t:TypeId)(v:Value):(Op.equalIn (d+1) ty (.iface t v) .nilIface).run P w=.ok false w:=by simp only[Op.equalIn,Sem.run_bind,aL hu,Result.andThen_ok];rfl
def nS{ty:TypeId}(x y:Operand)(h1:binOp .eql ty va vb=(do pure (.bool (<-Op.equal ty va vb))))(h2:binOp .neq ty va vb=(do pure (.bool (!(<-Op.equal ty va vb)))))
  (hg:∀op,(eqGuard op ty x y va vb).run P w=.ok () w) (he:(Op.equalIn (9999+1) ty va vb).run P w=.ok r w) :
  ((do eqGuard .eql ty x y va vb;binOp .eql ty va vb:Sem Value)).run P w=.ok (.bool r) w∧((do eqGuard .neq ty x y va vb;binOp .neq ty va vb:Sem Value)).run P w=.ok (.bool (!r)) w:=by
 have he':(Op.equal ty va vb).run P w=.ok r w:=he;rw[h1,h2];constructor
 .rw[Sem.run_bind,hg];simp[he']
 .rw[Sem.run_bind,hg];simp[he']
def Fc{ty:TypeId}{i:TI}(hi:nu P ty i){p:Prop}(h:TN i a b=some (p,r))(hp:p)(ha:aJ g w a va)(hb:aJ g w b vb)(x y:Operand) :
  ((do eqGuard .eql ty x y va vb;binOp .eql ty va vb:Sem Value)).run P w=.ok (.bool r) w∧((do eqGuard .neq ty x y va vb;binOp .neq ty va vb:Sem Value)).run P w=.ok (.bool (!r)) w:=by
 obtain⟨xi,d0,z,xb,hu,hsz,pP,hz,nE,dO⟩:=hi.all;unfold TN at h;rcases af h with⟨E0,h⟩|⟨E0,h⟩
 .split at h
  .cases h
  .rename_i k ks qa as qb bs hk hca hcb;simp only[eA,bB]at h;obtain⟨⟨q,r'⟩,he,rfl,rfl⟩:=h;obtain⟨hpa,_⟩:=oA hca hp.1 ha;obtain⟨hpb,_⟩:=oA hcb hp.2.1 hb;obtain⟨_,_,_,hva,_⟩:=lV hca hp.1 ha;obtain⟨_,_,_,hvb,_⟩:=lV hcb hp.2.1 hb;obtain⟨xs,rfl⟩:=hva E0;obtain⟨ys,rfl⟩:=hvb E0;obtain⟨m1,m2,m3,m4,m5⟩:=uX (k::ks) as bs _ _ he hp.2.2 hpa hpb;simp only[Value.cells]at m1 m2 m3 m4 m5;have hne:i.YW≠[]:=by rw[hk];simp
   rw[<-hk]at m1 m2 m3 m4;have key:∀op,_:=λop=>hi.eqs E0 hne w op x y xs ys (by simpa using m1) (by simpa using m2) (λj l v h1 h2=>m3 j l v h1 (by simpa using h2)) (λj l v h1 h2=>m4 j l v h1 (by simpa using h2));refine⟨?_,?_⟩
   .rw[Sem.run_bind,(key .eql).1];simp only[Result.andThen_ok,binOp,Sem.run_bind,(key .eql).2,m5];rfl
   .rw[Sem.run_bind,(key .neq).1];simp only[Result.andThen_ok,binOp,Sem.run_bind,(key .neq).2,m5];rfl
  .cases h
 .split at h
  .rename_i l hl;obtain⟨hva,hvb,rfl⟩:=zX h hp ha hb;rw[hl]at dO;cases l with
   |int k=>obtain⟨m,rfl⟩:=hva;obtain⟨n,rfl⟩:=hvb;simp[eqGuard,binOp,Op.intCmp,Fe,bne]
   |bool=>obtain⟨m,rfl⟩:=hva;obtain⟨n,rfl⟩:=hvb;simp only[NN]at dO;subst dO;exact nS x y rfl rfl (λop=>by cases op<;>rfl) (run_equalIn_bool' w _ _ _ _ hu)
   |str=>obtain⟨m,rfl⟩:=hva;obtain⟨n,rfl⟩:=hvb;simp[eqGuard,binOp,Op.stringOp,Fe,beq_toListBytes]
   |no=>exact hva.elim
  .rename_i hl;rw[hl]at dO;obtain⟨e,rfl⟩:=dO;unfold ab7 at h;split at h
   .simp only[bf,bB]at h;obtain⟨_,rfl⟩:=h;cases ha with
    |sym _ _ ha=>
    cases ha;cases hb;exact nS x y rfl rfl (λop=>by cases op<;>rfl) (SE _ hu _)
   .simp only[bf,bB]at h;obtain⟨_,rfl⟩:=h;cases hb with
    |sym _ _ hb=>
    cases hb;cases ha;exact nS x y rfl rfl (λop=>by cases op<;>rfl) (SF _ hu _)
   .cases h
  .rename_i hl;rw[hl]at dO;obtain⟨e,rfl⟩:=dO;unfold ab8 at h;split at h
   .simp only[bf,bB]at h;obtain⟨_,rfl⟩:=h;cases ha with
    |sym _ _ ha=>
    cases ha;cases hb;exact nS x y rfl rfl (λop=>by cases op<;>rfl) (SG _ hu _ _)
   .simp only[bf,bB]at h;obtain⟨_,rfl⟩:=h;cases hb with
    |sym _ _ hb=>
    cases hb;cases ha;exact nS x y rfl rfl (λop=>by cases op<;>rfl) (HM _ hu _ _)
   .cases h
  .cases h
end
end
section
section
variable {P:Program}{g:Gh}{w:World}
variable {i:TI}{a t:T}{va:Value}{p:Prop}{d:D}{s s':St}{k:Nat}
def PG{ty:TypeId}(hi:nu P ty i){op:BinOp}{b:T}{vb:Value}(h:Kk i op a b=some (p,d))(hp:p)(ha:aJ g w a va)(hb:aJ g w b vb)(x y:Operand) :
  ∃v,((do eqGuard op ty x y va vb;binOp op ty va vb:Sem Value)).run P w=.ok v w∧aJ g w (.sym d) v:=by
 unfold Kk at h;split at h
 .simp only[eA,bB]at h;obtain⟨⟨q,r⟩,he,rfl,rfl⟩:=h;exact⟨_,(Fc hi he hp ha hb x y).1,.sym _ _ (.lit _)⟩
 .simp only[eA,bB]at h;obtain⟨⟨q,r⟩,he,rfl,rfl⟩:=h;exact⟨_,(Fc hi he hp ha hb x y).2,.sym _ _ (.lit _)⟩
 .rename_i O1 O0;split at h
  .rename_i k hk;split at h
   .rename_i p1 m p2 n h1 h2;cases hc:Px op k m n with
    |some d'=>
     simp only[hc,bf,bB]at h;obtain⟨rfl,rfl⟩:=h;rw[dJ h1 hp.1 ha,dJ h2 hp.2 hb];cases op<;>simp only[Px,bf]at hc<;>first
      |(cases hc;done)
      |(
        subst hc;refine⟨_,?_,.sym _ _ (.lit _)⟩;simp[eqGuard,binOp,Op.intCmp,Op.intArith,D.bN,D.eu,D.add,D.dN,D.mul])
    |none=>
     simp only[hc,eA,bB]at h;obtain⟨d',hd,rfl,rfl⟩:=h;rw[dJ h1 hp.1 ha,dJ h2 hp.2.1 hb];have hz:n≠0:=hp.2.2;cases op<;>simp only[Xv,bf]at hd<;>first
      |(cases hd;done)
      |(
        subst hd;refine⟨_,?_,.sym _ _ (.lit _)⟩;simp[eqGuard,binOp,Op.intDiv,hz,D.rem,D.quo])
   .cases h
  .split at h
   .rename_i p1 m p2 n h1 h2;simp only[bf,bB]at h;obtain⟨rfl,rfl⟩:=h;rw[gV h1 hp.1 ha,gV h2 hp.2.1 hb];have hfit:m.size+n.size<=4611686018427387904:=hp.2.2;refine⟨_,?_,.sym _ _ (.lit _)⟩;simp[eqGuard,binOp,Op.stringOp,D.U6];omega
   .cases h
  .cases h
def So{op:UnOp}(h:unT i op a=some (p,d))(hp:p)(ha:aJ g w a va) :
  ∃v,(Op.unary op va).run P w=.ok v w∧aJ g w (.sym d) v:=by
 unfold unT at h;split at h
 .simp only[eA,bB]at h;obtain⟨⟨q,r⟩,he,rfl,rfl⟩:=h;rw[iK he hp ha];exact⟨_,rfl,.sym _ _ (.lit _)⟩
 .simp only[eA,bB]at h;obtain⟨⟨q,r⟩,he,rfl,rfl⟩:=h;rw[dJ he hp ha];refine⟨_,rfl,?_⟩;simp only[D.neg];rw[show(0:Int)-r=-r from by omega];exact .sym _ _ (.lit _)
 .cases h
def Nf{src dst:TypeId}{j:TI}(hi:nu P src i)(hj:nu P dst j)(h:IE i j s a=some (p,t,s'))(hp:p)(ha:aJ g w a va) :
  ∃v,(convert src dst va).run P w=.ok v w∧aJ g w t v∧s'=s:=by
 obtain⟨_,d1,_,_,j6,_,_,_,_,ke⟩:=hi.all;obtain⟨_,d2,_,_,EU,_,_,_,_,hk2⟩:=hj.all;unfold IE at h;split at h
 .rename_i k l hik Cg;simp only[eA,bB]at h;obtain⟨⟨q,n⟩,he,rfl,rfl,rfl⟩:=h;rw[hik]at ke;rw[Cg]at hk2;simp only[NN]at ke hk2;subst ke;subst hk2;rw[dJ he hp ha];exact⟨_,by simp[convert,aL j6,aL EU,Conv.intToInt];rfl,.sym _ _ (.lit _),rfl⟩
 .rename_i hik Cg;simp only[eA,bB]at h;obtain⟨⟨q,b⟩,hb,rfl,rfl,rfl⟩:=h;rw[hik]at ke;rw[Cg]at hk2;simp only[NN]at ke hk2;subst ke;subst hk2;have hb':=gV hb hp ha;subst hb';exact⟨_,by simp[convert,aL j6,aL EU],ha,rfl⟩
 .cases h
def E8(h:o9 s k a=some (p,t,s'))(hp:p)(ha:aJ g w a va) :
  ∃v,(Instr.extract va k).run P w=.ok v w∧aJ g w t v∧s'=s:=by
 cases ha with
 |gq ts vs hl hr=>
  simp only[o9,jx,eA,bB]at h;obtain⟨t',ht,_,rfl,rfl⟩:=h;have hk:k<vs.size:=by rw[<-hl];exact aD ht
  refine⟨vs[k],by simp[Instr.extract,oN hk],hr k _ _ ht (oN hk),rfl⟩
 |sym d v hd=>
  simp only[o9,bf,bB]at h;obtain⟨rfl,rfl,rfl⟩:=h;cases hd with
  |gq ds vs hl hr=>
   have hlt:k<ds.length:=by have:Nat.blt k (cA ds)=true:=hp;rw[bH]at this;exact fQ this
   have hk:k<vs.size:=by rw[<-hl];exact hlt
   refine⟨vs[k],by simp[Instr.extract,oN hk],.sym _ _ ?_,rfl⟩;refine hr k _ _ ?_ (oN hk);simp[D.proj,List.getD,gm hlt]
  |_=>cases hp
 |_=>simp[o9]at h
def add_zero'(a:Addr):a.add 0=a:=by simp[Addr.add]
def A8{ty:TypeId}(hi:nu P ty i)(h:o8 i s k a=some (p,t,s'))(ha:aJ g w a va) :
  ∃v,(Instr.fieldAt ty va k).run P w=.ok v w∧aJ g w t v∧s'=s:=by
 obtain⟨_,d1,_,_,j6,_,_,_,_,ke⟩:=hi.all;unfold o8 at h;split at h
 .rename_i fs UE;rw[UE]at ke;obtain⟨fields,rfl,hsz,hf⟩:=ke;split at h
  .rename_i off size ag hn;rw[jx]at hn;obtain⟨f,j,d',JX,Tu,N5,hf4,_⟩:=hf k off size ag hn;rcases af h with⟨_,h⟩|⟨h0,h⟩
   .cases h
   .have hne:j.size≠0:=by rw[hf4];intro e;rw[e]at h0;cases h0
    have hrun:∀ad,(Instr.fieldAt ty (.pointer (some ad)) k).run P w=.ok (.pointer (some (ad.add off))) w:=by intro ad;simp[Instr.fieldAt,Instr.sureAddr,aL j6,JX,fieldPlace,dB N5,hne,Tu]
    cases ha with
    |ptr o b bl hb=>simp only[bf,bB]at h;obtain⟨_,rfl,rfl⟩:=h;refine⟨_,hrun _,?_,rfl⟩;rw[nH];exact .ptr _ _ _ hb
    |mV d b ad val jt hc hd=>simp only[bf,bB]at h;obtain⟨_,rfl,rfl⟩:=h;refine⟨_,hrun _,?_,rfl⟩;rw[vD];exact .mV _ _ _ _ jt hc hd
    |kL o e j' b len cap sz ad hx=>simp only[bf,bB]at h;obtain⟨_,rfl,rfl⟩:=h;refine⟨_,hrun _,?_,rfl⟩;rw[vD,Nat.add_assoc];exact .kL _ _ _ _ _ _ _ _ hx
    |_=>simp at h
  .cases h
 .cases h
def Ly{t:TypeId}{x:TypeInfo}{d:TypeDesc}(hi:P.info? t=some x)(hu:P.underlying t=some d)(vs:Array Value)(off:Nat)(hl:off+x.size<=vs.size)(h1:dP d=false->x.size=1) :
  (part t vs off).run P w=.ok (if dP d then .agg ((vs.toList.drop off).take x.size).toArray else((vs.toList.drop off).take x.size).headD undef) w:=by
 simp only[part,Sem.run_bind,si hu,Result.andThen_ok];cases hd:dP d with
 |true=>
  simp only[fR,Sem.run_bind,dB hi,Result.andThen_ok,Sem.run_pure]
  congr 2
  apply Ea;simp
 |false=>
  have hs:=h1 hd;have hlt:off<vs.size:=by omega
  rw[hs];simp[oN hlt];have:(vs.toList.drop off).take 1=[vs[off]]:=by rw[Q1 (by simpa using hlt)];simp
  rw[this];rfl
def J3{ty:TypeId}(hi:nu P ty i)(h:E5 i s k a=some (p,t,s'))(hp:p)(ha:aJ g w a va) :
  ∃v,(Instr.field ty va k).run P w=.ok v w∧aJ g w t v∧s'=s:=by
 obtain⟨_,d1,_,_,j6,anO,aiq,_,_,ke⟩:=hi.all;unfold E5 at h;split at h
 .rename_i fs UE;rw[UE]at ke;obtain⟨fields,rfl,hsz,hf⟩:=ke;split at h
  .rename_i off size ag q cs hn hc;rw[jx]at hn;obtain⟨f,j,d',JX,Tu,N5,hf4,hf5,hf6⟩:=hf k off size ag hn;rcases af h with⟨hl,h⟩|⟨_,h⟩
   .have hl':=beq_iff'.1 (AI.1 hl).1;rw[bH]at hl';simp only[eA,bB]at h;obtain⟨t',ht,rfl,rfl,rfl⟩:=h;obtain⟨dc,hlen⟩:=oA hc hp ha;obtain⟨_,_,_,hva,_⟩:=lV hc hp ha;obtain⟨vs,rfl⟩:=hva (by rw[aiq];rfl);simp only[Value.cells]at dc;have OU:=(dc.drop off).take size;obtain⟨lC,h1⟩:=vY (g:=g) (w:=w) ht OU.1 OU.2;have hlv:((vs.toList.drop off).take size).length=size:=by rw[<-OU.1,hl']
    have hs0:size≠0:=by simp only[eE]at hl;intro e;subst e;exact absurd hl.2 (by decide)
    have hle:off+size<=vs.size:=by simp at hlv;omega
    refine⟨_,?_,lC,rfl⟩;have hr:=Ly (P:=P) (w:=w) N5 hf5 vs off (by rw[hf4];exact hle) (λhd=>by
     rw[<-hf6]at hd;obtain⟨v,hv⟩:=h1 hd;rw[hv]at hlv;rw[hf4];exact hlv.symm)
    rw[hf4,<-hf6]at hr;simp only[Instr.field,Sem.run_bind,aL j6,Result.andThen_ok,JX,asAgg,Sem.run_pure,Tu,hr]
   .cases h
  .cases h
 .cases h
end
end
section
section
variable {P:Program}{g:Gh}{w:World}
def BS{ty e:TypeId}{j:TypeInfo}(hu:P.underlying ty=some (.slice e))(hj:P.info? e=some j)(a:Addr)(len cap:Nat)(n:Int)(h:0<=n∧n<len) :
  (Instr.indexAt ty (.slice (some a) len cap) (.int .i64 n)).run P w=.ok (.pointer (some (a.add (n.toNat *j.size)))) w:=by
 simp[Instr.indexAt,asIntOf,aL hu,dB hj,h]
variable {s s':St}{t x ix:T}{v vx vi:Value}{p:Prop}{es:List D}{i:TI}
def Lo(hs:bg g s w)(h:rf s t=some (p,es))(hp:p)(ht:aJ g w t v)
  (hf:freeze s (p9 t)=some s') :
  ∃g',bg g' s' w∧Ext s.fl g w g' w∧s'.fl=s.fl∧s'.aH=s.aH∧dZ g'.bz w (.sl es) v:=by
 cases ht with
 |emp a=>
  simp only[rf,bf,bB]at h;simp only[p9,freeze,bf]at hf;subst hf;exact⟨g,hs,Ext.refl _ _ _,rfl,rfl,by
   rw[<-h.2];exact .sl [] a 0 0 (λ_ _=>undef) (by simp) (by simp) (by simp) (λh=>absurd rfl h) (λi j d c h=>by simp at h)⟩
 |jI n es' a hn hd=>simp only[rf,bf,bB]at h;simp only[p9,freeze,bf]at hf;subst hf;obtain⟨_,rfl⟩:=h;exact⟨g,hs,Ext.refl _ _ _,rfl,rfl,hd⟩
 |n9 j d c a hj hd=>simp only[rf,bf,bB]at h;simp only[p9,freeze,bf]at hf;subst hf;obtain⟨_,rfl⟩:=h;exact⟨g,hs,Ext.refl _ _ _,rfl,rfl,z6 hj hd⟩
 |sym d v hd=>simp only[rf,bf,bB]at h;simp only[p9,freeze,bf]at hf;subst hf;obtain⟨rfl,rfl⟩:=h;rw[D.v7 hp]at hd;exact⟨g,hs,Ext.refl _ _ _,rfl,rfl,hd⟩
 |sh o e len cap sz a hx=>
  simp only[p9]at hf;have key:∀fz sz'(es':List D)era,s.ob.get o=some (fD fz sz' es' era)->(bif Nat.beq e era then some (True,es')else none)=some (p,es)->
    s.ob.get o=some (fD fz sz' es e):=by
   intro fz sz' es' era ho h;rcases af h with⟨hb,h⟩|⟨_,h⟩
   .have hee:=beq_iff'.1 hb;simp only[bf,bB]at h;rw[ho,h.2,hee]
   .cases h
  have alN:∃fz sz',s.ob.get o=some (fD fz sz' es e):=by
   simp only[rf]at h;split at h
   .rename_i sz' es' era ho;exact⟨_,_,key false sz' es' era ho h⟩
   .rename_i sz' es' era ho;exact⟨_,_,key true sz' es' era ho h⟩
   .cases h
  obtain⟨fz,sz',ho⟩:=alN;obtain⟨g',hs',he,hfr⟩:=en [o] hs hf (λk hk=>by
   simp at hk;subst hk;exact⟨dy (hs.lt' hx) hs.aH,.inl ⟨e,_,hx,.inl ⟨fz,sz',es,ho⟩⟩⟩)
  have hd:=hs'.Ja (hfr.hit o (by simp) fz sz' es e ho) (he.arr _ _ _ hx);exact⟨g',hs',he,hfr.fl,hfr.aH,hd⟩
 |_=>simp[rf]at h
def we{I:Nat->Prop}(h:dZ I w (.sl es) v):∃a cap,v=.slice a es.length cap∧es.length<=cap∧(∀d∈es,es.length*d.qT<=281474976710656)∧(es≠[]->∃ad sz,a=some ad∧(∀d∈es,d.cells.length=sz)∧I ad.block∧
  ∃val:Nat->Nat->Value,(∀i j d c,es[i]?=some d->d.cells[j]?=some c->w.cell? (ad.add (i*sz+j))=some (val i j))∧
   (∀i j d c,es[i]?=some d->d.cells[j]?=some c->dZ I w c (val i j))):=by
 cases h with|sl _ a cap sz val hcap hsz hby ha hc=>refine⟨a,cap,rfl,hcap,hby,λhne=>?_⟩;obtain⟨ad,h1,h2,h3⟩:=ha hne;exact⟨ad,sz,h1,hsz,h2,val,h3,hc⟩
def AV{ty:TypeId}(hi:nu P ty i)(hs:bg g s w)(h:kG i s x ix=some (p,t,s'))(hp:p)
  (hx:aJ g w x vx) (KX:aJ g w ix vi):∃v,(Instr.indexAt ty vx vi).run P w=.ok v w∧aJ g w t v∧s'=s:=by
 obtain⟨_,d1,_,_,j6,_,_,_,_,ke⟩:=hi.all;unfold kG at h;split at h
 .rename_i sz ag bt zero q n dO hn;rw[dO]at ke;obtain⟨e,j,d',z,rfl,hj,pS,_,_,_,_,_,hpos,_⟩:=ke;have gen:∀{es:List D}{q':Prop},rf s x=some (q',es)->q'->D.GU n (D.len es)->(D.el es (D.nat n)).wide sz->(∀o e,x≠.sh o e)->q->∃v,(Instr.indexAt ty vx vi).run P w=.ok v w∧aJ g w (.mV (D.el es (D.nat n)) 0) v:=by
   intro es q' tF YZ hin hw WB hq;have hvi:=dJ hn hq KX;subst hvi;have hlt:n.toNat<es.length:=by have h1:=hin.1;have h2:=hin.2;unfold D.len at h2;omega
   have hne:es≠[]:=by intro e;rw[e]at hlt;simp at hlt
   have hd':dZ g.bz w (.sl es) vx:=by
    cases hx with
    |sym d v hd=>simp only[rf,bf,bB]at tF;obtain⟨rfl,rfl⟩:=tF;rw[<-D.v7 YZ];exact hd
    |jI m es' a hm hd=>simp only[rf,bf,bB]at tF;obtain⟨_,rfl⟩:=tF;exact hd
    |emp a=>simp only[rf,bf,bB]at tF;exact absurd tF.2.symm hne
    |n9 j d c a hj hd=>simp only[rf,bf,bB]at tF;obtain⟨_,rfl⟩:=tF;exact z6 hj hd
    |sh o e len cap sz a hx=>exact absurd rfl (WB o e)
    |_=>simp[rf]at tF
   obtain⟨a,cap,rfl,hcap,_,kA⟩:=we hd';obtain⟨ad,sz',rfl,hsz,jt,val,hc,hr⟩:=kA hne;have hel:=D.J8 hlt;have OR:sz'=sz:=by have h1:=hsz (D.el es n.toNat) (gW hel);exact h1.symm.trans hw
   subst OR;refine⟨_,BS j6 hj ad _ _ n ⟨hin.1,?_⟩,?_⟩
   .have:=hin.2;unfold D.len at this;exact this
   .rw[pS,<-add_zero' (ad.add (n.toNat *sz'))];refine .mV _ 0 (ad.add (n.toNat *sz')) (val n.toNat) (by rw[kZ];exact jt) (λk c hk=>?_) (λk c hk=>hr _ _ _ _ hel hk);rw[vD];exact hc _ _ _ _ hel hk
  split at h
  .rename_i o e';split at h
   .rename_i z' es eP;rcases af h with⟨hb,h3⟩|⟨_,h3⟩
    .have hzz:=beq_iff'.1 hb;simp only[bf,bB]at h3;obtain⟨rfl,rfl,rfl⟩:=h3;clear h hb;subst hzz;have hvi:=dJ hn hp.1 KX;subst hvi;cases hx with
     |sh _ _ len cap sz' a hxa=>
     obtain⟨fz,ho⟩:=IL eP;obtain⟨hok,hsz⟩:=hs.nG ho hxa;simp only at hsz;subst hsz;have h1:=hp.2.1;have h2:=hp.2.2;unfold D.len at h2;have hl:=hok.len;have hc:=hok.cap;simp only at hl hc;obtain⟨b,vs,UH,hab,_⟩:=hok.mem (by simp only;omega);simp only at hab;subst hab;refine⟨_,BS j6 hj _ _ _ n ⟨h1,by omega⟩,?_,rfl⟩;rw[pS];exact .kL o e' n.toNat 0 _ _ _ _ hxa
    .cases h3
   .cases h
  .rename_i x' WB;split at h
   .rename_i q' es tF;simp only[bf,bB]at h;obtain⟨rfl,rfl,rfl⟩:=h;obtain⟨v,h1,h2⟩:=gen tF hp.2.1 hp.2.2.1 hp.2.2.2 (λo e he=>WB o e he) hp.1;exact⟨v,h1,h2,rfl⟩
   .cases h
 .cases h
def get!_some{b:ByteArray}{k:Nat}(h:k<b.size):b[k]?=some (b.get! k):=by
 rw[getElem?_pos b k h]
 congr 1
 show b.data[k]=b.data[k]!;rw[getElem!_pos b.data k h]
def JQ{ty:TypeId}(hi:nu P ty i)(h:ER i s x ix=some (p,t,s'))(hp:p)
  (hx:aJ g w x vx) (KX:aJ g w ix vi):∃v,(Instr.index ty vx vi).run P w=.ok v w∧aJ g w t v∧s'=s:=by
 obtain⟨_,d1,_,_,j6,_,_,_,_,ke⟩:=hi.all;unfold ER at h;split at h
 .rename_i q n q' b dO hn hb;rw[dO]at ke;simp only[NN]at ke;subst ke;simp only[bf,bB]at h;obtain⟨rfl,rfl,rfl⟩:=h;rw[dJ hn hp.1 KX,gV hb hp.2.1 hx];have h1:=hp.2.2.1;have h2:=hp.2.2.2;unfold D.DL at h2;refine⟨_,?_,.sym _ _ (.lit _),rfl⟩;simp only[Instr.index,asIntOf,Sem.run_bind,Sem.run_pure,Result.andThen_ok,aL j6];rw[bL h1,get!_some (by omega)];rfl
 .cases h
def qV{zero:List D}{cells:Array Value}(h:ZOk zero cells):(zero.map oQ).length=cells.size∧
  ∀(j:Nat)(t:T)(v:Value),(zero.map oQ)[j]?=some t->cells[j]?=some v->aJ g w t v:=by
 refine⟨by simpa using h.1,λj t v h1 h2=>?_⟩;simp only[gQ,eA]at h1;obtain⟨d,hd,rfl⟩:=h1;rcases h.2 j d v hd h2 with⟨rfl,rfl⟩|rfl
 .exact .emp none
 .unfold oQ;split
  .rename_i heq;simp only[D.lit.injEq]at heq;subst heq;exact .kb _
  .rename_i heq;simp only[D.lit.injEq]at heq;subst heq;exact .kn _ _
  .rename_i heq;cases heq
  .exact .sym _ _ (.lit _)
def Ht{ty xt:TypeId}(hi:nu P ty i){ok:Bool}(h:qq i s ty ok x=some (p,t,s'))
  (hx:aJ g w x vx) :
  ∃v,(Instr.typeAssert vx xt ty ok).run P w=.ok v w∧aJ g w t v∧s'=s:=by
 obtain⟨xi,d1,z,xb,j6,_,pP,Uz,nE,ke⟩:=hi.all;obtain⟨hz1,hz2⟩:=hi.zag xi z xb Uz;have hni:i.kd≠.iface->∀ms,P.underlying ty≠some (.interface ms):=λhk ms he=>hk (hi.nif ms he);unfold qq at h;have hrun:i.kd≠.iface->∀u v,(Instr.typeAssert (.iface u v) xt ty ok).run P w=((if u=ty then pure (if ok then .tuple #[v,.bool true]else v)else
   if ok then do pure (.tuple #[<-zeroValue ty,.bool false])else runtimePanic (.typeAssertion (some xt) (some u) ty "")):Sem Value).run P w:=by
  intro hk u v;simp only[Instr.typeAssert,Sem.run_bind,aL j6,Result.andThen_ok];cases d1 with|interface ms=>exact absurd j6 (hni hk ms)|_=>rfl
 split at h
 .cases h
 .rename_i u v hk;have hk:i.kd≠.iface:=λe=>hk e;cases hx with
  |cR _ _ vv hv=>
  rcases af h with⟨hb,h⟩|⟨hb,h⟩
  .have hee:=beq_iff'.1 hb;simp only[bf,bB]at h;obtain⟨_,rfl,rfl⟩:=h;clear hb;subst hee;refine⟨_,by rw[hrun hk,bL rfl];rfl,.gq _ _ rfl (λj t v h1 h2=>?_),rfl⟩
   match j with
   |0=>simp at h1 h2;subst h1;subst h2;exact hv
   |1=>simp at h1 h2;subst h1;subst h2;exact .kb _
   |j+2=>simp at h1
  .have hne:u≠ty:=λe=>by rw[e]at hb;have:=HQ ty;rw[this]at hb;cases hb
   simp only[eA,bB]at h;obtain⟨tz,htz,_,rfl,rfl⟩:=h;obtain⟨hzl,MG⟩:=qV (g:=g) (w:=w) nE;have lC:aJ g w tz z:=by
    rcases El htz with⟨ha,rfl⟩|⟨ha,he⟩
    .obtain ⟨vs,rfl⟩:=hz1 ha;exact .agg _ _ hzl MG
    .have:=hz2 ha;rw[he,this]at MG;exact MG 0 _ _ rfl rfl
   refine⟨_,by rw[hrun hk,bw hne];simp only[fR,Sem.run_bind,ef xb Uz,Result.andThen_ok,Sem.run_pure];rfl,.gq _ _ rfl (λj t v h1 h2=>?_),rfl⟩
   match j with
   |0=>simp at h1 h2;subst h1;subst h2;exact lC
   |1=>simp at h1 h2;subst h1;subst h2;exact .kb _
   |j+2=>simp at h1
 .rename_i u v hk;have hk:i.kd≠.iface:=λe=>hk e;cases hx with
  |cR _ _ vv hv=>
  rcases af h with⟨hb,h⟩|⟨hb,h⟩
  .have hee:=beq_iff'.1 hb;simp only[bf,bB]at h;obtain⟨_,rfl,rfl⟩:=h;clear hb;subst hee;exact⟨_,by rw[hrun hk,bL rfl];rfl,hv,rfl⟩
  .cases h
 .cases h
end
end
section
section
variable {P:Program}{g:Gh}{w:World}
inductive PX(g:Gh)(w:World):Option T->Option Value->Prop where
 |no:PX g w none none
 |yes (t:T) (v:Value) (h:aJ g w t v):PX g w (some t) (some v)
variable {l:Option T}{p:Prop}{low:Option Value}{lo hi:Int}{s s':St}{x t:T}{vx:Value}
def jV{dflt n:Int}{v:Option Value}(h:vo dflt l=some (p,n))(hp:p)(hr:PX g w l v) :
  (v=none∧l=none∧n=dflt)∨(v=some (.int .i64 n)∧∃t,l=some t):=by
 cases hr with|no=>simp only[vo,bf,bB]at h;exact .inl ⟨rfl,rfl,h.2.symm⟩|yes t v hv=>exact .inr ⟨by rw[dJ h hp hv],t,rfl⟩
def run_sliceBound(n:Int)(y:Nat)(code:BoundsCode)(h:0<=n∧n<=y):(Instr.sliceBound (.int .i64 n) y code).run P w=.ok n.toNat w:=by simp[Instr.sliceBound,asIntOf,h]
def rm(isSlice:Bool)(len cap:Nat){high:Option Value}(hl:(low=none∧lo=0)∨low=some (.int .i64 lo))(hh:(high=none∧hi=len)∨high=some (.int .i64 hi))
  (h0:0<=lo) (h1:lo<=hi) (h2:hi<=cap):(Instr.sliceBounds isSlice len cap low high none).run P w=.ok (lo.toNat,hi.toNat,cap) w:=by
 have e:((hi.toNat:Nat):Int)=hi:=by omega
 rcases hl with⟨rfl,rfl⟩|rfl<;>rcases hh with⟨rfl,rfl⟩|rfl
 .simp[Instr.sliceBounds]
 .simp[Instr.sliceBounds,run_sliceBound hi cap _ ⟨by omega,h2⟩]
 .simp[Instr.sliceBounds,run_sliceBound lo len _ ⟨h0,h1⟩]
 .simp[Instr.sliceBounds,run_sliceBound hi cap _ ⟨by omega,h2⟩,run_sliceBound lo hi.toNat _ ⟨h0,by omega⟩]
def rj(isSlice:Bool)(len cap:Nat){mx:Int}(hl:(low=none∧lo=0)∨low=some (.int .i64 lo))
  (h0:0<=lo) (h1:lo<=hi) (h2:hi<=mx) (h3:mx<=cap):(Instr.sliceBounds isSlice len cap low (some (.int .i64 hi)) (some (.int .i64 mx))).run P w=.ok (lo.toNat,hi.toNat,mx.toNat) w:=by
 have e:((hi.toNat:Nat):Int)=hi:=by omega
 have e2:((mx.toNat:Nat):Int)=mx:=by omega
 rcases hl with⟨rfl,rfl⟩|rfl
 .simp[Instr.sliceBounds,run_sliceBound mx cap _ ⟨by omega,h3⟩,run_sliceBound hi mx.toNat _ ⟨by omega,by omega⟩]
 .simp[Instr.sliceBounds,run_sliceBound mx cap _ ⟨by omega,h3⟩,run_sliceBound hi mx.toNat _ ⟨by omega,by omega⟩,run_sliceBound lo hi.toNat _ ⟨h0,by omega⟩]
def Nb{I:Nat->Prop}{es:List D}{a:Option Addr}{len cap sz:Nat}(h:dZ I w (.sl es) (.slice a len cap))(hsz:D.rows es sz)(hc:D.cut lo hi (D.len es))
  (m:Nat) (hm:hi.toNat<=m) (_hm2:m<=cap) :
  (D.sub es lo hi).length=hi.toNat-lo.toNat∧dZ I w (.sl (D.sub es lo hi)) (.slice (if m=lo.toNat then a else a.map (·.add (lo.toNat *sz))) (hi.toNat-lo.toNat) (m-lo.toNat)):=by
 obtain⟨a',cap',he,hcap,hby,kA⟩:=we h;simp only[Value.slice.injEq]at he;obtain⟨rfl,rfl,rfl⟩:=he;obtain⟨h0,h1,h2⟩:=hc;unfold D.len at h2;have hlen:(D.sub es lo hi).length=hi.toNat-lo.toNat:=by simp[D.sub];omega
 refine⟨hlen,?_⟩;have cJ:∀i d,(D.sub es lo hi)[i]?=some d->es[lo.toNat+i]?=some d:=by
  intro i d hd;simp only[D.sub,DZ,xO]at hd;split at hd
  .exact hd
  .cases hd
 have hmem:∀d∈D.sub es lo hi,d∈es:=λd hd=>List.mem_of_mem_take (List.mem_of_mem_drop hd);rw[<-hlen];by_cases hne:es=[]
 .subst hne;have:D.sub [] lo hi=[]:=by simp[D.sub]
  rw[this];exact .sl [] _ _ sz (λ_ _=>undef) (by simp) (by simp) (by simp) (λh=>absurd rfl h) (λi j d c h=>by simp at h)
 .obtain ⟨ad,sz',rfl,OR,jt,val,hcell,hr⟩:=kA hne;have hs0:sz'=sz:=by obtain⟨d,ds,rfl⟩:=Q3 hne;rw[<-OR d (by simp),hsz d (by simp)]
  subst hs0;refine .sl _ _ _ sz' (λi j=>val (lo.toNat+i) j) (by omega) (λd hd=>hsz d (hmem d hd)) (λd hd=>fS (wB _ (by omega)) (hby d (hmem d hd))) (λhsub=>?_) (λi j d c hd hj=>hr _ _ _ _ (cJ i d hd) hj);have hlt:0<(D.sub es lo hi).length:=LI.2 hsub;refine⟨ad.add (lo.toNat *sz'),by rw[bw (by omega)];rfl,by rw[kZ];exact jt,λi j d c hd hj=>?_⟩;rw[vD,show lo.toNat *sz'+(i*sz'+j)=(lo.toNat+i)*sz'+j by rw[CG];omega];exact hcell _ _ _ _ (cJ i d hd) hj
def I8{ty:TypeId}{i:TI}(hi:nu P ty i)(hs:bg g s w){h m:Option T}{vl vh vm:Option Value}
  (he:oG i s x l h m=some (p,t,s')) (hp:p) (hx:aJ g w x vx) (hl:PX g w l vl) (hh:PX g w h vh) (hm:PX g w m vm) :
  ∃g' v,(Instr.sliceAt ty vx vl vh vm).run P w=.ok v w∧bg g' s' w∧Ext s.fl g w g' w∧aJ g' w t v∧s'.fl=s.fl∧s'.aH=s.aH:=by
 obtain⟨_,d1,_,_,j6,_,_,_,_,ke⟩:=hi.all;unfold oG at he;split at he
 .rename_i p0 lo dO hlo;rw[dO]at ke;simp only[NN]at ke;subst ke;split at he
  .rename_i q b hb;split at he
   .rename_i r hi2 hhi;simp only[bf,bB]at he;obtain⟨rfl,rfl,rfl⟩:=he;obtain⟨c0,c1,c2⟩:=hp.2.2.2;unfold D.DL at c2 hhi;rw[gV hb hp.2.1 hx];cases hm;refine⟨g,_,?_,hs,Ext.refl _ _ _,.sym _ _ (.lit _),rfl,rfl⟩;have hl':=jV hlo hp.1 hl;have hh':=jV hhi hp.2.2.1 hh;have fM:=rm (P:=P) (w:=w) false b.size b.size (hl'.imp (λh=>⟨h.1,h.2.2⟩) (·.1)) (hh'.imp (λh=>⟨h.1,h.2.2⟩) (·.1)) c0 c1 c2;simp[Instr.sliceAt,Instr.slice,aL j6,fM,D.Zp]
   .cases he
  .cases he
 .rename_i sz ag bt zero p0 lo dO hlo;rw[dO]at ke;obtain⟨e,j,d',z,rfl,hj,pS,_,_,_,_,_,hpos,_⟩:=ke;split at he
  .rename_i q es s1 tF hfr;have hl':=λOW=>jV hlo OW hl;split at he
   .rename_i r hi2 hhi;simp only[bf,bB]at he;obtain⟨rfl,rfl,rfl⟩:=he;cases hm;obtain⟨OW,hq,hr,gG,Hf⟩:=hp;obtain⟨g',hs',wH,hfl,ye,hd⟩:=Lo hs tF hq hx hfr;obtain⟨a,cap,rfl,hcap,_⟩:=we hd;obtain⟨c0,c1,c2⟩:=Hf;unfold D.len at c2;have hh':=jV hhi hr hh;obtain⟨_,hsub⟩:=Nb hd gG ⟨c0,c1,c2⟩ cap (by omega) (bT _);refine⟨g',_,?_,hs',wH,.sym _ _ hsub,hfl,ye⟩;have fM:=rm (P:=P) (w:=w) true es.length cap ((hl' OW).imp (λh=>⟨h.1,h.2.2⟩) (·.1)) (hh'.imp (λh=>⟨h.1,h.2.2⟩) (·.1)) c0 c1 (by omega:hi2<=cap);simp only[Instr.sliceAt,Instr.slice,Sem.run_bind,aL j6,Result.andThen_ok,dB hj,pS,fM];rfl
   .rename_i r hi2 y th hhi;cases hm with
    |yes _ vy hy=>
    split at he
    .simp only[bf,bB]at he;obtain⟨rfl,rfl,rfl⟩:=he;obtain⟨OW,hq,hr,e1,e2⟩:=hp;obtain⟨a,cap,rfl,hcap⟩:=QL hs tF hq hx;have hh':=jV hhi hr hh;cases hy;rcases hh' with⟨_,h',_⟩|⟨hv,_⟩
     .cases h'
     .subst hv;have z0:lo=0:=e1;have z1:hi2=0:=e2;refine⟨g,_,?_,hs,Ext.refl _ _ _,.emp a,rfl,rfl⟩;have fM:=rj (P:=P) (w:=w) true es.length cap ((hl' OW).imp (λh=>⟨h.1,h.2.2⟩) (·.1)) (by omega) (by omega:lo<=hi2) (by omega:hi2<=0) (by omega);simp only[Instr.sliceAt,Instr.slice,Sem.run_bind,aL j6,Result.andThen_ok,dB hj,pS,fM];subst z0;subst z1;rfl
    .simp only[eA,bB]at he;obtain⟨⟨t',mx⟩,hmx,rfl,rfl,rfl⟩:=he;obtain⟨OW,hq,hr,ht,gG,Hf,rfl⟩:=hp;obtain⟨g',hs',wH,hfl,ye,hd⟩:=Lo hs tF hq hx hfr;obtain⟨a,cap,rfl,hcap,_⟩:=we hd;obtain⟨c0,c1,c2⟩:=Hf;unfold D.len at c2;have hh':=jV hhi hr hh;obtain⟨hlen,hsub⟩:=Nb hd gG ⟨c0,c1,c2⟩ mx.toNat (bT _) (by omega);rw[dJ hmx ht hy];rcases hh' with⟨_,h',_⟩|⟨hv,_⟩
     .cases h'
     .subst hv;rw[<-hlen]at hsub;refine⟨g',.slice (if mx.toNat=lo.toNat then a else a.map (·.add (lo.toNat *sz))) (D.sub es lo mx).length (D.sub es lo mx).length,?_,hs',wH,.jI 0 _ _ (wZ _) hsub,hfl,ye⟩;have fM:=rj (P:=P) (w:=w) true es.length cap ((hl' OW).imp (λh=>⟨h.1,h.2.2⟩) (·.1)) c0 c1 (Int.le_refl _) (by omega:mx<=cap);simp only[Instr.sliceAt,Instr.slice,Sem.run_bind,aL j6,Result.andThen_ok,dB hj,pS,fM,hlen];rfl
   .cases he
  .cases he
 .cases he
def Ie{E:Env}(hs:bg g s w){argTypes:Array TypeId}{rt:TypeId}(hE:∀k i,E.ti k=some i->nu P k i)
  (h:eY E s .len argTypes [x]=some (p,t,s')) (hp:p) (hx:aJ g w x vx) :
  ∃v,(Builtin.len_ argTypes rt #[vx]).run P w=.ok v w∧aJ g w t v∧s'=s:=by
 unfold eY at h;simp only[]at h;have aio:∀i,(nth argTypes.toList 0).bind E.ti=some i->∃ty,argTypes[0]?=some ty∧nu P ty i:=by intro i hi;rw[jx]at hi;simp only[sq]at hi;obtain⟨ty,h1,h2⟩:=hi;exact⟨ty,by simpa using h1,hE _ _ h2⟩
 have U1:∀i q es,(nth argTypes.toList 0).bind E.ti=some i->(∃a b c d,i.kd=.slice a b c d)->rf s x=some (q,es)->q->
   ∃v,(Builtin.len_ argTypes rt #[vx]).run P w=.ok v w∧aJ g w (.sym (.lit (.int .i64 (D.len es)))) v:=by
  intro i q es hi hk tF hq;obtain⟨ty,h1,h2⟩:=aio i hi;obtain⟨_,d1,_,_,j6,_,_,_,_,ke⟩:=h2.all;obtain⟨a,b,c,d,hk⟩:=hk;rw[hk]at ke;obtain⟨e,j,d',z,rfl,_⟩:=ke;obtain⟨a,cap,rfl,_⟩:=QL hs tF hq hx;refine⟨_,?_,.sym _ _ (.lit _)⟩;simp[Builtin.len_,h1,aL j6,goInt,D.len]
 split at h
 .rename_i q b i hb hi;split at h
  .rename_i hk;simp only[bf,bB]at h;obtain⟨rfl,rfl,rfl⟩:=h;obtain⟨ty,h1,h2⟩:=aio i hi;obtain⟨_,d1,_,_,j6,_,_,_,_,ke⟩:=h2.all;rw[hk]at ke;simp only[NN]at ke;subst ke;rw[gV hb hp hx];refine⟨_,?_,.sym _ _ (.lit _),rfl⟩;simp[Builtin.len_,h1,aL j6,goInt,D.DL]
  .rename_i a b c d hk;simp only[eA,bB]at h;obtain⟨⟨q',es⟩,tF,rfl,rfl,rfl⟩:=h;obtain⟨v,h1,h2⟩:=U1 i q' es hi ⟨_,_,_,_,hk⟩ tF hp;exact⟨v,h1,h2,rfl⟩
  .cases h
 .rename_i i _ hi;split at h
  .rename_i a b c d hk;simp only[eA,bB]at h;obtain⟨⟨q',es⟩,tF,rfl,rfl,rfl⟩:=h;obtain⟨v,h1,h2⟩:=U1 i q' es hi ⟨_,_,_,_,hk⟩ tF hp;exact⟨v,h1,h2,rfl⟩
  .cases h
 .cases h
end
end
section
section
variable {P:Program}{g:Gh}{w:World}
variable {v:Value}{t:T}{fr:Fr}{a:Act}
def Es{d:D}(h:Cd v=some d):d=.lit v:=by
 unfold Cd at h;split at h;all_goals try(simp only[bf]at h;exact h.symm)
 .split at h
  .rename_i ha;simp only[bf]at h;rw[Vy.1 ha];exact h.symm
  .cases h
 .cases h
def GP(h:ofConst v=some t):aJ g w t v:=by
 unfold ofConst at h;split at h
 .simp only[bf]at h;subst h;exact .kb _
 .simp only[bf]at h;subst h;exact .kn _ _
 .simp only[bf]at h;subst h;exact .emp _
 .split at h
  .rename_i ha hb;simp only[bf]at h;subst h;rw[Vy.1 ha,Vy.1 hb];exact .fn _ _ _ _ _ rfl rfl (λj t v h=>by simp at h) (λj t v h=>by simp at h)
  .cases h
 .simp only[eA]at h;obtain⟨d,hd,rfl⟩:=h;rw[Es hd];exact .sym _ _ (.cR _ _ _ (.lit _))
 .simp only[eA]at h;obtain⟨d,hd,rfl⟩:=h;rw[Es hd];exact .sym _ _ (.lit _)
def bJ(hf:cE g fr a w){x:Operand}(h:jw fr x=some t):aJ g w t (a.eval x):=by
 cases x with
 |tmp k=>
  obtain⟨v,hv,ht⟩:=hf.tm k t h;have:a.eval (.tmp k)=v:=by simp[Act.eval,Vh,hv]
  rw[this];exact ht
 |const v=>exact GP h
 |global _=>cases h
 |func f=>simp only[jw,bf]at h;subst h;exact .fn _ _ _ _ _ rfl rfl (λj t v h=>by simp at h) (λj t v h=>by simp at h)
def fh{fr:Fr}{a:Act}(hf:cE g fr a w):∀{l:List Operand}{ts:List T},w6 fr l=some ts->PW (aJ g w) ts (l.map a.eval)
 |[],ts,h=>by simp only[w6,bf]at h;subst h;exact⟨rfl,λj t v h=>by simp at h⟩
 |x::l,ts,h=>by
  simp only[w6]at h;split at h
  .rename_i t r h1 h2;simp only[bf]at h;subst h;have ih:=fh hf h2;refine⟨by simp[ih.1],λj t' v ht hv=>?_⟩;cases j with|zero=>simp at ht hv;subst ht;subst hv;exact bJ hf h1|succ j=>exact ih.2 j t' v (by simpa using ht) (by simpa using hv)
  .cases h
def oe(g:Gh)(w:World)(a:Nat×T)(b:Nat×Value):Prop:=a.1=b.1∧aJ g w a.2 b.2
def nV{fr:Fr}{a:Act}(hf:cE g fr a w):∀{l:List (Nat×Operand)}{ts:List (Nat×T)},qD fr l=some ts->PW (oe g w) ts (l.map λ(i,x)=>(i,a.eval x))
 |[],ts,h=>by simp only[qD,bf]at h;subst h;exact⟨rfl,λj t v h=>by simp at h⟩
 |(k,x)::l,ts,h=>by
  simp only[qD]at h;split at h
  .rename_i t r h1 h2;simp only[bf]at h;subst h;have ih:=nV hf h2;refine⟨by simpa using ih.1,λj t' v ht hv=>?_⟩;cases j with|zero=>simp at ht hv;subst ht;subst hv;exact⟨rfl,bJ hf h1⟩|succ j=>exact ih.2 j t' v (by simpa using ht) (by simpa using hv)
  .cases h
def xS(hf:cE g fr a w){x:Option Operand}{t:Option T}(h:Mq fr x=some t):PX g w t (x.map a.eval):=by cases x with|none=>simp only[Mq,bf]at h;subst h;exact .no|some x=>simp only[Mq,eA]at h;obtain⟨u,hu,rfl⟩:=h;exact .yes _ _ (bJ hf hu)
def A3(off:Nat):∀(l:List Value)(i0:Nat)(cells:Array Value),off+i0+l.length<=cells.size->
  (l.zipIdx i0).foldl (λcs x=>cs.setIfInBounds (off+x.2) x.1) cells=(cells.toList.take (off+i0)++l++cells.toList.drop (off+i0+l.length)).toArray
 |[],i0,cells,h=>by simp
 |c::l,i0,cells,h=>by
  simp only[fI]at h;simp only[List.zipIdx_cons,LD];rw[A3 off l (i0+1) _ (by simp;omega)]
  congr 1
  simp only[Array.toList_setIfInBounds,fI];have e1:off+(i0+1)=off+i0+1:=by omega
  have e2:off+i0+1+l.length=off+i0+(l.length+1):=by omega
  rw[e1,e2];have h1:(cells.toList.set (off+i0) c).take (off+i0+1)=cells.toList.take (off+i0)++[c]:=by rw[List.take_add_one,List.take_set,GM,bL rfl,bL (by simp;omega)];rw[List.set_eq_of_length_le (by simp;omega)];rfl
  have h2:(cells.toList.set (off+i0) c).drop (off+i0+(l.length+1))=cells.toList.drop (off+i0+(l.length+1)):=by rw[List.drop_set,bL (by omega)]
  rw[h1,h2];simp
def uW{place:Nat->Option (Nat×TI)}{pl:Nat->Option (Nat×Nat)}(Ww:∀k off i,place k=some (off,i)->pl k=some (off,i.size)) :
  ∀(ps:List (Nat×T))(vs:List (Nat×Value)){cells:List T}{cs:Array Value}{p:Prop}{r:List T},Cl place cells ps=some (p,r)->p->PW (oe g w) ps vs->PW (aJ g w) cells cs.toList->
   ∃rs,Instr.fill pl cs vs=some rs∧PW (aJ g w) r rs.toList
 |[],[],cells,cs,p,r,h,hp,_,hc=>by simp only[Cl,bf,bB]at h;obtain⟨_,rfl⟩:=h;exact⟨cs,rfl,hc⟩
 |(k,t)::ps,(k',v)::vs,cells,cs,p,r,h,hp,dc,hc=>by
  have hkv:=dc.2 0 _ _ rfl rfl;obtain⟨rfl,hv⟩:=hkv;simp only at hv;have kA:PW (oe g w) ps vs:=⟨by simpa using dc.1,λj a b ha hb=>dc.2 (j+1) a b (by simpa using ha) (by simpa using hb)⟩;simp only[Cl]at h;split at h
  .cases h
  .rename_i off i qS;split at h
   .cases h
   .rename_i q l hl;rcases af h with⟨hb,h⟩|⟨_,h⟩
    .simp only[eA,bB]at h;obtain⟨⟨p',r'⟩,hr,rfl,rfl⟩:=h;have hle:=fQ hb;rw[bH,bH]at hle;obtain⟨hlp,hls⟩:=oA hl hp.1 hv;have hvl:v.cells.size=l.length:=by simpa using hlp.1.symm
     have hcl:cells.length=cs.size:=by simpa using hc.1
     have ah7:off+v.cells.toList.length<=cs.size:=by simp only[SI];have:off+l.length<=cells.length:=hle;omega
     have EW:=A3 off v.cells.toList 0 cs (by simpa using ah7);simp only[Ec]at EW;obtain⟨rs,h1,h2⟩:=uW Ww ps vs (cs:=(cs.toList.take off++v.cells.toList++cs.toList.drop (off+v.cells.toList.length)).toArray) hr hp.2.2 kA (by
      rw[bH];simp only[SI,hvl];exact((hc.take off).append hlp).append (hc.drop _))
     refine⟨rs,?_,h2⟩;have hno:¬(v.cells.size≠i.size||off+v.cells.size>cs.size)=true:=by simp only[SI]at ah7;simp[hvl,hls];omega
     simp only[Instr.fill,Ww _ _ _ qS];rw[bw hno,<-h1,<-EW]
     congr 1
     rw[<-Array.foldl_toList,Array.toList_zipIdx]
    .cases h
 |[],_::_,_,_,_,_,_,_,dc,_=>by simp[PW]at dc
 |_::_,[],_,_,_,_,_,_,dc,_=>by simp[PW]at dc
def wX{α β:Type}(f:α->Sem β)(r:α->β):∀(l:List α),(∀x∈l,(f x).run P w=.ok (r x) w)->(l.mapM f).run P w=.ok (l.map r) w
 |[],_=>rfl
 |x::l,h=>by have h1:=h x (by simp);have h2:=wX f r l (λy hy=>h y (by simp[hy]));simp[List.mapM_cons,h1,h2]
def Nu{ty:TypeId}{i:TI}(hi:nu P ty i){fs:List (Nat×Nat×Bool)}(hk:i.kd=.struct fs){ps:List (Nat×T)}{vs:Array (Nat×Value)}(dc:PW (oe g w) ps vs.toList)
  {p:Prop} {cs:List T} (h:Cl (λk=>match nth fs k with|some (off,size,ag)=>some (off,{(default:TI)with size:=size,agg:=ag})|none=>none) (i.zero.map oQ) ps=some (p,cs)) (hp:p) :
  ∃v,(Instr.build ty vs).run P w=.ok v w∧aJ g w (.agg cs) v:=by
 obtain⟨xi,d1,z,xb,j6,_,pP,Uz,nE,ke⟩:=hi.all;rw[hk]at ke;obtain⟨fields,rfl,hsz,hf⟩:=ke;have MG:=qV (g:=g) (w:=w) nE;have hex:∀f:Field,∃n:Nat,f∈fields.toList->(Go.sizeOf f.type).run P w=.ok n w:=by
  intro f;by_cases hm:f∈fields.toList
  .obtain ⟨k,hk,rfl⟩:=uw hm;have hk':k<fs.length:=by rw[<-hsz];simpa using hk
   obtain⟨f',j,d',h1,h2,h3,h4,_⟩:=hf k (fs[k]).1 (fs[k]).2.1 (fs[k]).2.2 (gm hk');have:f'=fields.toList[k]:=by
    have zL:fields.toList[k]?=some f':=by simpa using h1
    rw[gm hk]at zL;exact(eI zL).symm
   subst this;exact⟨j.size,λ_=>dB h3 w⟩
  .exact ⟨0,λh=>absurd h hm⟩
 obtain⟨sz,ahF⟩:=SL hex;have hmap:=wX (P:=P) (w:=w) (λf:Field=>Functor.map (Prod.mk f.offset) <| Go.sizeOf f.type) (λf=>(f.offset,sz f)) fields.toList (λf hf=>by simp[ahF f hf]);obtain⟨rs,h1,h2⟩:=uW (g:=g) (w:=w) (pl:=λk=>((fields.toList.map λf=>(f.offset,sz f)).toArray)[k]?) (λk off ti qS=>by
  simp only[jx]at qS;split at qS
  .rename_i off' size ag hfk;simp only[bf,bB]at qS;obtain⟨rfl,rfl⟩:=qS;obtain⟨f',j,d',h1,h2,h3,h4,_⟩:=hf k off' size ag hfk;have hmem:f'∈fields.toList:=by
    have zL:fields.toList[k]?=some f':=by simpa using h1
    exact gW zL
   have hs:=ahF f' hmem;rw[dB h3]at hs;simp only[Result.ok.injEq,and_true]at hs;simp[h1,h2,<-hs,h4]
  .cases qS) ps vs.toList h hp dc ⟨by simpa using MG.1,λj t v h1 h2=>MG.2 j t v h1 (by simpa using h2)⟩
 refine⟨.agg rs,?_,.agg _ _ (by simpa using h2.1) (λj t v h3 h4=>h2.2 j t v h3 (by simpa using h4))⟩;simp only[Instr.build,Sem.run_bind,ef xb Uz,aL j6,Result.andThen_ok,Array.mapM_eq_mapM_toList];simp at h1;simp[hmap,h1]
end
end
section
section
variable {P:Program}{g:Gh}{w:World}
variable {s:St}{w':World}{I:Nat->Prop}{ag:Bool}{sz len:Nat}{d:D}{v:Value}{i:TI}{es zero:List D}{cells:Array Value}
def bg.VQ(hs:bg g s w)(o:Obj)(hh:w'.heap=w.heap.push o)(hos:w'.os=w.os)(hout:w'.output=w.output) :
  bg (g.kf (·=w.heap.size)) s w'∧Ext s.fl g w (g.kf (·=w.heap.size)) w':=by
 have hold:∀b,b<w.heap.size->w'.heap[b]?=w.heap[b]?:=λb hb=>by rw[hh,QW,bw (by omega)]
 have hsize:w'.heap.size=w.heap.size+1:=by rw[hh];simp
 have hown:∀k b,bK (g.kf (·=w.heap.size)) k b->bK g k b:=λk b h=>⟨λhi=>h.1 (.inl hi),h.2⟩;have he:Ext s.fl g w (g.kf (·=w.heap.size)) w':=
  ⟨λ_ _ h=>h,λ_ _ _ h=>h,λ_ h=>.inl h,by omega,λb hb _=>hold b hb,λk b h=>.inl (hown k b h),λb h=>h.imp id λh=>.inl (by simp only at h;omega),hos,hout⟩
 refine⟨⟨hs.aH,hs.ak,λk c hc=>?_,λk j y hy=>?_,λb hb=>?_,λk k' b h h'=>hs.mj k k' b (hown k b h) (hown k' b h')⟩,he⟩
 .have gS:=hs.box k c hc;refine gS.ext he hs.bz (hold c gS.2.1) rfl ?_
  rintro(h|h)
  .exact gS.1 h
  .have:=gS.2.1;omega
 .have hok:=hs.arr k j y hy;have Ir:∀ad,y.a=some ad->y.cap≠0->ad.block<w.heap.size:=hok.1;refine hok.ext he hs.bz (λb hb hc=>⟨hold b (Ir _ hb hc),⟨λh=>h.elim id λh=>?_,.inl⟩⟩) rfl rfl;have:=Ir _ hb hc;simp only at h this;omega
 .rcases hb with hb|hb
  .have:=hs.bz b hb;omega
  .omega
structure tj(I:Nat->Prop)(w:World)(sz:Nat)(es:List D)(cells:Array Value):Prop where
 size:cells.size=es.length*sz
 rows:∀d∈es,d.cells.length=sz
 rel:∀i j d c,es[i]?=some d->d.cells[j]?=some c->∃v,cells[i*sz+j]?=some v∧dZ I w c v
def Pm(h:(bif ag then d.isAgg sz else d.leaf)=true)(h1:(ag||Nat.beq sz 1)=true)(hd:dZ I w d v) :
  d.cells.length=sz∧v.cells.size=sz∧∀(j:Nat)(c:D)(u:Value),d.cells[j]?=some c->v.cells[j]?=some u->dZ I w c u:=by
 cases ag with
 |true=>
  simp at h;obtain⟨cs,rfl,hl,_⟩:=xZ h;cases hd with|agg _ vs hl2 _ hr=>exact⟨hl,by simp[Value.cells,<-hl2,hl],λj c u h2 h3=>hr j c u h2 h3⟩
 |false=>
  simp at h h1;subst h1;obtain⟨_,hc⟩:=uH h hd;have hdc:d.cells=[d]:=by cases d<;>first|rfl|(simp[D.leaf]at h)
  refine⟨by rw[hdc];rfl,by rw[hc];rfl,λj c u h2 h3=>?_⟩;rw[hdc]at h2;rw[hc]at h3;cases j with|zero=>simp at h2 h3;subst h2;subst h3;exact hd|succ j=>simp at h2
def Ct{s:St}(hs:bg g s w){i:TI}:∀(ps:List (Nat×T))(vs:List (Nat×Value)){es r:List D}{p:Prop}{os:List Nat},nF s i es ps=some (p,r,os)->p->PW (oe g w) ps vs->
  ∀o∈os,Live g s o
 |[],_,es,r,p,os,h,hp,_=>by simp only[nF,bf,bB]at h;obtain⟨_,rfl,rfl⟩:=h;intro o ho;cases ho
 |(k,t)::ps,(k',v)::vs,es,r,p,os,h,hp,dc=>by
  obtain⟨rfl,hv⟩:=dc.2 0 _ _ rfl rfl;simp only at hv;have kA:PW (oe g w) ps vs:=⟨by simpa using dc.1,λj a b ha hb=>dc.2 (j+1) a b (by simpa using ha) (by simpa using hb)⟩;simp only[nF]at h;split at h
  .cases h
  .rename_i q d Q6 hd;rcases af h with⟨hb,h⟩|⟨_,h⟩
   .simp only[eA,bB]at h;obtain⟨⟨p',r',SV⟩,GX,rfl,rfl,rfl⟩:=h;obtain⟨a1,_⟩:=kQ hs t hd hp.1 hv;have a2:=Ct hs ps vs GX hp.2.2 kA;intro o ho;rcases eg.1 ho with ho|ho
    .exact a1 o ho
    .exact a2 o ho
   .cases h
 |_::_,[],_,_,_,_,_,_,dc=>by simp[PW]at dc
def zY{s:St}(hs:bg g s w){sz:Nat}{ag:Bool}(h1:(ag||Nat.beq sz 1)=true){g':Gh}{s':St}(hs':bg g' s' w)(he:Ext s.fl g w g' w) :
  ∀(ps:List (Nat×T))(vs:List (Nat×Value)){es r:List D}{cells:Array Value}{p:Prop}{os:List Nat},nF s {(default:TI)with size:=sz,agg:=ag} es ps=some (p,r,os)->p->PW (oe g w) ps vs->
   jM s s' os->tj g'.bz w sz es cells->(∀o∈os,Live g s o)∧∃rs,Instr.fill (λi=>some (i*sz,sz)) cells vs=some rs∧tj g'.bz w sz r rs∧r.length=es.length
 |[],[],es,r,cells,p,os,h,hp,_,_,hr=>by simp only[nF,bf,bB]at h;obtain⟨_,rfl,rfl⟩:=h;exact⟨λo ho=>(by cases ho),cells,rfl,hr,rfl⟩
 |(k,t)::ps,(k',v)::vs,es,r,cells,p,os,h,hp,dc,hfr,hr=>by
  obtain⟨rfl,hv⟩:=dc.2 0 _ _ rfl rfl;simp only at hv;have kA:PW (oe g w) ps vs:=⟨by simpa using dc.1,λj a b ha hb=>dc.2 (j+1) a b (by simpa using ha) (by simpa using hb)⟩;simp only[nF]at h;split at h
  .cases h
  .rename_i q d Q6 hd;rcases af h with⟨hb,h⟩|⟨_,h⟩
   .simp only[eA,bB]at h;obtain⟨⟨p',r',SV⟩,GX,rfl,rfl,rfl⟩:=h;have hlt:k<es.length:=by rw[bH]at hb;exact fQ hb
    obtain⟨a1,a2⟩:=kQ hs t hd hp.1 hv;have z1:jM s s' Q6:=hfr.sub (λo ho=>eJ _ ho);have z2:jM s s' SV:=hfr.sub (λo ho=>iW _ ho);have Tv:=a2 g' s' hs' he z1;obtain⟨c1,c2,c3⟩:=Pm hp.2.1 h1 Tv;have hbound:k*sz+sz<=cells.size:=by rw[hr.size];have:(k+1)*sz<=es.length*sz:=wB _ hlt;rw[CG,DX]at this;exact this
    have EW:=A3 (k*sz) v.cells.toList 0 cells (by simpa[c2]using hbound);simp only[Ec,SI,c2]at EW;have hnew:tj g'.bz w sz (es.set k d) (cells.toList.take (k*sz)++v.cells.toList++cells.toList.drop (k*sz+sz)).toArray:=by
     refine⟨?_,λx hx=>?_,λi j x c hx hj=>?_⟩
     .simp only[LY,jg,LG,SI,LF,c2,AH,<-hr.size];omega
     .rcases Vg hx with hx|rfl
      .exact hr.rows x hx
      .exact c1
     .rw[GM]at hx;by_cases hki:k=i
      .subst hki;rw[bL rfl,bL hlt]at hx;simp only[bf]at hx;subst hx;have pS:j<sz:=by rw[<-c1];exact aD hj
       refine⟨v.cells[j],?_,c3 j c _ hj (oN (by omega))⟩;rw[On,lI,bL (by simp;omega),lI,bw (by simp;omega)];have:k*sz+j-(List.take (k*sz) cells.toList).length=j:=by simp;omega
       rw[this];simp[c2,pS]
      .rw[bw hki]at hx;obtain⟨u,hu,hd⟩:=hr.rel i j x c hx hj;have pS:j<sz:=by rw[<-hr.rows x (gW hx)];exact aD hj
       refine⟨u,?_,hd⟩;have ad1:i*sz+j<cells.size:=(Ju.1 hu).1;rw[On,lI,lI];rcases Nat.lt_or_gt_of_ne (λe=>hki e.symm:i≠k)with hik|hik
       .have:(i+1)*sz<=k*sz:=wB _ hik;rw[CG,DX]at this;rw[bL (by simp;omega),bL (by simp;omega),xO,bL (by omega)];simpa using hu
       .have:(k+1)*sz<=i*sz:=wB _ hik;rw[CG,DX]at this;rw[bw (by simp[c2];omega),DZ];have:k*sz+sz+(i*sz+j-(List.take (k*sz) cells.toList++v.cells.toList).length)=i*sz+j:=by simp[c2];omega
        rw[this];simpa using hu
    obtain⟨b1,rs,b2,b3,b4⟩:=zY hs h1 hs' he ps vs GX hp.2.2 kA z2 hnew;refine⟨λo ho=>?_,rs,?_,b3,by rw[b4];simp⟩
    .rcases eg.1 ho with ho|ho
     .exact a1 o ho
     .exact b1 o ho
    .have hno:¬(v.cells.size≠sz||k*sz+v.cells.size>cells.size)=true:=by simp[c2];omega
     simp only[Instr.fill];rw[bw hno,<-b2,<-EW]
     congr 1
     rw[<-Array.foldl_toList,Array.toList_zipIdx]
   .cases h
 |[],_::_,_,_,_,_,_,_,_,dc,_,_=>by simp[PW]at dc
 |_::_,[],_,_,_,_,_,_,_,dc,_,_=>by simp[PW]at dc
def aiN(d:D):d.qT<=24*d.cells.length:=by
 have hl:∀x:D,x.lby<=24:=by intro x;unfold D.lby;split<;>omega
 have hs:∀l:List D,D.m6 l<=24*l.length:=by
  intro l
  induction l with|nil=>exact wZ _|cons a l ih=>have:=hl a;simp only[D.m6,fI];show a.lby+D.m6 l<=_;omega
 cases d with
 |agg cs=>exact hs cs
 |lit v=>
  unfold D.qT;have:(D.lit v).cells.length=1:=rfl;rw[this];split<;>first|omega|exact hl _|(rename_i h;cases h)
 |sl es=>exact hl (.sl es)
 |cR t d=>exact hl (.cR t d)
 |gq ds=>exact hl (.gq ds)
def tj.TW(h:tj I w sz es cells){b:Nat}{ty:TypeId}{fz:Nat×Nat}(hb:w.heap[b]?=some (.cells cells ty fz))(hI:I b){cap:Nat}(hcap:es.length<=cap)
  (hby:∀d∈es,es.length*d.qT<=281474976710656):dZ I w (.sl es) (.slice (some ⟨b,0,none⟩) es.length cap):=by
 have hex:∀q:Nat×Nat,∃v,∀d c,es[q.1]?=some d->d.cells[q.2]?=some c->cells[q.1*sz+q.2]?=some v∧dZ I w c v:=by
  rintro⟨i,j⟩
  by_cases hi:i<es.length
  .by_cases hj:j<(es[i]).cells.length
   .obtain ⟨v,hv,hr⟩:=h.rel i j _ _ (gm hi) (gm hj);refine⟨v,λd c hd hc=>?_⟩;rw[gm hi]at hd;simp only[bf]at hd;subst hd;rw[gm hj]at hc;simp only[bf]at hc;subst hc;exact⟨hv,hr⟩
   .refine ⟨undef,λd c hd hc=>?_⟩;rw[gm hi]at hd;simp only[bf]at hd;subst hd;exact absurd (aD hc) hj
  .exact ⟨undef,λd c hd _=>absurd (aD hd) hi⟩
 obtain⟨val,hval⟩:=SL hex;refine .sl es _ cap sz (λi j=>val (i,j)) hcap h.rows hby (λ_=>⟨_,rfl,hI,λi j d c hd hj=>?_⟩) (λi j d c hd hj=>(hval (i,j) d c hd hj).2);rw[nH,cell?_of_block hb];simpa using(hval (i,j) d c hd hj).1
def Ay(h:aeY d v):dZ I w d v:=by
 rcases h with⟨rfl,rfl⟩|rfl
 .exact .sl [] none 0 0 (λ_ _=>undef) (by simp) (by simp) (by simp) (λh=>absurd rfl h) (λi j d c h=>by simp at h)
 .exact .lit _
def tj.mono{I I':Nat->Prop}{w w':World}{sz:Nat}{es:List D}{cells:Array Value}(h:tj I w sz es cells)(hk:tQ I w w')(hI:∀b,I b->I' b):tj I' w' sz es cells:=
 ⟨h.size,h.rows,λi j d c hd hj=>let ⟨v,hv,hr⟩:=h.rel i j d c hd hj;⟨v,hv,hr.mono hk hI⟩⟩
def La(hz:ZOk zero cells)(h1:(ag||Nat.beq sz 1)=true)(hl:cA zero=sz) :
  tj I w sz (List.replicate len (bif ag then .agg zero else zero.getD 0 default)) ((Array.range (len*sz)).map (cells[·%cells.size]!)):=by
 rw[bH]at hl;have hcs:cells.size=sz:=by rw[<-hz.1,hl]
 have hd:(bif ag then D.agg zero else zero.getD 0 default).cells=zero:=by
  cases ag with
  |true=>rfl
  |false=>
   simp at h1;have JU:zero.length=1:=by rw[hl,h1]
   match zero,JU with
   |[d],_=>
    have:=hz.2 0 d cells[0] rfl (oN (by omega));rcases this with⟨h,_⟩|h<;>(rw[h];rfl)
 refine⟨by simp,λd hd'=>?_,λi j d c hi hj=>?_⟩
 .rw[VB hd',hd,hl]
 .have hi':i<len:=by have:=aD hi;simpa using this
  have hdd:d=(bif ag then D.agg zero else zero.getD 0 default):=VB (gW hi);rw[hdd,hd]at hj;have pS:j<sz:=by rw[<-hl];exact aD hj
  have hlt:i*sz+j<len*sz:=by have:(i+1)*sz<=len*sz:=wB _ hi';rw[CG,DX]at this;omega
  refine⟨cells[j]'(by omega),?_,Ay (hz.2 j c _ hj (oN (by omega)))⟩;have hm:(i*sz+j)%cells.size=j:=by rw[hcs,xM,Nat.mul_add_mod,Nat.mod_eq_of_lt pS]
  simp[hlt,hm];rw[getElem!_pos cells j (by omega)]
def Bn{ty:TypeId}(hi:nu P ty i){s1:St}(hs:bg g s w){bt:Nat}(hk:i.kd=.slice sz ag bt zero)(h1:(ag||Nat.beq sz 1)=true)(hzl:cA zero=sz)(h0:sz≠0)
  (hlen:len*sz<=16777216) {ps:List (Nat×T)} {vs:Array (Nat×Value)} (dc:PW (oe g w) ps vs.toList) {p:Prop} {es:List D} {os:List Nat}
  (h:nF s {(default:TI)with size:=sz,agg:=ag} (List.replicate len (bif ag then .agg zero else zero.getD 0 default)) ps=some (p,es,os)) (hp:p) (hf:freeze s os=some s1) :
  ∃w' g' v,(Instr.buildSlice ty len vs).run P w=.ok v w'∧bg g' s1 w'∧Ext s.fl g w g' w'∧aJ g' w' (.jI len es) v∧s1.fl=s.fl∧s1.aH=s.aH:=by
 obtain⟨xi,d1,z,xb,j6,_,pP,Uz,nE,ke⟩:=hi.all;rw[hk]at ke;obtain⟨e,j,d',z',rfl,hj,pS,hue,hage,UB,GV,_,_,_⟩:=ke;have live:=Ct hs ps vs.toList h hp dc;obtain⟨g1,fq,pT,hfr⟩:=en os hs hf live;have aai:z'.cells.size=sz:=by have:=GV.1;rw[bH]at hzl;omega
 obtain⟨_,rs,Rs,hrow,hrl⟩:=zY hs h1 fq pT ps vs.toList h hp dc hfr (La GV h1 hzl);have hle:es.length=len:=by rw[hrl];simp
 obtain⟨AW,N6⟩:=fq.VQ (w':=w.alloc (.cells rs e)) (.cells rs e) rfl rfl rfl;have ahK:=hrow.mono (N6.keeps fq.bz) N6.bz;have hd:=ahK.TW (cap:=es.length) (wh w _) (.inr rfl) (bT _) (λd hd=>by
  have h3:=aiN d;rw[hrow.rows d hd]at h3;have h4:es.length*d.qT<=len*(24*sz):=by rw[hle];exact Nat.mul_le_mul_left _ h3
  have h5:len*(24*sz)=24*(len*sz):=by rw[<-LP,xM len 24,LP]
  omega)
 refine⟨_,_,.slice (some ⟨w.heap.size,0,none⟩) es.length es.length,?_,AW,(hfr.fl▸pT.trans (hfr.fl▸N6)),.jI len es _ (by omega) hd,hfr.fl,hfr.aH⟩;have hno:¬(len*sz>2 ^ 24):=by omega
 by_cases hl0:len*sz=0
 .have aou:len=0:=by
   rcases Nat.mul_eq_zero.1 hl0 with h|h
   .exact h
   .exact absurd h h0
  subst aou;simp only[Nat.zero_mul]at Rs;have hr0:(Array.range 0).map (λx=>z'.cells[x%z'.cells.size]!)=#[]:=by simp
  rw[hr0]at Rs;have he0:es.length=0:=hle;have KW:Array.range 0=#[]:=by simp
  simp[KW,Instr.buildSlice,aL j6,dB hj,pS,Rs,newRow,he0]
 .simp[Instr.buildSlice,aL j6,dB hj,pS,ef hj UB,hno,hl0,Rs,newRow,hle]
end
end
section
section
variable {P:Program}{g:Gh}{w:World}
structure qM(I:Nat->Prop)(w:World)(sz:Nat)(es:List D)(vals:List Value):Prop where
 len:vals.length=es.length*sz
 rows:∀d∈es,d.cells.length=sz
 rel:∀i j d c,es[i]?=some d->d.cells[j]?=some c->∃v,vals[i*sz+j]?=some v∧dZ I w c v
variable {i j n sz:Nat}{val:Nat->Nat->Value}{v:Value}{s:St}{t:T}{p:Prop}{es:List D}{I:Nat->Prop}{vals:List Value}
def JS(hi:i<n)(hj:j<sz):i*sz+j<n*sz:=by have:(i+1)*sz<=n*sz:=wB _ hi;rw[CG,DX]at this;omega
def aag(hj:j<sz):(i*sz+j)/sz=i∧(i*sz+j)%sz=j:=by
 have h0:0<sz:=by omega
 constructor
 .rw[xM,Nat.mul_add_div h0,Nat.div_eq_of_lt hj];rfl
 .rw[xM,Nat.mul_add_mod,Nat.mod_eq_of_lt hj]
def p7(sz n:Nat)(val:Nat->Nat->Value):List Value:=(List.range (n*sz)).map λk=>val (k/sz) (k%sz)
def BT(hi:i<n)(hj:j<sz):(p7 sz n val)[i*sz+j]?=some (val i j):=by obtain⟨h1,h2⟩:=aag (i:=i) hj;simp[p7,SJ (JS hi hj),h1,h2]
def ze{k:Nat}(h0:0<sz)(h:(p7 sz n val)[k]?=some v):∃i j,i<n∧j<sz∧k=i*sz+j∧v=val i j:=by simp only[p7,gQ,eA]at h;obtain⟨k',hk,rfl⟩:=h;obtain⟨rfl,hlt⟩:=oM hk;refine⟨k/sz,k%sz,QX (by rw[xM];exact hlt),Nat.mod_lt _ h0,?_,rfl⟩;rw[xM];exact(Nat.div_add_mod k sz).symm
def qZ(hs:bg g s w)(h:rf s t=some (p,es))(hp:p)(ht:aJ g w t v)(h0:0<sz)(gG:D.rows es sz) :
  ∃a cap,v=.slice a es.length cap∧es.length<=cap∧(∀d∈es,es.length*d.qT<=281474976710656)∧
   (es≠[]->∃ad val,a=some ad∧(g.bz ad.block∨∃o,p9 t=[o]∧bK g o ad.block)∧
    (∀i j,i<es.length->j<sz->w.cell? (ad.add (i*sz+j))=some (val i j))∧qM g.bz w sz es (p7 sz es.length val)):=by
 have data:∀{v:Value},dZ g.bz w (.sl es) v->∃a cap,v=.slice a es.length cap∧es.length<=cap∧(∀d∈es,es.length*d.qT<=281474976710656)∧
   (es≠[]->∃ad val,a=some ad∧(g.bz ad.block∨∃o,p9 t=[o]∧bK g o ad.block)∧
    (∀i j,i<es.length->j<sz->w.cell? (ad.add (i*sz+j))=some (val i j))∧qM g.bz w sz es (p7 sz es.length val)):=by
  intro v hd;obtain⟨a,cap,rfl,hcap,hby,kA⟩:=we hd;refine⟨a,cap,rfl,hcap,hby,λhne=>?_⟩;obtain⟨ad,sz',rfl,hsz,jt,val,hc,hr⟩:=kA hne;have hss:sz'=sz:=by obtain⟨d,ds,rfl⟩:=Q3 hne;rw[<-hsz d (by simp),gG d (by simp)]
  subst hss;have hcell:∀i j(hi:i<es.length)(hj:j<sz'),(es[i]).cells[j]?=some ((es[i]).cells[j]'(by rw[hsz _ (GK hi)];exact hj)):=λi j hi hj=>gm _;refine⟨ad,val,rfl,.inl jt,λi j hi hj=>hc i j _ _ (gm hi) (hcell i j hi hj),⟨by simp[p7],hsz,λi j d c hd hj=>?_⟩⟩;have hi:=aD hd;have hj':j<sz':=by rw[<-hsz d (gW hd)];exact aD hj
  exact⟨val i j,BT hi hj',hr i j d c hd hj⟩
 cases ht with
 |emp a=>simp only[rf,bf,bB]at h;obtain⟨_,rfl⟩:=h;exact⟨a,0,rfl,bT _,by simp,λh=>absurd rfl h⟩
 |jI n es' a hn hd=>simp only[rf,bf,bB]at h;obtain⟨_,rfl⟩:=h;exact data hd
 |n9 j d c a hj hd=>simp only[rf,bf,bB]at h;obtain⟨_,rfl⟩:=h;exact data (z6 hj hd)
 |sym d v hd=>simp only[rf,bf,bB]at h;obtain⟨rfl,rfl⟩:=h;rw[D.v7 hp]at hd;exact data hd
 |sh o e len cap sz2 a hx=>
  have key:∃fz sz',s.ob.get o=some (fD fz sz' es e):=by
   simp only[rf]at h;split at h
   .rename_i sz' es' era ho;rcases af h with⟨hb,h⟩|⟨_,h⟩
    .have hee:=beq_iff'.1 hb;simp only[bf,bB]at h;exact⟨false,sz',by rw[ho,h.2,hee];rfl⟩
    .cases h
   .rename_i sz' es' era ho;rcases af h with⟨hb,h⟩|⟨_,h⟩
    .have hee:=beq_iff'.1 hb;simp only[bf,bB]at h;exact⟨true,sz',by rw[ho,h.2,hee];rfl⟩
    .cases h
   .cases h
  obtain⟨fz,sz',ho⟩:=key;obtain⟨hok,OR⟩:=hs.nG ho hx;have h1:=hok.len;have h2:=hok.cap;simp only at h1 h2;refine⟨a,cap,by rw[h1],by omega,hok.Ze,λhne=>?_⟩;have hpos:0<es.length:=LI.2 hne;obtain⟨b,vs,ty,hab,hfz,hh,hcs,kI⟩:=hok.mem (by simp only;omega);simp only at hab;subst hab;have hss:sz'=sz:=by obtain⟨d,ds,rfl⟩:=Q3 hne;rw[<-hok.rows d (by simp),gG d (by simp)]
  subst hss;have hcs':cap*sz'<=vs.size:=hcs;have hvs:∀i j,i<es.length->j<sz'->i*sz'+j<vs.size:=λi j hi hj=>by have:=JS (show i<cap by omega) hj;omega
  refine⟨⟨b,0,none⟩,λi j=>vs.getD (i*sz'+j) undef,rfl,?_,λi j hi hj=>?_,⟨by simp[p7],hok.rows,λi j d c hd hj=>?_⟩⟩
  .by_cases jt:g.bz b
   .exact .inl jt
   .exact .inr ⟨o,rfl,jt,.inr ⟨e,_,_,hx,rfl,rfl,by simp only;omega⟩⟩
  .rw[nH,cell?_of_block hh];have:=hvs i j hi hj;simp[Array.getD,this]
  .have hi:=aD hd;have hj':j<sz':=by rw[<-hok.rows d (gW hd)];exact aD hj
   obtain⟨u,hu,hr⟩:=kI i d j c hd hj;refine⟨u,?_,hr⟩;rw[BT hi hj'];simp[Vh,hu]
 |_=>simp[rf]at h
def qM.one(h:qM I w sz es vals)(h0:0<sz)(hf:∀d∈es,d.flat=true):∀v∈vals,v.oneCell'=true:=by
 intro v hv;obtain⟨k,hk,rfl⟩:=uw hv;have hk':k<es.length*sz:=by rw[<-h.len];exact hk
 have hi:k/sz<es.length:=QX (by rw[xM];exact hk');have hj:k%sz<sz:=Nat.mod_lt _ h0;have hmem:=GK hi;have hjl:k%sz<(es[k/sz]).cells.length:=by rw[h.rows _ hmem];exact hj
 obtain⟨u,hu,hr⟩:=h.rel (k/sz) (k%sz) _ _ (gm hi) (gm hjl);have hkk:k/sz*sz+k%sz=k:=by rw[xM];exact Nat.div_add_mod k sz
 rw[hkk,gm hk]at hu;have Gy:=eI hu;subst Gy;have hfl:=hf _ hmem;unfold D.flat at hfl;rw[gr]at hfl;exact(uH (hfl _ (GK hjl)) hr).1
def qM.append{es':List D}{vals':List Value}(h:qM I w sz es vals)(h':qM I w sz es' vals'):qM I w sz (es++es') (vals++vals'):=by
 refine⟨by simp[h.len,h'.len,CG],λd hd=>?_,λi j d c hd hj=>?_⟩
 .rcases eg.1 hd with hd|hd
  .exact h.rows d hd
  .exact h'.rows d hd
 .rw[lI]at hd;by_cases hi:i<es.length
  .rw[bL hi]at hd;obtain⟨v,hv,hr⟩:=h.rel i j d c hd hj;refine⟨v,?_,hr⟩;have:=aD hv;rw[lI,bL this];exact hv
  .rw[bw hi]at hd;obtain⟨v,hv,hr⟩:=h'.rel (i-es.length) j d c hd hj;refine⟨v,?_,hr⟩;have hge:es.length*sz<=i*sz:=wB _ (by omega);rw[lI,bw (by rw[h.len];omega),h.len];have:i*sz+j-es.length*sz=(i-es.length)*sz+j:=by rw[Nat.sub_mul];omega
   rw[this];exact hv
def qM.nil:qM I w sz [] []:=⟨by simp,by simp,λi j d c h=>by simp at h⟩
def qM.mono{I I':Nat->Prop}{w w':World}{sz:Nat}{es:List D}{vals:List Value}(h:qM I w sz es vals)(hk:tQ I w w')(hI:∀b,I b->I' b):qM I' w' sz es vals:=
 ⟨h.len,h.rows,λi j d c hd hj=>let ⟨v,hv,hr⟩:=h.rel i j d c hd hj;⟨v,hv,hr.mono hk hI⟩⟩
def y7(hs:bg g s w)(h:rf s t=some (p,es))(hp:p)(ht:aJ g w t v)(h0:0<sz)(gG:D.rows es sz)(hf:∀d∈es,d.flat=true)
  {tx e':TypeId} (hk:P.underlying tx=some (.slice e')):∃news,Src P sz tx v es.length news w∧qM g.bz w sz es news∧Builtin.lenOf v=Sem.pure es.length:=by
 obtain⟨a,cap,rfl,hcap,hby,kA⟩:=qZ hs h hp ht h0 gG;by_cases hne:es=[]
 .subst hne;refine⟨[],?_,.nil,rfl⟩;cases a with|none=>exact Src.ofNil w hk cap|some ad=>exact Src.ofSlice w hk ad 0 cap [] (by simp) (by simp) (by simp)
 .obtain ⟨ad,val,rfl,_,hc,hv⟩:=kA hne;refine⟨_,Src.ofSlice w hk ad es.length cap _ hv.len (λk u hu=>?_) (hv.one h0 hf),hv,rfl⟩;obtain⟨i,j,hi,hj,rfl,rfl⟩:=ze h0 hu;exact hc i j hi hj
def Gw(P:Program)(t tx rt:TypeId)(vx vy:Value)(w:World)(R:Value->World->Prop):Prop:=
 ∃v w',(Builtin.append_ #[t,tx] rt #[vx,vy]).run P w=.ok v w'∧R v w'
def Af{ty tx rt e e':TypeId}{j:TypeInfo}{z:Value}(hu:P.underlying ty=some (.slice e))(hut:P.underlying tx=some (.slice e'))(hj:P.info? e=some j)(hz:j.zero=some z)(hb0:0<j.bytes)
  {base:Option Addr} {len cap n:Nat} {olds news:List Value} {vy:Value} (hold:(Builtin.firstCells j.size len (.slice base len cap)).run P w.drew=.ok olds.toArray w.drew)
  (hs:Src P j.size tx vy n news w) (hg:cap<len+n) (hp:Builtin.nextslicecap (len+n) cap*j.bytes<=281474976710656) :
  Gw P ty tx rt (.slice base len cap) vy w λv w'=>∃cap',v=.slice (some ⟨w.heap.size,0,none⟩) (len+n) cap'∧len+n<=cap'∧
   w'=w.drew.alloc (.cells ((olds++news).toArray++Builtin.zeroCells z.cells (cap'-(len+n))) e):=by
 have hnb:(len+n)*j.bytes<=281474976710656:=fS (wB _ (le_nextslicecap (by omega))) hp;have h63:((len+n:Nat):Int)<=9223372036854775807:=by have:len+n<=(len+n)*j.bytes:=Nat.le_mul_of_pos_right _ hb0;omega
 have hrun:=run_append_grow_src (P:=P) w ty tx rt e j z hu hj hz base len cap olds hold vy n news hs hg h63 hp;exact⟨_,_,hrun,_,rfl,grownCap_ge w (len+n) cap e,rfl⟩
def FU{ty tx rt e:TypeId}{j:TypeInfo}(hu:P.underlying ty=some (.slice e))(hj:P.info? e=some j){base:Option Addr}{len cap:Nat}{vy:Value}(hs:Src P j.size tx vy 0 [] w)(hlc:len<=cap) :
  (Builtin.append_ #[ty,tx] rt #[.slice base len cap,vy]).run P w=.ok (.slice base len cap) w:=by
 rcases hs.kind with⟨e',hk⟩|hk<;>cases base<;>
  simp[Builtin.append_,aL hu,aL hk,dB hj,hs.len,hlc,hs.cells,storeCells]
end
end
section
section
variable {P:Program}{g:Gh}{w:World}
variable {o:Obj}{w':World}{sz cap n qT bt:Nat}{es:List D}{vals:List Value}{vx vy:Value}
def Ei(hh:w'.heap=w.heap.push o)(b:Nat)(hb:b<w.heap.size):w'.heap[b]?=w.heap[b]?:=by rw[hh,QW,bw (by omega)]
def Mg(hh:w'.heap=w.heap.push o):w'.heap[w.heap.size]?=some o:=by rw[hh];simp
def RP{g':Gh}(aib:g'.bz=g.bz)(hi:∀b,g.bz b->b<w.heap.size){zs:Array Value}{e:TypeId}
  (hh:w'.heap=w.heap.push (.cells (vals.toArray++zs) e)) (hv:qM g.bz w sz es vals) (h0:0<sz) (hzs:zs.size=(cap-es.length)*sz) (hc:es.length<=cap) (hne:es≠[])
  (hby:∀d∈es,es.length*d.qT<=281474976710656):vR g' w' false sz es ⟨some ⟨w.heap.size,0,none⟩,es.length,cap,sz⟩:=by
 have hk:tQ g.bz w w':=λb hb=>Ei hh b (hi b hb);refine⟨rfl,hc,hv.rows,h0,hby,λh=>absurd h hne,λ_=>⟨w.heap.size,_,e,rfl,⟨λh=>(by cases h),λh=>?_⟩,Mg hh,?_,λi d j c hd hj=>?_⟩⟩
 .rw[aib]at h;have:=hi _ h;omega
 .simp only[Array.size_append,LY,hv.len,hzs];rw[<-CG];exact wB _ (by omega)
 .obtain ⟨v,yS,hr⟩:=hv.rel i j d c hd hj;refine⟨v,?_,hr.mono hk (λb hb=>by rw[aib];exact hb)⟩;have hlt:=aD yS;rw[QY,bL (by simpa using hlt)];simpa using yS
def vZ{len:Nat}{base:Option Addr}{olds:List Value}(hl:olds.length=len*sz)(h:len≠0->∃ad,base=some ad∧∀k u,olds[k]?=some u->w.cell? (ad.add k)=some u) :
  (Builtin.firstCells sz len (.slice base len cap)).run P w.drew=.ok olds.toArray w.drew:=by
 by_cases h0:len=0
 .subst h0;have:olds=[]:=AJ (by simpa using hl);subst this;cases base with|none=>exact run_firstCells_none w.drew sz 0 0 cap|some ad=>exact run_firstCells_some w.drew sz 0 ad 0 cap [] (by simp) (by simp)
 .obtain ⟨ad,rfl,hc⟩:=h h0;exact run_firstCells_some w.drew sz len ad len cap olds hl (λk u hu=>by rw[World.cell?_drew];exact hc k u hu)
def Gw.mono{t tx rt:TypeId}{R R':Value->World->Prop}(h:Gw P t tx rt vx vy w R)(hR:∀v w',R v w'->R' v w'):Gw P t tx rt vx vy w R':=by obtain⟨v,w',h1,h2⟩:=h;exact⟨v,w',h1,hR _ _ h2⟩
def qM.TW{I:Nat->Prop}(h:qM I w sz es vals){b:Nat}{ty:TypeId}{fz:Nat×Nat}{cells:Array Value}(hb:w.heap[b]?=some (.cells cells ty fz))(hI:I b)
  (kI:∀(k:Nat)(v:Value),vals[k]?=some v->cells[k]?=some v) {cap:Nat} (hcap:es.length<=cap) (hby:∀d∈es,es.length*d.qT<=281474976710656):dZ I w (.sl es) (.slice (some ⟨b,0,none⟩) es.length cap):=by
 have hex:∀q:Nat×Nat,∃v,∀d c,es[q.1]?=some d->d.cells[q.2]?=some c->cells[q.1*sz+q.2]?=some v∧dZ I w c v:=by
  rintro⟨i,j⟩
  by_cases hi:i<es.length
  .by_cases hj:j<(es[i]).cells.length
   .obtain ⟨v,hv,hr⟩:=h.rel i j _ _ (gm hi) (gm hj);refine⟨v,λd c hd hc=>?_⟩;rw[gm hi]at hd;simp only[bf]at hd;subst hd;rw[gm hj]at hc;simp only[bf]at hc;subst hc;exact⟨kI _ _ hv,hr⟩
   .refine ⟨undef,λd c hd hc=>?_⟩;rw[gm hi]at hd;simp only[bf]at hd;subst hd;exact absurd (aD hc) hj
  .exact ⟨undef,λd c hd _=>absurd (aD hd) hi⟩
 obtain⟨val,hval⟩:=SL hex;refine .sl es _ cap sz (λi j=>val (i,j)) hcap h.rows hby (λ_=>⟨_,rfl,hI,λi j d c hd hj=>?_⟩) (λi j d c hd hj=>(hval (i,j) d c hd hj).2);rw[nH,cell?_of_block hb];simpa using(hval (i,j) d c hd hj).1
def E6(hf:n<=17179869184)(hb:qT<=4096)(hg:cap<n):Builtin.nextslicecap n cap*qT<=281474976710656:=by have h1:=nextslicecap_le hg;have:Builtin.nextslicecap n cap*qT<=(2*17179869184)*4096:=LR (by omega) hb;omega
def J4(hf:n<=17179869184)(hb:qT<=4096)(h:bt<=2*qT):n*bt<=281474976710656:=by have:n*bt<=17179869184*8192:=LR hf (by omega);omega
def Cz{ty tx rt e e':TypeId}{ji:TypeInfo}{z:Value}(j6:P.underlying ty=some (.slice e))(EU:P.underlying tx=some (.slice e'))(hji:P.info? e=some ji)(UB:ji.zero=some z)(hzs:z.cells.size=ji.size)(h0:0<ji.size)
  (hb0:0<ji.bytes) (Ir:ji.bytes<=4096) (fM:bt<=2*ji.bytes) (hI:∀b,g.bz b->b<w.heap.size) {es new:List D} {news:List Value} {x:fB} {vy:Value}
  (hok:vR g w false ji.size es x) (ahy:∀b,x.at b->b<w.heap.size) (pU:∀d∈D.app es new,d.qT=bt) (gG:D.rows new ji.size)
  (hsrc:Src P ji.size tx vy new.length news w) (hv:qM g.bz w ji.size new news) (uN:D.RD es new)
  (hy:new≠[]->∃Zh cy,vy=.slice (some Zh) new.length cy∧¬x.at Zh.block∧∀k,k<new.length*ji.size->(w.cell? (Zh.add k)).isSome=true) :
  Gw P ty tx rt (.slice x.a x.len x.cap) vy w λv w'=>∃x',Sj g w ji.size (D.app es new) x v w' x':=by
 obtain⟨a,len,cap,xsz⟩:=x;have JU:=hok.len;have hl2:=hok.cap;simp only at JU hl2;subst JU;by_cases hne:new=[]
 .subst hne;have GZ:news=[]:=AJ (by simpa using hv.len);subst GZ;have aaF:D.app es []=es:=lB es;rw[aaF];exact⟨_,_,FU (P:=P) j6 hji hsrc hl2,⟨a,es.length,cap,ji.size⟩,rfl,rfl,rfl,rfl,bT _,λ_ _ _=>rfl,λb hb=>⟨ahy b hb,.inr hb⟩,⟨hok.len,hok.cap,hok.rows,hok.pos,hok.Ze,hok.emp,hok.mem⟩⟩
 .have hpos:0<new.length:=LI.2 hne;obtain⟨Zh,cy,rfl,Rk,hyc⟩:=hy hne;by_cases hroom:es.length+new.length<=cap
  ·
   obtain⟨b,vs,UH,hab,hfz,hh,hcs,kI⟩:=hok.mem (by simp only;omega);simp only at hab hcs;subst hab;have tG:¬g.bz b:=λjt=>Bool.noConfusion (hfz.2 jt);have hnl:news.length=new.length*ji.size:=hv.len;have hfit:es.length*ji.size+news.length<=vs.size:=by have:(es.length+new.length)*ji.size<=cap*ji.size:=wB _ hroom;rw[CG]at this;omega
   have hst:=run_storeCells_at (P:=P) b (0+es.length*ji.size) UH news 0 vs w hh (by omega) hsrc.one;simp only[Ec,ju]at hst;have hrun:(Builtin.append_ #[ty,tx] rt #[.slice (some ⟨b,0,none⟩) es.length cap,.slice (some Zh) new.length cy]).run P w=
     .ok (.slice (some ⟨b,0,none⟩) (es.length+new.length) cap) (w.setRow b (vs.toList.take (es.length*ji.size)++news++vs.toList.drop (es.length*ji.size+news.length)).toArray):=by
    simp[Builtin.append_,aL j6,aL EU,dB hji,hsrc.len,hroom,hsrc.cells,nH,hst]
   have hk:tQ g.bz w (w.setRow b (vs.toList.take (es.length*ji.size)++news++vs.toList.drop (es.length*ji.size+news.length)).toArray):=
    λb' hb'=>setRow_other w b b' _ (λe=>tG (e▸hb'))
   have lE:(⟨some ⟨b,0,none⟩,es.length,cap,xsz⟩:fB).at b:=⟨_,rfl,rfl,by simp only;omega⟩;refine⟨_,_,hrun,⟨some ⟨b,0,none⟩,es.length+new.length,cap,ji.size⟩,rfl,rfl,rfl,rfl,by simp,λb' _ hb'=>setRow_other w b b' _ (λe=>hb' (e▸lE)),λb' hb'=>?_,
    ⟨by simp[D.app],hroom,λd hd=>(by
      rcases eg.1 hd with hd|hd
      .exact hok.rows d hd
      .exact gG d hd),h0,λd hd=>(by
      rw[pU d hd];exact J4 (by simpa[D.app,D.RD]using uN) Ir fM),λhh=>absurd (List.append_eq_nil_iff.1 hh).2 hne,λ_=>⟨b,_,UH,rfl,hfz,setRow_heap w b vs _ UH _ hh,(by
       have e1:(vs.toList.take (es.length*ji.size)++news++vs.toList.drop (es.length*ji.size+news.length)).toArray.size=vs.size:=by simp;omega
       rw[e1];exact hcs),λi d j c hd hj=>(by
       have pS:j<ji.size:=by
        have hrw:d.cells.length=ji.size:=by
         rcases eg.1 (gW hd)with hd|hd
         .exact hok.rows d hd
         .exact gG d hd
        rw[<-hrw];exact aD hj
       unfold D.app at hd;rw[lI]at hd;by_cases hi:i<es.length
       .rw[bL hi]at hd;obtain⟨v,yS,hr⟩:=kI i d j c hd hj;refine⟨v,?_,hr.mono hk (λ_ h=>h)⟩;have:=JS hi pS;rw[On,lI,bL (by simp;omega),lI,bL (by simp;omega),xO,bL (by omega)];simpa using yS
       .rw[bw hi]at hd;obtain⟨v,yS,hr⟩:=hv.rel _ j d c hd hj;refine⟨v,?_,hr.mono hk (λ_ h=>h)⟩;have hlt:=aD yS;have hge:es.length*ji.size<=i*ji.size:=wB _ (by omega);rw[Nat.sub_mul]at yS hlt;rw[On,lI,bL (by simp;omega),lI,bw (by simp;omega)];have e1:i*ji.size+j-(List.take (es.length*ji.size) vs.toList).length=i*ji.size-es.length*ji.size+j:=by simp;omega
        rw[e1];exact yS)⟩⟩⟩
   obtain⟨ad,k1,k2,k3⟩:=hb';simp only[bf]at k1;subst k1;simp only at k2;subst k2;exact⟨by simpa using ahy _ lE,.inr lE⟩
  ·
   have hold:∃olds,qM g.bz w ji.size es olds∧(es.length≠0->∃ad,a=some ad∧∀k u,olds[k]?=some u->w.cell? (ad.add k)=some u):=by
    by_cases WV:es=[]
    .subst WV;exact⟨[],.nil,λh=>absurd rfl h⟩
    .have hepos:0<es.length:=LI.2 WV;obtain⟨b,vs,UH,hab,hfz,hh,hcs,kI⟩:=hok.mem (by simp only;omega);simp only at hab hcs;subst hab;have hle:es.length*ji.size<=vs.size:=fS (wB _ hl2) hcs;refine⟨vs.toList.take (es.length*ji.size),⟨by simp;omega,hok.rows,λi j d c hd hj=>?_⟩,λ_=>⟨_,rfl,λk u hu=>?_⟩⟩
     .obtain ⟨v,yS,hr⟩:=kI i d j c hd hj;refine⟨v,?_,hr⟩;have pS:j<ji.size:=by rw[<-hok.rows d (gW hd)];exact aD hj
      rw[xO,bL (JS (aD hd) pS)];simpa using yS
     .rw[nH,cell?_of_block hh];have hk:=aD hu;rw[xO,bL (by simp at hk;omega)]at hu;simpa using hu
   obtain⟨olds,hvo,hold⟩:=hold;refine(Af (P:=P) j6 EU hji UB hb0 (olds:=olds) (vZ hvo.len hold) hsrc (Nat.lt_of_not_le hroom) (E6 uN Ir (Nat.lt_of_not_le hroom))).mono ?_
   rintro v w' ⟨cap',rfl,hc,rfl⟩
   have aai:(Builtin.zeroCells z.cells (cap'-(es.length+new.length))).size=(cap'-(es.length+new.length))*ji.size:=by simp[Builtin.zeroCells,hzs]
   have zK:(es++new).length=es.length+new.length:=jg;have wF:=RP (g:=g) (w:=w) (g':=g) rfl hI
    (w':=w.drew.alloc (.cells ((olds++news).toArray++Builtin.zeroCells z.cells (cap'-(es.length+new.length))) e)) rfl (hvo.append hv) h0 (by rw[zK];exact aai) (by rw[zK];exact hc)
    (λhh=>hne (List.append_eq_nil_iff.1 hh).2) (λd hd=>by
     rw[pU d hd];exact J4 (by simpa[D.RD]using uN) Ir fM)
   rw[zK]at wF;refine⟨⟨some ⟨w.heap.size,0,none⟩,es.length+new.length,cap',ji.size⟩,rfl,rfl,rfl,rfl,by show w.heap.size<=(w.heap.push _).size;simp,λb hb _=>Ei rfl b hb,λb hb=>?_,wF⟩;obtain⟨ad,k1,k2,_⟩:=hb;simp only[bf]at k1;subst k1;simp only at k2;subst k2;exact⟨by show _<(w.heap.push _).size;simp,.inl (bT _)⟩
def xw{ty tx rt:TypeId}{i j:TI}(hi:nu P ty i)(hj:nu P tx j)(Cg:∃a b c d,j.kd=.slice a b c d){s s':St}(hs:bg g s w){x y:T}{p:Prop}{t:T}
  (h:qt i s x y=some (p,t,s')) (hp:p) (hx:aJ g w x vx) (hy:aJ g w y vy) :
  Gw P ty tx rt vx vy w λv w'=>∃g',bg g' s' w'∧Ext s.fl g w g' w'∧aJ g' w' t v:=by
 obtain⟨_,d1,_,_,j6,_,_,_,_,ke⟩:=hi.all;obtain⟨_,d2,_,_,EU,_,_,_,_,hk2⟩:=hj.all;obtain⟨_,_,_,_,Cg⟩:=Cg;rw[Cg]at hk2;obtain⟨e',_,_,_,rfl,_⟩:=hk2;unfold qt at h;rcases af h with⟨_,h⟩|⟨hnb,h⟩
 .cases h
 have hn:s.aH<bA:=by
  have:Nat.blt s.aH bA=true:=by simpa using hnb
  exact fQ this
 split at h
 .rename_i sz ag bt zero q new dO tF;rw[dO]at ke;obtain⟨e,ji,d',z,rfl,hji,pS,_,_,UB,nE,Ir,h0,n5,fM,hb0,hzl⟩:=ke;have hzs:z.cells.size=sz:=by rw[<-nE.1,hzl]
  subst pS;have Rc:∀{es:List D}{vals:List Value}{cap:Nat}{v:Value}{w':World},qM g.bz w ji.size es vals->es≠[]->D.UI es bt->v=.slice (some ⟨w.heap.size,0,none⟩) es.length cap->es.length<=cap->(∀d∈es,es.length*d.qT<=281474976710656)->
    w'=w.drew.alloc (.cells (vals.toArray++Builtin.zeroCells z.cells (cap-es.length)) e)->∃g',bg g' (ec s (.arr ji.size es 0)).2 w'∧Ext s.fl g w g' w'∧aJ g' w' (.sh s.aH 0) v:=by
   intro es vals cap v w' hv hne pU hve hc hby hw;subst hw;subst hve;have aai:(Builtin.zeroCells z.cells (cap-es.length)).size=(cap-es.length)*ji.size:=by simp[Builtin.zeroCells,hzs]
   have hok:=RP (g:=g) (w:=w) (g':=g.era s.aH 0 ⟨some ⟨w.heap.size,0,none⟩,es.length,cap,ji.size⟩) rfl hs.bz (w':=w.drew.alloc (.cells (vals.toArray++Builtin.zeroCells z.cells (cap-es.length)) e)) rfl hv h0 aai hc hne hby;obtain⟨hs',he⟩:=hs.Ox hn (w':=w.drew.alloc (.cells (vals.toArray++Builtin.zeroCells z.cells (cap-es.length)) e)) rfl rfl (by show w.heap.size<=(w.heap.push _).size;simp) (λb hb=>Ei rfl b hb)
    (x:=⟨some ⟨w.heap.size,0,none⟩,es.length,cap,ji.size⟩) (λb hb=>by
     obtain⟨ad,h1,h2,_⟩:=hb;simp only[bf]at h1;subst h1;simp only at h2;subst h2;exact⟨bT _,by show _<(w.heap.push _).size;simp⟩) hok rfl
   exact⟨_,hs',he,.sh _ _ _ _ _ _ (Gh.fC _ _ _ _)⟩
  cases hx with
  |emp a=>
   simp only[bf,bB]at h;obtain⟨rfl,rfl,rfl⟩:=h;obtain⟨hq,gG,pU⟩:=hp;obtain⟨news,hsrc,hv,hlen⟩:=y7 hs tF hq hy h0 gG (λd hd=>(pU d hd).2) EU;by_cases hne:new=[]
   .subst hne;have GZ:news=[]:=AJ (by simpa using hv.len);subst GZ;obtain⟨hs',he⟩:=hs.Ox hn (w':=w) (sz:=ji.size) (es:=[]) (x:=⟨a,0,0,ji.size⟩) rfl rfl (bT _) (λb hb=>rfl) (λb hb=>by
     obtain⟨_,_,_,h⟩:=hb;exact absurd rfl h) ⟨rfl,bT _,by simp,h0,by simp,λ_=>rfl,λh=>absurd rfl h⟩ rfl
    exact⟨_,_,FU (P:=P) j6 hji hsrc (bT _),_,hs',he,.sh _ _ _ _ _ _ (Gh.fC _ _ _ _)⟩
   .have hpos:0<new.length:=LI.2 hne;obtain⟨_,_,_,_,hby,_⟩:=qZ hs tF hq hy h0 gG;have hfit:Builtin.nextslicecap (0+new.length) 0*ji.bytes<=281474976710656:=by rw[ju,nextslicecap_zero hpos];obtain⟨d,ds,rfl⟩:=Q3 hne;have:=hby d (by simp);rw[(pU d (by simp)).1]at this;exact fS (Nat.mul_le_mul_left _ n5) this
    refine(Af (P:=P) j6 EU hji UB hb0 (olds:=[]) (vZ (by simp) (λh=>absurd rfl h)) hsrc (by omega) hfit).mono ?_
    rintro v w' ⟨cap',rfl,hc,rfl⟩
    simp only[ju,xN]at *
    exact Rc hv hne pU rfl hc hby rfl
  |jI m es a hm hd=>
   have WV:D.rows (D.app es new) ji.size->∃olds,qM g.bz w ji.size es olds∧(es.length≠0->∃ad,a=some ad∧∀k u,olds[k]?=some u->w.cell? (ad.add k)=some u):=by
    intro gG;obtain⟨a',cap',he,_,_,kA⟩:=qZ (s:=s) (t:=.jI m es) (p:=True) (es:=es) hs rfl trivial (.jI m es a hm hd) h0 (λd hd=>gG d (eJ _ hd));simp only[Value.slice.injEq]at he;obtain⟨rfl,_,_⟩:=he;by_cases hne:es=[]
    .subst hne;exact⟨[],.nil,λh=>absurd rfl h⟩
    .obtain ⟨ad,val,rfl,_,hc,hv⟩:=kA hne;refine⟨_,hv,λ_=>⟨ad,rfl,λk u hu=>?_⟩⟩;obtain⟨i,j,hi,hj,rfl,rfl⟩:=ze h0 hu;exact hc i j hi hj
   dsimp only at h;split at h
   .rename_i k es2;simp only[bf,bB]at h;obtain⟨rfl,rfl,rfl⟩:=h;obtain⟨hq,gG,pU,uN⟩:=hp;obtain⟨news,hsrc,hv,hlen⟩:=y7 hs tF hq hy h0 (λd hd=>gG d (iW _ hd)) (λd hd=>(pU d (iW _ hd)).2) EU;obtain⟨olds,hvo,hold⟩:=WV gG;have hpos:0<new.length:=by
     cases hy with
     |jI _ _ _ hk _=>
     simp only[rf,bf,bB]at tF;rw[<-tF.2];omega
    refine(Af (P:=P) j6 EU hji UB hb0 (olds:=olds) (vZ hvo.len hold) hsrc (by omega) (E6 uN Ir (by omega))).mono ?_
    rintro v w' ⟨cap',rfl,hc,rfl⟩
    have zK:(D.app es new).length=es.length+new.length:=jg;exact Rc (es:=D.app es new) (hvo.append hv) (λhh=>by
     have:=nB List.length hh;rw[zK,AG]at this;omega) pU (by rw[zK]) (by rw[zK];exact hc) (λd hd=>by rw[(pU d hd).1,zK];exact J4 uN Ir fM) (by rw[zK])
   .simp only[bf,bB]at h;obtain⟨rfl,rfl,rfl⟩:=h;obtain⟨hq,gG,pU,uN⟩:=hp;obtain⟨news,hsrc,hv,hlen⟩:=y7 hs tF hq hy h0 (λd hd=>gG d (iW _ hd)) (λd hd=>(pU d (iW _ hd)).2) EU;obtain⟨olds,hvo,hold⟩:=WV gG;by_cases hne:new=[]
    .subst hne;have GZ:news=[]:=AJ (by simpa using hv.len);subst GZ;refine⟨_,_,FU (P:=P) j6 hji hsrc (bT _),g,hs,Ext.refl _ _ _,.sym _ _ ?_⟩;unfold D.app;rw[lB];exact hd
    .have hpos:0<new.length:=LI.2 hne;refine(Af (P:=P) j6 EU hji UB hb0 (olds:=olds) (vZ hvo.len hold) hsrc (by omega) (E6 uN Ir (by omega))).mono ?_
     rintro v w' ⟨cap',rfl,hc,rfl⟩
     obtain⟨hs',he⟩:=hs.VQ (w':=w.drew.alloc (.cells ((olds++news).toArray++Builtin.zeroCells z.cells (cap'-(es.length+new.length))) e)) _ rfl rfl rfl;refine⟨_,hs',he,.sym _ _ ?_⟩;have hvv:=(hvo.append hv).mono (he.keeps hs.bz) he.bz;have:=hvv.TW (b:=w.heap.size) (Mg (w:=w) rfl) (.inr rfl) (λk v hk=>by
      have hlt:=aD hk;rw[QY,bL (by simpa using hlt)];simpa using hk) (cap:=cap') (by rw[jg];exact hc) (λd hd=>by
       rw[(pU d hd).1,jg];exact J4 uN Ir fM)
     rw[jg]at this;exact this
  |sh o e2 len cap sz2 a hxa=>
   dsimp only at h;split at h
   .rename_i z' es era ho;rcases af h with⟨hb,h9⟩|⟨_,h9⟩
    .simp only[eE]at hb;obtain⟨⟨⟨hfl,hee⟩,hzz⟩,hno⟩:=hb;have hfl:=fQ hfl;have hee:=beq_iff'.1 hee;have hzz:=beq_iff'.1 hzz;subst hee;subst hzz;simp only[bf,bB]at h9;obtain⟨rfl,rfl,rfl⟩:=h9;obtain⟨hq,gG,pU,uN⟩:=hp;obtain⟨hok,OR⟩:=hs.nG (fz:=false) ho hxa;simp only at OR;subst OR;obtain⟨news,hsrc,hv,hlen⟩:=y7 hs tF hq hy h0 gG (λd hd=>(pU d (iW _ hd)).2) EU;obtain⟨ay,cy,rfl,_,anK,OP⟩:=qZ hs tF hq hy h0 gG;have hlt:=(hs.arr o e2 _ hxa).1;refine(Cz (rt:=rt) j6 EU hji UB hzs h0 hb0 Ir fM hs.bz hok (λb hb=>?_) (λd hd=>(pU d hd).1) gG hsrc hv uN (λhne=>?_)).mono ?_
     .obtain ⟨ad,k1,k2,k3⟩:=hb;exact k2▸hlt ad k1 k3
     .obtain ⟨Zh,akX,rfl,Rk,hyc,_⟩:=OP hne;refine⟨Zh,cy,rfl,λlE=>?_,λk hk=>?_⟩
      .have hown:bK g o Zh.block:=by obtain⟨ad,k1,k2,k3⟩:=lE;obtain⟨b,vs,UH,hab,hfz,_⟩:=hok.mem k3;rw[k1]at hab;cases hab;simp only at k2;exact⟨λjt=>Bool.noConfusion (hfz.2 (k2▸jt)),.inr ⟨e2,_,_,hxa,k1,k2,k3⟩⟩
       rcases Rk with jt|⟨o',ho',hO⟩
       .exact hown.1 jt
       .have:=hs.mj o o' _ hown hO;subst this;rw[ho']at hno;simp at hno
      .have h1:=hyc (k/ji.size) (k%ji.size) (QX (by rw[xM];exact hk)) (Nat.mod_lt _ h0);have hkk:k/ji.size*ji.size+k%ji.size=k:=by rw[xM];exact Nat.div_add_mod k _
       rw[hkk]at h1;rw[h1];rfl
     .rintro v w' ⟨x',hp⟩
      obtain⟨hs',he⟩:=hs.apR ho hxa hfl hp.os hp.output hp.size hp.heap hp.at_ (hp.ok.j5 rfl) hp.sz;have:=hp.val;subst this;exact⟨_,hs',he,.sh _ _ _ _ x'.sz _ (Gh.fC _ _ _ _)⟩
    .cases h9
   .cases h
  |_=>simp at h
 .cases h
end
end
section
def ajN(fl:Nat)(g:Gh)(w:World)(t:T)(s':St)(r:Result Next):Prop:=
 ∃v w' g',(r=.ok (.value v) w'∨(r=.ok .skip w'∧v=undef))∧bg g' s' w'∧Ext fl g w g' w'∧aJ g' w' t v
section
variable {P:Program}{g:Gh}{w:World}
variable {s s':St}{t x:T}{os:List Nat}{i:TI}{l h m:Option T}{p:Prop}
def dI{v:Value}{r:Result Next}(hs:bg g s w)(hr:r=.ok (.value v) w)(ht:aJ g w t v)(he:s'=s):ajN s.fl g w t s' r:=
 ⟨v,w,g,.inl hr,he▸hs,Ext.refl _ _ _,ht⟩
def qh:∀{os:List Nat}{s s':St},freeze s os=some s'->s'.lo=s.lo∧s'.fl=s.fl∧s'.aH=s.aH
 |[],s,s',h=>by simp only[freeze,bf]at h;rw[h];exact⟨rfl,rfl,rfl⟩
 |o::os,s,s',h=>by obtain⟨_,⟨_,_,_,_,h⟩|⟨_,_,_,_,h⟩|⟨_,h⟩|⟨_,_,_,_,_,_,_,_,_,_,_,_,_,h⟩⟩:=uU h<;>(have:=qh h;exact this)
def A2(h:freeze s os=some s'):s'.lo=s.lo:=(qh h).1
def TD(h:freeze s os=some s'):s'.fl=s.fl:=(qh h).2.1
def Pd(h:freeze s os=some s'):s'.aH=s.aH:=(qh h).2.2
def Sx(he:oG i s x l h m=some (p,t,s')):s'=s∨freeze s (p9 x)=some s':=by
 unfold oG at he
 repeat' split at he
 all_goals first
  |(cases he;done)
  |(
    simp only[eA,bf,bB]at he;first
     |(obtain⟨_,_,_,_,rfl⟩:=he;first|exact .inl rfl|(right;assumption))
     |(obtain⟨_,_,rfl⟩:=he;first|exact .inl rfl|(right;assumption)))
def Sy(he:oG i s x l h m=some (p,t,s')):s'.lo=s.lo:=by
 rcases Sx he with rfl|h
 .rfl
 .exact A2 h
structure Ai(E:Env):Prop where
 ti:∀k i,E.ti k=some i->nu E.P k i
 UG:∀f fn,E.UG f=some fn->E.P.funcs[f]?=some fn
def mz{E:Env}(hE:Ai E){fr:Fr}{a:Act}(hf:cE g fr a w)(hs:bg g s w)(o:Oper)(h:ny E fr s o.op=some (p,t,s'))(hp:p) :
  ajN s.fl g w t s' ((execOp a.eval o).run E.P w)∧s'.fl=s.fl∧s'.lo=s.lo∧s.aH<=s'.aH:=by
 cases hop:o.op with
 |move x=>rw[hop]at h;simp only[ny,eA,bB]at h;obtain⟨t',ht,_,rfl,rfl⟩:=h;exact⟨dI hs (by simp[execOp,hop]) (bJ hf ht) rfl,rfl,rfl,bT _⟩
 |assign x=>rw[hop]at h;simp only[ny,eA,bB]at h;obtain⟨t',ht,_,rfl,rfl⟩:=h;exact⟨dI hs (by simp[execOp,hop]) (bJ hf ht) rfl,rfl,rfl,bT _⟩
 |pick c x y=>
  rw[hop]at h;simp only[ny]at h;split at h
  .rename_i c' x' y' hc hx hy;simp only[eA,bB]at h;obtain⟨⟨q,u⟩,hu,rfl,rfl,rfl⟩:=h;obtain⟨b,hb,ht⟩:=Mj hu hp (bJ hf hc) (bJ hf hx) (bJ hf hy);exact⟨dI hs (by simp[execOp,hop,hb,asBool]) ht rfl,rfl,rfl,bT _⟩
  .cases h
 |alloc ty=>
  rw[hop]at h;simp only[ny]at h;split at h
  .rename_i i hi;rcases af h with⟨hn,h⟩|⟨_,h⟩
   .simp only[bf,bB]at h;obtain⟨_,rfl,rfl⟩:=h;have hn':s.aH<bA:=fQ hn;obtain⟨xi,d,z,xb,_,_,_,hz,nE,_⟩:=(hE.ti _ _ hi).all;obtain⟨z1,z2⟩:=qV (g:=g) (w:=w) nE;obtain⟨hs',he⟩:=hs.dj hn' ty z1 z2;refine⟨⟨_,_,_,.inl ?_,hs',he,.ptr s.aH 0 w.heap.size (by simp[Gh.dj])⟩,rfl,rfl,by simp[ec]⟩;simp[execOp,hop,Instr.alloc,ef xb hz,newVar,newRow]
   .cases h
  .cases h
 |box ty x=>
  rw[hop]at h;simp only[ny]at h;split at h
  .rename_i i v hi hv;rcases af h with⟨hn,h⟩|⟨_,h⟩
   .simp only[eA,bB]at h;obtain⟨⟨q,cs⟩,hc,rfl,rfl,rfl⟩:=h;have hn':s.aH<bA:=fQ hn;obtain⟨h1,h2,h3,_⟩:=lV hc hp (bJ hf hv);obtain⟨hs',he⟩:=hs.dj hn' ty (cs:=cs) (vs:=(a.eval x).cells) (by rw[h1,h2]) h3;refine⟨⟨_,_,_,.inl ?_,hs',he,.ptr s.aH 0 w.heap.size (by simp[Gh.dj])⟩,rfl,rfl,by simp[ec]⟩;simp[execOp,hop,Instr.box,newVar,newRow]
   .cases h
  .cases h
 |build ty parts=>
  rw[hop]at h;simp only[ny]at h;split at h
  .rename_i i ps hi hps;split at h
   .rename_i fs hk;simp only[eA,bB]at h;obtain⟨⟨q,cs⟩,hc,rfl,rfl,rfl⟩:=h;have dc:=nV hf hps;obtain⟨v,hv,ht⟩:=Nu (w:=w) (g:=g) (hE.ti _ _ hi) hk (vs:=parts.map λ(i,x)=>(i,a.eval x)) (by simpa using dc) hc hp;exact⟨dI hs (by simp[execOp,hop,hv]) ht rfl,rfl,rfl,bT _⟩
   .cases h
  .cases h
 |buildSlice ty len parts=>
  rw[hop]at h;simp only[ny]at h;split at h
  .rename_i i ps hi hps;split at h
   .rename_i sz ag bt zero hk;rcases af h with⟨hb,h⟩|⟨_,h⟩
    .split at h
     .rename_i q es os hel;simp only[eA,bB]at h;obtain⟨s1,hfz,rfl,rfl,rfl⟩:=h;have dc:=nV hf hps;rw[AI]at hb;obtain⟨n5,fM⟩:=hb;rw[AI]at fM;obtain⟨fM,Pa⟩:=fM;rw[AI]at Pa;obtain⟨Pa,Ir⟩:=Pa;obtain⟨w',g',v,hrun,hs',he,ht,hfl,ye⟩:=Bn (hE.ti _ _ hi) hs hk n5 (beq_iff'.1 fM) (λe=>by
       rw[e]at Pa;cases Pa) (fQ Ir) (vs:=parts.map λ(i,x)=>(i,a.eval x)) (by simpa using dc) hel hp hfz
      exact⟨⟨v,w',g',.inl (by simp[execOp,hop,hrun]),hs',he,ht⟩,hfl,A2 hfz,by omega⟩
     .cases h
    .cases h
   .cases h
  .cases h
 |load ty x=>
  rw[hop]at h;simp only[ny]at h;split at h
  .rename_i i v hi hv;obtain⟨u,hu,ht,rfl⟩:=Ce (hE.ti _ _ hi) hs (bJ hf hv) h hp;exact⟨dI hs (by simp[execOp,hop,hu]) ht rfl,rfl,rfl,bT _⟩
  .cases h
 |store ty x y=>
  rw[hop]at h;simp only[ny]at h;split at h
  .rename_i i v u hi hv hu;obtain⟨w',g',hrun,hs',he,rfl⟩:=I5 (hE.ti _ _ hi) hs (bJ hf hv) (bJ hf hu) h hp;refine⟨⟨undef,w',g',.inr ⟨by simp[execOp,hop,hrun],rfl⟩,hs',he,.sym _ _ (.lit _)⟩,?_⟩;unfold storeT at h;split at h
   .cases h
   .split at h
    .split at h
     .rcases af h with⟨_,h⟩|⟨_,h⟩
      .simp only[bf,bB]at h;obtain⟨_,_,rfl⟩:=h;exact⟨rfl,rfl,bT _⟩
      .cases h
     .cases h
    .split at h
     .split at h
      .rename_i hfz;split at h
       .rcases af h with⟨_,h⟩|⟨_,h⟩
        .simp only[bf,bB]at h;obtain⟨_,_,rfl⟩:=h;have e1:=TD hfz;have e2:=A2 hfz;have e3:=Pd hfz;exact⟨e1,e2,zl e3.symm⟩
        .cases h
       .cases h
      .cases h
     .cases h
    .cases h
  .cases h
 |nilCheck x=>
  rw[hop]at h;simp only[ny]at h;have hx:=λ{t}(e:jw fr x=some t)=>bJ hf e;split at h;all_goals try(cases h;done)
  all_goals
   rename_i Wp;have hr:=hx Wp;simp only[bf,bB]at h;obtain⟨rfl,rfl,rfl⟩:=h
  .generalize hv:a.eval x=v at hr;cases hr with|ptr _ _ b hb=>exact⟨dI hs (by simp[execOp,hop,hv]) (.ptr _ _ b hb) rfl,rfl,rfl,bT _⟩
  .generalize hv:a.eval x=v at hr;cases hr with|mV _ _ ad val h1 h2 h3=>exact⟨dI hs (by simp[execOp,hop,hv]) (.mV _ _ ad val h1 h2 h3) rfl,rfl,rfl,bT _⟩
  .generalize hv:a.eval x=v at hr;cases hr with|kL _ _ _ _ _ _ _ _ h1=>exact⟨dI hs (by simp[execOp,hop,hv]) (.kL _ _ _ _ _ _ _ _ h1) rfl,rfl,rfl,bT _⟩
  .generalize hv:a.eval x=v at hr;cases hr with|cR _ _ _ h1=>exact⟨dI hs (by simp[execOp,hop,hv]) (.cR _ _ _ h1) rfl,rfl,rfl,bT _⟩
  .generalize hv:a.eval x=v at hr;cases hr with|fn _ _ _ _ _ h1 h2 h3 h4=>exact⟨dI hs (by simp[execOp,hop,hv]) (.fn _ _ _ _ _ h1 h2 h3 h4) rfl,rfl,rfl,bT _⟩
  .generalize hv:a.eval x=v at hr;cases hr with
   |sym d _ hd=>
    cases hd with|cR _ _ _ h1=>exact⟨dI hs (by simp[execOp,hop,hv]) (.sym _ _ (.cR _ _ _ h1)) rfl,rfl,rfl,bT _⟩|_=>cases hp
 |binOp op ty x y yt=>
  rw[hop]at h;simp only[ny]at h;split at h
  .rename_i i u v hi hu hv;simp only[eA,bB]at h;obtain⟨⟨q,d⟩,hb,rfl,rfl,rfl⟩:=h;obtain⟨r,hr,ht⟩:=PG (hE.ti _ _ hi) hb hp (bJ hf hu) (bJ hf hv) x y;refine⟨dI hs ?_ ht rfl,rfl,rfl,bT _⟩;simp only[Sem.run_bind]at hr;simp only[execOp,hop,Sem.run_bind];rw[hr];rfl
  .cases h
 |unOp op ty x=>
  rw[hop]at h;simp only[ny]at h;split at h
  .rename_i i u hi hu;simp only[eA,bB]at h;obtain⟨⟨q,d⟩,hb,rfl,rfl,rfl⟩:=h;obtain⟨r,hr,ht⟩:=So (P:=E.P) hb hp (bJ hf hu);exact⟨dI hs (by simp[execOp,hop,hr]) ht rfl,rfl,rfl,bT _⟩
  .cases h
 |convert src dst x=>
  rw[hop]at h;simp only[ny]at h;split at h
  .rename_i i j u hi hj hu;obtain⟨r,hr,ht,rfl⟩:=Nf (hE.ti _ _ hi) (hE.ti _ _ hj) h hp (bJ hf hu);exact⟨dI hs (by simp[execOp,hop,hr]) ht rfl,rfl,rfl,bT _⟩
  .cases h
 |makeInterface ty x=>
  rw[hop]at h;simp only[ny]at h;split at h
  .rename_i i v hi hv;have MH:=hE.ti _ _ hi;obtain⟨xi,d,z,xb,hu,_⟩:=MH.all;split at h
   .cases h
   .rename_i hk;simp only[bf,bB]at h;obtain⟨rfl,rfl,rfl⟩:=h;refine⟨dI hs (v:=.iface ty (a.eval x)) ?_ (.cR _ _ _ (bJ hf hv)) rfl,rfl,rfl,bT _⟩;have hni:∀ms,d≠.interface ms:=λms e=>hk (MH.nif ms (e▸hu));simp only[execOp,hop,Instr.makeInterface,Sem.run_bind,aL hu,Result.andThen_ok];cases d<;>first|rfl|exact absurd rfl (hni _)
  .cases h
 |makeFunc f first cap=>
  rw[hop]at h;simp only[ny]at h;split at h
  .rename_i xs ys hx hy;simp only[bf,bB]at h;obtain⟨rfl,rfl,rfl⟩:=h;have h1:=fh hf hx;have h2:=fh hf hy;refine⟨dI hs (v:=.func f (first.map a.eval) (cap.map a.eval)) (by simp[execOp,hop,Instr.makeFunc]) (.fn _ _ _ _ _ (by simpa using h1.1) (by simpa using h2.1) (λj t v k1 k2=>h1.2 j t v k1 (by simpa using k2)) (λj t v k1 k2=>h2.2 j t v k1 (by simpa using k2))) rfl,rfl,rfl,bT _⟩
  .cases h
 |extract x k=>
  rw[hop]at h;simp only[ny]at h;split at h
  .rename_i v hv;obtain⟨r,hr,ht,rfl⟩:=E8 (P:=E.P) h hp (bJ hf hv);exact⟨dI hs (by simp[execOp,hop,hr]) ht rfl,rfl,rfl,bT _⟩
  .cases h
 |fieldAddr ty x k=>
  rw[hop]at h;simp only[ny]at h;split at h
  .rename_i i v hi hv;obtain⟨r,hr,ht,rfl⟩:=A8 (hE.ti _ _ hi) h (bJ hf hv);exact⟨dI hs (by simp[execOp,hop,hr]) ht rfl,rfl,rfl,bT _⟩
  .cases h
 |field ty x k=>
  rw[hop]at h;simp only[ny]at h;split at h
  .rename_i i v hi hv;obtain⟨r,hr,ht,rfl⟩:=J3 (hE.ti _ _ hi) h hp (bJ hf hv);exact⟨dI hs (by simp[execOp,hop,hr]) ht rfl,rfl,rfl,bT _⟩
  .cases h
 |indexAddr ty x ix=>
  rw[hop]at h;simp only[ny]at h;split at h
  .rename_i i v n hi hv hn;obtain⟨r,hr,ht,rfl⟩:=AV (hE.ti _ _ hi) hs h hp (bJ hf hv) (bJ hf hn);exact⟨dI hs (by simp[execOp,hop,hr]) ht rfl,rfl,rfl,bT _⟩
  .cases h
 |index ty x ix=>
  rw[hop]at h;simp only[ny]at h;split at h
  .rename_i i v n hi hv hn;obtain⟨r,hr,ht,rfl⟩:=JQ (hE.ti _ _ hi) h hp (bJ hf hv) (bJ hf hn);exact⟨dI hs (by simp[execOp,hop,hr]) ht rfl,rfl,rfl,bT _⟩
  .cases h
 |slice ty x lo hi mx=>
  rw[hop]at h;simp only[ny]at h;split at h
  .rename_i i v l hh m h1 h2 h3 h4 h5;obtain⟨g',r,hr,hs',he,ht,hfl,ye⟩:=I8 (hE.ti _ _ h1) hs h hp (bJ hf h2) (xS hf h3) (xS hf h4) (xS hf h5);exact⟨⟨r,w,g',.inl (by simp[execOp,hop,hr]),hs',he,ht⟩,hfl,Sy h,by omega⟩
  .cases h
 |typeAssert x xt ty ok=>
  rw[hop]at h;simp only[ny]at h;split at h
  .rename_i i v hi hv;obtain⟨r,hr,ht,rfl⟩:=Ht (xt:=xt) (hE.ti _ _ hi) h (bJ hf hv);exact⟨dI hs (by simp[execOp,hop,hr]) ht rfl,rfl,rfl,bT _⟩
  .cases h
 |_=>rw[hop]at h;simp[ny]at h
end
end
section
section
variable {g g' xh:Gh}{w w' w'':World}{lo fl:Nat}
def bg.grow{s:St}(hs:bg g s w){I:Nat->Prop}(hI:∀b,g.bz b->I b)(hIn:∀b,I b->g.bz b∨w.heap.size<=b)(hIs:∀b,I b->b<w'.heap.size)(hsize:w.heap.size<=w'.heap.size)
  (jY:∀b,b<w.heap.size->w'.heap[b]?=w.heap[b]?) (hos:w'.os=w.os) (hout:w'.output=w.output) :
  bg {g with bz:=I} s w'∧Ext fl g w {g with bz:=I} w':=by
 have hown:∀k b,bK ({g with bz:=I}:Gh) k b->bK g k b:=λk b h=>⟨λhi=>h.1 (hI b hi),h.2⟩;have he:Ext fl g w {g with bz:=I} w':=
  ⟨λ_ _ h=>h,λ_ _ _ h=>h,hI,hsize,λb hb _=>jY b hb,λk b h=>.inl (hown k b h),λb h=>(hIn b h).imp id .inl,hos,hout⟩
 refine⟨⟨hs.aH,hs.ak,λk c hc=>?_,λk j y hy=>?_,hIs,λk k' b h h'=>hs.mj k k' b (hown k b h) (hown k' b h')⟩,he⟩
 .have gS:=hs.box k c hc;refine gS.ext he hs.bz (jY c gS.2.1) rfl λjt=>?_;rcases hIn c jt with h|h
  .exact gS.1 h
  .have:=gS.2.1;omega
 .have hok:=hs.arr k j y hy;refine hok.ext he hs.bz (λb hb hc=>⟨jY b (hok.1 _ hb hc),⟨λh=>?_,hI b⟩⟩) rfl rfl;rcases hIn b h with h|h
  .exact h
  .have:=hok.1 _ hb hc;simp only at this;omega
end
def mM(P:Program)(f:FuncId):Prop:=∃fn,P.funcs[f]?=some fn∧fn.body.isSome=true∧(fn.name== "runtime.NumGoroutine")=false
def XZ(I:Nat->Prop)(w:World)(d:D):Ending->World->Prop
 | .returned v,w'=>∃I':Nat->Prop,(∀b,I b->I' b)∧(∀b,I' b->I b∨w.heap.size<=b)∧(∀b,I' b->b<w'.heap.size)∧w.heap.size<=w'.heap.size∧
   (∀b,b<w.heap.size->w'.heap[b]?=w.heap[b]?)∧w'.os=w.os∧w'.output=w.output∧dZ I' w' d v
 | .panicked _,_=>False
 | .outgrown,_=>False
def ajI(P:Program)(f:FuncId)(c:NY):Prop:=
 mM P f∧∀(I:Nat->Prop)(w:World)(ds:List D)(vs:Array Value),(∀b,I b->b<w.heap.size)->ds.length=vs.size->
  (∀(j:Nat)(d:D)(v:Value),ds[j]?=some d->vs[j]?=some v->dZ I w d v)->c.pre ds->Calls P f vs w (XZ I w (c.f ds))
structure NX(E:Env):Prop extends Ai E where
 name:∀f fn,E.UG f=some fn->(fn.name== "runtime.NumGoroutine")=false
 Hh:∀f c,E.Hh f=some c->ajI E.P f c
section
variable {g:Gh}{w:World}
end
end
section
section
variable {g:Gh}{w:World}
variable {s s':St}{t:T}{P:Program}{f:FuncId}{o:Oper}{c:Call}{a:Act}{fr:Fr}
def PM{i:TI}{x y:T}{p:Prop}(h:qt i s x y=some (p,t,s')):s'.fl=s.fl∧s'.lo=s.lo∧s.aH<=s'.aH:=by
 unfold qt at h;rcases af h with⟨_,h⟩|⟨_,h⟩
 .cases h
 .split at h
  .split at h
   .simp only[bf,bB]at h;obtain⟨_,_,rfl⟩:=h;exact⟨rfl,rfl,by simp[ec]⟩
   .dsimp only at h;split at h
    .simp only[bf,bB]at h;obtain⟨_,_,rfl⟩:=h;exact⟨rfl,rfl,by simp[ec]⟩
    .simp only[bf,bB]at h;obtain⟨_,_,rfl⟩:=h;exact⟨rfl,rfl,bT _⟩
   .split at h
    .rcases af h with⟨_,h⟩|⟨_,h⟩
     .simp only[bf,bB]at h;obtain⟨_,_,rfl⟩:=h;exact⟨rfl,rfl,bT _⟩
     .cases h
    .cases h
   .cases h
  .cases h
def vW(h:mM P f)(args:Array Value):(callFunc f args).run P w=.ok (.enter f args) w:=by
 obtain⟨fn,h1,h2,h3⟩:=h;have h4:fn.body≠none:=by intro hb;rw[hb]at h2;cases h2
 have h5:fn.name≠ "runtime.NumGoroutine":=by simpa using h3
 simp[callFunc,h1,h5,h4]
def zd(ho:o.op=.call c){fv:Operand}(hc:c.callee=.value fv){first cap:Array Value}(hv:a.eval fv=.func (.func f) first cap)(he:mM P f) :
  (execOp a.eval o).run P w=.ok (.enter f (first++c.args.map a.eval++cap)) w:=by
 simp only[execOp,ho,resolve,hc,Deferred.ofValue,hv,Sem.run_bind,Sem.run_pure,Result.andThen_ok,invoke];exact vW he _
def TH(hf:cE g fr a w){dst:Option Nat}(hd:agD fr dst=true)(hn:fr.n<=bA){v:Value}(ht:aJ g w t v):cE g (fr.ij dst t) (a.put dst v) w:=by
 cases dst with
 |none=>exact hf
 |some d=>
  have hlt:d<fr.n:=fQ hd;refine⟨by simp[Act.put,Fr.ij,Fr.put,hf.size],hf.df,λk t' hk=>?_⟩;simp only[Fr.ij,Fr.put,Fr.get]at hk;rw[Tr.aT _ _ _ _ (dy hlt hn)]at hk;by_cases dO:k=d
  .subst dO;rw[bL rfl]at hk;simp only[bf]at hk;subst hk;exact⟨v,by simp[Act.put,hf.size,hlt],ht⟩
  .rw[bw dO]at hk;obtain⟨u,hu,hr⟩:=hf.tm k t' hk;refine⟨u,?_,hr⟩;simp only[Act.put];rw[VF (λe=>dO e.symm)];exact hu
structure Aft(s:St)(g:Gh)(w:World)(s':St)(g':Gh)(w':World):Prop where
 rel:bg g' s' w'
 ext:Ext s.fl g w g' w'
 fl:s'.fl=s.fl
 lo:s'.lo=s.lo
 aH:s.aH<=s'.aH
def Aft.refl{s:St}(h:bg g s w):Aft s g w s g w:=⟨h,Ext.refl _ _ _,rfl,rfl,bT _⟩
def xp{E:Env}(hE:NX E)(hf:cE g fr a w)(hs:bg g s w)(hop:o.op=.call c){b:Builtin}(hb:c.callee=.builtin b){args:List T}
  (hargs:w6 fr c.args.toList=some args) {p:Prop} {t:T} (h:eY E s b c.argTypes args=some (p,t,s')) (hp:p) {k:T->St->Prop} (hk:k t s')
  {K:Act->World->Prop} {Q:Exit->Act->World->Prop} (hK:∀t s' g' v w',k t s'->Aft s g w s' g' w'->aJ g' w' t v->K (a.put o.dst v) w') :
  o.wp E.P a w K Q∨(o.asks E.P a w∧LetsOut Q):=by
 have dc:=fh hf hargs;cases b with
 |len=>
  left
  match args,hargs,dc,h with
  |[x],hargs,dc,h=>
   have hl:c.args.size=1:=by have:=dc.1;simpa using this.symm
   obtain⟨arr,ha⟩:∃u,c.args=#[u]:=⟨c.args[0],by
    apply Array.ext
    .simp[hl]
    .intro i h1 h2;have:i=0:=by omega
     subst this;rfl⟩
   have hx:aJ g w x (a.eval arr):=dc.2 0 _ _ rfl (by simp[ha]);obtain⟨v,hv,ht,rfl⟩:=Ie (rt:=o.type) hs hE.ti h hp hx;unfold Oper.wp;have hrun:(execOp a.eval o).run E.P w=.ok (.value v) w:=by simp[execOp,hop,resolve,hb,invoke,builtin,ha,hv]
   rw[hrun];exact hK t s' g v w hk (Aft.refl hs) ht
  |[],_,_,h=>simp[eY]at h
  |_::_::_,_,_,h=>simp[eY]at h
 |append=>
  match args,hargs,dc,h with
  |[x,y],hargs,dc,h=>
   have hl:c.args.size=2:=by have:=dc.1;simpa using this.symm
   obtain⟨u,v,ha⟩:∃u v,c.args=#[u,v]:=⟨c.args[0],c.args[1],by
    apply Array.ext
    .simp[hl]
    .intro i h1 h2;have:i=0∨i=1:=by omega
     rcases this with rfl|rfl<;>rfl⟩
   have hx:aJ g w x (a.eval u):=dc.2 0 _ _ rfl (by simp[ha]);have hy:aJ g w y (a.eval v):=dc.2 1 _ _ rfl (by simp[ha]);simp only[eY]at h;split at h
   .rename_i ty tx As;split at h
    .rename_i i j hi hj;split at h
     .rename_i Cg;have lE:c.argTypes=#[ty,tx]:=by apply Ea;simpa using As
      have hap:=xw (rt:=o.type) (hE.ti _ _ hi) (hE.ti _ _ hj) ⟨_,_,_,_,Cg⟩ hs h hp hx hy;have adT:o.op=.call {callee:=.builtin .append,args:=#[u,v],argTypes:=#[ty,tx]}:=by rw[hop,<-ha,<-lE,<-hb]
      obtain⟨r,w',hrun,g',h1,h2,h3⟩:=hap
      left
      unfold Oper.wp;have Wv:(execOp a.eval o).run E.P w=.ok (.value r) w':=by simp[execOp,adT,resolve,invoke,builtin,hrun]
      rw[Wv];obtain⟨e1,e2,e3⟩:=PM h;exact hK t s' g' r w' hk ⟨h1,h2,e1,e2,e3⟩ h3
     .cases h
    .cases h
   .cases h
  |[],_,_,h=>simp[eY]at h
  |[_],_,_,h=>simp[eY]at h
  |_::_::_::_,_,_,h=>simp[eY]at h
 |_=>simp[eY]at h
end
end
section
section
variable {g:Gh}{w:World}
def V5{E:Env}(hE:NX E){fr:Fr}{s s':St}{a:Act}(hf:cE g fr a w)(hs:bg g s w){o:Oper}{c:Call}(hop:o.op=.call c)(hb:c.callee=.builtin .len){args:List T}
  (hargs:w6 fr c.args.toList=some args) {p:Prop} {t:T} (h:eY E s .len c.argTypes args=some (p,t,s')) (hp:p) :
  s'=s∧∃v,(execOp a.eval o).run E.P w=.ok (.value v) w∧aJ g w t v:=by
 have dc:=fh hf hargs
 match args,hargs,dc,h with
 |[x],hargs,dc,h=>
  have hl:c.args.size=1:=by have:=dc.1;simpa using this.symm
  obtain⟨arr,ha⟩:∃u,c.args=#[u]:=⟨c.args[0],by
   apply Array.ext
   .simp[hl]
   .intro i h1 h2;have:i=0:=by omega
    subst this;rfl⟩
  have hx:aJ g w x (a.eval arr):=dc.2 0 _ _ rfl (by simp[ha]);obtain⟨v,hv,ht,rfl⟩:=Ie (rt:=o.type) hs hE.ti h hp hx;exact⟨rfl,v,by simp[execOp,hop,resolve,hb,invoke,builtin,ha,hv],ht⟩
 |[],_,_,h=>simp[eY]at h
 |_::_::_,_,_,h=>simp[eY]at h
end
end
section
abbrev WR(r:Option Nat):Fence:={Fence.wide with round:=r}
section
variable {P:Program}{r:Option Nat}
def ie{m m':Machine}:StepsIn (Machine.fenced P (WR r)) P m m'↔Steps P m m':=stepsIn_wide
variable {n id:Nat}{f:FuncId}{args tmps:Array Value}{R:Ending->World->Prop}{next:Act->World->Prop}{Q:Exit->Act->World->Prop}{fn:Func}
def PB{w:World}:CallsIn (WR r) n P f args w R↔Calls P f args w R:=
 (callsIn_wide (n:=n):CallsIn Fence.wide n P f args w R↔_)
def LA(n:Nat):(WR r).room n:=room_wide n
def agv{row:String}{w:World}{R:Value->World->Prop}(h:Rows P row args w R):RowsIn (WR r) n P row args w R:=
 λc cs _=>let ⟨v,w',hr,hs⟩:=h c cs;⟨v,w',hr,ie.2 hs⟩
def X2(r:Option Nat)(P:Program)(o:Oper)(a:Act)(w:World)(next:Act->World->Prop)(Q:Exit->Act->World->Prop):Prop:=
 o.uponIn (WR r) 0 P a next Q ((o.semAt r a.eval).run P w)∨(o.asks P a w∧(r≠none->∀c,o.op≠.defer c)∧LetsOut Q)
def X2.of_wp{o:Oper}{a:Act}{w:World}(hd:r≠none->∀c,o.op≠.defer c)(h:o.wp P a w next Q∨(o.asks P a w∧LetsOut Q)):X2 r P o a w next Q:=by
 rcases h with h|⟨h1,h2⟩
 .left
  have adM:o.semAt r a.eval=execOp a.eval o:=by cases r with|none=>rfl|some l=>exact Oper.semAt_eq _ _ _ (hd (by simp))
  rw[adM];unfold Oper.wp at h;generalize(execOp a.eval o).run P w=res at h;cases res with
  |ok x w'=>cases x with|enter f args=>exact⟨λh=>by simp[Fence.wide]at h,PB.2 h⟩|row row args=>exact⟨λh=>by simp[Fence.wide]at h,agv h⟩|value v=>exact h|skip=>exact h|defer d=>exact h|_=>exact h.elim
  |halt x w'=>cases x<;>exact h
 .exact .inr ⟨h1,hd,h2⟩
def X2.mono{o:Oper}{a:Act}{w:World}{next next':Act->World->Prop}{Q:Exit->Act->World->Prop}(hn:∀a w,next a w->next' a w)(h:X2 r P o a w next Q):X2 r P o a w next' Q:=by
 rcases h with h|h
 .left
  generalize(o.semAt r a.eval).run P w=res at h;cases res with
  |ok x w'=>cases x with|enter f args=>exact⟨h.1,h.2.mono λe w'' he=>by cases e<;>first|exact hn _ _ he|exact he⟩|row row args=>exact⟨h.1,h.2.mono λ_ _ he=>hn _ _ he⟩|round l f tmps assign body=>exact⟨h.1,h.2.mono λe w'' he=>by cases e<;>first|exact hn _ _ he|exact he⟩|value v=>exact hn _ _ h|skip=>exact hn _ _ h|defer d=>exact hn _ _ h|_=>exact h
  |halt x w'=>cases x<;>exact h
 .exact .inr h
abbrev aby(r:Option Nat)(P:Program):=ArrivesIn (Machine.fenced P (WR r)) P
section
variable {b:Frame}{a:Act}{k:List Item}{cs:List Frame}{w:World}{ops:Array Oper}{i:Nat}{rest:List Nat}{o:Oper}
def SU(hro:b.roundOf=r)(hd:r≠none->∀c,o.op≠.defer c)(ho:ops[i]?=some o)(hw:Region.wanted o (yielded ops a.tmps)=true)(hb:b.kind≠.early)(h:o.asks P a w) :
  Outgrown P (lone (b.atR a (.inRegion ops (i::rest)::k)) cs w):=by
 have adM:o.semAt b.roundOf a.eval=execOp a.eval o:=by rw[hro];cases r with|none=>rfl|some l=>exact Oper.semAt_eq _ _ _ (hd (by simp))
 have hg:=stepGR_op (P:=P) (b:=b) (k:=k) (cs:=cs) (w:=w) (rest:=rest) ho hw;rw[adM]at hg;have WV:noRoomEvent∈(stepG P true {frame:=b.atR a (.inRegion ops (i::rest)::k),callers:=cs,status:=.running,dying:=none} w).es:=by
  rw[hg];have hk:((b.atR a (.inRegion ops (i::rest)::k)).kind==CallKind.early)=false:=by simpa[Frame.atR]using hb
  have hm:noRoomEvent∈Sem.events P (execOp a.eval o) w #[]:=h.1;simp only[stepG.apply,Sem.runT_eq,fR,hk,Bool.false_eq_true,eO];rw[GStep.es_after];refine Array.mem_append.2 (.inl (seen_keeps P _ _ ?_));have hen:=h.2;cases hrun:(execOp a.eval o).run P w with
  |ok x w'=>exact hm
  |halt x w'=>
   rw[hrun]at hen;cases x with
   |unsupported u=>cases u<;>first|exact hen.elim|exact hm
   |blocked=>exact hen.elim
   |waiting=>exact hen.elim
   |_=>exact hm
 refine Outgrown.now (o:={g:=0,fn:=(b.atR a (.inRegion ops (i::rest)::k)).fn,pos:=(b.atR a (.inRegion ops (i::rest)::k)).place,act:=.mark .noRoom}) ?_ rfl rfl;rw[stepT,move_lone];refine runT_lists P _ 0 {frame:=b.atR a (.inRegion ops (i::rest)::k),callers:=cs,status:=.running,dying:=none} (by simp[lone]) _ ?_;exact mem_ofEvents (e:=noRoomEvent) (by simpa[lone]using WV)
def VM(hro:b.roundOf=r)(ho:ops[i]?=some o)(hw:Region.wanted o (yielded ops a.tmps)=true)(h:X2 r P o a w next Q) :
  (∃a' w',next a' w'∧Steps P (lone (b.atR a (.inRegion ops (i::rest)::k)) cs w) (lone (b.atR a' (.inRegion ops rest::k)) cs w'))∨
  ∃e a' w',Q e a' w'∧aby r P (lone (b.atR a (.inRegion ops (i::rest)::k)) cs w) b k cs e a' w':=by
 rcases h with h|⟨h1,h2,a₀,w₀,hq⟩;rotate_left
 .by_cases hk:b.kind=.early
  .exact .inr ⟨.outgrown,a₀,w₀,hq,.inl hk⟩
  .exact .inr ⟨.outgrown,a₀,w₀,hq,.inr (SU hro h2 ho hw hk h1)⟩
 have hg:=stepGR_op (P:=P) (b:=b) (k:=k) (cs:=cs) (w:=w) (rest:=rest) ho hw;rw[hro]at hg;have He:∀v,(b.atR a (.inRegion ops (i::rest)::k)).finish v=b.atR (a.put o.dst v) (.inRegion ops rest::k):=λv=>by rw[Frame.finish_atR,ho];rfl
 generalize hres:(o.semAt r a.eval).run P w=res at h;have enter:∀{fr:Frame}{w1:World},(stepG P true {frame:=b.atR a (.inRegion ops (i::rest)::k),callers:=cs,status:=.running,dying:=none} w).bare=.go {frame:=fr,callers:=b.atR a (.inRegion ops (i::rest)::k)::cs,status:=.running,dying:=none} w1->
   step P (lone (b.atR a (.inRegion ops (i::rest)::k)) cs w)=.next (lone fr (b.atR a (.inRegion ops (i::rest)::k)::cs) w1):=λh=>step_lone_go h
 cases res with
 |ok x w1=>cases x with
  |value v=>exact .inl ⟨_,_,h,.one (step_lone_go (by rw[hg,<-He];simp[stepG.apply,hres]))⟩
  |skip=>exact .inl ⟨_,_,h,.one (step_lone_go (by rw[hg,<-He];simp[stepG.apply,hres]))⟩
  |defer d=>have Tu:=Frame.finish_atR b {a with defers:=d::a.defers} ops i rest k undef;rw[ho]at Tu;refine .inl ⟨_,_,h,.one (step_lone_go ?_)⟩;rw[hg];simp only[stepG.apply,Sem.runT_eq,hres,GStep.bare_after];exact nB (λfr=>GStep.go {frame:=fr,callers:=cs,status:=.running,dying:=none} w1) Tu
  |enter f args=>
   obtain⟨e,w2,fr,hR,mC,_,hleave⟩:=PB.1 h.2 (b.atR a (.inRegion ops (i::rest)::k)::cs);have h1:=enter (fr:=Frame.enter P f args .normal) (w1:=w1) (by rw[hg];simp[stepG.apply,hres,Frame.atR]);cases e with|returned v=>exact .inl ⟨_,_,hR,.head h1 (mC.trans (.one (by rw[<-He];exact step_leave_returned hleave)))⟩|panicked ch=>exact .inr ⟨.panic ch,a,w2,hR,.inRegion ops (i::rest)::k,ie.2 (.head h1 (mC.trans (.one (by rw[<-Frame.raise_atR];exact step_leave_panicked hleave))))⟩|outgrown=>obtain⟨a₀,w₀,hq⟩:=hR;exact .inr ⟨.outgrown,a₀,w₀,hq,.inr (Outgrown.of_steps (.one h1) mC)⟩
  |row row args=>obtain⟨v,w2,hR,mC⟩:=h.2 (b.atR a (.inRegion ops (i::rest)::k)) cs (LA _);have h1:=enter (fr:=Frame.ofRow P row args .normal) (w1:=w1) (by rw[hg];simp[stepG.apply,hres,Frame.atR]);exact .inl ⟨_,_,hR,.head h1 (by rw[<-He];exact ie.1 mC)⟩
  |round l f tmps assign body=>
   obtain⟨e,w2,hR,mC⟩:=h.2.2 (b.atR a (.inRegion ops (i::rest)::k)) cs (LA _);have h1:=enter (fr:=Frame.round l f tmps assign body .normal) (w1:=w1) (by rw[hg];simp[stepG.apply,hres,Frame.atR]);cases e with|returned v=>exact .inl ⟨_,_,hR,.head h1 (by rw[<-He];exact ie.1 mC)⟩|panicked ch=>exact .inr ⟨.panic ch,a,w2,hR,.inRegion ops (i::rest)::k,ie.2 (.head h1 (by rw[<-Frame.raise_atR];exact ie.1 mC))⟩|outgrown=>obtain⟨a₀,w₀,hq⟩:=hR;exact .inr ⟨.outgrown,a₀,w₀,hq,.inr (Outgrown.of_steps (.one h1) mC)⟩
  |_=>exact h.elim
 |halt x w1=>cases x with|panic v=>refine .inr ⟨_,a,w1,h,.inRegion ops (i::rest)::k,ie.2 (.one (step_lone_go ?_))⟩;rw[hg,<-Frame.raise_atR];simp[stepG.apply,hres]|_=>exact h.elim
end
def vF(r:Option Nat)(P:Program)(ops:Array Oper)(Q:Exit->Act->World->Prop):List Nat->Act->World->Prop
 |[],a,w=>Q .normal a w
 |i::rest,a,w=>match ops[i]? with
  |none=>vF r P ops Q rest a w
  |some o=>if Region.wanted o (yielded ops a.tmps)then X2 r P o a w (vF r P ops Q rest) Q else vF r P ops Q rest (a.put o.dst undef) w
def mw{ops:Array Oper}{Q:Exit->Act->World->Prop}:∀(l:List Nat)(a:Act)(w:World),vF r P ops Q l a w->∀(b:Frame)(k:List Item)(cs:List Frame),b.roundOf=r->
  ∃e a' w',Q e a' w'∧aby r P (lone (b.atR a (.inRegion ops l::k)) cs w) b k cs e a' w'
 |[],a,w,h,b,k,cs,_=>⟨.normal,a,w,h,ie.2 (.one stepR_region_end)⟩
 |i::rest,a,w,h,b,k,cs,hro=>by
  simp only[vF]at h;cases ho:ops[i]? with
  |none=>simp only[ho]at h;obtain⟨e,a',w',hq,eP⟩:=mw rest a w h b k cs hro;have hs:=stepR_op_skip (P:=P) (b:=b) (a:=a) (k:=k) (cs:=cs) (w:=w) (ops:=ops) (i:=i) (rest:=rest) (by simp[ho]);simp only[ho,QU,Act.put]at hs;exact⟨e,a',w',hq,.of_steps (ie.2 (.one hs)) eP⟩
  |some o=>
   simp only[ho]at h;by_cases hw:Region.wanted o (yielded ops a.tmps)=true
   .simp only[hw,fR]at h;rcases VM (k:=k) (cs:=cs) (rest:=rest) hro ho hw h with⟨a1,w1,hn,hs⟩|hx
    .obtain ⟨e,a',w',hq,eP⟩:=mw rest a1 w1 hn b k cs hro;exact⟨e,a',w',hq,.of_steps (ie.2 hs) eP⟩
    .exact hx
   .simp only[hw,eO,Bool.false_eq_true]at h;obtain⟨e,a',w',hq,eP⟩:=mw rest _ w h b k cs hro;have hs:=stepR_op_skip (P:=P) (b:=b) (a:=a) (k:=k) (cs:=cs) (w:=w) (ops:=ops) (i:=i) (rest:=rest) (by simp[ho];simpa using hw);simp only[ho,Jq]at hs;exact⟨e,a',w',hq,.of_steps (ie.2 (.one hs)) eP⟩
def Vd{ops:Array Oper}{a:Act}{w:World}(h:vF r P ops Q (List.range ops.size) a w):(Code.region id ops false).wpIn (WR r) 0 P Q a w:=
 λb k cs hro _ _=>let ⟨e,a',w',hq,eP⟩:=mw _ a w h b k cs hro;⟨e,a',w',hq,.of_steps (ie.2 (.one stepR_region)) eP⟩
def Bt(r:Option Nat)(P:Program)(ops:Array Oper)(Q:Exit->Act->World->Prop)(i:Nat)(K:Act->World->Prop)(a:Act)(w:World):Prop:=
 match ops[i]? with
 |none=>K a w
 |some o=>if Region.wanted o (yielded ops a.tmps)then X2 r P o a w K Q else K (a.put o.dst undef) w
def Bt.mono{ops:Array Oper}{Q:Exit->Act->World->Prop}{i:Nat}{a:Act}{w:World}{K K':Act->World->Prop}(h:∀a w,K a w->K' a w)(hh:Bt r P ops Q i K a w):Bt r P ops Q i K' a w:=by
 unfold Bt at *
 split
 .rename_i ho;simp only[ho]at hh;exact h _ _ hh
 .rename_i o ho;simp only[ho]at hh;split
  .rename_i hw;simp only[hw,fR]at hh;exact hh.mono h
  .rename_i hw;simp only[hw]at hh;exact h _ _ hh
def abz(r:Option Nat)(P:Program)(ops:Array Oper)(Q:Exit->Act->World->Prop):Nat->Array Bool->Act->World->Prop
 |0,listed,a,w=>Region.ready .any ops listed=[]∧Q .normal a w
 |fuel+1,listed,a,w=>(Region.ready .any ops listed=[]->Q .normal a w)∧
  ∀i∈Region.ready .any ops listed,Bt r P ops Q i (abz r P ops Q fuel (listed.setIfInBounds i true)) a w
def SW{ops:Array Oper}(i:Nat)(rest:List Nat)(a:Act)(w:World):vF r P ops Q (i::rest) a w=Bt r P ops Q i (vF r P ops Q rest) a w:=by cases h:ops[i]?<;>simp[vF,Bt,h]
def FV{ops:Array Oper}{Q:Exit->Act->World->Prop}:∀(fuel t:Nat)(listed:Array Bool)(a:Act)(w:World),abz r P ops Q fuel listed a w->vF r P ops Q (Region.linearise.go .any ops fuel t listed []) a w
 |0,t,listed,a,w,h=>by simpa[Region.linearise.go,vF]using h.2
 |fuel+1,t,listed,a,w,h=>by
  obtain⟨h₀,h₁⟩:=h;simp only[Region.linearise.go];change vF r P ops Q (match(Region.ready .any ops listed)[t%(Region.ready .any ops listed).length]? with
   |some i=>Region.linearise.go .any ops fuel (t/(Region.ready .any ops listed).length) (listed.setIfInBounds i true) [i]
   |none=>[].reverse) a w
  generalize Region.ready .any ops listed=l at *
  cases l with|nil=>simpa[vF]using h₀ rfl|cons x xs=>have hlt:t%(x::xs).length<(x::xs).length:=Nat.mod_lt _ (by simp);rw[gm hlt];dsimp only;rw[linearise_go_acc,List.reverse_singleton,zj,SW];exact(h₁ _ (GK hlt)).mono λa w=>FV fuel _ _ a w
def LB{ops:Array Oper}{a:Act}{w:World}(hm:P.follows .mixedOrders=true)
  (h:abz r P ops Q ops.size (Array.replicate ops.size false) a {w with drawn:=w.drawn+1}):(Code.region id ops true).wpIn (WR r) 0 P Q a w:=by
 intro b k cs hro _ _;have h2:∀t,vF r P ops Q (Region.schedule (P.follows .mixedOrders) ops t) a {w with drawn:=w.drawn+1}:=λt=>by simp only[Region.schedule,hm,Bool.true_or,fR];exact FV ops.size t _ a _ h
 obtain⟨e,a',w',hq,eP⟩:=mw _ a _ (h2 _) b k cs hro;exact⟨e,a',w',hq,.of_steps (ie.2 (.one stepR_region_draw)) eP⟩
def Vb(P:Program)(l:Nat)(R:Ending->World->Prop):Exit->Act->World->Prop
 | .normal,_,w=>∃v w',(Instr.endRound l none).run P w=.ok v w'∧R (.returned v) w'
 | .outgrown,_,w=>R .outgrown w
 |_,_,_=>False
def ac7{l:Nat}{assign body:Code}{w:World}
  (h:assign.wpIn (WR (some l)) 0 P (Exit.then (λa₁ w₁=>∃w₂,(Instr.beginRound l).run P w₁=.ok () w₂∧body.wpIn (WR (some l)) 0 P (Vb P l R) a₁ w₂) (λe _ w=>e=.outgrown∧R .outgrown w)) {tmps:=tmps,defers:=[]} w) {n:Nat} :
  RoundIn (WR r) n P l f tmps assign body w R:=by
 refine⟨trivial,λc cs _=>?_⟩
 let b:Frame:={(default:Frame)with fn:=f,kind:=.normal,roundOf:=some l}
 have hb0:Frame.round l f tmps assign body .normal=b.atR {tmps:=tmps,defers:=[]} [.code assign,.beginRound,.code body]:=by simp[Frame.round,Frame.atR,b]
 obtain⟨e,a₁,w₁,hq,eP⟩:=h b [.beginRound,.code body] (c::cs) rfl trivial (LA _);rw[<-hb0]at eP;have out:∀{e:Exit}{a:Act}{w':World},(e=.outgrown∧R .outgrown w')->aby (some l) P (lone (Frame.round l f tmps assign body .normal) (c::cs) w) b [.beginRound,.code body] (c::cs) e a w'->
   ∃e w',R e w'∧ComesIn (Machine.fenced P (WR r)) P (lone (Frame.round l f tmps assign body .normal) (c::cs) w) (match e with|.returned v=>lone (c.finish v) cs w'|.panicked chain=>lone (c.raise chain) cs w'|.outgrown=>lone c cs w') e:=by
  rintro e a w' ⟨rfl,hR⟩ eP
  exact⟨.outgrown,w',hR,eP.resolve_left (by simp[b])⟩
 cases e with
 |normal=>
  obtain⟨w₂,hbr,hbody⟩:=hq;have s1:Steps P (lone (b.atR a₁ [.beginRound,.code body]) (c::cs) w₁) (lone (b.atR a₁ [.code body]) (c::cs) w₂):=.one (stepR_beginRound rfl hbr);obtain⟨e₂,a₂,w₃,hq₂,Ry⟩:=hbody b [] (c::cs) rfl trivial (LA _);cases e₂ with
  |normal=>obtain⟨v,w₄,hend,hR⟩:=hq₂;exact⟨.returned v,w₄,hR,ie.2 ((ie.1 eP).trans (s1.trans ((ie.1 Ry).trans (.one (stepR_round_end rfl rfl hend)))))⟩
  |outgrown=>exact⟨.outgrown,w₃,hq₂,Outgrown.of_steps ((ie.1 eP).trans s1) (Ry.resolve_left (by simp[b]))⟩
  |_=>exact hq₂.elim
 |_=>exact out hq eP
def og(P:Program)(fn:Func)(tmps:Array Value)(R:Ending->World->Prop):List Deferred->FrameMode->World->Prop
 |[],.returning,w=>∃v,(results fn tmps).run P w=.ok v w∧R (.returned v) w
 |[],.panicking chain,w=>R (.panicked chain) w
 |[],.run,_=>False
 |d::ds,u,w=>u≠.run∧((∃b w',d.target=.collected b∧(Instr.takeDeferred b).run P w=.ok [] w'∧og P fn tmps R ds u w')∨
   ∃fv cap f args,d.target=.fn fv cap∧(invoke d.target d.args).run P w=.ok (.enter f args) w∧CallsD P f args u w λ
    | .returned _,u',w'=>og P fn tmps R ds (settle u') w'
    | .panicked chain,u',w'=>og P fn tmps R ds (raised u' chain) w'
    | .outgrown,_,w'=>R .outgrown w')
def qG:∀(ds:List Deferred)(u:FrameMode)(w:World)(fr:Frame)(cs:List Frame),fr.mode=u->fr.defers=ds->fr.tmps=tmps->P.funcs[fr.fn]?=some fn->fr.kind=.normal->og P fn tmps R ds u w->
  ∃e w' fr',R e w'∧Comes P (lone fr cs w) (lone fr' cs w') e∧fr'.fn=fr.fn∧fr'.leaving P w' e:=by
 intro ds
 induction ds with
 |nil=>
  intro u w fr cs hu hd ht hf hk h;cases u with
  |run=>exact h.elim
  |returning=>obtain⟨v,hr,hR⟩:=h;exact⟨.returned v,w,fr,hR,Steps.refl P _,rfl,hu,hd,hk,fn,hf,ht▸hr⟩
  |panicking chain=>exact⟨.panicked chain,w,fr,h,Steps.refl P _,rfl,hu,hd,fn,hf⟩
 |cons d ds ih=>
  intro u w fr cs hu hd ht hf hk h;obtain⟨hrun,h⟩:=h;rcases h with⟨b,w',adK,xd,kA⟩|⟨fv,cap,f,args,adK,hinv,dU⟩
  .have h1:=step_collected (cs:=cs) (hu▸hrun) hd adK xd;obtain⟨e',w2,fr',hR,hs,hfn,hl⟩:=ih u w' {fr with defers:=[]++ds} cs hu rfl ht hf hk kA;exact⟨e',w2,fr',hR,Comes.of_steps (.one h1) hs,hfn,hl⟩
  .have h1:=step_defer (cs:=cs) (hu▸hrun) hd adK hinv;obtain⟨e,u',w',frX,hR,mC,hkX,UD⟩:=dU {fr with defers:=ds} cs hu;cases e with
   |returned v=>have h2:=step_going_returned (c:={{fr with defers:=ds}with mode:=u'}) (cs:=cs) hkX UD;obtain⟨e',w2,fr',hR',hs',aaC,hl'⟩:=ih (settle u') w' {{{fr with defers:=ds}with mode:=u'}with mode:=settle u'} cs rfl rfl ht hf hk hR;exact⟨e',w2,fr',hR',Comes.of_steps (.head h1 (Steps.trans mC (.one h2))) hs',aaC,hl'⟩
   |panicked chain=>have h2:=step_going_panicked (c:={{fr with defers:=ds}with mode:=u'}) (cs:=cs) UD;obtain⟨e',w2,fr',hR',hs',aaC,hl'⟩:=ih (raised u' chain) w' {{{fr with defers:=ds}with mode:=u'}with mode:=raised u' chain} cs rfl rfl ht hf hk hR;exact⟨e',w2,fr',hR',Comes.of_steps (.head h1 (Steps.trans mC (.one h2))) hs',aaC,hl'⟩
   |outgrown=>exact⟨.outgrown,w',fr,hR,Outgrown.of_steps (.one h1) mC,rfl,trivial⟩
def acg(P:Program)(fn:Func)(R:Ending->World->Prop):Exit->Act->World->Prop
 | .normal,a,w|.ret,a,w=>og P fn a.tmps R a.defers .returning w
 | .panic chain,a,w=>og P fn a.tmps R a.defers (.panicking chain) w
 | .outgrown,_,w=>R .outgrown w
 |_,_,_=>False
def xm{c:Code}{w:World}(hf:P.funcs[f]?=some fn)(hb:fn.body=some c)
  (h:c.wpIn (WR none) 0 P (acg P fn R) {tmps:=args++Array.replicate (fn.ntmps-args.size) undef,defers:=[]} w):Calls P f args w R:=by
 intro cs
 let b:Frame:={(default:Frame)with fn:=f,kind:=.normal}
 have JY:Frame.enter P f args .normal=b.at {tmps:=args++Array.replicate (fn.ntmps-args.size) undef,defers:=[]} [.code c]:=by simp[Frame.enter,Frame.at,hf,hb,b]
 obtain⟨e,a',w',hq,eP⟩:=wpIn_wide.1 h b [] cs;rw[<-JY]at eP;cases e with
 |normal=>obtain⟨e',w2,fr',hR,hs,hfn,hl⟩:=qG a'.defers .returning w' {b.at a' []with mode:=.returning} cs rfl rfl rfl hf rfl hq;exact⟨e',w2,fr',hR,Comes.of_steps (Steps.trans eP (.one step_end)) hs,hfn,hl⟩
 |ret=>obtain⟨todo,hs₀⟩:=eP;obtain⟨e',w2,fr',hR,hs,hfn,hl⟩:=qG a'.defers .returning w' {b.at a' todo with mode:=.returning} cs rfl rfl rfl hf rfl hq;exact⟨e',w2,fr',hR,Comes.of_steps hs₀ hs,hfn,hl⟩
 |panic chain=>obtain⟨todo,hs₀⟩:=eP;obtain⟨e',w2,fr',hR,hs,hfn,hl⟩:=qG a'.defers (.panicking chain) w' {b.at a' todo with mode:=.panicking chain} cs rfl rfl rfl hf rfl hq;exact⟨e',w2,fr',hR,Comes.of_steps hs₀ hs,hfn,hl⟩
 |exit id=>exact hq.elim
 |goto l=>exact hq.elim
 |outgrown=>exact⟨.outgrown,w',b,hq,eP.resolve_left (by simp[b]),rfl,trivial⟩
end
end
section
section
variable {g:Gh}{w:World}
variable {s:St}{E:Env}{fr:Fr}{a:Act}
def OE{i:TI}{x:T}{vx:Value}{r:Prop×T×St}(h:loadT i s x=some r)(hx:aJ g w x vx):∃ad,vx=.pointer (some ad):=by cases hx with|ptr o off b hb=>exact⟨_,rfl⟩|mV=>exact⟨_,rfl⟩|kL=>exact⟨_,rfl⟩|_=>simp[loadT]at h
def SH(tmps:Array Value):ResultVar->Sem Value
 | .tmp t=>pure (tmps.getD t undef)
 | .cell a t=>do loadVar t (<-asAddr (tmps.getD a undef))
def oL{E:Env}(hE:Ai E){fr:Fr}{s:St}{a:Act}(hf:cE g fr a w)(hs:bg g s w):∀{l:List ResultVar}{p:Prop}{ts:List T},kq E s fr l=some (p,ts)->p->
  ∃vs,(l.mapM (SH a.tmps)).run E.P w=.ok vs w∧PW (aJ g w) ts vs
 |[],p,ts,h,hp=>by simp only[kq,bf,bB]at h;obtain⟨_,rfl⟩:=h;exact⟨[],rfl,rfl,λj t v h=>by simp at h⟩
 | .tmp t::l,p,ts,h,hp=>by
  simp only[kq]at h;split at h
  .rename_i x q r hx hr;simp only[bf,bB]at h;obtain⟨rfl,rfl⟩:=h;obtain⟨vs,h1,h2⟩:=oL hE hf hs hr hp;obtain⟨v,hv,ht⟩:=hf.tm t x hx;refine⟨v::vs,?_,by simp[h2.1],λj t' v' k1 k2=>?_⟩
   .have e:(SH a.tmps (.tmp t)).run E.P w=.ok v w:=by simp[SH,Vh,hv]
    simp[List.mapM_cons,h1,e]
   .cases j with|zero=>simp at k1 k2;subst k1;subst k2;exact ht|succ j=>exact h2.2 j t' v' (by simpa using k1) (by simpa using k2)
  .cases h
 | .cell ad t::l,p,ts,h,hp=>by
  simp only[kq]at h;split at h
  .rename_i i x hi hx;split at h
   .rename_i q y s' r ys hy hr;simp only[bf,bB]at h;obtain⟨rfl,rfl⟩:=h;obtain⟨vs,h1,h2⟩:=oL hE hf hs hr hp.2;obtain⟨v,hv,ht⟩:=hf.tm ad x hx;obtain⟨u,hu,htu,_⟩:=Ce (hE.ti _ _ hi) hs ht hy hp.1;obtain⟨aa,rfl⟩:=OE hy ht;have Gy:(loadVar t aa).run E.P w=.ok u w:=by simpa[Instr.loadAt,Instr.sureAddr]using hu
    refine⟨u::vs,?_,by simp[h2.1],λj t' v' k1 k2=>?_⟩
    .have e:(SH a.tmps (.cell ad t)).run E.P w=.ok u w:=by simp[SH,Vh,hv,asAddr,Gy]
     simp[List.mapM_cons,h1,e]
    .cases j with|zero=>simp at k1 k2;subst k1;subst k2;exact htu|succ j=>exact h2.2 j t' v' (by simpa using k1) (by simpa using k2)
   .cases h
  .cases h
def Lx(hE:Ai E)(hf:cE g fr a w)(hs:bg g s w){fn:Func}{p:Prop}{ts:List T}(h:kq E s fr fn.results.toList=some (p,ts))(hp:p) :
  ∃v,(results fn a.tmps).run E.P w=.ok v w∧aJ g w (acY ts) v:=by
 obtain⟨vs,h1,h2⟩:=oL hE hf hs h hp;refine⟨if h:vs.toArray.size=1 then vs.toArray[0]else .tuple vs.toArray,?_,?_⟩
 .have e:results fn a.tmps=(do
    let vs <-fn.results.mapM (SH a.tmps)
    pure (if h:vs.size=1 then vs[0]else .tuple vs)):=by
   unfold results
   congr 2
  rw[e];simp only[Array.mapM_eq_mapM_toList];simp[h1]
 .match ts,vs,h2 with
  |[],[],_=>exact .gq _ _ rfl (λj t v h=>by simp at h)
  |[t],[v],h2=>exact h2.2 0 t v rfl rfl
  |t::t'::ts,v::v'::vs,h2=>simp only[acY,LY,fI];rw[dif_neg (by omega)];exact .gq _ _ (by simpa using h2.1) (λj t v h3 h4=>h2.2 j t v h3 (by simpa using h4))
  |[],_::_,h2=>exact absurd h2.1 (by simp)
  |_::_,[],h2=>exact absurd h2.1 (by simp)
  |[_],_::_::_,h2=>exact absurd h2.1 (by simp)
  |_::_::_,[_],h2=>exact absurd h2.1 (by simp)
def EP:∀(l:List T)(k:Nat)(t:Tr T),k+l.length<=bA->∀j,(AT l k t).get j=if k<=j∧j<k+l.length then l[j-k]? else t.get j
 |[],k,t,_,j=>by
  have:¬(k<=j∧j<k+([]:List T).length):=by simp
  rw[bw this];rfl
 |a::l,k,t,h,j=>by
  simp only[fI]at h;simp only[AT];rw[EP l (k+1) _ (by omega),Tr.aT _ _ _ _ (by omega)];simp only[fI];by_cases h1:k+1<=j∧j<k+1+l.length
  .rw[bL h1,bL (by omega)];have:j-k=(j-(k+1))+1:=by omega
   rw[this];simp
  .rw[bw h1];by_cases h2:j=k
   .rw[bL h2,bL (by omega)];subst h2;simp
   .rw[bw h2,bw (by omega)]
end
end
end TL
end
end
