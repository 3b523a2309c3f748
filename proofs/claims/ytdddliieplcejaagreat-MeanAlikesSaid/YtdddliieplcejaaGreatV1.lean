import GoSem.Dispatch
import GoSem.Machine.Return
import Derived.Calls
import Derived.RowKit
import Derived.WalkKit
import Derived.Deep.AppendSrc
import Derived.Laws.StructEq
import Derived.Room.AppendAny
import Derived.RangeFuncIn
import Derived.RangeFuncLeaves
import Derived.RangeFuncRecord
import Derived.Orders
set_option linter.all false
set_option maxRecDepth 100000
set_option maxHeartbeats 0
noncomputable section
open Option renaming some->Z,none->Y
open Bool renaming true->W,false->J
section
namespace TL
section
abbrev O:=@Option
abbrev L:=@List
abbrev U:=Unit
abbrev aV:=@Option.some.injEq
abbrev bq:=@Prod.mk.injEq
abbrev ec:=@Option.map_eq_some_iff
abbrev eS:=@List.getElem?_eq_getElem
abbrev eN:=@Nat.le_of_ble_eq_true
abbrev dI:=@Bool.and_eq_true
abbrev gp:=@List.mem_append_right
abbrev gl:=@List.mem_cons_of_mem
abbrev bK:=@if_neg
abbrev gN:=@Nat.lt_of_lt_of_le
abbrev dH:=@List.mem_append_left
abbrev bS:=@Nat.le_refl
abbrev aY:=@if_pos
abbrev dX:=@List.mem_cons_self
abbrev dy:=@List.mem_append
abbrev dG:=@Option.map_some
abbrev dU:=@List.all_eq_true
abbrev cn:=@cond_true
abbrev dF:=@Bool.true_and
abbrev er:=@Int.natCast_add
abbrev ep:=@Int.natCast_one
abbrev ew:=@Option.some.inj
abbrev gk:=@List.mem_of_getElem?
abbrev cM:=@cond_false
abbrev eP:=@decide_eq_false
abbrev ez:=@decide_eq_true
abbrev ej:=@List.mem_cons
abbrev jO:=@List.getD_eq_getElem?_getD
abbrev gj:=@List.getElem?_map
abbrev fu:=@Bool.false_and
abbrev gi:=@List.length_cons
abbrev eO:=@Nat.le_trans
abbrev nT:=@Array.getElem?_eq_getElem
abbrev ir:=@Bool.or_eq_true
abbrev kR:=@List.getElem?_append
abbrev qU:=@List.eq_nil_of_length_eq_zero
abbrev ko:=@List.mem_singleton
abbrev kj:=@decide_eq_true_eq
abbrev mV:=@Nat.eq_of_beq_eq_true
abbrev sv:=@List.getElem?_eq_some_iff
abbrev jh:=@List.map_cons
abbrev qT:=@List.getElem?_cons_zero
abbrev qS:=@Option.bind_eq_some_iff
abbrev oJ:=@List.getElem_of_mem
abbrev mE:=@List.take_length
abbrev nS:=@List.append_assoc
abbrev qR:=@List.pairwise_append
abbrev mD:=@List.append_nil
abbrev mC:=@List.length_map
abbrev su:=@List.length_append
abbrev uG:=@Nat.mul_le_mul_right
abbrev qh:=@List.length_take
abbrev lY:=@Nat.zero_add
abbrev vT:=@Bool.or_eq_false_iff
abbrev uF:=@List.getElem?_take
abbrev uE:=@List.mem_filterMap
abbrev wX:=@List.contains_eq_mem
abbrev yB:=@Bool.and_eq_true_iff
abbrev Av:=@Nat.ble_eq_true_of_le
abbrev GN:=@List.mem_zipIdx_iff_getElem?
abbrev GM:=@Array.getElem?_eq_some_iff
abbrev BJ:=@List.contains_iff_mem
abbrev vS:=@List.map_append
abbrev Au:=@List.getElem?_drop
abbrev sr:=@List.mem_map
abbrev Ek:=@List.singleton_append
abbrev As:=@Bool.not_eq_true'
abbrev Ar:=@of_decide_eq_true
abbrev wW:=@Nat.testBit_or
abbrev vR:=@Bool.and_true
abbrev Aq:=@Option.getD_some
abbrev Ej:=@Array.toList_append
abbrev GL:=@List.getElem?_zipWith
abbrev IM:=@decide_eq_false_iff_not
abbrev vQ:=@Nat.mul_comm
abbrev IL:=@List.getElem?_set_self
abbrev BI:=@List.getElem_mem
abbrev oI:=@congrArg
abbrev Lo:=@List.pairwise_iff_getElem
abbrev IK:=@List.length_singleton
abbrev Ap:=@Bool.and_false
abbrev BH:=@List.length_set
abbrev IJ:=@List.getElem?_set_ne
abbrev GK:=@List.getElem?_set
abbrev II:=@List.map_congr_left
abbrev IG:=@Int.toNat_of_nonneg
abbrev Ei:=@List.nil_append
abbrev Eh:=@List.nodup_cons
abbrev Ln:=@List.getElem?_eq_none
abbrev Lm:=@List.getElem?_toArray
abbrev Ll:=@List.take_append_drop
abbrev GJ:=@Option.bind_some
abbrev yA:=@Nat.zero_le
abbrev BG:=@Bool.not_true
abbrev qg:=@if_true
abbrev Pm:=@Classical.axiomOfChoice
abbrev RL:=@Array.getD_eq_getD_getElem?
abbrev Lj:=@List.getElem?_range
abbrev Ao:=@Nat.add_mul
abbrev Pj:=@Array.getElem?_toList
abbrev I0:=@Option.filter_eq_some_iff
abbrev sN:=@Nat.one_mul
abbrev uW:=@Nat.lt_or_ge
abbrev Fa:=@List.getElem?_of_mem
abbrev E9:=@List.mem_of_mem_take
abbrev zF:=@List.foldl_cons
abbrev BQ:=@List.nodup_append
abbrev E8:=@Array.length_toList
abbrev E7:=@List.length_pos_iff
abbrev BP:=@List.length_drop
abbrev zE:=@Bool.not_false
abbrev IZ:=@List.length_eq_one_iff
abbrev wZ:=@Nat.add_zero
abbrev wY:=@Nat.le_of_eq
abbrev nU:=@Iff.rfl
abbrev BO:=@List.length_nil
abbrev NN:=@List.exists_cons_of_ne_nil
abbrev NM:=@List.getElem?_append_right
abbrev NL:=@List.drop_eq_getElem_cons
abbrev NK:=@List.mem_or_eq_of_mem_set
abbrev NJ:=@List.getElem?_append_left
abbrev NI:=@Classical.byContradiction
abbrev BN:=@Option.map_map
abbrev Si:=@List.take_succ_eq_append_getElem
abbrev Sf:=@Array.getElem?_setIfInBounds_ne
abbrev BM:=@List.all_cons
abbrev IY:=@decide_eq_true_iff
abbrev zC:=@Nat.le_succ
abbrev IX:=@List.ext_getElem?
abbrev IW:=@List.size_toArray
abbrev NH:=@Array.getElem?_append
abbrev BL:=@Nat.le_of_lt
abbrev NG:=@Nat.div_lt_of_lt_mul
abbrev IV:=@List.any_eq_true
abbrev E6:=@Bool.and_self
abbrev E5:=@Bool.false_or
abbrev NF:=@Array.getElem?_push
abbrev IU:=@List.cons.injEq
abbrev Se:=@List.extract_eq_take_drop
abbrev IT:=@List.all_append
abbrev IS:=@Bool.eq_iff_iff
abbrev E4:=@Nat.beq_refl
abbrev E3:=@List.map_set
abbrev Sb:=@List.eq_of_mem_replicate
abbrev ND:=@List.set_cons_zero
abbrev E2:=@List.map_nil
abbrev E1:=@Nat.sub_self
abbrev BK:=@Array.ext'
abbrev IQ:=@List.mem_range
abbrev IP:=@List.drop_drop
abbrev Sa:=@Array.toList_eq_nil_iff
abbrev NC:=@Int.toNat_natCast
abbrev NB:=@Nat.lt_succ_of_le
abbrev NA:=@List.any_eq_false
abbrev Nz:=@List.flatMap_cons
abbrev IN:=@Nat.mul_assoc
abbrev Ny:=@Option.bind_none
abbrev Nx:=@Array.toList_map
open Go
inductive Tr(α:Type) where
 |nil
 |node (v:Option α) (l r:Tr α)
 deriving Inhabited
namespace Tr
variable {α:Type}
def get:Tr α->Nat->O α
 | .nil,_=>Y
 | .node v l r,k=>match k with
  |0=>v
  |k+1=>match Nat.beq (Nat.mod k 2) 0 with
   |true=>l.get (Nat.div k 2)
   |false=>r.get (Nat.div k 2)
def set:Nat->Tr α->Nat->α->Tr α
 |0,t,_,_=>t
 |n+1,.nil,k,x=>match k with
  |0=>.node (Z x) .nil .nil
  |k+1=>match Nat.beq (Nat.mod k 2) 0 with
   |true=>.node Y (set n .nil (Nat.div k 2) x) .nil
   |false=>.node Y .nil (set n .nil (Nat.div k 2) x)
 |n+1,.node v l r,k,x=>match k with
  |0=>.node (Z x) l r
  |k+1=>match Nat.beq (Nat.mod k 2) 0 with
   |true=>.node v (set n l (Nat.div k 2) x) r
   |false=>.node v l (set n r (Nat.div k 2) x)
end Tr
def mG:IntKind->IntKind->Bool
 | .i8,.i8|.i16,.i16|.i32,.i32|.i64,.i64|.u8,.u8|.u16,.u16|.u32,.u32|.u64,.u64=>W
 |_,_=>J
def bU{α:Type}:L α->Nat
 |[]=>0
 |_::l=>Nat.succ (bU l)
def nth{α:Type}:L α->Nat->O α
 |[],_=>Y
 |a::_,0=>Z a
 |_::l,k+1=>nth l k
inductive D where
 |lit (v:Value)
 |sl (es:List D)
 |agg (cs:List D)
 |cE (t:TypeId) (d:D)
 |fQ (ds:List D)
 deriving Inhabited
namespace D
def toInt:D->Int|.lit (.int _ n)=>n|_=>0
def isInt(k:IntKind):D->Bool|.lit (.int j _)=>mG j k|_=>J
def toBool:D->Bool|.lit (.bool b)=>b|_=>J
def isBool:D->Bool|.lit (.bool _)=>W|_=>J
def toStr:D->ByteArray|.lit (.string b)=>b|_=>.empty
def isStr:D->Bool|.lit (.string _)=>W|_=>J
def YI:D->L D|.sl es=>es|_=>[]
def acG:D->Bool|.sl _=>W|_=>J
def cells:D->L D|.agg cs=>cs|d=>[d]
def cell(d:D)(j:Nat):D:=d.cells.getD j (.lit (.tuple #[]))
def leaf:D->Bool
 | .agg _|.fQ _=>J
 | .lit (.agg _)|.lit (.tuple _)=>J
 |_=>W
def isAgg(n:Nat):D->Bool|.agg cs=>Nat.beq (bU cs) n&&cs.all leaf|_=>J
def proj:D->Nat->D|.fQ ds,k=>ds.getD k (.lit (.tuple #[]))|_,_=>.lit (.tuple #[])
def Z7(n:Nat):D->Bool|.fQ ds=>Nat.blt n (bU ds)|_=>J
def acH:D->Bool|.cE _ _=>W|_=>J
def el(es:L D)(i:Nat):D:=es.getD i (.lit (.tuple #[]))
def len(es:L D):Int:=es.length
def En(n:Int)(len:Int):Prop:=0<=n∧n<len
def cut(lo a len:Int):Prop:=0<=lo∧lo<=a∧a<=len
def has(d:D)(m:Nat):Prop:=m<=d.cells.length
def wide(d:D)(m:Nat):Prop:=d.cells.length=m
def sub(es:L D)(lo a:Int):L D:=(es.take a.toNat).drop lo.toNat
def Vq(b:ByteArray)(lo a:Int):ByteArray:=b.extract lo.toNat a.toNat
def Bp(b:ByteArray):Int:=b.size
def sat(b:ByteArray)(n:Int):Int:=(b.get! n.toNat).toNat
def Vs(a b:ByteArray):Prop:=a.size+b.size<=4611686018427387904
def Rz(a b:ByteArray):ByteArray:=a++b
def app(a b:L D):L D:=a++b
def put(es:L D)(k:Nat)(d:D):L D:=es.set k d
def rows(es:L D)(sz:Nat):Prop:=∀d∈es,d.cells.length=sz
def lby:D->Nat
 | .lit (.string _)|.lit .nilIface|.cE _ _=>16
 | .sl _|.lit (.slice ..)=>24
 |_=>8
def lX:L D->Nat
 |[]=>0
 |d::l=>Nat.add d.lby (lX l)
def pZ:D->Nat
 | .agg a=>lX a
 | .lit (.bool _)=>1
 | .lit (.int .i8 _)|.lit (.int .u8 _)=>1
 | .lit (.int .i16 _)|.lit (.int .u16 _)=>2
 | .lit (.int .i32 _)|.lit (.int .u32 _)=>4
 |d=>d.lby
def flat(d:D):Bool:=d.cells.all leaf
def Q8(es:L D)(b:Nat):Prop:=∀d∈es,d.pZ=b∧d.flat=W
def nat(n:Int):Nat:=n.toNat
def zero:Int:=0
def add(k:IntKind)(a b:Int):Int:=k.wrap (a+b)
def eD(k:IntKind)(a b:Int):Int:=k.wrap (a-b)
def mul(k:IntKind)(a b:Int):Int:=k.wrap (a*b)
def neg(k:IntKind)(a:Int):Int:=k.wrap (-a)
def conv(k:IntKind)(a:Int):Int:=k.wrap a
def rem(a b:Int):Int:=a.tmod b
def quo(k:IntKind)(a b:Int):Int:=k.wrap (a.tdiv b)
def nz(a:Int):Prop:=a≠0
def aH(a b:Int):Bool:=a==b
def beq(a b:Bool):Bool:=a==b
def seq(a b:ByteArray):Bool:=a==b
def bM(a b:Int):Bool:=decide (a<b)
def eu(a b:Int):Bool:=decide (a<=b)
def aej(c a b:Bool):Bool:=if c then a else b
def aK(a:Bool):Bool:=!a
def eJ(a b:Bool):Bool:=a&&b
def Nj(d:D)(off:Nat)(l:L D):D:=match d with
 | .agg a=>.agg (a.take off++l++a.drop (off+l.length))
 |d=>l.getD 0 d
def Np(d:D)(sz off n:Nat):Prop:=d.isAgg sz=W∨(d.leaf=W∧sz=1∧off=0∧n=1)
end D
inductive T where
 |sym (d:D)
 |kb (b:Bool)
 |kn (k:IntKind) (n:Int)
 |ptr (o off:Nat)
 |lR (d:D) (off:Nat)
 |jV (o e i off:Nat)
 |sh (o e:Nat)
 |emp
 |ja (n:Nat) (es:List D)
 |fn (f:Fn) (first cap:List T)
 |cE (t:TypeId) (v:T)
 |agg (cs:List T)
 |fQ (vs:List T)
 |gd (c:Bool) (v:T)
 |mp (o:Nat)
 |pz (o:Nat)
 |qF (o:Nat)
 |ub (e:Bool)
 |pL (o m r i:Nat)
 |nk (j:Nat) (d:D)
 deriving Inhabited
inductive Df where
 |call (f:T) (args:List T)
 |mark (o:Nat)
 |marks (o:Nat)
 |jc
 |bad
 deriving Inhabited
def Df.one:Df->Bool
 | .marks _|.jc=>J
 |_=>W
structure Fr where
 n:Nat
 tm:Tr T
 df:List Df:=[]
 deriving Inhabited
structure Lp where
 st:LoopState
 sw:Option Code
 fid:FuncId
 fr:Fr
 params:List Nat
 assign:Code
 body:Code
inductive Ob where
 |box (cs:List T)
 |arr (sz:Nat) (es:List D) (era:Nat)
 |jC (sz:Nat) (es:List D) (era:Nat)
 |map (es:List (T×T))
 |oG (b:ByteArray) (pos:Nat)
 |lp (l:Lp)
 |wE
 |jL (nj sz:Nat) (es:List D) (era m gf:Nat) (hole:Option Nat)
 |rws (sz:Nat) (gO:List (List D)) (gf:Nat)
 |gone
 |Cj
 deriving Inhabited
def Ob.mQ:Ob->Bool
 | .arr ..|.jC ..|.jL ..|.rws ..|.gone|.Cj=>W
 |_=>J
def Ob.isA:Ob->Bool
 | .arr ..|.jC ..=>W
 |_=>J
def Ob.odd:Ob->Bool
 | .map _|.oG _ _|.lp _|.wE=>W
 |_=>J
structure St where
 ob:Tr Ob
 au:Nat
 fl:Nat
 lo:Nat
 deriving Inhabited
def aA:Nat:=64
def bg:Nat:=1000000000
def Fr.get(fr:Fr)(k:Nat):O T:=fr.tm.get k
def Fr.put(fr:Fr)(k:Nat)(v:T):Fr:={fr with tm:=fr.tm.set aA k v}
def Fr.iO(fr:Fr)(k:O Nat)(v:T):Fr:=match k with|some k=>fr.put k v|none=>fr
inductive Lk where
 |int (k:IntKind)|bool|str|no
 deriving DecidableEq,Inhabited
inductive Kd where
 |leaf (l:Lk)
 |ptr
 |slice (sz:Nat) (agg:Bool) (pZ:Nat) (zero:List D)
 |struct (fs:List (Nat×Nat×Bool))
 |array (len sz:Nat) (agg:Bool)
 |iface
 |other
 deriving Inhabited
structure TI where
 size:Nat
 agg:Bool
 zero:List D
 lks:List Lk
 kd:Kd
 deriving Inhabited
structure KI where
 pre:List D->Prop
 f:List D->D
structure Env where
 P:Program
 ti:Nat->Option TI
 Od:Nat->Option Func
 Es:Nat->Option KI
def zN:Value->O D
 | .bool b=>Z (.lit (.bool b))
 | .int k n=>Z (.lit (.int k n))
 | .string s=>Z (.lit (.string s))
 | .pointer Y=>Z (.lit (.pointer Y))
 | .map Y=>Z (.lit (.map Y))
 | .nilFunc=>Z (.lit .nilFunc)
 | .nilIface=>Z (.lit .nilIface)
 | .tuple a=>match a.toList with
  |[]=>Z (.lit (.tuple #[]))
  |_=>Y
 |_=>Y
def ofConst:Value->O T
 | .bool b=>Z (.kb b)
 | .int k n=>Z (.kn k n)
 | .slice Y 0 0=>Z .emp
 | .func f a b=>match a.toList,b.toList with
  |[],[]=>Z (.fn f [] [])
  |_,_=>Y
 | .iface t v=>(zN v).map λd=>.sym (.cE t d)
 |v=>(zN v).map .sym
def nY:D->T
 | .lit (.bool b)=>.kb b
 | .lit (.int k n)=>.kn k n
 | .sl []=>.emp
 |d=>.sym d
def T.leaf:T->Prop
 | .sym d=>d.leaf=W
 | .agg _|.fQ _|.gd _ _=>False
 |_=>True
def ij(i:TI):T->O (Prop×L T)
 | .agg a=>bif i.agg&&Nat.beq (bU a) i.size then Z (True,a)else Y
 | .sym d=>
  bif i.agg then Z (d.isAgg i.size=W,(List.range i.size).map λj=>.sym (d.cell j))
  else bif Nat.beq i.size 1 then Z (d.leaf=W,[.sym d])else Y
 | .fQ _|.gd _ _=>Y
 |t=>bif i.agg then Y else bif Nat.beq i.size 1 then Z (True,[t])else Y
def sP(agg:Bool)(cs:L T):O T:=
 bif agg then Z (.agg cs)else match cs with
  |[x]=>Z x
  |_=>Y
def iQ(fr:Fr):Operand->O T
 | .tmp k=>fr.get k
 | .const v=>ofConst v
 | .global _=>Y
 | .func f=>Z (.fn (.func f) [] [])
def uY(fr:Fr):L Operand->O (L T)
 |[]=>Z []
 |x::l=>match iQ fr x,uY fr l with
  |some t,Z r=>Z (t::r)
  |_,_=>Y
def sA(k:IntKind):T->O (Prop×Int)
 | .kn j n=>bif mG j k then Z (True,n)else Y
 | .sym d=>Z (d.isInt k=W,d.toInt)
 |_=>Y
def vu:T->O (Prop×Bool)
 | .kb b=>Z (True,b)
 | .sym d=>Z (d.isBool=W,d.toBool)
 |_=>Y
def vK:T->O (Prop×ByteArray)
 | .sym d=>Z (d.isStr=W,d.toStr)
 |_=>Y
def qc(s:St):T->O (Prop×L D)
 | .emp=>Z (True,[])
 | .ja _ a=>Z (True,a)
 | .nk _ d=>Z (True,[d])
 | .sym d=>Z (d.acG=W,d.YI)
 | .sh o e=>match s.ob.get o with
  |some (.arr _ a era)|some (.jC _ a era)=>bif Nat.beq e era then Z (True,a)else Y
  |_=>Y
 |_=>Y
def xz(nj:Nat)(d:D)(a:L D):D:=.agg (d.cells.set nj (.sl a))
def iw(nj:Nat)(es:L D)(gO:L (L D)):L D:=List.zipWith (xz nj) es gO
def Ed(s:St)(m r:Nat):O (L (L D)):=match s.ob.get m with
 |some (.rws _ a b)=>bif Nat.beq r b then Z a else Y
 |_=>Y
mutual
def ud(s:St):T->O (Prop×D×L Nat)
 | .sym d=>Z (True,d,[])
 | .kb b=>Z (True,.lit (.bool b),[])
 | .kn k n=>Z (True,.lit (.int k n),[])
 | .emp=>Z (True,.sl [],[])
 | .ja _ a=>Z (True,.sl a,[])
 | .nk _ d=>Z (True,.sl [d],[])
 | .sh o e=>match s.ob.get o with
  |some (.arr _ a era)=>bif Nat.beq e era then Z (True,.sl a,[o])else Y
  |some (.jC _ a era)=>bif Nat.beq e era then Z (True,.sl a,[])else Y
  |some (.jL g _ a era m r Y)=>match Ed s m r with
   |some c=>bif Nat.beq e era&&Nat.blt m bg then Z (True,.sl (iw g a c),[o,m])else Y
   |none=>Y
  |_=>Y
 | .cE t v=>match ud s v with
  |some (p,d,os)=>Z (p,.cE t d,os)
  |none=>Y
 | .agg f=>match kQ s f with
  |some (p,ds,os)=>Z (p∧ds.all D.leaf=W,.agg ds,os)
  |none=>Y
 | .fQ f=>match kQ s f with
  |some (p,ds,os)=>Z (p,.fQ ds,os)
  |none=>Y
 |_=>Y
def kQ(s:St):L T->O (Prop×L D×L Nat)
 |[]=>Z (True,[],[])
 |t::l=>match ud s t,kQ s l with
  |some (p,d,os),Z (q,ds,a)=>Z (p∧q,d::ds,os++a)
  |_,_=>Y
end
def freeze(s:St):L Nat->O St
 |[]=>Z s
 |o::l=>
  bif Nat.ble s.fl o then match s.ob.get o with
   |some (.arr sz a era)=>freeze {s with ob:=s.ob.set aA o (.jC sz a era)} l
   |some (.jC _ _ _)=>freeze s l
   |some (.jL c sz a era m r Y)=>match Ed s m r with
    |some b=>bif l.contains m&&(Nat.ble s.fl m&&Nat.blt m bg)then freeze {s with ob:=(s.ob.set aA m .gone).set aA o (.jC sz (iw c a b) era)} l else Y
    |none=>Y
   |some (.rws ..)=>freeze s l
   |some .gone=>freeze s l
   |_=>Y
  else Y
def dO(s:St)(o:Ob):Nat×St:=(s.au,{s with ob:=s.ob.set aA s.au o,au:=Nat.succ s.au})
def om:Lk->T->T->O (Prop×Bool)
 | .int k,a,b=>match sA k a,sA k b with
  |some (p,x),Z (q,y)=>Z (p∧q,D.aH x y)
  |_,_=>Y
 | .bool,a,b=>match vu a,vu b with
  |some (p,x),Z (q,y)=>Z (p∧q,D.beq x y)
  |_,_=>Y
 | .str,a,b=>match vK a,vK b with
  |some (p,x),Z (q,y)=>Z (p∧q,D.seq x y)
  |_,_=>Y
 | .no,_,_=>Y
def iY:L Lk->L T->L T->O (Prop×Bool)
 |[],[],[]=>Z (True,W)
 |k::c,a::as,b::d=>match om k a b,iY c as d with
  |some (p,x),Z (q,y)=>Z (p∧q,D.eJ x y)
  |_,_=>Y
 |_,_,_=>Y
def X1:T->T->O (Prop×Bool)
 | .sym (.lit (.pointer Y)),.ptr _ _=>Z (True,J)
 | .ptr _ _,.sym (.lit (.pointer Y))=>Z (True,J)
 |_,_=>Y
def X2:T->T->O (Prop×Bool)
 | .sym (.lit .nilIface),.cE _ _=>Z (True,J)
 | .cE _ _,.sym (.lit .nilIface)=>Z (True,J)
 |_,_=>Y
def EF(s:St)(o e:Nat):O (Nat×L D):=
 match s.ob.get o with
 |some (.arr sz a era)=>bif Nat.beq e era then Z (sz,a)else Y
 |some (.jC sz a era)=>bif Nat.beq e era then Z (sz,a)else Y
 |_=>Y
def mP(i:TI)(d:D)(off:Nat):O T:=
 bif i.agg then Z (.agg ((List.range i.size).map λj=>.sym (d.cell (Nat.add off j))))
 else bif Nat.beq i.size 1 then Z (.sym (d.cell off))else Y
abbrev QS:=O (Prop×T×St)
def Nk:T:=.sym (.lit (.tuple #[]))
def loadT(i:TI)(s:St):T->QS
 | .ptr o off=>match s.ob.get o with
  |some (.box b)=>
   let l:=(b.drop off).take i.size
   bif Nat.beq (bU l) i.size then(sP i.agg l).map λt=>(True,t,s)else Y
  |_=>Y
 | .lR d off=>(mP i d off).map λt=>(d.has (Nat.add off i.size),t,s)
 | .jV o e k off=>match EF s o e with
  |some (_,a)=>(mP i (D.el a k) off).map λt=>(D.En k (D.len a)∧(D.el a k).has (Nat.add off i.size),t,s)
  |none=>Y
 |_=>Y
def leaves:L T->Prop
 |[]=>True
 |t::l=>t.leaf∧leaves l
def storeT(i:TI)(s:St)(a x:T):QS:=
 match ij i x with
 |none=>Y
 |some (p,l)=>match a with
  | .ptr o off=>match s.ob.get o with
   |some (.box d)=>
    bif Nat.ble s.fl o&&Nat.ble (Nat.add off (bU l)) (bU d)then
     Z (p∧leaves l,Nk,{s with ob:=s.ob.set aA o (.box (d.take off++l++d.drop (Nat.add off (bU l))))})
    else Y
   |_=>Y
  | .jV o e k off=>match kQ s l with
   |some (q,ds,os)=>match freeze s os with
    |some c=>match c.ob.get o with
     |some (.arr sz b era)=>
      bif Nat.ble c.fl o&&Nat.beq e era then
       Z (p∧q∧ds.all D.leaf=W∧D.En k (D.len b)∧(D.el b k).Np sz off (bU ds)∧Nat.ble (Nat.add off (bU ds)) sz=W∧((D.el b k).Nj off ds).pZ=(D.el b k).pZ,
        Nk,{c with ob:=c.ob.set aA o (.arr sz (D.put b k ((D.el b k).Nj off ds)) era)})
      else Y
     |_=>Y
    |none=>Y
   |none=>Y
  |_=>Y
def zW(place:Nat->O (Nat×TI))(cells:L T):L (Nat×T)->O (Prop×L T)
 |[]=>Z (True,cells)
 |(k,v)::a=>match place k with
  |none=>Y
  |some (off,i)=>match ij i v with
   |none=>Y
   |some (p,l)=>
    bif Nat.ble (Nat.add off (bU l)) (bU cells)then
     (zW place (cells.take off++l++cells.drop (Nat.add off (bU l))) a).map λ(q,r)=>(p∧leaves l∧q,r)
    else Y
def pI(fr:Fr):L (Nat×Operand)->O (L (Nat×T))
 |[]=>Z []
 |(k,x)::l=>match iQ fr x,pI fr l with
  |some t,Z r=>Z ((k,t)::r)
  |_,_=>Y
def mI(s:St)(i:TI)(es:L D):L (Nat×T)->O (Prop×L D×L Nat)
 |[]=>Z (True,es,[])
 |(k,v)::a=>match ud s v with
  |none=>Y
  |some (p,d,os)=>
   bif Nat.blt k (bU es)then
    (mI s i (es.set k d) a).map λ(q,r,b)=>(p∧(bif i.agg then d.isAgg i.size else d.leaf)=W∧q,r,os++b)
   else Y
def Mt(op:BinOp)(k:IntKind)(m n:Int):O D:=
 match op with
 | .lss=>Z (.lit (.bool (D.bM m n)))
 | .leq=>Z (.lit (.bool (D.eu m n)))
 | .gtr=>Z (.lit (.bool (D.bM n m)))
 | .geq=>Z (.lit (.bool (D.eu n m)))
 | .add=>Z (.lit (.int k (D.add k m n)))
 | .sub=>Z (.lit (.int k (D.eD k m n)))
 | .mul=>Z (.lit (.int k (D.mul k m n)))
 |_=>Y
def TP(op:BinOp)(k:IntKind)(m n:Int):O D:=
 match op with
 | .rem=>Z (.lit (.int k (D.rem m n)))
 | .quo=>Z (.lit (.int k (D.quo k m n)))
 |_=>Y
def Qv(i:TI)(a b:T):O (Prop×Bool):=
 bif i.agg then match i.lks,ij i a,ij i b with
  |[],_,_=>Y
  |k::c,Z (p,as),Z (q,d)=>(iY (k::c) as d).map λ(r,x)=>(p∧q∧r,x)
  |_,_,_=>Y
 else match i.kd with
  | .leaf k=>om k a b
  | .ptr=>X1 a b
  | .iface=>X2 a b
  |_=>Y
def HN(i:TI)(op:BinOp)(a b:T):O (Prop×D):=
 match op with
 | .eql=>(Qv i a b).map λ(p,r)=>(p,.lit (.bool r))
 | .neq=>(Qv i a b).map λ(p,r)=>(p,.lit (.bool (D.aK r)))
 |op=>match i.kd with
  | .leaf (.int k)=>match sA k a,sA k b with
   |some (p,m),Z (q,n)=>match Mt op k m n with
    |some d=>Z (p∧q,d)
    |none=>(TP op k m n).map λd=>(p∧q∧D.nz n,d)
   |_,_=>Y
  | .leaf .str=>match op,vK a,vK b with
   | .add,Z (p,m),Z (q,n)=>Z (p∧q∧D.Vs m n,.lit (.string (D.Rz m n)))
   |_,_,_=>Y
  |_=>Y
def Jd(fr:Fr):O Operand->O (O T)
 |none=>Z Y
 |some x=>(iQ fr x).map Z
def tF(dflt:Int):O T->O (Prop×Int)
 |none=>Z (True,dflt)
 |some t=>sA .i64 t
def oQ:T->L Nat
 | .sh o _=>[o]
 |_=>[]
def nJ(i:TI)(s:St)(v:T)(l h m:O T):QS:=
 match i.kd,tF D.zero l with
 | .leaf .str,Z (p,lo)=>match vK v,m with
  |some (q,b),Y=>match tF (D.Bp b) h with
   |some (r,a)=>Z (p∧q∧r∧D.cut lo a (D.Bp b),.sym (.lit (.string (D.Vq b lo a))),s)
   |none=>Y
  |_,_=>Y
 | .slice sz _ _ _,Z (p,lo)=>match qc s v,freeze s (oQ v)with
  |some (q,c),Z d=>match tF (D.len c) h,m,h with
   |some (r,a),Y,_=>Z (p∧q∧r∧D.rows c sz∧D.cut lo a (D.len c),.sym (.sl (D.sub c lo a)),d)
   |some (r,a),Z y,Z _=>match y with
    | .kn .i64 0=>Z (p∧q∧r∧lo=D.zero∧a=D.zero,.emp,s)
    |y=>(sA .i64 y).map λ(t,e)=>
     (p∧q∧r∧t∧D.rows c sz∧D.cut lo a (D.len c)∧e=a,.ja 0 (D.sub c lo a),d)
   |_,_,_=>Y
  |_,_=>Y
 |_,_=>Y
def DB:T->O (Prop×Bool)
 | .gd g v=>match vu v with
  |some (q,y)=>Z (g=W∧q,y)
  |none=>Y
 | .kb b=>Z (True,b)
 | .sym d=>Z (d.isBool=W,d.toBool)
 |_=>Y
def Fb(c a b:T):O (Prop×T):=
 match c with
 | .kb u=>match DB (bif u then a else b)with
  |some (q,y)=>Z (q,.sym (.lit (.bool y)))
  |none=>Y
 |c=>match vu c,DB a,DB b with
  |some (p,t),Z (q,x),Z (r,y)=>Z (p∧(t=W->q)∧(t=J->r),.sym (.lit (.bool (D.aej t x y))))
  |_,_,_=>Y
def jT(i:TI)(s:St)(x b:T):QS:=
 match i.kd,sA .i64 b with
 | .slice sz _ _ _,Z (p,n)=>match x with
  | .sh o e=>match EF s o e with
   |some (z,a)=>bif Nat.beq z sz then Z (p∧D.En n (D.len a),.jV o e (D.nat n) 0,s)else Y
   |none=>Y
  |v=>match qc s v with
   |some (q,a)=>Z (p∧q∧D.En n (D.len a)∧(D.el a (D.nat n)).wide sz,.lR (D.el a (D.nat n)) 0,s)
   |none=>Y
 |_,_=>Y
def og(i:TI)(s:St)(k:Nat)(x:T):QS:=
 match i.kd with
 | .struct a=>match nth a k with
  |some (off,size,_)=>bif Nat.beq size 0 then Y else match x with
   | .ptr o b=>Z (True,.ptr o (Nat.add b off),s)
   | .lR d b=>Z (True,.lR d (Nat.add b off),s)
   | .jV o e j b=>Z (True,.jV o e j (Nat.add b off),s)
   |_=>Y
  |none=>Y
 |_=>Y
def CO(i:TI)(s:St)(k:Nat)(x:T):QS:=
 match i.kd with
 | .struct a=>match nth a k,ij i x with
  |some (off,size,b),Z (p,c)=>
   let l:=(c.drop off).take size
   bif Nat.beq (bU l) size&&!(Nat.beq size 0)then(sP b l).map λt=>(p,t,s)else Y
  |_,_=>Y
 |_=>Y
def CG(i:TI)(s:St)(x a:T):QS:=
 match i.kd,sA .i64 a,vK x with
 | .leaf .str,Z (p,n),Z (q,b)=>Z (p∧q∧D.En n (D.Bp b),.sym (.lit (.int .u8 (D.sat b n))),s)
 |_,_,_=>Y
def o7(i:TI)(s:St)(t:TypeId)(ok:Bool)(x:T):QS:=
 match i.kd,x,ok with
 | .iface,_,_=>Y
 |_,.cE u v,W=>bif Nat.beq u t then Z (True,.fQ [v,.kb W],s)else
   (sP i.agg (i.zero.map nY)).map λz=>(True,.fQ [z,.kb J],s)
 |_,.cE u v,J=>bif Nat.beq u t then Z (True,v,s)else Y
 |_,_,_=>Y
def unT(i:TI)(op:UnOp)(v:T):O (Prop×D):=
 match op,i.kd with
 | .not,.leaf .bool=>(vu v).map λ(p,b)=>(p,.lit (.bool (D.aK b)))
 | .neg,.leaf (.int k)=>(sA k v).map λ(p,n)=>(p,.lit (.int k (D.neg k n)))
 |_,_=>Y
def FL(i j:TI)(s:St)(v:T):QS:=
 match i.kd,j.kd with
 | .leaf (.int k),.leaf (.int l)=>(sA k v).map λ(p,n)=>(p,.sym (.lit (.int l (D.conv l n))),s)
 | .leaf .str,.leaf .str=>(vK v).map λ(p,_)=>(p,v,s)
 |_,_=>Y
def oh(s:St)(k:Nat):T->QS
 | .fQ a=>(nth a k).map λt=>(True,t,s)
 | .sym d=>Z (d.Z7 k=W,.sym (d.proj k),s)
 |_=>Y
def mA(E:Env)(fr:Fr)(s:St)(o:Op):QS:=
 match o with
 | .move x=>(iQ fr x).map λt=>(True,t,s)
 | .assign x=>(iQ fr x).map λt=>(True,t,s)
 | .pick c a b=>match iQ fr c,iQ fr a,iQ fr b with
  |some c,Z a,Z b=>(Fb c a b).map λ(p,t)=>(p,t,s)
  |_,_,_=>Y
 | .alloc t=>match E.ti t with
  |some i=>bif Nat.blt s.au bg then Z (True,.ptr s.au 0,(dO s (.box (i.zero.map nY))).2)else Y
  |none=>Y
 | .box t x=>match E.ti t,iQ fr x with
  |some i,Z v=>bif Nat.blt s.au bg then(ij i v).map λ(p,q)=>(p,.ptr s.au 0,(dO s (.box q)).2)else Y
  |_,_=>Y
 | .build t parts=>match E.ti t,pI fr parts.toList with
  |some i,Z r=>match i.kd with
   | .struct z=>(zW (λk=>match nth z k with|some (off,size,g)=>Z (off,{(default:TI)with size:=size,agg:=g})|none=>Y) (i.zero.map nY) r).map
     λ(p,q)=>(p,.agg q,s)
   |_=>Y
  |_,_=>Y
 | .buildSlice t len parts=>match E.ti t,pI fr parts.toList with
  |some i,Z r=>match i.kd with
   | .slice sz g _ zero=>
    bif (g||Nat.beq sz 1)&&(Nat.beq (bU zero) sz&&(!(Nat.beq sz 0)&&Nat.ble (Nat.mul len sz) 16777216))then
     match mI s {(default:TI)with size:=sz,agg:=g} (List.replicate len (bif g then .agg zero else zero.getD 0 default)) r with
     |some (p,A,os)=>(freeze s os).map λs=>(p,.ja len A,s)
     |none=>Y
    else Y
   |_=>Y
  |_,_=>Y
 | .load t a=>match E.ti t,iQ fr a with
  |some i,Z a=>loadT i s a
  |_,_=>Y
 | .store t a x=>match E.ti t,iQ fr a,iQ fr x with
  |some i,Z a,Z x=>storeT i s a x
  |_,_,_=>Y
 | .nilCheck x=>match iQ fr x with
  |some (.ptr o b)=>Z (True,.ptr o b,s)
  |some (.lR d b)=>Z (True,.lR d b,s)
  |some (.jV o e j b)=>Z (True,.jV o e j b,s)
  |some (.cE t v)=>Z (True,.cE t v,s)
  |some (.fn (.func f) a b)=>Z (True,.fn (.func f) a b,s)
  |some (.sym d)=>Z (d.acH=W,.sym d,s)
  |_=>Y
 | .binOp op t x y _=>match E.ti t,iQ fr x,iQ fr y with
  |some i,Z a,Z b=>(HN i op a b).map λ(p,d)=>(p,.sym d,s)
  |_,_,_=>Y
 | .unOp op t x=>match E.ti t,iQ fr x with
  |some i,Z v=>(unT i op v).map λ(p,d)=>(p,.sym d,s)
  |_,_=>Y
 | .convert src u x=>match E.ti src,E.ti u,iQ fr x with
  |some i,Z j,Z v=>FL i j s v
  |_,_,_=>Y
 | .makeInterface t x=>match E.ti t,iQ fr x with
  |some i,Z v=>match i.kd with
   | .iface=>Y
   |_=>Z (True,.cE t v,s)
  |_,_=>Y
 | .makeFunc f first cap=>match uY fr first.toList,uY fr cap.toList with
  |some a,Z b=>Z (True,.fn f a b,s)
  |_,_=>Y
 | .extract x k=>match iQ fr x with
  |some v=>oh s k v
  |none=>Y
 | .fieldAddr t x k=>match E.ti t,iQ fr x with
  |some i,Z v=>og i s k v
  |_,_=>Y
 | .field t x k=>match E.ti t,iQ fr x with
  |some i,Z v=>CO i s k v
  |_,_=>Y
 | .indexAddr t x w=>match E.ti t,iQ fr x,iQ fr w with
  |some i,Z v,Z n=>jT i s v n
  |_,_,_=>Y
 | .index t x w=>match E.ti t,iQ fr x,iQ fr w with
  |some i,Z v,Z n=>CG i s v n
  |_,_,_=>Y
 | .slice t x lo B C=>match E.ti t,iQ fr x,Jd fr lo,Jd fr B,Jd fr C with
  |some i,Z v,Z l,Z h,Z m=>nJ i s v l h m
  |_,_,_,_,_=>Y
 | .typeAssert x _ t ok=>match E.ti t,iQ fr x with
  |some i,Z v=>o7 i s t ok v
  |_,_=>Y
 |_=>Y
def D.Of(a b:L D):Prop:=a.length+b.length<=17179869184
def o8(i:TI)(s:St)(x y:T):QS:=
 bif !(Nat.blt s.au bg)then Y else
 match i.kd,qc s y with
 | .slice sz _ b _,Z (q,new)=>
  match x with
  | .emp=>Z (q∧D.rows new sz∧D.Q8 new b,.sh s.au 0,(dO s (.arr sz new 0)).2)
  | .ja _ a=>
   let c:=q∧D.rows (D.app a new) sz∧D.Q8 (D.app a new) b∧D.Of a new
   match y with
   | .ja (_+1) _=>Z (c,.sh s.au 0,(dO s (.arr sz (D.app a new) 0)).2)
   |_=>Z (c,.sym (.sl (D.app a new)),s)
  | .sh o e=>match s.ob.get o with
   |some (.arr z a era)=>
    bif Nat.ble s.fl o&&Nat.beq e era&&Nat.beq z sz&&!(oQ y).contains o then
     Z (q∧D.rows new sz∧D.Q8 (D.app a new) b∧D.Of a new,.sh o (Nat.succ era),{s with ob:=s.ob.set aA o (.arr sz (D.app a new) (Nat.succ era))})
    else Y
   |_=>Y
  |_=>Y
 |_,_=>Y
def eI(E:Env)(s:St)(b:Builtin)(argTypes:Array TypeId)(args:L T):QS:=
 match b,args with
 | .len,[x]=>match vK x,(nth argTypes.toList 0).bind E.ti with
  |some (p,b),Z i=>match i.kd with
   | .leaf .str=>Z (p,.sym (.lit (.int .i64 (D.Bp b))),s)
   | .slice _ _ _ _=>(qc s x).map λ(p,a)=>(p,.sym (.lit (.int .i64 (D.len a))),s)
   |_=>Y
  |none,Z i=>match i.kd with
   | .slice _ _ _ _=>(qc s x).map λ(p,a)=>(p,.sym (.lit (.int .i64 (D.len a))),s)
   |_=>Y
  |_,_=>Y
 | .append,[x,y]=>match argTypes.toList with
  |[t,u]=>match E.ti t,E.ti u with
   |some i,Z j=>match j.kd with
    | .slice _ _ _ _=>o8 i s x y
    |_=>Y
   |_,_=>Y
  |_=>Y
 |_,_=>Y
end
end TL
end
section
namespace TL
open Go
section
def ux:T->L T->O (FuncId×L T)
 | .fn (.func f) first cap,args=>Z (f,first++args++cap)
 |_,_=>Y
section
variable (E:Env)
def gamT(s:St)(f:FuncId)(args:L T):O (Prop×T×St):=
 match E.Es f with
 |none=>Y
 |some c=>match kQ s args with
  |none=>Y
  |some (p,ds,os)=>(freeze s os).map λa=>(p∧c.pre ds,.sym (c.f ds),a)
abbrev afn:=FuncId->L T->St->(T->St->Prop)->(T->St->Prop)->Prop
variable (call:afn)
def abU(fr:Fr):O Nat->Bool
 |none=>W
 |some d=>Nat.blt d fr.n
end
def yQ:L T->Nat->Tr T->Tr T
 |[],_,t=>t
 |a::l,k,t=>yQ l (Nat.succ k) (t.set aA k a)
def jI(E:Env)(s:St)(fr:Fr):L ResultVar->O (Prop×L T)
 |[]=>Z (True,[])
 | .tmp t::l=>match fr.get t,jI E s fr l with
  |some x,Z (p,r)=>Z (p,x::r)
  |_,_=>Y
 | .cell a t::l=>match(E.ti t),fr.get a with
  |some i,Z a=>match loadT i s a,jI E s fr l with
   |some (p,x,_),Z (q,r)=>Z (p∧q,x::r)
   |_,_=>Y
  |_,_=>Y
def YH:L T->T
 |[x]=>x
 |l=>.fQ l
end
end TL
end
section
namespace TL
section
def bA{α:Type}(l:L α):bU l=l.length:=by
 induction l with|nil=>rfl|cons a l b=>simp[bU,b]
def iR{α:Type}(l:L α)(k:Nat):nth l k=l[k]?:=by
 induction l generalizing k with
 |nil=>cases k<;>rfl
 |cons a l b=>cases k with|zero=>rfl|succ k=>simp[nth,b]
namespace Tr
variable {α:Type}
def get_nil(k:Nat):(Tr.nil:Tr α).get k=Y:=by cases k<;>rfl
def fC(v:O α)(l r:Tr α):(Tr.node v l r).get 0=v:=by simp[get]
def cD(v:O α)(l r:Tr α)(k:Nat):(Tr.node v l r).get (k+1)=if k%2=0 then l.get (k/2)else r.get (k/2):=by
 simp only[get];by_cases h:k%2=0
 .have:Nat.beq (Nat.mod k 2) 0=W:=by show Nat.beq (k%2) 0=W;rw[h];rfl
  simp[this,h];rfl
 .have:Nat.beq (Nat.mod k 2) 0=J:=by
   show Nat.beq (k%2) 0=J;have:k%2=1:=by omega
   rw[this];rfl
  simp[this,h];rfl
theorem uQ(n:Nat)(v:O α)(l r:Tr α)(x:α):Tr.set (n+1) (.node v l r) 0 x=.node (Z x) l r:=rfl
theorem wP(n:Nat)(x:α):Tr.set (n+1) .nil 0 x=.node (Z x) .nil .nil:=rfl
def lJ(n:Nat)(v:O α)(l r:Tr α)(k:Nat)(x:α) :
  Tr.set (n+1) (.node v l r) (k+1) x=if k%2=0 then .node v (Tr.set n l (k/2) x) r else .node v l (Tr.set n r (k/2) x):=by
 simp only[set];by_cases h:k%2=0
 .have:Nat.beq (Nat.mod k 2) 0=W:=by show Nat.beq (k%2) 0=W;rw[h];rfl
  simp[this,h];rfl
 .have:Nat.beq (Nat.mod k 2) 0=J:=by
   show Nat.beq (k%2) 0=J;have:k%2=1:=by omega
   rw[this];rfl
  simp[this,h];rfl
def mT(n:Nat)(k:Nat)(x:α) :
  Tr.set (n+1) .nil (k+1) x=if k%2=0 then .node Y (Tr.set n .nil (k/2) x) .nil else .node Y .nil (Tr.set n .nil (k/2) x):=by
 simp only[set];by_cases h:k%2=0
 .have:Nat.beq (Nat.mod k 2) 0=W:=by show Nat.beq (k%2) 0=W;rw[h];rfl
  simp[this,h];rfl
 .have:Nat.beq (Nat.mod k 2) 0=J:=by
   show Nat.beq (k%2) 0=J;have:k%2=1:=by omega
   rw[this];rfl
  simp[this,h];rfl
def WN(n:Nat):∀(t:Tr α)(k j:Nat)(x:α),k+1<2 ^ n->(Tr.set n t k x).get j=if j=k then Z x else t.get j:=by
 induction n with
 |zero=>intro t k j x h;simp at h
 |succ n d=>
  intro t k j x h;cases k with
  |zero=>
   cases t with
   |nil=>
    rw[wP];cases j with|zero=>simp[fC]|succ j=>rw[cD];simp[get_nil]
   |node v l r=>
    rw[uQ];cases j with|zero=>simp[fC]|succ j=>rw[cD,cD];simp
  |succ k=>
   have c:k/2+1<2 ^ n:=by rw[Nat.pow_succ]at h;omega
   cases t with
   |nil=>
    rw[mT];cases j with
    |zero=>split<;>simp[fC,get_nil]
    |succ j=>
     by_cases b:k%2=0
     .rw[aY b,cD,get_nil];by_cases a:j%2=0
      .rw[aY a,d _ _ _ _ c,get_nil];have:j/2=k/2↔j+1=k+1:=by omega
       simp[this,get_nil]
      .rw[bK a,get_nil,bK (by omega)]
     .rw[bK b,cD,get_nil];by_cases a:j%2=0
      .rw[aY a,get_nil,bK (by omega)]
      .rw[bK a,d _ _ _ _ c,get_nil];have:j/2=k/2↔j+1=k+1:=by omega
       simp[this,get_nil]
   |node v l r=>
    rw[lJ];cases j with
    |zero=>split<;>simp[fC]
    |succ j=>
     by_cases b:k%2=0
     .rw[aY b,cD,cD];by_cases a:j%2=0
      .rw[aY a,aY a,d _ _ _ _ c];have:j/2=k/2↔j+1=k+1:=by omega
       simp[this]
      .rw[bK a,bK a,bK (by omega)]
     .rw[bK b,cD,cD];by_cases a:j%2=0
      .rw[aY a,aY a,bK (by omega)]
      .rw[bK a,bK a,d _ _ _ _ c];have:j/2=k/2↔j+1=k+1:=by omega
       simp[this]
def aO(t:Tr α)(k j:Nat)(x:α)(h:k<bg):(Tr.set aA t k x).get j=if j=k then Z x else t.get j:=
 WN _ _ _ _ _ (by unfold aA;unfold bg at h;omega)
end Tr
end
end TL
end
section
namespace TL
open Go
section
structure eX where
 a:Option Addr
 len:Nat
 cap:Nat
 sz:Nat
structure Gh where
 bG:Nat->Option Nat
 arr:Nat->Nat->Option eX
 bf:Nat->Prop
inductive dM(I:Nat->Prop)(w:World):D->Value->Prop where
 |lit (v:Value):dM I w (.lit v) v
 |sl (es:List D) (a:Option Addr) (cap sz:Nat) (val:Nat->Nat->Value)
   (hcap:es.length<=cap) (hsz:∀d∈es,d.cells.length=sz) (hby:∀d∈es,es.length*d.pZ<=281474976710656)
   (ha:es≠[]->∃ad,a=Z ad∧I ad.block∧∀i j d c,es[i]?=Z d->d.cells[j]?=Z c->w.cell? (ad.add (i*sz+j))=Z (val i j))
   (hc:∀i j d c,es[i]?=Z d->d.cells[j]?=Z c->dM I w c (val i j)):dM I w (.sl es) (.slice a es.length cap)
 |agg (cs:List D) (vs:Array Value) (hl:cs.length=vs.size) (hf:∀c∈cs,c.leaf=W)
   (h:∀(j:Nat)(c:D)(v:Value),cs[j]?=Z c->vs[j]?=Z v->dM I w c v):dM I w (.agg cs) (.agg vs)
 |cE (t:TypeId) (d:D) (v:Value) (h:dM I w d v):dM I w (.cE t d) (.iface t v)
 |fQ (ds:List D) (vs:Array Value) (hl:ds.length=vs.size)
   (h:∀(j:Nat)(c:D)(v:Value),ds[j]?=Z c->vs[j]?=Z v->dM I w c v):dM I w (.fQ ds) (.tuple vs)
def sn(I:Nat->Prop)(w w':World):Prop:=∀b,I b->w'.heap[b]?=w.heap[b]?
def sn.cell{I:Nat->Prop}{w w':World}(h:sn I w w'){a:Addr}(b:I a.block):w'.cell? a=w.cell? a:=by unfold World.cell?;rw[h _ b]
def ki(a:Addr)(n:Nat):(a.add n).block=a.block:=by unfold Addr.add;split<;>rfl
variable {I:Nat->Prop}{w w':World}{d:D}{v:Value}{s:St}{o b e fl:Nat}{ob:Ob}{t:T}{p:T->Bool}
def dM.mono{q:Nat->Prop}(s:sn I w w')(u:∀b,I b->q b)(h:dM I w d v):dM q w' d v:=by
 induction h with
 |lit v=>exact .lit v
 |sl x a cap sz val g k l y F e=>refine .sl x a cap sz val g k l (λm=>?_) e;obtain⟨z,A,r,f⟩:=y m;refine⟨z,A,u _ r,λi j d c B n=>?_⟩;rw[s.cell (by rw[ki];exact r)];exact f i j d c B n
 |agg C o p E h e=>exact .agg C o p E e
 |cE t d v h e=>exact .cE t d v e
 |fQ ds o p h e=>exact .fQ ds o p e
def rc(r i:Nat):Nat:=2 ^ r*(2*i+1)
def ic(nj:Nat)(d:D)(h:Value):D:=.agg (d.cells.set nj (.lit h))
inductive aC(g:Gh)(w:World):T->Value->Prop where
 |sym (d:D) (v:Value) (h:dM g.bf w d v):aC g w (.sym d) v
 |kb (b:Bool):aC g w (.kb b) (.bool b)
 |kn (k:IntKind) (n:Int):aC g w (.kn k n) (.int k n)
 |ptr (o off b:Nat) (h:g.bG o=Z b):aC g w (.ptr o off) (.pointer (Z ⟨b,off,Y⟩))
 |lR (d:D) (off:Nat) (ad:Addr) (val:Nat->Value) (hi:g.bf ad.block)
   (hc:∀j c,d.cells[j]?=Z c->w.cell? (ad.add j)=Z (val j)) (hd:∀j c,d.cells[j]?=Z c->dM g.bf w c (val j)) :
   aC g w (.lR d off) (.pointer (Z (ad.add off)))
 |jV (o e i off len cap sz:Nat) (ad:Addr) (h:g.arr o e=Z ⟨Z ad,len,cap,sz⟩):aC g w (.jV o e i off) (.pointer (Z (ad.add (i*sz+off))))
 |sh (o e len cap sz:Nat) (a:Option Addr) (h:g.arr o e=Z ⟨a,len,cap,sz⟩):aC g w (.sh o e) (.slice a len cap)
 |emp (a:Option Addr):aC g w .emp (.slice a 0 0)
 |ja (n:Nat) (es:List D) (a:Option Addr) (hn:n<=es.length) (h:dM g.bf w (.sl es) (.slice a es.length es.length)):aC g w (.ja n es) (.slice a es.length es.length)
 |fn (f:Fn) (fs cs:List T) (va vc:Array Value) (hl:fs.length=va.size) (hm:cs.length=vc.size)
   (h:∀(j:Nat)(t:T)(v:Value),fs[j]?=Z t->va[j]?=Z v->aC g w t v)
   (h':∀(j:Nat)(t:T)(v:Value),cs[j]?=Z t->vc[j]?=Z v->aC g w t v):aC g w (.fn f fs cs) (.func f va vc)
 |cE (t:TypeId) (x:T) (v:Value) (h:aC g w x v):aC g w (.cE t x) (.iface t v)
 |agg (cs:List T) (vs:Array Value) (hl:cs.length=vs.size)
   (h:∀(j:Nat)(t:T)(v:Value),cs[j]?=Z t->vs[j]?=Z v->aC g w t v):aC g w (.agg cs) (.agg vs)
 |fQ (cs:List T) (vs:Array Value) (hl:cs.length=vs.size)
   (h:∀(j:Nat)(t:T)(v:Value),cs[j]?=Z t->vs[j]?=Z v->aC g w t v):aC g w (.fQ cs) (.tuple vs)
 |gd (c:Bool) (t:T) (v:Value) (h:c=W->aC g w t v):aC g w (.gd c t) v
 |mp (o b:Nat) (h:g.bG o=Z b):aC g w (.mp o) (.map (Z b))
 |pz (o b:Nat) (h:g.bG o=Z b):aC g w (.pz o) (.func (.yield b) #[] #[])
 |qF (o b:Nat) (h:g.bG o=Z b):aC g w (.qF o) (.pointer (Z ⟨b,0,Y⟩))
 |ub (e b:Bool) (h:b=W->e=W):aC g w (.ub e) (.bool b)
 |pL (o m r i len cap sz:Nat) (a:Option Addr) (h:g.arr m (rc r i)=Z ⟨a,len,cap,sz⟩):aC g w (.pL o m r i) (.slice a len cap)
 |nk (j:Nat) (d:D) (c:Option Addr) (a:Option Addr) (hj:d.cells[j]?=Z (.sl [])) (hd:dM g.bf w (.sl [ic j d (.slice c 0 0)]) (.slice a 1 1)):aC g w (.nk j d) (.slice a 1 1)
inductive gC(g:Gh)(w:World):Ob->Obj->Prop where
 |box (cs:List T) (vs:Array Value) (ty:TypeId) (hl:cs.length=vs.size) (h:∀(j:Nat)(t:T)(v:Value),cs[j]?=Z t->vs[j]?=Z v->aC g w t v):gC g w (.box cs) (.cells vs ty (0,0))
 |map (es:List (T×T)) (ms:Array MapEntry) (c:Nat) (hl:es.length=ms.size)
   (h:∀(j:Nat)(t:T×T)(m:MapEntry),es[j]?=Z t->ms[j]?=Z m->aC g w t.1 m.key∧aC g w t.2 m.val):gC g w (.map es) (.map ms c)
 |oG (s:ByteArray) (pos:Nat):gC g w (.oG s pos) (.stringIter s pos)
 |lp (l:Lp) (r:Loop) (h1:r.state=l.st) (h2:r.pending=l.sw) (h4:r.params.toList=l.params) (h5:r.assign=l.assign) (h6:r.body=l.body)
   (h8:r.tmps.size=l.fr.n) (h9:∀k t,l.fr.get k=Z t->∃v,r.tmps[k]?=Z v∧aC g w t v):gC g w (.lp l) (.loop r)
 |wE:gC g w .wE (.deferred (Z []))
def br(g:Gh)(o b:Nat):Prop:=¬g.bf b∧(g.bG o=Z b∨∃e x ad,g.arr o e=Z x∧x.a=Z ad∧ad.block=b∧x.cap≠0)
structure tZ(g:Gh)(w:World)(fz:Bool)(sz:Nat)(es:List D)(x:eX):Prop where
 len:x.len=es.length
 cap:x.len<=x.cap
 rows:∀d∈es,d.cells.length=sz
 pos:0<sz
 Vd:∀d∈es,es.length*d.pZ<=281474976710656
 emp:es=[]->x.cap=0
 mem:x.cap≠0->∃b vs ty,x.a=Z ⟨b,0,Y⟩∧(fz=W↔g.bf b)∧w.heap[b]?=Z (.cells vs ty (0,0))∧x.cap*sz<=vs.size∧
  ∀i d j c,es[i]?=Z d->d.cells[j]?=Z c->∃v,vs[i*sz+j]?=Z v∧dM g.bf w c v
def fc(fz:Bool)(sz:Nat)(es:L D)(era:Nat):Ob:=if fz then .jC sz es era else .arr sz es era
def tV(g:Gh)(s:St)(w:World)(o b:Nat):Prop:=
 ¬g.bf b∧b<w.heap.size∧∀ob,s.ob.get o=Z ob->∃h,w.heap[b]?=Z h∧gC g w ob h
def tV.box{g:Gh}{s:St}{w:World}{o b:Nat}(h:tV g s w o b){cs:L T}(c:s.ob.get o=Z (.box cs)) :
  ∃vs ty,w.heap[b]?=Z (.cells vs ty (0,0))∧cs.length=vs.size∧∀(j:Nat)(t:T)(v:Value),cs[j]?=Z t->vs[j]?=Z v->aC g w t v:=by
 obtain⟨x,d,a⟩:=h.2.2 _ c;cases a with|box cs vs ty e a=>exact⟨vs,ty,d,e,a⟩
def tV.yK{g:Gh}(h:tV g s w o b)(fz:Bool){sz:Nat}{es:L D}(a:s.ob.get o=Z (if fz then .jC sz es e else .arr sz es e)):False:=by obtain⟨x,d,c⟩:=h.2.2 _ a;cases fz<;>cases c
def gC.yK{g:Gh}{h:Obj}(a:gC g w ob h):ob.mQ=J:=by cases a<;>rfl
def eX.at(x:eX)(b:Nat):Prop:=∃ad,x.a=Z ad∧ad.block=b∧x.cap≠0
def lits(nj:Nat)(es:L D)(hs:L Value):L D:=List.zipWith (ic nj) es hs
def EI(g:Gh)(m gf:Nat)(hole:O Nat)(hs:L Value):Prop:=
 (∀(i:Nat)(h:Value),hs[i]?=Z h->∃a n k,h=.slice a n k)∧∀(i:Nat)(h:Value),hs[i]?=Z h->hole≠Z i->∃y,g.arr m (rc gf i)=Z y∧h=.slice y.a y.len y.cap
def OD(g:Gh)(w:World)(o e:Nat)(x:eX)(ob:Ob):Prop:=
 ∃fz es era,ob=fc fz x.sz es era∧e<=era∧(∀a,era<a->g.arr o a=Y)∧(e=era->tZ g w fz x.sz es x)
def afc(g:Gh)(w:World)(o e:Nat)(x:eX)(ob:Ob):Prop:=
 ∃nj es era m gf hole,ob=.jL nj x.sz es era m gf hole∧e<=era∧(∀a,era<a->g.arr o a=Y)∧
  (e=era->∃hs,hs.length=es.length∧tZ g w J x.sz (lits nj es hs) x∧EI g m gf hole hs)
def ae4(g:Gh)(w:World)(o e:Nat)(x:eX)(ob:Ob):Prop:=
 ∃sz gO gf,ob=.rws sz gO gf∧(∀r i,gf<r->g.arr o (rc r i)=Y)∧
  (∀i a y c,i≠a->g.arr o (rc gf i)=Z y->g.arr o (rc gf a)=Z c->∀b,y.at b->¬c.at b)∧
  (∀i,e=rc gf i->x.sz=sz∧∃d,gO[i]?=Z d∧tZ g w J sz d x)
def afd(g:Gh)(w:World)(e:Nat)(x:eX)(ob:Ob):Prop:=
 ob=.Cj∧x.a=Z ⟨e,0,Y⟩∧x.cap≠0∧¬g.bf e∧w.heap[e]?=Z (.deferred (Z []))
def so(g:Gh)(w:World)(o e:Nat)(x:eX)(ob:Ob):Prop:=
 OD g w o e x ob∨afc g w o e x ob∨ae4 g w o e x ob∨ob=.gone∨afd g w e x ob
def so.mQ{g:Gh}{w:World}{o e:Nat}{x:eX}{ob:Ob}(h:so g w o e x ob):ob.mQ=W:=by
 rcases h with⟨a,_,_,rfl,_⟩|⟨_,_,_,_,_,_,rfl,_⟩|⟨_,_,_,rfl,_⟩|rfl|⟨rfl,_⟩
 .cases a<;>rfl
 .rfl
 .rfl
 .rfl
 .rfl
def so.old{g:Gh}{x:eX}(h:so g w o e x ob)(a:ob.isA=W):OD g w o e x ob:=by
 rcases h with h|⟨_,_,_,_,_,_,rfl,_⟩|⟨_,_,_,rfl,_⟩|rfl|⟨rfl,_⟩
 .exact h
 .cases a
 .cases a
 .cases a
 .cases a
def yh(g:Gh)(s:St)(w:World)(o e:Nat)(x:eX):Prop:=
 (∀ad,x.a=Z ad->x.cap≠0->ad.block<w.heap.size)∧∀ob,s.ob.get o=Z ob->so g w o e x ob
def yh.old{g:Gh}{s:St}{w:World}{o e:Nat}{x:eX}(h:yh g s w o e x)(ob:Ob)(b:s.ob.get o=Z ob)(c:ob.isA=W) :
  ∃fz es era,ob=fc fz x.sz es era∧e<=era∧(∀a,era<a->g.arr o a=Y)∧(e=era->tZ g w fz x.sz es x):=(h.2 ob b).old c
def QI(fz:Bool)(sz:Nat)(es:L D)(era:Nat):(fc fz sz es era).isA=W:=by cases fz<;>rfl
structure aU(g:Gh)(s:St)(w:World):Prop where
 au:s.au<=bg
 af:∀o,s.au<=o->g.bG o=Y∧∀e,g.arr o e=Y
 box:∀o b,g.bG o=Z b->tV g s w o b
 arr:∀o e x,g.arr o e=Z x->yh g s w o e x
 bf:∀b,g.bf b->b<w.heap.size
 jv:∀o o' b,br g o b->br g o' b->o=o'
inductive tU(g:Gh)(w:World):Df->Deferred->Prop where
 |call (f:T) (args:List T) (fv:Fn) (first cap Rg:Array Value) (h3:aC g w f (.func fv first cap)) (h4:args.length=Rg.size)
   (h5:∀(j:Nat)(t:T)(v:Value),args[j]?=Z t->Rg[j]?=Z v->aC g w t v):tU g w (.call f args) {target:=.fn fv cap,args:=first++Rg}
 |mark (o b:Nat) (h:g.bG o=Z b):tU g w (.mark o) {target:=.collected b,args:=#[]}
 |bad (d:Deferred):tU g w .bad d
inductive ei(g:Gh)(w:World):List Df->List Deferred->Prop where
 |nil:ei g w [] []
 |cons {d:Df} {e:Deferred} {l:List Df} {m:List Deferred} (h:tU g w d e) (t:ei g w l m):ei g w (d::l) (e::m)
 |marks (o:Nat) (bs:List Nat) {l:List Df} {m:List Deferred} (hn:bs.Nodup) (h:∀b∈bs,∃n c,aC g w (.sh o b) (.slice (Z ⟨b,0,Y⟩) n c)) (t:ei g w l m):ei g w (.marks o::l) (bs.map (λb=>{target:=.collected b,args:=#[]})++m)
 |jc (xs:List Deferred) {l:List Df} {m:List Deferred} (t:ei g w l m):ei g w (.jc::l) (xs++m)
structure cg(g:Gh)(fr:Fr)(a:Act)(w:World):Prop where
 size:a.tmps.size=fr.n
 df:ei g w fr.df a.defers
 tm:∀k t,fr.get k=Z t->∃v,a.tmps[k]?=Z v∧aC g w t v
structure Ext(fl:Nat)(g:Gh)(w:World)(g':Gh)(w':World):Prop where
 bG:∀o b,g.bG o=Z b->g'.bG o=Z b
 arr:∀o e x,g.arr o e=Z x->g'.arr o e=Z x
 bf:∀b,g.bf b->g'.bf b
 size:w.heap.size<=w'.heap.size
 heap:∀b,b<w.heap.size->(∀o,fl<=o->¬br g o b)->w'.heap[b]?=w.heap[b]?
 own:∀o b,br g' o b->br g o b∨w.heap.size<=b
 pN:∀b,g'.bf b->g.bf b∨w.heap.size<=b∨∃o,fl<=o∧br g o b
 os:w'.os=w.os
 output:w'.output=w.output
def Ext.refl(fl:Nat)(g:Gh)(w:World):Ext fl g w g w:=
 ⟨λ_ _ h=>h,λ_ _ _ h=>h,λ_ h=>h,bS _,λ_ _ _=>rfl,λ_ _ h=>.inl h,λ_ h=>.inl h,rfl,rfl⟩
def Ext.trans{fl:Nat}{g g' d:Gh}{w w' f:World}(h:Ext fl g w g' w')(k:Ext fl g' w' d f):Ext fl g w d f where
 bG o b e:=k.bG o b (h.bG o b e)
 arr o e x l:=k.arr o e x (h.arr o e x l)
 bf b e:=k.bf b (h.bf b e)
 size:=eO h.size k.size
 heap b c j:=by
  rw[k.heap b (gN c h.size) (λo i a=>?_),h.heap b c j];rcases h.own o b a with a|a
  .exact j o i a
  .omega
 own o b a:=by
  rcases k.own o b a with a|a
  .exact h.own o b a
  .exact .inr (eO h.size a)
 pN b c:=by
  rcases k.pN b c with c|c|⟨o,i,a⟩
  .exact h.pN b c
  .exact .inr (.inl (eO h.size c))
  .rcases h.own o b a with a|a
   .exact .inr (.inr ⟨o,i,a⟩)
   .exact .inr (.inl a)
 os:=k.os.trans h.os
 output:=k.output.trans h.output
def Ext.keeps{g g':Gh}(h:Ext fl g w g' w')(c:∀b,g.bf b->b<w.heap.size):sn g.bf w w':=
 λb a=>h.heap b (c b a) λ_ _ d=>d.1 a
def dM.ext{g g':Gh}(h:Ext fl g w g' w')(a:∀b,g.bf b->b<w.heap.size)(c:dM g.bf w d v):dM g'.bf w' d v:=
 c.mono (h.keeps a) h.bf
def aC.ext{fl:Nat}{g g':Gh}{w w':World}(h:Ext fl g w g' w')(s:∀b,g.bf b->b<w.heap.size){t:T}{v:Value}(G:aC g w t v):aC g' w' t v:=by
 induction G with|sym d v p=>exact .sym d v (p.ext h s)|kb b=>exact .kb b|kn k n=>exact .kn k n|ptr o off b q=>exact .ptr o off b (h.bG o b q)|lR d off C val u H p=>exact .lR d off C val (h.bf _ u) (λj c y=>by rw[(h.keeps s).cell (by rw[ki];exact u)];exact H j c y) (λj c y=>(p j c y).ext h s)|jV o e i off len cap sz C z=>exact .jV o e i off len cap sz C (h.arr _ _ _ z)|sh o e len cap sz a z=>exact .sh o e len cap sz a (h.arr _ _ _ z)|emp a=>exact .emp a|ja n I a K p=>exact .ja n I a K (p.ext h s)|fn f M A N P B Q _ _ l E=>exact .fn f M A N P B Q l E|cE t x v _ l=>exact .cE t x v l|agg A F B _ l=>exact .agg A F B l|fQ A F B _ l=>exact .fQ A F B l|gd c t v _ l=>exact .gd c t v l|mp o b q=>exact .mp o b (h.bG o b q)|pz o b q=>exact .pz o b (h.bG o b q)|qF o b q=>exact .qF o b (h.bG o b q)|ub e b h=>exact .ub e b h|pL o m r i len cap sz a z=>exact .pL o m r i len cap sz a (h.arr _ _ _ z)|nk j d c a y p=>exact .nk j d c a y (p.ext h s)
def aC.ajt{g g':Gh}(B:∀k j y,g.arr k j=Z y->g'.arr k j=Z y)(A:g'.bG=g.bG)(q:g'.bf=g.bf)(I:aC g w t v):aC g' w t v:=by
 induction I with|sym d v p=>exact .sym d v (q▸p)|kb b=>exact .kb b|kn k n=>exact .kn k n|ptr o off b h=>exact .ptr o off b (A▸h)|lR d off C val E K p=>exact .lR d off C val (q▸E) K (λj c F=>q▸p j c F)|jV o e i off len cap sz C s=>exact .jV o e i off len cap sz C (B _ _ _ s)|sh o e len cap sz a s=>exact .sh o e len cap sz a (B _ _ _ s)|emp a=>exact .emp a|ja n M a N p=>exact .ja n M a N (q▸p)|fn f P u Q R z S _ _ l G=>exact .fn f P u Q R z S l G|cE t x v _ l=>exact .cE t x v l|agg u H z _ l=>exact .agg u H z l|fQ u H z _ l=>exact .fQ u H z l|gd c t v _ l=>exact .gd c t v l|mp o b h=>exact .mp o b (A▸h)|pz o b h=>exact .pz o b (A▸h)|qF o b h=>exact .qF o b (A▸h)|ub e b h=>exact .ub e b h|pL o m r i len cap sz a s=>exact .pL o m r i len cap sz a (B _ _ _ s)|nk j d c a F p=>exact .nk j d c a F (q▸p)
def gC.imp{g g':Gh}(b:∀t v,aC g w t v->aC g' w' t v){x:Obj}(a:gC g w ob x):gC g' w' ob x:=by
 cases a with
 |box e f ty d a=>exact .box e f ty d λj t v h1 h2=>b _ _ (a j t v h1 h2)
 |map h i c d a=>exact .map h i c d λj t m h1 h2=>⟨b _ _ (a j t m h1 h2).1,b _ _ (a j t m h1 h2).2⟩
 |oG s pos=>exact .oG s pos
 |lp l r h1 h2 h4 h5 h6 n o=>exact .lp l r h1 h2 h4 h5 h6 n λk t p=>let ⟨v,q,u⟩:=o k t p;⟨v,q,b _ _ u⟩
 |wE=>exact .wE
def gC.ext{fl:Nat}{g g':Gh}{w w':World}(h:Ext fl g w g' w')(a:∀b,g.bf b->b<w.heap.size){ob:Ob}{x:Obj}(c:gC g w ob x):gC g' w' ob x:=
 c.imp (λ_ _ d=>d.ext h a)
def sk(p:T->Bool)(t u:T):Prop:=(u=t∧p t=J)∨∃v,u=.gd J v
def o9(p:T->Bool)(ob a:Ob):Prop:=
 match ob,a with
 | .box cs,.box ds=>cs.length=ds.length∧∀(j:Nat)(t u:T),cs[j]?=Z t->ds[j]?=Z u->sk p t u
 | .map es,.map ds=>es.length=ds.length∧∀(j:Nat)(t u:T×T),es[j]?=Z t->ds[j]?=Z u->sk p t.1 u.1∧sk p t.2 u.2
 | .jL nj sz es era m gf hole,a=>(a=.jL nj sz es era m gf hole∧p (.sh m 0)=J)∨a=.gone
 | .lp l,.lp m=>m={l with fr:=m.fr}∧m.fr.n=l.fr.n∧∀k u,m.fr.get k=Z u->∃t,l.fr.get k=Z t∧sk p t u
 |ob,a=>ob=a
def sk.rel{g g':Gh}(a:∀t v,aC g w t v->p t=J->aC g' w' t v){u:T}(h:sk p t u)(b:aC g w t v):aC g' w' u v:=by
 rcases h with⟨rfl,c⟩|⟨x,rfl⟩
 .exact a _ _ b c
 .exact .gd _ _ _ λh=>by cases h
def mR{α:Type}{l:L α}{j:Nat}{a:α}(h:l[j]?=Z a):j<l.length:=(sv.1 h).1
def gC.left{g g':Gh}(i:∀t v,aC g w t v->p t=J->aC g' w' t v){a:Ob}{x:Obj}(d:gC g w ob x)(hl:o9 p ob a):gC g' w' a x:=by
 cases d with
 |box A B ty f d=>
  cases a with
  |box ds=>
   obtain⟨n,o⟩:=hl;refine .box ds B ty (by omega) λj u v b q=>?_;have h:j<A.length:=by rw[n];exact mR b
   exact(o j _ u (eS h) b).rel i (d j _ v (eS h) q)
  |_=>cases hl
 |map C E c f d=>
  cases a with
  |map ds=>
   obtain⟨n,o⟩:=hl;refine .map ds E c (by omega) λj u m b F=>?_;have h:j<C.length:=by rw[n];exact mR b
   have h1:=o j _ u (eS h) b;have h2:=d j _ m (eS h) F;exact⟨h1.1.rel i h2.1,h1.2.rel i h2.2⟩
  |_=>cases hl
 |oG s pos=>cases a<;>first|(cases hl;exact .oG _ _)|cases hl
 |lp l r h1 h2 h4 h5 h6 G H=>
  cases a with
  |lp m=>obtain⟨e,I,K⟩:=hl;rw[e];refine .lp _ r h1 h2 h4 h5 h6 (G.trans I.symm) λk u b=>?_;obtain⟨t,M,y⟩:=K k u b;obtain⟨v,q,z⟩:=H k t M;exact⟨v,q,y.rel i z⟩
  |_=>cases hl
 |wE=>cases a<;>first|exact .wE|cases hl
def tU.imp{g g':Gh}(c:∀t v,aC g w t v->aC g' w' t v)(i:∀o b,g.bG o=Z b->g'.bG o=Z b){d:Df}{e:Deferred}(h:tU g w d e):tU g' w' d e:=by
 cases h with
 |call f args k first cap a h3 h4 h5=>exact .call f args k first cap a (c _ _ h3) h4 (λj t v l m=>c _ _ (h5 j t v l m))
 |mark o b h=>exact .mark o b (i o b h)
 |bad=>exact .bad _
def ei.imp{g g':Gh}{w w':World}(e:∀t v,aC g w t v->aC g' w' t v)(f:∀o b,g.bG o=Z b->g'.bG o=Z b){l:L Df}{m:L Deferred}(h:ei g w l m):ei g' w' l m:=by
 induction h with|nil=>exact .nil|cons h _ a=>exact .cons (h.imp e f) a|marks o i j h _ a=>exact .marks o i j (λb d=>let ⟨n,c,h1⟩:=h b d;⟨n,c,e _ _ h1⟩) a|jc k _ a=>exact .jc k a
def MQ(p:T->Bool)(d e:Df):Prop:=(e=.bad∧d.one=W)∨(e=d∧match d with
 | .call f args=>p f=J∧∀t∈args,p t=J
 | .mark o=>p (.ptr o 0)=J
 | .marks _=>False
 | .jc=>False
 | .bad=>True)
inductive gD(p:T->Bool):List Df->List Df->Prop where
 |nil:gD p [] []
 |cons {d e:Df} {l m:List Df} (h:MQ p d e) (t:gD p l m):gD p (d::l) (e::m)
 |marks (o:Nat) {l m:List Df} (h:∀e,p (.sh o e)=J) (t:gD p l m):gD p (.marks o::l) (.marks o::m)
 |Zd (o:Nat) {l m:List Df} (t:gD p l m):gD p (.marks o::l) (.jc::m)
 |jc {l m:List Df} (t:gD p l m):gD p (.jc::l) (.jc::m)
def MQ.rel{g g':Gh}(c:∀t v,aC g w t v->p t=J->aC g' w' t v){d e:Df}{x:Deferred}(h:MQ p d e)(l:tU g w d x):tU g' w' e x:=by
 rcases h with⟨rfl,_⟩|⟨rfl,h⟩
 .exact .bad _
 .cases l with
  |call f args m first cap a h3 h4 h5=>exact .call f args m first cap a (c _ _ h3 h.1) h4 (λj t v k n=>c _ _ (h5 j t v k n) (h.2 t (gk k)))
  |mark o b q=>
   have:=c _ _ (.ptr o 0 b q) h;cases this with|ptr _ _ _ i=>exact .mark o b i
  |bad=>exact .bad _
def gD.rel{g g':Gh}{w w':World}{p:T->Bool}(a:∀t v,aC g w t v->p t=J->aC g' w' t v):∀{l m:L Df}{d:L Deferred},gD p l m->ei g w l d->ei g' w' m d
 |_,_,_,.nil,.nil=>.nil
 |_,_,_,.cons h t,.cons k u=>.cons (h.rel a k) (gD.rel a t u)
 |_,_,_,.cons h _,.marks _ _ _ _ _=>by rcases h with⟨_,h⟩|⟨_,h⟩<;>cases h
 |_,_,_,.cons h _,.jc _ _=>by rcases h with⟨_,h⟩|⟨_,h⟩<;>cases h
 |_,_,_,.marks o h t,.marks _ e f k u=>.marks o e f (λb i=>let ⟨n,c,h1⟩:=k b i;⟨n,c,a _ _ h1 (h b)⟩) (gD.rel a t u)
 |_,_,_,.marks _ _ _,.cons k _=>by cases k
 |_,_,_,.Zd o t,.marks _ e _ _ u=>.jc _ (gD.rel a t u)
 |_,_,_,.Zd _ _,.cons k _=>by cases k
 |_,_,_,.jc t,.jc d u=>.jc d (gD.rel a t u)
 |_,_,_,.jc _,.cons k _=>by cases k
def cg.ext{fl:Nat}{g g':Gh}{w w':World}(h:Ext fl g w g' w')(d:∀b,g.bf b->b<w.heap.size){fr:Fr}{a:Act}(hf:cg g fr a w):cg g' fr a w':=
 ⟨hf.size,hf.df.imp (λ_ _ c=>c.ext h d) h.bG,λk t e=>let ⟨v,f,c⟩:=hf.tm k t e;⟨v,f,c.ext h d⟩⟩
end
section
def dD:TypeDesc->Bool
 | .struct _|.array _ _=>W
 |_=>J
def aaC(d:D)(v:Value):Prop:=(d=.sl []∧v=.slice Y 0 0)∨d=.lit v
def ZOk(zero:L D)(cells:Array Value):Prop:=
 zero.length=cells.size∧∀(j:Nat)(d:D)(v:Value),zero[j]?=Z d->cells[j]?=Z v->aaC d v
def Kv(P:Program):Kd->TypeDesc->Prop
 | .leaf (.int k),d=>d=.int k
 | .leaf .bool,d=>d=.bool
 | .leaf .str,d=>d=.string
 | .leaf .no,_=>True
 | .ptr,d=>∃e,d=.pointer e
 | .slice sz ag b zero,d=>∃e j a z,d=.slice e∧P.info? e=Z j∧j.size=sz∧P.underlying e=Z a∧ag=dD a∧j.zero=Z z∧ZOk zero z.cells∧j.bytes<=4096∧0<sz∧j.bytes<=b∧b<=2*j.bytes∧0<j.bytes∧zero.length=sz
 | .struct c,d=>∃fields,d=.struct fields∧fields.size=c.length∧∀(k:Nat)off size ag,c[k]?=Z (off,size,ag)->
   ∃f j a,fields[k]?=Z f∧f.offset=off∧P.info? f.type=Z j∧j.size=size∧P.underlying f.type=Z a∧ag=dD a
 | .array len sz ag,d=>∃e j a,d=.array len e∧P.info? e=Z j∧j.size=sz∧P.underlying e=Z a∧ag=dD a
 | .iface,d=>∃g,d=.interface g
 | .other,_=>True
def yc:Lk->Value->Prop
 | .int k,v=>∃n,v=.int k n
 | .bool,v=>∃b,v=.bool b
 | .str,v=>∃b,v=.string b
 | .no,_=>False
def CU:Value->Value->Bool
 | .int _ a,.int _ b=>a==b
 | .bool a,.bool b=>a==b
 | .string a,.string b=>a==b
 |_,_=>J
def jU:L Value->L Value->Bool
 |a::l,b::m=>CU a b&&jU l m
 |_,_=>W
def aa2(P:Program)(t:TypeId)(a:L Lk):Prop:=
 ∀(w:World)(op:BinOp)(x y:Operand)(b ys:Array Value),b.size=a.length->ys.size=a.length->
  (∀(j:Nat)(l:Lk)(v:Value),a[j]?=Z l->b[j]?=Z v->yc l v)->(∀(j:Nat)(l:Lk)(v:Value),a[j]?=Z l->ys[j]?=Z v->yc l v)->
  (eqGuard op t x y (.agg b) (.agg ys)).run P w=.ok () w∧(Op.equal t (.agg b) (.agg ys)).run P w=.ok (jU b.toList ys.toList) w
structure mw(P:Program)(t:TypeId)(i:TI):Prop where
 eqs:i.agg=W->i.lks≠[]->aa2 P t i.lks
 nif:∀ms,P.underlying t=Z (.interface ms)->i.kd=.iface
 zag:∀x z,P.info? t=Z x->x.zero=Z z->(i.agg=W->∃vs,z=.agg vs)∧(i.agg=J->z.cells=#[z])
 all:∃x d z,P.info? t=Z x∧P.underlying t=Z d∧x.size=i.size∧i.agg=dD d∧x.zero=Z z∧ZOk i.zero z.cells∧Kv P i.kd d
section
variable {P:Program}
def aI{t:TypeId}{d:TypeDesc}(h:P.underlying t=Z d)(w:World):(underlying t).run P w=.ok d w:=by simp[underlying,h]
def pF{t:TypeId}{x:TypeInfo}(h:P.info? t=Z x)(w:World):(typeInfo t).run P w=.ok x w:=by simp[typeInfo,h]
def de{t:TypeId}{x:TypeInfo}(h:P.info? t=Z x)(w:World):(Go.sizeOf t).run P w=.ok x.size w:=by simp[Go.sizeOf,pF h]
def qN{t:TypeId}{d:TypeDesc}(h:P.underlying t=Z d)(w:World):(isAgg t).run P w=.ok (dD d) w:=by simp only[isAgg,Sem.run_bind,aI h,Result.andThen_ok];cases d<;>rfl
def dQ{t:TypeId}{x:TypeInfo}{z:Value}(h:P.info? t=Z x)(a:x.zero=Z z)(w:World):(zeroValue t).run P w=.ok z w:=by simp[zeroValue,pF h,a]
def beq_iff'{a b:Nat}:Nat.beq a b=W↔a=b:=by
 constructor
 .exact mV
 .intro h;subst h;exact E4 a
def wS{t:TypeId}{x:TypeInfo}{d:TypeDesc}(f:P.info? t=Z x)(g:P.underlying t=Z d)(w:World)(a:Addr)(vals:L Value)(hl:vals.length=x.size)
  (c:∀j v,vals[j]?=Z v->w.cell? (a.add j)=Z v) (h1:dD d=J->∃v,vals=[v]) :
  (loadVar t a).run P w=.ok (if dD d then .agg vals.toArray else vals.headD undef) w:=by
 have b:=run_loadCells_list (P:=P) w a vals c;simp only[loadVar,Sem.run_bind,qN g,Result.andThen_ok];cases h:dD d with|true=>simp[de f,<-hl,b]|false=>obtain⟨v,rfl⟩:=h1 h;have e:=c 0 v rfl;simp[Addr.add]at e;simp[e]
end
variable {j:Nat}{ag:Bool}{cs:List T}{t:T}{g:Gh}{w:World}
def ax{α:Type}{l:L α}{x:α}(h:l[j]?=Z x):j<l.length:=by
 rcases uW j l.length with a|a
 .exact a
 .rw[Ln a]at h;cases h
def nR{n k:Nat}(h:(List.range n)[j]?=Z k):j=k∧j<n:=by
 have a:j<n:=by have:=ax h;simpa using this
 rw[Lj a]at h;exact⟨by simpa using h,a⟩
def tK(a:Addr)(i j:Nat):(a.add i).add j=a.add (i+j):=by unfold Addr.add;by_cases b:i=0<;>by_cases c:j=0<;>simp[b,c,Nat.add_assoc]
def Ca(h:sP ag cs=Z t):(ag=W∧t=.agg cs)∨(ag=J∧cs=[t]):=by
 unfold sP at h;cases ag with
 |true=>simp at h;exact .inl ⟨rfl,h.symm⟩
 |false=>
  simp at h;split at h
  .simp at h;subst h;exact .inr ⟨rfl,rfl⟩
  .cases h
def um(h:sP ag cs=Z t){vals:L Value}(hl:cs.length=vals.length)
  (a:∀(j:Nat)(t:T)(v:Value),cs[j]?=Z t->vals[j]?=Z v->aC g w t v) :
  aC g w t (if ag then .agg vals.toArray else vals.headD undef)∧(ag=J->∃v,vals=[v]):=by
 rcases Ca h with⟨rfl,rfl⟩|⟨rfl,rfl⟩
 .exact ⟨.agg _ _ (by simpa using hl) (λj t v h1 h2=>a j t v h1 (by simpa using h2)),λh=>by cases h⟩
 .match vals,hl with
  |[v],_=>exact⟨a 0 _ _ rfl rfl,λ_=>⟨v,rfl⟩⟩
def pE{α:Type}(l:L α)(off n j:Nat)(x:α)(h:((l.drop off).take n)[j]?=Z x):l[off+j]?=Z x∧j<n:=by
 rw[uF]at h;split at h
 .rename_i a;rw[Au]at h;exact⟨h,a⟩
 .cases h
def D.Dm(d:D)(j:Nat)(h:j<d.cells.length):d.cells[j]?=Z (d.cell j):=by simp[D.cell,List.getD,eS h]
def zH{P:Program}{ty:TypeId}{i:TI}(r:mw P ty i){d:D}{off:Nat}(h:mP i d off=Z t)(s:d.has (Nat.add off i.size))
  {ad:Addr} {val:Nat->Value} (u:∀j c,d.cells[j]?=Z c->w.cell? (ad.add j)=Z (val j)) (y:∀j c,d.cells[j]?=Z c->dM g.bf w c (val j)) :
  ∃v,(loadVar ty (ad.add off)).run P w=.ok v w∧aC g w t v:=by
 obtain⟨x,ds,z,A,B,m,e,_⟩:=r.all;have E:off+i.size<=d.cells.length:=s;have a:∀j,j<i.size->w.cell? ((ad.add off).add j)=Z (val (off+j))∧dM g.bf w (d.cell (off+j)) (val (off+j)):=by
  intro j n;have b:off+j<d.cells.length:=by omega
  rw[tK];exact⟨u _ _ (D.Dm d _ b),y _ _ (D.Dm d _ b)⟩
 have f:=wS (P:=P) A B w (ad.add off) ((List.range i.size).map λj=>val (off+j)) (by simp[m]) (λj v n=>by
  simp only[gj,ec]at n;obtain⟨k,o,rfl⟩:=n;obtain⟨rfl,b⟩:=nR o;exact(a j b).1)
 unfold mP at h;cases p:i.agg with
 |true=>
  rw[p]at h e;simp at h;subst h;refine⟨_,f (λq=>by rw[<-e]at q;cases q),?_⟩;rw[<-e];simp only[qg];refine .agg _ _ (by simp) (λj t v h1 h2=>?_);simp only[gj,ec]at h1;obtain⟨k,o,rfl⟩:=h1;obtain⟨rfl,b⟩:=nR o;have C:v=val (off+j):=by simp[b]at h2;exact h2.symm
  subst C;exact .sym _ _ (a j b).2
 |false=>
  rw[p]at h e;simp at h;by_cases h1:Nat.beq i.size 1=W
  .simp[h1]at h;subst h;have l:=beq_iff'.1 h1;refine⟨_,f (λ_=>⟨val off,by simp[l]⟩),?_⟩;rw[<-e];have:=(a 0 (by omega)).2;simp[l];exact .sym _ _ (by simpa using this)
  .rw[Bool.not_eq_true]at h1;simp[h1]at h
end
section
def aa{α:Type}{b:Bool}{x y:O α}{z:α}(h:(bif b then x else y)=Z z):(b=W∧x=Z z)∨(b=J∧y=Z z):=by
 cases b
 .exact .inr ⟨rfl,h⟩
 .exact .inl ⟨rfl,h⟩
variable {w:World}{d:D}{v:Value}{g:Gh}{t:T}{i:TI}{s:St}{o e sz k:Nat}{es:List D}{fz:Bool}
def sW{I:Nat->Prop}(hl:d.leaf=W)(h:dM I w d v):v.oneCell'=W∧v.cells=#[v]:=by
 cases h with
 |lit v=>cases v<;>first|exact⟨rfl,rfl⟩|cases hl
 |sl=>exact⟨rfl,rfl⟩
 |agg=>cases hl
 |cE=>exact⟨rfl,rfl⟩
 |fQ=>cases hl
def OX(hl:t.leaf)(h:aC g w t v):v.oneCell'=W∧v.cells=#[v]:=by cases h with|sym d v a=>exact sW hl a|agg=>exact hl.elim|fQ=>exact hl.elim|gd=>exact hl.elim|_=>exact⟨rfl,rfl⟩
def v9{n:Nat}(h:d.isAgg n=W):∃cs,d=.agg cs∧cs.length=n∧∀c∈cs,c.leaf=W:=by
 unfold D.isAgg at h;split at h
 .rename_i cs;simp only[dI]at h;refine⟨cs,rfl,?_,?_⟩
  .rw[<-bA];exact beq_iff'.1 h.1
  .simpa using h.2
 .cases h
def kO{p:Prop}{cs:L T}(h:ij i t=Z (p,cs))(q:p)(r:aC g w t v) :
  cs.length=i.size∧v.cells.size=i.size∧(∀(j:Nat)(t:T)(u:Value),cs[j]?=Z t->v.cells[j]?=Z u->aC g w t u)∧
  (i.agg=W->∃vs,v=.agg vs)∧(i.agg=J->v.cells=#[v]∧i.size=1):=by
 cases r with
 |agg y vs f l=>
  simp only[ij]at h;rcases aa h with⟨c,h⟩|⟨_,h⟩
  .simp only[dI]at c;have e:=beq_iff'.1 c.2;rw[bA]at e;simp only[aV,bq]at h;obtain⟨_,rfl⟩:=h;refine⟨e,by simp[Value.cells,<-f,e],λj t u h1 h2=>l j t u h1 h2,λ_=>⟨vs,rfl⟩,λb=>by rw[c.1]at b;cases b⟩
  .cases h
 |sym d v m=>
  simp only[ij]at h;rcases aa h with⟨c,h⟩|⟨c,h⟩
  .simp only[aV,bq]at h;obtain⟨rfl,rfl⟩:=h;obtain⟨ds,rfl,e,s⟩:=v9 q;cases m with|agg _ vs f _ l=>refine⟨by simp,by simp[Value.cells,<-f,e],λj t u h1 h2=>?_,λ_=>⟨vs,rfl⟩,λb=>by rw[c]at b;cases b⟩;simp only[gj,ec]at h1;obtain⟨k,x,rfl⟩:=h1;obtain⟨rfl,n⟩:=nR x;exact .sym _ _ (l j _ u (D.Dm (.agg ds) j (by simpa[D.cells,e]using n)) h2)
  .rcases aa h with⟨h1,h⟩|⟨_,h⟩
   .simp only[aV,bq]at h;obtain⟨rfl,rfl⟩:=h;have a:=beq_iff'.1 h1;obtain⟨_,o⟩:=sW q m;refine⟨by simp[a],by simp[o,a],λj t u h2 h3=>?_,λb=>(by rw[c]at b;cases b),λ_=>⟨o,a⟩⟩;rw[o]at h3;cases j with|zero=>simp at h2 h3;subst h2;subst h3;exact .sym _ _ m|succ j=>simp at h2
   .cases h
 |fQ=>cases h
 |gd=>cases h
 |kb|kn|ptr|lR|jV|sh|emp|ja|fn|cE|mp|pz|qF|ub|pL|nk=>
  all_goals
   simp only[ij]at h;rcases aa h with⟨_,h⟩|⟨c,h⟩
   .cases h
   .rcases aa h with⟨h1,h⟩|⟨_,h⟩
    .simp only[aV,bq]at h;obtain⟨_,rfl⟩:=h;have a:=beq_iff'.1 h1;refine⟨by simp[a],by simp[Value.cells,a],?_,λb=>(by rw[c]at b;cases b),λ_=>⟨rfl,a⟩⟩;intro j t u h2 h3;cases j with|zero=>simp[Value.cells]at h2 h3;subst h2;subst h3;constructor<;>assumption|succ j=>simp at h2
    .cases h
def FU(h:EF s o e=Z (sz,es)):∃fz,s.ob.get o=Z (fc fz sz es e):=by
 unfold EF at h;split at h
 .rename_i a b era c;rcases aa h with⟨d,h⟩|⟨_,h⟩
  .have:=beq_iff'.1 d;subst this;simp at h;obtain⟨rfl,rfl⟩:=h;exact⟨J,c⟩
  .cases h
 .rename_i a b era c;rcases aa h with⟨d,h⟩|⟨_,h⟩
  .have:=beq_iff'.1 d;subst this;simp at h;obtain⟨rfl,rfl⟩:=h;exact⟨W,c⟩
  .cases h
 .cases h
def ju{a:Bool}{b d:Nat}{c:L D}(h:fc fz sz es e=fc a b c d):fz=a∧sz=b∧es=c∧e=d:=by cases fz<;>cases a<;>simp[fc]at h<;>exact⟨rfl,h⟩
def aU.mJ(hs:aU g s w){x:eX}(c:s.ob.get o=Z (fc fz sz es e))(d:g.arr o e=Z x) :
  tZ g w fz sz es x∧x.sz=sz:=by
 obtain⟨f,h,era,a,_,_,b⟩:=(hs.arr o e x d).old _ c (QI _ _ _ _);obtain⟨rfl,h2,rfl,rfl⟩:=ju a;exact⟨h2▸b rfl,h2.symm⟩
def cell?_of_block{b off:Nat}{vs:Array Value}{ty:TypeId}{fz:Nat×Nat}(h:w.heap[b]?=Z (.cells vs ty fz)):w.cell? ⟨b,off,Y⟩=vs[off]?:=by simp[World.cell?,h]
def mK(b off n:Nat):(⟨b,off,Y⟩:Addr).add n=⟨b,off+n,Y⟩:=by unfold Addr.add;split<;>simp_all
def N2(h:D.En (k:Int) (D.len es)):k<es.length:=by have:=h.2;unfold D.len at this;omega
def D.HD(h:k<es.length):es[k]?=Z (D.el es k):=by simp[D.el,List.getD,eS h]
def zR{P:Program}{ty:TypeId}(K:mw P ty i){s':St}(hs:aU g s w){x:T}{vx:Value}(M:aC g w x vx)
  {p:Prop} {t:T} (h:loadT i s x=Z (p,t,s')) (N:p):∃v,(Instr.loadAt ty vx).run P w=.ok v w∧aC g w t v∧s'=s:=by
 cases M with
 |ptr o off b hb=>
  cases C:s.ob.get o with
  |none=>simp[loadT,C]at h
  |some ob=>
  simp only[loadT,C]at h;cases ob with
  |box cs=>
  obtain⟨E,Q,R,hl,hr⟩:=(hs.box o b hb).box C;simp only at h;rcases aa h with⟨hn,h⟩|⟨_,h⟩
  .have u:=beq_iff'.1 hn;rw[bA]at u;simp only[ec,bq]at h;obtain⟨t',a,_,rfl,rfl⟩:=h;obtain⟨xi,d,z,S,hu,l,F,_⟩:=K.all;have n:((E.toList.drop off).take i.size).length=i.size:=by
    have:((cs.drop off).take i.size).length=((E.toList.drop off).take i.size).length:=by simp[hl]
    rw[<-this,u]
   obtain⟨G,h1⟩:=um (g:=g) (w:=w) a (vals:=(E.toList.drop off).take i.size) (by rw[u,n]) (λj t v h1 h2=>by
    obtain⟨h1,_⟩:=pE _ _ _ _ _ h1;obtain⟨h2,_⟩:=pE _ _ _ _ _ h2;exact hr _ _ _ h1 (by simpa using h2))
   refine⟨_,?_,G,rfl⟩;have:=wS (P:=P) S hu w ⟨b,off,Y⟩ ((E.toList.drop off).take i.size) (by rw[n,l]) (λj v A=>by
    obtain⟨A,_⟩:=pE _ _ _ _ _ A;rw[mK,cell?_of_block R];simpa using A) (λhf=>h1 (by rw[F,hf]))
   rw[F];simpa[Instr.loadAt,Instr.sureAddr]using this
  .cases h
  |_=>simp at h
 |lR d off ad val PZ f X=>simp only[loadT,ec,bq]at h;obtain⟨t',a,rfl,rfl,rfl⟩:=h;obtain⟨v,B,ht⟩:=zH K a N f X;exact⟨v,by simpa[Instr.loadAt,Instr.sureAddr]using B,ht,rfl⟩
 |jV o e k off len cap sz ad M=>
  simp only[loadT]at h;cases ha:EF s o e with
  |none=>simp[ha]at h
  |some q=>
   obtain⟨sz',es⟩:=q;obtain⟨fz,C⟩:=FU ha;obtain⟨y,l⟩:=hs.mJ C M;simp only[ha,ec,bq]at h;obtain⟨t',a,rfl,rfl,rfl⟩:=h;simp only at l;subst l;have hk:=N2 N.1;have H:(⟨Z ad,len,cap,sz⟩:eX).cap≠0:=by have h1:=y.len;have h2:=y.cap;simp only at h1 h2 ⊢;omega
   obtain⟨b,E,Q,I,_,R,_,m⟩:=y.mem H;simp only[aV]at I;subst I;have hex:∀j,∃v,∀c,(D.el es k).cells[j]?=Z c->w.cell? ((⟨b,k*sz,Y⟩:Addr).add j)=Z v∧dM g.bf w c v:=by
    intro j;by_cases A:j<(D.el es k).cells.length
    .obtain ⟨v,B,X⟩:=m k _ j _ (D.HD hk) (eS A);refine⟨v,λc f=>?_⟩;rw[eS A]at f;rw[<-ew f,mK,cell?_of_block R];exact⟨B,X⟩
    .exact ⟨undef,λc f=>by rw[Ln (by omega)]at f;cases f⟩
   obtain⟨val,r⟩:=Pm hex;obtain⟨v,B,ht⟩:=zH K a N.2 (ad:=⟨b,k*sz,Y⟩) (val:=val) (λj c f=>(r j c f).1) (λj c f=>(r j c f).2);refine⟨v,?_,ht,rfl⟩;rw[mK]at B;rw[mK];simpa[Instr.loadAt,Instr.sureAddr]using B
 |_=>simp[loadT]at h
end
section
def setRow_other(w:World)(g b:Nat)(cs:Array Value)(h:b≠g):(w.setRow g cs).heap[b]?=w.heap[b]?:=by unfold World.setRow;rw[Array.getElem?_modify,bK (λe=>h e.symm)]
variable {g g':Gh}{s s':St}{w w':World}{o b e fl sz:Nat}{x:eX}{fz:Bool}{es:List D}{ob:Ob}
def aU.lt(hs:aU g s w)(h:g.bG o=Z b):o<s.au:=by
 rcases uW o s.au with a|a
 .exact a
 .rw[(hs.af o a).1]at h;cases h
def aU.lt'(hs:aU g s w)(h:g.arr o e=Z x):o<s.au:=by
 rcases uW o s.au with a|a
 .exact a
 .rw[(hs.af o a).2 e]at h;cases h
def aU.nX(hs:aU g s w)(h:br g o b):b<w.heap.size∧o<s.au:=by
 rcases h.2 with h1|⟨e,x,c,h1,d,a,f⟩
 .exact ⟨(hs.box o b h1).2.1,hs.lt h1⟩
 .exact ⟨a▸(hs.arr o e x h1).1 c d f,hs.lt' h1⟩
def tV.ext{g g':Gh}{s s':St}{w w':World}{fl o b:Nat}(e:Ext fl g w g' w')(f:∀b,g.bf b->b<w.heap.size)(i:w'.heap[b]?=w.heap[b]?)
  (j:s'.ob.get o=s.ob.get o) (a:¬g'.bf b) (h:tV g s w o b):tV g' s' w' o b:=by
 obtain⟨_,c,k⟩:=h;refine⟨a,gN c e.size,λob d=>?_⟩;obtain⟨x,h1,h2⟩:=k ob (j▸d);exact⟨x,i.trans h1,h2.ext e f⟩
def tZ.ext{g g':Gh}{w w':World}{fl:Nat}{fz:Bool}{sz:Nat}{es:L D}{x:eX}(e:Ext fl g w g' w')(f:∀b,g.bf b->b<w.heap.size)
  (k:∀b,x.a=Z ⟨b,0,Y⟩->x.cap≠0->w'.heap[b]?=w.heap[b]?∧(g'.bf b↔g.bf b)) (h:tZ g w fz sz es x):tZ g' w' fz sz es x:=
 ⟨h.len,h.cap,h.rows,h.pos,h.Vd,h.emp,λa=>by
  obtain⟨b,l,ty,h1,h2,h3,h4,h5⟩:=h.mem a;obtain⟨m,n⟩:=k b h1 a;exact⟨b,l,ty,h1,h2.trans n.symm,m.trans h3,h4,λi d j c o p=>let ⟨v,q,r⟩:=h5 i d j c o p;⟨v,q,r.ext e f⟩⟩⟩
def tZ.iW(h:tZ g w fz sz es x)(a:g'.bf=g.bf):tZ g' w fz sz es x:=
 ⟨h.len,h.cap,h.rows,h.pos,h.Vd,h.emp,by rw[a];exact h.mem⟩
def EI.le{m gf:Nat}{hole:O Nat}{hs:L Value}(h:EI g m gf hole hs)(a:∀j y,g.arr m j=Z y->g'.arr m j=Z y):EI g' m gf hole hs:=
 ⟨h.1,λi v b c=>let ⟨y,h1,h2⟩:=h.2 i v b c;⟨y,a _ _ h1,h2⟩⟩
def so.tr(h:so g w o e x ob)(l:∀{fz sz es},tZ g w fz sz es x->tZ g' w' fz sz es x)(s:∀k j y,g.arr k j=Z y->g'.arr k j=Z y)(f:g'.arr o=g.arr o)(t:∀b,x.a=Z ⟨b,0,Y⟩->x.cap≠0->w'.heap[b]?=w.heap[b]?∧(g'.bf b↔g.bf b)):so g' w' o e x ob:=by
 rcases h with⟨fz,es,era,h1,h2,h3,h5⟩|⟨u,es,era,m,a,hole,h1,h2,h3,h5⟩|⟨sz,n,a,h1,h2,h3,h5⟩|h|⟨h1,h2,h3,h4,h5⟩
 .exact .inl ⟨fz,es,era,h1,h2,λp h=>by rw[f];exact h3 p h,λh=>l (h5 h)⟩
 .exact .inr (.inl ⟨u,es,era,m,a,hole,h1,h2,λp h=>by rw[f];exact h3 p h,λh=>let ⟨v,c,d,q⟩:=h5 h;⟨v,c,l d,q.le (s m)⟩⟩)
 .exact .inr (.inr (.inl ⟨sz,n,a,h1,λr i h=>by rw[f];exact h2 r i h,by rw[f];exact h3,λi h=>let ⟨c,z,d,q⟩:=h5 i h;⟨c,z,d,l q⟩⟩))
 .exact .inr (.inr (.inr (.inl h)))
 .obtain ⟨c,d⟩:=t e h2 h3;exact .inr (.inr (.inr (.inr ⟨h1,h2,h3,λA=>h4 (d.1 A),c.trans h5⟩)))
def so.left{p:T->Bool}{c:Ob}(h:so g w o e x ob)(hl:o9 p ob c)(n:∀{fz sz es},tZ g w fz sz es x->tZ g' w' fz sz es x)
  (t:∀m j y,p (.sh m 0)=J->g.arr m j=Z y->g'.arr m j=Z y) (l:g'.arr o=g.arr o) (u:∀b,x.a=Z ⟨b,0,Y⟩->x.cap≠0->w'.heap[b]?=w.heap[b]?∧(g'.bf b↔g.bf b)):so g' w' o e x c:=by
 rcases h with⟨fz,es,era,rfl,h2,h3,h5⟩|⟨v,es,era,m,a,hole,rfl,h2,h3,h5⟩|⟨sz,d,a,rfl,h2,h3,h5⟩|rfl|⟨rfl,h2,h3,h4,h5⟩
 .have:c=fc fz x.sz es era:=by cases fz<;>exact hl.symm
  exact .inl ⟨fz,es,era,this,h2,λq h=>by rw[l];exact h3 q h,λh=>n (h5 h)⟩
 .rcases hl with⟨rfl,z⟩|rfl
  .exact .inr (.inl ⟨v,es,era,m,a,hole,rfl,h2,λq h=>by rw[l];exact h3 q h,λh=>let ⟨A,f,k,s⟩:=h5 h;⟨A,f,n k,s.le (λj y=>t m j y z)⟩⟩)
  .exact .inr (.inr (.inr (.inl rfl)))
 .have:c=.rws sz d a:=hl.symm;exact .inr (.inr (.inl ⟨sz,d,a,this,λr i h=>by rw[l];exact h2 r i h,by rw[l];exact h3,λi h=>let ⟨f,B,k,s⟩:=h5 i h;⟨f,B,k,n s⟩⟩))
 .have:c=.gone:=hl.symm;exact .inr (.inr (.inr (.inl this)))
 .have:c=.Cj:=hl.symm;obtain⟨f,k⟩:=u e h2 h3;exact .inr (.inr (.inr (.inr ⟨this,h2,h3,λC=>h4 (k.1 C),f.trans h5⟩)))
def yh.ext{g g':Gh}{s s':St}{w w':World}{fl o e:Nat}{x:eX}(a:Ext fl g w g' w')(f:∀b,g.bf b->b<w.heap.size)
  (d:∀b,x.a=Z ⟨b,0,Y⟩->x.cap≠0->w'.heap[b]?=w.heap[b]?∧(g'.bf b↔g.bf b))
  (i:s'.ob.get o=s.ob.get o) (l:g'.arr o=g.arr o) (h:yh g s w o e x):yh g' s' w' o e x:=by
 refine⟨λm n p=>gN (h.1 m n p) a.size,λob c=>?_⟩;exact(h.2 ob (i▸c)).tr (λh=>h.ext a f d) (λk j y h=>a.arr k j y h) l d
def aU.YL(hs:aU g s w)(n:g.bG o=Z b){r:L T}(k:s.ob.get o=Z (.box r))(u:s.fl<=o){cs':L T}{vs':Array Value}(hl:cs'.length=vs'.size)
  (A:∀(j:Nat)(t:T)(v:Value),cs'[j]?=Z t->vs'[j]?=Z v->aC g w t v) :
  aU g {s with ob:=s.ob.set aA o (.box cs')} (w.setRow b vs')∧Ext s.fl g w g (w.setRow b vs'):=by
 have c:br g o b:=⟨(hs.box o b n).1,.inl n⟩;have m:o<bg:=gN (hs.lt n) hs.au;have q:Ext s.fl g w g (w.setRow b vs'):=
  ⟨λ_ _ h=>h,λ_ _ _ h=>h,λ_ h=>h,by simp,λd _ B=>setRow_other w b d vs' (λe=>B o u (e▸c)),
   λ_ _ h=>.inl h,λ_ h=>.inl h,rfl,rfl⟩
 refine⟨⟨hs.au,hs.af,λi d a=>?_,λi e x y=>?_,λd a=>by simpa using hs.bf d a,hs.jv⟩,q⟩
 .by_cases f:i=o
  .subst f;rw[n]at a;simp at a;subst a;obtain⟨h1,h2,h3⟩:=hs.box i b n;obtain⟨C,ty,h4,h5,h6⟩:=(hs.box i b n).box k;refine⟨h1,by simpa using h2,λE l=>⟨_,setRow_heap w b C vs' ty _ h4,?_⟩⟩;simp only[]at l;rw[Tr.aO _ _ _ _ m,aY rfl]at l;obtain rfl:=ew l;exact .box _ _ _ hl λj t v F G=>(A j t v F G).ext q hs.bf
  .have z:d≠b:=λe=>f (hs.jv i o b (e▸⟨(hs.box i d a).1,.inl a⟩) c);exact(hs.box i d a).ext q hs.bf (setRow_other w b d vs' z) (by simp only[];rw[Tr.aO _ _ _ _ m,bK f]) (hs.box i d a).1
 .have f:i≠o:=by
   rintro rfl
   cases((hs.arr i e x y).2 _ k).mQ
  refine(hs.arr i e x y).ext q hs.bf (λd a H=>⟨setRow_other w b d vs' ?_,nU⟩) (by simp only[];rw[Tr.aO _ _ _ _ m,bK f]) rfl
  rintro rfl
  by_cases p:g.bf d
  .exact c.1 p
  .exact f (hs.jv i o d ⟨p,.inr ⟨e,x,_,y,a,rfl,H⟩⟩ c)
def Gh.cU(g:Gh)(o b:Nat):Gh:={g with bG:=λk=>if k=o then Z b else g.bG k}
def nF(w:World)(o:Obj)(b:Nat)(h:b<w.heap.size):(w.alloc o).heap[b]?=w.heap[b]?:=by show(w.heap.push o)[b]?=_;rw[NF,bK (by omega)]
def uy(w:World)(o:Obj):(w.alloc o).heap[w.heap.size]?=Z o:=by show(w.heap.push o)[w.heap.size]?=_;simp
def aU.newObj(hs:aU g s w)(hn:s.au<bg){ob0:Ob}{x0:Obj}(u:gC g w ob0 x0) :
  aU (g.cU s.au w.heap.size) (dO s ob0).2 (w.alloc x0)∧Ext s.fl g w (g.cU s.au w.heap.size) (w.alloc x0):=by
 have c:=hs.af s.au (bS _);have k:∀o b,g.bG o=Z b->(g.cU s.au w.heap.size).bG o=Z b:=λo b h=>by
  have:o≠s.au:=λe=>by rw[e,c.1]at h;cases h
  simp[Gh.cU,this,h]
 have d:∀o b,br (g.cU s.au w.heap.size) o b->br g o b∨(o=s.au∧b=w.heap.size):=by
  rintro o b ⟨h1,h2|h2⟩
  .by_cases f:o=s.au
   .subst f;simp[Gh.cU]at h2;exact .inr ⟨rfl,h2.symm⟩
   .simp[Gh.cU,f]at h2;exact .inl ⟨h1,.inl h2⟩
  .exact .inl ⟨h1,.inr h2⟩
 have m:Ext s.fl g w (g.cU s.au w.heap.size) (w.alloc x0):=
  ⟨k,λ_ _ _ h=>h,λ_ h=>h,by simp,λb i _=>nF w _ b i,
   λo b h=>(d o b h).imp id λh=>by omega,λ_ h=>.inl h,rfl,rfl⟩
 refine⟨⟨by simp only[dO];omega,λo f=>?_,λo b i=>?_,λo e x r=>?_,λb i=>?_,λo t b h v=>?_⟩,m⟩
 .simp only[dO]at f;have h1:o≠s.au:=by omega
  simp only[Gh.cU,h1,if_false];exact hs.af o (by omega)
 .by_cases f:o=s.au
  .subst f;have n:b=w.heap.size:=by simp[Gh.cU]at i;exact i.symm
   subst n;refine⟨λp=>?_,by simp,λob j=>⟨_,uy w _,?_⟩⟩
   .have:=hs.bf _ p;omega
   .simp only[dO]at j;rw[Tr.aO _ _ _ _ hn,aY rfl]at j;obtain rfl:=ew j;exact u.ext m hs.bf
  .have q:g.bG o=Z b:=by simpa[Gh.cU,f]using i
   have a:=hs.box o b q;exact a.ext m hs.bf (nF w _ b a.2.1) (by simp only[dO];rw[Tr.aO _ _ _ _ hn,bK f]) a.1
 .have a:=hs.arr o e x r;have f:o≠s.au:=λh=>by have l:g.arr o e=Z x:=r;rw[h,c.2 e]at l;cases l
  refine a.ext m hs.bf (λb i y=>⟨nF w _ b ?_,nU⟩) (by simp only[dO];rw[Tr.aO _ _ _ _ hn,bK f]) rfl;exact a.1 _ i y
 .have:=hs.bf b i;simp;omega
 .rcases d o b h with h1|⟨h1,h3⟩<;>rcases d t b v with h2|⟨h2,h4⟩
  .exact hs.jv o t b h1 h2
  .have:=(hs.nX h1).1;omega
  .have:=(hs.nX h2).1;omega
  .rw[h1,h2]
def aU.cU{g:Gh}{s:St}{w:World}(hs:aU g s w)(hn:s.au<bg){cs:L T}{vs:Array Value}(ty:TypeId)(hl:cs.length=vs.size)
  (a:∀(j:Nat)(t:T)(v:Value),cs[j]?=Z t->vs[j]?=Z v->aC g w t v) :
  aU (g.cU s.au w.heap.size) (dO s (.box cs)).2 (w.alloc (.cells vs ty))∧Ext s.fl g w (g.cU s.au w.heap.size) (w.alloc (.cells vs ty)):=
 hs.newObj hn (.box cs vs ty hl a)
end
section
def Gh.era(g:Gh)(o e:Nat)(x:eX):Gh:={g with arr:=λk j=>if k=o∧j=e then Z x else g.arr k j}
def Gh.e9(g:Gh)(o e:Nat)(x:eX):(g.era o e x).arr o e=Z x:=by simp[Gh.era]
def Gh.bZ(g:Gh)(o e k j:Nat)(x:eX)(h:¬(k=o∧j=e)):(g.era o e x).arr k j=g.arr k j:=by simp[Gh.era,h]
variable {g:Gh}{s:St}{w w':World}{o e sz:Nat}{es es':List D}{x:eX}
def aU.aj1(hs:aU g s w){x':eX}(X:s.ob.get o=Z (.arr sz es e))(G:g.arr o e=Z x)
  (hfl:s.fl<=o) (hos:w'.os=w.os) (H:w'.output=w.output) (f:w.heap.size<=w'.heap.size)
  (i:∀b,b<w.heap.size->¬x.at b->w'.heap[b]?=w.heap[b]?)
  (I:∀b,x'.at b->b<w'.heap.size∧(w.heap.size<=b∨x.at b))
  (hok:tZ (g.era o (e+1) x') w' J sz es' x') (K:x'.sz=sz) :
  aU (g.era o (e+1) x') {s with ob:=s.ob.set aA o (.arr sz es' (e+1))} w'∧Ext s.fl g w (g.era o (e+1) x') w':=by
 have v:o<bg:=gN (hs.lt' G) hs.au;obtain⟨M,acN⟩:=hs.mJ (fz:=J) X G;have l:∀E,e<E->g.arr o E=Y:=by obtain⟨fz,B,era,h1,_,h3,_⟩:=(hs.arr o e x G).old _ X rfl;have C:fc J sz es e=fc fz x.sz B era:=h1;obtain⟨_,_,_,rfl⟩:=ju C;exact h3
 have r:∀b,x.at b->¬g.bf b:=by
  rintro b ⟨u,h1,rfl,h3⟩ z
  obtain⟨b',_,_,k1,k2,_⟩:=M.mem h3;rw[h1]at k1;simp only[aV]at k1;subst k1;exact Bool.noConfusion (k2.2 z)
 have c:∀b,x.at b->br g o b:=λb q=>by obtain⟨u,h1,h2,h3⟩:=q;exact⟨r b ⟨u,h1,h2,h3⟩,.inr ⟨e,x,u,G,h1,h2,h3⟩⟩
 have N:∀k j y,g.arr k j=Z y->(g.era o (e+1) x').arr k j=Z y:=λk j y h=>by
  rw[Gh.bZ]
  .exact h
  .rintro ⟨rfl,rfl⟩
   rw[l _ (by omega)]at h;cases h
 have P:∀k b,br (g.era o (e+1) x') k b->br g k b∨(k=o∧x'.at b):=by
  rintro k b ⟨h1,h2|⟨j,y,u,h2,h3,h4,h5⟩⟩
  .exact .inl ⟨h1,.inl h2⟩
  .by_cases Q:k=o∧j=e+1
   .obtain ⟨rfl,rfl⟩:=Q;rw[Gh.e9]at h2;simp only[aV]at h2;subst h2;exact .inr ⟨rfl,u,h3,h4,h5⟩
   .rw[Gh.bZ _ _ _ _ _ _ Q]at h2;exact .inl ⟨h1,.inr ⟨j,y,u,h2,h3,h4,h5⟩⟩
 have m:∀k b,br (g.era o (e+1) x') k b->br g k b∨(k=o∧w.heap.size<=b):=λk b h=>by
  rcases P k b h with h1|⟨h0,h1⟩
  .exact .inl h1
  .rcases (I b h1).2 with h2|h2
   .exact .inr ⟨h0,h2⟩
   .exact .inl (h0▸c b h2)
 have he:Ext s.fl g w (g.era o (e+1) x') w':=
  ⟨λ_ _ h=>h,N,λ_ h=>h,f,λb q hn=>i b q λp=>hn o hfl (c b p),λk b h=>(m k b h).imp id (·.2),λ_ h=>.inl h,hos,H⟩
 refine⟨⟨hs.au,λk hk=>⟨(hs.af k hk).1,λj=>?_⟩,λk b q=>?_,λk j y R=>?_,λb q=>gN (hs.bf b q) f,λk k' b h h'=>?_⟩,he⟩
 .rw[Gh.bZ]
  .exact (hs.af k hk).2 j
  .rintro ⟨rfl,_⟩
   have:=hs.lt' G;simp only at hk;omega
 .have d:k≠o:=by
   rintro rfl
   exact(hs.box k b q).yK J X
  have n:=hs.box k b q;refine n.ext he hs.bf (i b n.2.1 λp=>d (hs.jv k o b ⟨n.1,.inl q⟩ (c b p))) (by simp only[];rw[Tr.aO _ _ _ _ v,bK d]) n.1
 .by_cases d:k=o
  .subst d;by_cases hj:j=e+1
   .subst hj;rw[Gh.e9]at R;simp only[aV]at R;subst R;refine⟨λu ha F=>(I _ ⟨u,ha,rfl,F⟩).1,λob a=>.inl ⟨J,es',e+1,?_,bS _,λE h=>?_,λ_=>K▸hok⟩⟩
    .simp only[]at a;rw[Tr.aO _ _ _ _ v,aY rfl]at a;rw[<-ew a];simp only[fc,K];rfl
    .rw[Gh.bZ _ _ _ _ _ _ (by omega)];exact l E (by omega)
   .have t:g.arr k j=Z y:=by rwa [Gh.bZ _ _ _ _ _ _ (by omega)]at R
    have h4:=(hs.arr k j y t).1;obtain⟨fz,B,era,h1,h2,h3,_⟩:=(hs.arr k j y t).old _ X rfl;have C:fc J sz es e=fc fz y.sz B era:=h1;obtain⟨_,S,_,rfl⟩:=ju C;refine⟨λu ha F=>gN (h4 u ha F) f,λob a=>.inl ⟨J,es',e+1,?_,by omega,λE h=>?_,λh=>by omega⟩⟩
    .simp only[]at a;rw[Tr.aO _ _ _ _ v,aY rfl]at a;rw[<-ew a];simp only[fc,<-S];rfl
    .rw[Gh.bZ _ _ _ _ _ _ (by omega)];exact l E (by omega)
  .have t:g.arr k j=Z y:=by rwa [Gh.bZ _ _ _ _ _ _ (λh=>d h.1)]at R
   have A:=hs.arr k j y t;refine A.ext he hs.bf (λb q F=>⟨?_,nU⟩) (by simp only[];rw[Tr.aO _ _ _ _ v,bK d]) (funext λj=>Gh.bZ _ _ _ _ _ _ (λh=>d h.1));refine i b (A.1 _ q F) λp=>?_;by_cases z:g.bf b
   .exact r b p z
   .exact d (hs.jv k o b ⟨z,.inr ⟨j,y,_,t,q,rfl,F⟩⟩ (c b p))
 .rcases m k b h with h1|⟨h1,h3⟩<;>rcases m k' b h' with h2|⟨h2,h4⟩
  .exact hs.jv k k' b h1 h2
  .have:=(hs.nX h1).1;omega
  .have:=(hs.nX h2).1;omega
  .rw[h1,h2]
def aU.Lx(hs:aU g s w)(hn:s.au<bg)
  (z:w'.os=w.os) (r:w'.output=w.output) (d:w.heap.size<=w'.heap.size)
  (c:∀b,b<w.heap.size->w'.heap[b]?=w.heap[b]?) (E:∀b,x.at b->w.heap.size<=b∧b<w'.heap.size)
  (A:tZ (g.era s.au 0 x) w' J sz es x) (t:x.sz=sz) :
  aU (g.era s.au 0 x) (dO s (.arr sz es 0)).2 w'∧Ext s.fl g w (g.era s.au 0 x) w':=by
 have a:=hs.af s.au (bS _);have u:∀k j y,g.arr k j=Z y->(g.era s.au 0 x).arr k j=Z y:=λk j y h=>by
  rw[Gh.bZ]
  .exact h
  .rintro ⟨rfl,_⟩
   rw[a.2]at h;cases h
 have e:∀k b,br (g.era s.au 0 x) k b->br g k b∨(k=s.au∧w.heap.size<=b):=by
  rintro k b ⟨h1,h2|⟨j,y,v,h2,h3,h4,h5⟩⟩
  .exact .inl ⟨h1,.inl h2⟩
  .by_cases f:k=s.au∧j=0
   .obtain ⟨rfl,rfl⟩:=f;rw[Gh.e9]at h2;simp only[aV]at h2;subst h2;exact .inr ⟨rfl,(E b ⟨v,h3,h4,h5⟩).1⟩
   .rw[Gh.bZ _ _ _ _ _ _ f]at h2;exact .inl ⟨h1,.inr ⟨j,y,v,h2,h3,h4,h5⟩⟩
 have B:Ext s.fl g w (g.era s.au 0 x) w':=
  ⟨λ_ _ h=>h,u,λ_ h=>h,d,λb o _=>c b o,λk b h=>(e k b h).imp id (·.2),λ_ h=>.inl h,z,r⟩
 refine⟨⟨by simp only[dO];omega,λk G=>?_,λk b o=>?_,λk j y p=>?_,λb o=>gN (hs.bf b o) d,λk F b h H=>?_⟩,B⟩
 .simp only[dO]at G;refine⟨(hs.af k (by omega)).1,λj=>?_⟩;rw[Gh.bZ _ _ _ _ _ _ (by omega)];exact(hs.af k (by omega)).2 j
 .have q:g.bG k=Z b:=o;have i:=hs.box k b q;have m:k≠s.au:=λh=>by rw[h,a.1]at q;cases q
  exact i.ext B hs.bf (c b i.2.1) (by simp only[dO];rw[Tr.aO _ _ _ _ hn,bK m]) i.1
 .by_cases f:k=s.au∧j=0
  .obtain ⟨rfl,rfl⟩:=f;rw[Gh.e9]at p;simp only[aV]at p;subst p;refine⟨λv I C=>(E _ ⟨v,I,rfl,C⟩).2,λob l=>.inl ⟨J,es,0,?_,bS _,λK h=>?_,λ_=>t▸A⟩⟩
   .simp only[dO]at l;rw[Tr.aO _ _ _ _ hn,aY rfl]at l;rw[<-ew l];simp only[fc,t];rfl
   .rw[Gh.bZ _ _ _ _ _ _ (by omega)];exact a.2 K
  .rw[Gh.bZ _ _ _ _ _ _ f]at p;have m:k≠s.au:=λh=>by rw[h,a.2]at p;cases p
   have n:=hs.arr k j y p;refine n.ext B hs.bf (λb o C=>⟨?_,nU⟩) (by simp only[dO];rw[Tr.aO _ _ _ _ hn,bK m]) (funext λj=>Gh.bZ _ _ _ _ _ _ (λh=>m h.1));exact c b (n.1 _ o C)
 .rcases e k b h with h1|⟨h1,h3⟩<;>rcases e F b H with h2|⟨h2,h4⟩
  .exact hs.jv k F b h1 h2
  .have:=(hs.nX h1).1;omega
  .have:=(hs.nX h2).1;omega
  .rw[h1,h2]
def aU.YT(hs:aU g s w){b:Nat}(B:s.ob.get o=Z (.arr sz es e))(v:g.arr o e=Z x)
  (C:s.fl<=o) (P:x.at b) {vs':Array Value} (E:tZ g (w.setRow b vs') J sz es' x) :
  aU g {s with ob:=s.ob.set aA o (.arr sz es' e)} (w.setRow b vs')∧Ext s.fl g w g (w.setRow b vs'):=by
 have n:o<bg:=gN (hs.lt' v) hs.au;obtain⟨r,Q⟩:=hs.mJ (fz:=J) B v;have d:¬g.bf b:=by obtain⟨z,h1,rfl,h3⟩:=P;intro F;obtain⟨A,_,_,G,R,_⟩:=r.mem h3;rw[h1]at G;simp only[aV]at G;subst G;exact Bool.noConfusion (R.2 F)
 have f:br g o b:=by obtain⟨z,h1,h2,h3⟩:=P;exact⟨d,.inr ⟨e,x,z,v,h1,h2,h3⟩⟩
 have H:Ext s.fl g w g (w.setRow b vs'):=
  ⟨λ_ _ h=>h,λ_ _ _ h=>h,λ_ h=>h,by simp,λA _ S=>setRow_other w b A vs' (λe=>S o C (e▸f)),
   λ_ _ h=>.inl h,λ_ h=>.inl h,rfl,rfl⟩
 refine⟨⟨hs.au,hs.af,λk c p=>?_,λk j y q=>?_,λA I=>by simpa using hs.bf A I,hs.jv⟩,H⟩
 .have a:k≠o:=by
   rintro rfl
   exact(hs.box k c p).yK J B
  have i:=hs.box k c p;exact i.ext H hs.bf (setRow_other w b c vs' λe=>a (hs.jv k o c ⟨i.1,.inl p⟩ (e▸f))) (by simp only[];rw[Tr.aO _ _ _ _ n,bK a]) i.1
 .by_cases a:k=o
  .subst a;have h4:=(hs.arr k j y q).1;obtain⟨fz,K,era,h1,h2,h3,_⟩:=(hs.arr k j y q).old _ B rfl;have M:fc J sz es e=fc fz y.sz K era:=h1;obtain⟨_,m,_,rfl⟩:=ju M;refine⟨λz X p=>by simpa using h4 z X p,λob l=>.inl ⟨J,es',e,?_,h2,h3,λN=>?_⟩⟩
   .simp only[]at l;rw[Tr.aO _ _ _ _ n,aY rfl]at l;rw[<-ew l];simp only[fc,<-m];rfl
   .subst N;rw[v]at q;simp only[aV]at q;subst q;exact m▸E
  .have t:=hs.arr k j y q;refine t.ext H hs.bf (λc p u=>⟨setRow_other w b c vs' ?_,nU⟩) (by simp only[];rw[Tr.aO _ _ _ _ n,bK a]) rfl
   rintro rfl
   exact a (hs.jv k o c ⟨d,.inr ⟨j,y,_,q,p,rfl,u⟩⟩ f)
def Gh.jC(g:Gh)(P:Nat->Prop):Gh:={g with bf:=λb=>g.bf b∨P b}
def aU.WS(hs:aU g s w)(M:s.ob.get o=Z (.arr sz es e))(I:g.arr o e=Z x)
  (N:s.fl<=o) :
  aU (g.jC x.at) {s with ob:=s.ob.set aA o (.jC sz es e)} w∧Ext s.fl g w (g.jC x.at) w:=by
 have u:o<bg:=gN (hs.lt' I) hs.au;obtain⟨a,acN⟩:=hs.mJ (fz:=J) M I;have z:∀b,x.at b->¬g.bf b:=by
  rintro b ⟨P,h1,rfl,h3⟩ m
  obtain⟨b',_,_,E,k2,_⟩:=a.mem h3;rw[h1]at E;simp only[aV]at E;subst E;exact Bool.noConfusion (k2.2 m)
 have f:∀b,x.at b->br g o b:=λb A=>by obtain⟨P,h1,h2,h3⟩:=A;exact⟨z b ⟨P,h1,h2,h3⟩,.inr ⟨e,x,P,I,h1,h2,h3⟩⟩
 have p:∀k b,br (g.jC x.at) k b->br g k b∧¬x.at b:=λk b h=>⟨⟨λQ=>h.1 (.inl Q),h.2⟩,λQ=>h.1 (.inr Q)⟩;have K:Ext s.fl g w (g.jC x.at) w:=
  ⟨λ_ _ h=>h,λ_ _ _ h=>h,λ_ h=>.inl h,bS _,λ_ _ _=>rfl,λk b h=>.inl (p k b h).1,
   λb h=>h.imp id λh=>.inr ⟨o,N,f b h⟩,rfl,rfl⟩
 refine⟨⟨hs.au,hs.af,λk c t=>?_,λk j y F=>?_,λb A=>?_,λk k' b h h'=>hs.jv k k' b (p k b h).1 (p k' b h').1⟩,K⟩
 .have n:k≠o:=by
   rintro rfl
   exact(hs.box k c t).yK J M
  have q:=hs.box k c t;refine q.ext K hs.bf rfl (by simp only[];rw[Tr.aO _ _ _ _ u,bK n]) ?_
  rintro(m|B)
  .exact q.1 m
  .exact n (hs.jv k o c ⟨q.1,.inl t⟩ (f c B))
 .by_cases n:k=o
  .subst n;have h4:=(hs.arr k j y F).1;obtain⟨fz,R,era,h1,h2,h3,_⟩:=(hs.arr k j y F).old _ M rfl;have S:fc J sz es e=fc fz y.sz R era:=h1;obtain⟨_,l,_,rfl⟩:=ju S;refine⟨h4,λob r=>.inl ⟨W,es,e,?_,h2,h3,λX=>?_⟩⟩
   .simp only[]at r;rw[Tr.aO _ _ _ _ u,aY rfl]at r;rw[<-ew r];simp only[fc,<-l];rfl
   .subst X;have C:g.arr k j=Z y:=F;rw[I]at C;simp only[aV]at C;subst C;refine⟨a.len,a.cap,λd hd=>l▸a.rows d hd,l▸a.pos,a.Vd,a.emp,λt=>?_⟩;obtain⟨b,vs,ty,E,_,k3,k4,k5⟩:=a.mem t;exact⟨b,vs,ty,E,⟨λ_=>.inr ⟨_,E,rfl,t⟩,λ_=>rfl⟩,k3,l▸k4,λi d j c hd hj=>let ⟨v,hv,hr⟩:=k5 i d j c hd hj;⟨v,l▸hv,hr.ext K hs.bf⟩⟩
  .have G:=hs.arr k j y F;refine G.ext K hs.bf (λc t H=>⟨rfl,⟨λh=>h.elim id λB=>?_,.inl⟩⟩) (by simp only[];rw[Tr.aO _ _ _ _ u,bK n]) rfl;by_cases m:g.bf c
   .exact m
   .exact absurd (hs.jv k o c ⟨m,.inr ⟨j,y,_,F,t,rfl,H⟩⟩ (f c B)) n
 .rcases A with A|A
  .exact hs.bf b A
  .exact (hs.nX (f b A)).1
end
section
def pG:∀{r b i a:Nat},rc r i=rc b a->r=b∧i=a
 |0,0,i,a,h=>by simp[rc]at h;exact⟨rfl,by omega⟩
 |0,b+1,i,a,h=>by simp only[rc,Nat.pow_zero,sN,Nat.pow_succ,vQ _ 2,IN]at h;omega
 |r+1,0,i,a,h=>by simp only[rc,Nat.pow_zero,sN,Nat.pow_succ,vQ _ 2,IN]at h;omega
 |r+1,b+1,i,a,h=>by
  have:rc r i=rc b a:=by simp only[rc,Nat.pow_succ,vQ _ 2,IN]at h ⊢;exact Nat.eq_of_mul_eq_mul_left (by omega:0<2) h
  have:=pG this;exact⟨by omega,this.2⟩
variable {g:Gh}{s:St}{w:World}{o e nj sz era m gf r i j szr k:Nat}{es:List D}{hole:Option Nat}{x y:eX}{hl:List Value}{gO:List (List D)}{fz:Bool}{I:Nat->Prop}{d:D}{ys:List eX}
def aU.Tw{s':St}(hs:aU g s w)(hn:s'.au=s.au)(c:∀o,s'.ob.get o=s.ob.get o):aU g s' w:=
 ⟨hn▸hs.au,λo h=>hs.af o (hn▸h),λo b h=>let ⟨h1,h2,h3⟩:=hs.box o b h;⟨h1,h2,λob a=>h3 ob (c o▸a)⟩,λo e x h=>let ⟨h1,h2⟩:=hs.arr o e x h;⟨h1,λob a=>h2 ob (c o▸a)⟩,hs.bf,hs.jv⟩
def aU.xd(hs:aU g s w){ob:Ob}(a:s.ob.get o=Z ob)(c:ob.mQ=W):g.bG o=Y:=by cases h:g.bG o with|none=>rfl|some b=>obtain⟨x,_,h2⟩:=(hs.box o b h).2.2 ob a;have:=h2.yK;rw[c]at this;cases this
def aU.yL(hs:aU g s w)(f:s.ob.get o=Z (.jL nj sz es era m gf hole))(i:g.arr o e=Z x) :
  x.sz=sz∧e<=era∧(∀c,era<c->g.arr o c=Y)∧(e=era->∃hl,hl.length=es.length∧tZ g w J sz (lits nj es hl) x∧EI g m gf hole hl):=by
 rcases(hs.arr o e x i).2 _ f with⟨fz,_,_,h,_⟩|⟨j,k,d,l,a,b,h,h2,h3,h4⟩|⟨_,_,_,h,_⟩|h|⟨h,_⟩
 .cases fz<;>cases h
 .cases h;exact⟨rfl,h2,h3,h4⟩
 .cases h
 .cases h
 .cases h
def aU.view(hs:aU g s w)(h:s.ob.get o=Z (.jL nj sz es era m gf hole))(i:g.arr o era=Z x) :
  ∃hl,hl.length=es.length∧tZ g w J sz (lits nj es hl) x∧EI g m gf hole hl∧aU g {s with ob:=s.ob.set aA o (.arr sz (lits nj es hl) era)} w:=by
 have d:o<bg:=gN (hs.lt' i) hs.au;obtain⟨_,_,_,h4⟩:=hs.yL h i;obtain⟨hl,h5,h6,r⟩:=h4 rfl;have j:=hs.xd h rfl;refine⟨hl,h5,h6,r,hs.au,hs.af,λk b l=>?_,λk e y f=>?_,hs.bf,hs.jv⟩
 .have c:k≠o:=by rintro rfl;rw[j]at l;cases l
  obtain⟨n,p,t⟩:=hs.box k b l;refine⟨n,p,λob a=>t ob ?_⟩;simp only[]at a;rwa [Tr.aO _ _ _ _ d,bK c]at a
 .obtain ⟨n,p⟩:=hs.arr k e y f;refine⟨n,λob a=>?_⟩;simp only[]at a;rw[Tr.aO _ _ _ _ d]at a;by_cases c:k=o
  .subst c;rw[aY rfl]at a;obtain rfl:=ew a;obtain⟨q,u,v,_⟩:=hs.yL h f;refine .inl ⟨J,lits nj es hl,era,by rw[q];rfl,u,v,λz=>?_⟩;subst z;rw[i]at f;cases f;rw[q];exact h6
  .rw[bK c]at a;exact p ob a
def aU.Ri(hs:aU g s w)(d:o<bg)(t:s.ob.get o=Z (.arr sz (lits nj es hl) era))(f:hl.length=es.length)
  (v:EI g m gf hole hl):aU g {s with ob:=s.ob.set aA o (.jL nj sz es era m gf hole)} w:=by
 have i:=hs.xd t rfl;refine⟨hs.au,hs.af,λk b j=>?_,λk e y u=>?_,hs.bf,hs.jv⟩
 .have c:k≠o:=by rintro rfl;rw[i]at j;cases j
  obtain⟨l,n,x⟩:=hs.box k b j;refine⟨l,n,λob a=>x ob ?_⟩;simp only[]at a;rwa [Tr.aO _ _ _ _ d,bK c]at a
 .obtain ⟨l,n⟩:=hs.arr k e y u;refine⟨l,λob a=>?_⟩;simp only[]at a;rw[Tr.aO _ _ _ _ d]at a;by_cases c:k=o
  .subst c;rw[aY rfl]at a;obtain rfl:=ew a;obtain⟨fz,p,h,h1,h2,h3,h4⟩:=(hs.arr k e y u).old _ t rfl;have q:fc J sz (lits nj es hl) era=fc fz y.sz p h:=h1;obtain⟨rfl,r,rfl,rfl⟩:=ju q;exact .inr (.inl ⟨nj,es,era,m,gf,hole,by rw[r],h2,h3,λz=>⟨hl,f,h4 z,v⟩⟩)
  .rw[bK c]at a;exact n ob a
def aU.nN(hs:aU g s w)(k:s.ob.get m=Z (.rws sz gO r))(l:g.arr m e=Z y) :
  (∀a i,r<a->g.arr m (rc a i)=Y)∧(∀i c y d,i≠c->g.arr m (rc r i)=Z y->g.arr m (rc r c)=Z d->∀b,y.at b->¬d.at b)∧
   (∀i,e=rc r i->y.sz=sz∧∃f,gO[i]?=Z f∧tZ g w J sz f y):=by
 rcases(hs.arr m e y l).2 _ k with⟨fz,_,_,h,_⟩|⟨_,_,_,_,_,_,h,_⟩|⟨n,j,a,h,h2,h3,h4⟩|h|⟨h,_⟩
 .cases fz<;>cases h
 .cases h
 .cases h;exact⟨h2,h3,h4⟩
 .cases h
 .cases h
def tZ.at_(h:tZ g w fz sz es x){b:Nat}(c:x.at b):(fz=W↔g.bf b)∧∃vs ty,x.a=Z ⟨b,0,Y⟩∧w.heap[b]?=Z (.cells vs ty (0,0)):=by obtain⟨f,h1,h2,h3⟩:=c;obtain⟨i,vs,ty,a,d,e,_⟩:=h.mem h3;rw[a]at h1;cases h1;simp only at h2;subst h2;exact⟨d,vs,ty,a,e⟩
def tZ.Qz(a:tZ g w fz sz es x)(o:∀b,g.bf b->I b)(p:∀b,x.at b->I b):dM I w (.sl es) (.slice x.a x.len x.cap):=by
 rw[a.len];by_cases f:x.cap=0
 .have r:es=[]:=by have h1:=a.len;have h2:=a.cap;exact qU (by omega)
  subst r;exact .sl [] x.a x.cap sz (λ_ _=>undef) (by simp) (by simp) (by simp) (λh=>absurd rfl h) (λi j d c h=>by simp at h)
 .obtain ⟨b,s,ty,h1,h2,h3,h4,h5⟩:=a.mem f;have n:∀q:Nat×Nat,∃v,∀d c,es[q.1]?=Z d->d.cells[q.2]?=Z c->s[q.1*sz+q.2]?=Z v∧dM I w c v:=by
   rintro⟨i,j⟩
   by_cases m:i<es.length
   .by_cases l:j<(es[i]).cells.length
    .obtain ⟨v,t,u⟩:=h5 i _ j _ (eS m) (eS l);refine⟨v,λd c e f=>?_⟩;rw[eS m]at e;simp only[aV]at e;subst e;rw[eS l]at f;simp only[aV]at f;subst f;exact⟨t,u.mono (λ_ _=>rfl) o⟩
    .refine ⟨undef,λd c e f=>?_⟩;rw[eS m]at e;simp only[aV]at e;subst e;exact absurd (ax f) l
   .exact ⟨undef,λd c e _=>absurd (ax e) m⟩
  obtain⟨val,k⟩:=Pm n;refine .sl es x.a x.cap sz (λi j=>val (i,j)) (by have:=a.len;have:=a.cap;omega) a.rows a.Vd (λ_=>⟨_,h1,p b ⟨_,h1,rfl,f⟩,λi j d c e l=>?_⟩) (λi j d c e l=>(k (i,j) d c e l).2);rw[mK,cell?_of_block h3];simpa using(k (i,j) d c e l).1
def wK(l:L D):D.lX l=(l.map D.lby).sum:=by
 induction l with|nil=>rfl|cons a l b=>simp only[D.lX,jh,List.sum_cons,<-b];rfl
def ES{α:Type}{l:L α}{a:α}(h:l[i]?=Z a):l.set i a=l:=by
 apply IX;intro k;rw[GK];split
 .rename_i e;subst e;rw[h,aY (sv.1 h).1]
 .rfl
def SL(a:hl.length=es.length)(h:es[i]?=Z d):∃v,hl[i]?=Z v∧(lits nj es hl)[i]?=Z (ic nj d v):=by have b:=ax h;refine⟨hl[i]'(by omega),eS _,?_⟩;simp[lits,GL,h,eS (by omega:i<hl.length)]
def kH(a:hl.length=es.length):(lits nj es hl).length=es.length:=by simp[lits];omega
def xy(nj:Nat)(d:D)(b:L D)(a:O Addr)(n m:Nat):(xz nj d b).pZ=(ic nj d (.slice a n m)).pZ:=by show D.lX _=D.lX _;rw[wK,wK,E3,E3];rfl
def xO{c a:O Addr}(o:d.cells[j]?=Z (.sl []))(A:dM I w (.sl [ic j d (.slice c 0 0)]) (.slice a 1 1)):dM I w (.sl [d]) (.slice a 1 1):=by
 have m:=ax o;generalize E:(Value.slice a 1 1)=v at A;cases A with
 |sl es N cap sz val B q r F G=>
 cases E;have hl:(ic j d (.slice c 0 0)).cells=d.cells.set j (.lit (.slice c 0 0)):=rfl;have b:∀(k:Nat)(x:D),d.cells[k]?=Z x->∃l,(ic j d (.slice c 0 0)).cells[k]?=Z l∧∀u,dM I w l u->dM I w x u:=λk x f=>by
  by_cases C:k=j
  .subst C;rw[o]at f;cases f;refine⟨.lit (.slice c 0 0),by rw[hl,IL m],λu s=>?_⟩;cases s;exact .sl [] c 0 0 (λ_ _=>undef) (by simp) (by simp) (by simp) (λh=>absurd rfl h) (λi j d c h=>by simp at h)
  .exact ⟨x,by rw[hl,IJ (λe=>C e.symm)];exact f,λu s=>s⟩
 have n:d.pZ=(ic j d (.slice c 0 0)).pZ:=by
  cases d with
  |agg p=>
   show D.lX p=D.lX (p.set j (.lit (.slice c 0 0)));rw[wK,wK,E3];have:(p.map D.lby)[j]?=Z 24:=by rw[gj];have t:p[j]?=Z (.sl []):=o;rw[t];rfl
   have z:(D.lit (Value.slice c 0 0)).lby=24:=rfl;rw[z,ES this]
  |_=>
   have H:j=0:=by have:j<1:=m;omega
   subst H;cases o<;>rfl
 refine .sl [d] a 1 sz val (by simp) (λx f=>?_) (λx f=>?_) (λ_=>?_) (λi k x y h1 h2=>?_)
 .rw[ko.1 f,<-q _ (ko.2 rfl),hl,BH]
 .rw[ko.1 f,n];exact r _ (ko.2 rfl)
 .obtain ⟨K,h1,h2,h3⟩:=F (by simp);refine⟨K,h1,h2,λi k x y h1 h2=>?_⟩;cases i with
  |zero=>simp only[qT,aV]at h1;subst h1;obtain⟨l,g,_⟩:=b k y h2;exact h3 0 k _ l rfl g
  |succ i=>simp at h1
 .cases i with
  |zero=>simp only[qT,aV]at h1;subst h1;obtain⟨l,g,M⟩:=b k y h2;exact M _ (G 0 k _ l rfl g)
  |succ i=>simp at h1
def aU.Qo(hs:aU g s w)(ho:s.ob.get o=Z (.jL nj sz es era m r Y))(hm:s.ob.get m=Z (.rws szr gO r))
  (ZP:m<bg) (hx:g.arr o era=Z x) (hfl:s.fl<=o) (Ma:s.fl<=m) :
  ∃g',aU g' {s with ob:=(s.ob.set aA m .gone).set aA o (.jC sz (iw nj es gO) era)} w∧Ext s.fl g w g' w:=by
 have Ep:o<bg:=gN (hs.lt' hx) hs.au;have hom:o≠m:=by rintro rfl;rw[ho]at hm;cases hm
 obtain⟨acN,_,hnx,h4⟩:=hs.yL ho hx;obtain⟨hl,B,p,hL⟩:=h4 rfl
 let R:Nat->Prop:=λb=>x.at b∨∃i y,g.arr m (rc r i)=Z y∧y.at b
 have F:∀b,R b->∃k,s.fl<=k∧(k=o∨k=m)∧br g k b:=by
  rintro b (hb|⟨i,y,hy,hb⟩)
  .have h1:=(p.at_ hb).1;obtain⟨ad,k1,k2,k3⟩:=hb;exact⟨o,hfl,.inl rfl,λq=>Bool.noConfusion (h1.2 q),.inr ⟨era,x,ad,hx,k1,k2,k3⟩⟩
  .obtain ⟨_,t,_,hr⟩:=(hs.nN hm hy).2.2 i rfl;have h1:=(hr.at_ hb).1;obtain⟨ad,k1,k2,k3⟩:=hb;exact⟨m,Ma,.inr rfl,λq=>Bool.noConfusion (h1.2 q),.inr ⟨_,y,ad,hy,k1,k2,k3⟩⟩
 have XQ:∀b,R b->¬g.bf b:=λb hb=>let ⟨_,_,_,hO⟩:=F b hb;hO.1;have G:∀k b,br (g.jC R) k b->br g k b∧¬R b:=λk b h=>⟨⟨λS=>h.1 (.inl S),h.2⟩,λS=>h.1 (.inr S)⟩;have he:Ext s.fl g w (g.jC R) w:=
  ⟨λ_ _ h=>h,λ_ _ _ h=>h,λ_ h=>.inl h,bS _,λ_ _ _=>rfl,λk b h=>.inl (G k b h).1,
   λb h=>h.imp id λh=>.inr (let ⟨k,h1,_,h3⟩:=F b h;⟨k,h1,h3⟩),rfl,rfl⟩
 have cC:∀k,((s.ob.set aA m .gone).set aA o (.jC sz (iw nj es gO) era)).get k=if k=o then Z (.jC sz (iw nj es gO) era)else if k=m then Z .gone else s.ob.get k:=λk=>by rw[Tr.aO _ _ _ _ Ep,Tr.aO _ _ _ _ ZP]
 have ZM:=hs.xd ho rfl;have ZN:=hs.xd hm rfl;refine⟨g.jC R,⟨hs.au,hs.af,λk c P=>?_,λk j y hy=>?_,λb hb=>?_,λk k' b h h'=>hs.jv k k' b (G k b h).1 (G k' b h').1⟩,he⟩
 .have N:g.bG k=Z c:=P;have u:k≠o:=by rintro rfl;rw[ZM]at N;cases N
  have E:k≠m:=by rintro rfl;rw[ZN]at N;cases N
  have H:=hs.box k c P;refine H.ext he hs.bf rfl (by simp only[];rw[cC,bK u,bK E]) ?_
  rintro(q|A1)
  .exact H.1 q
  .obtain ⟨k',_,h1,h2⟩:=F c A1;have:=hs.jv k k' c ⟨H.1,.inl P⟩ h2;subst this;exact h1.elim u E
 .have z:g.arr k j=Z y:=hy;by_cases u:k=o
  .subst u;obtain⟨q1,q2,_,_⟩:=hs.yL ho z;refine⟨(hs.arr k j y z).1,λob l=>?_⟩;simp only[]at l;rw[cC,aY rfl]at l;obtain rfl:=ew l;refine .inl ⟨W,iw nj es gO,era,by rw[q1];rfl,q2,hnx,λhje=>?_⟩;subst hje;rw[hx]at z;cases z;rw[q1];have C:∀(i:Nat)(d:D),es[i]?=Z d->∃(t:L D)(n:eX),gO[i]?=Z t∧hl[i]?=Z (Value.slice n.a n.len n.cap)∧(lits nj es hl)[i]?=Z (ic nj d (.slice n.a n.len n.cap))∧dM (g.jC R).bf w (.sl t) (.slice n.a n.len n.cap):=by intro i d hd;obtain⟨v,hv,a⟩:=SL (nj:=nj) B hd;obtain⟨n,hyy,rfl⟩:=hL.2 i v hv (by simp);obtain⟨_,t,X,hra⟩:=(hs.nN hm hyy).2.2 i rfl;exact⟨t,n,X,hv,a,hra.Qz (λ_ h=>.inl h) (λb hb=>.inr (.inr ⟨i,n,hyy,hb⟩))⟩
   have I:(iw nj es gO).length=es.length:=by
    rw[iw,List.length_zipWith];rcases uW gO.length es.length with h|h
    .obtain ⟨t,_,X,_⟩:=C gO.length _ (eS h);have:=ax X;omega
    .omega
   have A:∀(i:Nat)(f:D),(iw nj es gO)[i]?=Z f->∃d t,es[i]?=Z d∧gO[i]?=Z t∧f=xz nj d t:=by
    intro i f M;rw[iw,GL]at M;split at M
    .rename_i d t h1 h2;exact⟨d,t,h1,h2,(ew M).symm⟩
    .cases M
   refine⟨by rw[I];have:=p.len;rw[kH B]at this;exact this,p.cap,λf M=>?_,p.pos,λf M=>?_,λh=>?_,λP=>?_⟩
   .obtain ⟨i,S⟩:=Fa M;obtain⟨d,t,h1,h2,rfl⟩:=A i f S;obtain⟨_,_,_,_,a,_⟩:=C i d h1;have:=p.rows _ (gk a);simp only[ic,xz,D.cells,BH]at this ⊢;exact this
   .obtain ⟨i,S⟩:=Fa M;obtain⟨d,t,h1,h2,rfl⟩:=A i f S;obtain⟨_,n,_,_,a,_⟩:=C i d h1;rw[xy nj d t n.a n.len n.cap];have hb:=p.Vd _ (gk a);rw[kH B]at hb;rw[I];exact hb
   .refine p.emp ?_;have:es.length=0:=by rw[<-I,h];rfl
    exact qU (by rw[kH B];exact this)
   .obtain ⟨b,vs,ty,k1,_,k3,k4,k5⟩:=p.mem P;refine⟨b,vs,ty,k1,⟨λ_=>.inr (.inl ⟨_,k1,rfl,P⟩),λ_=>rfl⟩,k3,k4,λi f Q c M K=>?_⟩;obtain⟨d,t,h1,h2,rfl⟩:=A i f M;obtain⟨rs',n,h2',hv,a,Tj⟩:=C i d h1;rw[h2]at h2';cases h2';by_cases hjn:Q=nj
    .subst hjn;have hlt:Q<d.cells.length:=by have:=ax K;simpa[xz,D.cells]using this
     obtain⟨v,Wq,hv2⟩:=k5 i _ Q (.lit (.slice n.a n.len n.cap)) a (by show(d.cells.set Q _)[Q]?=_;rw[IL hlt]);cases hv2;have hce:c=.sl t:=by have hj2:(d.cells.set Q (.sl t))[Q]?=Z c:=K;rw[IL hlt]at hj2;exact(ew hj2).symm
     rw[hce];exact⟨_,Wq,Tj⟩
    .obtain ⟨v,Wq,hv2⟩:=k5 i _ Q c a (by
      simp only[ic,xz,D.cells]at K ⊢;rw[IJ (λe=>hjn e.symm)]at K ⊢;exact K)
     exact⟨v,Wq,hv2.ext he hs.bf⟩
  .by_cases E:k=m
   .subst E;refine⟨(hs.arr k j y z).1,λob l=>?_⟩;simp only[]at l;rw[cC,bK u,aY rfl]at l;obtain rfl:=ew l;exact .inr (.inr (.inr (.inl rfl)))
   .have ZI:=hs.arr k j y z;refine ZI.ext he hs.bf (λc P hcap=>⟨rfl,⟨λh=>h.elim id λA1=>?_,.inl⟩⟩) (by simp only[];rw[cC,bK u,bK E]) rfl;by_cases q:g.bf c
    .exact q
    .obtain ⟨k',_,h1,h2⟩:=F c A1;have:=hs.jv k k' c ⟨q,.inr ⟨j,y,_,z,P,rfl,hcap⟩⟩ h2;subst this;exact absurd h1 (λh=>h.elim u E)
 .rcases hb with hb|hb
  .exact hs.bf b hb
  .obtain ⟨k,_,_,h⟩:=F b hb;exact(hs.nX h).1
structure OQ(g:Gh)(w:World)(n:Nat)(es:List D)(x:eX)(v:Value)(w':World)(x':eX):Prop where
 val:v=.slice x'.a x'.len x'.cap
 sz:x'.sz=n
 os:w'.os=w.os
 output:w'.output=w.output
 size:w.heap.size<=w'.heap.size
 heap:∀b,b<w.heap.size->¬x.at b->w'.heap[b]?=w.heap[b]?
 at_:∀b,x'.at b->b<w'.heap.size∧(w.heap.size<=b∨x.at b)
 ok:tZ g w' J n es x'
noncomputable def Gh.mB(g:Gh)(m r i:Nat)(y:eX):Gh:=by
 classical
 exact{g with arr:=λk j=>if k=m then(if h:∃a,j=rc (r+1) a then(if h.choose=i then Z y else g.arr m (rc r h.choose))else g.arr m j)else g.arr k j}
def Gh.jg(h:k≠m):(g.mB m r i y).arr k=g.arr k:=by
 funext j
 simp[Gh.mB,h]
def Gh.nO(b:Nat):(g.mB m r i y).arr m (rc (r+1) b)=if b=i then Z y else g.arr m (rc r b):=by have a:∃c,rc (r+1) b=rc (r+1) c:=⟨b,rfl⟩;have d:a.choose=b:=(pG a.choose_spec).2.symm;simp only[Gh.mB,qg,dif_pos a,d]
def Gh.vM(h:∀c,j≠rc (r+1) c):(g.mB m r i y).arr m j=g.arr m j:=by have b:¬∃a,j=rc (r+1) a:=λ⟨a,e⟩=>h a e;simp only[Gh.mB,qg,dif_neg b]
def aU.Xb{w':World}(hs:aU g s w){M:eX}{v:Value}{x:L D}(ho:s.ob.get o=Z (.jL nj sz es era m r Y))
  (hm:s.ob.get m=Z (.rws szr gO r)) (hoN:o<bg) (hy:g.arr m (rc r i)=Z y) (n:OQ g w szr x y v w' M) (Ma:s.fl<=m) :
  aU (g.mB m r i M) {s with ob:=(s.ob.set aA m (.rws szr (gO.set i x) (r+1))).set aA o (.jL nj sz es era m (r+1) (Z i))} w'∧Ext s.fl g w (g.mB m r i M) w':=by
 have ZP:m<bg:=gN (hs.lt' hy) hs.au;have hom:o≠m:=by rintro rfl;rw[ho]at hm;cases hm
 obtain⟨F,f,hrow⟩:=hs.nN hm hy;obtain⟨_,rs0,Wt,aiC⟩:=hrow i rfl;have hilt:=ax Wt;have N:∀b,y.at b->br g m b:=λb d=>by have h1:=(aiC.at_ d).1;obtain⟨A,k1,k2,k3⟩:=d;exact⟨λPZ=>Bool.noConfusion (h1.2 PZ),.inr ⟨_,y,A,hy,k1,k2,k3⟩⟩
 have Mf:∀k j z,g.arr k j=Z z->(g.mB m r i M).arr k j=Z z:=λk j z h=>by
  by_cases C:k=m
  .subst C;rw[Gh.vM (λa e=>by rw[e,F (r+1) a (by omega)]at h;cases h)];exact h
  .rw[Gh.jg C];exact h
 have l:∀k j z,(g.mB m r i M).arr k j=Z z->(k=m∧j=rc (r+1) i∧z=M)∨(k=m∧∃a,a≠i∧j=rc (r+1) a∧g.arr m (rc r a)=Z z)∨((∀a,k=m->j≠rc (r+1) a)∧g.arr k j=Z z):=λk j z h=>by
  by_cases C:k=m
  .subst C;by_cases hj:∃a,j=rc (r+1) a
   .obtain ⟨a,rfl⟩:=hj;rw[Gh.nO]at h;split at h
    .rename_i R;subst R;exact .inl ⟨rfl,rfl,(ew h).symm⟩
    .rename_i R;exact .inr (.inl ⟨rfl,a,R,rfl,h⟩)
   .rw[Gh.vM (λa e=>hj ⟨a,e⟩)]at h;exact .inr (.inr ⟨λa _ e=>hj ⟨a,e⟩,h⟩)
  .rw[Gh.jg C]at h;exact .inr (.inr ⟨λa e=>absurd e C,h⟩)
 have G:∀k b,br (g.mB m r i M) k b->br g k b∨(k=m∧w.heap.size<=b):=by
  rintro k b ⟨h1,h2|⟨j,z,A,h2,h3,h4,h5⟩⟩
  .exact .inl ⟨h1,.inl h2⟩
  .rcases l k j z h2 with⟨rfl,_,rfl⟩|⟨rfl,a,_,_,h⟩|⟨_,h⟩
   .rcases (n.at_ b ⟨A,h3,h4,h5⟩).2 with h|h
    .exact .inr ⟨rfl,h⟩
    .exact .inl (N b h)
   .exact .inl ⟨h1,.inr ⟨_,z,A,h,h3,h4,h5⟩⟩
   .exact .inl ⟨h1,.inr ⟨j,z,A,h,h3,h4,h5⟩⟩
 have he:Ext s.fl g w (g.mB m r i M) w':=
  ⟨λ_ _ h=>h,Mf,λ_ h=>h,n.size,λb d hn=>n.heap b d λp=>hn m Ma (N b p),λk b h=>(G k b h).imp id (·.2),λ_ h=>.inl h,n.os,n.output⟩
 have cC:∀k,((s.ob.set aA m (.rws szr (gO.set i x) (r+1))).set aA o (.jL nj sz es era m (r+1) (Z i))).get k=if k=o then Z (.jL nj sz es era m (r+1) (Z i))else if k=m then Z (.rws szr (gO.set i x) (r+1))else s.ob.get k:=λk=>by rw[Tr.aO _ _ _ _ hoN,Tr.aO _ _ _ _ ZP]
 have ZM:=hs.xd ho rfl;have ZN:=hs.xd hm rfl;have H:∀k j z,g.arr k j=Z z->k≠m->∀b,z.a=Z ⟨b,0,Y⟩->z.cap≠0->w'.heap[b]?=w.heap[b]?:=λk j z E C b d q=>by refine n.heap b ((hs.arr k j z E).1 _ d q) λp=>?_;have hO:=N b p;exact C (hs.jv k m b ⟨hO.1,.inr ⟨j,z,_,E,d,rfl,q⟩⟩ hO)
 refine⟨⟨hs.au,λk C=>⟨(hs.af k C).1,λj=>?_⟩,λk b d=>?_,λk j z E=>?_,λb d=>gN (hs.bf b d) n.size,λk k' b h h'=>?_⟩,he⟩
 .rw[Gh.jg (by rintro rfl;have:=hs.lt' hy;simp only at C;omega)];exact(hs.af k C).2 j
 .have B:g.bG k=Z b:=d;have P:k≠o:=by rintro rfl;rw[ZM]at B;cases B
  have c:k≠m:=by rintro rfl;rw[ZN]at B;cases B
  have u:=hs.box k b B;exact u.ext he hs.bf (n.heap b u.2.1 λp=>c (hs.jv k m b ⟨u.1,.inl B⟩ (N b p))) (by simp only[];rw[cC,bK P,bK c]) u.1
 .by_cases c:k=m
  .subst c;refine⟨λA ha q=>?_,λob t=>?_⟩
   .rcases l k j z E with⟨_,_,rfl⟩|⟨_,a,_,_,h⟩|⟨_,h⟩
    .exact (n.at_ _ ⟨A,ha,rfl,q⟩).1
    .exact gN ((hs.arr k _ z h).1 A ha q) n.size
    .exact gN ((hs.arr k _ z h).1 A ha q) n.size
   .simp only[]at t;rw[cC,bK (λe=>hom e.symm),aY rfl]at t;obtain rfl:=ew t;refine .inr (.inr (.inl ⟨szr,gO.set i x,r+1,rfl,λr' a hr'=>?_,λi1 i2 y1 y2 I h1 h2 b S X=>?_,λa hj=>?_⟩))
    .rw[Gh.vM (λi'' e=>by have:=(pG e).1;omega)];exact F r' a (by omega)
    .rw[Gh.nO]at h1 h2;have mix:∀i3 y3,i3≠i->g.arr k (rc r i3)=Z y3->∀b,M.at b->¬y3.at b:=λi3 y3 hn h3 b d Z5=>by
      rcases(n.at_ b d).2 with h|h
      .obtain ⟨A,k1,k2,k3⟩:=Z5;have:=(hs.arr k _ y3 h3).1 A k1 k3;omega
      .exact f i i3 y y3 (λe=>hn e.symm) hy h3 b h Z5
     split at h1
     .rename_i Q;cases h1;rw[bK (λe=>I (Q.trans e.symm))]at h2;exact mix i2 y2 (λe=>I (Q.trans e.symm)) h2 b S X
     .rename_i Q;split at h2
      .cases h2;exact mix i1 y1 Q h1 b X S
      .exact f i1 i2 y1 y2 I h1 h2 b S X
    .subst hj;rw[Gh.nO]at E;split at E
     .rename_i Q;subst Q;cases E;exact⟨n.sz,x,by rw[IL hilt],n.ok.iW rfl⟩
     .rename_i Q;obtain⟨q1,rs,q2,q3⟩:=(hs.nN hm E).2.2 a rfl;refine⟨q1,rs,by rw[IJ (λe=>Q e.symm)];exact q2,q3.ext he hs.bf (λb d q=>⟨?_,nU⟩)⟩;exact n.heap b ((hs.arr k _ z E).1 _ d q) (λp=>f i a y z (λe=>Q e.symm) hy E b p ⟨_,d,rfl,q⟩)
  .have K:g.arr k j=Z z:=by rw[Gh.jg c]at E;exact E
   by_cases P:k=o
   .subst P;obtain⟨q1,q2,q3,q4⟩:=hs.yL ho K;refine⟨λA ha q=>gN ((hs.arr k j z K).1 A ha q) n.size,λob t=>?_⟩;simp only[]at t;rw[cC,aY rfl]at t;obtain rfl:=ew t;refine .inr (.inl ⟨nj,es,era,m,r+1,Z i,by rw[q1],q2,λe' h=>by rw[Gh.jg c];exact q3 e' h,λhje=>?_⟩);obtain⟨hl,k1,k2,k3⟩:=q4 hje;refine⟨hl,k1,q1▸(k2.ext he hs.bf (λb d q=>⟨H k j z K c b d q,nU⟩)),k3.1,λa h hh I=>?_⟩;obtain⟨yy,h1,h2⟩:=k3.2 a h hh (by simp);exact⟨yy,by rw[Gh.nO,bK (λe=>I (by rw[e]))];exact h1,h2⟩
   .exact (hs.arr k j z K).ext he hs.bf (λb d q=>⟨H k j z K c b d q,nU⟩) (by simp only[];rw[cC,bK P,bK c]) (Gh.jg c)
 .rcases G k b h with h1|⟨h1,h3⟩<;>rcases G k' b h' with h2|⟨h2,h4⟩
  .exact hs.jv k k' b h1 h2
  .have:=(hs.nX h1).1;omega
  .have:=(hs.nX h2).1;omega
  .rw[h1,h2]
noncomputable def Gh.ga(g:Gh)(m:Nat)(ys:L eX):Gh:=by
 classical
 exact{g with arr:=λk j=>if k=m then(if h:∃i,j=rc 0 i then ys[h.choose]? else Y)else g.arr k j}
def Gh.gK(h:k≠m):(g.ga m ys).arr k=g.arr k:=by
 funext j
 simp[Gh.ga,h]
def Gh.tL(i:Nat):(g.ga m ys).arr m (rc 0 i)=ys[i]?:=by have a:∃b,rc 0 i=rc 0 b:=⟨i,rfl⟩;have c:a.choose=i:=(pG a.choose_spec).2.symm;simp only[Gh.ga,qg,dif_pos a,c]
def Gh.rP{z:eX}(h:(g.ga m ys).arr m j=Z z):∃i,j=rc 0 i∧ys[i]?=Z z:=by
 by_cases a:∃i,j=rc 0 i
 .obtain ⟨i,rfl⟩:=a;rw[Gh.tL]at h;exact⟨i,rfl,h⟩
 .simp only[Gh.ga,qg,dif_neg a]at h;cases h
def aU.aaB(hs:aU g s w)(hn:s.au<bg)(A:∀y∈ys,∀b,y.at b->b<w.heap.size∧∀o,¬br g o b)
  (B:∀(i:Nat)(y:eX),ys[i]?=Z y->y.sz=sz∧∃q,gO[i]?=Z q∧tZ g w J sz q y) (C:ys.Pairwise λx y=>∀b,x.at b->¬y.at b) :
  aU (g.ga s.au ys) (dO s (.rws sz gO 0)).2 w∧(∀k j y,g.arr k j=Z y->(g.ga s.au ys).arr k j=Z y)∧(∀k b,br (g.ga s.au ys) k b->br g k b∨(k=s.au∧∃y∈ys,y.at b)):=by
 have c:=hs.af s.au (bS _);have d:∀k j y,g.arr k j=Z y->(g.ga s.au ys).arr k j=Z y:=λk j y h=>by
  rw[Gh.gK]
  .exact h
  .rintro rfl
   rw[c.2]at h;cases h
 have f:∀k b,br (g.ga s.au ys) k b->br g k b∨(k=s.au∧∃y∈ys,y.at b):=by
  rintro k b ⟨h1,h2|⟨j,y,r,h2,h3⟩⟩
  .exact .inl ⟨h1,.inl h2⟩
  .by_cases l:k=s.au
   .subst l;obtain⟨i,_,u⟩:=Gh.rP h2;exact .inr ⟨rfl,y,gk u,r,h3⟩
   .rw[Gh.gK l]at h2;exact .inl ⟨h1,.inr ⟨j,y,r,h2,h3⟩⟩
 have cC:∀k,(dO s (.rws sz gO 0)).2.ob.get k=if k=s.au then Z (.rws sz gO 0)else s.ob.get k:=λk=>by simp only[dO];rw[Tr.aO _ _ _ _ hn]
 refine⟨⟨by simp only[dO];omega,λk l=>?_,λk b hb=>?_,λk j y E=>?_,hs.bf,λk F b h h'=>?_⟩,d,f⟩
 .simp only[dO]at l;refine⟨(hs.af k (by omega)).1,λj=>?_⟩;rw[Gh.gK (by omega)];exact(hs.af k (by omega)).2 j
 .have m:g.bG k=Z b:=hb;have G:k≠s.au:=λh=>by rw[h,c.1]at m;cases m
  obtain⟨H,I,k3⟩:=hs.box k b m;refine⟨H,I,λob a=>?_⟩;rw[cC,bK G]at a;obtain⟨x,h1,h2⟩:=k3 ob a;refine⟨x,h1,?_⟩;exact h2.imp (λt v ht=>ht.ajt d rfl rfl)
 .by_cases l:k=s.au
  .subst l;obtain⟨i,rfl,u⟩:=Gh.rP E;refine⟨λr ha hc=>(A y (gk u) _ ⟨r,ha,rfl,hc⟩).1,λob a=>?_⟩;rw[cC,aY rfl]at a;obtain rfl:=ew a;refine .inr (.inr (.inl ⟨sz,gO,0,rfl,λr' P hr'=>?_,λQ K R S M h1 h2 b n p=>?_,λP hj=>?_⟩))
   .cases h:(g.ga s.au ys).arr s.au (rc r' P)with|none=>rfl|some z=>obtain⟨K,e,_⟩:=Gh.rP h;have:=(pG e).1;omega
   .rw[Gh.tL]at h1 h2;have X:=Lo.1 C;obtain⟨l1,g1⟩:=sv.1 h1;obtain⟨l2,g2⟩:=sv.1 h2;rcases Nat.lt_or_gt_of_ne M with h|h
    .exact X Q K l1 l2 h b (g1▸n) (g2▸p)
    .exact X K Q l2 l1 h b (g2▸p) (g1▸n)
   .have:=(pG hj).2;subst this;obtain⟨q1,q,q2,q3⟩:=B i y u;exact⟨q1,q,q2,q3.iW rfl⟩
  .have N:g.arr k j=Z y:=by rw[Gh.gK l]at E;exact E
   obtain⟨H,I⟩:=hs.arr k j y N;refine⟨H,λob a=>?_⟩;rw[cC,bK l]at a;exact(I ob a).tr (λh=>h.iW rfl) d (Gh.gK l) (λ_ _ _=>⟨rfl,nU⟩)
 .rcases f k b h with h1|⟨h1,R,m1,a1⟩<;>rcases f F b h' with h2|⟨h2,S,m2,a2⟩
  .exact hs.jv k F b h1 h2
  .exact absurd h1 ((A S m2 b a2).2 k)
  .exact absurd h2 ((A R m1 b a1).2 F)
  .rw[h1,h2]
end
section
variable {g:Gh}{s s':St}{w:World}{o:Nat}{os:List Nat}
def aU.Gu(hs:aU g s w){e sz:Nat}{es:L D}{x:eX}(c:s.ob.get o=Z (.jC sz es e))(d:g.arr o e=Z x) :
  dM g.bf w (.sl es) (.slice x.a x.len x.cap):=by
 obtain⟨a,_⟩:=hs.mJ (fz:=W) c d;exact a.Qz (λ_ h=>h) (λb f=>(a.at_ f).1.1 rfl)
def Live(g:Gh)(s:St)(o:Nat):Prop:=o<bg∧((∃e x,g.arr o e=Z x∧((∃fz sz es,s.ob.get o=Z (fc fz sz es e))∨∃nj sz es m r hole,s.ob.get o=Z (.jL nj sz es e m r hole)))∨(∃sz gO r,s.ob.get o=Z (.rws sz gO r))∨s.ob.get o=Z .gone)
def Live.mQ{g:Gh}{s:St}{o:Nat}{ob:Ob}(h:Live g s o)(a:s.ob.get o=Z ob):ob.mQ=W:=by
 rcases h.2 with⟨_,_,_,⟨b,_,_,h⟩|⟨_,_,_,_,_,_,h⟩⟩|⟨_,_,_,h⟩|h
 .rw[a]at h;cases h;cases b<;>rfl
 .rw[a]at h;cases h;rfl
 .rw[a]at h;cases h;rfl
 .rw[a]at h;cases h;rfl
structure jf(s s':St)(os:List Nat):Prop where
 fl:s'.fl=s.fl
 au:s'.au=s.au
 hit:∀o∈os,∀fz sz es e,s.ob.get o=Z (fc fz sz es e)->s'.ob.get o=Z (.jC sz es e)
 jC:∀o sz es e,s.ob.get o=Z (.jC sz es e)->s'.ob.get o=Z (.jC sz es e)
 jL:∀o∈os,∀nj sz es e m r gO,s.ob.get o=Z (.jL nj sz es e m r Y)->Ed s m r=Z gO->s'.ob.get o=Z (.jC sz (iw nj es gO) e)
def jf.sub{a:L Nat}(h:jf s s' os)(hs:∀o∈a,o∈os):jf s s' a:=
 ⟨h.fl,h.au,λo b=>h.hit o (hs o b),h.jC,λo b=>h.jL o (hs o b)⟩
def nw{m r:Nat}{gO:L (L D)}(h:Ed s m r=Z gO):∃sz,s.ob.get m=Z (.rws sz gO r):=by
 unfold Ed at h;split at h
 .rename_i sz a d b;rcases aa h with⟨c,h⟩|⟨_,h⟩
  .cases h;have:=beq_iff'.1 c;subst this;exact⟨sz,b⟩
  .cases h
 .cases h
def s9(h:freeze s (o::os)=Z s'):s.fl<=o∧
  ((∃sz es e,s.ob.get o=Z (.arr sz es e)∧freeze {s with ob:=s.ob.set aA o (.jC sz es e)} os=Z s')∨
   (∃sz es e,s.ob.get o=Z (.jC sz es e)∧freeze s os=Z s')∨
   (((∃sz gO r,s.ob.get o=Z (.rws sz gO r))∨s.ob.get o=Z .gone)∧freeze s os=Z s')∨
   (∃nj sz es e m r gO c,s.ob.get o=Z (.jL nj sz es e m r Y)∧s.ob.get m=Z (.rws c gO r)∧Ed s m r=Z gO∧(m∈os∧s.fl<=m)∧m<bg∧freeze {s with ob:=(s.ob.set aA m .gone).set aA o (.jC sz (iw nj es gO) e)} os=Z s')):=by
 simp only[freeze]at h;rcases aa h with⟨f,h⟩|⟨_,h⟩
 .refine ⟨eN f,?_⟩;split at h
  .rename_i sz es e b;exact .inl ⟨sz,es,e,b,h⟩
  .rename_i sz es e b;exact .inr (.inl ⟨sz,es,e,b,h⟩)
  .rename_i nj sz es e m r b;split at h
   .rename_i gO d;rcases aa h with⟨a,h⟩|⟨_,h⟩
    .rw[dI]at a;obtain⟨c,g⟩:=nw d;rw[dI]at a;exact .inr (.inr (.inr ⟨nj,sz,es,e,m,r,gO,c,b,g,d,⟨by simpa using a.1,eN a.2.1⟩,eN a.2.2,h⟩))
    .cases h
   .cases h
  .rename_i sz gO r b;exact .inr (.inr (.inl ⟨.inl ⟨sz,gO,r,b⟩,h⟩))
  .rename_i b;exact .inr (.inr (.inl ⟨.inr b,h⟩))
  .cases h
 .cases h
def mh:∀{os:L Nat}{s s':St}{m:Nat},freeze s os=Z s'->s.ob.get m=Z .gone->(∀o∈os,o<bg)->∀o∈os,∀nj sz es e r hole,s.ob.get o≠Z (.jL nj sz es e m r hole)
 |[],_,_,_,_,_,_,o,p,_,_,_,_,_,_=>by cases p
 |c::os,s,s',m,h,l,q,o,p,nj,sz,es,e,r,hole=>λf=>by
  obtain⟨_,h1|h1|h1|h1⟩:=s9 h
  .obtain ⟨g,i,x,a,h2⟩:=h1;have n:m≠c:=by rintro rfl;rw[l]at a;cases a
   have b:o≠c:=by rintro rfl;rw[f]at a;cases a
   have cC:∀k,k≠c->({s with ob:=s.ob.set aA c (.jC g i x)}:St).ob.get k=s.ob.get k:=λk d=>by show(s.ob.set aA c _).get k=_;rw[Tr.aO _ _ _ _ (q c (by simp)),bK d]
   exact mh h2 (by rw[cC m n];exact l) (λk d=>q k (by simp[d])) o ((ej.1 p).resolve_left b) nj sz es e r hole (by rw[cC o b];exact f)
  .obtain ⟨g,i,x,a,h2⟩:=h1;have b:o≠c:=by rintro rfl;rw[f]at a;cases a
   exact mh h2 l (λk d=>q k (by simp[d])) o ((ej.1 p).resolve_left b) nj sz es e r hole f
  .obtain ⟨a,h2⟩:=h1;have b:o≠c:=by
    rintro rfl
    rcases a with⟨_,_,_,h⟩|h<;>(rw[f]at h;cases h)
   exact mh h2 l (λk d=>q k (by simp[d])) o ((ej.1 p).resolve_left b) nj sz es e r hole f
  .obtain ⟨y,g,i,x,t,C,u,B,a,j,_,_,z,h2⟩:=h1;have v:m≠t:=by rintro rfl;rw[l]at j;cases j
   have n:m≠c:=by rintro rfl;rw[l]at a;cases a
   by_cases b:o=c
   .subst b;rw[f]at a;cases a;exact v rfl
   .have w:o≠t:=by rintro rfl;rw[f]at j;cases j
    have cC:∀k,k≠c->k≠t->({s with ob:=(s.ob.set aA t .gone).set aA c (.jC g (iw y i u) x)}:St).ob.get k=s.ob.get k:=λk d A=>by show((s.ob.set aA t _).set aA c _).get k=_;rw[Tr.aO _ _ _ _ (q c (by simp)),bK d,Tr.aO _ _ _ _ z,bK A]
    exact mh h2 (by rw[cC m n v];exact l) (λk d=>q k (by simp[d])) o ((ej.1 p).resolve_left b) nj sz es e r hole (by rw[cC o b w];exact f)
def dV(os:L Nat):∀{g:Gh}{s s':St}{w:World},aU g s w->freeze s os=Z s'->(∀o∈os,Live g s o)->
  ∃g',aU g' s' w∧Ext s.fl g w g' w∧jf s s' os:=by
 induction os with
 |nil=>intro g s s' w I h _;simp[freeze]at h;subst h;exact⟨g,I,Ext.refl _ _ _,⟨rfl,rfl,λo f=>(by cases f),λ_ _ _ _ h=>h,λo f=>(by cases f)⟩⟩
 |cons o os S=>
  intro g s s' w I h E;have hN:∀k∈o::os,k<bg:=λk i=>(E k i).1;have y:=hN o (by simp);obtain⟨K,h1|h1|h1|h1⟩:=s9 h
  .obtain ⟨sz,u,e0,f,h⟩:=h1;obtain⟨x,z⟩:∃x,g.arr o e0=Z x:=by
    rcases(E o (by simp)).2 with⟨e,x,z,⟨t,_,_,h⟩|⟨_,_,_,_,_,_,h⟩⟩|⟨_,_,_,h⟩|h
    .rw[f]at h;have h':fc J sz u e0=_:=ew h;exact⟨x,(ju h').2.2.2▸z⟩
    .rw[f]at h;cases h
    .rw[f]at h;cases h
    .rw[f]at h;cases h
   obtain⟨F,v⟩:=I.WS f z K;have cC:∀k,({s with ob:=s.ob.set aA o (.jC sz u e0)}:St).ob.get k=if k=o then Z (.jC sz u e0)else s.ob.get k:=λk=>Tr.aO _ _ _ _ y
   obtain⟨g',p,q,b⟩:=S F h (λk i=>by
    by_cases a:k=o
    .subst a;exact⟨y,.inl ⟨e0,x,z,.inl ⟨W,sz,u,by rw[cC,aY rfl];rfl⟩⟩⟩
    .have:=E k (by simp[i]);unfold Live at this ⊢;rw[cC,bK a];exact this)
   refine⟨g',p,v.trans q,⟨b.fl,b.au,λk i t c d j h1=>?_,λk c d j h1=>?_,λk i C c d j m r n h1 h2=>?_⟩⟩
   .by_cases a:k=o
    .subst a;rw[f]at h1;have G:fc J sz u e0=_:=ew h1;obtain⟨_,rfl,rfl,rfl⟩:=ju G;exact b.jC k sz u e0 (by rw[cC,aY rfl])
    .exact b.hit k ((ej.1 i).resolve_left a) t c d j (by rw[cC,bK a];exact h1)
   .have a:k≠o:=by
     rintro rfl
     rw[f]at h1;cases h1
    exact b.jC k c d j (by rw[cC,bK a];exact h1)
   .have a:k≠o:=by rintro rfl;rw[f]at h1;cases h1
    obtain⟨szr,A⟩:=nw h2;have B:m≠o:=by rintro rfl;rw[f]at A;cases A
    exact b.jL k ((ej.1 i).resolve_left a) C c d j m r n (by rw[cC,bK a];exact h1) (by simp only[Ed];rw[cC,bK B];exact h2)
  .obtain ⟨sz,u,e,f,h⟩:=h1;obtain⟨g',p,q,b⟩:=S I h (λk i=>E k (by simp[i]));refine⟨g',p,q,⟨b.fl,b.au,λk i t c d j h1=>?_,b.jC,λk i C c d j m r n h1 h2=>?_⟩⟩
   .rcases ej.1 i with rfl|i
    .rw[f]at h1;have G:fc W sz u e=_:=ew h1;obtain⟨_,rfl,rfl,rfl⟩:=ju G;exact b.jC k sz u e f
    .exact b.hit k i t c d j h1
   .have a:k≠o:=by rintro rfl;rw[f]at h1;cases h1
    exact b.jL k ((ej.1 i).resolve_left a) C c d j m r n h1 h2
  .obtain ⟨f,h⟩:=h1;obtain⟨g',p,q,b⟩:=S I h (λk i=>E k (by simp[i]));refine⟨g',p,q,⟨b.fl,b.au,λk i t c d j h1=>?_,b.jC,λk i C c d j m r n h1 h2=>?_⟩⟩
   .have a:k≠o:=by rintro rfl;rcases f with⟨_,_,_,h⟩|h<;>(rw[h1]at h;cases t<;>cases h)
    exact b.hit k ((ej.1 i).resolve_left a) t c d j h1
   .have a:k≠o:=by rintro rfl;rcases f with⟨_,_,_,h⟩|h<;>(rw[h1]at h;cases h)
    exact b.jL k ((ej.1 i).resolve_left a) C c d j m r n h1 h2
  .obtain ⟨C,sz,u,e0,m,r,n,szr,f,A,hr,⟨_,M⟩,H,h⟩:=h1;obtain⟨x,z⟩:∃x,g.arr o e0=Z x:=by
    rcases(E o (by simp)).2 with⟨e,x,z,⟨t,_,_,h⟩|⟨_,_,_,_,_,_,h⟩⟩|⟨_,_,_,h⟩|h
    .rw[f]at h;cases t<;>cases h
    .rw[f]at h;cases h;exact⟨x,z⟩
    .rw[f]at h;cases h
    .rw[f]at h;cases h
   obtain⟨g1,F,v⟩:=I.Qo f A H z K M;have hom:o≠m:=by rintro rfl;rw[f]at A;cases A
   have cC:∀k,({s with ob:=(s.ob.set aA m .gone).set aA o (.jC sz (iw C u n) e0)}:St).ob.get k=if k=o then Z (.jC sz (iw C u n) e0)else if k=m then Z .gone else s.ob.get k:=λk=>by show((s.ob.set aA m _).set aA o _).get k=_;rw[Tr.aO _ _ _ _ y,Tr.aO _ _ _ _ H]
   obtain⟨g',p,q,b⟩:=S F h (λk i=>by
    by_cases a:k=o
    .subst a;exact⟨y,.inl ⟨e0,x,v.arr _ _ _ z,.inl ⟨W,sz,_,by rw[cC,aY rfl];rfl⟩⟩⟩
    .by_cases l:k=m
     .subst l;exact⟨H,.inr (.inr (by rw[cC,bK a,aY rfl]))⟩
     .obtain ⟨h0,h1⟩:=E k (by simp[i]);refine⟨h0,?_⟩;rw[cC,bK a,bK l];exact h1.imp (λ⟨j,x',h1,h2⟩=>⟨j,x',v.arr _ _ _ h1,h2⟩) id)
   refine⟨g',p,v.trans q,⟨b.fl,b.au,λk i t c d j h1=>?_,λk c d j h1=>?_,λk i N c d j X r' P h1 h2=>?_⟩⟩
   .have a:k≠o:=by rintro rfl;rw[f]at h1;cases t<;>cases h1
    have l:k≠m:=by rintro rfl;rw[A]at h1;cases t<;>cases h1
    exact b.hit k ((ej.1 i).resolve_left a) t c d j (by rw[cC,bK a,bK l];exact h1)
   .have a:k≠o:=by rintro rfl;rw[f]at h1;cases h1
    have l:k≠m:=by rintro rfl;rw[A]at h1;cases h1
    exact b.jC k c d j (by rw[cC,bK a,bK l];exact h1)
   .by_cases a:k=o
    .subst a;rw[f]at h1;cases h1;rw[hr]at h2;cases h2;exact b.jC k _ _ _ (by rw[cC,aY rfl])
    .have Q:=(ej.1 i).resolve_left a;obtain⟨szr',R⟩:=nw h2;have l:k≠m:=by rintro rfl;rw[A]at h1;cases h1
     have B:X≠o:=by rintro rfl;rw[f]at R;cases R
     have hmm:X≠m:=by
      rintro rfl
      exact mh h (m:=X) (by rw[cC,bK B,aY rfl]) (λk i=>hN k (by simp[i])) k Q N c d j r' Y (by rw[cC,bK a,bK l];exact h1)
     exact b.jL k Q N c d j X r' P (by rw[cC,bK a,bK l];exact h1) (by simp only[Ed];rw[cC,bK B,bK hmm];exact h2)
mutual
def j3{g:Gh}{s:St}{w:World}(hs:aU g s w):∀(t:T){v:Value}{p:Prop}{d:D}{os:L Nat},ud s t=Z (p,d,os)->p->aC g w t v->
  (∀o∈os,Live g s o)∧∀(g':Gh)(s':St),aU g' s' w->Ext s.fl g w g' w->jf s s' os->dM g'.bf w d v
 | .sym d,v,p,H,os,h,C,f=>by simp only[ud,aV,bq]at h;obtain⟨_,rfl,rfl⟩:=h;cases f with|sym _ _ y=>exact⟨λo l=>(by cases l),λg' s' _ A _=>y.ext A hs.bf⟩
 | .kb b,v,p,H,os,h,C,f=>by simp only[ud,aV,bq]at h;obtain⟨_,rfl,rfl⟩:=h;cases f;exact⟨λo l=>(by cases l),λg' s' _ A _=>.lit _⟩
 | .kn k n,v,p,H,os,h,C,f=>by simp only[ud,aV,bq]at h;obtain⟨_,rfl,rfl⟩:=h;cases f;exact⟨λo l=>(by cases l),λg' s' _ A _=>.lit _⟩
 | .emp,v,p,H,os,h,C,f=>by simp only[ud,aV,bq]at h;obtain⟨_,rfl,rfl⟩:=h;cases f with|emp a=>exact⟨λo l=>(by cases l),λg' s' _ A _=>.sl [] a 0 0 (λ_ _=>undef) (by simp) (by simp) (by simp) (λh=>absurd rfl h) (λi j d c h=>by simp at h)⟩
 | .ja n I,v,p,H,os,h,C,f=>by simp only[ud,aV,bq]at h;obtain⟨_,rfl,rfl⟩:=h;cases f with|ja _ _ a hn y=>exact⟨λo l=>(by cases l),λg' s' _ A _=>y.ext A hs.bf⟩
 | .nk j d,v,p,H,os,h,C,f=>by simp only[ud,aV,bq]at h;obtain⟨_,rfl,rfl⟩:=h;cases f with|nk _ _ c a hj y=>exact⟨λo l=>(by cases l),λg' s' _ A _=>(xO hj y).ext A hs.bf⟩
 | .pL _ _ _ _,_,_,_,_,h,_,_=>by simp[ud]at h
 | .sh o e,v,p,H,os,h,C,f=>by
  cases f with
  |sh _ _ len cap sz a K=>
  simp only[ud]at h;split at h
  .rename_i z I era l;rcases aa h with⟨G,B⟩|⟨_,B⟩
   .have E:=beq_iff'.1 G;simp only[aV,bq]at B;obtain⟨_,rfl,rfl⟩:=B;clear h G;subst E;refine⟨λk M=>?_,λg' s' F A Q=>?_⟩
    .simp at M;subst M;exact⟨gN (hs.lt' K) hs.au,.inl ⟨e,_,K,.inl ⟨J,z,I,l⟩⟩⟩
    .exact F.Gu (Q.hit o (by simp) J z I e l) (A.arr _ _ _ K)
   .cases B
  .rename_i z I era l;rcases aa h with⟨G,B⟩|⟨_,B⟩
   .have E:=beq_iff'.1 G;simp only[aV,bq]at B;obtain⟨_,rfl,rfl⟩:=B;clear h G;subst E;exact⟨λk M=>(by cases M),λg' s' F A Q=>F.Gu (Q.jC o z I e l) (A.arr _ _ _ K)⟩
   .cases B
  .rename_i nj z I era m r l;split at h
   .rename_i R P;rcases aa h with⟨G,B⟩|⟨_,B⟩
    .rw[dI]at G;have E:=beq_iff'.1 G.1;have ZP:m<bg:=eN G.2;simp only[aV,bq]at B;obtain⟨_,rfl,rfl⟩:=B;clear h G;subst E;refine⟨λk M=>?_,λg' s' F A Q=>?_⟩
     .simp at M;rcases M with rfl|rfl
      .exact ⟨gN (hs.lt' K) hs.au,.inl ⟨e,_,K,.inr ⟨nj,z,I,m,r,Y,l⟩⟩⟩
      .obtain ⟨szr,hm⟩:=nw P;exact⟨ZP,.inr (.inl ⟨szr,R,r,hm⟩)⟩
     .exact F.Gu (Q.jL o (by simp) nj z I e m r R l P) (A.arr _ _ _ K)
    .cases B
   .cases h
  .cases h
 | .cE t x,v,p,H,os,h,C,f=>by
  cases f with
  |cE _ _ u hu=>
  simp only[ud]at h;split at h
  .rename_i q d S y;simp only[aV,bq]at h;obtain⟨rfl,rfl,rfl⟩:=h;obtain⟨h1,h2⟩:=j3 hs x y C hu;exact⟨h1,λg' s' a b c=>.cE _ _ _ (h2 g' s' a b c)⟩
  .cases h
 | .agg cs,v,p,H,os,h,C,f=>by
  cases f with
  |agg _ vs X P=>
  simp only[ud]at h;split at h
  .rename_i q ds S y;simp only[aV,bq]at h;obtain⟨rfl,rfl,rfl⟩:=h;obtain⟨h0,h1,h2⟩:=qJ hs cs (vs:=vs.toList) y C.1 (by simpa using X) (λj t v f N=>P j t v f (by simpa using N));refine⟨h1,λg' s' a b c=>.agg _ _ (by rw[h0,X]) (λd y=>by have:=C.2;rw[dU]at this;exact this d y) (λj d v y N=>h2 g' s' a b c j d v y (by simpa using N))⟩
  .cases h
 | .fQ cs,v,p,H,os,h,C,f=>by
  cases f with
  |fQ _ vs X P=>
  simp only[ud]at h;split at h
  .rename_i q ds S y;simp only[aV,bq]at h;obtain⟨rfl,rfl,rfl⟩:=h;obtain⟨h0,h1,h2⟩:=qJ hs cs (vs:=vs.toList) y C (by simpa using X) (λj t v f N=>P j t v f (by simpa using N));exact⟨h1,λg' s' a b c=>.fQ _ _ (by rw[h0,X]) (λj d v y N=>h2 g' s' a b c j d v y (by simpa using N))⟩
  .cases h
 | .ptr _ _,_,_,_,_,h,_,_=>by simp[ud]at h
 | .lR _ _,_,_,_,_,h,_,_=>by simp[ud]at h
 | .jV _ _ _ _,_,_,_,_,h,_,_=>by simp[ud]at h
 | .fn _ _ _,_,_,_,_,h,_,_=>by simp[ud]at h
 | .gd _ _,_,_,_,_,h,_,_=>by simp[ud]at h
def qJ{g:Gh}{s:St}{w:World}(hs:aU g s w):∀(ts:L T){vs:L Value}{p:Prop}{ds:L D}{os:L Nat},kQ s ts=Z (p,ds,os)->p->ts.length=vs.length->
  (∀(j:Nat)(t:T)(v:Value),ts[j]?=Z t->vs[j]?=Z v->aC g w t v)->
  ds.length=ts.length∧(∀o∈os,Live g s o)∧∀(g':Gh)(s':St),aU g' s' w->Ext s.fl g w g' w->jf s s' os->
   ∀(j:Nat)(d:D)(v:Value),ds[j]?=Z d->vs[j]?=Z v->dM g'.bf w d v
 |[],vs,p,ds,os,h,e,c,f=>by simp only[kQ,aV,bq]at h;obtain⟨_,rfl,rfl⟩:=h;exact⟨rfl,λo ho=>(by cases ho),λg' s' _ _ _ j d v a=>by simp at a⟩
 |t::ts,vs,p,ds,os,h,e,c,f=>by
  simp only[kQ]at h;split at h
  .rename_i B d i C l k h1 h2;simp only[aV,bq]at h;obtain⟨rfl,rfl,rfl⟩:=h
   match vs,c with
   |v::vs,c=>
    obtain⟨a1,a2⟩:=j3 hs t h1 e.1 (f 0 t v rfl rfl);obtain⟨m,n,q⟩:=qJ hs ts (vs:=vs) h2 e.2 (by simpa using c) (λj t v r b=>f (j+1) t v (by simpa using r) (by simpa using b));refine⟨by simp[m],λo ho=>?_,λg' s' x y z j d v a b=>?_⟩
    .rcases dy.1 ho with ho|ho
     .exact a1 o ho
     .exact n o ho
    .have u:jf s s' i:=z.sub (λo ho=>dH _ ho);have A:jf s s' k:=z.sub (λo ho=>gp _ ho);cases j with|zero=>simp at a b;subst a;subst b;exact a2 g' s' x y u|succ j=>exact q g' s' x y A j d v (by simpa using a) (by simpa using b)
  .cases h
end
end
section
def PW{α β:Type}(R:α->β->Prop)(l:L α)(m:L β):Prop:=l.length=m.length∧∀(j:Nat)(a:α)(b:β),l[j]?=Z a->m[j]?=Z b->R a b
section
variable {α β:Type}{R:α->β->Prop}
def PW.append{l e:L α}{m f:L β}(h:PW R l m)(g:PW R e f):PW R (l++e) (m++f):=by
 refine⟨by simp[h.1,g.1],λj a b d c=>?_⟩;rw[kR]at d c;rw[<-h.1]at c;by_cases i:j<l.length
 .rw[aY i]at d c;exact h.2 j a b d c
 .rw[bK i]at d c;exact g.2 _ a b d c
def PW.take{l:L α}{m:L β}(h:PW R l m)(n:Nat):PW R (l.take n) (m.take n):=by
 refine⟨by simp[h.1],λj a b c d=>?_⟩;rw[uF]at c d;by_cases e:j<n
 .rw[aY e]at c d;exact h.2 j a b c d
 .rw[bK e]at c;cases c
def PW.drop{l:L α}{m:L β}(h:PW R l m)(n:Nat):PW R (l.drop n) (m.drop n):=by refine⟨by simp[h.1],λj a b c d=>?_⟩;rw[Au]at c d;exact h.2 _ a b c d
end
def LH{l:L T}(h:leaves l):∀t∈l,t.leaf:=by
 induction l with
 |nil=>intro t b;cases b
 |cons a l c=>
  intro t b;rcases ej.1 b with rfl|b
  .exact h.1
  .exact c h.2 t b
variable {g:Gh}{w:World}{P:Program}{i:TI}
def PW.one{l:L T}{vs:L Value}(h:PW (aC g w) l vs)(hl:leaves l):∀v∈vs,v.oneCell'=W:=by
 intro v c;obtain⟨j,b,rfl⟩:=oJ c;have a:j<l.length:=by rw[h.1];exact b
 exact(OX (LH hl _ (BI a)) (h.2 j _ _ (eS a) (eS b))).1
def uS{t:TypeId}{x:TypeInfo}(c:P.info? t=Z x)(w:World)(b off:Nat)(v:Value)(a:v.cells.size=x.size){vs:Array Value}{ty:TypeId}
  (d:w.heap[b]?=Z (.cells vs ty (0,0))) (hl:off+v.cells.size<=vs.size) (h1:∀u∈v.cells.toList,u.oneCell'=W) :
  (storeVar t ⟨b,off,Y⟩ v).run P w=.ok () (w.setRow b (vs.toList.take off++v.cells.toList++vs.toList.drop (off+v.cells.size)).toArray):=by
 have:=run_storeCells_at (P:=P) b off ty v.cells.toList 0 vs w d (by simpa using hl) h1;simp only[wZ,E8]at this;simp[storeVar,de c,a,this]
def nE{t:T}{v:Value}{p:Prop}{cs:L T}(h:ij i t=Z (p,cs))(c:p)(d:aC g w t v) :
  PW (aC g w) cs v.cells.toList∧cs.length=i.size:=by
 obtain⟨h1,h2,h3,_⟩:=kO h c d;exact⟨⟨by simp[h1,h2],λj a b e f=>h3 j a b e (by simpa using f)⟩,h1⟩
def D.Kk{ds:L D}(h:ds.all D.leaf=W):∀d∈ds,d.leaf=W:=by simpa using h
def GP(es:L D)(k i:Nat)(d c:D)(h:(D.put es k d)[i]?=Z c):(i=k∧k<es.length∧c=d)∨(i≠k∧es[i]?=Z c):=by
 unfold D.put at h;rw[GK]at h;by_cases a:k=i
 .subst a;rw[aY rfl]at h;by_cases b:k<es.length
  .rw[aY b]at h;exact .inl ⟨rfl,b,(ew h).symm⟩
  .rw[bK b]at h;cases h
 .rw[bK a]at h;exact .inr ⟨λe=>a e.symm,h⟩
def Gp{ty:TypeId}(hi:mw P ty i){s s':St}(hs:aU g s w){a x:T}{va vx:Value}(ha:aC g w a va)(hx:aC g w x vx)
  {p:Prop} {t:T} (h:storeT i s a x=Z (p,t,s')) (hp:p) :
  ∃w' g',(Instr.storeAt ty va vx).run P w=.ok () w'∧aU g' s' w'∧Ext s.fl g w g' w'∧t=Nk:=by
 obtain⟨xi,d0,z,LS,hu,hsz,XZ,_⟩:=hi.all;unfold storeT at h;cases hc:ij i x with
 |none=>simp[hc]at h
 |some q=>
  obtain⟨q,l⟩:=q;simp only[hc]at h;cases ha with
  |ptr o off b hb=>
   cases y:s.ob.get o with
   |none=>simp[y]at h
   |some ob=>
   simp only[y]at h;cases ob with
   |box cs=>
   obtain⟨A,ety,hh,hl,hr⟩:=(hs.box o b hb).box y;simp only at h;rcases aa h with⟨hn,h⟩|⟨_,h⟩
   .simp only[dI]at hn;have N:=eN hn.1;have hlen:off+bU l<=bU cs:=eN hn.2;rw[bA,bA]at hlen;simp only[aV,bq]at h;obtain⟨rfl,rfl,rfl⟩:=h;obtain⟨C,Q⟩:=nE hc hp.1 hx;have B:vx.cells.size=l.length:=by simpa using C.1.symm
    have hcs:PW (aC g w) cs A.toList:=⟨by simpa using hl,λj a b h1 h2=>hr j a b h1 (by simpa using h2)⟩;have G:=uS (P:=P) LS w b off vx (by rw[B,Q,hsz]) hh (by omega) (C.one hp.2);rw[B]at G;have hnew:PW (aC g w) (cs.take off++l++cs.drop (Nat.add off (bU l))) (A.toList.take off++vx.cells.toList++A.toList.drop (off+l.length)):=by rw[bA];exact((hcs.take off).append C).append (hcs.drop _)
    obtain⟨hs',R⟩:=hs.YL hb y N (cs':=cs.take off++l++cs.drop (Nat.add off (bU l)))
     (vs':=(A.toList.take off++vx.cells.toList++A.toList.drop (off+l.length)).toArray) (by simpa using hnew.1) (λj t v h1 h2=>hnew.2 j t v h1 (by simpa using h2))
    exact⟨_,g,by simpa[Instr.storeAt,Instr.sureAddr]using G,hs',R,rfl⟩
   .cases h
   |_=>simp at h
  |jV o e k off len cap sz ad ads=>
   cases F:kQ s l with
   |none=>simp[F]at h
   |some r=>
    obtain⟨r,ds,os⟩:=r;simp only[F]at h;cases H:freeze s os with
    |none=>simp[H]at h
    |some s1=>
    simp only[H]at h;cases y:s1.ob.get o with
    |none=>simp[y]at h
    |some ob=>
     cases ob with
     |box _=>simp[y]at h
     |jC _ _ _=>simp[y]at h
     |map _=>simp[y]at h
     |oG _ _=>simp[y]at h
     |jL _ _ _ _ _ _ _=>simp[y]at h
     |rws _ _ _=>simp[y]at h
     |gone=>simp[y]at h
     |Cj=>simp[y]at h
     |lp _=>simp[y]at h
     |wE=>simp[y]at h
     |arr sz' es era=>
      simp only[y]at h;rcases aa h with⟨hn,h9⟩|⟨_,h9⟩
      .simp only[dI]at hn;obtain⟨N,hee⟩:=hn;have N:=eN N;have hee:=beq_iff'.1 hee;subst hee;simp only[aV,bq]at h9;obtain⟨rfl,rfl,rfl⟩:=h9;obtain⟨hp1,Ww,hp3,hp4,hp5,hp6,hp7⟩:=hp;obtain⟨C,Q⟩:=nE hc hp1 hx;obtain⟨b0,b1,b2⟩:=qJ hs l F Ww C.1 C.2;obtain⟨g1,Eo,he1,S⟩:=dV os hs H b1;have AB:=b2 g1 s1 Eo he1 S;have hga:=he1.arr _ _ _ ads;clear ads;have ai5:=S.fl;clear b1 b2 F H S;obtain⟨E,acY⟩:=Eo.mJ (fz:=J) y hga;change sz=sz' at acY;subst acY;have hk:=N2 hp4;obtain⟨n,I,f,aid⟩:∃n,(D.el es k).cells=n∧n.length=sz∧(off+ds.length<=sz->(D.Nj (D.el es k) off ds).cells=n.take off++ds++n.drop (off+ds.length)):=by
        rcases hp5 with hp5|⟨h1,h2,h3,h4⟩
        .obtain ⟨n,I,f,hcf⟩:=v9 hp5;exact⟨n,by rw[I];rfl,f,λ_=>by rw[I];rfl⟩
        .rw[bA]at h4;obtain⟨d1,rfl⟩:=IZ.1 h4;have hl1:=D.Kk hp3 d1 (by simp);have Va:∀d:D,d.leaf=W->d.cells=[d]:=by intro d F;cases d<;>first|rfl|simp[D.leaf]at F
         refine⟨[D.el es k],Va _ h1,h2.symm,λ_=>?_⟩;subst h3;have:D.Nj (D.el es k) 0 [d1]=d1:=by generalize D.el es k=q at h1;cases q<;>first|rfl|simp[D.leaf]at h1
         rw[this,Va _ hl1];rfl
       have hoff:off+ds.length<=sz:=by have:=eN hp6;rw[bA]at this;exact this
       have h1:=E.len;have h2:=E.cap;simp only at h1 h2;obtain⟨b,A,ety,hab,hfz,hh,K,M⟩:=E.mem (by simp only;omega);simp only[aV]at hab;subst hab;have B:vx.cells.size=ds.length:=by rw[b0];simpa using C.1.symm
       have hbound:k*sz+sz<=A.size:=by have:(k+1)*sz<=cap*sz:=uG _ (by omega);rw[Ao,sN]at this;exact eO this K
       have hone:∀u∈vx.cells.toList,u.oneCell'=W:=by
        intro u hu;obtain⟨j,hj,rfl⟩:=oJ hu;have hj':j<ds.length:=by rw[b0,C.1];exact hj
        exact(sW (D.Kk hp3 _ (BI hj')) (AB j _ _ (eS hj') (eS hj))).1
       have G:=uS (P:=P) LS w b (k*sz+off) vx (by rw[B,b0,Q,hsz]) hh (by omega) hone;have A1:(⟨Z ⟨b,0,Y⟩,len,cap,sz⟩:eX).at b:=⟨_,rfl,rfl,by simp only;omega⟩;have hsc:=aid hoff;have X:(A.toList.take (k*sz+off)++vx.cells.toList++A.toList.drop (k*sz+off+vx.cells.size)).length=A.size:=by simp[B];omega
       have ZI:tZ g1 (w.setRow b (A.toList.take (k*sz+off)++vx.cells.toList++A.toList.drop (k*sz+off+vx.cells.size)).toArray) J sz
         (D.put es k ((D.el es k).Nj off ds)) ⟨Z ⟨b,0,Y⟩,len,cap,sz⟩:=by
        refine⟨by simp[D.put,h1],h2,λd F=>?_,E.pos,λd F=>?_,λh0=>?_,λ_=>⟨b,_,ety,rfl,hfz,setRow_heap w b A _ ety _ hh,by simp only[IW];rw[X];exact K,?_⟩⟩
        .obtain ⟨j,hj,rfl⟩:=oJ F;rcases GP _ _ _ _ _ (eS hj)with⟨rfl,_,R⟩|⟨_,R⟩
         .rw[R,hsc];simp[f];omega
         .exact E.rows _ (gk R)
        .obtain ⟨j,hj,rfl⟩:=oJ F;rcases GP _ _ _ _ _ (eS hj)with⟨rfl,_,R⟩|⟨_,R⟩
         .rw[R,hp7];have hb:=E.Vd _ (gk (D.HD hk));simpa[D.put]using hb
         .have hb:=E.Vd _ (gk R);simpa[D.put]using hb
        .have:es.length=0:=by simpa[D.put]using oI List.length h0
         omega
        .intro i d j c F hj;have m:∀(v:Value),A[i*sz+j]?=Z v->(i≠k∧j<sz∨i=k∧(j<off∨off+ds.length<=j))->
           (A.toList.take (k*sz+off)++vx.cells.toList++A.toList.drop (k*sz+off+vx.cells.size)).toArray[i*sz+j]?=Z v:=by
          intro v hv zU;have hlt:i*sz+j<A.size:=by have:=(GM.1 hv).1;exact this
          have Z1:i*sz+j<k*sz+off∨k*sz+off+ds.length<=i*sz+j:=by
           rcases zU with⟨hik,hj⟩|⟨rfl,hj⟩
           .rcases Nat.lt_or_gt_of_ne hik with hik|hik
            .have:(i+1)*sz<=k*sz:=uG _ hik;rw[Ao,sN]at this
             left;omega
            .have:(k+1)*sz<=i*sz:=uG _ hik;rw[Ao,sN]at this
             right;omega
           .rcases hj with hj|hj
            .left;omega
            .right;omega
          rw[Lm,kR,kR];rcases Z1 with Va|Va
          .rw[aY (by simp[B];omega),aY (by simp;omega),uF,aY Va];simpa using hv
          .rw[bK (by simp[B];omega),Au];have:k*sz+off+vx.cells.size+(i*sz+j-(List.take (k*sz+off) A.toList++vx.cells.toList).length)=i*sz+j:=by simp[B];omega
           rw[this];simpa using hv
         rcases GP _ _ _ _ _ F with⟨rfl,hlt,rfl⟩|⟨hik,F⟩
         .rw[hsc]at hj;have Jy:j<sz:=by have:=ax hj;simp[f]at this;omega
          by_cases hin:off<=j∧j<off+ds.length
          .have hj2:ds[j-off]?=Z c:=by
            rw[kR,if_pos (by simp[f];omega),kR,bK (by simp[f];omega)]at hj;have:j-(n.take off).length=j-off:=by simp[f];omega
            rwa [this]at hj
           have ZQ:j-off<vx.cells.size:=by omega
           refine⟨vx.cells[j-off],?_,?_⟩
           .rw[Lm,kR,aY (by simp[B];omega),kR,bK (by simp;omega)];have:i*sz+j-(List.take (i*sz+off) A.toList).length=j-off:=by simp;omega
            rw[this];simp[ZQ]
           .have:=AB (j-off) c vx.cells[j-off] hj2 (by simp[ZQ]);exact this.ext (Ext.refl 0 g1 w) Eo.bf |>.mono (λb' hb'=>setRow_other w b b' _ (λe=>by subst e;exact Bool.noConfusion (hfz.2 hb'))) (λ_ h=>h)
          .have hj2:n[j]?=Z c:=by
            rw[kR,kR]at hj;by_cases hlo:j<off
            .rw[aY (by simp[f];omega),aY (by simp[f];omega),uF,aY hlo]at hj;exact hj
            .rw[bK (by simp[f];omega),Au]at hj;have:off+ds.length+(j-(List.take off n++ds).length)=j:=by simp[f];omega
             rwa [this]at hj
           obtain⟨v,hv,hr⟩:=M i (D.el es i) j c (D.HD hlt) (by rw[I];exact hj2);refine⟨v,m v hv (.inr ⟨rfl,by omega⟩),hr.mono (λb' hb'=>setRow_other w b b' _ (λe=>by subst e;exact Bool.noConfusion (hfz.2 hb'))) (λ_ h=>h)⟩
         .obtain ⟨v,hv,hr⟩:=M i d j c F hj;have Jy:j<sz:=by rw[<-E.rows d (gk F)];exact ax hj
          exact⟨v,m v hv (.inl ⟨hik,Jy⟩),hr.mono (λb' hb'=>setRow_other w b b' _ (λe=>by subst e;exact Bool.noConfusion (hfz.2 hb'))) (λ_ h=>h)⟩
       obtain⟨hs',R⟩:=Eo.YT y hga N A1 ZI;refine⟨_,g1,?_,hs',he1.trans (ai5▸R),rfl⟩;rw[mK];simpa[Instr.storeAt,Instr.sureAddr]using G
      .cases h9
  |_=>simp at h
end
section
variable {k:IntKind}{I:Nat->Prop}{d:D}{b a:T}{va vb:Value}{r:Bool}
def yO{j:IntKind}(h:mG j k=W):j=k:=by cases j<;>cases k<;>first|rfl|cases h
section
variable {g:Gh}{w:World}{t:T}{v:Value}{p:Prop}
def PX(h:D.isInt k d=W)(a:dM I w d v):v=.int k d.toInt:=by
 cases a with
 |lit v=>
  cases v with|int j n=>rw[yO h];rfl|_=>cases h
 |_=>cases h
def CD(h:d.isBool=W)(a:dM I w d v):v=.bool d.toBool:=by
 cases a with
 |lit v=>
  cases v with|bool b=>rfl|_=>cases h
 |_=>cases h
def PV(h:d.isStr=W)(a:dM I w d v):v=.string d.toStr:=by
 cases a with
 |lit v=>
  cases v with|string b=>rfl|_=>cases h
 |_=>cases h
def dn{n:Int}(h:sA k t=Z (p,n))(a:p)(b:aC g w t v):v=.int k n:=by
 cases b with
 |kn j m=>
  simp only[sA]at h;rcases aa h with⟨c,h⟩|⟨_,h⟩
  .simp only[aV,bq]at h;rw[yO c,h.2]
  .cases h
 |sym d v e=>simp only[sA,aV,bq]at h;obtain⟨rfl,rfl⟩:=h;exact PX a e
 |_=>simp[sA]at h
def hG{b:Bool}(h:vu t=Z (p,b))(a:p)(e:aC g w t v):v=.bool b:=by
 cases e with
 |kb c=>simp only[vu,aV,bq]at h;rw[h.2]
 |sym d v f=>simp only[vu,aV,bq]at h;obtain⟨rfl,rfl⟩:=h;exact CD a f
 |_=>simp[vu]at h
def gE{b:ByteArray}(h:vK t=Z (p,b))(a:p)(c:aC g w t v):v=.string b:=by
 cases c with
 |sym d v e=>simp only[vK,aV,bq]at h;obtain⟨rfl,rfl⟩:=h;exact PV a e
 |_=>simp[vK]at h
def D.ur(h:d.acG=W):d=.sl d.YI:=by cases d<;>first|rfl|cases h
def Nu{s:St}(hs:aU g s w){es:L D}(h:qc s t=Z (p,es))(x:p)(y:aC g w t v):∃a cap,v=.slice a es.length cap∧es.length<=cap:=by
 cases y with
 |emp a=>simp only[qc,aV,bq]at h;obtain⟨_,rfl⟩:=h;exact⟨a,0,rfl,by simp⟩
 |ja n b a C q=>simp only[qc,aV,bq]at h;obtain⟨_,rfl⟩:=h;exact⟨a,_,rfl,bS _⟩
 |nk j d c a E q=>simp only[qc,aV,bq]at h;obtain⟨_,rfl⟩:=h;exact⟨a,1,rfl,bS _⟩
 |sym d v q=>
  simp only[qc,aV,bq]at h;obtain⟨rfl,rfl⟩:=h;rw[D.ur x]at q;generalize d.YI=es at *
  cases q with|sl _ a cap sz val k=>exact⟨a,cap,rfl,k⟩
 |sh o e len cap sz a z=>
  simp only[qc]at h;have key:∀u f(b:L D)era,s.ob.get o=Z (fc u f b era)->(bif Nat.beq e era then Z (True,b)else Y)=Z (p,es)->
    ∃A i,Value.slice a len cap=.slice A es.length i∧es.length<=i:=by
   intro u f b era l h;rcases aa h with⟨B,h⟩|⟨_,h⟩
   .have r:=beq_iff'.1 B;simp only[aV,bq]at h;obtain⟨_,rfl⟩:=h;obtain⟨m,_⟩:=hs.mJ (r▸l) z;have h1:=m.len;have h2:=m.cap;simp only at h1 h2;exact⟨a,cap,by rw[h1],by omega⟩
   .cases h
  split at h
  .rename_i f b era l;exact key J f b era l h
  .rename_i f b era l;exact key W f b era l h
  .cases h
 |_=>simp[qc]at h
end
section
variable {P:Program}{g:Gh}{w:World}
def rN{x:T}{vx:Value}{q:Prop}{y:Bool}(h:DB x=Z (q,y))(a:q)(f:aC g w x vx):vx=.bool y:=by
 cases f with
 |gd c t v e=>
  simp only[DB]at h;split at h
  .rename_i j k h1;simp only[aV,bq]at h;obtain⟨rfl,rfl⟩:=h;exact hG h1 a.2 (e a.1)
  .cases h
 |kb b=>simp only[DB,aV,bq]at h;rw[h.2]
 |sym d v i=>simp only[DB,aV,bq]at h;obtain⟨rfl,rfl⟩:=h;exact CD a i
 |_=>simp[DB]at h
def I7{c:T}{i:Value}{p:Prop}{t:T}(h:Fb c a b=Z (p,t))(d:p)(j:aC g w c i)(k:aC g w a va)(l:aC g w b vb) :
  ∃u,i=.bool u∧aC g w t (if u then va else vb):=by
 unfold Fb at h;split at h
 .rename_i u;cases j;refine⟨u,rfl,?_⟩;split at h
  .rename_i q y e;simp only[aV,bq]at h;obtain⟨rfl,rfl⟩:=h;cases u with|true=>rw[aY rfl,rN e d k];exact .sym _ _ (.lit _)|false=>rw[bK Bool.noConfusion,rN e d l];exact .sym _ _ (.lit _)
  .cases h
 split at h
 .rename_i n u o r s v m h1 h2;simp only[aV,bq]at h;obtain⟨rfl,rfl⟩:=h;have f:=hG m d.1 j;refine⟨u,f,?_⟩;cases u with|true=>rw[rN h1 (d.2.1 rfl) k];exact .sym _ _ (.lit _)|false=>rw[rN h2 (d.2.2 rfl) l];exact .sym _ _ (.lit _)
 .cases h
def xJ{l:Lk}{p:Prop}(h:om l a b=Z (p,r))(c:p)(d:aC g w a va)(e:aC g w b vb) :
  yc l va∧yc l vb∧r=CU va vb:=by
 cases l with
 |int k=>
  simp only[om]at h;split at h
  .rename_i f x i y h1 h2;simp only[aV,bq]at h;obtain⟨rfl,rfl⟩:=h;rw[dn h1 c.1 d,dn h2 c.2 e];exact⟨⟨_,rfl⟩,⟨_,rfl⟩,rfl⟩
  .cases h
 |bool=>
  simp only[om]at h;split at h
  .rename_i f x i y h1 h2;simp only[aV,bq]at h;obtain⟨rfl,rfl⟩:=h;rw[hG h1 c.1 d,hG h2 c.2 e];exact⟨⟨_,rfl⟩,⟨_,rfl⟩,rfl⟩
  .cases h
 |str=>
  simp only[om]at h;split at h
  .rename_i f x i y h1 h2;simp only[aV,bq]at h;obtain⟨rfl,rfl⟩:=h;rw[gE h1 c.1 d,gE h2 c.2 e];exact⟨⟨_,rfl⟩,⟨_,rfl⟩,rfl⟩
  .cases h
 |no=>simp[om]at h
def tj:∀(c:L Lk)(as bs:L T)(va vb:L Value){p:Prop}{r:Bool},iY c as bs=Z (p,r)->p->PW (aC g w) as va->PW (aC g w) bs vb->
  va.length=c.length∧vb.length=c.length∧(∀(j:Nat)(l:Lk)(v:Value),c[j]?=Z l->va[j]?=Z v->yc l v)∧
   (∀(j:Nat)(l:Lk)(v:Value),c[j]?=Z l->vb[j]?=Z v->yc l v)∧r=jU va vb
 |[],[],[],va,vb,p,r,h,k,d,e=>by simp only[iY,aV,bq]at h;have h1:va=[]:=qU d.1.symm;have h2:vb=[]:=qU e.1.symm;subst h1;subst h2;refine⟨rfl,rfl,λj l v h=>by simp at h,λj l v h=>by simp at h,h.2.symm⟩
 |l::c,a::as,b::bs,va,vb,p,r,h,k,d,e=>by
  simp only[iY]at h;split at h
  .rename_i G x H y h1 h2;simp only[aV,bq]at h;obtain⟨rfl,rfl⟩:=h
   match va,vb,d,e with
   |v::va,u::vb,d,e=>
    obtain⟨s,t,z⟩:=xJ h1 k.1 (d.2 0 _ _ rfl rfl) (e.2 0 _ _ rfl rfl);obtain⟨A,B,C,E,F⟩:=tj c as bs va vb h2 k.2 ⟨by simpa using d.1,λj x y m n=>d.2 (j+1) x y (by simpa using m) (by simpa using n)⟩
     ⟨by simpa using e.1,λj x y m n=>e.2 (j+1) x y (by simpa using m) (by simpa using n)⟩
    refine⟨by simp[A],by simp[B],λj o q f i=>?_,λj o q f i=>?_,?_⟩
    .cases j with|zero=>simp at f i;subst f;subst i;exact s|succ j=>exact C j o q (by simpa using f) (by simpa using i)
    .cases j with|zero=>simp at f i;subst f;subst i;exact t|succ j=>exact E j o q (by simpa using f) (by simpa using i)
    .rw[z,F];rfl
  .cases h
 |[],[],_::_,_,_,_,_,h,_,_,_=>by simp[iY]at h
 |[],_::_,_,_,_,_,_,h,_,_,_=>by simp[iY]at h
 |_::_,[],_,_,_,_,_,h,_,_,_=>by simp[iY]at h
 |_::_,_::_,[],_,_,_,_,h,_,_,_=>by simp[iY]at h
def Pb(d:Nat){ty e:TypeId}(b:P.underlying ty=Z (.pointer e))(a:Addr):(Op.equalIn (d+1) ty (.pointer Y) (.pointer (Z a))).run P w=.ok J w:=by simp only[Op.equalIn,Sem.run_bind,aI b,Result.andThen_ok];rfl
def Pc(d:Nat){ty e:TypeId}(b:P.underlying ty=Z (.pointer e))(a:Addr):(Op.equalIn (d+1) ty (.pointer (Z a)) (.pointer Y)).run P w=.ok J w:=by simp only[Op.equalIn,Sem.run_bind,aI b,Result.andThen_ok];rfl
def Pd(d:Nat){ty:TypeId}{a:Array (String×TypeId)}(b:P.underlying ty=Z (.interface a))(t:TypeId)(v:Value):(Op.equalIn (d+1) ty .nilIface (.iface t v)).run P w=.ok J w:=by simp only[Op.equalIn,Sem.run_bind,aI b,Result.andThen_ok];rfl
def EX(d:Nat){ty:TypeId}{a:Array (String×TypeId)}(b:P.underlying ty=Z (.interface a))(t:TypeId)(v:Value):(Op.equalIn (d+1) ty (.iface t v) .nilIface).run P w=.ok J w:=by simp only[Op.equalIn,Sem.run_bind,aI b,Result.andThen_ok];rfl
def mU{ty:TypeId}(x y:Operand)(h1:binOp .eql ty va vb=(do pure (.bool (<-Op.equal ty va vb))))(h2:binOp .neq ty va vb=(do pure (.bool (!(<-Op.equal ty va vb)))))
  (b:∀op,(eqGuard op ty x y va vb).run P w=.ok () w) (c:(Op.equalIn (9999+1) ty va vb).run P w=.ok r w) :
  ((do eqGuard .eql ty x y va vb;binOp .eql ty va vb:Sem Value)).run P w=.ok (.bool r) w∧((do eqGuard .neq ty x y va vb;binOp .neq ty va vb:Sem Value)).run P w=.ok (.bool (!r)) w:=by
 have a:(Op.equal ty va vb).run P w=.ok r w:=c;rw[h1,h2];constructor
 .rw[Sem.run_bind,b];simp[a]
 .rw[Sem.run_bind,b];simp[a]
def CT{ty:TypeId}{i:TI}(R:mw P ty i){p:Prop}(h:Qv i a b=Z (p,r))(u:p)(o:aC g w a va)(s:aC g w b vb)(x y:Operand) :
  ((do eqGuard .eql ty x y va vb;binOp .eql ty va vb:Sem Value)).run P w=.ok (.bool r) w∧((do eqGuard .neq ty x y va vb;binOp .neq ty va vb:Sem Value)).run P w=.ok (.bool (!r)) w:=by
 obtain⟨xi,d0,z,LS,A,hsz,XZ,hz,S,c⟩:=R.all;unfold Qv at h;rcases aa h with⟨d,h⟩|⟨d,h⟩
 .split at h
  .cases h
  .rename_i k ks qa as qb bs X B C;simp only[ec,bq]at h;obtain⟨⟨q,r'⟩,he,rfl,rfl⟩:=h;obtain⟨F,_⟩:=nE B u.1 o;obtain⟨G,_⟩:=nE C u.2.1 s;obtain⟨_,_,_,f,_⟩:=kO B u.1 o;obtain⟨_,_,_,t,_⟩:=kO C u.2.1 s;obtain⟨xs,rfl⟩:=f d;obtain⟨ys,rfl⟩:=t d;obtain⟨H,I,K,M,N⟩:=tj (k::ks) as bs _ _ he u.2.2 F G;simp only[Value.cells]at H I K M N;have Q:i.lks≠[]:=by rw[X];simp
   rw[<-X]at H I K M;have key:∀op,_:=λop=>R.eqs d Q w op x y xs ys (by simpa using H) (by simpa using I) (λj l v h1 h2=>K j l v h1 (by simpa using h2)) (λj l v h1 h2=>M j l v h1 (by simpa using h2));refine⟨?_,?_⟩
   .rw[Sem.run_bind,(key .eql).1];simp only[Result.andThen_ok,binOp,Sem.run_bind,(key .eql).2,N];rfl
   .rw[Sem.run_bind,(key .neq).1];simp only[Result.andThen_ok,binOp,Sem.run_bind,(key .neq).2,N];rfl
  .cases h
 .split at h
  .rename_i l E;obtain⟨f,t,rfl⟩:=xJ h u o s;rw[E]at c;cases l with
   |int k=>obtain⟨m,rfl⟩:=f;obtain⟨n,rfl⟩:=t;simp[eqGuard,binOp,Op.intCmp,CU,bne]
   |bool=>obtain⟨m,rfl⟩:=f;obtain⟨n,rfl⟩:=t;simp only[Kv]at c;subst c;exact mU x y rfl rfl (λop=>by cases op<;>rfl) (run_equalIn_bool' w _ _ _ _ A)
   |str=>obtain⟨m,rfl⟩:=f;obtain⟨n,rfl⟩:=t;simp[eqGuard,binOp,Op.stringOp,CU,beq_toListBytes]
   |no=>exact f.elim
  .rename_i E;rw[E]at c;obtain⟨e,rfl⟩:=c;unfold X1 at h;split at h
   .simp only[aV,bq]at h;obtain⟨_,rfl⟩:=h;cases o with
    |sym _ _ o=>
    cases o;cases s;exact mU x y rfl rfl (λop=>by cases op<;>rfl) (Pb _ A _)
   .simp only[aV,bq]at h;obtain⟨_,rfl⟩:=h;cases s with
    |sym _ _ s=>
    cases s;cases o;exact mU x y rfl rfl (λop=>by cases op<;>rfl) (Pc _ A _)
   .cases h
  .rename_i E;rw[E]at c;obtain⟨e,rfl⟩:=c;unfold X2 at h;split at h
   .simp only[aV,bq]at h;obtain⟨_,rfl⟩:=h;cases o with
    |sym _ _ o=>
    cases o;cases s;exact mU x y rfl rfl (λop=>by cases op<;>rfl) (Pd _ A _ _)
   .simp only[aV,bq]at h;obtain⟨_,rfl⟩:=h;cases s with
    |sym _ _ s=>
    cases s;cases o;exact mU x y rfl rfl (λop=>by cases op<;>rfl) (EX _ A _ _)
   .cases h
  .cases h
end
end
section
section
variable {P:Program}{g:Gh}{w:World}
variable {i:TI}{a t:T}{va:Value}{p:Prop}{d:D}{s s':St}{k:Nat}
def MB{ty:TypeId}(t:mw P ty i){op:BinOp}{b:T}{l:Value}(h:HN i op a b=Z (p,d))(c:p)(e:aC g w a va)(f:aC g w b l)(x y:Operand) :
  ∃v,((do eqGuard op ty x y va l;binOp op ty va l:Sem Value)).run P w=.ok v w∧aC g w (.sym d) v:=by
 unfold HN at h;split at h
 .simp only[ec,bq]at h;obtain⟨⟨q,r⟩,o,rfl,rfl⟩:=h;exact⟨_,(CT t o c e f x y).1,.sym _ _ (.lit _)⟩
 .simp only[ec,bq]at h;obtain⟨⟨q,r⟩,o,rfl,rfl⟩:=h;exact⟨_,(CT t o c e f x y).2,.sym _ _ (.lit _)⟩
 .rename_i u z;split at h
  .rename_i k G;split at h
   .rename_i B m C n h1 h2;cases j:Mt op k m n with
    |some E=>
     simp only[j,aV,bq]at h;obtain⟨rfl,rfl⟩:=h;rw[dn h1 c.1 e,dn h2 c.2 f];cases op<;>simp only[Mt,aV]at j<;>first
      |(cases j;done)
      |(
        subst j;refine⟨_,?_,.sym _ _ (.lit _)⟩;simp[eqGuard,binOp,Op.intCmp,Op.intArith,D.bM,D.eu,D.add,D.eD,D.mul])
    |none=>
     simp only[j,ec,bq]at h;obtain⟨E,s,rfl,rfl⟩:=h;rw[dn h1 c.1 e,dn h2 c.2.1 f];have F:n≠0:=c.2.2;cases op<;>simp only[TP,aV]at s<;>first
      |(cases s;done)
      |(
        subst s;refine⟨_,?_,.sym _ _ (.lit _)⟩;simp[eqGuard,binOp,Op.intDiv,F,D.rem,D.quo])
   .cases h
  .split at h
   .rename_i B m C n h1 h2;simp only[aV,bq]at h;obtain⟨rfl,rfl⟩:=h;rw[gE h1 c.1 e,gE h2 c.2.1 f];have A:m.size+n.size<=4611686018427387904:=c.2.2;refine⟨_,?_,.sym _ _ (.lit _)⟩;simp[eqGuard,binOp,Op.stringOp,D.Rz];omega
   .cases h
  .cases h
def OT{op:UnOp}(h:unT i op a=Z (p,d))(c:p)(e:aC g w a va) :
  ∃v,(Op.unary op va).run P w=.ok v w∧aC g w (.sym d) v:=by
 unfold unT at h;split at h
 .simp only[ec,bq]at h;obtain⟨⟨q,r⟩,b,rfl,rfl⟩:=h;rw[hG b c e];exact⟨_,rfl,.sym _ _ (.lit _)⟩
 .simp only[ec,bq]at h;obtain⟨⟨q,r⟩,b,rfl,rfl⟩:=h;rw[dn b c e];refine⟨_,rfl,?_⟩;simp only[D.neg];rw[show(0:Int)-r=-r from by omega];exact .sym _ _ (.lit _)
 .cases h
def J1{src dst:TypeId}{j:TI}(y:mw P src i)(z:mw P dst j)(h:FL i j s a=Z (p,t,s'))(x:p)(r:aC g w a va) :
  ∃v,(convert src dst va).run P w=.ok v w∧aC g w t v∧s'=s:=by
 obtain⟨_,d1,_,_,m,_,_,_,_,c⟩:=y.all;obtain⟨_,d2,_,_,o,_,_,_,_,d⟩:=z.all;unfold FL at h;split at h
 .rename_i k l e f;simp only[ec,bq]at h;obtain⟨⟨q,n⟩,A,rfl,rfl,rfl⟩:=h;rw[e]at c;rw[f]at d;simp only[Kv]at c d;subst c;subst d;rw[dn A x r];exact⟨_,by simp[convert,aI m,aI o,Conv.intToInt];rfl,.sym _ _ (.lit _),rfl⟩
 .rename_i e f;simp only[ec,bq]at h;obtain⟨⟨q,b⟩,B,rfl,rfl,rfl⟩:=h;rw[e]at c;rw[f]at d;simp only[Kv]at c d;subst c;subst d;have u:=gE B x r;subst u;exact⟨_,by simp[convert,aI m,aI o],r,rfl⟩
 .cases h
def CR(h:oh s k a=Z (p,t,s'))(j:p)(m:aC g w a va) :
  ∃v,(Instr.extract va k).run P w=.ok v w∧aC g w t v∧s'=s:=by
 cases m with
 |fQ o b f i=>
  simp only[oh,iR,ec,bq]at h;obtain⟨q,l,_,rfl,rfl⟩:=h;have c:k<b.size:=by rw[<-f];exact ax l
  refine⟨b[k],by simp[Instr.extract,nT c],i k _ _ l (nT c),rfl⟩
 |sym d v n=>
  simp only[oh,aV,bq]at h;obtain⟨rfl,rfl,rfl⟩:=h;cases n with
  |fQ ds b f i=>
   have e:k<ds.length:=by have:Nat.blt k (bU ds)=W:=j;rw[bA]at this;exact eN this
   have c:k<b.size:=by rw[<-f];exact e
   refine⟨b[k],by simp[Instr.extract,nT c],.sym _ _ ?_,rfl⟩;refine i k _ _ ?_ (nT c);simp[D.proj,List.getD,eS e]
  |_=>cases j
 |_=>simp[oh]at h
def add_zero'(a:Addr):a.add 0=a:=by simp[Addr.add]
def yZ{ty:TypeId}(E:mw P ty i)(h:og i s k a=Z (p,t,s'))(F:aC g w a va) :
  ∃v,(Instr.fieldAt ty va k).run P w=.ok v w∧aC g w t v∧s'=s:=by
 obtain⟨_,d1,_,_,n,_,_,_,_,l⟩:=E.all;unfold og at h;split at h
 .rename_i R q;rw[q]at l;obtain⟨fields,rfl,G,H⟩:=l;split at h
  .rename_i off size I B;rw[iR]at B;obtain⟨f,j,S,r,u,x,y,_⟩:=H k off size I B;rcases aa h with⟨_,h⟩|⟨C,h⟩
   .cases h
   .have z:j.size≠0:=by rw[y];intro e;rw[e]at C;cases C
    have c:∀m,(Instr.fieldAt ty (.pointer (Z m)) k).run P w=.ok (.pointer (Z (m.add off))) w:=by intro m;simp[Instr.fieldAt,Instr.sureAddr,aI n,r,fieldPlace,de x,z,u]
    cases F with
    |ptr o b X K=>simp only[aV,bq]at h;obtain⟨_,rfl,rfl⟩:=h;refine⟨_,c _,?_,rfl⟩;rw[mK];exact .ptr _ _ _ K
    |lR d b m val A M N=>simp only[aV,bq]at h;obtain⟨_,rfl,rfl⟩:=h;refine⟨_,c _,?_,rfl⟩;rw[tK];exact .lR _ _ _ _ A M N
    |jV o e j' b len cap sz m Q=>simp only[aV,bq]at h;obtain⟨_,rfl,rfl⟩:=h;refine⟨_,c _,?_,rfl⟩;rw[tK,Nat.add_assoc];exact .jV _ _ _ _ _ _ _ _ Q
    |_=>simp at h
  .cases h
 .cases h
def IB{t:TypeId}{x:TypeInfo}{d:TypeDesc}(b:P.info? t=Z x)(c:P.underlying t=Z d)(vs:Array Value)(off:Nat)(hl:off+x.size<=vs.size)(h1:dD d=J->x.size=1) :
  (part t vs off).run P w=.ok (if dD d then .agg ((vs.toList.drop off).take x.size).toArray else((vs.toList.drop off).take x.size).headD undef) w:=by
 simp only[part,Sem.run_bind,qN c,Result.andThen_ok];cases e:dD d with
 |true=>
  simp only[qg,Sem.run_bind,de b,Result.andThen_ok,Sem.run_pure]
  congr 2
  apply BK;simp
 |false=>
  have f:=h1 e;have a:off<vs.size:=by omega
  rw[f];simp[nT a];have:(vs.toList.drop off).take 1=[vs[off]]:=by rw[NL (by simpa using a)];simp
  rw[this];rfl
def Hy{ty:TypeId}(hi:mw P ty i)(h:CO i s k a=Z (p,t,s'))(I:p)(K:aC g w a va) :
  ∃v,(Instr.field ty va k).run P w=.ok v w∧aC g w t v∧s'=s:=by
 obtain⟨_,d1,_,_,x,M,l,_,_,m⟩:=hi.all;unfold CO at h;split at h
 .rename_i fs y;rw[y]at m;obtain⟨fields,rfl,hsz,hf⟩:=m;split at h
  .rename_i off size ag q cs N Q;rw[iR]at N;obtain⟨f,j,d',z,A,B,c,C,n⟩:=hf k off size ag N;rcases aa h with⟨E,h⟩|⟨_,h⟩
   .have o:=beq_iff'.1 (yB.1 E).1;rw[bA]at o;simp only[ec,bq]at h;obtain⟨t',ht,rfl,rfl,rfl⟩:=h;obtain⟨r,R⟩:=nE Q I K;obtain⟨_,_,_,F,_⟩:=kO Q I K;obtain⟨G,rfl⟩:=F (by rw[l];rfl);simp only[Value.cells]at r;have b:=(r.drop off).take size;obtain⟨u,h1⟩:=um (g:=g) (w:=w) ht b.1 b.2;have d:((G.toList.drop off).take size).length=size:=by rw[<-b.1,o]
    have hs0:size≠0:=by simp only[dI]at E;intro e;subst e;exact absurd E.2 (by decide)
    have H:off+size<=G.size:=by simp at d;omega
    refine⟨_,?_,u,rfl⟩;have S:=IB (P:=P) (w:=w) B C G off (by rw[c];exact H) (λX=>by
     rw[<-n]at X;obtain⟨v,hv⟩:=h1 X;rw[hv]at d;rw[c];exact d.symm)
    rw[c,<-n]at S;simp only[Instr.field,Sem.run_bind,aI x,Result.andThen_ok,z,asAgg,Sem.run_pure,A,S]
   .cases h
  .cases h
 .cases h
end
end
section
section
variable {P:Program}{g:Gh}{w:World}
def zx{ty e:TypeId}{j:TypeInfo}(b:P.underlying ty=Z (.slice e))(c:P.info? e=Z j)(a:Addr)(len cap:Nat)(n:Int)(h:0<=n∧n<len) :
  (Instr.indexAt ty (.slice (Z a) len cap) (.int .i64 n)).run P w=.ok (.pointer (Z (a.add (n.toNat *j.size)))) w:=by
 simp[Instr.indexAt,asIntOf,aI b,de c,h]
variable {s s':St}{t x ix:T}{v vx vi:Value}{p:Prop}{es:List D}{i:TI}
def Iw(hs:aU g s w)(h:qc s t=Z (p,es))(C:p)(E:aC g w t v)
  (hf:freeze s (oQ t)=Z s') :
  ∃g',aU g' s' w∧Ext s.fl g w g' w∧s'.fl=s.fl∧s'.au=s.au∧dM g'.bf w (.sl es) v:=by
 cases E with
 |emp a=>
  simp only[qc,aV,bq]at h;simp only[oQ,freeze,aV]at hf;subst hf;exact⟨g,hs,Ext.refl _ _ _,rfl,rfl,by
   rw[<-h.2];exact .sl [] a 0 0 (λ_ _=>undef) (by simp) (by simp) (by simp) (λh=>absurd rfl h) (λi j d c h=>by simp at h)⟩
 |ja n f a H l=>simp only[qc,aV,bq]at h;simp only[oQ,freeze,aV]at hf;subst hf;obtain⟨_,rfl⟩:=h;exact⟨g,hs,Ext.refl _ _ _,rfl,rfl,l⟩
 |nk j d c a F l=>simp only[qc,aV,bq]at h;simp only[oQ,freeze,aV]at hf;subst hf;obtain⟨_,rfl⟩:=h;exact⟨g,hs,Ext.refl _ _ _,rfl,rfl,xO F l⟩
 |sym d v l=>simp only[qc,aV,bq]at h;simp only[oQ,freeze,aV]at hf;subst hf;obtain⟨rfl,rfl⟩:=h;rw[D.ur C]at l;exact⟨g,hs,Ext.refl _ _ _,rfl,rfl,l⟩
 |sh o e len cap sz a y=>
  simp only[oQ]at hf;have key:∀m b(f:L D)era,s.ob.get o=Z (fc m b f era)->(bif Nat.beq e era then Z (True,f)else Y)=Z (p,es)->
    s.ob.get o=Z (fc m b es e):=by
   intro m b f era q h;rcases aa h with⟨G,h⟩|⟨_,h⟩
   .have z:=beq_iff'.1 G;simp only[aV,bq]at h;rw[q,h.2,z]
   .cases h
  have u:∃m b,s.ob.get o=Z (fc m b es e):=by
   simp only[qc]at h;split at h
   .rename_i b f era q;exact⟨_,_,key J b f era q h⟩
   .rename_i b f era q;exact⟨_,_,key W b f era q h⟩
   .cases h
  obtain⟨m,b,q⟩:=u;obtain⟨g',x,A,r⟩:=dV [o] hs hf (λk B=>by
   simp at B;subst B;exact⟨gN (hs.lt' y) hs.au,.inl ⟨e,_,y,.inl ⟨m,b,es,q⟩⟩⟩)
  have l:=x.Gu (r.hit o (by simp) m b es e q) (A.arr _ _ _ y);exact⟨g',x,A,r.fl,r.au,l⟩
 |_=>simp[qc]at h
def uv{I:Nat->Prop}(h:dM I w (.sl es) v):∃a cap,v=.slice a es.length cap∧es.length<=cap∧(∀d∈es,es.length*d.pZ<=281474976710656)∧(es≠[]->∃ad sz,a=Z ad∧(∀d∈es,d.cells.length=sz)∧I ad.block∧
  ∃val:Nat->Nat->Value,(∀i j d c,es[i]?=Z d->d.cells[j]?=Z c->w.cell? (ad.add (i*sz+j))=Z (val i j))∧
   (∀i j d c,es[i]?=Z d->d.cells[j]?=Z c->dM I w c (val i j))):=by
 cases h with|sl _ a cap sz val b e f k l=>refine⟨a,cap,rfl,b,f,λg=>?_⟩;obtain⟨ad,h1,h2,h3⟩:=k g;exact⟨ad,sz,h1,e,h2,val,h3,l⟩
def yS{ty:TypeId}(hi:mw P ty i)(hs:aU g s w)(h:jT i s x ix=Z (p,t,s'))(A:p)
  (hx:aC g w x vx) (H:aC g w ix vi):∃v,(Instr.indexAt ty vx vi).run P w=.ok v w∧aC g w t v∧s'=s:=by
 obtain⟨_,d1,_,_,I,_,_,_,_,K⟩:=hi.all;unfold jT at h;split at h
 .rename_i sz ag bt zero q n rY hn;rw[rY]at K;obtain⟨e,j,d',z,rfl,hj,M,_,_,_,_,_,hpos,_⟩:=K;have gen:∀{es:L D}{q':Prop},qc s x=Z (q',es)->q'->D.En n (D.len es)->(D.el es (D.nat n)).wide sz->(∀o e,x≠.sh o e)->q->∃v,(Instr.indexAt ty vx vi).run P w=.ok v w∧aC g w (.lR (D.el es (D.nat n)) 0) v:=by
   intro es q' f U9 r hw l hq;have B:=dn hn hq H;subst B;have C:n.toNat<es.length:=by have h1:=r.1;have h2:=r.2;unfold D.len at h2;omega
   have N:es≠[]:=by intro e;rw[e]at C;simp at C
   have hd':dM g.bf w (.sl es) vx:=by
    cases hx with
    |sym d v Q=>simp only[qc,aV,bq]at f;obtain⟨rfl,rfl⟩:=f;rw[<-D.ur U9];exact Q
    |ja m es' a hm Q=>simp only[qc,aV,bq]at f;obtain⟨_,rfl⟩:=f;exact Q
    |emp a=>simp only[qc,aV,bq]at f;exact absurd f.2.symm N
    |nk j d c a hj Q=>simp only[qc,aV,bq]at f;obtain⟨_,rfl⟩:=f;exact xO hj Q
    |sh o e len cap sz a hx=>exact absurd rfl (l o e)
    |_=>simp[qc]at f
   obtain⟨a,cap,rfl,hcap,_,E⟩:=uv hd';obtain⟨ad,u,rfl,y,PZ,val,hc,hr⟩:=E N;have F:=D.HD C;have R:u=sz:=by have h1:=y (D.el es n.toNat) (gk F);exact h1.symm.trans hw
   subst R;refine⟨_,zx I hj ad _ _ n ⟨r.1,?_⟩,?_⟩
   .have:=r.2;unfold D.len at this;exact this
   .rw[M,<-add_zero' (ad.add (n.toNat *u))];refine .lR _ 0 (ad.add (n.toNat *u)) (val n.toNat) (by rw[ki];exact PZ) (λk c hk=>?_) (λk c hk=>hr _ _ _ _ F hk);rw[tK];exact hc _ _ _ _ F hk
  split at h
  .rename_i o e';split at h
   .rename_i z' es S;rcases aa h with⟨hb,h3⟩|⟨_,h3⟩
    .have hzz:=beq_iff'.1 hb;simp only[aV,bq]at h3;obtain⟨rfl,rfl,rfl⟩:=h3;clear h hb;subst hzz;have B:=dn hn A.1 H;subst B;cases hx with
     |sh _ _ len cap u a X=>
     obtain⟨fz,ho⟩:=FU S;obtain⟨G,y⟩:=hs.mJ ho X;simp only at y;subst y;have h1:=A.2.1;have h2:=A.2.2;unfold D.len at h2;have hl:=G.len;have hc:=G.cap;simp only at hl hc;obtain⟨b,vs,ety,hab,_⟩:=G.mem (by simp only;omega);simp only at hab;subst hab;refine⟨_,zx I hj _ _ _ n ⟨h1,by omega⟩,?_,rfl⟩;rw[M];exact .jV o e' n.toNat 0 _ _ _ _ X
    .cases h3
   .cases h
  .rename_i x' l;split at h
   .rename_i q' es f;simp only[aV,bq]at h;obtain⟨rfl,rfl,rfl⟩:=h;obtain⟨v,h1,h2⟩:=gen f A.2.1 A.2.2.1 A.2.2.2 (λo e he=>l o e he) A.1;exact⟨v,h1,h2,rfl⟩
   .cases h
 .cases h
def get!_some{b:ByteArray}{k:Nat}(h:k<b.size):b[k]?=Z (b.get! k):=by
 rw[getElem?_pos b k h]
 congr 1
 show b.data[k]=b.data[k]!;rw[getElem!_pos b.data k h]
def Hq{ty:TypeId}(j:mw P ty i)(h:CG i s x ix=Z (p,t,s'))(c:p)
  (k:aC g w x vx) (d:aC g w ix vi):∃v,(Instr.index ty vx vi).run P w=.ok v w∧aC g w t v∧s'=s:=by
 obtain⟨_,d1,_,_,e,_,_,_,_,a⟩:=j.all;unfold CG at h;split at h
 .rename_i q n o b f l m;rw[f]at a;simp only[Kv]at a;subst a;simp only[aV,bq]at h;obtain⟨rfl,rfl,rfl⟩:=h;rw[dn l c.1 d,gE m c.2.1 k];have h1:=c.2.2.1;have h2:=c.2.2.2;unfold D.Bp at h2;refine⟨_,?_,.sym _ _ (.lit _),rfl⟩;simp only[Instr.index,asIntOf,Sem.run_bind,Sem.run_pure,Result.andThen_ok,aI e];rw[aY h1,get!_some (by omega)];rfl
 .cases h
def p7{zero:L D}{cells:Array Value}(h:ZOk zero cells):(zero.map nY).length=cells.size∧
  ∀(j:Nat)(t:T)(v:Value),(zero.map nY)[j]?=Z t->cells[j]?=Z v->aC g w t v:=by
 refine⟨by simpa using h.1,λj t v h1 h2=>?_⟩;simp only[gj,ec]at h1;obtain⟨d,a,rfl⟩:=h1;rcases h.2 j d v a h2 with⟨rfl,rfl⟩|rfl
 .exact .emp Y
 .unfold nY;split
  .rename_i heq;simp only[D.lit.injEq]at heq;subst heq;exact .kb _
  .rename_i heq;simp only[D.lit.injEq]at heq;subst heq;exact .kn _ _
  .rename_i heq;cases heq
  .exact .sym _ _ (.lit _)
def EE{ty xt:TypeId}(r:mw P ty i){ok:Bool}(h:o7 i s ty ok x=Z (p,t,s'))
  (K:aC g w x vx) :
  ∃v,(Instr.typeAssert vx xt ty ok).run P w=.ok v w∧aC g w t v∧s'=s:=by
 obtain⟨M,d1,z,k,l,_,N,m,n,Q⟩:=r.all;obtain⟨y,A⟩:=r.zag M z k m;have B:i.kd≠.iface->∀o,P.underlying ty≠Z (.interface o):=λa o C=>a (r.nif o C);unfold o7 at h;have b:i.kd≠.iface->∀u v,(Instr.typeAssert (.iface u v) xt ty ok).run P w=((if u=ty then pure (if ok then .tuple #[v,.bool W]else v)else
   if ok then do pure (.tuple #[<-zeroValue ty,.bool J])else runtimePanic (.typeAssertion (Z xt) (Z u) ty "")):Sem Value).run P w:=by
  intro a u v;simp only[Instr.typeAssert,Sem.run_bind,aI l,Result.andThen_ok];cases d1 with|interface o=>exact absurd l (B a o)|_=>rfl
 split at h
 .cases h
 .rename_i u v a;have a:i.kd≠.iface:=λe=>a e;cases K with
  |cE _ _ R E=>
  rcases aa h with⟨c,h⟩|⟨c,h⟩
  .have d:=beq_iff'.1 c;simp only[aV,bq]at h;obtain⟨_,rfl,rfl⟩:=h;clear c;subst d;refine⟨_,by rw[b a,aY rfl];rfl,.fQ _ _ rfl (λj t v h1 h2=>?_),rfl⟩
   match j with
   |0=>simp at h1 h2;subst h1;subst h2;exact E
   |1=>simp at h1 h2;subst h1;subst h2;exact .kb _
   |j+2=>simp at h1
  .have F:u≠ty:=λe=>by rw[e]at c;have:=E4 ty;rw[this]at c;cases c
   simp only[ec,bq]at h;obtain⟨S,G,_,rfl,rfl⟩:=h;obtain⟨H,f⟩:=p7 (g:=g) (w:=w) n;have q:aC g w S z:=by
    rcases Ca G with⟨I,rfl⟩|⟨I,C⟩
    .obtain ⟨X,rfl⟩:=y I;exact .agg _ _ H f
    .have:=A I;rw[C,this]at f;exact f 0 _ _ rfl rfl
   refine⟨_,by rw[b a,bK F];simp only[qg,Sem.run_bind,dQ k m,Result.andThen_ok,Sem.run_pure];rfl,.fQ _ _ rfl (λj t v h1 h2=>?_),rfl⟩
   match j with
   |0=>simp at h1 h2;subst h1;subst h2;exact q
   |1=>simp at h1 h2;subst h1;subst h2;exact .kb _
   |j+2=>simp at h1
 .rename_i u v a;have a:i.kd≠.iface:=λe=>a e;cases K with
  |cE _ _ R E=>
  rcases aa h with⟨c,h⟩|⟨c,h⟩
  .have d:=beq_iff'.1 c;simp only[aV,bq]at h;obtain⟨_,rfl,rfl⟩:=h;clear c;subst d;exact⟨_,by rw[b a,aY rfl];rfl,E,rfl⟩
  .cases h
 .cases h
end
end
section
section
variable {P:Program}{g:Gh}{w:World}
inductive MP(g:Gh)(w:World):Option T->Option Value->Prop where
 |no:MP g w Y Y
 |yes (t:T) (v:Value) (h:aC g w t v):MP g w (Z t) (Z v)
variable {l:Option T}{p:Prop}{low:Option Value}{lo hi:Int}{s s':St}{x t:T}{vx:Value}
def jt{dflt n:Int}{v:O Value}(h:tF dflt l=Z (p,n))(a:p)(b:MP g w l v) :
  (v=Y∧l=Y∧n=dflt)∨(v=Z (.int .i64 n)∧∃t,l=Z t):=by
 cases b with|no=>simp only[tF,aV,bq]at h;exact .inl ⟨rfl,rfl,h.2.symm⟩|yes t v c=>exact .inr ⟨by rw[dn h a c],t,rfl⟩
def run_sliceBound(n:Int)(y:Nat)(code:BoundsCode)(h:0<=n∧n<=y):(Instr.sliceBound (.int .i64 n) y code).run P w=.ok n.toNat w:=by simp[Instr.sliceBound,asIntOf,h]
def qe(a:Bool)(len cap:Nat){high:O Value}(hl:(low=Y∧lo=0)∨low=Z (.int .i64 lo))(c:(high=Y∧hi=len)∨high=Z (.int .i64 hi))
  (b:0<=lo) (h1:lo<=hi) (h2:hi<=cap):(Instr.sliceBounds a len cap low high Y).run P w=.ok (lo.toNat,hi.toNat,cap) w:=by
 have e:((hi.toNat:Nat):Int)=hi:=by omega
 rcases hl with⟨rfl,rfl⟩|rfl<;>rcases c with⟨rfl,rfl⟩|rfl
 .simp[Instr.sliceBounds]
 .simp[Instr.sliceBounds,run_sliceBound hi cap _ ⟨by omega,h2⟩]
 .simp[Instr.sliceBounds,run_sliceBound lo len _ ⟨b,h1⟩]
 .simp[Instr.sliceBounds,run_sliceBound hi cap _ ⟨by omega,h2⟩,run_sliceBound lo hi.toNat _ ⟨b,by omega⟩]
def qd(a:Bool)(len cap:Nat){b:Int}(hl:(low=Y∧lo=0)∨low=Z (.int .i64 lo))
  (c:0<=lo) (h1:lo<=hi) (h2:hi<=b) (h3:b<=cap):(Instr.sliceBounds a len cap low (Z (.int .i64 hi)) (Z (.int .i64 b))).run P w=.ok (lo.toNat,hi.toNat,b.toNat) w:=by
 have e:((hi.toNat:Nat):Int)=hi:=by omega
 have d:((b.toNat:Nat):Int)=b:=by omega
 rcases hl with⟨rfl,rfl⟩|rfl
 .simp[Instr.sliceBounds,run_sliceBound b cap _ ⟨by omega,h3⟩,run_sliceBound hi b.toNat _ ⟨by omega,by omega⟩]
 .simp[Instr.sliceBounds,run_sliceBound b cap _ ⟨by omega,h3⟩,run_sliceBound hi b.toNat _ ⟨by omega,by omega⟩,run_sliceBound lo hi.toNat _ ⟨c,by omega⟩]
def JZ{I:Nat->Prop}{es:L D}{a:O Addr}{len cap sz:Nat}(h:dM I w (.sl es) (.slice a len cap))(o:D.rows es sz)(A:D.cut lo hi (D.len es))
  (m:Nat) (F:hi.toNat<=m) (v:m<=cap) :
  (D.sub es lo hi).length=hi.toNat-lo.toNat∧dM I w (.sl (D.sub es lo hi)) (.slice (if m=lo.toNat then a else a.map (·.add (lo.toNat *sz))) (hi.toNat-lo.toNat) (m-lo.toNat)):=by
 obtain⟨G,x,y,z,r,k⟩:=uv h;simp only[Value.slice.injEq]at y;obtain⟨rfl,rfl,rfl⟩:=y;obtain⟨H,h1,h2⟩:=A;unfold D.len at h2;have f:(D.sub es lo hi).length=hi.toNat-lo.toNat:=by simp[D.sub];omega
 refine⟨f,?_⟩;have cC:∀i d,(D.sub es lo hi)[i]?=Z d->es[lo.toNat+i]?=Z d:=by
  intro i d b;simp only[D.sub,Au,uF]at b;split at b
  .exact b
  .cases b
 have g:∀d∈D.sub es lo hi,d∈es:=λd b=>E9 (List.mem_of_mem_drop b);rw[<-f];by_cases l:es=[]
 .subst l;have:D.sub [] lo hi=[]:=by simp[D.sub]
  rw[this];exact .sl [] _ _ sz (λ_ _=>undef) (by simp) (by simp) (by simp) (λh=>absurd rfl h) (λi j d c h=>by simp at h)
 .obtain ⟨B,e,rfl,p,s,val,n,C⟩:=k l;have t:e=sz:=by obtain⟨d,ds,rfl⟩:=NN l;rw[<-p d (by simp),o d (by simp)]
  subst t;refine .sl _ _ _ e (λi j=>val (lo.toNat+i) j) (by omega) (λd b=>o d (g d b)) (λd b=>eO (uG _ (by omega)) (r d (g d b))) (λq=>?_) (λi j d c b u=>C _ _ _ _ (cC i d b) u);have E:0<(D.sub es lo hi).length:=E7.2 q;refine⟨B.add (lo.toNat *e),by rw[bK (by omega)];rfl,by rw[ki];exact s,λi j d c b u=>?_⟩;rw[tK,show lo.toNat *e+(i*e+j)=(lo.toNat+i)*e+j by rw[Ao];omega];exact n _ _ _ _ (cC i d b) u
def Gs{ty:TypeId}{i:TI}(hi:mw P ty i)(hs:aU g s w){h m:O T}{vl vh vm:O Value}
  (c:nJ i s x l h m=Z (p,t,s')) (N:p) (hx:aC g w x vx) (hl:MP g w l vl) (hh:MP g w h vh) (hm:MP g w m vm) :
  ∃g' v,(Instr.sliceAt ty vx vl vh vm).run P w=.ok v w∧aU g' s' w∧Ext s.fl g w g' w∧aC g' w t v∧s'.fl=s.fl∧s'.au=s.au:=by
 obtain⟨_,d1,_,_,H,_,_,_,_,B⟩:=hi.all;unfold nJ at c;split at c
 .rename_i p0 lo Q R;rw[Q]at B;simp only[Kv]at B;subst B;split at c
  .rename_i q b hb;split at c
   .rename_i r A d;simp only[aV,bq]at c;obtain⟨rfl,rfl,rfl⟩:=c;obtain⟨S,X,I⟩:=N.2.2.2;unfold D.Bp at I d;rw[gE hb N.2.1 hx];cases hm;refine⟨g,_,?_,hs,Ext.refl _ _ _,.sym _ _ (.lit _),rfl,rfl⟩;have C:=jt R N.1 hl;have f:=jt d N.2.2.1 hh;have k:=qe (P:=P) (w:=w) J b.size b.size (C.imp (λh=>⟨h.1,h.2.2⟩) (·.1)) (f.imp (λh=>⟨h.1,h.2.2⟩) (·.1)) S X I;simp[Instr.sliceAt,Instr.slice,aI H,k,D.Vq]
   .cases c
  .cases c
 .rename_i sz ag bt zero p0 lo Q R;rw[Q]at B;obtain⟨e,j,d',z,rfl,hj,Jy,_,_,_,_,_,hpos,_⟩:=B;split at c
  .rename_i q es s1 Ws hfr;have C:=λn=>jt R n hl;split at c
   .rename_i r A d;simp only[aV,bq]at c;obtain⟨rfl,rfl,rfl⟩:=c;cases hm;obtain⟨n,hq,hr,o,E⟩:=N;obtain⟨g',hs',F,hfl,G,hd⟩:=Iw hs Ws hq hx hfr;obtain⟨a,cap,rfl,K,_⟩:=uv hd;obtain⟨S,X,I⟩:=E;unfold D.len at I;have f:=jt d hr hh;obtain⟨_,u⟩:=JZ hd o ⟨S,X,I⟩ cap (by omega) (bS _);refine⟨g',_,?_,hs',F,.sym _ _ u,hfl,G⟩;have k:=qe (P:=P) (w:=w) W es.length cap ((C n).imp (λh=>⟨h.1,h.2.2⟩) (·.1)) (f.imp (λh=>⟨h.1,h.2.2⟩) (·.1)) S X (by omega:A<=cap);simp only[Instr.sliceAt,Instr.slice,Sem.run_bind,aI H,Result.andThen_ok,de hj,Jy,k];rfl
   .rename_i r A y th d;cases hm with
    |yes _ vy hy=>
    split at c
    .simp only[aV,bq]at c;obtain⟨rfl,rfl,rfl⟩:=c;obtain⟨n,hq,hr,e1,e2⟩:=N;obtain⟨a,cap,rfl,K⟩:=Nu hs Ws hq hx;have f:=jt d hr hh;cases hy;rcases f with⟨_,h',_⟩|⟨hv,_⟩
     .cases h'
     .subst hv;have z0:lo=0:=e1;have z1:A=0:=e2;refine⟨g,_,?_,hs,Ext.refl _ _ _,.emp a,rfl,rfl⟩;have k:=qd (P:=P) (w:=w) W es.length cap ((C n).imp (λh=>⟨h.1,h.2.2⟩) (·.1)) (by omega) (by omega:lo<=A) (by omega:A<=0) (by omega);simp only[Instr.sliceAt,Instr.slice,Sem.run_bind,aI H,Result.andThen_ok,de hj,Jy,k];subst z0;subst z1;rfl
    .simp only[ec,bq]at c;obtain⟨⟨t',mx⟩,hmx,rfl,rfl,rfl⟩:=c;obtain⟨n,hq,hr,ht,o,E,rfl⟩:=N;obtain⟨g',hs',F,hfl,G,hd⟩:=Iw hs Ws hq hx hfr;obtain⟨a,cap,rfl,K,_⟩:=uv hd;obtain⟨S,X,I⟩:=E;unfold D.len at I;have f:=jt d hr hh;obtain⟨M,u⟩:=JZ hd o ⟨S,X,I⟩ mx.toNat (bS _) (by omega);rw[dn hmx ht hy];rcases f with⟨_,h',_⟩|⟨hv,_⟩
     .cases h'
     .subst hv;rw[<-M]at u;refine⟨g',.slice (if mx.toNat=lo.toNat then a else a.map (·.add (lo.toNat *sz))) (D.sub es lo mx).length (D.sub es lo mx).length,?_,hs',F,.ja 0 _ _ (yA _) u,hfl,G⟩;have k:=qd (P:=P) (w:=w) W es.length cap ((C n).imp (λh=>⟨h.1,h.2.2⟩) (·.1)) S X (Int.le_refl _) (by omega:mx<=cap);simp only[Instr.sliceAt,Instr.slice,Sem.run_bind,aI H,Result.andThen_ok,de hj,Jy,k,M];rfl
   .cases c
  .cases c
 .cases c
def Fp{E:Env}(hs:aU g s w){argTypes:Array TypeId}{rt:TypeId}(C:∀k i,E.ti k=Z i->mw P k i)
  (h:eI E s .len argTypes [x]=Z (p,t,s')) (y:p) (B:aC g w x vx) :
  ∃v,(Builtin.len_ argTypes rt #[vx]).run P w=.ok v w∧aC g w t v∧s'=s:=by
 unfold eI at h;simp only[]at h;have o:∀i,(nth argTypes.toList 0).bind E.ti=Z i->∃ty,argTypes[0]?=Z ty∧mw P ty i:=by intro i hi;rw[iR]at hi;simp only[qS]at hi;obtain⟨ty,h1,h2⟩:=hi;exact⟨ty,by simpa using h1,C _ _ h2⟩
 have f:∀i q r,(nth argTypes.toList 0).bind E.ti=Z i->(∃a b c d,i.kd=.slice a b c d)->qc s x=Z (q,r)->q->
   ∃v,(Builtin.len_ argTypes rt #[vx]).run P w=.ok v w∧aC g w (.sym (.lit (.int .i64 (D.len r)))) v:=by
  intro i q r hi n m F;obtain⟨ty,h1,h2⟩:=o i hi;obtain⟨_,d1,_,_,u,_,_,_,_,l⟩:=h2.all;obtain⟨a,b,c,d,n⟩:=n;rw[n]at l;obtain⟨e,j,H,z,rfl,_⟩:=l;obtain⟨a,cap,rfl,_⟩:=Nu hs m F B;refine⟨_,?_,.sym _ _ (.lit _)⟩;simp[Builtin.len_,h1,aI u,goInt,D.len]
 split at h
 .rename_i q b i G hi;split at h
  .rename_i n;simp only[aV,bq]at h;obtain⟨rfl,rfl,rfl⟩:=h;obtain⟨ty,h1,h2⟩:=o i hi;obtain⟨_,d1,_,_,u,_,_,_,_,l⟩:=h2.all;rw[n]at l;simp only[Kv]at l;subst l;rw[gE G y B];refine⟨_,?_,.sym _ _ (.lit _),rfl⟩;simp[Builtin.len_,h1,aI u,goInt,D.Bp]
  .rename_i a b c d n;simp only[ec,bq]at h;obtain⟨⟨A,r⟩,m,rfl,rfl,rfl⟩:=h;obtain⟨v,h1,h2⟩:=f i A r hi ⟨_,_,_,_,n⟩ m y;exact⟨v,h1,h2,rfl⟩
  .cases h
 .rename_i i _ hi;split at h
  .rename_i a b c d n;simp only[ec,bq]at h;obtain⟨⟨A,r⟩,m,rfl,rfl,rfl⟩:=h;obtain⟨v,h1,h2⟩:=f i A r hi ⟨_,_,_,_,n⟩ m y;exact⟨v,h1,h2,rfl⟩
  .cases h
 .cases h
end
end
section
section
variable {P:Program}{g:Gh}{w:World}
variable {v:Value}{t:T}{fr:Fr}{a:Act}
def Cg{d:D}(h:zN v=Z d):d=.lit v:=by
 unfold zN at h;split at h;all_goals try(simp only[aV]at h;exact h.symm)
 .split at h
  .rename_i a;simp only[aV]at h;rw[Sa.1 a];exact h.symm
  .cases h
 .cases h
def El(h:ofConst v=Z t):aC g w t v:=by
 unfold ofConst at h;split at h
 .simp only[aV]at h;subst h;exact .kb _
 .simp only[aV]at h;subst h;exact .kn _ _
 .simp only[aV]at h;subst h;exact .emp _
 .split at h
  .rename_i b c;simp only[aV]at h;subst h;rw[Sa.1 b,Sa.1 c];exact .fn _ _ _ _ _ rfl rfl (λj t v h=>by simp at h) (λj t v h=>by simp at h)
  .cases h
 .simp only[ec]at h;obtain⟨d,a,rfl⟩:=h;rw[Cg a];exact .sym _ _ (.cE _ _ _ (.lit _))
 .simp only[ec]at h;obtain⟨d,a,rfl⟩:=h;rw[Cg a];exact .sym _ _ (.lit _)
def bE(hf:cg g fr a w){x:Operand}(h:iQ fr x=Z t):aC g w t (a.eval x):=by
 cases x with
 |tmp k=>
  obtain⟨v,b,c⟩:=hf.tm k t h;have:a.eval (.tmp k)=v:=by simp[Act.eval,RL,b]
  rw[this];exact c
 |const v=>exact El h
 |global _=>cases h
 |func f=>simp only[iQ,aV]at h;subst h;exact .fn _ _ _ _ _ rfl rfl (λj t v h=>by simp at h) (λj t v h=>by simp at h)
def eT{fr:Fr}{a:Act}(hf:cg g fr a w):∀{l:L Operand}{ts:L T},uY fr l=Z ts->PW (aC g w) ts (l.map a.eval)
 |[],ts,h=>by simp only[uY,aV]at h;subst h;exact⟨rfl,λj t v h=>by simp at h⟩
 |x::l,ts,h=>by
  simp only[uY]at h;split at h
  .rename_i t r h1 h2;simp only[aV]at h;subst h;have d:=eT hf h2;refine⟨by simp[d.1],λj e v b c=>?_⟩;cases j with|zero=>simp at b c;subst b;subst c;exact bE hf h1|succ j=>exact d.2 j e v (by simpa using b) (by simpa using c)
  .cases h
def nr(g:Gh)(w:World)(a:Nat×T)(b:Nat×Value):Prop:=a.1=b.1∧aC g w a.2 b.2
def mY{fr:Fr}{a:Act}(hf:cg g fr a w):∀{l:L (Nat×Operand)}{ts:L (Nat×T)},pI fr l=Z ts->PW (nr g w) ts (l.map λ(i,x)=>(i,a.eval x))
 |[],ts,h=>by simp only[pI,aV]at h;subst h;exact⟨rfl,λj t v h=>by simp at h⟩
 |(k,x)::l,ts,h=>by
  simp only[pI]at h;split at h
  .rename_i t r h1 h2;simp only[aV]at h;subst h;have d:=mY hf h2;refine⟨by simpa using d.1,λj e v b c=>?_⟩;cases j with|zero=>simp at b c;subst b;subst c;exact⟨rfl,bE hf h1⟩|succ j=>exact d.2 j e v (by simpa using b) (by simpa using c)
  .cases h
def vX(hf:cg g fr a w){x:O Operand}{t:O T}(h:Jd fr x=Z t):MP g w t (x.map a.eval):=by cases x with|none=>simp only[Jd,aV]at h;subst h;exact .no|some x=>simp only[Jd,ec]at h;obtain⟨u,b,rfl⟩:=h;exact .yes _ _ (bE hf b)
def yV(off:Nat):∀(l:L Value)(a:Nat)(cells:Array Value),off+a+l.length<=cells.size->
  (l.zipIdx a).foldl (λcs x=>cs.setIfInBounds (off+x.2) x.1) cells=(cells.toList.take (off+a)++l++cells.toList.drop (off+a+l.length)).toArray
 |[],a,cells,h=>by simp
 |c::l,a,cells,h=>by
  simp only[gi]at h;simp only[List.zipIdx_cons,zF];rw[yV off l (a+1) _ (by simp;omega)]
  congr 1
  simp only[Array.toList_setIfInBounds,gi];have b:off+(a+1)=off+a+1:=by omega
  have d:off+a+1+l.length=off+a+(l.length+1):=by omega
  rw[b,d];have h1:(cells.toList.set (off+a) c).take (off+a+1)=cells.toList.take (off+a)++[c]:=by rw[List.take_add_one,List.take_set,GK,aY rfl,aY (by simp;omega)];rw[List.set_eq_of_length_le (by simp;omega)];rfl
  have h2:(cells.toList.set (off+a) c).drop (off+a+(l.length+1))=cells.toList.drop (off+a+(l.length+1)):=by rw[List.drop_set,aY (by omega)]
  rw[h1,h2];simp
def td{place:Nat->O (Nat×TI)}{pl:Nat->O (Nat×Nat)}(d:∀k off i,place k=Z (off,i)->pl k=Z (off,i.size)) :
  ∀(ps:L (Nat×T))(vs:L (Nat×Value)){cells:L T}{cs:Array Value}{p:Prop}{r:L T},zW place cells ps=Z (p,r)->p->PW (nr g w) ps vs->PW (aC g w) cells cs.toList->
   ∃x,Instr.fill pl cs vs=Z x∧PW (aC g w) r x.toList
 |[],[],cells,cs,p,r,h,y,_,n=>by simp only[zW,aV,bq]at h;obtain⟨_,rfl⟩:=h;exact⟨cs,rfl,n⟩
 |(k,t)::ps,(M,v)::vs,cells,cs,p,r,h,y,c,n=>by
  have z:=c.2 0 _ _ rfl rfl;obtain⟨rfl,F⟩:=z;simp only at F;have m:PW (nr g w) ps vs:=⟨by simpa using c.1,λj a b G A=>c.2 (j+1) a b (by simpa using G) (by simpa using A)⟩;simp only[zW]at h;split at h
  .cases h
  .rename_i off i B;split at h
   .cases h
   .rename_i q l H;rcases aa h with⟨A,h⟩|⟨_,h⟩
    .simp only[ec,bq]at h;obtain⟨⟨N,P⟩,I,rfl,rfl⟩:=h;have o:=eN A;rw[bA,bA]at o;obtain⟨s,C⟩:=nE H y.1 F;have u:v.cells.size=l.length:=by simpa using s.1.symm
     have K:cells.length=cs.size:=by simpa using n.1
     have f:off+v.cells.toList.length<=cs.size:=by simp only[E8];have:off+l.length<=cells.length:=o;omega
     have e:=yV off v.cells.toList 0 cs (by simpa using f);simp only[wZ]at e;obtain⟨x,h1,h2⟩:=td d ps vs (cs:=(cs.toList.take off++v.cells.toList++cs.toList.drop (off+v.cells.toList.length)).toArray) I y.2.2 m (by
      rw[bA];simp only[E8,u];exact((n.take off).append s).append (n.drop _))
     refine⟨x,?_,h2⟩;have E:¬(v.cells.size≠i.size||off+v.cells.size>cs.size)=W:=by simp only[E8]at f;simp[u,C];omega
     simp only[Instr.fill,d _ _ _ B];rw[bK E,<-h1,<-e]
     congr 1
     rw[<-Array.foldl_toList,Array.toList_zipIdx]
    .cases h
 |[],_::_,_,_,_,_,_,_,c,_=>by simp[PW]at c
 |_::_,[],_,_,_,_,_,_,c,_=>by simp[PW]at c
def uU{α β:Type}(f:α->Sem β)(r:α->β):∀(l:L α),(∀x∈l,(f x).run P w=.ok (r x) w)->(l.mapM f).run P w=.ok (l.map r) w
 |[],_=>rfl
 |x::l,h=>by have h1:=h x (by simp);have h2:=uU f r l (λy a=>h y (by simp[a]));simp[List.mapM_cons,h1,h2]
def Kc{ty:TypeId}{i:TI}(M:mw P ty i){d:L (Nat×Nat×Bool)}(u:i.kd=.struct d){ps:L (Nat×T)}{vs:Array (Nat×Value)}(y:PW (nr g w) ps vs.toList)
  {p:Prop} {cs:L T} (h:zW (λk=>match nth d k with|some (off,size,ag)=>Z (off,{(default:TI)with size:=size,agg:=ag})|none=>Y) (i.zero.map nY) ps=Z (p,cs)) (N:p) :
  ∃v,(Instr.build ty vs).run P w=.ok v w∧aC g w (.agg cs) v:=by
 obtain⟨X,d1,z,A,B,_,Q,C,l,m⟩:=M.all;rw[u]at m;obtain⟨fields,rfl,E,x⟩:=m;have o:=p7 (g:=g) (w:=w) l;have F:∀f:Field,∃n:Nat,f∈fields.toList->(Go.sizeOf f.type).run P w=.ok n w:=by
  intro f;by_cases K:f∈fields.toList
  .obtain ⟨k,u,rfl⟩:=oJ K;have G:k<d.length:=by rw[<-E];simpa using u
   obtain⟨e,j,R,h1,h2,h3,h4,_⟩:=x k (d[k]).1 (d[k]).2.1 (d[k]).2.2 (eS G);have:e=fields.toList[k]:=by
    have b:fields.toList[k]?=Z e:=by simpa using h1
    rw[eS u]at b;exact(ew b).symm
   subst this;exact⟨j.size,λ_=>de h3 w⟩
  .exact ⟨0,λh=>absurd h K⟩
 obtain⟨sz,c⟩:=Pm F;have q:=uU (P:=P) (w:=w) (λf:Field=>Functor.map (Prod.mk f.offset) <| Go.sizeOf f.type) (λf=>(f.offset,sz f)) fields.toList (λf x=>by simp[c f x]);obtain⟨S,h1,h2⟩:=td (g:=g) (w:=w) (pl:=λk=>((fields.toList.map λf=>(f.offset,sz f)).toArray)[k]?) (λk off ti a=>by
  simp only[iR]at a;split at a
  .rename_i r size ag H;simp only[aV,bq]at a;obtain⟨rfl,rfl⟩:=a;obtain⟨e,j,R,h1,h2,h3,h4,_⟩:=x k r size ag H;have s:e∈fields.toList:=by
    have b:fields.toList[k]?=Z e:=by simpa using h1
    exact gk b
   have I:=c e s;rw[de h3]at I;simp only[Result.ok.injEq,and_true]at I;simp[h1,h2,<-I,h4]
  .cases a) ps vs.toList h N y ⟨by simpa using o.1,λj t v h1 h2=>o.2 j t v h1 (by simpa using h2)⟩
 refine⟨.agg S,?_,.agg _ _ (by simpa using h2.1) (λj t v h3 h4=>h2.2 j t v h3 (by simpa using h4))⟩;simp only[Instr.build,Sem.run_bind,dQ A C,aI B,Result.andThen_ok,Array.mapM_eq_mapM_toList];simp at h1;simp[q,h1]
end
end
section
section
variable {P:Program}{g:Gh}{w:World}
variable {s:St}{w':World}{I:Nat->Prop}{ag:Bool}{sz len:Nat}{d:D}{v:Value}{i:TI}{es zero:List D}{cells:Array Value}
def aU.Sy(hs:aU g s w)(o:Obj)(t:w'.heap=w.heap.push o)(p:w'.os=w.os)(i:w'.output=w.output) :
  aU (g.jC (·=w.heap.size)) s w'∧Ext s.fl g w (g.jC (·=w.heap.size)) w':=by
 have d:∀b,b<w.heap.size->w'.heap[b]?=w.heap[b]?:=λb f=>by rw[t,NF,bK (by omega)]
 have q:w'.heap.size=w.heap.size+1:=by rw[t];simp
 have e:∀k b,br (g.jC (·=w.heap.size)) k b->br g k b:=λk b h=>⟨λx=>h.1 (.inl x),h.2⟩;have r:Ext s.fl g w (g.jC (·=w.heap.size)) w':=
  ⟨λ_ _ h=>h,λ_ _ _ h=>h,λ_ h=>.inl h,by omega,λb f _=>d b f,λk b h=>.inl (e k b h),λb h=>h.imp id λh=>.inl (by simp only at h;omega),p,i⟩
 refine⟨⟨hs.au,hs.af,λk c n=>?_,λk j y z=>?_,λb f=>?_,λk u b h A=>hs.jv k u b (e k b h) (e u b A)⟩,r⟩
 .have a:=hs.box k c n;refine a.ext r hs.bf (d c a.2.1) rfl ?_
  rintro(h|h)
  .exact a.1 h
  .have:=a.2.1;omega
 .have l:=hs.arr k j y z;have m:∀v,y.a=Z v->y.cap≠0->v.block<w.heap.size:=l.1;refine l.ext r hs.bf (λb f n=>⟨d b (m _ f n),⟨λh=>h.elim id λh=>?_,.inl⟩⟩) rfl rfl;have:=m _ f n;simp only at h this;omega
 .rcases f with f|f
  .have:=hs.bf b f;omega
  .omega
structure rQ(I:Nat->Prop)(w:World)(sz:Nat)(es:List D)(cells:Array Value):Prop where
 size:cells.size=es.length*sz
 rows:∀d∈es,d.cells.length=sz
 rel:∀i j d c,es[i]?=Z d->d.cells[j]?=Z c->∃v,cells[i*sz+j]?=Z v∧dM I w c v
def Mm(h:(bif ag then d.isAgg sz else d.leaf)=W)(h1:(ag||Nat.beq sz 1)=W)(b:dM I w d v) :
  d.cells.length=sz∧v.cells.size=sz∧∀(j:Nat)(c:D)(u:Value),d.cells[j]?=Z c->v.cells[j]?=Z u->dM I w c u:=by
 cases ag with
 |true=>
  simp at h;obtain⟨k,rfl,f,_⟩:=v9 h;cases b with|agg _ l e _ i=>exact⟨f,by simp[Value.cells,<-e,f],λj c u h2 h3=>i j c u h2 h3⟩
 |false=>
  simp at h h1;subst h1;obtain⟨_,g⟩:=sW h b;have a:d.cells=[d]:=by cases d<;>first|rfl|(simp[D.leaf]at h)
  refine⟨by rw[a];rfl,by rw[g];rfl,λj c u h2 h3=>?_⟩;rw[a]at h2;rw[g]at h3;cases j with|zero=>simp at h2 h3;subst h2;subst h3;exact b|succ j=>simp at h2
def z8{s:St}(hs:aU g s w){i:TI}:∀(ps:L (Nat×T))(vs:L (Nat×Value)){es r:L D}{p:Prop}{os:L Nat},mI s i es ps=Z (p,r,os)->p->PW (nr g w) ps vs->
  ∀o∈os,Live g s o
 |[],_,es,r,p,os,h,l,_=>by simp only[mI,aV,bq]at h;obtain⟨_,rfl,rfl⟩:=h;intro o ho;cases ho
 |(k,t)::ps,(A,v)::vs,es,r,p,os,h,l,c=>by
  obtain⟨rfl,m⟩:=c.2 0 _ _ rfl rfl;simp only at m;have e:PW (nr g w) ps vs:=⟨by simpa using c.1,λj a b u n=>c.2 (j+1) a b (by simpa using u) (by simpa using n)⟩;simp only[mI]at h;split at h
  .cases h
  .rename_i q d x y;rcases aa h with⟨n,h⟩|⟨_,h⟩
   .simp only[ec,bq]at h;obtain⟨⟨B,C,z⟩,f,rfl,rfl,rfl⟩:=h;obtain⟨a1,_⟩:=j3 hs t y l.1 m;have a2:=z8 hs ps vs f l.2.2 e;intro o ho;rcases dy.1 ho with ho|ho
    .exact a1 o ho
    .exact a2 o ho
   .cases h
 |_::_,[],_,_,_,_,_,_,c=>by simp[PW]at c
def xK{s:St}(hs:aU g s w){sz:Nat}{ag:Bool}(h1:(ag||Nat.beq sz 1)=W){g':Gh}{s':St}(C:aU g' s' w)(he:Ext s.fl g w g' w) :
  ∀(ps:L (Nat×T))(vs:L (Nat×Value)){es r:L D}{cells:Array Value}{p:Prop}{os:L Nat},mI s {(default:TI)with size:=sz,agg:=ag} es ps=Z (p,r,os)->p->PW (nr g w) ps vs->
   jf s s' os->rQ g'.bf w sz es cells->(∀o∈os,Live g s o)∧∃K,Instr.fill (λi=>Z (i*sz,sz)) cells vs=Z K∧rQ g'.bf w sz r K∧r.length=es.length
 |[],[],es,r,cells,p,os,h,M,_,_,y=>by simp only[mI,aV,bq]at h;obtain⟨_,rfl,rfl⟩:=h;exact⟨λo ho=>(by cases ho),cells,rfl,y,rfl⟩
 |(k,t)::ps,(k',v)::vs,es,r,cells,p,os,h,M,f,E,y=>by
  obtain⟨rfl,hv⟩:=f.2 0 _ _ rfl rfl;simp only at hv;have z:PW (nr g w) ps vs:=⟨by simpa using f.1,λj a b ha N=>f.2 (j+1) a b (by simpa using ha) (by simpa using N)⟩;simp only[mI]at h;split at h
  .cases h
  .rename_i q d Q R;rcases aa h with⟨N,h⟩|⟨_,h⟩
   .simp only[ec,bq]at h;obtain⟨⟨p',r',S⟩,F,rfl,rfl,rfl⟩:=h;have G:k<es.length:=by rw[bA]at N;exact eN N
    obtain⟨a1,a2⟩:=j3 hs t R M.1 hv;have z1:jf s s' Q:=E.sub (λo ho=>dH _ ho);have z2:jf s s' S:=E.sub (λo ho=>gp _ ho);have X:=a2 g' s' C he z1;obtain⟨c1,A,c3⟩:=Mm M.2.1 h1 X;have n:k*sz+sz<=cells.size:=by rw[y.size];have:(k+1)*sz<=es.length*sz:=uG _ G;rw[Ao,sN]at this;exact this
    have l:=yV (k*sz) v.cells.toList 0 cells (by simpa[A]using n);simp only[wZ,E8,A]at l;have H:rQ g'.bf w sz (es.set k d) (cells.toList.take (k*sz)++v.cells.toList++cells.toList.drop (k*sz+sz)).toArray:=by
     refine⟨?_,λx m=>?_,λi j x c m P=>?_⟩
     .simp only[IW,su,qh,E8,BP,A,BH,<-y.size];omega
     .rcases NK m with m|rfl
      .exact y.rows x m
      .exact c1
     .rw[GK]at m;by_cases B:k=i
      .subst B;rw[aY rfl,aY G]at m;simp only[aV]at m;subst m;have I:j<sz:=by rw[<-c1];exact ax P
       refine⟨v.cells[j],?_,c3 j c _ P (nT (by omega))⟩;rw[Lm,kR,aY (by simp;omega),kR,bK (by simp;omega)];have:k*sz+j-(List.take (k*sz) cells.toList).length=j:=by simp;omega
       rw[this];simp[A,I]
      .rw[bK B]at m;obtain⟨u,hu,R⟩:=y.rel i j x c m P;have I:j<sz:=by rw[<-y.rows x (gk m)];exact ax P
       refine⟨u,?_,R⟩;have ZQ:i*sz+j<cells.size:=(GM.1 hu).1;rw[Lm,kR,kR];rcases Nat.lt_or_gt_of_ne (λe=>B e.symm:i≠k)with hik|hik
       .have:(i+1)*sz<=k*sz:=uG _ hik;rw[Ao,sN]at this;rw[aY (by simp;omega),aY (by simp;omega),uF,aY (by omega)];simpa using hu
       .have:(k+1)*sz<=i*sz:=uG _ hik;rw[Ao,sN]at this;rw[bK (by simp[A];omega),Au];have:k*sz+sz+(i*sz+j-(List.take (k*sz) cells.toList++v.cells.toList).length)=i*sz+j:=by simp[A];omega
        rw[this];simpa using hu
    obtain⟨b1,K,b2,b3,b4⟩:=xK hs h1 C he ps vs F M.2.2 z z2 H;refine⟨λo ho=>?_,K,?_,b3,by rw[b4];simp⟩
    .rcases dy.1 ho with ho|ho
     .exact a1 o ho
     .exact b1 o ho
    .have hno:¬(v.cells.size≠sz||k*sz+v.cells.size>cells.size)=W:=by simp[A];omega
     simp only[Instr.fill];rw[bK hno,<-b2,<-l]
     congr 1
     rw[<-Array.foldl_toList,Array.toList_zipIdx]
   .cases h
 |[],_::_,_,_,_,_,_,_,_,f,_,_=>by simp[PW]at f
 |_::_,[],_,_,_,_,_,_,_,f,_,_=>by simp[PW]at f
def aei(d:D):d.pZ<=24*d.cells.length:=by
 have b:∀x:D,x.lby<=24:=by intro x;unfold D.lby;split<;>omega
 have c:∀l:L D,D.lX l<=24*l.length:=by
  intro l
  induction l with|nil=>exact yA _|cons a l f=>have:=b a;simp only[D.lX,gi];show a.lby+D.lX l<=_;omega
 cases d with
 |agg e=>exact c e
 |lit v=>
  unfold D.pZ;have:(D.lit v).cells.length=1:=rfl;rw[this];split<;>first|omega|exact b _|(rename_i h;cases h)
 |sl es=>exact b (.sl es)
 |cE t d=>exact b (.cE t d)
 |fQ ds=>exact b (.fQ ds)
def rQ.Qz(h:rQ I w sz es cells){b:Nat}{ty:TypeId}{fz:Nat×Nat}(o:w.heap[b]?=Z (.cells cells ty fz))(p:I b){cap:Nat}(g:es.length<=cap)
  (m:∀d∈es,es.length*d.pZ<=281474976710656):dM I w (.sl es) (.slice (Z ⟨b,0,Y⟩) es.length cap):=by
 have n:∀q:Nat×Nat,∃v,∀d c,es[q.1]?=Z d->d.cells[q.2]?=Z c->cells[q.1*sz+q.2]?=Z v∧dM I w c v:=by
  rintro⟨i,j⟩
  by_cases l:i<es.length
  .by_cases f:j<(es[i]).cells.length
   .obtain ⟨v,r,s⟩:=h.rel i j _ _ (eS l) (eS f);refine⟨v,λd c a k=>?_⟩;rw[eS l]at a;simp only[aV]at a;subst a;rw[eS f]at k;simp only[aV]at k;subst k;exact⟨r,s⟩
   .refine ⟨undef,λd c a k=>?_⟩;rw[eS l]at a;simp only[aV]at a;subst a;exact absurd (ax k) f
  .exact ⟨undef,λd c a _=>absurd (ax a) l⟩
 obtain⟨val,e⟩:=Pm n;refine .sl es _ cap sz (λi j=>val (i,j)) g h.rows m (λ_=>⟨_,rfl,p,λi j d c a f=>?_⟩) (λi j d c a f=>(e (i,j) d c a f).2);rw[mK,cell?_of_block o];simpa using(e (i,j) d c a f).1
def yo(h:aaC d v):dM I w d v:=by
 rcases h with⟨rfl,rfl⟩|rfl
 .exact .sl [] Y 0 0 (λ_ _=>undef) (by simp) (by simp) (by simp) (λh=>absurd rfl h) (λi j d c h=>by simp at h)
 .exact .lit _
def rQ.mono{I a:Nat->Prop}{w w':World}{sz:Nat}{es:L D}{cells:Array Value}(h:rQ I w sz es cells)(e:sn I w w')(f:∀b,I b->a b):rQ a w' sz es cells:=
 ⟨h.size,h.rows,λi j d c g k=>let ⟨v,l,m⟩:=h.rel i j d c g k;⟨v,l,m.mono e f⟩⟩
def Ik(a:ZOk zero cells)(h1:(ag||Nat.beq sz 1)=W)(hl:bU zero=sz) :
  rQ I w sz (List.replicate len (bif ag then .agg zero else zero.getD 0 default)) ((Array.range (len*sz)).map (cells[·%cells.size]!)):=by
 rw[bA]at hl;have b:cells.size=sz:=by rw[<-a.1,hl]
 have o:(bif ag then D.agg zero else zero.getD 0 default).cells=zero:=by
  cases ag with
  |true=>rfl
  |false=>
   simp at h1;have e:zero.length=1:=by rw[hl,h1]
   match zero,e with
   |[d],_=>
    have:=a.2 0 d cells[0] rfl (nT (by omega));rcases this with⟨h,_⟩|h<;>(rw[h];rfl)
 refine⟨by simp,λd f=>?_,λi j d c p g=>?_⟩
 .rw[Sb f,o,hl]
 .have k:i<len:=by have:=ax p;simpa using this
  have l:d=(bif ag then D.agg zero else zero.getD 0 default):=Sb (gk p);rw[l,o]at g;have m:j<sz:=by rw[<-hl];exact ax g
  have n:i*sz+j<len*sz:=by have:(i+1)*sz<=len*sz:=uG _ k;rw[Ao,sN]at this;omega
  refine⟨cells[j]'(by omega),?_,yo (a.2 j c _ g (nT (by omega)))⟩;have q:(i*sz+j)%cells.size=j:=by rw[b,vQ,Nat.mul_add_mod,Nat.mod_eq_of_lt m]
  simp[n,q];rw[getElem!_pos cells j (by omega)]
def zd{ty:TypeId}(hi:mw P ty i){s1:St}(hs:aU g s w){bt:Nat}(hk:i.kd=.slice sz ag bt zero)(h1:(ag||Nat.beq sz 1)=W)(n:bU zero=sz)(h0:sz≠0)
  (S:len*sz<=16777216) {ps:L (Nat×T)} {vs:Array (Nat×Value)} (o:PW (nr g w) ps vs.toList) {p:Prop} {es:L D} {os:L Nat}
  (h:mI s {(default:TI)with size:=sz,agg:=ag} (List.replicate len (bif ag then .agg zero else zero.getD 0 default)) ps=Z (p,es,os)) (X:p) (hf:freeze s os=Z s1) :
  ∃w' g' v,(Instr.buildSlice ty len vs).run P w=.ok v w'∧aU g' s1 w'∧Ext s.fl g w g' w'∧aC g' w' (.ja len es) v∧s1.fl=s.fl∧s1.au=s.au:=by
 obtain⟨xi,d1,z,LS,q,_,XZ,Zt,xm,r⟩:=hi.all;rw[hk]at r;obtain⟨e,j,d',E,rfl,F,t,hue,hage,G,u,_,_,_⟩:=r;have y:=z8 hs ps vs.toList h X o;obtain⟨g1,f,A,b⟩:=dV os hs hf y;have Wp:E.cells.size=sz:=by have:=u.1;rw[bA]at n;omega
 obtain⟨_,rs,a,c,H⟩:=xK hs h1 f A ps vs.toList h X o b (Ik u h1 n);have k:es.length=len:=by rw[H];simp
 obtain⟨I,l⟩:=f.Sy (w':=w.alloc (.cells rs e)) (.cells rs e) rfl rfl rfl;have m:=c.mono (l.keeps f.bf) l.bf;have K:=m.Qz (cap:=es.length) (uy w _) (.inr rfl) (bS _) (λd K=>by
  have h3:=aei d;rw[c.rows d K]at h3;have h4:es.length*d.pZ<=len*(24*sz):=by rw[k];exact Nat.mul_le_mul_left _ h3
  have h5:len*(24*sz)=24*(len*sz):=by rw[<-IN,vQ len 24,IN]
  omega)
 refine⟨_,_,.slice (Z ⟨w.heap.size,0,Y⟩) es.length es.length,?_,I,(b.fl▸A.trans (b.fl▸l)),.ja len es _ (by omega) K,b.fl,b.au⟩;have M:¬(len*sz>2 ^ 24):=by omega
 by_cases B:len*sz=0
 .have C:len=0:=by
   rcases Nat.mul_eq_zero.1 B with h|h
   .exact h
   .exact absurd h h0
  subst C;simp only[Nat.zero_mul]at a;have N:(Array.range 0).map (λx=>E.cells[x%E.cells.size]!)=#[]:=by simp
  rw[N]at a;have Q:es.length=0:=k;have R:Array.range 0=#[]:=by simp
  simp[R,Instr.buildSlice,aI q,de F,t,a,newRow,Q]
 .simp[Instr.buildSlice,aI q,de F,t,dQ F G,M,B,a,newRow,k]
end
end
section
section
variable {P:Program}{g:Gh}{w:World}
structure pU(I:Nat->Prop)(w:World)(sz:Nat)(es:List D)(vals:List Value):Prop where
 len:vals.length=es.length*sz
 rows:∀d∈es,d.cells.length=sz
 rel:∀i j d c,es[i]?=Z d->d.cells[j]?=Z c->∃v,vals[i*sz+j]?=Z v∧dM I w c v
variable {i j n sz:Nat}{val:Nat->Nat->Value}{v:Value}{s:St}{t:T}{p:Prop}{es:List D}{I:Nat->Prop}{vals:List Value}
def Hr(a:i<n)(b:j<sz):i*sz+j<n*sz:=by have:(i+1)*sz<=n*sz:=uG _ a;rw[Ao,sN]at this;omega
def Wn(a:j<sz):(i*sz+j)/sz=i∧(i*sz+j)%sz=j:=by
 have b:0<sz:=by omega
 constructor
 .rw[vQ,Nat.mul_add_div b,Nat.div_eq_of_lt a];rfl
 .rw[vQ,Nat.mul_add_mod,Nat.mod_eq_of_lt a]
def oO(sz n:Nat)(val:Nat->Nat->Value):L Value:=(List.range (n*sz)).map λk=>val (k/sz) (k%sz)
def zy(b:i<n)(a:j<sz):(oO sz n val)[i*sz+j]?=Z (val i j):=by obtain⟨h1,h2⟩:=Wn (i:=i) a;simp[oO,Lj (Hr b a),h1,h2]
def wU{k:Nat}(b:0<sz)(h:(oO sz n val)[k]?=Z v):∃i j,i<n∧j<sz∧k=i*sz+j∧v=val i j:=by simp only[oO,gj,ec]at h;obtain⟨d,c,rfl⟩:=h;obtain⟨rfl,a⟩:=nR c;refine⟨k/sz,k%sz,NG (by rw[vQ];exact a),Nat.mod_lt _ b,?_,rfl⟩;rw[vQ];exact(Nat.div_add_mod k sz).symm
def p9(hs:aU g s w)(h:qc s t=Z (p,es))(hp:p)(ht:aC g w t v)(h0:0<sz)(r:D.rows es sz) :
  ∃a cap,v=.slice a es.length cap∧es.length<=cap∧(∀d∈es,es.length*d.pZ<=281474976710656)∧
   (es≠[]->∃ad val,a=Z ad∧(g.bf ad.block∨∃o,oQ t=[o]∧br g o ad.block)∧
    (∀i j,i<es.length->j<sz->w.cell? (ad.add (i*sz+j))=Z (val i j))∧pU g.bf w sz es (oO sz es.length val)):=by
 have data:∀{v:Value},dM g.bf w (.sl es) v->∃a cap,v=.slice a es.length cap∧es.length<=cap∧(∀d∈es,es.length*d.pZ<=281474976710656)∧
   (es≠[]->∃ad val,a=Z ad∧(g.bf ad.block∨∃o,oQ t=[o]∧br g o ad.block)∧
    (∀i j,i<es.length->j<sz->w.cell? (ad.add (i*sz+j))=Z (val i j))∧pU g.bf w sz es (oO sz es.length val)):=by
  intro v k;obtain⟨a,cap,rfl,H,N,B⟩:=uv k;refine⟨a,cap,rfl,H,N,λx=>?_⟩;obtain⟨ad,f,rfl,y,z,val,hc,P⟩:=B x;have C:f=sz:=by obtain⟨d,ds,rfl⟩:=NN x;rw[<-y d (by simp),r d (by simp)]
  subst C;have E:∀i j(q:i<es.length)(l:j<f),(es[i]).cells[j]?=Z ((es[i]).cells[j]'(by rw[y _ (BI q)];exact l)):=λi j q l=>eS _;refine⟨ad,val,rfl,.inl z,λi j q l=>hc i j _ _ (eS q) (E i j q l),⟨by simp[oO],y,λi j d c k l=>?_⟩⟩;have q:=ax k;have F:j<f:=by rw[<-y d (gk k)];exact ax l
  exact⟨val i j,zy q F,P i j d c k l⟩
 cases ht with
 |emp a=>simp only[qc,aV,bq]at h;obtain⟨_,rfl⟩:=h;exact⟨a,0,rfl,bS _,by simp,λh=>absurd rfl h⟩
 |ja n I a hn k=>simp only[qc,aV,bq]at h;obtain⟨_,rfl⟩:=h;exact data k
 |nk j d c a l k=>simp only[qc,aV,bq]at h;obtain⟨_,rfl⟩:=h;exact data (xO l k)
 |sym d v k=>simp only[qc,aV,bq]at h;obtain⟨rfl,rfl⟩:=h;rw[D.ur hp]at k;exact data k
 |sh o e len cap sz2 a hx=>
  have key:∃fz f,s.ob.get o=Z (fc fz f es e):=by
   simp only[qc]at h;split at h
   .rename_i f I era K;rcases aa h with⟨Q,h⟩|⟨_,h⟩
    .have G:=beq_iff'.1 Q;simp only[aV,bq]at h;exact⟨J,f,by rw[K,h.2,G];rfl⟩
    .cases h
   .rename_i f I era K;rcases aa h with⟨Q,h⟩|⟨_,h⟩
    .have G:=beq_iff'.1 Q;simp only[aV,bq]at h;exact⟨W,f,by rw[K,h.2,G];rfl⟩
    .cases h
   .cases h
  obtain⟨fz,f,K⟩:=key;obtain⟨m,Zx⟩:=hs.mJ K hx;have h1:=m.len;have h2:=m.cap;simp only at h1 h2;refine⟨a,cap,by rw[h1],by omega,m.Vd,λx=>?_⟩;have hpos:0<es.length:=E7.2 x;obtain⟨b,R,ty,M,hfz,hh,S,A⟩:=m.mem (by simp only;omega);simp only at M;subst M;have C:f=sz:=by obtain⟨d,ds,rfl⟩:=NN x;rw[<-m.rows d (by simp),r d (by simp)]
  subst C;have hcs':cap*f<=R.size:=S;have X:∀i j,i<es.length->j<f->i*f+j<R.size:=λi j q l=>by have:=Hr (show i<cap by omega) l;omega
  refine⟨⟨b,0,Y⟩,λi j=>R.getD (i*f+j) undef,rfl,?_,λi j q l=>?_,⟨by simp[oO],m.rows,λi j d c k l=>?_⟩⟩
  .by_cases z:g.bf b
   .exact .inl z
   .exact .inr ⟨o,rfl,z,.inr ⟨e,_,_,hx,rfl,rfl,by simp only;omega⟩⟩
  .rw[mK,cell?_of_block hh];have:=X i j q l;simp[Array.getD,this]
  .have q:=ax k;have F:j<f:=by rw[<-m.rows d (gk k)];exact ax l
   obtain⟨u,hu,P⟩:=A i d j c k l;refine⟨u,?_,P⟩;rw[zy q F];simp[RL,hu]
 |_=>simp[qc]at h
def pU.one(h:pU I w sz es vals)(m:0<sz)(hf:∀d∈es,d.flat=W):∀v∈vals,v.oneCell'=W:=by
 intro v n;obtain⟨k,i,rfl⟩:=oJ n;have e:k<es.length*sz:=by rw[<-h.len];exact i
 have j:k/sz<es.length:=NG (by rw[vQ];exact e);have o:k%sz<sz:=Nat.mod_lt _ m;have a:=BI j;have c:k%sz<(es[k/sz]).cells.length:=by rw[h.rows _ a];exact o
 obtain⟨u,l,p⟩:=h.rel (k/sz) (k%sz) _ _ (eS j) (eS c);have f:k/sz*sz+k%sz=k:=by rw[vQ];exact Nat.div_add_mod k sz
 rw[f,eS i]at l;have g:=ew l;subst g;have b:=hf _ a;unfold D.flat at b;rw[dU]at b;exact(sW (b _ (BI c)) p).1
def pU.append{e:L D}{a:L Value}(h:pU I w sz es vals)(g:pU I w sz e a):pU I w sz (es++e) (vals++a):=by
 refine⟨by simp[h.len,g.len,Ao],λd b=>?_,λi j d c b l=>?_⟩
 .rcases dy.1 b with b|b
  .exact h.rows d b
  .exact g.rows d b
 .rw[kR]at b;by_cases m:i<es.length
  .rw[aY m]at b;obtain⟨v,f,k⟩:=h.rel i j d c b l;refine⟨v,?_,k⟩;have:=ax f;rw[kR,aY this];exact f
  .rw[bK m]at b;obtain⟨v,f,k⟩:=g.rel (i-es.length) j d c b l;refine⟨v,?_,k⟩;have n:es.length*sz<=i*sz:=uG _ (by omega);rw[kR,bK (by rw[h.len];omega),h.len];have:i*sz+j-es.length*sz=(i-es.length)*sz+j:=by rw[Nat.sub_mul];omega
   rw[this];exact f
def pU.nil:pU I w sz [] []:=⟨by simp,by simp,λi j d c h=>by simp at h⟩
def pU.mono{I a:Nat->Prop}{w w':World}{sz:Nat}{es:L D}{vals:L Value}(h:pU I w sz es vals)(e:sn I w w')(f:∀b,I b->a b):pU a w' sz es vals:=
 ⟨h.len,h.rows,λi j d c g k=>let ⟨v,l,m⟩:=h.rel i j d c g k;⟨v,l,m.mono e f⟩⟩
def wO(hs:aU g s w)(h:qc s t=Z (p,es))(x:p)(y:aC g w t v)(l:0<sz)(c:D.rows es sz)(hf:∀d∈es,d.flat=W)
  {q z:TypeId} (m:P.underlying q=Z (.slice z)):∃b,Src P sz q v es.length b w∧pU g.bf w sz es b∧Builtin.lenOf v=Sem.pure es.length:=by
 obtain⟨a,cap,rfl,r,A,e⟩:=p9 hs h x y l c;by_cases f:es=[]
 .subst f;refine⟨[],?_,.nil,rfl⟩;cases a with|none=>exact Src.ofNil w m cap|some n=>exact Src.ofSlice w m n 0 cap [] (by simp) (by simp) (by simp)
 .obtain ⟨n,val,rfl,_,B,o⟩:=e f;refine⟨_,Src.ofSlice w m n es.length cap _ o.len (λk u C=>?_) (o.one l hf),o,rfl⟩;obtain⟨i,j,E,F,rfl,rfl⟩:=wU l C;exact B i j E F
def DS(P:Program)(t a rt:TypeId)(vx vy:Value)(w:World)(R:Value->World->Prop):Prop:=
 ∃v w',(Builtin.append_ #[t,a] rt #[vx,vy]).run P w=.ok v w'∧R v w'
def xY{ty f rt e k:TypeId}{j:TypeInfo}{z:Value}(l:P.underlying ty=Z (.slice e))(m:P.underlying f=Z (.slice k))(o:P.info? e=Z j)(p:j.zero=Z z)(g:0<j.bytes)
  {base:O Addr} {len cap n:Nat} {olds a:L Value} {vy:Value} (c:(Builtin.firstCells j.size len (.slice base len cap)).run P w.drew=.ok olds.toArray w.drew)
  (hs:Src P j.size f vy n a w) (q:cap<len+n) (i:Builtin.nextslicecap (len+n) cap*j.bytes<=281474976710656) :
  DS P ty f rt (.slice base len cap) vy w λv w'=>∃b,v=.slice (Z ⟨w.heap.size,0,Y⟩) (len+n) b∧len+n<=b∧
   w'=w.drew.alloc (.cells ((olds++a).toArray++Builtin.zeroCells z.cells (b-(len+n))) e):=by
 have r:(len+n)*j.bytes<=281474976710656:=eO (uG _ (le_nextslicecap (by omega))) i;have h:((len+n:Nat):Int)<=9223372036854775807:=by have:len+n<=(len+n)*j.bytes:=Nat.le_mul_of_pos_right _ g;omega
 have d:=run_append_grow_src (P:=P) w ty f rt e j z l o p base len cap olds c vy n a hs q h i;exact⟨_,_,d,_,rfl,grownCap_ge w (len+n) cap e,rfl⟩
def DC{ty b rt e:TypeId}{j:TypeInfo}(d:P.underlying ty=Z (.slice e))(f:P.info? e=Z j){base:O Addr}{len cap:Nat}{vy:Value}(hs:Src P j.size b vy 0 [] w)(a:len<=cap) :
  (Builtin.append_ #[ty,b] rt #[.slice base len cap,vy]).run P w=.ok (.slice base len cap) w:=by
 rcases hs.kind with⟨g,c⟩|c<;>cases base<;>
  simp[Builtin.append_,aI d,aI c,de f,hs.len,a,hs.cells,storeCells]
end
end
section
section
variable {P:Program}{g:Gh}{w:World}
variable {o:Obj}{w':World}{sz cap n pZ bt:Nat}{es:List D}{vals:List Value}{vx vy:Value}
def BW(a:w'.heap=w.heap.push o)(b:Nat)(c:b<w.heap.size):w'.heap[b]?=w.heap[b]?:=by rw[a,NF,bK (by omega)]
def I4(a:w'.heap=w.heap.push o):w'.heap[w.heap.size]?=Z o:=by rw[a];simp
def Oz{g':Gh}(a:g'.bf=g.bf)(q:∀b,g.bf b->b<w.heap.size){r:Array Value}{e:TypeId}
  (s:w'.heap=w.heap.push (.cells (vals.toArray++r) e)) (k:pU g.bf w sz es vals) (t:0<sz) (l:r.size=(cap-es.length)*sz) (u:es.length<=cap) (m:es≠[])
  (n:∀d∈es,es.length*d.pZ<=281474976710656):tZ g' w' J sz es ⟨Z ⟨w.heap.size,0,Y⟩,es.length,cap,sz⟩:=by
 have x:sn g.bf w w':=λb o=>BW s b (q b o);refine⟨rfl,u,k.rows,t,n,λh=>absurd h m,λ_=>⟨w.heap.size,_,e,rfl,⟨λh=>(by cases h),λh=>?_⟩,I4 s,?_,λi d j c y z=>?_⟩⟩
 .rw[a]at h;have:=q _ h;omega
 .simp only[Array.size_append,IW,k.len,l];rw[<-Ao];exact uG _ (by omega)
 .obtain ⟨v,f,A⟩:=k.rel i j d c y z;refine⟨v,?_,A.mono x (λb o=>by rw[a];exact o)⟩;have p:=ax f;rw[NH,aY (by simpa using p)];simpa using f
def uo{len:Nat}{base:O Addr}{olds:L Value}(hl:olds.length=len*sz)(h:len≠0->∃ad,base=Z ad∧∀k u,olds[k]?=Z u->w.cell? (ad.add k)=Z u) :
  (Builtin.firstCells sz len (.slice base len cap)).run P w.drew=.ok olds.toArray w.drew:=by
 by_cases a:len=0
 .subst a;have:olds=[]:=qU (by simpa using hl);subst this;cases base with|none=>exact run_firstCells_none w.drew sz 0 0 cap|some ad=>exact run_firstCells_some w.drew sz 0 ad 0 cap [] (by simp) (by simp)
 .obtain ⟨ad,rfl,b⟩:=h a;exact run_firstCells_some w.drew sz len ad len cap olds hl (λk u c=>by rw[World.cell?_drew];exact b k u c)
def DS.mono{t a rt:TypeId}{R b:Value->World->Prop}(h:DS P t a rt vx vy w R)(c:∀v w',R v w'->b v w'):DS P t a rt vx vy w b:=by obtain⟨v,w',h1,h2⟩:=h;exact⟨v,w',h1,c _ _ h2⟩
def pU.Qz{I:Nat->Prop}(h:pU I w sz es vals){b:Nat}{ty:TypeId}{fz:Nat×Nat}{cells:Array Value}(r:w.heap[b]?=Z (.cells cells ty fz))(s:I b)
  (e:∀(k:Nat)(v:Value),vals[k]?=Z v->cells[k]?=Z v) {cap:Nat} (l:es.length<=cap) (o:∀d∈es,es.length*d.pZ<=281474976710656):dM I w (.sl es) (.slice (Z ⟨b,0,Y⟩) es.length cap):=by
 have p:∀q:Nat×Nat,∃v,∀d c,es[q.1]?=Z d->d.cells[q.2]?=Z c->cells[q.1*sz+q.2]?=Z v∧dM I w c v:=by
  rintro⟨i,j⟩
  by_cases n:i<es.length
  .by_cases g:j<(es[i]).cells.length
   .obtain ⟨v,t,u⟩:=h.rel i j _ _ (eS n) (eS g);refine⟨v,λd c a m=>?_⟩;rw[eS n]at a;simp only[aV]at a;subst a;rw[eS g]at m;simp only[aV]at m;subst m;exact⟨e _ _ t,u⟩
   .refine ⟨undef,λd c a m=>?_⟩;rw[eS n]at a;simp only[aV]at a;subst a;exact absurd (ax m) g
  .exact ⟨undef,λd c a _=>absurd (ax a) n⟩
 obtain⟨val,f⟩:=Pm p;refine .sl es _ cap sz (λi j=>val (i,j)) l h.rows o (λ_=>⟨_,rfl,s,λi j d c a g=>?_⟩) (λi j d c a g=>(f (i,j) d c a g).2);rw[mK,cell?_of_block r];simpa using(f (i,j) d c a g).1
def CP(hf:n<=17179869184)(a:pZ<=4096)(b:cap<n):Builtin.nextslicecap n cap*pZ<=281474976710656:=by have h1:=nextslicecap_le b;have:Builtin.nextslicecap n cap*pZ<=(2*17179869184)*4096:=Nat.mul_le_mul (by omega) a;omega
def Hz(hf:n<=17179869184)(a:pZ<=4096)(h:bt<=2*pZ):n*bt<=281474976710656:=by have:n*bt<=17179869184*8192:=Nat.mul_le_mul hf (by omega);omega
def Ae{ty tx rt e e':TypeId}{l:TypeInfo}{z:Value}(R:P.underlying ty=Z (.slice e))(hu2:P.underlying tx=Z (.slice e'))(S:P.info? e=Z l)(XS:l.zero=Z z)(hzs:z.cells.size=l.size)(h0:0<l.size)
  (hb0:0<l.bytes) (X:l.bytes<=4096) (nB:bt<=2*l.bytes) (hI:∀b,g.bf b->b<w.heap.size) {es new:L D} {f:L Value} {x:eX} {vy:Value}
  (m:tZ g w J l.size es x) (K:∀b,x.at b->b<w.heap.size) (M:∀d∈D.app es new,d.pZ=bt) (y:D.rows new l.size)
  (p:Src P l.size tx vy new.length f w) (hv:pU g.bf w l.size new f) (A:D.Of es new)
  (hy:new≠[]->∃B cy,vy=.slice (Z B) new.length cy∧¬x.at B.block∧∀k,k<new.length*l.size->(w.cell? (B.add k)).isSome=W) :
  DS P ty tx rt (.slice x.a x.len x.cap) vy w λv w'=>∃x',OQ g w l.size (D.app es new) x v w' x':=by
 obtain⟨a,len,cap,xsz⟩:=x;have hl1:=m.len;have hl2:=m.cap;simp only at hl1 hl2;subst hl1;by_cases C:new=[]
 .subst C;have LY:f=[]:=qU (by simpa using hv.len);subst LY;have WI:D.app es []=es:=mD es;rw[WI];exact⟨_,_,DC (P:=P) R S p hl2,⟨a,es.length,cap,l.size⟩,rfl,rfl,rfl,rfl,bS _,λ_ _ _=>rfl,λb hb=>⟨K b hb,.inr hb⟩,⟨m.len,m.cap,m.rows,m.pos,m.Vd,m.emp,m.mem⟩⟩
 .have hpos:0<new.length:=E7.2 C;obtain⟨B,cy,rfl,N6,hyc⟩:=hy C;by_cases n:es.length+new.length<=cap
  ·
   obtain⟨b,s,I,E,hfz,N,F,o⟩:=m.mem (by simp only;omega);simp only at E F;subst E;have XQ:¬g.bf b:=λPZ=>Bool.noConfusion (hfz.2 PZ);have hnl:f.length=new.length*l.size:=hv.len;have hfit:es.length*l.size+f.length<=s.size:=by have:(es.length+new.length)*l.size<=cap*l.size:=uG _ n;rw[Ao]at this;omega
   have hst:=run_storeCells_at (P:=P) b (0+es.length*l.size) I f 0 s w N (by omega) p.one;simp only[wZ,lY]at hst;have hrun:(Builtin.append_ #[ty,tx] rt #[.slice (Z ⟨b,0,Y⟩) es.length cap,.slice (Z B) new.length cy]).run P w=
     .ok (.slice (Z ⟨b,0,Y⟩) (es.length+new.length) cap) (w.setRow b (s.toList.take (es.length*l.size)++f++s.toList.drop (es.length*l.size+f.length)).toArray):=by
    simp[Builtin.append_,aI R,aI hu2,de S,p.len,n,p.cells,mK,hst]
   have hk:sn g.bf w (w.setRow b (s.toList.take (es.length*l.size)++f++s.toList.drop (es.length*l.size+f.length)).toArray):=
    λb' G=>setRow_other w b b' _ (λe=>XQ (e▸G))
   have A1:(⟨Z ⟨b,0,Y⟩,es.length,cap,xsz⟩:eX).at b:=⟨_,rfl,rfl,by simp only;omega⟩;refine⟨_,_,hrun,⟨Z ⟨b,0,Y⟩,es.length+new.length,cap,l.size⟩,rfl,rfl,rfl,rfl,by simp,λb' _ G=>setRow_other w b b' _ (λe=>G (e▸A1)),λb' G=>?_,
    ⟨by simp[D.app],n,λd hd=>(by
      rcases dy.1 hd with hd|hd
      .exact m.rows d hd
      .exact y d hd),h0,λd hd=>(by
      rw[M d hd];exact Hz (by simpa[D.app,D.Of]using A) X nB),λN=>absurd (List.append_eq_nil_iff.1 N).2 C,λ_=>⟨b,_,I,rfl,hfz,setRow_heap w b s _ I _ N,(by
       have e1:(s.toList.take (es.length*l.size)++f++s.toList.drop (es.length*l.size+f.length)).toArray.size=s.size:=by simp;omega
       rw[e1];exact F),λi d j c hd hj=>(by
       have Jy:j<l.size:=by
        have hrw:d.cells.length=l.size:=by
         rcases dy.1 (gk hd)with hd|hd
         .exact m.rows d hd
         .exact y d hd
        rw[<-hrw];exact ax hj
       unfold D.app at hd;rw[kR]at hd;by_cases hi:i<es.length
       .rw[aY hi]at hd;obtain⟨v,q,hr⟩:=o i d j c hd hj;refine⟨v,?_,hr.mono hk (λ_ h=>h)⟩;have:=Hr hi Jy;rw[Lm,kR,aY (by simp;omega),kR,aY (by simp;omega),uF,aY (by omega)];simpa using q
       .rw[bK hi]at hd;obtain⟨v,q,hr⟩:=hv.rel _ j d c hd hj;refine⟨v,?_,hr.mono hk (λ_ h=>h)⟩;have hlt:=ax q;have hge:es.length*l.size<=i*l.size:=uG _ (by omega);rw[Nat.sub_mul]at q hlt;rw[Lm,kR,aY (by simp;omega),kR,bK (by simp;omega)];have e1:i*l.size+j-(List.take (es.length*l.size) s.toList).length=i*l.size-es.length*l.size+j:=by simp;omega
        rw[e1];exact q)⟩⟩⟩
   obtain⟨ad,k1,k2,k3⟩:=G;simp only[aV]at k1;subst k1;simp only at k2;subst k2;exact⟨by simpa using K _ A1,.inr A1⟩
  ·
   have H:∃olds,pU g.bf w l.size es olds∧(es.length≠0->∃ad,a=Z ad∧∀k u,olds[k]?=Z u->w.cell? (ad.add k)=Z u):=by
    by_cases hes:es=[]
    .subst hes;exact⟨[],.nil,λh=>absurd rfl h⟩
    .have hepos:0<es.length:=E7.2 hes;obtain⟨b,s,I,E,hfz,N,F,o⟩:=m.mem (by simp only;omega);simp only at E F;subst E;have hle:es.length*l.size<=s.size:=eO (uG _ hl2) F;refine⟨s.toList.take (es.length*l.size),⟨by simp;omega,m.rows,λi j d c hd hj=>?_⟩,λ_=>⟨_,rfl,λk u hu=>?_⟩⟩
     .obtain ⟨v,q,hr⟩:=o i d j c hd hj;refine⟨v,?_,hr⟩;have Jy:j<l.size:=by rw[<-m.rows d (gk hd)];exact ax hj
      rw[uF,aY (Hr (ax hd) Jy)];simpa using q
     .rw[mK,cell?_of_block N];have hk:=ax hu;rw[uF,aY (by simp at hk;omega)]at hu;simpa using hu
   obtain⟨olds,XM,H⟩:=H;refine(xY (P:=P) R hu2 S XS hb0 (olds:=olds) (uo XM.len H) p (Nat.lt_of_not_le n) (CP A X (Nat.lt_of_not_le n))).mono ?_
   rintro v w' ⟨t,rfl,hc,rfl⟩
   have Wp:(Builtin.zeroCells z.cells (t-(es.length+new.length))).size=(t-(es.length+new.length))*l.size:=by simp[Builtin.zeroCells,hzs]
   have r:(es++new).length=es.length+new.length:=su;have Q:=Oz (g:=g) (w:=w) (g':=g) rfl hI
    (w':=w.drew.alloc (.cells ((olds++f).toArray++Builtin.zeroCells z.cells (t-(es.length+new.length))) e)) rfl (XM.append hv) h0 (by rw[r];exact Wp) (by rw[r];exact hc)
    (λN=>C (List.append_eq_nil_iff.1 N).2) (λd hd=>by
     rw[M d hd];exact Hz (by simpa[D.Of]using A) X nB)
   rw[r]at Q;refine⟨⟨Z ⟨w.heap.size,0,Y⟩,es.length+new.length,t,l.size⟩,rfl,rfl,rfl,rfl,by show w.heap.size<=(w.heap.push _).size;simp,λb hb _=>BW rfl b hb,λb hb=>?_,Q⟩;obtain⟨ad,k1,k2,_⟩:=hb;simp only[aV]at k1;subst k1;simp only at k2;subst k2;exact⟨by show _<(w.heap.push _).size;simp,.inl (bS _)⟩
def vw{ty tx rt:TypeId}{i j:TI}(hi:mw P ty i)(hj:mw P tx j)(XT:∃a b c d,j.kd=.slice a b c d){s s':St}(hs:aU g s w){x y:T}{p:Prop}{t:T}
  (h:o8 i s x y=Z (p,t,s')) (N:p) (hx:aC g w x vx) (hy:aC g w y vy) :
  DS P ty tx rt vx vy w λv w'=>∃g',aU g' s' w'∧Ext s.fl g w g' w'∧aC g' w' t v:=by
 obtain⟨_,d1,_,_,Q,_,_,_,_,Q6⟩:=hi.all;obtain⟨_,d2,_,_,F,_,_,_,_,hk2⟩:=hj.all;obtain⟨_,_,_,_,XT⟩:=XT;rw[XT]at hk2;obtain⟨e',_,_,_,rfl,_⟩:=hk2;unfold o8 at h;rcases aa h with⟨_,h⟩|⟨hnb,h⟩
 .cases h
 have hn:s.au<bg:=by
  have:Nat.blt s.au bg=W:=by simpa using hnb
  exact eN this
 split at h
 .rename_i sz ag bt zero q new rY G;rw[rY]at Q6;obtain⟨e,K,d',z,rfl,R,Jy,_,_,XS,xm,Tl,X,Hv,nB,hb0,hzl⟩:=Q6;have hzs:z.cells.size=sz:=by rw[<-xm.1,hzl]
  subst Jy;have H:∀{es:L D}{vals:L Value}{cap:Nat}{v:Value}{w':World},pU g.bf w K.size es vals->es≠[]->D.Q8 es bt->v=.slice (Z ⟨w.heap.size,0,Y⟩) es.length cap->es.length<=cap->(∀d∈es,es.length*d.pZ<=281474976710656)->
    w'=w.drew.alloc (.cells (vals.toArray++Builtin.zeroCells z.cells (cap-es.length)) e)->∃g',aU g' (dO s (.arr K.size es 0)).2 w'∧Ext s.fl g w g' w'∧aC g' w' (.sh s.au 0) v:=by
   intro es vals cap v w' S n l hve hc hby hw;subst hw;subst hve;have Wp:(Builtin.zeroCells z.cells (cap-es.length)).size=(cap-es.length)*K.size:=by simp[Builtin.zeroCells,hzs]
   have hok:=Oz (g:=g) (w:=w) (g':=g.era s.au 0 ⟨Z ⟨w.heap.size,0,Y⟩,es.length,cap,K.size⟩) rfl hs.bf (w':=w.drew.alloc (.cells (vals.toArray++Builtin.zeroCells z.cells (cap-es.length)) e)) rfl S X Wp hc n hby;obtain⟨M,he⟩:=hs.Lx hn (w':=w.drew.alloc (.cells (vals.toArray++Builtin.zeroCells z.cells (cap-es.length)) e)) rfl rfl (by show w.heap.size<=(w.heap.push _).size;simp) (λb hb=>BW rfl b hb)
    (x:=⟨Z ⟨w.heap.size,0,Y⟩,es.length,cap,K.size⟩) (λb hb=>by
     obtain⟨ad,h1,h2,_⟩:=hb;simp only[aV]at h1;subst h1;simp only at h2;subst h2;exact⟨bS _,by show _<(w.heap.push _).size;simp⟩) hok rfl
   exact⟨_,M,he,.sh _ _ _ _ _ _ (Gh.e9 _ _ _ _)⟩
  cases hx with
  |emp a=>
   simp only[aV,bq]at h;obtain⟨rfl,rfl,rfl⟩:=h;obtain⟨hq,f,l⟩:=N;obtain⟨E,r,S,hlen⟩:=wO hs G hq hy X f (λd C=>(l d C).2) F;by_cases n:new=[]
   .subst n;have LY:E=[]:=qU (by simpa using S.len);subst LY;obtain⟨M,he⟩:=hs.Lx hn (w':=w) (sz:=K.size) (es:=[]) (x:=⟨a,0,0,K.size⟩) rfl rfl (bS _) (λb hb=>rfl) (λb hb=>by
     obtain⟨_,_,_,h⟩:=hb;exact absurd rfl h) ⟨rfl,bS _,by simp,X,by simp,λ_=>rfl,λh=>absurd rfl h⟩ rfl
    exact⟨_,_,DC (P:=P) Q R r (bS _),_,M,he,.sh _ _ _ _ _ _ (Gh.e9 _ _ _ _)⟩
   .have hpos:0<new.length:=E7.2 n;obtain⟨_,_,_,_,hby,_⟩:=p9 hs G hq hy X f;have hfit:Builtin.nextslicecap (0+new.length) 0*K.bytes<=281474976710656:=by rw[lY,nextslicecap_zero hpos];obtain⟨d,ds,rfl⟩:=NN n;have:=hby d (by simp);rw[(l d (by simp)).1]at this;exact eO (Nat.mul_le_mul_left _ Hv) this
    refine(xY (P:=P) Q F R XS hb0 (olds:=[]) (uo (by simp) (λh=>absurd rfl h)) r (by omega) hfit).mono ?_
    rintro v w' ⟨I,rfl,hc,rfl⟩
    simp only[lY,Ei]at *
    exact H S n l rfl hc hby rfl
  |ja m es a hm C=>
   have hes:D.rows (D.app es new) K.size->∃olds,pU g.bf w K.size es olds∧(es.length≠0->∃ad,a=Z ad∧∀k u,olds[k]?=Z u->w.cell? (ad.add k)=Z u):=by
    intro f;obtain⟨a',I,he,_,_,S9⟩:=p9 (s:=s) (t:=.ja m es) (p:=True) (es:=es) hs rfl trivial (.ja m es a hm C) X (λd C=>f d (dH _ C));simp only[Value.slice.injEq]at he;obtain⟨rfl,_,_⟩:=he;by_cases n:es=[]
    .subst n;exact⟨[],.nil,λh=>absurd rfl h⟩
    .obtain ⟨ad,val,rfl,_,hc,S⟩:=S9 n;refine⟨_,S,λ_=>⟨ad,rfl,λk u hu=>?_⟩⟩;obtain⟨i,j,hi,hj,rfl,rfl⟩:=wU X hu;exact hc i j hi hj
   dsimp only at h;split at h
   .rename_i k es2;simp only[aV,bq]at h;obtain⟨rfl,rfl,rfl⟩:=h;obtain⟨hq,f,l,A⟩:=N;obtain⟨E,r,S,hlen⟩:=wO hs G hq hy X (λd C=>f d (gp _ C)) (λd C=>(l d (gp _ C)).2) F;obtain⟨olds,XM,hold⟩:=hes f;have hpos:0<new.length:=by
     cases hy with
     |ja _ _ _ hk _=>
     simp only[qc,aV,bq]at G;rw[<-G.2];omega
    refine(xY (P:=P) Q F R XS hb0 (olds:=olds) (uo XM.len hold) r (by omega) (CP A Tl (by omega))).mono ?_
    rintro v w' ⟨I,rfl,hc,rfl⟩
    have B:(D.app es new).length=es.length+new.length:=su;exact H (es:=D.app es new) (XM.append S) (λhh=>by
     have:=oI List.length hh;rw[B,BO]at this;omega) l (by rw[B]) (by rw[B];exact hc) (λd C=>by rw[(l d C).1,B];exact Hz A Tl nB) (by rw[B])
   .simp only[aV,bq]at h;obtain⟨rfl,rfl,rfl⟩:=h;obtain⟨hq,f,l,A⟩:=N;obtain⟨E,r,S,hlen⟩:=wO hs G hq hy X (λd C=>f d (gp _ C)) (λd C=>(l d (gp _ C)).2) F;obtain⟨olds,XM,hold⟩:=hes f;by_cases n:new=[]
    .subst n;have LY:E=[]:=qU (by simpa using S.len);subst LY;refine⟨_,_,DC (P:=P) Q R r (bS _),g,hs,Ext.refl _ _ _,.sym _ _ ?_⟩;unfold D.app;rw[mD];exact C
    .have hpos:0<new.length:=E7.2 n;refine(xY (P:=P) Q F R XS hb0 (olds:=olds) (uo XM.len hold) r (by omega) (CP A Tl (by omega))).mono ?_
     rintro v w' ⟨I,rfl,hc,rfl⟩
     obtain⟨M,he⟩:=hs.Sy (w':=w.drew.alloc (.cells ((olds++E).toArray++Builtin.zeroCells z.cells (I-(es.length+new.length))) e)) _ rfl rfl rfl;refine⟨_,M,he,.sym _ _ ?_⟩;have Zv:=(XM.append S).mono (he.keeps hs.bf) he.bf;have:=Zv.Qz (b:=w.heap.size) (I4 (w:=w) rfl) (.inr rfl) (λk v hk=>by
      have hlt:=ax hk;rw[NH,aY (by simpa using hlt)];simpa using hk) (cap:=I) (by rw[su];exact hc) (λd C=>by
       rw[(l d C).1,su];exact Hz A Tl nB)
     rw[su]at this;exact this
  |sh o e2 len cap sz2 a hxa=>
   dsimp only at h;split at h
   .rename_i z' es era ho;rcases aa h with⟨hb,h9⟩|⟨_,h9⟩
    .simp only[dI]at hb;obtain⟨⟨⟨hfl,hee⟩,hzz⟩,hno⟩:=hb;have hfl:=eN hfl;have hee:=beq_iff'.1 hee;have hzz:=beq_iff'.1 hzz;subst hee;subst hzz;simp only[aV,bq]at h9;obtain⟨rfl,rfl,rfl⟩:=h9;obtain⟨hq,f,l,A⟩:=N;obtain⟨hok,Zx⟩:=hs.mJ (fz:=J) ho hxa;simp only at Zx;subst Zx;obtain⟨E,r,S,hlen⟩:=wO hs G hq hy X f (λd C=>(l d (gp _ C)).2) F;obtain⟨ay,cy,rfl,_,ah4,LR⟩:=p9 hs G hq hy X f;have hlt:=(hs.arr o e2 _ hxa).1;refine(Ae (rt:=rt) Q F R XS hzs X hb0 Tl nB hs.bf hok (λb hb=>?_) (λd C=>(l d C).1) f r S A (λn=>?_)).mono ?_
     .obtain ⟨ad,k1,k2,k3⟩:=hb;exact k2▸hlt ad k1 k3
     .obtain ⟨ady,agf,rfl,N6,hyc,_⟩:=LR n;refine⟨ady,cy,rfl,λA1=>?_,λk hk=>?_⟩
      .have hown:br g o ady.block:=by obtain⟨ad,k1,k2,k3⟩:=A1;obtain⟨b,vs,ety,hab,hfz,_⟩:=hok.mem k3;rw[k1]at hab;cases hab;simp only at k2;exact⟨λPZ=>Bool.noConfusion (hfz.2 (k2▸PZ)),.inr ⟨e2,_,_,hxa,k1,k2,k3⟩⟩
       rcases N6 with PZ|⟨o',ho',hO⟩
       .exact hown.1 PZ
       .have:=hs.jv o o' _ hown hO;subst this;rw[ho']at hno;simp at hno
      .have h1:=hyc (k/K.size) (k%K.size) (NG (by rw[vQ];exact hk)) (Nat.mod_lt _ X);have hkk:k/K.size*K.size+k%K.size=k:=by rw[vQ];exact Nat.div_add_mod k _
       rw[hkk]at h1;rw[h1];rfl
     .rintro v w' ⟨x',N⟩
      obtain⟨M,he⟩:=hs.aj1 ho hxa hfl N.os N.output N.size N.heap N.at_ (N.ok.iW rfl) N.sz;have:=N.val;subst this;exact⟨_,M,he,.sh _ _ _ _ x'.sz _ (Gh.e9 _ _ _ _)⟩
    .cases h9
   .cases h
  |_=>simp at h
 .cases h
end
end
section
def afb(fl:Nat)(g:Gh)(w:World)(t:T)(s':St)(r:Result Next):Prop:=
 ∃v w' g',(r=.ok (.value v) w'∨(r=.ok .skip w'∧v=undef))∧aU g' s' w'∧Ext fl g w g' w'∧aC g' w' t v
section
variable {P:Program}{g:Gh}{w:World}
variable {s s':St}{t x:T}{os:List Nat}{i:TI}{l h m:Option T}{p:Prop}
def dm{v:Value}{r:Result Next}(hs:aU g s w)(a:r=.ok (.value v) w)(b:aC g w t v)(c:s'=s):afb s.fl g w t s' r:=
 ⟨v,w,g,.inl a,c▸hs,Ext.refl _ _ _,b⟩
def oX:∀{os:L Nat}{s s':St},freeze s os=Z s'->s'.lo=s.lo∧s'.fl=s.fl∧s'.au=s.au
 |[],s,s',h=>by simp only[freeze,aV]at h;rw[h];exact⟨rfl,rfl,rfl⟩
 |o::os,s,s',h=>by obtain⟨_,⟨_,_,_,_,h⟩|⟨_,_,_,_,h⟩|⟨_,h⟩|⟨_,_,_,_,_,_,_,_,_,_,_,_,_,h⟩⟩:=s9 h<;>(have:=oX h;exact this)
def yU(h:freeze s os=Z s'):s'.lo=s.lo:=(oX h).1
def Qn(h:freeze s os=Z s'):s'.fl=s.fl:=(oX h).2.1
def Mg(h:freeze s os=Z s'):s'.au=s.au:=(oX h).2.2
def O6(a:nJ i s x l h m=Z (p,t,s')):s'=s∨freeze s (oQ x)=Z s':=by
 unfold nJ at a
 repeat' split at a
 all_goals first
  |(cases a;done)
  |(
    simp only[ec,aV,bq]at a;first
     |(obtain⟨_,_,_,_,rfl⟩:=a;first|exact .inl rfl|(right;assumption))
     |(obtain⟨_,_,rfl⟩:=a;first|exact .inl rfl|(right;assumption)))
def O7(a:nJ i s x l h m=Z (p,t,s')):s'.lo=s.lo:=by
 rcases O6 a with rfl|h
 .rfl
 .exact yU h
structure yb(E:Env):Prop where
 ti:∀k i,E.ti k=Z i->mw E.P k i
 Od:∀f fn,E.Od f=Z fn->E.P.funcs[f]?=Z fn
def lq{E:Env}(I:yb E){fr:Fr}{a:Act}(hf:cg g fr a w)(hs:aU g s w)(o:Oper)(h:mA E fr s o.op=Z (p,t,s'))(K:p) :
  afb s.fl g w t s' ((execOp a.eval o).run E.P w)∧s'.fl=s.fl∧s'.lo=s.lo∧s.au<=s'.au:=by
 cases A:o.op with
 |move x=>rw[A]at h;simp only[mA,ec,bq]at h;obtain⟨t',F,_,rfl,rfl⟩:=h;exact⟨dm hs (by simp[execOp,A]) (bE hf F) rfl,rfl,rfl,bS _⟩
 |assign x=>rw[A]at h;simp only[mA,ec,bq]at h;obtain⟨t',F,_,rfl,rfl⟩:=h;exact⟨dm hs (by simp[execOp,A]) (bE hf F) rfl,rfl,rfl,bS _⟩
 |pick c x y=>
  rw[A]at h;simp only[mA]at h;split at h
  .rename_i c' x' y' hc hx hy;simp only[ec,bq]at h;obtain⟨⟨q,u⟩,M,rfl,rfl,rfl⟩:=h;obtain⟨b,S,F⟩:=I7 M K (bE hf hc) (bE hf hx) (bE hf hy);exact⟨dm hs (by simp[execOp,A,S,asBool]) F rfl,rfl,rfl,bS _⟩
  .cases h
 |alloc ty=>
  rw[A]at h;simp only[mA]at h;split at h
  .rename_i i G;rcases aa h with⟨hn,h⟩|⟨_,h⟩
   .simp only[aV,bq]at h;obtain⟨_,rfl,rfl⟩:=h;have hn':s.au<bg:=eN hn;obtain⟨xi,d,z,LS,_,_,_,hz,xm,_⟩:=(I.ti _ _ G).all;obtain⟨z1,z2⟩:=p7 (g:=g) (w:=w) xm;obtain⟨H,X⟩:=hs.cU hn' ty z1 z2;refine⟨⟨_,_,_,.inl ?_,H,X,.ptr s.au 0 w.heap.size (by simp[Gh.cU])⟩,rfl,rfl,by simp[dO]⟩;simp[execOp,A,Instr.alloc,dQ LS hz,newVar,newRow]
   .cases h
  .cases h
 |box ty x=>
  rw[A]at h;simp only[mA]at h;split at h
  .rename_i i v G B;rcases aa h with⟨hn,h⟩|⟨_,h⟩
   .simp only[ec,bq]at h;obtain⟨⟨q,cs⟩,hc,rfl,rfl,rfl⟩:=h;have hn':s.au<bg:=eN hn;obtain⟨h1,h2,h3,_⟩:=kO hc K (bE hf B);obtain⟨H,X⟩:=hs.cU hn' ty (cs:=cs) (vs:=(a.eval x).cells) (by rw[h1,h2]) h3;refine⟨⟨_,_,_,.inl ?_,H,X,.ptr s.au 0 w.heap.size (by simp[Gh.cU])⟩,rfl,rfl,by simp[dO]⟩;simp[execOp,A,Instr.box,newVar,newRow]
   .cases h
  .cases h
 |build ty parts=>
  rw[A]at h;simp only[mA]at h;split at h
  .rename_i i ps G hps;split at h
   .rename_i fs hk;simp only[ec,bq]at h;obtain⟨⟨q,cs⟩,hc,rfl,rfl,rfl⟩:=h;have m8:=mY hf hps;obtain⟨v,B,F⟩:=Kc (w:=w) (g:=g) (I.ti _ _ G) hk (vs:=parts.map λ(i,x)=>(i,a.eval x)) (by simpa using m8) hc K;exact⟨dm hs (by simp[execOp,A,B]) F rfl,rfl,rfl,bS _⟩
   .cases h
  .cases h
 |buildSlice ty len parts=>
  rw[A]at h;simp only[mA]at h;split at h
  .rename_i i ps G hps;split at h
   .rename_i sz ag bt zero hk;rcases aa h with⟨S,h⟩|⟨_,h⟩
    .split at h
     .rename_i q es os hel;simp only[ec,bq]at h;obtain⟨s1,N,rfl,rfl,rfl⟩:=h;have m8:=mY hf hps;rw[yB]at S;obtain⟨Hv,nB⟩:=S;rw[yB]at nB;obtain⟨nB,Q⟩:=nB;rw[yB]at Q;obtain⟨Q,Tl⟩:=Q;obtain⟨w',g',v,R,H,X,F,hfl,Wx⟩:=zd (I.ti _ _ G) hs hk Hv (beq_iff'.1 nB) (λe=>by
       rw[e]at Q;cases Q) (eN Tl) (vs:=parts.map λ(i,x)=>(i,a.eval x)) (by simpa using m8) hel K N
      exact⟨⟨v,w',g',.inl (by simp[execOp,A,R]),H,X,F⟩,hfl,yU N,by omega⟩
     .cases h
    .cases h
   .cases h
  .cases h
 |load ty x=>
  rw[A]at h;simp only[mA]at h;split at h
  .rename_i i v G B;obtain⟨u,M,F,rfl⟩:=zR (I.ti _ _ G) hs (bE hf B) h K;exact⟨dm hs (by simp[execOp,A,M]) F rfl,rfl,rfl,bS _⟩
  .cases h
 |store ty x y=>
  rw[A]at h;simp only[mA]at h;split at h
  .rename_i i v u G B M;obtain⟨w',g',R,H,X,rfl⟩:=Gp (I.ti _ _ G) hs (bE hf B) (bE hf M) h K;refine⟨⟨undef,w',g',.inr ⟨by simp[execOp,A,R],rfl⟩,H,X,.sym _ _ (.lit _)⟩,?_⟩;unfold storeT at h;split at h
   .cases h
   .split at h
    .split at h
     .rcases aa h with⟨_,h⟩|⟨_,h⟩
      .simp only[aV,bq]at h;obtain⟨_,_,rfl⟩:=h;exact⟨rfl,rfl,bS _⟩
      .cases h
     .cases h
    .split at h
     .split at h
      .rename_i N;split at h
       .rcases aa h with⟨_,h⟩|⟨_,h⟩
        .simp only[aV,bq]at h;obtain⟨_,_,rfl⟩:=h;have e1:=Qn N;have e2:=yU N;have e3:=Mg N;exact⟨e1,e2,wY e3.symm⟩
        .cases h
       .cases h
      .cases h
     .cases h
    .cases h
  .cases h
 |nilCheck x=>
  rw[A]at h;simp only[mA]at h;have hx:=λ{t}(e:iQ fr x=Z t)=>bE hf e;split at h;all_goals try(cases h;done)
  all_goals
   rename_i S8;have C:=hx S8;simp only[aV,bq]at h;obtain⟨rfl,rfl,rfl⟩:=h
  .generalize B:a.eval x=v at C;cases C with|ptr _ _ b S=>exact⟨dm hs (by simp[execOp,A,B]) (.ptr _ _ b S) rfl,rfl,rfl,bS _⟩
  .generalize B:a.eval x=v at C;cases C with|lR _ _ ad val h1 h2 h3=>exact⟨dm hs (by simp[execOp,A,B]) (.lR _ _ ad val h1 h2 h3) rfl,rfl,rfl,bS _⟩
  .generalize B:a.eval x=v at C;cases C with|jV _ _ _ _ _ _ _ _ h1=>exact⟨dm hs (by simp[execOp,A,B]) (.jV _ _ _ _ _ _ _ _ h1) rfl,rfl,rfl,bS _⟩
  .generalize B:a.eval x=v at C;cases C with|cE _ _ _ h1=>exact⟨dm hs (by simp[execOp,A,B]) (.cE _ _ _ h1) rfl,rfl,rfl,bS _⟩
  .generalize B:a.eval x=v at C;cases C with|fn _ _ _ _ _ h1 h2 h3 h4=>exact⟨dm hs (by simp[execOp,A,B]) (.fn _ _ _ _ _ h1 h2 h3 h4) rfl,rfl,rfl,bS _⟩
  .generalize B:a.eval x=v at C;cases C with
   |sym d _ hd=>
    cases hd with|cE _ _ _ h1=>exact⟨dm hs (by simp[execOp,A,B]) (.sym _ _ (.cE _ _ _ h1)) rfl,rfl,rfl,bS _⟩|_=>cases K
 |binOp op ty x y yt=>
  rw[A]at h;simp only[mA]at h;split at h
  .rename_i i u v G M B;simp only[ec,bq]at h;obtain⟨⟨q,d⟩,S,rfl,rfl,rfl⟩:=h;obtain⟨r,C,F⟩:=MB (I.ti _ _ G) S K (bE hf M) (bE hf B) x y;refine⟨dm hs ?_ F rfl,rfl,rfl,bS _⟩;simp only[Sem.run_bind]at C;simp only[execOp,A,Sem.run_bind];rw[C];rfl
  .cases h
 |unOp op ty x=>
  rw[A]at h;simp only[mA]at h;split at h
  .rename_i i u G M;simp only[ec,bq]at h;obtain⟨⟨q,d⟩,S,rfl,rfl,rfl⟩:=h;obtain⟨r,C,F⟩:=OT (P:=E.P) S K (bE hf M);exact⟨dm hs (by simp[execOp,A,C]) F rfl,rfl,rfl,bS _⟩
  .cases h
 |convert src dst x=>
  rw[A]at h;simp only[mA]at h;split at h
  .rename_i i j u G hj M;obtain⟨r,C,F,rfl⟩:=J1 (I.ti _ _ G) (I.ti _ _ hj) h K (bE hf M);exact⟨dm hs (by simp[execOp,A,C]) F rfl,rfl,rfl,bS _⟩
  .cases h
 |makeInterface ty x=>
  rw[A]at h;simp only[mA]at h;split at h
  .rename_i i v G B;have Wr:=I.ti _ _ G;obtain⟨xi,d,z,LS,M,_⟩:=Wr.all;split at h
   .cases h
   .rename_i hk;simp only[aV,bq]at h;obtain⟨rfl,rfl,rfl⟩:=h;refine⟨dm hs (v:=.iface ty (a.eval x)) ?_ (.cE _ _ _ (bE hf B)) rfl,rfl,rfl,bS _⟩;have hni:∀ms,d≠.interface ms:=λms e=>hk (Wr.nif ms (e▸M));simp only[execOp,A,Instr.makeInterface,Sem.run_bind,aI M,Result.andThen_ok];cases d<;>first|rfl|exact absurd rfl (hni _)
  .cases h
 |makeFunc f first cap=>
  rw[A]at h;simp only[mA]at h;split at h
  .rename_i xs ys hx hy;simp only[aV,bq]at h;obtain⟨rfl,rfl,rfl⟩:=h;have h1:=eT hf hx;have h2:=eT hf hy;refine⟨dm hs (v:=.func f (first.map a.eval) (cap.map a.eval)) (by simp[execOp,A,Instr.makeFunc]) (.fn _ _ _ _ _ (by simpa using h1.1) (by simpa using h2.1) (λj t v k1 k2=>h1.2 j t v k1 (by simpa using k2)) (λj t v k1 k2=>h2.2 j t v k1 (by simpa using k2))) rfl,rfl,rfl,bS _⟩
  .cases h
 |extract x k=>
  rw[A]at h;simp only[mA]at h;split at h
  .rename_i v B;obtain⟨r,C,F,rfl⟩:=CR (P:=E.P) h K (bE hf B);exact⟨dm hs (by simp[execOp,A,C]) F rfl,rfl,rfl,bS _⟩
  .cases h
 |fieldAddr ty x k=>
  rw[A]at h;simp only[mA]at h;split at h
  .rename_i i v G B;obtain⟨r,C,F,rfl⟩:=yZ (I.ti _ _ G) h (bE hf B);exact⟨dm hs (by simp[execOp,A,C]) F rfl,rfl,rfl,bS _⟩
  .cases h
 |field ty x k=>
  rw[A]at h;simp only[mA]at h;split at h
  .rename_i i v G B;obtain⟨r,C,F,rfl⟩:=Hy (I.ti _ _ G) h K (bE hf B);exact⟨dm hs (by simp[execOp,A,C]) F rfl,rfl,rfl,bS _⟩
  .cases h
 |indexAddr ty x ix=>
  rw[A]at h;simp only[mA]at h;split at h
  .rename_i i v n G B hn;obtain⟨r,C,F,rfl⟩:=yS (I.ti _ _ G) hs h K (bE hf B) (bE hf hn);exact⟨dm hs (by simp[execOp,A,C]) F rfl,rfl,rfl,bS _⟩
  .cases h
 |index ty x ix=>
  rw[A]at h;simp only[mA]at h;split at h
  .rename_i i v n G B hn;obtain⟨r,C,F,rfl⟩:=Hq (I.ti _ _ G) h K (bE hf B) (bE hf hn);exact⟨dm hs (by simp[execOp,A,C]) F rfl,rfl,rfl,bS _⟩
  .cases h
 |slice ty x lo G mx=>
  rw[A]at h;simp only[mA]at h;split at h
  .rename_i i v l hh m h1 h2 h3 h4 h5;obtain⟨g',r,C,H,X,F,hfl,Wx⟩:=Gs (I.ti _ _ h1) hs h K (bE hf h2) (vX hf h3) (vX hf h4) (vX hf h5);exact⟨⟨r,w,g',.inl (by simp[execOp,A,C]),H,X,F⟩,hfl,O7 h,by omega⟩
  .cases h
 |typeAssert x xt ty ok=>
  rw[A]at h;simp only[mA]at h;split at h
  .rename_i i v G B;obtain⟨r,C,F,rfl⟩:=EE (xt:=xt) (I.ti _ _ G) h (bE hf B);exact⟨dm hs (by simp[execOp,A,C]) F rfl,rfl,rfl,bS _⟩
  .cases h
 |_=>rw[A]at h;simp[mA]at h
end
end
section
section
variable {g g' g'':Gh}{w w' w'':World}{lo fl:Nat}
def aU.grow{s:St}(hs:aU g s w){I:Nat->Prop}(p:∀b,g.bf b->I b)(f:∀b,I b->g.bf b∨w.heap.size<=b)(q:∀b,I b->b<w'.heap.size)(i:w.heap.size<=w'.heap.size)
  (a:∀b,b<w.heap.size->w'.heap[b]?=w.heap[b]?) (r:w'.os=w.os) (m:w'.output=w.output) :
  aU {g with bf:=I} s w'∧Ext fl g w {g with bf:=I} w':=by
 have e:∀k b,br ({g with bf:=I}:Gh) k b->br g k b:=λk b h=>⟨λx=>h.1 (p b x),h.2⟩;have t:Ext fl g w {g with bf:=I} w':=
  ⟨λ_ _ h=>h,λ_ _ _ h=>h,p,i,λb n _=>a b n,λk b h=>.inl (e k b h),λb h=>(f b h).imp id .inl,r,m⟩
 refine⟨⟨hs.au,hs.af,λk c o=>?_,λk j y z=>?_,q,λk v b h A=>hs.jv k v b (e k b h) (e v b A)⟩,t⟩
 .have d:=hs.box k c o;refine d.ext t hs.bf (a c d.2.1) rfl λu=>?_;rcases f c u with h|h
  .exact d.1 h
  .have:=d.2.1;omega
 .have l:=hs.arr k j y z;refine l.ext t hs.bf (λb n o=>⟨a b (l.1 _ n o),⟨λh=>?_,p b⟩⟩) rfl rfl;rcases f b h with h|h
  .exact h
  .have:=l.1 _ n o;simp only at this;omega
end
def jZ(P:Program)(f:FuncId):Prop:=∃fn,P.funcs[f]?=Z fn∧fn.body.isSome=W∧(fn.name== "runtime.NumGoroutine")=J
def Ul(I:Nat->Prop)(w:World)(d:D):Ending->World->Prop
 | .returned v,w'=>∃a:Nat->Prop,(∀b,I b->a b)∧(∀b,a b->I b∨w.heap.size<=b)∧(∀b,a b->b<w'.heap.size)∧w.heap.size<=w'.heap.size∧
   (∀b,b<w.heap.size->w'.heap[b]?=w.heap[b]?)∧w'.os=w.os∧w'.output=w.output∧dM a w' d v
 | .panicked _,_=>False
 | .outgrown,_=>False
def ae5(P:Program)(f:FuncId)(c:KI):Prop:=
 jZ P f∧∀(I:Nat->Prop)(w:World)(ds:L D)(vs:Array Value),(∀b,I b->b<w.heap.size)->ds.length=vs.size->
  (∀(j:Nat)(d:D)(v:Value),ds[j]?=Z d->vs[j]?=Z v->dM I w d v)->c.pre ds->Calls P f vs w (Ul I w (c.f ds))
structure KH(E:Env):Prop extends yb E where
 name:∀f fn,E.Od f=Z fn->(fn.name== "runtime.NumGoroutine")=J
 Es:∀f c,E.Es f=Z c->ae5 E.P f c
section
variable {g:Gh}{w:World}
end
end
section
section
variable {g:Gh}{w:World}
variable {s s':St}{t:T}{P:Program}{f:FuncId}{o:Oper}{c:Call}{a:Act}{fr:Fr}
def MH{i:TI}{x y:T}{p:Prop}(h:o8 i s x y=Z (p,t,s')):s'.fl=s.fl∧s'.lo=s.lo∧s.au<=s'.au:=by
 unfold o8 at h;rcases aa h with⟨_,h⟩|⟨_,h⟩
 .cases h
 .split at h
  .split at h
   .simp only[aV,bq]at h;obtain⟨_,_,rfl⟩:=h;exact⟨rfl,rfl,by simp[dO]⟩
   .dsimp only at h;split at h
    .simp only[aV,bq]at h;obtain⟨_,_,rfl⟩:=h;exact⟨rfl,rfl,by simp[dO]⟩
    .simp only[aV,bq]at h;obtain⟨_,_,rfl⟩:=h;exact⟨rfl,rfl,bS _⟩
   .split at h
    .rcases aa h with⟨_,h⟩|⟨_,h⟩
     .simp only[aV,bq]at h;obtain⟨_,_,rfl⟩:=h;exact⟨rfl,rfl,bS _⟩
     .cases h
    .cases h
   .cases h
  .cases h
def uf(h:jZ P f)(args:Array Value):(callFunc f args).run P w=.ok (.enter f args) w:=by
 obtain⟨fn,h1,h2,h3⟩:=h;have h4:fn.body≠Y:=by intro a;rw[a]at h2;cases h2
 have h5:fn.name≠ "runtime.NumGoroutine":=by simpa using h3
 simp[callFunc,h1,h5,h4]
def wT(d:o.op=.call c){b:Operand}(e:c.callee=.value b){first cap:Array Value}(g:a.eval b=.func (.func f) first cap)(h:jZ P f) :
  (execOp a.eval o).run P w=.ok (.enter f (first++c.args.map a.eval++cap)) w:=by
 simp only[execOp,d,resolve,e,Deferred.ofValue,g,Sem.run_bind,Sem.run_pure,Result.andThen_ok,invoke];exact uf h _
def Qr(hf:cg g fr a w){dst:O Nat}(h:abU fr dst=W)(hn:fr.n<=bg){v:Value}(i:aC g w t v):cg g (fr.iO dst t) (a.put dst v) w:=by
 cases dst with
 |none=>exact hf
 |some d=>
  have f:d<fr.n:=eN h;refine⟨by simp[Act.put,Fr.iO,Fr.put,hf.size],hf.df,λk j b=>?_⟩;simp only[Fr.iO,Fr.put,Fr.get]at b;rw[Tr.aO _ _ _ _ (gN f hn)]at b;by_cases c:k=d
  .subst c;rw[aY rfl]at b;simp only[aV]at b;subst b;exact⟨v,by simp[Act.put,hf.size,f],i⟩
  .rw[bK c]at b;obtain⟨u,l,m⟩:=hf.tm k j b;refine⟨u,?_,m⟩;simp only[Act.put];rw[Sf (λe=>c e.symm)];exact l
structure Aft(s:St)(g:Gh)(w:World)(s':St)(g':Gh)(w':World):Prop where
 rel:aU g' s' w'
 ext:Ext s.fl g w g' w'
 fl:s'.fl=s.fl
 lo:s'.lo=s.lo
 au:s.au<=s'.au
def Aft.refl{s:St}(h:aU g s w):Aft s g w s g w:=⟨h,Ext.refl _ _ _,rfl,rfl,bS _⟩
def vn{E:Env}(z:KH E)(hf:cg g fr a w)(hs:aU g s w)(n:o.op=.call c){b:Builtin}(I:c.callee=.builtin b){args:L T}
  (d:uY fr c.args.toList=Z args) {p:Prop} {t:T} (h:eI E s b c.argTypes args=Z (p,t,s')) (M:p) {k:T->St->Prop} (N:k t s')
  {K:Act->World->Prop} {Q:Exit->Act->World->Prop} (P:∀t s' g' v w',k t s'->Aft s g w s' g' w'->aC g' w' t v->K (a.put o.dst v) w') :
  o.wp E.P a w K Q∨(o.asks E.P a w∧LetsOut Q):=by
 have e:=eT hf d;cases b with
 |len=>
  left
  match args,d,e,h with
  |[x],d,e,h=>
   have A:c.args.size=1:=by have:=e.1;simpa using this.symm
   obtain⟨arr,m⟩:∃u,c.args=#[u]:=⟨c.args[0],by
    apply Array.ext
    .simp[A]
    .intro i h1 h2;have:i=0:=by omega
     subst this;rfl⟩
   have B:aC g w x (a.eval arr):=e.2 0 _ _ rfl (by simp[m]);obtain⟨v,S,X,rfl⟩:=Fp (rt:=o.type) hs z.ti h M B;unfold Oper.wp;have f:(execOp a.eval o).run E.P w=.ok (.value v) w:=by simp[execOp,n,resolve,I,invoke,builtin,m,S]
   rw[f];exact P t s' g v w N (Aft.refl hs) X
  |[],_,_,h=>simp[eI]at h
  |_::_::_,_,_,h=>simp[eI]at h
 |append=>
  match args,d,e,h with
  |[x,y],d,e,h=>
   have A:c.args.size=2:=by have:=e.1;simpa using this.symm
   obtain⟨u,v,m⟩:∃u v,c.args=#[u,v]:=⟨c.args[0],c.args[1],by
    apply Array.ext
    .simp[A]
    .intro i h1 h2;have:i=0∨i=1:=by omega
     rcases this with rfl|rfl<;>rfl⟩
   have B:aC g w x (a.eval u):=e.2 0 _ _ rfl (by simp[m]);have hy:aC g w y (a.eval v):=e.2 1 _ _ rfl (by simp[m]);simp only[eI]at h;split at h
   .rename_i ty R C;split at h
    .rename_i i j hi hj;split at h
     .rename_i F;have G:c.argTypes=#[ty,R]:=by apply BK;simpa using C
      have H:=vw (rt:=o.type) (z.ti _ _ hi) (z.ti _ _ hj) ⟨_,_,_,_,F⟩ hs h M B hy;have q:o.op=.call {callee:=.builtin .append,args:=#[u,v],argTypes:=#[ty,R]}:=by rw[n,<-m,<-G,<-I]
      obtain⟨r,w',f,g',h1,h2,h3⟩:=H
      left
      unfold Oper.wp;have l:(execOp a.eval o).run E.P w=.ok (.value r) w':=by simp[execOp,q,resolve,invoke,builtin,f]
      rw[l];obtain⟨e1,e2,e3⟩:=MH h;exact P t s' g' r w' N ⟨h1,h2,e1,e2,e3⟩ h3
     .cases h
    .cases h
   .cases h
  |[],_,_,h=>simp[eI]at h
  |[_],_,_,h=>simp[eI]at h
  |_::_::_::_,_,_,h=>simp[eI]at h
 |_=>simp[eI]at h
end
end
section
section
variable {g:Gh}{w:World}
def SN{E:Env}(j:KH E){fr:Fr}{s s':St}{a:Act}(hf:cg g fr a w)(hs:aU g s w){o:Oper}{c:Call}(e:o.op=.call c)(k:c.callee=.builtin .len){args:L T}
  (b:uY fr c.args.toList=Z args) {p:Prop} {t:T} (h:eI E s .len c.argTypes args=Z (p,t,s')) (l:p) :
  s'=s∧∃v,(execOp a.eval o).run E.P w=.ok (.value v) w∧aC g w t v:=by
 have d:=eT hf b
 match args,b,d,h with
 |[x],b,d,h=>
  have m:c.args.size=1:=by have:=d.1;simpa using this.symm
  obtain⟨arr,f⟩:∃u,c.args=#[u]:=⟨c.args[0],by
   apply Array.ext
   .simp[m]
   .intro i h1 h2;have:i=0:=by omega
    subst this;rfl⟩
  have n:aC g w x (a.eval arr):=d.2 0 _ _ rfl (by simp[f]);obtain⟨v,q,r,rfl⟩:=Fp (rt:=o.type) hs j.ti h l n;exact⟨rfl,v,by simp[execOp,e,resolve,k,invoke,builtin,f,q],r⟩
 |[],_,_,h=>simp[eI]at h
 |_::_::_,_,_,h=>simp[eI]at h
end
end
section
abbrev WR(r:O Nat):Fence:={Fence.wide with round:=r}
section
variable {P:Program}{r:Option Nat}
def gU{m a:Machine}:StepsIn (Machine.fenced P (WR r)) P m a↔Steps P m a:=stepsIn_wide
variable {n id:Nat}{f:FuncId}{args tmps:Array Value}{R:Ending->World->Prop}{next:Act->World->Prop}{Q:Exit->Act->World->Prop}{fn:Func}
def Mx{w:World}:CallsIn (WR r) n P f args w R↔Calls P f args w R:=
 (callsIn_wide (n:=n):CallsIn Fence.wide n P f args w R↔_)
def ID(n:Nat):(WR r).room n:=room_wide n
def abM{row:String}{w:World}{R:Value->World->Prop}(h:Rows P row args w R):RowsIn (WR r) n P row args w R:=
 λc cs _=>let ⟨v,a,b,d⟩:=h c cs;⟨v,a,b,gU.2 d⟩
def Uo(r:O Nat)(P:Program)(o:Oper)(a:Act)(w:World)(next:Act->World->Prop)(Q:Exit->Act->World->Prop):Prop:=
 o.uponIn (WR r) 0 P a next Q ((o.semAt r a.eval).run P w)∨(o.asks P a w∧(r≠Y->∀c,o.op≠.defer c)∧LetsOut Q)
def Uo.of_wp{o:Oper}{a:Act}{w:World}(e:r≠Y->∀c,o.op≠.defer c)(h:o.wp P a w next Q∨(o.asks P a w∧LetsOut Q)):Uo r P o a w next Q:=by
 rcases h with h|⟨h1,h2⟩
 .left
  have b:o.semAt r a.eval=execOp a.eval o:=by cases r with|none=>rfl|some l=>exact Oper.semAt_eq _ _ _ (e (by simp))
  rw[b];unfold Oper.wp at h;generalize(execOp a.eval o).run P w=res at h;cases res with
  |ok x g=>cases x with|enter f args=>exact⟨λh=>by simp[Fence.wide]at h,Mx.2 h⟩|row row args=>exact⟨λh=>by simp[Fence.wide]at h,abM h⟩|value v=>exact h|skip=>exact h|defer d=>exact h|_=>exact h.elim
  |halt x g=>cases x<;>exact h
 .exact .inr ⟨h1,e,h2⟩
def Uo.mono{o:Oper}{a:Act}{w:World}{next b:Act->World->Prop}{Q:Exit->Act->World->Prop}(hn:∀a w,next a w->b a w)(h:Uo r P o a w next Q):Uo r P o a w b Q:=by
 rcases h with h|h
 .left
  generalize(o.semAt r a.eval).run P w=res at h;cases res with
  |ok x j=>cases x with|enter f args=>exact⟨h.1,h.2.mono λe g c=>by cases e<;>first|exact hn _ _ c|exact c⟩|row row args=>exact⟨h.1,h.2.mono λ_ _ c=>hn _ _ c⟩|round l f tmps assign i=>exact⟨h.1,h.2.mono λe g c=>by cases e<;>first|exact hn _ _ c|exact c⟩|value v=>exact hn _ _ h|skip=>exact hn _ _ h|defer d=>exact hn _ _ h|_=>exact h
  |halt x j=>cases x<;>exact h
 .exact .inr h
abbrev Xx(r:O Nat)(P:Program):=ArrivesIn (Machine.fenced P (WR r)) P
section
variable {b:Frame}{a:Act}{k:List Item}{cs:List Frame}{w:World}{ops:Array Oper}{i:Nat}{rest:List Nat}{o:Oper}
def Pw(q:b.roundOf=r)(y:r≠Y->∀c,o.op≠.defer c)(z:ops[i]?=Z o)(A:Region.wanted o (yielded ops a.tmps)=W)(B:b.kind≠.early)(h:o.asks P a w) :
  Outgrown P (lone (b.atR a (.inRegion ops (i::rest)::k)) cs w):=by
 have n:o.semAt b.roundOf a.eval=execOp a.eval o:=by rw[q];cases r with|none=>rfl|some l=>exact Oper.semAt_eq _ _ _ (y (by simp))
 have v:=stepGR_op (P:=P) (b:=b) (k:=k) (cs:=cs) (w:=w) (rest:=rest) z A;rw[n]at v;have s:noRoomEvent∈(stepG P W {frame:=b.atR a (.inRegion ops (i::rest)::k),callers:=cs,status:=.running,dying:=Y} w).es:=by
  rw[v];have C:((b.atR a (.inRegion ops (i::rest)::k)).kind==CallKind.early)=J:=by simpa[Frame.atR]using B
  have t:noRoomEvent∈Sem.events P (execOp a.eval o) w #[]:=h.1;simp only[stepG.apply,Sem.runT_eq,qg,C,Bool.false_eq_true,if_false];rw[GStep.es_after];refine Array.mem_append.2 (.inl (seen_keeps P _ _ ?_));have j:=h.2;cases p:(execOp a.eval o).run P w with
  |ok x E=>exact t
  |halt x E=>
   rw[p]at j;cases x with
   |unsupported u=>cases u<;>first|exact j.elim|exact t
   |blocked=>exact j.elim
   |waiting=>exact j.elim
   |_=>exact t
 refine Outgrown.now (o:={g:=0,fn:=(b.atR a (.inRegion ops (i::rest)::k)).fn,pos:=(b.atR a (.inRegion ops (i::rest)::k)).place,act:=.mark .noRoom}) ?_ rfl rfl;rw[stepT,move_lone];refine runT_lists P _ 0 {frame:=b.atR a (.inRegion ops (i::rest)::k),callers:=cs,status:=.running,dying:=Y} (by simp[lone]) _ ?_;exact mem_ofEvents (e:=noRoomEvent) (by simpa[lone]using s)
def Su(A:b.roundOf=r)(E:ops[i]?=Z o)(I:Region.wanted o (yielded ops a.tmps)=W)(h:Uo r P o a w next Q) :
  (∃a' w',next a' w'∧Steps P (lone (b.atR a (.inRegion ops (i::rest)::k)) cs w) (lone (b.atR a' (.inRegion ops rest::k)) cs w'))∨
  ∃e a' w',Q e a' w'∧Xx r P (lone (b.atR a (.inRegion ops (i::rest)::k)) cs w) b k cs e a' w':=by
 rcases h with h|⟨h1,h2,u,y,z⟩;rotate_left
 .by_cases K:b.kind=.early
  .exact .inr ⟨.outgrown,u,y,z,.inl K⟩
  .exact .inr ⟨.outgrown,u,y,z,.inr (Pw A h2 E I K h1)⟩
 have t:=stepGR_op (P:=P) (b:=b) (k:=k) (cs:=cs) (w:=w) (rest:=rest) E I;rw[A]at t;have j:∀v,(b.atR a (.inRegion ops (i::rest)::k)).finish v=b.atR (a.put o.dst v) (.inRegion ops rest::k):=λv=>by rw[Frame.finish_atR,E];rfl
 generalize g:(o.semAt r a.eval).run P w=res at h;have enter:∀{fr:Frame}{w1:World},(stepG P W {frame:=b.atR a (.inRegion ops (i::rest)::k),callers:=cs,status:=.running,dying:=Y} w).bare=.go {frame:=fr,callers:=b.atR a (.inRegion ops (i::rest)::k)::cs,status:=.running,dying:=Y} w1->
   step P (lone (b.atR a (.inRegion ops (i::rest)::k)) cs w)=.next (lone fr (b.atR a (.inRegion ops (i::rest)::k)::cs) w1):=λh=>step_lone_go h
 cases res with
 |ok x w1=>cases x with
  |value v=>exact .inl ⟨_,_,h,.one (step_lone_go (by rw[t,<-j];simp[stepG.apply,g]))⟩
  |skip=>exact .inl ⟨_,_,h,.one (step_lone_go (by rw[t,<-j];simp[stepG.apply,g]))⟩
  |defer d=>have B:=Frame.finish_atR b {a with defers:=d::a.defers} ops i rest k undef;rw[E]at B;refine .inl ⟨_,_,h,.one (step_lone_go ?_)⟩;rw[t];simp only[stepG.apply,Sem.runT_eq,g,GStep.bare_after];exact oI (λfr=>GStep.go {frame:=fr,callers:=cs,status:=.running,dying:=Y} w1) B
  |enter f args=>
   obtain⟨e,G,fr,s,c,_,p⟩:=Mx.1 h.2 (b.atR a (.inRegion ops (i::rest)::k)::cs);have h1:=enter (fr:=Frame.enter P f args .normal) (w1:=w1) (by rw[t];simp[stepG.apply,g,Frame.atR]);cases e with|returned v=>exact .inl ⟨_,_,s,.head h1 (c.trans (.one (by rw[<-j];exact step_leave_returned p)))⟩|panicked H=>exact .inr ⟨.panic H,a,G,s,.inRegion ops (i::rest)::k,gU.2 (.head h1 (c.trans (.one (by rw[<-Frame.raise_atR];exact step_leave_panicked p))))⟩|outgrown=>obtain⟨u,y,z⟩:=s;exact .inr ⟨.outgrown,u,y,z,.inr (Outgrown.of_steps (.one h1) c)⟩
  |row row args=>obtain⟨v,G,s,c⟩:=h.2 (b.atR a (.inRegion ops (i::rest)::k)) cs (ID _);have h1:=enter (fr:=Frame.ofRow P row args .normal) (w1:=w1) (by rw[t];simp[stepG.apply,g,Frame.atR]);exact .inl ⟨_,_,s,.head h1 (by rw[<-j];exact gU.1 c)⟩
  |round l f tmps assign C=>
   obtain⟨e,G,s,c⟩:=h.2.2 (b.atR a (.inRegion ops (i::rest)::k)) cs (ID _);have h1:=enter (fr:=Frame.round l f tmps assign C .normal) (w1:=w1) (by rw[t];simp[stepG.apply,g,Frame.atR]);cases e with|returned v=>exact .inl ⟨_,_,s,.head h1 (by rw[<-j];exact gU.1 c)⟩|panicked H=>exact .inr ⟨.panic H,a,G,s,.inRegion ops (i::rest)::k,gU.2 (.head h1 (by rw[<-Frame.raise_atR];exact gU.1 c))⟩|outgrown=>obtain⟨u,y,z⟩:=s;exact .inr ⟨.outgrown,u,y,z,.inr (Outgrown.of_steps (.one h1) c)⟩
  |_=>exact h.elim
 |halt x w1=>cases x with|panic v=>refine .inr ⟨_,a,w1,h,.inRegion ops (i::rest)::k,gU.2 (.one (step_lone_go ?_))⟩;rw[t,<-Frame.raise_atR];simp[stepG.apply,g]|_=>exact h.elim
end
def tM(r:O Nat)(P:Program)(ops:Array Oper)(Q:Exit->Act->World->Prop):L Nat->Act->World->Prop
 |[],a,w=>Q .normal a w
 |i::rest,a,w=>match ops[i]? with
  |none=>tM r P ops Q rest a w
  |some o=>if Region.wanted o (yielded ops a.tmps)then Uo r P o a w (tM r P ops Q rest) Q else tM r P ops Q rest (a.put o.dst undef) w
def lg{ops:Array Oper}{Q:Exit->Act->World->Prop}:∀(l:L Nat)(a:Act)(w:World),tM r P ops Q l a w->∀(b:Frame)(k:L Item)(cs:L Frame),b.roundOf=r->
  ∃e a' w',Q e a' w'∧Xx r P (lone (b.atR a (.inRegion ops l::k)) cs w) b k cs e a' w'
 |[],a,w,h,b,k,cs,_=>⟨.normal,a,w,h,gU.2 (.one stepR_region_end)⟩
 |i::rest,a,w,h,b,k,cs,d=>by
  simp only[tM]at h;cases f:ops[i]? with
  |none=>simp only[f]at h;obtain⟨e,a',w',j,c⟩:=lg rest a w h b k cs d;have g:=stepR_op_skip (P:=P) (b:=b) (a:=a) (k:=k) (cs:=cs) (w:=w) (ops:=ops) (i:=i) (rest:=rest) (by simp[f]);simp only[f,Ny,Act.put]at g;exact⟨e,a',w',j,.of_steps (gU.2 (.one g)) c⟩
  |some o=>
   simp only[f]at h;by_cases m:Region.wanted o (yielded ops a.tmps)=W
   .simp only[m,qg]at h;rcases Su (k:=k) (cs:=cs) (rest:=rest) d f m h with⟨a1,n,p,g⟩|hx
    .obtain ⟨e,a',w',j,c⟩:=lg rest a1 n p b k cs d;exact⟨e,a',w',j,.of_steps (gU.2 g) c⟩
    .exact hx
   .simp only[m,if_false,Bool.false_eq_true]at h;obtain⟨e,a',w',j,c⟩:=lg rest _ w h b k cs d;have g:=stepR_op_skip (P:=P) (b:=b) (a:=a) (k:=k) (cs:=cs) (w:=w) (ops:=ops) (i:=i) (rest:=rest) (by simp[f];simpa using m);simp only[f,GJ]at g;exact⟨e,a',w',j,.of_steps (gU.2 (.one g)) c⟩
def RI{ops:Array Oper}{a:Act}{w:World}(h:tM r P ops Q (List.range ops.size) a w):(Code.region id ops J).wpIn (WR r) 0 P Q a w:=
 λb k cs d _ _=>let ⟨e,f,g,i,c⟩:=lg _ a w h b k cs d;⟨e,f,g,i,.of_steps (gU.2 (.one stepR_region)) c⟩
def zi(r:O Nat)(P:Program)(ops:Array Oper)(Q:Exit->Act->World->Prop)(i:Nat)(K:Act->World->Prop)(a:Act)(w:World):Prop:=
 match ops[i]? with
 |none=>K a w
 |some o=>if Region.wanted o (yielded ops a.tmps)then Uo r P o a w K Q else K (a.put o.dst undef) w
def zi.mono{ops:Array Oper}{Q:Exit->Act->World->Prop}{i:Nat}{a:Act}{w:World}{K e:Act->World->Prop}(h:∀a w,K a w->e a w)(b:zi r P ops Q i K a w):zi r P ops Q i e a w:=by
 unfold zi at *
 split
 .rename_i c;simp only[c]at b;exact h _ _ b
 .rename_i o c;simp only[c]at b;split
  .rename_i d;simp only[d,qg]at b;exact b.mono h
  .rename_i d;simp only[d]at b;exact h _ _ b
def Xy(r:O Nat)(P:Program)(ops:Array Oper)(Q:Exit->Act->World->Prop):Nat->Array Bool->Act->World->Prop
 |0,b,a,w=>Region.ready .any ops b=[]∧Q .normal a w
 |fuel+1,b,a,w=>(Region.ready .any ops b=[]->Q .normal a w)∧
  ∀i∈Region.ready .any ops b,zi r P ops Q i (Xy r P ops Q fuel (b.setIfInBounds i W)) a w
def Px{ops:Array Oper}(i:Nat)(rest:L Nat)(a:Act)(w:World):tM r P ops Q (i::rest) a w=zi r P ops Q i (tM r P ops Q rest) a w:=by cases h:ops[i]?<;>simp[tM,zi,h]
def DD{ops:Array Oper}{Q:Exit->Act->World->Prop}:∀(fuel t:Nat)(b:Array Bool)(a:Act)(w:World),Xy r P ops Q fuel b a w->tM r P ops Q (Region.linearise.go .any ops fuel t b []) a w
 |0,t,b,a,w,h=>by simpa[Region.linearise.go,tM]using h.2
 |fuel+1,t,b,a,w,h=>by
  obtain⟨e,f⟩:=h;simp only[Region.linearise.go];change tM r P ops Q (match(Region.ready .any ops b)[t%(Region.ready .any ops b).length]? with
   |some i=>Region.linearise.go .any ops fuel (t/(Region.ready .any ops b).length) (b.setIfInBounds i W) [i]
   |none=>[].reverse) a w
  generalize Region.ready .any ops b=l at *
  cases l with|nil=>simpa[tM]using e rfl|cons x d=>have c:t%(x::d).length<(x::d).length:=Nat.mod_lt _ (by simp);rw[eS c];dsimp only;rw[linearise_go_acc,List.reverse_singleton,Ek,Px];exact(f _ (BI c)).mono λa w=>DD fuel _ _ a w
def IE{ops:Array Oper}{a:Act}{w:World}(f:P.follows .mixedOrders=W)
  (h:Xy r P ops Q ops.size (Array.replicate ops.size J) a {w with drawn:=w.drawn+1}):(Code.region id ops W).wpIn (WR r) 0 P Q a w:=by
 intro b k cs d _ _;have h2:∀t,tM r P ops Q (Region.schedule (P.follows .mixedOrders) ops t) a {w with drawn:=w.drawn+1}:=λt=>by simp only[Region.schedule,f,Bool.true_or,qg];exact DD ops.size t _ a _ h
 obtain⟨e,g,i,j,c⟩:=lg _ a _ (h2 _) b k cs d;exact⟨e,g,i,j,.of_steps (gU.2 (.one stepR_region_draw)) c⟩
def RF(P:Program)(l:Nat)(R:Ending->World->Prop):Exit->Act->World->Prop
 | .normal,_,w=>∃v a,(Instr.endRound l Y).run P w=.ok v a∧R (.returned v) a
 | .outgrown,_,w=>R .outgrown w
 |_,_,_=>False
def YO{l:Nat}{assign d:Code}{w:World}
  (h:assign.wpIn (WR (Z l)) 0 P (Exit.then (λq t=>∃s,(Instr.beginRound l).run P t=.ok () s∧d.wpIn (WR (Z l)) 0 P (RF P l R) q s) (λe _ w=>e=.outgrown∧R .outgrown w)) {tmps:=tmps,defers:=[]} w) {n:Nat} :
  RoundIn (WR r) n P l f tmps assign d w R:=by
 refine⟨trivial,λc cs _=>?_⟩
 let b:Frame:={(default:Frame)with fn:=f,kind:=.normal,roundOf:=Z l}
 have u:Frame.round l f tmps assign d .normal=b.atR {tmps:=tmps,defers:=[]} [.code assign,.beginRound,.code d]:=by simp[Frame.round,Frame.atR,b]
 obtain⟨e,q,t,z,g⟩:=h b [.beginRound,.code d] (c::cs) rfl trivial (ID _);rw[<-u]at g;have out:∀{e:Exit}{a:Act}{j:World},(e=.outgrown∧R .outgrown j)->Xx (Z l) P (lone (Frame.round l f tmps assign d .normal) (c::cs) w) b [.beginRound,.code d] (c::cs) e a j->
   ∃e j,R e j∧ComesIn (Machine.fenced P (WR r)) P (lone (Frame.round l f tmps assign d .normal) (c::cs) w) (match e with|.returned v=>lone (c.finish v) cs j|.panicked chain=>lone (c.raise chain) cs j|.outgrown=>lone c cs j) e:=by
  rintro e a j ⟨rfl,x⟩ g
  exact⟨.outgrown,j,x,g.resolve_left (by simp[b])⟩
 cases e with
 |normal=>
  obtain⟨s,y,k⟩:=z;have A:Steps P (lone (b.atR q [.beginRound,.code d]) (c::cs) t) (lone (b.atR q [.code d]) (c::cs) s):=.one (stepR_beginRound rfl y);obtain⟨B,F,C,m,i⟩:=k b [] (c::cs) rfl trivial (ID _);cases B with
  |normal=>obtain⟨v,E,p,x⟩:=m;exact⟨.returned v,E,x,gU.2 ((gU.1 g).trans (A.trans ((gU.1 i).trans (.one (stepR_round_end rfl rfl p)))))⟩
  |outgrown=>exact⟨.outgrown,C,m,Outgrown.of_steps ((gU.1 g).trans A) (i.resolve_left (by simp[b]))⟩
  |_=>exact m.elim
 |_=>exact out z g
def kP(P:Program)(fn:Func)(tmps:Array Value)(R:Ending->World->Prop):L Deferred->FrameMode->World->Prop
 |[],.returning,w=>∃v,(results fn tmps).run P w=.ok v w∧R (.returned v) w
 |[],.panicking chain,w=>R (.panicked chain) w
 |[],.run,_=>False
 |d::ds,u,w=>u≠.run∧((∃b a,d.target=.collected b∧(Instr.takeDeferred b).run P w=.ok [] a∧kP P fn tmps R ds u a)∨
   ∃e cap f args,d.target=.fn e cap∧(invoke d.target d.args).run P w=.ok (.enter f args) w∧CallsD P f args u w λ
    | .returned _,c,a=>kP P fn tmps R ds (settle c) a
    | .panicked chain,c,a=>kP P fn tmps R ds (raised c chain) a
    | .outgrown,_,a=>R .outgrown a)
def pM:∀(ds:L Deferred)(u:FrameMode)(w:World)(fr:Frame)(cs:L Frame),fr.mode=u->fr.defers=ds->fr.tmps=tmps->P.funcs[fr.fn]?=Z fn->fr.kind=.normal->kP P fn tmps R ds u w->
  ∃e w' fr',R e w'∧Comes P (lone fr cs w) (lone fr' cs w') e∧fr'.fn=fr.fn∧fr'.leaving P w' e:=by
 intro ds
 induction ds with
 |nil=>
  intro u w fr cs l x y t z h;cases u with
  |run=>exact h.elim
  |returning=>obtain⟨v,I,m⟩:=h;exact⟨.returned v,w,fr,m,Steps.refl P _,rfl,l,x,z,fn,t,y▸I⟩
  |panicking chain=>exact⟨.panicked chain,w,fr,h,Steps.refl P _,rfl,l,x,fn,t⟩
 |cons d ds F=>
  intro u w fr cs l x y t z h;obtain⟨j,h⟩:=h;rcases h with⟨b,w',g,n,o⟩|⟨Q,cap,f,args,g,A,p⟩
  .have h1:=step_collected (cs:=cs) (l▸j) x g n;obtain⟨B,C,fr',m,K,G,M⟩:=F u w' {fr with defers:=[]++ds} cs l rfl y t z o;exact⟨B,C,fr',m,Comes.of_steps (.one h1) K,G,M⟩
  .have h1:=step_defer (cs:=cs) (l▸j) x g A;obtain⟨e,k,w',N,m,a,H,E⟩:=p {fr with defers:=ds} cs l;cases e with
   |returned v=>have h2:=step_going_returned (c:={{fr with defers:=ds}with mode:=k}) (cs:=cs) H E;obtain⟨B,C,fr',q,r,i,s⟩:=F (settle k) w' {{{fr with defers:=ds}with mode:=k}with mode:=settle k} cs rfl rfl y t z m;exact⟨B,C,fr',q,Comes.of_steps (.head h1 (Steps.trans a (.one h2))) r,i,s⟩
   |panicked chain=>have h2:=step_going_panicked (c:={{fr with defers:=ds}with mode:=k}) (cs:=cs) E;obtain⟨B,C,fr',q,r,i,s⟩:=F (raised k chain) w' {{{fr with defers:=ds}with mode:=k}with mode:=raised k chain} cs rfl rfl y t z m;exact⟨B,C,fr',q,Comes.of_steps (.head h1 (Steps.trans a (.one h2))) r,i,s⟩
   |outgrown=>exact⟨.outgrown,w',fr,m,Outgrown.of_steps (.one h1) a,rfl,trivial⟩
def X5(P:Program)(fn:Func)(R:Ending->World->Prop):Exit->Act->World->Prop
 | .normal,a,w|.ret,a,w=>kP P fn a.tmps R a.defers .returning w
 | .panic chain,a,w=>kP P fn a.tmps R a.defers (.panicking chain) w
 | .outgrown,_,w=>R .outgrown w
 |_,_,_=>False
def pS{c:Code}{w:World}(hf:P.funcs[f]?=Z fn)(v:fn.body=Z c)
  (h:c.wpIn (WR Y) 0 P (X5 P fn R) {tmps:=args++Array.replicate (fn.ntmps-args.size) undef,defers:=[]} w):Calls P f args w R:=by
 intro cs
 let b:Frame:={(default:Frame)with fn:=f,kind:=.normal}
 have j:Frame.enter P f args .normal=b.at {tmps:=args++Array.replicate (fn.ntmps-args.size) undef,defers:=[]} [.code c]:=by simp[Frame.enter,Frame.at,hf,v,b]
 obtain⟨e,n,u,o,a⟩:=wpIn_wide.1 h b [] cs;rw[<-j]at a;cases e with
 |normal=>obtain⟨p,q,d,r,s,g,t⟩:=pM n.defers .returning u {b.at n []with mode:=.returning} cs rfl rfl rfl hf rfl o;exact⟨p,q,d,r,Comes.of_steps (Steps.trans a (.one step_end)) s,g,t⟩
 |ret=>obtain⟨i,m⟩:=a;obtain⟨p,q,d,r,s,g,t⟩:=pM n.defers .returning u {b.at n i with mode:=.returning} cs rfl rfl rfl hf rfl o;exact⟨p,q,d,r,Comes.of_steps m s,g,t⟩
 |panic chain=>obtain⟨i,m⟩:=a;obtain⟨p,q,d,r,s,g,t⟩:=pM n.defers (.panicking chain) u {b.at n i with mode:=.panicking chain} cs rfl rfl rfl hf rfl o;exact⟨p,q,d,r,Comes.of_steps m s,g,t⟩
 |exit id=>exact o.elim
 |goto l=>exact o.elim
 |outgrown=>exact⟨.outgrown,u,b,o,a.resolve_left (by simp[b]),rfl,trivial⟩
end
end
section
section
variable {g:Gh}{w:World}
variable {s:St}{E:Env}{fr:Fr}{a:Act}
def LF{i:TI}{x:T}{vx:Value}{r:Prop×T×St}(h:loadT i s x=Z r)(a:aC g w x vx):∃ad,vx=.pointer (Z ad):=by cases a with|ptr o off b c=>exact⟨_,rfl⟩|lR=>exact⟨_,rfl⟩|jV=>exact⟨_,rfl⟩|_=>simp[loadT]at h
def Pf(tmps:Array Value):ResultVar->Sem Value
 | .tmp t=>pure (tmps.getD t undef)
 | .cell a t=>do loadVar t (<-asAddr (tmps.getD a undef))
def nP{E:Env}(k:yb E){fr:Fr}{s:St}{a:Act}(hf:cg g fr a w)(hs:aU g s w):∀{l:L ResultVar}{p:Prop}{ts:L T},jI E s fr l=Z (p,ts)->p->
  ∃vs,(l.mapM (Pf a.tmps)).run E.P w=.ok vs w∧PW (aC g w) ts vs
 |[],p,ts,h,d=>by simp only[jI,aV,bq]at h;obtain⟨_,rfl⟩:=h;exact⟨[],rfl,rfl,λj t v h=>by simp at h⟩
 | .tmp t::l,p,ts,h,d=>by
  simp only[jI]at h;split at h
  .rename_i x q r m n;simp only[aV,bq]at h;obtain⟨rfl,rfl⟩:=h;obtain⟨vs,h1,h2⟩:=nP k hf hs n d;obtain⟨v,o,f⟩:=hf.tm t x m;refine⟨v::vs,?_,by simp[h2.1],λj z A b c=>?_⟩
   .have e:(Pf a.tmps (.tmp t)).run E.P w=.ok v w:=by simp[Pf,RL,o]
    simp[List.mapM_cons,h1,e]
   .cases j with|zero=>simp at b c;subst b;subst c;exact f|succ j=>exact h2.2 j z A (by simpa using b) (by simpa using c)
  .cases h
 | .cell F t::l,p,ts,h,d=>by
  simp only[jI]at h;split at h
  .rename_i i x H m;split at h
   .rename_i q y M r N G n;simp only[aV,bq]at h;obtain⟨rfl,rfl⟩:=h;obtain⟨vs,h1,h2⟩:=nP k hf hs n d.2;obtain⟨v,o,f⟩:=hf.tm F x m;obtain⟨u,I,B,_⟩:=zR (k.ti _ _ H) hs f G d.1;obtain⟨K,rfl⟩:=LF G f;have C:(loadVar t K).run E.P w=.ok u w:=by simpa[Instr.loadAt,Instr.sureAddr]using I
    refine⟨u::vs,?_,by simp[h2.1],λj z A b c=>?_⟩
    .have e:(Pf a.tmps (.cell F t)).run E.P w=.ok u w:=by simp[Pf,RL,o,asAddr,C]
     simp[List.mapM_cons,h1,e]
    .cases j with|zero=>simp at b c;subst b;subst c;exact B|succ j=>exact h2.2 j z A (by simpa using b) (by simpa using c)
   .cases h
  .cases h
def IA(c:yb E)(hf:cg g fr a w)(hs:aU g s w){fn:Func}{p:Prop}{ts:L T}(h:jI E s fr fn.results.toList=Z (p,ts))(d:p) :
  ∃v,(results fn a.tmps).run E.P w=.ok v w∧aC g w (YH ts) v:=by
 obtain⟨b,h1,h2⟩:=nP c hf hs h d;refine⟨if h:b.toArray.size=1 then b.toArray[0]else .tuple b.toArray,?_,?_⟩
 .have e:results fn a.tmps=(do
    let b <-fn.results.mapM (Pf a.tmps)
    pure (if h:b.size=1 then b[0]else .tuple b)):=by
   unfold results
   congr 2
  rw[e];simp only[Array.mapM_eq_mapM_toList];simp[h1]
 .match ts,b,h2 with
  |[],[],_=>exact .fQ _ _ rfl (λj t v h=>by simp at h)
  |[t],[v],h2=>exact h2.2 0 t v rfl rfl
  |t::f::ts,v::i::b,h2=>simp only[YH,IW,gi];rw[dif_neg (by omega)];exact .fQ _ _ (by simpa using h2.1) (λj t v h3 h4=>h2.2 j t v h3 (by simpa using h4))
  |[],_::_,h2=>exact absurd h2.1 (by simp)
  |_::_,[],h2=>exact absurd h2.1 (by simp)
  |[_],_::_::_,h2=>exact absurd h2.1 (by simp)
  |_::_::_,[_],h2=>exact absurd h2.1 (by simp)
def CF:∀(l:L T)(k:Nat)(t:Tr T),k+l.length<=bg->∀j,(yQ l k t).get j=if k<=j∧j<k+l.length then l[j-k]? else t.get j
 |[],k,t,_,j=>by
  have:¬(k<=j∧j<k+([]:L T).length):=by simp
  rw[bK this];rfl
 |a::l,k,t,h,j=>by
  simp only[gi]at h;simp only[yQ];rw[CF l (k+1) _ (by omega),Tr.aO _ _ _ _ (by omega)];simp only[gi];by_cases h1:k+1<=j∧j<k+1+l.length
  .rw[aY h1,aY (by omega)];have:j-k=(j-(k+1))+1:=by omega
   rw[this];simp
  .rw[bK h1];by_cases h2:j=k
   .rw[aY h2,aY (by omega)];subst h2;simp
   .rw[bK h2,bK (by omega)]
end
end
section
inductive Ty where
 |int (k:IntKind)|bool|str
 |sl (e:Ty)
 |st (n:Nat)
 |cE (n:Nat)
 deriving Inhabited
def qI:Ty->Ty->Bool
 | .int j,.int k=>mG j k
 | .bool,.bool=>W
 | .str,.str=>W
 | .sl a,.sl b=>qI a b
 | .st m,.st n=>Nat.beq m n
 | .cE m,.cE n=>Nat.beq m n
 |_,_=>J
def fq{a:Ty}:∀{b:Ty},qI a b=W->a=b:=by
 induction a with
 |int j=>
  intro b h;cases b with
  |int k=>
   have:j=k:=by cases j<;>cases k<;>first|rfl|cases h
   rw[this]
  |_=>cases h
 |bool=>intro b h;cases b<;>first|rfl|cases h
 |str=>intro b h;cases b<;>first|rfl|cases h
 |sl e c=>
  intro b h;cases b with|sl f=>rw[c h]|_=>cases h
 |st m=>
  intro b h;cases b with|st n=>rw[mV h]|_=>cases h
 |cE m=>
  intro b h;cases b with|cE n=>rw[mV h]|_=>cases h
@[reducible] def den(A:Nat->Type):Ty->Type
 | .int _=>Int
 | .bool=>Bool
 | .str=>L UInt8
 | .sl e=>L (den A e)
 | .st n=>A n
 | .cE n=>A n
@[reducible] def kK(A:Nat->Type):L Ty->Type
 |[]=>U
 |t::l=>den A t×kK A l
@[reducible] def uI(A:Nat->Type):L (TypeId×Ty)->Type
 |[]=>U
 |p::l=>Sum (den A p.2) (uI A l)
def kV:L (TypeId×Ty)->Nat->Ty
 |[],_=>.bool
 |p::_,0=>p.2
 |_::l,i+1=>kV l i
def oA:L (TypeId×Ty)->TypeId->O Nat
 |[],_=>Y
 |p::l,t=>bif Nat.beq p.1 t then Z 0 else match oA l t with
  |some i=>Z (Nat.succ i)
  |none=>Y
def S4{A:Nat->Type}:(l:L (TypeId×Ty))->(i:Nat)->den A (kV l i)->uI A l
 |[],_,_=>()
 |_::_,0,x=>.inl x
 |_::l,i+1,x=>.inr (S4 l i x)
def Sx{A:Nat->Type}:(l:L (TypeId×Ty))->uI A l
 |[]=>()
 |_::l=>.inr (Sx l)
def isNil{A:Nat->Type}:(l:L (TypeId×Ty))->uI A l->Bool
 |[],_=>W
 |_::_,.inl _=>J
 |_::l,.inr y=>isNil l y
def g9{A:Nat->Type}:(l:L (TypeId×Ty))->Nat->uI A l->Bool
 |[],_,_=>J
 |_::_,0,.inl _=>W
 |_::_,0,.inr _=>J
 |_::_,_+1,.inl _=>J
 |_::l,i+1,.inr y=>g9 l i y
def iX{A:Nat->Type}(z:(t:Ty)->den A t):(l:L (TypeId×Ty))->(i:Nat)->uI A l->den A (kV l i)
 |[],_,_=>z .bool
 |_::_,0,.inl x=>x
 |p::_,0,.inr _=>z p.2
 |_::l,i+1,.inl _=>z (kV l i)
 |_::l,i+1,.inr y=>iX z l i y
structure Sg where
 A:Nat->Type
 fs:Nat->List Ty
 dfl:(n:Nat)->A n
 get:(n:Nat)->A n->kK A (fs n)
 SC:(n:Nat)->kK A (fs n)->A n
 cells:(n:Nat)->A n->List D
 alts:Nat->List (TypeId×Ty)
 rz:(n:Nat)->A n->uI A (alts n)
 imk:(n:Nat)->uI A (alts n)->A n
 oU:(n:Nat)->A n->Option (TypeId×D)
 pt:Ty
variable {S:Sg}
def Sg.zero(S:Sg):(t:Ty)->den S.A t
 | .int _=>(0:Int)
 | .bool=>J
 | .str=>([]:L UInt8)
 | .sl _=>[]
 | .st n=>S.dfl n
 | .cE n=>S.imk n (Sx (S.alts n))
def bD(s:L UInt8):ByteArray:=⟨s.toArray⟩
def ofBytes(b:ByteArray):L UInt8:=b.data.toList
def KO:O (TypeId×D)->D
 |none=>.lit .nilIface
 |some p=>.cE p.1 p.2
def enc(S:Sg):(t:Ty)->den S.A t->D
 | .int k,n=>.lit (.int k n)
 | .bool,b=>.lit (.bool b)
 | .str,s=>.lit (.string (bD s))
 | .sl e,l=>.sl (l.map (enc S e))
 | .st n,x=>.agg (S.cells n x)
 | .cE n,x=>KO (S.oU n x)
def fV(S:Sg):(ts:L Ty)->kK S.A ts->L D
 |[],_=>[]
 |t::l,x=>enc S t x.1::fV S l x.2
def iK:Ty->Bool|.st _=>W|_=>J
def Sg.width(S:Sg):Ty->Nat|.st n=>bU (S.fs n)|_=>1
inductive V(S:Sg) where
 |ty (t:Ty) (x:den S.A t)
 |kb (b:Bool)
 |kn (k:IntKind) (n:Int)
 |dat (d:D)
 |ptr (o off:Nat)
 |lR (t:Ty) (x:den S.A t) (off:Nat)
 |jV (o e i off:Nat)
 |sh (o e:Nat)
 |emp
 |ja (n:Nat) (t:Ty) (l:List (den S.A t))
 |fn (f:Fn) (first cap:List (V S))
 |cE (t:TypeId) (v:V S)
 |agg (cs:List (V S))
 |fQ (vs:List (V S))
 |gd (c:Bool) (v:V S)
 |mp (o:Nat)
 |pz (o:Nat)
 |qF (o:Nat)
 |ub (e:Bool)
 |pL (o m r i:Nat)
 |nk (n j:Nat) (x:S.A n)
inductive qE(S:Sg) where
 |call (f:V S) (args:List (V S))
 |mark (o:Nat)
 |marks (o:Nat)
 |jc
 |bad
structure bI(S:Sg) where
 n:Nat
 tm:Tr (V S)
 df:List (qE S):=[]
structure LpV(S:Sg) where
 st:LoopState
 sw:Option Code
 fid:FuncId
 fr:bI S
 params:List Nat
 assign:Code
 body:Code
inductive sj(S:Sg) where
 |box (cs:List (V S))
 |arr (t:Ty) (l:List (den S.A t)) (era:Nat)
 |jC (t:Ty) (l:List (den S.A t)) (era:Nat)
 |map (kt vt:Ty) (l:List (den S.A kt×den S.A vt))
 |DT (kt:Ty) (l:List (den S.A kt×V S))
 |oG (b:List UInt8) (pos:Nat)
 |lp (l:LpV S)
 |wE
 |jL (n j:Nat) (l:List (S.A n)) (era m gf:Nat) (hole:Option Nat)
 |rws (t:Ty) (gO:List (List (den S.A t))) (gf:Nat)
 |gone
 |Cj
structure aW(S:Sg) where
 ob:Tr (sj S)
 au:Nat
 fl:Nat
 lo:Nat
 wr:List Nat
 dr:List Nat
def bI.get(fr:bI S)(k:Nat):O (V S):=fr.tm.get k
def bI.put(fr:bI S)(k:Nat)(v:V S):bI S:={fr with tm:=fr.tm.set aA k v}
def bI.iO(fr:bI S)(k:O Nat)(v:V S):bI S:=match k with|some k=>fr.put k v|none=>fr
def xg:(ts:L Ty)->kK S.A ts->L (V S)
 |[],_=>[]
 |t::l,x=>.ty t x.1::xg l x.2
def sV:(t:Ty)->den S.A t->L (V S)
 | .st n,x=>xg (S.fs n) (S.get n x)
 | .int k,x=>[.ty (.int k) x]
 | .bool,x=>[.ty .bool x]
 | .str,x=>[.ty .str x]
 | .sl e,x=>[.ty (.sl e) x]
 | .cE n,x=>[.ty (.cE n) x]
def rJ:Value->O (V S)
 | .bool b=>Z (.kb b)
 | .int k n=>Z (.kn k n)
 | .slice Y 0 0=>Z .emp
 | .func f a b=>match a.toList,b.toList with
  |[],[]=>Z (.fn f [] [])
  |_,_=>Y
 | .iface t v=>(zN v).map λd=>.dat (.cE t d)
 | .string b=>Z (.ty .str (ofBytes b))
 |v=>(zN v).map .dat
def zeroV:D->V S
 | .lit (.bool b)=>.kb b
 | .lit (.int k n)=>.kn k n
 | .lit (.string b)=>.ty .str (ofBytes b)
 | .sl []=>.emp
 |d=>.dat d
def SQ:V S->Bool
 | .ty t _=>!(iK t)
 | .dat d=>d.leaf
 | .agg _|.fQ _|.gd _ _=>J
 |_=>W
def yN:L (V S)->Bool
 |[]=>W
 |v::l=>SQ v&&yN l
def tu(i:TI):V S->O (L (V S))
 | .agg a=>bif i.agg&&Nat.beq (bU a) i.size then Z a else Y
 | .ty (.st n) x=>bif i.agg&&Nat.beq (bU (S.fs n)) i.size then Z (xg (S.fs n) (S.get n x))else Y
 | .dat d=>bif i.agg then Y else bif Nat.beq i.size 1&&d.leaf then Z [.dat d]else Y
 | .fQ _|.gd _ _=>Y
 |v=>bif i.agg then Y else bif Nat.beq i.size 1 then Z [v]else Y
def w6(agg:Bool)(cs:L (V S)):O (V S):=
 bif agg then Z (.agg cs)else match cs with
  |[x]=>Z x
  |_=>Y
def bT(fr:bI S):Operand->O (V S)
 | .tmp k=>fr.get k
 | .const v=>rJ v
 | .global _=>Y
 | .func f=>Z (.fn (.func f) [] [])
def jw(fr:bI S):L Operand->O (L (V S))
 |[]=>Z []
 |x::l=>match bT fr x,jw fr l with
  |some t,Z r=>Z (t::r)
  |_,_=>Y
def kI(k:IntKind):V S->O Int
 | .kn j n=>bif mG j k then Z n else Y
 | .ty (.int j) x=>bif mG j k then Z x else Y
 |_=>Y
def o6:V S->O Bool
 | .kb b=>Z b
 | .ty .bool x=>Z x
 |_=>Y
def sK:V S->O (L UInt8)
 | .ty .str x=>Z x
 |_=>Y
def tA(t u:Ty)(x:den S.A t):O (den S.A u):=
 if h:qI t u=W then Z (fq h▸x)else Y
def mu(t u:Ty)(x:L (den S.A t)):O (L (den S.A u)):=
 if h:qI t u=W then Z (fq h▸x)else Y
def sB:(ts:L Ty)->kK S.A ts->Nat->(t:Ty)->den S.A t->kK S.A ts
 |[],h,_,_,_=>h
 | τ::_,h,0,t,y=>(match tA t τ y with|some z=>z|none=>h.1,h.2)
 |_::ts,h,j+1,t,y=>(h.1,sB ts h.2 j t y)
def cC:(ts:L Ty)->kK S.A ts->Nat->(t:Ty)->den S.A t
 |[],_,_,t=>S.zero t
 | τ::_,h,0,t=>match tA τ t h.1 with|some z=>z|none=>S.zero t
 |_::ts,h,j+1,t=>cC ts h.2 j t
def O8(n j:Nat)(t:Ty)(x:S.A n)(y:L (den S.A t)):S.A n:=S.SC n (sB (S.fs n) (S.get n x) j (.sl t) y)
def Er(n j:Nat)(t:Ty)(x:S.A n):L (den S.A t):=cC (S.fs n) (S.get n x) j (.sl t)
def wm(n j:Nat)(t:Ty)(l:L (S.A n)):L (L (den S.A t)):=l.map (Er n j t)
def iy(n j:Nat)(t:Ty)(l:L (S.A n))(gO:L (L (den S.A t))):L (S.A n):=List.zipWith (O8 n j t) l gO
def AE(S:Sg)(n j:Nat)(t:Ty):Bool:=match nth (S.fs n) j with|some u=>qI u (.sl t)|none=>J
def Iz(s:aW S)(m r:Nat):O ((t:Ty)×L (L (den S.A t))):=match s.ob.get m with
 |some (.rws t a b)=>bif Nat.beq r b then Z ⟨t,a⟩else Y
 |_=>Y
def Gt(s:aW S)(e:Ty):V S->O (L (den S.A e))
 | .emp=>Z []
 | .ja _ t l=>mu t e l
 | .nk n _ x=>mu (.st n) e [x]
 | .ty (.sl t) x=>mu t e x
 | .sh o r=>match s.ob.get o with
  |some (.arr t l era)|some (.jC t l era)=>bif Nat.beq r era then mu t e l else Y
  |_=>Y
 |_=>Y
mutual
def bH(s:aW S):(t:Ty)->V S->O (den S.A t×L Nat)
 |t,.ty u x=>match tA u t x with
  |some y=>Z (y,[])
  |none=>Y
 | .bool,.kb b=>Z (b,[])
 | .int k,.kn j n=>bif mG j k then Z (n,[])else Y
 | .sl _,.emp=>Z ([],[])
 | .sl e,.ja _ t l=>match mu t e l with
  |some l=>Z (l,[])
  |none=>Y
 | .sl e,.nk n _ x=>match mu (.st n) e [x]with
  |some l=>Z (l,[])
  |none=>Y
 | .sl e,.sh o r=>match s.ob.get o with
  |some (.arr t l era)=>bif Nat.beq r era then match mu t e l with|some l=>Z (l,[o])|none=>Y else Y
  |some (.jC t l era)=>bif Nat.beq r era then match mu t e l with|some l=>Z (l,[])|none=>Y else Y
  |some (.jL n j l era m c Y)=>match Iz s m c with
   |some ⟨t,a⟩=>bif Nat.beq r era&&(Nat.blt m bg&&AE S n j t)then match mu (.st n) e (iy n j t l a)with|some l=>Z (l,[o,m])|none=>Y else Y
   |none=>Y
  |_=>Y
 | .st n,.agg d=>match lW s (S.fs n) d with
  |some (h,os)=>Z (S.SC n h,os)
  |none=>Y
 | .cE n,.cE t v=>match oA (S.alts n) t with
  |some i=>match bH s (kV (S.alts n) i) v with
   |some (y,os)=>Z (S.imk n (S4 (S.alts n) i y),os)
   |none=>Y
  |none=>Y
 | .cE n,.dat (.lit .nilIface)=>Z (S.imk n (Sx (S.alts n)),[])
 |_,_=>Y
def lW(s:aW S):(ts:L Ty)->L (V S)->O (kK S.A ts×L Nat)
 |[],[]=>Z ((),[])
 |t::ts,v::l=>match bH s t v,lW s ts l with
  |some (x,os),Z (h,a)=>Z ((x,h),os++a)
  |_,_=>Y
 |_,_=>Y
end
def cY(s:aW S):L Nat->O (aW S)
 |[]=>Z s
 |o::l=>
  bif Nat.ble s.fl o then match s.ob.get o with
   |some (.arr t a era)=>cY {s with ob:=s.ob.set aA o (.jC t a era),wr:=o::s.wr} l
   |some (.jC _ _ _)=>cY s l
   |some (.jL n j a era m r Y)=>match Iz s m r with
    |some ⟨t,b⟩=>bif l.contains m&&(Nat.ble s.fl m&&(Nat.blt m bg&&AE S n j t))then cY {s with ob:=(s.ob.set aA m .gone).set aA o (.jC (.st n) (iy n j t a b) era),wr:=o::m::s.wr} l else Y
    |none=>Y
   |some (.rws ..)=>cY s l
   |some .gone=>cY s l
   |_=>Y
  else Y
def cJ(s:aW S)(o:sj S):aW S:={s with ob:=s.ob.set aA s.au o,au:=Nat.succ s.au}
def fO(a b:L UInt8):Bool:=a==b
def eZ{α:Type}(l:L α)(lo a:Int):L α:=(l.take a.toNat).drop lo.toNat
def aj{α:Type}(l:L α):Int:=l.length
def kA(b:L UInt8)(n:Int):Int:=(b.getD n.toNat 0).toNat
def dj{α:Type}(a b:L α):L α:=a++b
def az{α:Type}(n:Int)(l:L α):Bool:=decide (0<=n)&&decide (n<l.length)
def ef{α:Type}(k:Nat)(l:L α):Bool:=decide (k<l.length)
def iz(lo a len:Int):Bool:=decide (0<=lo)&&(decide (lo<=a)&&decide (a<=len))
def WW(a b:L UInt8):Bool:=decide (a.length+b.length<=4611686018427387904)
def dR{α:Type}(a b:L α):Bool:=decide (a.length+b.length<=17179869184)
def nzI(a:Int):Bool:=decide (a≠0)
def aT{α:Type}(l:L α)(k:Nat)(z:α):α:=l.getD k z
def jP{α:Type}(l:L α)(k:Nat)(x:α):L α:=l.set k x
def V5{α β:Type}(l:L α)(m:L β):Bool:=decide (l.length=m.length)
def Ta{α:Type}(k:Nat)(l:L α)(h i:Nat):Bool:=decide (k<l.length)&&(Nat.beq k h&&Nat.beq i h)
def kT(a b:Int):Bool:=decide (a=b)
def ai(n:Int):Nat:=n.toNat
abbrev oC(S:Sg):=O (Bool×V S×aW S)
def A4:Lk->V S->V S->O Bool
 | .int k,a,b=>match kI k a,kI k b with
  |some x,Z y=>Z (D.aH x y)
  |_,_=>Y
 | .bool,a,b=>match o6 a,o6 b with
  |some x,Z y=>Z (D.beq x y)
  |_,_=>Y
 | .str,a,b=>match sK a,sK b with
  |some x,Z y=>Z (fO x y)
  |_,_=>Y
 | .no,_,_=>Y
def jr:L Lk->L (V S)->L (V S)->O Bool
 |[],[],[]=>Z W
 |k::c,a::as,b::d=>match A4 k a b,jr c as d with
  |some x,Z y=>Z (D.eJ x y)
  |_,_=>Y
 |_,_,_=>Y
def TF:V S->V S->O Bool
 | .dat (.lit (.pointer Y)),.ptr _ _=>Z J
 | .ptr _ _,.dat (.lit (.pointer Y))=>Z J
 |_,_=>Y
def TG:V S->V S->O Bool
 | .dat (.lit .nilIface),.cE _ _=>Z J
 | .cE _ _,.dat (.lit .nilIface)=>Z J
 |_,_=>Y
def WZ(i:TI)(a b:V S):O Bool:=
 bif i.agg then match i.lks,tu i a,tu i b with
  |[],_,_=>Y
  |k::c,Z as,Z d=>jr (k::c) as d
  |_,_,_=>Y
 else match i.kd with
  | .leaf k=>A4 k a b
  | .ptr=>TF a b
  | .iface=>TG a b
  |_=>Y
def W7(op:BinOp)(k:IntKind)(m n:Int):O (V S):=
 match op with
 | .lss=>Z (.ty .bool (D.bM m n))
 | .leq=>Z (.ty .bool (D.eu m n))
 | .gtr=>Z (.ty .bool (D.bM n m))
 | .geq=>Z (.ty .bool (D.eu n m))
 | .add=>Z (.ty (.int k) (D.add k m n))
 | .sub=>Z (.ty (.int k) (D.eD k m n))
 | .mul=>Z (.ty (.int k) (D.mul k m n))
 |_=>Y
def W4(op:BinOp)(k:IntKind)(m n:Int):O (V S):=
 match op with
 | .rem=>Z (.ty (.int k) (D.rem m n))
 | .quo=>Z (.ty (.int k) (D.quo k m n))
 |_=>Y
def Du(i:TI)(op:BinOp)(a b:V S):O (Bool×V S):=
 match op with
 | .eql=>(WZ i a b).map λr=>(W,.ty .bool r)
 | .neq=>(WZ i a b).map λr=>(W,.ty .bool (D.aK r))
 |op=>match i.kd with
  | .leaf (.int k)=>match kI k a,kI k b with
   |some m,Z n=>match W7 op k m n with
    |some d=>Z (W,d)
    |none=>(W4 op k m n).map λd=>(nzI n,d)
   |_,_=>Y
  | .leaf .str=>match op,sK a,sK b with
   | .add,Z m,Z n=>Z (WW m n,.ty .str (dj m n))
   |_,_,_=>Y
  |_=>Y
def HQ(s:aW S)(o e:Nat):O ((t:Ty)×L (den S.A t)):=
 match s.ob.get o with
 |some (.arr t l era)=>bif Nat.beq e era then Z ⟨t,l⟩else Y
 |some (.jC t l era)=>bif Nat.beq e era then Z ⟨t,l⟩else Y
 |_=>Y
def Vj(τ:O Ty)(t:Ty):Bool:=match τ with|some u=>qI u t|none=>J
def I8(i:TI)(τ:O Ty)(t:Ty)(x:den S.A t)(off:Nat):O (V S):=
 bif Nat.beq off 0&&Vj τ t then Z (.ty t x)
 else
  bif Nat.ble (Nat.add off i.size) (S.width t)then w6 i.agg (((sV t x).drop off).take i.size)else Y
def lU:V S:=.dat (.lit (.tuple #[]))
def u0(i:TI)(τ:O Ty)(s:aW S):V S->oC S
 | .ptr o off=>match s.ob.get o with
  |some (.box a)=>
   let l:=(a.drop off).take i.size
   bif Nat.beq (bU l) i.size then(w6 i.agg l).map λt=>(W,t,s)else Y
  |_=>Y
 | .lR t x off=>(I8 i τ t x off).map λv=>(W,v,s)
 | .jV o e k off=>match HQ s o e with
  |some ⟨t,l⟩=>(I8 i τ t (aT l k (S.zero t)) off).map λv=>(ef k l,v,s)
  |none=>Y
 |_=>Y
def Sg.lM(S:Sg):Ty->L Ty
 | .st n=>S.fs n
 |t=>[t]
def sQ:(t:Ty)->kK S.A (S.lM t)->den S.A t
 | .st n,h=>S.SC n h
 | .int _,h=>h.1
 | .bool,h=>h.1
 | .str,h=>h.1
 | .sl _,h=>h.1
 | .cE _,h=>h.1
def Bl(i:TI)(s:aW S)(a x:V S):oC S:=
 match tu i x with
 |none=>Y
 |some l=>match a with
  | .ptr o off=>match s.ob.get o with
   |some (.box d)=>
    bif Nat.ble s.fl o&&(Nat.ble (Nat.add off (bU l)) (bU d)&&yN l)then
     Z (W,lU,{s with ob:=s.ob.set aA o (.box (d.take off++l++d.drop (Nat.add off (bU l)))),wr:=o::s.wr})
    else Y
   |_=>Y
  | .jV o e k off=>match s.ob.get o with
   |some (.arr t _ _)=>match lW s ((S.lM t).drop off |>.take (bU l)) l with
    |some (_,os)=>match cY s os with
     |some b=>match b.ob.get o with
      |some (.arr t c era)=>match lW s (S.lM t) ((sV t (aT c k (S.zero t))).take off++l++(sV t (aT c k (S.zero t))).drop (Nat.add off (bU l)))with
       |some (h,_)=>
        bif Nat.ble b.fl o&&(Nat.beq e era&&(Nat.ble (Nat.add off (bU l)) (S.width t)&&(Nat.ble 1 (bU l)&&yN l)))then
         Z (ef k c,lU,{b with ob:=b.ob.set aA o (.arr t (jP c k (sQ t h)) era),wr:=o::b.wr})
        else Y
       |none=>Y
      |_=>Y
     |none=>Y
    |none=>Y
   |_=>Y
  |_=>Y
def FF(place:Nat->O (Nat×TI))(cells:L (V S)):L (Nat×V S)->O (L (V S))
 |[]=>Z cells
 |(k,v)::a=>match place k with
  |none=>Y
  |some (off,i)=>match tu i v with
   |none=>Y
   |some l=>
    bif Nat.ble (Nat.add off (bU l)) (bU cells)&&yN l then FF place (cells.take off++l++cells.drop (Nat.add off (bU l))) a else Y
def gW(fr:bI S):L (Nat×Operand)->O (L (Nat×V S))
 |[]=>Z []
 |(k,x)::l=>match bT fr x,gW fr l with
  |some t,Z r=>Z ((k,t)::r)
  |_,_=>Y
def lB(s:aW S)(e:Ty)(es:L (den S.A e)):L (Nat×V S)->O (L (den S.A e)×L Nat)
 |[]=>Z (es,[])
 |(k,v)::a=>match bH s e v with
  |none=>Y
  |some (x,os)=>
   bif Nat.blt k (bU es)then
    match lB s e (es.set k x) a with
    |some (r,b)=>Z (r,os++b)
    |none=>Y
   else Y
def GQ(fr:bI S):O Operand->O (O (V S))
 |none=>Z Y
 |some x=>(bT fr x).map Z
def ze(dflt:Int):O (V S)->O Int
 |none=>Z dflt
 |some t=>kI .i64 t
def I9:V S->L Nat
 | .sh o _=>[o]
 |_=>[]
def sL(i:TI)(τ:O Ty)(s:aW S)(v:V S)(l h m:O (V S)):oC S:=
 match τ,ze 0 l with
 |some .str,Z lo=>match i.kd,sK v,m with
  | .leaf .str,Z b,Y=>match ze (aj b) h with
   |some a=>Z (iz lo a (aj b),.ty .str (eZ b lo a),s)
   |none=>Y
  |_,_,_=>Y
 |some (.sl e),Z lo=>match i.kd,Gt s e v,cY s (I9 v)with
  | .slice _ _ _ _,Z c,Z d=>match ze (aj c) h,m,h with
   |some a,Y,_=>Z (iz lo a (aj c),.ty (.sl e) (eZ c lo a),d)
   |some a,Z y,Z _=>match y with
    | .kn .i64 0=>Z (kT lo 0&&kT a 0,.emp,s)
    |y=>match kI .i64 y with
     |some f=>Z (iz lo a (aj c)&&kT f a,.ja 0 e (eZ c lo a),d)
     |none=>Y
   |_,_,_=>Y
  |_,_,_=>Y
 |_,_=>Y
def T4:V S->O (O Bool×Bool)
 | .gd g v=>match o6 v with
  |some y=>Z (Z g,y)
  |none=>Y
 | .kb b=>Z (Y,b)
 | .ty .bool x=>Z (Y,x)
 |_=>Y
def orT(g:O Bool):Bool:=match g with|some g=>g|none=>W
def Sn(c a b:V S):O (Bool×V S):=
 match c with
 | .kb u=>match T4 (bif u then a else b)with
  |some (p,y)=>Z (orT p,.ty .bool y)
  |none=>Y
 |c=>match o6 c,T4 a,T4 b with
  |some t,Z (p,x),Z (q,y)=>Z (bif t then orT p else orT q,.ty .bool (D.aej t x y))
  |_,_,_=>Y
def iV(i:TI)(τ:O Ty)(s:aW S)(x a:V S):oC S:=
 match i.kd,τ,kI .i64 a with
 | .slice _ _ _ _,Z (.sl e),Z n=>match x with
  | .sh o r=>match HQ s o r with
   |some ⟨t,l⟩=>bif qI t e then Z (az n l,.jV o r (ai n) 0,s)else Y
   |none=>Y
  |v=>match Gt s e v with
   |some l=>Z (az n l,.lR e (aT l (ai n) (S.zero e)) 0,s)
   |none=>Y
 |_,_,_=>Y
def oe(i:TI)(s:aW S)(k:Nat)(x:V S):oC S:=
 match i.kd with
 | .struct a=>match nth a k with
  |some (off,size,_)=>bif Nat.beq size 0 then Y else match x with
   | .ptr o b=>Z (W,.ptr o (Nat.add b off),s)
   | .lR t d b=>Z (W,.lR t d (Nat.add b off),s)
   | .jV o e j b=>Z (W,.jV o e j (Nat.add b off),s)
   |_=>Y
  |none=>Y
 |_=>Y
def yY(i:TI)(s:aW S)(k:Nat)(x:V S):oC S:=
 match i.kd with
 | .struct a=>match nth a k,tu i x with
  |some (off,size,b),Z c=>
   let l:=(c.drop off).take size
   bif Nat.beq (bU l) size&&!(Nat.beq size 0)then(w6 b l).map λt=>(W,t,s)else Y
  |_,_=>Y
 |_=>Y
def yR(i:TI)(s:aW S)(x a:V S):oC S:=
 match i.kd,kI .i64 a,sK x with
 | .leaf .str,Z n,Z b=>Z (az n b,.ty (.int .u8) (kA b n),s)
 |_,_,_=>Y
def A7(i:TI)(s:aW S)(t:TypeId)(ok:Bool)(x:V S):oC S:=
 match i.kd,x,ok with
 | .iface,_,_=>Y
 |_,.cE u v,W=>bif Nat.beq u t then Z (W,.fQ [v,.kb W],s)else
   (w6 i.agg (i.zero.map zeroV)).map λz=>(W,.fQ [z,.kb J],s)
 |_,.cE u v,J=>bif Nat.beq u t then Z (W,v,s)else Y
 |_,_,_=>Y
def unV(i:TI)(op:UnOp)(v:V S):O (V S):=
 match op,i.kd with
 | .not,.leaf .bool=>(o6 v).map λb=>.ty .bool (D.aK b)
 | .neg,.leaf (.int k)=>(kI k v).map λn=>.ty (.int k) (D.neg k n)
 |_,_=>Y
def Oo(i j:TI)(s:aW S)(v:V S):oC S:=
 match i.kd,j.kd with
 | .leaf (.int k),.leaf (.int l)=>(kI k v).map λn=>(W,.ty (.int l) (D.conv l n),s)
 | .leaf .str,.leaf .str=>(sK v).map λ_=>(W,v,s)
 |_,_=>Y
def xC(s:aW S)(k:Nat):V S->oC S
 | .fQ a=>(nth a k).map λt=>(W,t,s)
 |_=>Y
structure MT where
 kt:Ty
 vt:Option Ty
 el:TypeId
structure fX where
 E:Env
 ty:Nat->Option Ty
 mt:Nat->Option MT:=λ_=>Y
 GV:Nat->String->Option FuncId:=λ_ _=>Y
 nst:Nat->Option Nat:=λ_=>Y
def bV(E:fX)(fr:bI S)(s:aW S)(o:Op):oC S:=
 match o with
 | .move x=>(bT fr x).map λt=>(W,t,s)
 | .assign x=>(bT fr x).map λt=>(W,t,s)
 | .pick c a b=>match bT fr c,bT fr a,bT fr b with
  |some c,Z a,Z b=>(Sn c a b).map λ(p,t)=>(p,t,s)
  |_,_,_=>Y
 | .alloc t=>match E.E.ti t with
  |some i=>bif Nat.blt s.au bg then Z (W,.ptr s.au 0,cJ s (.box (i.zero.map zeroV)))else Y
  |none=>Y
 | .box t x=>match E.E.ti t,bT fr x with
  |some i,Z v=>bif Nat.blt s.au bg then(tu i v).map λg=>(W,.ptr s.au 0,cJ s (.box g))else Y
  |_,_=>Y
 | .build t parts=>match E.E.ti t,gW fr parts.toList with
  |some i,Z q=>match i.kd with
   | .struct w=>(FF (λk=>match nth w k with|some (off,size,z)=>Z (off,{(default:TI)with size:=size,agg:=z})|none=>Y) (i.zero.map zeroV) q).map
     λg=>(W,.agg g,s)
   |_=>Y
  |_,_=>Y
 | .buildSlice t len parts=>match E.E.ti t,E.ty t,gW fr parts.toList with
  |some i,Z (.sl e),Z q=>match i.kd with
   | .slice sz _ _ _=>
    bif Nat.ble (Nat.mul len sz) 16777216 then
     match lB s e (List.replicate len (S.zero e)) q with
     |some (A,os)=>(cY s os).map λs=>(W,.ja len e A,s)
     |none=>Y
    else Y
   |_=>Y
  |_,_,_=>Y
 | .load t a=>match E.E.ti t,bT fr a with
  |some i,Z a=>u0 i (E.ty t) s a
  |_,_=>Y
 | .store t a x=>match E.E.ti t,bT fr a,bT fr x with
  |some i,Z a,Z x=>Bl i s a x
  |_,_,_=>Y
 | .nilCheck x=>match bT fr x with
  |some (.ptr o b)=>Z (W,.ptr o b,s)
  |some (.lR t d b)=>Z (W,.lR t d b,s)
  |some (.jV o e j b)=>Z (W,.jV o e j b,s)
  |some (.cE t v)=>Z (W,.cE t v,s)
  |some (.fn (.func f) a b)=>Z (W,.fn (.func f) a b,s)
  |_=>Y
 | .binOp op t x y _=>match E.E.ti t,bT fr x,bT fr y with
  |some i,Z a,Z b=>(Du i op a b).map λ(p,d)=>(p,d,s)
  |_,_,_=>Y
 | .unOp op t x=>match E.E.ti t,bT fr x with
  |some i,Z v=>(unV i op v).map λd=>(W,d,s)
  |_,_=>Y
 | .convert src r x=>match E.E.ti src,E.E.ti r,bT fr x with
  |some i,Z j,Z v=>Oo i j s v
  |_,_,_=>Y
 | .makeInterface t x=>match E.E.ti t,bT fr x with
  |some i,Z v=>match i.kd with
   | .iface=>Y
   |_=>Z (W,.cE t v,s)
  |_,_=>Y
 | .makeFunc f first cap=>match jw fr first.toList,jw fr cap.toList with
  |some a,Z b=>Z (W,.fn f a b,s)
  |_,_=>Y
 | .extract x k=>match bT fr x with
  |some v=>xC s k v
  |none=>Y
 | .fieldAddr t x k=>match E.E.ti t,bT fr x with
  |some i,Z v=>oe i s k v
  |_,_=>Y
 | .field t x k=>match E.E.ti t,bT fr x with
  |some i,Z v=>yY i s k v
  |_,_=>Y
 | .indexAddr t x u=>match E.E.ti t,bT fr x,bT fr u with
  |some i,Z v,Z n=>iV i (E.ty t) s v n
  |_,_,_=>Y
 | .index t x u=>match E.E.ti t,bT fr x,bT fr u with
  |some i,Z v,Z n=>yR i s v n
  |_,_,_=>Y
 | .slice t x lo B C=>match E.E.ti t,bT fr x,GQ fr lo,GQ fr B,GQ fr C with
  |some i,Z v,Z l,Z h,Z m=>sL i (E.ty t) s v l h m
  |_,_,_,_,_=>Y
 | .typeAssert x _ t ok=>match E.E.ti t,bT fr x with
  |some i,Z v=>A7 i s t ok v
  |_,_=>Y
 |_=>Y
def SU:(a:Ty)->V S->O (den S.A a)
 | .int k,v=>kI k v
 | .bool,v=>o6 v
 | .str,v=>sK v
 |_,_=>Y
def Fu{A:Nat->Type}:(c:Ty)->den A c->den A c->Bool
 | .int _,a,b=>D.aH a b
 | .bool,a,b=>D.beq a b
 | .str,a,b=>fO a b
 |_,_,_=>J
def Ct{A:Nat->Type}{β:Type}(a:Ty)(z:β)(k:den A a):L (den A a×β)->β
 |[]=>z
 |p::l=>bif Fu a k p.1 then p.2 else Ct a z k l
def yT{A:Nat->Type}{β:Type}(a:Ty)(k:den A a):L (den A a×β)->Bool
 |[]=>J
 |p::l=>bif Fu a k p.1 then W else yT a k l
def lz{A:Nat->Type}{β:Type}(a:Ty)(k:den A a)(x:β):L (den A a×β)->L (den A a×β)
 |[]=>[(k,x)]
 |p::l=>bif Fu a k p.1 then(k,x)::l else p::lz a k x l
def Ac(c d a b:Ty)(l:L (den S.A c×den S.A d)):O (L (den S.A a×den S.A b)):=
 if h:qI c a=W then if e:qI d b=W then Z (fq h▸fq e▸l)else Y else Y
def J5{β:Type}(b a:Ty)(l:L (den S.A b×β)):O (L (den S.A a×β)):=
 if h:qI b a=W then Z (fq h▸l)else Y
def SE(s:aW S)(a b:Ty):V S->O (L (den S.A a×den S.A b))
 | .mp o=>match s.ob.get o with
  |some (.map k v l)=>Ac k v a b l
  |_=>Y
 | .dat (.lit (.map Y))=>Z []
 |_=>Y
def U8{α:Type}(l:L α):Bool:=match l with|[]=>W|_::_=>J
def VW(n:Int):Bool:=decide (0<=n)&&decide (n<=17179869184)
def Ls(pos:Nat)(b:L UInt8):Bool:=decide (pos<b.length)
def rX(b:L UInt8)(pos:Nat):Int:=((Utf8.decode (bD b) pos).1:Nat)
def DY(b:L UInt8)(pos:Nat):Nat:=(Utf8.decode (bD b) pos).2
def JA(fr:bI S):O Operand->Bool
 |none=>W
 |some x=>match bT fr x with
  |some (.kn _ _)=>W
  |some (.ty (.int _) _)=>W
  |_=>J
def qm(E:fX)(fr:bI S)(s:aW S)(o:Op):oC S:=
 match o with
 | .makeMap t r=>bif Nat.blt s.au bg&&JA fr r then match E.mt t with
  |some m=>match m.vt with
   |some a=>Z (W,.mp s.au,cJ s (.map m.kt a []))
   |none=>Z (W,.mp s.au,cJ s (.DT m.kt []))
  |none=>Y
  else Y
 | .lookup t x d ok=>match E.mt t,bT fr x,bT fr d with
  |some m,Z x,Z k=>match m.vt with
   |some a=>match SU m.kt k,SE s m.kt a x with
    |some k,Z l=>Z (W,bif ok then .fQ [.ty a (Ct m.kt (S.zero a) k l),.ty .bool (yT m.kt k l)]else .ty a (Ct m.kt (S.zero a) k l),s)
    |_,_=>Y
   |none=>Y
  |_,_,_=>Y
 | .mapUpdate t x d y|.insert t x d y=>match E.mt t,bT fr x,bT fr d,bT fr y with
  |some m,Z (.mp o),Z k,Z y=>match SU m.kt k,s.ob.get o with
   |some k,Z (.map f a l)=>match Ac f a m.kt a l,bH s a y with
    |some l,Z (y,os)=>match cY s os with
     |some g=>bif Nat.ble s.fl o&&Vj m.vt a then Z (W,lU,{g with ob:=g.ob.set aA o (.map m.kt a (lz m.kt k y l)),wr:=o::g.wr})else Y
     |none=>Y
    |_,_=>Y
   |some k,Z (.DT f l)=>match J5 f m.kt l with
    |some l=>bif Nat.ble s.fl o then Z (W,lU,{s with ob:=s.ob.set aA o (.DT m.kt (lz m.kt k y l)),wr:=o::s.wr})else Y
    |none=>Y
   |_,_=>Y
  |_,_,_,_=>Y
 | .makeSlice t n c=>match E.E.ti t,E.ty t,bT fr n,bT fr c with
  |some i,Z (.sl e),Z n,Z c=>match i.kd,kI .i64 n,kI .i64 c with
   | .slice _ _ _ _,Z n,Z c=>bif Nat.blt s.au bg then Z (VW n&&kT c n,.sh s.au 0,cJ s (.arr e (List.replicate (ai n) (S.zero e)) 0))else Y
   |_,_,_=>Y
  |_,_,_,_=>Y
 | .range t x=>match E.E.ti t,bT fr x with
  |some i,Z x=>match i.kd,sK x with
   | .leaf .str,Z b=>bif Nat.blt s.au bg then Z (W,.qF s.au,cJ s (.oG b 0))else Y
   |_,_=>Y
  |_,_=>Y
 | .binOp .eql t x (.const .nilIface) _=>match E.E.ti t,bT fr x with
  |some i,Z (.ty (.cE n) y)=>match i.kd with
   | .iface=>Z (W,.ty .bool (isNil (S.alts n) (S.rz n y)),s)
   |_=>Y
  |some i,Z (.dat (.lit .nilIface))=>match i.kd with
   | .iface=>Z (W,.kb W,s)
   |_=>Y
  |_,_=>Y
 | .binOp .neq t x (.const .nilIface) _=>match E.E.ti t,bT fr x with
  |some i,Z (.ty (.cE n) y)=>match i.kd with
   | .iface=>Z (W,.ty .bool (D.aK (isNil (S.alts n) (S.rz n y))),s)
   |_=>Y
  |some i,Z (.dat (.lit .nilIface))=>match i.kd with
   | .iface=>Z (W,.kb J,s)
   |_=>Y
  |_,_=>Y
 | .binOp .eql t x (.const (.slice Y 0 0)) _=>match E.E.ti t,E.ty t,bT fr x with
  |some i,Z (.sl e),Z x=>match i.kd,Gt s e x with
   | .slice _ _ _ _,Z l=>Z (W,.ub (U8 l),s)
   |_,_=>Y
  |_,_,_=>Y
 | .nilCheck x=>match bT fr x with
  |some (.ty (.cE n) y)=>Z (D.aK (isNil (S.alts n) (S.rz n y)),.ty (.cE n) y,s)
  |_=>Y
 | .typeAssert x _ t ok=>match E.E.ti t,E.ty t,bT fr x with
  |some i,Z τ,Z (.ty (.cE n) y)=>match i.kd,oA (S.alts n) t with
   | .iface,_=>Y
   |_,Z j=>bif qI (kV (S.alts n) j) τ then
     let v:V S:=.ty (kV (S.alts n) j) (iX S.zero (S.alts n) j (S.rz n y))
     let b:=g9 (S.alts n) j (S.rz n y)
     bif ok then Z (W,.fQ [v,.ty .bool b],s)else Z (b,v,s)
    else Y
   |_,Y=>bif ok then Z (W,.fQ [.ty τ (S.zero τ),.kb J],s)else Y
  |_,_,_=>Y
 | .build t parts=>match E.E.ti t,gW fr parts.toList with
  |some i,Z h=>match i.kd with
   | .array _ sz p=>(FF (λk=>Z (Nat.mul k sz,{(default:TI)with size:=sz,agg:=p})) (i.zero.map zeroV) h).map λq=>(W,.agg q,s)
   |_=>Y
  |_,_=>Y
 |_=>Y
def isNone{α:Type}:O α->Bool|none=>W|some _=>J
def yG(E:fX)(fr:bI S)(s:aW S)(o:Op):oC S:=
 match o with
 | .indexAddr t x g=>match bT fr x with
  |some (.sh o r)=>match s.ob.get o with
   |some (.jL n _ l era _ _ _)=>match E.E.ti t,E.ty t,bT fr g with
    |some i,Z (.sl (.st p)),Z k=>match i.kd,kI .i64 k with
     | .slice _ _ _ _,Z k=>bif Nat.beq r era&&Nat.beq n p then Z (az k l,.jV o r (ai k) 0,s)else Y
     |_,_=>Y
    |_,_,_=>Y
   |_=>Y
  |_=>Y
 | .load t a=>match bT fr a with
  |some (.jV o e k off)=>match s.ob.get o with
   |some (.jL n j l era m b hole)=>match E.E.ti t with
    |some i=>bif Nat.beq e era then
      bif Nat.beq off j then
       bif Nat.beq i.size 1&&(!i.agg&&(isNone hole&&Nat.blt j (S.width (.st n))))then Z (ef k l,.pL o m b k,s)else Y
      else bif Nat.ble (Nat.add off i.size) j||Nat.blt j off then(I8 i Y (.st n) (aT l k (S.zero (.st n))) off).map λv=>(ef k l,v,s)else Y
     else Y
    |none=>Y
   |_=>Y
  |_=>Y
 | .store t a (.tmp c)=>match bT fr a,fr.get c with
  |some (.jV o e k off),Z (.pL q u r i)=>match s.ob.get o with
   |some (.jL n j l era m b (Z h))=>match E.E.ti t with
    |some d=>bif (Nat.beq e era&&(Nat.beq off j&&(Nat.beq q o&&(Nat.beq u m&&(Nat.beq r b&&(Nat.beq d.size 1&&(!d.agg&&(Nat.ble s.fl o&&(Nat.blt j (S.width (.st n))&&Nat.blt c bg)))))))))then
      Z (Ta k l h i,lU,{s with ob:=s.ob.set aA o (.jL n j l era m b Y),wr:=o::s.wr})
     else Y
    |none=>Y
   |_=>Y
  |_,_=>Y
 | .buildSlice t len parts=>match parts.toList with
  |[(0,.tmp c)]=>match E.E.ti t,E.ty t,fr.get c with
   |some i,Z (.sl (.st n)),Z (.agg f)=>match E.nst n with
    |some j=>match i.kd,nth f j with
     | .slice sz _ _ _,Z .emp=>bif Nat.beq len 1&&(Nat.ble sz 16777216&&Nat.blt c bg)then match bH s (.st n) (.agg f)with
      |some (x,os)=>(cY s os).map λs=>(W,.nk n j x,s)
      |none=>Y
      else Y
     |_,_=>Y
    |none=>Y
   |_,_,_=>Y
  |[]=>match E.E.ti t,E.ty t with
   |some i,Z (.sl _)=>match i.kd with
    | .slice _ _ _ _=>bif Nat.beq len 0 then Z (W,.emp,s)else Y
    |_=>Y
   |_,_=>Y
  |_=>Y
 |_=>Y
def w8(E:fX)(fr:bI S)(s:aW S)(o:Op):oC S:=match yG E fr s o with
 |some r=>Z r
 |none=>match bV E fr s o with
  |some r=>Z r
  |none=>qm E fr s o
def wv(n:Int)(ag:Bool)(sz:Nat)(cs:L (V S))(s:aW S):L Nat->L (Bool×V S×aW S)
 |[]=>[]
 |j::l=>match bif Nat.beq (bU ((cs.drop (Nat.mul j sz)).take sz)) sz&&Nat.blt 0 sz then w6 ag ((cs.drop (Nat.mul j sz)).take sz)else Y with
  |some v=>(kT n (Int.ofNat j),v,s)::wv n ag sz cs s l
  |none=>[]
def Fj(E:fX)(fr:bI S)(s:aW S)(o:Op):O (L (Bool×V S×aW S)×Bool×V S×aW S):=
 match o with
 | .next d W=>match bT fr d with
  |some (.qF o)=>match s.ob.get o with
   |some (.oG b pos)=>bif Nat.ble s.fl o then
     Z ([(Ls pos b,.fQ [.kb W,.ty (.int .i64) (Int.ofNat pos),.ty (.int .i32) (rX b pos)],{s with ob:=s.ob.set aA o (.oG b (Nat.add pos (DY b pos))),wr:=o::s.wr})],W,.fQ [.kb J],s)
    else Y
   |_=>Y
  |_=>Y
 | .lookup t x a ok=>match E.mt t,bT fr x,bT fr a with
  |some m,Z (.mp o),Z k=>match s.ob.get o,SU m.kt k,E.E.ti m.el with
   |some (.DT e l),Z k,Z i=>match J5 e m.kt l,w6 i.agg (i.zero.map zeroV)with
    |some l,Z z=>Z (l.map λp=>(Fu m.kt k p.1,bif ok then .fQ [p.2,.kb W]else p.2,s),W,bif ok then .fQ [z,.kb J]else z,s)
    |_,_=>Y
   |_,_,_=>Y
  |_,_,_=>Y
 | .index t x a=>match E.E.ti t,bT fr x,bT fr a with
  |some i,Z (.agg c),Z k=>match i.kd,kI .i64 k with
   | .array len sz f,Z n=>bif Nat.beq (bU c) i.size then Z (wv n f sz c s (List.range len),J,lU,s)else Y
   |_,_=>Y
  |_,_,_=>Y
 |_=>Y
def A8(i:TI)(e:Ty)(s:aW S)(x y:V S):oC S:=
 bif !(Nat.blt s.au bg)then Y else
 match i.kd,Gt s e y with
 | .slice _ _ _ _,Z new=>
  match x with
  | .emp=>Z (W,.sh s.au 0,cJ s (.arr e new 0))
  | .ja _ t a=>match mu t e a with
   |some a=>match y with
    | .ja (_+1) _ _=>Z (dR a new,.sh s.au 0,cJ s (.arr e (dj a new) 0))
    |_=>Z (dR a new,.ty (.sl e) (dj a new),s)
   |none=>Y
  | .sh o r=>match s.ob.get o with
   |some (.arr t a era)=>match mu t e a with
    |some a=>
     bif Nat.ble s.fl o&&(Nat.beq r era&&!(I9 y).contains o)then
      Z (dR a new,.sh o (Nat.succ era),{s with ob:=s.ob.set aA o (.arr e (dj a new) (Nat.succ era)),wr:=o::s.wr})
     else Y
    |none=>Y
   |_=>Y
  |_=>Y
 |_,_=>Y
def eL(E:fX)(s:aW S)(b:Builtin)(argTypes:Array TypeId)(args:L (V S)):oC S:=
 match b,args with
 | .len,[x]=>match(nth argTypes.toList 0).bind E.E.ti,(nth argTypes.toList 0).bind E.ty with
  |some i,Z .str=>match i.kd,sK x with
   | .leaf .str,Z b=>Z (W,.ty (.int .i64) (aj b),s)
   |_,_=>Y
  |some i,Z (.sl e)=>match i.kd with
   | .slice _ _ _ _=>(Gt s e x).map λa=>(W,.ty (.int .i64) (aj a),s)
   |_=>Y
  |_,_=>Y
 | .append,[x,y]=>match argTypes.toList with
  |[t,u]=>match E.E.ti t,E.E.ti u,E.ty t with
   |some i,Z j,Z (.sl e)=>match j.kd with
    | .slice _ _ _ _=>A8 i e s x y
    |_=>Y
   |_,_,_=>Y
  |_=>Y
 |_,_=>Y
def Cp(a b:Int):Int:=bif D.bM a b then b else a
def Lz(a b:Int):Int:=bif D.bM b a then b else a
def qz(E:fX)(s:aW S)(b:Builtin)(argTypes:Array TypeId)(args:L (V S)):oC S:=
 match b,args with
 | .len,[.mp o]=>match(nth argTypes.toList 0).bind E.mt,s.ob.get o with
  |some _,Z (.map _ _ l)=>Z (W,.ty (.int .i64) (aj l),s)
  |some _,Z (.DT _ l)=>Z (W,.ty (.int .i64) (aj l),s)
  |_,_=>Y
 | .max,[x,y]=>match kI .i64 x,kI .i64 y with
  |some m,Z n=>Z (W,.ty (.int .i64) (Cp m n),s)
  |_,_=>Y
 | .min,[x,y]=>match kI .i64 x,kI .i64 y with
  |some m,Z n=>Z (W,.ty (.int .i64) (Lz m n),s)
  |_,_=>Y
 |_,_=>Y
def jb(E:fX)(s:aW S)(b:Builtin)(argTypes:Array TypeId)(args:L (V S)):oC S:=
 match b,args with
 | .len,[.sh o r]=>match s.ob.get o with
  |some (.jL n _ l era _ _ _)=>match(nth argTypes.toList 0).bind E.E.ti,(nth argTypes.toList 0).bind E.ty with
   |some i,Z (.sl (.st f))=>match i.kd with
    | .slice _ _ _ _=>bif Nat.beq r era&&Nat.beq n f then Z (W,.ty (.int .i64) (aj l),s)else Y
    |_=>Y
   |_,_=>Y
  |_=>Y
 | .append,[.sh o r,.nk f q x]=>match s.ob.get o with
  |some (.jL n j l era m a Y)=>match argTypes.toList with
   |[t,u]=>match E.E.ti t,E.E.ti u,E.ty t,Iz s m a with
    |some i,Z g,Z (.sl (.st h)),Z ⟨e,c⟩=>match i.kd,g.kd,mu (.st f) (.st n) [x]with
     | .slice _ _ _ _,.slice _ _ _ _,Z new=>bif Nat.beq r era&&(Nat.beq n h&&(Nat.beq j q&&(Nat.ble s.fl o&&(Nat.ble s.fl m&&(Nat.blt m s.au&&(Nat.blt s.au bg&&(AE S n j e&&Nat.ble 1 (S.width e))))))))then
       Z (D.eJ (V5 l c) (dR l new),.sh o (Nat.succ era),{s with ob:=(s.ob.set aA m (.rws e (dj c [[]]) a)).set aA o (.jL n j (dj l new) (Nat.succ era) m a Y),wr:=o::m::s.wr})
      else Y
     |_,_,_=>Y
    |_,_,_,_=>Y
   |_=>Y
  |_=>Y
 | .append,[.pL o m r k,y]=>match s.ob.get o,s.ob.get m with
  |some (.jL n j l era v a Y),Z (.rws t c d)=>match argTypes.toList with
   |[p,u]=>match E.E.ti p,E.E.ti u,E.ty p,Gt s t y with
    |some i,Z g,Z (.sl e),Z new=>match i.kd,g.kd,y with
     |_,_,.sh _ _=>Y
     | .slice _ _ _ _,.slice _ _ _ _,_=>bif Nat.beq m v&&(Nat.beq r a&&(Nat.beq r d&&(Nat.ble s.fl o&&(Nat.ble s.fl m&&(Nat.blt o bg&&qI e t)))))then
       Z (D.eJ (ef k c) (dR (aT c k []) new),.pL o m (Nat.succ r) k,{s with ob:=(s.ob.set aA m (.rws t (jP c k (dj (aT c k []) new)) (Nat.succ r))).set aA o (.jL n j l era m (Nat.succ r) (Z k)),wr:=o::m::s.wr})
      else Y
     |_,_,_=>Y
    |_,_,_,_=>Y
   |_=>Y
  |_,_=>Y
 |_,_=>Y
def jN(E:fX)(s:aW S)(b:Builtin)(argTypes:Array TypeId)(args:L (V S)):oC S:=match jb E s b argTypes args with
 |some r=>Z r
 |none=>match eL E s b argTypes args with
  |some r=>Z r
  |none=>qz E s b argTypes args
end
end TL
end
end
