import GoSem.Dispatch
import GoSem.Machine.Return
import Derived.Calls
import Derived.RowKit
import Derived.WalkKit
import Derived.Deep.AppendSrc
import Derived.Laws.StructEq
import Derived.Room.AppendAny
import Derived.RangeFuncIn
import Derived.RangeFuncLeaves
import Derived.RangeFuncRecord
import Derived.Orders
set_option linter.all false
set_option maxRecDepth 100000
set_option maxHeartbeats 0
noncomputable section
open Option renaming some->Z,none->Y
open Bool renaming true->W,false->J
open Nat renaming beq->Nq,ble->Nl,blt->Nt,succ->Ns,add->Na
open Go.Result(andThen_ok)
open Go.Sem(run_bind run_pure)
namespace TL
section
abbrev O:=@Option
abbrev L:=@List
abbrev U:=Unit
abbrev fG:=@Option.map_eq_some_iff
abbrev iu:=@List.getElem?_eq_getElem
abbrev gH:=@Nat.le_of_ble_eq_true
abbrev eM:=@Bool.and_eq_true
abbrev hJ:=@List.mem_cons_of_mem
abbrev gC:=@Option.some.injEq
abbrev cm:=@if_neg
abbrev fc:=@Prod.mk.injEq
abbrev iE:=@Nat.lt_of_lt_of_le
abbrev kz:=@List.mem_append_right
abbrev cM:=@Nat.le_refl
abbrev eL:=@List.mem_append_left
abbrev fQ:=@List.mem_cons_self
abbrev bO:=@if_pos
abbrev eN:=@List.mem_append
abbrev ff:=@Int.natCast_add
abbrev fe:=@Int.natCast_one
abbrev hU:=@List.mem_of_getElem?
abbrev fF:=@List.mem_cons
abbrev gX:=@decide_eq_false
abbrev fP:=@Nat.le_trans
abbrev oc:=@List.getD_eq_getElem?_getD
abbrev jc:=@decide_eq_true
abbrev jq:=@Option.map_some
abbrev kF:=@List.getElem?_map
abbrev jG:=@Option.some.inj
abbrev j5:=@List.all_eq_true
abbrev gJ:=@cond_false
abbrev gn:=@cond_true
abbrev tO:=@Array.getElem?_eq_getElem
abbrev uZ:=@Nat.eq_of_beq_eq_true
abbrev p8:=@List.getElem_of_mem
abbrev uY:=@Option.bind_eq_some_iff
abbrev tN:=@List.mem_singleton_self
abbrev sG:=@List.getElem?_append
abbrev nI:=@Bool.or_eq_true
abbrev tM:=@List.pairwise_append
abbrev Da:=@List.eq_nil_of_length_eq_zero
abbrev mh:=@List.map_cons
abbrev qP:=@List.length_cons
abbrev sE:=@List.mem_singleton
abbrev rM:=@List.length_map
abbrev sC:=@decide_eq_true_eq
abbrev oN:=@Bool.false_and
abbrev tL:=@List.take_length
abbrev yI:=@Nat.mul_le_mul_right
abbrev yH:=@Bool.and_eq_true_iff
abbrev yG:=@Bool.or_eq_false_iff
abbrev p7:=@Bool.true_and
abbrev vw:=@List.append_assoc
abbrev xu:=@List.length_append
abbrev tK:=@List.append_nil
abbrev xq:=@List.length_take
abbrev Me:=@Nat.ble_eq_true_of_le
abbrev zN:=@List.mem_filterMap
abbrev lq:=@congrArg
abbrev EH:=@List.length_singleton
abbrev JO:=@List.contains_iff_mem
abbrev tJ:=@List.mem_map
abbrev Md:=@List.mem_zipIdx_iff_getElem?
abbrev EG:=@List.contains_eq_mem
abbrev A5:=@List.map_append
abbrev Mc:=@List.getElem?_cons_zero
abbrev TS:=@List.pairwise_iff_getElem
abbrev JN:=@Int.toNat_of_nonneg
abbrev JM:=@List.getElem_mem
abbrev A4:=@Nat.zero_add
abbrev OV:=@List.map_congr_left
abbrev TR:=@List.getElem?_eq_some_iff
abbrev OU:=@List.singleton_append
abbrev Wj:=@List.take_append_drop
abbrev TQ:=@Classical.axiomOfChoice
abbrev Mb:=@Bool.not_eq_true'
abbrev JL:=@List.nodup_cons
abbrev TP:=@List.getElem?_set_self
abbrev Wi:=@List.length_eq_one_iff
abbrev Wh:=@Array.getElem?_eq_some_iff
abbrev JK:=@Bool.and_false
abbrev Wg:=@List.drop_eq_getElem_cons
abbrev Wf:=@List.getElem?_append_left
abbrev We:=@Classical.byContradiction
abbrev OT:=@List.getElem?_set
abbrev OS:=@Classical.not_not
abbrev JJ:=@Bool.not_true
abbrev Wd:=@decide_eq_false_iff_not
abbrev TO:=@List.length_pos_iff
abbrev TN:=@Array.toList_append
abbrev OR:=@Option.getD_some
abbrev Ma:=@Bool.not_false
abbrev LZ:=@Nat.testBit_or
abbrev Hp:=@Nat.zero_le
abbrev TM:=@List.getElem?_take
abbrev TK:=@List.getElem?_drop
abbrev yF:=@Iff.rfl
abbrev yE:=@if_true
abbrev Wc:=@List.getElem?_zipWith
abbrev aau:=@List.exists_cons_of_ne_nil
abbrev Wb:=@List.getElem?_of_mem
abbrev Wa:=@List.mem_of_mem_take
abbrev aat:=@List.mem_or_eq_of_mem_set
abbrev ahj:=@Option.filter_eq_some_iff
abbrev EL:=@Option.map_map
abbrev Cm:=@Nat.le_of_eq
abbrev acS:=@List.take_succ_eq_append_getElem
abbrev EK:=@Bool.and_true
abbrev Ie:=@List.length_set
abbrev Cl:=@Int.le_refl
abbrev Cj:=@Nat.le_succ
abbrev Mm:=@List.ext_getElem?
abbrev Ml:=@of_decide_eq_true
abbrev EJ:=@List.map_set
abbrev RG:=@List.getElem?_toArray
abbrev EI:=@Int.add_zero
abbrev RF:=@Nat.div_lt_of_lt_mul
abbrev Mj:=@List.foldl_cons
abbrev Mi:=@List.cons.injEq
abbrev Mh:=@List.all_append
abbrev Mg:=@Nat.mul_comm
abbrev WC:=@List.eq_of_mem_replicate
abbrev Ic:=@Nat.le_of_lt
abbrev acR:=@List.drop_drop
abbrev acQ:=@Array.toList_eq_nil_iff
abbrev RE:=@List.size_toArray
abbrev RD:=@Int.toNat_natCast
abbrev RC:=@Nat.lt_succ_of_le
abbrev Ib:=@Nat.one_mul
abbrev Mf:=@Bool.and_self
abbrev RB:=@Option.bind_some
abbrev RA:=@Array.toList_map
abbrev Rz:=@List.any_eq_true
abbrev aa:=Bool
abbrev av:=Go.World
abbrev az:=Go.Value
abbrev cP:=Go.Program
open Go
inductive Tr(α:Type) where
 |nil|node (v:Option α) (l r:Tr α)
 deriving Inhabited
namespace Tr
variable {α:Type}
def get:Tr α->Nat->O α
 |.nil,_=>Y|.node v l r,k=>match k with
  |0=>v|k+1=>match Nq (Nat.mod k 2) 0 with
   |true=>l.get (Nat.div k 2)|false=>r.get (Nat.div k 2)
def set:Nat->Tr α->Nat->α->Tr α
 |0,t,_,_=>t|n+1,.nil,k,x=>match k with
  |0=>.node (Z x) .nil .nil|k+1=>match Nq (Nat.mod k 2) 0 with
   |true=>.node Y (set n .nil (Nat.div k 2) x) .nil|false=>.node Y .nil (set n .nil (Nat.div k 2) x)
 |n+1,.node v l r,k,x=>match k with
  |0=>.node (Z x) l r|k+1=>match Nq (Nat.mod k 2) 0 with
   |true=>.node v (set n l (Nat.div k 2) x) r|false=>.node v l (set n r (Nat.div k 2) x)
end Tr
def oe:IntKind->IntKind->aa
 |.i8,.i8|.i16,.i16|.i32,.i32|.i64,.i64|.u8,.u8|.u16,.u16|.u32,.u32|.u64,.u64=>W|_,_=>J
def cC{α:Type}:L α->Nat
 |[]=>0|_::l=>Ns (cC l)
def nth{α:Type}:L α->Nat->O α
 |[],_=>Y|a::_,0=>Z a|_::l,k+1=>nth l k
inductive D where
 |lit (v:az)|sl (es:List D)|agg (cs:List D)|de (t:TypeId) (d:D)|gG (ds:List D)|pt (d:D)|mp (ks vs:List D)
 deriving Inhabited
namespace D
def toInt:D->Int|.lit (.int _ n)=>n|_=>0
def isInt(k:IntKind):D->aa|.lit (.int j _)=>oe j k|_=>J
def toBool:D->aa|.lit (.bool b)=>b|_=>J
def isBool:D->aa|.lit (.bool _)=>W|_=>J
def toStr:D->ByteArray|.lit (.string b)=>b|_=>.empty
def isStr:D->aa|.lit (.string _)=>W|_=>J
def adW:D->L D|.sl es=>es|_=>[]
def ain:D->aa|.sl _=>W|_=>J
def cells:D->L D|.agg cs=>cs|d=>[d]
def cell(d:D)(j:Nat):D:=d.cells.getD j (.lit (.tuple #[]))
def leaf:D->aa
 |.agg _|.gG _=>J|.lit (.agg _)|.lit (.tuple _)=>J|_=>W
def isAgg(n:Nat):D->aa|.agg cs=>Nq (cC cs) n&&cs.all leaf|_=>J
def proj:D->Nat->D|.gG ds,k=>ds.getD k (.lit (.tuple #[]))|_,_=>.lit (.tuple #[])
def afd(n:Nat):D->aa|.gG ds=>Nt n (cC ds)|_=>J
def aio:D->aa|.de _ _=>W|_=>J
def has(d:D)(m:Nat):Prop:=m<=d.cells.length
def wide(d:D)(m:Nat):Prop:=d.cells.length=m
def lby:D->Nat
 |.lit (.string _)|.lit .nilIface|.de _ _=>16|.sl _|.lit (.slice ..)=>24|_=>8
def oC:L D->Nat
 |[]=>0|d::l=>Na d.lby (oC l)
def r7:D->Nat
 |.agg a=>oC a|.lit (.bool _)=>1|.lit (.int .i8 _)|.lit (.int .u8 _)=>1|.lit (.int .i16 _)|.lit (.int .u16 _)=>2|.lit (.int .i32 _)|.lit (.int .u32 _)=>4|d=>d.lby
def flat(d:D):aa:=d.cells.all leaf
def Ov(d:D)(off:Nat)(l:L D):D:=match d with
 |.agg a=>.agg (a.take off++l++a.drop (off+l.length))|d=>l.getD 0 d
def Ri(d:D)(sz off n:Nat):Prop:=d.isAgg sz=W\/(d.leaf=W/\sz=1/\off=0/\n=1)
end D
def iX(es:L D)(i:Nat):D:=es.getD i (.lit (.tuple #[]))
def eE(es:L D):Int:=es.length
def kY(n:Int)(len:Int):Prop:=0<=n/\n<len
def yo(lo hi len:Int):Prop:=0<=lo/\lo<=hi/\hi<=len
def oK(es:L D)(lo hi:Int):L D:=(es.take hi.toNat).drop lo.toNat
def Lb(b:ByteArray)(lo hi:Int):ByteArray:=b.extract lo.toNat hi.toNat
def uG(b:ByteArray):Int:=b.size
def ZE(b:ByteArray)(n:Int):Int:=(b.get! n.toNat).toNat
def Lc(a b:ByteArray):Prop:=a.size+b.size<=4611686018427387904
def QT(a b:ByteArray):ByteArray:=a++b
def iq(a b:L D):L D:=a++b
def ym(es:L D)(k:Nat)(d:D):L D:=es.set k d
def jo(es:L D)(sz:Nat):Prop:=∀d∈es,d.cells.length=sz
def uV(es:L D)(b:Nat):Prop:=∀d∈es,d.r7=b/\d.flat=W
def CY(n:Int):Nat:=n.toNat
def zi:Int:=0
def aC(k:IntKind)(a b:Int):Int:=k.wrap (a+b)
def bH(k:IntKind)(a b:Int):Int:=k.wrap (a-b)
def Oj(k:IntKind)(a b:Int):Int:=k.wrap (a*b)
def Oi(k:IntKind)(a:Int):Int:=k.wrap (-a)
def QU(k:IntKind)(a:Int):Int:=k.wrap a
def GO(a b:Int):Int:=a.tmod b
def ZF(k:IntKind)(a b:Int):Int:=k.wrap (a.tdiv b)
def agb(a:Int):Prop:=a≠0
def af(a b:Int):aa:=a==b
def j3(a b:aa):aa:=a==b
def Ta(a b:ByteArray):aa:=a==b
def aD(a b:Int):aa:=decide (a<b)
def br(a b:Int):aa:=decide (a<=b)
def ZG(c a b:aa):aa:=if c then a else b
def ak(a:aa):aa:=!a
def bQ(a b:aa):aa:=a&&b
inductive T where
 |sym (d:D)|kb (b:aa)|kn (k:IntKind) (n:Int)|ptr (o off:Nat)|lD (d:D) (off:Nat)|lC (o e i off:Nat)|sh (o e:Nat)|emp|j4 (n:Nat) (es:List D)|fn (f:Fn) (first cap:List T)
 |de (t:TypeId) (v:T)|agg (cs:List T)|gG (vs:List T)|gd (c:aa) (v:T)|mp (o:Nat)|qN (o:Nat)|tD (o:Nat)|ub (e:aa)|rQ (o m r i:Nat)|o6 (j:Nat) (d:D)
 deriving Inhabited
inductive Df where
 |call (f:T) (args:List T)|mark (o:Nat)|marks (o:Nat)|jZ|bad
 deriving Inhabited
def Df.one:Df->aa
 |.marks _|.jZ=>J|_=>W
structure Fr where
 n:Nat
 tm:Tr T
 df:List Df:=[]
 deriving Inhabited
structure Lp where
 st:LoopState
 u0:Option Code
 fid:FuncId
 fr:Fr
 params:List Nat
 assign:Code
 body:Code
inductive Ob where
 |box (cs:List T)|arr (sz:Nat) (es:List D) (era:Nat)|kM (sz:Nat) (es:List D) (era:Nat)|map (es:List (T×T))|qO (b:ByteArray) (pos:Nat)|lp (l:Lp)|zm|kT (nj sz:Nat) (es:List D) (era m gR:Nat) (hole:Option Nat)|rws (sz:Nat) (iG:List (List D)) (gR:Nat)|gone|E5
 deriving Inhabited
def Ob.nP:Ob->aa
 |.arr ..|.kM ..|.kT ..|.rws ..|.gone|.E5=>W|_=>J
def Ob.isA:Ob->aa
 |.arr ..|.kM ..=>W|_=>J
def Ob.odd:Ob->aa
 |.map _|.qO _ _|.lp _|.zm=>W|_=>J
structure St where
 ob:Tr Ob
 aF:Nat
 fl:Nat
 lo:Nat
 deriving Inhabited
def aO:Nat:=64
def bD:Nat:=1000000000
def Fr.get(fr:Fr)(k:Nat):O T:=fr.tm.get k
def Fr.put(fr:Fr)(k:Nat)(v:T):Fr:={fr with tm:=fr.tm.set aO k v}
def Fr.kG(fr:Fr)(k:O Nat)(v:T):Fr:=match k with|some k=>fr.put k v|none=>fr
inductive Lk where
 |int (k:IntKind)|bool|str|no
 deriving DecidableEq,Inhabited
inductive Kd where
 |leaf (l:Lk)|ptr|slice (sz:Nat) (agg:aa) (r7:Nat) (zero:List D)|struct (fs:List (Nat×Nat×aa))|array (len sz:Nat) (agg:aa)|iface|other
 deriving Inhabited
structure TI where
 size:Nat
 agg:aa
 zero:List D
 lks:List Lk
 kd:Kd
 deriving Inhabited
structure Ol where
 pre:List D->Prop
 f:List D->D
structure Env where
 P:cP
 ti:Nat->Option TI
 Sp:Nat->Option Func
 Hv:Nat->Option Ol
def Cu:az->O D
 |.bool b=>Z (.lit (.bool b))|.int k n=>Z (.lit (.int k n))|.string s=>Z (.lit (.string s))|.pointer Y=>Z (.lit (.pointer Y))|.map Y=>Z (.lit (.map Y))|.nilFunc=>Z (.lit .nilFunc)|.nilIface=>Z (.lit .nilIface)|.tuple a=>match a.toList with
  |[]=>Z (.lit (.tuple #[]))|_=>Y
 |_=>Y
def ofConst:az->O T
 |.bool b=>Z (.kb b)|.int k n=>Z (.kn k n)|.slice Y 0 0=>Z .emp|.func f a b=>match a.toList,b.toList with
  |[],[]=>Z (.fn f [] [])|_,_=>Y
 |.iface t v=>(Cu v).map λd=>.sym (.de t d)|v=>(Cu v).map .sym
def qe:D->T
 |.lit (.bool b)=>.kb b|.lit (.int k n)=>.kn k n|.sl []=>.emp|d=>.sym d
def T.leaf:T->Prop
 |.sym d=>d.leaf=W|.agg _|.gG _|.gd _ _=>False|_=>True
def jY(i:TI):T->O (Prop×L T)
 |.agg a=>bif i.agg&&Nq (cC a) i.size then Z (True,a)else Y|.sym d=>
  bif i.agg then Z (d.isAgg i.size=W,(List.range i.size).map λj=>.sym (d.cell j))
  else bif Nq i.size 1 then Z (d.leaf=W,[.sym d])else Y
 |.gG _|.gd _ _=>Y|t=>bif i.agg then Y else bif Nq i.size 1 then Z (True,[t])else Y
def vE(agg:aa)(cs:L T):O T:=
 bif agg then Z (.agg cs)else match cs with
  |[x]=>Z x|_=>Y
def jO(fr:Fr):Operand->O T
 |.tmp k=>fr.get k|.const v=>ofConst v|.global _=>Y|.func f=>Z (.fn (.func f) [] [])
def xQ(fr:Fr):L Operand->O (L T)
 |[]=>Z []|x::l=>match jO fr x,xQ fr l with
  |some t,Z r=>Z (t::r)|_,_=>Y
def xy(k:IntKind):T->O (Prop×Int)
 |.kn j n=>bif oe j k then Z (True,n)else Y|.sym d=>Z (d.isInt k=W,d.toInt)|_=>Y
def Ax:T->O (Prop×aa)
 |.kb b=>Z (True,b)|.sym d=>Z (d.isBool=W,d.toBool)|_=>Y
def zB:T->O (Prop×ByteArray)
 |.sym d=>Z (d.isStr=W,d.toStr)|_=>Y
def AZ(s:St):T->O (Prop×L D)
 |.emp=>Z (True,[])|.j4 _ a=>Z (True,a)|.o6 _ d=>Z (True,[d])|.sym d=>Z (d.ain=W,d.adW)|.sh o e=>match s.ob.get o with
  |some (.arr _ a era)|some (.kM _ a era)=>bif Nq e era then Z (True,a)else Y|_=>Y
 |_=>Y
def Ac(nj:Nat)(d:D)(a:L D):D:=.agg (d.cells.set nj (.sl a))
def mw(nj:Nat)(es:L D)(iG:L (L D)):L D:=List.zipWith (Ac nj) es iG
def Hl(s:St)(m r:Nat):O (L (L D)):=match s.ob.get m with
 |some (.rws _ a b)=>bif Nq r b then Z a else Y|_=>Y
mutual
def AV(s:St):T->O (Prop×D×L Nat)
 |.sym d=>Z (True,d,[])|.kb b=>Z (True,.lit (.bool b),[])|.kn k n=>Z (True,.lit (.int k n),[])|.emp=>Z (True,.sl [],[])|.j4 _ a=>Z (True,.sl a,[])|.o6 _ d=>Z (True,.sl [d],[])|.sh o e=>match s.ob.get o with
  |some (.arr _ a era)=>bif Nq e era then Z (True,.sl a,[o])else Y|some (.kM _ a era)=>bif Nq e era then Z (True,.sl a,[])else Y|some (.kT g _ a era m r Y)=>match Hl s m r with
   |some c=>bif Nq e era&&Nt m bD then Z (True,.sl (mw g a c),[o,m])else Y|none=>Y
  |_=>Y
 |.de t v=>match AV s v with
  |some (p,d,os)=>Z (p,.de t d,os)|none=>Y
 |.agg f=>match nH s f with
  |some (p,ds,os)=>Z (p/\ds.all D.leaf=W,.agg ds,os)|none=>Y
 |.gG f=>match nH s f with
  |some (p,ds,os)=>Z (p,.gG ds,os)|none=>Y
 |_=>Y
def nH(s:St):L T->O (Prop×L D×L Nat)
 |[]=>Z (True,[],[])|t::l=>match AV s t,nH s l with
  |some (p,d,os),Z (q,ds,a)=>Z (p/\q,d::ds,os++a)|_,_=>Y
end
def freeze(s:St):L Nat->O St
 |[]=>Z s|o::l=>
  bif Nl s.fl o then match s.ob.get o with
   |some (.arr sz a era)=>freeze {s with ob:=s.ob.set aO o (.kM sz a era)} l
   |some (.kM _ _ _)=>freeze s l|some (.kT c sz a era m r Y)=>match Hl s m r with
    |some b=>bif l.contains m&&(Nl s.fl m&&Nt m bD)then freeze {s with ob:=(s.ob.set aO m .gone).set aO o (.kM sz (mw c a b) era)} l else Y
    |none=>Y
   |some (.rws ..)=>freeze s l|some .gone=>freeze s l|_=>Y
  else Y
def ee(s:St)(o:Ob):Nat×St:=(s.aF,{s with ob:=s.ob.set aO s.aF o,aF:=Ns s.aF})
def qA:Lk->T->T->O (Prop×aa)
 |.int k,a,b=>match xy k a,xy k b with
  |some (p,x),Z (q,y)=>Z (p/\q,af x y)|_,_=>Y
 |.bool,a,b=>match Ax a,Ax b with
  |some (p,x),Z (q,y)=>Z (p/\q,j3 x y)|_,_=>Y
 |.str,a,b=>match zB a,zB b with
  |some (p,x),Z (q,y)=>Z (p/\q,Ta x y)|_,_=>Y
 |.no,_,_=>Y
def jW:L Lk->L T->L T->O (Prop×aa)
 |[],[],[]=>Z (True,W)|k::c,a::as,b::d=>match qA k a b,jW c as d with
  |some (p,x),Z (q,y)=>Z (p/\q,bQ x y)|_,_=>Y
 |_,_,_=>Y
def adh:T->T->O (Prop×aa)
 |.sym (.lit (.pointer Y)),.ptr _ _=>Z (True,J)|.ptr _ _,.sym (.lit (.pointer Y))=>Z (True,J)|_,_=>Y
def adi:T->T->O (Prop×aa)
 |.sym (.lit .nilIface),.de _ _=>Z (True,J)|.de _ _,.sym (.lit .nilIface)=>Z (True,J)|_,_=>Y
def HD(s:St)(o e:Nat):O (Nat×L D):=
 match s.ob.get o with
 |some (.arr sz a era)=>bif Nq e era then Z (sz,a)else Y|some (.kM sz a era)=>bif Nq e era then Z (sz,a)else Y|_=>Y
def mO(i:TI)(d:D)(off:Nat):O T:=
 bif i.agg then Z (.agg ((List.range i.size).map λj=>.sym (d.cell (Na off j))))
 else bif Nq i.size 1 then Z (.sym (d.cell off))else Y
abbrev SX:=O (Prop×T×St)
def Re:T:=.sym (.lit (.tuple #[]))
def loadT(i:TI)(s:St):T->SX
 |.ptr o off=>match s.ob.get o with
  |some (.box b)=>
   let l:=(b.drop off).take i.size
   bif Nq (cC l) i.size then(vE i.agg l).map λt=>(True,t,s)else Y
  |_=>Y
 |.lD d off=>(mO i d off).map λt=>(d.has (Na off i.size),t,s)|.lC o e k off=>match HD s o e with
  |some (_,a)=>(mO i (iX a k) off).map λt=>(kY k (eE a)/\(iX a k).has (Na off i.size),t,s)|none=>Y
 |_=>Y
def leaves:L T->Prop
 |[]=>True|t::l=>t.leaf/\leaves l
def storeT(i:TI)(s:St)(a x:T):SX:=
 match jY i x with
 |none=>Y|some (p,l)=>match a with
  |.ptr o off=>match s.ob.get o with
   |some (.box d)=>
    bif Nl s.fl o&&Nl (Na off (cC l)) (cC d)then
     Z (p/\leaves l,Re,{s with ob:=s.ob.set aO o (.box (d.take off++l++d.drop (Na off (cC l))))})
    else Y
   |_=>Y
  |.lC o e k off=>match nH s l with
   |some (q,ds,os)=>match freeze s os with
    |some c=>match c.ob.get o with
     |some (.arr sz b era)=>
      bif Nl c.fl o&&Nq e era then
       Z (p/\q/\ds.all D.leaf=W/\kY k (eE b)/\(iX b k).Ri sz off (cC ds)/\Nl (Na off (cC ds)) sz=W/\((iX b k).Ov off ds).r7=(iX b k).r7,
        Re,{c with ob:=c.ob.set aO o (.arr sz (ym b k ((iX b k).Ov off ds)) era)})
      else Y
     |_=>Y
    |none=>Y
   |none=>Y
  |_=>Y
def FE(place:Nat->O (Nat×TI))(cells:L T):L (Nat×T)->O (Prop×L T)
 |[]=>Z (True,cells)|(k,v)::a=>match place k with
  |none=>Y|some (off,i)=>match jY i v with
   |none=>Y|some (p,l)=>
    bif Nl (Na off (cC l)) (cC cells)then
     (FE place (cells.take off++l++cells.drop (Na off (cC l))) a).map λ(q,r)=>(p/\leaves l/\q,r)
    else Y
def rN(fr:Fr):L (Nat×Operand)->O (L (Nat×T))
 |[]=>Z []|(k,x)::l=>match jO fr x,rN fr l with
  |some t,Z r=>Z ((k,t)::r)|_,_=>Y
def rX(s:St)(i:TI)(es:L D):L (Nat×T)->O (Prop×L D×L Nat)
 |[]=>Z (True,es,[])|(k,v)::a=>match AV s v with
  |none=>Y|some (p,d,os)=>
   bif Nt k (cC es)then
    (rX s i (es.set k d) a).map λ(q,r,b)=>(p/\(bif i.agg then d.isAgg i.size else d.leaf)=W/\q,r,os++b)
   else Y
def UZ(op:BinOp)(k:IntKind)(m n:Int):O D:=
 match op with
 |.lss=>Z (.lit (.bool (aD m n)))|.leq=>Z (.lit (.bool (br m n)))|.gtr=>Z (.lit (.bool (aD n m)))|.geq=>Z (.lit (.bool (br n m)))|.add=>Z (.lit (.int k (aC k m n)))|.sub=>Z (.lit (.int k (bH k m n)))|.mul=>Z (.lit (.int k (Oj k m n)))|_=>Y
def Yj(op:BinOp)(k:IntKind)(m n:Int):O D:=
 match op with
 |.rem=>Z (.lit (.int k (GO m n)))|.quo=>Z (.lit (.int k (ZF k m n)))|_=>Y
def X7(i:TI)(a b:T):O (Prop×aa):=
 bif i.agg then match i.lks,jY i a,jY i b with
  |[],_,_=>Y|k::c,Z (p,as),Z (q,d)=>(jW (k::c) as d).map λ(r,x)=>(p/\q/\r,x)|_,_,_=>Y
 else match i.kd with
  |.leaf k=>qA k a b|.ptr=>adh a b|.iface=>adi a b|_=>Y
def Ky(i:TI)(op:BinOp)(a b:T):O (Prop×D):=
 match op with
 |.eql=>(X7 i a b).map λ(p,r)=>(p,.lit (.bool r))|.neq=>(X7 i a b).map λ(p,r)=>(p,.lit (.bool (ak r)))|op=>match i.kd with
  |.leaf (.int k)=>match xy k a,xy k b with
   |some (p,m),Z (q,n)=>match UZ op k m n with
    |some d=>Z (p/\q,d)|none=>(Yj op k m n).map λd=>(p/\q/\agb n,d)
   |_,_=>Y
  |.leaf .str=>match op,zB a,zB b with
   |.add,Z (p,m),Z (q,n)=>Z (p/\q/\Lc m n,.lit (.string (QT m n)))|_,_,_=>Y
  |_=>Y
def Mx(fr:Fr):O Operand->O (O T)
 |none=>Z Y|some x=>(jO fr x).map Z
def wo(dflt:Int):O T->O (Prop×Int)
 |none=>Z (True,dflt)|some t=>xy .i64 t
def sJ:T->L Nat
 |.sh o _=>[o]|_=>[]
def pU(i:TI)(s:St)(v:T)(l h m:O T):SX:=
 match i.kd,wo zi l with
 |.leaf .str,Z (p,lo)=>match zB v,m with
  |some (q,b),Y=>match wo (uG b) h with
   |some (r,a)=>Z (p/\q/\r/\yo lo a (uG b),.sym (.lit (.string (Lb b lo a))),s)|none=>Y
  |_,_=>Y
 |.slice sz _ _ _,Z (p,lo)=>match AZ s v,freeze s (sJ v)with
  |some (q,c),Z d=>match wo (eE c) h,m,h with
   |some (r,a),Y,_=>Z (p/\q/\r/\jo c sz/\yo lo a (eE c),.sym (.sl (oK c lo a)),d)|some (r,a),Z y,Z _=>match y with
    |.kn .i64 0=>Z (p/\q/\r/\lo=zi/\a=zi,.emp,s)|y=>(xy .i64 y).map λ(t,e)=>
     (p/\q/\r/\t/\jo c sz/\yo lo a (eE c)/\e=a,.j4 0 (oK c lo a),d)
   |_,_,_=>Y
  |_,_=>Y
 |_,_=>Y
def HE:T->O (Prop×aa)
 |.gd g v=>match Ax v with
  |some (q,y)=>Z (g=W/\q,y)|none=>Y
 |.kb b=>Z (True,b)|.sym d=>Z (d.isBool=W,d.toBool)|_=>Y
def Ig(c a b:T):O (Prop×T):=
 match c with
 |.kb u=>match HE (bif u then a else b)with
  |some (q,y)=>Z (q,.sym (.lit (.bool y)))|none=>Y
 |c=>match Ax c,HE a,HE b with
  |some (p,t),Z (q,x),Z (r,y)=>Z (p/\(t=W->q)/\(t=J->r),.sym (.lit (.bool (ZG t x y))))|_,_,_=>Y
def AE(n sz:Nat)(s:St)(x a:T):SX:=match x,a with
 |.lD d b,.kn .i64 (.ofNat j)=>bif Nt j n then Z (True,.lD d (Na b (Nat.mul j sz)),s)else Y|_,_=>Y
def jT(i:TI)(s:St)(x b:T):SX:=
 match i.kd,xy .i64 b with
 |.slice sz _ _ _,Z (p,n)=>match x with
  |.sh o e=>match HD s o e with
   |some (z,a)=>bif Nq z sz then Z (p/\kY n (eE a),.lC o e (CY n) 0,s)else Y|none=>Y
  |v=>match AZ s v with
   |some (q,a)=>Z (p/\q/\kY n (eE a)/\(iX a (CY n)).wide sz,.lD (iX a (CY n)) 0,s)|none=>Y
 |.array n sz _,_=>AE n sz s x b|_,_=>Y
def qz(i:TI)(s:St)(k:Nat)(x:T):SX:=
 match i.kd with
 |.struct a=>match nth a k with
  |some (off,size,_)=>bif Nq size 0 then Y else match x with
   |.ptr o b=>Z (True,.ptr o (Na b off),s)|.lD d b=>Z (True,.lD d (Na b off),s)|.lC o e j b=>Z (True,.lC o e j (Na b off),s)|_=>Y
  |none=>Y
 |_=>Y
def FF(i:TI)(s:St)(k:Nat)(x:T):SX:=
 match i.kd with
 |.struct a=>match nth a k,jY i x with
  |some (off,size,b),Z (p,c)=>
   let l:=(c.drop off).take size
   bif Nq (cC l) size&&!(Nq size 0)then(vE b l).map λt=>(p,t,s)else Y
  |_,_=>Y
 |_=>Y
def Fu(i:TI)(s:St)(x a:T):SX:=
 match i.kd,xy .i64 a,zB x with
 |.leaf .str,Z (p,n),Z (q,b)=>Z (p/\q/\kY n (uG b),.sym (.lit (.int .u8 (ZE b n))),s)|_,_,_=>Y
def rC(i:TI)(s:St)(t:TypeId)(ok:aa)(x:T):SX:=
 match i.kd,x,ok with
 |.iface,_,_=>Y|_,.de u v,W=>bif Nq u t then Z (True,.gG [v,.kb W],s)else
   (vE i.agg (i.zero.map qe)).map λz=>(True,.gG [z,.kb J],s)
 |_,.de u v,J=>bif Nq u t then Z (True,v,s)else Y|_,_,_=>Y
def unT(i:TI)(op:UnOp)(v:T):O (Prop×D):=
 match op,i.kd with
 |.not,.leaf .bool=>(Ax v).map λ(p,b)=>(p,.lit (.bool (ak b)))|.neg,.leaf (.int k)=>(xy k v).map λ(p,n)=>(p,.lit (.int k (Oi k n)))|_,_=>Y
def IY(i j:TI)(s:St)(v:T):SX:=
 match i.kd,j.kd with
 |.leaf (.int k),.leaf (.int l)=>(xy k v).map λ(p,n)=>(p,.sym (.lit (.int l (QU l n))),s)|.leaf .str,.leaf .str=>(zB v).map λ(p,_)=>(p,v,s)|_,_=>Y
def sW(s:St)(k:Nat):T->SX
 |.gG a=>(nth a k).map λt=>(True,t,s)|.sym d=>Z (d.afd k=W,.sym (d.proj k),s)|_=>Y
def n9(E:Env)(fr:Fr)(s:St)(o:Op):SX:=
 match o with
 |.move x=>(jO fr x).map λt=>(True,t,s)|.assign x=>(jO fr x).map λt=>(True,t,s)|.pick c a b=>match jO fr c,jO fr a,jO fr b with
  |some c,Z a,Z b=>(Ig c a b).map λ(p,t)=>(p,t,s)|_,_,_=>Y
 |.alloc t=>match E.ti t with
  |some i=>bif Nt s.aF bD then Z (True,.ptr s.aF 0,(ee s (.box (i.zero.map qe))).2)else Y|none=>Y
 |.box t x=>match E.ti t,jO fr x with
  |some i,Z v=>bif Nt s.aF bD then(jY i v).map λ(p,q)=>(p,.ptr s.aF 0,(ee s (.box q)).2)else Y|_,_=>Y
 |.build t parts=>match E.ti t,rN fr parts.toList with
  |some i,Z r=>match i.kd with
   |.struct z=>(FE (λk=>match nth z k with|some (off,size,g)=>Z (off,{(default:TI)with size:=size,agg:=g})|none=>Y) (i.zero.map qe) r).map
     λ(p,q)=>(p,.agg q,s)
   |_=>Y
  |_,_=>Y
 |.buildSlice t len parts=>match E.ti t,rN fr parts.toList with
  |some i,Z r=>match i.kd with
   |.slice sz g _ zero=>
    bif (g||Nq sz 1)&&(Nq (cC zero) sz&&(!(Nq sz 0)&&Nl (Nat.mul len sz) 16777216))then
     match rX s {(default:TI)with size:=sz,agg:=g} (List.replicate len (bif g then .agg zero else zero.getD 0 default)) r with
     |some (p,A,os)=>(freeze s os).map λs=>(p,.j4 len A,s)|none=>Y
    else Y
   |_=>Y
  |_,_=>Y
 |.load t a=>match E.ti t,jO fr a with
  |some i,Z a=>loadT i s a|_,_=>Y
 |.store t a x=>match E.ti t,jO fr a,jO fr x with
  |some i,Z a,Z x=>storeT i s a x|_,_,_=>Y
 |.nilCheck x=>match jO fr x with
  |some (.ptr o b)=>Z (True,.ptr o b,s)|some (.lD d b)=>Z (True,.lD d b,s)|some (.lC o e j b)=>Z (True,.lC o e j b,s)|some (.de t v)=>Z (True,.de t v,s)|some (.fn (.func f) a b)=>Z (True,.fn (.func f) a b,s)|some (.sym d)=>Z (d.aio=W,.sym d,s)|_=>Y
 |.binOp op t x y _=>match E.ti t,jO fr x,jO fr y with
  |some i,Z a,Z b=>(Ky i op a b).map λ(p,d)=>(p,.sym d,s)|_,_,_=>Y
 |.unOp op t x=>match E.ti t,jO fr x with
  |some i,Z v=>(unT i op v).map λ(p,d)=>(p,.sym d,s)|_,_=>Y
 |.convert src u x=>match E.ti src,E.ti u,jO fr x with
  |some i,Z j,Z v=>IY i j s v|_,_,_=>Y
 |.makeInterface t x=>match E.ti t,jO fr x with
  |some i,Z v=>match i.kd with
   |.iface=>Y|_=>Z (True,.de t v,s)
  |_,_=>Y
 |.makeFunc f first cap=>match xQ fr first.toList,xQ fr cap.toList with
  |some a,Z b=>Z (True,.fn f a b,s)|_,_=>Y
 |.extract x k=>match jO fr x with
  |some v=>sW s k v|none=>Y
 |.fieldAddr t x k=>match E.ti t,jO fr x with
  |some i,Z v=>qz i s k v|_,_=>Y
 |.field t x k=>match E.ti t,jO fr x with
  |some i,Z v=>FF i s k v|_,_=>Y
 |.indexAddr t x w=>match E.ti t,jO fr x,jO fr w with
  |some i,Z v,Z n=>jT i s v n|_,_,_=>Y
 |.index t x w=>match E.ti t,jO fr x,jO fr w with
  |some i,Z v,Z n=>Fu i s v n|_,_,_=>Y
 |.slice t x lo B C=>match E.ti t,jO fr x,Mx fr lo,Mx fr B,Mx fr C with
  |some i,Z v,Z l,Z h,Z m=>pU i s v l h m|_,_,_,_,_=>Y
 |.typeAssert x _ t ok=>match E.ti t,jO fr x with
  |some i,Z v=>rC i s t ok v|_,_=>Y
 |_=>Y
def D.Sr(a b:L D):Prop:=a.length+b.length<=17179869184
def uv(i:TI)(s:St)(x y:T):SX:=
 bif !(Nt s.aF bD)then Y else
 match i.kd,AZ s y with
 |.slice sz _ b _,Z (q,new)=>
  match x with
  |.emp=>Z (q/\jo new sz/\uV new b,.sh s.aF 0,(ee s (.arr sz new 0)).2)|.j4 _ a=>
   let c:=q/\jo (iq a new) sz/\uV (iq a new) b/\D.Sr a new
   match y with
   |.j4 (_+1) _=>Z (c,.sh s.aF 0,(ee s (.arr sz (iq a new) 0)).2)|_=>Z (c,.sym (.sl (iq a new)),s)
  |.sh o e=>match s.ob.get o with
   |some (.arr z a era)=>
    bif Nl s.fl o&&Nq e era&&Nq z sz&&!(sJ y).contains o then
     Z (q/\jo new sz/\uV (iq a new) b/\D.Sr a new,.sh o (Ns era),{s with ob:=s.ob.set aO o (.arr sz (iq a new) (Ns era))})
    else Y
   |_=>Y
  |_=>Y
 |_,_=>Y
def fC(E:Env)(s:St)(b:Builtin)(a:Array TypeId)(args:L T):SX:=
 match b,args with
 |.len,[x]=>match zB x,(nth a.toList 0).bind E.ti with
  |some (p,b),Z i=>match i.kd with
   |.leaf .str=>Z (p,.sym (.lit (.int .i64 (uG b))),s)|.slice _ _ _ _=>(AZ s x).map λ(p,c)=>(p,.sym (.lit (.int .i64 (eE c))),s)|_=>Y
  |none,Z i=>match i.kd with
   |.slice _ _ _ _=>(AZ s x).map λ(p,c)=>(p,.sym (.lit (.int .i64 (eE c))),s)|_=>Y
  |_,_=>Y
 |.append,[x,y]=>match a.toList with
  |[t,u]=>match E.ti t,E.ti u with
   |some i,Z j=>match j.kd with
    |.slice _ _ _ _=>uv i s x y|_=>Y
   |_,_=>Y
  |_=>Y
 |_,_=>Y
end
end TL
namespace TL
open Go
def xd:T->L T->O (FuncId×L T)
 |.fn (.func f) first cap,args=>Z (f,first++args++cap)
 |_,_=>Y
section
variable (E:Env)
def gamT(s:St)(f:FuncId)(args:L T):O (Prop×T×St):=
 match E.Hv f with
 |none=>Y|some c=>match nH s args with
  |none=>Y|some (p,ds,os)=>(freeze s os).map λa=>(p/\c.pre ds,.sym (c.f ds),a)
abbrev ak6:=FuncId->L T->St->(T->St->Prop)->(T->St->Prop)->Prop
variable (call:ak6)
def aho(fr:Fr):O Nat->aa
 |none=>W|some d=>Nt d fr.n
end
def Bm:L T->Nat->Tr T->Tr T
 |[],_,t=>t|a::l,k,t=>Bm l (Ns k) (t.set aO k a)
def mg(E:Env)(s:St)(fr:Fr):L ResultVar->O (Prop×L T)
 |[]=>Z (True,[])|.tmp t::l=>match fr.get t,mg E s fr l with
  |some x,Z (p,r)=>Z (p,x::r)|_,_=>Y
 |.cell a t::l=>match(E.ti t),fr.get a with
  |some i,Z a=>match loadT i s a,mg E s fr l with
   |some (p,x,_),Z (q,r)=>Z (p/\q,x::r)|_,_=>Y
  |_,_=>Y
def adV:L T->T
 |[x]=>x|l=>.gG l
end TL
namespace TL
theorem bS{α:Type}(l:L α):cC l=l.length:=by
 induction l with|nil=>rfl|cons a l b=>simp[cC,b]
theorem jP{α:Type}(l:L α)(k:Nat):nth l k=l[k]?:=by
 induction l generalizing k with
 |nil=>cases k<;>rfl
 |cons a l b=>cases k with|zero=>rfl|succ k=>simp[nth,b]
namespace Tr
variable {α:Type}
theorem get_nil(k:Nat):(Tr.nil:Tr α).get k=Y:=by cases k<;>rfl
theorem iO(v:O α)(l r:Tr α):(Tr.node v l r).get 0=v:=by simp[get]
def dz(v:O α)(l r:Tr α)(k:Nat):(Tr.node v l r).get (k+1)=if k%2=0 then l.get (k/2)else r.get (k/2):=by
 simp[get];by_cases h:k%2=0;have:Nq (Nat.mod k 2) 0=W:=by show Nq (k%2) 0=W;rw[h];rfl
 simp[this,h];rfl;have:Nq (Nat.mod k 2) 0=J:=by
  show Nq (k%2) 0=J;have:k%2=1:=by omega
  rw[this];rfl
 simp[this,h];rfl
theorem Hj(n:Nat)(v:O α)(l r:Tr α)(x:α):Tr.set (n+1) (.node v l r) 0 x=.node (Z x) l r:=rfl
theorem zF(n:Nat)(x:α):Tr.set (n+1) .nil 0 x=.node (Z x) .nil .nil:=rfl
def ny(n:Nat)(v:O α)(l r:Tr α)(k:Nat)(x:α) :
  Tr.set (n+1) (.node v l r) (k+1) x=if k%2=0 then .node v (Tr.set n l (k/2) x) r else .node v l (Tr.set n r (k/2) x):=by
 simp[set];by_cases h:k%2=0;have:Nq (Nat.mod k 2) 0=W:=by show Nq (k%2) 0=W;rw[h];rfl
 simp[this,h];rfl;have:Nq (Nat.mod k 2) 0=J:=by
  show Nq (k%2) 0=J;have:k%2=1:=by omega
  rw[this];rfl
 simp[this,h];rfl
def oL(n:Nat)(k:Nat)(x:α) :
  Tr.set (n+1) .nil (k+1) x=if k%2=0 then .node Y (Tr.set n .nil (k/2) x) .nil else .node Y .nil (Tr.set n .nil (k/2) x):=by
 simp[set];by_cases h:k%2=0;have:Nq (Nat.mod k 2) 0=W:=by show Nq (k%2) 0=W;rw[h];rfl
 simp[this,h];rfl;have:Nq (Nat.mod k 2) 0=J:=by
  show Nq (k%2) 0=J;have:k%2=1:=by omega
  rw[this];rfl
 simp[this,h];rfl
def abL(n:Nat):∀(t:Tr α)(k j:Nat)(x:α),k+1<2 ^ n->(Tr.set n t k x).get j=if j=k then Z x else t.get j:=by
 induction n with
 |zero=>omega|succ n d=>
  intro t k j x h;cases k with
  |zero=>
   cases t with
   |nil=>
    rw[zF];cases j with|zero=>rfl|succ j=>rw[dz];simp[get_nil]
   |node v l r=>
    cases j with|zero=>rfl|succ j=>rfl
  |succ k=>
   have c:k/2+1<2 ^ n:=by omega
   cases t with
   |nil=>
    rw[oL];cases j with
    |zero=>split<;>simp[iO,get_nil]
    |succ j=>
     by_cases a:k%2=0;rw[bO a,dz,get_nil];by_cases b:j%2=0
     grind[get_nil]
     rw[cm b,get_nil,cm (by omega)];rw[cm a,dz,get_nil];by_cases b:j%2=0;rw[bO b,get_nil,cm (by omega)]
     grind[get_nil]
   |node v l r=>
    rw[ny];cases j with
    |zero=>split<;>simp[iO]
    |succ j=>
     by_cases a:k%2=0;rw[bO a,dz,dz]
     grind
     rw[cm a,dz,dz]
     grind
def aV(t:Tr α)(k j:Nat)(x:α)(h:k<bD):(Tr.set aO t k x).get j=if j=k then Z x else t.get j:=
 abL _ _ _ _ _ (by unfold aO;unfold bD at h;omega)
end Tr
end TL
namespace TL
open Go
section
structure eU where
 a:Option Addr
 len:Nat
 cap:Nat
 sz:Nat
structure Gh where
 bP:Nat->Option Nat
 arr:Nat->Nat->Option eU
 bp:Nat->Prop
inductive dF(I:Nat->Prop)(w:av):D->az->Prop where
 |lit (v:az):dF I w (.lit v) v|sl (es:List D) (a:Option Addr) (cap sz:Nat) (val:Nat->Nat->az)
   (hcap:es.length<=cap) (hsz:∀d∈es,d.cells.length=sz) (hby:∀d∈es,es.length*d.r7<=281474976710656)
   (ha:es≠[]->∃ad,a=Z ad/\I ad.block/\∀i j d c,es[i]?=Z d->d.cells[j]?=Z c->w.cell? (ad.add (i*sz+j))=Z (val i j))
   (hc:∀i j d c,es[i]?=Z d->d.cells[j]?=Z c->dF I w c (val i j)):dF I w (.sl es) (.slice a es.length cap)
 |agg (cs:List D) (vs:Array az) (hl:cs.length=vs.size) (hf:∀c∈cs,c.leaf=W)
   (h:∀(j:Nat)(c:D)(v:az),cs[j]?=Z c->vs[j]?=Z v->dF I w c v):dF I w (.agg cs) (.agg vs)
 |de (t:TypeId) (d:D) (v:az) (h:dF I w d v):dF I w (.de t d) (.iface t v)|gG (ds:List D) (vs:Array az) (hl:ds.length=vs.size)
   (h:∀(j:Nat)(c:D)(v:az),ds[j]?=Z c->vs[j]?=Z v->dF I w c v):dF I w (.gG ds) (.tuple vs)
 |pt (d:D) (ad:Addr) (val:Nat->az) (hi:I ad.block) (hc:∀j c,d.cells[j]?=Z c->w.cell? (ad.add j)=Z (val j))
   (hd:∀j c,d.cells[j]?=Z c->dF I w c (val j)):dF I w (.pt d) (.pointer (Z (ad.add 0)))
 |mp (ks vs:List D) (b:Nat) (ms:Array MapEntry) (n:Nat) (hi:I b) (hb:w.heap[b]?=Z (.map ms n)) (h1:ks.length=ms.size) (h2:vs.length=ms.size)
   (hk:∀(j:Nat)(c:D)(m:MapEntry),ks[j]?=Z c->ms[j]?=Z m->dF I w c m.key) (hv:∀(j:Nat)(c:D)(m:MapEntry),vs[j]?=Z c->ms[j]?=Z m->dF I w c m.val):dF I w (.mp ks vs) (.map (Z b))
def jE(I:Nat->Prop)(w w':av):Prop:=∀b,I b->w'.heap[b]?=w.heap[b]?
theorem jE.cell{I:Nat->Prop}{w w':av}(h:jE I w w'){a:Addr}(b:I a.block):w'.cell? a=w.cell? a:=by unfold World.cell?;rw[h _ b]
def kq(a:Addr)(n:Nat):(a.add n).block=a.block:=by unfold Addr.add;split<;>rfl
theorem dF.mono{I z:Nat->Prop}{w w':av}(m:jE I w w')(o:∀b,I b->z b){d:D}{v:az}(h:dF I w d v):dF z w' d v:=by
 induction h with
 |lit v=>exact .lit v|sl B a cap sz val f p q C A e=>
  refine .sl B a cap sz val f p q (λr=>?_) e
  let ⟨s,E,l,u⟩:=C r
  refine⟨s,E,o _ l,λi j d c F K=>?_⟩;rw[m.cell (by rw[kq];exact l)]
  simp_all
 |agg P g x Q h e=>exact .agg P g x Q e|de t d v h e=>exact .de t d v e|gG ds g x h e=>exact .gG ds g x e|pt d s val k A F e=>exact .pt d s val (o _ k) (λj c R=>by rw[m.cell (by rw[kq];exact k)];exact A j c R) e
 |mp S g b ms n k l h1 h2 _ _ e y=>exact .mp S g b ms n (o _ k) (by rw[m b k];exact l) h1 h2 e y
def rc(r i:Nat):Nat:=2 ^ r*(2*i+1)
def jh(nj:Nat)(d:D)(h:az):D:=.agg (d.cells.set nj (.lit h))
inductive aH(g:Gh)(w:av):T->az->Prop where
 |sym (d:D) (v:az) (h:dF g.bp w d v):aH g w (.sym d) v|kb (b:aa):aH g w (.kb b) (.bool b)|kn (k:IntKind) (n:Int):aH g w (.kn k n) (.int k n)|ptr (o off b:Nat) (h:g.bP o=Z b):aH g w (.ptr o off) (.pointer (Z ⟨b,off,Y⟩))|lD (d:D) (off:Nat) (ad:Addr) (val:Nat->az) (hi:g.bp ad.block)
   (hc:∀j c,d.cells[j]?=Z c->w.cell? (ad.add j)=Z (val j)) (hd:∀j c,d.cells[j]?=Z c->dF g.bp w c (val j)) :
   aH g w (.lD d off) (.pointer (Z (ad.add off)))
 |lC (o e i off len cap sz:Nat) (ad:Addr) (h:g.arr o e=Z ⟨Z ad,len,cap,sz⟩):aH g w (.lC o e i off) (.pointer (Z (ad.add (i*sz+off))))|sh (o e len cap sz:Nat) (a:Option Addr) (h:g.arr o e=Z ⟨a,len,cap,sz⟩):aH g w (.sh o e) (.slice a len cap)|emp (a:Option Addr):aH g w .emp (.slice a 0 0)|j4 (n:Nat) (es:List D) (a:Option Addr) (hn:n<=es.length) (h:dF g.bp w (.sl es) (.slice a es.length es.length)):aH g w (.j4 n es) (.slice a es.length es.length)|fn (f:Fn) (fs cs:List T) (va vc:Array az) (hl:fs.length=va.size) (hm:cs.length=vc.size)
   (h:∀(j:Nat)(t:T)(v:az),fs[j]?=Z t->va[j]?=Z v->aH g w t v)
   (h':∀(j:Nat)(t:T)(v:az),cs[j]?=Z t->vc[j]?=Z v->aH g w t v):aH g w (.fn f fs cs) (.func f va vc)
 |de (t:TypeId) (x:T) (v:az) (h:aH g w x v):aH g w (.de t x) (.iface t v)|agg (cs:List T) (vs:Array az) (hl:cs.length=vs.size)
   (h:∀(j:Nat)(t:T)(v:az),cs[j]?=Z t->vs[j]?=Z v->aH g w t v):aH g w (.agg cs) (.agg vs)
 |gG (cs:List T) (vs:Array az) (hl:cs.length=vs.size)
   (h:∀(j:Nat)(t:T)(v:az),cs[j]?=Z t->vs[j]?=Z v->aH g w t v):aH g w (.gG cs) (.tuple vs)
 |gd (c:aa) (t:T) (v:az) (h:c=W->aH g w t v):aH g w (.gd c t) v|mp (o b:Nat) (h:g.bP o=Z b):aH g w (.mp o) (.map (Z b))|qN (o b:Nat) (h:g.bP o=Z b):aH g w (.qN o) (.func (.yield b) #[] #[])|tD (o b:Nat) (h:g.bP o=Z b):aH g w (.tD o) (.pointer (Z ⟨b,0,Y⟩))|ub (e b:aa) (h:b=W->e=W):aH g w (.ub e) (.bool b)|rQ (o m r i len cap sz:Nat) (a:Option Addr) (h:g.arr m (rc r i)=Z ⟨a,len,cap,sz⟩):aH g w (.rQ o m r i) (.slice a len cap)|o6 (j:Nat) (d:D) (c:Option Addr) (a:Option Addr) (hj:d.cells[j]?=Z (.sl [])) (hd:dF g.bp w (.sl [jh j d (.slice c 0 0)]) (.slice a 1 1)):aH g w (.o6 j d) (.slice a 1 1)
inductive gM(g:Gh)(w:av):Ob->Obj->Prop where
 |box (cs:List T) (vs:Array az) (ty:TypeId) (hl:cs.length=vs.size) (h:∀(j:Nat)(t:T)(v:az),cs[j]?=Z t->vs[j]?=Z v->aH g w t v):gM g w (.box cs) (.cells vs ty (0,0))|map (es:List (T×T)) (ms:Array MapEntry) (c:Nat) (hl:es.length=ms.size)
   (h:∀(j:Nat)(t:T×T)(m:MapEntry),es[j]?=Z t->ms[j]?=Z m->aH g w t.1 m.key/\aH g w t.2 m.val):gM g w (.map es) (.map ms c)
 |qO (s:ByteArray) (pos:Nat):gM g w (.qO s pos) (.stringIter s pos)|lp (l:Lp) (r:Loop) (h1:r.state=l.st) (h2:r.pending=l.u0) (h4:r.params.toList=l.params) (h5:r.assign=l.assign) (h6:r.body=l.body)
   (h8:r.tmps.size=l.fr.n) (h9:∀k t,l.fr.get k=Z t->∃v,r.tmps[k]?=Z v/\aH g w t v):gM g w (.lp l) (.loop r)
 |zm:gM g w .zm (.deferred (Z []))
def bx(g:Gh)(o b:Nat):Prop:=¬g.bp b/\(g.bP o=Z b\/∃e x ad,g.arr o e=Z x/\x.a=Z ad/\ad.block=b/\x.cap≠0)
structure wQ(g:Gh)(w:av)(fz:aa)(sz:Nat)(es:List D)(x:eU):Prop where
 len:x.len=es.length
 cap:x.len<=x.cap
 rows:∀d∈es,d.cells.length=sz
 pos:0<sz
 VC:∀d∈es,es.length*d.r7<=281474976710656
 mem:x.cap≠0->∃b vs ty,x.a=Z ⟨b,0,Y⟩/\(fz=W↔g.bp b)/\w.heap[b]?=Z (.cells vs ty (0,0))/\x.cap*sz<=vs.size/\
  ∀i d j c,es[i]?=Z d->d.cells[j]?=Z c->∃v,vs[i*sz+j]?=Z v/\dF g.bp w c v
def fM(fz:aa)(sz:Nat)(es:L D)(era:Nat):Ob:=if fz then .kM sz es era else .arr sz es era
def wM(g:Gh)(s:St)(w:av)(o b:Nat):Prop:=
 ¬g.bp b/\b<w.heap.size/\∀ob,s.ob.get o=Z ob->∃h,w.heap[b]?=Z h/\gM g w ob h
def wM.box{g:Gh}{s:St}{w:av}{o b:Nat}(h:wM g s w o b){cs:L T}(c:s.ob.get o=Z (.box cs)) :
  ∃vs ty,w.heap[b]?=Z (.cells vs ty (0,0))/\cs.length=vs.size/\∀(j:Nat)(t:T)(v:az),cs[j]?=Z t->vs[j]?=Z v->aH g w t v:=by
 let ⟨x,d,a⟩:=h.2.2 _ c
 cases a with|box cs vs ty e a=>grind
variable {s:St}{w w':av}{o b e fl:Nat}{ob:Ob}{d:Df}{v:az}{t:T}{p:T->aa}
def wM.Bg{g:Gh}(h:wM g s w o b)(fz:aa){sz:Nat}{es:L D}(a:s.ob.get o=Z (if fz then .kM sz es e else .arr sz es e)):False:=by
 let ⟨x,d,c⟩:=h.2.2 _ a
 cases fz<;>cases c
def gM.Bg{g:Gh}{h:Obj}(a:gM g w ob h):ob.nP=J:=by cases a<;>rfl
def eU.at(x:eU)(b:Nat):Prop:=∃ad,x.a=Z ad/\ad.block=b/\x.cap≠0
def lits(nj:Nat)(es:L D)(hs:L az):L D:=List.zipWith (jh nj) es hs
def HK(g:Gh)(m gR:Nat)(hole:O Nat)(hs:L az):Prop:=
 (∀(i:Nat)(h:az),hs[i]?=Z h->∃a n k,h=.slice a n k)/\∀(i:Nat)(h:az),hs[i]?=Z h->hole≠Z i->∃y,g.arr m (rc gR i)=Z y/\h=.slice y.a y.len y.cap
def SY(g:Gh)(w:av)(o e:Nat)(x:eU)(ob:Ob):Prop:=
 ∃fz es era,ob=fM fz x.sz es era/\e<=era/\(∀a,era<a->g.arr o a=Y)/\(e=era->wQ g w fz x.sz es x)
def akY(g:Gh)(w:av)(o e:Nat)(x:eU)(ob:Ob):Prop:=
 ∃nj es era m gR hole,ob=.kT nj x.sz es era m gR hole/\e<=era/\(∀a,era<a->g.arr o a=Y)/\
  (e=era->∃hs,hs.length=es.length/\wQ g w J x.sz (lits nj es hs) x/\HK g m gR hole hs)
def akP(g:Gh)(w:av)(o e:Nat)(x:eU)(ob:Ob):Prop:=
 ∃sz iG gR,ob=.rws sz iG gR/\(∀r i,gR<r->g.arr o (rc r i)=Y)/\
  (∀i a y c,i≠a->g.arr o (rc gR i)=Z y->g.arr o (rc gR a)=Z c->∀b,y.at b->¬c.at b)/\
  (∀i,e=rc gR i->x.sz=sz/\∃d,iG[i]?=Z d/\wQ g w J sz d x)
def akZ(g:Gh)(w:av)(e:Nat)(x:eU)(ob:Ob):Prop:=
 ob=.E5/\x.a=Z ⟨e,0,Y⟩/\x.cap≠0/\¬g.bp e/\w.heap[e]?=Z (.deferred (Z []))
def uW(g:Gh)(w:av)(o e:Nat)(x:eU)(ob:Ob):Prop:=
 SY g w o e x ob\/akY g w o e x ob\/akP g w o e x ob\/ob=.gone\/akZ g w e x ob
def uW.nP{g:Gh}{w:av}{o e:Nat}{x:eU}{ob:Ob}(h:uW g w o e x ob):ob.nP=W:=by
 obtain⟨a,_,_,rfl,_⟩|⟨_,_,_,_,_,_,rfl,_⟩|⟨_,_,_,rfl,_⟩|rfl|⟨rfl,_⟩:=h
 cases a<;>rfl;rfl;rfl;rfl;rfl
def uW.old{g:Gh}{x:eU}(h:uW g w o e x ob)(hi:ob.isA=W):SY g w o e x ob:=by
 obtain h|⟨_,_,_,_,_,_,rfl,_⟩|⟨_,_,_,rfl,_⟩|rfl|⟨rfl,_⟩:=h
 exact h;iterate 4 cases hi
def AO(g:Gh)(s:St)(w:av)(o e:Nat)(x:eU):Prop:=
 (∀ad,x.a=Z ad->x.cap≠0->ad.block<w.heap.size)/\∀ob,s.ob.get o=Z ob->uW g w o e x ob
def AO.old{g:Gh}{s:St}{w:av}{o e:Nat}{x:eU}(h:AO g s w o e x)(ob:Ob)(b:s.ob.get o=Z ob)(hi:ob.isA=W) :
  ∃fz es era,ob=fM fz x.sz es era/\e<=era/\(∀a,era<a->g.arr o a=Y)/\(e=era->wQ g w fz x.sz es x):=(h.2 ob b).old hi
def U7(fz:aa)(sz:Nat)(es:L D)(era:Nat):(fM fz sz es era).isA=W:=by cases fz<;>rfl
structure aY(g:Gh)(s:St)(w:av):Prop where
 aF:s.aF<=bD
 ai:∀o,s.aF<=o->g.bP o=Y/\∀e,g.arr o e=Y
 box:∀o b,g.bP o=Z b->wM g s w o b
 arr:∀o e x,g.arr o e=Z x->AO g s w o e x
 bp:∀b,g.bp b->b<w.heap.size
 jF:∀o o' b,bx g o b->bx g o' b->o=o'
inductive wL(g:Gh)(w:av):Df->Deferred->Prop where
 |call (f:T) (args:List T) (fv:Fn) (first cap VK:Array az) (h3:aH g w f (.func fv first cap)) (h4:args.length=VK.size)
   (h5:∀(j:Nat)(t:T)(v:az),args[j]?=Z t->VK[j]?=Z v->aH g w t v):wL g w (.call f args) {target:=.fn fv cap,args:=first++VK}
 |mark (o b:Nat) (h:g.bP o=Z b):wL g w (.mark o) {target:=.collected b,args:=#[]}|bad (d:Deferred):wL g w .bad d
inductive eH(g:Gh)(w:av):List Df->List Deferred->Prop where
 |nil:eH g w [] []|cons {d:Df} {e:Deferred} {l:List Df} {m:List Deferred} (h:wL g w d e) (t:eH g w l m):eH g w (d::l) (e::m)
 |marks (o:Nat) (bs:List Nat) {l:List Df} {m:List Deferred} (hn:bs.Nodup) (h:∀b∈bs,∃n c,aH g w (.sh o b) (.slice (Z ⟨b,0,Y⟩) n c)) (t:eH g w l m):eH g w (.marks o::l) (bs.map (λb=>{target:=.collected b,args:=#[]})++m)
 |jZ (xs:List Deferred) {l:List Df} {m:List Deferred} (t:eH g w l m):eH g w (.jZ::l) (xs++m)
structure cS(g:Gh)(fr:Fr)(a:Act)(w:av):Prop where
 size:a.tmps.size=fr.n
 df:eH g w fr.df a.defers
 tm:∀k t,fr.get k=Z t->∃v,a.tmps[k]?=Z v/\aH g w t v
structure Ext(fl:Nat)(g:Gh)(w:av)(g':Gh)(w':av):Prop where
 bP:∀o b,g.bP o=Z b->g'.bP o=Z b
 arr:∀o e x,g.arr o e=Z x->g'.arr o e=Z x
 bp:∀b,g.bp b->g'.bp b
 size:w.heap.size<=w'.heap.size
 heap:∀b,b<w.heap.size->(∀o,fl<=o->¬bx g o b)->w'.heap[b]?=w.heap[b]?
 own:∀o b,bx g' o b->bx g o b\/w.heap.size<=b
 nQ:∀b,g'.bp b->g.bp b\/w.heap.size<=b\/∃o,fl<=o/\bx g o b
 os:w'.os=w.os
 output:w'.output=w.output
theorem Ext.refl(fl:Nat)(g:Gh)(w:av):Ext fl g w g w:=
 ⟨λ_ _ h=>h,λ_ _ _ h=>h,λ_ h=>h,cM _,λ_ _ _=>rfl,λ_ _ h=>.inl h,λ_ h=>.inl h,rfl,rfl⟩
def Ext.trans{fl:Nat}{g g' d:Gh}{w w' f:av}(h:Ext fl g w g' w')(k:Ext fl g' w' d f):Ext fl g w d f where
 bP o b e:=k.bP o b (h.bP o b e)
 arr o e x i:=k.arr o e x (h.arr o e x i)
 bp b e:=k.bp b (h.bp b e)
 size:=fP h.size k.size
 heap b c j:=by
  rw[k.heap b (iE c h.size) (λo l a=>?_),h.heap b c j];obtain a|a:=h.own o b a
  grind
  omega
 own o b a:=by
  obtain a|a:=k.own o b a
  exact h.own o b a;exact .inr (fP h.size a)
 nQ b c:=by
  obtain c|c|⟨o,l,a⟩:=k.nQ b c
  exact h.nQ b c;exact .inr (.inl (fP h.size c));obtain a|a:=h.own o b a
  grind
  omega
 os:=k.os.trans h.os
 output:=k.output.trans h.output
def Ext.keeps{g g':Gh}(h:Ext fl g w g' w')(hi:∀b,g.bp b->b<w.heap.size):jE g.bp w w':=
 λb a=>h.heap b (hi b a) λ_ _ c=>c.1 a
def dF.ext{g g':Gh}(h:Ext fl g w g' w')(hi:∀b,g.bp b->b<w.heap.size){d:D}(a:dF g.bp w d v):dF g'.bp w' d v:=
 a.mono (h.keeps hi) h.bp
def aH.ext{fl:Nat}{g g':Gh}{w w':av}(h:Ext fl g w g' w')(hi:∀b,g.bp b->b<w.heap.size){t:T}{v:az}(F:aH g w t v):aH g' w' t v:=by
 induction F with|sym d v p=>exact .sym d v (p.ext h hi)|kb b=>exact .kb b|kn k n=>exact .kn k n|ptr o off b q=>exact .ptr o off b (h.bP o b q)|lD d off B val s hc p=>exact .lD d off B val (h.bp _ s) (λj c A=>by rw[(h.keeps hi).cell (by rw[kq];exact s)];grind) (λj c A=>(p j c A).ext h hi)|lC o e i off len cap sz B u=>exact .lC o e i off len cap sz B (h.arr _ _ _ u)|sh o e len cap sz a u=>exact .sh o e len cap sz a (h.arr _ _ _ u)|emp a=>exact .emp a|j4 n I a K p=>exact .j4 n I a K (p.ext h hi)|fn f P y Q R z S _ _ l C=>exact .fn f P y Q R z S l C|de t x v _ l=>exact .de t x v l|agg y E z _ l=>exact .agg y E z l|gG y E z _ l=>exact .gG y E z l|gd c t v _ l=>exact .gd c t v l|mp o b q=>exact .mp o b (h.bP o b q)|qN o b q=>exact .qN o b (h.bP o b q)|tD o b q=>exact .tD o b (h.bP o b q)|ub e b h=>exact .ub e b h|rQ o m r i len cap sz a u=>exact .rQ o m r i len cap sz a (h.arr _ _ _ u)|o6 j d c a A p=>exact .o6 j d c a A (p.ext h hi)
def aH.apx{g g':Gh}(A:∀k j y,g.arr k j=Z y->g'.arr k j=Z y)(z:g'.bP=g.bP)(hi:g'.bp=g.bp)(K:aH g w t v):aH g' w t v:=by
 induction K with|sym d v p=>exact .sym d v (hi▸p)|kb b=>exact .kb b|kn k n=>exact .kn k n|ptr o off b h=>exact .ptr o off b (z▸h)|lD d off B val C P p=>exact .lD d off B val (hi▸C) P (λj c E=>hi▸p j c E)|lC o e i off len cap sz B q=>exact .lC o e i off len cap sz B (A _ _ _ q)|sh o e len cap sz a q=>exact .sh o e len cap sz a (A _ _ _ q)|emp a=>exact .emp a|j4 n Q a R p=>exact .j4 n Q a R (hi▸p)|fn f S s va vc u hm _ _ l F=>exact .fn f S s va vc u hm l F|de t x v _ l=>exact .de t x v l|agg s I u _ l=>exact .agg s I u l|gG s I u _ l=>exact .gG s I u l|gd c t v _ l=>exact .gd c t v l|mp o b h=>exact .mp o b (z▸h)|qN o b h=>exact .qN o b (z▸h)|tD o b h=>exact .tD o b (z▸h)|ub e b h=>exact .ub e b h|rQ o m r i len cap sz a q=>exact .rQ o m r i len cap sz a (A _ _ _ q)|o6 j d c a E p=>exact .o6 j d c a E (hi▸p)
def gM.imp{g g':Gh}(b:∀t v,aH g w t v->aH g' w' t v){x:Obj}(a:gM g w ob x):gM g' w' ob x:=by
 cases a with
 |box e f ty d a=>exact .box e f ty d λj t v h1 h2=>b _ _ (a j t v h1 h2)|map h i c d a=>exact .map h i c d λj t m h1 h2=>⟨b _ _ (a j t m h1 h2).1,b _ _ (a j t m h1 h2).2⟩|qO s pos=>exact .qO s pos|lp l r h1 h2 h4 h5 h6 n o=>exact .lp l r h1 h2 h4 h5 h6 n λk t p=>let ⟨v,q,u⟩:=o k t p;⟨v,q,b _ _ u⟩
 |zm=>exact .zm
def gM.ext{fl:Nat}{g g':Gh}{w w':av}(h:Ext fl g w g' w')(hi:∀b,g.bp b->b<w.heap.size){ob:Ob}{x:Obj}(a:gM g w ob x):gM g' w' ob x:=
 a.imp (λ_ _ c=>c.ext h hi)
def uT(p:T->aa)(t u:T):Prop:=(u=t/\p t=J)\/∃v,u=.gd J v
def rF(p:T->aa)(ob a:Ob):Prop:=
 match ob,a with
 |.box cs,.box ds=>cs.length=ds.length/\∀(j:Nat)(t u:T),cs[j]?=Z t->ds[j]?=Z u->uT p t u|.map es,.map ds=>es.length=ds.length/\∀(j:Nat)(t u:T×T),es[j]?=Z t->ds[j]?=Z u->uT p t.1 u.1/\uT p t.2 u.2|.kT nj sz es era m gR hole,a=>(a=.kT nj sz es era m gR hole/\p (.sh m 0)=J)\/a=.gone|.lp l,.lp m=>m={l with fr:=m.fr}/\m.fr.n=l.fr.n/\∀k u,m.fr.get k=Z u->∃t,l.fr.get k=Z t/\uT p t u
 |ob,a=>ob=a
def uT.rel{g g':Gh}(a:∀t v,aH g w t v->p t=J->aH g' w' t v){u:T}(h:uT p t u)(b:aH g w t v):aH g' w' u v:=by
 obtain⟨rfl,c⟩|⟨x,rfl⟩:=h
 grind
 exact .gd _ _ _ λh=>by cases h
def gM.left{g g':Gh}(i:∀t v,aH g w t v->p t=J->aH g' w' t v){a:Ob}{x:Obj}(b:gM g w ob x)(hl:rF p ob a):gM g' w' a x:=by
 cases b with
 |box z A ty d b=>
  cases a with
  |box ds=>
   let ⟨B,n⟩:=hl
   refine .box ds A ty (by omega) λj u v f o=>?_;have h:j<z.length:=by grind
   exact(n j _ u (iu h) f).rel i (b j _ v (iu h) o)
  |_=>cases hl
 |map C E c d b=>
  cases a with
  |map ds=>
   let ⟨B,n⟩:=hl
   refine .map ds E c (by omega) λj u m f F=>?_;have h:j<C.length:=by grind
   have h1:=n j _ u (iu h) f;have h2:=b j _ m (iu h) F;exact⟨h1.1.rel i h2.1,h1.2.rel i h2.2⟩
  |_=>cases hl
 |qO s pos=>cases a<;>first|(cases hl;exact .qO _ _)|cases hl
 |lp l r h1 h2 h4 h5 h6 I K=>
  cases a with
  |lp m=>
   let ⟨e,P,Q⟩:=hl
   rw[e];refine .lp _ r h1 h2 h4 h5 h6 (I.trans P.symm) λk u f=>?_
   let ⟨t,R,q⟩:=Q k u f
   let ⟨v,o,y⟩:=K k t R
   exact⟨v,o,q.rel i y⟩
  |_=>cases hl
 |zm=>cases a<;>first|exact .zm|cases hl
def wL.imp{g g':Gh}(c:∀t v,aH g w t v->aH g' w' t v)(i:∀o b,g.bP o=Z b->g'.bP o=Z b){e:Deferred}(h:wL g w d e):wL g' w' d e:=by
 cases h with
 |call f args k first cap a h3 h4 h5=>exact .call f args k first cap a (c _ _ h3) h4 (λj t v l m=>c _ _ (h5 j t v l m))
 |mark o b h=>exact .mark o b (i o b h)|bad=>exact .bad _
def eH.imp{g g':Gh}{w w':av}(e:∀t v,aH g w t v->aH g' w' t v)(f:∀o b,g.bP o=Z b->g'.bP o=Z b){l:L Df}{m:L Deferred}(h:eH g w l m):eH g' w' l m:=by
 induction h with|nil=>exact .nil|cons h _ a=>exact .cons (h.imp e f) a|marks o i j h _ a=>exact .marks o i j (λb d=>let ⟨n,c,h1⟩:=h b d;⟨n,c,e _ _ h1⟩) a|jZ k _ a=>exact .jZ k a
def QB(p:T->aa)(d e:Df):Prop:=(e=.bad/\d.one=W)\/(e=d/\match d with
 |.call f args=>p f=J/\∀t∈args,p t=J|.mark o=>p (.ptr o 0)=J|.marks _=>False|.jZ=>False|.bad=>True)
inductive ie(p:T->aa):List Df->List Df->Prop where
 |nil:ie p [] []|cons {d e:Df} {l m:List Df} (h:QB p d e) (t:ie p l m):ie p (d::l) (e::m)|marks (o:Nat) {l m:List Df} (h:∀e,p (.sh o e)=J) (t:ie p l m):ie p (.marks o::l) (.marks o::m)|aem (o:Nat) {l m:List Df} (t:ie p l m):ie p (.marks o::l) (.jZ::m)|jZ {l m:List Df} (t:ie p l m):ie p (.jZ::l) (.jZ::m)
def QB.rel{g g':Gh}(c:∀t v,aH g w t v->p t=J->aH g' w' t v){e:Df}{x:Deferred}(h:QB p d e)(l:wL g w d x):wL g' w' e x:=by
 obtain⟨rfl,_⟩|⟨rfl,h⟩:=h
 exact .bad _;cases l with
 |call f args m first cap a h3 h4 h5=>exact .call f args m first cap a (c _ _ h3 h.1) h4 (λj t v k n=>c _ _ (h5 j t v k n) (h.2 t (hU k)))
 |mark o b q=>
  have:=c _ _ (.ptr o 0 b q) h;cases this with|ptr _ _ _ i=>exact .mark o b i
 |bad=>exact .bad _
def ie.rel{g g':Gh}{w w':av}{p:T->aa}(a:∀t v,aH g w t v->p t=J->aH g' w' t v):∀{l m:L Df}{d:L Deferred},ie p l m->eH g w l d->eH g' w' m d
 |_,_,_,.nil,.nil=>.nil|_,_,_,.cons h t,.cons k u=>.cons (h.rel a k) (ie.rel a t u)|_,_,_,.cons h _,.marks _ _ _ _ _=>by obtain⟨_,h⟩|⟨_,h⟩:=h<;>cases h
 |_,_,_,.cons h _,.jZ _ _=>by obtain⟨_,h⟩|⟨_,h⟩:=h<;>cases h
 |_,_,_,.marks o h t,.marks _ e f k u=>.marks o e f (λb i=>let ⟨n,c,h1⟩:=k b i;⟨n,c,a _ _ h1 (h b)⟩) (ie.rel a t u)
 |_,_,_,.marks _ _ _,.cons k _=>by cases k
 |_,_,_,.aem o t,.marks _ e _ _ u=>.jZ _ (ie.rel a t u)|_,_,_,.aem _ _,.cons k _=>by cases k
 |_,_,_,.jZ t,.jZ d u=>.jZ d (ie.rel a t u)|_,_,_,.jZ _,.cons k _=>by cases k
def cS.ext{fl:Nat}{g g':Gh}{w w':av}(h:Ext fl g w g' w')(hi:∀b,g.bp b->b<w.heap.size){fr:Fr}{a:Act}(hf:cS g fr a w):cS g' fr a w':=
 ⟨hf.size,hf.df.imp (λ_ _ c=>c.ext h hi) h.bP,λk t d=>let ⟨v,e,c⟩:=hf.tm k t d;⟨v,e,c.ext h hi⟩⟩
end
section
def dV:TypeDesc->aa
 |.struct _|.array _ _=>W|_=>J
def afM(d:D)(v:az):Prop:=(d=.sl []/\v=.slice Y 0 0)\/d=.lit v
def ZOk(zero:L D)(cells:Array az):Prop:=
 zero.length=cells.size/\∀(j:Nat)(d:D)(v:az),zero[j]?=Z d->cells[j]?=Z v->afM d v
def ak2(P:cP):Kd->TypeDesc->Prop
 |.leaf (.int k),d=>d=.int k|.leaf .bool,d=>d=.bool|.leaf .str,d=>d=.string|.leaf .no,_=>True|.ptr,d=>∃e,d=.pointer e|.slice sz ag b zero,d=>∃e j a z,d=.slice e/\P.info? e=Z j/\j.size=sz/\P.underlying e=Z a/\ag=dV a/\j.zero=Z z/\ZOk zero z.cells/\j.bytes<=4096/\0<sz/\j.bytes<=b/\b<=2*j.bytes/\0<j.bytes/\zero.length=sz|.struct c,d=>∃fields,d=.struct fields/\fields.size=c.length/\∀(k:Nat)off size ag,c[k]?=Z (off,size,ag)->
   ∃f j a,fields[k]?=Z f/\f.offset=off/\P.info? f.type=Z j/\j.size=size/\P.underlying f.type=Z a/\ag=dV a
 |.array len sz ag,d=>∃e j a,d=.array len e/\P.info? e=Z j/\j.size=sz/\P.underlying e=Z a/\ag=dV a|.iface,d=>∃g,d=.interface g|.other,_=>True
def AJ:Lk->az->Prop
 |.int k,v=>∃n,v=.int k n|.bool,v=>∃b,v=.bool b|.str,v=>∃b,v=.string b|.no,_=>False
def FL:az->az->aa
 |.int _ a,.int _ b=>a==b|.bool a,.bool b=>a==b|.string a,.string b=>a==b|_,_=>J
def m9:L az->L az->aa
 |a::l,b::m=>FL a b&&m9 l m|_,_=>W
def aga(P:cP)(t:TypeId)(a:L Lk):Prop:=
 ∀(w:av)(op:BinOp)(x y:Operand)(b ys:Array az),b.size=a.length->ys.size=a.length->
  (∀(j:Nat)(l:Lk)(v:az),a[j]?=Z l->b[j]?=Z v->AJ l v)->(∀(j:Nat)(l:Lk)(v:az),a[j]?=Z l->ys[j]?=Z v->AJ l v)->
  (eqGuard op t x y (.agg b) (.agg ys)).run P w=.ok () w/\(Op.equal t (.agg b) (.agg ys)).run P w=.ok (m9 b.toList ys.toList) w
structure mM(P:cP)(t:TypeId)(i:TI):Prop where
 eqs:i.agg=W->i.lks≠[]->aga P t i.lks
 nif:∀ms,P.underlying t=Z (.interface ms)->i.kd=.iface
 zag:∀x z,P.info? t=Z x->x.zero=Z z->(i.agg=W->∃vs,z=.agg vs)/\(i.agg=J->z.cells=#[z])
 all:∃x d z,P.info? t=Z x/\P.underlying t=Z d/\x.size=i.size/\i.agg=dV d/\x.zero=Z z/\ZOk i.zero z.cells/\ak2 P i.kd d
section
variable {P:cP}
def aN{t:TypeId}{d:TypeDesc}(h:P.underlying t=Z d)(w:av):(underlying t).run P w=.ok d w:=by simp[underlying,h]
def rJ{t:TypeId}{x:TypeInfo}(h:P.info? t=Z x)(w:av):(typeInfo t).run P w=.ok x w:=by simp[typeInfo,h]
def dm{t:TypeId}{x:TypeInfo}(h:P.info? t=Z x)(w:av):(Go.sizeOf t).run P w=.ok x.size w:=by simp[Go.sizeOf,rJ h]
def tH{t:TypeId}{d:TypeDesc}(h:P.underlying t=Z d)(w:av):(isAgg t).run P w=.ok (dV d) w:=by simp[isAgg,run_bind,aN h,andThen_ok];cases d<;>rfl
def ef{t:TypeId}{x:TypeInfo}{z:az}(h:P.info? t=Z x)(a:x.zero=Z z)(w:av):(zeroValue t).run P w=.ok z w:=by simp[zeroValue,rJ h,a]
theorem beq_iff'{a b:Nat}:Nq a b=W↔a=b:=by
 simp_all
def zI{t:TypeId}{x:TypeInfo}{d:TypeDesc}(hi:P.info? t=Z x)(f:P.underlying t=Z d)(w:av)(a:Addr)(vals:L az)(hl:vals.length=x.size)
  (c:∀j v,vals[j]?=Z v->w.cell? (a.add j)=Z v) (h1:dV d=J->∃v,vals=[v]) :
  (loadVar t a).run P w=.ok (if dV d then .agg vals.toArray else vals.headD undef) w:=by
 have b:=run_loadCells_list (P:=P) w a vals c;simp only[loadVar,run_bind,tH f,andThen_ok];cases g:dV d with|true=>simp[dm hi,<-hl,b]|false=>obtain⟨v,rfl⟩:=h1 g;have e:=c 0 v rfl;simp[Addr.add]at e;simp[e]
end
variable {j:Nat}{ag:aa}{cs:List T}{t:T}{g:Gh}{w:av}
def ct{α:Type}{l:L α}{x:α}(h:l[j]?=Z x):j<l.length:=by
 grind
def yD{n k:Nat}(h:(List.range n)[j]?=Z k):j=k/\j<n:=by
 grind
theorem tc(a:Addr)(i j:Nat):(a.add i).add j=a.add (i+j):=by unfold Addr.add;by_cases b:i=0<;>by_cases c:j=0<;>simp[b,c,Nat.add_assoc]
def EV(h:vE ag cs=Z t):(ag=W/\t=.agg cs)\/(ag=J/\cs=[t]):=by
 unfold vE at h
 grind
def wZ(h:vE ag cs=Z t){vals:L az}(hl:cs.length=vals.length)
  (a:∀(j:Nat)(t:T)(v:az),cs[j]?=Z t->vals[j]?=Z v->aH g w t v) :
  aH g w t (if ag then .agg vals.toArray else vals.headD undef)/\(ag=J->∃v,vals=[v]):=by
 obtain⟨rfl,rfl⟩|⟨rfl,rfl⟩:=EV h
 exact⟨.agg _ _ (by simpa using hl) (λj t v h1 h2=>a j t v h1 (by simpa using h2)),λh=>by cases h⟩
 match vals,hl with
 |[v],_=>exact⟨a 0 _ _ rfl rfl,λ_=>⟨v,rfl⟩⟩
def rI{α:Type}(l:L α)(off n j:Nat)(x:α)(h:((l.drop off).take n)[j]?=Z x):l[off+j]?=Z x/\j<n:=by
 grind
theorem D.NI(d:D)(j:Nat)(h:j<d.cells.length):d.cells[j]?=Z (d.cell j):=by
 grind[D.cell]
def Co{P:cP}{ty:TypeId}{i:TI}(hi:mM P ty i){d:D}{off:Nat}(h:mO i d off=Z t)(o:d.has (Na off i.size))
  {ad:Addr} {val:Nat->az} (u:∀j c,d.cells[j]?=Z c->w.cell? (ad.add j)=Z (val j)) (y:∀j c,d.cells[j]?=Z c->dF g.bp w c (val j)) :
  ∃v,(loadVar ty (ad.add off)).run P w=.ok v w/\aH g w t v:=by
 let ⟨x,ds,z,p,q,l,b,_⟩:=hi.all
 have A:off+i.size<=d.cells.length:=o;have a:∀j,j<i.size->w.cell? ((ad.add off).add j)=Z (val (off+j))/\dF g.bp w (d.cell (off+j)) (val (off+j)):=by
  grind[tc,D.NI]
 have e:=zI (P:=P) p q w (ad.add off) ((List.range i.size).map λj=>val (off+j)) (by simp[l]) (λj v B=>by
  grind)
 unfold mO at h;cases n:i.agg with
 |true=>
  rw[n]at h b;simp at h;subst h;refine⟨_,e (λC=>by simp_all),?_⟩;rw[<-b];refine .agg _ _ (by simp) (λj t v h1 h2=>?_);simp at h1;obtain⟨k,r,rfl⟩:=h1;obtain⟨rfl,m⟩:=yD r;have s:v=val (off+j):=by
   simp_all
  subst s;exact .sym _ _ (a j m).2
 |false=>
  rw[n]at h b;by_cases h1:Nq i.size 1=W;simp[h1]at h;subst h;have f:=beq_iff'.1 h1;refine⟨_,e (λ_=>⟨val off,by simp[f]⟩),?_⟩;rw[<-b];have:=(a 0 (by omega)).2;simp[f];exact .sym _ _ (by omega)
  simp_all
end
section
def ah{α:Type}{b:aa}{x y:O α}{z:α}(h:(bif b then x else y)=Z z):(b=W/\x=Z z)\/(b=J/\y=Z z):=by
 grind
theorem vL{I:Nat->Prop}{w:av}{d:D}{v:az}(hl:d.leaf=W)(h:dF I w d v):v.oneCell'=W/\v.cells=#[v]:=by
 cases h with
 |lit v=>cases v<;>first|exact⟨rfl,rfl⟩|cases hl
 |sl=>exact⟨rfl,rfl⟩|agg=>cases hl
 |gG=>cases hl
 |_=>exact⟨rfl,rfl⟩
variable {g:Gh}{w:av}{t:T}{v:az}{i:TI}{s:St}{o e sz k:Nat}{es:List D}
def Tm(hl:t.leaf)(h:aH g w t v):v.oneCell'=W/\v.cells=#[v]:=by cases h with|sym d v a=>exact vL hl a|agg=>exact hl.elim|gG=>exact hl.elim|gd=>exact hl.elim|_=>exact⟨rfl,rfl⟩
def yQ{n:Nat}{d:D}(h:d.isAgg n=W):∃cs,d=.agg cs/\cs.length=n/\∀c∈cs,c.leaf=W:=by unfold D.isAgg at h;split at h;rename_i cs;simp only[eM]at h;refine⟨cs,rfl,?_,?_⟩;rw[<-bS];exact beq_iff'.1 h.1;simpa using h.2;cases h
def mB{p:Prop}{cs:L T}(h:jY i t=Z (p,cs))(q:p)(r:aH g w t v) :
  cs.length=i.size/\v.cells.size=i.size/\(∀(j:Nat)(t:T)(u:az),cs[j]?=Z t->v.cells[j]?=Z u->aH g w t u)/\
  (i.agg=W->∃vs,v=.agg vs)/\(i.agg=J->v.cells=#[v]/\i.size=1):=by
 cases r with
 |agg y vs f l=>
  obtain⟨b,h⟩|⟨_,h⟩:=ah h
  simp only[eM]at b;have c:=beq_iff'.1 b.2;rw[bS]at c;obtain⟨_,rfl⟩:=h;refine⟨c,by simp[Value.cells,<-f,c],λj t u h1 h2=>l j t u h1 h2,λ_=>⟨vs,rfl⟩,λe=>by simp_all⟩;cases h
 |sym d v m=>
  obtain⟨b,h⟩|⟨b,h⟩:=ah h
  .obtain ⟨rfl,rfl⟩:=h;obtain⟨ds,rfl,c,s⟩:=yQ q;cases m with|agg _ vs f _ l=>refine⟨by simp,by simp[Value.cells,<-f,c],λj t u h1 h2=>?_,λ_=>⟨vs,rfl⟩,λe=>by simp_all⟩;simp at h1;obtain⟨k,x,rfl⟩:=h1;obtain⟨rfl,n⟩:=yD x;exact .sym _ _ (l j _ u (D.NI (.agg ds) j (by simpa[D.cells,c]using n)) h2)
  obtain⟨h1,h⟩|⟨_,h⟩:=ah h
  .obtain ⟨rfl,rfl⟩:=h;have a:=beq_iff'.1 h1
   let ⟨_,o⟩:=vL q m
   refine⟨by simp[a],by simp[o,a],λj t u h2 h3=>?_,λe=>(by simp_all),λ_=>⟨o,a⟩⟩;rw[o]at h3;cases j with|zero=>simp at h2 h3;subst h2;subst h3;exact .sym _ _ m|succ j=>simp at h2
  cases h
 |gG=>cases h
 |gd=>cases h
 |kb|kn|ptr|lD|lC|sh|emp|j4|fn|de|mp|qN|tD|ub|rQ|o6=>
  all_goals
   simp only[jY]at h;obtain⟨_,h⟩|⟨b,h⟩:=ah h
   cases h;obtain⟨h1,h⟩|⟨_,h⟩:=ah h
   .simp only[gC,fc]at h;obtain⟨_,rfl⟩:=h;have a:=beq_iff'.1 h1;refine⟨by simp[a],by simp[Value.cells,a],?_,λe=>(by rw[b]at e;cases e),λ_=>⟨rfl,a⟩⟩;intro j t u h2 h3;cases j with|zero=>simp[Value.cells]at h2 h3;subst h2;subst h3;constructor<;>assumption|succ j=>simp at h2
   cases h
def I9(h:HD s o e=Z (sz,es)):∃fz,s.ob.get o=Z (fM fz sz es e):=by
 unfold HD at h;split at h;rename_i c d era a;obtain⟨b,h⟩|⟨_,h⟩:=ah h
 have:=beq_iff'.1 b;subst this;simp at h;obtain⟨rfl,rfl⟩:=h;exact⟨J,a⟩;cases h;rename_i a;obtain⟨b,h⟩|⟨_,h⟩:=ah h
 have:=beq_iff'.1 b;subst this;simp at h;obtain⟨rfl,rfl⟩:=h;exact⟨W,a⟩;cases h;cases h
theorem ko{fz a:aa}{sz b e c:Nat}{es es':L D}(h:fM fz sz es e=fM a b es' c):fz=a/\sz=b/\es=es'/\e=c:=by cases fz<;>cases a<;>simp[fM]at h<;>exact⟨rfl,h⟩
def aY.ni(hs:aY g s w){fz:aa}{x:eU}(b:s.ob.get o=Z (fM fz sz es e))(c:g.arr o e=Z x) :
  wQ g w fz sz es x/\x.sz=sz:=by
 let ⟨d,f,era,a,_,_,h⟩:=(hs.arr o e x c).old _ b (U7 _ _ _ _)
 obtain⟨rfl,h2,rfl,rfl⟩:=ko a
 simp_all
theorem cell?_of_block{w:av}{b off:Nat}{vs:Array az}{ty:TypeId}{fz:Nat×Nat}(h:w.heap[b]?=Z (.cells vs ty fz)):w.cell? ⟨b,off,Y⟩=vs[off]?:=by simp[World.cell?,h]
def nk(b off n:Nat):(⟨b,off,Y⟩:Addr).add n=⟨b,off+n,Y⟩:=by unfold Addr.add;split<;>simp_all
def Sd(h:kY (k:Int) (eE es)):k<es.length:=by have:=h.2;unfold eE at this;omega
def D.Ko(h:k<es.length):es[k]?=Z (iX es k):=by
 grind[iX]
def Cy{P:cP}{ty:TypeId}(hi:mM P ty i){s':St}(hs:aY g s w){x:T}{vx:az}(R:aH g w x vx)
  {p:Prop} {t:T} (h:loadT i s x=Z (p,t,s')) (S:p):∃v,(Instr.loadAt ty vx).run P w=.ok v w/\aH g w t v/\s'=s:=by
 cases R with
 |ptr o off b hb=>
  cases C:s.ob.get o with
  |none=>simp[loadT,C]at h|some ob=>
  simp[loadT,C]at h;cases ob with
  |box cs=>
  let ⟨E,ety,hh,hl,hr⟩:=(hs.box o b hb).box C
  obtain⟨hn,h⟩|⟨_,h⟩:=ah h
  have r:=beq_iff'.1 hn;rw[bS]at r;simp only[fG,fc]at h;obtain⟨t',a,_,rfl,rfl⟩:=h
  let ⟨xi,d,z,MR,hu,u,F,_⟩:=hi.all
  have m:((E.toList.drop off).take i.size).length=i.size:=by
   have:((cs.drop off).take i.size).length=((E.toList.drop off).take i.size).length:=by simp[hl]
   rw[<-this,r]
  let ⟨I,h1⟩:=wZ (g:=g) (w:=w) a (vals:=(E.toList.drop off).take i.size) (by rw[r,m]) (λj t v h1 h2=>by
   let ⟨h1,_⟩:=rI _ _ _ _ _ h1
   let ⟨h2,_⟩:=rI _ _ _ _ _ h2
   exact hr _ _ _ h1 (by simpa using h2))
  refine⟨_,?_,I,rfl⟩;have:=zI (P:=P) MR hu w ⟨b,off,Y⟩ ((E.toList.drop off).take i.size) (by rw[m,u]) (λj v A=>by
   let ⟨A,_⟩:=rI _ _ _ _ _ A
   rw[nk,cell?_of_block hh];simpa using A) (λhf=>h1 (by rw[F,hf]))
  rw[F];simpa[Instr.loadAt,Instr.sureAddr]using this;cases h
  |_=>simp at h
 |lD d off ad val Uw f hd=>
  simp only[loadT,fG,fc]at h;obtain⟨t',a,rfl,rfl,rfl⟩:=h
  let ⟨v,B,ht⟩:=Co hi a S f hd
  exact⟨v,by simpa[Instr.loadAt,Instr.sureAddr]using B,ht,rfl⟩
 |lC o e k off len cap sz ad R=>
  simp only[loadT]at h;cases ha:HD s o e with
  |none=>simp[ha]at h|some q=>
   let ⟨sz',es⟩:=q
   let ⟨fz,C⟩:=I9 ha
   let ⟨y,u⟩:=hs.ni C R
   simp only[ha,fG,fc]at h;obtain⟨t',a,rfl,rfl,rfl⟩:=h;subst u;have hk:=Sd S.1;have K:(⟨Z ad,len,cap,sz⟩:eU).cap≠0:=by have h1:=y.len;have h2:=y.cap;omega
   let ⟨b,E,ety,Q,_,hh,_,l⟩:=y.mem K
   simp at Q;subst Q;have hex:∀j,∃v,∀c,(iX es k).cells[j]?=Z c->w.cell? ((⟨b,k*sz,Y⟩:Addr).add j)=Z v/\dF g.bp w c v:=by
    intro j;by_cases A:j<(iX es k).cells.length
    let ⟨v,B,hd⟩:=l k _ j _ (D.Ko hk) (iu A)
    refine⟨v,λc f=>?_⟩;rw[iu A]at f;rw[<-jG f,nk,cell?_of_block hh];exact⟨B,hd⟩;exact⟨undef,λc f=>by rw[List.getElem?_eq_none (by omega)]at f;cases f⟩
   let ⟨val,n⟩:=TQ hex
   let ⟨v,B,ht⟩:=Co hi a S.2 (ad:=⟨b,k*sz,Y⟩) (val:=val) (λj c f=>(n j c f).1) (λj c f=>(n j c f).2)
   refine⟨v,?_,ht,rfl⟩;rw[nk]at B;rw[nk];simpa[Instr.loadAt,Instr.sureAddr]using B
 |_=>simp[loadT]at h
end
section
def setRow_other(w:av)(g b:Nat)(cs:Array az)(h:b≠g):(w.setRow g cs).heap[b]?=w.heap[b]?:=by unfold World.setRow;rw[Array.getElem?_modify,cm (λe=>h e.symm)]
variable {g g':Gh}{s s':St}{w w':av}{o b e fl sz:Nat}{x:eU}{fz:aa}{es:List D}{ob:Ob}
def aY.lt(hs:aY g s w)(h:g.bP o=Z b):o<s.aF:=by
 obtain a|a:=Nat.lt_or_ge o s.aF
 exact a;rw[(hs.ai o a).1]at h;cases h
def aY.lt'(hs:aY g s w)(h:g.arr o e=Z x):o<s.aF:=by
 obtain a|a:=Nat.lt_or_ge o s.aF
 exact a;rw[(hs.ai o a).2 e]at h;cases h
def aY.qU(hs:aY g s w)(h:bx g o b):b<w.heap.size/\o<s.aF:=by
 obtain h1|⟨e,x,c,h1,d,a,f⟩:=h.2
 exact⟨(hs.box o b h1).2.1,hs.lt h1⟩;exact⟨a▸(hs.arr o e x h1).1 c d f,hs.lt' h1⟩
def wM.ext{g g':Gh}{s s':St}{w w':av}{fl o b:Nat}(e:Ext fl g w g' w')(hi:∀b,g.bp b->b<w.heap.size)(f:w'.heap[b]?=w.heap[b]?)
  (i:s'.ob.get o=s.ob.get o) (a:¬g'.bp b) (h:wM g s w o b):wM g' s' w' o b:=by
 let ⟨_,c,j⟩:=h
 refine⟨a,iE c e.size,λob d=>?_⟩
 let ⟨x,h1,h2⟩:=j ob (i▸d)
 exact⟨x,f.trans h1,h2.ext e hi⟩
def wQ.ext{g g':Gh}{w w':av}{fl:Nat}{fz:aa}{sz:Nat}{es:L D}{x:eU}(e:Ext fl g w g' w')(hi:∀b,g.bp b->b<w.heap.size)
  (f:∀b,x.a=Z ⟨b,0,Y⟩->x.cap≠0->w'.heap[b]?=w.heap[b]?/\(g'.bp b↔g.bp b)) (h:wQ g w fz sz es x):wQ g' w' fz sz es x:=
 ⟨h.len,h.cap,h.rows,h.pos,h.VC,λa=>by
  let ⟨b,k,ty,h1,h2,h3,h4,h5⟩:=h.mem a
  let ⟨l,m⟩:=f b h1 a
  exact⟨b,k,ty,h1,h2.trans m.symm,l.trans h3,h4,λi d j c n o=>let ⟨v,p,q⟩:=h5 i d j c n o;⟨v,p,q.ext e hi⟩⟩⟩
def wQ.jU(h:wQ g w fz sz es x)(hi:g'.bp=g.bp):wQ g' w fz sz es x:=
 ⟨h.len,h.cap,h.rows,h.pos,h.VC,by rw[hi];exact h.mem⟩
def HK.le{m gR:Nat}{hole:O Nat}{hs:L az}(h:HK g m gR hole hs)(a:∀j y,g.arr m j=Z y->g'.arr m j=Z y):HK g' m gR hole hs:=
 ⟨h.1,λi v b c=>let ⟨y,h1,h2⟩:=h.2 i v b c;⟨y,a _ _ h1,h2⟩⟩
def uW.tr(h:uW g w o e x ob)(hA:∀{fz sz es},wQ g w fz sz es x->wQ g' w' fz sz es x)(n:∀k j y,g.arr k j=Z y->g'.arr k j=Z y)(z:g'.arr o=g.arr o)(p:∀b,x.a=Z ⟨b,0,Y⟩->x.cap≠0->w'.heap[b]?=w.heap[b]?/\(g'.bp b↔g.bp b)):uW g' w' o e x ob:=by
 obtain⟨fz,es,era,h1,h2,h3,h5⟩|⟨q,es,era,m,a,hole,h1,h2,h3,h5⟩|⟨sz,f,a,h1,h2,h3,h5⟩|h|⟨h1,h2,h3,h4,h5⟩:=h
 exact .inl ⟨fz,es,era,h1,h2,λs h=>by simp_all,λh=>hA (h5 h)⟩;exact .inr (.inl ⟨q,es,era,m,a,hole,h1,h2,λs h=>by simp_all,λh=>let ⟨t,c,d,l⟩:=h5 h;⟨t,c,hA d,l.le (n m)⟩⟩);exact .inr (.inr (.inl ⟨sz,f,a,h1,λr i h=>by simp_all,by grind,λi h=>let ⟨c,u,d,l⟩:=h5 i h;⟨c,u,d,hA l⟩⟩));exact .inr (.inr (.inr (.inl h)))
 let ⟨c,d⟩:=p e h2 h3
 exact .inr (.inr (.inr (.inr ⟨h1,h2,h3,λv=>h4 (d.1 v),c.trans h5⟩)))
def uW.left{p:T->aa}{c:Ob}(h:uW g w o e x ob)(hl:rF p ob c)(hA:∀{fz sz es},wQ g w fz sz es x->wQ g' w' fz sz es x)
  (n:∀m j y,p (.sh m 0)=J->g.arr m j=Z y->g'.arr m j=Z y) (B:g'.arr o=g.arr o) (q:∀b,x.a=Z ⟨b,0,Y⟩->x.cap≠0->w'.heap[b]?=w.heap[b]?/\(g'.bp b↔g.bp b)):uW g' w' o e x c:=by
 obtain⟨fz,es,era,rfl,h2,h3,h5⟩|⟨s,es,era,m,a,hole,rfl,h2,h3,h5⟩|⟨sz,d,a,rfl,h2,h3,h5⟩|rfl|⟨rfl,h2,h3,h4,h5⟩:=h
 have:c=fM fz x.sz es era:=by cases fz<;>exact hl.symm
 exact .inl ⟨fz,es,era,this,h2,λt h=>by simp_all,λh=>hA (h5 h)⟩;obtain⟨rfl,u⟩|rfl:=hl
 exact .inr (.inl ⟨s,es,era,m,a,hole,rfl,h2,λt h=>by simp_all,λh=>let ⟨v,f,k,l⟩:=h5 h;⟨v,f,hA k,l.le (λj y=>n m j y u)⟩⟩);exact .inr (.inr (.inr (.inl rfl)));have:c=.rws sz d a:=hl.symm;exact .inr (.inr (.inl ⟨sz,d,a,this,λr i h=>by simp_all,by grind,λi h=>let ⟨f,z,k,l⟩:=h5 i h;⟨f,z,k,hA l⟩⟩));have:c=.gone:=hl.symm;exact .inr (.inr (.inr (.inl this)));have:c=.E5:=hl.symm
 let ⟨f,k⟩:=q e h2 h3
 exact .inr (.inr (.inr (.inr ⟨this,h2,h3,λA=>h4 (k.1 A),f.trans h5⟩)))
def AO.ext{g g':Gh}{s s':St}{w w':av}{fl o e:Nat}{x:eU}(a:Ext fl g w g' w')(hi:∀b,g.bp b->b<w.heap.size)
  (d:∀b,x.a=Z ⟨b,0,Y⟩->x.cap≠0->w'.heap[b]?=w.heap[b]?/\(g'.bp b↔g.bp b))
  (f:s'.ob.get o=s.ob.get o) (i:g'.arr o=g.arr o) (h:AO g s w o e x):AO g' s' w' o e x:=by
 refine⟨λl m n=>iE (h.1 l m n) a.size,λob c=>?_⟩;exact(h.2 ob (f▸c)).tr (λh=>h.ext a hi d) (λk j y h=>a.arr k j y h) i d
def aY.adZ(hs:aY g s w)(n:g.bP o=Z b){r:L T}(k:s.ob.get o=Z (.box r))(u:s.fl<=o){cs':L T}{vs':Array az}(hl:cs'.length=vs'.size)
  (A:∀(j:Nat)(t:T)(v:az),cs'[j]?=Z t->vs'[j]?=Z v->aH g w t v) :
  aY g {s with ob:=s.ob.set aO o (.box cs')} (w.setRow b vs')/\Ext s.fl g w g (w.setRow b vs'):=by
 have c:bx g o b:=⟨(hs.box o b n).1,.inl n⟩;have m:o<bD:=iE (hs.lt n) hs.aF;have q:Ext s.fl g w g (w.setRow b vs'):=
  ⟨λ_ _ h=>h,λ_ _ _ h=>h,λ_ h=>h,by simp,λd _ B=>setRow_other w b d vs' (λe=>B o u (e▸c)),
   λ_ _ h=>.inl h,λ_ h=>.inl h,rfl,rfl⟩
 refine⟨⟨hs.aF,hs.ai,λi d a=>?_,λi e x y=>?_,λd a=>by simpa using hs.bp d a,hs.jF⟩,q⟩;by_cases f:i=o;subst f;rw[n]at a;simp at a;subst a
 let ⟨h1,h2,h3⟩:=hs.box i b n
 let ⟨C,ty,h4,h5,h6⟩:=(hs.box i b n).box k
 refine⟨h1,by simpa using h2,λE l=>⟨_,setRow_heap w b C vs' ty _ h4,?_⟩⟩;rw[Tr.aV _ _ _ _ m,bO rfl]at l;obtain rfl:=jG l;exact .box _ _ _ hl λj t v F I=>(A j t v F I).ext q hs.bp;have z:d≠b:=λe=>f (hs.jF i o b (e▸⟨(hs.box i d a).1,.inl a⟩) c);exact(hs.box i d a).ext q hs.bp (setRow_other w b d vs' z) (by simp;rw[Tr.aV _ _ _ _ m,cm f]) (hs.box i d a).1;have f:i≠o:=by
  rintro rfl
  cases((hs.arr i e x y).2 _ k).nP
 refine(hs.arr i e x y).ext q hs.bp (λd a K=>⟨setRow_other w b d vs' ?_,yF⟩) (by simp;rw[Tr.aV _ _ _ _ m,cm f]) rfl
 rintro rfl
 by_cases p:g.bp d;exact c.1 p;exact f (hs.jF i o d ⟨p,.inr ⟨e,x,_,y,a,rfl,K⟩⟩ c)
def Gh.dB(g:Gh)(o b:Nat):Gh:={g with bP:=λk=>if k=o then Z b else g.bP k}
def pN(w:av)(o:Obj)(b:Nat)(h:b<w.heap.size):(w.alloc o).heap[b]?=w.heap[b]?:=by show(w.heap.push o)[b]?=_;rw[Array.getElem?_push,cm (by omega)]
def xe(w:av)(o:Obj):(w.alloc o).heap[w.heap.size]?=Z o:=by show(w.heap.push o)[w.heap.size]?=_;simp
def aY.newObj(hs:aY g s w)(hn:s.aF<bD){ob0:Ob}{x0:Obj}(u:gM g w ob0 x0) :
  aY (g.dB s.aF w.heap.size) (ee s ob0).2 (w.alloc x0)/\Ext s.fl g w (g.dB s.aF w.heap.size) (w.alloc x0):=by
 have c:=hs.ai s.aF (cM _);have k:∀o b,g.bP o=Z b->(g.dB s.aF w.heap.size).bP o=Z b:=λo b h=>by
  have:o≠s.aF:=λe=>by rw[e,c.1]at h;cases h
  simp[Gh.dB,this,h]
 have d:∀o b,bx (g.dB s.aF w.heap.size) o b->bx g o b\/(o=s.aF/\b=w.heap.size):=by
  rintro o b ⟨h1,h2|h2⟩
  by_cases f:o=s.aF;subst f;simp[Gh.dB]at h2;exact .inr ⟨rfl,h2.symm⟩;simp[Gh.dB,f]at h2;exact .inl ⟨h1,.inl h2⟩;exact .inl ⟨h1,.inr h2⟩
 have m:Ext s.fl g w (g.dB s.aF w.heap.size) (w.alloc x0):=
  ⟨k,λ_ _ _ h=>h,λ_ h=>h,by simp,λb i _=>pN w _ b i,
   λo b h=>(d o b h).imp id λh=>by omega,λ_ h=>.inl h,rfl,rfl⟩
 refine⟨⟨by simp only[ee];omega,λo f=>?_,λo b i=>?_,λo e x r=>?_,λb i=>?_,λo t b h v=>?_⟩,m⟩;simp only[ee]at f;have h1:o≠s.aF:=by omega
 simp[Gh.dB,h1,if_false];exact hs.ai o (by omega);by_cases f:o=s.aF;subst f;have n:b=w.heap.size:=by simp[Gh.dB]at i;exact i.symm
 subst n;refine⟨λp=>?_,by simp,λob j=>⟨_,xe w _,?_⟩⟩;have:=hs.bp _ p;omega;simp[ee]at j;rw[Tr.aV _ _ _ _ hn,bO rfl]at j;obtain rfl:=jG j;exact u.ext m hs.bp;have q:g.bP o=Z b:=by simpa[Gh.dB,f]using i
 have a:=hs.box o b q;exact a.ext m hs.bp (pN w _ b a.2.1) (by simp[ee];rw[Tr.aV _ _ _ _ hn,cm f]) a.1;have a:=hs.arr o e x r;have f:o≠s.aF:=λh=>by have l:g.arr o e=Z x:=r;rw[h,c.2 e]at l;cases l
 refine a.ext m hs.bp (λb i y=>⟨pN w _ b ?_,yF⟩) (by simp[ee];rw[Tr.aV _ _ _ _ hn,cm f]) rfl;exact a.1 _ i y;have:=hs.bp b i;simp;omega;obtain h1|⟨h1,h3⟩:=d o b h<;>obtain h2|⟨h2,h4⟩:=d t b v
 exact hs.jF o t b h1 h2;have:=(hs.qU h1).1;omega;have:=(hs.qU h2).1;omega;rw[h1,h2]
def aY.dB{g:Gh}{s:St}{w:av}(hs:aY g s w)(hn:s.aF<bD){cs:L T}{vs:Array az}(ty:TypeId)(hl:cs.length=vs.size)
  (a:∀(j:Nat)(t:T)(v:az),cs[j]?=Z t->vs[j]?=Z v->aH g w t v) :
  aY (g.dB s.aF w.heap.size) (ee s (.box cs)).2 (w.alloc (.cells vs ty))/\Ext s.fl g w (g.dB s.aF w.heap.size) (w.alloc (.cells vs ty)):=
 hs.newObj hn (.box cs vs ty hl a)
end
section
def Gh.era(g:Gh)(o e:Nat)(x:eU):Gh:={g with arr:=λk j=>if k=o/\j=e then Z x else g.arr k j}
def Gh.fq(g:Gh)(o e:Nat)(x:eU):(g.era o e x).arr o e=Z x:=by simp[Gh.era]
theorem Gh.cQ(g:Gh)(o e k j:Nat)(x:eU)(h:¬(k=o/\j=e)):(g.era o e x).arr k j=g.arr k j:=by simp[Gh.era,h]
variable {g:Gh}{s:St}{w w':av}{o e sz:Nat}{es es':List D}{x:eU}
def aY.aj0(hs:aY g s w){x':eU}(R:s.ob.get o=Z (.arr sz es e))(C:g.arr o e=Z x)
  (hfl:s.fl<=o) (hos:w'.os=w.os) (E:w'.output=w.output) (c:w.heap.size<=w'.heap.size)
  (d:∀b,b<w.heap.size->¬x.at b->w'.heap[b]?=w.heap[b]?)
  (hx':∀b,x'.at b->b<w'.heap.size/\(w.heap.size<=b\/x.at b))
  (hok:wQ (g.era o (e+1) x') w' J sz es' x') (hxs:x'.sz=sz) :
  aY (g.era o (e+1) x') {s with ob:=s.ob.set aO o (.arr sz es' (e+1))} w'/\Ext s.fl g w (g.era o (e+1) x') w':=by
 have t:o<bD:=iE (hs.lt' C) hs.aF
 let ⟨F,abo⟩:=hs.ni (fz:=J) R C
 have hnext:∀S,e<S->g.arr o S=Y:=by
  let ⟨fz,v,era,h1,_,h3,_⟩:=(hs.arr o e x C).old _ R rfl
  have z:fM J sz es e=fM fz x.sz v era:=h1;obtain⟨_,_,_,rfl⟩:=ko z;exact h3
 have A:∀b,x.at b->¬g.bp b:=by
  rintro b ⟨r,h1,rfl,h3⟩ I
  let ⟨b',_,_,k1,k2,_⟩:=F.mem h3
  grind
 have f:∀b,x.at b->bx g o b:=λb m=>by
  let ⟨r,h1,h2,h3⟩:=m
  exact⟨A b ⟨r,h1,h2,h3⟩,.inr ⟨e,x,r,C,h1,h2,h3⟩⟩
 have K:∀k j y,g.arr k j=Z y->(g.era o (e+1) x').arr k j=Z y:=λk j y h=>by
  rw[Gh.cQ];exact h
  grind
 have hown:∀k b,bx (g.era o (e+1) x') k b->bx g k b\/(k=o/\x'.at b):=by
  rintro k b ⟨h1,h2|⟨j,y,r,h2,h3,h4,h5⟩⟩
  exact .inl ⟨h1,.inl h2⟩;by_cases P:k=o/\j=e+1;obtain⟨rfl,rfl⟩:=P;rw[Gh.fq]at h2;simp at h2;subst h2;exact .inr ⟨rfl,r,h3,h4,h5⟩;rw[Gh.cQ _ _ _ _ _ _ P]at h2;exact .inl ⟨h1,.inr ⟨j,y,r,h2,h3,h4,h5⟩⟩
 have i:∀k b,bx (g.era o (e+1) x') k b->bx g k b\/(k=o/\w.heap.size<=b):=λk b h=>by
  grind
 have he:Ext s.fl g w (g.era o (e+1) x') w':=
  ⟨λ_ _ h=>h,K,λ_ h=>h,c,λb m hn=>d b m λn=>hn o hfl (f b n),λk b h=>(i k b h).imp id (·.2),λ_ h=>.inl h,hos,E⟩
 refine⟨⟨hs.aF,λk hk=>⟨(hs.ai k hk).1,λj=>?_⟩,λk b m=>?_,λk j y Q=>?_,λb m=>iE (hs.bp b m) c,λk k' b h h'=>?_⟩,he⟩;rw[Gh.cQ];exact(hs.ai k hk).2 j
 rintro⟨rfl,_⟩
 have:=hs.lt' C
 grind
 have a:k≠o:=by
  rintro rfl
  exact(hs.box k b m).Bg J R
 have l:=hs.box k b m;refine l.ext he hs.bp (d b l.2.1 λn=>a (hs.jF k o b ⟨l.1,.inl m⟩ (f b n))) (by simp;rw[Tr.aV _ _ _ _ t,cm a]) l.1;by_cases a:k=o;subst a;by_cases hj:j=e+1;subst hj;rw[Gh.fq]at Q;simp at Q;subst Q;refine⟨λr ha B=>(hx' _ ⟨r,ha,rfl,B⟩).1,λob p=>.inl ⟨J,es',e+1,?_,cM _,λS h=>?_,λ_=>hxs▸hok⟩⟩;rw[Tr.aV _ _ _ _ t,bO rfl]at p
 grind[fM]
 grind[Gh.cQ]
 have q:g.arr k j=Z y:=by rwa [Gh.cQ _ _ _ _ _ _ (by omega)]at Q
 have h4:=(hs.arr k j y q).1
 let ⟨fz,v,era,h1,h2,h3,_⟩:=(hs.arr k j y q).old _ R rfl
 have z:fM J sz es e=fM fz y.sz v era:=h1;obtain⟨_,hysz,_,rfl⟩:=ko z;refine⟨λr ha B=>iE (h4 r ha B) c,λob p=>.inl ⟨J,es',e+1,?_,by omega,λS h=>?_,λh=>by omega⟩⟩;rw[Tr.aV _ _ _ _ t,bO rfl]at p
 grind[fM]
 grind[Gh.cQ]
 have q:g.arr k j=Z y:=by rwa [Gh.cQ _ _ _ _ _ _ (λh=>a h.1)]at Q
 have u:=hs.arr k j y q;refine u.ext he hs.bp (λb m B=>⟨?_,yF⟩) (by simp;rw[Tr.aV _ _ _ _ t,cm a]) (funext λj=>Gh.cQ _ _ _ _ _ _ (λh=>a h.1));refine d b (u.1 _ m B) λn=>?_;by_cases I:g.bp b
 simp_all
 exact a (hs.jF k o b ⟨I,.inr ⟨j,y,_,q,m,rfl,B⟩⟩ (f b n));obtain h1|⟨h1,h3⟩:=i k b h<;>obtain h2|⟨h2,h4⟩:=i k' b h'
 exact hs.jF k k' b h1 h2;have:=(hs.qU h1).1;omega;have:=(hs.qU h2).1;omega;rw[h1,h2]
def aY.O6(hs:aY g s w)(hn:s.aF<bD)
  (t:w'.os=w.os) (o:w'.output=w.output) (c:w.heap.size<=w'.heap.size)
  (a:∀b,b<w.heap.size->w'.heap[b]?=w.heap[b]?) (E:∀b,x.at b->w.heap.size<=b/\b<w'.heap.size)
  (u:wQ (g.era s.aF 0 x) w' J sz es x) (v:x.sz=sz) :
  aY (g.era s.aF 0 x) (ee s (.arr sz es 0)).2 w'/\Ext s.fl g w (g.era s.aF 0 x) w':=by
 have z:=hs.ai s.aF (cM _);have p:∀k j y,g.arr k j=Z y->(g.era s.aF 0 x).arr k j=Z y:=λk j y h=>by
  rw[Gh.cQ];exact h
  grind
 have d:∀k b,bx (g.era s.aF 0 x) k b->bx g k b\/(k=s.aF/\w.heap.size<=b):=by
  rintro k b ⟨h1,h2|⟨j,y,r,h2,h3,h4,h5⟩⟩
  exact .inl ⟨h1,.inl h2⟩;by_cases e:k=s.aF/\j=0;obtain⟨rfl,rfl⟩:=e;rw[Gh.fq]at h2;simp at h2;subst h2;exact .inr ⟨rfl,(E b ⟨r,h3,h4,h5⟩).1⟩;rw[Gh.cQ _ _ _ _ _ _ e]at h2;exact .inl ⟨h1,.inr ⟨j,y,r,h2,h3,h4,h5⟩⟩
 have A:Ext s.fl g w (g.era s.aF 0 x) w':=
  ⟨λ_ _ h=>h,p,λ_ h=>h,c,λb n _=>a b n,λk b h=>(d k b h).imp id (·.2),λ_ h=>.inl h,t,o⟩
 refine⟨⟨by simp only[ee];omega,λk I=>?_,λk b n=>?_,λk j y q=>?_,λb n=>iE (hs.bp b n) c,λk F b h K=>?_⟩,A⟩;simp only[ee]at I;refine⟨(hs.ai k (by omega)).1,λj=>?_⟩;rw[Gh.cQ _ _ _ _ _ _ (by omega)];exact(hs.ai k (by omega)).2 j;have B:g.bP k=Z b:=n;have f:=hs.box k b B;have i:k≠s.aF:=λh=>by simp_all
 exact f.ext A hs.bp (a b f.2.1) (by simp[ee];rw[Tr.aV _ _ _ _ hn,cm i]) f.1;by_cases e:k=s.aF/\j=0;obtain⟨rfl,rfl⟩:=e;rw[Gh.fq]at q;simp at q;subst q;refine⟨λr P C=>(E _ ⟨r,P,rfl,C⟩).2,λob l=>.inl ⟨J,es,0,?_,cM _,λQ h=>?_,λ_=>v▸u⟩⟩;simp[ee]at l;rw[Tr.aV _ _ _ _ hn,bO rfl]at l
 grind[fM]
 grind[Gh.cQ]
 rw[Gh.cQ _ _ _ _ _ _ e]at q;have i:k≠s.aF:=λh=>by simp_all
 have m:=hs.arr k j y q;refine m.ext A hs.bp (λb n C=>⟨?_,yF⟩) (by simp[ee];rw[Tr.aV _ _ _ _ hn,cm i]) (funext λj=>Gh.cQ _ _ _ _ _ _ (λh=>i h.1));exact a b (m.1 _ n C);obtain h1|⟨h1,h3⟩:=d k b h<;>obtain h2|⟨h2,h4⟩:=d F b K
 exact hs.jF k F b h1 h2;have:=(hs.qU h1).1;omega;have:=(hs.qU h2).1;omega;rw[h1,h2]
def aY.ad9(hs:aY g s w){b:Nat}(v:s.ob.get o=Z (.arr sz es e))(z:g.arr o e=Z x)
  (A:s.fl<=o) (K:x.at b) {vs':Array az} (R:wQ g (w.setRow b vs') J sz es' x) :
  aY g {s with ob:=s.ob.set aO o (.arr sz es' e)} (w.setRow b vs')/\Ext s.fl g w g (w.setRow b vs'):=by
 have l:o<bD:=iE (hs.lt' z) hs.aF
 let ⟨n,P⟩:=hs.ni (fz:=J) v z
 have d:¬g.bp b:=by
  obtain⟨B,h1,rfl,h3⟩:=K;intro S
  let ⟨t,_,_,k1,k2,_⟩:=n.mem h3
  grind
 have f:bx g o b:=by
  let ⟨B,h1,h2,h3⟩:=K
  exact⟨d,.inr ⟨e,x,B,z,h1,h2,h3⟩⟩
 have C:Ext s.fl g w g (w.setRow b vs'):=
  ⟨λ_ _ h=>h,λ_ _ _ h=>h,λ_ h=>h,by simp,λt _ hn=>setRow_other w b t vs' (λe=>hn o A (e▸f)),
   λ_ _ h=>.inl h,λ_ h=>.inl h,rfl,rfl⟩
 refine⟨⟨hs.aF,hs.ai,λk c m=>?_,λk j y u=>?_,λt E=>by simpa using hs.bp t E,hs.jF⟩,C⟩;have a:k≠o:=by
  rintro rfl
  exact(hs.box k c m).Bg J v
 have i:=hs.box k c m;exact i.ext C hs.bp (setRow_other w b c vs' λe=>a (hs.jF k o c ⟨i.1,.inl m⟩ (e▸f))) (by simp;rw[Tr.aV _ _ _ _ l,cm a]) i.1;by_cases a:k=o;subst a;have h4:=(hs.arr k j y u).1
 let ⟨fz,F,era,h1,h2,h3,_⟩:=(hs.arr k j y u).old _ v rfl
 have I:fM J sz es e=fM fz y.sz F era:=h1;obtain⟨_,Q,_,rfl⟩:=ko I;refine⟨λB ha m=>by simp_all,λob p=>.inl ⟨J,es',e,?_,h2,h3,λhje=>?_⟩⟩;rw[Tr.aV _ _ _ _ l,bO rfl]at p
 grind[fM]
 simp_all
 have q:=hs.arr k j y u;refine q.ext C hs.bp (λc m r=>⟨setRow_other w b c vs' ?_,yF⟩) (by simp;rw[Tr.aV _ _ _ _ l,cm a]) rfl
 rintro rfl
 exact a (hs.jF k o c ⟨d,.inr ⟨j,y,_,u,m,rfl,r⟩⟩ f)
def Gh.kM(g:Gh)(P:Nat->Prop):Gh:={g with bp:=λb=>g.bp b\/P b}
def aY.abQ(hs:aY g s w)(Q:s.ob.get o=Z (.arr sz es e))(K:g.arr o e=Z x)
  (R:s.fl<=o) :
  aY (g.kM x.at) {s with ob:=s.ob.set aO o (.kM sz es e)} w/\Ext s.fl g w (g.kM x.at) w:=by
 have t:o<bD:=iE (hs.lt' K) hs.aF
 let ⟨a,abo⟩:=hs.ni (fz:=J) Q K
 have u:∀b,x.at b->¬g.bp b:=by
  rintro b ⟨S,h1,rfl,h3⟩ n
  let ⟨b',_,_,k1,k2,_⟩:=a.mem h3
  grind
 have f:∀b,x.at b->bx g o b:=λb z=>by
  let ⟨S,h1,h2,h3⟩:=z
  exact⟨u b ⟨S,h1,h2,h3⟩,.inr ⟨e,x,S,K,h1,h2,h3⟩⟩
 have p:∀k b,bx (g.kM x.at) k b->bx g k b/\¬x.at b:=λk b h=>⟨⟨λhi=>h.1 (.inl hi),h.2⟩,λhi=>h.1 (.inr hi)⟩;have P:Ext s.fl g w (g.kM x.at) w:=
  ⟨λ_ _ h=>h,λ_ _ _ h=>h,λ_ h=>.inl h,cM _,λ_ _ _=>rfl,λk b h=>.inl (p k b h).1,
   λb h=>h.imp id λh=>.inr ⟨o,R,f b h⟩,rfl,rfl⟩
 refine⟨⟨hs.aF,hs.ai,λk c r=>?_,λk j y C=>?_,λb z=>?_,λk k' b h h'=>hs.jF k k' b (p k b h).1 (p k' b h').1⟩,P⟩;have m:k≠o:=by
  rintro rfl
  exact(hs.box k c r).Bg J Q
 have q:=hs.box k c r;refine q.ext P hs.bp rfl (by simp;rw[Tr.aV _ _ _ _ t,cm m]) ?_
 rintro(n|A)
 exact q.1 n;exact m (hs.jF k o c ⟨q.1,.inl r⟩ (f c A));by_cases m:k=o;subst m;have h4:=(hs.arr k j y C).1
 let ⟨fz,es0,era,h1,h2,h3,_⟩:=(hs.arr k j y C).old _ Q rfl
 have h1':fM J sz es e=fM fz y.sz es0 era:=h1;obtain⟨_,l,_,rfl⟩:=ko h1';refine⟨h4,λob E=>.inl ⟨W,es,e,?_,h2,h3,λhje=>?_⟩⟩;rw[Tr.aV _ _ _ _ t,bO rfl]at E
 grind[fM]
 subst hje;have B:g.arr k j=Z y:=C;rw[K]at B;simp at B;subst B;refine⟨a.len,a.cap,λd hd=>l▸a.rows d hd,l▸a.pos,a.VC,λr=>?_⟩
 let ⟨b,vs,ty,k1,_,k3,k4,k5⟩:=a.mem r
 exact⟨b,vs,ty,k1,⟨λ_=>.inr ⟨_,k1,rfl,r⟩,λ_=>rfl⟩,k3,l▸k4,λi d j c hd hj=>let ⟨v,hv,hr⟩:=k5 i d j c hd hj;⟨v,l▸hv,hr.ext P hs.bp⟩⟩;have F:=hs.arr k j y C;refine F.ext P hs.bp (λc r I=>⟨rfl,⟨λh=>h.elim id λA=>?_,.inl⟩⟩) (by simp;rw[Tr.aV _ _ _ _ t,cm m]) rfl;by_cases n:g.bp c;exact n;exact absurd (hs.jF k o c ⟨n,.inr ⟨j,y,_,C,r,rfl,I⟩⟩ (f c A)) m;obtain z|z:=z
 exact hs.bp b z;exact(hs.qU (f b z)).1
end
section
theorem rL:∀{r b i a:Nat},rc r i=rc b a->r=b/\i=a
 |0,0,i,a,h=>by simp[rc]at h;omega
 |0,b+1,i,a,h=>by simp[rc,Nat.pow_zero,Ib,Nat.pow_succ,Mg _ 2,Nat.mul_assoc]at h;omega
 |r+1,0,i,a,h=>by simp[rc,Nat.pow_zero,Ib,Nat.pow_succ,Mg _ 2,Nat.mul_assoc]at h;omega
 |r+1,b+1,i,a,h=>by
  have:rc r i=rc b a:=by
   grind[rc]
  have:=rL this;omega
variable {g:Gh}{s:St}{w:av}{o e nj sz era m gR r i szr:Nat}{es:List D}{hole:Option Nat}{x y:eU}{hl:List az}{iG:List (List D)}{fz:aa}{I:Nat->Prop}{d:D}
def aY.X0{s':St}(hs:aY g s w)(hn:s'.aF=s.aF)(c:∀o,s'.ob.get o=s.ob.get o):aY g s' w:=
 ⟨hn▸hs.aF,λo h=>hs.ai o (hn▸h),λo b h=>let ⟨h1,h2,h3⟩:=hs.box o b h;⟨h1,h2,λob a=>h3 ob (c o▸a)⟩,λo e x h=>let ⟨h1,h2⟩:=hs.arr o e x h;⟨h1,λob a=>h2 ob (c o▸a)⟩,hs.bp,hs.jF⟩
def aY.zV(hs:aY g s w){ob:Ob}(a:s.ob.get o=Z ob)(hi:ob.nP=W):g.bP o=Y:=by
 cases h:g.bP o with
 |none=>rfl|some b=>
  let ⟨x,_,h2⟩:=(hs.box o b h).2.2 ob a
  have:=h2.Bg
  simp_all
def aY.Bh(hs:aY g s w)(f:s.ob.get o=Z (.kT nj sz es era m gR hole))(i:g.arr o e=Z x) :
  x.sz=sz/\e<=era/\(∀c,era<c->g.arr o c=Y)/\(e=era->∃hl,hl.length=es.length/\wQ g w J sz (lits nj es hl) x/\HK g m gR hole hl):=by
 obtain⟨fz,_,_,h,_⟩|⟨j,k,d,l,a,b,h,h2,h3,h4⟩|⟨_,_,_,h,_⟩|h|⟨h,_⟩:=(hs.arr o e x i).2 _ f
 cases fz<;>cases h
 simp_all
 iterate 3 cases h
def aY.view(hs:aY g s w)(f:s.ob.get o=Z (.kT nj sz es era m gR hole))(i:g.arr o era=Z x) :
  ∃hl,hl.length=es.length/\wQ g w J sz (lits nj es hl) x/\HK g m gR hole hl/\aY g {s with ob:=s.ob.set aO o (.arr sz (lits nj es hl) era)} w:=by
 have d:o<bD:=iE (hs.lt' i) hs.aF
 let ⟨_,_,_,h4⟩:=hs.Bh f i
 let ⟨hl,h5,h6,n⟩:=h4 rfl
 have p:=hs.zV f rfl;refine⟨hl,h5,h6,n,hs.aF,hs.ai,λk b q=>?_,λk e y j=>?_,hs.bp,hs.jF⟩;have c:k≠o:=by grind
 let ⟨h,l,r⟩:=hs.box k b q
 refine⟨h,l,λob a=>r ob ?_⟩;simp at a;rwa [Tr.aV _ _ _ _ d,cm c]at a
 let ⟨h,l⟩:=hs.arr k e y j
 refine⟨h,λob a=>?_⟩;rw[Tr.aV _ _ _ _ d]at a;by_cases c:k=o;subst c;rw[bO rfl]at a;obtain rfl:=jG a
 let ⟨t,u,v,_⟩:=hs.Bh f j
 refine .inl ⟨J,lits nj es hl,era,by rw[t];rfl,u,v,λz=>?_⟩
 simp_all
 simp_all
def aY.VN(hs:aY g s w)(d:o<bD)(p:s.ob.get o=Z (.arr sz (lits nj es hl) era))(f:hl.length=es.length)
  (t:HK g m gR hole hl):aY g {s with ob:=s.ob.set aO o (.kT nj sz es era m gR hole)} w:=by
 have u:=hs.zV p rfl;refine⟨hs.aF,hs.ai,λk b v=>?_,λk e y q=>?_,hs.bp,hs.jF⟩;have c:k≠o:=by grind
 let ⟨i,r,x⟩:=hs.box k b v
 refine⟨i,r,λob a=>x ob ?_⟩;simp at a;rwa [Tr.aV _ _ _ _ d,cm c]at a
 let ⟨i,r⟩:=hs.arr k e y q
 refine⟨i,λob a=>?_⟩;rw[Tr.aV _ _ _ _ d]at a;by_cases c:k=o;subst c;rw[bO rfl]at a;obtain rfl:=jG a
 let ⟨fz,j,h,h1,h2,h3,h4⟩:=(hs.arr k e y q).old _ p rfl
 have l:fM J sz (lits nj es hl) era=fM fz y.sz j h:=h1;obtain⟨rfl,n,rfl,rfl⟩:=ko l;exact .inr (.inl ⟨nj,es,era,m,gR,hole,by rw[n],h2,h3,λz=>⟨hl,f,h4 z,t⟩⟩)
 simp_all
def aY.pX(hs:aY g s w)(k:s.ob.get m=Z (.rws sz iG r))(l:g.arr m e=Z y) :
  (∀a i,r<a->g.arr m (rc a i)=Y)/\(∀i c y d,i≠c->g.arr m (rc r i)=Z y->g.arr m (rc r c)=Z d->∀b,y.at b->¬d.at b)/\
   (∀i,e=rc r i->y.sz=sz/\∃f,iG[i]?=Z f/\wQ g w J sz f y):=by
 obtain⟨fz,_,_,h,_⟩|⟨_,_,_,_,_,_,h,_⟩|⟨n,j,a,h,h2,h3,h4⟩|h|⟨h,_⟩:=(hs.arr m e y l).2 _ k
 cases fz<;>cases h;cases h
 grind
 cases h;cases h
def wQ.at_(h:wQ g w fz sz es x){b:Nat}(a:x.at b):(fz=W↔g.bp b)/\∃vs ty,x.a=Z ⟨b,0,Y⟩/\w.heap[b]?=Z (.cells vs ty (0,0)):=by
 let ⟨c,h1,h2,h3⟩:=a
 let ⟨d,vs,ty,e,f,i,_⟩:=h.mem h3
 grind
def wQ.UW(a:wQ g w fz sz es x)(o:∀b,g.bp b->I b)(p:∀b,x.at b->I b):dF I w (.sl es) (.slice x.a x.len x.cap):=by
 rw[a.len];by_cases e:x.cap=0;have r:es=[]:=by
  have h1:=a.len;have h2:=a.cap
  simp_all
 subst r;exact .sl [] x.a x.cap sz (λ_ _=>undef) (by simp) (by simp) (by simp) (λh=>absurd rfl h) (λi j d c h=>by simp at h)
 let ⟨b,s,ty,h1,h2,h3,h4,h5⟩:=a.mem e
 have m:∀q:Nat×Nat,∃v,∀d c,es[q.1]?=Z d->d.cells[q.2]?=Z c->s[q.1*sz+q.2]?=Z v/\dF I w c v:=by
  rintro⟨i,j⟩
  by_cases n:i<es.length;by_cases k:j<(es[i]).cells.length
  let ⟨v,t,u⟩:=h5 i _ j _ (iu n) (iu k)
  refine⟨v,λd c f e=>?_⟩;rw[iu n]at f;simp at f;subst f;rw[iu k]at e;simp at e;subst e;exact⟨t,u.mono (λ_ _=>rfl) o⟩;refine⟨undef,λd c f e=>?_⟩
  simp_all
  simp_all
 let ⟨val,l⟩:=TQ m
 refine .sl es x.a x.cap sz (λi j=>val (i,j)) (by have:=a.len;have:=a.cap;omega) a.rows a.VC (λ_=>⟨_,h1,p b ⟨_,h1,rfl,e⟩,λi j d c f k=>?_⟩) (λi j d c f k=>(l (i,j) d c f k).2);rw[nk,cell?_of_block h3]
 simp_all
def zx(l:L D):D.oC l=(l.map D.lby).sum:=by
 induction l with|nil=>rfl|cons a l b=>grind[D.oC]
def HU{α:Type}{l:L α}{a:α}(h:l[i]?=Z a):l.set i a=l:=by
 apply Mm
 grind
def Xe(a:hl.length=es.length)(h:es[i]?=Z d):∃v,hl[i]?=Z v/\(lits nj es hl)[i]?=Z (jh nj d v):=by
 have b:=ct h
 simp_all[lits]
theorem nM{nj:Nat}{es:L D}{hl:L az}(a:hl.length=es.length):(lits nj es hl).length=es.length:=by simp[lits];omega
def Ab(nj:Nat)(d:D)(b:L D)(a:O Addr)(n m:Nat):(Ac nj d b).r7=(jh nj d (.slice a n m)).r7:=by show D.oC _=D.oC _;rw[zx,zx,EJ,EJ];rfl
def Aq{j:Nat}{c a:O Addr}(f:d.cells[j]?=Z (.sl []))(p:dF I w (.sl [jh j d (.slice c 0 0)]) (.slice a 1 1)):dF I w (.sl [d]) (.slice a 1 1):=by
 have b:=ct f;generalize t:(Value.slice a 1 1)=v at p;cases p with
 |sl es E cap sz val q l z F K=>
 cases t;have hl:(jh j d (.slice c 0 0)).cells=d.cells.set j (.lit (.slice c 0 0)):=rfl;have m:∀(k:Nat)(x:D),d.cells[k]?=Z x->∃r,(jh j d (.slice c 0 0)).cells[k]?=Z r/\∀u,dF I w r u->dF I w x u:=λk x e=>by
  by_cases A:k=j;subst A;rw[f]at e;cases e;refine⟨.lit (.slice c 0 0),by rw[hl,TP b],λu B=>?_⟩;cases B;exact .sl [] c 0 0 (λ_ _=>undef) (by simp) (by simp) (by simp) (λh=>absurd rfl h) (λi j d c h=>by simp at h)
  grind
 have s:d.r7=(jh j d (.slice c 0 0)).r7:=by
  cases d with
  |agg g=>
   show D.oC g=D.oC (g.set j (.lit (.slice c 0 0)));rw[zx,zx,EJ];have:(g.map D.lby)[j]?=Z 24:=by rw[kF];have n:g[j]?=Z (.sl []):=f;rw[n];rfl
   have o:(D.lit (Value.slice c 0 0)).lby=24:=rfl;rw[o,HU this]
  |_=>
   have C:j=0:=by have:j<1:=b;omega
   subst C;cases f<;>rfl
 refine .sl [d] a 1 sz val (by simp) (λx e=>?_) (λx e=>?_) (λ_=>?_) (λi k x y h1 h2=>?_);rw[sE.1 e,<-l _ (sE.2 rfl),hl,Ie]
 simp_all
 grind
 grind
def aY.UK(hs:aY g s w)(ho:s.ob.get o=Z (.kT nj sz es era m r Y))(hm:s.ob.get m=Z (.rws szr iG r))
  (hmN:m<bD) (hx:g.arr o era=Z x) (hfl:s.fl<=o) (Pw:s.fl<=m) :
  ∃g',aY g' {s with ob:=(s.ob.set aO m .gone).set aO o (.kM sz (mw nj es iG) era)} w/\Ext s.fl g w g' w:=by
 have l9:o<bD:=iE (hs.lt' hx) hs.aF;have hom:o≠m:=by grind
 let ⟨abo,_,hnx,h4⟩:=hs.Bh ho hx
 let ⟨hl,K,q,hL⟩:=h4 rfl
 let R:Nat->Prop:=λb=>x.at b\/∃i y,g.arr m (rc r i)=Z y/\y.at b
 have B:∀b,R b->∃k,s.fl<=k/\(k=o\/k=m)/\bx g k b:=by
  rintro b (p|⟨i,y,hy,p⟩)
  have h1:=(q.at_ p).1
  let ⟨ad,k1,k2,k3⟩:=p
  exact⟨o,hfl,.inl rfl,λn=>Bool.noConfusion (h1.2 n),.inr ⟨era,x,ad,hx,k1,k2,k3⟩⟩
  let ⟨_,t,_,hr⟩:=(hs.pX hm hy).2.2 i rfl
  have h1:=(hr.at_ p).1
  let ⟨ad,k1,k2,k3⟩:=p
  exact⟨m,Pw,.inr rfl,λn=>Bool.noConfusion (h1.2 n),.inr ⟨_,y,ad,hy,k1,k2,k3⟩⟩
 have ac8:∀b,R b->¬g.bp b:=λb p=>let ⟨_,_,_,hO⟩:=B b p;hO.1;have C:∀k b,bx (g.kM R) k b->bx g k b/\¬R b:=λk b h=>⟨⟨λS=>h.1 (.inl S),h.2⟩,λS=>h.1 (.inr S)⟩;have he:Ext s.fl g w (g.kM R) w:=
  ⟨λ_ _ h=>h,λ_ _ _ h=>h,λ_ h=>.inl h,cM _,λ_ _ _=>rfl,λk b h=>.inl (C k b h).1,
   λb h=>h.imp id λh=>.inr (let ⟨k,h1,_,h3⟩:=B b h;⟨k,h1,h3⟩),rfl,rfl⟩
 have dN:∀k,((s.ob.set aO m .gone).set aO o (.kM sz (mw nj es iG) era)).get k=if k=o then Z (.kM sz (mw nj es iG) era)else if k=m then Z .gone else s.ob.get k:=λk=>by rw[Tr.aV _ _ _ _ l9,Tr.aV _ _ _ _ hmN]
 have aoL:=hs.zV ho rfl;have aoM:=hs.zV hm rfl;refine⟨g.kM R,⟨hs.aF,hs.ai,λk c P=>?_,λk j y hy=>?_,λb p=>?_,λk k' b h h'=>hs.jF k k' b (C k b h).1 (C k' b h').1⟩,he⟩;have hc':g.bP k=Z c:=P;have E:k≠o:=by grind
 have I:k≠m:=by grind
 have F:=hs.box k c P;refine F.ext he hs.bp rfl (by simp;rw[dN,cm E,cm I]) ?_
 rintro(n|De)
 exact F.1 n
 let ⟨k',_,h1,h2⟩:=B c De
 have:=hs.jF k k' c ⟨F.1,.inl P⟩ h2;omega;have u:g.arr k j=Z y:=hy;by_cases E:k=o;subst E
 let ⟨q1,q2,_,_⟩:=hs.Bh ho u
 refine⟨(hs.arr k j y u).1,λob e=>?_⟩;simp at e;rw[dN,bO rfl]at e;obtain rfl:=jG e;refine .inl ⟨W,mw nj es iG,era,by rw[q1];rfl,q2,hnx,λhje=>?_⟩;subst hje;rw[hx]at u;cases u;rw[q1];have A:∀(i:Nat)(d:D),es[i]?=Z d->∃(t:L D)(l:eU),iG[i]?=Z t/\hl[i]?=Z (Value.slice l.a l.len l.cap)/\(lits nj es hl)[i]?=Z (jh nj d (.slice l.a l.len l.cap))/\dF (g.kM R).bp w (.sl t) (.slice l.a l.len l.cap):=by
  intro i d hd
  let ⟨v,hv,a⟩:=Xe (nj:=nj) K hd
  obtain⟨l,hyy,rfl⟩:=hL.2 i v hv (by simp)
  let ⟨_,t,hrs,hra⟩:=(hs.pX hm hyy).2.2 i rfl
  exact⟨t,l,hrs,hv,a,hra.UW (λ_ h=>.inl h) (λb p=>.inr (.inr ⟨i,l,hyy,p⟩))⟩
 have Px:(mw nj es iG).length=es.length:=by
  rw[mw,List.length_zipWith];obtain h|h:=Nat.lt_or_ge iG.length es.length
  let ⟨t,_,hrs,_⟩:=A iG.length _ (iu h)
  simp_all
  omega
 have z:∀(i:Nat)(f:D),(mw nj es iG)[i]?=Z f->∃d t,es[i]?=Z d/\iG[i]?=Z t/\f=Ac nj d t:=by
  grind[mw]
 refine⟨by rw[Px];have:=q.len;rw[nM K]at this;exact this,q.cap,λf hf=>?_,q.pos,λf hf=>?_,λP=>?_⟩
 let ⟨i,S⟩:=Wb hf
 obtain⟨d,t,h1,h2,rfl⟩:=z i f S
 let ⟨_,_,_,_,a,_⟩:=A i d h1
 have:=q.rows _ (hU a)
 grind[jh,Ac,D.cells]
 let ⟨i,S⟩:=Wb hf
 obtain⟨d,t,h1,h2,rfl⟩:=z i f S
 let ⟨_,l,_,_,a,_⟩:=A i d h1
 rw[Ab nj d t l.a l.len l.cap];have p:=q.VC _ (hU a)
 grind[nM]
 let ⟨b,vs,ty,k1,_,k3,k4,k5⟩:=q.mem P
 refine⟨b,vs,ty,k1,⟨λ_=>.inr (.inl ⟨_,k1,rfl,P⟩),λ_=>rfl⟩,k3,k4,λi f Q c hf hjj=>?_⟩;obtain⟨d,t,h1,h2,rfl⟩:=z i f hf
 let ⟨rs',l,h2',hv,a,Z2⟩:=A i d h1
 rw[h2]at h2';cases h2';by_cases hjn:Q=nj;subst hjn;have hlt:Q<d.cells.length:=by grind[Ac,D.cells]
 let ⟨v,hv1,hv2⟩:=k5 i _ Q (.lit (.slice l.a l.len l.cap)) a (by show(d.cells.set Q _)[Q]?=_;rw[TP hlt])
 cases hv2;have hce:c=.sl t:=by
  have hj2:(d.cells.set Q (.sl t))[Q]?=Z c:=hjj
  simp_all
 simp_all
 let ⟨v,hv1,hv2⟩:=k5 i _ Q c a (by
  grind[jh,Ac,D.cells])
 exact⟨v,hv1,hv2.ext he hs.bp⟩;by_cases I:k=m;subst I;refine⟨(hs.arr k j y u).1,λob e=>?_⟩;rw[dN,cm E,bO rfl]at e;obtain rfl:=jG e;exact .inr (.inr (.inr (.inl rfl)));have aeT:=hs.arr k j y u;refine aeT.ext he hs.bp (λc P hcap=>⟨rfl,⟨λh=>h.elim id λDe=>?_,.inl⟩⟩) (by simp;rw[dN,cm E,cm I]) rfl;by_cases n:g.bp c;exact n
 let ⟨k',_,h1,h2⟩:=B c De
 have:=hs.jF k k' c ⟨n,.inr ⟨j,y,_,u,P,rfl,hcap⟩⟩ h2;omega;obtain p|p:=p
 exact hs.bp b p
 let ⟨k,_,_,h⟩:=B b p
 exact(hs.qU h).1
structure Te(g:Gh)(w:av)(n:Nat)(es:List D)(x:eU)(v:az)(w':av)(x':eU):Prop where
 val:v=.slice x'.a x'.len x'.cap
 sz:x'.sz=n
 os:w'.os=w.os
 output:w'.output=w.output
 size:w.heap.size<=w'.heap.size
 heap:∀b,b<w.heap.size->¬x.at b->w'.heap[b]?=w.heap[b]?
 at_:∀b,x'.at b->b<w'.heap.size/\(w.heap.size<=b\/x.at b)
 ok:wQ g w' J n es x'
noncomputable def Gh.oa(g:Gh)(m r i:Nat)(y:eU):Gh:=by
 classical
 exact{g with arr:=λk j=>if k=m then(if h:∃a,j=rc (r+1) a then(if h.choose=i then Z y else g.arr m (rc r h.choose))else g.arr m j)else g.arr k j}
theorem Gh.me{g:Gh}{m r i:Nat}{y:eU}{k:Nat}(h:k≠m):(g.oa m r i y).arr k=g.arr k:=by
 funext j
 simp[Gh.oa,h]
def Gh.pY(b:Nat):(g.oa m r i y).arr m (rc (r+1) b)=if b=i then Z y else g.arr m (rc r b):=by have a:∃c,rc (r+1) b=rc (r+1) c:=⟨b,rfl⟩;have d:a.choose=b:=(rL a.choose_spec).2.symm;simp[Gh.oa,yE,dif_pos a,d]
theorem Gh.yA{g:Gh}{m r i:Nat}{y:eU}{j:Nat}(h:∀a,j≠rc (r+1) a):(g.oa m r i y).arr m j=g.arr m j:=by
 simp_all[Gh.oa]
def aY.acd{w':av}(hs:aY g s w){F:eU}{v:az}{t:L D}(ho:s.ob.get o=Z (.kT nj sz es era m r Y))
  (hm:s.ob.get m=Z (.rws szr iG r)) (hoN:o<bD) (S:g.arr m (rc r i)=Z y) (f:Te g w szr t y v w' F) (Pw:s.fl<=m) :
  aY (g.oa m r i F) {s with ob:=(s.ob.set aO m (.rws szr (iG.set i t) (r+1))).set aO o (.kT nj sz es era m (r+1) (Z i))} w'/\Ext s.fl g w (g.oa m r i F) w':=by
 have hmN:m<bD:=iE (hs.lt' S) hs.aF;have hom:o≠m:=by grind
 let ⟨hnone,I,hrow⟩:=hs.pX hm S
 let ⟨_,rs0,abq,aoy⟩:=hrow i rfl
 have hilt:=ct abq;have P:∀b,y.at b->bx g m b:=λb a=>by
  have h1:=(aoy.at_ a).1
  let ⟨u,k1,k2,Q⟩:=a
  exact⟨λUw=>Bool.noConfusion (h1.2 Uw),.inr ⟨_,y,u,S,k1,k2,Q⟩⟩
 have Kg:∀k j z,g.arr k j=Z z->(g.oa m r i F).arr k j=Z z:=λk j z h=>by
  grind[Gh.yA,Gh.me]
 have d:∀k j z,(g.oa m r i F).arr k j=Z z->(k=m/\j=rc (r+1) i/\z=F)\/(k=m/\∃l,l≠i/\j=rc (r+1) l/\g.arr m (rc r l)=Z z)\/((∀l,k=m->j≠rc (r+1) l)/\g.arr k j=Z z):=λk j z h=>by
  by_cases R:k=m;subst R;by_cases hj:∃l,j=rc (r+1) l;obtain⟨l,rfl⟩:=hj;rw[Gh.pY]at h
  grind
  grind[Gh.yA]
  grind[Gh.me]
 have x:∀k b,bx (g.oa m r i F) k b->bx g k b\/(k=m/\w.heap.size<=b):=by
  rintro k b ⟨h1,h2|⟨j,z,u,h2,h3,h4,h5⟩⟩
  exact .inl ⟨h1,.inl h2⟩;obtain⟨rfl,_,rfl⟩|⟨rfl,l,_,_,h⟩|⟨_,h⟩:=d k j z h2
  obtain h|h:=(f.at_ b ⟨u,h3,h4,h5⟩).2
  omega
  simp_all
  exact .inl ⟨h1,.inr ⟨_,z,u,h,h3,h4,h5⟩⟩;exact .inl ⟨h1,.inr ⟨j,z,u,h,h3,h4,h5⟩⟩
 have he:Ext s.fl g w (g.oa m r i F) w':=
  ⟨λ_ _ h=>h,Kg,λ_ h=>h,f.size,λb a hn=>f.heap b a λn=>hn m Pw (P b n),λk b h=>(x k b h).imp id (·.2),λ_ h=>.inl h,f.os,f.output⟩
 have dN:∀k,((s.ob.set aO m (.rws szr (iG.set i t) (r+1))).set aO o (.kT nj sz es era m (r+1) (Z i))).get k=if k=o then Z (.kT nj sz es era m (r+1) (Z i))else if k=m then Z (.rws szr (iG.set i t) (r+1))else s.ob.get k:=λk=>by rw[Tr.aV _ _ _ _ hoN,Tr.aV _ _ _ _ hmN]
 have aoL:=hs.zV ho rfl;have aoM:=hs.zV hm rfl;have A:∀k j z,g.arr k j=Z z->k≠m->∀b,z.a=Z ⟨b,0,Y⟩->z.cap≠0->w'.heap[b]?=w.heap[b]?:=λk j z E R b a p=>by refine f.heap b ((hs.arr k j z E).1 _ a p) λn=>?_;have hO:=P b n;exact R (hs.jF k m b ⟨hO.1,.inr ⟨j,z,_,E,a,rfl,p⟩⟩ hO)
 refine⟨⟨hs.aF,λk R=>⟨(hs.ai k R).1,λj=>?_⟩,λk b a=>?_,λk j z E=>?_,λb a=>iE (hs.bp b a) f.size,λk k' b h h'=>?_⟩,he⟩;rw[Gh.me (by rintro rfl;have:=hs.lt' S;grind)];exact(hs.ai k R).2 j;have hb':g.bP k=Z b:=a;have K:k≠o:=by grind
 have c:k≠m:=by grind
 have q:=hs.box k b hb';exact q.ext he hs.bp (f.heap b q.2.1 λn=>c (hs.jF k m b ⟨q.1,.inl hb'⟩ (P b n))) (by simp;rw[dN,cm K,cm c]) q.1;by_cases c:k=m;subst c;refine⟨λu ha p=>?_,λob B=>?_⟩;obtain⟨_,_,rfl⟩|⟨_,l,_,_,h⟩|⟨_,h⟩:=d k j z E
 exact(f.at_ _ ⟨u,ha,rfl,p⟩).1;exact iE ((hs.arr k _ z h).1 u ha p) f.size;exact iE ((hs.arr k _ z h).1 u ha p) f.size;rw[dN,cm (λe=>hom e.symm),bO rfl]at B;obtain rfl:=jG B;refine .inr (.inr (.inl ⟨szr,iG.set i t,r+1,rfl,λr' l hr'=>?_,λi1 i2 y1 y2 hne h1 h2 b Dd oY=>?_,λl hj=>?_⟩))
 grind[Gh.yA,rL]
 rw[Gh.pY]at h1 h2;have mix:∀i3 y3,i3≠i->g.arr k (rc r i3)=Z y3->∀b,F.at b->¬y3.at b:=λi3 y3 hn h3 b a PC=>by
  obtain h|h:=(f.at_ b a).2
  let ⟨u,k1,k2,Q⟩:=PC
  have:=(hs.arr k _ y3 h3).1 u k1 Q;omega
  grind
 grind
 subst hj;rw[Gh.pY]at E;split at E;rename_i e1;subst e1;cases E;exact⟨f.sz,t,by rw[TP hilt],f.ok.jU rfl⟩;rename_i e1
 let ⟨q1,rs,q2,q3⟩:=(hs.pX hm E).2.2 l rfl
 refine⟨q1,rs,by grind,q3.ext he hs.bp (λb a p=>⟨?_,yF⟩)⟩;exact f.heap b ((hs.arr k _ z E).1 _ a p) (λn=>I i l y z (λe=>e1 e.symm) S E b n ⟨_,a,rfl,p⟩);have C:g.arr k j=Z z:=by grind
 by_cases K:k=o;subst K
 let ⟨q1,q2,q3,q4⟩:=hs.Bh ho C
 refine⟨λu ha p=>iE ((hs.arr k j z C).1 u ha p) f.size,λob B=>?_⟩;rw[dN,bO rfl]at B;obtain rfl:=jG B;refine .inr (.inl ⟨nj,es,era,m,r+1,Z i,by rw[q1],q2,λe' h=>by rw[Gh.me c];exact q3 e' h,λhje=>?_⟩)
 let ⟨hl,k1,k2,Q⟩:=q4 hje
 refine⟨hl,k1,q1▸(k2.ext he hs.bp (λb a p=>⟨A k j z C c b a p,yF⟩)),Q.1,λl h hh hne=>?_⟩
 let ⟨yy,h1,h2⟩:=Q.2 l h hh (by simp)
 exact⟨yy,by rw[Gh.pY,cm (λe=>hne (by rw[e]))];exact h1,h2⟩;exact(hs.arr k j z C).ext he hs.bp (λb a p=>⟨A k j z C c b a p,yF⟩) (by simp;rw[dN,cm K,cm c]) (Gh.me c);obtain h1|⟨h1,h3⟩:=x k b h<;>obtain h2|⟨h2,h4⟩:=x k' b h'
 exact hs.jF k k' b h1 h2;have:=(hs.qU h1).1;omega;have:=(hs.qU h2).1;omega;rw[h1,h2]
noncomputable def Gh.gW(g:Gh)(m:Nat)(ys:L eU):Gh:=by
 classical
 exact{g with arr:=λk j=>if k=m then(if h:∃i,j=rc 0 i then ys[h.choose]? else Y)else g.arr k j}
theorem Gh.js{g:Gh}{m:Nat}{ys:L eU}{k:Nat}(h:k≠m):(g.gW m ys).arr k=g.arr k:=by
 funext j
 simp[Gh.gW,h]
theorem Gh.wF{g:Gh}{m:Nat}{ys:L eU}(i:Nat):(g.gW m ys).arr m (rc 0 i)=ys[i]?:=by have a:∃b,rc 0 i=rc 0 b:=⟨i,rfl⟩;have c:a.choose=i:=(rL a.choose_spec).2.symm;simp[Gh.gW,yE,dif_pos a,c]
theorem Gh.ux{g:Gh}{m:Nat}{ys:L eU}{j:Nat}{z:eU}(h:(g.gW m ys).arr m j=Z z):∃i,j=rc 0 i/\ys[i]?=Z z:=by by_cases a:∃i,j=rc 0 i;obtain⟨i,rfl⟩:=a;rw[Gh.wF]at h;exact⟨i,rfl,h⟩;simp only[Gh.gW,yE,dif_neg a]at h;cases h
def aY.afK(hs:aY g s w)(hn:s.aF<bD){ys:L eU}(F:∀y∈ys,∀b,y.at b->b<w.heap.size/\∀o,¬bx g o b)
  (n:∀(i:Nat)(y:eU),ys[i]?=Z y->y.sz=sz/\∃f,iG[i]?=Z f/\wQ g w J sz f y) (I:ys.Pairwise λx y=>∀b,x.at b->¬y.at b) :
  aY (g.gW s.aF ys) (ee s (.rws sz iG 0)).2 w/\(∀k j y,g.arr k j=Z y->(g.gW s.aF ys).arr k j=Z y)/\(∀k b,bx (g.gW s.aF ys) k b->bx g k b\/(k=s.aF/\∃y∈ys,y.at b)):=by
 have p:=hs.ai s.aF (cM _);have c:∀k j y,g.arr k j=Z y->(g.gW s.aF ys).arr k j=Z y:=λk j y h=>by
  rw[Gh.js];exact h
  grind
 have d:∀k b,bx (g.gW s.aF ys) k b->bx g k b\/(k=s.aF/\∃y∈ys,y.at b):=by
  rintro k b ⟨h1,h2|⟨j,y,l,h2,h3⟩⟩
  exact .inl ⟨h1,.inl h2⟩;by_cases e:k=s.aF;subst e
  let ⟨i,_,m⟩:=Gh.ux h2
  exact .inr ⟨rfl,y,hU m,l,h3⟩;rw[Gh.js e]at h2;exact .inl ⟨h1,.inr ⟨j,y,l,h2,h3⟩⟩
 have dN:∀k,(ee s (.rws sz iG 0)).2.ob.get k=if k=s.aF then Z (.rws sz iG 0)else s.ob.get k:=λk=>by simp[ee];rw[Tr.aV _ _ _ _ hn]
 refine⟨⟨by simp only[ee];omega,λk e=>?_,λk b K=>?_,λk j y P=>?_,hs.bp,λk C b h Q=>?_⟩,c,d⟩;simp only[ee]at e;refine⟨(hs.ai k (by omega)).1,λj=>?_⟩;rw[Gh.js (by omega)];exact(hs.ai k (by omega)).2 j;have q:g.bP k=Z b:=K;have r:k≠s.aF:=λh=>by simp_all
 let ⟨u,A,R⟩:=hs.box k b q
 refine⟨u,A,λob a=>?_⟩;rw[dN,cm r]at a
 let ⟨x,h1,h2⟩:=R ob a
 refine⟨x,h1,?_⟩;exact h2.imp (λt v S=>S.apx c rfl rfl);by_cases e:k=s.aF;subst e;obtain⟨i,rfl,m⟩:=Gh.ux P;refine⟨λl ha hc=>(F y (hU m) _ ⟨l,ha,rfl,hc⟩).1,λob a=>?_⟩;rw[dN,bO rfl]at a;obtain rfl:=jG a;refine .inr (.inr (.inl ⟨sz,iG,0,rfl,λr' E hr'=>?_,λi1 i2 y1 y2 hne h1 h2 b Dd oY=>?_,λE hj=>?_⟩))
 .cases h:(g.gW s.aF ys).arr s.aF (rc r' E)with
  |none=>rfl|some z=>
   grind[Gh.ux,rL]
 grind[Gh.wF,List.pairwise_iff_getElem]
 have:=(rL hj).2;subst this
 let ⟨q1,f,q2,q3⟩:=n i y m
 exact⟨q1,f,q2,q3.jU rfl⟩;have B:g.arr k j=Z y:=by grind[Gh.js]
 let ⟨u,A⟩:=hs.arr k j y B
 refine⟨u,λob a=>?_⟩;rw[dN,cm e]at a;exact(A ob a).tr (λh=>h.jU rfl) c (Gh.js e) (λ_ _ _=>⟨rfl,yF⟩);obtain h1|⟨h1,y1,m1,a1⟩:=d k b h<;>obtain h2|⟨h2,y2,m2,a2⟩:=d C b Q
 exact hs.jF k C b h1 h2
 grind
 grind
 rw[h1,h2]
end
section
variable {g:Gh}{s:St}{w:av}{o:Nat}
def aY.JB(hs:aY g s w){e sz:Nat}{es:L D}{x:eU}(c:s.ob.get o=Z (.kM sz es e))(d:g.arr o e=Z x) :
  dF g.bp w (.sl es) (.slice x.a x.len x.cap):=by
 let ⟨a,_⟩:=hs.ni (fz:=W) c d
 exact a.UW (λ_ h=>h) (λb f=>(a.at_ f).1.1 rfl)
def Live(g:Gh)(s:St)(o:Nat):Prop:=o<bD/\((∃e x,g.arr o e=Z x/\((∃fz sz es,s.ob.get o=Z (fM fz sz es e))\/∃nj sz es m r hole,s.ob.get o=Z (.kT nj sz es e m r hole)))\/(∃sz iG r,s.ob.get o=Z (.rws sz iG r))\/s.ob.get o=Z .gone)
def Live.nP{g:Gh}{s:St}{o:Nat}{ob:Ob}(h:Live g s o)(a:s.ob.get o=Z ob):ob.nP=W:=by
 obtain⟨_,_,_,⟨b,_,_,h⟩|⟨_,_,_,_,_,_,h⟩⟩|⟨_,_,_,h⟩|h:=h.2
 rw[a]at h;cases h;cases b<;>rfl;rw[a]at h;cases h;rfl;rw[a]at h;cases h;rfl;rw[a]at h;cases h;rfl
structure jl(s s':St)(os:List Nat):Prop where
 fl:s'.fl=s.fl
 aF:s'.aF=s.aF
 hit:∀o∈os,∀fz sz es e,s.ob.get o=Z (fM fz sz es e)->s'.ob.get o=Z (.kM sz es e)
 kM:∀o sz es e,s.ob.get o=Z (.kM sz es e)->s'.ob.get o=Z (.kM sz es e)
 kT:∀o∈os,∀nj sz es e m r iG,s.ob.get o=Z (.kT nj sz es e m r Y)->Hl s m r=Z iG->s'.ob.get o=Z (.kM sz (mw nj es iG) e)
theorem jl.sub{s s':St}{os a:L Nat}(h:jl s s' os)(hs:∀o∈a,o∈os):jl s s' a:=
 ⟨h.fl,h.aF,λo b=>h.hit o (hs o b),h.kM,λo b=>h.kT o (hs o b)⟩
def pF{m r:Nat}{iG:L (L D)}(h:Hl s m r=Z iG):∃sz,s.ob.get m=Z (.rws sz iG r):=by
 unfold Hl at h;split at h;obtain⟨a,h⟩|⟨_,h⟩:=ah h
 simp_all
 cases h;cases h
def vV{s':St}{os:L Nat}(h:freeze s (o::os)=Z s'):s.fl<=o/\
  ((∃sz es e,s.ob.get o=Z (.arr sz es e)/\freeze {s with ob:=s.ob.set aO o (.kM sz es e)} os=Z s')\/
   (∃sz es e,s.ob.get o=Z (.kM sz es e)/\freeze s os=Z s')\/
   (((∃sz iG r,s.ob.get o=Z (.rws sz iG r))\/s.ob.get o=Z .gone)/\freeze s os=Z s')\/
   (∃nj sz es e m r iG b,s.ob.get o=Z (.kT nj sz es e m r Y)/\s.ob.get m=Z (.rws b iG r)/\Hl s m r=Z iG/\(m∈os/\s.fl<=m)/\m<bD/\freeze {s with ob:=(s.ob.set aO m .gone).set aO o (.kM sz (mw nj es iG) e)} os=Z s')):=by
 obtain⟨d,h⟩|⟨_,h⟩:=ah h
 refine⟨gH d,?_⟩;split at h
 grind
 simp_all
 rename_i nj sz es e m r f;split at h;rename_i iG c;obtain⟨a,h⟩|⟨_,h⟩:=ah h
 rw[eM]at a
 let ⟨b,g⟩:=pF c
 rw[eM]at a;exact .inr (.inr (.inr ⟨nj,sz,es,e,m,r,iG,b,f,g,c,⟨by grind,gH a.2.1⟩,gH a.2.2,h⟩));cases h;cases h
 simp_all
 simp_all
 cases h;cases h
def nV:∀{os:L Nat}{s s':St}{m:Nat},freeze s os=Z s'->s.ob.get m=Z .gone->(∀o∈os,o<bD)->∀o∈os,∀nj sz es e r hole,s.ob.get o≠Z (.kT nj sz es e m r hole)
 |[],_,_,_,_,_,_,o,j,_,_,_,_,_,_=>by cases j
 |b::os,s,s',m,h,q,l,o,j,nj,sz,es,e,r,hole=>λu=>by
  obtain⟨_,h1|h1|h1|h1⟩:=vV h
  let ⟨d,f,t,g,h2⟩:=h1
  have i:m≠b:=by grind
  have a:o≠b:=by grind
  have dN:∀k,k≠b->({s with ob:=s.ob.set aO b (.kM d f t)}:St).ob.get k=s.ob.get k:=λk c=>by show(s.ob.set aO b _).get k=_;rw[Tr.aV _ _ _ _ (l b (by simp)),cm c]
  exact nV h2 (by rw[dN m i];exact q) (λk c=>l k (by simp[c])) o ((fF.1 j).resolve_left a) nj sz es e r hole (by simp_all)
  let ⟨d,f,t,g,h2⟩:=h1
  have a:o≠b:=by grind
  exact nV h2 q (λk c=>l k (by simp[c])) o ((fF.1 j).resolve_left a) nj sz es e r hole u
  let ⟨g,h2⟩:=h1
  have a:o≠b:=by
   rintro rfl
   obtain⟨_,_,_,h⟩|h:=g<;>(rw[u]at h;cases h)
  exact nV h2 q (λk c=>l k (by simp[c])) o ((fF.1 j).resolve_left a) nj sz es e r hole u
  let ⟨v,d,f,t,n,C,p,z,g,B,_,_,w,h2⟩:=h1
  have x:m≠n:=by grind
  have i:m≠b:=by grind
  by_cases a:o=b
  simp_all
  have A:o≠n:=by grind
  have dN:∀k,k≠b->k≠n->({s with ob:=(s.ob.set aO n .gone).set aO b (.kM d (mw v f p) t)}:St).ob.get k=s.ob.get k:=λk c y=>by show((s.ob.set aO n _).set aO b _).get k=_;rw[Tr.aV _ _ _ _ (l b (by simp)),cm c,Tr.aV _ _ _ _ w,cm y]
  exact nV h2 (by rw[dN m i x];exact q) (λk c=>l k (by simp[c])) o ((fF.1 j).resolve_left a) nj sz es e r hole (by simp_all)
def ew(os:L Nat):∀{g:Gh}{s s':St}{w:av},aY g s w->freeze s os=Z s'->(∀o∈os,Live g s o)->
  ∃g',aY g' s' w/\Ext s.fl g w g' w/\jl s s' os:=by
 induction os with
 |nil=>intro g s s' w I h _;simp[freeze]at h;subst h;exact⟨g,I,Ext.refl _ _ _,⟨rfl,rfl,λo j=>(by cases j),λ_ _ _ _ h=>h,λo j=>(by cases j)⟩⟩
 |cons o os ih=>
  intro g s s' w I h A;have hN:∀k∈o::os,k<bD:=λk f=>(A k f).1;have y:=hN o (by simp);obtain⟨K,h1|h1|h1|h1⟩:=vV h;obtain⟨sz,t,e0,j,h⟩:=h1;obtain⟨x,B⟩:∃x,g.arr o e0=Z x:=by
   obtain⟨e,x,B,⟨q,_,_,h⟩|⟨_,_,_,_,_,_,h⟩⟩|⟨_,_,_,h⟩|h:=(A o (by simp)).2
   grind[fM,Option.some.inj,ko]
   simp_all
   simp_all
   simp_all
  obtain⟨C,u⟩:=I.abQ j B K;have dN:∀k,({s with ob:=s.ob.set aO o (.kM sz t e0)}:St).ob.get k=if k=o then Z (.kM sz t e0)else s.ob.get k:=λk=>Tr.aV _ _ _ _ y
  obtain⟨g',n,p,a⟩:=ih C h (λk f=>by
   by_cases b:k=o;subst b;exact⟨y,.inl ⟨e0,x,B,.inl ⟨W,sz,t,by rw[dN,bO rfl];rfl⟩⟩⟩;have:=A k (by simp[f]);unfold Live at this ⊢;rw[dN,cm b];exact this)
  refine⟨g',n,u.trans p,⟨a.fl,a.aF,λk f q c d i h1=>?_,λk c d i h1=>?_,λk f z c d i m r l h1 h2=>?_⟩⟩;by_cases b:k=o;subst b;rw[j]at h1;have E:fM J sz t e0=_:=jG h1;obtain⟨_,rfl,rfl,rfl⟩:=ko E;exact a.kM k sz t e0 (by rw[dN,bO rfl]);exact a.hit k ((fF.1 f).resolve_left b) q c d i (by simp_all);have b:k≠o:=by
   grind
  exact a.kM k c d i (by simp_all);have b:k≠o:=by grind
  obtain⟨szr,hm⟩:=pF h2;have P:m≠o:=by grind
  exact a.kT k ((fF.1 f).resolve_left b) z c d i m r l (by simp_all) (by simp_all[Hl,cm]);obtain⟨sz,t,e,j,h⟩:=h1;obtain⟨g',n,p,a⟩:=ih I h (λk f=>A k (by simp[f]));refine⟨g',n,p,⟨a.fl,a.aF,λk f q c d i h1=>?_,a.kM,λk f z c d i m r l h1 h2=>?_⟩⟩;obtain rfl|f:=fF.1 f
  rw[j]at h1;have E:fM W sz t e=_:=jG h1;obtain⟨_,rfl,rfl,rfl⟩:=ko E;exact a.kM k sz t e j;exact a.hit k f q c d i h1;have b:k≠o:=by grind
  exact a.kT k ((fF.1 f).resolve_left b) z c d i m r l h1 h2;obtain⟨j,h⟩:=h1;obtain⟨g',n,p,a⟩:=ih I h (λk f=>A k (by simp[f]));refine⟨g',n,p,⟨a.fl,a.aF,λk f q c d i h1=>?_,a.kM,λk f z c d i m r l h1 h2=>?_⟩⟩;have b:k≠o:=by rintro rfl;obtain⟨_,_,_,h⟩|h:=j<;>(rw[h1]at h;cases q<;>cases h)
  exact a.hit k ((fF.1 f).resolve_left b) q c d i h1;have b:k≠o:=by rintro rfl;obtain⟨_,_,_,h⟩|h:=j<;>(rw[h1]at h;cases h)
  exact a.kT k ((fF.1 f).resolve_left b) z c d i m r l h1 h2;obtain⟨z,sz,t,e0,m,r,l,szr,j,hm,hr,⟨_,Q⟩,F,h⟩:=h1;obtain⟨x,B⟩:∃x,g.arr o e0=Z x:=by
   obtain⟨e,x,B,⟨q,_,_,h⟩|⟨_,_,_,_,_,_,h⟩⟩|⟨_,_,_,h⟩|h:=(A o (by simp)).2
   rw[j]at h;cases q<;>cases h
   simp_all
   simp_all
   simp_all
  obtain⟨g1,C,u⟩:=I.UK j hm F B K Q;have hom:o≠m:=by grind
  have dN:∀k,({s with ob:=(s.ob.set aO m .gone).set aO o (.kM sz (mw z t l) e0)}:St).ob.get k=if k=o then Z (.kM sz (mw z t l) e0)else if k=m then Z .gone else s.ob.get k:=λk=>by show((s.ob.set aO m _).set aO o _).get k=_;rw[Tr.aV _ _ _ _ y,Tr.aV _ _ _ _ F]
  obtain⟨g',n,p,a⟩:=ih C h (λk f=>by
   by_cases b:k=o;subst b;exact⟨y,.inl ⟨e0,x,u.arr _ _ _ B,.inl ⟨W,sz,_,by rw[dN,bO rfl];rfl⟩⟩⟩;by_cases v:k=m;subst v;exact⟨F,.inr (.inr (by rw[dN,cm b,bO rfl]))⟩;obtain⟨h0,h1⟩:=A k (by simp[f]);refine⟨h0,?_⟩;rw[dN,cm b,cm v];exact h1.imp (λ⟨i,x',h1,h2⟩=>⟨i,x',u.arr _ _ _ h1,h2⟩) id)
  refine⟨g',n,u.trans p,⟨a.fl,a.aF,λk f q c d i h1=>?_,λk c d i h1=>?_,λk f R c d i m' r' S h1 h2=>?_⟩⟩;have b:k≠o:=by rintro rfl;rw[j]at h1;cases q<;>cases h1
  have v:k≠m:=by rintro rfl;rw[hm]at h1;cases q<;>cases h1
  exact a.hit k ((fF.1 f).resolve_left b) q c d i (by simp_all);have b:k≠o:=by grind
  have v:k≠m:=by grind
  exact a.kM k c d i (by simp_all);by_cases b:k=o;subst b;rw[j]at h1;cases h1;rw[hr]at h2;cases h2;exact a.kM k _ _ _ (by rw[dN,bO rfl]);have hk':=(fF.1 f).resolve_left b;obtain⟨szr',hm'⟩:=pF h2;have v:k≠m:=by grind
  have P:m'≠o:=by grind
  have hmm:m'≠m:=by
   rintro rfl
   exact nV h (m:=m') (by rw[dN,cm P,bO rfl]) (λk f=>hN k (by simp[f])) k hk' R c d i r' Y (by simp_all)
  exact a.kT k hk' R c d i m' r' S (by simp_all) (by simp_all[Hl,cm])
mutual
def lJ{g:Gh}{s:St}{w:av}(hs:aY g s w):∀(t:T){v:az}{p:Prop}{d:D}{os:L Nat},AV s t=Z (p,d,os)->p->aH g w t v->
  (∀o∈os,Live g s o)/\∀(g':Gh)(s':St),aY g' s' w->Ext s.fl g w g' w->jl s s' os->dF g'.bp w d v
 |.sym d,v,p,K,os,h,B,f=>by obtain⟨_,rfl,rfl⟩:=h;cases f with|sym _ _ y=>exact⟨λo l=>(by cases l),λg' s' _ A _=>y.ext A hs.bp⟩
 |.kb b,v,p,K,os,h,B,f=>by obtain⟨_,rfl,rfl⟩:=h;cases f;exact⟨λo l=>(by cases l),λg' s' _ A _=>.lit _⟩
 |.kn k n,v,p,K,os,h,B,f=>by obtain⟨_,rfl,rfl⟩:=h;cases f;exact⟨λo l=>(by cases l),λg' s' _ A _=>.lit _⟩
 |.emp,v,p,K,os,h,B,f=>by obtain⟨_,rfl,rfl⟩:=h;cases f with|emp a=>exact⟨λo l=>(by cases l),λg' s' _ A _=>.sl [] a 0 0 (λ_ _=>undef) (by simp) (by simp) (by simp) (λh=>absurd rfl h) (λi j d c h=>by simp at h)⟩
 |.j4 n P,v,p,K,os,h,B,f=>by obtain⟨_,rfl,rfl⟩:=h;cases f with|j4 _ _ a hn y=>exact⟨λo l=>(by cases l),λg' s' _ A _=>y.ext A hs.bp⟩
 |.o6 j d,v,p,K,os,h,B,f=>by obtain⟨_,rfl,rfl⟩:=h;cases f with|o6 _ _ c a hj y=>exact⟨λo l=>(by cases l),λg' s' _ A _=>(Aq hj y).ext A hs.bp⟩
 |.rQ _ _ _ _,_,_,_,_,h,_,_=>by simp[AV]at h
 |.sh o e,v,p,K,os,h,B,f=>by
  cases f with
  |sh _ _ len cap sz a Q=>
  simp[AV]at h;split at h;rename_i z P era l;obtain⟨I,C⟩|⟨_,C⟩:=ah h
  have E:=beq_iff'.1 I;obtain⟨_,rfl,rfl⟩:=C;clear h I;subst E;refine⟨λk R=>?_,λg' s' F A hf=>?_⟩;simp at R;subst R;exact⟨iE (hs.lt' Q) hs.aF,.inl ⟨e,_,Q,.inl ⟨J,z,P,l⟩⟩⟩;exact F.JB (hf.hit o (by simp) J z P e l) (A.arr _ _ _ Q);cases C;rename_i z P era l;obtain⟨I,C⟩|⟨_,C⟩:=ah h
  have E:=beq_iff'.1 I;obtain⟨_,rfl,rfl⟩:=C;clear h I;subst E;exact⟨λk R=>(by cases R),λg' s' F A hf=>F.JB (hf.kM o z P e l) (A.arr _ _ _ Q)⟩;cases C;rename_i nj z P era m r l;split at h;rename_i iG hr;obtain⟨I,C⟩|⟨_,C⟩:=ah h
  rw[eM]at I;have E:=beq_iff'.1 I.1;have hmN:m<bD:=gH I.2;obtain⟨_,rfl,rfl⟩:=C;clear h I;subst E;refine⟨λk R=>?_,λg' s' F A hf=>?_⟩;simp at R;obtain rfl|rfl:=R
  exact⟨iE (hs.lt' Q) hs.aF,.inl ⟨e,_,Q,.inr ⟨nj,z,P,m,r,Y,l⟩⟩⟩
  let ⟨szr,hm⟩:=pF hr
  exact⟨hmN,.inr (.inl ⟨szr,iG,r,hm⟩)⟩;exact F.JB (hf.kT o (by simp) nj z P e m r iG l hr) (A.arr _ _ _ Q);cases C;cases h;cases h
 |.de t x,v,p,K,os,h,B,f=>by
  cases f with
  |de _ _ u hu=>
  simp[AV]at h;split at h;rename_i q d os' y;obtain⟨rfl,rfl,rfl⟩:=h
  let ⟨h1,h2⟩:=lJ hs x y B hu
  exact⟨h1,λg' s' a b c=>.de _ _ _ (h2 g' s' a b c)⟩;cases h
 |.agg cs,v,p,K,os,h,B,f=>by
  cases f with
  |agg _ vs hl hr=>
  simp only[AV]at h;split at h;rename_i q ds os' y;obtain⟨rfl,rfl,rfl⟩:=h
  let ⟨h0,h1,h2⟩:=pS hs cs (vs:=vs.toList) y B.1 (by simpa using hl) (λj t v f S=>hr j t v f (by simpa using S))
  refine⟨h1,λg' s' a b c=>.agg _ _ (by rw[h0,hl]) (λd y=>by simp_all) (λj d v y S=>h2 g' s' a b c j d v y (by simpa using S))⟩;cases h
 |.gG cs,v,p,K,os,h,B,f=>by
  cases f with
  |gG _ vs hl hr=>
  simp[AV]at h;split at h;rename_i y;obtain⟨rfl,rfl,rfl⟩:=h
  let ⟨h0,h1,h2⟩:=pS hs cs (vs:=vs.toList) y B (by simpa using hl) (λj t v f S=>hr j t v f (by simpa using S))
  exact⟨h1,λg' s' a b c=>.gG _ _ (by rw[h0,hl]) (λj d v y S=>h2 g' s' a b c j d v y (by simpa using S))⟩;cases h
 |.ptr _ _,_,_,_,_,h,_,_=>by simp[AV]at h
 |.lD _ _,_,_,_,_,h,_,_=>by simp[AV]at h
 |.lC _ _ _ _,_,_,_,_,h,_,_=>by simp[AV]at h
 |.fn _ _ _,_,_,_,_,h,_,_=>by simp[AV]at h
 |.gd _ _,_,_,_,_,h,_,_=>by simp[AV]at h
def pS{g:Gh}{s:St}{w:av}(hs:aY g s w):∀(ts:L T){vs:L az}{p:Prop}{ds:L D}{os:L Nat},nH s ts=Z (p,ds,os)->p->ts.length=vs.length->
  (∀(j:Nat)(t:T)(v:az),ts[j]?=Z t->vs[j]?=Z v->aH g w t v)->
  ds.length=ts.length/\(∀o∈os,Live g s o)/\∀(g':Gh)(s':St),aY g' s' w->Ext s.fl g w g' w->jl s s' os->
   ∀(j:Nat)(d:D)(v:az),ds[j]?=Z d->vs[j]?=Z v->dF g'.bp w d v
 |[],vs,p,ds,os,h,e,c,f=>by obtain⟨_,rfl,rfl⟩:=h;exact⟨rfl,λo ho=>(by cases ho),λg' s' _ _ _ j d v a=>by simp at a⟩
 |t::ts,vs,p,ds,os,h,e,c,f=>by
  simp[nH]at h;split at h
  .rename_i d i B l k h1 h2;simp only[gC,fc]at h;obtain⟨rfl,rfl,rfl⟩:=h
   match vs,c with
   |v::vs,c=>
    let ⟨a1,a2⟩:=lJ hs t h1 e.1 (f 0 t v rfl rfl)
    let ⟨m,n,q⟩:=pS hs ts (vs:=vs) h2 e.2 (by simpa using c) (λj t v r b=>f (j+1) t v (by simpa using r) (by simpa using b))
    refine⟨by simp[m],λo ho=>?_,λg' s' x y z j d v a b=>?_⟩;obtain ho|ho:=eN.1 ho
    exact a1 o ho;exact n o ho;have u:jl s s' i:=z.sub (λo ho=>eL _ ho);have A:jl s s' k:=z.sub (λo ho=>kz _ ho);cases j with|zero=>simp at a b;subst a;subst b;exact a2 g' s' x y u|succ j=>exact q g' s' x y A j d v (by simpa using a) (by simpa using b)
  cases h
end
end
section
def PW{α β:Type}(R:α->β->Prop)(l:L α)(m:L β):Prop:=l.length=m.length/\∀(j:Nat)(a:α)(b:β),l[j]?=Z a->m[j]?=Z b->R a b
section
variable {α β:Type}{R:α->β->Prop}
def PW.append{l e:L α}{m f:L β}(h:PW R l m)(g:PW R e f):PW R (l++e) (m++f):=by refine⟨by simp[h.1,g.1],λj a b d c=>?_⟩;rw[sG]at d c;rw[<-h.1]at c;by_cases i:j<l.length;rw[bO i]at d c;exact h.2 j a b d c;rw[cm i]at d c;exact g.2 _ a b d c
def PW.take{l:L α}{m:L β}(h:PW R l m)(n:Nat):PW R (l.take n) (m.take n):=by
 refine⟨by simp[h.1],λj a b c d=>?_⟩;rw[TM]at c d;by_cases e:j<n;rw[bO e]at c d;exact h.2 j a b c d
 simp_all
theorem PW.drop{l:L α}{m:L β}(h:PW R l m)(n:Nat):PW R (l.drop n) (m.drop n):=by refine⟨by simp[h.1],λj a b c d=>?_⟩;rw[TK]at c d;exact h.2 _ a b c d
end
def Pd{l:L T}(h:leaves l):∀t∈l,t.leaf:=by
 induction l with
 |nil=>simp_all|cons a l c=>
  intro t b;obtain rfl|b:=fF.1 b
  exact h.1;exact c h.2 t b
variable {g:Gh}{w:av}{P:cP}{i:TI}
def PW.one{l:L T}{vs:L az}(h:PW (aH g w) l vs)(hl:leaves l):∀v∈vs,v.oneCell'=W:=by
 intro v c;obtain⟨j,b,rfl⟩:=p8 c;have a:j<l.length:=by rw[h.1];exact b
 exact(Tm (Pd hl _ (JM a)) (h.2 j _ _ (iu a) (iu b))).1
def xJ{t:TypeId}{x:TypeInfo}(hi:P.info? t=Z x)(w:av)(b off:Nat)(v:az)(a:v.cells.size=x.size){vs:Array az}{ty:TypeId}
  (c:w.heap[b]?=Z (.cells vs ty (0,0))) (hl:off+v.cells.size<=vs.size) (h1:∀u∈v.cells.toList,u.oneCell'=W) :
  (storeVar t ⟨b,off,Y⟩ v).run P w=.ok () (w.setRow b (vs.toList.take off++v.cells.toList++vs.toList.drop (off+v.cells.size)).toArray):=by
 have:=run_storeCells_at (P:=P) b off ty v.cells.toList 0 vs w c (by simpa using hl) h1
 simp_all[storeVar,dm]
def pM{t:T}{v:az}{p:Prop}{cs:L T}(h:jY i t=Z (p,cs))(c:p)(d:aH g w t v) :
  PW (aH g w) cs v.cells.toList/\cs.length=i.size:=by
 let ⟨h1,h2,h3,_⟩:=mB h c d
 exact⟨⟨by simp[h1,h2],λj a b e f=>h3 j a b e (by simpa using f)⟩,h1⟩
def D.NW{ds:L D}(h:ds.all D.leaf=W):∀d∈ds,d.leaf=W:=by simpa using h
def JP(es:L D)(k i:Nat)(d a:D)(h:(ym es k d)[i]?=Z a):(i=k/\k<es.length/\a=d)\/(i≠k/\es[i]?=Z a):=by
 unfold ym at h
 grind
def Jv{ty:TypeId}(hi:mM P ty i){s s':St}(hs:aY g s w){a x:T}{va vx:az}(ha:aH g w a va)(hx:aH g w x vx)
  {p:Prop} {t:T} (h:storeT i s a x=Z (p,t,s')) (hp:p) :
  ∃w' g',(Instr.storeAt ty va vx).run P w=.ok () w'/\aY g' s' w'/\Ext s.fl g w g' w'/\t=Re:=by
 let ⟨xi,d0,z,MR,hu,hsz,XX,_⟩:=hi.all
 unfold storeT at h;cases hc:jY i x with
 |none=>simp[hc]at h|some q=>
  let ⟨q,l⟩:=q
  simp only[hc]at h;cases ha with
  |ptr o off b hb=>
   cases y:s.ob.get o with
   |none=>simp[y]at h|some ob=>
   simp only[y]at h;cases ob with
   |box cs=>
   let ⟨B,ety,hh,hl,hr⟩:=(hs.box o b hb).box y
   obtain⟨hn,h⟩|⟨_,h⟩:=ah h
   simp only[eM]at hn;have hfl:=gH hn.1;have hlen:off+cC l<=cC cs:=gH hn.2;rw[bS,bS]at hlen;obtain⟨rfl,rfl,rfl⟩:=h
   let ⟨C,aeX⟩:=pM hc hp.1 hx
   have A:vx.cells.size=l.length:=by simpa using C.1.symm
   have hcs:PW (aH g w) cs B.toList:=⟨by simpa using hl,λj a b h1 h2=>hr j a b h1 (by simpa using h2)⟩;have I:=xJ (P:=P) MR w b off vx (by rw[A,aeX,hsz]) hh (by omega) (C.one hp.2);rw[A]at I;have hnew:PW (aH g w) (cs.take off++l++cs.drop (Na off (cC l))) (B.toList.take off++vx.cells.toList++B.toList.drop (off+l.length)):=by rw[bS];exact((hcs.take off).append C).append (hcs.drop _)
   let ⟨hs',he⟩:=hs.adZ hb y hfl (cs':=cs.take off++l++cs.drop (Na off (cC l)))
    (vs':=(B.toList.take off++vx.cells.toList++B.toList.drop (off+l.length)).toArray) (by simpa using hnew.1) (λj t v h1 h2=>hnew.2 j t v h1 (by simpa using h2))
   exact⟨_,g,by simpa[Instr.storeAt,Instr.sureAddr]using I,hs',he,rfl⟩;cases h
   |_=>simp at h
  |lC o e k off len cap sz ad ajb=>
   cases F:nH s l with
   |none=>simp[F]at h|some r=>
    let ⟨r,ds,os⟩:=r
    simp only[F]at h;cases K:freeze s os with
    |none=>simp[K]at h|some s1=>
    simp only[K]at h;cases y:s1.ob.get o with
    |none=>simp[y]at h|some ob=>
     cases ob with
     |box _=>simp[y]at h|kM _ _ _=>simp[y]at h|map _=>simp[y]at h|qO _ _=>simp[y]at h|kT _ _ _ _ _ _ _=>simp[y]at h|rws _ _ _=>simp[y]at h|gone=>simp[y]at h|E5=>simp[y]at h|lp _=>simp[y]at h|zm=>simp[y]at h|arr sz' es era=>
      simp only[y]at h;obtain⟨hn,h9⟩|⟨_,h9⟩:=ah h
      simp only[eM]at hn
      let ⟨hfl,hee⟩:=hn
      have hfl:=gH hfl;have hee:=beq_iff'.1 hee;subst hee;simp only[gC,fc]at h9;obtain⟨rfl,rfl,rfl⟩:=h9
      let ⟨hp1,hp2,hp3,hp4,hp5,hp6,hp7⟩:=hp
      let ⟨C,aeX⟩:=pM hc hp1 hx
      let ⟨b0,b1,b2⟩:=pS hs l F hp2 C.1 C.2
      let ⟨g1,zl,Z1,ae1⟩:=ew os hs K b1
      have rT:=b2 g1 s1 zl Z1 ae1;have hga:=Z1.arr _ _ _ ajb;clear ajb;have ao5:=ae1.fl;clear b1 b2 F K ae1
      let ⟨E,aiF⟩:=zl.ni (fz:=J) y hga
      change sz=sz' at aiF;subst aiF;have hk:=Sd hp4;obtain⟨m,Q,n,aoc⟩:∃m,(iX es k).cells=m/\m.length=sz/\(off+ds.length<=sz->(D.Ov (iX es k) off ds).cells=m.take off++ds++m.drop (off+ds.length)):=by
       obtain hp5|⟨h1,h2,h3,h4⟩:=hp5
       let ⟨m,Q,n,hcf⟩:=yQ hp5
       exact⟨m,by rw[Q];rfl,n,λ_=>by rw[Q];rfl⟩;rw[bS]at h4;obtain⟨d1,rfl⟩:=Wi.1 h4;have hl1:=D.NW hp3 d1 (by simp);have Z3:∀d:D,d.leaf=W->d.cells=[d]:=by intro d F;cases d<;>first|rfl|simp[D.leaf]at F
       refine⟨[iX es k],Z3 _ h1,h2.symm,λ_=>?_⟩;subst h3;have:D.Ov (iX es k) 0 [d1]=d1:=by generalize iX es k=q at h1;cases q<;>first|rfl|simp[D.leaf]at h1
       rw[this,Z3 _ hl1];rfl
      have hoff:off+ds.length<=sz:=by have:=gH hp6;rw[bS]at this;exact this
      have h1:=E.len;have h2:=E.cap;simp only at h1 h2
      let ⟨b,B,ety,hab,hfz,hh,R,S⟩:=E.mem (by simp only;omega)
      simp at hab;subst hab;have A:vx.cells.size=ds.length:=by rw[b0];simpa using C.1.symm
      have hbound:k*sz+sz<=B.size:=by have:(k+1)*sz<=cap*sz:=yI _ (by omega);rw[Nat.add_mul,Ib]at this;exact fP this R
      have hone:∀u∈vx.cells.toList,u.oneCell'=W:=by
       intro u hu;obtain⟨j,hj,rfl⟩:=p8 hu;have hj':j<ds.length:=by rw[b0,C.1];exact hj
       exact(vL (D.NW hp3 _ (JM hj')) (rT j _ _ (iu hj') (iu hj))).1
      have I:=xJ (P:=P) MR w b (k*sz+off) vx (by rw[A,b0,aeX,hsz]) hh (by omega) hone;have De:(⟨Z ⟨b,0,Y⟩,len,cap,sz⟩:eU).at b:=⟨_,rfl,rfl,by simp only;omega⟩;have hsc:=aoc hoff;have abw:(B.toList.take (k*sz+off)++vx.cells.toList++B.toList.drop (k*sz+off+vx.cells.size)).length=B.size:=by simp[A];omega
      have aeT:wQ g1 (w.setRow b (B.toList.take (k*sz+off)++vx.cells.toList++B.toList.drop (k*sz+off+vx.cells.size)).toArray) J sz
        (ym es k ((iX es k).Ov off ds)) ⟨Z ⟨b,0,Y⟩,len,cap,sz⟩:=by
       refine⟨by simp[ym,h1],h2,λd F=>?_,E.pos,λd F=>?_,λ_=>⟨b,_,ety,rfl,hfz,setRow_heap w b B _ ety _ hh,by simp only[RE];rw[abw];exact R,?_⟩⟩;obtain⟨j,hj,rfl⟩:=p8 F;obtain⟨rfl,_,he⟩|⟨_,he⟩:=JP _ _ _ _ _ (iu hj)
       rw[he,hsc];simp[n];omega;exact E.rows _ (hU he);obtain⟨j,hj,rfl⟩:=p8 F;obtain⟨rfl,_,he⟩|⟨_,he⟩:=JP _ _ _ _ _ (iu hj)
       rw[he,hp7];have hb:=E.VC _ (hU (D.Ko hk));simpa[ym]using hb;have hb:=E.VC _ (hU he);simpa[ym]using hb;intro i d j c F hj;have f:∀(v:az),B[i*sz+j]?=Z v->(i≠k/\j<sz\/i=k/\(j<off\/off+ds.length<=j))->
         (B.toList.take (k*sz+off)++vx.cells.toList++B.toList.drop (k*sz+off+vx.cells.size)).toArray[i*sz+j]?=Z v:=by
        intro v hv CD;have ae7:i*sz+j<k*sz+off\/k*sz+off+ds.length<=i*sz+j:=by
         obtain⟨hik,hj⟩|⟨rfl,hj⟩:=CD
         obtain hik|hik:=Nat.lt_or_gt_of_ne hik
         have:(i+1)*sz<=k*sz:=yI _ hik;rw[Nat.add_mul,Ib]at this
         left;omega
         have:(k+1)*sz<=i*sz:=yI _ hik;rw[Nat.add_mul,Ib]at this
         right;omega
         obtain hj|hj:=hj
         left;omega
         right;omega
        rw[RG,sG,sG];obtain Z3|Z3:=ae7
        rw[bO (by simp[A];omega),bO (by simp;omega),TM,bO Z3];simpa using hv;rw[cm (by simp[A];omega),TK];have:k*sz+off+vx.cells.size+(i*sz+j-(List.take (k*sz+off) B.toList++vx.cells.toList).length)=i*sz+j:=by simp[A];omega
        rw[this];simpa using hv
       obtain⟨rfl,hlt,rfl⟩|⟨hik,F⟩:=JP _ _ _ _ _ F
       rw[hsc]at hj;by_cases hin:off<=j/\j<off+ds.length;have hj2:ds[j-off]?=Z c:=by
        rw[sG,bO (by simp[n];omega),sG,cm (by simp[n];omega)]at hj;have:j-(m.take off).length=j-off:=by simp[n];omega
        rwa [this]at hj
       have hlt2:j-off<vx.cells.size:=by omega
       refine⟨vx.cells[j-off],?_,?_⟩;rw[RG,sG,bO (by simp[A];omega),sG,cm (by simp;omega)];have:i*sz+j-(List.take (i*sz+off) B.toList).length=j-off:=by simp;omega
       rw[this];simp;have:=rT (j-off) c vx.cells[j-off] hj2 (by simp);exact this.ext (Ext.refl 0 g1 w) zl.bp |>.mono (λb' hb'=>setRow_other w b b' _ (λe=>by subst e;exact Bool.noConfusion (hfz.2 hb'))) (λ_ h=>h)
       have hj2:m[j]?=Z c:=by
        rw[sG,sG]at hj;by_cases hlo:j<off;rw[bO (by simp[n];omega),bO (by simp[n];omega),TM,bO hlo]at hj;exact hj;rw[cm (by simp[n];omega),TK]at hj;have:off+ds.length+(j-(List.take off m++ds).length)=j:=by simp[n];omega
        rwa [this]at hj
       let ⟨v,hv,hr⟩:=S i (iX es i) j c (D.Ko hlt) (by rw[Q];exact hj2)
       refine⟨v,f v hv (.inr ⟨rfl,by omega⟩),hr.mono (λb' hb'=>setRow_other w b b' _ (λe=>by subst e;exact Bool.noConfusion (hfz.2 hb'))) (λ_ h=>h)⟩
       let ⟨v,hv,hr⟩:=S i d j c F hj
       have xB:j<sz:=by rw[<-E.rows d (hU F)];exact ct hj
       exact⟨v,f v hv (.inl ⟨hik,xB⟩),hr.mono (λb' hb'=>setRow_other w b b' _ (λe=>by subst e;exact Bool.noConfusion (hfz.2 hb'))) (λ_ h=>h)⟩
      let ⟨hs',he⟩:=zl.ad9 y hga hfl De aeT
      refine⟨_,g1,?_,hs',Z1.trans (ao5▸he),rfl⟩;rw[nk];simpa[Instr.storeAt,Instr.sureAddr]using I;cases h9
  |_=>simp at h
end
section
variable {k:IntKind}{I:Nat->Prop}{d:D}{b a:T}{va vb:az}{r:aa}
def Bj{j:IntKind}(h:oe j k=W):j=k:=by cases j<;>cases k<;>first|rfl|cases h
section
variable {g:Gh}{w:av}{t:T}{v:az}{p:Prop}
def Ut(h:D.isInt k d=W)(a:dF I w d v):v=.int k d.toInt:=by
 cases a with
 |lit v=>
  cases v with|int j n=>rw[Bj h];rfl|_=>cases h
 |_=>cases h
def Fq(h:d.isBool=W)(a:dF I w d v):v=.bool d.toBool:=by
 cases a with
 |lit v=>
  cases v with|bool b=>rfl|_=>cases h
 |_=>cases h
def Us(h:d.isStr=W)(a:dF I w d v):v=.string d.toStr:=by
 cases a with
 |lit v=>
  cases v with|string b=>rfl|_=>cases h
 |_=>cases h
theorem dR{k:IntKind}{n:Int}(h:xy k t=Z (p,n))(a:p)(b:aH g w t v):v=.int k n:=by
 cases b with
 |kn j m=>
  obtain⟨c,h⟩|⟨_,h⟩:=ah h
  simp only[gC,fc]at h;rw[Bj c,h.2];cases h
 |sym d v e=>obtain⟨rfl,rfl⟩:=h;exact Ut a e
 |_=>simp[xy]at h
def ja{b:aa}(h:Ax t=Z (p,b))(a:p)(e:aH g w t v):v=.bool b:=by
 cases e with
 |kb c=>simp only[Ax,gC,fc]at h;rw[h.2]|sym d v f=>obtain⟨rfl,rfl⟩:=h;exact Fq a f
 |_=>simp[Ax]at h
def iw{b:ByteArray}(h:zB t=Z (p,b))(a:p)(c:aH g w t v):v=.string b:=by
 cases c with
 |sym d v e=>obtain⟨rfl,rfl⟩:=h;exact Us a e
 |_=>simp[zB]at h
def D.w7(h:d.ain=W):d=.sl d.adW:=by cases d<;>first|rfl|cases h
def Rn{s:St}(hs:aY g s w){es:L D}(h:AZ s t=Z (p,es))(x:p)(y:aH g w t v):∃a cap,v=.slice a es.length cap/\es.length<=cap:=by
 cases y with
 |emp a=>obtain⟨_,rfl⟩:=h;exact⟨a,0,rfl,by simp⟩
 |j4 n b a C q=>obtain⟨_,rfl⟩:=h;exact⟨a,_,rfl,cM _⟩
 |o6 j d c a E q=>obtain⟨_,rfl⟩:=h;exact⟨a,1,rfl,cM _⟩
 |sym d v q=>
  obtain⟨rfl,rfl⟩:=h;rw[D.w7 x]at q;generalize d.adW=es at *
  cases q with|sl _ a cap sz val k=>exact⟨a,cap,rfl,k⟩
 |sh o e len cap sz a z=>
  simp[AZ]at h;have key:∀u f(b:L D)era,s.ob.get o=Z (fM u f b era)->(bif Nq e era then Z (True,b)else Y)=Z (p,es)->
    ∃A i,Value.slice a len cap=.slice A es.length i/\es.length<=i:=by
   intro u f b era l h;obtain⟨B,h⟩|⟨_,h⟩:=ah h
   have r:=beq_iff'.1 B;obtain⟨_,rfl⟩:=h
   let ⟨m,_⟩:=hs.ni (r▸l) z
   have h1:=m.len;have h2:=m.cap;simp only at h1 h2;exact⟨a,cap,by rw[h1],by omega⟩;cases h
  split at h;rename_i f b era l;exact key J f b era l h;rename_i f b era l;exact key W f b era l h;cases h
 |_=>simp[AZ]at h
end
section
variable {P:cP}{g:Gh}{w:av}
def uu{x:T}{vx:az}{q:Prop}{y:aa}(h:HE x=Z (q,y))(a:q)(f:aH g w x vx):vx=.bool y:=by
 cases f with
 |gd c t v e=>simp[HE]at h;split at h;rename_i h1;obtain⟨rfl,rfl⟩:=h;exact ja h1 a.2 (e a.1);cases h
 |kb b=>simp only[HE,gC,fc]at h;rw[h.2]|sym d v i=>obtain⟨rfl,rfl⟩:=h;exact Fq a i
 |_=>simp[HE]at h
def Mv{c:T}{i:az}{p:Prop}{t:T}(h:Ig c a b=Z (p,t))(d:p)(j:aH g w c i)(k:aH g w a va)(l:aH g w b vb) :
  ∃u,i=.bool u/\aH g w t (if u then va else vb):=by
 unfold Ig at h;split at h;rename_i u;cases j;refine⟨u,rfl,?_⟩;split at h
 .rename_i e;obtain⟨rfl,rfl⟩:=h;cases u with|true=>rw[bO rfl,uu e d k];exact .sym _ _ (.lit _)|false=>rw[cm Bool.noConfusion,uu e d l];exact .sym _ _ (.lit _)
 cases h;split at h
 .rename_i u n o q r m h1 h2;obtain⟨rfl,rfl⟩:=h;have f:=ja m d.1 j;refine⟨u,f,?_⟩;cases u with|true=>rw[uu h1 (d.2.1 rfl) k];exact .sym _ _ (.lit _)|false=>rw[uu h2 (d.2.2 rfl) l];exact .sym _ _ (.lit _)
 cases h
def Ak{l:Lk}{p:Prop}(h:qA l a b=Z (p,r))(c:p)(d:aH g w a va)(e:aH g w b vb) :
  AJ l va/\AJ l vb/\r=FL va vb:=by
 cases l with
 |int k=>simp[qA]at h;split at h;rename_i f x i y h1 h2;obtain⟨rfl,rfl⟩:=h;rw[dR h1 c.1 d,dR h2 c.2 e];exact⟨⟨_,rfl⟩,⟨_,rfl⟩,rfl⟩;cases h
 |bool=>simp[qA]at h;split at h;rename_i f x i y h1 h2;obtain⟨rfl,rfl⟩:=h;rw[ja h1 c.1 d,ja h2 c.2 e];exact⟨⟨_,rfl⟩,⟨_,rfl⟩,rfl⟩;cases h
 |str=>simp[qA]at h;split at h;rename_i h1 h2;obtain⟨rfl,rfl⟩:=h;rw[iw h1 c.1 d,iw h2 c.2 e];exact⟨⟨_,rfl⟩,⟨_,rfl⟩,rfl⟩;cases h
 |no=>simp[qA]at h
def vZ:∀(c:L Lk)(as bs:L T)(va vb:L az){p:Prop}{r:aa},jW c as bs=Z (p,r)->p->PW (aH g w) as va->PW (aH g w) bs vb->
  va.length=c.length/\vb.length=c.length/\(∀(j:Nat)(l:Lk)(v:az),c[j]?=Z l->va[j]?=Z v->AJ l v)/\
   (∀(j:Nat)(l:Lk)(v:az),c[j]?=Z l->vb[j]?=Z v->AJ l v)/\r=m9 va vb
 |[],[],[],va,vb,p,r,h,f,d,e=>by simp only[jW,gC,fc]at h;have h1:va=[]:=Da d.1.symm;have h2:vb=[]:=Da e.1.symm;subst h1;subst h2;refine⟨rfl,rfl,λj l v h=>by simp at h,λj l v h=>by simp at h,h.2.symm⟩
 |l::c,a::as,b::bs,va,vb,p,r,h,f,d,e=>by
  simp[jW]at h;split at h
  .rename_i x B y h1 h2;simp only[gC,fc]at h;obtain⟨rfl,rfl⟩:=h
   match va,vb,d,e with
   |v::va,u::vb,d,e=>
    let ⟨C,E,m⟩:=Ak h1 f.1 (d.2 0 _ _ rfl rfl) (e.2 0 _ _ rfl rfl)
    let ⟨n,o,F,I,q⟩:=vZ c as bs va vb h2 f.2 ⟨by simpa using d.1,λj x y i k=>d.2 (j+1) x y (by simpa using i) (by simpa using k)⟩
     ⟨by simpa using e.1,λj x y i k=>e.2 (j+1) x y (by simpa using i) (by simpa using k)⟩
    refine⟨by simp[n],by simp[o],λj s t z A=>?_,λj s t z A=>?_,?_⟩
    grind
    grind
    rw[m,q];rfl
  cases h
 |[],[],_::_,_,_,_,_,h,_,_,_=>by simp[jW]at h
 |[],_::_,_,_,_,_,_,h,_,_,_=>by simp[jW]at h
 |_::_,[],_,_,_,_,_,h,_,_,_=>by simp[jW]at h
 |_::_,_::_,[],_,_,_,_,h,_,_,_=>by simp[jW]at h
def TC(d:Nat){ty e:TypeId}(b:P.underlying ty=Z (.pointer e))(a:Addr):(Op.equalIn (d+1) ty (.pointer Y) (.pointer (Z a))).run P w=.ok J w:=by simp only[Op.equalIn,run_bind,aN b,andThen_ok];rfl
def TD(d:Nat){ty e:TypeId}(b:P.underlying ty=Z (.pointer e))(a:Addr):(Op.equalIn (d+1) ty (.pointer (Z a)) (.pointer Y)).run P w=.ok J w:=by simp only[Op.equalIn,run_bind,aN b,andThen_ok];rfl
def TE(d:Nat){ty:TypeId}{a:Array (String×TypeId)}(b:P.underlying ty=Z (.interface a))(t:TypeId)(v:az):(Op.equalIn (d+1) ty .nilIface (.iface t v)).run P w=.ok J w:=by simp only[Op.equalIn,run_bind,aN b,andThen_ok];rfl
def HZ(d:Nat){ty:TypeId}{a:Array (String×TypeId)}(b:P.underlying ty=Z (.interface a))(t:TypeId)(v:az):(Op.equalIn (d+1) ty (.iface t v) .nilIface).run P w=.ok J w:=by simp only[Op.equalIn,run_bind,aN b,andThen_ok];rfl
def nA{ty:TypeId}(x y:Operand)(h1:binOp .eql ty va vb=(do pure (.bool (<-Op.equal ty va vb))))(h2:binOp .neq ty va vb=(do pure (.bool (!(<-Op.equal ty va vb)))))
  (c:∀op,(eqGuard op ty x y va vb).run P w=.ok () w) (a:(Op.equalIn (9999+1) ty va vb).run P w=.ok r w) :
  ((do eqGuard .eql ty x y va vb;binOp .eql ty va vb:Sem az)).run P w=.ok (.bool r) w/\((do eqGuard .neq ty x y va vb;binOp .neq ty va vb:Sem az)).run P w=.ok (.bool (!r)) w:=by
 have b:(Op.equal ty va vb).run P w=.ok r w:=a
 simp_all
def FK{ty:TypeId}{i:TI}(hi:mM P ty i){p:Prop}(h:X7 i a b=Z (p,r))(u:p)(o:aH g w a va)(s:aH g w b vb)(x y:Operand) :
  ((do eqGuard .eql ty x y va vb;binOp .eql ty va vb:Sem az)).run P w=.ok (.bool r) w/\((do eqGuard .neq ty x y va vb;binOp .neq ty va vb:Sem az)).run P w=.ok (.bool (!r)) w:=by
 let ⟨xi,d0,z,MR,A,hsz,XX,hz,Bq,d⟩:=hi.all
 obtain⟨c,h⟩|⟨c,h⟩:=ah h
 split at h;cases h;rename_i k ks qa as qb bs hk B C;simp only[fG,fc]at h;obtain⟨⟨q,r'⟩,he,rfl,rfl⟩:=h
 let ⟨F,_⟩:=pM B u.1 o
 let ⟨I,_⟩:=pM C u.2.1 s
 let ⟨_,_,_,f,_⟩:=mB B u.1 o
 let ⟨_,_,_,t,_⟩:=mB C u.2.1 s
 obtain⟨xs,rfl⟩:=f c;obtain⟨ys,rfl⟩:=t c
 let ⟨K,Q,R,S,m5⟩:=vZ (k::ks) as bs _ _ he u.2.2 F I
 simp only[Value.cells]at K Q R S m5;have hne:i.lks≠[]:=by rw[hk];simp
 rw[<-hk]at K Q R S;have key:∀op,_:=λop=>hi.eqs c hne w op x y xs ys (by simpa using K) (by simpa using Q) (λj l v h1 h2=>R j l v h1 (by simpa using h2)) (λj l v h1 h2=>S j l v h1 (by simpa using h2));refine⟨?_,?_⟩;rw[run_bind,(key .eql).1];simp only[andThen_ok,binOp,run_bind,(key .eql).2,m5];rfl;rw[run_bind,(key .neq).1];simp only[andThen_ok,binOp,run_bind,(key .neq).2,m5];rfl;cases h;split at h
 .rename_i l E;obtain⟨f,t,rfl⟩:=Ak h u o s;rw[E]at d;cases l with
  |int k=>obtain⟨m,rfl⟩:=f;obtain⟨n,rfl⟩:=t;simp[eqGuard,binOp,Op.intCmp,FL,bne]
  |bool=>obtain⟨m,rfl⟩:=f;obtain⟨n,rfl⟩:=t;subst d;exact nA x y rfl rfl (λop=>by cases op<;>rfl) (run_equalIn_bool' w _ _ _ _ A)
  |str=>
   obtain⟨m,rfl⟩:=f;obtain⟨n,rfl⟩:=t
   simp_all[eqGuard,binOp,Op.stringOp,FL,beq_toListBytes]
  |no=>exact f.elim
 rename_i E;rw[E]at d;obtain⟨e,rfl⟩:=d;unfold adh at h;split at h
 .obtain ⟨_,rfl⟩:=h;cases o with
  |sym _ _ o=>
  cases o;cases s;exact nA x y rfl rfl (λop=>by cases op<;>rfl) (TC _ A _)
 .obtain ⟨_,rfl⟩:=h;cases s with
  |sym _ _ s=>
  cases s;cases o;exact nA x y rfl rfl (λop=>by cases op<;>rfl) (TD _ A _)
 cases h;rename_i E;rw[E]at d;obtain⟨e,rfl⟩:=d;unfold adi at h;split at h
 .obtain ⟨_,rfl⟩:=h;cases o with
  |sym _ _ o=>
  cases o;cases s;exact nA x y rfl rfl (λop=>by cases op<;>rfl) (TE _ A _ _)
 .obtain ⟨_,rfl⟩:=h;cases s with
  |sym _ _ s=>
  cases s;cases o;exact nA x y rfl rfl (λop=>by cases op<;>rfl) (HZ _ A _ _)
 cases h;cases h
end
end
section
variable {P:cP}{g:Gh}{w:av}
variable {i:TI}{a t:T}{va:az}{p:Prop}{d:D}{s s':St}{k:Nat}
def Qh{ty:TypeId}(hi:mM P ty i){op:BinOp}{b:T}{l:az}(h:Ky i op a b=Z (p,d))(c:p)(e:aH g w a va)(f:aH g w b l)(x y:Operand) :
  ∃v,((do eqGuard op ty x y va l;binOp op ty va l:Sem az)).run P w=.ok v w/\aH g w (.sym d) v:=by
 unfold Ky at h;split at h;simp only[fG,fc]at h;obtain⟨⟨q,r⟩,o,rfl,rfl⟩:=h;exact⟨_,(FK hi o c e f x y).1,.sym _ _ (.lit _)⟩;simp only[fG,fc]at h;obtain⟨⟨q,r⟩,o,rfl,rfl⟩:=h;exact⟨_,(FK hi o c e f x y).2,.sym _ _ (.lit _)⟩
 .rename_i t u;split at h
  .rename_i k F;split at h
   .rename_i A m B n h1 h2;cases j:UZ op k m n with
    |some C=>
     simp only[j,gC,fc]at h;obtain⟨rfl,rfl⟩:=h;rw[dR h1 c.1 e,dR h2 c.2 f];cases op<;>simp only[UZ,gC]at j<;>first
      |(cases j;done)
      |(
        subst j;refine⟨_,?_,.sym _ _ (.lit _)⟩;simp[eqGuard,binOp,Op.intCmp,Op.intArith,aD,br,aC,bH,Oj])
    |none=>
     simp only[j,fG,fc]at h;obtain⟨C,s,rfl,rfl⟩:=h;rw[dR h1 c.1 e,dR h2 c.2.1 f];have E:n≠0:=c.2.2;cases op<;>simp only[Yj,gC]at s<;>first
      |(cases s;done)
      |(
        subst s;refine⟨_,?_,.sym _ _ (.lit _)⟩;simp[eqGuard,binOp,Op.intDiv,E,GO,ZF])
   cases h
  split at h;rename_i A m B n h1 h2;obtain⟨rfl,rfl⟩:=h;rw[iw h1 c.1 e,iw h2 c.2.1 f];have z:m.size+n.size<=4611686018427387904:=c.2.2;refine⟨_,?_,.sym _ _ (.lit _)⟩;simp[eqGuard,binOp,Op.stringOp,QT];omega;cases h;cases h
def Ti{op:UnOp}(h:unT i op a=Z (p,d))(c:p)(e:aH g w a va) :
  ∃v,(Op.unary op va).run P w=.ok v w/\aH g w (.sym d) v:=by
 unfold unT at h;split at h;simp only[fG,fc]at h;obtain⟨⟨q,r⟩,b,rfl,rfl⟩:=h;rw[ja b c e];exact⟨_,rfl,.sym _ _ (.lit _)⟩;simp only[fG,fc]at h;obtain⟨⟨q,r⟩,b,rfl,rfl⟩:=h;rw[dR b c e];refine⟨_,rfl,?_⟩;rw[show(0:Int)-r=-r from by omega];exact .sym _ _ (.lit _);cases h
def NF{src dst:TypeId}{j:TI}(hi:mM P src i)(u:mM P dst j)(h:IY i j s a=Z (p,t,s'))(r:p)(m:aH g w a va) :
  ∃v,(convert src dst va).run P w=.ok v w/\aH g w t v/\s'=s:=by
 let ⟨_,d1,_,_,f,_,_,_,_,k⟩:=hi.all
 let ⟨_,d2,_,_,l,_,_,_,_,c⟩:=u.all
 unfold IY at h;split at h;rename_i d e;simp only[fG,fc]at h;obtain⟨⟨q,n⟩,x,rfl,rfl,rfl⟩:=h;rw[d]at k;rw[e]at c;subst c;rw[dR x r m];exact⟨_,by simp[convert,aN f,aN l,Conv.intToInt];rfl,.sym _ _ (.lit _),rfl⟩;rename_i d e;simp only[fG,fc]at h;obtain⟨⟨q,b⟩,y,rfl,rfl,rfl⟩:=h;rw[d]at k;rw[e]at c;subst c;have o:=iw y r m;subst o;exact⟨_,by simp[convert,aN f,aN l],m,rfl⟩;cases h
def FH(h:sW s k a=Z (p,t,s'))(f:p)(i:aH g w a va) :
  ∃v,(Instr.extract va k).run P w=.ok v w/\aH g w t v/\s'=s:=by
 cases i with
 |gG o b j e=>
  simp only[sW,jP,fG,fc]at h;obtain⟨q,l,_,rfl,rfl⟩:=h;have c:k<b.size:=by grind
  refine⟨b[k],by simp[Instr.extract,tO c],e k _ _ l (tO c),rfl⟩
 |sym d v m=>
  obtain⟨rfl,rfl,rfl⟩:=h;cases m with
  |gG ds b j e=>
   have n:k<ds.length:=by
    have:Nt k (cC ds)=W:=f
    simp_all[bS]
   have c:k<b.size:=by omega
   refine⟨b[k],by simp_all[Instr.extract],.sym _ _ ?_,rfl⟩;refine e k _ _ ?_ (tO c)
   grind[D.proj]
  |_=>cases f
 |_=>simp[sW]at h
def add_zero'(a:Addr):a.add 0=a:=by rfl
def Bw{ty:TypeId}(hi:mM P ty i)(h:qz i s k a=Z (p,t,s'))(u:aH g w a va) :
  ∃v,(Instr.fieldAt ty va k).run P w=.ok v w/\aH g w t v/\s'=s:=by
 let ⟨_,d1,_,_,x,_,_,_,_,l⟩:=hi.all
 unfold qz at h;split at h;rename_i n;rw[n]at l;obtain⟨fields,rfl,y,z⟩:=l;split at h;rename_i off size A r;rw[jP]at r
 let ⟨f,j,d',B,C,E,F,_⟩:=z k off size A r
 obtain⟨_,h⟩|⟨h0,h⟩:=ah h
 cases h
 .have I:j.size≠0:=by
   intro e
   simp_all
  have c:∀m,(Instr.fieldAt ty (.pointer (Z m)) k).run P w=.ok (.pointer (Z (m.add off))) w:=by
   simp_all[Instr.fieldAt,Instr.sureAddr,aN,fieldPlace,dm]
  cases u with
  |ptr o b bl K=>obtain⟨_,rfl,rfl⟩:=h;refine⟨_,c _,?_,rfl⟩;rw[nk];exact .ptr _ _ _ K
  |lD d b m val q Q R=>obtain⟨_,rfl,rfl⟩:=h;refine⟨_,c _,?_,rfl⟩;rw[tc];exact .lD _ _ _ _ q Q R
  |lC o e j' b len cap sz m S=>obtain⟨_,rfl,rfl⟩:=h;refine⟨_,c _,?_,rfl⟩;rw[tc,Nat.add_assoc];exact .lC _ _ _ _ _ _ _ _ S
  |_=>simp at h
 cases h;cases h
def LP{t:TypeId}{x:TypeInfo}{d:TypeDesc}(hi:P.info? t=Z x)(a:P.underlying t=Z d)(vs:Array az)(off:Nat)(hl:off+x.size<=vs.size)(h1:dV d=J->x.size=1) :
  (part t vs off).run P w=.ok (if dV d then .agg ((vs.toList.drop off).take x.size).toArray else((vs.toList.drop off).take x.size).headD undef) w:=by
 simp only[part,run_bind,tH a,andThen_ok];cases b:dV d with
 |true=>
  simp only[yE,run_bind,dm hi,andThen_ok,run_pure]
  congr 2
  grind
 |false=>
  have e:=h1 b;have c:off<vs.size:=by omega
  simp_all[Wg]
def Kj{ty:TypeId}(hi:mM P ty i)(h:FF i s k a=Z (p,t,s'))(z:p)(A:aH g w a va) :
  ∃v,(Instr.field ty va k).run P w=.ok v w/\aH g w t v/\s'=s:=by
 let ⟨_,d1,_,_,I,B,c,_,_,d⟩:=hi.all
 unfold FF at h;split at h;rename_i o;rw[o]at d;obtain⟨fields,rfl,K,Q⟩:=d;split at h;rename_i off size R q cs C E;rw[jP]at C
 let ⟨f,j,d',S,hf2,r,hf4,u,hf6⟩:=Q k off size R C
 obtain⟨hl,h⟩|⟨_,h⟩:=ah h
 have l:=beq_iff'.1 (yH.1 hl).1;rw[bS]at l;simp only[fG,fc]at h;obtain⟨t',ht,rfl,rfl,rfl⟩:=h
 let ⟨m,F⟩:=pM E z A
 let ⟨_,_,_,x,_⟩:=mB E z A
 obtain⟨y,rfl⟩:=x (by rw[c];rfl);simp[Value.cells]at m;have b:=(m.drop off).take size
 let ⟨n,h1⟩:=wZ (g:=g) (w:=w) ht b.1 b.2
 have hlv:((y.toList.drop off).take size).length=size:=by rw[<-b.1,l]
 have hs0:size≠0:=by
  intro e
  simp_all
 have hle:off+size<=y.size:=by
  grind
 refine⟨_,?_,n,rfl⟩;have hr:=LP (P:=P) (w:=w) r u y off (by omega) (λhd=>by
  grind)
 simp_all[Instr.field,aN,asAgg]
 iterate 3 cases h
end
section
variable {P:cP}{g:Gh}{w:av}
def Cd{ty e:TypeId}{j:TypeInfo}(b:P.underlying ty=Z (.slice e))(c:P.info? e=Z j)(a:Addr)(len cap:Nat)(n:Int)(h:0<=n/\n<len) :
  (Instr.indexAt ty (.slice (Z a) len cap) (.int .i64 n)).run P w=.ok (.pointer (Z (a.add (n.toNat *j.size)))) w:=by
 simp[Instr.indexAt,asIntOf,aN b,dm c,h]
variable {s s':St}{t x ix:T}{p:Prop}{i:TI}{vx vi:az}
def LI(hs:aY g s w){v:az}{es:L D}(h:AZ s t=Z (p,es))(C:p)(E:aH g w t v)
  (hf:freeze s (sJ t)=Z s') :
  ∃g',aY g' s' w/\Ext s.fl g w g' w/\s'.fl=s.fl/\s'.aF=s.aF/\dF g'.bp w (.sl es) v:=by
 cases E with
 |emp a=>
  simp only[AZ,gC,fc]at h;simp[sJ,freeze,gC]at hf;subst hf;exact⟨g,hs,Ext.refl _ _ _,rfl,rfl,by
   rw[<-h.2];exact .sl [] a 0 0 (λ_ _=>undef) (by simp) (by simp) (by simp) (λh=>absurd rfl h) (λi j d c h=>by simp at h)⟩
 |j4 n f a K l=>simp[sJ,freeze,gC]at hf;subst hf;obtain⟨_,rfl⟩:=h;exact⟨g,hs,Ext.refl _ _ _,rfl,rfl,l⟩
 |o6 j d c a F l=>simp[sJ,freeze,gC]at hf;subst hf;obtain⟨_,rfl⟩:=h;exact⟨g,hs,Ext.refl _ _ _,rfl,rfl,Aq F l⟩
 |sym d v l=>simp[sJ,freeze,gC]at hf;subst hf;obtain⟨rfl,rfl⟩:=h;rw[D.w7 C]at l;exact⟨g,hs,Ext.refl _ _ _,rfl,rfl,l⟩
 |sh o e len cap sz a y=>
  have key:∀m b(f:L D)era,s.ob.get o=Z (fM m b f era)->(bif Nq e era then Z (True,f)else Y)=Z (p,es)->
    s.ob.get o=Z (fM m b es e):=by
   intro m b f era q h;obtain⟨I,h⟩|⟨_,h⟩:=ah h
   have z:=beq_iff'.1 I;simp only[gC,fc]at h;rw[q,h.2,z];cases h
  have u:∃m b,s.ob.get o=Z (fM m b es e):=by simp[AZ]at h;split at h;rename_i b f era q;exact⟨_,_,key J b f era q h⟩;rename_i b f era q;exact⟨_,_,key W b f era q h⟩;cases h
  let ⟨m,b,q⟩:=u
  let ⟨g',x,A,r⟩:=ew [o] hs hf (λk B=>by
   simp at B;subst B;exact⟨iE (hs.lt' y) hs.aF,.inl ⟨e,_,y,.inl ⟨m,b,es,q⟩⟩⟩)
  have l:=x.JB (r.hit o (by simp) m b es e q) (A.arr _ _ _ y);exact⟨g',x,A,r.fl,r.aF,l⟩
 |_=>simp[AZ]at h
theorem w9{I:Nat->Prop}{es:L D}{v:az}(h:dF I w (.sl es) v):∃a cap,v=.slice a es.length cap/\es.length<=cap/\(∀d∈es,es.length*d.r7<=281474976710656)/\(es≠[]->∃ad sz,a=Z ad/\(∀d∈es,d.cells.length=sz)/\I ad.block/\
  ∃val:Nat->Nat->az,(∀i j d c,es[i]?=Z d->d.cells[j]?=Z c->w.cell? (ad.add (i*sz+j))=Z (val i j))/\
   (∀i j d c,es[i]?=Z d->d.cells[j]?=Z c->dF I w c (val i j))):=by
 cases h with
 |sl _ a cap sz val b e f k l=>
  refine⟨a,cap,rfl,b,f,λg=>?_⟩
  let ⟨ad,h1,h2,h3⟩:=k g
  exact⟨ad,sz,h1,e,h2,val,h3,l⟩
def Gm{ty:TypeId}(hi:mM P ty i){n sz:Nat}{ag:aa}(c:i.kd=.array n sz ag)(h:AE n sz s x ix=Z (p,t,s'))
  (o:aH g w x vx) (d:aH g w ix vi):∃v,(Instr.indexAt ty vx vi).run P w=.ok v w/\aH g w t v/\s'=s:=by
 let ⟨_,d1,_,_,f,_,_,_,_,a⟩:=hi.all
 rw[c]at a;obtain⟨e,j,B,rfl,q,l,_,_⟩:=a;unfold AE at h;split at h;rename_i b k;obtain⟨r,h3⟩|⟨_,h3⟩:=ah h
 .obtain ⟨_,rfl,rfl⟩:=h3;have u:k<n:=gH r;cases d with
  |kn _ _=>
  cases o with
  |lD _ _ y val m z A=>
  refine⟨.pointer (Z ((y.add b).add (k*sz))),?_,?_,rfl⟩;simp[Instr.indexAt,Instr.sureAddr,asIntOf,aN f,dm q,l,u];rw[tc];exact .lD _ _ _ _ m z A
 cases h3;cases h
def Bo{ty:TypeId}(hi:mM P ty i)(hs:aY g s w)(h:jT i s x ix=Z (p,t,s'))(A:p)
  (hx:aH g w x vx) (B:aH g w ix vi):∃v,(Instr.indexAt ty vx vi).run P w=.ok v w/\aH g w t v/\s'=s:=by
 let ⟨_,d1,_,_,S,_,_,_,_,MW⟩:=hi.all
 unfold jT at h;split at h;rename_i sz ag bt zero q n C hn;rw[C]at MW;obtain⟨e,j,d',z,rfl,hj,xB,_,_,_,_,_,hpos,_⟩:=MW;have gen:∀{r:L D}{q':Prop},AZ s x=Z (q',r)->q'->kY n (eE r)->(iX r (CY n)).wide sz->(∀o e,x≠.sh o e)->q->∃v,(Instr.indexAt ty vx vi).run P w=.ok v w/\aH g w (.lD (iX r (CY n)) 0) v:=by
  intro r q' f hq' u hw l hq;have E:=dR hn hq B;subst E;have F:n.toNat<r.length:=by have h1:=u.1;have h2:=u.2;unfold eE at h2;omega
  have hne:r≠[]:=by intro e;rw[e]at F;simp at F
  have hd':dF g.bp w (.sl r) vx:=by
   cases hx with
   |sym d v hd=>obtain⟨rfl,rfl⟩:=f;rw[<-D.w7 hq'];exact hd
   |j4 m es' a hm hd=>obtain⟨_,rfl⟩:=f;exact hd
   |emp a=>simp only[AZ,gC,fc]at f;exact absurd f.2.symm hne|o6 j d c a hj hd=>obtain⟨_,rfl⟩:=f;exact Aq hj hd
   |sh o e len cap sz a hx=>exact absurd rfl (l o e)|_=>simp[AZ]at f
  obtain⟨a,cap,rfl,hcap,_,I⟩:=w9 hd';obtain⟨ad,y,rfl,K,Uw,val,hc,hr⟩:=I hne;have Q:=D.Ko F;have XB:y=sz:=by have h1:=K (iX r n.toNat) (hU Q);exact h1.symm.trans hw
  subst XB;refine⟨_,Cd S hj ad _ _ n ⟨u.1,?_⟩,?_⟩;have:=u.2;exact this;rw[xB,<-add_zero' (ad.add (n.toNat *y))];refine .lD _ 0 (ad.add (n.toNat *y)) (val n.toNat) (by rw[kq];exact Uw) (λk c hk=>?_) (λk c hk=>hr _ _ _ _ Q hk);rw[tc];exact hc _ _ _ _ Q hk
 split at h;rename_i o e';split at h;rename_i r Kg;obtain⟨hb,h3⟩|⟨_,h3⟩:=ah h
 .have hzz:=beq_iff'.1 hb;obtain⟨rfl,rfl,rfl⟩:=h3;clear h hb;subst hzz;have E:=dR hn A.1 B;subst E;cases hx with
  |sh _ _ len cap y a hxa=>
  let ⟨fz,ho⟩:=I9 Kg
  let ⟨R,K⟩:=hs.ni ho hxa
  subst K;have h1:=A.2.1;have h2:=A.2.2;unfold eE at h2;have hl:=R.len;have hc:=R.cap;simp only at hl hc
  let ⟨b,vs,ety,hab,_⟩:=R.mem (by simp only;omega)
  subst hab;refine⟨_,Cd S hj _ _ _ n ⟨h1,by omega⟩,?_,rfl⟩;rw[xB];exact .lC o e' n.toNat 0 _ _ _ _ hxa
 cases h3;cases h;rename_i l;split at h;rename_i f;obtain⟨rfl,rfl,rfl⟩:=h
 let ⟨v,h1,h2⟩:=gen f A.2.1 A.2.2.1 A.2.2.2 (λo e he=>l o e he) A.1
 exact⟨v,h1,h2,rfl⟩;cases h;rename_i C;exact Gm hi C h hx B;cases h
def get!_some{b:ByteArray}{k:Nat}(h:k<b.size):b[k]?=Z (b.get! k):=by
 rw[getElem?_pos b k h]
 congr 1
 show b.data[k]=b.data[k]!;rw[getElem!_pos b.data k h]
def J9{ty:TypeId}(hi:mM P ty i)(h:Fu i s x ix=Z (p,t,s'))(b:p)
  (f:aH g w x vx) (c:aH g w ix vi):∃v,(Instr.index ty vx vi).run P w=.ok v w/\aH g w t v/\s'=s:=by
 let ⟨_,d1,_,_,d,_,_,_,_,a⟩:=hi.all
 unfold Fu at h;split at h;rename_i e j k;rw[e]at a;subst a;obtain⟨rfl,rfl,rfl⟩:=h;rw[dR j b.1 c,iw k b.2.1 f];have h1:=b.2.2.1;have h2:=b.2.2.2;unfold uG at h2;refine⟨_,?_,.sym _ _ (.lit _),rfl⟩;simp[Instr.index,asIntOf,run_bind,run_pure,andThen_ok,aN d];rw[bO h1,get!_some (by omega)];rfl;cases h
def sv{zero:L D}{cells:Array az}(h:ZOk zero cells):(zero.map qe).length=cells.size/\
  ∀(j:Nat)(t:T)(v:az),(zero.map qe)[j]?=Z t->cells[j]?=Z v->aH g w t v:=by
 refine⟨by simpa using h.1,λj t v h1 h2=>?_⟩;simp at h1;obtain⟨d,a,rfl⟩:=h1;obtain⟨rfl,rfl⟩|rfl:=h.2 j d v a h2
 exact .emp Y;unfold qe;split;rename_i heq;simp at heq;subst heq;exact .kb _;rename_i heq;simp at heq;subst heq;exact .kn _ _
 simp_all
 exact .sym _ _ (.lit _)
def HC{ty xt:TypeId}(hi:mM P ty i){ok:aa}(h:rC i s ty ok x=Z (p,t,s'))
  (E:aH g w x vx) :
  ∃v,(Instr.typeAssert vx xt ty ok).run P w=.ok v w/\aH g w t v/\s'=s:=by
 let ⟨I,d1,z,c,K,_,Q,d,f,R⟩:=hi.all
 let ⟨m,n⟩:=hi.zag I z c d
 have S:i.kd≠.iface->∀o,P.underlying ty≠Z (.interface o):=λl o q=>l (hi.nif o q);unfold rC at h;have a:i.kd≠.iface->∀u v,(Instr.typeAssert (.iface u v) xt ty ok).run P w=((if u=ty then pure (if ok then .tuple #[v,.bool W]else v)else
   if ok then do pure (.tuple #[<-zeroValue ty,.bool J])else runtimePanic (.typeAssertion (Z xt) (Z u) ty "")):Sem az).run P w:=by
  simp_all[Instr.typeAssert,aN]
 split at h;cases h
 .rename_i u v l;cases E with
  |de _ _ vv hv=>
  obtain⟨k,h⟩|⟨k,h⟩:=ah h
  .have r:=beq_iff'.1 k;simp only[gC,fc]at h;obtain⟨_,rfl,rfl⟩:=h;clear k;subst r;refine⟨_,by rw[a l,bO rfl];rfl,.gG _ _ rfl (λj t v h1 h2=>?_),rfl⟩
   match j with
   |0=>simp_all|1=>simp at h1 h2;subst h1;subst h2;exact .kb _|j+2=>simp at h1
  have y:u≠ty:=λe=>by
   simp_all
  simp only[fG,fc]at h;obtain⟨tz,A,_,rfl,rfl⟩:=h
  let ⟨B,b⟩:=sv (g:=g) (w:=w) f
  have F:aH g w tz z:=by
   obtain⟨C,rfl⟩|⟨C,q⟩:=EV A
   obtain⟨vs,rfl⟩:=m C;exact .agg _ _ B b;have:=n C;rw[q,this]at b;exact b 0 _ _ rfl rfl
  refine⟨_,by rw[a l,cm y];simp only[yE,run_bind,ef c d,andThen_ok,run_pure];rfl,.gG _ _ rfl (λj t v h1 h2=>?_),rfl⟩
  match j with
  |0=>grind|1=>simp at h1 h2;subst h1;subst h2;exact .kb _|j+2=>simp at h1
 .cases E with
  |de _ _ vv hv=>
  obtain⟨k,h⟩|⟨k,h⟩:=ah h
  simp_all
  cases h
 cases h
end
section
variable {P:cP}{g:Gh}{w:av}
inductive Qz(g:Gh)(w:av):Option T->Option az->Prop where
 |no:Qz g w Y Y|yes (t:T) (v:az) (h:aH g w t v):Qz g w (Z t) (Z v)
variable {l:Option T}{p:Prop}{low:Option az}{lo hi:Int}{s s':St}{x t:T}{vx:az}
def kj{dflt n:Int}{v:O az}(h:wo dflt l=Z (p,n))(a:p)(b:Qz g w l v) :
  (v=Y/\l=Y/\n=dflt)\/(v=Z (.int .i64 n)/\∃t,l=Z t):=by
 cases b with|no=>simp only[wo,gC,fc]at h;exact .inl ⟨rfl,rfl,h.2.symm⟩|yes t v c=>exact .inr ⟨by rw[dR h a c],t,rfl⟩
def run_sliceBound(n:Int)(y:Nat)(code:BoundsCode)(h:0<=n/\n<=y):(Instr.sliceBound (.int .i64 n) y code).run P w=.ok n.toNat w:=by simp[Instr.sliceBound,asIntOf,h]
def mX(a:aa)(len cap:Nat){high:O az}(hl:(low=Y/\lo=0)\/low=Z (.int .i64 lo))(b:(high=Y/\hi=len)\/high=Z (.int .i64 hi))
  (c:0<=lo) (h1:lo<=hi) (h2:hi<=cap):(Instr.sliceBounds a len cap low high Y).run P w=.ok (lo.toNat,hi.toNat,cap) w:=by
 obtain⟨rfl,rfl⟩|rfl:=hl<;>obtain⟨rfl,rfl⟩|rfl:=b
 rfl
 simp_all[Instr.sliceBounds,run_sliceBound]
 simp_all[Instr.sliceBounds,run_sliceBound]
 simp[Instr.sliceBounds,run_sliceBound hi cap _ ⟨by omega,h2⟩,run_sliceBound lo hi.toNat _ ⟨c,by omega⟩]
def sA(a:aa)(len cap:Nat){b:Int}(hl:(low=Y/\lo=0)\/low=Z (.int .i64 lo))
  (c:0<=lo) (h1:lo<=hi) (h2:hi<=b) (h3:b<=cap):(Instr.sliceBounds a len cap low (Z (.int .i64 hi)) (Z (.int .i64 b))).run P w=.ok (lo.toNat,hi.toNat,b.toNat) w:=by
 obtain⟨rfl,rfl⟩|rfl:=hl
 simp[Instr.sliceBounds,run_sliceBound b cap _ ⟨by omega,h3⟩,run_sliceBound hi b.toNat _ ⟨by omega,by omega⟩];simp[Instr.sliceBounds,run_sliceBound b cap _ ⟨by omega,h3⟩,run_sliceBound hi b.toNat _ ⟨by omega,by omega⟩,run_sliceBound lo hi.toNat _ ⟨c,by omega⟩]
def Ny{I:Nat->Prop}{es:L D}{a:O Addr}{len cap sz:Nat}(h:dF I w (.sl es) (.slice a len cap))(n:jo es sz)(z:yo lo hi (eE es))
  (m:Nat) (F:hi.toNat<=m) (u:m<=cap) :
  (oK es lo hi).length=hi.toNat-lo.toNat/\dF I w (.sl (oK es lo hi)) (.slice (if m=lo.toNat then a else a.map (·.add (lo.toNat *sz))) (hi.toNat-lo.toNat) (m-lo.toNat)):=by
 let ⟨K,v,A,x,q,g⟩:=w9 h
 obtain⟨rfl,rfl,rfl⟩:=A
 let ⟨P,h1,h2⟩:=z
 unfold eE at h2;have b:(oK es lo hi).length=hi.toNat-lo.toNat:=by simp[oK];omega
 refine⟨b,?_⟩;have dN:∀i d,(oK es lo hi)[i]?=Z d->es[lo.toNat+i]?=Z d:=by
  grind[oK]
 have e:∀d∈oK es lo hi,d∈es:=λd f=>Wa (List.mem_of_mem_drop f);rw[<-b];by_cases k:es=[];subst k;have:oK [] lo hi=[]:=by simp[oK]
 rw[this];exact .sl [] _ _ sz (λ_ _=>undef) (by simp) (by simp) (by simp) (λh=>absurd rfl h) (λi j d c h=>by simp at h);obtain⟨B,l,rfl,o,r,val,s,C⟩:=g k;have t:l=sz:=by obtain⟨d,ds,rfl⟩:=aau k;rw[<-o d (by simp),n d (by simp)]
 subst t;refine .sl _ _ _ l (λi j=>val (lo.toNat+i) j) (by omega) (λd f=>n d (e d f)) (λd f=>fP (yI _ (by omega)) (q d (e d f))) (λp=>?_) (λi j d c f y=>C _ _ _ _ (dN i d f) y);have E:0<(oK es lo hi).length:=TO.2 p;refine⟨B.add (lo.toNat *l),by grind,by rw[kq];exact r,λi j d c f y=>?_⟩
 grind[tc]
def Jz{ty:TypeId}{i:TI}(hi:mM P ty i)(hs:aY g s w){h m:O T}{vl vh vm:O az}
  (c:pU i s x l h m=Z (p,t,s')) (R:p) (hx:aH g w x vx) (hl:Qz g w l vl) (hh:Qz g w h vh) (hm:Qz g w m vm) :
  ∃g' v,(Instr.sliceAt ty vx vl vh vm).run P w=.ok v w/\aY g' s' w/\Ext s.fl g w g' w/\aH g' w t v/\s'.fl=s.fl/\s'.aF=s.aF:=by
 let ⟨_,d1,_,_,Kb,_,_,_,_,I⟩:=hi.all
 unfold pU at c;split at c;rename_i p0 lo S hlo;rw[S]at I;subst I;split at c;rename_i q b hb;split at c;rename_i r o u;obtain⟨rfl,rfl,rfl⟩:=c
 let ⟨c0,c1,c2⟩:=R.2.2.2
 rw[iw hb R.2.1 hx];cases hm;refine⟨g,_,?_,hs,Ext.refl _ _ _,.sym _ _ (.lit _),rfl,rfl⟩;have A:=kj hlo R.1 hl;have d:=kj u R.2.2.1 hh;have B:=mX (P:=P) (w:=w) J b.size b.size (A.imp (λh=>⟨h.1,h.2.2⟩) (·.1)) (d.imp (λh=>⟨h.1,h.2.2⟩) (·.1)) c0 c1 c2
 simp_all[Instr.sliceAt,Instr.slice,aN,Lb]
 cases c;cases c;rename_i sz ag bt zero p0 lo S hlo;rw[S]at I;obtain⟨e,j,d',z,rfl,hj,xB,_,_,_,_,_,hpos,_⟩:=I;split at c;rename_i es s1 Pn hfr;have A:=λf=>kj hlo f hl;split at c;rename_i r o u;obtain⟨rfl,rfl,rfl⟩:=c;cases hm
 let ⟨f,hq,hr,k,C⟩:=R
 let ⟨g',hs',E,hfl,F,hd⟩:=LI hs Pn hq hx hfr
 obtain⟨a,cap,rfl,K,_⟩:=w9 hd
 let ⟨c0,c1,c2⟩:=C
 unfold eE at c2;have d:=kj u hr hh
 let ⟨_,n⟩:=Ny hd k ⟨c0,c1,c2⟩ cap (by omega) (cM _)
 refine⟨g',_,?_,hs',E,.sym _ _ n,hfl,F⟩;have B:=mX (P:=P) (w:=w) W es.length cap ((A f).imp (λh=>⟨h.1,h.2.2⟩) (·.1)) (d.imp (λh=>⟨h.1,h.2.2⟩) (·.1)) c0 c1 (by omega:o<=cap);simp only[Instr.sliceAt,Instr.slice,run_bind,aN Kb,andThen_ok,dm hj,xB,B];rfl
 .rename_i o y th u;cases hm with
  |yes _ vy hy=>
  split at c;obtain⟨rfl,rfl,rfl⟩:=c
  let ⟨f,hq,hr,e1,e2⟩:=R
  obtain⟨a,cap,rfl,K⟩:=Rn hs Pn hq hx;have d:=kj u hr hh;cases hy;obtain⟨_,h',_⟩|⟨hv,_⟩:=d
  cases h';have z1:o=0:=e2;refine⟨g,_,?_,hs,Ext.refl _ _ _,.emp a,rfl,rfl⟩;have B:=sA (P:=P) (w:=w) W es.length cap ((A f).imp (λh=>⟨h.1,h.2.2⟩) (·.1)) (by omega) (by omega:lo<=o) (by omega:o<=0) (by omega)
  simp_all[Instr.sliceAt,Instr.slice,aN,dm]
  simp only[fG,fc]at c;obtain⟨⟨t',mx⟩,hmx,rfl,rfl,rfl⟩:=c;obtain⟨f,hq,hr,ht,k,C,rfl⟩:=R
  let ⟨g',hs',E,hfl,F,hd⟩:=LI hs Pn hq hx hfr
  obtain⟨a,cap,rfl,K,_⟩:=w9 hd
  let ⟨c0,c1,c2⟩:=C
  unfold eE at c2;have d:=kj u hr hh
  let ⟨Q,n⟩:=Ny hd k ⟨c0,c1,c2⟩ mx.toNat (cM _) (by omega)
  rw[dR hmx ht hy];obtain⟨_,h',_⟩|⟨hv,_⟩:=d
  cases h';subst hv;rw[<-Q]at n;refine⟨g',.slice (if mx.toNat=lo.toNat then a else a.map (·.add (lo.toNat *sz))) (oK es lo mx).length (oK es lo mx).length,?_,hs',E,.j4 0 _ _ (Hp _) n,hfl,F⟩;have B:=sA (P:=P) (w:=w) W es.length cap ((A f).imp (λh=>⟨h.1,h.2.2⟩) (·.1)) c0 c1 (Cl _) (by omega:mx<=cap);simp only[Instr.sliceAt,Instr.slice,run_bind,aN Kb,andThen_ok,dm hj,xB,B,Q];rfl
 iterate 3 cases c
def Ix{E:Env}(hs:aY g s w){f:Array TypeId}{rt:TypeId}(K:∀k i,E.ti k=Z i->mM P k i)
  (h:fC E s .len f [x]=Z (p,t,s')) (A:p) (C:aH g w x vx) :
  ∃v,(Builtin.len_ f rt #[vx]).run P w=.ok v w/\aH g w t v/\s'=s:=by
 unfold fC at h;simp at h;have r:∀i,(nth f.toList 0).bind E.ti=Z i->∃ty,f[0]?=Z ty/\mM P ty i:=by
  grind[jP]
 have l:∀i q u,(nth f.toList 0).bind E.ti=Z i->(∃a b c d,i.kd=.slice a b c d)->AZ s x=Z (q,u)->q->
   ∃v,(Builtin.len_ f rt #[vx]).run P w=.ok v w/\aH g w (.sym (.lit (.int .i64 (eE u)))) v:=by
  intro i q u hi o m F
  let ⟨ty,h1,h2⟩:=r i hi
  let ⟨_,d1,_,_,y,_,_,_,_,n⟩:=h2.all
  let ⟨a,b,c,d,o⟩:=o
  rw[o]at n;obtain⟨e,j,Q,z,rfl,_⟩:=n;obtain⟨a,cap,rfl,_⟩:=Rn hs m F C;refine⟨_,?_,.sym _ _ (.lit _)⟩
  simp_all[Builtin.len_,aN,goInt,eE]
 split at h;rename_i b i I hi;split at h;rename_i o;obtain⟨rfl,rfl,rfl⟩:=h
 let ⟨ty,h1,h2⟩:=r i hi
 let ⟨_,d1,_,_,y,_,_,_,_,n⟩:=h2.all
 rw[o]at n;subst n;rw[iw I A C];refine⟨_,?_,.sym _ _ (.lit _),rfl⟩;simp[Builtin.len_,h1,aN y,goInt,uG];rename_i a b c d o;simp only[fG,fc]at h;obtain⟨⟨B,u⟩,m,rfl,rfl,rfl⟩:=h
 let ⟨v,h1,h2⟩:=l i B u hi ⟨_,_,_,_,o⟩ m A
 simp_all
 cases h;rename_i i _ hi;split at h;rename_i o;simp only[fG,fc]at h;obtain⟨⟨B,u⟩,m,rfl,rfl,rfl⟩:=h
 let ⟨v,h1,h2⟩:=l i B u hi ⟨_,_,_,_,o⟩ m A
 simp_all
 cases h;cases h
end
section
variable {P:cP}{g:Gh}{w:av}
variable {v:az}{fr:Fr}{a:Act}
def E0{d:D}(h:Cu v=Z d):d=.lit v:=by
 unfold Cu at h
 grind[Array.toList_eq_nil_iff]
def Hq{t:T}(h:ofConst v=Z t):aH g w t v:=by unfold ofConst at h;split at h;simp at h;subst h;exact .kb _;simp at h;subst h;exact .kn _ _;simp at h;subst h;exact .emp _;split at h;rename_i b c;simp at h;subst h;rw[acQ.1 b,acQ.1 c];exact .fn _ _ _ _ _ rfl rfl (λj t v h=>by simp at h) (λj t v h=>by simp at h);cases h;simp at h;obtain⟨d,a,rfl⟩:=h;rw[E0 a];exact .sym _ _ (.de _ _ _ (.lit _));simp at h;obtain⟨d,a,rfl⟩:=h;rw[E0 a];exact .sym _ _ (.lit _)
theorem bR{fr:Fr}{a:Act}(hf:cS g fr a w){x:Operand}{t:T}(h:jO fr x=Z t):aH g w t (a.eval x):=by
 cases x with
 |tmp k=>
  let ⟨v,b,c⟩:=hf.tm k t h
  simp_all[Act.eval]
 |const v=>exact Hq h|global _=>cases h
 |func f=>simp[jO,gC]at h;subst h;exact .fn _ _ _ _ _ rfl rfl (λj t v h=>by simp at h) (λj t v h=>by simp at h)
def eO{fr:Fr}{a:Act}(hf:cS g fr a w):∀{l:L Operand}{ts:L T},xQ fr l=Z ts->PW (aH g w) ts (l.map a.eval)
 |[],ts,h=>by simp only[xQ,gC]at h;subst h;exact⟨rfl,λj t v h=>by simp at h⟩
 |x::l,ts,h=>by
  simp[xQ]at h;split at h
  .rename_i h2;simp at h;subst h;have b:=eO hf h2;refine⟨by simp[b.1],λj c v d e=>?_⟩;cases j with|zero=>grind[bR]|succ j=>exact b.2 j c v (by simpa using d) (by simpa using e)
  cases h
def o9(g:Gh)(w:av)(a:Nat×T)(b:Nat×az):Prop:=a.1=b.1/\aH g w a.2 b.2
def oQ{fr:Fr}{a:Act}(hf:cS g fr a w):∀{l:L (Nat×Operand)}{ts:L (Nat×T)},rN fr l=Z ts->PW (o9 g w) ts (l.map λ(i,x)=>(i,a.eval x))
 |[],ts,h=>by simp only[rN,gC]at h;subst h;exact⟨rfl,λj t v h=>by simp at h⟩
 |(k,x)::l,ts,h=>by
  simp[rN]at h;split at h
  .rename_i h1 h2;simp at h;subst h;have d:=oQ hf h2;refine⟨by simpa using d.1,λj e v b c=>?_⟩;cases j with|zero=>simp at b c;subst b;subst c;exact⟨rfl,bR hf h1⟩|succ j=>exact d.2 j e v (by simpa using b) (by simpa using c)
  cases h
def yL(hf:cS g fr a w){x:O Operand}{t:O T}(h:Mx fr x=Z t):Qz g w t (x.map a.eval):=by cases x with|none=>simp[Mx,gC]at h;subst h;exact .no|some x=>simp[Mx,fG]at h;obtain⟨u,b,rfl⟩:=h;exact .yes _ _ (bR hf b)
def Bt(off:Nat):∀(l:L az)(a:Nat)(cells:Array az),off+a+l.length<=cells.size->
  (l.zipIdx a).foldl (λcs x=>cs.setIfInBounds (off+x.2) x.1) cells=(cells.toList.take (off+a)++l++cells.toList.drop (off+a+l.length)).toArray
 |[],a,cells,h=>by simp
 |c::l,a,cells,h=>by
  simp at h;simp only[List.zipIdx_cons,Mj];rw[Bt off l (a+1) _ (by simp;omega)]
  congr 1
  have b:off+(a+1)=off+a+1:=by omega
  have d:off+a+1+l.length=off+a+(l.length+1):=by omega
  have h1:(cells.toList.set (off+a) c).take (off+a+1)=cells.toList.take (off+a)++[c]:=by
   rw[List.take_add_one,List.take_set,OT,bO rfl,bO (by simp;omega)]
   grind[List.set_eq_of_length_le]
  simp_all[List.drop_set]
def vX{place:Nat->O (Nat×TI)}{pl:Nat->O (Nat×Nat)}(d:∀k off i,place k=Z (off,i)->pl k=Z (off,i.size)) :
  ∀(ps:L (Nat×T))(vs:L (Nat×az)){cells:L T}{cs:Array az}{p:Prop}{r:L T},FE place cells ps=Z (p,r)->p->PW (o9 g w) ps vs->PW (aH g w) cells cs.toList->
   ∃o,Instr.fill pl cs vs=Z o/\PW (aH g w) r o.toList
 |[],[],cells,cs,p,r,h,q,_,m=>by obtain⟨_,rfl⟩:=h;exact⟨cs,rfl,m⟩
 |(k,t)::ps,(Q,v)::vs,cells,cs,p,r,h,q,c,m=>by
  have s:=c.2 0 _ _ rfl rfl;obtain⟨rfl,C⟩:=s;have f:PW (o9 g w) ps vs:=⟨by simpa using c.1,λj a b E u=>c.2 (j+1) a b (by simpa using E) (by simpa using u)⟩;simp only[FE]at h;split at h;cases h;rename_i off i x;split at h;cases h;rename_i l F;obtain⟨u,h⟩|⟨_,h⟩:=ah h
  simp only[fG,fc]at h;obtain⟨⟨R,S⟩,I,rfl,rfl⟩:=h;have y:=gH u;rw[bS,bS]at y
  let ⟨n,K⟩:=pM F q.1 C
  have z:v.cells.size=l.length:=by simpa using n.1.symm
  have P:cells.length=cs.size:=by simpa using m.1
  have B:off+v.cells.toList.length<=cs.size:=by
   simp_all
  have e:=Bt off v.cells.toList 0 cs (by omega);simp only[Nat.add_zero]at e
  let ⟨o,h1,h2⟩:=vX d ps vs (cs:=(cs.toList.take off++v.cells.toList++cs.toList.drop (off+v.cells.toList.length)).toArray) I q.2.2 f (by
   rw[bS];simp only[Array.length_toList,z];exact((m.take off).append n).append (m.drop _))
  refine⟨o,?_,h2⟩;have A:¬(v.cells.size≠i.size||off+v.cells.size>cs.size)=W:=by
   simp_all
  simp only[Instr.fill,d _ _ _ x];rw[cm A,<-h1,<-e]
  congr 1
  rw[<-Array.foldl_toList,Array.toList_zipIdx];cases h
 |[],_::_,_,_,_,_,_,_,c,_=>by simp[PW]at c
 |_::_,[],_,_,_,_,_,_,c,_=>by simp[PW]at c
def xL{α β:Type}(f:α->Sem β)(r:α->β):∀(l:L α),(∀x∈l,(f x).run P w=.ok (r x) w)->(l.mapM f).run P w=.ok (l.map r) w
 |[],_=>rfl|x::l,h=>by
  have h2:=xL f r l (λy a=>h y (by simp[a]))
  simp_all
def NP{ty:TypeId}{i:TI}(hi:mM P ty i){d:L (Nat×Nat×aa)}(u:i.kd=.struct d){ps:L (Nat×T)}{vs:Array (Nat×az)}(y:PW (o9 g w) ps vs.toList)
  {p:Prop} {cs:L T} (h:FE (λk=>match nth d k with|some (off,size,ag)=>Z (off,{(default:TI)with size:=size,agg:=ag})|none=>Y) (i.zero.map qe) ps=Z (p,cs)) (S:p) :
  ∃v,(Instr.build ty vs).run P w=.ok v w/\aH g w (.agg cs) v:=by
 let ⟨xi,d1,z,A,B,_,XX,C,l,m⟩:=hi.all
 rw[u]at m;obtain⟨fields,rfl,E,x⟩:=m;have o:=sv (g:=g) (w:=w) l;have F:∀f:Field,∃n:Nat,f∈fields.toList->(Go.sizeOf f.type).run P w=.ok n w:=by
  intro f;by_cases R:f∈fields.toList;obtain⟨k,u,rfl⟩:=p8 R;have I:k<d.length:=by rw[<-E];simpa using u
  let ⟨e,j,d',h1,h2,h3,h4,_⟩:=x k (d[k]).1 (d[k]).2.1 (d[k]).2.2 (iu I)
  have:e=fields.toList[k]:=by
   have b:fields.toList[k]?=Z e:=by simpa using h1
   rw[iu u]at b;exact(jG b).symm
  subst this;exact⟨j.size,λ_=>dm h3 w⟩;exact⟨0,λh=>absurd h R⟩
 let ⟨sz,c⟩:=TQ F
 have q:=xL (P:=P) (w:=w) (λf:Field=>Functor.map (Prod.mk f.offset) <| Go.sizeOf f.type) (λf=>(f.offset,sz f)) fields.toList (λf x=>by simp[c f x]);obtain⟨rs,h1,h2⟩:=vX (g:=g) (w:=w) (pl:=λk=>((fields.toList.map λf=>(f.offset,sz f)).toArray)[k]?) (λk off ti a=>by
  simp[jP]at a;split at a;rename_i r size ag K;simp at a;obtain⟨rfl,rfl⟩:=a
  let ⟨e,j,d',h1,h2,h3,h4,_⟩:=x k r size ag K
  have s:e∈fields.toList:=by
   have b:fields.toList[k]?=Z e:=by simpa using h1
   exact hU b
  have Q:=c e s;rw[dm h3]at Q;simp at Q;simp[h1,h2,<-Q,h4];cases a) ps vs.toList h S y ⟨by simpa using o.1,λj t v h1 h2=>o.2 j t v h1 (by simpa using h2)⟩
 refine⟨.agg rs,?_,.agg _ _ (by simpa using h2.1) (λj t v h3 h4=>h2.2 j t v h3 (by simpa using h4))⟩;simp only[Instr.build,run_bind,ef A C,aN B,andThen_ok,Array.mapM_eq_mapM_toList];simp at h1;simp[q,h1]
end
section
variable {P:cP}{g:Gh}{w:av}
variable {s:St}{I:Nat->Prop}{ag:aa}{sz len:Nat}{d:D}{v:az}{i:TI}{cells:Array az}{zero:List D}
def aY.W3(hs:aY g s w){w':av}(o:Obj)(t:w'.heap=w.heap.push o)(m:w'.os=w.os)(i:w'.output=w.output) :
  aY (g.kM (·=w.heap.size)) s w'/\Ext s.fl g w (g.kM (·=w.heap.size)) w':=by
 have d:∀b,b<w.heap.size->w'.heap[b]?=w.heap[b]?:=λb f=>by rw[t,Array.getElem?_push,cm (by omega)]
 have n:w'.heap.size=w.heap.size+1:=by rw[t];simp
 have e:∀k b,bx (g.kM (·=w.heap.size)) k b->bx g k b:=λk b h=>⟨λx=>h.1 (.inl x),h.2⟩;have p:Ext s.fl g w (g.kM (·=w.heap.size)) w':=
  ⟨λ_ _ h=>h,λ_ _ _ h=>h,λ_ h=>.inl h,by omega,λb f _=>d b f,λk b h=>.inl (e k b h),λb h=>h.imp id λh=>.inl (by omega),m,i⟩
 refine⟨⟨hs.aF,hs.ai,λk c q=>?_,λk j y z=>?_,λb f=>?_,λk u b h A=>hs.jF k u b (e k b h) (e u b A)⟩,p⟩;have a:=hs.box k c q;refine a.ext p hs.bp (d c a.2.1) rfl ?_
 rintro(h|h)
 exact a.1 h;have:=a.2.1;omega;have l:=hs.arr k j y z;have r:∀v,y.a=Z v->y.cap≠0->v.block<w.heap.size:=l.1;refine l.ext p hs.bp (λb f q=>⟨d b (r _ f q),⟨λh=>h.elim id λh=>?_,.inl⟩⟩) rfl rfl
 simp_all
 obtain f|f:=f
 have:=hs.bp b f;omega;omega
structure uy(I:Nat->Prop)(w:av)(sz:Nat)(es:List D)(cells:Array az):Prop where
 size:cells.size=es.length*sz
 rows:∀d∈es,d.cells.length=sz
 rel:∀i j d c,es[i]?=Z d->d.cells[j]?=Z c->∃v,cells[i*sz+j]?=Z v/\dF I w c v
def PR(h:(bif ag then d.isAgg sz else d.leaf)=W)(h1:(ag||Nq sz 1)=W)(b:dF I w d v) :
  d.cells.length=sz/\v.cells.size=sz/\∀(j:Nat)(c:D)(u:az),d.cells[j]?=Z c->v.cells[j]?=Z u->dF I w c u:=by
 cases ag with
 |true=>
  obtain⟨i,rfl,e,_⟩:=yQ h;cases b with|agg _ k a _ f=>exact⟨e,by simp[Value.cells,<-a,e],λj c u h2 h3=>f j c u h2 h3⟩
 |false=>
  simp at h h1
  let ⟨_,l⟩:=vL h b
  have g:d.cells=[d]:=by cases d<;>first|rfl|(simp[D.leaf]at h)
  grind
def CN{s:St}(hs:aY g s w){i:TI}:∀(ps:L (Nat×T))(vs:L (Nat×az)){es r:L D}{p:Prop}{os:L Nat},rX s i es ps=Z (p,r,os)->p->PW (o9 g w) ps vs->
  ∀o∈os,Live g s o
 |[],_,es,r,p,os,h,f,_=>by obtain⟨_,rfl,rfl⟩:=h;intro o ho;cases ho
 |(k,t)::ps,(x,v)::vs,es,r,p,os,h,f,c=>by
  obtain⟨rfl,m⟩:=c.2 0 _ _ rfl rfl;have d:PW (o9 g w) ps vs:=⟨by simpa using c.1,λj a b n l=>c.2 (j+1) a b (by simpa using n) (by simpa using l)⟩;simp only[rX]at h;split at h;cases h;rename_i q;obtain⟨l,h⟩|⟨_,h⟩:=ah h
  simp only[fG,fc]at h;obtain⟨⟨y,z,u⟩,e,rfl,rfl,rfl⟩:=h
  let ⟨a1,_⟩:=lJ hs t q f.1 m
  have a2:=CN hs ps vs e f.2.2 d;intro o ho;obtain ho|ho:=eN.1 ho
  exact a1 o ho;exact a2 o ho;cases h
 |_::_,[],_,_,_,_,_,_,c=>by simp[PW]at c
def Al{s:St}(hs:aY g s w){sz:Nat}{ag:aa}(h1:(ag||Nq sz 1)=W){g':Gh}{s':St}(A:aY g' s' w)(he:Ext s.fl g w g' w) :
  ∀(ps:L (Nat×T))(vs:L (Nat×az)){es r:L D}{cells:Array az}{p:Prop}{os:L Nat},rX s {(default:TI)with size:=sz,agg:=ag} es ps=Z (p,r,os)->p->PW (o9 g w) ps vs->
   jl s s' os->uy g'.bp w sz es cells->(∀o∈os,Live g s o)/\∃I,Instr.fill (λi=>Z (i*sz,sz)) cells vs=Z I/\uy g'.bp w sz r I/\r.length=es.length
 |[],[],es,r,cells,p,os,h,K,_,_,n=>by obtain⟨_,rfl,rfl⟩:=h;exact⟨λo z=>(by cases z),cells,rfl,n,rfl⟩
 |(k,t)::ps,(k',v)::vs,es,r,cells,p,os,h,K,f,B,n=>by
  obtain⟨rfl,hv⟩:=f.2 0 _ _ rfl rfl;simp only at hv;have q:PW (o9 g w) ps vs:=⟨by simpa using f.1,λj a b ha hb=>f.2 (j+1) a b (by simpa using ha) (by simpa using hb)⟩;simp only[rX]at h;split at h;cases h;rename_i d Q R;obtain⟨hb,h⟩|⟨_,h⟩:=ah h
  simp only[fG,fc]at h;obtain⟨⟨p',r',S⟩,C,rfl,rfl,rfl⟩:=h;have E:k<es.length:=by
   simp_all[bS]
  let ⟨a1,a2⟩:=lJ hs t R K.1 hv
  have z1:jl s s' Q:=B.sub (λo z=>eL _ z);have z2:jl s s' S:=B.sub (λo z=>kz _ z);have Z2:=a2 g' s' A he z1
  let ⟨c1,c2,c3⟩:=PR K.2.1 h1 Z2
  have P:k*sz+sz<=cells.size:=by
   rw[n.size];have:(k+1)*sz<=es.length*sz:=yI _ E
   grind
  have l:=Bt (k*sz) v.cells.toList 0 cells (by simp_all);simp only[Nat.add_zero,Array.length_toList,c2]at l;have F:uy g'.bp w sz (es.set k d) (cells.toList.take (k*sz)++v.cells.toList++cells.toList.drop (k*sz+sz)).toArray:=by
   refine⟨?_,λx m=>?_,λi j x c m hj=>?_⟩;simp only[RE,xu,xq,Array.length_toList,List.length_drop,c2,Ie,<-n.size];omega;obtain m|rfl:=aat m
   exact n.rows x m;exact c1;rw[OT]at m;by_cases y:k=i;subst y;rw[bO rfl,bO E]at m;simp at m;subst m;have xB:j<sz:=by grind
   refine⟨v.cells[j],?_,c3 j c _ hj (tO (by omega))⟩
   grind
   rw[cm y]at m
   let ⟨u,hu,R⟩:=n.rel i j x c m hj
   have xB:j<sz:=by rw[<-n.rows x (hU m)];grind
   refine⟨u,?_,R⟩;rw[RG,sG,sG];obtain hik|hik:=Nat.lt_or_gt_of_ne (λe=>y e.symm:i≠k)
   have:(i+1)*sz<=k*sz:=yI _ hik
   grind
   have:(k+1)*sz<=i*sz:=yI _ hik
   grind
  let ⟨b1,I,b2,b3,b4⟩:=Al hs h1 A he ps vs C K.2.2 q z2 F
  refine⟨λo z=>?_,I,?_,b3,by rw[b4];simp⟩
  grind
  have hno:¬(v.cells.size≠sz||k*sz+v.cells.size>cells.size)=W:=by
   simp_all
  simp only[Instr.fill];rw[cm hno,<-b2,<-l]
  congr 1
  rw[<-Array.foldl_toList,Array.toList_zipIdx];cases h
 |[],_::_,_,_,_,_,_,_,_,f,_,_=>by simp[PW]at f
 |_::_,[],_,_,_,_,_,_,_,f,_,_=>by simp[PW]at f
def ajZ(d:D):d.r7<=24*d.cells.length:=by
 have b:∀x:D,x.lby<=24:=by intro x;unfold D.lby;split<;>omega
 have c:∀l:L D,D.oC l<=24*l.length:=by
  intro l
  induction l with
  |nil=>exact Hp _|cons a l g=>
   grind[D.oC]
 cases d with
 |agg e=>exact c e|lit v=>
  unfold D.r7;have:(D.lit v).cells.length=1:=rfl;rw[this];split<;>first|omega|exact b _|simp_all
 |sl f=>exact b (.sl f)|de t d=>exact b (.de t d)|gG ds=>exact b (.gG ds)|pt d=>exact b (.pt d)|mp k v=>exact b (.mp k v)
def uy.UW{es:L D}(h:uy I w sz es cells){b:Nat}{ty:TypeId}{fz:Nat×Nat}(m:w.heap[b]?=Z (.cells cells ty fz))(n:I b){cap:Nat}(a:es.length<=cap)
  (k:∀d∈es,es.length*d.r7<=281474976710656):dF I w (.sl es) (.slice (Z ⟨b,0,Y⟩) es.length cap):=by
 have l:∀q:Nat×Nat,∃v,∀d c,es[q.1]?=Z d->d.cells[q.2]?=Z c->cells[q.1*sz+q.2]?=Z v/\dF I w c v:=by
  rintro⟨i,j⟩
  by_cases o:i<es.length;by_cases f:j<(es[i]).cells.length
  let ⟨v,r,s⟩:=h.rel i j _ _ (iu o) (iu f)
  refine⟨v,λd c g p=>?_⟩
  grind
  refine⟨undef,λd c g p=>?_⟩
  simp_all
  simp_all
 let ⟨val,e⟩:=TQ l
 refine .sl es _ cap sz (λi j=>val (i,j)) a h.rows k (λ_=>⟨_,rfl,n,λi j d c g f=>?_⟩) (λi j d c g f=>(e (i,j) d c g f).2);rw[nk,cell?_of_block m]
 simp_all
def AU(h:afM d v):dF I w d v:=by
 obtain⟨rfl,rfl⟩|rfl:=h
 exact .sl [] Y 0 0 (λ_ _=>undef) (by simp) (by simp) (by simp) (λh=>absurd rfl h) (λi j d c h=>by simp at h);exact .lit _
theorem uy.mono{I a:Nat->Prop}{w w':av}{sz:Nat}{es:L D}{cells:Array az}(h:uy I w sz es cells)(e:jE I w w')(f:∀b,I b->a b):uy a w' sz es cells:=
 ⟨h.size,h.rows,λi j d c g k=>let ⟨v,l,m⟩:=h.rel i j d c g k;⟨v,l,m.mono e f⟩⟩
def Ls(a:ZOk zero cells)(h1:(ag||Nq sz 1)=W)(hl:cC zero=sz) :
  uy I w sz (List.replicate len (bif ag then .agg zero else zero.getD 0 default)) ((Array.range (len*sz)).map (cells[·%cells.size]!)):=by
 rw[bS]at hl;have b:cells.size=sz:=by rw[<-a.1,hl]
 have n:(bif ag then D.agg zero else zero.getD 0 default).cells=zero:=by
  cases ag with
  |true=>rfl|false=>
   simp at h1;have e:zero.length=1:=by rw[hl,h1]
   match zero,e with
   |[d],_=>
    have:=a.2 0 d cells[0] rfl (tO (by omega));obtain⟨h,_⟩|h:=this<;>(rw[h];rfl)
 refine⟨by simp,λd f=>?_,λi j d c p o=>?_⟩;rw[WC f,n,hl];have g:i<len:=by grind
 have k:d=(bif ag then D.agg zero else zero.getD 0 default):=WC (hU p);rw[k,n]at o;have l:j<sz:=by grind
 have m:i*sz+j<len*sz:=by
  have:(i+1)*sz<=len*sz:=yI _ g
  grind
 refine⟨cells[j]'(by omega),?_,AU (a.2 j c _ o (tO (by omega)))⟩;have q:(i*sz+j)%cells.size=j:=by rw[b,Mg,Nat.mul_add_mod,Nat.mod_eq_of_lt l]
 simp[m,q];rw[getElem!_pos cells j (by omega)]
def BH{ty:TypeId}(hi:mM P ty i){s1:St}(hs:aY g s w){bt:Nat}(hk:i.kd=.slice sz ag bt zero)(h1:(ag||Nq sz 1)=W)(A:cC zero=sz)(h0:sz≠0)
  (hlen:len*sz<=16777216) {ps:L (Nat×T)} {vs:Array (Nat×az)} (m:PW (o9 g w) ps vs.toList) {p:Prop} {es:L D} {os:L Nat}
  (h:rX s {(default:TI)with size:=sz,agg:=ag} (List.replicate len (bif ag then .agg zero else zero.getD 0 default)) ps=Z (p,es,os)) (hp:p) (hf:freeze s os=Z s1) :
  ∃w' g' v,(Instr.buildSlice ty len vs).run P w=.ok v w'/\aY g' s1 w'/\Ext s.fl g w g' w'/\aH g' w' (.j4 len es) v/\s1.fl=s.fl/\s1.aF=s.aF:=by
 let ⟨xi,d1,z,MR,n,_,XX,hzx,Bq,o⟩:=hi.all
 rw[hk]at o;obtain⟨e,j,d',z',rfl,B,q,hue,hage,C,E,_,_,_⟩:=o;have r:=CN hs ps vs.toList h hp m
 let ⟨g1,f,t,b⟩:=ew os hs hf r
 let ⟨_,rs,a,c,F⟩:=Al hs h1 f t ps vs.toList h hp m b (Ls E h1 A)
 have u:es.length=len:=by rw[F];simp
 let ⟨I,k⟩:=f.W3 (w':=w.alloc (.cells rs e)) (.cells rs e) rfl rfl rfl
 have l:=c.mono (k.keeps f.bp) k.bp;have K:=l.UW (cap:=es.length) (xe w _) (.inr rfl) (cM _) (λd K=>by
  have h3:=ajZ d;rw[c.rows d K]at h3;have h4:es.length*d.r7<=len*(24*sz):=by simp_all[Nat.mul_le_mul_left]
  grind)
 refine⟨_,_,.slice (Z ⟨w.heap.size,0,Y⟩) es.length es.length,?_,I,(b.fl▸t.trans (b.fl▸k)),.j4 len es _ (by omega) K,b.fl,b.aF⟩;have Q:¬(len*sz>2 ^ 24):=by omega
 by_cases R:len*sz=0;have y:len=0:=by
  grind[Nat.mul_eq_zero]
 subst y;simp at a;have S:(Array.range 0).map (λx=>z'.cells[x%z'.cells.size]!)=#[]:=by simp
 rw[S]at a;have he0:es.length=0:=u;have hr1:Array.range 0=#[]:=by simp
 simp[hr1,Instr.buildSlice,aN n,dm B,q,a,newRow,he0];simp[Instr.buildSlice,aN n,dm B,q,ef B C,Q,R,a,newRow,u]
end
section
variable {P:cP}{g:Gh}{w:av}
structure r9(I:Nat->Prop)(w:av)(sz:Nat)(es:List D)(vals:List az):Prop where
 len:vals.length=es.length*sz
 rows:∀d∈es,d.cells.length=sz
 rel:∀i j d c,es[i]?=Z d->d.cells[j]?=Z c->∃v,vals[i*sz+j]?=Z v/\dF I w c v
theorem Ka{i j n sz:Nat}(hi:i<n)(a:j<sz):i*sz+j<n*sz:=by
 have:(i+1)*sz<=n*sz:=yI _ hi
 grind
theorem abm{i j sz:Nat}(a:j<sz):(i*sz+j)/sz=i/\(i*sz+j)%sz=j:=by
 grind[Nat.mul_comm,Nat.mul_add_div,Nat.div_eq_of_lt,Nat.mul_add_mod,Nat.mod_eq_of_lt]
def qS(sz n:Nat)(val:Nat->Nat->az):L az:=(List.range (n*sz)).map λk=>val (k/sz) (k%sz)
variable {sz n:Nat}{val:Nat->Nat->az}{v:az}{s:St}{t:T}{p:Prop}{es:List D}{I:Nat->Prop}{vals:List az}
def Ce{i j:Nat}(hi:i<n)(a:j<sz):(qS sz n val)[i*sz+j]?=Z (val i j):=by
 grind[abm,qS,Ka]
def zK{k:Nat}(a:0<sz)(h:(qS sz n val)[k]?=Z v):∃i j,i<n/\j<sz/\k=i*sz+j/\v=val i j:=by
 simp[qS,kF,fG]at h;obtain⟨d,b,rfl⟩:=h;obtain⟨rfl,c⟩:=yD b;refine⟨k/sz,k%sz,RF (by grind),Nat.mod_lt _ a,?_,rfl⟩
 grind[Nat.div_add_mod]
def sx(hs:aY g s w)(h:AZ s t=Z (p,es))(hp:p)(ht:aH g w t v)(h0:0<sz)(r:jo es sz) :
  ∃a cap,v=.slice a es.length cap/\es.length<=cap/\(∀d∈es,es.length*d.r7<=281474976710656)/\
   (es≠[]->∃ad val,a=Z ad/\(g.bp ad.block\/∃o,sJ t=[o]/\bx g o ad.block)/\
    (∀i j,i<es.length->j<sz->w.cell? (ad.add (i*sz+j))=Z (val i j))/\r9 g.bp w sz es (qS sz es.length val)):=by
 have data:∀{v:az},dF g.bp w (.sl es) v->∃a cap,v=.slice a es.length cap/\es.length<=cap/\(∀d∈es,es.length*d.r7<=281474976710656)/\
   (es≠[]->∃ad val,a=Z ad/\(g.bp ad.block\/∃o,sJ t=[o]/\bx g o ad.block)/\
    (∀i j,i<es.length->j<sz->w.cell? (ad.add (i*sz+j))=Z (val i j))/\r9 g.bp w sz es (qS sz es.length val)):=by
  intro v k;obtain⟨a,cap,rfl,K,R,B⟩:=w9 k;refine⟨a,cap,rfl,K,R,λx=>?_⟩;obtain⟨ad,f,rfl,y,z,val,hc,S⟩:=B x;have C:f=sz:=by obtain⟨d,ds,rfl⟩:=aau x;rw[<-y d (by simp),r d (by simp)]
  subst C;have E:∀i j(q:i<es.length)(l:j<f),(es[i]).cells[j]?=Z ((es[i]).cells[j]'(by rw[y _ (JM q)];exact l)):=λi j q l=>iu _;refine⟨ad,val,rfl,.inl z,λi j q l=>hc i j _ _ (iu q) (E i j q l),⟨by simp[qS],y,λi j d c k l=>?_⟩⟩;have q:=ct k;have F:j<f:=by rw[<-y d (hU k)];exact ct l
  exact⟨val i j,Ce q F,S i j d c k l⟩
 cases ht with
 |emp a=>obtain⟨_,rfl⟩:=h;exact⟨a,0,rfl,cM _,by simp,λh=>absurd rfl h⟩
 |j4 n P a hn k=>obtain⟨_,rfl⟩:=h;exact data k
 |o6 j d c a l k=>obtain⟨_,rfl⟩:=h;exact data (Aq l k)
 |sym d v k=>obtain⟨rfl,rfl⟩:=h;rw[D.w7 hp]at k;exact data k
 |sh o e len cap sz2 a hx=>
  have key:∃fz f,s.ob.get o=Z (fM fz f es e):=by
   simp[AZ]at h;split at h;rename_i f P era Q;obtain⟨hb,h⟩|⟨_,h⟩:=ah h
   have I:=beq_iff'.1 hb;simp only[gC,fc]at h;exact⟨J,f,by rw[Q,h.2,I];rfl⟩;cases h;rename_i f P era Q;obtain⟨hb,h⟩|⟨_,h⟩:=ah h
   have I:=beq_iff'.1 hb;simp only[gC,fc]at h;exact⟨W,f,by rw[Q,h.2,I];rfl⟩;cases h;cases h
  let ⟨fz,f,Q⟩:=key
  let ⟨m,XB⟩:=hs.ni Q hx
  have h1:=m.len;have h2:=m.cap;simp only at h1 h2;refine⟨a,cap,by rw[h1],by omega,m.VC,λx=>?_⟩;have hpos:0<es.length:=TO.2 x
  let ⟨b,vs,ty,hab,hfz,hh,hcs,A⟩:=m.mem (by simp only;omega)
  subst hab;have C:f=sz:=by obtain⟨d,ds,rfl⟩:=aau x;rw[<-m.rows d (by simp),r d (by simp)]
  subst C;have hcs':cap*f<=vs.size:=hcs;have hvs:∀i j,i<es.length->j<f->i*f+j<vs.size:=λi j q l=>by have:=Ka (show i<cap by omega) l;omega
  refine⟨⟨b,0,Y⟩,λi j=>vs.getD (i*f+j) undef,rfl,?_,λi j q l=>?_,⟨by simp[qS],m.rows,λi j d c k l=>?_⟩⟩;by_cases z:g.bp b;exact .inl z;exact .inr ⟨o,rfl,z,.inr ⟨e,_,_,hx,rfl,rfl,by simp only;omega⟩⟩;rw[nk,cell?_of_block hh];have:=hvs i j q l;simp[this];have q:=ct k;have F:j<f:=by rw[<-m.rows d (hU k)];exact ct l
  let ⟨u,hu,S⟩:=A i d j c k l
  refine⟨u,?_,S⟩;rw[Ce q F];simp[hu]
 |_=>simp[AZ]at h
def r9.one(h:r9 I w sz es vals)(e:0<sz)(hf:∀d∈es,d.flat=W):∀v∈vals,v.oneCell'=W:=by
 intro v f;obtain⟨k,g,rfl⟩:=p8 f;have i:k<es.length*sz:=by rw[<-h.len];exact g
 have c:k/sz<es.length:=RF (by grind);have j:k%sz<sz:=Nat.mod_lt _ e;have a:=JM c;have b:k%sz<(es[k/sz]).cells.length:=by rw[h.rows _ a];exact j
 let ⟨u,l,m⟩:=h.rel (k/sz) (k%sz) _ _ (iu c) (iu b)
 grind[Nat.div_add_mod,D.flat,vL,List.getElem_mem]
def r9.append{es':L D}{a:L az}(h:r9 I w sz es vals)(e:r9 I w sz es' a):r9 I w sz (es++es') (vals++a):=by
 refine⟨by simp[h.len,e.len,Nat.add_mul],λd b=>?_,λi j d c b f=>?_⟩;obtain b|b:=eN.1 b
 exact h.rows d b;exact e.rows d b;rw[sG]at b;by_cases g:i<es.length;rw[bO g]at b
 let ⟨v,l,k⟩:=h.rel i j d c b f
 grind
 rw[cm g]at b
 let ⟨v,l,k⟩:=e.rel (i-es.length) j d c b f
 refine⟨v,?_,k⟩;have m:es.length*sz<=i*sz:=yI _ (by omega);rw[sG,cm (by rw[h.len];omega),h.len]
 grind[Nat.sub_mul]
def r9.nil:r9 I w sz [] []:=⟨by simp,by simp,λi j d c h=>by simp at h⟩
theorem r9.mono{I a:Nat->Prop}{w w':av}{sz:Nat}{es:L D}{vals:L az}(h:r9 I w sz es vals)(e:jE I w w')(f:∀b,I b->a b):r9 a w' sz es vals:=
 ⟨h.len,h.rows,λi j d c g k=>let ⟨v,l,m⟩:=h.rel i j d c g k;⟨v,l,m.mono e f⟩⟩
def zE(hs:aY g s w)(h:AZ s t=Z (p,es))(x:p)(y:aH g w t v)(l:0<sz)(c:jo es sz)(hf:∀d∈es,d.flat=W)
  {n z:TypeId} (o:P.underlying n=Z (.slice z)):∃b,Src P sz n v es.length b w/\r9 g.bp w sz es b/\Builtin.lenOf v=Sem.pure es.length:=by
 obtain⟨a,cap,rfl,q,A,e⟩:=sx hs h x y l c;by_cases f:es=[]
 .subst f;refine⟨[],?_,.nil,rfl⟩;cases a with|none=>exact Src.ofNil w o cap|some r=>grind[Src.ofSlice]
 obtain⟨r,val,rfl,_,C,m⟩:=e f;refine⟨_,Src.ofSlice w o r es.length cap _ m.len (λk u B=>?_) (m.one l hf),m,rfl⟩;obtain⟨i,j,E,F,rfl,rfl⟩:=zK l B
 grind
def GX(P:cP)(t a rt:TypeId)(vx vy:az)(w:av)(R:az->av->Prop):Prop:=
 ∃v w',(Builtin.append_ #[t,a] rt #[vx,vy]).run P w=.ok v w'/\R v w'
def AF{ty f rt e k:TypeId}{j:TypeInfo}{z:az}(l:P.underlying ty=Z (.slice e))(m:P.underlying f=Z (.slice k))(o:P.info? e=Z j)(p:j.zero=Z z)(g:0<j.bytes)
  {base:O Addr} {len cap n:Nat} {olds a:L az} {vy:az} (c:(Builtin.firstCells j.size len (.slice base len cap)).run P w.drew=.ok olds.toArray w.drew)
  (hs:Src P j.size f vy n a w) (q:cap<len+n) (i:Builtin.nextslicecap (len+n) cap*j.bytes<=281474976710656) :
  GX P ty f rt (.slice base len cap) vy w λv w'=>∃b,v=.slice (Z ⟨w.heap.size,0,Y⟩) (len+n) b/\len+n<=b/\
   w'=w.drew.alloc (.cells ((olds++a).toArray++Builtin.zeroCells z.cells (b-(len+n))) e):=by
 have r:(len+n)*j.bytes<=281474976710656:=fP (yI _ (le_nextslicecap (by omega))) i;have h:((len+n:Nat):Int)<=9223372036854775807:=by have:len+n<=(len+n)*j.bytes:=Nat.le_mul_of_pos_right _ g;omega
 have d:=run_append_grow_src (P:=P) w ty f rt e j z l o p base len cap olds c vy n a hs q h i;exact⟨_,_,d,_,rfl,grownCap_ge w (len+n) cap e,rfl⟩
def Gs{ty b rt e:TypeId}{j:TypeInfo}(d:P.underlying ty=Z (.slice e))(f:P.info? e=Z j){base:O Addr}{len cap:Nat}{vy:az}(hs:Src P j.size b vy 0 [] w)(a:len<=cap) :
  (Builtin.append_ #[ty,b] rt #[.slice base len cap,vy]).run P w=.ok (.slice base len cap) w:=by
 obtain⟨g,c⟩|c:=hs.kind<;>cases base<;>
  simp[Builtin.append_,aN d,aN c,dm f,hs.len,a,hs.cells,storeCells]
end
section
variable {P:cP}{g:Gh}{w:av}
variable {o:Obj}{w':av}{sz cap n r7 bt:Nat}{es:List D}{vals:List az}
def ES(a:w'.heap=w.heap.push o)(b:Nat)(c:b<w.heap.size):w'.heap[b]?=w.heap[b]?:=by rw[a,Array.getElem?_push,cm (by omega)]
def Mr(a:w'.heap=w.heap.push o):w'.heap[w.heap.size]?=Z o:=by rw[a];simp
def SS{g':Gh}(a:g'.bp=g.bp)(hi:∀b,g.bp b->b<w.heap.size){m:Array az}{e:TypeId}
  (n:w'.heap=w.heap.push (.cells (vals.toArray++m) e)) (f:r9 g.bp w sz es vals) (p:0<sz) (k:m.size=(cap-es.length)*sz) (q:es.length<=cap) (r:es≠[])
  (l:∀d∈es,es.length*d.r7<=281474976710656):wQ g' w' J sz es ⟨Z ⟨w.heap.size,0,Y⟩,es.length,cap,sz⟩:=by
 have s:jE g.bp w w':=λb o=>ES n b (hi b o);refine⟨rfl,q,f.rows,p,l,λ_=>⟨w.heap.size,_,e,rfl,⟨λh=>(by cases h),λh=>?_⟩,Mr n,?_,λi d j c t u=>?_⟩⟩;rw[a]at h
 grind
 simp[Array.size_append,RE,f.len,k];rw[<-Nat.add_mul]
 simp_all
 let ⟨v,x,y⟩:=f.rel i j d c t u
 refine⟨v,?_,y.mono s (λb o=>by grind)⟩
 grind
def w4{len:Nat}{base:O Addr}{olds:L az}(hl:olds.length=len*sz)(h:len≠0->∃ad,base=Z ad/\∀k u,olds[k]?=Z u->w.cell? (ad.add k)=Z u) :
  (Builtin.firstCells sz len (.slice base len cap)).run P w.drew=.ok olds.toArray w.drew:=by
 by_cases a:len=0
 .subst a;have:olds=[]:=Da (by simpa using hl);subst this;cases base with|none=>rfl|some ad=>grind[run_firstCells_some]
 obtain⟨ad,rfl,b⟩:=h a
 grind[run_firstCells_some,World.cell?_drew]
theorem GX.mono{t a rt:TypeId}{vx vy:az}{R b:az->av->Prop}(h:GX P t a rt vx vy w R)(c:∀v w',R v w'->b v w'):GX P t a rt vx vy w b:=by
 let ⟨v,w',h1,h2⟩:=h
 exact⟨v,w',h1,c _ _ h2⟩
def r9.UW{I:Nat->Prop}(h:r9 I w sz es vals){b:Nat}{ty:TypeId}{fz:Nat×Nat}{cells:Array az}(o:w.heap[b]?=Z (.cells cells ty fz))(p:I b)
  (f:∀(k:Nat)(v:az),vals[k]?=Z v->cells[k]?=Z v) {cap:Nat} (a:es.length<=cap) (m:∀d∈es,es.length*d.r7<=281474976710656):dF I w (.sl es) (.slice (Z ⟨b,0,Y⟩) es.length cap):=by
 have n:∀q:Nat×Nat,∃v,∀d c,es[q.1]?=Z d->d.cells[q.2]?=Z c->cells[q.1*sz+q.2]?=Z v/\dF I w c v:=by
  rintro⟨i,j⟩
  by_cases r:i<es.length;by_cases g:j<(es[i]).cells.length
  let ⟨v,t,u⟩:=h.rel i j _ _ (iu r) (iu g)
  refine⟨v,λd c l s=>?_⟩
  grind
  refine⟨undef,λd c l s=>?_⟩
  simp_all
  simp_all
 let ⟨val,e⟩:=TQ n
 refine .sl es _ cap sz (λi j=>val (i,j)) a h.rows m (λ_=>⟨_,rfl,p,λi j d c l g=>?_⟩) (λi j d c l g=>(e (i,j) d c l g).2);rw[nk,cell?_of_block o]
 simp_all
def FG(hf:n<=17179869184)(a:r7<=4096)(b:cap<n):Builtin.nextslicecap n cap*r7<=281474976710656:=by have h1:=nextslicecap_le b;have:Builtin.nextslicecap n cap*r7<=(2*17179869184)*4096:=Nat.mul_le_mul (by omega) a;omega
def Kk(hf:n<=17179869184)(a:r7<=4096)(h:bt<=2*r7):n*bt<=281474976710656:=by have:n*bt<=17179869184*8192:=Nat.mul_le_mul hf (by omega);omega
def CT{ty tx rt e e':TypeId}{l:TypeInfo}{z:az}(S:P.underlying ty=Z (.slice e))(hu2:P.underlying tx=Z (.slice e'))(hji:P.info? e=Z l)(hjz:l.zero=Z z)(hzs:z.cells.size=l.size)(h0:0<l.size)
  (hb0:0<l.bytes) (PB:l.bytes<=4096) (oY:bt<=2*l.bytes) (hI:∀b,g.bp b->b<w.heap.size) {es new:L D} {f:L az} {x:eU} {vy:az}
  (m:wQ g w J l.size es x) (an4:∀b,x.at b->b<w.heap.size) (Q:∀d∈iq es new,d.r7=bt) (r:jo new l.size)
  (p:Src P l.size tx vy new.length f w) (hv:r9 g.bp w l.size new f) (s:D.Sr es new)
  (hy:new≠[]->∃t cy,vy=.slice (Z t) new.length cy/\¬x.at t.block/\∀k,k<new.length*l.size->(w.cell? (t.add k)).isSome=W) :
  GX P ty tx rt (.slice x.a x.len x.cap) vy w λv w'=>∃x',Te g w l.size (iq es new) x v w' x':=by
 let ⟨a,len,cap,xsz⟩:=x
 have hl1:=m.len;have hl2:=m.cap;simp only at hl1 hl2;subst hl1;by_cases E:new=[];subst E;have Pu:f=[]:=Da (by simpa using hv.len);subst Pu;have abG:iq es []=es:=tK es;rw[abG];exact⟨_,_,Gs (P:=P) S hji p hl2,⟨a,es.length,cap,l.size⟩,rfl,rfl,rfl,rfl,cM _,λ_ _ _=>rfl,λb hb=>⟨an4 b hb,.inr hb⟩,⟨m.len,m.cap,m.rows,m.pos,m.VC,m.mem⟩⟩;have hpos:0<new.length:=TO.2 E;obtain⟨t,cy,rfl,Sj,hyc⟩:=hy E;by_cases n:es.length+new.length<=cap
 ·
  let ⟨b,C,F,I,hfz,hh,hcs,o⟩:=m.mem (by grind)
  simp only at I hcs;subst I;have ac8:¬g.bp b:=λUw=>Bool.noConfusion (hfz.2 Uw);have hnl:f.length=new.length*l.size:=hv.len;have hfit:es.length*l.size+f.length<=C.size:=by
   have:(es.length+new.length)*l.size<=cap*l.size:=yI _ n
   grind
  have hst:=run_storeCells_at (P:=P) b (0+es.length*l.size) F f 0 C w hh (by omega) p.one;simp only[Nat.add_zero,A4]at hst;have hrun:(Builtin.append_ #[ty,tx] rt #[.slice (Z ⟨b,0,Y⟩) es.length cap,.slice (Z t) new.length cy]).run P w=
    .ok (.slice (Z ⟨b,0,Y⟩) (es.length+new.length) cap) (w.setRow b (C.toList.take (es.length*l.size)++f++C.toList.drop (es.length*l.size+f.length)).toArray):=by
   simp[Builtin.append_,aN S,aN hu2,dm hji,p.len,n,p.cells,nk,hst]
  have hk:jE g.bp w (w.setRow b (C.toList.take (es.length*l.size)++f++C.toList.drop (es.length*l.size+f.length)).toArray):=
   λb' y=>setRow_other w b b' _ (λe=>ac8 (e▸y))
  have De:(⟨Z ⟨b,0,Y⟩,es.length,cap,xsz⟩:eU).at b:=⟨_,rfl,rfl,by grind⟩;refine⟨_,_,hrun,⟨Z ⟨b,0,Y⟩,es.length+new.length,cap,l.size⟩,rfl,rfl,rfl,rfl,by simp,λb' _ y=>setRow_other w b b' _ (λe=>y (e▸De)),λb' y=>?_,
   ⟨by simp[iq],n,λd hd=>(by
     obtain hd|hd:=eN.1 hd
     exact m.rows d hd;exact r d hd),h0,λd hd=>(by
     rw[Q d hd];exact Kk (by simpa[iq,D.Sr]using s) PB oY),λ_=>⟨b,_,F,rfl,hfz,setRow_heap w b C _ F _ hh,(by
      grind),λi d j c hd hj=>(by
      have xB:j<l.size:=by
       have hrw:d.cells.length=l.size:=by
        obtain hd|hd:=eN.1 (hU hd)
        exact m.rows d hd;exact r d hd
       grind
      unfold iq at hd;rw[sG]at hd;by_cases hi:i<es.length;rw[bO hi]at hd
      let ⟨v,K,hr⟩:=o i d j c hd hj
      refine⟨v,?_,hr.mono hk (λ_ h=>h)⟩;have:=Ka hi xB
      grind
      rw[cm hi]at hd
      let ⟨v,K,hr⟩:=hv.rel _ j d c hd hj
      refine⟨v,?_,hr.mono hk (λ_ h=>h)⟩;have hlt:=ct K;have hge:es.length*l.size<=i*l.size:=yI _ (by omega);rw[Nat.sub_mul]at K hlt;rw[RG,sG,bO (by simp;omega),sG,cm (by simp;omega)]
      grind)⟩⟩⟩
  let ⟨ad,k1,k2,k3⟩:=y
  simp at k1;subst k1
  simp_all
 ·
  have A:∃olds,r9 g.bp w l.size es olds/\(es.length≠0->∃ad,a=Z ad/\∀k u,olds[k]?=Z u->w.cell? (ad.add k)=Z u):=by
   by_cases hes:es=[];subst hes;exact⟨[],.nil,λh=>absurd rfl h⟩;have hepos:0<es.length:=TO.2 hes
   let ⟨b,C,F,I,hfz,hh,hcs,o⟩:=m.mem (by grind)
   subst I;have hle:es.length*l.size<=C.size:=fP (yI _ hl2) hcs;refine⟨C.toList.take (es.length*l.size),⟨by simp;omega,m.rows,λi j d c hd hj=>?_⟩,λ_=>⟨_,rfl,λk u hu=>?_⟩⟩
   let ⟨v,K,hr⟩:=o i d j c hd hj
   refine⟨v,?_,hr⟩;have xB:j<l.size:=by rw[<-m.rows d (hU hd)];grind
   simp_all[TM,Ka,ct]
   rw[nk,cell?_of_block hh]
   grind
  let ⟨olds,hvo,A⟩:=A
  refine(AF (P:=P) S hu2 hji hjz hb0 (olds:=olds) (w4 hvo.len A) p (Nat.lt_of_not_le n) (FG s PB (Nat.lt_of_not_le n))).mono ?_
  rintro v w' ⟨q,rfl,hc,rfl⟩
  have aeF:(Builtin.zeroCells z.cells (q-(es.length+new.length))).size=(q-(es.length+new.length))*l.size:=by simp[Builtin.zeroCells,hzs]
  have B:(es++new).length=es.length+new.length:=xu;have R:=SS (g:=g) (w:=w) (g':=g) rfl hI
   (w':=w.drew.alloc (.cells ((olds++f).toArray++Builtin.zeroCells z.cells (q-(es.length+new.length))) e)) rfl (hvo.append hv) h0 (by rw[B];exact aeF) (by omega)
   (λhh=>E (List.append_eq_nil_iff.1 hh).2) (λd hd=>by
    rw[Q d hd];exact Kk (by simpa[D.Sr]using s) PB oY)
  rw[B]at R;refine⟨⟨Z ⟨w.heap.size,0,Y⟩,es.length+new.length,q,l.size⟩,rfl,rfl,rfl,rfl,by simp_all,λb hb _=>ES rfl b hb,λb hb=>?_,R⟩
  let ⟨ad,k1,k2,_⟩:=hb
  simp at k1;subst k1
  simp_all
def ya{ty tx rt:TypeId}{i j:TI}(hi:mM P ty i)(hj:mM P tx j)(hjk:∃a b c d,j.kd=.slice a b c d){s s':St}(hs:aY g s w){x y:T}{vx vy:az}{p:Prop}{t:T}
  (h:uv i s x y=Z (p,t,s')) (Q:p) (hx:aH g w x vx) (hy:aH g w y vy) :
  GX P ty tx rt vx vy w λv w'=>∃g',aY g' s' w'/\Ext s.fl g w g' w'/\aH g' w' t v:=by
 let ⟨_,d1,_,_,R,_,_,_,_,MW⟩:=hi.all
 let ⟨_,d2,_,_,E,_,_,_,_,hk2⟩:=hj.all
 let ⟨_,_,_,_,hjk⟩:=hjk
 rw[hjk]at hk2;obtain⟨e',_,_,_,rfl,_⟩:=hk2;unfold uv at h;obtain⟨_,h⟩|⟨hnb,h⟩:=ah h
 cases h;have hn:s.aF<bD:=by
  simp_all
 split at h
 .rename_i sz ag bt zero q new xA S;rw[xA]at MW;obtain⟨e,ji,d',z,rfl,hji,xB,_,_,hjz,Bq,PB,h0,Dd,oY,hb0,hzl⟩:=MW;have hzs:z.cells.size=sz:=by rw[<-Bq.1,hzl]
  subst xB;have aaQ:∀{es:L D}{vals:L az}{cap:Nat}{v:az}{w':av},r9 g.bp w ji.size es vals->es≠[]->uV es bt->v=.slice (Z ⟨w.heap.size,0,Y⟩) es.length cap->es.length<=cap->(∀d∈es,es.length*d.r7<=281474976710656)->
    w'=w.drew.alloc (.cells (vals.toArray++Builtin.zeroCells z.cells (cap-es.length)) e)->∃g',aY g' (ee s (.arr ji.size es 0)).2 w'/\Ext s.fl g w g' w'/\aH g' w' (.sh s.aF 0) v:=by
   intro es vals cap v w' hv r l hve hc hby hw;subst hw;subst hve;have aeF:(Builtin.zeroCells z.cells (cap-es.length)).size=(cap-es.length)*ji.size:=by simp[Builtin.zeroCells,hzs]
   have hok:=SS (g:=g) (w:=w) (g':=g.era s.aF 0 ⟨Z ⟨w.heap.size,0,Y⟩,es.length,cap,ji.size⟩) rfl hs.bp (w':=w.drew.alloc (.cells (vals.toArray++Builtin.zeroCells z.cells (cap-es.length)) e)) rfl hv h0 aeF hc r hby
   let ⟨F,he⟩:=hs.O6 hn (w':=w.drew.alloc (.cells (vals.toArray++Builtin.zeroCells z.cells (cap-es.length)) e)) rfl rfl (by simp_all) (λb hb=>ES rfl b hb)
    (x:=⟨Z ⟨w.heap.size,0,Y⟩,es.length,cap,ji.size⟩) (λb hb=>by
     let ⟨ad,h1,h2,_⟩:=hb
     simp at h1;subst h1
     simp_all) hok rfl
   exact⟨_,F,he,.sh _ _ _ _ _ _ (Gh.fq _ _ _ _)⟩
  cases hx with
  |emp a=>
   obtain⟨rfl,rfl,rfl⟩:=h
   let ⟨hq,f,l⟩:=Q
   let ⟨C,n,hv,hlen⟩:=zE hs S hq hy h0 f (λd B=>(l d B).2) E
   by_cases r:new=[];subst r;have Pu:C=[]:=Da (by simpa using hv.len);subst Pu
   let ⟨F,he⟩:=hs.O6 hn (w':=w) (sz:=ji.size) (es:=[]) (x:=⟨a,0,0,ji.size⟩) rfl rfl (cM _) (λb hb=>rfl) (λb hb=>by
    let ⟨_,_,_,h⟩:=hb
    grind) ⟨rfl,cM _,by simp,h0,by simp,λh=>absurd rfl h⟩ rfl
   exact⟨_,_,Gs (P:=P) R hji n (cM _),_,F,he,.sh _ _ _ _ _ _ (Gh.fq _ _ _ _)⟩;have hpos:0<new.length:=TO.2 r
   let ⟨_,_,_,_,hby,_⟩:=sx hs S hq hy h0 f
   have hfit:Builtin.nextslicecap (0+new.length) 0*ji.bytes<=281474976710656:=by rw[A4,nextslicecap_zero hpos];obtain⟨d,ds,rfl⟩:=aau r;have:=hby d (by simp);rw[(l d (by simp)).1]at this;exact fP (Nat.mul_le_mul_left _ Dd) this
   refine(AF (P:=P) R E hji hjz hb0 (olds:=[]) (w4 (by simp) (λh=>absurd rfl h)) n (by omega) hfit).mono ?_
   simp_all
  |j4 m es a hm B=>
   have hes:jo (iq es new) ji.size->∃olds,r9 g.bp w ji.size es olds/\(es.length≠0->∃ad,a=Z ad/\∀k u,olds[k]?=Z u->w.cell? (ad.add k)=Z u):=by
    intro f
    let ⟨a',K,he,_,_,Sk⟩:=sx (s:=s) (t:=.j4 m es) (p:=True) (es:=es) hs rfl trivial (.j4 m es a hm B) h0 (λd B=>f d (eL _ B))
    obtain⟨rfl,_,_⟩:=he;by_cases r:es=[];subst r;exact⟨[],.nil,λh=>absurd rfl h⟩;obtain⟨ad,val,rfl,_,hc,hv⟩:=Sk r;refine⟨_,hv,λ_=>⟨ad,rfl,λk u hu=>?_⟩⟩;obtain⟨i,j,hi,hj,rfl,rfl⟩:=zK h0 hu
    grind
   dsimp only at h;split at h;rename_i k es2;obtain⟨rfl,rfl,rfl⟩:=h
   let ⟨hq,f,l,A⟩:=Q
   let ⟨C,n,hv,hlen⟩:=zE hs S hq hy h0 (λd B=>f d (kz _ B)) (λd B=>(l d (kz _ B)).2) E
   let ⟨olds,hvo,hold⟩:=hes f
   have hpos:0<new.length:=by
    cases hy with
    |j4 _ _ _ hk _=>
    grind[AZ]
   refine(AF (P:=P) R E hji hjz hb0 (olds:=olds) (w4 hvo.len hold) n (by omega) (FG A PB (by omega))).mono ?_
   rintro v w' ⟨K,rfl,hc,rfl⟩
   have I:(iq es new).length=es.length+new.length:=xu;exact aaQ (es:=iq es new) (hvo.append hv) (λhh=>by
    grind) l (by rw[I]) (by omega) (λd B=>by rw[(l d B).1,I];exact Kk A PB oY) (by rw[I])
   obtain⟨rfl,rfl,rfl⟩:=h
   let ⟨hq,f,l,A⟩:=Q
   let ⟨C,n,hv,hlen⟩:=zE hs S hq hy h0 (λd B=>f d (kz _ B)) (λd B=>(l d (kz _ B)).2) E
   let ⟨olds,hvo,hold⟩:=hes f
   by_cases r:new=[];subst r;have Pu:C=[]:=Da (by simpa using hv.len);subst Pu;refine⟨_,_,Gs (P:=P) R hji n (cM _),g,hs,Ext.refl _ _ _,.sym _ _ ?_⟩
   grind[iq]
   have hpos:0<new.length:=TO.2 r;refine(AF (P:=P) R E hji hjz hb0 (olds:=olds) (w4 hvo.len hold) n (by omega) (FG A PB (by omega))).mono ?_
   rintro v w' ⟨K,rfl,hc,rfl⟩
   let ⟨F,he⟩:=hs.W3 (w':=w.drew.alloc (.cells ((olds++C).toArray++Builtin.zeroCells z.cells (K-(es.length+new.length))) e)) _ rfl rfl rfl
   refine⟨_,F,he,.sym _ _ ?_⟩;have hvv:=(hvo.append hv).mono (he.keeps hs.bp) he.bp;have:=hvv.UW (b:=w.heap.size) (Mr (w:=w) rfl) (.inr rfl) (λk v hk=>by
    grind) (cap:=K) (by simp_all) (λd B=>by
     rw[(l d B).1,xu];exact Kk A PB oY)
   rw[xu]at this;exact this
  |sh o e2 len cap sz2 a hxa=>
   dsimp only at h;split at h;rename_i ho;obtain⟨hb,h9⟩|⟨_,h9⟩:=ah h
   simp only[eM]at hb
   let ⟨⟨⟨hfl,hee⟩,hzz⟩,hno⟩:=hb
   have hfl:=gH hfl;have hee:=beq_iff'.1 hee;have hzz:=beq_iff'.1 hzz;subst hee;subst hzz;simp only[gC,fc]at h9;obtain⟨rfl,rfl,rfl⟩:=h9
   let ⟨hq,f,l,A⟩:=Q
   let ⟨hok,XB⟩:=hs.ni (fz:=J) ho hxa
   simp only at XB;subst XB
   let ⟨C,n,hv,hlen⟩:=zE hs S hq hy h0 f (λd B=>(l d (kz _ B)).2) E
   obtain⟨ay,cy,rfl,_,an2,Pm⟩:=sx hs S hq hy h0 f;have hlt:=(hs.arr o e2 _ hxa).1;refine(CT (rt:=rt) R E hji hjz hzs h0 hb0 PB oY hs.bp hok (λb hb=>?_) (λd B=>(l d B).1) f n hv A (λr=>?_)).mono ?_
   let ⟨ad,k1,k2,k3⟩:=hb
   simp_all
   obtain⟨ady,al4,rfl,Sj,hyc,_⟩:=Pm r;refine⟨ady,cy,rfl,λDe=>?_,λk hk=>?_⟩;have hown:bx g o ady.block:=by
    let ⟨ad,k1,k2,k3⟩:=De
    let ⟨b,vs,ety,hab,hfz,_⟩:=hok.mem k3
    rw[k1]at hab;cases hab;simp only at k2;exact⟨λUw=>Bool.noConfusion (hfz.2 (k2▸Uw)),.inr ⟨e2,_,_,hxa,k1,k2,k3⟩⟩
   obtain Uw|⟨o',ho',hO⟩:=Sj
   exact hown.1 Uw;have:=hs.jF o o' _ hown hO
   simp_all
   have h1:=hyc (k/ji.size) (k%ji.size) (RF (by grind)) (Nat.mod_lt _ h0)
   grind[Nat.div_add_mod]
   rintro v w' ⟨x',Q⟩
   let ⟨F,he⟩:=hs.aj0 ho hxa hfl Q.os Q.output Q.size Q.heap Q.at_ (Q.ok.jU rfl) Q.sz
   have:=Q.val;subst this;exact⟨_,F,he,.sh _ _ _ _ x'.sz _ (Gh.fq _ _ _ _)⟩;cases h9;cases h
  |_=>simp at h
 cases h
end
def akX(fl:Nat)(g:Gh)(w:av)(t:T)(s':St)(r:Result Next):Prop:=
 ∃v w' g',(r=.ok (.value v) w'\/(r=.ok .skip w'/\v=undef))/\aY g' s' w'/\Ext fl g w g' w'/\aH g' w' t v
section
variable {P:cP}{g:Gh}{w:av}
variable {s s':St}{t x:T}{os:List Nat}{i:TI}{l h m:Option T}{p:Prop}
def dQ{v:az}{r:Result Next}(hs:aY g s w)(a:r=.ok (.value v) w)(b:aH g w t v)(c:s'=s):akX s.fl g w t s' r:=
 ⟨v,w,g,.inl a,c▸hs,Ext.refl _ _ _,b⟩
def rj:∀{os:L Nat}{s s':St},freeze s os=Z s'->s'.lo=s.lo/\s'.fl=s.fl/\s'.aF=s.aF
 |[],s,s',h=>by simp[freeze,gC]at h;rw[h];exact⟨rfl,rfl,rfl⟩
 |o::os,s,s',h=>by obtain⟨_,⟨_,_,_,_,h⟩|⟨_,_,_,_,h⟩|⟨_,h⟩|⟨_,_,_,_,_,_,_,_,_,_,_,_,_,h⟩⟩:=vV h<;>(have:=rj h;exact this)
def Bs(h:freeze s os=Z s'):s'.lo=s.lo:=(rj h).1
def UJ(h:freeze s os=Z s'):s'.fl=s.fl:=(rj h).2.1
def PF(h:freeze s os=Z s'):s'.aF=s.aF:=(rj h).2.2
def Tu(a:pU i s x l h m=Z (p,t,s')):s'=s\/freeze s (sJ x)=Z s':=by
 unfold pU at a
 repeat' split at a
 all_goals first
  |(cases a;done)
  |(
    simp only[fG,gC,fc]at a;first
     |(obtain⟨_,_,_,_,rfl⟩:=a;first|exact .inl rfl|(right;assumption))
     |(obtain⟨_,_,rfl⟩:=a;first|exact .inl rfl|(right;assumption)))
def Tv(a:pU i s x l h m=Z (p,t,s')):s'.lo=s.lo:=by
 obtain rfl|h:=Tu a
 rfl;exact Bs h
structure AI(E:Env):Prop where
 ti:∀k i,E.ti k=Z i->mM E.P k i
 Sp:∀f fn,E.Sp f=Z fn->E.P.funcs[f]?=Z fn
def m7{E:Env}(Q:AI E){fr:Fr}{a:Act}(hf:cS g fr a w)(hs:aY g s w)(o:Oper)(h:n9 E fr s o.op=Z (p,t,s'))(R:p) :
  akX s.fl g w t s' ((execOp a.eval o).run E.P w)/\s'.fl=s.fl/\s'.lo=s.lo/\s.aF<=s'.aF:=by
 cases A:o.op with
 |move x=>rw[A]at h;simp only[n9,fG,fc]at h;obtain⟨t',F,_,rfl,rfl⟩:=h;exact⟨dQ hs (by simp[execOp,A]) (bR hf F) rfl,rfl,rfl,cM _⟩
 |assign x=>rw[A]at h;simp only[n9,fG,fc]at h;obtain⟨t',F,_,rfl,rfl⟩:=h;exact⟨dQ hs (by simp[execOp,A]) (bR hf F) rfl,rfl,rfl,cM _⟩
 |pick c x y=>
  rw[A]at h;simp[n9]at h;split at h;rename_i hc hx hy;simp only[fG,fc]at h;obtain⟨⟨q,u⟩,S,rfl,rfl,rfl⟩:=h
  let ⟨b,hb,F⟩:=Mv S R (bR hf hc) (bR hf hx) (bR hf hy)
  exact⟨dQ hs (by simp[execOp,A,hb,asBool]) F rfl,rfl,rfl,cM _⟩;cases h
 |alloc ty=>
  rw[A]at h;simp[n9]at h;split at h;rename_i i I;obtain⟨hn,h⟩|⟨_,h⟩:=ah h
  obtain⟨_,rfl,rfl⟩:=h;have hn':s.aF<bD:=gH hn
  let ⟨xi,d,z,MR,_,_,_,hz,Bq,_⟩:=(Q.ti _ _ I).all
  let ⟨z1,z2⟩:=sv (g:=g) (w:=w) Bq
  let ⟨K,he⟩:=hs.dB hn' ty z1 z2
  refine⟨⟨_,_,_,.inl ?_,K,he,.ptr s.aF 0 w.heap.size (by simp[Gh.dB])⟩,rfl,rfl,by simp[ee]⟩;simp[execOp,A,Instr.alloc,ef MR hz,newVar,newRow];cases h;cases h
 |box ty x=>
  rw[A]at h;simp[n9]at h;split at h;rename_i i v I B;obtain⟨hn,h⟩|⟨_,h⟩:=ah h
  simp only[fG,fc]at h;obtain⟨⟨q,cs⟩,hc,rfl,rfl,rfl⟩:=h;have hn':s.aF<bD:=gH hn
  let ⟨h1,h2,h3,_⟩:=mB hc R (bR hf B)
  let ⟨K,he⟩:=hs.dB hn' ty (cs:=cs) (vs:=(a.eval x).cells) (by rw[h1,h2]) h3
  refine⟨⟨_,_,_,.inl ?_,K,he,.ptr s.aF 0 w.heap.size (by simp[Gh.dB])⟩,rfl,rfl,by simp[ee]⟩;simp[execOp,A,Instr.box,newVar,newRow];cases h;cases h
 |build ty parts=>
  rw[A]at h;simp[n9]at h;split at h;rename_i i ps I hps;split at h;rename_i hk;simp only[fG,fc]at h;obtain⟨⟨q,cs⟩,hc,rfl,rfl,rfl⟩:=h;have oX:=oQ hf hps
  let ⟨v,B,F⟩:=NP (w:=w) (g:=g) (Q.ti _ _ I) hk (vs:=parts.map λ(i,x)=>(i,a.eval x)) (by simpa using oX) hc R
  exact⟨dQ hs (by simp[execOp,A,B]) F rfl,rfl,rfl,cM _⟩;cases h;cases h
 |buildSlice ty len parts=>
  rw[A]at h;simp only[n9]at h;split at h;rename_i i ps I hps;split at h;rename_i hk;obtain⟨hb,h⟩|⟨_,h⟩:=ah h
  split at h;rename_i q es os hel;simp only[fG,fc]at h;obtain⟨s1,hfz,rfl,rfl,rfl⟩:=h;have oX:=oQ hf hps;rw[yH]at hb
  let ⟨Dd,oY⟩:=hb
  rw[yH]at oY
  let ⟨oY,PC⟩:=oY
  rw[yH]at PC
  let ⟨PC,PB⟩:=PC
  let ⟨w',g',v,hrun,K,he,F,hfl,abv⟩:=BH (Q.ti _ _ I) hs hk Dd (beq_iff'.1 oY) (λe=>by
   rw[e]at PC;cases PC) (gH PB) (vs:=parts.map λ(i,x)=>(i,a.eval x)) (by simpa using oX) hel R hfz
  exact⟨⟨v,w',g',.inl (by simp[execOp,A,hrun]),K,he,F⟩,hfl,Bs hfz,by omega⟩;iterate 4 cases h
 |load ty x=>rw[A]at h;simp[n9]at h;split at h;rename_i i v I B;obtain⟨u,S,F,rfl⟩:=Cy (Q.ti _ _ I) hs (bR hf B) h R;exact⟨dQ hs (by simp[execOp,A,S]) F rfl,rfl,rfl,cM _⟩;cases h
 |store ty x y=>
  rw[A]at h;simp[n9]at h;split at h;rename_i i v u I B S;obtain⟨w',g',hrun,K,he,rfl⟩:=Jv (Q.ti _ _ I) hs (bR hf B) (bR hf S) h R;refine⟨⟨undef,w',g',.inr ⟨by simp[execOp,A,hrun],rfl⟩,K,he,.sym _ _ (.lit _)⟩,?_⟩;unfold storeT at h;split at h;cases h;split at h;split at h;obtain⟨_,h⟩|⟨_,h⟩:=ah h
  obtain⟨_,_,rfl⟩:=h;exact⟨rfl,rfl,cM _⟩;cases h;cases h;split at h;split at h;rename_i hfz;split at h;obtain⟨_,h⟩|⟨_,h⟩:=ah h
  obtain⟨_,_,rfl⟩:=h;have e1:=UJ hfz;have e2:=Bs hfz;have e3:=PF hfz;exact⟨e1,e2,Cm e3.symm⟩;iterate 6 cases h
 |nilCheck x=>
  rw[A]at h;simp[n9]at h;have hx:=λ{t}(e:jO fr x=Z t)=>bR hf e;split at h;all_goals try(cases h;done)
  all_goals
   rename_i Z0;have C:=hx Z0;simp only[gC,fc]at h;obtain⟨rfl,rfl,rfl⟩:=h
  .generalize B:a.eval x=v at C;cases C with|ptr _ _ b hb=>exact⟨dQ hs (by simp[execOp,A,B]) (.ptr _ _ b hb) rfl,rfl,rfl,cM _⟩
  .generalize B:a.eval x=v at C;cases C with|lD _ _ ad val h1 h2 h3=>exact⟨dQ hs (by simp[execOp,A,B]) (.lD _ _ ad val h1 h2 h3) rfl,rfl,rfl,cM _⟩
  .generalize B:a.eval x=v at C;cases C with|lC _ _ _ _ _ _ _ _ h1=>exact⟨dQ hs (by simp[execOp,A,B]) (.lC _ _ _ _ _ _ _ _ h1) rfl,rfl,rfl,cM _⟩
  .generalize B:a.eval x=v at C;cases C with|de _ _ _ h1=>exact⟨dQ hs (by simp[execOp,A,B]) (.de _ _ _ h1) rfl,rfl,rfl,cM _⟩
  .generalize B:a.eval x=v at C;cases C with|fn _ _ _ _ _ h1 h2 h3 h4=>exact⟨dQ hs (by simp[execOp,A,B]) (.fn _ _ _ _ _ h1 h2 h3 h4) rfl,rfl,rfl,cM _⟩
  generalize B:a.eval x=v at C;cases C with
  |sym d _ hd=>
   cases hd with|de _ _ _ h1=>exact⟨dQ hs (by simp[execOp,A,B]) (.sym _ _ (.de _ _ _ h1)) rfl,rfl,rfl,cM _⟩|_=>cases R
 |binOp op ty x y yt=>
  rw[A]at h;simp[n9]at h;split at h;rename_i i u v I S B;simp only[fG,fc]at h;obtain⟨⟨q,d⟩,hb,rfl,rfl,rfl⟩:=h
  let ⟨r,C,F⟩:=Qh (Q.ti _ _ I) hb R (bR hf S) (bR hf B) x y
  refine⟨dQ hs ?_ F rfl,rfl,rfl,cM _⟩;simp at C;simp only[execOp,A,run_bind];rw[C];rfl;cases h
 |unOp op ty x=>
  rw[A]at h;simp[n9]at h;split at h;rename_i i u I S;simp only[fG,fc]at h;obtain⟨⟨q,d⟩,hb,rfl,rfl,rfl⟩:=h
  let ⟨r,C,F⟩:=Ti (P:=E.P) hb R (bR hf S)
  exact⟨dQ hs (by simp[execOp,A,C]) F rfl,rfl,rfl,cM _⟩;cases h
 |convert src dst x=>rw[A]at h;simp[n9]at h;split at h;rename_i i j u I hj S;obtain⟨r,C,F,rfl⟩:=NF (Q.ti _ _ I) (Q.ti _ _ hj) h R (bR hf S);exact⟨dQ hs (by simp[execOp,A,C]) F rfl,rfl,rfl,cM _⟩;cases h
 |makeInterface ty x=>
  rw[A]at h;simp[n9]at h;split at h;rename_i i v I B;have Uu:=Q.ti _ _ I
  let ⟨xi,d,z,MR,S,_⟩:=Uu.all
  split at h;cases h;rename_i hk;simp only[gC,fc]at h;obtain⟨rfl,rfl,rfl⟩:=h;refine⟨dQ hs (v:=.iface ty (a.eval x)) ?_ (.de _ _ _ (bR hf B)) rfl,rfl,rfl,cM _⟩;have hni:∀ms,d≠.interface ms:=λms e=>hk (Uu.nif ms (e▸S));simp only[execOp,A,Instr.makeInterface,run_bind,aN S,andThen_ok];cases d<;>first|rfl|exact absurd rfl (hni _)
  cases h
 |makeFunc f first cap=>rw[A]at h;simp[n9]at h;split at h;rename_i hx hy;obtain⟨rfl,rfl,rfl⟩:=h;have h1:=eO hf hx;have h2:=eO hf hy;refine⟨dQ hs (v:=.func f (first.map a.eval) (cap.map a.eval)) (by simp[execOp,A,Instr.makeFunc]) (.fn _ _ _ _ _ (by simpa using h1.1) (by simpa using h2.1) (λj t v k1 k2=>h1.2 j t v k1 (by simpa using k2)) (λj t v k1 k2=>h2.2 j t v k1 (by simpa using k2))) rfl,rfl,rfl,cM _⟩;cases h
 |extract x k=>rw[A]at h;simp[n9]at h;split at h;rename_i v B;obtain⟨r,C,F,rfl⟩:=FH (P:=E.P) h R (bR hf B);exact⟨dQ hs (by simp[execOp,A,C]) F rfl,rfl,rfl,cM _⟩;cases h
 |fieldAddr ty x k=>rw[A]at h;simp[n9]at h;split at h;rename_i i v I B;obtain⟨r,C,F,rfl⟩:=Bw (Q.ti _ _ I) h (bR hf B);exact⟨dQ hs (by simp[execOp,A,C]) F rfl,rfl,rfl,cM _⟩;cases h
 |field ty x k=>rw[A]at h;simp[n9]at h;split at h;rename_i i v I B;obtain⟨r,C,F,rfl⟩:=Kj (Q.ti _ _ I) h R (bR hf B);exact⟨dQ hs (by simp[execOp,A,C]) F rfl,rfl,rfl,cM _⟩;cases h
 |indexAddr ty x ix=>rw[A]at h;simp[n9]at h;split at h;rename_i i v n I B hn;obtain⟨r,C,F,rfl⟩:=Bo (Q.ti _ _ I) hs h R (bR hf B) (bR hf hn);exact⟨dQ hs (by simp[execOp,A,C]) F rfl,rfl,rfl,cM _⟩;cases h
 |index ty x ix=>rw[A]at h;simp[n9]at h;split at h;rename_i i v n I B hn;obtain⟨r,C,F,rfl⟩:=J9 (Q.ti _ _ I) h R (bR hf B) (bR hf hn);exact⟨dQ hs (by simp[execOp,A,C]) F rfl,rfl,rfl,cM _⟩;cases h
 |slice ty x lo I mx=>
  rw[A]at h;simp[n9]at h;split at h;rename_i i v l hh m h1 h2 h3 h4 h5
  let ⟨g',r,C,K,he,F,hfl,abv⟩:=Jz (Q.ti _ _ h1) hs h R (bR hf h2) (yL hf h3) (yL hf h4) (yL hf h5)
  exact⟨⟨r,w,g',.inl (by simp[execOp,A,C]),K,he,F⟩,hfl,Tv h,by omega⟩;cases h
 |typeAssert x xt ty ok=>rw[A]at h;simp[n9]at h;split at h;rename_i I B;obtain⟨r,C,F,rfl⟩:=HC (xt:=xt) (Q.ti _ _ I) h (bR hf B);exact⟨dQ hs (by simp[execOp,A,C]) F rfl,rfl,rfl,cM _⟩;cases h
 |_=>rw[A]at h;simp[n9]at h
end
section
variable {g g' g'':Gh}{w w' w'':av}{lo fl:Nat}
def aY.grow{s:St}(hs:aY g s w){I:Nat->Prop}(p:∀b,g.bp b->I b)(f:∀b,I b->g.bp b\/w.heap.size<=b)(q:∀b,I b->b<w'.heap.size)(i:w.heap.size<=w'.heap.size)
  (a:∀b,b<w.heap.size->w'.heap[b]?=w.heap[b]?) (r:w'.os=w.os) (m:w'.output=w.output) :
  aY {g with bp:=I} s w'/\Ext fl g w {g with bp:=I} w':=by
 have e:∀k b,bx ({g with bp:=I}:Gh) k b->bx g k b:=λk b h=>⟨λx=>h.1 (p b x),h.2⟩;have t:Ext fl g w {g with bp:=I} w':=
  ⟨λ_ _ h=>h,λ_ _ _ h=>h,p,i,λb n _=>a b n,λk b h=>.inl (e k b h),λb h=>(f b h).imp id .inl,r,m⟩
 refine⟨⟨hs.aF,hs.ai,λk c o=>?_,λk j y z=>?_,q,λk v b h A=>hs.jF k v b (e k b h) (e v b A)⟩,t⟩;have d:=hs.box k c o;refine d.ext t hs.bp (a c d.2.1) rfl λu=>?_;obtain h|h:=f c u
 exact d.1 h;have:=d.2.1;omega;have l:=hs.arr k j y z;refine l.ext t hs.bp (λb n o=>⟨a b (l.1 _ n o),⟨λh=>?_,p b⟩⟩) rfl rfl;obtain h|h:=f b h
 exact h;have:=l.1 _ n o
 grind
end
def lH(P:cP)(f:FuncId):Prop:=∃fn,P.funcs[f]?=Z fn/\fn.body.isSome=W/\(fn.name== "runtime.NumGoroutine")=J
def YW(I:Nat->Prop)(w:av)(d:D):Ending->av->Prop
 |.returned v,w'=>∃a:Nat->Prop,(∀b,I b->a b)/\(∀b,a b->I b\/w.heap.size<=b)/\(∀b,a b->b<w'.heap.size)/\w.heap.size<=w'.heap.size/\
   (∀b,b<w.heap.size->w'.heap[b]?=w.heap[b]?)/\w'.os=w.os/\w'.output=w.output/\dF a w' d v
 |.panicked _,_=>False|.outgrown,_=>False
def akQ(P:cP)(f:FuncId)(c:Ol):Prop:=
 lH P f/\∀(I:Nat->Prop)(w:av)(ds:L D)(vs:Array az),(∀b,I b->b<w.heap.size)->ds.length=vs.size->
  (∀(j:Nat)(d:D)(v:az),ds[j]?=Z d->vs[j]?=Z v->dF I w d v)->c.pre ds->Calls P f vs w (YW I w (c.f ds))
structure Oh(E:Env):Prop extends AI E where
 name:∀f fn,E.Sp f=Z fn->(fn.name== "runtime.NumGoroutine")=J
 Hv:∀f c,E.Hv f=Z c->akQ E.P f c
section
variable {g:Gh}{w:av}
end
section
variable {g:Gh}{w:av}
variable {s s':St}{t:T}{fr:Fr}{a:Act}
def Qp{i:TI}{x y:T}{p:Prop}(h:uv i s x y=Z (p,t,s')):s'.fl=s.fl/\s'.lo=s.lo/\s.aF<=s'.aF:=by
 obtain⟨_,h⟩|⟨_,h⟩:=ah h
 cases h;split at h;split at h;obtain⟨_,_,rfl⟩:=h;exact⟨rfl,rfl,by simp[ee]⟩;split at h;obtain⟨_,_,rfl⟩:=h;exact⟨rfl,rfl,by simp[ee]⟩
 simp_all
 grind
 cases h;cases h
theorem wT{P:cP}{f:FuncId}(h:lH P f)(args:Array az):(callFunc f args).run P w=.ok (.enter f args) w:=by
 let ⟨fn,h1,h2,h3⟩:=h
 have h4:fn.body≠Y:=by
  grind
 simp_all[callFunc]
theorem zJ{P:cP}{o:Oper}{c:Call}(d:o.op=.call c){b:Operand}(e:c.callee=.value b){a:Act}{f:FuncId}{first cap:Array az}(g:a.eval b=.func (.func f) first cap)(h:lH P f) :
  (execOp a.eval o).run P w=.ok (.enter f (first++c.args.map a.eval++cap)) w:=by
 grind[execOp,resolve,Deferred.ofValue,invoke,wT]
def UN(hf:cS g fr a w){dst:O Nat}(f:aho fr dst=W)(hn:fr.n<=bD){v:az}(h:aH g w t v):cS g (fr.kG dst t) (a.put dst v) w:=by
 cases dst with
 |none=>exact hf|some d=>
  have c:d<fr.n:=gH f;refine⟨by simp[Act.put,Fr.kG,Fr.put,hf.size],hf.df,λk i b=>?_⟩;simp[Fr.kG,Fr.put,Fr.get]at b;rw[Tr.aV _ _ _ _ (iE c hn)]at b;by_cases e:k=d;subst e;rw[bO rfl]at b;simp at b;subst b;exact⟨v,by simp[Act.put,hf.size,c],h⟩;rw[cm e]at b
  let ⟨u,j,l⟩:=hf.tm k i b
  grind[Act.put]
structure Aft(s:St)(g:Gh)(w:av)(s':St)(g':Gh)(w':av):Prop where
 rel:aY g' s' w'
 ext:Ext s.fl g w g' w'
 fl:s'.fl=s.fl
 lo:s'.lo=s.lo
 aF:s.aF<=s'.aF
theorem Aft.refl{s:St}(h:aY g s w):Aft s g w s g w:=⟨h,Ext.refl _ _ _,rfl,rfl,cM _⟩
def xX{E:Env}(l:Oh E)(hf:cS g fr a w)(hs:aY g s w){o:Oper}{c:Call}(C:o.op=.call c){b:Builtin}(hb:c.callee=.builtin b){args:L T}
  (d:xQ fr c.args.toList=Z args) {p:Prop} {t:T} (h:fC E s b c.argTypes args=Z (p,t,s')) (z:p) {k:T->St->Prop} (A:k t s')
  {K:Act->av->Prop} {Q:Exit->Act->av->Prop} (B:∀t s' g' v w',k t s'->Aft s g w s' g' w'->aH g' w' t v->K (a.put o.dst v) w') :
  o.wp E.P a w K Q\/(o.asks E.P a w/\LetsOut Q):=by
 have e:=eO hf d;cases b with
 |len=>
  left
  match args,d,e,h with
  |[x],d,e,h=>
   have F:c.args.size=1:=by have:=e.1;grind
   obtain⟨arr,j⟩:∃u,c.args=#[u]:=⟨c.args[0],by
    grind⟩
   have m:aH g w x (a.eval arr):=e.2 0 _ _ rfl (by simp[j]);obtain⟨v,hv,I,rfl⟩:=Ix (rt:=o.type) hs l.ti h z m;unfold Oper.wp;have f:(execOp a.eval o).run E.P w=.ok (.value v) w:=by
    simp_all[execOp,resolve,invoke,builtin]
   rw[f];exact B t s' g v w A (Aft.refl hs) I
  |[],_,_,h=>simp[fC]at h|_::_::_,_,_,h=>simp[fC]at h
 |append=>
  match args,d,e,h with
  |[x,y],d,e,h=>
   have F:c.args.size=2:=by have:=e.1;grind
   obtain⟨u,v,j⟩:∃u v,c.args=#[u,v]:=⟨c.args[0],c.args[1],by
    grind⟩
   have m:aH g w x (a.eval u):=e.2 0 _ _ rfl (by simp[j]);have P:aH g w y (a.eval v):=e.2 1 _ _ rfl (by simp[j]);simp[fC]at h;split at h;rename_i ty R S;split at h;rename_i hi hj;split at h;rename_i n;have De:c.argTypes=#[ty,R]:=by
    grind
   have q:=ya (rt:=o.type) (l.ti _ _ hi) (l.ti _ _ hj) ⟨_,_,_,_,n⟩ hs h z m P
   let ⟨r,w',f,g',h1,h2,h3⟩:=q
   left
   unfold Oper.wp;have i:(execOp a.eval o).run E.P w=.ok (.value r) w':=by
    simp_all[execOp,resolve,invoke,builtin]
   rw[i]
   let ⟨e1,e2,e3⟩:=Qp h
   exact B t s' g' r w' A ⟨h1,h2,e1,e2,e3⟩ h3;iterate 3 cases h
  |[],_,_,h=>simp[fC]at h|[_],_,_,h=>simp[fC]at h|_::_::_::_,_,_,h=>simp[fC]at h
 |_=>simp[fC]at h
end
section
variable {g:Gh}{w:av}
def Xh{E:Env}(j:Oh E){fr:Fr}{s s':St}{a:Act}(hf:cS g fr a w)(hs:aY g s w){o:Oper}{c:Call}(e:o.op=.call c)(k:c.callee=.builtin .len){args:L T}
  (b:xQ fr c.args.toList=Z args) {p:Prop} {t:T} (h:fC E s .len c.argTypes args=Z (p,t,s')) (l:p) :
  s'=s/\∃v,(execOp a.eval o).run E.P w=.ok (.value v) w/\aH g w t v:=by
 have d:=eO hf b
 match args,b,d,h with
 |[x],b,d,h=>
  have m:c.args.size=1:=by have:=d.1;simpa using this.symm
  obtain⟨arr,f⟩:∃u,c.args=#[u]:=⟨c.args[0],by
   apply Array.ext;simp[m];intro i h1 h2;have:i=0:=by omega
   subst this;rfl⟩
  have n:aH g w x (a.eval arr):=d.2 0 _ _ rfl (by simp[f]);obtain⟨v,q,r,rfl⟩:=Ix (rt:=o.type) hs j.ti h l n;exact⟨rfl,v,by simp[execOp,e,resolve,k,invoke,builtin,f,q],r⟩
 |[],_,_,h=>simp[fC]at h|_::_::_,_,_,h=>simp[fC]at h
end
abbrev WR(r:O Nat):Fence:={Fence.wide with round:=r}
section
variable {P:cP}{r:Option Nat}
def fZ{m a:Machine}:StepsIn (Machine.fenced P (WR r)) P m a↔Steps P m a:=stepsIn_wide
variable {n id:Nat}{f:FuncId}{args tmps:Array az}{R:Ending->av->Prop}{next:Act->av->Prop}{Q:Exit->Act->av->Prop}{fn:Func}
def Qd{w:av}:CallsIn (WR r) n P f args w R↔Calls P f args w R:=
 (callsIn_wide (n:=n):CallsIn Fence.wide n P f args w R↔_)
def LS(n:Nat):(WR r).room n:=room_wide n
def ahb{row:String}{w:av}{R:az->av->Prop}(h:Rows P row args w R):RowsIn (WR r) n P row args w R:=
 λc cs _=>let ⟨v,a,b,d⟩:=h c cs;⟨v,a,b,fZ.2 d⟩
def YZ(r:O Nat)(P:cP)(o:Oper)(a:Act)(w:av)(next:Act->av->Prop)(Q:Exit->Act->av->Prop):Prop:=
 o.uponIn (WR r) 0 P a next Q ((o.semAt r a.eval).run P w)\/(o.asks P a w/\(r≠Y->∀c,o.op≠.defer c)/\LetsOut Q)
def YZ.of_wp{o:Oper}{a:Act}{w:av}(e:r≠Y->∀c,o.op≠.defer c)(h:o.wp P a w next Q\/(o.asks P a w/\LetsOut Q)):YZ r P o a w next Q:=by
 obtain h|⟨h1,h2⟩:=h
 .left
  have b:o.semAt r a.eval=execOp a.eval o:=by cases r with|none=>rfl|some l=>grind[Oper.semAt_eq]
  rw[b];unfold Oper.wp at h;generalize(execOp a.eval o).run P w=res at h;cases res with
  |ok x g=>cases x with|enter f args=>exact⟨λh=>by simp[Fence.wide]at h,Qd.2 h⟩|row row args=>exact⟨λh=>by simp[Fence.wide]at h,ahb h⟩|value v=>exact h|skip=>exact h|defer d=>exact h|_=>exact h.elim
  |halt x g=>cases x<;>exact h
 exact .inr ⟨h1,e,h2⟩
theorem YZ.mono{o:Oper}{a:Act}{w:av}{next b:Act->av->Prop}{Q:Exit->Act->av->Prop}(hn:∀a w,next a w->b a w)(h:YZ r P o a w next Q):YZ r P o a w b Q:=by
 obtain h|h:=h
 .left
  generalize(o.semAt r a.eval).run P w=res at h;cases res with
  |ok x j=>cases x with|enter f args=>exact⟨h.1,h.2.mono λe g c=>by cases e<;>first|exact hn _ _ c|exact c⟩|row row args=>exact⟨h.1,h.2.mono λ_ _ c=>hn _ _ c⟩|round l f tmps assign i=>exact⟨h.1,h.2.mono λe g c=>by cases e<;>first|exact hn _ _ c|exact c⟩|value v=>exact hn _ _ h|skip=>exact hn _ _ h|defer d=>exact hn _ _ h|_=>exact h
  |halt x j=>cases x<;>exact h
 exact .inr h
abbrev acH(r:O Nat)(P:cP):=ArrivesIn (Machine.fenced P (WR r)) P
section
variable {b:Frame}{a:Act}{k:List Item}{cs:List Frame}{w:av}{ops:Array Oper}{i:Nat}{rest:List Nat}{o:Oper}
def TZ(n:b.roundOf=r)(z:r≠Y->∀c,o.op≠.defer c)(s:ops[i]?=Z o)(t:Region.wanted o (yielded ops a.tmps)=W)(u:b.kind≠.early)(h:o.asks P a w) :
  Outgrown P (lone (b.atR a (.inRegion ops (i::rest)::k)) cs w):=by
 have m:o.semAt b.roundOf a.eval=execOp a.eval o:=by rw[n];cases r with|none=>rfl|some l=>grind[Oper.semAt_eq]
 have q:=stepGR_op (P:=P) (b:=b) (k:=k) (cs:=cs) (w:=w) (rest:=rest) s t;rw[m]at q;have p:noRoomEvent∈(stepG P W {frame:=b.atR a (.inRegion ops (i::rest)::k),callers:=cs,status:=.running,dying:=Y} w).es:=by
  rw[q];have v:((b.atR a (.inRegion ops (i::rest)::k)).kind==CallKind.early)=J:=by simpa[Frame.atR]using u
  have A:noRoomEvent∈Sem.events P (execOp a.eval o) w #[]:=h.1;simp only[stepG.apply,Sem.runT_eq,yE,v,Bool.false_eq_true,if_false];rw[GStep.es_after];refine Array.mem_append.2 (.inl (seen_keeps P _ _ ?_));have x:=h.2
  grind
 refine Outgrown.now (o:={g:=0,fn:=(b.atR a (.inRegion ops (i::rest)::k)).fn,pos:=(b.atR a (.inRegion ops (i::rest)::k)).place,act:=.mark .noRoom}) ?_ rfl rfl;rw[stepT,move_lone];refine runT_lists P _ 0 {frame:=b.atR a (.inRegion ops (i::rest)::k),callers:=cs,status:=.running,dying:=Y} (by simp[lone]) _ ?_;exact mem_ofEvents (e:=noRoomEvent) (by simpa[lone]using p)
def WW(y:b.roundOf=r)(C:ops[i]?=Z o)(K:Region.wanted o (yielded ops a.tmps)=W)(h:YZ r P o a w next Q) :
  (∃a' w',next a' w'/\Steps P (lone (b.atR a (.inRegion ops (i::rest)::k)) cs w) (lone (b.atR a' (.inRegion ops rest::k)) cs w'))\/
  ∃e a' w',Q e a' w'/\acH r P (lone (b.atR a (.inRegion ops (i::rest)::k)) cs w) b k cs e a' w':=by
 obtain h|⟨h1,h2,s,t,u⟩:=h
 rotate_left;by_cases R:b.kind=.early;exact .inr ⟨.outgrown,s,t,u,.inl R⟩;exact .inr ⟨.outgrown,s,t,u,.inr (TZ y h2 C K R h1)⟩;have S:=stepGR_op (P:=P) (b:=b) (k:=k) (cs:=cs) (w:=w) (rest:=rest) C K;rw[y]at S;have q:∀v,(b.atR a (.inRegion ops (i::rest)::k)).finish v=b.atR (a.put o.dst v) (.inRegion ops rest::k):=λv=>by rw[Frame.finish_atR,C];rfl
 generalize z:(o.semAt r a.eval).run P w=res at h;have enter:∀{fr:Frame}{w1:av},(stepG P W {frame:=b.atR a (.inRegion ops (i::rest)::k),callers:=cs,status:=.running,dying:=Y} w).bare=.go {frame:=fr,callers:=b.atR a (.inRegion ops (i::rest)::k)::cs,status:=.running,dying:=Y} w1->
   step P (lone (b.atR a (.inRegion ops (i::rest)::k)) cs w)=.next (lone fr (b.atR a (.inRegion ops (i::rest)::k)::cs) w1):=λh=>step_lone_go h
 cases res with
 |ok x w1=>cases x with
  |value v=>exact .inl ⟨_,_,h,.one (step_lone_go (by simp_all[stepG.apply]))⟩
  |skip=>exact .inl ⟨_,_,h,.one (step_lone_go (by simp_all[stepG.apply]))⟩
  |defer d=>have A:=Frame.finish_atR b {a with defers:=d::a.defers} ops i rest k undef;rw[C]at A;refine .inl ⟨_,_,h,.one (step_lone_go ?_)⟩;rw[S];simp only[stepG.apply,Sem.runT_eq,z,GStep.bare_after];exact lq (λfr=>GStep.go {frame:=fr,callers:=cs,status:=.running,dying:=Y} w1) A
  |enter f args=>
   obtain⟨e,F,fr,n,c,_,p⟩:=Qd.1 h.2 (b.atR a (.inRegion ops (i::rest)::k)::cs);have h1:=enter (fr:=Frame.enter P f args .normal) (w1:=w1) (by simp_all[stepG.apply,Frame.atR]);cases e with|returned v=>exact .inl ⟨_,_,n,.head h1 (c.trans (.one (by grind[step_leave_returned])))⟩|panicked I=>exact .inr ⟨.panic I,a,F,n,.inRegion ops (i::rest)::k,fZ.2 (.head h1 (c.trans (.one (by rw[<-Frame.raise_atR];exact step_leave_panicked p))))⟩|outgrown=>obtain⟨s,t,u⟩:=n;exact .inr ⟨.outgrown,s,t,u,.inr (Outgrown.of_steps (.one h1) c)⟩
  |row row args=>obtain⟨v,F,n,c⟩:=h.2 (b.atR a (.inRegion ops (i::rest)::k)) cs (LS _);have h1:=enter (fr:=Frame.ofRow P row args .normal) (w1:=w1) (by simp_all[stepG.apply,Frame.atR]);exact .inl ⟨_,_,n,.head h1 (by rw[<-q];exact fZ.1 c)⟩
  |round l f tmps assign B=>
   obtain⟨e,F,n,c⟩:=h.2.2 (b.atR a (.inRegion ops (i::rest)::k)) cs (LS _);have h1:=enter (fr:=Frame.round l f tmps assign B .normal) (w1:=w1) (by simp_all[stepG.apply,Frame.atR]);cases e with|returned v=>exact .inl ⟨_,_,n,.head h1 (by rw[<-q];exact fZ.1 c)⟩|panicked I=>exact .inr ⟨.panic I,a,F,n,.inRegion ops (i::rest)::k,fZ.2 (.head h1 (by rw[<-Frame.raise_atR];exact fZ.1 c))⟩|outgrown=>obtain⟨s,t,u⟩:=n;exact .inr ⟨.outgrown,s,t,u,.inr (Outgrown.of_steps (.one h1) c)⟩
  |_=>exact h.elim
 |halt x w1=>cases x with
  |panic v=>
   refine .inr ⟨_,a,w1,h,.inRegion ops (i::rest)::k,fZ.2 (.one (step_lone_go ?_))⟩
   simp_all[Frame.raise_atR,stepG.apply]
  |_=>exact h.elim
end
def wG(r:O Nat)(P:cP)(ops:Array Oper)(Q:Exit->Act->av->Prop):L Nat->Act->av->Prop
 |[],a,w=>Q .normal a w|i::rest,a,w=>match ops[i]? with
  |none=>wG r P ops Q rest a w|some o=>if Region.wanted o (yielded ops a.tmps)then YZ r P o a w (wG r P ops Q rest) Q else wG r P ops Q rest (a.put o.dst undef) w
def m6{ops:Array Oper}{Q:Exit->Act->av->Prop}:∀(l:L Nat)(a:Act)(w:av),wG r P ops Q l a w->∀(b:Frame)(k:L Item)(cs:L Frame),b.roundOf=r->
  ∃e a' w',Q e a' w'/\acH r P (lone (b.atR a (.inRegion ops l::k)) cs w) b k cs e a' w'
 |[],a,w,h,b,k,cs,_=>⟨.normal,a,w,h,fZ.2 (.one stepR_region_end)⟩|i::rest,a,w,h,b,k,cs,d=>by
  simp only[wG]at h;cases g:ops[i]? with
  |none=>simp only[g]at h;obtain⟨e,a',w',j,c⟩:=m6 rest a w h b k cs d;have f:=stepR_op_skip (P:=P) (b:=b) (a:=a) (k:=k) (cs:=cs) (w:=w) (ops:=ops) (i:=i) (rest:=rest) (by simp[g]);simp only[g,Option.bind_none,Act.put]at f;exact⟨e,a',w',j,.of_steps (fZ.2 (.one f)) c⟩
  |some o=>
   simp only[g]at h;by_cases m:Region.wanted o (yielded ops a.tmps)=W;simp only[m,yE]at h;obtain⟨a1,n,p,f⟩|q:=WW (k:=k) (cs:=cs) (rest:=rest) d g m h
   obtain⟨e,a',w',j,c⟩:=m6 rest a1 n p b k cs d;exact⟨e,a',w',j,.of_steps (fZ.2 f) c⟩;exact q;simp only[m,if_false,Bool.false_eq_true]at h;obtain⟨e,a',w',j,c⟩:=m6 rest _ w h b k cs d;have f:=stepR_op_skip (P:=P) (b:=b) (a:=a) (k:=k) (cs:=cs) (w:=w) (ops:=ops) (i:=i) (rest:=rest) (by simp_all);simp only[g,RB]at f;exact⟨e,a',w',j,.of_steps (fZ.2 (.one f)) c⟩
def V6{ops:Array Oper}{a:Act}{w:av}(h:wG r P ops Q (List.range ops.size) a w):(Code.region id ops J).wpIn (WR r) 0 P Q a w:=
 λb k cs d _ _=>let ⟨e,f,g,i,c⟩:=m6 _ a w h b k cs d;⟨e,f,g,i,.of_steps (fZ.2 (.one stepR_region)) c⟩
def BM(r:O Nat)(P:cP)(ops:Array Oper)(Q:Exit->Act->av->Prop)(i:Nat)(K:Act->av->Prop)(a:Act)(w:av):Prop:=
 match ops[i]? with
 |none=>K a w|some o=>if Region.wanted o (yielded ops a.tmps)then YZ r P o a w K Q else K (a.put o.dst undef) w
theorem BM.mono{ops:Array Oper}{Q:Exit->Act->av->Prop}{i:Nat}{a:Act}{w:av}{K c:Act->av->Prop}(h:∀a w,K a w->c a w)(b:BM r P ops Q i K a w):BM r P ops Q i c a w:=by
 unfold BM at *
 split
 simp_all
 rename_i d;simp only[d]at b;split;rename_i e;simp only[e,yE]at b;exact b.mono h
 simp_all
def acI(r:O Nat)(P:cP)(ops:Array Oper)(Q:Exit->Act->av->Prop):Nat->Array aa->Act->av->Prop
 |0,b,a,w=>Region.ready .any ops b=[]/\Q .normal a w|fuel+1,b,a,w=>(Region.ready .any ops b=[]->Q .normal a w)/\
  ∀i∈Region.ready .any ops b,BM r P ops Q i (acI r P ops Q fuel (b.setIfInBounds i W)) a w
def T0{ops:Array Oper}(i:Nat)(rest:L Nat)(a:Act)(w:av):wG r P ops Q (i::rest) a w=BM r P ops Q i (wG r P ops Q rest) a w:=by cases h:ops[i]?<;>simp[wG,BM,h]
def Gt{ops:Array Oper}{Q:Exit->Act->av->Prop}:∀(fuel t:Nat)(b:Array aa)(a:Act)(w:av),acI r P ops Q fuel b a w->wG r P ops Q (Region.linearise.go .any ops fuel t b []) a w
 |0,t,b,a,w,h=>by simpa[Region.linearise.go,wG]using h.2
 |fuel+1,t,b,a,w,h=>by
  obtain⟨e,f⟩:=h;simp only[Region.linearise.go];change wG r P ops Q (match(Region.ready .any ops b)[t%(Region.ready .any ops b).length]? with
   |some i=>Region.linearise.go .any ops fuel (t/(Region.ready .any ops b).length) (b.setIfInBounds i W) [i]|none=>[].reverse) a w
  generalize Region.ready .any ops b=l at *
  cases l with|nil=>simpa[wG]using e rfl|cons x d=>have c:t%(x::d).length<(x::d).length:=Nat.mod_lt _ (by simp);rw[iu c];dsimp only;rw[linearise_go_acc,List.reverse_singleton,OU,T0];exact(f _ (JM c)).mono λa w=>Gt fuel _ _ a w
def LV{ops:Array Oper}{a:Act}{w:av}(f:P.follows .mixedOrders=W)
  (h:acI r P ops Q ops.size (Array.replicate ops.size J) a {w with drawn:=w.drawn+1}):(Code.region id ops W).wpIn (WR r) 0 P Q a w:=by
 intro b k cs d _ _;have h2:∀t,wG r P ops Q (Region.schedule (P.follows .mixedOrders) ops t) a {w with drawn:=w.drawn+1}:=λt=>by simp only[Region.schedule,f,Bool.true_or,yE];exact Gt ops.size t _ a _ h
 obtain⟨e,g,i,j,c⟩:=m6 _ a _ (h2 _) b k cs d;exact⟨e,g,i,j,.of_steps (fZ.2 (.one stepR_region_draw)) c⟩
def ac2:Exit->O (O Code)
 |.normal=>Z Y|.ret=>Z (Z .ret)|.exit i=>Z (Z (.exit i))|_=>Y
def V4(P:cP)(l:Nat)(R:Ending->av->Prop)(e:Exit)(_:Act)(w:av):Prop:=
 (e=.outgrown/\R .outgrown w)\/∃j,ac2 e=Z j/\∃v w',(Instr.endRound l j).run P w=.ok v w'/\R (.returned v) w'
def ad2{l:Nat}{assign d:Code}{w:av}
  (h:assign.wpIn (WR (Z l)) 0 P (Exit.then (λt z=>∃u,(Instr.beginRound l).run P z=.ok () u/\d.wpIn (WR (Z l)) 0 P (V4 P l R) t u) (λe _ w=>e=.outgrown/\R .outgrown w)) {tmps:=tmps,defers:=[]} w) {n:Nat} :
  RoundIn (WR r) n P l f tmps assign d w R:=by
 refine⟨trivial,λc cs _=>?_⟩
 let b:Frame:={(default:Frame)with fn:=f,kind:=.normal,roundOf:=Z l}
 have A:Frame.round l f tmps assign d .normal=b.atR {tmps:=tmps,defers:=[]} [.code assign,.beginRound,.code d]:=by rfl
 obtain⟨e,t,z,F,g⟩:=h b [.beginRound,.code d] (c::cs) rfl trivial (LS _);rw[<-A]at g;have out:∀{e:Exit}{a:Act}{m:av},(e=.outgrown/\R .outgrown m)->acH (Z l) P (lone (Frame.round l f tmps assign d .normal) (c::cs) w) b [.beginRound,.code d] (c::cs) e a m->
   ∃e m,R e m/\ComesIn (Machine.fenced P (WR r)) P (lone (Frame.round l f tmps assign d .normal) (c::cs) w) (match e with|.returned v=>lone (c.finish v) cs m|.panicked chain=>lone (c.raise chain) cs m|.outgrown=>lone c cs m) e:=by
  rintro e a m ⟨rfl,s⟩ g
  exact⟨.outgrown,m,s,g.resolve_left (by simp[b])⟩
 cases e with
 |normal=>
  obtain⟨u,B,o⟩:=F;have x:Steps P (lone (b.atR t [.beginRound,.code d]) (c::cs) z) (lone (b.atR t [.code d]) (c::cs) u):=.one (stepR_beginRound rfl B);obtain⟨I,a₂,K,p,i⟩:=o b [] (c::cs) rfl trivial (LS _);obtain⟨rfl,p⟩|⟨j,y,v,C,k,s⟩:=p
  exact⟨.outgrown,K,p,Outgrown.of_steps ((fZ.1 g).trans x) (i.resolve_left (by simp[b]))⟩;cases I with
  |normal=>cases y;exact⟨.returned v,C,s,fZ.2 ((fZ.1 g).trans (x.trans ((fZ.1 i).trans (.one (stepR_round_end rfl rfl k)))))⟩
  |ret=>cases y;obtain⟨Q,E⟩:=i.2 rfl;exact⟨.returned v,C,s,fZ.2 ((fZ.1 g).trans (x.trans ((fZ.1 E).trans (.one (stepR_round_ret rfl rfl k)))))⟩
  |exit id=>cases y;obtain⟨Q,S,E⟩:=i.2 rfl rfl;exact⟨.returned v,C,s,fZ.2 ((fZ.1 g).trans (x.trans ((fZ.1 E).trans (.one (stepR_round_exit rfl rfl S k)))))⟩
  |_=>cases y
 |_=>exact out F g
def mF(P:cP)(fn:Func)(tmps:Array az)(R:Ending->av->Prop):L Deferred->FrameMode->av->Prop
 |[],.returning,w=>∃v,(results fn tmps).run P w=.ok v w/\R (.returned v) w|[],.panicking chain,w=>R (.panicked chain) w|[],.run,_=>False|d::ds,u,w=>u≠.run/\((∃b a,d.target=.collected b/\(Instr.takeDeferred b).run P w=.ok [] a/\mF P fn tmps R ds u a)\/
   ∃e cap f args,d.target=.fn e cap/\(invoke d.target d.args).run P w=.ok (.enter f args) w/\CallsD P f args u w λ
    |.returned _,c,a=>mF P fn tmps R ds (settle c) a|.panicked chain,c,a=>mF P fn tmps R ds (raised c chain) a|.outgrown,_,a=>R .outgrown a)
def rR:∀(ds:L Deferred)(u:FrameMode)(w:av)(fr:Frame)(cs:L Frame),fr.mode=u->fr.defers=ds->fr.tmps=tmps->P.funcs[fr.fn]?=Z fn->fr.kind=.normal->mF P fn tmps R ds u w->
  ∃e w' fr',R e w'/\Comes P (lone fr cs w) (lone fr' cs w') e/\fr'.fn=fr.fn/\fr'.leaving P w' e:=by
 intro ds
 induction ds with
 |nil=>
  intro u w fr cs l x y t z h;cases u with
  |run=>exact h.elim|returning=>obtain⟨v,Q,m⟩:=h;exact⟨.returned v,w,fr,m,Steps.refl P _,rfl,l,x,z,fn,t,y▸Q⟩
  |panicking chain=>exact⟨.panicked chain,w,fr,h,Steps.refl P _,rfl,l,x,fn,t⟩
 |cons d ds F=>
  intro u w fr cs l x y t z h;obtain⟨j,h⟩:=h;obtain⟨b,w',g,n,o⟩|⟨fv,cap,f,args,g,A,p⟩:=h
  have h1:=step_collected (cs:=cs) (l▸j) x g n;obtain⟨B,C,fr',m,S,I,hl⟩:=F u w' {fr with defers:=[]++ds} cs l rfl y t z o;exact⟨B,C,fr',m,Comes.of_steps (.one h1) S,I,hl⟩;have h1:=step_defer (cs:=cs) (l▸j) x g A;obtain⟨e,k,w',frX,m,a,K,E⟩:=p {fr with defers:=ds} cs l;cases e with
  |returned v=>have h2:=step_going_returned (c:={{fr with defers:=ds}with mode:=k}) (cs:=cs) K E;obtain⟨B,C,fr',q,r,i,s⟩:=F (settle k) w' {{{fr with defers:=ds}with mode:=k}with mode:=settle k} cs rfl rfl y t z m;exact⟨B,C,fr',q,Comes.of_steps (.head h1 (Steps.trans a (.one h2))) r,i,s⟩
  |panicked chain=>have h2:=step_going_panicked (c:={{fr with defers:=ds}with mode:=k}) (cs:=cs) E;obtain⟨B,C,fr',q,r,i,s⟩:=F (raised k chain) w' {{{fr with defers:=ds}with mode:=k}with mode:=raised k chain} cs rfl rfl y t z m;exact⟨B,C,fr',q,Comes.of_steps (.head h1 (Steps.trans a (.one h2))) r,i,s⟩
  |outgrown=>exact⟨.outgrown,w',fr,m,Outgrown.of_steps (.one h1) a,rfl,trivial⟩
def adm(P:cP)(fn:Func)(R:Ending->av->Prop):Exit->Act->av->Prop
 |.normal,a,w|.ret,a,w=>mF P fn a.tmps R a.defers .returning w|.panic chain,a,w=>mF P fn a.tmps R a.defers (.panicking chain) w|.outgrown,_,w=>R .outgrown w|_,_,_=>False
def r6{c:Code}{w:av}(hf:P.funcs[f]?=Z fn)(v:fn.body=Z c)
  (h:c.wpIn (WR Y) 0 P (adm P fn R) {tmps:=args++Array.replicate (fn.ntmps-args.size) undef,defers:=[]} w):Calls P f args w R:=by
 intro cs
 let b:Frame:={(default:Frame)with fn:=f,kind:=.normal}
 have j:Frame.enter P f args .normal=b.at {tmps:=args++Array.replicate (fn.ntmps-args.size) undef,defers:=[]} [.code c]:=by simp[Frame.enter,Frame.at,hf,v,b]
 obtain⟨e,n,u,o,a⟩:=wpIn_wide.1 h b [] cs;rw[<-j]at a;cases e with
 |normal=>obtain⟨p,q,d,r,s,g,t⟩:=rR n.defers .returning u {b.at n []with mode:=.returning} cs rfl rfl rfl hf rfl o;exact⟨p,q,d,r,Comes.of_steps (Steps.trans a (.one step_end)) s,g,t⟩
 |ret=>obtain⟨i,m⟩:=a;obtain⟨p,q,d,r,s,g,t⟩:=rR n.defers .returning u {b.at n i with mode:=.returning} cs rfl rfl rfl hf rfl o;exact⟨p,q,d,r,Comes.of_steps m s,g,t⟩
 |panic chain=>obtain⟨i,m⟩:=a;obtain⟨p,q,d,r,s,g,t⟩:=rR n.defers (.panicking chain) u {b.at n i with mode:=.panicking chain} cs rfl rfl rfl hf rfl o;exact⟨p,q,d,r,Comes.of_steps m s,g,t⟩
 |exit id=>exact o.elim|goto l=>exact o.elim|outgrown=>exact⟨.outgrown,u,b,o,a.resolve_left (by simp[b]),rfl,trivial⟩
end
section
variable {g:Gh}{w:av}
variable {s:St}{E:Env}{fr:Fr}{a:Act}
def Pc{i:TI}{x:T}{vx:az}{r:Prop×T×St}(h:loadT i s x=Z r)(a:aH g w x vx):∃ad,vx=.pointer (Z ad):=by cases a with|ptr o off b c=>grind|lD=>grind|lC=>grind|_=>simp[loadT]at h
def aaq(tmps:Array az):ResultVar->Sem az
 |.tmp t=>pure (tmps.getD t undef)|.cell a t=>do loadVar t (<-asAddr (tmps.getD a undef))
def pZ{E:Env}(c:AI E){fr:Fr}{s:St}{a:Act}(hf:cS g fr a w)(hs:aY g s w):∀{l:L ResultVar}{p:Prop}{ts:L T},mg E s fr l=Z (p,ts)->p->
  ∃vs,(l.mapM (aaq a.tmps)).run E.P w=.ok vs w/\PW (aH g w) ts vs
 |[],p,ts,h,b=>by obtain⟨_,rfl⟩:=h;exact⟨[],rfl,rfl,λj t v h=>by simp at h⟩
 |.tmp t::l,p,ts,h,b=>by
  simp[mg]at h;split at h;rename_i x q r d e;obtain⟨rfl,rfl⟩:=h
  let ⟨vs,h1,h2⟩:=pZ c hf hs e b
  let ⟨v,y,f⟩:=hf.tm t x d
  refine⟨v::vs,?_,by simp[h2.1],λj i k m n=>?_⟩
  simp_all[aaq]
  .cases j with|zero=>simp_all|succ j=>exact h2.2 j i k (by simpa using m) (by simpa using n)
  cases h
 |.cell z t::l,p,ts,h,b=>by
  simp[mg]at h;split at h;rename_i x A d;split at h;rename_i o e;obtain⟨rfl,rfl⟩:=h
  let ⟨vs,h1,h2⟩:=pZ c hf hs e b.2
  let ⟨v,y,f⟩:=hf.tm z x d
  let ⟨u,I,B,_⟩:=Cy (c.ti _ _ A) hs f o b.1
  obtain⟨C,rfl⟩:=Pc o f;have F:(loadVar t C).run E.P w=.ok u w:=by grind[Instr.loadAt,Instr.sureAddr]
  refine⟨u::vs,?_,by simp[h2.1],λj i k m n=>?_⟩
  simp_all[aaq,asAddr]
  .cases j with|zero=>simp_all|succ j=>exact h2.2 j i k (by simpa using m) (by simpa using n)
  cases h;cases h
def LN(c:AI E)(hf:cS g fr a w)(hs:aY g s w){fn:Func}{p:Prop}{ts:L T}(h:mg E s fr fn.results.toList=Z (p,ts))(d:p) :
  ∃v,(results fn a.tmps).run E.P w=.ok v w/\aH g w (adV ts) v:=by
 let ⟨b,h1,h2⟩:=pZ c hf hs h d
 refine⟨if h:b.toArray.size=1 then b.toArray[0]else .tuple b.toArray,?_,?_⟩;have e:results fn a.tmps=(do
   let b <-fn.results.mapM (aaq a.tmps)
   pure (if h:b.size=1 then b[0]else .tuple b)):=by
  rfl
 simp_all[Array.mapM_eq_mapM_toList]
 match ts,b,h2 with
 |[],[],_=>exact .gG _ _ rfl (λj t v h=>by simp at h)
 |[t],[v],h2=>exact h2.2 0 t v rfl rfl|t::f::ts,v::i::b,h2=>simp only[adV,RE,qP];exact .gG _ _ (by simpa using h2.1) (λj t v h3 h4=>h2.2 j t v h3 (by simpa using h4))
 |[],_::_,h2=>exact absurd h2.1 (by simp)
 |_::_,[],h2=>exact absurd h2.1 (by simp)
 |[_],_::_::_,h2=>exact absurd h2.1 (by simp)
 |_::_::_,[_],h2=>exact absurd h2.1 (by simp)
def Ft:∀(l:L T)(k:Nat)(t:Tr T),k+l.length<=bD->∀j,(Bm l k t).get j=if k<=j/\j<k+l.length then l[j-k]? else t.get j
 |[],k,t,_,j=>by
  have:¬(k<=j/\j<k+([]:L T).length):=by simp
  rw[cm this];rfl
 |a::l,k,t,h,j=>by
  simp at h;simp only[Bm];rw[Ft l (k+1) _ (by omega),Tr.aV _ _ _ _ (by omega)]
  grind
end
section
inductive Ty where
 |int (k:IntKind)|bool|str|sl (e:Ty)|st (n:Nat)|de (n:Nat)|opt (n:Nat)|mp (k v:Ty)
 deriving Inhabited
def rH:Ty->Ty->aa
 |.int j,.int k=>oe j k|.bool,.bool=>W|.str,.str=>W|.sl a,.sl b=>rH a b|.st m,.st n=>Nq m n|.de m,.de n=>Nq m n|.opt m,.opt n=>Nq m n|.mp a b,.mp c d=>rH a c&&rH b d|_,_=>J
theorem jy{a:Ty}:∀{b:Ty},rH a b=W->a=b:=by
 induction a with
 |int j=>
  intro b h;cases b with
  |int k=>
   have:j=k:=by cases j<;>cases k<;>first|rfl|cases h
   rw[this]
  |_=>cases h
 |bool=>intro b h;cases b<;>first|rfl|cases h
 |str=>intro b h;cases b<;>first|rfl|cases h
 |sl e g=>
  intro b h;cases b with|sl f=>rw[g h]|_=>cases h
 |st m=>
  intro b h;cases b with|st n=>rw[uZ h]|_=>cases h
 |de m=>
  intro b h;cases b with|de n=>rw[uZ h]|_=>cases h
 |opt m=>
  intro b h;cases b with|opt n=>rw[uZ h]|_=>cases h
 |mp k v g i=>
  intro b h;cases b with|mp c d=>have h:=yH.1 h;rw[g h.1,i h.2]|_=>cases h
@[reducible] def den(A:Nat->Type):Ty->Type
 |.int _=>Int|.bool=>aa|.str=>L UInt8|.sl e=>L (den A e)|.st n=>A n|.de n=>A n|.opt n=>O (A n)|.mp k v=>L (den A k×den A v)
@[reducible] def lB(A:Nat->Type):L Ty->Type
 |[]=>U|t::l=>den A t×lB A l
@[reducible] def xz(A:Nat->Type):L (TypeId×Ty)->Type
 |[]=>U|p::l=>Sum (den A p.2) (xz A l)
def mR:L (TypeId×Ty)->Nat->Ty
 |[],_=>.bool|p::_,0=>p.2|_::l,i+1=>mR l i
def wE:L (TypeId×Ty)->TypeId->O Nat
 |[],_=>Y|p::l,t=>bif Nq p.1 t then Z 0 else match wE l t with
  |some i=>Z (Ns i)|none=>Y
def Xw{A:Nat->Type}:(l:L (TypeId×Ty))->(i:Nat)->den A (mR l i)->xz A l
 |[],_,_=>()|_::_,0,x=>.inl x|_::l,i+1,x=>.inr (Xw l i x)
def W1{A:Nat->Type}:(l:L (TypeId×Ty))->xz A l
 |[]=>()|_::l=>.inr (W1 l)
def isNil{A:Nat->Type}:(l:L (TypeId×Ty))->xz A l->aa
 |[],_=>W|_::_,.inl _=>J|_::l,.inr y=>isNil l y
def lW{A:Nat->Type}:(l:L (TypeId×Ty))->Nat->xz A l->aa
 |[],_,_=>J|_::_,0,.inl _=>W|_::_,0,.inr _=>J|_::_,_+1,.inl _=>J|_::l,i+1,.inr y=>lW l i y
def jV{A:Nat->Type}(z:(t:Ty)->den A t):(l:L (TypeId×Ty))->(i:Nat)->xz A l->den A (mR l i)
 |[],_,_=>z .bool|_::_,0,.inl x=>x|p::_,0,.inr _=>z p.2|_::l,i+1,.inl _=>z (mR l i)|_::l,i+1,.inr y=>jV z l i y
structure Sg where
 A:Nat->Type
 fs:Nat->List Ty
 dfl:(n:Nat)->A n
 get:(n:Nat)->A n->lB A (fs n)
 DC:(n:Nat)->lB A (fs n)->A n
 cells:(n:Nat)->A n->List D
 alts:Nat->List (TypeId×Ty)
 tZ:(n:Nat)->A n->xz A (alts n)
 imk:(n:Nat)->xz A (alts n)->A n
 qX:(n:Nat)->A n->Option (TypeId×D)
 pt:Ty
variable {S:Sg}
def Sg.zero(S:Sg):(t:Ty)->den S.A t
 |.int _=>(0:Int)|.bool=>J|.str=>([]:L UInt8)|.sl _=>[]|.st n=>S.dfl n|.de n=>S.imk n (W1 (S.alts n))|.opt _=>Y|.mp _ _=>[]
def cR(s:L UInt8):ByteArray:=⟨s.toArray⟩
def ofBytes(b:ByteArray):L UInt8:=b.data.toList
def Oo:O (TypeId×D)->D
 |none=>.lit .nilIface|some p=>.de p.1 p.2
def ptD:O D->D
 |none=>.lit (.pointer Y)|some d=>.pt d
def enc(S:Sg):(t:Ty)->den S.A t->D
 |.int k,n=>.lit (.int k n)|.bool,b=>.lit (.bool b)|.str,s=>.lit (.string (cR s))|.sl e,l=>.sl (l.map (enc S e))|.st n,x=>.agg (S.cells n x)|.de n,x=>Oo (S.qX n x)|.opt n,x=>ptD (x.map λy=>.agg (S.cells n y))|.mp k v,l=>.mp (l.map λp=>enc S k p.1) (l.map λp=>enc S v p.2)
def eS(S:Sg):(ts:L Ty)->lB S.A ts->L D
 |[],_=>[]|t::l,x=>enc S t x.1::eS S l x.2
def ke:Ty->aa|.st _=>W|_=>J
def Sg.width(S:Sg):Ty->Nat|.st n=>cC (S.fs n)|_=>1
inductive V(S:Sg) where
 |ty (t:Ty) (x:den S.A t)|kb (b:aa)|kn (k:IntKind) (n:Int)|dat (d:D)|ptr (o off:Nat)|lD (t:Ty) (x:den S.A t) (off:Nat)|lC (o e i off:Nat)|sh (o e:Nat)|emp|j4 (n:Nat) (t:Ty) (l:List (den S.A t))|fn (f:Fn) (first cap:List (V S))
 |de (t:TypeId) (v:V S)|agg (cs:List (V S))|gG (vs:List (V S))|gd (c:aa) (v:V S)|mp (o:Nat)|qN (o:Nat)|tD (o:Nat)|ub (e:aa)|rQ (o m r i:Nat)|o6 (n j:Nat) (x:S.A n)
inductive so(S:Sg) where
 |call (f:V S) (args:List (V S))|mark (o:Nat)|marks (o:Nat)|jZ|bad
structure bV(S:Sg) where
 n:Nat
 tm:Tr (V S)
 df:List (so S):=[]
structure LpV(S:Sg) where
 st:LoopState
 u0:Option Code
 fid:FuncId
 fr:bV S
 params:List Nat
 assign:Code
 body:Code
inductive uz(S:Sg) where
 |box (cs:List (V S))|arr (t:Ty) (l:List (den S.A t)) (era:Nat)|kM (t:Ty) (l:List (den S.A t)) (era:Nat)|map (kt vt:Ty) (l:List (den S.A kt×den S.A vt))|GY (kt:Ty) (l:List (den S.A kt×V S))|qO (b:List UInt8) (pos:Nat)|lp (l:LpV S)|zm|kT (n j:Nat) (l:List (S.A n)) (era m gR:Nat) (hole:Option Nat)|rws (t:Ty) (iG:List (List (den S.A t))) (gR:Nat)|gone|E5
structure bf(S:Sg) where
 ob:Tr (uz S)
 aF:Nat
 fl:Nat
 lo:Nat
 wr:List Nat
 dr:List Nat
def bV.get(fr:bV S)(k:Nat):O (V S):=fr.tm.get k
def bV.put(fr:bV S)(k:Nat)(v:V S):bV S:={fr with tm:=fr.tm.set aO k v}
def bV.kG(fr:bV S)(k:O Nat)(v:V S):bV S:=match k with|some k=>fr.put k v|none=>fr
def zY:(ts:L Ty)->lB S.A ts->L (V S)
 |[],_=>[]|t::l,x=>.ty t x.1::zY l x.2
def vK:(t:Ty)->den S.A t->L (V S)
 |.st n,x=>zY (S.fs n) (S.get n x)|.int k,x=>[.ty (.int k) x]|.bool,x=>[.ty .bool x]|.str,x=>[.ty .str x]|.sl e,x=>[.ty (.sl e) x]|.de n,x=>[.ty (.de n) x]|.opt n,x=>[.ty (.opt n) x]|.mp k v,x=>[.ty (.mp k v) x]
def um:az->O (V S)
 |.bool b=>Z (.kb b)|.int k n=>Z (.kn k n)|.slice Y 0 0=>Z .emp|.func f a b=>match a.toList,b.toList with
  |[],[]=>Z (.fn f [] [])|_,_=>Y
 |.iface t v=>(Cu v).map λd=>.dat (.de t d)|.string b=>Z (.ty .str (ofBytes b))|v=>(Cu v).map .dat
def zeroV:D->V S
 |.lit (.bool b)=>.kb b|.lit (.int k n)=>.kn k n|.lit (.string b)=>.ty .str (ofBytes b)|.sl []=>.emp|d=>.dat d
def Xj:V S->aa
 |.ty t _=>!(ke t)|.dat d=>d.leaf|.agg _|.gG _|.gd _ _=>J|_=>W
def Bi:L (V S)->aa
 |[]=>W|v::l=>Xj v&&Bi l
def v9(i:TI):V S->O (L (V S))
 |.agg a=>bif i.agg&&Nq (cC a) i.size then Z a else Y|.ty (.st n) x=>bif i.agg&&Nq (cC (S.fs n)) i.size then Z (zY (S.fs n) (S.get n x))else Y|.dat d=>bif i.agg then Y else bif Nq i.size 1&&d.leaf then Z [.dat d]else Y|.gG _|.gd _ _=>Y|v=>bif i.agg then Y else bif Nq i.size 1 then Z [v]else Y
def Cp(agg:aa)(cs:L (V S)):O (V S):=
 bif agg then Z (.agg cs)else match cs with
  |[x]=>Z x|_=>Y
def cx(fr:bV S):Operand->O (V S)
 |.tmp k=>fr.get k|.const v=>um v|.global _=>Y|.func f=>Z (.fn (.func f) [] [])
def jN(fr:bV S):L Operand->O (L (V S))
 |[]=>Z []|x::l=>match cx fr x,jN fr l with
  |some t,Z r=>Z (t::r)|_,_=>Y
def l6(k:IntKind):V S->O Int
 |.kn j n=>bif oe j k then Z n else Y|.ty (.int j) x=>bif oe j k then Z x else Y|_=>Y
def rB:V S->O aa
 |.kb b=>Z b|.ty .bool x=>Z x|_=>Y
def vn:V S->O (L UInt8)
 |.ty .str x=>Z x|_=>Y
def wg(t u:Ty)(x:den S.A t):O (den S.A u):=
 if h:rH t u=W then Z (jy h▸x)else Y
def nZ(t u:Ty)(x:L (den S.A t)):O (L (den S.A u)):=
 if h:rH t u=W then Z (jy h▸x)else Y
def u7:(ts:L Ty)->lB S.A ts->Nat->(t:Ty)->den S.A t->lB S.A ts
 |[],h,_,_,_=>h| τ::_,h,0,t,y=>(match wg t τ y with|some z=>z|none=>h.1,h.2)
 |_::ts,h,j+1,t,y=>(h.1,u7 ts h.2 j t y)
def dN:(ts:L Ty)->lB S.A ts->Nat->(t:Ty)->den S.A t
 |[],_,_,t=>S.zero t| τ::_,h,0,t=>match wg τ t h.1 with|some z=>z|none=>S.zero t
 |_::ts,h,j+1,t=>dN ts h.2 j t
def Tw(n j:Nat)(t:Ty)(x:S.A n)(y:L (den S.A t)):S.A n:=S.DC n (u7 (S.fs n) (S.get n x) j (.sl t) y)
def Hu(n j:Nat)(t:Ty)(x:S.A n):L (den S.A t):=dN (S.fs n) (S.get n x) j (.sl t)
def y4(n j:Nat)(t:Ty)(l:L (S.A n)):L (L (den S.A t)):=l.map (Hu n j t)
def kC(n j:Nat)(t:Ty)(l:L (S.A n))(iG:L (L (den S.A t))):L (S.A n):=List.zipWith (Tw n j t) l iG
def Dh(S:Sg)(n j:Nat)(t:Ty):aa:=match nth (S.fs n) j with|some u=>rH u (.sl t)|none=>J
def LM(s:bf S)(m r:Nat):O ((t:Ty)×L (L (den S.A t))):=match s.ob.get m with
 |some (.rws t a b)=>bif Nq r b then Z ⟨t,a⟩else Y|_=>Y
def JA(s:bf S)(e:Ty):V S->O (L (den S.A e))
 |.emp=>Z []|.j4 _ t l=>nZ t e l|.o6 n _ x=>nZ (.st n) e [x]|.ty (.sl t) x=>nZ t e x|.sh o r=>match s.ob.get o with
  |some (.arr t l era)|some (.kM t l era)=>bif Nq r era then nZ t e l else Y|_=>Y
 |_=>Y
mutual
def bT(s:bf S):(t:Ty)->V S->O (den S.A t×L Nat)
 |t,.ty u x=>match wg u t x with
  |some y=>Z (y,[])|none=>Y
 |.bool,.kb b=>Z (b,[])|.int k,.kn j n=>bif oe j k then Z (n,[])else Y|.sl _,.emp=>Z ([],[])|.sl e,.j4 _ t l=>match nZ t e l with
  |some l=>Z (l,[])|none=>Y
 |.sl e,.o6 n _ x=>match nZ (.st n) e [x]with
  |some l=>Z (l,[])|none=>Y
 |.sl e,.sh o r=>match s.ob.get o with
  |some (.arr t l era)=>bif Nq r era then match nZ t e l with|some l=>Z (l,[o])|none=>Y else Y
  |some (.kM t l era)=>bif Nq r era then match nZ t e l with|some l=>Z (l,[])|none=>Y else Y
  |some (.kT n j l era m c Y)=>match LM s m c with
   |some ⟨t,a⟩=>bif Nq r era&&(Nt m bD&&Dh S n j t)then match nZ (.st n) e (kC n j t l a)with|some l=>Z (l,[o,m])|none=>Y else Y
   |none=>Y
  |_=>Y
 |.st n,.agg d=>match nG s (S.fs n) d with
  |some (h,os)=>Z (S.DC n h,os)|none=>Y
 |.de n,.de t v=>match wE (S.alts n) t with
  |some i=>match bT s (mR (S.alts n) i) v with
   |some (y,os)=>Z (S.imk n (Xw (S.alts n) i y),os)|none=>Y
  |none=>Y
 |.de n,.dat (.lit .nilIface)=>Z (S.imk n (W1 (S.alts n)),[])|.opt _,.dat (.lit (.pointer Y))=>Z (Y,[])|_,_=>Y
def nG(s:bf S):(ts:L Ty)->L (V S)->O (lB S.A ts×L Nat)
 |[],[]=>Z ((),[])|t::ts,v::l=>match bT s t v,nG s ts l with
  |some (x,os),Z (h,a)=>Z ((x,h),os++a)|_,_=>Y
 |_,_=>Y
end
def dS(s:bf S):L Nat->O (bf S)
 |[]=>Z s|o::l=>
  bif Nl s.fl o then match s.ob.get o with
   |some (.arr t a era)=>dS {s with ob:=s.ob.set aO o (.kM t a era),wr:=o::s.wr} l
   |some (.kM _ _ _)=>dS s l|some (.kT n j a era m r Y)=>match LM s m r with
    |some ⟨t,b⟩=>bif l.contains m&&(Nl s.fl m&&(Nt m bD&&Dh S n j t))then dS {s with ob:=(s.ob.set aO m .gone).set aO o (.kM (.st n) (kC n j t a b) era),wr:=o::m::s.wr} l else Y
    |none=>Y
   |some (.rws ..)=>dS s l|some .gone=>dS s l|_=>Y
  else Y
def dh(s:bf S)(o:uz S):bf S:={s with ob:=s.ob.set aO s.aF o,aF:=Ns s.aF}
def ga(a b:L UInt8):aa:=a==b
def dD{α:Type}(l:L α)(lo hi:Int):L α:=(l.take hi.toNat).drop lo.toNat
def aq{α:Type}(l:L α):Int:=l.length
def l5(b:L UInt8)(n:Int):Int:=(b.getD n.toNat 0).toNat
def di{α:Type}(a b:L α):L α:=a++b
def aL{α:Type}(n:Int)(l:L α):aa:=decide (0<=n)&&decide (n<l.length)
def eo{α:Type}(k:Nat)(l:L α):aa:=decide (k<l.length)
def fX(lo hi len:Int):aa:=decide (0<=lo)&&(decide (lo<=hi)&&decide (hi<=len))
def abT(a b:L UInt8):aa:=decide (a.length+b.length<=4611686018427387904)
def dJ{α:Type}(a b:L α):aa:=decide (a.length+b.length<=17179869184)
def nzI(a:Int):aa:=decide (a≠0)
def aX{α:Type}(l:L α)(k:Nat)(z:α):α:=l.getD k z
def oO{α:Type}(l:L α)(k:Nat)(x:α):L α:=l.set k x
def aa2{α β:Type}(l:L α)(m:L β):aa:=decide (l.length=m.length)
def XI{α:Type}(k:Nat)(l:L α)(h i:Nat):aa:=decide (k<l.length)&&(Nq k h&&Nq i h)
def iW(a b:Int):aa:=decide (a=b)
def au(n:Int):Nat:=n.toNat
abbrev nr(S:Sg):=O (aa×V S×bf S)
def DL:Lk->V S->V S->O aa
 |.int k,a,b=>match l6 k a,l6 k b with
  |some x,Z y=>Z (af x y)|_,_=>Y
 |.bool,a,b=>match rB a,rB b with
  |some x,Z y=>Z (j3 x y)|_,_=>Y
 |.str,a,b=>match vn a,vn b with
  |some x,Z y=>Z (ga x y)|_,_=>Y
 |.no,_,_=>Y
def kg:L Lk->L (V S)->L (V S)->O aa
 |[],[],[]=>Z W|k::c,a::as,b::d=>match DL k a b,kg c as d with
  |some x,Z y=>Z (bQ x y)|_,_=>Y
 |_,_,_=>Y
def X8:V S->V S->O aa
 |.dat (.lit (.pointer Y)),.ptr _ _=>Z J|.ptr _ _,.dat (.lit (.pointer Y))=>Z J|_,_=>Y
def X9:V S->V S->O aa
 |.dat (.lit .nilIface),.de _ _=>Z J|.de _ _,.dat (.lit .nilIface)=>Z J|_,_=>Y
def afq(i:TI)(a b:V S):O aa:=
 bif i.agg then match i.lks,v9 i a,v9 i b with
  |[],_,_=>Y|k::c,Z as,Z d=>kg (k::c) as d|_,_,_=>Y
 else match i.kd with
  |.leaf k=>DL k a b|.ptr=>X8 a b|.iface=>X9 a b|_=>Y
def ab4(op:BinOp)(k:IntKind)(m n:Int):O (V S):=
 match op with
 |.lss=>Z (.ty .bool (aD m n))|.leq=>Z (.ty .bool (br m n))|.gtr=>Z (.ty .bool (aD n m))|.geq=>Z (.ty .bool (br n m))|.add=>Z (.ty (.int k) (aC k m n))|.sub=>Z (.ty (.int k) (bH k m n))|.mul=>Z (.ty (.int k) (Oj k m n))|_=>Y
def abZ(op:BinOp)(k:IntKind)(m n:Int):O (V S):=
 match op with
 |.rem=>Z (.ty (.int k) (GO m n))|.quo=>Z (.ty (.int k) (ZF k m n))|_=>Y
def Gg(i:TI)(op:BinOp)(a b:V S):O (aa×V S):=
 match op with
 |.eql=>(afq i a b).map λr=>(W,.ty .bool r)|.neq=>(afq i a b).map λr=>(W,.ty .bool (ak r))|op=>match i.kd with
  |.leaf (.int k)=>match l6 k a,l6 k b with
   |some m,Z n=>match ab4 op k m n with
    |some d=>Z (W,d)|none=>(abZ op k m n).map λd=>(nzI n,d)
   |_,_=>Y
  |.leaf .str=>match op,vn a,vn b with
   |.add,Z m,Z n=>Z (abT m n,.ty .str (di m n))|_,_,_=>Y
  |_=>Y
def KA(s:bf S)(o e:Nat):O ((t:Ty)×L (den S.A t)):=
 match s.ob.get o with
 |some (.arr t l era)=>bif Nq e era then Z ⟨t,l⟩else Y|some (.kM t l era)=>bif Nq e era then Z ⟨t,l⟩else Y|_=>Y
def aae(τ:O Ty)(t:Ty):aa:=match τ with|some u=>rH u t|none=>J
def RJ(i:TI)(τ:O Ty)(t:Ty)(x:den S.A t)(off:Nat):O (V S):=
 bif Nq off 0&&aae τ t then Z (.ty t x)
 else
  bif Nl (Na off i.size) (S.width t)then Cp i.agg (((vK t x).drop off).take i.size)else Y
def mN:V S:=.dat (.lit (.tuple #[]))
def xR(i:TI)(τ:O Ty)(s:bf S):V S->nr S
 |.ptr o off=>match s.ob.get o with
  |some (.box a)=>
   let l:=(a.drop off).take i.size
   bif Nq (cC l) i.size then(Cp i.agg l).map λt=>(W,t,s)else Y
  |_=>Y
 |.lD t x off=>(RJ i τ t x off).map λv=>(W,v,s)|.lC o e k off=>match KA s o e with
  |some ⟨t,l⟩=>(RJ i τ t (aX l k (S.zero t)) off).map λv=>(eo k l,v,s)|none=>Y
 |_=>Y
def Sg.mq(S:Sg):Ty->L Ty
 |.st n=>S.fs n|t=>[t]
def vG:(t:Ty)->lB S.A (S.mq t)->den S.A t
 |.st n,h=>S.DC n h|.int _,h=>h.1|.bool,h=>h.1|.str,h=>h.1|.sl _,h=>h.1|.de _,h=>h.1|.opt _,h=>h.1|.mp _ _,h=>h.1
def Ei(i:TI)(s:bf S)(a x:V S):nr S:=
 match v9 i x with
 |none=>Y|some l=>match a with
  |.ptr o off=>match s.ob.get o with
   |some (.box d)=>
    bif Nl s.fl o&&(Nl (Na off (cC l)) (cC d)&&Bi l)then
     Z (W,mN,{s with ob:=s.ob.set aO o (.box (d.take off++l++d.drop (Na off (cC l)))),wr:=o::s.wr})
    else Y
   |_=>Y
  |.lC o e k off=>match s.ob.get o with
   |some (.arr t _ _)=>match nG s ((S.mq t).drop off |>.take (cC l)) l with
    |some (_,os)=>match dS s os with
     |some b=>match b.ob.get o with
      |some (.arr t c era)=>match nG s (S.mq t) ((vK t (aX c k (S.zero t))).take off++l++(vK t (aX c k (S.zero t))).drop (Na off (cC l)))with
       |some (h,_)=>
        bif Nl b.fl o&&(Nq e era&&(Nl (Na off (cC l)) (S.width t)&&(Nl 1 (cC l)&&Bi l)))then
         Z (eo k c,mN,{b with ob:=b.ob.set aO o (.arr t (oO c k (vG t h)) era),wr:=o::b.wr})
        else Y
       |none=>Y
      |_=>Y
     |none=>Y
    |none=>Y
   |_=>Y
  |_=>Y
def IN(place:Nat->O (Nat×TI))(cells:L (V S)):L (Nat×V S)->O (L (V S))
 |[]=>Z cells|(k,v)::a=>match place k with
  |none=>Y|some (off,i)=>match v9 i v with
   |none=>Y|some l=>
    bif Nl (Na off (cC l)) (cC cells)&&Bi l then IN place (cells.take off++l++cells.drop (Na off (cC l))) a else Y
def iL(fr:bV S):L (Nat×Operand)->O (L (Nat×V S))
 |[]=>Z []|(k,x)::l=>match cx fr x,iL fr l with
  |some t,Z r=>Z ((k,t)::r)|_,_=>Y
def om(s:bf S)(e:Ty)(es:L (den S.A e)):L (Nat×V S)->O (L (den S.A e)×L Nat)
 |[]=>Z (es,[])|(k,v)::a=>match bT s e v with
  |none=>Y|some (x,os)=>
   bif Nt k (cC es)then
    match om s e (es.set k x) a with
    |some (r,b)=>Z (r,os++b)|none=>Y
   else Y
def JR(fr:bV S):O Operand->O (O (V S))
 |none=>Z Y|some x=>(cx fr x).map Z
def BI(dflt:Int):O (V S)->O Int
 |none=>Z dflt|some t=>l6 .i64 t
def Mw:V S->L Nat
 |.sh o _=>[o]|_=>[]
def vo(i:TI)(τ:O Ty)(s:bf S)(v:V S)(l h m:O (V S)):nr S:=
 match τ,BI 0 l with
 |some .str,Z lo=>match i.kd,vn v,m with
  |.leaf .str,Z b,Y=>match BI (aq b) h with
   |some a=>Z (fX lo a (aq b),.ty .str (dD b lo a),s)|none=>Y
  |_,_,_=>Y
 |some (.sl e),Z lo=>match i.kd,JA s e v,dS s (Mw v)with
  |.slice _ _ _ _,Z c,Z d=>match BI (aq c) h,m,h with
   |some a,Y,_=>Z (fX lo a (aq c),.ty (.sl e) (dD c lo a),d)|some a,Z y,Z _=>match y with
    |.kn .i64 0=>Z (iW lo 0&&iW a 0,.emp,s)|y=>match l6 .i64 y with
     |some f=>Z (fX lo a (aq c)&&iW f a,.j4 0 e (dD c lo a),d)|none=>Y
   |_,_,_=>Y
  |_,_,_=>Y
 |_,_=>Y
def YC:V S->O (O aa×aa)
 |.gd g v=>match rB v with
  |some y=>Z (Z g,y)|none=>Y
 |.kb b=>Z (Y,b)|.ty .bool x=>Z (Y,x)|_=>Y
def orT(g:O aa):aa:=match g with|some g=>g|none=>W
def WK(c a b:V S):O (aa×V S):=
 match c with
 |.kb u=>match YC (bif u then a else b)with
  |some (p,y)=>Z (orT p,.ty .bool y)|none=>Y
 |c=>match rB c,YC a,YC b with
  |some t,Z (p,x),Z (q,y)=>Z (bif t then orT p else orT q,.ty .bool (ZG t x y))|_,_,_=>Y
def wB(n sz:Nat)(s:bf S)(x a:V S):nr S:=match x,a with
 |.lD t d b,.kn .i64 (.ofNat j)=>bif Nt j n then Z (W,.lD t d (Na b (Nat.mul j sz)),s)else Y|_,_=>Y
def CS{n sz:Nat}{s s':bf S}{x a t:V S}{p:aa}(h:wB n sz s x a=Z (p,t,s')):s'=s:=by unfold wB at h;split at h;rename_i j;cases b:Nt j n<;>rw[b]at h<;>cases h;rfl;cases h
def jS(i:TI)(τ:O Ty)(s:bf S)(x a:V S):nr S:=
 match i.kd,τ,l6 .i64 a with
 |.slice _ _ _ _,Z (.sl e),Z n=>match x with
  |.sh o r=>match KA s o r with
   |some ⟨t,l⟩=>bif rH t e then Z (aL n l,.lC o r (au n) 0,s)else Y|none=>Y
  |v=>match JA s e v with
   |some l=>Z (aL n l,.lD e (aX l (au n) (S.zero e)) 0,s)|none=>Y
 |.array n sz _,_,_=>wB n sz s x a|_,_,_=>Y
def qy(i:TI)(s:bf S)(k:Nat)(x:V S):nr S:=
 match i.kd with
 |.struct a=>match nth a k with
  |some (off,size,_)=>bif Nq size 0 then Y else match x with
   |.ptr o b=>Z (W,.ptr o (Na b off),s)|.lD t d b=>Z (W,.lD t d (Na b off),s)|.lC o e j b=>Z (W,.lC o e j (Na b off),s)|_=>Y
  |none=>Y
 |_=>Y
def Bv(i:TI)(s:bf S)(k:Nat)(x:V S):nr S:=
 match i.kd with
 |.struct a=>match nth a k,v9 i x with
  |some (off,size,b),Z c=>
   let l:=(c.drop off).take size
   bif Nq (cC l) size&&!(Nq size 0)then(Cp b l).map λt=>(W,t,s)else Y
  |_,_=>Y
 |_=>Y
def Bn(i:TI)(s:bf S)(x a:V S):nr S:=
 match i.kd,l6 .i64 a,vn x with
 |.leaf .str,Z n,Z b=>Z (aL n b,.ty (.int .u8) (l5 b n),s)|_,_,_=>Y
def DR(i:TI)(s:bf S)(t:TypeId)(ok:aa)(x:V S):nr S:=
 match i.kd,x,ok with
 |.iface,_,_=>Y|_,.de u v,W=>bif Nq u t then Z (W,.gG [v,.kb W],s)else
   (Cp i.agg (i.zero.map zeroV)).map λz=>(W,.gG [z,.kb J],s)
 |_,.de u v,J=>bif Nq u t then Z (W,v,s)else Y|_,_,_=>Y
def unV(i:TI)(op:UnOp)(v:V S):O (V S):=
 match op,i.kd with
 |.not,.leaf .bool=>(rB v).map λb=>.ty .bool (ak b)|.neg,.leaf (.int k)=>(l6 k v).map λn=>.ty (.int k) (Oi k n)|_,_=>Y
def SE(i j:TI)(s:bf S)(v:V S):nr S:=
 match i.kd,j.kd with
 |.leaf (.int k),.leaf (.int l)=>(l6 k v).map λn=>(W,.ty (.int l) (QU l n),s)|.leaf .str,.leaf .str=>(vn v).map λ_=>(W,v,s)|_,_=>Y
def Ae(s:bf S)(k:Nat):V S->nr S
 |.gG a=>(nth a k).map λt=>(W,t,s)|_=>Y
structure MT where
 kt:Ty
 vt:Option Ty
 el:TypeId
structure fN where
 E:Env
 ty:Nat->Option Ty
 mt:Nat->Option MT:=λ_=>Y
 JX:Nat->String->Option FuncId:=λ_ _=>Y
 nst:Nat->Option Nat:=λ_=>Y
def cG(E:fN)(fr:bV S)(s:bf S)(o:Op):nr S:=
 match o with
 |.move x=>(cx fr x).map λt=>(W,t,s)|.assign x=>(cx fr x).map λt=>(W,t,s)|.pick c a b=>match cx fr c,cx fr a,cx fr b with
  |some c,Z a,Z b=>(WK c a b).map λ(p,t)=>(p,t,s)|_,_,_=>Y
 |.alloc t=>match E.E.ti t with
  |some i=>bif Nt s.aF bD then Z (W,.ptr s.aF 0,dh s (.box (i.zero.map zeroV)))else Y|none=>Y
 |.box t x=>match E.E.ti t,cx fr x with
  |some i,Z v=>bif Nt s.aF bD then(v9 i v).map λg=>(W,.ptr s.aF 0,dh s (.box g))else Y|_,_=>Y
 |.build t parts=>match E.E.ti t,iL fr parts.toList with
  |some i,Z q=>match i.kd with
   |.struct w=>(IN (λk=>match nth w k with|some (off,size,z)=>Z (off,{(default:TI)with size:=size,agg:=z})|none=>Y) (i.zero.map zeroV) q).map
     λg=>(W,.agg g,s)
   |_=>Y
  |_,_=>Y
 |.buildSlice t len parts=>match E.E.ti t,E.ty t,iL fr parts.toList with
  |some i,Z (.sl e),Z q=>match i.kd with
   |.slice sz _ _ _=>
    bif Nl (Nat.mul len sz) 16777216 then
     match om s e (List.replicate len (S.zero e)) q with
     |some (A,os)=>(dS s os).map λs=>(W,.j4 len e A,s)|none=>Y
    else Y
   |_=>Y
  |_,_,_=>Y
 |.load t a=>match E.E.ti t,cx fr a with
  |some i,Z a=>xR i (E.ty t) s a|_,_=>Y
 |.store t a x=>match E.E.ti t,cx fr a,cx fr x with
  |some i,Z a,Z x=>Ei i s a x|_,_,_=>Y
 |.nilCheck x=>match cx fr x with
  |some (.ptr o b)=>Z (W,.ptr o b,s)|some (.lD t d b)=>Z (W,.lD t d b,s)|some (.lC o e j b)=>Z (W,.lC o e j b,s)|some (.de t v)=>Z (W,.de t v,s)|some (.fn (.func f) a b)=>Z (W,.fn (.func f) a b,s)|_=>Y
 |.binOp op t x y _=>match E.E.ti t,cx fr x,cx fr y with
  |some i,Z a,Z b=>(Gg i op a b).map λ(p,d)=>(p,d,s)|_,_,_=>Y
 |.unOp op t x=>match E.E.ti t,cx fr x with
  |some i,Z v=>(unV i op v).map λd=>(W,d,s)|_,_=>Y
 |.convert src r x=>match E.E.ti src,E.E.ti r,cx fr x with
  |some i,Z j,Z v=>SE i j s v|_,_,_=>Y
 |.makeInterface t x=>match E.E.ti t,cx fr x with
  |some i,Z v=>match i.kd with
   |.iface=>Y|_=>Z (W,.de t v,s)
  |_,_=>Y
 |.makeFunc f first cap=>match jN fr first.toList,jN fr cap.toList with
  |some a,Z b=>Z (W,.fn f a b,s)|_,_=>Y
 |.extract x k=>match cx fr x with
  |some v=>Ae s k v|none=>Y
 |.fieldAddr t x k=>match E.E.ti t,cx fr x with
  |some i,Z v=>qy i s k v|_,_=>Y
 |.field t x k=>match E.E.ti t,cx fr x with
  |some i,Z v=>Bv i s k v|_,_=>Y
 |.indexAddr t x u=>match E.E.ti t,cx fr x,cx fr u with
  |some i,Z v,Z n=>jS i (E.ty t) s v n|_,_,_=>Y
 |.index t x u=>match E.E.ti t,cx fr x,cx fr u with
  |some i,Z v,Z n=>Bn i s v n|_,_,_=>Y
 |.slice t x lo B C=>match E.E.ti t,cx fr x,JR fr lo,JR fr B,JR fr C with
  |some i,Z v,Z l,Z h,Z m=>vo i (E.ty t) s v l h m|_,_,_,_,_=>Y
 |.typeAssert x _ t ok=>match E.E.ti t,cx fr x with
  |some i,Z v=>DR i s t ok v|_,_=>Y
 |_=>Y
def Ul:(a:Ty)->V S->O (den S.A a)
 |.int k,v=>l6 k v|.bool,v=>rB v|.str,v=>vn v|_,_=>Y
def Fj{A:Nat->Type}:(c:Ty)->den A c->den A c->aa
 |.int _,a,b=>af a b|.bool,a,b=>j3 a b|.str,a,b=>ga a b|_,_,_=>J
def AQ{A:Nat->Type}{β:Type}(a:Ty)(z:β)(k:den A a):L (den A a×β)->β
 |[]=>z|p::l=>bif Fj a k p.1 then p.2 else AQ a z k l
def xC{A:Nat->Type}{β:Type}(a:Ty)(k:den A a):L (den A a×β)->aa
 |[]=>J|p::l=>bif Fj a k p.1 then W else xC a k l
def gY{A:Nat->Type}{β:Type}(a:Ty)(k:den A a)(x:β):L (den A a×β)->L (den A a×β)
 |[]=>[(k,x)]|p::l=>bif Fj a k p.1 then(k,x)::l else p::gY a k x l
def xW(c d a b:Ty)(l:L (den S.A c×den S.A d)):O (L (den S.A a×den S.A b)):=
 if h:rH c a=W then if e:rH d b=W then Z (jy h▸jy e▸l)else Y else Y
def I1{β:Type}(b a:Ty)(l:L (den S.A b×β)):O (L (den S.A a×β)):=
 if h:rH b a=W then Z (jy h▸l)else Y
def W8(s:bf S)(a b:Ty):V S->O (L (den S.A a×den S.A b))
 |.mp o=>match s.ob.get o with
  |some (.map k v l)=>xW k v a b l|_=>Y
 |.dat (.lit (.map Y))=>Z []|.ty (.mp k v) l=>xW k v a b l|_=>Y
def El{α:Type}:O α->aa
 |none=>J|some _=>W
def afj{α:Type}(z:α):O α->α
 |none=>z|some x=>x
def isE{α:Type}(l:L α):aa:=match l with|[]=>W|_::_=>J
def O8(n:Int):aa:=decide (0<=n)&&decide (n<=17179869184)
def OZ(pos:Nat)(b:L UInt8):aa:=decide (pos<b.length)
def uK(b:L UInt8)(pos:Nat):Int:=((Utf8.decode (cR b) pos).1:Nat)
def Hf(b:L UInt8)(pos:Nat):Nat:=(Utf8.decode (cR b) pos).2
def MY(fr:bV S):O Operand->aa
 |none=>W|some x=>match cx fr x with
  |some (.kn _ _)=>W|some (.ty (.int _) _)=>W|_=>J
def tC(E:fN)(fr:bV S)(s:bf S)(o:Op):nr S:=
 match o with
 |.makeMap t r=>bif Nt s.aF bD&&MY fr r then match E.mt t with
  |some m=>match m.vt with
   |some a=>Z (W,.mp s.aF,dh s (.map m.kt a []))|none=>Z (W,.mp s.aF,dh s (.GY m.kt []))
  |none=>Y
  else Y
 |.lookup t x d ok=>match E.mt t,cx fr x,cx fr d with
  |some m,Z x,Z k=>match m.vt with
   |some a=>match Ul m.kt k,W8 s m.kt a x with
    |some k,Z l=>Z (W,bif ok then .gG [.ty a (AQ m.kt (S.zero a) k l),.ty .bool (xC m.kt k l)]else .ty a (AQ m.kt (S.zero a) k l),s)|_,_=>Y
   |none=>Y
  |_,_,_=>Y
 |.mapUpdate t x d y|.insert t x d y=>match E.mt t,cx fr x,cx fr d,cx fr y with
  |some m,Z (.mp o),Z k,Z y=>match Ul m.kt k,s.ob.get o with
   |some k,Z (.map f a l)=>match xW f a m.kt a l,bT s a y with
    |some l,Z (y,os)=>match dS s os with
     |some g=>bif Nl s.fl o&&aae m.vt a then Z (W,mN,{g with ob:=g.ob.set aO o (.map m.kt a (gY m.kt k y l)),wr:=o::g.wr})else Y
     |none=>Y
    |_,_=>Y
   |some k,Z (.GY f l)=>match I1 f m.kt l with
    |some l=>bif Nl s.fl o then Z (W,mN,{s with ob:=s.ob.set aO o (.GY m.kt (gY m.kt k y l)),wr:=o::s.wr})else Y
    |none=>Y
   |_,_=>Y
  |_,_,_,_=>Y
 |.makeSlice t n c=>match E.E.ti t,E.ty t,cx fr n,cx fr c with
  |some i,Z (.sl e),Z n,Z c=>match i.kd,l6 .i64 n,l6 .i64 c with
   |.slice _ _ _ _,Z n,Z c=>bif Nt s.aF bD then Z (O8 n&&iW c n,.sh s.aF 0,dh s (.arr e (List.replicate (au n) (S.zero e)) 0))else Y|_,_,_=>Y
  |_,_,_,_=>Y
 |.range t x=>match E.E.ti t,cx fr x with
  |some i,Z x=>match i.kd,vn x with
   |.leaf .str,Z b=>bif Nt s.aF bD then Z (W,.tD s.aF,dh s (.qO b 0))else Y|_,_=>Y
  |_,_=>Y
 |.binOp .eql t x (.const .nilIface) _=>match E.E.ti t,cx fr x with
  |some i,Z (.ty (.de n) y)=>match i.kd with
   |.iface=>Z (W,.ty .bool (isNil (S.alts n) (S.tZ n y)),s)|_=>Y
  |some i,Z (.dat (.lit .nilIface))=>match i.kd with
   |.iface=>Z (W,.kb W,s)|_=>Y
  |_,_=>Y
 |.binOp .neq t x (.const .nilIface) _=>match E.E.ti t,cx fr x with
  |some i,Z (.ty (.de n) y)=>match i.kd with
   |.iface=>Z (W,.ty .bool (ak (isNil (S.alts n) (S.tZ n y))),s)|_=>Y
  |some i,Z (.dat (.lit .nilIface))=>match i.kd with
   |.iface=>Z (W,.kb J,s)|_=>Y
  |_,_=>Y
 |.binOp .eql t x (.const (.slice Y 0 0)) _=>match E.E.ti t,E.ty t,cx fr x with
  |some i,Z (.sl e),Z x=>match i.kd,JA s e x with
   |.slice _ _ _ _,Z l=>Z (W,.ub (isE l),s)|_,_=>Y
  |_,_,_=>Y
 |.nilCheck x=>match cx fr x with
  |some (.ty (.de n) y)=>Z (ak (isNil (S.alts n) (S.tZ n y)),.ty (.de n) y,s)|some (.ty (.opt n) y)=>Z (El y,.lD (.st n) (afj (S.dfl n) y) 0,s)|_=>Y
 |.binOp .eql t x (.const (.pointer Y)) _=>match E.E.ti t,cx fr x with
  |some i,Z (.ty (.opt _) y)=>match i.kd with
   |.ptr=>Z (W,.ty .bool (ak (El y)),s)|_=>Y
  |some i,Z (.dat (.lit (.pointer Y)))=>match i.kd with
   |.ptr=>Z (W,.kb W,s)|_=>Y
  |_,_=>Y
 |.binOp .neq t x (.const (.pointer Y)) _=>match E.E.ti t,cx fr x with
  |some i,Z (.ty (.opt _) y)=>match i.kd with
   |.ptr=>Z (W,.ty .bool (El y),s)|_=>Y
  |some i,Z (.dat (.lit (.pointer Y)))=>match i.kd with
   |.ptr=>Z (W,.kb J,s)|_=>Y
  |_,_=>Y
 |.typeAssert x _ t ok=>match E.E.ti t,E.ty t,cx fr x with
  |some i,Z τ,Z (.ty (.de n) y)=>match i.kd,wE (S.alts n) t with
   |.iface,_=>Y|_,Z j=>bif rH (mR (S.alts n) j) τ then
     let v:V S:=.ty (mR (S.alts n) j) (jV S.zero (S.alts n) j (S.tZ n y))
     let b:=lW (S.alts n) j (S.tZ n y)
     bif ok then Z (W,.gG [v,.ty .bool b],s)else Z (b,v,s)
    else Y
   |_,Y=>bif ok then Z (W,.gG [.ty τ (S.zero τ),.kb J],s)else Y
  |_,_,_=>Y
 |.build t parts=>match E.E.ti t,iL fr parts.toList with
  |some i,Z h=>match i.kd with
   |.array _ sz p=>(IN (λk=>Z (Nat.mul k sz,{(default:TI)with size:=sz,agg:=p})) (i.zero.map zeroV) h).map λq=>(W,.agg q,s)
   |_=>Y
  |_,_=>Y
 |_=>Y
def isNone{α:Type}:O α->aa|none=>W|some _=>J
def AP(E:fN)(fr:bV S)(s:bf S)(o:Op):nr S:=
 match o with
 |.indexAddr t x g=>match cx fr x with
  |some (.sh o r)=>match s.ob.get o with
   |some (.kT n _ l era _ _ _)=>match E.E.ti t,E.ty t,cx fr g with
    |some i,Z (.sl (.st p)),Z k=>match i.kd,l6 .i64 k with
     |.slice _ _ _ _,Z k=>bif Nq r era&&Nq n p then Z (aL k l,.lC o r (au k) 0,s)else Y|_,_=>Y
    |_,_,_=>Y
   |_=>Y
  |_=>Y
 |.load t a=>match cx fr a with
  |some (.lC o e k off)=>match s.ob.get o with
   |some (.kT n j l era m b hole)=>match E.E.ti t with
    |some i=>bif Nq e era then
      bif Nq off j then
       bif Nq i.size 1&&(!i.agg&&(isNone hole&&Nt j (S.width (.st n))))then Z (eo k l,.rQ o m b k,s)else Y
      else bif Nl (Na off i.size) j||Nt j off then(RJ i Y (.st n) (aX l k (S.zero (.st n))) off).map λv=>(eo k l,v,s)else Y
     else Y
    |none=>Y
   |_=>Y
  |_=>Y
 |.store t a (.tmp c)=>match cx fr a,fr.get c with
  |some (.lC o e k off),Z (.rQ q u r i)=>match s.ob.get o with
   |some (.kT n j l era m b (Z h))=>match E.E.ti t with
    |some d=>bif (Nq e era&&(Nq off j&&(Nq q o&&(Nq u m&&(Nq r b&&(Nq d.size 1&&(!d.agg&&(Nl s.fl o&&(Nt j (S.width (.st n))&&Nt c bD)))))))))then
      Z (XI k l h i,mN,{s with ob:=s.ob.set aO o (.kT n j l era m b Y),wr:=o::s.wr})
     else Y
    |none=>Y
   |_=>Y
  |_,_=>Y
 |.buildSlice t len parts=>match parts.toList with
  |[(0,.tmp c)]=>match E.E.ti t,E.ty t,fr.get c with
   |some i,Z (.sl (.st n)),Z (.agg f)=>match E.nst n with
    |some j=>match i.kd,nth f j with
     |.slice sz _ _ _,Z .emp=>bif Nq len 1&&(Nl sz 16777216&&Nt c bD)then match bT s (.st n) (.agg f)with
      |some (x,os)=>(dS s os).map λs=>(W,.o6 n j x,s)|none=>Y
      else Y
     |_,_=>Y
    |none=>Y
   |_,_,_=>Y
  |[]=>match E.E.ti t,E.ty t with
   |some i,Z (.sl _)=>match i.kd with
    |.slice _ _ _ _=>bif Nq len 0 then Z (W,.emp,s)else Y|_=>Y
   |_,_=>Y
  |_=>Y
 |.slice t x Y (Z w) Y=>match E.E.ti t,cx fr x,cx fr w with
  |some i,Z (.sh o r),Z h=>match i.kd,s.ob.get o,l6 .i64 h with
   |.slice _ _ _ _,Z (.arr (.int .i64) l era),Z h=>bif Nq r era&&Nl s.fl o then
     Z (fX 0 h (aq l),.sh o (Ns era),{s with ob:=s.ob.set aO o (.arr (.int .i64) (dD l 0 h) (Ns era)),wr:=o::s.wr})
    else Y
   |_,_,_=>Y
  |_,_,_=>Y
 |_=>Y
def zS(E:fN)(fr:bV S)(s:bf S)(o:Op):nr S:=match AP E fr s o with
 |some r=>Z r|none=>match cG E fr s o with
  |some r=>Z r|none=>tC E fr s o
def za(n:Int)(ag:aa)(sz:Nat)(cs:L (V S))(s:bf S):L Nat->L (aa×V S×bf S)
 |[]=>[]|j::l=>match bif Nq (cC ((cs.drop (Nat.mul j sz)).take sz)) sz&&Nt 0 sz then Cp ag ((cs.drop (Nat.mul j sz)).take sz)else Y with
  |some v=>(iW n (Int.ofNat j),v,s)::za n ag sz cs s l|none=>[]
def Io(E:fN)(fr:bV S)(s:bf S)(o:Op):O (L (aa×V S×bf S)×aa×V S×bf S):=
 match o with
 |.next d W=>match cx fr d with
  |some (.tD o)=>match s.ob.get o with
   |some (.qO b pos)=>bif Nl s.fl o then
     Z ([(OZ pos b,.gG [.kb W,.ty (.int .i64) (Int.ofNat pos),.ty (.int .i32) (uK b pos)],{s with ob:=s.ob.set aO o (.qO b (Na pos (Hf b pos))),wr:=o::s.wr})],W,.gG [.kb J],s)
    else Y
   |_=>Y
  |_=>Y
 |.lookup t x a ok=>match E.mt t,cx fr x,cx fr a with
  |some m,Z (.mp o),Z k=>match s.ob.get o,Ul m.kt k,E.E.ti m.el with
   |some (.GY e l),Z k,Z i=>match I1 e m.kt l,Cp i.agg (i.zero.map zeroV)with
    |some l,Z z=>Z (l.map λp=>(Fj m.kt k p.1,bif ok then .gG [p.2,.kb W]else p.2,s),W,bif ok then .gG [z,.kb J]else z,s)|_,_=>Y
   |_,_,_=>Y
  |_,_,_=>Y
 |.index t x a=>match E.E.ti t,cx fr x,cx fr a with
  |some i,Z (.agg c),Z k=>match i.kd,l6 .i64 k with
   |.array len sz f,Z n=>bif Nq (cC c) i.size then Z (za n f sz c s (List.range len),J,mN,s)else Y|_,_=>Y
  |_,_,_=>Y
 |_=>Y
def SR(i:TI)(e:Ty)(s:bf S)(x y:V S):nr S:=
 bif !(Nt s.aF bD)then Y else
 match i.kd,JA s e y with
 |.slice _ _ _ _,Z new=>
  match x with
  |.emp=>Z (W,.sh s.aF 0,dh s (.arr e new 0))|.j4 _ t a=>match nZ t e a with
   |some a=>match y with
    |.j4 (_+1) _ _=>Z (dJ a new,.sh s.aF 0,dh s (.arr e (di a new) 0))|_=>Z (dJ a new,.ty (.sl e) (di a new),s)
   |none=>Y
  |.sh o r=>match s.ob.get o with
   |some (.arr t a era)=>match nZ t e a with
    |some a=>
     bif Nl s.fl o&&(Nq r era&&!(Mw y).contains o)then
      Z (dJ a new,.sh o (Ns era),{s with ob:=s.ob.set aO o (.arr e (di a new) (Ns era)),wr:=o::s.wr})
     else Y
    |none=>Y
   |_=>Y
  |_=>Y
 |_,_=>Y
def g8(E:fN)(s:bf S)(b:Builtin)(a:Array TypeId)(args:L (V S)):nr S:=
 match b,args with
 |.len,[x]=>match(nth a.toList 0).bind E.E.ti,(nth a.toList 0).bind E.ty with
  |some i,Z .str=>match i.kd,vn x with
   |.leaf .str,Z b=>Z (W,.ty (.int .i64) (aq b),s)|_,_=>Y
  |some i,Z (.sl e)=>match i.kd with
   |.slice _ _ _ _=>(JA s e x).map λc=>(W,.ty (.int .i64) (aq c),s)|_=>Y
  |_,_=>Y
 |.append,[x,y]=>match a.toList with
  |[t,u]=>match E.E.ti t,E.E.ti u,E.ty t with
   |some i,Z j,Z (.sl e)=>match j.kd with
    |.slice _ _ _ _=>SR i e s x y|_=>Y
   |_,_,_=>Y
  |_=>Y
 |_,_=>Y
def aaT(a b:Int):Int:=bif aD a b then b else a
def aaS(a b:Int):Int:=bif aD b a then b else a
def s6(E:fN)(s:bf S)(b:Builtin)(a:Array TypeId)(args:L (V S)):nr S:=
 match b,args with
 |.len,[.mp o]=>match(nth a.toList 0).bind E.mt,s.ob.get o with
  |some _,Z (.map _ _ l)=>Z (W,.ty (.int .i64) (aq l),s)|some _,Z (.GY _ l)=>Z (W,.ty (.int .i64) (aq l),s)|_,_=>Y
 |.max,[x,y]=>match l6 .i64 x,l6 .i64 y with
  |some m,Z n=>Z (W,.ty (.int .i64) (aaT m n),s)|_,_=>Y
 |.min,[x,y]=>match l6 .i64 x,l6 .i64 y with
  |some m,Z n=>Z (W,.ty (.int .i64) (aaS m n),s)|_,_=>Y
 |_,_=>Y
def mC(E:fN)(s:bf S)(b:Builtin)(a:Array TypeId)(args:L (V S)):nr S:=
 match b,args with
 |.len,[.sh o r]=>match s.ob.get o with
  |some (.kT n _ l era _ _ _)=>match(nth a.toList 0).bind E.E.ti,(nth a.toList 0).bind E.ty with
   |some i,Z (.sl (.st g))=>match i.kd with
    |.slice _ _ _ _=>bif Nq r era&&Nq n g then Z (W,.ty (.int .i64) (aq l),s)else Y|_=>Y
   |_,_=>Y
  |_=>Y
 |.append,[.sh o r,.o6 g v x]=>match s.ob.get o with
  |some (.kT n j l era m c Y)=>match a.toList with
   |[t,u]=>match E.E.ti t,E.E.ti u,E.ty t,LM s m c with
    |some i,Z h,Z (.sl (.st p)),Z ⟨f,d⟩=>match i.kd,h.kd,nZ (.st g) (.st n) [x]with
     |.slice _ _ _ _,.slice _ _ _ _,Z new=>bif Nq r era&&(Nq n p&&(Nq j v&&(Nl s.fl o&&(Nl s.fl m&&(Nt m s.aF&&(Nt s.aF bD&&(Dh S n j f&&Nl 1 (S.width f))))))))then
       Z (bQ (aa2 l d) (dJ l new),.sh o (Ns era),{s with ob:=(s.ob.set aO m (.rws f (di d [[]]) c)).set aO o (.kT n j (di l new) (Ns era) m c Y),wr:=o::m::s.wr})
      else Y
     |_,_,_=>Y
    |_,_,_,_=>Y
   |_=>Y
  |_=>Y
 |.append,[.rQ o m r k,y]=>match s.ob.get o,s.ob.get m with
  |some (.kT n j l era w c Y),Z (.rws t d e)=>match a.toList with
   |[q,u]=>match E.E.ti q,E.E.ti u,E.ty q,JA s t y with
    |some i,Z h,Z (.sl f),Z new=>match i.kd,h.kd,y with
     |_,_,.sh _ _=>Y|.slice _ _ _ _,.slice _ _ _ _,_=>bif Nq m w&&(Nq r c&&(Nq r e&&(Nl s.fl o&&(Nl s.fl m&&(Nt o bD&&rH f t)))))then
       Z (bQ (eo k d) (dJ (aX d k []) new),.rQ o m (Ns r) k,{s with ob:=(s.ob.set aO m (.rws t (oO d k (di (aX d k []) new)) (Ns r))).set aO o (.kT n j l era m (Ns r) (Z k)),wr:=o::m::s.wr})
      else Y
     |_,_,_=>Y
    |_,_,_,_=>Y
   |_=>Y
  |_,_=>Y
 |_,_=>Y
def Kp{A:Nat->Type}{β:Type}(a:Ty)(k:den A a):L (den A a×β)->L (den A a×β)
 |[]=>[]|p::l=>bif Fj a k p.1 then l else p::Kp a k l
def s7(E:fN)(s:bf S)(b:Builtin)(a:Array TypeId)(args:L (V S)):nr S:=
 match b,args with
 |.delete,[.mp o,k]=>match(nth a.toList 0).bind E.mt,s.ob.get o with
  |some m,Z (.map c d l)=>match I1 c m.kt l,Ul m.kt k with
   |some l,Z k=>bif Nl s.fl o then Z (W,mN,{s with ob:=s.ob.set aO o (.map m.kt d (Kp m.kt k l)),wr:=o::s.wr})else Y
   |_,_=>Y
  |_,_=>Y
 |_,_=>Y
def kV(E:fN)(s:bf S)(b:Builtin)(a:Array TypeId)(args:L (V S)):nr S:=match mC E s b a args with
 |some r=>Z r|none=>match g8 E s b a args with
  |some r=>Z r|none=>match s6 E s b a args with
   |some r=>Z r|none=>s7 E s b a args
end
variable {S:Sg}
def aU{α:Type}(c:aa)(x:O α):O α:=bif c then x else Y
def aj{α:Type}(c:aa)(x y:O α):O α:=bif c then x else y
def ai{α β:Type}(x:O α)(f:α->O β):O β:=match x with|some a=>f a|none=>Y
def imp(c p:aa):aa:=bif c then p else W
inductive Ck where
 |dat (t:Ty)|own (e:Ty)|jQ (n j:Nat) (t:Ty)|nil (e:Ty)|ptr (t:Ty)
@[reducible] def Ck.ty:Ck->Ty|.dat t=>t|.own e=>.sl e|.jQ n _ _=>.sl (.st n)|.nil e=>.sl e|.ptr t=>t
inductive Bk where
 |cells (cs:List Ck)|map (kt vt:Ty)|qO|link (m:aa) (pre post:List Ck)
inductive Pk where
 |one (c:Ck)|box (k:Bk)|hid (k:Bk)
@[reducible] def fU(A:Nat->Type):L Ck->Type
 |[]=>U|c::l=>den A c.ty×fU A l
@[reducible] def xw(A:Nat->Type):Bk->Type
 |.cells a=>fU A a|.map b c=>L (den A b×den A c)|.qO=>L UInt8×Nat|.link _ pre post=>fU A pre×fU A post
@[reducible] def fI(A:Nat->Type):L Pk->Type
 |[]=>U|.one c::l=>den A c.ty×fI A l|.box k::l=>xw A k×fI A l|.hid k::l=>xw A k×fI A l
@[reducible] def gQ(A:Nat->Type):L Pk->Type
 |[]=>U|.one _::l=>gQ A l|.box k::l=>xw A k×gQ A l|.hid k::l=>xw A k×gQ A l
inductive Rx(R P:Type) where
 |ok (r:R)|jJ (p:P)
@[reducible] def RT:aa->Type->Type->Type
 |false,R,_=>R|true,R,P=>Rx R P
def RT.res{R P:Type}:(a:aa)->RT a R P->Rx R P
 |false,r=>Rx.ok r|true,r=>r
def RT.ok{R P:Type}:(a:aa)->R->RT a R P
 |false,r=>r|true,r=>Rx.ok r
def RT.jJ{R P:Type}:(a:aa)->P->O (RT a R P)
 |false,_=>Y|true,p=>Z (Rx.jJ p)
structure kD(S:Sg) where
 ps:List Pk
 rs:List Ck
 pn:aa
 F:fI S.A ps->Option (RT pn (fU S.A rs×gQ S.A ps) (den S.A S.pt×gQ S.A ps))
def oG(s:bf S):(c:Ck)->V S->O (den S.A c.ty×L Nat×L Nat)
 |.dat t,v=>match bT s t v with
  |some (x,os)=>Z (x,os,[])|none=>Y
 |.own e,.emp=>bif Nl 1 (S.width e)then Z ([],[],[])else Y|.own e,.sh o r=>match s.ob.get o with
  |some (.arr t l era)=>bif Nq r era&&(Nl s.fl o&&Nl s.lo o)then match nZ t e l with|some l=>Z (l,[],[o])|none=>Y else Y
  |_=>Y
 |.nil _,.emp=>Z ([],[],[])|.jQ n j t,.emp=>bif Nl 1 (S.width (.st n))&&(Dh S n j t&&Nt j (S.width (.st n)))then Z ([],[],[])else Y|.jQ n j t,.sh o r=>match s.ob.get o with
  |some (.kT b g l era m a Y)=>match LM s m a with
   |some ⟨d,f⟩=>bif (Nq r era&&(Nq j g&&(Nl s.fl o&&(Nl s.lo o&&(Nl s.fl m&&(Nl s.lo m&&(Nt m s.aF&&(Dh S b j d&&rH d t))))))))then match nZ (.st b) (.st n) (kC b j d l f)with
     |some l=>Z (l,[],[o,m])|none=>Y
    else Y
   |none=>Y
  |_=>Y
 |_,_=>Y
def fR(s:bf S):(cs:L Ck)->L (V S)->O (fU S.A cs×L Nat×L Nat)
 |[],[]=>Z ((),[],[])|c::cs,v::l=>match oG s c v,fR s cs l with
  |some (x,a,b),Z (h,d,e)=>Z ((x,h),a++d,b++e)|_,_=>Y
 |_,_=>Y
def Uj:Bk->Nat->V S
 |.cells _,o=>.ptr o 0|.map _ _,o=>.mp o|.qO,o=>.tD o|.link _ _ _,o=>.ptr o 0
def Db:Bk->V S->O Nat
 |.cells _,.ptr o 0=>Z o|.map _ _,.mp o=>Z o|.qO,.tD o=>Z o|.link _ _ _,.ptr o 0=>Z o|_,_=>Y
def lkV:aa->Nat->V S
 |true,o=>.mp o|false,o=>.ptr o 0
def lkO:aa->O (V S)->O Nat
 |true,Z (.mp o)=>Z o|false,Z (.ptr o 0)=>Z o|_,_=>Y
def lO(s:bf S):(k:Bk)->O (uz S)->O (xw S.A k×L Nat×L Nat×O Nat)
 |.cells d,Z (.box c)=>match fR s d c with
  |some (x,a,b)=>Z (x,a,b,Y)|none=>Y
 |.map e f,Z (.map k v l)=>match xW k v e f l with
  |some l=>Z (l,[],[],Y)|none=>Y
 |.qO,Z (.qO b n)=>Z ((b,n),[],[],Y)|.link m pre post,Z (.box c)=>match fR s pre (c.take (cC pre)),lkO m (nth c (cC pre)),fR s post (c.drop (Ns (cC pre)))with
  |some (x,a,b),Z o,Z (y,g,h)=>Z ((x,y),a++g,b++h,Z o)|_,_,_=>Y
 |_,_=>Y
def Ff:Bk->L Pk->aa
 |.link _ _ _,.hid _::_=>W|.link _ _ _,_=>J|_,_=>W
def eC(s:bf S):(ps:L Pk)->L (V S)->O Nat->O (fI S.A ps×L Nat×L Nat×L Nat)
 |[],[],_=>Z ((),[],[],[])|.one c::ps,v::l,_=>match oG s c v,eC s ps l Y with
  |some (x,a,b),Z (h,d,e,f)=>Z ((x,h),a++d,b++e,f)|_,_=>Y
 |.box k::ps,v::l,_=>match Db k v with
  |some o=>bif Nl s.fl o&&Ff k ps then match lO s k (s.ob.get o)with
   |some (x,a,b,g)=>match eC s ps l g with
    |some (h,d,e,f)=>Z ((x,h),a++d,b++e,o::f)|none=>Y
   |none=>Y
   else Y
  |none=>Y
 |.hid k::ps,l,Z o=>bif Nl s.fl o&&Ff k ps then match lO s k (s.ob.get o)with
   |some (x,a,b,g)=>match eC s ps l g with
    |some (h,d,e,f)=>Z ((x,h),a++d,b++e,o::f)|none=>Y
   |none=>Y
   else Y
 |_,_,_=>Y
def vg(s:bf S):(c:Ck)->den S.A c.ty->V S×bf S
 |.dat t,x=>(.ty t x,s)|.own e,l=>(.sh s.aF 0,dh s (.arr e l 0))|.nil _,_=>(.emp,s)|.ptr t,x=>(.lD t x 0,s)|.jQ n j t,l=>(.sh s.aF 0,dh (dh s (.kT n j l 0 (Ns s.aF) 0 Y)) (.rws t (y4 n j t l) 0))
def g9(s:bf S):(cs:L Ck)->fU S.A cs->L (V S)×bf S
 |[],_=>([],s)|c::cs,x=>match vg s c x.1 with
  |(v,s)=>match g9 s cs x.2 with
   |(l,s)=>(v::l,s)
def fj:L Nat->O Nat
 |[]=>Y|a::_=>Z a
def WH(m:aa):O Nat->L (V S)
 |some o=>[lkV m o]|none=>[]
def kL(s:bf S)(c:O Nat):(k:Bk)->xw S.A k->uz S×bf S
 |.cells d,x=>match g9 s d x with
  |(a,s)=>(.box a,s)
 |.map e f,l=>(.map e f l,s)|.qO,x=>(.qO x.1 x.2,s)|.link m pre post,x=>match g9 s pre x.1 with
  |(a,s)=>match g9 s post x.2 with
   |(b,s)=>(.box (a++(WH m c++b)),s)
def lM(s:bf S):(ps:L Pk)->L Nat->gQ S.A ps->O (bf S)
 |[],[],_=>Z s|.one _::ps,a,h=>lM s ps a h|.box k::ps,o::a,h=>match kL s (fj a) k h.1 with
  |(ob,s)=>lM {s with ob:=s.ob.set aO o ob,wr:=o::s.wr} ps a h.2
 |.hid k::ps,o::a,h=>match kL s (fj a) k h.1 with
  |(ob,s)=>lM {s with ob:=s.ob.set aO o ob,wr:=o::s.wr} ps a h.2
 |_,_,_=>Y
def ahr(b:Nat):O Nat->aa
 |none=>W|some o=>Nq o (Ns b)
def tS(s:bf S):Nat->(ps:L Pk)->O (gQ S.A ps×L Nat×L Nat)
 |_,[]=>Z ((),[],[])|b,.one _::ps=>tS s b ps|b,.box k::ps=>match lO s k (s.ob.get b),tS s (Ns b) ps with
  |some (x,a,c,d),Z (h,e,f)=>bif ahr b d&&Ff k ps then Z ((x,h),a++e,c++f)else Y|_,_=>Y
 |b,.hid k::ps=>match lO s k (s.ob.get b),tS s (Ns b) ps with
  |some (x,a,c,d),Z (h,e,f)=>bif ahr b d&&Ff k ps then Z ((x,h),a++e,c++f)else Y|_,_=>Y
def rP:L Nat->aa
 |[]=>W|a::l=>!(l.contains a)&&rP l
def BJ(l m:L Nat):aa:=l.all λa=>!(m.contains a)
def CZ:L (V S)->V S
 |[x]=>x|l=>.gG l
inductive uF(S:Sg) where
 |qW|ext (id:Nat)|ret|jJ (v:V S)
abbrev Sh:=L (Nat×Pk)
inductive Pt where
 |slot (k:Nat)|cell (p:Pt) (i:Nat)|cap (p:Pt) (i:Nat)|Lh (p:Pt) (k:Nat)
structure Vu where
 sh:Sh
 pts:List Pt:=[]
 al:List (Nat×Nat):=[]
 pl:Nat:=0
structure JSh where
 sh:Sh
 pts:List Pt:=[]
 ks:List Pt:=[]
 rs:List Ck:=[]
structure er(S:Sg) where
 T:fN
 Hv:FuncId->Option (kD S)
 sh:FuncId->Nat->Option Vu
 pn:aa:=J
 cj:FuncId->List (V S)->Option JSh:=λ_ _=>Y
def o8:V S->L (V S)->O (FuncId×L (V S))
 |.fn (.func f) first cap,args=>Z (f,first++args++cap)
 |_,_=>Y
inductive Tgt where|fn (f:FuncId)|yl (o:Nat)|jn (f:FuncId)|yd (o:Nat)
abbrev fO(S:Sg):=Tgt->L (V S)->bf S->{ω:Type}->(V S->bf S->O ω)->(V S->bf S->O ω)->O ω
mutual
def iF(os:L Nat):V S->aa
 |.ptr o _=>os.contains o|.lC o _ _ _=>os.contains o|.sh o _=>os.contains o|.mp o=>os.contains o|.qN o=>os.contains o|.tD o=>os.contains o|.rQ o m _ _=>os.contains o||os.contains m|.fn _ a b=>od os a||od os b|.de _ v=>iF os v|.agg c=>od os c|.gG c=>od os c|.gd _ v=>iF os v|_=>J
def od(os:L Nat):L (V S)->aa
 |[]=>J|v::l=>iF os v||od os l
end
def JZ{α:Type}(os:L Nat):L (α×V S)->aa
 |[]=>J|p::l=>iF os p.2||JZ os l
def mo(p:V S->aa):Tr (V S)->aa
 |.nil=>J|.node v l r=>(match v with|some x=>p x|none=>J)||(mo p l||mo p r)
def JU(os:L Nat):uz S->aa
 |.box a=>od os a|.GY _ l=>JZ os l|.lp l=>mo (iF os) l.fr.tm|.kT _ _ _ _ m _ _=>os.contains m|_=>J
namespace Tr
variable {α:Type}
def del:Nat->Tr α->Nat->Tr α
 |0,t,_=>t|_+1,.nil,_=>.nil|n+1,.node v l r,k=>match k with
  |0=>.node Y l r|k+1=>match Nq (Nat.mod k 2) 0 with
   |true=>.node v (del n l (Nat.div k 2)) r|false=>.node v l (del n r (Nat.div k 2))
def keep(p:α->aa):Tr α->Tr α
 |.nil=>.nil|.node v l r=>.node (match v with|some x=>bif p x then Z x else Y|none=>Y) (keep p l) (keep p r)
end Tr
namespace Tr
variable {α:Type}
def mapA(f:α->α):Tr α->Tr α
 |.nil=>.nil|.node v l r=>.node (match v with|some x=>Z (f x)|none=>Y) (mapA f l) (mapA f r)
def ju(p:α->aa):Tr α->L Nat
 |.nil=>[]|.node v l r=>(match v with|some x=>bif p x then[0]else[]|none=>[])++((ju p l).map (λk=>Ns (Nat.mul 2 k))++(ju p r).map (λk=>Ns (Ns (Nat.mul 2 k))))
end Tr
def yq:V S:=.gd J mN
def qE(os:L Nat)(v:V S):V S:=bif iF os v then yq else v
def nD(os:L Nat):uz S->uz S
 |.box b=>.box (b.map (qE os))|.GY c l=>.GY c (l.map λp=>(p.1,qE os p.2))|.lp l=>.lp {l with fr:={l.fr with tm:=l.fr.tm.mapA (qE os)}}
 |.kT n j l era m a hole=>bif os.contains m then .gone else .kT n j l era m a hole|o=>o
def forget(os:L Nat)(s:bf S):bf S:=match os with
 |[]=>s|_=>{s with ob:=s.ob.mapA (nD os),wr:=s.ob.ju (JU os)++s.wr}
def xV(bs:L Nat)(s:bf S):bf S:={s with ob:=bs.foldl (λt o=>t.del aO o) s.ob}
def so.one:so S->aa
 |.marks _|.jZ=>J|_=>W
def ey(p:V S->aa):so S->so S
 |.call f args=>bif p f||args.any p then .bad else .call f args|.mark o=>bif p (.ptr o 0)then .bad else .mark o|.marks o=>bif p (.sh o 0)then .jZ else .marks o|.jZ=>.jZ|.bad=>.bad
def dx(os:L Nat)(fr:bV S):bV S:=match os with
 |[]=>fr|_=>{fr with tm:=fr.tm.keep λv=>!(iF os v),df:=fr.df.map (ey (iF os))}
def jv:L Ck->aa
 |[]=>W|.dat _::l=>jv l|.own _::_=>J|.jQ ..::_=>J|.nil _::_=>J|.ptr _::_=>J
def sX:(cs:L Ck)->fU S.A cs->L (V S)
 |[],_=>[]|c::cs,x=>.ty c.ty x.1::sX cs x.2
def cr:L Pk->aa
 |[]=>W|.one (.dat _)::l=>cr l|_=>J
def V1:Ty->aa
 |.int _|.bool|.str=>W|_=>J
def kE:L Ck->aa
 |[]=>W|.dat t::l=>V1 t&&kE l|.own _::_=>J|.jQ ..::_=>J|.nil _::_=>J|.ptr _::_=>J
def XS:L Pk->aa
 |[]=>J|.one (.ptr _)::_=>W|_::l=>XS l
def O5:L Pk->aa
 |[]=>W|.one (.dat _)::l=>O5 l|.one (.ptr _)::l=>O5 l|_=>J
def ahf(s:bf S):(t:Ty)->V S->O (den S.A t×L Nat)
 |.mp k v,.mp o=>match s.ob.get o with
  |some (.map a b l)=>match xW a b k v l with
   |some l=>Z (l,[])|none=>Y
  |_=>Y
 |t,v=>bT s t v
def zM(s:bf S):(ts:L Ty)->L (V S)->O (lB S.A ts×L Nat)
 |[],[]=>Z ((),[])|t::ts,v::l=>match ahf s t v,zM s ts l with
  |some (x,os),Z (h,a)=>Z ((x,h),os++a)|_,_=>Y
 |_,_=>Y
def ad7(s:bf S):(t:Ty)->L (V S)->O (den S.A t×L Nat)
 |.st n,a=>match zM s (S.fs n) a with
  |some (h,os)=>Z (S.DC n h,os)|none=>Y
 |_,_=>Y
def acT(s:bf S)(t:Ty):V S->O (den S.A t×L Nat)
 |.lD u y 0=>match wg u t y with
  |some x=>Z (x,[])|none=>Y
 |.ptr o 0=>match s.ob.get o with
  |some (.box a)=>ad7 s t a|_=>Y
 |_=>Y
def lu(s:bf S):(ps:L Pk)->L (V S)->O (fI S.A ps×L Nat)
 |[],[]=>Z ((),[])|.one (.dat t)::ps,v::l=>match bT s t v,lu s ps l with
  |some (x,os),Z (h,a)=>Z ((x,h),os++a)|_,_=>Y
 |.one (.ptr t)::ps,v::l=>match acT s t v,lu s ps l with
  |some (x,os),Z (h,a)=>Z ((x,h),os++a)|_,_=>Y
 |_,_=>Y
def Xg(c:kD S):aa:=cr c.ps&&(kE c.rs&&!c.pn)
mutual
def cH(p:Nat->aa):V S->aa
 |.ptr o _=>p o|.lC o _ _ _=>p o|.sh o _=>p o|.mp o=>p o|.qN o=>p o|.tD o=>p o|.rQ o m _ _=>p o||p m|.fn _ a b=>iA p a||iA p b|.de _ v=>cH p v|.agg c=>iA p c|.gG c=>iA p c|.gd _ v=>cH p v|_=>J
def iA(p:Nat->aa):L (V S)->aa
 |[]=>J|v::l=>cH p v||iA p l
end
def dL(ow:L Nat)(aF:Nat)(o:Nat):aa:=ow.contains o||Nl aF o
def mu:L (V S)->Nat->Tr (V S)->Tr (V S)
 |[],_,t=>t|a::l,k,t=>mu l (Ns k) (t.set aO k a)
def V5(a:L Ck)(v:V S):L (V S):=match a,v with|[_],v=>[v]|_,.gG l=>l|_,v=>[v]
def kP(sh:Sh):L Pk:=sh.map (·.2)
def Hh(fr:bV S)(s:bf S):Pt->O (V S)
 |.slot k=>fr.get k|.cell p i=>match Hh fr s p with
  |some (.ptr o 0)=>match s.ob.get o with
   |some (.box a)=>nth a i|_=>Y
  |_=>Y
 |.cap p i=>match Hh fr s p with
  |some (.fn _ _ a)=>nth a i|_=>Y
 |.Lh p k=>match Hh fr s p with
  |some (.qN o)=>match s.ob.get o with
   |some (.lp l)=>l.fr.get k|_=>Y
  |_=>Y
def qV(fr:bV S)(s:bf S):Sh->L Pt->O (L Nat)
 |[],[]=>Z []|(_,.one _)::l,a=>qV fr s l a|(_,.box k)::l,p::a=>match Hh fr s p with
  |some v=>match Db k v,qV fr s l a with
   |some o,Z r=>Z (o::r)|_,_=>Y
  |none=>Y
 |(_,.hid k)::l,p::a=>match Hh fr s p with
  |some v=>match Db k v,qV fr s l a with
   |some o,Z r=>Z (o::r)|_,_=>Y
  |none=>Y
 |_,_=>Y
def uX(fr:bV S):Sh->L Nat->O (L (V S))
 |[],[]=>Z []|(k,.one _)::l,a=>match fr.get k,uX fr l a with
  |some v,Z r=>Z (v::r)|_,_=>Y
 |(_,.box k)::l,o::a=>match uX fr l a with
  |some r=>Z (Uj k o::r)|none=>Y
 |(_,.hid _)::l,_::a=>uX fr l a|_,_=>Y
def mP:(sh:Sh)->L Nat->fI S.A (kP sh)->bV S->bf S->O (bV S×bf S)
 |[],[],_,a,s=>Z (a,s)|(k,.one c)::l,b,x,a,s=>match vg s c x.1 with
  |(v,s)=>bif Nt k a.n&&Nl s.aF bD then mP l b x.2 (a.put k v) s else Y
 |(_,.box k)::l,o::b,x,a,s=>match kL s (fj b) k x.1 with
  |(ob,s)=>bif Nl s.aF bD then mP l b x.2 a {s with ob:=s.ob.set aO o ob}else Y
 |(_,.hid k)::l,o::b,x,a,s=>match kL s (fj b) k x.1 with
  |(ob,s)=>bif Nl s.aF bD then mP l b x.2 a {s with ob:=s.ob.set aO o ob}else Y
 |_,_,_,_,_=>Y
def yN{α:Type}(p:Nat->aa):L (α×V S)->aa
 |[]=>J|x::l=>cH p x.2||yN p l
def gq(p:Nat->aa):uz S->aa
 |.box a=>iA p a|.GY _ l=>yN p l|.lp l=>mo (cH p) l.fr.tm|.kT _ _ _ _ m _ _=>p m|_=>J
def fK(p:Nat->aa)(v:V S):V S:=bif cH p v then yq else v
def eT(p:Nat->aa):uz S->uz S
 |.box b=>.box (b.map (fK p))|.GY c l=>.GY c (l.map λx=>(x.1,fK p x.2))|.lp l=>.lp {l with fr:={l.fr with tm:=l.fr.tm.mapA (fK p)}}
 |.kT n j l era m a hole=>bif p m then .gone else .kT n j l era m a hole|o=>o
def cI(ds ow bs:L Nat)(fr:bV S)(s1:bf S):bV S×bf S:=
 ({fr with tm:=(ds.foldl (λt k=>t.del aO k) fr.tm).keep λv=>!(cH (dL ow s1.aF) v),df:=fr.df.map (ey (cH (dL ow s1.aF)))},xV bs {s1 with ob:=s1.ob.mapA (eT (dL ow s1.aF)),wr:=[],dr:=[]})
def Om:Sh->Sh
 |[]=>[]|(_,.one _)::l=>Om l|(k,.box b)::l=>(k,.box b)::Om l|(k,.hid b)::l=>(k,.hid b)::Om l
def qc(sh:Sh)(bs:L Nat)(fr:bV S)(s:bf S):O (fI S.A (kP sh)×bf S×L Nat):=
 match uX fr sh bs with
 |none=>Y|some f=>match eC s (kP sh) f Y with
  |none=>Y|some (x,e,d,c)=>match dS s e with
   |none=>Y|some g=>bif rP d&&(BJ d e&&(rP c&&(Nq (cC c) (cC bs)&&(c.zip bs).all λ(a,b)=>Nq a b)))then Z (x,g,d)else Y
def jz:uz S->aa
 |.arr ..|.kM ..|.kT ..|.rws ..|.gone|.E5=>J|_=>W
def ptO(fr:bV S)(s:bf S)(p:Pt):O Nat:=match Hh fr s p with
 |some (.ptr o 0)=>Z o|some (.mp o)=>Z o|some (.qN o)=>Z o|_=>Y
def WG(fr:bV S)(s:bf S):L Pt->O (L Nat)
 |[]=>Z []|p::l=>match ptO fr s p,WG fr s l with
  |some o,Z r=>Z (o::r)|_,_=>Y
def Hr:L Nat->Nat
 |[]=>0|a::l=>bif Nl (Hr l) a then a else Hr l
def yx:Sh->L Nat
 |[]=>[]|(k,.one _)::l=>k::yx l|(_,.box _)::l=>yx l|(_,.hid _)::l=>yx l
def Bf(l:L Nat)(o:Nat):aa:=!(l.contains o)
def PL(args:L (V S)):bV S:={n:=cC args,tm:=mu args 0 .nil}
def M9(l:L Nat)(sh:Sh)(fr:bV S):bV S:={n:=fr.n,tm:=((yx sh).foldl (λt k=>t.del aO k) fr.tm).keep λv=>!(cH (Bf l) v)}
def Cz(ob:Tr (uz S)):L Nat->Tr (uz S)
 |[]=>.nil|o::l=>match ob.get o with
  |some x=>(Cz ob l).set aO o x|none=>Cz ob l
def ZX(bs a:L Nat)(s:bf S):bf S:=⟨Cz s.ob a,Ns (Hr (bs++a)),s.fl,0,[],[]⟩
def frE:bV S:={n:=0,tm:=.nil}
def getAll(fr:bV S):Nat->Nat->O (L (V S))
 |_,0=>Z []|j,n+1=>match fr.get j,getAll fr (Ns j) n with
  |some v,Z l=>Z (v::l)|_,_=>Y
def SI(l a:L Nat)(s:bf S):aa:=a.all λo=>match s.ob.get o with
 |some ob=>jz ob&&!(gq (Bf l) ob)|none=>J
abbrev JT(S:Sg)(sh:Sh)(rs:L Ck):=fU S.A rs×fI S.A (kP (Om sh))
def acU(sh:Sh)(a:L Ck)(bs b:L Nat)(v:V S)(s:bf S):O (JT S sh a):=
 match fR s a (V5 a v),qc (Om sh) bs frE s with
 |some (r,_,_),Z (y,c,_)=>bif b.all (λo=>!(c.wr.contains o))then Z (r,y)else Y|_,_=>Y
def LR(call:fO S)(f:FuncId)(sh:Sh)(a:L Ck)(bs b:L Nat)(fr:bV S)(s:bf S)(x:fI S.A (kP sh)):O (JT S sh a):=
 match mP sh bs x fr s with
 |none=>Y|some (fr,s)=>match getAll fr 0 fr.n with
  |none=>Y|some args=>call (.jn f) args s (acU sh a bs b) (λ_ _=>Y)
section
variable (E:er S)(call:fO S){ω:Type}
def afo(s:bf S)(c:kD S)(args:L (V S))(k:V S->bf S->L Nat->O ω):O ω:=
 bif O5 c.ps&&(kE c.rs&&!c.pn)then match lu s c.ps args with
  |none=>Y|some (x,a)=>match dS s a with
   |none=>Y|some _=>ai (c.F x) λr=>match RT.res c.pn r with
    |.ok r=>k (CZ (sX c.rs r.1)) s []|.jJ _=>Y
 else Y
def No(s:bf S)(c:kD S)(args:L (V S))(kp:V S->bf S->O ω)(k:V S->bf S->L Nat->O ω):O ω:=bif XS c.ps then afo s c args k else
 match eC s c.ps args Y with
 |none=>Y|some (x,f,a,d)=>match dS s f with
  |none=>Y|some b=>bif Xg c then ai (c.F x) λr=>match RT.res c.pn r with
     |.ok r=>k (CZ (sX c.rs r.1)) s []|.jJ _=>Y
   else bif rP a&&(rP d&&BJ a f)then
    ai (c.F x) λr=>match RT.res c.pn r with
     |.ok r=>match lM (xV d (forget a {b with wr:=a++b.wr,dr:=a++b.dr})) c.ps d r.2 with
      |none=>Y|some e=>match g9 e c.rs r.1 with
       |(l,g)=>bif Nl g.aF bD then k (CZ l) g a else Y
     |.jJ p=>match lM (xV d (forget a {b with wr:=a++b.wr,dr:=a++b.dr})) c.ps d p.2 with
      |none=>Y|some e=>match a with
       |[]=>bif Nl e.aF bD then kp (.ty S.pt p.1) e else Y|_::_=>Y
   else Y
def xZ(k:V S->bf S->O ω)(d:O ω):L (aa×V S×bf S)->O ω
 |[]=>d|p::l=>aj p.1 (k p.2.1 p.2.2) (xZ k d l)
def evJ(a:JSh)(s:bf S)(f:FuncId)(args:L (V S))(k:V S->bf S->L Nat->O ω):O ω:=
 match qV (PL args) s a.sh a.pts,WG (PL args) s a.ks with
 |some b,Z d=>match qc a.sh b (PL args) s with
  |none=>Y|some (g,c,e)=>bif (Nt (cC args) bD&&(yx a.sh).all λk=>Nt k bD)&&(kE a.rs&&(SI (b++d) d c&&Nl (Ns (Hr (b++d))) c.aF))then
    ai (LR call f a.sh a.rs b d (M9 (b++d) a.sh (PL args)) (ZX b d c) g) λy=>
     match mP (Om a.sh) b y.2 frE (cI [] e b frE c).2 with
     |none=>Y|some (_,h)=>k (CZ (sX a.rs y.1)) {h with wr:=c.ob.ju (gq (dL e c.aF))++(b++(e++c.wr)),dr:=e++c.dr} e
   else Y
 |_,_=>Y
def ydB:aa:=(E.cj 1000000 []).isSome
def zX(s:bf S):Nat->L Nat
 |0=>[]|n+1=>bif Nl s.lo n&&!((s.ob.get n).any jz)then n::zX s n else zX s n
def fdB(f:FuncId):aa:=(E.cj (Na 1000001 f) []).isSome
def ug(s:bf S)(f:FuncId)(args:L (V S))(kp:V S->bf S->O ω)(k:V S->bf S->L Nat->O ω):O ω:=match E.Hv f with
 |some c=>No s c args kp k|none=>match E.cj f args with
  |some a=>evJ call a s f args k|none=>bif fdB E f then call (.jn f) args s (λt b=>k t {b with wr:=zX s s.aF++b.wr,dr:=zX s s.aF++b.dr} (zX s s.aF)) (λ_ _=>Y)else call (.fn f) args s (λt b=>k t b []) kp
def X6(s:bf S)(m:String)(args:L (V S))(n:Nat)(x:den S.A (.de n))(kp:V S->bf S->O ω)(k:V S->bf S->L Nat->O ω):L (TypeId×Ty)->Nat->O ω
 |[],_=>Y|p::l,j=>aj (lW (S.alts n) j (S.tZ n x)) (match E.T.JX p.1 m with
   |some f=>bif Nq p.1 ((nth (S.alts n) j).elim 0 (·.1))then ug E call s f (.ty (mR (S.alts n) j) (jV S.zero (S.alts n) j (S.tZ n x))::args) kp k else Y|none=>Y) (X6 s m args n x kp k l (Ns j))
def ag3:O (V S)->O Nat
 |some (.qN o)=>Z o|_=>Y
def ue(o:Oper)(fr:bV S)(s:bf S)(kp:V S->bf S->O ω)(k:V S->bf S->L Nat->O ω):O ω:=
 match o.op with
 |.call c=>match jN fr c.args.toList with
  |none=>Y|some args=>match c.callee with
   |.builtin b=>match kV E.T s b c.argTypes args with
    |none=>Y|some (p,t,a)=>aU p (k t a [])
   |.value f=>match ag3 (cx fr f)with
    |some o=>bif ydB E then call (.yd o) args s (λt a=>k t {a with wr:=zX s s.aF++a.wr,dr:=zX s s.aF++a.dr} (zX s s.aF)) (λ_ _=>Y)else call (.yl o) args s (λt a=>k t a []) kp
    |none=>match(cx fr f).bind (o8 · args)with
     |none=>Y|some (f,args)=>ug E call s f args kp k
   |.invoke x m=>match cx fr x with
    |some (.de t v)=>match E.T.JX t m with
     |some f=>ug E call s f (v::args) kp k|none=>Y
    |some (.ty (.de n) x)=>X6 E call s m args n x kp k (S.alts n) 0|_=>Y
 |.panic x=>match cx fr x with
  |some (.de t v)=>kp (.de t v) s|_=>Y
 |op=>match Io E.T fr s op with
  |some (e,p,d,a)=>xZ (λv s=>k v s []) (aU p (k d a [])) e|none=>match zS E.T fr s op with
   |none=>Y|some (p,t,a)=>aU p (k t a [])
def yU(c:O aa)(p:aa)(x:O ω):O ω:=match c with
 |none=>aU p x|some c=>aU (imp c p) x
def ajG{α:Type}(c:O aa)(x:O α)(z:α):O α:=match c with
 |none=>x|some c=>aj c x (Z z)
mutual
def u5:V S->aa
 |.sh _ _=>J|.rQ _ _ _ _=>J|.de _ v=>u5 v|.agg a=>jB a|.gG a=>jB a|_=>W
def jB:L (V S)->aa
 |[]=>W|v::l=>u5 v&&jB l
end
def VF(S:Sg):(cs:L Ck)->fU S.A cs
 |[]=>()|c::cs=>(S.zero c.ty,VF S cs)
def ahs(A:Nat->Type):(ps:L Pk)->O (gQ A ps)
 |[]=>Z ()|.one _::ps=>ahs A ps|.box _::_=>Y|.hid _::_=>Y
def Dv:Builtin->aa
 |.len|.max|.min=>W|_=>J
def wC(k:V S->O ω)(d:O ω):L (aa×V S×bf S)->O ω
 |[]=>d|p::l=>aj p.1 (k p.2.1) (wC k d l)
def fm(g:O aa)(fr:bV S)(s:bf S)(o:Oper)(k:V S->O ω):O ω:=
 match o.op with
 |.call c=>match jN fr c.args.toList with
  |none=>Y|some args=>match c.callee with
   |.builtin b=>bif Dv b then match kV E.T s b c.argTypes args with
     |some (p,t,_)=>yU g p (k t)|none=>Y
    else Y
   |.value f=>match(cx fr f).bind (o8 · args)with
    |none=>Y|some (f,args)=>match E.Hv f with
     |none=>Y|some c=>bif cr c.ps&&(jv c.rs&&(jB args&&!c.pn))then
       match eC s c.ps args Y,ahs S.A c.ps with
       |some (x,_,_,_),Z b=>ai (ajG g (c.F x) (RT.ok c.pn (VF S c.rs,b))) λr=>match RT.res c.pn r with
        |.ok r=>k (CZ (sX c.rs r.1))|.jJ _=>Y
       |_,_=>Y
      else Y
   |_=>Y
 |.store ..|.alloc ..|.box ..|.panic ..|.makeMap ..|.mapUpdate ..|.insert ..|.makeSlice ..|.range ..|.next ..|.defer ..=>Y|.buildSlice t n e=>match iL fr e.toList with
  |some l=>bif jB (l.map (·.2))then match zS E.T fr s (.buildSlice t n e)with
   |none=>Y|some (p,v,_)=>yU g p (k v)
   else Y
  |none=>Y
 |.slice t x lo h i=>match cx fr x with
  |some v=>bif u5 v then match zS E.T fr s (.slice t x lo h i)with
   |none=>Y|some (p,v,_)=>yU g p (k v)
   else Y
  |none=>Y
 |op=>match Io E.T fr s op with
  |some (a,p,d,_)=>wC k (yU g p (k d)) a|none=>match zS E.T fr s op with
   |none=>Y|some (p,v,_)=>yU g p (k v)
def A3(fr:bV S)(o:Oper):aa:=
 match o.op with
 |.call c=>match jN fr c.args.toList with
  |none=>J|some args=>match c.callee with
   |.builtin b=>Dv b|.value f=>match(cx fr f).bind (o8 · args)with
    |none=>J|some (f,args)=>match E.Hv f with
     |none=>J|some c=>cr c.ps&&(jv c.rs&&(jB args&&!c.pn))
   |_=>J
 |.store ..|.alloc ..|.box ..|.panic ..|.makeMap ..|.mapUpdate ..|.insert ..|.makeSlice ..|.range ..|.next ..|.defer ..=>J|.buildSlice _ _ a=>match iL fr a.toList with
  |some l=>jB (l.map (·.2))|none=>J
 |.slice _ x _ _ _=>match cx fr x with
  |some v=>u5 v|none=>J
 |_=>W
def ri(fr:bV S)(o:Op):bV S:=
 o.operands.toList.foldl (λf x=>match x with
  |.tmp k=>match fr.get k with
   |some (.gd _ v)=>f.put k v|_=>f
  |_=>f) fr
def M5(c:aa)(fr:bV S)(o:Op):aa:=
 o.operands.toList.foldl (λp x=>match x with
  |.tmp k=>match fr.get k with
   |some (.gd g _)=>p&&imp c g|_=>p
  |_=>p) W
def iB(ops:L Oper)(fr:bV S)(o:Oper):O (O aa):=
 match o.guard with
 |none=>Z Y|some (j,a)=>match((nth ops j).bind (·.dst)).bind fr.get with
  |some (.kb b)=>bif (bif b then a else !a)then Z Y else Z (Z J)|some t=>match rB t with
   |some b=>Z (Z (j3 b a))|none=>Y
  |none=>Y
def uJ(ops:L Oper)(fr:bV S)(o:Oper):aa:=
 match o.guard with
 |none=>J|some (j,a)=>match((nth ops j).bind (·.dst)).bind fr.get with
  |some (.kb b)=>bif b then !a else a|some (.dat (.lit (.tuple _)))=>W|_=>J
def So(ops:L Oper)(d:O Nat):aa:=match d with
 |none=>J|some d=>ops.any λo=>match o.guard with
  |none=>J|some (j,_)=>match(nth ops j).bind (·.dst)with
   |some e=>Nq d e|none=>J
def Jy{ω:Type}(b:aa)(t:V S)(k:V S->O ω):O ω:=bif b then match t with
  |.ty .bool x=>aj x (k (.kb W)) (k (.kb J))|t=>k t
 else k t
def gw(fr:bV S):O Nat->aa
 |none=>W|some d=>Nt d fr.n
def o5(ops:L Oper)(o:Oper)(fr:bV S)(s:bf S)(kp:V S->bf S->O ω)(k:V S->bf S->L Nat->O ω):O ω:=
 bif gw fr o.dst then bif uJ ops fr o then k mN s []else match iB ops fr o with
  |none=>Y|some Y=>ue E call o fr s kp k|some (Z c)=>
   let f:=ri fr o.op
   bif A3 E f o then aU (M5 c fr o.op) (fm E (Z c) f s o λt=>k (.gd c t) s [])
   else aj c (aU (M5 c fr o.op) (ue E call o f s kp k)) (k (.gd J mN) s [])
 else Y
def PY(fr:bV S)(o:Oper):O (so S):=match o.guard,o.op with
 |none,.defer c=>match c.callee with
  |.value f=>match cx fr f,jN fr c.args.toList with
   |some (.fn f a b),Z args=>Z (.call (.fn f a b) args)|_,_=>Y
  |_=>Y
 |_,_=>Y
def PN(ops:L Oper)(o:Oper)(fr:bV S)(s:bf S)(kp:V S->bf S->O ω)(k:bV S->bf S->O ω):O ω:=
 match PY fr o with
 |some d=>bif gw fr o.dst then k {(fr.kG o.dst yq)with df:=d::fr.df} s else Y
 |none=>o5 E call ops o fr s kp λt a b=>Jy (So ops o.dst) t λt=>k ((dx b fr).kG o.dst t) a
def Ss(ops:L Oper)(kp:bV S->V S->bf S->O ω)(k:bV S->bf S->O ω):L Oper->bV S->bf S->O ω
 |[],a,s=>k a s|o::l,a,s=>PN E call ops o a s (kp a) λb c=>Ss ops kp k l b c
end
end TL
end
