import GoSem.Dispatch
import GoSem.Machine.Return
import Derived.Calls
import Derived.RowKit
import Derived.WalkKit
import Derived.Deep.AppendSrc
import Derived.Laws.StructEq
import Derived.Room.AppendAny
import Derived.RangeFuncIn
import Derived.RangeFuncLeaves
import Derived.RangeFuncRecord
import Derived.Orders
set_option linter.all false
set_option maxRecDepth 100000
set_option maxHeartbeats 0
noncomputable section
open Option renaming some->Z,none->Y
open Bool renaming true->W,false->J
open Nat renaming beq->Nq,ble->Nl,blt->Nt,succ->Ns,add->Na
open Go.Result(andThen_ok)
open Go.Sem(run_bind run_pure)
section
namespace TL
section
abbrev O:=@Option
abbrev L:=@List
abbrev U:=Unit
abbrev fV:=@Option.map_eq_some_iff
abbrev gU:=@Nat.le_of_ble_eq_true
abbrev bO:=@if_neg
abbrev fF:=@Bool.and_eq_true
abbrev jr:=@List.getElem?_eq_getElem
abbrev ic:=@List.mem_cons_of_mem
abbrev gR:=@Option.some.injEq
abbrev fE:=@Prod.mk.injEq
abbrev iS:=@Nat.lt_of_lt_of_le
abbrev eR:=@Nat.le_refl
abbrev eY:=@List.mem_append_right
abbrev bB:=@if_pos
abbrev eJ:=@List.mem_cons_self
abbrev fU:=@List.mem_append_left
abbrev eZ:=@List.mem_append
abbrev iz:=@List.mem_of_getElem?
abbrev cU:=@congrArg
abbrev ga:=@List.mem_cons
abbrev kP:=@List.getD_cons_zero
abbrev gD:=@Nat.le_trans
abbrev jl:=@decide_eq_false
abbrev lD:=@List.length_append
abbrev iV:=@Int.natCast_add
abbrev iX:=@Int.natCast_one
abbrev lC:=@List.getElem?_map
abbrev jK:=@Option.map_some
abbrev pF:=@List.length_singleton
abbrev ke:=@Option.some.inj
abbrev lQ:=@List.length_cons
abbrev lB:=@List.all_eq_true
abbrev kj:=@List.append_nil
abbrev kO:=@decide_eq_true
abbrev uq:=@Array.getElem?_eq_getElem
abbrev vM:=@Nat.eq_of_beq_eq_true
abbrev vL:=@Option.bind_eq_some_iff
abbrev uo:=@List.mem_singleton_self
abbrev rM:=@List.getElem_of_mem
abbrev rL:=@List.mem_singleton
abbrev iq:=@cond_true
abbrev tc:=@List.getElem?_append
abbrev qE:=@decide_eq_true_eq
abbrev um:=@List.pairwise_append
abbrev j9:=@cond_false
abbrev pE:=@Bool.or_eq_true
abbrev Fm:=@List.eq_nil_of_length_eq_zero
abbrev pz:=@List.map_cons
abbrev rK:=@Bool.false_and
abbrev zf:=@Nat.mul_le_mul_right
abbrev ze:=@Bool.and_eq_true_iff
abbrev zd:=@Bool.or_eq_false_iff
abbrev jS:=@if_false
abbrev v5:=@List.append_assoc
abbrev vZ:=@Int.toNat_natCast
abbrev sr:=@Bool.true_and
abbrev MO:=@Nat.ble_eq_true_of_le
abbrev Al:=@List.mem_filterMap
abbrev ki:=@if_true
abbrev MN:=@List.getD_eq_getElem?_getD
abbrev MM:=@List.mem_zipIdx_iff_getElem?
abbrev Fl:=@List.contains_eq_mem
abbrev ya:=@Nat.zero_add
abbrev Ku:=@List.singleton_append
abbrev ML:=@List.getElem?_cons_zero
abbrev zc:=@List.mem_map
abbrev Kt:=@Int.toNat_of_nonneg
abbrev Ks:=@List.getD_cons_succ
abbrev Ww:=@List.pairwise_iff_getElem
abbrev T9:=@List.getElem?_eq_some_iff
abbrev Wv:=@List.take_append_drop
abbrev MK:=@List.getElem_mem
abbrev MJ:=@Bool.false_eq_true
abbrev T8:=@Classical.axiomOfChoice
abbrev Kr:=@List.length_set
abbrev Wu:=@List.length_eq_one_iff
abbrev Wt:=@Array.getElem?_eq_some_iff
abbrev vK:=@Iff.rfl
abbrev Kq:=@Bool.and_false
abbrev Ws:=@List.mem_or_eq_of_mem_set
abbrev MI:=@List.nil_append
abbrev Py:=@List.getElem?_set
abbrev Wr:=@decide_eq_false_iff_not
abbrev T7:=@List.length_pos_iff
abbrev Wq:=@List.map_congr_left
abbrev T6:=@Array.toList_append
abbrev MH:=@Nat.testBit_or
abbrev Wp:=@List.getElem?_set_self
abbrev Ih:=@Nat.zero_le
abbrev Ig:=@Int.le_refl
abbrev T5:=@List.getElem?_take
abbrev T4:=@List.map_append
abbrev Wo:=@List.getElem?_zipWith
abbrev aaH:=@List.exists_cons_of_ne_nil
abbrev T3:=@Bool.not_eq_true'
abbrev T2:=@Classical.not_not
abbrev Wn:=@List.getElem?_of_mem
abbrev aaG:=@List.drop_eq_getElem_cons
abbrev amJ:=@Option.filter_eq_some_iff
abbrev Px:=@Option.map_map
abbrev MG:=@Nat.le_of_eq
abbrev Pw:=@Bool.and_true
abbrev M5:=@List.getElem?_drop
abbrev M4:=@List.length_map
abbrev M3:=@List.length_nil
abbrev I3:=@List.nodup_cons
abbrev CS:=@Nat.le_succ
abbrev M1:=@List.ext_getElem?
abbrev M0:=@of_decide_eq_true
abbrev Fo:=@List.map_set
abbrev Sr:=@List.getElem?_toArray
abbrev Sq:=@List.eq_nil_or_concat
abbrev Sp:=@List.concat_eq_append
abbrev So:=@List.mem_of_mem_take
abbrev MZ:=@List.length_take
abbrev Sn:=@Nat.div_lt_of_lt_mul
abbrev MY:=@List.take_length
abbrev I2:=@Bool.not_true
abbrev MX:=@List.foldl_cons
abbrev MW:=@List.cons.injEq
abbrev WU:=@Classical.byContradiction
abbrev MV:=@List.all_append
abbrev MU:=@Nat.mul_comm
abbrev WT:=@List.eq_of_mem_replicate
abbrev I1:=@Nat.le_of_lt
abbrev I0:=@Int.add_zero
abbrev MS:=@Nat.mul_le_mul
abbrev MR:=@Bool.not_false
abbrev ade:=@List.drop_drop
abbrev adb:=@Array.toList_eq_nil_iff
abbrev Sl:=@List.size_toArray
abbrev Sk:=@Nat.lt_succ_of_le
abbrev IZ:=@Nat.one_mul
abbrev MQ:=@Bool.and_self
abbrev Sj:=@List.length_drop
abbrev Si:=@Option.bind_some
abbrev Sf:=@Option.getD_some
abbrev Se:=@Array.toList_map
abbrev Sd:=@List.any_eq_true
open Go
inductive Tr(α:Type) where
 |nil|node (v:Option α) (l r:Tr α)
 deriving Inhabited
namespace Tr
variable {α:Type}
def get:Tr α->Nat->O α
 |.nil,_=>Y|.node v l r,k=>match k with
  |0=>v|k+1=>match Nq (Nat.mod k 2) 0 with
   |true=>l.get (Nat.div k 2)|false=>r.get (Nat.div k 2)
def set:Nat->Tr α->Nat->α->Tr α
 |0,t,_,_=>t|n+1,.nil,k,x=>match k with
  |0=>.node (Z x) .nil .nil|k+1=>match Nq (Nat.mod k 2) 0 with
   |true=>.node Y (set n .nil (Nat.div k 2) x) .nil|false=>.node Y .nil (set n .nil (Nat.div k 2) x)
 |n+1,.node v l r,k,x=>match k with
  |0=>.node (Z x) l r|k+1=>match Nq (Nat.mod k 2) 0 with
   |true=>.node v (set n l (Nat.div k 2) x) r|false=>.node v l (set n r (Nat.div k 2) x)
end Tr
def oP:IntKind->IntKind->Bool
 |.i8,.i8|.i16,.i16|.i32,.i32|.i64,.i64|.u8,.u8|.u16,.u16|.u32,.u32|.u64,.u64=>W|_,_=>J
def cE{α:Type}:L α->Nat
 |[]=>0|_::l=>Ns (cE l)
def nth{α:Type}:L α->Nat->O α
 |[],_=>Y|a::_,0=>Z a|_::l,k+1=>nth l k
inductive D where
 |lit (v:Value)|sl (es:List D)|agg (cs:List D)|di (t:TypeId) (d:D)|gT (ds:List D)|pt (d:D)|mp (ks vs:List D)
 deriving Inhabited
namespace D
def toInt:D->Int|.lit (.int _ n)=>n|_=>0
def isInt(k:IntKind):D->Bool|.lit (.int j _)=>oP j k|_=>J
def toBool:D->Bool|.lit (.bool b)=>b|_=>J
def isBool:D->Bool|.lit (.bool _)=>W|_=>J
def toStr:D->ByteArray|.lit (.string b)=>b|_=>.empty
def isStr:D->Bool|.lit (.string _)=>W|_=>J
def aem:D->L D|.sl es=>es|_=>[]
def aiG:D->Bool|.sl _=>W|_=>J
def cells:D->L D|.agg cs=>cs|d=>[d]
def cell(d:D)(j:Nat):D:=d.cells.getD j (.lit (.tuple #[]))
def leaf:D->Bool
 |.agg _|.gT _=>J|.lit (.agg _)|.lit (.tuple _)=>J|_=>W
def isAgg(n:Nat):D->Bool|.agg cs=>Nq (cE cs) n&&cs.all leaf|_=>J
def proj:D->Nat->D|.gT ds,k=>ds.getD k (.lit (.tuple #[]))|_,_=>.lit (.tuple #[])
def afH(n:Nat):D->Bool|.gT ds=>Nt n (cE ds)|_=>J
def aiH:D->Bool|.di _ _=>W|_=>J
def has(d:D)(m:Nat):Prop:=m<=d.cells.length
def wide(d:D)(m:Nat):Prop:=d.cells.length=m
def lby:D->Nat
 |.lit (.string _)|.lit .nilIface|.di _ _=>16|.sl _|.lit (.slice ..)=>24|_=>8
def oY:L D->Nat
 |[]=>0|d::l=>Na d.lby (oY l)
def sM:D->Nat
 |.agg a=>oY a|.lit (.bool _)=>1|.lit (.int .i8 _)|.lit (.int .u8 _)=>1|.lit (.int .i16 _)|.lit (.int .u16 _)=>2|.lit (.int .i32 _)|.lit (.int .u32 _)=>4|d=>d.lby
def flat(d:D):Bool:=d.cells.all leaf
def O6(d:D)(off:Nat)(l:L D):D:=match d with
 |.agg a=>.agg (a.take off++l++a.drop (off+l.length))|d=>l.getD 0 d
def RO(d:D)(sz off n:Nat):Prop:=d.isAgg sz=W∨(d.leaf=W∧sz=1∧off=0∧n=1)
end D
def jq(es:L D)(i:Nat):D:=es.getD i (.lit (.tuple #[]))
def eP(es:L D):Int:=es.length
def lW(n:Int)(len:Int):Prop:=0<=n∧n<len
def yW(lo hi len:Int):Prop:=0<=lo∧lo<=hi∧hi<=len
def o6(es:L D)(lo hi:Int):L D:=(es.take hi.toNat).drop lo.toNat
def LL(b:ByteArray)(lo hi:Int):ByteArray:=b.extract lo.toNat hi.toNat
def vk(b:ByteArray):Int:=b.size
def ZU(b:ByteArray)(n:Int):Int:=(b.get! n.toNat).toNat
def LM(a b:ByteArray):Prop:=a.size+b.size<=4611686018427387904
def Rp(a b:ByteArray):ByteArray:=a++b
def iG(a b:L D):L D:=a++b
def yV(es:L D)(k:Nat)(d:D):L D:=es.set k d
def jI(es:L D)(sz:Nat):Prop:=∀d∈es,d.cells.length=sz
def vG(es:L D)(b:Nat):Prop:=∀d∈es,d.sM=b∧d.flat=W
def DK(n:Int):Nat:=n.toNat
def zW:Int:=0
def aG(k:IntKind)(a b:Int):Int:=k.wrap (a+b)
def bf(k:IntKind)(a b:Int):Int:=k.wrap (a-b)
def HL(k:IntKind)(a b:Int):Int:=k.wrap (a*b)
def OY(k:IntKind)(a:Int):Int:=k.wrap (-a)
def Rq(k:IntKind)(a:Int):Int:=k.wrap a
def HK(a b:Int):Int:=a.tmod b
def ZV(k:IntKind)(a b:Int):Int:=k.wrap (a.tdiv b)
def agG(a:Int):Prop:=a≠0
def aa(a b:Int):Bool:=a==b
def o7(a b:Bool):Bool:=a==b
def Tv(a b:ByteArray):Bool:=a==b
def aE(a b:Int):Bool:=decide (a<b)
def br(a b:Int):Bool:=decide (a<=b)
def ZW(c a b:Bool):Bool:=if c then a else b
def au(a:Bool):Bool:=!a
def bZ(a b:Bool):Bool:=a&&b
inductive T where
 |sym (d:D)|kb (b:Bool)|kn (k:IntKind) (n:Int)|ptr (o off:Nat)|mc (d:D) (off:Nat)|l9 (o e i off:Nat)|sh (o e:Nat)|emp|kM (n:Nat) (es:List D)|fn (f:Fn) (first cap:List T)
 |di (t:TypeId) (v:T)|agg (cs:List T)|gT (vs:List T)|gd (c:Bool) (v:T)|mp (o:Nat)|rJ (o:Nat)|ud (o:Nat)|ub (e:Bool)|sy (o m r i:Nat)|pU (j:Nat) (d:D)
 deriving Inhabited
inductive Df where
 |call (f:T) (args:List T)|mark (o:Nat)|marks (o:Nat)|kK|bad
 deriving Inhabited
def Df.one:Df->Bool
 |.marks _|.kK=>J|_=>W
structure Fr where
 n:Nat
 tm:Tr T
 df:List Df:=[]
 deriving Inhabited
structure Lp where
 st:LoopState
 vN:Option Code
 fid:FuncId
 fr:Fr
 params:List Nat
 assign:Code
 body:Code
inductive Ob where
 |box (cs:List T)|arr (sz:Nat) (es:List D) (era:Nat)|lK (sz:Nat) (es:List D) (era:Nat)|map (es:List (T×T))|rI (b:ByteArray) (pos:Nat)|lp (l:Lp)|zZ|lS (nj sz:Nat) (es:List D) (era m g9:Nat) (hole:Option Nat)|rws (sz:Nat) (iU:List (List D)) (g9:Nat)|gone|FG
 deriving Inhabited
def Ob.ov:Ob->Bool
 |.arr ..|.lK ..|.lS ..|.rws ..|.gone|.FG=>W|_=>J
def Ob.isA:Ob->Bool
 |.arr ..|.lK ..=>W|_=>J
def Ob.odd:Ob->Bool
 |.map _|.rI _ _|.lp _|.zZ=>W|_=>J
structure St where
 ob:Tr Ob
 aD:Nat
 fl:Nat
 lo:Nat
 deriving Inhabited
def aM:Nat:=64
def bI:Nat:=1000000000
def Fr.get(fr:Fr)(k:Nat):O T:=fr.tm.get k
def Fr.put(fr:Fr)(k:Nat)(v:T):Fr:={fr with tm:=fr.tm.set aM k v}
def Fr.jm(fr:Fr)(k:O Nat)(v:T):Fr:=match k with|some k=>fr.put k v|none=>fr
inductive Lk where
 |int (k:IntKind)|bool|str|no
 deriving DecidableEq,Inhabited
inductive Kd where
 |leaf (l:Lk)|ptr|slice (sz:Nat) (agg:Bool) (sM:Nat) (zero:List D)|struct (fs:List (Nat×Nat×Bool))|array (len sz:Nat) (agg:Bool)|iface|other
 deriving Inhabited
structure TI where
 size:Nat
 agg:Bool
 zero:List D
 lks:List Lk
 kd:Kd
 deriving Inhabited
structure OZ where
 pre:List D->Prop
 f:List D->D
structure Env where
 P:Program
 ti:Nat->Option TI
 SV:Nat->Option Func
 Iq:Nat->Option OZ
def CZ:Value->O D
 |.bool b=>Z (.lit (.bool b))|.int k n=>Z (.lit (.int k n))|.string s=>Z (.lit (.string s))|.pointer Y=>Z (.lit (.pointer Y))|.map Y=>Z (.lit (.map Y))|.nilFunc=>Z (.lit .nilFunc)|.nilIface=>Z (.lit .nilIface)|.tuple a=>match a.toList with
  |[]=>Z (.lit (.tuple #[]))|_=>Y
 |_=>Y
def ofConst:Value->O T
 |.bool b=>Z (.kb b)|.int k n=>Z (.kn k n)|.slice Y 0 0=>Z .emp|.func f a b=>match a.toList,b.toList with
  |[],[]=>Z (.fn f [] [])|_,_=>Y
 |.iface t v=>(CZ v).map λd=>.sym (.di t d)|v=>(CZ v).map .sym
def qH:D->T
 |.lit (.bool b)=>.kb b|.lit (.int k n)=>.kn k n|.sl []=>.emp|d=>.sym d
def T.leaf:T->Prop
 |.sym d=>d.leaf=W|.agg _|.gT _|.gd _ _=>False|_=>True
def kJ(i:TI):T->O (Prop×L T)
 |.agg a=>bif i.agg&&Nq (cE a) i.size then Z (True,a)else Y|.sym d=>
  bif i.agg then Z (d.isAgg i.size=W,(List.range i.size).map λj=>.sym (d.cell j))
  else bif Nq i.size 1 then Z (d.leaf=W,[.sym d])else Y
 |.gT _|.gd _ _=>Y|t=>bif i.agg then Y else bif Nq i.size 1 then Z (True,[t])else Y
def v8(agg:Bool)(cs:L T):O T:=
 bif agg then Z (.agg cs)else match cs with
  |[x]=>Z x|_=>Y
def kr(fr:Fr):Operand->O T
 |.tmp k=>fr.get k|.const v=>ofConst v|.global _=>Y|.func f=>Z (.fn (.func f) [] [])
def yD(fr:Fr):L Operand->O (L T)
 |[]=>Z []|x::l=>match kr fr x,yD fr l with
  |some t,Z r=>Z (t::r)|_,_=>Y
def yc(k:IntKind):T->O (Prop×Int)
 |.kn j n=>bif oP j k then Z (True,n)else Y|.sym d=>Z (d.isInt k=W,d.toInt)|_=>Y
def A4:T->O (Prop×Bool)
 |.kb b=>Z (True,b)|.sym d=>Z (d.isBool=W,d.toBool)|_=>Y
def z9:T->O (Prop×ByteArray)
 |.sym d=>Z (d.isStr=W,d.toStr)|_=>Y
def BA(s:St):T->O (Prop×L D)
 |.emp=>Z (True,[])|.kM _ a=>Z (True,a)|.pU _ d=>Z (True,[d])|.sym d=>Z (d.aiG=W,d.aem)|.sh o e=>match s.ob.get o with
  |some (.arr _ a era)|some (.lK _ a era)=>bif Nq e era then Z (True,a)else Y|_=>Y
 |_=>Y
def AG(nj:Nat)(d:D)(a:L D):D:=.agg (d.cells.set nj (.sl a))
def mX(nj:Nat)(es:L D)(iU:L (L D)):L D:=List.zipWith (AG nj) es iU
def Ib(s:St)(m r:Nat):O (L (L D)):=match s.ob.get m with
 |some (.rws _ a b)=>bif Nq r b then Z a else Y|_=>Y
mutual
def Bw(s:St):T->O (Prop×D×L Nat)
 |.sym d=>Z (True,d,[])|.kb b=>Z (True,.lit (.bool b),[])|.kn k n=>Z (True,.lit (.int k n),[])|.emp=>Z (True,.sl [],[])|.kM _ a=>Z (True,.sl a,[])|.pU _ d=>Z (True,.sl [d],[])|.sh o e=>match s.ob.get o with
  |some (.arr _ a era)=>bif Nq e era then Z (True,.sl a,[o])else Y|some (.lK _ a era)=>bif Nq e era then Z (True,.sl a,[])else Y|some (.lS g _ a era m r Y)=>match Ib s m r with
   |some c=>bif Nq e era&&Nt m bI then Z (True,.sl (mX g a c),[o,m])else Y|none=>Y
  |_=>Y
 |.di t v=>match Bw s v with
  |some (p,d,os)=>Z (p,.di t d,os)|none=>Y
 |.agg f=>match og s f with
  |some (p,ds,os)=>Z (p∧ds.all D.leaf=W,.agg ds,os)|none=>Y
 |.gT f=>match og s f with
  |some (p,ds,os)=>Z (p,.gT ds,os)|none=>Y
 |_=>Y
def og(s:St):L T->O (Prop×L D×L Nat)
 |[]=>Z (True,[],[])|t::l=>match Bw s t,og s l with
  |some (p,d,os),Z (q,ds,a)=>Z (p∧q,d::ds,os++a)|_,_=>Y
end
def freeze(s:St):L Nat->O St
 |[]=>Z s|o::l=>
  bif Nl s.fl o then match s.ob.get o with
   |some (.arr sz a era)=>freeze {s with ob:=s.ob.set aM o (.lK sz a era)} l
   |some (.lK _ _ _)=>freeze s l|some (.lS c sz a era m r Y)=>match Ib s m r with
    |some b=>bif l.contains m&&(Nl s.fl m&&Nt m bI)then freeze {s with ob:=(s.ob.set aM m .gone).set aM o (.lK sz (mX c a b) era)} l else Y
    |none=>Y
   |some (.rws ..)=>freeze s l|some .gone=>freeze s l|_=>Y
  else Y
def ew(s:St)(o:Ob):Nat×St:=(s.aD,{s with ob:=s.ob.set aM s.aD o,aD:=Ns s.aD})
def ri:Lk->T->T->O (Prop×Bool)
 |.int k,a,b=>match yc k a,yc k b with
  |some (p,x),Z (q,y)=>Z (p∧q,aa x y)|_,_=>Y
 |.bool,a,b=>match A4 a,A4 b with
  |some (p,x),Z (q,y)=>Z (p∧q,o7 x y)|_,_=>Y
 |.str,a,b=>match z9 a,z9 b with
  |some (p,x),Z (q,y)=>Z (p∧q,Tv x y)|_,_=>Y
 |.no,_,_=>Y
def kG:L Lk->L T->L T->O (Prop×Bool)
 |[],[],[]=>Z (True,W)|k::c,a::as,b::d=>match ri k a b,kG c as d with
  |some (p,x),Z (q,y)=>Z (p∧q,bZ x y)|_,_=>Y
 |_,_,_=>Y
def adD:T->T->O (Prop×Bool)
 |.sym (.lit (.pointer Y)),.ptr _ _=>Z (True,J)|.ptr _ _,.sym (.lit (.pointer Y))=>Z (True,J)|_,_=>Y
def adE:T->T->O (Prop×Bool)
 |.sym (.lit .nilIface),.di _ _=>Z (True,J)|.di _ _,.sym (.lit .nilIface)=>Z (True,J)|_,_=>Y
def Iz(s:St)(o e:Nat):O (Nat×L D):=
 match s.ob.get o with
 |some (.arr sz a era)=>bif Nq e era then Z (sz,a)else Y|some (.lK sz a era)=>bif Nq e era then Z (sz,a)else Y|_=>Y
def nt(i:TI)(d:D)(off:Nat):O T:=
 bif i.agg then Z (.agg ((List.range i.size).map λj=>.sym (d.cell (Na off j))))
 else bif Nq i.size 1 then Z (.sym (d.cell off))else Y
abbrev ue:=O (Prop×T×St)
def RK:T:=.sym (.lit (.tuple #[]))
def loadT(i:TI)(s:St):T->ue
 |.ptr o off=>match s.ob.get o with
  |some (.box b)=>
   let l:=(b.drop off).take i.size
   bif Nq (cE l) i.size then(v8 i.agg l).map λt=>(True,t,s)else Y
  |_=>Y
 |.mc d off=>(nt i d off).map λt=>(d.has (Na off i.size),t,s)|.l9 o e k off=>match Iz s o e with
  |some (_,a)=>(nt i (jq a k) off).map λt=>(lW k (eP a)∧(jq a k).has (Na off i.size),t,s)|none=>Y
 |_=>Y
def leaves:L T->Prop
 |[]=>True|t::l=>t.leaf∧leaves l
def storeT(i:TI)(s:St)(a x:T):ue:=
 match kJ i x with
 |none=>Y|some (p,l)=>match a with
  |.ptr o off=>match s.ob.get o with
   |some (.box d)=>
    bif Nl s.fl o&&Nl (Na off (cE l)) (cE d)then
     Z (p∧leaves l,RK,{s with ob:=s.ob.set aM o (.box (d.take off++l++d.drop (Na off (cE l))))})
    else Y
   |_=>Y
  |.l9 o e k off=>match og s l with
   |some (q,ds,os)=>match freeze s os with
    |some c=>match c.ob.get o with
     |some (.arr sz b era)=>
      bif Nl c.fl o&&Nq e era then
       Z (p∧q∧ds.all D.leaf=W∧lW k (eP b)∧(jq b k).RO sz off (cE ds)∧Nl (Na off (cE ds)) sz=W∧((jq b k).O6 off ds).sM=(jq b k).sM,
        RK,{c with ob:=c.ob.set aM o (.arr sz (yV b k ((jq b k).O6 off ds)) era)})
      else Y
     |_=>Y
    |none=>Y
   |none=>Y
  |_=>Y
def Gs(place:Nat->O (Nat×TI))(cells:L T):L (Nat×T)->O (Prop×L T)
 |[]=>Z (True,cells)|(k,v)::a=>match place k with
  |none=>Y|some (off,i)=>match kJ i v with
   |none=>Y|some (p,l)=>
    bif Nl (Na off (cE l)) (cE cells)then
     (Gs place (cells.take off++l++cells.drop (Na off (cE l))) a).map λ(q,r)=>(p∧leaves l∧q,r)
    else Y
def su(fr:Fr):L (Nat×Operand)->O (L (Nat×T))
 |[]=>Z []|(k,x)::l=>match kr fr x,su fr l with
  |some t,Z r=>Z ((k,t)::r)|_,_=>Y
def sH(s:St)(i:TI)(es:L D):L (Nat×T)->O (Prop×L D×L Nat)
 |[]=>Z (True,es,[])|(k,v)::a=>match Bw s v with
  |none=>Y|some (p,d,os)=>
   bif Nt k (cE es)then
    (sH s i (es.set k d) a).map λ(q,r,b)=>(p∧(bif i.agg then d.isAgg i.size else d.leaf)=W∧q,r,os++b)
   else Y
def Vi(op:BinOp)(k:IntKind)(m n:Int):O D:=
 match op with
 |.lss=>Z (.lit (.bool (aE m n)))|.leq=>Z (.lit (.bool (br m n)))|.gtr=>Z (.lit (.bool (aE n m)))|.geq=>Z (.lit (.bool (br n m)))|.add=>Z (.lit (.int k (aG k m n)))|.sub=>Z (.lit (.int k (bf k m n)))|.mul=>Z (.lit (.int k (HL k m n)))|_=>Y
def Yx(op:BinOp)(k:IntKind)(m n:Int):O D:=
 match op with
 |.rem=>Z (.lit (.int k (HK m n)))|.quo=>Z (.lit (.int k (ZV k m n)))|_=>Y
def Yn(i:TI)(a b:T):O (Prop×Bool):=
 bif i.agg then match i.lks,kJ i a,kJ i b with
  |[],_,_=>Y|k::c,Z (p,as),Z (q,d)=>(kG (k::c) as d).map λ(r,x)=>(p∧q∧r,x)|_,_,_=>Y
 else match i.kd with
  |.leaf k=>ri k a b|.ptr=>adD a b|.iface=>adE a b|_=>Y
def Ll(i:TI)(op:BinOp)(a b:T):O (Prop×D):=
 match op with
 |.eql=>(Yn i a b).map λ(p,r)=>(p,.lit (.bool r))|.neq=>(Yn i a b).map λ(p,r)=>(p,.lit (.bool (au r)))|op=>match i.kd with
  |.leaf (.int k)=>match yc k a,yc k b with
   |some (p,m),Z (q,n)=>match Vi op k m n with
    |some d=>Z (p∧q,d)|none=>(Yx op k m n).map λd=>(p∧q∧agG n,d)
   |_,_=>Y
  |.leaf .str=>match op,z9 a,z9 b with
   |.add,Z (p,m),Z (q,n)=>Z (p∧q∧LM m n,.lit (.string (Rp m n)))|_,_,_=>Y
  |_=>Y
def Nd(fr:Fr):O Operand->O (O T)
 |none=>Z Y|some x=>(kr fr x).map Z
def wW(dflt:Int):O T->O (Prop×Int)
 |none=>Z (True,dflt)|some t=>yc .i64 t
def tA:T->L Nat
 |.sh o _=>[o]|_=>[]
def qz(i:TI)(s:St)(v:T)(l h m:O T):ue:=
 match i.kd,wW zW l with
 |.leaf .str,Z (p,lo)=>match z9 v,m with
  |some (q,b),Y=>match wW (vk b) h with
   |some (r,a)=>Z (p∧q∧r∧yW lo a (vk b),.sym (.lit (.string (LL b lo a))),s)|none=>Y
  |_,_=>Y
 |.slice sz _ _ _,Z (p,lo)=>match BA s v,freeze s (tA v)with
  |some (q,c),Z d=>match wW (eP c) h,m,h with
   |some (r,a),Y,_=>Z (p∧q∧r∧jI c sz∧yW lo a (eP c),.sym (.sl (o6 c lo a)),d)|some (r,a),Z y,Z _=>match y with
    |.kn .i64 0=>Z (p∧q∧r∧lo=zW∧a=zW,.emp,s)|y=>(yc .i64 y).map λ(t,e)=>
     (p∧q∧r∧t∧jI c sz∧yW lo a (eP c)∧e=a,.kM 0 (o6 c lo a),d)
   |_,_,_=>Y
  |_,_=>Y
 |_,_=>Y
def IA:T->O (Prop×Bool)
 |.gd g v=>match A4 v with
  |some (q,y)=>Z (g=W∧q,y)|none=>Y
 |.kb b=>Z (True,b)|.sym d=>Z (d.isBool=W,d.toBool)|_=>Y
def I5(c a b:T):O (Prop×T):=
 match c with
 |.kb u=>match IA (bif u then a else b)with
  |some (q,y)=>Z (q,.sym (.lit (.bool y)))|none=>Y
 |c=>match A4 c,IA a,IA b with
  |some (p,t),Z (q,x),Z (r,y)=>Z (p∧(t=W->q)∧(t=J->r),.sym (.lit (.bool (ZW t x y))))|_,_,_=>Y
def A9(n sz:Nat)(s:St)(x a:T):ue:=match x,a with
 |.mc d b,.kn .i64 (.ofNat j)=>bif Nt j n then Z (True,.mc d (Na b (Nat.mul j sz)),s)else Y|_,_=>Y
def kD(i:TI)(s:St)(x b:T):ue:=
 match i.kd,yc .i64 b with
 |.slice sz _ _ _,Z (p,n)=>match x with
  |.sh o e=>match Iz s o e with
   |some (z,a)=>bif Nq z sz then Z (p∧lW n (eP a),.l9 o e (DK n) 0,s)else Y|none=>Y
  |v=>match BA s v with
   |some (q,a)=>Z (p∧q∧lW n (eP a)∧(jq a (DK n)).wide sz,.mc (jq a (DK n)) 0,s)|none=>Y
 |.array n sz _,_=>A9 n sz s x b|_,_=>Y
def rf(i:TI)(s:St)(k:Nat)(x:T):ue:=
 match i.kd with
 |.struct a=>match nth a k with
  |some (off,size,_)=>bif Nq size 0 then Y else match x with
   |.ptr o b=>Z (True,.ptr o (Na b off),s)|.mc d b=>Z (True,.mc d (Na b off),s)|.l9 o e j b=>Z (True,.l9 o e j (Na b off),s)|_=>Y
  |none=>Y
 |_=>Y
def Gt(i:TI)(s:St)(k:Nat)(x:T):ue:=
 match i.kd with
 |.struct a=>match nth a k,kJ i x with
  |some (off,size,b),Z (p,c)=>
   let l:=(c.drop off).take size
   bif Nq (cE l) size&&!(Nq size 0)then(v8 b l).map λt=>(p,t,s)else Y
  |_,_=>Y
 |_=>Y
def Ge(i:TI)(s:St)(x a:T):ue:=
 match i.kd,yc .i64 a,z9 x with
 |.leaf .str,Z (p,n),Z (q,b)=>Z (p∧q∧lW n (vk b),.sym (.lit (.int .u8 (ZU b n))),s)|_,_,_=>Y
def sd(i:TI)(s:St)(t:TypeId)(ok:Bool)(x:T):ue:=
 match i.kd,x,ok with
 |.iface,_,_=>Y|_,.di u v,W=>bif Nq u t then Z (True,.gT [v,.kb W],s)else
   (v8 i.agg (i.zero.map qH)).map λz=>(True,.gT [z,.kb J],s)
 |_,.di u v,J=>bif Nq u t then Z (True,v,s)else Y|_,_,_=>Y
def unT(i:TI)(op:UnOp)(v:T):O (Prop×D):=
 match op,i.kd with
 |.not,.leaf .bool=>(A4 v).map λ(p,b)=>(p,.lit (.bool (au b)))|.neg,.leaf (.int k)=>(yc k v).map λ(p,n)=>(p,.lit (.int k (OY k n)))|_,_=>Y
def JE(i j:TI)(s:St)(v:T):ue:=
 match i.kd,j.kd with
 |.leaf (.int k),.leaf (.int l)=>(yc k v).map λ(p,n)=>(p,.sym (.lit (.int l (Rq l n))),s)|.leaf .str,.leaf .str=>(z9 v).map λ(p,_)=>(p,v,s)|_,_=>Y
def tL(s:St)(k:Nat):T->ue
 |.gT a=>(nth a k).map λt=>(True,t,s)|.sym d=>Z (d.afH k=W,.sym (d.proj k),s)|_=>Y
def oL(E:Env)(fr:Fr)(s:St)(o:Op):ue:=
 match o with
 |.move x=>(kr fr x).map λt=>(True,t,s)|.assign x=>(kr fr x).map λt=>(True,t,s)|.pick c a b=>match kr fr c,kr fr a,kr fr b with
  |some c,Z a,Z b=>(I5 c a b).map λ(p,t)=>(p,t,s)|_,_,_=>Y
 |.alloc t=>match E.ti t with
  |some i=>bif Nt s.aD bI then Z (True,.ptr s.aD 0,(ew s (.box (i.zero.map qH))).2)else Y|none=>Y
 |.box t x=>match E.ti t,kr fr x with
  |some i,Z v=>bif Nt s.aD bI then(kJ i v).map λ(p,q)=>(p,.ptr s.aD 0,(ew s (.box q)).2)else Y|_,_=>Y
 |.build t parts=>match E.ti t,su fr parts.toList with
  |some i,Z r=>match i.kd with
   |.struct z=>(Gs (λk=>match nth z k with|some (off,size,g)=>Z (off,{(default:TI)with size:=size,agg:=g})|none=>Y) (i.zero.map qH) r).map
     λ(p,q)=>(p,.agg q,s)
   |_=>Y
  |_,_=>Y
 |.buildSlice t len parts=>match E.ti t,su fr parts.toList with
  |some i,Z r=>match i.kd with
   |.slice sz g _ zero=>
    bif (g||Nq sz 1)&&(Nq (cE zero) sz&&(!(Nq sz 0)&&Nl (Nat.mul len sz) 16777216))then
     match sH s {(default:TI)with size:=sz,agg:=g} (List.replicate len (bif g then .agg zero else zero.getD 0 default)) r with
     |some (p,A,os)=>(freeze s os).map λs=>(p,.kM len A,s)|none=>Y
    else Y
   |_=>Y
  |_,_=>Y
 |.load t a=>match E.ti t,kr fr a with
  |some i,Z a=>loadT i s a|_,_=>Y
 |.store t a x=>match E.ti t,kr fr a,kr fr x with
  |some i,Z a,Z x=>storeT i s a x|_,_,_=>Y
 |.nilCheck x=>match kr fr x with
  |some (.ptr o b)=>Z (True,.ptr o b,s)|some (.mc d b)=>Z (True,.mc d b,s)|some (.l9 o e j b)=>Z (True,.l9 o e j b,s)|some (.di t v)=>Z (True,.di t v,s)|some (.fn (.func f) a b)=>Z (True,.fn (.func f) a b,s)|some (.sym d)=>Z (d.aiH=W,.sym d,s)|_=>Y
 |.binOp op t x y _=>match E.ti t,kr fr x,kr fr y with
  |some i,Z a,Z b=>(Ll i op a b).map λ(p,d)=>(p,.sym d,s)|_,_,_=>Y
 |.unOp op t x=>match E.ti t,kr fr x with
  |some i,Z v=>(unT i op v).map λ(p,d)=>(p,.sym d,s)|_,_=>Y
 |.convert src u x=>match E.ti src,E.ti u,kr fr x with
  |some i,Z j,Z v=>JE i j s v|_,_,_=>Y
 |.makeInterface t x=>match E.ti t,kr fr x with
  |some i,Z v=>match i.kd with
   |.iface=>Y|_=>Z (True,.di t v,s)
  |_,_=>Y
 |.makeFunc f first cap=>match yD fr first.toList,yD fr cap.toList with
  |some a,Z b=>Z (True,.fn f a b,s)|_,_=>Y
 |.extract x k=>match kr fr x with
  |some v=>tL s k v|none=>Y
 |.fieldAddr t x k=>match E.ti t,kr fr x with
  |some i,Z v=>rf i s k v|_,_=>Y
 |.field t x k=>match E.ti t,kr fr x with
  |some i,Z v=>Gt i s k v|_,_=>Y
 |.indexAddr t x w=>match E.ti t,kr fr x,kr fr w with
  |some i,Z v,Z n=>kD i s v n|_,_,_=>Y
 |.index t x w=>match E.ti t,kr fr x,kr fr w with
  |some i,Z v,Z n=>Ge i s v n|_,_,_=>Y
 |.slice t x lo B C=>match E.ti t,kr fr x,Nd fr lo,Nd fr B,Nd fr C with
  |some i,Z v,Z l,Z h,Z m=>qz i s v l h m|_,_,_,_,_=>Y
 |.typeAssert x _ t ok=>match E.ti t,kr fr x with
  |some i,Z v=>sd i s t ok v|_,_=>Y
 |_=>Y
def D.SY(a b:L D):Prop:=a.length+b.length<=17179869184
def uW(i:TI)(s:St)(x y:T):ue:=
 bif !(Nt s.aD bI)then Y else
 match i.kd,BA s y with
 |.slice sz _ b _,Z (q,new)=>
  match x with
  |.emp=>Z (q∧jI new sz∧vG new b,.sh s.aD 0,(ew s (.arr sz new 0)).2)|.kM _ a=>
   let c:=q∧jI (iG a new) sz∧vG (iG a new) b∧D.SY a new
   match y with
   |.kM (_+1) _=>Z (c,.sh s.aD 0,(ew s (.arr sz (iG a new) 0)).2)|_=>Z (c,.sym (.sl (iG a new)),s)
  |.sh o e=>match s.ob.get o with
   |some (.arr z a era)=>
    bif Nl s.fl o&&Nq e era&&Nq z sz&&!(tA y).contains o then
     Z (q∧jI new sz∧vG (iG a new) b∧D.SY a new,.sh o (Ns era),{s with ob:=s.ob.set aM o (.arr sz (iG a new) (Ns era))})
    else Y
   |_=>Y
  |_=>Y
 |_,_=>Y
def fP(E:Env)(s:St)(b:Builtin)(a:Array TypeId)(args:L T):ue:=
 match b,args with
 |.len,[x]=>match z9 x,(nth a.toList 0).bind E.ti with
  |some (p,b),Z i=>match i.kd with
   |.leaf .str=>Z (p,.sym (.lit (.int .i64 (vk b))),s)|.slice _ _ _ _=>(BA s x).map λ(p,c)=>(p,.sym (.lit (.int .i64 (eP c))),s)|_=>Y
  |none,Z i=>match i.kd with
   |.slice _ _ _ _=>(BA s x).map λ(p,c)=>(p,.sym (.lit (.int .i64 (eP c))),s)|_=>Y
  |_,_=>Y
 |.append,[x,y]=>match a.toList with
  |[t,u]=>match E.ti t,E.ti u with
   |some i,Z j=>match j.kd with
    |.slice _ _ _ _=>uW i s x y|_=>Y
   |_,_=>Y
  |_=>Y
 |_,_=>Y
end
end TL
end
section
namespace TL
open Go
section
def xQ:T->L T->O (FuncId×L T)
 |.fn (.func f) first cap,args=>Z (f,first++args++cap)
 |_,_=>Y
section
variable (E:Env)
def gamT(s:St)(f:FuncId)(args:L T):O (Prop×T×St):=
 match E.Iq f with
 |none=>Y|some c=>match og s args with
  |none=>Y|some (p,ds,os)=>(freeze s os).map λa=>(p∧c.pre ds,.sym (c.f ds),a)
abbrev aly:=FuncId->L T->St->(T->St->Prop)->(T->St->Prop)->Prop
variable (call:aly)
def ahN(fr:Fr):O Nat->Bool
 |none=>W|some d=>Nt d fr.n
end
def BQ:L T->Nat->Tr T->Tr T
 |[],_,t=>t|a::l,k,t=>BQ l (Ns k) (t.set aM k a)
def mS(E:Env)(s:St)(fr:Fr):L ResultVar->O (Prop×L T)
 |[]=>Z (True,[])|.tmp t::l=>match fr.get t,mS E s fr l with
  |some x,Z (p,r)=>Z (p,x::r)|_,_=>Y
 |.cell a t::l=>match(E.ti t),fr.get a with
  |some i,Z a=>match loadT i s a,mS E s fr l with
   |some (p,x,_),Z (q,r)=>Z (p∧q,x::r)|_,_=>Y
  |_,_=>Y
def aek:L T->T
 |[x]=>x|l=>.gT l
end
end TL
end
section
namespace TL
section
theorem bR{α:Type}(l:L α):cE l=l.length:=by
 induction l with|nil=>rfl|cons a l b=>simp[cE,b]
theorem ku{α:Type}(l:L α)(k:Nat):nth l k=l[k]?:=by
 induction l generalizing k with
 |nil=>cases k<;>rfl
 |cons a l b=>cases k with|zero=>rfl|succ k=>simp[nth,b]
namespace Tr
variable {α:Type}
theorem get_nil(k:Nat):(Tr.nil:Tr α).get k=Y:=by cases k<;>rfl
theorem jd(v:O α)(l r:Tr α):(Tr.node v l r).get 0=v:=by simp[get]
def dA(v:O α)(l r:Tr α)(k:Nat):(Tr.node v l r).get (k+1)=if k%2=0 then l.get (k/2)else r.get (k/2):=by
 simp[get];by_cases h:k%2=0
 .have:Nq (Nat.mod k 2) 0=W:=by show Nq (k%2) 0=W;rw[h];rfl
  simp[this,h];rfl
 .have:Nq (Nat.mod k 2) 0=J:=by
   show Nq (k%2) 0=J;have:k%2=1:=by omega
   rw[this];rfl
  simp[this,h];rfl
theorem Ia(n:Nat)(v:O α)(l r:Tr α)(x:α):Tr.set (n+1) (.node v l r) 0 x=.node (Z x) l r:=rfl
theorem Ad(n:Nat)(x:α):Tr.set (n+1) .nil 0 x=.node (Z x) .nil .nil:=rfl
def nY(n:Nat)(v:O α)(l r:Tr α)(k:Nat)(x:α) :
  Tr.set (n+1) (.node v l r) (k+1) x=if k%2=0 then .node v (Tr.set n l (k/2) x) r else .node v l (Tr.set n r (k/2) x):=by
 simp[set];by_cases h:k%2=0
 .have:Nq (Nat.mod k 2) 0=W:=by show Nq (k%2) 0=W;rw[h];rfl
  simp[this,h];rfl
 .have:Nq (Nat.mod k 2) 0=J:=by
   show Nq (k%2) 0=J;have:k%2=1:=by omega
   rw[this];rfl
  simp[this,h];rfl
def o8(n:Nat)(k:Nat)(x:α) :
  Tr.set (n+1) .nil (k+1) x=if k%2=0 then .node Y (Tr.set n .nil (k/2) x) .nil else .node Y .nil (Tr.set n .nil (k/2) x):=by
 simp[set];by_cases h:k%2=0
 .have:Nq (Nat.mod k 2) 0=W:=by show Nq (k%2) 0=W;rw[h];rfl
  simp[this,h];rfl
 .have:Nq (Nat.mod k 2) 0=J:=by
   show Nq (k%2) 0=J;have:k%2=1:=by omega
   rw[this];rfl
  simp[this,h];rfl
def ab0(n:Nat):∀(t:Tr α)(k j:Nat)(x:α),k+1<2 ^ n->(Tr.set n t k x).get j=if j=k then Z x else t.get j:=by
 induction n with
 |zero=>omega|succ n d=>
  intro t k j x h;cases k with
  |zero=>
   cases t with
   |nil=>
    rw[Ad];cases j with|zero=>rfl|succ j=>rw[dA];simp[get_nil]
   |node v l r=>
    cases j with|zero=>rfl|succ j=>rfl
  |succ k=>
   have c:k/2+1<2 ^ n:=by omega
   cases t with
   |nil=>
    rw[o8];cases j with
    |zero=>split<;>simp[jd,get_nil]
    |succ j=>
     by_cases a:k%2=0
     .rw[bB a,dA,get_nil];by_cases b:j%2=0
      .grind[get_nil]
      .rw[bO b,get_nil,bO (by omega)]
     .rw[bO a,dA,get_nil];by_cases b:j%2=0
      .rw[bB b,get_nil,bO (by omega)]
      .grind[get_nil]
   |node v l r=>
    rw[nY];cases j with
    |zero=>split<;>simp[jd]
    |succ j=>
     by_cases a:k%2=0
     .rw[bB a,dA,dA]
      grind
     .rw[bO a,dA,dA]
      grind
def aR(t:Tr α)(k j:Nat)(x:α)(h:k<bI):(Tr.set aM t k x).get j=if j=k then Z x else t.get j:=
 ab0 _ _ _ _ _ (by unfold aM;unfold bI at h;omega)
end Tr
end
end TL
end
section
namespace TL
open Go
section
structure fh where
 a:Option Addr
 len:Nat
 cap:Nat
 sz:Nat
structure Gh where
 bP:Nat->Option Nat
 arr:Nat->Nat->Option fh
 bp:Nat->Prop
inductive dD(I:Nat->Prop)(w:World):D->Value->Prop where
 |lit (v:Value):dD I w (.lit v) v|sl (es:List D) (a:Option Addr) (cap sz:Nat) (val:Nat->Nat->Value)
   (hcap:es.length<=cap) (hsz:∀d∈es,d.cells.length=sz) (hby:∀d∈es,es.length*d.sM<=281474976710656)
   (ha:es≠[]->∃ad,a=Z ad∧I ad.block∧∀i j d c,es[i]?=Z d->d.cells[j]?=Z c->w.cell? (ad.add (i*sz+j))=Z (val i j))
   (hc:∀i j d c,es[i]?=Z d->d.cells[j]?=Z c->dD I w c (val i j)):dD I w (.sl es) (.slice a es.length cap)
 |agg (cs:List D) (vs:Array Value) (hl:cs.length=vs.size) (hf:∀c∈cs,c.leaf=W)
   (h:∀(j:Nat)(c:D)(v:Value),cs[j]?=Z c->vs[j]?=Z v->dD I w c v):dD I w (.agg cs) (.agg vs)
 |di (t:TypeId) (d:D) (v:Value) (h:dD I w d v):dD I w (.di t d) (.iface t v)|gT (ds:List D) (vs:Array Value) (hl:ds.length=vs.size)
   (h:∀(j:Nat)(c:D)(v:Value),ds[j]?=Z c->vs[j]?=Z v->dD I w c v):dD I w (.gT ds) (.tuple vs)
 |pt (d:D) (ad:Addr) (val:Nat->Value) (hi:I ad.block) (hc:∀j c,d.cells[j]?=Z c->w.cell? (ad.add j)=Z (val j))
   (hd:∀j c,d.cells[j]?=Z c->dD I w c (val j)):dD I w (.pt d) (.pointer (Z (ad.add 0)))
 |mp (ks vs:List D) (b:Nat) (ms:Array MapEntry) (n:Nat) (hi:I b) (hb:w.heap[b]?=Z (.map ms n)) (h1:ks.length=ms.size) (h2:vs.length=ms.size)
   (hk:∀(j:Nat)(c:D)(m:MapEntry),ks[j]?=Z c->ms[j]?=Z m->dD I w c m.key) (hv:∀(j:Nat)(c:D)(m:MapEntry),vs[j]?=Z c->ms[j]?=Z m->dD I w c m.val):dD I w (.mp ks vs) (.map (Z b))
def j6(I:Nat->Prop)(w w':World):Prop:=∀b,I b->w'.heap[b]?=w.heap[b]?
theorem j6.cell{I:Nat->Prop}{w w':World}(h:j6 I w w'){a:Addr}(b:I a.block):w'.cell? a=w.cell? a:=by unfold World.cell?;rw[h _ b]
def kZ(a:Addr)(n:Nat):(a.add n).block=a.block:=by unfold Addr.add;split<;>rfl
theorem dD.mono{I z:Nat->Prop}{w w':World}(m:j6 I w w')(o:∀b,I b->z b){d:D}{v:Value}(h:dD I w d v):dD z w' d v:=by
 induction h with
 |lit v=>exact .lit v|sl B a cap sz val f p q C A e=>
  refine .sl B a cap sz val f p q (λr=>?_) e
  let ⟨s,E,l,u⟩:=C r
  refine⟨s,E,o _ l,λi j d c F K=>?_⟩;rw[m.cell (by rw[kZ];exact l)]
  simp_all
 |agg P g x Q h e=>exact .agg P g x Q e|di t d v h e=>exact .di t d v e|gT ds g x h e=>exact .gT ds g x e|pt d s val k A F e=>exact .pt d s val (o _ k) (λj c R=>by rw[m.cell (by rw[kZ];exact k)];exact A j c R) e
 |mp S g b ms n k l h1 h2 _ _ e y=>exact .mp S g b ms n (o _ k) (by rw[m b k];exact l) h1 h2 e y
def rc(r i:Nat):Nat:=2 ^ r*(2*i+1)
def jC(nj:Nat)(d:D)(h:Value):D:=.agg (d.cells.set nj (.lit h))
inductive aH(g:Gh)(w:World):T->Value->Prop where
 |sym (d:D) (v:Value) (h:dD g.bp w d v):aH g w (.sym d) v|kb (b:Bool):aH g w (.kb b) (.bool b)|kn (k:IntKind) (n:Int):aH g w (.kn k n) (.int k n)|ptr (o off b:Nat) (h:g.bP o=Z b):aH g w (.ptr o off) (.pointer (Z ⟨b,off,Y⟩))|mc (d:D) (off:Nat) (ad:Addr) (val:Nat->Value) (hi:g.bp ad.block)
   (hc:∀j c,d.cells[j]?=Z c->w.cell? (ad.add j)=Z (val j)) (hd:∀j c,d.cells[j]?=Z c->dD g.bp w c (val j)) :
   aH g w (.mc d off) (.pointer (Z (ad.add off)))
 |l9 (o e i off len cap sz:Nat) (ad:Addr) (h:g.arr o e=Z ⟨Z ad,len,cap,sz⟩):aH g w (.l9 o e i off) (.pointer (Z (ad.add (i*sz+off))))|sh (o e len cap sz:Nat) (a:Option Addr) (h:g.arr o e=Z ⟨a,len,cap,sz⟩):aH g w (.sh o e) (.slice a len cap)|emp (a:Option Addr):aH g w .emp (.slice a 0 0)|kM (n:Nat) (es:List D) (a:Option Addr) (hn:n<=es.length) (h:dD g.bp w (.sl es) (.slice a es.length es.length)):aH g w (.kM n es) (.slice a es.length es.length)|fn (f:Fn) (fs cs:List T) (va vc:Array Value) (hl:fs.length=va.size) (hm:cs.length=vc.size)
   (h:∀(j:Nat)(t:T)(v:Value),fs[j]?=Z t->va[j]?=Z v->aH g w t v)
   (h':∀(j:Nat)(t:T)(v:Value),cs[j]?=Z t->vc[j]?=Z v->aH g w t v):aH g w (.fn f fs cs) (.func f va vc)
 |di (t:TypeId) (x:T) (v:Value) (h:aH g w x v):aH g w (.di t x) (.iface t v)|agg (cs:List T) (vs:Array Value) (hl:cs.length=vs.size)
   (h:∀(j:Nat)(t:T)(v:Value),cs[j]?=Z t->vs[j]?=Z v->aH g w t v):aH g w (.agg cs) (.agg vs)
 |gT (cs:List T) (vs:Array Value) (hl:cs.length=vs.size)
   (h:∀(j:Nat)(t:T)(v:Value),cs[j]?=Z t->vs[j]?=Z v->aH g w t v):aH g w (.gT cs) (.tuple vs)
 |gd (c:Bool) (t:T) (v:Value) (h:c=W->aH g w t v):aH g w (.gd c t) v|mp (o b:Nat) (h:g.bP o=Z b):aH g w (.mp o) (.map (Z b))|rJ (o b:Nat) (h:g.bP o=Z b):aH g w (.rJ o) (.func (.yield b) #[] #[])|ud (o b:Nat) (h:g.bP o=Z b):aH g w (.ud o) (.pointer (Z ⟨b,0,Y⟩))|ub (e b:Bool) (h:b=W->e=W):aH g w (.ub e) (.bool b)|sy (o m r i len cap sz:Nat) (a:Option Addr) (h:g.arr m (rc r i)=Z ⟨a,len,cap,sz⟩):aH g w (.sy o m r i) (.slice a len cap)|pU (j:Nat) (d:D) (c:Option Addr) (a:Option Addr) (hj:d.cells[j]?=Z (.sl [])) (hd:dD g.bp w (.sl [jC j d (.slice c 0 0)]) (.slice a 1 1)):aH g w (.pU j d) (.slice a 1 1)
inductive gX(g:Gh)(w:World):Ob->Obj->Prop where
 |box (cs:List T) (vs:Array Value) (ty:TypeId) (hl:cs.length=vs.size) (h:∀(j:Nat)(t:T)(v:Value),cs[j]?=Z t->vs[j]?=Z v->aH g w t v):gX g w (.box cs) (.cells vs ty (0,0))|map (es:List (T×T)) (ms:Array MapEntry) (c:Nat) (hl:es.length=ms.size)
   (h:∀(j:Nat)(t:T×T)(m:MapEntry),es[j]?=Z t->ms[j]?=Z m->aH g w t.1 m.key∧aH g w t.2 m.val):gX g w (.map es) (.map ms c)
 |rI (s:ByteArray) (pos:Nat):gX g w (.rI s pos) (.stringIter s pos)|lp (l:Lp) (r:Loop) (h1:r.state=l.st) (h2:r.pending=l.vN) (h4:r.params.toList=l.params) (h5:r.assign=l.assign) (h6:r.body=l.body)
   (h8:r.tmps.size=l.fr.n) (h9:∀k t,l.fr.get k=Z t->∃v,r.tmps[k]?=Z v∧aH g w t v):gX g w (.lp l) (.loop r)
 |zZ:gX g w .zZ (.deferred (Z []))
def bF(g:Gh)(o b:Nat):Prop:=¬g.bp b∧(g.bP o=Z b∨∃e x ad,g.arr o e=Z x∧x.a=Z ad∧ad.block=b∧x.cap≠0)
structure xz(g:Gh)(w:World)(fz:Bool)(sz:Nat)(es:List D)(x:fh):Prop where
 len:x.len=es.length
 cap:x.len<=x.cap
 rows:∀d∈es,d.cells.length=sz
 pos:0<sz
 VT:∀d∈es,es.length*d.sM<=281474976710656
 mem:x.cap≠0->∃b vs ty,x.a=Z ⟨b,0,Y⟩∧(fz=W↔g.bp b)∧w.heap[b]?=Z (.cells vs ty (0,0))∧x.cap*sz<=vs.size∧
  ∀i d j c,es[i]?=Z d->d.cells[j]?=Z c->∃v,vs[i*sz+j]?=Z v∧dD g.bp w c v
def gj(fz:Bool)(sz:Nat)(es:L D)(era:Nat):Ob:=if fz then .lK sz es era else .arr sz es era
def xp(g:Gh)(s:St)(w:World)(o b:Nat):Prop:=
 ¬g.bp b∧b<w.heap.size∧∀ob,s.ob.get o=Z ob->∃h,w.heap[b]?=Z h∧gX g w ob h
def xp.box{g:Gh}{s:St}{w:World}{o b:Nat}(h:xp g s w o b){cs:L T}(c:s.ob.get o=Z (.box cs)) :
  ∃vs ty,w.heap[b]?=Z (.cells vs ty (0,0))∧cs.length=vs.size∧∀(j:Nat)(t:T)(v:Value),cs[j]?=Z t->vs[j]?=Z v->aH g w t v:=by
 let ⟨x,d,a⟩:=h.2.2 _ c
 cases a with|box cs vs ty e a=>grind
variable {s:St}{w w':World}{o b e fl:Nat}{ob:Ob}{d:Df}{v:Value}{t:T}{p:T->Bool}
def xp.BK{g:Gh}(h:xp g s w o b)(fz:Bool){sz:Nat}{es:L D}(a:s.ob.get o=Z (if fz then .lK sz es e else .arr sz es e)):False:=by
 let ⟨x,d,c⟩:=h.2.2 _ a
 cases fz<;>cases c
def gX.BK{g:Gh}{h:Obj}(a:gX g w ob h):ob.ov=J:=by cases a<;>rfl
def fh.at(x:fh)(b:Nat):Prop:=∃ad,x.a=Z ad∧ad.block=b∧x.cap≠0
def lits(nj:Nat)(es:L D)(hs:L Value):L D:=List.zipWith (jC nj) es hs
def IG(g:Gh)(m g9:Nat)(hole:O Nat)(hs:L Value):Prop:=
 (∀(i:Nat)(h:Value),hs[i]?=Z h->∃a n k,h=.slice a n k)∧∀(i:Nat)(h:Value),hs[i]?=Z h->hole≠Z i->∃y,g.arr m (rc g9 i)=Z y∧h=.slice y.a y.len y.cap
def Tl(g:Gh)(w:World)(o e:Nat)(x:fh)(ob:Ob):Prop:=
 ∃fz es era,ob=gj fz x.sz es era∧e<=era∧(∀a,era<a->g.arr o a=Y)∧(e=era->xz g w fz x.sz es x)
def aln(g:Gh)(w:World)(o e:Nat)(x:fh)(ob:Ob):Prop:=
 ∃nj es era m g9 hole,ob=.lS nj x.sz es era m g9 hole∧e<=era∧(∀a,era<a->g.arr o a=Y)∧
  (e=era->∃hs,hs.length=es.length∧xz g w J x.sz (lits nj es hs) x∧IG g m g9 hole hs)
def ale(g:Gh)(w:World)(o e:Nat)(x:fh)(ob:Ob):Prop:=
 ∃sz iU g9,ob=.rws sz iU g9∧(∀r i,g9<r->g.arr o (rc r i)=Y)∧
  (∀i a y c,i≠a->g.arr o (rc g9 i)=Z y->g.arr o (rc g9 a)=Z c->∀b,y.at b->¬c.at b)∧
  (∀i,e=rc g9 i->x.sz=sz∧∃d,iU[i]?=Z d∧xz g w J sz d x)
def alp(g:Gh)(w:World)(e:Nat)(x:fh)(ob:Ob):Prop:=
 ob=.FG∧x.a=Z ⟨e,0,Y⟩∧x.cap≠0∧¬g.bp e∧w.heap[e]?=Z (.deferred (Z []))
def vH(g:Gh)(w:World)(o e:Nat)(x:fh)(ob:Ob):Prop:=
 Tl g w o e x ob∨aln g w o e x ob∨ale g w o e x ob∨ob=.gone∨alp g w e x ob
def vH.ov{g:Gh}{w:World}{o e:Nat}{x:fh}{ob:Ob}(h:vH g w o e x ob):ob.ov=W:=by
 obtain⟨a,_,_,rfl,_⟩|⟨_,_,_,_,_,_,rfl,_⟩|⟨_,_,_,rfl,_⟩|rfl|⟨rfl,_⟩:=h
 .cases a<;>rfl
 .rfl
 .rfl
 .rfl
 .rfl
def vH.old{g:Gh}{x:fh}(h:vH g w o e x ob)(hi:ob.isA=W):Tl g w o e x ob:=by
 obtain h|⟨_,_,_,_,_,_,rfl,_⟩|⟨_,_,_,rfl,_⟩|rfl|⟨rfl,_⟩:=h
 .exact h
 .cases hi
 .cases hi
 .cases hi
 .cases hi
def Bo(g:Gh)(s:St)(w:World)(o e:Nat)(x:fh):Prop:=
 (∀ad,x.a=Z ad->x.cap≠0->ad.block<w.heap.size)∧∀ob,s.ob.get o=Z ob->vH g w o e x ob
def Bo.old{g:Gh}{s:St}{w:World}{o e:Nat}{x:fh}(h:Bo g s w o e x)(ob:Ob)(b:s.ob.get o=Z ob)(hi:ob.isA=W) :
  ∃fz es era,ob=gj fz x.sz es era∧e<=era∧(∀a,era<a->g.arr o a=Y)∧(e=era->xz g w fz x.sz es x):=(h.2 ob b).old hi
def Vq(fz:Bool)(sz:Nat)(es:L D)(era:Nat):(gj fz sz es era).isA=W:=by cases fz<;>rfl
structure aV(g:Gh)(s:St)(w:World):Prop where
 aD:s.aD<=bI
 ah:∀o,s.aD<=o->g.bP o=Y∧∀e,g.arr o e=Y
 box:∀o b,g.bP o=Z b->xp g s w o b
 arr:∀o e x,g.arr o e=Z x->Bo g s w o e x
 bp:∀b,g.bp b->b<w.heap.size
 j8:∀o o' b,bF g o b->bF g o' b->o=o'
inductive xo(g:Gh)(w:World):Df->Deferred->Prop where
 |call (f:T) (args:List T) (fv:Fn) (first cap V4:Array Value) (h3:aH g w f (.func fv first cap)) (h4:args.length=V4.size)
   (h5:∀(j:Nat)(t:T)(v:Value),args[j]?=Z t->V4[j]?=Z v->aH g w t v):xo g w (.call f args) {target:=.fn fv cap,args:=first++V4}
 |mark (o b:Nat) (h:g.bP o=Z b):xo g w (.mark o) {target:=.collected b,args:=#[]}|bad (d:Deferred):xo g w .bad d
inductive eU(g:Gh)(w:World):List Df->List Deferred->Prop where
 |nil:eU g w [] []|cons {d:Df} {e:Deferred} {l:List Df} {m:List Deferred} (h:xo g w d e) (t:eU g w l m):eU g w (d::l) (e::m)
 |marks (o:Nat) (bs:List Nat) {l:List Df} {m:List Deferred} (hn:bs.Nodup) (h:∀b∈bs,∃n c,aH g w (.sh o b) (.slice (Z ⟨b,0,Y⟩) n c)) (t:eU g w l m):eU g w (.marks o::l) (bs.map (λb=>{target:=.collected b,args:=#[]})++m)
 |kK (xs:List Deferred) {l:List Df} {m:List Deferred} (t:eU g w l m):eU g w (.kK::l) (xs++m)
structure cQ(g:Gh)(fr:Fr)(a:Act)(w:World):Prop where
 size:a.tmps.size=fr.n
 df:eU g w fr.df a.defers
 tm:∀k t,fr.get k=Z t->∃v,a.tmps[k]?=Z v∧aH g w t v
structure Ext(fl:Nat)(g:Gh)(w:World)(g':Gh)(w':World):Prop where
 bP:∀o b,g.bP o=Z b->g'.bP o=Z b
 arr:∀o e x,g.arr o e=Z x->g'.arr o e=Z x
 bp:∀b,g.bp b->g'.bp b
 size:w.heap.size<=w'.heap.size
 heap:∀b,b<w.heap.size->(∀o,fl<=o->¬bF g o b)->w'.heap[b]?=w.heap[b]?
 own:∀o b,bF g' o b->bF g o b∨w.heap.size<=b
 oz:∀b,g'.bp b->g.bp b∨w.heap.size<=b∨∃o,fl<=o∧bF g o b
 os:w'.os=w.os
 output:w'.output=w.output
theorem Ext.refl(fl:Nat)(g:Gh)(w:World):Ext fl g w g w:=
 ⟨λ_ _ h=>h,λ_ _ _ h=>h,λ_ h=>h,eR _,λ_ _ _=>rfl,λ_ _ h=>.inl h,λ_ h=>.inl h,rfl,rfl⟩
def Ext.trans{fl:Nat}{g g' d:Gh}{w w' f:World}(h:Ext fl g w g' w')(k:Ext fl g' w' d f):Ext fl g w d f where
 bP o b e:=k.bP o b (h.bP o b e)
 arr o e x i:=k.arr o e x (h.arr o e x i)
 bp b e:=k.bp b (h.bp b e)
 size:=gD h.size k.size
 heap b c j:=by
  rw[k.heap b (iS c h.size) (λo l a=>?_),h.heap b c j];obtain a|a:=h.own o b a
  .grind
  .omega
 own o b a:=by
  obtain a|a:=k.own o b a
  .exact h.own o b a
  .exact .inr (gD h.size a)
 oz b c:=by
  obtain c|c|⟨o,l,a⟩:=k.oz b c
  .exact h.oz b c
  .exact .inr (.inl (gD h.size c))
  .obtain a|a:=h.own o b a
   .grind
   omega
 os:=k.os.trans h.os
 output:=k.output.trans h.output
def Ext.keeps{g g':Gh}(h:Ext fl g w g' w')(hi:∀b,g.bp b->b<w.heap.size):j6 g.bp w w':=
 λb a=>h.heap b (hi b a) λ_ _ c=>c.1 a
def dD.ext{g g':Gh}(h:Ext fl g w g' w')(hi:∀b,g.bp b->b<w.heap.size){d:D}(a:dD g.bp w d v):dD g'.bp w' d v:=
 a.mono (h.keeps hi) h.bp
def aH.ext{fl:Nat}{g g':Gh}{w w':World}(h:Ext fl g w g' w')(hi:∀b,g.bp b->b<w.heap.size){t:T}{v:Value}(F:aH g w t v):aH g' w' t v:=by
 induction F with|sym d v p=>exact .sym d v (p.ext h hi)|kb b=>exact .kb b|kn k n=>exact .kn k n|ptr o off b q=>exact .ptr o off b (h.bP o b q)|mc d off B val s hc p=>exact .mc d off B val (h.bp _ s) (λj c A=>by rw[(h.keeps hi).cell (by rw[kZ];exact s)];grind) (λj c A=>(p j c A).ext h hi)|l9 o e i off len cap sz B u=>exact .l9 o e i off len cap sz B (h.arr _ _ _ u)|sh o e len cap sz a u=>exact .sh o e len cap sz a (h.arr _ _ _ u)|emp a=>exact .emp a|kM n I a K p=>exact .kM n I a K (p.ext h hi)|fn f P y Q R z S _ _ l C=>exact .fn f P y Q R z S l C|di t x v _ l=>exact .di t x v l|agg y E z _ l=>exact .agg y E z l|gT y E z _ l=>exact .gT y E z l|gd c t v _ l=>exact .gd c t v l|mp o b q=>exact .mp o b (h.bP o b q)|rJ o b q=>exact .rJ o b (h.bP o b q)|ud o b q=>exact .ud o b (h.bP o b q)|ub e b h=>exact .ub e b h|sy o m r i len cap sz a u=>exact .sy o m r i len cap sz a (h.arr _ _ _ u)|pU j d c a A p=>exact .pU j d c a A (p.ext h hi)
def aH.aqw{g g':Gh}(A:∀k j y,g.arr k j=Z y->g'.arr k j=Z y)(z:g'.bP=g.bP)(hi:g'.bp=g.bp)(K:aH g w t v):aH g' w t v:=by
 induction K with|sym d v p=>exact .sym d v (hi▸p)|kb b=>exact .kb b|kn k n=>exact .kn k n|ptr o off b h=>exact .ptr o off b (z▸h)|mc d off B val C P p=>exact .mc d off B val (hi▸C) P (λj c E=>hi▸p j c E)|l9 o e i off len cap sz B q=>exact .l9 o e i off len cap sz B (A _ _ _ q)|sh o e len cap sz a q=>exact .sh o e len cap sz a (A _ _ _ q)|emp a=>exact .emp a|kM n Q a R p=>exact .kM n Q a R (hi▸p)|fn f S s va vc u hm _ _ l F=>exact .fn f S s va vc u hm l F|di t x v _ l=>exact .di t x v l|agg s I u _ l=>exact .agg s I u l|gT s I u _ l=>exact .gT s I u l|gd c t v _ l=>exact .gd c t v l|mp o b h=>exact .mp o b (z▸h)|rJ o b h=>exact .rJ o b (z▸h)|ud o b h=>exact .ud o b (z▸h)|ub e b h=>exact .ub e b h|sy o m r i len cap sz a q=>exact .sy o m r i len cap sz a (A _ _ _ q)|pU j d c a E p=>exact .pU j d c a E (hi▸p)
def gX.imp{g g':Gh}(b:∀t v,aH g w t v->aH g' w' t v){x:Obj}(a:gX g w ob x):gX g' w' ob x:=by
 cases a with
 |box e f ty d a=>exact .box e f ty d λj t v h1 h2=>b _ _ (a j t v h1 h2)|map h i c d a=>exact .map h i c d λj t m h1 h2=>⟨b _ _ (a j t m h1 h2).1,b _ _ (a j t m h1 h2).2⟩|rI s pos=>exact .rI s pos|lp l r h1 h2 h4 h5 h6 n o=>exact .lp l r h1 h2 h4 h5 h6 n λk t p=>let ⟨v,q,u⟩:=o k t p;⟨v,q,b _ _ u⟩
 |zZ=>exact .zZ
def gX.ext{fl:Nat}{g g':Gh}{w w':World}(h:Ext fl g w g' w')(hi:∀b,g.bp b->b<w.heap.size){ob:Ob}{x:Obj}(a:gX g w ob x):gX g' w' ob x:=
 a.imp (λ_ _ c=>c.ext h hi)
def vD(p:T->Bool)(t u:T):Prop:=(u=t∧p t=J)∨∃v,u=.gd J v
def si(p:T->Bool)(ob a:Ob):Prop:=
 match ob,a with
 |.box cs,.box ds=>cs.length=ds.length∧∀(j:Nat)(t u:T),cs[j]?=Z t->ds[j]?=Z u->vD p t u|.map es,.map ds=>es.length=ds.length∧∀(j:Nat)(t u:T×T),es[j]?=Z t->ds[j]?=Z u->vD p t.1 u.1∧vD p t.2 u.2|.lS nj sz es era m g9 hole,a=>(a=.lS nj sz es era m g9 hole∧p (.sh m 0)=J)∨a=.gone|.lp l,.lp m=>m={l with fr:=m.fr}∧m.fr.n=l.fr.n∧∀k u,m.fr.get k=Z u->∃t,l.fr.get k=Z t∧vD p t u
 |ob,a=>ob=a
def vD.rel{g g':Gh}(a:∀t v,aH g w t v->p t=J->aH g' w' t v){u:T}(h:vD p t u)(b:aH g w t v):aH g' w' u v:=by
 obtain⟨rfl,c⟩|⟨x,rfl⟩:=h
 .grind
 .exact .gd _ _ _ λh=>by cases h
def gX.left{g g':Gh}(i:∀t v,aH g w t v->p t=J->aH g' w' t v){a:Ob}{x:Obj}(b:gX g w ob x)(hl:si p ob a):gX g' w' a x:=by
 cases b with
 |box z A ty d b=>
  cases a with
  |box ds=>
   let ⟨B,n⟩:=hl
   refine .box ds A ty (by omega) λj u v f o=>?_;have h:j<z.length:=by grind
   exact(n j _ u (jr h) f).rel i (b j _ v (jr h) o)
  |_=>cases hl
 |map C E c d b=>
  cases a with
  |map ds=>
   let ⟨B,n⟩:=hl
   refine .map ds E c (by omega) λj u m f F=>?_;have h:j<C.length:=by grind
   have h1:=n j _ u (jr h) f;have h2:=b j _ m (jr h) F;exact⟨h1.1.rel i h2.1,h1.2.rel i h2.2⟩
  |_=>cases hl
 |rI s pos=>cases a<;>first|(cases hl;exact .rI _ _)|cases hl
 |lp l r h1 h2 h4 h5 h6 I K=>
  cases a with
  |lp m=>
   let ⟨e,P,Q⟩:=hl
   rw[e];refine .lp _ r h1 h2 h4 h5 h6 (I.trans P.symm) λk u f=>?_
   let ⟨t,R,q⟩:=Q k u f
   let ⟨v,o,y⟩:=K k t R
   exact⟨v,o,q.rel i y⟩
  |_=>cases hl
 |zZ=>cases a<;>first|exact .zZ|cases hl
def xo.imp{g g':Gh}(c:∀t v,aH g w t v->aH g' w' t v)(i:∀o b,g.bP o=Z b->g'.bP o=Z b){e:Deferred}(h:xo g w d e):xo g' w' d e:=by
 cases h with
 |call f args k first cap a h3 h4 h5=>exact .call f args k first cap a (c _ _ h3) h4 (λj t v l m=>c _ _ (h5 j t v l m))
 |mark o b h=>exact .mark o b (i o b h)|bad=>exact .bad _
def eU.imp{g g':Gh}{w w':World}(e:∀t v,aH g w t v->aH g' w' t v)(f:∀o b,g.bP o=Z b->g'.bP o=Z b){l:L Df}{m:L Deferred}(h:eU g w l m):eU g' w' l m:=by
 induction h with|nil=>exact .nil|cons h _ a=>exact .cons (h.imp e f) a|marks o i j h _ a=>exact .marks o i j (λb d=>let ⟨n,c,h1⟩:=h b d;⟨n,c,e _ _ h1⟩) a|kK k _ a=>exact .kK k a
def Rf(p:T->Bool)(d e:Df):Prop:=(e=.bad∧d.one=W)∨(e=d∧match d with
 |.call f args=>p f=J∧∀t∈args,p t=J|.mark o=>p (.ptr o 0)=J|.marks _=>False|.kK=>False|.bad=>True)
inductive iF(p:T->Bool):List Df->List Df->Prop where
 |nil:iF p [] []|cons {d e:Df} {l m:List Df} (h:Rf p d e) (t:iF p l m):iF p (d::l) (e::m)|marks (o:Nat) {l m:List Df} (h:∀e,p (.sh o e)=J) (t:iF p l m):iF p (.marks o::l) (.marks o::m)|aeL (o:Nat) {l m:List Df} (t:iF p l m):iF p (.marks o::l) (.kK::m)|kK {l m:List Df} (t:iF p l m):iF p (.kK::l) (.kK::m)
def Rf.rel{g g':Gh}(c:∀t v,aH g w t v->p t=J->aH g' w' t v){e:Df}{x:Deferred}(h:Rf p d e)(l:xo g w d x):xo g' w' e x:=by
 obtain⟨rfl,_⟩|⟨rfl,h⟩:=h
 .exact .bad _
 .cases l with
  |call f args m first cap a h3 h4 h5=>exact .call f args m first cap a (c _ _ h3 h.1) h4 (λj t v k n=>c _ _ (h5 j t v k n) (h.2 t (iz k)))
  |mark o b q=>
   have:=c _ _ (.ptr o 0 b q) h;cases this with|ptr _ _ _ i=>exact .mark o b i
  |bad=>exact .bad _
def iF.rel{g g':Gh}{w w':World}{p:T->Bool}(a:∀t v,aH g w t v->p t=J->aH g' w' t v):∀{l m:L Df}{d:L Deferred},iF p l m->eU g w l d->eU g' w' m d
 |_,_,_,.nil,.nil=>.nil|_,_,_,.cons h t,.cons k u=>.cons (h.rel a k) (iF.rel a t u)|_,_,_,.cons h _,.marks _ _ _ _ _=>by obtain⟨_,h⟩|⟨_,h⟩:=h<;>cases h
 |_,_,_,.cons h _,.kK _ _=>by obtain⟨_,h⟩|⟨_,h⟩:=h<;>cases h
 |_,_,_,.marks o h t,.marks _ e f k u=>.marks o e f (λb i=>let ⟨n,c,h1⟩:=k b i;⟨n,c,a _ _ h1 (h b)⟩) (iF.rel a t u)
 |_,_,_,.marks _ _ _,.cons k _=>by cases k
 |_,_,_,.aeL o t,.marks _ e _ _ u=>.kK _ (iF.rel a t u)|_,_,_,.aeL _ _,.cons k _=>by cases k
 |_,_,_,.kK t,.kK d u=>.kK d (iF.rel a t u)|_,_,_,.kK _,.cons k _=>by cases k
def cQ.ext{fl:Nat}{g g':Gh}{w w':World}(h:Ext fl g w g' w')(hi:∀b,g.bp b->b<w.heap.size){fr:Fr}{a:Act}(hf:cQ g fr a w):cQ g' fr a w':=
 ⟨hf.size,hf.df.imp (λ_ _ c=>c.ext h hi) h.bP,λk t d=>let ⟨v,e,c⟩:=hf.tm k t d;⟨v,e,c.ext h hi⟩⟩
end
section
def dZ:TypeDesc->Bool
 |.struct _|.array _ _=>W|_=>J
def agj(d:D)(v:Value):Prop:=(d=.sl []∧v=.slice Y 0 0)∨d=.lit v
def ZOk(zero:L D)(cells:Array Value):Prop:=
 zero.length=cells.size∧∀(j:Nat)(d:D)(v:Value),zero[j]?=Z d->cells[j]?=Z v->agj d v
def alu(P:Program):Kd->TypeDesc->Prop
 |.leaf (.int k),d=>d=.int k|.leaf .bool,d=>d=.bool|.leaf .str,d=>d=.string|.leaf .no,_=>True|.ptr,d=>∃e,d=.pointer e|.slice sz ag b zero,d=>∃e j a z,d=.slice e∧P.info? e=Z j∧j.size=sz∧P.underlying e=Z a∧ag=dZ a∧j.zero=Z z∧ZOk zero z.cells∧j.bytes<=4096∧0<sz∧j.bytes<=b∧b<=2*j.bytes∧0<j.bytes∧zero.length=sz|.struct c,d=>∃fields,d=.struct fields∧fields.size=c.length∧∀(k:Nat)off size ag,c[k]?=Z (off,size,ag)->
   ∃f j a,fields[k]?=Z f∧f.offset=off∧P.info? f.type=Z j∧j.size=size∧P.underlying f.type=Z a∧ag=dZ a
 |.array len sz ag,d=>∃e j a,d=.array len e∧P.info? e=Z j∧j.size=sz∧P.underlying e=Z a∧ag=dZ a|.iface,d=>∃g,d=.interface g|.other,_=>True
def Bg:Lk->Value->Prop
 |.int k,v=>∃n,v=.int k n|.bool,v=>∃b,v=.bool b|.str,v=>∃b,v=.string b|.no,_=>False
def GA:Value->Value->Bool
 |.int _ a,.int _ b=>a==b|.bool a,.bool b=>a==b|.string a,.string b=>a==b|_,_=>J
def nM:L Value->L Value->Bool
 |a::l,b::m=>GA a b&&nM l m|_,_=>W
def agF(P:Program)(t:TypeId)(a:L Lk):Prop:=
 ∀(w:World)(op:BinOp)(x y:Operand)(b ys:Array Value),b.size=a.length->ys.size=a.length->
  (∀(j:Nat)(l:Lk)(v:Value),a[j]?=Z l->b[j]?=Z v->Bg l v)->(∀(j:Nat)(l:Lk)(v:Value),a[j]?=Z l->ys[j]?=Z v->Bg l v)->
  (eqGuard op t x y (.agg b) (.agg ys)).run P w=.ok () w∧(Op.equal t (.agg b) (.agg ys)).run P w=.ok (nM b.toList ys.toList) w
structure nr(P:Program)(t:TypeId)(i:TI):Prop where
 eqs:i.agg=W->i.lks≠[]->agF P t i.lks
 nif:∀ms,P.underlying t=Z (.interface ms)->i.kd=.iface
 zag:∀x z,P.info? t=Z x->x.zero=Z z->(i.agg=W->∃vs,z=.agg vs)∧(i.agg=J->z.cells=#[z])
 all:∃x d z,P.info? t=Z x∧P.underlying t=Z d∧x.size=i.size∧i.agg=dZ d∧x.zero=Z z∧ZOk i.zero z.cells∧alu P i.kd d
section
variable {P:Program}
def aL{t:TypeId}{d:TypeDesc}(h:P.underlying t=Z d)(w:World):(underlying t).run P w=.ok d w:=by simp[underlying,h]
def so{t:TypeId}{x:TypeInfo}(h:P.info? t=Z x)(w:World):(typeInfo t).run P w=.ok x w:=by simp[typeInfo,h]
def dm{t:TypeId}{x:TypeInfo}(h:P.info? t=Z x)(w:World):(Go.sizeOf t).run P w=.ok x.size w:=by simp[Go.sizeOf,so h]
def uj{t:TypeId}{d:TypeDesc}(h:P.underlying t=Z d)(w:World):(isAgg t).run P w=.ok (dZ d) w:=by simp[isAgg,run_bind,aL h,andThen_ok];cases d<;>rfl
def ey{t:TypeId}{x:TypeInfo}{z:Value}(h:P.info? t=Z x)(a:x.zero=Z z)(w:World):(zeroValue t).run P w=.ok z w:=by simp[zeroValue,so h,a]
theorem beq_iff'{a b:Nat}:Nq a b=W↔a=b:=by
 simp_all
def Ag{t:TypeId}{x:TypeInfo}{d:TypeDesc}(hi:P.info? t=Z x)(f:P.underlying t=Z d)(w:World)(a:Addr)(vals:L Value)(hl:vals.length=x.size)
  (c:∀j v,vals[j]?=Z v->w.cell? (a.add j)=Z v) (h1:dZ d=J->∃v,vals=[v]) :
  (loadVar t a).run P w=.ok (if dZ d then .agg vals.toArray else vals.headD undef) w:=by
 have b:=run_loadCells_list (P:=P) w a vals c;simp only[loadVar,run_bind,uj f,andThen_ok];cases g:dZ d with|true=>simp[dm hi,<-hl,b]|false=>obtain⟨v,rfl⟩:=h1 g;have e:=c 0 v rfl;simp[Addr.add]at e;simp[e]
end
variable {j:Nat}{ag:Bool}{cs:List T}{t:T}{g:Gh}{w:World}
def cB{α:Type}{l:L α}{x:α}(h:l[j]?=Z x):j<l.length:=by
 grind
def zb{n k:Nat}(h:(List.range n)[j]?=Z k):j=k∧j<n:=by
 grind
theorem tX(a:Addr)(i j:Nat):(a.add i).add j=a.add (i+j):=by unfold Addr.add;by_cases b:i=0<;>by_cases c:j=0<;>simp[b,c,Nat.add_assoc]
def Fw(h:v8 ag cs=Z t):(ag=W∧t=.agg cs)∨(ag=J∧cs=[t]):=by
 unfold v8 at h
 grind
def xE(h:v8 ag cs=Z t){vals:L Value}(hl:cs.length=vals.length)
  (a:∀(j:Nat)(t:T)(v:Value),cs[j]?=Z t->vals[j]?=Z v->aH g w t v) :
  aH g w t (if ag then .agg vals.toArray else vals.headD undef)∧(ag=J->∃v,vals=[v]):=by
 obtain⟨rfl,rfl⟩|⟨rfl,rfl⟩:=Fw h
 .exact ⟨.agg _ _ (by simpa using hl) (λj t v h1 h2=>a j t v h1 (by simpa using h2)),λh=>by cases h⟩
 .match vals,hl with
  |[v],_=>exact⟨a 0 _ _ rfl rfl,λ_=>⟨v,rfl⟩⟩
def sn{α:Type}(l:L α)(off n j:Nat)(x:α)(h:((l.drop off).take n)[j]?=Z x):l[off+j]?=Z x∧j<n:=by
 grind
theorem D.Oc(d:D)(j:Nat)(h:j<d.cells.length):d.cells[j]?=Z (d.cell j):=by
 grind[D.cell]
def CT{P:Program}{ty:TypeId}{i:TI}(hi:nr P ty i){d:D}{off:Nat}(h:nt i d off=Z t)(o:d.has (Na off i.size))
  {ad:Addr} {val:Nat->Value} (u:∀j c,d.cells[j]?=Z c->w.cell? (ad.add j)=Z (val j)) (y:∀j c,d.cells[j]?=Z c->dD g.bp w c (val j)) :
  ∃v,(loadVar ty (ad.add off)).run P w=.ok v w∧aH g w t v:=by
 let ⟨x,ds,z,p,q,l,b,_⟩:=hi.all
 have A:off+i.size<=d.cells.length:=o;have a:∀j,j<i.size->w.cell? ((ad.add off).add j)=Z (val (off+j))∧dD g.bp w (d.cell (off+j)) (val (off+j)):=by
  grind[tX,D.Oc]
 have e:=Ag (P:=P) p q w (ad.add off) ((List.range i.size).map λj=>val (off+j)) (by simp[l]) (λj v B=>by
  grind)
 unfold nt at h;cases n:i.agg with
 |true=>
  rw[n]at h b;simp at h;subst h;refine⟨_,e (λC=>by simp_all),?_⟩;rw[<-b];refine .agg _ _ (by simp) (λj t v h1 h2=>?_);simp at h1;obtain⟨k,r,rfl⟩:=h1;obtain⟨rfl,m⟩:=zb r;have s:v=val (off+j):=by
   simp_all
  subst s;exact .sym _ _ (a j m).2
 |false=>
  rw[n]at h b;by_cases h1:Nq i.size 1=W
  .simp[h1]at h;subst h;have f:=beq_iff'.1 h1;refine⟨_,e (λ_=>⟨val off,by simp[f]⟩),?_⟩;rw[<-b];have:=(a 0 (by omega)).2;simp[f];exact .sym _ _ (by omega)
  simp_all
end
section
def af{α:Type}{b:Bool}{x y:O α}{z:α}(h:(bif b then x else y)=Z z):(b=W∧x=Z z)∨(b=J∧y=Z z):=by
 grind
theorem wq{I:Nat->Prop}{w:World}{d:D}{v:Value}(hl:d.leaf=W)(h:dD I w d v):v.oneCell'=W∧v.cells=#[v]:=by
 cases h with
 |lit v=>cases v<;>first|exact⟨rfl,rfl⟩|cases hl
 |sl=>exact⟨rfl,rfl⟩|agg=>cases hl
 |gT=>cases hl
 |_=>exact⟨rfl,rfl⟩
variable {g:Gh}{w:World}{t:T}{v:Value}{i:TI}{s:St}{o e sz k:Nat}{es:List D}
def TH(hl:t.leaf)(h:aH g w t v):v.oneCell'=W∧v.cells=#[v]:=by cases h with|sym d v a=>exact wq hl a|agg=>exact hl.elim|gT=>exact hl.elim|gd=>exact hl.elim|_=>exact⟨rfl,rfl⟩
def zn{n:Nat}{d:D}(h:d.isAgg n=W):∃cs,d=.agg cs∧cs.length=n∧∀c∈cs,c.leaf=W:=by
 unfold D.isAgg at h;split at h
 .rename_i cs;simp only[fF]at h;refine⟨cs,rfl,?_,?_⟩
  .rw[<-bR];exact beq_iff'.1 h.1
  .simpa using h.2
 .cases h
def m6{p:Prop}{cs:L T}(h:kJ i t=Z (p,cs))(q:p)(r:aH g w t v) :
  cs.length=i.size∧v.cells.size=i.size∧(∀(j:Nat)(t:T)(u:Value),cs[j]?=Z t->v.cells[j]?=Z u->aH g w t u)∧
  (i.agg=W->∃vs,v=.agg vs)∧(i.agg=J->v.cells=#[v]∧i.size=1):=by
 cases r with
 |agg y vs f l=>
  obtain⟨b,h⟩|⟨_,h⟩:=af h
  .simp only[fF]at b;have c:=beq_iff'.1 b.2;rw[bR]at c;obtain⟨_,rfl⟩:=h;refine⟨c,by simp[Value.cells,<-f,c],λj t u h1 h2=>l j t u h1 h2,λ_=>⟨vs,rfl⟩,λe=>by simp_all⟩
  .cases h
 |sym d v m=>
  obtain⟨b,h⟩|⟨b,h⟩:=af h
  .obtain ⟨rfl,rfl⟩:=h;obtain⟨ds,rfl,c,s⟩:=zn q;cases m with|agg _ vs f _ l=>refine⟨by simp,by simp[Value.cells,<-f,c],λj t u h1 h2=>?_,λ_=>⟨vs,rfl⟩,λe=>by simp_all⟩;simp at h1;obtain⟨k,x,rfl⟩:=h1;obtain⟨rfl,n⟩:=zb x;exact .sym _ _ (l j _ u (D.Oc (.agg ds) j (by simpa[D.cells,c]using n)) h2)
  .obtain ⟨h1,h⟩|⟨_,h⟩:=af h
   .obtain ⟨rfl,rfl⟩:=h;have a:=beq_iff'.1 h1
    let ⟨_,o⟩:=wq q m
    refine⟨by simp[a],by simp[o,a],λj t u h2 h3=>?_,λe=>(by simp_all),λ_=>⟨o,a⟩⟩;rw[o]at h3;cases j with|zero=>simp at h2 h3;subst h2;subst h3;exact .sym _ _ m|succ j=>simp at h2
   .cases h
 |gT=>cases h
 |gd=>cases h
 |kb|kn|ptr|mc|l9|sh|emp|kM|fn|di|mp|rJ|ud|ub|sy|pU=>
  all_goals
   simp only[kJ]at h;obtain⟨_,h⟩|⟨b,h⟩:=af h
   .cases h
   .obtain ⟨h1,h⟩|⟨_,h⟩:=af h
    .simp only[gR,fE]at h;obtain⟨_,rfl⟩:=h;have a:=beq_iff'.1 h1;refine⟨by simp[a],by simp[Value.cells,a],?_,λe=>(by rw[b]at e;cases e),λ_=>⟨rfl,a⟩⟩;intro j t u h2 h3;cases j with|zero=>simp[Value.cells]at h2 h3;subst h2;subst h3;constructor<;>assumption|succ j=>simp at h2
    .cases h
def JO(h:Iz s o e=Z (sz,es)):∃fz,s.ob.get o=Z (gj fz sz es e):=by
 unfold Iz at h;split at h
 .rename_i c d era a;obtain⟨b,h⟩|⟨_,h⟩:=af h
  .have:=beq_iff'.1 b;subst this;simp at h;obtain⟨rfl,rfl⟩:=h;exact⟨J,a⟩
  .cases h
 .rename_i a;obtain⟨b,h⟩|⟨_,h⟩:=af h
  .have:=beq_iff'.1 b;subst this;simp at h;obtain⟨rfl,rfl⟩:=h;exact⟨W,a⟩
  .cases h
 .cases h
theorem kY{fz a:Bool}{sz b e c:Nat}{es es':L D}(h:gj fz sz es e=gj a b es' c):fz=a∧sz=b∧es=es'∧e=c:=by cases fz<;>cases a<;>simp[gj]at h<;>exact⟨rfl,h⟩
def aV.nQ(hs:aV g s w){fz:Bool}{x:fh}(b:s.ob.get o=Z (gj fz sz es e))(c:g.arr o e=Z x) :
  xz g w fz sz es x∧x.sz=sz:=by
 let ⟨d,f,era,a,_,_,h⟩:=(hs.arr o e x c).old _ b (Vq _ _ _ _)
 obtain⟨rfl,h2,rfl,rfl⟩:=kY a
 simp_all
theorem cell?_of_block{w:World}{b off:Nat}{vs:Array Value}{ty:TypeId}{fz:Nat×Nat}(h:w.heap[b]?=Z (.cells vs ty fz)):w.cell? ⟨b,off,Y⟩=vs[off]?:=by simp[World.cell?,h]
def nS(b off n:Nat):(⟨b,off,Y⟩:Addr).add n=⟨b,off+n,Y⟩:=by unfold Addr.add;split<;>simp_all
def SK(h:lW (k:Int) (eP es)):k<es.length:=by have:=h.2;unfold eP at this;omega
def D.Lc(h:k<es.length):es[k]?=Z (jq es k):=by
 grind[jq]
def Dd{P:Program}{ty:TypeId}(hi:nr P ty i){s':St}(hs:aV g s w){x:T}{vx:Value}(R:aH g w x vx)
  {p:Prop} {t:T} (h:loadT i s x=Z (p,t,s')) (S:p):∃v,(Instr.loadAt ty vx).run P w=.ok v w∧aH g w t v∧s'=s:=by
 cases R with
 |ptr o off b hb=>
  cases C:s.ob.get o with
  |none=>simp[loadT,C]at h|some ob=>
  simp[loadT,C]at h;cases ob with
  |box cs=>
  let ⟨E,ety,hh,hl,hr⟩:=(hs.box o b hb).box C
  obtain⟨hn,h⟩|⟨_,h⟩:=af h
  .have r:=beq_iff'.1 hn;rw[bR]at r;simp only[fV,fE]at h;obtain⟨t',a,_,rfl,rfl⟩:=h
   let ⟨xi,d,z,NA,hu,u,F,_⟩:=hi.all
   have m:((E.toList.drop off).take i.size).length=i.size:=by
    have:((cs.drop off).take i.size).length=((E.toList.drop off).take i.size).length:=by simp[hl]
    rw[<-this,r]
   let ⟨I,h1⟩:=xE (g:=g) (w:=w) a (vals:=(E.toList.drop off).take i.size) (by rw[r,m]) (λj t v h1 h2=>by
    let ⟨h1,_⟩:=sn _ _ _ _ _ h1
    let ⟨h2,_⟩:=sn _ _ _ _ _ h2
    exact hr _ _ _ h1 (by simpa using h2))
   refine⟨_,?_,I,rfl⟩;have:=Ag (P:=P) NA hu w ⟨b,off,Y⟩ ((E.toList.drop off).take i.size) (by rw[m,u]) (λj v A=>by
    let ⟨A,_⟩:=sn _ _ _ _ _ A
    rw[nS,cell?_of_block hh];simpa using A) (λhf=>h1 (by rw[F,hf]))
   rw[F];simpa[Instr.loadAt,Instr.sureAddr]using this
  .cases h
  |_=>simp at h
 |mc d off ad val UP f hd=>
  simp only[loadT,fV,fE]at h;obtain⟨t',a,rfl,rfl,rfl⟩:=h
  let ⟨v,B,ht⟩:=CT hi a S f hd
  exact⟨v,by simpa[Instr.loadAt,Instr.sureAddr]using B,ht,rfl⟩
 |l9 o e k off len cap sz ad R=>
  simp only[loadT]at h;cases ha:Iz s o e with
  |none=>simp[ha]at h|some q=>
   let ⟨sz',es⟩:=q
   let ⟨fz,C⟩:=JO ha
   let ⟨y,u⟩:=hs.nQ C R
   simp only[ha,fV,fE]at h;obtain⟨t',a,rfl,rfl,rfl⟩:=h;subst u;have hk:=SK S.1;have K:(⟨Z ad,len,cap,sz⟩:fh).cap≠0:=by have h1:=y.len;have h2:=y.cap;omega
   let ⟨b,E,ety,Q,_,hh,_,l⟩:=y.mem K
   simp at Q;subst Q;have hex:∀j,∃v,∀c,(jq es k).cells[j]?=Z c->w.cell? ((⟨b,k*sz,Y⟩:Addr).add j)=Z v∧dD g.bp w c v:=by
    intro j;by_cases A:j<(jq es k).cells.length
    .let ⟨v,B,hd⟩:=l k _ j _ (D.Lc hk) (jr A)
     refine⟨v,λc f=>?_⟩;rw[jr A]at f;rw[<-ke f,nS,cell?_of_block hh];exact⟨B,hd⟩
    .exact ⟨undef,λc f=>by rw[List.getElem?_eq_none (by omega)]at f;cases f⟩
   let ⟨val,n⟩:=T8 hex
   let ⟨v,B,ht⟩:=CT hi a S.2 (ad:=⟨b,k*sz,Y⟩) (val:=val) (λj c f=>(n j c f).1) (λj c f=>(n j c f).2)
   refine⟨v,?_,ht,rfl⟩;rw[nS]at B;rw[nS];simpa[Instr.loadAt,Instr.sureAddr]using B
 |_=>simp[loadT]at h
end
section
def setRow_other(w:World)(g b:Nat)(cs:Array Value)(h:b≠g):(w.setRow g cs).heap[b]?=w.heap[b]?:=by unfold World.setRow;rw[Array.getElem?_modify,bO (λe=>h e.symm)]
variable {g g':Gh}{s s':St}{w w':World}{o b e fl sz:Nat}{x:fh}{fz:Bool}{es:List D}{ob:Ob}
def aV.lt(hs:aV g s w)(h:g.bP o=Z b):o<s.aD:=by
 obtain a|a:=Nat.lt_or_ge o s.aD
 .exact a
 .rw[(hs.ah o a).1]at h;cases h
def aV.lt'(hs:aV g s w)(h:g.arr o e=Z x):o<s.aD:=by
 obtain a|a:=Nat.lt_or_ge o s.aD
 .exact a
 .rw[(hs.ah o a).2 e]at h;cases h
def aV.rS(hs:aV g s w)(h:bF g o b):b<w.heap.size∧o<s.aD:=by
 obtain h1|⟨e,x,c,h1,d,a,f⟩:=h.2
 .exact ⟨(hs.box o b h1).2.1,hs.lt h1⟩
 .exact ⟨a▸(hs.arr o e x h1).1 c d f,hs.lt' h1⟩
def xp.ext{g g':Gh}{s s':St}{w w':World}{fl o b:Nat}(e:Ext fl g w g' w')(hi:∀b,g.bp b->b<w.heap.size)(f:w'.heap[b]?=w.heap[b]?)
  (i:s'.ob.get o=s.ob.get o) (a:¬g'.bp b) (h:xp g s w o b):xp g' s' w' o b:=by
 let ⟨_,c,j⟩:=h
 refine⟨a,iS c e.size,λob d=>?_⟩
 let ⟨x,h1,h2⟩:=j ob (i▸d)
 exact⟨x,f.trans h1,h2.ext e hi⟩
def xz.ext{g g':Gh}{w w':World}{fl:Nat}{fz:Bool}{sz:Nat}{es:L D}{x:fh}(e:Ext fl g w g' w')(hi:∀b,g.bp b->b<w.heap.size)
  (f:∀b,x.a=Z ⟨b,0,Y⟩->x.cap≠0->w'.heap[b]?=w.heap[b]?∧(g'.bp b↔g.bp b)) (h:xz g w fz sz es x):xz g' w' fz sz es x:=
 ⟨h.len,h.cap,h.rows,h.pos,h.VT,λa=>by
  let ⟨b,k,ty,h1,h2,h3,h4,h5⟩:=h.mem a
  let ⟨l,m⟩:=f b h1 a
  exact⟨b,k,ty,h1,h2.trans m.symm,l.trans h3,h4,λi d j c n o=>let ⟨v,p,q⟩:=h5 i d j c n o;⟨v,p,q.ext e hi⟩⟩⟩
def xz.kE(h:xz g w fz sz es x)(hi:g'.bp=g.bp):xz g' w fz sz es x:=
 ⟨h.len,h.cap,h.rows,h.pos,h.VT,by rw[hi];exact h.mem⟩
def IG.le{m g9:Nat}{hole:O Nat}{hs:L Value}(h:IG g m g9 hole hs)(a:∀j y,g.arr m j=Z y->g'.arr m j=Z y):IG g' m g9 hole hs:=
 ⟨h.1,λi v b c=>let ⟨y,h1,h2⟩:=h.2 i v b c;⟨y,a _ _ h1,h2⟩⟩
def vH.tr(h:vH g w o e x ob)(f:∀{fz sz es},xz g w fz sz es x->xz g' w' fz sz es x)(p:∀k j y,g.arr k j=Z y->g'.arr k j=Z y)(A:g'.arr o=g.arr o)(q:∀b,x.a=Z ⟨b,0,Y⟩->x.cap≠0->w'.heap[b]?=w.heap[b]?∧(g'.bp b↔g.bp b)):vH g' w' o e x ob:=by
 obtain⟨fz,es,era,h1,h2,h3,h5⟩|⟨s,es,era,m,a,hole,h1,h2,h3,h5⟩|⟨sz,l,a,h1,h2,h3,h5⟩|h|⟨h1,h2,h3,h4,h5⟩:=h
 .exact .inl ⟨fz,es,era,h1,h2,λt h=>by simp_all,λh=>f (h5 h)⟩
 .exact .inr (.inl ⟨s,es,era,m,a,hole,h1,h2,λt h=>by simp_all,λh=>let ⟨u,c,d,n⟩:=h5 h;⟨u,c,f d,n.le (p m)⟩⟩)
 .exact .inr (.inr (.inl ⟨sz,l,a,h1,λr i h=>by simp_all,by grind,λi h=>let ⟨c,v,d,n⟩:=h5 i h;⟨c,v,d,f n⟩⟩))
 .exact .inr (.inr (.inr (.inl h)))
 .let ⟨c,d⟩:=q e h2 h3
  exact .inr (.inr (.inr (.inr ⟨h1,h2,h3,λz=>h4 (d.1 z),c.trans h5⟩)))
def vH.left{p:T->Bool}{c:Ob}(h:vH g w o e x ob)(hl:si p ob c)(l:∀{fz sz es},xz g w fz sz es x->xz g' w' fz sz es x)
  (q:∀m j y,p (.sh m 0)=J->g.arr m j=Z y->g'.arr m j=Z y) (C:g'.arr o=g.arr o) (s:∀b,x.a=Z ⟨b,0,Y⟩->x.cap≠0->w'.heap[b]?=w.heap[b]?∧(g'.bp b↔g.bp b)):vH g' w' o e x c:=by
 obtain⟨fz,es,era,rfl,h2,h3,h5⟩|⟨t,es,era,m,a,hole,rfl,h2,h3,h5⟩|⟨sz,d,a,rfl,h2,h3,h5⟩|rfl|⟨rfl,h2,h3,h4,h5⟩:=h
 .have:c=gj fz x.sz es era:=by cases fz<;>exact hl.symm
  exact .inl ⟨fz,es,era,this,h2,λu h=>by simp_all,λh=>l (h5 h)⟩
 .obtain ⟨rfl,v⟩|rfl:=hl
  .exact .inr (.inl ⟨t,es,era,m,a,hole,rfl,h2,λu h=>by simp_all,λh=>let ⟨z,f,k,n⟩:=h5 h;⟨z,f,l k,n.le (λj y=>q m j y v)⟩⟩)
  .exact .inr (.inr (.inr (.inl rfl)))
 .have:c=.rws sz d a:=hl.symm;exact .inr (.inr (.inl ⟨sz,d,a,this,λr i h=>by simp_all,by grind,λi h=>let ⟨f,A,k,n⟩:=h5 i h;⟨f,A,k,l n⟩⟩))
 .have:c=.gone:=hl.symm;exact .inr (.inr (.inr (.inl this)))
 .have:c=.FG:=hl.symm
  let ⟨f,k⟩:=s e h2 h3
  exact .inr (.inr (.inr (.inr ⟨this,h2,h3,λB=>h4 (k.1 B),f.trans h5⟩)))
def Bo.ext{g g':Gh}{s s':St}{w w':World}{fl o e:Nat}{x:fh}(a:Ext fl g w g' w')(hi:∀b,g.bp b->b<w.heap.size)
  (d:∀b,x.a=Z ⟨b,0,Y⟩->x.cap≠0->w'.heap[b]?=w.heap[b]?∧(g'.bp b↔g.bp b))
  (f:s'.ob.get o=s.ob.get o) (i:g'.arr o=g.arr o) (h:Bo g s w o e x):Bo g' s' w' o e x:=by
 refine⟨λl m n=>iS (h.1 l m n) a.size,λob c=>?_⟩;exact(h.2 ob (f▸c)).tr (λh=>h.ext a hi d) (λk j y h=>a.arr k j y h) i d
def aV.aep(hs:aV g s w)(n:g.bP o=Z b){r:L T}(k:s.ob.get o=Z (.box r))(u:s.fl<=o){cs':L T}{vs':Array Value}(hl:cs'.length=vs'.size)
  (A:∀(j:Nat)(t:T)(v:Value),cs'[j]?=Z t->vs'[j]?=Z v->aH g w t v) :
  aV g {s with ob:=s.ob.set aM o (.box cs')} (w.setRow b vs')∧Ext s.fl g w g (w.setRow b vs'):=by
 have c:bF g o b:=⟨(hs.box o b n).1,.inl n⟩;have m:o<bI:=iS (hs.lt n) hs.aD;have q:Ext s.fl g w g (w.setRow b vs'):=
  ⟨λ_ _ h=>h,λ_ _ _ h=>h,λ_ h=>h,by simp,λd _ B=>setRow_other w b d vs' (λe=>B o u (e▸c)),
   λ_ _ h=>.inl h,λ_ h=>.inl h,rfl,rfl⟩
 refine⟨⟨hs.aD,hs.ah,λi d a=>?_,λi e x y=>?_,λd a=>by simpa using hs.bp d a,hs.j8⟩,q⟩
 .by_cases f:i=o
  .subst f;rw[n]at a;simp at a;subst a
   let ⟨h1,h2,h3⟩:=hs.box i b n
   let ⟨C,ty,h4,h5,h6⟩:=(hs.box i b n).box k
   refine⟨h1,by simpa using h2,λE l=>⟨_,setRow_heap w b C vs' ty _ h4,?_⟩⟩;rw[Tr.aR _ _ _ _ m,bB rfl]at l;obtain rfl:=ke l;exact .box _ _ _ hl λj t v F I=>(A j t v F I).ext q hs.bp
  .have z:d≠b:=λe=>f (hs.j8 i o b (e▸⟨(hs.box i d a).1,.inl a⟩) c);exact(hs.box i d a).ext q hs.bp (setRow_other w b d vs' z) (by simp;rw[Tr.aR _ _ _ _ m,bO f]) (hs.box i d a).1
 .have f:i≠o:=by
   rintro rfl
   cases((hs.arr i e x y).2 _ k).ov
  refine(hs.arr i e x y).ext q hs.bp (λd a K=>⟨setRow_other w b d vs' ?_,vK⟩) (by simp;rw[Tr.aR _ _ _ _ m,bO f]) rfl
  rintro rfl
  by_cases p:g.bp d
  .exact c.1 p
  .exact f (hs.j8 i o d ⟨p,.inr ⟨e,x,_,y,a,rfl,K⟩⟩ c)
def Gh.dB(g:Gh)(o b:Nat):Gh:={g with bP:=λk=>if k=o then Z b else g.bP k}
def qn(w:World)(o:Obj)(b:Nat)(h:b<w.heap.size):(w.alloc o).heap[b]?=w.heap[b]?:=by show(w.heap.push o)[b]?=_;rw[Array.getElem?_push,bO (by omega)]
def xR(w:World)(o:Obj):(w.alloc o).heap[w.heap.size]?=Z o:=by show(w.heap.push o)[w.heap.size]?=_;simp
def aV.newObj(hs:aV g s w)(hn:s.aD<bI){ob0:Ob}{x0:Obj}(u:gX g w ob0 x0) :
  aV (g.dB s.aD w.heap.size) (ew s ob0).2 (w.alloc x0)∧Ext s.fl g w (g.dB s.aD w.heap.size) (w.alloc x0):=by
 have c:=hs.ah s.aD (eR _);have k:∀o b,g.bP o=Z b->(g.dB s.aD w.heap.size).bP o=Z b:=λo b h=>by
  have:o≠s.aD:=λe=>by rw[e,c.1]at h;cases h
  simp[Gh.dB,this,h]
 have d:∀o b,bF (g.dB s.aD w.heap.size) o b->bF g o b∨(o=s.aD∧b=w.heap.size):=by
  rintro o b ⟨h1,h2|h2⟩
  .by_cases f:o=s.aD
   .subst f;simp[Gh.dB]at h2;exact .inr ⟨rfl,h2.symm⟩
   .simp[Gh.dB,f]at h2;exact .inl ⟨h1,.inl h2⟩
  .exact .inl ⟨h1,.inr h2⟩
 have m:Ext s.fl g w (g.dB s.aD w.heap.size) (w.alloc x0):=
  ⟨k,λ_ _ _ h=>h,λ_ h=>h,by simp,λb i _=>qn w _ b i,
   λo b h=>(d o b h).imp id λh=>by omega,λ_ h=>.inl h,rfl,rfl⟩
 refine⟨⟨by simp only[ew];omega,λo f=>?_,λo b i=>?_,λo e x r=>?_,λb i=>?_,λo t b h v=>?_⟩,m⟩
 .simp only[ew]at f;have h1:o≠s.aD:=by omega
  simp[Gh.dB,h1,jS];exact hs.ah o (by omega)
 .by_cases f:o=s.aD
  .subst f;have n:b=w.heap.size:=by simp[Gh.dB]at i;exact i.symm
   subst n;refine⟨λp=>?_,by simp,λob j=>⟨_,xR w _,?_⟩⟩
   .have:=hs.bp _ p;omega
   .simp[ew]at j;rw[Tr.aR _ _ _ _ hn,bB rfl]at j;obtain rfl:=ke j;exact u.ext m hs.bp
  .have q:g.bP o=Z b:=by simpa[Gh.dB,f]using i
   have a:=hs.box o b q;exact a.ext m hs.bp (qn w _ b a.2.1) (by simp[ew];rw[Tr.aR _ _ _ _ hn,bO f]) a.1
 .have a:=hs.arr o e x r;have f:o≠s.aD:=λh=>by have l:g.arr o e=Z x:=r;rw[h,c.2 e]at l;cases l
  refine a.ext m hs.bp (λb i y=>⟨qn w _ b ?_,vK⟩) (by simp[ew];rw[Tr.aR _ _ _ _ hn,bO f]) rfl;exact a.1 _ i y
 .have:=hs.bp b i;simp;omega
 .obtain h1|⟨h1,h3⟩:=d o b h<;>obtain h2|⟨h2,h4⟩:=d t b v
  .exact hs.j8 o t b h1 h2
  .have:=(hs.rS h1).1;omega
  .have:=(hs.rS h2).1;omega
  .rw[h1,h2]
def aV.dB{g:Gh}{s:St}{w:World}(hs:aV g s w)(hn:s.aD<bI){cs:L T}{vs:Array Value}(ty:TypeId)(hl:cs.length=vs.size)
  (a:∀(j:Nat)(t:T)(v:Value),cs[j]?=Z t->vs[j]?=Z v->aH g w t v) :
  aV (g.dB s.aD w.heap.size) (ew s (.box cs)).2 (w.alloc (.cells vs ty))∧Ext s.fl g w (g.dB s.aD w.heap.size) (w.alloc (.cells vs ty)):=
 hs.newObj hn (.box cs vs ty hl a)
end
section
def Gh.era(g:Gh)(o e:Nat)(x:fh):Gh:={g with arr:=λk j=>if k=o∧j=e then Z x else g.arr k j}
def Gh.fM(g:Gh)(o e:Nat)(x:fh):(g.era o e x).arr o e=Z x:=by simp[Gh.era]
theorem Gh.cP(g:Gh)(o e k j:Nat)(x:fh)(h:¬(k=o∧j=e)):(g.era o e x).arr k j=g.arr k j:=by simp[Gh.era,h]
variable {g:Gh}{s:St}{w w':World}{o e sz:Nat}{es es':List D}{x:fh}
def aV.akl(hs:aV g s w){x':fh}(R:s.ob.get o=Z (.arr sz es e))(C:g.arr o e=Z x)
  (hfl:s.fl<=o) (hos:w'.os=w.os) (E:w'.output=w.output) (c:w.heap.size<=w'.heap.size)
  (d:∀b,b<w.heap.size->¬x.at b->w'.heap[b]?=w.heap[b]?)
  (hx':∀b,x'.at b->b<w'.heap.size∧(w.heap.size<=b∨x.at b))
  (hok:xz (g.era o (e+1) x') w' J sz es' x') (hxs:x'.sz=sz) :
  aV (g.era o (e+1) x') {s with ob:=s.ob.set aM o (.arr sz es' (e+1))} w'∧Ext s.fl g w (g.era o (e+1) x') w':=by
 have t:o<bI:=iS (hs.lt' C) hs.aD
 let ⟨F,abE⟩:=hs.nQ (fz:=J) R C
 have hnext:∀S,e<S->g.arr o S=Y:=by
  let ⟨fz,v,era,h1,_,h3,_⟩:=(hs.arr o e x C).old _ R rfl
  have z:gj J sz es e=gj fz x.sz v era:=h1;obtain⟨_,_,_,rfl⟩:=kY z;exact h3
 have A:∀b,x.at b->¬g.bp b:=by
  rintro b ⟨r,h1,rfl,h3⟩ I
  let ⟨b',_,_,k1,k2,_⟩:=F.mem h3
  grind
 have f:∀b,x.at b->bF g o b:=λb m=>by
  let ⟨r,h1,h2,h3⟩:=m
  exact⟨A b ⟨r,h1,h2,h3⟩,.inr ⟨e,x,r,C,h1,h2,h3⟩⟩
 have K:∀k j y,g.arr k j=Z y->(g.era o (e+1) x').arr k j=Z y:=λk j y h=>by
  rw[Gh.cP]
  .exact h
  grind
 have hown:∀k b,bF (g.era o (e+1) x') k b->bF g k b∨(k=o∧x'.at b):=by
  rintro k b ⟨h1,h2|⟨j,y,r,h2,h3,h4,h5⟩⟩
  .exact .inl ⟨h1,.inl h2⟩
  .by_cases P:k=o∧j=e+1
   .obtain ⟨rfl,rfl⟩:=P;rw[Gh.fM]at h2;simp at h2;subst h2;exact .inr ⟨rfl,r,h3,h4,h5⟩
   .rw[Gh.cP _ _ _ _ _ _ P]at h2;exact .inl ⟨h1,.inr ⟨j,y,r,h2,h3,h4,h5⟩⟩
 have i:∀k b,bF (g.era o (e+1) x') k b->bF g k b∨(k=o∧w.heap.size<=b):=λk b h=>by
  grind
 have he:Ext s.fl g w (g.era o (e+1) x') w':=
  ⟨λ_ _ h=>h,K,λ_ h=>h,c,λb m hn=>d b m λn=>hn o hfl (f b n),λk b h=>(i k b h).imp id (·.2),λ_ h=>.inl h,hos,E⟩
 refine⟨⟨hs.aD,λk hk=>⟨(hs.ah k hk).1,λj=>?_⟩,λk b m=>?_,λk j y Q=>?_,λb m=>iS (hs.bp b m) c,λk k' b h h'=>?_⟩,he⟩
 .rw[Gh.cP]
  .exact (hs.ah k hk).2 j
  .rintro ⟨rfl,_⟩
   have:=hs.lt' C
   grind
 .have a:k≠o:=by
   rintro rfl
   exact(hs.box k b m).BK J R
  have l:=hs.box k b m;refine l.ext he hs.bp (d b l.2.1 λn=>a (hs.j8 k o b ⟨l.1,.inl m⟩ (f b n))) (by simp;rw[Tr.aR _ _ _ _ t,bO a]) l.1
 .by_cases a:k=o
  .subst a;by_cases hj:j=e+1
   .subst hj;rw[Gh.fM]at Q;simp at Q;subst Q;refine⟨λr ha B=>(hx' _ ⟨r,ha,rfl,B⟩).1,λob p=>.inl ⟨J,es',e+1,?_,eR _,λS h=>?_,λ_=>hxs▸hok⟩⟩
    .rw[Tr.aR _ _ _ _ t,bB rfl]at p
     grind[gj]
    grind[Gh.cP]
   .have q:g.arr k j=Z y:=by rwa [Gh.cP _ _ _ _ _ _ (by omega)]at Q
    have h4:=(hs.arr k j y q).1
    let ⟨fz,v,era,h1,h2,h3,_⟩:=(hs.arr k j y q).old _ R rfl
    have z:gj J sz es e=gj fz y.sz v era:=h1;obtain⟨_,hysz,_,rfl⟩:=kY z;refine⟨λr ha B=>iS (h4 r ha B) c,λob p=>.inl ⟨J,es',e+1,?_,by omega,λS h=>?_,λh=>by omega⟩⟩
    .rw[Tr.aR _ _ _ _ t,bB rfl]at p
     grind[gj]
    grind[Gh.cP]
  .have q:g.arr k j=Z y:=by rwa [Gh.cP _ _ _ _ _ _ (λh=>a h.1)]at Q
   have u:=hs.arr k j y q;refine u.ext he hs.bp (λb m B=>⟨?_,vK⟩) (by simp;rw[Tr.aR _ _ _ _ t,bO a]) (funext λj=>Gh.cP _ _ _ _ _ _ (λh=>a h.1));refine d b (u.1 _ m B) λn=>?_;by_cases I:g.bp b
   .simp_all
   .exact a (hs.j8 k o b ⟨I,.inr ⟨j,y,_,q,m,rfl,B⟩⟩ (f b n))
 .obtain h1|⟨h1,h3⟩:=i k b h<;>obtain h2|⟨h2,h4⟩:=i k' b h'
  .exact hs.j8 k k' b h1 h2
  .have:=(hs.rS h1).1;omega
  .have:=(hs.rS h2).1;omega
  .rw[h1,h2]
def aV.PN(hs:aV g s w)(hn:s.aD<bI)
  (t:w'.os=w.os) (o:w'.output=w.output) (c:w.heap.size<=w'.heap.size)
  (a:∀b,b<w.heap.size->w'.heap[b]?=w.heap[b]?) (E:∀b,x.at b->w.heap.size<=b∧b<w'.heap.size)
  (u:xz (g.era s.aD 0 x) w' J sz es x) (v:x.sz=sz) :
  aV (g.era s.aD 0 x) (ew s (.arr sz es 0)).2 w'∧Ext s.fl g w (g.era s.aD 0 x) w':=by
 have z:=hs.ah s.aD (eR _);have p:∀k j y,g.arr k j=Z y->(g.era s.aD 0 x).arr k j=Z y:=λk j y h=>by
  rw[Gh.cP]
  .exact h
  grind
 have d:∀k b,bF (g.era s.aD 0 x) k b->bF g k b∨(k=s.aD∧w.heap.size<=b):=by
  rintro k b ⟨h1,h2|⟨j,y,r,h2,h3,h4,h5⟩⟩
  .exact .inl ⟨h1,.inl h2⟩
  .by_cases e:k=s.aD∧j=0
   .obtain ⟨rfl,rfl⟩:=e;rw[Gh.fM]at h2;simp at h2;subst h2;exact .inr ⟨rfl,(E b ⟨r,h3,h4,h5⟩).1⟩
   .rw[Gh.cP _ _ _ _ _ _ e]at h2;exact .inl ⟨h1,.inr ⟨j,y,r,h2,h3,h4,h5⟩⟩
 have A:Ext s.fl g w (g.era s.aD 0 x) w':=
  ⟨λ_ _ h=>h,p,λ_ h=>h,c,λb n _=>a b n,λk b h=>(d k b h).imp id (·.2),λ_ h=>.inl h,t,o⟩
 refine⟨⟨by simp only[ew];omega,λk I=>?_,λk b n=>?_,λk j y q=>?_,λb n=>iS (hs.bp b n) c,λk F b h K=>?_⟩,A⟩
 .simp only[ew]at I;refine⟨(hs.ah k (by omega)).1,λj=>?_⟩;rw[Gh.cP _ _ _ _ _ _ (by omega)];exact(hs.ah k (by omega)).2 j
 .have B:g.bP k=Z b:=n;have f:=hs.box k b B;have i:k≠s.aD:=λh=>by simp_all
  exact f.ext A hs.bp (a b f.2.1) (by simp[ew];rw[Tr.aR _ _ _ _ hn,bO i]) f.1
 .by_cases e:k=s.aD∧j=0
  .obtain ⟨rfl,rfl⟩:=e;rw[Gh.fM]at q;simp at q;subst q;refine⟨λr P C=>(E _ ⟨r,P,rfl,C⟩).2,λob l=>.inl ⟨J,es,0,?_,eR _,λQ h=>?_,λ_=>v▸u⟩⟩
   .simp[ew]at l;rw[Tr.aR _ _ _ _ hn,bB rfl]at l
    grind[gj]
   grind[Gh.cP]
  .rw[Gh.cP _ _ _ _ _ _ e]at q;have i:k≠s.aD:=λh=>by simp_all
   have m:=hs.arr k j y q;refine m.ext A hs.bp (λb n C=>⟨?_,vK⟩) (by simp[ew];rw[Tr.aR _ _ _ _ hn,bO i]) (funext λj=>Gh.cP _ _ _ _ _ _ (λh=>i h.1));exact a b (m.1 _ n C)
 .obtain h1|⟨h1,h3⟩:=d k b h<;>obtain h2|⟨h2,h4⟩:=d F b K
  .exact hs.j8 k F b h1 h2
  .have:=(hs.rS h1).1;omega
  .have:=(hs.rS h2).1;omega
  .rw[h1,h2]
def aV.aey(hs:aV g s w){b:Nat}(v:s.ob.get o=Z (.arr sz es e))(z:g.arr o e=Z x)
  (A:s.fl<=o) (K:x.at b) {vs':Array Value} (R:xz g (w.setRow b vs') J sz es' x) :
  aV g {s with ob:=s.ob.set aM o (.arr sz es' e)} (w.setRow b vs')∧Ext s.fl g w g (w.setRow b vs'):=by
 have l:o<bI:=iS (hs.lt' z) hs.aD
 let ⟨n,P⟩:=hs.nQ (fz:=J) v z
 have d:¬g.bp b:=by
  obtain⟨B,h1,rfl,h3⟩:=K;intro S
  let ⟨t,_,_,k1,k2,_⟩:=n.mem h3
  grind
 have f:bF g o b:=by
  let ⟨B,h1,h2,h3⟩:=K
  exact⟨d,.inr ⟨e,x,B,z,h1,h2,h3⟩⟩
 have C:Ext s.fl g w g (w.setRow b vs'):=
  ⟨λ_ _ h=>h,λ_ _ _ h=>h,λ_ h=>h,by simp,λt _ hn=>setRow_other w b t vs' (λe=>hn o A (e▸f)),
   λ_ _ h=>.inl h,λ_ h=>.inl h,rfl,rfl⟩
 refine⟨⟨hs.aD,hs.ah,λk c m=>?_,λk j y u=>?_,λt E=>by simpa using hs.bp t E,hs.j8⟩,C⟩
 .have a:k≠o:=by
   rintro rfl
   exact(hs.box k c m).BK J v
  have i:=hs.box k c m;exact i.ext C hs.bp (setRow_other w b c vs' λe=>a (hs.j8 k o c ⟨i.1,.inl m⟩ (e▸f))) (by simp;rw[Tr.aR _ _ _ _ l,bO a]) i.1
 .by_cases a:k=o
  .subst a;have h4:=(hs.arr k j y u).1
   let ⟨fz,F,era,h1,h2,h3,_⟩:=(hs.arr k j y u).old _ v rfl
   have I:gj J sz es e=gj fz y.sz F era:=h1;obtain⟨_,Q,_,rfl⟩:=kY I;refine⟨λB ha m=>by simp_all,λob p=>.inl ⟨J,es',e,?_,h2,h3,λhje=>?_⟩⟩
   .rw[Tr.aR _ _ _ _ l,bB rfl]at p
    grind[gj]
   simp_all
  .have q:=hs.arr k j y u;refine q.ext C hs.bp (λc m r=>⟨setRow_other w b c vs' ?_,vK⟩) (by simp;rw[Tr.aR _ _ _ _ l,bO a]) rfl
   rintro rfl
   exact a (hs.j8 k o c ⟨d,.inr ⟨j,y,_,u,m,rfl,r⟩⟩ f)
def Gh.lK(g:Gh)(P:Nat->Prop):Gh:={g with bp:=λb=>g.bp b∨P b}
def aV.ab4(hs:aV g s w)(Q:s.ob.get o=Z (.arr sz es e))(K:g.arr o e=Z x)
  (R:s.fl<=o) :
  aV (g.lK x.at) {s with ob:=s.ob.set aM o (.lK sz es e)} w∧Ext s.fl g w (g.lK x.at) w:=by
 have t:o<bI:=iS (hs.lt' K) hs.aD
 let ⟨a,abE⟩:=hs.nQ (fz:=J) Q K
 have u:∀b,x.at b->¬g.bp b:=by
  rintro b ⟨S,h1,rfl,h3⟩ n
  let ⟨b',_,_,k1,k2,_⟩:=a.mem h3
  grind
 have f:∀b,x.at b->bF g o b:=λb z=>by
  let ⟨S,h1,h2,h3⟩:=z
  exact⟨u b ⟨S,h1,h2,h3⟩,.inr ⟨e,x,S,K,h1,h2,h3⟩⟩
 have p:∀k b,bF (g.lK x.at) k b->bF g k b∧¬x.at b:=λk b h=>⟨⟨λhi=>h.1 (.inl hi),h.2⟩,λhi=>h.1 (.inr hi)⟩;have P:Ext s.fl g w (g.lK x.at) w:=
  ⟨λ_ _ h=>h,λ_ _ _ h=>h,λ_ h=>.inl h,eR _,λ_ _ _=>rfl,λk b h=>.inl (p k b h).1,
   λb h=>h.imp id λh=>.inr ⟨o,R,f b h⟩,rfl,rfl⟩
 refine⟨⟨hs.aD,hs.ah,λk c r=>?_,λk j y C=>?_,λb z=>?_,λk k' b h h'=>hs.j8 k k' b (p k b h).1 (p k' b h').1⟩,P⟩
 .have m:k≠o:=by
   rintro rfl
   exact(hs.box k c r).BK J Q
  have q:=hs.box k c r;refine q.ext P hs.bp rfl (by simp;rw[Tr.aR _ _ _ _ t,bO m]) ?_
  rintro(n|A)
  .exact q.1 n
  .exact m (hs.j8 k o c ⟨q.1,.inl r⟩ (f c A))
 .by_cases m:k=o
  .subst m;have h4:=(hs.arr k j y C).1
   let ⟨fz,es0,era,h1,h2,h3,_⟩:=(hs.arr k j y C).old _ Q rfl
   have h1':gj J sz es e=gj fz y.sz es0 era:=h1;obtain⟨_,l,_,rfl⟩:=kY h1';refine⟨h4,λob E=>.inl ⟨W,es,e,?_,h2,h3,λhje=>?_⟩⟩
   .rw[Tr.aR _ _ _ _ t,bB rfl]at E
    grind[gj]
   .subst hje;have B:g.arr k j=Z y:=C;rw[K]at B;simp at B;subst B;refine⟨a.len,a.cap,λd hd=>l▸a.rows d hd,l▸a.pos,a.VT,λr=>?_⟩
    let ⟨b,vs,ty,k1,_,k3,k4,k5⟩:=a.mem r
    exact⟨b,vs,ty,k1,⟨λ_=>.inr ⟨_,k1,rfl,r⟩,λ_=>rfl⟩,k3,l▸k4,λi d j c hd hj=>let ⟨v,hv,hr⟩:=k5 i d j c hd hj;⟨v,l▸hv,hr.ext P hs.bp⟩⟩
  .have F:=hs.arr k j y C;refine F.ext P hs.bp (λc r I=>⟨rfl,⟨λh=>h.elim id λA=>?_,.inl⟩⟩) (by simp;rw[Tr.aR _ _ _ _ t,bO m]) rfl;by_cases n:g.bp c
   .exact n
   .exact absurd (hs.j8 k o c ⟨n,.inr ⟨j,y,_,C,r,rfl,I⟩⟩ (f c A)) m
 .obtain z|z:=z
  .exact hs.bp b z
  .exact (hs.rS (f b z)).1
end
section
theorem sq:∀{r b i a:Nat},rc r i=rc b a->r=b∧i=a
 |0,0,i,a,h=>by simp[rc]at h;omega
 |0,b+1,i,a,h=>by simp[rc,Nat.pow_zero,IZ,Nat.pow_succ,MU _ 2,Nat.mul_assoc]at h;omega
 |r+1,0,i,a,h=>by simp[rc,Nat.pow_zero,IZ,Nat.pow_succ,MU _ 2,Nat.mul_assoc]at h;omega
 |r+1,b+1,i,a,h=>by
  have:rc r i=rc b a:=by
   grind[rc]
  have:=sq this;omega
variable {g:Gh}{s:St}{w:World}{o e nj sz era m g9 r i szr:Nat}{es:List D}{hole:Option Nat}{x y:fh}{hl:List Value}{iU:List (List D)}{fz:Bool}{I:Nat->Prop}{d:D}
def aV.Ye{s':St}(hs:aV g s w)(hn:s'.aD=s.aD)(c:∀o,s'.ob.get o=s.ob.get o):aV g s' w:=
 ⟨hn▸hs.aD,λo h=>hs.ah o (hn▸h),λo b h=>let ⟨h1,h2,h3⟩:=hs.box o b h;⟨h1,h2,λob a=>h3 ob (c o▸a)⟩,λo e x h=>let ⟨h1,h2⟩:=hs.arr o e x h;⟨h1,λob a=>h2 ob (c o▸a)⟩,hs.bp,hs.j8⟩
def aV.As(hs:aV g s w){ob:Ob}(a:s.ob.get o=Z ob)(hi:ob.ov=W):g.bP o=Y:=by
 cases h:g.bP o with
 |none=>rfl|some b=>
  let ⟨x,_,h2⟩:=(hs.box o b h).2.2 ob a
  have:=h2.BK
  simp_all
def aV.BL(hs:aV g s w)(f:s.ob.get o=Z (.lS nj sz es era m g9 hole))(i:g.arr o e=Z x) :
  x.sz=sz∧e<=era∧(∀c,era<c->g.arr o c=Y)∧(e=era->∃hl,hl.length=es.length∧xz g w J sz (lits nj es hl) x∧IG g m g9 hole hl):=by
 obtain⟨fz,_,_,h,_⟩|⟨j,k,d,l,a,b,h,h2,h3,h4⟩|⟨_,_,_,h,_⟩|h|⟨h,_⟩:=(hs.arr o e x i).2 _ f
 .cases fz<;>cases h
 .simp_all
 .cases h
 .cases h
 .cases h
def aV.view(hs:aV g s w)(f:s.ob.get o=Z (.lS nj sz es era m g9 hole))(i:g.arr o era=Z x) :
  ∃hl,hl.length=es.length∧xz g w J sz (lits nj es hl) x∧IG g m g9 hole hl∧aV g {s with ob:=s.ob.set aM o (.arr sz (lits nj es hl) era)} w:=by
 have d:o<bI:=iS (hs.lt' i) hs.aD
 let ⟨_,_,_,h4⟩:=hs.BL f i
 let ⟨hl,h5,h6,n⟩:=h4 rfl
 have p:=hs.As f rfl;refine⟨hl,h5,h6,n,hs.aD,hs.ah,λk b q=>?_,λk e y j=>?_,hs.bp,hs.j8⟩
 .have c:k≠o:=by grind
  let ⟨h,l,r⟩:=hs.box k b q
  refine⟨h,l,λob a=>r ob ?_⟩;simp at a;rwa [Tr.aR _ _ _ _ d,bO c]at a
 .let ⟨h,l⟩:=hs.arr k e y j
  refine⟨h,λob a=>?_⟩;rw[Tr.aR _ _ _ _ d]at a;by_cases c:k=o
  .subst c;rw[bB rfl]at a;obtain rfl:=ke a
   let ⟨q1,q2,q3,_⟩:=hs.BL f j
   refine .inl ⟨J,lits nj es hl,era,by rw[q1];rfl,q2,q3,λt=>?_⟩
   simp_all
  simp_all
def aV.V6(hs:aV g s w)(d:o<bI)(p:s.ob.get o=Z (.arr sz (lits nj es hl) era))(f:hl.length=es.length)
  (t:IG g m g9 hole hl):aV g {s with ob:=s.ob.set aM o (.lS nj sz es era m g9 hole)} w:=by
 have u:=hs.As p rfl;refine⟨hs.aD,hs.ah,λk b v=>?_,λk e y q=>?_,hs.bp,hs.j8⟩
 .have c:k≠o:=by grind
  let ⟨i,r,x⟩:=hs.box k b v
  refine⟨i,r,λob a=>x ob ?_⟩;simp at a;rwa [Tr.aR _ _ _ _ d,bO c]at a
 .let ⟨i,r⟩:=hs.arr k e y q
  refine⟨i,λob a=>?_⟩;rw[Tr.aR _ _ _ _ d]at a;by_cases c:k=o
  .subst c;rw[bB rfl]at a;obtain rfl:=ke a
   let ⟨fz,j,h,h1,h2,h3,h4⟩:=(hs.arr k e y q).old _ p rfl
   have l:gj J sz (lits nj es hl) era=gj fz y.sz j h:=h1;obtain⟨rfl,n,rfl,rfl⟩:=kY l;exact .inr (.inl ⟨nj,es,era,m,g9,hole,by rw[n],h2,h3,λz=>⟨hl,f,h4 z,t⟩⟩)
  simp_all
def aV.qB(hs:aV g s w)(k:s.ob.get m=Z (.rws sz iU r))(l:g.arr m e=Z y) :
  (∀a i,r<a->g.arr m (rc a i)=Y)∧(∀i c y d,i≠c->g.arr m (rc r i)=Z y->g.arr m (rc r c)=Z d->∀b,y.at b->¬d.at b)∧
   (∀i,e=rc r i->y.sz=sz∧∃f,iU[i]?=Z f∧xz g w J sz f y):=by
 obtain⟨fz,_,_,h,_⟩|⟨_,_,_,_,_,_,h,_⟩|⟨n,j,a,h,h2,h3,h4⟩|h|⟨h,_⟩:=(hs.arr m e y l).2 _ k
 .cases fz<;>cases h
 .cases h
 .grind
 .cases h
 .cases h
def xz.at_(h:xz g w fz sz es x){b:Nat}(a:x.at b):(fz=W↔g.bp b)∧∃vs ty,x.a=Z ⟨b,0,Y⟩∧w.heap[b]?=Z (.cells vs ty (0,0)):=by
 let ⟨c,h1,h2,h3⟩:=a
 let ⟨d,vs,ty,e,f,i,_⟩:=h.mem h3
 grind
def xz.Vf(a:xz g w fz sz es x)(o:∀b,g.bp b->I b)(p:∀b,x.at b->I b):dD I w (.sl es) (.slice x.a x.len x.cap):=by
 rw[a.len];by_cases e:x.cap=0
 .have r:es=[]:=by
   have h1:=a.len;have h2:=a.cap
   simp_all
  subst r;exact .sl [] x.a x.cap sz (λ_ _=>undef) (by simp) (by simp) (by simp) (λh=>absurd rfl h) (λi j d c h=>by simp at h)
 .let ⟨b,s,ty,h1,h2,h3,h4,h5⟩:=a.mem e
  have m:∀q:Nat×Nat,∃v,∀d c,es[q.1]?=Z d->d.cells[q.2]?=Z c->s[q.1*sz+q.2]?=Z v∧dD I w c v:=by
   rintro⟨i,j⟩
   by_cases n:i<es.length
   .by_cases k:j<(es[i]).cells.length
    .let ⟨v,t,u⟩:=h5 i _ j _ (jr n) (jr k)
     refine⟨v,λd c f e=>?_⟩;rw[jr n]at f;simp at f;subst f;rw[jr k]at e;simp at e;subst e;exact⟨t,u.mono (λ_ _=>rfl) o⟩
    .refine ⟨undef,λd c f e=>?_⟩
     simp_all
   simp_all
  let ⟨val,l⟩:=T8 m
  refine .sl es x.a x.cap sz (λi j=>val (i,j)) (by have:=a.len;have:=a.cap;omega) a.rows a.VT (λ_=>⟨_,h1,p b ⟨_,h1,rfl,e⟩,λi j d c f k=>?_⟩) (λi j d c f k=>(l (i,j) d c f k).2);rw[nS,cell?_of_block h3]
  simp_all
def z7(l:L D):D.oY l=(l.map D.lby).sum:=by
 induction l with|nil=>rfl|cons a l b=>grind[D.oY]
def IS{α:Type}{l:L α}{a:α}(h:l[i]?=Z a):l.set i a=l:=by
 apply M1
 grind
def Xs(a:hl.length=es.length)(h:es[i]?=Z d):∃v,hl[i]?=Z v∧(lits nj es hl)[i]?=Z (jC nj d v):=by
 have b:=cB h
 simp_all[lits]
theorem ot{nj:Nat}{es:L D}{hl:L Value}(a:hl.length=es.length):(lits nj es hl).length=es.length:=by simp[lits];omega
def AF(nj:Nat)(d:D)(b:L D)(a:O Addr)(n m:Nat):(AG nj d b).sM=(jC nj d (.slice a n m)).sM:=by show D.oY _=D.oY _;rw[z7,z7,Fo,Fo];rfl
def AW{j:Nat}{c a:O Addr}(f:d.cells[j]?=Z (.sl []))(p:dD I w (.sl [jC j d (.slice c 0 0)]) (.slice a 1 1)):dD I w (.sl [d]) (.slice a 1 1):=by
 have b:=cB f;generalize t:(Value.slice a 1 1)=v at p;cases p with
 |sl es E cap sz val q l z F K=>
 cases t;have hl:(jC j d (.slice c 0 0)).cells=d.cells.set j (.lit (.slice c 0 0)):=rfl;have m:∀(k:Nat)(x:D),d.cells[k]?=Z x->∃r,(jC j d (.slice c 0 0)).cells[k]?=Z r∧∀u,dD I w r u->dD I w x u:=λk x e=>by
  by_cases A:k=j
  .subst A;rw[f]at e;cases e;refine⟨.lit (.slice c 0 0),by rw[hl,Wp b],λu B=>?_⟩;cases B;exact .sl [] c 0 0 (λ_ _=>undef) (by simp) (by simp) (by simp) (λh=>absurd rfl h) (λi j d c h=>by simp at h)
  grind
 have s:d.sM=(jC j d (.slice c 0 0)).sM:=by
  cases d with
  |agg g=>
   show D.oY g=D.oY (g.set j (.lit (.slice c 0 0)));rw[z7,z7,Fo];have:(g.map D.lby)[j]?=Z 24:=by rw[lC];have n:g[j]?=Z (.sl []):=f;rw[n];rfl
   have o:(D.lit (Value.slice c 0 0)).lby=24:=rfl;rw[o,IS this]
  |_=>
   have C:j=0:=by have:j<1:=b;omega
   subst C;cases f<;>rfl
 refine .sl [d] a 1 sz val (by simp) (λx e=>?_) (λx e=>?_) (λ_=>?_) (λi k x y h1 h2=>?_)
 .rw[rL.1 e,<-l _ (rL.2 rfl),hl,Kr]
 .simp_all
 .grind
 grind
def aV.U5(hs:aV g s w)(ho:s.ob.get o=Z (.lS nj sz es era m r Y))(hm:s.ob.get m=Z (.rws szr iU r))
  (hmN:m<bI) (hx:g.arr o era=Z x) (hfl:s.fl<=o) (Ql:s.fl<=m) :
  ∃g',aV g' {s with ob:=(s.ob.set aM m .gone).set aM o (.lK sz (mX nj es iU) era)} w∧Ext s.fl g w g' w:=by
 have mP:o<bI:=iS (hs.lt' hx) hs.aD;have hom:o≠m:=by grind
 let ⟨abE,_,hnx,h4⟩:=hs.BL ho hx
 let ⟨hl,K,q,hL⟩:=h4 rfl
 let R:Nat->Prop:=λb=>x.at b∨∃i y,g.arr m (rc r i)=Z y∧y.at b
 have B:∀b,R b->∃k,s.fl<=k∧(k=o∨k=m)∧bF g k b:=by
  rintro b (p|⟨i,y,hy,p⟩)
  .have h1:=(q.at_ p).1
   let ⟨ad,k1,k2,k3⟩:=p
   exact⟨o,hfl,.inl rfl,λn=>Bool.noConfusion (h1.2 n),.inr ⟨era,x,ad,hx,k1,k2,k3⟩⟩
  .let ⟨_,t,_,hr⟩:=(hs.qB hm hy).2.2 i rfl
   have h1:=(hr.at_ p).1
   let ⟨ad,k1,k2,k3⟩:=p
   exact⟨m,Ql,.inr rfl,λn=>Bool.noConfusion (h1.2 n),.inr ⟨_,y,ad,hy,k1,k2,k3⟩⟩
 have adu:∀b,R b->¬g.bp b:=λb p=>let ⟨_,_,_,hO⟩:=B b p;hO.1;have C:∀k b,bF (g.lK R) k b->bF g k b∧¬R b:=λk b h=>⟨⟨λS=>h.1 (.inl S),h.2⟩,λS=>h.1 (.inr S)⟩;have he:Ext s.fl g w (g.lK R) w:=
  ⟨λ_ _ h=>h,λ_ _ _ h=>h,λ_ h=>.inl h,eR _,λ_ _ _=>rfl,λk b h=>.inl (C k b h).1,
   λb h=>h.imp id λh=>.inr (let ⟨k,h1,_,h3⟩:=B b h;⟨k,h1,h3⟩),rfl,rfl⟩
 have eo:∀k,((s.ob.set aM m .gone).set aM o (.lK sz (mX nj es iU) era)).get k=if k=o then Z (.lK sz (mX nj es iU) era)else if k=m then Z .gone else s.ob.get k:=λk=>by rw[Tr.aR _ _ _ _ mP,Tr.aR _ _ _ _ hmN]
 have apM:=hs.As ho rfl;have apN:=hs.As hm rfl;refine⟨g.lK R,⟨hs.aD,hs.ah,λk c P=>?_,λk j y hy=>?_,λb p=>?_,λk k' b h h'=>hs.j8 k k' b (C k b h).1 (C k' b h').1⟩,he⟩
 .have hc':g.bP k=Z c:=P;have E:k≠o:=by grind
  have I:k≠m:=by grind
  have F:=hs.box k c P;refine F.ext he hs.bp rfl (by simp;rw[eo,bO E,bO I]) ?_
  rintro(n|zo)
  .exact F.1 n
  .let ⟨k',_,h1,h2⟩:=B c zo
   have:=hs.j8 k k' c ⟨F.1,.inl P⟩ h2;omega
 .have u:g.arr k j=Z y:=hy;by_cases E:k=o
  .subst E
   let ⟨q1,q2,_,_⟩:=hs.BL ho u
   refine⟨(hs.arr k j y u).1,λob e=>?_⟩;simp at e;rw[eo,bB rfl]at e;obtain rfl:=ke e;refine .inl ⟨W,mX nj es iU,era,by rw[q1];rfl,q2,hnx,λhje=>?_⟩;subst hje;rw[hx]at u;cases u;rw[q1];have A:∀(i:Nat)(d:D),es[i]?=Z d->∃(t:L D)(l:fh),iU[i]?=Z t∧hl[i]?=Z (Value.slice l.a l.len l.cap)∧(lits nj es hl)[i]?=Z (jC nj d (.slice l.a l.len l.cap))∧dD (g.lK R).bp w (.sl t) (.slice l.a l.len l.cap):=by
    intro i d hd
    let ⟨v,hv,a⟩:=Xs (nj:=nj) K hd
    obtain⟨l,hyy,rfl⟩:=hL.2 i v hv (by simp)
    let ⟨_,t,hrs,hra⟩:=(hs.qB hm hyy).2.2 i rfl
    exact⟨t,l,hrs,hv,a,hra.Vf (λ_ h=>.inl h) (λb p=>.inr (.inr ⟨i,l,hyy,p⟩))⟩
   have Qm:(mX nj es iU).length=es.length:=by
    rw[mX,List.length_zipWith];obtain h|h:=Nat.lt_or_ge iU.length es.length
    .let ⟨t,_,hrs,_⟩:=A iU.length _ (jr h)
     simp_all
    .omega
   have z:∀(i:Nat)(f:D),(mX nj es iU)[i]?=Z f->∃d t,es[i]?=Z d∧iU[i]?=Z t∧f=AG nj d t:=by
    grind[mX]
   refine⟨by rw[Qm];have:=q.len;rw[ot K]at this;exact this,q.cap,λf hf=>?_,q.pos,λf hf=>?_,λP=>?_⟩
   .let ⟨i,S⟩:=Wn hf
    obtain⟨d,t,h1,h2,rfl⟩:=z i f S
    let ⟨_,_,_,_,a,_⟩:=A i d h1
    have:=q.rows _ (iz a)
    grind[jC,AG,D.cells]
   .let ⟨i,S⟩:=Wn hf
    obtain⟨d,t,h1,h2,rfl⟩:=z i f S
    let ⟨_,l,_,_,a,_⟩:=A i d h1
    rw[AF nj d t l.a l.len l.cap];have p:=q.VT _ (iz a)
    grind[ot]
   .let ⟨b,vs,ty,k1,_,k3,k4,k5⟩:=q.mem P
    refine⟨b,vs,ty,k1,⟨λ_=>.inr (.inl ⟨_,k1,rfl,P⟩),λ_=>rfl⟩,k3,k4,λi f Q c hf hjj=>?_⟩;obtain⟨d,t,h1,h2,rfl⟩:=z i f hf
    let ⟨rs',l,h2',hv,a,hdr⟩:=A i d h1
    rw[h2]at h2';cases h2';by_cases hjn:Q=nj
    .subst hjn;have hlt:Q<d.cells.length:=by grind[AG,D.cells]
     let ⟨v,hv1,hv2⟩:=k5 i _ Q (.lit (.slice l.a l.len l.cap)) a (by show(d.cells.set Q _)[Q]?=_;rw[Wp hlt])
     cases hv2;have hce:c=.sl t:=by
      have hj2:(d.cells.set Q (.sl t))[Q]?=Z c:=hjj
      simp_all
     simp_all
    .let ⟨v,hv1,hv2⟩:=k5 i _ Q c a (by
      grind[jC,AG,D.cells])
     exact⟨v,hv1,hv2.ext he hs.bp⟩
  .by_cases I:k=m
   .subst I;refine⟨(hs.arr k j y u).1,λob e=>?_⟩;rw[eo,bO E,bB rfl]at e;obtain rfl:=ke e;exact .inr (.inr (.inr (.inl rfl)))
   .have afm:=hs.arr k j y u;refine afm.ext he hs.bp (λc P hcap=>⟨rfl,⟨λh=>h.elim id λzo=>?_,.inl⟩⟩) (by simp;rw[eo,bO E,bO I]) rfl;by_cases n:g.bp c
    .exact n
    .let ⟨k',_,h1,h2⟩:=B c zo
     have:=hs.j8 k k' c ⟨n,.inr ⟨j,y,_,u,P,rfl,hcap⟩⟩ h2;omega
 .obtain p|p:=p
  .exact hs.bp b p
  .let ⟨k,_,_,h⟩:=B b p
   exact(hs.rS h).1
structure TA(g:Gh)(w:World)(n:Nat)(es:List D)(x:fh)(v:Value)(w':World)(x':fh):Prop where
 val:v=.slice x'.a x'.len x'.cap
 sz:x'.sz=n
 os:w'.os=w.os
 output:w'.output=w.output
 size:w.heap.size<=w'.heap.size
 heap:∀b,b<w.heap.size->¬x.at b->w'.heap[b]?=w.heap[b]?
 at_:∀b,x'.at b->b<w'.heap.size∧(w.heap.size<=b∨x.at b)
 ok:xz g w' J n es x'
noncomputable def Gh.oM(g:Gh)(m r i:Nat)(y:fh):Gh:=by
 classical
 exact{g with arr:=λk j=>if k=m then(if h:∃a,j=rc (r+1) a then(if h.choose=i then Z y else g.arr m (rc r h.choose))else g.arr m j)else g.arr k j}
theorem Gh.mR{g:Gh}{m r i:Nat}{y:fh}{k:Nat}(h:k≠m):(g.oM m r i y).arr k=g.arr k:=by
 funext j
 simp[Gh.oM,h]
def Gh.qC(b:Nat):(g.oM m r i y).arr m (rc (r+1) b)=if b=i then Z y else g.arr m (rc r b):=by have a:∃c,rc (r+1) b=rc (r+1) c:=⟨b,rfl⟩;have d:a.choose=b:=(sq a.choose_spec).2.symm;simp[Gh.oM,ki,dif_pos a,d]
theorem Gh.y9{g:Gh}{m r i:Nat}{y:fh}{j:Nat}(h:∀a,j≠rc (r+1) a):(g.oM m r i y).arr m j=g.arr m j:=by
 simp_all[Gh.oM]
def aV.acw{w':World}(hs:aV g s w){F:fh}{v:Value}{t:L D}(ho:s.ob.get o=Z (.lS nj sz es era m r Y))
  (hm:s.ob.get m=Z (.rws szr iU r)) (hoN:o<bI) (S:g.arr m (rc r i)=Z y) (f:TA g w szr t y v w' F) (Ql:s.fl<=m) :
  aV (g.oM m r i F) {s with ob:=(s.ob.set aM m (.rws szr (iU.set i t) (r+1))).set aM o (.lS nj sz es era m (r+1) (Z i))} w'∧Ext s.fl g w (g.oM m r i F) w':=by
 have hmN:m<bI:=iS (hs.lt' S) hs.aD;have hom:o≠m:=by grind
 let ⟨hnone,I,hrow⟩:=hs.qB hm S
 let ⟨_,rs0,abG,apA⟩:=hrow i rfl
 have hilt:=cB abG;have P:∀b,y.at b->bF g m b:=λb a=>by
  have h1:=(apA.at_ a).1
  let ⟨u,k1,k2,Q⟩:=a
  exact⟨λUP=>Bool.noConfusion (h1.2 UP),.inr ⟨_,y,u,S,k1,k2,Q⟩⟩
 have KV:∀k j z,g.arr k j=Z z->(g.oM m r i F).arr k j=Z z:=λk j z h=>by
  grind[Gh.y9,Gh.mR]
 have d:∀k j z,(g.oM m r i F).arr k j=Z z->(k=m∧j=rc (r+1) i∧z=F)∨(k=m∧∃l,l≠i∧j=rc (r+1) l∧g.arr m (rc r l)=Z z)∨((∀l,k=m->j≠rc (r+1) l)∧g.arr k j=Z z):=λk j z h=>by
  by_cases R:k=m
  .subst R;by_cases hj:∃l,j=rc (r+1) l
   .obtain ⟨l,rfl⟩:=hj;rw[Gh.qC]at h
    grind
   grind[Gh.y9]
  grind[Gh.mR]
 have x:∀k b,bF (g.oM m r i F) k b->bF g k b∨(k=m∧w.heap.size<=b):=by
  rintro k b ⟨h1,h2|⟨j,z,u,h2,h3,h4,h5⟩⟩
  .exact .inl ⟨h1,.inl h2⟩
  .obtain ⟨rfl,_,rfl⟩|⟨rfl,l,_,_,h⟩|⟨_,h⟩:=d k j z h2
   .obtain h|h:=(f.at_ b ⟨u,h3,h4,h5⟩).2
    .omega
    simp_all
   .exact .inl ⟨h1,.inr ⟨_,z,u,h,h3,h4,h5⟩⟩
   .exact .inl ⟨h1,.inr ⟨j,z,u,h,h3,h4,h5⟩⟩
 have he:Ext s.fl g w (g.oM m r i F) w':=
  ⟨λ_ _ h=>h,KV,λ_ h=>h,f.size,λb a hn=>f.heap b a λn=>hn m Ql (P b n),λk b h=>(x k b h).imp id (·.2),λ_ h=>.inl h,f.os,f.output⟩
 have eo:∀k,((s.ob.set aM m (.rws szr (iU.set i t) (r+1))).set aM o (.lS nj sz es era m (r+1) (Z i))).get k=if k=o then Z (.lS nj sz es era m (r+1) (Z i))else if k=m then Z (.rws szr (iU.set i t) (r+1))else s.ob.get k:=λk=>by rw[Tr.aR _ _ _ _ hoN,Tr.aR _ _ _ _ hmN]
 have apM:=hs.As ho rfl;have apN:=hs.As hm rfl;have A:∀k j z,g.arr k j=Z z->k≠m->∀b,z.a=Z ⟨b,0,Y⟩->z.cap≠0->w'.heap[b]?=w.heap[b]?:=λk j z E R b a p=>by refine f.heap b ((hs.arr k j z E).1 _ a p) λn=>?_;have hO:=P b n;exact R (hs.j8 k m b ⟨hO.1,.inr ⟨j,z,_,E,a,rfl,p⟩⟩ hO)
 refine⟨⟨hs.aD,λk R=>⟨(hs.ah k R).1,λj=>?_⟩,λk b a=>?_,λk j z E=>?_,λb a=>iS (hs.bp b a) f.size,λk k' b h h'=>?_⟩,he⟩
 .rw[Gh.mR (by rintro rfl;have:=hs.lt' S;grind)];exact(hs.ah k R).2 j
 .have hb':g.bP k=Z b:=a;have K:k≠o:=by grind
  have c:k≠m:=by grind
  have q:=hs.box k b hb';exact q.ext he hs.bp (f.heap b q.2.1 λn=>c (hs.j8 k m b ⟨q.1,.inl hb'⟩ (P b n))) (by simp;rw[eo,bO K,bO c]) q.1
 .by_cases c:k=m
  .subst c;refine⟨λu ha p=>?_,λob B=>?_⟩
   .obtain ⟨_,_,rfl⟩|⟨_,l,_,_,h⟩|⟨_,h⟩:=d k j z E
    .exact (f.at_ _ ⟨u,ha,rfl,p⟩).1
    .exact iS ((hs.arr k _ z h).1 u ha p) f.size
    .exact iS ((hs.arr k _ z h).1 u ha p) f.size
   .rw[eo,bO (λe=>hom e.symm),bB rfl]at B;obtain rfl:=ke B;refine .inr (.inr (.inl ⟨szr,iU.set i t,r+1,rfl,λr' l hr'=>?_,λi1 i2 y1 y2 hne h1 h2 b DP pQ=>?_,λl hj=>?_⟩))
    .grind[Gh.y9,sq]
    .rw[Gh.qC]at h1 h2;have mix:∀i3 y3,i3≠i->g.arr k (rc r i3)=Z y3->∀b,F.at b->¬y3.at b:=λi3 y3 hn h3 b a Qr=>by
      obtain h|h:=(f.at_ b a).2
      .let ⟨u,k1,k2,Q⟩:=Qr
       have:=(hs.arr k _ y3 h3).1 u k1 Q;omega
      grind
     grind
    .subst hj;rw[Gh.qC]at E;split at E
     .rename_i e1;subst e1;cases E;exact⟨f.sz,t,by rw[Wp hilt],f.ok.kE rfl⟩
     .rename_i e1
      let ⟨q1,rs,q2,q3⟩:=(hs.qB hm E).2.2 l rfl
      refine⟨q1,rs,by grind,q3.ext he hs.bp (λb a p=>⟨?_,vK⟩)⟩;exact f.heap b ((hs.arr k _ z E).1 _ a p) (λn=>I i l y z (λe=>e1 e.symm) S E b n ⟨_,a,rfl,p⟩)
  .have C:g.arr k j=Z z:=by grind
   by_cases K:k=o
   .subst K
    let ⟨q1,q2,q3,q4⟩:=hs.BL ho C
    refine⟨λu ha p=>iS ((hs.arr k j z C).1 u ha p) f.size,λob B=>?_⟩;rw[eo,bB rfl]at B;obtain rfl:=ke B;refine .inr (.inl ⟨nj,es,era,m,r+1,Z i,by rw[q1],q2,λe' h=>by rw[Gh.mR c];exact q3 e' h,λhje=>?_⟩)
    let ⟨hl,k1,k2,Q⟩:=q4 hje
    refine⟨hl,k1,q1▸(k2.ext he hs.bp (λb a p=>⟨A k j z C c b a p,vK⟩)),Q.1,λl h hh hne=>?_⟩
    let ⟨yy,h1,h2⟩:=Q.2 l h hh (by simp)
    exact⟨yy,by rw[Gh.qC,bO (λe=>hne (by rw[e]))];exact h1,h2⟩
   .exact (hs.arr k j z C).ext he hs.bp (λb a p=>⟨A k j z C c b a p,vK⟩) (by simp;rw[eo,bO K,bO c]) (Gh.mR c)
 .obtain h1|⟨h1,h3⟩:=x k b h<;>obtain h2|⟨h2,h4⟩:=x k' b h'
  .exact hs.j8 k k' b h1 h2
  .have:=(hs.rS h1).1;omega
  .have:=(hs.rS h2).1;omega
  .rw[h1,h2]
noncomputable def Gh.ig(g:Gh)(m:Nat)(ys:L fh):Gh:=by
 classical
 exact{g with arr:=λk j=>if k=m then(if h:∃i,j=rc 0 i then ys[h.choose]? else Y)else g.arr k j}
theorem Gh.jQ{g:Gh}{m:Nat}{ys:L fh}{k:Nat}(h:k≠m):(g.ig m ys).arr k=g.arr k:=by
 funext j
 simp[Gh.ig,h]
theorem Gh.xd{g:Gh}{m:Nat}{ys:L fh}(i:Nat):(g.ig m ys).arr m (rc 0 i)=ys[i]?:=by have a:∃b,rc 0 i=rc 0 b:=⟨i,rfl⟩;have c:a.choose=i:=(sq a.choose_spec).2.symm;simp[Gh.ig,ki,dif_pos a,c]
theorem Gh.uY{g:Gh}{m:Nat}{ys:L fh}{j:Nat}{z:fh}(h:(g.ig m ys).arr m j=Z z):∃i,j=rc 0 i∧ys[i]?=Z z:=by
 by_cases a:∃i,j=rc 0 i
 .obtain ⟨i,rfl⟩:=a;rw[Gh.xd]at h;exact⟨i,rfl,h⟩
 .simp only[Gh.ig,ki,dif_neg a]at h;cases h
def aV.agh(hs:aV g s w)(hn:s.aD<bI){ys:L fh}(F:∀y∈ys,∀b,y.at b->b<w.heap.size∧∀o,¬bF g o b)
  (n:∀(i:Nat)(y:fh),ys[i]?=Z y->y.sz=sz∧∃f,iU[i]?=Z f∧xz g w J sz f y) (I:ys.Pairwise λx y=>∀b,x.at b->¬y.at b) :
  aV (g.ig s.aD ys) (ew s (.rws sz iU 0)).2 w∧(∀k j y,g.arr k j=Z y->(g.ig s.aD ys).arr k j=Z y)∧(∀k b,bF (g.ig s.aD ys) k b->bF g k b∨(k=s.aD∧∃y∈ys,y.at b)):=by
 have p:=hs.ah s.aD (eR _);have c:∀k j y,g.arr k j=Z y->(g.ig s.aD ys).arr k j=Z y:=λk j y h=>by
  rw[Gh.jQ]
  .exact h
  grind
 have d:∀k b,bF (g.ig s.aD ys) k b->bF g k b∨(k=s.aD∧∃y∈ys,y.at b):=by
  rintro k b ⟨h1,h2|⟨j,y,l,h2,h3⟩⟩
  .exact .inl ⟨h1,.inl h2⟩
  .by_cases e:k=s.aD
   .subst e
    let ⟨i,_,m⟩:=Gh.uY h2
    exact .inr ⟨rfl,y,iz m,l,h3⟩
   .rw[Gh.jQ e]at h2;exact .inl ⟨h1,.inr ⟨j,y,l,h2,h3⟩⟩
 have eo:∀k,(ew s (.rws sz iU 0)).2.ob.get k=if k=s.aD then Z (.rws sz iU 0)else s.ob.get k:=λk=>by simp[ew];rw[Tr.aR _ _ _ _ hn]
 refine⟨⟨by simp only[ew];omega,λk e=>?_,λk b K=>?_,λk j y P=>?_,hs.bp,λk C b h Q=>?_⟩,c,d⟩
 .simp only[ew]at e;refine⟨(hs.ah k (by omega)).1,λj=>?_⟩;rw[Gh.jQ (by omega)];exact(hs.ah k (by omega)).2 j
 .have q:g.bP k=Z b:=K;have r:k≠s.aD:=λh=>by simp_all
  let ⟨u,A,R⟩:=hs.box k b q
  refine⟨u,A,λob a=>?_⟩;rw[eo,bO r]at a
  let ⟨x,h1,h2⟩:=R ob a
  refine⟨x,h1,?_⟩;exact h2.imp (λt v S=>S.aqw c rfl rfl)
 .by_cases e:k=s.aD
  .subst e;obtain⟨i,rfl,m⟩:=Gh.uY P;refine⟨λl ha hc=>(F y (iz m) _ ⟨l,ha,rfl,hc⟩).1,λob a=>?_⟩;rw[eo,bB rfl]at a;obtain rfl:=ke a;refine .inr (.inr (.inl ⟨sz,iU,0,rfl,λr' E hr'=>?_,λi1 i2 y1 y2 hne h1 h2 b DP pQ=>?_,λE hj=>?_⟩))
   .cases h:(g.ig s.aD ys).arr s.aD (rc r' E)with
    |none=>rfl|some z=>
     grind[Gh.uY,sq]
   .grind[Gh.xd,List.pairwise_iff_getElem]
   .have:=(sq hj).2;subst this
    let ⟨q1,f,q2,q3⟩:=n i y m
    exact⟨q1,f,q2,q3.kE rfl⟩
  .have B:g.arr k j=Z y:=by grind[Gh.jQ]
   let ⟨u,A⟩:=hs.arr k j y B
   refine⟨u,λob a=>?_⟩;rw[eo,bO e]at a;exact(A ob a).tr (λh=>h.kE rfl) c (Gh.jQ e) (λ_ _ _=>⟨rfl,vK⟩)
 .obtain h1|⟨h1,y1,m1,a1⟩:=d k b h<;>obtain h2|⟨h2,y2,m2,a2⟩:=d C b Q
  .exact hs.j8 k C b h1 h2
  .grind
  .grind
  .rw[h1,h2]
end
section
variable {g:Gh}{s:St}{w:World}{o:Nat}
def aV.Kh(hs:aV g s w){e sz:Nat}{es:L D}{x:fh}(c:s.ob.get o=Z (.lK sz es e))(d:g.arr o e=Z x) :
  dD g.bp w (.sl es) (.slice x.a x.len x.cap):=by
 let ⟨a,_⟩:=hs.nQ (fz:=W) c d
 exact a.Vf (λ_ h=>h) (λb f=>(a.at_ f).1.1 rfl)
def Live(g:Gh)(s:St)(o:Nat):Prop:=o<bI∧((∃e x,g.arr o e=Z x∧((∃fz sz es,s.ob.get o=Z (gj fz sz es e))∨∃nj sz es m r hole,s.ob.get o=Z (.lS nj sz es e m r hole)))∨(∃sz iU r,s.ob.get o=Z (.rws sz iU r))∨s.ob.get o=Z .gone)
def Live.ov{g:Gh}{s:St}{o:Nat}{ob:Ob}(h:Live g s o)(a:s.ob.get o=Z ob):ob.ov=W:=by
 obtain⟨_,_,_,⟨b,_,_,h⟩|⟨_,_,_,_,_,_,h⟩⟩|⟨_,_,_,h⟩|h:=h.2
 .rw[a]at h;cases h;cases b<;>rfl
 .rw[a]at h;cases h;rfl
 .rw[a]at h;cases h;rfl
 .rw[a]at h;cases h;rfl
structure jG(s s':St)(os:List Nat):Prop where
 fl:s'.fl=s.fl
 aD:s'.aD=s.aD
 hit:∀o∈os,∀fz sz es e,s.ob.get o=Z (gj fz sz es e)->s'.ob.get o=Z (.lK sz es e)
 lK:∀o sz es e,s.ob.get o=Z (.lK sz es e)->s'.ob.get o=Z (.lK sz es e)
 lS:∀o∈os,∀nj sz es e m r iU,s.ob.get o=Z (.lS nj sz es e m r Y)->Ib s m r=Z iU->s'.ob.get o=Z (.lK sz (mX nj es iU) e)
theorem jG.sub{s s':St}{os a:L Nat}(h:jG s s' os)(hs:∀o∈a,o∈os):jG s s' a:=
 ⟨h.fl,h.aD,λo b=>h.hit o (hs o b),h.lK,λo b=>h.lS o (hs o b)⟩
def p9{m r:Nat}{iU:L (L D)}(h:Ib s m r=Z iU):∃sz,s.ob.get m=Z (.rws sz iU r):=by
 unfold Ib at h;split at h
 .obtain ⟨a,h⟩|⟨_,h⟩:=af h
  .simp_all
  .cases h
 .cases h
def wH{s':St}{os:L Nat}(h:freeze s (o::os)=Z s'):s.fl<=o∧
  ((∃sz es e,s.ob.get o=Z (.arr sz es e)∧freeze {s with ob:=s.ob.set aM o (.lK sz es e)} os=Z s')∨
   (∃sz es e,s.ob.get o=Z (.lK sz es e)∧freeze s os=Z s')∨
   (((∃sz iU r,s.ob.get o=Z (.rws sz iU r))∨s.ob.get o=Z .gone)∧freeze s os=Z s')∨
   (∃nj sz es e m r iU b,s.ob.get o=Z (.lS nj sz es e m r Y)∧s.ob.get m=Z (.rws b iU r)∧Ib s m r=Z iU∧(m∈os∧s.fl<=m)∧m<bI∧freeze {s with ob:=(s.ob.set aM m .gone).set aM o (.lK sz (mX nj es iU) e)} os=Z s')):=by
 obtain⟨d,h⟩|⟨_,h⟩:=af h
 .refine ⟨gU d,?_⟩;split at h
  .grind
  .simp_all
  .rename_i nj sz es e m r f;split at h
   .rename_i iU c;obtain⟨a,h⟩|⟨_,h⟩:=af h
    .rw[fF]at a
     let ⟨b,g⟩:=p9 c
     rw[fF]at a;exact .inr (.inr (.inr ⟨nj,sz,es,e,m,r,iU,b,f,g,c,⟨by grind,gU a.2.1⟩,gU a.2.2,h⟩))
    .cases h
   .cases h
  .simp_all
  .simp_all
  .cases h
 .cases h
def oF:∀{os:L Nat}{s s':St}{m:Nat},freeze s os=Z s'->s.ob.get m=Z .gone->(∀o∈os,o<bI)->∀o∈os,∀nj sz es e r hole,s.ob.get o≠Z (.lS nj sz es e m r hole)
 |[],_,_,_,_,_,_,o,j,_,_,_,_,_,_=>by cases j
 |b::os,s,s',m,h,q,l,o,j,nj,sz,es,e,r,hole=>λu=>by
  obtain⟨_,h1|h1|h1|h1⟩:=wH h
  .let ⟨d,f,t,g,h2⟩:=h1
   have i:m≠b:=by grind
   have a:o≠b:=by grind
   have eo:∀k,k≠b->({s with ob:=s.ob.set aM b (.lK d f t)}:St).ob.get k=s.ob.get k:=λk c=>by show(s.ob.set aM b _).get k=_;rw[Tr.aR _ _ _ _ (l b (by simp)),bO c]
   exact oF h2 (by rw[eo m i];exact q) (λk c=>l k (by simp[c])) o ((ga.1 j).resolve_left a) nj sz es e r hole (by simp_all)
  .let ⟨d,f,t,g,h2⟩:=h1
   have a:o≠b:=by grind
   exact oF h2 q (λk c=>l k (by simp[c])) o ((ga.1 j).resolve_left a) nj sz es e r hole u
  .let ⟨g,h2⟩:=h1
   have a:o≠b:=by
    rintro rfl
    obtain⟨_,_,_,h⟩|h:=g<;>(rw[u]at h;cases h)
   exact oF h2 q (λk c=>l k (by simp[c])) o ((ga.1 j).resolve_left a) nj sz es e r hole u
  .let ⟨v,d,f,t,n,C,p,z,g,B,_,_,w,h2⟩:=h1
   have x:m≠n:=by grind
   have i:m≠b:=by grind
   by_cases a:o=b
   .simp_all
   .have A:o≠n:=by grind
    have eo:∀k,k≠b->k≠n->({s with ob:=(s.ob.set aM n .gone).set aM b (.lK d (mX v f p) t)}:St).ob.get k=s.ob.get k:=λk c y=>by show((s.ob.set aM n _).set aM b _).get k=_;rw[Tr.aR _ _ _ _ (l b (by simp)),bO c,Tr.aR _ _ _ _ w,bO y]
    exact oF h2 (by rw[eo m i x];exact q) (λk c=>l k (by simp[c])) o ((ga.1 j).resolve_left a) nj sz es e r hole (by simp_all)
def eG(os:L Nat):∀{g:Gh}{s s':St}{w:World},aV g s w->freeze s os=Z s'->(∀o∈os,Live g s o)->
  ∃g',aV g' s' w∧Ext s.fl g w g' w∧jG s s' os:=by
 induction os with
 |nil=>intro g s s' w I h _;simp[freeze]at h;subst h;exact⟨g,I,Ext.refl _ _ _,⟨rfl,rfl,λo j=>(by cases j),λ_ _ _ _ h=>h,λo j=>(by cases j)⟩⟩
 |cons o os ih=>
  intro g s s' w I h A;have hN:∀k∈o::os,k<bI:=λk f=>(A k f).1;have y:=hN o (by simp);obtain⟨K,h1|h1|h1|h1⟩:=wH h
  .obtain ⟨sz,t,e0,j,h⟩:=h1;obtain⟨x,B⟩:∃x,g.arr o e0=Z x:=by
    obtain⟨e,x,B,⟨q,_,_,h⟩|⟨_,_,_,_,_,_,h⟩⟩|⟨_,_,_,h⟩|h:=(A o (by simp)).2
    .grind[gj,Option.some.inj,kY]
    .simp_all
    .simp_all
    simp_all
   obtain⟨C,u⟩:=I.ab4 j B K;have eo:∀k,({s with ob:=s.ob.set aM o (.lK sz t e0)}:St).ob.get k=if k=o then Z (.lK sz t e0)else s.ob.get k:=λk=>Tr.aR _ _ _ _ y
   obtain⟨g',n,p,a⟩:=ih C h (λk f=>by
    by_cases b:k=o
    .subst b;exact⟨y,.inl ⟨e0,x,B,.inl ⟨W,sz,t,by rw[eo,bB rfl];rfl⟩⟩⟩
    .have:=A k (by simp[f]);unfold Live at this ⊢;rw[eo,bO b];exact this)
   refine⟨g',n,u.trans p,⟨a.fl,a.aD,λk f q c d i h1=>?_,λk c d i h1=>?_,λk f z c d i m r l h1 h2=>?_⟩⟩
   .by_cases b:k=o
    .subst b;rw[j]at h1;have E:gj J sz t e0=_:=ke h1;obtain⟨_,rfl,rfl,rfl⟩:=kY E;exact a.lK k sz t e0 (by rw[eo,bB rfl])
    .exact a.hit k ((ga.1 f).resolve_left b) q c d i (by simp_all)
   .have b:k≠o:=by
     grind
    exact a.lK k c d i (by simp_all)
   .have b:k≠o:=by grind
    obtain⟨szr,hm⟩:=p9 h2;have P:m≠o:=by grind
    exact a.lS k ((ga.1 f).resolve_left b) z c d i m r l (by simp_all) (by simp_all[Ib,bO])
  .obtain ⟨sz,t,e,j,h⟩:=h1;obtain⟨g',n,p,a⟩:=ih I h (λk f=>A k (by simp[f]));refine⟨g',n,p,⟨a.fl,a.aD,λk f q c d i h1=>?_,a.lK,λk f z c d i m r l h1 h2=>?_⟩⟩
   .obtain rfl|f:=ga.1 f
    .rw[j]at h1;have E:gj W sz t e=_:=ke h1;obtain⟨_,rfl,rfl,rfl⟩:=kY E;exact a.lK k sz t e j
    .exact a.hit k f q c d i h1
   .have b:k≠o:=by grind
    exact a.lS k ((ga.1 f).resolve_left b) z c d i m r l h1 h2
  .obtain ⟨j,h⟩:=h1;obtain⟨g',n,p,a⟩:=ih I h (λk f=>A k (by simp[f]));refine⟨g',n,p,⟨a.fl,a.aD,λk f q c d i h1=>?_,a.lK,λk f z c d i m r l h1 h2=>?_⟩⟩
   .have b:k≠o:=by rintro rfl;obtain⟨_,_,_,h⟩|h:=j<;>(rw[h1]at h;cases q<;>cases h)
    exact a.hit k ((ga.1 f).resolve_left b) q c d i h1
   .have b:k≠o:=by rintro rfl;obtain⟨_,_,_,h⟩|h:=j<;>(rw[h1]at h;cases h)
    exact a.lS k ((ga.1 f).resolve_left b) z c d i m r l h1 h2
  .obtain ⟨z,sz,t,e0,m,r,l,szr,j,hm,hr,⟨_,Q⟩,F,h⟩:=h1;obtain⟨x,B⟩:∃x,g.arr o e0=Z x:=by
    obtain⟨e,x,B,⟨q,_,_,h⟩|⟨_,_,_,_,_,_,h⟩⟩|⟨_,_,_,h⟩|h:=(A o (by simp)).2
    .rw[j]at h;cases q<;>cases h
    .simp_all
    .simp_all
    simp_all
   obtain⟨g1,C,u⟩:=I.U5 j hm F B K Q;have hom:o≠m:=by grind
   have eo:∀k,({s with ob:=(s.ob.set aM m .gone).set aM o (.lK sz (mX z t l) e0)}:St).ob.get k=if k=o then Z (.lK sz (mX z t l) e0)else if k=m then Z .gone else s.ob.get k:=λk=>by show((s.ob.set aM m _).set aM o _).get k=_;rw[Tr.aR _ _ _ _ y,Tr.aR _ _ _ _ F]
   obtain⟨g',n,p,a⟩:=ih C h (λk f=>by
    by_cases b:k=o
    .subst b;exact⟨y,.inl ⟨e0,x,u.arr _ _ _ B,.inl ⟨W,sz,_,by rw[eo,bB rfl];rfl⟩⟩⟩
    .by_cases v:k=m
     .subst v;exact⟨F,.inr (.inr (by rw[eo,bO b,bB rfl]))⟩
     .obtain ⟨h0,h1⟩:=A k (by simp[f]);refine⟨h0,?_⟩;rw[eo,bO b,bO v];exact h1.imp (λ⟨i,x',h1,h2⟩=>⟨i,x',u.arr _ _ _ h1,h2⟩) id)
   refine⟨g',n,u.trans p,⟨a.fl,a.aD,λk f q c d i h1=>?_,λk c d i h1=>?_,λk f R c d i m' r' S h1 h2=>?_⟩⟩
   .have b:k≠o:=by rintro rfl;rw[j]at h1;cases q<;>cases h1
    have v:k≠m:=by rintro rfl;rw[hm]at h1;cases q<;>cases h1
    exact a.hit k ((ga.1 f).resolve_left b) q c d i (by simp_all)
   .have b:k≠o:=by grind
    have v:k≠m:=by grind
    exact a.lK k c d i (by simp_all)
   .by_cases b:k=o
    .subst b;rw[j]at h1;cases h1;rw[hr]at h2;cases h2;exact a.lK k _ _ _ (by rw[eo,bB rfl])
    .have hk':=(ga.1 f).resolve_left b;obtain⟨szr',hm'⟩:=p9 h2;have v:k≠m:=by grind
     have P:m'≠o:=by grind
     have hmm:m'≠m:=by
      rintro rfl
      exact oF h (m:=m') (by rw[eo,bO P,bB rfl]) (λk f=>hN k (by simp[f])) k hk' R c d i r' Y (by simp_all)
     exact a.lS k hk' R c d i m' r' S (by simp_all) (by simp_all[Ib,bO])
mutual
def mu{g:Gh}{s:St}{w:World}(hs:aV g s w):∀(t:T){v:Value}{p:Prop}{d:D}{os:L Nat},Bw s t=Z (p,d,os)->p->aH g w t v->
  (∀o∈os,Live g s o)∧∀(g':Gh)(s':St),aV g' s' w->Ext s.fl g w g' w->jG s s' os->dD g'.bp w d v
 |.sym d,v,p,K,os,h,B,f=>by obtain⟨_,rfl,rfl⟩:=h;cases f with|sym _ _ y=>exact⟨λo l=>(by cases l),λg' s' _ A _=>y.ext A hs.bp⟩
 |.kb b,v,p,K,os,h,B,f=>by obtain⟨_,rfl,rfl⟩:=h;cases f;exact⟨λo l=>(by cases l),λg' s' _ A _=>.lit _⟩
 |.kn k n,v,p,K,os,h,B,f=>by obtain⟨_,rfl,rfl⟩:=h;cases f;exact⟨λo l=>(by cases l),λg' s' _ A _=>.lit _⟩
 |.emp,v,p,K,os,h,B,f=>by obtain⟨_,rfl,rfl⟩:=h;cases f with|emp a=>exact⟨λo l=>(by cases l),λg' s' _ A _=>.sl [] a 0 0 (λ_ _=>undef) (by simp) (by simp) (by simp) (λh=>absurd rfl h) (λi j d c h=>by simp at h)⟩
 |.kM n P,v,p,K,os,h,B,f=>by obtain⟨_,rfl,rfl⟩:=h;cases f with|kM _ _ a hn y=>exact⟨λo l=>(by cases l),λg' s' _ A _=>y.ext A hs.bp⟩
 |.pU j d,v,p,K,os,h,B,f=>by obtain⟨_,rfl,rfl⟩:=h;cases f with|pU _ _ c a hj y=>exact⟨λo l=>(by cases l),λg' s' _ A _=>(AW hj y).ext A hs.bp⟩
 |.sy _ _ _ _,_,_,_,_,h,_,_=>by simp[Bw]at h
 |.sh o e,v,p,K,os,h,B,f=>by
  cases f with
  |sh _ _ len cap sz a Q=>
  simp[Bw]at h;split at h
  .rename_i z P era l;obtain⟨I,C⟩|⟨_,C⟩:=af h
   .have E:=beq_iff'.1 I;obtain⟨_,rfl,rfl⟩:=C;clear h I;subst E;refine⟨λk R=>?_,λg' s' F A hf=>?_⟩
    .simp at R;subst R;exact⟨iS (hs.lt' Q) hs.aD,.inl ⟨e,_,Q,.inl ⟨J,z,P,l⟩⟩⟩
    .exact F.Kh (hf.hit o (by simp) J z P e l) (A.arr _ _ _ Q)
   .cases C
  .rename_i z P era l;obtain⟨I,C⟩|⟨_,C⟩:=af h
   .have E:=beq_iff'.1 I;obtain⟨_,rfl,rfl⟩:=C;clear h I;subst E;exact⟨λk R=>(by cases R),λg' s' F A hf=>F.Kh (hf.lK o z P e l) (A.arr _ _ _ Q)⟩
   .cases C
  .rename_i nj z P era m r l;split at h
   .rename_i iU hr;obtain⟨I,C⟩|⟨_,C⟩:=af h
    .rw[fF]at I;have E:=beq_iff'.1 I.1;have hmN:m<bI:=gU I.2;obtain⟨_,rfl,rfl⟩:=C;clear h I;subst E;refine⟨λk R=>?_,λg' s' F A hf=>?_⟩
     .simp at R;obtain rfl|rfl:=R
      .exact ⟨iS (hs.lt' Q) hs.aD,.inl ⟨e,_,Q,.inr ⟨nj,z,P,m,r,Y,l⟩⟩⟩
      .let ⟨szr,hm⟩:=p9 hr
       exact⟨hmN,.inr (.inl ⟨szr,iU,r,hm⟩)⟩
     .exact F.Kh (hf.lS o (by simp) nj z P e m r iU l hr) (A.arr _ _ _ Q)
    .cases C
   .cases h
  .cases h
 |.di t x,v,p,K,os,h,B,f=>by
  cases f with
  |di _ _ u hu=>
  simp[Bw]at h;split at h
  .rename_i q d os' y;obtain⟨rfl,rfl,rfl⟩:=h
   let ⟨h1,h2⟩:=mu hs x y B hu
   exact⟨h1,λg' s' a b c=>.di _ _ _ (h2 g' s' a b c)⟩
  .cases h
 |.agg cs,v,p,K,os,h,B,f=>by
  cases f with
  |agg _ vs hl hr=>
  simp only[Bw]at h;split at h
  .rename_i q ds os' y;obtain⟨rfl,rfl,rfl⟩:=h
   let ⟨h0,h1,h2⟩:=qx hs cs (vs:=vs.toList) y B.1 (by simpa using hl) (λj t v f S=>hr j t v f (by simpa using S))
   refine⟨h1,λg' s' a b c=>.agg _ _ (by rw[h0,hl]) (λd y=>by simp_all) (λj d v y S=>h2 g' s' a b c j d v y (by simpa using S))⟩
  .cases h
 |.gT cs,v,p,K,os,h,B,f=>by
  cases f with
  |gT _ vs hl hr=>
  simp[Bw]at h;split at h
  .rename_i y;obtain⟨rfl,rfl,rfl⟩:=h
   let ⟨h0,h1,h2⟩:=qx hs cs (vs:=vs.toList) y B (by simpa using hl) (λj t v f S=>hr j t v f (by simpa using S))
   exact⟨h1,λg' s' a b c=>.gT _ _ (by rw[h0,hl]) (λj d v y S=>h2 g' s' a b c j d v y (by simpa using S))⟩
  .cases h
 |.ptr _ _,_,_,_,_,h,_,_=>by simp[Bw]at h
 |.mc _ _,_,_,_,_,h,_,_=>by simp[Bw]at h
 |.l9 _ _ _ _,_,_,_,_,h,_,_=>by simp[Bw]at h
 |.fn _ _ _,_,_,_,_,h,_,_=>by simp[Bw]at h
 |.gd _ _,_,_,_,_,h,_,_=>by simp[Bw]at h
def qx{g:Gh}{s:St}{w:World}(hs:aV g s w):∀(ts:L T){vs:L Value}{p:Prop}{ds:L D}{os:L Nat},og s ts=Z (p,ds,os)->p->ts.length=vs.length->
  (∀(j:Nat)(t:T)(v:Value),ts[j]?=Z t->vs[j]?=Z v->aH g w t v)->
  ds.length=ts.length∧(∀o∈os,Live g s o)∧∀(g':Gh)(s':St),aV g' s' w->Ext s.fl g w g' w->jG s s' os->
   ∀(j:Nat)(d:D)(v:Value),ds[j]?=Z d->vs[j]?=Z v->dD g'.bp w d v
 |[],vs,p,ds,os,h,e,c,f=>by obtain⟨_,rfl,rfl⟩:=h;exact⟨rfl,λo ho=>(by cases ho),λg' s' _ _ _ j d v a=>by simp at a⟩
 |t::ts,vs,p,ds,os,h,e,c,f=>by
  simp[og]at h;split at h
  .rename_i d i B l k h1 h2;simp only[gR,fE]at h;obtain⟨rfl,rfl,rfl⟩:=h
   match vs,c with
   |v::vs,c=>
    let ⟨a1,a2⟩:=mu hs t h1 e.1 (f 0 t v rfl rfl)
    let ⟨m,n,q⟩:=qx hs ts (vs:=vs) h2 e.2 (by simpa using c) (λj t v r b=>f (j+1) t v (by simpa using r) (by simpa using b))
    refine⟨by simp[m],λo ho=>?_,λg' s' x y z j d v a b=>?_⟩
    .obtain ho|ho:=eZ.1 ho
     .exact a1 o ho
     .exact n o ho
    .have u:jG s s' i:=z.sub (λo ho=>fU _ ho);have A:jG s s' k:=z.sub (λo ho=>eY _ ho);cases j with|zero=>simp at a b;subst a;subst b;exact a2 g' s' x y u|succ j=>exact q g' s' x y A j d v (by simpa using a) (by simpa using b)
  .cases h
end
end
section
def PW{α β:Type}(R:α->β->Prop)(l:L α)(m:L β):Prop:=l.length=m.length∧∀(j:Nat)(a:α)(b:β),l[j]?=Z a->m[j]?=Z b->R a b
section
variable {α β:Type}{R:α->β->Prop}
def PW.append{l e:L α}{m f:L β}(h:PW R l m)(g:PW R e f):PW R (l++e) (m++f):=by
 refine⟨by simp[h.1,g.1],λj a b d c=>?_⟩;rw[tc]at d c;rw[<-h.1]at c;by_cases i:j<l.length
 .rw[bB i]at d c;exact h.2 j a b d c
 .rw[bO i]at d c;exact g.2 _ a b d c
def PW.take{l:L α}{m:L β}(h:PW R l m)(n:Nat):PW R (l.take n) (m.take n):=by
 refine⟨by simp[h.1],λj a b c d=>?_⟩;rw[T5]at c d;by_cases e:j<n
 .rw[bB e]at c d;exact h.2 j a b c d
 simp_all
theorem PW.drop{l:L α}{m:L β}(h:PW R l m)(n:Nat):PW R (l.drop n) (m.drop n):=by refine⟨by simp[h.1],λj a b c d=>?_⟩;rw[M5]at c d;exact h.2 _ a b c d
end
def PY{l:L T}(h:leaves l):∀t∈l,t.leaf:=by
 induction l with
 |nil=>simp_all|cons a l c=>
  intro t b;obtain rfl|b:=ga.1 b
  .exact h.1
  .exact c h.2 t b
variable {g:Gh}{w:World}{P:Program}{i:TI}
def PW.one{l:L T}{vs:L Value}(h:PW (aH g w) l vs)(hl:leaves l):∀v∈vs,v.oneCell'=W:=by
 intro v c;obtain⟨j,b,rfl⟩:=rM c;have a:j<l.length:=by rw[h.1];exact b
 exact(TH (PY hl _ (MK a)) (h.2 j _ _ (jr a) (jr b))).1
def yw{t:TypeId}{x:TypeInfo}(hi:P.info? t=Z x)(w:World)(b off:Nat)(v:Value)(a:v.cells.size=x.size){vs:Array Value}{ty:TypeId}
  (c:w.heap[b]?=Z (.cells vs ty (0,0))) (hl:off+v.cells.size<=vs.size) (h1:∀u∈v.cells.toList,u.oneCell'=W) :
  (storeVar t ⟨b,off,Y⟩ v).run P w=.ok () (w.setRow b (vs.toList.take off++v.cells.toList++vs.toList.drop (off+v.cells.size)).toArray):=by
 have:=run_storeCells_at (P:=P) b off ty v.cells.toList 0 vs w c (by simpa using hl) h1
 simp_all[storeVar,dm]
def qm{t:T}{v:Value}{p:Prop}{cs:L T}(h:kJ i t=Z (p,cs))(c:p)(d:aH g w t v) :
  PW (aH g w) cs v.cells.toList∧cs.length=i.size:=by
 let ⟨h1,h2,h3,_⟩:=m6 h c d
 exact⟨⟨by simp[h1,h2],λj a b e f=>h3 j a b e (by simpa using f)⟩,h1⟩
def D.Ou{ds:L D}(h:ds.all D.leaf=W):∀d∈ds,d.leaf=W:=by simpa using h
def Kv(es:L D)(k i:Nat)(d a:D)(h:(yV es k d)[i]?=Z a):(i=k∧k<es.length∧a=d)∨(i≠k∧es[i]?=Z a):=by
 unfold yV at h
 grind
def J8{ty:TypeId}(hi:nr P ty i){s s':St}(hs:aV g s w){a x:T}{va vx:Value}(ha:aH g w a va)(hx:aH g w x vx)
  {p:Prop} {t:T} (h:storeT i s a x=Z (p,t,s')) (hp:p) :
  ∃w' g',(Instr.storeAt ty va vx).run P w=.ok () w'∧aV g' s' w'∧Ext s.fl g w g' w'∧t=RK:=by
 let ⟨xi,d0,z,NA,hu,hsz,hag,_⟩:=hi.all
 unfold storeT at h;cases hc:kJ i x with
 |none=>simp[hc]at h|some q=>
  let ⟨q,l⟩:=q
  simp only[hc]at h;cases ha with
  |ptr o off b hb=>
   cases y:s.ob.get o with
   |none=>simp[y]at h|some ob=>
   simp only[y]at h;cases ob with
   |box cs=>
   let ⟨B,ety,hh,hl,hr⟩:=(hs.box o b hb).box y
   obtain⟨hn,h⟩|⟨_,h⟩:=af h
   .simp only[fF]at hn;have hfl:=gU hn.1;have hlen:off+cE l<=cE cs:=gU hn.2;rw[bR,bR]at hlen;obtain⟨rfl,rfl,rfl⟩:=h
    let ⟨C,afq⟩:=qm hc hp.1 hx
    have A:vx.cells.size=l.length:=by simpa using C.1.symm
    have hcs:PW (aH g w) cs B.toList:=⟨by simpa using hl,λj a b h1 h2=>hr j a b h1 (by simpa using h2)⟩;have I:=yw (P:=P) NA w b off vx (by rw[A,afq,hsz]) hh (by omega) (C.one hp.2);rw[A]at I;have hnew:PW (aH g w) (cs.take off++l++cs.drop (Na off (cE l))) (B.toList.take off++vx.cells.toList++B.toList.drop (off+l.length)):=by rw[bR];exact((hcs.take off).append C).append (hcs.drop _)
    let ⟨hs',he⟩:=hs.aep hb y hfl (cs':=cs.take off++l++cs.drop (Na off (cE l)))
     (vs':=(B.toList.take off++vx.cells.toList++B.toList.drop (off+l.length)).toArray) (by simpa using hnew.1) (λj t v h1 h2=>hnew.2 j t v h1 (by simpa using h2))
    exact⟨_,g,by simpa[Instr.storeAt,Instr.sureAddr]using I,hs',he,rfl⟩
   .cases h
   |_=>simp at h
  |l9 o e k off len cap sz ad ajA=>
   cases F:og s l with
   |none=>simp[F]at h|some r=>
    let ⟨r,ds,os⟩:=r
    simp only[F]at h;cases K:freeze s os with
    |none=>simp[K]at h|some s1=>
    simp only[K]at h;cases y:s1.ob.get o with
    |none=>simp[y]at h|some ob=>
     cases ob with
     |box _=>simp[y]at h|lK _ _ _=>simp[y]at h|map _=>simp[y]at h|rI _ _=>simp[y]at h|lS _ _ _ _ _ _ _=>simp[y]at h|rws _ _ _=>simp[y]at h|gone=>simp[y]at h|FG=>simp[y]at h|lp _=>simp[y]at h|zZ=>simp[y]at h|arr sz' es era=>
      simp only[y]at h;obtain⟨hn,h9⟩|⟨_,h9⟩:=af h
      .simp only[fF]at hn
       let ⟨hfl,hee⟩:=hn
       have hfl:=gU hfl;have hee:=beq_iff'.1 hee;subst hee;simp only[gR,fE]at h9;obtain⟨rfl,rfl,rfl⟩:=h9
       let ⟨hp1,hp2,hp3,hp4,hp5,hp6,hp7⟩:=hp
       let ⟨C,afq⟩:=qm hc hp1 hx
       let ⟨b0,b1,b2⟩:=qx hs l F hp2 C.1 C.2
       let ⟨g1,zY,he1,afv⟩:=eG os hs K b1
       have sB:=b2 g1 s1 zY he1 afv;have hga:=he1.arr _ _ _ ajA;clear ajA;have ap6:=afv.fl;clear b1 b2 F K afv
       let ⟨E,ai3⟩:=zY.nQ (fz:=J) y hga
       change sz=sz' at ai3;subst ai3;have hk:=SK hp4;obtain⟨m,Q,n,apd⟩:∃m,(jq es k).cells=m∧m.length=sz∧(off+ds.length<=sz->(D.O6 (jq es k) off ds).cells=m.take off++ds++m.drop (off+ds.length)):=by
        obtain hp5|⟨h1,h2,h3,h4⟩:=hp5
        .let ⟨m,Q,n,hcf⟩:=zn hp5
         exact⟨m,by rw[Q];rfl,n,λ_=>by rw[Q];rfl⟩
        .rw[bR]at h4;obtain⟨d1,rfl⟩:=Wu.1 h4;have hl1:=D.Ou hp3 d1 (by simp);have hc1:∀d:D,d.leaf=W->d.cells=[d]:=by intro d F;cases d<;>first|rfl|simp[D.leaf]at F
         refine⟨[jq es k],hc1 _ h1,h2.symm,λ_=>?_⟩;subst h3;have:D.O6 (jq es k) 0 [d1]=d1:=by generalize jq es k=q at h1;cases q<;>first|rfl|simp[D.leaf]at h1
         rw[this,hc1 _ hl1];rfl
       have hoff:off+ds.length<=sz:=by have:=gU hp6;rw[bR]at this;exact this
       have h1:=E.len;have h2:=E.cap;simp only at h1 h2
       let ⟨b,B,ety,hab,hfz,hh,R,S⟩:=E.mem (by simp only;omega)
       simp at hab;subst hab;have A:vx.cells.size=ds.length:=by rw[b0];simpa using C.1.symm
       have hbound:k*sz+sz<=B.size:=by have:(k+1)*sz<=cap*sz:=zf _ (by omega);rw[Nat.add_mul,IZ]at this;exact gD this R
       have hone:∀u∈vx.cells.toList,u.oneCell'=W:=by
        intro u hu;obtain⟨j,hj,rfl⟩:=rM hu;have hj':j<ds.length:=by rw[b0,C.1];exact hj
        exact(wq (D.Ou hp3 _ (MK hj')) (sB j _ _ (jr hj') (jr hj))).1
       have I:=yw (P:=P) NA w b (k*sz+off) vx (by rw[A,b0,afq,hsz]) hh (by omega) hone;have zo:(⟨Z ⟨b,0,Y⟩,len,cap,sz⟩:fh).at b:=⟨_,rfl,rfl,by simp only;omega⟩;have hsc:=apd hoff;have abL:(B.toList.take (k*sz+off)++vx.cells.toList++B.toList.drop (k*sz+off+vx.cells.size)).length=B.size:=by simp[A];omega
       have afm:xz g1 (w.setRow b (B.toList.take (k*sz+off)++vx.cells.toList++B.toList.drop (k*sz+off+vx.cells.size)).toArray) J sz
         (yV es k ((jq es k).O6 off ds)) ⟨Z ⟨b,0,Y⟩,len,cap,sz⟩:=by
        refine⟨by simp[yV,h1],h2,λd F=>?_,E.pos,λd F=>?_,λ_=>⟨b,_,ety,rfl,hfz,setRow_heap w b B _ ety _ hh,by simp only[Sl];rw[abL];exact R,?_⟩⟩
        .obtain ⟨j,hj,rfl⟩:=rM F;obtain⟨rfl,_,he⟩|⟨_,he⟩:=Kv _ _ _ _ _ (jr hj)
         .rw[he,hsc];simp[n];omega
         .exact E.rows _ (iz he)
        .obtain ⟨j,hj,rfl⟩:=rM F;obtain⟨rfl,_,he⟩|⟨_,he⟩:=Kv _ _ _ _ _ (jr hj)
         .rw[he,hp7];have hb:=E.VT _ (iz (D.Lc hk));simpa[yV]using hb
         .have hb:=E.VT _ (iz he);simpa[yV]using hb
        .intro i d j c F hj;have f:∀(v:Value),B[i*sz+j]?=Z v->(i≠k∧j<sz∨i=k∧(j<off∨off+ds.length<=j))->
           (B.toList.take (k*sz+off)++vx.cells.toList++B.toList.drop (k*sz+off+vx.cells.size)).toArray[i*sz+j]?=Z v:=by
          intro v hv Di;have afB:i*sz+j<k*sz+off∨k*sz+off+ds.length<=i*sz+j:=by
           obtain⟨hik,hj⟩|⟨rfl,hj⟩:=Di
           .obtain hik|hik:=Nat.lt_or_gt_of_ne hik
            .have:(i+1)*sz<=k*sz:=zf _ hik;rw[Nat.add_mul,IZ]at this
             left;omega
            .have:(k+1)*sz<=i*sz:=zf _ hik;rw[Nat.add_mul,IZ]at this
             right;omega
           .obtain hj|hj:=hj
            .left;omega
            .right;omega
          rw[Sr,tc,tc];obtain hc1|hc1:=afB
          .rw[bB (by simp[A];omega),bB (by simp;omega),T5,bB hc1];simpa using hv
          .rw[bO (by simp[A];omega),M5];have:k*sz+off+vx.cells.size+(i*sz+j-(List.take (k*sz+off) B.toList++vx.cells.toList).length)=i*sz+j:=by simp[A];omega
           rw[this];simpa using hv
         obtain⟨rfl,hlt,rfl⟩|⟨hik,F⟩:=Kv _ _ _ _ _ F
         .rw[hsc]at hj;by_cases hin:off<=j∧j<off+ds.length
          .have hj2:ds[j-off]?=Z c:=by
            rw[tc,bB (by simp[n];omega),tc,bO (by simp[n];omega)]at hj;have:j-(m.take off).length=j-off:=by simp[n];omega
            rwa [this]at hj
           have hlt2:j-off<vx.cells.size:=by omega
           refine⟨vx.cells[j-off],?_,?_⟩
           .rw[Sr,tc,bB (by simp[A];omega),tc,bO (by simp;omega)];have:i*sz+j-(List.take (i*sz+off) B.toList).length=j-off:=by simp;omega
            rw[this];simp
           .have:=sB (j-off) c vx.cells[j-off] hj2 (by simp);exact this.ext (Ext.refl 0 g1 w) zY.bp |>.mono (λb' hb'=>setRow_other w b b' _ (λe=>by subst e;exact Bool.noConfusion (hfz.2 hb'))) (λ_ h=>h)
          .have hj2:m[j]?=Z c:=by
            rw[tc,tc]at hj;by_cases hlo:j<off
            .rw[bB (by simp[n];omega),bB (by simp[n];omega),T5,bB hlo]at hj;exact hj
            .rw[bO (by simp[n];omega),M5]at hj;have:off+ds.length+(j-(List.take off m++ds).length)=j:=by simp[n];omega
             rwa [this]at hj
           let ⟨v,hv,hr⟩:=S i (jq es i) j c (D.Lc hlt) (by rw[Q];exact hj2)
           refine⟨v,f v hv (.inr ⟨rfl,by omega⟩),hr.mono (λb' hb'=>setRow_other w b b' _ (λe=>by subst e;exact Bool.noConfusion (hfz.2 hb'))) (λ_ h=>h)⟩
         .let ⟨v,hv,hr⟩:=S i d j c F hj
          have yg:j<sz:=by rw[<-E.rows d (iz F)];exact cB hj
          exact⟨v,f v hv (.inl ⟨hik,yg⟩),hr.mono (λb' hb'=>setRow_other w b b' _ (λe=>by subst e;exact Bool.noConfusion (hfz.2 hb'))) (λ_ h=>h)⟩
       let ⟨hs',he⟩:=zY.aey y hga hfl zo afm
       refine⟨_,g1,?_,hs',he1.trans (ap6▸he),rfl⟩;rw[nS];simpa[Instr.storeAt,Instr.sureAddr]using I
      .cases h9
  |_=>simp at h
end
section
variable {k:IntKind}{I:Nat->Prop}{d:D}{b a:T}{va vb:Value}{r:Bool}
def BO{j:IntKind}(h:oP j k=W):j=k:=by cases j<;>cases k<;>first|rfl|cases h
section
variable {g:Gh}{w:World}{t:T}{v:Value}{p:Prop}
def UM(h:D.isInt k d=W)(a:dD I w d v):v=.int k d.toInt:=by
 cases a with
 |lit v=>
  cases v with|int j n=>rw[BO h];rfl|_=>cases h
 |_=>cases h
def Gb(h:d.isBool=W)(a:dD I w d v):v=.bool d.toBool:=by
 cases a with
 |lit v=>
  cases v with|bool b=>rfl|_=>cases h
 |_=>cases h
def UL(h:d.isStr=W)(a:dD I w d v):v=.string d.toStr:=by
 cases a with
 |lit v=>
  cases v with|string b=>rfl|_=>cases h
 |_=>cases h
theorem dQ{k:IntKind}{n:Int}(h:yc k t=Z (p,n))(a:p)(b:aH g w t v):v=.int k n:=by
 cases b with
 |kn j m=>
  obtain⟨c,h⟩|⟨_,h⟩:=af h
  .simp only[gR,fE]at h;rw[BO c,h.2]
  .cases h
 |sym d v e=>obtain⟨rfl,rfl⟩:=h;exact UM a e
 |_=>simp[yc]at h
def ju{b:Bool}(h:A4 t=Z (p,b))(a:p)(e:aH g w t v):v=.bool b:=by
 cases e with
 |kb c=>simp only[A4,gR,fE]at h;rw[h.2]|sym d v f=>obtain⟨rfl,rfl⟩:=h;exact Gb a f
 |_=>simp[A4]at h
def iK{b:ByteArray}(h:z9 t=Z (p,b))(a:p)(c:aH g w t v):v=.string b:=by
 cases c with
 |sym d v e=>obtain⟨rfl,rfl⟩:=h;exact UL a e
 |_=>simp[z9]at h
def D.xK(h:d.aiG=W):d=.sl d.aem:=by cases d<;>first|rfl|cases h
def RU{s:St}(hs:aV g s w){es:L D}(h:BA s t=Z (p,es))(x:p)(y:aH g w t v):∃a cap,v=.slice a es.length cap∧es.length<=cap:=by
 cases y with
 |emp a=>obtain⟨_,rfl⟩:=h;exact⟨a,0,rfl,by simp⟩
 |kM n b a C q=>obtain⟨_,rfl⟩:=h;exact⟨a,_,rfl,eR _⟩
 |pU j d c a E q=>obtain⟨_,rfl⟩:=h;exact⟨a,1,rfl,eR _⟩
 |sym d v q=>
  obtain⟨rfl,rfl⟩:=h;rw[D.xK x]at q;generalize d.aem=es at *
  cases q with|sl _ a cap sz val k=>exact⟨a,cap,rfl,k⟩
 |sh o e len cap sz a z=>
  simp[BA]at h;have key:∀u f(b:L D)era,s.ob.get o=Z (gj u f b era)->(bif Nq e era then Z (True,b)else Y)=Z (p,es)->
    ∃A i,Value.slice a len cap=.slice A es.length i∧es.length<=i:=by
   intro u f b era l h;obtain⟨B,h⟩|⟨_,h⟩:=af h
   .have r:=beq_iff'.1 B;obtain⟨_,rfl⟩:=h
    let ⟨m,_⟩:=hs.nQ (r▸l) z
    have h1:=m.len;have h2:=m.cap;simp only at h1 h2;exact⟨a,cap,by rw[h1],by omega⟩
   .cases h
  split at h
  .rename_i f b era l;exact key J f b era l h
  .rename_i f b era l;exact key W f b era l h
  .cases h
 |_=>simp[BA]at h
end
section
variable {P:Program}{g:Gh}{w:World}
def uV{x:T}{vx:Value}{q:Prop}{y:Bool}(h:IA x=Z (q,y))(a:q)(f:aH g w x vx):vx=.bool y:=by
 cases f with
 |gd c t v e=>
  simp[IA]at h;split at h
  .rename_i h1;obtain⟨rfl,rfl⟩:=h;exact ju h1 a.2 (e a.1)
  .cases h
 |kb b=>simp only[IA,gR,fE]at h;rw[h.2]|sym d v i=>obtain⟨rfl,rfl⟩:=h;exact Gb a i
 |_=>simp[IA]at h
def Nb{c:T}{i:Value}{p:Prop}{t:T}(h:I5 c a b=Z (p,t))(d:p)(j:aH g w c i)(k:aH g w a va)(l:aH g w b vb) :
  ∃u,i=.bool u∧aH g w t (if u then va else vb):=by
 unfold I5 at h;split at h
 .rename_i u;cases j;refine⟨u,rfl,?_⟩;split at h
  .rename_i e;obtain⟨rfl,rfl⟩:=h;cases u with|true=>rw[bB rfl,uV e d k];exact .sym _ _ (.lit _)|false=>rw[bO Bool.noConfusion,uV e d l];exact .sym _ _ (.lit _)
  .cases h
 split at h
 .rename_i u q1 n q2 o m h1 h2;obtain⟨rfl,rfl⟩:=h;have f:=ju m d.1 j;refine⟨u,f,?_⟩;cases u with|true=>rw[uV h1 (d.2.1 rfl) k];exact .sym _ _ (.lit _)|false=>rw[uV h2 (d.2.2 rfl) l];exact .sym _ _ (.lit _)
 .cases h
def AQ{l:Lk}{p:Prop}(h:ri l a b=Z (p,r))(c:p)(d:aH g w a va)(e:aH g w b vb) :
  Bg l va∧Bg l vb∧r=GA va vb:=by
 cases l with
 |int k=>
  simp[ri]at h;split at h
  .rename_i f x i y h1 h2;obtain⟨rfl,rfl⟩:=h;rw[dQ h1 c.1 d,dQ h2 c.2 e];exact⟨⟨_,rfl⟩,⟨_,rfl⟩,rfl⟩
  .cases h
 |bool=>
  simp[ri]at h;split at h
  .rename_i f x i y h1 h2;obtain⟨rfl,rfl⟩:=h;rw[ju h1 c.1 d,ju h2 c.2 e];exact⟨⟨_,rfl⟩,⟨_,rfl⟩,rfl⟩
  .cases h
 |str=>
  simp[ri]at h;split at h
  .rename_i h1 h2;obtain⟨rfl,rfl⟩:=h;rw[iK h1 c.1 d,iK h2 c.2 e];exact⟨⟨_,rfl⟩,⟨_,rfl⟩,rfl⟩
  .cases h
 |no=>simp[ri]at h
def wL:∀(c:L Lk)(as bs:L T)(va vb:L Value){p:Prop}{r:Bool},kG c as bs=Z (p,r)->p->PW (aH g w) as va->PW (aH g w) bs vb->
  va.length=c.length∧vb.length=c.length∧(∀(j:Nat)(l:Lk)(v:Value),c[j]?=Z l->va[j]?=Z v->Bg l v)∧
   (∀(j:Nat)(l:Lk)(v:Value),c[j]?=Z l->vb[j]?=Z v->Bg l v)∧r=nM va vb
 |[],[],[],va,vb,p,r,h,f,d,e=>by simp only[kG,gR,fE]at h;have h1:va=[]:=Fm d.1.symm;have h2:vb=[]:=Fm e.1.symm;subst h1;subst h2;refine⟨rfl,rfl,λj l v h=>by simp at h,λj l v h=>by simp at h,h.2.symm⟩
 |l::c,a::as,b::bs,va,vb,p,r,h,f,d,e=>by
  simp[kG]at h;split at h
  .rename_i x B y h1 h2;simp only[gR,fE]at h;obtain⟨rfl,rfl⟩:=h
   match va,vb,d,e with
   |v::va,u::vb,d,e=>
    let ⟨C,E,m⟩:=AQ h1 f.1 (d.2 0 _ _ rfl rfl) (e.2 0 _ _ rfl rfl)
    let ⟨n,o,F,I,q⟩:=wL c as bs va vb h2 f.2 ⟨by simpa using d.1,λj x y i k=>d.2 (j+1) x y (by simpa using i) (by simpa using k)⟩
     ⟨by simpa using e.1,λj x y i k=>e.2 (j+1) x y (by simpa using i) (by simpa using k)⟩
    refine⟨by simp[n],by simp[o],λj s t z A=>?_,λj s t z A=>?_,?_⟩
    .grind
    .grind
    .rw[m,q];rfl
  .cases h
 |[],[],_::_,_,_,_,_,h,_,_,_=>by simp[kG]at h
 |[],_::_,_,_,_,_,_,h,_,_,_=>by simp[kG]at h
 |_::_,[],_,_,_,_,_,h,_,_,_=>by simp[kG]at h
 |_::_,_::_,[],_,_,_,_,h,_,_,_=>by simp[kG]at h
def TV(d:Nat){ty e:TypeId}(b:P.underlying ty=Z (.pointer e))(a:Addr):(Op.equalIn (d+1) ty (.pointer Y) (.pointer (Z a))).run P w=.ok J w:=by simp only[Op.equalIn,run_bind,aL b,andThen_ok];rfl
def TW(d:Nat){ty e:TypeId}(b:P.underlying ty=Z (.pointer e))(a:Addr):(Op.equalIn (d+1) ty (.pointer (Z a)) (.pointer Y)).run P w=.ok J w:=by simp only[Op.equalIn,run_bind,aL b,andThen_ok];rfl
def TX(d:Nat){ty:TypeId}{a:Array (String×TypeId)}(b:P.underlying ty=Z (.interface a))(t:TypeId)(v:Value):(Op.equalIn (d+1) ty .nilIface (.iface t v)).run P w=.ok J w:=by simp only[Op.equalIn,run_bind,aL b,andThen_ok];rfl
def IW(d:Nat){ty:TypeId}{a:Array (String×TypeId)}(b:P.underlying ty=Z (.interface a))(t:TypeId)(v:Value):(Op.equalIn (d+1) ty (.iface t v) .nilIface).run P w=.ok J w:=by simp only[Op.equalIn,run_bind,aL b,andThen_ok];rfl
def nZ{ty:TypeId}(x y:Operand)(h1:binOp .eql ty va vb=(do pure (.bool (<-Op.equal ty va vb))))(h2:binOp .neq ty va vb=(do pure (.bool (!(<-Op.equal ty va vb)))))
  (c:∀op,(eqGuard op ty x y va vb).run P w=.ok () w) (a:(Op.equalIn (9999+1) ty va vb).run P w=.ok r w) :
  ((do eqGuard .eql ty x y va vb;binOp .eql ty va vb:Sem Value)).run P w=.ok (.bool r) w∧((do eqGuard .neq ty x y va vb;binOp .neq ty va vb:Sem Value)).run P w=.ok (.bool (!r)) w:=by
 have b:(Op.equal ty va vb).run P w=.ok r w:=a
 simp_all
def Gz{ty:TypeId}{i:TI}(hi:nr P ty i){p:Prop}(h:Yn i a b=Z (p,r))(u:p)(o:aH g w a va)(s:aH g w b vb)(x y:Operand) :
  ((do eqGuard .eql ty x y va vb;binOp .eql ty va vb:Sem Value)).run P w=.ok (.bool r) w∧((do eqGuard .neq ty x y va vb;binOp .neq ty va vb:Sem Value)).run P w=.ok (.bool (!r)) w:=by
 let ⟨xi,d0,z,NA,A,hsz,hag,hz,BT,d⟩:=hi.all
 obtain⟨c,h⟩|⟨c,h⟩:=af h
 .split at h
  .cases h
  .rename_i k ks qa as qb bs hk B C;simp only[fV,fE]at h;obtain⟨⟨q,r'⟩,he,rfl,rfl⟩:=h
   let ⟨F,_⟩:=qm B u.1 o
   let ⟨I,_⟩:=qm C u.2.1 s
   let ⟨_,_,_,f,_⟩:=m6 B u.1 o
   let ⟨_,_,_,t,_⟩:=m6 C u.2.1 s
   obtain⟨xs,rfl⟩:=f c;obtain⟨ys,rfl⟩:=t c
   let ⟨K,Q,R,S,m5⟩:=wL (k::ks) as bs _ _ he u.2.2 F I
   simp only[Value.cells]at K Q R S m5;have hne:i.lks≠[]:=by rw[hk];simp
   rw[<-hk]at K Q R S;have key:∀op,_:=λop=>hi.eqs c hne w op x y xs ys (by simpa using K) (by simpa using Q) (λj l v h1 h2=>R j l v h1 (by simpa using h2)) (λj l v h1 h2=>S j l v h1 (by simpa using h2));refine⟨?_,?_⟩
   .rw[run_bind,(key .eql).1];simp only[andThen_ok,binOp,run_bind,(key .eql).2,m5];rfl
   .rw[run_bind,(key .neq).1];simp only[andThen_ok,binOp,run_bind,(key .neq).2,m5];rfl
  .cases h
 .split at h
  .rename_i l E;obtain⟨f,t,rfl⟩:=AQ h u o s;rw[E]at d;cases l with
   |int k=>obtain⟨m,rfl⟩:=f;obtain⟨n,rfl⟩:=t;simp[eqGuard,binOp,Op.intCmp,GA,bne]
   |bool=>obtain⟨m,rfl⟩:=f;obtain⟨n,rfl⟩:=t;subst d;exact nZ x y rfl rfl (λop=>by cases op<;>rfl) (run_equalIn_bool' w _ _ _ _ A)
   |str=>
    obtain⟨m,rfl⟩:=f;obtain⟨n,rfl⟩:=t
    simp_all[eqGuard,binOp,Op.stringOp,GA,beq_toListBytes]
   |no=>exact f.elim
  .rename_i E;rw[E]at d;obtain⟨e,rfl⟩:=d;unfold adD at h;split at h
   .obtain ⟨_,rfl⟩:=h;cases o with
    |sym _ _ o=>
    cases o;cases s;exact nZ x y rfl rfl (λop=>by cases op<;>rfl) (TV _ A _)
   .obtain ⟨_,rfl⟩:=h;cases s with
    |sym _ _ s=>
    cases s;cases o;exact nZ x y rfl rfl (λop=>by cases op<;>rfl) (TW _ A _)
   .cases h
  .rename_i E;rw[E]at d;obtain⟨e,rfl⟩:=d;unfold adE at h;split at h
   .obtain ⟨_,rfl⟩:=h;cases o with
    |sym _ _ o=>
    cases o;cases s;exact nZ x y rfl rfl (λop=>by cases op<;>rfl) (TX _ A _ _)
   .obtain ⟨_,rfl⟩:=h;cases s with
    |sym _ _ s=>
    cases s;cases o;exact nZ x y rfl rfl (λop=>by cases op<;>rfl) (IW _ A _ _)
   .cases h
  .cases h
end
end
section
section
variable {P:Program}{g:Gh}{w:World}
variable {i:TI}{a t:T}{va:Value}{p:Prop}{d:D}{s s':St}{k:Nat}
def QU{ty:TypeId}(hi:nr P ty i){op:BinOp}{b:T}{l:Value}(h:Ll i op a b=Z (p,d))(c:p)(e:aH g w a va)(f:aH g w b l)(x y:Operand) :
  ∃v,((do eqGuard op ty x y va l;binOp op ty va l:Sem Value)).run P w=.ok v w∧aH g w (.sym d) v:=by
 unfold Ll at h;split at h
 .simp only[fV,fE]at h;obtain⟨⟨q,r⟩,o,rfl,rfl⟩:=h;exact⟨_,(Gz hi o c e f x y).1,.sym _ _ (.lit _)⟩
 .simp only[fV,fE]at h;obtain⟨⟨q,r⟩,o,rfl,rfl⟩:=h;exact⟨_,(Gz hi o c e f x y).2,.sym _ _ (.lit _)⟩
 .rename_i t u;split at h
  .rename_i k F;split at h
   .rename_i A m B n h1 h2;cases j:Vi op k m n with
    |some C=>
     simp only[j,gR,fE]at h;obtain⟨rfl,rfl⟩:=h;rw[dQ h1 c.1 e,dQ h2 c.2 f];cases op<;>simp only[Vi,gR]at j<;>first
      |(cases j;done)
      |(
        subst j;refine⟨_,?_,.sym _ _ (.lit _)⟩;simp[eqGuard,binOp,Op.intCmp,Op.intArith,aE,br,aG,bf,HL])
    |none=>
     simp only[j,fV,fE]at h;obtain⟨C,s,rfl,rfl⟩:=h;rw[dQ h1 c.1 e,dQ h2 c.2.1 f];have E:n≠0:=c.2.2;cases op<;>simp only[Yx,gR]at s<;>first
      |(cases s;done)
      |(
        subst s;refine⟨_,?_,.sym _ _ (.lit _)⟩;simp[eqGuard,binOp,Op.intDiv,E,HK,ZV])
   .cases h
  .split at h
   .rename_i A m B n h1 h2;obtain⟨rfl,rfl⟩:=h;rw[iK h1 c.1 e,iK h2 c.2.1 f];have z:m.size+n.size<=4611686018427387904:=c.2.2;refine⟨_,?_,.sym _ _ (.lit _)⟩;simp[eqGuard,binOp,Op.stringOp,Rp];omega
   .cases h
  .cases h
def TE{op:UnOp}(h:unT i op a=Z (p,d))(c:p)(e:aH g w a va) :
  ∃v,(Op.unary op va).run P w=.ok v w∧aH g w (.sym d) v:=by
 unfold unT at h;split at h
 .simp only[fV,fE]at h;obtain⟨⟨q,r⟩,b,rfl,rfl⟩:=h;rw[ju b c e];exact⟨_,rfl,.sym _ _ (.lit _)⟩
 .simp only[fV,fE]at h;obtain⟨⟨q,r⟩,b,rfl,rfl⟩:=h;rw[dQ b c e];refine⟨_,rfl,?_⟩;rw[show(0:Int)-r=-r from by omega];exact .sym _ _ (.lit _)
 .cases h
def Oa{src dst:TypeId}{j:TI}(hi:nr P src i)(u:nr P dst j)(h:JE i j s a=Z (p,t,s'))(r:p)(m:aH g w a va) :
  ∃v,(convert src dst va).run P w=.ok v w∧aH g w t v∧s'=s:=by
 let ⟨_,d1,_,_,f,_,_,_,_,k⟩:=hi.all
 let ⟨_,d2,_,_,l,_,_,_,_,c⟩:=u.all
 unfold JE at h;split at h
 .rename_i d e;simp only[fV,fE]at h;obtain⟨⟨q,n⟩,x,rfl,rfl,rfl⟩:=h;rw[d]at k;rw[e]at c;subst c;rw[dQ x r m];exact⟨_,by simp[convert,aL f,aL l,Conv.intToInt];rfl,.sym _ _ (.lit _),rfl⟩
 .rename_i d e;simp only[fV,fE]at h;obtain⟨⟨q,b⟩,y,rfl,rfl,rfl⟩:=h;rw[d]at k;rw[e]at c;subst c;have o:=iK y r m;subst o;exact⟨_,by simp[convert,aL f,aL l],m,rfl⟩
 .cases h
def Gw(h:tL s k a=Z (p,t,s'))(f:p)(i:aH g w a va) :
  ∃v,(Instr.extract va k).run P w=.ok v w∧aH g w t v∧s'=s:=by
 cases i with
 |gT o b j e=>
  simp only[tL,ku,fV,fE]at h;obtain⟨q,l,_,rfl,rfl⟩:=h;have c:k<b.size:=by grind
  refine⟨b[k],by simp[Instr.extract,uq c],e k _ _ l (uq c),rfl⟩
 |sym d v m=>
  obtain⟨rfl,rfl,rfl⟩:=h;cases m with
  |gT ds b j e=>
   have n:k<ds.length:=by
    have:Nt k (cE ds)=W:=f
    simp_all[bR]
   have c:k<b.size:=by omega
   refine⟨b[k],by simp_all[Instr.extract],.sym _ _ ?_,rfl⟩;refine e k _ _ ?_ (uq c)
   grind[D.proj]
  |_=>cases f
 |_=>simp[tL]at h
def add_zero'(a:Addr):a.add 0=a:=by rfl
def BZ{ty:TypeId}(hi:nr P ty i)(h:rf i s k a=Z (p,t,s'))(u:aH g w a va) :
  ∃v,(Instr.fieldAt ty va k).run P w=.ok v w∧aH g w t v∧s'=s:=by
 let ⟨_,d1,_,_,x,_,_,_,_,l⟩:=hi.all
 unfold rf at h;split at h
 .rename_i n;rw[n]at l;obtain⟨fields,rfl,y,z⟩:=l;split at h
  .rename_i off size A r;rw[ku]at r
   let ⟨f,j,d',B,C,E,F,_⟩:=z k off size A r
   obtain⟨_,h⟩|⟨h0,h⟩:=af h
   .cases h
   .have I:j.size≠0:=by
     intro e
     simp_all
    have c:∀m,(Instr.fieldAt ty (.pointer (Z m)) k).run P w=.ok (.pointer (Z (m.add off))) w:=by
     simp_all[Instr.fieldAt,Instr.sureAddr,aL,fieldPlace,dm]
    cases u with
    |ptr o b bl K=>obtain⟨_,rfl,rfl⟩:=h;refine⟨_,c _,?_,rfl⟩;rw[nS];exact .ptr _ _ _ K
    |mc d b m val q Q R=>obtain⟨_,rfl,rfl⟩:=h;refine⟨_,c _,?_,rfl⟩;rw[tX];exact .mc _ _ _ _ q Q R
    |l9 o e j' b len cap sz m S=>obtain⟨_,rfl,rfl⟩:=h;refine⟨_,c _,?_,rfl⟩;rw[tX,Nat.add_assoc];exact .l9 _ _ _ _ _ _ _ _ S
    |_=>simp at h
  .cases h
 .cases h
def My{t:TypeId}{x:TypeInfo}{d:TypeDesc}(hi:P.info? t=Z x)(a:P.underlying t=Z d)(vs:Array Value)(off:Nat)(hl:off+x.size<=vs.size)(h1:dZ d=J->x.size=1) :
  (part t vs off).run P w=.ok (if dZ d then .agg ((vs.toList.drop off).take x.size).toArray else((vs.toList.drop off).take x.size).headD undef) w:=by
 simp only[part,run_bind,uj a,andThen_ok];cases b:dZ d with
 |true=>
  simp only[ki,run_bind,dm hi,andThen_ok,run_pure]
  congr 2
  grind
 |false=>
  have e:=h1 b;have c:off<vs.size:=by omega
  simp_all[aaG]
def KX{ty:TypeId}(hi:nr P ty i)(h:Gt i s k a=Z (p,t,s'))(z:p)(A:aH g w a va) :
  ∃v,(Instr.field ty va k).run P w=.ok v w∧aH g w t v∧s'=s:=by
 let ⟨_,d1,_,_,I,B,c,_,_,d⟩:=hi.all
 unfold Gt at h;split at h
 .rename_i o;rw[o]at d;obtain⟨fields,rfl,K,Q⟩:=d;split at h
  .rename_i off size R q cs C E;rw[ku]at C
   let ⟨f,j,d',S,hf2,r,hf4,u,hf6⟩:=Q k off size R C
   obtain⟨hl,h⟩|⟨_,h⟩:=af h
   .have l:=beq_iff'.1 (ze.1 hl).1;rw[bR]at l;simp only[fV,fE]at h;obtain⟨t',ht,rfl,rfl,rfl⟩:=h
    let ⟨m,F⟩:=qm E z A
    let ⟨_,_,_,x,_⟩:=m6 E z A
    obtain⟨y,rfl⟩:=x (by rw[c];rfl);simp[Value.cells]at m;have b:=(m.drop off).take size
    let ⟨n,h1⟩:=xE (g:=g) (w:=w) ht b.1 b.2
    have hlv:((y.toList.drop off).take size).length=size:=by rw[<-b.1,l]
    have hs0:size≠0:=by
     intro e
     simp_all
    have hle:off+size<=y.size:=by
     grind
    refine⟨_,?_,n,rfl⟩;have hr:=My (P:=P) (w:=w) r u y off (by omega) (λhd=>by
     grind)
    simp_all[Instr.field,aL,asAgg]
   .cases h
  .cases h
 .cases h
end
end
section
section
variable {P:Program}{g:Gh}{w:World}
def CN{ty e:TypeId}{j:TypeInfo}(b:P.underlying ty=Z (.slice e))(c:P.info? e=Z j)(a:Addr)(len cap:Nat)(n:Int)(h:0<=n∧n<len) :
  (Instr.indexAt ty (.slice (Z a) len cap) (.int .i64 n)).run P w=.ok (.pointer (Z (a.add (n.toNat *j.size)))) w:=by
 simp[Instr.indexAt,asIntOf,aL b,dm c,h]
variable {s s':St}{t x ix:T}{p:Prop}{i:TI}{vx vi:Value}
def Ms(hs:aV g s w){v:Value}{es:L D}(h:BA s t=Z (p,es))(C:p)(E:aH g w t v)
  (hf:freeze s (tA t)=Z s') :
  ∃g',aV g' s' w∧Ext s.fl g w g' w∧s'.fl=s.fl∧s'.aD=s.aD∧dD g'.bp w (.sl es) v:=by
 cases E with
 |emp a=>
  simp only[BA,gR,fE]at h;simp[tA,freeze,gR]at hf;subst hf;exact⟨g,hs,Ext.refl _ _ _,rfl,rfl,by
   rw[<-h.2];exact .sl [] a 0 0 (λ_ _=>undef) (by simp) (by simp) (by simp) (λh=>absurd rfl h) (λi j d c h=>by simp at h)⟩
 |kM n f a K l=>simp[tA,freeze,gR]at hf;subst hf;obtain⟨_,rfl⟩:=h;exact⟨g,hs,Ext.refl _ _ _,rfl,rfl,l⟩
 |pU j d c a F l=>simp[tA,freeze,gR]at hf;subst hf;obtain⟨_,rfl⟩:=h;exact⟨g,hs,Ext.refl _ _ _,rfl,rfl,AW F l⟩
 |sym d v l=>simp[tA,freeze,gR]at hf;subst hf;obtain⟨rfl,rfl⟩:=h;rw[D.xK C]at l;exact⟨g,hs,Ext.refl _ _ _,rfl,rfl,l⟩
 |sh o e len cap sz a y=>
  have key:∀m b(f:L D)era,s.ob.get o=Z (gj m b f era)->(bif Nq e era then Z (True,f)else Y)=Z (p,es)->
    s.ob.get o=Z (gj m b es e):=by
   intro m b f era q h;obtain⟨I,h⟩|⟨_,h⟩:=af h
   .have z:=beq_iff'.1 I;simp only[gR,fE]at h;rw[q,h.2,z]
   .cases h
  have u:∃m b,s.ob.get o=Z (gj m b es e):=by
   simp[BA]at h;split at h
   .rename_i b f era q;exact⟨_,_,key J b f era q h⟩
   .rename_i b f era q;exact⟨_,_,key W b f era q h⟩
   .cases h
  let ⟨m,b,q⟩:=u
  let ⟨g',x,A,r⟩:=eG [o] hs hf (λk B=>by
   simp at B;subst B;exact⟨iS (hs.lt' y) hs.aD,.inl ⟨e,_,y,.inl ⟨m,b,es,q⟩⟩⟩)
  have l:=x.Kh (r.hit o (by simp) m b es e q) (A.arr _ _ _ y);exact⟨g',x,A,r.fl,r.aD,l⟩
 |_=>simp[BA]at h
theorem xO{I:Nat->Prop}{es:L D}{v:Value}(h:dD I w (.sl es) v):∃a cap,v=.slice a es.length cap∧es.length<=cap∧(∀d∈es,es.length*d.sM<=281474976710656)∧(es≠[]->∃ad sz,a=Z ad∧(∀d∈es,d.cells.length=sz)∧I ad.block∧
  ∃val:Nat->Nat->Value,(∀i j d c,es[i]?=Z d->d.cells[j]?=Z c->w.cell? (ad.add (i*sz+j))=Z (val i j))∧
   (∀i j d c,es[i]?=Z d->d.cells[j]?=Z c->dD I w c (val i j))):=by
 cases h with
 |sl _ a cap sz val b e f k l=>
  refine⟨a,cap,rfl,b,f,λg=>?_⟩
  let ⟨ad,h1,h2,h3⟩:=k g
  exact⟨ad,sz,h1,e,h2,val,h3,l⟩
def Hf{ty:TypeId}(hi:nr P ty i){n sz:Nat}{ag:Bool}(c:i.kd=.array n sz ag)(h:A9 n sz s x ix=Z (p,t,s'))
  (o:aH g w x vx) (d:aH g w ix vi):∃v,(Instr.indexAt ty vx vi).run P w=.ok v w∧aH g w t v∧s'=s:=by
 let ⟨_,d1,_,_,f,_,_,_,_,a⟩:=hi.all
 rw[c]at a;obtain⟨e,j,B,rfl,q,l,_,_⟩:=a;unfold A9 at h;split at h
 .rename_i b k;obtain⟨r,h3⟩|⟨_,h3⟩:=af h
  .obtain ⟨_,rfl,rfl⟩:=h3;have u:k<n:=gU r;cases d with
   |kn _ _=>
   cases o with
   |mc _ _ y val m z A=>
   refine⟨.pointer (Z ((y.add b).add (k*sz))),?_,?_,rfl⟩
   .simp[Instr.indexAt,Instr.sureAddr,asIntOf,aL f,dm q,l,u]
   .rw[tX];exact .mc _ _ _ _ m z A
  .cases h3
 .cases h
def BS{ty:TypeId}(hi:nr P ty i)(hs:aV g s w)(h:kD i s x ix=Z (p,t,s'))(A:p)
  (hx:aH g w x vx) (B:aH g w ix vi):∃v,(Instr.indexAt ty vx vi).run P w=.ok v w∧aH g w t v∧s'=s:=by
 let ⟨_,d1,_,_,S,_,_,_,_,NF⟩:=hi.all
 unfold kD at h;split at h
 .rename_i sz ag bt zero q n C hn;rw[C]at NF;obtain⟨e,j,d',z,rfl,hj,yg,_,_,_,_,_,hpos,_⟩:=NF;have gen:∀{r:L D}{q':Prop},BA s x=Z (q',r)->q'->lW n (eP r)->(jq r (DK n)).wide sz->(∀o e,x≠.sh o e)->q->∃v,(Instr.indexAt ty vx vi).run P w=.ok v w∧aH g w (.mc (jq r (DK n)) 0) v:=by
   intro r q' f hq' u hw l hq;have E:=dQ hn hq B;subst E;have F:n.toNat<r.length:=by have h1:=u.1;have h2:=u.2;unfold eP at h2;omega
   have hne:r≠[]:=by intro e;rw[e]at F;simp at F
   have hd':dD g.bp w (.sl r) vx:=by
    cases hx with
    |sym d v hd=>obtain⟨rfl,rfl⟩:=f;rw[<-D.xK hq'];exact hd
    |kM m es' a hm hd=>obtain⟨_,rfl⟩:=f;exact hd
    |emp a=>simp only[BA,gR,fE]at f;exact absurd f.2.symm hne|pU j d c a hj hd=>obtain⟨_,rfl⟩:=f;exact AW hj hd
    |sh o e len cap sz a hx=>exact absurd rfl (l o e)|_=>simp[BA]at f
   obtain⟨a,cap,rfl,hcap,_,I⟩:=xO hd';obtain⟨ad,y,rfl,K,UP,val,hc,hr⟩:=I hne;have Q:=D.Lc F;have XN:y=sz:=by have h1:=K (jq r n.toNat) (iz Q);exact h1.symm.trans hw
   subst XN;refine⟨_,CN S hj ad _ _ n ⟨u.1,?_⟩,?_⟩
   .have:=u.2;exact this
   .rw[yg,<-add_zero' (ad.add (n.toNat *y))];refine .mc _ 0 (ad.add (n.toNat *y)) (val n.toNat) (by rw[kZ];exact UP) (λk c hk=>?_) (λk c hk=>hr _ _ _ _ Q hk);rw[tX];exact hc _ _ _ _ Q hk
  split at h
  .rename_i o e';split at h
   .rename_i r KV;obtain⟨hb,h3⟩|⟨_,h3⟩:=af h
    .have hzz:=beq_iff'.1 hb;obtain⟨rfl,rfl,rfl⟩:=h3;clear h hb;subst hzz;have E:=dQ hn A.1 B;subst E;cases hx with
     |sh _ _ len cap y a hxa=>
     let ⟨fz,ho⟩:=JO KV
     let ⟨R,K⟩:=hs.nQ ho hxa
     subst K;have h1:=A.2.1;have h2:=A.2.2;unfold eP at h2;have hl:=R.len;have hc:=R.cap;simp only at hl hc
     let ⟨b,vs,ety,hab,_⟩:=R.mem (by simp only;omega)
     subst hab;refine⟨_,CN S hj _ _ _ n ⟨h1,by omega⟩,?_,rfl⟩;rw[yg];exact .l9 o e' n.toNat 0 _ _ _ _ hxa
    .cases h3
   .cases h
  .rename_i l;split at h
   .rename_i f;obtain⟨rfl,rfl,rfl⟩:=h
    let ⟨v,h1,h2⟩:=gen f A.2.1 A.2.2.1 A.2.2.2 (λo e he=>l o e he) A.1
    exact⟨v,h1,h2,rfl⟩
   .cases h
 .rename_i C;exact Hf hi C h hx B
 .cases h
def get!_some{b:ByteArray}{k:Nat}(h:k<b.size):b[k]?=Z (b.get! k):=by
 rw[getElem?_pos b k h]
 congr 1
 show b.data[k]=b.data[k]!;rw[getElem!_pos b.data k h]
def KP{ty:TypeId}(hi:nr P ty i)(h:Ge i s x ix=Z (p,t,s'))(b:p)
  (f:aH g w x vx) (c:aH g w ix vi):∃v,(Instr.index ty vx vi).run P w=.ok v w∧aH g w t v∧s'=s:=by
 let ⟨_,d1,_,_,d,_,_,_,_,a⟩:=hi.all
 unfold Ge at h;split at h
 .rename_i e j k;rw[e]at a;subst a;obtain⟨rfl,rfl,rfl⟩:=h;rw[dQ j b.1 c,iK k b.2.1 f];have h1:=b.2.2.1;have h2:=b.2.2.2;unfold vk at h2;refine⟨_,?_,.sym _ _ (.lit _),rfl⟩;simp[Instr.index,asIntOf,run_bind,run_pure,andThen_ok,aL d];rw[bB h1,get!_some (by omega)];rfl
 .cases h
def sY{zero:L D}{cells:Array Value}(h:ZOk zero cells):(zero.map qH).length=cells.size∧
  ∀(j:Nat)(t:T)(v:Value),(zero.map qH)[j]?=Z t->cells[j]?=Z v->aH g w t v:=by
 refine⟨by simpa using h.1,λj t v h1 h2=>?_⟩;simp at h1;obtain⟨d,a,rfl⟩:=h1;obtain⟨rfl,rfl⟩|rfl:=h.2 j d v a h2
 .exact .emp Y
 .unfold qH;split
  .rename_i heq;simp at heq;subst heq;exact .kb _
  .rename_i heq;simp at heq;subst heq;exact .kn _ _
  .simp_all
  .exact .sym _ _ (.lit _)
def Iy{ty xt:TypeId}(hi:nr P ty i){ok:Bool}(h:sd i s ty ok x=Z (p,t,s'))
  (E:aH g w x vx) :
  ∃v,(Instr.typeAssert vx xt ty ok).run P w=.ok v w∧aH g w t v∧s'=s:=by
 let ⟨I,d1,z,c,K,_,Q,d,f,R⟩:=hi.all
 let ⟨m,n⟩:=hi.zag I z c d
 have S:i.kd≠.iface->∀o,P.underlying ty≠Z (.interface o):=λl o q=>l (hi.nif o q);unfold sd at h;have a:i.kd≠.iface->∀u v,(Instr.typeAssert (.iface u v) xt ty ok).run P w=((if u=ty then pure (if ok then .tuple #[v,.bool W]else v)else
   if ok then do pure (.tuple #[<-zeroValue ty,.bool J])else runtimePanic (.typeAssertion (Z xt) (Z u) ty "")):Sem Value).run P w:=by
  simp_all[Instr.typeAssert,aL]
 split at h
 .cases h
 .rename_i u v l;cases E with
  |di _ _ vv hv=>
  obtain⟨k,h⟩|⟨k,h⟩:=af h
  .have r:=beq_iff'.1 k;simp only[gR,fE]at h;obtain⟨_,rfl,rfl⟩:=h;clear k;subst r;refine⟨_,by rw[a l,bB rfl];rfl,.gT _ _ rfl (λj t v h1 h2=>?_),rfl⟩
   match j with
   |0=>simp_all|1=>simp at h1 h2;subst h1;subst h2;exact .kb _|j+2=>simp at h1
  .have y:u≠ty:=λe=>by
    simp_all
   simp only[fV,fE]at h;obtain⟨tz,A,_,rfl,rfl⟩:=h
   let ⟨B,b⟩:=sY (g:=g) (w:=w) f
   have F:aH g w tz z:=by
    obtain⟨C,rfl⟩|⟨C,q⟩:=Fw A
    .obtain ⟨vs,rfl⟩:=m C;exact .agg _ _ B b
    .have:=n C;rw[q,this]at b;exact b 0 _ _ rfl rfl
   refine⟨_,by rw[a l,bO y];simp only[ki,run_bind,ey c d,andThen_ok,run_pure];rfl,.gT _ _ rfl (λj t v h1 h2=>?_),rfl⟩
   match j with
   |0=>grind|1=>simp at h1 h2;subst h1;subst h2;exact .kb _|j+2=>simp at h1
 .cases E with
  |di _ _ vv hv=>
  obtain⟨k,h⟩|⟨k,h⟩:=af h
  .simp_all
  .cases h
 .cases h
end
end
section
section
variable {P:Program}{g:Gh}{w:World}
inductive Rd(g:Gh)(w:World):Option T->Option Value->Prop where
 |no:Rd g w Y Y|yes (t:T) (v:Value) (h:aH g w t v):Rd g w (Z t) (Z v)
variable {l:Option T}{p:Prop}{low:Option Value}{lo hi:Int}{s s':St}{x t:T}{vx:Value}
def kX{dflt n:Int}{v:O Value}(h:wW dflt l=Z (p,n))(a:p)(b:Rd g w l v) :
  (v=Y∧l=Y∧n=dflt)∨(v=Z (.int .i64 n)∧∃t,l=Z t):=by
 cases b with|no=>simp only[wW,gR,fE]at h;exact .inl ⟨rfl,rfl,h.2.symm⟩|yes t v c=>exact .inr ⟨by rw[dQ h a c],t,rfl⟩
def run_sliceBound(n:Int)(y:Nat)(code:BoundsCode)(h:0<=n∧n<=y):(Instr.sliceBound (.int .i64 n) y code).run P w=.ok n.toNat w:=by simp[Instr.sliceBound,asIntOf,h]
def nG(a:Bool)(len cap:Nat){high:O Value}(hl:(low=Y∧lo=0)∨low=Z (.int .i64 lo))(b:(high=Y∧hi=len)∨high=Z (.int .i64 hi))
  (c:0<=lo) (h1:lo<=hi) (h2:hi<=cap):(Instr.sliceBounds a len cap low high Y).run P w=.ok (lo.toNat,hi.toNat,cap) w:=by
 obtain⟨rfl,rfl⟩|rfl:=hl<;>obtain⟨rfl,rfl⟩|rfl:=b
 .rfl
 .simp_all[Instr.sliceBounds,run_sliceBound]
 .simp_all[Instr.sliceBounds,run_sliceBound]
 .simp[Instr.sliceBounds,run_sliceBound hi cap _ ⟨by omega,h2⟩,run_sliceBound lo hi.toNat _ ⟨c,by omega⟩]
def s8(a:Bool)(len cap:Nat){b:Int}(hl:(low=Y∧lo=0)∨low=Z (.int .i64 lo))
  (c:0<=lo) (h1:lo<=hi) (h2:hi<=b) (h3:b<=cap):(Instr.sliceBounds a len cap low (Z (.int .i64 hi)) (Z (.int .i64 b))).run P w=.ok (lo.toNat,hi.toNat,b.toNat) w:=by
 obtain⟨rfl,rfl⟩|rfl:=hl
 .simp[Instr.sliceBounds,run_sliceBound b cap _ ⟨by omega,h3⟩,run_sliceBound hi b.toNat _ ⟨by omega,by omega⟩]
 .simp[Instr.sliceBounds,run_sliceBound b cap _ ⟨by omega,h3⟩,run_sliceBound hi b.toNat _ ⟨by omega,by omega⟩,run_sliceBound lo hi.toNat _ ⟨c,by omega⟩]
def N5{I:Nat->Prop}{es:L D}{a:O Addr}{len cap sz:Nat}(h:dD I w (.sl es) (.slice a len cap))(n:jI es sz)(z:yW lo hi (eP es))
  (m:Nat) (F:hi.toNat<=m) (u:m<=cap) :
  (o6 es lo hi).length=hi.toNat-lo.toNat∧dD I w (.sl (o6 es lo hi)) (.slice (if m=lo.toNat then a else a.map (·.add (lo.toNat *sz))) (hi.toNat-lo.toNat) (m-lo.toNat)):=by
 let ⟨K,v,A,x,q,g⟩:=xO h
 obtain⟨rfl,rfl,rfl⟩:=A
 let ⟨P,h1,h2⟩:=z
 unfold eP at h2;have b:(o6 es lo hi).length=hi.toNat-lo.toNat:=by simp[o6];omega
 refine⟨b,?_⟩;have eo:∀i d,(o6 es lo hi)[i]?=Z d->es[lo.toNat+i]?=Z d:=by
  grind[o6]
 have e:∀d∈o6 es lo hi,d∈es:=λd f=>So (List.mem_of_mem_drop f);rw[<-b];by_cases k:es=[]
 .subst k;have:o6 [] lo hi=[]:=by simp[o6]
  rw[this];exact .sl [] _ _ sz (λ_ _=>undef) (by simp) (by simp) (by simp) (λh=>absurd rfl h) (λi j d c h=>by simp at h)
 .obtain ⟨B,l,rfl,o,r,val,s,C⟩:=g k;have t:l=sz:=by obtain⟨d,ds,rfl⟩:=aaH k;rw[<-o d (by simp),n d (by simp)]
  subst t;refine .sl _ _ _ l (λi j=>val (lo.toNat+i) j) (by omega) (λd f=>n d (e d f)) (λd f=>gD (zf _ (by omega)) (q d (e d f))) (λp=>?_) (λi j d c f y=>C _ _ _ _ (eo i d f) y);have E:0<(o6 es lo hi).length:=T7.2 p;refine⟨B.add (lo.toNat *l),by grind,by rw[kZ];exact r,λi j d c f y=>?_⟩
  grind[tX]
def Kf{ty:TypeId}{i:TI}(hi:nr P ty i)(hs:aV g s w){h m:O T}{vl vh vm:O Value}
  (c:qz i s x l h m=Z (p,t,s')) (R:p) (hx:aH g w x vx) (hl:Rd g w l vl) (hh:Rd g w h vh) (hm:Rd g w m vm) :
  ∃g' v,(Instr.sliceAt ty vx vl vh vm).run P w=.ok v w∧aV g' s' w∧Ext s.fl g w g' w∧aH g' w t v∧s'.fl=s.fl∧s'.aD=s.aD:=by
 let ⟨_,d1,_,_,KR,_,_,_,_,I⟩:=hi.all
 unfold qz at c;split at c
 .rename_i p0 lo S hlo;rw[S]at I;subst I;split at c
  .rename_i q b hb;split at c
   .rename_i r o u;obtain⟨rfl,rfl,rfl⟩:=c
    let ⟨c0,c1,c2⟩:=R.2.2.2
    rw[iK hb R.2.1 hx];cases hm;refine⟨g,_,?_,hs,Ext.refl _ _ _,.sym _ _ (.lit _),rfl,rfl⟩;have A:=kX hlo R.1 hl;have d:=kX u R.2.2.1 hh;have B:=nG (P:=P) (w:=w) J b.size b.size (A.imp (λh=>⟨h.1,h.2.2⟩) (·.1)) (d.imp (λh=>⟨h.1,h.2.2⟩) (·.1)) c0 c1 c2
    simp_all[Instr.sliceAt,Instr.slice,aL,LL]
   .cases c
  .cases c
 .rename_i sz ag bt zero p0 lo S hlo;rw[S]at I;obtain⟨e,j,d',z,rfl,hj,yg,_,_,_,_,_,hpos,_⟩:=I;split at c
  .rename_i es s1 O3 hfr;have A:=λf=>kX hlo f hl;split at c
   .rename_i r o u;obtain⟨rfl,rfl,rfl⟩:=c;cases hm
    let ⟨f,hq,hr,k,C⟩:=R
    let ⟨g',hs',E,hfl,F,hd⟩:=Ms hs O3 hq hx hfr
    obtain⟨a,cap,rfl,K,_⟩:=xO hd
    let ⟨c0,c1,c2⟩:=C
    unfold eP at c2;have d:=kX u hr hh
    let ⟨_,n⟩:=N5 hd k ⟨c0,c1,c2⟩ cap (by omega) (eR _)
    refine⟨g',_,?_,hs',E,.sym _ _ n,hfl,F⟩;have B:=nG (P:=P) (w:=w) W es.length cap ((A f).imp (λh=>⟨h.1,h.2.2⟩) (·.1)) (d.imp (λh=>⟨h.1,h.2.2⟩) (·.1)) c0 c1 (by omega:o<=cap);simp only[Instr.sliceAt,Instr.slice,run_bind,aL KR,andThen_ok,dm hj,yg,B];rfl
   .rename_i o y th u;cases hm with
    |yes _ vy hy=>
    split at c
    .obtain ⟨rfl,rfl,rfl⟩:=c
     let ⟨f,hq,hr,e1,e2⟩:=R
     obtain⟨a,cap,rfl,K⟩:=RU hs O3 hq hx;have d:=kX u hr hh;cases hy;obtain⟨_,h',_⟩|⟨hv,_⟩:=d
     .cases h'
     .have z1:o=0:=e2;refine⟨g,_,?_,hs,Ext.refl _ _ _,.emp a,rfl,rfl⟩;have B:=s8 (P:=P) (w:=w) W es.length cap ((A f).imp (λh=>⟨h.1,h.2.2⟩) (·.1)) (by omega) (by omega:lo<=o) (by omega:o<=0) (by omega)
      simp_all[Instr.sliceAt,Instr.slice,aL,dm]
    .simp only[fV,fE]at c;obtain⟨⟨t',mx⟩,hmx,rfl,rfl,rfl⟩:=c;obtain⟨f,hq,hr,ht,k,C,rfl⟩:=R
     let ⟨g',hs',E,hfl,F,hd⟩:=Ms hs O3 hq hx hfr
     obtain⟨a,cap,rfl,K,_⟩:=xO hd
     let ⟨c0,c1,c2⟩:=C
     unfold eP at c2;have d:=kX u hr hh
     let ⟨Q,n⟩:=N5 hd k ⟨c0,c1,c2⟩ mx.toNat (eR _) (by omega)
     rw[dQ hmx ht hy];obtain⟨_,h',_⟩|⟨hv,_⟩:=d
     .cases h'
     .subst hv;rw[<-Q]at n;refine⟨g',.slice (if mx.toNat=lo.toNat then a else a.map (·.add (lo.toNat *sz))) (o6 es lo mx).length (o6 es lo mx).length,?_,hs',E,.kM 0 _ _ (Ih _) n,hfl,F⟩;have B:=s8 (P:=P) (w:=w) W es.length cap ((A f).imp (λh=>⟨h.1,h.2.2⟩) (·.1)) c0 c1 (Ig _) (by omega:mx<=cap);simp only[Instr.sliceAt,Instr.slice,run_bind,aL KR,andThen_ok,dm hj,yg,B,Q];rfl
   .cases c
  .cases c
 .cases c
def Jj{E:Env}(hs:aV g s w){f:Array TypeId}{rt:TypeId}(K:∀k i,E.ti k=Z i->nr P k i)
  (h:fP E s .len f [x]=Z (p,t,s')) (A:p) (C:aH g w x vx) :
  ∃v,(Builtin.len_ f rt #[vx]).run P w=.ok v w∧aH g w t v∧s'=s:=by
 unfold fP at h;simp at h;have r:∀i,(nth f.toList 0).bind E.ti=Z i->∃ty,f[0]?=Z ty∧nr P ty i:=by
  grind[ku]
 have l:∀i q u,(nth f.toList 0).bind E.ti=Z i->(∃a b c d,i.kd=.slice a b c d)->BA s x=Z (q,u)->q->
   ∃v,(Builtin.len_ f rt #[vx]).run P w=.ok v w∧aH g w (.sym (.lit (.int .i64 (eP u)))) v:=by
  intro i q u hi o m F
  let ⟨ty,h1,h2⟩:=r i hi
  let ⟨_,d1,_,_,y,_,_,_,_,n⟩:=h2.all
  let ⟨a,b,c,d,o⟩:=o
  rw[o]at n;obtain⟨e,j,Q,z,rfl,_⟩:=n;obtain⟨a,cap,rfl,_⟩:=RU hs m F C;refine⟨_,?_,.sym _ _ (.lit _)⟩
  simp_all[Builtin.len_,aL,goInt,eP]
 split at h
 .rename_i b i I hi;split at h
  .rename_i o;obtain⟨rfl,rfl,rfl⟩:=h
   let ⟨ty,h1,h2⟩:=r i hi
   let ⟨_,d1,_,_,y,_,_,_,_,n⟩:=h2.all
   rw[o]at n;subst n;rw[iK I A C];refine⟨_,?_,.sym _ _ (.lit _),rfl⟩;simp[Builtin.len_,h1,aL y,goInt,vk]
  .rename_i a b c d o;simp only[fV,fE]at h;obtain⟨⟨B,u⟩,m,rfl,rfl,rfl⟩:=h
   let ⟨v,h1,h2⟩:=l i B u hi ⟨_,_,_,_,o⟩ m A
   simp_all
  .cases h
 .rename_i i _ hi;split at h
  .rename_i o;simp only[fV,fE]at h;obtain⟨⟨B,u⟩,m,rfl,rfl,rfl⟩:=h
   let ⟨v,h1,h2⟩:=l i B u hi ⟨_,_,_,_,o⟩ m A
   simp_all
  .cases h
 .cases h
end
end
section
section
variable {P:Program}{g:Gh}{w:World}
variable {v:Value}{fr:Fr}{a:Act}
def FD{d:D}(h:CZ v=Z d):d=.lit v:=by
 unfold CZ at h
 grind[Array.toList_eq_nil_iff]
def Ii{t:T}(h:ofConst v=Z t):aH g w t v:=by
 unfold ofConst at h;split at h
 .simp at h;subst h;exact .kb _
 .simp at h;subst h;exact .kn _ _
 .simp at h;subst h;exact .emp _
 .split at h
  .rename_i b c;simp at h;subst h;rw[adb.1 b,adb.1 c];exact .fn _ _ _ _ _ rfl rfl (λj t v h=>by simp at h) (λj t v h=>by simp at h)
  .cases h
 .simp at h;obtain⟨d,a,rfl⟩:=h;rw[FD a];exact .sym _ _ (.di _ _ _ (.lit _))
 .simp at h;obtain⟨d,a,rfl⟩:=h;rw[FD a];exact .sym _ _ (.lit _)
theorem bQ{fr:Fr}{a:Act}(hf:cQ g fr a w){x:Operand}{t:T}(h:kr fr x=Z t):aH g w t (a.eval x):=by
 cases x with
 |tmp k=>
  let ⟨v,b,c⟩:=hf.tm k t h
  simp_all[Act.eval]
 |const v=>exact Ii h|global _=>cases h
 |func f=>simp[kr,gR]at h;subst h;exact .fn _ _ _ _ _ rfl rfl (λj t v h=>by simp at h) (λj t v h=>by simp at h)
def e8{fr:Fr}{a:Act}(hf:cQ g fr a w):∀{l:L Operand}{ts:L T},yD fr l=Z ts->PW (aH g w) ts (l.map a.eval)
 |[],ts,h=>by simp only[yD,gR]at h;subst h;exact⟨rfl,λj t v h=>by simp at h⟩
 |x::l,ts,h=>by
  simp[yD]at h;split at h
  .rename_i h2;simp at h;subst h;have b:=e8 hf h2;refine⟨by simp[b.1],λj c v d e=>?_⟩;cases j with|zero=>grind[bQ]|succ j=>exact b.2 j c v (by simpa using d) (by simpa using e)
  .cases h
def pX(g:Gh)(w:World)(a:Nat×T)(b:Nat×Value):Prop:=a.1=b.1∧aH g w a.2 b.2
def pH{fr:Fr}{a:Act}(hf:cQ g fr a w):∀{l:L (Nat×Operand)}{ts:L (Nat×T)},su fr l=Z ts->PW (pX g w) ts (l.map λ(i,x)=>(i,a.eval x))
 |[],ts,h=>by simp only[su,gR]at h;subst h;exact⟨rfl,λj t v h=>by simp at h⟩
 |(k,x)::l,ts,h=>by
  simp[su]at h;split at h
  .rename_i h1 h2;simp at h;subst h;have d:=pH hf h2;refine⟨by simpa using d.1,λj e v b c=>?_⟩;cases j with|zero=>simp at b c;subst b;subst c;exact⟨rfl,bQ hf h1⟩|succ j=>exact d.2 j e v (by simpa using b) (by simpa using c)
  .cases h
def zi(hf:cQ g fr a w){x:O Operand}{t:O T}(h:Nd fr x=Z t):Rd g w t (x.map a.eval):=by cases x with|none=>simp[Nd,gR]at h;subst h;exact .no|some x=>simp[Nd,fV]at h;obtain⟨u,b,rfl⟩:=h;exact .yes _ _ (bQ hf b)
def BW(off:Nat):∀(l:L Value)(a:Nat)(cells:Array Value),off+a+l.length<=cells.size->
  (l.zipIdx a).foldl (λcs x=>cs.setIfInBounds (off+x.2) x.1) cells=(cells.toList.take (off+a)++l++cells.toList.drop (off+a+l.length)).toArray
 |[],a,cells,h=>by simp
 |c::l,a,cells,h=>by
  simp at h;simp only[List.zipIdx_cons,MX];rw[BW off l (a+1) _ (by simp;omega)]
  congr 1
  have b:off+(a+1)=off+a+1:=by omega
  have d:off+a+1+l.length=off+a+(l.length+1):=by omega
  have h1:(cells.toList.set (off+a) c).take (off+a+1)=cells.toList.take (off+a)++[c]:=by
   rw[List.take_add_one,List.take_set,Py,bB rfl,bB (by simp;omega)]
   grind[List.set_eq_of_length_le]
  simp_all[List.drop_set]
def wJ{place:Nat->O (Nat×TI)}{pl:Nat->O (Nat×Nat)}(d:∀k off i,place k=Z (off,i)->pl k=Z (off,i.size)) :
  ∀(ps:L (Nat×T))(vs:L (Nat×Value)){cells:L T}{cs:Array Value}{p:Prop}{r:L T},Gs place cells ps=Z (p,r)->p->PW (pX g w) ps vs->PW (aH g w) cells cs.toList->
   ∃o,Instr.fill pl cs vs=Z o∧PW (aH g w) r o.toList
 |[],[],cells,cs,p,r,h,q,_,m=>by obtain⟨_,rfl⟩:=h;exact⟨cs,rfl,m⟩
 |(k,t)::ps,(Q,v)::vs,cells,cs,p,r,h,q,c,m=>by
  have s:=c.2 0 _ _ rfl rfl;obtain⟨rfl,C⟩:=s;have f:PW (pX g w) ps vs:=⟨by simpa using c.1,λj a b E u=>c.2 (j+1) a b (by simpa using E) (by simpa using u)⟩;simp only[Gs]at h;split at h
  .cases h
  .rename_i off i x;split at h
   .cases h
   .rename_i l F;obtain⟨u,h⟩|⟨_,h⟩:=af h
    .simp only[fV,fE]at h;obtain⟨⟨R,S⟩,I,rfl,rfl⟩:=h;have y:=gU u;rw[bR,bR]at y
     let ⟨n,K⟩:=qm F q.1 C
     have z:v.cells.size=l.length:=by simpa using n.1.symm
     have P:cells.length=cs.size:=by simpa using m.1
     have B:off+v.cells.toList.length<=cs.size:=by
      simp_all
     have e:=BW off v.cells.toList 0 cs (by omega);simp only[Nat.add_zero]at e
     let ⟨o,h1,h2⟩:=wJ d ps vs (cs:=(cs.toList.take off++v.cells.toList++cs.toList.drop (off+v.cells.toList.length)).toArray) I q.2.2 f (by
      rw[bR];simp only[Array.length_toList,z];exact((m.take off).append n).append (m.drop _))
     refine⟨o,?_,h2⟩;have A:¬(v.cells.size≠i.size||off+v.cells.size>cs.size)=W:=by
      simp_all
     simp only[Instr.fill,d _ _ _ x];rw[bO A,<-h1,<-e]
     congr 1
     rw[<-Array.foldl_toList,Array.toList_zipIdx]
    .cases h
 |[],_::_,_,_,_,_,_,_,c,_=>by simp[PW]at c
 |_::_,[],_,_,_,_,_,_,c,_=>by simp[PW]at c
def yz{α β:Type}(f:α->Sem β)(r:α->β):∀(l:L α),(∀x∈l,(f x).run P w=.ok (r x) w)->(l.mapM f).run P w=.ok (l.map r) w
 |[],_=>rfl|x::l,h=>by
  have h2:=yz f r l (λy a=>h y (by simp[a]))
  simp_all
def Oj{ty:TypeId}{i:TI}(hi:nr P ty i){fs:L (Nat×Nat×Bool)}(s:i.kd=.struct fs){ps:L (Nat×T)}{vs:Array (Nat×Value)}(x:PW (pX g w) ps vs.toList)
  {p:Prop} {cs:L T} (h:Gs (λk=>match nth fs k with|some (off,size,ag)=>Z (off,{(default:TI)with size:=size,agg:=ag})|none=>Y) (i.zero.map qH) ps=Z (p,cs)) (R:p) :
  ∃v,(Instr.build ty vs).run P w=.ok v w∧aH g w (.agg cs) v:=by
 let ⟨xi,d1,z,y,A,_,S,B,e,l⟩:=hi.all
 rw[s]at l;obtain⟨fields,rfl,C,u⟩:=l;have m:=sY (g:=g) (w:=w) e;have E:∀f:Field,∃n:Nat,f∈fields.toList->(Go.sizeOf f.type).run P w=.ok n w:=by
  intro f;by_cases Q:f∈fields.toList
  .obtain ⟨k,s,rfl⟩:=rM Q;have F:k<fs.length:=by rw[<-C];simpa using s
   let ⟨d,j,d',h1,h2,h3,h4,_⟩:=u k (fs[k]).1 (fs[k]).2.1 (fs[k]).2.2 (jr F)
   have:d=fields.toList[k]:=by
    have b:fields.toList[k]?=Z d:=by simpa using h1
    rw[jr s]at b;exact(ke b).symm
   subst this;exact⟨j.size,λ_=>dm h3 w⟩
  .exact ⟨0,λh=>absurd h Q⟩
 let ⟨sz,c⟩:=T8 E
 have o:=yz (P:=P) (w:=w) (λf:Field=>Functor.map (Prod.mk f.offset) <| Go.sizeOf f.type) (λf=>(f.offset,sz f)) fields.toList (λf u=>by simp[c f u]);obtain⟨rs,h1,h2⟩:=wJ (g:=g) (w:=w) (pl:=λk=>((fields.toList.map λf=>(f.offset,sz f)).toArray)[k]?) (λk off ti a=>by
  simp[ku]at a;split at a
  .rename_i q size ag I;simp at a;obtain⟨rfl,rfl⟩:=a
   let ⟨d,j,d',h1,h2,h3,h4,_⟩:=u k q size ag I
   have r:d∈fields.toList:=by
    have b:fields.toList[k]?=Z d:=by simpa using h1
    exact iz b
   have K:=c d r;rw[dm h3]at K;simp at K;simp[h1,h2,<-K,h4]
  .cases a) ps vs.toList h R x ⟨by simpa using m.1,λj t v h1 h2=>m.2 j t v h1 (by simpa using h2)⟩
 refine⟨.agg rs,?_,.agg _ _ (by simpa using h2.1) (λj t v h3 h4=>h2.2 j t v h3 (by simpa using h4))⟩;simp only[Instr.build,run_bind,ey y B,aL A,andThen_ok,Array.mapM_eq_mapM_toList];simp at h1;simp[o,h1]
end
end
section
section
variable {P:Program}{g:Gh}{w:World}
variable {s:St}{I:Nat->Prop}{ag:Bool}{sz len:Nat}{d:D}{v:Value}{i:TI}{cells:Array Value}{zero:List D}
def aV.Xf(hs:aV g s w){w':World}(o:Obj)(t:w'.heap=w.heap.push o)(m:w'.os=w.os)(i:w'.output=w.output) :
  aV (g.lK (·=w.heap.size)) s w'∧Ext s.fl g w (g.lK (·=w.heap.size)) w':=by
 have d:∀b,b<w.heap.size->w'.heap[b]?=w.heap[b]?:=λb f=>by rw[t,Array.getElem?_push,bO (by omega)]
 have n:w'.heap.size=w.heap.size+1:=by rw[t];simp
 have e:∀k b,bF (g.lK (·=w.heap.size)) k b->bF g k b:=λk b h=>⟨λx=>h.1 (.inl x),h.2⟩;have p:Ext s.fl g w (g.lK (·=w.heap.size)) w':=
  ⟨λ_ _ h=>h,λ_ _ _ h=>h,λ_ h=>.inl h,by omega,λb f _=>d b f,λk b h=>.inl (e k b h),λb h=>h.imp id λh=>.inl (by omega),m,i⟩
 refine⟨⟨hs.aD,hs.ah,λk c q=>?_,λk j y z=>?_,λb f=>?_,λk u b h A=>hs.j8 k u b (e k b h) (e u b A)⟩,p⟩
 .have a:=hs.box k c q;refine a.ext p hs.bp (d c a.2.1) rfl ?_
  rintro(h|h)
  .exact a.1 h
  .have:=a.2.1;omega
 .have l:=hs.arr k j y z;have r:∀v,y.a=Z v->y.cap≠0->v.block<w.heap.size:=l.1;refine l.ext p hs.bp (λb f q=>⟨d b (r _ f q),⟨λh=>h.elim id λh=>?_,.inl⟩⟩) rfl rfl
  simp_all
 .obtain f|f:=f
  .have:=hs.bp b f;omega
  .omega
structure uZ(I:Nat->Prop)(w:World)(sz:Nat)(es:List D)(cells:Array Value):Prop where
 size:cells.size=es.length*sz
 rows:∀d∈es,d.cells.length=sz
 rel:∀i j d c,es[i]?=Z d->d.cells[j]?=Z c->∃v,cells[i*sz+j]?=Z v∧dD I w c v
def QA(h:(bif ag then d.isAgg sz else d.leaf)=W)(h1:(ag||Nq sz 1)=W)(b:dD I w d v) :
  d.cells.length=sz∧v.cells.size=sz∧∀(j:Nat)(c:D)(u:Value),d.cells[j]?=Z c->v.cells[j]?=Z u->dD I w c u:=by
 cases ag with
 |true=>
  obtain⟨i,rfl,e,_⟩:=zn h;cases b with|agg _ k a _ f=>exact⟨e,by simp[Value.cells,<-a,e],λj c u h2 h3=>f j c u h2 h3⟩
 |false=>
  simp at h h1
  let ⟨_,l⟩:=wq h b
  have g:d.cells=[d]:=by cases d<;>first|rfl|(simp[D.leaf]at h)
  grind
def Ds{s:St}(hs:aV g s w){i:TI}:∀(ps:L (Nat×T))(vs:L (Nat×Value)){es r:L D}{p:Prop}{os:L Nat},sH s i es ps=Z (p,r,os)->p->PW (pX g w) ps vs->
  ∀o∈os,Live g s o
 |[],_,es,r,p,os,h,f,_=>by obtain⟨_,rfl,rfl⟩:=h;intro o ho;cases ho
 |(k,t)::ps,(x,v)::vs,es,r,p,os,h,f,c=>by
  obtain⟨rfl,m⟩:=c.2 0 _ _ rfl rfl;have d:PW (pX g w) ps vs:=⟨by simpa using c.1,λj a b n l=>c.2 (j+1) a b (by simpa using n) (by simpa using l)⟩;simp only[sH]at h;split at h
  .cases h
  .rename_i q;obtain⟨l,h⟩|⟨_,h⟩:=af h
   .simp only[fV,fE]at h;obtain⟨⟨y,z,u⟩,e,rfl,rfl,rfl⟩:=h
    let ⟨a1,_⟩:=mu hs t q f.1 m
    have a2:=Ds hs ps vs e f.2.2 d;intro o ho;obtain ho|ho:=eZ.1 ho
    .exact a1 o ho
    .exact a2 o ho
   .cases h
 |_::_,[],_,_,_,_,_,_,c=>by simp[PW]at c
def AR{s:St}(hs:aV g s w){sz:Nat}{ag:Bool}(h1:(ag||Nq sz 1)=W){g':Gh}{s':St}(A:aV g' s' w)(he:Ext s.fl g w g' w) :
  ∀(ps:L (Nat×T))(vs:L (Nat×Value)){es r:L D}{cells:Array Value}{p:Prop}{os:L Nat},sH s {(default:TI)with size:=sz,agg:=ag} es ps=Z (p,r,os)->p->PW (pX g w) ps vs->
   jG s s' os->uZ g'.bp w sz es cells->(∀o∈os,Live g s o)∧∃I,Instr.fill (λi=>Z (i*sz,sz)) cells vs=Z I∧uZ g'.bp w sz r I∧r.length=es.length
 |[],[],es,r,cells,p,os,h,K,_,_,n=>by obtain⟨_,rfl,rfl⟩:=h;exact⟨λo z=>(by cases z),cells,rfl,n,rfl⟩
 |(k,t)::ps,(k',v)::vs,es,r,cells,p,os,h,K,f,B,n=>by
  obtain⟨rfl,hv⟩:=f.2 0 _ _ rfl rfl;simp only at hv;have q:PW (pX g w) ps vs:=⟨by simpa using f.1,λj a b ha hb=>f.2 (j+1) a b (by simpa using ha) (by simpa using hb)⟩;simp only[sH]at h;split at h
  .cases h
  .rename_i d Q R;obtain⟨hb,h⟩|⟨_,h⟩:=af h
   .simp only[fV,fE]at h;obtain⟨⟨p',r',S⟩,C,rfl,rfl,rfl⟩:=h;have E:k<es.length:=by
     simp_all[bR]
    let ⟨a1,a2⟩:=mu hs t R K.1 hv
    have z1:jG s s' Q:=B.sub (λo z=>fU _ z);have z2:jG s s' S:=B.sub (λo z=>eY _ z);have hdr:=a2 g' s' A he z1
    let ⟨c1,c2,c3⟩:=QA K.2.1 h1 hdr
    have P:k*sz+sz<=cells.size:=by
     rw[n.size];have:(k+1)*sz<=es.length*sz:=zf _ E
     grind
    have l:=BW (k*sz) v.cells.toList 0 cells (by simp_all);simp only[Nat.add_zero,Array.length_toList,c2]at l;have F:uZ g'.bp w sz (es.set k d) (cells.toList.take (k*sz)++v.cells.toList++cells.toList.drop (k*sz+sz)).toArray:=by
     refine⟨?_,λx m=>?_,λi j x c m hj=>?_⟩
     .simp only[Sl,lD,MZ,Array.length_toList,Sj,c2,Kr,<-n.size];omega
     .obtain m|rfl:=Ws m
      .exact n.rows x m
      .exact c1
     .rw[Py]at m;by_cases y:k=i
      .subst y;rw[bB rfl,bB E]at m;simp at m;subst m;have yg:j<sz:=by grind
       refine⟨v.cells[j],?_,c3 j c _ hj (uq (by omega))⟩
       grind
      .rw[bO y]at m
       let ⟨u,hu,R⟩:=n.rel i j x c m hj
       have yg:j<sz:=by rw[<-n.rows x (iz m)];grind
       refine⟨u,?_,R⟩;rw[Sr,tc,tc];obtain hik|hik:=Nat.lt_or_gt_of_ne (λe=>y e.symm:i≠k)
       .have:(i+1)*sz<=k*sz:=zf _ hik
        grind
       .have:(k+1)*sz<=i*sz:=zf _ hik
        grind
    let ⟨b1,I,b2,b3,b4⟩:=AR hs h1 A he ps vs C K.2.2 q z2 F
    refine⟨λo z=>?_,I,?_,b3,by rw[b4];simp⟩
    .grind
    .have hno:¬(v.cells.size≠sz||k*sz+v.cells.size>cells.size)=W:=by
      simp_all
     simp only[Instr.fill];rw[bO hno,<-b2,<-l]
     congr 1
     rw[<-Array.foldl_toList,Array.toList_zipIdx]
   .cases h
 |[],_::_,_,_,_,_,_,_,_,f,_,_=>by simp[PW]at f
 |_::_,[],_,_,_,_,_,_,_,f,_,_=>by simp[PW]at f
def akk(d:D):d.sM<=24*d.cells.length:=by
 have b:∀x:D,x.lby<=24:=by intro x;unfold D.lby;split<;>omega
 have c:∀l:L D,D.oY l<=24*l.length:=by
  intro l
  induction l with
  |nil=>exact Ih _|cons a l g=>
   grind[D.oY]
 cases d with
 |agg e=>exact c e|lit v=>
  unfold D.sM;have:(D.lit v).cells.length=1:=rfl;rw[this];split<;>first|omega|exact b _|simp_all
 |sl f=>exact b (.sl f)|di t d=>exact b (.di t d)|gT ds=>exact b (.gT ds)|pt d=>exact b (.pt d)|mp k v=>exact b (.mp k v)
def uZ.Vf{es:L D}(h:uZ I w sz es cells){b:Nat}{ty:TypeId}{fz:Nat×Nat}(m:w.heap[b]?=Z (.cells cells ty fz))(n:I b){cap:Nat}(a:es.length<=cap)
  (k:∀d∈es,es.length*d.sM<=281474976710656):dD I w (.sl es) (.slice (Z ⟨b,0,Y⟩) es.length cap):=by
 have l:∀q:Nat×Nat,∃v,∀d c,es[q.1]?=Z d->d.cells[q.2]?=Z c->cells[q.1*sz+q.2]?=Z v∧dD I w c v:=by
  rintro⟨i,j⟩
  by_cases o:i<es.length
  .by_cases f:j<(es[i]).cells.length
   .let ⟨v,r,s⟩:=h.rel i j _ _ (jr o) (jr f)
    refine⟨v,λd c g p=>?_⟩
    grind
   .refine ⟨undef,λd c g p=>?_⟩
    simp_all
  simp_all
 let ⟨val,e⟩:=T8 l
 refine .sl es _ cap sz (λi j=>val (i,j)) a h.rows k (λ_=>⟨_,rfl,n,λi j d c g f=>?_⟩) (λi j d c g f=>(e (i,j) d c g f).2);rw[nS,cell?_of_block m]
 simp_all
def Bv(h:agj d v):dD I w d v:=by
 obtain⟨rfl,rfl⟩|rfl:=h
 .exact .sl [] Y 0 0 (λ_ _=>undef) (by simp) (by simp) (by simp) (λh=>absurd rfl h) (λi j d c h=>by simp at h)
 .exact .lit _
theorem uZ.mono{I a:Nat->Prop}{w w':World}{sz:Nat}{es:L D}{cells:Array Value}(h:uZ I w sz es cells)(e:j6 I w w')(f:∀b,I b->a b):uZ a w' sz es cells:=
 ⟨h.size,h.rows,λi j d c g k=>let ⟨v,l,m⟩:=h.rel i j d c g k;⟨v,l,m.mono e f⟩⟩
def Mb(a:ZOk zero cells)(h1:(ag||Nq sz 1)=W)(hl:cE zero=sz) :
  uZ I w sz (List.replicate len (bif ag then .agg zero else zero.getD 0 default)) ((Array.range (len*sz)).map (cells[·%cells.size]!)):=by
 rw[bR]at hl;have b:cells.size=sz:=by rw[<-a.1,hl]
 have n:(bif ag then D.agg zero else zero.getD 0 default).cells=zero:=by
  cases ag with
  |true=>rfl|false=>
   simp at h1;have e:zero.length=1:=by rw[hl,h1]
   match zero,e with
   |[d],_=>
    have:=a.2 0 d cells[0] rfl (uq (by omega));obtain⟨h,_⟩|h:=this<;>(rw[h];rfl)
 refine⟨by simp,λd f=>?_,λi j d c p o=>?_⟩
 .rw[WT f,n,hl]
 .have g:i<len:=by grind
  have k:d=(bif ag then D.agg zero else zero.getD 0 default):=WT (iz p);rw[k,n]at o;have l:j<sz:=by grind
  have m:i*sz+j<len*sz:=by
   have:(i+1)*sz<=len*sz:=zf _ g
   grind
  refine⟨cells[j]'(by omega),?_,Bv (a.2 j c _ o (uq (by omega)))⟩;have q:(i*sz+j)%cells.size=j:=by rw[b,MU,Nat.mul_add_mod,Nat.mod_eq_of_lt l]
  simp[m,q];rw[getElem!_pos cells j (by omega)]
def Co{ty:TypeId}(hi:nr P ty i){s1:St}(hs:aV g s w){bt:Nat}(hk:i.kd=.slice sz ag bt zero)(h1:(ag||Nq sz 1)=W)(A:cE zero=sz)(h0:sz≠0)
  (hlen:len*sz<=16777216) {ps:L (Nat×T)} {vs:Array (Nat×Value)} (m:PW (pX g w) ps vs.toList) {p:Prop} {es:L D} {os:L Nat}
  (h:sH s {(default:TI)with size:=sz,agg:=ag} (List.replicate len (bif ag then .agg zero else zero.getD 0 default)) ps=Z (p,es,os)) (hp:p) (hf:freeze s os=Z s1) :
  ∃w' g' v,(Instr.buildSlice ty len vs).run P w=.ok v w'∧aV g' s1 w'∧Ext s.fl g w g' w'∧aH g' w' (.kM len es) v∧s1.fl=s.fl∧s1.aD=s.aD:=by
 let ⟨xi,d1,z,NA,n,_,hag,hzx,BT,o⟩:=hi.all
 rw[hk]at o;obtain⟨e,j,d',z',rfl,B,q,hue,hage,C,E,_,_,_⟩:=o;have r:=Ds hs ps vs.toList h hp m
 let ⟨g1,f,t,b⟩:=eG os hs hf r
 let ⟨_,rs,a,c,F⟩:=AR hs h1 f t ps vs.toList h hp m b (Mb E h1 A)
 have u:es.length=len:=by rw[F];simp
 let ⟨I,k⟩:=f.Xf (w':=w.alloc (.cells rs e)) (.cells rs e) rfl rfl rfl
 have l:=c.mono (k.keeps f.bp) k.bp;have K:=l.Vf (cap:=es.length) (xR w _) (.inr rfl) (eR _) (λd K=>by
  have h3:=akk d;rw[c.rows d K]at h3;have h4:es.length*d.sM<=len*(24*sz):=by simp_all[Nat.mul_le_mul_left]
  grind)
 refine⟨_,_,.slice (Z ⟨w.heap.size,0,Y⟩) es.length es.length,?_,I,(b.fl▸t.trans (b.fl▸k)),.kM len es _ (by omega) K,b.fl,b.aD⟩;have Q:¬(len*sz>2 ^ 24):=by omega
 by_cases R:len*sz=0
 .have y:len=0:=by
   grind[Nat.mul_eq_zero]
  subst y;simp at a;have S:(Array.range 0).map (λx=>z'.cells[x%z'.cells.size]!)=#[]:=by simp
  rw[S]at a;have he0:es.length=0:=u;have hr1:Array.range 0=#[]:=by simp
  simp[hr1,Instr.buildSlice,aL n,dm B,q,a,newRow,he0]
 .simp[Instr.buildSlice,aL n,dm B,q,ey B C,Q,R,a,newRow,u]
end
end
section
section
variable {P:Program}{g:Gh}{w:World}
structure sP(I:Nat->Prop)(w:World)(sz:Nat)(es:List D)(vals:List Value):Prop where
 len:vals.length=es.length*sz
 rows:∀d∈es,d.cells.length=sz
 rel:∀i j d c,es[i]?=Z d->d.cells[j]?=Z c->∃v,vals[i*sz+j]?=Z v∧dD I w c v
theorem KQ{i j n sz:Nat}(hi:i<n)(a:j<sz):i*sz+j<n*sz:=by
 have:(i+1)*sz<=n*sz:=zf _ hi
 grind
theorem abC{i j sz:Nat}(a:j<sz):(i*sz+j)/sz=i∧(i*sz+j)%sz=j:=by
 grind[Nat.mul_comm,Nat.mul_add_div,Nat.div_eq_of_lt,Nat.mul_add_mod,Nat.mod_eq_of_lt]
def rP(sz n:Nat)(val:Nat->Nat->Value):L Value:=(List.range (n*sz)).map λk=>val (k/sz) (k%sz)
variable {sz n:Nat}{val:Nat->Nat->Value}{v:Value}{s:St}{t:T}{p:Prop}{es:List D}{I:Nat->Prop}{vals:List Value}
def CO{i j:Nat}(hi:i<n)(a:j<sz):(rP sz n val)[i*sz+j]?=Z (val i j):=by
 grind[abC,rP,KQ]
def Ai{k:Nat}(a:0<sz)(h:(rP sz n val)[k]?=Z v):∃i j,i<n∧j<sz∧k=i*sz+j∧v=val i j:=by
 simp[rP,lC,fV]at h;obtain⟨d,b,rfl⟩:=h;obtain⟨rfl,c⟩:=zb b;refine⟨k/sz,k%sz,Sn (by grind),Nat.mod_lt _ a,?_,rfl⟩
 grind[Nat.div_add_mod]
def s5(hs:aV g s w)(h:BA s t=Z (p,es))(hp:p)(ht:aH g w t v)(h0:0<sz)(r:jI es sz) :
  ∃a cap,v=.slice a es.length cap∧es.length<=cap∧(∀d∈es,es.length*d.sM<=281474976710656)∧
   (es≠[]->∃ad val,a=Z ad∧(g.bp ad.block∨∃o,tA t=[o]∧bF g o ad.block)∧
    (∀i j,i<es.length->j<sz->w.cell? (ad.add (i*sz+j))=Z (val i j))∧sP g.bp w sz es (rP sz es.length val)):=by
 have data:∀{v:Value},dD g.bp w (.sl es) v->∃a cap,v=.slice a es.length cap∧es.length<=cap∧(∀d∈es,es.length*d.sM<=281474976710656)∧
   (es≠[]->∃ad val,a=Z ad∧(g.bp ad.block∨∃o,tA t=[o]∧bF g o ad.block)∧
    (∀i j,i<es.length->j<sz->w.cell? (ad.add (i*sz+j))=Z (val i j))∧sP g.bp w sz es (rP sz es.length val)):=by
  intro v k;obtain⟨a,cap,rfl,K,R,B⟩:=xO k;refine⟨a,cap,rfl,K,R,λx=>?_⟩;obtain⟨ad,f,rfl,y,z,val,hc,S⟩:=B x;have C:f=sz:=by obtain⟨d,ds,rfl⟩:=aaH x;rw[<-y d (by simp),r d (by simp)]
  subst C;have E:∀i j(q:i<es.length)(l:j<f),(es[i]).cells[j]?=Z ((es[i]).cells[j]'(by rw[y _ (MK q)];exact l)):=λi j q l=>jr _;refine⟨ad,val,rfl,.inl z,λi j q l=>hc i j _ _ (jr q) (E i j q l),⟨by simp[rP],y,λi j d c k l=>?_⟩⟩;have q:=cB k;have F:j<f:=by rw[<-y d (iz k)];exact cB l
  exact⟨val i j,CO q F,S i j d c k l⟩
 cases ht with
 |emp a=>obtain⟨_,rfl⟩:=h;exact⟨a,0,rfl,eR _,by simp,λh=>absurd rfl h⟩
 |kM n P a hn k=>obtain⟨_,rfl⟩:=h;exact data k
 |pU j d c a l k=>obtain⟨_,rfl⟩:=h;exact data (AW l k)
 |sym d v k=>obtain⟨rfl,rfl⟩:=h;rw[D.xK hp]at k;exact data k
 |sh o e len cap sz2 a hx=>
  have key:∃fz f,s.ob.get o=Z (gj fz f es e):=by
   simp[BA]at h;split at h
   .rename_i f P era Q;obtain⟨hb,h⟩|⟨_,h⟩:=af h
    .have I:=beq_iff'.1 hb;simp only[gR,fE]at h;exact⟨J,f,by rw[Q,h.2,I];rfl⟩
    .cases h
   .rename_i f P era Q;obtain⟨hb,h⟩|⟨_,h⟩:=af h
    .have I:=beq_iff'.1 hb;simp only[gR,fE]at h;exact⟨W,f,by rw[Q,h.2,I];rfl⟩
    .cases h
   .cases h
  let ⟨fz,f,Q⟩:=key
  let ⟨m,XN⟩:=hs.nQ Q hx
  have h1:=m.len;have h2:=m.cap;simp only at h1 h2;refine⟨a,cap,by rw[h1],by omega,m.VT,λx=>?_⟩;have hpos:0<es.length:=T7.2 x
  let ⟨b,vs,ty,hab,hfz,hh,hcs,A⟩:=m.mem (by simp only;omega)
  subst hab;have C:f=sz:=by obtain⟨d,ds,rfl⟩:=aaH x;rw[<-m.rows d (by simp),r d (by simp)]
  subst C;have hcs':cap*f<=vs.size:=hcs;have hvs:∀i j,i<es.length->j<f->i*f+j<vs.size:=λi j q l=>by have:=KQ (show i<cap by omega) l;omega
  refine⟨⟨b,0,Y⟩,λi j=>vs.getD (i*f+j) undef,rfl,?_,λi j q l=>?_,⟨by simp[rP],m.rows,λi j d c k l=>?_⟩⟩
  .by_cases z:g.bp b
   .exact .inl z
   .exact .inr ⟨o,rfl,z,.inr ⟨e,_,_,hx,rfl,rfl,by simp only;omega⟩⟩
  .rw[nS,cell?_of_block hh];have:=hvs i j q l;simp[this]
  .have q:=cB k;have F:j<f:=by rw[<-m.rows d (iz k)];exact cB l
   let ⟨u,hu,S⟩:=A i d j c k l
   refine⟨u,?_,S⟩;rw[CO q F];simp[hu]
 |_=>simp[BA]at h
def sP.one(h:sP I w sz es vals)(e:0<sz)(hf:∀d∈es,d.flat=W):∀v∈vals,v.oneCell'=W:=by
 intro v f;obtain⟨k,g,rfl⟩:=rM f;have i:k<es.length*sz:=by rw[<-h.len];exact g
 have c:k/sz<es.length:=Sn (by grind);have j:k%sz<sz:=Nat.mod_lt _ e;have a:=MK c;have b:k%sz<(es[k/sz]).cells.length:=by rw[h.rows _ a];exact j
 let ⟨u,l,m⟩:=h.rel (k/sz) (k%sz) _ _ (jr c) (jr b)
 grind[Nat.div_add_mod,D.flat,wq,List.getElem_mem]
def sP.append{es':L D}{a:L Value}(h:sP I w sz es vals)(e:sP I w sz es' a):sP I w sz (es++es') (vals++a):=by
 refine⟨by simp[h.len,e.len,Nat.add_mul],λd b=>?_,λi j d c b f=>?_⟩
 .obtain b|b:=eZ.1 b
  .exact h.rows d b
  .exact e.rows d b
 .rw[tc]at b;by_cases g:i<es.length
  .rw[bB g]at b
   let ⟨v,l,k⟩:=h.rel i j d c b f
   grind
  .rw[bO g]at b
   let ⟨v,l,k⟩:=e.rel (i-es.length) j d c b f
   refine⟨v,?_,k⟩;have m:es.length*sz<=i*sz:=zf _ (by omega);rw[tc,bO (by rw[h.len];omega),h.len]
   grind[Nat.sub_mul]
def sP.nil:sP I w sz [] []:=⟨by simp,by simp,λi j d c h=>by simp at h⟩
theorem sP.mono{I a:Nat->Prop}{w w':World}{sz:Nat}{es:L D}{vals:L Value}(h:sP I w sz es vals)(e:j6 I w w')(f:∀b,I b->a b):sP a w' sz es vals:=
 ⟨h.len,h.rows,λi j d c g k=>let ⟨v,l,m⟩:=h.rel i j d c g k;⟨v,l,m.mono e f⟩⟩
def Ac(hs:aV g s w)(h:BA s t=Z (p,es))(x:p)(y:aH g w t v)(l:0<sz)(c:jI es sz)(hf:∀d∈es,d.flat=W)
  {n z:TypeId} (o:P.underlying n=Z (.slice z)):∃b,Src P sz n v es.length b w∧sP g.bp w sz es b∧Builtin.lenOf v=Sem.pure es.length:=by
 obtain⟨a,cap,rfl,q,A,e⟩:=s5 hs h x y l c;by_cases f:es=[]
 .subst f;refine⟨[],?_,.nil,rfl⟩;cases a with|none=>exact Src.ofNil w o cap|some r=>grind[Src.ofSlice]
 .obtain ⟨r,val,rfl,_,C,m⟩:=e f;refine⟨_,Src.ofSlice w o r es.length cap _ m.len (λk u B=>?_) (m.one l hf),m,rfl⟩;obtain⟨i,j,E,F,rfl,rfl⟩:=Ai l B
  grind
def HT(P:Program)(t a rt:TypeId)(vx vy:Value)(w:World)(R:Value->World->Prop):Prop:=
 ∃v w',(Builtin.append_ #[t,a] rt #[vx,vy]).run P w=.ok v w'∧R v w'
def Ba{ty f rt e k:TypeId}{j:TypeInfo}{z:Value}(l:P.underlying ty=Z (.slice e))(m:P.underlying f=Z (.slice k))(o:P.info? e=Z j)(p:j.zero=Z z)(g:0<j.bytes)
  {base:O Addr} {len cap n:Nat} {olds a:L Value} {vy:Value} (c:(Builtin.firstCells j.size len (.slice base len cap)).run P w.drew=.ok olds.toArray w.drew)
  (hs:Src P j.size f vy n a w) (q:cap<len+n) (i:Builtin.nextslicecap (len+n) cap*j.bytes<=281474976710656) :
  HT P ty f rt (.slice base len cap) vy w λv w'=>∃b,v=.slice (Z ⟨w.heap.size,0,Y⟩) (len+n) b∧len+n<=b∧
   w'=w.drew.alloc (.cells ((olds++a).toArray++Builtin.zeroCells z.cells (b-(len+n))) e):=by
 have r:(len+n)*j.bytes<=281474976710656:=gD (zf _ (le_nextslicecap (by omega))) i;have h:((len+n:Nat):Int)<=9223372036854775807:=by have:len+n<=(len+n)*j.bytes:=Nat.le_mul_of_pos_right _ g;omega
 have d:=run_append_grow_src (P:=P) w ty f rt e j z l o p base len cap olds c vy n a hs q h i;exact⟨_,_,d,_,rfl,grownCap_ge w (len+n) cap e,rfl⟩
def Hl{ty b rt e:TypeId}{j:TypeInfo}(d:P.underlying ty=Z (.slice e))(f:P.info? e=Z j){base:O Addr}{len cap:Nat}{vy:Value}(hs:Src P j.size b vy 0 [] w)(a:len<=cap) :
  (Builtin.append_ #[ty,b] rt #[.slice base len cap,vy]).run P w=.ok (.slice base len cap) w:=by
 obtain⟨g,c⟩|c:=hs.kind<;>cases base<;>
  simp[Builtin.append_,aL d,aL c,dm f,hs.len,a,hs.cells,storeCells]
end
end
section
section
variable {P:Program}{g:Gh}{w:World}
variable {o:Obj}{w':World}{sz cap n sM bt:Nat}{es:List D}{vals:List Value}
def Ft(a:w'.heap=w.heap.push o)(b:Nat)(c:b<w.heap.size):w'.heap[b]?=w.heap[b]?:=by rw[a,Array.getElem?_push,bO (by omega)]
def M8(a:w'.heap=w.heap.push o):w'.heap[w.heap.size]?=Z o:=by rw[a];simp
def Ti{g':Gh}(a:g'.bp=g.bp)(hi:∀b,g.bp b->b<w.heap.size){m:Array Value}{e:TypeId}
  (n:w'.heap=w.heap.push (.cells (vals.toArray++m) e)) (f:sP g.bp w sz es vals) (p:0<sz) (k:m.size=(cap-es.length)*sz) (q:es.length<=cap) (r:es≠[])
  (l:∀d∈es,es.length*d.sM<=281474976710656):xz g' w' J sz es ⟨Z ⟨w.heap.size,0,Y⟩,es.length,cap,sz⟩:=by
 have s:j6 g.bp w w':=λb o=>Ft n b (hi b o);refine⟨rfl,q,f.rows,p,l,λ_=>⟨w.heap.size,_,e,rfl,⟨λh=>(by cases h),λh=>?_⟩,M8 n,?_,λi d j c t u=>?_⟩⟩
 .rw[a]at h
  grind
 .simp[Array.size_append,Sl,f.len,k];rw[<-Nat.add_mul]
  simp_all
 .let ⟨v,x,y⟩:=f.rel i j d c t u
  refine⟨v,?_,y.mono s (λb o=>by grind)⟩
  grind
def xF{len:Nat}{base:O Addr}{olds:L Value}(hl:olds.length=len*sz)(h:len≠0->∃ad,base=Z ad∧∀k u,olds[k]?=Z u->w.cell? (ad.add k)=Z u) :
  (Builtin.firstCells sz len (.slice base len cap)).run P w.drew=.ok olds.toArray w.drew:=by
 by_cases a:len=0
 .subst a;have:olds=[]:=Fm (by simpa using hl);subst this;cases base with|none=>rfl|some ad=>grind[run_firstCells_some]
 .obtain ⟨ad,rfl,b⟩:=h a
  grind[run_firstCells_some,World.cell?_drew]
theorem HT.mono{t a rt:TypeId}{vx vy:Value}{R b:Value->World->Prop}(h:HT P t a rt vx vy w R)(c:∀v w',R v w'->b v w'):HT P t a rt vx vy w b:=by
 let ⟨v,w',h1,h2⟩:=h
 exact⟨v,w',h1,c _ _ h2⟩
def sP.Vf{I:Nat->Prop}(h:sP I w sz es vals){b:Nat}{ty:TypeId}{fz:Nat×Nat}{cells:Array Value}(o:w.heap[b]?=Z (.cells cells ty fz))(p:I b)
  (f:∀(k:Nat)(v:Value),vals[k]?=Z v->cells[k]?=Z v) {cap:Nat} (a:es.length<=cap) (m:∀d∈es,es.length*d.sM<=281474976710656):dD I w (.sl es) (.slice (Z ⟨b,0,Y⟩) es.length cap):=by
 have n:∀q:Nat×Nat,∃v,∀d c,es[q.1]?=Z d->d.cells[q.2]?=Z c->cells[q.1*sz+q.2]?=Z v∧dD I w c v:=by
  rintro⟨i,j⟩
  by_cases r:i<es.length
  .by_cases g:j<(es[i]).cells.length
   .let ⟨v,t,u⟩:=h.rel i j _ _ (jr r) (jr g)
    refine⟨v,λd c l s=>?_⟩
    grind
   .refine ⟨undef,λd c l s=>?_⟩
    simp_all
  simp_all
 let ⟨val,e⟩:=T8 n
 refine .sl es _ cap sz (λi j=>val (i,j)) a h.rows m (λ_=>⟨_,rfl,p,λi j d c l g=>?_⟩) (λi j d c l g=>(e (i,j) d c l g).2);rw[nS,cell?_of_block o]
 simp_all
def Gu(hf:n<=17179869184)(a:sM<=4096)(b:cap<n):Builtin.nextslicecap n cap*sM<=281474976710656:=by have h1:=nextslicecap_le b;have:Builtin.nextslicecap n cap*sM<=(2*17179869184)*4096:=MS (by omega) a;omega
def KY(hf:n<=17179869184)(a:sM<=4096)(h:bt<=2*sM):n*bt<=281474976710656:=by have:n*bt<=17179869184*8192:=MS hf (by omega);omega
def Dz{ty tx rt e e':TypeId}{l:TypeInfo}{z:Value}(S:P.underlying ty=Z (.slice e))(hu2:P.underlying tx=Z (.slice e'))(hji:P.info? e=Z l)(hjz:l.zero=Z z)(hzs:z.cells.size=l.size)(h0:0<l.size)
  (hb0:0<l.bytes) (Qq:l.bytes<=4096) (pQ:bt<=2*l.bytes) (hI:∀b,g.bp b->b<w.heap.size) {es new:L D} {f:L Value} {x:fh} {vy:Value}
  (m:xz g w J l.size es x) (ao6:∀b,x.at b->b<w.heap.size) (Q:∀d∈iG es new,d.sM=bt) (r:jI new l.size)
  (p:Src P l.size tx vy new.length f w) (hv:sP g.bp w l.size new f) (s:D.SY es new)
  (hy:new≠[]->∃t cy,vy=.slice (Z t) new.length cy∧¬x.at t.block∧∀k,k<new.length*l.size->(w.cell? (t.add k)).isSome=W) :
  HT P ty tx rt (.slice x.a x.len x.cap) vy w λv w'=>∃x',TA g w l.size (iG es new) x v w' x':=by
 let ⟨a,len,cap,xsz⟩:=x
 have hl1:=m.len;have hl2:=m.cap;simp only at hl1 hl2;subst hl1;by_cases E:new=[]
 .subst E;have Qj:f=[]:=Fm (by simpa using hv.len);subst Qj;have abV:iG es []=es:=kj es;rw[abV];exact⟨_,_,Hl (P:=P) S hji p hl2,⟨a,es.length,cap,l.size⟩,rfl,rfl,rfl,rfl,eR _,λ_ _ _=>rfl,λb hb=>⟨ao6 b hb,.inr hb⟩,⟨m.len,m.cap,m.rows,m.pos,m.VT,m.mem⟩⟩
 .have hpos:0<new.length:=T7.2 E;obtain⟨t,cy,rfl,SN,hyc⟩:=hy E;by_cases n:es.length+new.length<=cap
  ·
   let ⟨b,C,F,I,hfz,hh,hcs,o⟩:=m.mem (by grind)
   simp only at I hcs;subst I;have adu:¬g.bp b:=λUP=>Bool.noConfusion (hfz.2 UP);have hnl:f.length=new.length*l.size:=hv.len;have hfit:es.length*l.size+f.length<=C.size:=by
    have:(es.length+new.length)*l.size<=cap*l.size:=zf _ n
    grind
   have hst:=run_storeCells_at (P:=P) b (0+es.length*l.size) F f 0 C w hh (by omega) p.one;simp only[Nat.add_zero,ya]at hst;have hrun:(Builtin.append_ #[ty,tx] rt #[.slice (Z ⟨b,0,Y⟩) es.length cap,.slice (Z t) new.length cy]).run P w=
     .ok (.slice (Z ⟨b,0,Y⟩) (es.length+new.length) cap) (w.setRow b (C.toList.take (es.length*l.size)++f++C.toList.drop (es.length*l.size+f.length)).toArray):=by
    simp[Builtin.append_,aL S,aL hu2,dm hji,p.len,n,p.cells,nS,hst]
   have hk:j6 g.bp w (w.setRow b (C.toList.take (es.length*l.size)++f++C.toList.drop (es.length*l.size+f.length)).toArray):=
    λb' y=>setRow_other w b b' _ (λe=>adu (e▸y))
   have zo:(⟨Z ⟨b,0,Y⟩,es.length,cap,xsz⟩:fh).at b:=⟨_,rfl,rfl,by grind⟩;refine⟨_,_,hrun,⟨Z ⟨b,0,Y⟩,es.length+new.length,cap,l.size⟩,rfl,rfl,rfl,rfl,by simp,λb' _ y=>setRow_other w b b' _ (λe=>y (e▸zo)),λb' y=>?_,
    ⟨by simp[iG],n,λd hd=>(by
      obtain hd|hd:=eZ.1 hd
      .exact m.rows d hd
      .exact r d hd),h0,λd hd=>(by
      rw[Q d hd];exact KY (by simpa[iG,D.SY]using s) Qq pQ),λ_=>⟨b,_,F,rfl,hfz,setRow_heap w b C _ F _ hh,(by
       grind),λi d j c hd hj=>(by
       have yg:j<l.size:=by
        have hrw:d.cells.length=l.size:=by
         obtain hd|hd:=eZ.1 (iz hd)
         .exact m.rows d hd
         .exact r d hd
        grind
       unfold iG at hd;rw[tc]at hd;by_cases hi:i<es.length
       .rw[bB hi]at hd
        let ⟨v,K,hr⟩:=o i d j c hd hj
        refine⟨v,?_,hr.mono hk (λ_ h=>h)⟩;have:=KQ hi yg
        grind
       .rw[bO hi]at hd
        let ⟨v,K,hr⟩:=hv.rel _ j d c hd hj
        refine⟨v,?_,hr.mono hk (λ_ h=>h)⟩;have hlt:=cB K;have hge:es.length*l.size<=i*l.size:=zf _ (by omega);rw[Nat.sub_mul]at K hlt;rw[Sr,tc,bB (by simp;omega),tc,bO (by simp;omega)]
        grind)⟩⟩⟩
   let ⟨ad,k1,k2,k3⟩:=y
   simp at k1;subst k1
   simp_all
  ·
   have A:∃olds,sP g.bp w l.size es olds∧(es.length≠0->∃ad,a=Z ad∧∀k u,olds[k]?=Z u->w.cell? (ad.add k)=Z u):=by
    by_cases hes:es=[]
    .subst hes;exact⟨[],.nil,λh=>absurd rfl h⟩
    .have hepos:0<es.length:=T7.2 hes
     let ⟨b,C,F,I,hfz,hh,hcs,o⟩:=m.mem (by grind)
     subst I;have hle:es.length*l.size<=C.size:=gD (zf _ hl2) hcs;refine⟨C.toList.take (es.length*l.size),⟨by simp;omega,m.rows,λi j d c hd hj=>?_⟩,λ_=>⟨_,rfl,λk u hu=>?_⟩⟩
     .let ⟨v,K,hr⟩:=o i d j c hd hj
      refine⟨v,?_,hr⟩;have yg:j<l.size:=by rw[<-m.rows d (iz hd)];grind
      simp_all[T5,KQ,cB]
     .rw[nS,cell?_of_block hh]
      grind
   let ⟨olds,hvo,A⟩:=A
   refine(Ba (P:=P) S hu2 hji hjz hb0 (olds:=olds) (xF hvo.len A) p (Nat.lt_of_not_le n) (Gu s Qq (Nat.lt_of_not_le n))).mono ?_
   rintro v w' ⟨q,rfl,hc,rfl⟩
   have ae8:(Builtin.zeroCells z.cells (q-(es.length+new.length))).size=(q-(es.length+new.length))*l.size:=by simp[Builtin.zeroCells,hzs]
   have B:(es++new).length=es.length+new.length:=lD;have R:=Ti (g:=g) (w:=w) (g':=g) rfl hI
    (w':=w.drew.alloc (.cells ((olds++f).toArray++Builtin.zeroCells z.cells (q-(es.length+new.length))) e)) rfl (hvo.append hv) h0 (by rw[B];exact ae8) (by omega)
    (λhh=>E (List.append_eq_nil_iff.1 hh).2) (λd hd=>by
     rw[Q d hd];exact KY (by simpa[D.SY]using s) Qq pQ)
   rw[B]at R;refine⟨⟨Z ⟨w.heap.size,0,Y⟩,es.length+new.length,q,l.size⟩,rfl,rfl,rfl,rfl,by simp_all,λb hb _=>Ft rfl b hb,λb hb=>?_,R⟩
   let ⟨ad,k1,k2,_⟩:=hb
   simp at k1;subst k1
   simp_all
def yO{ty tx rt:TypeId}{i j:TI}(hi:nr P ty i)(hj:nr P tx j)(hjk:∃a b c d,j.kd=.slice a b c d){s s':St}(hs:aV g s w){x y:T}{vx vy:Value}{p:Prop}{t:T}
  (h:uW i s x y=Z (p,t,s')) (Q:p) (hx:aH g w x vx) (hy:aH g w y vy) :
  HT P ty tx rt vx vy w λv w'=>∃g',aV g' s' w'∧Ext s.fl g w g' w'∧aH g' w' t v:=by
 let ⟨_,d1,_,_,R,_,_,_,_,NF⟩:=hi.all
 let ⟨_,d2,_,_,E,_,_,_,_,hk2⟩:=hj.all
 let ⟨_,_,_,_,hjk⟩:=hjk
 rw[hjk]at hk2;obtain⟨e',_,_,_,rfl,_⟩:=hk2;unfold uW at h;obtain⟨_,h⟩|⟨hnb,h⟩:=af h
 .cases h
 have hn:s.aD<bI:=by
  simp_all
 split at h
 .rename_i sz ag bt zero q new yf S;rw[yf]at NF;obtain⟨e,ji,d',z,rfl,hji,yg,_,_,hjz,BT,Qq,h0,DP,pQ,hb0,hzl⟩:=NF;have hzs:z.cells.size=sz:=by rw[<-BT.1,hzl]
  subst yg;have aa1:∀{es:L D}{vals:L Value}{cap:Nat}{v:Value}{w':World},sP g.bp w ji.size es vals->es≠[]->vG es bt->v=.slice (Z ⟨w.heap.size,0,Y⟩) es.length cap->es.length<=cap->(∀d∈es,es.length*d.sM<=281474976710656)->
    w'=w.drew.alloc (.cells (vals.toArray++Builtin.zeroCells z.cells (cap-es.length)) e)->∃g',aV g' (ew s (.arr ji.size es 0)).2 w'∧Ext s.fl g w g' w'∧aH g' w' (.sh s.aD 0) v:=by
   intro es vals cap v w' hv r l hve hc hby hw;subst hw;subst hve;have ae8:(Builtin.zeroCells z.cells (cap-es.length)).size=(cap-es.length)*ji.size:=by simp[Builtin.zeroCells,hzs]
   have hok:=Ti (g:=g) (w:=w) (g':=g.era s.aD 0 ⟨Z ⟨w.heap.size,0,Y⟩,es.length,cap,ji.size⟩) rfl hs.bp (w':=w.drew.alloc (.cells (vals.toArray++Builtin.zeroCells z.cells (cap-es.length)) e)) rfl hv h0 ae8 hc r hby
   let ⟨F,he⟩:=hs.PN hn (w':=w.drew.alloc (.cells (vals.toArray++Builtin.zeroCells z.cells (cap-es.length)) e)) rfl rfl (by simp_all) (λb hb=>Ft rfl b hb)
    (x:=⟨Z ⟨w.heap.size,0,Y⟩,es.length,cap,ji.size⟩) (λb hb=>by
     let ⟨ad,h1,h2,_⟩:=hb
     simp at h1;subst h1
     simp_all) hok rfl
   exact⟨_,F,he,.sh _ _ _ _ _ _ (Gh.fM _ _ _ _)⟩
  cases hx with
  |emp a=>
   obtain⟨rfl,rfl,rfl⟩:=h
   let ⟨hq,f,l⟩:=Q
   let ⟨C,n,hv,hlen⟩:=Ac hs S hq hy h0 f (λd B=>(l d B).2) E
   by_cases r:new=[]
   .subst r;have Qj:C=[]:=Fm (by simpa using hv.len);subst Qj
    let ⟨F,he⟩:=hs.PN hn (w':=w) (sz:=ji.size) (es:=[]) (x:=⟨a,0,0,ji.size⟩) rfl rfl (eR _) (λb hb=>rfl) (λb hb=>by
     let ⟨_,_,_,h⟩:=hb
     grind) ⟨rfl,eR _,by simp,h0,by simp,λh=>absurd rfl h⟩ rfl
    exact⟨_,_,Hl (P:=P) R hji n (eR _),_,F,he,.sh _ _ _ _ _ _ (Gh.fM _ _ _ _)⟩
   .have hpos:0<new.length:=T7.2 r
    let ⟨_,_,_,_,hby,_⟩:=s5 hs S hq hy h0 f
    have hfit:Builtin.nextslicecap (0+new.length) 0*ji.bytes<=281474976710656:=by rw[ya,nextslicecap_zero hpos];obtain⟨d,ds,rfl⟩:=aaH r;have:=hby d (by simp);rw[(l d (by simp)).1]at this;exact gD (Nat.mul_le_mul_left _ DP) this
    refine(Ba (P:=P) R E hji hjz hb0 (olds:=[]) (xF (by simp) (λh=>absurd rfl h)) n (by omega) hfit).mono ?_
    simp_all
  |kM m es a hm B=>
   have hes:jI (iG es new) ji.size->∃olds,sP g.bp w ji.size es olds∧(es.length≠0->∃ad,a=Z ad∧∀k u,olds[k]?=Z u->w.cell? (ad.add k)=Z u):=by
    intro f
    let ⟨a',K,he,_,_,SO⟩:=s5 (s:=s) (t:=.kM m es) (p:=True) (es:=es) hs rfl trivial (.kM m es a hm B) h0 (λd B=>f d (fU _ B))
    obtain⟨rfl,_,_⟩:=he;by_cases r:es=[]
    .subst r;exact⟨[],.nil,λh=>absurd rfl h⟩
    .obtain ⟨ad,val,rfl,_,hc,hv⟩:=SO r;refine⟨_,hv,λ_=>⟨ad,rfl,λk u hu=>?_⟩⟩;obtain⟨i,j,hi,hj,rfl,rfl⟩:=Ai h0 hu
     grind
   dsimp only at h;split at h
   .rename_i k es2;obtain⟨rfl,rfl,rfl⟩:=h
    let ⟨hq,f,l,A⟩:=Q
    let ⟨C,n,hv,hlen⟩:=Ac hs S hq hy h0 (λd B=>f d (eY _ B)) (λd B=>(l d (eY _ B)).2) E
    let ⟨olds,hvo,hold⟩:=hes f
    have hpos:0<new.length:=by
     cases hy with
     |kM _ _ _ hk _=>
     grind[BA]
    refine(Ba (P:=P) R E hji hjz hb0 (olds:=olds) (xF hvo.len hold) n (by omega) (Gu A Qq (by omega))).mono ?_
    rintro v w' ⟨K,rfl,hc,rfl⟩
    have I:(iG es new).length=es.length+new.length:=lD;exact aa1 (es:=iG es new) (hvo.append hv) (λhh=>by
     grind) l (by rw[I]) (by omega) (λd B=>by rw[(l d B).1,I];exact KY A Qq pQ) (by rw[I])
   .obtain ⟨rfl,rfl,rfl⟩:=h
    let ⟨hq,f,l,A⟩:=Q
    let ⟨C,n,hv,hlen⟩:=Ac hs S hq hy h0 (λd B=>f d (eY _ B)) (λd B=>(l d (eY _ B)).2) E
    let ⟨olds,hvo,hold⟩:=hes f
    by_cases r:new=[]
    .subst r;have Qj:C=[]:=Fm (by simpa using hv.len);subst Qj;refine⟨_,_,Hl (P:=P) R hji n (eR _),g,hs,Ext.refl _ _ _,.sym _ _ ?_⟩
     grind[iG]
    .have hpos:0<new.length:=T7.2 r;refine(Ba (P:=P) R E hji hjz hb0 (olds:=olds) (xF hvo.len hold) n (by omega) (Gu A Qq (by omega))).mono ?_
     rintro v w' ⟨K,rfl,hc,rfl⟩
     let ⟨F,he⟩:=hs.Xf (w':=w.drew.alloc (.cells ((olds++C).toArray++Builtin.zeroCells z.cells (K-(es.length+new.length))) e)) _ rfl rfl rfl
     refine⟨_,F,he,.sym _ _ ?_⟩;have hvv:=(hvo.append hv).mono (he.keeps hs.bp) he.bp;have:=hvv.Vf (b:=w.heap.size) (M8 (w:=w) rfl) (.inr rfl) (λk v hk=>by
      grind) (cap:=K) (by simp_all) (λd B=>by
       rw[(l d B).1,lD];exact KY A Qq pQ)
     rw[lD]at this;exact this
  |sh o e2 len cap sz2 a hxa=>
   dsimp only at h;split at h
   .rename_i ho;obtain⟨hb,h9⟩|⟨_,h9⟩:=af h
    .simp only[fF]at hb
     let ⟨⟨⟨hfl,hee⟩,hzz⟩,hno⟩:=hb
     have hfl:=gU hfl;have hee:=beq_iff'.1 hee;have hzz:=beq_iff'.1 hzz;subst hee;subst hzz;simp only[gR,fE]at h9;obtain⟨rfl,rfl,rfl⟩:=h9
     let ⟨hq,f,l,A⟩:=Q
     let ⟨hok,XN⟩:=hs.nQ (fz:=J) ho hxa
     simp only at XN;subst XN
     let ⟨C,n,hv,hlen⟩:=Ac hs S hq hy h0 f (λd B=>(l d (eY _ B)).2) E
     obtain⟨ay,cy,rfl,_,ao4,Qe⟩:=s5 hs S hq hy h0 f;have hlt:=(hs.arr o e2 _ hxa).1;refine(Dz (rt:=rt) R E hji hjz hzs h0 hb0 Qq pQ hs.bp hok (λb hb=>?_) (λd B=>(l d B).1) f n hv A (λr=>?_)).mono ?_
     .let ⟨ad,k1,k2,k3⟩:=hb
      simp_all
     .obtain ⟨ady,amz,rfl,SN,hyc,_⟩:=Qe r;refine⟨ady,cy,rfl,λzo=>?_,λk hk=>?_⟩
      .have hown:bF g o ady.block:=by
        let ⟨ad,k1,k2,k3⟩:=zo
        let ⟨b,vs,ety,hab,hfz,_⟩:=hok.mem k3
        rw[k1]at hab;cases hab;simp only at k2;exact⟨λUP=>Bool.noConfusion (hfz.2 (k2▸UP)),.inr ⟨e2,_,_,hxa,k1,k2,k3⟩⟩
       obtain UP|⟨o',ho',hO⟩:=SN
       .exact hown.1 UP
       .have:=hs.j8 o o' _ hown hO
        simp_all
      .have h1:=hyc (k/ji.size) (k%ji.size) (Sn (by grind)) (Nat.mod_lt _ h0)
       grind[Nat.div_add_mod]
     .rintro v w' ⟨x',Q⟩
      let ⟨F,he⟩:=hs.akl ho hxa hfl Q.os Q.output Q.size Q.heap Q.at_ (Q.ok.kE rfl) Q.sz
      have:=Q.val;subst this;exact⟨_,F,he,.sh _ _ _ _ x'.sz _ (Gh.fM _ _ _ _)⟩
    .cases h9
   .cases h
  |_=>simp at h
 .cases h
end
end
section
def alm(fl:Nat)(g:Gh)(w:World)(t:T)(s':St)(r:Result Next):Prop:=
 ∃v w' g',(r=.ok (.value v) w'∨(r=.ok .skip w'∧v=undef))∧aV g' s' w'∧Ext fl g w g' w'∧aH g' w' t v
section
variable {P:Program}{g:Gh}{w:World}
variable {s s':St}{t x:T}{os:List Nat}{i:TI}{l h m:Option T}{p:Prop}
def dO{v:Value}{r:Result Next}(hs:aV g s w)(a:r=.ok (.value v) w)(b:aH g w t v)(c:s'=s):alm s.fl g w t s' r:=
 ⟨v,w,g,.inl a,c▸hs,Ext.refl _ _ _,b⟩
def r5:∀{os:L Nat}{s s':St},freeze s os=Z s'->s'.lo=s.lo∧s'.fl=s.fl∧s'.aD=s.aD
 |[],s,s',h=>by simp[freeze,gR]at h;rw[h];exact⟨rfl,rfl,rfl⟩
 |o::os,s,s',h=>by obtain⟨_,⟨_,_,_,_,h⟩|⟨_,_,_,_,h⟩|⟨_,h⟩|⟨_,_,_,_,_,_,_,_,_,_,_,_,_,h⟩⟩:=wH h<;>(have:=r5 h;exact this)
def BV(h:freeze s os=Z s'):s'.lo=s.lo:=(r5 h).1
def U4(h:freeze s os=Z s'):s'.fl=s.fl:=(r5 h).2.1
def Qv(h:freeze s os=Z s'):s'.aD=s.aD:=(r5 h).2.2
def TO(a:qz i s x l h m=Z (p,t,s')):s'=s∨freeze s (tA x)=Z s':=by
 unfold qz at a
 repeat' split at a
 all_goals first
  |(cases a;done)
  |(
    simp only[fV,gR,fE]at a;first
     |(obtain⟨_,_,_,_,rfl⟩:=a;first|exact .inl rfl|(right;assumption))
     |(obtain⟨_,_,rfl⟩:=a;first|exact .inl rfl|(right;assumption)))
def TP(a:qz i s x l h m=Z (p,t,s')):s'.lo=s.lo:=by
 obtain rfl|h:=TO a
 .rfl
 .exact BV h
structure Bd(E:Env):Prop where
 ti:∀k i,E.ti k=Z i->nr E.P k i
 SV:∀f fn,E.SV f=Z fn->E.P.funcs[f]?=Z fn
def nK{E:Env}(Q:Bd E){fr:Fr}{a:Act}(hf:cQ g fr a w)(hs:aV g s w)(o:Oper)(h:oL E fr s o.op=Z (p,t,s'))(R:p) :
  alm s.fl g w t s' ((execOp a.eval o).run E.P w)∧s'.fl=s.fl∧s'.lo=s.lo∧s.aD<=s'.aD:=by
 cases A:o.op with
 |move x=>rw[A]at h;simp only[oL,fV,fE]at h;obtain⟨t',F,_,rfl,rfl⟩:=h;exact⟨dO hs (by simp[execOp,A]) (bQ hf F) rfl,rfl,rfl,eR _⟩
 |assign x=>rw[A]at h;simp only[oL,fV,fE]at h;obtain⟨t',F,_,rfl,rfl⟩:=h;exact⟨dO hs (by simp[execOp,A]) (bQ hf F) rfl,rfl,rfl,eR _⟩
 |pick c x y=>
  rw[A]at h;simp[oL]at h;split at h
  .rename_i hc hx hy;simp only[fV,fE]at h;obtain⟨⟨q,u⟩,S,rfl,rfl,rfl⟩:=h
   let ⟨b,hb,F⟩:=Nb S R (bQ hf hc) (bQ hf hx) (bQ hf hy)
   exact⟨dO hs (by simp[execOp,A,hb,asBool]) F rfl,rfl,rfl,eR _⟩
  .cases h
 |alloc ty=>
  rw[A]at h;simp[oL]at h;split at h
  .rename_i i I;obtain⟨hn,h⟩|⟨_,h⟩:=af h
   .obtain ⟨_,rfl,rfl⟩:=h;have hn':s.aD<bI:=gU hn
    let ⟨xi,d,z,NA,_,_,_,hz,BT,_⟩:=(Q.ti _ _ I).all
    let ⟨z1,z2⟩:=sY (g:=g) (w:=w) BT
    let ⟨K,he⟩:=hs.dB hn' ty z1 z2
    refine⟨⟨_,_,_,.inl ?_,K,he,.ptr s.aD 0 w.heap.size (by simp[Gh.dB])⟩,rfl,rfl,by simp[ew]⟩;simp[execOp,A,Instr.alloc,ey NA hz,newVar,newRow]
   .cases h
  .cases h
 |box ty x=>
  rw[A]at h;simp[oL]at h;split at h
  .rename_i i v I B;obtain⟨hn,h⟩|⟨_,h⟩:=af h
   .simp only[fV,fE]at h;obtain⟨⟨q,cs⟩,hc,rfl,rfl,rfl⟩:=h;have hn':s.aD<bI:=gU hn
    let ⟨h1,h2,h3,_⟩:=m6 hc R (bQ hf B)
    let ⟨K,he⟩:=hs.dB hn' ty (cs:=cs) (vs:=(a.eval x).cells) (by rw[h1,h2]) h3
    refine⟨⟨_,_,_,.inl ?_,K,he,.ptr s.aD 0 w.heap.size (by simp[Gh.dB])⟩,rfl,rfl,by simp[ew]⟩;simp[execOp,A,Instr.box,newVar,newRow]
   .cases h
  .cases h
 |build ty parts=>
  rw[A]at h;simp[oL]at h;split at h
  .rename_i i ps I hps;split at h
   .rename_i hk;simp only[fV,fE]at h;obtain⟨⟨q,cs⟩,hc,rfl,rfl,rfl⟩:=h;have pP:=pH hf hps
    let ⟨v,B,F⟩:=Oj (w:=w) (g:=g) (Q.ti _ _ I) hk (vs:=parts.map λ(i,x)=>(i,a.eval x)) (by simpa using pP) hc R
    exact⟨dO hs (by simp[execOp,A,B]) F rfl,rfl,rfl,eR _⟩
   .cases h
  .cases h
 |buildSlice ty len parts=>
  rw[A]at h;simp only[oL]at h;split at h
  .rename_i i ps I hps;split at h
   .rename_i hk;obtain⟨hb,h⟩|⟨_,h⟩:=af h
    .split at h
     .rename_i q es os hel;simp only[fV,fE]at h;obtain⟨s1,hfz,rfl,rfl,rfl⟩:=h;have pP:=pH hf hps;rw[ze]at hb
      let ⟨DP,pQ⟩:=hb
      rw[ze]at pQ
      let ⟨pQ,Qr⟩:=pQ
      rw[ze]at Qr
      let ⟨Qr,Qq⟩:=Qr
      let ⟨w',g',v,hrun,K,he,F,hfl,abK⟩:=Co (Q.ti _ _ I) hs hk DP (beq_iff'.1 pQ) (λe=>by
       rw[e]at Qr;cases Qr) (gU Qq) (vs:=parts.map λ(i,x)=>(i,a.eval x)) (by simpa using pP) hel R hfz
      exact⟨⟨v,w',g',.inl (by simp[execOp,A,hrun]),K,he,F⟩,hfl,BV hfz,by omega⟩
     .cases h
    .cases h
   .cases h
  .cases h
 |load ty x=>
  rw[A]at h;simp[oL]at h;split at h
  .rename_i i v I B;obtain⟨u,S,F,rfl⟩:=Dd (Q.ti _ _ I) hs (bQ hf B) h R;exact⟨dO hs (by simp[execOp,A,S]) F rfl,rfl,rfl,eR _⟩
  .cases h
 |store ty x y=>
  rw[A]at h;simp[oL]at h;split at h
  .rename_i i v u I B S;obtain⟨w',g',hrun,K,he,rfl⟩:=J8 (Q.ti _ _ I) hs (bQ hf B) (bQ hf S) h R;refine⟨⟨undef,w',g',.inr ⟨by simp[execOp,A,hrun],rfl⟩,K,he,.sym _ _ (.lit _)⟩,?_⟩;unfold storeT at h;split at h
   .cases h
   .split at h
    .split at h
     .obtain ⟨_,h⟩|⟨_,h⟩:=af h
      .obtain ⟨_,_,rfl⟩:=h;exact⟨rfl,rfl,eR _⟩
      .cases h
     .cases h
    .split at h
     .split at h
      .rename_i hfz;split at h
       .obtain ⟨_,h⟩|⟨_,h⟩:=af h
        .obtain ⟨_,_,rfl⟩:=h;have e1:=U4 hfz;have e2:=BV hfz;have e3:=Qv hfz;exact⟨e1,e2,MG e3.symm⟩
        .cases h
       .cases h
      .cases h
     .cases h
    .cases h
  .cases h
 |nilCheck x=>
  rw[A]at h;simp[oL]at h;have hx:=λ{t}(e:kr fr x=Z t)=>bQ hf e;split at h;all_goals try(cases h;done)
  all_goals
   rename_i hxe;have C:=hx hxe;simp only[gR,fE]at h;obtain⟨rfl,rfl,rfl⟩:=h
  .generalize B:a.eval x=v at C;cases C with|ptr _ _ b hb=>exact⟨dO hs (by simp[execOp,A,B]) (.ptr _ _ b hb) rfl,rfl,rfl,eR _⟩
  .generalize B:a.eval x=v at C;cases C with|mc _ _ ad val h1 h2 h3=>exact⟨dO hs (by simp[execOp,A,B]) (.mc _ _ ad val h1 h2 h3) rfl,rfl,rfl,eR _⟩
  .generalize B:a.eval x=v at C;cases C with|l9 _ _ _ _ _ _ _ _ h1=>exact⟨dO hs (by simp[execOp,A,B]) (.l9 _ _ _ _ _ _ _ _ h1) rfl,rfl,rfl,eR _⟩
  .generalize B:a.eval x=v at C;cases C with|di _ _ _ h1=>exact⟨dO hs (by simp[execOp,A,B]) (.di _ _ _ h1) rfl,rfl,rfl,eR _⟩
  .generalize B:a.eval x=v at C;cases C with|fn _ _ _ _ _ h1 h2 h3 h4=>exact⟨dO hs (by simp[execOp,A,B]) (.fn _ _ _ _ _ h1 h2 h3 h4) rfl,rfl,rfl,eR _⟩
  .generalize B:a.eval x=v at C;cases C with
   |sym d _ hd=>
    cases hd with|di _ _ _ h1=>exact⟨dO hs (by simp[execOp,A,B]) (.sym _ _ (.di _ _ _ h1)) rfl,rfl,rfl,eR _⟩|_=>cases R
 |binOp op ty x y yt=>
  rw[A]at h;simp[oL]at h;split at h
  .rename_i i u v I S B;simp only[fV,fE]at h;obtain⟨⟨q,d⟩,hb,rfl,rfl,rfl⟩:=h
   let ⟨r,C,F⟩:=QU (Q.ti _ _ I) hb R (bQ hf S) (bQ hf B) x y
   refine⟨dO hs ?_ F rfl,rfl,rfl,eR _⟩;simp at C;simp only[execOp,A,run_bind];rw[C];rfl
  .cases h
 |unOp op ty x=>
  rw[A]at h;simp[oL]at h;split at h
  .rename_i i u I S;simp only[fV,fE]at h;obtain⟨⟨q,d⟩,hb,rfl,rfl,rfl⟩:=h
   let ⟨r,C,F⟩:=TE (P:=E.P) hb R (bQ hf S)
   exact⟨dO hs (by simp[execOp,A,C]) F rfl,rfl,rfl,eR _⟩
  .cases h
 |convert src dst x=>
  rw[A]at h;simp[oL]at h;split at h
  .rename_i i j u I hj S;obtain⟨r,C,F,rfl⟩:=Oa (Q.ti _ _ I) (Q.ti _ _ hj) h R (bQ hf S);exact⟨dO hs (by simp[execOp,A,C]) F rfl,rfl,rfl,eR _⟩
  .cases h
 |makeInterface ty x=>
  rw[A]at h;simp[oL]at h;split at h
  .rename_i i v I B;have UN:=Q.ti _ _ I
   let ⟨xi,d,z,NA,S,_⟩:=UN.all
   split at h
   .cases h
   .rename_i hk;simp only[gR,fE]at h;obtain⟨rfl,rfl,rfl⟩:=h;refine⟨dO hs (v:=.iface ty (a.eval x)) ?_ (.di _ _ _ (bQ hf B)) rfl,rfl,rfl,eR _⟩;have hni:∀ms,d≠.interface ms:=λms e=>hk (UN.nif ms (e▸S));simp only[execOp,A,Instr.makeInterface,run_bind,aL S,andThen_ok];cases d<;>first|rfl|exact absurd rfl (hni _)
  .cases h
 |makeFunc f first cap=>
  rw[A]at h;simp[oL]at h;split at h
  .rename_i hx hy;obtain⟨rfl,rfl,rfl⟩:=h;have h1:=e8 hf hx;have h2:=e8 hf hy;refine⟨dO hs (v:=.func f (first.map a.eval) (cap.map a.eval)) (by simp[execOp,A,Instr.makeFunc]) (.fn _ _ _ _ _ (by simpa using h1.1) (by simpa using h2.1) (λj t v k1 k2=>h1.2 j t v k1 (by simpa using k2)) (λj t v k1 k2=>h2.2 j t v k1 (by simpa using k2))) rfl,rfl,rfl,eR _⟩
  .cases h
 |extract x k=>
  rw[A]at h;simp[oL]at h;split at h
  .rename_i v B;obtain⟨r,C,F,rfl⟩:=Gw (P:=E.P) h R (bQ hf B);exact⟨dO hs (by simp[execOp,A,C]) F rfl,rfl,rfl,eR _⟩
  .cases h
 |fieldAddr ty x k=>
  rw[A]at h;simp[oL]at h;split at h
  .rename_i i v I B;obtain⟨r,C,F,rfl⟩:=BZ (Q.ti _ _ I) h (bQ hf B);exact⟨dO hs (by simp[execOp,A,C]) F rfl,rfl,rfl,eR _⟩
  .cases h
 |field ty x k=>
  rw[A]at h;simp[oL]at h;split at h
  .rename_i i v I B;obtain⟨r,C,F,rfl⟩:=KX (Q.ti _ _ I) h R (bQ hf B);exact⟨dO hs (by simp[execOp,A,C]) F rfl,rfl,rfl,eR _⟩
  .cases h
 |indexAddr ty x ix=>
  rw[A]at h;simp[oL]at h;split at h
  .rename_i i v n I B hn;obtain⟨r,C,F,rfl⟩:=BS (Q.ti _ _ I) hs h R (bQ hf B) (bQ hf hn);exact⟨dO hs (by simp[execOp,A,C]) F rfl,rfl,rfl,eR _⟩
  .cases h
 |index ty x ix=>
  rw[A]at h;simp[oL]at h;split at h
  .rename_i i v n I B hn;obtain⟨r,C,F,rfl⟩:=KP (Q.ti _ _ I) h R (bQ hf B) (bQ hf hn);exact⟨dO hs (by simp[execOp,A,C]) F rfl,rfl,rfl,eR _⟩
  .cases h
 |slice ty x lo I mx=>
  rw[A]at h;simp[oL]at h;split at h
  .rename_i i v l hh m h1 h2 h3 h4 h5
   let ⟨g',r,C,K,he,F,hfl,abK⟩:=Kf (Q.ti _ _ h1) hs h R (bQ hf h2) (zi hf h3) (zi hf h4) (zi hf h5)
   exact⟨⟨r,w,g',.inl (by simp[execOp,A,C]),K,he,F⟩,hfl,TP h,by omega⟩
  .cases h
 |typeAssert x xt ty ok=>
  rw[A]at h;simp[oL]at h;split at h
  .rename_i I B;obtain⟨r,C,F,rfl⟩:=Iy (xt:=xt) (Q.ti _ _ I) h (bQ hf B);exact⟨dO hs (by simp[execOp,A,C]) F rfl,rfl,rfl,eR _⟩
  .cases h
 |_=>rw[A]at h;simp[oL]at h
end
end
section
section
variable {g g' g'':Gh}{w w' w'':World}{lo fl:Nat}
def aV.grow{s:St}(hs:aV g s w){I:Nat->Prop}(p:∀b,g.bp b->I b)(f:∀b,I b->g.bp b∨w.heap.size<=b)(q:∀b,I b->b<w'.heap.size)(i:w.heap.size<=w'.heap.size)
  (a:∀b,b<w.heap.size->w'.heap[b]?=w.heap[b]?) (r:w'.os=w.os) (m:w'.output=w.output) :
  aV {g with bp:=I} s w'∧Ext fl g w {g with bp:=I} w':=by
 have e:∀k b,bF ({g with bp:=I}:Gh) k b->bF g k b:=λk b h=>⟨λx=>h.1 (p b x),h.2⟩;have t:Ext fl g w {g with bp:=I} w':=
  ⟨λ_ _ h=>h,λ_ _ _ h=>h,p,i,λb n _=>a b n,λk b h=>.inl (e k b h),λb h=>(f b h).imp id .inl,r,m⟩
 refine⟨⟨hs.aD,hs.ah,λk c o=>?_,λk j y z=>?_,q,λk v b h A=>hs.j8 k v b (e k b h) (e v b A)⟩,t⟩
 .have d:=hs.box k c o;refine d.ext t hs.bp (a c d.2.1) rfl λu=>?_;obtain h|h:=f c u
  .exact d.1 h
  .have:=d.2.1;omega
 .have l:=hs.arr k j y z;refine l.ext t hs.bp (λb n o=>⟨a b (l.1 _ n o),⟨λh=>?_,p b⟩⟩) rfl rfl;obtain h|h:=f b h
  .exact h
  .have:=l.1 _ n o
   grind
end
def mo(P:Program)(f:FuncId):Prop:=∃fn,P.funcs[f]?=Z fn∧fn.body.isSome=W∧(fn.name== "runtime.NumGoroutine")=J
def Zm(I:Nat->Prop)(w:World)(d:D):Ending->World->Prop
 |.returned v,w'=>∃a:Nat->Prop,(∀b,I b->a b)∧(∀b,a b->I b∨w.heap.size<=b)∧(∀b,a b->b<w'.heap.size)∧w.heap.size<=w'.heap.size∧
   (∀b,b<w.heap.size->w'.heap[b]?=w.heap[b]?)∧w'.os=w.os∧w'.output=w.output∧dD a w' d v
 |.panicked _,_=>False|.outgrown,_=>False
def alf(P:Program)(f:FuncId)(c:OZ):Prop:=
 mo P f∧∀(I:Nat->Prop)(w:World)(ds:L D)(vs:Array Value),(∀b,I b->b<w.heap.size)->ds.length=vs.size->
  (∀(j:Nat)(d:D)(v:Value),ds[j]?=Z d->vs[j]?=Z v->dD I w d v)->c.pre ds->Calls P f vs w (Zm I w (c.f ds))
structure OX(E:Env):Prop extends Bd E where
 name:∀f fn,E.SV f=Z fn->(fn.name== "runtime.NumGoroutine")=J
 Iq:∀f c,E.Iq f=Z c->alf E.P f c
section
variable {g:Gh}{w:World}
end
end
section
section
variable {g:Gh}{w:World}
variable {s s':St}{t:T}{fr:Fr}{a:Act}
def Q3{i:TI}{x y:T}{p:Prop}(h:uW i s x y=Z (p,t,s')):s'.fl=s.fl∧s'.lo=s.lo∧s.aD<=s'.aD:=by
 obtain⟨_,h⟩|⟨_,h⟩:=af h
 .cases h
 .split at h
  .split at h
   .obtain ⟨_,_,rfl⟩:=h;exact⟨rfl,rfl,by simp[ew]⟩
   .split at h
    .obtain ⟨_,_,rfl⟩:=h;exact⟨rfl,rfl,by simp[ew]⟩
    simp_all
   .grind
   .cases h
  .cases h
theorem xC{P:Program}{f:FuncId}(h:mo P f)(args:Array Value):(callFunc f args).run P w=.ok (.enter f args) w:=by
 let ⟨fn,h1,h2,h3⟩:=h
 have h4:fn.body≠Y:=by
  grind
 simp_all[callFunc]
theorem Ah{P:Program}{o:Oper}{c:Call}(d:o.op=.call c){b:Operand}(e:c.callee=.value b){a:Act}{f:FuncId}{first cap:Array Value}(g:a.eval b=.func (.func f) first cap)(h:mo P f) :
  (execOp a.eval o).run P w=.ok (.enter f (first++c.args.map a.eval++cap)) w:=by
 grind[execOp,resolve,Deferred.ofValue,invoke,xC]
def U8(hf:cQ g fr a w){dst:O Nat}(f:ahN fr dst=W)(hn:fr.n<=bI){v:Value}(h:aH g w t v):cQ g (fr.jm dst t) (a.put dst v) w:=by
 cases dst with
 |none=>exact hf|some d=>
  have c:d<fr.n:=gU f;refine⟨by simp[Act.put,Fr.jm,Fr.put,hf.size],hf.df,λk i b=>?_⟩;simp[Fr.jm,Fr.put,Fr.get]at b;rw[Tr.aR _ _ _ _ (iS c hn)]at b;by_cases e:k=d
  .subst e;rw[bB rfl]at b;simp at b;subst b;exact⟨v,by simp[Act.put,hf.size,c],h⟩
  .rw[bO e]at b
   let ⟨u,j,l⟩:=hf.tm k i b
   grind[Act.put]
structure Aft(s:St)(g:Gh)(w:World)(s':St)(g':Gh)(w':World):Prop where
 rel:aV g' s' w'
 ext:Ext s.fl g w g' w'
 fl:s'.fl=s.fl
 lo:s'.lo=s.lo
 aD:s.aD<=s'.aD
theorem Aft.refl{s:St}(h:aV g s w):Aft s g w s g w:=⟨h,Ext.refl _ _ _,rfl,rfl,eR _⟩
def yL{E:Env}(l:OX E)(hf:cQ g fr a w)(hs:aV g s w){o:Oper}{c:Call}(C:o.op=.call c){b:Builtin}(hb:c.callee=.builtin b){args:L T}
  (d:yD fr c.args.toList=Z args) {p:Prop} {t:T} (h:fP E s b c.argTypes args=Z (p,t,s')) (z:p) {k:T->St->Prop} (A:k t s')
  {K:Act->World->Prop} {Q:Exit->Act->World->Prop} (B:∀t s' g' v w',k t s'->Aft s g w s' g' w'->aH g' w' t v->K (a.put o.dst v) w') :
  o.wp E.P a w K Q∨(o.asks E.P a w∧LetsOut Q):=by
 have e:=e8 hf d;cases b with
 |len=>
  left
  match args,d,e,h with
  |[x],d,e,h=>
   have F:c.args.size=1:=by have:=e.1;grind
   obtain⟨arr,j⟩:∃u,c.args=#[u]:=⟨c.args[0],by
    grind⟩
   have m:aH g w x (a.eval arr):=e.2 0 _ _ rfl (by simp[j]);obtain⟨v,hv,I,rfl⟩:=Jj (rt:=o.type) hs l.ti h z m;unfold Oper.wp;have f:(execOp a.eval o).run E.P w=.ok (.value v) w:=by
    simp_all[execOp,resolve,invoke,builtin]
   rw[f];exact B t s' g v w A (Aft.refl hs) I
  |[],_,_,h=>simp[fP]at h|_::_::_,_,_,h=>simp[fP]at h
 |append=>
  match args,d,e,h with
  |[x,y],d,e,h=>
   have F:c.args.size=2:=by have:=e.1;grind
   obtain⟨u,v,j⟩:∃u v,c.args=#[u,v]:=⟨c.args[0],c.args[1],by
    grind⟩
   have m:aH g w x (a.eval u):=e.2 0 _ _ rfl (by simp[j]);have P:aH g w y (a.eval v):=e.2 1 _ _ rfl (by simp[j]);simp[fP]at h;split at h
   .rename_i ty R S;split at h
    .rename_i hi hj;split at h
     .rename_i n;have zo:c.argTypes=#[ty,R]:=by
       grind
      have q:=yO (rt:=o.type) (l.ti _ _ hi) (l.ti _ _ hj) ⟨_,_,_,_,n⟩ hs h z m P
      let ⟨r,w',f,g',h1,h2,h3⟩:=q
      left
      unfold Oper.wp;have i:(execOp a.eval o).run E.P w=.ok (.value r) w':=by
       simp_all[execOp,resolve,invoke,builtin]
      rw[i]
      let ⟨e1,e2,e3⟩:=Q3 h
      exact B t s' g' r w' A ⟨h1,h2,e1,e2,e3⟩ h3
     .cases h
    .cases h
   .cases h
  |[],_,_,h=>simp[fP]at h|[_],_,_,h=>simp[fP]at h|_::_::_::_,_,_,h=>simp[fP]at h
 |_=>simp[fP]at h
end
end
section
section
variable {g:Gh}{w:World}
def Xu{E:Env}(j:OX E){fr:Fr}{s s':St}{a:Act}(hf:cQ g fr a w)(hs:aV g s w){o:Oper}{c:Call}(e:o.op=.call c)(k:c.callee=.builtin .len){args:L T}
  (b:yD fr c.args.toList=Z args) {p:Prop} {t:T} (h:fP E s .len c.argTypes args=Z (p,t,s')) (l:p) :
  s'=s∧∃v,(execOp a.eval o).run E.P w=.ok (.value v) w∧aH g w t v:=by
 have d:=e8 hf b
 match args,b,d,h with
 |[x],b,d,h=>
  have m:c.args.size=1:=by have:=d.1;simpa using this.symm
  obtain⟨arr,f⟩:∃u,c.args=#[u]:=⟨c.args[0],by
   apply Array.ext
   .simp[m]
   .intro i h1 h2;have:i=0:=by omega
    subst this;rfl⟩
  have n:aH g w x (a.eval arr):=d.2 0 _ _ rfl (by simp[f]);obtain⟨v,q,r,rfl⟩:=Jj (rt:=o.type) hs j.ti h l n;exact⟨rfl,v,by simp[execOp,e,resolve,k,invoke,builtin,f,q],r⟩
 |[],_,_,h=>simp[fP]at h|_::_::_,_,_,h=>simp[fP]at h
end
end
section
abbrev WR(r:O Nat):Fence:={Fence.wide with round:=r}
section
variable {P:Program}{r:Option Nat}
def gz{m a:Machine}:StepsIn (Machine.fenced P (WR r)) P m a↔Steps P m a:=stepsIn_wide
variable {n id:Nat}{f:FuncId}{args tmps:Array Value}{R:Ending->World->Prop}{next:Act->World->Prop}{Q:Exit->Act->World->Prop}{fn:Func}
def QL{w:World}:CallsIn (WR r) n P f args w R↔Calls P f args w R:=
 (callsIn_wide (n:=n):CallsIn Fence.wide n P f args w R↔_)
def MA(n:Nat):(WR r).room n:=room_wide n
def ahB{row:String}{w:World}{R:Value->World->Prop}(h:Rows P row args w R):RowsIn (WR r) n P row args w R:=
 λc cs _=>let ⟨v,a,b,d⟩:=h c cs;⟨v,a,b,gz.2 d⟩
def Zo(r:O Nat)(P:Program)(o:Oper)(a:Act)(w:World)(next:Act->World->Prop)(Q:Exit->Act->World->Prop):Prop:=
 o.uponIn (WR r) 0 P a next Q ((o.semAt r a.eval).run P w)∨(o.asks P a w∧(r≠Y->∀c,o.op≠.defer c)∧LetsOut Q)
def Zo.of_wp{o:Oper}{a:Act}{w:World}(e:r≠Y->∀c,o.op≠.defer c)(h:o.wp P a w next Q∨(o.asks P a w∧LetsOut Q)):Zo r P o a w next Q:=by
 obtain h|⟨h1,h2⟩:=h
 .left
  have b:o.semAt r a.eval=execOp a.eval o:=by cases r with|none=>rfl|some l=>grind[Oper.semAt_eq]
  rw[b];unfold Oper.wp at h;generalize(execOp a.eval o).run P w=res at h;cases res with
  |ok x g=>cases x with|enter f args=>exact⟨λh=>by simp[Fence.wide]at h,QL.2 h⟩|row row args=>exact⟨λh=>by simp[Fence.wide]at h,ahB h⟩|value v=>exact h|skip=>exact h|defer d=>exact h|_=>exact h.elim
  |halt x g=>cases x<;>exact h
 .exact .inr ⟨h1,e,h2⟩
theorem Zo.mono{o:Oper}{a:Act}{w:World}{next b:Act->World->Prop}{Q:Exit->Act->World->Prop}(hn:∀a w,next a w->b a w)(h:Zo r P o a w next Q):Zo r P o a w b Q:=by
 obtain h|h:=h
 .left
  generalize(o.semAt r a.eval).run P w=res at h;cases res with
  |ok x j=>cases x with|enter f args=>exact⟨h.1,h.2.mono λe g c=>by cases e<;>first|exact hn _ _ c|exact c⟩|row row args=>exact⟨h.1,h.2.mono λ_ _ c=>hn _ _ c⟩|round l f tmps assign i=>exact⟨h.1,h.2.mono λe g c=>by cases e<;>first|exact hn _ _ c|exact c⟩|value v=>exact hn _ _ h|skip=>exact hn _ _ h|defer d=>exact hn _ _ h|_=>exact h
  |halt x j=>cases x<;>exact h
 .exact .inr h
abbrev ac1(r:O Nat)(P:Program):=ArrivesIn (Machine.fenced P (WR r)) P
section
variable {b:Frame}{a:Act}{k:List Item}{cs:List Frame}{w:World}{ops:Array Oper}{i:Nat}{rest:List Nat}{o:Oper}
def Ug(n:b.roundOf=r)(z:r≠Y->∀c,o.op≠.defer c)(s:ops[i]?=Z o)(t:Region.wanted o (yielded ops a.tmps)=W)(u:b.kind≠.early)(h:o.asks P a w) :
  Outgrown P (lone (b.atR a (.inRegion ops (i::rest)::k)) cs w):=by
 have m:o.semAt b.roundOf a.eval=execOp a.eval o:=by rw[n];cases r with|none=>rfl|some l=>grind[Oper.semAt_eq]
 have q:=stepGR_op (P:=P) (b:=b) (k:=k) (cs:=cs) (w:=w) (rest:=rest) s t;rw[m]at q;have p:noRoomEvent∈(stepG P W {frame:=b.atR a (.inRegion ops (i::rest)::k),callers:=cs,status:=.running,dying:=Y} w).es:=by
  rw[q];have v:((b.atR a (.inRegion ops (i::rest)::k)).kind==CallKind.early)=J:=by simpa[Frame.atR]using u
  have A:noRoomEvent∈Sem.events P (execOp a.eval o) w #[]:=h.1;simp only[stepG.apply,Sem.runT_eq,ki,v,MJ,jS];rw[GStep.es_after];refine Array.mem_append.2 (.inl (seen_keeps P _ _ ?_));have x:=h.2
  grind
 refine Outgrown.now (o:={g:=0,fn:=(b.atR a (.inRegion ops (i::rest)::k)).fn,pos:=(b.atR a (.inRegion ops (i::rest)::k)).place,act:=.mark .noRoom}) ?_ rfl rfl;rw[stepT,move_lone];refine runT_lists P _ 0 {frame:=b.atR a (.inRegion ops (i::rest)::k),callers:=cs,status:=.running,dying:=Y} (by simp[lone]) _ ?_;exact mem_ofEvents (e:=noRoomEvent) (by simpa[lone]using p)
def W9(y:b.roundOf=r)(C:ops[i]?=Z o)(K:Region.wanted o (yielded ops a.tmps)=W)(h:Zo r P o a w next Q) :
  (∃a' w',next a' w'∧Steps P (lone (b.atR a (.inRegion ops (i::rest)::k)) cs w) (lone (b.atR a' (.inRegion ops rest::k)) cs w'))∨
  ∃e a' w',Q e a' w'∧ac1 r P (lone (b.atR a (.inRegion ops (i::rest)::k)) cs w) b k cs e a' w':=by
 obtain h|⟨h1,h2,s,t,u⟩:=h
 rotate_left
 .by_cases R:b.kind=.early
  .exact .inr ⟨.outgrown,s,t,u,.inl R⟩
  .exact .inr ⟨.outgrown,s,t,u,.inr (Ug y h2 C K R h1)⟩
 have S:=stepGR_op (P:=P) (b:=b) (k:=k) (cs:=cs) (w:=w) (rest:=rest) C K;rw[y]at S;have q:∀v,(b.atR a (.inRegion ops (i::rest)::k)).finish v=b.atR (a.put o.dst v) (.inRegion ops rest::k):=λv=>by rw[Frame.finish_atR,C];rfl
 generalize z:(o.semAt r a.eval).run P w=res at h;have enter:∀{fr:Frame}{w1:World},(stepG P W {frame:=b.atR a (.inRegion ops (i::rest)::k),callers:=cs,status:=.running,dying:=Y} w).bare=.go {frame:=fr,callers:=b.atR a (.inRegion ops (i::rest)::k)::cs,status:=.running,dying:=Y} w1->
   step P (lone (b.atR a (.inRegion ops (i::rest)::k)) cs w)=.next (lone fr (b.atR a (.inRegion ops (i::rest)::k)::cs) w1):=λh=>step_lone_go h
 cases res with
 |ok x w1=>cases x with
  |value v=>exact .inl ⟨_,_,h,.one (step_lone_go (by simp_all[stepG.apply]))⟩
  |skip=>exact .inl ⟨_,_,h,.one (step_lone_go (by simp_all[stepG.apply]))⟩
  |defer d=>have A:=Frame.finish_atR b {a with defers:=d::a.defers} ops i rest k undef;rw[C]at A;refine .inl ⟨_,_,h,.one (step_lone_go ?_)⟩;rw[S];simp only[stepG.apply,Sem.runT_eq,z,GStep.bare_after];exact cU (λfr=>GStep.go {frame:=fr,callers:=cs,status:=.running,dying:=Y} w1) A
  |enter f args=>
   obtain⟨e,F,fr,n,c,_,p⟩:=QL.1 h.2 (b.atR a (.inRegion ops (i::rest)::k)::cs);have h1:=enter (fr:=Frame.enter P f args .normal) (w1:=w1) (by simp_all[stepG.apply,Frame.atR]);cases e with|returned v=>exact .inl ⟨_,_,n,.head h1 (c.trans (.one (by grind[step_leave_returned])))⟩|panicked I=>exact .inr ⟨.panic I,a,F,n,.inRegion ops (i::rest)::k,gz.2 (.head h1 (c.trans (.one (by rw[<-Frame.raise_atR];exact step_leave_panicked p))))⟩|outgrown=>obtain⟨s,t,u⟩:=n;exact .inr ⟨.outgrown,s,t,u,.inr (Outgrown.of_steps (.one h1) c)⟩
  |row row args=>obtain⟨v,F,n,c⟩:=h.2 (b.atR a (.inRegion ops (i::rest)::k)) cs (MA _);have h1:=enter (fr:=Frame.ofRow P row args .normal) (w1:=w1) (by simp_all[stepG.apply,Frame.atR]);exact .inl ⟨_,_,n,.head h1 (by rw[<-q];exact gz.1 c)⟩
  |round l f tmps assign B=>
   obtain⟨e,F,n,c⟩:=h.2.2 (b.atR a (.inRegion ops (i::rest)::k)) cs (MA _);have h1:=enter (fr:=Frame.round l f tmps assign B .normal) (w1:=w1) (by simp_all[stepG.apply,Frame.atR]);cases e with|returned v=>exact .inl ⟨_,_,n,.head h1 (by rw[<-q];exact gz.1 c)⟩|panicked I=>exact .inr ⟨.panic I,a,F,n,.inRegion ops (i::rest)::k,gz.2 (.head h1 (by rw[<-Frame.raise_atR];exact gz.1 c))⟩|outgrown=>obtain⟨s,t,u⟩:=n;exact .inr ⟨.outgrown,s,t,u,.inr (Outgrown.of_steps (.one h1) c)⟩
  |_=>exact h.elim
 |halt x w1=>cases x with
  |panic v=>
   refine .inr ⟨_,a,w1,h,.inRegion ops (i::rest)::k,gz.2 (.one (step_lone_go ?_))⟩
   simp_all[Frame.raise_atR,stepG.apply]
  |_=>exact h.elim
end
def xe(r:O Nat)(P:Program)(ops:Array Oper)(Q:Exit->Act->World->Prop):L Nat->Act->World->Prop
 |[],a,w=>Q .normal a w|i::rest,a,w=>match ops[i]? with
  |none=>xe r P ops Q rest a w|some o=>if Region.wanted o (yielded ops a.tmps)then Zo r P o a w (xe r P ops Q rest) Q else xe r P ops Q rest (a.put o.dst undef) w
def nJ{ops:Array Oper}{Q:Exit->Act->World->Prop}:∀(l:L Nat)(a:Act)(w:World),xe r P ops Q l a w->∀(b:Frame)(k:L Item)(cs:L Frame),b.roundOf=r->
  ∃e a' w',Q e a' w'∧ac1 r P (lone (b.atR a (.inRegion ops l::k)) cs w) b k cs e a' w'
 |[],a,w,h,b,k,cs,_=>⟨.normal,a,w,h,gz.2 (.one stepR_region_end)⟩|i::rest,a,w,h,b,k,cs,d=>by
  simp only[xe]at h;cases g:ops[i]? with
  |none=>simp only[g]at h;obtain⟨e,a',w',j,c⟩:=nJ rest a w h b k cs d;have f:=stepR_op_skip (P:=P) (b:=b) (a:=a) (k:=k) (cs:=cs) (w:=w) (ops:=ops) (i:=i) (rest:=rest) (by simp[g]);simp only[g,Option.bind_none,Act.put]at f;exact⟨e,a',w',j,.of_steps (gz.2 (.one f)) c⟩
  |some o=>
   simp only[g]at h;by_cases m:Region.wanted o (yielded ops a.tmps)=W
   .simp only[m,ki]at h;obtain⟨a1,n,p,f⟩|q:=W9 (k:=k) (cs:=cs) (rest:=rest) d g m h
    .obtain ⟨e,a',w',j,c⟩:=nJ rest a1 n p b k cs d;exact⟨e,a',w',j,.of_steps (gz.2 f) c⟩
    .exact q
   .simp only[m,jS,MJ]at h;obtain⟨e,a',w',j,c⟩:=nJ rest _ w h b k cs d;have f:=stepR_op_skip (P:=P) (b:=b) (a:=a) (k:=k) (cs:=cs) (w:=w) (ops:=ops) (i:=i) (rest:=rest) (by simp_all);simp only[g,Si]at f;exact⟨e,a',w',j,.of_steps (gz.2 (.one f)) c⟩
def Wk{ops:Array Oper}{a:Act}{w:World}(h:xe r P ops Q (List.range ops.size) a w):(Code.region id ops J).wpIn (WR r) 0 P Q a w:=
 λb k cs d _ _=>let ⟨e,f,g,i,c⟩:=nJ _ a w h b k cs d;⟨e,f,g,i,.of_steps (gz.2 (.one stepR_region)) c⟩
def Cs(r:O Nat)(P:Program)(ops:Array Oper)(Q:Exit->Act->World->Prop)(i:Nat)(K:Act->World->Prop)(a:Act)(w:World):Prop:=
 match ops[i]? with
 |none=>K a w|some o=>if Region.wanted o (yielded ops a.tmps)then Zo r P o a w K Q else K (a.put o.dst undef) w
theorem Cs.mono{ops:Array Oper}{Q:Exit->Act->World->Prop}{i:Nat}{a:Act}{w:World}{K c:Act->World->Prop}(h:∀a w,K a w->c a w)(b:Cs r P ops Q i K a w):Cs r P ops Q i c a w:=by
 unfold Cs at *
 split
 .simp_all
 .rename_i d;simp only[d]at b;split
  .rename_i e;simp only[e,ki]at b;exact b.mono h
  simp_all
def ac2(r:O Nat)(P:Program)(ops:Array Oper)(Q:Exit->Act->World->Prop):Nat->Array Bool->Act->World->Prop
 |0,b,a,w=>Region.ready .any ops b=[]∧Q .normal a w|fuel+1,b,a,w=>(Region.ready .any ops b=[]->Q .normal a w)∧
  ∀i∈Region.ready .any ops b,Cs r P ops Q i (ac2 r P ops Q fuel (b.setIfInBounds i W)) a w
def Ui{ops:Array Oper}(i:Nat)(rest:L Nat)(a:Act)(w:World):xe r P ops Q (i::rest) a w=Cs r P ops Q i (xe r P ops Q rest) a w:=by cases h:ops[i]?<;>simp[xe,Cs,h]
def Ho{ops:Array Oper}{Q:Exit->Act->World->Prop}:∀(fuel t:Nat)(b:Array Bool)(a:Act)(w:World),ac2 r P ops Q fuel b a w->xe r P ops Q (Region.linearise.go .any ops fuel t b []) a w
 |0,t,b,a,w,h=>by simpa[Region.linearise.go,xe]using h.2
 |fuel+1,t,b,a,w,h=>by
  obtain⟨e,f⟩:=h;simp only[Region.linearise.go];change xe r P ops Q (match(Region.ready .any ops b)[t%(Region.ready .any ops b).length]? with
   |some i=>Region.linearise.go .any ops fuel (t/(Region.ready .any ops b).length) (b.setIfInBounds i W) [i]|none=>[].reverse) a w
  generalize Region.ready .any ops b=l at *
  cases l with|nil=>simpa[xe]using e rfl|cons x d=>have c:t%(x::d).length<(x::d).length:=Nat.mod_lt _ (by simp);rw[jr c];dsimp only;rw[linearise_go_acc,List.reverse_singleton,Ku,Ui];exact(f _ (MK c)).mono λa w=>Ho fuel _ _ a w
def MD{ops:Array Oper}{a:Act}{w:World}(f:P.follows .mixedOrders=W)
  (h:ac2 r P ops Q ops.size (Array.replicate ops.size J) a {w with drawn:=w.drawn+1}):(Code.region id ops W).wpIn (WR r) 0 P Q a w:=by
 intro b k cs d _ _;have h2:∀t,xe r P ops Q (Region.schedule (P.follows .mixedOrders) ops t) a {w with drawn:=w.drawn+1}:=λt=>by simp only[Region.schedule,f,Bool.true_or,ki];exact Ho ops.size t _ a _ h
 obtain⟨e,g,i,j,c⟩:=nJ _ a _ (h2 _) b k cs d;exact⟨e,g,i,j,.of_steps (gz.2 (.one stepR_region_draw)) c⟩
def ado:Exit->O (O Code)
 |.normal=>Z Y|.ret=>Z (Z .ret)|.exit i=>Z (Z (.exit i))|_=>Y
def Wi(P:Program)(l:Nat)(R:Ending->World->Prop)(e:Exit)(_:Act)(w:World):Prop:=
 (e=.outgrown∧R .outgrown w)∨∃j,ado e=Z j∧∃v w',(Instr.endRound l j).run P w=.ok v w'∧R (.returned v) w'
def aes{l:Nat}{assign d:Code}{w:World}
  (h:assign.wpIn (WR (Z l)) 0 P (Exit.then (λt z=>∃u,(Instr.beginRound l).run P z=.ok () u∧d.wpIn (WR (Z l)) 0 P (Wi P l R) t u) (λe _ w=>e=.outgrown∧R .outgrown w)) {tmps:=tmps,defers:=[]} w) {n:Nat} :
  RoundIn (WR r) n P l f tmps assign d w R:=by
 refine⟨trivial,λc cs _=>?_⟩
 let b:Frame:={(default:Frame)with fn:=f,kind:=.normal,roundOf:=Z l}
 have A:Frame.round l f tmps assign d .normal=b.atR {tmps:=tmps,defers:=[]} [.code assign,.beginRound,.code d]:=by rfl
 obtain⟨e,t,z,F,g⟩:=h b [.beginRound,.code d] (c::cs) rfl trivial (MA _);rw[<-A]at g;have out:∀{e:Exit}{a:Act}{m:World},(e=.outgrown∧R .outgrown m)->ac1 (Z l) P (lone (Frame.round l f tmps assign d .normal) (c::cs) w) b [.beginRound,.code d] (c::cs) e a m->
   ∃e m,R e m∧ComesIn (Machine.fenced P (WR r)) P (lone (Frame.round l f tmps assign d .normal) (c::cs) w) (match e with|.returned v=>lone (c.finish v) cs m|.panicked chain=>lone (c.raise chain) cs m|.outgrown=>lone c cs m) e:=by
  rintro e a m ⟨rfl,s⟩ g
  exact⟨.outgrown,m,s,g.resolve_left (by simp[b])⟩
 cases e with
 |normal=>
  obtain⟨u,B,o⟩:=F;have x:Steps P (lone (b.atR t [.beginRound,.code d]) (c::cs) z) (lone (b.atR t [.code d]) (c::cs) u):=.one (stepR_beginRound rfl B);obtain⟨I,a₂,K,p,i⟩:=o b [] (c::cs) rfl trivial (MA _);obtain⟨rfl,p⟩|⟨j,y,v,C,k,s⟩:=p
  .exact ⟨.outgrown,K,p,Outgrown.of_steps ((gz.1 g).trans x) (i.resolve_left (by simp[b]))⟩
  cases I with
  |normal=>cases y;exact⟨.returned v,C,s,gz.2 ((gz.1 g).trans (x.trans ((gz.1 i).trans (.one (stepR_round_end rfl rfl k)))))⟩
  |ret=>cases y;obtain⟨Q,E⟩:=i.2 rfl;exact⟨.returned v,C,s,gz.2 ((gz.1 g).trans (x.trans ((gz.1 E).trans (.one (stepR_round_ret rfl rfl k)))))⟩
  |exit id=>cases y;obtain⟨Q,S,E⟩:=i.2 rfl rfl;exact⟨.returned v,C,s,gz.2 ((gz.1 g).trans (x.trans ((gz.1 E).trans (.one (stepR_round_exit rfl rfl S k)))))⟩
  |_=>cases y
 |_=>exact out F g
def m9(P:Program)(fn:Func)(tmps:Array Value)(R:Ending->World->Prop):L Deferred->FrameMode->World->Prop
 |[],.returning,w=>∃v,(results fn tmps).run P w=.ok v w∧R (.returned v) w|[],.panicking chain,w=>R (.panicked chain) w|[],.run,_=>False|d::ds,u,w=>u≠.run∧((∃b a,d.target=.collected b∧(Instr.takeDeferred b).run P w=.ok [] a∧m9 P fn tmps R ds u a)∨
   ∃e cap f args,d.target=.fn e cap∧(invoke d.target d.args).run P w=.ok (.enter f args) w∧CallsD P f args u w λ
    |.returned _,c,a=>m9 P fn tmps R ds (settle c) a|.panicked chain,c,a=>m9 P fn tmps R ds (raised c chain) a|.outgrown,_,a=>R .outgrown a)
def sA:∀(ds:L Deferred)(u:FrameMode)(w:World)(fr:Frame)(cs:L Frame),fr.mode=u->fr.defers=ds->fr.tmps=tmps->P.funcs[fr.fn]?=Z fn->fr.kind=.normal->m9 P fn tmps R ds u w->
  ∃e w' fr',R e w'∧Comes P (lone fr cs w) (lone fr' cs w') e∧fr'.fn=fr.fn∧fr'.leaving P w' e:=by
 intro ds
 induction ds with
 |nil=>
  intro u w fr cs l x y t z h;cases u with
  |run=>exact h.elim|returning=>obtain⟨v,Q,m⟩:=h;exact⟨.returned v,w,fr,m,Steps.refl P _,rfl,l,x,z,fn,t,y▸Q⟩
  |panicking chain=>exact⟨.panicked chain,w,fr,h,Steps.refl P _,rfl,l,x,fn,t⟩
 |cons d ds F=>
  intro u w fr cs l x y t z h;obtain⟨j,h⟩:=h;obtain⟨b,w',g,n,o⟩|⟨fv,cap,f,args,g,A,p⟩:=h
  .have h1:=step_collected (cs:=cs) (l▸j) x g n;obtain⟨B,C,fr',m,S,I,hl⟩:=F u w' {fr with defers:=[]++ds} cs l rfl y t z o;exact⟨B,C,fr',m,Comes.of_steps (.one h1) S,I,hl⟩
  .have h1:=step_defer (cs:=cs) (l▸j) x g A;obtain⟨e,k,w',frX,m,a,K,E⟩:=p {fr with defers:=ds} cs l;cases e with
   |returned v=>have h2:=step_going_returned (c:={{fr with defers:=ds}with mode:=k}) (cs:=cs) K E;obtain⟨B,C,fr',q,r,i,s⟩:=F (settle k) w' {{{fr with defers:=ds}with mode:=k}with mode:=settle k} cs rfl rfl y t z m;exact⟨B,C,fr',q,Comes.of_steps (.head h1 (Steps.trans a (.one h2))) r,i,s⟩
   |panicked chain=>have h2:=step_going_panicked (c:={{fr with defers:=ds}with mode:=k}) (cs:=cs) E;obtain⟨B,C,fr',q,r,i,s⟩:=F (raised k chain) w' {{{fr with defers:=ds}with mode:=k}with mode:=raised k chain} cs rfl rfl y t z m;exact⟨B,C,fr',q,Comes.of_steps (.head h1 (Steps.trans a (.one h2))) r,i,s⟩
   |outgrown=>exact⟨.outgrown,w',fr,m,Outgrown.of_steps (.one h1) a,rfl,trivial⟩
def adJ(P:Program)(fn:Func)(R:Ending->World->Prop):Exit->Act->World->Prop
 |.normal,a,w|.ret,a,w=>m9 P fn a.tmps R a.defers .returning w|.panic chain,a,w=>m9 P fn a.tmps R a.defers (.panicking chain) w|.outgrown,_,w=>R .outgrown w|_,_,_=>False
def sL{c:Code}{w:World}(hf:P.funcs[f]?=Z fn)(v:fn.body=Z c)
  (h:c.wpIn (WR Y) 0 P (adJ P fn R) {tmps:=args++Array.replicate (fn.ntmps-args.size) undef,defers:=[]} w):Calls P f args w R:=by
 intro cs
 let b:Frame:={(default:Frame)with fn:=f,kind:=.normal}
 have j:Frame.enter P f args .normal=b.at {tmps:=args++Array.replicate (fn.ntmps-args.size) undef,defers:=[]} [.code c]:=by simp[Frame.enter,Frame.at,hf,v,b]
 obtain⟨e,n,u,o,a⟩:=wpIn_wide.1 h b [] cs;rw[<-j]at a;cases e with
 |normal=>obtain⟨p,q,d,r,s,g,t⟩:=sA n.defers .returning u {b.at n []with mode:=.returning} cs rfl rfl rfl hf rfl o;exact⟨p,q,d,r,Comes.of_steps (Steps.trans a (.one step_end)) s,g,t⟩
 |ret=>obtain⟨i,m⟩:=a;obtain⟨p,q,d,r,s,g,t⟩:=sA n.defers .returning u {b.at n i with mode:=.returning} cs rfl rfl rfl hf rfl o;exact⟨p,q,d,r,Comes.of_steps m s,g,t⟩
 |panic chain=>obtain⟨i,m⟩:=a;obtain⟨p,q,d,r,s,g,t⟩:=sA n.defers (.panicking chain) u {b.at n i with mode:=.panicking chain} cs rfl rfl rfl hf rfl o;exact⟨p,q,d,r,Comes.of_steps m s,g,t⟩
 |exit id=>exact o.elim|goto l=>exact o.elim|outgrown=>exact⟨.outgrown,u,b,o,a.resolve_left (by simp[b]),rfl,trivial⟩
end
end
section
section
variable {g:Gh}{w:World}
variable {s:St}{E:Env}{fr:Fr}{a:Act}
def PV{i:TI}{x:T}{vx:Value}{r:Prop×T×St}(h:loadT i s x=Z r)(a:aH g w x vx):∃ad,vx=.pointer (Z ad):=by cases a with|ptr o off b c=>grind|mc=>grind|l9=>grind|_=>simp[loadT]at h
def aaF(tmps:Array Value):ResultVar->Sem Value
 |.tmp t=>pure (tmps.getD t undef)|.cell a t=>do loadVar t (<-asAddr (tmps.getD a undef))
def qD{E:Env}(c:Bd E){fr:Fr}{s:St}{a:Act}(hf:cQ g fr a w)(hs:aV g s w):∀{l:L ResultVar}{p:Prop}{ts:L T},mS E s fr l=Z (p,ts)->p->
  ∃vs,(l.mapM (aaF a.tmps)).run E.P w=.ok vs w∧PW (aH g w) ts vs
 |[],p,ts,h,b=>by obtain⟨_,rfl⟩:=h;exact⟨[],rfl,rfl,λj t v h=>by simp at h⟩
 |.tmp t::l,p,ts,h,b=>by
  simp[mS]at h;split at h
  .rename_i x q r d e;obtain⟨rfl,rfl⟩:=h
   let ⟨vs,h1,h2⟩:=qD c hf hs e b
   let ⟨v,y,f⟩:=hf.tm t x d
   refine⟨v::vs,?_,by simp[h2.1],λj i k m n=>?_⟩
   .simp_all[aaF]
   .cases j with|zero=>simp_all|succ j=>exact h2.2 j i k (by simpa using m) (by simpa using n)
  .cases h
 |.cell z t::l,p,ts,h,b=>by
  simp[mS]at h;split at h
  .rename_i x A d;split at h
   .rename_i o e;obtain⟨rfl,rfl⟩:=h
    let ⟨vs,h1,h2⟩:=qD c hf hs e b.2
    let ⟨v,y,f⟩:=hf.tm z x d
    let ⟨u,I,B,_⟩:=Dd (c.ti _ _ A) hs f o b.1
    obtain⟨C,rfl⟩:=PV o f;have F:(loadVar t C).run E.P w=.ok u w:=by grind[Instr.loadAt,Instr.sureAddr]
    refine⟨u::vs,?_,by simp[h2.1],λj i k m n=>?_⟩
    .simp_all[aaF,asAddr]
    .cases j with|zero=>simp_all|succ j=>exact h2.2 j i k (by simpa using m) (by simpa using n)
   .cases h
  .cases h
def Mx(c:Bd E)(hf:cQ g fr a w)(hs:aV g s w){fn:Func}{p:Prop}{ts:L T}(h:mS E s fr fn.results.toList=Z (p,ts))(d:p) :
  ∃v,(results fn a.tmps).run E.P w=.ok v w∧aH g w (aek ts) v:=by
 let ⟨b,h1,h2⟩:=qD c hf hs h d
 refine⟨if h:b.toArray.size=1 then b.toArray[0]else .tuple b.toArray,?_,?_⟩
 .have e:results fn a.tmps=(do
    let b <-fn.results.mapM (aaF a.tmps)
    pure (if h:b.size=1 then b[0]else .tuple b)):=by
   rfl
  simp_all[Array.mapM_eq_mapM_toList]
 .match ts,b,h2 with
  |[],[],_=>exact .gT _ _ rfl (λj t v h=>by simp at h)
  |[t],[v],h2=>exact h2.2 0 t v rfl rfl|t::f::ts,v::i::b,h2=>simp only[aek,Sl,lQ];exact .gT _ _ (by simpa using h2.1) (λj t v h3 h4=>h2.2 j t v h3 (by simpa using h4))
  |[],_::_,h2=>exact absurd h2.1 (by simp)
  |_::_,[],h2=>exact absurd h2.1 (by simp)
  |[_],_::_::_,h2=>exact absurd h2.1 (by simp)
  |_::_::_,[_],h2=>exact absurd h2.1 (by simp)
def Gd:∀(l:L T)(k:Nat)(t:Tr T),k+l.length<=bI->∀j,(BQ l k t).get j=if k<=j∧j<k+l.length then l[j-k]? else t.get j
 |[],k,t,_,j=>by
  have:¬(k<=j∧j<k+([]:L T).length):=by simp
  rw[bO this];rfl
 |a::l,k,t,h,j=>by
  simp at h;simp only[BQ];rw[Gd l (k+1) _ (by omega),Tr.aR _ _ _ _ (by omega)]
  grind
end
end
section
inductive Ty where
 |int (k:IntKind)|bool|str|sl (e:Ty)|st (n:Nat)|di (n:Nat)|opt (n:Nat)|mp (k v:Ty)
 deriving Inhabited
def sk:Ty->Ty->Bool
 |.int j,.int k=>oP j k|.bool,.bool=>W|.str,.str=>W|.sl a,.sl b=>sk a b|.st m,.st n=>Nq m n|.di m,.di n=>Nq m n|.opt m,.opt n=>Nq m n|.mp a b,.mp c d=>sk a c&&sk b d|_,_=>J
theorem jX{a:Ty}:∀{b:Ty},sk a b=W->a=b:=by
 induction a with
 |int j=>
  intro b h;cases b with
  |int k=>
   have:j=k:=by cases j<;>cases k<;>first|rfl|cases h
   rw[this]
  |_=>cases h
 |bool=>intro b h;cases b<;>first|rfl|cases h
 |str=>intro b h;cases b<;>first|rfl|cases h
 |sl e g=>
  intro b h;cases b with|sl f=>rw[g h]|_=>cases h
 |st m=>
  intro b h;cases b with|st n=>rw[vM h]|_=>cases h
 |di m=>
  intro b h;cases b with|di n=>rw[vM h]|_=>cases h
 |opt m=>
  intro b h;cases b with|opt n=>rw[vM h]|_=>cases h
 |mp k v g i=>
  intro b h;cases b with|mp c d=>have h:=ze.1 h;rw[g h.1,i h.2]|_=>cases h
@[reducible] def den(A:Nat->Type):Ty->Type
 |.int _=>Int|.bool=>Bool|.str=>L UInt8|.sl e=>L (den A e)|.st n=>A n|.di n=>A n|.opt n=>O (A n)|.mp k v=>L (den A k×den A v)
@[reducible] def l7(A:Nat->Type):L Ty->Type
 |[]=>U|t::l=>den A t×l7 A l
@[reducible] def ye(A:Nat->Type):L (TypeId×Ty)->Type
 |[]=>U|p::l=>Sum (den A p.2) (ye A l)
def ny:L (TypeId×Ty)->Nat->Ty
 |[],_=>.bool|p::_,0=>p.2|_::l,i+1=>ny l i
def xb:L (TypeId×Ty)->TypeId->O Nat
 |[],_=>Y|p::l,t=>bif Nq p.1 t then Z 0 else match xb l t with
  |some i=>Z (Ns i)|none=>Y
def XI{A:Nat->Type}:(l:L (TypeId×Ty))->(i:Nat)->den A (ny l i)->ye A l
 |[],_,_=>()|_::_,0,x=>.inl x|_::l,i+1,x=>.inr (XI l i x)
def Xe{A:Nat->Type}:(l:L (TypeId×Ty))->ye A l
 |[]=>()|_::l=>.inr (Xe l)
def isNil{A:Nat->Type}:(l:L (TypeId×Ty))->ye A l->Bool
 |[],_=>W|_::_,.inl _=>J|_::l,.inr y=>isNil l y
def mG{A:Nat->Type}:(l:L (TypeId×Ty))->Nat->ye A l->Bool
 |[],_,_=>J|_::_,0,.inl _=>W|_::_,0,.inr _=>J|_::_,_+1,.inl _=>J|_::l,i+1,.inr y=>mG l i y
def kF{A:Nat->Type}(z:(t:Ty)->den A t):(l:L (TypeId×Ty))->(i:Nat)->ye A l->den A (ny l i)
 |[],_,_=>z .bool|_::_,0,.inl x=>x|p::_,0,.inr _=>z p.2|_::l,i+1,.inl _=>z (ny l i)|_::l,i+1,.inr y=>kF z l i y
structure Sg where
 A:Nat->Type
 fs:Nat->List Ty
 dfl:(n:Nat)->A n
 get:(n:Nat)->A n->l7 A (fs n)
 Eu:(n:Nat)->l7 A (fs n)->A n
 cells:(n:Nat)->A n->List D
 alts:Nat->List (TypeId×Ty)
 uG:(n:Nat)->A n->ye A (alts n)
 imk:(n:Nat)->ye A (alts n)->A n
 rV:(n:Nat)->A n->Option (TypeId×D)
 pt:Ty
variable {S:Sg}
def Sg.zero(S:Sg):(t:Ty)->den S.A t
 |.int _=>(0:Int)|.bool=>J|.str=>([]:L UInt8)|.sl _=>[]|.st n=>S.dfl n|.di n=>S.imk n (Xe (S.alts n))|.opt _=>Y|.mp _ _=>[]
def cg(s:L UInt8):ByteArray:=⟨s.toArray⟩
def ofBytes(b:ByteArray):L UInt8:=b.data.toList
def O2:O (TypeId×D)->D
 |none=>.lit .nilIface|some p=>.di p.1 p.2
def ptD:O D->D
 |none=>.lit (.pointer Y)|some d=>.pt d
def enc(S:Sg):(t:Ty)->den S.A t->D
 |.int k,n=>.lit (.int k n)|.bool,b=>.lit (.bool b)|.str,s=>.lit (.string (cg s))|.sl e,l=>.sl (l.map (enc S e))|.st n,x=>.agg (S.cells n x)|.di n,x=>O2 (S.rV n x)|.opt n,x=>ptD (x.map λy=>.agg (S.cells n y))|.mp k v,l=>.mp (l.map λp=>enc S k p.1) (l.map λp=>enc S v p.2)
def fe(S:Sg):(ts:L Ty)->l7 S.A ts->L D
 |[],_=>[]|t::l,x=>enc S t x.1::fe S l x.2
def kU:Ty->Bool|.st _=>W|_=>J
def Sg.width(S:Sg):Ty->Nat|.st n=>cE (S.fs n)|_=>1
inductive V(S:Sg) where
 |ty (t:Ty) (x:den S.A t)|kb (b:Bool)|kn (k:IntKind) (n:Int)|dat (d:D)|ptr (o off:Nat)|mc (t:Ty) (x:den S.A t) (off:Nat)|l9 (o e i off:Nat)|sh (o e:Nat)|emp|kM (n:Nat) (t:Ty) (l:List (den S.A t))|fn (f:Fn) (first cap:List (V S))
 |di (t:TypeId) (v:V S)|agg (cs:List (V S))|gT (vs:List (V S))|gd (c:Bool) (v:V S)|mp (o:Nat)|rJ (o:Nat)|ud (o:Nat)|ub (e:Bool)|sy (o m r i:Nat)|pU (n j:Nat) (x:S.A n)
inductive sU(S:Sg) where
 |call (f:V S) (args:List (V S))|mark (o:Nat)|marks (o:Nat)|kK|bad
structure bU(S:Sg) where
 n:Nat
 tm:Tr (V S)
 df:List (sU S):=[]
structure LpV(S:Sg) where
 st:LoopState
 vN:Option Code
 fid:FuncId
 fr:bU S
 params:List Nat
 assign:Code
 body:Code
inductive u0(S:Sg) where
 |box (cs:List (V S))|arr (t:Ty) (l:List (den S.A t)) (era:Nat)|lK (t:Ty) (l:List (den S.A t)) (era:Nat)|map (kt vt:Ty) (l:List (den S.A kt×den S.A vt))|HU (kt:Ty) (l:List (den S.A kt×V S))|rI (b:List UInt8) (pos:Nat)|lp (l:LpV S)|zZ|lS (n j:Nat) (l:List (S.A n)) (era m g9:Nat) (hole:Option Nat)|rws (t:Ty) (iU:List (List (den S.A t))) (g9:Nat)|gone|FG
structure bg(S:Sg) where
 ob:Tr (u0 S)
 aD:Nat
 fl:Nat
 lo:Nat
 wr:List Nat
 dr:List Nat
def bU.get(fr:bU S)(k:Nat):O (V S):=fr.tm.get k
def bU.put(fr:bU S)(k:Nat)(v:V S):bU S:={fr with tm:=fr.tm.set aM k v}
def bU.jm(fr:bU S)(k:O Nat)(v:V S):bU S:=match k with|some k=>fr.put k v|none=>fr
def Ax:(ts:L Ty)->l7 S.A ts->L (V S)
 |[],_=>[]|t::l,x=>.ty t x.1::Ax l x.2
def wo:(t:Ty)->den S.A t->L (V S)
 |.st n,x=>Ax (S.fs n) (S.get n x)|.int k,x=>[.ty (.int k) x]|.bool,x=>[.ty .bool x]|.str,x=>[.ty .str x]|.sl e,x=>[.ty (.sl e) x]|.di n,x=>[.ty (.di n) x]|.opt n,x=>[.ty (.opt n) x]|.mp k v,x=>[.ty (.mp k v) x]
def uR:Value->O (V S)
 |.bool b=>Z (.kb b)|.int k n=>Z (.kn k n)|.slice Y 0 0=>Z .emp|.func f a b=>match a.toList,b.toList with
  |[],[]=>Z (.fn f [] [])|_,_=>Y
 |.iface t v=>(CZ v).map λd=>.dat (.di t d)|.string b=>Z (.ty .str (ofBytes b))|v=>(CZ v).map .dat
def zeroV:D->V S
 |.lit (.bool b)=>.kb b|.lit (.int k n)=>.kn k n|.lit (.string b)=>.ty .str (ofBytes b)|.sl []=>.emp|d=>.dat d
def Xw:V S->Bool
 |.ty t _=>!(kU t)|.dat d=>d.leaf|.agg _|.gT _|.gd _ _=>J|_=>W
def BN:L (V S)->Bool
 |[]=>W|v::l=>Xw v&&BN l
def wP(i:TI):V S->O (L (V S))
 |.agg a=>bif i.agg&&Nq (cE a) i.size then Z a else Y|.ty (.st n) x=>bif i.agg&&Nq (cE (S.fs n)) i.size then Z (Ax (S.fs n) (S.get n x))else Y|.dat d=>bif i.agg then Y else bif Nq i.size 1&&d.leaf then Z [.dat d]else Y|.gT _|.gd _ _=>Y|v=>bif i.agg then Y else bif Nq i.size 1 then Z [v]else Y
def CU(agg:Bool)(cs:L (V S)):O (V S):=
 bif agg then Z (.agg cs)else match cs with
  |[x]=>Z x|_=>Y
def cD(fr:bU S):Operand->O (V S)
 |.tmp k=>fr.get k|.const v=>uR v|.global _=>Y|.func f=>Z (.fn (.func f) [] [])
def kq(fr:bU S):L Operand->O (L (V S))
 |[]=>Z []|x::l=>match cD fr x,kq fr l with
  |some t,Z r=>Z (t::r)|_,_=>Y
def g7(k:IntKind):V S->O Int
 |.kn j n=>bif oP j k then Z n else Y|.ty (.int j) x=>bif oP j k then Z x else Y|_=>Y
def iD:V S->O Bool
 |.kb b=>Z b|.ty .bool x=>Z x|_=>Y
def vV:V S->O (L UInt8)
 |.ty .str x=>Z x|_=>Y
def wR(t u:Ty)(x:den S.A t):O (den S.A u):=
 if h:sk t u=W then Z (jX h▸x)else Y
def oJ(t u:Ty)(x:L (den S.A t)):O (L (den S.A u)):=
 if h:sk t u=W then Z (jX h▸x)else Y
def AB:(ts:L Ty)->l7 S.A ts->Nat->(t:Ty)->den S.A t->l7 S.A ts
 |[],h,_,_,_=>h| τ::_,h,0,t,y=>(match wR t τ y with|some z=>z|none=>h.1,h.2)
 |_::ts,h,j+1,t,y=>(h.1,AB ts h.2 j t y)
def eo:(ts:L Ty)->l7 S.A ts->Nat->(t:Ty)->den S.A t
 |[],_,_,t=>S.zero t| τ::_,h,0,t=>match wR τ t h.1 with|some z=>z|none=>S.zero t
 |_::ts,h,j+1,t=>eo ts h.2 j t
def TQ(n j:Nat)(t:Ty)(x:S.A n)(y:L (den S.A t)):S.A n:=S.Eu n (AB (S.fs n) (S.get n x) j (.sl t) y)
def Ip(n j:Nat)(t:Ty)(x:S.A n):L (den S.A t):=eo (S.fs n) (S.get n x) j (.sl t)
def zC(n j:Nat)(t:Ty)(l:L (S.A n)):L (L (den S.A t)):=l.map (Ip n j t)
def lz(n j:Nat)(t:Ty)(l:L (S.A n))(iU:L (L (den S.A t))):L (S.A n):=List.zipWith (TQ n j t) l iU
def DV(S:Sg)(n j:Nat)(t:Ty):Bool:=match nth (S.fs n) j with|some u=>sk u (.sl t)|none=>J
def Mw(s:bg S)(m r:Nat):O ((t:Ty)×L (L (den S.A t))):=match s.ob.get m with
 |some (.rws t a b)=>bif Nq r b then Z ⟨t,a⟩else Y|_=>Y
def Kg(s:bg S)(e:Ty):V S->O (L (den S.A e))
 |.emp=>Z []|.kM _ t l=>oJ t e l|.pU n _ x=>oJ (.st n) e [x]|.ty (.sl t) x=>oJ t e x|.sh o r=>match s.ob.get o with
  |some (.arr t l era)|some (.lK t l era)=>bif Nq r era then oJ t e l else Y|_=>Y
 |_=>Y
mutual
def bS(s:bg S):(t:Ty)->V S->O (den S.A t×L Nat)
 |t,.ty u x=>match wR u t x with
  |some y=>Z (y,[])|none=>Y
 |.bool,.kb b=>Z (b,[])|.int k,.kn j n=>bif oP j k then Z (n,[])else Y|.sl _,.emp=>Z ([],[])|.sl e,.kM _ t l=>match oJ t e l with
  |some l=>Z (l,[])|none=>Y
 |.sl e,.pU n _ x=>match oJ (.st n) e [x]with
  |some l=>Z (l,[])|none=>Y
 |.sl e,.sh o r=>match s.ob.get o with
  |some (.arr t l era)=>bif Nq r era then match oJ t e l with|some l=>Z (l,[o])|none=>Y else Y
  |some (.lK t l era)=>bif Nq r era then match oJ t e l with|some l=>Z (l,[])|none=>Y else Y
  |some (.lS n j l era m c Y)=>match Mw s m c with
   |some ⟨t,a⟩=>bif Nq r era&&(Nt m bI&&DV S n j t)then match oJ (.st n) e (lz n j t l a)with|some l=>Z (l,[o,m])|none=>Y else Y
   |none=>Y
  |_=>Y
 |.st n,.agg d=>match oe s (S.fs n) d with
  |some (h,os)=>Z (S.Eu n h,os)|none=>Y
 |.di n,.di t v=>match xb (S.alts n) t with
  |some i=>match bS s (ny (S.alts n) i) v with
   |some (y,os)=>Z (S.imk n (XI (S.alts n) i y),os)|none=>Y
  |none=>Y
 |.di n,.dat (.lit .nilIface)=>Z (S.imk n (Xe (S.alts n)),[])|.opt _,.dat (.lit (.pointer Y))=>Z (Y,[])|_,_=>Y
def oe(s:bg S):(ts:L Ty)->L (V S)->O (l7 S.A ts×L Nat)
 |[],[]=>Z ((),[])|t::ts,v::l=>match bS s t v,oe s ts l with
  |some (x,os),Z (h,a)=>Z ((x,h),os++a)|_,_=>Y
 |_,_=>Y
end
def dR(s:bg S):L Nat->O (bg S)
 |[]=>Z s|o::l=>
  bif Nl s.fl o then match s.ob.get o with
   |some (.arr t a era)=>dR {s with ob:=s.ob.set aM o (.lK t a era),wr:=o::s.wr} l
   |some (.lK _ _ _)=>dR s l|some (.lS n j a era m r Y)=>match Mw s m r with
    |some ⟨t,b⟩=>bif l.contains m&&(Nl s.fl m&&(Nt m bI&&DV S n j t))then dR {s with ob:=(s.ob.set aM m .gone).set aM o (.lK (.st n) (lz n j t a b) era),wr:=o::m::s.wr} l else Y
    |none=>Y
   |some (.rws ..)=>dR s l|some .gone=>dR s l|_=>Y
  else Y
def dj(s:bg S)(o:u0 S):bg S:={s with ob:=s.ob.set aM s.aD o,aD:=Ns s.aD}
def gC(a b:L UInt8):Bool:=a==b
def cG{α:Type}(l:L α)(lo hi:Int):L α:=(l.take hi.toNat).drop lo.toNat
def aq{α:Type}(l:L α):Int:=l.length
def mO(b:L UInt8)(n:Int):Int:=(b.getD n.toNat 0).toNat
def cZ{α:Type}(a b:L α):L α:=a++b
def aI{α:Type}(n:Int)(l:L α):Bool:=decide (0<=n)&&decide (n<l.length)
def dV{α:Type}(k:Nat)(l:L α):Bool:=decide (k<l.length)
def eK(lo hi len:Int):Bool:=decide (0<=lo)&&(decide (lo<=hi)&&decide (hi<=len))
def ab7(a b:L UInt8):Bool:=decide (a.length+b.length<=4611686018427387904)
def de{α:Type}(a b:L α):Bool:=decide (a.length+b.length<=17179869184)
def nzI(a:Int):Bool:=decide (a≠0)
def bn{α:Type}(l:L α)(k:Nat)(z:α):α:=l.getD k z
def lE{α:Type}(l:L α)(k:Nat)(x:α):L α:=l.set k x
def abe{α β:Type}(l:L α)(m:L β):Bool:=decide (l.length=m.length)
def XU{α:Type}(k:Nat)(l:L α)(h i:Nat):Bool:=decide (k<l.length)&&(Nq k h&&Nq i h)
def gi(a b:Int):Bool:=decide (a=b)
def az(n:Int):Nat:=n.toNat
abbrev nU(S:Sg):=O (Bool×V S×bg S)
def EE:Lk->V S->V S->O Bool
 |.int k,a,b=>match g7 k a,g7 k b with
  |some x,Z y=>Z (aa x y)|_,_=>Y
 |.bool,a,b=>match iD a,iD b with
  |some x,Z y=>Z (o7 x y)|_,_=>Y
 |.str,a,b=>match vV a,vV b with
  |some x,Z y=>Z (gC x y)|_,_=>Y
 |.no,_,_=>Y
def kV:L Lk->L (V S)->L (V S)->O Bool
 |[],[],[]=>Z W|k::c,a::as,b::d=>match EE k a b,kV c as d with
  |some x,Z y=>Z (bZ x y)|_,_=>Y
 |_,_,_=>Y
def Yo:V S->V S->O Bool
 |.dat (.lit (.pointer Y)),.ptr _ _=>Z J|.ptr _ _,.dat (.lit (.pointer Y))=>Z J|_,_=>Y
def Yp:V S->V S->O Bool
 |.dat (.lit .nilIface),.di _ _=>Z J|.di _ _,.dat (.lit .nilIface)=>Z J|_,_=>Y
def afU(i:TI)(a b:V S):O Bool:=
 bif i.agg then match i.lks,wP i a,wP i b with
  |[],_,_=>Y|k::c,Z as,Z d=>kV (k::c) as d|_,_,_=>Y
 else match i.kd with
  |.leaf k=>EE k a b|.ptr=>Yo a b|.iface=>Yp a b|_=>Y
def acn(op:BinOp)(k:IntKind)(m n:Int):O (V S):=
 match op with
 |.lss=>Z (.ty .bool (aE m n))|.leq=>Z (.ty .bool (br m n))|.gtr=>Z (.ty .bool (aE n m))|.geq=>Z (.ty .bool (br n m))|.add=>Z (.ty (.int k) (aG k m n))|.sub=>Z (.ty (.int k) (bf k m n))|.mul=>Z (.ty (.int k) (HL k m n))|_=>Y
def aci(op:BinOp)(k:IntKind)(m n:Int):O (V S):=
 match op with
 |.rem=>Z (.ty (.int k) (HK m n))|.quo=>Z (.ty (.int k) (ZV k m n))|_=>Y
def GX(i:TI)(op:BinOp)(a b:V S):O (Bool×V S):=
 match op with
 |.eql=>(afU i a b).map λr=>(W,.ty .bool r)|.neq=>(afU i a b).map λr=>(W,.ty .bool (au r))|op=>match i.kd with
  |.leaf (.int k)=>match g7 k a,g7 k b with
   |some m,Z n=>match acn op k m n with
    |some d=>Z (W,d)|none=>(aci op k m n).map λd=>(nzI n,d)
   |_,_=>Y
  |.leaf .str=>match op,vV a,vV b with
   |.add,Z m,Z n=>Z (ab7 m n,.ty .str (cZ m n))|_,_,_=>Y
  |_=>Y
def Lr(s:bg S)(o e:Nat):O ((t:Ty)×L (den S.A t)):=
 match s.ob.get o with
 |some (.arr t l era)=>bif Nq e era then Z ⟨t,l⟩else Y|some (.lK t l era)=>bif Nq e era then Z ⟨t,l⟩else Y|_=>Y
def aau(τ:O Ty)(t:Ty):Bool:=match τ with|some u=>sk u t|none=>J
def Su(i:TI)(τ:O Ty)(t:Ty)(x:den S.A t)(off:Nat):O (V S):=
 bif Nq off 0&&aau τ t then Z (.ty t x)
 else
  bif Nl (Na off i.size) (S.width t)then CU i.agg (((wo t x).drop off).take i.size)else Y
def dU:V S:=.dat (.lit (.tuple #[]))
def yF(i:TI)(τ:O Ty)(s:bg S):V S->nU S
 |.ptr o off=>match s.ob.get o with
  |some (.box a)=>
   let l:=(a.drop off).take i.size
   bif Nq (cE l) i.size then(CU i.agg l).map λt=>(W,t,s)else Y
  |_=>Y
 |.mc t x off=>(Su i τ t x off).map λv=>(W,v,s)|.l9 o e k off=>match Lr s o e with
  |some ⟨t,l⟩=>(Su i τ t (bn l k (S.zero t)) off).map λv=>(dV k l,v,s)|none=>Y
 |_=>Y
def Sg.mV(S:Sg):Ty->L Ty
 |.st n=>S.fs n|t=>[t]
def we:(t:Ty)->l7 S.A (S.mV t)->den S.A t
 |.st n,h=>S.Eu n h|.int _,h=>h.1|.bool,h=>h.1|.str,h=>h.1|.sl _,h=>h.1|.di _,h=>h.1|.opt _,h=>h.1|.mp _ _,h=>h.1
def EX(i:TI)(s:bg S)(a x:V S):nU S:=
 match wP i x with
 |none=>Y|some l=>match a with
  |.ptr o off=>match s.ob.get o with
   |some (.box d)=>
    bif Nl s.fl o&&(Nl (Na off (cE l)) (cE d)&&BN l)then
     Z (W,dU,{s with ob:=s.ob.set aM o (.box (d.take off++l++d.drop (Na off (cE l)))),wr:=o::s.wr})
    else Y
   |_=>Y
  |.l9 o e k off=>match s.ob.get o with
   |some (.arr t _ _)=>match oe s ((S.mV t).drop off |>.take (cE l)) l with
    |some (_,os)=>match dR s os with
     |some b=>match b.ob.get o with
      |some (.arr t c era)=>match oe s (S.mV t) ((wo t (bn c k (S.zero t))).take off++l++(wo t (bn c k (S.zero t))).drop (Na off (cE l)))with
       |some (h,_)=>
        bif Nl b.fl o&&(Nq e era&&(Nl (Na off (cE l)) (S.width t)&&(Nl 1 (cE l)&&BN l)))then
         Z (dV k c,dU,{b with ob:=b.ob.set aM o (.arr t (lE c k (we t h)) era),wr:=o::b.wr})
        else Y
       |none=>Y
      |_=>Y
     |none=>Y
    |none=>Y
   |_=>Y
  |_=>Y
def Ju(place:Nat->O (Nat×TI))(cells:L (V S)):L (Nat×V S)->O (L (V S))
 |[]=>Z cells|(k,v)::a=>match place k with
  |none=>Y|some (off,i)=>match wP i v with
   |none=>Y|some l=>
    bif Nl (Na off (cE l)) (cE cells)&&BN l then Ju place (cells.take off++l++cells.drop (Na off (cE l))) a else Y
def ja(fr:bU S):L (Nat×Operand)->O (L (Nat×V S))
 |[]=>Z []|(k,x)::l=>match cD fr x,ja fr l with
  |some t,Z r=>Z ((k,t)::r)|_,_=>Y
def oQ(s:bg S)(e:Ty)(es:L (den S.A e)):L (Nat×V S)->O (L (den S.A e)×L Nat)
 |[]=>Z (es,[])|(k,v)::a=>match bS s e v with
  |none=>Y|some (x,os)=>
   bif Nt k (cE es)then
    match oQ s e (es.set k x) a with
    |some (r,b)=>Z (r,os++b)|none=>Y
   else Y
def Kx(fr:bU S):O Operand->O (O (V S))
 |none=>Z Y|some x=>(cD fr x).map Z
def Cp(dflt:Int):O (V S)->O Int
 |none=>Z dflt|some t=>g7 .i64 t
def Nc:V S->L Nat
 |.sh o _=>[o]|_=>[]
def vW(i:TI)(τ:O Ty)(s:bg S)(v:V S)(l h m:O (V S)):nU S:=
 match τ,Cp 0 l with
 |some .str,Z lo=>match i.kd,vV v,m with
  |.leaf .str,Z b,Y=>match Cp (aq b) h with
   |some a=>Z (eK lo a (aq b),.ty .str (cG b lo a),s)|none=>Y
  |_,_,_=>Y
 |some (.sl e),Z lo=>match i.kd,Kg s e v,dR s (Nc v)with
  |.slice _ _ _ _,Z c,Z d=>match Cp (aq c) h,m,h with
   |some a,Y,_=>Z (eK lo a (aq c),.ty (.sl e) (cG c lo a),d)|some a,Z y,Z _=>match y with
    |.kn .i64 0=>Z (gi lo 0&&gi a 0,.emp,s)|y=>match g7 .i64 y with
     |some f=>Z (eK lo a (aq c)&&gi f a,.kM 0 e (cG c lo a),d)|none=>Y
   |_,_,_=>Y
  |_,_,_=>Y
 |_,_=>Y
def YR:V S->O (O Bool×Bool)
 |.gd g v=>match iD v with
  |some y=>Z (Z g,y)|none=>Y
 |.kb b=>Z (Y,b)|.ty .bool x=>Z (Y,x)|_=>Y
def orT(g:O Bool):Bool:=match g with|some g=>g|none=>W
def WZ(c a b:V S):O (Bool×V S):=
 match c with
 |.kb u=>match YR (bif u then a else b)with
  |some (p,y)=>Z (orT p,.ty .bool y)|none=>Y
 |c=>match iD c,YR a,YR b with
  |some t,Z (p,x),Z (q,y)=>Z (bif t then orT p else orT q,.ty .bool (ZW t x y))|_,_,_=>Y
def w7(n sz:Nat)(s:bg S)(x a:V S):nU S:=match x,a with
 |.mc t d b,.kn .i64 (.ofNat j)=>bif Nt j n then Z (W,.mc t d (Na b (Nat.mul j sz)),s)else Y|_,_=>Y
def Dy{n sz:Nat}{s s':bg S}{x a t:V S}{p:Bool}(h:w7 n sz s x a=Z (p,t,s')):s'=s:=by
 unfold w7 at h;split at h
 .rename_i j;cases b:Nt j n<;>rw[b]at h<;>cases h;rfl
 .cases h
def kC(i:TI)(τ:O Ty)(s:bg S)(x a:V S):nU S:=
 match i.kd,τ,g7 .i64 a with
 |.slice _ _ _ _,Z (.sl e),Z n=>match x with
  |.sh o r=>match Lr s o r with
   |some ⟨t,l⟩=>bif sk t e then Z (aI n l,.l9 o r (az n) 0,s)else Y|none=>Y
  |v=>match Kg s e v with
   |some l=>Z (aI n l,.mc e (bn l (az n) (S.zero e)) 0,s)|none=>Y
 |.array n sz _,_,_=>w7 n sz s x a|_,_,_=>Y
def qZ(i:TI)(s:bg S)(k:Nat)(x:V S):nU S:=
 match i.kd with
 |.struct a=>match nth a k with
  |some (off,size,_)=>bif Nq size 0 then Y else match x with
   |.ptr o b=>Z (W,.ptr o (Na b off),s)|.mc t d b=>Z (W,.mc t d (Na b off),s)|.l9 o e j b=>Z (W,.l9 o e j (Na b off),s)|_=>Y
  |none=>Y
 |_=>Y
def BY(i:TI)(s:bg S)(k:Nat)(x:V S):nU S:=
 match i.kd with
 |.struct a=>match nth a k,wP i x with
  |some (off,size,b),Z c=>
   let l:=(c.drop off).take size
   bif Nq (cE l) size&&!(Nq size 0)then(CU b l).map λt=>(W,t,s)else Y
  |_,_=>Y
 |_=>Y
def BR(i:TI)(s:bg S)(x a:V S):nU S:=
 match i.kd,g7 .i64 a,vV x with
 |.leaf .str,Z n,Z b=>Z (aI n b,.ty (.int .u8) (mO b n),s)|_,_,_=>Y
def EI(i:TI)(s:bg S)(t:TypeId)(ok:Bool)(x:V S):nU S:=
 match i.kd,x,ok with
 |.iface,_,_=>Y|_,.di u v,W=>bif Nq u t then Z (W,.gT [v,.kb W],s)else
   (CU i.agg (i.zero.map zeroV)).map λz=>(W,.gT [z,.kb J],s)
 |_,.di u v,J=>bif Nq u t then Z (W,v,s)else Y|_,_,_=>Y
def unV(i:TI)(op:UnOp)(v:V S):O (V S):=
 match op,i.kd with
 |.not,.leaf .bool=>(iD v).map λb=>.ty .bool (au b)|.neg,.leaf (.int k)=>(g7 k v).map λn=>.ty (.int k) (OY k n)|_,_=>Y
def S4(i j:TI)(s:bg S)(v:V S):nU S:=
 match i.kd,j.kd with
 |.leaf (.int k),.leaf (.int l)=>(g7 k v).map λn=>(W,.ty (.int l) (Rq l n),s)|.leaf .str,.leaf .str=>(vV v).map λ_=>(W,v,s)|_,_=>Y
def AI(s:bg S)(k:Nat):V S->nU S
 |.gT a=>(nth a k).map λt=>(W,t,s)|_=>Y
structure MT where
 kt:Ty
 vt:Option Ty
 el:TypeId
structure gm where
 E:Env
 ty:Nat->Option Ty
 mt:Nat->Option MT:=λ_=>Y
 KC:Nat->String->Option FuncId:=λ_ _=>Y
 nst:Nat->Option Nat:=λ_=>Y
def cH(E:gm)(fr:bU S)(s:bg S)(o:Op):nU S:=
 match o with
 |.move x=>(cD fr x).map λt=>(W,t,s)|.assign x=>(cD fr x).map λt=>(W,t,s)|.pick c a b=>match cD fr c,cD fr a,cD fr b with
  |some c,Z a,Z b=>(WZ c a b).map λ(p,t)=>(p,t,s)|_,_,_=>Y
 |.alloc t=>match E.E.ti t with
  |some i=>bif Nt s.aD bI then Z (W,.ptr s.aD 0,dj s (.box (i.zero.map zeroV)))else Y|none=>Y
 |.box t x=>match E.E.ti t,cD fr x with
  |some i,Z v=>bif Nt s.aD bI then(wP i v).map λg=>(W,.ptr s.aD 0,dj s (.box g))else Y|_,_=>Y
 |.build t parts=>match E.E.ti t,ja fr parts.toList with
  |some i,Z q=>match i.kd with
   |.struct w=>(Ju (λk=>match nth w k with|some (off,size,z)=>Z (off,{(default:TI)with size:=size,agg:=z})|none=>Y) (i.zero.map zeroV) q).map
     λg=>(W,.agg g,s)
   |_=>Y
  |_,_=>Y
 |.buildSlice t len parts=>match E.E.ti t,E.ty t,ja fr parts.toList with
  |some i,Z (.sl e),Z q=>match i.kd with
   |.slice sz _ _ _=>
    bif Nl (Nat.mul len sz) 16777216 then
     match oQ s e (List.replicate len (S.zero e)) q with
     |some (A,os)=>(dR s os).map λs=>(W,.kM len e A,s)|none=>Y
    else Y
   |_=>Y
  |_,_,_=>Y
 |.load t a=>match E.E.ti t,cD fr a with
  |some i,Z a=>yF i (E.ty t) s a|_,_=>Y
 |.store t a x=>match E.E.ti t,cD fr a,cD fr x with
  |some i,Z a,Z x=>EX i s a x|_,_,_=>Y
 |.nilCheck x=>match cD fr x with
  |some (.ptr o b)=>Z (W,.ptr o b,s)|some (.mc t d b)=>Z (W,.mc t d b,s)|some (.l9 o e j b)=>Z (W,.l9 o e j b,s)|some (.di t v)=>Z (W,.di t v,s)|some (.fn (.func f) a b)=>Z (W,.fn (.func f) a b,s)|_=>Y
 |.binOp op t x y _=>match E.E.ti t,cD fr x,cD fr y with
  |some i,Z a,Z b=>(GX i op a b).map λ(p,d)=>(p,d,s)|_,_,_=>Y
 |.unOp op t x=>match E.E.ti t,cD fr x with
  |some i,Z v=>(unV i op v).map λd=>(W,d,s)|_,_=>Y
 |.convert src r x=>match E.E.ti src,E.E.ti r,cD fr x with
  |some i,Z j,Z v=>S4 i j s v|_,_,_=>Y
 |.makeInterface t x=>match E.E.ti t,cD fr x with
  |some i,Z v=>match i.kd with
   |.iface=>Y|_=>Z (W,.di t v,s)
  |_,_=>Y
 |.makeFunc f first cap=>match kq fr first.toList,kq fr cap.toList with
  |some a,Z b=>Z (W,.fn f a b,s)|_,_=>Y
 |.extract x k=>match cD fr x with
  |some v=>AI s k v|none=>Y
 |.fieldAddr t x k=>match E.E.ti t,cD fr x with
  |some i,Z v=>qZ i s k v|_,_=>Y
 |.field t x k=>match E.E.ti t,cD fr x with
  |some i,Z v=>BY i s k v|_,_=>Y
 |.indexAddr t x u=>match E.E.ti t,cD fr x,cD fr u with
  |some i,Z v,Z n=>kC i (E.ty t) s v n|_,_,_=>Y
 |.index t x u=>match E.E.ti t,cD fr x,cD fr u with
  |some i,Z v,Z n=>BR i s v n|_,_,_=>Y
 |.slice t x lo B C=>match E.E.ti t,cD fr x,Kx fr lo,Kx fr B,Kx fr C with
  |some i,Z v,Z l,Z h,Z m=>vW i (E.ty t) s v l h m|_,_,_,_,_=>Y
 |.typeAssert x _ t ok=>match E.E.ti t,cD fr x with
  |some i,Z v=>EI i s t ok v|_,_=>Y
 |_=>Y
def UE:(kt:Ty)->V S->O (den S.A kt)
 |.int k,v=>g7 k v|.bool,v=>iD v|.str,v=>vV v|_,_=>Y
def FW{A:Nat->Type}:(kt:Ty)->den A kt->den A kt->Bool
 |.int _,a,b=>aa a b|.bool,a,b=>o7 a b|.str,a,b=>gC a b|_,_,_=>J
def HV{A:Nat->Type}{β:Type}(kt:Ty)(z:β)(k:den A kt):L (den A kt×β)->β
 |[]=>z|p::l=>bif FW kt k p.1 then p.2 else HV kt z k l
def Gj{A:Nat->Type}{β:Type}(kt:Ty)(k:den A kt):L (den A kt×β)->Bool
 |[]=>J|p::l=>bif FW kt k p.1 then W else Gj kt k l
def jL{A:Nat->Type}{β:Type}(kt:Ty)(k:den A kt)(x:β):L (den A kt×β)->L (den A kt×β)
 |[]=>[(k,x)]|p::l=>bif FW kt k p.1 then(k,x)::l else p::jL kt k x l
def yK(kt c a b:Ty)(l:L (den S.A kt×den S.A c)):O (L (den S.A a×den S.A b)):=
 if h:sk kt a=W then if d:sk c b=W then Z (jX h▸jX d▸l)else Y else Y
def JG{β:Type}(kt a:Ty)(l:L (den S.A kt×β)):O (L (den S.A a×β)):=
 if h:sk kt a=W then Z (jX h▸l)else Y
def Xm(s:bg S)(kt a:Ty):V S->O (L (den S.A kt×den S.A a))
 |.mp o=>match s.ob.get o with
  |some (.map k v l)=>yK k v kt a l|_=>Y
 |.dat (.lit (.map Y))=>Z []|.ty (.mp k v) l=>yK k v kt a l|_=>Y
def Aa{α:Type}:O α->Bool
 |none=>J|some _=>W
def Gl{α:Type}(z:α):O α->α
 |none=>z|some x=>x
def isE{α:Type}(l:L α):Bool:=match l with|[]=>W|_::_=>J
def PR(n:Int):Bool:=decide (0<=n)&&decide (n<=17179869184)
def PB(pos:Nat)(b:L UInt8):Bool:=decide (pos<b.length)
def vw(b:L UInt8)(pos:Nat):Int:=((Utf8.decode (cg b) pos).1:Nat)
def HY(b:L UInt8)(pos:Nat):Nat:=(Utf8.decode (cg b) pos).2
def NH(fr:bU S):O Operand->Bool
 |none=>W|some x=>match cD fr x with
  |some (.kn _ _)=>W|some (.ty (.int _) _)=>W|_=>J
def uc(E:gm)(fr:bU S)(s:bg S)(o:Op):nU S:=
 match o with
 |.makeMap t r=>bif Nt s.aD bI&&NH fr r then match E.mt t with
  |some m=>match m.vt with
   |some a=>Z (W,.mp s.aD,dj s (.map m.kt a []))|none=>Z (W,.mp s.aD,dj s (.HU m.kt []))
  |none=>Y
  else Y
 |.lookup t x d ok=>match E.mt t,cD fr x,cD fr d with
  |some m,Z x,Z k=>match m.vt with
   |some a=>match UE m.kt k,Xm s m.kt a x with
    |some k,Z l=>Z (W,bif ok then .gT [.ty a (HV m.kt (S.zero a) k l),.ty .bool (Gj m.kt k l)]else .ty a (HV m.kt (S.zero a) k l),s)|_,_=>Y
   |none=>Y
  |_,_,_=>Y
 |.mapUpdate t x d y|.insert t x d y=>match E.mt t,cD fr x,cD fr d,cD fr y with
  |some m,Z (.mp o),Z k,Z y=>match UE m.kt k,s.ob.get o with
   |some k,Z (.map kt a l)=>match yK kt a m.kt a l,bS s a y with
    |some l,Z (y,os)=>match dR s os with
     |some f=>bif Nl s.fl o&&aau m.vt a then Z (W,dU,{f with ob:=f.ob.set aM o (.map m.kt a (jL m.kt k y l)),wr:=o::f.wr})else Y
     |none=>Y
    |_,_=>Y
   |some k,Z (.HU kt l)=>match JG kt m.kt l with
    |some l=>bif Nl s.fl o then Z (W,dU,{s with ob:=s.ob.set aM o (.HU m.kt (jL m.kt k y l)),wr:=o::s.wr})else Y
    |none=>Y
   |_,_=>Y
  |_,_,_,_=>Y
 |.makeSlice t n c=>match E.E.ti t,E.ty t,cD fr n,cD fr c with
  |some i,Z (.sl e),Z n,Z c=>match i.kd,g7 .i64 n,g7 .i64 c with
   |.slice _ _ _ _,Z n,Z c=>bif Nt s.aD bI then Z (PR n&&gi c n,.sh s.aD 0,dj s (.arr e (List.replicate (az n) (S.zero e)) 0))else Y|_,_,_=>Y
  |_,_,_,_=>Y
 |.range t x=>match E.E.ti t,cD fr x with
  |some i,Z x=>match i.kd,vV x with
   |.leaf .str,Z b=>bif Nt s.aD bI then Z (W,.ud s.aD,dj s (.rI b 0))else Y|_,_=>Y
  |_,_=>Y
 |.binOp .eql t x (.const .nilIface) _=>match E.E.ti t,cD fr x with
  |some i,Z (.ty (.di n) y)=>match i.kd with
   |.iface=>Z (W,.ty .bool (isNil (S.alts n) (S.uG n y)),s)|_=>Y
  |some i,Z (.dat (.lit .nilIface))=>match i.kd with
   |.iface=>Z (W,.kb W,s)|_=>Y
  |_,_=>Y
 |.binOp .neq t x (.const .nilIface) _=>match E.E.ti t,cD fr x with
  |some i,Z (.ty (.di n) y)=>match i.kd with
   |.iface=>Z (W,.ty .bool (au (isNil (S.alts n) (S.uG n y))),s)|_=>Y
  |some i,Z (.dat (.lit .nilIface))=>match i.kd with
   |.iface=>Z (W,.kb J,s)|_=>Y
  |_,_=>Y
 |.binOp .eql t x (.const (.slice Y 0 0)) _=>match E.E.ti t,E.ty t,cD fr x with
  |some i,Z (.sl e),Z x=>match i.kd,Kg s e x with
   |.slice _ _ _ _,Z l=>Z (W,.ub (isE l),s)|_,_=>Y
  |_,_,_=>Y
 |.nilCheck x=>match cD fr x with
  |some (.ty (.di n) y)=>Z (au (isNil (S.alts n) (S.uG n y)),.ty (.di n) y,s)|some (.ty (.opt n) y)=>Z (Aa y,.mc (.st n) (Gl (S.dfl n) y) 0,s)|_=>Y
 |.binOp .eql t x (.const (.pointer Y)) _=>match E.E.ti t,cD fr x with
  |some i,Z (.ty (.opt _) y)=>match i.kd with
   |.ptr=>Z (W,.ty .bool (au (Aa y)),s)|_=>Y
  |some i,Z (.dat (.lit (.pointer Y)))=>match i.kd with
   |.ptr=>Z (W,.kb W,s)|_=>Y
  |_,_=>Y
 |.binOp .neq t x (.const (.pointer Y)) _=>match E.E.ti t,cD fr x with
  |some i,Z (.ty (.opt _) y)=>match i.kd with
   |.ptr=>Z (W,.ty .bool (Aa y),s)|_=>Y
  |some i,Z (.dat (.lit (.pointer Y)))=>match i.kd with
   |.ptr=>Z (W,.kb J,s)|_=>Y
  |_,_=>Y
 |.typeAssert x _ t ok=>match E.E.ti t,E.ty t,cD fr x with
  |some i,Z τ,Z (.ty (.di n) y)=>match i.kd,xb (S.alts n) t with
   |.iface,_=>Y|_,Z j=>bif sk (ny (S.alts n) j) τ then
     let v:V S:=.ty (ny (S.alts n) j) (kF S.zero (S.alts n) j (S.uG n y))
     let b:=mG (S.alts n) j (S.uG n y)
     bif ok then Z (W,.gT [v,.ty .bool b],s)else Z (b,v,s)
    else Y
   |_,Y=>bif ok then Z (W,.gT [.ty τ (S.zero τ),.kb J],s)else Y
  |_,_,_=>Y
 |.build t parts=>match E.E.ti t,ja fr parts.toList with
  |some i,Z g=>match i.kd with
   |.array _ sz h=>(Ju (λk=>Z (Nat.mul k sz,{(default:TI)with size:=sz,agg:=h})) (i.zero.map zeroV) g).map λp=>(W,.agg p,s)
   |_=>Y
  |_,_=>Y
 |_=>Y
def isNone{α:Type}:O α->Bool|none=>W|some _=>J
def Bp(E:gm)(fr:bU S)(s:bg S)(o:Op):nU S:=
 match o with
 |.indexAddr t x g=>match cD fr x with
  |some (.sh o r)=>match s.ob.get o with
   |some (.lS n _ l era _ _ _)=>match E.E.ti t,E.ty t,cD fr g with
    |some i,Z (.sl (.st p)),Z k=>match i.kd,g7 .i64 k with
     |.slice _ _ _ _,Z k=>bif Nq r era&&Nq n p then Z (aI k l,.l9 o r (az k) 0,s)else Y|_,_=>Y
    |_,_,_=>Y
   |_=>Y
  |_=>Y
 |.load t a=>match cD fr a with
  |some (.l9 o e k off)=>match s.ob.get o with
   |some (.lS n j l era m b hole)=>match E.E.ti t with
    |some i=>bif Nq e era then
      bif Nq off j then
       bif Nq i.size 1&&(!i.agg&&(isNone hole&&Nt j (S.width (.st n))))then Z (dV k l,.sy o m b k,s)else Y
      else bif Nl (Na off i.size) j||Nt j off then(Su i Y (.st n) (bn l k (S.zero (.st n))) off).map λv=>(dV k l,v,s)else Y
     else Y
    |none=>Y
   |_=>Y
  |_=>Y
 |.store t a (.tmp c)=>match cD fr a,fr.get c with
  |some (.l9 o e k off),Z (.sy q u r i)=>match s.ob.get o with
   |some (.lS n j l era m b (Z h))=>match E.E.ti t with
    |some d=>bif (Nq e era&&(Nq off j&&(Nq q o&&(Nq u m&&(Nq r b&&(Nq d.size 1&&(!d.agg&&(Nl s.fl o&&(Nt j (S.width (.st n))&&Nt c bI)))))))))then
      Z (XU k l h i,dU,{s with ob:=s.ob.set aM o (.lS n j l era m b Y),wr:=o::s.wr})
     else Y
    |none=>Y
   |_=>Y
  |_,_=>Y
 |.buildSlice t len parts=>match parts.toList with
  |[(0,.tmp c)]=>match E.E.ti t,E.ty t,fr.get c with
   |some i,Z (.sl (.st n)),Z (.agg f)=>match E.nst n with
    |some j=>match i.kd,nth f j with
     |.slice sz _ _ _,Z .emp=>bif Nq len 1&&(Nl sz 16777216&&Nt c bI)then match bS s (.st n) (.agg f)with
      |some (x,os)=>(dR s os).map λs=>(W,.pU n j x,s)|none=>Y
      else Y
     |_,_=>Y
    |none=>Y
   |_,_,_=>Y
  |[]=>match E.E.ti t,E.ty t with
   |some i,Z (.sl _)=>match i.kd with
    |.slice _ _ _ _=>bif Nq len 0 then Z (W,.emp,s)else Y|_=>Y
   |_,_=>Y
  |_=>Y
 |.slice t x Y (Z w) Y=>match E.E.ti t,cD fr x,cD fr w with
  |some i,Z (.sh o r),Z h=>match i.kd,s.ob.get o,g7 .i64 h with
   |.slice _ _ _ _,Z (.arr (.int .i64) l era),Z h=>bif Nq r era&&Nl s.fl o then
     Z (eK 0 h (aq l),.sh o (Ns era),{s with ob:=s.ob.set aM o (.arr (.int .i64) (cG l 0 h) (Ns era)),wr:=o::s.wr})
    else Y
   |_,_,_=>Y
  |_,_,_=>Y
 |_=>Y
def Ap(E:gm)(fr:bU S)(s:bg S)(o:Op):nU S:=match Bp E fr s o with
 |some r=>Z r|none=>match cH E fr s o with
  |some r=>Z r|none=>uc E fr s o
def zJ(n:Int)(ag:Bool)(sz:Nat)(cs:L (V S))(s:bg S):L Nat->L (Bool×V S×bg S)
 |[]=>[]|j::l=>match bif Nq (cE ((cs.drop (Nat.mul j sz)).take sz)) sz&&Nt 0 sz then CU ag ((cs.drop (Nat.mul j sz)).take sz)else Y with
  |some v=>(gi n (Int.ofNat j),v,s)::zJ n ag sz cs s l|none=>[]
def eX(E:gm)(fr:bU S)(s:bg S)(o:Op):O (L (Bool×V S×bg S)×Bool×V S×bg S):=
 match o with
 |.next d W=>match cD fr d with
  |some (.ud o)=>match s.ob.get o with
   |some (.rI b pos)=>bif Nl s.fl o then
     Z ([(PB pos b,.gT [.kb W,.ty (.int .i64) (Int.ofNat pos),.ty (.int .i32) (vw b pos)],{s with ob:=s.ob.set aM o (.rI b (Na pos (HY b pos))),wr:=o::s.wr})],W,.gT [.kb J],s)
    else Y
   |_=>Y
  |_=>Y
 |.lookup t x a ok=>match E.mt t,cD fr x,cD fr a with
  |some m,Z (.mp o),Z k=>match s.ob.get o,UE m.kt k,E.E.ti m.el with
   |some (.HU kt l),Z k,Z i=>match JG kt m.kt l,CU i.agg (i.zero.map zeroV)with
    |some l,Z z=>Z (l.map λp=>(FW m.kt k p.1,bif ok then .gT [p.2,.kb W]else p.2,s),W,bif ok then .gT [z,.kb J]else z,s)|_,_=>Y
   |_,_,_=>Y
  |_,_,_=>Y
 |.index t x a=>match E.E.ti t,cD fr x,cD fr a with
  |some i,Z (.agg c),Z k=>match i.kd,g7 .i64 k with
   |.array len sz e,Z n=>bif Nq (cE c) i.size then Z (zJ n e sz c s (List.range len),J,dU,s)else Y|_,_=>Y
  |_,_,_=>Y
 |_=>Y
def Th(i:TI)(e:Ty)(s:bg S)(x y:V S):nU S:=
 bif !(Nt s.aD bI)then Y else
 match i.kd,Kg s e y with
 |.slice _ _ _ _,Z new=>
  match x with
  |.emp=>Z (W,.sh s.aD 0,dj s (.arr e new 0))|.kM _ t a=>match oJ t e a with
   |some a=>match y with
    |.kM (_+1) _ _=>Z (de a new,.sh s.aD 0,dj s (.arr e (cZ a new) 0))|_=>Z (de a new,.ty (.sl e) (cZ a new),s)
   |none=>Y
  |.sh o r=>match s.ob.get o with
   |some (.arr t a era)=>match oJ t e a with
    |some a=>
     bif Nl s.fl o&&(Nq r era&&!(Nc y).contains o)then
      Z (de a new,.sh o (Ns era),{s with ob:=s.ob.set aM o (.arr e (cZ a new) (Ns era)),wr:=o::s.wr})
     else Y
    |none=>Y
   |_=>Y
  |_=>Y
 |_,_=>Y
def iw(E:gm)(s:bg S)(b:Builtin)(a:Array TypeId)(args:L (V S)):nU S:=
 match b,args with
 |.len,[x]=>match(nth a.toList 0).bind E.E.ti,(nth a.toList 0).bind E.ty with
  |some i,Z .str=>match i.kd,vV x with
   |.leaf .str,Z b=>Z (W,.ty (.int .i64) (aq b),s)|_,_=>Y
  |some i,Z (.sl e)=>match i.kd with
   |.slice _ _ _ _=>(Kg s e x).map λc=>(W,.ty (.int .i64) (aq c),s)|_=>Y
  |_,_=>Y
 |.append,[x,y]=>match a.toList with
  |[t,u]=>match E.E.ti t,E.E.ti u,E.ty t with
   |some i,Z j,Z (.sl e)=>match j.kd with
    |.slice _ _ _ _=>Th i e s x y|_=>Y
   |_,_,_=>Y
  |_=>Y
 |_,_=>Y
def aa4(a b:Int):Int:=bif aE a b then b else a
def aa3(a b:Int):Int:=bif aE b a then b else a
def tS(E:gm)(s:bg S)(b:Builtin)(a:Array TypeId)(args:L (V S)):nU S:=
 match b,args with
 |.len,[.mp o]=>match(nth a.toList 0).bind E.mt,s.ob.get o with
  |some _,Z (.map _ _ l)=>Z (W,.ty (.int .i64) (aq l),s)|some _,Z (.HU _ l)=>Z (W,.ty (.int .i64) (aq l),s)|_,_=>Y
 |.max,[x,y]=>match g7 .i64 x,g7 .i64 y with
  |some m,Z n=>Z (W,.ty (.int .i64) (aa4 m n),s)|_,_=>Y
 |.min,[x,y]=>match g7 .i64 x,g7 .i64 y with
  |some m,Z n=>Z (W,.ty (.int .i64) (aa3 m n),s)|_,_=>Y
 |_,_=>Y
def m7(E:gm)(s:bg S)(b:Builtin)(a:Array TypeId)(args:L (V S)):nU S:=
 match b,args with
 |.len,[.sh o r]=>match s.ob.get o with
  |some (.lS n _ l era _ _ _)=>match(nth a.toList 0).bind E.E.ti,(nth a.toList 0).bind E.ty with
   |some i,Z (.sl (.st g))=>match i.kd with
    |.slice _ _ _ _=>bif Nq r era&&Nq n g then Z (W,.ty (.int .i64) (aq l),s)else Y|_=>Y
   |_,_=>Y
  |_=>Y
 |.append,[.sh o r,.pU g v x]=>match s.ob.get o with
  |some (.lS n j l era m c Y)=>match a.toList with
   |[t,u]=>match E.E.ti t,E.E.ti u,E.ty t,Mw s m c with
    |some i,Z h,Z (.sl (.st p)),Z ⟨f,d⟩=>match i.kd,h.kd,oJ (.st g) (.st n) [x]with
     |.slice _ _ _ _,.slice _ _ _ _,Z new=>bif Nq r era&&(Nq n p&&(Nq j v&&(Nl s.fl o&&(Nl s.fl m&&(Nt m s.aD&&(Nt s.aD bI&&(DV S n j f&&Nl 1 (S.width f))))))))then
       Z (bZ (abe l d) (de l new),.sh o (Ns era),{s with ob:=(s.ob.set aM m (.rws f (cZ d [[]]) c)).set aM o (.lS n j (cZ l new) (Ns era) m c Y),wr:=o::m::s.wr})
      else Y
     |_,_,_=>Y
    |_,_,_,_=>Y
   |_=>Y
  |_=>Y
 |.append,[.sy o m r k,y]=>match s.ob.get o,s.ob.get m with
  |some (.lS n j l era w c Y),Z (.rws t d e)=>match a.toList with
   |[q,u]=>match E.E.ti q,E.E.ti u,E.ty q,Kg s t y with
    |some i,Z h,Z (.sl f),Z new=>match i.kd,h.kd,y with
     |_,_,.sh _ _=>Y|.slice _ _ _ _,.slice _ _ _ _,_=>bif Nq m w&&(Nq r c&&(Nq r e&&(Nl s.fl o&&(Nl s.fl m&&(Nt o bI&&sk f t)))))then
       Z (bZ (dV k d) (de (bn d k []) new),.sy o m (Ns r) k,{s with ob:=(s.ob.set aM m (.rws t (lE d k (cZ (bn d k []) new)) (Ns r))).set aM o (.lS n j l era m (Ns r) (Z k)),wr:=o::m::s.wr})
      else Y
     |_,_,_=>Y
    |_,_,_,_=>Y
   |_=>Y
  |_,_=>Y
 |_,_=>Y
def QD{A:Nat->Type}{β:Type}(kt:Ty)(k:den A kt):L (den A kt×β)->L (den A kt×β)
 |[]=>[]|p::l=>bif FW kt k p.1 then l else p::QD kt k l
def tT(E:gm)(s:bg S)(b:Builtin)(a:Array TypeId)(args:L (V S)):nU S:=
 match b,args with
 |.delete,[.mp o,k]=>match(nth a.toList 0).bind E.mt,s.ob.get o with
  |some m,Z (.map kt c l)=>match JG kt m.kt l,UE m.kt k with
   |some l,Z k=>bif Nl s.fl o then Z (W,dU,{s with ob:=s.ob.set aM o (.map m.kt c (QD m.kt k l)),wr:=o::s.wr})else Y
   |_,_=>Y
  |_,_=>Y
 |_,_=>Y
def lU(E:gm)(s:bg S)(b:Builtin)(a:Array TypeId)(args:L (V S)):nU S:=match m7 E s b a args with
 |some r=>Z r|none=>match iw E s b a args with
  |some r=>Z r|none=>match tS E s b a args with
   |some r=>Z r|none=>tT E s b a args
end
variable {S:Sg}
section
def aO{α:Type}(c:Bool)(x:O α):O α:=bif c then x else Y
def aj{α:Type}(c:Bool)(x y:O α):O α:=bif c then x else y
def ah{α β:Type}(x:O α)(f:α->O β):O β:=match x with|some a=>f a|none=>Y
def imp(c p:Bool):Bool:=bif c then p else W
inductive Ck where
 |dat (t:Ty)|own (e:Ty)|kz (n j:Nat) (t:Ty)|nil (e:Ty)|ptr (t:Ty)
@[reducible] def Ck.ty:Ck->Ty|.dat t=>t|.own e=>.sl e|.kz n _ _=>.sl (.st n)|.nil e=>.sl e|.ptr t=>t
inductive Bk where
 |cells (cs:List Ck)|map (kt vt:Ty)|rI|link (m:Bool) (pre post:List Ck)
inductive Pk where
 |one (c:Ck)|box (k:Bk)|hid (k:Bk)
@[reducible] def gH(A:Nat->Type):L Ck->Type
 |[]=>U|c::l=>den A c.ty×gH A l
@[reducible] def yb(A:Nat->Type):Bk->Type
 |.cells a=>gH A a|.map kt b=>L (den A kt×den A b)|.rI=>L UInt8×Nat|.link _ pre post=>gH A pre×gH A post
@[reducible] def gp(A:Nat->Type):L Pk->Type
 |[]=>U|.one c::l=>den A c.ty×gp A l|.box k::l=>yb A k×gp A l|.hid k::l=>yb A k×gp A l
@[reducible] def iE(A:Nat->Type):L Pk->Type
 |[]=>U|.one _::l=>iE A l|.box k::l=>yb A k×iE A l|.hid k::l=>yb A k×iE A l
inductive Rx(R P:Type) where
 |ok (r:R)|iJ (p:P)
@[reducible] def RT:Bool->Type->Type->Type
 |false,R,_=>R|true,R,P=>Rx R P
def RT.res{R P:Type}:(a:Bool)->RT a R P->Rx R P
 |false,r=>Rx.ok r|true,r=>r
def RT.ok{R P:Type}:(a:Bool)->R->RT a R P
 |false,r=>r|true,r=>Rx.ok r
def RT.iJ{R P:Type}:(a:Bool)->P->O (RT a R P)
 |false,_=>Y|true,p=>Z (Rx.iJ p)
structure lI(S:Sg) where
 ps:List Pk
 rs:List Ck
 pn:Bool
 F:gp S.A ps->Option (RT pn (gH S.A rs×iE S.A ps) (den S.A S.pt×iE S.A ps))
def o3(s:bg S):(c:Ck)->V S->O (den S.A c.ty×L Nat×L Nat)
 |.dat t,v=>match bS s t v with
  |some (x,os)=>Z (x,os,[])|none=>Y
 |.own e,.emp=>bif Nl 1 (S.width e)then Z ([],[],[])else Y|.own e,.sh o r=>match s.ob.get o with
  |some (.arr t l era)=>bif Nq r era&&(Nl s.fl o&&Nl s.lo o)then match oJ t e l with|some l=>Z (l,[],[o])|none=>Y else Y
  |_=>Y
 |.nil _,.emp=>Z ([],[],[])|.kz n j t,.emp=>bif Nl 1 (S.width (.st n))&&(DV S n j t&&Nt j (S.width (.st n)))then Z ([],[],[])else Y|.kz n j t,.sh o r=>match s.ob.get o with
  |some (.lS b g l era m a Y)=>match Mw s m a with
   |some ⟨d,f⟩=>bif (Nq r era&&(Nq j g&&(Nl s.fl o&&(Nl s.lo o&&(Nl s.fl m&&(Nl s.lo m&&(Nt m s.aD&&(DV S b j d&&sk d t))))))))then match oJ (.st b) (.st n) (lz b j d l f)with
     |some l=>Z (l,[],[o,m])|none=>Y
    else Y
   |none=>Y
  |_=>Y
 |_,_=>Y
def gq(s:bg S):(cs:L Ck)->L (V S)->O (gH S.A cs×L Nat×L Nat)
 |[],[]=>Z ((),[],[])|c::cs,v::l=>match o3 s c v,gq s cs l with
  |some (x,a,b),Z (h,d,e)=>Z ((x,h),a++d,b++e)|_,_=>Y
 |_,_=>Y
def UD:Bk->Nat->V S
 |.cells _,o=>.ptr o 0|.map _ _,o=>.mp o|.rI,o=>.ud o|.link _ _ _,o=>.ptr o 0
def DN:Bk->V S->O Nat
 |.cells _,.ptr o 0=>Z o|.map _ _,.mp o=>Z o|.rI,.ud o=>Z o|.link _ _ _,.ptr o 0=>Z o|_,_=>Y
def lkV:Bool->Nat->V S
 |true,o=>.mp o|false,o=>.ptr o 0
def lkO:Bool->O (V S)->O Nat
 |true,Z (.mp o)=>Z o|false,Z (.ptr o 0)=>Z o|_,_=>Y
def mA(s:bg S):(k:Bk)->O (u0 S)->O (yb S.A k×L Nat×L Nat×O Nat)
 |.cells d,Z (.box c)=>match gq s d c with
  |some (x,a,b)=>Z (x,a,b,Y)|none=>Y
 |.map kt e,Z (.map k v l)=>match yK k v kt e l with
  |some l=>Z (l,[],[],Y)|none=>Y
 |.rI,Z (.rI b n)=>Z ((b,n),[],[],Y)|.link m pre post,Z (.box c)=>match gq s pre (c.take (cE pre)),lkO m (nth c (cE pre)),gq s post (c.drop (Ns (cE pre)))with
  |some (x,a,b),Z o,Z (y,f,g)=>Z ((x,y),a++f,b++g,Z o)|_,_,_=>Y
 |_,_=>Y
def FQ:Bk->L Pk->Bool
 |.link _ _ _,.hid _::_=>W|.link _ _ _,_=>J|_,_=>W
def eM(s:bg S):(ps:L Pk)->L (V S)->O Nat->O (gp S.A ps×L Nat×L Nat×L Nat)
 |[],[],_=>Z ((),[],[],[])|.one c::ps,v::l,_=>match o3 s c v,eM s ps l Y with
  |some (x,a,b),Z (h,d,e,f)=>Z ((x,h),a++d,b++e,f)|_,_=>Y
 |.box k::ps,v::l,_=>match DN k v with
  |some o=>bif Nl s.fl o&&FQ k ps then match mA s k (s.ob.get o)with
   |some (x,a,b,nx)=>match eM s ps l nx with
    |some (h,d,e,f)=>Z ((x,h),a++d,b++e,o::f)|none=>Y
   |none=>Y
   else Y
  |none=>Y
 |.hid k::ps,l,Z o=>bif Nl s.fl o&&FQ k ps then match mA s k (s.ob.get o)with
   |some (x,a,b,nx)=>match eM s ps l nx with
    |some (h,d,e,f)=>Z ((x,h),a++d,b++e,o::f)|none=>Y
   |none=>Y
   else Y
 |_,_,_=>Y
def vT(s:bg S):(c:Ck)->den S.A c.ty->V S×bg S
 |.dat t,x=>(.ty t x,s)|.own e,l=>(.sh s.aD 0,dj s (.arr e l 0))|.nil _,_=>(.emp,s)|.ptr t,x=>(.mc t x 0,s)|.kz n j t,l=>(.sh s.aD 0,dj (dj s (.lS n j l 0 (Ns s.aD) 0 Y)) (.rws t (zC n j t l) 0))
def iy(s:bg S):(cs:L Ck)->gH S.A cs->L (V S)×bg S
 |[],_=>([],s)|c::cs,x=>match vT s c x.1 with
  |(v,s)=>match iy s cs x.2 with
   |(l,s)=>(v::l,s)
def fK:L Nat->O Nat
 |[]=>Y|a::_=>Z a
def WW(m:Bool):O Nat->L (V S)
 |some o=>[lkV m o]|none=>[]
def lJ(s:bg S)(nx:O Nat):(k:Bk)->yb S.A k->u0 S×bg S
 |.cells c,x=>match iy s c x with
  |(a,s)=>(.box a,s)
 |.map kt d,l=>(.map kt d l,s)|.rI,x=>(.rI x.1 x.2,s)|.link m pre post,x=>match iy s pre x.1 with
  |(a,s)=>match iy s post x.2 with
   |(b,s)=>(.box (a++(WW m nx++b)),s)
def mw(s:bg S):(ps:L Pk)->L Nat->iE S.A ps->O (bg S)
 |[],[],_=>Z s|.one _::ps,a,h=>mw s ps a h|.box k::ps,o::a,h=>match lJ s (fK a) k h.1 with
  |(ob,s)=>mw {s with ob:=s.ob.set aM o ob,wr:=o::s.wr} ps a h.2
 |.hid k::ps,o::a,h=>match lJ s (fK a) k h.1 with
  |(ob,s)=>mw {s with ob:=s.ob.set aM o ob,wr:=o::s.wr} ps a h.2
 |_,_,_=>Y
def ahP(b:Nat):O Nat->Bool
 |none=>W|some o=>Nq o (Ns b)
def uw(s:bg S):Nat->(ps:L Pk)->O (iE S.A ps×L Nat×L Nat)
 |_,[]=>Z ((),[],[])|b,.one _::ps=>uw s b ps|b,.box k::ps=>match mA s k (s.ob.get b),uw s (Ns b) ps with
  |some (x,a,c,nx),Z (h,d,e)=>bif ahP b nx&&FQ k ps then Z ((x,h),a++d,c++e)else Y|_,_=>Y
 |b,.hid k::ps=>match mA s k (s.ob.get b),uw s (Ns b) ps with
  |some (x,a,c,nx),Z (h,d,e)=>bif ahP b nx&&FQ k ps then Z ((x,h),a++d,c++e)else Y|_,_=>Y
def sw:L Nat->Bool
 |[]=>W|a::l=>!(l.contains a)&&sw l
def Cq(l m:L Nat):Bool:=l.all λa=>!(m.contains a)
def DL:L (V S)->V S
 |[x]=>x|l=>.gT l
inductive vg(S:Sg) where
 |rU|ext (id:Nat)|ret|iJ (v:V S)
abbrev Sh:=L (Nat×Pk)
inductive Pt where
 |slot (k:Nat)|cell (p:Pt) (i:Nat)|cap (p:Pt) (i:Nat)|LS (p:Pt) (k:Nat)
structure LSh where
 sh:Sh
 pts:List Pt:=[]
 al:List (Nat×Nat):=[]
 pl:Nat:=0
structure JSh where
 sh:Sh
 pts:List Pt:=[]
 ks:List Pt:=[]
 rs:List Ck:=[]
structure eO(S:Sg) where
 T:gm
 Iq:FuncId->Option (lI S)
 sh:FuncId->Nat->Option LSh
 pn:Bool:=J
 cj:FuncId->List (V S)->Option JSh:=λ_ _=>Y
def pW:V S->L (V S)->O (FuncId×L (V S))
 |.fn (.func f) first cap,args=>Z (f,first++args++cap)
 |_,_=>Y
inductive Tgt where|fn (f:FuncId)|yl (o:Nat)|jn (f:FuncId)|yd (o:Nat)
abbrev gn(S:Sg):=Tgt->L (V S)->bg S->{ω:Type}->(V S->bg S->O ω)->(V S->bg S->O ω)->O ω
mutual
def iT(os:L Nat):V S->Bool
 |.ptr o _=>os.contains o|.l9 o _ _ _=>os.contains o|.sh o _=>os.contains o|.mp o=>os.contains o|.rJ o=>os.contains o|.ud o=>os.contains o|.sy o m _ _=>os.contains o||os.contains m|.fn _ a b=>oO os a||oO os b|.di _ v=>iT os v|.agg c=>oO os c|.gT c=>oO os c|.gd _ v=>iT os v|_=>J
def oO(os:L Nat):L (V S)->Bool
 |[]=>J|v::l=>iT os v||oO os l
end
def KE{α:Type}(os:L Nat):L (α×V S)->Bool
 |[]=>J|p::l=>iT os p.2||KE os l
def mU(p:V S->Bool):Tr (V S)->Bool
 |.nil=>J|.node v l r=>(match v with|some x=>p x|none=>J)||(mU p l||mU p r)
def Kz(os:L Nat):u0 S->Bool
 |.box a=>oO os a|.HU _ l=>KE os l|.lp l=>mU (iT os) l.fr.tm|.lS _ _ _ _ m _ _=>os.contains m|_=>J
namespace Tr
variable {α:Type}
def del:Nat->Tr α->Nat->Tr α
 |0,t,_=>t|_+1,.nil,_=>.nil|n+1,.node v l r,k=>match k with
  |0=>.node Y l r|k+1=>match Nq (Nat.mod k 2) 0 with
   |true=>.node v (del n l (Nat.div k 2)) r|false=>.node v l (del n r (Nat.div k 2))
def keep(p:α->Bool):Tr α->Tr α
 |.nil=>.nil|.node v l r=>.node (match v with|some x=>bif p x then Z x else Y|none=>Y) (keep p l) (keep p r)
end Tr
namespace Tr
variable {α:Type}
def mapA(f:α->α):Tr α->Tr α
 |.nil=>.nil|.node v l r=>.node (match v with|some x=>Z (f x)|none=>Y) (mapA f l) (mapA f r)
def jT(p:α->Bool):Tr α->L Nat
 |.nil=>[]|.node v l r=>(match v with|some x=>bif p x then[0]else[]|none=>[])++((jT p l).map (λk=>Ns (Nat.mul 2 k))++(jT p r).map (λk=>Ns (Ns (Nat.mul 2 k))))
end Tr
def yZ:V S:=.gd J dU
def rz(os:L Nat)(v:V S):V S:=bif iT os v then yZ else v
def oa(os:L Nat):u0 S->u0 S
 |.box b=>.box (b.map (rz os))|.HU kt l=>.HU kt (l.map λp=>(p.1,rz os p.2))|.lp l=>.lp {l with fr:={l.fr with tm:=l.fr.tm.mapA (rz os)}}
 |.lS n j l era m a hole=>bif os.contains m then .gone else .lS n j l era m a hole|o=>o
def forget(os:L Nat)(s:bg S):bg S:=match os with
 |[]=>s|_=>{s with ob:=s.ob.mapA (oa os),wr:=s.ob.jT (Kz os)++s.wr}
def yJ(bs:L Nat)(s:bg S):bg S:={s with ob:=bs.foldl (λt o=>t.del aM o) s.ob}
def sU.one:sU S->Bool
 |.marks _|.kK=>J|_=>W
def eH(p:V S->Bool):sU S->sU S
 |.call f args=>bif p f||args.any p then .bad else .call f args|.mark o=>bif p (.ptr o 0)then .bad else .mark o|.marks o=>bif p (.sh o 0)then .kK else .marks o|.kK=>.kK|.bad=>.bad
def dx(os:L Nat)(fr:bU S):bU S:=match os with
 |[]=>fr|_=>{fr with tm:=fr.tm.keep λv=>!(iT os v),df:=fr.df.map (eH (iT os))}
def jU:L Ck->Bool
 |[]=>W|.dat _::l=>jU l|.own _::_=>J|.kz ..::_=>J|.nil _::_=>J|.ptr _::_=>J
def tN:(cs:L Ck)->gH S.A cs->L (V S)
 |[],_=>[]|c::cs,x=>.ty c.ty x.1::tN cs x.2
def cA:L Pk->Bool
 |[]=>W|.one (.dat _)::l=>cA l|_=>J
def Wf:Ty->Bool
 |.int _|.bool|.str=>W|_=>J
def lA:L Ck->Bool
 |[]=>W|.dat t::l=>Wf t&&lA l|.own _::_=>J|.kz ..::_=>J|.nil _::_=>J|.ptr _::_=>J
def X5:L Pk->Bool
 |[]=>J|.one (.ptr _)::_=>W|_::l=>X5 l
def PL:L Pk->Bool
 |[]=>W|.one (.dat _)::l=>PL l|.one (.ptr _)::l=>PL l|_=>J
def ahG(s:bg S):(t:Ty)->V S->O (den S.A t×L Nat)
 |.mp k v,.mp o=>match s.ob.get o with
  |some (.map a b l)=>match yK a b k v l with
   |some l=>Z (l,[])|none=>Y
  |_=>Y
 |t,v=>bS s t v
def Ak(s:bg S):(ts:L Ty)->L (V S)->O (l7 S.A ts×L Nat)
 |[],[]=>Z ((),[])|t::ts,v::l=>match ahG s t v,Ak s ts l with
  |some (x,os),Z (h,a)=>Z ((x,h),os++a)|_,_=>Y
 |_,_=>Y
def aex(s:bg S):(t:Ty)->L (V S)->O (den S.A t×L Nat)
 |.st n,a=>match Ak s (S.fs n) a with
  |some (h,os)=>Z (S.Eu n h,os)|none=>Y
 |_,_=>Y
def adf(s:bg S)(t:Ty):V S->O (den S.A t×L Nat)
 |.mc u y 0=>match wR u t y with
  |some x=>Z (x,[])|none=>Y
 |.ptr o 0=>match s.ob.get o with
  |some (.box a)=>aex s t a|_=>Y
 |_=>Y
def lZ(s:bg S):(ps:L Pk)->L (V S)->O (gp S.A ps×L Nat)
 |[],[]=>Z ((),[])|.one (.dat t)::ps,v::l=>match bS s t v,lZ s ps l with
  |some (x,os),Z (h,a)=>Z ((x,h),os++a)|_,_=>Y
 |.one (.ptr t)::ps,v::l=>match adf s t v,lZ s ps l with
  |some (x,os),Z (h,a)=>Z ((x,h),os++a)|_,_=>Y
 |_,_=>Y
def Xt(c:lI S):Bool:=cA c.ps&&(lA c.rs&&!c.pn)
mutual
def cI(p:Nat->Bool):V S->Bool
 |.ptr o _=>p o|.l9 o _ _ _=>p o|.sh o _=>p o|.mp o=>p o|.rJ o=>p o|.ud o=>p o|.sy o m _ _=>p o||p m|.fn _ a b=>iN p a||iN p b|.di _ v=>cI p v|.agg c=>iN p c|.gT c=>iN p c|.gd _ v=>cI p v|_=>J
def iN(p:Nat->Bool):L (V S)->Bool
 |[]=>J|v::l=>cI p v||iN p l
end
def dJ(ow:L Nat)(aD:Nat)(o:Nat):Bool:=ow.contains o||Nl aD o
def mW:L (V S)->Nat->Tr (V S)->Tr (V S)
 |[],_,t=>t|a::l,k,t=>mW l (Ns k) (t.set aM k a)
def Wj(a:L Ck)(v:V S):L (V S):=match a,v with|[_],v=>[v]|_,.gT l=>l|_,v=>[v]
def lO(sh:Sh):L Pk:=sh.map (·.2)
def H6(fr:bU S)(s:bg S):Pt->O (V S)
 |.slot k=>fr.get k|.cell p i=>match H6 fr s p with
  |some (.ptr o 0)=>match s.ob.get o with
   |some (.box a)=>nth a i|_=>Y
  |_=>Y
 |.cap p i=>match H6 fr s p with
  |some (.fn _ _ a)=>nth a i|_=>Y
 |.LS p k=>match H6 fr s p with
  |some (.rJ o)=>match s.ob.get o with
   |some (.lp l)=>l.fr.get k|_=>Y
  |_=>Y
def rT(fr:bU S)(s:bg S):Sh->L Pt->O (L Nat)
 |[],[]=>Z []|(_,.one _)::l,a=>rT fr s l a|(_,.box k)::l,p::a=>match H6 fr s p with
  |some v=>match DN k v,rT fr s l a with
   |some o,Z r=>Z (o::r)|_,_=>Y
  |none=>Y
 |(_,.hid k)::l,p::a=>match H6 fr s p with
  |some v=>match DN k v,rT fr s l a with
   |some o,Z r=>Z (o::r)|_,_=>Y
  |none=>Y
 |_,_=>Y
def vI(fr:bU S):Sh->L Nat->O (L (V S))
 |[],[]=>Z []|(k,.one _)::l,a=>match fr.get k,vI fr l a with
  |some v,Z r=>Z (v::r)|_,_=>Y
 |(_,.box k)::l,o::a=>match vI fr l a with
  |some r=>Z (UD k o::r)|none=>Y
 |(_,.hid _)::l,_::a=>vI fr l a|_,_=>Y
def nu:(sh:Sh)->L Nat->gp S.A (lO sh)->bU S->bg S->O (bU S×bg S)
 |[],[],_,fr,s=>Z (fr,s)|(k,.one c)::l,a,x,fr,s=>match vT s c x.1 with
  |(v,s)=>bif Nt k fr.n&&Nl s.aD bI then nu l a x.2 (fr.put k v) s else Y
 |(_,.box k)::l,o::a,x,fr,s=>match lJ s (fK a) k x.1 with
  |(ob,s)=>bif Nl s.aD bI then nu l a x.2 fr {s with ob:=s.ob.set aM o ob}else Y
 |(_,.hid k)::l,o::a,x,fr,s=>match lJ s (fK a) k x.1 with
  |(ob,s)=>bif Nl s.aD bI then nu l a x.2 fr {s with ob:=s.ob.set aM o ob}else Y
 |_,_,_,_,_=>Y
def zk{α:Type}(p:Nat->Bool):L (α×V S)->Bool
 |[]=>J|x::l=>cI p x.2||zk p l
def gL(p:Nat->Bool):u0 S->Bool
 |.box a=>iN p a|.HU _ l=>zk p l|.lp l=>mU (cI p) l.fr.tm|.lS _ _ _ _ m _ _=>p m|_=>J
def fZ(p:Nat->Bool)(v:V S):V S:=bif cI p v then yZ else v
def ff(p:Nat->Bool):u0 S->u0 S
 |.box b=>.box (b.map (fZ p))|.HU kt l=>.HU kt (l.map λx=>(x.1,fZ p x.2))|.lp l=>.lp {l with fr:={l.fr with tm:=l.fr.tm.mapA (fZ p)}}
 |.lS n j l era m a hole=>bif p m then .gone else .lS n j l era m a hole|o=>o
def cL(ds ow bs:L Nat)(fr:bU S)(s1:bg S):bU S×bg S:=
 ({fr with tm:=(ds.foldl (λt k=>t.del aM k) fr.tm).keep λv=>!(cI (dJ ow s1.aD) v),df:=fr.df.map (eH (cI (dJ ow s1.aD)))},yJ bs {s1 with ob:=s1.ob.mapA (ff (dJ ow s1.aD)),wr:=[],dr:=[]})
def O0:Sh->Sh
 |[]=>[]|(_,.one _)::l=>O0 l|(k,.box b)::l=>(k,.box b)::O0 l|(k,.hid b)::l=>(k,.hid b)::O0 l
def qF(sh:Sh)(bs:L Nat)(fr:bU S)(s:bg S):O (gp S.A (lO sh)×bg S×L Nat):=
 match vI fr sh bs with
 |none=>Y|some f=>match eM s (lO sh) f Y with
  |none=>Y|some (x,e,d,c)=>match dR s e with
   |none=>Y|some g=>bif sw d&&(Cq d e&&(sw c&&(Nq (cE c) (cE bs)&&(c.zip bs).all λ(a,b)=>Nq a b)))then Z (x,g,d)else Y
def jY:u0 S->Bool
 |.arr ..|.lK ..|.lS ..|.rws ..|.gone|.FG=>J|_=>W
def ptO(fr:bU S)(s:bg S)(p:Pt):O Nat:=match H6 fr s p with
 |some (.ptr o 0)=>Z o|some (.mp o)=>Z o|some (.rJ o)=>Z o|_=>Y
def WV(fr:bU S)(s:bg S):L Pt->O (L Nat)
 |[]=>Z []|p::l=>match ptO fr s p,WV fr s l with
  |some o,Z r=>Z (o::r)|_,_=>Y
def Ij:L Nat->Nat
 |[]=>0|a::l=>bif Nl (Ij l) a then a else Ij l
def y5:Sh->L Nat
 |[]=>[]|(k,.one _)::l=>k::y5 l|(_,.box _)::l=>y5 l|(_,.hid _)::l=>y5 l
def BJ(l:L Nat)(o:Nat):Bool:=!(l.contains o)
def SU(args:L (V S)):bU S:={n:=cE args,tm:=mW args 0 .nil}
def Qx(l:L Nat)(sh:Sh)(fr:bU S):bU S:={n:=fr.n,tm:=((y5 sh).foldl (λt k=>t.del aM k) fr.tm).keep λv=>!(cI (BJ l) v)}
def De(ob:Tr (u0 S)):L Nat->Tr (u0 S)
 |[]=>.nil|o::l=>match ob.get o with
  |some x=>(De ob l).set aM o x|none=>De ob l
def stJ(bs a:L Nat)(s:bg S):bg S:=⟨De s.ob a,Ns (Ij (bs++a)),s.fl,0,[],[]⟩
def frE:bU S:={n:=0,tm:=.nil}
def getAll(fr:bU S):Nat->Nat->O (L (V S))
 |_,0=>Z []|j,n+1=>match fr.get j,getAll fr (Ns j) n with
  |some v,Z l=>Z (v::l)|_,_=>Y
def S8(l a:L Nat)(s:bg S):Bool:=a.all λo=>match s.ob.get o with
 |some ob=>jY ob&&!(gL (BJ l) ob)|none=>J
abbrev JT(S:Sg)(sh:Sh)(rs:L Ck):=gH S.A rs×gp S.A (lO (O0 sh))
def adg(sh:Sh)(a:L Ck)(bs b:L Nat)(v:V S)(s:bg S):O (JT S sh a):=
 match gq s a (Wj a v),qF (O0 sh) bs frE s with
 |some (r,_,_),Z (y,c,_)=>bif b.all (λo=>!(c.wr.contains o))then Z (r,y)else Y|_,_=>Y
def Pp(call:gn S)(f:FuncId)(sh:Sh)(a:L Ck)(bs b:L Nat)(fr:bU S)(s:bg S)(x:gp S.A (lO sh)):O (JT S sh a):=
 match nu sh bs x fr s with
 |none=>Y|some (fr,s)=>match getAll fr 0 fr.n with
  |none=>Y|some args=>call (.jn f) args s (adg sh a bs b) (λ_ _=>Y)
section
variable (E:eO S)(call:gn S){ω:Type}
def afS(s:bg S)(c:lI S)(args:L (V S))(k:V S->bg S->L Nat->O ω):O ω:=
 bif PL c.ps&&(lA c.rs&&!c.pn)then match lZ s c.ps args with
  |none=>Y|some (x,a)=>match dR s a with
   |none=>Y|some _=>ah (c.F x) λr=>match RT.res c.pn r with
    |.ok r=>k (DL (tN c.rs r.1)) s []|.iJ _=>Y
 else Y
def NW(s:bg S)(c:lI S)(args:L (V S))(kp:V S->bg S->O ω)(k:V S->bg S->L Nat->O ω):O ω:=bif X5 c.ps then afS s c args k else
 match eM s c.ps args Y with
 |none=>Y|some (x,f,a,d)=>match dR s f with
  |none=>Y|some b=>bif Xt c then ah (c.F x) λr=>match RT.res c.pn r with
     |.ok r=>k (DL (tN c.rs r.1)) s []|.iJ _=>Y
   else bif sw a&&(sw d&&Cq a f)then
    ah (c.F x) λr=>match RT.res c.pn r with
     |.ok r=>match mw (yJ d (forget a {b with wr:=a++b.wr,dr:=a++b.dr})) c.ps d r.2 with
      |none=>Y|some e=>match iy e c.rs r.1 with
       |(l,g)=>bif Nl g.aD bI then k (DL l) g a else Y
     |.iJ p=>match mw (yJ d (forget a {b with wr:=a++b.wr,dr:=a++b.dr})) c.ps d p.2 with
      |none=>Y|some e=>match a with
       |[]=>bif Nl e.aD bI then kp (.ty S.pt p.1) e else Y|_::_=>Y
   else Y
def yN(k:V S->bg S->O ω)(d:O ω):L (Bool×V S×bg S)->O ω
 |[]=>d|p::l=>aj p.1 (k p.2.1 p.2.2) (yN k d l)
def evJ(a:JSh)(s:bg S)(f:FuncId)(args:L (V S))(k:V S->bg S->L Nat->O ω):O ω:=
 match rT (SU args) s a.sh a.pts,WV (SU args) s a.ks with
 |some b,Z d=>match qF a.sh b (SU args) s with
  |none=>Y|some (g,c,e)=>bif (Nt (cE args) bI&&(y5 a.sh).all λk=>Nt k bI)&&(lA a.rs&&(S8 (b++d) d c&&Nl (Ns (Ij (b++d))) c.aD))then
    ah (Pp call f a.sh a.rs b d (Qx (b++d) a.sh (SU args)) (stJ b d c) g) λy=>
     match nu (O0 a.sh) b y.2 frE (cL [] e b frE c).2 with
     |none=>Y|some (_,h)=>k (DL (tN a.rs y.1)) {h with wr:=c.ob.jT (gL (dJ e c.aD))++(b++(e++c.wr)),dr:=e++c.dr} e
   else Y
 |_,_=>Y
def ydB:Bool:=(E.cj 1000000 []).isSome
def Av(s:bg S):Nat->L Nat
 |0=>[]|n+1=>bif Nl s.lo n&&!((s.ob.get n).any jY)then n::Av s n else Av s n
def fdB(f:FuncId):Bool:=(E.cj (Na 1000001 f) []).isSome
def uM(s:bg S)(f:FuncId)(args:L (V S))(kp:V S->bg S->O ω)(k:V S->bg S->L Nat->O ω):O ω:=match E.Iq f with
 |some c=>NW s c args kp k|none=>match E.cj f args with
  |some a=>evJ call a s f args k|none=>bif fdB E f then call (.jn f) args s (λt b=>k t {b with wr:=Av s s.aD++b.wr,dr:=Av s s.aD++b.dr} (Av s s.aD)) (λ_ _=>Y)else call (.fn f) args s (λt b=>k t b []) kp
def Ym(s:bg S)(m:String)(args:L (V S))(n:Nat)(x:den S.A (.di n))(kp:V S->bg S->O ω)(k:V S->bg S->L Nat->O ω):L (TypeId×Ty)->Nat->O ω
 |[],_=>Y|p::l,j=>aj (mG (S.alts n) j (S.uG n x)) (match E.T.KC p.1 m with
   |some f=>bif Nq p.1 ((nth (S.alts n) j).elim 0 (·.1))then uM E call s f (.ty (ny (S.alts n) j) (kF S.zero (S.alts n) j (S.uG n x))::args) kp k else Y|none=>Y) (Ym s m args n x kp k l (Ns j))
def ahs:O (V S)->O Nat
 |some (.rJ o)=>Z o|_=>Y
def uK(o:Oper)(fr:bU S)(s:bg S)(kp:V S->bg S->O ω)(k:V S->bg S->L Nat->O ω):O ω:=
 match o.op with
 |.call c=>match kq fr c.args.toList with
  |none=>Y|some args=>match c.callee with
   |.builtin b=>match lU E.T s b c.argTypes args with
    |none=>Y|some (p,t,a)=>aO p (k t a [])
   |.value f=>match ahs (cD fr f)with
    |some o=>bif ydB E then call (.yd o) args s (λt a=>k t {a with wr:=Av s s.aD++a.wr,dr:=Av s s.aD++a.dr} (Av s s.aD)) (λ_ _=>Y)else call (.yl o) args s (λt a=>k t a []) kp
    |none=>match(cD fr f).bind (pW · args)with
     |none=>Y|some (f,args)=>uM E call s f args kp k
   |.invoke x m=>match cD fr x with
    |some (.di t v)=>match E.T.KC t m with
     |some f=>uM E call s f (v::args) kp k|none=>Y
    |some (.ty (.di n) x)=>Ym E call s m args n x kp k (S.alts n) 0|_=>Y
 |.panic x=>match cD fr x with
  |some (.di t v)=>kp (.di t v) s|_=>Y
 |op=>match eX E.T fr s op with
  |some (e,p,d,a)=>yN (λv s=>k v s []) (aO p (k d a [])) e|none=>match Ap E.T fr s op with
   |none=>Y|some (p,t,a)=>aO p (k t a [])
def zu(c:O Bool)(p:Bool)(x:O ω):O ω:=match c with
 |none=>aO p x|some c=>aO (imp c p) x
def aj4{α:Type}(c:O Bool)(x:O α)(z:α):O α:=match c with
 |none=>x|some c=>aj c x (Z z)
mutual
def vO:V S->Bool
 |.sh _ _=>J|.sy _ _ _ _=>J|.di _ v=>vO v|.agg a=>j0 a|.gT a=>j0 a|_=>W
def j0:L (V S)->Bool
 |[]=>W|v::l=>vO v&&j0 l
end
def VZ(S:Sg):(cs:L Ck)->gH S.A cs
 |[]=>()|c::cs=>(S.zero c.ty,VZ S cs)
def ahQ(A:Nat->Type):(ps:L Pk)->O (iE A ps)
 |[]=>Z ()|.one _::ps=>ahQ A ps|.box _::_=>Y|.hid _::_=>Y
def Em:Builtin->Bool
 |.len|.max|.min=>W|_=>J
def w8(k:V S->O ω)(d:O ω):L (Bool×V S×bg S)->O ω
 |[]=>d|p::l=>aj p.1 (k p.2.1) (w8 k d l)
def fL(g:O Bool)(fr:bU S)(s:bg S)(o:Oper)(k:V S->O ω):O ω:=
 match o.op with
 |.call c=>match kq fr c.args.toList with
  |none=>Y|some args=>match c.callee with
   |.builtin b=>bif Em b then match lU E.T s b c.argTypes args with
     |some (p,t,_)=>zu g p (k t)|none=>Y
    else Y
   |.value f=>match(cD fr f).bind (pW · args)with
    |none=>Y|some (f,args)=>match E.Iq f with
     |none=>Y|some c=>bif cA c.ps&&(jU c.rs&&(j0 args&&!c.pn))then
       match eM s c.ps args Y,ahQ S.A c.ps with
       |some (x,_,_,_),Z b=>ah (aj4 g (c.F x) (RT.ok c.pn (VZ S c.rs,b))) λr=>match RT.res c.pn r with
        |.ok r=>k (DL (tN c.rs r.1))|.iJ _=>Y
       |_,_=>Y
      else Y
   |_=>Y
 |.store ..|.alloc ..|.box ..|.panic ..|.makeMap ..|.mapUpdate ..|.insert ..|.makeSlice ..|.range ..|.next ..|.defer ..=>Y|.buildSlice t n e=>match ja fr e.toList with
  |some l=>bif j0 (l.map (·.2))then match Ap E.T fr s (.buildSlice t n e)with
   |none=>Y|some (p,v,_)=>zu g p (k v)
   else Y
  |none=>Y
 |.slice t x lo h i=>match cD fr x with
  |some v=>bif vO v then match Ap E.T fr s (.slice t x lo h i)with
   |none=>Y|some (p,v,_)=>zu g p (k v)
   else Y
  |none=>Y
 |op=>match eX E.T fr s op with
  |some (a,p,d,_)=>w8 k (zu g p (k d)) a|none=>match Ap E.T fr s op with
   |none=>Y|some (p,v,_)=>zu g p (k v)
def BE(fr:bU S)(o:Oper):Bool:=
 match o.op with
 |.call c=>match kq fr c.args.toList with
  |none=>J|some args=>match c.callee with
   |.builtin b=>Em b|.value f=>match(cD fr f).bind (pW · args)with
    |none=>J|some (f,args)=>match E.Iq f with
     |none=>J|some c=>cA c.ps&&(jU c.rs&&(j0 args&&!c.pn))
   |_=>J
 |.store ..|.alloc ..|.box ..|.panic ..|.makeMap ..|.mapUpdate ..|.insert ..|.makeSlice ..|.range ..|.next ..|.defer ..=>J|.buildSlice _ _ a=>match ja fr a.toList with
  |some l=>j0 (l.map (·.2))|none=>J
 |.slice _ x _ _ _=>match cD fr x with
  |some v=>vO v|none=>J
 |_=>W
def rZ(fr:bU S)(o:Op):bU S:=
 o.operands.toList.foldl (λf x=>match x with
  |.tmp k=>match fr.get k with
   |some (.gd _ v)=>f.put k v|_=>f
  |_=>f) fr
def NK(c:Bool)(fr:bU S)(o:Op):Bool:=
 o.operands.toList.foldl (λp x=>match x with
  |.tmp k=>match fr.get k with
   |some (.gd g _)=>p&&imp c g|_=>p
  |_=>p) W
def iO(ops:L Oper)(fr:bU S)(o:Oper):O (O Bool):=
 match o.guard with
 |none=>Z Y|some (j,a)=>match((nth ops j).bind (·.dst)).bind fr.get with
  |some (.kb b)=>bif (bif b then a else !a)then Z Y else Z (Z J)|some t=>match iD t with
   |some b=>Z (Z (o7 b a))|none=>Y
  |none=>Y
def vu(ops:L Oper)(fr:bU S)(o:Oper):Bool:=
 match o.guard with
 |none=>J|some (j,a)=>match((nth ops j).bind (·.dst)).bind fr.get with
  |some (.kb b)=>bif b then !a else a|some (.dat (.lit (.tuple _)))=>W|_=>J
def SR(ops:L Oper)(d:O Nat):Bool:=match d with
 |none=>J|some d=>ops.any λo=>match o.guard with
  |none=>J|some (j,_)=>match(nth ops j).bind (·.dst)with
   |some e=>Nq d e|none=>J
def Ke{ω:Type}(b:Bool)(t:V S)(k:V S->O ω):O ω:=bif b then match t with
  |.ty .bool x=>aj x (k (.kb W)) (k (.kb J))|t=>k t
 else k t
def gP(fr:bU S):O Nat->Bool
 |none=>W|some d=>Nt d fr.n
def pT(ops:L Oper)(o:Oper)(fr:bU S)(s:bg S)(kp:V S->bg S->O ω)(k:V S->bg S->L Nat->O ω):O ω:=
 bif gP fr o.dst then bif vu ops fr o then k dU s []else match iO ops fr o with
  |none=>Y|some Y=>uK E call o fr s kp k|some (Z c)=>
   let f:=rZ fr o.op
   bif BE E f o then aO (NK c fr o.op) (fL E (Z c) f s o λt=>k (.gd c t) s [])
   else aj c (aO (NK c fr o.op) (uK E call o f s kp k)) (k (.gd J dU) s [])
 else Y
def QE(fr:bU S)(o:Oper):O (sU S):=match o.guard,o.op with
 |none,.defer c=>match c.callee with
  |.value f=>match cD fr f,kq fr c.args.toList with
   |some (.fn f a b),Z args=>Z (.call (.fn f a b) args)|_,_=>Y
  |_=>Y
 |_,_=>Y
def Qz(ops:L Oper)(o:Oper)(fr:bU S)(s:bg S)(kp:V S->bg S->O ω)(k:bU S->bg S->O ω):O ω:=
 match QE fr o with
 |some d=>bif gP fr o.dst then k {(fr.jm o.dst yZ)with df:=d::fr.df} s else Y
 |none=>pT E call ops o fr s kp λt a b=>Ke (SR ops o.dst) t λt=>k ((dx b fr).jm o.dst t) a
def SZ(ops:L Oper)(kp:bU S->V S->bg S->O ω)(k:bU S->bg S->O ω):L Oper->bU S->bg S->O ω
 |[],fr,s=>k fr s|o::l,fr,s=>Qz E call ops o fr s (kp fr) λa b=>SZ ops kp k l a b
end
end
end TL
end
end
