import GoSem.Dispatch
import GoSem.Machine.Return
import Derived.Calls
import Derived.RowKit
import Derived.WalkKit
import Derived.Deep.AppendSrc
import Derived.Laws.StructEq
import Derived.Room.AppendAny
import Derived.RangeFuncIn
import Derived.RangeFuncLeaves
import Derived.RangeFuncRecord
import Derived.Orders
set_option linter.all false
set_option maxRecDepth 100000
set_option maxHeartbeats 0
noncomputable section
open Option renaming some->Z,none->Y
open Bool renaming true->W,false->J
open Nat renaming beq->Nq,ble->Nl,blt->Nt,succ->Ns,add->Na
open Go.Result(andThen_ok)
open Go.Sem(run_bind run_pure)
section
namespace TL
section
abbrev O:=@Option
abbrev L:=@List
abbrev U:=Unit
abbrev fV:=@Option.map_eq_some_iff
abbrev bJ:=@if_neg
abbrev eK:=@Bool.and_eq_true
abbrev iZ:=@List.getElem?_eq_getElem
abbrev g9:=@Nat.le_of_ble_eq_true
abbrev iB:=@List.mem_cons_of_mem
abbrev cn:=@if_pos
abbrev gV:=@Option.some.injEq
abbrev iP:=@Nat.lt_of_lt_of_le
abbrev fP:=@Prod.mk.injEq
abbrev cu:=@Nat.le_refl
abbrev eO:=@List.mem_append_right
abbrev fh:=@List.mem_append_left
abbrev dW:=@List.mem_append
abbrev ep:=@Int.natCast_add
abbrev fA:=@List.mem_cons_self
abbrev eu:=@Int.natCast_one
abbrev hJ:=@List.mem_of_getElem?
abbrev eY:=@Bool.true_and
abbrev fy:=@List.mem_cons
abbrev gY:=@List.all_eq_true
abbrev gw:=@decide_eq_true
abbrev ez:=@cond_false
abbrev gR:=@decide_eq_false
abbrev gk:=@Nat.le_trans
abbrev jB:=@Option.map_some
abbrev eP:=@cond_true
abbrev kN:=@List.getElem?_map
abbrev jU:=@Option.some.inj
abbrev jH:=@Bool.false_and
abbrev tH:=@List.getD_eq_getElem?_getD
abbrev xJ:=@List.eq_nil_of_length_eq_zero
abbrev oa:=@List.mem_singleton
abbrev nP:=@decide_eq_true_eq
abbrev qI:=@List.getElem_of_mem
abbrev kW:=@List.map_cons
abbrev vG:=@Array.getElem?_eq_getElem
abbrev xI:=@Nat.eq_of_beq_eq_true
abbrev vF:=@Option.bind_eq_some_iff
abbrev m7:=@Bool.or_eq_true
abbrev sC:=@List.getElem?_append
abbrev qH:=@List.length_cons
abbrev tG:=@List.pairwise_append
abbrev oN:=@List.append_nil
abbrev ij:=@if_false
abbrev rH:=@List.length_map
abbrev nO:=@List.mem_map
abbrev Af:=@List.map_congr_left
abbrev xH:=@Int.toNat_of_nonneg
abbrev tF:=@List.take_length
abbrev u0:=@List.map_append
abbrev Ae:=@Nat.mul_le_mul_right
abbrev Ad:=@Bool.or_eq_false_iff
abbrev qG:=@Nat.zero_add
abbrev Bz:=@Bool.and_eq_true_iff
abbrev Ac:=@List.mem_filterMap
abbrev Ni:=@List.pairwise_iff_getElem
abbrev ku:=@if_true
abbrev Nh:=@List.mem_zipIdx_iff_getElem?
abbrev Fp:=@List.contains_eq_mem
abbrev Fo:=@List.length_pos_iff
abbrev Fm:=@List.length_append
abbrev Xv:=@Nat.ble_eq_true_of_le
abbrev Fl:=@Int.toNat_natCast
abbrev pU:=@congrArg
abbrev Ng:=@List.getElem?_cons_zero
abbrev Ab:=@Bool.and_true
abbrev IA:=@List.getElem_mem
abbrev DN:=@Bool.not_true
abbrev KO:=@List.append_assoc
abbrev abN:=@List.take_append_drop
abbrev Qw:=@List.contains_iff_mem
abbrev Qv:=@List.mem_of_mem_take
abbrev Iz:=@Bool.and_false
abbrev UT:=@Classical.axiomOfChoice
abbrev KN:=@List.length_set
abbrev KM:=@List.nil_append
abbrev Xu:=@Array.getElem?_eq_some_iff
abbrev uZ:=@Iff.rfl
abbrev KL:=@Bool.not_false
abbrev Qu:=@Int.add_sub_cancel
abbrev Xt:=@List.drop_eq_getElem_cons
abbrev Xs:=@List.mem_or_eq_of_mem_set
abbrev Xr:=@List.getElem?_append_left
abbrev Nf:=@List.nodup_cons
abbrev Qt:=@List.getElem?_set
abbrev Qs:=@Bool.not_eq_true'
abbrev Qr:=@List.nodup_append
abbrev Xq:=@decide_eq_false_iff_not
abbrev US:=@Array.toList_append
abbrev Nd:=@List.mem_range
abbrev Nc:=@Nat.testBit_or
abbrev Xp:=@List.getElem?_set_self
abbrev abM:=@List.length_eq_one_iff
abbrev UQ:=@List.getElem?_take
abbrev UP:=@List.getElem?_drop
abbrev Xo:=@List.getElem?_zipWith
abbrev abL:=@List.exists_cons_of_ne_nil
abbrev UO:=@List.ext_getElem?
abbrev Xn:=@List.getElem?_of_mem
abbrev aiI:=@Option.filter_eq_some_iff
abbrev S6:=@Classical.byContradiction
abbrev Ag:=@Nat.zero_le
abbrev Ft:=@Option.map_map
abbrev CW:=@Nat.le_of_eq
abbrev Jo:=@Option.getD_some
abbrev Fs:=@List.map_nil
abbrev Jn:=@List.any_eq_true
abbrev CV:=@Nat.le_succ
abbrev S5:=@List.getElem?_toArray
abbrev S4:=@List.mem_of_mem_drop
abbrev S3:=@Nat.div_lt_of_lt_mul
abbrev CU:=@Nat.not_lt
abbrev Np:=@List.foldl_cons
abbrev XN:=@List.getElem?_eq_some_iff
abbrev No:=@List.all_append
abbrev Nn:=@Bool.eq_iff_iff
abbrev Nm:=@Nat.mul_comm
abbrev Jm:=@List.map_set
abbrev XM:=@List.eq_of_mem_replicate
abbrev Jl:=@Nat.le_of_lt
abbrev aei:=@Option.isSome_iff_exists
abbrev Nk:=@Nat.mul_le_mul
abbrev aeh:=@List.drop_drop
abbrev Fq:=@Nat.not_le
abbrev aeg:=@Array.toList_eq_nil_iff
abbrev S2:=@List.size_toArray
abbrev S1:=@of_decide_eq_true
abbrev S0:=@Nat.lt_succ_of_le
abbrev Jk:=@Nat.one_mul
abbrev SZ:=@List.map_take
abbrev Nj:=@Bool.and_self
abbrev SY:=@List.length_take
abbrev SX:=@Option.bind_some
open Go
inductive Tr(α:Type) where
 |nil|node (v:Option α) (l r:Tr α)
 deriving Inhabited
namespace Tr
variable {α:Type}
def get:Tr α->Nat->O α
 |.nil,_=>Y|.node v l r,k=>match k with
  |0=>v|k+1=>match Nq (Nat.mod k 2) 0 with
   |true=>l.get (Nat.div k 2)|false=>r.get (Nat.div k 2)
def set:Nat->Tr α->Nat->α->Tr α
 |0,t,_,_=>t|n+1,.nil,k,x=>match k with
  |0=>.node (Z x) .nil .nil|k+1=>match Nq (Nat.mod k 2) 0 with
   |true=>.node Y (set n .nil (Nat.div k 2) x) .nil|false=>.node Y .nil (set n .nil (Nat.div k 2) x)
 |n+1,.node v l r,k,x=>match k with
  |0=>.node (Z x) l r|k+1=>match Nq (Nat.mod k 2) 0 with
   |true=>.node v (set n l (Nat.div k 2) x) r|false=>.node v l (set n r (Nat.div k 2) x)
end Tr
def od:IntKind->IntKind->Bool
 |.i8,.i8|.i16,.i16|.i32,.i32|.i64,.i64|.u8,.u8|.u16,.u16|.u32,.u32|.u64,.u64=>W|_,_=>J
def cB{α:Type}:L α->Nat
 |[]=>0|_::l=>Ns (cB l)
def nth{α:Type}:L α->Nat->O α
 |[],_=>Y|a::_,0=>Z a|_::l,k+1=>nth l k
inductive D where
 |lit (v:Value)|sl (es:List D)|agg (cs:List D)|cT (t:TypeId) (d:D)|gM (ds:List D)
 deriving Inhabited
namespace D
def toInt:D->Int|.lit (.int _ n)=>n|_=>0
def isInt(k:IntKind):D->Bool|.lit (.int j _)=>od j k|_=>J
def toBool:D->Bool|.lit (.bool b)=>b|_=>J
def isBool:D->Bool|.lit (.bool _)=>W|_=>J
def toStr:D->ByteArray|.lit (.string b)=>b|_=>.empty
def isStr:D->Bool|.lit (.string _)=>W|_=>J
def afl:D->L D|.sl es=>es|_=>[]
def ajw:D->Bool|.sl _=>W|_=>J
def cells:D->L D|.agg cs=>cs|d=>[d]
def cell(d:D)(j:Nat):D:=d.cells.getD j (.lit (.tuple #[]))
def leaf:D->Bool
 |.agg _|.gM _=>J|.lit (.agg _)|.lit (.tuple _)=>J|_=>W
def isAgg(n:Nat):D->Bool|.agg cs=>Nq (cB cs) n&&cs.all leaf|_=>J
def proj:D->Nat->D|.gM ds,k=>ds.getD k (.lit (.tuple #[]))|_,_=>.lit (.tuple #[])
def agL(n:Nat):D->Bool|.gM ds=>Nt n (cB ds)|_=>J
def ajx:D->Bool|.cT _ _=>W|_=>J
def has(d:D)(m:Nat):Prop:=m<=d.cells.length
def wide(d:D)(m:Nat):Prop:=d.cells.length=m
def lby:D->Nat
 |.lit (.string _)|.lit .nilIface|.cT _ _=>16|.sl _|.lit (.slice ..)=>24|_=>8
def oD:L D->Nat
 |[]=>0|d::l=>Na d.lby (oD l)
def sj:D->Nat
 |.agg a=>oD a|.lit (.bool _)=>1|.lit (.int .i8 _)|.lit (.int .u8 _)=>1|.lit (.int .i16 _)|.lit (.int .u16 _)=>2|.lit (.int .i32 _)|.lit (.int .u32 _)=>4|d=>d.lby
def flat(d:D):Bool:=d.cells.all leaf
def SG(d:D)(off:Nat)(l:L D):D:=match d with
 |.agg a=>.agg (a.take off++l++a.drop (off+l.length))|d=>l.getD 0 d
def SN(d:D)(sz off n:Nat):Prop:=d.isAgg sz=W∨(d.leaf=W∧sz=1∧off=0∧n=1)
end D
def jl(es:L D)(i:Nat):D:=es.getD i (.lit (.tuple #[]))
def eN(es:L D):Int:=es.length
def lg(n:Int)(len:Int):Prop:=0<=n∧n<len
def yN(lo a len:Int):Prop:=0<=lo∧lo<=a∧a<=len
def oJ(es:L D)(lo a:Int):L D:=(es.take a.toNat).drop lo.toNat
def My(b:ByteArray)(lo a:Int):ByteArray:=b.extract lo.toNat a.toNat
def uD(b:ByteArray):Int:=b.size
def aa1(b:ByteArray)(n:Int):Int:=(b.get! n.toNat).toNat
def Mz(a b:ByteArray):Prop:=a.size+b.size<=4611686018427387904
def Sq(a b:ByteArray):ByteArray:=a++b
def iA(a b:L D):L D:=a++b
def wU(es:L D)(k:Nat)(d:D):L D:=es.set k d
def jA(es:L D)(sz:Nat):Prop:=∀d∈es,d.cells.length=sz
def uW(es:L D)(b:Nat):Prop:=∀d∈es,d.sj=b∧d.flat=W
def DL(n:Int):Nat:=n.toNat
def zL:Int:=0
def aE(k:IntKind)(a b:Int):Int:=k.wrap (a+b)
def bS(k:IntKind)(a b:Int):Int:=k.wrap (a-b)
def Ii(k:IntKind)(a b:Int):Int:=k.wrap (a*b)
def Ih(k:IntKind)(a:Int):Int:=k.wrap (-a)
def Sr(k:IntKind)(a:Int):Int:=k.wrap a
def rA(a b:Int):Int:=a.tmod b
def aa2(k:IntKind)(a b:Int):Int:=k.wrap (a.tdiv b)
def ahP(a:Int):Prop:=a≠0
def aa(a b:Int):Bool:=a==b
def Kn(a b:Bool):Bool:=a==b
def Uj(a b:ByteArray):Bool:=a==b
def aD(a b:Int):Bool:=decide (a<b)
def bA(a b:Int):Bool:=decide (a<=b)
def aa3(c a b:Bool):Bool:=if c then a else b
def aq(a:Bool):Bool:=!a
def bP(a b:Bool):Bool:=a&&b
inductive T where
 |sym (d:D)|kb (b:Bool)|kn (k:IntKind) (n:Int)|ptr (o off:Nat)|nJ (d:D) (off:Nat)|lG (o e i off:Nat)|sh (o e:Nat)|emp|kq (n:Nat) (es:List D)|fn (f:Fn) (first cap:List T)
 |cT (t:TypeId) (v:T)|agg (cs:List T)|gM (vs:List T)|gd (c:Bool) (v:T)|mp (o:Nat)|rB (o:Nat)|s7 (o:Nat)|ub (e:Bool)|rM (o m r i:Nat)|oY (j:Nat) (d:D)
 deriving Inhabited
inductive Df where
 |call (f:T) (args:List T)|mark (o:Nat)|marks (o:Nat)|kg|bad
 deriving Inhabited
def Df.one:Df->Bool
 |.marks _|.kg=>J|_=>W
structure Fr where
 n:Nat
 tm:Tr T
 df:List Df:=[]
 deriving Inhabited
structure Lp where
 st:LoopState
 u5:Option Code
 fid:FuncId
 fr:Fr
 params:List Nat
 assign:Code
 body:Code
inductive Ob where
 |box (cs:List T)|arr (sz:Nat) (es:List D) (era:Nat)|kS (sz:Nat) (es:List D) (era:Nat)|map (es:List (T×T))|qE (b:ByteArray) (pos:Nat)|lp (l:Lp)|zP|kX (nj sz:Nat) (es:List D) (era m gW:Nat) (hole:Option Nat)|rws (sz:Nat) (iO:List (List D)) (gW:Nat)|gone|FQ
 deriving Inhabited
def Ob.oH:Ob->Bool
 |.arr ..|.kS ..|.kX ..|.rws ..|.gone|.FQ=>W|_=>J
def Ob.isA:Ob->Bool
 |.arr ..|.kS ..=>W|_=>J
def Ob.odd:Ob->Bool
 |.map _|.qE _ _|.lp _|.zP=>W|_=>J
structure St where
 ob:Tr Ob
 aL:Nat
 fl:Nat
 lo:Nat
 deriving Inhabited
def aR:Nat:=64
def bC:Nat:=1000000000
def Fr.get(fr:Fr)(k:Nat):O T:=fr.tm.get k
def Fr.put(fr:Fr)(k:Nat)(v:T):Fr:={fr with tm:=fr.tm.set aR k v}
def Fr.iQ(fr:Fr)(k:O Nat)(v:T):Fr:=match k with|some k=>fr.put k v|none=>fr
inductive Lk where
 |int (k:IntKind)|bool|str|no
 deriving DecidableEq,Inhabited
inductive Kd where
 |leaf (l:Lk)|ptr|slice (sz:Nat) (agg:Bool) (sj:Nat) (zero:List D)|struct (fs:List (Nat×Nat×Bool))|array (len sz:Nat) (agg:Bool)|iface|other
 deriving Inhabited
structure TI where
 size:Nat
 agg:Bool
 zero:List D
 lks:List Lk
 kd:Kd
 deriving Inhabited
structure PG where
 pre:List D->Prop
 f:List D->D
structure Env where
 P:Program
 ti:Nat->Option TI
 TC:Nat->Option Func
 IK:Nat->Option PG
def Dd:Value->O D
 |.bool b=>Z (.lit (.bool b))|.int k n=>Z (.lit (.int k n))|.string s=>Z (.lit (.string s))|.pointer Y=>Z (.lit (.pointer Y))|.map Y=>Z (.lit (.map Y))|.nilFunc=>Z (.lit .nilFunc)|.nilIface=>Z (.lit .nilIface)|.tuple a=>match a.toList with
  |[]=>Z (.lit (.tuple #[]))|_=>Y
 |_=>Y
def ofConst:Value->O T
 |.bool b=>Z (.kb b)|.int k n=>Z (.kn k n)|.slice Y 0 0=>Z .emp|.func f a b=>match a.toList,b.toList with
  |[],[]=>Z (.fn f [] [])|_,_=>Y
 |.iface t v=>(Dd v).map λd=>.sym (.cT t d)|v=>(Dd v).map .sym
def pZ:D->T
 |.lit (.bool b)=>.kb b|.lit (.int k n)=>.kn k n|.sl []=>.emp|d=>.sym d
def T.leaf:T->Prop
 |.sym d=>d.leaf=W|.agg _|.gM _|.gd _ _=>False|_=>True
def kf(i:TI):T->O (Prop×L T)
 |.agg a=>bif i.agg&&Nq (cB a) i.size then Z (True,a)else Y|.sym d=>
  bif i.agg then Z (d.isAgg i.size=W,(List.range i.size).map λj=>.sym (d.cell j))
  else bif Nq i.size 1 then Z (d.leaf=W,[.sym d])else Y
 |.gM _|.gd _ _=>Y|t=>bif i.agg then Y else bif Nq i.size 1 then Z (True,[t])else Y
def vI(agg:Bool)(cs:L T):O T:=
 bif agg then Z (.agg cs)else match cs with
  |[x]=>Z x|_=>Y
def jZ(fr:Fr):Operand->O T
 |.tmp k=>fr.get k|.const v=>ofConst v|.global _=>Y|.func f=>Z (.fn (.func f) [] [])
def ye(fr:Fr):L Operand->O (L T)
 |[]=>Z []|x::l=>match jZ fr x,ye fr l with
  |some t,Z r=>Z (t::r)|_,_=>Y
def xM(k:IntKind):T->O (Prop×Int)
 |.kn j n=>bif od j k then Z (True,n)else Y|.sym d=>Z (d.isInt k=W,d.toInt)|_=>Y
def A6:T->O (Prop×Bool)
 |.kb b=>Z (True,b)|.sym d=>Z (d.isBool=W,d.toBool)|_=>Y
def zW:T->O (Prop×ByteArray)
 |.sym d=>Z (d.isStr=W,d.toStr)|_=>Y
def Bv(s:St):T->O (Prop×L D)
 |.emp=>Z (True,[])|.kq _ a=>Z (True,a)|.oY _ d=>Z (True,[d])|.sym d=>Z (d.ajw=W,d.afl)|.sh o e=>match s.ob.get o with
  |some (.arr _ a era)|some (.kS _ a era)=>bif Nq e era then Z (True,a)else Y|_=>Y
 |_=>Y
def AJ(nj:Nat)(d:D)(a:L D):D:=.agg (d.cells.set nj (.sl a))
def mH(nj:Nat)(es:L D)(iO:L (L D)):L D:=List.zipWith (AJ nj) es iO
def Iv(s:St)(m r:Nat):O (L (L D)):=match s.ob.get m with
 |some (.rws _ a b)=>bif Nq r b then Z a else Y|_=>Y
mutual
def Bs(s:St):T->O (Prop×D×L Nat)
 |.sym d=>Z (True,d,[])|.kb b=>Z (True,.lit (.bool b),[])|.kn k n=>Z (True,.lit (.int k n),[])|.emp=>Z (True,.sl [],[])|.kq _ a=>Z (True,.sl a,[])|.oY _ d=>Z (True,.sl [d],[])|.sh o e=>match s.ob.get o with
  |some (.arr _ a era)=>bif Nq e era then Z (True,.sl a,[o])else Y|some (.kS _ a era)=>bif Nq e era then Z (True,.sl a,[])else Y|some (.kX g _ a era m r Y)=>match Iv s m r with
   |some c=>bif Nq e era&&Nt m bC then Z (True,.sl (mH g a c),[o,m])else Y|none=>Y
  |_=>Y
 |.cT t v=>match Bs s v with
  |some (p,d,os)=>Z (p,.cT t d,os)|none=>Y
 |.agg f=>match nN s f with
  |some (p,ds,os)=>Z (p∧ds.all D.leaf=W,.agg ds,os)|none=>Y
 |.gM f=>match nN s f with
  |some (p,ds,os)=>Z (p,.gM ds,os)|none=>Y
 |_=>Y
def nN(s:St):L T->O (Prop×L D×L Nat)
 |[]=>Z (True,[],[])|t::l=>match Bs s t,nN s l with
  |some (p,d,os),Z (q,ds,a)=>Z (p∧q,d::ds,os++a)|_,_=>Y
end
def freeze(s:St):L Nat->O St
 |[]=>Z s|o::l=>
  bif Nl s.fl o then match s.ob.get o with
   |some (.arr sz a era)=>freeze {s with ob:=s.ob.set aR o (.kS sz a era)} l
   |some (.kS _ _ _)=>freeze s l|some (.kX c sz a era m r Y)=>match Iv s m r with
    |some b=>bif l.contains m&&(Nl s.fl m&&Nt m bC)then freeze {s with ob:=(s.ob.set aR m .gone).set aR o (.kS sz (mH c a b) era)} l else Y
    |none=>Y
   |some (.rws ..)=>freeze s l|some .gone=>freeze s l|_=>Y
  else Y
def ey(s:St)(o:Ob):Nat×St:=(s.aL,{s with ob:=s.ob.set aR s.aL o,aL:=Ns s.aL})
def qo:Lk->T->T->O (Prop×Bool)
 |.int k,a,b=>match xM k a,xM k b with
  |some (p,x),Z (q,y)=>Z (p∧q,aa x y)|_,_=>Y
 |.bool,a,b=>match A6 a,A6 b with
  |some (p,x),Z (q,y)=>Z (p∧q,Kn x y)|_,_=>Y
 |.str,a,b=>match zW a,zW b with
  |some (p,x),Z (q,y)=>Z (p∧q,Uj x y)|_,_=>Y
 |.no,_,_=>Y
def j9:L Lk->L T->L T->O (Prop×Bool)
 |[],[],[]=>Z (True,W)|k::c,a::as,b::d=>match qo k a b,j9 c as d with
  |some (p,x),Z (q,y)=>Z (p∧q,bP x y)|_,_=>Y
 |_,_,_=>Y
def aeD:T->T->O (Prop×Bool)
 |.sym (.lit (.pointer Y)),.ptr _ _=>Z (True,J)|.ptr _ _,.sym (.lit (.pointer Y))=>Z (True,J)|_,_=>Y
def aeE:T->T->O (Prop×Bool)
 |.sym (.lit .nilIface),.cT _ _=>Z (True,J)|.cT _ _,.sym (.lit .nilIface)=>Z (True,J)|_,_=>Y
def IX(s:St)(o e:Nat):O (Nat×L D):=
 match s.ob.get o with
 |some (.arr sz a era)=>bif Nq e era then Z (sz,a)else Y|some (.kS sz a era)=>bif Nq e era then Z (sz,a)else Y|_=>Y
def oE(i:TI)(d:D)(off:Nat):O T:=
 bif i.agg then Z (.agg ((List.range i.size).map λj=>.sym (d.cell (Na off j))))
 else bif Nq i.size 1 then Z (.sym (d.cell off))else Y
abbrev mV:=O (Prop×T×St)
def SH:T:=.sym (.lit (.tuple #[]))
def loadT(i:TI)(s:St):T->mV
 |.ptr o off=>match s.ob.get o with
  |some (.box b)=>
   let l:=(b.drop off).take i.size
   bif Nq (cB l) i.size then(vI i.agg l).map λt=>(True,t,s)else Y
  |_=>Y
 |.nJ d off=>(oE i d off).map λt=>(d.has (Na off i.size),t,s)|.lG o e k off=>match IX s o e with
  |some (_,a)=>(oE i (jl a k) off).map λt=>(lg k (eN a)∧(jl a k).has (Na off i.size),t,s)|none=>Y
 |_=>Y
def leaves:L T->Prop
 |[]=>True|t::l=>t.leaf∧leaves l
def storeT(i:TI)(s:St)(a x:T):mV:=
 match kf i x with
 |none=>Y|some (p,l)=>match a with
  |.ptr o off=>match s.ob.get o with
   |some (.box d)=>
    bif Nl s.fl o&&Nl (Na off (cB l)) (cB d)then
     Z (p∧leaves l,SH,{s with ob:=s.ob.set aR o (.box (d.take off++l++d.drop (Na off (cB l))))})
    else Y
   |_=>Y
  |.lG o e k off=>match nN s l with
   |some (q,ds,os)=>match freeze s os with
    |some c=>match c.ob.get o with
     |some (.arr sz b era)=>
      bif Nl c.fl o&&Nq e era then
       Z (p∧q∧ds.all D.leaf=W∧lg k (eN b)∧(jl b k).SN sz off (cB ds)∧Nl (Na off (cB ds)) sz=W∧((jl b k).SG off ds).sj=(jl b k).sj,
        SH,{c with ob:=c.ob.set aR o (.arr sz (wU b k ((jl b k).SG off ds)) era)})
      else Y
     |_=>Y
    |none=>Y
   |none=>Y
  |_=>Y
def GJ(place:Nat->O (Nat×TI))(cells:L T):L (Nat×T)->O (Prop×L T)
 |[]=>Z (True,cells)|(k,v)::a=>match place k with
  |none=>Y|some (off,i)=>match kf i v with
   |none=>Y|some (p,l)=>
    bif Nl (Na off (cB l)) (cB cells)then
     (GJ place (cells.take off++l++cells.drop (Na off (cB l))) a).map λ(q,r)=>(p∧leaves l∧q,r)
    else Y
def rI(fr:Fr):L (Nat×Operand)->O (L (Nat×T))
 |[]=>Z []|(k,x)::l=>match jZ fr x,rI fr l with
  |some t,Z r=>Z ((k,t)::r)|_,_=>Y
def rS(s:St)(i:TI)(es:L D):L (Nat×T)->O (Prop×L D×L Nat)
 |[]=>Z (True,es,[])|(k,v)::a=>match Bs s v with
  |none=>Y|some (p,d,os)=>
   bif Nt k (cB es)then
    (rS s i (es.set k d) a).map λ(q,r,b)=>(p∧(bif i.agg then d.isAgg i.size else d.leaf)=W∧q,r,os++b)
   else Y
def Wa(op:BinOp)(k:IntKind)(m n:Int):O D:=
 match op with
 |.lss=>Z (.lit (.bool (aD m n)))|.leq=>Z (.lit (.bool (bA m n)))|.gtr=>Z (.lit (.bool (aD n m)))|.geq=>Z (.lit (.bool (bA n m)))|.add=>Z (.lit (.int k (aE k m n)))|.sub=>Z (.lit (.int k (bS k m n)))|.mul=>Z (.lit (.int k (Ii k m n)))|_=>Y
def ZS(op:BinOp)(k:IntKind)(m n:Int):O D:=
 match op with
 |.rem=>Z (.lit (.int k (rA m n)))|.quo=>Z (.lit (.int k (aa2 k m n)))|_=>Y
def ZB(i:TI)(a b:T):O (Prop×Bool):=
 bif i.agg then match i.lks,kf i a,kf i b with
  |[],_,_=>Y|k::c,Z (p,as),Z (q,d)=>(j9 (k::c) as d).map λ(r,x)=>(p∧q∧r,x)|_,_,_=>Y
 else match i.kd with
  |.leaf k=>qo k a b|.ptr=>aeD a b|.iface=>aeE a b|_=>Y
def LP(i:TI)(op:BinOp)(a b:T):O (Prop×D):=
 match op with
 |.eql=>(ZB i a b).map λ(p,r)=>(p,.lit (.bool r))|.neq=>(ZB i a b).map λ(p,r)=>(p,.lit (.bool (aq r)))|op=>match i.kd with
  |.leaf (.int k)=>match xM k a,xM k b with
   |some (p,m),Z (q,n)=>match Wa op k m n with
    |some d=>Z (p∧q,d)|none=>(ZS op k m n).map λd=>(p∧q∧ahP n,d)
   |_,_=>Y
  |.leaf .str=>match op,zW a,zW b with
   |.add,Z (p,m),Z (q,n)=>Z (p∧q∧Mz m n,.lit (.string (Sq m n)))|_,_,_=>Y
  |_=>Y
def NJ(fr:Fr):O Operand->O (O T)
 |none=>Z Y|some x=>(jZ fr x).map Z
def wA(dflt:Int):O T->O (Prop×Int)
 |none=>Z (True,dflt)|some t=>xM .i64 t
def sH:T->L Nat
 |.sh o _=>[o]|_=>[]
def pO(i:TI)(s:St)(v:T)(l h m:O T):mV:=
 match i.kd,wA zL l with
 |.leaf .str,Z (p,lo)=>match zW v,m with
  |some (q,b),Y=>match wA (uD b) h with
   |some (r,a)=>Z (p∧q∧r∧yN lo a (uD b),.sym (.lit (.string (My b lo a))),s)|none=>Y
  |_,_=>Y
 |.slice sz _ _ _,Z (p,lo)=>match Bv s v,freeze s (sH v)with
  |some (q,c),Z d=>match wA (eN c) h,m,h with
   |some (r,a),Y,_=>Z (p∧q∧r∧jA c sz∧yN lo a (eN c),.sym (.sl (oJ c lo a)),d)|some (r,a),Z y,Z _=>match y with
    |.kn .i64 0=>Z (p∧q∧r∧lo=zL∧a=zL,.emp,s)|y=>(xM .i64 y).map λ(t,e)=>
     (p∧q∧r∧t∧jA c sz∧yN lo a (eN c)∧e=a,.kq 0 (oJ c lo a),d)
   |_,_,_=>Y
  |_,_=>Y
 |_,_=>Y
def IY:T->O (Prop×Bool)
 |.gd g v=>match A6 v with
  |some (q,y)=>Z (g=W∧q,y)|none=>Y
 |.kb b=>Z (True,b)|.sym d=>Z (d.isBool=W,d.toBool)|_=>Y
def Jq(c a b:T):O (Prop×T):=
 match c with
 |.kb u=>match IY (bif u then a else b)with
  |some (q,y)=>Z (q,.sym (.lit (.bool y)))|none=>Y
 |c=>match A6 c,IY a,IY b with
  |some (p,t),Z (q,x),Z (r,y)=>Z (p∧(t=W->q)∧(t=J->r),.sym (.lit (.bool (aa3 t x y))))|_,_,_=>Y
def lF(i:TI)(s:St)(x b:T):mV:=
 match i.kd,xM .i64 b with
 |.slice sz _ _ _,Z (p,n)=>match x with
  |.sh o e=>match IX s o e with
   |some (z,a)=>bif Nq z sz then Z (p∧lg n (eN a),.lG o e (DL n) 0,s)else Y|none=>Y
  |v=>match Bv s v with
   |some (q,a)=>Z (p∧q∧lg n (eN a)∧(jl a (DL n)).wide sz,.nJ (jl a (DL n)) 0,s)|none=>Y
 |_,_=>Y
def qn(i:TI)(s:St)(k:Nat)(x:T):mV:=
 match i.kd with
 |.struct a=>match nth a k with
  |some (off,size,_)=>bif Nq size 0 then Y else match x with
   |.ptr o b=>Z (True,.ptr o (Na b off),s)|.nJ d b=>Z (True,.nJ d (Na b off),s)|.lG o e j b=>Z (True,.lG o e j (Na b off),s)|_=>Y
  |none=>Y
 |_=>Y
def GK(i:TI)(s:St)(k:Nat)(x:T):mV:=
 match i.kd with
 |.struct a=>match nth a k,kf i x with
  |some (off,size,b),Z (p,c)=>
   let l:=(c.drop off).take size
   bif Nq (cB l) size&&!(Nq size 0)then(vI b l).map λt=>(p,t,s)else Y
  |_,_=>Y
 |_=>Y
def Gt(i:TI)(s:St)(x a:T):mV:=
 match i.kd,xM .i64 a,zW x with
 |.leaf .str,Z (p,n),Z (q,b)=>Z (p∧q∧lg n (uD b),.sym (.lit (.int .u8 (aa1 b n))),s)|_,_,_=>Y
def rm(i:TI)(s:St)(t:TypeId)(ok:Bool)(x:T):mV:=
 match i.kd,x,ok with
 |.iface,_,_=>Y|_,.cT u v,W=>bif Nq u t then Z (True,.gM [v,.kb W],s)else
   (vI i.agg (i.zero.map pZ)).map λz=>(True,.gM [z,.kb J],s)
 |_,.cT u v,J=>bif Nq u t then Z (True,v,s)else Y|_,_,_=>Y
def unT(i:TI)(op:UnOp)(v:T):O (Prop×D):=
 match op,i.kd with
 |.not,.leaf .bool=>(A6 v).map λ(p,b)=>(p,.lit (.bool (aq b)))|.neg,.leaf (.int k)=>(xM k v).map λ(p,n)=>(p,.lit (.int k (Ih k n)))|_,_=>Y
def J1(i j:TI)(s:St)(v:T):mV:=
 match i.kd,j.kd with
 |.leaf (.int k),.leaf (.int l)=>(xM k v).map λ(p,n)=>(p,.sym (.lit (.int l (Sr l n))),s)|.leaf .str,.leaf .str=>(zW v).map λ(p,_)=>(p,v,s)|_,_=>Y
def sS(s:St)(k:Nat):T->mV
 |.gM a=>(nth a k).map λt=>(True,t,s)|.sym d=>Z (d.agL k=W,.sym (d.proj k),s)|_=>Y
def n6(E:Env)(fr:Fr)(s:St)(o:Op):mV:=
 match o with
 |.move x=>(jZ fr x).map λt=>(True,t,s)|.assign x=>(jZ fr x).map λt=>(True,t,s)|.pick c a b=>match jZ fr c,jZ fr a,jZ fr b with
  |some c,Z a,Z b=>(Jq c a b).map λ(p,t)=>(p,t,s)|_,_,_=>Y
 |.alloc t=>match E.ti t with
  |some i=>bif Nt s.aL bC then Z (True,.ptr s.aL 0,(ey s (.box (i.zero.map pZ))).2)else Y|none=>Y
 |.box t x=>match E.ti t,jZ fr x with
  |some i,Z v=>bif Nt s.aL bC then(kf i v).map λ(p,q)=>(p,.ptr s.aL 0,(ey s (.box q)).2)else Y|_,_=>Y
 |.build t parts=>match E.ti t,rI fr parts.toList with
  |some i,Z r=>match i.kd with
   |.struct z=>(GJ (λk=>match nth z k with|some (off,size,g)=>Z (off,{(default:TI)with size:=size,agg:=g})|none=>Y) (i.zero.map pZ) r).map
     λ(p,q)=>(p,.agg q,s)
   |_=>Y
  |_,_=>Y
 |.buildSlice t len parts=>match E.ti t,rI fr parts.toList with
  |some i,Z r=>match i.kd with
   |.slice sz g _ zero=>
    bif (g||Nq sz 1)&&(Nq (cB zero) sz&&(!(Nq sz 0)&&Nl (Nat.mul len sz) 16777216))then
     match rS s {(default:TI)with size:=sz,agg:=g} (List.replicate len (bif g then .agg zero else zero.getD 0 default)) r with
     |some (p,A,os)=>(freeze s os).map λs=>(p,.kq len A,s)|none=>Y
    else Y
   |_=>Y
  |_,_=>Y
 |.load t a=>match E.ti t,jZ fr a with
  |some i,Z a=>loadT i s a|_,_=>Y
 |.store t a x=>match E.ti t,jZ fr a,jZ fr x with
  |some i,Z a,Z x=>storeT i s a x|_,_,_=>Y
 |.nilCheck x=>match jZ fr x with
  |some (.ptr o b)=>Z (True,.ptr o b,s)|some (.nJ d b)=>Z (True,.nJ d b,s)|some (.lG o e j b)=>Z (True,.lG o e j b,s)|some (.cT t v)=>Z (True,.cT t v,s)|some (.fn (.func f) a b)=>Z (True,.fn (.func f) a b,s)|some (.sym d)=>Z (d.ajx=W,.sym d,s)|_=>Y
 |.binOp op t x y _=>match E.ti t,jZ fr x,jZ fr y with
  |some i,Z a,Z b=>(LP i op a b).map λ(p,d)=>(p,.sym d,s)|_,_,_=>Y
 |.unOp op t x=>match E.ti t,jZ fr x with
  |some i,Z v=>(unT i op v).map λ(p,d)=>(p,.sym d,s)|_,_=>Y
 |.convert src u x=>match E.ti src,E.ti u,jZ fr x with
  |some i,Z j,Z v=>J1 i j s v|_,_,_=>Y
 |.makeInterface t x=>match E.ti t,jZ fr x with
  |some i,Z v=>match i.kd with
   |.iface=>Y|_=>Z (True,.cT t v,s)
  |_,_=>Y
 |.makeFunc f first cap=>match ye fr first.toList,ye fr cap.toList with
  |some a,Z b=>Z (True,.fn f a b,s)|_,_=>Y
 |.extract x k=>match jZ fr x with
  |some v=>sS s k v|none=>Y
 |.fieldAddr t x k=>match E.ti t,jZ fr x with
  |some i,Z v=>qn i s k v|_,_=>Y
 |.field t x k=>match E.ti t,jZ fr x with
  |some i,Z v=>GK i s k v|_,_=>Y
 |.indexAddr t x w=>match E.ti t,jZ fr x,jZ fr w with
  |some i,Z v,Z n=>lF i s v n|_,_,_=>Y
 |.index t x w=>match E.ti t,jZ fr x,jZ fr w with
  |some i,Z v,Z n=>Gt i s v n|_,_,_=>Y
 |.slice t x lo B C=>match E.ti t,jZ fr x,NJ fr lo,NJ fr B,NJ fr C with
  |some i,Z v,Z l,Z h,Z m=>pO i s v l h m|_,_,_,_,_=>Y
 |.typeAssert x _ t ok=>match E.ti t,jZ fr x with
  |some i,Z v=>rm i s t ok v|_,_=>Y
 |_=>Y
def D.TE(a b:L D):Prop:=a.length+b.length<=17179869184
def ur(i:TI)(s:St)(x y:T):mV:=
 bif !(Nt s.aL bC)then Y else
 match i.kd,Bv s y with
 |.slice sz _ b _,Z (q,new)=>
  match x with
  |.emp=>Z (q∧jA new sz∧uW new b,.sh s.aL 0,(ey s (.arr sz new 0)).2)|.kq _ a=>
   let c:=q∧jA (iA a new) sz∧uW (iA a new) b∧D.TE a new
   match y with
   |.kq (_+1) _=>Z (c,.sh s.aL 0,(ey s (.arr sz (iA a new) 0)).2)|_=>Z (c,.sym (.sl (iA a new)),s)
  |.sh o e=>match s.ob.get o with
   |some (.arr z a era)=>
    bif Nl s.fl o&&Nq e era&&Nq z sz&&!(sH y).contains o then
     Z (q∧jA new sz∧uW (iA a new) b∧D.TE a new,.sh o (Ns era),{s with ob:=s.ob.set aR o (.arr sz (iA a new) (Ns era))})
    else Y
   |_=>Y
  |_=>Y
 |_,_=>Y
def fH(E:Env)(s:St)(b:Builtin)(a:Array TypeId)(args:L T):mV:=
 match b,args with
 |.len,[x]=>match zW x,(nth a.toList 0).bind E.ti with
  |some (p,b),Z i=>match i.kd with
   |.leaf .str=>Z (p,.sym (.lit (.int .i64 (uD b))),s)|.slice _ _ _ _=>(Bv s x).map λ(p,c)=>(p,.sym (.lit (.int .i64 (eN c))),s)|_=>Y
  |none,Z i=>match i.kd with
   |.slice _ _ _ _=>(Bv s x).map λ(p,c)=>(p,.sym (.lit (.int .i64 (eN c))),s)|_=>Y
  |_,_=>Y
 |.append,[x,y]=>match a.toList with
  |[t,u]=>match E.ti t,E.ti u with
   |some i,Z j=>match j.kd with
    |.slice _ _ _ _=>ur i s x y|_=>Y
   |_,_=>Y
  |_=>Y
 |_,_=>Y
end
end TL
end
section
namespace TL
open Go
section
def xA:T->L T->O (FuncId×L T)
 |.fn (.func f) first cap,args=>Z (f,first++args++cap)
 |_,_=>Y
section
variable (E:Env)
def gamT(s:St)(f:FuncId)(args:L T):O (Prop×T×St):=
 match E.IK f with
 |none=>Y|some c=>match nN s args with
  |none=>Y|some (p,ds,os)=>(freeze s os).map λa=>(p∧c.pre ds,.sym (c.f ds),a)
abbrev amg:=FuncId->L T->St->(T->St->Prop)->(T->St->Prop)->Prop
variable (call:amg)
def aiM(fr:Fr):O Nat->Bool
 |none=>W|some d=>Nt d fr.n
end
def BN:L T->Nat->Tr T->Tr T
 |[],_,t=>t|a::l,k,t=>BN l (Ns k) (t.set aR k a)
def mu(E:Env)(s:St)(fr:Fr):L ResultVar->O (Prop×L T)
 |[]=>Z (True,[])|.tmp t::l=>match fr.get t,mu E s fr l with
  |some x,Z (p,r)=>Z (p,x::r)|_,_=>Y
 |.cell a t::l=>match(E.ti t),fr.get a with
  |some i,Z a=>match loadT i s a,mu E s fr l with
   |some (p,x,_),Z (q,r)=>Z (p∧q,x::r)|_,_=>Y
  |_,_=>Y
def afk:L T->T
 |[x]=>x|l=>.gM l
end
end TL
end
section
namespace TL
section
theorem bR{α:Type}(l:L α):cB l=l.length:=by
 induction l with|nil=>rfl|cons a l b=>simp[cB,b]
theorem kO{α:Type}(l:L α)(k:Nat):nth l k=l[k]?:=by
 induction l generalizing k with
 |nil=>cases k<;>rfl
 |cons a l b=>cases k with|zero=>rfl|succ k=>simp[nth,b]
namespace Tr
variable {α:Type}
theorem get_nil(k:Nat):(Tr.nil:Tr α).get k=Y:=by cases k<;>rfl
theorem jd(v:O α)(l r:Tr α):(Tr.node v l r).get 0=v:=by simp[get]
def dI(v:O α)(l r:Tr α)(k:Nat):(Tr.node v l r).get (k+1)=if k%2=0 then l.get (k/2)else r.get (k/2):=by
 simp[get];by_cases h:k%2=0
 .have:Nq (Nat.mod k 2) 0=W:=by show Nq (k%2) 0=W;rw[h];rfl
  simp[this,h];rfl
 .have:Nq (Nat.mod k 2) 0=J:=by
   show Nq (k%2) 0=J;have:k%2=1:=by omega
   rw[this];rfl
  simp[this,h];rfl
theorem Iu(n:Nat)(v:O α)(l r:Tr α)(x:α):Tr.set (n+1) (.node v l r) 0 x=.node (Z x) l r:=rfl
theorem zZ(n:Nat)(x:α):Tr.set (n+1) .nil 0 x=.node (Z x) .nil .nil:=rfl
def nC(n:Nat)(v:O α)(l r:Tr α)(k:Nat)(x:α) :
  Tr.set (n+1) (.node v l r) (k+1) x=if k%2=0 then .node v (Tr.set n l (k/2) x) r else .node v l (Tr.set n r (k/2) x):=by
 simp[set];by_cases h:k%2=0
 .have:Nq (Nat.mod k 2) 0=W:=by show Nq (k%2) 0=W;rw[h];rfl
  simp[this,h];rfl
 .have:Nq (Nat.mod k 2) 0=J:=by
   show Nq (k%2) 0=J;have:k%2=1:=by omega
   rw[this];rfl
  simp[this,h];rfl
def oL(n:Nat)(k:Nat)(x:α) :
  Tr.set (n+1) .nil (k+1) x=if k%2=0 then .node Y (Tr.set n .nil (k/2) x) .nil else .node Y .nil (Tr.set n .nil (k/2) x):=by
 simp[set];by_cases h:k%2=0
 .have:Nq (Nat.mod k 2) 0=W:=by show Nq (k%2) 0=W;rw[h];rfl
  simp[this,h];rfl
 .have:Nq (Nat.mod k 2) 0=J:=by
   show Nq (k%2) 0=J;have:k%2=1:=by omega
   rw[this];rfl
  simp[this,h];rfl
def adb(n:Nat):∀(t:Tr α)(k j:Nat)(x:α),k+1<2 ^ n->(Tr.set n t k x).get j=if j=k then Z x else t.get j:=by
 induction n with
 |zero=>omega|succ n d=>
  intro t k j x h;cases k with
  |zero=>
   cases t with
   |nil=>
    rw[zZ];cases j with|zero=>rfl|succ j=>rw[dI];simp[get_nil]
   |node v l r=>
    cases j with|zero=>rfl|succ j=>rfl
  |succ k=>
   have c:k/2+1<2 ^ n:=by omega
   cases t with
   |nil=>
    rw[oL];cases j with
    |zero=>split<;>simp[jd,get_nil]
    |succ j=>
     by_cases a:k%2=0
     .rw[cn a,dI,get_nil];by_cases b:j%2=0
      .grind[get_nil]
      .rw[bJ b,get_nil,bJ (by omega)]
     .rw[bJ a,dI,get_nil];by_cases b:j%2=0
      .rw[cn b,get_nil,bJ (by omega)]
      .grind[get_nil]
   |node v l r=>
    rw[nC];cases j with
    |zero=>split<;>simp[jd]
    |succ j=>
     by_cases a:k%2=0
     .rw[cn a,dI,dI]
      grind
     .rw[bJ a,dI,dI]
      grind
def bn(t:Tr α)(k j:Nat)(x:α)(h:k<bC):(Tr.set aR t k x).get j=if j=k then Z x else t.get j:=
 adb _ _ _ _ _ (by unfold aR;unfold bC at h;omega)
end Tr
end
end TL
end
section
namespace TL
open Go
section
structure ff where
 a:Option Addr
 len:Nat
 cap:Nat
 sz:Nat
structure Gh where
 bV:Nat->Option Nat
 arr:Nat->Nat->Option ff
 bx:Nat->Prop
inductive ew(I:Nat->Prop)(w:World):D->Value->Prop where
 |lit (v:Value):ew I w (.lit v) v|sl (es:List D) (a:Option Addr) (cap sz:Nat) (val:Nat->Nat->Value)
   (hcap:es.length<=cap) (hsz:∀d∈es,d.cells.length=sz) (hby:∀d∈es,es.length*d.sj<=281474976710656)
   (ha:es≠[]->∃ad,a=Z ad∧I ad.block∧∀i j d c,es[i]?=Z d->d.cells[j]?=Z c->w.cell? (ad.add (i*sz+j))=Z (val i j))
   (hc:∀i j d c,es[i]?=Z d->d.cells[j]?=Z c->ew I w c (val i j)):ew I w (.sl es) (.slice a es.length cap)
 |agg (cs:List D) (vs:Array Value) (hl:cs.length=vs.size) (hf:∀c∈cs,c.leaf=W)
   (h:∀(j:Nat)(c:D)(v:Value),cs[j]?=Z c->vs[j]?=Z v->ew I w c v):ew I w (.agg cs) (.agg vs)
 |cT (t:TypeId) (d:D) (v:Value) (h:ew I w d v):ew I w (.cT t d) (.iface t v)|gM (ds:List D) (vs:Array Value) (hl:ds.length=vs.size)
   (h:∀(j:Nat)(c:D)(v:Value),ds[j]?=Z c->vs[j]?=Z v->ew I w c v):ew I w (.gM ds) (.tuple vs)
def uT(I:Nat->Prop)(w w':World):Prop:=∀b,I b->w'.heap[b]?=w.heap[b]?
theorem uT.cell{I:Nat->Prop}{w w':World}(h:uT I w w'){a:Addr}(b:I a.block):w'.cell? a=w.cell? a:=by unfold World.cell?;rw[h _ b]
def l8(a:Addr)(n:Nat):(a.add n).block=a.block:=by unfold Addr.add;split<;>rfl
theorem ew.mono{I p:Nat->Prop}{w w':World}(r:uT I w w')(s:∀b,I b->p b){d:D}{v:Value}(h:ew I w d v):ew p w' d v:=by
 induction h with
 |lit v=>exact .lit v|sl u a cap sz val f g k x E e=>
  refine .sl u a cap sz val f g k (λl=>?_) e
  let ⟨y,z,q,m⟩:=x l
  refine⟨y,z,s _ q,λi j d c F A=>?_⟩;rw[r.cell (by rw[l8];exact q)]
  simp_all
 |agg B n o C h e=>exact .agg B n o C e|cT t d v h e=>exact .cT t d v e|gM ds n o h e=>exact .gM ds n o e
def rc(r i:Nat):Nat:=2 ^ r*(2*i+1)
def jw(nj:Nat)(d:D)(h:Value):D:=.agg (d.cells.set nj (.lit h))
inductive aP(g:Gh)(w:World):T->Value->Prop where
 |sym (d:D) (v:Value) (h:ew g.bx w d v):aP g w (.sym d) v|kb (b:Bool):aP g w (.kb b) (.bool b)|kn (k:IntKind) (n:Int):aP g w (.kn k n) (.int k n)|ptr (o off b:Nat) (h:g.bV o=Z b):aP g w (.ptr o off) (.pointer (Z ⟨b,off,Y⟩))|nJ (d:D) (off:Nat) (ad:Addr) (val:Nat->Value) (hi:g.bx ad.block)
   (hc:∀j c,d.cells[j]?=Z c->w.cell? (ad.add j)=Z (val j)) (hd:∀j c,d.cells[j]?=Z c->ew g.bx w c (val j)) :
   aP g w (.nJ d off) (.pointer (Z (ad.add off)))
 |lG (o e i off len cap sz:Nat) (ad:Addr) (h:g.arr o e=Z ⟨Z ad,len,cap,sz⟩):aP g w (.lG o e i off) (.pointer (Z (ad.add (i*sz+off))))|sh (o e len cap sz:Nat) (a:Option Addr) (h:g.arr o e=Z ⟨a,len,cap,sz⟩):aP g w (.sh o e) (.slice a len cap)|emp (a:Option Addr):aP g w .emp (.slice a 0 0)|kq (n:Nat) (es:List D) (a:Option Addr) (hn:n<=es.length) (h:ew g.bx w (.sl es) (.slice a es.length es.length)):aP g w (.kq n es) (.slice a es.length es.length)|fn (f:Fn) (fs cs:List T) (va vc:Array Value) (hl:fs.length=va.size) (hm:cs.length=vc.size)
   (h:∀(j:Nat)(t:T)(v:Value),fs[j]?=Z t->va[j]?=Z v->aP g w t v)
   (h':∀(j:Nat)(t:T)(v:Value),cs[j]?=Z t->vc[j]?=Z v->aP g w t v):aP g w (.fn f fs cs) (.func f va vc)
 |cT (t:TypeId) (x:T) (v:Value) (h:aP g w x v):aP g w (.cT t x) (.iface t v)|agg (cs:List T) (vs:Array Value) (hl:cs.length=vs.size)
   (h:∀(j:Nat)(t:T)(v:Value),cs[j]?=Z t->vs[j]?=Z v->aP g w t v):aP g w (.agg cs) (.agg vs)
 |gM (cs:List T) (vs:Array Value) (hl:cs.length=vs.size)
   (h:∀(j:Nat)(t:T)(v:Value),cs[j]?=Z t->vs[j]?=Z v->aP g w t v):aP g w (.gM cs) (.tuple vs)
 |gd (c:Bool) (t:T) (v:Value) (h:c=W->aP g w t v):aP g w (.gd c t) v|mp (o b:Nat) (h:g.bV o=Z b):aP g w (.mp o) (.map (Z b))|rB (o b:Nat) (h:g.bV o=Z b):aP g w (.rB o) (.func (.yield b) #[] #[])|s7 (o b:Nat) (h:g.bV o=Z b):aP g w (.s7 o) (.pointer (Z ⟨b,0,Y⟩))|ub (e b:Bool) (h:b=W->e=W):aP g w (.ub e) (.bool b)|rM (o m r i len cap sz:Nat) (a:Option Addr) (h:g.arr m (rc r i)=Z ⟨a,len,cap,sz⟩):aP g w (.rM o m r i) (.slice a len cap)|oY (j:Nat) (d:D) (c:Option Addr) (a:Option Addr) (hj:d.cells[j]?=Z (.sl [])) (hd:ew g.bx w (.sl [jw j d (.slice c 0 0)]) (.slice a 1 1)):aP g w (.oY j d) (.slice a 1 1)
inductive iy(g:Gh)(w:World):Ob->Obj->Prop where
 |box (cs:List T) (vs:Array Value) (ty:TypeId) (hl:cs.length=vs.size) (h:∀(j:Nat)(t:T)(v:Value),cs[j]?=Z t->vs[j]?=Z v->aP g w t v):iy g w (.box cs) (.cells vs ty (0,0))|map (es:List (T×T)) (ms:Array MapEntry) (c:Nat) (hl:es.length=ms.size)
   (h:∀(j:Nat)(t:T×T)(m:MapEntry),es[j]?=Z t->ms[j]?=Z m->aP g w t.1 m.key∧aP g w t.2 m.val):iy g w (.map es) (.map ms c)
 |qE (s:ByteArray) (pos:Nat):iy g w (.qE s pos) (.stringIter s pos)|lp (l:Lp) (r:Loop) (h1:r.state=l.st) (h2:r.pending=l.u5) (h4:r.params.toList=l.params) (h5:r.assign=l.assign) (h6:r.body=l.body)
   (h8:r.tmps.size=l.fr.n) (h9:∀k t,l.fr.get k=Z t->∃v,r.tmps[k]?=Z v∧aP g w t v):iy g w (.lp l) (.loop r)
 |zP:iy g w .zP (.deferred (Z []))
def bG(g:Gh)(o b:Nat):Prop:=¬g.bx b∧(g.bV o=Z b∨∃e x ad,g.arr o e=Z x∧x.a=Z ad∧ad.block=b∧x.cap≠0)
structure wZ(g:Gh)(w:World)(fz:Bool)(sz:Nat)(es:List D)(x:ff):Prop where
 len:x.len=es.length
 cap:x.len<=x.cap
 rows:∀d∈es,d.cells.length=sz
 pos:0<sz
 byt:∀d∈es,es.length*d.sj<=281474976710656
 emp:es=[]->x.cap=0
 mem:x.cap≠0->∃b vs ty,x.a=Z ⟨b,0,Y⟩∧(fz=W↔g.bx b)∧w.heap[b]?=Z (.cells vs ty (0,0))∧x.cap*sz<=vs.size∧
  ∀i d j c,es[i]?=Z d->d.cells[j]?=Z c->∃v,vs[i*sz+j]?=Z v∧ew g.bx w c v
def fT(fz:Bool)(sz:Nat)(es:L D)(era:Nat):Ob:=if fz then .kS sz es era else .arr sz es era
def wV(g:Gh)(s:St)(w:World)(o b:Nat):Prop:=
 ¬g.bx b∧b<w.heap.size∧∀ob,s.ob.get o=Z ob->∃h,w.heap[b]?=Z h∧iy g w ob h
def wV.box{g:Gh}{s:St}{w:World}{o b:Nat}(h:wV g s w o b){cs:L T}(c:s.ob.get o=Z (.box cs)) :
  ∃vs ty,w.heap[b]?=Z (.cells vs ty (0,0))∧cs.length=vs.size∧∀(j:Nat)(t:T)(v:Value),cs[j]?=Z t->vs[j]?=Z v->aP g w t v:=by
 let ⟨x,d,a⟩:=h.2.2 _ c
 cases a with|box cs vs ty e a=>grind
variable {s:St}{w w':World}{o b e fl:Nat}{ob:Ob}{d:Df}{v:Value}{t:T}{p:T->Bool}
def wV.BH{g:Gh}(h:wV g s w o b)(fz:Bool){sz:Nat}{es:L D}(a:s.ob.get o=Z (if fz then .kS sz es e else .arr sz es e)):False:=by
 let ⟨x,d,c⟩:=h.2.2 _ a
 cases fz<;>cases c
def iy.BH{g:Gh}{h:Obj}(a:iy g w ob h):ob.oH=J:=by cases a<;>rfl
def ff.at(x:ff)(b:Nat):Prop:=∃ad,x.a=Z ad∧ad.block=b∧x.cap≠0
def lits(nj:Nat)(es:L D)(hs:L Value):L D:=List.zipWith (jw nj) es hs
def I1(g:Gh)(m gW:Nat)(hole:O Nat)(hs:L Value):Prop:=
 (∀(i:Nat)(h:Value),hs[i]?=Z h->∃a n k,h=.slice a n k)∧∀(i:Nat)(h:Value),hs[i]?=Z h->hole≠Z i->∃y,g.arr m (rc gW i)=Z y∧h=.slice y.a y.len y.cap
def Ua(g:Gh)(w:World)(o e:Nat)(x:ff)(ob:Ob):Prop:=
 ∃fz es era,ob=fT fz x.sz es era∧e<=era∧(∀a,era<a->g.arr o a=Y)∧(e=era->wZ g w fz x.sz es x)
def al4(g:Gh)(w:World)(o e:Nat)(x:ff)(ob:Ob):Prop:=
 ∃nj es era m gW hole,ob=.kX nj x.sz es era m gW hole∧e<=era∧(∀a,era<a->g.arr o a=Y)∧
  (e=era->∃hs,hs.length=es.length∧wZ g w J x.sz (lits nj es hs) x∧I1 g m gW hole hs)
def alU(g:Gh)(w:World)(o e:Nat)(x:ff)(ob:Ob):Prop:=
 ∃sz iO gW,ob=.rws sz iO gW∧(∀r i,gW<r->g.arr o (rc r i)=Y)∧
  (∀i a y c,i≠a->g.arr o (rc gW i)=Z y->g.arr o (rc gW a)=Z c->∀b,y.at b->¬c.at b)∧
  (∀i,e=rc gW i->x.sz=sz∧∃d,iO[i]?=Z d∧wZ g w J sz d x)
def al5(g:Gh)(w:World)(e:Nat)(x:ff)(ob:Ob):Prop:=
 ob=.FQ∧x.a=Z ⟨e,0,Y⟩∧x.cap≠0∧¬g.bx e∧w.heap[e]?=Z (.deferred (Z []))
def uX(g:Gh)(w:World)(o e:Nat)(x:ff)(ob:Ob):Prop:=
 Ua g w o e x ob∨al4 g w o e x ob∨alU g w o e x ob∨ob=.gone∨al5 g w e x ob
def uX.oH{g:Gh}{w:World}{o e:Nat}{x:ff}{ob:Ob}(h:uX g w o e x ob):ob.oH=W:=by
 obtain⟨a,_,_,rfl,_⟩|⟨_,_,_,_,_,_,rfl,_⟩|⟨_,_,_,rfl,_⟩|rfl|⟨rfl,_⟩:=h
 .cases a<;>rfl
 .rfl
 .rfl
 .rfl
 .rfl
def uX.old{g:Gh}{x:ff}(h:uX g w o e x ob)(a:ob.isA=W):Ua g w o e x ob:=by
 obtain h|⟨_,_,_,_,_,_,rfl,_⟩|⟨_,_,_,rfl,_⟩|rfl|⟨rfl,_⟩:=h
 .exact h
 .cases a
 .cases a
 .cases a
 .cases a
def Bp(g:Gh)(s:St)(w:World)(o e:Nat)(x:ff):Prop:=
 (∀ad,x.a=Z ad->x.cap≠0->ad.block<w.heap.size)∧∀ob,s.ob.get o=Z ob->uX g w o e x ob
def Bp.old{g:Gh}{s:St}{w:World}{o e:Nat}{x:ff}(h:Bp g s w o e x)(ob:Ob)(b:s.ob.get o=Z ob)(c:ob.isA=W) :
  ∃fz es era,ob=fT fz x.sz es era∧e<=era∧(∀a,era<a->g.arr o a=Y)∧(e=era->wZ g w fz x.sz es x):=(h.2 ob b).old c
def Wg(fz:Bool)(sz:Nat)(es:L D)(era:Nat):(fT fz sz es era).isA=W:=by cases fz<;>rfl
structure bq(g:Gh)(s:St)(w:World):Prop where
 aL:s.aL<=bC
 ai:∀o,s.aL<=o->g.bV o=Y∧∀e,g.arr o e=Y
 box:∀o b,g.bV o=Z b->wV g s w o b
 arr:∀o e x,g.arr o e=Z x->Bp g s w o e x
 bx:∀b,g.bx b->b<w.heap.size
 kJ:∀o o' b,bG g o b->bG g o' b->o=o'
inductive wT(g:Gh)(w:World):Df->Deferred->Prop where
 |call (f:T) (args:List T) (fv:Fn) (first cap WQ:Array Value) (h3:aP g w f (.func fv first cap)) (h4:args.length=WQ.size)
   (h5:∀(j:Nat)(t:T)(v:Value),args[j]?=Z t->WQ[j]?=Z v->aP g w t v):wT g w (.call f args) {target:=.fn fv cap,args:=first++WQ}
 |mark (o b:Nat) (h:g.bV o=Z b):wT g w (.mark o) {target:=.collected b,args:=#[]}|bad (d:Deferred):wT g w .bad d
inductive eU(g:Gh)(w:World):List Df->List Deferred->Prop where
 |nil:eU g w [] []|cons {d:Df} {e:Deferred} {l:List Df} {m:List Deferred} (h:wT g w d e) (t:eU g w l m):eU g w (d::l) (e::m)
 |marks (o:Nat) (bs:List Nat) {l:List Df} {m:List Deferred} (hn:bs.Nodup) (h:∀b∈bs,∃n c,aP g w (.sh o b) (.slice (Z ⟨b,0,Y⟩) n c)) (t:eU g w l m):eU g w (.marks o::l) (bs.map (λb=>{target:=.collected b,args:=#[]})++m)
 |kg (xs:List Deferred) {l:List Df} {m:List Deferred} (t:eU g w l m):eU g w (.kg::l) (xs++m)
structure cL(g:Gh)(fr:Fr)(a:Act)(w:World):Prop where
 size:a.tmps.size=fr.n
 df:eU g w fr.df a.defers
 tm:∀k t,fr.get k=Z t->∃v,a.tmps[k]?=Z v∧aP g w t v
structure Ext(fl:Nat)(g:Gh)(w:World)(g':Gh)(w':World):Prop where
 bV:∀o b,g.bV o=Z b->g'.bV o=Z b
 arr:∀o e x,g.arr o e=Z x->g'.arr o e=Z x
 bx:∀b,g.bx b->g'.bx b
 size:w.heap.size<=w'.heap.size
 heap:∀b,b<w.heap.size->(∀o,fl<=o->¬bG g o b)->w'.heap[b]?=w.heap[b]?
 own:∀o b,bG g' o b->bG g o b∨w.heap.size<=b
 rO:∀b,g'.bx b->g.bx b∨w.heap.size<=b∨∃o,fl<=o∧bG g o b
 os:w'.os=w.os
 output:w'.output=w.output
theorem Ext.refl(fl:Nat)(g:Gh)(w:World):Ext fl g w g w:=
 ⟨λ_ _ h=>h,λ_ _ _ h=>h,λ_ h=>h,cu _,λ_ _ _=>rfl,λ_ _ h=>.inl h,λ_ h=>.inl h,rfl,rfl⟩
def Ext.trans{fl:Nat}{g g' d:Gh}{w w' f:World}(h:Ext fl g w g' w')(k:Ext fl g' w' d f):Ext fl g w d f where
 bV o b e:=k.bV o b (h.bV o b e)
 arr o e x i:=k.arr o e x (h.arr o e x i)
 bx b e:=k.bx b (h.bx b e)
 size:=gk h.size k.size
 heap b c j:=by
  rw[k.heap b (iP c h.size) (λo l a=>?_),h.heap b c j];obtain a|a:=h.own o b a
  .grind
  .omega
 own o b a:=by
  obtain a|a:=k.own o b a
  .exact h.own o b a
  .exact .inr (gk h.size a)
 rO b c:=by
  obtain c|c|⟨o,l,a⟩:=k.rO b c
  .exact h.rO b c
  .exact .inr (.inl (gk h.size c))
  .obtain a|a:=h.own o b a
   .grind
   omega
 os:=k.os.trans h.os
 output:=k.output.trans h.output
def Ext.keeps{g g':Gh}(h:Ext fl g w g' w')(c:∀b,g.bx b->b<w.heap.size):uT g.bx w w':=
 λb a=>h.heap b (c b a) λ_ _ d=>d.1 a
def ew.ext{g g':Gh}(h:Ext fl g w g' w')(a:∀b,g.bx b->b<w.heap.size){d:D}(c:ew g.bx w d v):ew g'.bx w' d v:=
 c.mono (h.keeps a) h.bx
def aP.ext{fl:Nat}{g g':Gh}{w w':World}(h:Ext fl g w g' w')(s:∀b,g.bx b->b<w.heap.size){t:T}{v:Value}(I:aP g w t v):aP g' w' t v:=by
 induction I with|sym d v p=>exact .sym d v (p.ext h s)|kb b=>exact .kb b|kn k n=>exact .kn k n|ptr o off b q=>exact .ptr o off b (h.bV o b q)|nJ d off C val u hc p=>exact .nJ d off C val (h.bx _ u) (λj c B=>by rw[(h.keeps s).cell (by rw[l8];exact u)];grind) (λj c B=>(p j c B).ext h s)|lG o e i off len cap sz C y=>exact .lG o e i off len cap sz C (h.arr _ _ _ y)|sh o e len cap sz a y=>exact .sh o e len cap sz a (h.arr _ _ _ y)|emp a=>exact .emp a|kq n K a P p=>exact .kq n K a P (p.ext h s)|fn f R z S vc A hm _ _ l E=>exact .fn f R z S vc A hm l E|cT t x v _ l=>exact .cT t x v l|agg z F A _ l=>exact .agg z F A l|gM z F A _ l=>exact .gM z F A l|gd c t v _ l=>exact .gd c t v l|mp o b q=>exact .mp o b (h.bV o b q)|rB o b q=>exact .rB o b (h.bV o b q)|s7 o b q=>exact .s7 o b (h.bV o b q)|ub e b h=>exact .ub e b h|rM o m r i len cap sz a y=>exact .rM o m r i len cap sz a (h.arr _ _ _ y)|oY j d c a B p=>exact .oY j d c a B (p.ext h s)
def aP.aq5{g g':Gh}(B:∀k j y,g.arr k j=Z y->g'.arr k j=Z y)(A:g'.bV=g.bV)(q:g'.bx=g.bx)(P:aP g w t v):aP g' w t v:=by
 induction P with|sym d v p=>exact .sym d v (q▸p)|kb b=>exact .kb b|kn k n=>exact .kn k n|ptr o off b h=>exact .ptr o off b (A▸h)|nJ d off C val E R p=>exact .nJ d off C val (q▸E) R (λj c F=>q▸p j c F)|lG o e i off len cap sz C s=>exact .lG o e i off len cap sz C (B _ _ _ s)|sh o e len cap sz a s=>exact .sh o e len cap sz a (B _ _ _ s)|emp a=>exact .emp a|kq n S a hn p=>exact .kq n S a hn (q▸p)|fn f fs u va vc z hm _ _ l I=>exact .fn f fs u va vc z hm l I|cT t x v _ l=>exact .cT t x v l|agg u K z _ l=>exact .agg u K z l|gM u K z _ l=>exact .gM u K z l|gd c t v _ l=>exact .gd c t v l|mp o b h=>exact .mp o b (A▸h)|rB o b h=>exact .rB o b (A▸h)|s7 o b h=>exact .s7 o b (A▸h)|ub e b h=>exact .ub e b h|rM o m r i len cap sz a s=>exact .rM o m r i len cap sz a (B _ _ _ s)|oY j d c a F p=>exact .oY j d c a F (q▸p)
def iy.imp{g g':Gh}(b:∀t v,aP g w t v->aP g' w' t v){x:Obj}(a:iy g w ob x):iy g' w' ob x:=by
 cases a with
 |box e f ty d a=>exact .box e f ty d λj t v h1 h2=>b _ _ (a j t v h1 h2)|map h i c d a=>exact .map h i c d λj t m h1 h2=>⟨b _ _ (a j t m h1 h2).1,b _ _ (a j t m h1 h2).2⟩|qE s pos=>exact .qE s pos|lp l r h1 h2 h4 h5 h6 n o=>exact .lp l r h1 h2 h4 h5 h6 n λk t p=>let ⟨v,q,u⟩:=o k t p;⟨v,q,b _ _ u⟩
 |zP=>exact .zP
def iy.ext{fl:Nat}{g g':Gh}{w w':World}(h:Ext fl g w g' w')(a:∀b,g.bx b->b<w.heap.size){ob:Ob}{x:Obj}(c:iy g w ob x):iy g' w' ob x:=
 c.imp (λ_ _ d=>d.ext h a)
def uS(p:T->Bool)(t u:T):Prop:=(u=t∧p t=J)∨∃v,u=.gd J v
def rq(p:T->Bool)(ob a:Ob):Prop:=
 match ob,a with
 |.box cs,.box ds=>cs.length=ds.length∧∀(j:Nat)(t u:T),cs[j]?=Z t->ds[j]?=Z u->uS p t u|.map es,.map ds=>es.length=ds.length∧∀(j:Nat)(t u:T×T),es[j]?=Z t->ds[j]?=Z u->uS p t.1 u.1∧uS p t.2 u.2|.kX nj sz es era m gW hole,a=>(a=.kX nj sz es era m gW hole∧p (.sh m 0)=J)∨a=.gone|.lp l,.lp m=>m={l with fr:=m.fr}∧m.fr.n=l.fr.n∧∀k u,m.fr.get k=Z u->∃t,l.fr.get k=Z t∧uS p t u
 |ob,a=>ob=a
def uS.rel{g g':Gh}(a:∀t v,aP g w t v->p t=J->aP g' w' t v){u:T}(h:uS p t u)(b:aP g w t v):aP g' w' u v:=by
 obtain⟨rfl,c⟩|⟨x,rfl⟩:=h
 .grind
 .exact .gd _ _ _ λh=>by cases h
def iy.left{g g':Gh}(i:∀t v,aP g w t v->p t=J->aP g' w' t v){a:Ob}{x:Obj}(b:iy g w ob x)(hl:rq p ob a):iy g' w' a x:=by
 cases b with
 |box z A ty d b=>
  cases a with
  |box ds=>
   let ⟨B,n⟩:=hl
   refine .box ds A ty (by omega) λj u v f o=>?_;have h:j<z.length:=by grind
   exact(n j _ u (iZ h) f).rel i (b j _ v (iZ h) o)
  |_=>cases hl
 |map C E c d b=>
  cases a with
  |map ds=>
   let ⟨B,n⟩:=hl
   refine .map ds E c (by omega) λj u m f F=>?_;have h:j<C.length:=by grind
   have h1:=n j _ u (iZ h) f;have h2:=b j _ m (iZ h) F;exact⟨h1.1.rel i h2.1,h1.2.rel i h2.2⟩
  |_=>cases hl
 |qE s pos=>cases a<;>first|(cases hl;exact .qE _ _)|cases hl
 |lp l r h1 h2 h4 h5 h6 I K=>
  cases a with
  |lp m=>
   let ⟨e,P,R⟩:=hl
   rw[e];refine .lp _ r h1 h2 h4 h5 h6 (I.trans P.symm) λk u f=>?_
   let ⟨t,S,q⟩:=R k u f
   let ⟨v,o,y⟩:=K k t S
   exact⟨v,o,q.rel i y⟩
  |_=>cases hl
 |zP=>cases a<;>first|exact .zP|cases hl
def wT.imp{g g':Gh}(c:∀t v,aP g w t v->aP g' w' t v)(i:∀o b,g.bV o=Z b->g'.bV o=Z b){e:Deferred}(h:wT g w d e):wT g' w' d e:=by
 cases h with
 |call f args k first cap a h3 h4 h5=>exact .call f args k first cap a (c _ _ h3) h4 (λj t v l m=>c _ _ (h5 j t v l m))
 |mark o b h=>exact .mark o b (i o b h)|bad=>exact .bad _
def eU.imp{g g':Gh}{w w':World}(e:∀t v,aP g w t v->aP g' w' t v)(f:∀o b,g.bV o=Z b->g'.bV o=Z b){l:L Df}{m:L Deferred}(h:eU g w l m):eU g' w' l m:=by
 induction h with|nil=>exact .nil|cons h _ a=>exact .cons (h.imp e f) a|marks o i j h _ a=>exact .marks o i j (λb d=>let ⟨n,c,h1⟩:=h b d;⟨n,c,e _ _ h1⟩) a|kg k _ a=>exact .kg k a
def RV(p:T->Bool)(d e:Df):Prop:=(e=.bad∧d.one=W)∨(e=d∧match d with
 |.call f args=>p f=J∧∀t∈args,p t=J|.mark o=>p (.ptr o 0)=J|.marks _=>False|.kg=>False|.bad=>True)
inductive iz(p:T->Bool):List Df->List Df->Prop where
 |nil:iz p [] []|cons {d e:Df} {l m:List Df} (h:RV p d e) (t:iz p l m):iz p (d::l) (e::m)|marks (o:Nat) {l m:List Df} (h:∀e,p (.sh o e)=J) (t:iz p l m):iz p (.marks o::l) (.marks o::m)|afK (o:Nat) {l m:List Df} (t:iz p l m):iz p (.marks o::l) (.kg::m)|kg {l m:List Df} (t:iz p l m):iz p (.kg::l) (.kg::m)
def RV.rel{g g':Gh}(c:∀t v,aP g w t v->p t=J->aP g' w' t v){e:Df}{x:Deferred}(h:RV p d e)(l:wT g w d x):wT g' w' e x:=by
 obtain⟨rfl,_⟩|⟨rfl,h⟩:=h
 .exact .bad _
 .cases l with
  |call f args m first cap a h3 h4 h5=>exact .call f args m first cap a (c _ _ h3 h.1) h4 (λj t v k n=>c _ _ (h5 j t v k n) (h.2 t (hJ k)))
  |mark o b q=>
   have:=c _ _ (.ptr o 0 b q) h;cases this with|ptr _ _ _ i=>exact .mark o b i
  |bad=>exact .bad _
def iz.rel{g g':Gh}{w w':World}{p:T->Bool}(a:∀t v,aP g w t v->p t=J->aP g' w' t v):∀{l m:L Df}{d:L Deferred},iz p l m->eU g w l d->eU g' w' m d
 |_,_,_,.nil,.nil=>.nil|_,_,_,.cons h t,.cons k u=>.cons (h.rel a k) (iz.rel a t u)|_,_,_,.cons h _,.marks _ _ _ _ _=>by obtain⟨_,h⟩|⟨_,h⟩:=h<;>cases h
 |_,_,_,.cons h _,.kg _ _=>by obtain⟨_,h⟩|⟨_,h⟩:=h<;>cases h
 |_,_,_,.marks o h t,.marks _ e f k u=>.marks o e f (λb i=>let ⟨n,c,h1⟩:=k b i;⟨n,c,a _ _ h1 (h b)⟩) (iz.rel a t u)
 |_,_,_,.marks _ _ _,.cons k _=>by cases k
 |_,_,_,.afK o t,.marks _ e _ _ u=>.kg _ (iz.rel a t u)|_,_,_,.afK _ _,.cons k _=>by cases k
 |_,_,_,.kg t,.kg d u=>.kg d (iz.rel a t u)|_,_,_,.kg _,.cons k _=>by cases k
def cL.ext{fl:Nat}{g g':Gh}{w w':World}(h:Ext fl g w g' w')(d:∀b,g.bx b->b<w.heap.size){fr:Fr}{a:Act}(hf:cL g fr a w):cL g' fr a w':=
 ⟨hf.size,hf.df.imp (λ_ _ c=>c.ext h d) h.bV,λk t e=>let ⟨v,f,c⟩:=hf.tm k t e;⟨v,f,c.ext h d⟩⟩
end
section
def ee:TypeDesc->Bool
 |.struct _|.array _ _=>W|_=>J
def ahk(d:D)(v:Value):Prop:=(d=.sl []∧v=.slice Y 0 0)∨d=.lit v
def ZOk(zero:L D)(cells:Array Value):Prop:=
 zero.length=cells.size∧∀(j:Nat)(d:D)(v:Value),zero[j]?=Z d->cells[j]?=Z v->ahk d v
def al7(P:Program):Kd->TypeDesc->Prop
 |.leaf (.int k),d=>d=.int k|.leaf .bool,d=>d=.bool|.leaf .str,d=>d=.string|.leaf .no,_=>True|.ptr,d=>∃e,d=.pointer e|.slice sz ag b zero,d=>∃e j a z,d=.slice e∧P.info? e=Z j∧j.size=sz∧P.underlying e=Z a∧ag=ee a∧j.zero=Z z∧ZOk zero z.cells∧j.bytes<=4096∧0<sz∧j.bytes<=b∧b<=2*j.bytes∧0<j.bytes∧zero.length=sz|.struct c,d=>∃fields,d=.struct fields∧fields.size=c.length∧∀(k:Nat)off size ag,c[k]?=Z (off,size,ag)->
   ∃f j a,fields[k]?=Z f∧f.offset=off∧P.info? f.type=Z j∧j.size=size∧P.underlying f.type=Z a∧ag=ee a
 |.array len sz ag,d=>∃e j a,d=.array len e∧P.info? e=Z j∧j.size=sz∧P.underlying e=Z a∧ag=ee a|.iface,d=>∃g,d=.interface g|.other,_=>True
def Bh:Lk->Value->Prop
 |.int k,v=>∃n,v=.int k n|.bool,v=>∃b,v=.bool b|.str,v=>∃b,v=.string b|.no,_=>False
def GR:Value->Value->Bool
 |.int _ a,.int _ b=>a==b|.bool a,.bool b=>a==b|.string a,.string b=>a==b|_,_=>J
def nq:L Value->L Value->Bool
 |a::l,b::m=>GR a b&&nq l m|_,_=>W
def ahO(P:Program)(t:TypeId)(a:L Lk):Prop:=
 ∀(w:World)(op:BinOp)(x y:Operand)(b ys:Array Value),b.size=a.length->ys.size=a.length->
  (∀(j:Nat)(l:Lk)(v:Value),a[j]?=Z l->b[j]?=Z v->Bh l v)->(∀(j:Nat)(l:Lk)(v:Value),a[j]?=Z l->ys[j]?=Z v->Bh l v)->
  (eqGuard op t x y (.agg b) (.agg ys)).run P w=.ok () w∧(Op.equal t (.agg b) (.agg ys)).run P w=.ok (nq b.toList ys.toList) w
structure n4(P:Program)(t:TypeId)(i:TI):Prop where
 eqs:i.agg=W->i.lks≠[]->ahO P t i.lks
 nif:∀ms,P.underlying t=Z (.interface ms)->i.kd=.iface
 zag:∀x z,P.info? t=Z x->x.zero=Z z->(i.agg=W->∃vs,z=.agg vs)∧(i.agg=J->z.cells=#[z])
 all:∃x d z,P.info? t=Z x∧P.underlying t=Z d∧x.size=i.size∧i.agg=ee d∧x.zero=Z z∧ZOk i.zero z.cells∧al7 P i.kd d
section
variable {P:Program}
def aU{t:TypeId}{d:TypeDesc}(h:P.underlying t=Z d)(w:World):(underlying t).run P w=.ok d w:=by simp[underlying,h]
def rF{t:TypeId}{x:TypeInfo}(h:P.info? t=Z x)(w:World):(typeInfo t).run P w=.ok x w:=by simp[typeInfo,h]
def dQ{t:TypeId}{x:TypeInfo}(h:P.info? t=Z x)(w:World):(Go.sizeOf t).run P w=.ok x.size w:=by simp[Go.sizeOf,rF h]
def tw{t:TypeId}{d:TypeDesc}(h:P.underlying t=Z d)(w:World):(isAgg t).run P w=.ok (ee d) w:=by simp[isAgg,run_bind,aU h,andThen_ok];cases d<;>rfl
def eA{t:TypeId}{x:TypeInfo}{z:Value}(h:P.info? t=Z x)(a:x.zero=Z z)(w:World):(zeroValue t).run P w=.ok z w:=by simp[zeroValue,rF h,a]
theorem beq_iff'{a b:Nat}:Nq a b=W↔a=b:=by
 simp_all
def z7{t:TypeId}{x:TypeInfo}{d:TypeDesc}(f:P.info? t=Z x)(g:P.underlying t=Z d)(w:World)(a:Addr)(vals:L Value)(hl:vals.length=x.size)
  (c:∀j v,vals[j]?=Z v->w.cell? (a.add j)=Z v) (h1:ee d=J->∃v,vals=[v]) :
  (loadVar t a).run P w=.ok (if ee d then .agg vals.toArray else vals.headD undef) w:=by
 have b:=run_loadCells_list (P:=P) w a vals c;simp only[loadVar,run_bind,tw g,andThen_ok];cases h:ee d with|true=>simp[dQ f,<-hl,b]|false=>obtain⟨v,rfl⟩:=h1 h;have e:=c 0 v rfl;simp[Addr.add]at e;simp[e]
end
variable {j:Nat}{ag:Bool}{cs:List T}{t:T}{g:Gh}{w:World}
def cq{α:Type}{l:L α}{x:α}(h:l[j]?=Z x):j<l.length:=by
 grind
def yZ{n k:Nat}(h:(List.range n)[j]?=Z k):j=k∧j<n:=by
 grind
theorem wH(a:Addr)(i j:Nat):(a.add i).add j=a.add (i+j):=by unfold Addr.add;by_cases b:i=0<;>by_cases c:j=0<;>simp[b,c,Nat.add_assoc]
def FE(h:vI ag cs=Z t):(ag=W∧t=.agg cs)∨(ag=J∧cs=[t]):=by
 unfold vI at h
 grind
def xm(h:vI ag cs=Z t){vals:L Value}(hl:cs.length=vals.length)
  (a:∀(j:Nat)(t:T)(v:Value),cs[j]?=Z t->vals[j]?=Z v->aP g w t v) :
  aP g w t (if ag then .agg vals.toArray else vals.headD undef)∧(ag=J->∃v,vals=[v]):=by
 obtain⟨rfl,rfl⟩|⟨rfl,rfl⟩:=FE h
 .exact ⟨.agg _ _ (by simpa using hl) (λj t v h1 h2=>a j t v h1 (by simpa using h2)),λh=>by cases h⟩
 .match vals,hl with
  |[v],_=>exact⟨a 0 _ _ rfl rfl,λ_=>⟨v,rfl⟩⟩
def rC{α:Type}(l:L α)(off n j:Nat)(x:α)(h:((l.drop off).take n)[j]?=Z x):l[off+j]?=Z x∧j<n:=by
 grind
theorem D.OS(d:D)(j:Nat)(h:j<d.cells.length):d.cells[j]?=Z (d.cell j):=by
 grind[D.cell]
def CX{P:Program}{ty:TypeId}{i:TI}(o:n4 P ty i){d:D}{off:Nat}(h:oE i d off=Z t)(p:d.has (Na off i.size))
  {ad:Addr} {val:Nat->Value} (y:∀j c,d.cells[j]?=Z c->w.cell? (ad.add j)=Z (val j)) (A:∀j c,d.cells[j]?=Z c->ew g.bx w c (val j)) :
  ∃v,(loadVar ty (ad.add off)).run P w=.ok v w∧aP g w t v:=by
 let ⟨x,ds,z,q,r,l,b,_⟩:=o.all
 have B:off+i.size<=d.cells.length:=p;have a:∀j,j<i.size->w.cell? ((ad.add off).add j)=Z (val (off+j))∧ew g.bx w (d.cell (off+j)) (val (off+j)):=by
  grind[wH,D.OS]
 have e:=z7 (P:=P) q r w (ad.add off) ((List.range i.size).map λj=>val (off+j)) (by simp[l]) (λj v C=>by
  grind)
 unfold oE at h;cases n:i.agg with
 |true=>
  rw[n]at h b;simp at h;subst h;refine⟨_,e (λE=>by simp_all),?_⟩;rw[<-b];refine .agg _ _ (by simp) (λj t v h1 h2=>?_);simp at h1;obtain⟨k,s,rfl⟩:=h1;obtain⟨rfl,m⟩:=yZ s;have u:v=val (off+j):=by
   simp_all
  subst u;exact .sym _ _ (a j m).2
 |false=>
  rw[n]at h b;by_cases h1:Nq i.size 1=W
  .simp[h1]at h;subst h;have f:=beq_iff'.1 h1;refine⟨_,e (λ_=>⟨val off,by simp[f]⟩),?_⟩;rw[<-b];have:=(a 0 (by omega)).2;simp[f];exact .sym _ _ (by omega)
  simp_all
end
section
def ah{α:Type}{b:Bool}{x y:O α}{z:α}(h:(bif b then x else y)=Z z):(b=W∧x=Z z)∨(b=J∧y=Z z):=by
 grind
theorem vR{I:Nat->Prop}{w:World}{d:D}{v:Value}(hl:d.leaf=W)(h:ew I w d v):v.oneCell'=W∧v.cells=#[v]:=by
 cases h with
 |lit v=>cases v<;>first|exact⟨rfl,rfl⟩|cases hl
 |sl=>exact⟨rfl,rfl⟩|agg=>cases hl
 |cT=>exact⟨rfl,rfl⟩|gM=>cases hl
variable {g:Gh}{w:World}{t:T}{v:Value}{i:TI}{s:St}{o e sz k:Nat}{es:List D}
def Uu(hl:t.leaf)(h:aP g w t v):v.oneCell'=W∧v.cells=#[v]:=by cases h with|sym d v a=>exact vR hl a|agg=>exact hl.elim|gM=>exact hl.elim|gd=>exact hl.elim|_=>exact⟨rfl,rfl⟩
def zd{n:Nat}{d:D}(h:d.isAgg n=W):∃cs,d=.agg cs∧cs.length=n∧∀c∈cs,c.leaf=W:=by
 unfold D.isAgg at h;split at h
 .rename_i cs;simp only[eK]at h;refine⟨cs,rfl,?_,?_⟩
  .rw[<-bR];exact beq_iff'.1 h.1
  .simpa using h.2
 .cases h
def mL{p:Prop}{cs:L T}(h:kf i t=Z (p,cs))(q:p)(r:aP g w t v) :
  cs.length=i.size∧v.cells.size=i.size∧(∀(j:Nat)(t:T)(u:Value),cs[j]?=Z t->v.cells[j]?=Z u->aP g w t u)∧
  (i.agg=W->∃vs,v=.agg vs)∧(i.agg=J->v.cells=#[v]∧i.size=1):=by
 cases r with
 |agg y vs f l=>
  obtain⟨b,h⟩|⟨_,h⟩:=ah h
  .simp only[eK]at b;have c:=beq_iff'.1 b.2;rw[bR]at c;obtain⟨_,rfl⟩:=h;refine⟨c,by simp[Value.cells,<-f,c],λj t u h1 h2=>l j t u h1 h2,λ_=>⟨vs,rfl⟩,λe=>by simp_all⟩
  .cases h
 |sym d v m=>
  obtain⟨b,h⟩|⟨b,h⟩:=ah h
  .obtain ⟨rfl,rfl⟩:=h;obtain⟨ds,rfl,c,s⟩:=zd q;cases m with|agg _ vs f _ l=>refine⟨by simp,by simp[Value.cells,<-f,c],λj t u h1 h2=>?_,λ_=>⟨vs,rfl⟩,λe=>by simp_all⟩;simp at h1;obtain⟨k,x,rfl⟩:=h1;obtain⟨rfl,n⟩:=yZ x;exact .sym _ _ (l j _ u (D.OS (.agg ds) j (by simpa[D.cells,c]using n)) h2)
  .obtain ⟨h1,h⟩|⟨_,h⟩:=ah h
   .obtain ⟨rfl,rfl⟩:=h;have a:=beq_iff'.1 h1
    let ⟨_,o⟩:=vR q m
    refine⟨by simp[a],by simp[o,a],λj t u h2 h3=>?_,λe=>(by simp_all),λ_=>⟨o,a⟩⟩;rw[o]at h3;cases j with|zero=>simp at h2 h3;subst h2;subst h3;exact .sym _ _ m|succ j=>simp at h2
   .cases h
 |gM=>cases h
 |gd=>cases h
 |kb|kn|ptr|nJ|lG|sh|emp|kq|fn|cT|mp|rB|s7|ub|rM|oY=>
  all_goals
   simp only[kf]at h;obtain⟨_,h⟩|⟨b,h⟩:=ah h
   .cases h
   .obtain ⟨h1,h⟩|⟨_,h⟩:=ah h
    .simp only[gV,fP]at h;obtain⟨_,rfl⟩:=h;have a:=beq_iff'.1 h1;refine⟨by simp[a],by simp[Value.cells,a],?_,λe=>(by rw[b]at e;cases e),λ_=>⟨rfl,a⟩⟩;intro j t u h2 h3;cases j with|zero=>simp[Value.cells]at h2 h3;subst h2;subst h3;constructor<;>assumption|succ j=>simp at h2
    .cases h
def J9(h:IX s o e=Z (sz,es)):∃fz,s.ob.get o=Z (fT fz sz es e):=by
 unfold IX at h;split at h
 .rename_i c d era a;obtain⟨b,h⟩|⟨_,h⟩:=ah h
  .have:=beq_iff'.1 b;subst this;simp at h;obtain⟨rfl,rfl⟩:=h;exact⟨J,a⟩
  .cases h
 .rename_i a;obtain⟨b,h⟩|⟨_,h⟩:=ah h
  .have:=beq_iff'.1 b;subst this;simp at h;obtain⟨rfl,rfl⟩:=h;exact⟨W,a⟩
  .cases h
 .cases h
theorem kI{fz a:Bool}{sz b e d:Nat}{es c:L D}(h:fT fz sz es e=fT a b c d):fz=a∧sz=b∧es=c∧e=d:=by cases fz<;>cases a<;>simp[fT]at h<;>exact⟨rfl,h⟩
def bq.oq(hs:bq g s w){fz:Bool}{x:ff}(b:s.ob.get o=Z (fT fz sz es e))(c:g.arr o e=Z x) :
  wZ g w fz sz es x∧x.sz=sz:=by
 let ⟨d,f,era,a,_,_,h⟩:=(hs.arr o e x c).old _ b (Wg _ _ _ _)
 obtain⟨rfl,h2,rfl,rfl⟩:=kI a
 simp_all
theorem cell?_of_block{w:World}{b off:Nat}{vs:Array Value}{ty:TypeId}{fz:Nat×Nat}(h:w.heap[b]?=Z (.cells vs ty fz)):w.cell? ⟨b,off,Y⟩=vs[off]?:=by simp[World.cell?,h]
def ot(b off n:Nat):(⟨b,off,Y⟩:Addr).add n=⟨b,off+n,Y⟩:=by unfold Addr.add;split<;>simp_all
def Tp(h:lg (k:Int) (eN es)):k<es.length:=by have:=h.2;unfold eN at this;omega
def D.LC(h:k<es.length):es[k]?=Z (jl es k):=by
 grind[jl]
def Di{P:Program}{ty:TypeId}(S:n4 P ty i){s':St}(hs:bq g s w){x:T}{vx:Value}(hx:aP g w x vx)
  {p:Prop} {t:T} (h:loadT i s x=Z (p,t,s')) (hp:p):∃v,(Instr.loadAt ty vx).run P w=.ok v w∧aP g w t v∧s'=s:=by
 cases hx with
 |ptr o off b hb=>
  cases C:s.ob.get o with
  |none=>simp[loadT,C]at h|some ob=>
  simp[loadT,C]at h;cases ob with
  |box cs=>
  let ⟨E,ety,hh,hl,hr⟩:=(hs.box o b hb).box C
  obtain⟨hn,h⟩|⟨_,h⟩:=ah h
  .have r:=beq_iff'.1 hn;rw[bR]at r;simp only[fV,fP]at h;obtain⟨t',a,_,rfl,rfl⟩:=h
   let ⟨xi,d,z,PN,hu,u,F,_⟩:=S.all
   have m:((E.toList.drop off).take i.size).length=i.size:=by
    have:((cs.drop off).take i.size).length=((E.toList.drop off).take i.size).length:=by simp[hl]
    rw[<-this,r]
   let ⟨I,h1⟩:=xm (g:=g) (w:=w) a (vals:=(E.toList.drop off).take i.size) (by rw[r,m]) (λj t v h1 h2=>by
    let ⟨h1,_⟩:=rC _ _ _ _ _ h1
    let ⟨h2,_⟩:=rC _ _ _ _ _ h2
    exact hr _ _ _ h1 (by simpa using h2))
   refine⟨_,?_,I,rfl⟩;have:=z7 (P:=P) PN hu w ⟨b,off,Y⟩ ((E.toList.drop off).take i.size) (by rw[m,u]) (λj v A=>by
    let ⟨A,_⟩:=rC _ _ _ _ _ A
    rw[ot,cell?_of_block hh];simpa using A) (λhf=>h1 (by rw[F,hf]))
   rw[F];simpa[Instr.loadAt,Instr.sureAddr]using this
  .cases h
  |_=>simp at h
 |nJ d off ad val Tx f hd=>
  simp only[loadT,fV,fP]at h;obtain⟨t',a,rfl,rfl,rfl⟩:=h
  let ⟨v,B,ht⟩:=CX S a hp f hd
  exact⟨v,by simpa[Instr.loadAt,Instr.sureAddr]using B,ht,rfl⟩
 |lG o e k off len cap sz ad hx=>
  simp only[loadT]at h;cases ha:IX s o e with
  |none=>simp[ha]at h|some q=>
   let ⟨sz',es⟩:=q
   let ⟨fz,C⟩:=J9 ha
   let ⟨y,u⟩:=hs.oq C hx
   simp only[ha,fV,fP]at h;obtain⟨t',a,rfl,rfl,rfl⟩:=h;subst u;have hk:=Tp hp.1;have K:(⟨Z ad,len,cap,sz⟩:ff).cap≠0:=by have h1:=y.len;have h2:=y.cap;omega
   let ⟨b,E,ety,R,_,hh,_,l⟩:=y.mem K
   simp at R;subst R;have hex:∀j,∃v,∀c,(jl es k).cells[j]?=Z c->w.cell? ((⟨b,k*sz,Y⟩:Addr).add j)=Z v∧ew g.bx w c v:=by
    intro j;by_cases A:j<(jl es k).cells.length
    .let ⟨v,B,hd⟩:=l k _ j _ (D.LC hk) (iZ A)
     refine⟨v,λc f=>?_⟩;rw[iZ A]at f;rw[<-jU f,ot,cell?_of_block hh];exact⟨B,hd⟩
    .exact ⟨undef,λc f=>by rw[List.getElem?_eq_none (by omega)]at f;cases f⟩
   let ⟨val,n⟩:=UT hex
   let ⟨v,B,ht⟩:=CX S a hp.2 (ad:=⟨b,k*sz,Y⟩) (val:=val) (λj c f=>(n j c f).1) (λj c f=>(n j c f).2)
   refine⟨v,?_,ht,rfl⟩;rw[ot]at B;rw[ot];simpa[Instr.loadAt,Instr.sureAddr]using B
 |_=>simp[loadT]at h
end
section
def setRow_other(w:World)(g b:Nat)(cs:Array Value)(h:b≠g):(w.setRow g cs).heap[b]?=w.heap[b]?:=by unfold World.setRow;rw[Array.getElem?_modify,bJ (λe=>h e.symm)]
variable {g g':Gh}{s s':St}{w w':World}{o b e fl sz:Nat}{x:ff}{fz:Bool}{es:List D}{ob:Ob}
def bq.lt(hs:bq g s w)(h:g.bV o=Z b):o<s.aL:=by
 obtain a|a:=Nat.lt_or_ge o s.aL
 .exact a
 .rw[(hs.ai o a).1]at h;cases h
def bq.lt'(hs:bq g s w)(h:g.arr o e=Z x):o<s.aL:=by
 obtain a|a:=Nat.lt_or_ge o s.aL
 .exact a
 .rw[(hs.ai o a).2 e]at h;cases h
def bq.qR(hs:bq g s w)(h:bG g o b):b<w.heap.size∧o<s.aL:=by
 obtain h1|⟨e,x,c,h1,d,a,f⟩:=h.2
 .exact ⟨(hs.box o b h1).2.1,hs.lt h1⟩
 .exact ⟨a▸(hs.arr o e x h1).1 c d f,hs.lt' h1⟩
def wV.ext{g g':Gh}{s s':St}{w w':World}{fl o b:Nat}(e:Ext fl g w g' w')(f:∀b,g.bx b->b<w.heap.size)(i:w'.heap[b]?=w.heap[b]?)
  (j:s'.ob.get o=s.ob.get o) (a:¬g'.bx b) (h:wV g s w o b):wV g' s' w' o b:=by
 let ⟨_,c,k⟩:=h
 refine⟨a,iP c e.size,λob d=>?_⟩
 let ⟨x,h1,h2⟩:=k ob (j▸d)
 exact⟨x,i.trans h1,h2.ext e f⟩
def wZ.ext{g g':Gh}{w w':World}{fl:Nat}{fz:Bool}{sz:Nat}{es:L D}{x:ff}(e:Ext fl g w g' w')(f:∀b,g.bx b->b<w.heap.size)
  (k:∀b,x.a=Z ⟨b,0,Y⟩->x.cap≠0->w'.heap[b]?=w.heap[b]?∧(g'.bx b↔g.bx b)) (h:wZ g w fz sz es x):wZ g' w' fz sz es x:=
 ⟨h.len,h.cap,h.rows,h.pos,h.byt,h.emp,λa=>by
  let ⟨b,l,ty,h1,h2,h3,h4,h5⟩:=h.mem a
  let ⟨m,n⟩:=k b h1 a
  exact⟨b,l,ty,h1,h2.trans n.symm,m.trans h3,h4,λi d j c o p=>let ⟨v,q,r⟩:=h5 i d j c o p;⟨v,q,r.ext e f⟩⟩⟩
def wZ.j6(h:wZ g w fz sz es x)(a:g'.bx=g.bx):wZ g' w fz sz es x:=
 ⟨h.len,h.cap,h.rows,h.pos,h.byt,h.emp,by rw[a];exact h.mem⟩
def I1.le{m gW:Nat}{hole:O Nat}{hs:L Value}(h:I1 g m gW hole hs)(a:∀j y,g.arr m j=Z y->g'.arr m j=Z y):I1 g' m gW hole hs:=
 ⟨h.1,λi v b c=>let ⟨y,h1,h2⟩:=h.2 i v b c;⟨y,a _ _ h1,h2⟩⟩
def uX.tr(h:uX g w o e x ob)(f:∀{fz sz es},wZ g w fz sz es x->wZ g' w' fz sz es x)(p:∀k j y,g.arr k j=Z y->g'.arr k j=Z y)(A:g'.arr o=g.arr o)(q:∀b,x.a=Z ⟨b,0,Y⟩->x.cap≠0->w'.heap[b]?=w.heap[b]?∧(g'.bx b↔g.bx b)):uX g' w' o e x ob:=by
 obtain⟨fz,es,era,h1,h2,h3,h5⟩|⟨s,es,era,m,a,hole,h1,h2,h3,h5⟩|⟨sz,l,a,h1,h2,h3,h5⟩|h|⟨h1,h2,h3,h4,h5⟩:=h
 .exact .inl ⟨fz,es,era,h1,h2,λt h=>by simp_all,λh=>f (h5 h)⟩
 .exact .inr (.inl ⟨s,es,era,m,a,hole,h1,h2,λt h=>by simp_all,λh=>let ⟨u,c,d,n⟩:=h5 h;⟨u,c,f d,n.le (p m)⟩⟩)
 .exact .inr (.inr (.inl ⟨sz,l,a,h1,λr i h=>by simp_all,by grind,λi h=>let ⟨c,v,d,n⟩:=h5 i h;⟨c,v,d,f n⟩⟩))
 .exact .inr (.inr (.inr (.inl h)))
 .let ⟨c,d⟩:=q e h2 h3
  exact .inr (.inr (.inr (.inr ⟨h1,h2,h3,λz=>h4 (d.1 z),c.trans h5⟩)))
def uX.left{p:T->Bool}{c:Ob}(h:uX g w o e x ob)(hl:rq p ob c)(l:∀{fz sz es},wZ g w fz sz es x->wZ g' w' fz sz es x)
  (q:∀m j y,p (.sh m 0)=J->g.arr m j=Z y->g'.arr m j=Z y) (C:g'.arr o=g.arr o) (s:∀b,x.a=Z ⟨b,0,Y⟩->x.cap≠0->w'.heap[b]?=w.heap[b]?∧(g'.bx b↔g.bx b)):uX g' w' o e x c:=by
 obtain⟨fz,es,era,rfl,h2,h3,h5⟩|⟨t,es,era,m,a,hole,rfl,h2,h3,h5⟩|⟨sz,d,a,rfl,h2,h3,h5⟩|rfl|⟨rfl,h2,h3,h4,h5⟩:=h
 .have:c=fT fz x.sz es era:=by cases fz<;>exact hl.symm
  exact .inl ⟨fz,es,era,this,h2,λu h=>by simp_all,λh=>l (h5 h)⟩
 .obtain ⟨rfl,v⟩|rfl:=hl
  .exact .inr (.inl ⟨t,es,era,m,a,hole,rfl,h2,λu h=>by simp_all,λh=>let ⟨z,f,k,n⟩:=h5 h;⟨z,f,l k,n.le (λj y=>q m j y v)⟩⟩)
  .exact .inr (.inr (.inr (.inl rfl)))
 .have:c=.rws sz d a:=hl.symm;exact .inr (.inr (.inl ⟨sz,d,a,this,λr i h=>by simp_all,by grind,λi h=>let ⟨f,A,k,n⟩:=h5 i h;⟨f,A,k,l n⟩⟩))
 .have:c=.gone:=hl.symm;exact .inr (.inr (.inr (.inl this)))
 .have:c=.FQ:=hl.symm
  let ⟨f,k⟩:=s e h2 h3
  exact .inr (.inr (.inr (.inr ⟨this,h2,h3,λB=>h4 (k.1 B),f.trans h5⟩)))
def Bp.ext{g g':Gh}{s s':St}{w w':World}{fl o e:Nat}{x:ff}(a:Ext fl g w g' w')(f:∀b,g.bx b->b<w.heap.size)
  (d:∀b,x.a=Z ⟨b,0,Y⟩->x.cap≠0->w'.heap[b]?=w.heap[b]?∧(g'.bx b↔g.bx b))
  (i:s'.ob.get o=s.ob.get o) (l:g'.arr o=g.arr o) (h:Bp g s w o e x):Bp g' s' w' o e x:=by
 refine⟨λm n p=>iP (h.1 m n p) a.size,λob c=>?_⟩;exact(h.2 ob (i▸c)).tr (λh=>h.ext a f d) (λk j y h=>a.arr k j y h) l d
def bq.afo(hs:bq g s w)(n:g.bV o=Z b){r:L T}(k:s.ob.get o=Z (.box r))(u:s.fl<=o){cs':L T}{vs':Array Value}(hl:cs'.length=vs'.size)
  (A:∀(j:Nat)(t:T)(v:Value),cs'[j]?=Z t->vs'[j]?=Z v->aP g w t v) :
  bq g {s with ob:=s.ob.set aR o (.box cs')} (w.setRow b vs')∧Ext s.fl g w g (w.setRow b vs'):=by
 have c:bG g o b:=⟨(hs.box o b n).1,.inl n⟩;have m:o<bC:=iP (hs.lt n) hs.aL;have q:Ext s.fl g w g (w.setRow b vs'):=
  ⟨λ_ _ h=>h,λ_ _ _ h=>h,λ_ h=>h,by simp,λd _ B=>setRow_other w b d vs' (λe=>B o u (e▸c)),
   λ_ _ h=>.inl h,λ_ h=>.inl h,rfl,rfl⟩
 refine⟨⟨hs.aL,hs.ai,λi d a=>?_,λi e x y=>?_,λd a=>by simpa using hs.bx d a,hs.kJ⟩,q⟩
 .by_cases f:i=o
  .subst f;rw[n]at a;simp at a;subst a
   let ⟨h1,h2,h3⟩:=hs.box i b n
   let ⟨C,ty,h4,h5,h6⟩:=(hs.box i b n).box k
   refine⟨h1,by simpa using h2,λE l=>⟨_,setRow_heap w b C vs' ty _ h4,?_⟩⟩;rw[Tr.bn _ _ _ _ m,cn rfl]at l;obtain rfl:=jU l;exact .box _ _ _ hl λj t v F I=>(A j t v F I).ext q hs.bx
  .have z:d≠b:=λe=>f (hs.kJ i o b (e▸⟨(hs.box i d a).1,.inl a⟩) c);exact(hs.box i d a).ext q hs.bx (setRow_other w b d vs' z) (by simp;rw[Tr.bn _ _ _ _ m,bJ f]) (hs.box i d a).1
 .have f:i≠o:=by
   rintro rfl
   cases((hs.arr i e x y).2 _ k).oH
  refine(hs.arr i e x y).ext q hs.bx (λd a K=>⟨setRow_other w b d vs' ?_,uZ⟩) (by simp;rw[Tr.bn _ _ _ _ m,bJ f]) rfl
  rintro rfl
  by_cases p:g.bx d
  .exact c.1 p
  .exact f (hs.kJ i o d ⟨p,.inr ⟨e,x,_,y,a,rfl,K⟩⟩ c)
def Gh.dJ(g:Gh)(o b:Nat):Gh:={g with bV:=λk=>if k=o then Z b else g.bV k}
def pL(w:World)(o:Obj)(b:Nat)(h:b<w.heap.size):(w.alloc o).heap[b]?=w.heap[b]?:=by show(w.heap.push o)[b]?=_;rw[Array.getElem?_push,bJ (by omega)]
def xB(w:World)(o:Obj):(w.alloc o).heap[w.heap.size]?=Z o:=by show(w.heap.push o)[w.heap.size]?=_;simp
def bq.newObj(hs:bq g s w)(hn:s.aL<bC){ob0:Ob}{x0:Obj}(u:iy g w ob0 x0) :
  bq (g.dJ s.aL w.heap.size) (ey s ob0).2 (w.alloc x0)∧Ext s.fl g w (g.dJ s.aL w.heap.size) (w.alloc x0):=by
 have c:=hs.ai s.aL (cu _);have k:∀o b,g.bV o=Z b->(g.dJ s.aL w.heap.size).bV o=Z b:=λo b h=>by
  have:o≠s.aL:=λe=>by rw[e,c.1]at h;cases h
  simp[Gh.dJ,this,h]
 have d:∀o b,bG (g.dJ s.aL w.heap.size) o b->bG g o b∨(o=s.aL∧b=w.heap.size):=by
  rintro o b ⟨h1,h2|h2⟩
  .by_cases f:o=s.aL
   .subst f;simp[Gh.dJ]at h2;exact .inr ⟨rfl,h2.symm⟩
   .simp[Gh.dJ,f]at h2;exact .inl ⟨h1,.inl h2⟩
  .exact .inl ⟨h1,.inr h2⟩
 have m:Ext s.fl g w (g.dJ s.aL w.heap.size) (w.alloc x0):=
  ⟨k,λ_ _ _ h=>h,λ_ h=>h,by simp,λb i _=>pL w _ b i,
   λo b h=>(d o b h).imp id λh=>by omega,λ_ h=>.inl h,rfl,rfl⟩
 refine⟨⟨by simp only[ey];omega,λo f=>?_,λo b i=>?_,λo e x r=>?_,λb i=>?_,λo t b h v=>?_⟩,m⟩
 .simp only[ey]at f;have h1:o≠s.aL:=by omega
  simp[Gh.dJ,h1,ij];exact hs.ai o (by omega)
 .by_cases f:o=s.aL
  .subst f;have n:b=w.heap.size:=by simp[Gh.dJ]at i;exact i.symm
   subst n;refine⟨λp=>?_,by simp,λob j=>⟨_,xB w _,?_⟩⟩
   .have:=hs.bx _ p;omega
   .simp[ey]at j;rw[Tr.bn _ _ _ _ hn,cn rfl]at j;obtain rfl:=jU j;exact u.ext m hs.bx
  .have q:g.bV o=Z b:=by simpa[Gh.dJ,f]using i
   have a:=hs.box o b q;exact a.ext m hs.bx (pL w _ b a.2.1) (by simp[ey];rw[Tr.bn _ _ _ _ hn,bJ f]) a.1
 .have a:=hs.arr o e x r;have f:o≠s.aL:=λh=>by have l:g.arr o e=Z x:=r;rw[h,c.2 e]at l;cases l
  refine a.ext m hs.bx (λb i y=>⟨pL w _ b ?_,uZ⟩) (by simp[ey];rw[Tr.bn _ _ _ _ hn,bJ f]) rfl;exact a.1 _ i y
 .have:=hs.bx b i;simp;omega
 .obtain h1|⟨h1,h3⟩:=d o b h<;>obtain h2|⟨h2,h4⟩:=d t b v
  .exact hs.kJ o t b h1 h2
  .have:=(hs.qR h1).1;omega
  .have:=(hs.qR h2).1;omega
  .rw[h1,h2]
def bq.dJ{g:Gh}{s:St}{w:World}(hs:bq g s w)(hn:s.aL<bC){cs:L T}{vs:Array Value}(ty:TypeId)(hl:cs.length=vs.size)
  (a:∀(j:Nat)(t:T)(v:Value),cs[j]?=Z t->vs[j]?=Z v->aP g w t v) :
  bq (g.dJ s.aL w.heap.size) (ey s (.box cs)).2 (w.alloc (.cells vs ty))∧Ext s.fl g w (g.dJ s.aL w.heap.size) (w.alloc (.cells vs ty)):=
 hs.newObj hn (.box cs vs ty hl a)
end
section
def Gh.era(g:Gh)(o e:Nat)(x:ff):Gh:={g with arr:=λk j=>if k=o∧j=e then Z x else g.arr k j}
def Gh.fS(g:Gh)(o e:Nat)(x:ff):(g.era o e x).arr o e=Z x:=by simp[Gh.era]
theorem Gh.cH(g:Gh)(o e k j:Nat)(x:ff)(h:¬(k=o∧j=e)):(g.era o e x).arr k j=g.arr k j:=by simp[Gh.era,h]
variable {g:Gh}{s:St}{w w':World}{o e sz:Nat}{es es':List D}{x:ff}
def bq.arT(hs:bq g s w){x':ff}(S:s.ob.get o=Z (.arr sz es e))(C:g.arr o e=Z x)
  (hfl:s.fl<=o) (hos:w'.os=w.os) (E:w'.output=w.output) (c:w.heap.size<=w'.heap.size)
  (d:∀b,b<w.heap.size->¬x.at b->w'.heap[b]?=w.heap[b]?)
  (hx':∀b,x'.at b->b<w'.heap.size∧(w.heap.size<=b∨x.at b))
  (hok:wZ (g.era o (e+1) x') w' J sz es' x') (hxs:x'.sz=sz) :
  bq (g.era o (e+1) x') {s with ob:=s.ob.set aR o (.arr sz es' (e+1))} w'∧Ext s.fl g w (g.era o (e+1) x') w':=by
 have t:o<bC:=iP (hs.lt' C) hs.aL
 let ⟨F,ajE⟩:=hs.oq (fz:=J) S C
 have hnext:∀e',e<e'->g.arr o e'=Y:=by
  let ⟨fz,v,era,h1,_,h3,_⟩:=(hs.arr o e x C).old _ S rfl
  have z:fT J sz es e=fT fz x.sz v era:=h1;obtain⟨_,_,_,rfl⟩:=kI z;exact h3
 have A:∀b,x.at b->¬g.bx b:=by
  rintro b ⟨r,h1,rfl,h3⟩ I
  let ⟨b',_,_,k1,k2,_⟩:=F.mem h3
  grind
 have f:∀b,x.at b->bG g o b:=λb m=>by
  let ⟨r,h1,h2,h3⟩:=m
  exact⟨A b ⟨r,h1,h2,h3⟩,.inr ⟨e,x,r,C,h1,h2,h3⟩⟩
 have K:∀k j y,g.arr k j=Z y->(g.era o (e+1) x').arr k j=Z y:=λk j y h=>by
  rw[Gh.cH]
  .exact h
  grind
 have hown:∀k b,bG (g.era o (e+1) x') k b->bG g k b∨(k=o∧x'.at b):=by
  rintro k b ⟨h1,h2|⟨j,y,r,h2,h3,h4,h5⟩⟩
  .exact .inl ⟨h1,.inl h2⟩
  .by_cases P:k=o∧j=e+1
   .obtain ⟨rfl,rfl⟩:=P;rw[Gh.fS]at h2;simp at h2;subst h2;exact .inr ⟨rfl,r,h3,h4,h5⟩
   .rw[Gh.cH _ _ _ _ _ _ P]at h2;exact .inl ⟨h1,.inr ⟨j,y,r,h2,h3,h4,h5⟩⟩
 have i:∀k b,bG (g.era o (e+1) x') k b->bG g k b∨(k=o∧w.heap.size<=b):=λk b h=>by
  grind
 have he:Ext s.fl g w (g.era o (e+1) x') w':=
  ⟨λ_ _ h=>h,K,λ_ h=>h,c,λb m hn=>d b m λn=>hn o hfl (f b n),λk b h=>(i k b h).imp id (·.2),λ_ h=>.inl h,hos,E⟩
 refine⟨⟨hs.aL,λk hk=>⟨(hs.ai k hk).1,λj=>?_⟩,λk b m=>?_,λk j y R=>?_,λb m=>iP (hs.bx b m) c,λk k' b h h'=>?_⟩,he⟩
 .rw[Gh.cH]
  .exact (hs.ai k hk).2 j
  .rintro ⟨rfl,_⟩
   have:=hs.lt' C
   grind
 .have a:k≠o:=by
   rintro rfl
   exact(hs.box k b m).BH J S
  have l:=hs.box k b m;refine l.ext he hs.bx (d b l.2.1 λn=>a (hs.kJ k o b ⟨l.1,.inl m⟩ (f b n))) (by simp;rw[Tr.bn _ _ _ _ t,bJ a]) l.1
 .by_cases a:k=o
  .subst a;by_cases hj:j=e+1
   .subst hj;rw[Gh.fS]at R;simp at R;subst R;refine⟨λr ha B=>(hx' _ ⟨r,ha,rfl,B⟩).1,λob p=>.inl ⟨J,es',e+1,?_,cu _,λe' h=>?_,λ_=>hxs▸hok⟩⟩
    .rw[Tr.bn _ _ _ _ t,cn rfl]at p
     grind[fT]
    grind[Gh.cH]
   .have q:g.arr k j=Z y:=by rwa [Gh.cH _ _ _ _ _ _ (by omega)]at R
    have h4:=(hs.arr k j y q).1
    let ⟨fz,v,era,h1,h2,h3,_⟩:=(hs.arr k j y q).old _ S rfl
    have z:fT J sz es e=fT fz y.sz v era:=h1;obtain⟨_,hysz,_,rfl⟩:=kI z;refine⟨λr ha B=>iP (h4 r ha B) c,λob p=>.inl ⟨J,es',e+1,?_,by omega,λe' h=>?_,λh=>by omega⟩⟩
    .rw[Tr.bn _ _ _ _ t,cn rfl]at p
     grind[fT]
    grind[Gh.cH]
  .have q:g.arr k j=Z y:=by rwa [Gh.cH _ _ _ _ _ _ (λh=>a h.1)]at R
   have u:=hs.arr k j y q;refine u.ext he hs.bx (λb m B=>⟨?_,uZ⟩) (by simp;rw[Tr.bn _ _ _ _ t,bJ a]) (funext λj=>Gh.cH _ _ _ _ _ _ (λh=>a h.1));refine d b (u.1 _ m B) λn=>?_;by_cases I:g.bx b
   .simp_all
   .exact a (hs.kJ k o b ⟨I,.inr ⟨j,y,_,q,m,rfl,B⟩⟩ (f b n))
 .obtain h1|⟨h1,h3⟩:=i k b h<;>obtain h2|⟨h2,h4⟩:=i k' b h'
  .exact hs.kJ k k' b h1 h2
  .have:=(hs.qR h1).1;omega
  .have:=(hs.qR h2).1;omega
  .rw[h1,h2]
def bq.QI(hs:bq g s w)(hn:s.aL<bC)
  (t:w'.os=w.os) (o:w'.output=w.output) (c:w.heap.size<=w'.heap.size)
  (a:∀b,b<w.heap.size->w'.heap[b]?=w.heap[b]?) (E:∀b,x.at b->w.heap.size<=b∧b<w'.heap.size)
  (u:wZ (g.era s.aL 0 x) w' J sz es x) (v:x.sz=sz) :
  bq (g.era s.aL 0 x) (ey s (.arr sz es 0)).2 w'∧Ext s.fl g w (g.era s.aL 0 x) w':=by
 have z:=hs.ai s.aL (cu _);have p:∀k j y,g.arr k j=Z y->(g.era s.aL 0 x).arr k j=Z y:=λk j y h=>by
  rw[Gh.cH]
  .exact h
  grind
 have d:∀k b,bG (g.era s.aL 0 x) k b->bG g k b∨(k=s.aL∧w.heap.size<=b):=by
  rintro k b ⟨h1,h2|⟨j,y,r,h2,h3,h4,h5⟩⟩
  .exact .inl ⟨h1,.inl h2⟩
  .by_cases e:k=s.aL∧j=0
   .obtain ⟨rfl,rfl⟩:=e;rw[Gh.fS]at h2;simp at h2;subst h2;exact .inr ⟨rfl,(E b ⟨r,h3,h4,h5⟩).1⟩
   .rw[Gh.cH _ _ _ _ _ _ e]at h2;exact .inl ⟨h1,.inr ⟨j,y,r,h2,h3,h4,h5⟩⟩
 have A:Ext s.fl g w (g.era s.aL 0 x) w':=
  ⟨λ_ _ h=>h,p,λ_ h=>h,c,λb n _=>a b n,λk b h=>(d k b h).imp id (·.2),λ_ h=>.inl h,t,o⟩
 refine⟨⟨by simp only[ey];omega,λk I=>?_,λk b n=>?_,λk j y q=>?_,λb n=>iP (hs.bx b n) c,λk F b h K=>?_⟩,A⟩
 .simp only[ey]at I;refine⟨(hs.ai k (by omega)).1,λj=>?_⟩;rw[Gh.cH _ _ _ _ _ _ (by omega)];exact(hs.ai k (by omega)).2 j
 .have B:g.bV k=Z b:=n;have f:=hs.box k b B;have i:k≠s.aL:=λh=>by simp_all
  exact f.ext A hs.bx (a b f.2.1) (by simp[ey];rw[Tr.bn _ _ _ _ hn,bJ i]) f.1
 .by_cases e:k=s.aL∧j=0
  .obtain ⟨rfl,rfl⟩:=e;rw[Gh.fS]at q;simp at q;subst q;refine⟨λr P C=>(E _ ⟨r,P,rfl,C⟩).2,λob l=>.inl ⟨J,es,0,?_,cu _,λR h=>?_,λ_=>v▸u⟩⟩
   .simp[ey]at l;rw[Tr.bn _ _ _ _ hn,cn rfl]at l
    grind[fT]
   grind[Gh.cH]
  .rw[Gh.cH _ _ _ _ _ _ e]at q;have i:k≠s.aL:=λh=>by simp_all
   have m:=hs.arr k j y q;refine m.ext A hs.bx (λb n C=>⟨?_,uZ⟩) (by simp[ey];rw[Tr.bn _ _ _ _ hn,bJ i]) (funext λj=>Gh.cH _ _ _ _ _ _ (λh=>i h.1));exact a b (m.1 _ n C)
 .obtain h1|⟨h1,h3⟩:=d k b h<;>obtain h2|⟨h2,h4⟩:=d F b K
  .exact hs.kJ k F b h1 h2
  .have:=(hs.qR h1).1;omega
  .have:=(hs.qR h2).1;omega
  .rw[h1,h2]
def bq.afv(hs:bq g s w){b:Nat}(v:s.ob.get o=Z (.arr sz es e))(z:g.arr o e=Z x)
  (A:s.fl<=o) (K:x.at b) {vs':Array Value} (S:wZ g (w.setRow b vs') J sz es' x) :
  bq g {s with ob:=s.ob.set aR o (.arr sz es' e)} (w.setRow b vs')∧Ext s.fl g w g (w.setRow b vs'):=by
 have l:o<bC:=iP (hs.lt' z) hs.aL
 let ⟨n,P⟩:=hs.oq (fz:=J) v z
 have d:¬g.bx b:=by
  obtain⟨B,h1,rfl,h3⟩:=K;intro Tx
  let ⟨t,_,_,k1,k2,_⟩:=n.mem h3
  grind
 have f:bG g o b:=by
  let ⟨B,h1,h2,h3⟩:=K
  exact⟨d,.inr ⟨e,x,B,z,h1,h2,h3⟩⟩
 have C:Ext s.fl g w g (w.setRow b vs'):=
  ⟨λ_ _ h=>h,λ_ _ _ h=>h,λ_ h=>h,by simp,λt _ hn=>setRow_other w b t vs' (λe=>hn o A (e▸f)),
   λ_ _ h=>.inl h,λ_ h=>.inl h,rfl,rfl⟩
 refine⟨⟨hs.aL,hs.ai,λk c m=>?_,λk j y u=>?_,λt E=>by simpa using hs.bx t E,hs.kJ⟩,C⟩
 .have a:k≠o:=by
   rintro rfl
   exact(hs.box k c m).BH J v
  have i:=hs.box k c m;exact i.ext C hs.bx (setRow_other w b c vs' λe=>a (hs.kJ k o c ⟨i.1,.inl m⟩ (e▸f))) (by simp;rw[Tr.bn _ _ _ _ l,bJ a]) i.1
 .by_cases a:k=o
  .subst a;have h4:=(hs.arr k j y u).1
   let ⟨fz,F,era,h1,h2,h3,_⟩:=(hs.arr k j y u).old _ v rfl
   have I:fT J sz es e=fT fz y.sz F era:=h1;obtain⟨_,R,_,rfl⟩:=kI I;refine⟨λB ha m=>by simp_all,λob p=>.inl ⟨J,es',e,?_,h2,h3,λhje=>?_⟩⟩
   .rw[Tr.bn _ _ _ _ l,cn rfl]at p
    grind[fT]
   simp_all
  .have q:=hs.arr k j y u;refine q.ext C hs.bx (λc m r=>⟨setRow_other w b c vs' ?_,uZ⟩) (by simp;rw[Tr.bn _ _ _ _ l,bJ a]) rfl
   rintro rfl
   exact a (hs.kJ k o c ⟨d,.inr ⟨j,y,_,u,m,rfl,r⟩⟩ f)
def Gh.kS(g:Gh)(P:Nat->Prop):Gh:={g with bx:=λb=>g.bx b∨P b}
def bq.adf(hs:bq g s w)(R:s.ob.get o=Z (.arr sz es e))(K:g.arr o e=Z x)
  (S:s.fl<=o) :
  bq (g.kS x.at) {s with ob:=s.ob.set aR o (.kS sz es e)} w∧Ext s.fl g w (g.kS x.at) w:=by
 have t:o<bC:=iP (hs.lt' K) hs.aL
 let ⟨a,ajE⟩:=hs.oq (fz:=J) R K
 have u:∀b,x.at b->¬g.bx b:=by
  rintro b ⟨ad,h1,rfl,h3⟩ n
  let ⟨b',_,_,k1,k2,_⟩:=a.mem h3
  grind
 have f:∀b,x.at b->bG g o b:=λb z=>by
  let ⟨ad,h1,h2,h3⟩:=z
  exact⟨u b ⟨ad,h1,h2,h3⟩,.inr ⟨e,x,ad,K,h1,h2,h3⟩⟩
 have p:∀k b,bG (g.kS x.at) k b->bG g k b∧¬x.at b:=λk b h=>⟨⟨λhi=>h.1 (.inl hi),h.2⟩,λhi=>h.1 (.inr hi)⟩;have P:Ext s.fl g w (g.kS x.at) w:=
  ⟨λ_ _ h=>h,λ_ _ _ h=>h,λ_ h=>.inl h,cu _,λ_ _ _=>rfl,λk b h=>.inl (p k b h).1,
   λb h=>h.imp id λh=>.inr ⟨o,S,f b h⟩,rfl,rfl⟩
 refine⟨⟨hs.aL,hs.ai,λk c r=>?_,λk j y C=>?_,λb z=>?_,λk k' b h h'=>hs.kJ k k' b (p k b h).1 (p k' b h').1⟩,P⟩
 .have m:k≠o:=by
   rintro rfl
   exact(hs.box k c r).BH J R
  have q:=hs.box k c r;refine q.ext P hs.bx rfl (by simp;rw[Tr.bn _ _ _ _ t,bJ m]) ?_
  rintro(n|A)
  .exact q.1 n
  .exact m (hs.kJ k o c ⟨q.1,.inl r⟩ (f c A))
 .by_cases m:k=o
  .subst m;have h4:=(hs.arr k j y C).1
   let ⟨fz,es0,era,h1,h2,h3,_⟩:=(hs.arr k j y C).old _ R rfl
   have h1':fT J sz es e=fT fz y.sz es0 era:=h1;obtain⟨_,l,_,rfl⟩:=kI h1';refine⟨h4,λob E=>.inl ⟨W,es,e,?_,h2,h3,λhje=>?_⟩⟩
   .rw[Tr.bn _ _ _ _ t,cn rfl]at E
    grind[fT]
   .subst hje;have B:g.arr k j=Z y:=C;rw[K]at B;simp at B;subst B;refine⟨a.len,a.cap,λd hd=>l▸a.rows d hd,l▸a.pos,a.byt,a.emp,λr=>?_⟩
    let ⟨b,vs,ty,k1,_,k3,k4,k5⟩:=a.mem r
    exact⟨b,vs,ty,k1,⟨λ_=>.inr ⟨_,k1,rfl,r⟩,λ_=>rfl⟩,k3,l▸k4,λi d j c hd hj=>let ⟨v,hv,hr⟩:=k5 i d j c hd hj;⟨v,l▸hv,hr.ext P hs.bx⟩⟩
  .have F:=hs.arr k j y C;refine F.ext P hs.bx (λc r I=>⟨rfl,⟨λh=>h.elim id λA=>?_,.inl⟩⟩) (by simp;rw[Tr.bn _ _ _ _ t,bJ m]) rfl;by_cases n:g.bx c
   .exact n
   .exact absurd (hs.kJ k o c ⟨n,.inr ⟨j,y,_,C,r,rfl,I⟩⟩ (f c A)) m
 .obtain z|z:=z
  .exact hs.bx b z
  .exact (hs.qR (f b z)).1
end
section
theorem rG:∀{r b i a:Nat},rc r i=rc b a->r=b∧i=a
 |0,0,i,a,h=>by simp[rc]at h;omega
 |0,b+1,i,a,h=>by simp[rc,Nat.pow_zero,Jk,Nat.pow_succ,Nm _ 2,Nat.mul_assoc]at h;omega
 |r+1,0,i,a,h=>by simp[rc,Nat.pow_zero,Jk,Nat.pow_succ,Nm _ 2,Nat.mul_assoc]at h;omega
 |r+1,b+1,i,a,h=>by
  have:rc r i=rc b a:=by
   grind[rc]
  have:=rG this;omega
variable {g:Gh}{s:St}{w:World}{o e nj sz era m gW r i szr:Nat}{es:List D}{hole:Option Nat}{x y:ff}{hl:List Value}{iO:List (List D)}{fz:Bool}{I:Nat->Prop}{d:D}
def bq.Zo{s':St}(hs:bq g s w)(hn:s'.aL=s.aL)(c:∀o,s'.ob.get o=s.ob.get o):bq g s' w:=
 ⟨hn▸hs.aL,λo h=>hs.ai o (hn▸h),λo b h=>let ⟨h1,h2,h3⟩:=hs.box o b h;⟨h1,h2,λob a=>h3 ob (c o▸a)⟩,λo e x h=>let ⟨h1,h2⟩:=hs.arr o e x h;⟨h1,λob a=>h2 ob (c o▸a)⟩,hs.bx,hs.kJ⟩
def bq.Aq(hs:bq g s w){ob:Ob}(a:s.ob.get o=Z ob)(c:ob.oH=W):g.bV o=Y:=by
 cases h:g.bV o with
 |none=>rfl|some b=>
  let ⟨x,_,h2⟩:=(hs.box o b h).2.2 ob a
  have:=h2.BH
  simp_all
def bq.BI(hs:bq g s w)(f:s.ob.get o=Z (.kX nj sz es era m gW hole))(i:g.arr o e=Z x) :
  x.sz=sz∧e<=era∧(∀c,era<c->g.arr o c=Y)∧(e=era->∃hl,hl.length=es.length∧wZ g w J sz (lits nj es hl) x∧I1 g m gW hole hl):=by
 obtain⟨fz,_,_,h,_⟩|⟨j,k,d,l,a,b,h,h2,h3,h4⟩|⟨_,_,_,h,_⟩|h|⟨h,_⟩:=(hs.arr o e x i).2 _ f
 .cases fz<;>cases h
 .simp_all
 .cases h
 .cases h
 .cases h
def bq.view(hs:bq g s w)(f:s.ob.get o=Z (.kX nj sz es era m gW hole))(i:g.arr o era=Z x) :
  ∃hl,hl.length=es.length∧wZ g w J sz (lits nj es hl) x∧I1 g m gW hole hl∧bq g {s with ob:=s.ob.set aR o (.arr sz (lits nj es hl) era)} w:=by
 have d:o<bC:=iP (hs.lt' i) hs.aL
 let ⟨_,_,_,h4⟩:=hs.BI f i
 let ⟨hl,h5,h6,n⟩:=h4 rfl
 have p:=hs.Aq f rfl;refine⟨hl,h5,h6,n,hs.aL,hs.ai,λk b q=>?_,λk e y j=>?_,hs.bx,hs.kJ⟩
 .have c:k≠o:=by grind
  let ⟨h,l,r⟩:=hs.box k b q
  refine⟨h,l,λob a=>r ob ?_⟩;simp at a;rwa [Tr.bn _ _ _ _ d,bJ c]at a
 .let ⟨h,l⟩:=hs.arr k e y j
  refine⟨h,λob a=>?_⟩;rw[Tr.bn _ _ _ _ d]at a;by_cases c:k=o
  .subst c;rw[cn rfl]at a;obtain rfl:=jU a
   let ⟨t,u,v,_⟩:=hs.BI f j
   refine .inl ⟨J,lits nj es hl,era,by rw[t];rfl,u,v,λz=>?_⟩
   simp_all
  simp_all
def bq.WU(hs:bq g s w)(d:o<bC)(p:s.ob.get o=Z (.arr sz (lits nj es hl) era))(f:hl.length=es.length)
  (t:I1 g m gW hole hl):bq g {s with ob:=s.ob.set aR o (.kX nj sz es era m gW hole)} w:=by
 have u:=hs.Aq p rfl;refine⟨hs.aL,hs.ai,λk b v=>?_,λk e y q=>?_,hs.bx,hs.kJ⟩
 .have c:k≠o:=by grind
  let ⟨i,r,x⟩:=hs.box k b v
  refine⟨i,r,λob a=>x ob ?_⟩;simp at a;rwa [Tr.bn _ _ _ _ d,bJ c]at a
 .let ⟨i,r⟩:=hs.arr k e y q
  refine⟨i,λob a=>?_⟩;rw[Tr.bn _ _ _ _ d]at a;by_cases c:k=o
  .subst c;rw[cn rfl]at a;obtain rfl:=jU a
   let ⟨fz,j,h,h1,h2,h3,h4⟩:=(hs.arr k e y q).old _ p rfl
   have l:fT J sz (lits nj es hl) era=fT fz y.sz j h:=h1;obtain⟨rfl,n,rfl,rfl⟩:=kI l;exact .inr (.inl ⟨nj,es,era,m,gW,hole,by rw[n],h2,h3,λz=>⟨hl,f,h4 z,t⟩⟩)
  simp_all
def bq.pQ(hs:bq g s w)(k:s.ob.get m=Z (.rws sz iO r))(l:g.arr m e=Z y) :
  (∀a i,r<a->g.arr m (rc a i)=Y)∧(∀i c y d,i≠c->g.arr m (rc r i)=Z y->g.arr m (rc r c)=Z d->∀b,y.at b->¬d.at b)∧
   (∀i,e=rc r i->y.sz=sz∧∃f,iO[i]?=Z f∧wZ g w J sz f y):=by
 obtain⟨fz,_,_,h,_⟩|⟨_,_,_,_,_,_,h,_⟩|⟨n,j,a,h,h2,h3,h4⟩|h|⟨h,_⟩:=(hs.arr m e y l).2 _ k
 .cases fz<;>cases h
 .cases h
 .grind
 .cases h
 .cases h
def wZ.at_(h:wZ g w fz sz es x){b:Nat}(a:x.at b):(fz=W↔g.bx b)∧∃vs ty,x.a=Z ⟨b,0,Y⟩∧w.heap[b]?=Z (.cells vs ty (0,0)):=by
 let ⟨c,h1,h2,h3⟩:=a
 let ⟨d,vs,ty,e,f,i,_⟩:=h.mem h3
 grind
def wZ.V8(a:wZ g w fz sz es x)(o:∀b,g.bx b->I b)(p:∀b,x.at b->I b):ew I w (.sl es) (.slice x.a x.len x.cap):=by
 rw[a.len];by_cases e:x.cap=0
 .have r:es=[]:=by
   have h1:=a.len;have h2:=a.cap
   simp_all
  subst r;exact .sl [] x.a x.cap sz (λ_ _=>undef) (by simp) (by simp) (by simp) (λh=>absurd rfl h) (λi j d c h=>by simp at h)
 .let ⟨b,s,ty,h1,h2,h3,h4,h5⟩:=a.mem e
  have m:∀q:Nat×Nat,∃v,∀d c,es[q.1]?=Z d->d.cells[q.2]?=Z c->s[q.1*sz+q.2]?=Z v∧ew I w c v:=by
   rintro⟨i,j⟩
   by_cases n:i<es.length
   .by_cases k:j<(es[i]).cells.length
    .let ⟨v,t,u⟩:=h5 i _ j _ (iZ n) (iZ k)
     refine⟨v,λd c f e=>?_⟩;rw[iZ n]at f;simp at f;subst f;rw[iZ k]at e;simp at e;subst e;exact⟨t,u.mono (λ_ _=>rfl) o⟩
    .refine ⟨undef,λd c f e=>?_⟩
     simp_all
   simp_all
  let ⟨val,l⟩:=UT m
  refine .sl es x.a x.cap sz (λi j=>val (i,j)) (by have:=a.len;have:=a.cap;omega) a.rows a.byt (λ_=>⟨_,h1,p b ⟨_,h1,rfl,e⟩,λi j d c f k=>?_⟩) (λi j d c f k=>(l (i,j) d c f k).2);rw[ot,cell?_of_block h3]
  simp_all
def zU(l:L D):D.oD l=(l.map D.lby).sum:=by
 induction l with|nil=>rfl|cons a l b=>grind[D.oD]
def Ja{α:Type}{l:L α}{a:α}(h:l[i]?=Z a):l.set i a=l:=by
 apply UO
 grind
def Ys(a:hl.length=es.length)(h:es[i]?=Z d):∃v,hl[i]?=Z v∧(lits nj es hl)[i]?=Z (jw nj d v):=by
 have b:=cq h
 simp_all[lits]
theorem mE{nj:Nat}{es:L D}{hl:L Value}(a:hl.length=es.length):(lits nj es hl).length=es.length:=by simp[lits];omega
def AI(nj:Nat)(d:D)(b:L D)(a:O Addr)(n m:Nat):(AJ nj d b).sj=(jw nj d (.slice a n m)).sj:=by show D.oD _=D.oD _;rw[zU,zU,Jm,Jm];rfl
def AZ{j:Nat}{c a:O Addr}(f:d.cells[j]?=Z (.sl []))(p:ew I w (.sl [jw j d (.slice c 0 0)]) (.slice a 1 1)):ew I w (.sl [d]) (.slice a 1 1):=by
 have b:=cq f;generalize t:(Value.slice a 1 1)=v at p;cases p with
 |sl es E cap sz val q l z F K=>
 cases t;have hl:(jw j d (.slice c 0 0)).cells=d.cells.set j (.lit (.slice c 0 0)):=rfl;have m:∀(k:Nat)(x:D),d.cells[k]?=Z x->∃r,(jw j d (.slice c 0 0)).cells[k]?=Z r∧∀u,ew I w r u->ew I w x u:=λk x e=>by
  by_cases A:k=j
  .subst A;rw[f]at e;cases e;refine⟨.lit (.slice c 0 0),by rw[hl,Xp b],λu B=>?_⟩;cases B;exact .sl [] c 0 0 (λ_ _=>undef) (by simp) (by simp) (by simp) (λh=>absurd rfl h) (λi j d c h=>by simp at h)
  grind
 have s:d.sj=(jw j d (.slice c 0 0)).sj:=by
  cases d with
  |agg g=>
   show D.oD g=D.oD (g.set j (.lit (.slice c 0 0)));rw[zU,zU,Jm];have:(g.map D.lby)[j]?=Z 24:=by rw[kN];have n:g[j]?=Z (.sl []):=f;rw[n];rfl
   have o:(D.lit (Value.slice c 0 0)).lby=24:=rfl;rw[o,Ja this]
  |_=>
   have C:j=0:=by have:j<1:=b;omega
   subst C;cases f<;>rfl
 refine .sl [d] a 1 sz val (by simp) (λx e=>?_) (λx e=>?_) (λ_=>?_) (λi k x y h1 h2=>?_)
 .rw[oa.1 e,<-l _ (oa.2 rfl),hl,KN]
 .simp_all
 .grind
 grind
def bq.VO(hs:bq g s w)(ho:s.ob.get o=Z (.kX nj sz es era m r Y))(hm:s.ob.get m=Z (.rws szr iO r))
  (hmN:m<bC) (hx:g.arr o era=Z x) (hfl:s.fl<=o) (Rb:s.fl<=m) :
  ∃g',bq g' {s with ob:=(s.ob.set aR m .gone).set aR o (.kS sz (mH nj es iO) era)} w∧Ext s.fl g w g' w:=by
 have mR:o<bC:=iP (hs.lt' hx) hs.aL;have hom:o≠m:=by grind
 let ⟨ajE,_,hnx,h4⟩:=hs.BI ho hx
 let ⟨hl,K,n,hL⟩:=h4 rfl
 let R:Nat->Prop:=λb=>x.at b∨∃i y,g.arr m (rc r i)=Z y∧y.at b
 have B:∀b,R b->∃k,s.fl<=k∧(k=o∨k=m)∧bG g k b:=by
  rintro b (q|⟨i,y,hy,q⟩)
  .have h1:=(n.at_ q).1
   let ⟨ad,k1,k2,k3⟩:=q
   exact⟨o,hfl,.inl rfl,λp=>Bool.noConfusion (h1.2 p),.inr ⟨era,x,ad,hx,k1,k2,k3⟩⟩
  .let ⟨_,t,_,hr⟩:=(hs.pQ hm hy).2.2 i rfl
   have h1:=(hr.at_ q).1
   let ⟨ad,k1,k2,k3⟩:=q
   exact⟨m,Rb,.inr rfl,λp=>Bool.noConfusion (h1.2 p),.inr ⟨_,y,ad,hy,k1,k2,k3⟩⟩
 have aex:∀b,R b->¬g.bx b:=λb q=>let ⟨_,_,_,hO⟩:=B b q;hO.1;have C:∀k b,bG (g.kS R) k b->bG g k b∧¬R b:=λk b h=>⟨⟨λhi=>h.1 (.inl hi),h.2⟩,λhi=>h.1 (.inr hi)⟩;have he:Ext s.fl g w (g.kS R) w:=
  ⟨λ_ _ h=>h,λ_ _ _ h=>h,λ_ h=>.inl h,cu _,λ_ _ _=>rfl,λk b h=>.inl (C k b h).1,
   λb h=>h.imp id λh=>.inr (let ⟨k,h1,_,h3⟩:=B b h;⟨k,h1,h3⟩),rfl,rfl⟩
 have dm:∀k,((s.ob.set aR m .gone).set aR o (.kS sz (mH nj es iO) era)).get k=if k=o then Z (.kS sz (mH nj es iO) era)else if k=m then Z .gone else s.ob.get k:=λk=>by rw[Tr.bn _ _ _ _ mR,Tr.bn _ _ _ _ hmN]
 have aqr:=hs.Aq ho rfl;have aqs:=hs.Aq hm rfl;refine⟨g.kS R,⟨hs.aL,hs.ai,λk c P=>?_,λk j y hy=>?_,λb q=>?_,λk k' b h h'=>hs.kJ k k' b (C k b h).1 (C k' b h').1⟩,he⟩
 .have hc':g.bV k=Z c:=P;have E:k≠o:=by grind
  have I:k≠m:=by grind
  have F:=hs.box k c P;refine F.ext he hs.bx rfl (by simp;rw[dm,bJ E,bJ I]) ?_
  rintro(p|Gz)
  .exact F.1 p
  .let ⟨k',_,h1,h2⟩:=B c Gz
   have:=hs.kJ k k' c ⟨F.1,.inl P⟩ h2;omega
 .have u:g.arr k j=Z y:=hy;by_cases E:k=o
  .subst E
   let ⟨q1,q2,_,_⟩:=hs.BI ho u
   refine⟨(hs.arr k j y u).1,λob e=>?_⟩;simp at e;rw[dm,cn rfl]at e;obtain rfl:=jU e;refine .inl ⟨W,mH nj es iO,era,by rw[q1];rfl,q2,hnx,λhje=>?_⟩;subst hje;rw[hx]at u;cases u;rw[q1];have A:∀(i:Nat)(d:D),es[i]?=Z d->∃(t:L D)(l:ff),iO[i]?=Z t∧hl[i]?=Z (Value.slice l.a l.len l.cap)∧(lits nj es hl)[i]?=Z (jw nj d (.slice l.a l.len l.cap))∧ew (g.kS R).bx w (.sl t) (.slice l.a l.len l.cap):=by
    intro i d hd
    let ⟨v,hv,a⟩:=Ys (nj:=nj) K hd
    obtain⟨l,hyy,rfl⟩:=hL.2 i v hv (by simp)
    let ⟨_,t,hrs,hra⟩:=(hs.pQ hm hyy).2.2 i rfl
    exact⟨t,l,hrs,hv,a,hra.V8 (λ_ h=>.inl h) (λb q=>.inr (.inr ⟨i,l,hyy,q⟩))⟩
   have ac2:(mH nj es iO).length=es.length:=by
    rw[mH,List.length_zipWith];obtain h|h:=Nat.lt_or_ge iO.length es.length
    .let ⟨t,_,hrs,_⟩:=A iO.length _ (iZ h)
     simp_all
    .omega
   have z:∀(i:Nat)(f:D),(mH nj es iO)[i]?=Z f->∃d t,es[i]?=Z d∧iO[i]?=Z t∧f=AJ nj d t:=by
    grind[mH]
   refine⟨by rw[ac2];have:=n.len;rw[mE K]at this;exact this,n.cap,λf hf=>?_,n.pos,λf hf=>?_,λh=>?_,λP=>?_⟩
   .let ⟨i,hi⟩:=Xn hf
    obtain⟨d,t,h1,h2,rfl⟩:=z i f hi
    let ⟨_,_,_,_,a,_⟩:=A i d h1
    have:=n.rows _ (hJ a)
    grind[jw,AJ,D.cells]
   .let ⟨i,hi⟩:=Xn hf
    obtain⟨d,t,h1,h2,rfl⟩:=z i f hi
    let ⟨_,l,_,_,a,_⟩:=A i d h1
    rw[AI nj d t l.a l.len l.cap];have q:=n.byt _ (hJ a)
    grind[mE]
   .refine n.emp ?_
    grind[mE]
   .let ⟨b,vs,ty,k1,_,k3,k4,k5⟩:=n.mem P
    refine⟨b,vs,ty,k1,⟨λ_=>.inr (.inl ⟨_,k1,rfl,P⟩),λ_=>rfl⟩,k3,k4,λi f S c hf hjj=>?_⟩;obtain⟨d,t,h1,h2,rfl⟩:=z i f hf
    let ⟨rs',l,h2',hv,a,hdr⟩:=A i d h1
    rw[h2]at h2';cases h2';by_cases hjn:S=nj
    .subst hjn;have hlt:S<d.cells.length:=by grind[AJ,D.cells]
     let ⟨v,hv1,hv2⟩:=k5 i _ S (.lit (.slice l.a l.len l.cap)) a (by show(d.cells.set S _)[S]?=_;rw[Xp hlt])
     cases hv2;have hce:c=.sl t:=by
      have hj2:(d.cells.set S (.sl t))[S]?=Z c:=hjj
      simp_all
     simp_all
    .let ⟨v,hv1,hv2⟩:=k5 i _ S c a (by
      grind[jw,AJ,D.cells])
     exact⟨v,hv1,hv2.ext he hs.bx⟩
  .by_cases I:k=m
   .subst I;refine⟨(hs.arr k j y u).1,λob e=>?_⟩;rw[dm,bJ E,cn rfl]at e;obtain rfl:=jU e;exact .inr (.inr (.inr (.inl rfl)))
   .have Vy:=hs.arr k j y u;refine Vy.ext he hs.bx (λc P hcap=>⟨rfl,⟨λh=>h.elim id λGz=>?_,.inl⟩⟩) (by simp;rw[dm,bJ E,bJ I]) rfl;by_cases p:g.bx c
    .exact p
    .let ⟨k',_,h1,h2⟩:=B c Gz
     have:=hs.kJ k k' c ⟨p,.inr ⟨j,y,_,u,P,rfl,hcap⟩⟩ h2;omega
 .obtain q|q:=q
  .exact hs.bx b q
  .let ⟨k,_,_,h⟩:=B b q
   exact(hs.qR h).1
structure Um(g:Gh)(w:World)(n:Nat)(es:List D)(x:ff)(v:Value)(w':World)(x':ff):Prop where
 val:v=.slice x'.a x'.len x'.cap
 sz:x'.sz=n
 os:w'.os=w.os
 output:w'.output=w.output
 size:w.heap.size<=w'.heap.size
 heap:∀b,b<w.heap.size->¬x.at b->w'.heap[b]?=w.heap[b]?
 at_:∀b,x'.at b->b<w'.heap.size∧(w.heap.size<=b∨x.at b)
 ok:wZ g w' J n es x'
noncomputable def Gh.n9(g:Gh)(m r i:Nat)(y:ff):Gh:=by
 classical
 exact{g with arr:=λk j=>if k=m then(if h:∃a,j=rc (r+1) a then(if h.choose=i then Z y else g.arr m (rc r h.choose))else g.arr m j)else g.arr k j}
theorem Gh.mq{g:Gh}{m r i:Nat}{y:ff}{k:Nat}(h:k≠m):(g.n9 m r i y).arr k=g.arr k:=by
 funext j
 simp[Gh.n9,h]
def Gh.pR(b:Nat):(g.n9 m r i y).arr m (rc (r+1) b)=if b=i then Z y else g.arr m (rc r b):=by have a:∃c,rc (r+1) b=rc (r+1) c:=⟨b,rfl⟩;have d:a.choose=b:=(rG a.choose_spec).2.symm;simp[Gh.n9,ku,dif_pos a,d]
theorem Gh.yU{g:Gh}{m r i:Nat}{y:ff}{j:Nat}(h:∀a,j≠rc (r+1) a):(g.n9 m r i y).arr m j=g.arr m j:=by
 simp_all[Gh.n9]
def bq.adD{w':World}(hs:bq g s w){F:ff}{v:Value}{t:L D}(ho:s.ob.get o=Z (.kX nj sz es era m r Y))
  (hm:s.ob.get m=Z (.rws szr iO r)) (hoN:o<bC) (hy:g.arr m (rc r i)=Z y) (f:Um g w szr t y v w' F) (Rb:s.fl<=m) :
  bq (g.n9 m r i F) {s with ob:=(s.ob.set aR m (.rws szr (iO.set i t) (r+1))).set aR o (.kX nj sz es era m (r+1) (Z i))} w'∧Ext s.fl g w (g.n9 m r i F) w':=by
 have hmN:m<bC:=iP (hs.lt' hy) hs.aL;have hom:o≠m:=by grind
 let ⟨hnone,I,hrow⟩:=hs.pQ hm hy
 let ⟨_,rs0,acP,aqe⟩:=hrow i rfl
 have hilt:=cq acP;have P:∀b,y.at b->bG g m b:=λb a=>by
  have h1:=(aqe.at_ a).1
  let ⟨u,k1,k2,R⟩:=a
  exact⟨λTx=>Bool.noConfusion (h1.2 Tx),.inr ⟨_,y,u,hy,k1,k2,R⟩⟩
 have Lu:∀k j z,g.arr k j=Z z->(g.n9 m r i F).arr k j=Z z:=λk j z h=>by
  grind[Gh.yU,Gh.mq]
 have d:∀k j z,(g.n9 m r i F).arr k j=Z z->(k=m∧j=rc (r+1) i∧z=F)∨(k=m∧∃l,l≠i∧j=rc (r+1) l∧g.arr m (rc r l)=Z z)∨((∀l,k=m->j≠rc (r+1) l)∧g.arr k j=Z z):=λk j z h=>by
  by_cases S:k=m
  .subst S;by_cases hj:∃l,j=rc (r+1) l
   .obtain ⟨l,rfl⟩:=hj;rw[Gh.pR]at h
    grind
   grind[Gh.yU]
  grind[Gh.mq]
 have x:∀k b,bG (g.n9 m r i F) k b->bG g k b∨(k=m∧w.heap.size<=b):=by
  rintro k b ⟨h1,h2|⟨j,z,u,h2,h3,h4,h5⟩⟩
  .exact .inl ⟨h1,.inl h2⟩
  .obtain ⟨rfl,_,rfl⟩|⟨rfl,l,_,_,h⟩|⟨_,h⟩:=d k j z h2
   .obtain h|h:=(f.at_ b ⟨u,h3,h4,h5⟩).2
    .omega
    simp_all
   .exact .inl ⟨h1,.inr ⟨_,z,u,h,h3,h4,h5⟩⟩
   .exact .inl ⟨h1,.inr ⟨j,z,u,h,h3,h4,h5⟩⟩
 have he:Ext s.fl g w (g.n9 m r i F) w':=
  ⟨λ_ _ h=>h,Lu,λ_ h=>h,f.size,λb a hn=>f.heap b a λn=>hn m Rb (P b n),λk b h=>(x k b h).imp id (·.2),λ_ h=>.inl h,f.os,f.output⟩
 have dm:∀k,((s.ob.set aR m (.rws szr (iO.set i t) (r+1))).set aR o (.kX nj sz es era m (r+1) (Z i))).get k=if k=o then Z (.kX nj sz es era m (r+1) (Z i))else if k=m then Z (.rws szr (iO.set i t) (r+1))else s.ob.get k:=λk=>by rw[Tr.bn _ _ _ _ hoN,Tr.bn _ _ _ _ hmN]
 have aqr:=hs.Aq ho rfl;have aqs:=hs.Aq hm rfl;have A:∀k j z,g.arr k j=Z z->k≠m->∀b,z.a=Z ⟨b,0,Y⟩->z.cap≠0->w'.heap[b]?=w.heap[b]?:=λk j z E S b a p=>by refine f.heap b ((hs.arr k j z E).1 _ a p) λn=>?_;have hO:=P b n;exact S (hs.kJ k m b ⟨hO.1,.inr ⟨j,z,_,E,a,rfl,p⟩⟩ hO)
 refine⟨⟨hs.aL,λk S=>⟨(hs.ai k S).1,λj=>?_⟩,λk b a=>?_,λk j z E=>?_,λb a=>iP (hs.bx b a) f.size,λk k' b h h'=>?_⟩,he⟩
 .rw[Gh.mq (by rintro rfl;have:=hs.lt' hy;grind)];exact(hs.ai k S).2 j
 .have hb':g.bV k=Z b:=a;have K:k≠o:=by grind
  have c:k≠m:=by grind
  have q:=hs.box k b hb';exact q.ext he hs.bx (f.heap b q.2.1 λn=>c (hs.kJ k m b ⟨q.1,.inl hb'⟩ (P b n))) (by simp;rw[dm,bJ K,bJ c]) q.1
 .by_cases c:k=m
  .subst c;refine⟨λu ha p=>?_,λob B=>?_⟩
   .obtain ⟨_,_,rfl⟩|⟨_,l,_,_,h⟩|⟨_,h⟩:=d k j z E
    .exact (f.at_ _ ⟨u,ha,rfl,p⟩).1
    .exact iP ((hs.arr k _ z h).1 u ha p) f.size
    .exact iP ((hs.arr k _ z h).1 u ha p) f.size
   .rw[dm,bJ (λe=>hom e.symm),cn rfl]at B;obtain rfl:=jU B;refine .inr (.inr (.inl ⟨szr,iO.set i t,r+1,rfl,λr' l hr'=>?_,λi1 i2 y1 y2 hne h1 h2 b DV pF=>?_,λl hj=>?_⟩))
    .grind[Gh.yU,rG]
    .rw[Gh.pR]at h1 h2;have mix:∀i3 y3,i3≠i->g.arr k (rc r i3)=Z y3->∀b,F.at b->¬y3.at b:=λi3 y3 hn h3 b a WE=>by
      obtain h|h:=(f.at_ b a).2
      .let ⟨u,k1,k2,R⟩:=WE
       have:=(hs.arr k _ y3 h3).1 u k1 R;omega
      grind
     grind
    .subst hj;rw[Gh.pR]at E;split at E
     .rename_i e1;subst e1;cases E;exact⟨f.sz,t,by rw[Xp hilt],f.ok.j6 rfl⟩
     .rename_i e1
      let ⟨q1,rs,q2,q3⟩:=(hs.pQ hm E).2.2 l rfl
      refine⟨q1,rs,by grind,q3.ext he hs.bx (λb a p=>⟨?_,uZ⟩)⟩;exact f.heap b ((hs.arr k _ z E).1 _ a p) (λn=>I i l y z (λe=>e1 e.symm) hy E b n ⟨_,a,rfl,p⟩)
  .have C:g.arr k j=Z z:=by grind
   by_cases K:k=o
   .subst K
    let ⟨q1,q2,q3,q4⟩:=hs.BI ho C
    refine⟨λu ha p=>iP ((hs.arr k j z C).1 u ha p) f.size,λob B=>?_⟩;rw[dm,cn rfl]at B;obtain rfl:=jU B;refine .inr (.inl ⟨nj,es,era,m,r+1,Z i,by rw[q1],q2,λe' h=>by rw[Gh.mq c];exact q3 e' h,λhje=>?_⟩)
    let ⟨hl,k1,k2,R⟩:=q4 hje
    refine⟨hl,k1,q1▸(k2.ext he hs.bx (λb a p=>⟨A k j z C c b a p,uZ⟩)),R.1,λl h hh hne=>?_⟩
    let ⟨yy,h1,h2⟩:=R.2 l h hh (by simp)
    exact⟨yy,by rw[Gh.pR,bJ (λe=>hne (by rw[e]))];exact h1,h2⟩
   .exact (hs.arr k j z C).ext he hs.bx (λb a p=>⟨A k j z C c b a p,uZ⟩) (by simp;rw[dm,bJ K,bJ c]) (Gh.mq c)
 .obtain h1|⟨h1,h3⟩:=x k b h<;>obtain h2|⟨h2,h4⟩:=x k' b h'
  .exact hs.kJ k k' b h1 h2
  .have:=(hs.qR h1).1;omega
  .have:=(hs.qR h2).1;omega
  .rw[h1,h2]
noncomputable def Gh.g8(g:Gh)(m:Nat)(ys:L ff):Gh:=by
 classical
 exact{g with arr:=λk j=>if k=m then(if h:∃i,j=rc 0 i then ys[h.choose]? else Y)else g.arr k j}
theorem Gh.jF{g:Gh}{m:Nat}{ys:L ff}{k:Nat}(h:k≠m):(g.g8 m ys).arr k=g.arr k:=by
 funext j
 simp[Gh.g8,h]
theorem Gh.wI{g:Gh}{m:Nat}{ys:L ff}(i:Nat):(g.g8 m ys).arr m (rc 0 i)=ys[i]?:=by have a:∃b,rc 0 i=rc 0 b:=⟨i,rfl⟩;have c:a.choose=i:=(rG a.choose_spec).2.symm;simp[Gh.g8,ku,dif_pos a,c]
theorem Gh.uv{g:Gh}{m:Nat}{ys:L ff}{j:Nat}{z:ff}(h:(g.g8 m ys).arr m j=Z z):∃i,j=rc 0 i∧ys[i]?=Z z:=by
 by_cases a:∃i,j=rc 0 i
 .obtain ⟨i,rfl⟩:=a;rw[Gh.wI]at h;exact⟨i,rfl,h⟩
 .simp only[Gh.g8,ku,dif_neg a]at h;cases h
def bq.ahj(hs:bq g s w)(hn:s.aL<bC){ys:L ff}(F:∀y∈ys,∀b,y.at b->b<w.heap.size∧∀o,¬bG g o b)
  (n:∀(i:Nat)(y:ff),ys[i]?=Z y->y.sz=sz∧∃f,iO[i]?=Z f∧wZ g w J sz f y) (I:ys.Pairwise λx y=>∀b,x.at b->¬y.at b) :
  bq (g.g8 s.aL ys) (ey s (.rws sz iO 0)).2 w∧(∀k j y,g.arr k j=Z y->(g.g8 s.aL ys).arr k j=Z y)∧(∀k b,bG (g.g8 s.aL ys) k b->bG g k b∨(k=s.aL∧∃y∈ys,y.at b)):=by
 have p:=hs.ai s.aL (cu _);have c:∀k j y,g.arr k j=Z y->(g.g8 s.aL ys).arr k j=Z y:=λk j y h=>by
  rw[Gh.jF]
  .exact h
  grind
 have d:∀k b,bG (g.g8 s.aL ys) k b->bG g k b∨(k=s.aL∧∃y∈ys,y.at b):=by
  rintro k b ⟨h1,h2|⟨j,y,l,h2,h3⟩⟩
  .exact .inl ⟨h1,.inl h2⟩
  .by_cases e:k=s.aL
   .subst e
    let ⟨i,_,m⟩:=Gh.uv h2
    exact .inr ⟨rfl,y,hJ m,l,h3⟩
   .rw[Gh.jF e]at h2;exact .inl ⟨h1,.inr ⟨j,y,l,h2,h3⟩⟩
 have dm:∀k,(ey s (.rws sz iO 0)).2.ob.get k=if k=s.aL then Z (.rws sz iO 0)else s.ob.get k:=λk=>by simp[ey];rw[Tr.bn _ _ _ _ hn]
 refine⟨⟨by simp only[ey];omega,λk e=>?_,λk b K=>?_,λk j y P=>?_,hs.bx,λk C b h R=>?_⟩,c,d⟩
 .simp only[ey]at e;refine⟨(hs.ai k (by omega)).1,λj=>?_⟩;rw[Gh.jF (by omega)];exact(hs.ai k (by omega)).2 j
 .have q:g.bV k=Z b:=K;have r:k≠s.aL:=λh=>by simp_all
  let ⟨u,A,S⟩:=hs.box k b q
  refine⟨u,A,λob a=>?_⟩;rw[dm,bJ r]at a
  let ⟨x,h1,h2⟩:=S ob a
  refine⟨x,h1,?_⟩;exact h2.imp (λt v ht=>ht.aq5 c rfl rfl)
 .by_cases e:k=s.aL
  .subst e;obtain⟨i,rfl,m⟩:=Gh.uv P;refine⟨λl ha hc=>(F y (hJ m) _ ⟨l,ha,rfl,hc⟩).1,λob a=>?_⟩;rw[dm,cn rfl]at a;obtain rfl:=jU a;refine .inr (.inr (.inl ⟨sz,iO,0,rfl,λr' E hr'=>?_,λi1 i2 y1 y2 hne h1 h2 b DV pF=>?_,λE hj=>?_⟩))
   .cases h:(g.g8 s.aL ys).arr s.aL (rc r' E)with
    |none=>rfl|some z=>
     grind[Gh.uv,rG]
   .grind[Gh.wI,List.pairwise_iff_getElem]
   .have:=(rG hj).2;subst this
    let ⟨q1,f,q2,q3⟩:=n i y m
    exact⟨q1,f,q2,q3.j6 rfl⟩
  .have B:g.arr k j=Z y:=by grind[Gh.jF]
   let ⟨u,A⟩:=hs.arr k j y B
   refine⟨u,λob a=>?_⟩;rw[dm,bJ e]at a;exact(A ob a).tr (λh=>h.j6 rfl) c (Gh.jF e) (λ_ _ _=>⟨rfl,uZ⟩)
 .obtain h1|⟨h1,y1,m1,a1⟩:=d k b h<;>obtain h2|⟨h2,y2,m2,a2⟩:=d C b R
  .exact hs.kJ k C b h1 h2
  .grind
  .grind
  .rw[h1,h2]
end
section
variable {g:Gh}{s:St}{w:World}{o:Nat}
def bq.Kz(hs:bq g s w){e sz:Nat}{es:L D}{x:ff}(c:s.ob.get o=Z (.kS sz es e))(d:g.arr o e=Z x) :
  ew g.bx w (.sl es) (.slice x.a x.len x.cap):=by
 let ⟨a,_⟩:=hs.oq (fz:=W) c d
 exact a.V8 (λ_ h=>h) (λb f=>(a.at_ f).1.1 rfl)
def Live(g:Gh)(s:St)(o:Nat):Prop:=o<bC∧((∃e x,g.arr o e=Z x∧((∃fz sz es,s.ob.get o=Z (fT fz sz es e))∨∃nj sz es m r hole,s.ob.get o=Z (.kX nj sz es e m r hole)))∨(∃sz iO r,s.ob.get o=Z (.rws sz iO r))∨s.ob.get o=Z .gone)
def Live.oH{g:Gh}{s:St}{o:Nat}{ob:Ob}(h:Live g s o)(a:s.ob.get o=Z ob):ob.oH=W:=by
 obtain⟨_,_,_,⟨b,_,_,h⟩|⟨_,_,_,_,_,_,h⟩⟩|⟨_,_,_,h⟩|h:=h.2
 .rw[a]at h;cases h;cases b<;>rfl
 .rw[a]at h;cases h;rfl
 .rw[a]at h;cases h;rfl
 .rw[a]at h;cases h;rfl
structure ko(s s':St)(os:List Nat):Prop where
 fl:s'.fl=s.fl
 aL:s'.aL=s.aL
 hit:∀o∈os,∀fz sz es e,s.ob.get o=Z (fT fz sz es e)->s'.ob.get o=Z (.kS sz es e)
 kS:∀o sz es e,s.ob.get o=Z (.kS sz es e)->s'.ob.get o=Z (.kS sz es e)
 kX:∀o∈os,∀nj sz es e m r iO,s.ob.get o=Z (.kX nj sz es e m r Y)->Iv s m r=Z iO->s'.ob.get o=Z (.kS sz (mH nj es iO) e)
theorem ko.sub{s s':St}{os a:L Nat}(h:ko s s' os)(hs:∀o∈a,o∈os):ko s s' a:=
 ⟨h.fl,h.aL,λo b=>h.hit o (hs o b),h.kS,λo b=>h.kX o (hs o b)⟩
def o6{m r:Nat}{iO:L (L D)}(h:Iv s m r=Z iO):∃sz,s.ob.get m=Z (.rws sz iO r):=by
 unfold Iv at h;split at h
 .obtain ⟨a,h⟩|⟨_,h⟩:=ah h
  .simp_all
  .cases h
 .cases h
def v5{s':St}{os:L Nat}(h:freeze s (o::os)=Z s'):s.fl<=o∧
  ((∃sz es e,s.ob.get o=Z (.arr sz es e)∧freeze {s with ob:=s.ob.set aR o (.kS sz es e)} os=Z s')∨
   (∃sz es e,s.ob.get o=Z (.kS sz es e)∧freeze s os=Z s')∨
   (((∃sz iO r,s.ob.get o=Z (.rws sz iO r))∨s.ob.get o=Z .gone)∧freeze s os=Z s')∨
   (∃nj sz es e m r iO b,s.ob.get o=Z (.kX nj sz es e m r Y)∧s.ob.get m=Z (.rws b iO r)∧Iv s m r=Z iO∧(m∈os∧s.fl<=m)∧m<bC∧freeze {s with ob:=(s.ob.set aR m .gone).set aR o (.kS sz (mH nj es iO) e)} os=Z s')):=by
 obtain⟨d,h⟩|⟨_,h⟩:=ah h
 .refine ⟨g9 d,?_⟩;split at h
  .grind
  .simp_all
  .rename_i nj sz es e m r f;split at h
   .rename_i iO c;obtain⟨a,h⟩|⟨_,h⟩:=ah h
    .rw[eK]at a
     let ⟨b,g⟩:=o6 c
     rw[eK]at a;exact .inr (.inr (.inr ⟨nj,sz,es,e,m,r,iO,b,f,g,c,⟨by grind,g9 a.2.1⟩,g9 a.2.2,h⟩))
    .cases h
   .cases h
  .simp_all
  .simp_all
  .cases h
 .cases h
def nW:∀{os:L Nat}{s s':St}{m:Nat},freeze s os=Z s'->s.ob.get m=Z .gone->(∀o∈os,o<bC)->∀o∈os,∀nj sz es e r hole,s.ob.get o≠Z (.kX nj sz es e m r hole)
 |[],_,_,_,_,_,_,o,j,_,_,_,_,_,_=>by cases j
 |b::os,s,s',m,h,q,l,o,j,nj,sz,es,e,r,hole=>λu=>by
  obtain⟨_,h1|h1|h1|h1⟩:=v5 h
  .let ⟨d,f,t,g,h2⟩:=h1
   have i:m≠b:=by grind
   have a:o≠b:=by grind
   have dm:∀k,k≠b->({s with ob:=s.ob.set aR b (.kS d f t)}:St).ob.get k=s.ob.get k:=λk c=>by show(s.ob.set aR b _).get k=_;rw[Tr.bn _ _ _ _ (l b (by simp)),bJ c]
   exact nW h2 (by rw[dm m i];exact q) (λk c=>l k (by simp[c])) o ((fy.1 j).resolve_left a) nj sz es e r hole (by simp_all)
  .let ⟨d,f,t,g,h2⟩:=h1
   have a:o≠b:=by grind
   exact nW h2 q (λk c=>l k (by simp[c])) o ((fy.1 j).resolve_left a) nj sz es e r hole u
  .let ⟨g,h2⟩:=h1
   have a:o≠b:=by
    rintro rfl
    obtain⟨_,_,_,h⟩|h:=g<;>(rw[u]at h;cases h)
   exact nW h2 q (λk c=>l k (by simp[c])) o ((fy.1 j).resolve_left a) nj sz es e r hole u
  .let ⟨v,d,f,t,n,C,p,z,g,B,_,_,w,h2⟩:=h1
   have x:m≠n:=by grind
   have i:m≠b:=by grind
   by_cases a:o=b
   .simp_all
   .have A:o≠n:=by grind
    have dm:∀k,k≠b->k≠n->({s with ob:=(s.ob.set aR n .gone).set aR b (.kS d (mH v f p) t)}:St).ob.get k=s.ob.get k:=λk c y=>by show((s.ob.set aR n _).set aR b _).get k=_;rw[Tr.bn _ _ _ _ (l b (by simp)),bJ c,Tr.bn _ _ _ _ w,bJ y]
    exact nW h2 (by rw[dm m i x];exact q) (λk c=>l k (by simp[c])) o ((fy.1 j).resolve_left a) nj sz es e r hole (by simp_all)
def eI(os:L Nat):∀{g:Gh}{s s':St}{w:World},bq g s w->freeze s os=Z s'->(∀o∈os,Live g s o)->
  ∃g',bq g' s' w∧Ext s.fl g w g' w∧ko s s' os:=by
 induction os with
 |nil=>intro g s s' w I h _;simp[freeze]at h;subst h;exact⟨g,I,Ext.refl _ _ _,⟨rfl,rfl,λo j=>(by cases j),λ_ _ _ _ h=>h,λo j=>(by cases j)⟩⟩
 |cons o os ih=>
  intro g s s' w I h A;have hN:∀k∈o::os,k<bC:=λk f=>(A k f).1;have y:=hN o (by simp);obtain⟨K,h1|h1|h1|h1⟩:=v5 h
  .obtain ⟨sz,t,e0,j,h⟩:=h1;obtain⟨x,B⟩:∃x,g.arr o e0=Z x:=by
    obtain⟨e,x,B,⟨q,_,_,h⟩|⟨_,_,_,_,_,_,h⟩⟩|⟨_,_,_,h⟩|h:=(A o (by simp)).2
    .grind[fT,Option.some.inj,kI]
    .simp_all
    .simp_all
    simp_all
   obtain⟨C,u⟩:=I.adf j B K;have dm:∀k,({s with ob:=s.ob.set aR o (.kS sz t e0)}:St).ob.get k=if k=o then Z (.kS sz t e0)else s.ob.get k:=λk=>Tr.bn _ _ _ _ y
   obtain⟨g',n,p,a⟩:=ih C h (λk f=>by
    by_cases b:k=o
    .subst b;exact⟨y,.inl ⟨e0,x,B,.inl ⟨W,sz,t,by rw[dm,cn rfl];rfl⟩⟩⟩
    .have:=A k (by simp[f]);unfold Live at this ⊢;rw[dm,bJ b];exact this)
   refine⟨g',n,u.trans p,⟨a.fl,a.aL,λk f q c d i h1=>?_,λk c d i h1=>?_,λk f z c d i m r l h1 h2=>?_⟩⟩
   .by_cases b:k=o
    .subst b;rw[j]at h1;have E:fT J sz t e0=_:=jU h1;obtain⟨_,rfl,rfl,rfl⟩:=kI E;exact a.kS k sz t e0 (by rw[dm,cn rfl])
    .exact a.hit k ((fy.1 f).resolve_left b) q c d i (by simp_all)
   .have b:k≠o:=by
     grind
    exact a.kS k c d i (by simp_all)
   .have b:k≠o:=by grind
    obtain⟨szr,hm⟩:=o6 h2;have P:m≠o:=by grind
    exact a.kX k ((fy.1 f).resolve_left b) z c d i m r l (by simp_all) (by simp_all[Iv,bJ])
  .obtain ⟨sz,t,e,j,h⟩:=h1;obtain⟨g',n,p,a⟩:=ih I h (λk f=>A k (by simp[f]));refine⟨g',n,p,⟨a.fl,a.aL,λk f q c d i h1=>?_,a.kS,λk f z c d i m r l h1 h2=>?_⟩⟩
   .obtain rfl|f:=fy.1 f
    .rw[j]at h1;have E:fT W sz t e=_:=jU h1;obtain⟨_,rfl,rfl,rfl⟩:=kI E;exact a.kS k sz t e j
    .exact a.hit k f q c d i h1
   .have b:k≠o:=by grind
    exact a.kX k ((fy.1 f).resolve_left b) z c d i m r l h1 h2
  .obtain ⟨j,h⟩:=h1;obtain⟨g',n,p,a⟩:=ih I h (λk f=>A k (by simp[f]));refine⟨g',n,p,⟨a.fl,a.aL,λk f q c d i h1=>?_,a.kS,λk f z c d i m r l h1 h2=>?_⟩⟩
   .have b:k≠o:=by rintro rfl;obtain⟨_,_,_,h⟩|h:=j<;>(rw[h1]at h;cases q<;>cases h)
    exact a.hit k ((fy.1 f).resolve_left b) q c d i h1
   .have b:k≠o:=by rintro rfl;obtain⟨_,_,_,h⟩|h:=j<;>(rw[h1]at h;cases h)
    exact a.kX k ((fy.1 f).resolve_left b) z c d i m r l h1 h2
  .obtain ⟨z,sz,t,e0,m,r,l,szr,j,hm,hr,⟨_,R⟩,F,h⟩:=h1;obtain⟨x,B⟩:∃x,g.arr o e0=Z x:=by
    obtain⟨e,x,B,⟨q,_,_,h⟩|⟨_,_,_,_,_,_,h⟩⟩|⟨_,_,_,h⟩|h:=(A o (by simp)).2
    .rw[j]at h;cases q<;>cases h
    .simp_all
    .simp_all
    simp_all
   obtain⟨g1,C,u⟩:=I.VO j hm F B K R;have hom:o≠m:=by grind
   have dm:∀k,({s with ob:=(s.ob.set aR m .gone).set aR o (.kS sz (mH z t l) e0)}:St).ob.get k=if k=o then Z (.kS sz (mH z t l) e0)else if k=m then Z .gone else s.ob.get k:=λk=>by show((s.ob.set aR m _).set aR o _).get k=_;rw[Tr.bn _ _ _ _ y,Tr.bn _ _ _ _ F]
   obtain⟨g',n,p,a⟩:=ih C h (λk f=>by
    by_cases b:k=o
    .subst b;exact⟨y,.inl ⟨e0,x,u.arr _ _ _ B,.inl ⟨W,sz,_,by rw[dm,cn rfl];rfl⟩⟩⟩
    .by_cases v:k=m
     .subst v;exact⟨F,.inr (.inr (by rw[dm,bJ b,cn rfl]))⟩
     .obtain ⟨h0,h1⟩:=A k (by simp[f]);refine⟨h0,?_⟩;rw[dm,bJ b,bJ v];exact h1.imp (λ⟨i,x',h1,h2⟩=>⟨i,x',u.arr _ _ _ h1,h2⟩) id)
   refine⟨g',n,u.trans p,⟨a.fl,a.aL,λk f q c d i h1=>?_,λk c d i h1=>?_,λk f S c d i m' r' anl h1 h2=>?_⟩⟩
   .have b:k≠o:=by rintro rfl;rw[j]at h1;cases q<;>cases h1
    have v:k≠m:=by rintro rfl;rw[hm]at h1;cases q<;>cases h1
    exact a.hit k ((fy.1 f).resolve_left b) q c d i (by simp_all)
   .have b:k≠o:=by grind
    have v:k≠m:=by grind
    exact a.kS k c d i (by simp_all)
   .by_cases b:k=o
    .subst b;rw[j]at h1;cases h1;rw[hr]at h2;cases h2;exact a.kS k _ _ _ (by rw[dm,cn rfl])
    .have hk':=(fy.1 f).resolve_left b;obtain⟨szr',hm'⟩:=o6 h2;have v:k≠m:=by grind
     have P:m'≠o:=by grind
     have hmm:m'≠m:=by
      rintro rfl
      exact nW h (m:=m') (by rw[dm,bJ P,cn rfl]) (λk f=>hN k (by simp[f])) k hk' S c d i r' Y (by simp_all)
     exact a.kX k hk' S c d i m' r' anl (by simp_all) (by simp_all[Iv,bJ])
mutual
def lP{g:Gh}{s:St}{w:World}(hs:bq g s w):∀(t:T){v:Value}{p:Prop}{d:D}{os:L Nat},Bs s t=Z (p,d,os)->p->aP g w t v->
  (∀o∈os,Live g s o)∧∀(g':Gh)(s':St),bq g' s' w->Ext s.fl g w g' w->ko s s' os->ew g'.bx w d v
 |.sym d,v,p,K,os,h,B,f=>by obtain⟨_,rfl,rfl⟩:=h;cases f with|sym _ _ y=>exact⟨λo l=>(by cases l),λg' s' _ A _=>y.ext A hs.bx⟩
 |.kb b,v,p,K,os,h,B,f=>by obtain⟨_,rfl,rfl⟩:=h;cases f;exact⟨λo l=>(by cases l),λg' s' _ A _=>.lit _⟩
 |.kn k n,v,p,K,os,h,B,f=>by obtain⟨_,rfl,rfl⟩:=h;cases f;exact⟨λo l=>(by cases l),λg' s' _ A _=>.lit _⟩
 |.emp,v,p,K,os,h,B,f=>by obtain⟨_,rfl,rfl⟩:=h;cases f with|emp a=>exact⟨λo l=>(by cases l),λg' s' _ A _=>.sl [] a 0 0 (λ_ _=>undef) (by simp) (by simp) (by simp) (λh=>absurd rfl h) (λi j d c h=>by simp at h)⟩
 |.kq n P,v,p,K,os,h,B,f=>by obtain⟨_,rfl,rfl⟩:=h;cases f with|kq _ _ a hn y=>exact⟨λo l=>(by cases l),λg' s' _ A _=>y.ext A hs.bx⟩
 |.oY j d,v,p,K,os,h,B,f=>by obtain⟨_,rfl,rfl⟩:=h;cases f with|oY _ _ c a hj y=>exact⟨λo l=>(by cases l),λg' s' _ A _=>(AZ hj y).ext A hs.bx⟩
 |.rM _ _ _ _,_,_,_,_,h,_,_=>by simp[Bs]at h
 |.sh o e,v,p,K,os,h,B,f=>by
  cases f with
  |sh _ _ len cap sz a R=>
  simp[Bs]at h;split at h
  .rename_i z P era l;obtain⟨I,C⟩|⟨_,C⟩:=ah h
   .have E:=beq_iff'.1 I;obtain⟨_,rfl,rfl⟩:=C;clear h I;subst E;refine⟨λk S=>?_,λg' s' F A hf=>?_⟩
    .simp at S;subst S;exact⟨iP (hs.lt' R) hs.aL,.inl ⟨e,_,R,.inl ⟨J,z,P,l⟩⟩⟩
    .exact F.Kz (hf.hit o (by simp) J z P e l) (A.arr _ _ _ R)
   .cases C
  .rename_i z P era l;obtain⟨I,C⟩|⟨_,C⟩:=ah h
   .have E:=beq_iff'.1 I;obtain⟨_,rfl,rfl⟩:=C;clear h I;subst E;exact⟨λk S=>(by cases S),λg' s' F A hf=>F.Kz (hf.kS o z P e l) (A.arr _ _ _ R)⟩
   .cases C
  .rename_i nj z P era m r l;split at h
   .rename_i iO hr;obtain⟨I,C⟩|⟨_,C⟩:=ah h
    .rw[eK]at I;have E:=beq_iff'.1 I.1;have hmN:m<bC:=g9 I.2;obtain⟨_,rfl,rfl⟩:=C;clear h I;subst E;refine⟨λk S=>?_,λg' s' F A hf=>?_⟩
     .simp at S;obtain rfl|rfl:=S
      .exact ⟨iP (hs.lt' R) hs.aL,.inl ⟨e,_,R,.inr ⟨nj,z,P,m,r,Y,l⟩⟩⟩
      .let ⟨szr,hm⟩:=o6 hr
       exact⟨hmN,.inr (.inl ⟨szr,iO,r,hm⟩)⟩
     .exact F.Kz (hf.kX o (by simp) nj z P e m r iO l hr) (A.arr _ _ _ R)
    .cases C
   .cases h
  .cases h
 |.cT t x,v,p,K,os,h,B,f=>by
  cases f with
  |cT _ _ u hu=>
  simp[Bs]at h;split at h
  .rename_i q d os' y;obtain⟨rfl,rfl,rfl⟩:=h
   let ⟨h1,h2⟩:=lP hs x y B hu
   exact⟨h1,λg' s' a b c=>.cT _ _ _ (h2 g' s' a b c)⟩
  .cases h
 |.agg cs,v,p,K,os,h,B,f=>by
  cases f with
  |agg _ vs hl hr=>
  simp only[Bs]at h;split at h
  .rename_i q ds os' y;obtain⟨rfl,rfl,rfl⟩:=h
   let ⟨h0,h1,h2⟩:=tg hs cs (vs:=vs.toList) y B.1 (by simpa using hl) (λj t v f hv=>hr j t v f (by simpa using hv))
   refine⟨h1,λg' s' a b c=>.agg _ _ (by rw[h0,hl]) (λd y=>by simp_all) (λj d v y hv=>h2 g' s' a b c j d v y (by simpa using hv))⟩
  .cases h
 |.gM cs,v,p,K,os,h,B,f=>by
  cases f with
  |gM _ vs hl hr=>
  simp[Bs]at h;split at h
  .rename_i y;obtain⟨rfl,rfl,rfl⟩:=h
   let ⟨h0,h1,h2⟩:=tg hs cs (vs:=vs.toList) y B (by simpa using hl) (λj t v f hv=>hr j t v f (by simpa using hv))
   exact⟨h1,λg' s' a b c=>.gM _ _ (by rw[h0,hl]) (λj d v y hv=>h2 g' s' a b c j d v y (by simpa using hv))⟩
  .cases h
 |.ptr _ _,_,_,_,_,h,_,_=>by simp[Bs]at h
 |.nJ _ _,_,_,_,_,h,_,_=>by simp[Bs]at h
 |.lG _ _ _ _,_,_,_,_,h,_,_=>by simp[Bs]at h
 |.fn _ _ _,_,_,_,_,h,_,_=>by simp[Bs]at h
 |.gd _ _,_,_,_,_,h,_,_=>by simp[Bs]at h
def tg{g:Gh}{s:St}{w:World}(hs:bq g s w):∀(ts:L T){vs:L Value}{p:Prop}{ds:L D}{os:L Nat},nN s ts=Z (p,ds,os)->p->ts.length=vs.length->
  (∀(j:Nat)(t:T)(v:Value),ts[j]?=Z t->vs[j]?=Z v->aP g w t v)->
  ds.length=ts.length∧(∀o∈os,Live g s o)∧∀(g':Gh)(s':St),bq g' s' w->Ext s.fl g w g' w->ko s s' os->
   ∀(j:Nat)(d:D)(v:Value),ds[j]?=Z d->vs[j]?=Z v->ew g'.bx w d v
 |[],vs,p,ds,os,h,e,c,f=>by obtain⟨_,rfl,rfl⟩:=h;exact⟨rfl,λo ho=>(by cases ho),λg' s' _ _ _ j d v a=>by simp at a⟩
 |t::ts,vs,p,ds,os,h,e,c,f=>by
  simp[nN]at h;split at h
  .rename_i d i B l k h1 h2;simp only[gV,fP]at h;obtain⟨rfl,rfl,rfl⟩:=h
   match vs,c with
   |v::vs,c=>
    let ⟨a1,a2⟩:=lP hs t h1 e.1 (f 0 t v rfl rfl)
    let ⟨m,n,q⟩:=tg hs ts (vs:=vs) h2 e.2 (by simpa using c) (λj t v r b=>f (j+1) t v (by simpa using r) (by simpa using b))
    refine⟨by simp[m],λo ho=>?_,λg' s' x y z j d v a b=>?_⟩
    .obtain ho|ho:=dW.1 ho
     .exact a1 o ho
     .exact n o ho
    .have u:ko s s' i:=z.sub (λo ho=>fh _ ho);have A:ko s s' k:=z.sub (λo ho=>eO _ ho);cases j with|zero=>simp at a b;subst a;subst b;exact a2 g' s' x y u|succ j=>exact q g' s' x y A j d v (by simpa using a) (by simpa using b)
  .cases h
end
end
section
def PW{α β:Type}(R:α->β->Prop)(l:L α)(m:L β):Prop:=l.length=m.length∧∀(j:Nat)(a:α)(b:β),l[j]?=Z a->m[j]?=Z b->R a b
section
variable {α β:Type}{R:α->β->Prop}
def PW.append{l e:L α}{m f:L β}(h:PW R l m)(g:PW R e f):PW R (l++e) (m++f):=by
 refine⟨by simp[h.1,g.1],λj a b d c=>?_⟩;rw[sC]at d c;rw[<-h.1]at c;by_cases i:j<l.length
 .rw[cn i]at d c;exact h.2 j a b d c
 .rw[bJ i]at d c;exact g.2 _ a b d c
def PW.take{l:L α}{m:L β}(h:PW R l m)(n:Nat):PW R (l.take n) (m.take n):=by
 refine⟨by simp[h.1],λj a b c d=>?_⟩;rw[UQ]at c d;by_cases e:j<n
 .rw[cn e]at c d;exact h.2 j a b c d
 simp_all
theorem PW.drop{l:L α}{m:L β}(h:PW R l m)(n:Nat):PW R (l.drop n) (m.drop n):=by refine⟨by simp[h.1],λj a b c d=>?_⟩;rw[UP]at c d;exact h.2 _ a b c d
end
def QV{l:L T}(h:leaves l):∀t∈l,t.leaf:=by
 induction l with
 |nil=>simp_all|cons a l c=>
  intro t b;obtain rfl|b:=fy.1 b
  .exact h.1
  .exact c h.2 t b
variable {g:Gh}{w:World}{P:Program}{i:TI}
def PW.one{l:L T}{vs:L Value}(h:PW (aP g w) l vs)(hl:leaves l):∀v∈vs,v.oneCell'=W:=by
 intro v c;obtain⟨j,b,rfl⟩:=qI c;have a:j<l.length:=by rw[h.1];exact b
 exact(Uu (QV hl _ (IA a)) (h.2 j _ _ (iZ a) (iZ b))).1
def xZ{t:TypeId}{x:TypeInfo}(d:P.info? t=Z x)(w:World)(b off:Nat)(v:Value)(a:v.cells.size=x.size){vs:Array Value}{ty:TypeId}
  (c:w.heap[b]?=Z (.cells vs ty (0,0))) (hl:off+v.cells.size<=vs.size) (h1:∀u∈v.cells.toList,u.oneCell'=W) :
  (storeVar t ⟨b,off,Y⟩ v).run P w=.ok () (w.setRow b (vs.toList.take off++v.cells.toList++vs.toList.drop (off+v.cells.size)).toArray):=by
 have:=run_storeCells_at (P:=P) b off ty v.cells.toList 0 vs w c (by simpa using hl) h1
 simp_all[storeVar,dQ]
def pJ{t:T}{v:Value}{p:Prop}{cs:L T}(h:kf i t=Z (p,cs))(c:p)(d:aP g w t v) :
  PW (aP g w) cs v.cells.toList∧cs.length=i.size:=by
 let ⟨h1,h2,h3,_⟩:=mL h c d
 exact⟨⟨by simp[h1,h2],λj a b e f=>h3 j a b e (by simpa using f)⟩,h1⟩
def D.Pb{ds:L D}(h:ds.all D.leaf=W):∀d∈ds,d.leaf=W:=by simpa using h
def KP(es:L D)(k i:Nat)(d a:D)(h:(wU es k d)[i]?=Z a):(i=k∧k<es.length∧a=d)∨(i≠k∧es[i]?=Z a):=by
 unfold wU at h
 grind
def Kt{ty:TypeId}(hi:n4 P ty i){s s':St}(hs:bq g s w){a x:T}{va vx:Value}(ha:aP g w a va)(hx:aP g w x vx)
  {p:Prop} {t:T} (h:storeT i s a x=Z (p,t,s')) (hp:p) :
  ∃w' g',(Instr.storeAt ty va vx).run P w=.ok () w'∧bq g' s' w'∧Ext s.fl g w g' w'∧t=SH:=by
 let ⟨xi,d0,z,PN,hu,hsz,Zj,_⟩:=hi.all
 unfold storeT at h;cases hc:kf i x with
 |none=>simp[hc]at h|some q=>
  let ⟨q,l⟩:=q
  simp only[hc]at h;cases ha with
  |ptr o off b hb=>
   cases y:s.ob.get o with
   |none=>simp[y]at h|some ob=>
   simp only[y]at h;cases ob with
   |box cs=>
   let ⟨B,ety,hh,hl,hr⟩:=(hs.box o b hb).box y
   obtain⟨hn,h⟩|⟨_,h⟩:=ah h
   .simp only[eK]at hn;have hfl:=g9 hn.1;have hlen:off+cB l<=cB cs:=g9 hn.2;rw[bR,bR]at hlen;obtain⟨rfl,rfl,rfl⟩:=h
    let ⟨C,ags⟩:=pJ hc hp.1 hx
    have A:vx.cells.size=l.length:=by simpa using C.1.symm
    have hcs:PW (aP g w) cs B.toList:=⟨by simpa using hl,λj a b h1 h2=>hr j a b h1 (by simpa using h2)⟩;have I:=xZ (P:=P) PN w b off vx (by rw[A,ags,hsz]) hh (by omega) (C.one hp.2);rw[A]at I;have hnew:PW (aP g w) (cs.take off++l++cs.drop (Na off (cB l))) (B.toList.take off++vx.cells.toList++B.toList.drop (off+l.length)):=by rw[bR];exact((hcs.take off).append C).append (hcs.drop _)
    let ⟨hs',he⟩:=hs.afo hb y hfl (cs':=cs.take off++l++cs.drop (Na off (cB l)))
     (vs':=(B.toList.take off++vx.cells.toList++B.toList.drop (off+l.length)).toArray) (by simpa using hnew.1) (λj t v h1 h2=>hnew.2 j t v h1 (by simpa using h2))
    exact⟨_,g,by simpa[Instr.storeAt,Instr.sureAddr]using I,hs',he,rfl⟩
   .cases h
   |_=>simp at h
  |lG o e k off len cap sz ad ake=>
   cases F:nN s l with
   |none=>simp[F]at h|some r=>
    let ⟨r,ds,os⟩:=r
    simp only[F]at h;cases K:freeze s os with
    |none=>simp[K]at h|some s1=>
    simp only[K]at h;cases y:s1.ob.get o with
    |none=>simp[y]at h|some ob=>
     cases ob with
     |box _=>simp[y]at h|kS _ _ _=>simp[y]at h|map _=>simp[y]at h|qE _ _=>simp[y]at h|kX _ _ _ _ _ _ _=>simp[y]at h|rws _ _ _=>simp[y]at h|gone=>simp[y]at h|FQ=>simp[y]at h|lp _=>simp[y]at h|zP=>simp[y]at h|arr sz' es era=>
      simp only[y]at h;obtain⟨hn,h9⟩|⟨_,h9⟩:=ah h
      .simp only[eK]at hn
       let ⟨hfl,hee⟩:=hn
       have hfl:=g9 hfl;have hee:=beq_iff'.1 hee;subst hee;simp only[gV,fP]at h9;obtain⟨rfl,rfl,rfl⟩:=h9
       let ⟨hp1,hp2,hp3,hp4,hp5,hp6,hp7⟩:=hp
       let ⟨C,ags⟩:=pJ hc hp1 hx
       let ⟨b0,b1,b2⟩:=tg hs l F hp2 C.1 C.2
       let ⟨g1,II,he1,agy⟩:=eI os hs K b1
       have ze:=b2 g1 s1 II he1 agy;have hga:=he1.arr _ _ _ ake;clear ake;have aqJ:=agy.fl;clear b1 b2 F K agy
       let ⟨E,ajO⟩:=II.oq (fz:=J) y hga
       change sz=sz' at ajO;subst ajO;have hk:=Tp hp4;obtain⟨m,R,n,apS⟩:∃m,(jl es k).cells=m∧m.length=sz∧(off+ds.length<=sz->(D.SG (jl es k) off ds).cells=m.take off++ds++m.drop (off+ds.length)):=by
        obtain hp5|⟨h1,h2,h3,h4⟩:=hp5
        .let ⟨m,R,n,hcf⟩:=zd hp5
         exact⟨m,by rw[R];rfl,n,λ_=>by rw[R];rfl⟩
        .rw[bR]at h4;obtain⟨d1,rfl⟩:=abM.1 h4;have hl1:=D.Pb hp3 d1 (by simp);have hc1:∀d:D,d.leaf=W->d.cells=[d]:=by intro d F;cases d<;>first|rfl|simp[D.leaf]at F
         refine⟨[jl es k],hc1 _ h1,h2.symm,λ_=>?_⟩;subst h3;have:D.SG (jl es k) 0 [d1]=d1:=by generalize jl es k=q at h1;cases q<;>first|rfl|simp[D.leaf]at h1
         rw[this,hc1 _ hl1];rfl
       have hoff:off+ds.length<=sz:=by have:=g9 hp6;rw[bR]at this;exact this
       have h1:=E.len;have h2:=E.cap;simp only at h1 h2
       let ⟨b,B,ety,hab,hfz,hh,S,Gy⟩:=E.mem (by simp only;omega)
       simp at hab;subst hab;have A:vx.cells.size=ds.length:=by rw[b0];simpa using C.1.symm
       have hbound:k*sz+sz<=B.size:=by have:(k+1)*sz<=cap*sz:=Ae _ (by omega);rw[Nat.add_mul,Jk]at this;exact gk this S
       have hone:∀u∈vx.cells.toList,u.oneCell'=W:=by
        intro u hu;obtain⟨j,hj,rfl⟩:=qI hu;have hj':j<ds.length:=by rw[b0,C.1];exact hj
        exact(vR (D.Pb hp3 _ (IA hj')) (ze j _ _ (iZ hj') (iZ hj))).1
       have I:=xZ (P:=P) PN w b (k*sz+off) vx (by rw[A,b0,ags,hsz]) hh (by omega) hone;have Gz:(⟨Z ⟨b,0,Y⟩,len,cap,sz⟩:ff).at b:=⟨_,rfl,rfl,by simp only;omega⟩;have hsc:=apS hoff;have acU:(B.toList.take (k*sz+off)++vx.cells.toList++B.toList.drop (k*sz+off+vx.cells.size)).length=B.size:=by simp[A];omega
       have Vy:wZ g1 (w.setRow b (B.toList.take (k*sz+off)++vx.cells.toList++B.toList.drop (k*sz+off+vx.cells.size)).toArray) J sz
         (wU es k ((jl es k).SG off ds)) ⟨Z ⟨b,0,Y⟩,len,cap,sz⟩:=by
        refine⟨by simp[wU,h1],h2,λd F=>?_,E.pos,λd F=>?_,λh0=>?_,λ_=>⟨b,_,ety,rfl,hfz,setRow_heap w b B _ ety _ hh,by simp only[S2];rw[acU];exact S,?_⟩⟩
        .obtain ⟨j,hj,rfl⟩:=qI F;obtain⟨rfl,_,he⟩|⟨_,he⟩:=KP _ _ _ _ _ (iZ hj)
         .rw[he,hsc];simp[n];omega
         .exact E.rows _ (hJ he)
        .obtain ⟨j,hj,rfl⟩:=qI F;obtain⟨rfl,_,he⟩|⟨_,he⟩:=KP _ _ _ _ _ (iZ hj)
         .rw[he,hp7];have hb:=E.byt _ (hJ (D.LC hk));simpa[wU]using hb
         .have hb:=E.byt _ (hJ he);simpa[wU]using hb
        .have:es.length=0:=by simpa[wU]using pU List.length h0
         omega
        .intro i d j c F hj;have f:∀(v:Value),B[i*sz+j]?=Z v->(i≠k∧j<sz∨i=k∧(j<off∨off+ds.length<=j))->
           (B.toList.take (k*sz+off)++vx.cells.toList++B.toList.drop (k*sz+off+vx.cells.size)).toArray[i*sz+j]?=Z v:=by
          intro v hv Dm;have agE:i*sz+j<k*sz+off∨k*sz+off+ds.length<=i*sz+j:=by
           obtain⟨hik,hj⟩|⟨rfl,hj⟩:=Dm
           .obtain hik|hik:=Nat.lt_or_gt_of_ne hik
            .have:(i+1)*sz<=k*sz:=Ae _ hik;rw[Nat.add_mul,Jk]at this
             left;omega
            .have:(k+1)*sz<=i*sz:=Ae _ hik;rw[Nat.add_mul,Jk]at this
             right;omega
           .obtain hj|hj:=hj
            .left;omega
            .right;omega
          rw[S5,sC,sC];obtain hc1|hc1:=agE
          .rw[cn (by simp[A];omega),cn (by simp;omega),UQ,cn hc1];simpa using hv
          .rw[bJ (by simp[A];omega),UP];have:k*sz+off+vx.cells.size+(i*sz+j-(List.take (k*sz+off) B.toList++vx.cells.toList).length)=i*sz+j:=by simp[A];omega
           rw[this];simpa using hv
         obtain⟨rfl,hlt,rfl⟩|⟨hik,F⟩:=KP _ _ _ _ _ F
         .rw[hsc]at hj;by_cases hin:off<=j∧j<off+ds.length
          .have hj2:ds[j-off]?=Z c:=by
            rw[sC,cn (by simp[n];omega),sC,bJ (by simp[n];omega)]at hj;have:j-(m.take off).length=j-off:=by simp[n];omega
            rwa [this]at hj
           have hlt2:j-off<vx.cells.size:=by omega
           refine⟨vx.cells[j-off],?_,?_⟩
           .rw[S5,sC,cn (by simp[A];omega),sC,bJ (by simp;omega)];have:i*sz+j-(List.take (i*sz+off) B.toList).length=j-off:=by simp;omega
            rw[this];simp
           .have:=ze (j-off) c vx.cells[j-off] hj2 (by simp);exact this.ext (Ext.refl 0 g1 w) II.bx |>.mono (λb' hb'=>setRow_other w b b' _ (λe=>by subst e;exact Bool.noConfusion (hfz.2 hb'))) (λ_ h=>h)
          .have hj2:m[j]?=Z c:=by
            rw[sC,sC]at hj;by_cases hlo:j<off
            .rw[cn (by simp[n];omega),cn (by simp[n];omega),UQ,cn hlo]at hj;exact hj
            .rw[bJ (by simp[n];omega),UP]at hj;have:off+ds.length+(j-(List.take off m++ds).length)=j:=by simp[n];omega
             rwa [this]at hj
           let ⟨v,hv,hr⟩:=Gy i (jl es i) j c (D.LC hlt) (by rw[R];exact hj2)
           refine⟨v,f v hv (.inr ⟨rfl,by omega⟩),hr.mono (λb' hb'=>setRow_other w b b' _ (λe=>by subst e;exact Bool.noConfusion (hfz.2 hb'))) (λ_ h=>h)⟩
         .let ⟨v,hv,hr⟩:=Gy i d j c F hj
          have zf:j<sz:=by rw[<-E.rows d (hJ F)];exact cq hj
          exact⟨v,f v hv (.inl ⟨hik,zf⟩),hr.mono (λb' hb'=>setRow_other w b b' _ (λe=>by subst e;exact Bool.noConfusion (hfz.2 hb'))) (λ_ h=>h)⟩
       let ⟨hs',he⟩:=II.afv y hga hfl Gz Vy
       refine⟨_,g1,?_,hs',he1.trans (aqJ▸he),rfl⟩;rw[ot];simpa[Instr.storeAt,Instr.sureAddr]using I
      .cases h9
  |_=>simp at h
end
section
variable {k:IntKind}{I:Nat->Prop}{d:D}{b a:T}{va vb:Value}{r:Bool}
def BL{j:IntKind}(h:od j k=W):j=k:=by cases j<;>cases k<;>first|rfl|cases h
section
variable {g:Gh}{w:World}{t:T}{v:Value}{p:Prop}
def Vw(h:D.isInt k d=W)(a:ew I w d v):v=.int k d.toInt:=by
 cases a with
 |lit v=>
  cases v with|int j n=>rw[BL h];rfl|_=>cases h
 |_=>cases h
def Gq(h:d.isBool=W)(a:ew I w d v):v=.bool d.toBool:=by
 cases a with
 |lit v=>
  cases v with|bool b=>rfl|_=>cases h
 |_=>cases h
def Vv(h:d.isStr=W)(a:ew I w d v):v=.string d.toStr:=by
 cases a with
 |lit v=>
  cases v with|string b=>rfl|_=>cases h
 |_=>cases h
theorem en{k:IntKind}{n:Int}(h:xM k t=Z (p,n))(a:p)(b:aP g w t v):v=.int k n:=by
 cases b with
 |kn j m=>
  obtain⟨c,h⟩|⟨_,h⟩:=ah h
  .simp only[gV,fP]at h;rw[BL c,h.2]
  .cases h
 |sym d v e=>obtain⟨rfl,rfl⟩:=h;exact Vw a e
 |_=>simp[xM]at h
def jq{b:Bool}(h:A6 t=Z (p,b))(a:p)(e:aP g w t v):v=.bool b:=by
 cases e with
 |kb c=>simp only[A6,gV,fP]at h;rw[h.2]|sym d v f=>obtain⟨rfl,rfl⟩:=h;exact Gq a f
 |_=>simp[A6]at h
def iC{b:ByteArray}(h:zW t=Z (p,b))(a:p)(c:aP g w t v):v=.string b:=by
 cases c with
 |sym d v e=>obtain⟨rfl,rfl⟩:=h;exact Vv a e
 |_=>simp[zW]at h
def D.xq(h:d.ajw=W):d=.sl d.afl:=by cases d<;>first|rfl|cases h
def SS{s:St}(hs:bq g s w){es:L D}(h:Bv s t=Z (p,es))(x:p)(y:aP g w t v):∃a cap,v=.slice a es.length cap∧es.length<=cap:=by
 cases y with
 |emp a=>obtain⟨_,rfl⟩:=h;exact⟨a,0,rfl,by simp⟩
 |kq n b a C q=>obtain⟨_,rfl⟩:=h;exact⟨a,_,rfl,cu _⟩
 |oY j d c a E q=>obtain⟨_,rfl⟩:=h;exact⟨a,1,rfl,cu _⟩
 |sym d v q=>
  obtain⟨rfl,rfl⟩:=h;rw[D.xq x]at q;generalize d.afl=es at *
  cases q with|sl _ a cap sz val k=>exact⟨a,cap,rfl,k⟩
 |sh o e len cap sz a z=>
  simp[Bv]at h;have key:∀u f(b:L D)era,s.ob.get o=Z (fT u f b era)->(bif Nq e era then Z (True,b)else Y)=Z (p,es)->
    ∃A i,Value.slice a len cap=.slice A es.length i∧es.length<=i:=by
   intro u f b era l h;obtain⟨B,h⟩|⟨_,h⟩:=ah h
   .have r:=beq_iff'.1 B;obtain⟨_,rfl⟩:=h
    let ⟨m,_⟩:=hs.oq (r▸l) z
    have h1:=m.len;have h2:=m.cap;simp only at h1 h2;exact⟨a,cap,by rw[h1],by omega⟩
   .cases h
  split at h
  .rename_i f b era l;exact key J f b era l h
  .rename_i f b era l;exact key W f b era l h
  .cases h
 |_=>simp[Bv]at h
end
section
variable {P:Program}{g:Gh}{w:World}
def uq{x:T}{vx:Value}{q:Prop}{y:Bool}(h:IY x=Z (q,y))(a:q)(f:aP g w x vx):vx=.bool y:=by
 cases f with
 |gd c t v e=>
  simp[IY]at h;split at h
  .rename_i h1;obtain⟨rfl,rfl⟩:=h;exact jq h1 a.2 (e a.1)
  .cases h
 |kb b=>simp only[IY,gV,fP]at h;rw[h.2]|sym d v i=>obtain⟨rfl,rfl⟩:=h;exact Gq a i
 |_=>simp[IY]at h
def ND{c:T}{i:Value}{p:Prop}{t:T}(h:Jq c a b=Z (p,t))(d:p)(j:aP g w c i)(k:aP g w a va)(l:aP g w b vb) :
  ∃u,i=.bool u∧aP g w t (if u then va else vb):=by
 unfold Jq at h;split at h
 .rename_i u;cases j;refine⟨u,rfl,?_⟩;split at h
  .rename_i e;obtain⟨rfl,rfl⟩:=h;cases u with|true=>rw[cn rfl,uq e d k];exact .sym _ _ (.lit _)|false=>rw[bJ Bool.noConfusion,uq e d l];exact .sym _ _ (.lit _)
  .cases h
 split at h
 .rename_i u n o q r m h1 h2;obtain⟨rfl,rfl⟩:=h;have f:=jq m d.1 j;refine⟨u,f,?_⟩;cases u with|true=>rw[uq h1 (d.2.1 rfl) k];exact .sym _ _ (.lit _)|false=>rw[uq h2 (d.2.2 rfl) l];exact .sym _ _ (.lit _)
 .cases h
def AU{l:Lk}{p:Prop}(h:qo l a b=Z (p,r))(c:p)(d:aP g w a va)(e:aP g w b vb) :
  Bh l va∧Bh l vb∧r=GR va vb:=by
 cases l with
 |int k=>
  simp[qo]at h;split at h
  .rename_i f x i y h1 h2;obtain⟨rfl,rfl⟩:=h;rw[en h1 c.1 d,en h2 c.2 e];exact⟨⟨_,rfl⟩,⟨_,rfl⟩,rfl⟩
  .cases h
 |bool=>
  simp[qo]at h;split at h
  .rename_i f x i y h1 h2;obtain⟨rfl,rfl⟩:=h;rw[jq h1 c.1 d,jq h2 c.2 e];exact⟨⟨_,rfl⟩,⟨_,rfl⟩,rfl⟩
  .cases h
 |str=>
  simp[qo]at h;split at h
  .rename_i h1 h2;obtain⟨rfl,rfl⟩:=h;rw[iC h1 c.1 d,iC h2 c.2 e];exact⟨⟨_,rfl⟩,⟨_,rfl⟩,rfl⟩
  .cases h
 |no=>simp[qo]at h
def wg:∀(c:L Lk)(as bs:L T)(va vb:L Value){p:Prop}{r:Bool},j9 c as bs=Z (p,r)->p->PW (aP g w) as va->PW (aP g w) bs vb->
  va.length=c.length∧vb.length=c.length∧(∀(j:Nat)(l:Lk)(v:Value),c[j]?=Z l->va[j]?=Z v->Bh l v)∧
   (∀(j:Nat)(l:Lk)(v:Value),c[j]?=Z l->vb[j]?=Z v->Bh l v)∧r=nq va vb
 |[],[],[],va,vb,p,r,h,f,d,e=>by simp only[j9,gV,fP]at h;have h1:va=[]:=xJ d.1.symm;have h2:vb=[]:=xJ e.1.symm;subst h1;subst h2;refine⟨rfl,rfl,λj l v h=>by simp at h,λj l v h=>by simp at h,h.2.symm⟩
 |l::c,a::as,b::bs,va,vb,p,r,h,f,d,e=>by
  simp[j9]at h;split at h
  .rename_i x B y h1 h2;simp only[gV,fP]at h;obtain⟨rfl,rfl⟩:=h
   match va,vb,d,e with
   |v::va,u::vb,d,e=>
    let ⟨C,E,m⟩:=AU h1 f.1 (d.2 0 _ _ rfl rfl) (e.2 0 _ _ rfl rfl)
    let ⟨n,o,F,I,q⟩:=wg c as bs va vb h2 f.2 ⟨by simpa using d.1,λj x y i k=>d.2 (j+1) x y (by simpa using i) (by simpa using k)⟩
     ⟨by simpa using e.1,λj x y i k=>e.2 (j+1) x y (by simpa using i) (by simpa using k)⟩
    refine⟨by simp[n],by simp[o],λj s t z A=>?_,λj s t z A=>?_,?_⟩
    .grind
    .grind
    .rw[m,q];rfl
  .cases h
 |[],[],_::_,_,_,_,_,h,_,_,_=>by simp[j9]at h
 |[],_::_,_,_,_,_,_,h,_,_,_=>by simp[j9]at h
 |_::_,[],_,_,_,_,_,h,_,_,_=>by simp[j9]at h
 |_::_,_::_,[],_,_,_,_,h,_,_,_=>by simp[j9]at h
def UG(d:Nat){ty e:TypeId}(b:P.underlying ty=Z (.pointer e))(a:Addr):(Op.equalIn (d+1) ty (.pointer Y) (.pointer (Z a))).run P w=.ok J w:=by simp only[Op.equalIn,run_bind,aU b,andThen_ok];rfl
def UH(d:Nat){ty e:TypeId}(b:P.underlying ty=Z (.pointer e))(a:Addr):(Op.equalIn (d+1) ty (.pointer (Z a)) (.pointer Y)).run P w=.ok J w:=by simp only[Op.equalIn,run_bind,aU b,andThen_ok];rfl
def UI(d:Nat){ty:TypeId}{a:Array (String×TypeId)}(b:P.underlying ty=Z (.interface a))(t:TypeId)(v:Value):(Op.equalIn (d+1) ty .nilIface (.iface t v)).run P w=.ok J w:=by simp only[Op.equalIn,run_bind,aU b,andThen_ok];rfl
def Jd(d:Nat){ty:TypeId}{a:Array (String×TypeId)}(b:P.underlying ty=Z (.interface a))(t:TypeId)(v:Value):(Op.equalIn (d+1) ty (.iface t v) .nilIface).run P w=.ok J w:=by simp only[Op.equalIn,run_bind,aU b,andThen_ok];rfl
def oM{ty:TypeId}(x y:Operand)(h1:binOp .eql ty va vb=(do pure (.bool (<-Op.equal ty va vb))))(h2:binOp .neq ty va vb=(do pure (.bool (!(<-Op.equal ty va vb)))))
  (c:∀op,(eqGuard op ty x y va vb).run P w=.ok () w) (a:(Op.equalIn (9999+1) ty va vb).run P w=.ok r w) :
  ((do eqGuard .eql ty x y va vb;binOp .eql ty va vb:Sem Value)).run P w=.ok (.bool r) w∧((do eqGuard .neq ty x y va vb;binOp .neq ty va vb:Sem Value)).run P w=.ok (.bool (!r)) w:=by
 have b:(Op.equal ty va vb).run P w=.ok r w:=a
 simp_all
def GQ{ty:TypeId}{i:TI}(hi:n4 P ty i){p:Prop}(h:ZB i a b=Z (p,r))(u:p)(o:aP g w a va)(s:aP g w b vb)(x y:Operand) :
  ((do eqGuard .eql ty x y va vb;binOp .eql ty va vb:Sem Value)).run P w=.ok (.bool r) w∧((do eqGuard .neq ty x y va vb;binOp .neq ty va vb:Sem Value)).run P w=.ok (.bool (!r)) w:=by
 let ⟨xi,d0,z,PN,A,hsz,Zj,hz,BQ,d⟩:=hi.all
 obtain⟨c,h⟩|⟨c,h⟩:=ah h
 .split at h
  .cases h
  .rename_i k ks qa as qb bs hk B C;simp only[fV,fP]at h;obtain⟨⟨q,r'⟩,he,rfl,rfl⟩:=h
   let ⟨F,_⟩:=pJ B u.1 o
   let ⟨I,_⟩:=pJ C u.2.1 s
   let ⟨_,_,_,f,_⟩:=mL B u.1 o
   let ⟨_,_,_,t,_⟩:=mL C u.2.1 s
   obtain⟨xs,rfl⟩:=f c;obtain⟨ys,rfl⟩:=t c
   let ⟨K,R,S,m4,m5⟩:=wg (k::ks) as bs _ _ he u.2.2 F I
   simp only[Value.cells]at K R S m4 m5;have hne:i.lks≠[]:=by rw[hk];simp
   rw[<-hk]at K R S m4;have key:∀op,_:=λop=>hi.eqs c hne w op x y xs ys (by simpa using K) (by simpa using R) (λj l v h1 h2=>S j l v h1 (by simpa using h2)) (λj l v h1 h2=>m4 j l v h1 (by simpa using h2));refine⟨?_,?_⟩
   .rw[run_bind,(key .eql).1];simp only[andThen_ok,binOp,run_bind,(key .eql).2,m5];rfl
   .rw[run_bind,(key .neq).1];simp only[andThen_ok,binOp,run_bind,(key .neq).2,m5];rfl
  .cases h
 .split at h
  .rename_i l E;obtain⟨f,t,rfl⟩:=AU h u o s;rw[E]at d;cases l with
   |int k=>obtain⟨m,rfl⟩:=f;obtain⟨n,rfl⟩:=t;simp[eqGuard,binOp,Op.intCmp,GR,bne]
   |bool=>obtain⟨m,rfl⟩:=f;obtain⟨n,rfl⟩:=t;subst d;exact oM x y rfl rfl (λop=>by cases op<;>rfl) (run_equalIn_bool' w _ _ _ _ A)
   |str=>
    obtain⟨m,rfl⟩:=f;obtain⟨n,rfl⟩:=t
    simp_all[eqGuard,binOp,Op.stringOp,GR,beq_toListBytes]
   |no=>exact f.elim
  .rename_i E;rw[E]at d;obtain⟨e,rfl⟩:=d;unfold aeD at h;split at h
   .obtain ⟨_,rfl⟩:=h;cases o with
    |sym _ _ o=>
    cases o;cases s;exact oM x y rfl rfl (λop=>by cases op<;>rfl) (UG _ A _)
   .obtain ⟨_,rfl⟩:=h;cases s with
    |sym _ _ s=>
    cases s;cases o;exact oM x y rfl rfl (λop=>by cases op<;>rfl) (UH _ A _)
   .cases h
  .rename_i E;rw[E]at d;obtain⟨e,rfl⟩:=d;unfold aeE at h;split at h
   .obtain ⟨_,rfl⟩:=h;cases o with
    |sym _ _ o=>
    cases o;cases s;exact oM x y rfl rfl (λop=>by cases op<;>rfl) (UI _ A _ _)
   .obtain ⟨_,rfl⟩:=h;cases s with
    |sym _ _ s=>
    cases s;cases o;exact oM x y rfl rfl (λop=>by cases op<;>rfl) (Jd _ A _ _)
   .cases h
  .cases h
end
end
section
section
variable {P:Program}{g:Gh}{w:World}
variable {i:TI}{a t:T}{va:Value}{p:Prop}{d:D}{s s':St}{k:Nat}
def RF{ty:TypeId}(t:n4 P ty i){op:BinOp}{b:T}{l:Value}(h:LP i op a b=Z (p,d))(c:p)(e:aP g w a va)(f:aP g w b l)(x y:Operand) :
  ∃v,((do eqGuard op ty x y va l;binOp op ty va l:Sem Value)).run P w=.ok v w∧aP g w (.sym d) v:=by
 unfold LP at h;split at h
 .simp only[fV,fP]at h;obtain⟨⟨q,r⟩,o,rfl,rfl⟩:=h;exact⟨_,(GQ t o c e f x y).1,.sym _ _ (.lit _)⟩
 .simp only[fV,fP]at h;obtain⟨⟨q,r⟩,o,rfl,rfl⟩:=h;exact⟨_,(GQ t o c e f x y).2,.sym _ _ (.lit _)⟩
 .rename_i u z;split at h
  .rename_i k I;split at h
   .rename_i B m C n h1 h2;cases j:Wa op k m n with
    |some E=>
     simp only[j,gV,fP]at h;obtain⟨rfl,rfl⟩:=h;rw[en h1 c.1 e,en h2 c.2 f];cases op<;>simp only[Wa,gV]at j<;>first
      |(cases j;done)
      |(
        subst j;refine⟨_,?_,.sym _ _ (.lit _)⟩;simp[eqGuard,binOp,Op.intCmp,Op.intArith,aD,bA,aE,bS,Ii])
    |none=>
     simp only[j,fV,fP]at h;obtain⟨E,s,rfl,rfl⟩:=h;rw[en h1 c.1 e,en h2 c.2.1 f];have F:n≠0:=c.2.2;cases op<;>simp only[ZS,gV]at s<;>first
      |(cases s;done)
      |(
        subst s;refine⟨_,?_,.sym _ _ (.lit _)⟩;simp[eqGuard,binOp,Op.intDiv,F,rA,aa2])
   .cases h
  .split at h
   .rename_i B m C n h1 h2;obtain⟨rfl,rfl⟩:=h;rw[iC h1 c.1 e,iC h2 c.2.1 f];have A:m.size+n.size<=4611686018427387904:=c.2.2;refine⟨_,?_,.sym _ _ (.lit _)⟩;simp[eqGuard,binOp,Op.stringOp,Sq];omega
   .cases h
  .cases h
def Uq{op:UnOp}(h:unT i op a=Z (p,d))(c:p)(e:aP g w a va) :
  ∃v,(Op.unary op va).run P w=.ok v w∧aP g w (.sym d) v:=by
 unfold unT at h;split at h
 .simp only[fV,fP]at h;obtain⟨⟨q,r⟩,b,rfl,rfl⟩:=h;rw[jq b c e];exact⟨_,rfl,.sym _ _ (.lit _)⟩
 .simp only[fV,fP]at h;obtain⟨⟨q,r⟩,b,rfl,rfl⟩:=h;rw[en b c e];refine⟨_,rfl,?_⟩;rw[show(0:Int)-r=-r from by omega];exact .sym _ _ (.lit _)
 .cases h
def OR{src dst:TypeId}{j:TI}(u:n4 P src i)(x:n4 P dst j)(h:J1 i j s a=Z (p,t,s'))(r:p)(m:aP g w a va) :
  ∃v,(convert src dst va).run P w=.ok v w∧aP g w t v∧s'=s:=by
 let ⟨_,d1,_,_,f,_,_,_,_,k⟩:=u.all
 let ⟨_,d2,_,_,l,_,_,_,_,c⟩:=x.all
 unfold J1 at h;split at h
 .rename_i d e;simp only[fV,fP]at h;obtain⟨⟨q,n⟩,y,rfl,rfl,rfl⟩:=h;rw[d]at k;rw[e]at c;subst c;rw[en y r m];exact⟨_,by simp[convert,aU f,aU l,Conv.intToInt];rfl,.sym _ _ (.lit _),rfl⟩
 .rename_i d e;simp only[fV,fP]at h;obtain⟨⟨q,b⟩,z,rfl,rfl,rfl⟩:=h;rw[d]at k;rw[e]at c;subst c;have o:=iC z r m;subst o;exact⟨_,by simp[convert,aU f,aU l],m,rfl⟩
 .cases h
def GN(h:sS s k a=Z (p,t,s'))(f:p)(i:aP g w a va) :
  ∃v,(Instr.extract va k).run P w=.ok v w∧aP g w t v∧s'=s:=by
 cases i with
 |gM o b j e=>
  simp only[sS,kO,fV,fP]at h;obtain⟨q,l,_,rfl,rfl⟩:=h;have c:k<b.size:=by grind
  refine⟨b[k],by simp[Instr.extract,vG c],e k _ _ l (vG c),rfl⟩
 |sym d v m=>
  obtain⟨rfl,rfl,rfl⟩:=h;cases m with
  |gM ds b j e=>
   have n:k<ds.length:=by
    have:Nt k (cB ds)=W:=f
    simp_all[bR]
   have c:k<b.size:=by omega
   refine⟨b[k],by simp_all[Instr.extract],.sym _ _ ?_,rfl⟩;refine e k _ _ ?_ (vG c)
   grind[D.proj]
  |_=>cases f
 |_=>simp[sS]at h
def add_zero'(a:Addr):a.add 0=a:=by rfl
def Ca{ty:TypeId}(u:n4 P ty i)(h:qn i s k a=Z (p,t,s'))(x:aP g w a va) :
  ∃v,(Instr.fieldAt ty va k).run P w=.ok v w∧aP g w t v∧s'=s:=by
 let ⟨_,d1,_,_,y,_,_,_,_,l⟩:=u.all
 unfold qn at h;split at h
 .rename_i n;rw[n]at l;obtain⟨fields,rfl,z,A⟩:=l;split at h
  .rename_i off size B r;rw[kO]at r
   let ⟨f,j,d',C,E,F,I,_⟩:=A k off size B r
   obtain⟨_,h⟩|⟨h0,h⟩:=ah h
   .cases h
   .have K:j.size≠0:=by
     intro e
     simp_all
    have c:∀m,(Instr.fieldAt ty (.pointer (Z m)) k).run P w=.ok (.pointer (Z (m.add off))) w:=by
     simp_all[Instr.fieldAt,Instr.sureAddr,aU,fieldPlace,dQ]
    cases x with
    |ptr o b bl R=>obtain⟨_,rfl,rfl⟩:=h;refine⟨_,c _,?_,rfl⟩;rw[ot];exact .ptr _ _ _ R
    |nJ d b m val q S hd=>obtain⟨_,rfl,rfl⟩:=h;refine⟨_,c _,?_,rfl⟩;rw[wH];exact .nJ _ _ _ _ q S hd
    |lG o e j' b len cap sz m hx=>obtain⟨_,rfl,rfl⟩:=h;refine⟨_,c _,?_,rfl⟩;rw[wH,Nat.add_assoc];exact .lG _ _ _ _ _ _ _ _ hx
    |_=>simp at h
  .cases h
 .cases h
def M4{t:TypeId}{x:TypeInfo}{d:TypeDesc}(a:P.info? t=Z x)(b:P.underlying t=Z d)(vs:Array Value)(off:Nat)(hl:off+x.size<=vs.size)(h1:ee d=J->x.size=1) :
  (part t vs off).run P w=.ok (if ee d then .agg ((vs.toList.drop off).take x.size).toArray else((vs.toList.drop off).take x.size).headD undef) w:=by
 simp only[part,run_bind,tw b,andThen_ok];cases c:ee d with
 |true=>
  simp only[ku,run_bind,dQ a,andThen_ok,run_pure]
  congr 2
  grind
 |false=>
  have f:=h1 c;have e:off<vs.size:=by omega
  simp_all[Xt]
def Lx{ty:TypeId}(I:n4 P ty i)(h:GK i s k a=Z (p,t,s'))(z:p)(A:aP g w a va) :
  ∃v,(Instr.field ty va k).run P w=.ok v w∧aP g w t v∧s'=s:=by
 let ⟨_,d1,_,_,K,B,c,_,_,d⟩:=I.all
 unfold GK at h;split at h
 .rename_i o;rw[o]at d;obtain⟨fields,rfl,R,S⟩:=d;split at h
  .rename_i off size ag q cs C E;rw[kO]at C
   let ⟨f,j,d',hf1,hf2,r,hf4,u,hf6⟩:=S k off size ag C
   obtain⟨hl,h⟩|⟨_,h⟩:=ah h
   .have l:=beq_iff'.1 (Bz.1 hl).1;rw[bR]at l;simp only[fV,fP]at h;obtain⟨t',ht,rfl,rfl,rfl⟩:=h
    let ⟨m,F⟩:=pJ E z A
    let ⟨_,_,_,x,_⟩:=mL E z A
    obtain⟨y,rfl⟩:=x (by rw[c];rfl);simp[Value.cells]at m;have b:=(m.drop off).take size
    let ⟨n,h1⟩:=xm (g:=g) (w:=w) ht b.1 b.2
    have hlv:((y.toList.drop off).take size).length=size:=by rw[<-b.1,l]
    have hs0:size≠0:=by
     intro e
     simp_all
    have hle:off+size<=y.size:=by
     grind
    refine⟨_,?_,n,rfl⟩;have hr:=M4 (P:=P) (w:=w) r u y off (by omega) (λhd=>by
     grind)
    simp_all[Instr.field,aU,asAgg]
   .cases h
  .cases h
 .cases h
end
end
section
section
variable {P:Program}{g:Gh}{w:World}
def CQ{ty e:TypeId}{j:TypeInfo}(b:P.underlying ty=Z (.slice e))(c:P.info? e=Z j)(a:Addr)(len cap:Nat)(n:Int)(h:0<=n∧n<len) :
  (Instr.indexAt ty (.slice (Z a) len cap) (.int .i64 n)).run P w=.ok (.pointer (Z (a.add (n.toNat *j.size)))) w:=by
 simp[Instr.indexAt,asIntOf,aU b,dQ c,h]
variable {s s':St}{t x ix:T}{p:Prop}{i:TI}{vx vi:Value}
def MX(hs:bq g s w){v:Value}{es:L D}(h:Bv s t=Z (p,es))(C:p)(E:aP g w t v)
  (hf:freeze s (sH t)=Z s') :
  ∃g',bq g' s' w∧Ext s.fl g w g' w∧s'.fl=s.fl∧s'.aL=s.aL∧ew g'.bx w (.sl es) v:=by
 cases E with
 |emp a=>
  simp only[Bv,gV,fP]at h;simp[sH,freeze,gV]at hf;subst hf;exact⟨g,hs,Ext.refl _ _ _,rfl,rfl,by
   rw[<-h.2];exact .sl [] a 0 0 (λ_ _=>undef) (by simp) (by simp) (by simp) (λh=>absurd rfl h) (λi j d c h=>by simp at h)⟩
 |kq n f a K l=>simp[sH,freeze,gV]at hf;subst hf;obtain⟨_,rfl⟩:=h;exact⟨g,hs,Ext.refl _ _ _,rfl,rfl,l⟩
 |oY j d c a F l=>simp[sH,freeze,gV]at hf;subst hf;obtain⟨_,rfl⟩:=h;exact⟨g,hs,Ext.refl _ _ _,rfl,rfl,AZ F l⟩
 |sym d v l=>simp[sH,freeze,gV]at hf;subst hf;obtain⟨rfl,rfl⟩:=h;rw[D.xq C]at l;exact⟨g,hs,Ext.refl _ _ _,rfl,rfl,l⟩
 |sh o e len cap sz a y=>
  have key:∀m b(f:L D)era,s.ob.get o=Z (fT m b f era)->(bif Nq e era then Z (True,f)else Y)=Z (p,es)->
    s.ob.get o=Z (fT m b es e):=by
   intro m b f era q h;obtain⟨I,h⟩|⟨_,h⟩:=ah h
   .have z:=beq_iff'.1 I;simp only[gV,fP]at h;rw[q,h.2,z]
   .cases h
  have u:∃m b,s.ob.get o=Z (fT m b es e):=by
   simp[Bv]at h;split at h
   .rename_i b f era q;exact⟨_,_,key J b f era q h⟩
   .rename_i b f era q;exact⟨_,_,key W b f era q h⟩
   .cases h
  let ⟨m,b,q⟩:=u
  let ⟨g',x,A,r⟩:=eI [o] hs hf (λk B=>by
   simp at B;subst B;exact⟨iP (hs.lt' y) hs.aL,.inl ⟨e,_,y,.inl ⟨m,b,es,q⟩⟩⟩)
  have l:=x.Kz (r.hit o (by simp) m b es e q) (A.arr _ _ _ y);exact⟨g',x,A,r.fl,r.aL,l⟩
 |_=>simp[Bv]at h
theorem xy{I:Nat->Prop}{es:L D}{v:Value}(h:ew I w (.sl es) v):∃a cap,v=.slice a es.length cap∧es.length<=cap∧(∀d∈es,es.length*d.sj<=281474976710656)∧(es≠[]->∃ad sz,a=Z ad∧(∀d∈es,d.cells.length=sz)∧I ad.block∧
  ∃val:Nat->Nat->Value,(∀i j d c,es[i]?=Z d->d.cells[j]?=Z c->w.cell? (ad.add (i*sz+j))=Z (val i j))∧
   (∀i j d c,es[i]?=Z d->d.cells[j]?=Z c->ew I w c (val i j))):=by
 cases h with
 |sl _ a cap sz val b e f k l=>
  refine⟨a,cap,rfl,b,f,λg=>?_⟩
  let ⟨ad,h1,h2,h3⟩:=k g
  exact⟨ad,sz,h1,e,h2,val,h3,l⟩
def BP{ty:TypeId}(hi:n4 P ty i)(hs:bq g s w)(h:lF i s x ix=Z (p,t,s'))(A:p)
  (hx:aP g w x vx) (R:aP g w ix vi):∃v,(Instr.indexAt ty vx vi).run P w=.ok v w∧aP g w t v∧s'=s:=by
 let ⟨_,d1,_,_,S,_,_,_,_,PO⟩:=hi.all
 unfold lF at h;split at h
 .rename_i sz ag bt zero q n vg hn;rw[vg]at PO;obtain⟨e,j,d',z,rfl,hj,zf,_,_,_,_,_,hpos,_⟩:=PO;have gen:∀{r:L D}{q':Prop},Bv s x=Z (q',r)->q'->lg n (eN r)->(jl r (DL n)).wide sz->(∀o e,x≠.sh o e)->q->∃v,(Instr.indexAt ty vx vi).run P w=.ok v w∧aP g w (.nJ (jl r (DL n)) 0) v:=by
   intro r q' f hq' u hw l hq;have B:=en hn hq R;subst B;have C:n.toNat<r.length:=by have h1:=u.1;have h2:=u.2;unfold eN at h2;omega
   have hne:r≠[]:=by intro e;rw[e]at C;simp at C
   have hd':ew g.bx w (.sl r) vx:=by
    cases hx with
    |sym d v hd=>obtain⟨rfl,rfl⟩:=f;rw[<-D.xq hq'];exact hd
    |kq m es' a hm hd=>obtain⟨_,rfl⟩:=f;exact hd
    |emp a=>simp only[Bv,gV,fP]at f;exact absurd f.2.symm hne|oY j d c a hj hd=>obtain⟨_,rfl⟩:=f;exact AZ hj hd
    |sh o e len cap sz a hx=>exact absurd rfl (l o e)|_=>simp[Bv]at f
   obtain⟨a,cap,rfl,hcap,_,E⟩:=xy hd';obtain⟨ad,y,rfl,F,Tx,val,hc,hr⟩:=E hne;have I:=D.LC C;have YP:y=sz:=by have h1:=F (jl r n.toNat) (hJ I);exact h1.symm.trans hw
   subst YP;refine⟨_,CQ S hj ad _ _ n ⟨u.1,?_⟩,?_⟩
   .have:=u.2;exact this
   .rw[zf,<-add_zero' (ad.add (n.toNat *y))];refine .nJ _ 0 (ad.add (n.toNat *y)) (val n.toNat) (by rw[l8];exact Tx) (λk c hk=>?_) (λk c hk=>hr _ _ _ _ I hk);rw[wH];exact hc _ _ _ _ I hk
  split at h
  .rename_i o e';split at h
   .rename_i r Lu;obtain⟨hb,h3⟩|⟨_,h3⟩:=ah h
    .have hzz:=beq_iff'.1 hb;obtain⟨rfl,rfl,rfl⟩:=h3;clear h hb;subst hzz;have B:=en hn A.1 R;subst B;cases hx with
     |sh _ _ len cap y a hxa=>
     let ⟨fz,ho⟩:=J9 Lu
     let ⟨K,F⟩:=hs.oq ho hxa
     subst F;have h1:=A.2.1;have h2:=A.2.2;unfold eN at h2;have hl:=K.len;have hc:=K.cap;simp only at hl hc
     let ⟨b,vs,ety,hab,_⟩:=K.mem (by simp only;omega)
     subst hab;refine⟨_,CQ S hj _ _ _ n ⟨h1,by omega⟩,?_,rfl⟩;rw[zf];exact .lG o e' n.toNat 0 _ _ _ _ hxa
    .cases h3
   .cases h
  .rename_i l;split at h
   .rename_i f;obtain⟨rfl,rfl,rfl⟩:=h
    let ⟨v,h1,h2⟩:=gen f A.2.1 A.2.2.1 A.2.2.2 (λo e he=>l o e he) A.1
    exact⟨v,h1,h2,rfl⟩
   .cases h
 .cases h
def get!_some{b:ByteArray}{k:Nat}(h:k<b.size):b[k]?=Z (b.get! k):=by
 rw[getElem?_pos b k h]
 congr 1
 show b.data[k]=b.data[k]!;rw[getElem!_pos b.data k h]
def Ln{ty:TypeId}(f:n4 P ty i)(h:Gt i s x ix=Z (p,t,s'))(b:p)
  (j:aP g w x vx) (c:aP g w ix vi):∃v,(Instr.index ty vx vi).run P w=.ok v w∧aP g w t v∧s'=s:=by
 let ⟨_,d1,_,_,d,_,_,_,_,a⟩:=f.all
 unfold Gt at h;split at h
 .rename_i e k l;rw[e]at a;subst a;obtain⟨rfl,rfl,rfl⟩:=h;rw[en k b.1 c,iC l b.2.1 j];have h1:=b.2.2.1;have h2:=b.2.2.2;unfold uD at h2;refine⟨_,?_,.sym _ _ (.lit _),rfl⟩;simp[Instr.index,asIntOf,run_bind,run_pure,andThen_ok,aU d];rw[cn h1,get!_some (by omega)];rfl
 .cases h
def sk{zero:L D}{cells:Array Value}(h:ZOk zero cells):(zero.map pZ).length=cells.size∧
  ∀(j:Nat)(t:T)(v:Value),(zero.map pZ)[j]?=Z t->cells[j]?=Z v->aP g w t v:=by
 refine⟨by simpa using h.1,λj t v h1 h2=>?_⟩;simp at h1;obtain⟨d,a,rfl⟩:=h1;obtain⟨rfl,rfl⟩|rfl:=h.2 j d v a h2
 .exact .emp Y
 .unfold pZ;split
  .rename_i heq;simp at heq;subst heq;exact .kb _
  .rename_i heq;simp at heq;subst heq;exact .kn _ _
  .simp_all
  .exact .sym _ _ (.lit _)
def IW{ty xt:TypeId}(m:n4 P ty i){ok:Bool}(h:rm i s ty ok x=Z (p,t,s'))
  (F:aP g w x vx) :
  ∃v,(Instr.typeAssert vx xt ty ok).run P w=.ok v w∧aP g w t v∧s'=s:=by
 let ⟨K,d1,z,c,R,_,S,d,f,PO⟩:=m.all
 let ⟨n,o⟩:=m.zag K z c d
 have hni:i.kd≠.iface->∀q,P.underlying ty≠Z (.interface q):=λl q r=>l (m.nif q r);unfold rm at h;have a:i.kd≠.iface->∀u v,(Instr.typeAssert (.iface u v) xt ty ok).run P w=((if u=ty then pure (if ok then .tuple #[v,.bool W]else v)else
   if ok then do pure (.tuple #[<-zeroValue ty,.bool J])else runtimePanic (.typeAssertion (Z xt) (Z u) ty "")):Sem Value).run P w:=by
  simp_all[Instr.typeAssert,aU]
 split at h
 .cases h
 .rename_i u v l;cases F with
  |cT _ _ vv hv=>
  obtain⟨k,h⟩|⟨k,h⟩:=ah h
  .have y:=beq_iff'.1 k;simp only[gV,fP]at h;obtain⟨_,rfl,rfl⟩:=h;clear k;subst y;refine⟨_,by rw[a l,cn rfl];rfl,.gM _ _ rfl (λj t v h1 h2=>?_),rfl⟩
   match j with
   |0=>simp_all|1=>simp at h1 h2;subst h1;subst h2;exact .kb _|j+2=>simp at h1
  .have A:u≠ty:=λe=>by
    simp_all
   simp only[fV,fP]at h;obtain⟨tz,B,_,rfl,rfl⟩:=h
   let ⟨C,b⟩:=sk (g:=g) (w:=w) f
   have I:aP g w tz z:=by
    obtain⟨E,rfl⟩|⟨E,r⟩:=FE B
    .obtain ⟨vs,rfl⟩:=n E;exact .agg _ _ C b
    .have:=o E;rw[r,this]at b;exact b 0 _ _ rfl rfl
   refine⟨_,by rw[a l,bJ A];simp only[ku,run_bind,eA c d,andThen_ok,run_pure];rfl,.gM _ _ rfl (λj t v h1 h2=>?_),rfl⟩
   match j with
   |0=>grind|1=>simp at h1 h2;subst h1;subst h2;exact .kb _|j+2=>simp at h1
 .cases F with
  |cT _ _ vv hv=>
  obtain⟨k,h⟩|⟨k,h⟩:=ah h
  .simp_all
  .cases h
 .cases h
end
end
section
section
variable {P:Program}{g:Gh}{w:World}
inductive RS(g:Gh)(w:World):Option T->Option Value->Prop where
 |no:RS g w Y Y|yes (t:T) (v:Value) (h:aP g w t v):RS g w (Z t) (Z v)
variable {l:Option T}{p:Prop}{low:Option Value}{lo hi:Int}{s s':St}{x t:T}{vx:Value}
def kH{dflt n:Int}{v:O Value}(h:wA dflt l=Z (p,n))(a:p)(b:RS g w l v) :
  (v=Y∧l=Y∧n=dflt)∨(v=Z (.int .i64 n)∧∃t,l=Z t):=by
 cases b with|no=>simp only[wA,gV,fP]at h;exact .inl ⟨rfl,rfl,h.2.symm⟩|yes t v c=>exact .inr ⟨by rw[en h a c],t,rfl⟩
def run_sliceBound(n:Int)(y:Nat)(code:BoundsCode)(h:0<=n∧n<=y):(Instr.sliceBound (.int .i64 n) y code).run P w=.ok n.toNat w:=by simp[Instr.sliceBound,asIntOf,h]
def sA(a:Bool)(len cap:Nat){high:O Value}(hl:(low=Y∧lo=0)∨low=Z (.int .i64 lo))(b:(high=Y∧hi=len)∨high=Z (.int .i64 hi))
  (c:0<=lo) (h1:lo<=hi) (h2:hi<=cap):(Instr.sliceBounds a len cap low high Y).run P w=.ok (lo.toNat,hi.toNat,cap) w:=by
 obtain⟨rfl,rfl⟩|rfl:=hl<;>obtain⟨rfl,rfl⟩|rfl:=b
 .rfl
 .simp_all[Instr.sliceBounds,run_sliceBound]
 .simp_all[Instr.sliceBounds,run_sliceBound]
 .simp[Instr.sliceBounds,run_sliceBound hi cap _ ⟨by omega,h2⟩,run_sliceBound lo hi.toNat _ ⟨c,by omega⟩]
def sw(a:Bool)(len cap:Nat){b:Int}(hl:(low=Y∧lo=0)∨low=Z (.int .i64 lo))
  (c:0<=lo) (h1:lo<=hi) (h2:hi<=b) (h3:b<=cap):(Instr.sliceBounds a len cap low (Z (.int .i64 hi)) (Z (.int .i64 b))).run P w=.ok (lo.toNat,hi.toNat,b.toNat) w:=by
 obtain⟨rfl,rfl⟩|rfl:=hl
 .simp[Instr.sliceBounds,run_sliceBound b cap _ ⟨by omega,h3⟩,run_sliceBound hi b.toNat _ ⟨by omega,by omega⟩]
 .simp[Instr.sliceBounds,run_sliceBound b cap _ ⟨by omega,h3⟩,run_sliceBound hi b.toNat _ ⟨by omega,by omega⟩,run_sliceBound lo hi.toNat _ ⟨c,by omega⟩]
def OM{I:Nat->Prop}{es:L D}{a:O Addr}{len cap sz:Nat}(h:ew I w (.sl es) (.slice a len cap))(n:jA es sz)(z:yN lo hi (eN es))
  (m:Nat) (F:hi.toNat<=m) (u:m<=cap) :
  (oJ es lo hi).length=hi.toNat-lo.toNat∧ew I w (.sl (oJ es lo hi)) (.slice (if m=lo.toNat then a else a.map (·.add (lo.toNat *sz))) (hi.toNat-lo.toNat) (m-lo.toNat)):=by
 let ⟨K,v,A,x,q,g⟩:=xy h
 obtain⟨rfl,rfl,rfl⟩:=A
 let ⟨P,h1,h2⟩:=z
 unfold eN at h2;have b:(oJ es lo hi).length=hi.toNat-lo.toNat:=by simp[oJ];omega
 refine⟨b,?_⟩;have dm:∀i d,(oJ es lo hi)[i]?=Z d->es[lo.toNat+i]?=Z d:=by
  grind[oJ]
 have e:∀d∈oJ es lo hi,d∈es:=λd f=>Qv (S4 f);rw[<-b];by_cases k:es=[]
 .subst k;have:oJ [] lo hi=[]:=by simp[oJ]
  rw[this];exact .sl [] _ _ sz (λ_ _=>undef) (by simp) (by simp) (by simp) (λh=>absurd rfl h) (λi j d c h=>by simp at h)
 .obtain ⟨B,l,rfl,o,r,val,s,C⟩:=g k;have t:l=sz:=by obtain⟨d,ds,rfl⟩:=abL k;rw[<-o d (by simp),n d (by simp)]
  subst t;refine .sl _ _ _ l (λi j=>val (lo.toNat+i) j) (by omega) (λd f=>n d (e d f)) (λd f=>gk (Ae _ (by omega)) (q d (e d f))) (λp=>?_) (λi j d c f y=>C _ _ _ _ (dm i d f) y);have E:0<(oJ es lo hi).length:=Fo.2 p;refine⟨B.add (lo.toNat *l),by grind,by rw[l8];exact r,λi j d c f y=>?_⟩
  grind[wH]
def Kx{ty:TypeId}{i:TI}(hi:n4 P ty i)(hs:bq g s w){h m:O T}{vl vh vm:O Value}
  (c:pO i s x l h m=Z (p,t,s')) (S:p) (hx:aP g w x vx) (hl:RS g w l vl) (hh:RS g w h vh) (hm:RS g w m vm) :
  ∃g' v,(Instr.sliceAt ty vx vl vh vm).run P w=.ok v w∧bq g' s' w∧Ext s.fl g w g' w∧aP g' w t v∧s'.fl=s.fl∧s'.aL=s.aL:=by
 let ⟨_,d1,_,_,IG,_,_,_,_,I⟩:=hi.all
 unfold pO at c;split at c
 .rename_i p0 lo vg hlo;rw[vg]at I;subst I;split at c
  .rename_i q b hb;split at c
   .rename_i r o u;obtain⟨rfl,rfl,rfl⟩:=c
    let ⟨c0,c1,c2⟩:=S.2.2.2
    rw[iC hb S.2.1 hx];cases hm;refine⟨g,_,?_,hs,Ext.refl _ _ _,.sym _ _ (.lit _),rfl,rfl⟩;have A:=kH hlo S.1 hl;have d:=kH u S.2.2.1 hh;have B:=sA (P:=P) (w:=w) J b.size b.size (A.imp (λh=>⟨h.1,h.2.2⟩) (·.1)) (d.imp (λh=>⟨h.1,h.2.2⟩) (·.1)) c0 c1 c2
    simp_all[Instr.sliceAt,Instr.slice,aU,My]
   .cases c
  .cases c
 .rename_i sz ag bt zero p0 lo vg hlo;rw[vg]at I;obtain⟨e,j,d',z,rfl,hj,zf,_,_,_,_,_,hpos,_⟩:=I;split at c
  .rename_i es s1 MF hfr;have A:=λf=>kH hlo f hl;split at c
   .rename_i r o u;obtain⟨rfl,rfl,rfl⟩:=c;cases hm
    let ⟨f,hq,hr,k,C⟩:=S
    let ⟨g',hs',E,hfl,F,hd⟩:=MX hs MF hq hx hfr
    obtain⟨a,cap,rfl,K,_⟩:=xy hd
    let ⟨c0,c1,c2⟩:=C
    unfold eN at c2;have d:=kH u hr hh
    let ⟨_,n⟩:=OM hd k ⟨c0,c1,c2⟩ cap (by omega) (cu _)
    refine⟨g',_,?_,hs',E,.sym _ _ n,hfl,F⟩;have B:=sA (P:=P) (w:=w) W es.length cap ((A f).imp (λh=>⟨h.1,h.2.2⟩) (·.1)) (d.imp (λh=>⟨h.1,h.2.2⟩) (·.1)) c0 c1 (by omega:o<=cap);simp only[Instr.sliceAt,Instr.slice,run_bind,aU IG,andThen_ok,dQ hj,zf,B];rfl
   .rename_i o y th u;cases hm with
    |yes _ vy hy=>
    split at c
    .obtain ⟨rfl,rfl,rfl⟩:=c
     let ⟨f,hq,hr,e1,e2⟩:=S
     obtain⟨a,cap,rfl,K⟩:=SS hs MF hq hx;have d:=kH u hr hh;cases hy;obtain⟨_,h',_⟩|⟨hv,_⟩:=d
     .cases h'
     .have z1:o=0:=e2;refine⟨g,_,?_,hs,Ext.refl _ _ _,.emp a,rfl,rfl⟩;have B:=sw (P:=P) (w:=w) W es.length cap ((A f).imp (λh=>⟨h.1,h.2.2⟩) (·.1)) (by omega) (by omega:lo<=o) (by omega:o<=0) (by omega)
      simp_all[Instr.sliceAt,Instr.slice,aU,dQ]
    .simp only[fV,fP]at c;obtain⟨⟨t',mx⟩,hmx,rfl,rfl,rfl⟩:=c;obtain⟨f,hq,hr,ht,k,C,rfl⟩:=S
     let ⟨g',hs',E,hfl,F,hd⟩:=MX hs MF hq hx hfr
     obtain⟨a,cap,rfl,K,_⟩:=xy hd
     let ⟨c0,c1,c2⟩:=C
     unfold eN at c2;have d:=kH u hr hh
     let ⟨R,n⟩:=OM hd k ⟨c0,c1,c2⟩ mx.toNat (cu _) (by omega)
     rw[en hmx ht hy];obtain⟨_,h',_⟩|⟨hv,_⟩:=d
     .cases h'
     .subst hv;rw[<-R]at n;refine⟨g',.slice (if mx.toNat=lo.toNat then a else a.map (·.add (lo.toNat *sz))) (oJ es lo mx).length (oJ es lo mx).length,?_,hs',E,.kq 0 _ _ (Ag _) n,hfl,F⟩;have B:=sw (P:=P) (w:=w) W es.length cap ((A f).imp (λh=>⟨h.1,h.2.2⟩) (·.1)) c0 c1 (Int.le_refl _) (by omega:mx<=cap);simp only[Instr.sliceAt,Instr.slice,run_bind,aU IG,andThen_ok,dQ hj,zf,B,R];rfl
   .cases c
  .cases c
 .cases c
def JC{E:Env}(hs:bq g s w){f:Array TypeId}{rt:TypeId}(K:∀k i,E.ti k=Z i->n4 P k i)
  (h:fH E s .len f [x]=Z (p,t,s')) (A:p) (C:aP g w x vx) :
  ∃v,(Builtin.len_ f rt #[vx]).run P w=.ok v w∧aP g w t v∧s'=s:=by
 unfold fH at h;simp at h;have r:∀i,(nth f.toList 0).bind E.ti=Z i->∃ty,f[0]?=Z ty∧n4 P ty i:=by
  grind[kO]
 have l:∀i q u,(nth f.toList 0).bind E.ti=Z i->(∃a b c d,i.kd=.slice a b c d)->Bv s x=Z (q,u)->q->
   ∃v,(Builtin.len_ f rt #[vx]).run P w=.ok v w∧aP g w (.sym (.lit (.int .i64 (eN u)))) v:=by
  intro i q u hi o m F
  let ⟨ty,h1,h2⟩:=r i hi
  let ⟨_,d1,_,_,y,_,_,_,_,n⟩:=h2.all
  let ⟨a,b,c,d,o⟩:=o
  rw[o]at n;obtain⟨e,j,R,z,rfl,_⟩:=n;obtain⟨a,cap,rfl,_⟩:=SS hs m F C;refine⟨_,?_,.sym _ _ (.lit _)⟩
  simp_all[Builtin.len_,aU,goInt,eN]
 split at h
 .rename_i b i I hi;split at h
  .rename_i o;obtain⟨rfl,rfl,rfl⟩:=h
   let ⟨ty,h1,h2⟩:=r i hi
   let ⟨_,d1,_,_,y,_,_,_,_,n⟩:=h2.all
   rw[o]at n;subst n;rw[iC I A C];refine⟨_,?_,.sym _ _ (.lit _),rfl⟩;simp[Builtin.len_,h1,aU y,goInt,uD]
  .rename_i a b c d o;simp only[fV,fP]at h;obtain⟨⟨B,u⟩,m,rfl,rfl,rfl⟩:=h
   let ⟨v,h1,h2⟩:=l i B u hi ⟨_,_,_,_,o⟩ m A
   simp_all
  .cases h
 .rename_i i _ hi;split at h
  .rename_i o;simp only[fV,fP]at h;obtain⟨⟨B,u⟩,m,rfl,rfl,rfl⟩:=h
   let ⟨v,h1,h2⟩:=l i B u hi ⟨_,_,_,_,o⟩ m A
   simp_all
  .cases h
 .cases h
end
end
section
section
variable {P:Program}{g:Gh}{w:World}
variable {v:Value}{fr:Fr}{a:Act}
def FL{d:D}(h:Dd v=Z d):d=.lit v:=by
 unfold Dd at h
 grind[Array.toList_eq_nil_iff]
def IB{t:T}(h:ofConst v=Z t):aP g w t v:=by
 unfold ofConst at h;split at h
 .simp at h;subst h;exact .kb _
 .simp at h;subst h;exact .kn _ _
 .simp at h;subst h;exact .emp _
 .split at h
  .rename_i b c;simp at h;subst h;rw[aeg.1 b,aeg.1 c];exact .fn _ _ _ _ _ rfl rfl (λj t v h=>by simp at h) (λj t v h=>by simp at h)
  .cases h
 .simp at h;obtain⟨d,a,rfl⟩:=h;rw[FL a];exact .sym _ _ (.cT _ _ _ (.lit _))
 .simp at h;obtain⟨d,a,rfl⟩:=h;rw[FL a];exact .sym _ _ (.lit _)
theorem bQ{fr:Fr}{a:Act}(hf:cL g fr a w){x:Operand}{t:T}(h:jZ fr x=Z t):aP g w t (a.eval x):=by
 cases x with
 |tmp k=>
  let ⟨v,b,c⟩:=hf.tm k t h
  simp_all[Act.eval]
 |const v=>exact IB h|global _=>cases h
 |func f=>simp[jZ,gV]at h;subst h;exact .fn _ _ _ _ _ rfl rfl (λj t v h=>by simp at h) (λj t v h=>by simp at h)
def fQ{fr:Fr}{a:Act}(hf:cL g fr a w):∀{l:L Operand}{ts:L T},ye fr l=Z ts->PW (aP g w) ts (l.map a.eval)
 |[],ts,h=>by simp only[ye,gV]at h;subst h;exact⟨rfl,λj t v h=>by simp at h⟩
 |x::l,ts,h=>by
  simp[ye]at h;split at h
  .rename_i h2;simp at h;subst h;have b:=fQ hf h2;refine⟨by simp[b.1],λj c v d e=>?_⟩;cases j with|zero=>grind[bQ]|succ j=>exact b.2 j c v (by simpa using d) (by simpa using e)
  .cases h
def o3(g:Gh)(w:World)(a:Nat×T)(b:Nat×Value):Prop:=a.1=b.1∧aP g w a.2 b.2
def oP{fr:Fr}{a:Act}(hf:cL g fr a w):∀{l:L (Nat×Operand)}{ts:L (Nat×T)},rI fr l=Z ts->PW (o3 g w) ts (l.map λ(i,x)=>(i,a.eval x))
 |[],ts,h=>by simp only[rI,gV]at h;subst h;exact⟨rfl,λj t v h=>by simp at h⟩
 |(k,x)::l,ts,h=>by
  simp[rI]at h;split at h
  .rename_i h1 h2;simp at h;subst h;have d:=oP hf h2;refine⟨by simpa using d.1,λj e v b c=>?_⟩;cases j with|zero=>simp at b c;subst b;subst c;exact⟨rfl,bQ hf h1⟩|succ j=>exact d.2 j e v (by simpa using b) (by simpa using c)
  .cases h
def y6(hf:cL g fr a w){x:O Operand}{t:O T}(h:NJ fr x=Z t):RS g w t (x.map a.eval):=by cases x with|none=>simp[NJ,gV]at h;subst h;exact .no|some x=>simp[NJ,fV]at h;obtain⟨u,b,rfl⟩:=h;exact .yes _ _ (bQ hf b)
def BV(off:Nat):∀(l:L Value)(a:Nat)(cells:Array Value),off+a+l.length<=cells.size->
  (l.zipIdx a).foldl (λcs x=>cs.setIfInBounds (off+x.2) x.1) cells=(cells.toList.take (off+a)++l++cells.toList.drop (off+a+l.length)).toArray
 |[],a,cells,h=>by simp
 |c::l,a,cells,h=>by
  simp at h;simp only[List.zipIdx_cons,Np];rw[BV off l (a+1) _ (by simp;omega)]
  congr 1
  have b:off+(a+1)=off+a+1:=by omega
  have d:off+a+1+l.length=off+a+(l.length+1):=by omega
  have h1:(cells.toList.set (off+a) c).take (off+a+1)=cells.toList.take (off+a)++[c]:=by
   rw[List.take_add_one,List.take_set,Qt,cn rfl,cn (by simp;omega)]
   grind[List.set_eq_of_length_le]
  simp_all[List.drop_set]
def v9{place:Nat->O (Nat×TI)}{pl:Nat->O (Nat×Nat)}(d:∀k off i,place k=Z (off,i)->pl k=Z (off,i.size)) :
  ∀(ps:L (Nat×T))(vs:L (Nat×Value)){cells:L T}{cs:Array Value}{p:Prop}{r:L T},GJ place cells ps=Z (p,r)->p->PW (o3 g w) ps vs->PW (aP g w) cells cs.toList->
   ∃o,Instr.fill pl cs vs=Z o∧PW (aP g w) r o.toList
 |[],[],cells,cs,p,r,h,q,_,m=>by obtain⟨_,rfl⟩:=h;exact⟨cs,rfl,m⟩
 |(k,t)::ps,(R,v)::vs,cells,cs,p,r,h,q,c,m=>by
  have s:=c.2 0 _ _ rfl rfl;obtain⟨rfl,C⟩:=s;have f:PW (o3 g w) ps vs:=⟨by simpa using c.1,λj a b E u=>c.2 (j+1) a b (by simpa using E) (by simpa using u)⟩;simp only[GJ]at h;split at h
  .cases h
  .rename_i off i x;split at h
   .cases h
   .rename_i l F;obtain⟨u,h⟩|⟨_,h⟩:=ah h
    .simp only[fV,fP]at h;obtain⟨⟨S,r'⟩,I,rfl,rfl⟩:=h;have y:=g9 u;rw[bR,bR]at y
     let ⟨n,K⟩:=pJ F q.1 C
     have z:v.cells.size=l.length:=by simpa using n.1.symm
     have P:cells.length=cs.size:=by simpa using m.1
     have B:off+v.cells.toList.length<=cs.size:=by
      simp_all
     have e:=BV off v.cells.toList 0 cs (by omega);simp only[Nat.add_zero]at e
     let ⟨o,h1,h2⟩:=v9 d ps vs (cs:=(cs.toList.take off++v.cells.toList++cs.toList.drop (off+v.cells.toList.length)).toArray) I q.2.2 f (by
      rw[bR];simp only[Array.length_toList,z];exact((m.take off).append n).append (m.drop _))
     refine⟨o,?_,h2⟩;have A:¬(v.cells.size≠i.size||off+v.cells.size>cs.size)=W:=by
      simp_all
     simp only[Instr.fill,d _ _ _ x];rw[bJ A,<-h1,<-e]
     congr 1
     rw[<-Array.foldl_toList,Array.toList_zipIdx]
    .cases h
 |[],_::_,_,_,_,_,_,_,c,_=>by simp[PW]at c
 |_::_,[],_,_,_,_,_,_,c,_=>by simp[PW]at c
def yb{α β:Type}(f:α->Sem β)(r:α->β):∀(l:L α),(∀x∈l,(f x).run P w=.ok (r x) w)->(l.mapM f).run P w=.ok (l.map r) w
 |[],_=>rfl|x::l,h=>by
  have h2:=yb f r l (λy a=>h y (by simp[a]))
  simp_all
def O2{ty:TypeId}{i:TI}(S:n4 P ty i){fs:L (Nat×Nat×Bool)}(s:i.kd=.struct fs){ps:L (Nat×T)}{vs:Array (Nat×Value)}(x:PW (o3 g w) ps vs.toList)
  {p:Prop} {cs:L T} (h:GJ (λk=>match nth fs k with|some (off,size,ag)=>Z (off,{(default:TI)with size:=size,agg:=ag})|none=>Y) (i.zero.map pZ) ps=Z (p,cs)) (hp:p) :
  ∃v,(Instr.build ty vs).run P w=.ok v w∧aP g w (.agg cs) v:=by
 let ⟨xi,d1,z,y,A,_,Zj,B,e,l⟩:=S.all
 rw[s]at l;obtain⟨fields,rfl,C,u⟩:=l;have m:=sk (g:=g) (w:=w) e;have E:∀f:Field,∃n:Nat,f∈fields.toList->(Go.sizeOf f.type).run P w=.ok n w:=by
  intro f;by_cases R:f∈fields.toList
  .obtain ⟨k,s,rfl⟩:=qI R;have F:k<fs.length:=by rw[<-C];simpa using s
   let ⟨d,j,d',h1,h2,h3,h4,_⟩:=u k (fs[k]).1 (fs[k]).2.1 (fs[k]).2.2 (iZ F)
   have:d=fields.toList[k]:=by
    have b:fields.toList[k]?=Z d:=by simpa using h1
    rw[iZ s]at b;exact(jU b).symm
   subst this;exact⟨j.size,λ_=>dQ h3 w⟩
  .exact ⟨0,λh=>absurd h R⟩
 let ⟨sz,c⟩:=UT E
 have o:=yb (P:=P) (w:=w) (λf:Field=>Functor.map (Prod.mk f.offset) <| Go.sizeOf f.type) (λf=>(f.offset,sz f)) fields.toList (λf u=>by simp[c f u]);obtain⟨rs,h1,h2⟩:=v9 (g:=g) (w:=w) (pl:=λk=>((fields.toList.map λf=>(f.offset,sz f)).toArray)[k]?) (λk off ti a=>by
  simp[kO]at a;split at a
  .rename_i q size ag I;simp at a;obtain⟨rfl,rfl⟩:=a
   let ⟨d,j,d',h1,h2,h3,h4,_⟩:=u k q size ag I
   have r:d∈fields.toList:=by
    have b:fields.toList[k]?=Z d:=by simpa using h1
    exact hJ b
   have K:=c d r;rw[dQ h3]at K;simp at K;simp[h1,h2,<-K,h4]
  .cases a) ps vs.toList h hp x ⟨by simpa using m.1,λj t v h1 h2=>m.2 j t v h1 (by simpa using h2)⟩
 refine⟨.agg rs,?_,.agg _ _ (by simpa using h2.1) (λj t v h3 h4=>h2.2 j t v h3 (by simpa using h4))⟩;simp only[Instr.build,run_bind,eA y B,aU A,andThen_ok,Array.mapM_eq_mapM_toList];simp at h1;simp[o,h1]
end
end
section
section
variable {P:Program}{g:Gh}{w:World}
variable {s:St}{I:Nat->Prop}{ag:Bool}{sz len:Nat}{d:D}{v:Value}{i:TI}{cells:Array Value}{zero:List D}
def bq.X9(hs:bq g s w){w':World}(o:Obj)(t:w'.heap=w.heap.push o)(m:w'.os=w.os)(i:w'.output=w.output) :
  bq (g.kS (·=w.heap.size)) s w'∧Ext s.fl g w (g.kS (·=w.heap.size)) w':=by
 have d:∀b,b<w.heap.size->w'.heap[b]?=w.heap[b]?:=λb f=>by rw[t,Array.getElem?_push,bJ (by omega)]
 have n:w'.heap.size=w.heap.size+1:=by rw[t];simp
 have e:∀k b,bG (g.kS (·=w.heap.size)) k b->bG g k b:=λk b h=>⟨λx=>h.1 (.inl x),h.2⟩;have p:Ext s.fl g w (g.kS (·=w.heap.size)) w':=
  ⟨λ_ _ h=>h,λ_ _ _ h=>h,λ_ h=>.inl h,by omega,λb f _=>d b f,λk b h=>.inl (e k b h),λb h=>h.imp id λh=>.inl (by omega),m,i⟩
 refine⟨⟨hs.aL,hs.ai,λk c q=>?_,λk j y z=>?_,λb f=>?_,λk u b h A=>hs.kJ k u b (e k b h) (e u b A)⟩,p⟩
 .have a:=hs.box k c q;refine a.ext p hs.bx (d c a.2.1) rfl ?_
  rintro(h|h)
  .exact a.1 h
  .have:=a.2.1;omega
 .have l:=hs.arr k j y z;have r:∀v,y.a=Z v->y.cap≠0->v.block<w.heap.size:=l.1;refine l.ext p hs.bx (λb f q=>⟨d b (r _ f q),⟨λh=>h.elim id λh=>?_,.inl⟩⟩) rfl rfl
  simp_all
 .obtain f|f:=f
  .have:=hs.bx b f;omega
  .omega
structure uw(I:Nat->Prop)(w:World)(sz:Nat)(es:List D)(cells:Array Value):Prop where
 size:cells.size=es.length*sz
 rows:∀d∈es,d.cells.length=sz
 rel:∀i j d c,es[i]?=Z d->d.cells[j]?=Z c->∃v,cells[i*sz+j]?=Z v∧ew I w c v
def Rn(h:(bif ag then d.isAgg sz else d.leaf)=W)(h1:(ag||Nq sz 1)=W)(b:ew I w d v) :
  d.cells.length=sz∧v.cells.size=sz∧∀(j:Nat)(c:D)(u:Value),d.cells[j]?=Z c->v.cells[j]?=Z u->ew I w c u:=by
 cases ag with
 |true=>
  obtain⟨i,rfl,e,_⟩:=zd h;cases b with|agg _ k a _ f=>exact⟨e,by simp[Value.cells,<-a,e],λj c u h2 h3=>f j c u h2 h3⟩
 |false=>
  simp at h h1
  let ⟨_,l⟩:=vR h b
  have g:d.cells=[d]:=by cases d<;>first|rfl|(simp[D.leaf]at h)
  grind
def Dv{s:St}(hs:bq g s w){i:TI}:∀(ps:L (Nat×T))(vs:L (Nat×Value)){es r:L D}{p:Prop}{os:L Nat},rS s i es ps=Z (p,r,os)->p->PW (o3 g w) ps vs->
  ∀o∈os,Live g s o
 |[],_,es,r,p,os,h,f,_=>by obtain⟨_,rfl,rfl⟩:=h;intro o ho;cases ho
 |(k,t)::ps,(x,v)::vs,es,r,p,os,h,f,c=>by
  obtain⟨rfl,m⟩:=c.2 0 _ _ rfl rfl;have d:PW (o3 g w) ps vs:=⟨by simpa using c.1,λj a b n l=>c.2 (j+1) a b (by simpa using n) (by simpa using l)⟩;simp only[rS]at h;split at h
  .cases h
  .rename_i q;obtain⟨l,h⟩|⟨_,h⟩:=ah h
   .simp only[fV,fP]at h;obtain⟨⟨y,z,u⟩,e,rfl,rfl,rfl⟩:=h
    let ⟨a1,_⟩:=lP hs t q f.1 m
    have a2:=Dv hs ps vs e f.2.2 d;intro o ho;obtain ho|ho:=dW.1 ho
    .exact a1 o ho
    .exact a2 o ho
   .cases h
 |_::_,[],_,_,_,_,_,_,c=>by simp[PW]at c
def AV{s:St}(hs:bq g s w){sz:Nat}{ag:Bool}(h1:(ag||Nq sz 1)=W){g':Gh}{s':St}(A:bq g' s' w)(he:Ext s.fl g w g' w) :
  ∀(ps:L (Nat×T))(vs:L (Nat×Value)){es r:L D}{cells:Array Value}{p:Prop}{os:L Nat},rS s {(default:TI)with size:=sz,agg:=ag} es ps=Z (p,r,os)->p->PW (o3 g w) ps vs->
   ko s s' os->uw g'.bx w sz es cells->(∀o∈os,Live g s o)∧∃I,Instr.fill (λi=>Z (i*sz,sz)) cells vs=Z I∧uw g'.bx w sz r I∧r.length=es.length
 |[],[],es,r,cells,p,os,h,K,_,_,n=>by obtain⟨_,rfl,rfl⟩:=h;exact⟨λo z=>(by cases z),cells,rfl,n,rfl⟩
 |(k,t)::ps,(k',v)::vs,es,r,cells,p,os,h,K,f,B,n=>by
  obtain⟨rfl,hv⟩:=f.2 0 _ _ rfl rfl;simp only at hv;have q:PW (o3 g w) ps vs:=⟨by simpa using f.1,λj a b ha hb=>f.2 (j+1) a b (by simpa using ha) (by simpa using hb)⟩;simp only[rS]at h;split at h
  .cases h
  .rename_i d R S;obtain⟨hb,h⟩|⟨_,h⟩:=ah h
   .simp only[fV,fP]at h;obtain⟨⟨p',r',os2⟩,C,rfl,rfl,rfl⟩:=h;have E:k<es.length:=by
     simp_all[bR]
    let ⟨a1,a2⟩:=lP hs t S K.1 hv
    have z1:ko s s' R:=B.sub (λo z=>fh _ z);have z2:ko s s' os2:=B.sub (λo z=>eO _ z);have hdr:=a2 g' s' A he z1
    let ⟨c1,c2,c3⟩:=Rn K.2.1 h1 hdr
    have P:k*sz+sz<=cells.size:=by
     rw[n.size];have:(k+1)*sz<=es.length*sz:=Ae _ E
     grind
    have l:=BV (k*sz) v.cells.toList 0 cells (by simp_all);simp only[Nat.add_zero,Array.length_toList,c2]at l;have F:uw g'.bx w sz (es.set k d) (cells.toList.take (k*sz)++v.cells.toList++cells.toList.drop (k*sz+sz)).toArray:=by
     refine⟨?_,λx m=>?_,λi j x c m hj=>?_⟩
     .simp only[S2,Fm,SY,Array.length_toList,List.length_drop,c2,KN,<-n.size];omega
     .obtain m|rfl:=Xs m
      .exact n.rows x m
      .exact c1
     .rw[Qt]at m;by_cases y:k=i
      .subst y;rw[cn rfl,cn E]at m;simp at m;subst m;have zf:j<sz:=by grind
       refine⟨v.cells[j],?_,c3 j c _ hj (vG (by omega))⟩
       grind
      .rw[bJ y]at m
       let ⟨u,hu,S⟩:=n.rel i j x c m hj
       have zf:j<sz:=by rw[<-n.rows x (hJ m)];grind
       refine⟨u,?_,S⟩;rw[S5,sC,sC];obtain hik|hik:=Nat.lt_or_gt_of_ne (λe=>y e.symm:i≠k)
       .have:(i+1)*sz<=k*sz:=Ae _ hik
        grind
       .have:(k+1)*sz<=i*sz:=Ae _ hik
        grind
    let ⟨b1,I,b2,b3,b4⟩:=AV hs h1 A he ps vs C K.2.2 q z2 F
    refine⟨λo z=>?_,I,?_,b3,by rw[b4];simp⟩
    .grind
    .have hno:¬(v.cells.size≠sz||k*sz+v.cells.size>cells.size)=W:=by
      simp_all
     simp only[Instr.fill];rw[bJ hno,<-b2,<-l]
     congr 1
     rw[<-Array.foldl_toList,Array.toList_zipIdx]
   .cases h
 |[],_::_,_,_,_,_,_,_,_,f,_,_=>by simp[PW]at f
 |_::_,[],_,_,_,_,_,_,_,f,_,_=>by simp[PW]at f
def ak2(d:D):d.sj<=24*d.cells.length:=by
 have b:∀x:D,x.lby<=24:=by intro x;unfold D.lby;split<;>omega
 have c:∀l:L D,D.oD l<=24*l.length:=by
  intro l
  induction l with
  |nil=>exact Ag _|cons a l g=>
   grind[D.oD]
 cases d with
 |agg e=>exact c e|lit v=>
  unfold D.sj;have:(D.lit v).cells.length=1:=rfl;rw[this];split<;>first|omega|exact b _|simp_all
 |sl f=>exact b (.sl f)|cT t d=>exact b (.cT t d)|gM ds=>exact b (.gM ds)
def uw.V8{es:L D}(h:uw I w sz es cells){b:Nat}{ty:TypeId}{fz:Nat×Nat}(m:w.heap[b]?=Z (.cells cells ty fz))(n:I b){cap:Nat}(a:es.length<=cap)
  (k:∀d∈es,es.length*d.sj<=281474976710656):ew I w (.sl es) (.slice (Z ⟨b,0,Y⟩) es.length cap):=by
 have l:∀q:Nat×Nat,∃v,∀d c,es[q.1]?=Z d->d.cells[q.2]?=Z c->cells[q.1*sz+q.2]?=Z v∧ew I w c v:=by
  rintro⟨i,j⟩
  by_cases o:i<es.length
  .by_cases f:j<(es[i]).cells.length
   .let ⟨v,r,s⟩:=h.rel i j _ _ (iZ o) (iZ f)
    refine⟨v,λd c g p=>?_⟩
    grind
   .refine ⟨undef,λd c g p=>?_⟩
    simp_all
  simp_all
 let ⟨val,e⟩:=UT l
 refine .sl es _ cap sz (λi j=>val (i,j)) a h.rows k (λ_=>⟨_,rfl,n,λi j d c g f=>?_⟩) (λi j d c g f=>(e (i,j) d c g f).2);rw[ot,cell?_of_block m]
 simp_all
def Br(h:ahk d v):ew I w d v:=by
 obtain⟨rfl,rfl⟩|rfl:=h
 .exact .sl [] Y 0 0 (λ_ _=>undef) (by simp) (by simp) (by simp) (λh=>absurd rfl h) (λi j d c h=>by simp at h)
 .exact .lit _
theorem uw.mono{I a:Nat->Prop}{w w':World}{sz:Nat}{es:L D}{cells:Array Value}(h:uw I w sz es cells)(e:uT I w w')(f:∀b,I b->a b):uw a w' sz es cells:=
 ⟨h.size,h.rows,λi j d c g k=>let ⟨v,l,m⟩:=h.rel i j d c g k;⟨v,l,m.mono e f⟩⟩
def MJ(a:ZOk zero cells)(h1:(ag||Nq sz 1)=W)(hl:cB zero=sz) :
  uw I w sz (List.replicate len (bif ag then .agg zero else zero.getD 0 default)) ((Array.range (len*sz)).map (cells[·%cells.size]!)):=by
 rw[bR]at hl;have b:cells.size=sz:=by rw[<-a.1,hl]
 have n:(bif ag then D.agg zero else zero.getD 0 default).cells=zero:=by
  cases ag with
  |true=>rfl|false=>
   simp at h1;have e:zero.length=1:=by rw[hl,h1]
   match zero,e with
   |[d],_=>
    have:=a.2 0 d cells[0] rfl (vG (by omega));obtain⟨h,_⟩|h:=this<;>(rw[h];rfl)
 refine⟨by simp,λd f=>?_,λi j d c p o=>?_⟩
 .rw[XM f,n,hl]
 .have g:i<len:=by grind
  have k:d=(bif ag then D.agg zero else zero.getD 0 default):=XM (hJ p);rw[k,n]at o;have l:j<sz:=by grind
  have m:i*sz+j<len*sz:=by
   have:(i+1)*sz<=len*sz:=Ae _ g
   grind
  refine⟨cells[j]'(by omega),?_,Br (a.2 j c _ o (vG (by omega)))⟩;have q:(i*sz+j)%cells.size=j:=by rw[b,Nm,Nat.mul_add_mod,Nat.mod_eq_of_lt l]
  simp[m,q];rw[getElem!_pos cells j (by omega)]
def Cp{ty:TypeId}(hi:n4 P ty i){s1:St}(hs:bq g s w){bt:Nat}(hk:i.kd=.slice sz ag bt zero)(h1:(ag||Nq sz 1)=W)(A:cB zero=sz)(h0:sz≠0)
  (hlen:len*sz<=16777216) {ps:L (Nat×T)} {vs:Array (Nat×Value)} (m:PW (o3 g w) ps vs.toList) {p:Prop} {es:L D} {os:L Nat}
  (h:rS s {(default:TI)with size:=sz,agg:=ag} (List.replicate len (bif ag then .agg zero else zero.getD 0 default)) ps=Z (p,es,os)) (hp:p) (hf:freeze s os=Z s1) :
  ∃w' g' v,(Instr.buildSlice ty len vs).run P w=.ok v w'∧bq g' s1 w'∧Ext s.fl g w g' w'∧aP g' w' (.kq len es) v∧s1.fl=s.fl∧s1.aL=s.aL:=by
 let ⟨xi,d1,z,PN,n,_,Zj,hzx,BQ,o⟩:=hi.all
 rw[hk]at o;obtain⟨e,j,d',z',rfl,B,q,hue,hage,C,E,_,_,_⟩:=o;have r:=Dv hs ps vs.toList h hp m
 let ⟨g1,f,t,b⟩:=eI os hs hf r
 let ⟨_,rs,a,c,F⟩:=AV hs h1 f t ps vs.toList h hp m b (MJ E h1 A)
 have u:es.length=len:=by rw[F];simp
 let ⟨I,k⟩:=f.X9 (w':=w.alloc (.cells rs e)) (.cells rs e) rfl rfl rfl
 have l:=c.mono (k.keeps f.bx) k.bx;have K:=l.V8 (cap:=es.length) (xB w _) (.inr rfl) (cu _) (λd K=>by
  have h3:=ak2 d;rw[c.rows d K]at h3;have h4:es.length*d.sj<=len*(24*sz):=by simp_all[Nat.mul_le_mul_left]
  grind)
 refine⟨_,_,.slice (Z ⟨w.heap.size,0,Y⟩) es.length es.length,?_,I,(b.fl▸t.trans (b.fl▸k)),.kq len es _ (by omega) K,b.fl,b.aL⟩;have R:¬(len*sz>2 ^ 24):=by omega
 by_cases S:len*sz=0
 .have y:len=0:=by
   grind[Nat.mul_eq_zero]
  subst y;simp at a;have hr0:(Array.range 0).map (λx=>z'.cells[x%z'.cells.size]!)=#[]:=by simp
  rw[hr0]at a;have he0:es.length=0:=u;have hr1:Array.range 0=#[]:=by simp
  simp[hr1,Instr.buildSlice,aU n,dQ B,q,a,newRow,he0]
 .simp[Instr.buildSlice,aU n,dQ B,q,eA B C,R,S,a,newRow,u]
end
end
section
section
variable {P:Program}{g:Gh}{w:World}
structure rY(I:Nat->Prop)(w:World)(sz:Nat)(es:List D)(vals:List Value):Prop where
 len:vals.length=es.length*sz
 rows:∀d∈es,d.cells.length=sz
 rel:∀i j d c,es[i]?=Z d->d.cells[j]?=Z c->∃v,vals[i*sz+j]?=Z v∧ew I w c v
theorem Lq{i j n sz:Nat}(a:i<n)(b:j<sz):i*sz+j<n*sz:=by
 have:(i+1)*sz<=n*sz:=Ae _ a
 grind
theorem acM{i j sz:Nat}(a:j<sz):(i*sz+j)/sz=i∧(i*sz+j)%sz=j:=by
 grind[Nat.mul_comm,Nat.mul_add_div,Nat.div_eq_of_lt,Nat.mul_add_mod,Nat.mod_eq_of_lt]
def qP(sz n:Nat)(val:Nat->Nat->Value):L Value:=(List.range (n*sz)).map λk=>val (k/sz) (k%sz)
variable {sz n:Nat}{val:Nat->Nat->Value}{v:Value}{s:St}{t:T}{p:Prop}{es:List D}{I:Nat->Prop}{vals:List Value}
def CR{i j:Nat}(a:i<n)(b:j<sz):(qP sz n val)[i*sz+j]?=Z (val i j):=by
 grind[acM,qP,Lq]
def z9{k:Nat}(a:0<sz)(h:(qP sz n val)[k]?=Z v):∃i j,i<n∧j<sz∧k=i*sz+j∧v=val i j:=by
 simp[qP,kN,fV]at h;obtain⟨d,b,rfl⟩:=h;obtain⟨rfl,c⟩:=yZ b;refine⟨k/sz,k%sz,S3 (by grind),Nat.mod_lt _ a,?_,rfl⟩
 grind[Nat.div_add_mod]
def sq(hs:bq g s w)(h:Bv s t=Z (p,es))(hp:p)(ht:aP g w t v)(h0:0<sz)(r:jA es sz) :
  ∃a cap,v=.slice a es.length cap∧es.length<=cap∧(∀d∈es,es.length*d.sj<=281474976710656)∧
   (es≠[]->∃ad val,a=Z ad∧(g.bx ad.block∨∃o,sH t=[o]∧bG g o ad.block)∧
    (∀i j,i<es.length->j<sz->w.cell? (ad.add (i*sz+j))=Z (val i j))∧rY g.bx w sz es (qP sz es.length val)):=by
 have data:∀{v:Value},ew g.bx w (.sl es) v->∃a cap,v=.slice a es.length cap∧es.length<=cap∧(∀d∈es,es.length*d.sj<=281474976710656)∧
   (es≠[]->∃ad val,a=Z ad∧(g.bx ad.block∨∃o,sH t=[o]∧bG g o ad.block)∧
    (∀i j,i<es.length->j<sz->w.cell? (ad.add (i*sz+j))=Z (val i j))∧rY g.bx w sz es (qP sz es.length val)):=by
  intro v k;obtain⟨a,cap,rfl,K,S,B⟩:=xy k;refine⟨a,cap,rfl,K,S,λx=>?_⟩;obtain⟨ad,f,rfl,y,z,val,hc,hr⟩:=B x;have C:f=sz:=by obtain⟨d,ds,rfl⟩:=abL x;rw[<-y d (by simp),r d (by simp)]
  subst C;have E:∀i j(q:i<es.length)(l:j<f),(es[i]).cells[j]?=Z ((es[i]).cells[j]'(by rw[y _ (IA q)];exact l)):=λi j q l=>iZ _;refine⟨ad,val,rfl,.inl z,λi j q l=>hc i j _ _ (iZ q) (E i j q l),⟨by simp[qP],y,λi j d c k l=>?_⟩⟩;have q:=cq k;have F:j<f:=by rw[<-y d (hJ k)];exact cq l
  exact⟨val i j,CR q F,hr i j d c k l⟩
 cases ht with
 |emp a=>obtain⟨_,rfl⟩:=h;exact⟨a,0,rfl,cu _,by simp,λh=>absurd rfl h⟩
 |kq n P a hn k=>obtain⟨_,rfl⟩:=h;exact data k
 |oY j d c a l k=>obtain⟨_,rfl⟩:=h;exact data (AZ l k)
 |sym d v k=>obtain⟨rfl,rfl⟩:=h;rw[D.xq hp]at k;exact data k
 |sh o e len cap sz2 a hx=>
  have key:∃fz f,s.ob.get o=Z (fT fz f es e):=by
   simp[Bv]at h;split at h
   .rename_i f P era R;obtain⟨hb,h⟩|⟨_,h⟩:=ah h
    .have I:=beq_iff'.1 hb;simp only[gV,fP]at h;exact⟨J,f,by rw[R,h.2,I];rfl⟩
    .cases h
   .rename_i f P era R;obtain⟨hb,h⟩|⟨_,h⟩:=ah h
    .have I:=beq_iff'.1 hb;simp only[gV,fP]at h;exact⟨W,f,by rw[R,h.2,I];rfl⟩
    .cases h
   .cases h
  let ⟨fz,f,R⟩:=key
  let ⟨m,YP⟩:=hs.oq R hx
  have h1:=m.len;have h2:=m.cap;simp only at h1 h2;refine⟨a,cap,by rw[h1],by omega,m.byt,λx=>?_⟩;have hpos:0<es.length:=Fo.2 x
  let ⟨b,vs,ty,hab,hfz,hh,hcs,A⟩:=m.mem (by simp only;omega)
  subst hab;have C:f=sz:=by obtain⟨d,ds,rfl⟩:=abL x;rw[<-m.rows d (by simp),r d (by simp)]
  subst C;have hcs':cap*f<=vs.size:=hcs;have hvs:∀i j,i<es.length->j<f->i*f+j<vs.size:=λi j q l=>by have:=Lq (show i<cap by omega) l;omega
  refine⟨⟨b,0,Y⟩,λi j=>vs.getD (i*f+j) undef,rfl,?_,λi j q l=>?_,⟨by simp[qP],m.rows,λi j d c k l=>?_⟩⟩
  .by_cases z:g.bx b
   .exact .inl z
   .exact .inr ⟨o,rfl,z,.inr ⟨e,_,_,hx,rfl,rfl,by simp only;omega⟩⟩
  .rw[ot,cell?_of_block hh];have:=hvs i j q l;simp[this]
  .have q:=cq k;have F:j<f:=by rw[<-m.rows d (hJ k)];exact cq l
   let ⟨u,hu,hr⟩:=A i d j c k l
   refine⟨u,?_,hr⟩;rw[CR q F];simp[hu]
 |_=>simp[Bv]at h
def rY.one(h:rY I w sz es vals)(e:0<sz)(hf:∀d∈es,d.flat=W):∀v∈vals,v.oneCell'=W:=by
 intro v f;obtain⟨k,g,rfl⟩:=qI f;have i:k<es.length*sz:=by rw[<-h.len];exact g
 have c:k/sz<es.length:=S3 (by grind);have j:k%sz<sz:=Nat.mod_lt _ e;have a:=IA c;have b:k%sz<(es[k/sz]).cells.length:=by rw[h.rows _ a];exact j
 let ⟨u,l,m⟩:=h.rel (k/sz) (k%sz) _ _ (iZ c) (iZ b)
 grind[Nat.div_add_mod,D.flat,vR,List.getElem_mem]
def rY.append{e:L D}{a:L Value}(h:rY I w sz es vals)(f:rY I w sz e a):rY I w sz (es++e) (vals++a):=by
 refine⟨by simp[h.len,f.len,Nat.add_mul],λd b=>?_,λi j d c b g=>?_⟩
 .obtain b|b:=dW.1 b
  .exact h.rows d b
  .exact f.rows d b
 .rw[sC]at b;by_cases k:i<es.length
  .rw[cn k]at b
   let ⟨v,m,l⟩:=h.rel i j d c b g
   grind
  .rw[bJ k]at b
   let ⟨v,m,l⟩:=f.rel (i-es.length) j d c b g
   refine⟨v,?_,l⟩;have n:es.length*sz<=i*sz:=Ae _ (by omega);rw[sC,bJ (by rw[h.len];omega),h.len]
   grind[Nat.sub_mul]
def rY.nil:rY I w sz [] []:=⟨by simp,by simp,λi j d c h=>by simp at h⟩
theorem rY.mono{I a:Nat->Prop}{w w':World}{sz:Nat}{es:L D}{vals:L Value}(h:rY I w sz es vals)(e:uT I w w')(f:∀b,I b->a b):rY a w' sz es vals:=
 ⟨h.len,h.rows,λi j d c g k=>let ⟨v,l,m⟩:=h.rel i j d c g k;⟨v,l,m.mono e f⟩⟩
def zY(hs:bq g s w)(h:Bv s t=Z (p,es))(x:p)(y:aP g w t v)(l:0<sz)(c:jA es sz)(hf:∀d∈es,d.flat=W)
  {n z:TypeId} (o:P.underlying n=Z (.slice z)):∃b,Src P sz n v es.length b w∧rY g.bx w sz es b∧Builtin.lenOf v=Sem.pure es.length:=by
 obtain⟨a,cap,rfl,q,A,e⟩:=sq hs h x y l c;by_cases f:es=[]
 .subst f;refine⟨[],?_,.nil,rfl⟩;cases a with|none=>exact Src.ofNil w o cap|some r=>grind[Src.ofSlice]
 .obtain ⟨r,val,rfl,_,C,m⟩:=e f;refine⟨_,Src.ofSlice w o r es.length cap _ m.len (λk u B=>?_) (m.one l hf),m,rfl⟩;obtain⟨i,j,E,F,rfl,rfl⟩:=z9 l B
  grind
def Ik(P:Program)(t a rt:TypeId)(vx vy:Value)(w:World)(R:Value->World->Prop):Prop:=
 ∃v w',(Builtin.append_ #[t,a] rt #[vx,vy]).run P w=.ok v w'∧R v w'
def Bb{ty f rt e k:TypeId}{j:TypeInfo}{z:Value}(l:P.underlying ty=Z (.slice e))(m:P.underlying f=Z (.slice k))(o:P.info? e=Z j)(p:j.zero=Z z)(g:0<j.bytes)
  {base:O Addr} {len cap n:Nat} {olds a:L Value} {vy:Value} (c:(Builtin.firstCells j.size len (.slice base len cap)).run P w.drew=.ok olds.toArray w.drew)
  (hs:Src P j.size f vy n a w) (q:cap<len+n) (i:Builtin.nextslicecap (len+n) cap*j.bytes<=281474976710656) :
  Ik P ty f rt (.slice base len cap) vy w λv w'=>∃b,v=.slice (Z ⟨w.heap.size,0,Y⟩) (len+n) b∧len+n<=b∧
   w'=w.drew.alloc (.cells ((olds++a).toArray++Builtin.zeroCells z.cells (b-(len+n))) e):=by
 have r:(len+n)*j.bytes<=281474976710656:=gk (Ae _ (le_nextslicecap (by omega))) i;have h:((len+n:Nat):Int)<=9223372036854775807:=by have:len+n<=(len+n)*j.bytes:=Nat.le_mul_of_pos_right _ g;omega
 have d:=run_append_grow_src (P:=P) w ty f rt e j z l o p base len cap olds c vy n a hs q h i;exact⟨_,_,d,_,rfl,grownCap_ge w (len+n) cap e,rfl⟩
def HI{ty b rt e:TypeId}{j:TypeInfo}(d:P.underlying ty=Z (.slice e))(f:P.info? e=Z j){base:O Addr}{len cap:Nat}{vy:Value}(hs:Src P j.size b vy 0 [] w)(a:len<=cap) :
  (Builtin.append_ #[ty,b] rt #[.slice base len cap,vy]).run P w=.ok (.slice base len cap) w:=by
 obtain⟨g,c⟩|c:=hs.kind<;>cases base<;>
  simp[Builtin.append_,aU d,aU c,dQ f,hs.len,a,hs.cells,storeCells]
end
end
section
section
variable {P:Program}{g:Gh}{w:World}
variable {o:Obj}{w':World}{sz cap n sj bt:Nat}{es:List D}{vals:List Value}
def Fy(a:w'.heap=w.heap.push o)(b:Nat)(c:b<w.heap.size):w'.heap[b]?=w.heap[b]?:=by rw[a,Array.getElem?_push,bJ (by omega)]
def Nw(a:w'.heap=w.heap.push o):w'.heap[w.heap.size]?=Z o:=by rw[a];simp
def T5{g':Gh}(a:g'.bx=g.bx)(q:∀b,g.bx b->b<w.heap.size){n:Array Value}{e:TypeId}
  (o:w'.heap=w.heap.push (.cells (vals.toArray++n) e)) (f:rY g.bx w sz es vals) (r:0<sz) (k:n.size=(cap-es.length)*sz) (s:es.length<=cap) (l:es≠[])
  (m:∀d∈es,es.length*d.sj<=281474976710656):wZ g' w' J sz es ⟨Z ⟨w.heap.size,0,Y⟩,es.length,cap,sz⟩:=by
 have t:uT g.bx w w':=λb p=>Fy o b (q b p);refine⟨rfl,s,f.rows,r,m,λh=>absurd h l,λ_=>⟨w.heap.size,_,e,rfl,⟨λh=>(by cases h),λh=>?_⟩,Nw o,?_,λi d j c u x=>?_⟩⟩
 .rw[a]at h
  grind
 .simp[Array.size_append,S2,f.len,k];rw[<-Nat.add_mul]
  simp_all
 .let ⟨v,y,z⟩:=f.rel i j d c u x
  refine⟨v,?_,z.mono t (λb p=>by grind)⟩
  grind
def xo{len:Nat}{base:O Addr}{olds:L Value}(hl:olds.length=len*sz)(h:len≠0->∃ad,base=Z ad∧∀k u,olds[k]?=Z u->w.cell? (ad.add k)=Z u) :
  (Builtin.firstCells sz len (.slice base len cap)).run P w.drew=.ok olds.toArray w.drew:=by
 by_cases a:len=0
 .subst a;have:olds=[]:=xJ (by simpa using hl);subst this;cases base with|none=>rfl|some ad=>grind[run_firstCells_some]
 .obtain ⟨ad,rfl,b⟩:=h a
  grind[run_firstCells_some,World.cell?_drew]
theorem Ik.mono{t a rt:TypeId}{vx vy:Value}{R b:Value->World->Prop}(h:Ik P t a rt vx vy w R)(c:∀v w',R v w'->b v w'):Ik P t a rt vx vy w b:=by
 let ⟨v,w',h1,h2⟩:=h
 exact⟨v,w',h1,c _ _ h2⟩
def rY.V8{I:Nat->Prop}(h:rY I w sz es vals){b:Nat}{ty:TypeId}{fz:Nat×Nat}{cells:Array Value}(o:w.heap[b]?=Z (.cells cells ty fz))(p:I b)
  (f:∀(k:Nat)(v:Value),vals[k]?=Z v->cells[k]?=Z v) {cap:Nat} (a:es.length<=cap) (m:∀d∈es,es.length*d.sj<=281474976710656):ew I w (.sl es) (.slice (Z ⟨b,0,Y⟩) es.length cap):=by
 have n:∀q:Nat×Nat,∃v,∀d c,es[q.1]?=Z d->d.cells[q.2]?=Z c->cells[q.1*sz+q.2]?=Z v∧ew I w c v:=by
  rintro⟨i,j⟩
  by_cases r:i<es.length
  .by_cases g:j<(es[i]).cells.length
   .let ⟨v,t,u⟩:=h.rel i j _ _ (iZ r) (iZ g)
    refine⟨v,λd c l s=>?_⟩
    grind
   .refine ⟨undef,λd c l s=>?_⟩
    simp_all
  simp_all
 let ⟨val,e⟩:=UT n
 refine .sl es _ cap sz (λi j=>val (i,j)) a h.rows m (λ_=>⟨_,rfl,p,λi j d c l g=>?_⟩) (λi j d c l g=>(e (i,j) d c l g).2);rw[ot,cell?_of_block o]
 simp_all
def GL(hf:n<=17179869184)(a:sj<=4096)(b:cap<n):Builtin.nextslicecap n cap*sj<=281474976710656:=by have h1:=nextslicecap_le b;have:Builtin.nextslicecap n cap*sj<=(2*17179869184)*4096:=Nk (by omega) a;omega
def Ly(hf:n<=17179869184)(a:sj<=4096)(h:bt<=2*sj):n*bt<=281474976710656:=by have:n*bt<=17179869184*8192:=Nk hf (by omega);omega
def DB{ty tx rt e e':TypeId}{l:TypeInfo}{z:Value}(IG:P.underlying ty=Z (.slice e))(hu2:P.underlying tx=Z (.slice e'))(hji:P.info? e=Z l)(hjz:l.zero=Z z)(hzs:z.cells.size=l.size)(h0:0<l.size)
  (hb0:0<l.bytes) (Rf:l.bytes<=4096) (pF:bt<=2*l.bytes) (hI:∀b,g.bx b->b<w.heap.size) {es new:L D} {f:L Value} {x:ff} {vy:Value}
  (m:wZ g w J l.size es x) (apN:∀b,x.at b->b<w.heap.size) (R:∀d∈iA es new,d.sj=bt) (r:jA new l.size)
  (p:Src P l.size tx vy new.length f w) (hv:rY g.bx w l.size new f) (s:D.TE es new)
  (hy:new≠[]->∃t cy,vy=.slice (Z t) new.length cy∧¬x.at t.block∧∀k,k<new.length*l.size->(w.cell? (t.add k)).isSome=W) :
  Ik P ty tx rt (.slice x.a x.len x.cap) vy w λv w'=>∃x',Um g w l.size (iA es new) x v w' x':=by
 let ⟨a,len,cap,xsz⟩:=x
 have hl1:=m.len;have hl2:=m.cap;simp only at hl1 hl2;subst hl1;by_cases y:new=[]
 .subst y;have Q9:f=[]:=xJ (by simpa using hv.len);subst Q9;have ac6:iA es []=es:=oN es;rw[ac6];exact⟨_,_,HI (P:=P) IG hji p hl2,⟨a,es.length,cap,l.size⟩,rfl,rfl,rfl,rfl,cu _,λ_ _ _=>rfl,λb hb=>⟨apN b hb,.inr hb⟩,⟨m.len,m.cap,m.rows,m.pos,m.byt,m.emp,m.mem⟩⟩
 .have hpos:0<new.length:=Fo.2 y;obtain⟨t,cy,rfl,Tu,hyc⟩:=hy y;by_cases n:es.length+new.length<=cap
  ·
   let ⟨b,E,F,I,hfz,S,hcs,o⟩:=m.mem (by grind)
   simp only at I hcs;subst I;have aex:¬g.bx b:=λTx=>Bool.noConfusion (hfz.2 Tx);have hnl:f.length=new.length*l.size:=hv.len;have hfit:es.length*l.size+f.length<=E.size:=by
    have:(es.length+new.length)*l.size<=cap*l.size:=Ae _ n
    grind
   have hst:=run_storeCells_at (P:=P) b (0+es.length*l.size) F f 0 E w S (by omega) p.one;simp only[Nat.add_zero,qG]at hst;have hrun:(Builtin.append_ #[ty,tx] rt #[.slice (Z ⟨b,0,Y⟩) es.length cap,.slice (Z t) new.length cy]).run P w=
     .ok (.slice (Z ⟨b,0,Y⟩) (es.length+new.length) cap) (w.setRow b (E.toList.take (es.length*l.size)++f++E.toList.drop (es.length*l.size+f.length)).toArray):=by
    simp[Builtin.append_,aU IG,aU hu2,dQ hji,p.len,n,p.cells,ot,hst]
   have hk:uT g.bx w (w.setRow b (E.toList.take (es.length*l.size)++f++E.toList.drop (es.length*l.size+f.length)).toArray):=
    λb' A=>setRow_other w b b' _ (λe=>aex (e▸A))
   have Gz:(⟨Z ⟨b,0,Y⟩,es.length,cap,xsz⟩:ff).at b:=⟨_,rfl,rfl,by grind⟩;refine⟨_,_,hrun,⟨Z ⟨b,0,Y⟩,es.length+new.length,cap,l.size⟩,rfl,rfl,rfl,rfl,by simp,λb' _ A=>setRow_other w b b' _ (λe=>A (e▸Gz)),λb' A=>?_,
    ⟨by simp[iA],n,λd hd=>(by
      obtain hd|hd:=dW.1 hd
      .exact m.rows d hd
      .exact r d hd),h0,λd hd=>(by
      rw[R d hd];exact Ly (by simpa[iA,D.TE]using s) Rf pF),λS=>absurd (List.append_eq_nil_iff.1 S).2 y,λ_=>⟨b,_,F,rfl,hfz,setRow_heap w b E _ F _ S,(by
       grind),λi d j c hd hj=>(by
       have zf:j<l.size:=by
        have hrw:d.cells.length=l.size:=by
         obtain hd|hd:=dW.1 (hJ hd)
         .exact m.rows d hd
         .exact r d hd
        grind
       unfold iA at hd;rw[sC]at hd;by_cases hi:i<es.length
       .rw[cn hi]at hd
        let ⟨v,K,hr⟩:=o i d j c hd hj
        refine⟨v,?_,hr.mono hk (λ_ h=>h)⟩;have:=Lq hi zf
        grind
       .rw[bJ hi]at hd
        let ⟨v,K,hr⟩:=hv.rel _ j d c hd hj
        refine⟨v,?_,hr.mono hk (λ_ h=>h)⟩;have hlt:=cq K;have hge:es.length*l.size<=i*l.size:=Ae _ (by omega);rw[Nat.sub_mul]at K hlt;rw[S5,sC,cn (by simp;omega),sC,bJ (by simp;omega)]
        grind)⟩⟩⟩
   let ⟨ad,k1,k2,k3⟩:=A
   simp at k1;subst k1
   simp_all
  ·
   have B:∃olds,rY g.bx w l.size es olds∧(es.length≠0->∃ad,a=Z ad∧∀k u,olds[k]?=Z u->w.cell? (ad.add k)=Z u):=by
    by_cases hes:es=[]
    .subst hes;exact⟨[],.nil,λh=>absurd rfl h⟩
    .have hepos:0<es.length:=Fo.2 hes
     let ⟨b,E,F,I,hfz,S,hcs,o⟩:=m.mem (by grind)
     subst I;have hle:es.length*l.size<=E.size:=gk (Ae _ hl2) hcs;refine⟨E.toList.take (es.length*l.size),⟨by simp;omega,m.rows,λi j d c hd hj=>?_⟩,λ_=>⟨_,rfl,λk u hu=>?_⟩⟩
     .let ⟨v,K,hr⟩:=o i d j c hd hj
      refine⟨v,?_,hr⟩;have zf:j<l.size:=by rw[<-m.rows d (hJ hd)];grind
      simp_all[UQ,Lq,cq]
     .rw[ot,cell?_of_block S]
      grind
   let ⟨olds,hvo,B⟩:=B
   refine(Bb (P:=P) IG hu2 hji hjz hb0 (olds:=olds) (xo hvo.len B) p (Nat.lt_of_not_le n) (GL s Rf (Nat.lt_of_not_le n))).mono ?_
   rintro v w' ⟨q,rfl,hc,rfl⟩
   have af8:(Builtin.zeroCells z.cells (q-(es.length+new.length))).size=(q-(es.length+new.length))*l.size:=by simp[Builtin.zeroCells,hzs]
   have C:(es++new).length=es.length+new.length:=Fm;have Vy:=T5 (g:=g) (w:=w) (g':=g) rfl hI
    (w':=w.drew.alloc (.cells ((olds++f).toArray++Builtin.zeroCells z.cells (q-(es.length+new.length))) e)) rfl (hvo.append hv) h0 (by rw[C];exact af8) (by omega)
    (λS=>y (List.append_eq_nil_iff.1 S).2) (λd hd=>by
     rw[R d hd];exact Ly (by simpa[D.TE]using s) Rf pF)
   rw[C]at Vy;refine⟨⟨Z ⟨w.heap.size,0,Y⟩,es.length+new.length,q,l.size⟩,rfl,rfl,rfl,rfl,by simp_all,λb hb _=>Fy rfl b hb,λb hb=>?_,Vy⟩
   let ⟨ad,k1,k2,_⟩:=hb
   simp at k1;subst k1
   simp_all
def yB{ty tx rt:TypeId}{i j:TI}(hi:n4 P ty i)(hj:n4 P tx j)(hjk:∃a b c d,j.kd=.slice a b c d){s s':St}(hs:bq g s w){x y:T}{vx vy:Value}{p:Prop}{t:T}
  (h:ur i s x y=Z (p,t,s')) (R:p) (hx:aP g w x vx) (hy:aP g w y vy) :
  Ik P ty tx rt vx vy w λv w'=>∃g',bq g' s' w'∧Ext s.fl g w g' w'∧aP g' w' t v:=by
 let ⟨_,d1,_,_,S,_,_,_,_,PO⟩:=hi.all
 let ⟨_,d2,_,_,E,_,_,_,_,hk2⟩:=hj.all
 let ⟨_,_,_,_,hjk⟩:=hjk
 rw[hjk]at hk2;obtain⟨e',_,_,_,rfl,_⟩:=hk2;unfold ur at h;obtain⟨_,h⟩|⟨hnb,h⟩:=ah h
 .cases h
 have hn:s.aL<bC:=by
  simp_all
 split at h
 .rename_i sz ag bt zero q new vg MF;rw[vg]at PO;obtain⟨e,ji,d',z,rfl,hji,zf,_,_,hjz,BQ,Rf,h0,DV,pF,hb0,hzl⟩:=PO;have hzs:z.cells.size=sz:=by rw[<-BQ.1,hzl]
  subst zf;have acg:∀{es:L D}{vals:L Value}{cap:Nat}{v:Value}{w':World},rY g.bx w ji.size es vals->es≠[]->uW es bt->v=.slice (Z ⟨w.heap.size,0,Y⟩) es.length cap->es.length<=cap->(∀d∈es,es.length*d.sj<=281474976710656)->
    w'=w.drew.alloc (.cells (vals.toArray++Builtin.zeroCells z.cells (cap-es.length)) e)->∃g',bq g' (ey s (.arr ji.size es 0)).2 w'∧Ext s.fl g w g' w'∧aP g' w' (.sh s.aL 0) v:=by
   intro es vals cap v w' hv r l hve hc hby hw;subst hw;subst hve;have af8:(Builtin.zeroCells z.cells (cap-es.length)).size=(cap-es.length)*ji.size:=by simp[Builtin.zeroCells,hzs]
   have hok:=T5 (g:=g) (w:=w) (g':=g.era s.aL 0 ⟨Z ⟨w.heap.size,0,Y⟩,es.length,cap,ji.size⟩) rfl hs.bx (w':=w.drew.alloc (.cells (vals.toArray++Builtin.zeroCells z.cells (cap-es.length)) e)) rfl hv h0 af8 hc r hby
   let ⟨F,he⟩:=hs.QI hn (w':=w.drew.alloc (.cells (vals.toArray++Builtin.zeroCells z.cells (cap-es.length)) e)) rfl rfl (by simp_all) (λb hb=>Fy rfl b hb)
    (x:=⟨Z ⟨w.heap.size,0,Y⟩,es.length,cap,ji.size⟩) (λb hb=>by
     let ⟨ad,h1,h2,_⟩:=hb
     simp at h1;subst h1
     simp_all) hok rfl
   exact⟨_,F,he,.sh _ _ _ _ _ _ (Gh.fS _ _ _ _)⟩
  cases hx with
  |emp a=>
   obtain⟨rfl,rfl,rfl⟩:=h
   let ⟨hq,f,l⟩:=R
   let ⟨C,n,hv,hlen⟩:=zY hs MF hq hy h0 f (λd B=>(l d B).2) E
   by_cases r:new=[]
   .subst r;have Q9:C=[]:=xJ (by simpa using hv.len);subst Q9
    let ⟨F,he⟩:=hs.QI hn (w':=w) (sz:=ji.size) (es:=[]) (x:=⟨a,0,0,ji.size⟩) rfl rfl (cu _) (λb hb=>rfl) (λb hb=>by
     let ⟨_,_,_,h⟩:=hb
     grind) ⟨rfl,cu _,by simp,h0,by simp,λ_=>rfl,λh=>absurd rfl h⟩ rfl
    exact⟨_,_,HI (P:=P) S hji n (cu _),_,F,he,.sh _ _ _ _ _ _ (Gh.fS _ _ _ _)⟩
   .have hpos:0<new.length:=Fo.2 r
    let ⟨_,_,_,_,hby,_⟩:=sq hs MF hq hy h0 f
    have hfit:Builtin.nextslicecap (0+new.length) 0*ji.bytes<=281474976710656:=by rw[qG,nextslicecap_zero hpos];obtain⟨d,ds,rfl⟩:=abL r;have:=hby d (by simp);rw[(l d (by simp)).1]at this;exact gk (Nat.mul_le_mul_left _ DV) this
    refine(Bb (P:=P) S E hji hjz hb0 (olds:=[]) (xo (by simp) (λh=>absurd rfl h)) n (by omega) hfit).mono ?_
    simp_all
  |kq m es a hm B=>
   have hes:jA (iA es new) ji.size->∃olds,rY g.bx w ji.size es olds∧(es.length≠0->∃ad,a=Z ad∧∀k u,olds[k]?=Z u->w.cell? (ad.add k)=Z u):=by
    intro f
    let ⟨a',K,he,_,_,Tv⟩:=sq (s:=s) (t:=.kq m es) (p:=True) (es:=es) hs rfl trivial (.kq m es a hm B) h0 (λd B=>f d (fh _ B))
    obtain⟨rfl,_,_⟩:=he;by_cases r:es=[]
    .subst r;exact⟨[],.nil,λh=>absurd rfl h⟩
    .obtain ⟨ad,val,rfl,_,hc,hv⟩:=Tv r;refine⟨_,hv,λ_=>⟨ad,rfl,λk u hu=>?_⟩⟩;obtain⟨i,j,hi,hj,rfl,rfl⟩:=z9 h0 hu
     grind
   dsimp only at h;split at h
   .rename_i k es2;obtain⟨rfl,rfl,rfl⟩:=h
    let ⟨hq,f,l,A⟩:=R
    let ⟨C,n,hv,hlen⟩:=zY hs MF hq hy h0 (λd B=>f d (eO _ B)) (λd B=>(l d (eO _ B)).2) E
    let ⟨olds,hvo,hold⟩:=hes f
    have hpos:0<new.length:=by
     cases hy with
     |kq _ _ _ hk _=>
     grind[Bv]
    refine(Bb (P:=P) S E hji hjz hb0 (olds:=olds) (xo hvo.len hold) n (by omega) (GL A Rf (by omega))).mono ?_
    rintro v w' ⟨K,rfl,hc,rfl⟩
    have I:(iA es new).length=es.length+new.length:=Fm;exact acg (es:=iA es new) (hvo.append hv) (λhh=>by
     grind) l (by rw[I]) (by omega) (λd B=>by rw[(l d B).1,I];exact Ly A Rf pF) (by rw[I])
   .obtain ⟨rfl,rfl,rfl⟩:=h
    let ⟨hq,f,l,A⟩:=R
    let ⟨C,n,hv,hlen⟩:=zY hs MF hq hy h0 (λd B=>f d (eO _ B)) (λd B=>(l d (eO _ B)).2) E
    let ⟨olds,hvo,hold⟩:=hes f
    by_cases r:new=[]
    .subst r;have Q9:C=[]:=xJ (by simpa using hv.len);subst Q9;refine⟨_,_,HI (P:=P) S hji n (cu _),g,hs,Ext.refl _ _ _,.sym _ _ ?_⟩
     grind[iA]
    .have hpos:0<new.length:=Fo.2 r;refine(Bb (P:=P) S E hji hjz hb0 (olds:=olds) (xo hvo.len hold) n (by omega) (GL A Rf (by omega))).mono ?_
     rintro v w' ⟨K,rfl,hc,rfl⟩
     let ⟨F,he⟩:=hs.X9 (w':=w.drew.alloc (.cells ((olds++C).toArray++Builtin.zeroCells z.cells (K-(es.length+new.length))) e)) _ rfl rfl rfl
     refine⟨_,F,he,.sym _ _ ?_⟩;have hvv:=(hvo.append hv).mono (he.keeps hs.bx) he.bx;have:=hvv.V8 (b:=w.heap.size) (Nw (w:=w) rfl) (.inr rfl) (λk v hk=>by
      grind) (cap:=K) (by simp_all) (λd B=>by
       rw[(l d B).1,Fm];exact Ly A Rf pF)
     rw[Fm]at this;exact this
  |sh o e2 len cap sz2 a hxa=>
   dsimp only at h;split at h
   .rename_i ho;obtain⟨hb,h9⟩|⟨_,h9⟩:=ah h
    .simp only[eK]at hb
     let ⟨⟨⟨hfl,hee⟩,hzz⟩,hno⟩:=hb
     have hfl:=g9 hfl;have hee:=beq_iff'.1 hee;have hzz:=beq_iff'.1 hzz;subst hee;subst hzz;simp only[gV,fP]at h9;obtain⟨rfl,rfl,rfl⟩:=h9
     let ⟨hq,f,l,A⟩:=R
     let ⟨hok,YP⟩:=hs.oq (fz:=J) ho hxa
     simp only at YP;subst YP
     let ⟨C,n,hv,hlen⟩:=zY hs MF hq hy h0 f (λd B=>(l d (eO _ B)).2) E
     obtain⟨ay,cy,rfl,_,apL,Q4⟩:=sq hs MF hq hy h0 f;have hlt:=(hs.arr o e2 _ hxa).1;refine(DB (rt:=rt) S E hji hjz hzs h0 hb0 Rf pF hs.bx hok (λb hb=>?_) (λd B=>(l d B).1) f n hv A (λr=>?_)).mono ?_
     .let ⟨ad,k1,k2,k3⟩:=hb
      simp_all
     .obtain ⟨ady,ang,rfl,Tu,hyc,_⟩:=Q4 r;refine⟨ady,cy,rfl,λGz=>?_,λk hk=>?_⟩
      .have hown:bG g o ady.block:=by
        let ⟨ad,k1,k2,k3⟩:=Gz
        let ⟨b,vs,ety,hab,hfz,_⟩:=hok.mem k3
        rw[k1]at hab;cases hab;simp only at k2;exact⟨λTx=>Bool.noConfusion (hfz.2 (k2▸Tx)),.inr ⟨e2,_,_,hxa,k1,k2,k3⟩⟩
       obtain Tx|⟨o',ho',hO⟩:=Tu
       .exact hown.1 Tx
       .have:=hs.kJ o o' _ hown hO
        simp_all
      .have h1:=hyc (k/ji.size) (k%ji.size) (S3 (by grind)) (Nat.mod_lt _ h0)
       grind[Nat.div_add_mod]
     .rintro v w' ⟨x',R⟩
      let ⟨F,he⟩:=hs.arT ho hxa hfl R.os R.output R.size R.heap R.at_ (R.ok.j6 rfl) R.sz
      have:=R.val;subst this;exact⟨_,F,he,.sh _ _ _ _ x'.sz _ (Gh.fS _ _ _ _)⟩
    .cases h9
   .cases h
  |_=>simp at h
 .cases h
end
end
section
def al3(fl:Nat)(g:Gh)(w:World)(t:T)(s':St)(r:Result Next):Prop:=
 ∃v w' g',(r=.ok (.value v) w'∨(r=.ok .skip w'∧v=undef))∧bq g' s' w'∧Ext fl g w g' w'∧aP g' w' t v
section
variable {P:Program}{g:Gh}{w:World}
variable {s s':St}{t x:T}{os:List Nat}{i:TI}{l h m:Option T}{p:Prop}
def dU{v:Value}{r:Result Next}(hs:bq g s w)(a:r=.ok (.value v) w)(b:aP g w t v)(c:s'=s):al3 s.fl g w t s' r:=
 ⟨v,w,g,.inl a,c▸hs,Ext.refl _ _ _,b⟩
def qY:∀{os:L Nat}{s s':St},freeze s os=Z s'->s'.lo=s.lo∧s'.fl=s.fl∧s'.aL=s.aL
 |[],s,s',h=>by simp[freeze,gV]at h;rw[h];exact⟨rfl,rfl,rfl⟩
 |o::os,s,s',h=>by obtain⟨_,⟨_,_,_,_,h⟩|⟨_,_,_,_,h⟩|⟨_,h⟩|⟨_,_,_,_,_,_,_,_,_,_,_,_,_,h⟩⟩:=v5 h<;>(have:=qY h;exact this)
def BU(h:freeze s os=Z s'):s'.lo=s.lo:=(qY h).1
def VN(h:freeze s os=Z s'):s'.fl=s.fl:=(qY h).2.1
def Rj(h:freeze s os=Z s'):s'.aL=s.aL:=(qY h).2.2
def UA(a:pO i s x l h m=Z (p,t,s')):s'=s∨freeze s (sH x)=Z s':=by
 unfold pO at a
 repeat' split at a
 all_goals first
  |(cases a;done)
  |(
    simp only[fV,gV,fP]at a;first
     |(obtain⟨_,_,_,_,rfl⟩:=a;first|exact .inl rfl|(right;assumption))
     |(obtain⟨_,_,rfl⟩:=a;first|exact .inl rfl|(right;assumption)))
def UB(a:pO i s x l h m=Z (p,t,s')):s'.lo=s.lo:=by
 obtain rfl|h:=UA a
 .rfl
 .exact BU h
structure Bg(E:Env):Prop where
 ti:∀k i,E.ti k=Z i->n4 E.P k i
 TC:∀f fn,E.TC f=Z fn->E.P.funcs[f]?=Z fn
def nc{E:Env}(R:Bg E){fr:Fr}{a:Act}(hf:cL g fr a w)(hs:bq g s w)(o:Oper)(h:n6 E fr s o.op=Z (p,t,s'))(S:p) :
  al3 s.fl g w t s' ((execOp a.eval o).run E.P w)∧s'.fl=s.fl∧s'.lo=s.lo∧s.aL<=s'.aL:=by
 cases A:o.op with
 |move x=>rw[A]at h;simp only[n6,fV,fP]at h;obtain⟨t',F,_,rfl,rfl⟩:=h;exact⟨dU hs (by simp[execOp,A]) (bQ hf F) rfl,rfl,rfl,cu _⟩
 |assign x=>rw[A]at h;simp only[n6,fV,fP]at h;obtain⟨t',F,_,rfl,rfl⟩:=h;exact⟨dU hs (by simp[execOp,A]) (bQ hf F) rfl,rfl,rfl,cu _⟩
 |pick c x y=>
  rw[A]at h;simp[n6]at h;split at h
  .rename_i hc hx hy;simp only[fV,fP]at h;obtain⟨⟨q,u⟩,hu,rfl,rfl,rfl⟩:=h
   let ⟨b,hb,F⟩:=ND hu S (bQ hf hc) (bQ hf hx) (bQ hf hy)
   exact⟨dU hs (by simp[execOp,A,hb,asBool]) F rfl,rfl,rfl,cu _⟩
  .cases h
 |alloc ty=>
  rw[A]at h;simp[n6]at h;split at h
  .rename_i i I;obtain⟨hn,h⟩|⟨_,h⟩:=ah h
   .obtain ⟨_,rfl,rfl⟩:=h;have hn':s.aL<bC:=g9 hn
    let ⟨xi,d,z,PN,_,_,_,hz,BQ,_⟩:=(R.ti _ _ I).all
    let ⟨z1,z2⟩:=sk (g:=g) (w:=w) BQ
    let ⟨K,he⟩:=hs.dJ hn' ty z1 z2
    refine⟨⟨_,_,_,.inl ?_,K,he,.ptr s.aL 0 w.heap.size (by simp[Gh.dJ])⟩,rfl,rfl,by simp[ey]⟩;simp[execOp,A,Instr.alloc,eA PN hz,newVar,newRow]
   .cases h
  .cases h
 |box ty x=>
  rw[A]at h;simp[n6]at h;split at h
  .rename_i i v I B;obtain⟨hn,h⟩|⟨_,h⟩:=ah h
   .simp only[fV,fP]at h;obtain⟨⟨q,cs⟩,hc,rfl,rfl,rfl⟩:=h;have hn':s.aL<bC:=g9 hn
    let ⟨h1,h2,h3,_⟩:=mL hc S (bQ hf B)
    let ⟨K,he⟩:=hs.dJ hn' ty (cs:=cs) (vs:=(a.eval x).cells) (by rw[h1,h2]) h3
    refine⟨⟨_,_,_,.inl ?_,K,he,.ptr s.aL 0 w.heap.size (by simp[Gh.dJ])⟩,rfl,rfl,by simp[ey]⟩;simp[execOp,A,Instr.box,newVar,newRow]
   .cases h
  .cases h
 |build ty parts=>
  rw[A]at h;simp[n6]at h;split at h
  .rename_i i ps I hps;split at h
   .rename_i hk;simp only[fV,fP]at h;obtain⟨⟨q,cs⟩,hc,rfl,rfl,rfl⟩:=h;have oe:=oP hf hps
    let ⟨v,B,F⟩:=O2 (w:=w) (g:=g) (R.ti _ _ I) hk (vs:=parts.map λ(i,x)=>(i,a.eval x)) (by simpa using oe) hc S
    exact⟨dU hs (by simp[execOp,A,B]) F rfl,rfl,rfl,cu _⟩
   .cases h
  .cases h
 |buildSlice ty len parts=>
  rw[A]at h;simp only[n6]at h;split at h
  .rename_i i ps I hps;split at h
   .rename_i hk;obtain⟨hb,h⟩|⟨_,h⟩:=ah h
    .split at h
     .rename_i q es os hel;simp only[fV,fP]at h;obtain⟨s1,hfz,rfl,rfl,rfl⟩:=h;have oe:=oP hf hps;rw[Bz]at hb
      let ⟨DV,pF⟩:=hb
      rw[Bz]at pF
      let ⟨pF,WE⟩:=pF
      rw[Bz]at WE
      let ⟨WE,Rf⟩:=WE
      let ⟨w',g',v,hrun,K,he,F,hfl,acT⟩:=Cp (R.ti _ _ I) hs hk DV (beq_iff'.1 pF) (λe=>by
       rw[e]at WE;cases WE) (g9 Rf) (vs:=parts.map λ(i,x)=>(i,a.eval x)) (by simpa using oe) hel S hfz
      exact⟨⟨v,w',g',.inl (by simp[execOp,A,hrun]),K,he,F⟩,hfl,BU hfz,by omega⟩
     .cases h
    .cases h
   .cases h
  .cases h
 |load ty x=>
  rw[A]at h;simp[n6]at h;split at h
  .rename_i i v I B;obtain⟨u,hu,F,rfl⟩:=Di (R.ti _ _ I) hs (bQ hf B) h S;exact⟨dU hs (by simp[execOp,A,hu]) F rfl,rfl,rfl,cu _⟩
  .cases h
 |store ty x y=>
  rw[A]at h;simp[n6]at h;split at h
  .rename_i i v u I B hu;obtain⟨w',g',hrun,K,he,rfl⟩:=Kt (R.ti _ _ I) hs (bQ hf B) (bQ hf hu) h S;refine⟨⟨undef,w',g',.inr ⟨by simp[execOp,A,hrun],rfl⟩,K,he,.sym _ _ (.lit _)⟩,?_⟩;unfold storeT at h;split at h
   .cases h
   .split at h
    .split at h
     .obtain ⟨_,h⟩|⟨_,h⟩:=ah h
      .obtain ⟨_,_,rfl⟩:=h;exact⟨rfl,rfl,cu _⟩
      .cases h
     .cases h
    .split at h
     .split at h
      .rename_i hfz;split at h
       .obtain ⟨_,h⟩|⟨_,h⟩:=ah h
        .obtain ⟨_,_,rfl⟩:=h;have e1:=VN hfz;have e2:=BU hfz;have e3:=Rj hfz;exact⟨e1,e2,CW e3.symm⟩
        .cases h
       .cases h
      .cases h
     .cases h
    .cases h
  .cases h
 |nilCheck x=>
  rw[A]at h;simp[n6]at h;have hx:=λ{t}(e:jZ fr x=Z t)=>bQ hf e;split at h;all_goals try(cases h;done)
  all_goals
   rename_i hxe;have C:=hx hxe;simp only[gV,fP]at h;obtain⟨rfl,rfl,rfl⟩:=h
  .generalize B:a.eval x=v at C;cases C with|ptr _ _ b hb=>exact⟨dU hs (by simp[execOp,A,B]) (.ptr _ _ b hb) rfl,rfl,rfl,cu _⟩
  .generalize B:a.eval x=v at C;cases C with|nJ _ _ ad val h1 h2 h3=>exact⟨dU hs (by simp[execOp,A,B]) (.nJ _ _ ad val h1 h2 h3) rfl,rfl,rfl,cu _⟩
  .generalize B:a.eval x=v at C;cases C with|lG _ _ _ _ _ _ _ _ h1=>exact⟨dU hs (by simp[execOp,A,B]) (.lG _ _ _ _ _ _ _ _ h1) rfl,rfl,rfl,cu _⟩
  .generalize B:a.eval x=v at C;cases C with|cT _ _ _ h1=>exact⟨dU hs (by simp[execOp,A,B]) (.cT _ _ _ h1) rfl,rfl,rfl,cu _⟩
  .generalize B:a.eval x=v at C;cases C with|fn _ _ _ _ _ h1 h2 h3 h4=>exact⟨dU hs (by simp[execOp,A,B]) (.fn _ _ _ _ _ h1 h2 h3 h4) rfl,rfl,rfl,cu _⟩
  .generalize B:a.eval x=v at C;cases C with
   |sym d _ hd=>
    cases hd with|cT _ _ _ h1=>exact⟨dU hs (by simp[execOp,A,B]) (.sym _ _ (.cT _ _ _ h1)) rfl,rfl,rfl,cu _⟩|_=>cases S
 |binOp op ty x y yt=>
  rw[A]at h;simp[n6]at h;split at h
  .rename_i i u v I hu B;simp only[fV,fP]at h;obtain⟨⟨q,d⟩,hb,rfl,rfl,rfl⟩:=h
   let ⟨r,C,F⟩:=RF (R.ti _ _ I) hb S (bQ hf hu) (bQ hf B) x y
   refine⟨dU hs ?_ F rfl,rfl,rfl,cu _⟩;simp at C;simp only[execOp,A,run_bind];rw[C];rfl
  .cases h
 |unOp op ty x=>
  rw[A]at h;simp[n6]at h;split at h
  .rename_i i u I hu;simp only[fV,fP]at h;obtain⟨⟨q,d⟩,hb,rfl,rfl,rfl⟩:=h
   let ⟨r,C,F⟩:=Uq (P:=E.P) hb S (bQ hf hu)
   exact⟨dU hs (by simp[execOp,A,C]) F rfl,rfl,rfl,cu _⟩
  .cases h
 |convert src dst x=>
  rw[A]at h;simp[n6]at h;split at h
  .rename_i i j u I hj hu;obtain⟨r,C,F,rfl⟩:=OR (R.ti _ _ I) (R.ti _ _ hj) h S (bQ hf hu);exact⟨dU hs (by simp[execOp,A,C]) F rfl,rfl,rfl,cu _⟩
  .cases h
 |makeInterface ty x=>
  rw[A]at h;simp[n6]at h;split at h
  .rename_i i v I B;have YO:=R.ti _ _ I
   let ⟨xi,d,z,PN,hu,_⟩:=YO.all
   split at h
   .cases h
   .rename_i hk;simp only[gV,fP]at h;obtain⟨rfl,rfl,rfl⟩:=h;refine⟨dU hs (v:=.iface ty (a.eval x)) ?_ (.cT _ _ _ (bQ hf B)) rfl,rfl,rfl,cu _⟩;have hni:∀ms,d≠.interface ms:=λms e=>hk (YO.nif ms (e▸hu));simp only[execOp,A,Instr.makeInterface,run_bind,aU hu,andThen_ok];cases d<;>first|rfl|exact absurd rfl (hni _)
  .cases h
 |makeFunc f first cap=>
  rw[A]at h;simp[n6]at h;split at h
  .rename_i hx hy;obtain⟨rfl,rfl,rfl⟩:=h;have h1:=fQ hf hx;have h2:=fQ hf hy;refine⟨dU hs (v:=.func f (first.map a.eval) (cap.map a.eval)) (by simp[execOp,A,Instr.makeFunc]) (.fn _ _ _ _ _ (by simpa using h1.1) (by simpa using h2.1) (λj t v k1 k2=>h1.2 j t v k1 (by simpa using k2)) (λj t v k1 k2=>h2.2 j t v k1 (by simpa using k2))) rfl,rfl,rfl,cu _⟩
  .cases h
 |extract x k=>
  rw[A]at h;simp[n6]at h;split at h
  .rename_i v B;obtain⟨r,C,F,rfl⟩:=GN (P:=E.P) h S (bQ hf B);exact⟨dU hs (by simp[execOp,A,C]) F rfl,rfl,rfl,cu _⟩
  .cases h
 |fieldAddr ty x k=>
  rw[A]at h;simp[n6]at h;split at h
  .rename_i i v I B;obtain⟨r,C,F,rfl⟩:=Ca (R.ti _ _ I) h (bQ hf B);exact⟨dU hs (by simp[execOp,A,C]) F rfl,rfl,rfl,cu _⟩
  .cases h
 |field ty x k=>
  rw[A]at h;simp[n6]at h;split at h
  .rename_i i v I B;obtain⟨r,C,F,rfl⟩:=Lx (R.ti _ _ I) h S (bQ hf B);exact⟨dU hs (by simp[execOp,A,C]) F rfl,rfl,rfl,cu _⟩
  .cases h
 |indexAddr ty x ix=>
  rw[A]at h;simp[n6]at h;split at h
  .rename_i i v n I B hn;obtain⟨r,C,F,rfl⟩:=BP (R.ti _ _ I) hs h S (bQ hf B) (bQ hf hn);exact⟨dU hs (by simp[execOp,A,C]) F rfl,rfl,rfl,cu _⟩
  .cases h
 |index ty x ix=>
  rw[A]at h;simp[n6]at h;split at h
  .rename_i i v n I B hn;obtain⟨r,C,F,rfl⟩:=Ln (R.ti _ _ I) h S (bQ hf B) (bQ hf hn);exact⟨dU hs (by simp[execOp,A,C]) F rfl,rfl,rfl,cu _⟩
  .cases h
 |slice ty x lo I mx=>
  rw[A]at h;simp[n6]at h;split at h
  .rename_i i v l hh m h1 h2 h3 h4 h5
   let ⟨g',r,C,K,he,F,hfl,acT⟩:=Kx (R.ti _ _ h1) hs h S (bQ hf h2) (y6 hf h3) (y6 hf h4) (y6 hf h5)
   exact⟨⟨r,w,g',.inl (by simp[execOp,A,C]),K,he,F⟩,hfl,UB h,by omega⟩
  .cases h
 |typeAssert x xt ty ok=>
  rw[A]at h;simp[n6]at h;split at h
  .rename_i I B;obtain⟨r,C,F,rfl⟩:=IW (xt:=xt) (R.ti _ _ I) h (bQ hf B);exact⟨dU hs (by simp[execOp,A,C]) F rfl,rfl,rfl,cu _⟩
  .cases h
 |_=>rw[A]at h;simp[n6]at h
end
end
section
section
variable {g g' g'':Gh}{w w' w'':World}{lo fl:Nat}
def bq.grow{s:St}(hs:bq g s w){I:Nat->Prop}(p:∀b,g.bx b->I b)(f:∀b,I b->g.bx b∨w.heap.size<=b)(q:∀b,I b->b<w'.heap.size)(i:w.heap.size<=w'.heap.size)
  (a:∀b,b<w.heap.size->w'.heap[b]?=w.heap[b]?) (r:w'.os=w.os) (m:w'.output=w.output) :
  bq {g with bx:=I} s w'∧Ext fl g w {g with bx:=I} w':=by
 have e:∀k b,bG ({g with bx:=I}:Gh) k b->bG g k b:=λk b h=>⟨λx=>h.1 (p b x),h.2⟩;have t:Ext fl g w {g with bx:=I} w':=
  ⟨λ_ _ h=>h,λ_ _ _ h=>h,p,i,λb n _=>a b n,λk b h=>.inl (e k b h),λb h=>(f b h).imp id .inl,r,m⟩
 refine⟨⟨hs.aL,hs.ai,λk c o=>?_,λk j y z=>?_,q,λk v b h A=>hs.kJ k v b (e k b h) (e v b A)⟩,t⟩
 .have d:=hs.box k c o;refine d.ext t hs.bx (a c d.2.1) rfl λu=>?_;obtain h|h:=f c u
  .exact d.1 h
  .have:=d.2.1;omega
 .have l:=hs.arr k j y z;refine l.ext t hs.bx (λb n o=>⟨a b (l.1 _ n o),⟨λh=>?_,p b⟩⟩) rfl rfl;obtain h|h:=f b h
  .exact h
  .have:=l.1 _ n o
   grind
end
def lN(P:Program)(f:FuncId):Prop:=∃fn,P.funcs[f]?=Z fn∧fn.body.isSome=W∧(fn.name== "runtime.NumGoroutine")=J
def aax(I:Nat->Prop)(w:World)(d:D):Ending->World->Prop
 |.returned v,w'=>∃a:Nat->Prop,(∀b,I b->a b)∧(∀b,a b->I b∨w.heap.size<=b)∧(∀b,a b->b<w'.heap.size)∧w.heap.size<=w'.heap.size∧
   (∀b,b<w.heap.size->w'.heap[b]?=w.heap[b]?)∧w'.os=w.os∧w'.output=w.output∧ew a w' d v
 |.panicked _,_=>False|.outgrown,_=>False
def alV(P:Program)(f:FuncId)(c:PG):Prop:=
 lN P f∧∀(I:Nat->Prop)(w:World)(ds:L D)(vs:Array Value),(∀b,I b->b<w.heap.size)->ds.length=vs.size->
  (∀(j:Nat)(d:D)(v:Value),ds[j]?=Z d->vs[j]?=Z v->ew I w d v)->c.pre ds->Calls P f vs w (aax I w (c.f ds))
structure PF(E:Env):Prop extends Bg E where
 name:∀f fn,E.TC f=Z fn->(fn.name== "runtime.NumGoroutine")=J
 IK:∀f c,E.IK f=Z c->alV E.P f c
section
variable {g:Gh}{w:World}
end
end
section
section
variable {g:Gh}{w:World}
variable {s s':St}{t:T}{fr:Fr}{a:Act}
def RK{i:TI}{x y:T}{p:Prop}(h:ur i s x y=Z (p,t,s')):s'.fl=s.fl∧s'.lo=s.lo∧s.aL<=s'.aL:=by
 obtain⟨_,h⟩|⟨_,h⟩:=ah h
 .cases h
 .split at h
  .split at h
   .obtain ⟨_,_,rfl⟩:=h;exact⟨rfl,rfl,by simp[ey]⟩
   .split at h
    .obtain ⟨_,_,rfl⟩:=h;exact⟨rfl,rfl,by simp[ey]⟩
    simp_all
   .grind
   .cases h
  .cases h
theorem xd{P:Program}{f:FuncId}(h:lN P f)(args:Array Value):(callFunc f args).run P w=.ok (.enter f args) w:=by
 let ⟨fn,h1,h2,h3⟩:=h
 have h4:fn.body≠Y:=by
  grind
 simp_all[callFunc]
theorem z8{P:Program}{o:Oper}{c:Call}(d:o.op=.call c){b:Operand}(e:c.callee=.value b){a:Act}{f:FuncId}{first cap:Array Value}(g:a.eval b=.func (.func f) first cap)(h:lN P f) :
  (execOp a.eval o).run P w=.ok (.enter f (first++c.args.map a.eval++cap)) w:=by
 grind[execOp,resolve,Deferred.ofValue,invoke,xd]
def VS(hf:cL g fr a w){dst:O Nat}(f:aiM fr dst=W)(hn:fr.n<=bC){v:Value}(h:aP g w t v):cL g (fr.iQ dst t) (a.put dst v) w:=by
 cases dst with
 |none=>exact hf|some d=>
  have c:d<fr.n:=g9 f;refine⟨by simp[Act.put,Fr.iQ,Fr.put,hf.size],hf.df,λk i b=>?_⟩;simp[Fr.iQ,Fr.put,Fr.get]at b;rw[Tr.bn _ _ _ _ (iP c hn)]at b;by_cases e:k=d
  .subst e;rw[cn rfl]at b;simp at b;subst b;exact⟨v,by simp[Act.put,hf.size,c],h⟩
  .rw[bJ e]at b
   let ⟨u,j,l⟩:=hf.tm k i b
   grind[Act.put]
structure Aft(s:St)(g:Gh)(w:World)(s':St)(g':Gh)(w':World):Prop where
 rel:bq g' s' w'
 ext:Ext s.fl g w g' w'
 fl:s'.fl=s.fl
 lo:s'.lo=s.lo
 aL:s.aL<=s'.aL
theorem Aft.refl{s:St}(h:bq g s w):Aft s g w s g w:=⟨h,Ext.refl _ _ _,rfl,rfl,cu _⟩
def yx{E:Env}(l:PF E)(hf:cL g fr a w)(hs:bq g s w){o:Oper}{c:Call}(C:o.op=.call c){b:Builtin}(hb:c.callee=.builtin b){args:L T}
  (d:ye fr c.args.toList=Z args) {p:Prop} {t:T} (h:fH E s b c.argTypes args=Z (p,t,s')) (z:p) {k:T->St->Prop} (A:k t s')
  {K:Act->World->Prop} {Q:Exit->Act->World->Prop} (B:∀t s' g' v w',k t s'->Aft s g w s' g' w'->aP g' w' t v->K (a.put o.dst v) w') :
  o.wp E.P a w K Q∨(o.asks E.P a w∧LetsOut Q):=by
 have e:=fQ hf d;cases b with
 |len=>
  left
  match args,d,e,h with
  |[x],d,e,h=>
   have F:c.args.size=1:=by have:=e.1;grind
   obtain⟨arr,j⟩:∃u,c.args=#[u]:=⟨c.args[0],by
    grind⟩
   have m:aP g w x (a.eval arr):=e.2 0 _ _ rfl (by simp[j]);obtain⟨v,hv,I,rfl⟩:=JC (rt:=o.type) hs l.ti h z m;unfold Oper.wp;have f:(execOp a.eval o).run E.P w=.ok (.value v) w:=by
    simp_all[execOp,resolve,invoke,builtin]
   rw[f];exact B t s' g v w A (Aft.refl hs) I
  |[],_,_,h=>simp[fH]at h|_::_::_,_,_,h=>simp[fH]at h
 |append=>
  match args,d,e,h with
  |[x,y],d,e,h=>
   have F:c.args.size=2:=by have:=e.1;grind
   obtain⟨u,v,j⟩:∃u v,c.args=#[u,v]:=⟨c.args[0],c.args[1],by
    grind⟩
   have m:aP g w x (a.eval u):=e.2 0 _ _ rfl (by simp[j]);have P:aP g w y (a.eval v):=e.2 1 _ _ rfl (by simp[j]);simp[fH]at h;split at h
   .rename_i ty R S;split at h
    .rename_i hi hj;split at h
     .rename_i n;have Gz:c.argTypes=#[ty,R]:=by
       grind
      have q:=yB (rt:=o.type) (l.ti _ _ hi) (l.ti _ _ hj) ⟨_,_,_,_,n⟩ hs h z m P
      let ⟨r,w',f,g',h1,h2,h3⟩:=q
      left
      unfold Oper.wp;have i:(execOp a.eval o).run E.P w=.ok (.value r) w':=by
       simp_all[execOp,resolve,invoke,builtin]
      rw[i]
      let ⟨e1,e2,e3⟩:=RK h
      exact B t s' g' r w' A ⟨h1,h2,e1,e2,e3⟩ h3
     .cases h
    .cases h
   .cases h
  |[],_,_,h=>simp[fH]at h|[_],_,_,h=>simp[fH]at h|_::_::_::_,_,_,h=>simp[fH]at h
 |_=>simp[fH]at h
end
end
section
section
variable {g:Gh}{w:World}
def Yu{E:Env}(j:PF E){fr:Fr}{s s':St}{a:Act}(hf:cL g fr a w)(hs:bq g s w){o:Oper}{c:Call}(e:o.op=.call c)(k:c.callee=.builtin .len){args:L T}
  (b:ye fr c.args.toList=Z args) {p:Prop} {t:T} (h:fH E s .len c.argTypes args=Z (p,t,s')) (l:p) :
  s'=s∧∃v,(execOp a.eval o).run E.P w=.ok (.value v) w∧aP g w t v:=by
 have d:=fQ hf b
 match args,b,d,h with
 |[x],b,d,h=>
  have m:c.args.size=1:=by have:=d.1;simpa using this.symm
  obtain⟨arr,f⟩:∃u,c.args=#[u]:=⟨c.args[0],by
   apply Array.ext
   .simp[m]
   .intro i h1 h2;have:i=0:=by omega
    subst this;rfl⟩
  have n:aP g w x (a.eval arr):=d.2 0 _ _ rfl (by simp[f]);obtain⟨v,q,r,rfl⟩:=JC (rt:=o.type) hs j.ti h l n;exact⟨rfl,v,by simp[execOp,e,resolve,k,invoke,builtin,f,q],r⟩
 |[],_,_,h=>simp[fH]at h|_::_::_,_,_,h=>simp[fH]at h
end
end
section
abbrev WR(r:O Nat):Fence:={Fence.wide with round:=r}
section
variable {P:Program}{r:Option Nat}
def iX{m a:Machine}:StepsIn (Machine.fenced P (WR r)) P m a↔Steps P m a:=stepsIn_wide
variable {n id:Nat}{f:FuncId}{args tmps:Array Value}{R:Ending->World->Prop}{next:Act->World->Prop}{Q:Exit->Act->World->Prop}{fn:Func}
def Rz{w:World}:CallsIn (WR r) n P f args w R↔Calls P f args w R:=
 (callsIn_wide (n:=n):CallsIn Fence.wide n P f args w R↔_)
def M7(n:Nat):(WR r).room n:=room_wide n
def aiB{row:String}{w:World}{R:Value->World->Prop}(h:Rows P row args w R):RowsIn (WR r) n P row args w R:=
 λc cs _=>let ⟨v,a,b,d⟩:=h c cs;⟨v,a,b,iX.2 d⟩
def OpR(r:O Nat)(P:Program)(o:Oper)(a:Act)(w:World)(next:Act->World->Prop)(Q:Exit->Act->World->Prop):Prop:=
 o.uponIn (WR r) 0 P a next Q ((o.semAt r a.eval).run P w)∨(o.asks P a w∧(r≠Y->∀c,o.op≠.defer c)∧LetsOut Q)
def OpR.of_wp{o:Oper}{a:Act}{w:World}(e:r≠Y->∀c,o.op≠.defer c)(h:o.wp P a w next Q∨(o.asks P a w∧LetsOut Q)):OpR r P o a w next Q:=by
 obtain h|⟨h1,h2⟩:=h
 .left
  have b:o.semAt r a.eval=execOp a.eval o:=by cases r with|none=>rfl|some l=>grind[Oper.semAt_eq]
  rw[b];unfold Oper.wp at h;generalize(execOp a.eval o).run P w=res at h;cases res with
  |ok x g=>cases x with|enter f args=>exact⟨λh=>by simp[Fence.wide]at h,Rz.2 h⟩|row row args=>exact⟨λh=>by simp[Fence.wide]at h,aiB h⟩|value v=>exact h|skip=>exact h|defer d=>exact h|_=>exact h.elim
  |halt x g=>cases x<;>exact h
 .exact .inr ⟨h1,e,h2⟩
theorem OpR.mono{o:Oper}{a:Act}{w:World}{next b:Act->World->Prop}{Q:Exit->Act->World->Prop}(hn:∀a w,next a w->b a w)(h:OpR r P o a w next Q):OpR r P o a w b Q:=by
 obtain h|h:=h
 .left
  generalize(o.semAt r a.eval).run P w=res at h;cases res with
  |ok x j=>cases x with|enter f args=>exact⟨h.1,h.2.mono λe g c=>by cases e<;>first|exact hn _ _ c|exact c⟩|row row args=>exact⟨h.1,h.2.mono λ_ _ c=>hn _ _ c⟩|round l f tmps assign i=>exact⟨h.1,h.2.mono λe g c=>by cases e<;>first|exact hn _ _ c|exact c⟩|value v=>exact hn _ _ h|skip=>exact hn _ _ h|defer d=>exact hn _ _ h|_=>exact h
  |halt x j=>cases x<;>exact h
 .exact .inr h
abbrev ad5(r:O Nat)(P:Program):=ArrivesIn (Machine.fenced P (WR r)) P
section
variable {b:Frame}{a:Act}{k:List Item}{cs:List Frame}{w:World}{ops:Array Oper}{i:Nat}{rest:List Nat}{o:Oper}
def U4(m:b.roundOf=r)(z:r≠Y->∀c,o.op≠.defer c)(q:ops[i]?=Z o)(s:Region.wanted o (yielded ops a.tmps)=W)(t:b.kind≠.early)(h:o.asks P a w) :
  Outgrown P (lone (b.atR a (.inRegion ops (i::rest)::k)) cs w):=by
 have p:o.semAt b.roundOf a.eval=execOp a.eval o:=by rw[m];cases r with|none=>rfl|some l=>grind[Oper.semAt_eq]
 have u:=stepGR_op (P:=P) (b:=b) (k:=k) (cs:=cs) (w:=w) (rest:=rest) q s;have n:noRoomEvent∈(stepG P W {frame:=b.atR a (.inRegion ops (i::rest)::k),callers:=cs,status:=.running,dying:=Y} w).es:=by
  rw[u];have v:((b.atR a (.inRegion ops (i::rest)::k)).kind==CallKind.early)=J:=by simpa[Frame.atR]using t
  have A:noRoomEvent∈Sem.events P (execOp a.eval o) w #[]:=h.1;simp only[stepG.apply,Sem.runT_eq,ku,v,Bool.false_eq_true,ij];rw[GStep.es_after];refine Array.mem_append.2 (.inl (seen_keeps P _ _ ?_));have x:=h.2
  grind
 refine Outgrown.now (o:={g:=0,fn:=(b.atR a (.inRegion ops (i::rest)::k)).fn,pos:=(b.atR a (.inRegion ops (i::rest)::k)).place,act:=.mark .noRoom}) ?_ rfl rfl;refine runT_lists P _ 0 {frame:=b.atR a (.inRegion ops (i::rest)::k),callers:=cs,status:=.running,dying:=Y} (by simp[lone]) _ ?_;exact mem_ofEvents (e:=noRoomEvent) (by simpa[lone]using n)
def X3(y:b.roundOf=r)(C:ops[i]?=Z o)(K:Region.wanted o (yielded ops a.tmps)=W)(h:OpR r P o a w next Q) :
  (∃a' w',next a' w'∧Steps P (lone (b.atR a (.inRegion ops (i::rest)::k)) cs w) (lone (b.atR a' (.inRegion ops rest::k)) cs w'))∨
  ∃e a' w',Q e a' w'∧ad5 r P (lone (b.atR a (.inRegion ops (i::rest)::k)) cs w) b k cs e a' w':=by
 obtain h|⟨h1,h2,s,t,u⟩:=h
 rotate_left
 .by_cases R:b.kind=.early
  .exact .inr ⟨.outgrown,s,t,u,.inl R⟩
  .exact .inr ⟨.outgrown,s,t,u,.inr (U4 y h2 C K R h1)⟩
 have S:=stepGR_op (P:=P) (b:=b) (k:=k) (cs:=cs) (w:=w) (rest:=rest) C K;rw[y]at S;have q:∀v,(b.atR a (.inRegion ops (i::rest)::k)).finish v=b.atR (a.put o.dst v) (.inRegion ops rest::k):=λv=>by rw[Frame.finish_atR,C];rfl
 generalize z:(o.semAt r a.eval).run P w=res at h;have enter:∀{fr:Frame}{w1:World},(stepG P W {frame:=b.atR a (.inRegion ops (i::rest)::k),callers:=cs,status:=.running,dying:=Y} w).bare=.go {frame:=fr,callers:=b.atR a (.inRegion ops (i::rest)::k)::cs,status:=.running,dying:=Y} w1->
   step P (lone (b.atR a (.inRegion ops (i::rest)::k)) cs w)=.next (lone fr (b.atR a (.inRegion ops (i::rest)::k)::cs) w1):=λh=>step_lone_go h
 cases res with
 |ok x w1=>cases x with
  |value v=>exact .inl ⟨_,_,h,.one (step_lone_go (by simp_all[stepG.apply]))⟩
  |skip=>exact .inl ⟨_,_,h,.one (step_lone_go (by simp_all[stepG.apply]))⟩
  |defer d=>have A:=Frame.finish_atR b {a with defers:=d::a.defers} ops i rest k undef;rw[C]at A;refine .inl ⟨_,_,h,.one (step_lone_go ?_)⟩;rw[S];simp only[stepG.apply,Sem.runT_eq,z,GStep.bare_after];exact pU (λfr=>GStep.go {frame:=fr,callers:=cs,status:=.running,dying:=Y} w1) A
  |enter f args=>
   let ⟨e,F,fr,n,c,_,p⟩:=Rz.1 h.2 (b.atR a (.inRegion ops (i::rest)::k)::cs)
   have h1:=enter (fr:=Frame.enter P f args .normal) (w1:=w1) (by simp_all[stepG.apply,Frame.atR]);cases e with
   |returned v=>exact .inl ⟨_,_,n,.head h1 (c.trans (.one (by grind[step_leave_returned])))⟩
   |panicked I=>exact .inr ⟨.panic I,a,F,n,.inRegion ops (i::rest)::k,iX.2 (.head h1 (c.trans (.one (by exact step_leave_panicked p))))⟩
   |outgrown=>
    let ⟨s,t,u⟩:=n
    exact .inr ⟨.outgrown,s,t,u,.inr (Outgrown.of_steps (.one h1) c)⟩
  |row row args=>
   let ⟨v,F,n,c⟩:=h.2 (b.atR a (.inRegion ops (i::rest)::k)) cs (M7 _)
   have h1:=enter (fr:=Frame.ofRow P row args .normal) (w1:=w1) (by simp_all[stepG.apply,Frame.atR]);exact .inl ⟨_,_,n,.head h1 (by rw[<-q];exact iX.1 c)⟩
  |round l f tmps assign B=>
   let ⟨e,F,n,c⟩:=h.2.2 (b.atR a (.inRegion ops (i::rest)::k)) cs (M7 _)
   have h1:=enter (fr:=Frame.round l f tmps assign B .normal) (w1:=w1) (by simp_all[stepG.apply]);cases e with
   |returned v=>exact .inl ⟨_,_,n,.head h1 (by rw[<-q];exact iX.1 c)⟩
   |panicked I=>exact .inr ⟨.panic I,a,F,n,.inRegion ops (i::rest)::k,iX.2 (.head h1 (by exact iX.1 c))⟩
   |outgrown=>
    let ⟨s,t,u⟩:=n
    exact .inr ⟨.outgrown,s,t,u,.inr (Outgrown.of_steps (.one h1) c)⟩
  |_=>exact h.elim
 |halt x w1=>cases x with
  |panic v=>
   refine .inr ⟨_,a,w1,h,.inRegion ops (i::rest)::k,iX.2 (.one (step_lone_go ?_))⟩
   simp_all[Frame.raise_atR,stepG.apply]
  |_=>exact h.elim
end
def wK(r:O Nat)(P:Program)(ops:Array Oper)(Q:Exit->Act->World->Prop):L Nat->Act->World->Prop
 |[],a,w=>Q .normal a w|i::rest,a,w=>match ops[i]? with
  |none=>wK r P ops Q rest a w|some o=>if Region.wanted o (yielded ops a.tmps)then OpR r P o a w (wK r P ops Q rest) Q else wK r P ops Q rest (a.put o.dst undef) w
def m9{ops:Array Oper}{Q:Exit->Act->World->Prop}:∀(l:L Nat)(a:Act)(w:World),wK r P ops Q l a w->∀(b:Frame)(k:L Item)(cs:L Frame),b.roundOf=r->
  ∃e a' w',Q e a' w'∧ad5 r P (lone (b.atR a (.inRegion ops l::k)) cs w) b k cs e a' w'
 |[],a,w,h,b,k,cs,_=>⟨.normal,a,w,h,iX.2 (.one stepR_region_end)⟩|i::rest,a,w,h,b,k,cs,d=>by
  simp[wK]at h;cases g:ops[i]? with
  |none=>
   simp[g]at h
   let ⟨e,a',w',j,c⟩:=m9 rest a w h b k cs d
   have f:=stepR_op_skip (P:=P) (b:=b) (a:=a) (k:=k) (cs:=cs) (w:=w) (ops:=ops) (i:=i) (rest:=rest) (by simp[g]);simp[g,Option.bind_none,Act.put]at f;exact⟨e,a',w',j,.of_steps (iX.2 (.one f)) c⟩
  |some o=>
   simp[g]at h;by_cases m:Region.wanted o (yielded ops a.tmps)=W
   .simp[m,ku]at h;obtain⟨a1,n,p,f⟩|q:=X3 (k:=k) (cs:=cs) (rest:=rest) d g m h
    .let ⟨e,a',w',j,c⟩:=m9 rest a1 n p b k cs d
     exact⟨e,a',w',j,.of_steps (iX.2 f) c⟩
    .exact q
   .simp[m,ij,Bool.false_eq_true]at h
    let ⟨e,a',w',j,c⟩:=m9 rest _ w h b k cs d
    have f:=stepR_op_skip (P:=P) (b:=b) (a:=a) (k:=k) (cs:=cs) (w:=w) (ops:=ops) (i:=i) (rest:=rest) (by simp_all);simp[g,SX]at f;exact⟨e,a',w',j,.of_steps (iX.2 (.one f)) c⟩
def Xi{ops:Array Oper}{a:Act}{w:World}(h:wK r P ops Q (List.range ops.size) a w):(Code.region id ops J).wpIn (WR r) 0 P Q a w:=
 λb k cs d _ _=>let ⟨e,f,g,i,c⟩:=m9 _ a w h b k cs d;⟨e,f,g,i,.of_steps (iX.2 (.one stepR_region)) c⟩
def Ct(r:O Nat)(P:Program)(ops:Array Oper)(Q:Exit->Act->World->Prop)(i:Nat)(K:Act->World->Prop)(a:Act)(w:World):Prop:=
 match ops[i]? with
 |none=>K a w|some o=>if Region.wanted o (yielded ops a.tmps)then OpR r P o a w K Q else K (a.put o.dst undef) w
theorem Ct.mono{ops:Array Oper}{Q:Exit->Act->World->Prop}{i:Nat}{a:Act}{w:World}{K c:Act->World->Prop}(h:∀a w,K a w->c a w)(b:Ct r P ops Q i K a w):Ct r P ops Q i c a w:=by
 unfold Ct at *
 split
 .simp_all
 .rename_i d;simp[d]at b;split
  .rename_i e;simp[e,ku]at b;exact b.mono h
  simp_all
def ad6(r:O Nat)(P:Program)(ops:Array Oper)(Q:Exit->Act->World->Prop):Nat->Array Bool->Act->World->Prop
 |0,b,a,w=>Region.ready .any ops b=[]∧Q .normal a w|fuel+1,b,a,w=>(Region.ready .any ops b=[]->Q .normal a w)∧
  ∀i∈Region.ready .any ops b,Ct r P ops Q i (ad6 r P ops Q fuel (b.setIfInBounds i W)) a w
def U5{ops:Array Oper}(i:Nat)(rest:L Nat)(a:Act)(w:World):wK r P ops Q (i::rest) a w=Ct r P ops Q i (wK r P ops Q rest) a w:=by cases h:ops[i]?<;>simp[wK,Ct,h]
def HJ{ops:Array Oper}{Q:Exit->Act->World->Prop}:∀(fuel t:Nat)(b:Array Bool)(a:Act)(w:World),ad6 r P ops Q fuel b a w->wK r P ops Q (Region.linearise.go .any ops fuel t b []) a w
 |0,t,b,a,w,h=>by simpa[Region.linearise.go,wK]using h.2
 |fuel+1,t,b,a,w,h=>by
  let ⟨e,f⟩:=h
  change wK r P ops Q (match(Region.ready .any ops b)[t%(Region.ready .any ops b).length]? with
   |some i=>Region.linearise.go .any ops fuel (t/(Region.ready .any ops b).length) (b.setIfInBounds i W) [i]|none=>[].reverse) a w
  generalize Region.ready .any ops b=l at *
  cases l with|nil=>simpa[wK]using e rfl|cons x d=>have c:t%(x::d).length<(x::d).length:=Nat.mod_lt _ (by simp);rw[iZ c];dsimp only;rw[linearise_go_acc,List.reverse_singleton,List.singleton_append,U5];exact(f _ (IA c)).mono λa w=>HJ fuel _ _ a w
def M8{ops:Array Oper}{a:Act}{w:World}(f:P.follows .mixedOrders=W)
  (h:ad6 r P ops Q ops.size (Array.replicate ops.size J) a {w with drawn:=w.drawn+1}):(Code.region id ops W).wpIn (WR r) 0 P Q a w:=by
 intro b k cs d _ _;have h2:∀t,wK r P ops Q (Region.schedule (P.follows .mixedOrders) ops t) a {w with drawn:=w.drawn+1}:=λt=>by simp only[Region.schedule,f,Bool.true_or,ku];exact HJ ops.size t _ a _ h
 obtain⟨e,g,i,j,c⟩:=m9 _ a _ (h2 _) b k cs d;exact⟨e,g,i,j,.of_steps (iX.2 (.one stepR_region_draw)) c⟩
def Xf(P:Program)(l:Nat)(R:Ending->World->Prop):Exit->Act->World->Prop
 |.normal,_,w=>∃v a,(Instr.endRound l Y).run P w=.ok v a∧R (.returned v) a|.outgrown,_,w=>R .outgrown w|_,_,_=>False
def afq{l:Nat}{assign d:Code}{w:World}
  (h:assign.wpIn (WR (Z l)) 0 P (Exit.then (λq t=>∃s,(Instr.beginRound l).run P t=.ok () s∧d.wpIn (WR (Z l)) 0 P (Xf P l R) q s) (λe _ w=>e=.outgrown∧R .outgrown w)) {tmps:=tmps,defers:=[]} w) {n:Nat} :
  RoundIn (WR r) n P l f tmps assign d w R:=by
 refine⟨trivial,λc cs _=>?_⟩
 let b:Frame:={(default:Frame)with fn:=f,kind:=.normal,roundOf:=Z l}
 have A:Frame.round l f tmps assign d .normal=b.atR {tmps:=tmps,defers:=[]} [.code assign,.beginRound,.code d]:=by rfl
 let ⟨e,q,t,y,g⟩:=h b [.beginRound,.code d] (c::cs) rfl trivial (M7 _)
 have out:∀{e:Exit}{a:Act}{j:World},(e=.outgrown∧R .outgrown j)->ad5 (Z l) P (lone (Frame.round l f tmps assign d .normal) (c::cs) w) b [.beginRound,.code d] (c::cs) e a j->
   ∃e j,R e j∧ComesIn (Machine.fenced P (WR r)) P (lone (Frame.round l f tmps assign d .normal) (c::cs) w) (match e with|.returned v=>lone (c.finish v) cs j|.panicked chain=>lone (c.raise chain) cs j|.outgrown=>lone c cs j) e:=by
  rintro e a j ⟨rfl,u⟩ g
  exact⟨.outgrown,j,u,g.resolve_left (by simp)⟩
 cases e with
 |normal=>
  let ⟨s,x,k⟩:=y
  have z:Steps P (lone (b.atR q [.beginRound,.code d]) (c::cs) t) (lone (b.atR q [.code d]) (c::cs) s):=.one (stepR_beginRound rfl x)
  let ⟨B,F,C,m,i⟩:=k b [] (c::cs) rfl trivial (M7 _)
  cases B with
  |normal=>
   let ⟨v,E,p,u⟩:=m
   exact⟨.returned v,E,u,iX.2 ((iX.1 g).trans (z.trans ((iX.1 i).trans (.one (stepR_round_end rfl rfl p)))))⟩
  |outgrown=>exact⟨.outgrown,C,m,Outgrown.of_steps ((iX.1 g).trans z) (i.resolve_left (by simp))⟩
  |_=>exact m.elim
 |_=>exact out y g
def mO(P:Program)(fn:Func)(tmps:Array Value)(R:Ending->World->Prop):L Deferred->FrameMode->World->Prop
 |[],.returning,w=>∃v,(results fn tmps).run P w=.ok v w∧R (.returned v) w|[],.panicking chain,w=>R (.panicked chain) w|[],.run,_=>False|d::ds,u,w=>u≠.run∧((∃b a,d.target=.collected b∧(Instr.takeDeferred b).run P w=.ok [] a∧mO P fn tmps R ds u a)∨
   ∃e cap f args,d.target=.fn e cap∧(invoke d.target d.args).run P w=.ok (.enter f args) w∧CallsD P f args u w λ
    |.returned _,c,a=>mO P fn tmps R ds (settle c) a|.panicked chain,c,a=>mO P fn tmps R ds (raised c chain) a|.outgrown,_,a=>R .outgrown a)
def rN:∀(ds:L Deferred)(u:FrameMode)(w:World)(fr:Frame)(cs:L Frame),fr.mode=u->fr.defers=ds->fr.tmps=tmps->P.funcs[fr.fn]?=Z fn->fr.kind=.normal->mO P fn tmps R ds u w->
  ∃e w' fr',R e w'∧Comes P (lone fr cs w) (lone fr' cs w') e∧fr'.fn=fr.fn∧fr'.leaving P w' e:=by
 intro ds
 induction ds with
 |nil=>
  intro u w fr cs l x y t z h;cases u with
  |run=>exact h.elim|returning=>
   let ⟨v,S,m⟩:=h
   exact⟨.returned v,w,fr,m,Steps.refl P _,rfl,l,x,z,fn,t,y▸S⟩
  |panicking chain=>exact⟨.panicked chain,w,fr,h,Steps.refl P _,rfl,l,x,fn,t⟩
 |cons d ds F=>
  intro u w fr cs l x y t z h
  let ⟨j,h⟩:=h
  obtain⟨b,w',g,n,o⟩|⟨fv,cap,f,args,g,A,p⟩:=h
  .have h1:=step_collected (cs:=cs) (l▸j) x g n
   let ⟨B,C,fr',m,hs,I,hl⟩:=F u w' {fr with defers:=[]++ds} cs l rfl y t z o
   exact⟨B,C,fr',m,Comes.of_steps (.one h1) hs,I,hl⟩
  .have h1:=step_defer (cs:=cs) (l▸j) x g A
   let ⟨e,k,w',frX,m,a,K,E⟩:=p {fr with defers:=ds} cs l
   cases e with
   |returned v=>
    have h2:=step_going_returned (c:={{fr with defers:=ds}with mode:=k}) (cs:=cs) K E
    let ⟨B,C,fr',q,r,i,s⟩:=F (settle k) w' {{{fr with defers:=ds}with mode:=k}with mode:=settle k} cs rfl rfl y t z m
    exact⟨B,C,fr',q,Comes.of_steps (.head h1 (Steps.trans a (.one h2))) r,i,s⟩
   |panicked chain=>
    have h2:=step_going_panicked (c:={{fr with defers:=ds}with mode:=k}) (cs:=cs) E
    let ⟨B,C,fr',q,r,i,s⟩:=F (raised k chain) w' {{{fr with defers:=ds}with mode:=k}with mode:=raised k chain} cs rfl rfl y t z m
    exact⟨B,C,fr',q,Comes.of_steps (.head h1 (Steps.trans a (.one h2))) r,i,s⟩
   |outgrown=>exact⟨.outgrown,w',fr,m,Outgrown.of_steps (.one h1) a,rfl,trivial⟩
def aeI(P:Program)(fn:Func)(R:Ending->World->Prop):Exit->Act->World->Prop
 |.normal,a,w|.ret,a,w=>mO P fn a.tmps R a.defers .returning w|.panic chain,a,w=>mO P fn a.tmps R a.defers (.panicking chain) w|.outgrown,_,w=>R .outgrown w|_,_,_=>False
def rV{c:Code}{w:World}(hf:P.funcs[f]?=Z fn)(v:fn.body=Z c)
  (h:c.wpIn (WR Y) 0 P (aeI P fn R) {tmps:=args++Array.replicate (fn.ntmps-args.size) undef,defers:=[]} w):Calls P f args w R:=by
 intro cs
 let b:Frame:={(default:Frame)with fn:=f,kind:=.normal}
 have j:Frame.enter P f args .normal=b.at {tmps:=args++Array.replicate (fn.ntmps-args.size) undef,defers:=[]} [.code c]:=by simp[Frame.enter,Frame.at,hf,v,b]
 let ⟨e,n,u,o,a⟩:=wpIn_wide.1 h b [] cs
 rw[<-j]at a;cases e with
 |normal=>
  let ⟨p,q,d,r,s,g,t⟩:=rN n.defers .returning u {b.at n []with mode:=.returning} cs rfl rfl rfl hf rfl o
  exact⟨p,q,d,r,Comes.of_steps (Steps.trans a (.one step_end)) s,g,t⟩
 |ret=>
  let ⟨i,m⟩:=a
  let ⟨p,q,d,r,s,g,t⟩:=rN n.defers .returning u {b.at n i with mode:=.returning} cs rfl rfl rfl hf rfl o
  exact⟨p,q,d,r,Comes.of_steps m s,g,t⟩
 |panic chain=>
  let ⟨i,m⟩:=a
  let ⟨p,q,d,r,s,g,t⟩:=rN n.defers (.panicking chain) u {b.at n i with mode:=.panicking chain} cs rfl rfl rfl hf rfl o
  exact⟨p,q,d,r,Comes.of_steps m s,g,t⟩
 |exit id=>exact o.elim|goto l=>exact o.elim|outgrown=>exact⟨.outgrown,u,b,o,a.resolve_left (by simp),rfl,trivial⟩
end
end
section
section
variable {g:Gh}{w:World}
variable {s:St}{E:Env}{fr:Fr}{a:Act}
def QT{i:TI}{x:T}{vx:Value}{r:Prop×T×St}(h:loadT i s x=Z r)(a:aP g w x vx):∃ad,vx=.pointer (Z ad):=by cases a with|ptr o off b c=>grind|nJ=>grind|lG=>grind|_=>simp[loadT]at h
def abI(tmps:Array Value):ResultVar->Sem Value
 |.tmp t=>pure (tmps.getD t undef)|.cell a t=>do loadVar t (<-asAddr (tmps.getD a undef))
def pS{E:Env}(c:Bg E){fr:Fr}{s:St}{a:Act}(hf:cL g fr a w)(hs:bq g s w):∀{l:L ResultVar}{p:Prop}{ts:L T},mu E s fr l=Z (p,ts)->p->
  ∃vs,(l.mapM (abI a.tmps)).run E.P w=.ok vs w∧PW (aP g w) ts vs
 |[],p,ts,h,b=>by obtain⟨_,rfl⟩:=h;exact⟨[],rfl,rfl,λj t v h=>by simp at h⟩
 |.tmp t::l,p,ts,h,b=>by
  simp[mu]at h;split at h
  .rename_i x q r d e;obtain⟨rfl,rfl⟩:=h
   let ⟨vs,h1,h2⟩:=pS c hf hs e b
   let ⟨v,y,f⟩:=hf.tm t x d
   refine⟨v::vs,?_,by simp[h2.1],λj i k m n=>?_⟩
   .simp_all[abI]
   .cases j with|zero=>simp_all|succ j=>exact h2.2 j i k (by simpa using m) (by simpa using n)
  .cases h
 |.cell z t::l,p,ts,h,b=>by
  simp[mu]at h;split at h
  .rename_i x A d;split at h
   .rename_i o e;obtain⟨rfl,rfl⟩:=h
    let ⟨vs,h1,h2⟩:=pS c hf hs e b.2
    let ⟨v,y,f⟩:=hf.tm z x d
    let ⟨u,I,B,_⟩:=Di (c.ti _ _ A) hs f o b.1
    obtain⟨C,rfl⟩:=QT o f;have F:(loadVar t C).run E.P w=.ok u w:=by grind[Instr.loadAt,Instr.sureAddr]
    refine⟨u::vs,?_,by simp[h2.1],λj i k m n=>?_⟩
    .simp_all[abI,asAddr]
    .cases j with|zero=>simp_all|succ j=>exact h2.2 j i k (by simpa using m) (by simpa using n)
   .cases h
  .cases h
def M3(c:Bg E)(hf:cL g fr a w)(hs:bq g s w){fn:Func}{p:Prop}{ts:L T}(h:mu E s fr fn.results.toList=Z (p,ts))(d:p) :
  ∃v,(results fn a.tmps).run E.P w=.ok v w∧aP g w (afk ts) v:=by
 let ⟨b,h1,h2⟩:=pS c hf hs h d
 refine⟨if h:b.toArray.size=1 then b.toArray[0]else .tuple b.toArray,?_,?_⟩
 .have e:results fn a.tmps=(do
    let b <-fn.results.mapM (abI a.tmps)
    pure (if h:b.size=1 then b[0]else .tuple b)):=by
   rfl
  simp_all[Array.mapM_eq_mapM_toList]
 .match ts,b,h2 with
  |[],[],_=>exact .gM _ _ rfl (λj t v h=>by simp at h)
  |[t],[v],h2=>exact h2.2 0 t v rfl rfl|t::f::ts,v::i::b,h2=>simp only[afk,S2,qH];exact .gM _ _ (by simpa using h2.1) (λj t v h3 h4=>h2.2 j t v h3 (by simpa using h4))
  |[],_::_,h2=>exact absurd h2.1 (by simp)
  |_::_,[],h2=>exact absurd h2.1 (by simp)
  |[_],_::_::_,h2=>exact absurd h2.1 (by simp)
  |_::_::_,[_],h2=>exact absurd h2.1 (by simp)
def Gs:∀(l:L T)(k:Nat)(t:Tr T),k+l.length<=bC->∀j,(BN l k t).get j=if k<=j∧j<k+l.length then l[j-k]? else t.get j
 |[],k,t,_,j=>by
  have:¬(k<=j∧j<k+([]:L T).length):=by simp
  rw[bJ this];rfl
 |a::l,k,t,h,j=>by
  simp at h;simp only[BN];rw[Gs l (k+1) _ (by omega),Tr.bn _ _ _ _ (by omega)]
  grind
end
end
section
inductive Ty where
 |int (k:IntKind)|bool|str|sl (e:Ty)|st (n:Nat)|cT (n:Nat)
 deriving Inhabited
def tc:Ty->Ty->Bool
 |.int j,.int k=>od j k|.bool,.bool=>W|.str,.str=>W|.sl a,.sl b=>tc a b|.st m,.st n=>Nq m n|.cT m,.cT n=>Nq m n|_,_=>J
theorem jN{a:Ty}:∀{b:Ty},tc a b=W->a=b:=by
 induction a with
 |int j=>
  intro b h;cases b with
  |int k=>
   have:j=k:=by cases j<;>cases k<;>first|rfl|cases h
   rw[this]
  |_=>cases h
 |bool=>intro b h;cases b<;>first|rfl|cases h
 |str=>intro b h;cases b<;>first|rfl|cases h
 |sl e c=>
  intro b h;cases b with|sl f=>rw[c h]|_=>cases h
 |st m=>
  intro b h;cases b with|st n=>rw[xI h]|_=>cases h
 |cT m=>
  intro b h;cases b with|cT n=>rw[xI h]|_=>cases h
@[reducible] def den(A:Nat->Type):Ty->Type
 |.int _=>Int|.bool=>Bool|.str=>L UInt8|.sl e=>L (den A e)|.st n=>A n|.cT n=>A n
@[reducible] def mG(A:Nat->Type):L Ty->Type
 |[]=>U|t::l=>den A t×mG A l
@[reducible] def xN(A:Nat->Type):L (TypeId×Ty)->Type
 |[]=>U|p::l=>Sum (den A p.2) (xN A l)
def mU:L (TypeId×Ty)->Nat->Ty
 |[],_=>.bool|p::_,0=>p.2|_::l,i+1=>mU l i
def wG:L (TypeId×Ty)->TypeId->O Nat
 |[],_=>Y|p::l,t=>bif Nq p.1 t then Z 0 else match wG l t with
  |some i=>Z (Ns i)|none=>Y
def YK{A:Nat->Type}:(l:L (TypeId×Ty))->(i:Nat)->den A (mU l i)->xN A l
 |[],_,_=>()|_::_,0,x=>.inl x|_::l,i+1,x=>.inr (YK l i x)
def X8{A:Nat->Type}:(l:L (TypeId×Ty))->xN A l
 |[]=>()|_::l=>.inr (X8 l)
def isNil{A:Nat->Type}:(l:L (TypeId×Ty))->xN A l->Bool
 |[],_=>W|_::_,.inl _=>J|_::l,.inr y=>isNil l y
def jD{A:Nat->Type}:(l:L (TypeId×Ty))->Nat->xN A l->Bool
 |[],_,_=>J|_::_,0,.inl _=>W|_::_,0,.inr _=>J|_::_,_+1,.inl _=>J|_::l,i+1,.inr y=>jD l i y
def j8{A:Nat->Type}(z:(t:Ty)->den A t):(l:L (TypeId×Ty))->(i:Nat)->xN A l->den A (mU l i)
 |[],_,_=>z .bool|_::_,0,.inl x=>x|p::_,0,.inr _=>z p.2|_::l,i+1,.inl _=>z (mU l i)|_::l,i+1,.inr y=>j8 z l i y
structure Sg where
 A:Nat->Type
 fs:Nat->List Ty
 dfl:(n:Nat)->A n
 get:(n:Nat)->A n->mG A (fs n)
 Yh:(n:Nat)->mG A (fs n)->A n
 cells:(n:Nat)->A n->List D
 alts:Nat->List (TypeId×Ty)
 tV:(n:Nat)->A n->xN A (alts n)
 imk:(n:Nat)->xN A (alts n)->A n
 qT:(n:Nat)->A n->Option (TypeId×D)
 pt:Ty
variable {S:Sg}
def Sg.zero(S:Sg):(t:Ty)->den S.A t
 |.int _=>(0:Int)|.bool=>J|.str=>([]:L UInt8)|.sl _=>[]|.st n=>S.dfl n|.cT n=>S.imk n (X8 (S.alts n))
def bY(s:L UInt8):ByteArray:=⟨s.toArray⟩
def ofBytes(b:ByteArray):L UInt8:=b.data.toList
def PM:O (TypeId×D)->D
 |none=>.lit .nilIface|some p=>.cT p.1 p.2
def enc(S:Sg):(t:Ty)->den S.A t->D
 |.int k,n=>.lit (.int k n)|.bool,b=>.lit (.bool b)|.str,s=>.lit (.string (bY s))|.sl e,l=>.sl (l.map (enc S e))|.st n,x=>.agg (S.cells n x)|.cT n,x=>PM (S.qT n x)
def gU(S:Sg):(ts:L Ty)->mG S.A ts->L D
 |[],_=>[]|t::l,x=>enc S t x.1::gU S l x.2
def j4:Ty->Bool|.st _=>W|_=>J
def Sg.width(S:Sg):Ty->Nat|.st n=>cB (S.fs n)|_=>1
inductive V(S:Sg) where
 |ty (t:Ty) (x:den S.A t)|kb (b:Bool)|kn (k:IntKind) (n:Int)|dat (d:D)|ptr (o off:Nat)|nJ (t:Ty) (x:den S.A t) (off:Nat)|lG (o e i off:Nat)|sh (o e:Nat)|emp|kq (n:Nat) (t:Ty) (l:List (den S.A t))|fn (f:Fn) (first cap:List (V S))
 |cT (t:TypeId) (v:V S)|agg (cs:List (V S))|gM (vs:List (V S))|gd (c:Bool) (v:V S)|mp (o:Nat)|rB (o:Nat)|s7 (o:Nat)|ub (e:Bool)|rM (o m r i:Nat)|oY (n j:Nat) (x:S.A n)
inductive r7(S:Sg) where
 |call (f:V S) (args:List (V S))|mark (o:Nat)|marks (o:Nat)|kg|bad
structure bU(S:Sg) where
 n:Nat
 tm:Tr (V S)
 df:List (r7 S):=[]
structure LpV(S:Sg) where
 st:LoopState
 u5:Option Code
 fid:FuncId
 fr:bU S
 params:List Nat
 assign:Code
 body:Code
inductive ux(S:Sg) where
 |box (cs:List (V S))|arr (t:Ty) (l:List (den S.A t)) (era:Nat)|kS (t:Ty) (l:List (den S.A t)) (era:Nat)|map (kt vt:Ty) (l:List (den S.A kt×den S.A vt))|Im (kt:Ty) (l:List (den S.A kt×V S))|qE (b:List UInt8) (pos:Nat)|lp (l:LpV S)|zP|kX (n j:Nat) (l:List (S.A n)) (era m gW:Nat) (hole:Option Nat)|rws (t:Ty) (iO:List (List (den S.A t))) (gW:Nat)|gone|FQ
structure bu(S:Sg) where
 ob:Tr (ux S)
 aL:Nat
 fl:Nat
 lo:Nat
 wr:List Nat
 dr:List Nat
def bU.get(fr:bU S)(k:Nat):O (V S):=fr.tm.get k
def bU.put(fr:bU S)(k:Nat)(v:V S):bU S:={fr with tm:=fr.tm.set aR k v}
def bU.iQ(fr:bU S)(k:O Nat)(v:V S):bU S:=match k with|some k=>fr.put k v|none=>fr
def Au:(ts:L Ty)->mG S.A ts->L (V S)
 |[],_=>[]|t::l,x=>.ty t x.1::Au l x.2
def vQ:(t:Ty)->den S.A t->L (V S)
 |.st n,x=>Au (S.fs n) (S.get n x)|.int k,x=>[.ty (.int k) x]|.bool,x=>[.ty .bool x]|.str,x=>[.ty .str x]|.sl e,x=>[.ty (.sl e) x]|.cT n,x=>[.ty (.cT n) x]
def uh:Value->O (V S)
 |.bool b=>Z (.kb b)|.int k n=>Z (.kn k n)|.slice Y 0 0=>Z .emp|.func f a b=>match a.toList,b.toList with
  |[],[]=>Z (.fn f [] [])|_,_=>Y
 |.iface t v=>(Dd v).map λd=>.dat (.cT t d)|.string b=>Z (.ty .str (ofBytes b))|v=>(Dd v).map .dat
def zeroV:D->V S
 |.lit (.bool b)=>.kb b|.lit (.int k n)=>.kn k n|.lit (.string b)=>.ty .str (ofBytes b)|.sl []=>.emp|d=>.dat d
def Yx:V S->Bool
 |.ty t _=>!(j4 t)|.dat d=>d.leaf|.agg _|.gM _|.gd _ _=>J|_=>W
def BK:L (V S)->Bool
 |[]=>W|v::l=>Yx v&&BK l
def wm(i:TI):V S->O (L (V S))
 |.agg a=>bif i.agg&&Nq (cB a) i.size then Z a else Y|.ty (.st n) x=>bif i.agg&&Nq (cB (S.fs n)) i.size then Z (Au (S.fs n) (S.get n x))else Y|.dat d=>bif i.agg then Y else bif Nq i.size 1&&d.leaf then Z [.dat d]else Y|.gM _|.gd _ _=>Y|v=>bif i.agg then Y else bif Nq i.size 1 then Z [v]else Y
def CY(agg:Bool)(cs:L (V S)):O (V S):=
 bif agg then Z (.agg cs)else match cs with
  |[x]=>Z x|_=>Y
def cA(fr:bU S):Operand->O (V S)
 |.tmp k=>fr.get k|.const v=>uh v|.global _=>Y|.func f=>Z (.fn (.func f) [] [])
def kK(fr:bU S):L Operand->O (L (V S))
 |[]=>Z []|x::l=>match cA fr x,kK fr l with
  |some t,Z r=>Z (t::r)|_,_=>Y
def gf(k:IntKind):V S->O Int
 |.kn j n=>bif od j k then Z n else Y|.ty (.int j) x=>bif od j k then Z x else Y|_=>Y
def gK:V S->O Bool
 |.kb b=>Z b|.ty .bool x=>Z x|_=>Y
def vA:V S->O (L UInt8)
 |.ty .str x=>Z x|_=>Y
def wq(t u:Ty)(x:den S.A t):O (den S.A u):=
 if h:tc t u=W then Z (jN h▸x)else Y
def n3(t u:Ty)(x:L (den S.A t)):O (L (den S.A u)):=
 if h:tc t u=W then Z (jN h▸x)else Y
def u9:(ts:L Ty)->mG S.A ts->Nat->(t:Ty)->den S.A t->mG S.A ts
 |[],h,_,_,_=>h| τ::_,h,0,t,y=>(match wq t τ y with|some z=>z|none=>h.1,h.2)
 |_::ts,h,j+1,t,y=>(h.1,u9 ts h.2 j t y)
def dm:(ts:L Ty)->mG S.A ts->Nat->(t:Ty)->den S.A t
 |[],_,_,t=>S.zero t| τ::_,h,0,t=>match wq τ t h.1 with|some z=>z|none=>S.zero t
 |_::ts,h,j+1,t=>dm ts h.2 j t
def UC(n j:Nat)(t:Ty)(x:S.A n)(y:L (den S.A t)):S.A n:=S.Yh n (u9 (S.fs n) (S.get n x) j (.sl t) y)
def IJ(n j:Nat)(t:Ty)(x:S.A n):L (den S.A t):=dm (S.fs n) (S.get n x) j (.sl t)
def zn(n j:Nat)(t:Ty)(l:L (S.A n)):L (L (den S.A t)):=l.map (IJ n j t)
def kL(n j:Nat)(t:Ty)(l:L (S.A n))(iO:L (L (den S.A t))):L (S.A n):=List.zipWith (UC n j t) l iO
def DY(S:Sg)(n j:Nat)(t:Ty):Bool:=match nth (S.fs n) j with|some u=>tc u (.sl t)|none=>J
def M0(s:bu S)(m r:Nat):O ((t:Ty)×L (L (den S.A t))):=match s.ob.get m with
 |some (.rws t a b)=>bif Nq r b then Z ⟨t,a⟩else Y|_=>Y
def Ky(s:bu S)(e:Ty):V S->O (L (den S.A e))
 |.emp=>Z []|.kq _ t l=>n3 t e l|.oY n _ x=>n3 (.st n) e [x]|.ty (.sl t) x=>n3 t e x|.sh o r=>match s.ob.get o with
  |some (.arr t l era)|some (.kS t l era)=>bif Nq r era then n3 t e l else Y|_=>Y
 |_=>Y
mutual
def bW(s:bu S):(t:Ty)->V S->O (den S.A t×L Nat)
 |t,.ty u x=>match wq u t x with
  |some y=>Z (y,[])|none=>Y
 |.bool,.kb b=>Z (b,[])|.int k,.kn j n=>bif od j k then Z (n,[])else Y|.sl _,.emp=>Z ([],[])|.sl e,.kq _ t l=>match n3 t e l with
  |some l=>Z (l,[])|none=>Y
 |.sl e,.oY n _ x=>match n3 (.st n) e [x]with
  |some l=>Z (l,[])|none=>Y
 |.sl e,.sh o r=>match s.ob.get o with
  |some (.arr t l era)=>bif Nq r era then match n3 t e l with|some l=>Z (l,[o])|none=>Y else Y
  |some (.kS t l era)=>bif Nq r era then match n3 t e l with|some l=>Z (l,[])|none=>Y else Y
  |some (.kX n j l era m c Y)=>match M0 s m c with
   |some ⟨t,a⟩=>bif Nq r era&&(Nt m bC&&DY S n j t)then match n3 (.st n) e (kL n j t l a)with|some l=>Z (l,[o,m])|none=>Y else Y
   |none=>Y
  |_=>Y
 |.st n,.agg d=>match oC s (S.fs n) d with
  |some (h,os)=>Z (S.Yh n h,os)|none=>Y
 |.cT n,.cT t v=>match wG (S.alts n) t with
  |some i=>match bW s (mU (S.alts n) i) v with
   |some (y,os)=>Z (S.imk n (YK (S.alts n) i y),os)|none=>Y
  |none=>Y
 |.cT n,.dat (.lit .nilIface)=>Z (S.imk n (X8 (S.alts n)),[])|_,_=>Y
def oC(s:bu S):(ts:L Ty)->L (V S)->O (mG S.A ts×L Nat)
 |[],[]=>Z ((),[])|t::ts,v::l=>match bW s t v,oC s ts l with
  |some (x,os),Z (h,a)=>Z ((x,h),os++a)|_,_=>Y
 |_,_=>Y
end
def dX(s:bu S):L Nat->O (bu S)
 |[]=>Z s|o::l=>
  bif Nl s.fl o then match s.ob.get o with
   |some (.arr t a era)=>dX {s with ob:=s.ob.set aR o (.kS t a era),wr:=o::s.wr} l
   |some (.kS _ _ _)=>dX s l|some (.kX n j a era m r Y)=>match M0 s m r with
    |some ⟨t,b⟩=>bif l.contains m&&(Nl s.fl m&&(Nt m bC&&DY S n j t))then dX {s with ob:=(s.ob.set aR m .gone).set aR o (.kS (.st n) (kL n j t a b) era),wr:=o::m::s.wr} l else Y
    |none=>Y
   |some (.rws ..)=>dX s l|some .gone=>dX s l|_=>Y
  else Y
def dc(s:bu S)(o:ux S):bu S:={s with ob:=s.ob.set aR s.aL o,aL:=Ns s.aL}
def gG(a b:L UInt8):Bool:=a==b
def eZ{α:Type}(l:L α)(lo a:Int):L α:=(l.take a.toNat).drop lo.toNat
def ax{α:Type}(l:L α):Int:=l.length
def mo(b:L UInt8)(n:Int):Int:=(b.getD n.toNat 0).toNat
def cX{α:Type}(a b:L α):L α:=a++b
def aC{α:Type}(n:Int)(l:L α):Bool:=decide (0<=n)&&decide (n<l.length)
def cJ{α:Type}(k:Nat)(l:L α):Bool:=decide (k<l.length)
def iJ(lo a len:Int):Bool:=decide (0<=lo)&&(decide (lo<=a)&&decide (a<=len))
def adk(a b:L UInt8):Bool:=decide (a.length+b.length<=4611686018427387904)
def dB{α:Type}(a b:L α):Bool:=decide (a.length+b.length<=17179869184)
def nzI(a:Int):Bool:=decide (a≠0)
def aZ{α:Type}(l:L α)(k:Nat)(z:α):α:=l.getD k z
def eg{α:Type}(l:L α)(k:Nat)(x:α):L α:=l.set k x
def acr{α β:Type}(l:L α)(m:L β):Bool:=decide (l.length=m.length)
def YU{α:Type}(k:Nat)(l:L α)(h i:Nat):Bool:=decide (k<l.length)&&(Nq k h&&Nq i h)
def iT(a b:Int):Bool:=decide (a=b)
def ak(n:Int):Nat:=n.toNat
abbrev ov(S:Sg):=O (Bool×V S×bu S)
def EC:Lk->V S->V S->O Bool
 |.int k,a,b=>match gf k a,gf k b with
  |some x,Z y=>Z (aa x y)|_,_=>Y
 |.bool,a,b=>match gK a,gK b with
  |some x,Z y=>Z (Kn x y)|_,_=>Y
 |.str,a,b=>match vA a,vA b with
  |some x,Z y=>Z (gG x y)|_,_=>Y
 |.no,_,_=>Y
def kF:L Lk->L (V S)->L (V S)->O Bool
 |[],[],[]=>Z W|k::c,a::as,b::d=>match EC k a b,kF c as d with
  |some x,Z y=>Z (bP x y)|_,_=>Y
 |_,_,_=>Y
def ZC:V S->V S->O Bool
 |.dat (.lit (.pointer Y)),.ptr _ _=>Z J|.ptr _ _,.dat (.lit (.pointer Y))=>Z J|_,_=>Y
def ZD:V S->V S->O Bool
 |.dat (.lit .nilIface),.cT _ _=>Z J|.cT _ _,.dat (.lit .nilIface)=>Z J|_,_=>Y
def agX(i:TI)(a b:V S):O Bool:=
 bif i.agg then match i.lks,wm i a,wm i b with
  |[],_,_=>Y|k::c,Z as,Z d=>kF (k::c) as d|_,_,_=>Y
 else match i.kd with
  |.leaf k=>EC k a b|.ptr=>ZC a b|.iface=>ZD a b|_=>Y
def adz(op:BinOp)(k:IntKind)(m n:Int):O (V S):=
 match op with
 |.lss=>Z (.ty .bool (aD m n))|.leq=>Z (.ty .bool (bA m n))|.gtr=>Z (.ty .bool (aD n m))|.geq=>Z (.ty .bool (bA n m))|.add=>Z (.ty (.int k) (aE k m n))|.sub=>Z (.ty (.int k) (bS k m n))|.mul=>Z (.ty (.int k) (Ii k m n))|_=>Y
def adv(op:BinOp)(k:IntKind)(m n:Int):O (V S):=
 match op with
 |.rem=>Z (.ty (.int k) (rA m n))|.quo=>Z (.ty (.int k) (aa2 k m n))|_=>Y
def HA(i:TI)(op:BinOp)(a b:V S):O (Bool×V S):=
 match op with
 |.eql=>(agX i a b).map λr=>(W,.ty .bool r)|.neq=>(agX i a b).map λr=>(W,.ty .bool (aq r))|op=>match i.kd with
  |.leaf (.int k)=>match gf k a,gf k b with
   |some m,Z n=>match adz op k m n with
    |some d=>Z (W,d)|none=>(adv op k m n).map λd=>(nzI n,d)
   |_,_=>Y
  |.leaf .str=>match op,vA a,vA b with
   |.add,Z m,Z n=>Z (adk m n,.ty .str (cX m n))|_,_,_=>Y
  |_=>Y
def LU(s:bu S)(o e:Nat):O ((t:Ty)×L (den S.A t)):=
 match s.ob.get o with
 |some (.arr t l era)=>bif Nq e era then Z ⟨t,l⟩else Y|some (.kS t l era)=>bif Nq e era then Z ⟨t,l⟩else Y|_=>Y
def abx(τ:O Ty)(t:Ty):Bool:=match τ with|some u=>tc u t|none=>J
def S8(i:TI)(τ:O Ty)(t:Ty)(x:den S.A t)(off:Nat):O (V S):=
 bif Nq off 0&&abx τ t then Z (.ty t x)
 else
  bif Nl (Na off i.size) (S.width t)then CY i.agg (((vQ t x).drop off).take i.size)else Y
def ej:V S:=.dat (.lit (.tuple #[]))
def yj(i:TI)(τ:O Ty)(s:bu S):V S->ov S
 |.ptr o off=>match s.ob.get o with
  |some (.box a)=>
   let l:=(a.drop off).take i.size
   bif Nq (cB l) i.size then(CY i.agg l).map λt=>(W,t,s)else Y
  |_=>Y
 |.nJ t x off=>(S8 i τ t x off).map λv=>(W,v,s)|.lG o e k off=>match LU s o e with
  |some ⟨t,l⟩=>(S8 i τ t (aZ l k (S.zero t)) off).map λv=>(cJ k l,v,s)|none=>Y
 |_=>Y
def Sg.nE(S:Sg):Ty->L Ty
 |.st n=>S.fs n|t=>[t]
def vL:(t:Ty)->mG S.A (S.nE t)->den S.A t
 |.st n,h=>S.Yh n h|.int _,h=>h.1|.bool,h=>h.1|.str,h=>h.1|.sl _,h=>h.1|.cT _,h=>h.1
def ET(i:TI)(s:bu S)(a x:V S):ov S:=
 match wm i x with
 |none=>Y|some l=>match a with
  |.ptr o off=>match s.ob.get o with
   |some (.box d)=>
    bif Nl s.fl o&&(Nl (Na off (cB l)) (cB d)&&BK l)then
     Z (W,ej,{s with ob:=s.ob.set aR o (.box (d.take off++l++d.drop (Na off (cB l)))),wr:=o::s.wr})
    else Y
   |_=>Y
  |.lG o e k off=>match s.ob.get o with
   |some (.arr t _ _)=>match oC s ((S.nE t).drop off |>.take (cB l)) l with
    |some (_,os)=>match dX s os with
     |some b=>match b.ob.get o with
      |some (.arr t c era)=>match oC s (S.nE t) ((vQ t (aZ c k (S.zero t))).take off++l++(vQ t (aZ c k (S.zero t))).drop (Na off (cB l)))with
       |some (h,_)=>
        bif Nl b.fl o&&(Nq e era&&(Nl (Na off (cB l)) (S.width t)&&(Nl 1 (cB l)&&BK l)))then
         Z (cJ k c,ej,{b with ob:=b.ob.set aR o (.arr t (eg c k (vL t h)) era),wr:=o::b.wr})
        else Y
       |none=>Y
      |_=>Y
     |none=>Y
    |none=>Y
   |_=>Y
  |_=>Y
def JR(place:Nat->O (Nat×TI))(cells:L (V S)):L (Nat×V S)->O (L (V S))
 |[]=>Z cells|(k,v)::a=>match place k with
  |none=>Y|some (off,i)=>match wm i v with
   |none=>Y|some l=>
    bif Nl (Na off (cB l)) (cB cells)&&BK l then JR place (cells.take off++l++cells.drop (Na off (cB l))) a else Y
def ja(fr:bU S):L (Nat×Operand)->O (L (Nat×V S))
 |[]=>Z []|(k,x)::l=>match cA fr x,ja fr l with
  |some t,Z r=>Z ((k,t)::r)|_,_=>Y
def oh(s:bu S)(e:Ty)(es:L (den S.A e)):L (Nat×V S)->O (L (den S.A e)×L Nat)
 |[]=>Z (es,[])|(k,v)::a=>match bW s e v with
  |none=>Y|some (x,os)=>
   bif Nt k (cB es)then
    match oh s e (es.set k x) a with
    |some (r,b)=>Z (r,os++b)|none=>Y
   else Y
def KQ(fr:bU S):O Operand->O (O (V S))
 |none=>Z Y|some x=>(cA fr x).map Z
def Cq(dflt:Int):O (V S)->O Int
 |none=>Z dflt|some t=>gf .i64 t
def NG:V S->L Nat
 |.sh o _=>[o]|_=>[]
def vC(i:TI)(τ:O Ty)(s:bu S)(v:V S)(l h m:O (V S)):ov S:=
 match τ,Cq 0 l with
 |some .str,Z lo=>match i.kd,vA v,m with
  |.leaf .str,Z b,Y=>match Cq (ax b) h with
   |some a=>Z (iJ lo a (ax b),.ty .str (eZ b lo a),s)|none=>Y
  |_,_,_=>Y
 |some (.sl e),Z lo=>match i.kd,Ky s e v,dX s (NG v)with
  |.slice _ _ _ _,Z c,Z d=>match Cq (ax c) h,m,h with
   |some a,Y,_=>Z (iJ lo a (ax c),.ty (.sl e) (eZ c lo a),d)|some a,Z y,Z _=>match y with
    |.kn .i64 0=>Z (iT lo 0&&iT a 0,.emp,s)|y=>match gf .i64 y with
     |some f=>Z (iJ lo a (ax c)&&iT f a,.kq 0 e (eZ c lo a),d)|none=>Y
   |_,_,_=>Y
  |_,_,_=>Y
 |_,_=>Y
def aad:V S->O (O Bool×Bool)
 |.gd g v=>match gK v with
  |some y=>Z (Z g,y)|none=>Y
 |.kb b=>Z (Y,b)|.ty .bool x=>Z (Y,x)|_=>Y
def orT(g:O Bool):Bool:=match g with|some g=>g|none=>W
def XU(c a b:V S):O (Bool×V S):=
 match c with
 |.kb u=>match aad (bif u then a else b)with
  |some (p,y)=>Z (orT p,.ty .bool y)|none=>Y
 |c=>match gK c,aad a,aad b with
  |some t,Z (p,x),Z (q,y)=>Z (bif t then orT p else orT q,.ty .bool (aa3 t x y))|_,_,_=>Y
def j5(i:TI)(τ:O Ty)(s:bu S)(x a:V S):ov S:=
 match i.kd,τ,gf .i64 a with
 |.slice _ _ _ _,Z (.sl e),Z n=>match x with
  |.sh o r=>match LU s o r with
   |some ⟨t,l⟩=>bif tc t e then Z (aC n l,.lG o r (ak n) 0,s)else Y|none=>Y
  |v=>match Ky s e v with
   |some l=>Z (aC n l,.nJ e (aZ l (ak n) (S.zero e)) 0,s)|none=>Y
 |_,_,_=>Y
def qm(i:TI)(s:bu S)(k:Nat)(x:V S):ov S:=
 match i.kd with
 |.struct a=>match nth a k with
  |some (off,size,_)=>bif Nq size 0 then Y else match x with
   |.ptr o b=>Z (W,.ptr o (Na b off),s)|.nJ t d b=>Z (W,.nJ t d (Na b off),s)|.lG o e j b=>Z (W,.lG o e j (Na b off),s)|_=>Y
  |none=>Y
 |_=>Y
def BZ(i:TI)(s:bu S)(k:Nat)(x:V S):ov S:=
 match i.kd with
 |.struct a=>match nth a k,wm i x with
  |some (off,size,b),Z c=>
   let l:=(c.drop off).take size
   bif Nq (cB l) size&&!(Nq size 0)then(CY b l).map λt=>(W,t,s)else Y
  |_,_=>Y
 |_=>Y
def BO(i:TI)(s:bu S)(x a:V S):ov S:=
 match i.kd,gf .i64 a,vA x with
 |.leaf .str,Z n,Z b=>Z (aC n b,.ty (.int .u8) (mo b n),s)|_,_,_=>Y
def EE(i:TI)(s:bu S)(t:TypeId)(ok:Bool)(x:V S):ov S:=
 match i.kd,x,ok with
 |.iface,_,_=>Y|_,.cT u v,W=>bif Nq u t then Z (W,.gM [v,.kb W],s)else
   (CY i.agg (i.zero.map zeroV)).map λz=>(W,.gM [z,.kb J],s)
 |_,.cT u v,J=>bif Nq u t then Z (W,v,s)else Y|_,_,_=>Y
def unV(i:TI)(op:UnOp)(v:V S):O (V S):=
 match op,i.kd with
 |.not,.leaf .bool=>(gK v).map λb=>.ty .bool (aq b)|.neg,.leaf (.int k)=>(gf k v).map λn=>.ty (.int k) (Ih k n)|_,_=>Y
def TS(i j:TI)(s:bu S)(v:V S):ov S:=
 match i.kd,j.kd with
 |.leaf (.int k),.leaf (.int l)=>(gf k v).map λn=>(W,.ty (.int l) (Sr l n),s)|.leaf .str,.leaf .str=>(vA v).map λ_=>(W,v,s)|_,_=>Y
def AN(s:bu S)(k:Nat):V S->ov S
 |.gM a=>(nth a k).map λt=>(W,t,s)|_=>Y
structure MT where
 kt:Ty
 vt:Option Ty
 el:TypeId
structure gi where
 E:Env
 ty:Nat->Option Ty
 mt:Nat->Option MT:=λ_=>Y
 KX:Nat->String->Option FuncId:=λ_ _=>Y
 nst:Nat->Option Nat:=λ_=>Y
def cD(E:gi)(fr:bU S)(s:bu S)(o:Op):ov S:=
 match o with
 |.move x=>(cA fr x).map λt=>(W,t,s)|.assign x=>(cA fr x).map λt=>(W,t,s)|.pick c a b=>match cA fr c,cA fr a,cA fr b with
  |some c,Z a,Z b=>(XU c a b).map λ(p,t)=>(p,t,s)|_,_,_=>Y
 |.alloc t=>match E.E.ti t with
  |some i=>bif Nt s.aL bC then Z (W,.ptr s.aL 0,dc s (.box (i.zero.map zeroV)))else Y|none=>Y
 |.box t x=>match E.E.ti t,cA fr x with
  |some i,Z v=>bif Nt s.aL bC then(wm i v).map λg=>(W,.ptr s.aL 0,dc s (.box g))else Y|_,_=>Y
 |.build t parts=>match E.E.ti t,ja fr parts.toList with
  |some i,Z q=>match i.kd with
   |.struct w=>(JR (λk=>match nth w k with|some (off,size,z)=>Z (off,{(default:TI)with size:=size,agg:=z})|none=>Y) (i.zero.map zeroV) q).map
     λg=>(W,.agg g,s)
   |_=>Y
  |_,_=>Y
 |.buildSlice t len parts=>match E.E.ti t,E.ty t,ja fr parts.toList with
  |some i,Z (.sl e),Z q=>match i.kd with
   |.slice sz _ _ _=>
    bif Nl (Nat.mul len sz) 16777216 then
     match oh s e (List.replicate len (S.zero e)) q with
     |some (A,os)=>(dX s os).map λs=>(W,.kq len e A,s)|none=>Y
    else Y
   |_=>Y
  |_,_,_=>Y
 |.load t a=>match E.E.ti t,cA fr a with
  |some i,Z a=>yj i (E.ty t) s a|_,_=>Y
 |.store t a x=>match E.E.ti t,cA fr a,cA fr x with
  |some i,Z a,Z x=>ET i s a x|_,_,_=>Y
 |.nilCheck x=>match cA fr x with
  |some (.ptr o b)=>Z (W,.ptr o b,s)|some (.nJ t d b)=>Z (W,.nJ t d b,s)|some (.lG o e j b)=>Z (W,.lG o e j b,s)|some (.cT t v)=>Z (W,.cT t v,s)|some (.fn (.func f) a b)=>Z (W,.fn (.func f) a b,s)|_=>Y
 |.binOp op t x y _=>match E.E.ti t,cA fr x,cA fr y with
  |some i,Z a,Z b=>(HA i op a b).map λ(p,d)=>(p,d,s)|_,_,_=>Y
 |.unOp op t x=>match E.E.ti t,cA fr x with
  |some i,Z v=>(unV i op v).map λd=>(W,d,s)|_,_=>Y
 |.convert src r x=>match E.E.ti src,E.E.ti r,cA fr x with
  |some i,Z j,Z v=>TS i j s v|_,_,_=>Y
 |.makeInterface t x=>match E.E.ti t,cA fr x with
  |some i,Z v=>match i.kd with
   |.iface=>Y|_=>Z (W,.cT t v,s)
  |_,_=>Y
 |.makeFunc f first cap=>match kK fr first.toList,kK fr cap.toList with
  |some a,Z b=>Z (W,.fn f a b,s)|_,_=>Y
 |.extract x k=>match cA fr x with
  |some v=>AN s k v|none=>Y
 |.fieldAddr t x k=>match E.E.ti t,cA fr x with
  |some i,Z v=>qm i s k v|_,_=>Y
 |.field t x k=>match E.E.ti t,cA fr x with
  |some i,Z v=>BZ i s k v|_,_=>Y
 |.indexAddr t x u=>match E.E.ti t,cA fr x,cA fr u with
  |some i,Z v,Z n=>j5 i (E.ty t) s v n|_,_,_=>Y
 |.index t x u=>match E.E.ti t,cA fr x,cA fr u with
  |some i,Z v,Z n=>BO i s v n|_,_,_=>Y
 |.slice t x lo B C=>match E.E.ti t,cA fr x,KQ fr lo,KQ fr B,KQ fr C with
  |some i,Z v,Z l,Z h,Z m=>vC i (E.ty t) s v l h m|_,_,_,_,_=>Y
 |.typeAssert x _ t ok=>match E.E.ti t,cA fr x with
  |some i,Z v=>EE i s t ok v|_,_=>Y
 |_=>Y
def Yy:(a:Ty)->V S->O (den S.A a)
 |.int k,v=>gf k v|.bool,v=>gK v|.str,v=>vA v|_,_=>Y
def Lg{A:Nat->Type}:(c:Ty)->den A c->den A c->Bool
 |.int _,a,b=>aa a b|.bool,a,b=>Kn a b|.str,a,b=>gG a b|_,_,_=>J
def Io{A:Nat->Type}{β:Type}(a:Ty)(z:β)(k:den A a):L (den A a×β)->β
 |[]=>z|p::l=>bif Lg a k p.1 then p.2 else Io a z k l
def BS{A:Nat->Type}{β:Type}(a:Ty)(k:den A a):L (den A a×β)->Bool
 |[]=>J|p::l=>bif Lg a k p.1 then W else BS a k l
def ni{A:Nat->Type}{β:Type}(a:Ty)(k:den A a)(x:β):L (den A a×β)->L (den A a×β)
 |[]=>[(k,x)]|p::l=>bif Lg a k p.1 then(k,x)::l else p::ni a k x l
def Dz(c d a b:Ty)(l:L (den S.A c×den S.A d)):O (L (den S.A a×den S.A b)):=
 if h:tc c a=W then if e:tc d b=W then Z (jN h▸jN e▸l)else Y else Y
def OV{β:Type}(b a:Ty)(l:L (den S.A b×β)):O (L (den S.A a×β)):=
 if h:tc b a=W then Z (jN h▸l)else Y
def Yk(s:bu S)(a b:Ty):V S->O (L (den S.A a×den S.A b))
 |.mp o=>match s.ob.get o with
  |some (.map k v l)=>Dz k v a b l|_=>Y
 |.dat (.lit (.map Y))=>Z []|_=>Y
def isE{α:Type}(l:L α):Bool:=match l with|[]=>W|_::_=>J
def mkN(n:Int):Bool:=decide (0<=n)&&decide (n<=17179869184)
def QA(pos:Nat)(b:L UInt8):Bool:=decide (pos<b.length)
def uI(b:L UInt8)(pos:Nat):Int:=((Utf8.decode (bY b) pos).1:Nat)
def Ir(b:L UInt8)(pos:Nat):Nat:=(Utf8.decode (bY b) pos).2
def Og(fr:bU S):O Operand->Bool
 |none=>W|some x=>match cA fr x with
  |some (.kn _ _)=>W|some (.ty (.int _) _)=>W|_=>J
def uM(E:gi)(fr:bU S)(s:bu S)(o:Op):ov S:=
 match o with
 |.makeMap t r=>bif Nt s.aL bC&&Og fr r then match E.mt t with
  |some m=>match m.vt with
   |some a=>Z (W,.mp s.aL,dc s (.map m.kt a []))|none=>Z (W,.mp s.aL,dc s (.Im m.kt []))
  |none=>Y
  else Y
 |.lookup t x d ok=>match E.mt t,cA fr x,cA fr d with
  |some m,Z x,Z k=>match m.vt with
   |some a=>match Yy m.kt k,Yk s m.kt a x with
    |some k,Z l=>Z (W,bif ok then .gM [.ty a (Io m.kt (S.zero a) k l),.ty .bool (BS m.kt k l)]else .ty a (Io m.kt (S.zero a) k l),s)|_,_=>Y
   |none=>Y
  |_,_,_=>Y
 |.mapUpdate t x d y|.insert t x d y=>match E.mt t,cA fr x,cA fr d,cA fr y with
  |some m,Z (.mp o),Z k,Z y=>match Yy m.kt k,s.ob.get o with
   |some k,Z (.map f a l)=>match Dz f a m.kt a l,bW s a y with
    |some l,Z (y,os)=>match dX s os with
     |some g=>bif Nl s.fl o&&abx m.vt a then Z (W,ej,{g with ob:=g.ob.set aR o (.map m.kt a (ni m.kt k y l)),wr:=o::g.wr})else Y
     |none=>Y
    |_,_=>Y
   |some k,Z (.Im f l)=>match OV f m.kt l with
    |some l=>bif Nl s.fl o then Z (W,ej,{s with ob:=s.ob.set aR o (.Im m.kt (ni m.kt k y l)),wr:=o::s.wr})else Y
    |none=>Y
   |_,_=>Y
  |_,_,_,_=>Y
 |.makeSlice t n c=>match E.E.ti t,E.ty t,cA fr n,cA fr c with
  |some i,Z (.sl e),Z n,Z c=>match i.kd,gf .i64 n,gf .i64 c with
   |.slice _ _ _ _,Z n,Z c=>bif Nt s.aL bC then Z (mkN n&&iT c n,.sh s.aL 0,dc s (.arr e (List.replicate (ak n) (S.zero e)) 0))else Y|_,_,_=>Y
  |_,_,_,_=>Y
 |.range t x=>match E.E.ti t,cA fr x with
  |some i,Z x=>match i.kd,vA x with
   |.leaf .str,Z b=>bif Nt s.aL bC then Z (W,.s7 s.aL,dc s (.qE b 0))else Y|_,_=>Y
  |_,_=>Y
 |.binOp .eql t x (.const .nilIface) _=>match E.E.ti t,cA fr x with
  |some i,Z (.ty (.cT n) y)=>match i.kd with
   |.iface=>Z (W,.ty .bool (isNil (S.alts n) (S.tV n y)),s)|_=>Y
  |some i,Z (.dat (.lit .nilIface))=>match i.kd with
   |.iface=>Z (W,.kb W,s)|_=>Y
  |_,_=>Y
 |.binOp .neq t x (.const .nilIface) _=>match E.E.ti t,cA fr x with
  |some i,Z (.ty (.cT n) y)=>match i.kd with
   |.iface=>Z (W,.ty .bool (aq (isNil (S.alts n) (S.tV n y))),s)|_=>Y
  |some i,Z (.dat (.lit .nilIface))=>match i.kd with
   |.iface=>Z (W,.kb J,s)|_=>Y
  |_,_=>Y
 |.binOp .eql t x (.const (.slice Y 0 0)) _=>match E.E.ti t,E.ty t,cA fr x with
  |some i,Z (.sl e),Z x=>match i.kd,Ky s e x with
   |.slice _ _ _ _,Z l=>Z (W,.ub (isE l),s)|_,_=>Y
  |_,_,_=>Y
 |.nilCheck x=>match cA fr x with
  |some (.ty (.cT n) y)=>Z (aq (isNil (S.alts n) (S.tV n y)),.ty (.cT n) y,s)|_=>Y
 |.typeAssert x _ t ok=>match E.E.ti t,E.ty t,cA fr x with
  |some i,Z τ,Z (.ty (.cT n) y)=>match i.kd,wG (S.alts n) t with
   |.iface,_=>Y|_,Z j=>bif tc (mU (S.alts n) j) τ then
     let v:V S:=.ty (mU (S.alts n) j) (j8 S.zero (S.alts n) j (S.tV n y))
     let b:=jD (S.alts n) j (S.tV n y)
     bif ok then Z (W,.gM [v,.ty .bool b],s)else Z (b,v,s)
    else Y
   |_,Y=>bif ok then Z (W,.gM [.ty τ (S.zero τ),.kb J],s)else Y
  |_,_,_=>Y
 |.build t parts=>match E.E.ti t,ja fr parts.toList with
  |some i,Z h=>match i.kd with
   |.array _ sz p=>(JR (λk=>Z (Nat.mul k sz,{(default:TI)with size:=sz,agg:=p})) (i.zero.map zeroV) h).map λq=>(W,.agg q,s)
   |_=>Y
  |_,_=>Y
 |_=>Y
def isNone{α:Type}:O α->Bool|none=>W|some _=>J
def DP(E:gi)(fr:bU S)(s:bu S)(o:Op):ov S:=
 match o with
 |.indexAddr t x g=>match cA fr x with
  |some (.sh o r)=>match s.ob.get o with
   |some (.kX n _ l era _ _ _)=>match E.E.ti t,E.ty t,cA fr g with
    |some i,Z (.sl (.st p)),Z k=>match i.kd,gf .i64 k with
     |.slice _ _ _ _,Z k=>bif Nq r era&&Nq n p then Z (aC k l,.lG o r (ak k) 0,s)else Y|_,_=>Y
    |_,_,_=>Y
   |_=>Y
  |_=>Y
 |.load t a=>match cA fr a with
  |some (.lG o e k off)=>match s.ob.get o with
   |some (.kX n j l era m b hole)=>match E.E.ti t with
    |some i=>bif Nq e era then
      bif Nq off j then
       bif Nq i.size 1&&(!i.agg&&(isNone hole&&Nt j (S.width (.st n))))then Z (cJ k l,.rM o m b k,s)else Y
      else bif Nl (Na off i.size) j||Nt j off then(S8 i Y (.st n) (aZ l k (S.zero (.st n))) off).map λv=>(cJ k l,v,s)else Y
     else Y
    |none=>Y
   |_=>Y
  |_=>Y
 |.store t a (.tmp c)=>match cA fr a,fr.get c with
  |some (.lG o e k off),Z (.rM q u r i)=>match s.ob.get o with
   |some (.kX n j l era m b (Z h))=>match E.E.ti t with
    |some d=>bif (Nq e era&&(Nq off j&&(Nq q o&&(Nq u m&&(Nq r b&&(Nq d.size 1&&(!d.agg&&(Nl s.fl o&&(Nt j (S.width (.st n))&&Nt c bC)))))))))then
      Z (YU k l h i,ej,{s with ob:=s.ob.set aR o (.kX n j l era m b Y),wr:=o::s.wr})
     else Y
    |none=>Y
   |_=>Y
  |_,_=>Y
 |.buildSlice t len parts=>match parts.toList with
  |[(0,.tmp c)]=>match E.E.ti t,E.ty t,fr.get c with
   |some i,Z (.sl (.st n)),Z (.agg f)=>match E.nst n with
    |some j=>match i.kd,nth f j with
     |.slice sz _ _ _,Z .emp=>bif Nq len 1&&(Nl sz 16777216&&Nt c bC)then match bW s (.st n) (.agg f)with
      |some (x,os)=>(dX s os).map λs=>(W,.oY n j x,s)|none=>Y
      else Y
     |_,_=>Y
    |none=>Y
   |_,_,_=>Y
  |[]=>match E.E.ti t,E.ty t with
   |some i,Z (.sl _)=>match i.kd with
    |.slice _ _ _ _=>bif Nq len 0 then Z (W,.emp,s)else Y|_=>Y
   |_,_=>Y
  |_=>Y
 |_=>Y
def Al(E:gi)(fr:bU S)(s:bu S)(o:Op):ov S:=match DP E fr s o with
 |some r=>Z r|none=>match cD E fr s o with
  |some r=>Z r|none=>uM E fr s o
def zw(n:Int)(ag:Bool)(sz:Nat)(cs:L (V S))(s:bu S):L Nat->L (Bool×V S×bu S)
 |[]=>[]|j::l=>match bif Nq (cB ((cs.drop (Nat.mul j sz)).take sz)) sz&&Nt 0 sz then CY ag ((cs.drop (Nat.mul j sz)).take sz)else Y with
  |some v=>(iT n (Int.ofNat j),v,s)::zw n ag sz cs s l|none=>[]
def iS(E:gi)(fr:bU S)(s:bu S)(o:Op):O (L (Bool×V S×bu S)×Bool×V S×bu S):=
 match o with
 |.next d W=>match cA fr d with
  |some (.s7 o)=>match s.ob.get o with
   |some (.qE b pos)=>bif Nl s.fl o then
     Z ([(QA pos b,.gM [.kb W,.ty (.int .i64) (Int.ofNat pos),.ty (.int .i32) (uI b pos)],{s with ob:=s.ob.set aR o (.qE b (Na pos (Ir b pos))),wr:=o::s.wr})],W,.gM [.kb J],s)
    else Y
   |_=>Y
  |_=>Y
 |.lookup t x a ok=>match E.mt t,cA fr x,cA fr a with
  |some m,Z (.mp o),Z k=>match s.ob.get o,Yy m.kt k,E.E.ti m.el with
   |some (.Im e l),Z k,Z i=>match OV e m.kt l,CY i.agg (i.zero.map zeroV)with
    |some l,Z z=>Z (l.map λp=>(Lg m.kt k p.1,bif ok then .gM [p.2,.kb W]else p.2,s),W,bif ok then .gM [z,.kb J]else z,s)|_,_=>Y
   |_,_,_=>Y
  |_,_,_=>Y
 |.index t x a=>match E.E.ti t,cA fr x,cA fr a with
  |some i,Z (.agg c),Z k=>match i.kd,gf .i64 k with
   |.array len sz f,Z n=>bif Nq (cB c) i.size then Z (zw n f sz c s (List.range len),J,ej,s)else Y|_,_=>Y
  |_,_,_=>Y
 |_=>Y
def T4(i:TI)(e:Ty)(s:bu S)(x y:V S):ov S:=
 bif !(Nt s.aL bC)then Y else
 match i.kd,Ky s e y with
 |.slice _ _ _ _,Z new=>
  match x with
  |.emp=>Z (W,.sh s.aL 0,dc s (.arr e new 0))|.kq _ t a=>match n3 t e a with
   |some a=>match y with
    |.kq (_+1) _ _=>Z (dB a new,.sh s.aL 0,dc s (.arr e (cX a new) 0))|_=>Z (dB a new,.ty (.sl e) (cX a new),s)
   |none=>Y
  |.sh o r=>match s.ob.get o with
   |some (.arr t a era)=>match n3 t e a with
    |some a=>
     bif Nl s.fl o&&(Nq r era&&!(NG y).contains o)then
      Z (dB a new,.sh o (Ns era),{s with ob:=s.ob.set aR o (.arr e (cX a new) (Ns era)),wr:=o::s.wr})
     else Y
    |none=>Y
   |_=>Y
  |_=>Y
 |_,_=>Y
def ie(E:gi)(s:bu S)(b:Builtin)(a:Array TypeId)(args:L (V S)):ov S:=
 match b,args with
 |.len,[x]=>match(nth a.toList 0).bind E.E.ti,(nth a.toList 0).bind E.ty with
  |some i,Z .str=>match i.kd,vA x with
   |.leaf .str,Z b=>Z (W,.ty (.int .i64) (ax b),s)|_,_=>Y
  |some i,Z (.sl e)=>match i.kd with
   |.slice _ _ _ _=>(Ky s e x).map λc=>(W,.ty (.int .i64) (ax c),s)|_=>Y
  |_,_=>Y
 |.append,[x,y]=>match a.toList with
  |[t,u]=>match E.E.ti t,E.E.ti u,E.ty t with
   |some i,Z j,Z (.sl e)=>match j.kd with
    |.slice _ _ _ _=>T4 i e s x y|_=>Y
   |_,_,_=>Y
  |_=>Y
 |_,_=>Y
def FV(a b:Int):Int:=bif aD a b then b else a
def QK(a b:Int):Int:=bif aD b a then b else a
def sX(E:gi)(s:bu S)(b:Builtin)(a:Array TypeId)(args:L (V S)):ov S:=
 match b,args with
 |.len,[.mp o]=>match(nth a.toList 0).bind E.mt,s.ob.get o with
  |some _,Z (.map _ _ l)=>Z (W,.ty (.int .i64) (ax l),s)|some _,Z (.Im _ l)=>Z (W,.ty (.int .i64) (ax l),s)|_,_=>Y
 |.max,[x,y]=>match gf .i64 x,gf .i64 y with
  |some m,Z n=>Z (W,.ty (.int .i64) (FV m n),s)|_,_=>Y
 |.min,[x,y]=>match gf .i64 x,gf .i64 y with
  |some m,Z n=>Z (W,.ty (.int .i64) (QK m n),s)|_,_=>Y
 |_,_=>Y
def mM(E:gi)(s:bu S)(b:Builtin)(a:Array TypeId)(args:L (V S)):ov S:=
 match b,args with
 |.len,[.sh o r]=>match s.ob.get o with
  |some (.kX n _ l era _ _ _)=>match(nth a.toList 0).bind E.E.ti,(nth a.toList 0).bind E.ty with
   |some i,Z (.sl (.st g))=>match i.kd with
    |.slice _ _ _ _=>bif Nq r era&&Nq n g then Z (W,.ty (.int .i64) (ax l),s)else Y|_=>Y
   |_,_=>Y
  |_=>Y
 |.append,[.sh o r,.oY g v x]=>match s.ob.get o with
  |some (.kX n j l era m c Y)=>match a.toList with
   |[t,u]=>match E.E.ti t,E.E.ti u,E.ty t,M0 s m c with
    |some i,Z h,Z (.sl (.st p)),Z ⟨f,d⟩=>match i.kd,h.kd,n3 (.st g) (.st n) [x]with
     |.slice _ _ _ _,.slice _ _ _ _,Z new=>bif Nq r era&&(Nq n p&&(Nq j v&&(Nl s.fl o&&(Nl s.fl m&&(Nt m s.aL&&(Nt s.aL bC&&(DY S n j f&&Nl 1 (S.width f))))))))then
       Z (bP (acr l d) (dB l new),.sh o (Ns era),{s with ob:=(s.ob.set aR m (.rws f (cX d [[]]) c)).set aR o (.kX n j (cX l new) (Ns era) m c Y),wr:=o::m::s.wr})
      else Y
     |_,_,_=>Y
    |_,_,_,_=>Y
   |_=>Y
  |_=>Y
 |.append,[.rM o m r k,y]=>match s.ob.get o,s.ob.get m with
  |some (.kX n j l era w c Y),Z (.rws t d e)=>match a.toList with
   |[q,u]=>match E.E.ti q,E.E.ti u,E.ty q,Ky s t y with
    |some i,Z h,Z (.sl f),Z new=>match i.kd,h.kd,y with
     |_,_,.sh _ _=>Y|.slice _ _ _ _,.slice _ _ _ _,_=>bif Nq m w&&(Nq r c&&(Nq r e&&(Nl s.fl o&&(Nl s.fl m&&(Nt o bC&&tc f t)))))then
       Z (bP (cJ k d) (dB (aZ d k []) new),.rM o m (Ns r) k,{s with ob:=(s.ob.set aR m (.rws t (eg d k (cX (aZ d k []) new)) (Ns r))).set aR o (.kX n j l era m (Ns r) (Z k)),wr:=o::m::s.wr})
      else Y
     |_,_,_=>Y
    |_,_,_,_=>Y
   |_=>Y
  |_,_=>Y
 |_,_=>Y
def kZ(E:gi)(s:bu S)(b:Builtin)(a:Array TypeId)(args:L (V S)):ov S:=match mM E s b a args with
 |some r=>Z r|none=>match ie E s b a args with
  |some r=>Z r|none=>sX E s b a args
end
variable {S:Sg}
section
def aK{α:Type}(c:Bool)(x:O α):O α:=bif c then x else Y
def au{α:Type}(c:Bool)(x y:O α):O α:=bif c then x else y
def ai{α β:Type}(x:O α)(f:α->O β):O β:=match x with|some a=>f a|none=>Y
def imp(c p:Bool):Bool:=bif c then p else W
inductive Ck where
 |dat (t:Ty)|own (e:Ty)|j0 (n j:Nat) (t:Ty)|nil (e:Ty)|ptr (t:Ty)
@[reducible] def Ck.ty:Ck->Ty|.dat t=>t|.own e=>.sl e|.j0 n _ _=>.sl (.st n)|.nil e=>.sl e|.ptr t=>t
inductive Bk where
 |cells (cs:List Ck)|map (kt vt:Ty)|qE|link (pre post:List Ck)
inductive Pk where
 |one (c:Ck)|box (k:Bk)|hid (k:Bk)
@[reducible] def gr(A:Nat->Type):L Ck->Type
 |[]=>U|c::l=>den A c.ty×gr A l
@[reducible] def xL(A:Nat->Type):Bk->Type
 |.cells a=>gr A a|.map b c=>L (den A b×den A c)|.qE=>L UInt8×Nat|.link pre post=>gr A pre×gr A post
@[reducible] def fX(A:Nat->Type):L Pk->Type
 |[]=>U|.one c::l=>den A c.ty×fX A l|.box k::l=>xL A k×fX A l|.hid k::l=>xL A k×fX A l
@[reducible] def iw(A:Nat->Type):L Pk->Type
 |[]=>U|.one _::l=>iw A l|.box k::l=>xL A k×iw A l|.hid k::l=>xL A k×iw A l
inductive Rx(R P:Type) where
 |ok (r:R)|hU (p:P)
@[reducible] def RT:Bool->Type->Type->Type
 |false,R,_=>R|true,R,P=>Rx R P
def RT.res{R P:Type}:(a:Bool)->RT a R P->Rx R P
 |false,r=>Rx.ok r|true,r=>r
def RT.ok{R P:Type}:(a:Bool)->R->RT a R P
 |false,r=>r|true,r=>Rx.ok r
def RT.hU{R P:Type}:(a:Bool)->P->O (RT a R P)
 |false,_=>Y|true,p=>Z (Rx.hU p)
structure me(S:Sg) where
 ps:List Pk
 rs:List Ck
 pn:Bool
 F:fX S.A ps->Option (RT pn (gr S.A rs×iw S.A ps) (den S.A S.pt×iw S.A ps))
def oF(s:bu S):(c:Ck)->V S->O (den S.A c.ty×L Nat×L Nat)
 |.dat t,v=>match bW s t v with
  |some (x,os)=>Z (x,os,[])|none=>Y
 |.own e,.emp=>bif Nl 1 (S.width e)then Z ([],[],[])else Y|.own e,.sh o r=>match s.ob.get o with
  |some (.arr t l era)=>bif Nq r era&&(Nl s.fl o&&Nl s.lo o)then match n3 t e l with|some l=>Z (l,[],[o])|none=>Y else Y
  |_=>Y
 |.nil _,.emp=>Z ([],[],[])|.j0 n j t,.emp=>bif Nl 1 (S.width (.st n))&&(DY S n j t&&Nt j (S.width (.st n)))then Z ([],[],[])else Y|.j0 n j t,.sh o r=>match s.ob.get o with
  |some (.kX b g l era m a Y)=>match M0 s m a with
   |some ⟨d,f⟩=>bif (Nq r era&&(Nq j g&&(Nl s.fl o&&(Nl s.lo o&&(Nl s.fl m&&(Nl s.lo m&&(Nt m s.aL&&(DY S b j d&&tc d t))))))))then match n3 (.st b) (.st n) (kL b j d l f)with
     |some l=>Z (l,[],[o,m])|none=>Y
    else Y
   |none=>Y
  |_=>Y
 |_,_=>Y
def fY(s:bu S):(cs:L Ck)->L (V S)->O (gr S.A cs×L Nat×L Nat)
 |[],[]=>Z ((),[],[])|c::cs,v::l=>match oF s c v,fY s cs l with
  |some (x,a,b),Z (h,d,e)=>Z ((x,h),a++d,b++e)|_,_=>Y
 |_,_=>Y
def Vq:Bk->Nat->V S
 |.cells _,o=>.ptr o 0|.map _ _,o=>.mp o|.qE,o=>.s7 o|.link _ _,o=>.ptr o 0
def DT:Bk->V S->O Nat
 |.cells _,.ptr o 0=>Z o|.map _ _,.mp o=>Z o|.qE,.s7 o=>Z o|.link _ _,.ptr o 0=>Z o|_,_=>Y
def lS(s:bu S):(k:Bk)->O (ux S)->O (xL S.A k×L Nat×L Nat×O Nat)
 |.cells d,Z (.box c)=>match fY s d c with
  |some (x,a,b)=>Z (x,a,b,Y)|none=>Y
 |.map e f,Z (.map k v l)=>match Dz k v e f l with
  |some l=>Z (l,[],[],Y)|none=>Y
 |.qE,Z (.qE b n)=>Z ((b,n),[],[],Y)|.link pre post,Z (.box c)=>match fY s pre (c.take (cB pre)),nth c (cB pre),fY s post (c.drop (Ns (cB pre)))with
  |some (x,a,b),Z (.ptr o 0),Z (y,g,h)=>Z ((x,y),a++g,b++h,Z o)|_,_,_=>Y
 |_,_=>Y
def Ge:Bk->L Pk->Bool
 |.link _ _,.hid _::_=>W|.link _ _,_=>J|_,_=>W
def eL(s:bu S):(ps:L Pk)->L (V S)->O Nat->O (fX S.A ps×L Nat×L Nat×L Nat)
 |[],[],_=>Z ((),[],[],[])|.one c::ps,v::l,_=>match oF s c v,eL s ps l Y with
  |some (x,a,b),Z (h,d,e,f)=>Z ((x,h),a++d,b++e,f)|_,_=>Y
 |.box k::ps,v::l,_=>match DT k v with
  |some o=>bif Nl s.fl o&&Ge k ps then match lS s k (s.ob.get o)with
   |some (x,a,b,g)=>match eL s ps l g with
    |some (h,d,e,f)=>Z ((x,h),a++d,b++e,o::f)|none=>Y
   |none=>Y
   else Y
  |none=>Y
 |.hid k::ps,l,Z o=>bif Nl s.fl o&&Ge k ps then match lS s k (s.ob.get o)with
   |some (x,a,b,g)=>match eL s ps l g with
    |some (h,d,e,f)=>Z ((x,h),a++d,b++e,o::f)|none=>Y
   |none=>Y
   else Y
 |_,_,_=>Y
def vw(s:bu S):(c:Ck)->den S.A c.ty->V S×bu S
 |.dat t,x=>(.ty t x,s)|.own e,l=>(.sh s.aL 0,dc s (.arr e l 0))|.nil _,_=>(.emp,s)|.ptr t,x=>(.nJ t x 0,s)|.j0 n j t,l=>(.sh s.aL 0,dc (dc s (.kX n j l 0 (Ns s.aL) 0 Y)) (.rws t (zn n j t l) 0))
def ig(s:bu S):(cs:L Ck)->gr S.A cs->L (V S)×bu S
 |[],_=>([],s)|c::cs,x=>match vw s c x.1 with
  |(v,s)=>match ig s cs x.2 with
   |(l,s)=>(v::l,s)
def fD:L Nat->O Nat
 |[]=>Y|a::_=>Z a
def XS:O Nat->L (V S)
 |some o=>[.ptr o 0]|none=>[]
def kR(s:bu S)(c:O Nat):(k:Bk)->xL S.A k->ux S×bu S
 |.cells d,x=>match ig s d x with
  |(a,s)=>(.box a,s)
 |.map e f,l=>(.map e f l,s)|.qE,x=>(.qE x.1 x.2,s)|.link pre post,x=>match ig s pre x.1 with
  |(a,s)=>match ig s post x.2 with
   |(b,s)=>(.box (a++(XS c++b)),s)
def lQ(s:bu S):(ps:L Pk)->L Nat->iw S.A ps->O (bu S)
 |[],[],_=>Z s|.one _::ps,a,h=>lQ s ps a h|.box k::ps,o::a,h=>match kR s (fD a) k h.1 with
  |(ob,s)=>lQ {s with ob:=s.ob.set aR o ob,wr:=o::s.wr} ps a h.2
 |.hid k::ps,o::a,h=>match kR s (fD a) k h.1 with
  |(ob,s)=>lQ {s with ob:=s.ob.set aR o ob,wr:=o::s.wr} ps a h.2
 |_,_,_=>Y
def aiO(b:Nat):O Nat->Bool
 |none=>W|some o=>Nq o (Ns b)
def tL(s:bu S):Nat->(ps:L Pk)->O (iw S.A ps×L Nat×L Nat)
 |_,[]=>Z ((),[],[])|b,.one _::ps=>tL s b ps|b,.box k::ps=>match lS s k (s.ob.get b),tL s (Ns b) ps with
  |some (x,a,c,d),Z (h,e,f)=>bif aiO b d&&Ge k ps then Z ((x,h),a++e,c++f)else Y|_,_=>Y
 |b,.hid k::ps=>match lS s k (s.ob.get b),tL s (Ns b) ps with
  |some (x,a,c,d),Z (h,e,f)=>bif aiO b d&&Ge k ps then Z ((x,h),a++e,c++f)else Y|_,_=>Y
def rL:L Nat->Bool
 |[]=>W|a::l=>!(l.contains a)&&rL l
def Cr(l m:L Nat):Bool:=l.all λa=>!(m.contains a)
def DM:L (V S)->V S
 |[x]=>x|l=>.gM l
inductive xE(S:Sg) where
 |qJ|ext (id:Nat)|ret|hU (v:V S)
abbrev Sh:=L (Nat×Pk)
inductive Pt where
 |slot (k:Nat)|cell (p:Pt) (i:Nat)|cap (p:Pt) (i:Nat)|Qk (p:Pt) (k:Nat)
structure LSh where
 sh:Sh
 pts:List Pt:=[]
 al:List (Nat×Nat):=[]
 pl:Nat:=0
structure JSh where
 sh:Sh
 pts:List Pt:=[]
 ks:List Pt:=[]
 rs:List Ck:=[]
structure eT(S:Sg) where
 T:gi
 IK:FuncId->Option (me S)
 sh:FuncId->Nat->Option LSh
 pn:Bool:=J
 cj:FuncId->Option JSh:=λ_=>Y
def oZ:V S->L (V S)->O (FuncId×L (V S))
 |.fn (.func f) first cap,args=>Z (f,first++args++cap)
 |_,_=>Y
inductive Tgt where|fn (f:FuncId)|yl (o:Nat)|jn (f:FuncId)
abbrev fU(S:Sg):=Tgt->L (V S)->bu S->{ω:Type}->(V S->bu S->O ω)->(V S->bu S->O ω)->O ω
mutual
def iM(os:L Nat):V S->Bool
 |.ptr o _=>os.contains o|.lG o _ _ _=>os.contains o|.sh o _=>os.contains o|.mp o=>os.contains o|.rB o=>os.contains o|.s7 o=>os.contains o|.rM o m _ _=>os.contains o||os.contains m|.fn _ a b=>oc os a||oc os b|.cT _ v=>iM os v|.agg c=>oc os c|.gM c=>oc os c|.gd _ v=>iM os v|_=>J
def oc(os:L Nat):L (V S)->Bool
 |[]=>J|v::l=>iM os v||oc os l
end
def KY{α:Type}(os:L Nat):L (α×V S)->Bool
 |[]=>J|p::l=>iM os p.2||KY os l
def mD(p:V S->Bool):Tr (V S)->Bool
 |.nil=>J|.node v l r=>(match v with|some x=>p x|none=>J)||(mD p l||mD p r)
def KR(os:L Nat):ux S->Bool
 |.box a=>oc os a|.Im _ l=>KY os l|.lp l=>mD (iM os) l.fr.tm|.kX _ _ _ _ m _ _=>os.contains m|_=>J
namespace Tr
variable {α:Type}
def del:Nat->Tr α->Nat->Tr α
 |0,t,_=>t|_+1,.nil,_=>.nil|n+1,.node v l r,k=>match k with
  |0=>.node Y l r|k+1=>match Nq (Nat.mod k 2) 0 with
   |true=>.node v (del n l (Nat.div k 2)) r|false=>.node v l (del n r (Nat.div k 2))
def keep(p:α->Bool):Tr α->Tr α
 |.nil=>.nil|.node v l r=>.node (match v with|some x=>bif p x then Z x else Y|none=>Y) (keep p l) (keep p r)
end Tr
namespace Tr
variable {α:Type}
def mapA(f:α->α):Tr α->Tr α
 |.nil=>.nil|.node v l r=>.node (match v with|some x=>Z (f x)|none=>Y) (mapA f l) (mapA f r)
def jI(p:α->Bool):Tr α->L Nat
 |.nil=>[]|.node v l r=>(match v with|some x=>bif p x then[0]else[]|none=>[])++((jI p l).map (λk=>Ns (Nat.mul 2 k))++(jI p r).map (λk=>Ns (Ns (Nat.mul 2 k))))
end Tr
def yP:V S:=.gd J ej
def qu(os:L Nat)(v:V S):V S:=bif iM os v then yP else v
def nL(os:L Nat):ux S->ux S
 |.box b=>.box (b.map (qu os))|.Im c l=>.Im c (l.map λp=>(p.1,qu os p.2))|.lp l=>.lp {l with fr:={l.fr with tm:=l.fr.tm.mapA (qu os)}}
 |.kX n j l era m a hole=>bif os.contains m then .gone else .kX n j l era m a hole|o=>o
def forget(os:L Nat)(s:bu S):bu S:=match os with
 |[]=>s|_=>{s with ob:=s.ob.mapA (nL os),wr:=s.ob.jI (KR os)++s.wr}
def yw(bs:L Nat)(s:bu S):bu S:={s with ob:=bs.foldl (λt o=>t.del aR o) s.ob}
def r7.one:r7 S->Bool
 |.marks _|.kg=>J|_=>W
def eJ(p:V S->Bool):r7 S->r7 S
 |.call f args=>bif p f||args.any p then .bad else .call f args|.mark o=>bif p (.ptr o 0)then .bad else .mark o|.marks o=>bif p (.sh o 0)then .kg else .marks o|.kg=>.kg|.bad=>.bad
def dy(os:L Nat)(fr:bU S):bU S:=match os with
 |[]=>fr|_=>{fr with tm:=fr.tm.keep λv=>!(iM os v),df:=fr.df.map (eJ (iM os))}
def jK:L Ck->Bool
 |[]=>W|.dat _::l=>jK l|.own _::_=>J|.j0 ..::_=>J|.nil _::_=>J|.ptr _::_=>J
def sV:(cs:L Ck)->gr S.A cs->L (V S)
 |[],_=>[]|c::cs,x=>.ty c.ty x.1::sV cs x.2
def cm:L Pk->Bool
 |[]=>W|.one (.dat _)::l=>cm l|_=>J
def E5:Ty->Bool
 |.int _|.bool|.str=>W|_=>J
def kM:L Ck->Bool
 |[]=>W|.dat t::l=>E5 t&&kM l|.own _::_=>J|.j0 ..::_=>J|.nil _::_=>J|.ptr _::_=>J
def Ze:L Pk->Bool
 |[]=>J|.one (.ptr _)::_=>W|_::l=>Ze l
def QH:L Pk->Bool
 |[]=>W|.one (.dat _)::l=>QH l|.one (.ptr _)::l=>QH l|_=>J
def aej(s:bu S)(t:Ty):V S->O (den S.A t×L Nat)
 |.nJ u y 0=>match wq u t y with
  |some x=>Z (x,[])|none=>Y
 |.ptr o 0=>match s.ob.get o with
  |some (.box a)=>bif j4 t then bW s t (.agg a)else Y|_=>Y
 |_=>Y
def lB(s:bu S):(ps:L Pk)->L (V S)->O (fX S.A ps×L Nat)
 |[],[]=>Z ((),[])|.one (.dat t)::ps,v::l=>match bW s t v,lB s ps l with
  |some (x,os),Z (h,a)=>Z ((x,h),os++a)|_,_=>Y
 |.one (.ptr t)::ps,v::l=>match aej s t v,lB s ps l with
  |some (x,os),Z (h,a)=>Z ((x,h),os++a)|_,_=>Y
 |_,_=>Y
def Yt(c:me S):Bool:=cm c.ps&&(kM c.rs&&!c.pn)
mutual
def cE(p:Nat->Bool):V S->Bool
 |.ptr o _=>p o|.lG o _ _ _=>p o|.sh o _=>p o|.mp o=>p o|.rB o=>p o|.s7 o=>p o|.rM o m _ _=>p o||p m|.fn _ a b=>iG p a||iG p b|.cT _ v=>cE p v|.agg c=>iG p c|.gM c=>iG p c|.gd _ v=>cE p v|_=>J
def iG(p:Nat->Bool):L (V S)->Bool
 |[]=>J|v::l=>cE p v||iG p l
end
def dN(ow:L Nat)(aL:Nat)(o:Nat):Bool:=ow.contains o||Nl aL o
def mF:L (V S)->Nat->Tr (V S)->Tr (V S)
 |[],_,t=>t|a::l,k,t=>mF l (Ns k) (t.set aR k a)
def Xh(a:L Ck)(v:V S):L (V S):=match a,v with|[_],v=>[v]|_,.gM l=>l|_,v=>[v]
def kU(sh:Sh):L Pk:=sh.map (·.2)
def It(fr:bU S)(s:bu S):Pt->O (V S)
 |.slot k=>fr.get k|.cell p i=>match It fr s p with
  |some (.ptr o 0)=>match s.ob.get o with
   |some (.box a)=>nth a i|_=>Y
  |_=>Y
 |.cap p i=>match It fr s p with
  |some (.fn _ _ a)=>nth a i|_=>Y
 |.Qk p k=>match It fr s p with
  |some (.rB o)=>match s.ob.get o with
   |some (.lp l)=>l.fr.get k|_=>Y
  |_=>Y
def qS(fr:bU S)(s:bu S):Sh->L Pt->O (L Nat)
 |[],[]=>Z []|(_,.one _)::l,a=>qS fr s l a|(_,.box k)::l,p::a=>match It fr s p with
  |some v=>match DT k v,qS fr s l a with
   |some o,Z r=>Z (o::r)|_,_=>Y
  |none=>Y
 |(_,.hid k)::l,p::a=>match It fr s p with
  |some v=>match DT k v,qS fr s l a with
   |some o,Z r=>Z (o::r)|_,_=>Y
  |none=>Y
 |_,_=>Y
def uY(fr:bU S):Sh->L Nat->O (L (V S))
 |[],[]=>Z []|(k,.one _)::l,a=>match fr.get k,uY fr l a with
  |some v,Z r=>Z (v::r)|_,_=>Y
 |(_,.box k)::l,o::a=>match uY fr l a with
  |some r=>Z (Vq k o::r)|none=>Y
 |(_,.hid _)::l,_::a=>uY fr l a|_,_=>Y
def mS:(sh:Sh)->L Nat->fX S.A (kU sh)->bU S->bu S->O (bU S×bu S)
 |[],[],_,a,s=>Z (a,s)|(k,.one c)::l,b,x,a,s=>match vw s c x.1 with
  |(v,s)=>bif Nt k a.n&&Nl s.aL bC then mS l b x.2 (a.put k v) s else Y
 |(_,.box k)::l,o::b,x,a,s=>match kR s (fD b) k x.1 with
  |(ob,s)=>bif Nl s.aL bC then mS l b x.2 a {s with ob:=s.ob.set aR o ob}else Y
 |(_,.hid k)::l,o::b,x,a,s=>match kR s (fD b) k x.1 with
  |(ob,s)=>bif Nl s.aL bC then mS l b x.2 a {s with ob:=s.ob.set aR o ob}else Y
 |_,_,_,_,_=>Y
def y9{α:Type}(p:Nat->Bool):L (α×V S)->Bool
 |[]=>J|x::l=>cE p x.2||y9 p l
def gz(p:Nat->Bool):ux S->Bool
 |.box a=>iG p a|.Im _ l=>y9 p l|.lp l=>mD (cE p) l.fr.tm|.kX _ _ _ _ m _ _=>p m|_=>J
def jx(p:Nat->Bool)(v:V S):V S:=bif cE p v then yP else v
def gJ(p:Nat->Bool):ux S->ux S
 |.box b=>.box (b.map (jx p))|.Im c l=>.Im c (l.map λx=>(x.1,jx p x.2))|.lp l=>.lp {l with fr:={l.fr with tm:=l.fr.tm.mapA (jx p)}}
 |.kX n j l era m a hole=>bif p m then .gone else .kX n j l era m a hole|o=>o
def cG(ds ow bs:L Nat)(fr:bU S)(s1:bu S):bU S×bu S:=
 ({fr with tm:=(ds.foldl (λt k=>t.del aR k) fr.tm).keep λv=>!(cE (dN ow s1.aL) v),df:=fr.df.map (eJ (cE (dN ow s1.aL)))},yw bs {s1 with ob:=s1.ob.mapA (gJ (dN ow s1.aL)),wr:=[],dr:=[]})
def PK:Sh->Sh
 |[]=>[]|(_,.one _)::l=>PK l|(k,.box b)::l=>(k,.box b)::PK l|(k,.hid b)::l=>(k,.hid b)::PK l
def pX(sh:Sh)(bs:L Nat)(fr:bU S)(s:bu S):O (fX S.A (kU sh)×bu S×L Nat):=
 match uY fr sh bs with
 |none=>Y|some f=>match eL s (kU sh) f Y with
  |none=>Y|some (x,e,d,c)=>match dX s e with
   |none=>Y|some g=>bif rL d&&(Cr d e&&(rL c&&(Nq (cB c) (cB bs)&&(c.zip bs).all λ(a,b)=>Nq a b)))then Z (x,g,d)else Y
def oO:ux S->Bool
 |.arr ..|.kS ..|.kX ..|.rws ..|.gone|.FQ=>J|_=>W
def ptO(fr:bU S)(s:bu S)(p:Pt):O Nat:=match It fr s p with
 |some (.ptr o 0)=>Z o|some (.mp o)=>Z o|some (.rB o)=>Z o|_=>Y
def XR(fr:bU S)(s:bu S):L Pt->O (L Nat)
 |[]=>Z []|p::l=>match ptO fr s p,XR fr s l with
  |some o,Z r=>Z (o::r)|_,_=>Y
def IC:L Nat->Nat
 |[]=>0|a::l=>bif Nl (IC l) a then a else IC l
def yS:Sh->L Nat
 |[]=>[]|(k,.one _)::l=>k::yS l|(_,.box _)::l=>yS l|(_,.hid _)::l=>yS l
def BG(l:L Nat)(o:Nat):Bool:=!(l.contains o)
def Zu(args:L (V S)):bU S:={n:=cB args,tm:=mF args 0 .nil}
def adh(l:L Nat)(sh:Sh)(fr:bU S):bU S:={n:=fr.n,tm:=((yS sh).foldl (λt k=>t.del aR k) fr.tm).keep λv=>!(cE (BG l) v)}
def Dj(ob:Tr (ux S)):L Nat->Tr (ux S)
 |[]=>.nil|o::l=>match ob.get o with
  |some x=>(Dj ob l).set aR o x|none=>Dj ob l
def stJ(bs a:L Nat)(s:bu S):bu S:=⟨Dj s.ob a,Ns (IC (bs++a)),s.fl,0,[],[]⟩
def frE:bU S:={n:=0,tm:=.nil}
def getAll(fr:bU S):Nat->Nat->O (L (V S))
 |_,0=>Z []|j,n+1=>match fr.get j,getAll fr (Ns j) n with
  |some v,Z l=>Z (v::l)|_,_=>Y
def TV(l a:L Nat)(s:bu S):Bool:=a.all λo=>match s.ob.get o with
 |some ob=>oO ob&&!(gz (BG l) ob)|none=>J
abbrev JT(S:Sg)(sh:Sh)(rs:L Ck):=gr S.A rs×fX S.A (kU (PK sh))
def aem(sh:Sh)(a:L Ck)(bs b:L Nat)(v:V S)(s:bu S):O (JT S sh a):=
 match fY s a (Xh a v),pX (PK sh) bs frE s with
 |some (r,_,_),Z (y,c,_)=>bif b.all (λo=>!(c.wr.contains o))then Z (r,y)else Y|_,_=>Y
def abH(call:fU S)(f:FuncId)(sh:Sh)(a:L Ck)(bs b:L Nat)(fr:bU S)(s:bu S)(x:fX S.A (kU sh)):O (JT S sh a):=
 match mS sh bs x fr s with
 |none=>Y|some (fr,s)=>match getAll fr 0 fr.n with
  |none=>Y|some args=>call (.jn f) args s (aem sh a bs b) (λ_ _=>Y)
section
variable (E:eT S)(call:fU S){ω:Type}
def agV(s:bu S)(c:me S)(args:L (V S))(k:V S->bu S->L Nat->O ω):O ω:=
 bif QH c.ps&&(kM c.rs&&!c.pn)then match lB s c.ps args with
  |none=>Y|some (x,a)=>match dX s a with
   |none=>Y|some _=>ai (c.F x) λr=>match RT.res c.pn r with
    |.ok r=>k (DM (sV c.rs r.1)) s []|.hU _=>Y
 else Y
def OD(s:bu S)(c:me S)(args:L (V S))(kp:V S->bu S->O ω)(k:V S->bu S->L Nat->O ω):O ω:=bif Ze c.ps then agV s c args k else
 match eL s c.ps args Y with
 |none=>Y|some (x,f,a,d)=>match dX s f with
  |none=>Y|some b=>bif Yt c then ai (c.F x) λr=>match RT.res c.pn r with
     |.ok r=>k (DM (sV c.rs r.1)) s []|.hU _=>Y
   else bif rL a&&(rL d&&Cr a f)then
    ai (c.F x) λr=>match RT.res c.pn r with
     |.ok r=>match lQ (yw d (forget a {b with wr:=a++b.wr,dr:=a++b.dr})) c.ps d r.2 with
      |none=>Y|some e=>match ig e c.rs r.1 with
       |(l,g)=>bif Nl g.aL bC then k (DM l) g a else Y
     |.hU p=>match lQ (yw d (forget a {b with wr:=a++b.wr,dr:=a++b.dr})) c.ps d p.2 with
      |none=>Y|some e=>match a with
       |[]=>bif Nl e.aL bC then kp (.ty S.pt p.1) e else Y|_::_=>Y
   else Y
def yA(k:V S->bu S->O ω)(d:O ω):L (Bool×V S×bu S)->O ω
 |[]=>d|p::l=>au p.1 (k p.2.1 p.2.2) (yA k d l)
def evJ(a:JSh)(s:bu S)(f:FuncId)(args:L (V S))(k:V S->bu S->L Nat->O ω):O ω:=
 match qS (Zu args) s a.sh a.pts,XR (Zu args) s a.ks with
 |some b,Z d=>match pX a.sh b (Zu args) s with
  |none=>Y|some (g,c,e)=>bif (Nt (cB args) bC&&(yS a.sh).all λk=>Nt k bC)&&(kM a.rs&&(TV (b++d) d c&&Nl (Ns (IC (b++d))) c.aL))then
    ai (abH call f a.sh a.rs b d (adh (b++d) a.sh (Zu args)) (stJ b d c) g) λy=>
     match mS (PK a.sh) b y.2 frE (cG [] e b frE c).2 with
     |none=>Y|some (_,h)=>k (DM (sV a.rs y.1)) {h with wr:=c.ob.jI (gz (dN e c.aL))++(b++(e++c.wr)),dr:=e++c.dr} e
   else Y
 |_,_=>Y
def uc(s:bu S)(f:FuncId)(args:L (V S))(kp:V S->bu S->O ω)(k:V S->bu S->L Nat->O ω):O ω:=match E.IK f with
 |some c=>OD s c args kp k|none=>match E.cj f with
  |some a=>evJ call a s f args k|none=>call (.fn f) args s (λt b=>k t b []) kp
def ZA(s:bu S)(m:String)(args:L (V S))(n:Nat)(x:den S.A (.cT n))(kp:V S->bu S->O ω)(k:V S->bu S->L Nat->O ω):L (TypeId×Ty)->Nat->O ω
 |[],_=>Y|p::l,j=>au (jD (S.alts n) j (S.tV n x)) (match E.T.KX p.1 m with
   |some f=>bif Nq p.1 ((nth (S.alts n) j).elim 0 (·.1))then uc E call s f (.ty (mU (S.alts n) j) (j8 S.zero (S.alts n) j (S.tV n x))::args) kp k else Y|none=>Y) (ZA s m args n x kp k l (Ns j))
def aiy:O (V S)->O Nat
 |some (.rB o)=>Z o|_=>Y
def tZ(o:Oper)(fr:bU S)(s:bu S)(kp:V S->bu S->O ω)(k:V S->bu S->L Nat->O ω):O ω:=
 match o.op with
 |.call c=>match kK fr c.args.toList with
  |none=>Y|some args=>match c.callee with
   |.builtin b=>match kZ E.T s b c.argTypes args with
    |none=>Y|some (p,t,a)=>aK p (k t a [])
   |.value f=>match aiy (cA fr f)with
    |some o=>call (.yl o) args s (λt a=>k t a []) kp|none=>match(cA fr f).bind (oZ · args)with
     |none=>Y|some (f,args)=>uc E call s f args kp k
   |.invoke x m=>match cA fr x with
    |some (.cT t v)=>match E.T.KX t m with
     |some f=>uc E call s f (v::args) kp k|none=>Y
    |some (.ty (.cT n) x)=>ZA E call s m args n x kp k (S.alts n) 0|_=>Y
 |.panic x=>match cA fr x with
  |some (.cT t v)=>kp (.cT t v) s|_=>Y
 |op=>match iS E.T fr s op with
  |some (e,p,d,a)=>yA (λv s=>k v s []) (aK p (k d a [])) e|none=>match Al E.T fr s op with
   |none=>Y|some (p,t,a)=>aK p (k t a [])
def zi(c:O Bool)(p:Bool)(x:O ω):O ω:=match c with
 |none=>aK p x|some c=>aK (imp c p) x
def akH{α:Type}(c:O Bool)(x:O α)(z:α):O α:=match c with
 |none=>x|some c=>au c x (Z z)
mutual
def xK:V S->Bool
 |.sh _ _=>J|.rM _ _ _ _=>J|.cT _ v=>xK v|.agg a=>jP a|.gM a=>jP a|_=>W
def jP:L (V S)->Bool
 |[]=>W|v::l=>xK v&&jP l
end
def WK(S:Sg):(cs:L Ck)->gr S.A cs
 |[]=>()|c::cs=>(S.zero c.ty,WK S cs)
def aiQ(A:Nat->Type):(ps:L Pk)->O (iw A ps)
 |[]=>Z ()|.one _::ps=>aiQ A ps|.box _::_=>Y|.hid _::_=>Y
def Em:Builtin->Bool
 |.len|.max|.min=>W|_=>J
def wE(k:V S->O ω)(d:O ω):L (Bool×V S×bu S)->O ω
 |[]=>d|p::l=>au p.1 (k p.2.1) (wE k d l)
def fE(g:O Bool)(fr:bU S)(s:bu S)(o:Oper)(k:V S->O ω):O ω:=
 match o.op with
 |.call c=>match kK fr c.args.toList with
  |none=>Y|some args=>match c.callee with
   |.builtin b=>bif Em b then match kZ E.T s b c.argTypes args with
     |some (p,t,_)=>zi g p (k t)|none=>Y
    else Y
   |.value f=>match(cA fr f).bind (oZ · args)with
    |none=>Y|some (f,args)=>match E.IK f with
     |none=>Y|some c=>bif cm c.ps&&(jK c.rs&&(jP args&&!c.pn))then
       match eL s c.ps args Y,aiQ S.A c.ps with
       |some (x,_,_,_),Z b=>ai (akH g (c.F x) (RT.ok c.pn (WK S c.rs,b))) λr=>match RT.res c.pn r with
        |.ok r=>k (DM (sV c.rs r.1))|.hU _=>Y
       |_,_=>Y
      else Y
   |_=>Y
 |.store ..|.alloc ..|.box ..|.panic ..|.makeMap ..|.mapUpdate ..|.insert ..|.makeSlice ..|.range ..|.next ..|.defer ..=>Y|.buildSlice t n e=>match ja fr e.toList with
  |some l=>bif jP (l.map (·.2))then match Al E.T fr s (.buildSlice t n e)with
   |none=>Y|some (p,v,_)=>zi g p (k v)
   else Y
  |none=>Y
 |.slice t x lo h i=>match cA fr x with
  |some v=>bif xK v then match Al E.T fr s (.slice t x lo h i)with
   |none=>Y|some (p,v,_)=>zi g p (k v)
   else Y
  |none=>Y
 |op=>match iS E.T fr s op with
  |some (a,p,d,_)=>wE k (zi g p (k d)) a|none=>match Al E.T fr s op with
   |none=>Y|some (p,v,_)=>zi g p (k v)
def By(fr:bU S)(o:Oper):Bool:=
 match o.op with
 |.call c=>match kK fr c.args.toList with
  |none=>J|some args=>match c.callee with
   |.builtin b=>Em b|.value f=>match(cA fr f).bind (oZ · args)with
    |none=>J|some (f,args)=>match E.IK f with
     |none=>J|some c=>cm c.ps&&(jK c.rs&&(jP args&&!c.pn))
   |_=>J
 |.store ..|.alloc ..|.box ..|.panic ..|.makeMap ..|.mapUpdate ..|.insert ..|.makeSlice ..|.range ..|.next ..|.defer ..=>J|.buildSlice _ _ a=>match ja fr a.toList with
  |some l=>jP (l.map (·.2))|none=>J
 |.slice _ x _ _ _=>match cA fr x with
  |some v=>xK v|none=>J
 |_=>W
def qW(fr:bU S)(o:Op):bU S:=
 o.operands.toList.foldl (λf x=>match x with
  |.tmp k=>match fr.get k with
   |some (.gd _ v)=>f.put k v|_=>f
  |_=>f) fr
def Om(c:Bool)(fr:bU S)(o:Op):Bool:=
 o.operands.toList.foldl (λp x=>match x with
  |.tmp k=>match fr.get k with
   |some (.gd g _)=>p&&imp c g|_=>p
  |_=>p) W
def iH(ops:L Oper)(fr:bU S)(o:Oper):O (O Bool):=
 match o.guard with
 |none=>Z Y|some (j,a)=>match((nth ops j).bind (·.dst)).bind fr.get with
  |some (.kb b)=>bif (bif b then a else !a)then Z Y else Z (Z J)|some t=>match gK t with
   |some b=>Z (Z (Kn b a))|none=>Y
  |none=>Y
def uH(ops:L Oper)(fr:bU S)(o:Oper):Bool:=
 match o.guard with
 |none=>J|some (j,a)=>match((nth ops j).bind (·.dst)).bind fr.get with
  |some (.kb b)=>bif b then !a else a|some (.dat (.lit (.tuple _)))=>W|_=>J
def TA(ops:L Oper)(d:O Nat):Bool:=match d with
 |none=>J|some d=>ops.any λo=>match o.guard with
  |none=>J|some (j,_)=>match(nth ops j).bind (·.dst)with
   |some e=>Nq d e|none=>J
def Kw{ω:Type}(b:Bool)(t:V S)(k:V S->O ω):O ω:=bif b then match t with
  |.ty .bool x=>au x (k (.kb W)) (k (.kb J))|t=>k t
 else k t
def gB(fr:bU S):O Nat->Bool
 |none=>W|some d=>Nt d fr.n
def oX(ops:L Oper)(o:Oper)(fr:bU S)(s:bu S)(kp:V S->bu S->O ω)(k:V S->bu S->L Nat->O ω):O ω:=
 bif gB fr o.dst then bif uH ops fr o then k ej s []else match iH ops fr o with
  |none=>Y|some Y=>tZ E call o fr s kp k|some (Z c)=>
   let f:=qW fr o.op
   bif By E f o then aK (Om c fr o.op) (fE E (Z c) f s o λt=>k (.gd c t) s [])
   else au c (aK (Om c fr o.op) (tZ E call o f s kp k)) (k (.gd J ej) s [])
 else Y
def Rr(fr:bU S)(o:Oper):O (r7 S):=match o.guard,o.op with
 |none,.defer c=>match c.callee with
  |.value f=>match cA fr f,kK fr c.args.toList with
   |some (.fn f a b),Z args=>Z (.call (.fn f a b) args)|_,_=>Y
  |_=>Y
 |_,_=>Y
def Rm(ops:L Oper)(o:Oper)(fr:bU S)(s:bu S)(kp:V S->bu S->O ω)(k:bU S->bu S->O ω):O ω:=
 match Rr fr o with
 |some d=>bif gB fr o.dst then k {(fr.iQ o.dst yP)with df:=d::fr.df} s else Y
 |none=>oX E call ops o fr s kp λt a b=>Kw (TA ops o.dst) t λt=>k ((dy b fr).iQ o.dst t) a
def TF(ops:L Oper)(kp:bU S->V S->bu S->O ω)(k:bU S->bu S->O ω):L Oper->bU S->bu S->O ω
 |[],a,s=>k a s|o::l,a,s=>Rm E call ops o a s (kp a) λb c=>TF ops kp k l b c
end
end
end TL
end
end
