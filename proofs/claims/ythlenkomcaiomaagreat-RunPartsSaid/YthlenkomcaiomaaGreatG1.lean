import GoSem.Dispatch
import GoSem.Machine.Return
import Derived.Calls
import Derived.RowKit
import Derived.WalkKit
import Derived.Deep.AppendSrc
import Derived.Laws.StructEq
import Derived.Room.AppendAny
import Derived.RangeFuncIn
import Derived.RangeFuncLeaves
import Derived.RangeFuncRecord
import Derived.Orders
set_option linter.all false
set_option maxRecDepth 100000
set_option maxHeartbeats 0
noncomputable section
open Option renaming some->Z,none->Y
open Bool renaming true->W,false->J
open Nat renaming beq->Nq,ble->Nl,blt->Nt,succ->Ns,add->Na
open Go.Result(andThen_ok)
open Go.Sem(run_bind run_pure)
section
namespace TL
section
abbrev O:=@Option
abbrev L:=@List
abbrev U:=Unit
abbrev fM:=@Option.map_eq_some_iff
abbrev gN:=@Nat.le_of_ble_eq_true
abbrev iR:=@List.getElem?_eq_getElem
abbrev bL:=@if_neg
abbrev eZ:=@Bool.and_eq_true
abbrev g7:=@List.mem_cons_of_mem
abbrev gK:=@Option.some.injEq
abbrev fh:=@Prod.mk.injEq
abbrev iO:=@Nat.lt_of_lt_of_le
abbrev eM:=@Nat.le_refl
abbrev eP:=@List.mem_append_right
abbrev bw:=@if_pos
abbrev eI:=@List.mem_cons_self
abbrev fL:=@List.mem_append_left
abbrev eS:=@List.mem_append
abbrev iq:=@List.mem_of_getElem?
abbrev gj:=@Int.natCast_add
abbrev gq:=@Int.natCast_one
abbrev fS:=@List.mem_cons
abbrev fZ:=@Nat.le_trans
abbrev je:=@decide_eq_false
abbrev kV:=@List.getElem?_map
abbrev jB:=@List.append_nil
abbrev jA:=@Option.map_some
abbrev jT:=@Option.some.inj
abbrev kA:=@List.all_eq_true
abbrev mG:=@List.length_append
abbrev vR:=@List.getD_eq_getElem?_getD
abbrev kz:=@decide_eq_true
abbrev rH:=@List.length_singleton
abbrev uy:=@Array.getElem?_eq_getElem
abbrev fq:=@congrArg
abbrev vQ:=@Nat.eq_of_beq_eq_true
abbrev ny:=@List.length_cons
abbrev rG:=@List.getElem_of_mem
abbrev vP:=@Option.bind_eq_some_iff
abbrev ux:=@List.mem_singleton_self
abbrev gY:=@cond_true
abbrev tq:=@List.getElem?_append
abbrev jo:=@cond_false
abbrev uw:=@List.pairwise_append
abbrev Eg:=@List.eq_nil_of_length_eq_zero
abbrev oG:=@Bool.or_eq_true
abbrev rF:=@decide_eq_true_eq
abbrev tj:=@List.mem_singleton
abbrev pH:=@Bool.false_and
abbrev pG:=@List.map_cons
abbrev zn:=@Nat.mul_le_mul_right
abbrev zm:=@Bool.and_eq_true_iff
abbrev zl:=@Bool.or_eq_false_iff
abbrev qC:=@Bool.true_and
abbrev we:=@Int.toNat_natCast
abbrev Nn:=@Nat.ble_eq_true_of_le
abbrev AG:=@List.mem_filterMap
abbrev BX:=@Int.toNat_of_nonneg
abbrev AF:=@List.append_assoc
abbrev Nm:=@List.mem_zipIdx_iff_getElem?
abbrev FJ:=@List.contains_eq_mem
abbrev v9:=@List.mem_map
abbrev QB:=@List.pairwise_iff_getElem
abbrev Nk:=@List.getElem?_cons_zero
abbrev Nj:=@List.singleton_append
abbrev KJ:=@List.length_take
abbrev BW:=@Nat.zero_add
abbrev Ni:=@List.length_pos_iff
abbrev U1:=@List.getElem?_eq_some_iff
abbrev sr:=@if_true
abbrev Xl:=@List.take_append_drop
abbrev Nh:=@List.getElem_mem
abbrev Ng:=@Bool.false_eq_true
abbrev U0:=@Classical.axiomOfChoice
abbrev Nf:=@Bool.not_eq_true'
abbrev QA:=@List.length_map
abbrev Xk:=@List.length_eq_one_iff
abbrev Xj:=@Array.getElem?_eq_some_iff
abbrev yo:=@if_false
abbrev Qz:=@Option.getD_some
abbrev vO:=@Iff.rfl
abbrev abu:=@List.contains_iff_mem
abbrev KI:=@Bool.and_false
abbrev Xi:=@List.mem_or_eq_of_mem_set
abbrev Xh:=@List.getElem?_append_left
abbrev Xg:=@Classical.byContradiction
abbrev UZ:=@List.mem_of_mem_take
abbrev Nd:=@List.nodup_cons
abbrev Qy:=@List.getElem?_set
abbrev Qx:=@Classical.not_not
abbrev KH:=@Bool.not_true
abbrev Xf:=@decide_eq_false_iff_not
abbrev Xe:=@List.map_congr_left
abbrev UY:=@Array.toList_append
abbrev Nc:=@Bool.not_false
abbrev Nb:=@Nat.testBit_or
abbrev Qw:=@List.take_length
abbrev Xd:=@List.getElem?_set_self
abbrev Iz:=@Int.le_refl
abbrev UX:=@List.getElem?_take
abbrev Qv:=@List.length_set
abbrev UW:=@List.map_append
abbrev Xc:=@List.getElem?_zipWith
abbrev Tg:=@List.exists_cons_of_ne_nil
abbrev Dt:=@Bool.and_true
abbrev NB:=@List.getElem?_of_mem
abbrev Tf:=@List.drop_eq_getElem_cons
abbrev aiB:=@Option.filter_eq_some_iff
abbrev AH:=@Nat.zero_le
abbrev FM:=@Option.map_map
abbrev Ds:=@Nat.le_of_eq
abbrev ad3:=@List.take_succ_eq_append_getElem
abbrev NA:=@List.getElem?_drop
abbrev Dr:=@Nat.le_succ
abbrev Nz:=@List.ext_getElem?
abbrev Ny:=@of_decide_eq_true
abbrev FL:=@List.map_set
abbrev Te:=@List.getElem?_toArray
abbrev FK:=@Int.add_zero
abbrev Td:=@Nat.div_lt_of_lt_mul
abbrev Nx:=@List.foldl_cons
abbrev Nw:=@List.nil_append
abbrev Nv:=@List.cons.injEq
abbrev Nu:=@List.all_append
abbrev Nr:=@Nat.mul_comm
abbrev XE:=@List.eq_of_mem_replicate
abbrev Jg:=@Nat.le_of_lt
abbrev ad2:=@Option.isSome_iff_exists
abbrev Np:=@Nat.mul_le_mul
abbrev ad1:=@List.drop_drop
abbrev ad0:=@Array.toList_eq_nil_iff
abbrev Tc:=@List.size_toArray
abbrev Tb:=@Nat.lt_succ_of_le
abbrev Jf:=@Nat.one_mul
abbrev No:=@Bool.and_self
abbrev Ta:=@List.length_drop
abbrev S9:=@Option.bind_some
abbrev S8:=@Array.toList_map
abbrev S7:=@List.any_eq_true
open Go
inductive Tr(α:Type) where
 |nil|node (v:Option α) (l r:Tr α)
 deriving Inhabited
namespace Tr
variable {α:Type}
def get:Tr α->Nat->O α
 |.nil,_=>Y|.node v l r,k=>match k with
  |0=>v|k+1=>match Nq (Nat.mod k 2) 0 with
   |true=>l.get (Nat.div k 2)|false=>r.get (Nat.div k 2)
def set:Nat->Tr α->Nat->α->Tr α
 |0,t,_,_=>t|n+1,.nil,k,x=>match k with
  |0=>.node (Z x) .nil .nil|k+1=>match Nq (Nat.mod k 2) 0 with
   |true=>.node Y (set n .nil (Nat.div k 2) x) .nil|false=>.node Y .nil (set n .nil (Nat.div k 2) x)
 |n+1,.node v l r,k,x=>match k with
  |0=>.node (Z x) l r|k+1=>match Nq (Nat.mod k 2) 0 with
   |true=>.node v (set n l (Nat.div k 2) x) r|false=>.node v l (set n r (Nat.div k 2) x)
end Tr
def oK:IntKind->IntKind->Bool
 |.i8,.i8|.i16,.i16|.i32,.i32|.i64,.i64|.u8,.u8|.u16,.u16|.u32,.u32|.u64,.u64=>W|_,_=>J
def cD{α:Type}:L α->Nat
 |[]=>0|_::l=>Ns (cD l)
def nth{α:Type}:L α->Nat->O α
 |[],_=>Y|a::_,0=>Z a|_::l,k+1=>nth l k
inductive D where
 |lit (v:Value)|sl (es:List D)|agg (cs:List D)|de (t:TypeId) (d:D)|gM (ds:List D)|pt (d:D)|mp (ks vs:List D)
 deriving Inhabited
namespace D
def toInt:D->Int|.lit (.int _ n)=>n|_=>0
def isInt(k:IntKind):D->Bool|.lit (.int j _)=>oK j k|_=>J
def toBool:D->Bool|.lit (.bool b)=>b|_=>J
def isBool:D->Bool|.lit (.bool _)=>W|_=>J
def toStr:D->ByteArray|.lit (.string b)=>b|_=>.empty
def isStr:D->Bool|.lit (.string _)=>W|_=>J
def afb:D->L D|.sl es=>es|_=>[]
def ajy:D->Bool|.sl _=>W|_=>J
def cells:D->L D|.agg cs=>cs|d=>[d]
def cell(d:D)(j:Nat):D:=d.cells.getD j (.lit (.tuple #[]))
def leaf:D->Bool
 |.agg _|.gM _=>J|.lit (.agg _)|.lit (.tuple _)=>J|_=>W
def isAgg(n:Nat):D->Bool|.agg cs=>Nq (cD cs) n&&cs.all leaf|_=>J
def proj:D->Nat->D|.gM ds,k=>ds.getD k (.lit (.tuple #[]))|_,_=>.lit (.tuple #[])
def agy(n:Nat):D->Bool|.gM ds=>Nt n (cD ds)|_=>J
def ajz:D->Bool|.de _ _=>W|_=>J
def has(d:D)(m:Nat):Prop:=m<=d.cells.length
def wide(d:D)(m:Nat):Prop:=d.cells.length=m
def lby:D->Nat
 |.lit (.string _)|.lit .nilIface|.de _ _=>16|.sl _|.lit (.slice ..)=>24|_=>8
def oY:L D->Nat
 |[]=>0|d::l=>Na d.lby (oY l)
def sL:D->Nat
 |.agg a=>oY a|.lit (.bool _)=>1|.lit (.int .i8 _)|.lit (.int .u8 _)=>1|.lit (.int .i16 _)|.lit (.int .u16 _)=>2|.lit (.int .i32 _)|.lit (.int .u32 _)=>4|d=>d.lby
def flat(d:D):Bool:=d.cells.all leaf
def PS(d:D)(off:Nat)(l:L D):D:=match d with
 |.agg a=>.agg (a.take off++l++a.drop (off+l.length))|d=>l.getD 0 d
def SV(d:D)(sz off n:Nat):Prop:=d.isAgg sz=W∨(d.leaf=W∧sz=1∧off=0∧n=1)
end D
def jf(es:L D)(i:Nat):D:=es.getD i (.lit (.tuple #[]))
def eH(es:L D):Int:=es.length
def lH(n:Int)(len:Int):Prop:=0<=n∧n<len
def y9(lo hi len:Int):Prop:=0<=lo∧lo<=hi∧hi<=len
def o7(es:L D)(lo hi:Int):L D:=(es.take hi.toNat).drop lo.toNat
def Ml(b:ByteArray)(lo hi:Int):ByteArray:=b.extract lo.toNat hi.toNat
def vu(b:ByteArray):Int:=b.size
def aaI(b:ByteArray)(n:Int):Int:=(b.get! n.toNat).toNat
def Mm(a b:ByteArray):Prop:=a.size+b.size<=4611686018427387904
def Sw(a b:ByteArray):ByteArray:=a++b
def iB(a b:L D):L D:=a++b
def y8(es:L D)(k:Nat)(d:D):L D:=es.set k d
def jz(es:L D)(sz:Nat):Prop:=∀d∈es,d.cells.length=sz
def vL(es:L D)(b:Nat):Prop:=∀d∈es,d.sL=b∧d.flat=W
def Ee(n:Int):Nat:=n.toNat
def Ad:Int:=0
def aF(k:IntKind)(a b:Int):Int:=k.wrap (a+b)
def bF(k:IntKind)(a b:Int):Int:=k.wrap (a-b)
def Kl(k:IntKind)(a b:Int):Int:=k.wrap (a*b)
def PC(k:IntKind)(a:Int):Int:=k.wrap (-a)
def Sy(k:IntKind)(a:Int):Int:=k.wrap a
def BJ(a b:Int):Int:=a.tmod b
def aaJ(k:IntKind)(a b:Int):Int:=k.wrap (a.tdiv b)
def ahw(a:Int):Prop:=a≠0
def aa(a b:Int):Bool:=a==b
def o8(a b:Bool):Bool:=a==b
def Um(a b:ByteArray):Bool:=a==b
def aC(a b:Int):Bool:=decide (a<b)
def bn(a b:Int):Bool:=decide (a<=b)
def aaK(c a b:Bool):Bool:=if c then a else b
def ak(a:Bool):Bool:=!a
def cm(a b:Bool):Bool:=a&&b
inductive T where
 |sym (d:D)|kb (b:Bool)|kn (k:IntKind) (n:Int)|ptr (o off:Nat)|lR (d:D) (off:Nat)|lQ (o e i off:Nat)|sh (o e:Nat)|emp|kr (n:Nat) (es:List D)|fn (f:Fn) (first cap:List T)
 |de (t:TypeId) (v:T)|agg (cs:List T)|gM (vs:List T)|gd (c:Bool) (v:T)|mp (o:Nat)|rE (o:Nat)|uj (o:Nat)|ub (e:Bool)|sx (o m r i:Nat)|pW (j:Nat) (d:D)
 deriving Inhabited
inductive Df where
 |call (f:T) (args:List T)|mark (o:Nat)|marks (o:Nat)|ko|bad
 deriving Inhabited
def Df.one:Df->Bool
 |.marks _|.ko=>J|_=>W
structure Fr where
 n:Nat
 tm:Tr T
 df:List Df:=[]
 deriving Inhabited
structure Lp where
 st:LoopState
 vS:Option Code
 fid:FuncId
 fr:Fr
 params:List Nat
 assign:Code
 body:Code
inductive Ob where
 |box (cs:List T)|arr (sz:Nat) (es:List D) (era:Nat)|lq (sz:Nat) (es:List D) (era:Nat)|map (es:List (T×T))|rD (b:ByteArray) (pos:Nat)|lp (l:Lp)|Ah|lD (nj sz:Nat) (es:List D) (era m gX:Nat) (hole:Option Nat)|rws (sz:Nat) (iQ:List (List D)) (gX:Nat)|gone|Gd
 deriving Inhabited
def Ob.oe:Ob->Bool
 |.arr ..|.lq ..|.lD ..|.rws ..|.gone|.Gd=>W|_=>J
def Ob.isA:Ob->Bool
 |.arr ..|.lq ..=>W|_=>J
def Ob.odd:Ob->Bool
 |.map _|.rD _ _|.lp _|.Ah=>W|_=>J
structure St where
 ob:Tr Ob
 aE:Nat
 fl:Nat
 lo:Nat
 deriving Inhabited
def aK:Nat:=64
def bC:Nat:=1000000000
def Fr.get(fr:Fr)(k:Nat):O T:=fr.tm.get k
def Fr.put(fr:Fr)(k:Nat)(v:T):Fr:={fr with tm:=fr.tm.set aK k v}
def Fr.jq(fr:Fr)(k:O Nat)(v:T):Fr:=match k with|some k=>fr.put k v|none=>fr
inductive Lk where
 |int (k:IntKind)|bool|str|no
 deriving DecidableEq,Inhabited
inductive Kd where
 |leaf (l:Lk)|ptr|slice (sz:Nat) (agg:Bool) (sL:Nat) (zero:List D)|struct (fs:List (Nat×Nat×Bool))|array (len sz:Nat) (agg:Bool)|iface|other
 deriving Inhabited
structure TI where
 size:Nat
 agg:Bool
 zero:List D
 lks:List Lk
 kd:Kd
 deriving Inhabited
structure PE where
 pre:List D->Prop
 f:List D->D
structure Env where
 P:Program
 ti:Nat->Option TI
 TO:Nat->Option Func
 II:Nat->Option PE
def DA:Value->O D
 |.bool b=>Z (.lit (.bool b))|.int k n=>Z (.lit (.int k n))|.string s=>Z (.lit (.string s))|.pointer Y=>Z (.lit (.pointer Y))|.map Y=>Z (.lit (.map Y))|.nilFunc=>Z (.lit .nilFunc)|.nilIface=>Z (.lit .nilIface)|.tuple a=>match a.toList with
  |[]=>Z (.lit (.tuple #[]))|_=>Y
 |_=>Y
def ofConst:Value->O T
 |.bool b=>Z (.kb b)|.int k n=>Z (.kn k n)|.slice Y 0 0=>Z .emp|.func f a b=>match a.toList,b.toList with
  |[],[]=>Z (.fn f [] [])|_,_=>Y
 |.iface t v=>(DA v).map λd=>.sym (.de t d)|v=>(DA v).map .sym
def qG:D->T
 |.lit (.bool b)=>.kb b|.lit (.int k n)=>.kn k n|.sl []=>.emp|d=>.sym d
def T.leaf:T->Prop
 |.sym d=>d.leaf=W|.agg _|.gM _|.gd _ _=>False|_=>True
def kj(i:TI):T->O (Prop×L T)
 |.agg a=>bif i.agg&&Nq (cD a) i.size then Z (True,a)else Y|.sym d=>
  bif i.agg then Z (d.isAgg i.size=W,(List.range i.size).map λj=>.sym (d.cell j))
  else bif Nq i.size 1 then Z (d.leaf=W,[.sym d])else Y
 |.gM _|.gd _ _=>Y|t=>bif i.agg then Y else bif Nq i.size 1 then Z (True,[t])else Y
def wj(agg:Bool)(cs:L T):O T:=
 bif agg then Z (.agg cs)else match cs with
  |[x]=>Z x|_=>Y
def jZ(fr:Fr):Operand->O T
 |.tmp k=>fr.get k|.const v=>ofConst v|.global _=>Y|.func f=>Z (.fn (.func f) [] [])
def yM(fr:Fr):L Operand->O (L T)
 |[]=>Z []|x::l=>match jZ fr x,yM fr l with
  |some t,Z r=>Z (t::r)|_,_=>Y
def yq(k:IntKind):T->O (Prop×Int)
 |.kn j n=>bif oK j k then Z (True,n)else Y|.sym d=>Z (d.isInt k=W,d.toInt)|_=>Y
def Bs:T->O (Prop×Bool)
 |.kb b=>Z (True,b)|.sym d=>Z (d.isBool=W,d.toBool)|_=>Y
def Aq:T->O (Prop×ByteArray)
 |.sym d=>Z (d.isStr=W,d.toStr)|_=>Y
def BS(s:St):T->O (Prop×L D)
 |.emp=>Z (True,[])|.kr _ a=>Z (True,a)|.pW _ d=>Z (True,[d])|.sym d=>Z (d.ajy=W,d.afb)|.sh o e=>match s.ob.get o with
  |some (.arr _ a era)|some (.lq _ a era)=>bif Nq e era then Z (True,a)else Y|_=>Y
 |_=>Y
def A4(nj:Nat)(d:D)(a:L D):D:=.agg (d.cells.set nj (.sl a))
def mN(nj:Nat)(es:L D)(iQ:L (L D)):L D:=List.zipWith (A4 nj) es iQ
def Ix(s:St)(m r:Nat):O (L (L D)):=match s.ob.get m with
 |some (.rws _ a b)=>bif Nq r b then Z a else Y|_=>Y
mutual
def BP(s:St):T->O (Prop×D×L Nat)
 |.sym d=>Z (True,d,[])|.kb b=>Z (True,.lit (.bool b),[])|.kn k n=>Z (True,.lit (.int k n),[])|.emp=>Z (True,.sl [],[])|.kr _ a=>Z (True,.sl a,[])|.pW _ d=>Z (True,.sl [d],[])|.sh o e=>match s.ob.get o with
  |some (.arr _ a era)=>bif Nq e era then Z (True,.sl a,[o])else Y|some (.lq _ a era)=>bif Nq e era then Z (True,.sl a,[])else Y|some (.lD g _ a era m r Y)=>match Ix s m r with
   |some c=>bif Nq e era&&Nt m bC then Z (True,.sl (mN g a c),[o,m])else Y|none=>Y
  |_=>Y
 |.de t v=>match BP s v with
  |some (p,d,os)=>Z (p,.de t d,os)|none=>Y
 |.agg f=>match nZ s f with
  |some (p,ds,os)=>Z (p∧ds.all D.leaf=W,.agg ds,os)|none=>Y
 |.gM f=>match nZ s f with
  |some (p,ds,os)=>Z (p,.gM ds,os)|none=>Y
 |_=>Y
def nZ(s:St):L T->O (Prop×L D×L Nat)
 |[]=>Z (True,[],[])|t::l=>match BP s t,nZ s l with
  |some (p,d,os),Z (q,ds,a)=>Z (p∧q,d::ds,os++a)|_,_=>Y
end
def freeze(s:St):L Nat->O St
 |[]=>Z s|o::l=>
  bif Nl s.fl o then match s.ob.get o with
   |some (.arr sz a era)=>freeze {s with ob:=s.ob.set aK o (.lq sz a era)} l
   |some (.lq _ _ _)=>freeze s l|some (.lD c sz a era m r Y)=>match Ix s m r with
    |some b=>bif l.contains m&&(Nl s.fl m&&Nt m bC)then freeze {s with ob:=(s.ob.set aK m .gone).set aK o (.lq sz (mN c a b) era)} l else Y
    |none=>Y
   |some (.rws ..)=>freeze s l|some .gone=>freeze s l|_=>Y
  else Y
def eg(s:St)(o:Ob):Nat×St:=(s.aE,{s with ob:=s.ob.set aK s.aE o,aE:=Ns s.aE})
def qX:Lk->T->T->O (Prop×Bool)
 |.int k,a,b=>match yq k a,yq k b with
  |some (p,x),Z (q,y)=>Z (p∧q,aa x y)|_,_=>Y
 |.bool,a,b=>match Bs a,Bs b with
  |some (p,x),Z (q,y)=>Z (p∧q,o8 x y)|_,_=>Y
 |.str,a,b=>match Aq a,Aq b with
  |some (p,x),Z (q,y)=>Z (p∧q,Um x y)|_,_=>Y
 |.no,_,_=>Y
def kf:L Lk->L T->L T->O (Prop×Bool)
 |[],[],[]=>Z (True,W)|k::c,a::as,b::d=>match qX k a b,kf c as d with
  |some (p,x),Z (q,y)=>Z (p∧q,cm x y)|_,_=>Y
 |_,_,_=>Y
def aet:T->T->O (Prop×Bool)
 |.sym (.lit (.pointer Y)),.ptr _ _=>Z (True,J)|.ptr _ _,.sym (.lit (.pointer Y))=>Z (True,J)|_,_=>Y
def aeu:T->T->O (Prop×Bool)
 |.sym (.lit .nilIface),.de _ _=>Z (True,J)|.de _ _,.sym (.lit .nilIface)=>Z (True,J)|_,_=>Y
def IT(s:St)(o e:Nat):O (Nat×L D):=
 match s.ob.get o with
 |some (.arr sz a era)=>bif Nq e era then Z (sz,a)else Y|some (.lq sz a era)=>bif Nq e era then Z (sz,a)else Y|_=>Y
def m8(i:TI)(d:D)(off:Nat):O T:=
 bif i.agg then Z (.agg ((List.range i.size).map λj=>.sym (d.cell (Na off j))))
 else bif Nq i.size 1 then Z (.sym (d.cell off))else Y
abbrev sY:=O (Prop×T×St)
def SQ:T:=.sym (.lit (.tuple #[]))
def loadT(i:TI)(s:St):T->sY
 |.ptr o off=>match s.ob.get o with
  |some (.box b)=>
   let l:=(b.drop off).take i.size
   bif Nq (cD l) i.size then(wj i.agg l).map λt=>(True,t,s)else Y
  |_=>Y
 |.lR d off=>(m8 i d off).map λt=>(d.has (Na off i.size),t,s)|.lQ o e k off=>match IT s o e with
  |some (_,a)=>(m8 i (jf a k) off).map λt=>(lH k (eH a)∧(jf a k).has (Na off i.size),t,s)|none=>Y
 |_=>Y
def leaves:L T->Prop
 |[]=>True|t::l=>t.leaf∧leaves l
def storeT(i:TI)(s:St)(a x:T):sY:=
 match kj i x with
 |none=>Y|some (p,l)=>match a with
  |.ptr o off=>match s.ob.get o with
   |some (.box d)=>
    bif Nl s.fl o&&Nl (Na off (cD l)) (cD d)then
     Z (p∧leaves l,SQ,{s with ob:=s.ob.set aK o (.box (d.take off++l++d.drop (Na off (cD l))))})
    else Y
   |_=>Y
  |.lQ o e k off=>match nZ s l with
   |some (q,ds,os)=>match freeze s os with
    |some c=>match c.ob.get o with
     |some (.arr sz b era)=>
      bif Nl c.fl o&&Nq e era then
       Z (p∧q∧ds.all D.leaf=W∧lH k (eH b)∧(jf b k).SV sz off (cD ds)∧Nl (Na off (cD ds)) sz=W∧((jf b k).PS off ds).sL=(jf b k).sL,
        SQ,{c with ob:=c.ob.set aK o (.arr sz (y8 b k ((jf b k).PS off ds)) era)})
      else Y
     |_=>Y
    |none=>Y
   |none=>Y
  |_=>Y
def GQ(place:Nat->O (Nat×TI))(cells:L T):L (Nat×T)->O (Prop×L T)
 |[]=>Z (True,cells)|(k,v)::a=>match place k with
  |none=>Y|some (off,i)=>match kj i v with
   |none=>Y|some (p,l)=>
    bif Nl (Na off (cD l)) (cD cells)then
     (GQ place (cells.take off++l++cells.drop (Na off (cD l))) a).map λ(q,r)=>(p∧leaves l∧q,r)
    else Y
def su(fr:Fr):L (Nat×Operand)->O (L (Nat×T))
 |[]=>Z []|(k,x)::l=>match jZ fr x,su fr l with
  |some t,Z r=>Z ((k,t)::r)|_,_=>Y
def sH(s:St)(i:TI)(es:L D):L (Nat×T)->O (Prop×L D×L Nat)
 |[]=>Z (True,es,[])|(k,v)::a=>match BP s v with
  |none=>Y|some (p,d,os)=>
   bif Nt k (cD es)then
    (sH s i (es.set k d) a).map λ(q,r,b)=>(p∧(bif i.agg then d.isAgg i.size else d.leaf)=W∧q,r,os++b)
   else Y
def V5(op:BinOp)(k:IntKind)(m n:Int):O D:=
 match op with
 |.lss=>Z (.lit (.bool (aC m n)))|.leq=>Z (.lit (.bool (bn m n)))|.gtr=>Z (.lit (.bool (aC n m)))|.geq=>Z (.lit (.bool (bn n m)))|.add=>Z (.lit (.int k (aF k m n)))|.sub=>Z (.lit (.int k (bF k m n)))|.mul=>Z (.lit (.int k (Kl k m n)))|_=>Y
def Zx(op:BinOp)(k:IntKind)(m n:Int):O D:=
 match op with
 |.rem=>Z (.lit (.int k (BJ m n)))|.quo=>Z (.lit (.int k (aaJ k m n)))|_=>Y
def Zn(i:TI)(a b:T):O (Prop×Bool):=
 bif i.agg then match i.lks,kj i a,kj i b with
  |[],_,_=>Y|k::c,Z (p,as),Z (q,d)=>(kf (k::c) as d).map λ(r,x)=>(p∧q∧r,x)|_,_,_=>Y
 else match i.kd with
  |.leaf k=>qX k a b|.ptr=>aet a b|.iface=>aeu a b|_=>Y
def LK(i:TI)(op:BinOp)(a b:T):O (Prop×D):=
 match op with
 |.eql=>(Zn i a b).map λ(p,r)=>(p,.lit (.bool r))|.neq=>(Zn i a b).map λ(p,r)=>(p,.lit (.bool (ak r)))|op=>match i.kd with
  |.leaf (.int k)=>match yq k a,yq k b with
   |some (p,m),Z (q,n)=>match V5 op k m n with
    |some d=>Z (p∧q,d)|none=>(Zx op k m n).map λd=>(p∧q∧ahw n,d)
   |_,_=>Y
  |.leaf .str=>match op,Aq a,Aq b with
   |.add,Z (p,m),Z (q,n)=>Z (p∧q∧Mm m n,.lit (.string (Sw m n)))|_,_,_=>Y
  |_=>Y
def NM(fr:Fr):O Operand->O (O T)
 |none=>Z Y|some x=>(jZ fr x).map Z
def w6(dflt:Int):O T->O (Prop×Int)
 |none=>Z (True,dflt)|some t=>yq .i64 t
def tF:T->L Nat
 |.sh o _=>[o]|_=>[]
def qx(i:TI)(s:St)(v:T)(l h m:O T):sY:=
 match i.kd,w6 Ad l with
 |.leaf .str,Z (p,lo)=>match Aq v,m with
  |some (q,b),Y=>match w6 (vu b) h with
   |some (r,a)=>Z (p∧q∧r∧y9 lo a (vu b),.sym (.lit (.string (Ml b lo a))),s)|none=>Y
  |_,_=>Y
 |.slice sz _ _ _,Z (p,lo)=>match BS s v,freeze s (tF v)with
  |some (q,c),Z d=>match w6 (eH c) h,m,h with
   |some (r,a),Y,_=>Z (p∧q∧r∧jz c sz∧y9 lo a (eH c),.sym (.sl (o7 c lo a)),d)|some (r,a),Z y,Z _=>match y with
    |.kn .i64 0=>Z (p∧q∧r∧lo=Ad∧a=Ad,.emp,s)|y=>(yq .i64 y).map λ(t,e)=>
     (p∧q∧r∧t∧jz c sz∧y9 lo a (eH c)∧e=a,.kr 0 (o7 c lo a),d)
   |_,_,_=>Y
  |_,_=>Y
 |_,_=>Y
def IU:T->O (Prop×Bool)
 |.gd g v=>match Bs v with
  |some (q,y)=>Z (g=W∧q,y)|none=>Y
 |.kb b=>Z (True,b)|.sym d=>Z (d.isBool=W,d.toBool)|_=>Y
def Ji(c a b:T):O (Prop×T):=
 match c with
 |.kb u=>match IU (bif u then a else b)with
  |some (q,y)=>Z (q,.sym (.lit (.bool y)))|none=>Y
 |c=>match Bs c,IU a,IU b with
  |some (p,t),Z (q,x),Z (r,y)=>Z (p∧(t=W->q)∧(t=J->r),.sym (.lit (.bool (aaK t x y))))|_,_,_=>Y
def Bx(n sz:Nat)(s:St)(x a:T):sY:=match x,a with
 |.lR d b,.kn .i64 (.ofNat j)=>bif Nt j n then Z (True,.lR d (Na b (Nat.mul j sz)),s)else Y|_,_=>Y
def j7(i:TI)(s:St)(x b:T):sY:=
 match i.kd,yq .i64 b with
 |.slice sz _ _ _,Z (p,n)=>match x with
  |.sh o e=>match IT s o e with
   |some (z,a)=>bif Nq z sz then Z (p∧lH n (eH a),.lQ o e (Ee n) 0,s)else Y|none=>Y
  |v=>match BS s v with
   |some (q,a)=>Z (p∧q∧lH n (eH a)∧(jf a (Ee n)).wide sz,.lR (jf a (Ee n)) 0,s)|none=>Y
 |.array n sz _,_=>Bx n sz s x b|_,_=>Y
def qW(i:TI)(s:St)(k:Nat)(x:T):sY:=
 match i.kd with
 |.struct a=>match nth a k with
  |some (off,size,_)=>bif Nq size 0 then Y else match x with
   |.ptr o b=>Z (True,.ptr o (Na b off),s)|.lR d b=>Z (True,.lR d (Na b off),s)|.lQ o e j b=>Z (True,.lQ o e j (Na b off),s)|_=>Y
  |none=>Y
 |_=>Y
def GR(i:TI)(s:St)(k:Nat)(x:T):sY:=
 match i.kd with
 |.struct a=>match nth a k,kj i x with
  |some (off,size,b),Z (p,c)=>
   let l:=(c.drop off).take size
   bif Nq (cD l) size&&!(Nq size 0)then(wj b l).map λt=>(p,t,s)else Y
  |_,_=>Y
 |_=>Y
def GD(i:TI)(s:St)(x a:T):sY:=
 match i.kd,yq .i64 a,Aq x with
 |.leaf .str,Z (p,n),Z (q,b)=>Z (p∧q∧lH n (vu b),.sym (.lit (.int .u8 (aaI b n))),s)|_,_,_=>Y
def r9(i:TI)(s:St)(t:TypeId)(ok:Bool)(x:T):sY:=
 match i.kd,x,ok with
 |.iface,_,_=>Y|_,.de u v,W=>bif Nq u t then Z (True,.gM [v,.kb W],s)else
   (wj i.agg (i.zero.map qG)).map λz=>(True,.gM [z,.kb J],s)
 |_,.de u v,J=>bif Nq u t then Z (True,v,s)else Y|_,_,_=>Y
def unT(i:TI)(op:UnOp)(v:T):O (Prop×D):=
 match op,i.kd with
 |.not,.leaf .bool=>(Bs v).map λ(p,b)=>(p,.lit (.bool (ak b)))|.neg,.leaf (.int k)=>(yq k v).map λ(p,n)=>(p,.lit (.int k (PC k n)))|_,_=>Y
def JV(i j:TI)(s:St)(v:T):sY:=
 match i.kd,j.kd with
 |.leaf (.int k),.leaf (.int l)=>(yq k v).map λ(p,n)=>(p,.sym (.lit (.int l (Sy l n))),s)|.leaf .str,.leaf .str=>(Aq v).map λ(p,_)=>(p,v,s)|_,_=>Y
def tQ(s:St)(k:Nat):T->sY
 |.gM a=>(nth a k).map λt=>(True,t,s)|.sym d=>Z (d.agy k=W,.sym (d.proj k),s)|_=>Y
def oE(E:Env)(fr:Fr)(s:St)(o:Op):sY:=
 match o with
 |.move x=>(jZ fr x).map λt=>(True,t,s)|.assign x=>(jZ fr x).map λt=>(True,t,s)|.pick c a b=>match jZ fr c,jZ fr a,jZ fr b with
  |some c,Z a,Z b=>(Ji c a b).map λ(p,t)=>(p,t,s)|_,_,_=>Y
 |.alloc t=>match E.ti t with
  |some i=>bif Nt s.aE bC then Z (True,.ptr s.aE 0,(eg s (.box (i.zero.map qG))).2)else Y|none=>Y
 |.box t x=>match E.ti t,jZ fr x with
  |some i,Z v=>bif Nt s.aE bC then(kj i v).map λ(p,q)=>(p,.ptr s.aE 0,(eg s (.box q)).2)else Y|_,_=>Y
 |.build t parts=>match E.ti t,su fr parts.toList with
  |some i,Z r=>match i.kd with
   |.struct z=>(GQ (λk=>match nth z k with|some (off,size,g)=>Z (off,{(default:TI)with size:=size,agg:=g})|none=>Y) (i.zero.map qG) r).map
     λ(p,q)=>(p,.agg q,s)
   |_=>Y
  |_,_=>Y
 |.buildSlice t len parts=>match E.ti t,su fr parts.toList with
  |some i,Z r=>match i.kd with
   |.slice sz g _ zero=>
    bif (g||Nq sz 1)&&(Nq (cD zero) sz&&(!(Nq sz 0)&&Nl (Nat.mul len sz) 16777216))then
     match sH s {(default:TI)with size:=sz,agg:=g} (List.replicate len (bif g then .agg zero else zero.getD 0 default)) r with
     |some (p,A,os)=>(freeze s os).map λs=>(p,.kr len A,s)|none=>Y
    else Y
   |_=>Y
  |_,_=>Y
 |.load t a=>match E.ti t,jZ fr a with
  |some i,Z a=>loadT i s a|_,_=>Y
 |.store t a x=>match E.ti t,jZ fr a,jZ fr x with
  |some i,Z a,Z x=>storeT i s a x|_,_,_=>Y
 |.nilCheck x=>match jZ fr x with
  |some (.ptr o b)=>Z (True,.ptr o b,s)|some (.lR d b)=>Z (True,.lR d b,s)|some (.lQ o e j b)=>Z (True,.lQ o e j b,s)|some (.de t v)=>Z (True,.de t v,s)|some (.fn (.func f) a b)=>Z (True,.fn (.func f) a b,s)|some (.sym d)=>Z (d.ajz=W,.sym d,s)|_=>Y
 |.binOp op t x y _=>match E.ti t,jZ fr x,jZ fr y with
  |some i,Z a,Z b=>(LK i op a b).map λ(p,d)=>(p,.sym d,s)|_,_,_=>Y
 |.unOp op t x=>match E.ti t,jZ fr x with
  |some i,Z v=>(unT i op v).map λ(p,d)=>(p,.sym d,s)|_,_=>Y
 |.convert src u x=>match E.ti src,E.ti u,jZ fr x with
  |some i,Z j,Z v=>JV i j s v|_,_,_=>Y
 |.makeInterface t x=>match E.ti t,jZ fr x with
  |some i,Z v=>match i.kd with
   |.iface=>Y|_=>Z (True,.de t v,s)
  |_,_=>Y
 |.makeFunc f first cap=>match yM fr first.toList,yM fr cap.toList with
  |some a,Z b=>Z (True,.fn f a b,s)|_,_=>Y
 |.extract x k=>match jZ fr x with
  |some v=>tQ s k v|none=>Y
 |.fieldAddr t x k=>match E.ti t,jZ fr x with
  |some i,Z v=>qW i s k v|_,_=>Y
 |.field t x k=>match E.ti t,jZ fr x with
  |some i,Z v=>GR i s k v|_,_=>Y
 |.indexAddr t x w=>match E.ti t,jZ fr x,jZ fr w with
  |some i,Z v,Z n=>j7 i s v n|_,_,_=>Y
 |.index t x w=>match E.ti t,jZ fr x,jZ fr w with
  |some i,Z v,Z n=>GD i s v n|_,_,_=>Y
 |.slice t x lo B C=>match E.ti t,jZ fr x,NM fr lo,NM fr B,NM fr C with
  |some i,Z v,Z l,Z h,Z m=>qx i s v l h m|_,_,_,_,_=>Y
 |.typeAssert x _ t ok=>match E.ti t,jZ fr x with
  |some i,Z v=>r9 i s t ok v|_,_=>Y
 |_=>Y
def D.TQ(a b:L D):Prop:=a.length+b.length<=17179869184
def u0(i:TI)(s:St)(x y:T):sY:=
 bif !(Nt s.aE bC)then Y else
 match i.kd,BS s y with
 |.slice sz _ b _,Z (q,new)=>
  match x with
  |.emp=>Z (q∧jz new sz∧vL new b,.sh s.aE 0,(eg s (.arr sz new 0)).2)|.kr _ a=>
   let c:=q∧jz (iB a new) sz∧vL (iB a new) b∧D.TQ a new
   match y with
   |.kr (_+1) _=>Z (c,.sh s.aE 0,(eg s (.arr sz (iB a new) 0)).2)|_=>Z (c,.sym (.sl (iB a new)),s)
  |.sh o e=>match s.ob.get o with
   |some (.arr z a era)=>
    bif Nl s.fl o&&Nq e era&&Nq z sz&&!(tF y).contains o then
     Z (q∧jz new sz∧vL (iB a new) b∧D.TQ a new,.sh o (Ns era),{s with ob:=s.ob.set aK o (.arr sz (iB a new) (Ns era))})
    else Y
   |_=>Y
  |_=>Y
 |_,_=>Y
def fH(E:Env)(s:St)(b:Builtin)(a:Array TypeId)(args:L T):sY:=
 match b,args with
 |.len,[x]=>match Aq x,(nth a.toList 0).bind E.ti with
  |some (p,b),Z i=>match i.kd with
   |.leaf .str=>Z (p,.sym (.lit (.int .i64 (vu b))),s)|.slice _ _ _ _=>(BS s x).map λ(p,c)=>(p,.sym (.lit (.int .i64 (eH c))),s)|_=>Y
  |none,Z i=>match i.kd with
   |.slice _ _ _ _=>(BS s x).map λ(p,c)=>(p,.sym (.lit (.int .i64 (eH c))),s)|_=>Y
  |_,_=>Y
 |.append,[x,y]=>match a.toList with
  |[t,u]=>match E.ti t,E.ti u with
   |some i,Z j=>match j.kd with
    |.slice _ _ _ _=>u0 i s x y|_=>Y
   |_,_=>Y
  |_=>Y
 |_,_=>Y
end
end TL
end
section
namespace TL
open Go
section
def xY:T->L T->O (FuncId×L T)
 |.fn (.func f) first cap,args=>Z (f,first++args++cap)
 |_,_=>Y
section
variable (E:Env)
def gamT(s:St)(f:FuncId)(args:L T):O (Prop×T×St):=
 match E.II f with
 |none=>Y|some c=>match nZ s args with
  |none=>Y|some (p,ds,os)=>(freeze s os).map λa=>(p∧c.pre ds,.sym (c.f ds),a)
abbrev amh:=FuncId->L T->St->(T->St->Prop)->(T->St->Prop)->Prop
variable (call:amh)
def aiG(fr:Fr):O Nat->Bool
 |none=>W|some d=>Nt d fr.n
end
def Cm:L T->Nat->Tr T->Tr T
 |[],_,t=>t|a::l,k,t=>Cm l (Ns k) (t.set aK k a)
def mF(E:Env)(s:St)(fr:Fr):L ResultVar->O (Prop×L T)
 |[]=>Z (True,[])|.tmp t::l=>match fr.get t,mF E s fr l with
  |some x,Z (p,r)=>Z (p,x::r)|_,_=>Y
 |.cell a t::l=>match(E.ti t),fr.get a with
  |some i,Z a=>match loadT i s a,mF E s fr l with
   |some (p,x,_),Z (q,r)=>Z (p∧q,x::r)|_,_=>Y
  |_,_=>Y
def ae9:L T->T
 |[x]=>x|l=>.gM l
end
end TL
end
section
namespace TL
section
theorem bS{α:Type}(l:L α):cD l=l.length:=by
 induction l with|nil=>rfl|cons a l b=>simp[cD,b]
theorem j0{α:Type}(l:L α)(k:Nat):nth l k=l[k]?:=by
 induction l generalizing k with
 |nil=>cases k<;>rfl
 |cons a l b=>cases k with|zero=>rfl|succ k=>simp[nth,b]
namespace Tr
variable {α:Type}
theorem get_nil(k:Nat):(Tr.nil:Tr α).get k=Y:=by cases k<;>rfl
theorem iY(v:O α)(l r:Tr α):(Tr.node v l r).get 0=v:=by simp[get]
def dB(v:O α)(l r:Tr α)(k:Nat):(Tr.node v l r).get (k+1)=if k%2=0 then l.get (k/2)else r.get (k/2):=by
 simp[get];by_cases h:k%2=0
 .have:Nq (Nat.mod k 2) 0=W:=by show Nq (k%2) 0=W;rw[h];rfl
  simp[this,h];rfl
 .have:Nq (Nat.mod k 2) 0=J:=by
   show Nq (k%2) 0=J;have:k%2=1:=by omega
   rw[this];rfl
  simp[this,h];rfl
theorem Iw(n:Nat)(v:O α)(l r:Tr α)(x:α):Tr.set (n+1) (.node v l r) 0 x=.node (Z x) l r:=rfl
theorem Av(n:Nat)(x:α):Tr.set (n+1) .nil 0 x=.node (Z x) .nil .nil:=rfl
def nQ(n:Nat)(v:O α)(l r:Tr α)(k:Nat)(x:α) :
  Tr.set (n+1) (.node v l r) (k+1) x=if k%2=0 then .node v (Tr.set n l (k/2) x) r else .node v l (Tr.set n r (k/2) x):=by
 simp[set];by_cases h:k%2=0
 .have:Nq (Nat.mod k 2) 0=W:=by show Nq (k%2) 0=W;rw[h];rfl
  simp[this,h];rfl
 .have:Nq (Nat.mod k 2) 0=J:=by
   show Nq (k%2) 0=J;have:k%2=1:=by omega
   rw[this];rfl
  simp[this,h];rfl
def pg(n:Nat)(k:Nat)(x:α) :
  Tr.set (n+1) .nil (k+1) x=if k%2=0 then .node Y (Tr.set n .nil (k/2) x) .nil else .node Y .nil (Tr.set n .nil (k/2) x):=by
 simp[set];by_cases h:k%2=0
 .have:Nq (Nat.mod k 2) 0=W:=by show Nq (k%2) 0=W;rw[h];rfl
  simp[this,h];rfl
 .have:Nq (Nat.mod k 2) 0=J:=by
   show Nq (k%2) 0=J;have:k%2=1:=by omega
   rw[this];rfl
  simp[this,h];rfl
def acT(n:Nat):∀(t:Tr α)(k j:Nat)(x:α),k+1<2 ^ n->(Tr.set n t k x).get j=if j=k then Z x else t.get j:=by
 induction n with
 |zero=>omega|succ n d=>
  intro t k j x h;cases k with
  |zero=>
   cases t with
   |nil=>
    rw[Av];cases j with|zero=>rfl|succ j=>rw[dB];simp[get_nil]
   |node v l r=>
    cases j with|zero=>rfl|succ j=>rfl
  |succ k=>
   have c:k/2+1<2 ^ n:=by omega
   cases t with
   |nil=>
    rw[pg];cases j with
    |zero=>split<;>simp[iY,get_nil]
    |succ j=>
     by_cases a:k%2=0
     .rw[bw a,dB,get_nil];by_cases b:j%2=0
      .grind[get_nil]
      .rw[bL b,get_nil,bL (by omega)]
     .rw[bL a,dB,get_nil];by_cases b:j%2=0
      .rw[bw b,get_nil,bL (by omega)]
      .grind[get_nil]
   |node v l r=>
    rw[nQ];cases j with
    |zero=>split<;>simp[iY]
    |succ j=>
     by_cases a:k%2=0
     .rw[bw a,dB,dB]
      grind
     .rw[bL a,dB,dB]
      grind
def aR(t:Tr α)(k j:Nat)(x:α)(h:k<bC):(Tr.set aK t k x).get j=if j=k then Z x else t.get j:=
 acT _ _ _ _ _ (by unfold aK;unfold bC at h;omega)
end Tr
end
end TL
end
section
namespace TL
open Go
section
structure eY where
 a:Option Addr
 len:Nat
 cap:Nat
 sz:Nat
structure Gh where
 bP:Nat->Option Nat
 arr:Nat->Nat->Option eY
 bh:Nat->Prop
inductive dH(I:Nat->Prop)(w:World):D->Value->Prop where
 |lit (v:Value):dH I w (.lit v) v|sl (es:List D) (a:Option Addr) (cap sz:Nat) (val:Nat->Nat->Value)
   (hcap:es.length<=cap) (hsz:∀d∈es,d.cells.length=sz) (hby:∀d∈es,es.length*d.sL<=281474976710656)
   (ha:es≠[]->∃ad,a=Z ad∧I ad.block∧∀i j d c,es[i]?=Z d->d.cells[j]?=Z c->w.cell? (ad.add (i*sz+j))=Z (val i j))
   (hc:∀i j d c,es[i]?=Z d->d.cells[j]?=Z c->dH I w c (val i j)):dH I w (.sl es) (.slice a es.length cap)
 |agg (cs:List D) (vs:Array Value) (hl:cs.length=vs.size) (hf:∀c∈cs,c.leaf=W)
   (h:∀(j:Nat)(c:D)(v:Value),cs[j]?=Z c->vs[j]?=Z v->dH I w c v):dH I w (.agg cs) (.agg vs)
 |de (t:TypeId) (d:D) (v:Value) (h:dH I w d v):dH I w (.de t d) (.iface t v)|gM (ds:List D) (vs:Array Value) (hl:ds.length=vs.size)
   (h:∀(j:Nat)(c:D)(v:Value),ds[j]?=Z c->vs[j]?=Z v->dH I w c v):dH I w (.gM ds) (.tuple vs)
 |pt (d:D) (ad:Addr) (val:Nat->Value) (hi:I ad.block) (hc:∀j c,d.cells[j]?=Z c->w.cell? (ad.add j)=Z (val j))
   (hd:∀j c,d.cells[j]?=Z c->dH I w c (val j)):dH I w (.pt d) (.pointer (Z (ad.add 0)))
 |mp (ks vs:List D) (b:Nat) (ms:Array MapEntry) (n:Nat) (hi:I b) (hb:w.heap[b]?=Z (.map ms n)) (h1:ks.length=ms.size) (h2:vs.length=ms.size)
   (hk:∀(j:Nat)(c:D)(m:MapEntry),ks[j]?=Z c->ms[j]?=Z m->dH I w c m.key) (hv:∀(j:Nat)(c:D)(m:MapEntry),vs[j]?=Z c->ms[j]?=Z m->dH I w c m.val):dH I w (.mp ks vs) (.map (Z b))
def jQ(I:Nat->Prop)(w w':World):Prop:=∀b,I b->w'.heap[b]?=w.heap[b]?
theorem jQ.cell{I:Nat->Prop}{w w':World}(h:jQ I w w'){a:Addr}(b:I a.block):w'.cell? a=w.cell? a:=by unfold World.cell?;rw[h _ b]
def kK(a:Addr)(n:Nat):(a.add n).block=a.block:=by unfold Addr.add;split<;>rfl
theorem dH.mono{I z:Nat->Prop}{w w':World}(m:jQ I w w')(o:∀b,I b->z b){d:D}{v:Value}(h:dH I w d v):dH z w' d v:=by
 induction h with
 |lit v=>exact .lit v|sl B a cap sz val f p q C A e=>
  refine .sl B a cap sz val f p q (λr=>?_) e
  let ⟨s,E,l,u⟩:=C r
  refine⟨s,E,o _ l,λi j d c F K=>?_⟩;rw[m.cell (by rw[kK];exact l)]
  simp_all
 |agg P g x R h e=>exact .agg P g x R e|de t d v h e=>exact .de t d v e|gM ds g x h e=>exact .gM ds g x e|pt d s val k A F e=>exact .pt d s val (o _ k) (λj c S=>by rw[m.cell (by rw[kK];exact k)];exact A j c S) e
 |mp ks g b ms n k l h1 h2 _ _ e y=>exact .mp ks g b ms n (o _ k) (by rw[m b k];exact l) h1 h2 e y
def rc(r i:Nat):Nat:=2 ^ r*(2*i+1)
def jw(nj:Nat)(d:D)(h:Value):D:=.agg (d.cells.set nj (.lit h))
inductive aH(g:Gh)(w:World):T->Value->Prop where
 |sym (d:D) (v:Value) (h:dH g.bh w d v):aH g w (.sym d) v|kb (b:Bool):aH g w (.kb b) (.bool b)|kn (k:IntKind) (n:Int):aH g w (.kn k n) (.int k n)|ptr (o off b:Nat) (h:g.bP o=Z b):aH g w (.ptr o off) (.pointer (Z ⟨b,off,Y⟩))|lR (d:D) (off:Nat) (ad:Addr) (val:Nat->Value) (hi:g.bh ad.block)
   (hc:∀j c,d.cells[j]?=Z c->w.cell? (ad.add j)=Z (val j)) (hd:∀j c,d.cells[j]?=Z c->dH g.bh w c (val j)) :
   aH g w (.lR d off) (.pointer (Z (ad.add off)))
 |lQ (o e i off len cap sz:Nat) (ad:Addr) (h:g.arr o e=Z ⟨Z ad,len,cap,sz⟩):aH g w (.lQ o e i off) (.pointer (Z (ad.add (i*sz+off))))|sh (o e len cap sz:Nat) (a:Option Addr) (h:g.arr o e=Z ⟨a,len,cap,sz⟩):aH g w (.sh o e) (.slice a len cap)|emp (a:Option Addr):aH g w .emp (.slice a 0 0)|kr (n:Nat) (es:List D) (a:Option Addr) (hn:n<=es.length) (h:dH g.bh w (.sl es) (.slice a es.length es.length)):aH g w (.kr n es) (.slice a es.length es.length)|fn (f:Fn) (fs cs:List T) (va vc:Array Value) (hl:fs.length=va.size) (hm:cs.length=vc.size)
   (h:∀(j:Nat)(t:T)(v:Value),fs[j]?=Z t->va[j]?=Z v->aH g w t v)
   (h':∀(j:Nat)(t:T)(v:Value),cs[j]?=Z t->vc[j]?=Z v->aH g w t v):aH g w (.fn f fs cs) (.func f va vc)
 |de (t:TypeId) (x:T) (v:Value) (h:aH g w x v):aH g w (.de t x) (.iface t v)|agg (cs:List T) (vs:Array Value) (hl:cs.length=vs.size)
   (h:∀(j:Nat)(t:T)(v:Value),cs[j]?=Z t->vs[j]?=Z v->aH g w t v):aH g w (.agg cs) (.agg vs)
 |gM (cs:List T) (vs:Array Value) (hl:cs.length=vs.size)
   (h:∀(j:Nat)(t:T)(v:Value),cs[j]?=Z t->vs[j]?=Z v->aH g w t v):aH g w (.gM cs) (.tuple vs)
 |gd (c:Bool) (t:T) (v:Value) (h:c=W->aH g w t v):aH g w (.gd c t) v|mp (o b:Nat) (h:g.bP o=Z b):aH g w (.mp o) (.map (Z b))|rE (o b:Nat) (h:g.bP o=Z b):aH g w (.rE o) (.func (.yield b) #[] #[])|uj (o b:Nat) (h:g.bP o=Z b):aH g w (.uj o) (.pointer (Z ⟨b,0,Y⟩))|ub (e b:Bool) (h:b=W->e=W):aH g w (.ub e) (.bool b)|sx (o m r i len cap sz:Nat) (a:Option Addr) (h:g.arr m (rc r i)=Z ⟨a,len,cap,sz⟩):aH g w (.sx o m r i) (.slice a len cap)|pW (j:Nat) (d:D) (c:Option Addr) (a:Option Addr) (hj:d.cells[j]?=Z (.sl [])) (hd:dH g.bh w (.sl [jw j d (.slice c 0 0)]) (.slice a 1 1)):aH g w (.pW j d) (.slice a 1 1)
inductive gS(g:Gh)(w:World):Ob->Obj->Prop where
 |box (cs:List T) (vs:Array Value) (ty:TypeId) (hl:cs.length=vs.size) (h:∀(j:Nat)(t:T)(v:Value),cs[j]?=Z t->vs[j]?=Z v->aH g w t v):gS g w (.box cs) (.cells vs ty (0,0))|map (es:List (T×T)) (ms:Array MapEntry) (c:Nat) (hl:es.length=ms.size)
   (h:∀(j:Nat)(t:T×T)(m:MapEntry),es[j]?=Z t->ms[j]?=Z m->aH g w t.1 m.key∧aH g w t.2 m.val):gS g w (.map es) (.map ms c)
 |rD (s:ByteArray) (pos:Nat):gS g w (.rD s pos) (.stringIter s pos)|lp (l:Lp) (r:Loop) (h1:r.state=l.st) (h2:r.pending=l.vS) (h4:r.params.toList=l.params) (h5:r.assign=l.assign) (h6:r.body=l.body)
   (h8:r.tmps.size=l.fr.n) (h9:∀k t,l.fr.get k=Z t->∃v,r.tmps[k]?=Z v∧aH g w t v):gS g w (.lp l) (.loop r)
 |Ah:gS g w .Ah (.deferred (Z []))
def bz(g:Gh)(o b:Nat):Prop:=¬g.bh b∧(g.bP o=Z b∨∃e x ad,g.arr o e=Z x∧x.a=Z ad∧ad.block=b∧x.cap≠0)
structure xC(g:Gh)(w:World)(fz:Bool)(sz:Nat)(es:List D)(x:eY):Prop where
 len:x.len=es.length
 cap:x.len<=x.cap
 rows:∀d∈es,d.cells.length=sz
 pos:0<sz
 WD:∀d∈es,es.length*d.sL<=281474976710656
 mem:x.cap≠0->∃b vs ty,x.a=Z ⟨b,0,Y⟩∧(fz=W↔g.bh b)∧w.heap[b]?=Z (.cells vs ty (0,0))∧x.cap*sz<=vs.size∧
  ∀i d j c,es[i]?=Z d->d.cells[j]?=Z c->∃v,vs[i*sz+j]?=Z v∧dH g.bh w c v
def fW(fz:Bool)(sz:Nat)(es:L D)(era:Nat):Ob:=if fz then .lq sz es era else .arr sz es era
def xw(g:Gh)(s:St)(w:World)(o b:Nat):Prop:=
 ¬g.bh b∧b<w.heap.size∧∀ob,s.ob.get o=Z ob->∃h,w.heap[b]?=Z h∧gS g w ob h
def xw.box{g:Gh}{s:St}{w:World}{o b:Nat}(h:xw g s w o b){cs:L T}(c:s.ob.get o=Z (.box cs)) :
  ∃vs ty,w.heap[b]?=Z (.cells vs ty (0,0))∧cs.length=vs.size∧∀(j:Nat)(t:T)(v:Value),cs[j]?=Z t->vs[j]?=Z v->aH g w t v:=by
 let ⟨x,d,a⟩:=h.2.2 _ c
 cases a with|box cs vs ty e a=>grind
variable {s:St}{w w':World}{o b e fl:Nat}{ob:Ob}{d:Df}{v:Value}{t:T}{p:T->Bool}
def xw.Ce{g:Gh}(h:xw g s w o b)(fz:Bool){sz:Nat}{es:L D}(a:s.ob.get o=Z (if fz then .lq sz es e else .arr sz es e)):False:=by
 let ⟨x,d,c⟩:=h.2.2 _ a
 cases fz<;>cases c
def gS.Ce{g:Gh}{h:Obj}(a:gS g w ob h):ob.oe=J:=by cases a<;>rfl
def eY.at(x:eY)(b:Nat):Prop:=∃ad,x.a=Z ad∧ad.block=b∧x.cap≠0
def lits(nj:Nat)(es:L D)(hs:L Value):L D:=List.zipWith (jw nj) es hs
def IZ(g:Gh)(m gX:Nat)(hole:O Nat)(hs:L Value):Prop:=
 (∀(i:Nat)(h:Value),hs[i]?=Z h->∃a n k,h=.slice a n k)∧∀(i:Nat)(h:Value),hs[i]?=Z h->hole≠Z i->∃y,g.arr m (rc gX i)=Z y∧h=.slice y.a y.len y.cap
def Uf(g:Gh)(w:World)(o e:Nat)(x:eY)(ob:Ob):Prop:=
 ∃fz es era,ob=fW fz x.sz es era∧e<=era∧(∀a,era<a->g.arr o a=Y)∧(e=era->xC g w fz x.sz es x)
def ama(g:Gh)(w:World)(o e:Nat)(x:eY)(ob:Ob):Prop:=
 ∃nj es era m gX hole,ob=.lD nj x.sz es era m gX hole∧e<=era∧(∀a,era<a->g.arr o a=Y)∧
  (e=era->∃hs,hs.length=es.length∧xC g w J x.sz (lits nj es hs) x∧IZ g m gX hole hs)
def al3(g:Gh)(w:World)(o e:Nat)(x:eY)(ob:Ob):Prop:=
 ∃sz iQ gX,ob=.rws sz iQ gX∧(∀r i,gX<r->g.arr o (rc r i)=Y)∧
  (∀i a y c,i≠a->g.arr o (rc gX i)=Z y->g.arr o (rc gX a)=Z c->∀b,y.at b->¬c.at b)∧
  (∀i,e=rc gX i->x.sz=sz∧∃d,iQ[i]?=Z d∧xC g w J sz d x)
def amb(g:Gh)(w:World)(e:Nat)(x:eY)(ob:Ob):Prop:=
 ob=.Gd∧x.a=Z ⟨e,0,Y⟩∧x.cap≠0∧¬g.bh e∧w.heap[e]?=Z (.deferred (Z []))
def vM(g:Gh)(w:World)(o e:Nat)(x:eY)(ob:Ob):Prop:=
 Uf g w o e x ob∨ama g w o e x ob∨al3 g w o e x ob∨ob=.gone∨amb g w e x ob
def vM.oe{g:Gh}{w:World}{o e:Nat}{x:eY}{ob:Ob}(h:vM g w o e x ob):ob.oe=W:=by
 obtain⟨a,_,_,rfl,_⟩|⟨_,_,_,_,_,_,rfl,_⟩|⟨_,_,_,rfl,_⟩|rfl|⟨rfl,_⟩:=h
 .cases a<;>rfl
 .rfl
 .rfl
 .rfl
 .rfl
def vM.old{g:Gh}{x:eY}(h:vM g w o e x ob)(hi:ob.isA=W):Uf g w o e x ob:=by
 obtain h|⟨_,_,_,_,_,_,rfl,_⟩|⟨_,_,_,rfl,_⟩|rfl|⟨rfl,_⟩:=h
 .exact h
 .cases hi
 .cases hi
 .cases hi
 .cases hi
def BK(g:Gh)(s:St)(w:World)(o e:Nat)(x:eY):Prop:=
 (∀ad,x.a=Z ad->x.cap≠0->ad.block<w.heap.size)∧∀ob,s.ob.get o=Z ob->vM g w o e x ob
def BK.old{g:Gh}{s:St}{w:World}{o e:Nat}{x:eY}(h:BK g s w o e x)(ob:Ob)(b:s.ob.get o=Z ob)(hi:ob.isA=W) :
  ∃fz es era,ob=fW fz x.sz es era∧e<=era∧(∀a,era<a->g.arr o a=Y)∧(e=era->xC g w fz x.sz es x):=(h.2 ob b).old hi
def Wc(fz:Bool)(sz:Nat)(es:L D)(era:Nat):(fW fz sz es era).isA=W:=by cases fz<;>rfl
structure aV(g:Gh)(s:St)(w:World):Prop where
 aE:s.aE<=bC
 ah:∀o,s.aE<=o->g.bP o=Y∧∀e,g.arr o e=Y
 box:∀o b,g.bP o=Z b->xw g s w o b
 arr:∀o e x,g.arr o e=Z x->BK g s w o e x
 bh:∀b,g.bh b->b<w.heap.size
 jS:∀o o' b,bz g o b->bz g o' b->o=o'
inductive xu(g:Gh)(w:World):Df->Deferred->Prop where
 |call (f:T) (args:List T) (fv:Fn) (first cap WM:Array Value) (h3:aH g w f (.func fv first cap)) (h4:args.length=WM.size)
   (h5:∀(j:Nat)(t:T)(v:Value),args[j]?=Z t->WM[j]?=Z v->aH g w t v):xu g w (.call f args) {target:=.fn fv cap,args:=first++WM}
 |mark (o b:Nat) (h:g.bP o=Z b):xu g w (.mark o) {target:=.collected b,args:=#[]}|bad (d:Deferred):xu g w .bad d
inductive eL(g:Gh)(w:World):List Df->List Deferred->Prop where
 |nil:eL g w [] []|cons {d:Df} {e:Deferred} {l:List Df} {m:List Deferred} (h:xu g w d e) (t:eL g w l m):eL g w (d::l) (e::m)
 |marks (o:Nat) (bs:List Nat) {l:List Df} {m:List Deferred} (hn:bs.Nodup) (h:∀b∈bs,∃n c,aH g w (.sh o b) (.slice (Z ⟨b,0,Y⟩) n c)) (t:eL g w l m):eL g w (.marks o::l) (bs.map (λb=>{target:=.collected b,args:=#[]})++m)
 |ko (xs:List Deferred) {l:List Df} {m:List Deferred} (t:eL g w l m):eL g w (.ko::l) (xs++m)
structure cR(g:Gh)(fr:Fr)(a:Act)(w:World):Prop where
 size:a.tmps.size=fr.n
 df:eL g w fr.df a.defers
 tm:∀k t,fr.get k=Z t->∃v,a.tmps[k]?=Z v∧aH g w t v
structure Ext(fl:Nat)(g:Gh)(w:World)(g':Gh)(w':World):Prop where
 bP:∀o b,g.bP o=Z b->g'.bP o=Z b
 arr:∀o e x,g.arr o e=Z x->g'.arr o e=Z x
 bh:∀b,g.bh b->g'.bh b
 size:w.heap.size<=w'.heap.size
 heap:∀b,b<w.heap.size->(∀o,fl<=o->¬bz g o b)->w'.heap[b]?=w.heap[b]?
 own:∀o b,bz g' o b->bz g o b∨w.heap.size<=b
 og:∀b,g'.bh b->g.bh b∨w.heap.size<=b∨∃o,fl<=o∧bz g o b
 os:w'.os=w.os
 output:w'.output=w.output
theorem Ext.refl(fl:Nat)(g:Gh)(w:World):Ext fl g w g w:=
 ⟨λ_ _ h=>h,λ_ _ _ h=>h,λ_ h=>h,eM _,λ_ _ _=>rfl,λ_ _ h=>.inl h,λ_ h=>.inl h,rfl,rfl⟩
def Ext.trans{fl:Nat}{g g' d:Gh}{w w' f:World}(h:Ext fl g w g' w')(k:Ext fl g' w' d f):Ext fl g w d f where
 bP o b e:=k.bP o b (h.bP o b e)
 arr o e x i:=k.arr o e x (h.arr o e x i)
 bh b e:=k.bh b (h.bh b e)
 size:=fZ h.size k.size
 heap b c j:=by
  rw[k.heap b (iO c h.size) (λo l a=>?_),h.heap b c j];obtain a|a:=h.own o b a
  .grind
  .omega
 own o b a:=by
  obtain a|a:=k.own o b a
  .exact h.own o b a
  .exact .inr (fZ h.size a)
 og b c:=by
  obtain c|c|⟨o,l,a⟩:=k.og b c
  .exact h.og b c
  .exact .inr (.inl (fZ h.size c))
  .obtain a|a:=h.own o b a
   .grind
   omega
 os:=k.os.trans h.os
 output:=k.output.trans h.output
def Ext.keeps{g g':Gh}(h:Ext fl g w g' w')(hi:∀b,g.bh b->b<w.heap.size):jQ g.bh w w':=
 λb a=>h.heap b (hi b a) λ_ _ c=>c.1 a
def dH.ext{g g':Gh}(h:Ext fl g w g' w')(hi:∀b,g.bh b->b<w.heap.size){d:D}(a:dH g.bh w d v):dH g'.bh w' d v:=
 a.mono (h.keeps hi) h.bh
def aH.ext{fl:Nat}{g g':Gh}{w w':World}(h:Ext fl g w g' w')(hi:∀b,g.bh b->b<w.heap.size){t:T}{v:Value}(F:aH g w t v):aH g' w' t v:=by
 induction F with|sym d v p=>exact .sym d v (p.ext h hi)|kb b=>exact .kb b|kn k n=>exact .kn k n|ptr o off b q=>exact .ptr o off b (h.bP o b q)|lR d off B val s hc p=>exact .lR d off B val (h.bh _ s) (λj c A=>by rw[(h.keeps hi).cell (by rw[kK];exact s)];grind) (λj c A=>(p j c A).ext h hi)|lQ o e i off len cap sz B u=>exact .lQ o e i off len cap sz B (h.arr _ _ _ u)|sh o e len cap sz a u=>exact .sh o e len cap sz a (h.arr _ _ _ u)|emp a=>exact .emp a|kr n I a K p=>exact .kr n I a K (p.ext h hi)|fn f P y R S z hm _ _ l C=>exact .fn f P y R S z hm l C|de t x v _ l=>exact .de t x v l|agg y E z _ l=>exact .agg y E z l|gM y E z _ l=>exact .gM y E z l|gd c t v _ l=>exact .gd c t v l|mp o b q=>exact .mp o b (h.bP o b q)|rE o b q=>exact .rE o b (h.bP o b q)|uj o b q=>exact .uj o b (h.bP o b q)|ub e b h=>exact .ub e b h|sx o m r i len cap sz a u=>exact .sx o m r i len cap sz a (h.arr _ _ _ u)|pW j d c a A p=>exact .pW j d c a A (p.ext h hi)
def aH.arb{g g':Gh}(A:∀k j y,g.arr k j=Z y->g'.arr k j=Z y)(z:g'.bP=g.bP)(hi:g'.bh=g.bh)(K:aH g w t v):aH g' w t v:=by
 induction K with|sym d v p=>exact .sym d v (hi▸p)|kb b=>exact .kb b|kn k n=>exact .kn k n|ptr o off b h=>exact .ptr o off b (z▸h)|lR d off B val C P p=>exact .lR d off B val (hi▸C) P (λj c E=>hi▸p j c E)|lQ o e i off len cap sz B q=>exact .lQ o e i off len cap sz B (A _ _ _ q)|sh o e len cap sz a q=>exact .sh o e len cap sz a (A _ _ _ q)|emp a=>exact .emp a|kr n R a S p=>exact .kr n R a S (hi▸p)|fn f fs s va vc u hm _ _ l F=>exact .fn f fs s va vc u hm l F|de t x v _ l=>exact .de t x v l|agg s I u _ l=>exact .agg s I u l|gM s I u _ l=>exact .gM s I u l|gd c t v _ l=>exact .gd c t v l|mp o b h=>exact .mp o b (z▸h)|rE o b h=>exact .rE o b (z▸h)|uj o b h=>exact .uj o b (z▸h)|ub e b h=>exact .ub e b h|sx o m r i len cap sz a q=>exact .sx o m r i len cap sz a (A _ _ _ q)|pW j d c a E p=>exact .pW j d c a E (hi▸p)
def gS.imp{g g':Gh}(b:∀t v,aH g w t v->aH g' w' t v){x:Obj}(a:gS g w ob x):gS g' w' ob x:=by
 cases a with
 |box e f ty d a=>exact .box e f ty d λj t v h1 h2=>b _ _ (a j t v h1 h2)|map h i c d a=>exact .map h i c d λj t m h1 h2=>⟨b _ _ (a j t m h1 h2).1,b _ _ (a j t m h1 h2).2⟩|rD s pos=>exact .rD s pos|lp l r h1 h2 h4 h5 h6 n o=>exact .lp l r h1 h2 h4 h5 h6 n λk t p=>let ⟨v,q,u⟩:=o k t p;⟨v,q,b _ _ u⟩
 |Ah=>exact .Ah
def gS.ext{fl:Nat}{g g':Gh}{w w':World}(h:Ext fl g w g' w')(hi:∀b,g.bh b->b<w.heap.size){ob:Ob}{x:Obj}(a:gS g w ob x):gS g' w' ob x:=
 a.imp (λ_ _ c=>c.ext h hi)
def vJ(p:T->Bool)(t u:T):Prop:=(u=t∧p t=J)∨∃v,u=.gd J v
def si(p:T->Bool)(ob a:Ob):Prop:=
 match ob,a with
 |.box cs,.box ds=>cs.length=ds.length∧∀(j:Nat)(t u:T),cs[j]?=Z t->ds[j]?=Z u->vJ p t u|.map es,.map ds=>es.length=ds.length∧∀(j:Nat)(t u:T×T),es[j]?=Z t->ds[j]?=Z u->vJ p t.1 u.1∧vJ p t.2 u.2|.lD nj sz es era m gX hole,a=>(a=.lD nj sz es era m gX hole∧p (.sh m 0)=J)∨a=.gone|.lp l,.lp m=>m={l with fr:=m.fr}∧m.fr.n=l.fr.n∧∀k u,m.fr.get k=Z u->∃t,l.fr.get k=Z t∧vJ p t u
 |ob,a=>ob=a
def vJ.rel{g g':Gh}(a:∀t v,aH g w t v->p t=J->aH g' w' t v){u:T}(h:vJ p t u)(b:aH g w t v):aH g' w' u v:=by
 obtain⟨rfl,c⟩|⟨x,rfl⟩:=h
 .grind
 .exact .gd _ _ _ λh=>by cases h
def gS.left{g g':Gh}(i:∀t v,aH g w t v->p t=J->aH g' w' t v){a:Ob}{x:Obj}(b:gS g w ob x)(hl:si p ob a):gS g' w' a x:=by
 cases b with
 |box z A ty d b=>
  cases a with
  |box ds=>
   let ⟨B,n⟩:=hl
   refine .box ds A ty (by omega) λj u v f o=>?_;have h:j<z.length:=by grind
   exact(n j _ u (iR h) f).rel i (b j _ v (iR h) o)
  |_=>cases hl
 |map C E c d b=>
  cases a with
  |map ds=>
   let ⟨B,n⟩:=hl
   refine .map ds E c (by omega) λj u m f F=>?_;have h:j<C.length:=by grind
   have h1:=n j _ u (iR h) f;have h2:=b j _ m (iR h) F;exact⟨h1.1.rel i h2.1,h1.2.rel i h2.2⟩
  |_=>cases hl
 |rD s pos=>cases a<;>first|(cases hl;exact .rD _ _)|cases hl
 |lp l r h1 h2 h4 h5 h6 I K=>
  cases a with
  |lp m=>
   let ⟨e,P,R⟩:=hl
   rw[e];refine .lp _ r h1 h2 h4 h5 h6 (I.trans P.symm) λk u f=>?_
   let ⟨t,S,q⟩:=R k u f
   let ⟨v,o,y⟩:=K k t S
   exact⟨v,o,q.rel i y⟩
  |_=>cases hl
 |Ah=>cases a<;>first|exact .Ah|cases hl
def xu.imp{g g':Gh}(c:∀t v,aH g w t v->aH g' w' t v)(i:∀o b,g.bP o=Z b->g'.bP o=Z b){e:Deferred}(h:xu g w d e):xu g' w' d e:=by
 cases h with
 |call f args k first cap a h3 h4 h5=>exact .call f args k first cap a (c _ _ h3) h4 (λj t v l m=>c _ _ (h5 j t v l m))
 |mark o b h=>exact .mark o b (i o b h)|bad=>exact .bad _
def eL.imp{g g':Gh}{w w':World}(e:∀t v,aH g w t v->aH g' w' t v)(f:∀o b,g.bP o=Z b->g'.bP o=Z b){l:L Df}{m:L Deferred}(h:eL g w l m):eL g' w' l m:=by
 induction h with|nil=>exact .nil|cons h _ a=>exact .cons (h.imp e f) a|marks o i j h _ a=>exact .marks o i j (λb d=>let ⟨n,c,h1⟩:=h b d;⟨n,c,e _ _ h1⟩) a|ko k _ a=>exact .ko k a
def Sf(p:T->Bool)(d e:Df):Prop:=(e=.bad∧d.one=W)∨(e=d∧match d with
 |.call f args=>p f=J∧∀t∈args,p t=J|.mark o=>p (.ptr o 0)=J|.marks _=>False|.ko=>False|.bad=>True)
inductive iA(p:T->Bool):List Df->List Df->Prop where
 |nil:iA p [] []|cons {d e:Df} {l m:List Df} (h:Sf p d e) (t:iA p l m):iA p (d::l) (e::m)|marks (o:Nat) {l m:List Df} (h:∀e,p (.sh o e)=J) (t:iA p l m):iA p (.marks o::l) (.marks o::m)|afC (o:Nat) {l m:List Df} (t:iA p l m):iA p (.marks o::l) (.ko::m)|ko {l m:List Df} (t:iA p l m):iA p (.ko::l) (.ko::m)
def Sf.rel{g g':Gh}(c:∀t v,aH g w t v->p t=J->aH g' w' t v){e:Df}{x:Deferred}(h:Sf p d e)(l:xu g w d x):xu g' w' e x:=by
 obtain⟨rfl,_⟩|⟨rfl,h⟩:=h
 .exact .bad _
 .cases l with
  |call f args m first cap a h3 h4 h5=>exact .call f args m first cap a (c _ _ h3 h.1) h4 (λj t v k n=>c _ _ (h5 j t v k n) (h.2 t (iq k)))
  |mark o b q=>
   have:=c _ _ (.ptr o 0 b q) h;cases this with|ptr _ _ _ i=>exact .mark o b i
  |bad=>exact .bad _
def iA.rel{g g':Gh}{w w':World}{p:T->Bool}(a:∀t v,aH g w t v->p t=J->aH g' w' t v):∀{l m:L Df}{d:L Deferred},iA p l m->eL g w l d->eL g' w' m d
 |_,_,_,.nil,.nil=>.nil|_,_,_,.cons h t,.cons k u=>.cons (h.rel a k) (iA.rel a t u)|_,_,_,.cons h _,.marks _ _ _ _ _=>by obtain⟨_,h⟩|⟨_,h⟩:=h<;>cases h
 |_,_,_,.cons h _,.ko _ _=>by obtain⟨_,h⟩|⟨_,h⟩:=h<;>cases h
 |_,_,_,.marks o h t,.marks _ e f k u=>.marks o e f (λb i=>let ⟨n,c,h1⟩:=k b i;⟨n,c,a _ _ h1 (h b)⟩) (iA.rel a t u)
 |_,_,_,.marks _ _ _,.cons k _=>by cases k
 |_,_,_,.afC o t,.marks _ e _ _ u=>.ko _ (iA.rel a t u)|_,_,_,.afC _ _,.cons k _=>by cases k
 |_,_,_,.ko t,.ko d u=>.ko d (iA.rel a t u)|_,_,_,.ko _,.cons k _=>by cases k
def cR.ext{fl:Nat}{g g':Gh}{w w':World}(h:Ext fl g w g' w')(hi:∀b,g.bh b->b<w.heap.size){fr:Fr}{a:Act}(hf:cR g fr a w):cR g' fr a w':=
 ⟨hf.size,hf.df.imp (λ_ _ c=>c.ext h hi) h.bP,λk t d=>let ⟨v,e,c⟩:=hf.tm k t d;⟨v,e,c.ext h hi⟩⟩
end
section
def dY:TypeDesc->Bool
 |.struct _|.array _ _=>W|_=>J
def ag9(d:D)(v:Value):Prop:=(d=.sl []∧v=.slice Y 0 0)∨d=.lit v
def ZOk(zero:L D)(cells:Array Value):Prop:=
 zero.length=cells.size∧∀(j:Nat)(d:D)(v:Value),zero[j]?=Z d->cells[j]?=Z v->ag9 d v
def amd(P:Program):Kd->TypeDesc->Prop
 |.leaf (.int k),d=>d=.int k|.leaf .bool,d=>d=.bool|.leaf .str,d=>d=.string|.leaf .no,_=>True|.ptr,d=>∃e,d=.pointer e|.slice sz ag b zero,d=>∃e j a z,d=.slice e∧P.info? e=Z j∧j.size=sz∧P.underlying e=Z a∧ag=dY a∧j.zero=Z z∧ZOk zero z.cells∧j.bytes<=4096∧0<sz∧j.bytes<=b∧b<=2*j.bytes∧0<j.bytes∧zero.length=sz|.struct c,d=>∃fields,d=.struct fields∧fields.size=c.length∧∀(k:Nat)off size ag,c[k]?=Z (off,size,ag)->
   ∃f j a,fields[k]?=Z f∧f.offset=off∧P.info? f.type=Z j∧j.size=size∧P.underlying f.type=Z a∧ag=dY a
 |.array len sz ag,d=>∃e j a,d=.array len e∧P.info? e=Z j∧j.size=sz∧P.underlying e=Z a∧ag=dY a|.iface,d=>∃g,d=.interface g|.other,_=>True
def BF:Lk->Value->Prop
 |.int k,v=>∃n,v=.int k n|.bool,v=>∃b,v=.bool b|.str,v=>∃b,v=.string b|.no,_=>False
def GZ:Value->Value->Bool
 |.int _ a,.int _ b=>a==b|.bool a,.bool b=>a==b|.string a,.string b=>a==b|_,_=>J
def nF:L Value->L Value->Bool
 |a::l,b::m=>GZ a b&&nF l m|_,_=>W
def ahv(P:Program)(t:TypeId)(a:L Lk):Prop:=
 ∀(w:World)(op:BinOp)(x y:Operand)(b ys:Array Value),b.size=a.length->ys.size=a.length->
  (∀(j:Nat)(l:Lk)(v:Value),a[j]?=Z l->b[j]?=Z v->BF l v)->(∀(j:Nat)(l:Lk)(v:Value),a[j]?=Z l->ys[j]?=Z v->BF l v)->
  (eqGuard op t x y (.agg b) (.agg ys)).run P w=.ok () w∧(Op.equal t (.agg b) (.agg ys)).run P w=.ok (nF b.toList ys.toList) w
structure m7(P:Program)(t:TypeId)(i:TI):Prop where
 eqs:i.agg=W->i.lks≠[]->ahv P t i.lks
 nif:∀ms,P.underlying t=Z (.interface ms)->i.kd=.iface
 zag:∀x z,P.info? t=Z x->x.zero=Z z->(i.agg=W->∃vs,z=.agg vs)∧(i.agg=J->z.cells=#[z])
 all:∃x d z,P.info? t=Z x∧P.underlying t=Z d∧x.size=i.size∧i.agg=dY d∧x.zero=Z z∧ZOk i.zero z.cells∧amd P i.kd d
section
variable {P:Program}
def aJ{t:TypeId}{d:TypeDesc}(h:P.underlying t=Z d)(w:World):(underlying t).run P w=.ok d w:=by simp[underlying,h]
def so{t:TypeId}{x:TypeInfo}(h:P.info? t=Z x)(w:World):(typeInfo t).run P w=.ok x w:=by simp[typeInfo,h]
def dn{t:TypeId}{x:TypeInfo}(h:P.info? t=Z x)(w:World):(Go.sizeOf t).run P w=.ok x.size w:=by simp[Go.sizeOf,so h]
def uu{t:TypeId}{d:TypeDesc}(h:P.underlying t=Z d)(w:World):(isAgg t).run P w=.ok (dY d) w:=by simp[isAgg,run_bind,aJ h,andThen_ok];cases d<;>rfl
def ej{t:TypeId}{x:TypeInfo}{z:Value}(h:P.info? t=Z x)(a:x.zero=Z z)(w:World):(zeroValue t).run P w=.ok z w:=by simp[zeroValue,so h,a]
theorem beq_iff'{a b:Nat}:Nq a b=W↔a=b:=by
 simp_all
def Ay{t:TypeId}{x:TypeInfo}{d:TypeDesc}(hi:P.info? t=Z x)(f:P.underlying t=Z d)(w:World)(a:Addr)(vals:L Value)(hl:vals.length=x.size)
  (c:∀j v,vals[j]?=Z v->w.cell? (a.add j)=Z v) (h1:dY d=J->∃v,vals=[v]) :
  (loadVar t a).run P w=.ok (if dY d then .agg vals.toArray else vals.headD undef) w:=by
 have b:=run_loadCells_list (P:=P) w a vals c;simp only[loadVar,run_bind,uu f,andThen_ok];cases g:dY d with|true=>simp[dn hi,<-hl,b]|false=>obtain⟨v,rfl⟩:=h1 g;have e:=c 0 v rfl;simp[Addr.add]at e;simp[e]
end
variable {j:Nat}{ag:Bool}{cs:List T}{t:T}{g:Gh}{w:World}
def cw{α:Type}{l:L α}{x:α}(h:l[j]?=Z x):j<l.length:=by
 grind
def zk{n k:Nat}(h:(List.range n)[j]?=Z k):j=k∧j<n:=by
 grind
theorem ud(a:Addr)(i j:Nat):(a.add i).add j=a.add (i+j):=by unfold Addr.add;by_cases b:i=0<;>by_cases c:j=0<;>simp[b,c,Nat.add_assoc]
def FV(h:wj ag cs=Z t):(ag=W∧t=.agg cs)∨(ag=J∧cs=[t]):=by
 unfold wj at h
 grind
def xL(h:wj ag cs=Z t){vals:L Value}(hl:cs.length=vals.length)
  (a:∀(j:Nat)(t:T)(v:Value),cs[j]?=Z t->vals[j]?=Z v->aH g w t v) :
  aH g w t (if ag then .agg vals.toArray else vals.headD undef)∧(ag=J->∃v,vals=[v]):=by
 obtain⟨rfl,rfl⟩|⟨rfl,rfl⟩:=FV h
 .exact ⟨.agg _ _ (by simpa using hl) (λj t v h1 h2=>a j t v h1 (by simpa using h2)),λh=>by cases h⟩
 .match vals,hl with
  |[v],_=>exact⟨a 0 _ _ rfl rfl,λ_=>⟨v,rfl⟩⟩
def sn{α:Type}(l:L α)(off n j:Nat)(x:α)(h:((l.drop off).take n)[j]?=Z x):l[off+j]?=Z x∧j<n:=by
 grind
theorem D.OT(d:D)(j:Nat)(h:j<d.cells.length):d.cells[j]?=Z (d.cell j):=by
 grind[D.cell]
def Du{P:Program}{ty:TypeId}{i:TI}(hi:m7 P ty i){d:D}{off:Nat}(h:m8 i d off=Z t)(o:d.has (Na off i.size))
  {ad:Addr} {val:Nat->Value} (u:∀j c,d.cells[j]?=Z c->w.cell? (ad.add j)=Z (val j)) (y:∀j c,d.cells[j]?=Z c->dH g.bh w c (val j)) :
  ∃v,(loadVar ty (ad.add off)).run P w=.ok v w∧aH g w t v:=by
 let ⟨x,ds,z,p,q,l,b,_⟩:=hi.all
 have A:off+i.size<=d.cells.length:=o;have a:∀j,j<i.size->w.cell? ((ad.add off).add j)=Z (val (off+j))∧dH g.bh w (d.cell (off+j)) (val (off+j)):=by
  grind[ud,D.OT]
 have e:=Ay (P:=P) p q w (ad.add off) ((List.range i.size).map λj=>val (off+j)) (by simp[l]) (λj v B=>by
  grind)
 unfold m8 at h;cases n:i.agg with
 |true=>
  rw[n]at h b;simp at h;subst h;refine⟨_,e (λC=>by simp_all),?_⟩;rw[<-b];refine .agg _ _ (by simp) (λj t v h1 h2=>?_);simp at h1;obtain⟨k,r,rfl⟩:=h1;obtain⟨rfl,m⟩:=zk r;have s:v=val (off+j):=by
   simp_all
  subst s;exact .sym _ _ (a j m).2
 |false=>
  rw[n]at h b;by_cases h1:Nq i.size 1=W
  .simp[h1]at h;subst h;have f:=beq_iff'.1 h1;refine⟨_,e (λ_=>⟨val off,by simp[f]⟩),?_⟩;rw[<-b];have:=(a 0 (by omega)).2;simp[f];exact .sym _ _ (by omega)
  simp_all
end
section
def af{α:Type}{b:Bool}{x y:O α}{z:α}(h:(bif b then x else y)=Z z):(b=W∧x=Z z)∨(b=J∧y=Z z):=by
 grind
theorem wD{I:Nat->Prop}{w:World}{d:D}{v:Value}(hl:d.leaf=W)(h:dH I w d v):v.oneCell'=W∧v.cells=#[v]:=by
 cases h with
 |lit v=>cases v<;>first|exact⟨rfl,rfl⟩|cases hl
 |sl=>exact⟨rfl,rfl⟩|agg=>cases hl
 |gM=>cases hl
 |_=>exact⟨rfl,rfl⟩
variable {g:Gh}{w:World}{t:T}{v:Value}{i:TI}{s:St}{o e sz k:Nat}{es:List D}
def Uy(hl:t.leaf)(h:aH g w t v):v.oneCell'=W∧v.cells=#[v]:=by cases h with|sym d v a=>exact wD hl a|agg=>exact hl.elim|gM=>exact hl.elim|gd=>exact hl.elim|_=>exact⟨rfl,rfl⟩
def zE{n:Nat}{d:D}(h:d.isAgg n=W):∃cs,d=.agg cs∧cs.length=n∧∀c∈cs,c.leaf=W:=by
 unfold D.isAgg at h;split at h
 .rename_i cs;simp only[eZ]at h;refine⟨cs,rfl,?_,?_⟩
  .rw[<-bS];exact beq_iff'.1 h.1
  .simpa using h.2
 .cases h
def mQ{p:Prop}{cs:L T}(h:kj i t=Z (p,cs))(q:p)(r:aH g w t v) :
  cs.length=i.size∧v.cells.size=i.size∧(∀(j:Nat)(t:T)(u:Value),cs[j]?=Z t->v.cells[j]?=Z u->aH g w t u)∧
  (i.agg=W->∃vs,v=.agg vs)∧(i.agg=J->v.cells=#[v]∧i.size=1):=by
 cases r with
 |agg y vs f l=>
  obtain⟨b,h⟩|⟨_,h⟩:=af h
  .simp only[eZ]at b;have c:=beq_iff'.1 b.2;rw[bS]at c;obtain⟨_,rfl⟩:=h;refine⟨c,by simp[Value.cells,<-f,c],λj t u h1 h2=>l j t u h1 h2,λ_=>⟨vs,rfl⟩,λe=>by simp_all⟩
  .cases h
 |sym d v m=>
  obtain⟨b,h⟩|⟨b,h⟩:=af h
  .obtain ⟨rfl,rfl⟩:=h;obtain⟨ds,rfl,c,s⟩:=zE q;cases m with|agg _ vs f _ l=>refine⟨by simp,by simp[Value.cells,<-f,c],λj t u h1 h2=>?_,λ_=>⟨vs,rfl⟩,λe=>by simp_all⟩;simp at h1;obtain⟨k,x,rfl⟩:=h1;obtain⟨rfl,n⟩:=zk x;exact .sym _ _ (l j _ u (D.OT (.agg ds) j (by simpa[D.cells,c]using n)) h2)
  .obtain ⟨h1,h⟩|⟨_,h⟩:=af h
   .obtain ⟨rfl,rfl⟩:=h;have a:=beq_iff'.1 h1
    let ⟨_,o⟩:=wD q m
    refine⟨by simp[a],by simp[o,a],λj t u h2 h3=>?_,λe=>(by simp_all),λ_=>⟨o,a⟩⟩;rw[o]at h3;cases j with|zero=>simp at h2 h3;subst h2;subst h3;exact .sym _ _ m|succ j=>simp at h2
   .cases h
 |gM=>cases h
 |gd=>cases h
 |kb|kn|ptr|lR|lQ|sh|emp|kr|fn|de|mp|rE|uj|ub|sx|pW=>
  all_goals
   simp only[kj]at h;obtain⟨_,h⟩|⟨b,h⟩:=af h
   .cases h
   .obtain ⟨h1,h⟩|⟨_,h⟩:=af h
    .simp only[gK,fh]at h;obtain⟨_,rfl⟩:=h;have a:=beq_iff'.1 h1;refine⟨by simp[a],by simp[Value.cells,a],?_,λe=>(by rw[b]at e;cases e),λ_=>⟨rfl,a⟩⟩;intro j t u h2 h3;cases j with|zero=>simp[Value.cells]at h2 h3;subst h2;subst h3;constructor<;>assumption|succ j=>simp at h2
    .cases h
def J6(h:IT s o e=Z (sz,es)):∃fz,s.ob.get o=Z (fW fz sz es e):=by
 unfold IT at h;split at h
 .rename_i c d era a;obtain⟨b,h⟩|⟨_,h⟩:=af h
  .have:=beq_iff'.1 b;subst this;simp at h;obtain⟨rfl,rfl⟩:=h;exact⟨J,a⟩
  .cases h
 .rename_i a;obtain⟨b,h⟩|⟨_,h⟩:=af h
  .have:=beq_iff'.1 b;subst this;simp at h;obtain⟨rfl,rfl⟩:=h;exact⟨W,a⟩
  .cases h
 .cases h
theorem kJ{fz a:Bool}{sz b e c:Nat}{es es':L D}(h:fW fz sz es e=fW a b es' c):fz=a∧sz=b∧es=es'∧e=c:=by cases fz<;>cases a<;>simp[fW]at h<;>exact⟨rfl,h⟩
def aV.nJ(hs:aV g s w){fz:Bool}{x:eY}(b:s.ob.get o=Z (fW fz sz es e))(c:g.arr o e=Z x) :
  xC g w fz sz es x∧x.sz=sz:=by
 let ⟨d,f,era,a,_,_,h⟩:=(hs.arr o e x c).old _ b (Wc _ _ _ _)
 obtain⟨rfl,h2,rfl,rfl⟩:=kJ a
 simp_all
theorem cell?_of_block{w:World}{b off:Nat}{vs:Array Value}{ty:TypeId}{fz:Nat×Nat}(h:w.heap[b]?=Z (.cells vs ty fz)):w.cell? ⟨b,off,Y⟩=vs[off]?:=by simp[World.cell?,h]
def nL(b off n:Nat):(⟨b,off,Y⟩:Addr).add n=⟨b,off+n,Y⟩:=by unfold Addr.add;split<;>simp_all
def TB(h:lH (k:Int) (eH es)):k<es.length:=by have:=h.2;unfold eH at this;omega
def D.Ly(h:k<es.length):es[k]?=Z (jf es k):=by
 grind[jf]
def DE{P:Program}{ty:TypeId}(hi:m7 P ty i){s':St}(hs:aV g s w){x:T}{vx:Value}(S:aH g w x vx)
  {p:Prop} {t:T} (h:loadT i s x=Z (p,t,s')) (hp:p):∃v,(Instr.loadAt ty vx).run P w=.ok v w∧aH g w t v∧s'=s:=by
 cases S with
 |ptr o off b hb=>
  cases C:s.ob.get o with
  |none=>simp[loadT,C]at h|some ob=>
  simp[loadT,C]at h;cases ob with
  |box cs=>
  let ⟨E,ety,hh,hl,hr⟩:=(hs.box o b hb).box C
  obtain⟨hn,h⟩|⟨_,h⟩:=af h
  .have r:=beq_iff'.1 hn;rw[bS]at r;simp only[fM,fh]at h;obtain⟨t',a,_,rfl,rfl⟩:=h
   let ⟨xi,d,z,N7,hu,u,F,_⟩:=hi.all
   have m:((E.toList.drop off).take i.size).length=i.size:=by
    have:((cs.drop off).take i.size).length=((E.toList.drop off).take i.size).length:=by simp[hl]
    rw[<-this,r]
   let ⟨I,h1⟩:=xL (g:=g) (w:=w) a (vals:=(E.toList.drop off).take i.size) (by rw[r,m]) (λj t v h1 h2=>by
    let ⟨h1,_⟩:=sn _ _ _ _ _ h1
    let ⟨h2,_⟩:=sn _ _ _ _ _ h2
    exact hr _ _ _ h1 (by simpa using h2))
   refine⟨_,?_,I,rfl⟩;have:=Ay (P:=P) N7 hu w ⟨b,off,Y⟩ ((E.toList.drop off).take i.size) (by rw[m,u]) (λj v A=>by
    let ⟨A,_⟩:=sn _ _ _ _ _ A
    rw[nL,cell?_of_block hh];simpa using A) (λhf=>h1 (by rw[F,hf]))
   rw[F];simpa[Instr.loadAt,Instr.sureAddr]using this
  .cases h
  |_=>simp at h
 |lR d off ad val TK f hd=>
  simp only[loadT,fM,fh]at h;obtain⟨t',a,rfl,rfl,rfl⟩:=h
  let ⟨v,B,ht⟩:=Du hi a hp f hd
  exact⟨v,by simpa[Instr.loadAt,Instr.sureAddr]using B,ht,rfl⟩
 |lQ o e k off len cap sz ad S=>
  simp only[loadT]at h;cases ha:IT s o e with
  |none=>simp[ha]at h|some q=>
   let ⟨sz',es⟩:=q
   let ⟨fz,C⟩:=J6 ha
   let ⟨y,u⟩:=hs.nJ C S
   simp only[ha,fM,fh]at h;obtain⟨t',a,rfl,rfl,rfl⟩:=h;subst u;have hk:=TB hp.1;have K:(⟨Z ad,len,cap,sz⟩:eY).cap≠0:=by have h1:=y.len;have h2:=y.cap;omega
   let ⟨b,E,ety,R,_,hh,_,l⟩:=y.mem K
   simp at R;subst R;have hex:∀j,∃v,∀c,(jf es k).cells[j]?=Z c->w.cell? ((⟨b,k*sz,Y⟩:Addr).add j)=Z v∧dH g.bh w c v:=by
    intro j;by_cases A:j<(jf es k).cells.length
    .let ⟨v,B,hd⟩:=l k _ j _ (D.Ly hk) (iR A)
     refine⟨v,λc f=>?_⟩;rw[iR A]at f;rw[<-jT f,nL,cell?_of_block hh];exact⟨B,hd⟩
    .exact ⟨undef,λc f=>by rw[List.getElem?_eq_none (by omega)]at f;cases f⟩
   let ⟨val,n⟩:=U0 hex
   let ⟨v,B,ht⟩:=Du hi a hp.2 (ad:=⟨b,k*sz,Y⟩) (val:=val) (λj c f=>(n j c f).1) (λj c f=>(n j c f).2)
   refine⟨v,?_,ht,rfl⟩;rw[nL]at B;rw[nL];simpa[Instr.loadAt,Instr.sureAddr]using B
 |_=>simp[loadT]at h
end
section
def setRow_other(w:World)(g b:Nat)(cs:Array Value)(h:b≠g):(w.setRow g cs).heap[b]?=w.heap[b]?:=by unfold World.setRow;rw[Array.getElem?_modify,bL (λe=>h e.symm)]
variable {g g':Gh}{s s':St}{w w':World}{o b e fl sz:Nat}{x:eY}{fz:Bool}{es:List D}{ob:Ob}
def aV.lt(hs:aV g s w)(h:g.bP o=Z b):o<s.aE:=by
 obtain a|a:=Nat.lt_or_ge o s.aE
 .exact a
 .rw[(hs.ah o a).1]at h;cases h
def aV.lt'(hs:aV g s w)(h:g.arr o e=Z x):o<s.aE:=by
 obtain a|a:=Nat.lt_or_ge o s.aE
 .exact a
 .rw[(hs.ah o a).2 e]at h;cases h
def aV.rP(hs:aV g s w)(h:bz g o b):b<w.heap.size∧o<s.aE:=by
 obtain h1|⟨e,x,c,h1,d,a,f⟩:=h.2
 .exact ⟨(hs.box o b h1).2.1,hs.lt h1⟩
 .exact ⟨a▸(hs.arr o e x h1).1 c d f,hs.lt' h1⟩
def xw.ext{g g':Gh}{s s':St}{w w':World}{fl o b:Nat}(e:Ext fl g w g' w')(hi:∀b,g.bh b->b<w.heap.size)(f:w'.heap[b]?=w.heap[b]?)
  (i:s'.ob.get o=s.ob.get o) (a:¬g'.bh b) (h:xw g s w o b):xw g' s' w' o b:=by
 let ⟨_,c,j⟩:=h
 refine⟨a,iO c e.size,λob d=>?_⟩
 let ⟨x,h1,h2⟩:=j ob (i▸d)
 exact⟨x,f.trans h1,h2.ext e hi⟩
def xC.ext{g g':Gh}{w w':World}{fl:Nat}{fz:Bool}{sz:Nat}{es:L D}{x:eY}(e:Ext fl g w g' w')(hi:∀b,g.bh b->b<w.heap.size)
  (f:∀b,x.a=Z ⟨b,0,Y⟩->x.cap≠0->w'.heap[b]?=w.heap[b]?∧(g'.bh b↔g.bh b)) (h:xC g w fz sz es x):xC g' w' fz sz es x:=
 ⟨h.len,h.cap,h.rows,h.pos,h.WD,λa=>by
  let ⟨b,k,ty,h1,h2,h3,h4,h5⟩:=h.mem a
  let ⟨l,m⟩:=f b h1 a
  exact⟨b,k,ty,h1,h2.trans m.symm,l.trans h3,h4,λi d j c n o=>let ⟨v,p,q⟩:=h5 i d j c n o;⟨v,p,q.ext e hi⟩⟩⟩
def xC.j8(h:xC g w fz sz es x)(hi:g'.bh=g.bh):xC g' w fz sz es x:=
 ⟨h.len,h.cap,h.rows,h.pos,h.WD,by rw[hi];exact h.mem⟩
def IZ.le{m gX:Nat}{hole:O Nat}{hs:L Value}(h:IZ g m gX hole hs)(a:∀j y,g.arr m j=Z y->g'.arr m j=Z y):IZ g' m gX hole hs:=
 ⟨h.1,λi v b c=>let ⟨y,h1,h2⟩:=h.2 i v b c;⟨y,a _ _ h1,h2⟩⟩
def vM.tr(h:vM g w o e x ob)(f:∀{fz sz es},xC g w fz sz es x->xC g' w' fz sz es x)(p:∀k j y,g.arr k j=Z y->g'.arr k j=Z y)(A:g'.arr o=g.arr o)(q:∀b,x.a=Z ⟨b,0,Y⟩->x.cap≠0->w'.heap[b]?=w.heap[b]?∧(g'.bh b↔g.bh b)):vM g' w' o e x ob:=by
 obtain⟨fz,es,era,h1,h2,h3,h5⟩|⟨s,es,era,m,a,hole,h1,h2,h3,h5⟩|⟨sz,l,a,h1,h2,h3,h5⟩|h|⟨h1,h2,h3,h4,h5⟩:=h
 .exact .inl ⟨fz,es,era,h1,h2,λt h=>by simp_all,λh=>f (h5 h)⟩
 .exact .inr (.inl ⟨s,es,era,m,a,hole,h1,h2,λt h=>by simp_all,λh=>let ⟨u,c,d,n⟩:=h5 h;⟨u,c,f d,n.le (p m)⟩⟩)
 .exact .inr (.inr (.inl ⟨sz,l,a,h1,λr i h=>by simp_all,by grind,λi h=>let ⟨c,v,d,n⟩:=h5 i h;⟨c,v,d,f n⟩⟩))
 .exact .inr (.inr (.inr (.inl h)))
 .let ⟨c,d⟩:=q e h2 h3
  exact .inr (.inr (.inr (.inr ⟨h1,h2,h3,λz=>h4 (d.1 z),c.trans h5⟩)))
def vM.left{p:T->Bool}{c:Ob}(h:vM g w o e x ob)(hl:si p ob c)(l:∀{fz sz es},xC g w fz sz es x->xC g' w' fz sz es x)
  (q:∀m j y,p (.sh m 0)=J->g.arr m j=Z y->g'.arr m j=Z y) (C:g'.arr o=g.arr o) (s:∀b,x.a=Z ⟨b,0,Y⟩->x.cap≠0->w'.heap[b]?=w.heap[b]?∧(g'.bh b↔g.bh b)):vM g' w' o e x c:=by
 obtain⟨fz,es,era,rfl,h2,h3,h5⟩|⟨t,es,era,m,a,hole,rfl,h2,h3,h5⟩|⟨sz,d,a,rfl,h2,h3,h5⟩|rfl|⟨rfl,h2,h3,h4,h5⟩:=h
 .have:c=fW fz x.sz es era:=by cases fz<;>exact hl.symm
  exact .inl ⟨fz,es,era,this,h2,λu h=>by simp_all,λh=>l (h5 h)⟩
 .obtain ⟨rfl,v⟩|rfl:=hl
  .exact .inr (.inl ⟨t,es,era,m,a,hole,rfl,h2,λu h=>by simp_all,λh=>let ⟨z,f,k,n⟩:=h5 h;⟨z,f,l k,n.le (λj y=>q m j y v)⟩⟩)
  .exact .inr (.inr (.inr (.inl rfl)))
 .have:c=.rws sz d a:=hl.symm;exact .inr (.inr (.inl ⟨sz,d,a,this,λr i h=>by simp_all,by grind,λi h=>let ⟨f,A,k,n⟩:=h5 i h;⟨f,A,k,l n⟩⟩))
 .have:c=.gone:=hl.symm;exact .inr (.inr (.inr (.inl this)))
 .have:c=.Gd:=hl.symm
  let ⟨f,k⟩:=s e h2 h3
  exact .inr (.inr (.inr (.inr ⟨this,h2,h3,λB=>h4 (k.1 B),f.trans h5⟩)))
def BK.ext{g g':Gh}{s s':St}{w w':World}{fl o e:Nat}{x:eY}(a:Ext fl g w g' w')(hi:∀b,g.bh b->b<w.heap.size)
  (d:∀b,x.a=Z ⟨b,0,Y⟩->x.cap≠0->w'.heap[b]?=w.heap[b]?∧(g'.bh b↔g.bh b))
  (f:s'.ob.get o=s.ob.get o) (i:g'.arr o=g.arr o) (h:BK g s w o e x):BK g' s' w' o e x:=by
 refine⟨λl m n=>iO (h.1 l m n) a.size,λob c=>?_⟩;exact(h.2 ob (f▸c)).tr (λh=>h.ext a hi d) (λk j y h=>a.arr k j y h) i d
def aV.afe(hs:aV g s w)(n:g.bP o=Z b){r:L T}(k:s.ob.get o=Z (.box r))(u:s.fl<=o){cs':L T}{vs':Array Value}(hl:cs'.length=vs'.size)
  (A:∀(j:Nat)(t:T)(v:Value),cs'[j]?=Z t->vs'[j]?=Z v->aH g w t v) :
  aV g {s with ob:=s.ob.set aK o (.box cs')} (w.setRow b vs')∧Ext s.fl g w g (w.setRow b vs'):=by
 have c:bz g o b:=⟨(hs.box o b n).1,.inl n⟩;have m:o<bC:=iO (hs.lt n) hs.aE;have q:Ext s.fl g w g (w.setRow b vs'):=
  ⟨λ_ _ h=>h,λ_ _ _ h=>h,λ_ h=>h,by simp,λd _ B=>setRow_other w b d vs' (λe=>B o u (e▸c)),
   λ_ _ h=>.inl h,λ_ h=>.inl h,rfl,rfl⟩
 refine⟨⟨hs.aE,hs.ah,λi d a=>?_,λi e x y=>?_,λd a=>by simpa using hs.bh d a,hs.jS⟩,q⟩
 .by_cases f:i=o
  .subst f;rw[n]at a;simp at a;subst a
   let ⟨h1,h2,h3⟩:=hs.box i b n
   let ⟨C,ty,h4,h5,h6⟩:=(hs.box i b n).box k
   refine⟨h1,by simpa using h2,λE l=>⟨_,setRow_heap w b C vs' ty _ h4,?_⟩⟩;rw[Tr.aR _ _ _ _ m,bw rfl]at l;obtain rfl:=jT l;exact .box _ _ _ hl λj t v F I=>(A j t v F I).ext q hs.bh
  .have z:d≠b:=λe=>f (hs.jS i o b (e▸⟨(hs.box i d a).1,.inl a⟩) c);exact(hs.box i d a).ext q hs.bh (setRow_other w b d vs' z) (by simp;rw[Tr.aR _ _ _ _ m,bL f]) (hs.box i d a).1
 .have f:i≠o:=by
   rintro rfl
   cases((hs.arr i e x y).2 _ k).oe
  refine(hs.arr i e x y).ext q hs.bh (λd a K=>⟨setRow_other w b d vs' ?_,vO⟩) (by simp;rw[Tr.aR _ _ _ _ m,bL f]) rfl
  rintro rfl
  by_cases p:g.bh d
  .exact c.1 p
  .exact f (hs.jS i o d ⟨p,.inr ⟨e,x,_,y,a,rfl,K⟩⟩ c)
def Gh.dD(g:Gh)(o b:Nat):Gh:={g with bP:=λk=>if k=o then Z b else g.bP k}
def qm(w:World)(o:Obj)(b:Nat)(h:b<w.heap.size):(w.alloc o).heap[b]?=w.heap[b]?:=by show(w.heap.push o)[b]?=_;rw[Array.getElem?_push,bL (by omega)]
def xZ(w:World)(o:Obj):(w.alloc o).heap[w.heap.size]?=Z o:=by show(w.heap.push o)[w.heap.size]?=_;simp
def aV.newObj(hs:aV g s w)(hn:s.aE<bC){ob0:Ob}{x0:Obj}(u:gS g w ob0 x0) :
  aV (g.dD s.aE w.heap.size) (eg s ob0).2 (w.alloc x0)∧Ext s.fl g w (g.dD s.aE w.heap.size) (w.alloc x0):=by
 have c:=hs.ah s.aE (eM _);have k:∀o b,g.bP o=Z b->(g.dD s.aE w.heap.size).bP o=Z b:=λo b h=>by
  have:o≠s.aE:=λe=>by rw[e,c.1]at h;cases h
  simp[Gh.dD,this,h]
 have d:∀o b,bz (g.dD s.aE w.heap.size) o b->bz g o b∨(o=s.aE∧b=w.heap.size):=by
  rintro o b ⟨h1,h2|h2⟩
  .by_cases f:o=s.aE
   .subst f;simp[Gh.dD]at h2;exact .inr ⟨rfl,h2.symm⟩
   .simp[Gh.dD,f]at h2;exact .inl ⟨h1,.inl h2⟩
  .exact .inl ⟨h1,.inr h2⟩
 have m:Ext s.fl g w (g.dD s.aE w.heap.size) (w.alloc x0):=
  ⟨k,λ_ _ _ h=>h,λ_ h=>h,by simp,λb i _=>qm w _ b i,
   λo b h=>(d o b h).imp id λh=>by omega,λ_ h=>.inl h,rfl,rfl⟩
 refine⟨⟨by simp only[eg];omega,λo f=>?_,λo b i=>?_,λo e x r=>?_,λb i=>?_,λo t b h v=>?_⟩,m⟩
 .simp only[eg]at f;have h1:o≠s.aE:=by omega
  simp[Gh.dD,h1,yo];exact hs.ah o (by omega)
 .by_cases f:o=s.aE
  .subst f;have n:b=w.heap.size:=by simp[Gh.dD]at i;exact i.symm
   subst n;refine⟨λp=>?_,by simp,λob j=>⟨_,xZ w _,?_⟩⟩
   .have:=hs.bh _ p;omega
   .simp[eg]at j;rw[Tr.aR _ _ _ _ hn,bw rfl]at j;obtain rfl:=jT j;exact u.ext m hs.bh
  .have q:g.bP o=Z b:=by simpa[Gh.dD,f]using i
   have a:=hs.box o b q;exact a.ext m hs.bh (qm w _ b a.2.1) (by simp[eg];rw[Tr.aR _ _ _ _ hn,bL f]) a.1
 .have a:=hs.arr o e x r;have f:o≠s.aE:=λh=>by have l:g.arr o e=Z x:=r;rw[h,c.2 e]at l;cases l
  refine a.ext m hs.bh (λb i y=>⟨qm w _ b ?_,vO⟩) (by simp[eg];rw[Tr.aR _ _ _ _ hn,bL f]) rfl;exact a.1 _ i y
 .have:=hs.bh b i;simp;omega
 .obtain h1|⟨h1,h3⟩:=d o b h<;>obtain h2|⟨h2,h4⟩:=d t b v
  .exact hs.jS o t b h1 h2
  .have:=(hs.rP h1).1;omega
  .have:=(hs.rP h2).1;omega
  .rw[h1,h2]
def aV.dD{g:Gh}{s:St}{w:World}(hs:aV g s w)(hn:s.aE<bC){cs:L T}{vs:Array Value}(ty:TypeId)(hl:cs.length=vs.size)
  (a:∀(j:Nat)(t:T)(v:Value),cs[j]?=Z t->vs[j]?=Z v->aH g w t v) :
  aV (g.dD s.aE w.heap.size) (eg s (.box cs)).2 (w.alloc (.cells vs ty))∧Ext s.fl g w (g.dD s.aE w.heap.size) (w.alloc (.cells vs ty)):=
 hs.newObj hn (.box cs vs ty hl a)
end
section
def Gh.era(g:Gh)(o e:Nat)(x:eY):Gh:={g with arr:=λk j=>if k=o∧j=e then Z x else g.arr k j}
def Gh.fE(g:Gh)(o e:Nat)(x:eY):(g.era o e x).arr o e=Z x:=by simp[Gh.era]
theorem Gh.cQ(g:Gh)(o e k j:Nat)(x:eY)(h:¬(k=o∧j=e)):(g.era o e x).arr k j=g.arr k j:=by simp[Gh.era,h]
variable {g:Gh}{s:St}{w w':World}{o e sz:Nat}{es es':List D}{x:eY}
def aV.ak7(hs:aV g s w){x':eY}(S:s.ob.get o=Z (.arr sz es e))(C:g.arr o e=Z x)
  (hfl:s.fl<=o) (hos:w'.os=w.os) (E:w'.output=w.output) (c:w.heap.size<=w'.heap.size)
  (d:∀b,b<w.heap.size->¬x.at b->w'.heap[b]?=w.heap[b]?)
  (hx':∀b,x'.at b->b<w'.heap.size∧(w.heap.size<=b∨x.at b))
  (hok:xC (g.era o (e+1) x') w' J sz es' x') (hxs:x'.sz=sz) :
  aV (g.era o (e+1) x') {s with ob:=s.ob.set aK o (.arr sz es' (e+1))} w'∧Ext s.fl g w (g.era o (e+1) x') w':=by
 have t:o<bC:=iO (hs.lt' C) hs.aE
 let ⟨F,acv⟩:=hs.nJ (fz:=J) S C
 have hnext:∀e',e<e'->g.arr o e'=Y:=by
  let ⟨fz,v,era,h1,_,h3,_⟩:=(hs.arr o e x C).old _ S rfl
  have z:fW J sz es e=fW fz x.sz v era:=h1;obtain⟨_,_,_,rfl⟩:=kJ z;exact h3
 have A:∀b,x.at b->¬g.bh b:=by
  rintro b ⟨r,h1,rfl,h3⟩ I
  let ⟨b',_,_,k1,k2,_⟩:=F.mem h3
  grind
 have f:∀b,x.at b->bz g o b:=λb m=>by
  let ⟨r,h1,h2,h3⟩:=m
  exact⟨A b ⟨r,h1,h2,h3⟩,.inr ⟨e,x,r,C,h1,h2,h3⟩⟩
 have K:∀k j y,g.arr k j=Z y->(g.era o (e+1) x').arr k j=Z y:=λk j y h=>by
  rw[Gh.cQ]
  .exact h
  grind
 have hown:∀k b,bz (g.era o (e+1) x') k b->bz g k b∨(k=o∧x'.at b):=by
  rintro k b ⟨h1,h2|⟨j,y,r,h2,h3,h4,h5⟩⟩
  .exact .inl ⟨h1,.inl h2⟩
  .by_cases P:k=o∧j=e+1
   .obtain ⟨rfl,rfl⟩:=P;rw[Gh.fE]at h2;simp at h2;subst h2;exact .inr ⟨rfl,r,h3,h4,h5⟩
   .rw[Gh.cQ _ _ _ _ _ _ P]at h2;exact .inl ⟨h1,.inr ⟨j,y,r,h2,h3,h4,h5⟩⟩
 have i:∀k b,bz (g.era o (e+1) x') k b->bz g k b∨(k=o∧w.heap.size<=b):=λk b h=>by
  grind
 have he:Ext s.fl g w (g.era o (e+1) x') w':=
  ⟨λ_ _ h=>h,K,λ_ h=>h,c,λb m hn=>d b m λn=>hn o hfl (f b n),λk b h=>(i k b h).imp id (·.2),λ_ h=>.inl h,hos,E⟩
 refine⟨⟨hs.aE,λk hk=>⟨(hs.ah k hk).1,λj=>?_⟩,λk b m=>?_,λk j y R=>?_,λb m=>iO (hs.bh b m) c,λk k' b h h'=>?_⟩,he⟩
 .rw[Gh.cQ]
  .exact (hs.ah k hk).2 j
  .rintro ⟨rfl,_⟩
   have:=hs.lt' C
   grind
 .have a:k≠o:=by
   rintro rfl
   exact(hs.box k b m).Ce J S
  have l:=hs.box k b m;refine l.ext he hs.bh (d b l.2.1 λn=>a (hs.jS k o b ⟨l.1,.inl m⟩ (f b n))) (by simp;rw[Tr.aR _ _ _ _ t,bL a]) l.1
 .by_cases a:k=o
  .subst a;by_cases hj:j=e+1
   .subst hj;rw[Gh.fE]at R;simp at R;subst R;refine⟨λr ha B=>(hx' _ ⟨r,ha,rfl,B⟩).1,λob p=>.inl ⟨J,es',e+1,?_,eM _,λe' h=>?_,λ_=>hxs▸hok⟩⟩
    .rw[Tr.aR _ _ _ _ t,bw rfl]at p
     grind[fW]
    grind[Gh.cQ]
   .have q:g.arr k j=Z y:=by rwa [Gh.cQ _ _ _ _ _ _ (by omega)]at R
    have h4:=(hs.arr k j y q).1
    let ⟨fz,v,era,h1,h2,h3,_⟩:=(hs.arr k j y q).old _ S rfl
    have z:fW J sz es e=fW fz y.sz v era:=h1;obtain⟨_,hysz,_,rfl⟩:=kJ z;refine⟨λr ha B=>iO (h4 r ha B) c,λob p=>.inl ⟨J,es',e+1,?_,by omega,λe' h=>?_,λh=>by omega⟩⟩
    .rw[Tr.aR _ _ _ _ t,bw rfl]at p
     grind[fW]
    grind[Gh.cQ]
  .have q:g.arr k j=Z y:=by rwa [Gh.cQ _ _ _ _ _ _ (λh=>a h.1)]at R
   have u:=hs.arr k j y q;refine u.ext he hs.bh (λb m B=>⟨?_,vO⟩) (by simp;rw[Tr.aR _ _ _ _ t,bL a]) (funext λj=>Gh.cQ _ _ _ _ _ _ (λh=>a h.1));refine d b (u.1 _ m B) λn=>?_;by_cases I:g.bh b
   .simp_all
   .exact a (hs.jS k o b ⟨I,.inr ⟨j,y,_,q,m,rfl,B⟩⟩ (f b n))
 .obtain h1|⟨h1,h3⟩:=i k b h<;>obtain h2|⟨h2,h4⟩:=i k' b h'
  .exact hs.jS k k' b h1 h2
  .have:=(hs.rP h1).1;omega
  .have:=(hs.rP h2).1;omega
  .rw[h1,h2]
def aV.QM(hs:aV g s w)(hn:s.aE<bC)
  (t:w'.os=w.os) (o:w'.output=w.output) (c:w.heap.size<=w'.heap.size)
  (a:∀b,b<w.heap.size->w'.heap[b]?=w.heap[b]?) (E:∀b,x.at b->w.heap.size<=b∧b<w'.heap.size)
  (u:xC (g.era s.aE 0 x) w' J sz es x) (v:x.sz=sz) :
  aV (g.era s.aE 0 x) (eg s (.arr sz es 0)).2 w'∧Ext s.fl g w (g.era s.aE 0 x) w':=by
 have z:=hs.ah s.aE (eM _);have p:∀k j y,g.arr k j=Z y->(g.era s.aE 0 x).arr k j=Z y:=λk j y h=>by
  rw[Gh.cQ]
  .exact h
  grind
 have d:∀k b,bz (g.era s.aE 0 x) k b->bz g k b∨(k=s.aE∧w.heap.size<=b):=by
  rintro k b ⟨h1,h2|⟨j,y,r,h2,h3,h4,h5⟩⟩
  .exact .inl ⟨h1,.inl h2⟩
  .by_cases e:k=s.aE∧j=0
   .obtain ⟨rfl,rfl⟩:=e;rw[Gh.fE]at h2;simp at h2;subst h2;exact .inr ⟨rfl,(E b ⟨r,h3,h4,h5⟩).1⟩
   .rw[Gh.cQ _ _ _ _ _ _ e]at h2;exact .inl ⟨h1,.inr ⟨j,y,r,h2,h3,h4,h5⟩⟩
 have A:Ext s.fl g w (g.era s.aE 0 x) w':=
  ⟨λ_ _ h=>h,p,λ_ h=>h,c,λb n _=>a b n,λk b h=>(d k b h).imp id (·.2),λ_ h=>.inl h,t,o⟩
 refine⟨⟨by simp only[eg];omega,λk I=>?_,λk b n=>?_,λk j y q=>?_,λb n=>iO (hs.bh b n) c,λk F b h K=>?_⟩,A⟩
 .simp only[eg]at I;refine⟨(hs.ah k (by omega)).1,λj=>?_⟩;rw[Gh.cQ _ _ _ _ _ _ (by omega)];exact(hs.ah k (by omega)).2 j
 .have B:g.bP k=Z b:=n;have f:=hs.box k b B;have i:k≠s.aE:=λh=>by simp_all
  exact f.ext A hs.bh (a b f.2.1) (by simp[eg];rw[Tr.aR _ _ _ _ hn,bL i]) f.1
 .by_cases e:k=s.aE∧j=0
  .obtain ⟨rfl,rfl⟩:=e;rw[Gh.fE]at q;simp at q;subst q;refine⟨λr P C=>(E _ ⟨r,P,rfl,C⟩).2,λob l=>.inl ⟨J,es,0,?_,eM _,λR h=>?_,λ_=>v▸u⟩⟩
   .simp[eg]at l;rw[Tr.aR _ _ _ _ hn,bw rfl]at l
    grind[fW]
   grind[Gh.cQ]
  .rw[Gh.cQ _ _ _ _ _ _ e]at q;have i:k≠s.aE:=λh=>by simp_all
   have m:=hs.arr k j y q;refine m.ext A hs.bh (λb n C=>⟨?_,vO⟩) (by simp[eg];rw[Tr.aR _ _ _ _ hn,bL i]) (funext λj=>Gh.cQ _ _ _ _ _ _ (λh=>i h.1));exact a b (m.1 _ n C)
 .obtain h1|⟨h1,h3⟩:=d k b h<;>obtain h2|⟨h2,h4⟩:=d F b K
  .exact hs.jS k F b h1 h2
  .have:=(hs.rP h1).1;omega
  .have:=(hs.rP h2).1;omega
  .rw[h1,h2]
def aV.afl(hs:aV g s w){b:Nat}(v:s.ob.get o=Z (.arr sz es e))(z:g.arr o e=Z x)
  (A:s.fl<=o) (K:x.at b) {vs':Array Value} (S:xC g (w.setRow b vs') J sz es' x) :
  aV g {s with ob:=s.ob.set aK o (.arr sz es' e)} (w.setRow b vs')∧Ext s.fl g w g (w.setRow b vs'):=by
 have l:o<bC:=iO (hs.lt' z) hs.aE
 let ⟨n,P⟩:=hs.nJ (fz:=J) v z
 have d:¬g.bh b:=by
  obtain⟨B,h1,rfl,h3⟩:=K;intro TK
  let ⟨t,_,_,k1,k2,_⟩:=n.mem h3
  grind
 have f:bz g o b:=by
  let ⟨B,h1,h2,h3⟩:=K
  exact⟨d,.inr ⟨e,x,B,z,h1,h2,h3⟩⟩
 have C:Ext s.fl g w g (w.setRow b vs'):=
  ⟨λ_ _ h=>h,λ_ _ _ h=>h,λ_ h=>h,by simp,λt _ hn=>setRow_other w b t vs' (λe=>hn o A (e▸f)),
   λ_ _ h=>.inl h,λ_ h=>.inl h,rfl,rfl⟩
 refine⟨⟨hs.aE,hs.ah,λk c m=>?_,λk j y u=>?_,λt E=>by simpa using hs.bh t E,hs.jS⟩,C⟩
 .have a:k≠o:=by
   rintro rfl
   exact(hs.box k c m).Ce J v
  have i:=hs.box k c m;exact i.ext C hs.bh (setRow_other w b c vs' λe=>a (hs.jS k o c ⟨i.1,.inl m⟩ (e▸f))) (by simp;rw[Tr.aR _ _ _ _ l,bL a]) i.1
 .by_cases a:k=o
  .subst a;have h4:=(hs.arr k j y u).1
   let ⟨fz,F,era,h1,h2,h3,_⟩:=(hs.arr k j y u).old _ v rfl
   have I:fW J sz es e=fW fz y.sz F era:=h1;obtain⟨_,R,_,rfl⟩:=kJ I;refine⟨λB ha m=>by simp_all,λob p=>.inl ⟨J,es',e,?_,h2,h3,λhje=>?_⟩⟩
   .rw[Tr.aR _ _ _ _ l,bw rfl]at p
    grind[fW]
   simp_all
  .have q:=hs.arr k j y u;refine q.ext C hs.bh (λc m r=>⟨setRow_other w b c vs' ?_,vO⟩) (by simp;rw[Tr.aR _ _ _ _ l,bL a]) rfl
   rintro rfl
   exact a (hs.jS k o c ⟨d,.inr ⟨j,y,_,u,m,rfl,r⟩⟩ f)
def Gh.lq(g:Gh)(P:Nat->Prop):Gh:={g with bh:=λb=>g.bh b∨P b}
def aV.acY(hs:aV g s w)(R:s.ob.get o=Z (.arr sz es e))(K:g.arr o e=Z x)
  (S:s.fl<=o) :
  aV (g.lq x.at) {s with ob:=s.ob.set aK o (.lq sz es e)} w∧Ext s.fl g w (g.lq x.at) w:=by
 have t:o<bC:=iO (hs.lt' K) hs.aE
 let ⟨a,acv⟩:=hs.nJ (fz:=J) R K
 have u:∀b,x.at b->¬g.bh b:=by
  rintro b ⟨ad,h1,rfl,h3⟩ n
  let ⟨b',_,_,k1,k2,_⟩:=a.mem h3
  grind
 have f:∀b,x.at b->bz g o b:=λb z=>by
  let ⟨ad,h1,h2,h3⟩:=z
  exact⟨u b ⟨ad,h1,h2,h3⟩,.inr ⟨e,x,ad,K,h1,h2,h3⟩⟩
 have p:∀k b,bz (g.lq x.at) k b->bz g k b∧¬x.at b:=λk b h=>⟨⟨λhi=>h.1 (.inl hi),h.2⟩,λhi=>h.1 (.inr hi)⟩;have P:Ext s.fl g w (g.lq x.at) w:=
  ⟨λ_ _ h=>h,λ_ _ _ h=>h,λ_ h=>.inl h,eM _,λ_ _ _=>rfl,λk b h=>.inl (p k b h).1,
   λb h=>h.imp id λh=>.inr ⟨o,S,f b h⟩,rfl,rfl⟩
 refine⟨⟨hs.aE,hs.ah,λk c r=>?_,λk j y C=>?_,λb z=>?_,λk k' b h h'=>hs.jS k k' b (p k b h).1 (p k' b h').1⟩,P⟩
 .have m:k≠o:=by
   rintro rfl
   exact(hs.box k c r).Ce J R
  have q:=hs.box k c r;refine q.ext P hs.bh rfl (by simp;rw[Tr.aR _ _ _ _ t,bL m]) ?_
  rintro(n|A)
  .exact q.1 n
  .exact m (hs.jS k o c ⟨q.1,.inl r⟩ (f c A))
 .by_cases m:k=o
  .subst m;have h4:=(hs.arr k j y C).1
   let ⟨fz,es0,era,h1,h2,h3,_⟩:=(hs.arr k j y C).old _ R rfl
   have h1':fW J sz es e=fW fz y.sz es0 era:=h1;obtain⟨_,l,_,rfl⟩:=kJ h1';refine⟨h4,λob E=>.inl ⟨W,es,e,?_,h2,h3,λhje=>?_⟩⟩
   .rw[Tr.aR _ _ _ _ t,bw rfl]at E
    grind[fW]
   .subst hje;have B:g.arr k j=Z y:=C;rw[K]at B;simp at B;subst B;refine⟨a.len,a.cap,λd hd=>l▸a.rows d hd,l▸a.pos,a.WD,λr=>?_⟩
    let ⟨b,vs,ty,k1,_,k3,k4,k5⟩:=a.mem r
    exact⟨b,vs,ty,k1,⟨λ_=>.inr ⟨_,k1,rfl,r⟩,λ_=>rfl⟩,k3,l▸k4,λi d j c hd hj=>let ⟨v,hv,hr⟩:=k5 i d j c hd hj;⟨v,l▸hv,hr.ext P hs.bh⟩⟩
  .have F:=hs.arr k j y C;refine F.ext P hs.bh (λc r I=>⟨rfl,⟨λh=>h.elim id λA=>?_,.inl⟩⟩) (by simp;rw[Tr.aR _ _ _ _ t,bL m]) rfl;by_cases n:g.bh c
   .exact n
   .exact absurd (hs.jS k o c ⟨n,.inr ⟨j,y,_,C,r,rfl,I⟩⟩ (f c A)) m
 .obtain z|z:=z
  .exact hs.bh b z
  .exact (hs.rP (f b z)).1
end
section
theorem sq:∀{r b i a:Nat},rc r i=rc b a->r=b∧i=a
 |0,0,i,a,h=>by simp[rc]at h;omega
 |0,b+1,i,a,h=>by simp[rc,Nat.pow_zero,Jf,Nat.pow_succ,Nr _ 2,Nat.mul_assoc]at h;omega
 |r+1,0,i,a,h=>by simp[rc,Nat.pow_zero,Jf,Nat.pow_succ,Nr _ 2,Nat.mul_assoc]at h;omega
 |r+1,b+1,i,a,h=>by
  have:rc r i=rc b a:=by
   grind[rc]
  have:=sq this;omega
variable {g:Gh}{s:St}{w:World}{o e nj sz era m gX r i szr:Nat}{es:List D}{hole:Option Nat}{x y:eY}{hl:List Value}{iQ:List (List D)}{fz:Bool}{I:Nat->Prop}{d:D}
def aV.Zd{s':St}(hs:aV g s w)(hn:s'.aE=s.aE)(c:∀o,s'.ob.get o=s.ob.get o):aV g s' w:=
 ⟨hn▸hs.aE,λo h=>hs.ah o (hn▸h),λo b h=>let ⟨h1,h2,h3⟩:=hs.box o b h;⟨h1,h2,λob a=>h3 ob (c o▸a)⟩,λo e x h=>let ⟨h1,h2⟩:=hs.arr o e x h;⟨h1,λob a=>h2 ob (c o▸a)⟩,hs.bh,hs.jS⟩
def aV.AR(hs:aV g s w){ob:Ob}(a:s.ob.get o=Z ob)(hi:ob.oe=W):g.bP o=Y:=by
 cases h:g.bP o with
 |none=>rfl|some b=>
  let ⟨x,_,h2⟩:=(hs.box o b h).2.2 ob a
  have:=h2.Ce
  simp_all
def aV.Cf(hs:aV g s w)(f:s.ob.get o=Z (.lD nj sz es era m gX hole))(i:g.arr o e=Z x) :
  x.sz=sz∧e<=era∧(∀c,era<c->g.arr o c=Y)∧(e=era->∃hl,hl.length=es.length∧xC g w J sz (lits nj es hl) x∧IZ g m gX hole hl):=by
 obtain⟨fz,_,_,h,_⟩|⟨j,k,d,l,a,b,h,h2,h3,h4⟩|⟨_,_,_,h,_⟩|h|⟨h,_⟩:=(hs.arr o e x i).2 _ f
 .cases fz<;>cases h
 .simp_all
 .cases h
 .cases h
 .cases h
def aV.view(hs:aV g s w)(f:s.ob.get o=Z (.lD nj sz es era m gX hole))(i:g.arr o era=Z x) :
  ∃hl,hl.length=es.length∧xC g w J sz (lits nj es hl) x∧IZ g m gX hole hl∧aV g {s with ob:=s.ob.set aK o (.arr sz (lits nj es hl) era)} w:=by
 have d:o<bC:=iO (hs.lt' i) hs.aE
 let ⟨_,_,_,h4⟩:=hs.Cf f i
 let ⟨hl,h5,h6,n⟩:=h4 rfl
 have p:=hs.AR f rfl;refine⟨hl,h5,h6,n,hs.aE,hs.ah,λk b q=>?_,λk e y j=>?_,hs.bh,hs.jS⟩
 .have c:k≠o:=by grind
  let ⟨h,l,r⟩:=hs.box k b q
  refine⟨h,l,λob a=>r ob ?_⟩;simp at a;rwa [Tr.aR _ _ _ _ d,bL c]at a
 .let ⟨h,l⟩:=hs.arr k e y j
  refine⟨h,λob a=>?_⟩;rw[Tr.aR _ _ _ _ d]at a;by_cases c:k=o
  .subst c;rw[bw rfl]at a;obtain rfl:=jT a
   let ⟨t,u,v,_⟩:=hs.Cf f j
   refine .inl ⟨J,lits nj es hl,era,by rw[t];rfl,u,v,λz=>?_⟩
   simp_all
  simp_all
def aV.WO(hs:aV g s w)(d:o<bC)(p:s.ob.get o=Z (.arr sz (lits nj es hl) era))(f:hl.length=es.length)
  (t:IZ g m gX hole hl):aV g {s with ob:=s.ob.set aK o (.lD nj sz es era m gX hole)} w:=by
 have u:=hs.AR p rfl;refine⟨hs.aE,hs.ah,λk b v=>?_,λk e y q=>?_,hs.bh,hs.jS⟩
 .have c:k≠o:=by grind
  let ⟨i,r,x⟩:=hs.box k b v
  refine⟨i,r,λob a=>x ob ?_⟩;simp at a;rwa [Tr.aR _ _ _ _ d,bL c]at a
 .let ⟨i,r⟩:=hs.arr k e y q
  refine⟨i,λob a=>?_⟩;rw[Tr.aR _ _ _ _ d]at a;by_cases c:k=o
  .subst c;rw[bw rfl]at a;obtain rfl:=jT a
   let ⟨fz,j,h,h1,h2,h3,h4⟩:=(hs.arr k e y q).old _ p rfl
   have l:fW J sz (lits nj es hl) era=fW fz y.sz j h:=h1;obtain⟨rfl,n,rfl,rfl⟩:=kJ l;exact .inr (.inl ⟨nj,es,era,m,gX,hole,by rw[n],h2,h3,λz=>⟨hl,f,h4 z,t⟩⟩)
  simp_all
def aV.qz(hs:aV g s w)(k:s.ob.get m=Z (.rws sz iQ r))(l:g.arr m e=Z y) :
  (∀a i,r<a->g.arr m (rc a i)=Y)∧(∀i c y d,i≠c->g.arr m (rc r i)=Z y->g.arr m (rc r c)=Z d->∀b,y.at b->¬d.at b)∧
   (∀i,e=rc r i->y.sz=sz∧∃f,iQ[i]?=Z f∧xC g w J sz f y):=by
 obtain⟨fz,_,_,h,_⟩|⟨_,_,_,_,_,_,h,_⟩|⟨n,j,a,h,h2,h3,h4⟩|h|⟨h,_⟩:=(hs.arr m e y l).2 _ k
 .cases fz<;>cases h
 .cases h
 .grind
 .cases h
 .cases h
def xC.at_(h:xC g w fz sz es x){b:Nat}(a:x.at b):(fz=W↔g.bh b)∧∃vs ty,x.a=Z ⟨b,0,Y⟩∧w.heap[b]?=Z (.cells vs ty (0,0)):=by
 let ⟨c,h1,h2,h3⟩:=a
 let ⟨d,vs,ty,e,f,i,_⟩:=h.mem h3
 grind
def xC.V2(a:xC g w fz sz es x)(o:∀b,g.bh b->I b)(p:∀b,x.at b->I b):dH I w (.sl es) (.slice x.a x.len x.cap):=by
 rw[a.len];by_cases e:x.cap=0
 .have r:es=[]:=by
   have h1:=a.len;have h2:=a.cap
   simp_all
  subst r;exact .sl [] x.a x.cap sz (λ_ _=>undef) (by simp) (by simp) (by simp) (λh=>absurd rfl h) (λi j d c h=>by simp at h)
 .let ⟨b,s,ty,h1,h2,h3,h4,h5⟩:=a.mem e
  have m:∀q:Nat×Nat,∃v,∀d c,es[q.1]?=Z d->d.cells[q.2]?=Z c->s[q.1*sz+q.2]?=Z v∧dH I w c v:=by
   rintro⟨i,j⟩
   by_cases n:i<es.length
   .by_cases k:j<(es[i]).cells.length
    .let ⟨v,t,u⟩:=h5 i _ j _ (iR n) (iR k)
     refine⟨v,λd c f e=>?_⟩;rw[iR n]at f;simp at f;subst f;rw[iR k]at e;simp at e;subst e;exact⟨t,u.mono (λ_ _=>rfl) o⟩
    .refine ⟨undef,λd c f e=>?_⟩
     simp_all
   simp_all
  let ⟨val,l⟩:=U0 m
  refine .sl es x.a x.cap sz (λi j=>val (i,j)) (by have:=a.len;have:=a.cap;omega) a.rows a.WD (λ_=>⟨_,h1,p b ⟨_,h1,rfl,e⟩,λi j d c f k=>?_⟩) (λi j d c f k=>(l (i,j) d c f k).2);rw[nL,cell?_of_block h3]
  simp_all
def Ao(l:L D):D.oY l=(l.map D.lby).sum:=by
 induction l with|nil=>rfl|cons a l b=>grind[D.oY]
def I8{α:Type}{l:L α}{a:α}(h:l[i]?=Z a):l.set i a=l:=by
 apply Nz
 grind
def Yg(a:hl.length=es.length)(h:es[i]?=Z d):∃v,hl[i]?=Z v∧(lits nj es hl)[i]?=Z (jw nj d v):=by
 have b:=cw h
 simp_all[lits]
theorem oa{nj:Nat}{es:L D}{hl:L Value}(a:hl.length=es.length):(lits nj es hl).length=es.length:=by simp[lits];omega
def A3(nj:Nat)(d:D)(b:L D)(a:O Addr)(n m:Nat):(A4 nj d b).sL=(jw nj d (.slice a n m)).sL:=by show D.oY _=D.oY _;rw[Ao,Ao,FL,FL];rfl
def Bl{j:Nat}{c a:O Addr}(f:d.cells[j]?=Z (.sl []))(p:dH I w (.sl [jw j d (.slice c 0 0)]) (.slice a 1 1)):dH I w (.sl [d]) (.slice a 1 1):=by
 have b:=cw f;generalize t:(Value.slice a 1 1)=v at p;cases p with
 |sl es E cap sz val q l z F K=>
 cases t;have hl:(jw j d (.slice c 0 0)).cells=d.cells.set j (.lit (.slice c 0 0)):=rfl;have m:∀(k:Nat)(x:D),d.cells[k]?=Z x->∃r,(jw j d (.slice c 0 0)).cells[k]?=Z r∧∀u,dH I w r u->dH I w x u:=λk x e=>by
  by_cases A:k=j
  .subst A;rw[f]at e;cases e;refine⟨.lit (.slice c 0 0),by rw[hl,Xd b],λu B=>?_⟩;cases B;exact .sl [] c 0 0 (λ_ _=>undef) (by simp) (by simp) (by simp) (λh=>absurd rfl h) (λi j d c h=>by simp at h)
  grind
 have s:d.sL=(jw j d (.slice c 0 0)).sL:=by
  cases d with
  |agg g=>
   show D.oY g=D.oY (g.set j (.lit (.slice c 0 0)));rw[Ao,Ao,FL];have:(g.map D.lby)[j]?=Z 24:=by rw[kV];have n:g[j]?=Z (.sl []):=f;rw[n];rfl
   have o:(D.lit (Value.slice c 0 0)).lby=24:=rfl;rw[o,I8 this]
  |_=>
   have C:j=0:=by have:j<1:=b;omega
   subst C;cases f<;>rfl
 refine .sl [d] a 1 sz val (by simp) (λx e=>?_) (λx e=>?_) (λ_=>?_) (λi k x y h1 h2=>?_)
 .rw[tj.1 e,<-l _ (tj.2 rfl),hl,Qv]
 .simp_all
 .grind
 grind
def aV.VR(hs:aV g s w)(ho:s.ob.get o=Z (.lD nj sz es era m r Y))(hm:s.ob.get m=Z (.rws szr iQ r))
  (hmN:m<bC) (hx:g.arr o era=Z x) (hfl:s.fl<=o) (Rb:s.fl<=m) :
  ∃g',aV g' {s with ob:=(s.ob.set aK m .gone).set aK o (.lq sz (mN nj es iQ) era)} w∧Ext s.fl g w g' w:=by
 have lg:o<bC:=iO (hs.lt' hx) hs.aE;have hom:o≠m:=by grind
 let ⟨acv,_,hnx,h4⟩:=hs.Cf ho hx
 let ⟨hl,K,q,hL⟩:=h4 rfl
 let R:Nat->Prop:=λb=>x.at b∨∃i y,g.arr m (rc r i)=Z y∧y.at b
 have B:∀b,R b->∃k,s.fl<=k∧(k=o∨k=m)∧bz g k b:=by
  rintro b (p|⟨i,y,hy,p⟩)
  .have h1:=(q.at_ p).1
   let ⟨ad,k1,k2,k3⟩:=p
   exact⟨o,hfl,.inl rfl,λn=>Bool.noConfusion (h1.2 n),.inr ⟨era,x,ad,hx,k1,k2,k3⟩⟩
  .let ⟨_,t,_,hr⟩:=(hs.qz hm hy).2.2 i rfl
   have h1:=(hr.at_ p).1
   let ⟨ad,k1,k2,k3⟩:=p
   exact⟨m,Rb,.inr rfl,λn=>Bool.noConfusion (h1.2 n),.inr ⟨_,y,ad,hy,k1,k2,k3⟩⟩
 have aek:∀b,R b->¬g.bh b:=λb p=>let ⟨_,_,_,hO⟩:=B b p;hO.1;have C:∀k b,bz (g.lq R) k b->bz g k b∧¬R b:=λk b h=>⟨⟨λhi=>h.1 (.inl hi),h.2⟩,λhi=>h.1 (.inr hi)⟩;have he:Ext s.fl g w (g.lq R) w:=
  ⟨λ_ _ h=>h,λ_ _ _ h=>h,λ_ h=>.inl h,eM _,λ_ _ _=>rfl,λk b h=>.inl (C k b h).1,
   λb h=>h.imp id λh=>.inr (let ⟨k,h1,_,h3⟩:=B b h;⟨k,h1,h3⟩),rfl,rfl⟩
 have ef:∀k,((s.ob.set aK m .gone).set aK o (.lq sz (mN nj es iQ) era)).get k=if k=o then Z (.lq sz (mN nj es iQ) era)else if k=m then Z .gone else s.ob.get k:=λk=>by rw[Tr.aR _ _ _ _ lg,Tr.aR _ _ _ _ hmN]
 have aqr:=hs.AR ho rfl;have aqs:=hs.AR hm rfl;refine⟨g.lq R,⟨hs.aE,hs.ah,λk c P=>?_,λk j y hy=>?_,λb p=>?_,λk k' b h h'=>hs.jS k k' b (C k b h).1 (C k' b h').1⟩,he⟩
 .have hc':g.bP k=Z c:=P;have E:k≠o:=by grind
  have I:k≠m:=by grind
  have F:=hs.box k c P;refine F.ext he hs.bh rfl (by simp;rw[ef,bL E,bL I]) ?_
  rintro(n|zG)
  .exact F.1 n
  .let ⟨k',_,h1,h2⟩:=B c zG
   have:=hs.jS k k' c ⟨F.1,.inl P⟩ h2;omega
 .have u:g.arr k j=Z y:=hy;by_cases E:k=o
  .subst E
   let ⟨q1,q2,_,_⟩:=hs.Cf ho u
   refine⟨(hs.arr k j y u).1,λob e=>?_⟩;simp at e;rw[ef,bw rfl]at e;obtain rfl:=jT e;refine .inl ⟨W,mN nj es iQ,era,by rw[q1];rfl,q2,hnx,λhje=>?_⟩;subst hje;rw[hx]at u;cases u;rw[q1];have A:∀(i:Nat)(d:D),es[i]?=Z d->∃(t:L D)(l:eY),iQ[i]?=Z t∧hl[i]?=Z (Value.slice l.a l.len l.cap)∧(lits nj es hl)[i]?=Z (jw nj d (.slice l.a l.len l.cap))∧dH (g.lq R).bh w (.sl t) (.slice l.a l.len l.cap):=by
    intro i d hd
    let ⟨v,hv,a⟩:=Yg (nj:=nj) K hd
    obtain⟨l,hyy,rfl⟩:=hL.2 i v hv (by simp)
    let ⟨_,t,hrs,hra⟩:=(hs.qz hm hyy).2.2 i rfl
    exact⟨t,l,hrs,hv,a,hra.V2 (λ_ h=>.inl h) (λb p=>.inr (.inr ⟨i,l,hyy,p⟩))⟩
   have Rc:(mN nj es iQ).length=es.length:=by
    rw[mN,List.length_zipWith];obtain h|h:=Nat.lt_or_ge iQ.length es.length
    .let ⟨t,_,hrs,_⟩:=A iQ.length _ (iR h)
     simp_all
    .omega
   have z:∀(i:Nat)(f:D),(mN nj es iQ)[i]?=Z f->∃d t,es[i]?=Z d∧iQ[i]?=Z t∧f=A4 nj d t:=by
    grind[mN]
   refine⟨by rw[Rc];have:=q.len;rw[oa K]at this;exact this,q.cap,λf hf=>?_,q.pos,λf hf=>?_,λP=>?_⟩
   .let ⟨i,hi⟩:=NB hf
    obtain⟨d,t,h1,h2,rfl⟩:=z i f hi
    let ⟨_,_,_,_,a,_⟩:=A i d h1
    have:=q.rows _ (iq a)
    grind[jw,A4,D.cells]
   .let ⟨i,hi⟩:=NB hf
    obtain⟨d,t,h1,h2,rfl⟩:=z i f hi
    let ⟨_,l,_,_,a,_⟩:=A i d h1
    rw[A3 nj d t l.a l.len l.cap];have p:=q.WD _ (iq a)
    grind[oa]
   .let ⟨b,vs,ty,k1,_,k3,k4,k5⟩:=q.mem P
    refine⟨b,vs,ty,k1,⟨λ_=>.inr (.inl ⟨_,k1,rfl,P⟩),λ_=>rfl⟩,k3,k4,λi f S c hf hjj=>?_⟩;obtain⟨d,t,h1,h2,rfl⟩:=z i f hf
    let ⟨rs',l,h2',hv,a,hdr⟩:=A i d h1
    rw[h2]at h2';cases h2';by_cases hjn:S=nj
    .subst hjn;have hlt:S<d.cells.length:=by grind[A4,D.cells]
     let ⟨v,hv1,hv2⟩:=k5 i _ S (.lit (.slice l.a l.len l.cap)) a (by show(d.cells.set S _)[S]?=_;rw[Xd hlt])
     cases hv2;have hce:c=.sl t:=by
      have hj2:(d.cells.set S (.sl t))[S]?=Z c:=hjj
      simp_all
     simp_all
    .let ⟨v,hv1,hv2⟩:=k5 i _ S c a (by
      grind[jw,A4,D.cells])
     exact⟨v,hv1,hv2.ext he hs.bh⟩
  .by_cases I:k=m
   .subst I;refine⟨(hs.arr k j y u).1,λob e=>?_⟩;rw[ef,bL E,bw rfl]at e;obtain rfl:=jT e;exact .inr (.inr (.inr (.inl rfl)))
   .have aga:=hs.arr k j y u;refine aga.ext he hs.bh (λc P hcap=>⟨rfl,⟨λh=>h.elim id λzG=>?_,.inl⟩⟩) (by simp;rw[ef,bL E,bL I]) rfl;by_cases n:g.bh c
    .exact n
    .let ⟨k',_,h1,h2⟩:=B c zG
     have:=hs.jS k k' c ⟨n,.inr ⟨j,y,_,u,P,rfl,hcap⟩⟩ h2;omega
 .obtain p|p:=p
  .exact hs.bh b p
  .let ⟨k,_,_,h⟩:=B b p
   exact(hs.rP h).1
structure Uq(g:Gh)(w:World)(n:Nat)(es:List D)(x:eY)(v:Value)(w':World)(x':eY):Prop where
 val:v=.slice x'.a x'.len x'.cap
 sz:x'.sz=n
 os:w'.os=w.os
 output:w'.output=w.output
 size:w.heap.size<=w'.heap.size
 heap:∀b,b<w.heap.size->¬x.at b->w'.heap[b]?=w.heap[b]?
 at_:∀b,x'.at b->b<w'.heap.size∧(w.heap.size<=b∨x.at b)
 ok:xC g w' J n es x'
noncomputable def Gh.oF(g:Gh)(m r i:Nat)(y:eY):Gh:=by
 classical
 exact{g with arr:=λk j=>if k=m then(if h:∃a,j=rc (r+1) a then(if h.choose=i then Z y else g.arr m (rc r h.choose))else g.arr m j)else g.arr k j}
theorem Gh.mD{g:Gh}{m r i:Nat}{y:eY}{k:Nat}(h:k≠m):(g.oF m r i y).arr k=g.arr k:=by
 funext j
 simp[Gh.oF,h]
def Gh.qA(b:Nat):(g.oF m r i y).arr m (rc (r+1) b)=if b=i then Z y else g.arr m (rc r b):=by have a:∃c,rc (r+1) b=rc (r+1) c:=⟨b,rfl⟩;have d:a.choose=b:=(sq a.choose_spec).2.symm;simp[Gh.oF,sr,dif_pos a,d]
theorem Gh.zh{g:Gh}{m r i:Nat}{y:eY}{j:Nat}(h:∀a,j≠rc (r+1) a):(g.oF m r i y).arr m j=g.arr m j:=by
 simp_all[Gh.oF]
def aV.ado{w':World}(hs:aV g s w){F:eY}{v:Value}{t:L D}(ho:s.ob.get o=Z (.lD nj sz es era m r Y))
  (hm:s.ob.get m=Z (.rws szr iQ r)) (hoN:o<bC) (hy:g.arr m (rc r i)=Z y) (f:Uq g w szr t y v w' F) (Rb:s.fl<=m) :
  aV (g.oF m r i F) {s with ob:=(s.ob.set aK m (.rws szr (iQ.set i t) (r+1))).set aK o (.lD nj sz es era m (r+1) (Z i))} w'∧Ext s.fl g w (g.oF m r i F) w':=by
 have hmN:m<bC:=iO (hs.lt' hy) hs.aE;have hom:o≠m:=by grind
 let ⟨hnone,I,hrow⟩:=hs.qz hm hy
 let ⟨_,rs0,acz,aqf⟩:=hrow i rfl
 have hilt:=cw acz;have P:∀b,y.at b->bz g m b:=λb a=>by
  have h1:=(aqf.at_ a).1
  let ⟨u,k1,k2,R⟩:=a
  exact⟨λTK=>Bool.noConfusion (h1.2 TK),.inr ⟨_,y,u,hy,k1,k2,R⟩⟩
 have Lm:∀k j z,g.arr k j=Z z->(g.oF m r i F).arr k j=Z z:=λk j z h=>by
  grind[Gh.zh,Gh.mD]
 have d:∀k j z,(g.oF m r i F).arr k j=Z z->(k=m∧j=rc (r+1) i∧z=F)∨(k=m∧∃l,l≠i∧j=rc (r+1) l∧g.arr m (rc r l)=Z z)∨((∀l,k=m->j≠rc (r+1) l)∧g.arr k j=Z z):=λk j z h=>by
  by_cases S:k=m
  .subst S;by_cases hj:∃l,j=rc (r+1) l
   .obtain ⟨l,rfl⟩:=hj;rw[Gh.qA]at h
    grind
   grind[Gh.zh]
  grind[Gh.mD]
 have x:∀k b,bz (g.oF m r i F) k b->bz g k b∨(k=m∧w.heap.size<=b):=by
  rintro k b ⟨h1,h2|⟨j,z,u,h2,h3,h4,h5⟩⟩
  .exact .inl ⟨h1,.inl h2⟩
  .obtain ⟨rfl,_,rfl⟩|⟨rfl,l,_,_,h⟩|⟨_,h⟩:=d k j z h2
   .obtain h|h:=(f.at_ b ⟨u,h3,h4,h5⟩).2
    .omega
    simp_all
   .exact .inl ⟨h1,.inr ⟨_,z,u,h,h3,h4,h5⟩⟩
   .exact .inl ⟨h1,.inr ⟨j,z,u,h,h3,h4,h5⟩⟩
 have he:Ext s.fl g w (g.oF m r i F) w':=
  ⟨λ_ _ h=>h,Lm,λ_ h=>h,f.size,λb a hn=>f.heap b a λn=>hn m Rb (P b n),λk b h=>(x k b h).imp id (·.2),λ_ h=>.inl h,f.os,f.output⟩
 have ef:∀k,((s.ob.set aK m (.rws szr (iQ.set i t) (r+1))).set aK o (.lD nj sz es era m (r+1) (Z i))).get k=if k=o then Z (.lD nj sz es era m (r+1) (Z i))else if k=m then Z (.rws szr (iQ.set i t) (r+1))else s.ob.get k:=λk=>by rw[Tr.aR _ _ _ _ hoN,Tr.aR _ _ _ _ hmN]
 have aqr:=hs.AR ho rfl;have aqs:=hs.AR hm rfl;have A:∀k j z,g.arr k j=Z z->k≠m->∀b,z.a=Z ⟨b,0,Y⟩->z.cap≠0->w'.heap[b]?=w.heap[b]?:=λk j z E S b a p=>by refine f.heap b ((hs.arr k j z E).1 _ a p) λn=>?_;have hO:=P b n;exact S (hs.jS k m b ⟨hO.1,.inr ⟨j,z,_,E,a,rfl,p⟩⟩ hO)
 refine⟨⟨hs.aE,λk S=>⟨(hs.ah k S).1,λj=>?_⟩,λk b a=>?_,λk j z E=>?_,λb a=>iO (hs.bh b a) f.size,λk k' b h h'=>?_⟩,he⟩
 .rw[Gh.mD (by rintro rfl;have:=hs.lt' hy;grind)];exact(hs.ah k S).2 j
 .have hb':g.bP k=Z b:=a;have K:k≠o:=by grind
  have c:k≠m:=by grind
  have q:=hs.box k b hb';exact q.ext he hs.bh (f.heap b q.2.1 λn=>c (hs.jS k m b ⟨q.1,.inl hb'⟩ (P b n))) (by simp;rw[ef,bL K,bL c]) q.1
 .by_cases c:k=m
  .subst c;refine⟨λu ha p=>?_,λob B=>?_⟩
   .obtain ⟨_,_,rfl⟩|⟨_,l,_,_,h⟩|⟨_,h⟩:=d k j z E
    .exact (f.at_ _ ⟨u,ha,rfl,p⟩).1
    .exact iO ((hs.arr k _ z h).1 u ha p) f.size
    .exact iO ((hs.arr k _ z h).1 u ha p) f.size
   .rw[ef,bL (λe=>hom e.symm),bw rfl]at B;obtain rfl:=jT B;refine .inr (.inr (.inl ⟨szr,iQ.set i t,r+1,rfl,λr' l hr'=>?_,λi1 i2 y1 y2 hne h1 h2 b Ag pR=>?_,λl hj=>?_⟩))
    .grind[Gh.zh,sq]
    .rw[Gh.qA]at h1 h2;have mix:∀i3 y3,i3≠i->g.arr k (rc r i3)=Z y3->∀b,F.at b->¬y3.at b:=λi3 y3 hn h3 b a Rh=>by
      obtain h|h:=(f.at_ b a).2
      .let ⟨u,k1,k2,R⟩:=Rh
       have:=(hs.arr k _ y3 h3).1 u k1 R;omega
      grind
     grind
    .subst hj;rw[Gh.qA]at E;split at E
     .rename_i e1;subst e1;cases E;exact⟨f.sz,t,by rw[Xd hilt],f.ok.j8 rfl⟩
     .rename_i e1
      let ⟨q1,rs,q2,q3⟩:=(hs.qz hm E).2.2 l rfl
      refine⟨q1,rs,by grind,q3.ext he hs.bh (λb a p=>⟨?_,vO⟩)⟩;exact f.heap b ((hs.arr k _ z E).1 _ a p) (λn=>I i l y z (λe=>e1 e.symm) hy E b n ⟨_,a,rfl,p⟩)
  .have C:g.arr k j=Z z:=by grind
   by_cases K:k=o
   .subst K
    let ⟨q1,q2,q3,q4⟩:=hs.Cf ho C
    refine⟨λu ha p=>iO ((hs.arr k j z C).1 u ha p) f.size,λob B=>?_⟩;rw[ef,bw rfl]at B;obtain rfl:=jT B;refine .inr (.inl ⟨nj,es,era,m,r+1,Z i,by rw[q1],q2,λe' h=>by rw[Gh.mD c];exact q3 e' h,λhje=>?_⟩)
    let ⟨hl,k1,k2,R⟩:=q4 hje
    refine⟨hl,k1,q1▸(k2.ext he hs.bh (λb a p=>⟨A k j z C c b a p,vO⟩)),R.1,λl h hh hne=>?_⟩
    let ⟨yy,h1,h2⟩:=R.2 l h hh (by simp)
    exact⟨yy,by rw[Gh.qA,bL (λe=>hne (by rw[e]))];exact h1,h2⟩
   .exact (hs.arr k j z C).ext he hs.bh (λb a p=>⟨A k j z C c b a p,vO⟩) (by simp;rw[ef,bL K,bL c]) (Gh.mD c)
 .obtain h1|⟨h1,h3⟩:=x k b h<;>obtain h2|⟨h2,h4⟩:=x k' b h'
  .exact hs.jS k k' b h1 h2
  .have:=(hs.rP h1).1;omega
  .have:=(hs.rP h2).1;omega
  .rw[h1,h2]
noncomputable def Gh.g8(g:Gh)(m:Nat)(ys:L eY):Gh:=by
 classical
 exact{g with arr:=λk j=>if k=m then(if h:∃i,j=rc 0 i then ys[h.choose]? else Y)else g.arr k j}
theorem Gh.jF{g:Gh}{m:Nat}{ys:L eY}{k:Nat}(h:k≠m):(g.g8 m ys).arr k=g.arr k:=by
 funext j
 simp[Gh.g8,h]
theorem Gh.xk{g:Gh}{m:Nat}{ys:L eY}(i:Nat):(g.g8 m ys).arr m (rc 0 i)=ys[i]?:=by have a:∃b,rc 0 i=rc 0 b:=⟨i,rfl⟩;have c:a.choose=i:=(sq a.choose_spec).2.symm;simp[Gh.g8,sr,dif_pos a,c]
theorem Gh.u6{g:Gh}{m:Nat}{ys:L eY}{j:Nat}{z:eY}(h:(g.g8 m ys).arr m j=Z z):∃i,j=rc 0 i∧ys[i]?=Z z:=by
 by_cases a:∃i,j=rc 0 i
 .obtain ⟨i,rfl⟩:=a;rw[Gh.xk]at h;exact⟨i,rfl,h⟩
 .simp only[Gh.g8,sr,dif_neg a]at h;cases h
def aV.ag7(hs:aV g s w)(hn:s.aE<bC){ys:L eY}(F:∀y∈ys,∀b,y.at b->b<w.heap.size∧∀o,¬bz g o b)
  (n:∀(i:Nat)(y:eY),ys[i]?=Z y->y.sz=sz∧∃f,iQ[i]?=Z f∧xC g w J sz f y) (I:ys.Pairwise λx y=>∀b,x.at b->¬y.at b) :
  aV (g.g8 s.aE ys) (eg s (.rws sz iQ 0)).2 w∧(∀k j y,g.arr k j=Z y->(g.g8 s.aE ys).arr k j=Z y)∧(∀k b,bz (g.g8 s.aE ys) k b->bz g k b∨(k=s.aE∧∃y∈ys,y.at b)):=by
 have p:=hs.ah s.aE (eM _);have c:∀k j y,g.arr k j=Z y->(g.g8 s.aE ys).arr k j=Z y:=λk j y h=>by
  rw[Gh.jF]
  .exact h
  grind
 have d:∀k b,bz (g.g8 s.aE ys) k b->bz g k b∨(k=s.aE∧∃y∈ys,y.at b):=by
  rintro k b ⟨h1,h2|⟨j,y,l,h2,h3⟩⟩
  .exact .inl ⟨h1,.inl h2⟩
  .by_cases e:k=s.aE
   .subst e
    let ⟨i,_,m⟩:=Gh.u6 h2
    exact .inr ⟨rfl,y,iq m,l,h3⟩
   .rw[Gh.jF e]at h2;exact .inl ⟨h1,.inr ⟨j,y,l,h2,h3⟩⟩
 have ef:∀k,(eg s (.rws sz iQ 0)).2.ob.get k=if k=s.aE then Z (.rws sz iQ 0)else s.ob.get k:=λk=>by simp[eg];rw[Tr.aR _ _ _ _ hn]
 refine⟨⟨by simp only[eg];omega,λk e=>?_,λk b K=>?_,λk j y P=>?_,hs.bh,λk C b h R=>?_⟩,c,d⟩
 .simp only[eg]at e;refine⟨(hs.ah k (by omega)).1,λj=>?_⟩;rw[Gh.jF (by omega)];exact(hs.ah k (by omega)).2 j
 .have q:g.bP k=Z b:=K;have r:k≠s.aE:=λh=>by simp_all
  let ⟨u,A,S⟩:=hs.box k b q
  refine⟨u,A,λob a=>?_⟩;rw[ef,bL r]at a
  let ⟨x,h1,h2⟩:=S ob a
  refine⟨x,h1,?_⟩;exact h2.imp (λt v ht=>ht.arb c rfl rfl)
 .by_cases e:k=s.aE
  .subst e;obtain⟨i,rfl,m⟩:=Gh.u6 P;refine⟨λl ha hc=>(F y (iq m) _ ⟨l,ha,rfl,hc⟩).1,λob a=>?_⟩;rw[ef,bw rfl]at a;obtain rfl:=jT a;refine .inr (.inr (.inl ⟨sz,iQ,0,rfl,λr' E hr'=>?_,λi1 i2 y1 y2 hne h1 h2 b Ag pR=>?_,λE hj=>?_⟩))
   .cases h:(g.g8 s.aE ys).arr s.aE (rc r' E)with
    |none=>rfl|some z=>
     grind[Gh.u6,sq]
   .grind[Gh.xk,List.pairwise_iff_getElem]
   .have:=(sq hj).2;subst this
    let ⟨q1,f,q2,q3⟩:=n i y m
    exact⟨q1,f,q2,q3.j8 rfl⟩
  .have B:g.arr k j=Z y:=by grind[Gh.jF]
   let ⟨u,A⟩:=hs.arr k j y B
   refine⟨u,λob a=>?_⟩;rw[ef,bL e]at a;exact(A ob a).tr (λh=>h.j8 rfl) c (Gh.jF e) (λ_ _ _=>⟨rfl,vO⟩)
 .obtain h1|⟨h1,y1,m1,a1⟩:=d k b h<;>obtain h2|⟨h2,y2,m2,a2⟩:=d C b R
  .exact hs.jS k C b h1 h2
  .grind
  .grind
  .rw[h1,h2]
end
section
variable {g:Gh}{s:St}{w:World}{o:Nat}
def aV.Kw(hs:aV g s w){e sz:Nat}{es:L D}{x:eY}(c:s.ob.get o=Z (.lq sz es e))(d:g.arr o e=Z x) :
  dH g.bh w (.sl es) (.slice x.a x.len x.cap):=by
 let ⟨a,_⟩:=hs.nJ (fz:=W) c d
 exact a.V2 (λ_ h=>h) (λb f=>(a.at_ f).1.1 rfl)
def Live(g:Gh)(s:St)(o:Nat):Prop:=o<bC∧((∃e x,g.arr o e=Z x∧((∃fz sz es,s.ob.get o=Z (fW fz sz es e))∨∃nj sz es m r hole,s.ob.get o=Z (.lD nj sz es e m r hole)))∨(∃sz iQ r,s.ob.get o=Z (.rws sz iQ r))∨s.ob.get o=Z .gone)
def Live.oe{g:Gh}{s:St}{o:Nat}{ob:Ob}(h:Live g s o)(a:s.ob.get o=Z ob):ob.oe=W:=by
 obtain⟨_,_,_,⟨b,_,_,h⟩|⟨_,_,_,_,_,_,h⟩⟩|⟨_,_,_,h⟩|h:=h.2
 .rw[a]at h;cases h;cases b<;>rfl
 .rw[a]at h;cases h;rfl
 .rw[a]at h;cases h;rfl
 .rw[a]at h;cases h;rfl
structure jx(s s':St)(os:List Nat):Prop where
 fl:s'.fl=s.fl
 aE:s'.aE=s.aE
 hit:∀o∈os,∀fz sz es e,s.ob.get o=Z (fW fz sz es e)->s'.ob.get o=Z (.lq sz es e)
 lq:∀o sz es e,s.ob.get o=Z (.lq sz es e)->s'.ob.get o=Z (.lq sz es e)
 lD:∀o∈os,∀nj sz es e m r iQ,s.ob.get o=Z (.lD nj sz es e m r Y)->Ix s m r=Z iQ->s'.ob.get o=Z (.lq sz (mN nj es iQ) e)
theorem jx.sub{s s':St}{os a:L Nat}(h:jx s s' os)(hs:∀o∈a,o∈os):jx s s' a:=
 ⟨h.fl,h.aE,λo b=>h.hit o (hs o b),h.lq,λo b=>h.lD o (hs o b)⟩
def qc{m r:Nat}{iQ:L (L D)}(h:Ix s m r=Z iQ):∃sz,s.ob.get m=Z (.rws sz iQ r):=by
 unfold Ix at h;split at h
 .obtain ⟨a,h⟩|⟨_,h⟩:=af h
  .simp_all
  .cases h
 .cases h
def wN{s':St}{os:L Nat}(h:freeze s (o::os)=Z s'):s.fl<=o∧
  ((∃sz es e,s.ob.get o=Z (.arr sz es e)∧freeze {s with ob:=s.ob.set aK o (.lq sz es e)} os=Z s')∨
   (∃sz es e,s.ob.get o=Z (.lq sz es e)∧freeze s os=Z s')∨
   (((∃sz iQ r,s.ob.get o=Z (.rws sz iQ r))∨s.ob.get o=Z .gone)∧freeze s os=Z s')∨
   (∃nj sz es e m r iQ b,s.ob.get o=Z (.lD nj sz es e m r Y)∧s.ob.get m=Z (.rws b iQ r)∧Ix s m r=Z iQ∧(m∈os∧s.fl<=m)∧m<bC∧freeze {s with ob:=(s.ob.set aK m .gone).set aK o (.lq sz (mN nj es iQ) e)} os=Z s')):=by
 obtain⟨d,h⟩|⟨_,h⟩:=af h
 .refine ⟨gN d,?_⟩;split at h
  .grind
  .simp_all
  .rename_i nj sz es e m r f;split at h
   .rename_i iQ c;obtain⟨a,h⟩|⟨_,h⟩:=af h
    .rw[eZ]at a
     let ⟨b,g⟩:=qc c
     rw[eZ]at a;exact .inr (.inr (.inr ⟨nj,sz,es,e,m,r,iQ,b,f,g,c,⟨by grind,gN a.2.1⟩,gN a.2.2,h⟩))
    .cases h
   .cases h
  .simp_all
  .simp_all
  .cases h
 .cases h
def ou:∀{os:L Nat}{s s':St}{m:Nat},freeze s os=Z s'->s.ob.get m=Z .gone->(∀o∈os,o<bC)->∀o∈os,∀nj sz es e r hole,s.ob.get o≠Z (.lD nj sz es e m r hole)
 |[],_,_,_,_,_,_,o,j,_,_,_,_,_,_=>by cases j
 |b::os,s,s',m,h,q,l,o,j,nj,sz,es,e,r,hole=>λu=>by
  obtain⟨_,h1|h1|h1|h1⟩:=wN h
  .let ⟨d,f,t,g,h2⟩:=h1
   have i:m≠b:=by grind
   have a:o≠b:=by grind
   have ef:∀k,k≠b->({s with ob:=s.ob.set aK b (.lq d f t)}:St).ob.get k=s.ob.get k:=λk c=>by show(s.ob.set aK b _).get k=_;rw[Tr.aR _ _ _ _ (l b (by simp)),bL c]
   exact ou h2 (by rw[ef m i];exact q) (λk c=>l k (by simp[c])) o ((fS.1 j).resolve_left a) nj sz es e r hole (by simp_all)
  .let ⟨d,f,t,g,h2⟩:=h1
   have a:o≠b:=by grind
   exact ou h2 q (λk c=>l k (by simp[c])) o ((fS.1 j).resolve_left a) nj sz es e r hole u
  .let ⟨g,h2⟩:=h1
   have a:o≠b:=by
    rintro rfl
    obtain⟨_,_,_,h⟩|h:=g<;>(rw[u]at h;cases h)
   exact ou h2 q (λk c=>l k (by simp[c])) o ((fS.1 j).resolve_left a) nj sz es e r hole u
  .let ⟨v,d,f,t,n,C,p,z,g,B,_,_,w,h2⟩:=h1
   have x:m≠n:=by grind
   have i:m≠b:=by grind
   by_cases a:o=b
   .simp_all
   .have A:o≠n:=by grind
    have ef:∀k,k≠b->k≠n->({s with ob:=(s.ob.set aK n .gone).set aK b (.lq d (mN v f p) t)}:St).ob.get k=s.ob.get k:=λk c y=>by show((s.ob.set aK n _).set aK b _).get k=_;rw[Tr.aR _ _ _ _ (l b (by simp)),bL c,Tr.aR _ _ _ _ w,bL y]
    exact ou h2 (by rw[ef m i x];exact q) (λk c=>l k (by simp[c])) o ((fS.1 j).resolve_left a) nj sz es e r hole (by simp_all)
def ez(os:L Nat):∀{g:Gh}{s s':St}{w:World},aV g s w->freeze s os=Z s'->(∀o∈os,Live g s o)->
  ∃g',aV g' s' w∧Ext s.fl g w g' w∧jx s s' os:=by
 induction os with
 |nil=>intro g s s' w I h _;simp[freeze]at h;subst h;exact⟨g,I,Ext.refl _ _ _,⟨rfl,rfl,λo j=>(by cases j),λ_ _ _ _ h=>h,λo j=>(by cases j)⟩⟩
 |cons o os ih=>
  intro g s s' w I h A;have hN:∀k∈o::os,k<bC:=λk f=>(A k f).1;have y:=hN o (by simp);obtain⟨K,h1|h1|h1|h1⟩:=wN h
  .obtain ⟨sz,t,e0,j,h⟩:=h1;obtain⟨x,B⟩:∃x,g.arr o e0=Z x:=by
    obtain⟨e,x,B,⟨q,_,_,h⟩|⟨_,_,_,_,_,_,h⟩⟩|⟨_,_,_,h⟩|h:=(A o (by simp)).2
    .grind[fW,Option.some.inj,kJ]
    .simp_all
    .simp_all
    simp_all
   obtain⟨C,u⟩:=I.acY j B K;have ef:∀k,({s with ob:=s.ob.set aK o (.lq sz t e0)}:St).ob.get k=if k=o then Z (.lq sz t e0)else s.ob.get k:=λk=>Tr.aR _ _ _ _ y
   obtain⟨g',n,p,a⟩:=ih C h (λk f=>by
    by_cases b:k=o
    .subst b;exact⟨y,.inl ⟨e0,x,B,.inl ⟨W,sz,t,by rw[ef,bw rfl];rfl⟩⟩⟩
    .have:=A k (by simp[f]);unfold Live at this ⊢;rw[ef,bL b];exact this)
   refine⟨g',n,u.trans p,⟨a.fl,a.aE,λk f q c d i h1=>?_,λk c d i h1=>?_,λk f z c d i m r l h1 h2=>?_⟩⟩
   .by_cases b:k=o
    .subst b;rw[j]at h1;have E:fW J sz t e0=_:=jT h1;obtain⟨_,rfl,rfl,rfl⟩:=kJ E;exact a.lq k sz t e0 (by rw[ef,bw rfl])
    .exact a.hit k ((fS.1 f).resolve_left b) q c d i (by simp_all)
   .have b:k≠o:=by
     grind
    exact a.lq k c d i (by simp_all)
   .have b:k≠o:=by grind
    obtain⟨szr,hm⟩:=qc h2;have P:m≠o:=by grind
    exact a.lD k ((fS.1 f).resolve_left b) z c d i m r l (by simp_all) (by simp_all[Ix,bL])
  .obtain ⟨sz,t,e,j,h⟩:=h1;obtain⟨g',n,p,a⟩:=ih I h (λk f=>A k (by simp[f]));refine⟨g',n,p,⟨a.fl,a.aE,λk f q c d i h1=>?_,a.lq,λk f z c d i m r l h1 h2=>?_⟩⟩
   .obtain rfl|f:=fS.1 f
    .rw[j]at h1;have E:fW W sz t e=_:=jT h1;obtain⟨_,rfl,rfl,rfl⟩:=kJ E;exact a.lq k sz t e j
    .exact a.hit k f q c d i h1
   .have b:k≠o:=by grind
    exact a.lD k ((fS.1 f).resolve_left b) z c d i m r l h1 h2
  .obtain ⟨j,h⟩:=h1;obtain⟨g',n,p,a⟩:=ih I h (λk f=>A k (by simp[f]));refine⟨g',n,p,⟨a.fl,a.aE,λk f q c d i h1=>?_,a.lq,λk f z c d i m r l h1 h2=>?_⟩⟩
   .have b:k≠o:=by rintro rfl;obtain⟨_,_,_,h⟩|h:=j<;>(rw[h1]at h;cases q<;>cases h)
    exact a.hit k ((fS.1 f).resolve_left b) q c d i h1
   .have b:k≠o:=by rintro rfl;obtain⟨_,_,_,h⟩|h:=j<;>(rw[h1]at h;cases h)
    exact a.lD k ((fS.1 f).resolve_left b) z c d i m r l h1 h2
  .obtain ⟨z,sz,t,e0,m,r,l,szr,j,hm,hr,⟨_,R⟩,F,h⟩:=h1;obtain⟨x,B⟩:∃x,g.arr o e0=Z x:=by
    obtain⟨e,x,B,⟨q,_,_,h⟩|⟨_,_,_,_,_,_,h⟩⟩|⟨_,_,_,h⟩|h:=(A o (by simp)).2
    .rw[j]at h;cases q<;>cases h
    .simp_all
    .simp_all
    simp_all
   obtain⟨g1,C,u⟩:=I.VR j hm F B K R;have hom:o≠m:=by grind
   have ef:∀k,({s with ob:=(s.ob.set aK m .gone).set aK o (.lq sz (mN z t l) e0)}:St).ob.get k=if k=o then Z (.lq sz (mN z t l) e0)else if k=m then Z .gone else s.ob.get k:=λk=>by show((s.ob.set aK m _).set aK o _).get k=_;rw[Tr.aR _ _ _ _ y,Tr.aR _ _ _ _ F]
   obtain⟨g',n,p,a⟩:=ih C h (λk f=>by
    by_cases b:k=o
    .subst b;exact⟨y,.inl ⟨e0,x,u.arr _ _ _ B,.inl ⟨W,sz,_,by rw[ef,bw rfl];rfl⟩⟩⟩
    .by_cases v:k=m
     .subst v;exact⟨F,.inr (.inr (by rw[ef,bL b,bw rfl]))⟩
     .obtain ⟨h0,h1⟩:=A k (by simp[f]);refine⟨h0,?_⟩;rw[ef,bL b,bL v];exact h1.imp (λ⟨i,x',h1,h2⟩=>⟨i,x',u.arr _ _ _ h1,h2⟩) id)
   refine⟨g',n,u.trans p,⟨a.fl,a.aE,λk f q c d i h1=>?_,λk c d i h1=>?_,λk f S c d i m' r' ano h1 h2=>?_⟩⟩
   .have b:k≠o:=by rintro rfl;rw[j]at h1;cases q<;>cases h1
    have v:k≠m:=by rintro rfl;rw[hm]at h1;cases q<;>cases h1
    exact a.hit k ((fS.1 f).resolve_left b) q c d i (by simp_all)
   .have b:k≠o:=by grind
    have v:k≠m:=by grind
    exact a.lq k c d i (by simp_all)
   .by_cases b:k=o
    .subst b;rw[j]at h1;cases h1;rw[hr]at h2;cases h2;exact a.lq k _ _ _ (by rw[ef,bw rfl])
    .have hk':=(fS.1 f).resolve_left b;obtain⟨szr',hm'⟩:=qc h2;have v:k≠m:=by grind
     have P:m'≠o:=by grind
     have hmm:m'≠m:=by
      rintro rfl
      exact ou h (m:=m') (by rw[ef,bL P,bw rfl]) (λk f=>hN k (by simp[f])) k hk' S c d i r' Y (by simp_all)
     exact a.lD k hk' S c d i m' r' ano (by simp_all) (by simp_all[Ix,bL])
mutual
def l5{g:Gh}{s:St}{w:World}(hs:aV g s w):∀(t:T){v:Value}{p:Prop}{d:D}{os:L Nat},BP s t=Z (p,d,os)->p->aH g w t v->
  (∀o∈os,Live g s o)∧∀(g':Gh)(s':St),aV g' s' w->Ext s.fl g w g' w->jx s s' os->dH g'.bh w d v
 |.sym d,v,p,K,os,h,B,f=>by obtain⟨_,rfl,rfl⟩:=h;cases f with|sym _ _ y=>exact⟨λo l=>(by cases l),λg' s' _ A _=>y.ext A hs.bh⟩
 |.kb b,v,p,K,os,h,B,f=>by obtain⟨_,rfl,rfl⟩:=h;cases f;exact⟨λo l=>(by cases l),λg' s' _ A _=>.lit _⟩
 |.kn k n,v,p,K,os,h,B,f=>by obtain⟨_,rfl,rfl⟩:=h;cases f;exact⟨λo l=>(by cases l),λg' s' _ A _=>.lit _⟩
 |.emp,v,p,K,os,h,B,f=>by obtain⟨_,rfl,rfl⟩:=h;cases f with|emp a=>exact⟨λo l=>(by cases l),λg' s' _ A _=>.sl [] a 0 0 (λ_ _=>undef) (by simp) (by simp) (by simp) (λh=>absurd rfl h) (λi j d c h=>by simp at h)⟩
 |.kr n P,v,p,K,os,h,B,f=>by obtain⟨_,rfl,rfl⟩:=h;cases f with|kr _ _ a hn y=>exact⟨λo l=>(by cases l),λg' s' _ A _=>y.ext A hs.bh⟩
 |.pW j d,v,p,K,os,h,B,f=>by obtain⟨_,rfl,rfl⟩:=h;cases f with|pW _ _ c a hj y=>exact⟨λo l=>(by cases l),λg' s' _ A _=>(Bl hj y).ext A hs.bh⟩
 |.sx _ _ _ _,_,_,_,_,h,_,_=>by simp[BP]at h
 |.sh o e,v,p,K,os,h,B,f=>by
  cases f with
  |sh _ _ len cap sz a R=>
  simp[BP]at h;split at h
  .rename_i z P era l;obtain⟨I,C⟩|⟨_,C⟩:=af h
   .have E:=beq_iff'.1 I;obtain⟨_,rfl,rfl⟩:=C;clear h I;subst E;refine⟨λk S=>?_,λg' s' F A hf=>?_⟩
    .simp at S;subst S;exact⟨iO (hs.lt' R) hs.aE,.inl ⟨e,_,R,.inl ⟨J,z,P,l⟩⟩⟩
    .exact F.Kw (hf.hit o (by simp) J z P e l) (A.arr _ _ _ R)
   .cases C
  .rename_i z P era l;obtain⟨I,C⟩|⟨_,C⟩:=af h
   .have E:=beq_iff'.1 I;obtain⟨_,rfl,rfl⟩:=C;clear h I;subst E;exact⟨λk S=>(by cases S),λg' s' F A hf=>F.Kw (hf.lq o z P e l) (A.arr _ _ _ R)⟩
   .cases C
  .rename_i nj z P era m r l;split at h
   .rename_i iQ hr;obtain⟨I,C⟩|⟨_,C⟩:=af h
    .rw[eZ]at I;have E:=beq_iff'.1 I.1;have hmN:m<bC:=gN I.2;obtain⟨_,rfl,rfl⟩:=C;clear h I;subst E;refine⟨λk S=>?_,λg' s' F A hf=>?_⟩
     .simp at S;obtain rfl|rfl:=S
      .exact ⟨iO (hs.lt' R) hs.aE,.inl ⟨e,_,R,.inr ⟨nj,z,P,m,r,Y,l⟩⟩⟩
      .let ⟨szr,hm⟩:=qc hr
       exact⟨hmN,.inr (.inl ⟨szr,iQ,r,hm⟩)⟩
     .exact F.Kw (hf.lD o (by simp) nj z P e m r iQ l hr) (A.arr _ _ _ R)
    .cases C
   .cases h
  .cases h
 |.de t x,v,p,K,os,h,B,f=>by
  cases f with
  |de _ _ u hu=>
  simp[BP]at h;split at h
  .rename_i q d os' y;obtain⟨rfl,rfl,rfl⟩:=h
   let ⟨h1,h2⟩:=l5 hs x y B hu
   exact⟨h1,λg' s' a b c=>.de _ _ _ (h2 g' s' a b c)⟩
  .cases h
 |.agg cs,v,p,K,os,h,B,f=>by
  cases f with
  |agg _ vs hl hr=>
  simp only[BP]at h;split at h
  .rename_i q ds os' y;obtain⟨rfl,rfl,rfl⟩:=h
   let ⟨h0,h1,h2⟩:=qw hs cs (vs:=vs.toList) y B.1 (by simpa using hl) (λj t v f hv=>hr j t v f (by simpa using hv))
   refine⟨h1,λg' s' a b c=>.agg _ _ (by rw[h0,hl]) (λd y=>by simp_all) (λj d v y hv=>h2 g' s' a b c j d v y (by simpa using hv))⟩
  .cases h
 |.gM cs,v,p,K,os,h,B,f=>by
  cases f with
  |gM _ vs hl hr=>
  simp[BP]at h;split at h
  .rename_i y;obtain⟨rfl,rfl,rfl⟩:=h
   let ⟨h0,h1,h2⟩:=qw hs cs (vs:=vs.toList) y B (by simpa using hl) (λj t v f hv=>hr j t v f (by simpa using hv))
   exact⟨h1,λg' s' a b c=>.gM _ _ (by rw[h0,hl]) (λj d v y hv=>h2 g' s' a b c j d v y (by simpa using hv))⟩
  .cases h
 |.ptr _ _,_,_,_,_,h,_,_=>by simp[BP]at h
 |.lR _ _,_,_,_,_,h,_,_=>by simp[BP]at h
 |.lQ _ _ _ _,_,_,_,_,h,_,_=>by simp[BP]at h
 |.fn _ _ _,_,_,_,_,h,_,_=>by simp[BP]at h
 |.gd _ _,_,_,_,_,h,_,_=>by simp[BP]at h
def qw{g:Gh}{s:St}{w:World}(hs:aV g s w):∀(ts:L T){vs:L Value}{p:Prop}{ds:L D}{os:L Nat},nZ s ts=Z (p,ds,os)->p->ts.length=vs.length->
  (∀(j:Nat)(t:T)(v:Value),ts[j]?=Z t->vs[j]?=Z v->aH g w t v)->
  ds.length=ts.length∧(∀o∈os,Live g s o)∧∀(g':Gh)(s':St),aV g' s' w->Ext s.fl g w g' w->jx s s' os->
   ∀(j:Nat)(d:D)(v:Value),ds[j]?=Z d->vs[j]?=Z v->dH g'.bh w d v
 |[],vs,p,ds,os,h,e,c,f=>by obtain⟨_,rfl,rfl⟩:=h;exact⟨rfl,λo ho=>(by cases ho),λg' s' _ _ _ j d v a=>by simp at a⟩
 |t::ts,vs,p,ds,os,h,e,c,f=>by
  simp[nZ]at h;split at h
  .rename_i d i B l k h1 h2;simp only[gK,fh]at h;obtain⟨rfl,rfl,rfl⟩:=h
   match vs,c with
   |v::vs,c=>
    let ⟨a1,a2⟩:=l5 hs t h1 e.1 (f 0 t v rfl rfl)
    let ⟨m,n,q⟩:=qw hs ts (vs:=vs) h2 e.2 (by simpa using c) (λj t v r b=>f (j+1) t v (by simpa using r) (by simpa using b))
    refine⟨by simp[m],λo ho=>?_,λg' s' x y z j d v a b=>?_⟩
    .obtain ho|ho:=eS.1 ho
     .exact a1 o ho
     .exact n o ho
    .have u:jx s s' i:=z.sub (λo ho=>fL _ ho);have A:jx s s' k:=z.sub (λo ho=>eP _ ho);cases j with|zero=>simp at a b;subst a;subst b;exact a2 g' s' x y u|succ j=>exact q g' s' x y A j d v (by simpa using a) (by simpa using b)
  .cases h
end
end
section
def PW{α β:Type}(R:α->β->Prop)(l:L α)(m:L β):Prop:=l.length=m.length∧∀(j:Nat)(a:α)(b:β),l[j]?=Z a->m[j]?=Z b->R a b
section
variable {α β:Type}{R:α->β->Prop}
def PW.append{l e:L α}{m f:L β}(h:PW R l m)(g:PW R e f):PW R (l++e) (m++f):=by
 refine⟨by simp[h.1,g.1],λj a b d c=>?_⟩;rw[tq]at d c;rw[<-h.1]at c;by_cases i:j<l.length
 .rw[bw i]at d c;exact h.2 j a b d c
 .rw[bL i]at d c;exact g.2 _ a b d c
def PW.take{l:L α}{m:L β}(h:PW R l m)(n:Nat):PW R (l.take n) (m.take n):=by
 refine⟨by simp[h.1],λj a b c d=>?_⟩;rw[UX]at c d;by_cases e:j<n
 .rw[bw e]at c d;exact h.2 j a b c d
 simp_all
theorem PW.drop{l:L α}{m:L β}(h:PW R l m)(n:Nat):PW R (l.drop n) (m.drop n):=by refine⟨by simp[h.1],λj a b c d=>?_⟩;rw[NA]at c d;exact h.2 _ a b c d
end
def QY{l:L T}(h:leaves l):∀t∈l,t.leaf:=by
 induction l with
 |nil=>simp_all|cons a l c=>
  intro t b;obtain rfl|b:=fS.1 b
  .exact h.1
  .exact c h.2 t b
variable {g:Gh}{w:World}{P:Program}{i:TI}
def PW.one{l:L T}{vs:L Value}(h:PW (aH g w) l vs)(hl:leaves l):∀v∈vs,v.oneCell'=W:=by
 intro v c;obtain⟨j,b,rfl⟩:=rG c;have a:j<l.length:=by rw[h.1];exact b
 exact(Uy (QY hl _ (Nh a)) (h.2 j _ _ (iR a) (iR b))).1
def yG{t:TypeId}{x:TypeInfo}(hi:P.info? t=Z x)(w:World)(b off:Nat)(v:Value)(a:v.cells.size=x.size){vs:Array Value}{ty:TypeId}
  (c:w.heap[b]?=Z (.cells vs ty (0,0))) (hl:off+v.cells.size<=vs.size) (h1:∀u∈v.cells.toList,u.oneCell'=W) :
  (storeVar t ⟨b,off,Y⟩ v).run P w=.ok () (w.setRow b (vs.toList.take off++v.cells.toList++vs.toList.drop (off+v.cells.size)).toArray):=by
 have:=run_storeCells_at (P:=P) b off ty v.cells.toList 0 vs w c (by simpa using hl) h1
 simp_all[storeVar,dn]
def ql{t:T}{v:Value}{p:Prop}{cs:L T}(h:kj i t=Z (p,cs))(c:p)(d:aH g w t v) :
  PW (aH g w) cs v.cells.toList∧cs.length=i.size:=by
 let ⟨h1,h2,h3,_⟩:=mQ h c d
 exact⟨⟨by simp[h1,h2],λj a b e f=>h3 j a b e (by simpa using f)⟩,h1⟩
def D.O8{ds:L D}(h:ds.all D.leaf=W):∀d∈ds,d.leaf=W:=by simpa using h
def KK(es:L D)(k i:Nat)(d a:D)(h:(y8 es k d)[i]?=Z a):(i=k∧k<es.length∧a=d)∨(i≠k∧es[i]?=Z a):=by
 unfold y8 at h
 grind
def Kq{ty:TypeId}(hi:m7 P ty i){s s':St}(hs:aV g s w){a x:T}{va vx:Value}(ha:aH g w a va)(hx:aH g w x vx)
  {p:Prop} {t:T} (h:storeT i s a x=Z (p,t,s')) (hp:p) :
  ∃w' g',(Instr.storeAt ty va vx).run P w=.ok () w'∧aV g' s' w'∧Ext s.fl g w g' w'∧t=SQ:=by
 let ⟨xi,d0,z,N7,hu,hsz,YY,_⟩:=hi.all
 unfold storeT at h;cases hc:kj i x with
 |none=>simp[hc]at h|some q=>
  let ⟨q,l⟩:=q
  simp only[hc]at h;cases ha with
  |ptr o off b hb=>
   cases y:s.ob.get o with
   |none=>simp[y]at h|some ob=>
   simp only[y]at h;cases ob with
   |box cs=>
   let ⟨B,ety,hh,hl,hr⟩:=(hs.box o b hb).box y
   obtain⟨hn,h⟩|⟨_,h⟩:=af h
   .simp only[eZ]at hn;have hfl:=gN hn.1;have hlen:off+cD l<=cD cs:=gN hn.2;rw[bS,bS]at hlen;obtain⟨rfl,rfl,rfl⟩:=h
    let ⟨C,age⟩:=ql hc hp.1 hx
    have A:vx.cells.size=l.length:=by simpa using C.1.symm
    have hcs:PW (aH g w) cs B.toList:=⟨by simpa using hl,λj a b h1 h2=>hr j a b h1 (by simpa using h2)⟩;have I:=yG (P:=P) N7 w b off vx (by rw[A,age,hsz]) hh (by omega) (C.one hp.2);rw[A]at I;have hnew:PW (aH g w) (cs.take off++l++cs.drop (Na off (cD l))) (B.toList.take off++vx.cells.toList++B.toList.drop (off+l.length)):=by rw[bS];exact((hcs.take off).append C).append (hcs.drop _)
    let ⟨hs',he⟩:=hs.afe hb y hfl (cs':=cs.take off++l++cs.drop (Na off (cD l)))
     (vs':=(B.toList.take off++vx.cells.toList++B.toList.drop (off+l.length)).toArray) (by simpa using hnew.1) (λj t v h1 h2=>hnew.2 j t v h1 (by simpa using h2))
    exact⟨_,g,by simpa[Instr.storeAt,Instr.sureAddr]using I,hs',he,rfl⟩
   .cases h
   |_=>simp at h
  |lQ o e k off len cap sz ad ako=>
   cases F:nZ s l with
   |none=>simp[F]at h|some r=>
    let ⟨r,ds,os⟩:=r
    simp only[F]at h;cases K:freeze s os with
    |none=>simp[K]at h|some s1=>
    simp only[K]at h;cases y:s1.ob.get o with
    |none=>simp[y]at h|some ob=>
     cases ob with
     |box _=>simp[y]at h|lq _ _ _=>simp[y]at h|map _=>simp[y]at h|rD _ _=>simp[y]at h|lD _ _ _ _ _ _ _=>simp[y]at h|rws _ _ _=>simp[y]at h|gone=>simp[y]at h|Gd=>simp[y]at h|lp _=>simp[y]at h|Ah=>simp[y]at h|arr sz' es era=>
      simp only[y]at h;obtain⟨hn,h9⟩|⟨_,h9⟩:=af h
      .simp only[eZ]at hn
       let ⟨hfl,hee⟩:=hn
       have hfl:=gN hfl;have hee:=beq_iff'.1 hee;subst hee;simp only[gK,fh]at h9;obtain⟨rfl,rfl,rfl⟩:=h9
       let ⟨hp1,hp2,hp3,hp4,hp5,hp6,hp7⟩:=hp
       let ⟨C,age⟩:=ql hc hp1 hx
       let ⟨b0,b1,b2⟩:=qw hs l F hp2 C.1 C.2
       let ⟨g1,Af,he1,agj⟩:=ez os hs K b1
       have sA:=b2 g1 s1 Af he1 agj;have hga:=he1.arr _ _ _ ako;clear ako;have aqL:=agj.fl;clear b1 b2 F K agj
       let ⟨E,ajR⟩:=Af.nJ (fz:=J) y hga
       change sz=sz' at ajR;subst ajR;have hk:=TB hp4;obtain⟨m,R,n,apS⟩:∃m,(jf es k).cells=m∧m.length=sz∧(off+ds.length<=sz->(D.PS (jf es k) off ds).cells=m.take off++ds++m.drop (off+ds.length)):=by
        obtain hp5|⟨h1,h2,h3,h4⟩:=hp5
        .let ⟨m,R,n,hcf⟩:=zE hp5
         exact⟨m,by rw[R];rfl,n,λ_=>by rw[R];rfl⟩
        .rw[bS]at h4;obtain⟨d1,rfl⟩:=Xk.1 h4;have hl1:=D.O8 hp3 d1 (by simp);have hc1:∀d:D,d.leaf=W->d.cells=[d]:=by intro d F;cases d<;>first|rfl|simp[D.leaf]at F
         refine⟨[jf es k],hc1 _ h1,h2.symm,λ_=>?_⟩;subst h3;have:D.PS (jf es k) 0 [d1]=d1:=by generalize jf es k=q at h1;cases q<;>first|rfl|simp[D.leaf]at h1
         rw[this,hc1 _ hl1];rfl
       have hoff:off+ds.length<=sz:=by have:=gN hp6;rw[bS]at this;exact this
       have h1:=E.len;have h2:=E.cap;simp only at h1 h2
       let ⟨b,B,ety,hab,hfz,hh,S,GI⟩:=E.mem (by simp only;omega)
       simp at hab;subst hab;have A:vx.cells.size=ds.length:=by rw[b0];simpa using C.1.symm
       have hbound:k*sz+sz<=B.size:=by have:(k+1)*sz<=cap*sz:=zn _ (by omega);rw[Nat.add_mul,Jf]at this;exact fZ this S
       have hone:∀u∈vx.cells.toList,u.oneCell'=W:=by
        intro u hu;obtain⟨j,hj,rfl⟩:=rG hu;have hj':j<ds.length:=by rw[b0,C.1];exact hj
        exact(wD (D.O8 hp3 _ (Nh hj')) (sA j _ _ (iR hj') (iR hj))).1
       have I:=yG (P:=P) N7 w b (k*sz+off) vx (by rw[A,b0,age,hsz]) hh (by omega) hone;have zG:(⟨Z ⟨b,0,Y⟩,len,cap,sz⟩:eY).at b:=⟨_,rfl,rfl,by simp only;omega⟩;have hsc:=apS hoff;have acE:(B.toList.take (k*sz+off)++vx.cells.toList++B.toList.drop (k*sz+off+vx.cells.size)).length=B.size:=by simp[A];omega
       have aga:xC g1 (w.setRow b (B.toList.take (k*sz+off)++vx.cells.toList++B.toList.drop (k*sz+off+vx.cells.size)).toArray) J sz
         (y8 es k ((jf es k).PS off ds)) ⟨Z ⟨b,0,Y⟩,len,cap,sz⟩:=by
        refine⟨by simp[y8,h1],h2,λd F=>?_,E.pos,λd F=>?_,λ_=>⟨b,_,ety,rfl,hfz,setRow_heap w b B _ ety _ hh,by simp only[Tc];rw[acE];exact S,?_⟩⟩
        .obtain ⟨j,hj,rfl⟩:=rG F;obtain⟨rfl,_,he⟩|⟨_,he⟩:=KK _ _ _ _ _ (iR hj)
         .rw[he,hsc];simp[n];omega
         .exact E.rows _ (iq he)
        .obtain ⟨j,hj,rfl⟩:=rG F;obtain⟨rfl,_,he⟩|⟨_,he⟩:=KK _ _ _ _ _ (iR hj)
         .rw[he,hp7];have hb:=E.WD _ (iq (D.Ly hk));simpa[y8]using hb
         .have hb:=E.WD _ (iq he);simpa[y8]using hb
        .intro i d j c F hj;have f:∀(v:Value),B[i*sz+j]?=Z v->(i≠k∧j<sz∨i=k∧(j<off∨off+ds.length<=j))->
           (B.toList.take (k*sz+off)++vx.cells.toList++B.toList.drop (k*sz+off+vx.cells.size)).toArray[i*sz+j]?=Z v:=by
          intro v hv DK;have agr:i*sz+j<k*sz+off∨k*sz+off+ds.length<=i*sz+j:=by
           obtain⟨hik,hj⟩|⟨rfl,hj⟩:=DK
           .obtain hik|hik:=Nat.lt_or_gt_of_ne hik
            .have:(i+1)*sz<=k*sz:=zn _ hik;rw[Nat.add_mul,Jf]at this
             left;omega
            .have:(k+1)*sz<=i*sz:=zn _ hik;rw[Nat.add_mul,Jf]at this
             right;omega
           .obtain hj|hj:=hj
            .left;omega
            .right;omega
          rw[Te,tq,tq];obtain hc1|hc1:=agr
          .rw[bw (by simp[A];omega),bw (by simp;omega),UX,bw hc1];simpa using hv
          .rw[bL (by simp[A];omega),NA];have:k*sz+off+vx.cells.size+(i*sz+j-(List.take (k*sz+off) B.toList++vx.cells.toList).length)=i*sz+j:=by simp[A];omega
           rw[this];simpa using hv
         obtain⟨rfl,hlt,rfl⟩|⟨hik,F⟩:=KK _ _ _ _ _ F
         .rw[hsc]at hj;by_cases hin:off<=j∧j<off+ds.length
          .have hj2:ds[j-off]?=Z c:=by
            rw[tq,bw (by simp[n];omega),tq,bL (by simp[n];omega)]at hj;have:j-(m.take off).length=j-off:=by simp[n];omega
            rwa [this]at hj
           have hlt2:j-off<vx.cells.size:=by omega
           refine⟨vx.cells[j-off],?_,?_⟩
           .rw[Te,tq,bw (by simp[A];omega),tq,bL (by simp;omega)];have:i*sz+j-(List.take (i*sz+off) B.toList).length=j-off:=by simp;omega
            rw[this];simp
           .have:=sA (j-off) c vx.cells[j-off] hj2 (by simp);exact this.ext (Ext.refl 0 g1 w) Af.bh |>.mono (λb' hb'=>setRow_other w b b' _ (λe=>by subst e;exact Bool.noConfusion (hfz.2 hb'))) (λ_ h=>h)
          .have hj2:m[j]?=Z c:=by
            rw[tq,tq]at hj;by_cases hlo:j<off
            .rw[bw (by simp[n];omega),bw (by simp[n];omega),UX,bw hlo]at hj;exact hj
            .rw[bL (by simp[n];omega),NA]at hj;have:off+ds.length+(j-(List.take off m++ds).length)=j:=by simp[n];omega
             rwa [this]at hj
           let ⟨v,hv,hr⟩:=GI i (jf es i) j c (D.Ly hlt) (by rw[R];exact hj2)
           refine⟨v,f v hv (.inr ⟨rfl,by omega⟩),hr.mono (λb' hb'=>setRow_other w b b' _ (λe=>by subst e;exact Bool.noConfusion (hfz.2 hb'))) (λ_ h=>h)⟩
         .let ⟨v,hv,hr⟩:=GI i d j c F hj
          have yw:j<sz:=by rw[<-E.rows d (iq F)];exact cw hj
          exact⟨v,f v hv (.inl ⟨hik,yw⟩),hr.mono (λb' hb'=>setRow_other w b b' _ (λe=>by subst e;exact Bool.noConfusion (hfz.2 hb'))) (λ_ h=>h)⟩
       let ⟨hs',he⟩:=Af.afl y hga hfl zG aga
       refine⟨_,g1,?_,hs',he1.trans (aqL▸he),rfl⟩;rw[nL];simpa[Instr.storeAt,Instr.sureAddr]using I
      .cases h9
  |_=>simp at h
end
section
variable {k:IntKind}{I:Nat->Prop}{d:D}{b a:T}{va vb:Value}{r:Bool}
def Cj{j:IntKind}(h:oK j k=W):j=k:=by cases j<;>cases k<;>first|rfl|cases h
section
variable {g:Gh}{w:World}{t:T}{v:Value}{p:Prop}
def VC(h:D.isInt k d=W)(a:dH I w d v):v=.int k d.toInt:=by
 cases a with
 |lit v=>
  cases v with|int j n=>rw[Cj h];rfl|_=>cases h
 |_=>cases h
def GA(h:d.isBool=W)(a:dH I w d v):v=.bool d.toBool:=by
 cases a with
 |lit v=>
  cases v with|bool b=>rfl|_=>cases h
 |_=>cases h
def VB(h:d.isStr=W)(a:dH I w d v):v=.string d.toStr:=by
 cases a with
 |lit v=>
  cases v with|string b=>rfl|_=>cases h
 |_=>cases h
theorem dS{k:IntKind}{n:Int}(h:yq k t=Z (p,n))(a:p)(b:aH g w t v):v=.int k n:=by
 cases b with
 |kn j m=>
  obtain⟨c,h⟩|⟨_,h⟩:=af h
  .simp only[gK,fh]at h;rw[Cj c,h.2]
  .cases h
 |sym d v e=>obtain⟨rfl,rfl⟩:=h;exact VC a e
 |_=>simp[yq]at h
def jl{b:Bool}(h:Bs t=Z (p,b))(a:p)(e:aH g w t v):v=.bool b:=by
 cases e with
 |kb c=>simp only[Bs,gK,fh]at h;rw[h.2]|sym d v f=>obtain⟨rfl,rfl⟩:=h;exact GA a f
 |_=>simp[Bs]at h
def iG{b:ByteArray}(h:Aq t=Z (p,b))(a:p)(c:aH g w t v):v=.string b:=by
 cases c with
 |sym d v e=>obtain⟨rfl,rfl⟩:=h;exact VB a e
 |_=>simp[Aq]at h
def D.xR(h:d.ajy=W):d=.sl d.afb:=by cases d<;>first|rfl|cases h
def S0{s:St}(hs:aV g s w){es:L D}(h:BS s t=Z (p,es))(x:p)(y:aH g w t v):∃a cap,v=.slice a es.length cap∧es.length<=cap:=by
 cases y with
 |emp a=>obtain⟨_,rfl⟩:=h;exact⟨a,0,rfl,by simp⟩
 |kr n b a C q=>obtain⟨_,rfl⟩:=h;exact⟨a,_,rfl,eM _⟩
 |pW j d c a E q=>obtain⟨_,rfl⟩:=h;exact⟨a,1,rfl,eM _⟩
 |sym d v q=>
  obtain⟨rfl,rfl⟩:=h;rw[D.xR x]at q;generalize d.afb=es at *
  cases q with|sl _ a cap sz val k=>exact⟨a,cap,rfl,k⟩
 |sh o e len cap sz a z=>
  simp[BS]at h;have key:∀u f(b:L D)era,s.ob.get o=Z (fW u f b era)->(bif Nq e era then Z (True,b)else Y)=Z (p,es)->
    ∃A i,Value.slice a len cap=.slice A es.length i∧es.length<=i:=by
   intro u f b era l h;obtain⟨B,h⟩|⟨_,h⟩:=af h
   .have r:=beq_iff'.1 B;obtain⟨_,rfl⟩:=h
    let ⟨m,_⟩:=hs.nJ (r▸l) z
    have h1:=m.len;have h2:=m.cap;simp only at h1 h2;exact⟨a,cap,by rw[h1],by omega⟩
   .cases h
  split at h
  .rename_i f b era l;exact key J f b era l h
  .rename_i f b era l;exact key W f b era l h
  .cases h
 |_=>simp[BS]at h
end
section
variable {P:Program}{g:Gh}{w:World}
def uZ{x:T}{vx:Value}{q:Prop}{y:Bool}(h:IU x=Z (q,y))(a:q)(f:aH g w x vx):vx=.bool y:=by
 cases f with
 |gd c t v e=>
  simp[IU]at h;split at h
  .rename_i h1;obtain⟨rfl,rfl⟩:=h;exact jl h1 a.2 (e a.1)
  .cases h
 |kb b=>simp only[IU,gK,fh]at h;rw[h.2]|sym d v i=>obtain⟨rfl,rfl⟩:=h;exact GA a i
 |_=>simp[IU]at h
def NK{c:T}{i:Value}{p:Prop}{t:T}(h:Ji c a b=Z (p,t))(d:p)(j:aH g w c i)(k:aH g w a va)(l:aH g w b vb) :
  ∃u,i=.bool u∧aH g w t (if u then va else vb):=by
 unfold Ji at h;split at h
 .rename_i u;cases j;refine⟨u,rfl,?_⟩;split at h
  .rename_i e;obtain⟨rfl,rfl⟩:=h;cases u with|true=>rw[bw rfl,uZ e d k];exact .sym _ _ (.lit _)|false=>rw[bL Bool.noConfusion,uZ e d l];exact .sym _ _ (.lit _)
  .cases h
 split at h
 .rename_i u n o q r m h1 h2;obtain⟨rfl,rfl⟩:=h;have f:=jl m d.1 j;refine⟨u,f,?_⟩;cases u with|true=>rw[uZ h1 (d.2.1 rfl) k];exact .sym _ _ (.lit _)|false=>rw[uZ h2 (d.2.2 rfl) l];exact .sym _ _ (.lit _)
 .cases h
def Be{l:Lk}{p:Prop}(h:qX l a b=Z (p,r))(c:p)(d:aH g w a va)(e:aH g w b vb) :
  BF l va∧BF l vb∧r=GZ va vb:=by
 cases l with
 |int k=>
  simp[qX]at h;split at h
  .rename_i f x i y h1 h2;obtain⟨rfl,rfl⟩:=h;rw[dS h1 c.1 d,dS h2 c.2 e];exact⟨⟨_,rfl⟩,⟨_,rfl⟩,rfl⟩
  .cases h
 |bool=>
  simp[qX]at h;split at h
  .rename_i f x i y h1 h2;obtain⟨rfl,rfl⟩:=h;rw[jl h1 c.1 d,jl h2 c.2 e];exact⟨⟨_,rfl⟩,⟨_,rfl⟩,rfl⟩
  .cases h
 |str=>
  simp[qX]at h;split at h
  .rename_i h1 h2;obtain⟨rfl,rfl⟩:=h;rw[iG h1 c.1 d,iG h2 c.2 e];exact⟨⟨_,rfl⟩,⟨_,rfl⟩,rfl⟩
  .cases h
 |no=>simp[qX]at h
def wR:∀(c:L Lk)(as bs:L T)(va vb:L Value){p:Prop}{r:Bool},kf c as bs=Z (p,r)->p->PW (aH g w) as va->PW (aH g w) bs vb->
  va.length=c.length∧vb.length=c.length∧(∀(j:Nat)(l:Lk)(v:Value),c[j]?=Z l->va[j]?=Z v->BF l v)∧
   (∀(j:Nat)(l:Lk)(v:Value),c[j]?=Z l->vb[j]?=Z v->BF l v)∧r=nF va vb
 |[],[],[],va,vb,p,r,h,f,d,e=>by simp only[kf,gK,fh]at h;have h1:va=[]:=Eg d.1.symm;have h2:vb=[]:=Eg e.1.symm;subst h1;subst h2;refine⟨rfl,rfl,λj l v h=>by simp at h,λj l v h=>by simp at h,h.2.symm⟩
 |l::c,a::as,b::bs,va,vb,p,r,h,f,d,e=>by
  simp[kf]at h;split at h
  .rename_i x B y h1 h2;simp only[gK,fh]at h;obtain⟨rfl,rfl⟩:=h
   match va,vb,d,e with
   |v::va,u::vb,d,e=>
    let ⟨C,E,m⟩:=Be h1 f.1 (d.2 0 _ _ rfl rfl) (e.2 0 _ _ rfl rfl)
    let ⟨n,o,F,I,q⟩:=wR c as bs va vb h2 f.2 ⟨by simpa using d.1,λj x y i k=>d.2 (j+1) x y (by simpa using i) (by simpa using k)⟩
     ⟨by simpa using e.1,λj x y i k=>e.2 (j+1) x y (by simpa using i) (by simpa using k)⟩
    refine⟨by simp[n],by simp[o],λj s t z A=>?_,λj s t z A=>?_,?_⟩
    .grind
    .grind
    .rw[m,q];rfl
  .cases h
 |[],[],_::_,_,_,_,_,h,_,_,_=>by simp[kf]at h
 |[],_::_,_,_,_,_,_,h,_,_,_=>by simp[kf]at h
 |_::_,[],_,_,_,_,_,h,_,_,_=>by simp[kf]at h
 |_::_,_::_,[],_,_,_,_,h,_,_,_=>by simp[kf]at h
def UL(d:Nat){ty e:TypeId}(b:P.underlying ty=Z (.pointer e))(a:Addr):(Op.equalIn (d+1) ty (.pointer Y) (.pointer (Z a))).run P w=.ok J w:=by simp only[Op.equalIn,run_bind,aJ b,andThen_ok];rfl
def UM(d:Nat){ty e:TypeId}(b:P.underlying ty=Z (.pointer e))(a:Addr):(Op.equalIn (d+1) ty (.pointer (Z a)) (.pointer Y)).run P w=.ok J w:=by simp only[Op.equalIn,run_bind,aJ b,andThen_ok];rfl
def UN(d:Nat){ty:TypeId}{a:Array (String×TypeId)}(b:P.underlying ty=Z (.interface a))(t:TypeId)(v:Value):(Op.equalIn (d+1) ty .nilIface (.iface t v)).run P w=.ok J w:=by simp only[Op.equalIn,run_bind,aJ b,andThen_ok];rfl
def Jc(d:Nat){ty:TypeId}{a:Array (String×TypeId)}(b:P.underlying ty=Z (.interface a))(t:TypeId)(v:Value):(Op.equalIn (d+1) ty (.iface t v) .nilIface).run P w=.ok J w:=by simp only[Op.equalIn,run_bind,aJ b,andThen_ok];rfl
def nR{ty:TypeId}(x y:Operand)(h1:binOp .eql ty va vb=(do pure (.bool (<-Op.equal ty va vb))))(h2:binOp .neq ty va vb=(do pure (.bool (!(<-Op.equal ty va vb)))))
  (c:∀op,(eqGuard op ty x y va vb).run P w=.ok () w) (a:(Op.equalIn (9999+1) ty va vb).run P w=.ok r w) :
  ((do eqGuard .eql ty x y va vb;binOp .eql ty va vb:Sem Value)).run P w=.ok (.bool r) w∧((do eqGuard .neq ty x y va vb;binOp .neq ty va vb:Sem Value)).run P w=.ok (.bool (!r)) w:=by
 have b:(Op.equal ty va vb).run P w=.ok r w:=a
 simp_all
def GY{ty:TypeId}{i:TI}(hi:m7 P ty i){p:Prop}(h:Zn i a b=Z (p,r))(u:p)(o:aH g w a va)(s:aH g w b vb)(x y:Operand) :
  ((do eqGuard .eql ty x y va vb;binOp .eql ty va vb:Sem Value)).run P w=.ok (.bool r) w∧((do eqGuard .neq ty x y va vb;binOp .neq ty va vb:Sem Value)).run P w=.ok (.bool (!r)) w:=by
 let ⟨xi,d0,z,N7,A,hsz,YY,hz,Cq,d⟩:=hi.all
 obtain⟨c,h⟩|⟨c,h⟩:=af h
 .split at h
  .cases h
  .rename_i k ks qa as qb bs hk B C;simp only[fM,fh]at h;obtain⟨⟨q,r'⟩,he,rfl,rfl⟩:=h
   let ⟨F,_⟩:=ql B u.1 o
   let ⟨I,_⟩:=ql C u.2.1 s
   let ⟨_,_,_,f,_⟩:=mQ B u.1 o
   let ⟨_,_,_,t,_⟩:=mQ C u.2.1 s
   obtain⟨xs,rfl⟩:=f c;obtain⟨ys,rfl⟩:=t c
   let ⟨K,R,S,m4,m5⟩:=wR (k::ks) as bs _ _ he u.2.2 F I
   simp only[Value.cells]at K R S m4 m5;have hne:i.lks≠[]:=by rw[hk];simp
   rw[<-hk]at K R S m4;have key:∀op,_:=λop=>hi.eqs c hne w op x y xs ys (by simpa using K) (by simpa using R) (λj l v h1 h2=>S j l v h1 (by simpa using h2)) (λj l v h1 h2=>m4 j l v h1 (by simpa using h2));refine⟨?_,?_⟩
   .rw[run_bind,(key .eql).1];simp only[andThen_ok,binOp,run_bind,(key .eql).2,m5];rfl
   .rw[run_bind,(key .neq).1];simp only[andThen_ok,binOp,run_bind,(key .neq).2,m5];rfl
  .cases h
 .split at h
  .rename_i l E;obtain⟨f,t,rfl⟩:=Be h u o s;rw[E]at d;cases l with
   |int k=>obtain⟨m,rfl⟩:=f;obtain⟨n,rfl⟩:=t;simp[eqGuard,binOp,Op.intCmp,GZ,bne]
   |bool=>obtain⟨m,rfl⟩:=f;obtain⟨n,rfl⟩:=t;subst d;exact nR x y rfl rfl (λop=>by cases op<;>rfl) (run_equalIn_bool' w _ _ _ _ A)
   |str=>
    obtain⟨m,rfl⟩:=f;obtain⟨n,rfl⟩:=t
    simp_all[eqGuard,binOp,Op.stringOp,GZ,beq_toListBytes]
   |no=>exact f.elim
  .rename_i E;rw[E]at d;obtain⟨e,rfl⟩:=d;unfold aet at h;split at h
   .obtain ⟨_,rfl⟩:=h;cases o with
    |sym _ _ o=>
    cases o;cases s;exact nR x y rfl rfl (λop=>by cases op<;>rfl) (UL _ A _)
   .obtain ⟨_,rfl⟩:=h;cases s with
    |sym _ _ s=>
    cases s;cases o;exact nR x y rfl rfl (λop=>by cases op<;>rfl) (UM _ A _)
   .cases h
  .rename_i E;rw[E]at d;obtain⟨e,rfl⟩:=d;unfold aeu at h;split at h
   .obtain ⟨_,rfl⟩:=h;cases o with
    |sym _ _ o=>
    cases o;cases s;exact nR x y rfl rfl (λop=>by cases op<;>rfl) (UN _ A _ _)
   .obtain ⟨_,rfl⟩:=h;cases s with
    |sym _ _ s=>
    cases s;cases o;exact nR x y rfl rfl (λop=>by cases op<;>rfl) (Jc _ A _ _)
   .cases h
  .cases h
end
end
section
section
variable {P:Program}{g:Gh}{w:World}
variable {i:TI}{a t:T}{va:Value}{p:Prop}{d:D}{s s':St}{k:Nat}
def RH{ty:TypeId}(hi:m7 P ty i){op:BinOp}{b:T}{l:Value}(h:LK i op a b=Z (p,d))(c:p)(e:aH g w a va)(f:aH g w b l)(x y:Operand) :
  ∃v,((do eqGuard op ty x y va l;binOp op ty va l:Sem Value)).run P w=.ok v w∧aH g w (.sym d) v:=by
 unfold LK at h;split at h
 .simp only[fM,fh]at h;obtain⟨⟨q,r⟩,o,rfl,rfl⟩:=h;exact⟨_,(GY hi o c e f x y).1,.sym _ _ (.lit _)⟩
 .simp only[fM,fh]at h;obtain⟨⟨q,r⟩,o,rfl,rfl⟩:=h;exact⟨_,(GY hi o c e f x y).2,.sym _ _ (.lit _)⟩
 .rename_i t u;split at h
  .rename_i k F;split at h
   .rename_i A m B n h1 h2;cases j:V5 op k m n with
    |some C=>
     simp only[j,gK,fh]at h;obtain⟨rfl,rfl⟩:=h;rw[dS h1 c.1 e,dS h2 c.2 f];cases op<;>simp only[V5,gK]at j<;>first
      |(cases j;done)
      |(
        subst j;refine⟨_,?_,.sym _ _ (.lit _)⟩;simp[eqGuard,binOp,Op.intCmp,Op.intArith,aC,bn,aF,bF,Kl])
    |none=>
     simp only[j,fM,fh]at h;obtain⟨C,s,rfl,rfl⟩:=h;rw[dS h1 c.1 e,dS h2 c.2.1 f];have E:n≠0:=c.2.2;cases op<;>simp only[Zx,gK]at s<;>first
      |(cases s;done)
      |(
        subst s;refine⟨_,?_,.sym _ _ (.lit _)⟩;simp[eqGuard,binOp,Op.intDiv,E,BJ,aaJ])
   .cases h
  .split at h
   .rename_i A m B n h1 h2;obtain⟨rfl,rfl⟩:=h;rw[iG h1 c.1 e,iG h2 c.2.1 f];have z:m.size+n.size<=4611686018427387904:=c.2.2;refine⟨_,?_,.sym _ _ (.lit _)⟩;simp[eqGuard,binOp,Op.stringOp,Sw];omega
   .cases h
  .cases h
def Uu{op:UnOp}(h:unT i op a=Z (p,d))(c:p)(e:aH g w a va) :
  ∃v,(Op.unary op va).run P w=.ok v w∧aH g w (.sym d) v:=by
 unfold unT at h;split at h
 .simp only[fM,fh]at h;obtain⟨⟨q,r⟩,b,rfl,rfl⟩:=h;rw[jl b c e];exact⟨_,rfl,.sym _ _ (.lit _)⟩
 .simp only[fM,fh]at h;obtain⟨⟨q,r⟩,b,rfl,rfl⟩:=h;rw[dS b c e];refine⟨_,rfl,?_⟩;rw[show(0:Int)-r=-r from by omega];exact .sym _ _ (.lit _)
 .cases h
def OQ{src dst:TypeId}{j:TI}(hi:m7 P src i)(u:m7 P dst j)(h:JV i j s a=Z (p,t,s'))(r:p)(m:aH g w a va) :
  ∃v,(convert src dst va).run P w=.ok v w∧aH g w t v∧s'=s:=by
 let ⟨_,d1,_,_,f,_,_,_,_,k⟩:=hi.all
 let ⟨_,d2,_,_,l,_,_,_,_,c⟩:=u.all
 unfold JV at h;split at h
 .rename_i d e;simp only[fM,fh]at h;obtain⟨⟨q,n⟩,x,rfl,rfl,rfl⟩:=h;rw[d]at k;rw[e]at c;subst c;rw[dS x r m];exact⟨_,by simp[convert,aJ f,aJ l,Conv.intToInt];rfl,.sym _ _ (.lit _),rfl⟩
 .rename_i d e;simp only[fM,fh]at h;obtain⟨⟨q,b⟩,y,rfl,rfl,rfl⟩:=h;rw[d]at k;rw[e]at c;subst c;have o:=iG y r m;subst o;exact⟨_,by simp[convert,aJ f,aJ l],m,rfl⟩
 .cases h
def GV(h:tQ s k a=Z (p,t,s'))(f:p)(i:aH g w a va) :
  ∃v,(Instr.extract va k).run P w=.ok v w∧aH g w t v∧s'=s:=by
 cases i with
 |gM o b j e=>
  simp only[tQ,j0,fM,fh]at h;obtain⟨q,l,_,rfl,rfl⟩:=h;have c:k<b.size:=by grind
  refine⟨b[k],by simp[Instr.extract,uy c],e k _ _ l (uy c),rfl⟩
 |sym d v m=>
  obtain⟨rfl,rfl,rfl⟩:=h;cases m with
  |gM ds b j e=>
   have n:k<ds.length:=by
    have:Nt k (cD ds)=W:=f
    simp_all[bS]
   have c:k<b.size:=by omega
   refine⟨b[k],by simp_all[Instr.extract],.sym _ _ ?_,rfl⟩;refine e k _ _ ?_ (uy c)
   grind[D.proj]
  |_=>cases f
 |_=>simp[tQ]at h
def add_zero'(a:Addr):a.add 0=a:=by rfl
def Cy{ty:TypeId}(hi:m7 P ty i)(h:qW i s k a=Z (p,t,s'))(u:aH g w a va) :
  ∃v,(Instr.fieldAt ty va k).run P w=.ok v w∧aH g w t v∧s'=s:=by
 let ⟨_,d1,_,_,x,_,_,_,_,l⟩:=hi.all
 unfold qW at h;split at h
 .rename_i n;rw[n]at l;obtain⟨fields,rfl,y,z⟩:=l;split at h
  .rename_i off size A r;rw[j0]at r
   let ⟨f,j,d',B,C,E,F,_⟩:=z k off size A r
   obtain⟨_,h⟩|⟨h0,h⟩:=af h
   .cases h
   .have I:j.size≠0:=by
     intro e
     simp_all
    have c:∀m,(Instr.fieldAt ty (.pointer (Z m)) k).run P w=.ok (.pointer (Z (m.add off))) w:=by
     simp_all[Instr.fieldAt,Instr.sureAddr,aJ,fieldPlace,dn]
    cases u with
    |ptr o b bl K=>obtain⟨_,rfl,rfl⟩:=h;refine⟨_,c _,?_,rfl⟩;rw[nL];exact .ptr _ _ _ K
    |lR d b m val q R S=>obtain⟨_,rfl,rfl⟩:=h;refine⟨_,c _,?_,rfl⟩;rw[ud];exact .lR _ _ _ _ q R S
    |lQ o e j' b len cap sz m hx=>obtain⟨_,rfl,rfl⟩:=h;refine⟨_,c _,?_,rfl⟩;rw[ud,Nat.add_assoc];exact .lQ _ _ _ _ _ _ _ _ hx
    |_=>simp at h
  .cases h
 .cases h
def M1{t:TypeId}{x:TypeInfo}{d:TypeDesc}(hi:P.info? t=Z x)(a:P.underlying t=Z d)(vs:Array Value)(off:Nat)(hl:off+x.size<=vs.size)(h1:dY d=J->x.size=1) :
  (part t vs off).run P w=.ok (if dY d then .agg ((vs.toList.drop off).take x.size).toArray else((vs.toList.drop off).take x.size).headD undef) w:=by
 simp only[part,run_bind,uu a,andThen_ok];cases b:dY d with
 |true=>
  simp only[sr,run_bind,dn hi,andThen_ok,run_pure]
  congr 2
  grind
 |false=>
  have e:=h1 b;have c:off<vs.size:=by omega
  simp_all[Tf]
def Ls{ty:TypeId}(hi:m7 P ty i)(h:GR i s k a=Z (p,t,s'))(z:p)(A:aH g w a va) :
  ∃v,(Instr.field ty va k).run P w=.ok v w∧aH g w t v∧s'=s:=by
 let ⟨_,d1,_,_,I,B,c,_,_,d⟩:=hi.all
 unfold GR at h;split at h
 .rename_i o;rw[o]at d;obtain⟨fields,rfl,K,R⟩:=d;split at h
  .rename_i off size S q cs C E;rw[j0]at C
   let ⟨f,j,d',hf1,hf2,r,hf4,u,hf6⟩:=R k off size S C
   obtain⟨hl,h⟩|⟨_,h⟩:=af h
   .have l:=beq_iff'.1 (zm.1 hl).1;rw[bS]at l;simp only[fM,fh]at h;obtain⟨t',ht,rfl,rfl,rfl⟩:=h
    let ⟨m,F⟩:=ql E z A
    let ⟨_,_,_,x,_⟩:=mQ E z A
    obtain⟨y,rfl⟩:=x (by rw[c];rfl);simp[Value.cells]at m;have b:=(m.drop off).take size
    let ⟨n,h1⟩:=xL (g:=g) (w:=w) ht b.1 b.2
    have hlv:((y.toList.drop off).take size).length=size:=by rw[<-b.1,l]
    have hs0:size≠0:=by
     intro e
     simp_all
    have hle:off+size<=y.size:=by
     grind
    refine⟨_,?_,n,rfl⟩;have hr:=M1 (P:=P) (w:=w) r u y off (by omega) (λhd=>by
     grind)
    simp_all[Instr.field,aJ,asAgg]
   .cases h
  .cases h
 .cases h
end
end
section
section
variable {P:Program}{g:Gh}{w:World}
def Dk{ty e:TypeId}{j:TypeInfo}(b:P.underlying ty=Z (.slice e))(c:P.info? e=Z j)(a:Addr)(len cap:Nat)(n:Int)(h:0<=n∧n<len) :
  (Instr.indexAt ty (.slice (Z a) len cap) (.int .i64 n)).run P w=.ok (.pointer (Z (a.add (n.toNat *j.size)))) w:=by
 simp[Instr.indexAt,asIntOf,aJ b,dn c,h]
variable {s s':St}{t x ix:T}{p:Prop}{i:TI}{vx vi:Value}
def MU(hs:aV g s w){v:Value}{es:L D}(h:BS s t=Z (p,es))(C:p)(E:aH g w t v)
  (hf:freeze s (tF t)=Z s') :
  ∃g',aV g' s' w∧Ext s.fl g w g' w∧s'.fl=s.fl∧s'.aE=s.aE∧dH g'.bh w (.sl es) v:=by
 cases E with
 |emp a=>
  simp only[BS,gK,fh]at h;simp[tF,freeze,gK]at hf;subst hf;exact⟨g,hs,Ext.refl _ _ _,rfl,rfl,by
   rw[<-h.2];exact .sl [] a 0 0 (λ_ _=>undef) (by simp) (by simp) (by simp) (λh=>absurd rfl h) (λi j d c h=>by simp at h)⟩
 |kr n f a K l=>simp[tF,freeze,gK]at hf;subst hf;obtain⟨_,rfl⟩:=h;exact⟨g,hs,Ext.refl _ _ _,rfl,rfl,l⟩
 |pW j d c a F l=>simp[tF,freeze,gK]at hf;subst hf;obtain⟨_,rfl⟩:=h;exact⟨g,hs,Ext.refl _ _ _,rfl,rfl,Bl F l⟩
 |sym d v l=>simp[tF,freeze,gK]at hf;subst hf;obtain⟨rfl,rfl⟩:=h;rw[D.xR C]at l;exact⟨g,hs,Ext.refl _ _ _,rfl,rfl,l⟩
 |sh o e len cap sz a y=>
  have key:∀m b(f:L D)era,s.ob.get o=Z (fW m b f era)->(bif Nq e era then Z (True,f)else Y)=Z (p,es)->
    s.ob.get o=Z (fW m b es e):=by
   intro m b f era q h;obtain⟨I,h⟩|⟨_,h⟩:=af h
   .have z:=beq_iff'.1 I;simp only[gK,fh]at h;rw[q,h.2,z]
   .cases h
  have u:∃m b,s.ob.get o=Z (fW m b es e):=by
   simp[BS]at h;split at h
   .rename_i b f era q;exact⟨_,_,key J b f era q h⟩
   .rename_i b f era q;exact⟨_,_,key W b f era q h⟩
   .cases h
  let ⟨m,b,q⟩:=u
  let ⟨g',x,A,r⟩:=ez [o] hs hf (λk B=>by
   simp at B;subst B;exact⟨iO (hs.lt' y) hs.aE,.inl ⟨e,_,y,.inl ⟨m,b,es,q⟩⟩⟩)
  have l:=x.Kw (r.hit o (by simp) m b es e q) (A.arr _ _ _ y);exact⟨g',x,A,r.fl,r.aE,l⟩
 |_=>simp[BS]at h
theorem xW{I:Nat->Prop}{es:L D}{v:Value}(h:dH I w (.sl es) v):∃a cap,v=.slice a es.length cap∧es.length<=cap∧(∀d∈es,es.length*d.sL<=281474976710656)∧(es≠[]->∃ad sz,a=Z ad∧(∀d∈es,d.cells.length=sz)∧I ad.block∧
  ∃val:Nat->Nat->Value,(∀i j d c,es[i]?=Z d->d.cells[j]?=Z c->w.cell? (ad.add (i*sz+j))=Z (val i j))∧
   (∀i j d c,es[i]?=Z d->d.cells[j]?=Z c->dH I w c (val i j))):=by
 cases h with
 |sl _ a cap sz val b e f k l=>
  refine⟨a,cap,rfl,b,f,λg=>?_⟩
  let ⟨ad,h1,h2,h3⟩:=k g
  exact⟨ad,sz,h1,e,h2,val,h3,l⟩
def HH{ty:TypeId}(hi:m7 P ty i){n sz:Nat}{ag:Bool}(c:i.kd=.array n sz ag)(h:Bx n sz s x ix=Z (p,t,s'))
  (o:aH g w x vx) (d:aH g w ix vi):∃v,(Instr.indexAt ty vx vi).run P w=.ok v w∧aH g w t v∧s'=s:=by
 let ⟨_,d1,_,_,f,_,_,_,_,a⟩:=hi.all
 rw[c]at a;obtain⟨e,j,B,rfl,q,l,_,_⟩:=a;unfold Bx at h;split at h
 .rename_i b k;obtain⟨r,h3⟩|⟨_,h3⟩:=af h
  .obtain ⟨_,rfl,rfl⟩:=h3;have u:k<n:=gN r;cases d with
   |kn _ _=>
   cases o with
   |lR _ _ y val m z A=>
   refine⟨.pointer (Z ((y.add b).add (k*sz))),?_,?_,rfl⟩
   .simp[Instr.indexAt,Instr.sureAddr,asIntOf,aJ f,dn q,l,u]
   .rw[ud];exact .lR _ _ _ _ m z A
  .cases h3
 .cases h
def Co{ty:TypeId}(hi:m7 P ty i)(hs:aV g s w)(h:j7 i s x ix=Z (p,t,s'))(A:p)
  (hx:aH g w x vx) (B:aH g w ix vi):∃v,(Instr.indexAt ty vx vi).run P w=.ok v w∧aH g w t v∧s'=s:=by
 let ⟨_,d1,_,_,DJ,_,_,_,_,Oc⟩:=hi.all
 unfold j7 at h;split at h
 .rename_i sz ag bt zero q n C hn;rw[C]at Oc;obtain⟨e,j,d',z,rfl,hj,yw,_,_,_,_,_,hpos,_⟩:=Oc;have gen:∀{r:L D}{q':Prop},BS s x=Z (q',r)->q'->lH n (eH r)->(jf r (Ee n)).wide sz->(∀o e,x≠.sh o e)->q->∃v,(Instr.indexAt ty vx vi).run P w=.ok v w∧aH g w (.lR (jf r (Ee n)) 0) v:=by
   intro r q' f hq' u hw l hq;have E:=dS hn hq B;subst E;have F:n.toNat<r.length:=by have h1:=u.1;have h2:=u.2;unfold eH at h2;omega
   have hne:r≠[]:=by intro e;rw[e]at F;simp at F
   have hd':dH g.bh w (.sl r) vx:=by
    cases hx with
    |sym d v hd=>obtain⟨rfl,rfl⟩:=f;rw[<-D.xR hq'];exact hd
    |kr m es' a hm hd=>obtain⟨_,rfl⟩:=f;exact hd
    |emp a=>simp only[BS,gK,fh]at f;exact absurd f.2.symm hne|pW j d c a hj hd=>obtain⟨_,rfl⟩:=f;exact Bl hj hd
    |sh o e len cap sz a hx=>exact absurd rfl (l o e)|_=>simp[BS]at f
   obtain⟨a,cap,rfl,hcap,_,I⟩:=xW hd';obtain⟨ad,y,rfl,K,TK,val,hc,hr⟩:=I hne;have R:=D.Ly F;have YB:y=sz:=by have h1:=K (jf r n.toNat) (iq R);exact h1.symm.trans hw
   subst YB;refine⟨_,Dk DJ hj ad _ _ n ⟨u.1,?_⟩,?_⟩
   .have:=u.2;exact this
   .rw[yw,<-add_zero' (ad.add (n.toNat *y))];refine .lR _ 0 (ad.add (n.toNat *y)) (val n.toNat) (by rw[kK];exact TK) (λk c hk=>?_) (λk c hk=>hr _ _ _ _ R hk);rw[ud];exact hc _ _ _ _ R hk
  split at h
  .rename_i o e';split at h
   .rename_i r Lm;obtain⟨hb,h3⟩|⟨_,h3⟩:=af h
    .have hzz:=beq_iff'.1 hb;obtain⟨rfl,rfl,rfl⟩:=h3;clear h hb;subst hzz;have E:=dS hn A.1 B;subst E;cases hx with
     |sh _ _ len cap y a hxa=>
     let ⟨fz,ho⟩:=J6 Lm
     let ⟨S,K⟩:=hs.nJ ho hxa
     subst K;have h1:=A.2.1;have h2:=A.2.2;unfold eH at h2;have hl:=S.len;have hc:=S.cap;simp only at hl hc
     let ⟨b,vs,ety,hab,_⟩:=S.mem (by simp only;omega)
     subst hab;refine⟨_,Dk DJ hj _ _ _ n ⟨h1,by omega⟩,?_,rfl⟩;rw[yw];exact .lQ o e' n.toNat 0 _ _ _ _ hxa
    .cases h3
   .cases h
  .rename_i l;split at h
   .rename_i f;obtain⟨rfl,rfl,rfl⟩:=h
    let ⟨v,h1,h2⟩:=gen f A.2.1 A.2.2.1 A.2.2.2 (λo e he=>l o e he) A.1
    exact⟨v,h1,h2,rfl⟩
   .cases h
 .rename_i C;exact HH hi C h hx B
 .cases h
def get!_some{b:ByteArray}{k:Nat}(h:k<b.size):b[k]?=Z (b.get! k):=by
 rw[getElem?_pos b k h]
 congr 1
 show b.data[k]=b.data[k]!;rw[getElem!_pos b.data k h]
def Lg{ty:TypeId}(hi:m7 P ty i)(h:GD i s x ix=Z (p,t,s'))(b:p)
  (f:aH g w x vx) (c:aH g w ix vi):∃v,(Instr.index ty vx vi).run P w=.ok v w∧aH g w t v∧s'=s:=by
 let ⟨_,d1,_,_,d,_,_,_,_,a⟩:=hi.all
 unfold GD at h;split at h
 .rename_i e j k;rw[e]at a;subst a;obtain⟨rfl,rfl,rfl⟩:=h;rw[dS j b.1 c,iG k b.2.1 f];have h1:=b.2.2.1;have h2:=b.2.2.2;unfold vu at h2;refine⟨_,?_,.sym _ _ (.lit _),rfl⟩;simp[Instr.index,asIntOf,run_bind,run_pure,andThen_ok,aJ d];rw[bw h1,get!_some (by omega)];rfl
 .cases h
def sZ{zero:L D}{cells:Array Value}(h:ZOk zero cells):(zero.map qG).length=cells.size∧
  ∀(j:Nat)(t:T)(v:Value),(zero.map qG)[j]?=Z t->cells[j]?=Z v->aH g w t v:=by
 refine⟨by simpa using h.1,λj t v h1 h2=>?_⟩;simp at h1;obtain⟨d,a,rfl⟩:=h1;obtain⟨rfl,rfl⟩|rfl:=h.2 j d v a h2
 .exact .emp Y
 .unfold qG;split
  .rename_i heq;simp at heq;subst heq;exact .kb _
  .rename_i heq;simp at heq;subst heq;exact .kn _ _
  .simp_all
  .exact .sym _ _ (.lit _)
def IS{ty xt:TypeId}(hi:m7 P ty i){ok:Bool}(h:r9 i s ty ok x=Z (p,t,s'))
  (E:aH g w x vx) :
  ∃v,(Instr.typeAssert vx xt ty ok).run P w=.ok v w∧aH g w t v∧s'=s:=by
 let ⟨I,d1,z,c,K,_,R,d,f,S⟩:=hi.all
 let ⟨m,n⟩:=hi.zag I z c d
 have hni:i.kd≠.iface->∀o,P.underlying ty≠Z (.interface o):=λl o q=>l (hi.nif o q);unfold r9 at h;have a:i.kd≠.iface->∀u v,(Instr.typeAssert (.iface u v) xt ty ok).run P w=((if u=ty then pure (if ok then .tuple #[v,.bool W]else v)else
   if ok then do pure (.tuple #[<-zeroValue ty,.bool J])else runtimePanic (.typeAssertion (Z xt) (Z u) ty "")):Sem Value).run P w:=by
  simp_all[Instr.typeAssert,aJ]
 split at h
 .cases h
 .rename_i u v l;cases E with
  |de _ _ vv hv=>
  obtain⟨k,h⟩|⟨k,h⟩:=af h
  .have r:=beq_iff'.1 k;simp only[gK,fh]at h;obtain⟨_,rfl,rfl⟩:=h;clear k;subst r;refine⟨_,by rw[a l,bw rfl];rfl,.gM _ _ rfl (λj t v h1 h2=>?_),rfl⟩
   match j with
   |0=>simp_all|1=>simp at h1 h2;subst h1;subst h2;exact .kb _|j+2=>simp at h1
  .have y:u≠ty:=λe=>by
    simp_all
   simp only[fM,fh]at h;obtain⟨tz,A,_,rfl,rfl⟩:=h
   let ⟨B,b⟩:=sZ (g:=g) (w:=w) f
   have F:aH g w tz z:=by
    obtain⟨C,rfl⟩|⟨C,q⟩:=FV A
    .obtain ⟨vs,rfl⟩:=m C;exact .agg _ _ B b
    .have:=n C;rw[q,this]at b;exact b 0 _ _ rfl rfl
   refine⟨_,by rw[a l,bL y];simp only[sr,run_bind,ej c d,andThen_ok,run_pure];rfl,.gM _ _ rfl (λj t v h1 h2=>?_),rfl⟩
   match j with
   |0=>grind|1=>simp at h1 h2;subst h1;subst h2;exact .kb _|j+2=>simp at h1
 .cases E with
  |de _ _ vv hv=>
  obtain⟨k,h⟩|⟨k,h⟩:=af h
  .simp_all
  .cases h
 .cases h
end
end
section
section
variable {P:Program}{g:Gh}{w:World}
inductive Sd(g:Gh)(w:World):Option T->Option Value->Prop where
 |no:Sd g w Y Y|yes (t:T) (v:Value) (h:aH g w t v):Sd g w (Z t) (Z v)
variable {l:Option T}{p:Prop}{low:Option Value}{lo hi:Int}{s s':St}{x t:T}{vx:Value}
def kI{dflt n:Int}{v:O Value}(h:w6 dflt l=Z (p,n))(a:p)(b:Sd g w l v) :
  (v=Y∧l=Y∧n=dflt)∨(v=Z (.int .i64 n)∧∃t,l=Z t):=by
 cases b with|no=>simp only[w6,gK,fh]at h;exact .inl ⟨rfl,rfl,h.2.symm⟩|yes t v c=>exact .inr ⟨by rw[dS h a c],t,rfl⟩
def run_sliceBound(n:Int)(y:Nat)(code:BoundsCode)(h:0<=n∧n<=y):(Instr.sliceBound (.int .i64 n) y code).run P w=.ok n.toNat w:=by simp[Instr.sliceBound,asIntOf,h]
def nu(a:Bool)(len cap:Nat){high:O Value}(hl:(low=Y∧lo=0)∨low=Z (.int .i64 lo))(b:(high=Y∧hi=len)∨high=Z (.int .i64 hi))
  (c:0<=lo) (h1:lo<=hi) (h2:hi<=cap):(Instr.sliceBounds a len cap low high Y).run P w=.ok (lo.toNat,hi.toNat,cap) w:=by
 obtain⟨rfl,rfl⟩|rfl:=hl<;>obtain⟨rfl,rfl⟩|rfl:=b
 .rfl
 .simp_all[Instr.sliceBounds,run_sliceBound]
 .simp_all[Instr.sliceBounds,run_sliceBound]
 .simp[Instr.sliceBounds,run_sliceBound hi cap _ ⟨by omega,h2⟩,run_sliceBound lo hi.toNat _ ⟨c,by omega⟩]
def s9(a:Bool)(len cap:Nat){b:Int}(hl:(low=Y∧lo=0)∨low=Z (.int .i64 lo))
  (c:0<=lo) (h1:lo<=hi) (h2:hi<=b) (h3:b<=cap):(Instr.sliceBounds a len cap low (Z (.int .i64 hi)) (Z (.int .i64 b))).run P w=.ok (lo.toNat,hi.toNat,b.toNat) w:=by
 obtain⟨rfl,rfl⟩|rfl:=hl
 .simp[Instr.sliceBounds,run_sliceBound b cap _ ⟨by omega,h3⟩,run_sliceBound hi b.toNat _ ⟨by omega,by omega⟩]
 .simp[Instr.sliceBounds,run_sliceBound b cap _ ⟨by omega,h3⟩,run_sliceBound hi b.toNat _ ⟨by omega,by omega⟩,run_sliceBound lo hi.toNat _ ⟨c,by omega⟩]
def OJ{I:Nat->Prop}{es:L D}{a:O Addr}{len cap sz:Nat}(h:dH I w (.sl es) (.slice a len cap))(n:jz es sz)(z:y9 lo hi (eH es))
  (m:Nat) (F:hi.toNat<=m) (u:m<=cap) :
  (o7 es lo hi).length=hi.toNat-lo.toNat∧dH I w (.sl (o7 es lo hi)) (.slice (if m=lo.toNat then a else a.map (·.add (lo.toNat *sz))) (hi.toNat-lo.toNat) (m-lo.toNat)):=by
 let ⟨K,v,A,x,q,g⟩:=xW h
 obtain⟨rfl,rfl,rfl⟩:=A
 let ⟨P,h1,h2⟩:=z
 unfold eH at h2;have b:(o7 es lo hi).length=hi.toNat-lo.toNat:=by simp[o7];omega
 refine⟨b,?_⟩;have ef:∀i d,(o7 es lo hi)[i]?=Z d->es[lo.toNat+i]?=Z d:=by
  grind[o7]
 have e:∀d∈o7 es lo hi,d∈es:=λd f=>UZ (List.mem_of_mem_drop f);rw[<-b];by_cases k:es=[]
 .subst k;have:o7 [] lo hi=[]:=by simp[o7]
  rw[this];exact .sl [] _ _ sz (λ_ _=>undef) (by simp) (by simp) (by simp) (λh=>absurd rfl h) (λi j d c h=>by simp at h)
 .obtain ⟨B,l,rfl,o,r,val,s,C⟩:=g k;have t:l=sz:=by obtain⟨d,ds,rfl⟩:=Tg k;rw[<-o d (by simp),n d (by simp)]
  subst t;refine .sl _ _ _ l (λi j=>val (lo.toNat+i) j) (by omega) (λd f=>n d (e d f)) (λd f=>fZ (zn _ (by omega)) (q d (e d f))) (λp=>?_) (λi j d c f y=>C _ _ _ _ (ef i d f) y);have E:0<(o7 es lo hi).length:=Ni.2 p;refine⟨B.add (lo.toNat *l),by grind,by rw[kK];exact r,λi j d c f y=>?_⟩
  grind[ud]
def Ku{ty:TypeId}{i:TI}(hi:m7 P ty i)(hs:aV g s w){h m:O T}{vl vh vm:O Value}
  (c:qx i s x l h m=Z (p,t,s')) (S:p) (hx:aH g w x vx) (hl:Sd g w l vl) (hh:Sd g w h vh) (hm:Sd g w m vm) :
  ∃g' v,(Instr.sliceAt ty vx vl vh vm).run P w=.ok v w∧aV g' s' w∧Ext s.fl g w g' w∧aH g' w t v∧s'.fl=s.fl∧s'.aE=s.aE:=by
 let ⟨_,d1,_,_,DJ,_,_,_,_,I⟩:=hi.all
 unfold qx at c;split at c
 .rename_i p0 lo vV hlo;rw[vV]at I;subst I;split at c
  .rename_i q b hb;split at c
   .rename_i r o u;obtain⟨rfl,rfl,rfl⟩:=c
    let ⟨c0,c1,c2⟩:=S.2.2.2
    rw[iG hb S.2.1 hx];cases hm;refine⟨g,_,?_,hs,Ext.refl _ _ _,.sym _ _ (.lit _),rfl,rfl⟩;have A:=kI hlo S.1 hl;have d:=kI u S.2.2.1 hh;have B:=nu (P:=P) (w:=w) J b.size b.size (A.imp (λh=>⟨h.1,h.2.2⟩) (·.1)) (d.imp (λh=>⟨h.1,h.2.2⟩) (·.1)) c0 c1 c2
    simp_all[Instr.sliceAt,Instr.slice,aJ,Ml]
   .cases c
  .cases c
 .rename_i sz ag bt zero p0 lo vV hlo;rw[vV]at I;obtain⟨e,j,d',z,rfl,hj,yw,_,_,_,_,_,hpos,_⟩:=I;split at c
  .rename_i es s1 GG hfr;have A:=λf=>kI hlo f hl;split at c
   .rename_i r o u;obtain⟨rfl,rfl,rfl⟩:=c;cases hm
    let ⟨f,hq,hr,k,C⟩:=S
    let ⟨g',hs',E,hfl,F,hd⟩:=MU hs GG hq hx hfr
    obtain⟨a,cap,rfl,K,_⟩:=xW hd
    let ⟨c0,c1,c2⟩:=C
    unfold eH at c2;have d:=kI u hr hh
    let ⟨_,n⟩:=OJ hd k ⟨c0,c1,c2⟩ cap (by omega) (eM _)
    refine⟨g',_,?_,hs',E,.sym _ _ n,hfl,F⟩;have B:=nu (P:=P) (w:=w) W es.length cap ((A f).imp (λh=>⟨h.1,h.2.2⟩) (·.1)) (d.imp (λh=>⟨h.1,h.2.2⟩) (·.1)) c0 c1 (by omega:o<=cap);simp only[Instr.sliceAt,Instr.slice,run_bind,aJ DJ,andThen_ok,dn hj,yw,B];rfl
   .rename_i o y th u;cases hm with
    |yes _ vy hy=>
    split at c
    .obtain ⟨rfl,rfl,rfl⟩:=c
     let ⟨f,hq,hr,e1,e2⟩:=S
     obtain⟨a,cap,rfl,K⟩:=S0 hs GG hq hx;have d:=kI u hr hh;cases hy;obtain⟨_,h',_⟩|⟨hv,_⟩:=d
     .cases h'
     .have z1:o=0:=e2;refine⟨g,_,?_,hs,Ext.refl _ _ _,.emp a,rfl,rfl⟩;have B:=s9 (P:=P) (w:=w) W es.length cap ((A f).imp (λh=>⟨h.1,h.2.2⟩) (·.1)) (by omega) (by omega:lo<=o) (by omega:o<=0) (by omega)
      simp_all[Instr.sliceAt,Instr.slice,aJ,dn]
    .simp only[fM,fh]at c;obtain⟨⟨t',mx⟩,hmx,rfl,rfl,rfl⟩:=c;obtain⟨f,hq,hr,ht,k,C,rfl⟩:=S
     let ⟨g',hs',E,hfl,F,hd⟩:=MU hs GG hq hx hfr
     obtain⟨a,cap,rfl,K,_⟩:=xW hd
     let ⟨c0,c1,c2⟩:=C
     unfold eH at c2;have d:=kI u hr hh
     let ⟨R,n⟩:=OJ hd k ⟨c0,c1,c2⟩ mx.toNat (eM _) (by omega)
     rw[dS hmx ht hy];obtain⟨_,h',_⟩|⟨hv,_⟩:=d
     .cases h'
     .subst hv;rw[<-R]at n;refine⟨g',.slice (if mx.toNat=lo.toNat then a else a.map (·.add (lo.toNat *sz))) (o7 es lo mx).length (o7 es lo mx).length,?_,hs',E,.kr 0 _ _ (AH _) n,hfl,F⟩;have B:=s9 (P:=P) (w:=w) W es.length cap ((A f).imp (λh=>⟨h.1,h.2.2⟩) (·.1)) c0 c1 (Iz _) (by omega:mx<=cap);simp only[Instr.sliceAt,Instr.slice,run_bind,aJ DJ,andThen_ok,dn hj,yw,B,R];rfl
   .cases c
  .cases c
 .cases c
def Jy{E:Env}(hs:aV g s w){f:Array TypeId}{rt:TypeId}(K:∀k i,E.ti k=Z i->m7 P k i)
  (h:fH E s .len f [x]=Z (p,t,s')) (A:p) (C:aH g w x vx) :
  ∃v,(Builtin.len_ f rt #[vx]).run P w=.ok v w∧aH g w t v∧s'=s:=by
 unfold fH at h;simp at h;have r:∀i,(nth f.toList 0).bind E.ti=Z i->∃ty,f[0]?=Z ty∧m7 P ty i:=by
  grind[j0]
 have l:∀i q u,(nth f.toList 0).bind E.ti=Z i->(∃a b c d,i.kd=.slice a b c d)->BS s x=Z (q,u)->q->
   ∃v,(Builtin.len_ f rt #[vx]).run P w=.ok v w∧aH g w (.sym (.lit (.int .i64 (eH u)))) v:=by
  intro i q u hi o m F
  let ⟨ty,h1,h2⟩:=r i hi
  let ⟨_,d1,_,_,y,_,_,_,_,n⟩:=h2.all
  let ⟨a,b,c,d,o⟩:=o
  rw[o]at n;obtain⟨e,j,R,z,rfl,_⟩:=n;obtain⟨a,cap,rfl,_⟩:=S0 hs m F C;refine⟨_,?_,.sym _ _ (.lit _)⟩
  simp_all[Builtin.len_,aJ,goInt,eH]
 split at h
 .rename_i b i I hi;split at h
  .rename_i o;obtain⟨rfl,rfl,rfl⟩:=h
   let ⟨ty,h1,h2⟩:=r i hi
   let ⟨_,d1,_,_,y,_,_,_,_,n⟩:=h2.all
   rw[o]at n;subst n;rw[iG I A C];refine⟨_,?_,.sym _ _ (.lit _),rfl⟩;simp[Builtin.len_,h1,aJ y,goInt,vu]
  .rename_i a b c d o;simp only[fM,fh]at h;obtain⟨⟨B,u⟩,m,rfl,rfl,rfl⟩:=h
   let ⟨v,h1,h2⟩:=l i B u hi ⟨_,_,_,_,o⟩ m A
   simp_all
  .cases h
 .rename_i i _ hi;split at h
  .rename_i o;simp only[fM,fh]at h;obtain⟨⟨B,u⟩,m,rfl,rfl,rfl⟩:=h
   let ⟨v,h1,h2⟩:=l i B u hi ⟨_,_,_,_,o⟩ m A
   simp_all
  .cases h
 .cases h
end
end
section
section
variable {P:Program}{g:Gh}{w:World}
variable {v:Value}{fr:Fr}{a:Act}
def Ga{d:D}(h:DA v=Z d):d=.lit v:=by
 unfold DA at h
 grind[Array.toList_eq_nil_iff]
def IA{t:T}(h:ofConst v=Z t):aH g w t v:=by
 unfold ofConst at h;split at h
 .simp at h;subst h;exact .kb _
 .simp at h;subst h;exact .kn _ _
 .simp at h;subst h;exact .emp _
 .split at h
  .rename_i b c;simp at h;subst h;rw[ad0.1 b,ad0.1 c];exact .fn _ _ _ _ _ rfl rfl (λj t v h=>by simp at h) (λj t v h=>by simp at h)
  .cases h
 .simp at h;obtain⟨d,a,rfl⟩:=h;rw[Ga a];exact .sym _ _ (.de _ _ _ (.lit _))
 .simp at h;obtain⟨d,a,rfl⟩:=h;rw[Ga a];exact .sym _ _ (.lit _)
theorem bR{fr:Fr}{a:Act}(hf:cR g fr a w){x:Operand}{t:T}(h:jZ fr x=Z t):aH g w t (a.eval x):=by
 cases x with
 |tmp k=>
  let ⟨v,b,c⟩:=hf.tm k t h
  simp_all[Act.eval]
 |const v=>exact IA h|global _=>cases h
 |func f=>simp[jZ,gK]at h;subst h;exact .fn _ _ _ _ _ rfl rfl (λj t v h=>by simp at h) (λj t v h=>by simp at h)
def eT{fr:Fr}{a:Act}(hf:cR g fr a w):∀{l:L Operand}{ts:L T},yM fr l=Z ts->PW (aH g w) ts (l.map a.eval)
 |[],ts,h=>by simp only[yM,gK]at h;subst h;exact⟨rfl,λj t v h=>by simp at h⟩
 |x::l,ts,h=>by
  simp[yM]at h;split at h
  .rename_i h2;simp at h;subst h;have b:=eT hf h2;refine⟨by simp[b.1],λj c v d e=>?_⟩;cases j with|zero=>grind[bR]|succ j=>exact b.2 j c v (by simpa using d) (by simpa using e)
  .cases h
def pZ(g:Gh)(w:World)(a:Nat×T)(b:Nat×Value):Prop:=a.1=b.1∧aH g w a.2 b.2
def pJ{fr:Fr}{a:Act}(hf:cR g fr a w):∀{l:L (Nat×Operand)}{ts:L (Nat×T)},su fr l=Z ts->PW (pZ g w) ts (l.map λ(i,x)=>(i,a.eval x))
 |[],ts,h=>by simp only[su,gK]at h;subst h;exact⟨rfl,λj t v h=>by simp at h⟩
 |(k,x)::l,ts,h=>by
  simp[su]at h;split at h
  .rename_i h1 h2;simp at h;subst h;have d:=pJ hf h2;refine⟨by simpa using d.1,λj e v b c=>?_⟩;cases j with|zero=>simp at b c;subst b;subst c;exact⟨rfl,bR hf h1⟩|succ j=>exact d.2 j e v (by simpa using b) (by simpa using c)
  .cases h
def zu(hf:cR g fr a w){x:O Operand}{t:O T}(h:NM fr x=Z t):Sd g w t (x.map a.eval):=by cases x with|none=>simp[NM,gK]at h;subst h;exact .no|some x=>simp[NM,fM]at h;obtain⟨u,b,rfl⟩:=h;exact .yes _ _ (bR hf b)
def Cu(off:Nat):∀(l:L Value)(a:Nat)(cells:Array Value),off+a+l.length<=cells.size->
  (l.zipIdx a).foldl (λcs x=>cs.setIfInBounds (off+x.2) x.1) cells=(cells.toList.take (off+a)++l++cells.toList.drop (off+a+l.length)).toArray
 |[],a,cells,h=>by simp
 |c::l,a,cells,h=>by
  simp at h;simp only[List.zipIdx_cons,Nx];rw[Cu off l (a+1) _ (by simp;omega)]
  congr 1
  have b:off+(a+1)=off+a+1:=by omega
  have d:off+a+1+l.length=off+a+(l.length+1):=by omega
  have h1:(cells.toList.set (off+a) c).take (off+a+1)=cells.toList.take (off+a)++[c]:=by
   rw[List.take_add_one,List.take_set,Qy,bw rfl,bw (by simp;omega)]
   grind[List.set_eq_of_length_le]
  simp_all[List.drop_set]
def wP{place:Nat->O (Nat×TI)}{pl:Nat->O (Nat×Nat)}(d:∀k off i,place k=Z (off,i)->pl k=Z (off,i.size)) :
  ∀(ps:L (Nat×T))(vs:L (Nat×Value)){cells:L T}{cs:Array Value}{p:Prop}{r:L T},GQ place cells ps=Z (p,r)->p->PW (pZ g w) ps vs->PW (aH g w) cells cs.toList->
   ∃o,Instr.fill pl cs vs=Z o∧PW (aH g w) r o.toList
 |[],[],cells,cs,p,r,h,q,_,m=>by obtain⟨_,rfl⟩:=h;exact⟨cs,rfl,m⟩
 |(k,t)::ps,(R,v)::vs,cells,cs,p,r,h,q,c,m=>by
  have s:=c.2 0 _ _ rfl rfl;obtain⟨rfl,C⟩:=s;have f:PW (pZ g w) ps vs:=⟨by simpa using c.1,λj a b E u=>c.2 (j+1) a b (by simpa using E) (by simpa using u)⟩;simp only[GQ]at h;split at h
  .cases h
  .rename_i off i x;split at h
   .cases h
   .rename_i l F;obtain⟨u,h⟩|⟨_,h⟩:=af h
    .simp only[fM,fh]at h;obtain⟨⟨S,r'⟩,I,rfl,rfl⟩:=h;have y:=gN u;rw[bS,bS]at y
     let ⟨n,K⟩:=ql F q.1 C
     have z:v.cells.size=l.length:=by simpa using n.1.symm
     have P:cells.length=cs.size:=by simpa using m.1
     have B:off+v.cells.toList.length<=cs.size:=by
      simp_all
     have e:=Cu off v.cells.toList 0 cs (by omega);simp only[Nat.add_zero]at e
     let ⟨o,h1,h2⟩:=wP d ps vs (cs:=(cs.toList.take off++v.cells.toList++cs.toList.drop (off+v.cells.toList.length)).toArray) I q.2.2 f (by
      rw[bS];simp only[Array.length_toList,z];exact((m.take off).append n).append (m.drop _))
     refine⟨o,?_,h2⟩;have A:¬(v.cells.size≠i.size||off+v.cells.size>cs.size)=W:=by
      simp_all
     simp only[Instr.fill,d _ _ _ x];rw[bL A,<-h1,<-e]
     congr 1
     rw[<-Array.foldl_toList,Array.toList_zipIdx]
    .cases h
 |[],_::_,_,_,_,_,_,_,c,_=>by simp[PW]at c
 |_::_,[],_,_,_,_,_,_,c,_=>by simp[PW]at c
def yI{α β:Type}(f:α->Sem β)(r:α->β):∀(l:L α),(∀x∈l,(f x).run P w=.ok (r x) w)->(l.mapM f).run P w=.ok (l.map r) w
 |[],_=>rfl|x::l,h=>by
  have h2:=yI f r l (λy a=>h y (by simp[a]))
  simp_all
def O0{ty:TypeId}{i:TI}(hi:m7 P ty i){fs:L (Nat×Nat×Bool)}(s:i.kd=.struct fs){ps:L (Nat×T)}{vs:Array (Nat×Value)}(x:PW (pZ g w) ps vs.toList)
  {p:Prop} {cs:L T} (h:GQ (λk=>match nth fs k with|some (off,size,ag)=>Z (off,{(default:TI)with size:=size,agg:=ag})|none=>Y) (i.zero.map qG) ps=Z (p,cs)) (S:p) :
  ∃v,(Instr.build ty vs).run P w=.ok v w∧aH g w (.agg cs) v:=by
 let ⟨xi,d1,z,y,A,_,YY,B,e,l⟩:=hi.all
 rw[s]at l;obtain⟨fields,rfl,C,u⟩:=l;have m:=sZ (g:=g) (w:=w) e;have E:∀f:Field,∃n:Nat,f∈fields.toList->(Go.sizeOf f.type).run P w=.ok n w:=by
  intro f;by_cases R:f∈fields.toList
  .obtain ⟨k,s,rfl⟩:=rG R;have F:k<fs.length:=by rw[<-C];simpa using s
   let ⟨d,j,d',h1,h2,h3,h4,_⟩:=u k (fs[k]).1 (fs[k]).2.1 (fs[k]).2.2 (iR F)
   have:d=fields.toList[k]:=by
    have b:fields.toList[k]?=Z d:=by simpa using h1
    rw[iR s]at b;exact(jT b).symm
   subst this;exact⟨j.size,λ_=>dn h3 w⟩
  .exact ⟨0,λh=>absurd h R⟩
 let ⟨sz,c⟩:=U0 E
 have o:=yI (P:=P) (w:=w) (λf:Field=>Functor.map (Prod.mk f.offset) <| Go.sizeOf f.type) (λf=>(f.offset,sz f)) fields.toList (λf u=>by simp[c f u]);obtain⟨rs,h1,h2⟩:=wP (g:=g) (w:=w) (pl:=λk=>((fields.toList.map λf=>(f.offset,sz f)).toArray)[k]?) (λk off ti a=>by
  simp[j0]at a;split at a
  .rename_i q size ag I;simp at a;obtain⟨rfl,rfl⟩:=a
   let ⟨d,j,d',h1,h2,h3,h4,_⟩:=u k q size ag I
   have r:d∈fields.toList:=by
    have b:fields.toList[k]?=Z d:=by simpa using h1
    exact iq b
   have K:=c d r;rw[dn h3]at K;simp at K;simp[h1,h2,<-K,h4]
  .cases a) ps vs.toList h S x ⟨by simpa using m.1,λj t v h1 h2=>m.2 j t v h1 (by simpa using h2)⟩
 refine⟨.agg rs,?_,.agg _ _ (by simpa using h2.1) (λj t v h3 h4=>h2.2 j t v h3 (by simpa using h4))⟩;simp only[Instr.build,run_bind,ej y B,aJ A,andThen_ok,Array.mapM_eq_mapM_toList];simp at h1;simp[o,h1]
end
end
section
section
variable {P:Program}{g:Gh}{w:World}
variable {s:St}{I:Nat->Prop}{ag:Bool}{sz len:Nat}{d:D}{v:Value}{i:TI}{cells:Array Value}{zero:List D}
def aV.X2(hs:aV g s w){w':World}(o:Obj)(t:w'.heap=w.heap.push o)(m:w'.os=w.os)(i:w'.output=w.output) :
  aV (g.lq (·=w.heap.size)) s w'∧Ext s.fl g w (g.lq (·=w.heap.size)) w':=by
 have d:∀b,b<w.heap.size->w'.heap[b]?=w.heap[b]?:=λb f=>by rw[t,Array.getElem?_push,bL (by omega)]
 have n:w'.heap.size=w.heap.size+1:=by rw[t];simp
 have e:∀k b,bz (g.lq (·=w.heap.size)) k b->bz g k b:=λk b h=>⟨λx=>h.1 (.inl x),h.2⟩;have p:Ext s.fl g w (g.lq (·=w.heap.size)) w':=
  ⟨λ_ _ h=>h,λ_ _ _ h=>h,λ_ h=>.inl h,by omega,λb f _=>d b f,λk b h=>.inl (e k b h),λb h=>h.imp id λh=>.inl (by omega),m,i⟩
 refine⟨⟨hs.aE,hs.ah,λk c q=>?_,λk j y z=>?_,λb f=>?_,λk u b h A=>hs.jS k u b (e k b h) (e u b A)⟩,p⟩
 .have a:=hs.box k c q;refine a.ext p hs.bh (d c a.2.1) rfl ?_
  rintro(h|h)
  .exact a.1 h
  .have:=a.2.1;omega
 .have l:=hs.arr k j y z;have r:∀v,y.a=Z v->y.cap≠0->v.block<w.heap.size:=l.1;refine l.ext p hs.bh (λb f q=>⟨d b (r _ f q),⟨λh=>h.elim id λh=>?_,.inl⟩⟩) rfl rfl
  simp_all
 .obtain f|f:=f
  .have:=hs.bh b f;omega
  .omega
structure u7(I:Nat->Prop)(w:World)(sz:Nat)(es:List D)(cells:Array Value):Prop where
 size:cells.size=es.length*sz
 rows:∀d∈es,d.cells.length=sz
 rel:∀i j d c,es[i]?=Z d->d.cells[j]?=Z c->∃v,cells[i*sz+j]?=Z v∧dH I w c v
def Rp(h:(bif ag then d.isAgg sz else d.leaf)=W)(h1:(ag||Nq sz 1)=W)(b:dH I w d v) :
  d.cells.length=sz∧v.cells.size=sz∧∀(j:Nat)(c:D)(u:Value),d.cells[j]?=Z c->v.cells[j]?=Z u->dH I w c u:=by
 cases ag with
 |true=>
  obtain⟨i,rfl,e,_⟩:=zE h;cases b with|agg _ k a _ f=>exact⟨e,by simp[Value.cells,<-a,e],λj c u h2 h3=>f j c u h2 h3⟩
 |false=>
  simp at h h1
  let ⟨_,l⟩:=wD h b
  have g:d.cells=[d]:=by cases d<;>first|rfl|(simp[D.leaf]at h)
  grind
def DT{s:St}(hs:aV g s w){i:TI}:∀(ps:L (Nat×T))(vs:L (Nat×Value)){es r:L D}{p:Prop}{os:L Nat},sH s i es ps=Z (p,r,os)->p->PW (pZ g w) ps vs->
  ∀o∈os,Live g s o
 |[],_,es,r,p,os,h,f,_=>by obtain⟨_,rfl,rfl⟩:=h;intro o ho;cases ho
 |(k,t)::ps,(x,v)::vs,es,r,p,os,h,f,c=>by
  obtain⟨rfl,m⟩:=c.2 0 _ _ rfl rfl;have d:PW (pZ g w) ps vs:=⟨by simpa using c.1,λj a b n l=>c.2 (j+1) a b (by simpa using n) (by simpa using l)⟩;simp only[sH]at h;split at h
  .cases h
  .rename_i q;obtain⟨l,h⟩|⟨_,h⟩:=af h
   .simp only[fM,fh]at h;obtain⟨⟨y,z,u⟩,e,rfl,rfl,rfl⟩:=h
    let ⟨a1,_⟩:=l5 hs t q f.1 m
    have a2:=DT hs ps vs e f.2.2 d;intro o ho;obtain ho|ho:=eS.1 ho
    .exact a1 o ho
    .exact a2 o ho
   .cases h
 |_::_,[],_,_,_,_,_,_,c=>by simp[PW]at c
def Bf{s:St}(hs:aV g s w){sz:Nat}{ag:Bool}(h1:(ag||Nq sz 1)=W){g':Gh}{s':St}(A:aV g' s' w)(he:Ext s.fl g w g' w) :
  ∀(ps:L (Nat×T))(vs:L (Nat×Value)){es r:L D}{cells:Array Value}{p:Prop}{os:L Nat},sH s {(default:TI)with size:=sz,agg:=ag} es ps=Z (p,r,os)->p->PW (pZ g w) ps vs->
   jx s s' os->u7 g'.bh w sz es cells->(∀o∈os,Live g s o)∧∃I,Instr.fill (λi=>Z (i*sz,sz)) cells vs=Z I∧u7 g'.bh w sz r I∧r.length=es.length
 |[],[],es,r,cells,p,os,h,K,_,_,n=>by obtain⟨_,rfl,rfl⟩:=h;exact⟨λo z=>(by cases z),cells,rfl,n,rfl⟩
 |(k,t)::ps,(k',v)::vs,es,r,cells,p,os,h,K,f,B,n=>by
  obtain⟨rfl,hv⟩:=f.2 0 _ _ rfl rfl;simp only at hv;have q:PW (pZ g w) ps vs:=⟨by simpa using f.1,λj a b ha hb=>f.2 (j+1) a b (by simpa using ha) (by simpa using hb)⟩;simp only[sH]at h;split at h
  .cases h
  .rename_i d R S;obtain⟨hb,h⟩|⟨_,h⟩:=af h
   .simp only[fM,fh]at h;obtain⟨⟨p',r',os2⟩,C,rfl,rfl,rfl⟩:=h;have E:k<es.length:=by
     simp_all[bS]
    let ⟨a1,a2⟩:=l5 hs t S K.1 hv
    have z1:jx s s' R:=B.sub (λo z=>fL _ z);have z2:jx s s' os2:=B.sub (λo z=>eP _ z);have hdr:=a2 g' s' A he z1
    let ⟨c1,c2,c3⟩:=Rp K.2.1 h1 hdr
    have P:k*sz+sz<=cells.size:=by
     rw[n.size];have:(k+1)*sz<=es.length*sz:=zn _ E
     grind
    have l:=Cu (k*sz) v.cells.toList 0 cells (by simp_all);simp only[Nat.add_zero,Array.length_toList,c2]at l;have F:u7 g'.bh w sz (es.set k d) (cells.toList.take (k*sz)++v.cells.toList++cells.toList.drop (k*sz+sz)).toArray:=by
     refine⟨?_,λx m=>?_,λi j x c m hj=>?_⟩
     .simp only[Tc,mG,KJ,Array.length_toList,Ta,c2,Qv,<-n.size];omega
     .obtain m|rfl:=Xi m
      .exact n.rows x m
      .exact c1
     .rw[Qy]at m;by_cases y:k=i
      .subst y;rw[bw rfl,bw E]at m;simp at m;subst m;have yw:j<sz:=by grind
       refine⟨v.cells[j],?_,c3 j c _ hj (uy (by omega))⟩
       grind
      .rw[bL y]at m
       let ⟨u,hu,S⟩:=n.rel i j x c m hj
       have yw:j<sz:=by rw[<-n.rows x (iq m)];grind
       refine⟨u,?_,S⟩;rw[Te,tq,tq];obtain hik|hik:=Nat.lt_or_gt_of_ne (λe=>y e.symm:i≠k)
       .have:(i+1)*sz<=k*sz:=zn _ hik
        grind
       .have:(k+1)*sz<=i*sz:=zn _ hik
        grind
    let ⟨b1,I,b2,b3,b4⟩:=Bf hs h1 A he ps vs C K.2.2 q z2 F
    refine⟨λo z=>?_,I,?_,b3,by rw[b4];simp⟩
    .grind
    .have hno:¬(v.cells.size≠sz||k*sz+v.cells.size>cells.size)=W:=by
      simp_all
     simp only[Instr.fill];rw[bL hno,<-b2,<-l]
     congr 1
     rw[<-Array.foldl_toList,Array.toList_zipIdx]
   .cases h
 |[],_::_,_,_,_,_,_,_,_,f,_,_=>by simp[PW]at f
 |_::_,[],_,_,_,_,_,_,_,f,_,_=>by simp[PW]at f
def ak6(d:D):d.sL<=24*d.cells.length:=by
 have b:∀x:D,x.lby<=24:=by intro x;unfold D.lby;split<;>omega
 have c:∀l:L D,D.oY l<=24*l.length:=by
  intro l
  induction l with
  |nil=>exact AH _|cons a l g=>
   grind[D.oY]
 cases d with
 |agg e=>exact c e|lit v=>
  unfold D.sL;have:(D.lit v).cells.length=1:=rfl;rw[this];split<;>first|omega|exact b _|simp_all
 |sl f=>exact b (.sl f)|de t d=>exact b (.de t d)|gM ds=>exact b (.gM ds)|pt d=>exact b (.pt d)|mp k v=>exact b (.mp k v)
def u7.V2{es:L D}(h:u7 I w sz es cells){b:Nat}{ty:TypeId}{fz:Nat×Nat}(m:w.heap[b]?=Z (.cells cells ty fz))(n:I b){cap:Nat}(a:es.length<=cap)
  (k:∀d∈es,es.length*d.sL<=281474976710656):dH I w (.sl es) (.slice (Z ⟨b,0,Y⟩) es.length cap):=by
 have l:∀q:Nat×Nat,∃v,∀d c,es[q.1]?=Z d->d.cells[q.2]?=Z c->cells[q.1*sz+q.2]?=Z v∧dH I w c v:=by
  rintro⟨i,j⟩
  by_cases o:i<es.length
  .by_cases f:j<(es[i]).cells.length
   .let ⟨v,r,s⟩:=h.rel i j _ _ (iR o) (iR f)
    refine⟨v,λd c g p=>?_⟩
    grind
   .refine ⟨undef,λd c g p=>?_⟩
    simp_all
  simp_all
 let ⟨val,e⟩:=U0 l
 refine .sl es _ cap sz (λi j=>val (i,j)) a h.rows k (λ_=>⟨_,rfl,n,λi j d c g f=>?_⟩) (λi j d c g f=>(e (i,j) d c g f).2);rw[nL,cell?_of_block m]
 simp_all
def BO(h:ag9 d v):dH I w d v:=by
 obtain⟨rfl,rfl⟩|rfl:=h
 .exact .sl [] Y 0 0 (λ_ _=>undef) (by simp) (by simp) (by simp) (λh=>absurd rfl h) (λi j d c h=>by simp at h)
 .exact .lit _
theorem u7.mono{I a:Nat->Prop}{w w':World}{sz:Nat}{es:L D}{cells:Array Value}(h:u7 I w sz es cells)(e:jQ I w w')(f:∀b,I b->a b):u7 a w' sz es cells:=
 ⟨h.size,h.rows,λi j d c g k=>let ⟨v,l,m⟩:=h.rel i j d c g k;⟨v,l,m.mono e f⟩⟩
def MA(a:ZOk zero cells)(h1:(ag||Nq sz 1)=W)(hl:cD zero=sz) :
  u7 I w sz (List.replicate len (bif ag then .agg zero else zero.getD 0 default)) ((Array.range (len*sz)).map (cells[·%cells.size]!)):=by
 rw[bS]at hl;have b:cells.size=sz:=by rw[<-a.1,hl]
 have n:(bif ag then D.agg zero else zero.getD 0 default).cells=zero:=by
  cases ag with
  |true=>rfl|false=>
   simp at h1;have e:zero.length=1:=by rw[hl,h1]
   match zero,e with
   |[d],_=>
    have:=a.2 0 d cells[0] rfl (uy (by omega));obtain⟨h,_⟩|h:=this<;>(rw[h];rfl)
 refine⟨by simp,λd f=>?_,λi j d c p o=>?_⟩
 .rw[XE f,n,hl]
 .have g:i<len:=by grind
  have k:d=(bif ag then D.agg zero else zero.getD 0 default):=XE (iq p);rw[k,n]at o;have l:j<sz:=by grind
  have m:i*sz+j<len*sz:=by
   have:(i+1)*sz<=len*sz:=zn _ g
   grind
  refine⟨cells[j]'(by omega),?_,BO (a.2 j c _ o (uy (by omega)))⟩;have q:(i*sz+j)%cells.size=j:=by rw[b,Nr,Nat.mul_add_mod,Nat.mod_eq_of_lt l]
  simp[m,q];rw[getElem!_pos cells j (by omega)]
def CP{ty:TypeId}(hi:m7 P ty i){s1:St}(hs:aV g s w){bt:Nat}(hk:i.kd=.slice sz ag bt zero)(h1:(ag||Nq sz 1)=W)(A:cD zero=sz)(h0:sz≠0)
  (hlen:len*sz<=16777216) {ps:L (Nat×T)} {vs:Array (Nat×Value)} (m:PW (pZ g w) ps vs.toList) {p:Prop} {es:L D} {os:L Nat}
  (h:sH s {(default:TI)with size:=sz,agg:=ag} (List.replicate len (bif ag then .agg zero else zero.getD 0 default)) ps=Z (p,es,os)) (hp:p) (hf:freeze s os=Z s1) :
  ∃w' g' v,(Instr.buildSlice ty len vs).run P w=.ok v w'∧aV g' s1 w'∧Ext s.fl g w g' w'∧aH g' w' (.kr len es) v∧s1.fl=s.fl∧s1.aE=s.aE:=by
 let ⟨xi,d1,z,N7,n,_,YY,hzx,Cq,o⟩:=hi.all
 rw[hk]at o;obtain⟨e,j,d',z',rfl,B,q,hue,hage,C,E,_,_,_⟩:=o;have r:=DT hs ps vs.toList h hp m
 let ⟨g1,f,t,b⟩:=ez os hs hf r
 let ⟨_,rs,a,c,F⟩:=Bf hs h1 f t ps vs.toList h hp m b (MA E h1 A)
 have u:es.length=len:=by rw[F];simp
 let ⟨I,k⟩:=f.X2 (w':=w.alloc (.cells rs e)) (.cells rs e) rfl rfl rfl
 have l:=c.mono (k.keeps f.bh) k.bh;have K:=l.V2 (cap:=es.length) (xZ w _) (.inr rfl) (eM _) (λd K=>by
  have h3:=ak6 d;rw[c.rows d K]at h3;have h4:es.length*d.sL<=len*(24*sz):=by simp_all[Nat.mul_le_mul_left]
  grind)
 refine⟨_,_,.slice (Z ⟨w.heap.size,0,Y⟩) es.length es.length,?_,I,(b.fl▸t.trans (b.fl▸k)),.kr len es _ (by omega) K,b.fl,b.aE⟩;have R:¬(len*sz>2 ^ 24):=by omega
 by_cases S:len*sz=0
 .have y:len=0:=by
   grind[Nat.mul_eq_zero]
  subst y;simp at a;have hr0:(Array.range 0).map (λx=>z'.cells[x%z'.cells.size]!)=#[]:=by simp
  rw[hr0]at a;have he0:es.length=0:=u;have hr1:Array.range 0=#[]:=by simp
  simp[hr1,Instr.buildSlice,aJ n,dn B,q,a,newRow,he0]
 .simp[Instr.buildSlice,aJ n,dn B,q,ej B C,R,S,a,newRow,u]
end
end
section
section
variable {P:Program}{g:Gh}{w:World}
structure sN(I:Nat->Prop)(w:World)(sz:Nat)(es:List D)(vals:List Value):Prop where
 len:vals.length=es.length*sz
 rows:∀d∈es,d.cells.length=sz
 rel:∀i j d c,es[i]?=Z d->d.cells[j]?=Z c->∃v,vals[i*sz+j]?=Z v∧dH I w c v
theorem Lh{i j n sz:Nat}(hi:i<n)(a:j<sz):i*sz+j<n*sz:=by
 have:(i+1)*sz<=n*sz:=zn _ hi
 grind
theorem acs{i j sz:Nat}(a:j<sz):(i*sz+j)/sz=i∧(i*sz+j)%sz=j:=by
 grind[Nat.mul_comm,Nat.mul_add_div,Nat.div_eq_of_lt,Nat.mul_add_mod,Nat.mod_eq_of_lt]
def rM(sz n:Nat)(val:Nat->Nat->Value):L Value:=(List.range (n*sz)).map λk=>val (k/sz) (k%sz)
variable {sz n:Nat}{val:Nat->Nat->Value}{v:Value}{s:St}{t:T}{p:Prop}{es:List D}{I:Nat->Prop}{vals:List Value}
def Dl{i j:Nat}(hi:i<n)(a:j<sz):(rM sz n val)[i*sz+j]?=Z (val i j):=by
 grind[acs,rM,Lh]
def AA{k:Nat}(a:0<sz)(h:(rM sz n val)[k]?=Z v):∃i j,i<n∧j<sz∧k=i*sz+j∧v=val i j:=by
 simp[rM,kV,fM]at h;obtain⟨d,b,rfl⟩:=h;obtain⟨rfl,c⟩:=zk b;refine⟨k/sz,k%sz,Td (by grind),Nat.mod_lt _ a,?_,rfl⟩
 grind[Nat.div_add_mod]
def s6(hs:aV g s w)(h:BS s t=Z (p,es))(hp:p)(ht:aH g w t v)(h0:0<sz)(r:jz es sz) :
  ∃a cap,v=.slice a es.length cap∧es.length<=cap∧(∀d∈es,es.length*d.sL<=281474976710656)∧
   (es≠[]->∃ad val,a=Z ad∧(g.bh ad.block∨∃o,tF t=[o]∧bz g o ad.block)∧
    (∀i j,i<es.length->j<sz->w.cell? (ad.add (i*sz+j))=Z (val i j))∧sN g.bh w sz es (rM sz es.length val)):=by
 have data:∀{v:Value},dH g.bh w (.sl es) v->∃a cap,v=.slice a es.length cap∧es.length<=cap∧(∀d∈es,es.length*d.sL<=281474976710656)∧
   (es≠[]->∃ad val,a=Z ad∧(g.bh ad.block∨∃o,tF t=[o]∧bz g o ad.block)∧
    (∀i j,i<es.length->j<sz->w.cell? (ad.add (i*sz+j))=Z (val i j))∧sN g.bh w sz es (rM sz es.length val)):=by
  intro v k;obtain⟨a,cap,rfl,K,S,B⟩:=xW k;refine⟨a,cap,rfl,K,S,λx=>?_⟩;obtain⟨ad,f,rfl,y,z,val,hc,hr⟩:=B x;have C:f=sz:=by obtain⟨d,ds,rfl⟩:=Tg x;rw[<-y d (by simp),r d (by simp)]
  subst C;have E:∀i j(q:i<es.length)(l:j<f),(es[i]).cells[j]?=Z ((es[i]).cells[j]'(by rw[y _ (Nh q)];exact l)):=λi j q l=>iR _;refine⟨ad,val,rfl,.inl z,λi j q l=>hc i j _ _ (iR q) (E i j q l),⟨by simp[rM],y,λi j d c k l=>?_⟩⟩;have q:=cw k;have F:j<f:=by rw[<-y d (iq k)];exact cw l
  exact⟨val i j,Dl q F,hr i j d c k l⟩
 cases ht with
 |emp a=>obtain⟨_,rfl⟩:=h;exact⟨a,0,rfl,eM _,by simp,λh=>absurd rfl h⟩
 |kr n P a hn k=>obtain⟨_,rfl⟩:=h;exact data k
 |pW j d c a l k=>obtain⟨_,rfl⟩:=h;exact data (Bl l k)
 |sym d v k=>obtain⟨rfl,rfl⟩:=h;rw[D.xR hp]at k;exact data k
 |sh o e len cap sz2 a hx=>
  have key:∃fz f,s.ob.get o=Z (fW fz f es e):=by
   simp[BS]at h;split at h
   .rename_i f P era R;obtain⟨hb,h⟩|⟨_,h⟩:=af h
    .have I:=beq_iff'.1 hb;simp only[gK,fh]at h;exact⟨J,f,by rw[R,h.2,I];rfl⟩
    .cases h
   .rename_i f P era R;obtain⟨hb,h⟩|⟨_,h⟩:=af h
    .have I:=beq_iff'.1 hb;simp only[gK,fh]at h;exact⟨W,f,by rw[R,h.2,I];rfl⟩
    .cases h
   .cases h
  let ⟨fz,f,R⟩:=key
  let ⟨m,YB⟩:=hs.nJ R hx
  have h1:=m.len;have h2:=m.cap;simp only at h1 h2;refine⟨a,cap,by rw[h1],by omega,m.WD,λx=>?_⟩;have hpos:0<es.length:=Ni.2 x
  let ⟨b,vs,ty,hab,hfz,hh,hcs,A⟩:=m.mem (by simp only;omega)
  subst hab;have C:f=sz:=by obtain⟨d,ds,rfl⟩:=Tg x;rw[<-m.rows d (by simp),r d (by simp)]
  subst C;have hcs':cap*f<=vs.size:=hcs;have hvs:∀i j,i<es.length->j<f->i*f+j<vs.size:=λi j q l=>by have:=Lh (show i<cap by omega) l;omega
  refine⟨⟨b,0,Y⟩,λi j=>vs.getD (i*f+j) undef,rfl,?_,λi j q l=>?_,⟨by simp[rM],m.rows,λi j d c k l=>?_⟩⟩
  .by_cases z:g.bh b
   .exact .inl z
   .exact .inr ⟨o,rfl,z,.inr ⟨e,_,_,hx,rfl,rfl,by simp only;omega⟩⟩
  .rw[nL,cell?_of_block hh];have:=hvs i j q l;simp[this]
  .have q:=cw k;have F:j<f:=by rw[<-m.rows d (iq k)];exact cw l
   let ⟨u,hu,hr⟩:=A i d j c k l
   refine⟨u,?_,hr⟩;rw[Dl q F];simp[hu]
 |_=>simp[BS]at h
def sN.one(h:sN I w sz es vals)(e:0<sz)(hf:∀d∈es,d.flat=W):∀v∈vals,v.oneCell'=W:=by
 intro v f;obtain⟨k,g,rfl⟩:=rG f;have i:k<es.length*sz:=by rw[<-h.len];exact g
 have c:k/sz<es.length:=Td (by grind);have j:k%sz<sz:=Nat.mod_lt _ e;have a:=Nh c;have b:k%sz<(es[k/sz]).cells.length:=by rw[h.rows _ a];exact j
 let ⟨u,l,m⟩:=h.rel (k/sz) (k%sz) _ _ (iR c) (iR b)
 grind[Nat.div_add_mod,D.flat,wD,List.getElem_mem]
def sN.append{es':L D}{a:L Value}(h:sN I w sz es vals)(e:sN I w sz es' a):sN I w sz (es++es') (vals++a):=by
 refine⟨by simp[h.len,e.len,Nat.add_mul],λd b=>?_,λi j d c b f=>?_⟩
 .obtain b|b:=eS.1 b
  .exact h.rows d b
  .exact e.rows d b
 .rw[tq]at b;by_cases g:i<es.length
  .rw[bw g]at b
   let ⟨v,l,k⟩:=h.rel i j d c b f
   grind
  .rw[bL g]at b
   let ⟨v,l,k⟩:=e.rel (i-es.length) j d c b f
   refine⟨v,?_,k⟩;have m:es.length*sz<=i*sz:=zn _ (by omega);rw[tq,bL (by rw[h.len];omega),h.len]
   grind[Nat.sub_mul]
def sN.nil:sN I w sz [] []:=⟨by simp,by simp,λi j d c h=>by simp at h⟩
theorem sN.mono{I a:Nat->Prop}{w w':World}{sz:Nat}{es:L D}{vals:L Value}(h:sN I w sz es vals)(e:jQ I w w')(f:∀b,I b->a b):sN a w' sz es vals:=
 ⟨h.len,h.rows,λi j d c g k=>let ⟨v,l,m⟩:=h.rel i j d c g k;⟨v,l,m.mono e f⟩⟩
def Au(hs:aV g s w)(h:BS s t=Z (p,es))(x:p)(y:aH g w t v)(l:0<sz)(c:jz es sz)(hf:∀d∈es,d.flat=W)
  {n z:TypeId} (o:P.underlying n=Z (.slice z)):∃b,Src P sz n v es.length b w∧sN g.bh w sz es b∧Builtin.lenOf v=Sem.pure es.length:=by
 obtain⟨a,cap,rfl,q,A,e⟩:=s6 hs h x y l c;by_cases f:es=[]
 .subst f;refine⟨[],?_,.nil,rfl⟩;cases a with|none=>exact Src.ofNil w o cap|some r=>grind[Src.ofSlice]
 .obtain ⟨r,val,rfl,_,C,m⟩:=e f;refine⟨_,Src.ofSlice w o r es.length cap _ m.len (λk u B=>?_) (m.one l hf),m,rfl⟩;obtain⟨i,j,E,F,rfl,rfl⟩:=AA l B
  grind
def Ik(P:Program)(t a rt:TypeId)(vx vy:Value)(w:World)(R:Value->World->Prop):Prop:=
 ∃v w',(Builtin.append_ #[t,a] rt #[vx,vy]).run P w=.ok v w'∧R v w'
def By{ty f rt e k:TypeId}{j:TypeInfo}{z:Value}(l:P.underlying ty=Z (.slice e))(m:P.underlying f=Z (.slice k))(o:P.info? e=Z j)(p:j.zero=Z z)(g:0<j.bytes)
  {base:O Addr} {len cap n:Nat} {olds a:L Value} {vy:Value} (c:(Builtin.firstCells j.size len (.slice base len cap)).run P w.drew=.ok olds.toArray w.drew)
  (hs:Src P j.size f vy n a w) (q:cap<len+n) (i:Builtin.nextslicecap (len+n) cap*j.bytes<=281474976710656) :
  Ik P ty f rt (.slice base len cap) vy w λv w'=>∃b,v=.slice (Z ⟨w.heap.size,0,Y⟩) (len+n) b∧len+n<=b∧
   w'=w.drew.alloc (.cells ((olds++a).toArray++Builtin.zeroCells z.cells (b-(len+n))) e):=by
 have r:(len+n)*j.bytes<=281474976710656:=fZ (zn _ (le_nextslicecap (by omega))) i;have h:((len+n:Nat):Int)<=9223372036854775807:=by have:len+n<=(len+n)*j.bytes:=Nat.le_mul_of_pos_right _ g;omega
 have d:=run_append_grow_src (P:=P) w ty f rt e j z l o p base len cap olds c vy n a hs q h i;exact⟨_,_,d,_,rfl,grownCap_ge w (len+n) cap e,rfl⟩
def HM{ty b rt e:TypeId}{j:TypeInfo}(d:P.underlying ty=Z (.slice e))(f:P.info? e=Z j){base:O Addr}{len cap:Nat}{vy:Value}(hs:Src P j.size b vy 0 [] w)(a:len<=cap) :
  (Builtin.append_ #[ty,b] rt #[.slice base len cap,vy]).run P w=.ok (.slice base len cap) w:=by
 obtain⟨g,c⟩|c:=hs.kind<;>cases base<;>
  simp[Builtin.append_,aJ d,aJ c,dn f,hs.len,a,hs.cells,storeCells]
end
end
section
section
variable {P:Program}{g:Gh}{w:World}
variable {o:Obj}{w':World}{sz cap n sL bt:Nat}{es:List D}{vals:List Value}
def FQ(a:w'.heap=w.heap.push o)(b:Nat)(c:b<w.heap.size):w'.heap[b]?=w.heap[b]?:=by rw[a,Array.getElem?_push,bL (by omega)]
def NF(a:w'.heap=w.heap.push o):w'.heap[w.heap.size]?=Z o:=by rw[a];simp
def Ub{g':Gh}(a:g'.bh=g.bh)(hi:∀b,g.bh b->b<w.heap.size){m:Array Value}{e:TypeId}
  (n:w'.heap=w.heap.push (.cells (vals.toArray++m) e)) (f:sN g.bh w sz es vals) (p:0<sz) (k:m.size=(cap-es.length)*sz) (q:es.length<=cap) (r:es≠[])
  (l:∀d∈es,es.length*d.sL<=281474976710656):xC g' w' J sz es ⟨Z ⟨w.heap.size,0,Y⟩,es.length,cap,sz⟩:=by
 have s:jQ g.bh w w':=λb o=>FQ n b (hi b o);refine⟨rfl,q,f.rows,p,l,λ_=>⟨w.heap.size,_,e,rfl,⟨λh=>(by cases h),λh=>?_⟩,NF n,?_,λi d j c t u=>?_⟩⟩
 .rw[a]at h
  grind
 .simp[Array.size_append,Tc,f.len,k];rw[<-Nat.add_mul]
  simp_all
 .let ⟨v,x,y⟩:=f.rel i j d c t u
  refine⟨v,?_,y.mono s (λb o=>by grind)⟩
  grind
def xM{len:Nat}{base:O Addr}{olds:L Value}(hl:olds.length=len*sz)(h:len≠0->∃ad,base=Z ad∧∀k u,olds[k]?=Z u->w.cell? (ad.add k)=Z u) :
  (Builtin.firstCells sz len (.slice base len cap)).run P w.drew=.ok olds.toArray w.drew:=by
 by_cases a:len=0
 .subst a;have:olds=[]:=Eg (by simpa using hl);subst this;cases base with|none=>rfl|some ad=>grind[run_firstCells_some]
 .obtain ⟨ad,rfl,b⟩:=h a
  grind[run_firstCells_some,World.cell?_drew]
theorem Ik.mono{t a rt:TypeId}{vx vy:Value}{R b:Value->World->Prop}(h:Ik P t a rt vx vy w R)(c:∀v w',R v w'->b v w'):Ik P t a rt vx vy w b:=by
 let ⟨v,w',h1,h2⟩:=h
 exact⟨v,w',h1,c _ _ h2⟩
def sN.V2{I:Nat->Prop}(h:sN I w sz es vals){b:Nat}{ty:TypeId}{fz:Nat×Nat}{cells:Array Value}(o:w.heap[b]?=Z (.cells cells ty fz))(p:I b)
  (f:∀(k:Nat)(v:Value),vals[k]?=Z v->cells[k]?=Z v) {cap:Nat} (a:es.length<=cap) (m:∀d∈es,es.length*d.sL<=281474976710656):dH I w (.sl es) (.slice (Z ⟨b,0,Y⟩) es.length cap):=by
 have n:∀q:Nat×Nat,∃v,∀d c,es[q.1]?=Z d->d.cells[q.2]?=Z c->cells[q.1*sz+q.2]?=Z v∧dH I w c v:=by
  rintro⟨i,j⟩
  by_cases r:i<es.length
  .by_cases g:j<(es[i]).cells.length
   .let ⟨v,t,u⟩:=h.rel i j _ _ (iR r) (iR g)
    refine⟨v,λd c l s=>?_⟩
    grind
   .refine ⟨undef,λd c l s=>?_⟩
    simp_all
  simp_all
 let ⟨val,e⟩:=U0 n
 refine .sl es _ cap sz (λi j=>val (i,j)) a h.rows m (λ_=>⟨_,rfl,p,λi j d c l g=>?_⟩) (λi j d c l g=>(e (i,j) d c l g).2);rw[nL,cell?_of_block o]
 simp_all
def GS(hf:n<=17179869184)(a:sL<=4096)(b:cap<n):Builtin.nextslicecap n cap*sL<=281474976710656:=by have h1:=nextslicecap_le b;have:Builtin.nextslicecap n cap*sL<=(2*17179869184)*4096:=Np (by omega) a;omega
def Lt(hf:n<=17179869184)(a:sL<=4096)(h:bt<=2*sL):n*bt<=281474976710656:=by have:n*bt<=17179869184*8192:=Np hf (by omega);omega
def DZ{ty tx rt e e':TypeId}{l:TypeInfo}{z:Value}(DJ:P.underlying ty=Z (.slice e))(hu2:P.underlying tx=Z (.slice e'))(hji:P.info? e=Z l)(hjz:l.zero=Z z)(hzs:z.cells.size=l.size)(h0:0<l.size)
  (hb0:0<l.bytes) (Rg:l.bytes<=4096) (pR:bt<=2*l.bytes) (hI:∀b,g.bh b->b<w.heap.size) {es new:L D} {f:L Value} {x:eY} {vy:Value}
  (m:xC g w J l.size es x) (apL:∀b,x.at b->b<w.heap.size) (R:∀d∈iB es new,d.sL=bt) (r:jz new l.size)
  (p:Src P l.size tx vy new.length f w) (hv:sN g.bh w l.size new f) (s:D.TQ es new)
  (hy:new≠[]->∃t cy,vy=.slice (Z t) new.length cy∧¬x.at t.block∧∀k,k<new.length*l.size->(w.cell? (t.add k)).isSome=W) :
  Ik P ty tx rt (.slice x.a x.len x.cap) vy w λv w'=>∃x',Uq g w l.size (iB es new) x v w' x':=by
 let ⟨a,len,cap,xsz⟩:=x
 have hl1:=m.len;have hl2:=m.cap;simp only at hl1 hl2;subst hl1;by_cases E:new=[]
 .subst E;have Q9:f=[]:=Eg (by simpa using hv.len);subst Q9;have acO:iB es []=es:=jB es;rw[acO];exact⟨_,_,HM (P:=P) DJ hji p hl2,⟨a,es.length,cap,l.size⟩,rfl,rfl,rfl,rfl,eM _,λ_ _ _=>rfl,λb hb=>⟨apL b hb,.inr hb⟩,⟨m.len,m.cap,m.rows,m.pos,m.WD,m.mem⟩⟩
 .have hpos:0<new.length:=Ni.2 E;obtain⟨t,cy,rfl,TE,hyc⟩:=hy E;by_cases n:es.length+new.length<=cap
  ·
   let ⟨b,C,F,I,hfz,hh,hcs,o⟩:=m.mem (by grind)
   simp only at I hcs;subst I;have aek:¬g.bh b:=λTK=>Bool.noConfusion (hfz.2 TK);have hnl:f.length=new.length*l.size:=hv.len;have hfit:es.length*l.size+f.length<=C.size:=by
    have:(es.length+new.length)*l.size<=cap*l.size:=zn _ n
    grind
   have hst:=run_storeCells_at (P:=P) b (0+es.length*l.size) F f 0 C w hh (by omega) p.one;simp only[Nat.add_zero,BW]at hst;have hrun:(Builtin.append_ #[ty,tx] rt #[.slice (Z ⟨b,0,Y⟩) es.length cap,.slice (Z t) new.length cy]).run P w=
     .ok (.slice (Z ⟨b,0,Y⟩) (es.length+new.length) cap) (w.setRow b (C.toList.take (es.length*l.size)++f++C.toList.drop (es.length*l.size+f.length)).toArray):=by
    simp[Builtin.append_,aJ DJ,aJ hu2,dn hji,p.len,n,p.cells,nL,hst]
   have hk:jQ g.bh w (w.setRow b (C.toList.take (es.length*l.size)++f++C.toList.drop (es.length*l.size+f.length)).toArray):=
    λb' y=>setRow_other w b b' _ (λe=>aek (e▸y))
   have zG:(⟨Z ⟨b,0,Y⟩,es.length,cap,xsz⟩:eY).at b:=⟨_,rfl,rfl,by grind⟩;refine⟨_,_,hrun,⟨Z ⟨b,0,Y⟩,es.length+new.length,cap,l.size⟩,rfl,rfl,rfl,rfl,by simp,λb' _ y=>setRow_other w b b' _ (λe=>y (e▸zG)),λb' y=>?_,
    ⟨by simp[iB],n,λd hd=>(by
      obtain hd|hd:=eS.1 hd
      .exact m.rows d hd
      .exact r d hd),h0,λd hd=>(by
      rw[R d hd];exact Lt (by simpa[iB,D.TQ]using s) Rg pR),λ_=>⟨b,_,F,rfl,hfz,setRow_heap w b C _ F _ hh,(by
       grind),λi d j c hd hj=>(by
       have yw:j<l.size:=by
        have hrw:d.cells.length=l.size:=by
         obtain hd|hd:=eS.1 (iq hd)
         .exact m.rows d hd
         .exact r d hd
        grind
       unfold iB at hd;rw[tq]at hd;by_cases hi:i<es.length
       .rw[bw hi]at hd
        let ⟨v,K,hr⟩:=o i d j c hd hj
        refine⟨v,?_,hr.mono hk (λ_ h=>h)⟩;have:=Lh hi yw
        grind
       .rw[bL hi]at hd
        let ⟨v,K,hr⟩:=hv.rel _ j d c hd hj
        refine⟨v,?_,hr.mono hk (λ_ h=>h)⟩;have hlt:=cw K;have hge:es.length*l.size<=i*l.size:=zn _ (by omega);rw[Nat.sub_mul]at K hlt;rw[Te,tq,bw (by simp;omega),tq,bL (by simp;omega)]
        grind)⟩⟩⟩
   let ⟨ad,k1,k2,k3⟩:=y
   simp at k1;subst k1
   simp_all
  ·
   have A:∃olds,sN g.bh w l.size es olds∧(es.length≠0->∃ad,a=Z ad∧∀k u,olds[k]?=Z u->w.cell? (ad.add k)=Z u):=by
    by_cases hes:es=[]
    .subst hes;exact⟨[],.nil,λh=>absurd rfl h⟩
    .have hepos:0<es.length:=Ni.2 hes
     let ⟨b,C,F,I,hfz,hh,hcs,o⟩:=m.mem (by grind)
     subst I;have hle:es.length*l.size<=C.size:=fZ (zn _ hl2) hcs;refine⟨C.toList.take (es.length*l.size),⟨by simp;omega,m.rows,λi j d c hd hj=>?_⟩,λ_=>⟨_,rfl,λk u hu=>?_⟩⟩
     .let ⟨v,K,hr⟩:=o i d j c hd hj
      refine⟨v,?_,hr⟩;have yw:j<l.size:=by rw[<-m.rows d (iq hd)];grind
      simp_all[UX,Lh,cw]
     .rw[nL,cell?_of_block hh]
      grind
   let ⟨olds,hvo,A⟩:=A
   refine(By (P:=P) DJ hu2 hji hjz hb0 (olds:=olds) (xM hvo.len A) p (Nat.lt_of_not_le n) (GS s Rg (Nat.lt_of_not_le n))).mono ?_
   rintro v w' ⟨q,rfl,hc,rfl⟩
   have afV:(Builtin.zeroCells z.cells (q-(es.length+new.length))).size=(q-(es.length+new.length))*l.size:=by simp[Builtin.zeroCells,hzs]
   have B:(es++new).length=es.length+new.length:=mG;have S:=Ub (g:=g) (w:=w) (g':=g) rfl hI
    (w':=w.drew.alloc (.cells ((olds++f).toArray++Builtin.zeroCells z.cells (q-(es.length+new.length))) e)) rfl (hvo.append hv) h0 (by rw[B];exact afV) (by omega)
    (λhh=>E (List.append_eq_nil_iff.1 hh).2) (λd hd=>by
     rw[R d hd];exact Lt (by simpa[D.TQ]using s) Rg pR)
   rw[B]at S;refine⟨⟨Z ⟨w.heap.size,0,Y⟩,es.length+new.length,q,l.size⟩,rfl,rfl,rfl,rfl,by simp_all,λb hb _=>FQ rfl b hb,λb hb=>?_,S⟩
   let ⟨ad,k1,k2,_⟩:=hb
   simp at k1;subst k1
   simp_all
def yX{ty tx rt:TypeId}{i j:TI}(hi:m7 P ty i)(hj:m7 P tx j)(hjk:∃a b c d,j.kd=.slice a b c d){s s':St}(hs:aV g s w){x y:T}{vx vy:Value}{p:Prop}{t:T}
  (h:u0 i s x y=Z (p,t,s')) (R:p) (hx:aH g w x vx) (hy:aH g w y vy) :
  Ik P ty tx rt vx vy w λv w'=>∃g',aV g' s' w'∧Ext s.fl g w g' w'∧aH g' w' t v:=by
 let ⟨_,d1,_,_,S,_,_,_,_,Oc⟩:=hi.all
 let ⟨_,d2,_,_,E,_,_,_,_,hk2⟩:=hj.all
 let ⟨_,_,_,_,hjk⟩:=hjk
 rw[hjk]at hk2;obtain⟨e',_,_,_,rfl,_⟩:=hk2;unfold u0 at h;obtain⟨_,h⟩|⟨hnb,h⟩:=af h
 .cases h
 have hn:s.aE<bC:=by
  simp_all
 split at h
 .rename_i sz ag bt zero q new vV GG;rw[vV]at Oc;obtain⟨e,ji,d',z,rfl,hji,yw,_,_,hjz,Cq,Rg,h0,Ag,pR,hb0,hzl⟩:=Oc;have hzs:z.cells.size=sz:=by rw[<-Cq.1,hzl]
  subst yw;have abP:∀{es:L D}{vals:L Value}{cap:Nat}{v:Value}{w':World},sN g.bh w ji.size es vals->es≠[]->vL es bt->v=.slice (Z ⟨w.heap.size,0,Y⟩) es.length cap->es.length<=cap->(∀d∈es,es.length*d.sL<=281474976710656)->
    w'=w.drew.alloc (.cells (vals.toArray++Builtin.zeroCells z.cells (cap-es.length)) e)->∃g',aV g' (eg s (.arr ji.size es 0)).2 w'∧Ext s.fl g w g' w'∧aH g' w' (.sh s.aE 0) v:=by
   intro es vals cap v w' hv r l hve hc hby hw;subst hw;subst hve;have afV:(Builtin.zeroCells z.cells (cap-es.length)).size=(cap-es.length)*ji.size:=by simp[Builtin.zeroCells,hzs]
   have hok:=Ub (g:=g) (w:=w) (g':=g.era s.aE 0 ⟨Z ⟨w.heap.size,0,Y⟩,es.length,cap,ji.size⟩) rfl hs.bh (w':=w.drew.alloc (.cells (vals.toArray++Builtin.zeroCells z.cells (cap-es.length)) e)) rfl hv h0 afV hc r hby
   let ⟨F,he⟩:=hs.QM hn (w':=w.drew.alloc (.cells (vals.toArray++Builtin.zeroCells z.cells (cap-es.length)) e)) rfl rfl (by simp_all) (λb hb=>FQ rfl b hb)
    (x:=⟨Z ⟨w.heap.size,0,Y⟩,es.length,cap,ji.size⟩) (λb hb=>by
     let ⟨ad,h1,h2,_⟩:=hb
     simp at h1;subst h1
     simp_all) hok rfl
   exact⟨_,F,he,.sh _ _ _ _ _ _ (Gh.fE _ _ _ _)⟩
  cases hx with
  |emp a=>
   obtain⟨rfl,rfl,rfl⟩:=h
   let ⟨hq,f,l⟩:=R
   let ⟨C,n,hv,hlen⟩:=Au hs GG hq hy h0 f (λd B=>(l d B).2) E
   by_cases r:new=[]
   .subst r;have Q9:C=[]:=Eg (by simpa using hv.len);subst Q9
    let ⟨F,he⟩:=hs.QM hn (w':=w) (sz:=ji.size) (es:=[]) (x:=⟨a,0,0,ji.size⟩) rfl rfl (eM _) (λb hb=>rfl) (λb hb=>by
     let ⟨_,_,_,h⟩:=hb
     grind) ⟨rfl,eM _,by simp,h0,by simp,λh=>absurd rfl h⟩ rfl
    exact⟨_,_,HM (P:=P) S hji n (eM _),_,F,he,.sh _ _ _ _ _ _ (Gh.fE _ _ _ _)⟩
   .have hpos:0<new.length:=Ni.2 r
    let ⟨_,_,_,_,hby,_⟩:=s6 hs GG hq hy h0 f
    have hfit:Builtin.nextslicecap (0+new.length) 0*ji.bytes<=281474976710656:=by rw[BW,nextslicecap_zero hpos];obtain⟨d,ds,rfl⟩:=Tg r;have:=hby d (by simp);rw[(l d (by simp)).1]at this;exact fZ (Nat.mul_le_mul_left _ Ag) this
    refine(By (P:=P) S E hji hjz hb0 (olds:=[]) (xM (by simp) (λh=>absurd rfl h)) n (by omega) hfit).mono ?_
    simp_all
  |kr m es a hm B=>
   have hes:jz (iB es new) ji.size->∃olds,sN g.bh w ji.size es olds∧(es.length≠0->∃ad,a=Z ad∧∀k u,olds[k]?=Z u->w.cell? (ad.add k)=Z u):=by
    intro f
    let ⟨a',K,he,_,_,TF⟩:=s6 (s:=s) (t:=.kr m es) (p:=True) (es:=es) hs rfl trivial (.kr m es a hm B) h0 (λd B=>f d (fL _ B))
    obtain⟨rfl,_,_⟩:=he;by_cases r:es=[]
    .subst r;exact⟨[],.nil,λh=>absurd rfl h⟩
    .obtain ⟨ad,val,rfl,_,hc,hv⟩:=TF r;refine⟨_,hv,λ_=>⟨ad,rfl,λk u hu=>?_⟩⟩;obtain⟨i,j,hi,hj,rfl,rfl⟩:=AA h0 hu
     grind
   dsimp only at h;split at h
   .rename_i k es2;obtain⟨rfl,rfl,rfl⟩:=h
    let ⟨hq,f,l,A⟩:=R
    let ⟨C,n,hv,hlen⟩:=Au hs GG hq hy h0 (λd B=>f d (eP _ B)) (λd B=>(l d (eP _ B)).2) E
    let ⟨olds,hvo,hold⟩:=hes f
    have hpos:0<new.length:=by
     cases hy with
     |kr _ _ _ hk _=>
     grind[BS]
    refine(By (P:=P) S E hji hjz hb0 (olds:=olds) (xM hvo.len hold) n (by omega) (GS A Rg (by omega))).mono ?_
    rintro v w' ⟨K,rfl,hc,rfl⟩
    have I:(iB es new).length=es.length+new.length:=mG;exact abP (es:=iB es new) (hvo.append hv) (λhh=>by
     grind) l (by rw[I]) (by omega) (λd B=>by rw[(l d B).1,I];exact Lt A Rg pR) (by rw[I])
   .obtain ⟨rfl,rfl,rfl⟩:=h
    let ⟨hq,f,l,A⟩:=R
    let ⟨C,n,hv,hlen⟩:=Au hs GG hq hy h0 (λd B=>f d (eP _ B)) (λd B=>(l d (eP _ B)).2) E
    let ⟨olds,hvo,hold⟩:=hes f
    by_cases r:new=[]
    .subst r;have Q9:C=[]:=Eg (by simpa using hv.len);subst Q9;refine⟨_,_,HM (P:=P) S hji n (eM _),g,hs,Ext.refl _ _ _,.sym _ _ ?_⟩
     grind[iB]
    .have hpos:0<new.length:=Ni.2 r;refine(By (P:=P) S E hji hjz hb0 (olds:=olds) (xM hvo.len hold) n (by omega) (GS A Rg (by omega))).mono ?_
     rintro v w' ⟨K,rfl,hc,rfl⟩
     let ⟨F,he⟩:=hs.X2 (w':=w.drew.alloc (.cells ((olds++C).toArray++Builtin.zeroCells z.cells (K-(es.length+new.length))) e)) _ rfl rfl rfl
     refine⟨_,F,he,.sym _ _ ?_⟩;have hvv:=(hvo.append hv).mono (he.keeps hs.bh) he.bh;have:=hvv.V2 (b:=w.heap.size) (NF (w:=w) rfl) (.inr rfl) (λk v hk=>by
      grind) (cap:=K) (by simp_all) (λd B=>by
       rw[(l d B).1,mG];exact Lt A Rg pR)
     rw[mG]at this;exact this
  |sh o e2 len cap sz2 a hxa=>
   dsimp only at h;split at h
   .rename_i ho;obtain⟨hb,h9⟩|⟨_,h9⟩:=af h
    .simp only[eZ]at hb
     let ⟨⟨⟨hfl,hee⟩,hzz⟩,hno⟩:=hb
     have hfl:=gN hfl;have hee:=beq_iff'.1 hee;have hzz:=beq_iff'.1 hzz;subst hee;subst hzz;simp only[gK,fh]at h9;obtain⟨rfl,rfl,rfl⟩:=h9
     let ⟨hq,f,l,A⟩:=R
     let ⟨hok,YB⟩:=hs.nJ (fz:=J) ho hxa
     simp only at YB;subst YB
     let ⟨C,n,hv,hlen⟩:=Au hs GG hq hy h0 f (λd B=>(l d (eP _ B)).2) E
     obtain⟨ay,cy,rfl,_,apJ,Q4⟩:=s6 hs GG hq hy h0 f;have hlt:=(hs.arr o e2 _ hxa).1;refine(DZ (rt:=rt) S E hji hjz hzs h0 hb0 Rg pR hs.bh hok (λb hb=>?_) (λd B=>(l d B).1) f n hv A (λr=>?_)).mono ?_
     .let ⟨ad,k1,k2,k3⟩:=hb
      simp_all
     .obtain ⟨ady,ank,rfl,TE,hyc,_⟩:=Q4 r;refine⟨ady,cy,rfl,λzG=>?_,λk hk=>?_⟩
      .have hown:bz g o ady.block:=by
        let ⟨ad,k1,k2,k3⟩:=zG
        let ⟨b,vs,ety,hab,hfz,_⟩:=hok.mem k3
        rw[k1]at hab;cases hab;simp only at k2;exact⟨λTK=>Bool.noConfusion (hfz.2 (k2▸TK)),.inr ⟨e2,_,_,hxa,k1,k2,k3⟩⟩
       obtain TK|⟨o',ho',hO⟩:=TE
       .exact hown.1 TK
       .have:=hs.jS o o' _ hown hO
        simp_all
      .have h1:=hyc (k/ji.size) (k%ji.size) (Td (by grind)) (Nat.mod_lt _ h0)
       grind[Nat.div_add_mod]
     .rintro v w' ⟨x',R⟩
      let ⟨F,he⟩:=hs.ak7 ho hxa hfl R.os R.output R.size R.heap R.at_ (R.ok.j8 rfl) R.sz
      have:=R.val;subst this;exact⟨_,F,he,.sh _ _ _ _ x'.sz _ (Gh.fE _ _ _ _)⟩
    .cases h9
   .cases h
  |_=>simp at h
 .cases h
end
end
section
def al9(fl:Nat)(g:Gh)(w:World)(t:T)(s':St)(r:Result Next):Prop:=
 ∃v w' g',(r=.ok (.value v) w'∨(r=.ok .skip w'∧v=undef))∧aV g' s' w'∧Ext fl g w g' w'∧aH g' w' t v
section
variable {P:Program}{g:Gh}{w:World}
variable {s s':St}{t x:T}{os:List Nat}{i:TI}{l h m:Option T}{p:Prop}
def dP{v:Value}{r:Result Next}(hs:aV g s w)(a:r=.ok (.value v) w)(b:aH g w t v)(c:s'=s):al9 s.fl g w t s' r:=
 ⟨v,w,g,.inl a,c▸hs,Ext.refl _ _ _,b⟩
def rY:∀{os:L Nat}{s s':St},freeze s os=Z s'->s'.lo=s.lo∧s'.fl=s.fl∧s'.aE=s.aE
 |[],s,s',h=>by simp[freeze,gK]at h;rw[h];exact⟨rfl,rfl,rfl⟩
 |o::os,s,s',h=>by obtain⟨_,⟨_,_,_,_,h⟩|⟨_,_,_,_,h⟩|⟨_,h⟩|⟨_,_,_,_,_,_,_,_,_,_,_,_,_,h⟩⟩:=wN h<;>(have:=rY h;exact this)
def Ct(h:freeze s os=Z s'):s'.lo=s.lo:=(rY h).1
def VQ(h:freeze s os=Z s'):s'.fl=s.fl:=(rY h).2.1
def Rk(h:freeze s os=Z s'):s'.aE=s.aE:=(rY h).2.2
def UE(a:qx i s x l h m=Z (p,t,s')):s'=s∨freeze s (tF x)=Z s':=by
 unfold qx at a
 repeat' split at a
 all_goals first
  |(cases a;done)
  |(
    simp only[fM,gK,fh]at a;first
     |(obtain⟨_,_,_,_,rfl⟩:=a;first|exact .inl rfl|(right;assumption))
     |(obtain⟨_,_,rfl⟩:=a;first|exact .inl rfl|(right;assumption)))
def UF(a:qx i s x l h m=Z (p,t,s')):s'.lo=s.lo:=by
 obtain rfl|h:=UE a
 .rfl
 .exact Ct h
structure BC(E:Env):Prop where
 ti:∀k i,E.ti k=Z i->m7 E.P k i
 TO:∀f fn,E.TO f=Z fn->E.P.funcs[f]?=Z fn
def nC{E:Env}(R:BC E){fr:Fr}{a:Act}(hf:cR g fr a w)(hs:aV g s w)(o:Oper)(h:oE E fr s o.op=Z (p,t,s'))(S:p) :
  al9 s.fl g w t s' ((execOp a.eval o).run E.P w)∧s'.fl=s.fl∧s'.lo=s.lo∧s.aE<=s'.aE:=by
 cases A:o.op with
 |move x=>rw[A]at h;simp only[oE,fM,fh]at h;obtain⟨t',F,_,rfl,rfl⟩:=h;exact⟨dP hs (by simp[execOp,A]) (bR hf F) rfl,rfl,rfl,eM _⟩
 |assign x=>rw[A]at h;simp only[oE,fM,fh]at h;obtain⟨t',F,_,rfl,rfl⟩:=h;exact⟨dP hs (by simp[execOp,A]) (bR hf F) rfl,rfl,rfl,eM _⟩
 |pick c x y=>
  rw[A]at h;simp[oE]at h;split at h
  .rename_i hc hx hy;simp only[fM,fh]at h;obtain⟨⟨q,u⟩,hu,rfl,rfl,rfl⟩:=h
   let ⟨b,hb,F⟩:=NK hu S (bR hf hc) (bR hf hx) (bR hf hy)
   exact⟨dP hs (by simp[execOp,A,hb,asBool]) F rfl,rfl,rfl,eM _⟩
  .cases h
 |alloc ty=>
  rw[A]at h;simp[oE]at h;split at h
  .rename_i i I;obtain⟨hn,h⟩|⟨_,h⟩:=af h
   .obtain ⟨_,rfl,rfl⟩:=h;have hn':s.aE<bC:=gN hn
    let ⟨xi,d,z,N7,_,_,_,hz,Cq,_⟩:=(R.ti _ _ I).all
    let ⟨z1,z2⟩:=sZ (g:=g) (w:=w) Cq
    let ⟨K,he⟩:=hs.dD hn' ty z1 z2
    refine⟨⟨_,_,_,.inl ?_,K,he,.ptr s.aE 0 w.heap.size (by simp[Gh.dD])⟩,rfl,rfl,by simp[eg]⟩;simp[execOp,A,Instr.alloc,ej N7 hz,newVar,newRow]
   .cases h
  .cases h
 |box ty x=>
  rw[A]at h;simp[oE]at h;split at h
  .rename_i i v I B;obtain⟨hn,h⟩|⟨_,h⟩:=af h
   .simp only[fM,fh]at h;obtain⟨⟨q,cs⟩,hc,rfl,rfl,rfl⟩:=h;have hn':s.aE<bC:=gN hn
    let ⟨h1,h2,h3,_⟩:=mQ hc S (bR hf B)
    let ⟨K,he⟩:=hs.dD hn' ty (cs:=cs) (vs:=(a.eval x).cells) (by rw[h1,h2]) h3
    refine⟨⟨_,_,_,.inl ?_,K,he,.ptr s.aE 0 w.heap.size (by simp[Gh.dD])⟩,rfl,rfl,by simp[eg]⟩;simp[execOp,A,Instr.box,newVar,newRow]
   .cases h
  .cases h
 |build ty parts=>
  rw[A]at h;simp[oE]at h;split at h
  .rename_i i ps I hps;split at h
   .rename_i hk;simp only[fM,fh]at h;obtain⟨⟨q,cs⟩,hc,rfl,rfl,rfl⟩:=h;have oL:=pJ hf hps
    let ⟨v,B,F⟩:=O0 (w:=w) (g:=g) (R.ti _ _ I) hk (vs:=parts.map λ(i,x)=>(i,a.eval x)) (by simpa using oL) hc S
    exact⟨dP hs (by simp[execOp,A,B]) F rfl,rfl,rfl,eM _⟩
   .cases h
  .cases h
 |buildSlice ty len parts=>
  rw[A]at h;simp only[oE]at h;split at h
  .rename_i i ps I hps;split at h
   .rename_i hk;obtain⟨hb,h⟩|⟨_,h⟩:=af h
    .split at h
     .rename_i q es os hel;simp only[fM,fh]at h;obtain⟨s1,hfz,rfl,rfl,rfl⟩:=h;have oL:=pJ hf hps;rw[zm]at hb
      let ⟨Ag,pR⟩:=hb
      rw[zm]at pR
      let ⟨pR,Rh⟩:=pR
      rw[zm]at Rh
      let ⟨Rh,Rg⟩:=Rh
      let ⟨w',g',v,hrun,K,he,F,hfl,acD⟩:=CP (R.ti _ _ I) hs hk Ag (beq_iff'.1 pR) (λe=>by
       rw[e]at Rh;cases Rh) (gN Rg) (vs:=parts.map λ(i,x)=>(i,a.eval x)) (by simpa using oL) hel S hfz
      exact⟨⟨v,w',g',.inl (by simp[execOp,A,hrun]),K,he,F⟩,hfl,Ct hfz,by omega⟩
     .cases h
    .cases h
   .cases h
  .cases h
 |load ty x=>
  rw[A]at h;simp[oE]at h;split at h
  .rename_i i v I B;obtain⟨u,hu,F,rfl⟩:=DE (R.ti _ _ I) hs (bR hf B) h S;exact⟨dP hs (by simp[execOp,A,hu]) F rfl,rfl,rfl,eM _⟩
  .cases h
 |store ty x y=>
  rw[A]at h;simp[oE]at h;split at h
  .rename_i i v u I B hu;obtain⟨w',g',hrun,K,he,rfl⟩:=Kq (R.ti _ _ I) hs (bR hf B) (bR hf hu) h S;refine⟨⟨undef,w',g',.inr ⟨by simp[execOp,A,hrun],rfl⟩,K,he,.sym _ _ (.lit _)⟩,?_⟩;unfold storeT at h;split at h
   .cases h
   .split at h
    .split at h
     .obtain ⟨_,h⟩|⟨_,h⟩:=af h
      .obtain ⟨_,_,rfl⟩:=h;exact⟨rfl,rfl,eM _⟩
      .cases h
     .cases h
    .split at h
     .split at h
      .rename_i hfz;split at h
       .obtain ⟨_,h⟩|⟨_,h⟩:=af h
        .obtain ⟨_,_,rfl⟩:=h;have e1:=VQ hfz;have e2:=Ct hfz;have e3:=Rk hfz;exact⟨e1,e2,Ds e3.symm⟩
        .cases h
       .cases h
      .cases h
     .cases h
    .cases h
  .cases h
 |nilCheck x=>
  rw[A]at h;simp[oE]at h;have hx:=λ{t}(e:jZ fr x=Z t)=>bR hf e;split at h;all_goals try(cases h;done)
  all_goals
   rename_i hxe;have C:=hx hxe;simp only[gK,fh]at h;obtain⟨rfl,rfl,rfl⟩:=h
  .generalize B:a.eval x=v at C;cases C with|ptr _ _ b hb=>exact⟨dP hs (by simp[execOp,A,B]) (.ptr _ _ b hb) rfl,rfl,rfl,eM _⟩
  .generalize B:a.eval x=v at C;cases C with|lR _ _ ad val h1 h2 h3=>exact⟨dP hs (by simp[execOp,A,B]) (.lR _ _ ad val h1 h2 h3) rfl,rfl,rfl,eM _⟩
  .generalize B:a.eval x=v at C;cases C with|lQ _ _ _ _ _ _ _ _ h1=>exact⟨dP hs (by simp[execOp,A,B]) (.lQ _ _ _ _ _ _ _ _ h1) rfl,rfl,rfl,eM _⟩
  .generalize B:a.eval x=v at C;cases C with|de _ _ _ h1=>exact⟨dP hs (by simp[execOp,A,B]) (.de _ _ _ h1) rfl,rfl,rfl,eM _⟩
  .generalize B:a.eval x=v at C;cases C with|fn _ _ _ _ _ h1 h2 h3 h4=>exact⟨dP hs (by simp[execOp,A,B]) (.fn _ _ _ _ _ h1 h2 h3 h4) rfl,rfl,rfl,eM _⟩
  .generalize B:a.eval x=v at C;cases C with
   |sym d _ hd=>
    cases hd with|de _ _ _ h1=>exact⟨dP hs (by simp[execOp,A,B]) (.sym _ _ (.de _ _ _ h1)) rfl,rfl,rfl,eM _⟩|_=>cases S
 |binOp op ty x y yt=>
  rw[A]at h;simp[oE]at h;split at h
  .rename_i i u v I hu B;simp only[fM,fh]at h;obtain⟨⟨q,d⟩,hb,rfl,rfl,rfl⟩:=h
   let ⟨r,C,F⟩:=RH (R.ti _ _ I) hb S (bR hf hu) (bR hf B) x y
   refine⟨dP hs ?_ F rfl,rfl,rfl,eM _⟩;simp at C;simp only[execOp,A,run_bind];rw[C];rfl
  .cases h
 |unOp op ty x=>
  rw[A]at h;simp[oE]at h;split at h
  .rename_i i u I hu;simp only[fM,fh]at h;obtain⟨⟨q,d⟩,hb,rfl,rfl,rfl⟩:=h
   let ⟨r,C,F⟩:=Uu (P:=E.P) hb S (bR hf hu)
   exact⟨dP hs (by simp[execOp,A,C]) F rfl,rfl,rfl,eM _⟩
  .cases h
 |convert src dst x=>
  rw[A]at h;simp[oE]at h;split at h
  .rename_i i j u I hj hu;obtain⟨r,C,F,rfl⟩:=OQ (R.ti _ _ I) (R.ti _ _ hj) h S (bR hf hu);exact⟨dP hs (by simp[execOp,A,C]) F rfl,rfl,rfl,eM _⟩
  .cases h
 |makeInterface ty x=>
  rw[A]at h;simp[oE]at h;split at h
  .rename_i i v I B;have VD:=R.ti _ _ I
   let ⟨xi,d,z,N7,hu,_⟩:=VD.all
   split at h
   .cases h
   .rename_i hk;simp only[gK,fh]at h;obtain⟨rfl,rfl,rfl⟩:=h;refine⟨dP hs (v:=.iface ty (a.eval x)) ?_ (.de _ _ _ (bR hf B)) rfl,rfl,rfl,eM _⟩;have hni:∀ms,d≠.interface ms:=λms e=>hk (VD.nif ms (e▸hu));simp only[execOp,A,Instr.makeInterface,run_bind,aJ hu,andThen_ok];cases d<;>first|rfl|exact absurd rfl (hni _)
  .cases h
 |makeFunc f first cap=>
  rw[A]at h;simp[oE]at h;split at h
  .rename_i hx hy;obtain⟨rfl,rfl,rfl⟩:=h;have h1:=eT hf hx;have h2:=eT hf hy;refine⟨dP hs (v:=.func f (first.map a.eval) (cap.map a.eval)) (by simp[execOp,A,Instr.makeFunc]) (.fn _ _ _ _ _ (by simpa using h1.1) (by simpa using h2.1) (λj t v k1 k2=>h1.2 j t v k1 (by simpa using k2)) (λj t v k1 k2=>h2.2 j t v k1 (by simpa using k2))) rfl,rfl,rfl,eM _⟩
  .cases h
 |extract x k=>
  rw[A]at h;simp[oE]at h;split at h
  .rename_i v B;obtain⟨r,C,F,rfl⟩:=GV (P:=E.P) h S (bR hf B);exact⟨dP hs (by simp[execOp,A,C]) F rfl,rfl,rfl,eM _⟩
  .cases h
 |fieldAddr ty x k=>
  rw[A]at h;simp[oE]at h;split at h
  .rename_i i v I B;obtain⟨r,C,F,rfl⟩:=Cy (R.ti _ _ I) h (bR hf B);exact⟨dP hs (by simp[execOp,A,C]) F rfl,rfl,rfl,eM _⟩
  .cases h
 |field ty x k=>
  rw[A]at h;simp[oE]at h;split at h
  .rename_i i v I B;obtain⟨r,C,F,rfl⟩:=Ls (R.ti _ _ I) h S (bR hf B);exact⟨dP hs (by simp[execOp,A,C]) F rfl,rfl,rfl,eM _⟩
  .cases h
 |indexAddr ty x ix=>
  rw[A]at h;simp[oE]at h;split at h
  .rename_i i v n I B hn;obtain⟨r,C,F,rfl⟩:=Co (R.ti _ _ I) hs h S (bR hf B) (bR hf hn);exact⟨dP hs (by simp[execOp,A,C]) F rfl,rfl,rfl,eM _⟩
  .cases h
 |index ty x ix=>
  rw[A]at h;simp[oE]at h;split at h
  .rename_i i v n I B hn;obtain⟨r,C,F,rfl⟩:=Lg (R.ti _ _ I) h S (bR hf B) (bR hf hn);exact⟨dP hs (by simp[execOp,A,C]) F rfl,rfl,rfl,eM _⟩
  .cases h
 |slice ty x lo I mx=>
  rw[A]at h;simp[oE]at h;split at h
  .rename_i i v l hh m h1 h2 h3 h4 h5
   let ⟨g',r,C,K,he,F,hfl,acD⟩:=Ku (R.ti _ _ h1) hs h S (bR hf h2) (zu hf h3) (zu hf h4) (zu hf h5)
   exact⟨⟨r,w,g',.inl (by simp[execOp,A,C]),K,he,F⟩,hfl,UF h,by omega⟩
  .cases h
 |typeAssert x xt ty ok=>
  rw[A]at h;simp[oE]at h;split at h
  .rename_i I B;obtain⟨r,C,F,rfl⟩:=IS (xt:=xt) (R.ti _ _ I) h (bR hf B);exact⟨dP hs (by simp[execOp,A,C]) F rfl,rfl,rfl,eM _⟩
  .cases h
 |_=>rw[A]at h;simp[oE]at h
end
end
section
section
variable {g g' g'':Gh}{w w' w'':World}{lo fl:Nat}
def aV.grow{s:St}(hs:aV g s w){I:Nat->Prop}(p:∀b,g.bh b->I b)(f:∀b,I b->g.bh b∨w.heap.size<=b)(q:∀b,I b->b<w'.heap.size)(i:w.heap.size<=w'.heap.size)
  (a:∀b,b<w.heap.size->w'.heap[b]?=w.heap[b]?) (r:w'.os=w.os) (m:w'.output=w.output) :
  aV {g with bh:=I} s w'∧Ext fl g w {g with bh:=I} w':=by
 have e:∀k b,bz ({g with bh:=I}:Gh) k b->bz g k b:=λk b h=>⟨λx=>h.1 (p b x),h.2⟩;have t:Ext fl g w {g with bh:=I} w':=
  ⟨λ_ _ h=>h,λ_ _ _ h=>h,p,i,λb n _=>a b n,λk b h=>.inl (e k b h),λb h=>(f b h).imp id .inl,r,m⟩
 refine⟨⟨hs.aE,hs.ah,λk c o=>?_,λk j y z=>?_,q,λk v b h A=>hs.jS k v b (e k b h) (e v b A)⟩,t⟩
 .have d:=hs.box k c o;refine d.ext t hs.bh (a c d.2.1) rfl λu=>?_;obtain h|h:=f c u
  .exact d.1 h
  .have:=d.2.1;omega
 .have l:=hs.arr k j y z;refine l.ext t hs.bh (λb n o=>⟨a b (l.1 _ n o),⟨λh=>?_,p b⟩⟩) rfl rfl;obtain h|h:=f b h
  .exact h
  .have:=l.1 _ n o
   grind
end
def lX(P:Program)(f:FuncId):Prop:=∃fn,P.funcs[f]?=Z fn∧fn.body.isSome=W∧(fn.name== "runtime.NumGoroutine")=J
def aaf(I:Nat->Prop)(w:World)(d:D):Ending->World->Prop
 |.returned v,w'=>∃a:Nat->Prop,(∀b,I b->a b)∧(∀b,a b->I b∨w.heap.size<=b)∧(∀b,a b->b<w'.heap.size)∧w.heap.size<=w'.heap.size∧
   (∀b,b<w.heap.size->w'.heap[b]?=w.heap[b]?)∧w'.os=w.os∧w'.output=w.output∧dH a w' d v
 |.panicked _,_=>False|.outgrown,_=>False
def al4(P:Program)(f:FuncId)(c:PE):Prop:=
 lX P f∧∀(I:Nat->Prop)(w:World)(ds:L D)(vs:Array Value),(∀b,I b->b<w.heap.size)->ds.length=vs.size->
  (∀(j:Nat)(d:D)(v:Value),ds[j]?=Z d->vs[j]?=Z v->dH I w d v)->c.pre ds->Calls P f vs w (aaf I w (c.f ds))
structure PB(E:Env):Prop extends BC E where
 name:∀f fn,E.TO f=Z fn->(fn.name== "runtime.NumGoroutine")=J
 II:∀f c,E.II f=Z c->al4 E.P f c
section
variable {g:Gh}{w:World}
end
end
section
section
variable {g:Gh}{w:World}
variable {s s':St}{t:T}{fr:Fr}{a:Act}
def RR{i:TI}{x y:T}{p:Prop}(h:u0 i s x y=Z (p,t,s')):s'.fl=s.fl∧s'.lo=s.lo∧s.aE<=s'.aE:=by
 obtain⟨_,h⟩|⟨_,h⟩:=af h
 .cases h
 .split at h
  .split at h
   .obtain ⟨_,_,rfl⟩:=h;exact⟨rfl,rfl,by simp[eg]⟩
   .split at h
    .obtain ⟨_,_,rfl⟩:=h;exact⟨rfl,rfl,by simp[eg]⟩
    simp_all
   .grind
   .cases h
  .cases h
theorem xI{P:Program}{f:FuncId}(h:lX P f)(args:Array Value):(callFunc f args).run P w=.ok (.enter f args) w:=by
 let ⟨fn,h1,h2,h3⟩:=h
 have h4:fn.body≠Y:=by
  grind
 simp_all[callFunc]
theorem Az{P:Program}{o:Oper}{c:Call}(d:o.op=.call c){b:Operand}(e:c.callee=.value b){a:Act}{f:FuncId}{first cap:Array Value}(g:a.eval b=.func (.func f) first cap)(h:lX P f) :
  (execOp a.eval o).run P w=.ok (.enter f (first++c.args.map a.eval++cap)) w:=by
 grind[execOp,resolve,Deferred.ofValue,invoke,xI]
def VV(hf:cR g fr a w){dst:O Nat}(f:aiG fr dst=W)(hn:fr.n<=bC){v:Value}(h:aH g w t v):cR g (fr.jq dst t) (a.put dst v) w:=by
 cases dst with
 |none=>exact hf|some d=>
  have c:d<fr.n:=gN f;refine⟨by simp[Act.put,Fr.jq,Fr.put,hf.size],hf.df,λk i b=>?_⟩;simp[Fr.jq,Fr.put,Fr.get]at b;rw[Tr.aR _ _ _ _ (iO c hn)]at b;by_cases e:k=d
  .subst e;rw[bw rfl]at b;simp at b;subst b;exact⟨v,by simp[Act.put,hf.size,c],h⟩
  .rw[bL e]at b
   let ⟨u,j,l⟩:=hf.tm k i b
   grind[Act.put]
structure Aft(s:St)(g:Gh)(w:World)(s':St)(g':Gh)(w':World):Prop where
 rel:aV g' s' w'
 ext:Ext s.fl g w g' w'
 fl:s'.fl=s.fl
 lo:s'.lo=s.lo
 aE:s.aE<=s'.aE
theorem Aft.refl{s:St}(h:aV g s w):Aft s g w s g w:=⟨h,Ext.refl _ _ _,rfl,rfl,eM _⟩
def yU{E:Env}(l:PB E)(hf:cR g fr a w)(hs:aV g s w){o:Oper}{c:Call}(C:o.op=.call c){b:Builtin}(hb:c.callee=.builtin b){args:L T}
  (d:yM fr c.args.toList=Z args) {p:Prop} {t:T} (h:fH E s b c.argTypes args=Z (p,t,s')) (z:p) {k:T->St->Prop} (A:k t s')
  {K:Act->World->Prop} {Q:Exit->Act->World->Prop} (B:∀t s' g' v w',k t s'->Aft s g w s' g' w'->aH g' w' t v->K (a.put o.dst v) w') :
  o.wp E.P a w K Q∨(o.asks E.P a w∧LetsOut Q):=by
 have e:=eT hf d;cases b with
 |len=>
  left
  match args,d,e,h with
  |[x],d,e,h=>
   have F:c.args.size=1:=by have:=e.1;grind
   obtain⟨arr,j⟩:∃u,c.args=#[u]:=⟨c.args[0],by
    grind⟩
   have m:aH g w x (a.eval arr):=e.2 0 _ _ rfl (by simp[j]);obtain⟨v,hv,I,rfl⟩:=Jy (rt:=o.type) hs l.ti h z m;unfold Oper.wp;have f:(execOp a.eval o).run E.P w=.ok (.value v) w:=by
    simp_all[execOp,resolve,invoke,builtin]
   rw[f];exact B t s' g v w A (Aft.refl hs) I
  |[],_,_,h=>simp[fH]at h|_::_::_,_,_,h=>simp[fH]at h
 |append=>
  match args,d,e,h with
  |[x,y],d,e,h=>
   have F:c.args.size=2:=by have:=e.1;grind
   obtain⟨u,v,j⟩:∃u v,c.args=#[u,v]:=⟨c.args[0],c.args[1],by
    grind⟩
   have m:aH g w x (a.eval u):=e.2 0 _ _ rfl (by simp[j]);have P:aH g w y (a.eval v):=e.2 1 _ _ rfl (by simp[j]);simp[fH]at h;split at h
   .rename_i ty R S;split at h
    .rename_i hi hj;split at h
     .rename_i n;have zG:c.argTypes=#[ty,R]:=by
       grind
      have q:=yX (rt:=o.type) (l.ti _ _ hi) (l.ti _ _ hj) ⟨_,_,_,_,n⟩ hs h z m P
      let ⟨r,w',f,g',h1,h2,h3⟩:=q
      left
      unfold Oper.wp;have i:(execOp a.eval o).run E.P w=.ok (.value r) w':=by
       simp_all[execOp,resolve,invoke,builtin]
      rw[i]
      let ⟨e1,e2,e3⟩:=RR h
      exact B t s' g' r w' A ⟨h1,h2,e1,e2,e3⟩ h3
     .cases h
    .cases h
   .cases h
  |[],_,_,h=>simp[fH]at h|[_],_,_,h=>simp[fH]at h|_::_::_::_,_,_,h=>simp[fH]at h
 |_=>simp[fH]at h
end
end
section
section
variable {g:Gh}{w:World}
def Yi{E:Env}(j:PB E){fr:Fr}{s s':St}{a:Act}(hf:cR g fr a w)(hs:aV g s w){o:Oper}{c:Call}(e:o.op=.call c)(k:c.callee=.builtin .len){args:L T}
  (b:yM fr c.args.toList=Z args) {p:Prop} {t:T} (h:fH E s .len c.argTypes args=Z (p,t,s')) (l:p) :
  s'=s∧∃v,(execOp a.eval o).run E.P w=.ok (.value v) w∧aH g w t v:=by
 have d:=eT hf b
 match args,b,d,h with
 |[x],b,d,h=>
  have m:c.args.size=1:=by have:=d.1;simpa using this.symm
  obtain⟨arr,f⟩:∃u,c.args=#[u]:=⟨c.args[0],by
   apply Array.ext
   .simp[m]
   .intro i h1 h2;have:i=0:=by omega
    subst this;rfl⟩
  have n:aH g w x (a.eval arr):=d.2 0 _ _ rfl (by simp[f]);obtain⟨v,q,r,rfl⟩:=Jy (rt:=o.type) hs j.ti h l n;exact⟨rfl,v,by simp[execOp,e,resolve,k,invoke,builtin,f,q],r⟩
 |[],_,_,h=>simp[fH]at h|_::_::_,_,_,h=>simp[fH]at h
end
end
section
abbrev WR(r:O Nat):Fence:={Fence.wide with round:=r}
section
variable {P:Program}{r:Option Nat}
def gn{m a:Machine}:StepsIn (Machine.fenced P (WR r)) P m a↔Steps P m a:=stepsIn_wide
variable {n id:Nat}{f:FuncId}{args tmps:Array Value}{R:Ending->World->Prop}{next:Act->World->Prop}{Q:Exit->Act->World->Prop}{fn:Func}
def RC{w:World}:CallsIn (WR r) n P f args w R↔Calls P f args w R:=
 (callsIn_wide (n:=n):CallsIn Fence.wide n P f args w R↔_)
def M4(n:Nat):(WR r).room n:=room_wide n
def air{row:String}{w:World}{R:Value->World->Prop}(h:Rows P row args w R):RowsIn (WR r) n P row args w R:=
 λc cs _=>let ⟨v,a,b,d⟩:=h c cs;⟨v,a,b,gn.2 d⟩
def OpR(r:O Nat)(P:Program)(o:Oper)(a:Act)(w:World)(next:Act->World->Prop)(Q:Exit->Act->World->Prop):Prop:=
 o.uponIn (WR r) 0 P a next Q ((o.semAt r a.eval).run P w)∨(o.asks P a w∧(r≠Y->∀c,o.op≠.defer c)∧LetsOut Q)
def OpR.of_wp{o:Oper}{a:Act}{w:World}(e:r≠Y->∀c,o.op≠.defer c)(h:o.wp P a w next Q∨(o.asks P a w∧LetsOut Q)):OpR r P o a w next Q:=by
 obtain h|⟨h1,h2⟩:=h
 .left
  have b:o.semAt r a.eval=execOp a.eval o:=by cases r with|none=>rfl|some l=>grind[Oper.semAt_eq]
  rw[b];unfold Oper.wp at h;generalize(execOp a.eval o).run P w=res at h;cases res with
  |ok x g=>cases x with|enter f args=>exact⟨λh=>by simp[Fence.wide]at h,RC.2 h⟩|row row args=>exact⟨λh=>by simp[Fence.wide]at h,air h⟩|value v=>exact h|skip=>exact h|defer d=>exact h|_=>exact h.elim
  |halt x g=>cases x<;>exact h
 .exact .inr ⟨h1,e,h2⟩
theorem OpR.mono{o:Oper}{a:Act}{w:World}{next b:Act->World->Prop}{Q:Exit->Act->World->Prop}(hn:∀a w,next a w->b a w)(h:OpR r P o a w next Q):OpR r P o a w b Q:=by
 obtain h|h:=h
 .left
  generalize(o.semAt r a.eval).run P w=res at h;cases res with
  |ok x j=>cases x with|enter f args=>exact⟨h.1,h.2.mono λe g c=>by cases e<;>first|exact hn _ _ c|exact c⟩|row row args=>exact⟨h.1,h.2.mono λ_ _ c=>hn _ _ c⟩|round l f tmps assign i=>exact⟨h.1,h.2.mono λe g c=>by cases e<;>first|exact hn _ _ c|exact c⟩|value v=>exact hn _ _ h|skip=>exact hn _ _ h|defer d=>exact hn _ _ h|_=>exact h
  |halt x j=>cases x<;>exact h
 .exact .inr h
abbrev adQ(r:O Nat)(P:Program):=ArrivesIn (Machine.fenced P (WR r)) P
section
variable {b:Frame}{a:Act}{k:List Item}{cs:List Frame}{w:World}{ops:Array Oper}{i:Nat}{rest:List Nat}{o:Oper}
def U8(n:b.roundOf=r)(z:r≠Y->∀c,o.op≠.defer c)(s:ops[i]?=Z o)(t:Region.wanted o (yielded ops a.tmps)=W)(u:b.kind≠.early)(h:o.asks P a w) :
  Outgrown P (lone (b.atR a (.inRegion ops (i::rest)::k)) cs w):=by
 have m:o.semAt b.roundOf a.eval=execOp a.eval o:=by rw[n];cases r with|none=>rfl|some l=>grind[Oper.semAt_eq]
 have q:=stepGR_op (P:=P) (b:=b) (k:=k) (cs:=cs) (w:=w) (rest:=rest) s t;rw[m]at q;have p:noRoomEvent∈(stepG P W {frame:=b.atR a (.inRegion ops (i::rest)::k),callers:=cs,status:=.running,dying:=Y} w).es:=by
  rw[q];have v:((b.atR a (.inRegion ops (i::rest)::k)).kind==CallKind.early)=J:=by simpa[Frame.atR]using u
  have A:noRoomEvent∈Sem.events P (execOp a.eval o) w #[]:=h.1;simp only[stepG.apply,Sem.runT_eq,sr,v,Ng,yo];rw[GStep.es_after];refine Array.mem_append.2 (.inl (seen_keeps P _ _ ?_));have x:=h.2
  grind
 refine Outgrown.now (o:={g:=0,fn:=(b.atR a (.inRegion ops (i::rest)::k)).fn,pos:=(b.atR a (.inRegion ops (i::rest)::k)).place,act:=.mark .noRoom}) ?_ rfl rfl;rw[stepT,move_lone];refine runT_lists P _ 0 {frame:=b.atR a (.inRegion ops (i::rest)::k),callers:=cs,status:=.running,dying:=Y} (by simp[lone]) _ ?_;exact mem_ofEvents (e:=noRoomEvent) (by simpa[lone]using p)
def XV(y:b.roundOf=r)(C:ops[i]?=Z o)(K:Region.wanted o (yielded ops a.tmps)=W)(h:OpR r P o a w next Q) :
  (∃a' w',next a' w'∧Steps P (lone (b.atR a (.inRegion ops (i::rest)::k)) cs w) (lone (b.atR a' (.inRegion ops rest::k)) cs w'))∨
  ∃e a' w',Q e a' w'∧adQ r P (lone (b.atR a (.inRegion ops (i::rest)::k)) cs w) b k cs e a' w':=by
 obtain h|⟨h1,h2,s,t,u⟩:=h
 rotate_left
 .by_cases R:b.kind=.early
  .exact .inr ⟨.outgrown,s,t,u,.inl R⟩
  .exact .inr ⟨.outgrown,s,t,u,.inr (U8 y h2 C K R h1)⟩
 have S:=stepGR_op (P:=P) (b:=b) (k:=k) (cs:=cs) (w:=w) (rest:=rest) C K;rw[y]at S;have q:∀v,(b.atR a (.inRegion ops (i::rest)::k)).finish v=b.atR (a.put o.dst v) (.inRegion ops rest::k):=λv=>by rw[Frame.finish_atR,C];rfl
 generalize z:(o.semAt r a.eval).run P w=res at h;have enter:∀{fr:Frame}{w1:World},(stepG P W {frame:=b.atR a (.inRegion ops (i::rest)::k),callers:=cs,status:=.running,dying:=Y} w).bare=.go {frame:=fr,callers:=b.atR a (.inRegion ops (i::rest)::k)::cs,status:=.running,dying:=Y} w1->
   step P (lone (b.atR a (.inRegion ops (i::rest)::k)) cs w)=.next (lone fr (b.atR a (.inRegion ops (i::rest)::k)::cs) w1):=λh=>step_lone_go h
 cases res with
 |ok x w1=>cases x with
  |value v=>exact .inl ⟨_,_,h,.one (step_lone_go (by simp_all[stepG.apply]))⟩
  |skip=>exact .inl ⟨_,_,h,.one (step_lone_go (by simp_all[stepG.apply]))⟩
  |defer d=>have A:=Frame.finish_atR b {a with defers:=d::a.defers} ops i rest k undef;rw[C]at A;refine .inl ⟨_,_,h,.one (step_lone_go ?_)⟩;rw[S];simp only[stepG.apply,Sem.runT_eq,z,GStep.bare_after];exact fq (λfr=>GStep.go {frame:=fr,callers:=cs,status:=.running,dying:=Y} w1) A
  |enter f args=>
   obtain⟨e,F,fr,n,c,_,p⟩:=RC.1 h.2 (b.atR a (.inRegion ops (i::rest)::k)::cs);have h1:=enter (fr:=Frame.enter P f args .normal) (w1:=w1) (by simp_all[stepG.apply,Frame.atR]);cases e with|returned v=>exact .inl ⟨_,_,n,.head h1 (c.trans (.one (by grind[step_leave_returned])))⟩|panicked I=>exact .inr ⟨.panic I,a,F,n,.inRegion ops (i::rest)::k,gn.2 (.head h1 (c.trans (.one (by rw[<-Frame.raise_atR];exact step_leave_panicked p))))⟩|outgrown=>obtain⟨s,t,u⟩:=n;exact .inr ⟨.outgrown,s,t,u,.inr (Outgrown.of_steps (.one h1) c)⟩
  |row row args=>obtain⟨v,F,n,c⟩:=h.2 (b.atR a (.inRegion ops (i::rest)::k)) cs (M4 _);have h1:=enter (fr:=Frame.ofRow P row args .normal) (w1:=w1) (by simp_all[stepG.apply,Frame.atR]);exact .inl ⟨_,_,n,.head h1 (by rw[<-q];exact gn.1 c)⟩
  |round l f tmps assign B=>
   obtain⟨e,F,n,c⟩:=h.2.2 (b.atR a (.inRegion ops (i::rest)::k)) cs (M4 _);have h1:=enter (fr:=Frame.round l f tmps assign B .normal) (w1:=w1) (by simp_all[stepG.apply,Frame.atR]);cases e with|returned v=>exact .inl ⟨_,_,n,.head h1 (by rw[<-q];exact gn.1 c)⟩|panicked I=>exact .inr ⟨.panic I,a,F,n,.inRegion ops (i::rest)::k,gn.2 (.head h1 (by rw[<-Frame.raise_atR];exact gn.1 c))⟩|outgrown=>obtain⟨s,t,u⟩:=n;exact .inr ⟨.outgrown,s,t,u,.inr (Outgrown.of_steps (.one h1) c)⟩
  |_=>exact h.elim
 |halt x w1=>cases x with
  |panic v=>
   refine .inr ⟨_,a,w1,h,.inRegion ops (i::rest)::k,gn.2 (.one (step_lone_go ?_))⟩
   simp_all[Frame.raise_atR,stepG.apply]
  |_=>exact h.elim
end
def xl(r:O Nat)(P:Program)(ops:Array Oper)(Q:Exit->Act->World->Prop):L Nat->Act->World->Prop
 |[],a,w=>Q .normal a w|i::rest,a,w=>match ops[i]? with
  |none=>xl r P ops Q rest a w|some o=>if Region.wanted o (yielded ops a.tmps)then OpR r P o a w (xl r P ops Q rest) Q else xl r P ops Q rest (a.put o.dst undef) w
def nB{ops:Array Oper}{Q:Exit->Act->World->Prop}:∀(l:L Nat)(a:Act)(w:World),xl r P ops Q l a w->∀(b:Frame)(k:L Item)(cs:L Frame),b.roundOf=r->
  ∃e a' w',Q e a' w'∧adQ r P (lone (b.atR a (.inRegion ops l::k)) cs w) b k cs e a' w'
 |[],a,w,h,b,k,cs,_=>⟨.normal,a,w,h,gn.2 (.one stepR_region_end)⟩|i::rest,a,w,h,b,k,cs,d=>by
  simp only[xl]at h;cases g:ops[i]? with
  |none=>simp only[g]at h;obtain⟨e,a',w',j,c⟩:=nB rest a w h b k cs d;have f:=stepR_op_skip (P:=P) (b:=b) (a:=a) (k:=k) (cs:=cs) (w:=w) (ops:=ops) (i:=i) (rest:=rest) (by simp[g]);simp only[g,Option.bind_none,Act.put]at f;exact⟨e,a',w',j,.of_steps (gn.2 (.one f)) c⟩
  |some o=>
   simp only[g]at h;by_cases m:Region.wanted o (yielded ops a.tmps)=W
   .simp only[m,sr]at h;obtain⟨a1,n,p,f⟩|q:=XV (k:=k) (cs:=cs) (rest:=rest) d g m h
    .obtain ⟨e,a',w',j,c⟩:=nB rest a1 n p b k cs d;exact⟨e,a',w',j,.of_steps (gn.2 f) c⟩
    .exact q
   .simp only[m,yo,Ng]at h;obtain⟨e,a',w',j,c⟩:=nB rest _ w h b k cs d;have f:=stepR_op_skip (P:=P) (b:=b) (a:=a) (k:=k) (cs:=cs) (w:=w) (ops:=ops) (i:=i) (rest:=rest) (by simp_all);simp only[g,S9]at f;exact⟨e,a',w',j,.of_steps (gn.2 (.one f)) c⟩
def W8{ops:Array Oper}{a:Act}{w:World}(h:xl r P ops Q (List.range ops.size) a w):(Code.region id ops J).wpIn (WR r) 0 P Q a w:=
 λb k cs d _ _=>let ⟨e,f,g,i,c⟩:=nB _ a w h b k cs d;⟨e,f,g,i,.of_steps (gn.2 (.one stepR_region)) c⟩
def CT(r:O Nat)(P:Program)(ops:Array Oper)(Q:Exit->Act->World->Prop)(i:Nat)(K:Act->World->Prop)(a:Act)(w:World):Prop:=
 match ops[i]? with
 |none=>K a w|some o=>if Region.wanted o (yielded ops a.tmps)then OpR r P o a w K Q else K (a.put o.dst undef) w
theorem CT.mono{ops:Array Oper}{Q:Exit->Act->World->Prop}{i:Nat}{a:Act}{w:World}{K c:Act->World->Prop}(h:∀a w,K a w->c a w)(b:CT r P ops Q i K a w):CT r P ops Q i c a w:=by
 unfold CT at *
 split
 .simp_all
 .rename_i d;simp only[d]at b;split
  .rename_i e;simp only[e,sr]at b;exact b.mono h
  simp_all
def adR(r:O Nat)(P:Program)(ops:Array Oper)(Q:Exit->Act->World->Prop):Nat->Array Bool->Act->World->Prop
 |0,b,a,w=>Region.ready .any ops b=[]∧Q .normal a w|fuel+1,b,a,w=>(Region.ready .any ops b=[]->Q .normal a w)∧
  ∀i∈Region.ready .any ops b,CT r P ops Q i (adR r P ops Q fuel (b.setIfInBounds i W)) a w
def U9{ops:Array Oper}(i:Nat)(rest:L Nat)(a:Act)(w:World):xl r P ops Q (i::rest) a w=CT r P ops Q i (xl r P ops Q rest) a w:=by cases h:ops[i]?<;>simp[xl,CT,h]
def HN{ops:Array Oper}{Q:Exit->Act->World->Prop}:∀(fuel t:Nat)(b:Array Bool)(a:Act)(w:World),adR r P ops Q fuel b a w->xl r P ops Q (Region.linearise.go .any ops fuel t b []) a w
 |0,t,b,a,w,h=>by simpa[Region.linearise.go,xl]using h.2
 |fuel+1,t,b,a,w,h=>by
  obtain⟨e,f⟩:=h;simp only[Region.linearise.go];change xl r P ops Q (match(Region.ready .any ops b)[t%(Region.ready .any ops b).length]? with
   |some i=>Region.linearise.go .any ops fuel (t/(Region.ready .any ops b).length) (b.setIfInBounds i W) [i]|none=>[].reverse) a w
  generalize Region.ready .any ops b=l at *
  cases l with|nil=>simpa[xl]using e rfl|cons x d=>have c:t%(x::d).length<(x::d).length:=Nat.mod_lt _ (by simp);rw[iR c];dsimp only;rw[linearise_go_acc,List.reverse_singleton,Nj,U9];exact(f _ (Nh c)).mono λa w=>HN fuel _ _ a w
def M7{ops:Array Oper}{a:Act}{w:World}(f:P.follows .mixedOrders=W)
  (h:adR r P ops Q ops.size (Array.replicate ops.size J) a {w with drawn:=w.drawn+1}):(Code.region id ops W).wpIn (WR r) 0 P Q a w:=by
 intro b k cs d _ _;have h2:∀t,xl r P ops Q (Region.schedule (P.follows .mixedOrders) ops t) a {w with drawn:=w.drawn+1}:=λt=>by simp only[Region.schedule,f,Bool.true_or,sr];exact HN ops.size t _ a _ h
 obtain⟨e,g,i,j,c⟩:=nB _ a _ (h2 _) b k cs d;exact⟨e,g,i,j,.of_steps (gn.2 (.one stepR_region_draw)) c⟩
def aee:Exit->O (O Code)
 |.normal=>Z Y|.ret=>Z (Z .ret)|.exit i=>Z (Z (.exit i))|_=>Y
def W6(P:Program)(l:Nat)(R:Ending->World->Prop)(e:Exit)(_:Act)(w:World):Prop:=
 (e=.outgrown∧R .outgrown w)∨∃j,aee e=Z j∧∃v w',(Instr.endRound l j).run P w=.ok v w'∧R (.returned v) w'
def afg{l:Nat}{assign d:Code}{w:World}
  (h:assign.wpIn (WR (Z l)) 0 P (Exit.then (λt z=>∃u,(Instr.beginRound l).run P z=.ok () u∧d.wpIn (WR (Z l)) 0 P (W6 P l R) t u) (λe _ w=>e=.outgrown∧R .outgrown w)) {tmps:=tmps,defers:=[]} w) {n:Nat} :
  RoundIn (WR r) n P l f tmps assign d w R:=by
 refine⟨trivial,λc cs _=>?_⟩
 let b:Frame:={(default:Frame)with fn:=f,kind:=.normal,roundOf:=Z l}
 have A:Frame.round l f tmps assign d .normal=b.atR {tmps:=tmps,defers:=[]} [.code assign,.beginRound,.code d]:=by rfl
 obtain⟨e,t,z,F,g⟩:=h b [.beginRound,.code d] (c::cs) rfl trivial (M4 _);rw[<-A]at g;have out:∀{e:Exit}{a:Act}{m:World},(e=.outgrown∧R .outgrown m)->adQ (Z l) P (lone (Frame.round l f tmps assign d .normal) (c::cs) w) b [.beginRound,.code d] (c::cs) e a m->
   ∃e m,R e m∧ComesIn (Machine.fenced P (WR r)) P (lone (Frame.round l f tmps assign d .normal) (c::cs) w) (match e with|.returned v=>lone (c.finish v) cs m|.panicked chain=>lone (c.raise chain) cs m|.outgrown=>lone c cs m) e:=by
  rintro e a m ⟨rfl,s⟩ g
  exact⟨.outgrown,m,s,g.resolve_left (by simp[b])⟩
 cases e with
 |normal=>
  obtain⟨u,B,o⟩:=F;have x:Steps P (lone (b.atR t [.beginRound,.code d]) (c::cs) z) (lone (b.atR t [.code d]) (c::cs) u):=.one (stepR_beginRound rfl B);obtain⟨I,a₂,K,p,i⟩:=o b [] (c::cs) rfl trivial (M4 _);obtain⟨rfl,p⟩|⟨j,y,v,C,k,s⟩:=p
  .exact ⟨.outgrown,K,p,Outgrown.of_steps ((gn.1 g).trans x) (i.resolve_left (by simp[b]))⟩
  cases I with
  |normal=>cases y;exact⟨.returned v,C,s,gn.2 ((gn.1 g).trans (x.trans ((gn.1 i).trans (.one (stepR_round_end rfl rfl k)))))⟩
  |ret=>cases y;obtain⟨S,E⟩:=i.2 rfl;exact⟨.returned v,C,s,gn.2 ((gn.1 g).trans (x.trans ((gn.1 E).trans (.one (stepR_round_ret rfl rfl k)))))⟩
  |exit id=>cases y;obtain⟨S,hk,E⟩:=i.2 rfl rfl;exact⟨.returned v,C,s,gn.2 ((gn.1 g).trans (x.trans ((gn.1 E).trans (.one (stepR_round_exit rfl rfl hk k)))))⟩
  |_=>cases y
 |_=>exact out F g
def mV(P:Program)(fn:Func)(tmps:Array Value)(R:Ending->World->Prop):L Deferred->FrameMode->World->Prop
 |[],.returning,w=>∃v,(results fn tmps).run P w=.ok v w∧R (.returned v) w|[],.panicking chain,w=>R (.panicked chain) w|[],.run,_=>False|d::ds,u,w=>u≠.run∧((∃b a,d.target=.collected b∧(Instr.takeDeferred b).run P w=.ok [] a∧mV P fn tmps R ds u a)∨
   ∃e cap f args,d.target=.fn e cap∧(invoke d.target d.args).run P w=.ok (.enter f args) w∧CallsD P f args u w λ
    |.returned _,c,a=>mV P fn tmps R ds (settle c) a|.panicked chain,c,a=>mV P fn tmps R ds (raised c chain) a|.outgrown,_,a=>R .outgrown a)
def sy:∀(ds:L Deferred)(u:FrameMode)(w:World)(fr:Frame)(cs:L Frame),fr.mode=u->fr.defers=ds->fr.tmps=tmps->P.funcs[fr.fn]?=Z fn->fr.kind=.normal->mV P fn tmps R ds u w->
  ∃e w' fr',R e w'∧Comes P (lone fr cs w) (lone fr' cs w') e∧fr'.fn=fr.fn∧fr'.leaving P w' e:=by
 intro ds
 induction ds with
 |nil=>
  intro u w fr cs l x y t z h;cases u with
  |run=>exact h.elim|returning=>obtain⟨v,S,m⟩:=h;exact⟨.returned v,w,fr,m,Steps.refl P _,rfl,l,x,z,fn,t,y▸S⟩
  |panicking chain=>exact⟨.panicked chain,w,fr,h,Steps.refl P _,rfl,l,x,fn,t⟩
 |cons d ds F=>
  intro u w fr cs l x y t z h;obtain⟨j,h⟩:=h;obtain⟨b,w',g,n,o⟩|⟨fv,cap,f,args,g,A,p⟩:=h
  .have h1:=step_collected (cs:=cs) (l▸j) x g n;obtain⟨B,C,fr',m,hs,I,hl⟩:=F u w' {fr with defers:=[]++ds} cs l rfl y t z o;exact⟨B,C,fr',m,Comes.of_steps (.one h1) hs,I,hl⟩
  .have h1:=step_defer (cs:=cs) (l▸j) x g A;obtain⟨e,k,w',frX,m,a,K,E⟩:=p {fr with defers:=ds} cs l;cases e with
   |returned v=>have h2:=step_going_returned (c:={{fr with defers:=ds}with mode:=k}) (cs:=cs) K E;obtain⟨B,C,fr',q,r,i,s⟩:=F (settle k) w' {{{fr with defers:=ds}with mode:=k}with mode:=settle k} cs rfl rfl y t z m;exact⟨B,C,fr',q,Comes.of_steps (.head h1 (Steps.trans a (.one h2))) r,i,s⟩
   |panicked chain=>have h2:=step_going_panicked (c:={{fr with defers:=ds}with mode:=k}) (cs:=cs) E;obtain⟨B,C,fr',q,r,i,s⟩:=F (raised k chain) w' {{{fr with defers:=ds}with mode:=k}with mode:=raised k chain} cs rfl rfl y t z m;exact⟨B,C,fr',q,Comes.of_steps (.head h1 (Steps.trans a (.one h2))) r,i,s⟩
   |outgrown=>exact⟨.outgrown,w',fr,m,Outgrown.of_steps (.one h1) a,rfl,trivial⟩
def aez(P:Program)(fn:Func)(R:Ending->World->Prop):Exit->Act->World->Prop
 |.normal,a,w|.ret,a,w=>mV P fn a.tmps R a.defers .returning w|.panic chain,a,w=>mV P fn a.tmps R a.defers (.panicking chain) w|.outgrown,_,w=>R .outgrown w|_,_,_=>False
def sK{c:Code}{w:World}(hf:P.funcs[f]?=Z fn)(v:fn.body=Z c)
  (h:c.wpIn (WR Y) 0 P (aez P fn R) {tmps:=args++Array.replicate (fn.ntmps-args.size) undef,defers:=[]} w):Calls P f args w R:=by
 intro cs
 let b:Frame:={(default:Frame)with fn:=f,kind:=.normal}
 have j:Frame.enter P f args .normal=b.at {tmps:=args++Array.replicate (fn.ntmps-args.size) undef,defers:=[]} [.code c]:=by simp[Frame.enter,Frame.at,hf,v,b]
 obtain⟨e,n,u,o,a⟩:=wpIn_wide.1 h b [] cs;rw[<-j]at a;cases e with
 |normal=>obtain⟨p,q,d,r,s,g,t⟩:=sy n.defers .returning u {b.at n []with mode:=.returning} cs rfl rfl rfl hf rfl o;exact⟨p,q,d,r,Comes.of_steps (Steps.trans a (.one step_end)) s,g,t⟩
 |ret=>obtain⟨i,m⟩:=a;obtain⟨p,q,d,r,s,g,t⟩:=sy n.defers .returning u {b.at n i with mode:=.returning} cs rfl rfl rfl hf rfl o;exact⟨p,q,d,r,Comes.of_steps m s,g,t⟩
 |panic chain=>obtain⟨i,m⟩:=a;obtain⟨p,q,d,r,s,g,t⟩:=sy n.defers (.panicking chain) u {b.at n i with mode:=.panicking chain} cs rfl rfl rfl hf rfl o;exact⟨p,q,d,r,Comes.of_steps m s,g,t⟩
 |exit id=>exact o.elim|goto l=>exact o.elim|outgrown=>exact⟨.outgrown,u,b,o,a.resolve_left (by simp[b]),rfl,trivial⟩
end
end
section
section
variable {g:Gh}{w:World}
variable {s:St}{E:Env}{fr:Fr}{a:Act}
def QW{i:TI}{x:T}{vx:Value}{r:Prop×T×St}(h:loadT i s x=Z r)(a:aH g w x vx):∃ad,vx=.pointer (Z ad):=by cases a with|ptr o off b c=>grind|lR=>grind|lQ=>grind|_=>simp[loadT]at h
def abr(tmps:Array Value):ResultVar->Sem Value
 |.tmp t=>pure (tmps.getD t undef)|.cell a t=>do loadVar t (<-asAddr (tmps.getD a undef))
def qB{E:Env}(c:BC E){fr:Fr}{s:St}{a:Act}(hf:cR g fr a w)(hs:aV g s w):∀{l:L ResultVar}{p:Prop}{ts:L T},mF E s fr l=Z (p,ts)->p->
  ∃vs,(l.mapM (abr a.tmps)).run E.P w=.ok vs w∧PW (aH g w) ts vs
 |[],p,ts,h,b=>by obtain⟨_,rfl⟩:=h;exact⟨[],rfl,rfl,λj t v h=>by simp at h⟩
 |.tmp t::l,p,ts,h,b=>by
  simp[mF]at h;split at h
  .rename_i x q r d e;obtain⟨rfl,rfl⟩:=h
   let ⟨vs,h1,h2⟩:=qB c hf hs e b
   let ⟨v,y,f⟩:=hf.tm t x d
   refine⟨v::vs,?_,by simp[h2.1],λj i k m n=>?_⟩
   .simp_all[abr]
   .cases j with|zero=>simp_all|succ j=>exact h2.2 j i k (by simpa using m) (by simpa using n)
  .cases h
 |.cell z t::l,p,ts,h,b=>by
  simp[mF]at h;split at h
  .rename_i x A d;split at h
   .rename_i o e;obtain⟨rfl,rfl⟩:=h
    let ⟨vs,h1,h2⟩:=qB c hf hs e b.2
    let ⟨v,y,f⟩:=hf.tm z x d
    let ⟨u,I,B,_⟩:=DE (c.ti _ _ A) hs f o b.1
    obtain⟨C,rfl⟩:=QW o f;have F:(loadVar t C).run E.P w=.ok u w:=by grind[Instr.loadAt,Instr.sureAddr]
    refine⟨u::vs,?_,by simp[h2.1],λj i k m n=>?_⟩
    .simp_all[abr,asAddr]
    .cases j with|zero=>simp_all|succ j=>exact h2.2 j i k (by simpa using m) (by simpa using n)
   .cases h
  .cases h
def M0(c:BC E)(hf:cR g fr a w)(hs:aV g s w){fn:Func}{p:Prop}{ts:L T}(h:mF E s fr fn.results.toList=Z (p,ts))(d:p) :
  ∃v,(results fn a.tmps).run E.P w=.ok v w∧aH g w (ae9 ts) v:=by
 let ⟨b,h1,h2⟩:=qB c hf hs h d
 refine⟨if h:b.toArray.size=1 then b.toArray[0]else .tuple b.toArray,?_,?_⟩
 .have e:results fn a.tmps=(do
    let b <-fn.results.mapM (abr a.tmps)
    pure (if h:b.size=1 then b[0]else .tuple b)):=by
   rfl
  simp_all[Array.mapM_eq_mapM_toList]
 .match ts,b,h2 with
  |[],[],_=>exact .gM _ _ rfl (λj t v h=>by simp at h)
  |[t],[v],h2=>exact h2.2 0 t v rfl rfl|t::f::ts,v::i::b,h2=>simp only[ae9,Tc,ny];exact .gM _ _ (by simpa using h2.1) (λj t v h3 h4=>h2.2 j t v h3 (by simpa using h4))
  |[],_::_,h2=>exact absurd h2.1 (by simp)
  |_::_,[],h2=>exact absurd h2.1 (by simp)
  |[_],_::_::_,h2=>exact absurd h2.1 (by simp)
  |_::_::_,[_],h2=>exact absurd h2.1 (by simp)
def GC:∀(l:L T)(k:Nat)(t:Tr T),k+l.length<=bC->∀j,(Cm l k t).get j=if k<=j∧j<k+l.length then l[j-k]? else t.get j
 |[],k,t,_,j=>by
  have:¬(k<=j∧j<k+([]:L T).length):=by simp
  rw[bL this];rfl
 |a::l,k,t,h,j=>by
  simp at h;simp only[Cm];rw[GC l (k+1) _ (by omega),Tr.aR _ _ _ _ (by omega)]
  grind
end
end
section
inductive Ty where
 |int (k:IntKind)|bool|str|sl (e:Ty)|st (n:Nat)|de (n:Nat)|opt (n:Nat)|mp (k v:Ty)
 deriving Inhabited
def sk:Ty->Ty->Bool
 |.int j,.int k=>oK j k|.bool,.bool=>W|.str,.str=>W|.sl a,.sl b=>sk a b|.st m,.st n=>Nq m n|.de m,.de n=>Nq m n|.opt m,.opt n=>Nq m n|.mp a b,.mp c d=>sk a c&&sk b d|_,_=>J
theorem jK{a:Ty}:∀{b:Ty},sk a b=W->a=b:=by
 induction a with
 |int j=>
  intro b h;cases b with
  |int k=>
   have:j=k:=by cases j<;>cases k<;>first|rfl|cases h
   rw[this]
  |_=>cases h
 |bool=>intro b h;cases b<;>first|rfl|cases h
 |str=>intro b h;cases b<;>first|rfl|cases h
 |sl e g=>
  intro b h;cases b with|sl f=>rw[g h]|_=>cases h
 |st m=>
  intro b h;cases b with|st n=>rw[vQ h]|_=>cases h
 |de m=>
  intro b h;cases b with|de n=>rw[vQ h]|_=>cases h
 |opt m=>
  intro b h;cases b with|opt n=>rw[vQ h]|_=>cases h
 |mp k v g i=>
  intro b h;cases b with|mp c d=>have h:=zm.1 h;rw[g h.1,i h.2]|_=>cases h
@[reducible] def den(A:Nat->Type):Ty->Type
 |.int _=>Int|.bool=>Bool|.str=>L UInt8|.sl e=>L (den A e)|.st n=>A n|.de n=>A n|.opt n=>O (A n)|.mp k v=>L (den A k×den A v)
@[reducible] def lP(A:Nat->Type):L Ty->Type
 |[]=>U|t::l=>den A t×lP A l
@[reducible] def yu(A:Nat->Type):L (TypeId×Ty)->Type
 |[]=>U|p::l=>Sum (den A p.2) (yu A l)
def nh:L (TypeId×Ty)->Nat->Ty
 |[],_=>.bool|p::_,0=>p.2|_::l,i+1=>nh l i
def xj:L (TypeId×Ty)->TypeId->O Nat
 |[],_=>Y|p::l,t=>bif Nq p.1 t then Z 0 else match xj l t with
  |some i=>Z (Ns i)|none=>Y
def Yv{A:Nat->Type}:(l:L (TypeId×Ty))->(i:Nat)->den A (nh l i)->yu A l
 |[],_,_=>()|_::_,0,x=>.inl x|_::l,i+1,x=>.inr (Yv l i x)
def X1{A:Nat->Type}:(l:L (TypeId×Ty))->yu A l
 |[]=>()|_::l=>.inr (X1 l)
def isNil{A:Nat->Type}:(l:L (TypeId×Ty))->yu A l->Bool
 |[],_=>W|_::_,.inl _=>J|_::l,.inr y=>isNil l y
def mj{A:Nat->Type}:(l:L (TypeId×Ty))->Nat->yu A l->Bool
 |[],_,_=>J|_::_,0,.inl _=>W|_::_,0,.inr _=>J|_::_,_+1,.inl _=>J|_::l,i+1,.inr y=>mj l i y
def ke{A:Nat->Type}(z:(t:Ty)->den A t):(l:L (TypeId×Ty))->(i:Nat)->yu A l->den A (nh l i)
 |[],_,_=>z .bool|_::_,0,.inl x=>x|p::_,0,.inr _=>z p.2|_::l,i+1,.inl _=>z (nh l i)|_::l,i+1,.inr y=>ke z l i y
structure Sg where
 A:Nat->Type
 fs:Nat->List Ty
 dfl:(n:Nat)->A n
 get:(n:Nat)->A n->lP A (fs n)
 ER:(n:Nat)->lP A (fs n)->A n
 cells:(n:Nat)->A n->List D
 alts:Nat->List (TypeId×Ty)
 uK:(n:Nat)->A n->yu A (alts n)
 imk:(n:Nat)->yu A (alts n)->A n
 rT:(n:Nat)->A n->Option (TypeId×D)
 pt:Ty
variable {S:Sg}
def Sg.zero(S:Sg):(t:Ty)->den S.A t
 |.int _=>(0:Int)|.bool=>J|.str=>([]:L UInt8)|.sl _=>[]|.st n=>S.dfl n|.de n=>S.imk n (X1 (S.alts n))|.opt _=>Y|.mp _ _=>[]
def bZ(s:L UInt8):ByteArray:=⟨s.toArray⟩
def ofBytes(b:ByteArray):L UInt8:=b.data.toList
def PL:O (TypeId×D)->D
 |none=>.lit .nilIface|some p=>.de p.1 p.2
def ptD:O D->D
 |none=>.lit (.pointer Y)|some d=>.pt d
def enc(S:Sg):(t:Ty)->den S.A t->D
 |.int k,n=>.lit (.int k n)|.bool,b=>.lit (.bool b)|.str,s=>.lit (.string (bZ s))|.sl e,l=>.sl (l.map (enc S e))|.st n,x=>.agg (S.cells n x)|.de n,x=>PL (S.rT n x)|.opt n,x=>ptD (x.map λy=>.agg (S.cells n y))|.mp k v,l=>.mp (l.map λp=>enc S k p.1) (l.map λp=>enc S v p.2)
def eW(S:Sg):(ts:L Ty)->lP S.A ts->L D
 |[],_=>[]|t::l,x=>enc S t x.1::eW S l x.2
def kF:Ty->Bool|.st _=>W|_=>J
def Sg.width(S:Sg):Ty->Nat|.st n=>cD (S.fs n)|_=>1
inductive V(S:Sg) where
 |ty (t:Ty) (x:den S.A t)|kb (b:Bool)|kn (k:IntKind) (n:Int)|dat (d:D)|ptr (o off:Nat)|lR (t:Ty) (x:den S.A t) (off:Nat)|lQ (o e i off:Nat)|sh (o e:Nat)|emp|kr (n:Nat) (t:Ty) (l:List (den S.A t))|fn (f:Fn) (first cap:List (V S))
 |de (t:TypeId) (v:V S)|agg (cs:List (V S))|gM (vs:List (V S))|gd (c:Bool) (v:V S)|mp (o:Nat)|rE (o:Nat)|uj (o:Nat)|ub (e:Bool)|sx (o m r i:Nat)|pW (n j:Nat) (x:S.A n)
inductive sU(S:Sg) where
 |call (f:V S) (args:List (V S))|mark (o:Nat)|marks (o:Nat)|ko|bad
structure bX(S:Sg) where
 n:Nat
 tm:Tr (V S)
 df:List (sU S):=[]
structure LpV(S:Sg) where
 st:LoopState
 vS:Option Code
 fid:FuncId
 fr:bX S
 params:List Nat
 assign:Code
 body:Code
inductive u9(S:Sg) where
 |box (cs:List (V S))|arr (t:Ty) (l:List (den S.A t)) (era:Nat)|lq (t:Ty) (l:List (den S.A t)) (era:Nat)|map (kt vt:Ty) (l:List (den S.A kt×den S.A vt))|Il (kt:Ty) (l:List (den S.A kt×V S))|rD (b:List UInt8) (pos:Nat)|lp (l:LpV S)|Ah|lD (n j:Nat) (l:List (S.A n)) (era m gX:Nat) (hole:Option Nat)|rws (t:Ty) (iQ:List (List (den S.A t))) (gX:Nat)|gone|Gd
structure aY(S:Sg) where
 ob:Tr (u9 S)
 aE:Nat
 fl:Nat
 lo:Nat
 wr:List Nat
 dr:List Nat
def bX.get(fr:bX S)(k:Nat):O (V S):=fr.tm.get k
def bX.put(fr:bX S)(k:Nat)(v:V S):bX S:={fr with tm:=fr.tm.set aK k v}
def bX.jq(fr:bX S)(k:O Nat)(v:V S):bX S:=match k with|some k=>fr.put k v|none=>fr
def AU:(ts:L Ty)->lP S.A ts->L (V S)
 |[],_=>[]|t::l,x=>.ty t x.1::AU l x.2
def wC:(t:Ty)->den S.A t->L (V S)
 |.st n,x=>AU (S.fs n) (S.get n x)|.int k,x=>[.ty (.int k) x]|.bool,x=>[.ty .bool x]|.str,x=>[.ty .str x]|.sl e,x=>[.ty (.sl e) x]|.de n,x=>[.ty (.de n) x]|.opt n,x=>[.ty (.opt n) x]|.mp k v,x=>[.ty (.mp k v) x]
def uV:Value->O (V S)
 |.bool b=>Z (.kb b)|.int k n=>Z (.kn k n)|.slice Y 0 0=>Z .emp|.func f a b=>match a.toList,b.toList with
  |[],[]=>Z (.fn f [] [])|_,_=>Y
 |.iface t v=>(DA v).map λd=>.dat (.de t d)|.string b=>Z (.ty .str (ofBytes b))|v=>(DA v).map .dat
def zeroV:D->V S
 |.lit (.bool b)=>.kb b|.lit (.int k n)=>.kn k n|.lit (.string b)=>.ty .str (ofBytes b)|.sl []=>.emp|d=>.dat d
def Yk:V S->Bool
 |.ty t _=>!(kF t)|.dat d=>d.leaf|.agg _|.gM _|.gd _ _=>J|_=>W
def Ch:L (V S)->Bool
 |[]=>W|v::l=>Yk v&&Ch l
def wV(i:TI):V S->O (L (V S))
 |.agg a=>bif i.agg&&Nq (cD a) i.size then Z a else Y|.ty (.st n) x=>bif i.agg&&Nq (cD (S.fs n)) i.size then Z (AU (S.fs n) (S.get n x))else Y|.dat d=>bif i.agg then Y else bif Nq i.size 1&&d.leaf then Z [.dat d]else Y|.gM _|.gd _ _=>Y|v=>bif i.agg then Y else bif Nq i.size 1 then Z [v]else Y
def Dv(agg:Bool)(cs:L (V S)):O (V S):=
 bif agg then Z (.agg cs)else match cs with
  |[x]=>Z x|_=>Y
def cA(fr:bX S):Operand->O (V S)
 |.tmp k=>fr.get k|.const v=>uV v|.global _=>Y|.func f=>Z (.fn (.func f) [] [])
def jY(fr:bX S):L Operand->O (L (V S))
 |[]=>Z []|x::l=>match cA fr x,jY fr l with
  |some t,Z r=>Z (t::r)|_,_=>Y
def iu(k:IntKind):V S->O Int
 |.kn j n=>bif oK j k then Z n else Y|.ty (.int j) x=>bif oK j k then Z x else Y|_=>Y
def jk:V S->O Bool
 |.kb b=>Z b|.ty .bool x=>Z x|_=>Y
def vZ:V S->O (L UInt8)
 |.ty .str x=>Z x|_=>Y
def wX(t u:Ty)(x:den S.A t):O (den S.A u):=
 if h:sk t u=W then Z (jK h▸x)else Y
def oC(t u:Ty)(x:L (den S.A t)):O (L (den S.A u)):=
 if h:sk t u=W then Z (jK h▸x)else Y
def wI:(ts:L Ty)->lP S.A ts->Nat->(t:Ty)->den S.A t->lP S.A ts
 |[],h,_,_,_=>h| τ::_,h,0,t,y=>(match wX t τ y with|some z=>z|none=>h.1,h.2)
 |_::ts,h,j+1,t,y=>(h.1,wI ts h.2 j t y)
def ef:(ts:L Ty)->lP S.A ts->Nat->(t:Ty)->den S.A t
 |[],_,_,t=>S.zero t| τ::_,h,0,t=>match wX τ t h.1 with|some z=>z|none=>S.zero t
 |_::ts,h,j+1,t=>ef ts h.2 j t
def UG(n j:Nat)(t:Ty)(x:S.A n)(y:L (den S.A t)):S.A n:=S.ER n (wI (S.fs n) (S.get n x) j (.sl t) y)
def IG(n j:Nat)(t:Ty)(x:S.A n):L (den S.A t):=ef (S.fs n) (S.get n x) j (.sl t)
def zP(n j:Nat)(t:Ty)(l:L (S.A n)):L (L (den S.A t)):=l.map (IG n j t)
def kS(n j:Nat)(t:Ty)(l:L (S.A n))(iQ:L (L (den S.A t))):L (S.A n):=List.zipWith (UG n j t) l iQ
def Eo(S:Sg)(n j:Nat)(t:Ty):Bool:=match nth (S.fs n) j with|some u=>sk u (.sl t)|none=>J
def MZ(s:aY S)(m r:Nat):O ((t:Ty)×L (L (den S.A t))):=match s.ob.get m with
 |some (.rws t a b)=>bif Nq r b then Z ⟨t,a⟩else Y|_=>Y
def Kv(s:aY S)(e:Ty):V S->O (L (den S.A e))
 |.emp=>Z []|.kr _ t l=>oC t e l|.pW n _ x=>oC (.st n) e [x]|.ty (.sl t) x=>oC t e x|.sh o r=>match s.ob.get o with
  |some (.arr t l era)|some (.lq t l era)=>bif Nq r era then oC t e l else Y|_=>Y
 |_=>Y
mutual
def bU(s:aY S):(t:Ty)->V S->O (den S.A t×L Nat)
 |t,.ty u x=>match wX u t x with
  |some y=>Z (y,[])|none=>Y
 |.bool,.kb b=>Z (b,[])|.int k,.kn j n=>bif oK j k then Z (n,[])else Y|.sl _,.emp=>Z ([],[])|.sl e,.kr _ t l=>match oC t e l with
  |some l=>Z (l,[])|none=>Y
 |.sl e,.pW n _ x=>match oC (.st n) e [x]with
  |some l=>Z (l,[])|none=>Y
 |.sl e,.sh o r=>match s.ob.get o with
  |some (.arr t l era)=>bif Nq r era then match oC t e l with|some l=>Z (l,[o])|none=>Y else Y
  |some (.lq t l era)=>bif Nq r era then match oC t e l with|some l=>Z (l,[])|none=>Y else Y
  |some (.lD n j l era m c Y)=>match MZ s m c with
   |some ⟨t,a⟩=>bif Nq r era&&(Nt m bC&&Eo S n j t)then match oC (.st n) e (kS n j t l a)with|some l=>Z (l,[o,m])|none=>Y else Y
   |none=>Y
  |_=>Y
 |.st n,.agg d=>match nY s (S.fs n) d with
  |some (h,os)=>Z (S.ER n h,os)|none=>Y
 |.de n,.de t v=>match xj (S.alts n) t with
  |some i=>match bU s (nh (S.alts n) i) v with
   |some (y,os)=>Z (S.imk n (Yv (S.alts n) i y),os)|none=>Y
  |none=>Y
 |.de n,.dat (.lit .nilIface)=>Z (S.imk n (X1 (S.alts n)),[])|.opt _,.dat (.lit (.pointer Y))=>Z (Y,[])|_,_=>Y
def nY(s:aY S):(ts:L Ty)->L (V S)->O (lP S.A ts×L Nat)
 |[],[]=>Z ((),[])|t::ts,v::l=>match bU s t v,nY s ts l with
  |some (x,os),Z (h,a)=>Z ((x,h),os++a)|_,_=>Y
 |_,_=>Y
end
def dU(s:aY S):L Nat->O (aY S)
 |[]=>Z s|o::l=>
  bif Nl s.fl o then match s.ob.get o with
   |some (.arr t a era)=>dU {s with ob:=s.ob.set aK o (.lq t a era),wr:=o::s.wr} l
   |some (.lq _ _ _)=>dU s l|some (.lD n j a era m r Y)=>match MZ s m r with
    |some ⟨t,b⟩=>bif l.contains m&&(Nl s.fl m&&(Nt m bC&&Eo S n j t))then dU {s with ob:=(s.ob.set aK m .gone).set aK o (.lq (.st n) (kS n j t a b) era),wr:=o::m::s.wr} l else Y
    |none=>Y
   |some (.rws ..)=>dU s l|some .gone=>dU s l|_=>Y
  else Y
def dh(s:aY S)(o:u9 S):aY S:={s with ob:=s.ob.set aK s.aE o,aE:=Ns s.aE}
def gp(a b:L UInt8):Bool:=a==b
def cY{α:Type}(l:L α)(lo hi:Int):L α:=(l.take hi.toNat).drop lo.toNat
def av{α:Type}(l:L α):Int:=l.length
def mA(b:L UInt8)(n:Int):Int:=(b.getD n.toNat 0).toNat
def di{α:Type}(a b:L α):L α:=a++b
def aN{α:Type}(n:Int)(l:L α):Bool:=decide (0<=n)&&decide (n<l.length)
def eR{α:Type}(k:Nat)(l:L α):Bool:=decide (k<l.length)
def fV(lo hi len:Int):Bool:=decide (0<=lo)&&(decide (lo<=hi)&&decide (hi<=len))
def ac1(a b:L UInt8):Bool:=decide (a.length+b.length<=4611686018427387904)
def dF{α:Type}(a b:L α):Bool:=decide (a.length+b.length<=17179869184)
def nzI(a:Int):Bool:=decide (a≠0)
def bp{α:Type}(l:L α)(k:Nat)(z:α):α:=l.getD k z
def rI{α:Type}(l:L α)(k:Nat)(x:α):L α:=l.set k x
def ab3{α β:Type}(l:L α)(m:L β):Bool:=decide (l.length=m.length)
def YI{α:Type}(k:Nat)(l:L α)(h i:Nat):Bool:=decide (k<l.length)&&(Nq k h&&Nq i h)
def fU(a b:Int):Bool:=decide (a=b)
def az(n:Int):Nat:=n.toNat
abbrev nN(S:Sg):=O (Bool×V S×aY S)
def EZ:Lk->V S->V S->O Bool
 |.int k,a,b=>match iu k a,iu k b with
  |some x,Z y=>Z (aa x y)|_,_=>Y
 |.bool,a,b=>match jk a,jk b with
  |some x,Z y=>Z (o8 x y)|_,_=>Y
 |.str,a,b=>match vZ a,vZ b with
  |some x,Z y=>Z (gp x y)|_,_=>Y
 |.no,_,_=>Y
def kG:L Lk->L (V S)->L (V S)->O Bool
 |[],[],[]=>Z W|k::c,a::as,b::d=>match EZ k a b,kG c as d with
  |some x,Z y=>Z (cm x y)|_,_=>Y
 |_,_,_=>Y
def Zo:V S->V S->O Bool
 |.dat (.lit (.pointer Y)),.ptr _ _=>Z J|.ptr _ _,.dat (.lit (.pointer Y))=>Z J|_,_=>Y
def Zp:V S->V S->O Bool
 |.dat (.lit .nilIface),.de _ _=>Z J|.de _ _,.dat (.lit .nilIface)=>Z J|_,_=>Y
def agL(i:TI)(a b:V S):O Bool:=
 bif i.agg then match i.lks,wV i a,wV i b with
  |[],_,_=>Y|k::c,Z as,Z d=>kG (k::c) as d|_,_,_=>Y
 else match i.kd with
  |.leaf k=>EZ k a b|.ptr=>Zo a b|.iface=>Zp a b|_=>Y
def adi(op:BinOp)(k:IntKind)(m n:Int):O (V S):=
 match op with
 |.lss=>Z (.ty .bool (aC m n))|.leq=>Z (.ty .bool (bn m n))|.gtr=>Z (.ty .bool (aC n m))|.geq=>Z (.ty .bool (bn n m))|.add=>Z (.ty (.int k) (aF k m n))|.sub=>Z (.ty (.int k) (bF k m n))|.mul=>Z (.ty (.int k) (Kl k m n))|_=>Y
def ade(op:BinOp)(k:IntKind)(m n:Int):O (V S):=
 match op with
 |.rem=>Z (.ty (.int k) (BJ m n))|.quo=>Z (.ty (.int k) (aaJ k m n))|_=>Y
def HD(i:TI)(op:BinOp)(a b:V S):O (Bool×V S):=
 match op with
 |.eql=>(agL i a b).map λr=>(W,.ty .bool r)|.neq=>(agL i a b).map λr=>(W,.ty .bool (ak r))|op=>match i.kd with
  |.leaf (.int k)=>match iu k a,iu k b with
   |some m,Z n=>match adi op k m n with
    |some d=>Z (W,d)|none=>(ade op k m n).map λd=>(nzI n,d)
   |_,_=>Y
  |.leaf .str=>match op,vZ a,vZ b with
   |.add,Z m,Z n=>Z (ac1 m n,.ty .str (di m n))|_,_,_=>Y
  |_=>Y
def LM(s:aY S)(o e:Nat):O ((t:Ty)×L (den S.A t)):=
 match s.ob.get o with
 |some (.arr t l era)=>bif Nq e era then Z ⟨t,l⟩else Y|some (.lq t l era)=>bif Nq e era then Z ⟨t,l⟩else Y|_=>Y
def abd(τ:O Ty)(t:Ty):Bool:=match τ with|some u=>sk u t|none=>J
def Tj(i:TI)(τ:O Ty)(t:Ty)(x:den S.A t)(off:Nat):O (V S):=
 bif Nq off 0&&abd τ t then Z (.ty t x)
 else
  bif Nl (Na off i.size) (S.width t)then Dv i.agg (((wC t x).drop off).take i.size)else Y
def fR:V S:=.dat (.lit (.tuple #[]))
def yO(i:TI)(τ:O Ty)(s:aY S):V S->nN S
 |.ptr o off=>match s.ob.get o with
  |some (.box a)=>
   let l:=(a.drop off).take i.size
   bif Nq (cD l) i.size then(Dv i.agg l).map λt=>(W,t,s)else Y
  |_=>Y
 |.lR t x off=>(Tj i τ t x off).map λv=>(W,v,s)|.lQ o e k off=>match LM s o e with
  |some ⟨t,l⟩=>(Tj i τ t (bp l k (S.zero t)) off).map λv=>(eR k l,v,s)|none=>Y
 |_=>Y
def Sg.mL(S:Sg):Ty->L Ty
 |.st n=>S.fs n|t=>[t]
def wo:(t:Ty)->lP S.A (S.mL t)->den S.A t
 |.st n,h=>S.ER n h|.int _,h=>h.1|.bool,h=>h.1|.str,h=>h.1|.sl _,h=>h.1|.de _,h=>h.1|.opt _,h=>h.1|.mp _ _,h=>h.1
def Fi(i:TI)(s:aY S)(a x:V S):nN S:=
 match wV i x with
 |none=>Y|some l=>match a with
  |.ptr o off=>match s.ob.get o with
   |some (.box d)=>
    bif Nl s.fl o&&(Nl (Na off (cD l)) (cD d)&&Ch l)then
     Z (W,fR,{s with ob:=s.ob.set aK o (.box (d.take off++l++d.drop (Na off (cD l)))),wr:=o::s.wr})
    else Y
   |_=>Y
  |.lQ o e k off=>match s.ob.get o with
   |some (.arr t _ _)=>match nY s ((S.mL t).drop off |>.take (cD l)) l with
    |some (_,os)=>match dU s os with
     |some b=>match b.ob.get o with
      |some (.arr t c era)=>match nY s (S.mL t) ((wC t (bp c k (S.zero t))).take off++l++(wC t (bp c k (S.zero t))).drop (Na off (cD l)))with
       |some (h,_)=>
        bif Nl b.fl o&&(Nq e era&&(Nl (Na off (cD l)) (S.width t)&&(Nl 1 (cD l)&&Ch l)))then
         Z (eR k c,fR,{b with ob:=b.ob.set aK o (.arr t (rI c k (wo t h)) era),wr:=o::b.wr})
        else Y
       |none=>Y
      |_=>Y
     |none=>Y
    |none=>Y
   |_=>Y
  |_=>Y
def JL(place:Nat->O (Nat×TI))(cells:L (V S)):L (Nat×V S)->O (L (V S))
 |[]=>Z cells|(k,v)::a=>match place k with
  |none=>Y|some (off,i)=>match wV i v with
   |none=>Y|some l=>
    bif Nl (Na off (cD l)) (cD cells)&&Ch l then JL place (cells.take off++l++cells.drop (Na off (cD l))) a else Y
def iU(fr:bX S):L (Nat×Operand)->O (L (Nat×V S))
 |[]=>Z []|(k,x)::l=>match cA fr x,iU fr l with
  |some t,Z r=>Z ((k,t)::r)|_,_=>Y
def oP(s:aY S)(e:Ty)(es:L (den S.A e)):L (Nat×V S)->O (L (den S.A e)×L Nat)
 |[]=>Z (es,[])|(k,v)::a=>match bU s e v with
  |none=>Y|some (x,os)=>
   bif Nt k (cD es)then
    match oP s e (es.set k x) a with
    |some (r,b)=>Z (r,os++b)|none=>Y
   else Y
def KM(fr:bX S):O Operand->O (O (V S))
 |none=>Z Y|some x=>(cA fr x).map Z
def CQ(dflt:Int):O (V S)->O Int
 |none=>Z dflt|some t=>iu .i64 t
def NL:V S->L Nat
 |.sh o _=>[o]|_=>[]
def v5(i:TI)(τ:O Ty)(s:aY S)(v:V S)(l h m:O (V S)):nN S:=
 match τ,CQ 0 l with
 |some .str,Z lo=>match i.kd,vZ v,m with
  |.leaf .str,Z b,Y=>match CQ (av b) h with
   |some a=>Z (fV lo a (av b),.ty .str (cY b lo a),s)|none=>Y
  |_,_,_=>Y
 |some (.sl e),Z lo=>match i.kd,Kv s e v,dU s (NL v)with
  |.slice _ _ _ _,Z c,Z d=>match CQ (av c) h,m,h with
   |some a,Y,_=>Z (fV lo a (av c),.ty (.sl e) (cY c lo a),d)|some a,Z y,Z _=>match y with
    |.kn .i64 0=>Z (fU lo 0&&fU a 0,.emp,s)|y=>match iu .i64 y with
     |some f=>Z (fV lo a (av c)&&fU f a,.kr 0 e (cY c lo a),d)|none=>Y
   |_,_,_=>Y
  |_,_,_=>Y
 |_,_=>Y
def ZU:V S->O (O Bool×Bool)
 |.gd g v=>match jk v with
  |some y=>Z (Z g,y)|none=>Y
 |.kb b=>Z (Y,b)|.ty .bool x=>Z (Y,x)|_=>Y
def orT(g:O Bool):Bool:=match g with|some g=>g|none=>W
def XL(c a b:V S):O (Bool×V S):=
 match c with
 |.kb u=>match ZU (bif u then a else b)with
  |some (p,y)=>Z (orT p,.ty .bool y)|none=>Y
 |c=>match jk c,ZU a,ZU b with
  |some t,Z (p,x),Z (q,y)=>Z (bif t then orT p else orT q,.ty .bool (aaK t x y))|_,_,_=>Y
def xe(n sz:Nat)(s:aY S)(x a:V S):nN S:=match x,a with
 |.lR t d b,.kn .i64 (.ofNat j)=>bif Nt j n then Z (W,.lR t d (Na b (Nat.mul j sz)),s)else Y|_,_=>Y
def DY{n sz:Nat}{s s':aY S}{x a t:V S}{p:Bool}(h:xe n sz s x a=Z (p,t,s')):s'=s:=by
 unfold xe at h;split at h
 .rename_i j;cases b:Nt j n<;>rw[b]at h<;>cases h;rfl
 .cases h
def j6(i:TI)(τ:O Ty)(s:aY S)(x a:V S):nN S:=
 match i.kd,τ,iu .i64 a with
 |.slice _ _ _ _,Z (.sl e),Z n=>match x with
  |.sh o r=>match LM s o r with
   |some ⟨t,l⟩=>bif sk t e then Z (aN n l,.lQ o r (az n) 0,s)else Y|none=>Y
  |v=>match Kv s e v with
   |some l=>Z (aN n l,.lR e (bp l (az n) (S.zero e)) 0,s)|none=>Y
 |.array n sz _,_,_=>xe n sz s x a|_,_,_=>Y
def qV(i:TI)(s:aY S)(k:Nat)(x:V S):nN S:=
 match i.kd with
 |.struct a=>match nth a k with
  |some (off,size,_)=>bif Nq size 0 then Y else match x with
   |.ptr o b=>Z (W,.ptr o (Na b off),s)|.lR t d b=>Z (W,.lR t d (Na b off),s)|.lQ o e j b=>Z (W,.lQ o e j (Na b off),s)|_=>Y
  |none=>Y
 |_=>Y
def Cw(i:TI)(s:aY S)(k:Nat)(x:V S):nN S:=
 match i.kd with
 |.struct a=>match nth a k,wV i x with
  |some (off,size,b),Z c=>
   let l:=(c.drop off).take size
   bif Nq (cD l) size&&!(Nq size 0)then(Dv b l).map λt=>(W,t,s)else Y
  |_,_=>Y
 |_=>Y
def Cn(i:TI)(s:aY S)(x a:V S):nN S:=
 match i.kd,iu .i64 a,vZ x with
 |.leaf .str,Z n,Z b=>Z (aN n b,.ty (.int .u8) (mA b n),s)|_,_,_=>Y
def E3(i:TI)(s:aY S)(t:TypeId)(ok:Bool)(x:V S):nN S:=
 match i.kd,x,ok with
 |.iface,_,_=>Y|_,.de u v,W=>bif Nq u t then Z (W,.gM [v,.kb W],s)else
   (Dv i.agg (i.zero.map zeroV)).map λz=>(W,.gM [z,.kb J],s)
 |_,.de u v,J=>bif Nq u t then Z (W,v,s)else Y|_,_,_=>Y
def unV(i:TI)(op:UnOp)(v:V S):O (V S):=
 match op,i.kd with
 |.not,.leaf .bool=>(jk v).map λb=>.ty .bool (ak b)|.neg,.leaf (.int k)=>(iu k v).map λn=>.ty (.int k) (PC k n)|_,_=>Y
def TY(i j:TI)(s:aY S)(v:V S):nN S:=
 match i.kd,j.kd with
 |.leaf (.int k),.leaf (.int l)=>(iu k v).map λn=>(W,.ty (.int l) (Sy l n),s)|.leaf .str,.leaf .str=>(vZ v).map λ_=>(W,v,s)|_,_=>Y
def A6(s:aY S)(k:Nat):V S->nN S
 |.gM a=>(nth a k).map λt=>(W,t,s)|_=>Y
structure MT where
 kt:Ty
 vt:Option Ty
 el:TypeId
structure fX where
 E:Env
 ty:Nat->Option Ty
 mt:Nat->Option MT:=λ_=>Y
 KT:Nat->String->Option FuncId:=λ_ _=>Y
 nst:Nat->Option Nat:=λ_=>Y
def cF(E:fX)(fr:bX S)(s:aY S)(o:Op):nN S:=
 match o with
 |.move x=>(cA fr x).map λt=>(W,t,s)|.assign x=>(cA fr x).map λt=>(W,t,s)|.pick c a b=>match cA fr c,cA fr a,cA fr b with
  |some c,Z a,Z b=>(XL c a b).map λ(p,t)=>(p,t,s)|_,_,_=>Y
 |.alloc t=>match E.E.ti t with
  |some i=>bif Nt s.aE bC then Z (W,.ptr s.aE 0,dh s (.box (i.zero.map zeroV)))else Y|none=>Y
 |.box t x=>match E.E.ti t,cA fr x with
  |some i,Z v=>bif Nt s.aE bC then(wV i v).map λg=>(W,.ptr s.aE 0,dh s (.box g))else Y|_,_=>Y
 |.build t parts=>match E.E.ti t,iU fr parts.toList with
  |some i,Z q=>match i.kd with
   |.struct w=>(JL (λk=>match nth w k with|some (off,size,z)=>Z (off,{(default:TI)with size:=size,agg:=z})|none=>Y) (i.zero.map zeroV) q).map
     λg=>(W,.agg g,s)
   |_=>Y
  |_,_=>Y
 |.buildSlice t len parts=>match E.E.ti t,E.ty t,iU fr parts.toList with
  |some i,Z (.sl e),Z q=>match i.kd with
   |.slice sz _ _ _=>
    bif Nl (Nat.mul len sz) 16777216 then
     match oP s e (List.replicate len (S.zero e)) q with
     |some (A,os)=>(dU s os).map λs=>(W,.kr len e A,s)|none=>Y
    else Y
   |_=>Y
  |_,_,_=>Y
 |.load t a=>match E.E.ti t,cA fr a with
  |some i,Z a=>yO i (E.ty t) s a|_,_=>Y
 |.store t a x=>match E.E.ti t,cA fr a,cA fr x with
  |some i,Z a,Z x=>Fi i s a x|_,_,_=>Y
 |.nilCheck x=>match cA fr x with
  |some (.ptr o b)=>Z (W,.ptr o b,s)|some (.lR t d b)=>Z (W,.lR t d b,s)|some (.lQ o e j b)=>Z (W,.lQ o e j b,s)|some (.de t v)=>Z (W,.de t v,s)|some (.fn (.func f) a b)=>Z (W,.fn (.func f) a b,s)|_=>Y
 |.binOp op t x y _=>match E.E.ti t,cA fr x,cA fr y with
  |some i,Z a,Z b=>(HD i op a b).map λ(p,d)=>(p,d,s)|_,_,_=>Y
 |.unOp op t x=>match E.E.ti t,cA fr x with
  |some i,Z v=>(unV i op v).map λd=>(W,d,s)|_,_=>Y
 |.convert src r x=>match E.E.ti src,E.E.ti r,cA fr x with
  |some i,Z j,Z v=>TY i j s v|_,_,_=>Y
 |.makeInterface t x=>match E.E.ti t,cA fr x with
  |some i,Z v=>match i.kd with
   |.iface=>Y|_=>Z (W,.de t v,s)
  |_,_=>Y
 |.makeFunc f first cap=>match jY fr first.toList,jY fr cap.toList with
  |some a,Z b=>Z (W,.fn f a b,s)|_,_=>Y
 |.extract x k=>match cA fr x with
  |some v=>A6 s k v|none=>Y
 |.fieldAddr t x k=>match E.E.ti t,cA fr x with
  |some i,Z v=>qV i s k v|_,_=>Y
 |.field t x k=>match E.E.ti t,cA fr x with
  |some i,Z v=>Cw i s k v|_,_=>Y
 |.indexAddr t x u=>match E.E.ti t,cA fr x,cA fr u with
  |some i,Z v,Z n=>j6 i (E.ty t) s v n|_,_,_=>Y
 |.index t x u=>match E.E.ti t,cA fr x,cA fr u with
  |some i,Z v,Z n=>Cn i s v n|_,_,_=>Y
 |.slice t x lo B C=>match E.E.ti t,cA fr x,KM fr lo,KM fr B,KM fr C with
  |some i,Z v,Z l,Z h,Z m=>v5 i (E.ty t) s v l h m|_,_,_,_,_=>Y
 |.typeAssert x _ t ok=>match E.E.ti t,cA fr x with
  |some i,Z v=>E3 i s t ok v|_,_=>Y
 |_=>Y
def Vu:(a:Ty)->V S->O (den S.A a)
 |.int k,v=>iu k v|.bool,v=>jk v|.str,v=>vZ v|_,_=>Y
def Gv{A:Nat->Type}:(c:Ty)->den A c->den A c->Bool
 |.int _,a,b=>aa a b|.bool,a,b=>o8 a b|.str,a,b=>gp a b|_,_,_=>J
def ET{A:Nat->Type}{β:Type}(a:Ty)(z:β)(k:den A a):L (den A a×β)->β
 |[]=>z|p::l=>bif Gv a k p.1 then p.2 else ET a z k l
def GK{A:Nat->Type}{β:Type}(a:Ty)(k:den A a):L (den A a×β)->Bool
 |[]=>J|p::l=>bif Gv a k p.1 then W else GK a k l
def iX{A:Nat->Type}{β:Type}(a:Ty)(k:den A a)(x:β):L (den A a×β)->L (den A a×β)
 |[]=>[(k,x)]|p::l=>bif Gv a k p.1 then(k,x)::l else p::iX a k x l
def yT(c d a b:Ty)(l:L (den S.A c×den S.A d)):O (L (den S.A a×den S.A b)):=
 if h:sk c a=W then if e:sk d b=W then Z (jK h▸jK e▸l)else Y else Y
def JY{β:Type}(b a:Ty)(l:L (den S.A b×β)):O (L (den S.A a×β)):=
 if h:sk b a=W then Z (jK h▸l)else Y
def X9(s:aY S)(a b:Ty):V S->O (L (den S.A a×den S.A b))
 |.mp o=>match s.ob.get o with
  |some (.map k v l)=>yT k v a b l|_=>Y
 |.dat (.lit (.map Y))=>Z []|.ty (.mp k v) l=>yT k v a b l|_=>Y
def Ar{α:Type}:O α->Bool
 |none=>J|some _=>W
def IF{α:Type}(z:α):O α->α
 |none=>z|some x=>x
def isE{α:Type}(l:L α):Bool:=match l with|[]=>W|_::_=>J
def QT(n:Int):Bool:=decide (0<=n)&&decide (n<=17179869184)
def QE(pos:Nat)(b:L UInt8):Bool:=decide (pos<b.length)
def vC(b:L UInt8)(pos:Nat):Int:=((Utf8.decode (bZ b) pos).1:Nat)
def Ir(b:L UInt8)(pos:Nat):Nat:=(Utf8.decode (bZ b) pos).2
def Oe(fr:bX S):O Operand->Bool
 |none=>W|some x=>match cA fr x with
  |some (.kn _ _)=>W|some (.ty (.int _) _)=>W|_=>J
def uh(E:fX)(fr:bX S)(s:aY S)(o:Op):nN S:=
 match o with
 |.makeMap t r=>bif Nt s.aE bC&&Oe fr r then match E.mt t with
  |some m=>match m.vt with
   |some a=>Z (W,.mp s.aE,dh s (.map m.kt a []))|none=>Z (W,.mp s.aE,dh s (.Il m.kt []))
  |none=>Y
  else Y
 |.lookup t x d ok=>match E.mt t,cA fr x,cA fr d with
  |some m,Z x,Z k=>match m.vt with
   |some a=>match Vu m.kt k,X9 s m.kt a x with
    |some k,Z l=>Z (W,bif ok then .gM [.ty a (ET m.kt (S.zero a) k l),.ty .bool (GK m.kt k l)]else .ty a (ET m.kt (S.zero a) k l),s)|_,_=>Y
   |none=>Y
  |_,_,_=>Y
 |.mapUpdate t x d y|.insert t x d y=>match E.mt t,cA fr x,cA fr d,cA fr y with
  |some m,Z (.mp o),Z k,Z y=>match Vu m.kt k,s.ob.get o with
   |some k,Z (.map f a l)=>match yT f a m.kt a l,bU s a y with
    |some l,Z (y,os)=>match dU s os with
     |some g=>bif Nl s.fl o&&abd m.vt a then Z (W,fR,{g with ob:=g.ob.set aK o (.map m.kt a (iX m.kt k y l)),wr:=o::g.wr})else Y
     |none=>Y
    |_,_=>Y
   |some k,Z (.Il f l)=>match JY f m.kt l with
    |some l=>bif Nl s.fl o then Z (W,fR,{s with ob:=s.ob.set aK o (.Il m.kt (iX m.kt k y l)),wr:=o::s.wr})else Y
    |none=>Y
   |_,_=>Y
  |_,_,_,_=>Y
 |.makeSlice t n c=>match E.E.ti t,E.ty t,cA fr n,cA fr c with
  |some i,Z (.sl e),Z n,Z c=>match i.kd,iu .i64 n,iu .i64 c with
   |.slice _ _ _ _,Z n,Z c=>bif Nt s.aE bC then Z (QT n&&fU c n,.sh s.aE 0,dh s (.arr e (List.replicate (az n) (S.zero e)) 0))else Y|_,_,_=>Y
  |_,_,_,_=>Y
 |.range t x=>match E.E.ti t,cA fr x with
  |some i,Z x=>match i.kd,vZ x with
   |.leaf .str,Z b=>bif Nt s.aE bC then Z (W,.uj s.aE,dh s (.rD b 0))else Y|_,_=>Y
  |_,_=>Y
 |.binOp .eql t x (.const .nilIface) _=>match E.E.ti t,cA fr x with
  |some i,Z (.ty (.de n) y)=>match i.kd with
   |.iface=>Z (W,.ty .bool (isNil (S.alts n) (S.uK n y)),s)|_=>Y
  |some i,Z (.dat (.lit .nilIface))=>match i.kd with
   |.iface=>Z (W,.kb W,s)|_=>Y
  |_,_=>Y
 |.binOp .neq t x (.const .nilIface) _=>match E.E.ti t,cA fr x with
  |some i,Z (.ty (.de n) y)=>match i.kd with
   |.iface=>Z (W,.ty .bool (ak (isNil (S.alts n) (S.uK n y))),s)|_=>Y
  |some i,Z (.dat (.lit .nilIface))=>match i.kd with
   |.iface=>Z (W,.kb J,s)|_=>Y
  |_,_=>Y
 |.binOp .eql t x (.const (.slice Y 0 0)) _=>match E.E.ti t,E.ty t,cA fr x with
  |some i,Z (.sl e),Z x=>match i.kd,Kv s e x with
   |.slice _ _ _ _,Z l=>Z (W,.ub (isE l),s)|_,_=>Y
  |_,_,_=>Y
 |.nilCheck x=>match cA fr x with
  |some (.ty (.de n) y)=>Z (ak (isNil (S.alts n) (S.uK n y)),.ty (.de n) y,s)|some (.ty (.opt n) y)=>Z (Ar y,.lR (.st n) (IF (S.dfl n) y) 0,s)|_=>Y
 |.binOp .eql t x (.const (.pointer Y)) _=>match E.E.ti t,cA fr x with
  |some i,Z (.ty (.opt _) y)=>match i.kd with
   |.ptr=>Z (W,.ty .bool (ak (Ar y)),s)|_=>Y
  |some i,Z (.dat (.lit (.pointer Y)))=>match i.kd with
   |.ptr=>Z (W,.kb W,s)|_=>Y
  |_,_=>Y
 |.binOp .neq t x (.const (.pointer Y)) _=>match E.E.ti t,cA fr x with
  |some i,Z (.ty (.opt _) y)=>match i.kd with
   |.ptr=>Z (W,.ty .bool (Ar y),s)|_=>Y
  |some i,Z (.dat (.lit (.pointer Y)))=>match i.kd with
   |.ptr=>Z (W,.kb J,s)|_=>Y
  |_,_=>Y
 |.typeAssert x _ t ok=>match E.E.ti t,E.ty t,cA fr x with
  |some i,Z τ,Z (.ty (.de n) y)=>match i.kd,xj (S.alts n) t with
   |.iface,_=>Y|_,Z j=>bif sk (nh (S.alts n) j) τ then
     let v:V S:=.ty (nh (S.alts n) j) (ke S.zero (S.alts n) j (S.uK n y))
     let b:=mj (S.alts n) j (S.uK n y)
     bif ok then Z (W,.gM [v,.ty .bool b],s)else Z (b,v,s)
    else Y
   |_,Y=>bif ok then Z (W,.gM [.ty τ (S.zero τ),.kb J],s)else Y
  |_,_,_=>Y
 |.build t parts=>match E.E.ti t,iU fr parts.toList with
  |some i,Z h=>match i.kd with
   |.array _ sz p=>(JL (λk=>Z (Nat.mul k sz,{(default:TI)with size:=sz,agg:=p})) (i.zero.map zeroV) h).map λq=>(W,.agg q,s)
   |_=>Y
  |_,_=>Y
 |_=>Y
def isNone{α:Type}:O α->Bool|none=>W|some _=>J
def BL(E:fX)(fr:bX S)(s:aY S)(o:Op):nN S:=
 match o with
 |.indexAddr t x g=>match cA fr x with
  |some (.sh o r)=>match s.ob.get o with
   |some (.lD n _ l era _ _ _)=>match E.E.ti t,E.ty t,cA fr g with
    |some i,Z (.sl (.st p)),Z k=>match i.kd,iu .i64 k with
     |.slice _ _ _ _,Z k=>bif Nq r era&&Nq n p then Z (aN k l,.lQ o r (az k) 0,s)else Y|_,_=>Y
    |_,_,_=>Y
   |_=>Y
  |_=>Y
 |.load t a=>match cA fr a with
  |some (.lQ o e k off)=>match s.ob.get o with
   |some (.lD n j l era m b hole)=>match E.E.ti t with
    |some i=>bif Nq e era then
      bif Nq off j then
       bif Nq i.size 1&&(!i.agg&&(isNone hole&&Nt j (S.width (.st n))))then Z (eR k l,.sx o m b k,s)else Y
      else bif Nl (Na off i.size) j||Nt j off then(Tj i Y (.st n) (bp l k (S.zero (.st n))) off).map λv=>(eR k l,v,s)else Y
     else Y
    |none=>Y
   |_=>Y
  |_=>Y
 |.store t a (.tmp c)=>match cA fr a,fr.get c with
  |some (.lQ o e k off),Z (.sx q u r i)=>match s.ob.get o with
   |some (.lD n j l era m b (Z h))=>match E.E.ti t with
    |some d=>bif (Nq e era&&(Nq off j&&(Nq q o&&(Nq u m&&(Nq r b&&(Nq d.size 1&&(!d.agg&&(Nl s.fl o&&(Nt j (S.width (.st n))&&Nt c bC)))))))))then
      Z (YI k l h i,fR,{s with ob:=s.ob.set aK o (.lD n j l era m b Y),wr:=o::s.wr})
     else Y
    |none=>Y
   |_=>Y
  |_,_=>Y
 |.buildSlice t len parts=>match parts.toList with
  |[(0,.tmp c)]=>match E.E.ti t,E.ty t,fr.get c with
   |some i,Z (.sl (.st n)),Z (.agg f)=>match E.nst n with
    |some j=>match i.kd,nth f j with
     |.slice sz _ _ _,Z .emp=>bif Nq len 1&&(Nl sz 16777216&&Nt c bC)then match bU s (.st n) (.agg f)with
      |some (x,os)=>(dU s os).map λs=>(W,.pW n j x,s)|none=>Y
      else Y
     |_,_=>Y
    |none=>Y
   |_,_,_=>Y
  |[]=>match E.E.ti t,E.ty t with
   |some i,Z (.sl _)=>match i.kd with
    |.slice _ _ _ _=>bif Nq len 0 then Z (W,.emp,s)else Y|_=>Y
   |_,_=>Y
  |_=>Y
 |.slice t x Y (Z w) Y=>match E.E.ti t,cA fr x,cA fr w with
  |some i,Z (.sh o r),Z h=>match i.kd,s.ob.get o,iu .i64 h with
   |.slice _ _ _ _,Z (.arr (.int .i64) l era),Z h=>bif Nq r era&&Nl s.fl o then
     Z (fV 0 h (av l),.sh o (Ns era),{s with ob:=s.ob.set aK o (.arr (.int .i64) (cY l 0 h) (Ns era)),wr:=o::s.wr})
    else Y
   |_,_,_=>Y
  |_,_,_=>Y
 |_=>Y
def AN(E:fX)(fr:bX S)(s:aY S)(o:Op):nN S:=match BL E fr s o with
 |some r=>Z r|none=>match cF E fr s o with
  |some r=>Z r|none=>uh E fr s o
def zV(n:Int)(ag:Bool)(sz:Nat)(cs:L (V S))(s:aY S):L Nat->L (Bool×V S×aY S)
 |[]=>[]|j::l=>match bif Nq (cD ((cs.drop (Nat.mul j sz)).take sz)) sz&&Nt 0 sz then Dv ag ((cs.drop (Nat.mul j sz)).take sz)else Y with
  |some v=>(fU n (Int.ofNat j),v,s)::zV n ag sz cs s l|none=>[]
def iF(E:fX)(fr:bX S)(s:aY S)(o:Op):O (L (Bool×V S×aY S)×Bool×V S×aY S):=
 match o with
 |.next d W=>match cA fr d with
  |some (.uj o)=>match s.ob.get o with
   |some (.rD b pos)=>bif Nl s.fl o then
     Z ([(QE pos b,.gM [.kb W,.ty (.int .i64) (Int.ofNat pos),.ty (.int .i32) (vC b pos)],{s with ob:=s.ob.set aK o (.rD b (Na pos (Ir b pos))),wr:=o::s.wr})],W,.gM [.kb J],s)
    else Y
   |_=>Y
  |_=>Y
 |.lookup t x a ok=>match E.mt t,cA fr x,cA fr a with
  |some m,Z (.mp o),Z k=>match s.ob.get o,Vu m.kt k,E.E.ti m.el with
   |some (.Il e l),Z k,Z i=>match JY e m.kt l,Dv i.agg (i.zero.map zeroV)with
    |some l,Z z=>Z (l.map λp=>(Gv m.kt k p.1,bif ok then .gM [p.2,.kb W]else p.2,s),W,bif ok then .gM [z,.kb J]else z,s)|_,_=>Y
   |_,_,_=>Y
  |_,_,_=>Y
 |.index t x a=>match E.E.ti t,cA fr x,cA fr a with
  |some i,Z (.agg c),Z k=>match i.kd,iu .i64 k with
   |.array len sz f,Z n=>bif Nq (cD c) i.size then Z (zV n f sz c s (List.range len),J,fR,s)else Y|_,_=>Y
  |_,_,_=>Y
 |_=>Y
def Ua(i:TI)(e:Ty)(s:aY S)(x y:V S):nN S:=
 bif !(Nt s.aE bC)then Y else
 match i.kd,Kv s e y with
 |.slice _ _ _ _,Z new=>
  match x with
  |.emp=>Z (W,.sh s.aE 0,dh s (.arr e new 0))|.kr _ t a=>match oC t e a with
   |some a=>match y with
    |.kr (_+1) _ _=>Z (dF a new,.sh s.aE 0,dh s (.arr e (di a new) 0))|_=>Z (dF a new,.ty (.sl e) (di a new),s)
   |none=>Y
  |.sh o r=>match s.ob.get o with
   |some (.arr t a era)=>match oC t e a with
    |some a=>
     bif Nl s.fl o&&(Nq r era&&!(NL y).contains o)then
      Z (dF a new,.sh o (Ns era),{s with ob:=s.ob.set aK o (.arr e (di a new) (Ns era)),wr:=o::s.wr})
     else Y
    |none=>Y
   |_=>Y
  |_=>Y
 |_,_=>Y
def ie(E:fX)(s:aY S)(b:Builtin)(a:Array TypeId)(args:L (V S)):nN S:=
 match b,args with
 |.len,[x]=>match(nth a.toList 0).bind E.E.ti,(nth a.toList 0).bind E.ty with
  |some i,Z .str=>match i.kd,vZ x with
   |.leaf .str,Z b=>Z (W,.ty (.int .i64) (av b),s)|_,_=>Y
  |some i,Z (.sl e)=>match i.kd with
   |.slice _ _ _ _=>(Kv s e x).map λc=>(W,.ty (.int .i64) (av c),s)|_=>Y
  |_,_=>Y
 |.append,[x,y]=>match a.toList with
  |[t,u]=>match E.E.ti t,E.E.ti u,E.ty t with
   |some i,Z j,Z (.sl e)=>match j.kd with
    |.slice _ _ _ _=>Ua i e s x y|_=>Y
   |_,_,_=>Y
  |_=>Y
 |_,_=>Y
def abS(a b:Int):Int:=bif aC a b then b else a
def abR(a b:Int):Int:=bif aC b a then b else a
def tX(E:fX)(s:aY S)(b:Builtin)(a:Array TypeId)(args:L (V S)):nN S:=
 match b,args with
 |.len,[.mp o]=>match(nth a.toList 0).bind E.mt,s.ob.get o with
  |some _,Z (.map _ _ l)=>Z (W,.ty (.int .i64) (av l),s)|some _,Z (.Il _ l)=>Z (W,.ty (.int .i64) (av l),s)|_,_=>Y
 |.max,[x,y]=>match iu .i64 x,iu .i64 y with
  |some m,Z n=>Z (W,.ty (.int .i64) (abS m n),s)|_,_=>Y
 |.min,[x,y]=>match iu .i64 x,iu .i64 y with
  |some m,Z n=>Z (W,.ty (.int .i64) (abR m n),s)|_,_=>Y
 |_,_=>Y
def mR(E:fX)(s:aY S)(b:Builtin)(a:Array TypeId)(args:L (V S)):nN S:=
 match b,args with
 |.len,[.sh o r]=>match s.ob.get o with
  |some (.lD n _ l era _ _ _)=>match(nth a.toList 0).bind E.E.ti,(nth a.toList 0).bind E.ty with
   |some i,Z (.sl (.st g))=>match i.kd with
    |.slice _ _ _ _=>bif Nq r era&&Nq n g then Z (W,.ty (.int .i64) (av l),s)else Y|_=>Y
   |_,_=>Y
  |_=>Y
 |.append,[.sh o r,.pW g v x]=>match s.ob.get o with
  |some (.lD n j l era m c Y)=>match a.toList with
   |[t,u]=>match E.E.ti t,E.E.ti u,E.ty t,MZ s m c with
    |some i,Z h,Z (.sl (.st p)),Z ⟨f,d⟩=>match i.kd,h.kd,oC (.st g) (.st n) [x]with
     |.slice _ _ _ _,.slice _ _ _ _,Z new=>bif Nq r era&&(Nq n p&&(Nq j v&&(Nl s.fl o&&(Nl s.fl m&&(Nt m s.aE&&(Nt s.aE bC&&(Eo S n j f&&Nl 1 (S.width f))))))))then
       Z (cm (ab3 l d) (dF l new),.sh o (Ns era),{s with ob:=(s.ob.set aK m (.rws f (di d [[]]) c)).set aK o (.lD n j (di l new) (Ns era) m c Y),wr:=o::m::s.wr})
      else Y
     |_,_,_=>Y
    |_,_,_,_=>Y
   |_=>Y
  |_=>Y
 |.append,[.sx o m r k,y]=>match s.ob.get o,s.ob.get m with
  |some (.lD n j l era w c Y),Z (.rws t d e)=>match a.toList with
   |[q,u]=>match E.E.ti q,E.E.ti u,E.ty q,Kv s t y with
    |some i,Z h,Z (.sl f),Z new=>match i.kd,h.kd,y with
     |_,_,.sh _ _=>Y|.slice _ _ _ _,.slice _ _ _ _,_=>bif Nq m w&&(Nq r c&&(Nq r e&&(Nl s.fl o&&(Nl s.fl m&&(Nt o bC&&sk f t)))))then
       Z (cm (eR k d) (dF (bp d k []) new),.sx o m (Ns r) k,{s with ob:=(s.ob.set aK m (.rws t (rI d k (di (bp d k []) new)) (Ns r))).set aK o (.lD n j l era m (Ns r) (Z k)),wr:=o::m::s.wr})
      else Y
     |_,_,_=>Y
    |_,_,_,_=>Y
   |_=>Y
  |_,_=>Y
 |_,_=>Y
def LA{A:Nat->Type}{β:Type}(a:Ty)(k:den A a):L (den A a×β)->L (den A a×β)
 |[]=>[]|p::l=>bif Gv a k p.1 then l else p::LA a k l
def tY(E:fX)(s:aY S)(b:Builtin)(a:Array TypeId)(args:L (V S)):nN S:=
 match b,args with
 |.delete,[.mp o,k]=>match(nth a.toList 0).bind E.mt,s.ob.get o with
  |some m,Z (.map c d l)=>match JY c m.kt l,Vu m.kt k with
   |some l,Z k=>bif Nl s.fl o then Z (W,fR,{s with ob:=s.ob.set aK o (.map m.kt d (LA m.kt k l)),wr:=o::s.wr})else Y
   |_,_=>Y
  |_,_=>Y
 |_,_=>Y
def lG(E:fX)(s:aY S)(b:Builtin)(a:Array TypeId)(args:L (V S)):nN S:=match mR E s b a args with
 |some r=>Z r|none=>match ie E s b a args with
  |some r=>Z r|none=>match tX E s b a args with
   |some r=>Z r|none=>tY E s b a args
end
variable {S:Sg}
section
def aT{α:Type}(c:Bool)(x:O α):O α:=bif c then x else Y
def ai{α:Type}(c:Bool)(x y:O α):O α:=bif c then x else y
def ah{α β:Type}(x:O α)(f:α->O β):O β:=match x with|some a=>f a|none=>Y
def imp(c p:Bool):Bool:=bif c then p else W
inductive Ck where
 |dat (t:Ty)|own (e:Ty)|j3 (n j:Nat) (t:Ty)|nil (e:Ty)|ptr (t:Ty)
@[reducible] def Ck.ty:Ck->Ty|.dat t=>t|.own e=>.sl e|.j3 n _ _=>.sl (.st n)|.nil e=>.sl e|.ptr t=>t
inductive Bk where
 |cells (cs:List Ck)|map (kt vt:Ty)|rD|link (m:Bool) (pre post:List Ck)
inductive Pk where
 |one (c:Ck)|box (k:Bk)|hid (k:Bk)
@[reducible] def gx(A:Nat->Type):L Ck->Type
 |[]=>U|c::l=>den A c.ty×gx A l
@[reducible] def yp(A:Nat->Type):Bk->Type
 |.cells a=>gx A a|.map b c=>L (den A b×den A c)|.rD=>L UInt8×Nat|.link _ pre post=>gx A pre×gx A post
@[reducible] def ga(A:Nat->Type):L Pk->Type
 |[]=>U|.one c::l=>den A c.ty×ga A l|.box k::l=>yp A k×ga A l|.hid k::l=>yp A k×ga A l
@[reducible] def iz(A:Nat->Type):L Pk->Type
 |[]=>U|.one _::l=>iz A l|.box k::l=>yp A k×iz A l|.hid k::l=>yp A k×iz A l
inductive Rx(R P:Type) where
 |ok (r:R)|iE (p:P)
@[reducible] def RT:Bool->Type->Type->Type
 |false,R,_=>R|true,R,P=>Rx R P
def RT.res{R P:Type}:(a:Bool)->RT a R P->Rx R P
 |false,r=>Rx.ok r|true,r=>r
def RT.ok{R P:Type}:(a:Bool)->R->RT a R P
 |false,r=>r|true,r=>Rx.ok r
def RT.iE{R P:Type}:(a:Bool)->P->O (RT a R P)
 |false,_=>Y|true,p=>Z (Rx.iE p)
structure lz(S:Sg) where
 ps:List Pk
 rs:List Ck
 pn:Bool
 F:ga S.A ps->Option (RT pn (gx S.A rs×iz S.A ps) (den S.A S.pt×iz S.A ps))
def o4(s:aY S):(c:Ck)->V S->O (den S.A c.ty×L Nat×L Nat)
 |.dat t,v=>match bU s t v with
  |some (x,os)=>Z (x,os,[])|none=>Y
 |.own e,.emp=>bif Nl 1 (S.width e)then Z ([],[],[])else Y|.own e,.sh o r=>match s.ob.get o with
  |some (.arr t l era)=>bif Nq r era&&(Nl s.fl o&&Nl s.lo o)then match oC t e l with|some l=>Z (l,[],[o])|none=>Y else Y
  |_=>Y
 |.nil _,.emp=>Z ([],[],[])|.j3 n j t,.emp=>bif Nl 1 (S.width (.st n))&&(Eo S n j t&&Nt j (S.width (.st n)))then Z ([],[],[])else Y|.j3 n j t,.sh o r=>match s.ob.get o with
  |some (.lD b g l era m a Y)=>match MZ s m a with
   |some ⟨d,f⟩=>bif (Nq r era&&(Nq j g&&(Nl s.fl o&&(Nl s.lo o&&(Nl s.fl m&&(Nl s.lo m&&(Nt m s.aE&&(Eo S b j d&&sk d t))))))))then match oC (.st b) (.st n) (kS b j d l f)with
     |some l=>Z (l,[],[o,m])|none=>Y
    else Y
   |none=>Y
  |_=>Y
 |_,_=>Y
def gf(s:aY S):(cs:L Ck)->L (V S)->O (gx S.A cs×L Nat×L Nat)
 |[],[]=>Z ((),[],[])|c::cs,v::l=>match o4 s c v,gf s cs l with
  |some (x,a,b),Z (h,d,e)=>Z ((x,h),a++d,b++e)|_,_=>Y
 |_,_=>Y
def Vt:Bk->Nat->V S
 |.cells _,o=>.ptr o 0|.map _ _,o=>.mp o|.rD,o=>.uj o|.link _ _ _,o=>.ptr o 0
def Ei:Bk->V S->O Nat
 |.cells _,.ptr o 0=>Z o|.map _ _,.mp o=>Z o|.rD,.uj o=>Z o|.link _ _ _,.ptr o 0=>Z o|_,_=>Y
def lkV:Bool->Nat->V S
 |true,o=>.mp o|false,o=>.ptr o 0
def lkO:Bool->O (V S)->O Nat
 |true,Z (.mp o)=>Z o|false,Z (.ptr o 0)=>Z o|_,_=>Y
def l8(s:aY S):(k:Bk)->O (u9 S)->O (yp S.A k×L Nat×L Nat×O Nat)
 |.cells d,Z (.box c)=>match gf s d c with
  |some (x,a,b)=>Z (x,a,b,Y)|none=>Y
 |.map e f,Z (.map k v l)=>match yT k v e f l with
  |some l=>Z (l,[],[],Y)|none=>Y
 |.rD,Z (.rD b n)=>Z ((b,n),[],[],Y)|.link m pre post,Z (.box c)=>match gf s pre (c.take (cD pre)),lkO m (nth c (cD pre)),gf s post (c.drop (Ns (cD pre)))with
  |some (x,a,b),Z o,Z (y,g,h)=>Z ((x,y),a++g,b++h,Z o)|_,_,_=>Y
 |_,_=>Y
def Gq:Bk->L Pk->Bool
 |.link _ _ _,.hid _::_=>W|.link _ _ _,_=>J|_,_=>W
def eD(s:aY S):(ps:L Pk)->L (V S)->O Nat->O (ga S.A ps×L Nat×L Nat×L Nat)
 |[],[],_=>Z ((),[],[],[])|.one c::ps,v::l,_=>match o4 s c v,eD s ps l Y with
  |some (x,a,b),Z (h,d,e,f)=>Z ((x,h),a++d,b++e,f)|_,_=>Y
 |.box k::ps,v::l,_=>match Ei k v with
  |some o=>bif Nl s.fl o&&Gq k ps then match l8 s k (s.ob.get o)with
   |some (x,a,b,nx)=>match eD s ps l nx with
    |some (h,d,e,f)=>Z ((x,h),a++d,b++e,o::f)|none=>Y
   |none=>Y
   else Y
  |none=>Y
 |.hid k::ps,l,Z o=>bif Nl s.fl o&&Gq k ps then match l8 s k (s.ob.get o)with
   |some (x,a,b,nx)=>match eD s ps l nx with
    |some (h,d,e,f)=>Z ((x,h),a++d,b++e,o::f)|none=>Y
   |none=>Y
   else Y
 |_,_,_=>Y
def vX(s:aY S):(c:Ck)->den S.A c.ty->V S×aY S
 |.dat t,x=>(.ty t x,s)|.own e,l=>(.sh s.aE 0,dh s (.arr e l 0))|.nil _,_=>(.emp,s)|.ptr t,x=>(.lR t x 0,s)|.j3 n j t,l=>(.sh s.aE 0,dh (dh s (.lD n j l 0 (Ns s.aE) 0 Y)) (.rws t (zP n j t l) 0))
def ig(s:aY S):(cs:L Ck)->gx S.A cs->L (V S)×aY S
 |[],_=>([],s)|c::cs,x=>match vX s c x.1 with
  |(v,s)=>match ig s cs x.2 with
   |(l,s)=>(v::l,s)
def fC:L Nat->O Nat
 |[]=>Y|a::_=>Z a
def XG(m:Bool):O Nat->L (V S)
 |some o=>[lkV m o]|none=>[]
def lf(s:aY S)(nx:O Nat):(k:Bk)->yp S.A k->u9 S×aY S
 |.cells c,x=>match ig s c x with
  |(a,s)=>(.box a,s)
 |.map d e,l=>(.map d e l,s)|.rD,x=>(.rD x.1 x.2,s)|.link m pre post,x=>match ig s pre x.1 with
  |(a,s)=>match ig s post x.2 with
   |(b,s)=>(.box (a++(XG m nx++b)),s)
def l6(s:aY S):(ps:L Pk)->L Nat->iz S.A ps->O (aY S)
 |[],[],_=>Z s|.one _::ps,a,h=>l6 s ps a h|.box k::ps,o::a,h=>match lf s (fC a) k h.1 with
  |(ob,s)=>l6 {s with ob:=s.ob.set aK o ob,wr:=o::s.wr} ps a h.2
 |.hid k::ps,o::a,h=>match lf s (fC a) k h.1 with
  |(ob,s)=>l6 {s with ob:=s.ob.set aK o ob,wr:=o::s.wr} ps a h.2
 |_,_,_=>Y
def aiH(b:Nat):O Nat->Bool
 |none=>W|some o=>Nq o (Ns b)
def uC(s:aY S):Nat->(ps:L Pk)->O (iz S.A ps×L Nat×L Nat)
 |_,[]=>Z ((),[],[])|b,.one _::ps=>uC s b ps|b,.box k::ps=>match l8 s k (s.ob.get b),uC s (Ns b) ps with
  |some (x,a,c,nx),Z (h,d,e)=>bif aiH b nx&&Gq k ps then Z ((x,h),a++d,c++e)else Y|_,_=>Y
 |b,.hid k::ps=>match l8 s k (s.ob.get b),uC s (Ns b) ps with
  |some (x,a,c,nx),Z (h,d,e)=>bif aiH b nx&&Gq k ps then Z ((x,h),a++d,c++e)else Y|_,_=>Y
def sw:L Nat->Bool
 |[]=>W|a::l=>!(l.contains a)&&sw l
def CR(l m:L Nat):Bool:=l.all λa=>!(m.contains a)
def Ef:L (V S)->V S
 |[x]=>x|l=>.gM l
inductive vo(S:Sg) where
 |rR|ext (id:Nat)|ret|iE (v:V S)
abbrev Sh:=L (Nat×Pk)
inductive Pt where
 |slot (k:Nat)|cell (p:Pt) (i:Nat)|cap (p:Pt) (i:Nat)|Ms (p:Pt) (k:Nat)
structure LSh where
 sh:Sh
 pts:List Pt:=[]
 al:List (Nat×Nat):=[]
 pl:Nat:=0
structure JSh where
 sh:Sh
 pts:List Pt:=[]
 ks:List Pt:=[]
 rs:List Ck:=[]
structure eF(S:Sg) where
 T:fX
 II:FuncId->Option (lz S)
 sh:FuncId->Nat->Option LSh
 pn:Bool:=J
 cj:FuncId->List (V S)->Option JSh:=λ_ _=>Y
def pY:V S->L (V S)->O (FuncId×L (V S))
 |.fn (.func f) first cap,args=>Z (f,first++args++cap)
 |_,_=>Y
inductive Tgt where|fn (f:FuncId)|yl (o:Nat)|jn (f:FuncId)|yd (o:Nat)
abbrev fY(S:Sg):=Tgt->L (V S)->aY S->{ω:Type}->(V S->aY S->O ω)->(V S->aY S->O ω)->O ω
mutual
def iP(os:L Nat):V S->Bool
 |.ptr o _=>os.contains o|.lQ o _ _ _=>os.contains o|.sh o _=>os.contains o|.mp o=>os.contains o|.rE o=>os.contains o|.uj o=>os.contains o|.sx o m _ _=>os.contains o||os.contains m|.fn _ a b=>oJ os a||oJ os b|.de _ v=>iP os v|.agg c=>oJ os c|.gM c=>oJ os c|.gd _ v=>iP os v|_=>J
def oJ(os:L Nat):L (V S)->Bool
 |[]=>J|v::l=>iP os v||oJ os l
end
def KV{α:Type}(os:L Nat):L (α×V S)->Bool
 |[]=>J|p::l=>iP os p.2||KV os l
def mJ(p:V S->Bool):Tr (V S)->Bool
 |.nil=>J|.node v l r=>(match v with|some x=>p x|none=>J)||(mJ p l||mJ p r)
def KQ(os:L Nat):u9 S->Bool
 |.box a=>oJ os a|.Il _ l=>KV os l|.lp l=>mJ (iP os) l.fr.tm|.lD _ _ _ _ m _ _=>os.contains m|_=>J
namespace Tr
variable {α:Type}
def del:Nat->Tr α->Nat->Tr α
 |0,t,_=>t|_+1,.nil,_=>.nil|n+1,.node v l r,k=>match k with
  |0=>.node Y l r|k+1=>match Nq (Nat.mod k 2) 0 with
   |true=>.node v (del n l (Nat.div k 2)) r|false=>.node v l (del n r (Nat.div k 2))
def keep(p:α->Bool):Tr α->Tr α
 |.nil=>.nil|.node v l r=>.node (match v with|some x=>bif p x then Z x else Y|none=>Y) (keep p l) (keep p r)
end Tr
namespace Tr
variable {α:Type}
def mapA(f:α->α):Tr α->Tr α
 |.nil=>.nil|.node v l r=>.node (match v with|some x=>Z (f x)|none=>Y) (mapA f l) (mapA f r)
def jH(p:α->Bool):Tr α->L Nat
 |.nil=>[]|.node v l r=>(match v with|some x=>bif p x then[0]else[]|none=>[])++((jH p l).map (λk=>Ns (Nat.mul 2 k))++(jH p r).map (λk=>Ns (Ns (Nat.mul 2 k))))
end Tr
def zb:V S:=.gd J fR
def ri(os:L Nat)(v:V S):V S:=bif iP os v then zb else v
def nV(os:L Nat):u9 S->u9 S
 |.box b=>.box (b.map (ri os))|.Il c l=>.Il c (l.map λp=>(p.1,ri os p.2))|.lp l=>.lp {l with fr:={l.fr with tm:=l.fr.tm.mapA (ri os)}}
 |.lD n j l era m a hole=>bif os.contains m then .gone else .lD n j l era m a hole|o=>o
def forget(os:L Nat)(s:aY S):aY S:=match os with
 |[]=>s|_=>{s with ob:=s.ob.mapA (nV os),wr:=s.ob.jH (KQ os)++s.wr}
def yS(bs:L Nat)(s:aY S):aY S:={s with ob:=bs.foldl (λt o=>t.del aK o) s.ob}
def sU.one:sU S->Bool
 |.marks _|.ko=>J|_=>W
def eA(p:V S->Bool):sU S->sU S
 |.call f args=>bif p f||args.any p then .bad else .call f args|.mark o=>bif p (.ptr o 0)then .bad else .mark o|.marks o=>bif p (.sh o 0)then .ko else .marks o|.ko=>.ko|.bad=>.bad
def dy(os:L Nat)(fr:bX S):bX S:=match os with
 |[]=>fr|_=>{fr with tm:=fr.tm.keep λv=>!(iP os v),df:=fr.df.map (eA (iP os))}
def jI:L Ck->Bool
 |[]=>W|.dat _::l=>jI l|.own _::_=>J|.j3 ..::_=>J|.nil _::_=>J|.ptr _::_=>J
def tS:(cs:L Ck)->gx S.A cs->L (V S)
 |[],_=>[]|c::cs,x=>.ty c.ty x.1::tS cs x.2
def ct:L Pk->Bool
 |[]=>W|.one (.dat _)::l=>ct l|_=>J
def W3:Ty->Bool
 |.int _|.bool|.str=>W|_=>J
def kU:L Ck->Bool
 |[]=>W|.dat t::l=>W3 t&&kU l|.own _::_=>J|.j3 ..::_=>J|.nil _::_=>J|.ptr _::_=>J
def YT:L Pk->Bool
 |[]=>J|.one (.ptr _)::_=>W|_::l=>YT l
def QL:L Pk->Bool
 |[]=>W|.one (.dat _)::l=>QL l|.one (.ptr _)::l=>QL l|_=>J
def aiw(s:aY S):(t:Ty)->V S->O (den S.A t×L Nat)
 |.mp k v,.mp o=>match s.ob.get o with
  |some (.map a b l)=>match yT a b k v l with
   |some l=>Z (l,[])|none=>Y
  |_=>Y
 |t,v=>bU s t v
def AE(s:aY S):(ts:L Ty)->L (V S)->O (lP S.A ts×L Nat)
 |[],[]=>Z ((),[])|t::ts,v::l=>match aiw s t v,AE s ts l with
  |some (x,os),Z (h,a)=>Z ((x,h),os++a)|_,_=>Y
 |_,_=>Y
def afk(s:aY S):(t:Ty)->L (V S)->O (den S.A t×L Nat)
 |.st n,a=>match AE s (S.fs n) a with
  |some (h,os)=>Z (S.ER n h,os)|none=>Y
 |_,_=>Y
def ad4(s:aY S)(t:Ty):V S->O (den S.A t×L Nat)
 |.lR u y 0=>match wX u t y with
  |some x=>Z (x,[])|none=>Y
 |.ptr o 0=>match s.ob.get o with
  |some (.box a)=>afk s t a|_=>Y
 |_=>Y
def lM(s:aY S):(ps:L Pk)->L (V S)->O (ga S.A ps×L Nat)
 |[],[]=>Z ((),[])|.one (.dat t)::ps,v::l=>match bU s t v,lM s ps l with
  |some (x,os),Z (h,a)=>Z ((x,h),os++a)|_,_=>Y
 |.one (.ptr t)::ps,v::l=>match ad4 s t v,lM s ps l with
  |some (x,os),Z (h,a)=>Z ((x,h),os++a)|_,_=>Y
 |_,_=>Y
def Yh(c:lz S):Bool:=ct c.ps&&(kU c.rs&&!c.pn)
mutual
def cG(p:Nat->Bool):V S->Bool
 |.ptr o _=>p o|.lQ o _ _ _=>p o|.sh o _=>p o|.mp o=>p o|.rE o=>p o|.uj o=>p o|.sx o m _ _=>p o||p m|.fn _ a b=>iJ p a||iJ p b|.de _ v=>cG p v|.agg c=>iJ p c|.gM c=>iJ p c|.gd _ v=>cG p v|_=>J
def iJ(p:Nat->Bool):L (V S)->Bool
 |[]=>J|v::l=>cG p v||iJ p l
end
def dL(ow:L Nat)(aE:Nat)(o:Nat):Bool:=ow.contains o||Nl aE o
def mM:L (V S)->Nat->Tr (V S)->Tr (V S)
 |[],_,t=>t|a::l,k,t=>mM l (Ns k) (t.set aK k a)
def W7(a:L Ck)(v:V S):L (V S):=match a,v with|[_],v=>[v]|_,.gM l=>l|_,v=>[v]
def lB(sh:Sh):L Pk:=sh.map (·.2)
def It(fr:bX S)(s:aY S):Pt->O (V S)
 |.slot k=>fr.get k|.cell p i=>match It fr s p with
  |some (.ptr o 0)=>match s.ob.get o with
   |some (.box a)=>nth a i|_=>Y
  |_=>Y
 |.cap p i=>match It fr s p with
  |some (.fn _ _ a)=>nth a i|_=>Y
 |.Ms p k=>match It fr s p with
  |some (.rE o)=>match s.ob.get o with
   |some (.lp l)=>l.fr.get k|_=>Y
  |_=>Y
def rQ(fr:bX S)(s:aY S):Sh->L Pt->O (L Nat)
 |[],[]=>Z []|(_,.one _)::l,a=>rQ fr s l a|(_,.box k)::l,p::a=>match It fr s p with
  |some v=>match Ei k v,rQ fr s l a with
   |some o,Z r=>Z (o::r)|_,_=>Y
  |none=>Y
 |(_,.hid k)::l,p::a=>match It fr s p with
  |some v=>match Ei k v,rQ fr s l a with
   |some o,Z r=>Z (o::r)|_,_=>Y
  |none=>Y
 |_,_=>Y
def vN(fr:bX S):Sh->L Nat->O (L (V S))
 |[],[]=>Z []|(k,.one _)::l,a=>match fr.get k,vN fr l a with
  |some v,Z r=>Z (v::r)|_,_=>Y
 |(_,.box k)::l,o::a=>match vN fr l a with
  |some r=>Z (Vt k o::r)|none=>Y
 |(_,.hid _)::l,_::a=>vN fr l a|_,_=>Y
def m9:(sh:Sh)->L Nat->ga S.A (lB sh)->bX S->aY S->O (bX S×aY S)
 |[],[],_,fr,s=>Z (fr,s)|(k,.one c)::l,a,x,fr,s=>match vX s c x.1 with
  |(v,s)=>bif Nt k fr.n&&Nl s.aE bC then m9 l a x.2 (fr.put k v) s else Y
 |(_,.box k)::l,o::a,x,fr,s=>match lf s (fC a) k x.1 with
  |(ob,s)=>bif Nl s.aE bC then m9 l a x.2 fr {s with ob:=s.ob.set aK o ob}else Y
 |(_,.hid k)::l,o::a,x,fr,s=>match lf s (fC a) k x.1 with
  |(ob,s)=>bif Nl s.aE bC then m9 l a x.2 fr {s with ob:=s.ob.set aK o ob}else Y
 |_,_,_,_,_=>Y
def zx{α:Type}(p:Nat->Bool):L (α×V S)->Bool
 |[]=>J|x::l=>cG p x.2||zx p l
def gD(p:Nat->Bool):u9 S->Bool
 |.box a=>iJ p a|.Il _ l=>zx p l|.lp l=>mJ (cG p) l.fr.tm|.lD _ _ _ _ m _ _=>p m|_=>J
def fQ(p:Nat->Bool)(v:V S):V S:=bif cG p v then zb else v
def eX(p:Nat->Bool):u9 S->u9 S
 |.box b=>.box (b.map (fQ p))|.Il c l=>.Il c (l.map λx=>(x.1,fQ p x.2))|.lp l=>.lp {l with fr:={l.fr with tm:=l.fr.tm.mapA (fQ p)}}
 |.lD n j l era m a hole=>bif p m then .gone else .lD n j l era m a hole|o=>o
def cJ(ds ow bs:L Nat)(fr:bX S)(s1:aY S):bX S×aY S:=
 ({fr with tm:=(ds.foldl (λt k=>t.del aK k) fr.tm).keep λv=>!(cG (dL ow s1.aE) v),df:=fr.df.map (eA (cG (dL ow s1.aE)))},yS bs {s1 with ob:=s1.ob.mapA (eX (dL ow s1.aE)),wr:=[],dr:=[]})
def PF:Sh->Sh
 |[]=>[]|(_,.one _)::l=>PF l|(k,.box b)::l=>(k,.box b)::PF l|(k,.hid b)::l=>(k,.hid b)::PF l
def qE(sh:Sh)(bs:L Nat)(fr:bX S)(s:aY S):O (ga S.A (lB sh)×aY S×L Nat):=
 match vN fr sh bs with
 |none=>Y|some f=>match eD s (lB sh) f Y with
  |none=>Y|some (x,e,d,c)=>match dU s e with
   |none=>Y|some g=>bif sw d&&(CR d e&&(sw c&&(Nq (cD c) (cD bs)&&(c.zip bs).all λ(a,b)=>Nq a b)))then Z (x,g,d)else Y
def jL:u9 S->Bool
 |.arr ..|.lq ..|.lD ..|.rws ..|.gone|.Gd=>J|_=>W
def ptO(fr:bX S)(s:aY S)(p:Pt):O Nat:=match It fr s p with
 |some (.ptr o 0)=>Z o|some (.mp o)=>Z o|some (.rE o)=>Z o|_=>Y
def XF(fr:bX S)(s:aY S):L Pt->O (L Nat)
 |[]=>Z []|p::l=>match ptO fr s p,XF fr s l with
  |some o,Z r=>Z (o::r)|_,_=>Y
def IB:L Nat->Nat
 |[]=>0|a::l=>bif Nl (IB l) a then a else IB l
def zf:Sh->L Nat
 |[]=>[]|(k,.one _)::l=>k::zf l|(_,.box _)::l=>zf l|(_,.hid _)::l=>zf l
def Cd(l:L Nat)(o:Nat):Bool:=!(l.contains o)
def TN(args:L (V S)):bX S:={n:=cD args,tm:=mM args 0 .nil}
def Rm(l:L Nat)(sh:Sh)(fr:bX S):bX S:={n:=fr.n,tm:=((zf sh).foldl (λt k=>t.del aK k) fr.tm).keep λv=>!(cG (Cd l) v)}
def DF(ob:Tr (u9 S)):L Nat->Tr (u9 S)
 |[]=>.nil|o::l=>match ob.get o with
  |some x=>(DF ob l).set aK o x|none=>DF ob l
def stJ(bs ks:L Nat)(s:aY S):aY S:=⟨DF s.ob ks,Ns (IB (bs++ks)),s.fl,0,[],[]⟩
def frE:bX S:={n:=0,tm:=.nil}
def getAll(fr:bX S):Nat->Nat->O (L (V S))
 |_,0=>Z []|j,n+1=>match fr.get j,getAll fr (Ns j) n with
  |some v,Z l=>Z (v::l)|_,_=>Y
def T1(l ks:L Nat)(s:aY S):Bool:=ks.all λo=>match s.ob.get o with
 |some ob=>jL ob&&!(gD (Cd l) ob)|none=>J
abbrev JT(S:Sg)(sh:Sh)(rs:L Ck):=gx S.A rs×ga S.A (lB (PF sh))
def ad6(sh:Sh)(a:L Ck)(bs ks:L Nat)(v:V S)(s:aY S):O (JT S sh a):=
 match gf s a (W7 a v),qE (PF sh) bs frE s with
 |some (r,_,_),Z (y,b,_)=>bif ks.all (λo=>!(b.wr.contains o))then Z (r,y)else Y|_,_=>Y
def Qm(call:fY S)(f:FuncId)(sh:Sh)(a:L Ck)(bs ks:L Nat)(fr:bX S)(s:aY S)(x:ga S.A (lB sh)):O (JT S sh a):=
 match m9 sh bs x fr s with
 |none=>Y|some (fr,s)=>match getAll fr 0 fr.n with
  |none=>Y|some args=>call (.jn f) args s (ad6 sh a bs ks) (λ_ _=>Y)
section
variable (E:eF S)(call:fY S){ω:Type}
def agJ(s:aY S)(c:lz S)(args:L (V S))(k:V S->aY S->L Nat->O ω):O ω:=
 bif QL c.ps&&(kU c.rs&&!c.pn)then match lM s c.ps args with
  |none=>Y|some (x,a)=>match dU s a with
   |none=>Y|some _=>ah (c.F x) λr=>match RT.res c.pn r with
    |.ok r=>k (Ef (tS c.rs r.1)) s []|.iE _=>Y
 else Y
def OA(s:aY S)(c:lz S)(args:L (V S))(kp:V S->aY S->O ω)(k:V S->aY S->L Nat->O ω):O ω:=bif YT c.ps then agJ s c args k else
 match eD s c.ps args Y with
 |none=>Y|some (x,f,a,d)=>match dU s f with
  |none=>Y|some b=>bif Yh c then ah (c.F x) λr=>match RT.res c.pn r with
     |.ok r=>k (Ef (tS c.rs r.1)) s []|.iE _=>Y
   else bif sw a&&(sw d&&CR a f)then
    ah (c.F x) λr=>match RT.res c.pn r with
     |.ok r=>match l6 (yS d (forget a {b with wr:=a++b.wr,dr:=a++b.dr})) c.ps d r.2 with
      |none=>Y|some e=>match ig e c.rs r.1 with
       |(l,g)=>bif Nl g.aE bC then k (Ef l) g a else Y
     |.iE p=>match l6 (yS d (forget a {b with wr:=a++b.wr,dr:=a++b.dr})) c.ps d p.2 with
      |none=>Y|some e=>match a with
       |[]=>bif Nl e.aE bC then kp (.ty S.pt p.1) e else Y|_::_=>Y
   else Y
def yW(k:V S->aY S->O ω)(d:O ω):L (Bool×V S×aY S)->O ω
 |[]=>d|p::l=>ai p.1 (k p.2.1 p.2.2) (yW k d l)
def evJ(a:JSh)(s:aY S)(f:FuncId)(args:L (V S))(k:V S->aY S->L Nat->O ω):O ω:=
 match rQ (TN args) s a.sh a.pts,XF (TN args) s a.ks with
 |some b,Z d=>match qE a.sh b (TN args) s with
  |none=>Y|some (g,c,e)=>bif (Nt (cD args) bC&&(zf a.sh).all λk=>Nt k bC)&&(kU a.rs&&(T1 (b++d) d c&&Nl (Ns (IB (b++d))) c.aE))then
    ah (Qm call f a.sh a.rs b d (Rm (b++d) a.sh (TN args)) (stJ b d c) g) λy=>
     match m9 (PF a.sh) b y.2 frE (cJ [] e b frE c).2 with
     |none=>Y|some (_,h)=>k (Ef (tS a.rs y.1)) {h with wr:=c.ob.jH (gD (dL e c.aE))++(b++(e++c.wr)),dr:=e++c.dr} e
   else Y
 |_,_=>Y
def ydB:Bool:=(E.cj 1000000 []).isSome
def AT(s:aY S):Nat->L Nat
 |0=>[]|n+1=>bif Nl s.lo n&&!((s.ob.get n).any jL)then n::AT s n else AT s n
def fdB(f:FuncId):Bool:=(E.cj (Na 1000001 f) []).isSome
def uQ(s:aY S)(f:FuncId)(args:L (V S))(kp:V S->aY S->O ω)(k:V S->aY S->L Nat->O ω):O ω:=match E.II f with
 |some c=>OA s c args kp k|none=>match E.cj f args with
  |some a=>evJ call a s f args k|none=>bif fdB E f then call (.jn f) args s (λt b=>k t {b with wr:=AT s s.aE++b.wr,dr:=AT s s.aE++b.dr} (AT s s.aE)) (λ_ _=>Y)else call (.fn f) args s (λt b=>k t b []) kp
def Zm(s:aY S)(m:String)(args:L (V S))(n:Nat)(x:den S.A (.de n))(kp:V S->aY S->O ω)(k:V S->aY S->L Nat->O ω):L (TypeId×Ty)->Nat->O ω
 |[],_=>Y|p::l,j=>ai (mj (S.alts n) j (S.uK n x)) (match E.T.KT p.1 m with
   |some f=>bif Nq p.1 ((nth (S.alts n) j).elim 0 (·.1))then uQ E call s f (.ty (nh (S.alts n) j) (ke S.zero (S.alts n) j (S.uK n x))::args) kp k else Y|none=>Y) (Zm s m args n x kp k l (Ns j))
def aii:O (V S)->O Nat
 |some (.rE o)=>Z o|_=>Y
def uO(o:Oper)(fr:bX S)(s:aY S)(kp:V S->aY S->O ω)(k:V S->aY S->L Nat->O ω):O ω:=
 match o.op with
 |.call c=>match jY fr c.args.toList with
  |none=>Y|some args=>match c.callee with
   |.builtin b=>match lG E.T s b c.argTypes args with
    |none=>Y|some (p,t,a)=>aT p (k t a [])
   |.value f=>match aii (cA fr f)with
    |some o=>bif ydB E then call (.yd o) args s (λt a=>k t {a with wr:=AT s s.aE++a.wr,dr:=AT s s.aE++a.dr} (AT s s.aE)) (λ_ _=>Y)else call (.yl o) args s (λt a=>k t a []) kp
    |none=>match(cA fr f).bind (pY · args)with
     |none=>Y|some (f,args)=>uQ E call s f args kp k
   |.invoke x m=>match cA fr x with
    |some (.de t v)=>match E.T.KT t m with
     |some f=>uQ E call s f (v::args) kp k|none=>Y
    |some (.ty (.de n) x)=>Zm E call s m args n x kp k (S.alts n) 0|_=>Y
 |.panic x=>match cA fr x with
  |some (.de t v)=>kp (.de t v) s|_=>Y
 |op=>match iF E.T fr s op with
  |some (e,p,d,a)=>yW (λv s=>k v s []) (aT p (k d a [])) e|none=>match AN E.T fr s op with
   |none=>Y|some (p,t,a)=>aT p (k t a [])
def zJ(c:O Bool)(p:Bool)(x:O ω):O ω:=match c with
 |none=>aT p x|some c=>aT (imp c p) x
def akR{α:Type}(c:O Bool)(x:O α)(z:α):O α:=match c with
 |none=>x|some c=>ai c x (Z z)
mutual
def vT:V S->Bool
 |.sh _ _=>J|.sx _ _ _ _=>J|.de _ v=>vT v|.agg a=>jN a|.gM a=>jN a|_=>W
def jN:L (V S)->Bool
 |[]=>W|v::l=>vT v&&jN l
end
def WH(S:Sg):(cs:L Ck)->gx S.A cs
 |[]=>()|c::cs=>(S.zero c.ty,WH S cs)
def aiI(A:Nat->Type):(ps:L Pk)->O (iz A ps)
 |[]=>Z ()|.one _::ps=>aiI A ps|.box _::_=>Y|.hid _::_=>Y
def EJ:Builtin->Bool
 |.len|.max|.min=>W|_=>J
def xg(k:V S->O ω)(d:O ω):L (Bool×V S×aY S)->O ω
 |[]=>d|p::l=>ai p.1 (k p.2.1) (xg k d l)
def fD(g:O Bool)(fr:bX S)(s:aY S)(o:Oper)(k:V S->O ω):O ω:=
 match o.op with
 |.call c=>match jY fr c.args.toList with
  |none=>Y|some args=>match c.callee with
   |.builtin b=>bif EJ b then match lG E.T s b c.argTypes args with
     |some (p,t,_)=>zJ g p (k t)|none=>Y
    else Y
   |.value f=>match(cA fr f).bind (pY · args)with
    |none=>Y|some (f,args)=>match E.II f with
     |none=>Y|some c=>bif ct c.ps&&(jI c.rs&&(jN args&&!c.pn))then
       match eD s c.ps args Y,aiI S.A c.ps with
       |some (x,_,_,_),Z b=>ah (akR g (c.F x) (RT.ok c.pn (WH S c.rs,b))) λr=>match RT.res c.pn r with
        |.ok r=>k (Ef (tS c.rs r.1))|.iE _=>Y
       |_,_=>Y
      else Y
   |_=>Y
 |.store ..|.alloc ..|.box ..|.panic ..|.makeMap ..|.mapUpdate ..|.insert ..|.makeSlice ..|.range ..|.next ..|.defer ..=>Y|.buildSlice t n e=>match iU fr e.toList with
  |some l=>bif jN (l.map (·.2))then match AN E.T fr s (.buildSlice t n e)with
   |none=>Y|some (p,v,_)=>zJ g p (k v)
   else Y
  |none=>Y
 |.slice t x lo h i=>match cA fr x with
  |some v=>bif vT v then match AN E.T fr s (.slice t x lo h i)with
   |none=>Y|some (p,v,_)=>zJ g p (k v)
   else Y
  |none=>Y
 |op=>match iF E.T fr s op with
  |some (a,p,d,_)=>xg k (zJ g p (k d)) a|none=>match AN E.T fr s op with
   |none=>Y|some (p,v,_)=>zJ g p (k v)
def BV(fr:bX S)(o:Oper):Bool:=
 match o.op with
 |.call c=>match jY fr c.args.toList with
  |none=>J|some args=>match c.callee with
   |.builtin b=>EJ b|.value f=>match(cA fr f).bind (pY · args)with
    |none=>J|some (f,args)=>match E.II f with
     |none=>J|some c=>ct c.ps&&(jI c.rs&&(jN args&&!c.pn))
   |_=>J
 |.store ..|.alloc ..|.box ..|.panic ..|.makeMap ..|.mapUpdate ..|.insert ..|.makeSlice ..|.range ..|.next ..|.defer ..=>J|.buildSlice _ _ a=>match iU fr a.toList with
  |some l=>jN (l.map (·.2))|none=>J
 |.slice _ x _ _ _=>match cA fr x with
  |some v=>vT v|none=>J
 |_=>W
def rX(fr:bX S)(o:Op):bX S:=
 o.operands.toList.foldl (λf x=>match x with
  |.tmp k=>match fr.get k with
   |some (.gd _ v)=>f.put k v|_=>f
  |_=>f) fr
def Oj(c:Bool)(fr:bX S)(o:Op):Bool:=
 o.operands.toList.foldl (λp x=>match x with
  |.tmp k=>match fr.get k with
   |some (.gd g _)=>p&&imp c g|_=>p
  |_=>p) W
def iK(ops:L Oper)(fr:bX S)(o:Oper):O (O Bool):=
 match o.guard with
 |none=>Z Y|some (j,a)=>match((nth ops j).bind (·.dst)).bind fr.get with
  |some (.kb b)=>bif (bif b then a else !a)then Z Y else Z (Z J)|some t=>match jk t with
   |some b=>Z (Z (o8 b a))|none=>Y
  |none=>Y
def vA(ops:L Oper)(fr:bX S)(o:Oper):Bool:=
 match o.guard with
 |none=>J|some (j,a)=>match((nth ops j).bind (·.dst)).bind fr.get with
  |some (.kb b)=>bif b then !a else a|some (.dat (.lit (.tuple _)))=>W|_=>J
def TM(ops:L Oper)(d:O Nat):Bool:=match d with
 |none=>J|some d=>ops.any λo=>match o.guard with
  |none=>J|some (j,_)=>match(nth ops j).bind (·.dst)with
   |some e=>Nq d e|none=>J
def Kt{ω:Type}(b:Bool)(t:V S)(k:V S->O ω):O ω:=bif b then match t with
  |.ty .bool x=>ai x (k (.kb W)) (k (.kb J))|t=>k t
 else k t
def gI(fr:bX S):O Nat->Bool
 |none=>W|some d=>Nt d fr.n
def pU(ops:L Oper)(o:Oper)(fr:bX S)(s:aY S)(kp:V S->aY S->O ω)(k:V S->aY S->L Nat->O ω):O ω:=
 bif gI fr o.dst then bif vA ops fr o then k fR s []else match iK ops fr o with
  |none=>Y|some Y=>uO E call o fr s kp k|some (Z c)=>
   let f:=rX fr o.op
   bif BV E f o then aT (Oj c fr o.op) (fD E (Z c) f s o λt=>k (.gd c t) s [])
   else ai c (aT (Oj c fr o.op) (uO E call o f s kp k)) (k (.gd J fR) s [])
 else Y
def Ru(fr:bX S)(o:Oper):O (sU S):=match o.guard,o.op with
 |none,.defer c=>match c.callee with
  |.value f=>match cA fr f,jY fr c.args.toList with
   |some (.fn f a b),Z args=>Z (.call (.fn f a b) args)|_,_=>Y
  |_=>Y
 |_,_=>Y
def Ro(ops:L Oper)(o:Oper)(fr:bX S)(s:aY S)(kp:V S->aY S->O ω)(k:bX S->aY S->O ω):O ω:=
 match Ru fr o with
 |some d=>bif gI fr o.dst then k {(fr.jq o.dst zb)with df:=d::fr.df} s else Y
 |none=>pU E call ops o fr s kp λt a b=>Kt (TM ops o.dst) t λt=>k ((dy b fr).jq o.dst t) a
def TR(ops:L Oper)(kp:bX S->V S->aY S->O ω)(k:bX S->aY S->O ω):L Oper->bX S->aY S->O ω
 |[],fr,s=>k fr s|o::l,fr,s=>Ro E call ops o fr s (kp fr) λa b=>TR ops kp k l a b
end
end
end TL
end
end
