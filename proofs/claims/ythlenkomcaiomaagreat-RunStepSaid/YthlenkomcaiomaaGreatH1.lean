import GoSem.Dispatch
import GoSem.Machine.Return
import Derived.Calls
import Derived.RowKit
import Derived.WalkKit
import Derived.Deep.AppendSrc
import Derived.Laws.StructEq
import Derived.Room.AppendAny
import Derived.RangeFuncIn
import Derived.RangeFuncLeaves
import Derived.RangeFuncRecord
import Derived.Orders
set_option linter.all false
set_option maxRecDepth 100000
set_option maxHeartbeats 0
noncomputable section
open Option renaming some->Z,none->Y
open Bool renaming true->W,false->J
open Nat renaming beq->Nq,ble->Nl,blt->Nt,succ->Ns,add->Na
open Go.Result(andThen_ok)
open Go.Sem(run_bind run_pure)
section
namespace TL
section
abbrev O:=@Option
abbrev L:=@List
abbrev U:=Unit
abbrev fT:=@Option.map_eq_some_iff
abbrev gS:=@Nat.le_of_ble_eq_true
abbrev bQ:=@if_neg
abbrev iX:=@List.getElem?_eq_getElem
abbrev eW:=@Bool.and_eq_true
abbrev hJ:=@List.mem_cons_of_mem
abbrev gP:=@Option.some.injEq
abbrev fC:=@Prod.mk.injEq
abbrev iS:=@Nat.lt_of_lt_of_le
abbrev eO:=@Nat.le_refl
abbrev eV:=@List.mem_append_right
abbrev bD:=@if_pos
abbrev eI:=@List.mem_cons_self
abbrev fS:=@List.mem_append_left
abbrev eX:=@List.mem_append
abbrev iA:=@List.mem_of_getElem?
abbrev gG:=@Int.natCast_add
abbrev gM:=@Int.natCast_one
abbrev fV:=@List.mem_cons
abbrev gk:=@Nat.le_trans
abbrev j9:=@List.length_append
abbrev kQ:=@List.getD_cons_zero
abbrev jq:=@decide_eq_false
abbrev nK:=@List.length_singleton
abbrev jI:=@Option.map_some
abbrev eu:=@congrArg
abbrev lE:=@List.getElem?_map
abbrev j8:=@Option.some.inj
abbrev jQ:=@List.append_nil
abbrev kP:=@List.all_eq_true
abbrev lR:=@List.length_cons
abbrev kO:=@decide_eq_true
abbrev uB:=@Array.getElem?_eq_getElem
abbrev vV:=@Nat.eq_of_beq_eq_true
abbrev rQ:=@List.getElem_of_mem
abbrev vU:=@Option.bind_eq_some_iff
abbrev uA:=@List.mem_singleton_self
abbrev iq:=@cond_true
abbrev tD:=@List.getElem?_append
abbrev qM:=@decide_eq_true_eq
abbrev zm:=@List.getD_eq_getElem?_getD
abbrev uz:=@List.pairwise_append
abbrev Ek:=@List.eq_nil_of_length_eq_zero
abbrev oQ:=@Bool.or_eq_true
abbrev j7:=@cond_false
abbrev tC:=@List.mem_singleton
abbrev pO:=@Bool.false_and
abbrev pN:=@List.map_cons
abbrev vT:=@Int.toNat_natCast
abbrev zl:=@Nat.mul_le_mul_right
abbrev zk:=@Bool.and_eq_true_iff
abbrev zj:=@Bool.or_eq_false_iff
abbrev qL:=@Bool.true_and
abbrev jP:=@if_false
abbrev wj:=@List.append_assoc
abbrev Ay:=@Int.toNat_of_nonneg
abbrev NI:=@Nat.ble_eq_true_of_le
abbrev Ax:=@List.mem_filterMap
abbrev ki:=@if_true
abbrev NH:=@List.mem_zipIdx_iff_getElem?
abbrev FR:=@List.contains_eq_mem
abbrev FQ:=@List.getD_cons_succ
abbrev yo:=@Nat.zero_add
abbrev ym:=@List.mem_map
abbrev Lf:=@List.singleton_append
abbrev NG:=@List.getElem?_cons_zero
abbrev Vh:=@List.pairwise_iff_getElem
abbrev Le:=@List.length_take
abbrev Vg:=@List.getElem?_eq_some_iff
abbrev XH:=@List.take_append_drop
abbrev NF:=@List.getElem_mem
abbrev ND:=@Bool.false_eq_true
abbrev Vf:=@Classical.axiomOfChoice
abbrev NC:=@Bool.not_eq_true'
abbrev Ld:=@List.length_set
abbrev QU:=@List.length_map
abbrev XG:=@List.length_eq_one_iff
abbrev XF:=@Array.getElem?_eq_some_iff
abbrev IL:=@Bool.not_true
abbrev NB:=@Option.getD_some
abbrev vS:=@Iff.rfl
abbrev abT:=@List.contains_iff_mem
abbrev Lc:=@Bool.not_false
abbrev Lb:=@Bool.and_false
abbrev XE:=@List.mem_or_eq_of_mem_set
abbrev XD:=@Classical.byContradiction
abbrev FP:=@Nat.zero_le
abbrev Ve:=@List.mem_of_mem_take
abbrev NA:=@List.nil_append
abbrev Nz:=@List.nodup_cons
abbrev QT:=@List.getElem?_set
abbrev QO:=@Classical.not_not
abbrev XC:=@decide_eq_false_iff_not
abbrev Vd:=@List.length_pos_iff
abbrev XB:=@List.map_congr_left
abbrev Vc:=@Array.toList_append
abbrev Ny:=@Nat.testBit_or
abbrev QN:=@List.take_length
abbrev XA:=@List.getElem?_set_self
abbrev IK:=@Int.le_refl
abbrev Jw:=@List.getElem?_take
abbrev Jv:=@List.length_nil
abbrev NT:=@List.getElem?_zipWith
abbrev TB:=@List.exists_cons_of_ne_nil
abbrev Dr:=@Bool.and_true
abbrev NS:=@List.getElem?_of_mem
abbrev TA:=@List.drop_eq_getElem_cons
abbrev ai8:=@Option.filter_eq_some_iff
abbrev Tz:=@List.getElem?_append_left
abbrev FV:=@Option.map_map
abbrev Dq:=@Nat.le_of_eq
abbrev aeu:=@List.take_succ_eq_append_getElem
abbrev NR:=@List.getElem?_drop
abbrev Ju:=@List.map_append
abbrev Dn:=@Nat.le_succ
abbrev NQ:=@List.ext_getElem?
abbrev NP:=@of_decide_eq_true
abbrev FU:=@List.map_set
abbrev Tx:=@List.getElem?_toArray
abbrev Tw:=@List.eq_nil_or_concat
abbrev Tv:=@List.concat_eq_append
abbrev X2:=@List.dropLast_concat_getLast
abbrev FT:=@Int.add_zero
abbrev Tu:=@Nat.div_lt_of_lt_mul
abbrev NO:=@List.foldl_cons
abbrev NN:=@List.cons.injEq
abbrev NM:=@List.all_append
abbrev NL:=@Nat.mul_comm
abbrev X0:=@List.eq_of_mem_replicate
abbrev Jt:=@Nat.le_of_lt
abbrev NK:=@Nat.mul_le_mul
abbrev aet:=@List.drop_drop
abbrev aes:=@Array.toList_eq_nil_iff
abbrev Tt:=@List.size_toArray
abbrev Ts:=@Nat.lt_succ_of_le
abbrev Js:=@Nat.one_mul
abbrev NJ:=@Bool.and_self
abbrev Tq:=@List.length_drop
abbrev Tp:=@Option.bind_some
abbrev Tn:=@Array.toList_map
abbrev Tm:=@List.any_eq_true
open Go
inductive Tr(α:Type) where
 |nil|node (v:Option α) (l r:Tr α)
 deriving Inhabited
namespace Tr
variable {α:Type}
def get:Tr α->Nat->O α
 |.nil,_=>Y|.node v l r,k=>match k with
  |0=>v|k+1=>match Nq (Nat.mod k 2) 0 with
   |true=>l.get (Nat.div k 2)|false=>r.get (Nat.div k 2)
def set:Nat->Tr α->Nat->α->Tr α
 |0,t,_,_=>t|n+1,.nil,k,x=>match k with
  |0=>.node (Z x) .nil .nil|k+1=>match Nq (Nat.mod k 2) 0 with
   |true=>.node Y (set n .nil (Nat.div k 2) x) .nil|false=>.node Y .nil (set n .nil (Nat.div k 2) x)
 |n+1,.node v l r,k,x=>match k with
  |0=>.node (Z x) l r|k+1=>match Nq (Nat.mod k 2) 0 with
   |true=>.node v (set n l (Nat.div k 2) x) r|false=>.node v l (set n r (Nat.div k 2) x)
end Tr
def oU:IntKind->IntKind->Bool
 |.i8,.i8|.i16,.i16|.i32,.i32|.i64,.i64|.u8,.u8|.u16,.u16|.u32,.u32|.u64,.u64=>W|_,_=>J
def cH{α:Type}:L α->Nat
 |[]=>0|_::l=>Ns (cH l)
def nth{α:Type}:L α->Nat->O α
 |[],_=>Y|a::_,0=>Z a|_::l,k+1=>nth l k
inductive D where
 |lit (v:Value)|sl (es:List D)|agg (cs:List D)|dj (t:TypeId) (d:D)|gR (ds:List D)|pt (d:D)|mp (ks vs:List D)
 deriving Inhabited
namespace D
def toInt:D->Int|.lit (.int _ n)=>n|_=>0
def isInt(k:IntKind):D->Bool|.lit (.int j _)=>oU j k|_=>J
def toBool:D->Bool|.lit (.bool b)=>b|_=>J
def isBool:D->Bool|.lit (.bool _)=>W|_=>J
def toStr:D->ByteArray|.lit (.string b)=>b|_=>.empty
def isStr:D->Bool|.lit (.string _)=>W|_=>J
def afE:D->L D|.sl es=>es|_=>[]
def aka:D->Bool|.sl _=>W|_=>J
def cells:D->L D|.agg cs=>cs|d=>[d]
def cell(d:D)(j:Nat):D:=d.cells.getD j (.lit (.tuple #[]))
def leaf:D->Bool
 |.agg _|.gR _=>J|.lit (.agg _)|.lit (.tuple _)=>J|_=>W
def isAgg(n:Nat):D->Bool|.agg cs=>Nq (cH cs) n&&cs.all leaf|_=>J
def proj:D->Nat->D|.gR ds,k=>ds.getD k (.lit (.tuple #[]))|_,_=>.lit (.tuple #[])
def agX(n:Nat):D->Bool|.gR ds=>Nt n (cH ds)|_=>J
def akb:D->Bool|.dj _ _=>W|_=>J
def has(d:D)(m:Nat):Prop:=m<=d.cells.length
def wide(d:D)(m:Nat):Prop:=d.cells.length=m
def lby:D->Nat
 |.lit (.string _)|.lit .nilIface|.dj _ _=>16|.sl _|.lit (.slice ..)=>24|_=>8
def o8:L D->Nat
 |[]=>0|d::l=>Na d.lby (o8 l)
def sP:D->Nat
 |.agg a=>o8 a|.lit (.bool _)=>1|.lit (.int .i8 _)|.lit (.int .u8 _)=>1|.lit (.int .i16 _)|.lit (.int .u16 _)=>2|.lit (.int .i32 _)|.lit (.int .u32 _)=>4|d=>d.lby
def flat(d:D):Bool:=d.cells.all leaf
def Qr(d:D)(off:Nat)(l:L D):D:=match d with
 |.agg a=>.agg (a.take off++l++a.drop (off+l.length))|d=>l.getD 0 d
def Ta(d:D)(sz off n:Nat):Prop:=d.isAgg sz=W\/(d.leaf=W/\sz=1/\off=0/\n=1)
end D
def jt(es:L D)(i:Nat):D:=es.getD i (.lit (.tuple #[]))
def eN(es:L D):Int:=es.length
def lX(n:Int)(len:Int):Prop:=0<=n/\n<len
def y8(lo hi len:Int):Prop:=0<=lo/\lo<=hi/\hi<=len
def pI(es:L D)(lo hi:Int):L D:=(es.take hi.toNat).drop lo.toNat
def MI(b:ByteArray)(lo hi:Int):ByteArray:=b.extract lo.toNat hi.toNat
def vC(b:ByteArray):Int:=b.size
def aa7(b:ByteArray)(n:Int):Int:=(b.get! n.toNat).toNat
def MJ(a b:ByteArray):Prop:=a.size+b.size<=4611686018427387904
def SM(a b:ByteArray):ByteArray:=a++b
def iG(a b:L D):L D:=a++b
def y7(es:L D)(k:Nat)(d:D):L D:=es.set k d
def jH(es:L D)(sz:Nat):Prop:=∀d∈es,d.cells.length=sz
def vO(es:L D)(b:Nat):Prop:=∀d∈es,d.sP=b/\d.flat=W
def Ei(n:Int):Nat:=n.toNat
def z8:Int:=0
def aG(k:IntKind)(a b:Int):Int:=k.wrap (a+b)
def aZ(k:IntKind)(a b:Int):Int:=k.wrap (a-b)
def Im(k:IntKind)(a b:Int):Int:=k.wrap (a*b)
def Qi(k:IntKind)(a:Int):Int:=k.wrap (-a)
def SN(k:IntKind)(a:Int):Int:=k.wrap a
def Il(a b:Int):Int:=a.tmod b
def aa8(k:IntKind)(a b:Int):Int:=k.wrap (a.tdiv b)
def ahZ(a:Int):Prop:=a≠0
def aa(a b:Int):Bool:=a==b
def pJ(a b:Bool):Bool:=a==b
def UE(a b:ByteArray):Bool:=a==b
def aD(a b:Int):Bool:=decide (a<b)
def br(a b:Int):Bool:=decide (a<=b)
def aa9(c a b:Bool):Bool:=if c then a else b
def aq(a:Bool):Bool:=!a
def bS(a b:Bool):Bool:=a&&b
inductive T where
 |sym (d:D)|kb (b:Bool)|kn (k:IntKind) (n:Int)|ptr (o off:Nat)|mc (d:D) (off:Nat)|l9 (o e i off:Nat)|sh (o e:Nat)|emp|kM (n:Nat) (es:List D)|fn (f:Fn) (first cap:List T)
 |dj (t:TypeId) (v:T)|agg (cs:List T)|gR (vs:List T)|gd (c:Bool) (v:T)|mp (o:Nat)|rP (o:Nat)|uo (o:Nat)|ub (e:Bool)|sC (o m r i:Nat)|qd (j:Nat) (d:D)
 deriving Inhabited
inductive Df where
 |call (f:T) (args:List T)|mark (o:Nat)|marks (o:Nat)|kK|bad
 deriving Inhabited
def Df.one:Df->Bool
 |.marks _|.kK=>J|_=>W
structure Fr where
 n:Nat
 tm:Tr T
 df:List Df:=[]
 deriving Inhabited
structure Lp where
 st:LoopState
 vW:Option Code
 fid:FuncId
 fr:Fr
 params:List Nat
 assign:Code
 body:Code
inductive Ob where
 |box (cs:List T)|arr (sz:Nat) (es:List D) (era:Nat)|lM (sz:Nat) (es:List D) (era:Nat)|map (es:List (T×T))|rO (b:ByteArray) (pos:Nat)|lp (l:Lp)|Ab|lT (nj sz:Nat) (es:List D) (era m hU:Nat) (hole:Option Nat)|rws (sz:Nat) (iU:List (List D)) (hU:Nat)|gone|Gl
 deriving Inhabited
def Ob.oC:Ob->Bool
 |.arr ..|.lM ..|.lT ..|.rws ..|.gone|.Gl=>W|_=>J
def Ob.isA:Ob->Bool
 |.arr ..|.lM ..=>W|_=>J
def Ob.odd:Ob->Bool
 |.map _|.rO _ _|.lp _|.Ab=>W|_=>J
structure St where
 ob:Tr Ob
 aE:Nat
 fl:Nat
 lo:Nat
 deriving Inhabited
def aM:Nat:=64
def bM:Nat:=1000000000
def Fr.get(fr:Fr)(k:Nat):O T:=fr.tm.get k
def Fr.put(fr:Fr)(k:Nat)(v:T):Fr:={fr with tm:=fr.tm.set aM k v}
def Fr.jr(fr:Fr)(k:O Nat)(v:T):Fr:=match k with|some k=>fr.put k v|none=>fr
inductive Lk where
 |int (k:IntKind)|bool|str|no
 deriving DecidableEq,Inhabited
inductive Kd where
 |leaf (l:Lk)|ptr|slice (sz:Nat) (agg:Bool) (sP:Nat) (zero:List D)|struct (fs:List (Nat×Nat×Bool))|array (len sz:Nat) (agg:Bool)|iface|other
 deriving Inhabited
structure TI where
 size:Nat
 agg:Bool
 zero:List D
 lks:List Lk
 kd:Kd
 deriving Inhabited
structure Qk where
 pre:List D->Prop
 f:List D->D
structure Env where
 P:Program
 ti:Nat->Option TI
 T4:Nat->Option Func
 IU:Nat->Option Qk
def Dz:Value->O D
 |.bool b=>Z (.lit (.bool b))|.int k n=>Z (.lit (.int k n))|.string s=>Z (.lit (.string s))|.pointer Y=>Z (.lit (.pointer Y))|.map Y=>Z (.lit (.map Y))|.nilFunc=>Z (.lit .nilFunc)|.nilIface=>Z (.lit .nilIface)|.tuple a=>match a.toList with
  |[]=>Z (.lit (.tuple #[]))|_=>Y
 |_=>Y
def ofConst:Value->O T
 |.bool b=>Z (.kb b)|.int k n=>Z (.kn k n)|.slice Y 0 0=>Z .emp|.func f a b=>match a.toList,b.toList with
  |[],[]=>Z (.fn f [] [])|_,_=>Y
 |.iface t v=>(Dz v).map λd=>.sym (.dj t d)|v=>(Dz v).map .sym
def qP:D->T
 |.lit (.bool b)=>.kb b|.lit (.int k n)=>.kn k n|.sl []=>.emp|d=>.sym d
def T.leaf:T->Prop
 |.sym d=>d.leaf=W|.agg _|.gR _|.gd _ _=>False|_=>True
def kJ(i:TI):T->O (Prop×L T)
 |.agg a=>bif i.agg&&Nq (cH a) i.size then Z (True,a)else Y|.sym d=>
  bif i.agg then Z (d.isAgg i.size=W,(List.range i.size).map λj=>.sym (d.cell j))
  else bif Nq i.size 1 then Z (d.leaf=W,[.sym d])else Y
 |.gR _|.gd _ _=>Y|t=>bif i.agg then Y else bif Nq i.size 1 then Z (True,[t])else Y
def wo(agg:Bool)(cs:L T):O T:=
 bif agg then Z (.agg cs)else match cs with
  |[x]=>Z x|_=>Y
def kq(fr:Fr):Operand->O T
 |.tmp k=>fr.get k|.const v=>ofConst v|.global _=>Y|.func f=>Z (.fn (.func f) [] [])
def yL(fr:Fr):L Operand->O (L T)
 |[]=>Z []|x::l=>match kq fr x,yL fr l with
  |some t,Z r=>Z (t::r)|_,_=>Y
def yq(k:IntKind):T->O (Prop×Int)
 |.kn j n=>bif oU j k then Z (True,n)else Y|.sym d=>Z (d.isInt k=W,d.toInt)|_=>Y
def Bl:T->O (Prop×Bool)
 |.kb b=>Z (True,b)|.sym d=>Z (d.isBool=W,d.toBool)|_=>Y
def Ak:T->O (Prop×ByteArray)
 |.sym d=>Z (d.isStr=W,d.toStr)|_=>Y
def BQ(s:St):T->O (Prop×L D)
 |.emp=>Z (True,[])|.kM _ a=>Z (True,a)|.qd _ d=>Z (True,[d])|.sym d=>Z (d.aka=W,d.afE)|.sh o e=>match s.ob.get o with
  |some (.arr _ a era)|some (.lM _ a era)=>bif Nq e era then Z (True,a)else Y|_=>Y
 |_=>Y
def AV(nj:Nat)(d:D)(a:L D):D:=.agg (d.cells.set nj (.sl a))
def mZ(nj:Nat)(es:L D)(iU:L (L D)):L D:=List.zipWith (AV nj) es iU
def II(s:St)(m r:Nat):O (L (L D)):=match s.ob.get m with
 |some (.rws _ a b)=>bif Nq r b then Z a else Y|_=>Y
mutual
def BL(s:St):T->O (Prop×D×L Nat)
 |.sym d=>Z (True,d,[])|.kb b=>Z (True,.lit (.bool b),[])|.kn k n=>Z (True,.lit (.int k n),[])|.emp=>Z (True,.sl [],[])|.kM _ a=>Z (True,.sl a,[])|.qd _ d=>Z (True,.sl [d],[])|.sh o e=>match s.ob.get o with
  |some (.arr _ a era)=>bif Nq e era then Z (True,.sl a,[o])else Y|some (.lM _ a era)=>bif Nq e era then Z (True,.sl a,[])else Y|some (.lT g _ a era m r Y)=>match II s m r with
   |some c=>bif Nq e era&&Nt m bM then Z (True,.sl (mZ g a c),[o,m])else Y|none=>Y
  |_=>Y
 |.dj t v=>match BL s v with
  |some (p,d,os)=>Z (p,.dj t d,os)|none=>Y
 |.agg f=>match oq s f with
  |some (p,ds,os)=>Z (p/\ds.all D.leaf=W,.agg ds,os)|none=>Y
 |.gR f=>match oq s f with
  |some (p,ds,os)=>Z (p,.gR ds,os)|none=>Y
 |_=>Y
def oq(s:St):L T->O (Prop×L D×L Nat)
 |[]=>Z (True,[],[])|t::l=>match BL s t,oq s l with
  |some (p,d,os),Z (q,ds,a)=>Z (p/\q,d::ds,os++a)|_,_=>Y
end
def freeze(s:St):L Nat->O St
 |[]=>Z s|o::l=>
  bif Nl s.fl o then match s.ob.get o with
   |some (.arr sz a era)=>freeze {s with ob:=s.ob.set aM o (.lM sz a era)} l
   |some (.lM _ _ _)=>freeze s l|some (.lT c sz a era m r Y)=>match II s m r with
    |some b=>bif l.contains m&&(Nl s.fl m&&Nt m bM)then freeze {s with ob:=(s.ob.set aM m .gone).set aM o (.lM sz (mZ c a b) era)} l else Y
    |none=>Y
   |some (.rws ..)=>freeze s l|some .gone=>freeze s l|_=>Y
  else Y
def eo(s:St)(o:Ob):Nat×St:=(s.aE,{s with ob:=s.ob.set aM s.aE o,aE:=Ns s.aE})
def rA:Lk->T->T->O (Prop×Bool)
 |.int k,a,b=>match yq k a,yq k b with
  |some (p,x),Z (q,y)=>Z (p/\q,aa x y)|_,_=>Y
 |.bool,a,b=>match Bl a,Bl b with
  |some (p,x),Z (q,y)=>Z (p/\q,pJ x y)|_,_=>Y
 |.str,a,b=>match Ak a,Ak b with
  |some (p,x),Z (q,y)=>Z (p/\q,UE x y)|_,_=>Y
 |.no,_,_=>Y
def kF:L Lk->L T->L T->O (Prop×Bool)
 |[],[],[]=>Z (True,W)|k::c,a::as,b::d=>match rA k a b,kF c as d with
  |some (p,x),Z (q,y)=>Z (p/\q,bS x y)|_,_=>Y
 |_,_,_=>Y
def aeT:T->T->O (Prop×Bool)
 |.sym (.lit (.pointer Y)),.ptr _ _=>Z (True,J)|.ptr _ _,.sym (.lit (.pointer Y))=>Z (True,J)|_,_=>Y
def aeU:T->T->O (Prop×Bool)
 |.sym (.lit .nilIface),.dj _ _=>Z (True,J)|.dj _ _,.sym (.lit .nilIface)=>Z (True,J)|_,_=>Y
def I4(s:St)(o e:Nat):O (Nat×L D):=
 match s.ob.get o with
 |some (.arr sz a era)=>bif Nq e era then Z (sz,a)else Y|some (.lM sz a era)=>bif Nq e era then Z (sz,a)else Y|_=>Y
def nw(i:TI)(d:D)(off:Nat):O T:=
 bif i.agg then Z (.agg ((List.range i.size).map λj=>.sym (d.cell (Na off j))))
 else bif Nq i.size 1 then Z (.sym (d.cell off))else Y
abbrev uq:=O (Prop×T×St)
def S6:T:=.sym (.lit (.tuple #[]))
def loadT(i:TI)(s:St):T->uq
 |.ptr o off=>match s.ob.get o with
  |some (.box b)=>
   let l:=(b.drop off).take i.size
   bif Nq (cH l) i.size then(wo i.agg l).map λt=>(True,t,s)else Y
  |_=>Y
 |.mc d off=>(nw i d off).map λt=>(d.has (Na off i.size),t,s)|.l9 o e k off=>match I4 s o e with
  |some (_,a)=>(nw i (jt a k) off).map λt=>(lX k (eN a)/\(jt a k).has (Na off i.size),t,s)|none=>Y
 |_=>Y
def leaves:L T->Prop
 |[]=>True|t::l=>t.leaf/\leaves l
def storeT(i:TI)(s:St)(a x:T):uq:=
 match kJ i x with
 |none=>Y|some (p,l)=>match a with
  |.ptr o off=>match s.ob.get o with
   |some (.box d)=>
    bif Nl s.fl o&&Nl (Na off (cH l)) (cH d)then
     Z (p/\leaves l,S6,{s with ob:=s.ob.set aM o (.box (d.take off++l++d.drop (Na off (cH l))))})
    else Y
   |_=>Y
  |.l9 o e k off=>match oq s l with
   |some (q,ds,os)=>match freeze s os with
    |some c=>match c.ob.get o with
     |some (.arr sz b era)=>
      bif Nl c.fl o&&Nq e era then
       Z (p/\q/\ds.all D.leaf=W/\lX k (eN b)/\(jt b k).Ta sz off (cH ds)/\Nl (Na off (cH ds)) sz=W/\((jt b k).Qr off ds).sP=(jt b k).sP,
        S6,{c with ob:=c.ob.set aM o (.arr sz (y7 b k ((jt b k).Qr off ds)) era)})
      else Y
     |_=>Y
    |none=>Y
   |none=>Y
  |_=>Y
def GW(place:Nat->O (Nat×TI))(cells:L T):L (Nat×T)->O (Prop×L T)
 |[]=>Z (True,cells)|(k,v)::a=>match place k with
  |none=>Y|some (off,i)=>match kJ i v with
   |none=>Y|some (p,l)=>
    bif Nl (Na off (cH l)) (cH cells)then
     (GW place (cells.take off++l++cells.drop (Na off (cH l))) a).map λ(q,r)=>(p/\leaves l/\q,r)
    else Y
def sy(fr:Fr):L (Nat×Operand)->O (L (Nat×T))
 |[]=>Z []|(k,x)::l=>match kq fr x,sy fr l with
  |some t,Z r=>Z ((k,t)::r)|_,_=>Y
def sK(s:St)(i:TI)(es:L D):L (Nat×T)->O (Prop×L D×L Nat)
 |[]=>Z (True,es,[])|(k,v)::a=>match BL s v with
  |none=>Y|some (p,d,os)=>
   bif Nt k (cH es)then
    (sK s i (es.set k d) a).map λ(q,r,b)=>(p/\(bif i.agg then d.isAgg i.size else d.leaf)=W/\q,r,os++b)
   else Y
def Wn(op:BinOp)(k:IntKind)(m n:Int):O D:=
 match op with
 |.lss=>Z (.lit (.bool (aD m n)))|.leq=>Z (.lit (.bool (br m n)))|.gtr=>Z (.lit (.bool (aD n m)))|.geq=>Z (.lit (.bool (br n m)))|.add=>Z (.lit (.int k (aG k m n)))|.sub=>Z (.lit (.int k (aZ k m n)))|.mul=>Z (.lit (.int k (Im k m n)))|_=>Y
def ZT(op:BinOp)(k:IntKind)(m n:Int):O D:=
 match op with
 |.rem=>Z (.lit (.int k (Il m n)))|.quo=>Z (.lit (.int k (aa8 k m n)))|_=>Y
def ZJ(i:TI)(a b:T):O (Prop×Bool):=
 bif i.agg then match i.lks,kJ i a,kJ i b with
  |[],_,_=>Y|k::c,Z (p,as),Z (q,d)=>(kF (k::c) as d).map λ(r,x)=>(p/\q/\r,x)|_,_,_=>Y
 else match i.kd with
  |.leaf k=>rA k a b|.ptr=>aeT a b|.iface=>aeU a b|_=>Y
def Me(i:TI)(op:BinOp)(a b:T):O (Prop×D):=
 match op with
 |.eql=>(ZJ i a b).map λ(p,r)=>(p,.lit (.bool r))|.neq=>(ZJ i a b).map λ(p,r)=>(p,.lit (.bool (aq r)))|op=>match i.kd with
  |.leaf (.int k)=>match yq k a,yq k b with
   |some (p,m),Z (q,n)=>match Wn op k m n with
    |some d=>Z (p/\q,d)|none=>(ZT op k m n).map λd=>(p/\q/\ahZ n,d)
   |_,_=>Y
  |.leaf .str=>match op,Ak a,Ak b with
   |.add,Z (p,m),Z (q,n)=>Z (p/\q/\MJ m n,.lit (.string (SM m n)))|_,_,_=>Y
  |_=>Y
def N1(fr:Fr):O Operand->O (O T)
 |none=>Z Y|some x=>(kq fr x).map Z
def w5(dflt:Int):O T->O (Prop×Int)
 |none=>Z (True,dflt)|some t=>yq .i64 t
def tI:T->L Nat
 |.sh o _=>[o]|_=>[]
def qG(i:TI)(s:St)(v:T)(l h m:O T):uq:=
 match i.kd,w5 z8 l with
 |.leaf .str,Z (p,lo)=>match Ak v,m with
  |some (q,b),Y=>match w5 (vC b) h with
   |some (r,a)=>Z (p/\q/\r/\y8 lo a (vC b),.sym (.lit (.string (MI b lo a))),s)|none=>Y
  |_,_=>Y
 |.slice sz _ _ _,Z (p,lo)=>match BQ s v,freeze s (tI v)with
  |some (q,c),Z d=>match w5 (eN c) h,m,h with
   |some (r,a),Y,_=>Z (p/\q/\r/\jH c sz/\y8 lo a (eN c),.sym (.sl (pI c lo a)),d)|some (r,a),Z y,Z _=>match y with
    |.kn .i64 0=>Z (p/\q/\r/\lo=z8/\a=z8,.emp,s)|y=>(yq .i64 y).map λ(t,e)=>
     (p/\q/\r/\t/\jH c sz/\y8 lo a (eN c)/\e=a,.kM 0 (pI c lo a),d)
   |_,_,_=>Y
  |_,_=>Y
 |_,_=>Y
def I5:T->O (Prop×Bool)
 |.gd g v=>match Bl v with
  |some (q,y)=>Z (g=W/\q,y)|none=>Y
 |.kb b=>Z (True,b)|.sym d=>Z (d.isBool=W,d.toBool)|_=>Y
def Jy(c a b:T):O (Prop×T):=
 match c with
 |.kb u=>match I5 (bif u then a else b)with
  |some (q,y)=>Z (q,.sym (.lit (.bool y)))|none=>Y
 |c=>match Bl c,I5 a,I5 b with
  |some (p,t),Z (q,x),Z (r,y)=>Z (p/\(t=W->q)/\(t=J->r),.sym (.lit (.bool (aa9 t x y))))|_,_,_=>Y
def Bq(n sz:Nat)(s:St)(x a:T):uq:=match x,a with
 |.mc d b,.kn .i64 (.ofNat j)=>bif Nt j n then Z (True,.mc d (Na b (Nat.mul j sz)),s)else Y|_,_=>Y
def kD(i:TI)(s:St)(x b:T):uq:=
 match i.kd,yq .i64 b with
 |.slice sz _ _ _,Z (p,n)=>match x with
  |.sh o e=>match I4 s o e with
   |some (z,a)=>bif Nq z sz then Z (p/\lX n (eN a),.l9 o e (Ei n) 0,s)else Y|none=>Y
  |v=>match BQ s v with
   |some (q,a)=>Z (p/\q/\lX n (eN a)/\(jt a (Ei n)).wide sz,.mc (jt a (Ei n)) 0,s)|none=>Y
 |.array n sz _,_=>Bq n sz s x b|_,_=>Y
def rz(i:TI)(s:St)(k:Nat)(x:T):uq:=
 match i.kd with
 |.struct a=>match nth a k with
  |some (off,size,_)=>bif Nq size 0 then Y else match x with
   |.ptr o b=>Z (True,.ptr o (Na b off),s)|.mc d b=>Z (True,.mc d (Na b off),s)|.l9 o e j b=>Z (True,.l9 o e j (Na b off),s)|_=>Y
  |none=>Y
 |_=>Y
def GX(i:TI)(s:St)(k:Nat)(x:T):uq:=
 match i.kd with
 |.struct a=>match nth a k,kJ i x with
  |some (off,size,b),Z (p,c)=>
   let l:=(c.drop off).take size
   bif Nq (cH l) size&&!(Nq size 0)then(wo b l).map λt=>(p,t,s)else Y
  |_,_=>Y
 |_=>Y
def GK(i:TI)(s:St)(x a:T):uq:=
 match i.kd,yq .i64 a,Ak x with
 |.leaf .str,Z (p,n),Z (q,b)=>Z (p/\q/\lX n (vC b),.sym (.lit (.int .u8 (aa7 b n))),s)|_,_,_=>Y
def sk(i:TI)(s:St)(t:TypeId)(ok:Bool)(x:T):uq:=
 match i.kd,x,ok with
 |.iface,_,_=>Y|_,.dj u v,W=>bif Nq u t then Z (True,.gR [v,.kb W],s)else
   (wo i.agg (i.zero.map qP)).map λz=>(True,.gR [z,.kb J],s)
 |_,.dj u v,J=>bif Nq u t then Z (True,v,s)else Y|_,_,_=>Y
def unT(i:TI)(op:UnOp)(v:T):O (Prop×D):=
 match op,i.kd with
 |.not,.leaf .bool=>(Bl v).map λ(p,b)=>(p,.lit (.bool (aq b)))|.neg,.leaf (.int k)=>(yq k v).map λ(p,n)=>(p,.lit (.int k (Qi k n)))|_,_=>Y
def Ke(i j:TI)(s:St)(v:T):uq:=
 match i.kd,j.kd with
 |.leaf (.int k),.leaf (.int l)=>(yq k v).map λ(p,n)=>(p,.sym (.lit (.int l (SN l n))),s)|.leaf .str,.leaf .str=>(Ak v).map λ(p,_)=>(p,v,s)|_,_=>Y
def tT(s:St)(k:Nat):T->uq
 |.gR a=>(nth a k).map λt=>(True,t,s)|.sym d=>Z (d.agX k=W,.sym (d.proj k),s)|_=>Y
def oO(E:Env)(fr:Fr)(s:St)(o:Op):uq:=
 match o with
 |.move x=>(kq fr x).map λt=>(True,t,s)|.assign x=>(kq fr x).map λt=>(True,t,s)|.pick c a b=>match kq fr c,kq fr a,kq fr b with
  |some c,Z a,Z b=>(Jy c a b).map λ(p,t)=>(p,t,s)|_,_,_=>Y
 |.alloc t=>match E.ti t with
  |some i=>bif Nt s.aE bM then Z (True,.ptr s.aE 0,(eo s (.box (i.zero.map qP))).2)else Y|none=>Y
 |.box t x=>match E.ti t,kq fr x with
  |some i,Z v=>bif Nt s.aE bM then(kJ i v).map λ(p,q)=>(p,.ptr s.aE 0,(eo s (.box q)).2)else Y|_,_=>Y
 |.build t parts=>match E.ti t,sy fr parts.toList with
  |some i,Z r=>match i.kd with
   |.struct z=>(GW (λk=>match nth z k with|some (off,size,g)=>Z (off,{(default:TI)with size:=size,agg:=g})|none=>Y) (i.zero.map qP) r).map
     λ(p,q)=>(p,.agg q,s)
   |_=>Y
  |_,_=>Y
 |.buildSlice t len parts=>match E.ti t,sy fr parts.toList with
  |some i,Z r=>match i.kd with
   |.slice sz g _ zero=>
    bif (g||Nq sz 1)&&(Nq (cH zero) sz&&(!(Nq sz 0)&&Nl (Nat.mul len sz) 16777216))then
     match sK s {(default:TI)with size:=sz,agg:=g} (List.replicate len (bif g then .agg zero else zero.getD 0 default)) r with
     |some (p,A,os)=>(freeze s os).map λs=>(p,.kM len A,s)|none=>Y
    else Y
   |_=>Y
  |_,_=>Y
 |.load t a=>match E.ti t,kq fr a with
  |some i,Z a=>loadT i s a|_,_=>Y
 |.store t a x=>match E.ti t,kq fr a,kq fr x with
  |some i,Z a,Z x=>storeT i s a x|_,_,_=>Y
 |.nilCheck x=>match kq fr x with
  |some (.ptr o b)=>Z (True,.ptr o b,s)|some (.mc d b)=>Z (True,.mc d b,s)|some (.l9 o e j b)=>Z (True,.l9 o e j b,s)|some (.dj t v)=>Z (True,.dj t v,s)|some (.fn (.func f) a b)=>Z (True,.fn (.func f) a b,s)|some (.sym d)=>Z (d.akb=W,.sym d,s)|_=>Y
 |.binOp op t x y _=>match E.ti t,kq fr x,kq fr y with
  |some i,Z a,Z b=>(Me i op a b).map λ(p,d)=>(p,.sym d,s)|_,_,_=>Y
 |.unOp op t x=>match E.ti t,kq fr x with
  |some i,Z v=>(unT i op v).map λ(p,d)=>(p,.sym d,s)|_,_=>Y
 |.convert src u x=>match E.ti src,E.ti u,kq fr x with
  |some i,Z j,Z v=>Ke i j s v|_,_,_=>Y
 |.makeInterface t x=>match E.ti t,kq fr x with
  |some i,Z v=>match i.kd with
   |.iface=>Y|_=>Z (True,.dj t v,s)
  |_,_=>Y
 |.makeFunc f first cap=>match yL fr first.toList,yL fr cap.toList with
  |some a,Z b=>Z (True,.fn f a b,s)|_,_=>Y
 |.extract x k=>match kq fr x with
  |some v=>tT s k v|none=>Y
 |.fieldAddr t x k=>match E.ti t,kq fr x with
  |some i,Z v=>rz i s k v|_,_=>Y
 |.field t x k=>match E.ti t,kq fr x with
  |some i,Z v=>GX i s k v|_,_=>Y
 |.indexAddr t x w=>match E.ti t,kq fr x,kq fr w with
  |some i,Z v,Z n=>kD i s v n|_,_,_=>Y
 |.index t x w=>match E.ti t,kq fr x,kq fr w with
  |some i,Z v,Z n=>GK i s v n|_,_,_=>Y
 |.slice t x lo B C=>match E.ti t,kq fr x,N1 fr lo,N1 fr B,N1 fr C with
  |some i,Z v,Z l,Z h,Z m=>qG i s v l h m|_,_,_,_,_=>Y
 |.typeAssert x _ t ok=>match E.ti t,kq fr x with
  |some i,Z v=>sk i s t ok v|_,_=>Y
 |_=>Y
def D.T6(a b:L D):Prop:=a.length+b.length<=17179869184
def u9(i:TI)(s:St)(x y:T):uq:=
 bif !(Nt s.aE bM)then Y else
 match i.kd,BQ s y with
 |.slice sz _ b _,Z (q,new)=>
  match x with
  |.emp=>Z (q/\jH new sz/\vO new b,.sh s.aE 0,(eo s (.arr sz new 0)).2)|.kM _ a=>
   let c:=q/\jH (iG a new) sz/\vO (iG a new) b/\D.T6 a new
   match y with
   |.kM (_+1) _=>Z (c,.sh s.aE 0,(eo s (.arr sz (iG a new) 0)).2)|_=>Z (c,.sym (.sl (iG a new)),s)
  |.sh o e=>match s.ob.get o with
   |some (.arr z a era)=>
    bif Nl s.fl o&&Nq e era&&Nq z sz&&!(tI y).contains o then
     Z (q/\jH new sz/\vO (iG a new) b/\D.T6 a new,.sh o (Ns era),{s with ob:=s.ob.set aM o (.arr sz (iG a new) (Ns era))})
    else Y
   |_=>Y
  |_=>Y
 |_,_=>Y
def fM(E:Env)(s:St)(b:Builtin)(a:Array TypeId)(args:L T):uq:=
 match b,args with
 |.len,[x]=>match Ak x,(nth a.toList 0).bind E.ti with
  |some (p,b),Z i=>match i.kd with
   |.leaf .str=>Z (p,.sym (.lit (.int .i64 (vC b))),s)|.slice _ _ _ _=>(BQ s x).map λ(p,c)=>(p,.sym (.lit (.int .i64 (eN c))),s)|_=>Y
  |none,Z i=>match i.kd with
   |.slice _ _ _ _=>(BQ s x).map λ(p,c)=>(p,.sym (.lit (.int .i64 (eN c))),s)|_=>Y
  |_,_=>Y
 |.append,[x,y]=>match a.toList with
  |[t,u]=>match E.ti t,E.ti u with
   |some i,Z j=>match j.kd with
    |.slice _ _ _ _=>u9 i s x y|_=>Y
   |_,_=>Y
  |_=>Y
 |_,_=>Y
end
end TL
end
section
namespace TL
open Go
section
def xX:T->L T->O (FuncId×L T)
 |.fn (.func f) first cap,args=>Z (f,first++args++cap)
 |_,_=>Y
section
variable (E:Env)
def gamT(s:St)(f:FuncId)(args:L T):O (Prop×T×St):=
 match E.IU f with
 |none=>Y|some c=>match oq s args with
  |none=>Y|some (p,ds,os)=>(freeze s os).map λa=>(p/\c.pre ds,.sym (c.f ds),a)
abbrev am6:=FuncId->L T->St->(T->St->Prop)->(T->St->Prop)->Prop
variable (call:am6)
def ajc(fr:Fr):O Nat->Bool
 |none=>W|some d=>Nt d fr.n
end
def Ch:L T->Nat->Tr T->Tr T
 |[],_,t=>t|a::l,k,t=>Ch l (Ns k) (t.set aM k a)
def mU(E:Env)(s:St)(fr:Fr):L ResultVar->O (Prop×L T)
 |[]=>Z (True,[])|.tmp t::l=>match fr.get t,mU E s fr l with
  |some x,Z (p,r)=>Z (p,x::r)|_,_=>Y
 |.cell a t::l=>match(E.ti t),fr.get a with
  |some i,Z a=>match loadT i s a,mU E s fr l with
   |some (p,x,_),Z (q,r)=>Z (p/\q,x::r)|_,_=>Y
  |_,_=>Y
def afC:L T->T
 |[x]=>x|l=>.gR l
end
end TL
end
section
namespace TL
section
theorem bV{α:Type}(l:L α):cH l=l.length:=by
 induction l with|nil=>rfl|cons a l b=>simp[cH,b]
theorem kr{α:Type}(l:L α)(k:Nat):nth l k=l[k]?:=by
 induction l generalizing k with
 |nil=>cases k<;>rfl
 |cons a l b=>cases k with|zero=>rfl|succ k=>simp[nth,b]
namespace Tr
variable {α:Type}
theorem get_nil(k:Nat):(Tr.nil:Tr α).get k=Y:=by cases k<;>rfl
theorem je(v:O α)(l r:Tr α):(Tr.node v l r).get 0=v:=by simp[get]
def dG(v:O α)(l r:Tr α)(k:Nat):(Tr.node v l r).get (k+1)=if k%2=0 then l.get (k/2)else r.get (k/2):=by
 simp[get];by_cases h:k%2=0;have:Nq (Nat.mod k 2) 0=W:=by show Nq (k%2) 0=W;rw[h];rfl
 simp[this,h];rfl;have:Nq (Nat.mod k 2) 0=J:=by
  show Nq (k%2) 0=J;have:k%2=1:=by omega
  rw[this];rfl
 simp[this,h];rfl
theorem IG(n:Nat)(v:O α)(l r:Tr α)(x:α):Tr.set (n+1) (.node v l r) 0 x=.node (Z x) l r:=rfl
theorem Ao(n:Nat)(x:α):Tr.set (n+1) .nil 0 x=.node (Z x) .nil .nil:=rfl
def n9(n:Nat)(v:O α)(l r:Tr α)(k:Nat)(x:α) :
  Tr.set (n+1) (.node v l r) (k+1) x=if k%2=0 then .node v (Tr.set n l (k/2) x) r else .node v l (Tr.set n r (k/2) x):=by
 simp[set];by_cases h:k%2=0;have:Nq (Nat.mod k 2) 0=W:=by show Nq (k%2) 0=W;rw[h];rfl
 simp[this,h];rfl;have:Nq (Nat.mod k 2) 0=J:=by
  show Nq (k%2) 0=J;have:k%2=1:=by omega
  rw[this];rfl
 simp[this,h];rfl
def pK(n:Nat)(k:Nat)(x:α) :
  Tr.set (n+1) .nil (k+1) x=if k%2=0 then .node Y (Tr.set n .nil (k/2) x) .nil else .node Y .nil (Tr.set n .nil (k/2) x):=by
 simp[set];by_cases h:k%2=0;have:Nq (Nat.mod k 2) 0=W:=by show Nq (k%2) 0=W;rw[h];rfl
 simp[this,h];rfl;have:Nq (Nat.mod k 2) 0=J:=by
  show Nq (k%2) 0=J;have:k%2=1:=by omega
  rw[this];rfl
 simp[this,h];rfl
def adh(n:Nat):∀(t:Tr α)(k j:Nat)(x:α),k+1<2 ^ n->(Tr.set n t k x).get j=if j=k then Z x else t.get j:=by
 induction n with
 |zero=>omega|succ n d=>
  intro t k j x h;cases k with
  |zero=>
   cases t with
   |nil=>
    rw[Ao];cases j with|zero=>rfl|succ j=>rw[dG];simp[get_nil]
   |node v l r=>
    cases j with|zero=>rfl|succ j=>rfl
  |succ k=>
   have c:k/2+1<2 ^ n:=by omega
   cases t with
   |nil=>
    rw[pK];cases j with
    |zero=>split<;>simp[je,get_nil]
    |succ j=>
     by_cases a:k%2=0;rw[bD a,dG,get_nil];by_cases b:j%2=0
     grind[get_nil]
     rw[bQ b,get_nil,bQ (by omega)];rw[bQ a,dG,get_nil];by_cases b:j%2=0;rw[bD b,get_nil,bQ (by omega)]
     grind[get_nil]
   |node v l r=>
    rw[n9];cases j with
    |zero=>split<;>simp[je]
    |succ j=>
     by_cases a:k%2=0;rw[bD a,dG,dG]
     grind
     rw[bQ a,dG,dG]
     grind
def aV(t:Tr α)(k j:Nat)(x:α)(h:k<bM):(Tr.set aM t k x).get j=if j=k then Z x else t.get j:=
 adh _ _ _ _ _ (by unfold aM;unfold bM at h;omega)
end Tr
end
end TL
end
section
namespace TL
open Go
section
structure fe where
 a:Option Addr
 len:Nat
 cap:Nat
 sz:Nat
structure Gh where
 bT:Nat->Option Nat
 arr:Nat->Nat->Option fe
 bx:Nat->Prop
inductive dJ(I:Nat->Prop)(w:World):D->Value->Prop where
 |lit (v:Value):dJ I w (.lit v) v|sl (es:List D) (a:Option Addr) (cap sz:Nat) (val:Nat->Nat->Value)
   (hcap:es.length<=cap) (hsz:∀d∈es,d.cells.length=sz) (hby:∀d∈es,es.length*d.sP<=281474976710656)
   (ha:es≠[]->∃ad,a=Z ad/\I ad.block/\∀i j d c,es[i]?=Z d->d.cells[j]?=Z c->w.cell? (ad.add (i*sz+j))=Z (val i j))
   (hc:∀i j d c,es[i]?=Z d->d.cells[j]?=Z c->dJ I w c (val i j)):dJ I w (.sl es) (.slice a es.length cap)
 |agg (cs:List D) (vs:Array Value) (hl:cs.length=vs.size) (hf:∀c∈cs,c.leaf=W)
   (h:∀(j:Nat)(c:D)(v:Value),cs[j]?=Z c->vs[j]?=Z v->dJ I w c v):dJ I w (.agg cs) (.agg vs)
 |dj (t:TypeId) (d:D) (v:Value) (h:dJ I w d v):dJ I w (.dj t d) (.iface t v)|gR (ds:List D) (vs:Array Value) (hl:ds.length=vs.size)
   (h:∀(j:Nat)(c:D)(v:Value),ds[j]?=Z c->vs[j]?=Z v->dJ I w c v):dJ I w (.gR ds) (.tuple vs)
 |pt (d:D) (ad:Addr) (val:Nat->Value) (hi:I ad.block) (hc:∀j c,d.cells[j]?=Z c->w.cell? (ad.add j)=Z (val j))
   (hd:∀j c,d.cells[j]?=Z c->dJ I w c (val j)):dJ I w (.pt d) (.pointer (Z (ad.add 0)))
 |mp (ks vs:List D) (b:Nat) (ms:Array MapEntry) (n:Nat) (hi:I b) (hb:w.heap[b]?=Z (.map ms n)) (h1:ks.length=ms.size) (h2:vs.length=ms.size)
   (hk:∀(j:Nat)(c:D)(m:MapEntry),ks[j]?=Z c->ms[j]?=Z m->dJ I w c m.key) (hv:∀(j:Nat)(c:D)(m:MapEntry),vs[j]?=Z c->ms[j]?=Z m->dJ I w c m.val):dJ I w (.mp ks vs) (.map (Z b))
def j4(I:Nat->Prop)(w w':World):Prop:=∀b,I b->w'.heap[b]?=w.heap[b]?
theorem j4.cell{I:Nat->Prop}{w w':World}(h:j4 I w w'){a:Addr}(b:I a.block):w'.cell? a=w.cell? a:=by unfold World.cell?;rw[h _ b]
def lg(a:Addr)(n:Nat):(a.add n).block=a.block:=by unfold Addr.add;split<;>rfl
theorem dJ.mono{I z:Nat->Prop}{w w':World}(m:j4 I w w')(o:∀b,I b->z b){d:D}{v:Value}(h:dJ I w d v):dJ z w' d v:=by
 induction h with
 |lit v=>exact .lit v|sl B a cap sz val f p q C A e=>
  refine .sl B a cap sz val f p q (λr=>?_) e
  let ⟨s,E,l,u⟩:=C r
  refine⟨s,E,o _ l,λi j d c F K=>?_⟩;rw[m.cell (by rw[lg];exact l)]
  simp_all
 |agg P g x Q h e=>exact .agg P g x Q e|dj t d v h e=>exact .dj t d v e|gR ds g x h e=>exact .gR ds g x e|pt d s val k A F e=>exact .pt d s val (o _ k) (λj c R=>by rw[m.cell (by rw[lg];exact k)];exact A j c R) e
 |mp S g b ms n k l h1 h2 _ _ e y=>exact .mp S g b ms n (o _ k) (by rw[m b k];exact l) h1 h2 e y
def rc(r i:Nat):Nat:=2 ^ r*(2*i+1)
def jD(nj:Nat)(d:D)(h:Value):D:=.agg (d.cells.set nj (.lit h))
inductive aI(g:Gh)(w:World):T->Value->Prop where
 |sym (d:D) (v:Value) (h:dJ g.bx w d v):aI g w (.sym d) v|kb (b:Bool):aI g w (.kb b) (.bool b)|kn (k:IntKind) (n:Int):aI g w (.kn k n) (.int k n)|ptr (o off b:Nat) (h:g.bT o=Z b):aI g w (.ptr o off) (.pointer (Z ⟨b,off,Y⟩))|mc (d:D) (off:Nat) (ad:Addr) (val:Nat->Value) (hi:g.bx ad.block)
   (hc:∀j c,d.cells[j]?=Z c->w.cell? (ad.add j)=Z (val j)) (hd:∀j c,d.cells[j]?=Z c->dJ g.bx w c (val j)) :
   aI g w (.mc d off) (.pointer (Z (ad.add off)))
 |l9 (o e i off len cap sz:Nat) (ad:Addr) (h:g.arr o e=Z ⟨Z ad,len,cap,sz⟩):aI g w (.l9 o e i off) (.pointer (Z (ad.add (i*sz+off))))|sh (o e len cap sz:Nat) (a:Option Addr) (h:g.arr o e=Z ⟨a,len,cap,sz⟩):aI g w (.sh o e) (.slice a len cap)|emp (a:Option Addr):aI g w .emp (.slice a 0 0)|kM (n:Nat) (es:List D) (a:Option Addr) (hn:n<=es.length) (h:dJ g.bx w (.sl es) (.slice a es.length es.length)):aI g w (.kM n es) (.slice a es.length es.length)|fn (f:Fn) (fs cs:List T) (va vc:Array Value) (hl:fs.length=va.size) (hm:cs.length=vc.size)
   (h:∀(j:Nat)(t:T)(v:Value),fs[j]?=Z t->va[j]?=Z v->aI g w t v)
   (h':∀(j:Nat)(t:T)(v:Value),cs[j]?=Z t->vc[j]?=Z v->aI g w t v):aI g w (.fn f fs cs) (.func f va vc)
 |dj (t:TypeId) (x:T) (v:Value) (h:aI g w x v):aI g w (.dj t x) (.iface t v)|agg (cs:List T) (vs:Array Value) (hl:cs.length=vs.size)
   (h:∀(j:Nat)(t:T)(v:Value),cs[j]?=Z t->vs[j]?=Z v->aI g w t v):aI g w (.agg cs) (.agg vs)
 |gR (cs:List T) (vs:Array Value) (hl:cs.length=vs.size)
   (h:∀(j:Nat)(t:T)(v:Value),cs[j]?=Z t->vs[j]?=Z v->aI g w t v):aI g w (.gR cs) (.tuple vs)
 |gd (c:Bool) (t:T) (v:Value) (h:c=W->aI g w t v):aI g w (.gd c t) v|mp (o b:Nat) (h:g.bT o=Z b):aI g w (.mp o) (.map (Z b))|rP (o b:Nat) (h:g.bT o=Z b):aI g w (.rP o) (.func (.yield b) #[] #[])|uo (o b:Nat) (h:g.bT o=Z b):aI g w (.uo o) (.pointer (Z ⟨b,0,Y⟩))|ub (e b:Bool) (h:b=W->e=W):aI g w (.ub e) (.bool b)|sC (o m r i len cap sz:Nat) (a:Option Addr) (h:g.arr m (rc r i)=Z ⟨a,len,cap,sz⟩):aI g w (.sC o m r i) (.slice a len cap)|qd (j:Nat) (d:D) (c:Option Addr) (a:Option Addr) (hj:d.cells[j]?=Z (.sl [])) (hd:dJ g.bx w (.sl [jD j d (.slice c 0 0)]) (.slice a 1 1)):aI g w (.qd j d) (.slice a 1 1)
inductive gX(g:Gh)(w:World):Ob->Obj->Prop where
 |box (cs:List T) (vs:Array Value) (ty:TypeId) (hl:cs.length=vs.size) (h:∀(j:Nat)(t:T)(v:Value),cs[j]?=Z t->vs[j]?=Z v->aI g w t v):gX g w (.box cs) (.cells vs ty (0,0))|map (es:List (T×T)) (ms:Array MapEntry) (c:Nat) (hl:es.length=ms.size)
   (h:∀(j:Nat)(t:T×T)(m:MapEntry),es[j]?=Z t->ms[j]?=Z m->aI g w t.1 m.key/\aI g w t.2 m.val):gX g w (.map es) (.map ms c)
 |rO (s:ByteArray) (pos:Nat):gX g w (.rO s pos) (.stringIter s pos)|lp (l:Lp) (r:Loop) (h1:r.state=l.st) (h2:r.pending=l.vW) (h4:r.params.toList=l.params) (h5:r.assign=l.assign) (h6:r.body=l.body)
   (h8:r.tmps.size=l.fr.n) (h9:∀k t,l.fr.get k=Z t->∃v,r.tmps[k]?=Z v/\aI g w t v):gX g w (.lp l) (.loop r)
 |Ab:gX g w .Ab (.deferred (Z []))
def bJ(g:Gh)(o b:Nat):Prop:=¬g.bx b/\(g.bT o=Z b\/∃e x ad,g.arr o e=Z x/\x.a=Z ad/\ad.block=b/\x.cap≠0)
structure xD(g:Gh)(w:World)(fz:Bool)(sz:Nat)(es:List D)(x:fe):Prop where
 len:x.len=es.length
 cap:x.len<=x.cap
 rows:∀d∈es,d.cells.length=sz
 pos:0<sz
 W0:∀d∈es,es.length*d.sP<=281474976710656
 mem:x.cap≠0->∃b vs ty,x.a=Z ⟨b,0,Y⟩/\(fz=W↔g.bx b)/\w.heap[b]?=Z (.cells vs ty (0,0))/\x.cap*sz<=vs.size/\
  ∀i d j c,es[i]?=Z d->d.cells[j]?=Z c->∃v,vs[i*sz+j]?=Z v/\dJ g.bx w c v
def ga(fz:Bool)(sz:Nat)(es:L D)(era:Nat):Ob:=if fz then .lM sz es era else .arr sz es era
def xy(g:Gh)(s:St)(w:World)(o b:Nat):Prop:=
 ¬g.bx b/\b<w.heap.size/\∀ob,s.ob.get o=Z ob->∃h,w.heap[b]?=Z h/\gX g w ob h
def xy.box{g:Gh}{s:St}{w:World}{o b:Nat}(h:xy g s w o b){cs:L T}(c:s.ob.get o=Z (.box cs)) :
  ∃vs ty,w.heap[b]?=Z (.cells vs ty (0,0))/\cs.length=vs.size/\∀(j:Nat)(t:T)(v:Value),cs[j]?=Z t->vs[j]?=Z v->aI g w t v:=by
 let ⟨x,d,a⟩:=h.2.2 _ c
 cases a with|box cs vs ty e a=>grind
variable {s:St}{w w':World}{o b e fl:Nat}{ob:Ob}{d:Df}{v:Value}{t:T}{p:T->Bool}
def xy.Cb{g:Gh}(h:xy g s w o b)(fz:Bool){sz:Nat}{es:L D}(a:s.ob.get o=Z (if fz then .lM sz es e else .arr sz es e)):False:=by
 let ⟨x,d,c⟩:=h.2.2 _ a
 cases fz<;>cases c
def gX.Cb{g:Gh}{h:Obj}(a:gX g w ob h):ob.oC=J:=by cases a<;>rfl
def fe.at(x:fe)(b:Nat):Prop:=∃ad,x.a=Z ad/\ad.block=b/\x.cap≠0
def lits(nj:Nat)(es:L D)(hs:L Value):L D:=List.zipWith (jD nj) es hs
def Jb(g:Gh)(m hU:Nat)(hole:O Nat)(hs:L Value):Prop:=
 (∀(i:Nat)(h:Value),hs[i]?=Z h->∃a n k,h=.slice a n k)/\∀(i:Nat)(h:Value),hs[i]?=Z h->hole≠Z i->∃y,g.arr m (rc hU i)=Z y/\h=.slice y.a y.len y.cap
def Uu(g:Gh)(w:World)(o e:Nat)(x:fe)(ob:Ob):Prop:=
 ∃fz es era,ob=ga fz x.sz es era/\e<=era/\(∀a,era<a->g.arr o a=Y)/\(e=era->xD g w fz x.sz es x)
def amZ(g:Gh)(w:World)(o e:Nat)(x:fe)(ob:Ob):Prop:=
 ∃nj es era m hU hole,ob=.lT nj x.sz es era m hU hole/\e<=era/\(∀a,era<a->g.arr o a=Y)/\
  (e=era->∃hs,hs.length=es.length/\xD g w J x.sz (lits nj es hs) x/\Jb g m hU hole hs)
def amR(g:Gh)(w:World)(o e:Nat)(x:fe)(ob:Ob):Prop:=
 ∃sz iU hU,ob=.rws sz iU hU/\(∀r i,hU<r->g.arr o (rc r i)=Y)/\
  (∀i a y c,i≠a->g.arr o (rc hU i)=Z y->g.arr o (rc hU a)=Z c->∀b,y.at b->¬c.at b)/\
  (∀i,e=rc hU i->x.sz=sz/\∃d,iU[i]?=Z d/\xD g w J sz d x)
def am0(g:Gh)(w:World)(e:Nat)(x:fe)(ob:Ob):Prop:=
 ob=.Gl/\x.a=Z ⟨e,0,Y⟩/\x.cap≠0/\¬g.bx e/\w.heap[e]?=Z (.deferred (Z []))
def vP(g:Gh)(w:World)(o e:Nat)(x:fe)(ob:Ob):Prop:=
 Uu g w o e x ob\/amZ g w o e x ob\/amR g w o e x ob\/ob=.gone\/am0 g w e x ob
def vP.oC{g:Gh}{w:World}{o e:Nat}{x:fe}{ob:Ob}(h:vP g w o e x ob):ob.oC=W:=by
 obtain⟨a,_,_,rfl,_⟩|⟨_,_,_,_,_,_,rfl,_⟩|⟨_,_,_,rfl,_⟩|rfl|⟨rfl,_⟩:=h
 cases a<;>rfl;rfl;rfl;rfl;rfl
def vP.old{g:Gh}{x:fe}(h:vP g w o e x ob)(hi:ob.isA=W):Uu g w o e x ob:=by
 obtain h|⟨_,_,_,_,_,_,rfl,_⟩|⟨_,_,_,rfl,_⟩|rfl|⟨rfl,_⟩:=h
 exact h;cases hi;cases hi;cases hi;cases hi
def BF(g:Gh)(s:St)(w:World)(o e:Nat)(x:fe):Prop:=
 (∀ad,x.a=Z ad->x.cap≠0->ad.block<w.heap.size)/\∀ob,s.ob.get o=Z ob->vP g w o e x ob
def BF.old{g:Gh}{s:St}{w:World}{o e:Nat}{x:fe}(h:BF g s w o e x)(ob:Ob)(b:s.ob.get o=Z ob)(hi:ob.isA=W) :
  ∃fz es era,ob=ga fz x.sz es era/\e<=era/\(∀a,era<a->g.arr o a=Y)/\(e=era->xD g w fz x.sz es x):=(h.2 ob b).old hi
def Wv(fz:Bool)(sz:Nat)(es:L D)(era:Nat):(ga fz sz es era).isA=W:=by cases fz<;>rfl
structure aY(g:Gh)(s:St)(w:World):Prop where
 aE:s.aE<=bM
 ah:∀o,s.aE<=o->g.bT o=Y/\∀e,g.arr o e=Y
 box:∀o b,g.bT o=Z b->xy g s w o b
 arr:∀o e x,g.arr o e=Z x->BF g s w o e x
 bx:∀b,g.bx b->b<w.heap.size
 j6:∀o o' b,bJ g o b->bJ g o' b->o=o'
inductive xw(g:Gh)(w:World):Df->Deferred->Prop where
 |call (f:T) (args:List T) (fv:Fn) (first cap Xc:Array Value) (h3:aI g w f (.func fv first cap)) (h4:args.length=Xc.size)
   (h5:∀(j:Nat)(t:T)(v:Value),args[j]?=Z t->Xc[j]?=Z v->aI g w t v):xw g w (.call f args) {target:=.fn fv cap,args:=first++Xc}
 |mark (o b:Nat) (h:g.bT o=Z b):xw g w (.mark o) {target:=.collected b,args:=#[]}|bad (d:Deferred):xw g w .bad d
inductive eS(g:Gh)(w:World):List Df->List Deferred->Prop where
 |nil:eS g w [] []|cons {d:Df} {e:Deferred} {l:List Df} {m:List Deferred} (h:xw g w d e) (t:eS g w l m):eS g w (d::l) (e::m)
 |marks (o:Nat) (bs:List Nat) {l:List Df} {m:List Deferred} (hn:bs.Nodup) (h:∀b∈bs,∃n c,aI g w (.sh o b) (.slice (Z ⟨b,0,Y⟩) n c)) (t:eS g w l m):eS g w (.marks o::l) (bs.map (λb=>{target:=.collected b,args:=#[]})++m)
 |kK (xs:List Deferred) {l:List Df} {m:List Deferred} (t:eS g w l m):eS g w (.kK::l) (xs++m)
structure cU(g:Gh)(fr:Fr)(a:Act)(w:World):Prop where
 size:a.tmps.size=fr.n
 df:eS g w fr.df a.defers
 tm:∀k t,fr.get k=Z t->∃v,a.tmps[k]?=Z v/\aI g w t v
structure Ext(fl:Nat)(g:Gh)(w:World)(g':Gh)(w':World):Prop where
 bT:∀o b,g.bT o=Z b->g'.bT o=Z b
 arr:∀o e x,g.arr o e=Z x->g'.arr o e=Z x
 bx:∀b,g.bx b->g'.bx b
 size:w.heap.size<=w'.heap.size
 heap:∀b,b<w.heap.size->(∀o,fl<=o->¬bJ g o b)->w'.heap[b]?=w.heap[b]?
 own:∀o b,bJ g' o b->bJ g o b\/w.heap.size<=b
 oD:∀b,g'.bx b->g.bx b\/w.heap.size<=b\/∃o,fl<=o/\bJ g o b
 os:w'.os=w.os
 output:w'.output=w.output
theorem Ext.refl(fl:Nat)(g:Gh)(w:World):Ext fl g w g w:=
 ⟨λ_ _ h=>h,λ_ _ _ h=>h,λ_ h=>h,eO _,λ_ _ _=>rfl,λ_ _ h=>.inl h,λ_ h=>.inl h,rfl,rfl⟩
def Ext.trans{fl:Nat}{g g' d:Gh}{w w' f:World}(h:Ext fl g w g' w')(k:Ext fl g' w' d f):Ext fl g w d f where
 bT o b e:=k.bT o b (h.bT o b e)
 arr o e x i:=k.arr o e x (h.arr o e x i)
 bx b e:=k.bx b (h.bx b e)
 size:=gk h.size k.size
 heap b c j:=by
  rw[k.heap b (iS c h.size) (λo l a=>?_),h.heap b c j];obtain a|a:=h.own o b a
  grind
  omega
 own o b a:=by
  obtain a|a:=k.own o b a
  exact h.own o b a;exact .inr (gk h.size a)
 oD b c:=by
  obtain c|c|⟨o,l,a⟩:=k.oD b c
  exact h.oD b c;exact .inr (.inl (gk h.size c));obtain a|a:=h.own o b a
  grind
  omega
 os:=k.os.trans h.os
 output:=k.output.trans h.output
def Ext.keeps{g g':Gh}(h:Ext fl g w g' w')(hi:∀b,g.bx b->b<w.heap.size):j4 g.bx w w':=
 λb a=>h.heap b (hi b a) λ_ _ c=>c.1 a
def dJ.ext{g g':Gh}(h:Ext fl g w g' w')(hi:∀b,g.bx b->b<w.heap.size){d:D}(a:dJ g.bx w d v):dJ g'.bx w' d v:=
 a.mono (h.keeps hi) h.bx
def aI.ext{fl:Nat}{g g':Gh}{w w':World}(h:Ext fl g w g' w')(hi:∀b,g.bx b->b<w.heap.size){t:T}{v:Value}(F:aI g w t v):aI g' w' t v:=by
 induction F with|sym d v p=>exact .sym d v (p.ext h hi)|kb b=>exact .kb b|kn k n=>exact .kn k n|ptr o off b q=>exact .ptr o off b (h.bT o b q)|mc d off B val s hc p=>exact .mc d off B val (h.bx _ s) (λj c A=>by rw[(h.keeps hi).cell (by rw[lg];exact s)];grind) (λj c A=>(p j c A).ext h hi)|l9 o e i off len cap sz B u=>exact .l9 o e i off len cap sz B (h.arr _ _ _ u)|sh o e len cap sz a u=>exact .sh o e len cap sz a (h.arr _ _ _ u)|emp a=>exact .emp a|kM n I a K p=>exact .kM n I a K (p.ext h hi)|fn f P y Q R z S _ _ l C=>exact .fn f P y Q R z S l C|dj t x v _ l=>exact .dj t x v l|agg y E z _ l=>exact .agg y E z l|gR y E z _ l=>exact .gR y E z l|gd c t v _ l=>exact .gd c t v l|mp o b q=>exact .mp o b (h.bT o b q)|rP o b q=>exact .rP o b (h.bT o b q)|uo o b q=>exact .uo o b (h.bT o b q)|ub e b h=>exact .ub e b h|sC o m r i len cap sz a u=>exact .sC o m r i len cap sz a (h.arr _ _ _ u)|qd j d c a A p=>exact .qd j d c a A (p.ext h hi)
def aI.ar1{g g':Gh}(A:∀k j y,g.arr k j=Z y->g'.arr k j=Z y)(z:g'.bT=g.bT)(hi:g'.bx=g.bx)(K:aI g w t v):aI g' w t v:=by
 induction K with|sym d v p=>exact .sym d v (hi▸p)|kb b=>exact .kb b|kn k n=>exact .kn k n|ptr o off b h=>exact .ptr o off b (z▸h)|mc d off B val C P p=>exact .mc d off B val (hi▸C) P (λj c E=>hi▸p j c E)|l9 o e i off len cap sz B q=>exact .l9 o e i off len cap sz B (A _ _ _ q)|sh o e len cap sz a q=>exact .sh o e len cap sz a (A _ _ _ q)|emp a=>exact .emp a|kM n Q a R p=>exact .kM n Q a R (hi▸p)|fn f S s va vc u hm _ _ l F=>exact .fn f S s va vc u hm l F|dj t x v _ l=>exact .dj t x v l|agg s I u _ l=>exact .agg s I u l|gR s I u _ l=>exact .gR s I u l|gd c t v _ l=>exact .gd c t v l|mp o b h=>exact .mp o b (z▸h)|rP o b h=>exact .rP o b (z▸h)|uo o b h=>exact .uo o b (z▸h)|ub e b h=>exact .ub e b h|sC o m r i len cap sz a q=>exact .sC o m r i len cap sz a (A _ _ _ q)|qd j d c a E p=>exact .qd j d c a E (hi▸p)
def gX.imp{g g':Gh}(b:∀t v,aI g w t v->aI g' w' t v){x:Obj}(a:gX g w ob x):gX g' w' ob x:=by
 cases a with
 |box e f ty d a=>exact .box e f ty d λj t v h1 h2=>b _ _ (a j t v h1 h2)|map h i c d a=>exact .map h i c d λj t m h1 h2=>⟨b _ _ (a j t m h1 h2).1,b _ _ (a j t m h1 h2).2⟩|rO s pos=>exact .rO s pos|lp l r h1 h2 h4 h5 h6 n o=>exact .lp l r h1 h2 h4 h5 h6 n λk t p=>let ⟨v,q,u⟩:=o k t p;⟨v,q,b _ _ u⟩
 |Ab=>exact .Ab
def gX.ext{fl:Nat}{g g':Gh}{w w':World}(h:Ext fl g w g' w')(hi:∀b,g.bx b->b<w.heap.size){ob:Ob}{x:Obj}(a:gX g w ob x):gX g' w' ob x:=
 a.imp (λ_ _ c=>c.ext h hi)
def vL(p:T->Bool)(t u:T):Prop:=(u=t/\p t=J)\/∃v,u=.gd J v
def so(p:T->Bool)(ob a:Ob):Prop:=
 match ob,a with
 |.box cs,.box ds=>cs.length=ds.length/\∀(j:Nat)(t u:T),cs[j]?=Z t->ds[j]?=Z u->vL p t u|.map es,.map ds=>es.length=ds.length/\∀(j:Nat)(t u:T×T),es[j]?=Z t->ds[j]?=Z u->vL p t.1 u.1/\vL p t.2 u.2|.lT nj sz es era m hU hole,a=>(a=.lT nj sz es era m hU hole/\p (.sh m 0)=J)\/a=.gone|.lp l,.lp m=>m={l with fr:=m.fr}/\m.fr.n=l.fr.n/\∀k u,m.fr.get k=Z u->∃t,l.fr.get k=Z t/\vL p t u
 |ob,a=>ob=a
def vL.rel{g g':Gh}(a:∀t v,aI g w t v->p t=J->aI g' w' t v){u:T}(h:vL p t u)(b:aI g w t v):aI g' w' u v:=by
 obtain⟨rfl,c⟩|⟨x,rfl⟩:=h
 grind
 exact .gd _ _ _ λh=>by cases h
def gX.left{g g':Gh}(i:∀t v,aI g w t v->p t=J->aI g' w' t v){a:Ob}{x:Obj}(b:gX g w ob x)(hl:so p ob a):gX g' w' a x:=by
 cases b with
 |box z A ty d b=>
  cases a with
  |box ds=>
   let ⟨B,n⟩:=hl
   refine .box ds A ty (by omega) λj u v f o=>?_;have h:j<z.length:=by grind
   exact(n j _ u (iX h) f).rel i (b j _ v (iX h) o)
  |_=>cases hl
 |map C E c d b=>
  cases a with
  |map ds=>
   let ⟨B,n⟩:=hl
   refine .map ds E c (by omega) λj u m f F=>?_;have h:j<C.length:=by grind
   have h1:=n j _ u (iX h) f;have h2:=b j _ m (iX h) F;exact⟨h1.1.rel i h2.1,h1.2.rel i h2.2⟩
  |_=>cases hl
 |rO s pos=>cases a<;>first|(cases hl;exact .rO _ _)|cases hl
 |lp l r h1 h2 h4 h5 h6 I K=>
  cases a with
  |lp m=>
   let ⟨e,P,Q⟩:=hl
   rw[e];refine .lp _ r h1 h2 h4 h5 h6 (I.trans P.symm) λk u f=>?_
   let ⟨t,R,q⟩:=Q k u f
   let ⟨v,o,y⟩:=K k t R
   exact⟨v,o,q.rel i y⟩
  |_=>cases hl
 |Ab=>cases a<;>first|exact .Ab|cases hl
def xw.imp{g g':Gh}(c:∀t v,aI g w t v->aI g' w' t v)(i:∀o b,g.bT o=Z b->g'.bT o=Z b){e:Deferred}(h:xw g w d e):xw g' w' d e:=by
 cases h with
 |call f args k first cap a h3 h4 h5=>exact .call f args k first cap a (c _ _ h3) h4 (λj t v l m=>c _ _ (h5 j t v l m))
 |mark o b h=>exact .mark o b (i o b h)|bad=>exact .bad _
def eS.imp{g g':Gh}{w w':World}(e:∀t v,aI g w t v->aI g' w' t v)(f:∀o b,g.bT o=Z b->g'.bT o=Z b){l:L Df}{m:L Deferred}(h:eS g w l m):eS g' w' l m:=by
 induction h with|nil=>exact .nil|cons h _ a=>exact .cons (h.imp e f) a|marks o i j h _ a=>exact .marks o i j (λb d=>let ⟨n,c,h1⟩:=h b d;⟨n,c,e _ _ h1⟩) a|kK k _ a=>exact .kK k a
def Sw(p:T->Bool)(d e:Df):Prop:=(e=.bad/\d.one=W)\/(e=d/\match d with
 |.call f args=>p f=J/\∀t∈args,p t=J|.mark o=>p (.ptr o 0)=J|.marks _=>False|.kK=>False|.bad=>True)
inductive iF(p:T->Bool):List Df->List Df->Prop where
 |nil:iF p [] []|cons {d e:Df} {l m:List Df} (h:Sw p d e) (t:iF p l m):iF p (d::l) (e::m)|marks (o:Nat) {l m:List Df} (h:∀e,p (.sh o e)=J) (t:iF p l m):iF p (.marks o::l) (.marks o::m)|af4 (o:Nat) {l m:List Df} (t:iF p l m):iF p (.marks o::l) (.kK::m)|kK {l m:List Df} (t:iF p l m):iF p (.kK::l) (.kK::m)
def Sw.rel{g g':Gh}(c:∀t v,aI g w t v->p t=J->aI g' w' t v){e:Df}{x:Deferred}(h:Sw p d e)(l:xw g w d x):xw g' w' e x:=by
 obtain⟨rfl,_⟩|⟨rfl,h⟩:=h
 exact .bad _;cases l with
 |call f args m first cap a h3 h4 h5=>exact .call f args m first cap a (c _ _ h3 h.1) h4 (λj t v k n=>c _ _ (h5 j t v k n) (h.2 t (iA k)))
 |mark o b q=>
  have:=c _ _ (.ptr o 0 b q) h;cases this with|ptr _ _ _ i=>exact .mark o b i
 |bad=>exact .bad _
def iF.rel{g g':Gh}{w w':World}{p:T->Bool}(a:∀t v,aI g w t v->p t=J->aI g' w' t v):∀{l m:L Df}{d:L Deferred},iF p l m->eS g w l d->eS g' w' m d
 |_,_,_,.nil,.nil=>.nil|_,_,_,.cons h t,.cons k u=>.cons (h.rel a k) (iF.rel a t u)|_,_,_,.cons h _,.marks _ _ _ _ _=>by obtain⟨_,h⟩|⟨_,h⟩:=h<;>cases h
 |_,_,_,.cons h _,.kK _ _=>by obtain⟨_,h⟩|⟨_,h⟩:=h<;>cases h
 |_,_,_,.marks o h t,.marks _ e f k u=>.marks o e f (λb i=>let ⟨n,c,h1⟩:=k b i;⟨n,c,a _ _ h1 (h b)⟩) (iF.rel a t u)
 |_,_,_,.marks _ _ _,.cons k _=>by cases k
 |_,_,_,.af4 o t,.marks _ e _ _ u=>.kK _ (iF.rel a t u)|_,_,_,.af4 _ _,.cons k _=>by cases k
 |_,_,_,.kK t,.kK d u=>.kK d (iF.rel a t u)|_,_,_,.kK _,.cons k _=>by cases k
def cU.ext{fl:Nat}{g g':Gh}{w w':World}(h:Ext fl g w g' w')(hi:∀b,g.bx b->b<w.heap.size){fr:Fr}{a:Act}(hf:cU g fr a w):cU g' fr a w':=
 ⟨hf.size,hf.df.imp (λ_ _ c=>c.ext h hi) h.bT,λk t d=>let ⟨v,e,c⟩:=hf.tm k t d;⟨v,e,c.ext h hi⟩⟩
end
section
def ec:TypeDesc->Bool
 |.struct _|.array _ _=>W|_=>J
def ahA(d:D)(v:Value):Prop:=(d=.sl []/\v=.slice Y 0 0)\/d=.lit v
def ZOk(zero:L D)(cells:Array Value):Prop:=
 zero.length=cells.size/\∀(j:Nat)(d:D)(v:Value),zero[j]?=Z d->cells[j]?=Z v->ahA d v
def am2(P:Program):Kd->TypeDesc->Prop
 |.leaf (.int k),d=>d=.int k|.leaf .bool,d=>d=.bool|.leaf .str,d=>d=.string|.leaf .no,_=>True|.ptr,d=>∃e,d=.pointer e|.slice sz ag b zero,d=>∃e j a z,d=.slice e/\P.info? e=Z j/\j.size=sz/\P.underlying e=Z a/\ag=ec a/\j.zero=Z z/\ZOk zero z.cells/\j.bytes<=4096/\0<sz/\j.bytes<=b/\b<=2*j.bytes/\0<j.bytes/\zero.length=sz|.struct c,d=>∃fields,d=.struct fields/\fields.size=c.length/\∀(k:Nat)off size ag,c[k]?=Z (off,size,ag)->
   ∃f j a,fields[k]?=Z f/\f.offset=off/\P.info? f.type=Z j/\j.size=size/\P.underlying f.type=Z a/\ag=ec a
 |.array len sz ag,d=>∃e j a,d=.array len e/\P.info? e=Z j/\j.size=sz/\P.underlying e=Z a/\ag=ec a|.iface,d=>∃g,d=.interface g|.other,_=>True
def By:Lk->Value->Prop
 |.int k,v=>∃n,v=.int k n|.bool,v=>∃b,v=.bool b|.str,v=>∃b,v=.string b|.no,_=>False
def Hi:Value->Value->Bool
 |.int _ a,.int _ b=>a==b|.bool a,.bool b=>a==b|.string a,.string b=>a==b|_,_=>J
def nR:L Value->L Value->Bool
 |a::l,b::m=>Hi a b&&nR l m|_,_=>W
def ahY(P:Program)(t:TypeId)(a:L Lk):Prop:=
 ∀(w:World)(op:BinOp)(x y:Operand)(b ys:Array Value),b.size=a.length->ys.size=a.length->
  (∀(j:Nat)(l:Lk)(v:Value),a[j]?=Z l->b[j]?=Z v->By l v)->(∀(j:Nat)(l:Lk)(v:Value),a[j]?=Z l->ys[j]?=Z v->By l v)->
  (eqGuard op t x y (.agg b) (.agg ys)).run P w=.ok () w/\(Op.equal t (.agg b) (.agg ys)).run P w=.ok (nR b.toList ys.toList) w
structure nu(P:Program)(t:TypeId)(i:TI):Prop where
 eqs:i.agg=W->i.lks≠[]->ahY P t i.lks
 nif:∀ms,P.underlying t=Z (.interface ms)->i.kd=.iface
 zag:∀x z,P.info? t=Z x->x.zero=Z z->(i.agg=W->∃vs,z=.agg vs)/\(i.agg=J->z.cells=#[z])
 all:∃x d z,P.info? t=Z x/\P.underlying t=Z d/\x.size=i.size/\i.agg=ec d/\x.zero=Z z/\ZOk i.zero z.cells/\am2 P i.kd d
section
variable {P:Program}
def aL{t:TypeId}{d:TypeDesc}(h:P.underlying t=Z d)(w:World):(underlying t).run P w=.ok d w:=by simp[underlying,h]
def sv{t:TypeId}{x:TypeInfo}(h:P.info? t=Z x)(w:World):(typeInfo t).run P w=.ok x w:=by simp[typeInfo,h]
def dx{t:TypeId}{x:TypeInfo}(h:P.info? t=Z x)(w:World):(Go.sizeOf t).run P w=.ok x.size w:=by simp[Go.sizeOf,sv h]
def ux{t:TypeId}{d:TypeDesc}(h:P.underlying t=Z d)(w:World):(isAgg t).run P w=.ok (ec d) w:=by simp[isAgg,run_bind,aL h,andThen_ok];cases d<;>rfl
def er{t:TypeId}{x:TypeInfo}{z:Value}(h:P.info? t=Z x)(a:x.zero=Z z)(w:World):(zeroValue t).run P w=.ok z w:=by simp[zeroValue,sv h,a]
theorem beq_iff'{a b:Nat}:Nq a b=W↔a=b:=by
 simp_all
def Ar{t:TypeId}{x:TypeInfo}{d:TypeDesc}(hi:P.info? t=Z x)(f:P.underlying t=Z d)(w:World)(a:Addr)(vals:L Value)(hl:vals.length=x.size)
  (c:∀j v,vals[j]?=Z v->w.cell? (a.add j)=Z v) (h1:ec d=J->∃v,vals=[v]) :
  (loadVar t a).run P w=.ok (if ec d then .agg vals.toArray else vals.headD undef) w:=by
 have b:=run_loadCells_list (P:=P) w a vals c;simp only[loadVar,run_bind,ux f,andThen_ok];cases g:ec d with|true=>simp[dx hi,<-hl,b]|false=>obtain⟨v,rfl⟩:=h1 g;have e:=c 0 v rfl;simp[Addr.add]at e;simp[e]
end
variable {j:Nat}{ag:Bool}{cs:List T}{t:T}{g:Gh}{w:World}
def cD{α:Type}{l:L α}{x:α}(h:l[j]?=Z x):j<l.length:=by
 grind
def zi{n k:Nat}(h:(List.range n)[j]?=Z k):j=k/\j<n:=by
 grind
theorem ug(a:Addr)(i j:Nat):(a.add i).add j=a.add (i+j):=by unfold Addr.add;by_cases b:i=0<;>by_cases c:j=0<;>simp[b,c,Nat.add_assoc]
def Gc(h:wo ag cs=Z t):(ag=W/\t=.agg cs)\/(ag=J/\cs=[t]):=by
 unfold wo at h
 grind
def xL(h:wo ag cs=Z t){vals:L Value}(hl:cs.length=vals.length)
  (a:∀(j:Nat)(t:T)(v:Value),cs[j]?=Z t->vals[j]?=Z v->aI g w t v) :
  aI g w t (if ag then .agg vals.toArray else vals.headD undef)/\(ag=J->∃v,vals=[v]):=by
 obtain⟨rfl,rfl⟩|⟨rfl,rfl⟩:=Gc h
 exact⟨.agg _ _ (by simpa using hl) (λj t v h1 h2=>a j t v h1 (by simpa using h2)),λh=>by cases h⟩
 match vals,hl with
 |[v],_=>exact⟨a 0 _ _ rfl rfl,λ_=>⟨v,rfl⟩⟩
def su{α:Type}(l:L α)(off n j:Nat)(x:α)(h:((l.drop off).take n)[j]?=Z x):l[off+j]?=Z x/\j<n:=by
 grind
theorem D.O6(d:D)(j:Nat)(h:j<d.cells.length):d.cells[j]?=Z (d.cell j):=by
 grind[D.cell]
def Ds{P:Program}{ty:TypeId}{i:TI}(hi:nu P ty i){d:D}{off:Nat}(h:nw i d off=Z t)(o:d.has (Na off i.size))
  {ad:Addr} {val:Nat->Value} (u:∀j c,d.cells[j]?=Z c->w.cell? (ad.add j)=Z (val j)) (y:∀j c,d.cells[j]?=Z c->dJ g.bx w c (val j)) :
  ∃v,(loadVar ty (ad.add off)).run P w=.ok v w/\aI g w t v:=by
 let ⟨x,ds,z,p,q,l,b,_⟩:=hi.all
 have A:off+i.size<=d.cells.length:=o;have a:∀j,j<i.size->w.cell? ((ad.add off).add j)=Z (val (off+j))/\dJ g.bx w (d.cell (off+j)) (val (off+j)):=by
  grind[ug,D.O6]
 have e:=Ar (P:=P) p q w (ad.add off) ((List.range i.size).map λj=>val (off+j)) (by simp[l]) (λj v B=>by
  grind)
 unfold nw at h;cases n:i.agg with
 |true=>
  rw[n]at h b;simp at h;subst h;refine⟨_,e (λC=>by simp_all),?_⟩;rw[<-b];refine .agg _ _ (by simp) (λj t v h1 h2=>?_);simp at h1;obtain⟨k,r,rfl⟩:=h1;obtain⟨rfl,m⟩:=zi r;have s:v=val (off+j):=by
   simp_all
  subst s;exact .sym _ _ (a j m).2
 |false=>
  rw[n]at h b;by_cases h1:Nq i.size 1=W;simp[h1]at h;subst h;have f:=beq_iff'.1 h1;refine⟨_,e (λ_=>⟨val off,by simp[f]⟩),?_⟩;rw[<-b];have:=(a 0 (by omega)).2;simp[f];exact .sym _ _ (by omega)
  simp_all
end
section
def af{α:Type}{b:Bool}{x y:O α}{z:α}(h:(bif b then x else y)=Z z):(b=W/\x=Z z)\/(b=J/\y=Z z):=by
 grind
theorem wD{I:Nat->Prop}{w:World}{d:D}{v:Value}(hl:d.leaf=W)(h:dJ I w d v):v.oneCell'=W/\v.cells=#[v]:=by
 cases h with
 |lit v=>cases v<;>first|exact⟨rfl,rfl⟩|cases hl
 |sl=>exact⟨rfl,rfl⟩|agg=>cases hl
 |gR=>cases hl
 |_=>exact⟨rfl,rfl⟩
variable {g:Gh}{w:World}{t:T}{v:Value}{i:TI}{s:St}{o e sz k:Nat}{es:List D}
def UQ(hl:t.leaf)(h:aI g w t v):v.oneCell'=W/\v.cells=#[v]:=by cases h with|sym d v a=>exact wD hl a|agg=>exact hl.elim|gR=>exact hl.elim|gd=>exact hl.elim|_=>exact⟨rfl,rfl⟩
def zy{n:Nat}{d:D}(h:d.isAgg n=W):∃cs,d=.agg cs/\cs.length=n/\∀c∈cs,c.leaf=W:=by unfold D.isAgg at h;split at h;rename_i cs;simp only[eW]at h;refine⟨cs,rfl,?_,?_⟩;rw[<-bV];exact beq_iff'.1 h.1;simpa using h.2;cases h
def m8{p:Prop}{cs:L T}(h:kJ i t=Z (p,cs))(q:p)(r:aI g w t v) :
  cs.length=i.size/\v.cells.size=i.size/\(∀(j:Nat)(t:T)(u:Value),cs[j]?=Z t->v.cells[j]?=Z u->aI g w t u)/\
  (i.agg=W->∃vs,v=.agg vs)/\(i.agg=J->v.cells=#[v]/\i.size=1):=by
 cases r with
 |agg y vs f l=>
  obtain⟨b,h⟩|⟨_,h⟩:=af h
  simp only[eW]at b;have c:=beq_iff'.1 b.2;rw[bV]at c;obtain⟨_,rfl⟩:=h;refine⟨c,by simp[Value.cells,<-f,c],λj t u h1 h2=>l j t u h1 h2,λ_=>⟨vs,rfl⟩,λe=>by simp_all⟩;cases h
 |sym d v m=>
  obtain⟨b,h⟩|⟨b,h⟩:=af h
  .obtain ⟨rfl,rfl⟩:=h;obtain⟨ds,rfl,c,s⟩:=zy q;cases m with|agg _ vs f _ l=>refine⟨by simp,by simp[Value.cells,<-f,c],λj t u h1 h2=>?_,λ_=>⟨vs,rfl⟩,λe=>by simp_all⟩;simp at h1;obtain⟨k,x,rfl⟩:=h1;obtain⟨rfl,n⟩:=zi x;exact .sym _ _ (l j _ u (D.O6 (.agg ds) j (by simpa[D.cells,c]using n)) h2)
  obtain⟨h1,h⟩|⟨_,h⟩:=af h
  .obtain ⟨rfl,rfl⟩:=h;have a:=beq_iff'.1 h1
   let ⟨_,o⟩:=wD q m
   refine⟨by simp[a],by simp[o,a],λj t u h2 h3=>?_,λe=>(by simp_all),λ_=>⟨o,a⟩⟩;rw[o]at h3;cases j with|zero=>simp at h2 h3;subst h2;subst h3;exact .sym _ _ m|succ j=>simp at h2
  cases h
 |gR=>cases h
 |gd=>cases h
 |kb|kn|ptr|mc|l9|sh|emp|kM|fn|dj|mp|rP|uo|ub|sC|qd=>
  all_goals
   simp only[kJ]at h;obtain⟨_,h⟩|⟨b,h⟩:=af h
   cases h;obtain⟨h1,h⟩|⟨_,h⟩:=af h
   .simp only[gP,fC]at h;obtain⟨_,rfl⟩:=h;have a:=beq_iff'.1 h1;refine⟨by simp[a],by simp[Value.cells,a],?_,λe=>(by rw[b]at e;cases e),λ_=>⟨rfl,a⟩⟩;intro j t u h2 h3;cases j with|zero=>simp[Value.cells]at h2 h3;subst h2;subst h3;constructor<;>assumption|succ j=>simp at h2
   cases h
def Kp(h:I4 s o e=Z (sz,es)):∃fz,s.ob.get o=Z (ga fz sz es e):=by
 unfold I4 at h;split at h;rename_i c d era a;obtain⟨b,h⟩|⟨_,h⟩:=af h
 have:=beq_iff'.1 b;subst this;simp at h;obtain⟨rfl,rfl⟩:=h;exact⟨J,a⟩;cases h;rename_i a;obtain⟨b,h⟩|⟨_,h⟩:=af h
 have:=beq_iff'.1 b;subst this;simp at h;obtain⟨rfl,rfl⟩:=h;exact⟨W,a⟩;cases h;cases h
theorem lf{fz a:Bool}{sz b e c:Nat}{es es':L D}(h:ga fz sz es e=ga a b es' c):fz=a/\sz=b/\es=es'/\e=c:=by cases fz<;>cases a<;>simp[ga]at h<;>exact⟨rfl,h⟩
def aY.nV(hs:aY g s w){fz:Bool}{x:fe}(b:s.ob.get o=Z (ga fz sz es e))(c:g.arr o e=Z x) :
  xD g w fz sz es x/\x.sz=sz:=by
 let ⟨d,f,era,a,_,_,h⟩:=(hs.arr o e x c).old _ b (Wv _ _ _ _)
 obtain⟨rfl,h2,rfl,rfl⟩:=lf a
 simp_all
theorem cell?_of_block{w:World}{b off:Nat}{vs:Array Value}{ty:TypeId}{fz:Nat×Nat}(h:w.heap[b]?=Z (.cells vs ty fz)):w.cell? ⟨b,off,Y⟩=vs[off]?:=by simp[World.cell?,h]
def nX(b off n:Nat):(⟨b,off,Y⟩:Addr).add n=⟨b,off+n,Y⟩:=by unfold Addr.add;split<;>simp_all
def TU(h:lX (k:Int) (eN es)):k<es.length:=by have:=h.2;unfold eN at this;omega
def D.LU(h:k<es.length):es[k]?=Z (jt es k):=by
 grind[jt]
def DD{P:Program}{ty:TypeId}(hi:nu P ty i){s':St}(hs:aY g s w){x:T}{vx:Value}(R:aI g w x vx)
  {p:Prop} {t:T} (h:loadT i s x=Z (p,t,s')) (S:p):∃v,(Instr.loadAt ty vx).run P w=.ok v w/\aI g w t v/\s'=s:=by
 cases R with
 |ptr o off b hb=>
  cases C:s.ob.get o with
  |none=>simp[loadT,C]at h|some ob=>
  simp[loadT,C]at h;cases ob with
  |box cs=>
  let ⟨E,ety,hh,hl,hr⟩:=(hs.box o b hb).box C
  obtain⟨hn,h⟩|⟨_,h⟩:=af h
  have r:=beq_iff'.1 hn;rw[bV]at r;simp only[fT,fC]at h;obtain⟨t',a,_,rfl,rfl⟩:=h
  let ⟨xi,d,z,Ol,hu,u,F,_⟩:=hi.all
  have m:((E.toList.drop off).take i.size).length=i.size:=by
   have:((cs.drop off).take i.size).length=((E.toList.drop off).take i.size).length:=by simp[hl]
   rw[<-this,r]
  let ⟨I,h1⟩:=xL (g:=g) (w:=w) a (vals:=(E.toList.drop off).take i.size) (by rw[r,m]) (λj t v h1 h2=>by
   let ⟨h1,_⟩:=su _ _ _ _ _ h1
   let ⟨h2,_⟩:=su _ _ _ _ _ h2
   exact hr _ _ _ h1 (by simpa using h2))
  refine⟨_,?_,I,rfl⟩;have:=Ar (P:=P) Ol hu w ⟨b,off,Y⟩ ((E.toList.drop off).take i.size) (by rw[m,u]) (λj v A=>by
   let ⟨A,_⟩:=su _ _ _ _ _ A
   rw[nX,cell?_of_block hh];simpa using A) (λhf=>h1 (by rw[F,hf]))
  rw[F];simpa[Instr.loadAt,Instr.sureAddr]using this;cases h
  |_=>simp at h
 |mc d off ad val VW f hd=>
  simp only[loadT,fT,fC]at h;obtain⟨t',a,rfl,rfl,rfl⟩:=h
  let ⟨v,B,ht⟩:=Ds hi a S f hd
  exact⟨v,by simpa[Instr.loadAt,Instr.sureAddr]using B,ht,rfl⟩
 |l9 o e k off len cap sz ad R=>
  simp only[loadT]at h;cases ha:I4 s o e with
  |none=>simp[ha]at h|some q=>
   let ⟨sz',es⟩:=q
   let ⟨fz,C⟩:=Kp ha
   let ⟨y,u⟩:=hs.nV C R
   simp only[ha,fT,fC]at h;obtain⟨t',a,rfl,rfl,rfl⟩:=h;subst u;have hk:=TU S.1;have K:(⟨Z ad,len,cap,sz⟩:fe).cap≠0:=by have h1:=y.len;have h2:=y.cap;omega
   let ⟨b,E,ety,Q,_,hh,_,l⟩:=y.mem K
   simp at Q;subst Q;have hex:∀j,∃v,∀c,(jt es k).cells[j]?=Z c->w.cell? ((⟨b,k*sz,Y⟩:Addr).add j)=Z v/\dJ g.bx w c v:=by
    intro j;by_cases A:j<(jt es k).cells.length
    let ⟨v,B,hd⟩:=l k _ j _ (D.LU hk) (iX A)
    refine⟨v,λc f=>?_⟩;rw[iX A]at f;rw[<-j8 f,nX,cell?_of_block hh];exact⟨B,hd⟩;exact⟨undef,λc f=>by rw[List.getElem?_eq_none (by omega)]at f;cases f⟩
   let ⟨val,n⟩:=Vf hex
   let ⟨v,B,ht⟩:=Ds hi a S.2 (ad:=⟨b,k*sz,Y⟩) (val:=val) (λj c f=>(n j c f).1) (λj c f=>(n j c f).2)
   refine⟨v,?_,ht,rfl⟩;rw[nX]at B;rw[nX];simpa[Instr.loadAt,Instr.sureAddr]using B
 |_=>simp[loadT]at h
end
section
def setRow_other(w:World)(g b:Nat)(cs:Array Value)(h:b≠g):(w.setRow g cs).heap[b]?=w.heap[b]?:=by unfold World.setRow;rw[Array.getElem?_modify,bQ (λe=>h e.symm)]
variable {g g':Gh}{s s':St}{w w':World}{o b e fl sz:Nat}{x:fe}{fz:Bool}{es:List D}{ob:Ob}
def aY.lt(hs:aY g s w)(h:g.bT o=Z b):o<s.aE:=by
 obtain a|a:=Nat.lt_or_ge o s.aE
 exact a;rw[(hs.ah o a).1]at h;cases h
def aY.lt'(hs:aY g s w)(h:g.arr o e=Z x):o<s.aE:=by
 obtain a|a:=Nat.lt_or_ge o s.aE
 exact a;rw[(hs.ah o a).2 e]at h;cases h
def aY.rW(hs:aY g s w)(h:bJ g o b):b<w.heap.size/\o<s.aE:=by
 obtain h1|⟨e,x,c,h1,d,a,f⟩:=h.2
 exact⟨(hs.box o b h1).2.1,hs.lt h1⟩;exact⟨a▸(hs.arr o e x h1).1 c d f,hs.lt' h1⟩
def xy.ext{g g':Gh}{s s':St}{w w':World}{fl o b:Nat}(e:Ext fl g w g' w')(hi:∀b,g.bx b->b<w.heap.size)(f:w'.heap[b]?=w.heap[b]?)
  (i:s'.ob.get o=s.ob.get o) (a:¬g'.bx b) (h:xy g s w o b):xy g' s' w' o b:=by
 let ⟨_,c,j⟩:=h
 refine⟨a,iS c e.size,λob d=>?_⟩
 let ⟨x,h1,h2⟩:=j ob (i▸d)
 exact⟨x,f.trans h1,h2.ext e hi⟩
def xD.ext{g g':Gh}{w w':World}{fl:Nat}{fz:Bool}{sz:Nat}{es:L D}{x:fe}(e:Ext fl g w g' w')(hi:∀b,g.bx b->b<w.heap.size)
  (f:∀b,x.a=Z ⟨b,0,Y⟩->x.cap≠0->w'.heap[b]?=w.heap[b]?/\(g'.bx b↔g.bx b)) (h:xD g w fz sz es x):xD g' w' fz sz es x:=
 ⟨h.len,h.cap,h.rows,h.pos,h.W0,λa=>by
  let ⟨b,k,ty,h1,h2,h3,h4,h5⟩:=h.mem a
  let ⟨l,m⟩:=f b h1 a
  exact⟨b,k,ty,h1,h2.trans m.symm,l.trans h3,h4,λi d j c n o=>let ⟨v,p,q⟩:=h5 i d j c n o;⟨v,p,q.ext e hi⟩⟩⟩
def xD.kE(h:xD g w fz sz es x)(hi:g'.bx=g.bx):xD g' w fz sz es x:=
 ⟨h.len,h.cap,h.rows,h.pos,h.W0,by rw[hi];exact h.mem⟩
def Jb.le{m hU:Nat}{hole:O Nat}{hs:L Value}(h:Jb g m hU hole hs)(a:∀j y,g.arr m j=Z y->g'.arr m j=Z y):Jb g' m hU hole hs:=
 ⟨h.1,λi v b c=>let ⟨y,h1,h2⟩:=h.2 i v b c;⟨y,a _ _ h1,h2⟩⟩
def vP.tr(h:vP g w o e x ob)(f:∀{fz sz es},xD g w fz sz es x->xD g' w' fz sz es x)(p:∀k j y,g.arr k j=Z y->g'.arr k j=Z y)(A:g'.arr o=g.arr o)(q:∀b,x.a=Z ⟨b,0,Y⟩->x.cap≠0->w'.heap[b]?=w.heap[b]?/\(g'.bx b↔g.bx b)):vP g' w' o e x ob:=by
 obtain⟨fz,es,era,h1,h2,h3,h5⟩|⟨s,es,era,m,a,hole,h1,h2,h3,h5⟩|⟨sz,l,a,h1,h2,h3,h5⟩|h|⟨h1,h2,h3,h4,h5⟩:=h
 exact .inl ⟨fz,es,era,h1,h2,λt h=>by simp_all,λh=>f (h5 h)⟩;exact .inr (.inl ⟨s,es,era,m,a,hole,h1,h2,λt h=>by simp_all,λh=>let ⟨u,c,d,n⟩:=h5 h;⟨u,c,f d,n.le (p m)⟩⟩);exact .inr (.inr (.inl ⟨sz,l,a,h1,λr i h=>by simp_all,by grind,λi h=>let ⟨c,v,d,n⟩:=h5 i h;⟨c,v,d,f n⟩⟩));exact .inr (.inr (.inr (.inl h)))
 let ⟨c,d⟩:=q e h2 h3
 exact .inr (.inr (.inr (.inr ⟨h1,h2,h3,λz=>h4 (d.1 z),c.trans h5⟩)))
def vP.left{p:T->Bool}{c:Ob}(h:vP g w o e x ob)(hl:so p ob c)(l:∀{fz sz es},xD g w fz sz es x->xD g' w' fz sz es x)
  (q:∀m j y,p (.sh m 0)=J->g.arr m j=Z y->g'.arr m j=Z y) (C:g'.arr o=g.arr o) (s:∀b,x.a=Z ⟨b,0,Y⟩->x.cap≠0->w'.heap[b]?=w.heap[b]?/\(g'.bx b↔g.bx b)):vP g' w' o e x c:=by
 obtain⟨fz,es,era,rfl,h2,h3,h5⟩|⟨t,es,era,m,a,hole,rfl,h2,h3,h5⟩|⟨sz,d,a,rfl,h2,h3,h5⟩|rfl|⟨rfl,h2,h3,h4,h5⟩:=h
 have:c=ga fz x.sz es era:=by cases fz<;>exact hl.symm
 exact .inl ⟨fz,es,era,this,h2,λu h=>by simp_all,λh=>l (h5 h)⟩;obtain⟨rfl,v⟩|rfl:=hl
 exact .inr (.inl ⟨t,es,era,m,a,hole,rfl,h2,λu h=>by simp_all,λh=>let ⟨z,f,k,n⟩:=h5 h;⟨z,f,l k,n.le (λj y=>q m j y v)⟩⟩);exact .inr (.inr (.inr (.inl rfl)));have:c=.rws sz d a:=hl.symm;exact .inr (.inr (.inl ⟨sz,d,a,this,λr i h=>by simp_all,by grind,λi h=>let ⟨f,A,k,n⟩:=h5 i h;⟨f,A,k,l n⟩⟩));have:c=.gone:=hl.symm;exact .inr (.inr (.inr (.inl this)));have:c=.Gl:=hl.symm
 let ⟨f,k⟩:=s e h2 h3
 exact .inr (.inr (.inr (.inr ⟨this,h2,h3,λB=>h4 (k.1 B),f.trans h5⟩)))
def BF.ext{g g':Gh}{s s':St}{w w':World}{fl o e:Nat}{x:fe}(a:Ext fl g w g' w')(hi:∀b,g.bx b->b<w.heap.size)
  (d:∀b,x.a=Z ⟨b,0,Y⟩->x.cap≠0->w'.heap[b]?=w.heap[b]?/\(g'.bx b↔g.bx b))
  (f:s'.ob.get o=s.ob.get o) (i:g'.arr o=g.arr o) (h:BF g s w o e x):BF g' s' w' o e x:=by
 refine⟨λl m n=>iS (h.1 l m n) a.size,λob c=>?_⟩;exact(h.2 ob (f▸c)).tr (λh=>h.ext a hi d) (λk j y h=>a.arr k j y h) i d
def aY.afH(hs:aY g s w)(n:g.bT o=Z b){r:L T}(k:s.ob.get o=Z (.box r))(u:s.fl<=o){cs':L T}{vs':Array Value}(hl:cs'.length=vs'.size)
  (A:∀(j:Nat)(t:T)(v:Value),cs'[j]?=Z t->vs'[j]?=Z v->aI g w t v) :
  aY g {s with ob:=s.ob.set aM o (.box cs')} (w.setRow b vs')/\Ext s.fl g w g (w.setRow b vs'):=by
 have c:bJ g o b:=⟨(hs.box o b n).1,.inl n⟩;have m:o<bM:=iS (hs.lt n) hs.aE;have q:Ext s.fl g w g (w.setRow b vs'):=
  ⟨λ_ _ h=>h,λ_ _ _ h=>h,λ_ h=>h,by simp,λd _ B=>setRow_other w b d vs' (λe=>B o u (e▸c)),
   λ_ _ h=>.inl h,λ_ h=>.inl h,rfl,rfl⟩
 refine⟨⟨hs.aE,hs.ah,λi d a=>?_,λi e x y=>?_,λd a=>by simpa using hs.bx d a,hs.j6⟩,q⟩;by_cases f:i=o;subst f;rw[n]at a;simp at a;subst a
 let ⟨h1,h2,h3⟩:=hs.box i b n
 let ⟨C,ty,h4,h5,h6⟩:=(hs.box i b n).box k
 refine⟨h1,by simpa using h2,λE l=>⟨_,setRow_heap w b C vs' ty _ h4,?_⟩⟩;rw[Tr.aV _ _ _ _ m,bD rfl]at l;obtain rfl:=j8 l;exact .box _ _ _ hl λj t v F I=>(A j t v F I).ext q hs.bx;have z:d≠b:=λe=>f (hs.j6 i o b (e▸⟨(hs.box i d a).1,.inl a⟩) c);exact(hs.box i d a).ext q hs.bx (setRow_other w b d vs' z) (by simp;rw[Tr.aV _ _ _ _ m,bQ f]) (hs.box i d a).1;have f:i≠o:=by
  rintro rfl
  cases((hs.arr i e x y).2 _ k).oC
 refine(hs.arr i e x y).ext q hs.bx (λd a K=>⟨setRow_other w b d vs' ?_,vS⟩) (by simp;rw[Tr.aV _ _ _ _ m,bQ f]) rfl
 rintro rfl
 by_cases p:g.bx d;exact c.1 p;exact f (hs.j6 i o d ⟨p,.inr ⟨e,x,_,y,a,rfl,K⟩⟩ c)
def Gh.dH(g:Gh)(o b:Nat):Gh:={g with bT:=λk=>if k=o then Z b else g.bT k}
def qy(w:World)(o:Obj)(b:Nat)(h:b<w.heap.size):(w.alloc o).heap[b]?=w.heap[b]?:=by show(w.heap.push o)[b]?=_;rw[Array.getElem?_push,bQ (by omega)]
def xY(w:World)(o:Obj):(w.alloc o).heap[w.heap.size]?=Z o:=by show(w.heap.push o)[w.heap.size]?=_;simp
def aY.newObj(hs:aY g s w)(hn:s.aE<bM){ob0:Ob}{x0:Obj}(u:gX g w ob0 x0) :
  aY (g.dH s.aE w.heap.size) (eo s ob0).2 (w.alloc x0)/\Ext s.fl g w (g.dH s.aE w.heap.size) (w.alloc x0):=by
 have c:=hs.ah s.aE (eO _);have k:∀o b,g.bT o=Z b->(g.dH s.aE w.heap.size).bT o=Z b:=λo b h=>by
  have:o≠s.aE:=λe=>by rw[e,c.1]at h;cases h
  simp[Gh.dH,this,h]
 have d:∀o b,bJ (g.dH s.aE w.heap.size) o b->bJ g o b\/(o=s.aE/\b=w.heap.size):=by
  rintro o b ⟨h1,h2|h2⟩
  by_cases f:o=s.aE;subst f;simp[Gh.dH]at h2;exact .inr ⟨rfl,h2.symm⟩;simp[Gh.dH,f]at h2;exact .inl ⟨h1,.inl h2⟩;exact .inl ⟨h1,.inr h2⟩
 have m:Ext s.fl g w (g.dH s.aE w.heap.size) (w.alloc x0):=
  ⟨k,λ_ _ _ h=>h,λ_ h=>h,by simp,λb i _=>qy w _ b i,
   λo b h=>(d o b h).imp id λh=>by omega,λ_ h=>.inl h,rfl,rfl⟩
 refine⟨⟨by simp only[eo];omega,λo f=>?_,λo b i=>?_,λo e x r=>?_,λb i=>?_,λo t b h v=>?_⟩,m⟩;simp only[eo]at f;have h1:o≠s.aE:=by omega
 simp[Gh.dH,h1,jP];exact hs.ah o (by omega);by_cases f:o=s.aE;subst f;have n:b=w.heap.size:=by simp[Gh.dH]at i;exact i.symm
 subst n;refine⟨λp=>?_,by simp,λob j=>⟨_,xY w _,?_⟩⟩;have:=hs.bx _ p;omega;simp[eo]at j;rw[Tr.aV _ _ _ _ hn,bD rfl]at j;obtain rfl:=j8 j;exact u.ext m hs.bx;have q:g.bT o=Z b:=by simpa[Gh.dH,f]using i
 have a:=hs.box o b q;exact a.ext m hs.bx (qy w _ b a.2.1) (by simp[eo];rw[Tr.aV _ _ _ _ hn,bQ f]) a.1;have a:=hs.arr o e x r;have f:o≠s.aE:=λh=>by have l:g.arr o e=Z x:=r;rw[h,c.2 e]at l;cases l
 refine a.ext m hs.bx (λb i y=>⟨qy w _ b ?_,vS⟩) (by simp[eo];rw[Tr.aV _ _ _ _ hn,bQ f]) rfl;exact a.1 _ i y;have:=hs.bx b i;simp;omega;obtain h1|⟨h1,h3⟩:=d o b h<;>obtain h2|⟨h2,h4⟩:=d t b v
 exact hs.j6 o t b h1 h2;have:=(hs.rW h1).1;omega;have:=(hs.rW h2).1;omega;rw[h1,h2]
def aY.dH{g:Gh}{s:St}{w:World}(hs:aY g s w)(hn:s.aE<bM){cs:L T}{vs:Array Value}(ty:TypeId)(hl:cs.length=vs.size)
  (a:∀(j:Nat)(t:T)(v:Value),cs[j]?=Z t->vs[j]?=Z v->aI g w t v) :
  aY (g.dH s.aE w.heap.size) (eo s (.box cs)).2 (w.alloc (.cells vs ty))/\Ext s.fl g w (g.dH s.aE w.heap.size) (w.alloc (.cells vs ty)):=
 hs.newObj hn (.box cs vs ty hl a)
end
section
def Gh.era(g:Gh)(o e:Nat)(x:fe):Gh:={g with arr:=λk j=>if k=o/\j=e then Z x else g.arr k j}
def Gh.fJ(g:Gh)(o e:Nat)(x:fe):(g.era o e x).arr o e=Z x:=by simp[Gh.era]
theorem Gh.cT(g:Gh)(o e k j:Nat)(x:fe)(h:¬(k=o/\j=e)):(g.era o e x).arr k j=g.arr k j:=by simp[Gh.era,h]
variable {g:Gh}{s:St}{w w':World}{o e sz:Nat}{es es':List D}{x:fe}
def aY.alW(hs:aY g s w){x':fe}(R:s.ob.get o=Z (.arr sz es e))(C:g.arr o e=Z x)
  (hfl:s.fl<=o) (hos:w'.os=w.os) (E:w'.output=w.output) (c:w.heap.size<=w'.heap.size)
  (d:∀b,b<w.heap.size->¬x.at b->w'.heap[b]?=w.heap[b]?)
  (hx':∀b,x'.at b->b<w'.heap.size/\(w.heap.size<=b\/x.at b))
  (hok:xD (g.era o (e+1) x') w' J sz es' x') (hxs:x'.sz=sz) :
  aY (g.era o (e+1) x') {s with ob:=s.ob.set aM o (.arr sz es' (e+1))} w'/\Ext s.fl g w (g.era o (e+1) x') w':=by
 have t:o<bM:=iS (hs.lt' C) hs.aE
 let ⟨F,acT⟩:=hs.nV (fz:=J) R C
 have hnext:∀S,e<S->g.arr o S=Y:=by
  let ⟨fz,v,era,h1,_,h3,_⟩:=(hs.arr o e x C).old _ R rfl
  have z:ga J sz es e=ga fz x.sz v era:=h1;obtain⟨_,_,_,rfl⟩:=lf z;exact h3
 have A:∀b,x.at b->¬g.bx b:=by
  rintro b ⟨r,h1,rfl,h3⟩ I
  let ⟨b',_,_,k1,k2,_⟩:=F.mem h3
  grind
 have f:∀b,x.at b->bJ g o b:=λb m=>by
  let ⟨r,h1,h2,h3⟩:=m
  exact⟨A b ⟨r,h1,h2,h3⟩,.inr ⟨e,x,r,C,h1,h2,h3⟩⟩
 have K:∀k j y,g.arr k j=Z y->(g.era o (e+1) x').arr k j=Z y:=λk j y h=>by
  rw[Gh.cT];exact h
  grind
 have hown:∀k b,bJ (g.era o (e+1) x') k b->bJ g k b\/(k=o/\x'.at b):=by
  rintro k b ⟨h1,h2|⟨j,y,r,h2,h3,h4,h5⟩⟩
  exact .inl ⟨h1,.inl h2⟩;by_cases P:k=o/\j=e+1;obtain⟨rfl,rfl⟩:=P;rw[Gh.fJ]at h2;simp at h2;subst h2;exact .inr ⟨rfl,r,h3,h4,h5⟩;rw[Gh.cT _ _ _ _ _ _ P]at h2;exact .inl ⟨h1,.inr ⟨j,y,r,h2,h3,h4,h5⟩⟩
 have i:∀k b,bJ (g.era o (e+1) x') k b->bJ g k b\/(k=o/\w.heap.size<=b):=λk b h=>by
  grind
 have he:Ext s.fl g w (g.era o (e+1) x') w':=
  ⟨λ_ _ h=>h,K,λ_ h=>h,c,λb m hn=>d b m λn=>hn o hfl (f b n),λk b h=>(i k b h).imp id (·.2),λ_ h=>.inl h,hos,E⟩
 refine⟨⟨hs.aE,λk hk=>⟨(hs.ah k hk).1,λj=>?_⟩,λk b m=>?_,λk j y Q=>?_,λb m=>iS (hs.bx b m) c,λk k' b h h'=>?_⟩,he⟩;rw[Gh.cT];exact(hs.ah k hk).2 j
 rintro⟨rfl,_⟩
 have:=hs.lt' C
 grind
 have a:k≠o:=by
  rintro rfl
  exact(hs.box k b m).Cb J R
 have l:=hs.box k b m;refine l.ext he hs.bx (d b l.2.1 λn=>a (hs.j6 k o b ⟨l.1,.inl m⟩ (f b n))) (by simp;rw[Tr.aV _ _ _ _ t,bQ a]) l.1;by_cases a:k=o;subst a;by_cases hj:j=e+1;subst hj;rw[Gh.fJ]at Q;simp at Q;subst Q;refine⟨λr ha B=>(hx' _ ⟨r,ha,rfl,B⟩).1,λob p=>.inl ⟨J,es',e+1,?_,eO _,λS h=>?_,λ_=>hxs▸hok⟩⟩;rw[Tr.aV _ _ _ _ t,bD rfl]at p
 grind[ga]
 grind[Gh.cT]
 have q:g.arr k j=Z y:=by rwa [Gh.cT _ _ _ _ _ _ (by omega)]at Q
 have h4:=(hs.arr k j y q).1
 let ⟨fz,v,era,h1,h2,h3,_⟩:=(hs.arr k j y q).old _ R rfl
 have z:ga J sz es e=ga fz y.sz v era:=h1;obtain⟨_,hysz,_,rfl⟩:=lf z;refine⟨λr ha B=>iS (h4 r ha B) c,λob p=>.inl ⟨J,es',e+1,?_,by omega,λS h=>?_,λh=>by omega⟩⟩;rw[Tr.aV _ _ _ _ t,bD rfl]at p
 grind[ga]
 grind[Gh.cT]
 have q:g.arr k j=Z y:=by rwa [Gh.cT _ _ _ _ _ _ (λh=>a h.1)]at Q
 have u:=hs.arr k j y q;refine u.ext he hs.bx (λb m B=>⟨?_,vS⟩) (by simp;rw[Tr.aV _ _ _ _ t,bQ a]) (funext λj=>Gh.cT _ _ _ _ _ _ (λh=>a h.1));refine d b (u.1 _ m B) λn=>?_;by_cases I:g.bx b
 simp_all
 exact a (hs.j6 k o b ⟨I,.inr ⟨j,y,_,q,m,rfl,B⟩⟩ (f b n));obtain h1|⟨h1,h3⟩:=i k b h<;>obtain h2|⟨h2,h4⟩:=i k' b h'
 exact hs.j6 k k' b h1 h2;have:=(hs.rW h1).1;omega;have:=(hs.rW h2).1;omega;rw[h1,h2]
def aY.Q5(hs:aY g s w)(hn:s.aE<bM)
  (t:w'.os=w.os) (o:w'.output=w.output) (c:w.heap.size<=w'.heap.size)
  (a:∀b,b<w.heap.size->w'.heap[b]?=w.heap[b]?) (E:∀b,x.at b->w.heap.size<=b/\b<w'.heap.size)
  (u:xD (g.era s.aE 0 x) w' J sz es x) (v:x.sz=sz) :
  aY (g.era s.aE 0 x) (eo s (.arr sz es 0)).2 w'/\Ext s.fl g w (g.era s.aE 0 x) w':=by
 have z:=hs.ah s.aE (eO _);have p:∀k j y,g.arr k j=Z y->(g.era s.aE 0 x).arr k j=Z y:=λk j y h=>by
  rw[Gh.cT];exact h
  grind
 have d:∀k b,bJ (g.era s.aE 0 x) k b->bJ g k b\/(k=s.aE/\w.heap.size<=b):=by
  rintro k b ⟨h1,h2|⟨j,y,r,h2,h3,h4,h5⟩⟩
  exact .inl ⟨h1,.inl h2⟩;by_cases e:k=s.aE/\j=0;obtain⟨rfl,rfl⟩:=e;rw[Gh.fJ]at h2;simp at h2;subst h2;exact .inr ⟨rfl,(E b ⟨r,h3,h4,h5⟩).1⟩;rw[Gh.cT _ _ _ _ _ _ e]at h2;exact .inl ⟨h1,.inr ⟨j,y,r,h2,h3,h4,h5⟩⟩
 have A:Ext s.fl g w (g.era s.aE 0 x) w':=
  ⟨λ_ _ h=>h,p,λ_ h=>h,c,λb n _=>a b n,λk b h=>(d k b h).imp id (·.2),λ_ h=>.inl h,t,o⟩
 refine⟨⟨by simp only[eo];omega,λk I=>?_,λk b n=>?_,λk j y q=>?_,λb n=>iS (hs.bx b n) c,λk F b h K=>?_⟩,A⟩;simp only[eo]at I;refine⟨(hs.ah k (by omega)).1,λj=>?_⟩;rw[Gh.cT _ _ _ _ _ _ (by omega)];exact(hs.ah k (by omega)).2 j;have B:g.bT k=Z b:=n;have f:=hs.box k b B;have i:k≠s.aE:=λh=>by simp_all
 exact f.ext A hs.bx (a b f.2.1) (by simp[eo];rw[Tr.aV _ _ _ _ hn,bQ i]) f.1;by_cases e:k=s.aE/\j=0;obtain⟨rfl,rfl⟩:=e;rw[Gh.fJ]at q;simp at q;subst q;refine⟨λr P C=>(E _ ⟨r,P,rfl,C⟩).2,λob l=>.inl ⟨J,es,0,?_,eO _,λQ h=>?_,λ_=>v▸u⟩⟩;simp[eo]at l;rw[Tr.aV _ _ _ _ hn,bD rfl]at l
 grind[ga]
 grind[Gh.cT]
 rw[Gh.cT _ _ _ _ _ _ e]at q;have i:k≠s.aE:=λh=>by simp_all
 have m:=hs.arr k j y q;refine m.ext A hs.bx (λb n C=>⟨?_,vS⟩) (by simp[eo];rw[Tr.aV _ _ _ _ hn,bQ i]) (funext λj=>Gh.cT _ _ _ _ _ _ (λh=>i h.1));exact a b (m.1 _ n C);obtain h1|⟨h1,h3⟩:=d k b h<;>obtain h2|⟨h2,h4⟩:=d F b K
 exact hs.j6 k F b h1 h2;have:=(hs.rW h1).1;omega;have:=(hs.rW h2).1;omega;rw[h1,h2]
def aY.afQ(hs:aY g s w){b:Nat}(v:s.ob.get o=Z (.arr sz es e))(z:g.arr o e=Z x)
  (A:s.fl<=o) (K:x.at b) {vs':Array Value} (R:xD g (w.setRow b vs') J sz es' x) :
  aY g {s with ob:=s.ob.set aM o (.arr sz es' e)} (w.setRow b vs')/\Ext s.fl g w g (w.setRow b vs'):=by
 have l:o<bM:=iS (hs.lt' z) hs.aE
 let ⟨n,P⟩:=hs.nV (fz:=J) v z
 have d:¬g.bx b:=by
  obtain⟨B,h1,rfl,h3⟩:=K;intro S
  let ⟨t,_,_,k1,k2,_⟩:=n.mem h3
  grind
 have f:bJ g o b:=by
  let ⟨B,h1,h2,h3⟩:=K
  exact⟨d,.inr ⟨e,x,B,z,h1,h2,h3⟩⟩
 have C:Ext s.fl g w g (w.setRow b vs'):=
  ⟨λ_ _ h=>h,λ_ _ _ h=>h,λ_ h=>h,by simp,λt _ hn=>setRow_other w b t vs' (λe=>hn o A (e▸f)),
   λ_ _ h=>.inl h,λ_ h=>.inl h,rfl,rfl⟩
 refine⟨⟨hs.aE,hs.ah,λk c m=>?_,λk j y u=>?_,λt E=>by simpa using hs.bx t E,hs.j6⟩,C⟩;have a:k≠o:=by
  rintro rfl
  exact(hs.box k c m).Cb J v
 have i:=hs.box k c m;exact i.ext C hs.bx (setRow_other w b c vs' λe=>a (hs.j6 k o c ⟨i.1,.inl m⟩ (e▸f))) (by simp;rw[Tr.aV _ _ _ _ l,bQ a]) i.1;by_cases a:k=o;subst a;have h4:=(hs.arr k j y u).1
 let ⟨fz,F,era,h1,h2,h3,_⟩:=(hs.arr k j y u).old _ v rfl
 have I:ga J sz es e=ga fz y.sz F era:=h1;obtain⟨_,Q,_,rfl⟩:=lf I;refine⟨λB ha m=>by simp_all,λob p=>.inl ⟨J,es',e,?_,h2,h3,λhje=>?_⟩⟩;rw[Tr.aV _ _ _ _ l,bD rfl]at p
 grind[ga]
 simp_all
 have q:=hs.arr k j y u;refine q.ext C hs.bx (λc m r=>⟨setRow_other w b c vs' ?_,vS⟩) (by simp;rw[Tr.aV _ _ _ _ l,bQ a]) rfl
 rintro rfl
 exact a (hs.j6 k o c ⟨d,.inr ⟨j,y,_,u,m,rfl,r⟩⟩ f)
def Gh.lM(g:Gh)(P:Nat->Prop):Gh:={g with bx:=λb=>g.bx b\/P b}
def aY.adm(hs:aY g s w)(Q:s.ob.get o=Z (.arr sz es e))(K:g.arr o e=Z x)
  (R:s.fl<=o) :
  aY (g.lM x.at) {s with ob:=s.ob.set aM o (.lM sz es e)} w/\Ext s.fl g w (g.lM x.at) w:=by
 have t:o<bM:=iS (hs.lt' K) hs.aE
 let ⟨a,acT⟩:=hs.nV (fz:=J) Q K
 have u:∀b,x.at b->¬g.bx b:=by
  rintro b ⟨S,h1,rfl,h3⟩ n
  let ⟨b',_,_,k1,k2,_⟩:=a.mem h3
  grind
 have f:∀b,x.at b->bJ g o b:=λb z=>by
  let ⟨S,h1,h2,h3⟩:=z
  exact⟨u b ⟨S,h1,h2,h3⟩,.inr ⟨e,x,S,K,h1,h2,h3⟩⟩
 have p:∀k b,bJ (g.lM x.at) k b->bJ g k b/\¬x.at b:=λk b h=>⟨⟨λhi=>h.1 (.inl hi),h.2⟩,λhi=>h.1 (.inr hi)⟩;have P:Ext s.fl g w (g.lM x.at) w:=
  ⟨λ_ _ h=>h,λ_ _ _ h=>h,λ_ h=>.inl h,eO _,λ_ _ _=>rfl,λk b h=>.inl (p k b h).1,
   λb h=>h.imp id λh=>.inr ⟨o,R,f b h⟩,rfl,rfl⟩
 refine⟨⟨hs.aE,hs.ah,λk c r=>?_,λk j y C=>?_,λb z=>?_,λk k' b h h'=>hs.j6 k k' b (p k b h).1 (p k' b h').1⟩,P⟩;have m:k≠o:=by
  rintro rfl
  exact(hs.box k c r).Cb J Q
 have q:=hs.box k c r;refine q.ext P hs.bx rfl (by simp;rw[Tr.aV _ _ _ _ t,bQ m]) ?_
 rintro(n|A)
 exact q.1 n;exact m (hs.j6 k o c ⟨q.1,.inl r⟩ (f c A));by_cases m:k=o;subst m;have h4:=(hs.arr k j y C).1
 let ⟨fz,es0,era,h1,h2,h3,_⟩:=(hs.arr k j y C).old _ Q rfl
 have h1':ga J sz es e=ga fz y.sz es0 era:=h1;obtain⟨_,l,_,rfl⟩:=lf h1';refine⟨h4,λob E=>.inl ⟨W,es,e,?_,h2,h3,λhje=>?_⟩⟩;rw[Tr.aV _ _ _ _ t,bD rfl]at E
 grind[ga]
 subst hje;have B:g.arr k j=Z y:=C;rw[K]at B;simp at B;subst B;refine⟨a.len,a.cap,λd hd=>l▸a.rows d hd,l▸a.pos,a.W0,λr=>?_⟩
 let ⟨b,vs,ty,k1,_,k3,k4,k5⟩:=a.mem r
 exact⟨b,vs,ty,k1,⟨λ_=>.inr ⟨_,k1,rfl,r⟩,λ_=>rfl⟩,k3,l▸k4,λi d j c hd hj=>let ⟨v,hv,hr⟩:=k5 i d j c hd hj;⟨v,l▸hv,hr.ext P hs.bx⟩⟩;have F:=hs.arr k j y C;refine F.ext P hs.bx (λc r I=>⟨rfl,⟨λh=>h.elim id λA=>?_,.inl⟩⟩) (by simp;rw[Tr.aV _ _ _ _ t,bQ m]) rfl;by_cases n:g.bx c;exact n;exact absurd (hs.j6 k o c ⟨n,.inr ⟨j,y,_,C,r,rfl,I⟩⟩ (f c A)) m;obtain z|z:=z
 exact hs.bx b z;exact(hs.rW (f b z)).1
end
section
theorem sw:∀{r b i a:Nat},rc r i=rc b a->r=b/\i=a
 |0,0,i,a,h=>by simp[rc]at h;omega
 |0,b+1,i,a,h=>by simp[rc,Nat.pow_zero,Js,Nat.pow_succ,NL _ 2,Nat.mul_assoc]at h;omega
 |r+1,0,i,a,h=>by simp[rc,Nat.pow_zero,Js,Nat.pow_succ,NL _ 2,Nat.mul_assoc]at h;omega
 |r+1,b+1,i,a,h=>by
  have:rc r i=rc b a:=by
   grind[rc]
  have:=sw this;omega
variable {g:Gh}{s:St}{w:World}{o e nj sz era m hU r i szr:Nat}{es:List D}{hole:Option Nat}{x y:fe}{hl:List Value}{iU:List (List D)}{fz:Bool}{I:Nat->Prop}{d:D}
def aY.ZA{s':St}(hs:aY g s w)(hn:s'.aE=s.aE)(c:∀o,s'.ob.get o=s.ob.get o):aY g s' w:=
 ⟨hn▸hs.aE,λo h=>hs.ah o (hn▸h),λo b h=>let ⟨h1,h2,h3⟩:=hs.box o b h;⟨h1,h2,λob a=>h3 ob (c o▸a)⟩,λo e x h=>let ⟨h1,h2⟩:=hs.arr o e x h;⟨h1,λob a=>h2 ob (c o▸a)⟩,hs.bx,hs.j6⟩
def aY.AG(hs:aY g s w){ob:Ob}(a:s.ob.get o=Z ob)(hi:ob.oC=W):g.bT o=Y:=by
 cases h:g.bT o with
 |none=>rfl|some b=>
  let ⟨x,_,h2⟩:=(hs.box o b h).2.2 ob a
  have:=h2.Cb
  simp_all
def aY.Cc(hs:aY g s w)(f:s.ob.get o=Z (.lT nj sz es era m hU hole))(i:g.arr o e=Z x) :
  x.sz=sz/\e<=era/\(∀c,era<c->g.arr o c=Y)/\(e=era->∃hl,hl.length=es.length/\xD g w J sz (lits nj es hl) x/\Jb g m hU hole hl):=by
 obtain⟨fz,_,_,h,_⟩|⟨j,k,d,l,a,b,h,h2,h3,h4⟩|⟨_,_,_,h,_⟩|h|⟨h,_⟩:=(hs.arr o e x i).2 _ f
 cases fz<;>cases h
 simp_all
 cases h;cases h;cases h
def aY.view(hs:aY g s w)(f:s.ob.get o=Z (.lT nj sz es era m hU hole))(i:g.arr o era=Z x) :
  ∃hl,hl.length=es.length/\xD g w J sz (lits nj es hl) x/\Jb g m hU hole hl/\aY g {s with ob:=s.ob.set aM o (.arr sz (lits nj es hl) era)} w:=by
 have d:o<bM:=iS (hs.lt' i) hs.aE
 let ⟨_,_,_,h4⟩:=hs.Cc f i
 let ⟨hl,h5,h6,n⟩:=h4 rfl
 have p:=hs.AG f rfl;refine⟨hl,h5,h6,n,hs.aE,hs.ah,λk b q=>?_,λk e y j=>?_,hs.bx,hs.j6⟩;have c:k≠o:=by grind
 let ⟨h,l,r⟩:=hs.box k b q
 refine⟨h,l,λob a=>r ob ?_⟩;simp at a;rwa [Tr.aV _ _ _ _ d,bQ c]at a
 let ⟨h,l⟩:=hs.arr k e y j
 refine⟨h,λob a=>?_⟩;rw[Tr.aV _ _ _ _ d]at a;by_cases c:k=o;subst c;rw[bD rfl]at a;obtain rfl:=j8 a
 let ⟨t,u,v,_⟩:=hs.Cc f j
 refine .inl ⟨J,lits nj es hl,era,by rw[t];rfl,u,v,λz=>?_⟩
 simp_all
 simp_all
def aY.Xe(hs:aY g s w)(d:o<bM)(p:s.ob.get o=Z (.arr sz (lits nj es hl) era))(f:hl.length=es.length)
  (t:Jb g m hU hole hl):aY g {s with ob:=s.ob.set aM o (.lT nj sz es era m hU hole)} w:=by
 have u:=hs.AG p rfl;refine⟨hs.aE,hs.ah,λk b v=>?_,λk e y q=>?_,hs.bx,hs.j6⟩;have c:k≠o:=by grind
 let ⟨i,r,x⟩:=hs.box k b v
 refine⟨i,r,λob a=>x ob ?_⟩;simp at a;rwa [Tr.aV _ _ _ _ d,bQ c]at a
 let ⟨i,r⟩:=hs.arr k e y q
 refine⟨i,λob a=>?_⟩;rw[Tr.aV _ _ _ _ d]at a;by_cases c:k=o;subst c;rw[bD rfl]at a;obtain rfl:=j8 a
 let ⟨fz,j,h,h1,h2,h3,h4⟩:=(hs.arr k e y q).old _ p rfl
 have l:ga J sz (lits nj es hl) era=ga fz y.sz j h:=h1;obtain⟨rfl,n,rfl,rfl⟩:=lf l;exact .inr (.inl ⟨nj,es,era,m,hU,hole,by rw[n],h2,h3,λz=>⟨hl,f,h4 z,t⟩⟩)
 simp_all
def aY.qI(hs:aY g s w)(k:s.ob.get m=Z (.rws sz iU r))(l:g.arr m e=Z y) :
  (∀a i,r<a->g.arr m (rc a i)=Y)/\(∀i c y d,i≠c->g.arr m (rc r i)=Z y->g.arr m (rc r c)=Z d->∀b,y.at b->¬d.at b)/\
   (∀i,e=rc r i->y.sz=sz/\∃f,iU[i]?=Z f/\xD g w J sz f y):=by
 obtain⟨fz,_,_,h,_⟩|⟨_,_,_,_,_,_,h,_⟩|⟨n,j,a,h,h2,h3,h4⟩|h|⟨h,_⟩:=(hs.arr m e y l).2 _ k
 cases fz<;>cases h;cases h
 grind
 cases h;cases h
def xD.at_(h:xD g w fz sz es x){b:Nat}(a:x.at b):(fz=W↔g.bx b)/\∃vs ty,x.a=Z ⟨b,0,Y⟩/\w.heap[b]?=Z (.cells vs ty (0,0)):=by
 let ⟨c,h1,h2,h3⟩:=a
 let ⟨d,vs,ty,e,f,i,_⟩:=h.mem h3
 grind
def xD.Wk(a:xD g w fz sz es x)(o:∀b,g.bx b->I b)(p:∀b,x.at b->I b):dJ I w (.sl es) (.slice x.a x.len x.cap):=by
 rw[a.len];by_cases e:x.cap=0;have r:es=[]:=by
  have h1:=a.len;have h2:=a.cap
  simp_all
 subst r;exact .sl [] x.a x.cap sz (λ_ _=>undef) (by simp) (by simp) (by simp) (λh=>absurd rfl h) (λi j d c h=>by simp at h)
 let ⟨b,s,ty,h1,h2,h3,h4,h5⟩:=a.mem e
 have m:∀q:Nat×Nat,∃v,∀d c,es[q.1]?=Z d->d.cells[q.2]?=Z c->s[q.1*sz+q.2]?=Z v/\dJ I w c v:=by
  rintro⟨i,j⟩
  by_cases n:i<es.length;by_cases k:j<(es[i]).cells.length
  let ⟨v,t,u⟩:=h5 i _ j _ (iX n) (iX k)
  refine⟨v,λd c f e=>?_⟩;rw[iX n]at f;simp at f;subst f;rw[iX k]at e;simp at e;subst e;exact⟨t,u.mono (λ_ _=>rfl) o⟩;refine⟨undef,λd c f e=>?_⟩
  simp_all
  simp_all
 let ⟨val,l⟩:=Vf m
 refine .sl es x.a x.cap sz (λi j=>val (i,j)) (by have:=a.len;have:=a.cap;omega) a.rows a.W0 (λ_=>⟨_,h1,p b ⟨_,h1,rfl,e⟩,λi j d c f k=>?_⟩) (λi j d c f k=>(l (i,j) d c f k).2);rw[nX,cell?_of_block h3]
 simp_all
def Ai(l:L D):D.o8 l=(l.map D.lby).sum:=by
 induction l with|nil=>rfl|cons a l b=>grind[D.o8]
def Jk{α:Type}{l:L α}{a:α}(h:l[i]?=Z a):l.set i a=l:=by
 apply NQ
 grind
def YC(a:hl.length=es.length)(h:es[i]?=Z d):∃v,hl[i]?=Z v/\(lits nj es hl)[i]?=Z (jD nj d v):=by
 have b:=cD h
 simp_all[lits]
theorem ov{nj:Nat}{es:L D}{hl:L Value}(a:hl.length=es.length):(lits nj es hl).length=es.length:=by simp[lits];omega
def AU(nj:Nat)(d:D)(b:L D)(a:O Addr)(n m:Nat):(AV nj d b).sP=(jD nj d (.slice a n m)).sP:=by show D.o8 _=D.o8 _;rw[Ai,Ai,FU,FU];rfl
def Bb{j:Nat}{c a:O Addr}(f:d.cells[j]?=Z (.sl []))(p:dJ I w (.sl [jD j d (.slice c 0 0)]) (.slice a 1 1)):dJ I w (.sl [d]) (.slice a 1 1):=by
 have b:=cD f;generalize t:(Value.slice a 1 1)=v at p;cases p with
 |sl es E cap sz val q l z F K=>
 cases t;have hl:(jD j d (.slice c 0 0)).cells=d.cells.set j (.lit (.slice c 0 0)):=rfl;have m:∀(k:Nat)(x:D),d.cells[k]?=Z x->∃r,(jD j d (.slice c 0 0)).cells[k]?=Z r/\∀u,dJ I w r u->dJ I w x u:=λk x e=>by
  by_cases A:k=j;subst A;rw[f]at e;cases e;refine⟨.lit (.slice c 0 0),by rw[hl,XA b],λu B=>?_⟩;cases B;exact .sl [] c 0 0 (λ_ _=>undef) (by simp) (by simp) (by simp) (λh=>absurd rfl h) (λi j d c h=>by simp at h)
  grind
 have s:d.sP=(jD j d (.slice c 0 0)).sP:=by
  cases d with
  |agg g=>
   show D.o8 g=D.o8 (g.set j (.lit (.slice c 0 0)));rw[Ai,Ai,FU];have:(g.map D.lby)[j]?=Z 24:=by rw[lE];have n:g[j]?=Z (.sl []):=f;rw[n];rfl
   have o:(D.lit (Value.slice c 0 0)).lby=24:=rfl;rw[o,Jk this]
  |_=>
   have C:j=0:=by have:j<1:=b;omega
   subst C;cases f<;>rfl
 refine .sl [d] a 1 sz val (by simp) (λx e=>?_) (λx e=>?_) (λ_=>?_) (λi k x y h1 h2=>?_);rw[tC.1 e,<-l _ (tC.2 rfl),hl,Ld]
 simp_all
 grind
 grind
def aY.Wa(hs:aY g s w)(ho:s.ob.get o=Z (.lT nj sz es era m r Y))(hm:s.ob.get m=Z (.rws szr iU r))
  (hmN:m<bM) (hx:g.arr o era=Z x) (hfl:s.fl<=o) (Rp:s.fl<=m) :
  ∃g',aY g' {s with ob:=(s.ob.set aM m .gone).set aM o (.lM sz (mZ nj es iU) era)} w/\Ext s.fl g w g' w:=by
 have mR:o<bM:=iS (hs.lt' hx) hs.aE;have hom:o≠m:=by grind
 let ⟨acT,_,hnx,h4⟩:=hs.Cc ho hx
 let ⟨hl,K,q,hL⟩:=h4 rfl
 let R:Nat->Prop:=λb=>x.at b\/∃i y,g.arr m (rc r i)=Z y/\y.at b
 have B:∀b,R b->∃k,s.fl<=k/\(k=o\/k=m)/\bJ g k b:=by
  rintro b (p|⟨i,y,hy,p⟩)
  have h1:=(q.at_ p).1
  let ⟨ad,k1,k2,k3⟩:=p
  exact⟨o,hfl,.inl rfl,λn=>Bool.noConfusion (h1.2 n),.inr ⟨era,x,ad,hx,k1,k2,k3⟩⟩
  let ⟨_,t,_,hr⟩:=(hs.qI hm hy).2.2 i rfl
  have h1:=(hr.at_ p).1
  let ⟨ad,k1,k2,k3⟩:=p
  exact⟨m,Rp,.inr rfl,λn=>Bool.noConfusion (h1.2 n),.inr ⟨_,y,ad,hy,k1,k2,k3⟩⟩
 have aeL:∀b,R b->¬g.bx b:=λb p=>let ⟨_,_,_,hO⟩:=B b p;hO.1;have C:∀k b,bJ (g.lM R) k b->bJ g k b/\¬R b:=λk b h=>⟨⟨λS=>h.1 (.inl S),h.2⟩,λS=>h.1 (.inr S)⟩;have he:Ext s.fl g w (g.lM R) w:=
  ⟨λ_ _ h=>h,λ_ _ _ h=>h,λ_ h=>.inl h,eO _,λ_ _ _=>rfl,λk b h=>.inl (C k b h).1,
   λb h=>h.imp id λh=>.inr (let ⟨k,h1,_,h3⟩:=B b h;⟨k,h1,h3⟩),rfl,rfl⟩
 have ek:∀k,((s.ob.set aM m .gone).set aM o (.lM sz (mZ nj es iU) era)).get k=if k=o then Z (.lM sz (mZ nj es iU) era)else if k=m then Z .gone else s.ob.get k:=λk=>by rw[Tr.aV _ _ _ _ mR,Tr.aV _ _ _ _ hmN]
 have are:=hs.AG ho rfl;have arf:=hs.AG hm rfl;refine⟨g.lM R,⟨hs.aE,hs.ah,λk c P=>?_,λk j y hy=>?_,λb p=>?_,λk k' b h h'=>hs.j6 k k' b (C k b h).1 (C k' b h').1⟩,he⟩;have hc':g.bT k=Z c:=P;have E:k≠o:=by grind
 have I:k≠m:=by grind
 have F:=hs.box k c P;refine F.ext he hs.bx rfl (by simp;rw[ek,bQ E,bQ I]) ?_
 rintro(n|zB)
 exact F.1 n
 let ⟨k',_,h1,h2⟩:=B c zB
 have:=hs.j6 k k' c ⟨F.1,.inl P⟩ h2;omega;have u:g.arr k j=Z y:=hy;by_cases E:k=o;subst E
 let ⟨q1,q2,_,_⟩:=hs.Cc ho u
 refine⟨(hs.arr k j y u).1,λob e=>?_⟩;simp at e;rw[ek,bD rfl]at e;obtain rfl:=j8 e;refine .inl ⟨W,mZ nj es iU,era,by rw[q1];rfl,q2,hnx,λhje=>?_⟩;subst hje;rw[hx]at u;cases u;rw[q1];have A:∀(i:Nat)(d:D),es[i]?=Z d->∃(t:L D)(l:fe),iU[i]?=Z t/\hl[i]?=Z (Value.slice l.a l.len l.cap)/\(lits nj es hl)[i]?=Z (jD nj d (.slice l.a l.len l.cap))/\dJ (g.lM R).bx w (.sl t) (.slice l.a l.len l.cap):=by
  intro i d hd
  let ⟨v,hv,a⟩:=YC (nj:=nj) K hd
  obtain⟨l,hyy,rfl⟩:=hL.2 i v hv (by simp)
  let ⟨_,t,hrs,hra⟩:=(hs.qI hm hyy).2.2 i rfl
  exact⟨t,l,hrs,hv,a,hra.Wk (λ_ h=>.inl h) (λb p=>.inr (.inr ⟨i,l,hyy,p⟩))⟩
 have Rq:(mZ nj es iU).length=es.length:=by
  rw[mZ,List.length_zipWith];obtain h|h:=Nat.lt_or_ge iU.length es.length
  let ⟨t,_,hrs,_⟩:=A iU.length _ (iX h)
  simp_all
  omega
 have z:∀(i:Nat)(f:D),(mZ nj es iU)[i]?=Z f->∃d t,es[i]?=Z d/\iU[i]?=Z t/\f=AV nj d t:=by
  grind[mZ]
 refine⟨by rw[Rq];have:=q.len;rw[ov K]at this;exact this,q.cap,λf hf=>?_,q.pos,λf hf=>?_,λP=>?_⟩
 let ⟨i,S⟩:=NS hf
 obtain⟨d,t,h1,h2,rfl⟩:=z i f S
 let ⟨_,_,_,_,a,_⟩:=A i d h1
 have:=q.rows _ (iA a)
 grind[jD,AV,D.cells]
 let ⟨i,S⟩:=NS hf
 obtain⟨d,t,h1,h2,rfl⟩:=z i f S
 let ⟨_,l,_,_,a,_⟩:=A i d h1
 rw[AU nj d t l.a l.len l.cap];have p:=q.W0 _ (iA a)
 grind[ov]
 let ⟨b,vs,ty,k1,_,k3,k4,k5⟩:=q.mem P
 refine⟨b,vs,ty,k1,⟨λ_=>.inr (.inl ⟨_,k1,rfl,P⟩),λ_=>rfl⟩,k3,k4,λi f Q c hf hjj=>?_⟩;obtain⟨d,t,h1,h2,rfl⟩:=z i f hf
 let ⟨rs',l,h2',hv,a,hdr⟩:=A i d h1
 rw[h2]at h2';cases h2';by_cases hjn:Q=nj;subst hjn;have hlt:Q<d.cells.length:=by grind[AV,D.cells]
 let ⟨v,hv1,hv2⟩:=k5 i _ Q (.lit (.slice l.a l.len l.cap)) a (by show(d.cells.set Q _)[Q]?=_;rw[XA hlt])
 cases hv2;have hce:c=.sl t:=by
  have hj2:(d.cells.set Q (.sl t))[Q]?=Z c:=hjj
  simp_all
 simp_all
 let ⟨v,hv1,hv2⟩:=k5 i _ Q c a (by
  grind[jD,AV,D.cells])
 exact⟨v,hv1,hv2.ext he hs.bx⟩;by_cases I:k=m;subst I;refine⟨(hs.arr k j y u).1,λob e=>?_⟩;rw[ek,bQ E,bD rfl]at e;obtain rfl:=j8 e;exact .inr (.inr (.inr (.inl rfl)));have agD:=hs.arr k j y u;refine agD.ext he hs.bx (λc P hcap=>⟨rfl,⟨λh=>h.elim id λzB=>?_,.inl⟩⟩) (by simp;rw[ek,bQ E,bQ I]) rfl;by_cases n:g.bx c;exact n
 let ⟨k',_,h1,h2⟩:=B c zB
 have:=hs.j6 k k' c ⟨n,.inr ⟨j,y,_,u,P,rfl,hcap⟩⟩ h2;omega;obtain p|p:=p
 exact hs.bx b p
 let ⟨k,_,_,h⟩:=B b p
 exact(hs.rW h).1
structure UI(g:Gh)(w:World)(n:Nat)(es:List D)(x:fe)(v:Value)(w':World)(x':fe):Prop where
 val:v=.slice x'.a x'.len x'.cap
 sz:x'.sz=n
 os:w'.os=w.os
 output:w'.output=w.output
 size:w.heap.size<=w'.heap.size
 heap:∀b,b<w.heap.size->¬x.at b->w'.heap[b]?=w.heap[b]?
 at_:∀b,x'.at b->b<w'.heap.size/\(w.heap.size<=b\/x.at b)
 ok:xD g w' J n es x'
noncomputable def Gh.oP(g:Gh)(m r i:Nat)(y:fe):Gh:=by
 classical
 exact{g with arr:=λk j=>if k=m then(if h:∃a,j=rc (r+1) a then(if h.choose=i then Z y else g.arr m (rc r h.choose))else g.arr m j)else g.arr k j}
theorem Gh.mT{g:Gh}{m r i:Nat}{y:fe}{k:Nat}(h:k≠m):(g.oP m r i y).arr k=g.arr k:=by
 funext j
 simp[Gh.oP,h]
def Gh.qJ(b:Nat):(g.oP m r i y).arr m (rc (r+1) b)=if b=i then Z y else g.arr m (rc r b):=by have a:∃c,rc (r+1) b=rc (r+1) c:=⟨b,rfl⟩;have d:a.choose=b:=(sw a.choose_spec).2.symm;simp[Gh.oP,ki,dif_pos a,d]
theorem Gh.zf{g:Gh}{m r i:Nat}{y:fe}{j:Nat}(h:∀a,j≠rc (r+1) a):(g.oP m r i y).arr m j=g.arr m j:=by
 simp_all[Gh.oP]
def aY.adL{w':World}(hs:aY g s w){F:fe}{v:Value}{t:L D}(ho:s.ob.get o=Z (.lT nj sz es era m r Y))
  (hm:s.ob.get m=Z (.rws szr iU r)) (hoN:o<bM) (S:g.arr m (rc r i)=Z y) (f:UI g w szr t y v w' F) (Rp:s.fl<=m) :
  aY (g.oP m r i F) {s with ob:=(s.ob.set aM m (.rws szr (iU.set i t) (r+1))).set aM o (.lT nj sz es era m (r+1) (Z i))} w'/\Ext s.fl g w (g.oP m r i F) w':=by
 have hmN:m<bM:=iS (hs.lt' S) hs.aE;have hom:o≠m:=by grind
 let ⟨hnone,I,hrow⟩:=hs.qI hm S
 let ⟨_,rs0,acV,aq2⟩:=hrow i rfl
 have hilt:=cD acV;have P:∀b,y.at b->bJ g m b:=λb a=>by
  have h1:=(aq2.at_ a).1
  let ⟨u,k1,k2,Q⟩:=a
  exact⟨λVW=>Bool.noConfusion (h1.2 VW),.inr ⟨_,y,u,S,k1,k2,Q⟩⟩
 have LK:∀k j z,g.arr k j=Z z->(g.oP m r i F).arr k j=Z z:=λk j z h=>by
  grind[Gh.zf,Gh.mT]
 have d:∀k j z,(g.oP m r i F).arr k j=Z z->(k=m/\j=rc (r+1) i/\z=F)\/(k=m/\∃l,l≠i/\j=rc (r+1) l/\g.arr m (rc r l)=Z z)\/((∀l,k=m->j≠rc (r+1) l)/\g.arr k j=Z z):=λk j z h=>by
  by_cases R:k=m;subst R;by_cases hj:∃l,j=rc (r+1) l;obtain⟨l,rfl⟩:=hj;rw[Gh.qJ]at h
  grind
  grind[Gh.zf]
  grind[Gh.mT]
 have x:∀k b,bJ (g.oP m r i F) k b->bJ g k b\/(k=m/\w.heap.size<=b):=by
  rintro k b ⟨h1,h2|⟨j,z,u,h2,h3,h4,h5⟩⟩
  exact .inl ⟨h1,.inl h2⟩;obtain⟨rfl,_,rfl⟩|⟨rfl,l,_,_,h⟩|⟨_,h⟩:=d k j z h2
  obtain h|h:=(f.at_ b ⟨u,h3,h4,h5⟩).2
  omega
  simp_all
  exact .inl ⟨h1,.inr ⟨_,z,u,h,h3,h4,h5⟩⟩;exact .inl ⟨h1,.inr ⟨j,z,u,h,h3,h4,h5⟩⟩
 have he:Ext s.fl g w (g.oP m r i F) w':=
  ⟨λ_ _ h=>h,LK,λ_ h=>h,f.size,λb a hn=>f.heap b a λn=>hn m Rp (P b n),λk b h=>(x k b h).imp id (·.2),λ_ h=>.inl h,f.os,f.output⟩
 have ek:∀k,((s.ob.set aM m (.rws szr (iU.set i t) (r+1))).set aM o (.lT nj sz es era m (r+1) (Z i))).get k=if k=o then Z (.lT nj sz es era m (r+1) (Z i))else if k=m then Z (.rws szr (iU.set i t) (r+1))else s.ob.get k:=λk=>by rw[Tr.aV _ _ _ _ hoN,Tr.aV _ _ _ _ hmN]
 have are:=hs.AG ho rfl;have arf:=hs.AG hm rfl;have A:∀k j z,g.arr k j=Z z->k≠m->∀b,z.a=Z ⟨b,0,Y⟩->z.cap≠0->w'.heap[b]?=w.heap[b]?:=λk j z E R b a p=>by refine f.heap b ((hs.arr k j z E).1 _ a p) λn=>?_;have hO:=P b n;exact R (hs.j6 k m b ⟨hO.1,.inr ⟨j,z,_,E,a,rfl,p⟩⟩ hO)
 refine⟨⟨hs.aE,λk R=>⟨(hs.ah k R).1,λj=>?_⟩,λk b a=>?_,λk j z E=>?_,λb a=>iS (hs.bx b a) f.size,λk k' b h h'=>?_⟩,he⟩;rw[Gh.mT (by rintro rfl;have:=hs.lt' S;grind)];exact(hs.ah k R).2 j;have hb':g.bT k=Z b:=a;have K:k≠o:=by grind
 have c:k≠m:=by grind
 have q:=hs.box k b hb';exact q.ext he hs.bx (f.heap b q.2.1 λn=>c (hs.j6 k m b ⟨q.1,.inl hb'⟩ (P b n))) (by simp;rw[ek,bQ K,bQ c]) q.1;by_cases c:k=m;subst c;refine⟨λu ha p=>?_,λob B=>?_⟩;obtain⟨_,_,rfl⟩|⟨_,l,_,_,h⟩|⟨_,h⟩:=d k j z E
 exact(f.at_ _ ⟨u,ha,rfl,p⟩).1;exact iS ((hs.arr k _ z h).1 u ha p) f.size;exact iS ((hs.arr k _ z h).1 u ha p) f.size;rw[ek,bQ (λe=>hom e.symm),bD rfl]at B;obtain rfl:=j8 B;refine .inr (.inr (.inl ⟨szr,iU.set i t,r+1,rfl,λr' l hr'=>?_,λi1 i2 y1 y2 hne h1 h2 b Ep pZ=>?_,λl hj=>?_⟩))
 grind[Gh.zf,sw]
 rw[Gh.qJ]at h1 h2;have mix:∀i3 y3,i3≠i->g.arr k (rc r i3)=Z y3->∀b,F.at b->¬y3.at b:=λi3 y3 hn h3 b a Ry=>by
  obtain h|h:=(f.at_ b a).2
  let ⟨u,k1,k2,Q⟩:=Ry
  have:=(hs.arr k _ y3 h3).1 u k1 Q;omega
  grind
 grind
 subst hj;rw[Gh.qJ]at E;split at E;rename_i e1;subst e1;cases E;exact⟨f.sz,t,by rw[XA hilt],f.ok.kE rfl⟩;rename_i e1
 let ⟨q1,rs,q2,q3⟩:=(hs.qI hm E).2.2 l rfl
 refine⟨q1,rs,by grind,q3.ext he hs.bx (λb a p=>⟨?_,vS⟩)⟩;exact f.heap b ((hs.arr k _ z E).1 _ a p) (λn=>I i l y z (λe=>e1 e.symm) S E b n ⟨_,a,rfl,p⟩);have C:g.arr k j=Z z:=by grind
 by_cases K:k=o;subst K
 let ⟨q1,q2,q3,q4⟩:=hs.Cc ho C
 refine⟨λu ha p=>iS ((hs.arr k j z C).1 u ha p) f.size,λob B=>?_⟩;rw[ek,bD rfl]at B;obtain rfl:=j8 B;refine .inr (.inl ⟨nj,es,era,m,r+1,Z i,by rw[q1],q2,λe' h=>by rw[Gh.mT c];exact q3 e' h,λhje=>?_⟩)
 let ⟨hl,k1,k2,Q⟩:=q4 hje
 refine⟨hl,k1,q1▸(k2.ext he hs.bx (λb a p=>⟨A k j z C c b a p,vS⟩)),Q.1,λl h hh hne=>?_⟩
 let ⟨yy,h1,h2⟩:=Q.2 l h hh (by simp)
 exact⟨yy,by rw[Gh.qJ,bQ (λe=>hne (by rw[e]))];exact h1,h2⟩;exact(hs.arr k j z C).ext he hs.bx (λb a p=>⟨A k j z C c b a p,vS⟩) (by simp;rw[ek,bQ K,bQ c]) (Gh.mT c);obtain h1|⟨h1,h3⟩:=x k b h<;>obtain h2|⟨h2,h4⟩:=x k' b h'
 exact hs.j6 k k' b h1 h2;have:=(hs.rW h1).1;omega;have:=(hs.rW h2).1;omega;rw[h1,h2]
noncomputable def Gh.ig(g:Gh)(m:Nat)(ys:L fe):Gh:=by
 classical
 exact{g with arr:=λk j=>if k=m then(if h:∃i,j=rc 0 i then ys[h.choose]? else Y)else g.arr k j}
theorem Gh.jN{g:Gh}{m:Nat}{ys:L fe}{k:Nat}(h:k≠m):(g.ig m ys).arr k=g.arr k:=by
 funext j
 simp[Gh.ig,h]
theorem Gh.xj{g:Gh}{m:Nat}{ys:L fe}(i:Nat):(g.ig m ys).arr m (rc 0 i)=ys[i]?:=by have a:∃b,rc 0 i=rc 0 b:=⟨i,rfl⟩;have c:a.choose=i:=(sw a.choose_spec).2.symm;simp[Gh.ig,ki,dif_pos a,c]
theorem Gh.vk{g:Gh}{m:Nat}{ys:L fe}{j:Nat}{z:fe}(h:(g.ig m ys).arr m j=Z z):∃i,j=rc 0 i/\ys[i]?=Z z:=by by_cases a:∃i,j=rc 0 i;obtain⟨i,rfl⟩:=a;rw[Gh.xj]at h;exact⟨i,rfl,h⟩;simp only[Gh.ig,ki,dif_neg a]at h;cases h
def aY.ahy(hs:aY g s w)(hn:s.aE<bM){ys:L fe}(F:∀y∈ys,∀b,y.at b->b<w.heap.size/\∀o,¬bJ g o b)
  (n:∀(i:Nat)(y:fe),ys[i]?=Z y->y.sz=sz/\∃f,iU[i]?=Z f/\xD g w J sz f y) (I:ys.Pairwise λx y=>∀b,x.at b->¬y.at b) :
  aY (g.ig s.aE ys) (eo s (.rws sz iU 0)).2 w/\(∀k j y,g.arr k j=Z y->(g.ig s.aE ys).arr k j=Z y)/\(∀k b,bJ (g.ig s.aE ys) k b->bJ g k b\/(k=s.aE/\∃y∈ys,y.at b)):=by
 have p:=hs.ah s.aE (eO _);have c:∀k j y,g.arr k j=Z y->(g.ig s.aE ys).arr k j=Z y:=λk j y h=>by
  rw[Gh.jN];exact h
  grind
 have d:∀k b,bJ (g.ig s.aE ys) k b->bJ g k b\/(k=s.aE/\∃y∈ys,y.at b):=by
  rintro k b ⟨h1,h2|⟨j,y,l,h2,h3⟩⟩
  exact .inl ⟨h1,.inl h2⟩;by_cases e:k=s.aE;subst e
  let ⟨i,_,m⟩:=Gh.vk h2
  exact .inr ⟨rfl,y,iA m,l,h3⟩;rw[Gh.jN e]at h2;exact .inl ⟨h1,.inr ⟨j,y,l,h2,h3⟩⟩
 have ek:∀k,(eo s (.rws sz iU 0)).2.ob.get k=if k=s.aE then Z (.rws sz iU 0)else s.ob.get k:=λk=>by simp[eo];rw[Tr.aV _ _ _ _ hn]
 refine⟨⟨by simp only[eo];omega,λk e=>?_,λk b K=>?_,λk j y P=>?_,hs.bx,λk C b h Q=>?_⟩,c,d⟩;simp only[eo]at e;refine⟨(hs.ah k (by omega)).1,λj=>?_⟩;rw[Gh.jN (by omega)];exact(hs.ah k (by omega)).2 j;have q:g.bT k=Z b:=K;have r:k≠s.aE:=λh=>by simp_all
 let ⟨u,A,R⟩:=hs.box k b q
 refine⟨u,A,λob a=>?_⟩;rw[ek,bQ r]at a
 let ⟨x,h1,h2⟩:=R ob a
 refine⟨x,h1,?_⟩;exact h2.imp (λt v S=>S.ar1 c rfl rfl);by_cases e:k=s.aE;subst e;obtain⟨i,rfl,m⟩:=Gh.vk P;refine⟨λl ha hc=>(F y (iA m) _ ⟨l,ha,rfl,hc⟩).1,λob a=>?_⟩;rw[ek,bD rfl]at a;obtain rfl:=j8 a;refine .inr (.inr (.inl ⟨sz,iU,0,rfl,λr' E hr'=>?_,λi1 i2 y1 y2 hne h1 h2 b Ep pZ=>?_,λE hj=>?_⟩))
 .cases h:(g.ig s.aE ys).arr s.aE (rc r' E)with
  |none=>rfl|some z=>
   grind[Gh.vk,sw]
 grind[Gh.xj,List.pairwise_iff_getElem]
 have:=(sw hj).2;subst this
 let ⟨q1,f,q2,q3⟩:=n i y m
 exact⟨q1,f,q2,q3.kE rfl⟩;have B:g.arr k j=Z y:=by grind[Gh.jN]
 let ⟨u,A⟩:=hs.arr k j y B
 refine⟨u,λob a=>?_⟩;rw[ek,bQ e]at a;exact(A ob a).tr (λh=>h.kE rfl) c (Gh.jN e) (λ_ _ _=>⟨rfl,vS⟩);obtain h1|⟨h1,y1,m1,a1⟩:=d k b h<;>obtain h2|⟨h2,y2,m2,a2⟩:=d C b Q
 exact hs.j6 k C b h1 h2
 grind
 grind
 rw[h1,h2]
end
section
variable {g:Gh}{s:St}{w:World}{o:Nat}
def aY.KR(hs:aY g s w){e sz:Nat}{es:L D}{x:fe}(c:s.ob.get o=Z (.lM sz es e))(d:g.arr o e=Z x) :
  dJ g.bx w (.sl es) (.slice x.a x.len x.cap):=by
 let ⟨a,_⟩:=hs.nV (fz:=W) c d
 exact a.Wk (λ_ h=>h) (λb f=>(a.at_ f).1.1 rfl)
def Live(g:Gh)(s:St)(o:Nat):Prop:=o<bM/\((∃e x,g.arr o e=Z x/\((∃fz sz es,s.ob.get o=Z (ga fz sz es e))\/∃nj sz es m r hole,s.ob.get o=Z (.lT nj sz es e m r hole)))\/(∃sz iU r,s.ob.get o=Z (.rws sz iU r))\/s.ob.get o=Z .gone)
def Live.oC{g:Gh}{s:St}{o:Nat}{ob:Ob}(h:Live g s o)(a:s.ob.get o=Z ob):ob.oC=W:=by
 obtain⟨_,_,_,⟨b,_,_,h⟩|⟨_,_,_,_,_,_,h⟩⟩|⟨_,_,_,h⟩|h:=h.2
 rw[a]at h;cases h;cases b<;>rfl;rw[a]at h;cases h;rfl;rw[a]at h;cases h;rfl;rw[a]at h;cases h;rfl
structure jF(s s':St)(os:List Nat):Prop where
 fl:s'.fl=s.fl
 aE:s'.aE=s.aE
 hit:∀o∈os,∀fz sz es e,s.ob.get o=Z (ga fz sz es e)->s'.ob.get o=Z (.lM sz es e)
 lM:∀o sz es e,s.ob.get o=Z (.lM sz es e)->s'.ob.get o=Z (.lM sz es e)
 lT:∀o∈os,∀nj sz es e m r iU,s.ob.get o=Z (.lT nj sz es e m r Y)->II s m r=Z iU->s'.ob.get o=Z (.lM sz (mZ nj es iU) e)
theorem jF.sub{s s':St}{os a:L Nat}(h:jF s s' os)(hs:∀o∈a,o∈os):jF s s' a:=
 ⟨h.fl,h.aE,λo b=>h.hit o (hs o b),h.lM,λo b=>h.lT o (hs o b)⟩
def qm{m r:Nat}{iU:L (L D)}(h:II s m r=Z iU):∃sz,s.ob.get m=Z (.rws sz iU r):=by
 unfold II at h;split at h;obtain⟨a,h⟩|⟨_,h⟩:=af h
 simp_all
 cases h;cases h
def wM{s':St}{os:L Nat}(h:freeze s (o::os)=Z s'):s.fl<=o/\
  ((∃sz es e,s.ob.get o=Z (.arr sz es e)/\freeze {s with ob:=s.ob.set aM o (.lM sz es e)} os=Z s')\/
   (∃sz es e,s.ob.get o=Z (.lM sz es e)/\freeze s os=Z s')\/
   (((∃sz iU r,s.ob.get o=Z (.rws sz iU r))\/s.ob.get o=Z .gone)/\freeze s os=Z s')\/
   (∃nj sz es e m r iU b,s.ob.get o=Z (.lT nj sz es e m r Y)/\s.ob.get m=Z (.rws b iU r)/\II s m r=Z iU/\(m∈os/\s.fl<=m)/\m<bM/\freeze {s with ob:=(s.ob.set aM m .gone).set aM o (.lM sz (mZ nj es iU) e)} os=Z s')):=by
 obtain⟨d,h⟩|⟨_,h⟩:=af h
 refine⟨gS d,?_⟩;split at h
 grind
 simp_all
 rename_i nj sz es e m r f;split at h;rename_i iU c;obtain⟨a,h⟩|⟨_,h⟩:=af h
 rw[eW]at a
 let ⟨b,g⟩:=qm c
 rw[eW]at a;exact .inr (.inr (.inr ⟨nj,sz,es,e,m,r,iU,b,f,g,c,⟨by grind,gS a.2.1⟩,gS a.2.2,h⟩));cases h;cases h
 simp_all
 simp_all
 cases h;cases h
def oI:∀{os:L Nat}{s s':St}{m:Nat},freeze s os=Z s'->s.ob.get m=Z .gone->(∀o∈os,o<bM)->∀o∈os,∀nj sz es e r hole,s.ob.get o≠Z (.lT nj sz es e m r hole)
 |[],_,_,_,_,_,_,o,j,_,_,_,_,_,_=>by cases j
 |b::os,s,s',m,h,q,l,o,j,nj,sz,es,e,r,hole=>λu=>by
  obtain⟨_,h1|h1|h1|h1⟩:=wM h
  let ⟨d,f,t,g,h2⟩:=h1
  have i:m≠b:=by grind
  have a:o≠b:=by grind
  have ek:∀k,k≠b->({s with ob:=s.ob.set aM b (.lM d f t)}:St).ob.get k=s.ob.get k:=λk c=>by show(s.ob.set aM b _).get k=_;rw[Tr.aV _ _ _ _ (l b (by simp)),bQ c]
  exact oI h2 (by rw[ek m i];exact q) (λk c=>l k (by simp[c])) o ((fV.1 j).resolve_left a) nj sz es e r hole (by simp_all)
  let ⟨d,f,t,g,h2⟩:=h1
  have a:o≠b:=by grind
  exact oI h2 q (λk c=>l k (by simp[c])) o ((fV.1 j).resolve_left a) nj sz es e r hole u
  let ⟨g,h2⟩:=h1
  have a:o≠b:=by
   rintro rfl
   obtain⟨_,_,_,h⟩|h:=g<;>(rw[u]at h;cases h)
  exact oI h2 q (λk c=>l k (by simp[c])) o ((fV.1 j).resolve_left a) nj sz es e r hole u
  let ⟨v,d,f,t,n,C,p,z,g,B,_,_,w,h2⟩:=h1
  have x:m≠n:=by grind
  have i:m≠b:=by grind
  by_cases a:o=b
  simp_all
  have A:o≠n:=by grind
  have ek:∀k,k≠b->k≠n->({s with ob:=(s.ob.set aM n .gone).set aM b (.lM d (mZ v f p) t)}:St).ob.get k=s.ob.get k:=λk c y=>by show((s.ob.set aM n _).set aM b _).get k=_;rw[Tr.aV _ _ _ _ (l b (by simp)),bQ c,Tr.aV _ _ _ _ w,bQ y]
  exact oI h2 (by rw[ek m i x];exact q) (λk c=>l k (by simp[c])) o ((fV.1 j).resolve_left a) nj sz es e r hole (by simp_all)
def eF(os:L Nat):∀{g:Gh}{s s':St}{w:World},aY g s w->freeze s os=Z s'->(∀o∈os,Live g s o)->
  ∃g',aY g' s' w/\Ext s.fl g w g' w/\jF s s' os:=by
 induction os with
 |nil=>intro g s s' w I h _;simp[freeze]at h;subst h;exact⟨g,I,Ext.refl _ _ _,⟨rfl,rfl,λo j=>(by cases j),λ_ _ _ _ h=>h,λo j=>(by cases j)⟩⟩
 |cons o os ih=>
  intro g s s' w I h A;have hN:∀k∈o::os,k<bM:=λk f=>(A k f).1;have y:=hN o (by simp);obtain⟨K,h1|h1|h1|h1⟩:=wM h;obtain⟨sz,t,e0,j,h⟩:=h1;obtain⟨x,B⟩:∃x,g.arr o e0=Z x:=by
   obtain⟨e,x,B,⟨q,_,_,h⟩|⟨_,_,_,_,_,_,h⟩⟩|⟨_,_,_,h⟩|h:=(A o (by simp)).2
   grind[ga,Option.some.inj,lf]
   simp_all
   simp_all
   simp_all
  obtain⟨C,u⟩:=I.adm j B K;have ek:∀k,({s with ob:=s.ob.set aM o (.lM sz t e0)}:St).ob.get k=if k=o then Z (.lM sz t e0)else s.ob.get k:=λk=>Tr.aV _ _ _ _ y
  obtain⟨g',n,p,a⟩:=ih C h (λk f=>by
   by_cases b:k=o;subst b;exact⟨y,.inl ⟨e0,x,B,.inl ⟨W,sz,t,by rw[ek,bD rfl];rfl⟩⟩⟩;have:=A k (by simp[f]);unfold Live at this ⊢;rw[ek,bQ b];exact this)
  refine⟨g',n,u.trans p,⟨a.fl,a.aE,λk f q c d i h1=>?_,λk c d i h1=>?_,λk f z c d i m r l h1 h2=>?_⟩⟩;by_cases b:k=o;subst b;rw[j]at h1;have E:ga J sz t e0=_:=j8 h1;obtain⟨_,rfl,rfl,rfl⟩:=lf E;exact a.lM k sz t e0 (by rw[ek,bD rfl]);exact a.hit k ((fV.1 f).resolve_left b) q c d i (by simp_all);have b:k≠o:=by
   grind
  exact a.lM k c d i (by simp_all);have b:k≠o:=by grind
  obtain⟨szr,hm⟩:=qm h2;have P:m≠o:=by grind
  exact a.lT k ((fV.1 f).resolve_left b) z c d i m r l (by simp_all) (by simp_all[II,bQ]);obtain⟨sz,t,e,j,h⟩:=h1;obtain⟨g',n,p,a⟩:=ih I h (λk f=>A k (by simp[f]));refine⟨g',n,p,⟨a.fl,a.aE,λk f q c d i h1=>?_,a.lM,λk f z c d i m r l h1 h2=>?_⟩⟩;obtain rfl|f:=fV.1 f
  rw[j]at h1;have E:ga W sz t e=_:=j8 h1;obtain⟨_,rfl,rfl,rfl⟩:=lf E;exact a.lM k sz t e j;exact a.hit k f q c d i h1;have b:k≠o:=by grind
  exact a.lT k ((fV.1 f).resolve_left b) z c d i m r l h1 h2;obtain⟨j,h⟩:=h1;obtain⟨g',n,p,a⟩:=ih I h (λk f=>A k (by simp[f]));refine⟨g',n,p,⟨a.fl,a.aE,λk f q c d i h1=>?_,a.lM,λk f z c d i m r l h1 h2=>?_⟩⟩;have b:k≠o:=by rintro rfl;obtain⟨_,_,_,h⟩|h:=j<;>(rw[h1]at h;cases q<;>cases h)
  exact a.hit k ((fV.1 f).resolve_left b) q c d i h1;have b:k≠o:=by rintro rfl;obtain⟨_,_,_,h⟩|h:=j<;>(rw[h1]at h;cases h)
  exact a.lT k ((fV.1 f).resolve_left b) z c d i m r l h1 h2;obtain⟨z,sz,t,e0,m,r,l,szr,j,hm,hr,⟨_,Q⟩,F,h⟩:=h1;obtain⟨x,B⟩:∃x,g.arr o e0=Z x:=by
   obtain⟨e,x,B,⟨q,_,_,h⟩|⟨_,_,_,_,_,_,h⟩⟩|⟨_,_,_,h⟩|h:=(A o (by simp)).2
   rw[j]at h;cases q<;>cases h
   simp_all
   simp_all
   simp_all
  obtain⟨g1,C,u⟩:=I.Wa j hm F B K Q;have hom:o≠m:=by grind
  have ek:∀k,({s with ob:=(s.ob.set aM m .gone).set aM o (.lM sz (mZ z t l) e0)}:St).ob.get k=if k=o then Z (.lM sz (mZ z t l) e0)else if k=m then Z .gone else s.ob.get k:=λk=>by show((s.ob.set aM m _).set aM o _).get k=_;rw[Tr.aV _ _ _ _ y,Tr.aV _ _ _ _ F]
  obtain⟨g',n,p,a⟩:=ih C h (λk f=>by
   by_cases b:k=o;subst b;exact⟨y,.inl ⟨e0,x,u.arr _ _ _ B,.inl ⟨W,sz,_,by rw[ek,bD rfl];rfl⟩⟩⟩;by_cases v:k=m;subst v;exact⟨F,.inr (.inr (by rw[ek,bQ b,bD rfl]))⟩;obtain⟨h0,h1⟩:=A k (by simp[f]);refine⟨h0,?_⟩;rw[ek,bQ b,bQ v];exact h1.imp (λ⟨i,x',h1,h2⟩=>⟨i,x',u.arr _ _ _ h1,h2⟩) id)
  refine⟨g',n,u.trans p,⟨a.fl,a.aE,λk f q c d i h1=>?_,λk c d i h1=>?_,λk f R c d i m' r' S h1 h2=>?_⟩⟩;have b:k≠o:=by rintro rfl;rw[j]at h1;cases q<;>cases h1
  have v:k≠m:=by rintro rfl;rw[hm]at h1;cases q<;>cases h1
  exact a.hit k ((fV.1 f).resolve_left b) q c d i (by simp_all);have b:k≠o:=by grind
  have v:k≠m:=by grind
  exact a.lM k c d i (by simp_all);by_cases b:k=o;subst b;rw[j]at h1;cases h1;rw[hr]at h2;cases h2;exact a.lM k _ _ _ (by rw[ek,bD rfl]);have hk':=(fV.1 f).resolve_left b;obtain⟨szr',hm'⟩:=qm h2;have v:k≠m:=by grind
  have P:m'≠o:=by grind
  have hmm:m'≠m:=by
   rintro rfl
   exact oI h (m:=m') (by rw[ek,bQ P,bD rfl]) (λk f=>hN k (by simp[f])) k hk' R c d i r' Y (by simp_all)
  exact a.lT k hk' R c d i m' r' S (by simp_all) (by simp_all[II,bQ])
mutual
def mz{g:Gh}{s:St}{w:World}(hs:aY g s w):∀(t:T){v:Value}{p:Prop}{d:D}{os:L Nat},BL s t=Z (p,d,os)->p->aI g w t v->
  (∀o∈os,Live g s o)/\∀(g':Gh)(s':St),aY g' s' w->Ext s.fl g w g' w->jF s s' os->dJ g'.bx w d v
 |.sym d,v,p,K,os,h,B,f=>by obtain⟨_,rfl,rfl⟩:=h;cases f with|sym _ _ y=>exact⟨λo l=>(by cases l),λg' s' _ A _=>y.ext A hs.bx⟩
 |.kb b,v,p,K,os,h,B,f=>by obtain⟨_,rfl,rfl⟩:=h;cases f;exact⟨λo l=>(by cases l),λg' s' _ A _=>.lit _⟩
 |.kn k n,v,p,K,os,h,B,f=>by obtain⟨_,rfl,rfl⟩:=h;cases f;exact⟨λo l=>(by cases l),λg' s' _ A _=>.lit _⟩
 |.emp,v,p,K,os,h,B,f=>by obtain⟨_,rfl,rfl⟩:=h;cases f with|emp a=>exact⟨λo l=>(by cases l),λg' s' _ A _=>.sl [] a 0 0 (λ_ _=>undef) (by simp) (by simp) (by simp) (λh=>absurd rfl h) (λi j d c h=>by simp at h)⟩
 |.kM n P,v,p,K,os,h,B,f=>by obtain⟨_,rfl,rfl⟩:=h;cases f with|kM _ _ a hn y=>exact⟨λo l=>(by cases l),λg' s' _ A _=>y.ext A hs.bx⟩
 |.qd j d,v,p,K,os,h,B,f=>by obtain⟨_,rfl,rfl⟩:=h;cases f with|qd _ _ c a hj y=>exact⟨λo l=>(by cases l),λg' s' _ A _=>(Bb hj y).ext A hs.bx⟩
 |.sC _ _ _ _,_,_,_,_,h,_,_=>by simp[BL]at h
 |.sh o e,v,p,K,os,h,B,f=>by
  cases f with
  |sh _ _ len cap sz a Q=>
  simp[BL]at h;split at h;rename_i z P era l;obtain⟨I,C⟩|⟨_,C⟩:=af h
  have E:=beq_iff'.1 I;obtain⟨_,rfl,rfl⟩:=C;clear h I;subst E;refine⟨λk R=>?_,λg' s' F A hf=>?_⟩;simp at R;subst R;exact⟨iS (hs.lt' Q) hs.aE,.inl ⟨e,_,Q,.inl ⟨J,z,P,l⟩⟩⟩;exact F.KR (hf.hit o (by simp) J z P e l) (A.arr _ _ _ Q);cases C;rename_i z P era l;obtain⟨I,C⟩|⟨_,C⟩:=af h
  have E:=beq_iff'.1 I;obtain⟨_,rfl,rfl⟩:=C;clear h I;subst E;exact⟨λk R=>(by cases R),λg' s' F A hf=>F.KR (hf.lM o z P e l) (A.arr _ _ _ Q)⟩;cases C;rename_i nj z P era m r l;split at h;rename_i iU hr;obtain⟨I,C⟩|⟨_,C⟩:=af h
  rw[eW]at I;have E:=beq_iff'.1 I.1;have hmN:m<bM:=gS I.2;obtain⟨_,rfl,rfl⟩:=C;clear h I;subst E;refine⟨λk R=>?_,λg' s' F A hf=>?_⟩;simp at R;obtain rfl|rfl:=R
  exact⟨iS (hs.lt' Q) hs.aE,.inl ⟨e,_,Q,.inr ⟨nj,z,P,m,r,Y,l⟩⟩⟩
  let ⟨szr,hm⟩:=qm hr
  exact⟨hmN,.inr (.inl ⟨szr,iU,r,hm⟩)⟩;exact F.KR (hf.lT o (by simp) nj z P e m r iU l hr) (A.arr _ _ _ Q);cases C;cases h;cases h
 |.dj t x,v,p,K,os,h,B,f=>by
  cases f with
  |dj _ _ u hu=>
  simp[BL]at h;split at h;rename_i q d os' y;obtain⟨rfl,rfl,rfl⟩:=h
  let ⟨h1,h2⟩:=mz hs x y B hu
  exact⟨h1,λg' s' a b c=>.dj _ _ _ (h2 g' s' a b c)⟩;cases h
 |.agg cs,v,p,K,os,h,B,f=>by
  cases f with
  |agg _ vs hl hr=>
  simp only[BL]at h;split at h;rename_i q ds os' y;obtain⟨rfl,rfl,rfl⟩:=h
  let ⟨h0,h1,h2⟩:=qF hs cs (vs:=vs.toList) y B.1 (by simpa using hl) (λj t v f S=>hr j t v f (by simpa using S))
  refine⟨h1,λg' s' a b c=>.agg _ _ (by rw[h0,hl]) (λd y=>by simp_all) (λj d v y S=>h2 g' s' a b c j d v y (by simpa using S))⟩;cases h
 |.gR cs,v,p,K,os,h,B,f=>by
  cases f with
  |gR _ vs hl hr=>
  simp[BL]at h;split at h;rename_i y;obtain⟨rfl,rfl,rfl⟩:=h
  let ⟨h0,h1,h2⟩:=qF hs cs (vs:=vs.toList) y B (by simpa using hl) (λj t v f S=>hr j t v f (by simpa using S))
  exact⟨h1,λg' s' a b c=>.gR _ _ (by rw[h0,hl]) (λj d v y S=>h2 g' s' a b c j d v y (by simpa using S))⟩;cases h
 |.ptr _ _,_,_,_,_,h,_,_=>by simp[BL]at h
 |.mc _ _,_,_,_,_,h,_,_=>by simp[BL]at h
 |.l9 _ _ _ _,_,_,_,_,h,_,_=>by simp[BL]at h
 |.fn _ _ _,_,_,_,_,h,_,_=>by simp[BL]at h
 |.gd _ _,_,_,_,_,h,_,_=>by simp[BL]at h
def qF{g:Gh}{s:St}{w:World}(hs:aY g s w):∀(ts:L T){vs:L Value}{p:Prop}{ds:L D}{os:L Nat},oq s ts=Z (p,ds,os)->p->ts.length=vs.length->
  (∀(j:Nat)(t:T)(v:Value),ts[j]?=Z t->vs[j]?=Z v->aI g w t v)->
  ds.length=ts.length/\(∀o∈os,Live g s o)/\∀(g':Gh)(s':St),aY g' s' w->Ext s.fl g w g' w->jF s s' os->
   ∀(j:Nat)(d:D)(v:Value),ds[j]?=Z d->vs[j]?=Z v->dJ g'.bx w d v
 |[],vs,p,ds,os,h,e,c,f=>by obtain⟨_,rfl,rfl⟩:=h;exact⟨rfl,λo ho=>(by cases ho),λg' s' _ _ _ j d v a=>by simp at a⟩
 |t::ts,vs,p,ds,os,h,e,c,f=>by
  simp[oq]at h;split at h
  .rename_i d i B l k h1 h2;simp only[gP,fC]at h;obtain⟨rfl,rfl,rfl⟩:=h
   match vs,c with
   |v::vs,c=>
    let ⟨a1,a2⟩:=mz hs t h1 e.1 (f 0 t v rfl rfl)
    let ⟨m,n,q⟩:=qF hs ts (vs:=vs) h2 e.2 (by simpa using c) (λj t v r b=>f (j+1) t v (by simpa using r) (by simpa using b))
    refine⟨by simp[m],λo ho=>?_,λg' s' x y z j d v a b=>?_⟩;obtain ho|ho:=eX.1 ho
    exact a1 o ho;exact n o ho;have u:jF s s' i:=z.sub (λo ho=>fS _ ho);have A:jF s s' k:=z.sub (λo ho=>eV _ ho);cases j with|zero=>simp at a b;subst a;subst b;exact a2 g' s' x y u|succ j=>exact q g' s' x y A j d v (by simpa using a) (by simpa using b)
  cases h
end
end
section
def PW{α β:Type}(R:α->β->Prop)(l:L α)(m:L β):Prop:=l.length=m.length/\∀(j:Nat)(a:α)(b:β),l[j]?=Z a->m[j]?=Z b->R a b
section
variable {α β:Type}{R:α->β->Prop}
def PW.append{l e:L α}{m f:L β}(h:PW R l m)(g:PW R e f):PW R (l++e) (m++f):=by refine⟨by simp[h.1,g.1],λj a b d c=>?_⟩;rw[tD]at d c;rw[<-h.1]at c;by_cases i:j<l.length;rw[bD i]at d c;exact h.2 j a b d c;rw[bQ i]at d c;exact g.2 _ a b d c
def PW.take{l:L α}{m:L β}(h:PW R l m)(n:Nat):PW R (l.take n) (m.take n):=by
 refine⟨by simp[h.1],λj a b c d=>?_⟩;rw[Jw]at c d;by_cases e:j<n;rw[bD e]at c d;exact h.2 j a b c d
 simp_all
theorem PW.drop{l:L α}{m:L β}(h:PW R l m)(n:Nat):PW R (l.drop n) (m.drop n):=by refine⟨by simp[h.1],λj a b c d=>?_⟩;rw[NR]at c d;exact h.2 _ a b c d
end
def Rb{l:L T}(h:leaves l):∀t∈l,t.leaf:=by
 induction l with
 |nil=>simp_all|cons a l c=>
  intro t b;obtain rfl|b:=fV.1 b
  exact h.1;exact c h.2 t b
variable {g:Gh}{w:World}{P:Program}{i:TI}
def PW.one{l:L T}{vs:L Value}(h:PW (aI g w) l vs)(hl:leaves l):∀v∈vs,v.oneCell'=W:=by
 intro v c;obtain⟨j,b,rfl⟩:=rQ c;have a:j<l.length:=by rw[h.1];exact b
 exact(UQ (Rb hl _ (NF a)) (h.2 j _ _ (iX a) (iX b))).1
def yF{t:TypeId}{x:TypeInfo}(hi:P.info? t=Z x)(w:World)(b off:Nat)(v:Value)(a:v.cells.size=x.size){vs:Array Value}{ty:TypeId}
  (c:w.heap[b]?=Z (.cells vs ty (0,0))) (hl:off+v.cells.size<=vs.size) (h1:∀u∈v.cells.toList,u.oneCell'=W) :
  (storeVar t ⟨b,off,Y⟩ v).run P w=.ok () (w.setRow b (vs.toList.take off++v.cells.toList++vs.toList.drop (off+v.cells.size)).toArray):=by
 have:=run_storeCells_at (P:=P) b off ty v.cells.toList 0 vs w c (by simpa using hl) h1
 simp_all[storeVar,dx]
def qx{t:T}{v:Value}{p:Prop}{cs:L T}(h:kJ i t=Z (p,cs))(c:p)(d:aI g w t v) :
  PW (aI g w) cs v.cells.toList/\cs.length=i.size:=by
 let ⟨h1,h2,h3,_⟩:=m8 h c d
 exact⟨⟨by simp[h1,h2],λj a b e f=>h3 j a b e (by simpa using f)⟩,h1⟩
def D.Pq{ds:L D}(h:ds.all D.leaf=W):∀d∈ds,d.leaf=W:=by simpa using h
def Lg(es:L D)(k i:Nat)(d a:D)(h:(y7 es k d)[i]?=Z a):(i=k/\k<es.length/\a=d)\/(i≠k/\es[i]?=Z a):=by
 unfold y7 at h
 grind
def KL{ty:TypeId}(hi:nu P ty i){s s':St}(hs:aY g s w){a x:T}{va vx:Value}(ha:aI g w a va)(hx:aI g w x vx)
  {p:Prop} {t:T} (h:storeT i s a x=Z (p,t,s')) (hp:p) :
  ∃w' g',(Instr.storeAt ty va vx).run P w=.ok () w'/\aY g' s' w'/\Ext s.fl g w g' w'/\t=S6:=by
 let ⟨xi,d0,z,Ol,hu,hsz,hag,_⟩:=hi.all
 unfold storeT at h;cases hc:kJ i x with
 |none=>simp[hc]at h|some q=>
  let ⟨q,l⟩:=q
  simp only[hc]at h;cases ha with
  |ptr o off b hb=>
   cases y:s.ob.get o with
   |none=>simp[y]at h|some ob=>
   simp only[y]at h;cases ob with
   |box cs=>
   let ⟨B,ety,hh,hl,hr⟩:=(hs.box o b hb).box y
   obtain⟨hn,h⟩|⟨_,h⟩:=af h
   simp only[eW]at hn;have hfl:=gS hn.1;have hlen:off+cH l<=cH cs:=gS hn.2;rw[bV,bV]at hlen;obtain⟨rfl,rfl,rfl⟩:=h
   let ⟨C,agH⟩:=qx hc hp.1 hx
   have A:vx.cells.size=l.length:=by simpa using C.1.symm
   have hcs:PW (aI g w) cs B.toList:=⟨by simpa using hl,λj a b h1 h2=>hr j a b h1 (by simpa using h2)⟩;have I:=yF (P:=P) Ol w b off vx (by rw[A,agH,hsz]) hh (by omega) (C.one hp.2);rw[A]at I;have hnew:PW (aI g w) (cs.take off++l++cs.drop (Na off (cH l))) (B.toList.take off++vx.cells.toList++B.toList.drop (off+l.length)):=by rw[bV];exact((hcs.take off).append C).append (hcs.drop _)
   let ⟨hs',he⟩:=hs.afH hb y hfl (cs':=cs.take off++l++cs.drop (Na off (cH l)))
    (vs':=(B.toList.take off++vx.cells.toList++B.toList.drop (off+l.length)).toArray) (by simpa using hnew.1) (λj t v h1 h2=>hnew.2 j t v h1 (by simpa using h2))
   exact⟨_,g,by simpa[Instr.storeAt,Instr.sureAddr]using I,hs',he,rfl⟩;cases h
   |_=>simp at h
  |l9 o e k off len cap sz ad ak2=>
   cases F:oq s l with
   |none=>simp[F]at h|some r=>
    let ⟨r,ds,os⟩:=r
    simp only[F]at h;cases K:freeze s os with
    |none=>simp[K]at h|some s1=>
    simp only[K]at h;cases y:s1.ob.get o with
    |none=>simp[y]at h|some ob=>
     cases ob with
     |box _=>simp[y]at h|lM _ _ _=>simp[y]at h|map _=>simp[y]at h|rO _ _=>simp[y]at h|lT _ _ _ _ _ _ _=>simp[y]at h|rws _ _ _=>simp[y]at h|gone=>simp[y]at h|Gl=>simp[y]at h|lp _=>simp[y]at h|Ab=>simp[y]at h|arr sz' es era=>
      simp only[y]at h;obtain⟨hn,h9⟩|⟨_,h9⟩:=af h
      simp only[eW]at hn
      let ⟨hfl,hee⟩:=hn
      have hfl:=gS hfl;have hee:=beq_iff'.1 hee;subst hee;simp only[gP,fC]at h9;obtain⟨rfl,rfl,rfl⟩:=h9
      let ⟨hp1,hp2,hp3,hp4,hp5,hp6,hp7⟩:=hp
      let ⟨C,agH⟩:=qx hc hp1 hx
      let ⟨b0,b1,b2⟩:=qF hs l F hp2 C.1 C.2
      let ⟨g1,Aa,he1,agL⟩:=eF os hs K b1
      have sG:=b2 g1 s1 Aa he1 agL;have hga:=he1.arr _ _ _ ak2;clear ak2;have arB:=agL.fl;clear b1 b2 F K agL
      let ⟨E,akv⟩:=Aa.nV (fz:=J) y hga
      change sz=sz' at akv;subst akv;have hk:=TU hp4;obtain⟨m,Q,n,aqG⟩:∃m,(jt es k).cells=m/\m.length=sz/\(off+ds.length<=sz->(D.Qr (jt es k) off ds).cells=m.take off++ds++m.drop (off+ds.length)):=by
       obtain hp5|⟨h1,h2,h3,h4⟩:=hp5
       let ⟨m,Q,n,hcf⟩:=zy hp5
       exact⟨m,by rw[Q];rfl,n,λ_=>by rw[Q];rfl⟩;rw[bV]at h4;obtain⟨d1,rfl⟩:=XG.1 h4;have hl1:=D.Pq hp3 d1 (by simp);have hc1:∀d:D,d.leaf=W->d.cells=[d]:=by intro d F;cases d<;>first|rfl|simp[D.leaf]at F
       refine⟨[jt es k],hc1 _ h1,h2.symm,λ_=>?_⟩;subst h3;have:D.Qr (jt es k) 0 [d1]=d1:=by generalize jt es k=q at h1;cases q<;>first|rfl|simp[D.leaf]at h1
       rw[this,hc1 _ hl1];rfl
      have hoff:off+ds.length<=sz:=by have:=gS hp6;rw[bV]at this;exact this
      have h1:=E.len;have h2:=E.cap;simp only at h1 h2
      let ⟨b,B,ety,hab,hfz,hh,R,S⟩:=E.mem (by simp only;omega)
      simp at hab;subst hab;have A:vx.cells.size=ds.length:=by rw[b0];simpa using C.1.symm
      have hbound:k*sz+sz<=B.size:=by have:(k+1)*sz<=cap*sz:=zl _ (by omega);rw[Nat.add_mul,Js]at this;exact gk this R
      have hone:∀u∈vx.cells.toList,u.oneCell'=W:=by
       intro u hu;obtain⟨j,hj,rfl⟩:=rQ hu;have hj':j<ds.length:=by rw[b0,C.1];exact hj
       exact(wD (D.Pq hp3 _ (NF hj')) (sG j _ _ (iX hj') (iX hj))).1
      have I:=yF (P:=P) Ol w b (k*sz+off) vx (by rw[A,b0,agH,hsz]) hh (by omega) hone;have zB:(⟨Z ⟨b,0,Y⟩,len,cap,sz⟩:fe).at b:=⟨_,rfl,rfl,by simp only;omega⟩;have hsc:=aqG hoff;have ac0:(B.toList.take (k*sz+off)++vx.cells.toList++B.toList.drop (k*sz+off+vx.cells.size)).length=B.size:=by simp[A];omega
      have agD:xD g1 (w.setRow b (B.toList.take (k*sz+off)++vx.cells.toList++B.toList.drop (k*sz+off+vx.cells.size)).toArray) J sz
        (y7 es k ((jt es k).Qr off ds)) ⟨Z ⟨b,0,Y⟩,len,cap,sz⟩:=by
       refine⟨by simp[y7,h1],h2,λd F=>?_,E.pos,λd F=>?_,λ_=>⟨b,_,ety,rfl,hfz,setRow_heap w b B _ ety _ hh,by simp only[Tt];rw[ac0];exact R,?_⟩⟩;obtain⟨j,hj,rfl⟩:=rQ F;obtain⟨rfl,_,he⟩|⟨_,he⟩:=Lg _ _ _ _ _ (iX hj)
       rw[he,hsc];simp[n];omega;exact E.rows _ (iA he);obtain⟨j,hj,rfl⟩:=rQ F;obtain⟨rfl,_,he⟩|⟨_,he⟩:=Lg _ _ _ _ _ (iX hj)
       rw[he,hp7];have hb:=E.W0 _ (iA (D.LU hk));simpa[y7]using hb;have hb:=E.W0 _ (iA he);simpa[y7]using hb;intro i d j c F hj;have f:∀(v:Value),B[i*sz+j]?=Z v->(i≠k/\j<sz\/i=k/\(j<off\/off+ds.length<=j))->
         (B.toList.take (k*sz+off)++vx.cells.toList++B.toList.drop (k*sz+off+vx.cells.size)).toArray[i*sz+j]?=Z v:=by
        intro v hv DH;have agR:i*sz+j<k*sz+off\/k*sz+off+ds.length<=i*sz+j:=by
         obtain⟨hik,hj⟩|⟨rfl,hj⟩:=DH
         obtain hik|hik:=Nat.lt_or_gt_of_ne hik
         have:(i+1)*sz<=k*sz:=zl _ hik;rw[Nat.add_mul,Js]at this
         left;omega
         have:(k+1)*sz<=i*sz:=zl _ hik;rw[Nat.add_mul,Js]at this
         right;omega
         obtain hj|hj:=hj
         left;omega
         right;omega
        rw[Tx,tD,tD];obtain hc1|hc1:=agR
        rw[bD (by simp[A];omega),bD (by simp;omega),Jw,bD hc1];simpa using hv;rw[bQ (by simp[A];omega),NR];have:k*sz+off+vx.cells.size+(i*sz+j-(List.take (k*sz+off) B.toList++vx.cells.toList).length)=i*sz+j:=by simp[A];omega
        rw[this];simpa using hv
       obtain⟨rfl,hlt,rfl⟩|⟨hik,F⟩:=Lg _ _ _ _ _ F
       rw[hsc]at hj;by_cases hin:off<=j/\j<off+ds.length;have hj2:ds[j-off]?=Z c:=by
        rw[tD,bD (by simp[n];omega),tD,bQ (by simp[n];omega)]at hj;have:j-(m.take off).length=j-off:=by simp[n];omega
        rwa [this]at hj
       have hlt2:j-off<vx.cells.size:=by omega
       refine⟨vx.cells[j-off],?_,?_⟩;rw[Tx,tD,bD (by simp[A];omega),tD,bQ (by simp;omega)];have:i*sz+j-(List.take (i*sz+off) B.toList).length=j-off:=by simp;omega
       rw[this];simp;have:=sG (j-off) c vx.cells[j-off] hj2 (by simp);exact this.ext (Ext.refl 0 g1 w) Aa.bx |>.mono (λb' hb'=>setRow_other w b b' _ (λe=>by subst e;exact Bool.noConfusion (hfz.2 hb'))) (λ_ h=>h)
       have hj2:m[j]?=Z c:=by
        rw[tD,tD]at hj;by_cases hlo:j<off;rw[bD (by simp[n];omega),bD (by simp[n];omega),Jw,bD hlo]at hj;exact hj;rw[bQ (by simp[n];omega),NR]at hj;have:off+ds.length+(j-(List.take off m++ds).length)=j:=by simp[n];omega
        rwa [this]at hj
       let ⟨v,hv,hr⟩:=S i (jt es i) j c (D.LU hlt) (by rw[Q];exact hj2)
       refine⟨v,f v hv (.inr ⟨rfl,by omega⟩),hr.mono (λb' hb'=>setRow_other w b b' _ (λe=>by subst e;exact Bool.noConfusion (hfz.2 hb'))) (λ_ h=>h)⟩
       let ⟨v,hv,hr⟩:=S i d j c F hj
       have yx:j<sz:=by rw[<-E.rows d (iA F)];exact cD hj
       exact⟨v,f v hv (.inl ⟨hik,yx⟩),hr.mono (λb' hb'=>setRow_other w b b' _ (λe=>by subst e;exact Bool.noConfusion (hfz.2 hb'))) (λ_ h=>h)⟩
      let ⟨hs',he⟩:=Aa.afQ y hga hfl zB agD
      refine⟨_,g1,?_,hs',he1.trans (arB▸he),rfl⟩;rw[nX];simpa[Instr.storeAt,Instr.sureAddr]using I;cases h9
  |_=>simp at h
end
section
variable {k:IntKind}{I:Nat->Prop}{d:D}{b a:T}{va vb:Value}{r:Bool}
def Cf{j:IntKind}(h:oU j k=W):j=k:=by cases j<;>cases k<;>first|rfl|cases h
section
variable {g:Gh}{w:World}{t:T}{v:Value}{p:Prop}
def VT(h:D.isInt k d=W)(a:dJ I w d v):v=.int k d.toInt:=by
 cases a with
 |lit v=>
  cases v with|int j n=>rw[Cf h];rfl|_=>cases h
 |_=>cases h
def GH(h:d.isBool=W)(a:dJ I w d v):v=.bool d.toBool:=by
 cases a with
 |lit v=>
  cases v with|bool b=>rfl|_=>cases h
 |_=>cases h
def VS(h:d.isStr=W)(a:dJ I w d v):v=.string d.toStr:=by
 cases a with
 |lit v=>
  cases v with|string b=>rfl|_=>cases h
 |_=>cases h
theorem dU{k:IntKind}{n:Int}(h:yq k t=Z (p,n))(a:p)(b:aI g w t v):v=.int k n:=by
 cases b with
 |kn j m=>
  obtain⟨c,h⟩|⟨_,h⟩:=af h
  simp only[gP,fC]at h;rw[Cf c,h.2];cases h
 |sym d v e=>obtain⟨rfl,rfl⟩:=h;exact VT a e
 |_=>simp[yq]at h
def jv{b:Bool}(h:Bl t=Z (p,b))(a:p)(e:aI g w t v):v=.bool b:=by
 cases e with
 |kb c=>simp only[Bl,gP,fC]at h;rw[h.2]|sym d v f=>obtain⟨rfl,rfl⟩:=h;exact GH a f
 |_=>simp[Bl]at h
def iK{b:ByteArray}(h:Ak t=Z (p,b))(a:p)(c:aI g w t v):v=.string b:=by
 cases c with
 |sym d v e=>obtain⟨rfl,rfl⟩:=h;exact VS a e
 |_=>simp[Ak]at h
def D.xR(h:d.aka=W):d=.sl d.afE:=by cases d<;>first|rfl|cases h
def Tf{s:St}(hs:aY g s w){es:L D}(h:BQ s t=Z (p,es))(x:p)(y:aI g w t v):∃a cap,v=.slice a es.length cap/\es.length<=cap:=by
 cases y with
 |emp a=>obtain⟨_,rfl⟩:=h;exact⟨a,0,rfl,by simp⟩
 |kM n b a C q=>obtain⟨_,rfl⟩:=h;exact⟨a,_,rfl,eO _⟩
 |qd j d c a E q=>obtain⟨_,rfl⟩:=h;exact⟨a,1,rfl,eO _⟩
 |sym d v q=>
  obtain⟨rfl,rfl⟩:=h;rw[D.xR x]at q;generalize d.afE=es at *
  cases q with|sl _ a cap sz val k=>exact⟨a,cap,rfl,k⟩
 |sh o e len cap sz a z=>
  simp[BQ]at h;have key:∀u f(b:L D)era,s.ob.get o=Z (ga u f b era)->(bif Nq e era then Z (True,b)else Y)=Z (p,es)->
    ∃A i,Value.slice a len cap=.slice A es.length i/\es.length<=i:=by
   intro u f b era l h;obtain⟨B,h⟩|⟨_,h⟩:=af h
   have r:=beq_iff'.1 B;obtain⟨_,rfl⟩:=h
   let ⟨m,_⟩:=hs.nV (r▸l) z
   have h1:=m.len;have h2:=m.cap;simp only at h1 h2;exact⟨a,cap,by rw[h1],by omega⟩;cases h
  split at h;rename_i f b era l;exact key J f b era l h;rename_i f b era l;exact key W f b era l h;cases h
 |_=>simp[BQ]at h
end
section
variable {P:Program}{g:Gh}{w:World}
def u7{x:T}{vx:Value}{q:Prop}{y:Bool}(h:I5 x=Z (q,y))(a:q)(f:aI g w x vx):vx=.bool y:=by
 cases f with
 |gd c t v e=>simp[I5]at h;split at h;rename_i h1;obtain⟨rfl,rfl⟩:=h;exact jv h1 a.2 (e a.1);cases h
 |kb b=>simp only[I5,gP,fC]at h;rw[h.2]|sym d v i=>obtain⟨rfl,rfl⟩:=h;exact GH a i
 |_=>simp[I5]at h
def NY{c:T}{i:Value}{p:Prop}{t:T}(h:Jy c a b=Z (p,t))(d:p)(j:aI g w c i)(k:aI g w a va)(l:aI g w b vb) :
  ∃u,i=.bool u/\aI g w t (if u then va else vb):=by
 unfold Jy at h;split at h;rename_i u;cases j;refine⟨u,rfl,?_⟩;split at h
 .rename_i e;obtain⟨rfl,rfl⟩:=h;cases u with|true=>rw[bD rfl,u7 e d k];exact .sym _ _ (.lit _)|false=>rw[bQ Bool.noConfusion,u7 e d l];exact .sym _ _ (.lit _)
 cases h;split at h
 .rename_i u n o q r m h1 h2;obtain⟨rfl,rfl⟩:=h;have f:=jv m d.1 j;refine⟨u,f,?_⟩;cases u with|true=>rw[u7 h1 (d.2.1 rfl) k];exact .sym _ _ (.lit _)|false=>rw[u7 h2 (d.2.2 rfl) l];exact .sym _ _ (.lit _)
 cases h
def A5{l:Lk}{p:Prop}(h:rA l a b=Z (p,r))(c:p)(d:aI g w a va)(e:aI g w b vb) :
  By l va/\By l vb/\r=Hi va vb:=by
 cases l with
 |int k=>simp[rA]at h;split at h;rename_i f x i y h1 h2;obtain⟨rfl,rfl⟩:=h;rw[dU h1 c.1 d,dU h2 c.2 e];exact⟨⟨_,rfl⟩,⟨_,rfl⟩,rfl⟩;cases h
 |bool=>simp[rA]at h;split at h;rename_i f x i y h1 h2;obtain⟨rfl,rfl⟩:=h;rw[jv h1 c.1 d,jv h2 c.2 e];exact⟨⟨_,rfl⟩,⟨_,rfl⟩,rfl⟩;cases h
 |str=>simp[rA]at h;split at h;rename_i h1 h2;obtain⟨rfl,rfl⟩:=h;rw[iK h1 c.1 d,iK h2 c.2 e];exact⟨⟨_,rfl⟩,⟨_,rfl⟩,rfl⟩;cases h
 |no=>simp[rA]at h
def wQ:∀(c:L Lk)(as bs:L T)(va vb:L Value){p:Prop}{r:Bool},kF c as bs=Z (p,r)->p->PW (aI g w) as va->PW (aI g w) bs vb->
  va.length=c.length/\vb.length=c.length/\(∀(j:Nat)(l:Lk)(v:Value),c[j]?=Z l->va[j]?=Z v->By l v)/\
   (∀(j:Nat)(l:Lk)(v:Value),c[j]?=Z l->vb[j]?=Z v->By l v)/\r=nR va vb
 |[],[],[],va,vb,p,r,h,f,d,e=>by simp only[kF,gP,fC]at h;have h1:va=[]:=Ek d.1.symm;have h2:vb=[]:=Ek e.1.symm;subst h1;subst h2;refine⟨rfl,rfl,λj l v h=>by simp at h,λj l v h=>by simp at h,h.2.symm⟩
 |l::c,a::as,b::bs,va,vb,p,r,h,f,d,e=>by
  simp[kF]at h;split at h
  .rename_i x B y h1 h2;simp only[gP,fC]at h;obtain⟨rfl,rfl⟩:=h
   match va,vb,d,e with
   |v::va,u::vb,d,e=>
    let ⟨C,E,m⟩:=A5 h1 f.1 (d.2 0 _ _ rfl rfl) (e.2 0 _ _ rfl rfl)
    let ⟨n,o,F,I,q⟩:=wQ c as bs va vb h2 f.2 ⟨by simpa using d.1,λj x y i k=>d.2 (j+1) x y (by simpa using i) (by simpa using k)⟩
     ⟨by simpa using e.1,λj x y i k=>e.2 (j+1) x y (by simpa using i) (by simpa using k)⟩
    refine⟨by simp[n],by simp[o],λj s t z A=>?_,λj s t z A=>?_,?_⟩
    grind
    grind
    rw[m,q];rfl
  cases h
 |[],[],_::_,_,_,_,_,h,_,_,_=>by simp[kF]at h
 |[],_::_,_,_,_,_,_,h,_,_,_=>by simp[kF]at h
 |_::_,[],_,_,_,_,_,h,_,_,_=>by simp[kF]at h
 |_::_,_::_,[],_,_,_,_,h,_,_,_=>by simp[kF]at h
def U4(d:Nat){ty e:TypeId}(b:P.underlying ty=Z (.pointer e))(a:Addr):(Op.equalIn (d+1) ty (.pointer Y) (.pointer (Z a))).run P w=.ok J w:=by simp only[Op.equalIn,run_bind,aL b,andThen_ok];rfl
def U5(d:Nat){ty e:TypeId}(b:P.underlying ty=Z (.pointer e))(a:Addr):(Op.equalIn (d+1) ty (.pointer (Z a)) (.pointer Y)).run P w=.ok J w:=by simp only[Op.equalIn,run_bind,aL b,andThen_ok];rfl
def U6(d:Nat){ty:TypeId}{a:Array (String×TypeId)}(b:P.underlying ty=Z (.interface a))(t:TypeId)(v:Value):(Op.equalIn (d+1) ty .nilIface (.iface t v)).run P w=.ok J w:=by simp only[Op.equalIn,run_bind,aL b,andThen_ok];rfl
def Jp(d:Nat){ty:TypeId}{a:Array (String×TypeId)}(b:P.underlying ty=Z (.interface a))(t:TypeId)(v:Value):(Op.equalIn (d+1) ty (.iface t v) .nilIface).run P w=.ok J w:=by simp only[Op.equalIn,run_bind,aL b,andThen_ok];rfl
def oa{ty:TypeId}(x y:Operand)(h1:binOp .eql ty va vb=(do pure (.bool (<-Op.equal ty va vb))))(h2:binOp .neq ty va vb=(do pure (.bool (!(<-Op.equal ty va vb)))))
  (c:∀op,(eqGuard op ty x y va vb).run P w=.ok () w) (a:(Op.equalIn (9999+1) ty va vb).run P w=.ok r w) :
  ((do eqGuard .eql ty x y va vb;binOp .eql ty va vb:Sem Value)).run P w=.ok (.bool r) w/\((do eqGuard .neq ty x y va vb;binOp .neq ty va vb:Sem Value)).run P w=.ok (.bool (!r)) w:=by
 have b:(Op.equal ty va vb).run P w=.ok r w:=a
 simp_all
def Hh{ty:TypeId}{i:TI}(hi:nu P ty i){p:Prop}(h:ZJ i a b=Z (p,r))(u:p)(o:aI g w a va)(s:aI g w b vb)(x y:Operand) :
  ((do eqGuard .eql ty x y va vb;binOp .eql ty va vb:Sem Value)).run P w=.ok (.bool r) w/\((do eqGuard .neq ty x y va vb;binOp .neq ty va vb:Sem Value)).run P w=.ok (.bool (!r)) w:=by
 let ⟨xi,d0,z,Ol,A,hsz,hag,hz,Cm,d⟩:=hi.all
 obtain⟨c,h⟩|⟨c,h⟩:=af h
 split at h;cases h;rename_i k ks qa as qb bs hk B C;simp only[fT,fC]at h;obtain⟨⟨q,r'⟩,he,rfl,rfl⟩:=h
 let ⟨F,_⟩:=qx B u.1 o
 let ⟨I,_⟩:=qx C u.2.1 s
 let ⟨_,_,_,f,_⟩:=m8 B u.1 o
 let ⟨_,_,_,t,_⟩:=m8 C u.2.1 s
 obtain⟨xs,rfl⟩:=f c;obtain⟨ys,rfl⟩:=t c
 let ⟨K,Q,R,S,m5⟩:=wQ (k::ks) as bs _ _ he u.2.2 F I
 simp only[Value.cells]at K Q R S m5;have hne:i.lks≠[]:=by rw[hk];simp
 rw[<-hk]at K Q R S;have key:∀op,_:=λop=>hi.eqs c hne w op x y xs ys (by simpa using K) (by simpa using Q) (λj l v h1 h2=>R j l v h1 (by simpa using h2)) (λj l v h1 h2=>S j l v h1 (by simpa using h2));refine⟨?_,?_⟩;rw[run_bind,(key .eql).1];simp only[andThen_ok,binOp,run_bind,(key .eql).2,m5];rfl;rw[run_bind,(key .neq).1];simp only[andThen_ok,binOp,run_bind,(key .neq).2,m5];rfl;cases h;split at h
 .rename_i l E;obtain⟨f,t,rfl⟩:=A5 h u o s;rw[E]at d;cases l with
  |int k=>obtain⟨m,rfl⟩:=f;obtain⟨n,rfl⟩:=t;simp[eqGuard,binOp,Op.intCmp,Hi,bne]
  |bool=>obtain⟨m,rfl⟩:=f;obtain⟨n,rfl⟩:=t;subst d;exact oa x y rfl rfl (λop=>by cases op<;>rfl) (run_equalIn_bool' w _ _ _ _ A)
  |str=>
   obtain⟨m,rfl⟩:=f;obtain⟨n,rfl⟩:=t
   simp_all[eqGuard,binOp,Op.stringOp,Hi,beq_toListBytes]
  |no=>exact f.elim
 rename_i E;rw[E]at d;obtain⟨e,rfl⟩:=d;unfold aeT at h;split at h
 .obtain ⟨_,rfl⟩:=h;cases o with
  |sym _ _ o=>
  cases o;cases s;exact oa x y rfl rfl (λop=>by cases op<;>rfl) (U4 _ A _)
 .obtain ⟨_,rfl⟩:=h;cases s with
  |sym _ _ s=>
  cases s;cases o;exact oa x y rfl rfl (λop=>by cases op<;>rfl) (U5 _ A _)
 cases h;rename_i E;rw[E]at d;obtain⟨e,rfl⟩:=d;unfold aeU at h;split at h
 .obtain ⟨_,rfl⟩:=h;cases o with
  |sym _ _ o=>
  cases o;cases s;exact oa x y rfl rfl (λop=>by cases op<;>rfl) (U6 _ A _ _)
 .obtain ⟨_,rfl⟩:=h;cases s with
  |sym _ _ s=>
  cases s;cases o;exact oa x y rfl rfl (λop=>by cases op<;>rfl) (Jp _ A _ _)
 cases h;cases h
end
end
section
section
variable {P:Program}{g:Gh}{w:World}
variable {i:TI}{a t:T}{va:Value}{p:Prop}{d:D}{s s':St}{k:Nat}
def RY{ty:TypeId}(hi:nu P ty i){op:BinOp}{b:T}{l:Value}(h:Me i op a b=Z (p,d))(c:p)(e:aI g w a va)(f:aI g w b l)(x y:Operand) :
  ∃v,((do eqGuard op ty x y va l;binOp op ty va l:Sem Value)).run P w=.ok v w/\aI g w (.sym d) v:=by
 unfold Me at h;split at h;simp only[fT,fC]at h;obtain⟨⟨q,r⟩,o,rfl,rfl⟩:=h;exact⟨_,(Hh hi o c e f x y).1,.sym _ _ (.lit _)⟩;simp only[fT,fC]at h;obtain⟨⟨q,r⟩,o,rfl,rfl⟩:=h;exact⟨_,(Hh hi o c e f x y).2,.sym _ _ (.lit _)⟩
 .rename_i t u;split at h
  .rename_i k F;split at h
   .rename_i A m B n h1 h2;cases j:Wn op k m n with
    |some C=>
     simp only[j,gP,fC]at h;obtain⟨rfl,rfl⟩:=h;rw[dU h1 c.1 e,dU h2 c.2 f];cases op<;>simp only[Wn,gP]at j<;>first
      |(cases j;done)
      |(
        subst j;refine⟨_,?_,.sym _ _ (.lit _)⟩;simp[eqGuard,binOp,Op.intCmp,Op.intArith,aD,br,aG,aZ,Im])
    |none=>
     simp only[j,fT,fC]at h;obtain⟨C,s,rfl,rfl⟩:=h;rw[dU h1 c.1 e,dU h2 c.2.1 f];have E:n≠0:=c.2.2;cases op<;>simp only[ZT,gP]at s<;>first
      |(cases s;done)
      |(
        subst s;refine⟨_,?_,.sym _ _ (.lit _)⟩;simp[eqGuard,binOp,Op.intDiv,E,Il,aa8])
   cases h
  split at h;rename_i A m B n h1 h2;obtain⟨rfl,rfl⟩:=h;rw[iK h1 c.1 e,iK h2 c.2.1 f];have z:m.size+n.size<=4611686018427387904:=c.2.2;refine⟨_,?_,.sym _ _ (.lit _)⟩;simp[eqGuard,binOp,Op.stringOp,SM];omega;cases h;cases h
def UM{op:UnOp}(h:unT i op a=Z (p,d))(c:p)(e:aI g w a va) :
  ∃v,(Op.unary op va).run P w=.ok v w/\aI g w (.sym d) v:=by
 unfold unT at h;split at h;simp only[fT,fC]at h;obtain⟨⟨q,r⟩,b,rfl,rfl⟩:=h;rw[jv b c e];exact⟨_,rfl,.sym _ _ (.lit _)⟩;simp only[fT,fC]at h;obtain⟨⟨q,r⟩,b,rfl,rfl⟩:=h;rw[dU b c e];refine⟨_,rfl,?_⟩;rw[show(0:Int)-r=-r from by omega];exact .sym _ _ (.lit _);cases h
def O3{src dst:TypeId}{j:TI}(hi:nu P src i)(u:nu P dst j)(h:Ke i j s a=Z (p,t,s'))(r:p)(m:aI g w a va) :
  ∃v,(convert src dst va).run P w=.ok v w/\aI g w t v/\s'=s:=by
 let ⟨_,d1,_,_,f,_,_,_,_,k⟩:=hi.all
 let ⟨_,d2,_,_,l,_,_,_,_,c⟩:=u.all
 unfold Ke at h;split at h;rename_i d e;simp only[fT,fC]at h;obtain⟨⟨q,n⟩,x,rfl,rfl,rfl⟩:=h;rw[d]at k;rw[e]at c;subst c;rw[dU x r m];exact⟨_,by simp[convert,aL f,aL l,Conv.intToInt];rfl,.sym _ _ (.lit _),rfl⟩;rename_i d e;simp only[fT,fC]at h;obtain⟨⟨q,b⟩,y,rfl,rfl,rfl⟩:=h;rw[d]at k;rw[e]at c;subst c;have o:=iK y r m;subst o;exact⟨_,by simp[convert,aL f,aL l],m,rfl⟩;cases h
def He(h:tT s k a=Z (p,t,s'))(f:p)(i:aI g w a va) :
  ∃v,(Instr.extract va k).run P w=.ok v w/\aI g w t v/\s'=s:=by
 cases i with
 |gR o b j e=>
  simp only[tT,kr,fT,fC]at h;obtain⟨q,l,_,rfl,rfl⟩:=h;have c:k<b.size:=by grind
  refine⟨b[k],by simp[Instr.extract,uB c],e k _ _ l (uB c),rfl⟩
 |sym d v m=>
  obtain⟨rfl,rfl,rfl⟩:=h;cases m with
  |gR ds b j e=>
   have n:k<ds.length:=by
    have:Nt k (cH ds)=W:=f
    simp_all[bV]
   have c:k<b.size:=by omega
   refine⟨b[k],by simp_all[Instr.extract],.sym _ _ ?_,rfl⟩;refine e k _ _ ?_ (uB c)
   grind[D.proj]
  |_=>cases f
 |_=>simp[tT]at h
def add_zero'(a:Addr):a.add 0=a:=by rfl
def Cs{ty:TypeId}(hi:nu P ty i)(h:rz i s k a=Z (p,t,s'))(u:aI g w a va) :
  ∃v,(Instr.fieldAt ty va k).run P w=.ok v w/\aI g w t v/\s'=s:=by
 let ⟨_,d1,_,_,x,_,_,_,_,l⟩:=hi.all
 unfold rz at h;split at h;rename_i n;rw[n]at l;obtain⟨fields,rfl,y,z⟩:=l;split at h;rename_i off size A r;rw[kr]at r
 let ⟨f,j,d',B,C,E,F,_⟩:=z k off size A r
 obtain⟨_,h⟩|⟨h0,h⟩:=af h
 cases h
 .have I:j.size≠0:=by
   intro e
   simp_all
  have c:∀m,(Instr.fieldAt ty (.pointer (Z m)) k).run P w=.ok (.pointer (Z (m.add off))) w:=by
   simp_all[Instr.fieldAt,Instr.sureAddr,aL,fieldPlace,dx]
  cases u with
  |ptr o b bl K=>obtain⟨_,rfl,rfl⟩:=h;refine⟨_,c _,?_,rfl⟩;rw[nX];exact .ptr _ _ _ K
  |mc d b m val q Q R=>obtain⟨_,rfl,rfl⟩:=h;refine⟨_,c _,?_,rfl⟩;rw[ug];exact .mc _ _ _ _ q Q R
  |l9 o e j' b len cap sz m S=>obtain⟨_,rfl,rfl⟩:=h;refine⟨_,c _,?_,rfl⟩;rw[ug,Nat.add_assoc];exact .l9 _ _ _ _ _ _ _ _ S
  |_=>simp at h
 cases h;cases h
def No{t:TypeId}{x:TypeInfo}{d:TypeDesc}(hi:P.info? t=Z x)(a:P.underlying t=Z d)(vs:Array Value)(off:Nat)(hl:off+x.size<=vs.size)(h1:ec d=J->x.size=1) :
  (part t vs off).run P w=.ok (if ec d then .agg ((vs.toList.drop off).take x.size).toArray else((vs.toList.drop off).take x.size).headD undef) w:=by
 simp only[part,run_bind,ux a,andThen_ok];cases b:ec d with
 |true=>
  simp only[ki,run_bind,dx hi,andThen_ok,run_pure]
  congr 2
  grind
 |false=>
  have e:=h1 b;have c:off<vs.size:=by omega
  simp_all[TA]
def LN{ty:TypeId}(hi:nu P ty i)(h:GX i s k a=Z (p,t,s'))(z:p)(A:aI g w a va) :
  ∃v,(Instr.field ty va k).run P w=.ok v w/\aI g w t v/\s'=s:=by
 let ⟨_,d1,_,_,I,B,c,_,_,d⟩:=hi.all
 unfold GX at h;split at h;rename_i o;rw[o]at d;obtain⟨fields,rfl,K,Q⟩:=d;split at h;rename_i off size R q cs C E;rw[kr]at C
 let ⟨f,j,d',S,hf2,r,hf4,u,hf6⟩:=Q k off size R C
 obtain⟨hl,h⟩|⟨_,h⟩:=af h
 have l:=beq_iff'.1 (zk.1 hl).1;rw[bV]at l;simp only[fT,fC]at h;obtain⟨t',ht,rfl,rfl,rfl⟩:=h
 let ⟨m,F⟩:=qx E z A
 let ⟨_,_,_,x,_⟩:=m8 E z A
 obtain⟨y,rfl⟩:=x (by rw[c];rfl);simp[Value.cells]at m;have b:=(m.drop off).take size
 let ⟨n,h1⟩:=xL (g:=g) (w:=w) ht b.1 b.2
 have hlv:((y.toList.drop off).take size).length=size:=by rw[<-b.1,l]
 have hs0:size≠0:=by
  intro e
  simp_all
 have hle:off+size<=y.size:=by
  grind
 refine⟨_,?_,n,rfl⟩;have hr:=No (P:=P) (w:=w) r u y off (by omega) (λhd=>by
  grind)
 simp_all[Instr.field,aL,asAgg]
 cases h;cases h;cases h
end
end
section
section
variable {P:Program}{g:Gh}{w:World}
def Dh{ty e:TypeId}{j:TypeInfo}(b:P.underlying ty=Z (.slice e))(c:P.info? e=Z j)(a:Addr)(len cap:Nat)(n:Int)(h:0<=n/\n<len) :
  (Instr.indexAt ty (.slice (Z a) len cap) (.int .i64 n)).run P w=.ok (.pointer (Z (a.add (n.toNat *j.size)))) w:=by
 simp[Instr.indexAt,asIntOf,aL b,dx c,h]
variable {s s':St}{t x ix:T}{p:Prop}{i:TI}{vx vi:Value}
def Ng(hs:aY g s w){v:Value}{es:L D}(h:BQ s t=Z (p,es))(C:p)(E:aI g w t v)
  (hf:freeze s (tI t)=Z s') :
  ∃g',aY g' s' w/\Ext s.fl g w g' w/\s'.fl=s.fl/\s'.aE=s.aE/\dJ g'.bx w (.sl es) v:=by
 cases E with
 |emp a=>
  simp only[BQ,gP,fC]at h;simp[tI,freeze,gP]at hf;subst hf;exact⟨g,hs,Ext.refl _ _ _,rfl,rfl,by
   rw[<-h.2];exact .sl [] a 0 0 (λ_ _=>undef) (by simp) (by simp) (by simp) (λh=>absurd rfl h) (λi j d c h=>by simp at h)⟩
 |kM n f a K l=>simp[tI,freeze,gP]at hf;subst hf;obtain⟨_,rfl⟩:=h;exact⟨g,hs,Ext.refl _ _ _,rfl,rfl,l⟩
 |qd j d c a F l=>simp[tI,freeze,gP]at hf;subst hf;obtain⟨_,rfl⟩:=h;exact⟨g,hs,Ext.refl _ _ _,rfl,rfl,Bb F l⟩
 |sym d v l=>simp[tI,freeze,gP]at hf;subst hf;obtain⟨rfl,rfl⟩:=h;rw[D.xR C]at l;exact⟨g,hs,Ext.refl _ _ _,rfl,rfl,l⟩
 |sh o e len cap sz a y=>
  have key:∀m b(f:L D)era,s.ob.get o=Z (ga m b f era)->(bif Nq e era then Z (True,f)else Y)=Z (p,es)->
    s.ob.get o=Z (ga m b es e):=by
   intro m b f era q h;obtain⟨I,h⟩|⟨_,h⟩:=af h
   have z:=beq_iff'.1 I;simp only[gP,fC]at h;rw[q,h.2,z];cases h
  have u:∃m b,s.ob.get o=Z (ga m b es e):=by simp[BQ]at h;split at h;rename_i b f era q;exact⟨_,_,key J b f era q h⟩;rename_i b f era q;exact⟨_,_,key W b f era q h⟩;cases h
  let ⟨m,b,q⟩:=u
  let ⟨g',x,A,r⟩:=eF [o] hs hf (λk B=>by
   simp at B;subst B;exact⟨iS (hs.lt' y) hs.aE,.inl ⟨e,_,y,.inl ⟨m,b,es,q⟩⟩⟩)
  have l:=x.KR (r.hit o (by simp) m b es e q) (A.arr _ _ _ y);exact⟨g',x,A,r.fl,r.aE,l⟩
 |_=>simp[BQ]at h
theorem xV{I:Nat->Prop}{es:L D}{v:Value}(h:dJ I w (.sl es) v):∃a cap,v=.slice a es.length cap/\es.length<=cap/\(∀d∈es,es.length*d.sP<=281474976710656)/\(es≠[]->∃ad sz,a=Z ad/\(∀d∈es,d.cells.length=sz)/\I ad.block/\
  ∃val:Nat->Nat->Value,(∀i j d c,es[i]?=Z d->d.cells[j]?=Z c->w.cell? (ad.add (i*sz+j))=Z (val i j))/\
   (∀i j d c,es[i]?=Z d->d.cells[j]?=Z c->dJ I w c (val i j))):=by
 cases h with
 |sl _ a cap sz val b e f k l=>
  refine⟨a,cap,rfl,b,f,λg=>?_⟩
  let ⟨ad,h1,h2,h3⟩:=k g
  exact⟨ad,sz,h1,e,h2,val,h3,l⟩
def HM{ty:TypeId}(hi:nu P ty i){n sz:Nat}{ag:Bool}(c:i.kd=.array n sz ag)(h:Bq n sz s x ix=Z (p,t,s'))
  (o:aI g w x vx) (d:aI g w ix vi):∃v,(Instr.indexAt ty vx vi).run P w=.ok v w/\aI g w t v/\s'=s:=by
 let ⟨_,d1,_,_,f,_,_,_,_,a⟩:=hi.all
 rw[c]at a;obtain⟨e,j,B,rfl,q,l,_,_⟩:=a;unfold Bq at h;split at h;rename_i b k;obtain⟨r,h3⟩|⟨_,h3⟩:=af h
 .obtain ⟨_,rfl,rfl⟩:=h3;have u:k<n:=gS r;cases d with
  |kn _ _=>
  cases o with
  |mc _ _ y val m z A=>
  refine⟨.pointer (Z ((y.add b).add (k*sz))),?_,?_,rfl⟩;simp[Instr.indexAt,Instr.sureAddr,asIntOf,aL f,dx q,l,u];rw[ug];exact .mc _ _ _ _ m z A
 cases h3;cases h
def Cj{ty:TypeId}(hi:nu P ty i)(hs:aY g s w)(h:kD i s x ix=Z (p,t,s'))(A:p)
  (hx:aI g w x vx) (B:aI g w ix vi):∃v,(Instr.indexAt ty vx vi).run P w=.ok v w/\aI g w t v/\s'=s:=by
 let ⟨_,d1,_,_,S,_,_,_,_,Oq⟩:=hi.all
 unfold kD at h;split at h;rename_i sz ag bt zero q n C hn;rw[C]at Oq;obtain⟨e,j,d',z,rfl,hj,yx,_,_,_,_,_,hpos,_⟩:=Oq;have gen:∀{r:L D}{q':Prop},BQ s x=Z (q',r)->q'->lX n (eN r)->(jt r (Ei n)).wide sz->(∀o e,x≠.sh o e)->q->∃v,(Instr.indexAt ty vx vi).run P w=.ok v w/\aI g w (.mc (jt r (Ei n)) 0) v:=by
  intro r q' f hq' u hw l hq;have E:=dU hn hq B;subst E;have F:n.toNat<r.length:=by have h1:=u.1;have h2:=u.2;unfold eN at h2;omega
  have hne:r≠[]:=by intro e;rw[e]at F;simp at F
  have hd':dJ g.bx w (.sl r) vx:=by
   cases hx with
   |sym d v hd=>obtain⟨rfl,rfl⟩:=f;rw[<-D.xR hq'];exact hd
   |kM m es' a hm hd=>obtain⟨_,rfl⟩:=f;exact hd
   |emp a=>simp only[BQ,gP,fC]at f;exact absurd f.2.symm hne|qd j d c a hj hd=>obtain⟨_,rfl⟩:=f;exact Bb hj hd
   |sh o e len cap sz a hx=>exact absurd rfl (l o e)|_=>simp[BQ]at f
  obtain⟨a,cap,rfl,hcap,_,I⟩:=xV hd';obtain⟨ad,y,rfl,K,VW,val,hc,hr⟩:=I hne;have Q:=D.LU F;have YZ:y=sz:=by have h1:=K (jt r n.toNat) (iA Q);exact h1.symm.trans hw
  subst YZ;refine⟨_,Dh S hj ad _ _ n ⟨u.1,?_⟩,?_⟩;have:=u.2;exact this;rw[yx,<-add_zero' (ad.add (n.toNat *y))];refine .mc _ 0 (ad.add (n.toNat *y)) (val n.toNat) (by rw[lg];exact VW) (λk c hk=>?_) (λk c hk=>hr _ _ _ _ Q hk);rw[ug];exact hc _ _ _ _ Q hk
 split at h;rename_i o e';split at h;rename_i r LK;obtain⟨hb,h3⟩|⟨_,h3⟩:=af h
 .have hzz:=beq_iff'.1 hb;obtain⟨rfl,rfl,rfl⟩:=h3;clear h hb;subst hzz;have E:=dU hn A.1 B;subst E;cases hx with
  |sh _ _ len cap y a hxa=>
  let ⟨fz,ho⟩:=Kp LK
  let ⟨R,K⟩:=hs.nV ho hxa
  subst K;have h1:=A.2.1;have h2:=A.2.2;unfold eN at h2;have hl:=R.len;have hc:=R.cap;simp only at hl hc
  let ⟨b,vs,ety,hab,_⟩:=R.mem (by simp only;omega)
  subst hab;refine⟨_,Dh S hj _ _ _ n ⟨h1,by omega⟩,?_,rfl⟩;rw[yx];exact .l9 o e' n.toNat 0 _ _ _ _ hxa
 cases h3;cases h;rename_i l;split at h;rename_i f;obtain⟨rfl,rfl,rfl⟩:=h
 let ⟨v,h1,h2⟩:=gen f A.2.1 A.2.2.1 A.2.2.2 (λo e he=>l o e he) A.1
 exact⟨v,h1,h2,rfl⟩;cases h;rename_i C;exact HM hi C h hx B;cases h
def get!_some{b:ByteArray}{k:Nat}(h:k<b.size):b[k]?=Z (b.get! k):=by
 rw[getElem?_pos b k h]
 congr 1
 show b.data[k]=b.data[k]!;rw[getElem!_pos b.data k h]
def LD{ty:TypeId}(hi:nu P ty i)(h:GK i s x ix=Z (p,t,s'))(b:p)
  (f:aI g w x vx) (c:aI g w ix vi):∃v,(Instr.index ty vx vi).run P w=.ok v w/\aI g w t v/\s'=s:=by
 let ⟨_,d1,_,_,d,_,_,_,_,a⟩:=hi.all
 unfold GK at h;split at h;rename_i e j k;rw[e]at a;subst a;obtain⟨rfl,rfl,rfl⟩:=h;rw[dU j b.1 c,iK k b.2.1 f];have h1:=b.2.2.1;have h2:=b.2.2.2;unfold vC at h2;refine⟨_,?_,.sym _ _ (.lit _),rfl⟩;simp[Instr.index,asIntOf,run_bind,run_pure,andThen_ok,aL d];rw[bD h1,get!_some (by omega)];rfl;cases h
def s7{zero:L D}{cells:Array Value}(h:ZOk zero cells):(zero.map qP).length=cells.size/\
  ∀(j:Nat)(t:T)(v:Value),(zero.map qP)[j]?=Z t->cells[j]?=Z v->aI g w t v:=by
 refine⟨by simpa using h.1,λj t v h1 h2=>?_⟩;simp at h1;obtain⟨d,a,rfl⟩:=h1;obtain⟨rfl,rfl⟩|rfl:=h.2 j d v a h2
 exact .emp Y;unfold qP;split;rename_i heq;simp at heq;subst heq;exact .kb _;rename_i heq;simp at heq;subst heq;exact .kn _ _
 simp_all
 exact .sym _ _ (.lit _)
def I3{ty xt:TypeId}(hi:nu P ty i){ok:Bool}(h:sk i s ty ok x=Z (p,t,s'))
  (E:aI g w x vx) :
  ∃v,(Instr.typeAssert vx xt ty ok).run P w=.ok v w/\aI g w t v/\s'=s:=by
 let ⟨I,d1,z,c,K,_,Q,d,f,R⟩:=hi.all
 let ⟨m,n⟩:=hi.zag I z c d
 have S:i.kd≠.iface->∀o,P.underlying ty≠Z (.interface o):=λl o q=>l (hi.nif o q);unfold sk at h;have a:i.kd≠.iface->∀u v,(Instr.typeAssert (.iface u v) xt ty ok).run P w=((if u=ty then pure (if ok then .tuple #[v,.bool W]else v)else
   if ok then do pure (.tuple #[<-zeroValue ty,.bool J])else runtimePanic (.typeAssertion (Z xt) (Z u) ty "")):Sem Value).run P w:=by
  simp_all[Instr.typeAssert,aL]
 split at h;cases h
 .rename_i u v l;cases E with
  |dj _ _ vv hv=>
  obtain⟨k,h⟩|⟨k,h⟩:=af h
  .have r:=beq_iff'.1 k;simp only[gP,fC]at h;obtain⟨_,rfl,rfl⟩:=h;clear k;subst r;refine⟨_,by rw[a l,bD rfl];rfl,.gR _ _ rfl (λj t v h1 h2=>?_),rfl⟩
   match j with
   |0=>simp_all|1=>simp at h1 h2;subst h1;subst h2;exact .kb _|j+2=>simp at h1
  have y:u≠ty:=λe=>by
   simp_all
  simp only[fT,fC]at h;obtain⟨tz,A,_,rfl,rfl⟩:=h
  let ⟨B,b⟩:=s7 (g:=g) (w:=w) f
  have F:aI g w tz z:=by
   obtain⟨C,rfl⟩|⟨C,q⟩:=Gc A
   obtain⟨vs,rfl⟩:=m C;exact .agg _ _ B b;have:=n C;rw[q,this]at b;exact b 0 _ _ rfl rfl
  refine⟨_,by rw[a l,bQ y];simp only[ki,run_bind,er c d,andThen_ok,run_pure];rfl,.gR _ _ rfl (λj t v h1 h2=>?_),rfl⟩
  match j with
  |0=>grind|1=>simp at h1 h2;subst h1;subst h2;exact .kb _|j+2=>simp at h1
 .cases E with
  |dj _ _ vv hv=>
  obtain⟨k,h⟩|⟨k,h⟩:=af h
  simp_all
  cases h
 cases h
end
end
section
section
variable {P:Program}{g:Gh}{w:World}
inductive Su(g:Gh)(w:World):Option T->Option Value->Prop where
 |no:Su g w Y Y|yes (t:T) (v:Value) (h:aI g w t v):Su g w (Z t) (Z v)
variable {l:Option T}{p:Prop}{low:Option Value}{lo hi:Int}{s s':St}{x t:T}{vx:Value}
def kZ{dflt n:Int}{v:O Value}(h:w5 dflt l=Z (p,n))(a:p)(b:Su g w l v) :
  (v=Y/\l=Y/\n=dflt)\/(v=Z (.int .i64 n)/\∃t,l=Z t):=by
 cases b with|no=>simp only[w5,gP,fC]at h;exact .inl ⟨rfl,rfl,h.2.symm⟩|yes t v c=>exact .inr ⟨by rw[dU h a c],t,rfl⟩
def run_sliceBound(n:Int)(y:Nat)(code:BoundsCode)(h:0<=n/\n<=y):(Instr.sliceBound (.int .i64 n) y code).run P w=.ok n.toNat w:=by simp[Instr.sliceBound,asIntOf,h]
def nI(a:Bool)(len cap:Nat){high:O Value}(hl:(low=Y/\lo=0)\/low=Z (.int .i64 lo))(b:(high=Y/\hi=len)\/high=Z (.int .i64 hi))
  (c:0<=lo) (h1:lo<=hi) (h2:hi<=cap):(Instr.sliceBounds a len cap low high Y).run P w=.ok (lo.toNat,hi.toNat,cap) w:=by
 obtain⟨rfl,rfl⟩|rfl:=hl<;>obtain⟨rfl,rfl⟩|rfl:=b
 rfl
 simp_all[Instr.sliceBounds,run_sliceBound]
 simp_all[Instr.sliceBounds,run_sliceBound]
 simp[Instr.sliceBounds,run_sliceBound hi cap _ ⟨by omega,h2⟩,run_sliceBound lo hi.toNat _ ⟨c,by omega⟩]
def tw(a:Bool)(len cap:Nat){b:Int}(hl:(low=Y/\lo=0)\/low=Z (.int .i64 lo))
  (c:0<=lo) (h1:lo<=hi) (h2:hi<=b) (h3:b<=cap):(Instr.sliceBounds a len cap low (Z (.int .i64 hi)) (Z (.int .i64 b))).run P w=.ok (lo.toNat,hi.toNat,b.toNat) w:=by
 obtain⟨rfl,rfl⟩|rfl:=hl
 simp[Instr.sliceBounds,run_sliceBound b cap _ ⟨by omega,h3⟩,run_sliceBound hi b.toNat _ ⟨by omega,by omega⟩];simp[Instr.sliceBounds,run_sliceBound b cap _ ⟨by omega,h3⟩,run_sliceBound hi b.toNat _ ⟨by omega,by omega⟩,run_sliceBound lo hi.toNat _ ⟨c,by omega⟩]
def OW{I:Nat->Prop}{es:L D}{a:O Addr}{len cap sz:Nat}(h:dJ I w (.sl es) (.slice a len cap))(n:jH es sz)(z:y8 lo hi (eN es))
  (m:Nat) (F:hi.toNat<=m) (u:m<=cap) :
  (pI es lo hi).length=hi.toNat-lo.toNat/\dJ I w (.sl (pI es lo hi)) (.slice (if m=lo.toNat then a else a.map (·.add (lo.toNat *sz))) (hi.toNat-lo.toNat) (m-lo.toNat)):=by
 let ⟨K,v,A,x,q,g⟩:=xV h
 obtain⟨rfl,rfl,rfl⟩:=A
 let ⟨P,h1,h2⟩:=z
 unfold eN at h2;have b:(pI es lo hi).length=hi.toNat-lo.toNat:=by simp[pI];omega
 refine⟨b,?_⟩;have ek:∀i d,(pI es lo hi)[i]?=Z d->es[lo.toNat+i]?=Z d:=by
  grind[pI]
 have e:∀d∈pI es lo hi,d∈es:=λd f=>Ve (List.mem_of_mem_drop f);rw[<-b];by_cases k:es=[];subst k;have:pI [] lo hi=[]:=by simp[pI]
 rw[this];exact .sl [] _ _ sz (λ_ _=>undef) (by simp) (by simp) (by simp) (λh=>absurd rfl h) (λi j d c h=>by simp at h);obtain⟨B,l,rfl,o,r,val,s,C⟩:=g k;have t:l=sz:=by obtain⟨d,ds,rfl⟩:=TB k;rw[<-o d (by simp),n d (by simp)]
 subst t;refine .sl _ _ _ l (λi j=>val (lo.toNat+i) j) (by omega) (λd f=>n d (e d f)) (λd f=>gk (zl _ (by omega)) (q d (e d f))) (λp=>?_) (λi j d c f y=>C _ _ _ _ (ek i d f) y);have E:0<(pI es lo hi).length:=Vd.2 p;refine⟨B.add (lo.toNat *l),by grind,by rw[lg];exact r,λi j d c f y=>?_⟩
 grind[ug]
def KP{ty:TypeId}{i:TI}(hi:nu P ty i)(hs:aY g s w){h m:O T}{vl vh vm:O Value}
  (c:qG i s x l h m=Z (p,t,s')) (R:p) (hx:aI g w x vx) (hl:Su g w l vl) (hh:Su g w h vh) (hm:Su g w m vm) :
  ∃g' v,(Instr.sliceAt ty vx vl vh vm).run P w=.ok v w/\aY g' s' w/\Ext s.fl g w g' w/\aI g' w t v/\s'.fl=s.fl/\s'.aE=s.aE:=by
 let ⟨_,d1,_,_,LG,_,_,_,_,I⟩:=hi.all
 unfold qG at c;split at c;rename_i p0 lo S hlo;rw[S]at I;subst I;split at c;rename_i q b hb;split at c;rename_i r o u;obtain⟨rfl,rfl,rfl⟩:=c
 let ⟨c0,c1,c2⟩:=R.2.2.2
 rw[iK hb R.2.1 hx];cases hm;refine⟨g,_,?_,hs,Ext.refl _ _ _,.sym _ _ (.lit _),rfl,rfl⟩;have A:=kZ hlo R.1 hl;have d:=kZ u R.2.2.1 hh;have B:=nI (P:=P) (w:=w) J b.size b.size (A.imp (λh=>⟨h.1,h.2.2⟩) (·.1)) (d.imp (λh=>⟨h.1,h.2.2⟩) (·.1)) c0 c1 c2
 simp_all[Instr.sliceAt,Instr.slice,aL,MI]
 cases c;cases c;rename_i sz ag bt zero p0 lo S hlo;rw[S]at I;obtain⟨e,j,d',z,rfl,hj,yx,_,_,_,_,_,hpos,_⟩:=I;split at c;rename_i es s1 Qo hfr;have A:=λf=>kZ hlo f hl;split at c;rename_i r o u;obtain⟨rfl,rfl,rfl⟩:=c;cases hm
 let ⟨f,hq,hr,k,C⟩:=R
 let ⟨g',hs',E,hfl,F,hd⟩:=Ng hs Qo hq hx hfr
 obtain⟨a,cap,rfl,K,_⟩:=xV hd
 let ⟨c0,c1,c2⟩:=C
 unfold eN at c2;have d:=kZ u hr hh
 let ⟨_,n⟩:=OW hd k ⟨c0,c1,c2⟩ cap (by omega) (eO _)
 refine⟨g',_,?_,hs',E,.sym _ _ n,hfl,F⟩;have B:=nI (P:=P) (w:=w) W es.length cap ((A f).imp (λh=>⟨h.1,h.2.2⟩) (·.1)) (d.imp (λh=>⟨h.1,h.2.2⟩) (·.1)) c0 c1 (by omega:o<=cap);simp only[Instr.sliceAt,Instr.slice,run_bind,aL LG,andThen_ok,dx hj,yx,B];rfl
 .rename_i o y th u;cases hm with
  |yes _ vy hy=>
  split at c;obtain⟨rfl,rfl,rfl⟩:=c
  let ⟨f,hq,hr,e1,e2⟩:=R
  obtain⟨a,cap,rfl,K⟩:=Tf hs Qo hq hx;have d:=kZ u hr hh;cases hy;obtain⟨_,h',_⟩|⟨hv,_⟩:=d
  cases h';have z1:o=0:=e2;refine⟨g,_,?_,hs,Ext.refl _ _ _,.emp a,rfl,rfl⟩;have B:=tw (P:=P) (w:=w) W es.length cap ((A f).imp (λh=>⟨h.1,h.2.2⟩) (·.1)) (by omega) (by omega:lo<=o) (by omega:o<=0) (by omega)
  simp_all[Instr.sliceAt,Instr.slice,aL,dx]
  simp only[fT,fC]at c;obtain⟨⟨t',mx⟩,hmx,rfl,rfl,rfl⟩:=c;obtain⟨f,hq,hr,ht,k,C,rfl⟩:=R
  let ⟨g',hs',E,hfl,F,hd⟩:=Ng hs Qo hq hx hfr
  obtain⟨a,cap,rfl,K,_⟩:=xV hd
  let ⟨c0,c1,c2⟩:=C
  unfold eN at c2;have d:=kZ u hr hh
  let ⟨Q,n⟩:=OW hd k ⟨c0,c1,c2⟩ mx.toNat (eO _) (by omega)
  rw[dU hmx ht hy];obtain⟨_,h',_⟩|⟨hv,_⟩:=d
  cases h';subst hv;rw[<-Q]at n;refine⟨g',.slice (if mx.toNat=lo.toNat then a else a.map (·.add (lo.toNat *sz))) (pI es lo mx).length (pI es lo mx).length,?_,hs',E,.kM 0 _ _ (FP _) n,hfl,F⟩;have B:=tw (P:=P) (w:=w) W es.length cap ((A f).imp (λh=>⟨h.1,h.2.2⟩) (·.1)) c0 c1 (IK _) (by omega:mx<=cap);simp only[Instr.sliceAt,Instr.slice,run_bind,aL LG,andThen_ok,dx hj,yx,B,Q];rfl
 cases c;cases c;cases c
def JO{E:Env}(hs:aY g s w){f:Array TypeId}{rt:TypeId}(K:∀k i,E.ti k=Z i->nu P k i)
  (h:fM E s .len f [x]=Z (p,t,s')) (A:p) (C:aI g w x vx) :
  ∃v,(Builtin.len_ f rt #[vx]).run P w=.ok v w/\aI g w t v/\s'=s:=by
 unfold fM at h;simp at h;have r:∀i,(nth f.toList 0).bind E.ti=Z i->∃ty,f[0]?=Z ty/\nu P ty i:=by
  grind[kr]
 have l:∀i q u,(nth f.toList 0).bind E.ti=Z i->(∃a b c d,i.kd=.slice a b c d)->BQ s x=Z (q,u)->q->
   ∃v,(Builtin.len_ f rt #[vx]).run P w=.ok v w/\aI g w (.sym (.lit (.int .i64 (eN u)))) v:=by
  intro i q u hi o m F
  let ⟨ty,h1,h2⟩:=r i hi
  let ⟨_,d1,_,_,y,_,_,_,_,n⟩:=h2.all
  let ⟨a,b,c,d,o⟩:=o
  rw[o]at n;obtain⟨e,j,Q,z,rfl,_⟩:=n;obtain⟨a,cap,rfl,_⟩:=Tf hs m F C;refine⟨_,?_,.sym _ _ (.lit _)⟩
  simp_all[Builtin.len_,aL,goInt,eN]
 split at h;rename_i b i I hi;split at h;rename_i o;obtain⟨rfl,rfl,rfl⟩:=h
 let ⟨ty,h1,h2⟩:=r i hi
 let ⟨_,d1,_,_,y,_,_,_,_,n⟩:=h2.all
 rw[o]at n;subst n;rw[iK I A C];refine⟨_,?_,.sym _ _ (.lit _),rfl⟩;simp[Builtin.len_,h1,aL y,goInt,vC];rename_i a b c d o;simp only[fT,fC]at h;obtain⟨⟨B,u⟩,m,rfl,rfl,rfl⟩:=h
 let ⟨v,h1,h2⟩:=l i B u hi ⟨_,_,_,_,o⟩ m A
 simp_all
 cases h;rename_i i _ hi;split at h;rename_i o;simp only[fT,fC]at h;obtain⟨⟨B,u⟩,m,rfl,rfl,rfl⟩:=h
 let ⟨v,h1,h2⟩:=l i B u hi ⟨_,_,_,_,o⟩ m A
 simp_all
 cases h;cases h
end
end
section
section
variable {P:Program}{g:Gh}{w:World}
variable {v:Value}{fr:Fr}{a:Act}
def Gi{d:D}(h:Dz v=Z d):d=.lit v:=by
 unfold Dz at h
 grind[Array.toList_eq_nil_iff]
def IM{t:T}(h:ofConst v=Z t):aI g w t v:=by unfold ofConst at h;split at h;simp at h;subst h;exact .kb _;simp at h;subst h;exact .kn _ _;simp at h;subst h;exact .emp _;split at h;rename_i b c;simp at h;subst h;rw[aes.1 b,aes.1 c];exact .fn _ _ _ _ _ rfl rfl (λj t v h=>by simp at h) (λj t v h=>by simp at h);cases h;simp at h;obtain⟨d,a,rfl⟩:=h;rw[Gi a];exact .sym _ _ (.dj _ _ _ (.lit _));simp at h;obtain⟨d,a,rfl⟩:=h;rw[Gi a];exact .sym _ _ (.lit _)
theorem bU{fr:Fr}{a:Act}(hf:cU g fr a w){x:Operand}{t:T}(h:kq fr x=Z t):aI g w t (a.eval x):=by
 cases x with
 |tmp k=>
  let ⟨v,b,c⟩:=hf.tm k t h
  simp_all[Act.eval]
 |const v=>exact IM h|global _=>cases h
 |func f=>simp[kq,gP]at h;subst h;exact .fn _ _ _ _ _ rfl rfl (λj t v h=>by simp at h) (λj t v h=>by simp at h)
def eY{fr:Fr}{a:Act}(hf:cU g fr a w):∀{l:L Operand}{ts:L T},yL fr l=Z ts->PW (aI g w) ts (l.map a.eval)
 |[],ts,h=>by simp only[yL,gP]at h;subst h;exact⟨rfl,λj t v h=>by simp at h⟩
 |x::l,ts,h=>by
  simp[yL]at h;split at h
  .rename_i h2;simp at h;subst h;have b:=eY hf h2;refine⟨by simp[b.1],λj c v d e=>?_⟩;cases j with|zero=>grind[bU]|succ j=>exact b.2 j c v (by simpa using d) (by simpa using e)
  cases h
def qg(g:Gh)(w:World)(a:Nat×T)(b:Nat×Value):Prop:=a.1=b.1/\aI g w a.2 b.2
def pQ{fr:Fr}{a:Act}(hf:cU g fr a w):∀{l:L (Nat×Operand)}{ts:L (Nat×T)},sy fr l=Z ts->PW (qg g w) ts (l.map λ(i,x)=>(i,a.eval x))
 |[],ts,h=>by simp only[sy,gP]at h;subst h;exact⟨rfl,λj t v h=>by simp at h⟩
 |(k,x)::l,ts,h=>by
  simp[sy]at h;split at h
  .rename_i h1 h2;simp at h;subst h;have d:=pQ hf h2;refine⟨by simpa using d.1,λj e v b c=>?_⟩;cases j with|zero=>simp at b c;subst b;subst c;exact⟨rfl,bU hf h1⟩|succ j=>exact d.2 j e v (by simpa using b) (by simpa using c)
  cases h
def zp(hf:cU g fr a w){x:O Operand}{t:O T}(h:N1 fr x=Z t):Su g w t (x.map a.eval):=by cases x with|none=>simp[N1,gP]at h;subst h;exact .no|some x=>simp[N1,fT]at h;obtain⟨u,b,rfl⟩:=h;exact .yes _ _ (bU hf b)
def Cp(off:Nat):∀(l:L Value)(a:Nat)(cells:Array Value),off+a+l.length<=cells.size->
  (l.zipIdx a).foldl (λcs x=>cs.setIfInBounds (off+x.2) x.1) cells=(cells.toList.take (off+a)++l++cells.toList.drop (off+a+l.length)).toArray
 |[],a,cells,h=>by simp
 |c::l,a,cells,h=>by
  simp at h;simp only[List.zipIdx_cons,NO];rw[Cp off l (a+1) _ (by simp;omega)]
  congr 1
  have b:off+(a+1)=off+a+1:=by omega
  have d:off+a+1+l.length=off+a+(l.length+1):=by omega
  have h1:(cells.toList.set (off+a) c).take (off+a+1)=cells.toList.take (off+a)++[c]:=by
   rw[List.take_add_one,List.take_set,QT,bD rfl,bD (by simp;omega)]
   grind[List.set_eq_of_length_le]
  simp_all[List.drop_set]
def wO{place:Nat->O (Nat×TI)}{pl:Nat->O (Nat×Nat)}(d:∀k off i,place k=Z (off,i)->pl k=Z (off,i.size)) :
  ∀(ps:L (Nat×T))(vs:L (Nat×Value)){cells:L T}{cs:Array Value}{p:Prop}{r:L T},GW place cells ps=Z (p,r)->p->PW (qg g w) ps vs->PW (aI g w) cells cs.toList->
   ∃o,Instr.fill pl cs vs=Z o/\PW (aI g w) r o.toList
 |[],[],cells,cs,p,r,h,q,_,m=>by obtain⟨_,rfl⟩:=h;exact⟨cs,rfl,m⟩
 |(k,t)::ps,(Q,v)::vs,cells,cs,p,r,h,q,c,m=>by
  have s:=c.2 0 _ _ rfl rfl;obtain⟨rfl,C⟩:=s;have f:PW (qg g w) ps vs:=⟨by simpa using c.1,λj a b E u=>c.2 (j+1) a b (by simpa using E) (by simpa using u)⟩;simp only[GW]at h;split at h;cases h;rename_i off i x;split at h;cases h;rename_i l F;obtain⟨u,h⟩|⟨_,h⟩:=af h
  simp only[fT,fC]at h;obtain⟨⟨R,S⟩,I,rfl,rfl⟩:=h;have y:=gS u;rw[bV,bV]at y
  let ⟨n,K⟩:=qx F q.1 C
  have z:v.cells.size=l.length:=by simpa using n.1.symm
  have P:cells.length=cs.size:=by simpa using m.1
  have B:off+v.cells.toList.length<=cs.size:=by
   simp_all
  have e:=Cp off v.cells.toList 0 cs (by omega);simp only[Nat.add_zero]at e
  let ⟨o,h1,h2⟩:=wO d ps vs (cs:=(cs.toList.take off++v.cells.toList++cs.toList.drop (off+v.cells.toList.length)).toArray) I q.2.2 f (by
   rw[bV];simp only[Array.length_toList,z];exact((m.take off).append n).append (m.drop _))
  refine⟨o,?_,h2⟩;have A:¬(v.cells.size≠i.size||off+v.cells.size>cs.size)=W:=by
   simp_all
  simp only[Instr.fill,d _ _ _ x];rw[bQ A,<-h1,<-e]
  congr 1
  rw[<-Array.foldl_toList,Array.toList_zipIdx];cases h
 |[],_::_,_,_,_,_,_,_,c,_=>by simp[PW]at c
 |_::_,[],_,_,_,_,_,_,c,_=>by simp[PW]at c
def yH{α β:Type}(f:α->Sem β)(r:α->β):∀(l:L α),(∀x∈l,(f x).run P w=.ok (r x) w)->(l.mapM f).run P w=.ok (l.map r) w
 |[],_=>rfl|x::l,h=>by
  have h2:=yH f r l (λy a=>h y (by simp[a]))
  simp_all
def Pe{ty:TypeId}{i:TI}(hi:nu P ty i){fs:L (Nat×Nat×Bool)}(s:i.kd=.struct fs){ps:L (Nat×T)}{vs:Array (Nat×Value)}(x:PW (qg g w) ps vs.toList)
  {p:Prop} {cs:L T} (h:GW (λk=>match nth fs k with|some (off,size,ag)=>Z (off,{(default:TI)with size:=size,agg:=ag})|none=>Y) (i.zero.map qP) ps=Z (p,cs)) (R:p) :
  ∃v,(Instr.build ty vs).run P w=.ok v w/\aI g w (.agg cs) v:=by
 let ⟨xi,d1,z,y,A,_,S,B,e,l⟩:=hi.all
 rw[s]at l;obtain⟨fields,rfl,C,u⟩:=l;have m:=s7 (g:=g) (w:=w) e;have E:∀f:Field,∃n:Nat,f∈fields.toList->(Go.sizeOf f.type).run P w=.ok n w:=by
  intro f;by_cases Q:f∈fields.toList;obtain⟨k,s,rfl⟩:=rQ Q;have F:k<fs.length:=by rw[<-C];simpa using s
  let ⟨d,j,d',h1,h2,h3,h4,_⟩:=u k (fs[k]).1 (fs[k]).2.1 (fs[k]).2.2 (iX F)
  have:d=fields.toList[k]:=by
   have b:fields.toList[k]?=Z d:=by simpa using h1
   rw[iX s]at b;exact(j8 b).symm
  subst this;exact⟨j.size,λ_=>dx h3 w⟩;exact⟨0,λh=>absurd h Q⟩
 let ⟨sz,c⟩:=Vf E
 have o:=yH (P:=P) (w:=w) (λf:Field=>Functor.map (Prod.mk f.offset) <| Go.sizeOf f.type) (λf=>(f.offset,sz f)) fields.toList (λf u=>by simp[c f u]);obtain⟨rs,h1,h2⟩:=wO (g:=g) (w:=w) (pl:=λk=>((fields.toList.map λf=>(f.offset,sz f)).toArray)[k]?) (λk off ti a=>by
  simp[kr]at a;split at a;rename_i q size ag I;simp at a;obtain⟨rfl,rfl⟩:=a
  let ⟨d,j,d',h1,h2,h3,h4,_⟩:=u k q size ag I
  have r:d∈fields.toList:=by
   have b:fields.toList[k]?=Z d:=by simpa using h1
   exact iA b
  have K:=c d r;rw[dx h3]at K;simp at K;simp[h1,h2,<-K,h4];cases a) ps vs.toList h R x ⟨by simpa using m.1,λj t v h1 h2=>m.2 j t v h1 (by simpa using h2)⟩
 refine⟨.agg rs,?_,.agg _ _ (by simpa using h2.1) (λj t v h3 h4=>h2.2 j t v h3 (by simpa using h4))⟩;simp only[Instr.build,run_bind,er y B,aL A,andThen_ok,Array.mapM_eq_mapM_toList];simp at h1;simp[o,h1]
end
end
section
section
variable {P:Program}{g:Gh}{w:World}
variable {s:St}{I:Nat->Prop}{ag:Bool}{sz len:Nat}{d:D}{v:Value}{i:TI}{cells:Array Value}{zero:List D}
def aY.Yo(hs:aY g s w){w':World}(o:Obj)(t:w'.heap=w.heap.push o)(m:w'.os=w.os)(i:w'.output=w.output) :
  aY (g.lM (·=w.heap.size)) s w'/\Ext s.fl g w (g.lM (·=w.heap.size)) w':=by
 have d:∀b,b<w.heap.size->w'.heap[b]?=w.heap[b]?:=λb f=>by rw[t,Array.getElem?_push,bQ (by omega)]
 have n:w'.heap.size=w.heap.size+1:=by rw[t];simp
 have e:∀k b,bJ (g.lM (·=w.heap.size)) k b->bJ g k b:=λk b h=>⟨λx=>h.1 (.inl x),h.2⟩;have p:Ext s.fl g w (g.lM (·=w.heap.size)) w':=
  ⟨λ_ _ h=>h,λ_ _ _ h=>h,λ_ h=>.inl h,by omega,λb f _=>d b f,λk b h=>.inl (e k b h),λb h=>h.imp id λh=>.inl (by omega),m,i⟩
 refine⟨⟨hs.aE,hs.ah,λk c q=>?_,λk j y z=>?_,λb f=>?_,λk u b h A=>hs.j6 k u b (e k b h) (e u b A)⟩,p⟩;have a:=hs.box k c q;refine a.ext p hs.bx (d c a.2.1) rfl ?_
 rintro(h|h)
 exact a.1 h;have:=a.2.1;omega;have l:=hs.arr k j y z;have r:∀v,y.a=Z v->y.cap≠0->v.block<w.heap.size:=l.1;refine l.ext p hs.bx (λb f q=>⟨d b (r _ f q),⟨λh=>h.elim id λh=>?_,.inl⟩⟩) rfl rfl
 simp_all
 obtain f|f:=f
 have:=hs.bx b f;omega;omega
structure vn(I:Nat->Prop)(w:World)(sz:Nat)(es:List D)(cells:Array Value):Prop where
 size:cells.size=es.length*sz
 rows:∀d∈es,d.cells.length=sz
 rel:∀i j d c,es[i]?=Z d->d.cells[j]?=Z c->∃v,cells[i*sz+j]?=Z v/\dJ I w c v
def RH(h:(bif ag then d.isAgg sz else d.leaf)=W)(h1:(ag||Nq sz 1)=W)(b:dJ I w d v) :
  d.cells.length=sz/\v.cells.size=sz/\∀(j:Nat)(c:D)(u:Value),d.cells[j]?=Z c->v.cells[j]?=Z u->dJ I w c u:=by
 cases ag with
 |true=>
  obtain⟨i,rfl,e,_⟩:=zy h;cases b with|agg _ k a _ f=>exact⟨e,by simp[Value.cells,<-a,e],λj c u h2 h3=>f j c u h2 h3⟩
 |false=>
  simp at h h1
  let ⟨_,l⟩:=wD h b
  have g:d.cells=[d]:=by cases d<;>first|rfl|(simp[D.leaf]at h)
  grind
def DR{s:St}(hs:aY g s w){i:TI}:∀(ps:L (Nat×T))(vs:L (Nat×Value)){es r:L D}{p:Prop}{os:L Nat},sK s i es ps=Z (p,r,os)->p->PW (qg g w) ps vs->
  ∀o∈os,Live g s o
 |[],_,es,r,p,os,h,f,_=>by obtain⟨_,rfl,rfl⟩:=h;intro o ho;cases ho
 |(k,t)::ps,(x,v)::vs,es,r,p,os,h,f,c=>by
  obtain⟨rfl,m⟩:=c.2 0 _ _ rfl rfl;have d:PW (qg g w) ps vs:=⟨by simpa using c.1,λj a b n l=>c.2 (j+1) a b (by simpa using n) (by simpa using l)⟩;simp only[sK]at h;split at h;cases h;rename_i q;obtain⟨l,h⟩|⟨_,h⟩:=af h
  simp only[fT,fC]at h;obtain⟨⟨y,z,u⟩,e,rfl,rfl,rfl⟩:=h
  let ⟨a1,_⟩:=mz hs t q f.1 m
  have a2:=DR hs ps vs e f.2.2 d;intro o ho;obtain ho|ho:=eX.1 ho
  exact a1 o ho;exact a2 o ho;cases h
 |_::_,[],_,_,_,_,_,_,c=>by simp[PW]at c
def A6{s:St}(hs:aY g s w){sz:Nat}{ag:Bool}(h1:(ag||Nq sz 1)=W){g':Gh}{s':St}(A:aY g' s' w)(he:Ext s.fl g w g' w) :
  ∀(ps:L (Nat×T))(vs:L (Nat×Value)){es r:L D}{cells:Array Value}{p:Prop}{os:L Nat},sK s {(default:TI)with size:=sz,agg:=ag} es ps=Z (p,r,os)->p->PW (qg g w) ps vs->
   jF s s' os->vn g'.bx w sz es cells->(∀o∈os,Live g s o)/\∃I,Instr.fill (λi=>Z (i*sz,sz)) cells vs=Z I/\vn g'.bx w sz r I/\r.length=es.length
 |[],[],es,r,cells,p,os,h,K,_,_,n=>by obtain⟨_,rfl,rfl⟩:=h;exact⟨λo z=>(by cases z),cells,rfl,n,rfl⟩
 |(k,t)::ps,(k',v)::vs,es,r,cells,p,os,h,K,f,B,n=>by
  obtain⟨rfl,hv⟩:=f.2 0 _ _ rfl rfl;simp only at hv;have q:PW (qg g w) ps vs:=⟨by simpa using f.1,λj a b ha hb=>f.2 (j+1) a b (by simpa using ha) (by simpa using hb)⟩;simp only[sK]at h;split at h;cases h;rename_i d Q R;obtain⟨hb,h⟩|⟨_,h⟩:=af h
  simp only[fT,fC]at h;obtain⟨⟨p',r',S⟩,C,rfl,rfl,rfl⟩:=h;have E:k<es.length:=by
   simp_all[bV]
  let ⟨a1,a2⟩:=mz hs t R K.1 hv
  have z1:jF s s' Q:=B.sub (λo z=>fS _ z);have z2:jF s s' S:=B.sub (λo z=>eV _ z);have hdr:=a2 g' s' A he z1
  let ⟨c1,c2,c3⟩:=RH K.2.1 h1 hdr
  have P:k*sz+sz<=cells.size:=by
   rw[n.size];have:(k+1)*sz<=es.length*sz:=zl _ E
   grind
  have l:=Cp (k*sz) v.cells.toList 0 cells (by simp_all);simp only[Nat.add_zero,Array.length_toList,c2]at l;have F:vn g'.bx w sz (es.set k d) (cells.toList.take (k*sz)++v.cells.toList++cells.toList.drop (k*sz+sz)).toArray:=by
   refine⟨?_,λx m=>?_,λi j x c m hj=>?_⟩;simp only[Tt,j9,Le,Array.length_toList,Tq,c2,Ld,<-n.size];omega;obtain m|rfl:=XE m
   exact n.rows x m;exact c1;rw[QT]at m;by_cases y:k=i;subst y;rw[bD rfl,bD E]at m;simp at m;subst m;have yx:j<sz:=by grind
   refine⟨v.cells[j],?_,c3 j c _ hj (uB (by omega))⟩
   grind
   rw[bQ y]at m
   let ⟨u,hu,R⟩:=n.rel i j x c m hj
   have yx:j<sz:=by rw[<-n.rows x (iA m)];grind
   refine⟨u,?_,R⟩;rw[Tx,tD,tD];obtain hik|hik:=Nat.lt_or_gt_of_ne (λe=>y e.symm:i≠k)
   have:(i+1)*sz<=k*sz:=zl _ hik
   grind
   have:(k+1)*sz<=i*sz:=zl _ hik
   grind
  let ⟨b1,I,b2,b3,b4⟩:=A6 hs h1 A he ps vs C K.2.2 q z2 F
  refine⟨λo z=>?_,I,?_,b3,by rw[b4];simp⟩
  grind
  have hno:¬(v.cells.size≠sz||k*sz+v.cells.size>cells.size)=W:=by
   simp_all
  simp only[Instr.fill];rw[bQ hno,<-b2,<-l]
  congr 1
  rw[<-Array.foldl_toList,Array.toList_zipIdx];cases h
 |[],_::_,_,_,_,_,_,_,_,f,_,_=>by simp[PW]at f
 |_::_,[],_,_,_,_,_,_,_,f,_,_=>by simp[PW]at f
def alV(d:D):d.sP<=24*d.cells.length:=by
 have b:∀x:D,x.lby<=24:=by intro x;unfold D.lby;split<;>omega
 have c:∀l:L D,D.o8 l<=24*l.length:=by
  intro l
  induction l with
  |nil=>exact FP _|cons a l g=>
   grind[D.o8]
 cases d with
 |agg e=>exact c e|lit v=>
  unfold D.sP;have:(D.lit v).cells.length=1:=rfl;rw[this];split<;>first|omega|exact b _|simp_all
 |sl f=>exact b (.sl f)|dj t d=>exact b (.dj t d)|gR ds=>exact b (.gR ds)|pt d=>exact b (.pt d)|mp k v=>exact b (.mp k v)
def vn.Wk{es:L D}(h:vn I w sz es cells){b:Nat}{ty:TypeId}{fz:Nat×Nat}(m:w.heap[b]?=Z (.cells cells ty fz))(n:I b){cap:Nat}(a:es.length<=cap)
  (k:∀d∈es,es.length*d.sP<=281474976710656):dJ I w (.sl es) (.slice (Z ⟨b,0,Y⟩) es.length cap):=by
 have l:∀q:Nat×Nat,∃v,∀d c,es[q.1]?=Z d->d.cells[q.2]?=Z c->cells[q.1*sz+q.2]?=Z v/\dJ I w c v:=by
  rintro⟨i,j⟩
  by_cases o:i<es.length;by_cases f:j<(es[i]).cells.length
  let ⟨v,r,s⟩:=h.rel i j _ _ (iX o) (iX f)
  refine⟨v,λd c g p=>?_⟩
  grind
  refine⟨undef,λd c g p=>?_⟩
  simp_all
  simp_all
 let ⟨val,e⟩:=Vf l
 refine .sl es _ cap sz (λi j=>val (i,j)) a h.rows k (λ_=>⟨_,rfl,n,λi j d c g f=>?_⟩) (λi j d c g f=>(e (i,j) d c g f).2);rw[nX,cell?_of_block m]
 simp_all
def BK(h:ahA d v):dJ I w d v:=by
 obtain⟨rfl,rfl⟩|rfl:=h
 exact .sl [] Y 0 0 (λ_ _=>undef) (by simp) (by simp) (by simp) (λh=>absurd rfl h) (λi j d c h=>by simp at h);exact .lit _
theorem vn.mono{I a:Nat->Prop}{w w':World}{sz:Nat}{es:L D}{cells:Array Value}(h:vn I w sz es cells)(e:j4 I w w')(f:∀b,I b->a b):vn a w' sz es cells:=
 ⟨h.size,h.rows,λi j d c g k=>let ⟨v,l,m⟩:=h.rel i j d c g k;⟨v,l,m.mono e f⟩⟩
def MY(a:ZOk zero cells)(h1:(ag||Nq sz 1)=W)(hl:cH zero=sz) :
  vn I w sz (List.replicate len (bif ag then .agg zero else zero.getD 0 default)) ((Array.range (len*sz)).map (cells[·%cells.size]!)):=by
 rw[bV]at hl;have b:cells.size=sz:=by rw[<-a.1,hl]
 have n:(bif ag then D.agg zero else zero.getD 0 default).cells=zero:=by
  cases ag with
  |true=>rfl|false=>
   simp at h1;have e:zero.length=1:=by rw[hl,h1]
   match zero,e with
   |[d],_=>
    have:=a.2 0 d cells[0] rfl (uB (by omega));obtain⟨h,_⟩|h:=this<;>(rw[h];rfl)
 refine⟨by simp,λd f=>?_,λi j d c p o=>?_⟩;rw[X0 f,n,hl];have g:i<len:=by grind
 have k:d=(bif ag then D.agg zero else zero.getD 0 default):=X0 (iA p);rw[k,n]at o;have l:j<sz:=by grind
 have m:i*sz+j<len*sz:=by
  have:(i+1)*sz<=len*sz:=zl _ g
  grind
 refine⟨cells[j]'(by omega),?_,BK (a.2 j c _ o (uB (by omega)))⟩;have q:(i*sz+j)%cells.size=j:=by rw[b,NL,Nat.mul_add_mod,Nat.mod_eq_of_lt l]
 simp[m,q];rw[getElem!_pos cells j (by omega)]
def CJ{ty:TypeId}(hi:nu P ty i){s1:St}(hs:aY g s w){bt:Nat}(hk:i.kd=.slice sz ag bt zero)(h1:(ag||Nq sz 1)=W)(A:cH zero=sz)(h0:sz≠0)
  (hlen:len*sz<=16777216) {ps:L (Nat×T)} {vs:Array (Nat×Value)} (m:PW (qg g w) ps vs.toList) {p:Prop} {es:L D} {os:L Nat}
  (h:sK s {(default:TI)with size:=sz,agg:=ag} (List.replicate len (bif ag then .agg zero else zero.getD 0 default)) ps=Z (p,es,os)) (hp:p) (hf:freeze s os=Z s1) :
  ∃w' g' v,(Instr.buildSlice ty len vs).run P w=.ok v w'/\aY g' s1 w'/\Ext s.fl g w g' w'/\aI g' w' (.kM len es) v/\s1.fl=s.fl/\s1.aE=s.aE:=by
 let ⟨xi,d1,z,Ol,n,_,hag,hzx,Cm,o⟩:=hi.all
 rw[hk]at o;obtain⟨e,j,d',z',rfl,B,q,hue,hage,C,E,_,_,_⟩:=o;have r:=DR hs ps vs.toList h hp m
 let ⟨g1,f,t,b⟩:=eF os hs hf r
 let ⟨_,rs,a,c,F⟩:=A6 hs h1 f t ps vs.toList h hp m b (MY E h1 A)
 have u:es.length=len:=by rw[F];simp
 let ⟨I,k⟩:=f.Yo (w':=w.alloc (.cells rs e)) (.cells rs e) rfl rfl rfl
 have l:=c.mono (k.keeps f.bx) k.bx;have K:=l.Wk (cap:=es.length) (xY w _) (.inr rfl) (eO _) (λd K=>by
  have h3:=alV d;rw[c.rows d K]at h3;have h4:es.length*d.sP<=len*(24*sz):=by simp_all[Nat.mul_le_mul_left]
  grind)
 refine⟨_,_,.slice (Z ⟨w.heap.size,0,Y⟩) es.length es.length,?_,I,(b.fl▸t.trans (b.fl▸k)),.kM len es _ (by omega) K,b.fl,b.aE⟩;have Q:¬(len*sz>2 ^ 24):=by omega
 by_cases R:len*sz=0;have y:len=0:=by
  grind[Nat.mul_eq_zero]
 subst y;simp at a;have S:(Array.range 0).map (λx=>z'.cells[x%z'.cells.size]!)=#[]:=by simp
 rw[S]at a;have he0:es.length=0:=u;have hr1:Array.range 0=#[]:=by simp
 simp[hr1,Instr.buildSlice,aL n,dx B,q,a,newRow,he0];simp[Instr.buildSlice,aL n,dx B,q,er B C,Q,R,a,newRow,u]
end
end
section
section
variable {P:Program}{g:Gh}{w:World}
structure sS(I:Nat->Prop)(w:World)(sz:Nat)(es:List D)(vals:List Value):Prop where
 len:vals.length=es.length*sz
 rows:∀d∈es,d.cells.length=sz
 rel:∀i j d c,es[i]?=Z d->d.cells[j]?=Z c->∃v,vals[i*sz+j]?=Z v/\dJ I w c v
theorem LF{i j n sz:Nat}(hi:i<n)(a:j<sz):i*sz+j<n*sz:=by
 have:(i+1)*sz<=n*sz:=zl _ hi
 grind
theorem acR{i j sz:Nat}(a:j<sz):(i*sz+j)/sz=i/\(i*sz+j)%sz=j:=by
 grind[Nat.mul_comm,Nat.mul_add_div,Nat.div_eq_of_lt,Nat.mul_add_mod,Nat.mod_eq_of_lt]
def rU(sz n:Nat)(val:Nat->Nat->Value):L Value:=(List.range (n*sz)).map λk=>val (k/sz) (k%sz)
variable {sz n:Nat}{val:Nat->Nat->Value}{v:Value}{s:St}{t:T}{p:Prop}{es:List D}{I:Nat->Prop}{vals:List Value}
def Di{i j:Nat}(hi:i<n)(a:j<sz):(rU sz n val)[i*sz+j]?=Z (val i j):=by
 grind[acR,rU,LF]
def Au{k:Nat}(a:0<sz)(h:(rU sz n val)[k]?=Z v):∃i j,i<n/\j<sz/\k=i*sz+j/\v=val i j:=by
 simp[rU,lE,fT]at h;obtain⟨d,b,rfl⟩:=h;obtain⟨rfl,c⟩:=zi b;refine⟨k/sz,k%sz,Tu (by grind),Nat.mod_lt _ a,?_,rfl⟩
 grind[Nat.div_add_mod]
def tc(hs:aY g s w)(h:BQ s t=Z (p,es))(hp:p)(ht:aI g w t v)(h0:0<sz)(r:jH es sz) :
  ∃a cap,v=.slice a es.length cap/\es.length<=cap/\(∀d∈es,es.length*d.sP<=281474976710656)/\
   (es≠[]->∃ad val,a=Z ad/\(g.bx ad.block\/∃o,tI t=[o]/\bJ g o ad.block)/\
    (∀i j,i<es.length->j<sz->w.cell? (ad.add (i*sz+j))=Z (val i j))/\sS g.bx w sz es (rU sz es.length val)):=by
 have data:∀{v:Value},dJ g.bx w (.sl es) v->∃a cap,v=.slice a es.length cap/\es.length<=cap/\(∀d∈es,es.length*d.sP<=281474976710656)/\
   (es≠[]->∃ad val,a=Z ad/\(g.bx ad.block\/∃o,tI t=[o]/\bJ g o ad.block)/\
    (∀i j,i<es.length->j<sz->w.cell? (ad.add (i*sz+j))=Z (val i j))/\sS g.bx w sz es (rU sz es.length val)):=by
  intro v k;obtain⟨a,cap,rfl,K,R,B⟩:=xV k;refine⟨a,cap,rfl,K,R,λx=>?_⟩;obtain⟨ad,f,rfl,y,z,val,hc,S⟩:=B x;have C:f=sz:=by obtain⟨d,ds,rfl⟩:=TB x;rw[<-y d (by simp),r d (by simp)]
  subst C;have E:∀i j(q:i<es.length)(l:j<f),(es[i]).cells[j]?=Z ((es[i]).cells[j]'(by rw[y _ (NF q)];exact l)):=λi j q l=>iX _;refine⟨ad,val,rfl,.inl z,λi j q l=>hc i j _ _ (iX q) (E i j q l),⟨by simp[rU],y,λi j d c k l=>?_⟩⟩;have q:=cD k;have F:j<f:=by rw[<-y d (iA k)];exact cD l
  exact⟨val i j,Di q F,S i j d c k l⟩
 cases ht with
 |emp a=>obtain⟨_,rfl⟩:=h;exact⟨a,0,rfl,eO _,by simp,λh=>absurd rfl h⟩
 |kM n P a hn k=>obtain⟨_,rfl⟩:=h;exact data k
 |qd j d c a l k=>obtain⟨_,rfl⟩:=h;exact data (Bb l k)
 |sym d v k=>obtain⟨rfl,rfl⟩:=h;rw[D.xR hp]at k;exact data k
 |sh o e len cap sz2 a hx=>
  have key:∃fz f,s.ob.get o=Z (ga fz f es e):=by
   simp[BQ]at h;split at h;rename_i f P era Q;obtain⟨hb,h⟩|⟨_,h⟩:=af h
   have I:=beq_iff'.1 hb;simp only[gP,fC]at h;exact⟨J,f,by rw[Q,h.2,I];rfl⟩;cases h;rename_i f P era Q;obtain⟨hb,h⟩|⟨_,h⟩:=af h
   have I:=beq_iff'.1 hb;simp only[gP,fC]at h;exact⟨W,f,by rw[Q,h.2,I];rfl⟩;cases h;cases h
  let ⟨fz,f,Q⟩:=key
  let ⟨m,YZ⟩:=hs.nV Q hx
  have h1:=m.len;have h2:=m.cap;simp only at h1 h2;refine⟨a,cap,by rw[h1],by omega,m.W0,λx=>?_⟩;have hpos:0<es.length:=Vd.2 x
  let ⟨b,vs,ty,hab,hfz,hh,hcs,A⟩:=m.mem (by simp only;omega)
  subst hab;have C:f=sz:=by obtain⟨d,ds,rfl⟩:=TB x;rw[<-m.rows d (by simp),r d (by simp)]
  subst C;have hcs':cap*f<=vs.size:=hcs;have hvs:∀i j,i<es.length->j<f->i*f+j<vs.size:=λi j q l=>by have:=LF (show i<cap by omega) l;omega
  refine⟨⟨b,0,Y⟩,λi j=>vs.getD (i*f+j) undef,rfl,?_,λi j q l=>?_,⟨by simp[rU],m.rows,λi j d c k l=>?_⟩⟩;by_cases z:g.bx b;exact .inl z;exact .inr ⟨o,rfl,z,.inr ⟨e,_,_,hx,rfl,rfl,by simp only;omega⟩⟩;rw[nX,cell?_of_block hh];have:=hvs i j q l;simp[this];have q:=cD k;have F:j<f:=by rw[<-m.rows d (iA k)];exact cD l
  let ⟨u,hu,S⟩:=A i d j c k l
  refine⟨u,?_,S⟩;rw[Di q F];simp[hu]
 |_=>simp[BQ]at h
def sS.one(h:sS I w sz es vals)(e:0<sz)(hf:∀d∈es,d.flat=W):∀v∈vals,v.oneCell'=W:=by
 intro v f;obtain⟨k,g,rfl⟩:=rQ f;have i:k<es.length*sz:=by rw[<-h.len];exact g
 have c:k/sz<es.length:=Tu (by grind);have j:k%sz<sz:=Nat.mod_lt _ e;have a:=NF c;have b:k%sz<(es[k/sz]).cells.length:=by rw[h.rows _ a];exact j
 let ⟨u,l,m⟩:=h.rel (k/sz) (k%sz) _ _ (iX c) (iX b)
 grind[Nat.div_add_mod,D.flat,wD,List.getElem_mem]
def sS.append{es':L D}{a:L Value}(h:sS I w sz es vals)(e:sS I w sz es' a):sS I w sz (es++es') (vals++a):=by
 refine⟨by simp[h.len,e.len,Nat.add_mul],λd b=>?_,λi j d c b f=>?_⟩;obtain b|b:=eX.1 b
 exact h.rows d b;exact e.rows d b;rw[tD]at b;by_cases g:i<es.length;rw[bD g]at b
 let ⟨v,l,k⟩:=h.rel i j d c b f
 grind
 rw[bQ g]at b
 let ⟨v,l,k⟩:=e.rel (i-es.length) j d c b f
 refine⟨v,?_,k⟩;have m:es.length*sz<=i*sz:=zl _ (by omega);rw[tD,bQ (by rw[h.len];omega),h.len]
 grind[Nat.sub_mul]
def sS.nil:sS I w sz [] []:=⟨by simp,by simp,λi j d c h=>by simp at h⟩
theorem sS.mono{I a:Nat->Prop}{w w':World}{sz:Nat}{es:L D}{vals:L Value}(h:sS I w sz es vals)(e:j4 I w w')(f:∀b,I b->a b):sS a w' sz es vals:=
 ⟨h.len,h.rows,λi j d c g k=>let ⟨v,l,m⟩:=h.rel i j d c g k;⟨v,l,m.mono e f⟩⟩
def An(hs:aY g s w)(h:BQ s t=Z (p,es))(x:p)(y:aI g w t v)(l:0<sz)(c:jH es sz)(hf:∀d∈es,d.flat=W)
  {n z:TypeId} (o:P.underlying n=Z (.slice z)):∃b,Src P sz n v es.length b w/\sS g.bx w sz es b/\Builtin.lenOf v=Sem.pure es.length:=by
 obtain⟨a,cap,rfl,q,A,e⟩:=tc hs h x y l c;by_cases f:es=[]
 .subst f;refine⟨[],?_,.nil,rfl⟩;cases a with|none=>exact Src.ofNil w o cap|some r=>grind[Src.ofSlice]
 obtain⟨r,val,rfl,_,C,m⟩:=e f;refine⟨_,Src.ofSlice w o r es.length cap _ m.len (λk u B=>?_) (m.one l hf),m,rfl⟩;obtain⟨i,j,E,F,rfl,rfl⟩:=Au l B
 grind
def Iv(P:Program)(t a rt:TypeId)(vx vy:Value)(w:World)(R:Value->World->Prop):Prop:=
 ∃v w',(Builtin.append_ #[t,a] rt #[vx,vy]).run P w=.ok v w'/\R v w'
def Br{ty f rt e k:TypeId}{j:TypeInfo}{z:Value}(l:P.underlying ty=Z (.slice e))(m:P.underlying f=Z (.slice k))(o:P.info? e=Z j)(p:j.zero=Z z)(g:0<j.bytes)
  {base:O Addr} {len cap n:Nat} {olds a:L Value} {vy:Value} (c:(Builtin.firstCells j.size len (.slice base len cap)).run P w.drew=.ok olds.toArray w.drew)
  (hs:Src P j.size f vy n a w) (q:cap<len+n) (i:Builtin.nextslicecap (len+n) cap*j.bytes<=281474976710656) :
  Iv P ty f rt (.slice base len cap) vy w λv w'=>∃b,v=.slice (Z ⟨w.heap.size,0,Y⟩) (len+n) b/\len+n<=b/\
   w'=w.drew.alloc (.cells ((olds++a).toArray++Builtin.zeroCells z.cells (b-(len+n))) e):=by
 have r:(len+n)*j.bytes<=281474976710656:=gk (zl _ (le_nextslicecap (by omega))) i;have h:((len+n:Nat):Int)<=9223372036854775807:=by have:len+n<=(len+n)*j.bytes:=Nat.le_mul_of_pos_right _ g;omega
 have d:=run_append_grow_src (P:=P) w ty f rt e j z l o p base len cap olds c vy n a hs q h i;exact⟨_,_,d,_,rfl,grownCap_ge w (len+n) cap e,rfl⟩
def HR{ty b rt e:TypeId}{j:TypeInfo}(d:P.underlying ty=Z (.slice e))(f:P.info? e=Z j){base:O Addr}{len cap:Nat}{vy:Value}(hs:Src P j.size b vy 0 [] w)(a:len<=cap) :
  (Builtin.append_ #[ty,b] rt #[.slice base len cap,vy]).run P w=.ok (.slice base len cap) w:=by
 obtain⟨g,c⟩|c:=hs.kind<;>cases base<;>
  simp[Builtin.append_,aL d,aL c,dx f,hs.len,a,hs.cells,storeCells]
end
end
section
section
variable {P:Program}{g:Gh}{w:World}
variable {o:Obj}{w':World}{sz cap n sP bt:Nat}{es:List D}{vals:List Value}
def FZ(a:w'.heap=w.heap.push o)(b:Nat)(c:b<w.heap.size):w'.heap[b]?=w.heap[b]?:=by rw[a,Array.getElem?_push,bQ (by omega)]
def NW(a:w'.heap=w.heap.push o):w'.heap[w.heap.size]?=Z o:=by rw[a];simp
def Uq{g':Gh}(a:g'.bx=g.bx)(hi:∀b,g.bx b->b<w.heap.size){m:Array Value}{e:TypeId}
  (n:w'.heap=w.heap.push (.cells (vals.toArray++m) e)) (f:sS g.bx w sz es vals) (p:0<sz) (k:m.size=(cap-es.length)*sz) (q:es.length<=cap) (r:es≠[])
  (l:∀d∈es,es.length*d.sP<=281474976710656):xD g' w' J sz es ⟨Z ⟨w.heap.size,0,Y⟩,es.length,cap,sz⟩:=by
 have s:j4 g.bx w w':=λb o=>FZ n b (hi b o);refine⟨rfl,q,f.rows,p,l,λ_=>⟨w.heap.size,_,e,rfl,⟨λh=>(by cases h),λh=>?_⟩,NW n,?_,λi d j c t u=>?_⟩⟩;rw[a]at h
 grind
 simp[Array.size_append,Tt,f.len,k];rw[<-Nat.add_mul]
 simp_all
 let ⟨v,x,y⟩:=f.rel i j d c t u
 refine⟨v,?_,y.mono s (λb o=>by grind)⟩
 grind
def xM{len:Nat}{base:O Addr}{olds:L Value}(hl:olds.length=len*sz)(h:len≠0->∃ad,base=Z ad/\∀k u,olds[k]?=Z u->w.cell? (ad.add k)=Z u) :
  (Builtin.firstCells sz len (.slice base len cap)).run P w.drew=.ok olds.toArray w.drew:=by
 by_cases a:len=0
 .subst a;have:olds=[]:=Ek (by simpa using hl);subst this;cases base with|none=>rfl|some ad=>grind[run_firstCells_some]
 obtain⟨ad,rfl,b⟩:=h a
 grind[run_firstCells_some,World.cell?_drew]
theorem Iv.mono{t a rt:TypeId}{vx vy:Value}{R b:Value->World->Prop}(h:Iv P t a rt vx vy w R)(c:∀v w',R v w'->b v w'):Iv P t a rt vx vy w b:=by
 let ⟨v,w',h1,h2⟩:=h
 exact⟨v,w',h1,c _ _ h2⟩
def sS.Wk{I:Nat->Prop}(h:sS I w sz es vals){b:Nat}{ty:TypeId}{fz:Nat×Nat}{cells:Array Value}(o:w.heap[b]?=Z (.cells cells ty fz))(p:I b)
  (f:∀(k:Nat)(v:Value),vals[k]?=Z v->cells[k]?=Z v) {cap:Nat} (a:es.length<=cap) (m:∀d∈es,es.length*d.sP<=281474976710656):dJ I w (.sl es) (.slice (Z ⟨b,0,Y⟩) es.length cap):=by
 have n:∀q:Nat×Nat,∃v,∀d c,es[q.1]?=Z d->d.cells[q.2]?=Z c->cells[q.1*sz+q.2]?=Z v/\dJ I w c v:=by
  rintro⟨i,j⟩
  by_cases r:i<es.length;by_cases g:j<(es[i]).cells.length
  let ⟨v,t,u⟩:=h.rel i j _ _ (iX r) (iX g)
  refine⟨v,λd c l s=>?_⟩
  grind
  refine⟨undef,λd c l s=>?_⟩
  simp_all
  simp_all
 let ⟨val,e⟩:=Vf n
 refine .sl es _ cap sz (λi j=>val (i,j)) a h.rows m (λ_=>⟨_,rfl,p,λi j d c l g=>?_⟩) (λi j d c l g=>(e (i,j) d c l g).2);rw[nX,cell?_of_block o]
 simp_all
def GY(hf:n<=17179869184)(a:sP<=4096)(b:cap<n):Builtin.nextslicecap n cap*sP<=281474976710656:=by have h1:=nextslicecap_le b;have:Builtin.nextslicecap n cap*sP<=(2*17179869184)*4096:=NK (by omega) a;omega
def LP(hf:n<=17179869184)(a:sP<=4096)(h:bt<=2*sP):n*bt<=281474976710656:=by have:n*bt<=17179869184*8192:=NK hf (by omega);omega
def DY{ty tx rt e e':TypeId}{l:TypeInfo}{z:Value}(S:P.underlying ty=Z (.slice e))(hu2:P.underlying tx=Z (.slice e'))(hji:P.info? e=Z l)(hjz:l.zero=Z z)(hzs:z.cells.size=l.size)(h0:0<l.size)
  (hb0:0<l.bytes) (Rw:l.bytes<=4096) (pZ:bt<=2*l.bytes) (hI:∀b,g.bx b->b<w.heap.size) {es new:L D} {f:L Value} {x:fe} {vy:Value}
  (m:xD g w J l.size es x) (aqz:∀b,x.at b->b<w.heap.size) (Q:∀d∈iG es new,d.sP=bt) (r:jH new l.size)
  (p:Src P l.size tx vy new.length f w) (hv:sS g.bx w l.size new f) (s:D.T6 es new)
  (hy:new≠[]->∃t cy,vy=.slice (Z t) new.length cy/\¬x.at t.block/\∀k,k<new.length*l.size->(w.cell? (t.add k)).isSome=W) :
  Iv P ty tx rt (.slice x.a x.len x.cap) vy w λv w'=>∃x',UI g w l.size (iG es new) x v w' x':=by
 let ⟨a,len,cap,xsz⟩:=x
 have hl1:=m.len;have hl2:=m.cap;simp only at hl1 hl2;subst hl1;by_cases E:new=[];subst E;have Rn:f=[]:=Ek (by simpa using hv.len);subst Rn;have ada:iG es []=es:=jQ es;rw[ada];exact⟨_,_,HR (P:=P) S hji p hl2,⟨a,es.length,cap,l.size⟩,rfl,rfl,rfl,rfl,eO _,λ_ _ _=>rfl,λb hb=>⟨aqz b hb,.inr hb⟩,⟨m.len,m.cap,m.rows,m.pos,m.W0,m.mem⟩⟩;have hpos:0<new.length:=Vd.2 E;obtain⟨t,cy,rfl,TX,hyc⟩:=hy E;by_cases n:es.length+new.length<=cap
 ·
  let ⟨b,C,F,I,hfz,hh,hcs,o⟩:=m.mem (by grind)
  simp only at I hcs;subst I;have aeL:¬g.bx b:=λVW=>Bool.noConfusion (hfz.2 VW);have hnl:f.length=new.length*l.size:=hv.len;have hfit:es.length*l.size+f.length<=C.size:=by
   have:(es.length+new.length)*l.size<=cap*l.size:=zl _ n
   grind
  have hst:=run_storeCells_at (P:=P) b (0+es.length*l.size) F f 0 C w hh (by omega) p.one;simp only[Nat.add_zero,yo]at hst;have hrun:(Builtin.append_ #[ty,tx] rt #[.slice (Z ⟨b,0,Y⟩) es.length cap,.slice (Z t) new.length cy]).run P w=
    .ok (.slice (Z ⟨b,0,Y⟩) (es.length+new.length) cap) (w.setRow b (C.toList.take (es.length*l.size)++f++C.toList.drop (es.length*l.size+f.length)).toArray):=by
   simp[Builtin.append_,aL S,aL hu2,dx hji,p.len,n,p.cells,nX,hst]
  have hk:j4 g.bx w (w.setRow b (C.toList.take (es.length*l.size)++f++C.toList.drop (es.length*l.size+f.length)).toArray):=
   λb' y=>setRow_other w b b' _ (λe=>aeL (e▸y))
  have zB:(⟨Z ⟨b,0,Y⟩,es.length,cap,xsz⟩:fe).at b:=⟨_,rfl,rfl,by grind⟩;refine⟨_,_,hrun,⟨Z ⟨b,0,Y⟩,es.length+new.length,cap,l.size⟩,rfl,rfl,rfl,rfl,by simp,λb' _ y=>setRow_other w b b' _ (λe=>y (e▸zB)),λb' y=>?_,
   ⟨by simp[iG],n,λd hd=>(by
     obtain hd|hd:=eX.1 hd
     exact m.rows d hd;exact r d hd),h0,λd hd=>(by
     rw[Q d hd];exact LP (by simpa[iG,D.T6]using s) Rw pZ),λ_=>⟨b,_,F,rfl,hfz,setRow_heap w b C _ F _ hh,(by
      grind),λi d j c hd hj=>(by
      have yx:j<l.size:=by
       have hrw:d.cells.length=l.size:=by
        obtain hd|hd:=eX.1 (iA hd)
        exact m.rows d hd;exact r d hd
       grind
      unfold iG at hd;rw[tD]at hd;by_cases hi:i<es.length;rw[bD hi]at hd
      let ⟨v,K,hr⟩:=o i d j c hd hj
      refine⟨v,?_,hr.mono hk (λ_ h=>h)⟩;have:=LF hi yx
      grind
      rw[bQ hi]at hd
      let ⟨v,K,hr⟩:=hv.rel _ j d c hd hj
      refine⟨v,?_,hr.mono hk (λ_ h=>h)⟩;have hlt:=cD K;have hge:es.length*l.size<=i*l.size:=zl _ (by omega);rw[Nat.sub_mul]at K hlt;rw[Tx,tD,bD (by simp;omega),tD,bQ (by simp;omega)]
      grind)⟩⟩⟩
  let ⟨ad,k1,k2,k3⟩:=y
  simp at k1;subst k1
  simp_all
 ·
  have A:∃olds,sS g.bx w l.size es olds/\(es.length≠0->∃ad,a=Z ad/\∀k u,olds[k]?=Z u->w.cell? (ad.add k)=Z u):=by
   by_cases hes:es=[];subst hes;exact⟨[],.nil,λh=>absurd rfl h⟩;have hepos:0<es.length:=Vd.2 hes
   let ⟨b,C,F,I,hfz,hh,hcs,o⟩:=m.mem (by grind)
   subst I;have hle:es.length*l.size<=C.size:=gk (zl _ hl2) hcs;refine⟨C.toList.take (es.length*l.size),⟨by simp;omega,m.rows,λi j d c hd hj=>?_⟩,λ_=>⟨_,rfl,λk u hu=>?_⟩⟩
   let ⟨v,K,hr⟩:=o i d j c hd hj
   refine⟨v,?_,hr⟩;have yx:j<l.size:=by rw[<-m.rows d (iA hd)];grind
   simp_all[Jw,LF,cD]
   rw[nX,cell?_of_block hh]
   grind
  let ⟨olds,hvo,A⟩:=A
  refine(Br (P:=P) S hu2 hji hjz hb0 (olds:=olds) (xM hvo.len A) p (Nat.lt_of_not_le n) (GY s Rw (Nat.lt_of_not_le n))).mono ?_
  rintro v w' ⟨q,rfl,hc,rfl⟩
  have agp:(Builtin.zeroCells z.cells (q-(es.length+new.length))).size=(q-(es.length+new.length))*l.size:=by simp[Builtin.zeroCells,hzs]
  have B:(es++new).length=es.length+new.length:=j9;have R:=Uq (g:=g) (w:=w) (g':=g) rfl hI
   (w':=w.drew.alloc (.cells ((olds++f).toArray++Builtin.zeroCells z.cells (q-(es.length+new.length))) e)) rfl (hvo.append hv) h0 (by rw[B];exact agp) (by omega)
   (λhh=>E (List.append_eq_nil_iff.1 hh).2) (λd hd=>by
    rw[Q d hd];exact LP (by simpa[D.T6]using s) Rw pZ)
  rw[B]at R;refine⟨⟨Z ⟨w.heap.size,0,Y⟩,es.length+new.length,q,l.size⟩,rfl,rfl,rfl,rfl,by simp_all,λb hb _=>FZ rfl b hb,λb hb=>?_,R⟩
  let ⟨ad,k1,k2,_⟩:=hb
  simp at k1;subst k1
  simp_all
def yW{ty tx rt:TypeId}{i j:TI}(hi:nu P ty i)(hj:nu P tx j)(hjk:∃a b c d,j.kd=.slice a b c d){s s':St}(hs:aY g s w){x y:T}{vx vy:Value}{p:Prop}{t:T}
  (h:u9 i s x y=Z (p,t,s')) (Q:p) (hx:aI g w x vx) (hy:aI g w y vy) :
  Iv P ty tx rt vx vy w λv w'=>∃g',aY g' s' w'/\Ext s.fl g w g' w'/\aI g' w' t v:=by
 let ⟨_,d1,_,_,R,_,_,_,_,Oq⟩:=hi.all
 let ⟨_,d2,_,_,E,_,_,_,_,hk2⟩:=hj.all
 let ⟨_,_,_,_,hjk⟩:=hjk
 rw[hjk]at hk2;obtain⟨e',_,_,_,rfl,_⟩:=hk2;unfold u9 at h;obtain⟨_,h⟩|⟨hnb,h⟩:=af h
 cases h;have hn:s.aE<bM:=by
  simp_all
 split at h
 .rename_i sz ag bt zero q new yw S;rw[yw]at Oq;obtain⟨e,ji,d',z,rfl,hji,yx,_,_,hjz,Cm,Rw,h0,Ep,pZ,hb0,hzl⟩:=Oq;have hzs:z.cells.size=sz:=by rw[<-Cm.1,hzl]
  subst yx;have acg:∀{es:L D}{vals:L Value}{cap:Nat}{v:Value}{w':World},sS g.bx w ji.size es vals->es≠[]->vO es bt->v=.slice (Z ⟨w.heap.size,0,Y⟩) es.length cap->es.length<=cap->(∀d∈es,es.length*d.sP<=281474976710656)->
    w'=w.drew.alloc (.cells (vals.toArray++Builtin.zeroCells z.cells (cap-es.length)) e)->∃g',aY g' (eo s (.arr ji.size es 0)).2 w'/\Ext s.fl g w g' w'/\aI g' w' (.sh s.aE 0) v:=by
   intro es vals cap v w' hv r l hve hc hby hw;subst hw;subst hve;have agp:(Builtin.zeroCells z.cells (cap-es.length)).size=(cap-es.length)*ji.size:=by simp[Builtin.zeroCells,hzs]
   have hok:=Uq (g:=g) (w:=w) (g':=g.era s.aE 0 ⟨Z ⟨w.heap.size,0,Y⟩,es.length,cap,ji.size⟩) rfl hs.bx (w':=w.drew.alloc (.cells (vals.toArray++Builtin.zeroCells z.cells (cap-es.length)) e)) rfl hv h0 agp hc r hby
   let ⟨F,he⟩:=hs.Q5 hn (w':=w.drew.alloc (.cells (vals.toArray++Builtin.zeroCells z.cells (cap-es.length)) e)) rfl rfl (by simp_all) (λb hb=>FZ rfl b hb)
    (x:=⟨Z ⟨w.heap.size,0,Y⟩,es.length,cap,ji.size⟩) (λb hb=>by
     let ⟨ad,h1,h2,_⟩:=hb
     simp at h1;subst h1
     simp_all) hok rfl
   exact⟨_,F,he,.sh _ _ _ _ _ _ (Gh.fJ _ _ _ _)⟩
  cases hx with
  |emp a=>
   obtain⟨rfl,rfl,rfl⟩:=h
   let ⟨hq,f,l⟩:=Q
   let ⟨C,n,hv,hlen⟩:=An hs S hq hy h0 f (λd B=>(l d B).2) E
   by_cases r:new=[];subst r;have Rn:C=[]:=Ek (by simpa using hv.len);subst Rn
   let ⟨F,he⟩:=hs.Q5 hn (w':=w) (sz:=ji.size) (es:=[]) (x:=⟨a,0,0,ji.size⟩) rfl rfl (eO _) (λb hb=>rfl) (λb hb=>by
    let ⟨_,_,_,h⟩:=hb
    grind) ⟨rfl,eO _,by simp,h0,by simp,λh=>absurd rfl h⟩ rfl
   exact⟨_,_,HR (P:=P) R hji n (eO _),_,F,he,.sh _ _ _ _ _ _ (Gh.fJ _ _ _ _)⟩;have hpos:0<new.length:=Vd.2 r
   let ⟨_,_,_,_,hby,_⟩:=tc hs S hq hy h0 f
   have hfit:Builtin.nextslicecap (0+new.length) 0*ji.bytes<=281474976710656:=by rw[yo,nextslicecap_zero hpos];obtain⟨d,ds,rfl⟩:=TB r;have:=hby d (by simp);rw[(l d (by simp)).1]at this;exact gk (Nat.mul_le_mul_left _ Ep) this
   refine(Br (P:=P) R E hji hjz hb0 (olds:=[]) (xM (by simp) (λh=>absurd rfl h)) n (by omega) hfit).mono ?_
   simp_all
  |kM m es a hm B=>
   have hes:jH (iG es new) ji.size->∃olds,sS g.bx w ji.size es olds/\(es.length≠0->∃ad,a=Z ad/\∀k u,olds[k]?=Z u->w.cell? (ad.add k)=Z u):=by
    intro f
    let ⟨a',K,he,_,_,TY⟩:=tc (s:=s) (t:=.kM m es) (p:=True) (es:=es) hs rfl trivial (.kM m es a hm B) h0 (λd B=>f d (fS _ B))
    obtain⟨rfl,_,_⟩:=he;by_cases r:es=[];subst r;exact⟨[],.nil,λh=>absurd rfl h⟩;obtain⟨ad,val,rfl,_,hc,hv⟩:=TY r;refine⟨_,hv,λ_=>⟨ad,rfl,λk u hu=>?_⟩⟩;obtain⟨i,j,hi,hj,rfl,rfl⟩:=Au h0 hu
    grind
   dsimp only at h;split at h;rename_i k es2;obtain⟨rfl,rfl,rfl⟩:=h
   let ⟨hq,f,l,A⟩:=Q
   let ⟨C,n,hv,hlen⟩:=An hs S hq hy h0 (λd B=>f d (eV _ B)) (λd B=>(l d (eV _ B)).2) E
   let ⟨olds,hvo,hold⟩:=hes f
   have hpos:0<new.length:=by
    cases hy with
    |kM _ _ _ hk _=>
    grind[BQ]
   refine(Br (P:=P) R E hji hjz hb0 (olds:=olds) (xM hvo.len hold) n (by omega) (GY A Rw (by omega))).mono ?_
   rintro v w' ⟨K,rfl,hc,rfl⟩
   have I:(iG es new).length=es.length+new.length:=j9;exact acg (es:=iG es new) (hvo.append hv) (λhh=>by
    grind) l (by rw[I]) (by omega) (λd B=>by rw[(l d B).1,I];exact LP A Rw pZ) (by rw[I])
   obtain⟨rfl,rfl,rfl⟩:=h
   let ⟨hq,f,l,A⟩:=Q
   let ⟨C,n,hv,hlen⟩:=An hs S hq hy h0 (λd B=>f d (eV _ B)) (λd B=>(l d (eV _ B)).2) E
   let ⟨olds,hvo,hold⟩:=hes f
   by_cases r:new=[];subst r;have Rn:C=[]:=Ek (by simpa using hv.len);subst Rn;refine⟨_,_,HR (P:=P) R hji n (eO _),g,hs,Ext.refl _ _ _,.sym _ _ ?_⟩
   grind[iG]
   have hpos:0<new.length:=Vd.2 r;refine(Br (P:=P) R E hji hjz hb0 (olds:=olds) (xM hvo.len hold) n (by omega) (GY A Rw (by omega))).mono ?_
   rintro v w' ⟨K,rfl,hc,rfl⟩
   let ⟨F,he⟩:=hs.Yo (w':=w.drew.alloc (.cells ((olds++C).toArray++Builtin.zeroCells z.cells (K-(es.length+new.length))) e)) _ rfl rfl rfl
   refine⟨_,F,he,.sym _ _ ?_⟩;have hvv:=(hvo.append hv).mono (he.keeps hs.bx) he.bx;have:=hvv.Wk (b:=w.heap.size) (NW (w:=w) rfl) (.inr rfl) (λk v hk=>by
    grind) (cap:=K) (by simp_all) (λd B=>by
     rw[(l d B).1,j9];exact LP A Rw pZ)
   rw[j9]at this;exact this
  |sh o e2 len cap sz2 a hxa=>
   dsimp only at h;split at h;rename_i ho;obtain⟨hb,h9⟩|⟨_,h9⟩:=af h
   simp only[eW]at hb
   let ⟨⟨⟨hfl,hee⟩,hzz⟩,hno⟩:=hb
   have hfl:=gS hfl;have hee:=beq_iff'.1 hee;have hzz:=beq_iff'.1 hzz;subst hee;subst hzz;simp only[gP,fC]at h9;obtain⟨rfl,rfl,rfl⟩:=h9
   let ⟨hq,f,l,A⟩:=Q
   let ⟨hok,YZ⟩:=hs.nV (fz:=J) ho hxa
   simp only at YZ;subst YZ
   let ⟨C,n,hv,hlen⟩:=An hs S hq hy h0 f (λd B=>(l d (eV _ B)).2) E
   obtain⟨ay,cy,rfl,_,aqx,Ri⟩:=tc hs S hq hy h0 f;have hlt:=(hs.arr o e2 _ hxa).1;refine(DY (rt:=rt) R E hji hjz hzs h0 hb0 Rw pZ hs.bx hok (λb hb=>?_) (λd B=>(l d B).1) f n hv A (λr=>?_)).mono ?_
   let ⟨ad,k1,k2,k3⟩:=hb
   simp_all
   obtain⟨ady,an7,rfl,TX,hyc,_⟩:=Ri r;refine⟨ady,cy,rfl,λzB=>?_,λk hk=>?_⟩;have hown:bJ g o ady.block:=by
    let ⟨ad,k1,k2,k3⟩:=zB
    let ⟨b,vs,ety,hab,hfz,_⟩:=hok.mem k3
    rw[k1]at hab;cases hab;simp only at k2;exact⟨λVW=>Bool.noConfusion (hfz.2 (k2▸VW)),.inr ⟨e2,_,_,hxa,k1,k2,k3⟩⟩
   obtain VW|⟨o',ho',hO⟩:=TX
   exact hown.1 VW;have:=hs.j6 o o' _ hown hO
   simp_all
   have h1:=hyc (k/ji.size) (k%ji.size) (Tu (by grind)) (Nat.mod_lt _ h0)
   grind[Nat.div_add_mod]
   rintro v w' ⟨x',Q⟩
   let ⟨F,he⟩:=hs.alW ho hxa hfl Q.os Q.output Q.size Q.heap Q.at_ (Q.ok.kE rfl) Q.sz
   have:=Q.val;subst this;exact⟨_,F,he,.sh _ _ _ _ x'.sz _ (Gh.fJ _ _ _ _)⟩;cases h9;cases h
  |_=>simp at h
 cases h
end
end
section
def amY(fl:Nat)(g:Gh)(w:World)(t:T)(s':St)(r:Result Next):Prop:=
 ∃v w' g',(r=.ok (.value v) w'\/(r=.ok .skip w'/\v=undef))/\aY g' s' w'/\Ext fl g w g' w'/\aI g' w' t v
section
variable {P:Program}{g:Gh}{w:World}
variable {s s':St}{t x:T}{os:List Nat}{i:TI}{l h m:Option T}{p:Prop}
def dR{v:Value}{r:Result Next}(hs:aY g s w)(a:r=.ok (.value v) w)(b:aI g w t v)(c:s'=s):amY s.fl g w t s' r:=
 ⟨v,w,g,.inl a,c▸hs,Ext.refl _ _ _,b⟩
def r9:∀{os:L Nat}{s s':St},freeze s os=Z s'->s'.lo=s.lo/\s'.fl=s.fl/\s'.aE=s.aE
 |[],s,s',h=>by simp[freeze,gP]at h;rw[h];exact⟨rfl,rfl,rfl⟩
 |o::os,s,s',h=>by obtain⟨_,⟨_,_,_,_,h⟩|⟨_,_,_,_,h⟩|⟨_,h⟩|⟨_,_,_,_,_,_,_,_,_,_,_,_,_,h⟩⟩:=wM h<;>(have:=r9 h;exact this)
def Co(h:freeze s os=Z s'):s'.lo=s.lo:=(r9 h).1
def V9(h:freeze s os=Z s'):s'.fl=s.fl:=(r9 h).2.1
def RC(h:freeze s os=Z s'):s'.aE=s.aE:=(r9 h).2.2
def UX(a:qG i s x l h m=Z (p,t,s')):s'=s\/freeze s (tI x)=Z s':=by
 unfold qG at a
 repeat' split at a
 all_goals first
  |(cases a;done)
  |(
    simp only[fT,gP,fC]at a;first
     |(obtain⟨_,_,_,_,rfl⟩:=a;first|exact .inl rfl|(right;assumption))
     |(obtain⟨_,_,rfl⟩:=a;first|exact .inl rfl|(right;assumption)))
def UY(a:qG i s x l h m=Z (p,t,s')):s'.lo=s.lo:=by
 obtain rfl|h:=UX a
 rfl;exact Co h
structure Bu(E:Env):Prop where
 ti:∀k i,E.ti k=Z i->nu E.P k i
 T4:∀f fn,E.T4 f=Z fn->E.P.funcs[f]?=Z fn
def nO{E:Env}(Q:Bu E){fr:Fr}{a:Act}(hf:cU g fr a w)(hs:aY g s w)(o:Oper)(h:oO E fr s o.op=Z (p,t,s'))(R:p) :
  amY s.fl g w t s' ((execOp a.eval o).run E.P w)/\s'.fl=s.fl/\s'.lo=s.lo/\s.aE<=s'.aE:=by
 cases A:o.op with
 |move x=>rw[A]at h;simp only[oO,fT,fC]at h;obtain⟨t',F,_,rfl,rfl⟩:=h;exact⟨dR hs (by simp[execOp,A]) (bU hf F) rfl,rfl,rfl,eO _⟩
 |assign x=>rw[A]at h;simp only[oO,fT,fC]at h;obtain⟨t',F,_,rfl,rfl⟩:=h;exact⟨dR hs (by simp[execOp,A]) (bU hf F) rfl,rfl,rfl,eO _⟩
 |pick c x y=>
  rw[A]at h;simp[oO]at h;split at h;rename_i hc hx hy;simp only[fT,fC]at h;obtain⟨⟨q,u⟩,S,rfl,rfl,rfl⟩:=h
  let ⟨b,hb,F⟩:=NY S R (bU hf hc) (bU hf hx) (bU hf hy)
  exact⟨dR hs (by simp[execOp,A,hb,asBool]) F rfl,rfl,rfl,eO _⟩;cases h
 |alloc ty=>
  rw[A]at h;simp[oO]at h;split at h;rename_i i I;obtain⟨hn,h⟩|⟨_,h⟩:=af h
  obtain⟨_,rfl,rfl⟩:=h;have hn':s.aE<bM:=gS hn
  let ⟨xi,d,z,Ol,_,_,_,hz,Cm,_⟩:=(Q.ti _ _ I).all
  let ⟨z1,z2⟩:=s7 (g:=g) (w:=w) Cm
  let ⟨K,he⟩:=hs.dH hn' ty z1 z2
  refine⟨⟨_,_,_,.inl ?_,K,he,.ptr s.aE 0 w.heap.size (by simp[Gh.dH])⟩,rfl,rfl,by simp[eo]⟩;simp[execOp,A,Instr.alloc,er Ol hz,newVar,newRow];cases h;cases h
 |box ty x=>
  rw[A]at h;simp[oO]at h;split at h;rename_i i v I B;obtain⟨hn,h⟩|⟨_,h⟩:=af h
  simp only[fT,fC]at h;obtain⟨⟨q,cs⟩,hc,rfl,rfl,rfl⟩:=h;have hn':s.aE<bM:=gS hn
  let ⟨h1,h2,h3,_⟩:=m8 hc R (bU hf B)
  let ⟨K,he⟩:=hs.dH hn' ty (cs:=cs) (vs:=(a.eval x).cells) (by rw[h1,h2]) h3
  refine⟨⟨_,_,_,.inl ?_,K,he,.ptr s.aE 0 w.heap.size (by simp[Gh.dH])⟩,rfl,rfl,by simp[eo]⟩;simp[execOp,A,Instr.box,newVar,newRow];cases h;cases h
 |build ty parts=>
  rw[A]at h;simp[oO]at h;split at h;rename_i i ps I hps;split at h;rename_i hk;simp only[fT,fC]at h;obtain⟨⟨q,cs⟩,hc,rfl,rfl,rfl⟩:=h;have pY:=pQ hf hps
  let ⟨v,B,F⟩:=Pe (w:=w) (g:=g) (Q.ti _ _ I) hk (vs:=parts.map λ(i,x)=>(i,a.eval x)) (by simpa using pY) hc R
  exact⟨dR hs (by simp[execOp,A,B]) F rfl,rfl,rfl,eO _⟩;cases h;cases h
 |buildSlice ty len parts=>
  rw[A]at h;simp only[oO]at h;split at h;rename_i i ps I hps;split at h;rename_i hk;obtain⟨hb,h⟩|⟨_,h⟩:=af h
  split at h;rename_i q es os hel;simp only[fT,fC]at h;obtain⟨s1,hfz,rfl,rfl,rfl⟩:=h;have pY:=pQ hf hps;rw[zk]at hb
  let ⟨Ep,pZ⟩:=hb
  rw[zk]at pZ
  let ⟨pZ,Ry⟩:=pZ
  rw[zk]at Ry
  let ⟨Ry,Rw⟩:=Ry
  let ⟨w',g',v,hrun,K,he,F,hfl,acZ⟩:=CJ (Q.ti _ _ I) hs hk Ep (beq_iff'.1 pZ) (λe=>by
   rw[e]at Ry;cases Ry) (gS Rw) (vs:=parts.map λ(i,x)=>(i,a.eval x)) (by simpa using pY) hel R hfz
  exact⟨⟨v,w',g',.inl (by simp[execOp,A,hrun]),K,he,F⟩,hfl,Co hfz,by omega⟩;cases h;cases h;cases h;cases h
 |load ty x=>rw[A]at h;simp[oO]at h;split at h;rename_i i v I B;obtain⟨u,S,F,rfl⟩:=DD (Q.ti _ _ I) hs (bU hf B) h R;exact⟨dR hs (by simp[execOp,A,S]) F rfl,rfl,rfl,eO _⟩;cases h
 |store ty x y=>
  rw[A]at h;simp[oO]at h;split at h;rename_i i v u I B S;obtain⟨w',g',hrun,K,he,rfl⟩:=KL (Q.ti _ _ I) hs (bU hf B) (bU hf S) h R;refine⟨⟨undef,w',g',.inr ⟨by simp[execOp,A,hrun],rfl⟩,K,he,.sym _ _ (.lit _)⟩,?_⟩;unfold storeT at h;split at h;cases h;split at h;split at h;obtain⟨_,h⟩|⟨_,h⟩:=af h
  obtain⟨_,_,rfl⟩:=h;exact⟨rfl,rfl,eO _⟩;cases h;cases h;split at h;split at h;rename_i hfz;split at h;obtain⟨_,h⟩|⟨_,h⟩:=af h
  obtain⟨_,_,rfl⟩:=h;have e1:=V9 hfz;have e2:=Co hfz;have e3:=RC hfz;exact⟨e1,e2,Dq e3.symm⟩;cases h;cases h;cases h;cases h;cases h;cases h
 |nilCheck x=>
  rw[A]at h;simp[oO]at h;have hx:=λ{t}(e:kq fr x=Z t)=>bU hf e;split at h;all_goals try(cases h;done)
  all_goals
   rename_i hxe;have C:=hx hxe;simp only[gP,fC]at h;obtain⟨rfl,rfl,rfl⟩:=h
  .generalize B:a.eval x=v at C;cases C with|ptr _ _ b hb=>exact⟨dR hs (by simp[execOp,A,B]) (.ptr _ _ b hb) rfl,rfl,rfl,eO _⟩
  .generalize B:a.eval x=v at C;cases C with|mc _ _ ad val h1 h2 h3=>exact⟨dR hs (by simp[execOp,A,B]) (.mc _ _ ad val h1 h2 h3) rfl,rfl,rfl,eO _⟩
  .generalize B:a.eval x=v at C;cases C with|l9 _ _ _ _ _ _ _ _ h1=>exact⟨dR hs (by simp[execOp,A,B]) (.l9 _ _ _ _ _ _ _ _ h1) rfl,rfl,rfl,eO _⟩
  .generalize B:a.eval x=v at C;cases C with|dj _ _ _ h1=>exact⟨dR hs (by simp[execOp,A,B]) (.dj _ _ _ h1) rfl,rfl,rfl,eO _⟩
  .generalize B:a.eval x=v at C;cases C with|fn _ _ _ _ _ h1 h2 h3 h4=>exact⟨dR hs (by simp[execOp,A,B]) (.fn _ _ _ _ _ h1 h2 h3 h4) rfl,rfl,rfl,eO _⟩
  generalize B:a.eval x=v at C;cases C with
  |sym d _ hd=>
   cases hd with|dj _ _ _ h1=>exact⟨dR hs (by simp[execOp,A,B]) (.sym _ _ (.dj _ _ _ h1)) rfl,rfl,rfl,eO _⟩|_=>cases R
 |binOp op ty x y yt=>
  rw[A]at h;simp[oO]at h;split at h;rename_i i u v I S B;simp only[fT,fC]at h;obtain⟨⟨q,d⟩,hb,rfl,rfl,rfl⟩:=h
  let ⟨r,C,F⟩:=RY (Q.ti _ _ I) hb R (bU hf S) (bU hf B) x y
  refine⟨dR hs ?_ F rfl,rfl,rfl,eO _⟩;simp at C;simp only[execOp,A,run_bind];rw[C];rfl;cases h
 |unOp op ty x=>
  rw[A]at h;simp[oO]at h;split at h;rename_i i u I S;simp only[fT,fC]at h;obtain⟨⟨q,d⟩,hb,rfl,rfl,rfl⟩:=h
  let ⟨r,C,F⟩:=UM (P:=E.P) hb R (bU hf S)
  exact⟨dR hs (by simp[execOp,A,C]) F rfl,rfl,rfl,eO _⟩;cases h
 |convert src dst x=>rw[A]at h;simp[oO]at h;split at h;rename_i i j u I hj S;obtain⟨r,C,F,rfl⟩:=O3 (Q.ti _ _ I) (Q.ti _ _ hj) h R (bU hf S);exact⟨dR hs (by simp[execOp,A,C]) F rfl,rfl,rfl,eO _⟩;cases h
 |makeInterface ty x=>
  rw[A]at h;simp[oO]at h;split at h;rename_i i v I B;have VU:=Q.ti _ _ I
  let ⟨xi,d,z,Ol,S,_⟩:=VU.all
  split at h;cases h;rename_i hk;simp only[gP,fC]at h;obtain⟨rfl,rfl,rfl⟩:=h;refine⟨dR hs (v:=.iface ty (a.eval x)) ?_ (.dj _ _ _ (bU hf B)) rfl,rfl,rfl,eO _⟩;have hni:∀ms,d≠.interface ms:=λms e=>hk (VU.nif ms (e▸S));simp only[execOp,A,Instr.makeInterface,run_bind,aL S,andThen_ok];cases d<;>first|rfl|exact absurd rfl (hni _)
  cases h
 |makeFunc f first cap=>rw[A]at h;simp[oO]at h;split at h;rename_i hx hy;obtain⟨rfl,rfl,rfl⟩:=h;have h1:=eY hf hx;have h2:=eY hf hy;refine⟨dR hs (v:=.func f (first.map a.eval) (cap.map a.eval)) (by simp[execOp,A,Instr.makeFunc]) (.fn _ _ _ _ _ (by simpa using h1.1) (by simpa using h2.1) (λj t v k1 k2=>h1.2 j t v k1 (by simpa using k2)) (λj t v k1 k2=>h2.2 j t v k1 (by simpa using k2))) rfl,rfl,rfl,eO _⟩;cases h
 |extract x k=>rw[A]at h;simp[oO]at h;split at h;rename_i v B;obtain⟨r,C,F,rfl⟩:=He (P:=E.P) h R (bU hf B);exact⟨dR hs (by simp[execOp,A,C]) F rfl,rfl,rfl,eO _⟩;cases h
 |fieldAddr ty x k=>rw[A]at h;simp[oO]at h;split at h;rename_i i v I B;obtain⟨r,C,F,rfl⟩:=Cs (Q.ti _ _ I) h (bU hf B);exact⟨dR hs (by simp[execOp,A,C]) F rfl,rfl,rfl,eO _⟩;cases h
 |field ty x k=>rw[A]at h;simp[oO]at h;split at h;rename_i i v I B;obtain⟨r,C,F,rfl⟩:=LN (Q.ti _ _ I) h R (bU hf B);exact⟨dR hs (by simp[execOp,A,C]) F rfl,rfl,rfl,eO _⟩;cases h
 |indexAddr ty x ix=>rw[A]at h;simp[oO]at h;split at h;rename_i i v n I B hn;obtain⟨r,C,F,rfl⟩:=Cj (Q.ti _ _ I) hs h R (bU hf B) (bU hf hn);exact⟨dR hs (by simp[execOp,A,C]) F rfl,rfl,rfl,eO _⟩;cases h
 |index ty x ix=>rw[A]at h;simp[oO]at h;split at h;rename_i i v n I B hn;obtain⟨r,C,F,rfl⟩:=LD (Q.ti _ _ I) h R (bU hf B) (bU hf hn);exact⟨dR hs (by simp[execOp,A,C]) F rfl,rfl,rfl,eO _⟩;cases h
 |slice ty x lo I mx=>
  rw[A]at h;simp[oO]at h;split at h;rename_i i v l hh m h1 h2 h3 h4 h5
  let ⟨g',r,C,K,he,F,hfl,acZ⟩:=KP (Q.ti _ _ h1) hs h R (bU hf h2) (zp hf h3) (zp hf h4) (zp hf h5)
  exact⟨⟨r,w,g',.inl (by simp[execOp,A,C]),K,he,F⟩,hfl,UY h,by omega⟩;cases h
 |typeAssert x xt ty ok=>rw[A]at h;simp[oO]at h;split at h;rename_i I B;obtain⟨r,C,F,rfl⟩:=I3 (xt:=xt) (Q.ti _ _ I) h (bU hf B);exact⟨dR hs (by simp[execOp,A,C]) F rfl,rfl,rfl,eO _⟩;cases h
 |_=>rw[A]at h;simp[oO]at h
end
end
section
section
variable {g g' g'':Gh}{w w' w'':World}{lo fl:Nat}
def aY.grow{s:St}(hs:aY g s w){I:Nat->Prop}(p:∀b,g.bx b->I b)(f:∀b,I b->g.bx b\/w.heap.size<=b)(q:∀b,I b->b<w'.heap.size)(i:w.heap.size<=w'.heap.size)
  (a:∀b,b<w.heap.size->w'.heap[b]?=w.heap[b]?) (r:w'.os=w.os) (m:w'.output=w.output) :
  aY {g with bx:=I} s w'/\Ext fl g w {g with bx:=I} w':=by
 have e:∀k b,bJ ({g with bx:=I}:Gh) k b->bJ g k b:=λk b h=>⟨λx=>h.1 (p b x),h.2⟩;have t:Ext fl g w {g with bx:=I} w':=
  ⟨λ_ _ h=>h,λ_ _ _ h=>h,p,i,λb n _=>a b n,λk b h=>.inl (e k b h),λb h=>(f b h).imp id .inl,r,m⟩
 refine⟨⟨hs.aE,hs.ah,λk c o=>?_,λk j y z=>?_,q,λk v b h A=>hs.j6 k v b (e k b h) (e v b A)⟩,t⟩;have d:=hs.box k c o;refine d.ext t hs.bx (a c d.2.1) rfl λu=>?_;obtain h|h:=f c u
 exact d.1 h;have:=d.2.1;omega;have l:=hs.arr k j y z;refine l.ext t hs.bx (λb n o=>⟨a b (l.1 _ n o),⟨λh=>?_,p b⟩⟩) rfl rfl;obtain h|h:=f b h
 exact h;have:=l.1 _ n o
 grind
end
def mu(P:Program)(f:FuncId):Prop:=∃fn,P.funcs[f]?=Z fn/\fn.body.isSome=W/\(fn.name== "runtime.NumGoroutine")=J
def aaC(I:Nat->Prop)(w:World)(d:D):Ending->World->Prop
 |.returned v,w'=>∃a:Nat->Prop,(∀b,I b->a b)/\(∀b,a b->I b\/w.heap.size<=b)/\(∀b,a b->b<w'.heap.size)/\w.heap.size<=w'.heap.size/\
   (∀b,b<w.heap.size->w'.heap[b]?=w.heap[b]?)/\w'.os=w.os/\w'.output=w.output/\dJ a w' d v
 |.panicked _,_=>False|.outgrown,_=>False
def amS(P:Program)(f:FuncId)(c:Qk):Prop:=
 mu P f/\∀(I:Nat->Prop)(w:World)(ds:L D)(vs:Array Value),(∀b,I b->b<w.heap.size)->ds.length=vs.size->
  (∀(j:Nat)(d:D)(v:Value),ds[j]?=Z d->vs[j]?=Z v->dJ I w d v)->c.pre ds->Calls P f vs w (aaC I w (c.f ds))
structure Qh(E:Env):Prop extends Bu E where
 name:∀f fn,E.T4 f=Z fn->(fn.name== "runtime.NumGoroutine")=J
 IU:∀f c,E.IU f=Z c->amS E.P f c
section
variable {g:Gh}{w:World}
end
end
section
section
variable {g:Gh}{w:World}
variable {s s':St}{t:T}{fr:Fr}{a:Act}
def Si{i:TI}{x y:T}{p:Prop}(h:u9 i s x y=Z (p,t,s')):s'.fl=s.fl/\s'.lo=s.lo/\s.aE<=s'.aE:=by
 obtain⟨_,h⟩|⟨_,h⟩:=af h
 cases h;split at h;split at h;obtain⟨_,_,rfl⟩:=h;exact⟨rfl,rfl,by simp[eo]⟩;split at h;obtain⟨_,_,rfl⟩:=h;exact⟨rfl,rfl,by simp[eo]⟩
 simp_all
 grind
 cases h;cases h
theorem xI{P:Program}{f:FuncId}(h:mu P f)(args:Array Value):(callFunc f args).run P w=.ok (.enter f args) w:=by
 let ⟨fn,h1,h2,h3⟩:=h
 have h4:fn.body≠Y:=by
  grind
 simp_all[callFunc]
theorem As{P:Program}{o:Oper}{c:Call}(d:o.op=.call c){b:Operand}(e:c.callee=.value b){a:Act}{f:FuncId}{first cap:Array Value}(g:a.eval b=.func (.func f) first cap)(h:mu P f) :
  (execOp a.eval o).run P w=.ok (.enter f (first++c.args.map a.eval++cap)) w:=by
 grind[execOp,resolve,Deferred.ofValue,invoke,xI]
def Wd(hf:cU g fr a w){dst:O Nat}(f:ajc fr dst=W)(hn:fr.n<=bM){v:Value}(h:aI g w t v):cU g (fr.jr dst t) (a.put dst v) w:=by
 cases dst with
 |none=>exact hf|some d=>
  have c:d<fr.n:=gS f;refine⟨by simp[Act.put,Fr.jr,Fr.put,hf.size],hf.df,λk i b=>?_⟩;simp[Fr.jr,Fr.put,Fr.get]at b;rw[Tr.aV _ _ _ _ (iS c hn)]at b;by_cases e:k=d;subst e;rw[bD rfl]at b;simp at b;subst b;exact⟨v,by simp[Act.put,hf.size,c],h⟩;rw[bQ e]at b
  let ⟨u,j,l⟩:=hf.tm k i b
  grind[Act.put]
structure Aft(s:St)(g:Gh)(w:World)(s':St)(g':Gh)(w':World):Prop where
 rel:aY g' s' w'
 ext:Ext s.fl g w g' w'
 fl:s'.fl=s.fl
 lo:s'.lo=s.lo
 aE:s.aE<=s'.aE
theorem Aft.refl{s:St}(h:aY g s w):Aft s g w s g w:=⟨h,Ext.refl _ _ _,rfl,rfl,eO _⟩
def yT{E:Env}(l:Qh E)(hf:cU g fr a w)(hs:aY g s w){o:Oper}{c:Call}(C:o.op=.call c){b:Builtin}(hb:c.callee=.builtin b){args:L T}
  (d:yL fr c.args.toList=Z args) {p:Prop} {t:T} (h:fM E s b c.argTypes args=Z (p,t,s')) (z:p) {k:T->St->Prop} (A:k t s')
  {K:Act->World->Prop} {Q:Exit->Act->World->Prop} (B:∀t s' g' v w',k t s'->Aft s g w s' g' w'->aI g' w' t v->K (a.put o.dst v) w') :
  o.wp E.P a w K Q\/(o.asks E.P a w/\LetsOut Q):=by
 have e:=eY hf d;cases b with
 |len=>
  left
  match args,d,e,h with
  |[x],d,e,h=>
   have F:c.args.size=1:=by have:=e.1;grind
   obtain⟨arr,j⟩:∃u,c.args=#[u]:=⟨c.args[0],by
    grind⟩
   have m:aI g w x (a.eval arr):=e.2 0 _ _ rfl (by simp[j]);obtain⟨v,hv,I,rfl⟩:=JO (rt:=o.type) hs l.ti h z m;unfold Oper.wp;have f:(execOp a.eval o).run E.P w=.ok (.value v) w:=by
    simp_all[execOp,resolve,invoke,builtin]
   rw[f];exact B t s' g v w A (Aft.refl hs) I
  |[],_,_,h=>simp[fM]at h|_::_::_,_,_,h=>simp[fM]at h
 |append=>
  match args,d,e,h with
  |[x,y],d,e,h=>
   have F:c.args.size=2:=by have:=e.1;grind
   obtain⟨u,v,j⟩:∃u v,c.args=#[u,v]:=⟨c.args[0],c.args[1],by
    grind⟩
   have m:aI g w x (a.eval u):=e.2 0 _ _ rfl (by simp[j]);have P:aI g w y (a.eval v):=e.2 1 _ _ rfl (by simp[j]);simp[fM]at h;split at h;rename_i ty R S;split at h;rename_i hi hj;split at h;rename_i n;have zB:c.argTypes=#[ty,R]:=by
    grind
   have q:=yW (rt:=o.type) (l.ti _ _ hi) (l.ti _ _ hj) ⟨_,_,_,_,n⟩ hs h z m P
   let ⟨r,w',f,g',h1,h2,h3⟩:=q
   left
   unfold Oper.wp;have i:(execOp a.eval o).run E.P w=.ok (.value r) w':=by
    simp_all[execOp,resolve,invoke,builtin]
   rw[i]
   let ⟨e1,e2,e3⟩:=Si h
   exact B t s' g' r w' A ⟨h1,h2,e1,e2,e3⟩ h3;cases h;cases h;cases h
  |[],_,_,h=>simp[fM]at h|[_],_,_,h=>simp[fM]at h|_::_::_::_,_,_,h=>simp[fM]at h
 |_=>simp[fM]at h
end
end
section
section
variable {g:Gh}{w:World}
def YE{E:Env}(j:Qh E){fr:Fr}{s s':St}{a:Act}(hf:cU g fr a w)(hs:aY g s w){o:Oper}{c:Call}(e:o.op=.call c)(k:c.callee=.builtin .len){args:L T}
  (b:yL fr c.args.toList=Z args) {p:Prop} {t:T} (h:fM E s .len c.argTypes args=Z (p,t,s')) (l:p) :
  s'=s/\∃v,(execOp a.eval o).run E.P w=.ok (.value v) w/\aI g w t v:=by
 have d:=eY hf b
 match args,b,d,h with
 |[x],b,d,h=>
  have m:c.args.size=1:=by have:=d.1;simpa using this.symm
  obtain⟨arr,f⟩:∃u,c.args=#[u]:=⟨c.args[0],by
   apply Array.ext;simp[m];intro i h1 h2;have:i=0:=by omega
   subst this;rfl⟩
  have n:aI g w x (a.eval arr):=d.2 0 _ _ rfl (by simp[f]);obtain⟨v,q,r,rfl⟩:=JO (rt:=o.type) hs j.ti h l n;exact⟨rfl,v,by simp[execOp,e,resolve,k,invoke,builtin,f,q],r⟩
 |[],_,_,h=>simp[fM]at h|_::_::_,_,_,h=>simp[fM]at h
end
end
section
abbrev WR(r:O Nat):Fence:={Fence.wide with round:=r}
section
variable {P:Program}{r:Option Nat}
def gu{m a:Machine}:StepsIn (Machine.fenced P (WR r)) P m a↔Steps P m a:=stepsIn_wide
variable {n id:Nat}{f:FuncId}{args tmps:Array Value}{R:Ending->World->Prop}{next:Act->World->Prop}{Q:Exit->Act->World->Prop}{fn:Func}
def RR{w:World}:CallsIn (WR r) n P f args w R↔Calls P f args w R:=
 (callsIn_wide (n:=n):CallsIn Fence.wide n P f args w R↔_)
def Nr(n:Nat):(WR r).room n:=room_wide n
def aiZ{row:String}{w:World}{R:Value->World->Prop}(h:Rows P row args w R):RowsIn (WR r) n P row args w R:=
 λc cs _=>let ⟨v,a,b,d⟩:=h c cs;⟨v,a,b,gu.2 d⟩
def OpR(r:O Nat)(P:Program)(o:Oper)(a:Act)(w:World)(next:Act->World->Prop)(Q:Exit->Act->World->Prop):Prop:=
 o.uponIn (WR r) 0 P a next Q ((o.semAt r a.eval).run P w)\/(o.asks P a w/\(r≠Y->∀c,o.op≠.defer c)/\LetsOut Q)
def OpR.of_wp{o:Oper}{a:Act}{w:World}(e:r≠Y->∀c,o.op≠.defer c)(h:o.wp P a w next Q\/(o.asks P a w/\LetsOut Q)):OpR r P o a w next Q:=by
 obtain h|⟨h1,h2⟩:=h
 .left
  have b:o.semAt r a.eval=execOp a.eval o:=by cases r with|none=>rfl|some l=>grind[Oper.semAt_eq]
  rw[b];unfold Oper.wp at h;generalize(execOp a.eval o).run P w=res at h;cases res with
  |ok x g=>cases x with|enter f args=>exact⟨λh=>by simp[Fence.wide]at h,RR.2 h⟩|row row args=>exact⟨λh=>by simp[Fence.wide]at h,aiZ h⟩|value v=>exact h|skip=>exact h|defer d=>exact h|_=>exact h.elim
  |halt x g=>cases x<;>exact h
 exact .inr ⟨h1,e,h2⟩
theorem OpR.mono{o:Oper}{a:Act}{w:World}{next b:Act->World->Prop}{Q:Exit->Act->World->Prop}(hn:∀a w,next a w->b a w)(h:OpR r P o a w next Q):OpR r P o a w b Q:=by
 obtain h|h:=h
 .left
  generalize(o.semAt r a.eval).run P w=res at h;cases res with
  |ok x j=>cases x with|enter f args=>exact⟨h.1,h.2.mono λe g c=>by cases e<;>first|exact hn _ _ c|exact c⟩|row row args=>exact⟨h.1,h.2.mono λ_ _ c=>hn _ _ c⟩|round l f tmps assign i=>exact⟨h.1,h.2.mono λe g c=>by cases e<;>first|exact hn _ _ c|exact c⟩|value v=>exact hn _ _ h|skip=>exact hn _ _ h|defer d=>exact hn _ _ h|_=>exact h
  |halt x j=>cases x<;>exact h
 exact .inr h
abbrev aeh(r:O Nat)(P:Program):=ArrivesIn (Machine.fenced P (WR r)) P
section
variable {b:Frame}{a:Act}{k:List Item}{cs:List Frame}{w:World}{ops:Array Oper}{i:Nat}{rest:List Nat}{o:Oper}
def Vo(n:b.roundOf=r)(z:r≠Y->∀c,o.op≠.defer c)(s:ops[i]?=Z o)(t:Region.wanted o (yielded ops a.tmps)=W)(u:b.kind≠.early)(h:o.asks P a w) :
  Outgrown P (lone (b.atR a (.inRegion ops (i::rest)::k)) cs w):=by
 have m:o.semAt b.roundOf a.eval=execOp a.eval o:=by rw[n];cases r with|none=>rfl|some l=>grind[Oper.semAt_eq]
 have q:=stepGR_op (P:=P) (b:=b) (k:=k) (cs:=cs) (w:=w) (rest:=rest) s t;rw[m]at q;have p:noRoomEvent∈(stepG P W {frame:=b.atR a (.inRegion ops (i::rest)::k),callers:=cs,status:=.running,dying:=Y} w).es:=by
  rw[q];have v:((b.atR a (.inRegion ops (i::rest)::k)).kind==CallKind.early)=J:=by simpa[Frame.atR]using u
  have A:noRoomEvent∈Sem.events P (execOp a.eval o) w #[]:=h.1;simp only[stepG.apply,Sem.runT_eq,ki,v,ND,jP];rw[GStep.es_after];refine Array.mem_append.2 (.inl (seen_keeps P _ _ ?_));have x:=h.2
  grind
 refine Outgrown.now (o:={g:=0,fn:=(b.atR a (.inRegion ops (i::rest)::k)).fn,pos:=(b.atR a (.inRegion ops (i::rest)::k)).place,act:=.mark .noRoom}) ?_ rfl rfl;rw[stepT,move_lone];refine runT_lists P _ 0 {frame:=b.atR a (.inRegion ops (i::rest)::k),callers:=cs,status:=.running,dying:=Y} (by simp[lone]) _ ?_;exact mem_ofEvents (e:=noRoomEvent) (by simpa[lone]using p)
def Yh(y:b.roundOf=r)(C:ops[i]?=Z o)(K:Region.wanted o (yielded ops a.tmps)=W)(h:OpR r P o a w next Q) :
  (∃a' w',next a' w'/\Steps P (lone (b.atR a (.inRegion ops (i::rest)::k)) cs w) (lone (b.atR a' (.inRegion ops rest::k)) cs w'))\/
  ∃e a' w',Q e a' w'/\aeh r P (lone (b.atR a (.inRegion ops (i::rest)::k)) cs w) b k cs e a' w':=by
 obtain h|⟨h1,h2,s,t,u⟩:=h
 rotate_left;by_cases R:b.kind=.early;exact .inr ⟨.outgrown,s,t,u,.inl R⟩;exact .inr ⟨.outgrown,s,t,u,.inr (Vo y h2 C K R h1)⟩;have S:=stepGR_op (P:=P) (b:=b) (k:=k) (cs:=cs) (w:=w) (rest:=rest) C K;rw[y]at S;have q:∀v,(b.atR a (.inRegion ops (i::rest)::k)).finish v=b.atR (a.put o.dst v) (.inRegion ops rest::k):=λv=>by rw[Frame.finish_atR,C];rfl
 generalize z:(o.semAt r a.eval).run P w=res at h;have enter:∀{fr:Frame}{w1:World},(stepG P W {frame:=b.atR a (.inRegion ops (i::rest)::k),callers:=cs,status:=.running,dying:=Y} w).bare=.go {frame:=fr,callers:=b.atR a (.inRegion ops (i::rest)::k)::cs,status:=.running,dying:=Y} w1->
   step P (lone (b.atR a (.inRegion ops (i::rest)::k)) cs w)=.next (lone fr (b.atR a (.inRegion ops (i::rest)::k)::cs) w1):=λh=>step_lone_go h
 cases res with
 |ok x w1=>cases x with
  |value v=>exact .inl ⟨_,_,h,.one (step_lone_go (by simp_all[stepG.apply]))⟩
  |skip=>exact .inl ⟨_,_,h,.one (step_lone_go (by simp_all[stepG.apply]))⟩
  |defer d=>have A:=Frame.finish_atR b {a with defers:=d::a.defers} ops i rest k undef;rw[C]at A;refine .inl ⟨_,_,h,.one (step_lone_go ?_)⟩;rw[S];simp only[stepG.apply,Sem.runT_eq,z,GStep.bare_after];exact eu (λfr=>GStep.go {frame:=fr,callers:=cs,status:=.running,dying:=Y} w1) A
  |enter f args=>
   obtain⟨e,F,fr,n,c,_,p⟩:=RR.1 h.2 (b.atR a (.inRegion ops (i::rest)::k)::cs);have h1:=enter (fr:=Frame.enter P f args .normal) (w1:=w1) (by simp_all[stepG.apply,Frame.atR]);cases e with|returned v=>exact .inl ⟨_,_,n,.head h1 (c.trans (.one (by grind[step_leave_returned])))⟩|panicked I=>exact .inr ⟨.panic I,a,F,n,.inRegion ops (i::rest)::k,gu.2 (.head h1 (c.trans (.one (by rw[<-Frame.raise_atR];exact step_leave_panicked p))))⟩|outgrown=>obtain⟨s,t,u⟩:=n;exact .inr ⟨.outgrown,s,t,u,.inr (Outgrown.of_steps (.one h1) c)⟩
  |row row args=>obtain⟨v,F,n,c⟩:=h.2 (b.atR a (.inRegion ops (i::rest)::k)) cs (Nr _);have h1:=enter (fr:=Frame.ofRow P row args .normal) (w1:=w1) (by simp_all[stepG.apply,Frame.atR]);exact .inl ⟨_,_,n,.head h1 (by rw[<-q];exact gu.1 c)⟩
  |round l f tmps assign B=>
   obtain⟨e,F,n,c⟩:=h.2.2 (b.atR a (.inRegion ops (i::rest)::k)) cs (Nr _);have h1:=enter (fr:=Frame.round l f tmps assign B .normal) (w1:=w1) (by simp_all[stepG.apply,Frame.atR]);cases e with|returned v=>exact .inl ⟨_,_,n,.head h1 (by rw[<-q];exact gu.1 c)⟩|panicked I=>exact .inr ⟨.panic I,a,F,n,.inRegion ops (i::rest)::k,gu.2 (.head h1 (by rw[<-Frame.raise_atR];exact gu.1 c))⟩|outgrown=>obtain⟨s,t,u⟩:=n;exact .inr ⟨.outgrown,s,t,u,.inr (Outgrown.of_steps (.one h1) c)⟩
  |_=>exact h.elim
 |halt x w1=>cases x with
  |panic v=>
   refine .inr ⟨_,a,w1,h,.inRegion ops (i::rest)::k,gu.2 (.one (step_lone_go ?_))⟩
   simp_all[Frame.raise_atR,stepG.apply]
  |_=>exact h.elim
end
def xk(r:O Nat)(P:Program)(ops:Array Oper)(Q:Exit->Act->World->Prop):L Nat->Act->World->Prop
 |[],a,w=>Q .normal a w|i::rest,a,w=>match ops[i]? with
  |none=>xk r P ops Q rest a w|some o=>if Region.wanted o (yielded ops a.tmps)then OpR r P o a w (xk r P ops Q rest) Q else xk r P ops Q rest (a.put o.dst undef) w
def nN{ops:Array Oper}{Q:Exit->Act->World->Prop}:∀(l:L Nat)(a:Act)(w:World),xk r P ops Q l a w->∀(b:Frame)(k:L Item)(cs:L Frame),b.roundOf=r->
  ∃e a' w',Q e a' w'/\aeh r P (lone (b.atR a (.inRegion ops l::k)) cs w) b k cs e a' w'
 |[],a,w,h,b,k,cs,_=>⟨.normal,a,w,h,gu.2 (.one stepR_region_end)⟩|i::rest,a,w,h,b,k,cs,d=>by
  simp only[xk]at h;cases g:ops[i]? with
  |none=>simp only[g]at h;obtain⟨e,a',w',j,c⟩:=nN rest a w h b k cs d;have f:=stepR_op_skip (P:=P) (b:=b) (a:=a) (k:=k) (cs:=cs) (w:=w) (ops:=ops) (i:=i) (rest:=rest) (by simp[g]);simp only[g,Option.bind_none,Act.put]at f;exact⟨e,a',w',j,.of_steps (gu.2 (.one f)) c⟩
  |some o=>
   simp only[g]at h;by_cases m:Region.wanted o (yielded ops a.tmps)=W;simp only[m,ki]at h;obtain⟨a1,n,p,f⟩|q:=Yh (k:=k) (cs:=cs) (rest:=rest) d g m h
   obtain⟨e,a',w',j,c⟩:=nN rest a1 n p b k cs d;exact⟨e,a',w',j,.of_steps (gu.2 f) c⟩;exact q;simp only[m,jP,ND]at h;obtain⟨e,a',w',j,c⟩:=nN rest _ w h b k cs d;have f:=stepR_op_skip (P:=P) (b:=b) (a:=a) (k:=k) (cs:=cs) (w:=w) (ops:=ops) (i:=i) (rest:=rest) (by simp_all);simp only[g,Tp]at f;exact⟨e,a',w',j,.of_steps (gu.2 (.one f)) c⟩
def Xv{ops:Array Oper}{a:Act}{w:World}(h:xk r P ops Q (List.range ops.size) a w):(Code.region id ops J).wpIn (WR r) 0 P Q a w:=
 λb k cs d _ _=>let ⟨e,f,g,i,c⟩:=nN _ a w h b k cs d;⟨e,f,g,i,.of_steps (gu.2 (.one stepR_region)) c⟩
def CO(r:O Nat)(P:Program)(ops:Array Oper)(Q:Exit->Act->World->Prop)(i:Nat)(K:Act->World->Prop)(a:Act)(w:World):Prop:=
 match ops[i]? with
 |none=>K a w|some o=>if Region.wanted o (yielded ops a.tmps)then OpR r P o a w K Q else K (a.put o.dst undef) w
theorem CO.mono{ops:Array Oper}{Q:Exit->Act->World->Prop}{i:Nat}{a:Act}{w:World}{K c:Act->World->Prop}(h:∀a w,K a w->c a w)(b:CO r P ops Q i K a w):CO r P ops Q i c a w:=by
 unfold CO at *
 split
 simp_all
 rename_i d;simp only[d]at b;split;rename_i e;simp only[e,ki]at b;exact b.mono h
 simp_all
def aei(r:O Nat)(P:Program)(ops:Array Oper)(Q:Exit->Act->World->Prop):Nat->Array Bool->Act->World->Prop
 |0,b,a,w=>Region.ready .any ops b=[]/\Q .normal a w|fuel+1,b,a,w=>(Region.ready .any ops b=[]->Q .normal a w)/\
  ∀i∈Region.ready .any ops b,CO r P ops Q i (aei r P ops Q fuel (b.setIfInBounds i W)) a w
def Vq{ops:Array Oper}(i:Nat)(rest:L Nat)(a:Act)(w:World):xk r P ops Q (i::rest) a w=CO r P ops Q i (xk r P ops Q rest) a w:=by cases h:ops[i]?<;>simp[xk,CO,h]
def HS{ops:Array Oper}{Q:Exit->Act->World->Prop}:∀(fuel t:Nat)(b:Array Bool)(a:Act)(w:World),aei r P ops Q fuel b a w->xk r P ops Q (Region.linearise.go .any ops fuel t b []) a w
 |0,t,b,a,w,h=>by simpa[Region.linearise.go,xk]using h.2
 |fuel+1,t,b,a,w,h=>by
  obtain⟨e,f⟩:=h;simp only[Region.linearise.go];change xk r P ops Q (match(Region.ready .any ops b)[t%(Region.ready .any ops b).length]? with
   |some i=>Region.linearise.go .any ops fuel (t/(Region.ready .any ops b).length) (b.setIfInBounds i W) [i]|none=>[].reverse) a w
  generalize Region.ready .any ops b=l at *
  cases l with|nil=>simpa[xk]using e rfl|cons x d=>have c:t%(x::d).length<(x::d).length:=Nat.mod_lt _ (by simp);rw[iX c];dsimp only;rw[linearise_go_acc,List.reverse_singleton,Lf,Vq];exact(f _ (NF c)).mono λa w=>HS fuel _ _ a w
def Nv{ops:Array Oper}{a:Act}{w:World}(f:P.follows .mixedOrders=W)
  (h:aei r P ops Q ops.size (Array.replicate ops.size J) a {w with drawn:=w.drawn+1}):(Code.region id ops W).wpIn (WR r) 0 P Q a w:=by
 intro b k cs d _ _;have h2:∀t,xk r P ops Q (Region.schedule (P.follows .mixedOrders) ops t) a {w with drawn:=w.drawn+1}:=λt=>by simp only[Region.schedule,f,Bool.true_or,ki];exact HS ops.size t _ a _ h
 obtain⟨e,g,i,j,c⟩:=nN _ a _ (h2 _) b k cs d;exact⟨e,g,i,j,.of_steps (gu.2 (.one stepR_region_draw)) c⟩
def aeF:Exit->O (O Code)
 |.normal=>Z Y|.ret=>Z (Z .ret)|.exit i=>Z (Z (.exit i))|_=>Y
def Xt(P:Program)(l:Nat)(R:Ending->World->Prop)(e:Exit)(_:Act)(w:World):Prop:=
 (e=.outgrown/\R .outgrown w)\/∃j,aeF e=Z j/\∃v w',(Instr.endRound l j).run P w=.ok v w'/\R (.returned v) w'
def afK{l:Nat}{assign d:Code}{w:World}
  (h:assign.wpIn (WR (Z l)) 0 P (Exit.then (λt z=>∃u,(Instr.beginRound l).run P z=.ok () u/\d.wpIn (WR (Z l)) 0 P (Xt P l R) t u) (λe _ w=>e=.outgrown/\R .outgrown w)) {tmps:=tmps,defers:=[]} w) {n:Nat} :
  RoundIn (WR r) n P l f tmps assign d w R:=by
 refine⟨trivial,λc cs _=>?_⟩
 let b:Frame:={(default:Frame)with fn:=f,kind:=.normal,roundOf:=Z l}
 have A:Frame.round l f tmps assign d .normal=b.atR {tmps:=tmps,defers:=[]} [.code assign,.beginRound,.code d]:=by rfl
 obtain⟨e,t,z,F,g⟩:=h b [.beginRound,.code d] (c::cs) rfl trivial (Nr _);rw[<-A]at g;have out:∀{e:Exit}{a:Act}{m:World},(e=.outgrown/\R .outgrown m)->aeh (Z l) P (lone (Frame.round l f tmps assign d .normal) (c::cs) w) b [.beginRound,.code d] (c::cs) e a m->
   ∃e m,R e m/\ComesIn (Machine.fenced P (WR r)) P (lone (Frame.round l f tmps assign d .normal) (c::cs) w) (match e with|.returned v=>lone (c.finish v) cs m|.panicked chain=>lone (c.raise chain) cs m|.outgrown=>lone c cs m) e:=by
  rintro e a m ⟨rfl,s⟩ g
  exact⟨.outgrown,m,s,g.resolve_left (by simp[b])⟩
 cases e with
 |normal=>
  obtain⟨u,B,o⟩:=F;have x:Steps P (lone (b.atR t [.beginRound,.code d]) (c::cs) z) (lone (b.atR t [.code d]) (c::cs) u):=.one (stepR_beginRound rfl B);obtain⟨I,a₂,K,p,i⟩:=o b [] (c::cs) rfl trivial (Nr _);obtain⟨rfl,p⟩|⟨j,y,v,C,k,s⟩:=p
  exact⟨.outgrown,K,p,Outgrown.of_steps ((gu.1 g).trans x) (i.resolve_left (by simp[b]))⟩;cases I with
  |normal=>cases y;exact⟨.returned v,C,s,gu.2 ((gu.1 g).trans (x.trans ((gu.1 i).trans (.one (stepR_round_end rfl rfl k)))))⟩
  |ret=>cases y;obtain⟨Q,E⟩:=i.2 rfl;exact⟨.returned v,C,s,gu.2 ((gu.1 g).trans (x.trans ((gu.1 E).trans (.one (stepR_round_ret rfl rfl k)))))⟩
  |exit id=>cases y;obtain⟨Q,S,E⟩:=i.2 rfl rfl;exact⟨.returned v,C,s,gu.2 ((gu.1 g).trans (x.trans ((gu.1 E).trans (.one (stepR_round_exit rfl rfl S k)))))⟩
  |_=>cases y
 |_=>exact out F g
def nh(P:Program)(fn:Func)(tmps:Array Value)(R:Ending->World->Prop):L Deferred->FrameMode->World->Prop
 |[],.returning,w=>∃v,(results fn tmps).run P w=.ok v w/\R (.returned v) w|[],.panicking chain,w=>R (.panicked chain) w|[],.run,_=>False|d::ds,u,w=>u≠.run/\((∃b a,d.target=.collected b/\(Instr.takeDeferred b).run P w=.ok [] a/\nh P fn tmps R ds u a)\/
   ∃e cap f args,d.target=.fn e cap/\(invoke d.target d.args).run P w=.ok (.enter f args) w/\CallsD P f args u w λ
    |.returned _,c,a=>nh P fn tmps R ds (settle c) a|.panicked chain,c,a=>nh P fn tmps R ds (raised c chain) a|.outgrown,_,a=>R .outgrown a)
def sE:∀(ds:L Deferred)(u:FrameMode)(w:World)(fr:Frame)(cs:L Frame),fr.mode=u->fr.defers=ds->fr.tmps=tmps->P.funcs[fr.fn]?=Z fn->fr.kind=.normal->nh P fn tmps R ds u w->
  ∃e w' fr',R e w'/\Comes P (lone fr cs w) (lone fr' cs w') e/\fr'.fn=fr.fn/\fr'.leaving P w' e:=by
 intro ds
 induction ds with
 |nil=>
  intro u w fr cs l x y t z h;cases u with
  |run=>exact h.elim|returning=>obtain⟨v,Q,m⟩:=h;exact⟨.returned v,w,fr,m,Steps.refl P _,rfl,l,x,z,fn,t,y▸Q⟩
  |panicking chain=>exact⟨.panicked chain,w,fr,h,Steps.refl P _,rfl,l,x,fn,t⟩
 |cons d ds F=>
  intro u w fr cs l x y t z h;obtain⟨j,h⟩:=h;obtain⟨b,w',g,n,o⟩|⟨fv,cap,f,args,g,A,p⟩:=h
  have h1:=step_collected (cs:=cs) (l▸j) x g n;obtain⟨B,C,fr',m,S,I,hl⟩:=F u w' {fr with defers:=[]++ds} cs l rfl y t z o;exact⟨B,C,fr',m,Comes.of_steps (.one h1) S,I,hl⟩;have h1:=step_defer (cs:=cs) (l▸j) x g A;obtain⟨e,k,w',frX,m,a,K,E⟩:=p {fr with defers:=ds} cs l;cases e with
  |returned v=>have h2:=step_going_returned (c:={{fr with defers:=ds}with mode:=k}) (cs:=cs) K E;obtain⟨B,C,fr',q,r,i,s⟩:=F (settle k) w' {{{fr with defers:=ds}with mode:=k}with mode:=settle k} cs rfl rfl y t z m;exact⟨B,C,fr',q,Comes.of_steps (.head h1 (Steps.trans a (.one h2))) r,i,s⟩
  |panicked chain=>have h2:=step_going_panicked (c:={{fr with defers:=ds}with mode:=k}) (cs:=cs) E;obtain⟨B,C,fr',q,r,i,s⟩:=F (raised k chain) w' {{{fr with defers:=ds}with mode:=k}with mode:=raised k chain} cs rfl rfl y t z m;exact⟨B,C,fr',q,Comes.of_steps (.head h1 (Steps.trans a (.one h2))) r,i,s⟩
  |outgrown=>exact⟨.outgrown,w',fr,m,Outgrown.of_steps (.one h1) a,rfl,trivial⟩
def aeZ(P:Program)(fn:Func)(R:Ending->World->Prop):Exit->Act->World->Prop
 |.normal,a,w|.ret,a,w=>nh P fn a.tmps R a.defers .returning w|.panic chain,a,w=>nh P fn a.tmps R a.defers (.panicking chain) w|.outgrown,_,w=>R .outgrown w|_,_,_=>False
def sO{c:Code}{w:World}(hf:P.funcs[f]?=Z fn)(v:fn.body=Z c)
  (h:c.wpIn (WR Y) 0 P (aeZ P fn R) {tmps:=args++Array.replicate (fn.ntmps-args.size) undef,defers:=[]} w):Calls P f args w R:=by
 intro cs
 let b:Frame:={(default:Frame)with fn:=f,kind:=.normal}
 have j:Frame.enter P f args .normal=b.at {tmps:=args++Array.replicate (fn.ntmps-args.size) undef,defers:=[]} [.code c]:=by simp[Frame.enter,Frame.at,hf,v,b]
 obtain⟨e,n,u,o,a⟩:=wpIn_wide.1 h b [] cs;rw[<-j]at a;cases e with
 |normal=>obtain⟨p,q,d,r,s,g,t⟩:=sE n.defers .returning u {b.at n []with mode:=.returning} cs rfl rfl rfl hf rfl o;exact⟨p,q,d,r,Comes.of_steps (Steps.trans a (.one step_end)) s,g,t⟩
 |ret=>obtain⟨i,m⟩:=a;obtain⟨p,q,d,r,s,g,t⟩:=sE n.defers .returning u {b.at n i with mode:=.returning} cs rfl rfl rfl hf rfl o;exact⟨p,q,d,r,Comes.of_steps m s,g,t⟩
 |panic chain=>obtain⟨i,m⟩:=a;obtain⟨p,q,d,r,s,g,t⟩:=sE n.defers (.panicking chain) u {b.at n i with mode:=.panicking chain} cs rfl rfl rfl hf rfl o;exact⟨p,q,d,r,Comes.of_steps m s,g,t⟩
 |exit id=>exact o.elim|goto l=>exact o.elim|outgrown=>exact⟨.outgrown,u,b,o,a.resolve_left (by simp[b]),rfl,trivial⟩
end
end
section
section
variable {g:Gh}{w:World}
variable {s:St}{E:Env}{fr:Fr}{a:Act}
def Ra{i:TI}{x:T}{vx:Value}{r:Prop×T×St}(h:loadT i s x=Z r)(a:aI g w x vx):∃ad,vx=.pointer (Z ad):=by cases a with|ptr o off b c=>grind|mc=>grind|l9=>grind|_=>simp[loadT]at h
def abS(tmps:Array Value):ResultVar->Sem Value
 |.tmp t=>pure (tmps.getD t undef)|.cell a t=>do loadVar t (<-asAddr (tmps.getD a undef))
def qK{E:Env}(c:Bu E){fr:Fr}{s:St}{a:Act}(hf:cU g fr a w)(hs:aY g s w):∀{l:L ResultVar}{p:Prop}{ts:L T},mU E s fr l=Z (p,ts)->p->
  ∃vs,(l.mapM (abS a.tmps)).run E.P w=.ok vs w/\PW (aI g w) ts vs
 |[],p,ts,h,b=>by obtain⟨_,rfl⟩:=h;exact⟨[],rfl,rfl,λj t v h=>by simp at h⟩
 |.tmp t::l,p,ts,h,b=>by
  simp[mU]at h;split at h;rename_i x q r d e;obtain⟨rfl,rfl⟩:=h
  let ⟨vs,h1,h2⟩:=qK c hf hs e b
  let ⟨v,y,f⟩:=hf.tm t x d
  refine⟨v::vs,?_,by simp[h2.1],λj i k m n=>?_⟩
  simp_all[abS]
  .cases j with|zero=>simp_all|succ j=>exact h2.2 j i k (by simpa using m) (by simpa using n)
  cases h
 |.cell z t::l,p,ts,h,b=>by
  simp[mU]at h;split at h;rename_i x A d;split at h;rename_i o e;obtain⟨rfl,rfl⟩:=h
  let ⟨vs,h1,h2⟩:=qK c hf hs e b.2
  let ⟨v,y,f⟩:=hf.tm z x d
  let ⟨u,I,B,_⟩:=DD (c.ti _ _ A) hs f o b.1
  obtain⟨C,rfl⟩:=Ra o f;have F:(loadVar t C).run E.P w=.ok u w:=by grind[Instr.loadAt,Instr.sureAddr]
  refine⟨u::vs,?_,by simp[h2.1],λj i k m n=>?_⟩
  simp_all[abS,asAddr]
  .cases j with|zero=>simp_all|succ j=>exact h2.2 j i k (by simpa using m) (by simpa using n)
  cases h;cases h
def Nn(c:Bu E)(hf:cU g fr a w)(hs:aY g s w){fn:Func}{p:Prop}{ts:L T}(h:mU E s fr fn.results.toList=Z (p,ts))(d:p) :
  ∃v,(results fn a.tmps).run E.P w=.ok v w/\aI g w (afC ts) v:=by
 let ⟨b,h1,h2⟩:=qK c hf hs h d
 refine⟨if h:b.toArray.size=1 then b.toArray[0]else .tuple b.toArray,?_,?_⟩;have e:results fn a.tmps=(do
   let b <-fn.results.mapM (abS a.tmps)
   pure (if h:b.size=1 then b[0]else .tuple b)):=by
  rfl
 simp_all[Array.mapM_eq_mapM_toList]
 match ts,b,h2 with
 |[],[],_=>exact .gR _ _ rfl (λj t v h=>by simp at h)
 |[t],[v],h2=>exact h2.2 0 t v rfl rfl|t::f::ts,v::i::b,h2=>simp only[afC,Tt,lR];exact .gR _ _ (by simpa using h2.1) (λj t v h3 h4=>h2.2 j t v h3 (by simpa using h4))
 |[],_::_,h2=>exact absurd h2.1 (by simp)
 |_::_,[],h2=>exact absurd h2.1 (by simp)
 |[_],_::_::_,h2=>exact absurd h2.1 (by simp)
 |_::_::_,[_],h2=>exact absurd h2.1 (by simp)
def GJ:∀(l:L T)(k:Nat)(t:Tr T),k+l.length<=bM->∀j,(Ch l k t).get j=if k<=j/\j<k+l.length then l[j-k]? else t.get j
 |[],k,t,_,j=>by
  have:¬(k<=j/\j<k+([]:L T).length):=by simp
  rw[bQ this];rfl
 |a::l,k,t,h,j=>by
  simp at h;simp only[Ch];rw[GJ l (k+1) _ (by omega),Tr.aV _ _ _ _ (by omega)]
  grind
end
end
section
inductive Ty where
 |int (k:IntKind)|bool|str|sl (e:Ty)|st (n:Nat)|dj (n:Nat)|opt (n:Nat)|mp (k v:Ty)
 deriving Inhabited
def sr:Ty->Ty->Bool
 |.int j,.int k=>oU j k|.bool,.bool=>W|.str,.str=>W|.sl a,.sl b=>sr a b|.st m,.st n=>Nq m n|.dj m,.dj n=>Nq m n|.opt m,.opt n=>Nq m n|.mp a b,.mp c d=>sr a c&&sr b d|_,_=>J
theorem jU{a:Ty}:∀{b:Ty},sr a b=W->a=b:=by
 induction a with
 |int j=>
  intro b h;cases b with
  |int k=>
   have:j=k:=by cases j<;>cases k<;>first|rfl|cases h
   rw[this]
  |_=>cases h
 |bool=>intro b h;cases b<;>first|rfl|cases h
 |str=>intro b h;cases b<;>first|rfl|cases h
 |sl e g=>
  intro b h;cases b with|sl f=>rw[g h]|_=>cases h
 |st m=>
  intro b h;cases b with|st n=>rw[vV h]|_=>cases h
 |dj m=>
  intro b h;cases b with|dj n=>rw[vV h]|_=>cases h
 |opt m=>
  intro b h;cases b with|opt n=>rw[vV h]|_=>cases h
 |mp k v g i=>
  intro b h;cases b with|mp c d=>have h:=zk.1 h;rw[g h.1,i h.2]|_=>cases h
@[reducible] def den(A:Nat->Type):Ty->Type
 |.int _=>Int|.bool=>Bool|.str=>L UInt8|.sl e=>L (den A e)|.st n=>A n|.dj n=>A n|.opt n=>O (A n)|.mp k v=>L (den A k×den A v)
@[reducible] def l7(A:Nat->Type):L Ty->Type
 |[]=>U|t::l=>den A t×l7 A l
@[reducible] def yu(A:Nat->Type):L (TypeId×Ty)->Type
 |[]=>U|p::l=>Sum (den A p.2) (yu A l)
def nB:L (TypeId×Ty)->Nat->Ty
 |[],_=>.bool|p::_,0=>p.2|_::l,i+1=>nB l i
def xh:L (TypeId×Ty)->TypeId->O Nat
 |[],_=>Y|p::l,t=>bif Nq p.1 t then Z 0 else match xh l t with
  |some i=>Z (Ns i)|none=>Y
def YU{A:Nat->Type}:(l:L (TypeId×Ty))->(i:Nat)->den A (nB l i)->yu A l
 |[],_,_=>()|_::_,0,x=>.inl x|_::l,i+1,x=>.inr (YU l i x)
def Yn{A:Nat->Type}:(l:L (TypeId×Ty))->yu A l
 |[]=>()|_::l=>.inr (Yn l)
def isNil{A:Nat->Type}:(l:L (TypeId×Ty))->yu A l->Bool
 |[],_=>W|_::_,.inl _=>J|_::l,.inr y=>isNil l y
def kB{A:Nat->Type}:(l:L (TypeId×Ty))->Nat->yu A l->Bool
 |[],_,_=>J|_::_,0,.inl _=>W|_::_,0,.inr _=>J|_::_,_+1,.inl _=>J|_::l,i+1,.inr y=>kB l i y
def jf{A:Nat->Type}(z:(t:Ty)->den A t):(l:L (TypeId×Ty))->(i:Nat)->yu A l->den A (nB l i)
 |[],_,_=>z .bool|_::_,0,.inl x=>x|p::_,0,.inr _=>z p.2|_::l,i+1,.inl _=>z (nB l i)|_::l,i+1,.inr y=>jf z l i y
structure Sg where
 A:Nat->Type
 fs:Nat->List Ty
 dfl:(n:Nat)->A n
 get:(n:Nat)->A n->l7 A (fs n)
 ET:(n:Nat)->l7 A (fs n)->A n
 cells:(n:Nat)->A n->List D
 alts:Nat->List (TypeId×Ty)
 uO:(n:Nat)->A n->yu A (alts n)
 imk:(n:Nat)->yu A (alts n)->A n
 rZ:(n:Nat)->A n->Option (TypeId×D)
 pt:Ty
variable {S:Sg}
def Sg.zero(S:Sg):(t:Ty)->den S.A t
 |.int _=>(0:Int)|.bool=>J|.str=>([]:L UInt8)|.sl _=>[]|.st n=>S.dfl n|.dj n=>S.imk n (Yn (S.alts n))|.opt _=>Y|.mp _ _=>[]
def cq(s:L UInt8):ByteArray:=⟨s.toArray⟩
def ofBytes(b:ByteArray):L UInt8:=b.data.toList
def Qn:O (TypeId×D)->D
 |none=>.lit .nilIface|some p=>.dj p.1 p.2
def ptD:O D->D
 |none=>.lit (.pointer Y)|some d=>.pt d
def enc(S:Sg):(t:Ty)->den S.A t->D
 |.int k,n=>.lit (.int k n)|.bool,b=>.lit (.bool b)|.str,s=>.lit (.string (cq s))|.sl e,l=>.sl (l.map (enc S e))|.st n,x=>.agg (S.cells n x)|.dj n,x=>Qn (S.rZ n x)|.opt n,x=>ptD (x.map λy=>.agg (S.cells n y))|.mp k v,l=>.mp (l.map λp=>enc S k p.1) (l.map λp=>enc S v p.2)
def e9(S:Sg):(ts:L Ty)->l7 S.A ts->L D
 |[],_=>[]|t::l,x=>enc S t x.1::e9 S l x.2
def kV:Ty->Bool|.st _=>W|_=>J
def Sg.width(S:Sg):Ty->Nat|.st n=>cH (S.fs n)|_=>1
inductive V(S:Sg) where
 |ty (t:Ty) (x:den S.A t)|kb (b:Bool)|kn (k:IntKind) (n:Int)|dat (d:D)|ptr (o off:Nat)|mc (t:Ty) (x:den S.A t) (off:Nat)|l9 (o e i off:Nat)|sh (o e:Nat)|emp|kM (n:Nat) (t:Ty) (l:List (den S.A t))|fn (f:Fn) (first cap:List (V S))
 |dj (t:TypeId) (v:V S)|agg (cs:List (V S))|gR (vs:List (V S))|gd (c:Bool) (v:V S)|mp (o:Nat)|rP (o:Nat)|uo (o:Nat)|ub (e:Bool)|sC (o m r i:Nat)|qd (n j:Nat) (x:S.A n)
inductive sZ(S:Sg) where
 |call (f:V S) (args:List (V S))|mark (o:Nat)|marks (o:Nat)|kK|bad
structure ck(S:Sg) where
 n:Nat
 tm:Tr (V S)
 df:List (sZ S):=[]
structure LpV(S:Sg) where
 st:LoopState
 vW:Option Code
 fid:FuncId
 fr:ck S
 params:List Nat
 assign:Code
 body:Code
inductive vo(S:Sg) where
 |box (cs:List (V S))|arr (t:Ty) (l:List (den S.A t)) (era:Nat)|lM (t:Ty) (l:List (den S.A t)) (era:Nat)|map (kt vt:Ty) (l:List (den S.A kt×den S.A vt))|Iw (kt:Ty) (l:List (den S.A kt×V S))|rO (b:List UInt8) (pos:Nat)|lp (l:LpV S)|Ab|lT (n j:Nat) (l:List (S.A n)) (era m hU:Nat) (hole:Option Nat)|rws (t:Ty) (iU:List (List (den S.A t))) (hU:Nat)|gone|Gl
structure bp(S:Sg) where
 ob:Tr (vo S)
 aE:Nat
 fl:Nat
 lo:Nat
 wr:List Nat
 dr:List Nat
def ck.get(fr:ck S)(k:Nat):O (V S):=fr.tm.get k
def ck.put(fr:ck S)(k:Nat)(v:V S):ck S:={fr with tm:=fr.tm.set aM k v}
def ck.jr(fr:ck S)(k:O Nat)(v:V S):ck S:=match k with|some k=>fr.put k v|none=>fr
def AK:(ts:L Ty)->l7 S.A ts->L (V S)
 |[],_=>[]|t::l,x=>.ty t x.1::AK l x.2
def wC:(t:Ty)->den S.A t->L (V S)
 |.st n,x=>AK (S.fs n) (S.get n x)|.int k,x=>[.ty (.int k) x]|.bool,x=>[.ty .bool x]|.str,x=>[.ty .str x]|.sl e,x=>[.ty (.sl e) x]|.dj n,x=>[.ty (.dj n) x]|.opt n,x=>[.ty (.opt n) x]|.mp k v,x=>[.ty (.mp k v) x]
def uZ:Value->O (V S)
 |.bool b=>Z (.kb b)|.int k n=>Z (.kn k n)|.slice Y 0 0=>Z .emp|.func f a b=>match a.toList,b.toList with
  |[],[]=>Z (.fn f [] [])|_,_=>Y
 |.iface t v=>(Dz v).map λd=>.dat (.dj t d)|.string b=>Z (.ty .str (ofBytes b))|v=>(Dz v).map .dat
def zeroV:D->V S
 |.lit (.bool b)=>.kb b|.lit (.int k n)=>.kn k n|.lit (.string b)=>.ty .str (ofBytes b)|.sl []=>.emp|d=>.dat d
def YG:V S->Bool
 |.ty t _=>!(kV t)|.dat d=>d.leaf|.agg _|.gR _|.gd _ _=>J|_=>W
def Ce:L (V S)->Bool
 |[]=>W|v::l=>YG v&&Ce l
def wU(i:TI):V S->O (L (V S))
 |.agg a=>bif i.agg&&Nq (cH a) i.size then Z a else Y|.ty (.st n) x=>bif i.agg&&Nq (cH (S.fs n)) i.size then Z (AK (S.fs n) (S.get n x))else Y|.dat d=>bif i.agg then Y else bif Nq i.size 1&&d.leaf then Z [.dat d]else Y|.gR _|.gd _ _=>Y|v=>bif i.agg then Y else bif Nq i.size 1 then Z [v]else Y
def Dt(agg:Bool)(cs:L (V S)):O (V S):=
 bif agg then Z (.agg cs)else match cs with
  |[x]=>Z x|_=>Y
def cF(fr:ck S):Operand->O (V S)
 |.tmp k=>fr.get k|.const v=>uZ v|.global _=>Y|.func f=>Z (.fn (.func f) [] [])
def ko(fr:ck S):L Operand->O (L (V S))
 |[]=>Z []|x::l=>match cF fr x,ko fr l with
  |some t,Z r=>Z (t::r)|_,_=>Y
def g8(k:IntKind):V S->O Int
 |.kn j n=>bif oU j k then Z n else Y|.ty (.int j) x=>bif oU j k then Z x else Y|_=>Y
def iD:V S->O Bool
 |.kb b=>Z b|.ty .bool x=>Z x|_=>Y
def we:V S->O (L UInt8)
 |.ty .str x=>Z x|_=>Y
def wW(t u:Ty)(x:den S.A t):O (den S.A u):=
 if h:sr t u=W then Z (jU h▸x)else Y
def oM(t u:Ty)(x:L (den S.A t)):O (L (den S.A u)):=
 if h:sr t u=W then Z (jU h▸x)else Y
def Eo:(ts:L Ty)->l7 S.A ts->Nat->(t:Ty)->den S.A t->l7 S.A ts
 |[],h,_,_,_=>h| τ::_,h,0,t,y=>(match wW t τ y with|some z=>z|none=>h.1,h.2)
 |_::ts,h,j+1,t,y=>(h.1,Eo ts h.2 j t y)
def ek:(ts:L Ty)->l7 S.A ts->Nat->(t:Ty)->den S.A t
 |[],_,_,t=>S.zero t| τ::_,h,0,t=>match wW τ t h.1 with|some z=>z|none=>S.zero t
 |_::ts,h,j+1,t=>ek ts h.2 j t
def UZ(n j:Nat)(t:Ty)(x:S.A n)(y:L (den S.A t)):S.A n:=S.ET n (Eo (S.fs n) (S.get n x) j (.sl t) y)
def IT(n j:Nat)(t:Ty)(x:S.A n):L (den S.A t):=ek (S.fs n) (S.get n x) j (.sl t)
def zL(n j:Nat)(t:Ty)(l:L (S.A n)):L (L (den S.A t)):=l.map (IT n j t)
def lC(n j:Nat)(t:Ty)(l:L (S.A n))(iU:L (L (den S.A t))):L (S.A n):=List.zipWith (UZ n j t) l iU
def Eu(S:Sg)(n j:Nat)(t:Ty):Bool:=match nth (S.fs n) j with|some u=>sr u (.sl t)|none=>J
def Nm(s:bp S)(m r:Nat):O ((t:Ty)×L (L (den S.A t))):=match s.ob.get m with
 |some (.rws t a b)=>bif Nq r b then Z ⟨t,a⟩else Y|_=>Y
def KQ(s:bp S)(e:Ty):V S->O (L (den S.A e))
 |.emp=>Z []|.kM _ t l=>oM t e l|.qd n _ x=>oM (.st n) e [x]|.ty (.sl t) x=>oM t e x|.sh o r=>match s.ob.get o with
  |some (.arr t l era)|some (.lM t l era)=>bif Nq r era then oM t e l else Y|_=>Y
 |_=>Y
mutual
def bX(s:bp S):(t:Ty)->V S->O (den S.A t×L Nat)
 |t,.ty u x=>match wW u t x with
  |some y=>Z (y,[])|none=>Y
 |.bool,.kb b=>Z (b,[])|.int k,.kn j n=>bif oU j k then Z (n,[])else Y|.sl _,.emp=>Z ([],[])|.sl e,.kM _ t l=>match oM t e l with
  |some l=>Z (l,[])|none=>Y
 |.sl e,.qd n _ x=>match oM (.st n) e [x]with
  |some l=>Z (l,[])|none=>Y
 |.sl e,.sh o r=>match s.ob.get o with
  |some (.arr t l era)=>bif Nq r era then match oM t e l with|some l=>Z (l,[o])|none=>Y else Y
  |some (.lM t l era)=>bif Nq r era then match oM t e l with|some l=>Z (l,[])|none=>Y else Y
  |some (.lT n j l era m c Y)=>match Nm s m c with
   |some ⟨t,a⟩=>bif Nq r era&&(Nt m bM&&Eu S n j t)then match oM (.st n) e (lC n j t l a)with|some l=>Z (l,[o,m])|none=>Y else Y
   |none=>Y
  |_=>Y
 |.st n,.agg d=>match om s (S.fs n) d with
  |some (h,os)=>Z (S.ET n h,os)|none=>Y
 |.dj n,.dj t v=>match xh (S.alts n) t with
  |some i=>match bX s (nB (S.alts n) i) v with
   |some (y,os)=>Z (S.imk n (YU (S.alts n) i y),os)|none=>Y
  |none=>Y
 |.dj n,.dat (.lit .nilIface)=>Z (S.imk n (Yn (S.alts n)),[])|.opt _,.dat (.lit (.pointer Y))=>Z (Y,[])|_,_=>Y
def om(s:bp S):(ts:L Ty)->L (V S)->O (l7 S.A ts×L Nat)
 |[],[]=>Z ((),[])|t::ts,v::l=>match bX s t v,om s ts l with
  |some (x,os),Z (h,a)=>Z ((x,h),os++a)|_,_=>Y
 |_,_=>Y
end
def dV(s:bp S):L Nat->O (bp S)
 |[]=>Z s|o::l=>
  bif Nl s.fl o then match s.ob.get o with
   |some (.arr t a era)=>dV {s with ob:=s.ob.set aM o (.lM t a era),wr:=o::s.wr} l
   |some (.lM _ _ _)=>dV s l|some (.lT n j a era m r Y)=>match Nm s m r with
    |some ⟨t,b⟩=>bif l.contains m&&(Nl s.fl m&&(Nt m bM&&Eu S n j t))then dV {s with ob:=(s.ob.set aM m .gone).set aM o (.lM (.st n) (lC n j t a b) era),wr:=o::m::s.wr} l else Y
    |none=>Y
   |some (.rws ..)=>dV s l|some .gone=>dV s l|_=>Y
  else Y
def dn(s:bp S)(o:vo S):bp S:={s with ob:=s.ob.set aM s.aE o,aE:=Ns s.aE}
def gw(a b:L UInt8):Bool:=a==b
def cL{α:Type}(l:L α)(lo hi:Int):L α:=(l.take hi.toNat).drop lo.toNat
def ak{α:Type}(l:L α):Int:=l.length
def mP(b:L UInt8)(n:Int):Int:=(b.getD n.toNat 0).toNat
def dc{α:Type}(a b:L α):L α:=a++b
def aF{α:Type}(n:Int)(l:L α):Bool:=decide (0<=n)&&decide (n<l.length)
def dX{α:Type}(k:Nat)(l:L α):Bool:=decide (k<l.length)
def ez(lo hi len:Int):Bool:=decide (0<=lo)&&(decide (lo<=hi)&&decide (hi<=len))
def adp(a b:L UInt8):Bool:=decide (a.length+b.length<=4611686018427387904)
def dg{α:Type}(a b:L α):Bool:=decide (a.length+b.length<=17179869184)
def nzI(a:Int):Bool:=decide (a≠0)
def bh{α:Type}(l:L α)(k:Nat)(z:α):α:=l.getD k z
def lF{α:Type}(l:L α)(k:Nat)(x:α):L α:=l.set k x
def acv{α β:Type}(l:L α)(m:L β):Bool:=decide (l.length=m.length)
def Zg{α:Type}(k:Nat)(l:L α)(h i:Nat):Bool:=decide (k<l.length)&&(Nq k h&&Nq i h)
def fZ(a b:Int):Bool:=decide (a=b)
def ax(n:Int):Nat:=n.toNat
abbrev nZ(S:Sg):=O (Bool×V S×bp S)
def E2:Lk->V S->V S->O Bool
 |.int k,a,b=>match g8 k a,g8 k b with
  |some x,Z y=>Z (aa x y)|_,_=>Y
 |.bool,a,b=>match iD a,iD b with
  |some x,Z y=>Z (pJ x y)|_,_=>Y
 |.str,a,b=>match we a,we b with
  |some x,Z y=>Z (gw x y)|_,_=>Y
 |.no,_,_=>Y
def kW:L Lk->L (V S)->L (V S)->O Bool
 |[],[],[]=>Z W|k::c,a::as,b::d=>match E2 k a b,kW c as d with
  |some x,Z y=>Z (bS x y)|_,_=>Y
 |_,_,_=>Y
def ZK:V S->V S->O Bool
 |.dat (.lit (.pointer Y)),.ptr _ _=>Z J|.ptr _ _,.dat (.lit (.pointer Y))=>Z J|_,_=>Y
def ZL:V S->V S->O Bool
 |.dat (.lit .nilIface),.dj _ _=>Z J|.dj _ _,.dat (.lit .nilIface)=>Z J|_,_=>Y
def aha(i:TI)(a b:V S):O Bool:=
 bif i.agg then match i.lks,wU i a,wU i b with
  |[],_,_=>Y|k::c,Z as,Z d=>kW (k::c) as d|_,_,_=>Y
 else match i.kd with
  |.leaf k=>E2 k a b|.ptr=>ZK a b|.iface=>ZL a b|_=>Y
def adE(op:BinOp)(k:IntKind)(m n:Int):O (V S):=
 match op with
 |.lss=>Z (.ty .bool (aD m n))|.leq=>Z (.ty .bool (br m n))|.gtr=>Z (.ty .bool (aD n m))|.geq=>Z (.ty .bool (br n m))|.add=>Z (.ty (.int k) (aG k m n))|.sub=>Z (.ty (.int k) (aZ k m n))|.mul=>Z (.ty (.int k) (Im k m n))|_=>Y
def adA(op:BinOp)(k:IntKind)(m n:Int):O (V S):=
 match op with
 |.rem=>Z (.ty (.int k) (Il m n))|.quo=>Z (.ty (.int k) (aa8 k m n))|_=>Y
def HI(i:TI)(op:BinOp)(a b:V S):O (Bool×V S):=
 match op with
 |.eql=>(aha i a b).map λr=>(W,.ty .bool r)|.neq=>(aha i a b).map λr=>(W,.ty .bool (aq r))|op=>match i.kd with
  |.leaf (.int k)=>match g8 k a,g8 k b with
   |some m,Z n=>match adE op k m n with
    |some d=>Z (W,d)|none=>(adA op k m n).map λd=>(nzI n,d)
   |_,_=>Y
  |.leaf .str=>match op,we a,we b with
   |.add,Z m,Z n=>Z (adp m n,.ty .str (dc m n))|_,_,_=>Y
  |_=>Y
def Mi(s:bp S)(o e:Nat):O ((t:Ty)×L (den S.A t)):=
 match s.ob.get o with
 |some (.arr t l era)=>bif Nq e era then Z ⟨t,l⟩else Y|some (.lM t l era)=>bif Nq e era then Z ⟨t,l⟩else Y|_=>Y
def abH(τ:O Ty)(t:Ty):Bool:=match τ with|some u=>sr u t|none=>J
def TE(i:TI)(τ:O Ty)(t:Ty)(x:den S.A t)(off:Nat):O (V S):=
 bif Nq off 0&&abH τ t then Z (.ty t x)
 else
  bif Nl (Na off i.size) (S.width t)then Dt i.agg (((wC t x).drop off).take i.size)else Y
def ep:V S:=.dat (.lit (.tuple #[]))
def yN(i:TI)(τ:O Ty)(s:bp S):V S->nZ S
 |.ptr o off=>match s.ob.get o with
  |some (.box a)=>
   let l:=(a.drop off).take i.size
   bif Nq (cH l) i.size then(Dt i.agg l).map λt=>(W,t,s)else Y
  |_=>Y
 |.mc t x off=>(TE i τ t x off).map λv=>(W,v,s)|.l9 o e k off=>match Mi s o e with
  |some ⟨t,l⟩=>(TE i τ t (bh l k (S.zero t)) off).map λv=>(dX k l,v,s)|none=>Y
 |_=>Y
def Sg.mX(S:Sg):Ty->L Ty
 |.st n=>S.fs n|t=>[t]
def wu:(t:Ty)->l7 S.A (S.mX t)->den S.A t
 |.st n,h=>S.ET n h|.int _,h=>h.1|.bool,h=>h.1|.str,h=>h.1|.sl _,h=>h.1|.dj _,h=>h.1|.opt _,h=>h.1|.mp _ _,h=>h.1
def Fm(i:TI)(s:bp S)(a x:V S):nZ S:=
 match wU i x with
 |none=>Y|some l=>match a with
  |.ptr o off=>match s.ob.get o with
   |some (.box d)=>
    bif Nl s.fl o&&(Nl (Na off (cH l)) (cH d)&&Ce l)then
     Z (W,ep,{s with ob:=s.ob.set aM o (.box (d.take off++l++d.drop (Na off (cH l)))),wr:=o::s.wr})
    else Y
   |_=>Y
  |.l9 o e k off=>match s.ob.get o with
   |some (.arr t _ _)=>match om s ((S.mX t).drop off |>.take (cH l)) l with
    |some (_,os)=>match dV s os with
     |some b=>match b.ob.get o with
      |some (.arr t c era)=>match om s (S.mX t) ((wC t (bh c k (S.zero t))).take off++l++(wC t (bh c k (S.zero t))).drop (Na off (cH l)))with
       |some (h,_)=>
        bif Nl b.fl o&&(Nq e era&&(Nl (Na off (cH l)) (S.width t)&&(Nl 1 (cH l)&&Ce l)))then
         Z (dX k c,ep,{b with ob:=b.ob.set aM o (.arr t (lF c k (wu t h)) era),wr:=o::b.wr})
        else Y
       |none=>Y
      |_=>Y
     |none=>Y
    |none=>Y
   |_=>Y
  |_=>Y
def J4(place:Nat->O (Nat×TI))(cells:L (V S)):L (Nat×V S)->O (L (V S))
 |[]=>Z cells|(k,v)::a=>match place k with
  |none=>Y|some (off,i)=>match wU i v with
   |none=>Y|some l=>
    bif Nl (Na off (cH l)) (cH cells)&&Ce l then J4 place (cells.take off++l++cells.drop (Na off (cH l))) a else Y
def ja(fr:ck S):L (Nat×Operand)->O (L (Nat×V S))
 |[]=>Z []|(k,x)::l=>match cF fr x,ja fr l with
  |some t,Z r=>Z ((k,t)::r)|_,_=>Y
def oW(s:bp S)(e:Ty)(es:L (den S.A e)):L (Nat×V S)->O (L (den S.A e)×L Nat)
 |[]=>Z (es,[])|(k,v)::a=>match bX s e v with
  |none=>Y|some (x,os)=>
   bif Nt k (cH es)then
    match oW s e (es.set k x) a with
    |some (r,b)=>Z (r,os++b)|none=>Y
   else Y
def Li(fr:ck S):O Operand->O (O (V S))
 |none=>Z Y|some x=>(cF fr x).map Z
def CL(dflt:Int):O (V S)->O Int
 |none=>Z dflt|some t=>g8 .i64 t
def NZ:V S->L Nat
 |.sh o _=>[o]|_=>[]
def wg(i:TI)(τ:O Ty)(s:bp S)(v:V S)(l h m:O (V S)):nZ S:=
 match τ,CL 0 l with
 |some .str,Z lo=>match i.kd,we v,m with
  |.leaf .str,Z b,Y=>match CL (ak b) h with
   |some a=>Z (ez lo a (ak b),.ty .str (cL b lo a),s)|none=>Y
  |_,_,_=>Y
 |some (.sl e),Z lo=>match i.kd,KQ s e v,dV s (NZ v)with
  |.slice _ _ _ _,Z c,Z d=>match CL (ak c) h,m,h with
   |some a,Y,_=>Z (ez lo a (ak c),.ty (.sl e) (cL c lo a),d)|some a,Z y,Z _=>match y with
    |.kn .i64 0=>Z (fZ lo 0&&fZ a 0,.emp,s)|y=>match g8 .i64 y with
     |some f=>Z (ez lo a (ak c)&&fZ f a,.kM 0 e (cL c lo a),d)|none=>Y
   |_,_,_=>Y
  |_,_,_=>Y
 |_,_=>Y
def aaf:V S->O (O Bool×Bool)
 |.gd g v=>match iD v with
  |some y=>Z (Z g,y)|none=>Y
 |.kb b=>Z (Y,b)|.ty .bool x=>Z (Y,x)|_=>Y
def orT(g:O Bool):Bool:=match g with|some g=>g|none=>W
def X7(c a b:V S):O (Bool×V S):=
 match c with
 |.kb u=>match aaf (bif u then a else b)with
  |some (p,y)=>Z (orT p,.ty .bool y)|none=>Y
 |c=>match iD c,aaf a,aaf b with
  |some t,Z (p,x),Z (q,y)=>Z (bif t then orT p else orT q,.ty .bool (aa9 t x y))|_,_,_=>Y
def xd(n sz:Nat)(s:bp S)(x a:V S):nZ S:=match x,a with
 |.mc t d b,.kn .i64 (.ofNat j)=>bif Nt j n then Z (W,.mc t d (Na b (Nat.mul j sz)),s)else Y|_,_=>Y
def DW{n sz:Nat}{s s':bp S}{x a t:V S}{p:Bool}(h:xd n sz s x a=Z (p,t,s')):s'=s:=by unfold xd at h;split at h;rename_i j;cases b:Nt j n<;>rw[b]at h<;>cases h;rfl;cases h
def kC(i:TI)(τ:O Ty)(s:bp S)(x a:V S):nZ S:=
 match i.kd,τ,g8 .i64 a with
 |.slice _ _ _ _,Z (.sl e),Z n=>match x with
  |.sh o r=>match Mi s o r with
   |some ⟨t,l⟩=>bif sr t e then Z (aF n l,.l9 o r (ax n) 0,s)else Y|none=>Y
  |v=>match KQ s e v with
   |some l=>Z (aF n l,.mc e (bh l (ax n) (S.zero e)) 0,s)|none=>Y
 |.array n sz _,_,_=>xd n sz s x a|_,_,_=>Y
def ry(i:TI)(s:bp S)(k:Nat)(x:V S):nZ S:=
 match i.kd with
 |.struct a=>match nth a k with
  |some (off,size,_)=>bif Nq size 0 then Y else match x with
   |.ptr o b=>Z (W,.ptr o (Na b off),s)|.mc t d b=>Z (W,.mc t d (Na b off),s)|.l9 o e j b=>Z (W,.l9 o e j (Na b off),s)|_=>Y
  |none=>Y
 |_=>Y
def Cr(i:TI)(s:bp S)(k:Nat)(x:V S):nZ S:=
 match i.kd with
 |.struct a=>match nth a k,wU i x with
  |some (off,size,b),Z c=>
   let l:=(c.drop off).take size
   bif Nq (cH l) size&&!(Nq size 0)then(Dt b l).map λt=>(W,t,s)else Y
  |_,_=>Y
 |_=>Y
def Ci(i:TI)(s:bp S)(x a:V S):nZ S:=
 match i.kd,g8 .i64 a,we x with
 |.leaf .str,Z n,Z b=>Z (aF n b,.ty (.int .u8) (mP b n),s)|_,_,_=>Y
def E6(i:TI)(s:bp S)(t:TypeId)(ok:Bool)(x:V S):nZ S:=
 match i.kd,x,ok with
 |.iface,_,_=>Y|_,.dj u v,W=>bif Nq u t then Z (W,.gR [v,.kb W],s)else
   (Dt i.agg (i.zero.map zeroV)).map λz=>(W,.gR [z,.kb J],s)
 |_,.dj u v,J=>bif Nq u t then Z (W,v,s)else Y|_,_,_=>Y
def unV(i:TI)(op:UnOp)(v:V S):O (V S):=
 match op,i.kd with
 |.not,.leaf .bool=>(iD v).map λb=>.ty .bool (aq b)|.neg,.leaf (.int k)=>(g8 k v).map λn=>.ty (.int k) (Qi k n)|_,_=>Y
def Ud(i j:TI)(s:bp S)(v:V S):nZ S:=
 match i.kd,j.kd with
 |.leaf (.int k),.leaf (.int l)=>(g8 k v).map λn=>(W,.ty (.int l) (SN l n),s)|.leaf .str,.leaf .str=>(we v).map λ_=>(W,v,s)|_,_=>Y
def AX(s:bp S)(k:Nat):V S->nZ S
 |.gR a=>(nth a k).map λt=>(W,t,s)|_=>Y
structure MT where
 kt:Ty
 vt:Option Ty
 el:TypeId
structure gi where
 E:Env
 ty:Nat->Option Ty
 mt:Nat->Option MT:=λ_=>Y
 Lq:Nat->String->Option FuncId:=λ_ _=>Y
 nst:Nat->Option Nat:=λ_=>Y
def cM(E:gi)(fr:ck S)(s:bp S)(o:Op):nZ S:=
 match o with
 |.move x=>(cF fr x).map λt=>(W,t,s)|.assign x=>(cF fr x).map λt=>(W,t,s)|.pick c a b=>match cF fr c,cF fr a,cF fr b with
  |some c,Z a,Z b=>(X7 c a b).map λ(p,t)=>(p,t,s)|_,_,_=>Y
 |.alloc t=>match E.E.ti t with
  |some i=>bif Nt s.aE bM then Z (W,.ptr s.aE 0,dn s (.box (i.zero.map zeroV)))else Y|none=>Y
 |.box t x=>match E.E.ti t,cF fr x with
  |some i,Z v=>bif Nt s.aE bM then(wU i v).map λg=>(W,.ptr s.aE 0,dn s (.box g))else Y|_,_=>Y
 |.build t parts=>match E.E.ti t,ja fr parts.toList with
  |some i,Z q=>match i.kd with
   |.struct w=>(J4 (λk=>match nth w k with|some (off,size,z)=>Z (off,{(default:TI)with size:=size,agg:=z})|none=>Y) (i.zero.map zeroV) q).map
     λg=>(W,.agg g,s)
   |_=>Y
  |_,_=>Y
 |.buildSlice t len parts=>match E.E.ti t,E.ty t,ja fr parts.toList with
  |some i,Z (.sl e),Z q=>match i.kd with
   |.slice sz _ _ _=>
    bif Nl (Nat.mul len sz) 16777216 then
     match oW s e (List.replicate len (S.zero e)) q with
     |some (A,os)=>(dV s os).map λs=>(W,.kM len e A,s)|none=>Y
    else Y
   |_=>Y
  |_,_,_=>Y
 |.load t a=>match E.E.ti t,cF fr a with
  |some i,Z a=>yN i (E.ty t) s a|_,_=>Y
 |.store t a x=>match E.E.ti t,cF fr a,cF fr x with
  |some i,Z a,Z x=>Fm i s a x|_,_,_=>Y
 |.nilCheck x=>match cF fr x with
  |some (.ptr o b)=>Z (W,.ptr o b,s)|some (.mc t d b)=>Z (W,.mc t d b,s)|some (.l9 o e j b)=>Z (W,.l9 o e j b,s)|some (.dj t v)=>Z (W,.dj t v,s)|some (.fn (.func f) a b)=>Z (W,.fn (.func f) a b,s)|_=>Y
 |.binOp op t x y _=>match E.E.ti t,cF fr x,cF fr y with
  |some i,Z a,Z b=>(HI i op a b).map λ(p,d)=>(p,d,s)|_,_,_=>Y
 |.unOp op t x=>match E.E.ti t,cF fr x with
  |some i,Z v=>(unV i op v).map λd=>(W,d,s)|_,_=>Y
 |.convert src r x=>match E.E.ti src,E.E.ti r,cF fr x with
  |some i,Z j,Z v=>Ud i j s v|_,_,_=>Y
 |.makeInterface t x=>match E.E.ti t,cF fr x with
  |some i,Z v=>match i.kd with
   |.iface=>Y|_=>Z (W,.dj t v,s)
  |_,_=>Y
 |.makeFunc f first cap=>match ko fr first.toList,ko fr cap.toList with
  |some a,Z b=>Z (W,.fn f a b,s)|_,_=>Y
 |.extract x k=>match cF fr x with
  |some v=>AX s k v|none=>Y
 |.fieldAddr t x k=>match E.E.ti t,cF fr x with
  |some i,Z v=>ry i s k v|_,_=>Y
 |.field t x k=>match E.E.ti t,cF fr x with
  |some i,Z v=>Cr i s k v|_,_=>Y
 |.indexAddr t x u=>match E.E.ti t,cF fr x,cF fr u with
  |some i,Z v,Z n=>kC i (E.ty t) s v n|_,_,_=>Y
 |.index t x u=>match E.E.ti t,cF fr x,cF fr u with
  |some i,Z v,Z n=>Ci i s v n|_,_,_=>Y
 |.slice t x lo B C=>match E.E.ti t,cF fr x,Li fr lo,Li fr B,Li fr C with
  |some i,Z v,Z l,Z h,Z m=>wg i (E.ty t) s v l h m|_,_,_,_,_=>Y
 |.typeAssert x _ t ok=>match E.E.ti t,cF fr x with
  |some i,Z v=>E6 i s t ok v|_,_=>Y
 |_=>Y
def VL:(kt:Ty)->V S->O (den S.A kt)
 |.int k,v=>g8 k v|.bool,v=>iD v|.str,v=>we v|_,_=>Y
def GB{A:Nat->Type}:(kt:Ty)->den A kt->den A kt->Bool
 |.int _,a,b=>aa a b|.bool,a,b=>pJ a b|.str,a,b=>gw a b|_,_,_=>J
def EV{A:Nat->Type}{β:Type}(kt:Ty)(z:β)(k:den A kt):L (den A kt×β)->β
 |[]=>z|p::l=>bif GB kt k p.1 then p.2 else EV kt z k l
def GO{A:Nat->Type}{β:Type}(kt:Ty)(k:den A kt):L (den A kt×β)->Bool
 |[]=>J|p::l=>bif GB kt k p.1 then W else GO kt k l
def iV{A:Nat->Type}{β:Type}(kt:Ty)(k:den A kt)(x:β):L (den A kt×β)->L (den A kt×β)
 |[]=>[(k,x)]|p::l=>bif GB kt k p.1 then(k,x)::l else p::iV kt k x l
def yS(kt c a b:Ty)(l:L (den S.A kt×den S.A c)):O (L (den S.A a×den S.A b)):=
 if h:sr kt a=W then if d:sr c b=W then Z (jU h▸jU d▸l)else Y else Y
def Kh{β:Type}(kt a:Ty)(l:L (den S.A kt×β)):O (L (den S.A a×β)):=
 if h:sr kt a=W then Z (jU h▸l)else Y
def Yv(s:bp S)(kt a:Ty):V S->O (L (den S.A kt×den S.A a))
 |.mp o=>match s.ob.get o with
  |some (.map k v l)=>yS k v kt a l|_=>Y
 |.dat (.lit (.map Y))=>Z []|.ty (.mp k v) l=>yS k v kt a l|_=>Y
def Al{α:Type}:O α->Bool
 |none=>J|some _=>W
def GQ{α:Type}(z:α):O α->α
 |none=>z|some x=>x
def isE{α:Type}(l:L α):Bool:=match l with|[]=>W|_::_=>J
def Q6(n:Int):Bool:=decide (0<=n)&&decide (n<=17179869184)
def QY(pos:Nat)(b:L UInt8):Bool:=decide (pos<b.length)
def vG(b:L UInt8)(pos:Nat):Int:=((Utf8.decode (cq b) pos).1:Nat)
def IA(b:L UInt8)(pos:Nat):Nat:=(Utf8.decode (cq b) pos).2
def Ou(fr:ck S):O Operand->Bool
 |none=>W|some x=>match cF fr x with
  |some (.kn _ _)=>W|some (.ty (.int _) _)=>W|_=>J
def um(E:gi)(fr:ck S)(s:bp S)(o:Op):nZ S:=
 match o with
 |.makeMap t r=>bif Nt s.aE bM&&Ou fr r then match E.mt t with
  |some m=>match m.vt with
   |some a=>Z (W,.mp s.aE,dn s (.map m.kt a []))|none=>Z (W,.mp s.aE,dn s (.Iw m.kt []))
  |none=>Y
  else Y
 |.lookup t x d ok=>match E.mt t,cF fr x,cF fr d with
  |some m,Z x,Z k=>match m.vt with
   |some a=>match VL m.kt k,Yv s m.kt a x with
    |some k,Z l=>Z (W,bif ok then .gR [.ty a (EV m.kt (S.zero a) k l),.ty .bool (GO m.kt k l)]else .ty a (EV m.kt (S.zero a) k l),s)|_,_=>Y
   |none=>Y
  |_,_,_=>Y
 |.mapUpdate t x d y|.insert t x d y=>match E.mt t,cF fr x,cF fr d,cF fr y with
  |some m,Z (.mp o),Z k,Z y=>match VL m.kt k,s.ob.get o with
   |some k,Z (.map kt a l)=>match yS kt a m.kt a l,bX s a y with
    |some l,Z (y,os)=>match dV s os with
     |some f=>bif Nl s.fl o&&abH m.vt a then Z (W,ep,{f with ob:=f.ob.set aM o (.map m.kt a (iV m.kt k y l)),wr:=o::f.wr})else Y
     |none=>Y
    |_,_=>Y
   |some k,Z (.Iw kt l)=>match Kh kt m.kt l with
    |some l=>bif Nl s.fl o then Z (W,ep,{s with ob:=s.ob.set aM o (.Iw m.kt (iV m.kt k y l)),wr:=o::s.wr})else Y
    |none=>Y
   |_,_=>Y
  |_,_,_,_=>Y
 |.makeSlice t n c=>match E.E.ti t,E.ty t,cF fr n,cF fr c with
  |some i,Z (.sl e),Z n,Z c=>match i.kd,g8 .i64 n,g8 .i64 c with
   |.slice _ _ _ _,Z n,Z c=>bif Nt s.aE bM then Z (Q6 n&&fZ c n,.sh s.aE 0,dn s (.arr e (List.replicate (ax n) (S.zero e)) 0))else Y|_,_,_=>Y
  |_,_,_,_=>Y
 |.range t x=>match E.E.ti t,cF fr x with
  |some i,Z x=>match i.kd,we x with
   |.leaf .str,Z b=>bif Nt s.aE bM then Z (W,.uo s.aE,dn s (.rO b 0))else Y|_,_=>Y
  |_,_=>Y
 |.binOp .eql t x (.const .nilIface) _=>match E.E.ti t,cF fr x with
  |some i,Z (.ty (.dj n) y)=>match i.kd with
   |.iface=>Z (W,.ty .bool (isNil (S.alts n) (S.uO n y)),s)|_=>Y
  |some i,Z (.dat (.lit .nilIface))=>match i.kd with
   |.iface=>Z (W,.kb W,s)|_=>Y
  |_,_=>Y
 |.binOp .neq t x (.const .nilIface) _=>match E.E.ti t,cF fr x with
  |some i,Z (.ty (.dj n) y)=>match i.kd with
   |.iface=>Z (W,.ty .bool (aq (isNil (S.alts n) (S.uO n y))),s)|_=>Y
  |some i,Z (.dat (.lit .nilIface))=>match i.kd with
   |.iface=>Z (W,.kb J,s)|_=>Y
  |_,_=>Y
 |.binOp .eql t x (.const (.slice Y 0 0)) _=>match E.E.ti t,E.ty t,cF fr x with
  |some i,Z (.sl e),Z x=>match i.kd,KQ s e x with
   |.slice _ _ _ _,Z l=>Z (W,.ub (isE l),s)|_,_=>Y
  |_,_,_=>Y
 |.nilCheck x=>match cF fr x with
  |some (.ty (.dj n) y)=>Z (aq (isNil (S.alts n) (S.uO n y)),.ty (.dj n) y,s)|some (.ty (.opt n) y)=>Z (Al y,.mc (.st n) (GQ (S.dfl n) y) 0,s)|_=>Y
 |.binOp .eql t x (.const (.pointer Y)) _=>match E.E.ti t,cF fr x with
  |some i,Z (.ty (.opt _) y)=>match i.kd with
   |.ptr=>Z (W,.ty .bool (aq (Al y)),s)|_=>Y
  |some i,Z (.dat (.lit (.pointer Y)))=>match i.kd with
   |.ptr=>Z (W,.kb W,s)|_=>Y
  |_,_=>Y
 |.binOp .neq t x (.const (.pointer Y)) _=>match E.E.ti t,cF fr x with
  |some i,Z (.ty (.opt _) y)=>match i.kd with
   |.ptr=>Z (W,.ty .bool (Al y),s)|_=>Y
  |some i,Z (.dat (.lit (.pointer Y)))=>match i.kd with
   |.ptr=>Z (W,.kb J,s)|_=>Y
  |_,_=>Y
 |.typeAssert x _ t ok=>match E.E.ti t,E.ty t,cF fr x with
  |some i,Z τ,Z (.ty (.dj n) y)=>match i.kd,xh (S.alts n) t with
   |.iface,_=>Y|_,Z j=>bif sr (nB (S.alts n) j) τ then
     let v:V S:=.ty (nB (S.alts n) j) (jf S.zero (S.alts n) j (S.uO n y))
     let b:=kB (S.alts n) j (S.uO n y)
     bif ok then Z (W,.gR [v,.ty .bool b],s)else Z (b,v,s)
    else Y
   |_,Y=>bif ok then Z (W,.gR [.ty τ (S.zero τ),.kb J],s)else Y
  |_,_,_=>Y
 |.build t parts=>match E.E.ti t,ja fr parts.toList with
  |some i,Z g=>match i.kd with
   |.array _ sz h=>(J4 (λk=>Z (Nat.mul k sz,{(default:TI)with size:=sz,agg:=h})) (i.zero.map zeroV) g).map λp=>(W,.agg p,s)
   |_=>Y
  |_,_=>Y
 |_=>Y
def isNone{α:Type}:O α->Bool|none=>W|some _=>J
def BG(E:gi)(fr:ck S)(s:bp S)(o:Op):nZ S:=
 match o with
 |.indexAddr t x g=>match cF fr x with
  |some (.sh o r)=>match s.ob.get o with
   |some (.lT n _ l era _ _ _)=>match E.E.ti t,E.ty t,cF fr g with
    |some i,Z (.sl (.st p)),Z k=>match i.kd,g8 .i64 k with
     |.slice _ _ _ _,Z k=>bif Nq r era&&Nq n p then Z (aF k l,.l9 o r (ax k) 0,s)else Y|_,_=>Y
    |_,_,_=>Y
   |_=>Y
  |_=>Y
 |.load t a=>match cF fr a with
  |some (.l9 o e k off)=>match s.ob.get o with
   |some (.lT n j l era m b hole)=>match E.E.ti t with
    |some i=>bif Nq e era then
      bif Nq off j then
       bif Nq i.size 1&&(!i.agg&&(isNone hole&&Nt j (S.width (.st n))))then Z (dX k l,.sC o m b k,s)else Y
      else bif Nl (Na off i.size) j||Nt j off then(TE i Y (.st n) (bh l k (S.zero (.st n))) off).map λv=>(dX k l,v,s)else Y
     else Y
    |none=>Y
   |_=>Y
  |_=>Y
 |.store t a (.tmp c)=>match cF fr a,fr.get c with
  |some (.l9 o e k off),Z (.sC q u r i)=>match s.ob.get o with
   |some (.lT n j l era m b (Z h))=>match E.E.ti t with
    |some d=>bif (Nq e era&&(Nq off j&&(Nq q o&&(Nq u m&&(Nq r b&&(Nq d.size 1&&(!d.agg&&(Nl s.fl o&&(Nt j (S.width (.st n))&&Nt c bM)))))))))then
      Z (Zg k l h i,ep,{s with ob:=s.ob.set aM o (.lT n j l era m b Y),wr:=o::s.wr})
     else Y
    |none=>Y
   |_=>Y
  |_,_=>Y
 |.buildSlice t len parts=>match parts.toList with
  |[(0,.tmp c)]=>match E.E.ti t,E.ty t,fr.get c with
   |some i,Z (.sl (.st n)),Z (.agg f)=>match E.nst n with
    |some j=>match i.kd,nth f j with
     |.slice sz _ _ _,Z .emp=>bif Nq len 1&&(Nl sz 16777216&&Nt c bM)then match bX s (.st n) (.agg f)with
      |some (x,os)=>(dV s os).map λs=>(W,.qd n j x,s)|none=>Y
      else Y
     |_,_=>Y
    |none=>Y
   |_,_,_=>Y
  |[]=>match E.E.ti t,E.ty t with
   |some i,Z (.sl _)=>match i.kd with
    |.slice _ _ _ _=>bif Nq len 0 then Z (W,.emp,s)else Y|_=>Y
   |_,_=>Y
  |_=>Y
 |.slice t x Y (Z w) Y=>match E.E.ti t,cF fr x,cF fr w with
  |some i,Z (.sh o r),Z h=>match i.kd,s.ob.get o,g8 .i64 h with
   |.slice _ _ _ _,Z (.arr (.int .i64) l era),Z h=>bif Nq r era&&Nl s.fl o then
     Z (ez 0 h (ak l),.sh o (Ns era),{s with ob:=s.ob.set aM o (.arr (.int .i64) (cL l 0 h) (Ns era)),wr:=o::s.wr})
    else Y
   |_,_,_=>Y
  |_,_,_=>Y
 |_=>Y
def AD(E:gi)(fr:ck S)(s:bp S)(o:Op):nZ S:=match BG E fr s o with
 |some r=>Z r|none=>match cM E fr s o with
  |some r=>Z r|none=>um E fr s o
def zR(n:Int)(ag:Bool)(sz:Nat)(cs:L (V S))(s:bp S):L Nat->L (Bool×V S×bp S)
 |[]=>[]|j::l=>match bif Nq (cH ((cs.drop (Nat.mul j sz)).take sz)) sz&&Nt 0 sz then Dt ag ((cs.drop (Nat.mul j sz)).take sz)else Y with
  |some v=>(fZ n (Int.ofNat j),v,s)::zR n ag sz cs s l|none=>[]
def ir(E:gi)(fr:ck S)(s:bp S)(o:Op):O (L (Bool×V S×bp S)×Bool×V S×bp S):=
 match o with
 |.next d W=>match cF fr d with
  |some (.uo o)=>match s.ob.get o with
   |some (.rO b pos)=>bif Nl s.fl o then
     Z ([(QY pos b,.gR [.kb W,.ty (.int .i64) (Int.ofNat pos),.ty (.int .i32) (vG b pos)],{s with ob:=s.ob.set aM o (.rO b (Na pos (IA b pos))),wr:=o::s.wr})],W,.gR [.kb J],s)
    else Y
   |_=>Y
  |_=>Y
 |.lookup t x a ok=>match E.mt t,cF fr x,cF fr a with
  |some m,Z (.mp o),Z k=>match s.ob.get o,VL m.kt k,E.E.ti m.el with
   |some (.Iw kt l),Z k,Z i=>match Kh kt m.kt l,Dt i.agg (i.zero.map zeroV)with
    |some l,Z z=>Z (l.map λp=>(GB m.kt k p.1,bif ok then .gR [p.2,.kb W]else p.2,s),W,bif ok then .gR [z,.kb J]else z,s)|_,_=>Y
   |_,_,_=>Y
  |_,_,_=>Y
 |.index t x a=>match E.E.ti t,cF fr x,cF fr a with
  |some i,Z (.agg c),Z k=>match i.kd,g8 .i64 k with
   |.array len sz e,Z n=>bif Nq (cH c) i.size then Z (zR n e sz c s (List.range len),J,ep,s)else Y|_,_=>Y
  |_,_,_=>Y
 |_=>Y
def Up(i:TI)(e:Ty)(s:bp S)(x y:V S):nZ S:=
 bif !(Nt s.aE bM)then Y else
 match i.kd,KQ s e y with
 |.slice _ _ _ _,Z new=>
  match x with
  |.emp=>Z (W,.sh s.aE 0,dn s (.arr e new 0))|.kM _ t a=>match oM t e a with
   |some a=>match y with
    |.kM (_+1) _ _=>Z (dg a new,.sh s.aE 0,dn s (.arr e (dc a new) 0))|_=>Z (dg a new,.ty (.sl e) (dc a new),s)
   |none=>Y
  |.sh o r=>match s.ob.get o with
   |some (.arr t a era)=>match oM t e a with
    |some a=>
     bif Nl s.fl o&&(Nq r era&&!(NZ y).contains o)then
      Z (dg a new,.sh o (Ns era),{s with ob:=s.ob.set aM o (.arr e (dc a new) (Ns era)),wr:=o::s.wr})
     else Y
    |none=>Y
   |_=>Y
  |_=>Y
 |_,_=>Y
def iy(E:gi)(s:bp S)(b:Builtin)(a:Array TypeId)(args:L (V S)):nZ S:=
 match b,args with
 |.len,[x]=>match(nth a.toList 0).bind E.E.ti,(nth a.toList 0).bind E.ty with
  |some i,Z .str=>match i.kd,we x with
   |.leaf .str,Z b=>Z (W,.ty (.int .i64) (ak b),s)|_,_=>Y
  |some i,Z (.sl e)=>match i.kd with
   |.slice _ _ _ _=>(KQ s e x).map λc=>(W,.ty (.int .i64) (ak c),s)|_=>Y
  |_,_=>Y
 |.append,[x,y]=>match a.toList with
  |[t,u]=>match E.E.ti t,E.E.ti u,E.ty t with
   |some i,Z j,Z (.sl e)=>match j.kd with
    |.slice _ _ _ _=>Up i e s x y|_=>Y
   |_,_,_=>Y
  |_=>Y
 |_,_=>Y
def acj(a b:Int):Int:=bif aD a b then b else a
def aci(a b:Int):Int:=bif aD b a then b else a
def ua(E:gi)(s:bp S)(b:Builtin)(a:Array TypeId)(args:L (V S)):nZ S:=
 match b,args with
 |.len,[.mp o]=>match(nth a.toList 0).bind E.mt,s.ob.get o with
  |some _,Z (.map _ _ l)=>Z (W,.ty (.int .i64) (ak l),s)|some _,Z (.Iw _ l)=>Z (W,.ty (.int .i64) (ak l),s)|_,_=>Y
 |.max,[x,y]=>match g8 .i64 x,g8 .i64 y with
  |some m,Z n=>Z (W,.ty (.int .i64) (acj m n),s)|_,_=>Y
 |.min,[x,y]=>match g8 .i64 x,g8 .i64 y with
  |some m,Z n=>Z (W,.ty (.int .i64) (aci m n),s)|_,_=>Y
 |_,_=>Y
def m9(E:gi)(s:bp S)(b:Builtin)(a:Array TypeId)(args:L (V S)):nZ S:=
 match b,args with
 |.len,[.sh o r]=>match s.ob.get o with
  |some (.lT n _ l era _ _ _)=>match(nth a.toList 0).bind E.E.ti,(nth a.toList 0).bind E.ty with
   |some i,Z (.sl (.st g))=>match i.kd with
    |.slice _ _ _ _=>bif Nq r era&&Nq n g then Z (W,.ty (.int .i64) (ak l),s)else Y|_=>Y
   |_,_=>Y
  |_=>Y
 |.append,[.sh o r,.qd g v x]=>match s.ob.get o with
  |some (.lT n j l era m c Y)=>match a.toList with
   |[t,u]=>match E.E.ti t,E.E.ti u,E.ty t,Nm s m c with
    |some i,Z h,Z (.sl (.st p)),Z ⟨f,d⟩=>match i.kd,h.kd,oM (.st g) (.st n) [x]with
     |.slice _ _ _ _,.slice _ _ _ _,Z new=>bif Nq r era&&(Nq n p&&(Nq j v&&(Nl s.fl o&&(Nl s.fl m&&(Nt m s.aE&&(Nt s.aE bM&&(Eu S n j f&&Nl 1 (S.width f))))))))then
       Z (bS (acv l d) (dg l new),.sh o (Ns era),{s with ob:=(s.ob.set aM m (.rws f (dc d [[]]) c)).set aM o (.lT n j (dc l new) (Ns era) m c Y),wr:=o::m::s.wr})
      else Y
     |_,_,_=>Y
    |_,_,_,_=>Y
   |_=>Y
  |_=>Y
 |.append,[.sC o m r k,y]=>match s.ob.get o,s.ob.get m with
  |some (.lT n j l era w c Y),Z (.rws t d e)=>match a.toList with
   |[q,u]=>match E.E.ti q,E.E.ti u,E.ty q,KQ s t y with
    |some i,Z h,Z (.sl f),Z new=>match i.kd,h.kd,y with
     |_,_,.sh _ _=>Y|.slice _ _ _ _,.slice _ _ _ _,_=>bif Nq m w&&(Nq r c&&(Nq r e&&(Nl s.fl o&&(Nl s.fl m&&(Nt o bM&&sr f t)))))then
       Z (bS (dX k d) (dg (bh d k []) new),.sC o m (Ns r) k,{s with ob:=(s.ob.set aM m (.rws t (lF d k (dc (bh d k []) new)) (Ns r))).set aM o (.lT n j l era m (Ns r) (Z k)),wr:=o::m::s.wr})
      else Y
     |_,_,_=>Y
    |_,_,_,_=>Y
   |_=>Y
  |_,_=>Y
 |_,_=>Y
def LW{A:Nat->Type}{β:Type}(kt:Ty)(k:den A kt):L (den A kt×β)->L (den A kt×β)
 |[]=>[]|p::l=>bif GB kt k p.1 then l else p::LW kt k l
def uc(E:gi)(s:bp S)(b:Builtin)(a:Array TypeId)(args:L (V S)):nZ S:=
 match b,args with
 |.delete,[.mp o,k]=>match(nth a.toList 0).bind E.mt,s.ob.get o with
  |some m,Z (.map kt c l)=>match Kh kt m.kt l,VL m.kt k with
   |some l,Z k=>bif Nl s.fl o then Z (W,ep,{s with ob:=s.ob.set aM o (.map m.kt c (LW m.kt k l)),wr:=o::s.wr})else Y
   |_,_=>Y
  |_,_=>Y
 |_,_=>Y
def lV(E:gi)(s:bp S)(b:Builtin)(a:Array TypeId)(args:L (V S)):nZ S:=match m9 E s b a args with
 |some r=>Z r|none=>match iy E s b a args with
  |some r=>Z r|none=>match ua E s b a args with
   |some r=>Z r|none=>uc E s b a args
end
variable {S:Sg}
section
def aO{α:Type}(c:Bool)(x:O α):O α:=bif c then x else Y
def ai{α:Type}(c:Bool)(x y:O α):O α:=bif c then x else y
def ah{α β:Type}(x:O α)(f:α->O β):O β:=match x with|some a=>f a|none=>Y
def imp(c p:Bool):Bool:=bif c then p else W
inductive Ck where
 |dat (t:Ty)|own (e:Ty)|ku (n j:Nat) (t:Ty)|nil (e:Ty)|ptr (t:Ty)
@[reducible] def Ck.ty:Ck->Ty|.dat t=>t|.own e=>.sl e|.ku n _ _=>.sl (.st n)|.nil e=>.sl e|.ptr t=>t
inductive Bk where
 |cells (cs:List Ck)|map (kt vt:Ty)|rO|link (m:Bool) (pre post:List Ck)
inductive Pk where
 |one (c:Ck)|box (k:Bk)|hid (k:Bk)
@[reducible] def gC(A:Nat->Type):L Ck->Type
 |[]=>U|c::l=>den A c.ty×gC A l
@[reducible] def yp(A:Nat->Type):Bk->Type
 |.cells a=>gC A a|.map kt b=>L (den A kt×den A b)|.rO=>L UInt8×Nat|.link _ pre post=>gC A pre×gC A post
@[reducible] def gm(A:Nat->Type):L Pk->Type
 |[]=>U|.one c::l=>den A c.ty×gm A l|.box k::l=>yp A k×gm A l|.hid k::l=>yp A k×gm A l
@[reducible] def iE(A:Nat->Type):L Pk->Type
 |[]=>U|.one _::l=>iE A l|.box k::l=>yp A k×iE A l|.hid k::l=>yp A k×iE A l
inductive Rx(R P:Type) where
 |ok (r:R)|iJ (p:P)
@[reducible] def RT:Bool->Type->Type->Type
 |false,R,_=>R|true,R,P=>Rx R P
def RT.res{R P:Type}:(a:Bool)->RT a R P->Rx R P
 |false,r=>Rx.ok r|true,r=>r
def RT.ok{R P:Type}:(a:Bool)->R->RT a R P
 |false,r=>r|true,r=>Rx.ok r
def RT.iJ{R P:Type}:(a:Bool)->P->O (RT a R P)
 |false,_=>Y|true,p=>Z (Rx.iJ p)
structure lJ(S:Sg) where
 ps:List Pk
 rs:List Ck
 pn:Bool
 F:gm S.A ps->Option (RT pn (gC S.A rs×iE S.A ps) (den S.A S.pt×iE S.A ps))
def pF(s:bp S):(c:Ck)->V S->O (den S.A c.ty×L Nat×L Nat)
 |.dat t,v=>match bX s t v with
  |some (x,os)=>Z (x,os,[])|none=>Y
 |.own e,.emp=>bif Nl 1 (S.width e)then Z ([],[],[])else Y|.own e,.sh o r=>match s.ob.get o with
  |some (.arr t l era)=>bif Nq r era&&(Nl s.fl o&&Nl s.lo o)then match oM t e l with|some l=>Z (l,[],[o])|none=>Y else Y
  |_=>Y
 |.nil _,.emp=>Z ([],[],[])|.ku n j t,.emp=>bif Nl 1 (S.width (.st n))&&(Eu S n j t&&Nt j (S.width (.st n)))then Z ([],[],[])else Y|.ku n j t,.sh o r=>match s.ob.get o with
  |some (.lT b g l era m a Y)=>match Nm s m a with
   |some ⟨d,f⟩=>bif (Nq r era&&(Nq j g&&(Nl s.fl o&&(Nl s.lo o&&(Nl s.fl m&&(Nl s.lo m&&(Nt m s.aE&&(Eu S b j d&&sr d t))))))))then match oM (.st b) (.st n) (lC b j d l f)with
     |some l=>Z (l,[],[o,m])|none=>Y
    else Y
   |none=>Y
  |_=>Y
 |_,_=>Y
def gn(s:bp S):(cs:L Ck)->L (V S)->O (gC S.A cs×L Nat×L Nat)
 |[],[]=>Z ((),[],[])|c::cs,v::l=>match pF s c v,gn s cs l with
  |some (x,a,b),Z (h,d,e)=>Z ((x,h),a++d,b++e)|_,_=>Y
 |_,_=>Y
def VK:Bk->Nat->V S
 |.cells _,o=>.ptr o 0|.map _ _,o=>.mp o|.rO,o=>.uo o|.link _ _ _,o=>.ptr o 0
def Em:Bk->V S->O Nat
 |.cells _,.ptr o 0=>Z o|.map _ _,.mp o=>Z o|.rO,.uo o=>Z o|.link _ _ _,.ptr o 0=>Z o|_,_=>Y
def lkV:Bool->Nat->V S
 |true,o=>.mp o|false,o=>.ptr o 0
def lkO:Bool->O (V S)->O Nat
 |true,Z (.mp o)=>Z o|false,Z (.ptr o 0)=>Z o|_,_=>Y
def mC(s:bp S):(k:Bk)->O (vo S)->O (yp S.A k×L Nat×L Nat×O Nat)
 |.cells d,Z (.box c)=>match gn s d c with
  |some (x,a,b)=>Z (x,a,b,Y)|none=>Y
 |.map kt e,Z (.map k v l)=>match yS k v kt e l with
  |some l=>Z (l,[],[],Y)|none=>Y
 |.rO,Z (.rO b n)=>Z ((b,n),[],[],Y)|.link m pre post,Z (.box c)=>match gn s pre (c.take (cH pre)),lkO m (nth c (cH pre)),gn s post (c.drop (Ns (cH pre)))with
  |some (x,a,b),Z o,Z (y,f,g)=>Z ((x,y),a++f,b++g,Z o)|_,_,_=>Y
 |_,_=>Y
def Gw:Bk->L Pk->Bool
 |.link _ _ _,.hid _::_=>W|.link _ _ _,_=>J|_,_=>W
def eK(s:bp S):(ps:L Pk)->L (V S)->O Nat->O (gm S.A ps×L Nat×L Nat×L Nat)
 |[],[],_=>Z ((),[],[],[])|.one c::ps,v::l,_=>match pF s c v,eK s ps l Y with
  |some (x,a,b),Z (h,d,e,f)=>Z ((x,h),a++d,b++e,f)|_,_=>Y
 |.box k::ps,v::l,_=>match Em k v with
  |some o=>bif Nl s.fl o&&Gw k ps then match mC s k (s.ob.get o)with
   |some (x,a,b,nx)=>match eK s ps l nx with
    |some (h,d,e,f)=>Z ((x,h),a++d,b++e,o::f)|none=>Y
   |none=>Y
   else Y
  |none=>Y
 |.hid k::ps,l,Z o=>bif Nl s.fl o&&Gw k ps then match mC s k (s.ob.get o)with
   |some (x,a,b,nx)=>match eK s ps l nx with
    |some (h,d,e,f)=>Z ((x,h),a++d,b++e,o::f)|none=>Y
   |none=>Y
   else Y
 |_,_,_=>Y
def v8(s:bp S):(c:Ck)->den S.A c.ty->V S×bp S
 |.dat t,x=>(.ty t x,s)|.own e,l=>(.sh s.aE 0,dn s (.arr e l 0))|.nil _,_=>(.emp,s)|.ptr t,x=>(.mc t x 0,s)|.ku n j t,l=>(.sh s.aE 0,dn (dn s (.lT n j l 0 (Ns s.aE) 0 Y)) (.rws t (zL n j t l) 0))
def iz(s:bp S):(cs:L Ck)->gC S.A cs->L (V S)×bp S
 |[],_=>([],s)|c::cs,x=>match v8 s c x.1 with
  |(v,s)=>match iz s cs x.2 with
   |(l,s)=>(v::l,s)
def fH:L Nat->O Nat
 |[]=>Y|a::_=>Z a
def X4(m:Bool):O Nat->L (V S)
 |some o=>[lkV m o]|none=>[]
def lK(s:bp S)(nx:O Nat):(k:Bk)->yp S.A k->vo S×bp S
 |.cells c,x=>match iz s c x with
  |(a,s)=>(.box a,s)
 |.map kt d,l=>(.map kt d l,s)|.rO,x=>(.rO x.1 x.2,s)|.link m pre post,x=>match iz s pre x.1 with
  |(a,s)=>match iz s post x.2 with
   |(b,s)=>(.box (a++(X4 m nx++b)),s)
def mA(s:bp S):(ps:L Pk)->L Nat->iE S.A ps->O (bp S)
 |[],[],_=>Z s|.one _::ps,a,h=>mA s ps a h|.box k::ps,o::a,h=>match lK s (fH a) k h.1 with
  |(ob,s)=>mA {s with ob:=s.ob.set aM o ob,wr:=o::s.wr} ps a h.2
 |.hid k::ps,o::a,h=>match lK s (fH a) k h.1 with
  |(ob,s)=>mA {s with ob:=s.ob.set aM o ob,wr:=o::s.wr} ps a h.2
 |_,_,_=>Y
def aje(b:Nat):O Nat->Bool
 |none=>W|some o=>Nq o (Ns b)
def uF(s:bp S):Nat->(ps:L Pk)->O (iE S.A ps×L Nat×L Nat)
 |_,[]=>Z ((),[],[])|b,.one _::ps=>uF s b ps|b,.box k::ps=>match mC s k (s.ob.get b),uF s (Ns b) ps with
  |some (x,a,c,nx),Z (h,d,e)=>bif aje b nx&&Gw k ps then Z ((x,h),a++d,c++e)else Y|_,_=>Y
 |b,.hid k::ps=>match mC s k (s.ob.get b),uF s (Ns b) ps with
  |some (x,a,c,nx),Z (h,d,e)=>bif aje b nx&&Gw k ps then Z ((x,h),a++d,c++e)else Y|_,_=>Y
def sB:L Nat->Bool
 |[]=>W|a::l=>!(l.contains a)&&sB l
def CM(l m:L Nat):Bool:=l.all λa=>!(m.contains a)
def Ej:L (V S)->V S
 |[x]=>x|l=>.gR l
inductive vA(S:Sg) where
 |rY|ext (id:Nat)|ret|iJ (v:V S)
abbrev Sh:=L (Nat×Pk)
inductive Pt where
 |slot (k:Nat)|cell (p:Pt) (i:Nat)|cap (p:Pt) (i:Nat)|MO (p:Pt) (k:Nat)
structure LSh where
 sh:Sh
 pts:List Pt:=[]
 al:List (Nat×Nat):=[]
 pl:Nat:=0
structure JSh where
 sh:Sh
 pts:List Pt:=[]
 ks:List Pt:=[]
 rs:List Ck:=[]
structure eM(S:Sg) where
 T:gi
 IU:FuncId->Option (lJ S)
 sh:FuncId->Nat->Option LSh
 pn:Bool:=J
 cj:FuncId->List (V S)->Option JSh:=λ_ _=>Y
def qf:V S->L (V S)->O (FuncId×L (V S))
 |.fn (.func f) first cap,args=>Z (f,first++args++cap)
 |_,_=>Y
inductive Tgt where|fn (f:FuncId)|yl (o:Nat)|jn (f:FuncId)|yd (o:Nat)
abbrev gj(S:Sg):=Tgt->L (V S)->bp S->{ω:Type}->(V S->bp S->O ω)->(V S->bp S->O ω)->O ω
mutual
def iT(os:L Nat):V S->Bool
 |.ptr o _=>os.contains o|.l9 o _ _ _=>os.contains o|.sh o _=>os.contains o|.mp o=>os.contains o|.rP o=>os.contains o|.uo o=>os.contains o|.sC o m _ _=>os.contains o||os.contains m|.fn _ a b=>oT os a||oT os b|.dj _ v=>iT os v|.agg c=>oT os c|.gR c=>oT os c|.gd _ v=>iT os v|_=>J
def oT(os:L Nat):L (V S)->Bool
 |[]=>J|v::l=>iT os v||oT os l
end
def Ls{α:Type}(os:L Nat):L (α×V S)->Bool
 |[]=>J|p::l=>iT os p.2||Ls os l
def mW(p:V S->Bool):Tr (V S)->Bool
 |.nil=>J|.node v l r=>(match v with|some x=>p x|none=>J)||(mW p l||mW p r)
def Ll(os:L Nat):vo S->Bool
 |.box a=>oT os a|.Iw _ l=>Ls os l|.lp l=>mW (iT os) l.fr.tm|.lT _ _ _ _ m _ _=>os.contains m|_=>J
namespace Tr
variable {α:Type}
def del:Nat->Tr α->Nat->Tr α
 |0,t,_=>t|_+1,.nil,_=>.nil|n+1,.node v l r,k=>match k with
  |0=>.node Y l r|k+1=>match Nq (Nat.mod k 2) 0 with
   |true=>.node v (del n l (Nat.div k 2)) r|false=>.node v l (del n r (Nat.div k 2))
def keep(p:α->Bool):Tr α->Tr α
 |.nil=>.nil|.node v l r=>.node (match v with|some x=>bif p x then Z x else Y|none=>Y) (keep p l) (keep p r)
end Tr
namespace Tr
variable {α:Type}
def mapA(f:α->α):Tr α->Tr α
 |.nil=>.nil|.node v l r=>.node (match v with|some x=>Z (f x)|none=>Y) (mapA f l) (mapA f r)
def jR(p:α->Bool):Tr α->L Nat
 |.nil=>[]|.node v l r=>(match v with|some x=>bif p x then[0]else[]|none=>[])++((jR p l).map (λk=>Ns (Nat.mul 2 k))++(jR p r).map (λk=>Ns (Ns (Nat.mul 2 k))))
end Tr
def za:V S:=.gd J ep
def rE(os:L Nat)(v:V S):V S:=bif iT os v then za else v
def oe(os:L Nat):vo S->vo S
 |.box b=>.box (b.map (rE os))|.Iw kt l=>.Iw kt (l.map λp=>(p.1,rE os p.2))|.lp l=>.lp {l with fr:={l.fr with tm:=l.fr.tm.mapA (rE os)}}
 |.lT n j l era m a hole=>bif os.contains m then .gone else .lT n j l era m a hole|o=>o
def forget(os:L Nat)(s:bp S):bp S:=match os with
 |[]=>s|_=>{s with ob:=s.ob.mapA (oe os),wr:=s.ob.jR (Ll os)++s.wr}
def yR(bs:L Nat)(s:bp S):bp S:={s with ob:=bs.foldl (λt o=>t.del aM o) s.ob}
def sZ.one:sZ S->Bool
 |.marks _|.kK=>J|_=>W
def eG(p:V S->Bool):sZ S->sZ S
 |.call f args=>bif p f||args.any p then .bad else .call f args|.mark o=>bif p (.ptr o 0)then .bad else .mark o|.marks o=>bif p (.sh o 0)then .kK else .marks o|.kK=>.kK|.bad=>.bad
def dA(os:L Nat)(fr:ck S):ck S:=match os with
 |[]=>fr|_=>{fr with tm:=fr.tm.keep λv=>!(iT os v),df:=fr.df.map (eG (iT os))}
def jS:L Ck->Bool
 |[]=>W|.dat _::l=>jS l|.own _::_=>J|.ku ..::_=>J|.nil _::_=>J|.ptr _::_=>J
def tV:(cs:L Ck)->gC S.A cs->L (V S)
 |[],_=>[]|c::cs,x=>.ty c.ty x.1::tV cs x.2
def cC:L Pk->Bool
 |[]=>W|.one (.dat _)::l=>cC l|_=>J
def Xq:Ty->Bool
 |.int _|.bool|.str=>W|_=>J
def lD:L Ck->Bool
 |[]=>W|.dat t::l=>Xq t&&lD l|.own _::_=>J|.ku ..::_=>J|.nil _::_=>J|.ptr _::_=>J
def Zr:L Pk->Bool
 |[]=>J|.one (.ptr _)::_=>W|_::l=>Zr l
def Q4:L Pk->Bool
 |[]=>W|.one (.dat _)::l=>Q4 l|.one (.ptr _)::l=>Q4 l|_=>J
def ai4(s:bp S):(t:Ty)->V S->O (den S.A t×L Nat)
 |.mp k v,.mp o=>match s.ob.get o with
  |some (.map a b l)=>match yS a b k v l with
   |some l=>Z (l,[])|none=>Y
  |_=>Y
 |t,v=>bX s t v
def Aw(s:bp S):(ts:L Ty)->L (V S)->O (l7 S.A ts×L Nat)
 |[],[]=>Z ((),[])|t::ts,v::l=>match ai4 s t v,Aw s ts l with
  |some (x,os),Z (h,a)=>Z ((x,h),os++a)|_,_=>Y
 |_,_=>Y
def afP(s:bp S):(t:Ty)->L (V S)->O (den S.A t×L Nat)
 |.st n,a=>match Aw s (S.fs n) a with
  |some (h,os)=>Z (S.ET n h,os)|none=>Y
 |_,_=>Y
def aev(s:bp S)(t:Ty):V S->O (den S.A t×L Nat)
 |.mc u y 0=>match wW u t y with
  |some x=>Z (x,[])|none=>Y
 |.ptr o 0=>match s.ob.get o with
  |some (.box a)=>afP s t a|_=>Y
 |_=>Y
def lZ(s:bp S):(ps:L Pk)->L (V S)->O (gm S.A ps×L Nat)
 |[],[]=>Z ((),[])|.one (.dat t)::ps,v::l=>match bX s t v,lZ s ps l with
  |some (x,os),Z (h,a)=>Z ((x,h),os++a)|_,_=>Y
 |.one (.ptr t)::ps,v::l=>match aev s t v,lZ s ps l with
  |some (x,os),Z (h,a)=>Z ((x,h),os++a)|_,_=>Y
 |_,_=>Y
def YD(c:lJ S):Bool:=cC c.ps&&(lD c.rs&&!c.pn)
mutual
def cN(p:Nat->Bool):V S->Bool
 |.ptr o _=>p o|.l9 o _ _ _=>p o|.sh o _=>p o|.mp o=>p o|.rP o=>p o|.uo o=>p o|.sC o m _ _=>p o||p m|.fn _ a b=>iN p a||iN p b|.dj _ v=>cN p v|.agg c=>iN p c|.gR c=>iN p c|.gd _ v=>cN p v|_=>J
def iN(p:Nat->Bool):L (V S)->Bool
 |[]=>J|v::l=>cN p v||iN p l
end
def dN(ow:L Nat)(aE:Nat)(o:Nat):Bool:=ow.contains o||Nl aE o
def mY:L (V S)->Nat->Tr (V S)->Tr (V S)
 |[],_,t=>t|a::l,k,t=>mY l (Ns k) (t.set aM k a)
def Xu(a:L Ck)(v:V S):L (V S):=match a,v with|[_],v=>[v]|_,.gR l=>l|_,v=>[v]
def lP(sh:Sh):L Pk:=sh.map (·.2)
def IC(fr:ck S)(s:bp S):Pt->O (V S)
 |.slot k=>fr.get k|.cell p i=>match IC fr s p with
  |some (.ptr o 0)=>match s.ob.get o with
   |some (.box a)=>nth a i|_=>Y
  |_=>Y
 |.cap p i=>match IC fr s p with
  |some (.fn _ _ a)=>nth a i|_=>Y
 |.MO p k=>match IC fr s p with
  |some (.rP o)=>match s.ob.get o with
   |some (.lp l)=>l.fr.get k|_=>Y
  |_=>Y
def rX(fr:ck S)(s:bp S):Sh->L Pt->O (L Nat)
 |[],[]=>Z []|(_,.one _)::l,a=>rX fr s l a|(_,.box k)::l,p::a=>match IC fr s p with
  |some v=>match Em k v,rX fr s l a with
   |some o,Z r=>Z (o::r)|_,_=>Y
  |none=>Y
 |(_,.hid k)::l,p::a=>match IC fr s p with
  |some v=>match Em k v,rX fr s l a with
   |some o,Z r=>Z (o::r)|_,_=>Y
  |none=>Y
 |_,_=>Y
def vQ(fr:ck S):Sh->L Nat->O (L (V S))
 |[],[]=>Z []|(k,.one _)::l,a=>match fr.get k,vQ fr l a with
  |some v,Z r=>Z (v::r)|_,_=>Y
 |(_,.box k)::l,o::a=>match vQ fr l a with
  |some r=>Z (VK k o::r)|none=>Y
 |(_,.hid _)::l,_::a=>vQ fr l a|_,_=>Y
def ny:(sh:Sh)->L Nat->gm S.A (lP sh)->ck S->bp S->O (ck S×bp S)
 |[],[],_,fr,s=>Z (fr,s)|(k,.one c)::l,a,x,fr,s=>match v8 s c x.1 with
  |(v,s)=>bif Nt k fr.n&&Nl s.aE bM then ny l a x.2 (fr.put k v) s else Y
 |(_,.box k)::l,o::a,x,fr,s=>match lK s (fH a) k x.1 with
  |(ob,s)=>bif Nl s.aE bM then ny l a x.2 fr {s with ob:=s.ob.set aM o ob}else Y
 |(_,.hid k)::l,o::a,x,fr,s=>match lK s (fH a) k x.1 with
  |(ob,s)=>bif Nl s.aE bM then ny l a x.2 fr {s with ob:=s.ob.set aM o ob}else Y
 |_,_,_,_,_=>Y
def zu{α:Type}(p:Nat->Bool):L (α×V S)->Bool
 |[]=>J|x::l=>cN p x.2||zu p l
def gI(p:Nat->Bool):vo S->Bool
 |.box a=>iN p a|.Iw _ l=>zu p l|.lp l=>mW (cN p) l.fr.tm|.lT _ _ _ _ m _ _=>p m|_=>J
def fX(p:Nat->Bool)(v:V S):V S:=bif cN p v then za else v
def fc(p:Nat->Bool):vo S->vo S
 |.box b=>.box (b.map (fX p))|.Iw kt l=>.Iw kt (l.map λx=>(x.1,fX p x.2))|.lp l=>.lp {l with fr:={l.fr with tm:=l.fr.tm.mapA (fX p)}}
 |.lT n j l era m a hole=>bif p m then .gone else .lT n j l era m a hole|o=>o
def cP(ds ow bs:L Nat)(fr:ck S)(s1:bp S):ck S×bp S:=
 ({fr with tm:=(ds.foldl (λt k=>t.del aM k) fr.tm).keep λv=>!(cN (dN ow s1.aE) v),df:=fr.df.map (eG (cN (dN ow s1.aE)))},yR bs {s1 with ob:=s1.ob.mapA (fc (dN ow s1.aE)),wr:=[],dr:=[]})
def Ql:Sh->Sh
 |[]=>[]|(_,.one _)::l=>Ql l|(k,.box b)::l=>(k,.box b)::Ql l|(k,.hid b)::l=>(k,.hid b)::Ql l
def qN(sh:Sh)(bs:L Nat)(fr:ck S)(s:bp S):O (gm S.A (lP sh)×bp S×L Nat):=
 match vQ fr sh bs with
 |none=>Y|some f=>match eK s (lP sh) f Y with
  |none=>Y|some (x,e,d,c)=>match dV s e with
   |none=>Y|some g=>bif sB d&&(CM d e&&(sB c&&(Nq (cH c) (cH bs)&&(c.zip bs).all λ(a,b)=>Nq a b)))then Z (x,g,d)else Y
def jV:vo S->Bool
 |.arr ..|.lM ..|.lT ..|.rws ..|.gone|.Gl=>J|_=>W
def ptO(fr:ck S)(s:bp S)(p:Pt):O Nat:=match IC fr s p with
 |some (.ptr o 0)=>Z o|some (.mp o)=>Z o|some (.rP o)=>Z o|_=>Y
def X3(fr:ck S)(s:bp S):L Pt->O (L Nat)
 |[]=>Z []|p::l=>match ptO fr s p,X3 fr s l with
  |some o,Z r=>Z (o::r)|_,_=>Y
def IN:L Nat->Nat
 |[]=>0|a::l=>bif Nl (IN l) a then a else IN l
def zd:Sh->L Nat
 |[]=>[]|(k,.one _)::l=>k::zd l|(_,.box _)::l=>zd l|(_,.hid _)::l=>zd l
def Ca(l:L Nat)(o:Nat):Bool:=!(l.contains o)
def T3(args:L (V S)):ck S:={n:=cH args,tm:=mY args 0 .nil}
def RE(l:L Nat)(sh:Sh)(fr:ck S):ck S:={n:=fr.n,tm:=((zd sh).foldl (λt k=>t.del aM k) fr.tm).keep λv=>!(cN (Ca l) v)}
def DE(ob:Tr (vo S)):L Nat->Tr (vo S)
 |[]=>.nil|o::l=>match ob.get o with
  |some x=>(DE ob l).set aM o x|none=>DE ob l
def stJ(bs a:L Nat)(s:bp S):bp S:=⟨DE s.ob a,Ns (IN (bs++a)),s.fl,0,[],[]⟩
def frE:ck S:={n:=0,tm:=.nil}
def getAll(fr:ck S):Nat->Nat->O (L (V S))
 |_,0=>Z []|j,n+1=>match fr.get j,getAll fr (Ns j) n with
  |some v,Z l=>Z (v::l)|_,_=>Y
def Ug(l a:L Nat)(s:bp S):Bool:=a.all λo=>match s.ob.get o with
 |some ob=>jV ob&&!(gI (Ca l) ob)|none=>J
abbrev JT(S:Sg)(sh:Sh)(rs:L Ck):=gC S.A rs×gm S.A (lP (Ql sh))
def aew(sh:Sh)(a:L Ck)(bs b:L Nat)(v:V S)(s:bp S):O (JT S sh a):=
 match gn s a (Xu a v),qN (Ql sh) bs frE s with
 |some (r,_,_),Z (y,c,_)=>bif b.all (λo=>!(c.wr.contains o))then Z (r,y)else Y|_,_=>Y
def QG(call:gj S)(f:FuncId)(sh:Sh)(a:L Ck)(bs b:L Nat)(fr:ck S)(s:bp S)(x:gm S.A (lP sh)):O (JT S sh a):=
 match ny sh bs x fr s with
 |none=>Y|some (fr,s)=>match getAll fr 0 fr.n with
  |none=>Y|some args=>call (.jn f) args s (aew sh a bs b) (λ_ _=>Y)
section
variable (E:eM S)(call:gj S){ω:Type}
def ag8(s:bp S)(c:lJ S)(args:L (V S))(k:V S->bp S->L Nat->O ω):O ω:=
 bif Q4 c.ps&&(lD c.rs&&!c.pn)then match lZ s c.ps args with
  |none=>Y|some (x,a)=>match dV s a with
   |none=>Y|some _=>ah (c.F x) λr=>match RT.res c.pn r with
    |.ok r=>k (Ej (tV c.rs r.1)) s []|.iJ _=>Y
 else Y
def OO(s:bp S)(c:lJ S)(args:L (V S))(kp:V S->bp S->O ω)(k:V S->bp S->L Nat->O ω):O ω:=bif Zr c.ps then ag8 s c args k else
 match eK s c.ps args Y with
 |none=>Y|some (x,f,a,d)=>match dV s f with
  |none=>Y|some b=>bif YD c then ah (c.F x) λr=>match RT.res c.pn r with
     |.ok r=>k (Ej (tV c.rs r.1)) s []|.iJ _=>Y
   else bif sB a&&(sB d&&CM a f)then
    ah (c.F x) λr=>match RT.res c.pn r with
     |.ok r=>match mA (yR d (forget a {b with wr:=a++b.wr,dr:=a++b.dr})) c.ps d r.2 with
      |none=>Y|some e=>match iz e c.rs r.1 with
       |(l,g)=>bif Nl g.aE bM then k (Ej l) g a else Y
     |.iJ p=>match mA (yR d (forget a {b with wr:=a++b.wr,dr:=a++b.dr})) c.ps d p.2 with
      |none=>Y|some e=>match a with
       |[]=>bif Nl e.aE bM then kp (.ty S.pt p.1) e else Y|_::_=>Y
   else Y
def yV(k:V S->bp S->O ω)(d:O ω):L (Bool×V S×bp S)->O ω
 |[]=>d|p::l=>ai p.1 (k p.2.1 p.2.2) (yV k d l)
def evJ(a:JSh)(s:bp S)(f:FuncId)(args:L (V S))(k:V S->bp S->L Nat->O ω):O ω:=
 match rX (T3 args) s a.sh a.pts,X3 (T3 args) s a.ks with
 |some b,Z d=>match qN a.sh b (T3 args) s with
  |none=>Y|some (g,c,e)=>bif (Nt (cH args) bM&&(zd a.sh).all λk=>Nt k bM)&&(lD a.rs&&(Ug (b++d) d c&&Nl (Ns (IN (b++d))) c.aE))then
    ah (QG call f a.sh a.rs b d (RE (b++d) a.sh (T3 args)) (stJ b d c) g) λy=>
     match ny (Ql a.sh) b y.2 frE (cP [] e b frE c).2 with
     |none=>Y|some (_,h)=>k (Ej (tV a.rs y.1)) {h with wr:=c.ob.jR (gI (dN e c.aE))++(b++(e++c.wr)),dr:=e++c.dr} e
   else Y
 |_,_=>Y
def ydB:Bool:=(E.cj 1000000 []).isSome
def AI(s:bp S):Nat->L Nat
 |0=>[]|n+1=>bif Nl s.lo n&&!((s.ob.get n).any jV)then n::AI s n else AI s n
def fdB(f:FuncId):Bool:=(E.cj (Na 1000001 f) []).isSome
def uU(s:bp S)(f:FuncId)(args:L (V S))(kp:V S->bp S->O ω)(k:V S->bp S->L Nat->O ω):O ω:=match E.IU f with
 |some c=>OO s c args kp k|none=>match E.cj f args with
  |some a=>evJ call a s f args k|none=>bif fdB E f then call (.jn f) args s (λt b=>k t {b with wr:=AI s s.aE++b.wr,dr:=AI s s.aE++b.dr} (AI s s.aE)) (λ_ _=>Y)else call (.fn f) args s (λt b=>k t b []) kp
def ZI(s:bp S)(m:String)(args:L (V S))(n:Nat)(x:den S.A (.dj n))(kp:V S->bp S->O ω)(k:V S->bp S->L Nat->O ω):L (TypeId×Ty)->Nat->O ω
 |[],_=>Y|p::l,j=>ai (kB (S.alts n) j (S.uO n x)) (match E.T.Lq p.1 m with
   |some f=>bif Nq p.1 ((nth (S.alts n) j).elim 0 (·.1))then uU E call s f (.ty (nB (S.alts n) j) (jf S.zero (S.alts n) j (S.uO n x))::args) kp k else Y|none=>Y) (ZI s m args n x kp k l (Ns j))
def aiR:O (V S)->O Nat
 |some (.rP o)=>Z o|_=>Y
def uS(o:Oper)(fr:ck S)(s:bp S)(kp:V S->bp S->O ω)(k:V S->bp S->L Nat->O ω):O ω:=
 match o.op with
 |.call c=>match ko fr c.args.toList with
  |none=>Y|some args=>match c.callee with
   |.builtin b=>match lV E.T s b c.argTypes args with
    |none=>Y|some (p,t,a)=>aO p (k t a [])
   |.value f=>match aiR (cF fr f)with
    |some o=>bif ydB E then call (.yd o) args s (λt a=>k t {a with wr:=AI s s.aE++a.wr,dr:=AI s s.aE++a.dr} (AI s s.aE)) (λ_ _=>Y)else call (.yl o) args s (λt a=>k t a []) kp
    |none=>match(cF fr f).bind (qf · args)with
     |none=>Y|some (f,args)=>uU E call s f args kp k
   |.invoke x m=>match cF fr x with
    |some (.dj t v)=>match E.T.Lq t m with
     |some f=>uU E call s f (v::args) kp k|none=>Y
    |some (.ty (.dj n) x)=>ZI E call s m args n x kp k (S.alts n) 0|_=>Y
 |.panic x=>match cF fr x with
  |some (.dj t v)=>kp (.dj t v) s|_=>Y
 |op=>match ir E.T fr s op with
  |some (e,p,d,a)=>yV (λv s=>k v s []) (aO p (k d a [])) e|none=>match AD E.T fr s op with
   |none=>Y|some (p,t,a)=>aO p (k t a [])
def zF(c:O Bool)(p:Bool)(x:O ω):O ω:=match c with
 |none=>aO p x|some c=>aO (imp c p) x
def alC{α:Type}(c:O Bool)(x:O α)(z:α):O α:=match c with
 |none=>x|some c=>ai c x (Z z)
mutual
def vX:V S->Bool
 |.sh _ _=>J|.sC _ _ _ _=>J|.dj _ v=>vX v|.agg a=>jX a|.gR a=>jX a|_=>W
def jX:L (V S)->Bool
 |[]=>W|v::l=>vX v&&jX l
end
def W7(S:Sg):(cs:L Ck)->gC S.A cs
 |[]=>()|c::cs=>(S.zero c.ty,W7 S cs)
def ajf(A:Nat->Type):(ps:L Pk)->O (iE A ps)
 |[]=>Z ()|.one _::ps=>ajf A ps|.box _::_=>Y|.hid _::_=>Y
def EL:Builtin->Bool
 |.len|.max|.min=>W|_=>J
def xe(k:V S->O ω)(d:O ω):L (Bool×V S×bp S)->O ω
 |[]=>d|p::l=>ai p.1 (k p.2.1) (xe k d l)
def fI(g:O Bool)(fr:ck S)(s:bp S)(o:Oper)(k:V S->O ω):O ω:=
 match o.op with
 |.call c=>match ko fr c.args.toList with
  |none=>Y|some args=>match c.callee with
   |.builtin b=>bif EL b then match lV E.T s b c.argTypes args with
     |some (p,t,_)=>zF g p (k t)|none=>Y
    else Y
   |.value f=>match(cF fr f).bind (qf · args)with
    |none=>Y|some (f,args)=>match E.IU f with
     |none=>Y|some c=>bif cC c.ps&&(jS c.rs&&(jX args&&!c.pn))then
       match eK s c.ps args Y,ajf S.A c.ps with
       |some (x,_,_,_),Z b=>ah (alC g (c.F x) (RT.ok c.pn (W7 S c.rs,b))) λr=>match RT.res c.pn r with
        |.ok r=>k (Ej (tV c.rs r.1))|.iJ _=>Y
       |_,_=>Y
      else Y
   |_=>Y
 |.store ..|.alloc ..|.box ..|.panic ..|.makeMap ..|.mapUpdate ..|.insert ..|.makeSlice ..|.range ..|.next ..|.defer ..=>Y|.buildSlice t n e=>match ja fr e.toList with
  |some l=>bif jX (l.map (·.2))then match AD E.T fr s (.buildSlice t n e)with
   |none=>Y|some (p,v,_)=>zF g p (k v)
   else Y
  |none=>Y
 |.slice t x lo h i=>match cF fr x with
  |some v=>bif vX v then match AD E.T fr s (.slice t x lo h i)with
   |none=>Y|some (p,v,_)=>zF g p (k v)
   else Y
  |none=>Y
 |op=>match ir E.T fr s op with
  |some (a,p,d,_)=>xe k (zF g p (k d)) a|none=>match AD E.T fr s op with
   |none=>Y|some (p,v,_)=>zF g p (k v)
def BU(fr:ck S)(o:Oper):Bool:=
 match o.op with
 |.call c=>match ko fr c.args.toList with
  |none=>J|some args=>match c.callee with
   |.builtin b=>EL b|.value f=>match(cF fr f).bind (qf · args)with
    |none=>J|some (f,args)=>match E.IU f with
     |none=>J|some c=>cC c.ps&&(jS c.rs&&(jX args&&!c.pn))
   |_=>J
 |.store ..|.alloc ..|.box ..|.panic ..|.makeMap ..|.mapUpdate ..|.insert ..|.makeSlice ..|.range ..|.next ..|.defer ..=>J|.buildSlice _ _ a=>match ja fr a.toList with
  |some l=>jX (l.map (·.2))|none=>J
 |.slice _ x _ _ _=>match cF fr x with
  |some v=>vX v|none=>J
 |_=>W
def r8(fr:ck S)(o:Op):ck S:=
 o.operands.toList.foldl (λf x=>match x with
  |.tmp k=>match fr.get k with
   |some (.gd _ v)=>f.put k v|_=>f
  |_=>f) fr
def Oy(c:Bool)(fr:ck S)(o:Op):Bool:=
 o.operands.toList.foldl (λp x=>match x with
  |.tmp k=>match fr.get k with
   |some (.gd g _)=>p&&imp c g|_=>p
  |_=>p) W
def iO(ops:L Oper)(fr:ck S)(o:Oper):O (O Bool):=
 match o.guard with
 |none=>Z Y|some (j,a)=>match((nth ops j).bind (·.dst)).bind fr.get with
  |some (.kb b)=>bif (bif b then a else !a)then Z Y else Z (Z J)|some t=>match iD t with
   |some b=>Z (Z (pJ b a))|none=>Y
  |none=>Y
def vF(ops:L Oper)(fr:ck S)(o:Oper):Bool:=
 match o.guard with
 |none=>J|some (j,a)=>match((nth ops j).bind (·.dst)).bind fr.get with
  |some (.kb b)=>bif b then !a else a|some (.dat (.lit (.tuple _)))=>W|_=>J
def T1(ops:L Oper)(d:O Nat):Bool:=match d with
 |none=>J|some d=>ops.any λo=>match o.guard with
  |none=>J|some (j,_)=>match(nth ops j).bind (·.dst)with
   |some e=>Nq d e|none=>J
def KO{ω:Type}(b:Bool)(t:V S)(k:V S->O ω):O ω:=bif b then match t with
  |.ty .bool x=>ai x (k (.kb W)) (k (.kb J))|t=>k t
 else k t
def gN(fr:ck S):O Nat->Bool
 |none=>W|some d=>Nt d fr.n
def p9(ops:L Oper)(o:Oper)(fr:ck S)(s:bp S)(kp:V S->bp S->O ω)(k:V S->bp S->L Nat->O ω):O ω:=
 bif gN fr o.dst then bif vF ops fr o then k ep s []else match iO ops fr o with
  |none=>Y|some Y=>uS E call o fr s kp k|some (Z c)=>
   let f:=r8 fr o.op
   bif BU E f o then aO (Oy c fr o.op) (fI E (Z c) f s o λt=>k (.gd c t) s [])
   else ai c (aO (Oy c fr o.op) (uS E call o f s kp k)) (k (.gd J ep) s [])
 else Y
def RL(fr:ck S)(o:Oper):O (sZ S):=match o.guard,o.op with
 |none,.defer c=>match c.callee with
  |.value f=>match cF fr f,ko fr c.args.toList with
   |some (.fn f a b),Z args=>Z (.call (.fn f a b) args)|_,_=>Y
  |_=>Y
 |_,_=>Y
def RG(ops:L Oper)(o:Oper)(fr:ck S)(s:bp S)(kp:V S->bp S->O ω)(k:ck S->bp S->O ω):O ω:=
 match RL fr o with
 |some d=>bif gN fr o.dst then k {(fr.jr o.dst za)with df:=d::fr.df} s else Y
 |none=>p9 E call ops o fr s kp λt a b=>KO (T1 ops o.dst) t λt=>k ((dA b fr).jr o.dst t) a
def T7(ops:L Oper)(kp:ck S->V S->bp S->O ω)(k:ck S->bp S->O ω):L Oper->ck S->bp S->O ω
 |[],fr,s=>k fr s|o::l,fr,s=>RG E call ops o fr s (kp fr) λa b=>T7 ops kp k l a b
end
end
end TL
end
end
