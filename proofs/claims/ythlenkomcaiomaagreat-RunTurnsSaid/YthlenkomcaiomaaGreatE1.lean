import GoSem.Dispatch
import GoSem.Machine.Return
import Derived.Calls
import Derived.RowKit
import Derived.WalkKit
import Derived.Deep.AppendSrc
import Derived.Laws.StructEq
import Derived.Room.AppendAny
import Derived.RangeFuncIn
import Derived.RangeFuncLeaves
import Derived.RangeFuncRecord
import Derived.Orders
set_option linter.all false
set_option maxRecDepth 100000
set_option maxHeartbeats 0
noncomputable section
open Option renaming some->Z,none->Y
open Bool renaming true->W,false->J
open Nat renaming beq->Nq,ble->Nl,blt->Nt,succ->Ns,add->Na
open Go.Result(andThen_ok)
open Go.Sem(run_bind run_pure)
namespace TL
section
abbrev O:=@Option
abbrev L:=@List
abbrev U:=Unit
abbrev gi:=@Option.map_eq_some_iff
abbrev bS:=@if_neg
abbrev gY:=@Nat.le_of_ble_eq_true
abbrev iZ:=@List.getElem?_eq_getElem
abbrev eX:=@Bool.and_eq_true
abbrev ie:=@List.mem_cons_of_mem
abbrev gV:=@Option.some.injEq
abbrev fH:=@Prod.mk.injEq
abbrev iW:=@Nat.lt_of_lt_of_le
abbrev eP:=@Nat.le_refl
abbrev bH:=@if_pos
abbrev e9:=@List.mem_append_right
abbrev eN:=@List.mem_cons_self
abbrev gf:=@List.mem_append_left
abbrev fc:=@List.mem_append
abbrev fK:=@Int.natCast_add
abbrev fM:=@Int.natCast_one
abbrev iG:=@List.mem_of_getElem?
abbrev gn:=@List.mem_cons
abbrev jR:=@List.length_append
abbrev gE:=@Nat.le_trans
abbrev m8:=@List.length_singleton
abbrev kV:=@List.getD_cons_zero
abbrev jw:=@decide_eq_false
abbrev iP:=@List.append_nil
abbrev jQ:=@Option.map_some
abbrev eC:=@congrArg
abbrev lK:=@List.getElem?_map
abbrev ko:=@Option.some.inj
abbrev kU:=@List.all_eq_true
abbrev l5:=@List.length_cons
abbrev kT:=@decide_eq_true
abbrev uS:=@Array.getElem?_eq_getElem
abbrev wB:=@List.getD_eq_getElem?_getD
abbrev wA:=@Nat.eq_of_beq_eq_true
abbrev sd:=@List.getElem_of_mem
abbrev wz:=@Option.bind_eq_some_iff
abbrev uR:=@List.mem_singleton_self
abbrev iq:=@cond_true
abbrev tS:=@List.getElem?_append
abbrev ri:=@decide_eq_true_eq
abbrev jP:=@cond_false
abbrev uQ:=@List.pairwise_append
abbrev EZ:=@List.eq_nil_of_length_eq_zero
abbrev o8:=@Bool.or_eq_true
abbrev tR:=@List.mem_singleton
abbrev qd:=@Bool.false_and
abbrev o7:=@List.map_cons
abbrev uP:=@Int.toNat_natCast
abbrev wv:=@List.append_assoc
abbrev zU:=@Nat.mul_le_mul_right
abbrev zT:=@Bool.and_eq_true_iff
abbrev zS:=@Bool.or_eq_false_iff
abbrev rf:=@Bool.true_and
abbrev jY:=@if_false
abbrev zR:=@Int.toNat_of_nonneg
abbrev OD:=@Nat.ble_eq_true_of_le
abbrev A6:=@List.mem_filterMap
abbrev kz:=@if_true
abbrev OB:=@List.mem_zipIdx_iff_getElem?
abbrev GJ:=@List.contains_eq_mem
abbrev GI:=@List.getD_cons_succ
abbrev wP:=@List.mem_map
abbrev Sc:=@List.pairwise_iff_getElem
abbrev yS:=@Nat.zero_add
abbrev Mg:=@List.singleton_append
abbrev OA:=@List.getElem?_cons_zero
abbrev Mf:=@List.length_pos_iff
abbrev Me:=@List.length_take
abbrev Wt:=@List.getElem?_eq_some_iff
abbrev YO:=@List.take_append_drop
abbrev Oz:=@List.getElem_mem
abbrev Oy:=@Bool.false_eq_true
abbrev Ws:=@Classical.axiomOfChoice
abbrev Ox:=@Bool.not_eq_true'
abbrev Md:=@List.length_set
abbrev Sb:=@List.length_map
abbrev YN:=@List.length_eq_one_iff
abbrev YM:=@Array.getElem?_eq_some_iff
abbrev Jt:=@Bool.not_true
abbrev wu:=@Iff.rfl
abbrev ac6:=@List.contains_iff_mem
abbrev Mc:=@Bool.not_false
abbrev Mb:=@Bool.and_false
abbrev YL:=@List.mem_or_eq_of_mem_set
abbrev YK:=@List.getElem?_append_left
abbrev YJ:=@Classical.byContradiction
abbrev GH:=@Nat.zero_le
abbrev Wr:=@List.mem_of_mem_take
abbrev Ow:=@List.nil_append
abbrev Ov:=@List.nodup_cons
abbrev Sa:=@List.getElem?_set
abbrev RZ:=@Classical.not_not
abbrev Ma:=@Bool.and_true
abbrev YI:=@decide_eq_false_iff_not
abbrev YH:=@List.map_congr_left
abbrev Wq:=@Array.toList_append
abbrev RY:=@Option.getD_some
abbrev Ou:=@Nat.testBit_or
abbrev RW:=@List.take_length
abbrev OP:=@List.getElem?_set_self
abbrev zd:=@Int.le_refl
abbrev Ke:=@List.getElem?_take
abbrev Kc:=@List.length_nil
abbrev OO:=@List.getElem?_zipWith
abbrev UG:=@List.exists_cons_of_ne_nil
abbrev ON:=@List.getElem?_of_mem
abbrev UF:=@List.drop_eq_getElem_cons
abbrev akl:=@Option.filter_eq_some_iff
abbrev GM:=@Option.map_map
abbrev Ee:=@Nat.le_of_eq
abbrev afF:=@List.take_succ_eq_append_getElem
abbrev OM:=@List.getElem?_drop
abbrev Kb:=@List.map_append
abbrev Ed:=@Nat.le_succ
abbrev OL:=@List.ext_getElem?
abbrev OK:=@of_decide_eq_true
abbrev GL:=@List.map_set
abbrev UE:=@List.getElem?_toArray
abbrev UD:=@List.eq_nil_or_concat
abbrev UC:=@List.concat_eq_append
abbrev Ze:=@List.dropLast_concat_getLast
abbrev GK:=@Int.add_zero
abbrev UB:=@Nat.div_lt_of_lt_mul
abbrev OJ:=@List.foldl_cons
abbrev OI:=@List.cons.injEq
abbrev OH:=@List.all_append
abbrev OG:=@Nat.mul_comm
abbrev Zc:=@List.eq_of_mem_replicate
abbrev Ka:=@Nat.le_of_lt
abbrev afE:=@Option.isSome_iff_exists
abbrev OF:=@Nat.mul_le_mul
abbrev afD:=@List.drop_drop
abbrev afC:=@Array.toList_eq_nil_iff
abbrev UA:=@List.size_toArray
abbrev Uz:=@Nat.lt_succ_of_le
abbrev J9:=@Nat.one_mul
abbrev OE:=@Bool.and_self
abbrev Uy:=@List.length_drop
abbrev Ux:=@Option.bind_some
abbrev Uw:=@Array.toList_map
abbrev Uv:=@List.any_eq_true
abbrev aa:=Bool
abbrev az:=Go.World
abbrev aD:=Go.Value
abbrev cV:=Go.Program
open Go
inductive Tr(α:Type) where
 |nil|node (v:Option α) (l r:Tr α)
 deriving Inhabited
namespace Tr
variable {α:Type}
def get:Tr α->Nat->O α
 |.nil,_=>Y|.node v l r,k=>match k with
  |0=>v|k+1=>match Nq (Nat.mod k 2) 0 with
   |true=>l.get (Nat.div k 2)|false=>r.get (Nat.div k 2)
def set:Nat->Tr α->Nat->α->Tr α
 |0,t,_,_=>t|n+1,.nil,k,x=>match k with
  |0=>.node (Z x) .nil .nil|k+1=>match Nq (Nat.mod k 2) 0 with
   |true=>.node Y (set n .nil (Nat.div k 2) x) .nil|false=>.node Y .nil (set n .nil (Nat.div k 2) x)
 |n+1,.node v l r,k,x=>match k with
  |0=>.node (Z x) l r|k+1=>match Nq (Nat.mod k 2) 0 with
   |true=>.node v (set n l (Nat.div k 2) x) r|false=>.node v l (set n r (Nat.div k 2) x)
end Tr
def pz:IntKind->IntKind->aa
 |.i8,.i8|.i16,.i16|.i32,.i32|.i64,.i64|.u8,.u8|.u16,.u16|.u32,.u32|.u64,.u64=>W|_,_=>J
def cM{α:Type}:L α->Nat
 |[]=>0|_::l=>Ns (cM l)
def nth{α:Type}:L α->Nat->O α
 |[],_=>Y|a::_,0=>Z a|_::l,k+1=>nth l k
inductive D where
 |lit (v:aD)|sl (es:List D)|agg (cs:List D)|dn (t:TypeId) (d:D)|gX (ds:List D)|pt (d:D)|mp (ks vs:List D)
 deriving Inhabited
namespace D
def toInt:D->Int|.lit (.int _ n)=>n|_=>0
def isInt(k:IntKind):D->aa|.lit (.int j _)=>pz j k|_=>J
def toBool:D->aa|.lit (.bool b)=>b|_=>J
def isBool:D->aa|.lit (.bool _)=>W|_=>J
def toStr:D->ByteArray|.lit (.string b)=>b|_=>.empty
def isStr:D->aa|.lit (.string _)=>W|_=>J
def agQ:D->L D|.sl es=>es|_=>[]
def alu:D->aa|.sl _=>W|_=>J
def cells:D->L D|.agg cs=>cs|d=>[d]
def cell(d:D)(j:Nat):D:=d.cells.getD j (.lit (.tuple #[]))
def leaf:D->aa
 |.agg _|.gX _=>J|.lit (.agg _)|.lit (.tuple _)=>J|_=>W
def isAgg(n:Nat):D->aa|.agg cs=>Nq (cM cs) n&&cs.all leaf|_=>J
def proj:D->Nat->D|.gX ds,k=>ds.getD k (.lit (.tuple #[]))|_,_=>.lit (.tuple #[])
def aie(n:Nat):D->aa|.gX ds=>Nt n (cM ds)|_=>J
def alv:D->aa|.dn _ _=>W|_=>J
def has(d:D)(m:Nat):Prop:=m<=d.cells.length
def wide(d:D)(m:Nat):Prop:=d.cells.length=m
def lby:D->Nat
 |.lit (.string _)|.lit .nilIface|.dn _ _=>16|.sl _|.lit (.slice ..)=>24|_=>8
def pQ:L D->Nat
 |[]=>0|d::l=>Na d.lby (pQ l)
def s9:D->Nat
 |.agg a=>pQ a|.lit (.bool _)=>1|.lit (.int .i8 _)|.lit (.int .u8 _)=>1|.lit (.int .i16 _)|.lit (.int .u16 _)=>2|.lit (.int .i32 _)|.lit (.int .u32 _)=>4|d=>d.lby
def flat(d:D):aa:=d.cells.all leaf
def Rw(d:D)(off:Nat)(l:L D):D:=match d with
 |.agg a=>.agg (a.take off++l++a.drop (off+l.length))|d=>l.getD 0 d
def Uj(d:D)(sz off n:Nat):Prop:=d.isAgg sz=W\/(d.leaf=W/\sz=1/\off=0/\n=1)
end D
def jy(es:L D)(i:Nat):D:=es.getD i (.lit (.tuple #[]))
def eT(es:L D):Int:=es.length
def mj(n:Int)(len:Int):Prop:=0<=n/\n<len
def zE(lo hi len:Int):Prop:=0<=lo/\lo<=hi/\hi<=len
def pY(es:L D)(lo hi:Int):L D:=(es.take hi.toNat).drop lo.toNat
def NI(b:ByteArray)(lo hi:Int):ByteArray:=b.extract lo.toNat hi.toNat
def vU(b:ByteArray):Int:=b.size
def acj(b:ByteArray)(n:Int):Int:=(b.get! n.toNat).toNat
def NJ(a b:ByteArray):Prop:=a.size+b.size<=4611686018427387904
def TY(a b:ByteArray):ByteArray:=a++b
def iK(a b:L D):L D:=a++b
def zC(es:L D)(k:Nat)(d:D):L D:=es.set k d
def jO(es:L D)(sz:Nat):Prop:=∀d∈es,d.cells.length=sz
def wj(es:L D)(b:Nat):Prop:=∀d∈es,d.s9=b/\d.flat=W
def EX(n:Int):Nat:=n.toNat
def AD:Int:=0
def aJ(k:IntKind)(a b:Int):Int:=k.wrap (a+b)
def bn(k:IntKind)(a b:Int):Int:=k.wrap (a-b)
def I8(k:IntKind)(a b:Int):Int:=k.wrap (a*b)
def Rm(k:IntKind)(a:Int):Int:=k.wrap (-a)
def TZ(k:IntKind)(a:Int):Int:=k.wrap a
def uD(a b:Int):Int:=a.tmod b
def ack(k:IntKind)(a b:Int):Int:=k.wrap (a.tdiv b)
def ajg(a:Int):Prop:=a≠0
def af(a b:Int):aa:=a==b
def pZ(a b:aa):aa:=a==b
def VR(a b:ByteArray):aa:=a==b
def aG(a b:Int):aa:=decide (a<b)
def bB(a b:Int):aa:=decide (a<=b)
def acm(c a b:aa):aa:=if c then a else b
def av(a:aa):aa:=!a
def bR(a b:aa):aa:=a&&b
inductive T where
 |sym (d:D)|kb (b:aa)|kn (k:IntKind) (n:Int)|ptr (o off:Nat)|mD (d:D) (off:Nat)|mC (o e i off:Nat)|sh (o e:Nat)|emp|kR (n:Nat) (es:List D)|fn (f:Fn) (first cap:List T)
 |dn (t:TypeId) (v:T)|agg (cs:List T)|gX (vs:List T)|gd (c:aa) (v:T)|mp (o:Nat)|r9 (o:Nat)|uH (o:Nat)|ub (e:aa)|sV (o m r i:Nat)|qx (j:Nat) (d:D)
 deriving Inhabited
inductive Df where
 |call (f:T) (args:List T)|mark (o:Nat)|marks (o:Nat)|kO|bad
 deriving Inhabited
def Df.one:Df->aa
 |.marks _|.kO=>J|_=>W
structure Fr where
 n:Nat
 tm:Tr T
 df:List Df:=[]
 deriving Inhabited
structure Lp where
 st:LoopState
 wC:Option Code
 fid:FuncId
 fr:Fr
 params:List Nat
 assign:Code
 body:Code
inductive Ob where
 |box (cs:List T)|arr (sz:Nat) (es:List D) (era:Nat)|lW (sz:Nat) (es:List D) (era:Nat)|map (es:List (T×T))|r8 (b:ByteArray) (pos:Nat)|lp (l:Lp)|AG|l8 (nj sz:Nat) (es:List D) (era m ij:Nat) (hole:Option Nat)|rws (sz:Nat) (iY:List (List D)) (ij:Nat)|gone|Hj
 deriving Inhabited
def Ob.oM:Ob->aa
 |.arr ..|.lW ..|.l8 ..|.rws ..|.gone|.Hj=>W|_=>J
def Ob.isA:Ob->aa
 |.arr ..|.lW ..=>W|_=>J
def Ob.odd:Ob->aa
 |.map _|.r8 _ _|.lp _|.AG=>W|_=>J
structure St where
 ob:Tr Ob
 aH:Nat
 fl:Nat
 lo:Nat
 deriving Inhabited
def aP:Nat:=64
def bO:Nat:=1000000000
def Fr.get(fr:Fr)(k:Nat):O T:=fr.tm.get k
def Fr.put(fr:Fr)(k:Nat)(v:T):Fr:={fr with tm:=fr.tm.set aP k v}
def Fr.jb(fr:Fr)(k:O Nat)(v:T):Fr:=match k with|some k=>fr.put k v|none=>fr
inductive Lk where
 |int (k:IntKind)|bool|str|no
 deriving DecidableEq,Inhabited
inductive Kd where
 |leaf (l:Lk)|ptr|slice (sz:Nat) (agg:aa) (s9:Nat) (zero:List D)|struct (fs:List (Nat×Nat×aa))|array (len sz:Nat) (agg:aa)|iface|other
 deriving Inhabited
structure TI where
 size:Nat
 agg:aa
 zero:List D
 lks:List Lk
 kd:Kd
 deriving Inhabited
structure Ro where
 pre:List D->Prop
 f:List D->D
structure Env where
 P:cV
 ti:Nat->Option TI
 Ve:Nat->Option Func
 JA:Nat->Option Ro
def El:aD->O D
 |.bool b=>Z (.lit (.bool b))|.int k n=>Z (.lit (.int k n))|.string s=>Z (.lit (.string s))|.pointer Y=>Z (.lit (.pointer Y))|.map Y=>Z (.lit (.map Y))|.nilFunc=>Z (.lit .nilFunc)|.nilIface=>Z (.lit .nilIface)|.tuple a=>match a.toList with
  |[]=>Z (.lit (.tuple #[]))|_=>Y
 |_=>Y
def ofConst:aD->O T
 |.bool b=>Z (.kb b)|.int k n=>Z (.kn k n)|.slice Y 0 0=>Z .emp|.func f a b=>match a.toList,b.toList with
  |[],[]=>Z (.fn f [] [])|_,_=>Y
 |.iface t v=>(El v).map λd=>.sym (.dn t d)|v=>(El v).map .sym
def ru:D->T
 |.lit (.bool b)=>.kb b|.lit (.int k n)=>.kn k n|.sl []=>.emp|d=>.sym d
def T.leaf:T->Prop
 |.sym d=>d.leaf=W|.agg _|.gX _|.gd _ _=>False|_=>True
def kN(i:TI):T->O (Prop×L T)
 |.agg a=>bif i.agg&&Nq (cM a) i.size then Z (True,a)else Y|.sym d=>
  bif i.agg then Z (d.isAgg i.size=W,(List.range i.size).map λj=>.sym (d.cell j))
  else bif Nq i.size 1 then Z (d.leaf=W,[.sym d])else Y
 |.gX _|.gd _ _=>Y|t=>bif i.agg then Y else bif Nq i.size 1 then Z (True,[t])else Y
def wS(agg:aa)(cs:L T):O T:=
 bif agg then Z (.agg cs)else match cs with
  |[x]=>Z x|_=>Y
def kC(fr:Fr):Operand->O T
 |.tmp k=>fr.get k|.const v=>ofConst v|.global _=>Y|.func f=>Z (.fn (.func f) [] [])
def zf(fr:Fr):L Operand->O (L T)
 |[]=>Z []|x::l=>match kC fr x,zf fr l with
  |some t,Z r=>Z (t::r)|_,_=>Y
def yU(k:IntKind):T->O (Prop×Int)
 |.kn j n=>bif pz j k then Z (True,n)else Y|.sym d=>Z (d.isInt k=W,d.toInt)|_=>Y
def BT:T->O (Prop×aa)
 |.kb b=>Z (True,b)|.sym d=>Z (d.isBool=W,d.toBool)|_=>Y
def AR:T->O (Prop×ByteArray)
 |.sym d=>Z (d.isStr=W,d.toStr)|_=>Y
def Cz(s:St):T->O (Prop×L D)
 |.emp=>Z (True,[])|.kR _ a=>Z (True,a)|.qx _ d=>Z (True,[d])|.sym d=>Z (d.alu=W,d.agQ)|.sh o e=>match s.ob.get o with
  |some (.arr _ a era)|some (.lW _ a era)=>bif Nq e era then Z (True,a)else Y|_=>Y
 |_=>Y
def Bx(nj:Nat)(d:D)(a:L D):D:=.agg (d.cells.set nj (.sl a))
def nk(nj:Nat)(es:L D)(iY:L (L D)):L D:=List.zipWith (Bx nj) es iY
def Jr(s:St)(m r:Nat):O (L (L D)):=match s.ob.get m with
 |some (.rws _ a b)=>bif Nq r b then Z a else Y|_=>Y
mutual
def Ct(s:St):T->O (Prop×D×L Nat)
 |.sym d=>Z (True,d,[])|.kb b=>Z (True,.lit (.bool b),[])|.kn k n=>Z (True,.lit (.int k n),[])|.emp=>Z (True,.sl [],[])|.kR _ a=>Z (True,.sl a,[])|.qx _ d=>Z (True,.sl [d],[])|.sh o e=>match s.ob.get o with
  |some (.arr _ a era)=>bif Nq e era then Z (True,.sl a,[o])else Y|some (.lW _ a era)=>bif Nq e era then Z (True,.sl a,[])else Y|some (.l8 g _ a era m r Y)=>match Jr s m r with
   |some c=>bif Nq e era&&Nt m bO then Z (True,.sl (nk g a c),[o,m])else Y|none=>Y
  |_=>Y
 |.dn t v=>match Ct s v with
  |some (p,d,os)=>Z (p,.dn t d,os)|none=>Y
 |.agg f=>match oF s f with
  |some (p,ds,os)=>Z (p/\ds.all D.leaf=W,.agg ds,os)|none=>Y
 |.gX f=>match oF s f with
  |some (p,ds,os)=>Z (p,.gX ds,os)|none=>Y
 |_=>Y
def oF(s:St):L T->O (Prop×L D×L Nat)
 |[]=>Z (True,[],[])|t::l=>match Ct s t,oF s l with
  |some (p,d,os),Z (q,ds,a)=>Z (p/\q,d::ds,os++a)|_,_=>Y
end
def freeze(s:St):L Nat->O St
 |[]=>Z s|o::l=>
  bif Nl s.fl o then match s.ob.get o with
   |some (.arr sz a era)=>freeze {s with ob:=s.ob.set aP o (.lW sz a era)} l
   |some (.lW _ _ _)=>freeze s l|some (.l8 c sz a era m r Y)=>match Jr s m r with
    |some b=>bif l.contains m&&(Nl s.fl m&&Nt m bO)then freeze {s with ob:=(s.ob.set aP m .gone).set aP o (.lW sz (nk c a b) era)} l else Y
    |none=>Y
   |some (.rws ..)=>freeze s l|some .gone=>freeze s l|_=>Y
  else Y
def ew(s:St)(o:Ob):Nat×St:=(s.aH,{s with ob:=s.ob.set aP s.aH o,aH:=Ns s.aH})
def rP:Lk->T->T->O (Prop×aa)
 |.int k,a,b=>match yU k a,yU k b with
  |some (p,x),Z (q,y)=>Z (p/\q,af x y)|_,_=>Y
 |.bool,a,b=>match BT a,BT b with
  |some (p,x),Z (q,y)=>Z (p/\q,pZ x y)|_,_=>Y
 |.str,a,b=>match AR a,AR b with
  |some (p,x),Z (q,y)=>Z (p/\q,VR x y)|_,_=>Y
 |.no,_,_=>Y
def kL:L Lk->L T->L T->O (Prop×aa)
 |[],[],[]=>Z (True,W)|k::c,a::as,b::d=>match rP k a b,kL c as d with
  |some (p,x),Z (q,y)=>Z (p/\q,bR x y)|_,_=>Y
 |_,_,_=>Y
def af6:T->T->O (Prop×aa)
 |.sym (.lit (.pointer Y)),.ptr _ _=>Z (True,J)|.ptr _ _,.sym (.lit (.pointer Y))=>Z (True,J)|_,_=>Y
def af7:T->T->O (Prop×aa)
 |.sym (.lit .nilIface),.dn _ _=>Z (True,J)|.dn _ _,.sym (.lit .nilIface)=>Z (True,J)|_,_=>Y
def JK(s:St)(o e:Nat):O (Nat×L D):=
 match s.ob.get o with
 |some (.arr sz a era)=>bif Nq e era then Z (sz,a)else Y|some (.lW sz a era)=>bif Nq e era then Z (sz,a)else Y|_=>Y
def nI(i:TI)(d:D)(off:Nat):O T:=
 bif i.agg then Z (.agg ((List.range i.size).map λj=>.sym (d.cell (Na off j))))
 else bif Nq i.size 1 then Z (.sym (d.cell off))else Y
abbrev tq:=O (Prop×T×St)
def Ue:T:=.sym (.lit (.tuple #[]))
def loadT(i:TI)(s:St):T->tq
 |.ptr o off=>match s.ob.get o with
  |some (.box b)=>
   let l:=(b.drop off).take i.size
   bif Nq (cM l) i.size then(wS i.agg l).map λt=>(True,t,s)else Y
  |_=>Y
 |.mD d off=>(nI i d off).map λt=>(d.has (Na off i.size),t,s)|.mC o e k off=>match JK s o e with
  |some (_,a)=>(nI i (jy a k) off).map λt=>(mj k (eT a)/\(jy a k).has (Na off i.size),t,s)|none=>Y
 |_=>Y
def leaves:L T->Prop
 |[]=>True|t::l=>t.leaf/\leaves l
def storeT(i:TI)(s:St)(a x:T):tq:=
 match kN i x with
 |none=>Y|some (p,l)=>match a with
  |.ptr o off=>match s.ob.get o with
   |some (.box d)=>
    bif Nl s.fl o&&Nl (Na off (cM l)) (cM d)then
     Z (p/\leaves l,Ue,{s with ob:=s.ob.set aP o (.box (d.take off++l++d.drop (Na off (cM l))))})
    else Y
   |_=>Y
  |.mC o e k off=>match oF s l with
   |some (q,ds,os)=>match freeze s os with
    |some c=>match c.ob.get o with
     |some (.arr sz b era)=>
      bif Nl c.fl o&&Nq e era then
       Z (p/\q/\ds.all D.leaf=W/\mj k (eT b)/\(jy b k).Uj sz off (cM ds)/\Nl (Na off (cM ds)) sz=W/\((jy b k).Rw off ds).s9=(jy b k).s9,
        Ue,{c with ob:=c.ob.set aP o (.arr sz (zC b k ((jy b k).Rw off ds)) era)})
      else Y
     |_=>Y
    |none=>Y
   |none=>Y
  |_=>Y
def HW(place:Nat->O (Nat×TI))(cells:L T):L (Nat×T)->O (Prop×L T)
 |[]=>Z (True,cells)|(k,v)::a=>match place k with
  |none=>Y|some (off,i)=>match kN i v with
   |none=>Y|some (p,l)=>
    bif Nl (Na off (cM l)) (cM cells)then
     (HW place (cells.take off++l++cells.drop (Na off (cM l))) a).map λ(q,r)=>(p/\leaves l/\q,r)
    else Y
def sR(fr:Fr):L (Nat×Operand)->O (L (Nat×T))
 |[]=>Z []|(k,x)::l=>match kC fr x,sR fr l with
  |some t,Z r=>Z ((k,t)::r)|_,_=>Y
def s5(s:St)(i:TI)(es:L D):L (Nat×T)->O (Prop×L D×L Nat)
 |[]=>Z (True,es,[])|(k,v)::a=>match Ct s v with
  |none=>Y|some (p,d,os)=>
   bif Nt k (cM es)then
    (s5 s i (es.set k d) a).map λ(q,r,b)=>(p/\(bif i.agg then d.isAgg i.size else d.leaf)=W/\q,r,os++b)
   else Y
def XB(op:BinOp)(k:IntKind)(m n:Int):O D:=
 match op with
 |.lss=>Z (.lit (.bool (aG m n)))|.leq=>Z (.lit (.bool (bB m n)))|.gtr=>Z (.lit (.bool (aG n m)))|.geq=>Z (.lit (.bool (bB n m)))|.add=>Z (.lit (.int k (aJ k m n)))|.sub=>Z (.lit (.int k (bn k m n)))|.mul=>Z (.lit (.int k (I8 k m n)))|_=>Y
def aa2(op:BinOp)(k:IntKind)(m n:Int):O D:=
 match op with
 |.rem=>Z (.lit (.int k (uD m n)))|.quo=>Z (.lit (.int k (ack k m n)))|_=>Y
def aaQ(i:TI)(a b:T):O (Prop×aa):=
 bif i.agg then match i.lks,kN i a,kN i b with
  |[],_,_=>Y|k::c,Z (p,as),Z (q,d)=>(kL (k::c) as d).map λ(r,x)=>(p/\q/\r,x)|_,_,_=>Y
 else match i.kd with
  |.leaf k=>rP k a b|.ptr=>af6 a b|.iface=>af7 a b|_=>Y
def M9(i:TI)(op:BinOp)(a b:T):O (Prop×D):=
 match op with
 |.eql=>(aaQ i a b).map λ(p,r)=>(p,.lit (.bool r))|.neq=>(aaQ i a b).map λ(p,r)=>(p,.lit (.bool (av r)))|op=>match i.kd with
  |.leaf (.int k)=>match yU k a,yU k b with
   |some (p,m),Z (q,n)=>match XB op k m n with
    |some d=>Z (p/\q,d)|none=>(aa2 op k m n).map λd=>(p/\q/\ajg n,d)
   |_,_=>Y
  |.leaf .str=>match op,AR a,AR b with
   |.add,Z (p,m),Z (q,n)=>Z (p/\q/\NJ m n,.lit (.string (TY m n)))|_,_,_=>Y
  |_=>Y
def OX(fr:Fr):O Operand->O (O T)
 |none=>Z Y|some x=>(kC fr x).map Z
def xE(dflt:Int):O T->O (Prop×Int)
 |none=>Z (True,dflt)|some t=>yU .i64 t
def tX:T->L Nat
 |.sh o _=>[o]|_=>[]
def qV(i:TI)(s:St)(v:T)(l h m:O T):tq:=
 match i.kd,xE AD l with
 |.leaf .str,Z (p,lo)=>match AR v,m with
  |some (q,b),Y=>match xE (vU b) h with
   |some (r,a)=>Z (p/\q/\r/\zE lo a (vU b),.sym (.lit (.string (NI b lo a))),s)|none=>Y
  |_,_=>Y
 |.slice sz _ _ _,Z (p,lo)=>match Cz s v,freeze s (tX v)with
  |some (q,c),Z d=>match xE (eT c) h,m,h with
   |some (r,a),Y,_=>Z (p/\q/\r/\jO c sz/\zE lo a (eT c),.sym (.sl (pY c lo a)),d)|some (r,a),Z y,Z _=>match y with
    |.kn .i64 0=>Z (p/\q/\r/\lo=AD/\a=AD,.emp,s)|y=>(yU .i64 y).map λ(t,e)=>
     (p/\q/\r/\t/\jO c sz/\zE lo a (eT c)/\e=a,.kR 0 (pY c lo a),d)
   |_,_,_=>Y
  |_,_=>Y
 |_,_=>Y
def JL:T->O (Prop×aa)
 |.gd g v=>match BT v with
  |some (q,y)=>Z (g=W/\q,y)|none=>Y
 |.kb b=>Z (True,b)|.sym d=>Z (d.isBool=W,d.toBool)|_=>Y
def Kh(c a b:T):O (Prop×T):=
 match c with
 |.kb u=>match JL (bif u then a else b)with
  |some (q,y)=>Z (q,.sym (.lit (.bool y)))|none=>Y
 |c=>match BT c,JL a,JL b with
  |some (p,t),Z (q,x),Z (r,y)=>Z (p/\(t=W->q)/\(t=J->r),.sym (.lit (.bool (acm t x y))))|_,_,_=>Y
def BY(n sz:Nat)(s:St)(x a:T):tq:=match x,a with
 |.mD d b,.kn .i64 (.ofNat j)=>bif Nt j n then Z (True,.mD d (Na b (Nat.mul j sz)),s)else Y|_,_=>Y
def kI(i:TI)(s:St)(x b:T):tq:=
 match i.kd,yU .i64 b with
 |.slice sz _ _ _,Z (p,n)=>match x with
  |.sh o e=>match JK s o e with
   |some (z,a)=>bif Nq z sz then Z (p/\mj n (eT a),.mC o e (EX n) 0,s)else Y|none=>Y
  |v=>match Cz s v with
   |some (q,a)=>Z (p/\q/\mj n (eT a)/\(jy a (EX n)).wide sz,.mD (jy a (EX n)) 0,s)|none=>Y
 |.array n sz _,_=>BY n sz s x b|_,_=>Y
def rO(i:TI)(s:St)(k:Nat)(x:T):tq:=
 match i.kd with
 |.struct a=>match nth a k with
  |some (off,size,_)=>bif Nq size 0 then Y else match x with
   |.ptr o b=>Z (True,.ptr o (Na b off),s)|.mD d b=>Z (True,.mD d (Na b off),s)|.mC o e j b=>Z (True,.mC o e j (Na b off),s)|_=>Y
  |none=>Y
 |_=>Y
def HX(i:TI)(s:St)(k:Nat)(x:T):tq:=
 match i.kd with
 |.struct a=>match nth a k,kN i x with
  |some (off,size,b),Z (p,c)=>
   let l:=(c.drop off).take size
   bif Nq (cM l) size&&!(Nq size 0)then(wS b l).map λt=>(p,t,s)else Y
  |_,_=>Y
 |_=>Y
def HK(i:TI)(s:St)(x a:T):tq:=
 match i.kd,yU .i64 a,AR x with
 |.leaf .str,Z (p,n),Z (q,b)=>Z (p/\q/\mj n (vU b),.sym (.lit (.int .u8 (acj b n))),s)|_,_,_=>Y
def sJ(i:TI)(s:St)(t:TypeId)(ok:aa)(x:T):tq:=
 match i.kd,x,ok with
 |.iface,_,_=>Y|_,.dn u v,W=>bif Nq u t then Z (True,.gX [v,.kb W],s)else
   (wS i.agg (i.zero.map ru)).map λz=>(True,.gX [z,.kb J],s)
 |_,.dn u v,J=>bif Nq u t then Z (True,v,s)else Y|_,_,_=>Y
def unT(i:TI)(op:UnOp)(v:T):O (Prop×D):=
 match op,i.kd with
 |.not,.leaf .bool=>(BT v).map λ(p,b)=>(p,.lit (.bool (av b)))|.neg,.leaf (.int k)=>(yU k v).map λ(p,n)=>(p,.lit (.int k (Rm k n)))|_,_=>Y
def KY(i j:TI)(s:St)(v:T):tq:=
 match i.kd,j.kd with
 |.leaf (.int k),.leaf (.int l)=>(yU k v).map λ(p,n)=>(p,.sym (.lit (.int l (TZ l n))),s)|.leaf .str,.leaf .str=>(AR v).map λ(p,_)=>(p,v,s)|_,_=>Y
def uk(s:St)(k:Nat):T->tq
 |.gX a=>(nth a k).map λt=>(True,t,s)|.sym d=>Z (d.aie k=W,.sym (d.proj k),s)|_=>Y
def o5(E:Env)(fr:Fr)(s:St)(o:Op):tq:=
 match o with
 |.move x=>(kC fr x).map λt=>(True,t,s)|.assign x=>(kC fr x).map λt=>(True,t,s)|.pick c a b=>match kC fr c,kC fr a,kC fr b with
  |some c,Z a,Z b=>(Kh c a b).map λ(p,t)=>(p,t,s)|_,_,_=>Y
 |.alloc t=>match E.ti t with
  |some i=>bif Nt s.aH bO then Z (True,.ptr s.aH 0,(ew s (.box (i.zero.map ru))).2)else Y|none=>Y
 |.box t x=>match E.ti t,kC fr x with
  |some i,Z v=>bif Nt s.aH bO then(kN i v).map λ(p,q)=>(p,.ptr s.aH 0,(ew s (.box q)).2)else Y|_,_=>Y
 |.build t parts=>match E.ti t,sR fr parts.toList with
  |some i,Z r=>match i.kd with
   |.struct z=>(HW (λk=>match nth z k with|some (off,size,g)=>Z (off,{(default:TI)with size:=size,agg:=g})|none=>Y) (i.zero.map ru) r).map
     λ(p,q)=>(p,.agg q,s)
   |_=>Y
  |_,_=>Y
 |.buildSlice t len parts=>match E.ti t,sR fr parts.toList with
  |some i,Z r=>match i.kd with
   |.slice sz g _ zero=>
    bif (g||Nq sz 1)&&(Nq (cM zero) sz&&(!(Nq sz 0)&&Nl (Nat.mul len sz) 16777216))then
     match s5 s {(default:TI)with size:=sz,agg:=g} (List.replicate len (bif g then .agg zero else zero.getD 0 default)) r with
     |some (p,A,os)=>(freeze s os).map λs=>(p,.kR len A,s)|none=>Y
    else Y
   |_=>Y
  |_,_=>Y
 |.load t a=>match E.ti t,kC fr a with
  |some i,Z a=>loadT i s a|_,_=>Y
 |.store t a x=>match E.ti t,kC fr a,kC fr x with
  |some i,Z a,Z x=>storeT i s a x|_,_,_=>Y
 |.nilCheck x=>match kC fr x with
  |some (.ptr o b)=>Z (True,.ptr o b,s)|some (.mD d b)=>Z (True,.mD d b,s)|some (.mC o e j b)=>Z (True,.mC o e j b,s)|some (.dn t v)=>Z (True,.dn t v,s)|some (.fn (.func f) a b)=>Z (True,.fn (.func f) a b,s)|some (.sym d)=>Z (d.alv=W,.sym d,s)|_=>Y
 |.binOp op t x y _=>match E.ti t,kC fr x,kC fr y with
  |some i,Z a,Z b=>(M9 i op a b).map λ(p,d)=>(p,.sym d,s)|_,_,_=>Y
 |.unOp op t x=>match E.ti t,kC fr x with
  |some i,Z v=>(unT i op v).map λ(p,d)=>(p,.sym d,s)|_,_=>Y
 |.convert src u x=>match E.ti src,E.ti u,kC fr x with
  |some i,Z j,Z v=>KY i j s v|_,_,_=>Y
 |.makeInterface t x=>match E.ti t,kC fr x with
  |some i,Z v=>match i.kd with
   |.iface=>Y|_=>Z (True,.dn t v,s)
  |_,_=>Y
 |.makeFunc f first cap=>match zf fr first.toList,zf fr cap.toList with
  |some a,Z b=>Z (True,.fn f a b,s)|_,_=>Y
 |.extract x k=>match kC fr x with
  |some v=>uk s k v|none=>Y
 |.fieldAddr t x k=>match E.ti t,kC fr x with
  |some i,Z v=>rO i s k v|_,_=>Y
 |.field t x k=>match E.ti t,kC fr x with
  |some i,Z v=>HX i s k v|_,_=>Y
 |.indexAddr t x w=>match E.ti t,kC fr x,kC fr w with
  |some i,Z v,Z n=>kI i s v n|_,_,_=>Y
 |.index t x w=>match E.ti t,kC fr x,kC fr w with
  |some i,Z v,Z n=>HK i s v n|_,_,_=>Y
 |.slice t x lo B C=>match E.ti t,kC fr x,OX fr lo,OX fr B,OX fr C with
  |some i,Z v,Z l,Z h,Z m=>qV i s v l h m|_,_,_,_,_=>Y
 |.typeAssert x _ t ok=>match E.ti t,kC fr x with
  |some i,Z v=>sJ i s t ok v|_,_=>Y
 |_=>Y
def D.Vg(a b:L D):Prop:=a.length+b.length<=17179869184
def vK(i:TI)(s:St)(x y:T):tq:=
 bif !(Nt s.aH bO)then Y else
 match i.kd,Cz s y with
 |.slice sz _ b _,Z (q,new)=>
  match x with
  |.emp=>Z (q/\jO new sz/\wj new b,.sh s.aH 0,(ew s (.arr sz new 0)).2)|.kR _ a=>
   let c:=q/\jO (iK a new) sz/\wj (iK a new) b/\D.Vg a new
   match y with
   |.kR (_+1) _=>Z (c,.sh s.aH 0,(ew s (.arr sz (iK a new) 0)).2)|_=>Z (c,.sym (.sl (iK a new)),s)
  |.sh o e=>match s.ob.get o with
   |some (.arr z a era)=>
    bif Nl s.fl o&&Nq e era&&Nq z sz&&!(tX y).contains o then
     Z (q/\jO new sz/\wj (iK a new) b/\D.Vg a new,.sh o (Ns era),{s with ob:=s.ob.set aP o (.arr sz (iK a new) (Ns era))})
    else Y
   |_=>Y
  |_=>Y
 |_,_=>Y
def fV(E:Env)(s:St)(b:Builtin)(a:Array TypeId)(args:L T):tq:=
 match b,args with
 |.len,[x]=>match AR x,(nth a.toList 0).bind E.ti with
  |some (p,b),Z i=>match i.kd with
   |.leaf .str=>Z (p,.sym (.lit (.int .i64 (vU b))),s)|.slice _ _ _ _=>(Cz s x).map λ(p,c)=>(p,.sym (.lit (.int .i64 (eT c))),s)|_=>Y
  |none,Z i=>match i.kd with
   |.slice _ _ _ _=>(Cz s x).map λ(p,c)=>(p,.sym (.lit (.int .i64 (eT c))),s)|_=>Y
  |_,_=>Y
 |.append,[x,y]=>match a.toList with
  |[t,u]=>match E.ti t,E.ti u with
   |some i,Z j=>match j.kd with
    |.slice _ _ _ _=>vK i s x y|_=>Y
   |_,_=>Y
  |_=>Y
 |_,_=>Y
end
end TL
namespace TL
open Go
def yI:T->L T->O (FuncId×L T)
 |.fn (.func f) first cap,args=>Z (f,first++args++cap)
 |_,_=>Y
section
variable (E:Env)
def gamT(s:St)(f:FuncId)(args:L T):O (Prop×T×St):=
 match E.JA f with
 |none=>Y|some c=>match oF s args with
  |none=>Y|some (p,ds,os)=>(freeze s os).map λa=>(p/\c.pre ds,.sym (c.f ds),a)
abbrev aok:=FuncId->L T->St->(T->St->Prop)->(T->St->Prop)->Prop
variable (call:aok)
def aks(fr:Fr):O Nat->aa
 |none=>W|some d=>Nt d fr.n
end
def CT:L T->Nat->Tr T->Tr T
 |[],_,t=>t|a::l,k,t=>CT l (Ns k) (t.set aP k a)
def m7(E:Env)(s:St)(fr:Fr):L ResultVar->O (Prop×L T)
 |[]=>Z (True,[])|.tmp t::l=>match fr.get t,m7 E s fr l with
  |some x,Z (p,r)=>Z (p,x::r)|_,_=>Y
 |.cell a t::l=>match(E.ti t),fr.get a with
  |some i,Z a=>match loadT i s a,m7 E s fr l with
   |some (p,x,_),Z (q,r)=>Z (p/\q,x::r)|_,_=>Y
  |_,_=>Y
def agO:L T->T
 |[x]=>x|l=>.gX l
end TL
namespace TL
theorem bZ{α:Type}(l:L α):cM l=l.length:=by
 induction l with|nil=>rfl|cons a l b=>simp[cM,b]
theorem kD{α:Type}(l:L α)(k:Nat):nth l k=l[k]?:=by
 induction l generalizing k with
 |nil=>cases k<;>rfl
 |cons a l b=>cases k with|zero=>rfl|succ k=>simp[nth,b]
namespace Tr
variable {α:Type}
theorem get_nil(k:Nat):(Tr.nil:Tr α).get k=Y:=by cases k<;>rfl
theorem jk(v:O α)(l r:Tr α):(Tr.node v l r).get 0=v:=by simp[get]
def dL(v:O α)(l r:Tr α)(k:Nat):(Tr.node v l r).get (k+1)=if k%2=0 then l.get (k/2)else r.get (k/2):=by
 simp[get];by_cases h:k%2=0;have:Nq (Nat.mod k 2) 0=W:=by show Nq (k%2) 0=W;rw[h];rfl
 simp[this,h];rfl;have:Nq (Nat.mod k 2) 0=J:=by
  show Nq (k%2) 0=J;have:k%2=1:=by omega
  rw[this];rfl
 simp[this,h];rfl
theorem Jq(n:Nat)(v:O α)(l r:Tr α)(x:α):Tr.set (n+1) (.node v l r) 0 x=.node (Z x) l r:=rfl
theorem AV(n:Nat)(x:α):Tr.set (n+1) .nil 0 x=.node (Z x) .nil .nil:=rfl
def ot(n:Nat)(v:O α)(l r:Tr α)(k:Nat)(x:α) :
  Tr.set (n+1) (.node v l r) (k+1) x=if k%2=0 then .node v (Tr.set n l (k/2) x) r else .node v l (Tr.set n r (k/2) x):=by
 simp[set];by_cases h:k%2=0;have:Nq (Nat.mod k 2) 0=W:=by show Nq (k%2) 0=W;rw[h];rfl
 simp[this,h];rfl;have:Nq (Nat.mod k 2) 0=J:=by
  show Nq (k%2) 0=J;have:k%2=1:=by omega
  rw[this];rfl
 simp[this,h];rfl
def p8(n:Nat)(k:Nat)(x:α) :
  Tr.set (n+1) .nil (k+1) x=if k%2=0 then .node Y (Tr.set n .nil (k/2) x) .nil else .node Y .nil (Tr.set n .nil (k/2) x):=by
 simp[set];by_cases h:k%2=0;have:Nq (Nat.mod k 2) 0=W:=by show Nq (k%2) 0=W;rw[h];rfl
 simp[this,h];rfl;have:Nq (Nat.mod k 2) 0=J:=by
  show Nq (k%2) 0=J;have:k%2=1:=by omega
  rw[this];rfl
 simp[this,h];rfl
def aev(n:Nat):∀(t:Tr α)(k j:Nat)(x:α),k+1<2 ^ n->(Tr.set n t k x).get j=if j=k then Z x else t.get j:=by
 induction n with
 |zero=>omega|succ n d=>
  intro t k j x h;cases k with
  |zero=>
   cases t with
   |nil=>
    rw[AV];cases j with|zero=>rfl|succ j=>rw[dL];simp[get_nil]
   |node v l r=>
    cases j with|zero=>rfl|succ j=>rfl
  |succ k=>
   have c:k/2+1<2 ^ n:=by omega
   cases t with
   |nil=>
    rw[p8];cases j with
    |zero=>split<;>simp[jk,get_nil]
    |succ j=>
     by_cases a:k%2=0;rw[bH a,dL,get_nil];by_cases b:j%2=0
     grind[get_nil]
     rw[bS b,get_nil,bS (by omega)];rw[bS a,dL,get_nil];by_cases b:j%2=0;rw[bH b,get_nil,bS (by omega)]
     grind[get_nil]
   |node v l r=>
    rw[ot];cases j with
    |zero=>split<;>simp[jk]
    |succ j=>
     by_cases a:k%2=0;rw[bH a,dL,dL]
     grind
     rw[bS a,dL,dL]
     grind
def aX(t:Tr α)(k j:Nat)(x:α)(h:k<bO):(Tr.set aP t k x).get j=if j=k then Z x else t.get j:=
 aev _ _ _ _ _ (by unfold aP;unfold bO at h;omega)
end Tr
end TL
namespace TL
open Go
section
structure fy where
 a:Option Addr
 len:Nat
 cap:Nat
 sz:Nat
structure Gh where
 bX:Nat->Option Nat
 arr:Nat->Nat->Option fy
 bF:Nat->Prop
inductive dP(I:Nat->Prop)(w:az):D->aD->Prop where
 |lit (v:aD):dP I w (.lit v) v|sl (es:List D) (a:Option Addr) (cap sz:Nat) (val:Nat->Nat->aD)
   (hcap:es.length<=cap) (hsz:∀d∈es,d.cells.length=sz) (hby:∀d∈es,es.length*d.s9<=281474976710656)
   (ha:es≠[]->∃ad,a=Z ad/\I ad.block/\∀i j d c,es[i]?=Z d->d.cells[j]?=Z c->w.cell? (ad.add (i*sz+j))=Z (val i j))
   (hc:∀i j d c,es[i]?=Z d->d.cells[j]?=Z c->dP I w c (val i j)):dP I w (.sl es) (.slice a es.length cap)
 |agg (cs:List D) (vs:Array aD) (hl:cs.length=vs.size) (hf:∀c∈cs,c.leaf=W)
   (h:∀(j:Nat)(c:D)(v:aD),cs[j]?=Z c->vs[j]?=Z v->dP I w c v):dP I w (.agg cs) (.agg vs)
 |dn (t:TypeId) (d:D) (v:aD) (h:dP I w d v):dP I w (.dn t d) (.iface t v)|gX (ds:List D) (vs:Array aD) (hl:ds.length=vs.size)
   (h:∀(j:Nat)(c:D)(v:aD),ds[j]?=Z c->vs[j]?=Z v->dP I w c v):dP I w (.gX ds) (.tuple vs)
 |pt (d:D) (ad:Addr) (val:Nat->aD) (hi:I ad.block) (hc:∀j c,d.cells[j]?=Z c->w.cell? (ad.add j)=Z (val j))
   (hd:∀j c,d.cells[j]?=Z c->dP I w c (val j)):dP I w (.pt d) (.pointer (Z (ad.add 0)))
 |mp (ks vs:List D) (b:Nat) (ms:Array MapEntry) (n:Nat) (hi:I b) (hb:w.heap[b]?=Z (.map ms n)) (h1:ks.length=ms.size) (h2:vs.length=ms.size)
   (hk:∀(j:Nat)(c:D)(m:MapEntry),ks[j]?=Z c->ms[j]?=Z m->dP I w c m.key) (hv:∀(j:Nat)(c:D)(m:MapEntry),vs[j]?=Z c->ms[j]?=Z m->dP I w c m.val):dP I w (.mp ks vs) (.map (Z b))
def kg(I:Nat->Prop)(w w':az):Prop:=∀b,I b->w'.heap[b]?=w.heap[b]?
theorem kg.cell{I:Nat->Prop}{w w':az}(h:kg I w w'){a:Addr}(b:I a.block):w'.cell? a=w.cell? a:=by unfold World.cell?;rw[h _ b]
def lC(a:Addr)(n:Nat):(a.add n).block=a.block:=by unfold Addr.add;split<;>rfl
theorem dP.mono{I z:Nat->Prop}{w w':az}(m:kg I w w')(o:∀b,I b->z b){d:D}{v:aD}(h:dP I w d v):dP z w' d v:=by
 induction h with
 |lit v=>exact .lit v|sl B a cap sz val f p q C A e=>
  refine .sl B a cap sz val f p q (λr=>?_) e
  let ⟨s,E,l,u⟩:=C r
  refine⟨s,E,o _ l,λi j d c F K=>?_⟩;rw[m.cell (by rw[lC];exact l)]
  simp_all
 |agg P g x R h e=>exact .agg P g x R e|dn t d v h e=>exact .dn t d v e|gX ds g x h e=>exact .gX ds g x e|pt d s val k A F e=>exact .pt d s val (o _ k) (λj c S=>by rw[m.cell (by rw[lC];exact k)];exact A j c S) e
 |mp ks g b ms n k l h1 h2 _ _ e y=>exact .mp ks g b ms n (o _ k) (by rw[m b k];exact l) h1 h2 e y
def rc(r i:Nat):Nat:=2 ^ r*(2*i+1)
def jJ(nj:Nat)(d:D)(h:aD):D:=.agg (d.cells.set nj (.lit h))
inductive aL(g:Gh)(w:az):T->aD->Prop where
 |sym (d:D) (v:aD) (h:dP g.bF w d v):aL g w (.sym d) v|kb (b:aa):aL g w (.kb b) (.bool b)|kn (k:IntKind) (n:Int):aL g w (.kn k n) (.int k n)|ptr (o off b:Nat) (h:g.bX o=Z b):aL g w (.ptr o off) (.pointer (Z ⟨b,off,Y⟩))|mD (d:D) (off:Nat) (ad:Addr) (val:Nat->aD) (hi:g.bF ad.block)
   (hc:∀j c,d.cells[j]?=Z c->w.cell? (ad.add j)=Z (val j)) (hd:∀j c,d.cells[j]?=Z c->dP g.bF w c (val j)) :
   aL g w (.mD d off) (.pointer (Z (ad.add off)))
 |mC (o e i off len cap sz:Nat) (ad:Addr) (h:g.arr o e=Z ⟨Z ad,len,cap,sz⟩):aL g w (.mC o e i off) (.pointer (Z (ad.add (i*sz+off))))|sh (o e len cap sz:Nat) (a:Option Addr) (h:g.arr o e=Z ⟨a,len,cap,sz⟩):aL g w (.sh o e) (.slice a len cap)|emp (a:Option Addr):aL g w .emp (.slice a 0 0)|kR (n:Nat) (es:List D) (a:Option Addr) (hn:n<=es.length) (h:dP g.bF w (.sl es) (.slice a es.length es.length)):aL g w (.kR n es) (.slice a es.length es.length)|fn (f:Fn) (fs cs:List T) (va vc:Array aD) (hl:fs.length=va.size) (hm:cs.length=vc.size)
   (h:∀(j:Nat)(t:T)(v:aD),fs[j]?=Z t->va[j]?=Z v->aL g w t v)
   (h':∀(j:Nat)(t:T)(v:aD),cs[j]?=Z t->vc[j]?=Z v->aL g w t v):aL g w (.fn f fs cs) (.func f va vc)
 |dn (t:TypeId) (x:T) (v:aD) (h:aL g w x v):aL g w (.dn t x) (.iface t v)|agg (cs:List T) (vs:Array aD) (hl:cs.length=vs.size)
   (h:∀(j:Nat)(t:T)(v:aD),cs[j]?=Z t->vs[j]?=Z v->aL g w t v):aL g w (.agg cs) (.agg vs)
 |gX (cs:List T) (vs:Array aD) (hl:cs.length=vs.size)
   (h:∀(j:Nat)(t:T)(v:aD),cs[j]?=Z t->vs[j]?=Z v->aL g w t v):aL g w (.gX cs) (.tuple vs)
 |gd (c:aa) (t:T) (v:aD) (h:c=W->aL g w t v):aL g w (.gd c t) v|mp (o b:Nat) (h:g.bX o=Z b):aL g w (.mp o) (.map (Z b))|r9 (o b:Nat) (h:g.bX o=Z b):aL g w (.r9 o) (.func (.yield b) #[] #[])|uH (o b:Nat) (h:g.bX o=Z b):aL g w (.uH o) (.pointer (Z ⟨b,0,Y⟩))|ub (e b:aa) (h:b=W->e=W):aL g w (.ub e) (.bool b)|sV (o m r i len cap sz:Nat) (a:Option Addr) (h:g.arr m (rc r i)=Z ⟨a,len,cap,sz⟩):aL g w (.sV o m r i) (.slice a len cap)|qx (j:Nat) (d:D) (c:Option Addr) (a:Option Addr) (hj:d.cells[j]?=Z (.sl [])) (hd:dP g.bF w (.sl [jJ j d (.slice c 0 0)]) (.slice a 1 1)):aL g w (.qx j d) (.slice a 1 1)
inductive g8(g:Gh)(w:az):Ob->Obj->Prop where
 |box (cs:List T) (vs:Array aD) (ty:TypeId) (hl:cs.length=vs.size) (h:∀(j:Nat)(t:T)(v:aD),cs[j]?=Z t->vs[j]?=Z v->aL g w t v):g8 g w (.box cs) (.cells vs ty (0,0))|map (es:List (T×T)) (ms:Array MapEntry) (c:Nat) (hl:es.length=ms.size)
   (h:∀(j:Nat)(t:T×T)(m:MapEntry),es[j]?=Z t->ms[j]?=Z m->aL g w t.1 m.key/\aL g w t.2 m.val):g8 g w (.map es) (.map ms c)
 |r8 (s:ByteArray) (pos:Nat):g8 g w (.r8 s pos) (.stringIter s pos)|lp (l:Lp) (r:Loop) (h1:r.state=l.st) (h2:r.pending=l.wC) (h4:r.params.toList=l.params) (h5:r.assign=l.assign) (h6:r.body=l.body)
   (h8:r.tmps.size=l.fr.n) (h9:∀k t,l.fr.get k=Z t->∃v,r.tmps[k]?=Z v/\aL g w t v):g8 g w (.lp l) (.loop r)
 |AG:g8 g w .AG (.deferred (Z []))
def bL(g:Gh)(o b:Nat):Prop:=¬g.bF b/\(g.bX o=Z b\/∃e x ad,g.arr o e=Z x/\x.a=Z ad/\ad.block=b/\x.cap≠0)
structure yc(g:Gh)(w:az)(fz:aa)(sz:Nat)(es:List D)(x:fy):Prop where
 len:x.len=es.length
 cap:x.len<=x.cap
 rows:∀d∈es,d.cells.length=sz
 pos:0<sz
 Yb:∀d∈es,es.length*d.s9<=281474976710656
 mem:x.cap≠0->∃b vs ty,x.a=Z ⟨b,0,Y⟩/\(fz=W↔g.bF b)/\w.heap[b]?=Z (.cells vs ty (0,0))/\x.cap*sz<=vs.size/\
  ∀i d j c,es[i]?=Z d->d.cells[j]?=Z c->∃v,vs[i*sz+j]?=Z v/\dP g.bF w c v
def gz(fz:aa)(sz:Nat)(es:L D)(era:Nat):Ob:=if fz then .lW sz es era else .arr sz es era
def xX(g:Gh)(s:St)(w:az)(o b:Nat):Prop:=
 ¬g.bF b/\b<w.heap.size/\∀ob,s.ob.get o=Z ob->∃h,w.heap[b]?=Z h/\g8 g w ob h
def xX.box{g:Gh}{s:St}{w:az}{o b:Nat}(h:xX g s w o b){cs:L T}(c:s.ob.get o=Z (.box cs)) :
  ∃vs ty,w.heap[b]?=Z (.cells vs ty (0,0))/\cs.length=vs.size/\∀(j:Nat)(t:T)(v:aD),cs[j]?=Z t->vs[j]?=Z v->aL g w t v:=by
 let ⟨x,d,a⟩:=h.2.2 _ c
 cases a with|box cs vs ty e a=>grind
variable {s:St}{w w':az}{o b e fl:Nat}{ob:Ob}{d:Df}{v:aD}{t:T}{p:T->aa}
def xX.CN{g:Gh}(h:xX g s w o b)(fz:aa){sz:Nat}{es:L D}(a:s.ob.get o=Z (if fz then .lW sz es e else .arr sz es e)):False:=by
 let ⟨x,d,c⟩:=h.2.2 _ a
 cases fz<;>cases c
def g8.CN{g:Gh}{h:Obj}(a:g8 g w ob h):ob.oM=J:=by cases a<;>rfl
def fy.at(x:fy)(b:Nat):Prop:=∃ad,x.a=Z ad/\ad.block=b/\x.cap≠0
def lits(nj:Nat)(es:L D)(hs:L aD):L D:=List.zipWith (jJ nj) es hs
def JS(g:Gh)(m ij:Nat)(hole:O Nat)(hs:L aD):Prop:=
 (∀(i:Nat)(h:aD),hs[i]?=Z h->∃a n k,h=.slice a n k)/\∀(i:Nat)(h:aD),hs[i]?=Z h->hole≠Z i->∃y,g.arr m (rc ij i)=Z y/\h=.slice y.a y.len y.cap
def VI(g:Gh)(w:az)(o e:Nat)(x:fy)(ob:Ob):Prop:=
 ∃fz es era,ob=gz fz x.sz es era/\e<=era/\(∀a,era<a->g.arr o a=Y)/\(e=era->yc g w fz x.sz es x)
def aoe(g:Gh)(w:az)(o e:Nat)(x:fy)(ob:Ob):Prop:=
 ∃nj es era m ij hole,ob=.l8 nj x.sz es era m ij hole/\e<=era/\(∀a,era<a->g.arr o a=Y)/\
  (e=era->∃hs,hs.length=es.length/\yc g w J x.sz (lits nj es hs) x/\JS g m ij hole hs)
def an3(g:Gh)(w:az)(o e:Nat)(x:fy)(ob:Ob):Prop:=
 ∃sz iY ij,ob=.rws sz iY ij/\(∀r i,ij<r->g.arr o (rc r i)=Y)/\
  (∀i a y c,i≠a->g.arr o (rc ij i)=Z y->g.arr o (rc ij a)=Z c->∀b,y.at b->¬c.at b)/\
  (∀i,e=rc ij i->x.sz=sz/\∃d,iY[i]?=Z d/\yc g w J sz d x)
def aof(g:Gh)(w:az)(e:Nat)(x:fy)(ob:Ob):Prop:=
 ob=.Hj/\x.a=Z ⟨e,0,Y⟩/\x.cap≠0/\¬g.bF e/\w.heap[e]?=Z (.deferred (Z []))
def wm(g:Gh)(w:az)(o e:Nat)(x:fy)(ob:Ob):Prop:=
 VI g w o e x ob\/aoe g w o e x ob\/an3 g w o e x ob\/ob=.gone\/aof g w e x ob
def wm.oM{g:Gh}{w:az}{o e:Nat}{x:fy}{ob:Ob}(h:wm g w o e x ob):ob.oM=W:=by
 obtain⟨a,_,_,rfl,_⟩|⟨_,_,_,_,_,_,rfl,_⟩|⟨_,_,_,rfl,_⟩|rfl|⟨rfl,_⟩:=h
 cases a<;>rfl;rfl;rfl;rfl;rfl
def wm.old{g:Gh}{x:fy}(h:wm g w o e x ob)(hi:ob.isA=W):VI g w o e x ob:=by
 obtain h|⟨_,_,_,_,_,_,rfl,_⟩|⟨_,_,_,rfl,_⟩|rfl|⟨rfl,_⟩:=h
 exact h;iterate 4 cases hi
def Co(g:Gh)(s:St)(w:az)(o e:Nat)(x:fy):Prop:=
 (∀ad,x.a=Z ad->x.cap≠0->ad.block<w.heap.size)/\∀ob,s.ob.get o=Z ob->wm g w o e x ob
def Co.old{g:Gh}{s:St}{w:az}{o e:Nat}{x:fy}(h:Co g s w o e x)(ob:Ob)(b:s.ob.get o=Z ob)(hi:ob.isA=W) :
  ∃fz es era,ob=gz fz x.sz es era/\e<=era/\(∀a,era<a->g.arr o a=Y)/\(e=era->yc g w fz x.sz es x):=(h.2 ob b).old hi
def XH(fz:aa)(sz:Nat)(es:L D)(era:Nat):(gz fz sz es era).isA=W:=by cases fz<;>rfl
structure bg(g:Gh)(s:St)(w:az):Prop where
 aH:s.aH<=bO
 aj:∀o,s.aH<=o->g.bX o=Y/\∀e,g.arr o e=Y
 box:∀o b,g.bX o=Z b->xX g s w o b
 arr:∀o e x,g.arr o e=Z x->Co g s w o e x
 bF:∀b,g.bF b->b<w.heap.size
 kj:∀o o' b,bL g o b->bL g o' b->o=o'
inductive xW(g:Gh)(w:az):Df->Deferred->Prop where
 |call (f:T) (args:List T) (fv:Fn) (first cap Yk:Array aD) (h3:aL g w f (.func fv first cap)) (h4:args.length=Yk.size)
   (h5:∀(j:Nat)(t:T)(v:aD),args[j]?=Z t->Yk[j]?=Z v->aL g w t v):xW g w (.call f args) {target:=.fn fv cap,args:=first++Yk}
 |mark (o b:Nat) (h:g.bX o=Z b):xW g w (.mark o) {target:=.collected b,args:=#[]}|bad (d:Deferred):xW g w .bad d
inductive eW(g:Gh)(w:az):List Df->List Deferred->Prop where
 |nil:eW g w [] []|cons {d:Df} {e:Deferred} {l:List Df} {m:List Deferred} (h:xW g w d e) (t:eW g w l m):eW g w (d::l) (e::m)
 |marks (o:Nat) (bs:List Nat) {l:List Df} {m:List Deferred} (hn:bs.Nodup) (h:∀b∈bs,∃n c,aL g w (.sh o b) (.slice (Z ⟨b,0,Y⟩) n c)) (t:eW g w l m):eW g w (.marks o::l) (bs.map (λb=>{target:=.collected b,args:=#[]})++m)
 |kO (xs:List Deferred) {l:List Df} {m:List Deferred} (t:eW g w l m):eW g w (.kO::l) (xs++m)
structure cZ(g:Gh)(fr:Fr)(a:Act)(w:az):Prop where
 size:a.tmps.size=fr.n
 df:eW g w fr.df a.defers
 tm:∀k t,fr.get k=Z t->∃v,a.tmps[k]?=Z v/\aL g w t v
structure Ext(fl:Nat)(g:Gh)(w:az)(g':Gh)(w':az):Prop where
 bX:∀o b,g.bX o=Z b->g'.bX o=Z b
 arr:∀o e x,g.arr o e=Z x->g'.arr o e=Z x
 bF:∀b,g.bF b->g'.bF b
 size:w.heap.size<=w'.heap.size
 heap:∀b,b<w.heap.size->(∀o,fl<=o->¬bL g o b)->w'.heap[b]?=w.heap[b]?
 own:∀o b,bL g' o b->bL g o b\/w.heap.size<=b
 oN:∀b,g'.bF b->g.bF b\/w.heap.size<=b\/∃o,fl<=o/\bL g o b
 os:w'.os=w.os
 output:w'.output=w.output
theorem Ext.refl(fl:Nat)(g:Gh)(w:az):Ext fl g w g w:=
 ⟨λ_ _ h=>h,λ_ _ _ h=>h,λ_ h=>h,eP _,λ_ _ _=>rfl,λ_ _ h=>.inl h,λ_ h=>.inl h,rfl,rfl⟩
def Ext.trans{fl:Nat}{g g' d:Gh}{w w' f:az}(h:Ext fl g w g' w')(k:Ext fl g' w' d f):Ext fl g w d f where
 bX o b e:=k.bX o b (h.bX o b e)
 arr o e x i:=k.arr o e x (h.arr o e x i)
 bF b e:=k.bF b (h.bF b e)
 size:=gE h.size k.size
 heap b c j:=by
  rw[k.heap b (iW c h.size) (λo l a=>?_),h.heap b c j];obtain a|a:=h.own o b a
  grind
  omega
 own o b a:=by
  obtain a|a:=k.own o b a
  exact h.own o b a;exact .inr (gE h.size a)
 oN b c:=by
  obtain c|c|⟨o,l,a⟩:=k.oN b c
  exact h.oN b c;exact .inr (.inl (gE h.size c));obtain a|a:=h.own o b a
  grind
  omega
 os:=k.os.trans h.os
 output:=k.output.trans h.output
def Ext.keeps{g g':Gh}(h:Ext fl g w g' w')(hi:∀b,g.bF b->b<w.heap.size):kg g.bF w w':=
 λb a=>h.heap b (hi b a) λ_ _ c=>c.1 a
def dP.ext{g g':Gh}(h:Ext fl g w g' w')(hi:∀b,g.bF b->b<w.heap.size){d:D}(a:dP g.bF w d v):dP g'.bF w' d v:=
 a.mono (h.keeps hi) h.bF
def aL.ext{fl:Nat}{g g':Gh}{w w':az}(h:Ext fl g w g' w')(hi:∀b,g.bF b->b<w.heap.size){t:T}{v:aD}(F:aL g w t v):aL g' w' t v:=by
 induction F with|sym d v p=>exact .sym d v (p.ext h hi)|kb b=>exact .kb b|kn k n=>exact .kn k n|ptr o off b q=>exact .ptr o off b (h.bX o b q)|mD d off B val s hc p=>exact .mD d off B val (h.bF _ s) (λj c A=>by rw[(h.keeps hi).cell (by rw[lC];exact s)];grind) (λj c A=>(p j c A).ext h hi)|mC o e i off len cap sz B u=>exact .mC o e i off len cap sz B (h.arr _ _ _ u)|sh o e len cap sz a u=>exact .sh o e len cap sz a (h.arr _ _ _ u)|emp a=>exact .emp a|kR n I a K p=>exact .kR n I a K (p.ext h hi)|fn f P y R S z hm _ _ l C=>exact .fn f P y R S z hm l C|dn t x v _ l=>exact .dn t x v l|agg y E z _ l=>exact .agg y E z l|gX y E z _ l=>exact .gX y E z l|gd c t v _ l=>exact .gd c t v l|mp o b q=>exact .mp o b (h.bX o b q)|r9 o b q=>exact .r9 o b (h.bX o b q)|uH o b q=>exact .uH o b (h.bX o b q)|ub e b h=>exact .ub e b h|sV o m r i len cap sz a u=>exact .sV o m r i len cap sz a (h.arr _ _ _ u)|qx j d c a A p=>exact .qx j d c a A (p.ext h hi)
def aL.atj{g g':Gh}(A:∀k j y,g.arr k j=Z y->g'.arr k j=Z y)(z:g'.bX=g.bX)(hi:g'.bF=g.bF)(K:aL g w t v):aL g' w t v:=by
 induction K with|sym d v p=>exact .sym d v (hi▸p)|kb b=>exact .kb b|kn k n=>exact .kn k n|ptr o off b h=>exact .ptr o off b (z▸h)|mD d off B val C P p=>exact .mD d off B val (hi▸C) P (λj c E=>hi▸p j c E)|mC o e i off len cap sz B q=>exact .mC o e i off len cap sz B (A _ _ _ q)|sh o e len cap sz a q=>exact .sh o e len cap sz a (A _ _ _ q)|emp a=>exact .emp a|kR n R a S p=>exact .kR n R a S (hi▸p)|fn f fs s va vc u hm _ _ l F=>exact .fn f fs s va vc u hm l F|dn t x v _ l=>exact .dn t x v l|agg s I u _ l=>exact .agg s I u l|gX s I u _ l=>exact .gX s I u l|gd c t v _ l=>exact .gd c t v l|mp o b h=>exact .mp o b (z▸h)|r9 o b h=>exact .r9 o b (z▸h)|uH o b h=>exact .uH o b (z▸h)|ub e b h=>exact .ub e b h|sV o m r i len cap sz a q=>exact .sV o m r i len cap sz a (A _ _ _ q)|qx j d c a E p=>exact .qx j d c a E (hi▸p)
def g8.imp{g g':Gh}(b:∀t v,aL g w t v->aL g' w' t v){x:Obj}(a:g8 g w ob x):g8 g' w' ob x:=by
 cases a with
 |box e f ty d a=>exact .box e f ty d λj t v h1 h2=>b _ _ (a j t v h1 h2)|map h i c d a=>exact .map h i c d λj t m h1 h2=>⟨b _ _ (a j t m h1 h2).1,b _ _ (a j t m h1 h2).2⟩|r8 s pos=>exact .r8 s pos|lp l r h1 h2 h4 h5 h6 n o=>exact .lp l r h1 h2 h4 h5 h6 n λk t p=>let ⟨v,q,u⟩:=o k t p;⟨v,q,b _ _ u⟩
 |AG=>exact .AG
def g8.ext{fl:Nat}{g g':Gh}{w w':az}(h:Ext fl g w g' w')(hi:∀b,g.bF b->b<w.heap.size){ob:Ob}{x:Obj}(a:g8 g w ob x):g8 g' w' ob x:=
 a.imp (λ_ _ c=>c.ext h hi)
def we(p:T->aa)(t u:T):Prop:=(u=t/\p t=J)\/∃v,u=.gd J v
def sL(p:T->aa)(ob a:Ob):Prop:=
 match ob,a with
 |.box cs,.box ds=>cs.length=ds.length/\∀(j:Nat)(t u:T),cs[j]?=Z t->ds[j]?=Z u->we p t u|.map es,.map ds=>es.length=ds.length/\∀(j:Nat)(t u:T×T),es[j]?=Z t->ds[j]?=Z u->we p t.1 u.1/\we p t.2 u.2|.l8 nj sz es era m ij hole,a=>(a=.l8 nj sz es era m ij hole/\p (.sh m 0)=J)\/a=.gone|.lp l,.lp m=>m={l with fr:=m.fr}/\m.fr.n=l.fr.n/\∀k u,m.fr.get k=Z u->∃t,l.fr.get k=Z t/\we p t u
 |ob,a=>ob=a
def we.rel{g g':Gh}(a:∀t v,aL g w t v->p t=J->aL g' w' t v){u:T}(h:we p t u)(b:aL g w t v):aL g' w' u v:=by
 obtain⟨rfl,c⟩|⟨x,rfl⟩:=h
 grind
 exact .gd _ _ _ λh=>by cases h
def g8.left{g g':Gh}(i:∀t v,aL g w t v->p t=J->aL g' w' t v){a:Ob}{x:Obj}(b:g8 g w ob x)(hl:sL p ob a):g8 g' w' a x:=by
 cases b with
 |box z A ty d b=>
  cases a with
  |box ds=>
   let ⟨B,n⟩:=hl
   refine .box ds A ty (by omega) λj u v f o=>?_;have h:j<z.length:=by grind
   exact(n j _ u (iZ h) f).rel i (b j _ v (iZ h) o)
  |_=>cases hl
 |map C E c d b=>
  cases a with
  |map ds=>
   let ⟨B,n⟩:=hl
   refine .map ds E c (by omega) λj u m f F=>?_;have h:j<C.length:=by grind
   have h1:=n j _ u (iZ h) f;have h2:=b j _ m (iZ h) F;exact⟨h1.1.rel i h2.1,h1.2.rel i h2.2⟩
  |_=>cases hl
 |r8 s pos=>cases a<;>first|(cases hl;exact .r8 _ _)|cases hl
 |lp l r h1 h2 h4 h5 h6 I K=>
  cases a with
  |lp m=>
   let ⟨e,P,R⟩:=hl
   rw[e];refine .lp _ r h1 h2 h4 h5 h6 (I.trans P.symm) λk u f=>?_
   let ⟨t,S,q⟩:=R k u f
   let ⟨v,o,y⟩:=K k t S
   exact⟨v,o,q.rel i y⟩
  |_=>cases hl
 |AG=>cases a<;>first|exact .AG|cases hl
def xW.imp{g g':Gh}(c:∀t v,aL g w t v->aL g' w' t v)(i:∀o b,g.bX o=Z b->g'.bX o=Z b){e:Deferred}(h:xW g w d e):xW g' w' d e:=by
 cases h with
 |call f args k first cap a h3 h4 h5=>exact .call f args k first cap a (c _ _ h3) h4 (λj t v l m=>c _ _ (h5 j t v l m))
 |mark o b h=>exact .mark o b (i o b h)|bad=>exact .bad _
def eW.imp{g g':Gh}{w w':az}(e:∀t v,aL g w t v->aL g' w' t v)(f:∀o b,g.bX o=Z b->g'.bX o=Z b){l:L Df}{m:L Deferred}(h:eW g w l m):eW g' w' l m:=by
 induction h with|nil=>exact .nil|cons h _ a=>exact .cons (h.imp e f) a|marks o i j h _ a=>exact .marks o i j (λb d=>let ⟨n,c,h1⟩:=h b d;⟨n,c,e _ _ h1⟩) a|kO k _ a=>exact .kO k a
def TJ(p:T->aa)(d e:Df):Prop:=(e=.bad/\d.one=W)\/(e=d/\match d with
 |.call f args=>p f=J/\∀t∈args,p t=J|.mark o=>p (.ptr o 0)=J|.marks _=>False|.kO=>False|.bad=>True)
inductive iJ(p:T->aa):List Df->List Df->Prop where
 |nil:iJ p [] []|cons {d e:Df} {l m:List Df} (h:TJ p d e) (t:iJ p l m):iJ p (d::l) (e::m)|marks (o:Nat) {l m:List Df} (h:∀e,p (.sh o e)=J) (t:iJ p l m):iJ p (.marks o::l) (.marks o::m)|ahh (o:Nat) {l m:List Df} (t:iJ p l m):iJ p (.marks o::l) (.kO::m)|kO {l m:List Df} (t:iJ p l m):iJ p (.kO::l) (.kO::m)
def TJ.rel{g g':Gh}(c:∀t v,aL g w t v->p t=J->aL g' w' t v){e:Df}{x:Deferred}(h:TJ p d e)(l:xW g w d x):xW g' w' e x:=by
 obtain⟨rfl,_⟩|⟨rfl,h⟩:=h
 exact .bad _;cases l with
 |call f args m first cap a h3 h4 h5=>exact .call f args m first cap a (c _ _ h3 h.1) h4 (λj t v k n=>c _ _ (h5 j t v k n) (h.2 t (iG k)))
 |mark o b q=>
  have:=c _ _ (.ptr o 0 b q) h;cases this with|ptr _ _ _ i=>exact .mark o b i
 |bad=>exact .bad _
def iJ.rel{g g':Gh}{w w':az}{p:T->aa}(a:∀t v,aL g w t v->p t=J->aL g' w' t v):∀{l m:L Df}{d:L Deferred},iJ p l m->eW g w l d->eW g' w' m d
 |_,_,_,.nil,.nil=>.nil|_,_,_,.cons h t,.cons k u=>.cons (h.rel a k) (iJ.rel a t u)|_,_,_,.cons h _,.marks _ _ _ _ _=>by obtain⟨_,h⟩|⟨_,h⟩:=h<;>cases h
 |_,_,_,.cons h _,.kO _ _=>by obtain⟨_,h⟩|⟨_,h⟩:=h<;>cases h
 |_,_,_,.marks o h t,.marks _ e f k u=>.marks o e f (λb i=>let ⟨n,c,h1⟩:=k b i;⟨n,c,a _ _ h1 (h b)⟩) (iJ.rel a t u)
 |_,_,_,.marks _ _ _,.cons k _=>by cases k
 |_,_,_,.ahh o t,.marks _ e _ _ u=>.kO _ (iJ.rel a t u)|_,_,_,.ahh _ _,.cons k _=>by cases k
 |_,_,_,.kO t,.kO d u=>.kO d (iJ.rel a t u)|_,_,_,.kO _,.cons k _=>by cases k
def cZ.ext{fl:Nat}{g g':Gh}{w w':az}(h:Ext fl g w g' w')(hi:∀b,g.bF b->b<w.heap.size){fr:Fr}{a:Act}(hf:cZ g fr a w):cZ g' fr a w':=
 ⟨hf.size,hf.df.imp (λ_ _ c=>c.ext h hi) h.bX,λk t d=>let ⟨v,e,c⟩:=hf.tm k t d;⟨v,e,c.ext h hi⟩⟩
end
section
def eg:TypeDesc->aa
 |.struct _|.array _ _=>W|_=>J
def aiT(d:D)(v:aD):Prop:=(d=.sl []/\v=.slice Y 0 0)\/d=.lit v
def ZOk(zero:L D)(cells:Array aD):Prop:=
 zero.length=cells.size/\∀(j:Nat)(d:D)(v:aD),zero[j]?=Z d->cells[j]?=Z v->aiT d v
def aoh(P:cV):Kd->TypeDesc->Prop
 |.leaf (.int k),d=>d=.int k|.leaf .bool,d=>d=.bool|.leaf .str,d=>d=.string|.leaf .no,_=>True|.ptr,d=>∃e,d=.pointer e|.slice sz ag b zero,d=>∃e j a z,d=.slice e/\P.info? e=Z j/\j.size=sz/\P.underlying e=Z a/\ag=eg a/\j.zero=Z z/\ZOk zero z.cells/\j.bytes<=4096/\0<sz/\j.bytes<=b/\b<=2*j.bytes/\0<j.bytes/\zero.length=sz|.struct c,d=>∃fields,d=.struct fields/\fields.size=c.length/\∀(k:Nat)off size ag,c[k]?=Z (off,size,ag)->
   ∃f j a,fields[k]?=Z f/\f.offset=off/\P.info? f.type=Z j/\j.size=size/\P.underlying f.type=Z a/\ag=eg a
 |.array len sz ag,d=>∃e j a,d=.array len e/\P.info? e=Z j/\j.size=sz/\P.underlying e=Z a/\ag=eg a|.iface,d=>∃g,d=.interface g|.other,_=>True
def Cg:Lk->aD->Prop
 |.int k,v=>∃n,v=.int k n|.bool,v=>∃b,v=.bool b|.str,v=>∃b,v=.string b|.no,_=>False
def Ia:aD->aD->aa
 |.int _ a,.int _ b=>a==b|.bool a,.bool b=>a==b|.string a,.string b=>a==b|_,_=>J
def n7:L aD->L aD->aa
 |a::l,b::m=>Ia a b&&n7 l m|_,_=>W
def ajf(P:cV)(t:TypeId)(a:L Lk):Prop:=
 ∀(w:az)(op:BinOp)(x y:Operand)(b ys:Array aD),b.size=a.length->ys.size=a.length->
  (∀(j:Nat)(l:Lk)(v:aD),a[j]?=Z l->b[j]?=Z v->Cg l v)->(∀(j:Nat)(l:Lk)(v:aD),a[j]?=Z l->ys[j]?=Z v->Cg l v)->
  (eqGuard op t x y (.agg b) (.agg ys)).run P w=.ok () w/\(Op.equal t (.agg b) (.agg ys)).run P w=.ok (n7 b.toList ys.toList) w
structure nH(P:cV)(t:TypeId)(i:TI):Prop where
 eqs:i.agg=W->i.lks≠[]->ajf P t i.lks
 nif:∀ms,P.underlying t=Z (.interface ms)->i.kd=.iface
 zag:∀x z,P.info? t=Z x->x.zero=Z z->(i.agg=W->∃vs,z=.agg vs)/\(i.agg=J->z.cells=#[z])
 all:∃x d z,P.info? t=Z x/\P.underlying t=Z d/\x.size=i.size/\i.agg=eg d/\x.zero=Z z/\ZOk i.zero z.cells/\aoh P i.kd d
section
variable {P:cV}
def aO{t:TypeId}{d:TypeDesc}(h:P.underlying t=Z d)(w:az):(underlying t).run P w=.ok d w:=by simp[underlying,h]
def sP{t:TypeId}{x:TypeInfo}(h:P.info? t=Z x)(w:az):(typeInfo t).run P w=.ok x w:=by simp[typeInfo,h]
def dD{t:TypeId}{x:TypeInfo}(h:P.info? t=Z x)(w:az):(Go.sizeOf t).run P w=.ok x.size w:=by simp[Go.sizeOf,sP h]
def uN{t:TypeId}{d:TypeDesc}(h:P.underlying t=Z d)(w:az):(isAgg t).run P w=.ok (eg d) w:=by simp[isAgg,run_bind,aO h,andThen_ok];cases d<;>rfl
def eB{t:TypeId}{x:TypeInfo}{z:aD}(h:P.info? t=Z x)(a:x.zero=Z z)(w:az):(zeroValue t).run P w=.ok z w:=by simp[zeroValue,sP h,a]
theorem beq_iff'{a b:Nat}:Nq a b=W↔a=b:=by
 simp_all
def AY{t:TypeId}{x:TypeInfo}{d:TypeDesc}(hi:P.info? t=Z x)(f:P.underlying t=Z d)(w:az)(a:Addr)(vals:L aD)(hl:vals.length=x.size)
  (c:∀j v,vals[j]?=Z v->w.cell? (a.add j)=Z v) (h1:eg d=J->∃v,vals=[v]) :
  (loadVar t a).run P w=.ok (if eg d then .agg vals.toArray else vals.headD undef) w:=by
 have b:=run_loadCells_list (P:=P) w a vals c;simp only[loadVar,run_bind,uN f,andThen_ok];cases g:eg d with|true=>simp[dD hi,<-hl,b]|false=>obtain⟨v,rfl⟩:=h1 g;have e:=c 0 v rfl;simp[Addr.add]at e;simp[e]
end
variable {j:Nat}{ag:aa}{cs:List T}{t:T}{g:Gh}{w:az}
def cF{α:Type}{l:L α}{x:α}(h:l[j]?=Z x):j<l.length:=by
 grind
def zQ{n k:Nat}(h:(List.range n)[j]?=Z k):j=k/\j<n:=by
 grind
theorem uB(a:Addr)(i j:Nat):(a.add i).add j=a.add (i+j):=by unfold Addr.add;by_cases b:i=0<;>by_cases c:j=0<;>simp[b,c,Nat.add_assoc]
def GX(h:wS ag cs=Z t):(ag=W/\t=.agg cs)\/(ag=J/\cs=[t]):=by
 unfold wS at h
 grind
def yq(h:wS ag cs=Z t){vals:L aD}(hl:cs.length=vals.length)
  (a:∀(j:Nat)(t:T)(v:aD),cs[j]?=Z t->vals[j]?=Z v->aL g w t v) :
  aL g w t (if ag then .agg vals.toArray else vals.headD undef)/\(ag=J->∃v,vals=[v]):=by
 obtain⟨rfl,rfl⟩|⟨rfl,rfl⟩:=GX h
 exact⟨.agg _ _ (by simpa using hl) (λj t v h1 h2=>a j t v h1 (by simpa using h2)),λh=>by cases h⟩
 match vals,hl with
 |[v],_=>exact⟨a 0 _ _ rfl rfl,λ_=>⟨v,rfl⟩⟩
def sO{α:Type}(l:L α)(off n j:Nat)(x:α)(h:((l.drop off).take n)[j]?=Z x):l[off+j]?=Z x/\j<n:=by
 grind
theorem D.Qt(d:D)(j:Nat)(h:j<d.cells.length):d.cells[j]?=Z (d.cell j):=by
 grind[D.cell]
def Ef{P:cV}{ty:TypeId}{i:TI}(hi:nH P ty i){d:D}{off:Nat}(h:nI i d off=Z t)(o:d.has (Na off i.size))
  {ad:Addr} {val:Nat->aD} (u:∀j c,d.cells[j]?=Z c->w.cell? (ad.add j)=Z (val j)) (y:∀j c,d.cells[j]?=Z c->dP g.bF w c (val j)) :
  ∃v,(loadVar ty (ad.add off)).run P w=.ok v w/\aL g w t v:=by
 let ⟨x,ds,z,p,q,l,b,_⟩:=hi.all
 have A:off+i.size<=d.cells.length:=o;have a:∀j,j<i.size->w.cell? ((ad.add off).add j)=Z (val (off+j))/\dP g.bF w (d.cell (off+j)) (val (off+j)):=by
  grind[uB,D.Qt]
 have e:=AY (P:=P) p q w (ad.add off) ((List.range i.size).map λj=>val (off+j)) (by simp[l]) (λj v B=>by
  grind)
 unfold nI at h;cases n:i.agg with
 |true=>
  rw[n]at h b;simp at h;subst h;refine⟨_,e (λC=>by simp_all),?_⟩;rw[<-b];refine .agg _ _ (by simp) (λj t v h1 h2=>?_);simp at h1;obtain⟨k,r,rfl⟩:=h1;obtain⟨rfl,m⟩:=zQ r;have s:v=val (off+j):=by
   simp_all
  subst s;exact .sym _ _ (a j m).2
 |false=>
  rw[n]at h b;by_cases h1:Nq i.size 1=W;simp[h1]at h;subst h;have f:=beq_iff'.1 h1;refine⟨_,e (λ_=>⟨val off,by simp[f]⟩),?_⟩;rw[<-b];have:=(a 0 (by omega)).2;simp[f];exact .sym _ _ (by omega)
  simp_all
end
section
def ah{α:Type}{b:aa}{x y:O α}{z:α}(h:(bif b then x else y)=Z z):(b=W/\x=Z z)\/(b=J/\y=Z z):=by
 grind
theorem w6{I:Nat->Prop}{w:az}{d:D}{v:aD}(hl:d.leaf=W)(h:dP I w d v):v.oneCell'=W/\v.cells=#[v]:=by
 cases h with
 |lit v=>cases v<;>first|exact⟨rfl,rfl⟩|cases hl
 |sl=>exact⟨rfl,rfl⟩|agg=>cases hl
 |gX=>cases hl
 |_=>exact⟨rfl,rfl⟩
variable {g:Gh}{w:az}{t:T}{v:aD}{i:TI}{s:St}{o e sz k:Nat}{es:List D}
def V3(hl:t.leaf)(h:aL g w t v):v.oneCell'=W/\v.cells=#[v]:=by cases h with|sym d v a=>exact w6 hl a|agg=>exact hl.elim|gX=>exact hl.elim|gd=>exact hl.elim|_=>exact⟨rfl,rfl⟩
def z6{n:Nat}{d:D}(h:d.isAgg n=W):∃cs,d=.agg cs/\cs.length=n/\∀c∈cs,c.leaf=W:=by unfold D.isAgg at h;split at h;rename_i cs;simp only[eX]at h;refine⟨cs,rfl,?_,?_⟩;rw[<-bZ];exact beq_iff'.1 h.1;simpa using h.2;cases h
def nt{p:Prop}{cs:L T}(h:kN i t=Z (p,cs))(q:p)(r:aL g w t v) :
  cs.length=i.size/\v.cells.size=i.size/\(∀(j:Nat)(t:T)(u:aD),cs[j]?=Z t->v.cells[j]?=Z u->aL g w t u)/\
  (i.agg=W->∃vs,v=.agg vs)/\(i.agg=J->v.cells=#[v]/\i.size=1):=by
 cases r with
 |agg y vs f l=>
  obtain⟨b,h⟩|⟨_,h⟩:=ah h
  simp only[eX]at b;have c:=beq_iff'.1 b.2;rw[bZ]at c;obtain⟨_,rfl⟩:=h;refine⟨c,by simp[Value.cells,<-f,c],λj t u h1 h2=>l j t u h1 h2,λ_=>⟨vs,rfl⟩,λe=>by simp_all⟩;cases h
 |sym d v m=>
  obtain⟨b,h⟩|⟨b,h⟩:=ah h
  .obtain ⟨rfl,rfl⟩:=h;obtain⟨ds,rfl,c,s⟩:=z6 q;cases m with|agg _ vs f _ l=>refine⟨by simp,by simp[Value.cells,<-f,c],λj t u h1 h2=>?_,λ_=>⟨vs,rfl⟩,λe=>by simp_all⟩;simp at h1;obtain⟨k,x,rfl⟩:=h1;obtain⟨rfl,n⟩:=zQ x;exact .sym _ _ (l j _ u (D.Qt (.agg ds) j (by simpa[D.cells,c]using n)) h2)
  obtain⟨h1,h⟩|⟨_,h⟩:=ah h
  .obtain ⟨rfl,rfl⟩:=h;have a:=beq_iff'.1 h1
   let ⟨_,o⟩:=w6 q m
   refine⟨by simp[a],by simp[o,a],λj t u h2 h3=>?_,λe=>(by simp_all),λ_=>⟨o,a⟩⟩;rw[o]at h3;cases j with|zero=>simp at h2 h3;subst h2;subst h3;exact .sym _ _ m|succ j=>simp at h2
  cases h
 |gX=>cases h
 |gd=>cases h
 |kb|kn|ptr|mD|mC|sh|emp|kR|fn|dn|mp|r9|uH|ub|sV|qx=>
  all_goals
   simp only[kN]at h;obtain⟨_,h⟩|⟨b,h⟩:=ah h
   cases h;obtain⟨h1,h⟩|⟨_,h⟩:=ah h
   .simp only[gV,fH]at h;obtain⟨_,rfl⟩:=h;have a:=beq_iff'.1 h1;refine⟨by simp[a],by simp[Value.cells,a],?_,λe=>(by rw[b]at e;cases e),λ_=>⟨rfl,a⟩⟩;intro j t u h2 h3;cases j with|zero=>simp[Value.cells]at h2 h3;subst h2;subst h3;constructor<;>assumption|succ j=>simp at h2
   cases h
def Lj(h:JK s o e=Z (sz,es)):∃fz,s.ob.get o=Z (gz fz sz es e):=by
 unfold JK at h;split at h;rename_i c d era a;obtain⟨b,h⟩|⟨_,h⟩:=ah h
 have:=beq_iff'.1 b;subst this;simp at h;obtain⟨rfl,rfl⟩:=h;exact⟨J,a⟩;cases h;rename_i a;obtain⟨b,h⟩|⟨_,h⟩:=ah h
 have:=beq_iff'.1 b;subst this;simp at h;obtain⟨rfl,rfl⟩:=h;exact⟨W,a⟩;cases h;cases h
theorem lB{fz a:aa}{sz b e c:Nat}{es es':L D}(h:gz fz sz es e=gz a b es' c):fz=a/\sz=b/\es=es'/\e=c:=by cases fz<;>cases a<;>simp[gz]at h<;>exact⟨rfl,h⟩
def bg.oc(hs:bg g s w){fz:aa}{x:fy}(b:s.ob.get o=Z (gz fz sz es e))(c:g.arr o e=Z x) :
  yc g w fz sz es x/\x.sz=sz:=by
 let ⟨d,f,era,a,_,_,h⟩:=(hs.arr o e x c).old _ b (XH _ _ _ _)
 obtain⟨rfl,h2,rfl,rfl⟩:=lB a
 simp_all
theorem cell?_of_block{w:az}{b off:Nat}{vs:Array aD}{ty:TypeId}{fz:Nat×Nat}(h:w.heap[b]?=Z (.cells vs ty fz)):w.cell? ⟨b,off,Y⟩=vs[off]?:=by simp[World.cell?,h]
def og(b off n:Nat):(⟨b,off,Y⟩:Addr).add n=⟨b,off+n,Y⟩:=by unfold Addr.add;split<;>simp_all
def U2(h:mj (k:Int) (eT es)):k<es.length:=by have:=h.2;unfold eT at this;omega
def D.MW(h:k<es.length):es[k]?=Z (jy es k):=by
 grind[jy]
def Ep{P:cV}{ty:TypeId}(hi:nH P ty i){s':St}(hs:bg g s w){x:T}{vx:aD}(S:aL g w x vx)
  {p:Prop} {t:T} (h:loadT i s x=Z (p,t,s')) (hp:p):∃v,(Instr.loadAt ty vx).run P w=.ok v w/\aL g w t v/\s'=s:=by
 cases S with
 |ptr o off b hb=>
  cases C:s.ob.get o with
  |none=>simp[loadT,C]at h|some ob=>
  simp[loadT,C]at h;cases ob with
  |box cs=>
  let ⟨E,ety,hh,hl,hr⟩:=(hs.box o b hb).box C
  obtain⟨hn,h⟩|⟨_,h⟩:=ah h
  have r:=beq_iff'.1 hn;rw[bZ]at r;simp only[gi,fH]at h;obtain⟨t',a,_,rfl,rfl⟩:=h
  let ⟨xi,d,z,Pn,hu,u,F,_⟩:=hi.all
  have m:((E.toList.drop off).take i.size).length=i.size:=by
   have:((cs.drop off).take i.size).length=((E.toList.drop off).take i.size).length:=by simp[hl]
   rw[<-this,r]
  let ⟨I,h1⟩:=yq (g:=g) (w:=w) a (vals:=(E.toList.drop off).take i.size) (by rw[r,m]) (λj t v h1 h2=>by
   let ⟨h1,_⟩:=sO _ _ _ _ _ h1
   let ⟨h2,_⟩:=sO _ _ _ _ _ h2
   exact hr _ _ _ h1 (by simpa using h2))
  refine⟨_,?_,I,rfl⟩;have:=AY (P:=P) Pn hu w ⟨b,off,Y⟩ ((E.toList.drop off).take i.size) (by rw[m,u]) (λj v A=>by
   let ⟨A,_⟩:=sO _ _ _ _ _ A
   rw[og,cell?_of_block hh];simpa using A) (λhf=>h1 (by rw[F,hf]))
  rw[F];simpa[Instr.loadAt,Instr.sureAddr]using this;cases h
  |_=>simp at h
 |mD d off ad val Va f hd=>
  simp only[loadT,gi,fH]at h;obtain⟨t',a,rfl,rfl,rfl⟩:=h
  let ⟨v,B,ht⟩:=Ef hi a hp f hd
  exact⟨v,by simpa[Instr.loadAt,Instr.sureAddr]using B,ht,rfl⟩
 |mC o e k off len cap sz ad S=>
  simp only[loadT]at h;cases ha:JK s o e with
  |none=>simp[ha]at h|some q=>
   let ⟨sz',es⟩:=q
   let ⟨fz,C⟩:=Lj ha
   let ⟨y,u⟩:=hs.oc C S
   simp only[ha,gi,fH]at h;obtain⟨t',a,rfl,rfl,rfl⟩:=h;subst u;have hk:=U2 hp.1;have K:(⟨Z ad,len,cap,sz⟩:fy).cap≠0:=by have h1:=y.len;have h2:=y.cap;omega
   let ⟨b,E,ety,R,_,hh,_,l⟩:=y.mem K
   simp at R;subst R;have hex:∀j,∃v,∀c,(jy es k).cells[j]?=Z c->w.cell? ((⟨b,k*sz,Y⟩:Addr).add j)=Z v/\dP g.bF w c v:=by
    intro j;by_cases A:j<(jy es k).cells.length
    let ⟨v,B,hd⟩:=l k _ j _ (D.MW hk) (iZ A)
    refine⟨v,λc f=>?_⟩;rw[iZ A]at f;rw[<-ko f,og,cell?_of_block hh];exact⟨B,hd⟩;exact⟨undef,λc f=>by rw[List.getElem?_eq_none (by omega)]at f;cases f⟩
   let ⟨val,n⟩:=Ws hex
   let ⟨v,B,ht⟩:=Ef hi a hp.2 (ad:=⟨b,k*sz,Y⟩) (val:=val) (λj c f=>(n j c f).1) (λj c f=>(n j c f).2)
   refine⟨v,?_,ht,rfl⟩;rw[og]at B;rw[og];simpa[Instr.loadAt,Instr.sureAddr]using B
 |_=>simp[loadT]at h
end
section
def setRow_other(w:az)(g b:Nat)(cs:Array aD)(h:b≠g):(w.setRow g cs).heap[b]?=w.heap[b]?:=by unfold World.setRow;rw[Array.getElem?_modify,bS (λe=>h e.symm)]
variable {g g':Gh}{s s':St}{w w':az}{o b e fl sz:Nat}{x:fy}{fz:aa}{es:List D}{ob:Ob}
def bg.lt(hs:bg g s w)(h:g.bX o=Z b):o<s.aH:=by
 obtain a|a:=Nat.lt_or_ge o s.aH
 exact a;rw[(hs.aj o a).1]at h;cases h
def bg.lt'(hs:bg g s w)(h:g.arr o e=Z x):o<s.aH:=by
 obtain a|a:=Nat.lt_or_ge o s.aH
 exact a;rw[(hs.aj o a).2 e]at h;cases h
def bg.sq(hs:bg g s w)(h:bL g o b):b<w.heap.size/\o<s.aH:=by
 obtain h1|⟨e,x,c,h1,d,a,f⟩:=h.2
 exact⟨(hs.box o b h1).2.1,hs.lt h1⟩;exact⟨a▸(hs.arr o e x h1).1 c d f,hs.lt' h1⟩
def xX.ext{g g':Gh}{s s':St}{w w':az}{fl o b:Nat}(e:Ext fl g w g' w')(hi:∀b,g.bF b->b<w.heap.size)(f:w'.heap[b]?=w.heap[b]?)
  (i:s'.ob.get o=s.ob.get o) (a:¬g'.bF b) (h:xX g s w o b):xX g' s' w' o b:=by
 let ⟨_,c,j⟩:=h
 refine⟨a,iW c e.size,λob d=>?_⟩
 let ⟨x,h1,h2⟩:=j ob (i▸d)
 exact⟨x,f.trans h1,h2.ext e hi⟩
def yc.ext{g g':Gh}{w w':az}{fl:Nat}{fz:aa}{sz:Nat}{es:L D}{x:fy}(e:Ext fl g w g' w')(hi:∀b,g.bF b->b<w.heap.size)
  (f:∀b,x.a=Z ⟨b,0,Y⟩->x.cap≠0->w'.heap[b]?=w.heap[b]?/\(g'.bF b↔g.bF b)) (h:yc g w fz sz es x):yc g' w' fz sz es x:=
 ⟨h.len,h.cap,h.rows,h.pos,h.Yb,λa=>by
  let ⟨b,k,ty,h1,h2,h3,h4,h5⟩:=h.mem a
  let ⟨l,m⟩:=f b h1 a
  exact⟨b,k,ty,h1,h2.trans m.symm,l.trans h3,h4,λi d j c n o=>let ⟨v,p,q⟩:=h5 i d j c n o;⟨v,p,q.ext e hi⟩⟩⟩
def yc.kJ(h:yc g w fz sz es x)(hi:g'.bF=g.bF):yc g' w fz sz es x:=
 ⟨h.len,h.cap,h.rows,h.pos,h.Yb,by rw[hi];exact h.mem⟩
def JS.le{m ij:Nat}{hole:O Nat}{hs:L aD}(h:JS g m ij hole hs)(a:∀j y,g.arr m j=Z y->g'.arr m j=Z y):JS g' m ij hole hs:=
 ⟨h.1,λi v b c=>let ⟨y,h1,h2⟩:=h.2 i v b c;⟨y,a _ _ h1,h2⟩⟩
def wm.tr(h:wm g w o e x ob)(hA:∀{fz sz es},yc g w fz sz es x->yc g' w' fz sz es x)(n:∀k j y,g.arr k j=Z y->g'.arr k j=Z y)(z:g'.arr o=g.arr o)(p:∀b,x.a=Z ⟨b,0,Y⟩->x.cap≠0->w'.heap[b]?=w.heap[b]?/\(g'.bF b↔g.bF b)):wm g' w' o e x ob:=by
 obtain⟨fz,es,era,h1,h2,h3,h5⟩|⟨q,es,era,m,a,hole,h1,h2,h3,h5⟩|⟨sz,f,a,h1,h2,h3,h5⟩|h|⟨h1,h2,h3,h4,h5⟩:=h
 exact .inl ⟨fz,es,era,h1,h2,λs h=>by simp_all,λh=>hA (h5 h)⟩;exact .inr (.inl ⟨q,es,era,m,a,hole,h1,h2,λs h=>by simp_all,λh=>let ⟨t,c,d,l⟩:=h5 h;⟨t,c,hA d,l.le (n m)⟩⟩);exact .inr (.inr (.inl ⟨sz,f,a,h1,λr i h=>by simp_all,by grind,λi h=>let ⟨c,u,d,l⟩:=h5 i h;⟨c,u,d,hA l⟩⟩));exact .inr (.inr (.inr (.inl h)))
 let ⟨c,d⟩:=p e h2 h3
 exact .inr (.inr (.inr (.inr ⟨h1,h2,h3,λv=>h4 (d.1 v),c.trans h5⟩)))
def wm.left{p:T->aa}{c:Ob}(h:wm g w o e x ob)(hl:sL p ob c)(hA:∀{fz sz es},yc g w fz sz es x->yc g' w' fz sz es x)
  (n:∀m j y,p (.sh m 0)=J->g.arr m j=Z y->g'.arr m j=Z y) (B:g'.arr o=g.arr o) (q:∀b,x.a=Z ⟨b,0,Y⟩->x.cap≠0->w'.heap[b]?=w.heap[b]?/\(g'.bF b↔g.bF b)):wm g' w' o e x c:=by
 obtain⟨fz,es,era,rfl,h2,h3,h5⟩|⟨s,es,era,m,a,hole,rfl,h2,h3,h5⟩|⟨sz,d,a,rfl,h2,h3,h5⟩|rfl|⟨rfl,h2,h3,h4,h5⟩:=h
 have:c=gz fz x.sz es era:=by cases fz<;>exact hl.symm
 exact .inl ⟨fz,es,era,this,h2,λt h=>by simp_all,λh=>hA (h5 h)⟩;obtain⟨rfl,u⟩|rfl:=hl
 exact .inr (.inl ⟨s,es,era,m,a,hole,rfl,h2,λt h=>by simp_all,λh=>let ⟨v,f,k,l⟩:=h5 h;⟨v,f,hA k,l.le (λj y=>n m j y u)⟩⟩);exact .inr (.inr (.inr (.inl rfl)));have:c=.rws sz d a:=hl.symm;exact .inr (.inr (.inl ⟨sz,d,a,this,λr i h=>by simp_all,by grind,λi h=>let ⟨f,z,k,l⟩:=h5 i h;⟨f,z,k,hA l⟩⟩));have:c=.gone:=hl.symm;exact .inr (.inr (.inr (.inl this)));have:c=.Hj:=hl.symm
 let ⟨f,k⟩:=q e h2 h3
 exact .inr (.inr (.inr (.inr ⟨this,h2,h3,λA=>h4 (k.1 A),f.trans h5⟩)))
def Co.ext{g g':Gh}{s s':St}{w w':az}{fl o e:Nat}{x:fy}(a:Ext fl g w g' w')(hi:∀b,g.bF b->b<w.heap.size)
  (d:∀b,x.a=Z ⟨b,0,Y⟩->x.cap≠0->w'.heap[b]?=w.heap[b]?/\(g'.bF b↔g.bF b))
  (f:s'.ob.get o=s.ob.get o) (i:g'.arr o=g.arr o) (h:Co g s w o e x):Co g' s' w' o e x:=by
 refine⟨λl m n=>iW (h.1 l m n) a.size,λob c=>?_⟩;exact(h.2 ob (f▸c)).tr (λh=>h.ext a hi d) (λk j y h=>a.arr k j y h) i d
def bg.agT(hs:bg g s w)(n:g.bX o=Z b){r:L T}(k:s.ob.get o=Z (.box r))(u:s.fl<=o){cs':L T}{vs':Array aD}(hl:cs'.length=vs'.size)
  (A:∀(j:Nat)(t:T)(v:aD),cs'[j]?=Z t->vs'[j]?=Z v->aL g w t v) :
  bg g {s with ob:=s.ob.set aP o (.box cs')} (w.setRow b vs')/\Ext s.fl g w g (w.setRow b vs'):=by
 have c:bL g o b:=⟨(hs.box o b n).1,.inl n⟩;have m:o<bO:=iW (hs.lt n) hs.aH;have q:Ext s.fl g w g (w.setRow b vs'):=
  ⟨λ_ _ h=>h,λ_ _ _ h=>h,λ_ h=>h,by simp,λd _ B=>setRow_other w b d vs' (λe=>B o u (e▸c)),
   λ_ _ h=>.inl h,λ_ h=>.inl h,rfl,rfl⟩
 refine⟨⟨hs.aH,hs.aj,λi d a=>?_,λi e x y=>?_,λd a=>by simpa using hs.bF d a,hs.kj⟩,q⟩;by_cases f:i=o;subst f;rw[n]at a;simp at a;subst a
 let ⟨h1,h2,h3⟩:=hs.box i b n
 let ⟨C,ty,h4,h5,h6⟩:=(hs.box i b n).box k
 refine⟨h1,by simpa using h2,λE l=>⟨_,setRow_heap w b C vs' ty _ h4,?_⟩⟩;rw[Tr.aX _ _ _ _ m,bH rfl]at l;obtain rfl:=ko l;exact .box _ _ _ hl λj t v F I=>(A j t v F I).ext q hs.bF;have z:d≠b:=λe=>f (hs.kj i o b (e▸⟨(hs.box i d a).1,.inl a⟩) c);exact(hs.box i d a).ext q hs.bF (setRow_other w b d vs' z) (by simp;rw[Tr.aX _ _ _ _ m,bS f]) (hs.box i d a).1;have f:i≠o:=by
  rintro rfl
  cases((hs.arr i e x y).2 _ k).oM
 refine(hs.arr i e x y).ext q hs.bF (λd a K=>⟨setRow_other w b d vs' ?_,wu⟩) (by simp;rw[Tr.aX _ _ _ _ m,bS f]) rfl
 rintro rfl
 by_cases p:g.bF d;exact c.1 p;exact f (hs.kj i o d ⟨p,.inr ⟨e,x,_,y,a,rfl,K⟩⟩ c)
def Gh.dN(g:Gh)(o b:Nat):Gh:={g with bX:=λk=>if k=o then Z b else g.bX k}
def qN(w:az)(o:Obj)(b:Nat)(h:b<w.heap.size):(w.alloc o).heap[b]?=w.heap[b]?:=by show(w.heap.push o)[b]?=_;rw[Array.getElem?_push,bS (by omega)]
def yJ(w:az)(o:Obj):(w.alloc o).heap[w.heap.size]?=Z o:=by show(w.heap.push o)[w.heap.size]?=_;simp
def bg.newObj(hs:bg g s w)(hn:s.aH<bO){ob0:Ob}{x0:Obj}(u:g8 g w ob0 x0) :
  bg (g.dN s.aH w.heap.size) (ew s ob0).2 (w.alloc x0)/\Ext s.fl g w (g.dN s.aH w.heap.size) (w.alloc x0):=by
 have c:=hs.aj s.aH (eP _);have k:∀o b,g.bX o=Z b->(g.dN s.aH w.heap.size).bX o=Z b:=λo b h=>by
  have:o≠s.aH:=λe=>by rw[e,c.1]at h;cases h
  simp[Gh.dN,this,h]
 have d:∀o b,bL (g.dN s.aH w.heap.size) o b->bL g o b\/(o=s.aH/\b=w.heap.size):=by
  rintro o b ⟨h1,h2|h2⟩
  by_cases f:o=s.aH;subst f;simp[Gh.dN]at h2;exact .inr ⟨rfl,h2.symm⟩;simp[Gh.dN,f]at h2;exact .inl ⟨h1,.inl h2⟩;exact .inl ⟨h1,.inr h2⟩
 have m:Ext s.fl g w (g.dN s.aH w.heap.size) (w.alloc x0):=
  ⟨k,λ_ _ _ h=>h,λ_ h=>h,by simp,λb i _=>qN w _ b i,
   λo b h=>(d o b h).imp id λh=>by omega,λ_ h=>.inl h,rfl,rfl⟩
 refine⟨⟨by simp only[ew];omega,λo f=>?_,λo b i=>?_,λo e x r=>?_,λb i=>?_,λo t b h v=>?_⟩,m⟩;simp only[ew]at f;have h1:o≠s.aH:=by omega
 simp[Gh.dN,h1,jY];exact hs.aj o (by omega);by_cases f:o=s.aH;subst f;have n:b=w.heap.size:=by simp[Gh.dN]at i;exact i.symm
 subst n;refine⟨λp=>?_,by simp,λob j=>⟨_,yJ w _,?_⟩⟩;have:=hs.bF _ p;omega;simp[ew]at j;rw[Tr.aX _ _ _ _ hn,bH rfl]at j;obtain rfl:=ko j;exact u.ext m hs.bF;have q:g.bX o=Z b:=by simpa[Gh.dN,f]using i
 have a:=hs.box o b q;exact a.ext m hs.bF (qN w _ b a.2.1) (by simp[ew];rw[Tr.aX _ _ _ _ hn,bS f]) a.1;have a:=hs.arr o e x r;have f:o≠s.aH:=λh=>by have l:g.arr o e=Z x:=r;rw[h,c.2 e]at l;cases l
 refine a.ext m hs.bF (λb i y=>⟨qN w _ b ?_,wu⟩) (by simp[ew];rw[Tr.aX _ _ _ _ hn,bS f]) rfl;exact a.1 _ i y;have:=hs.bF b i;simp;omega;obtain h1|⟨h1,h3⟩:=d o b h<;>obtain h2|⟨h2,h4⟩:=d t b v
 exact hs.kj o t b h1 h2;have:=(hs.sq h1).1;omega;have:=(hs.sq h2).1;omega;rw[h1,h2]
def bg.dN{g:Gh}{s:St}{w:az}(hs:bg g s w)(hn:s.aH<bO){cs:L T}{vs:Array aD}(ty:TypeId)(hl:cs.length=vs.size)
  (a:∀(j:Nat)(t:T)(v:aD),cs[j]?=Z t->vs[j]?=Z v->aL g w t v) :
  bg (g.dN s.aH w.heap.size) (ew s (.box cs)).2 (w.alloc (.cells vs ty))/\Ext s.fl g w (g.dN s.aH w.heap.size) (w.alloc (.cells vs ty)):=
 hs.newObj hn (.box cs vs ty hl a)
end
section
def Gh.era(g:Gh)(o e:Nat)(x:fy):Gh:={g with arr:=λk j=>if k=o/\j=e then Z x else g.arr k j}
def Gh.fS(g:Gh)(o e:Nat)(x:fy):(g.era o e x).arr o e=Z x:=by simp[Gh.era]
theorem Gh.cW(g:Gh)(o e k j:Nat)(x:fy)(h:¬(k=o/\j=e)):(g.era o e x).arr k j=g.arr k j:=by simp[Gh.era,h]
variable {g:Gh}{s:St}{w w':az}{o e sz:Nat}{es es':List D}{x:fy}
def bg.am7(hs:bg g s w){x':fy}(S:s.ob.get o=Z (.arr sz es e))(C:g.arr o e=Z x)
  (hfl:s.fl<=o) (hos:w'.os=w.os) (E:w'.output=w.output) (c:w.heap.size<=w'.heap.size)
  (d:∀b,b<w.heap.size->¬x.at b->w'.heap[b]?=w.heap[b]?)
  (hx':∀b,x'.at b->b<w'.heap.size/\(w.heap.size<=b\/x.at b))
  (hok:yc (g.era o (e+1) x') w' J sz es' x') (hxs:x'.sz=sz) :
  bg (g.era o (e+1) x') {s with ob:=s.ob.set aP o (.arr sz es' (e+1))} w'/\Ext s.fl g w (g.era o (e+1) x') w':=by
 have t:o<bO:=iW (hs.lt' C) hs.aH
 let ⟨F,ad8⟩:=hs.oc (fz:=J) S C
 have hnext:∀e',e<e'->g.arr o e'=Y:=by
  let ⟨fz,v,era,h1,_,h3,_⟩:=(hs.arr o e x C).old _ S rfl
  have z:gz J sz es e=gz fz x.sz v era:=h1;obtain⟨_,_,_,rfl⟩:=lB z;exact h3
 have A:∀b,x.at b->¬g.bF b:=by
  rintro b ⟨r,h1,rfl,h3⟩ I
  let ⟨b',_,_,k1,k2,_⟩:=F.mem h3
  grind
 have f:∀b,x.at b->bL g o b:=λb m=>by
  let ⟨r,h1,h2,h3⟩:=m
  exact⟨A b ⟨r,h1,h2,h3⟩,.inr ⟨e,x,r,C,h1,h2,h3⟩⟩
 have K:∀k j y,g.arr k j=Z y->(g.era o (e+1) x').arr k j=Z y:=λk j y h=>by
  rw[Gh.cW];exact h
  grind
 have hown:∀k b,bL (g.era o (e+1) x') k b->bL g k b\/(k=o/\x'.at b):=by
  rintro k b ⟨h1,h2|⟨j,y,r,h2,h3,h4,h5⟩⟩
  exact .inl ⟨h1,.inl h2⟩;by_cases P:k=o/\j=e+1;obtain⟨rfl,rfl⟩:=P;rw[Gh.fS]at h2;simp at h2;subst h2;exact .inr ⟨rfl,r,h3,h4,h5⟩;rw[Gh.cW _ _ _ _ _ _ P]at h2;exact .inl ⟨h1,.inr ⟨j,y,r,h2,h3,h4,h5⟩⟩
 have i:∀k b,bL (g.era o (e+1) x') k b->bL g k b\/(k=o/\w.heap.size<=b):=λk b h=>by
  grind
 have he:Ext s.fl g w (g.era o (e+1) x') w':=
  ⟨λ_ _ h=>h,K,λ_ h=>h,c,λb m hn=>d b m λn=>hn o hfl (f b n),λk b h=>(i k b h).imp id (·.2),λ_ h=>.inl h,hos,E⟩
 refine⟨⟨hs.aH,λk hk=>⟨(hs.aj k hk).1,λj=>?_⟩,λk b m=>?_,λk j y R=>?_,λb m=>iW (hs.bF b m) c,λk k' b h h'=>?_⟩,he⟩;rw[Gh.cW];exact(hs.aj k hk).2 j
 rintro⟨rfl,_⟩
 have:=hs.lt' C
 grind
 have a:k≠o:=by
  rintro rfl
  exact(hs.box k b m).CN J S
 have l:=hs.box k b m;refine l.ext he hs.bF (d b l.2.1 λn=>a (hs.kj k o b ⟨l.1,.inl m⟩ (f b n))) (by simp;rw[Tr.aX _ _ _ _ t,bS a]) l.1;by_cases a:k=o;subst a;by_cases hj:j=e+1;subst hj;rw[Gh.fS]at R;simp at R;subst R;refine⟨λr ha B=>(hx' _ ⟨r,ha,rfl,B⟩).1,λob p=>.inl ⟨J,es',e+1,?_,eP _,λe' h=>?_,λ_=>hxs▸hok⟩⟩;rw[Tr.aX _ _ _ _ t,bH rfl]at p
 grind[gz]
 grind[Gh.cW]
 have q:g.arr k j=Z y:=by rwa [Gh.cW _ _ _ _ _ _ (by omega)]at R
 have h4:=(hs.arr k j y q).1
 let ⟨fz,v,era,h1,h2,h3,_⟩:=(hs.arr k j y q).old _ S rfl
 have z:gz J sz es e=gz fz y.sz v era:=h1;obtain⟨_,hysz,_,rfl⟩:=lB z;refine⟨λr ha B=>iW (h4 r ha B) c,λob p=>.inl ⟨J,es',e+1,?_,by omega,λe' h=>?_,λh=>by omega⟩⟩;rw[Tr.aX _ _ _ _ t,bH rfl]at p
 grind[gz]
 grind[Gh.cW]
 have q:g.arr k j=Z y:=by rwa [Gh.cW _ _ _ _ _ _ (λh=>a h.1)]at R
 have u:=hs.arr k j y q;refine u.ext he hs.bF (λb m B=>⟨?_,wu⟩) (by simp;rw[Tr.aX _ _ _ _ t,bS a]) (funext λj=>Gh.cW _ _ _ _ _ _ (λh=>a h.1));refine d b (u.1 _ m B) λn=>?_;by_cases I:g.bF b
 simp_all
 exact a (hs.kj k o b ⟨I,.inr ⟨j,y,_,q,m,rfl,B⟩⟩ (f b n));obtain h1|⟨h1,h3⟩:=i k b h<;>obtain h2|⟨h2,h4⟩:=i k' b h'
 exact hs.kj k k' b h1 h2;have:=(hs.sq h1).1;omega;have:=(hs.sq h2).1;omega;rw[h1,h2]
def bg.Sq(hs:bg g s w)(hn:s.aH<bO)
  (t:w'.os=w.os) (o:w'.output=w.output) (c:w.heap.size<=w'.heap.size)
  (a:∀b,b<w.heap.size->w'.heap[b]?=w.heap[b]?) (E:∀b,x.at b->w.heap.size<=b/\b<w'.heap.size)
  (u:yc (g.era s.aH 0 x) w' J sz es x) (v:x.sz=sz) :
  bg (g.era s.aH 0 x) (ew s (.arr sz es 0)).2 w'/\Ext s.fl g w (g.era s.aH 0 x) w':=by
 have z:=hs.aj s.aH (eP _);have p:∀k j y,g.arr k j=Z y->(g.era s.aH 0 x).arr k j=Z y:=λk j y h=>by
  rw[Gh.cW];exact h
  grind
 have d:∀k b,bL (g.era s.aH 0 x) k b->bL g k b\/(k=s.aH/\w.heap.size<=b):=by
  rintro k b ⟨h1,h2|⟨j,y,r,h2,h3,h4,h5⟩⟩
  exact .inl ⟨h1,.inl h2⟩;by_cases e:k=s.aH/\j=0;obtain⟨rfl,rfl⟩:=e;rw[Gh.fS]at h2;simp at h2;subst h2;exact .inr ⟨rfl,(E b ⟨r,h3,h4,h5⟩).1⟩;rw[Gh.cW _ _ _ _ _ _ e]at h2;exact .inl ⟨h1,.inr ⟨j,y,r,h2,h3,h4,h5⟩⟩
 have A:Ext s.fl g w (g.era s.aH 0 x) w':=
  ⟨λ_ _ h=>h,p,λ_ h=>h,c,λb n _=>a b n,λk b h=>(d k b h).imp id (·.2),λ_ h=>.inl h,t,o⟩
 refine⟨⟨by simp only[ew];omega,λk I=>?_,λk b n=>?_,λk j y q=>?_,λb n=>iW (hs.bF b n) c,λk F b h K=>?_⟩,A⟩;simp only[ew]at I;refine⟨(hs.aj k (by omega)).1,λj=>?_⟩;rw[Gh.cW _ _ _ _ _ _ (by omega)];exact(hs.aj k (by omega)).2 j;have B:g.bX k=Z b:=n;have f:=hs.box k b B;have i:k≠s.aH:=λh=>by simp_all
 exact f.ext A hs.bF (a b f.2.1) (by simp[ew];rw[Tr.aX _ _ _ _ hn,bS i]) f.1;by_cases e:k=s.aH/\j=0;obtain⟨rfl,rfl⟩:=e;rw[Gh.fS]at q;simp at q;subst q;refine⟨λr P C=>(E _ ⟨r,P,rfl,C⟩).2,λob l=>.inl ⟨J,es,0,?_,eP _,λR h=>?_,λ_=>v▸u⟩⟩;simp[ew]at l;rw[Tr.aX _ _ _ _ hn,bH rfl]at l
 grind[gz]
 grind[Gh.cW]
 rw[Gh.cW _ _ _ _ _ _ e]at q;have i:k≠s.aH:=λh=>by simp_all
 have m:=hs.arr k j y q;refine m.ext A hs.bF (λb n C=>⟨?_,wu⟩) (by simp[ew];rw[Tr.aX _ _ _ _ hn,bS i]) (funext λj=>Gh.cW _ _ _ _ _ _ (λh=>i h.1));exact a b (m.1 _ n C);obtain h1|⟨h1,h3⟩:=d k b h<;>obtain h2|⟨h2,h4⟩:=d F b K
 exact hs.kj k F b h1 h2;have:=(hs.sq h1).1;omega;have:=(hs.sq h2).1;omega;rw[h1,h2]
def bg.ag3(hs:bg g s w){b:Nat}(v:s.ob.get o=Z (.arr sz es e))(z:g.arr o e=Z x)
  (A:s.fl<=o) (K:x.at b) {vs':Array aD} (S:yc g (w.setRow b vs') J sz es' x) :
  bg g {s with ob:=s.ob.set aP o (.arr sz es' e)} (w.setRow b vs')/\Ext s.fl g w g (w.setRow b vs'):=by
 have l:o<bO:=iW (hs.lt' z) hs.aH
 let ⟨n,P⟩:=hs.oc (fz:=J) v z
 have d:¬g.bF b:=by
  obtain⟨B,h1,rfl,h3⟩:=K;intro Va
  let ⟨t,_,_,k1,k2,_⟩:=n.mem h3
  grind
 have f:bL g o b:=by
  let ⟨B,h1,h2,h3⟩:=K
  exact⟨d,.inr ⟨e,x,B,z,h1,h2,h3⟩⟩
 have C:Ext s.fl g w g (w.setRow b vs'):=
  ⟨λ_ _ h=>h,λ_ _ _ h=>h,λ_ h=>h,by simp,λt _ hn=>setRow_other w b t vs' (λe=>hn o A (e▸f)),
   λ_ _ h=>.inl h,λ_ h=>.inl h,rfl,rfl⟩
 refine⟨⟨hs.aH,hs.aj,λk c m=>?_,λk j y u=>?_,λt E=>by simpa using hs.bF t E,hs.kj⟩,C⟩;have a:k≠o:=by
  rintro rfl
  exact(hs.box k c m).CN J v
 have i:=hs.box k c m;exact i.ext C hs.bF (setRow_other w b c vs' λe=>a (hs.kj k o c ⟨i.1,.inl m⟩ (e▸f))) (by simp;rw[Tr.aX _ _ _ _ l,bS a]) i.1;by_cases a:k=o;subst a;have h4:=(hs.arr k j y u).1
 let ⟨fz,F,era,h1,h2,h3,_⟩:=(hs.arr k j y u).old _ v rfl
 have I:gz J sz es e=gz fz y.sz F era:=h1;obtain⟨_,R,_,rfl⟩:=lB I;refine⟨λB ha m=>by simp_all,λob p=>.inl ⟨J,es',e,?_,h2,h3,λhje=>?_⟩⟩;rw[Tr.aX _ _ _ _ l,bH rfl]at p
 grind[gz]
 simp_all
 have q:=hs.arr k j y u;refine q.ext C hs.bF (λc m r=>⟨setRow_other w b c vs' ?_,wu⟩) (by simp;rw[Tr.aX _ _ _ _ l,bS a]) rfl
 rintro rfl
 exact a (hs.kj k o c ⟨d,.inr ⟨j,y,_,u,m,rfl,r⟩⟩ f)
def Gh.lW(g:Gh)(P:Nat->Prop):Gh:={g with bF:=λb=>g.bF b\/P b}
def bg.aeA(hs:bg g s w)(R:s.ob.get o=Z (.arr sz es e))(K:g.arr o e=Z x)
  (S:s.fl<=o) :
  bg (g.lW x.at) {s with ob:=s.ob.set aP o (.lW sz es e)} w/\Ext s.fl g w (g.lW x.at) w:=by
 have t:o<bO:=iW (hs.lt' K) hs.aH
 let ⟨a,ad8⟩:=hs.oc (fz:=J) R K
 have u:∀b,x.at b->¬g.bF b:=by
  rintro b ⟨ad,h1,rfl,h3⟩ n
  let ⟨b',_,_,k1,k2,_⟩:=a.mem h3
  grind
 have f:∀b,x.at b->bL g o b:=λb z=>by
  let ⟨ad,h1,h2,h3⟩:=z
  exact⟨u b ⟨ad,h1,h2,h3⟩,.inr ⟨e,x,ad,K,h1,h2,h3⟩⟩
 have p:∀k b,bL (g.lW x.at) k b->bL g k b/\¬x.at b:=λk b h=>⟨⟨λhi=>h.1 (.inl hi),h.2⟩,λhi=>h.1 (.inr hi)⟩;have P:Ext s.fl g w (g.lW x.at) w:=
  ⟨λ_ _ h=>h,λ_ _ _ h=>h,λ_ h=>.inl h,eP _,λ_ _ _=>rfl,λk b h=>.inl (p k b h).1,
   λb h=>h.imp id λh=>.inr ⟨o,S,f b h⟩,rfl,rfl⟩
 refine⟨⟨hs.aH,hs.aj,λk c r=>?_,λk j y C=>?_,λb z=>?_,λk k' b h h'=>hs.kj k k' b (p k b h).1 (p k' b h').1⟩,P⟩;have m:k≠o:=by
  rintro rfl
  exact(hs.box k c r).CN J R
 have q:=hs.box k c r;refine q.ext P hs.bF rfl (by simp;rw[Tr.aX _ _ _ _ t,bS m]) ?_
 rintro(n|A)
 exact q.1 n;exact m (hs.kj k o c ⟨q.1,.inl r⟩ (f c A));by_cases m:k=o;subst m;have h4:=(hs.arr k j y C).1
 let ⟨fz,es0,era,h1,h2,h3,_⟩:=(hs.arr k j y C).old _ R rfl
 have h1':gz J sz es e=gz fz y.sz es0 era:=h1;obtain⟨_,l,_,rfl⟩:=lB h1';refine⟨h4,λob E=>.inl ⟨W,es,e,?_,h2,h3,λhje=>?_⟩⟩;rw[Tr.aX _ _ _ _ t,bH rfl]at E
 grind[gz]
 subst hje;have B:g.arr k j=Z y:=C;rw[K]at B;simp at B;subst B;refine⟨a.len,a.cap,λd hd=>l▸a.rows d hd,l▸a.pos,a.Yb,λr=>?_⟩
 let ⟨b,vs,ty,k1,_,k3,k4,k5⟩:=a.mem r
 exact⟨b,vs,ty,k1,⟨λ_=>.inr ⟨_,k1,rfl,r⟩,λ_=>rfl⟩,k3,l▸k4,λi d j c hd hj=>let ⟨v,hv,hr⟩:=k5 i d j c hd hj;⟨v,l▸hv,hr.ext P hs.bF⟩⟩;have F:=hs.arr k j y C;refine F.ext P hs.bF (λc r I=>⟨rfl,⟨λh=>h.elim id λA=>?_,.inl⟩⟩) (by simp;rw[Tr.aX _ _ _ _ t,bS m]) rfl;by_cases n:g.bF c;exact n;exact absurd (hs.kj k o c ⟨n,.inr ⟨j,y,_,C,r,rfl,I⟩⟩ (f c A)) m;obtain z|z:=z
 exact hs.bF b z;exact(hs.sq (f b z)).1
end
section
theorem sQ:∀{r b i a:Nat},rc r i=rc b a->r=b/\i=a
 |0,0,i,a,h=>by simp[rc]at h;omega
 |0,b+1,i,a,h=>by simp[rc,Nat.pow_zero,J9,Nat.pow_succ,OG _ 2,Nat.mul_assoc]at h;omega
 |r+1,0,i,a,h=>by simp[rc,Nat.pow_zero,J9,Nat.pow_succ,OG _ 2,Nat.mul_assoc]at h;omega
 |r+1,b+1,i,a,h=>by
  have:rc r i=rc b a:=by
   grind[rc]
  have:=sQ this;omega
variable {g:Gh}{s:St}{w:az}{o e nj sz era m ij r i szr:Nat}{es:List D}{hole:Option Nat}{x y:fy}{hl:List aD}{iY:List (List D)}{fz:aa}{I:Nat->Prop}{d:D}
def bg.aaH{s':St}(hs:bg g s w)(hn:s'.aH=s.aH)(c:∀o,s'.ob.get o=s.ob.get o):bg g s' w:=
 ⟨hn▸hs.aH,λo h=>hs.aj o (hn▸h),λo b h=>let ⟨h1,h2,h3⟩:=hs.box o b h;⟨h1,h2,λob a=>h3 ob (c o▸a)⟩,λo e x h=>let ⟨h1,h2⟩:=hs.arr o e x h;⟨h1,λob a=>h2 ob (c o▸a)⟩,hs.bF,hs.kj⟩
def bg.Bg(hs:bg g s w){ob:Ob}(a:s.ob.get o=Z ob)(hi:ob.oM=W):g.bX o=Y:=by
 cases h:g.bX o with
 |none=>rfl|some b=>
  let ⟨x,_,h2⟩:=(hs.box o b h).2.2 ob a
  have:=h2.CN
  simp_all
def bg.CO(hs:bg g s w)(f:s.ob.get o=Z (.l8 nj sz es era m ij hole))(i:g.arr o e=Z x) :
  x.sz=sz/\e<=era/\(∀c,era<c->g.arr o c=Y)/\(e=era->∃hl,hl.length=es.length/\yc g w J sz (lits nj es hl) x/\JS g m ij hole hl):=by
 obtain⟨fz,_,_,h,_⟩|⟨j,k,d,l,a,b,h,h2,h3,h4⟩|⟨_,_,_,h,_⟩|h|⟨h,_⟩:=(hs.arr o e x i).2 _ f
 cases fz<;>cases h
 simp_all
 iterate 3 cases h
def bg.view(hs:bg g s w)(f:s.ob.get o=Z (.l8 nj sz es era m ij hole))(i:g.arr o era=Z x) :
  ∃hl,hl.length=es.length/\yc g w J sz (lits nj es hl) x/\JS g m ij hole hl/\bg g {s with ob:=s.ob.set aP o (.arr sz (lits nj es hl) era)} w:=by
 have d:o<bO:=iW (hs.lt' i) hs.aH
 let ⟨_,_,_,h4⟩:=hs.CO f i
 let ⟨hl,h5,h6,n⟩:=h4 rfl
 have p:=hs.Bg f rfl;refine⟨hl,h5,h6,n,hs.aH,hs.aj,λk b q=>?_,λk e y j=>?_,hs.bF,hs.kj⟩;have c:k≠o:=by grind
 let ⟨h,l,r⟩:=hs.box k b q
 refine⟨h,l,λob a=>r ob ?_⟩;simp at a;rwa [Tr.aX _ _ _ _ d,bS c]at a
 let ⟨h,l⟩:=hs.arr k e y j
 refine⟨h,λob a=>?_⟩;rw[Tr.aX _ _ _ _ d]at a;by_cases c:k=o;subst c;rw[bH rfl]at a;obtain rfl:=ko a
 let ⟨t,u,v,_⟩:=hs.CO f j
 refine .inl ⟨J,lits nj es hl,era,by rw[t];rfl,u,v,λz=>?_⟩
 simp_all
 simp_all
def bg.Ym(hs:bg g s w)(d:o<bO)(p:s.ob.get o=Z (.arr sz (lits nj es hl) era))(f:hl.length=es.length)
  (t:JS g m ij hole hl):bg g {s with ob:=s.ob.set aP o (.l8 nj sz es era m ij hole)} w:=by
 have u:=hs.Bg p rfl;refine⟨hs.aH,hs.aj,λk b v=>?_,λk e y q=>?_,hs.bF,hs.kj⟩;have c:k≠o:=by grind
 let ⟨i,r,x⟩:=hs.box k b v
 refine⟨i,r,λob a=>x ob ?_⟩;simp at a;rwa [Tr.aX _ _ _ _ d,bS c]at a
 let ⟨i,r⟩:=hs.arr k e y q
 refine⟨i,λob a=>?_⟩;rw[Tr.aX _ _ _ _ d]at a;by_cases c:k=o;subst c;rw[bH rfl]at a;obtain rfl:=ko a
 let ⟨fz,j,h,h1,h2,h3,h4⟩:=(hs.arr k e y q).old _ p rfl
 have l:gz J sz (lits nj es hl) era=gz fz y.sz j h:=h1;obtain⟨rfl,n,rfl,rfl⟩:=lB l;exact .inr (.inl ⟨nj,es,era,m,ij,hole,by rw[n],h2,h3,λz=>⟨hl,f,h4 z,t⟩⟩)
 simp_all
def bg.qX(hs:bg g s w)(k:s.ob.get m=Z (.rws sz iY r))(l:g.arr m e=Z y) :
  (∀a i,r<a->g.arr m (rc a i)=Y)/\(∀i c y d,i≠c->g.arr m (rc r i)=Z y->g.arr m (rc r c)=Z d->∀b,y.at b->¬d.at b)/\
   (∀i,e=rc r i->y.sz=sz/\∃f,iY[i]?=Z f/\yc g w J sz f y):=by
 obtain⟨fz,_,_,h,_⟩|⟨_,_,_,_,_,_,h,_⟩|⟨n,j,a,h,h2,h3,h4⟩|h|⟨h,_⟩:=(hs.arr m e y l).2 _ k
 cases fz<;>cases h;cases h
 grind
 cases h;cases h
def yc.at_(h:yc g w fz sz es x){b:Nat}(a:x.at b):(fz=W↔g.bF b)/\∃vs ty,x.a=Z ⟨b,0,Y⟩/\w.heap[b]?=Z (.cells vs ty (0,0)):=by
 let ⟨c,h1,h2,h3⟩:=a
 let ⟨d,vs,ty,e,f,i,_⟩:=h.mem h3
 grind
def yc.Xy(a:yc g w fz sz es x)(o:∀b,g.bF b->I b)(p:∀b,x.at b->I b):dP I w (.sl es) (.slice x.a x.len x.cap):=by
 rw[a.len];by_cases e:x.cap=0;have r:es=[]:=by
  have h1:=a.len;have h2:=a.cap
  simp_all
 subst r;exact .sl [] x.a x.cap sz (λ_ _=>undef) (by simp) (by simp) (by simp) (λh=>absurd rfl h) (λi j d c h=>by simp at h)
 let ⟨b,s,ty,h1,h2,h3,h4,h5⟩:=a.mem e
 have m:∀q:Nat×Nat,∃v,∀d c,es[q.1]?=Z d->d.cells[q.2]?=Z c->s[q.1*sz+q.2]?=Z v/\dP I w c v:=by
  rintro⟨i,j⟩
  by_cases n:i<es.length;by_cases k:j<(es[i]).cells.length
  let ⟨v,t,u⟩:=h5 i _ j _ (iZ n) (iZ k)
  refine⟨v,λd c f e=>?_⟩;rw[iZ n]at f;simp at f;subst f;rw[iZ k]at e;simp at e;subst e;exact⟨t,u.mono (λ_ _=>rfl) o⟩;refine⟨undef,λd c f e=>?_⟩
  simp_all
  simp_all
 let ⟨val,l⟩:=Ws m
 refine .sl es x.a x.cap sz (λi j=>val (i,j)) (by have:=a.len;have:=a.cap;omega) a.rows a.Yb (λ_=>⟨_,h1,p b ⟨_,h1,rfl,e⟩,λi j d c f k=>?_⟩) (λi j d c f k=>(l (i,j) d c f k).2);rw[og,cell?_of_block h3]
 simp_all
def AP(l:L D):D.pQ l=(l.map D.lby).sum:=by
 induction l with|nil=>rfl|cons a l b=>grind[D.pQ]
def J2{α:Type}{l:L α}{a:α}(h:l[i]?=Z a):l.set i a=l:=by
 apply OL
 grind
def ZQ(a:hl.length=es.length)(h:es[i]?=Z d):∃v,hl[i]?=Z v/\(lits nj es hl)[i]?=Z (jJ nj d v):=by
 have b:=cF h
 simp_all[lits]
theorem oJ{nj:Nat}{es:L D}{hl:L aD}(a:hl.length=es.length):(lits nj es hl).length=es.length:=by simp[lits];omega
def Bw(nj:Nat)(d:D)(b:L D)(a:O Addr)(n m:Nat):(Bx nj d b).s9=(jJ nj d (.slice a n m)).s9:=by show D.pQ _=D.pQ _;rw[AP,AP,GL,GL];rfl
def BK{j:Nat}{c a:O Addr}(f:d.cells[j]?=Z (.sl []))(p:dP I w (.sl [jJ j d (.slice c 0 0)]) (.slice a 1 1)):dP I w (.sl [d]) (.slice a 1 1):=by
 have b:=cF f;generalize t:(Value.slice a 1 1)=v at p;cases p with
 |sl es E cap sz val q l z F K=>
 cases t;have hl:(jJ j d (.slice c 0 0)).cells=d.cells.set j (.lit (.slice c 0 0)):=rfl;have m:∀(k:Nat)(x:D),d.cells[k]?=Z x->∃r,(jJ j d (.slice c 0 0)).cells[k]?=Z r/\∀u,dP I w r u->dP I w x u:=λk x e=>by
  by_cases A:k=j;subst A;rw[f]at e;cases e;refine⟨.lit (.slice c 0 0),by rw[hl,OP b],λu B=>?_⟩;cases B;exact .sl [] c 0 0 (λ_ _=>undef) (by simp) (by simp) (by simp) (λh=>absurd rfl h) (λi j d c h=>by simp at h)
  grind
 have s:d.s9=(jJ j d (.slice c 0 0)).s9:=by
  cases d with
  |agg g=>
   show D.pQ g=D.pQ (g.set j (.lit (.slice c 0 0)));rw[AP,AP,GL];have:(g.map D.lby)[j]?=Z 24:=by rw[lK];have n:g[j]?=Z (.sl []):=f;rw[n];rfl
   have o:(D.lit (Value.slice c 0 0)).lby=24:=rfl;rw[o,J2 this]
  |_=>
   have C:j=0:=by have:j<1:=b;omega
   subst C;cases f<;>rfl
 refine .sl [d] a 1 sz val (by simp) (λx e=>?_) (λx e=>?_) (λ_=>?_) (λi k x y h1 h2=>?_);rw[tR.1 e,<-l _ (tR.2 rfl),hl,Md]
 simp_all
 grind
 grind
def bg.Xo(hs:bg g s w)(ho:s.ob.get o=Z (.l8 nj sz es era m r Y))(hm:s.ob.get m=Z (.rws szr iY r))
  (hmN:m<bO) (hx:g.arr o era=Z x) (hfl:s.fl<=o) (SO:s.fl<=m) :
  ∃g',bg g' {s with ob:=(s.ob.set aP m .gone).set aP o (.lW sz (nk nj es iY) era)} w/\Ext s.fl g w g' w:=by
 have lV:o<bO:=iW (hs.lt' hx) hs.aH;have hom:o≠m:=by grind
 let ⟨ad8,_,hnx,h4⟩:=hs.CO ho hx
 let ⟨hl,K,q,hL⟩:=h4 rfl
 let R:Nat->Prop:=λb=>x.at b\/∃i y,g.arr m (rc r i)=Z y/\y.at b
 have B:∀b,R b->∃k,s.fl<=k/\(k=o\/k=m)/\bL g k b:=by
  rintro b (p|⟨i,y,hy,p⟩)
  have h1:=(q.at_ p).1
  let ⟨ad,k1,k2,k3⟩:=p
  exact⟨o,hfl,.inl rfl,λn=>Bool.noConfusion (h1.2 n),.inr ⟨era,x,ad,hx,k1,k2,k3⟩⟩
  let ⟨_,t,_,hr⟩:=(hs.qX hm hy).2.2 i rfl
  have h1:=(hr.at_ p).1
  let ⟨ad,k1,k2,k3⟩:=p
  exact⟨m,SO,.inr rfl,λn=>Bool.noConfusion (h1.2 n),.inr ⟨_,y,ad,hy,k1,k2,k3⟩⟩
 have afX:∀b,R b->¬g.bF b:=λb p=>let ⟨_,_,_,hO⟩:=B b p;hO.1;have C:∀k b,bL (g.lW R) k b->bL g k b/\¬R b:=λk b h=>⟨⟨λhi=>h.1 (.inl hi),h.2⟩,λhi=>h.1 (.inr hi)⟩;have he:Ext s.fl g w (g.lW R) w:=
  ⟨λ_ _ h=>h,λ_ _ _ h=>h,λ_ h=>.inl h,eP _,λ_ _ _=>rfl,λk b h=>.inl (C k b h).1,
   λb h=>h.imp id λh=>.inr (let ⟨k,h1,_,h3⟩:=B b h;⟨k,h1,h3⟩),rfl,rfl⟩
 have eu:∀k,((s.ob.set aP m .gone).set aP o (.lW sz (nk nj es iY) era)).get k=if k=o then Z (.lW sz (nk nj es iY) era)else if k=m then Z .gone else s.ob.get k:=λk=>by rw[Tr.aX _ _ _ _ lV,Tr.aX _ _ _ _ hmN]
 have asx:=hs.Bg ho rfl;have asy:=hs.Bg hm rfl;refine⟨g.lW R,⟨hs.aH,hs.aj,λk c P=>?_,λk j y hy=>?_,λb p=>?_,λk k' b h h'=>hs.kj k k' b (C k b h).1 (C k' b h').1⟩,he⟩;have hc':g.bX k=Z c:=P;have E:k≠o:=by grind
 have I:k≠m:=by grind
 have F:=hs.box k c P;refine F.ext he hs.bF rfl (by simp;rw[eu,bS E,bS I]) ?_
 rintro(n|z8)
 exact F.1 n
 let ⟨k',_,h1,h2⟩:=B c z8
 have:=hs.kj k k' c ⟨F.1,.inl P⟩ h2;omega;have u:g.arr k j=Z y:=hy;by_cases E:k=o;subst E
 let ⟨q1,q2,_,_⟩:=hs.CO ho u
 refine⟨(hs.arr k j y u).1,λob e=>?_⟩;simp at e;rw[eu,bH rfl]at e;obtain rfl:=ko e;refine .inl ⟨W,nk nj es iY,era,by rw[q1];rfl,q2,hnx,λhje=>?_⟩;subst hje;rw[hx]at u;cases u;rw[q1];have A:∀(i:Nat)(d:D),es[i]?=Z d->∃(t:L D)(l:fy),iY[i]?=Z t/\hl[i]?=Z (Value.slice l.a l.len l.cap)/\(lits nj es hl)[i]?=Z (jJ nj d (.slice l.a l.len l.cap))/\dP (g.lW R).bF w (.sl t) (.slice l.a l.len l.cap):=by
  intro i d hd
  let ⟨v,hv,a⟩:=ZQ (nj:=nj) K hd
  obtain⟨l,hyy,rfl⟩:=hL.2 i v hv (by simp)
  let ⟨_,t,hrs,hra⟩:=(hs.qX hm hyy).2.2 i rfl
  exact⟨t,l,hrs,hv,a,hra.Xy (λ_ h=>.inl h) (λb p=>.inr (.inr ⟨i,l,hyy,p⟩))⟩
 have SP:(nk nj es iY).length=es.length:=by
  rw[nk,List.length_zipWith];obtain h|h:=Nat.lt_or_ge iY.length es.length
  let ⟨t,_,hrs,_⟩:=A iY.length _ (iZ h)
  simp_all
  omega
 have z:∀(i:Nat)(f:D),(nk nj es iY)[i]?=Z f->∃d t,es[i]?=Z d/\iY[i]?=Z t/\f=Bx nj d t:=by
  grind[nk]
 refine⟨by rw[SP];have:=q.len;rw[oJ K]at this;exact this,q.cap,λf hf=>?_,q.pos,λf hf=>?_,λP=>?_⟩
 let ⟨i,hi⟩:=ON hf
 obtain⟨d,t,h1,h2,rfl⟩:=z i f hi
 let ⟨_,_,_,_,a,_⟩:=A i d h1
 have:=q.rows _ (iG a)
 grind[jJ,Bx,D.cells]
 let ⟨i,hi⟩:=ON hf
 obtain⟨d,t,h1,h2,rfl⟩:=z i f hi
 let ⟨_,l,_,_,a,_⟩:=A i d h1
 rw[Bw nj d t l.a l.len l.cap];have p:=q.Yb _ (iG a)
 grind[oJ]
 let ⟨b,vs,ty,k1,_,k3,k4,k5⟩:=q.mem P
 refine⟨b,vs,ty,k1,⟨λ_=>.inr (.inl ⟨_,k1,rfl,P⟩),λ_=>rfl⟩,k3,k4,λi f S c hf hjj=>?_⟩;obtain⟨d,t,h1,h2,rfl⟩:=z i f hf
 let ⟨rs',l,h2',hv,a,hdr⟩:=A i d h1
 rw[h2]at h2';cases h2';by_cases hjn:S=nj;subst hjn;have hlt:S<d.cells.length:=by grind[Bx,D.cells]
 let ⟨v,hv1,hv2⟩:=k5 i _ S (.lit (.slice l.a l.len l.cap)) a (by show(d.cells.set S _)[S]?=_;rw[OP hlt])
 cases hv2;have hce:c=.sl t:=by
  have hj2:(d.cells.set S (.sl t))[S]?=Z c:=hjj
  simp_all
 simp_all
 let ⟨v,hv1,hv2⟩:=k5 i _ S c a (by
  grind[jJ,Bx,D.cells])
 exact⟨v,hv1,hv2.ext he hs.bF⟩;by_cases I:k=m;subst I;refine⟨(hs.arr k j y u).1,λob e=>?_⟩;rw[eu,bS E,bH rfl]at e;obtain rfl:=ko e;exact .inr (.inr (.inr (.inl rfl)));have ahS:=hs.arr k j y u;refine ahS.ext he hs.bF (λc P hcap=>⟨rfl,⟨λh=>h.elim id λz8=>?_,.inl⟩⟩) (by simp;rw[eu,bS E,bS I]) rfl;by_cases n:g.bF c;exact n
 let ⟨k',_,h1,h2⟩:=B c z8
 have:=hs.kj k k' c ⟨n,.inr ⟨j,y,_,u,P,rfl,hcap⟩⟩ h2;omega;obtain p|p:=p
 exact hs.bF b p
 let ⟨k,_,_,h⟩:=B b p
 exact(hs.sq h).1
structure VV(g:Gh)(w:az)(n:Nat)(es:List D)(x:fy)(v:aD)(w':az)(x':fy):Prop where
 val:v=.slice x'.a x'.len x'.cap
 sz:x'.sz=n
 os:w'.os=w.os
 output:w'.output=w.output
 size:w.heap.size<=w'.heap.size
 heap:∀b,b<w.heap.size->¬x.at b->w'.heap[b]?=w.heap[b]?
 at_:∀b,x'.at b->b<w'.heap.size/\(w.heap.size<=b\/x.at b)
 ok:yc g w' J n es x'
noncomputable def Gh.o6(g:Gh)(m r i:Nat)(y:fy):Gh:=by
 classical
 exact{g with arr:=λk j=>if k=m then(if h:∃a,j=rc (r+1) a then(if h.choose=i then Z y else g.arr m (rc r h.choose))else g.arr m j)else g.arr k j}
theorem Gh.m6{g:Gh}{m r i:Nat}{y:fy}{k:Nat}(h:k≠m):(g.o6 m r i y).arr k=g.arr k:=by
 funext j
 simp[Gh.o6,h]
def Gh.qY(b:Nat):(g.o6 m r i y).arr m (rc (r+1) b)=if b=i then Z y else g.arr m (rc r b):=by have a:∃c,rc (r+1) b=rc (r+1) c:=⟨b,rfl⟩;have d:a.choose=b:=(sQ a.choose_spec).2.symm;simp[Gh.o6,kz,dif_pos a,d]
theorem Gh.zN{g:Gh}{m r i:Nat}{y:fy}{j:Nat}(h:∀a,j≠rc (r+1) a):(g.o6 m r i y).arr m j=g.arr m j:=by
 simp_all[Gh.o6]
def bg.aeW{w':az}(hs:bg g s w){F:fy}{v:aD}{t:L D}(ho:s.ob.get o=Z (.l8 nj sz es era m r Y))
  (hm:s.ob.get m=Z (.rws szr iY r)) (hoN:o<bO) (hy:g.arr m (rc r i)=Z y) (f:VV g w szr t y v w' F) (SO:s.fl<=m) :
  bg (g.o6 m r i F) {s with ob:=(s.ob.set aP m (.rws szr (iY.set i t) (r+1))).set aP o (.l8 nj sz es era m (r+1) (Z i))} w'/\Ext s.fl g w (g.o6 m r i F) w':=by
 have hmN:m<bO:=iW (hs.lt' hy) hs.aH;have hom:o≠m:=by grind
 let ⟨hnone,I,hrow⟩:=hs.qX hm hy
 let ⟨_,rs0,aeb,asl⟩:=hrow i rfl
 have hilt:=cF aeb;have P:∀b,y.at b->bL g m b:=λb a=>by
  have h1:=(asl.at_ a).1
  let ⟨u,k1,k2,R⟩:=a
  exact⟨λVa=>Bool.noConfusion (h1.2 Va),.inr ⟨_,y,u,hy,k1,k2,R⟩⟩
 have MM:∀k j z,g.arr k j=Z z->(g.o6 m r i F).arr k j=Z z:=λk j z h=>by
  grind[Gh.zN,Gh.m6]
 have d:∀k j z,(g.o6 m r i F).arr k j=Z z->(k=m/\j=rc (r+1) i/\z=F)\/(k=m/\∃l,l≠i/\j=rc (r+1) l/\g.arr m (rc r l)=Z z)\/((∀l,k=m->j≠rc (r+1) l)/\g.arr k j=Z z):=λk j z h=>by
  by_cases S:k=m;subst S;by_cases hj:∃l,j=rc (r+1) l;obtain⟨l,rfl⟩:=hj;rw[Gh.qY]at h
  grind
  grind[Gh.zN]
  grind[Gh.m6]
 have x:∀k b,bL (g.o6 m r i F) k b->bL g k b\/(k=m/\w.heap.size<=b):=by
  rintro k b ⟨h1,h2|⟨j,z,u,h2,h3,h4,h5⟩⟩
  exact .inl ⟨h1,.inl h2⟩;obtain⟨rfl,_,rfl⟩|⟨rfl,l,_,_,h⟩|⟨_,h⟩:=d k j z h2
  obtain h|h:=(f.at_ b ⟨u,h3,h4,h5⟩).2
  omega
  simp_all
  exact .inl ⟨h1,.inr ⟨_,z,u,h,h3,h4,h5⟩⟩;exact .inl ⟨h1,.inr ⟨j,z,u,h,h3,h4,h5⟩⟩
 have he:Ext s.fl g w (g.o6 m r i F) w':=
  ⟨λ_ _ h=>h,MM,λ_ h=>h,f.size,λb a hn=>f.heap b a λn=>hn m SO (P b n),λk b h=>(x k b h).imp id (·.2),λ_ h=>.inl h,f.os,f.output⟩
 have eu:∀k,((s.ob.set aP m (.rws szr (iY.set i t) (r+1))).set aP o (.l8 nj sz es era m (r+1) (Z i))).get k=if k=o then Z (.l8 nj sz es era m (r+1) (Z i))else if k=m then Z (.rws szr (iY.set i t) (r+1))else s.ob.get k:=λk=>by rw[Tr.aX _ _ _ _ hoN,Tr.aX _ _ _ _ hmN]
 have asx:=hs.Bg ho rfl;have asy:=hs.Bg hm rfl;have A:∀k j z,g.arr k j=Z z->k≠m->∀b,z.a=Z ⟨b,0,Y⟩->z.cap≠0->w'.heap[b]?=w.heap[b]?:=λk j z E S b a p=>by refine f.heap b ((hs.arr k j z E).1 _ a p) λn=>?_;have hO:=P b n;exact S (hs.kj k m b ⟨hO.1,.inr ⟨j,z,_,E,a,rfl,p⟩⟩ hO)
 refine⟨⟨hs.aH,λk S=>⟨(hs.aj k S).1,λj=>?_⟩,λk b a=>?_,λk j z E=>?_,λb a=>iW (hs.bF b a) f.size,λk k' b h h'=>?_⟩,he⟩;rw[Gh.m6 (by rintro rfl;have:=hs.lt' hy;grind)];exact(hs.aj k S).2 j;have hb':g.bX k=Z b:=a;have K:k≠o:=by grind
 have c:k≠m:=by grind
 have q:=hs.box k b hb';exact q.ext he hs.bF (f.heap b q.2.1 λn=>c (hs.kj k m b ⟨q.1,.inl hb'⟩ (P b n))) (by simp;rw[eu,bS K,bS c]) q.1;by_cases c:k=m;subst c;refine⟨λu ha p=>?_,λob B=>?_⟩;obtain⟨_,_,rfl⟩|⟨_,l,_,_,h⟩|⟨_,h⟩:=d k j z E
 exact(f.at_ _ ⟨u,ha,rfl,p⟩).1;exact iW ((hs.arr k _ z h).1 u ha p) f.size;exact iW ((hs.arr k _ z h).1 u ha p) f.size;rw[eu,bS (λe=>hom e.symm),bH rfl]at B;obtain rfl:=ko B;refine .inr (.inr (.inl ⟨szr,iY.set i t,r+1,rfl,λr' l hr'=>?_,λi1 i2 y1 y2 hne h1 h2 b AF qq=>?_,λl hj=>?_⟩))
 grind[Gh.zN,sQ]
 rw[Gh.qY]at h1 h2;have mix:∀i3 y3,i3≠i->g.arr k (rc r i3)=Z y3->∀b,F.at b->¬y3.at b:=λi3 y3 hn h3 b a SV=>by
  obtain h|h:=(f.at_ b a).2
  let ⟨u,k1,k2,R⟩:=SV
  have:=(hs.arr k _ y3 h3).1 u k1 R;omega
  grind
 grind
 subst hj;rw[Gh.qY]at E;split at E;rename_i e1;subst e1;cases E;exact⟨f.sz,t,by rw[OP hilt],f.ok.kJ rfl⟩;rename_i e1
 let ⟨q1,rs,q2,q3⟩:=(hs.qX hm E).2.2 l rfl
 refine⟨q1,rs,by grind,q3.ext he hs.bF (λb a p=>⟨?_,wu⟩)⟩;exact f.heap b ((hs.arr k _ z E).1 _ a p) (λn=>I i l y z (λe=>e1 e.symm) hy E b n ⟨_,a,rfl,p⟩);have C:g.arr k j=Z z:=by grind
 by_cases K:k=o;subst K
 let ⟨q1,q2,q3,q4⟩:=hs.CO ho C
 refine⟨λu ha p=>iW ((hs.arr k j z C).1 u ha p) f.size,λob B=>?_⟩;rw[eu,bH rfl]at B;obtain rfl:=ko B;refine .inr (.inl ⟨nj,es,era,m,r+1,Z i,by rw[q1],q2,λe' h=>by rw[Gh.m6 c];exact q3 e' h,λhje=>?_⟩)
 let ⟨hl,k1,k2,R⟩:=q4 hje
 refine⟨hl,k1,q1▸(k2.ext he hs.bF (λb a p=>⟨A k j z C c b a p,wu⟩)),R.1,λl h hh hne=>?_⟩
 let ⟨yy,h1,h2⟩:=R.2 l h hh (by simp)
 exact⟨yy,by rw[Gh.qY,bS (λe=>hne (by rw[e]))];exact h1,h2⟩;exact(hs.arr k j z C).ext he hs.bF (λb a p=>⟨A k j z C c b a p,wu⟩) (by simp;rw[eu,bS K,bS c]) (Gh.m6 c);obtain h1|⟨h1,h3⟩:=x k b h<;>obtain h2|⟨h2,h4⟩:=x k' b h'
 exact hs.kj k k' b h1 h2;have:=(hs.sq h1).1;omega;have:=(hs.sq h2).1;omega;rw[h1,h2]
noncomputable def Gh.iy(g:Gh)(m:Nat)(ys:L fy):Gh:=by
 classical
 exact{g with arr:=λk j=>if k=m then(if h:∃i,j=rc 0 i then ys[h.choose]? else Y)else g.arr k j}
theorem Gh.jW{g:Gh}{m:Nat}{ys:L fy}{k:Nat}(h:k≠m):(g.iy m ys).arr k=g.arr k:=by
 funext j
 simp[Gh.iy,h]
theorem Gh.xO{g:Gh}{m:Nat}{ys:L fy}(i:Nat):(g.iy m ys).arr m (rc 0 i)=ys[i]?:=by have a:∃b,rc 0 i=rc 0 b:=⟨i,rfl⟩;have c:a.choose=i:=(sQ a.choose_spec).2.symm;simp[Gh.iy,kz,dif_pos a,c]
theorem Gh.vM{g:Gh}{m:Nat}{ys:L fy}{j:Nat}{z:fy}(h:(g.iy m ys).arr m j=Z z):∃i,j=rc 0 i/\ys[i]?=Z z:=by by_cases a:∃i,j=rc 0 i;obtain⟨i,rfl⟩:=a;rw[Gh.xO]at h;exact⟨i,rfl,h⟩;simp only[Gh.iy,kz,dif_neg a]at h;cases h
def bg.aiR(hs:bg g s w)(hn:s.aH<bO){ys:L fy}(F:∀y∈ys,∀b,y.at b->b<w.heap.size/\∀o,¬bL g o b)
  (n:∀(i:Nat)(y:fy),ys[i]?=Z y->y.sz=sz/\∃f,iY[i]?=Z f/\yc g w J sz f y) (I:ys.Pairwise λx y=>∀b,x.at b->¬y.at b) :
  bg (g.iy s.aH ys) (ew s (.rws sz iY 0)).2 w/\(∀k j y,g.arr k j=Z y->(g.iy s.aH ys).arr k j=Z y)/\(∀k b,bL (g.iy s.aH ys) k b->bL g k b\/(k=s.aH/\∃y∈ys,y.at b)):=by
 have p:=hs.aj s.aH (eP _);have c:∀k j y,g.arr k j=Z y->(g.iy s.aH ys).arr k j=Z y:=λk j y h=>by
  rw[Gh.jW];exact h
  grind
 have d:∀k b,bL (g.iy s.aH ys) k b->bL g k b\/(k=s.aH/\∃y∈ys,y.at b):=by
  rintro k b ⟨h1,h2|⟨j,y,l,h2,h3⟩⟩
  exact .inl ⟨h1,.inl h2⟩;by_cases e:k=s.aH;subst e
  let ⟨i,_,m⟩:=Gh.vM h2
  exact .inr ⟨rfl,y,iG m,l,h3⟩;rw[Gh.jW e]at h2;exact .inl ⟨h1,.inr ⟨j,y,l,h2,h3⟩⟩
 have eu:∀k,(ew s (.rws sz iY 0)).2.ob.get k=if k=s.aH then Z (.rws sz iY 0)else s.ob.get k:=λk=>by simp[ew];rw[Tr.aX _ _ _ _ hn]
 refine⟨⟨by simp only[ew];omega,λk e=>?_,λk b K=>?_,λk j y P=>?_,hs.bF,λk C b h R=>?_⟩,c,d⟩;simp only[ew]at e;refine⟨(hs.aj k (by omega)).1,λj=>?_⟩;rw[Gh.jW (by omega)];exact(hs.aj k (by omega)).2 j;have q:g.bX k=Z b:=K;have r:k≠s.aH:=λh=>by simp_all
 let ⟨u,A,S⟩:=hs.box k b q
 refine⟨u,A,λob a=>?_⟩;rw[eu,bS r]at a
 let ⟨x,h1,h2⟩:=S ob a
 refine⟨x,h1,?_⟩;exact h2.imp (λt v ht=>ht.atj c rfl rfl);by_cases e:k=s.aH;subst e;obtain⟨i,rfl,m⟩:=Gh.vM P;refine⟨λl ha hc=>(F y (iG m) _ ⟨l,ha,rfl,hc⟩).1,λob a=>?_⟩;rw[eu,bH rfl]at a;obtain rfl:=ko a;refine .inr (.inr (.inl ⟨sz,iY,0,rfl,λr' E hr'=>?_,λi1 i2 y1 y2 hne h1 h2 b AF qq=>?_,λE hj=>?_⟩))
 .cases h:(g.iy s.aH ys).arr s.aH (rc r' E)with
  |none=>rfl|some z=>
   grind[Gh.vM,sQ]
 grind[Gh.xO,List.pairwise_iff_getElem]
 have:=(sQ hj).2;subst this
 let ⟨q1,f,q2,q3⟩:=n i y m
 exact⟨q1,f,q2,q3.kJ rfl⟩;have B:g.arr k j=Z y:=by grind[Gh.jW]
 let ⟨u,A⟩:=hs.arr k j y B
 refine⟨u,λob a=>?_⟩;rw[eu,bS e]at a;exact(A ob a).tr (λh=>h.kJ rfl) c (Gh.jW e) (λ_ _ _=>⟨rfl,wu⟩);obtain h1|⟨h1,y1,m1,a1⟩:=d k b h<;>obtain h2|⟨h2,y2,m2,a2⟩:=d C b R
 exact hs.kj k C b h1 h2
 grind
 grind
 rw[h1,h2]
end
section
variable {g:Gh}{s:St}{w:az}{o:Nat}
def bg.LR(hs:bg g s w){e sz:Nat}{es:L D}{x:fy}(c:s.ob.get o=Z (.lW sz es e))(d:g.arr o e=Z x) :
  dP g.bF w (.sl es) (.slice x.a x.len x.cap):=by
 let ⟨a,_⟩:=hs.oc (fz:=W) c d
 exact a.Xy (λ_ h=>h) (λb f=>(a.at_ f).1.1 rfl)
def Live(g:Gh)(s:St)(o:Nat):Prop:=o<bO/\((∃e x,g.arr o e=Z x/\((∃fz sz es,s.ob.get o=Z (gz fz sz es e))\/∃nj sz es m r hole,s.ob.get o=Z (.l8 nj sz es e m r hole)))\/(∃sz iY r,s.ob.get o=Z (.rws sz iY r))\/s.ob.get o=Z .gone)
def Live.oM{g:Gh}{s:St}{o:Nat}{ob:Ob}(h:Live g s o)(a:s.ob.get o=Z ob):ob.oM=W:=by
 obtain⟨_,_,_,⟨b,_,_,h⟩|⟨_,_,_,_,_,_,h⟩⟩|⟨_,_,_,h⟩|h:=h.2
 rw[a]at h;cases h;cases b<;>rfl;rw[a]at h;cases h;rfl;rw[a]at h;cases h;rfl;rw[a]at h;cases h;rfl
structure jM(s s':St)(os:List Nat):Prop where
 fl:s'.fl=s.fl
 aH:s'.aH=s.aH
 hit:∀o∈os,∀fz sz es e,s.ob.get o=Z (gz fz sz es e)->s'.ob.get o=Z (.lW sz es e)
 lW:∀o sz es e,s.ob.get o=Z (.lW sz es e)->s'.ob.get o=Z (.lW sz es e)
 l8:∀o∈os,∀nj sz es e m r iY,s.ob.get o=Z (.l8 nj sz es e m r Y)->Jr s m r=Z iY->s'.ob.get o=Z (.lW sz (nk nj es iY) e)
theorem jM.sub{s s':St}{os a:L Nat}(h:jM s s' os)(hs:∀o∈a,o∈os):jM s s' a:=
 ⟨h.fl,h.aH,λo b=>h.hit o (hs o b),h.lW,λo b=>h.l8 o (hs o b)⟩
def qF{m r:Nat}{iY:L (L D)}(h:Jr s m r=Z iY):∃sz,s.ob.get m=Z (.rws sz iY r):=by
 unfold Jr at h;split at h;obtain⟨a,h⟩|⟨_,h⟩:=ah h
 simp_all
 cases h;cases h
def xj{s':St}{os:L Nat}(h:freeze s (o::os)=Z s'):s.fl<=o/\
  ((∃sz es e,s.ob.get o=Z (.arr sz es e)/\freeze {s with ob:=s.ob.set aP o (.lW sz es e)} os=Z s')\/
   (∃sz es e,s.ob.get o=Z (.lW sz es e)/\freeze s os=Z s')\/
   (((∃sz iY r,s.ob.get o=Z (.rws sz iY r))\/s.ob.get o=Z .gone)/\freeze s os=Z s')\/
   (∃nj sz es e m r iY b,s.ob.get o=Z (.l8 nj sz es e m r Y)/\s.ob.get m=Z (.rws b iY r)/\Jr s m r=Z iY/\(m∈os/\s.fl<=m)/\m<bO/\freeze {s with ob:=(s.ob.set aP m .gone).set aP o (.lW sz (nk nj es iY) e)} os=Z s')):=by
 obtain⟨d,h⟩|⟨_,h⟩:=ah h
 refine⟨gY d,?_⟩;split at h
 grind
 simp_all
 rename_i nj sz es e m r f;split at h;rename_i iY c;obtain⟨a,h⟩|⟨_,h⟩:=ah h
 rw[eX]at a
 let ⟨b,g⟩:=qF c
 rw[eX]at a;exact .inr (.inr (.inr ⟨nj,sz,es,e,m,r,iY,b,f,g,c,⟨by grind,gY a.2.1⟩,gY a.2.2,h⟩));cases h;cases h
 simp_all
 simp_all
 cases h;cases h
def oS:∀{os:L Nat}{s s':St}{m:Nat},freeze s os=Z s'->s.ob.get m=Z .gone->(∀o∈os,o<bO)->∀o∈os,∀nj sz es e r hole,s.ob.get o≠Z (.l8 nj sz es e m r hole)
 |[],_,_,_,_,_,_,o,j,_,_,_,_,_,_=>by cases j
 |b::os,s,s',m,h,q,l,o,j,nj,sz,es,e,r,hole=>λu=>by
  obtain⟨_,h1|h1|h1|h1⟩:=xj h
  let ⟨d,f,t,g,h2⟩:=h1
  have i:m≠b:=by grind
  have a:o≠b:=by grind
  have eu:∀k,k≠b->({s with ob:=s.ob.set aP b (.lW d f t)}:St).ob.get k=s.ob.get k:=λk c=>by show(s.ob.set aP b _).get k=_;rw[Tr.aX _ _ _ _ (l b (by simp)),bS c]
  exact oS h2 (by rw[eu m i];exact q) (λk c=>l k (by simp[c])) o ((gn.1 j).resolve_left a) nj sz es e r hole (by simp_all)
  let ⟨d,f,t,g,h2⟩:=h1
  have a:o≠b:=by grind
  exact oS h2 q (λk c=>l k (by simp[c])) o ((gn.1 j).resolve_left a) nj sz es e r hole u
  let ⟨g,h2⟩:=h1
  have a:o≠b:=by
   rintro rfl
   obtain⟨_,_,_,h⟩|h:=g<;>(rw[u]at h;cases h)
  exact oS h2 q (λk c=>l k (by simp[c])) o ((gn.1 j).resolve_left a) nj sz es e r hole u
  let ⟨v,d,f,t,n,C,p,z,g,B,_,_,w,h2⟩:=h1
  have x:m≠n:=by grind
  have i:m≠b:=by grind
  by_cases a:o=b
  simp_all
  have A:o≠n:=by grind
  have eu:∀k,k≠b->k≠n->({s with ob:=(s.ob.set aP n .gone).set aP b (.lW d (nk v f p) t)}:St).ob.get k=s.ob.get k:=λk c y=>by show((s.ob.set aP n _).set aP b _).get k=_;rw[Tr.aX _ _ _ _ (l b (by simp)),bS c,Tr.aX _ _ _ _ w,bS y]
  exact oS h2 (by rw[eu m i x];exact q) (λk c=>l k (by simp[c])) o ((gn.1 j).resolve_left a) nj sz es e r hole (by simp_all)
def eK(os:L Nat):∀{g:Gh}{s s':St}{w:az},bg g s w->freeze s os=Z s'->(∀o∈os,Live g s o)->
  ∃g',bg g' s' w/\Ext s.fl g w g' w/\jM s s' os:=by
 induction os with
 |nil=>intro g s s' w I h _;simp[freeze]at h;subst h;exact⟨g,I,Ext.refl _ _ _,⟨rfl,rfl,λo j=>(by cases j),λ_ _ _ _ h=>h,λo j=>(by cases j)⟩⟩
 |cons o os ih=>
  intro g s s' w I h A;have hN:∀k∈o::os,k<bO:=λk f=>(A k f).1;have y:=hN o (by simp);obtain⟨K,h1|h1|h1|h1⟩:=xj h;obtain⟨sz,t,e0,j,h⟩:=h1;obtain⟨x,B⟩:∃x,g.arr o e0=Z x:=by
   obtain⟨e,x,B,⟨q,_,_,h⟩|⟨_,_,_,_,_,_,h⟩⟩|⟨_,_,_,h⟩|h:=(A o (by simp)).2
   grind[gz,Option.some.inj,lB]
   simp_all
   simp_all
   simp_all
  obtain⟨C,u⟩:=I.aeA j B K;have eu:∀k,({s with ob:=s.ob.set aP o (.lW sz t e0)}:St).ob.get k=if k=o then Z (.lW sz t e0)else s.ob.get k:=λk=>Tr.aX _ _ _ _ y
  obtain⟨g',n,p,a⟩:=ih C h (λk f=>by
   by_cases b:k=o;subst b;exact⟨y,.inl ⟨e0,x,B,.inl ⟨W,sz,t,by rw[eu,bH rfl];rfl⟩⟩⟩;have:=A k (by simp[f]);unfold Live at this ⊢;rw[eu,bS b];exact this)
  refine⟨g',n,u.trans p,⟨a.fl,a.aH,λk f q c d i h1=>?_,λk c d i h1=>?_,λk f z c d i m r l h1 h2=>?_⟩⟩;by_cases b:k=o;subst b;rw[j]at h1;have E:gz J sz t e0=_:=ko h1;obtain⟨_,rfl,rfl,rfl⟩:=lB E;exact a.lW k sz t e0 (by rw[eu,bH rfl]);exact a.hit k ((gn.1 f).resolve_left b) q c d i (by simp_all);have b:k≠o:=by
   grind
  exact a.lW k c d i (by simp_all);have b:k≠o:=by grind
  obtain⟨szr,hm⟩:=qF h2;have P:m≠o:=by grind
  exact a.l8 k ((gn.1 f).resolve_left b) z c d i m r l (by simp_all) (by simp_all[Jr,bS]);obtain⟨sz,t,e,j,h⟩:=h1;obtain⟨g',n,p,a⟩:=ih I h (λk f=>A k (by simp[f]));refine⟨g',n,p,⟨a.fl,a.aH,λk f q c d i h1=>?_,a.lW,λk f z c d i m r l h1 h2=>?_⟩⟩;obtain rfl|f:=gn.1 f
  rw[j]at h1;have E:gz W sz t e=_:=ko h1;obtain⟨_,rfl,rfl,rfl⟩:=lB E;exact a.lW k sz t e j;exact a.hit k f q c d i h1;have b:k≠o:=by grind
  exact a.l8 k ((gn.1 f).resolve_left b) z c d i m r l h1 h2;obtain⟨j,h⟩:=h1;obtain⟨g',n,p,a⟩:=ih I h (λk f=>A k (by simp[f]));refine⟨g',n,p,⟨a.fl,a.aH,λk f q c d i h1=>?_,a.lW,λk f z c d i m r l h1 h2=>?_⟩⟩;have b:k≠o:=by rintro rfl;obtain⟨_,_,_,h⟩|h:=j<;>(rw[h1]at h;cases q<;>cases h)
  exact a.hit k ((gn.1 f).resolve_left b) q c d i h1;have b:k≠o:=by rintro rfl;obtain⟨_,_,_,h⟩|h:=j<;>(rw[h1]at h;cases h)
  exact a.l8 k ((gn.1 f).resolve_left b) z c d i m r l h1 h2;obtain⟨z,sz,t,e0,m,r,l,szr,j,hm,hr,⟨_,R⟩,F,h⟩:=h1;obtain⟨x,B⟩:∃x,g.arr o e0=Z x:=by
   obtain⟨e,x,B,⟨q,_,_,h⟩|⟨_,_,_,_,_,_,h⟩⟩|⟨_,_,_,h⟩|h:=(A o (by simp)).2
   rw[j]at h;cases q<;>cases h
   simp_all
   simp_all
   simp_all
  obtain⟨g1,C,u⟩:=I.Xo j hm F B K R;have hom:o≠m:=by grind
  have eu:∀k,({s with ob:=(s.ob.set aP m .gone).set aP o (.lW sz (nk z t l) e0)}:St).ob.get k=if k=o then Z (.lW sz (nk z t l) e0)else if k=m then Z .gone else s.ob.get k:=λk=>by show((s.ob.set aP m _).set aP o _).get k=_;rw[Tr.aX _ _ _ _ y,Tr.aX _ _ _ _ F]
  obtain⟨g',n,p,a⟩:=ih C h (λk f=>by
   by_cases b:k=o;subst b;exact⟨y,.inl ⟨e0,x,u.arr _ _ _ B,.inl ⟨W,sz,_,by rw[eu,bH rfl];rfl⟩⟩⟩;by_cases v:k=m;subst v;exact⟨F,.inr (.inr (by rw[eu,bS b,bH rfl]))⟩;obtain⟨h0,h1⟩:=A k (by simp[f]);refine⟨h0,?_⟩;rw[eu,bS b,bS v];exact h1.imp (λ⟨i,x',h1,h2⟩=>⟨i,x',u.arr _ _ _ h1,h2⟩) id)
  refine⟨g',n,u.trans p,⟨a.fl,a.aH,λk f q c d i h1=>?_,λk c d i h1=>?_,λk f S c d i m' r' apn h1 h2=>?_⟩⟩;have b:k≠o:=by rintro rfl;rw[j]at h1;cases q<;>cases h1
  have v:k≠m:=by rintro rfl;rw[hm]at h1;cases q<;>cases h1
  exact a.hit k ((gn.1 f).resolve_left b) q c d i (by simp_all);have b:k≠o:=by grind
  have v:k≠m:=by grind
  exact a.lW k c d i (by simp_all);by_cases b:k=o;subst b;rw[j]at h1;cases h1;rw[hr]at h2;cases h2;exact a.lW k _ _ _ (by rw[eu,bH rfl]);have hk':=(gn.1 f).resolve_left b;obtain⟨szr',hm'⟩:=qF h2;have v:k≠m:=by grind
  have P:m'≠o:=by grind
  have hmm:m'≠m:=by
   rintro rfl
   exact oS h (m:=m') (by rw[eu,bS P,bH rfl]) (λk f=>hN k (by simp[f])) k hk' S c d i r' Y (by simp_all)
  exact a.l8 k hk' S c d i m' r' apn (by simp_all) (by simp_all[Jr,bS])
mutual
def mH{g:Gh}{s:St}{w:az}(hs:bg g s w):∀(t:T){v:aD}{p:Prop}{d:D}{os:L Nat},Ct s t=Z (p,d,os)->p->aL g w t v->
  (∀o∈os,Live g s o)/\∀(g':Gh)(s':St),bg g' s' w->Ext s.fl g w g' w->jM s s' os->dP g'.bF w d v
 |.sym d,v,p,K,os,h,B,f=>by obtain⟨_,rfl,rfl⟩:=h;cases f with|sym _ _ y=>exact⟨λo l=>(by cases l),λg' s' _ A _=>y.ext A hs.bF⟩
 |.kb b,v,p,K,os,h,B,f=>by obtain⟨_,rfl,rfl⟩:=h;cases f;exact⟨λo l=>(by cases l),λg' s' _ A _=>.lit _⟩
 |.kn k n,v,p,K,os,h,B,f=>by obtain⟨_,rfl,rfl⟩:=h;cases f;exact⟨λo l=>(by cases l),λg' s' _ A _=>.lit _⟩
 |.emp,v,p,K,os,h,B,f=>by obtain⟨_,rfl,rfl⟩:=h;cases f with|emp a=>exact⟨λo l=>(by cases l),λg' s' _ A _=>.sl [] a 0 0 (λ_ _=>undef) (by simp) (by simp) (by simp) (λh=>absurd rfl h) (λi j d c h=>by simp at h)⟩
 |.kR n P,v,p,K,os,h,B,f=>by obtain⟨_,rfl,rfl⟩:=h;cases f with|kR _ _ a hn y=>exact⟨λo l=>(by cases l),λg' s' _ A _=>y.ext A hs.bF⟩
 |.qx j d,v,p,K,os,h,B,f=>by obtain⟨_,rfl,rfl⟩:=h;cases f with|qx _ _ c a hj y=>exact⟨λo l=>(by cases l),λg' s' _ A _=>(BK hj y).ext A hs.bF⟩
 |.sV _ _ _ _,_,_,_,_,h,_,_=>by simp[Ct]at h
 |.sh o e,v,p,K,os,h,B,f=>by
  cases f with
  |sh _ _ len cap sz a R=>
  simp[Ct]at h;split at h;rename_i z P era l;obtain⟨I,C⟩|⟨_,C⟩:=ah h
  have E:=beq_iff'.1 I;obtain⟨_,rfl,rfl⟩:=C;clear h I;subst E;refine⟨λk S=>?_,λg' s' F A hf=>?_⟩;simp at S;subst S;exact⟨iW (hs.lt' R) hs.aH,.inl ⟨e,_,R,.inl ⟨J,z,P,l⟩⟩⟩;exact F.LR (hf.hit o (by simp) J z P e l) (A.arr _ _ _ R);cases C;rename_i z P era l;obtain⟨I,C⟩|⟨_,C⟩:=ah h
  have E:=beq_iff'.1 I;obtain⟨_,rfl,rfl⟩:=C;clear h I;subst E;exact⟨λk S=>(by cases S),λg' s' F A hf=>F.LR (hf.lW o z P e l) (A.arr _ _ _ R)⟩;cases C;rename_i nj z P era m r l;split at h;rename_i iY hr;obtain⟨I,C⟩|⟨_,C⟩:=ah h
  rw[eX]at I;have E:=beq_iff'.1 I.1;have hmN:m<bO:=gY I.2;obtain⟨_,rfl,rfl⟩:=C;clear h I;subst E;refine⟨λk S=>?_,λg' s' F A hf=>?_⟩;simp at S;obtain rfl|rfl:=S
  exact⟨iW (hs.lt' R) hs.aH,.inl ⟨e,_,R,.inr ⟨nj,z,P,m,r,Y,l⟩⟩⟩
  let ⟨szr,hm⟩:=qF hr
  exact⟨hmN,.inr (.inl ⟨szr,iY,r,hm⟩)⟩;exact F.LR (hf.l8 o (by simp) nj z P e m r iY l hr) (A.arr _ _ _ R);cases C;cases h;cases h
 |.dn t x,v,p,K,os,h,B,f=>by
  cases f with
  |dn _ _ u hu=>
  simp[Ct]at h;split at h;rename_i q d os' y;obtain⟨rfl,rfl,rfl⟩:=h
  let ⟨h1,h2⟩:=mH hs x y B hu
  exact⟨h1,λg' s' a b c=>.dn _ _ _ (h2 g' s' a b c)⟩;cases h
 |.agg cs,v,p,K,os,h,B,f=>by
  cases f with
  |agg _ vs hl hr=>
  simp only[Ct]at h;split at h;rename_i q ds os' y;obtain⟨rfl,rfl,rfl⟩:=h
  let ⟨h0,h1,h2⟩:=qU hs cs (vs:=vs.toList) y B.1 (by simpa using hl) (λj t v f hv=>hr j t v f (by simpa using hv))
  refine⟨h1,λg' s' a b c=>.agg _ _ (by rw[h0,hl]) (λd y=>by simp_all) (λj d v y hv=>h2 g' s' a b c j d v y (by simpa using hv))⟩;cases h
 |.gX cs,v,p,K,os,h,B,f=>by
  cases f with
  |gX _ vs hl hr=>
  simp[Ct]at h;split at h;rename_i y;obtain⟨rfl,rfl,rfl⟩:=h
  let ⟨h0,h1,h2⟩:=qU hs cs (vs:=vs.toList) y B (by simpa using hl) (λj t v f hv=>hr j t v f (by simpa using hv))
  exact⟨h1,λg' s' a b c=>.gX _ _ (by rw[h0,hl]) (λj d v y hv=>h2 g' s' a b c j d v y (by simpa using hv))⟩;cases h
 |.ptr _ _,_,_,_,_,h,_,_=>by simp[Ct]at h
 |.mD _ _,_,_,_,_,h,_,_=>by simp[Ct]at h
 |.mC _ _ _ _,_,_,_,_,h,_,_=>by simp[Ct]at h
 |.fn _ _ _,_,_,_,_,h,_,_=>by simp[Ct]at h
 |.gd _ _,_,_,_,_,h,_,_=>by simp[Ct]at h
def qU{g:Gh}{s:St}{w:az}(hs:bg g s w):∀(ts:L T){vs:L aD}{p:Prop}{ds:L D}{os:L Nat},oF s ts=Z (p,ds,os)->p->ts.length=vs.length->
  (∀(j:Nat)(t:T)(v:aD),ts[j]?=Z t->vs[j]?=Z v->aL g w t v)->
  ds.length=ts.length/\(∀o∈os,Live g s o)/\∀(g':Gh)(s':St),bg g' s' w->Ext s.fl g w g' w->jM s s' os->
   ∀(j:Nat)(d:D)(v:aD),ds[j]?=Z d->vs[j]?=Z v->dP g'.bF w d v
 |[],vs,p,ds,os,h,e,c,f=>by obtain⟨_,rfl,rfl⟩:=h;exact⟨rfl,λo ho=>(by cases ho),λg' s' _ _ _ j d v a=>by simp at a⟩
 |t::ts,vs,p,ds,os,h,e,c,f=>by
  simp[oF]at h;split at h
  .rename_i d i B l k h1 h2;simp only[gV,fH]at h;obtain⟨rfl,rfl,rfl⟩:=h
   match vs,c with
   |v::vs,c=>
    let ⟨a1,a2⟩:=mH hs t h1 e.1 (f 0 t v rfl rfl)
    let ⟨m,n,q⟩:=qU hs ts (vs:=vs) h2 e.2 (by simpa using c) (λj t v r b=>f (j+1) t v (by simpa using r) (by simpa using b))
    refine⟨by simp[m],λo ho=>?_,λg' s' x y z j d v a b=>?_⟩;obtain ho|ho:=fc.1 ho
    exact a1 o ho;exact n o ho;have u:jM s s' i:=z.sub (λo ho=>gf _ ho);have A:jM s s' k:=z.sub (λo ho=>e9 _ ho);cases j with|zero=>simp at a b;subst a;subst b;exact a2 g' s' x y u|succ j=>exact q g' s' x y A j d v (by simpa using a) (by simpa using b)
  cases h
end
end
section
def PW{α β:Type}(R:α->β->Prop)(l:L α)(m:L β):Prop:=l.length=m.length/\∀(j:Nat)(a:α)(b:β),l[j]?=Z a->m[j]?=Z b->R a b
section
variable {α β:Type}{R:α->β->Prop}
def PW.append{l e:L α}{m f:L β}(h:PW R l m)(g:PW R e f):PW R (l++e) (m++f):=by refine⟨by simp[h.1,g.1],λj a b d c=>?_⟩;rw[tS]at d c;rw[<-h.1]at c;by_cases i:j<l.length;rw[bH i]at d c;exact h.2 j a b d c;rw[bS i]at d c;exact g.2 _ a b d c
def PW.take{l:L α}{m:L β}(h:PW R l m)(n:Nat):PW R (l.take n) (m.take n):=by
 refine⟨by simp[h.1],λj a b c d=>?_⟩;rw[Ke]at c d;by_cases e:j<n;rw[bH e]at c d;exact h.2 j a b c d
 simp_all
theorem PW.drop{l:L α}{m:L β}(h:PW R l m)(n:Nat):PW R (l.drop n) (m.drop n):=by refine⟨by simp[h.1],λj a b c d=>?_⟩;rw[OM]at c d;exact h.2 _ a b c d
end
def Sy{l:L T}(h:leaves l):∀t∈l,t.leaf:=by
 induction l with
 |nil=>simp_all|cons a l c=>
  intro t b;obtain rfl|b:=gn.1 b
  exact h.1;exact c h.2 t b
variable {g:Gh}{w:az}{P:cV}{i:TI}
def PW.one{l:L T}{vs:L aD}(h:PW (aL g w) l vs)(hl:leaves l):∀v∈vs,v.oneCell'=W:=by
 intro v c;obtain⟨j,b,rfl⟩:=sd c;have a:j<l.length:=by rw[h.1];exact b
 exact(V3 (Sy hl _ (Oz a)) (h.2 j _ _ (iZ a) (iZ b))).1
def y8{t:TypeId}{x:TypeInfo}(hi:P.info? t=Z x)(w:az)(b off:Nat)(v:aD)(a:v.cells.size=x.size){vs:Array aD}{ty:TypeId}
  (c:w.heap[b]?=Z (.cells vs ty (0,0))) (hl:off+v.cells.size<=vs.size) (h1:∀u∈v.cells.toList,u.oneCell'=W) :
  (storeVar t ⟨b,off,Y⟩ v).run P w=.ok () (w.setRow b (vs.toList.take off++v.cells.toList++vs.toList.drop (off+v.cells.size)).toArray):=by
 have:=run_storeCells_at (P:=P) b off ty v.cells.toList 0 vs w c (by simpa using hl) h1
 simp_all[storeVar,dD]
def qM{t:T}{v:aD}{p:Prop}{cs:L T}(h:kN i t=Z (p,cs))(c:p)(d:aL g w t v) :
  PW (aL g w) cs v.cells.toList/\cs.length=i.size:=by
 let ⟨h1,h2,h3,_⟩:=nt h c d
 exact⟨⟨by simp[h1,h2],λj a b e f=>h3 j a b e (by simpa using f)⟩,h1⟩
def D.QI{ds:L D}(h:ds.all D.leaf=W):∀d∈ds,d.leaf=W:=by simpa using h
def Mh(es:L D)(k i:Nat)(d a:D)(h:(zC es k d)[i]?=Z a):(i=k/\k<es.length/\a=d)\/(i≠k/\es[i]?=Z a):=by
 unfold zC at h
 grind
def LK{ty:TypeId}(hi:nH P ty i){s s':St}(hs:bg g s w){a x:T}{va vx:aD}(ha:aL g w a va)(hx:aL g w x vx)
  {p:Prop} {t:T} (h:storeT i s a x=Z (p,t,s')) (hp:p) :
  ∃w' g',(Instr.storeAt ty va vx).run P w=.ok () w'/\bg g' s' w'/\Ext s.fl g w g' w'/\t=Ue:=by
 let ⟨xi,d0,z,Pn,hu,hsz,hag,_⟩:=hi.all
 unfold storeT at h;cases hc:kN i x with
 |none=>simp[hc]at h|some q=>
  let ⟨q,l⟩:=q
  simp only[hc]at h;cases ha with
  |ptr o off b hb=>
   cases y:s.ob.get o with
   |none=>simp[y]at h|some ob=>
   simp only[y]at h;cases ob with
   |box cs=>
   let ⟨B,ety,hh,hl,hr⟩:=(hs.box o b hb).box y
   obtain⟨hn,h⟩|⟨_,h⟩:=ah h
   simp only[eX]at hn;have hfl:=gY hn.1;have hlen:off+cM l<=cM cs:=gY hn.2;rw[bZ,bZ]at hlen;obtain⟨rfl,rfl,rfl⟩:=h
   let ⟨C,ahW⟩:=qM hc hp.1 hx
   have A:vx.cells.size=l.length:=by simpa using C.1.symm
   have hcs:PW (aL g w) cs B.toList:=⟨by simpa using hl,λj a b h1 h2=>hr j a b h1 (by simpa using h2)⟩;have I:=y8 (P:=P) Pn w b off vx (by rw[A,ahW,hsz]) hh (by omega) (C.one hp.2);rw[A]at I;have hnew:PW (aL g w) (cs.take off++l++cs.drop (Na off (cM l))) (B.toList.take off++vx.cells.toList++B.toList.drop (off+l.length)):=by rw[bZ];exact((hcs.take off).append C).append (hcs.drop _)
   let ⟨hs',he⟩:=hs.agT hb y hfl (cs':=cs.take off++l++cs.drop (Na off (cM l)))
    (vs':=(B.toList.take off++vx.cells.toList++B.toList.drop (off+l.length)).toArray) (by simpa using hnew.1) (λj t v h1 h2=>hnew.2 j t v h1 (by simpa using h2))
   exact⟨_,g,by simpa[Instr.storeAt,Instr.sureAddr]using I,hs',he,rfl⟩;cases h
   |_=>simp at h
  |mC o e k off len cap sz ad aml=>
   cases F:oF s l with
   |none=>simp[F]at h|some r=>
    let ⟨r,ds,os⟩:=r
    simp only[F]at h;cases K:freeze s os with
    |none=>simp[K]at h|some s1=>
    simp only[K]at h;cases y:s1.ob.get o with
    |none=>simp[y]at h|some ob=>
     cases ob with
     |box _=>simp[y]at h|lW _ _ _=>simp[y]at h|map _=>simp[y]at h|r8 _ _=>simp[y]at h|l8 _ _ _ _ _ _ _=>simp[y]at h|rws _ _ _=>simp[y]at h|gone=>simp[y]at h|Hj=>simp[y]at h|lp _=>simp[y]at h|AG=>simp[y]at h|arr sz' es era=>
      simp only[y]at h;obtain⟨hn,h9⟩|⟨_,h9⟩:=ah h
      simp only[eX]at hn
      let ⟨hfl,hee⟩:=hn
      have hfl:=gY hfl;have hee:=beq_iff'.1 hee;subst hee;simp only[gV,fH]at h9;obtain⟨rfl,rfl,rfl⟩:=h9
      let ⟨hp1,hp2,hp3,hp4,hp5,hp6,hp7⟩:=hp
      let ⟨C,ahW⟩:=qM hc hp1 hx
      let ⟨b0,b1,b2⟩:=qU hs l F hp2 C.1 C.2
      let ⟨g1,AE,he1,ah0⟩:=eK os hs K b1
      have sX:=b2 g1 s1 AE he1 ah0;have hga:=he1.arr _ _ _ aml;clear aml;have asS:=ah0.fl;clear b1 b2 F K ah0
      let ⟨E,alM⟩:=AE.oc (fz:=J) y hga
      change sz=sz' at alM;subst alM;have hk:=U2 hp4;obtain⟨m,R,n,arW⟩:∃m,(jy es k).cells=m/\m.length=sz/\(off+ds.length<=sz->(D.Rw (jy es k) off ds).cells=m.take off++ds++m.drop (off+ds.length)):=by
       obtain hp5|⟨h1,h2,h3,h4⟩:=hp5
       let ⟨m,R,n,hcf⟩:=z6 hp5
       exact⟨m,by rw[R];rfl,n,λ_=>by rw[R];rfl⟩;rw[bZ]at h4;obtain⟨d1,rfl⟩:=YN.1 h4;have hl1:=D.QI hp3 d1 (by simp);have hc1:∀d:D,d.leaf=W->d.cells=[d]:=by intro d F;cases d<;>first|rfl|simp[D.leaf]at F
       refine⟨[jy es k],hc1 _ h1,h2.symm,λ_=>?_⟩;subst h3;have:D.Rw (jy es k) 0 [d1]=d1:=by generalize jy es k=q at h1;cases q<;>first|rfl|simp[D.leaf]at h1
       rw[this,hc1 _ hl1];rfl
      have hoff:off+ds.length<=sz:=by have:=gY hp6;rw[bZ]at this;exact this
      have h1:=E.len;have h2:=E.cap;simp only at h1 h2
      let ⟨b,B,ety,hab,hfz,hh,S,HO⟩:=E.mem (by simp only;omega)
      simp at hab;subst hab;have A:vx.cells.size=ds.length:=by rw[b0];simpa using C.1.symm
      have hbound:k*sz+sz<=B.size:=by have:(k+1)*sz<=cap*sz:=zU _ (by omega);rw[Nat.add_mul,J9]at this;exact gE this S
      have hone:∀u∈vx.cells.toList,u.oneCell'=W:=by
       intro u hu;obtain⟨j,hj,rfl⟩:=sd hu;have hj':j<ds.length:=by rw[b0,C.1];exact hj
       exact(w6 (D.QI hp3 _ (Oz hj')) (sX j _ _ (iZ hj') (iZ hj))).1
      have I:=y8 (P:=P) Pn w b (k*sz+off) vx (by rw[A,b0,ahW,hsz]) hh (by omega) hone;have z8:(⟨Z ⟨b,0,Y⟩,len,cap,sz⟩:fy).at b:=⟨_,rfl,rfl,by simp only;omega⟩;have hsc:=arW hoff;have aeg:(B.toList.take (k*sz+off)++vx.cells.toList++B.toList.drop (k*sz+off+vx.cells.size)).length=B.size:=by simp[A];omega
      have ahS:yc g1 (w.setRow b (B.toList.take (k*sz+off)++vx.cells.toList++B.toList.drop (k*sz+off+vx.cells.size)).toArray) J sz
        (zC es k ((jy es k).Rw off ds)) ⟨Z ⟨b,0,Y⟩,len,cap,sz⟩:=by
       refine⟨by simp[zC,h1],h2,λd F=>?_,E.pos,λd F=>?_,λ_=>⟨b,_,ety,rfl,hfz,setRow_heap w b B _ ety _ hh,by simp only[UA];rw[aeg];exact S,?_⟩⟩;obtain⟨j,hj,rfl⟩:=sd F;obtain⟨rfl,_,he⟩|⟨_,he⟩:=Mh _ _ _ _ _ (iZ hj)
       rw[he,hsc];simp[n];omega;exact E.rows _ (iG he);obtain⟨j,hj,rfl⟩:=sd F;obtain⟨rfl,_,he⟩|⟨_,he⟩:=Mh _ _ _ _ _ (iZ hj)
       rw[he,hp7];have hb:=E.Yb _ (iG (D.MW hk));simpa[zC]using hb;have hb:=E.Yb _ (iG he);simpa[zC]using hb;intro i d j c F hj;have f:∀(v:aD),B[i*sz+j]?=Z v->(i≠k/\j<sz\/i=k/\(j<off\/off+ds.length<=j))->
         (B.toList.take (k*sz+off)++vx.cells.toList++B.toList.drop (k*sz+off+vx.cells.size)).toArray[i*sz+j]?=Z v:=by
        intro v hv Ew;have ah8:i*sz+j<k*sz+off\/k*sz+off+ds.length<=i*sz+j:=by
         obtain⟨hik,hj⟩|⟨rfl,hj⟩:=Ew
         obtain hik|hik:=Nat.lt_or_gt_of_ne hik
         have:(i+1)*sz<=k*sz:=zU _ hik;rw[Nat.add_mul,J9]at this
         left;omega
         have:(k+1)*sz<=i*sz:=zU _ hik;rw[Nat.add_mul,J9]at this
         right;omega
         obtain hj|hj:=hj
         left;omega
         right;omega
        rw[UE,tS,tS];obtain hc1|hc1:=ah8
        rw[bH (by simp[A];omega),bH (by simp;omega),Ke,bH hc1];simpa using hv;rw[bS (by simp[A];omega),OM];have:k*sz+off+vx.cells.size+(i*sz+j-(List.take (k*sz+off) B.toList++vx.cells.toList).length)=i*sz+j:=by simp[A];omega
        rw[this];simpa using hv
       obtain⟨rfl,hlt,rfl⟩|⟨hik,F⟩:=Mh _ _ _ _ _ F
       rw[hsc]at hj;by_cases hin:off<=j/\j<off+ds.length;have hj2:ds[j-off]?=Z c:=by
        rw[tS,bH (by simp[n];omega),tS,bS (by simp[n];omega)]at hj;have:j-(m.take off).length=j-off:=by simp[n];omega
        rwa [this]at hj
       have hlt2:j-off<vx.cells.size:=by omega
       refine⟨vx.cells[j-off],?_,?_⟩;rw[UE,tS,bH (by simp[A];omega),tS,bS (by simp;omega)];have:i*sz+j-(List.take (i*sz+off) B.toList).length=j-off:=by simp;omega
       rw[this];simp;have:=sX (j-off) c vx.cells[j-off] hj2 (by simp);exact this.ext (Ext.refl 0 g1 w) AE.bF |>.mono (λb' hb'=>setRow_other w b b' _ (λe=>by subst e;exact Bool.noConfusion (hfz.2 hb'))) (λ_ h=>h)
       have hj2:m[j]?=Z c:=by
        rw[tS,tS]at hj;by_cases hlo:j<off;rw[bH (by simp[n];omega),bH (by simp[n];omega),Ke,bH hlo]at hj;exact hj;rw[bS (by simp[n];omega),OM]at hj;have:off+ds.length+(j-(List.take off m++ds).length)=j:=by simp[n];omega
        rwa [this]at hj
       let ⟨v,hv,hr⟩:=HO i (jy es i) j c (D.MW hlt) (by rw[R];exact hj2)
       refine⟨v,f v hv (.inr ⟨rfl,by omega⟩),hr.mono (λb' hb'=>setRow_other w b b' _ (λe=>by subst e;exact Bool.noConfusion (hfz.2 hb'))) (λ_ h=>h)⟩
       let ⟨v,hv,hr⟩:=HO i d j c F hj
       have yX:j<sz:=by rw[<-E.rows d (iG F)];exact cF hj
       exact⟨v,f v hv (.inl ⟨hik,yX⟩),hr.mono (λb' hb'=>setRow_other w b b' _ (λe=>by subst e;exact Bool.noConfusion (hfz.2 hb'))) (λ_ h=>h)⟩
      let ⟨hs',he⟩:=AE.ag3 y hga hfl z8 ahS
      refine⟨_,g1,?_,hs',he1.trans (asS▸he),rfl⟩;rw[og];simpa[Instr.storeAt,Instr.sureAddr]using I;cases h9
  |_=>simp at h
end
section
variable {k:IntKind}{I:Nat->Prop}{d:D}{b a:T}{va vb:aD}{r:aa}
def CR{j:IntKind}(h:pz j k=W):j=k:=by cases j<;>cases k<;>first|rfl|cases h
section
variable {g:Gh}{w:az}{t:T}{v:aD}{p:Prop}
def W9(h:D.isInt k d=W)(a:dP I w d v):v=.int k d.toInt:=by
 cases a with
 |lit v=>
  cases v with|int j n=>rw[CR h];rfl|_=>cases h
 |_=>cases h
def HH(h:d.isBool=W)(a:dP I w d v):v=.bool d.toBool:=by
 cases a with
 |lit v=>
  cases v with|bool b=>rfl|_=>cases h
 |_=>cases h
def W8(h:d.isStr=W)(a:dP I w d v):v=.string d.toStr:=by
 cases a with
 |lit v=>
  cases v with|string b=>rfl|_=>cases h
 |_=>cases h
theorem dY{k:IntKind}{n:Int}(h:yU k t=Z (p,n))(a:p)(b:aL g w t v):v=.int k n:=by
 cases b with
 |kn j m=>
  obtain⟨c,h⟩|⟨_,h⟩:=ah h
  simp only[gV,fH]at h;rw[CR c,h.2];cases h
 |sym d v e=>obtain⟨rfl,rfl⟩:=h;exact W9 a e
 |_=>simp[yU]at h
def jC{b:aa}(h:BT t=Z (p,b))(a:p)(e:aL g w t v):v=.bool b:=by
 cases e with
 |kb c=>simp only[BT,gV,fH]at h;rw[h.2]|sym d v f=>obtain⟨rfl,rfl⟩:=h;exact HH a f
 |_=>simp[BT]at h
def iO{b:ByteArray}(h:AR t=Z (p,b))(a:p)(c:aL g w t v):v=.string b:=by
 cases c with
 |sym d v e=>obtain⟨rfl,rfl⟩:=h;exact W8 a e
 |_=>simp[AR]at h
def D.yB(h:d.alu=W):d=.sl d.agQ:=by cases d<;>first|rfl|cases h
def Uo{s:St}(hs:bg g s w){es:L D}(h:Cz s t=Z (p,es))(x:p)(y:aL g w t v):∃a cap,v=.slice a es.length cap/\es.length<=cap:=by
 cases y with
 |emp a=>obtain⟨_,rfl⟩:=h;exact⟨a,0,rfl,by simp⟩
 |kR n b a C q=>obtain⟨_,rfl⟩:=h;exact⟨a,_,rfl,eP _⟩
 |qx j d c a E q=>obtain⟨_,rfl⟩:=h;exact⟨a,1,rfl,eP _⟩
 |sym d v q=>
  obtain⟨rfl,rfl⟩:=h;rw[D.yB x]at q;generalize d.agQ=es at *
  cases q with|sl _ a cap sz val k=>exact⟨a,cap,rfl,k⟩
 |sh o e len cap sz a z=>
  simp[Cz]at h;have key:∀u f(b:L D)era,s.ob.get o=Z (gz u f b era)->(bif Nq e era then Z (True,b)else Y)=Z (p,es)->
    ∃A i,Value.slice a len cap=.slice A es.length i/\es.length<=i:=by
   intro u f b era l h;obtain⟨B,h⟩|⟨_,h⟩:=ah h
   have r:=beq_iff'.1 B;obtain⟨_,rfl⟩:=h
   let ⟨m,_⟩:=hs.oc (r▸l) z
   have h1:=m.len;have h2:=m.cap;simp only at h1 h2;exact⟨a,cap,by rw[h1],by omega⟩;cases h
  split at h;rename_i f b era l;exact key J f b era l h;rename_i f b era l;exact key W f b era l h;cases h
 |_=>simp[Cz]at h
end
section
variable {P:cV}{g:Gh}{w:az}
def vJ{x:T}{vx:aD}{q:Prop}{y:aa}(h:JL x=Z (q,y))(a:q)(f:aL g w x vx):vx=.bool y:=by
 cases f with
 |gd c t v e=>simp[JL]at h;split at h;rename_i h1;obtain⟨rfl,rfl⟩:=h;exact jC h1 a.2 (e a.1);cases h
 |kb b=>simp only[JL,gV,fH]at h;rw[h.2]|sym d v i=>obtain⟨rfl,rfl⟩:=h;exact HH a i
 |_=>simp[JL]at h
def OV{c:T}{i:aD}{p:Prop}{t:T}(h:Kh c a b=Z (p,t))(d:p)(j:aL g w c i)(k:aL g w a va)(l:aL g w b vb) :
  ∃u,i=.bool u/\aL g w t (if u then va else vb):=by
 unfold Kh at h;split at h;rename_i u;cases j;refine⟨u,rfl,?_⟩;split at h
 .rename_i e;obtain⟨rfl,rfl⟩:=h;cases u with|true=>rw[bH rfl,vJ e d k];exact .sym _ _ (.lit _)|false=>rw[bS Bool.noConfusion,vJ e d l];exact .sym _ _ (.lit _)
 cases h;split at h
 .rename_i u n o q r m h1 h2;obtain⟨rfl,rfl⟩:=h;have f:=jC m d.1 j;refine⟨u,f,?_⟩;cases u with|true=>rw[vJ h1 (d.2.1 rfl) k];exact .sym _ _ (.lit _)|false=>rw[vJ h2 (d.2.2 rfl) l];exact .sym _ _ (.lit _)
 cases h
def BF{l:Lk}{p:Prop}(h:rP l a b=Z (p,r))(c:p)(d:aL g w a va)(e:aL g w b vb) :
  Cg l va/\Cg l vb/\r=Ia va vb:=by
 cases l with
 |int k=>simp[rP]at h;split at h;rename_i f x i y h1 h2;obtain⟨rfl,rfl⟩:=h;rw[dY h1 c.1 d,dY h2 c.2 e];exact⟨⟨_,rfl⟩,⟨_,rfl⟩,rfl⟩;cases h
 |bool=>simp[rP]at h;split at h;rename_i f x i y h1 h2;obtain⟨rfl,rfl⟩:=h;rw[jC h1 c.1 d,jC h2 c.2 e];exact⟨⟨_,rfl⟩,⟨_,rfl⟩,rfl⟩;cases h
 |str=>simp[rP]at h;split at h;rename_i h1 h2;obtain⟨rfl,rfl⟩:=h;rw[iO h1 c.1 d,iO h2 c.2 e];exact⟨⟨_,rfl⟩,⟨_,rfl⟩,rfl⟩;cases h
 |no=>simp[rP]at h
def xo:∀(c:L Lk)(as bs:L T)(va vb:L aD){p:Prop}{r:aa},kL c as bs=Z (p,r)->p->PW (aL g w) as va->PW (aL g w) bs vb->
  va.length=c.length/\vb.length=c.length/\(∀(j:Nat)(l:Lk)(v:aD),c[j]?=Z l->va[j]?=Z v->Cg l v)/\
   (∀(j:Nat)(l:Lk)(v:aD),c[j]?=Z l->vb[j]?=Z v->Cg l v)/\r=n7 va vb
 |[],[],[],va,vb,p,r,h,f,d,e=>by simp only[kL,gV,fH]at h;have h1:va=[]:=EZ d.1.symm;have h2:vb=[]:=EZ e.1.symm;subst h1;subst h2;refine⟨rfl,rfl,λj l v h=>by simp at h,λj l v h=>by simp at h,h.2.symm⟩
 |l::c,a::as,b::bs,va,vb,p,r,h,f,d,e=>by
  simp[kL]at h;split at h
  .rename_i x B y h1 h2;simp only[gV,fH]at h;obtain⟨rfl,rfl⟩:=h
   match va,vb,d,e with
   |v::va,u::vb,d,e=>
    let ⟨C,E,m⟩:=BF h1 f.1 (d.2 0 _ _ rfl rfl) (e.2 0 _ _ rfl rfl)
    let ⟨n,o,F,I,q⟩:=xo c as bs va vb h2 f.2 ⟨by simpa using d.1,λj x y i k=>d.2 (j+1) x y (by simpa using i) (by simpa using k)⟩
     ⟨by simpa using e.1,λj x y i k=>e.2 (j+1) x y (by simpa using i) (by simpa using k)⟩
    refine⟨by simp[n],by simp[o],λj s t z A=>?_,λj s t z A=>?_,?_⟩
    grind
    grind
    rw[m,q];rfl
  cases h
 |[],[],_::_,_,_,_,_,h,_,_,_=>by simp[kL]at h
 |[],_::_,_,_,_,_,_,h,_,_,_=>by simp[kL]at h
 |_::_,[],_,_,_,_,_,h,_,_,_=>by simp[kL]at h
 |_::_,_::_,[],_,_,_,_,h,_,_,_=>by simp[kL]at h
def Wh(d:Nat){ty e:TypeId}(b:P.underlying ty=Z (.pointer e))(a:Addr):(Op.equalIn (d+1) ty (.pointer Y) (.pointer (Z a))).run P w=.ok J w:=by simp only[Op.equalIn,run_bind,aO b,andThen_ok];rfl
def Wi(d:Nat){ty e:TypeId}(b:P.underlying ty=Z (.pointer e))(a:Addr):(Op.equalIn (d+1) ty (.pointer (Z a)) (.pointer Y)).run P w=.ok J w:=by simp only[Op.equalIn,run_bind,aO b,andThen_ok];rfl
def Wj(d:Nat){ty:TypeId}{a:Array (String×TypeId)}(b:P.underlying ty=Z (.interface a))(t:TypeId)(v:aD):(Op.equalIn (d+1) ty .nilIface (.iface t v)).run P w=.ok J w:=by simp only[Op.equalIn,run_bind,aO b,andThen_ok];rfl
def J6(d:Nat){ty:TypeId}{a:Array (String×TypeId)}(b:P.underlying ty=Z (.interface a))(t:TypeId)(v:aD):(Op.equalIn (d+1) ty (.iface t v) .nilIface).run P w=.ok J w:=by simp only[Op.equalIn,run_bind,aO b,andThen_ok];rfl
def ou{ty:TypeId}(x y:Operand)(h1:binOp .eql ty va vb=(do pure (.bool (<-Op.equal ty va vb))))(h2:binOp .neq ty va vb=(do pure (.bool (!(<-Op.equal ty va vb)))))
  (c:∀op,(eqGuard op ty x y va vb).run P w=.ok () w) (a:(Op.equalIn (9999+1) ty va vb).run P w=.ok r w) :
  ((do eqGuard .eql ty x y va vb;binOp .eql ty va vb:Sem aD)).run P w=.ok (.bool r) w/\((do eqGuard .neq ty x y va vb;binOp .neq ty va vb:Sem aD)).run P w=.ok (.bool (!r)) w:=by
 have b:(Op.equal ty va vb).run P w=.ok r w:=a
 simp_all
def H9{ty:TypeId}{i:TI}(hi:nH P ty i){p:Prop}(h:aaQ i a b=Z (p,r))(u:p)(o:aL g w a va)(s:aL g w b vb)(x y:Operand) :
  ((do eqGuard .eql ty x y va vb;binOp .eql ty va vb:Sem aD)).run P w=.ok (.bool r) w/\((do eqGuard .neq ty x y va vb;binOp .neq ty va vb:Sem aD)).run P w=.ok (.bool (!r)) w:=by
 let ⟨xi,d0,z,Pn,A,hsz,hag,hz,CX,d⟩:=hi.all
 obtain⟨c,h⟩|⟨c,h⟩:=ah h
 split at h;cases h;rename_i k ks qa as qb bs hk B C;simp only[gi,fH]at h;obtain⟨⟨q,r'⟩,he,rfl,rfl⟩:=h
 let ⟨F,_⟩:=qM B u.1 o
 let ⟨I,_⟩:=qM C u.2.1 s
 let ⟨_,_,_,f,_⟩:=nt B u.1 o
 let ⟨_,_,_,t,_⟩:=nt C u.2.1 s
 obtain⟨xs,rfl⟩:=f c;obtain⟨ys,rfl⟩:=t c
 let ⟨K,R,S,m4,m5⟩:=xo (k::ks) as bs _ _ he u.2.2 F I
 simp only[Value.cells]at K R S m4 m5;have hne:i.lks≠[]:=by rw[hk];simp
 rw[<-hk]at K R S m4;have key:∀op,_:=λop=>hi.eqs c hne w op x y xs ys (by simpa using K) (by simpa using R) (λj l v h1 h2=>S j l v h1 (by simpa using h2)) (λj l v h1 h2=>m4 j l v h1 (by simpa using h2));refine⟨?_,?_⟩;rw[run_bind,(key .eql).1];simp only[andThen_ok,binOp,run_bind,(key .eql).2,m5];rfl;rw[run_bind,(key .neq).1];simp only[andThen_ok,binOp,run_bind,(key .neq).2,m5];rfl;cases h;split at h
 .rename_i l E;obtain⟨f,t,rfl⟩:=BF h u o s;rw[E]at d;cases l with
  |int k=>obtain⟨m,rfl⟩:=f;obtain⟨n,rfl⟩:=t;simp[eqGuard,binOp,Op.intCmp,Ia,bne]
  |bool=>obtain⟨m,rfl⟩:=f;obtain⟨n,rfl⟩:=t;subst d;exact ou x y rfl rfl (λop=>by cases op<;>rfl) (run_equalIn_bool' w _ _ _ _ A)
  |str=>
   obtain⟨m,rfl⟩:=f;obtain⟨n,rfl⟩:=t
   simp_all[eqGuard,binOp,Op.stringOp,Ia,beq_toListBytes]
  |no=>exact f.elim
 rename_i E;rw[E]at d;obtain⟨e,rfl⟩:=d;unfold af6 at h;split at h
 .obtain ⟨_,rfl⟩:=h;cases o with
  |sym _ _ o=>
  cases o;cases s;exact ou x y rfl rfl (λop=>by cases op<;>rfl) (Wh _ A _)
 .obtain ⟨_,rfl⟩:=h;cases s with
  |sym _ _ s=>
  cases s;cases o;exact ou x y rfl rfl (λop=>by cases op<;>rfl) (Wi _ A _)
 cases h;rename_i E;rw[E]at d;obtain⟨e,rfl⟩:=d;unfold af7 at h;split at h
 .obtain ⟨_,rfl⟩:=h;cases o with
  |sym _ _ o=>
  cases o;cases s;exact ou x y rfl rfl (λop=>by cases op<;>rfl) (Wj _ A _ _)
 .obtain ⟨_,rfl⟩:=h;cases s with
  |sym _ _ s=>
  cases s;cases o;exact ou x y rfl rfl (λop=>by cases op<;>rfl) (J6 _ A _ _)
 cases h;cases h
end
end
section
variable {P:cV}{g:Gh}{w:az}
variable {i:TI}{a t:T}{va:aD}{p:Prop}{d:D}{s s':St}{k:Nat}
def Tj{ty:TypeId}(hi:nH P ty i){op:BinOp}{b:T}{l:aD}(h:M9 i op a b=Z (p,d))(c:p)(e:aL g w a va)(f:aL g w b l)(x y:Operand) :
  ∃v,((do eqGuard op ty x y va l;binOp op ty va l:Sem aD)).run P w=.ok v w/\aL g w (.sym d) v:=by
 unfold M9 at h;split at h;simp only[gi,fH]at h;obtain⟨⟨q,r⟩,o,rfl,rfl⟩:=h;exact⟨_,(H9 hi o c e f x y).1,.sym _ _ (.lit _)⟩;simp only[gi,fH]at h;obtain⟨⟨q,r⟩,o,rfl,rfl⟩:=h;exact⟨_,(H9 hi o c e f x y).2,.sym _ _ (.lit _)⟩
 .rename_i t u;split at h
  .rename_i k F;split at h
   .rename_i A m B n h1 h2;cases j:XB op k m n with
    |some C=>
     simp only[j,gV,fH]at h;obtain⟨rfl,rfl⟩:=h;rw[dY h1 c.1 e,dY h2 c.2 f];cases op<;>simp only[XB,gV]at j<;>first
      |(cases j;done)
      |(
        subst j;refine⟨_,?_,.sym _ _ (.lit _)⟩;simp[eqGuard,binOp,Op.intCmp,Op.intArith,aG,bB,aJ,bn,I8])
    |none=>
     simp only[j,gi,fH]at h;obtain⟨C,s,rfl,rfl⟩:=h;rw[dY h1 c.1 e,dY h2 c.2.1 f];have E:n≠0:=c.2.2;cases op<;>simp only[aa2,gV]at s<;>first
      |(cases s;done)
      |(
        subst s;refine⟨_,?_,.sym _ _ (.lit _)⟩;simp[eqGuard,binOp,Op.intDiv,E,uD,ack])
   cases h
  split at h;rename_i A m B n h1 h2;obtain⟨rfl,rfl⟩:=h;rw[iO h1 c.1 e,iO h2 c.2.1 f];have z:m.size+n.size<=4611686018427387904:=c.2.2;refine⟨_,?_,.sym _ _ (.lit _)⟩;simp[eqGuard,binOp,Op.stringOp,TY];omega;cases h;cases h
def VZ{op:UnOp}(h:unT i op a=Z (p,d))(c:p)(e:aL g w a va) :
  ∃v,(Op.unary op va).run P w=.ok v w/\aL g w (.sym d) v:=by
 unfold unT at h;split at h;simp only[gi,fH]at h;obtain⟨⟨q,r⟩,b,rfl,rfl⟩:=h;rw[jC b c e];exact⟨_,rfl,.sym _ _ (.lit _)⟩;simp only[gi,fH]at h;obtain⟨⟨q,r⟩,b,rfl,rfl⟩:=h;rw[dY b c e];refine⟨_,rfl,?_⟩;rw[show(0:Int)-r=-r from by omega];exact .sym _ _ (.lit _);cases h
def Qp{src dst:TypeId}{j:TI}(hi:nH P src i)(u:nH P dst j)(h:KY i j s a=Z (p,t,s'))(r:p)(m:aL g w a va) :
  ∃v,(convert src dst va).run P w=.ok v w/\aL g w t v/\s'=s:=by
 let ⟨_,d1,_,_,f,_,_,_,_,k⟩:=hi.all
 let ⟨_,d2,_,_,l,_,_,_,_,c⟩:=u.all
 unfold KY at h;split at h;rename_i d e;simp only[gi,fH]at h;obtain⟨⟨q,n⟩,x,rfl,rfl,rfl⟩:=h;rw[d]at k;rw[e]at c;subst c;rw[dY x r m];exact⟨_,by simp[convert,aO f,aO l,Conv.intToInt];rfl,.sym _ _ (.lit _),rfl⟩;rename_i d e;simp only[gi,fH]at h;obtain⟨⟨q,b⟩,y,rfl,rfl,rfl⟩:=h;rw[d]at k;rw[e]at c;subst c;have o:=iO y r m;subst o;exact⟨_,by simp[convert,aO f,aO l],m,rfl⟩;cases h
def H6(h:uk s k a=Z (p,t,s'))(f:p)(i:aL g w a va) :
  ∃v,(Instr.extract va k).run P w=.ok v w/\aL g w t v/\s'=s:=by
 cases i with
 |gX o b j e=>
  simp only[uk,kD,gi,fH]at h;obtain⟨q,l,_,rfl,rfl⟩:=h;have c:k<b.size:=by grind
  refine⟨b[k],by simp[Instr.extract,uS c],e k _ _ l (uS c),rfl⟩
 |sym d v m=>
  obtain⟨rfl,rfl,rfl⟩:=h;cases m with
  |gX ds b j e=>
   have n:k<ds.length:=by
    have:Nt k (cM ds)=W:=f
    simp_all[bZ]
   have c:k<b.size:=by omega
   refine⟨b[k],by simp_all[Instr.extract],.sym _ _ ?_,rfl⟩;refine e k _ _ ?_ (uS c)
   grind[D.proj]
  |_=>cases f
 |_=>simp[uk]at h
def add_zero'(a:Addr):a.add 0=a:=by rfl
def De{ty:TypeId}(hi:nH P ty i)(h:rO i s k a=Z (p,t,s'))(u:aL g w a va) :
  ∃v,(Instr.fieldAt ty va k).run P w=.ok v w/\aL g w t v/\s'=s:=by
 let ⟨_,d1,_,_,x,_,_,_,_,l⟩:=hi.all
 unfold rO at h;split at h;rename_i n;rw[n]at l;obtain⟨fields,rfl,y,z⟩:=l;split at h;rename_i off size A r;rw[kD]at r
 let ⟨f,j,d',B,C,E,F,_⟩:=z k off size A r
 obtain⟨_,h⟩|⟨h0,h⟩:=ah h
 cases h
 .have I:j.size≠0:=by
   intro e
   simp_all
  have c:∀m,(Instr.fieldAt ty (.pointer (Z m)) k).run P w=.ok (.pointer (Z (m.add off))) w:=by
   simp_all[Instr.fieldAt,Instr.sureAddr,aO,fieldPlace,dD]
  cases u with
  |ptr o b bl K=>obtain⟨_,rfl,rfl⟩:=h;refine⟨_,c _,?_,rfl⟩;rw[og];exact .ptr _ _ _ K
  |mD d b m val q R S=>obtain⟨_,rfl,rfl⟩:=h;refine⟨_,c _,?_,rfl⟩;rw[uB];exact .mD _ _ _ _ q R S
  |mC o e j' b len cap sz m hx=>obtain⟨_,rfl,rfl⟩:=h;refine⟨_,c _,?_,rfl⟩;rw[uB,Nat.add_assoc];exact .mC _ _ _ _ _ _ _ _ hx
  |_=>simp at h
 cases h;cases h
def Ok{t:TypeId}{x:TypeInfo}{d:TypeDesc}(hi:P.info? t=Z x)(a:P.underlying t=Z d)(vs:Array aD)(off:Nat)(hl:off+x.size<=vs.size)(h1:eg d=J->x.size=1) :
  (part t vs off).run P w=.ok (if eg d then .agg ((vs.toList.drop off).take x.size).toArray else((vs.toList.drop off).take x.size).headD undef) w:=by
 simp only[part,run_bind,uN a,andThen_ok];cases b:eg d with
 |true=>
  simp only[kz,run_bind,dD hi,andThen_ok,run_pure]
  congr 2
  grind
 |false=>
  have e:=h1 b;have c:off<vs.size:=by omega
  simp_all[UF]
def MQ{ty:TypeId}(hi:nH P ty i)(h:HX i s k a=Z (p,t,s'))(z:p)(A:aL g w a va) :
  ∃v,(Instr.field ty va k).run P w=.ok v w/\aL g w t v/\s'=s:=by
 let ⟨_,d1,_,_,I,B,c,_,_,d⟩:=hi.all
 unfold HX at h;split at h;rename_i o;rw[o]at d;obtain⟨fields,rfl,K,R⟩:=d;split at h;rename_i off size S q cs C E;rw[kD]at C
 let ⟨f,j,d',hf1,hf2,r,hf4,u,hf6⟩:=R k off size S C
 obtain⟨hl,h⟩|⟨_,h⟩:=ah h
 have l:=beq_iff'.1 (zT.1 hl).1;rw[bZ]at l;simp only[gi,fH]at h;obtain⟨t',ht,rfl,rfl,rfl⟩:=h
 let ⟨m,F⟩:=qM E z A
 let ⟨_,_,_,x,_⟩:=nt E z A
 obtain⟨y,rfl⟩:=x (by rw[c];rfl);simp[Value.cells]at m;have b:=(m.drop off).take size
 let ⟨n,h1⟩:=yq (g:=g) (w:=w) ht b.1 b.2
 have hlv:((y.toList.drop off).take size).length=size:=by rw[<-b.1,l]
 have hs0:size≠0:=by
  intro e
  simp_all
 have hle:off+size<=y.size:=by
  grind
 refine⟨_,?_,n,rfl⟩;have hr:=Ok (P:=P) (w:=w) r u y off (by omega) (λhd=>by
  grind)
 simp_all[Instr.field,aO,asAgg]
 iterate 3 cases h
end
section
variable {P:cV}{g:Gh}{w:az}
def DW{ty e:TypeId}{j:TypeInfo}(b:P.underlying ty=Z (.slice e))(c:P.info? e=Z j)(a:Addr)(len cap:Nat)(n:Int)(h:0<=n/\n<len) :
  (Instr.indexAt ty (.slice (Z a) len cap) (.int .i64 n)).run P w=.ok (.pointer (Z (a.add (n.toNat *j.size)))) w:=by
 simp[Instr.indexAt,asIntOf,aO b,dD c,h]
variable {s s':St}{t x ix:T}{p:Prop}{i:TI}{vx vi:aD}
def Od(hs:bg g s w){v:aD}{es:L D}(h:Cz s t=Z (p,es))(C:p)(E:aL g w t v)
  (hf:freeze s (tX t)=Z s') :
  ∃g',bg g' s' w/\Ext s.fl g w g' w/\s'.fl=s.fl/\s'.aH=s.aH/\dP g'.bF w (.sl es) v:=by
 cases E with
 |emp a=>
  simp only[Cz,gV,fH]at h;simp[tX,freeze,gV]at hf;subst hf;exact⟨g,hs,Ext.refl _ _ _,rfl,rfl,by
   rw[<-h.2];exact .sl [] a 0 0 (λ_ _=>undef) (by simp) (by simp) (by simp) (λh=>absurd rfl h) (λi j d c h=>by simp at h)⟩
 |kR n f a K l=>simp[tX,freeze,gV]at hf;subst hf;obtain⟨_,rfl⟩:=h;exact⟨g,hs,Ext.refl _ _ _,rfl,rfl,l⟩
 |qx j d c a F l=>simp[tX,freeze,gV]at hf;subst hf;obtain⟨_,rfl⟩:=h;exact⟨g,hs,Ext.refl _ _ _,rfl,rfl,BK F l⟩
 |sym d v l=>simp[tX,freeze,gV]at hf;subst hf;obtain⟨rfl,rfl⟩:=h;rw[D.yB C]at l;exact⟨g,hs,Ext.refl _ _ _,rfl,rfl,l⟩
 |sh o e len cap sz a y=>
  have key:∀m b(f:L D)era,s.ob.get o=Z (gz m b f era)->(bif Nq e era then Z (True,f)else Y)=Z (p,es)->
    s.ob.get o=Z (gz m b es e):=by
   intro m b f era q h;obtain⟨I,h⟩|⟨_,h⟩:=ah h
   have z:=beq_iff'.1 I;simp only[gV,fH]at h;rw[q,h.2,z];cases h
  have u:∃m b,s.ob.get o=Z (gz m b es e):=by simp[Cz]at h;split at h;rename_i b f era q;exact⟨_,_,key J b f era q h⟩;rename_i b f era q;exact⟨_,_,key W b f era q h⟩;cases h
  let ⟨m,b,q⟩:=u
  let ⟨g',x,A,r⟩:=eK [o] hs hf (λk B=>by
   simp at B;subst B;exact⟨iW (hs.lt' y) hs.aH,.inl ⟨e,_,y,.inl ⟨m,b,es,q⟩⟩⟩)
  have l:=x.LR (r.hit o (by simp) m b es e q) (A.arr _ _ _ y);exact⟨g',x,A,r.fl,r.aH,l⟩
 |_=>simp[Cz]at h
theorem yF{I:Nat->Prop}{es:L D}{v:aD}(h:dP I w (.sl es) v):∃a cap,v=.slice a es.length cap/\es.length<=cap/\(∀d∈es,es.length*d.s9<=281474976710656)/\(es≠[]->∃ad sz,a=Z ad/\(∀d∈es,d.cells.length=sz)/\I ad.block/\
  ∃val:Nat->Nat->aD,(∀i j d c,es[i]?=Z d->d.cells[j]?=Z c->w.cell? (ad.add (i*sz+j))=Z (val i j))/\
   (∀i j d c,es[i]?=Z d->d.cells[j]?=Z c->dP I w c (val i j))):=by
 cases h with
 |sl _ a cap sz val b e f k l=>
  refine⟨a,cap,rfl,b,f,λg=>?_⟩
  let ⟨ad,h1,h2,h3⟩:=k g
  exact⟨ad,sz,h1,e,h2,val,h3,l⟩
def IE{ty:TypeId}(hi:nH P ty i){n sz:Nat}{ag:aa}(c:i.kd=.array n sz ag)(h:BY n sz s x ix=Z (p,t,s'))
  (o:aL g w x vx) (d:aL g w ix vi):∃v,(Instr.indexAt ty vx vi).run P w=.ok v w/\aL g w t v/\s'=s:=by
 let ⟨_,d1,_,_,f,_,_,_,_,a⟩:=hi.all
 rw[c]at a;obtain⟨e,j,B,rfl,q,l,_,_⟩:=a;unfold BY at h;split at h;rename_i b k;obtain⟨r,h3⟩|⟨_,h3⟩:=ah h
 .obtain ⟨_,rfl,rfl⟩:=h3;have u:k<n:=gY r;cases d with
  |kn _ _=>
  cases o with
  |mD _ _ y val m z A=>
  refine⟨.pointer (Z ((y.add b).add (k*sz))),?_,?_,rfl⟩;simp[Instr.indexAt,Instr.sureAddr,asIntOf,aO f,dD q,l,u];rw[uB];exact .mD _ _ _ _ m z A
 cases h3;cases h
def CV{ty:TypeId}(hi:nH P ty i)(hs:bg g s w)(h:kI i s x ix=Z (p,t,s'))(A:p)
  (hx:aL g w x vx) (B:aL g w ix vi):∃v,(Instr.indexAt ty vx vi).run P w=.ok v w/\aL g w t v/\s'=s:=by
 let ⟨_,d1,_,_,Eu,_,_,_,_,Pr⟩:=hi.all
 unfold kI at h;split at h;rename_i sz ag bt zero q n C hn;rw[C]at Pr;obtain⟨e,j,d',z,rfl,hj,yX,_,_,_,_,_,hpos,_⟩:=Pr;have gen:∀{r:L D}{q':Prop},Cz s x=Z (q',r)->q'->mj n (eT r)->(jy r (EX n)).wide sz->(∀o e,x≠.sh o e)->q->∃v,(Instr.indexAt ty vx vi).run P w=.ok v w/\aL g w (.mD (jy r (EX n)) 0) v:=by
  intro r q' f hq' u hw l hq;have E:=dY hn hq B;subst E;have F:n.toNat<r.length:=by have h1:=u.1;have h2:=u.2;unfold eT at h2;omega
  have hne:r≠[]:=by intro e;rw[e]at F;simp at F
  have hd':dP g.bF w (.sl r) vx:=by
   cases hx with
   |sym d v hd=>obtain⟨rfl,rfl⟩:=f;rw[<-D.yB hq'];exact hd
   |kR m es' a hm hd=>obtain⟨_,rfl⟩:=f;exact hd
   |emp a=>simp only[Cz,gV,fH]at f;exact absurd f.2.symm hne|qx j d c a hj hd=>obtain⟨_,rfl⟩:=f;exact BK hj hd
   |sh o e len cap sz a hx=>exact absurd rfl (l o e)|_=>simp[Cz]at f
  obtain⟨a,cap,rfl,hcap,_,I⟩:=yF hd';obtain⟨ad,y,rfl,K,Va,val,hc,hr⟩:=I hne;have R:=D.MW F;have aaf:y=sz:=by have h1:=K (jy r n.toNat) (iG R);exact h1.symm.trans hw
  subst aaf;refine⟨_,DW Eu hj ad _ _ n ⟨u.1,?_⟩,?_⟩;have:=u.2;exact this;rw[yX,<-add_zero' (ad.add (n.toNat *y))];refine .mD _ 0 (ad.add (n.toNat *y)) (val n.toNat) (by rw[lC];exact Va) (λk c hk=>?_) (λk c hk=>hr _ _ _ _ R hk);rw[uB];exact hc _ _ _ _ R hk
 split at h;rename_i o e';split at h;rename_i r MM;obtain⟨hb,h3⟩|⟨_,h3⟩:=ah h
 .have hzz:=beq_iff'.1 hb;obtain⟨rfl,rfl,rfl⟩:=h3;clear h hb;subst hzz;have E:=dY hn A.1 B;subst E;cases hx with
  |sh _ _ len cap y a hxa=>
  let ⟨fz,ho⟩:=Lj MM
  let ⟨S,K⟩:=hs.oc ho hxa
  subst K;have h1:=A.2.1;have h2:=A.2.2;unfold eT at h2;have hl:=S.len;have hc:=S.cap;simp only at hl hc
  let ⟨b,vs,ety,hab,_⟩:=S.mem (by simp only;omega)
  subst hab;refine⟨_,DW Eu hj _ _ _ n ⟨h1,by omega⟩,?_,rfl⟩;rw[yX];exact .mC o e' n.toNat 0 _ _ _ _ hxa
 cases h3;cases h;rename_i l;split at h;rename_i f;obtain⟨rfl,rfl,rfl⟩:=h
 let ⟨v,h1,h2⟩:=gen f A.2.1 A.2.2.1 A.2.2.2 (λo e he=>l o e he) A.1
 exact⟨v,h1,h2,rfl⟩;cases h;rename_i C;exact IE hi C h hx B;cases h
def get!_some{b:ByteArray}{k:Nat}(h:k<b.size):b[k]?=Z (b.get! k):=by
 rw[getElem?_pos b k h]
 congr 1
 show b.data[k]=b.data[k]!;rw[getElem!_pos b.data k h]
def MH{ty:TypeId}(hi:nH P ty i)(h:HK i s x ix=Z (p,t,s'))(b:p)
  (f:aL g w x vx) (c:aL g w ix vi):∃v,(Instr.index ty vx vi).run P w=.ok v w/\aL g w t v/\s'=s:=by
 let ⟨_,d1,_,_,d,_,_,_,_,a⟩:=hi.all
 unfold HK at h;split at h;rename_i e j k;rw[e]at a;subst a;obtain⟨rfl,rfl,rfl⟩:=h;rw[dY j b.1 c,iO k b.2.1 f];have h1:=b.2.2.1;have h2:=b.2.2.2;unfold vU at h2;refine⟨_,?_,.sym _ _ (.lit _),rfl⟩;simp[Instr.index,asIntOf,run_bind,run_pure,andThen_ok,aO d];rw[bH h1,get!_some (by omega)];rfl;cases h
def tK{zero:L D}{cells:Array aD}(h:ZOk zero cells):(zero.map ru).length=cells.size/\
  ∀(j:Nat)(t:T)(v:aD),(zero.map ru)[j]?=Z t->cells[j]?=Z v->aL g w t v:=by
 refine⟨by simpa using h.1,λj t v h1 h2=>?_⟩;simp at h1;obtain⟨d,a,rfl⟩:=h1;obtain⟨rfl,rfl⟩|rfl:=h.2 j d v a h2
 exact .emp Y;unfold ru;split;rename_i heq;simp at heq;subst heq;exact .kb _;rename_i heq;simp at heq;subst heq;exact .kn _ _
 simp_all
 exact .sym _ _ (.lit _)
def JJ{ty xt:TypeId}(hi:nH P ty i){ok:aa}(h:sJ i s ty ok x=Z (p,t,s'))
  (E:aL g w x vx) :
  ∃v,(Instr.typeAssert vx xt ty ok).run P w=.ok v w/\aL g w t v/\s'=s:=by
 let ⟨I,d1,z,c,K,_,R,d,f,S⟩:=hi.all
 let ⟨m,n⟩:=hi.zag I z c d
 have hni:i.kd≠.iface->∀o,P.underlying ty≠Z (.interface o):=λl o q=>l (hi.nif o q);unfold sJ at h;have a:i.kd≠.iface->∀u v,(Instr.typeAssert (.iface u v) xt ty ok).run P w=((if u=ty then pure (if ok then .tuple #[v,.bool W]else v)else
   if ok then do pure (.tuple #[<-zeroValue ty,.bool J])else runtimePanic (.typeAssertion (Z xt) (Z u) ty "")):Sem aD).run P w:=by
  simp_all[Instr.typeAssert,aO]
 split at h;cases h
 .rename_i u v l;cases E with
  |dn _ _ vv hv=>
  obtain⟨k,h⟩|⟨k,h⟩:=ah h
  .have r:=beq_iff'.1 k;simp only[gV,fH]at h;obtain⟨_,rfl,rfl⟩:=h;clear k;subst r;refine⟨_,by rw[a l,bH rfl];rfl,.gX _ _ rfl (λj t v h1 h2=>?_),rfl⟩
   match j with
   |0=>simp_all|1=>simp at h1 h2;subst h1;subst h2;exact .kb _|j+2=>simp at h1
  have y:u≠ty:=λe=>by
   simp_all
  simp only[gi,fH]at h;obtain⟨tz,A,_,rfl,rfl⟩:=h
  let ⟨B,b⟩:=tK (g:=g) (w:=w) f
  have F:aL g w tz z:=by
   obtain⟨C,rfl⟩|⟨C,q⟩:=GX A
   obtain⟨vs,rfl⟩:=m C;exact .agg _ _ B b;have:=n C;rw[q,this]at b;exact b 0 _ _ rfl rfl
  refine⟨_,by rw[a l,bS y];simp only[kz,run_bind,eB c d,andThen_ok,run_pure];rfl,.gX _ _ rfl (λj t v h1 h2=>?_),rfl⟩
  match j with
  |0=>grind|1=>simp at h1 h2;subst h1;subst h2;exact .kb _|j+2=>simp at h1
 .cases E with
  |dn _ _ vv hv=>
  obtain⟨k,h⟩|⟨k,h⟩:=ah h
  simp_all
  cases h
 cases h
end
section
variable {P:cV}{g:Gh}{w:az}
inductive TG(g:Gh)(w:az):Option T->Option aD->Prop where
 |no:TG g w Y Y|yes (t:T) (v:aD) (h:aL g w t v):TG g w (Z t) (Z v)
variable {l:Option T}{p:Prop}{low:Option aD}{lo hi:Int}{s s':St}{x t:T}{vx:aD}
def lA{dflt n:Int}{v:O aD}(h:xE dflt l=Z (p,n))(a:p)(b:TG g w l v) :
  (v=Y/\l=Y/\n=dflt)\/(v=Z (.int .i64 n)/\∃t,l=Z t):=by
 cases b with|no=>simp only[xE,gV,fH]at h;exact .inl ⟨rfl,rfl,h.2.symm⟩|yes t v c=>exact .inr ⟨by rw[dY h a c],t,rfl⟩
def run_sliceBound(n:Int)(y:Nat)(code:BoundsCode)(h:0<=n/\n<=y):(Instr.sliceBound (.int .i64 n) y code).run P w=.ok n.toNat w:=by simp[Instr.sliceBound,asIntOf,h]
def nS(a:aa)(len cap:Nat){high:O aD}(hl:(low=Y/\lo=0)\/low=Z (.int .i64 lo))(b:(high=Y/\hi=len)\/high=Z (.int .i64 hi))
  (c:0<=lo) (h1:lo<=hi) (h2:hi<=cap):(Instr.sliceBounds a len cap low high Y).run P w=.ok (lo.toNat,hi.toNat,cap) w:=by
 obtain⟨rfl,rfl⟩|rfl:=hl<;>obtain⟨rfl,rfl⟩|rfl:=b
 rfl
 simp_all[Instr.sliceBounds,run_sliceBound]
 simp_all[Instr.sliceBounds,run_sliceBound]
 simp[Instr.sliceBounds,run_sliceBound hi cap _ ⟨by omega,h2⟩,run_sliceBound lo hi.toNat _ ⟨c,by omega⟩]
def tP(a:aa)(len cap:Nat){b:Int}(hl:(low=Y/\lo=0)\/low=Z (.int .i64 lo))
  (c:0<=lo) (h1:lo<=hi) (h2:hi<=b) (h3:b<=cap):(Instr.sliceBounds a len cap low (Z (.int .i64 hi)) (Z (.int .i64 b))).run P w=.ok (lo.toNat,hi.toNat,b.toNat) w:=by
 obtain⟨rfl,rfl⟩|rfl:=hl
 simp[Instr.sliceBounds,run_sliceBound b cap _ ⟨by omega,h3⟩,run_sliceBound hi b.toNat _ ⟨by omega,by omega⟩];simp[Instr.sliceBounds,run_sliceBound b cap _ ⟨by omega,h3⟩,run_sliceBound hi b.toNat _ ⟨by omega,by omega⟩,run_sliceBound lo hi.toNat _ ⟨c,by omega⟩]
def Qg{I:Nat->Prop}{es:L D}{a:O Addr}{len cap sz:Nat}(h:dP I w (.sl es) (.slice a len cap))(n:jO es sz)(z:zE lo hi (eT es))
  (m:Nat) (F:hi.toNat<=m) (u:m<=cap) :
  (pY es lo hi).length=hi.toNat-lo.toNat/\dP I w (.sl (pY es lo hi)) (.slice (if m=lo.toNat then a else a.map (·.add (lo.toNat *sz))) (hi.toNat-lo.toNat) (m-lo.toNat)):=by
 let ⟨K,v,A,x,q,g⟩:=yF h
 obtain⟨rfl,rfl,rfl⟩:=A
 let ⟨P,h1,h2⟩:=z
 unfold eT at h2;have b:(pY es lo hi).length=hi.toNat-lo.toNat:=by simp[pY];omega
 refine⟨b,?_⟩;have eu:∀i d,(pY es lo hi)[i]?=Z d->es[lo.toNat+i]?=Z d:=by
  grind[pY]
 have e:∀d∈pY es lo hi,d∈es:=λd f=>Wr (List.mem_of_mem_drop f);rw[<-b];by_cases k:es=[];subst k;have:pY [] lo hi=[]:=by simp[pY]
 rw[this];exact .sl [] _ _ sz (λ_ _=>undef) (by simp) (by simp) (by simp) (λh=>absurd rfl h) (λi j d c h=>by simp at h);obtain⟨B,l,rfl,o,r,val,s,C⟩:=g k;have t:l=sz:=by obtain⟨d,ds,rfl⟩:=UG k;rw[<-o d (by simp),n d (by simp)]
 subst t;refine .sl _ _ _ l (λi j=>val (lo.toNat+i) j) (by omega) (λd f=>n d (e d f)) (λd f=>gE (zU _ (by omega)) (q d (e d f))) (λp=>?_) (λi j d c f y=>C _ _ _ _ (eu i d f) y);have E:0<(pY es lo hi).length:=Mf.2 p;refine⟨B.add (lo.toNat *l),by grind,by rw[lC];exact r,λi j d c f y=>?_⟩
 grind[uB]
def LP{ty:TypeId}{i:TI}(hi:nH P ty i)(hs:bg g s w){h m:O T}{vl vh vm:O aD}
  (c:qV i s x l h m=Z (p,t,s')) (S:p) (hx:aL g w x vx) (hl:TG g w l vl) (hh:TG g w h vh) (hm:TG g w m vm) :
  ∃g' v,(Instr.sliceAt ty vx vl vh vm).run P w=.ok v w/\bg g' s' w/\Ext s.fl g w g' w/\aL g' w t v/\s'.fl=s.fl/\s'.aH=s.aH:=by
 let ⟨_,d1,_,_,Eu,_,_,_,_,I⟩:=hi.all
 unfold qV at c;split at c;rename_i p0 lo wG hlo;rw[wG]at I;subst I;split at c;rename_i q b hb;split at c;rename_i r o u;obtain⟨rfl,rfl,rfl⟩:=c
 let ⟨c0,c1,c2⟩:=S.2.2.2
 rw[iO hb S.2.1 hx];cases hm;refine⟨g,_,?_,hs,Ext.refl _ _ _,.sym _ _ (.lit _),rfl,rfl⟩;have A:=lA hlo S.1 hl;have d:=lA u S.2.2.1 hh;have B:=nS (P:=P) (w:=w) J b.size b.size (A.imp (λh=>⟨h.1,h.2.2⟩) (·.1)) (d.imp (λh=>⟨h.1,h.2.2⟩) (·.1)) c0 c1 c2
 simp_all[Instr.sliceAt,Instr.slice,aO,NI]
 cases c;cases c;rename_i sz ag bt zero p0 lo wG hlo;rw[wG]at I;obtain⟨e,j,d',z,rfl,hj,yX,_,_,_,_,_,hpos,_⟩:=I;split at c;rename_i es s1 HM hfr;have A:=λf=>lA hlo f hl;split at c;rename_i r o u;obtain⟨rfl,rfl,rfl⟩:=c;cases hm
 let ⟨f,hq,hr,k,C⟩:=S
 let ⟨g',hs',E,hfl,F,hd⟩:=Od hs HM hq hx hfr
 obtain⟨a,cap,rfl,K,_⟩:=yF hd
 let ⟨c0,c1,c2⟩:=C
 unfold eT at c2;have d:=lA u hr hh
 let ⟨_,n⟩:=Qg hd k ⟨c0,c1,c2⟩ cap (by omega) (eP _)
 refine⟨g',_,?_,hs',E,.sym _ _ n,hfl,F⟩;have B:=nS (P:=P) (w:=w) W es.length cap ((A f).imp (λh=>⟨h.1,h.2.2⟩) (·.1)) (d.imp (λh=>⟨h.1,h.2.2⟩) (·.1)) c0 c1 (by omega:o<=cap);simp only[Instr.sliceAt,Instr.slice,run_bind,aO Eu,andThen_ok,dD hj,yX,B];rfl
 .rename_i o y th u;cases hm with
  |yes _ vy hy=>
  split at c;obtain⟨rfl,rfl,rfl⟩:=c
  let ⟨f,hq,hr,e1,e2⟩:=S
  obtain⟨a,cap,rfl,K⟩:=Uo hs HM hq hx;have d:=lA u hr hh;cases hy;obtain⟨_,h',_⟩|⟨hv,_⟩:=d
  cases h';have z1:o=0:=e2;refine⟨g,_,?_,hs,Ext.refl _ _ _,.emp a,rfl,rfl⟩;have B:=tP (P:=P) (w:=w) W es.length cap ((A f).imp (λh=>⟨h.1,h.2.2⟩) (·.1)) (by omega) (by omega:lo<=o) (by omega:o<=0) (by omega)
  simp_all[Instr.sliceAt,Instr.slice,aO,dD]
  simp only[gi,fH]at c;obtain⟨⟨t',mx⟩,hmx,rfl,rfl,rfl⟩:=c;obtain⟨f,hq,hr,ht,k,C,rfl⟩:=S
  let ⟨g',hs',E,hfl,F,hd⟩:=Od hs HM hq hx hfr
  obtain⟨a,cap,rfl,K,_⟩:=yF hd
  let ⟨c0,c1,c2⟩:=C
  unfold eT at c2;have d:=lA u hr hh
  let ⟨R,n⟩:=Qg hd k ⟨c0,c1,c2⟩ mx.toNat (eP _) (by omega)
  rw[dY hmx ht hy];obtain⟨_,h',_⟩|⟨hv,_⟩:=d
  cases h';subst hv;rw[<-R]at n;refine⟨g',.slice (if mx.toNat=lo.toNat then a else a.map (·.add (lo.toNat *sz))) (pY es lo mx).length (pY es lo mx).length,?_,hs',E,.kR 0 _ _ (GH _) n,hfl,F⟩;have B:=tP (P:=P) (w:=w) W es.length cap ((A f).imp (λh=>⟨h.1,h.2.2⟩) (·.1)) c0 c1 (zd _) (by omega:mx<=cap);simp only[Instr.sliceAt,Instr.slice,run_bind,aO Eu,andThen_ok,dD hj,yX,B,R];rfl
 iterate 3 cases c
def Kx{E:Env}(hs:bg g s w){f:Array TypeId}{rt:TypeId}(K:∀k i,E.ti k=Z i->nH P k i)
  (h:fV E s .len f [x]=Z (p,t,s')) (A:p) (C:aL g w x vx) :
  ∃v,(Builtin.len_ f rt #[vx]).run P w=.ok v w/\aL g w t v/\s'=s:=by
 unfold fV at h;simp at h;have r:∀i,(nth f.toList 0).bind E.ti=Z i->∃ty,f[0]?=Z ty/\nH P ty i:=by
  grind[kD]
 have l:∀i q u,(nth f.toList 0).bind E.ti=Z i->(∃a b c d,i.kd=.slice a b c d)->Cz s x=Z (q,u)->q->
   ∃v,(Builtin.len_ f rt #[vx]).run P w=.ok v w/\aL g w (.sym (.lit (.int .i64 (eT u)))) v:=by
  intro i q u hi o m F
  let ⟨ty,h1,h2⟩:=r i hi
  let ⟨_,d1,_,_,y,_,_,_,_,n⟩:=h2.all
  let ⟨a,b,c,d,o⟩:=o
  rw[o]at n;obtain⟨e,j,R,z,rfl,_⟩:=n;obtain⟨a,cap,rfl,_⟩:=Uo hs m F C;refine⟨_,?_,.sym _ _ (.lit _)⟩
  simp_all[Builtin.len_,aO,goInt,eT]
 split at h;rename_i b i I hi;split at h;rename_i o;obtain⟨rfl,rfl,rfl⟩:=h
 let ⟨ty,h1,h2⟩:=r i hi
 let ⟨_,d1,_,_,y,_,_,_,_,n⟩:=h2.all
 rw[o]at n;subst n;rw[iO I A C];refine⟨_,?_,.sym _ _ (.lit _),rfl⟩;simp[Builtin.len_,h1,aO y,goInt,vU];rename_i a b c d o;simp only[gi,fH]at h;obtain⟨⟨B,u⟩,m,rfl,rfl,rfl⟩:=h
 let ⟨v,h1,h2⟩:=l i B u hi ⟨_,_,_,_,o⟩ m A
 simp_all
 cases h;rename_i i _ hi;split at h;rename_i o;simp only[gi,fH]at h;obtain⟨⟨B,u⟩,m,rfl,rfl,rfl⟩:=h
 let ⟨v,h1,h2⟩:=l i B u hi ⟨_,_,_,_,o⟩ m A
 simp_all
 cases h;cases h
end
section
variable {P:cV}{g:Gh}{w:az}
variable {v:aD}{fr:Fr}{a:Act}
def Hg{d:D}(h:El v=Z d):d=.lit v:=by
 unfold El at h
 grind[Array.toList_eq_nil_iff]
def Ju{t:T}(h:ofConst v=Z t):aL g w t v:=by unfold ofConst at h;split at h;simp at h;subst h;exact .kb _;simp at h;subst h;exact .kn _ _;simp at h;subst h;exact .emp _;split at h;rename_i b c;simp at h;subst h;rw[afC.1 b,afC.1 c];exact .fn _ _ _ _ _ rfl rfl (λj t v h=>by simp at h) (λj t v h=>by simp at h);cases h;simp at h;obtain⟨d,a,rfl⟩:=h;rw[Hg a];exact .sym _ _ (.dn _ _ _ (.lit _));simp at h;obtain⟨d,a,rfl⟩:=h;rw[Hg a];exact .sym _ _ (.lit _)
theorem bY{fr:Fr}{a:Act}(hf:cZ g fr a w){x:Operand}{t:T}(h:kC fr x=Z t):aL g w t (a.eval x):=by
 cases x with
 |tmp k=>
  let ⟨v,b,c⟩:=hf.tm k t h
  simp_all[Act.eval]
 |const v=>exact Ju h|global _=>cases h
 |func f=>simp[kC,gV]at h;subst h;exact .fn _ _ _ _ _ rfl rfl (λj t v h=>by simp at h) (λj t v h=>by simp at h)
def fe{fr:Fr}{a:Act}(hf:cZ g fr a w):∀{l:L Operand}{ts:L T},zf fr l=Z ts->PW (aL g w) ts (l.map a.eval)
 |[],ts,h=>by simp only[zf,gV]at h;subst h;exact⟨rfl,λj t v h=>by simp at h⟩
 |x::l,ts,h=>by
  simp[zf]at h;split at h
  .rename_i h2;simp at h;subst h;have b:=fe hf h2;refine⟨by simp[b.1],λj c v d e=>?_⟩;cases j with|zero=>grind[bY]|succ j=>exact b.2 j c v (by simpa using d) (by simpa using e)
  cases h
def qA(g:Gh)(w:az)(a:Nat×T)(b:Nat×aD):Prop:=a.1=b.1/\aL g w a.2 b.2
def qf{fr:Fr}{a:Act}(hf:cZ g fr a w):∀{l:L (Nat×Operand)}{ts:L (Nat×T)},sR fr l=Z ts->PW (qA g w) ts (l.map λ(i,x)=>(i,a.eval x))
 |[],ts,h=>by simp only[sR,gV]at h;subst h;exact⟨rfl,λj t v h=>by simp at h⟩
 |(k,x)::l,ts,h=>by
  simp[sR]at h;split at h
  .rename_i h1 h2;simp at h;subst h;have d:=qf hf h2;refine⟨by simpa using d.1,λj e v b c=>?_⟩;cases j with|zero=>simp at b c;subst b;subst c;exact⟨rfl,bY hf h1⟩|succ j=>exact d.2 j e v (by simpa using b) (by simpa using c)
  cases h
def zW(hf:cZ g fr a w){x:O Operand}{t:O T}(h:OX fr x=Z t):TG g w t (x.map a.eval):=by cases x with|none=>simp[OX,gV]at h;subst h;exact .no|some x=>simp[OX,gi]at h;obtain⟨u,b,rfl⟩:=h;exact .yes _ _ (bY hf b)
def Db(off:Nat):∀(l:L aD)(a:Nat)(cells:Array aD),off+a+l.length<=cells.size->
  (l.zipIdx a).foldl (λcs x=>cs.setIfInBounds (off+x.2) x.1) cells=(cells.toList.take (off+a)++l++cells.toList.drop (off+a+l.length)).toArray
 |[],a,cells,h=>by simp
 |c::l,a,cells,h=>by
  simp at h;simp only[List.zipIdx_cons,OJ];rw[Db off l (a+1) _ (by simp;omega)]
  congr 1
  have b:off+(a+1)=off+a+1:=by omega
  have d:off+a+1+l.length=off+a+(l.length+1):=by omega
  have h1:(cells.toList.set (off+a) c).take (off+a+1)=cells.toList.take (off+a)++[c]:=by
   rw[List.take_add_one,List.take_set,Sa,bH rfl,bH (by simp;omega)]
   grind[List.set_eq_of_length_le]
  simp_all[List.drop_set]
def xl{place:Nat->O (Nat×TI)}{pl:Nat->O (Nat×Nat)}(d:∀k off i,place k=Z (off,i)->pl k=Z (off,i.size)) :
  ∀(ps:L (Nat×T))(vs:L (Nat×aD)){cells:L T}{cs:Array aD}{p:Prop}{r:L T},HW place cells ps=Z (p,r)->p->PW (qA g w) ps vs->PW (aL g w) cells cs.toList->
   ∃o,Instr.fill pl cs vs=Z o/\PW (aL g w) r o.toList
 |[],[],cells,cs,p,r,h,q,_,m=>by obtain⟨_,rfl⟩:=h;exact⟨cs,rfl,m⟩
 |(k,t)::ps,(R,v)::vs,cells,cs,p,r,h,q,c,m=>by
  have s:=c.2 0 _ _ rfl rfl;obtain⟨rfl,C⟩:=s;have f:PW (qA g w) ps vs:=⟨by simpa using c.1,λj a b E u=>c.2 (j+1) a b (by simpa using E) (by simpa using u)⟩;simp only[HW]at h;split at h;cases h;rename_i off i x;split at h;cases h;rename_i l F;obtain⟨u,h⟩|⟨_,h⟩:=ah h
  simp only[gi,fH]at h;obtain⟨⟨S,r'⟩,I,rfl,rfl⟩:=h;have y:=gY u;rw[bZ,bZ]at y
  let ⟨n,K⟩:=qM F q.1 C
  have z:v.cells.size=l.length:=by simpa using n.1.symm
  have P:cells.length=cs.size:=by simpa using m.1
  have B:off+v.cells.toList.length<=cs.size:=by
   simp_all
  have e:=Db off v.cells.toList 0 cs (by omega);simp only[Nat.add_zero]at e
  let ⟨o,h1,h2⟩:=xl d ps vs (cs:=(cs.toList.take off++v.cells.toList++cs.toList.drop (off+v.cells.toList.length)).toArray) I q.2.2 f (by
   rw[bZ];simp only[Array.length_toList,z];exact((m.take off).append n).append (m.drop _))
  refine⟨o,?_,h2⟩;have A:¬(v.cells.size≠i.size||off+v.cells.size>cs.size)=W:=by
   simp_all
  simp only[Instr.fill,d _ _ _ x];rw[bS A,<-h1,<-e]
  congr 1
  rw[<-Array.foldl_toList,Array.toList_zipIdx];cases h
 |[],_::_,_,_,_,_,_,_,c,_=>by simp[PW]at c
 |_::_,[],_,_,_,_,_,_,c,_=>by simp[PW]at c
def za{α β:Type}(f:α->Sem β)(r:α->β):∀(l:L α),(∀x∈l,(f x).run P w=.ok (r x) w)->(l.mapM f).run P w=.ok (l.map r) w
 |[],_=>rfl|x::l,h=>by
  have h2:=za f r l (λy a=>h y (by simp[a]))
  simp_all
def QA{ty:TypeId}{i:TI}(hi:nH P ty i){fs:L (Nat×Nat×aa)}(s:i.kd=.struct fs){ps:L (Nat×T)}{vs:Array (Nat×aD)}(x:PW (qA g w) ps vs.toList)
  {p:Prop} {cs:L T} (h:HW (λk=>match nth fs k with|some (off,size,ag)=>Z (off,{(default:TI)with size:=size,agg:=ag})|none=>Y) (i.zero.map ru) ps=Z (p,cs)) (S:p) :
  ∃v,(Instr.build ty vs).run P w=.ok v w/\aL g w (.agg cs) v:=by
 let ⟨xi,d1,z,y,A,_,hag,B,e,l⟩:=hi.all
 rw[s]at l;obtain⟨fields,rfl,C,u⟩:=l;have m:=tK (g:=g) (w:=w) e;have E:∀f:Field,∃n:Nat,f∈fields.toList->(Go.sizeOf f.type).run P w=.ok n w:=by
  intro f;by_cases R:f∈fields.toList;obtain⟨k,s,rfl⟩:=sd R;have F:k<fs.length:=by rw[<-C];simpa using s
  let ⟨d,j,d',h1,h2,h3,h4,_⟩:=u k (fs[k]).1 (fs[k]).2.1 (fs[k]).2.2 (iZ F)
  have:d=fields.toList[k]:=by
   have b:fields.toList[k]?=Z d:=by simpa using h1
   rw[iZ s]at b;exact(ko b).symm
  subst this;exact⟨j.size,λ_=>dD h3 w⟩;exact⟨0,λh=>absurd h R⟩
 let ⟨sz,c⟩:=Ws E
 have o:=za (P:=P) (w:=w) (λf:Field=>Functor.map (Prod.mk f.offset) <| Go.sizeOf f.type) (λf=>(f.offset,sz f)) fields.toList (λf u=>by simp[c f u]);obtain⟨rs,h1,h2⟩:=xl (g:=g) (w:=w) (pl:=λk=>((fields.toList.map λf=>(f.offset,sz f)).toArray)[k]?) (λk off ti a=>by
  simp[kD]at a;split at a;rename_i q size ag I;simp at a;obtain⟨rfl,rfl⟩:=a
  let ⟨d,j,d',h1,h2,h3,h4,_⟩:=u k q size ag I
  have r:d∈fields.toList:=by
   have b:fields.toList[k]?=Z d:=by simpa using h1
   exact iG b
  have K:=c d r;rw[dD h3]at K;simp at K;simp[h1,h2,<-K,h4];cases a) ps vs.toList h S x ⟨by simpa using m.1,λj t v h1 h2=>m.2 j t v h1 (by simpa using h2)⟩
 refine⟨.agg rs,?_,.agg _ _ (by simpa using h2.1) (λj t v h3 h4=>h2.2 j t v h3 (by simpa using h4))⟩;simp only[Instr.build,run_bind,eB y B,aO A,andThen_ok,Array.mapM_eq_mapM_toList];simp at h1;simp[o,h1]
end
section
variable {P:cV}{g:Gh}{w:az}
variable {s:St}{I:Nat->Prop}{ag:aa}{sz len:Nat}{d:D}{v:aD}{i:TI}{cells:Array aD}{zero:List D}
def bg.ZC(hs:bg g s w){w':az}(o:Obj)(t:w'.heap=w.heap.push o)(m:w'.os=w.os)(i:w'.output=w.output) :
  bg (g.lW (·=w.heap.size)) s w'/\Ext s.fl g w (g.lW (·=w.heap.size)) w':=by
 have d:∀b,b<w.heap.size->w'.heap[b]?=w.heap[b]?:=λb f=>by rw[t,Array.getElem?_push,bS (by omega)]
 have n:w'.heap.size=w.heap.size+1:=by rw[t];simp
 have e:∀k b,bL (g.lW (·=w.heap.size)) k b->bL g k b:=λk b h=>⟨λx=>h.1 (.inl x),h.2⟩;have p:Ext s.fl g w (g.lW (·=w.heap.size)) w':=
  ⟨λ_ _ h=>h,λ_ _ _ h=>h,λ_ h=>.inl h,by omega,λb f _=>d b f,λk b h=>.inl (e k b h),λb h=>h.imp id λh=>.inl (by omega),m,i⟩
 refine⟨⟨hs.aH,hs.aj,λk c q=>?_,λk j y z=>?_,λb f=>?_,λk u b h A=>hs.kj k u b (e k b h) (e u b A)⟩,p⟩;have a:=hs.box k c q;refine a.ext p hs.bF (d c a.2.1) rfl ?_
 rintro(h|h)
 exact a.1 h;have:=a.2.1;omega;have l:=hs.arr k j y z;have r:∀v,y.a=Z v->y.cap≠0->v.block<w.heap.size:=l.1;refine l.ext p hs.bF (λb f q=>⟨d b (r _ f q),⟨λh=>h.elim id λh=>?_,.inl⟩⟩) rfl rfl
 simp_all
 obtain f|f:=f
 have:=hs.bF b f;omega;omega
structure vN(I:Nat->Prop)(w:az)(sz:Nat)(es:List D)(cells:Array aD):Prop where
 size:cells.size=es.length*sz
 rows:∀d∈es,d.cells.length=sz
 rel:∀i j d c,es[i]?=Z d->d.cells[j]?=Z c->∃v,cells[i*sz+j]?=Z v/\dP I w c v
def S4(h:(bif ag then d.isAgg sz else d.leaf)=W)(h1:(ag||Nq sz 1)=W)(b:dP I w d v) :
  d.cells.length=sz/\v.cells.size=sz/\∀(j:Nat)(c:D)(u:aD),d.cells[j]?=Z c->v.cells[j]?=Z u->dP I w c u:=by
 cases ag with
 |true=>
  obtain⟨i,rfl,e,_⟩:=z6 h;cases b with|agg _ k a _ f=>exact⟨e,by simp[Value.cells,<-a,e],λj c u h2 h3=>f j c u h2 h3⟩
 |false=>
  simp at h h1
  let ⟨_,l⟩:=w6 h b
  have g:d.cells=[d]:=by cases d<;>first|rfl|(simp[D.leaf]at h)
  grind
def EF{s:St}(hs:bg g s w){i:TI}:∀(ps:L (Nat×T))(vs:L (Nat×aD)){es r:L D}{p:Prop}{os:L Nat},s5 s i es ps=Z (p,r,os)->p->PW (qA g w) ps vs->
  ∀o∈os,Live g s o
 |[],_,es,r,p,os,h,f,_=>by obtain⟨_,rfl,rfl⟩:=h;intro o ho;cases ho
 |(k,t)::ps,(x,v)::vs,es,r,p,os,h,f,c=>by
  obtain⟨rfl,m⟩:=c.2 0 _ _ rfl rfl;have d:PW (qA g w) ps vs:=⟨by simpa using c.1,λj a b n l=>c.2 (j+1) a b (by simpa using n) (by simpa using l)⟩;simp only[s5]at h;split at h;cases h;rename_i q;obtain⟨l,h⟩|⟨_,h⟩:=ah h
  simp only[gi,fH]at h;obtain⟨⟨y,z,u⟩,e,rfl,rfl,rfl⟩:=h
  let ⟨a1,_⟩:=mH hs t q f.1 m
  have a2:=EF hs ps vs e f.2.2 d;intro o ho;obtain ho|ho:=fc.1 ho
  exact a1 o ho;exact a2 o ho;cases h
 |_::_,[],_,_,_,_,_,_,c=>by simp[PW]at c
def BG{s:St}(hs:bg g s w){sz:Nat}{ag:aa}(h1:(ag||Nq sz 1)=W){g':Gh}{s':St}(A:bg g' s' w)(he:Ext s.fl g w g' w) :
  ∀(ps:L (Nat×T))(vs:L (Nat×aD)){es r:L D}{cells:Array aD}{p:Prop}{os:L Nat},s5 s {(default:TI)with size:=sz,agg:=ag} es ps=Z (p,r,os)->p->PW (qA g w) ps vs->
   jM s s' os->vN g'.bF w sz es cells->(∀o∈os,Live g s o)/\∃I,Instr.fill (λi=>Z (i*sz,sz)) cells vs=Z I/\vN g'.bF w sz r I/\r.length=es.length
 |[],[],es,r,cells,p,os,h,K,_,_,n=>by obtain⟨_,rfl,rfl⟩:=h;exact⟨λo z=>(by cases z),cells,rfl,n,rfl⟩
 |(k,t)::ps,(k',v)::vs,es,r,cells,p,os,h,K,f,B,n=>by
  obtain⟨rfl,hv⟩:=f.2 0 _ _ rfl rfl;simp only at hv;have q:PW (qA g w) ps vs:=⟨by simpa using f.1,λj a b ha hb=>f.2 (j+1) a b (by simpa using ha) (by simpa using hb)⟩;simp only[s5]at h;split at h;cases h;rename_i d R S;obtain⟨hb,h⟩|⟨_,h⟩:=ah h
  simp only[gi,fH]at h;obtain⟨⟨p',r',os2⟩,C,rfl,rfl,rfl⟩:=h;have E:k<es.length:=by
   simp_all[bZ]
  let ⟨a1,a2⟩:=mH hs t S K.1 hv
  have z1:jM s s' R:=B.sub (λo z=>gf _ z);have z2:jM s s' os2:=B.sub (λo z=>e9 _ z);have hdr:=a2 g' s' A he z1
  let ⟨c1,c2,c3⟩:=S4 K.2.1 h1 hdr
  have P:k*sz+sz<=cells.size:=by
   rw[n.size];have:(k+1)*sz<=es.length*sz:=zU _ E
   grind
  have l:=Db (k*sz) v.cells.toList 0 cells (by simp_all);simp only[Nat.add_zero,Array.length_toList,c2]at l;have F:vN g'.bF w sz (es.set k d) (cells.toList.take (k*sz)++v.cells.toList++cells.toList.drop (k*sz+sz)).toArray:=by
   refine⟨?_,λx m=>?_,λi j x c m hj=>?_⟩;simp only[UA,jR,Me,Array.length_toList,Uy,c2,Md,<-n.size];omega;obtain m|rfl:=YL m
   exact n.rows x m;exact c1;rw[Sa]at m;by_cases y:k=i;subst y;rw[bH rfl,bH E]at m;simp at m;subst m;have yX:j<sz:=by grind
   refine⟨v.cells[j],?_,c3 j c _ hj (uS (by omega))⟩
   grind
   rw[bS y]at m
   let ⟨u,hu,S⟩:=n.rel i j x c m hj
   have yX:j<sz:=by rw[<-n.rows x (iG m)];grind
   refine⟨u,?_,S⟩;rw[UE,tS,tS];obtain hik|hik:=Nat.lt_or_gt_of_ne (λe=>y e.symm:i≠k)
   have:(i+1)*sz<=k*sz:=zU _ hik
   grind
   have:(k+1)*sz<=i*sz:=zU _ hik
   grind
  let ⟨b1,I,b2,b3,b4⟩:=BG hs h1 A he ps vs C K.2.2 q z2 F
  refine⟨λo z=>?_,I,?_,b3,by rw[b4];simp⟩
  grind
  have hno:¬(v.cells.size≠sz||k*sz+v.cells.size>cells.size)=W:=by
   simp_all
  simp only[Instr.fill];rw[bS hno,<-b2,<-l]
  congr 1
  rw[<-Array.foldl_toList,Array.toList_zipIdx];cases h
 |[],_::_,_,_,_,_,_,_,_,f,_,_=>by simp[PW]at f
 |_::_,[],_,_,_,_,_,_,_,f,_,_=>by simp[PW]at f
def am6(d:D):d.s9<=24*d.cells.length:=by
 have b:∀x:D,x.lby<=24:=by intro x;unfold D.lby;split<;>omega
 have c:∀l:L D,D.pQ l<=24*l.length:=by
  intro l
  induction l with
  |nil=>exact GH _|cons a l g=>
   grind[D.pQ]
 cases d with
 |agg e=>exact c e|lit v=>
  unfold D.s9;have:(D.lit v).cells.length=1:=rfl;rw[this];split<;>first|omega|exact b _|simp_all
 |sl f=>exact b (.sl f)|dn t d=>exact b (.dn t d)|gX ds=>exact b (.gX ds)|pt d=>exact b (.pt d)|mp k v=>exact b (.mp k v)
def vN.Xy{es:L D}(h:vN I w sz es cells){b:Nat}{ty:TypeId}{fz:Nat×Nat}(m:w.heap[b]?=Z (.cells cells ty fz))(n:I b){cap:Nat}(a:es.length<=cap)
  (k:∀d∈es,es.length*d.s9<=281474976710656):dP I w (.sl es) (.slice (Z ⟨b,0,Y⟩) es.length cap):=by
 have l:∀q:Nat×Nat,∃v,∀d c,es[q.1]?=Z d->d.cells[q.2]?=Z c->cells[q.1*sz+q.2]?=Z v/\dP I w c v:=by
  rintro⟨i,j⟩
  by_cases o:i<es.length;by_cases f:j<(es[i]).cells.length
  let ⟨v,r,s⟩:=h.rel i j _ _ (iZ o) (iZ f)
  refine⟨v,λd c g p=>?_⟩
  grind
  refine⟨undef,λd c g p=>?_⟩
  simp_all
  simp_all
 let ⟨val,e⟩:=Ws l
 refine .sl es _ cap sz (λi j=>val (i,j)) a h.rows k (λ_=>⟨_,rfl,n,λi j d c g f=>?_⟩) (λi j d c g f=>(e (i,j) d c g f).2);rw[og,cell?_of_block m]
 simp_all
def Cs(h:aiT d v):dP I w d v:=by
 obtain⟨rfl,rfl⟩|rfl:=h
 exact .sl [] Y 0 0 (λ_ _=>undef) (by simp) (by simp) (by simp) (λh=>absurd rfl h) (λi j d c h=>by simp at h);exact .lit _
theorem vN.mono{I a:Nat->Prop}{w w':az}{sz:Nat}{es:L D}{cells:Array aD}(h:vN I w sz es cells)(e:kg I w w')(f:∀b,I b->a b):vN a w' sz es cells:=
 ⟨h.size,h.rows,λi j d c g k=>let ⟨v,l,m⟩:=h.rel i j d c g k;⟨v,l,m.mono e f⟩⟩
def NV(a:ZOk zero cells)(h1:(ag||Nq sz 1)=W)(hl:cM zero=sz) :
  vN I w sz (List.replicate len (bif ag then .agg zero else zero.getD 0 default)) ((Array.range (len*sz)).map (cells[·%cells.size]!)):=by
 rw[bZ]at hl;have b:cells.size=sz:=by rw[<-a.1,hl]
 have n:(bif ag then D.agg zero else zero.getD 0 default).cells=zero:=by
  cases ag with
  |true=>rfl|false=>
   simp at h1;have e:zero.length=1:=by rw[hl,h1]
   match zero,e with
   |[d],_=>
    have:=a.2 0 d cells[0] rfl (uS (by omega));obtain⟨h,_⟩|h:=this<;>(rw[h];rfl)
 refine⟨by simp,λd f=>?_,λi j d c p o=>?_⟩;rw[Zc f,n,hl];have g:i<len:=by grind
 have k:d=(bif ag then D.agg zero else zero.getD 0 default):=Zc (iG p);rw[k,n]at o;have l:j<sz:=by grind
 have m:i*sz+j<len*sz:=by
  have:(i+1)*sz<=len*sz:=zU _ g
  grind
 refine⟨cells[j]'(by omega),?_,Cs (a.2 j c _ o (uS (by omega)))⟩;have q:(i*sz+j)%cells.size=j:=by rw[b,OG,Nat.mul_add_mod,Nat.mod_eq_of_lt l]
 simp[m,q];rw[getElem!_pos cells j (by omega)]
def Dy{ty:TypeId}(hi:nH P ty i){s1:St}(hs:bg g s w){bt:Nat}(hk:i.kd=.slice sz ag bt zero)(h1:(ag||Nq sz 1)=W)(A:cM zero=sz)(h0:sz≠0)
  (hlen:len*sz<=16777216) {ps:L (Nat×T)} {vs:Array (Nat×aD)} (m:PW (qA g w) ps vs.toList) {p:Prop} {es:L D} {os:L Nat}
  (h:s5 s {(default:TI)with size:=sz,agg:=ag} (List.replicate len (bif ag then .agg zero else zero.getD 0 default)) ps=Z (p,es,os)) (hp:p) (hf:freeze s os=Z s1) :
  ∃w' g' v,(Instr.buildSlice ty len vs).run P w=.ok v w'/\bg g' s1 w'/\Ext s.fl g w g' w'/\aL g' w' (.kR len es) v/\s1.fl=s.fl/\s1.aH=s.aH:=by
 let ⟨xi,d1,z,Pn,n,_,hag,hzx,CX,o⟩:=hi.all
 rw[hk]at o;obtain⟨e,j,d',z',rfl,B,q,hue,hage,C,E,_,_,_⟩:=o;have r:=EF hs ps vs.toList h hp m
 let ⟨g1,f,t,b⟩:=eK os hs hf r
 let ⟨_,rs,a,c,F⟩:=BG hs h1 f t ps vs.toList h hp m b (NV E h1 A)
 have u:es.length=len:=by rw[F];simp
 let ⟨I,k⟩:=f.ZC (w':=w.alloc (.cells rs e)) (.cells rs e) rfl rfl rfl
 have l:=c.mono (k.keeps f.bF) k.bF;have K:=l.Xy (cap:=es.length) (yJ w _) (.inr rfl) (eP _) (λd K=>by
  have h3:=am6 d;rw[c.rows d K]at h3;have h4:es.length*d.s9<=len*(24*sz):=by simp_all[Nat.mul_le_mul_left]
  grind)
 refine⟨_,_,.slice (Z ⟨w.heap.size,0,Y⟩) es.length es.length,?_,I,(b.fl▸t.trans (b.fl▸k)),.kR len es _ (by omega) K,b.fl,b.aH⟩;have R:¬(len*sz>2 ^ 24):=by omega
 by_cases S:len*sz=0;have y:len=0:=by
  grind[Nat.mul_eq_zero]
 subst y;simp at a;have hr0:(Array.range 0).map (λx=>z'.cells[x%z'.cells.size]!)=#[]:=by simp
 rw[hr0]at a;have he0:es.length=0:=u;have hr1:Array.range 0=#[]:=by simp
 simp[hr1,Instr.buildSlice,aO n,dD B,q,a,newRow,he0];simp[Instr.buildSlice,aO n,dD B,q,eB B C,R,S,a,newRow,u]
end
section
variable {P:cV}{g:Gh}{w:az}
structure tj(I:Nat->Prop)(w:az)(sz:Nat)(es:List D)(vals:List aD):Prop where
 len:vals.length=es.length*sz
 rows:∀d∈es,d.cells.length=sz
 rel:∀i j d c,es[i]?=Z d->d.cells[j]?=Z c->∃v,vals[i*sz+j]?=Z v/\dP I w c v
theorem MI{i j n sz:Nat}(hi:i<n)(a:j<sz):i*sz+j<n*sz:=by
 have:(i+1)*sz<=n*sz:=zU _ hi
 grind
theorem ad6{i j sz:Nat}(a:j<sz):(i*sz+j)/sz=i/\(i*sz+j)%sz=j:=by
 grind[Nat.mul_comm,Nat.mul_add_div,Nat.div_eq_of_lt,Nat.mul_add_mod,Nat.mod_eq_of_lt]
def sn(sz n:Nat)(val:Nat->Nat->aD):L aD:=(List.range (n*sz)).map λk=>val (k/sz) (k%sz)
variable {sz n:Nat}{val:Nat->Nat->aD}{v:aD}{s:St}{t:T}{p:Prop}{es:List D}{I:Nat->Prop}{vals:List aD}
def DY{i j:Nat}(hi:i<n)(a:j<sz):(sn sz n val)[i*sz+j]?=Z (val i j):=by
 grind[ad6,sn,MI]
def A2{k:Nat}(a:0<sz)(h:(sn sz n val)[k]?=Z v):∃i j,i<n/\j<sz/\k=i*sz+j/\v=val i j:=by
 simp[sn,lK,gi]at h;obtain⟨d,b,rfl⟩:=h;obtain⟨rfl,c⟩:=zQ b;refine⟨k/sz,k%sz,UB (by grind),Nat.mod_lt _ a,?_,rfl⟩
 grind[Nat.div_add_mod]
def tM(hs:bg g s w)(h:Cz s t=Z (p,es))(hp:p)(ht:aL g w t v)(h0:0<sz)(r:jO es sz) :
  ∃a cap,v=.slice a es.length cap/\es.length<=cap/\(∀d∈es,es.length*d.s9<=281474976710656)/\
   (es≠[]->∃ad val,a=Z ad/\(g.bF ad.block\/∃o,tX t=[o]/\bL g o ad.block)/\
    (∀i j,i<es.length->j<sz->w.cell? (ad.add (i*sz+j))=Z (val i j))/\tj g.bF w sz es (sn sz es.length val)):=by
 have data:∀{v:aD},dP g.bF w (.sl es) v->∃a cap,v=.slice a es.length cap/\es.length<=cap/\(∀d∈es,es.length*d.s9<=281474976710656)/\
   (es≠[]->∃ad val,a=Z ad/\(g.bF ad.block\/∃o,tX t=[o]/\bL g o ad.block)/\
    (∀i j,i<es.length->j<sz->w.cell? (ad.add (i*sz+j))=Z (val i j))/\tj g.bF w sz es (sn sz es.length val)):=by
  intro v k;obtain⟨a,cap,rfl,K,S,B⟩:=yF k;refine⟨a,cap,rfl,K,S,λx=>?_⟩;obtain⟨ad,f,rfl,y,z,val,hc,hr⟩:=B x;have C:f=sz:=by obtain⟨d,ds,rfl⟩:=UG x;rw[<-y d (by simp),r d (by simp)]
  subst C;have E:∀i j(q:i<es.length)(l:j<f),(es[i]).cells[j]?=Z ((es[i]).cells[j]'(by rw[y _ (Oz q)];exact l)):=λi j q l=>iZ _;refine⟨ad,val,rfl,.inl z,λi j q l=>hc i j _ _ (iZ q) (E i j q l),⟨by simp[sn],y,λi j d c k l=>?_⟩⟩;have q:=cF k;have F:j<f:=by rw[<-y d (iG k)];exact cF l
  exact⟨val i j,DY q F,hr i j d c k l⟩
 cases ht with
 |emp a=>obtain⟨_,rfl⟩:=h;exact⟨a,0,rfl,eP _,by simp,λh=>absurd rfl h⟩
 |kR n P a hn k=>obtain⟨_,rfl⟩:=h;exact data k
 |qx j d c a l k=>obtain⟨_,rfl⟩:=h;exact data (BK l k)
 |sym d v k=>obtain⟨rfl,rfl⟩:=h;rw[D.yB hp]at k;exact data k
 |sh o e len cap sz2 a hx=>
  have key:∃fz f,s.ob.get o=Z (gz fz f es e):=by
   simp[Cz]at h;split at h;rename_i f P era R;obtain⟨hb,h⟩|⟨_,h⟩:=ah h
   have I:=beq_iff'.1 hb;simp only[gV,fH]at h;exact⟨J,f,by rw[R,h.2,I];rfl⟩;cases h;rename_i f P era R;obtain⟨hb,h⟩|⟨_,h⟩:=ah h
   have I:=beq_iff'.1 hb;simp only[gV,fH]at h;exact⟨W,f,by rw[R,h.2,I];rfl⟩;cases h;cases h
  let ⟨fz,f,R⟩:=key
  let ⟨m,aaf⟩:=hs.oc R hx
  have h1:=m.len;have h2:=m.cap;simp only at h1 h2;refine⟨a,cap,by rw[h1],by omega,m.Yb,λx=>?_⟩;have hpos:0<es.length:=Mf.2 x
  let ⟨b,vs,ty,hab,hfz,hh,hcs,A⟩:=m.mem (by simp only;omega)
  subst hab;have C:f=sz:=by obtain⟨d,ds,rfl⟩:=UG x;rw[<-m.rows d (by simp),r d (by simp)]
  subst C;have hcs':cap*f<=vs.size:=hcs;have hvs:∀i j,i<es.length->j<f->i*f+j<vs.size:=λi j q l=>by have:=MI (show i<cap by omega) l;omega
  refine⟨⟨b,0,Y⟩,λi j=>vs.getD (i*f+j) undef,rfl,?_,λi j q l=>?_,⟨by simp[sn],m.rows,λi j d c k l=>?_⟩⟩;by_cases z:g.bF b;exact .inl z;exact .inr ⟨o,rfl,z,.inr ⟨e,_,_,hx,rfl,rfl,by simp only;omega⟩⟩;rw[og,cell?_of_block hh];have:=hvs i j q l;simp[this];have q:=cF k;have F:j<f:=by rw[<-m.rows d (iG k)];exact cF l
  let ⟨u,hu,hr⟩:=A i d j c k l
  refine⟨u,?_,hr⟩;rw[DY q F];simp[hu]
 |_=>simp[Cz]at h
def tj.one(h:tj I w sz es vals)(e:0<sz)(hf:∀d∈es,d.flat=W):∀v∈vals,v.oneCell'=W:=by
 intro v f;obtain⟨k,g,rfl⟩:=sd f;have i:k<es.length*sz:=by rw[<-h.len];exact g
 have c:k/sz<es.length:=UB (by grind);have j:k%sz<sz:=Nat.mod_lt _ e;have a:=Oz c;have b:k%sz<(es[k/sz]).cells.length:=by rw[h.rows _ a];exact j
 let ⟨u,l,m⟩:=h.rel (k/sz) (k%sz) _ _ (iZ c) (iZ b)
 grind[Nat.div_add_mod,D.flat,w6,List.getElem_mem]
def tj.append{es':L D}{a:L aD}(h:tj I w sz es vals)(e:tj I w sz es' a):tj I w sz (es++es') (vals++a):=by
 refine⟨by simp[h.len,e.len,Nat.add_mul],λd b=>?_,λi j d c b f=>?_⟩;obtain b|b:=fc.1 b
 exact h.rows d b;exact e.rows d b;rw[tS]at b;by_cases g:i<es.length;rw[bH g]at b
 let ⟨v,l,k⟩:=h.rel i j d c b f
 grind
 rw[bS g]at b
 let ⟨v,l,k⟩:=e.rel (i-es.length) j d c b f
 refine⟨v,?_,k⟩;have m:es.length*sz<=i*sz:=zU _ (by omega);rw[tS,bS (by rw[h.len];omega),h.len]
 grind[Nat.sub_mul]
def tj.nil:tj I w sz [] []:=⟨by simp,by simp,λi j d c h=>by simp at h⟩
theorem tj.mono{I a:Nat->Prop}{w w':az}{sz:Nat}{es:L D}{vals:L aD}(h:tj I w sz es vals)(e:kg I w w')(f:∀b,I b->a b):tj a w' sz es vals:=
 ⟨h.len,h.rows,λi j d c g k=>let ⟨v,l,m⟩:=h.rel i j d c g k;⟨v,l,m.mono e f⟩⟩
def AU(hs:bg g s w)(h:Cz s t=Z (p,es))(x:p)(y:aL g w t v)(l:0<sz)(c:jO es sz)(hf:∀d∈es,d.flat=W)
  {n z:TypeId} (o:P.underlying n=Z (.slice z)):∃b,Src P sz n v es.length b w/\tj g.bF w sz es b/\Builtin.lenOf v=Sem.pure es.length:=by
 obtain⟨a,cap,rfl,q,A,e⟩:=tM hs h x y l c;by_cases f:es=[]
 .subst f;refine⟨[],?_,.nil,rfl⟩;cases a with|none=>exact Src.ofNil w o cap|some r=>grind[Src.ofSlice]
 obtain⟨r,val,rfl,_,C,m⟩:=e f;refine⟨_,Src.ofSlice w o r es.length cap _ m.len (λk u B=>?_) (m.one l hf),m,rfl⟩;obtain⟨i,j,E,F,rfl,rfl⟩:=A2 l B
 grind
def Jg(P:cV)(t a rt:TypeId)(vx vy:aD)(w:az)(R:aD->az->Prop):Prop:=
 ∃v w',(Builtin.append_ #[t,a] rt #[vx,vy]).run P w=.ok v w'/\R v w'
def BZ{ty f rt e k:TypeId}{j:TypeInfo}{z:aD}(l:P.underlying ty=Z (.slice e))(m:P.underlying f=Z (.slice k))(o:P.info? e=Z j)(p:j.zero=Z z)(g:0<j.bytes)
  {base:O Addr} {len cap n:Nat} {olds a:L aD} {vy:aD} (c:(Builtin.firstCells j.size len (.slice base len cap)).run P w.drew=.ok olds.toArray w.drew)
  (hs:Src P j.size f vy n a w) (q:cap<len+n) (i:Builtin.nextslicecap (len+n) cap*j.bytes<=281474976710656) :
  Jg P ty f rt (.slice base len cap) vy w λv w'=>∃b,v=.slice (Z ⟨w.heap.size,0,Y⟩) (len+n) b/\len+n<=b/\
   w'=w.drew.alloc (.cells ((olds++a).toArray++Builtin.zeroCells z.cells (b-(len+n))) e):=by
 have r:(len+n)*j.bytes<=281474976710656:=gE (zU _ (le_nextslicecap (by omega))) i;have h:((len+n:Nat):Int)<=9223372036854775807:=by have:len+n<=(len+n)*j.bytes:=Nat.le_mul_of_pos_right _ g;omega
 have d:=run_append_grow_src (P:=P) w ty f rt e j z l o p base len cap olds c vy n a hs q h i;exact⟨_,_,d,_,rfl,grownCap_ge w (len+n) cap e,rfl⟩
def IK{ty b rt e:TypeId}{j:TypeInfo}(d:P.underlying ty=Z (.slice e))(f:P.info? e=Z j){base:O Addr}{len cap:Nat}{vy:aD}(hs:Src P j.size b vy 0 [] w)(a:len<=cap) :
  (Builtin.append_ #[ty,b] rt #[.slice base len cap,vy]).run P w=.ok (.slice base len cap) w:=by
 obtain⟨g,c⟩|c:=hs.kind<;>cases base<;>
  simp[Builtin.append_,aO d,aO c,dD f,hs.len,a,hs.cells,storeCells]
end
section
variable {P:cV}{g:Gh}{w:az}
variable {o:Obj}{w':az}{sz cap n s9 bt:Nat}{es:List D}{vals:List aD}
def GQ(a:w'.heap=w.heap.push o)(b:Nat)(c:b<w.heap.size):w'.heap[b]?=w.heap[b]?:=by rw[a,Array.getElem?_push,bS (by omega)]
def OS(a:w'.heap=w.heap.push o):w'.heap[w.heap.size]?=Z o:=by rw[a];simp
def VC{g':Gh}(a:g'.bF=g.bF)(hi:∀b,g.bF b->b<w.heap.size){m:Array aD}{e:TypeId}
  (n:w'.heap=w.heap.push (.cells (vals.toArray++m) e)) (f:tj g.bF w sz es vals) (p:0<sz) (k:m.size=(cap-es.length)*sz) (q:es.length<=cap) (r:es≠[])
  (l:∀d∈es,es.length*d.s9<=281474976710656):yc g' w' J sz es ⟨Z ⟨w.heap.size,0,Y⟩,es.length,cap,sz⟩:=by
 have s:kg g.bF w w':=λb o=>GQ n b (hi b o);refine⟨rfl,q,f.rows,p,l,λ_=>⟨w.heap.size,_,e,rfl,⟨λh=>(by cases h),λh=>?_⟩,OS n,?_,λi d j c t u=>?_⟩⟩;rw[a]at h
 grind
 simp[Array.size_append,UA,f.len,k];rw[<-Nat.add_mul]
 simp_all
 let ⟨v,x,y⟩:=f.rel i j d c t u
 refine⟨v,?_,y.mono s (λb o=>by grind)⟩
 grind
def yu{len:Nat}{base:O Addr}{olds:L aD}(hl:olds.length=len*sz)(h:len≠0->∃ad,base=Z ad/\∀k u,olds[k]?=Z u->w.cell? (ad.add k)=Z u) :
  (Builtin.firstCells sz len (.slice base len cap)).run P w.drew=.ok olds.toArray w.drew:=by
 by_cases a:len=0
 .subst a;have:olds=[]:=EZ (by simpa using hl);subst this;cases base with|none=>rfl|some ad=>grind[run_firstCells_some]
 obtain⟨ad,rfl,b⟩:=h a
 grind[run_firstCells_some,World.cell?_drew]
theorem Jg.mono{t a rt:TypeId}{vx vy:aD}{R b:aD->az->Prop}(h:Jg P t a rt vx vy w R)(c:∀v w',R v w'->b v w'):Jg P t a rt vx vy w b:=by
 let ⟨v,w',h1,h2⟩:=h
 exact⟨v,w',h1,c _ _ h2⟩
def tj.Xy{I:Nat->Prop}(h:tj I w sz es vals){b:Nat}{ty:TypeId}{fz:Nat×Nat}{cells:Array aD}(o:w.heap[b]?=Z (.cells cells ty fz))(p:I b)
  (f:∀(k:Nat)(v:aD),vals[k]?=Z v->cells[k]?=Z v) {cap:Nat} (a:es.length<=cap) (m:∀d∈es,es.length*d.s9<=281474976710656):dP I w (.sl es) (.slice (Z ⟨b,0,Y⟩) es.length cap):=by
 have n:∀q:Nat×Nat,∃v,∀d c,es[q.1]?=Z d->d.cells[q.2]?=Z c->cells[q.1*sz+q.2]?=Z v/\dP I w c v:=by
  rintro⟨i,j⟩
  by_cases r:i<es.length;by_cases g:j<(es[i]).cells.length
  let ⟨v,t,u⟩:=h.rel i j _ _ (iZ r) (iZ g)
  refine⟨v,λd c l s=>?_⟩
  grind
  refine⟨undef,λd c l s=>?_⟩
  simp_all
  simp_all
 let ⟨val,e⟩:=Ws n
 refine .sl es _ cap sz (λi j=>val (i,j)) a h.rows m (λ_=>⟨_,rfl,p,λi j d c l g=>?_⟩) (λi j d c l g=>(e (i,j) d c l g).2);rw[og,cell?_of_block o]
 simp_all
def HY(hf:n<=17179869184)(a:s9<=4096)(b:cap<n):Builtin.nextslicecap n cap*s9<=281474976710656:=by have h1:=nextslicecap_le b;have:Builtin.nextslicecap n cap*s9<=(2*17179869184)*4096:=OF (by omega) a;omega
def MR(hf:n<=17179869184)(a:s9<=4096)(h:bt<=2*s9):n*bt<=281474976710656:=by have:n*bt<=17179869184*8192:=OF hf (by omega);omega
def EM{ty tx rt e e':TypeId}{l:TypeInfo}{z:aD}(Eu:P.underlying ty=Z (.slice e))(hu2:P.underlying tx=Z (.slice e'))(hji:P.info? e=Z l)(hjz:l.zero=Z z)(hzs:z.cells.size=l.size)(h0:0<l.size)
  (hb0:0<l.bytes) (SU:l.bytes<=4096) (qq:bt<=2*l.bytes) (hI:∀b,g.bF b->b<w.heap.size) {es new:L D} {f:L aD} {x:fy} {vy:aD}
  (m:yc g w J l.size es x) (arO:∀b,x.at b->b<w.heap.size) (R:∀d∈iK es new,d.s9=bt) (r:jO new l.size)
  (p:Src P l.size tx vy new.length f w) (hv:tj g.bF w l.size new f) (s:D.Vg es new)
  (hy:new≠[]->∃t cy,vy=.slice (Z t) new.length cy/\¬x.at t.block/\∀k,k<new.length*l.size->(w.cell? (t.add k)).isSome=W) :
  Jg P ty tx rt (.slice x.a x.len x.cap) vy w λv w'=>∃x',VV g w l.size (iK es new) x v w' x':=by
 let ⟨a,len,cap,xsz⟩:=x
 have hl1:=m.len;have hl2:=m.cap;simp only at hl1 hl2;subst hl1;by_cases E:new=[];subst E;have SM:f=[]:=EZ (by simpa using hv.len);subst SM;have aeq:iK es []=es:=iP es;rw[aeq];exact⟨_,_,IK (P:=P) Eu hji p hl2,⟨a,es.length,cap,l.size⟩,rfl,rfl,rfl,rfl,eP _,λ_ _ _=>rfl,λb hb=>⟨arO b hb,.inr hb⟩,⟨m.len,m.cap,m.rows,m.pos,m.Yb,m.mem⟩⟩;have hpos:0<new.length:=Mf.2 E;obtain⟨t,cy,rfl,U5,hyc⟩:=hy E;by_cases n:es.length+new.length<=cap
 ·
  let ⟨b,C,F,I,hfz,hh,hcs,o⟩:=m.mem (by grind)
  simp only at I hcs;subst I;have afX:¬g.bF b:=λVa=>Bool.noConfusion (hfz.2 Va);have hnl:f.length=new.length*l.size:=hv.len;have hfit:es.length*l.size+f.length<=C.size:=by
   have:(es.length+new.length)*l.size<=cap*l.size:=zU _ n
   grind
  have hst:=run_storeCells_at (P:=P) b (0+es.length*l.size) F f 0 C w hh (by omega) p.one;simp only[Nat.add_zero,yS]at hst;have hrun:(Builtin.append_ #[ty,tx] rt #[.slice (Z ⟨b,0,Y⟩) es.length cap,.slice (Z t) new.length cy]).run P w=
    .ok (.slice (Z ⟨b,0,Y⟩) (es.length+new.length) cap) (w.setRow b (C.toList.take (es.length*l.size)++f++C.toList.drop (es.length*l.size+f.length)).toArray):=by
   simp[Builtin.append_,aO Eu,aO hu2,dD hji,p.len,n,p.cells,og,hst]
  have hk:kg g.bF w (w.setRow b (C.toList.take (es.length*l.size)++f++C.toList.drop (es.length*l.size+f.length)).toArray):=
   λb' y=>setRow_other w b b' _ (λe=>afX (e▸y))
  have z8:(⟨Z ⟨b,0,Y⟩,es.length,cap,xsz⟩:fy).at b:=⟨_,rfl,rfl,by grind⟩;refine⟨_,_,hrun,⟨Z ⟨b,0,Y⟩,es.length+new.length,cap,l.size⟩,rfl,rfl,rfl,rfl,by simp,λb' _ y=>setRow_other w b b' _ (λe=>y (e▸z8)),λb' y=>?_,
   ⟨by simp[iK],n,λd hd=>(by
     obtain hd|hd:=fc.1 hd
     exact m.rows d hd;exact r d hd),h0,λd hd=>(by
     rw[R d hd];exact MR (by simpa[iK,D.Vg]using s) SU qq),λ_=>⟨b,_,F,rfl,hfz,setRow_heap w b C _ F _ hh,(by
      grind),λi d j c hd hj=>(by
      have yX:j<l.size:=by
       have hrw:d.cells.length=l.size:=by
        obtain hd|hd:=fc.1 (iG hd)
        exact m.rows d hd;exact r d hd
       grind
      unfold iK at hd;rw[tS]at hd;by_cases hi:i<es.length;rw[bH hi]at hd
      let ⟨v,K,hr⟩:=o i d j c hd hj
      refine⟨v,?_,hr.mono hk (λ_ h=>h)⟩;have:=MI hi yX
      grind
      rw[bS hi]at hd
      let ⟨v,K,hr⟩:=hv.rel _ j d c hd hj
      refine⟨v,?_,hr.mono hk (λ_ h=>h)⟩;have hlt:=cF K;have hge:es.length*l.size<=i*l.size:=zU _ (by omega);rw[Nat.sub_mul]at K hlt;rw[UE,tS,bH (by simp;omega),tS,bS (by simp;omega)]
      grind)⟩⟩⟩
  let ⟨ad,k1,k2,k3⟩:=y
  simp at k1;subst k1
  simp_all
 ·
  have A:∃olds,tj g.bF w l.size es olds/\(es.length≠0->∃ad,a=Z ad/\∀k u,olds[k]?=Z u->w.cell? (ad.add k)=Z u):=by
   by_cases hes:es=[];subst hes;exact⟨[],.nil,λh=>absurd rfl h⟩;have hepos:0<es.length:=Mf.2 hes
   let ⟨b,C,F,I,hfz,hh,hcs,o⟩:=m.mem (by grind)
   subst I;have hle:es.length*l.size<=C.size:=gE (zU _ hl2) hcs;refine⟨C.toList.take (es.length*l.size),⟨by simp;omega,m.rows,λi j d c hd hj=>?_⟩,λ_=>⟨_,rfl,λk u hu=>?_⟩⟩
   let ⟨v,K,hr⟩:=o i d j c hd hj
   refine⟨v,?_,hr⟩;have yX:j<l.size:=by rw[<-m.rows d (iG hd)];grind
   simp_all[Ke,MI,cF]
   rw[og,cell?_of_block hh]
   grind
  let ⟨olds,hvo,A⟩:=A
  refine(BZ (P:=P) Eu hu2 hji hjz hb0 (olds:=olds) (yu hvo.len A) p (Nat.lt_of_not_le n) (HY s SU (Nat.lt_of_not_le n))).mono ?_
  rintro v w' ⟨q,rfl,hc,rfl⟩
  have ahD:(Builtin.zeroCells z.cells (q-(es.length+new.length))).size=(q-(es.length+new.length))*l.size:=by simp[Builtin.zeroCells,hzs]
  have B:(es++new).length=es.length+new.length:=jR;have S:=VC (g:=g) (w:=w) (g':=g) rfl hI
   (w':=w.drew.alloc (.cells ((olds++f).toArray++Builtin.zeroCells z.cells (q-(es.length+new.length))) e)) rfl (hvo.append hv) h0 (by rw[B];exact ahD) (by omega)
   (λhh=>E (List.append_eq_nil_iff.1 hh).2) (λd hd=>by
    rw[R d hd];exact MR (by simpa[D.Vg]using s) SU qq)
  rw[B]at S;refine⟨⟨Z ⟨w.heap.size,0,Y⟩,es.length+new.length,q,l.size⟩,rfl,rfl,rfl,rfl,by simp_all,λb hb _=>GQ rfl b hb,λb hb=>?_,S⟩
  let ⟨ad,k1,k2,_⟩:=hb
  simp at k1;subst k1
  simp_all
def zq{ty tx rt:TypeId}{i j:TI}(hi:nH P ty i)(hj:nH P tx j)(hjk:∃a b c d,j.kd=.slice a b c d){s s':St}(hs:bg g s w){x y:T}{vx vy:aD}{p:Prop}{t:T}
  (h:vK i s x y=Z (p,t,s')) (R:p) (hx:aL g w x vx) (hy:aL g w y vy) :
  Jg P ty tx rt vx vy w λv w'=>∃g',bg g' s' w'/\Ext s.fl g w g' w'/\aL g' w' t v:=by
 let ⟨_,d1,_,_,S,_,_,_,_,Pr⟩:=hi.all
 let ⟨_,d2,_,_,E,_,_,_,_,hk2⟩:=hj.all
 let ⟨_,_,_,_,hjk⟩:=hjk
 rw[hjk]at hk2;obtain⟨e',_,_,_,rfl,_⟩:=hk2;unfold vK at h;obtain⟨_,h⟩|⟨hnb,h⟩:=ah h
 cases h;have hn:s.aH<bO:=by
  simp_all
 split at h
 .rename_i sz ag bt zero q new wG HM;rw[wG]at Pr;obtain⟨e,ji,d',z,rfl,hji,yX,_,_,hjz,CX,SU,h0,AF,qq,hb0,hzl⟩:=Pr;have hzs:z.cells.size=sz:=by rw[<-CX.1,hzl]
  subst yX;have adx:∀{es:L D}{vals:L aD}{cap:Nat}{v:aD}{w':az},tj g.bF w ji.size es vals->es≠[]->wj es bt->v=.slice (Z ⟨w.heap.size,0,Y⟩) es.length cap->es.length<=cap->(∀d∈es,es.length*d.s9<=281474976710656)->
    w'=w.drew.alloc (.cells (vals.toArray++Builtin.zeroCells z.cells (cap-es.length)) e)->∃g',bg g' (ew s (.arr ji.size es 0)).2 w'/\Ext s.fl g w g' w'/\aL g' w' (.sh s.aH 0) v:=by
   intro es vals cap v w' hv r l hve hc hby hw;subst hw;subst hve;have ahD:(Builtin.zeroCells z.cells (cap-es.length)).size=(cap-es.length)*ji.size:=by simp[Builtin.zeroCells,hzs]
   have hok:=VC (g:=g) (w:=w) (g':=g.era s.aH 0 ⟨Z ⟨w.heap.size,0,Y⟩,es.length,cap,ji.size⟩) rfl hs.bF (w':=w.drew.alloc (.cells (vals.toArray++Builtin.zeroCells z.cells (cap-es.length)) e)) rfl hv h0 ahD hc r hby
   let ⟨F,he⟩:=hs.Sq hn (w':=w.drew.alloc (.cells (vals.toArray++Builtin.zeroCells z.cells (cap-es.length)) e)) rfl rfl (by simp_all) (λb hb=>GQ rfl b hb)
    (x:=⟨Z ⟨w.heap.size,0,Y⟩,es.length,cap,ji.size⟩) (λb hb=>by
     let ⟨ad,h1,h2,_⟩:=hb
     simp at h1;subst h1
     simp_all) hok rfl
   exact⟨_,F,he,.sh _ _ _ _ _ _ (Gh.fS _ _ _ _)⟩
  cases hx with
  |emp a=>
   obtain⟨rfl,rfl,rfl⟩:=h
   let ⟨hq,f,l⟩:=R
   let ⟨C,n,hv,hlen⟩:=AU hs HM hq hy h0 f (λd B=>(l d B).2) E
   by_cases r:new=[];subst r;have SM:C=[]:=EZ (by simpa using hv.len);subst SM
   let ⟨F,he⟩:=hs.Sq hn (w':=w) (sz:=ji.size) (es:=[]) (x:=⟨a,0,0,ji.size⟩) rfl rfl (eP _) (λb hb=>rfl) (λb hb=>by
    let ⟨_,_,_,h⟩:=hb
    grind) ⟨rfl,eP _,by simp,h0,by simp,λh=>absurd rfl h⟩ rfl
   exact⟨_,_,IK (P:=P) S hji n (eP _),_,F,he,.sh _ _ _ _ _ _ (Gh.fS _ _ _ _)⟩;have hpos:0<new.length:=Mf.2 r
   let ⟨_,_,_,_,hby,_⟩:=tM hs HM hq hy h0 f
   have hfit:Builtin.nextslicecap (0+new.length) 0*ji.bytes<=281474976710656:=by rw[yS,nextslicecap_zero hpos];obtain⟨d,ds,rfl⟩:=UG r;have:=hby d (by simp);rw[(l d (by simp)).1]at this;exact gE (Nat.mul_le_mul_left _ AF) this
   refine(BZ (P:=P) S E hji hjz hb0 (olds:=[]) (yu (by simp) (λh=>absurd rfl h)) n (by omega) hfit).mono ?_
   simp_all
  |kR m es a hm B=>
   have hes:jO (iK es new) ji.size->∃olds,tj g.bF w ji.size es olds/\(es.length≠0->∃ad,a=Z ad/\∀k u,olds[k]?=Z u->w.cell? (ad.add k)=Z u):=by
    intro f
    let ⟨a',K,he,_,_,U6⟩:=tM (s:=s) (t:=.kR m es) (p:=True) (es:=es) hs rfl trivial (.kR m es a hm B) h0 (λd B=>f d (gf _ B))
    obtain⟨rfl,_,_⟩:=he;by_cases r:es=[];subst r;exact⟨[],.nil,λh=>absurd rfl h⟩;obtain⟨ad,val,rfl,_,hc,hv⟩:=U6 r;refine⟨_,hv,λ_=>⟨ad,rfl,λk u hu=>?_⟩⟩;obtain⟨i,j,hi,hj,rfl,rfl⟩:=A2 h0 hu
    grind
   dsimp only at h;split at h;rename_i k es2;obtain⟨rfl,rfl,rfl⟩:=h
   let ⟨hq,f,l,A⟩:=R
   let ⟨C,n,hv,hlen⟩:=AU hs HM hq hy h0 (λd B=>f d (e9 _ B)) (λd B=>(l d (e9 _ B)).2) E
   let ⟨olds,hvo,hold⟩:=hes f
   have hpos:0<new.length:=by
    cases hy with
    |kR _ _ _ hk _=>
    grind[Cz]
   refine(BZ (P:=P) S E hji hjz hb0 (olds:=olds) (yu hvo.len hold) n (by omega) (HY A SU (by omega))).mono ?_
   rintro v w' ⟨K,rfl,hc,rfl⟩
   have I:(iK es new).length=es.length+new.length:=jR;exact adx (es:=iK es new) (hvo.append hv) (λhh=>by
    grind) l (by rw[I]) (by omega) (λd B=>by rw[(l d B).1,I];exact MR A SU qq) (by rw[I])
   obtain⟨rfl,rfl,rfl⟩:=h
   let ⟨hq,f,l,A⟩:=R
   let ⟨C,n,hv,hlen⟩:=AU hs HM hq hy h0 (λd B=>f d (e9 _ B)) (λd B=>(l d (e9 _ B)).2) E
   let ⟨olds,hvo,hold⟩:=hes f
   by_cases r:new=[];subst r;have SM:C=[]:=EZ (by simpa using hv.len);subst SM;refine⟨_,_,IK (P:=P) S hji n (eP _),g,hs,Ext.refl _ _ _,.sym _ _ ?_⟩
   grind[iK]
   have hpos:0<new.length:=Mf.2 r;refine(BZ (P:=P) S E hji hjz hb0 (olds:=olds) (yu hvo.len hold) n (by omega) (HY A SU (by omega))).mono ?_
   rintro v w' ⟨K,rfl,hc,rfl⟩
   let ⟨F,he⟩:=hs.ZC (w':=w.drew.alloc (.cells ((olds++C).toArray++Builtin.zeroCells z.cells (K-(es.length+new.length))) e)) _ rfl rfl rfl
   refine⟨_,F,he,.sym _ _ ?_⟩;have hvv:=(hvo.append hv).mono (he.keeps hs.bF) he.bF;have:=hvv.Xy (b:=w.heap.size) (OS (w:=w) rfl) (.inr rfl) (λk v hk=>by
    grind) (cap:=K) (by simp_all) (λd B=>by
     rw[(l d B).1,jR];exact MR A SU qq)
   rw[jR]at this;exact this
  |sh o e2 len cap sz2 a hxa=>
   dsimp only at h;split at h;rename_i ho;obtain⟨hb,h9⟩|⟨_,h9⟩:=ah h
   simp only[eX]at hb
   let ⟨⟨⟨hfl,hee⟩,hzz⟩,hno⟩:=hb
   have hfl:=gY hfl;have hee:=beq_iff'.1 hee;have hzz:=beq_iff'.1 hzz;subst hee;subst hzz;simp only[gV,fH]at h9;obtain⟨rfl,rfl,rfl⟩:=h9
   let ⟨hq,f,l,A⟩:=R
   let ⟨hok,aaf⟩:=hs.oc (fz:=J) ho hxa
   simp only at aaf;subst aaf
   let ⟨C,n,hv,hlen⟩:=AU hs HM hq hy h0 f (λd B=>(l d (e9 _ B)).2) E
   obtain⟨ay,cy,rfl,_,arM,SH⟩:=tM hs HM hq hy h0 f;have hlt:=(hs.arr o e2 _ hxa).1;refine(EM (rt:=rt) S E hji hjz hzs h0 hb0 SU qq hs.bF hok (λb hb=>?_) (λd B=>(l d B).1) f n hv A (λr=>?_)).mono ?_
   let ⟨ad,k1,k2,k3⟩:=hb
   simp_all
   obtain⟨ady,api,rfl,U5,hyc,_⟩:=SH r;refine⟨ady,cy,rfl,λz8=>?_,λk hk=>?_⟩;have hown:bL g o ady.block:=by
    let ⟨ad,k1,k2,k3⟩:=z8
    let ⟨b,vs,ety,hab,hfz,_⟩:=hok.mem k3
    rw[k1]at hab;cases hab;simp only at k2;exact⟨λVa=>Bool.noConfusion (hfz.2 (k2▸Va)),.inr ⟨e2,_,_,hxa,k1,k2,k3⟩⟩
   obtain Va|⟨o',ho',hO⟩:=U5
   exact hown.1 Va;have:=hs.kj o o' _ hown hO
   simp_all
   have h1:=hyc (k/ji.size) (k%ji.size) (UB (by grind)) (Nat.mod_lt _ h0)
   grind[Nat.div_add_mod]
   rintro v w' ⟨x',R⟩
   let ⟨F,he⟩:=hs.am7 ho hxa hfl R.os R.output R.size R.heap R.at_ (R.ok.kJ rfl) R.sz
   have:=R.val;subst this;exact⟨_,F,he,.sh _ _ _ _ x'.sz _ (Gh.fS _ _ _ _)⟩;cases h9;cases h
  |_=>simp at h
 cases h
end
def aod(fl:Nat)(g:Gh)(w:az)(t:T)(s':St)(r:Result Next):Prop:=
 ∃v w' g',(r=.ok (.value v) w'\/(r=.ok .skip w'/\v=undef))/\bg g' s' w'/\Ext fl g w g' w'/\aL g' w' t v
section
variable {P:cV}{g:Gh}{w:az}
variable {s s':St}{t x:T}{os:List Nat}{i:TI}{l h m:Option T}{p:Prop}
def dW{v:aD}{r:Result Next}(hs:bg g s w)(a:r=.ok (.value v) w)(b:aL g w t v)(c:s'=s):aod s.fl g w t s' r:=
 ⟨v,w,g,.inl a,c▸hs,Ext.refl _ _ _,b⟩
def sC:∀{os:L Nat}{s s':St},freeze s os=Z s'->s'.lo=s.lo/\s'.fl=s.fl/\s'.aH=s.aH
 |[],s,s',h=>by simp[freeze,gV]at h;rw[h];exact⟨rfl,rfl,rfl⟩
 |o::os,s,s',h=>by obtain⟨_,⟨_,_,_,_,h⟩|⟨_,_,_,_,h⟩|⟨_,h⟩|⟨_,_,_,_,_,_,_,_,_,_,_,_,_,h⟩⟩:=xj h<;>(have:=sC h;exact this)
def Da(h:freeze s os=Z s'):s'.lo=s.lo:=(sC h).1
def Xn(h:freeze s os=Z s'):s'.fl=s.fl:=(sC h).2.1
def SZ(h:freeze s os=Z s'):s'.aH=s.aH:=(sC h).2.2
def V9(a:qV i s x l h m=Z (p,t,s')):s'=s\/freeze s (tX x)=Z s':=by
 unfold qV at a
 repeat' split at a
 all_goals first
  |(cases a;done)
  |(
    simp only[gi,gV,fH]at a;first
     |(obtain⟨_,_,_,_,rfl⟩:=a;first|exact .inl rfl|(right;assumption))
     |(obtain⟨_,_,rfl⟩:=a;first|exact .inl rfl|(right;assumption)))
def Wa(a:qV i s x l h m=Z (p,t,s')):s'.lo=s.lo:=by
 obtain rfl|h:=V9 a
 rfl;exact Da h
structure Cc(E:Env):Prop where
 ti:∀k i,E.ti k=Z i->nH E.P k i
 Ve:∀f fn,E.Ve f=Z fn->E.P.funcs[f]?=Z fn
def nX{E:Env}(R:Cc E){fr:Fr}{a:Act}(hf:cZ g fr a w)(hs:bg g s w)(o:Oper)(h:o5 E fr s o.op=Z (p,t,s'))(S:p) :
  aod s.fl g w t s' ((execOp a.eval o).run E.P w)/\s'.fl=s.fl/\s'.lo=s.lo/\s.aH<=s'.aH:=by
 cases A:o.op with
 |move x=>rw[A]at h;simp only[o5,gi,fH]at h;obtain⟨t',F,_,rfl,rfl⟩:=h;exact⟨dW hs (by simp[execOp,A]) (bY hf F) rfl,rfl,rfl,eP _⟩
 |assign x=>rw[A]at h;simp only[o5,gi,fH]at h;obtain⟨t',F,_,rfl,rfl⟩:=h;exact⟨dW hs (by simp[execOp,A]) (bY hf F) rfl,rfl,rfl,eP _⟩
 |pick c x y=>
  rw[A]at h;simp[o5]at h;split at h;rename_i hc hx hy;simp only[gi,fH]at h;obtain⟨⟨q,u⟩,hu,rfl,rfl,rfl⟩:=h
  let ⟨b,hb,F⟩:=OV hu S (bY hf hc) (bY hf hx) (bY hf hy)
  exact⟨dW hs (by simp[execOp,A,hb,asBool]) F rfl,rfl,rfl,eP _⟩;cases h
 |alloc ty=>
  rw[A]at h;simp[o5]at h;split at h;rename_i i I;obtain⟨hn,h⟩|⟨_,h⟩:=ah h
  obtain⟨_,rfl,rfl⟩:=h;have hn':s.aH<bO:=gY hn
  let ⟨xi,d,z,Pn,_,_,_,hz,CX,_⟩:=(R.ti _ _ I).all
  let ⟨z1,z2⟩:=tK (g:=g) (w:=w) CX
  let ⟨K,he⟩:=hs.dN hn' ty z1 z2
  refine⟨⟨_,_,_,.inl ?_,K,he,.ptr s.aH 0 w.heap.size (by simp[Gh.dN])⟩,rfl,rfl,by simp[ew]⟩;simp[execOp,A,Instr.alloc,eB Pn hz,newVar,newRow];cases h;cases h
 |box ty x=>
  rw[A]at h;simp[o5]at h;split at h;rename_i i v I B;obtain⟨hn,h⟩|⟨_,h⟩:=ah h
  simp only[gi,fH]at h;obtain⟨⟨q,cs⟩,hc,rfl,rfl,rfl⟩:=h;have hn':s.aH<bO:=gY hn
  let ⟨h1,h2,h3,_⟩:=nt hc S (bY hf B)
  let ⟨K,he⟩:=hs.dN hn' ty (cs:=cs) (vs:=(a.eval x).cells) (by rw[h1,h2]) h3
  refine⟨⟨_,_,_,.inl ?_,K,he,.ptr s.aH 0 w.heap.size (by simp[Gh.dN])⟩,rfl,rfl,by simp[ew]⟩;simp[execOp,A,Instr.box,newVar,newRow];cases h;cases h
 |build ty parts=>
  rw[A]at h;simp[o5]at h;split at h;rename_i i ps I hps;split at h;rename_i hk;simp only[gi,fH]at h;obtain⟨⟨q,cs⟩,hc,rfl,rfl,rfl⟩:=h;have pE:=qf hf hps
  let ⟨v,B,F⟩:=QA (w:=w) (g:=g) (R.ti _ _ I) hk (vs:=parts.map λ(i,x)=>(i,a.eval x)) (by simpa using pE) hc S
  exact⟨dW hs (by simp[execOp,A,B]) F rfl,rfl,rfl,eP _⟩;cases h;cases h
 |buildSlice ty len parts=>
  rw[A]at h;simp only[o5]at h;split at h;rename_i i ps I hps;split at h;rename_i hk;obtain⟨hb,h⟩|⟨_,h⟩:=ah h
  split at h;rename_i q es os hel;simp only[gi,fH]at h;obtain⟨s1,hfz,rfl,rfl,rfl⟩:=h;have pE:=qf hf hps;rw[zT]at hb
  let ⟨AF,qq⟩:=hb
  rw[zT]at qq
  let ⟨qq,SV⟩:=qq
  rw[zT]at SV
  let ⟨SV,SU⟩:=SV
  let ⟨w',g',v,hrun,K,he,F,hfl,aef⟩:=Dy (R.ti _ _ I) hs hk AF (beq_iff'.1 qq) (λe=>by
   rw[e]at SV;cases SV) (gY SU) (vs:=parts.map λ(i,x)=>(i,a.eval x)) (by simpa using pE) hel S hfz
  exact⟨⟨v,w',g',.inl (by simp[execOp,A,hrun]),K,he,F⟩,hfl,Da hfz,by omega⟩;iterate 4 cases h
 |load ty x=>rw[A]at h;simp[o5]at h;split at h;rename_i i v I B;obtain⟨u,hu,F,rfl⟩:=Ep (R.ti _ _ I) hs (bY hf B) h S;exact⟨dW hs (by simp[execOp,A,hu]) F rfl,rfl,rfl,eP _⟩;cases h
 |store ty x y=>
  rw[A]at h;simp[o5]at h;split at h;rename_i i v u I B hu;obtain⟨w',g',hrun,K,he,rfl⟩:=LK (R.ti _ _ I) hs (bY hf B) (bY hf hu) h S;refine⟨⟨undef,w',g',.inr ⟨by simp[execOp,A,hrun],rfl⟩,K,he,.sym _ _ (.lit _)⟩,?_⟩;unfold storeT at h;split at h;cases h;split at h;split at h;obtain⟨_,h⟩|⟨_,h⟩:=ah h
  obtain⟨_,_,rfl⟩:=h;exact⟨rfl,rfl,eP _⟩;cases h;cases h;split at h;split at h;rename_i hfz;split at h;obtain⟨_,h⟩|⟨_,h⟩:=ah h
  obtain⟨_,_,rfl⟩:=h;have e1:=Xn hfz;have e2:=Da hfz;have e3:=SZ hfz;exact⟨e1,e2,Ee e3.symm⟩;iterate 6 cases h
 |nilCheck x=>
  rw[A]at h;simp[o5]at h;have hx:=λ{t}(e:kC fr x=Z t)=>bY hf e;split at h;all_goals try(cases h;done)
  all_goals
   rename_i hxe;have C:=hx hxe;simp only[gV,fH]at h;obtain⟨rfl,rfl,rfl⟩:=h
  .generalize B:a.eval x=v at C;cases C with|ptr _ _ b hb=>exact⟨dW hs (by simp[execOp,A,B]) (.ptr _ _ b hb) rfl,rfl,rfl,eP _⟩
  .generalize B:a.eval x=v at C;cases C with|mD _ _ ad val h1 h2 h3=>exact⟨dW hs (by simp[execOp,A,B]) (.mD _ _ ad val h1 h2 h3) rfl,rfl,rfl,eP _⟩
  .generalize B:a.eval x=v at C;cases C with|mC _ _ _ _ _ _ _ _ h1=>exact⟨dW hs (by simp[execOp,A,B]) (.mC _ _ _ _ _ _ _ _ h1) rfl,rfl,rfl,eP _⟩
  .generalize B:a.eval x=v at C;cases C with|dn _ _ _ h1=>exact⟨dW hs (by simp[execOp,A,B]) (.dn _ _ _ h1) rfl,rfl,rfl,eP _⟩
  .generalize B:a.eval x=v at C;cases C with|fn _ _ _ _ _ h1 h2 h3 h4=>exact⟨dW hs (by simp[execOp,A,B]) (.fn _ _ _ _ _ h1 h2 h3 h4) rfl,rfl,rfl,eP _⟩
  generalize B:a.eval x=v at C;cases C with
  |sym d _ hd=>
   cases hd with|dn _ _ _ h1=>exact⟨dW hs (by simp[execOp,A,B]) (.sym _ _ (.dn _ _ _ h1)) rfl,rfl,rfl,eP _⟩|_=>cases S
 |binOp op ty x y yt=>
  rw[A]at h;simp[o5]at h;split at h;rename_i i u v I hu B;simp only[gi,fH]at h;obtain⟨⟨q,d⟩,hb,rfl,rfl,rfl⟩:=h
  let ⟨r,C,F⟩:=Tj (R.ti _ _ I) hb S (bY hf hu) (bY hf B) x y
  refine⟨dW hs ?_ F rfl,rfl,rfl,eP _⟩;simp at C;simp only[execOp,A,run_bind];rw[C];rfl;cases h
 |unOp op ty x=>
  rw[A]at h;simp[o5]at h;split at h;rename_i i u I hu;simp only[gi,fH]at h;obtain⟨⟨q,d⟩,hb,rfl,rfl,rfl⟩:=h
  let ⟨r,C,F⟩:=VZ (P:=E.P) hb S (bY hf hu)
  exact⟨dW hs (by simp[execOp,A,C]) F rfl,rfl,rfl,eP _⟩;cases h
 |convert src dst x=>rw[A]at h;simp[o5]at h;split at h;rename_i i j u I hj hu;obtain⟨r,C,F,rfl⟩:=Qp (R.ti _ _ I) (R.ti _ _ hj) h S (bY hf hu);exact⟨dW hs (by simp[execOp,A,C]) F rfl,rfl,rfl,eP _⟩;cases h
 |makeInterface ty x=>
  rw[A]at h;simp[o5]at h;split at h;rename_i i v I B;have Xa:=R.ti _ _ I
  let ⟨xi,d,z,Pn,hu,_⟩:=Xa.all
  split at h;cases h;rename_i hk;simp only[gV,fH]at h;obtain⟨rfl,rfl,rfl⟩:=h;refine⟨dW hs (v:=.iface ty (a.eval x)) ?_ (.dn _ _ _ (bY hf B)) rfl,rfl,rfl,eP _⟩;have hni:∀ms,d≠.interface ms:=λms e=>hk (Xa.nif ms (e▸hu));simp only[execOp,A,Instr.makeInterface,run_bind,aO hu,andThen_ok];cases d<;>first|rfl|exact absurd rfl (hni _)
  cases h
 |makeFunc f first cap=>rw[A]at h;simp[o5]at h;split at h;rename_i hx hy;obtain⟨rfl,rfl,rfl⟩:=h;have h1:=fe hf hx;have h2:=fe hf hy;refine⟨dW hs (v:=.func f (first.map a.eval) (cap.map a.eval)) (by simp[execOp,A,Instr.makeFunc]) (.fn _ _ _ _ _ (by simpa using h1.1) (by simpa using h2.1) (λj t v k1 k2=>h1.2 j t v k1 (by simpa using k2)) (λj t v k1 k2=>h2.2 j t v k1 (by simpa using k2))) rfl,rfl,rfl,eP _⟩;cases h
 |extract x k=>rw[A]at h;simp[o5]at h;split at h;rename_i v B;obtain⟨r,C,F,rfl⟩:=H6 (P:=E.P) h S (bY hf B);exact⟨dW hs (by simp[execOp,A,C]) F rfl,rfl,rfl,eP _⟩;cases h
 |fieldAddr ty x k=>rw[A]at h;simp[o5]at h;split at h;rename_i i v I B;obtain⟨r,C,F,rfl⟩:=De (R.ti _ _ I) h (bY hf B);exact⟨dW hs (by simp[execOp,A,C]) F rfl,rfl,rfl,eP _⟩;cases h
 |field ty x k=>rw[A]at h;simp[o5]at h;split at h;rename_i i v I B;obtain⟨r,C,F,rfl⟩:=MQ (R.ti _ _ I) h S (bY hf B);exact⟨dW hs (by simp[execOp,A,C]) F rfl,rfl,rfl,eP _⟩;cases h
 |indexAddr ty x ix=>rw[A]at h;simp[o5]at h;split at h;rename_i i v n I B hn;obtain⟨r,C,F,rfl⟩:=CV (R.ti _ _ I) hs h S (bY hf B) (bY hf hn);exact⟨dW hs (by simp[execOp,A,C]) F rfl,rfl,rfl,eP _⟩;cases h
 |index ty x ix=>rw[A]at h;simp[o5]at h;split at h;rename_i i v n I B hn;obtain⟨r,C,F,rfl⟩:=MH (R.ti _ _ I) h S (bY hf B) (bY hf hn);exact⟨dW hs (by simp[execOp,A,C]) F rfl,rfl,rfl,eP _⟩;cases h
 |slice ty x lo I mx=>
  rw[A]at h;simp[o5]at h;split at h;rename_i i v l hh m h1 h2 h3 h4 h5
  let ⟨g',r,C,K,he,F,hfl,aef⟩:=LP (R.ti _ _ h1) hs h S (bY hf h2) (zW hf h3) (zW hf h4) (zW hf h5)
  exact⟨⟨r,w,g',.inl (by simp[execOp,A,C]),K,he,F⟩,hfl,Wa h,by omega⟩;cases h
 |typeAssert x xt ty ok=>rw[A]at h;simp[o5]at h;split at h;rename_i I B;obtain⟨r,C,F,rfl⟩:=JJ (xt:=xt) (R.ti _ _ I) h (bY hf B);exact⟨dW hs (by simp[execOp,A,C]) F rfl,rfl,rfl,eP _⟩;cases h
 |_=>rw[A]at h;simp[o5]at h
end
section
variable {g g' g'':Gh}{w w' w'':az}{lo fl:Nat}
def bg.grow{s:St}(hs:bg g s w){I:Nat->Prop}(p:∀b,g.bF b->I b)(f:∀b,I b->g.bF b\/w.heap.size<=b)(q:∀b,I b->b<w'.heap.size)(i:w.heap.size<=w'.heap.size)
  (a:∀b,b<w.heap.size->w'.heap[b]?=w.heap[b]?) (r:w'.os=w.os) (m:w'.output=w.output) :
  bg {g with bF:=I} s w'/\Ext fl g w {g with bF:=I} w':=by
 have e:∀k b,bL ({g with bF:=I}:Gh) k b->bL g k b:=λk b h=>⟨λx=>h.1 (p b x),h.2⟩;have t:Ext fl g w {g with bF:=I} w':=
  ⟨λ_ _ h=>h,λ_ _ _ h=>h,p,i,λb n _=>a b n,λk b h=>.inl (e k b h),λb h=>(f b h).imp id .inl,r,m⟩
 refine⟨⟨hs.aH,hs.aj,λk c o=>?_,λk j y z=>?_,q,λk v b h A=>hs.kj k v b (e k b h) (e v b A)⟩,t⟩;have d:=hs.box k c o;refine d.ext t hs.bF (a c d.2.1) rfl λu=>?_;obtain h|h:=f c u
 exact d.1 h;have:=d.2.1;omega;have l:=hs.arr k j y z;refine l.ext t hs.bF (λb n o=>⟨a b (l.1 _ n o),⟨λh=>?_,p b⟩⟩) rfl rfl;obtain h|h:=f b h
 exact h;have:=l.1 _ n o
 grind
end
def mF(P:cV)(f:FuncId):Prop:=∃fn,P.funcs[f]?=Z fn/\fn.body.isSome=W/\(fn.name== "runtime.NumGoroutine")=J
def abM(I:Nat->Prop)(w:az)(d:D):Ending->az->Prop
 |.returned v,w'=>∃a:Nat->Prop,(∀b,I b->a b)/\(∀b,a b->I b\/w.heap.size<=b)/\(∀b,a b->b<w'.heap.size)/\w.heap.size<=w'.heap.size/\
   (∀b,b<w.heap.size->w'.heap[b]?=w.heap[b]?)/\w'.os=w.os/\w'.output=w.output/\dP a w' d v
 |.panicked _,_=>False|.outgrown,_=>False
def an4(P:cV)(f:FuncId)(c:Ro):Prop:=
 mF P f/\∀(I:Nat->Prop)(w:az)(ds:L D)(vs:Array aD),(∀b,I b->b<w.heap.size)->ds.length=vs.size->
  (∀(j:Nat)(d:D)(v:aD),ds[j]?=Z d->vs[j]?=Z v->dP I w d v)->c.pre ds->Calls P f vs w (abM I w (c.f ds))
structure Rl(E:Env):Prop extends Cc E where
 name:∀f fn,E.Ve f=Z fn->(fn.name== "runtime.NumGoroutine")=J
 JA:∀f c,E.JA f=Z c->an4 E.P f c
section
variable {g:Gh}{w:az}
end
section
variable {g:Gh}{w:az}
variable {s s':St}{t:T}{fr:Fr}{a:Act}
def Tt{i:TI}{x y:T}{p:Prop}(h:vK i s x y=Z (p,t,s')):s'.fl=s.fl/\s'.lo=s.lo/\s.aH<=s'.aH:=by
 obtain⟨_,h⟩|⟨_,h⟩:=ah h
 cases h;split at h;split at h;obtain⟨_,_,rfl⟩:=h;exact⟨rfl,rfl,by simp[ew]⟩;split at h;obtain⟨_,_,rfl⟩:=h;exact⟨rfl,rfl,by simp[ew]⟩
 simp_all
 grind
 cases h;cases h
theorem ym{P:cV}{f:FuncId}(h:mF P f)(args:Array aD):(callFunc f args).run P w=.ok (.enter f args) w:=by
 let ⟨fn,h1,h2,h3⟩:=h
 have h4:fn.body≠Y:=by
  grind
 simp_all[callFunc]
theorem AZ{P:cV}{o:Oper}{c:Call}(d:o.op=.call c){b:Operand}(e:c.callee=.value b){a:Act}{f:FuncId}{first cap:Array aD}(g:a.eval b=.func (.func f) first cap)(h:mF P f) :
  (execOp a.eval o).run P w=.ok (.enter f (first++c.args.map a.eval++cap)) w:=by
 grind[execOp,resolve,Deferred.ofValue,invoke,ym]
def Xr(hf:cZ g fr a w){dst:O Nat}(f:aks fr dst=W)(hn:fr.n<=bO){v:aD}(h:aL g w t v):cZ g (fr.jb dst t) (a.put dst v) w:=by
 cases dst with
 |none=>exact hf|some d=>
  have c:d<fr.n:=gY f;refine⟨by simp[Act.put,Fr.jb,Fr.put,hf.size],hf.df,λk i b=>?_⟩;simp[Fr.jb,Fr.put,Fr.get]at b;rw[Tr.aX _ _ _ _ (iW c hn)]at b;by_cases e:k=d;subst e;rw[bH rfl]at b;simp at b;subst b;exact⟨v,by simp[Act.put,hf.size,c],h⟩;rw[bS e]at b
  let ⟨u,j,l⟩:=hf.tm k i b
  grind[Act.put]
structure Aft(s:St)(g:Gh)(w:az)(s':St)(g':Gh)(w':az):Prop where
 rel:bg g' s' w'
 ext:Ext s.fl g w g' w'
 fl:s'.fl=s.fl
 lo:s'.lo=s.lo
 aH:s.aH<=s'.aH
theorem Aft.refl{s:St}(h:bg g s w):Aft s g w s g w:=⟨h,Ext.refl _ _ _,rfl,rfl,eP _⟩
def zn{E:Env}(l:Rl E)(hf:cZ g fr a w)(hs:bg g s w){o:Oper}{c:Call}(C:o.op=.call c){b:Builtin}(hb:c.callee=.builtin b){args:L T}
  (d:zf fr c.args.toList=Z args) {p:Prop} {t:T} (h:fV E s b c.argTypes args=Z (p,t,s')) (z:p) {k:T->St->Prop} (A:k t s')
  {K:Act->az->Prop} {Q:Exit->Act->az->Prop} (B:∀t s' g' v w',k t s'->Aft s g w s' g' w'->aL g' w' t v->K (a.put o.dst v) w') :
  o.wp E.P a w K Q\/(o.asks E.P a w/\LetsOut Q):=by
 have e:=fe hf d;cases b with
 |len=>
  left
  match args,d,e,h with
  |[x],d,e,h=>
   have F:c.args.size=1:=by have:=e.1;grind
   obtain⟨arr,j⟩:∃u,c.args=#[u]:=⟨c.args[0],by
    grind⟩
   have m:aL g w x (a.eval arr):=e.2 0 _ _ rfl (by simp[j]);obtain⟨v,hv,I,rfl⟩:=Kx (rt:=o.type) hs l.ti h z m;unfold Oper.wp;have f:(execOp a.eval o).run E.P w=.ok (.value v) w:=by
    simp_all[execOp,resolve,invoke,builtin]
   rw[f];exact B t s' g v w A (Aft.refl hs) I
  |[],_,_,h=>simp[fV]at h|_::_::_,_,_,h=>simp[fV]at h
 |append=>
  match args,d,e,h with
  |[x,y],d,e,h=>
   have F:c.args.size=2:=by have:=e.1;grind
   obtain⟨u,v,j⟩:∃u v,c.args=#[u,v]:=⟨c.args[0],c.args[1],by
    grind⟩
   have m:aL g w x (a.eval u):=e.2 0 _ _ rfl (by simp[j]);have P:aL g w y (a.eval v):=e.2 1 _ _ rfl (by simp[j]);simp[fV]at h;split at h;rename_i ty R S;split at h;rename_i hi hj;split at h;rename_i n;have z8:c.argTypes=#[ty,R]:=by
    grind
   have q:=zq (rt:=o.type) (l.ti _ _ hi) (l.ti _ _ hj) ⟨_,_,_,_,n⟩ hs h z m P
   let ⟨r,w',f,g',h1,h2,h3⟩:=q
   left
   unfold Oper.wp;have i:(execOp a.eval o).run E.P w=.ok (.value r) w':=by
    simp_all[execOp,resolve,invoke,builtin]
   rw[i]
   let ⟨e1,e2,e3⟩:=Tt h
   exact B t s' g' r w' A ⟨h1,h2,e1,e2,e3⟩ h3;iterate 3 cases h
  |[],_,_,h=>simp[fV]at h|[_],_,_,h=>simp[fV]at h|_::_::_::_,_,_,h=>simp[fV]at h
 |_=>simp[fV]at h
end
section
variable {g:Gh}{w:az}
def ZS{E:Env}(j:Rl E){fr:Fr}{s s':St}{a:Act}(hf:cZ g fr a w)(hs:bg g s w){o:Oper}{c:Call}(e:o.op=.call c)(k:c.callee=.builtin .len){args:L T}
  (b:zf fr c.args.toList=Z args) {p:Prop} {t:T} (h:fV E s .len c.argTypes args=Z (p,t,s')) (l:p) :
  s'=s/\∃v,(execOp a.eval o).run E.P w=.ok (.value v) w/\aL g w t v:=by
 have d:=fe hf b
 match args,b,d,h with
 |[x],b,d,h=>
  have m:c.args.size=1:=by have:=d.1;simpa using this.symm
  obtain⟨arr,f⟩:∃u,c.args=#[u]:=⟨c.args[0],by
   apply Array.ext;simp[m];intro i h1 h2;have:i=0:=by omega
   subst this;rfl⟩
  have n:aL g w x (a.eval arr):=d.2 0 _ _ rfl (by simp[f]);obtain⟨v,q,r,rfl⟩:=Kx (rt:=o.type) hs j.ti h l n;exact⟨rfl,v,by simp[execOp,e,resolve,k,invoke,builtin,f,q],r⟩
 |[],_,_,h=>simp[fV]at h|_::_::_,_,_,h=>simp[fV]at h
end
abbrev WR(r:O Nat):Fence:={Fence.wide with round:=r}
section
variable {P:cV}{r:Option Nat}
def gM{m a:Machine}:StepsIn (Machine.fenced P (WR r)) P m a↔Steps P m a:=stepsIn_wide
variable {n id:Nat}{f:FuncId}{args tmps:Array aD}{R:Ending->az->Prop}{next:Act->az->Prop}{Q:Exit->Act->az->Prop}{fn:Func}
def Te{w:az}:CallsIn (WR r) n P f args w R↔Calls P f args w R:=
 (callsIn_wide (n:=n):CallsIn Fence.wide n P f args w R↔_)
def Om(n:Nat):(WR r).room n:=room_wide n
def akd{row:String}{w:az}{R:aD->az->Prop}(h:Rows P row args w R):RowsIn (WR r) n P row args w R:=
 λc cs _=>let ⟨v,a,b,d⟩:=h c cs;⟨v,a,b,gM.2 d⟩
def OpR(r:O Nat)(P:cV)(o:Oper)(a:Act)(w:az)(next:Act->az->Prop)(Q:Exit->Act->az->Prop):Prop:=
 o.uponIn (WR r) 0 P a next Q ((o.semAt r a.eval).run P w)\/(o.asks P a w/\(r≠Y->∀c,o.op≠.defer c)/\LetsOut Q)
def OpR.of_wp{o:Oper}{a:Act}{w:az}(e:r≠Y->∀c,o.op≠.defer c)(h:o.wp P a w next Q\/(o.asks P a w/\LetsOut Q)):OpR r P o a w next Q:=by
 obtain h|⟨h1,h2⟩:=h
 .left
  have b:o.semAt r a.eval=execOp a.eval o:=by cases r with|none=>rfl|some l=>grind[Oper.semAt_eq]
  rw[b];unfold Oper.wp at h;generalize(execOp a.eval o).run P w=res at h;cases res with
  |ok x g=>cases x with|enter f args=>exact⟨λh=>by simp[Fence.wide]at h,Te.2 h⟩|row row args=>exact⟨λh=>by simp[Fence.wide]at h,akd h⟩|value v=>exact h|skip=>exact h|defer d=>exact h|_=>exact h.elim
  |halt x g=>cases x<;>exact h
 exact .inr ⟨h1,e,h2⟩
theorem OpR.mono{o:Oper}{a:Act}{w:az}{next b:Act->az->Prop}{Q:Exit->Act->az->Prop}(hn:∀a w,next a w->b a w)(h:OpR r P o a w next Q):OpR r P o a w b Q:=by
 obtain h|h:=h
 .left
  generalize(o.semAt r a.eval).run P w=res at h;cases res with
  |ok x j=>cases x with|enter f args=>exact⟨h.1,h.2.mono λe g c=>by cases e<;>first|exact hn _ _ c|exact c⟩|row row args=>exact⟨h.1,h.2.mono λ_ _ c=>hn _ _ c⟩|round l f tmps assign i=>exact⟨h.1,h.2.mono λe g c=>by cases e<;>first|exact hn _ _ c|exact c⟩|value v=>exact hn _ _ h|skip=>exact hn _ _ h|defer d=>exact hn _ _ h|_=>exact h
  |halt x j=>cases x<;>exact h
 exact .inr h
abbrev afr(r:O Nat)(P:cV):=ArrivesIn (Machine.fenced P (WR r)) P
section
variable {b:Frame}{a:Act}{k:List Item}{cs:List Frame}{w:az}{ops:Array Oper}{i:Nat}{rest:List Nat}{o:Oper}
def WB(n:b.roundOf=r)(z:r≠Y->∀c,o.op≠.defer c)(s:ops[i]?=Z o)(t:Region.wanted o (yielded ops a.tmps)=W)(u:b.kind≠.early)(h:o.asks P a w) :
  Outgrown P (lone (b.atR a (.inRegion ops (i::rest)::k)) cs w):=by
 have m:o.semAt b.roundOf a.eval=execOp a.eval o:=by rw[n];cases r with|none=>rfl|some l=>grind[Oper.semAt_eq]
 have q:=stepGR_op (P:=P) (b:=b) (k:=k) (cs:=cs) (w:=w) (rest:=rest) s t;rw[m]at q;have p:noRoomEvent∈(stepG P W {frame:=b.atR a (.inRegion ops (i::rest)::k),callers:=cs,status:=.running,dying:=Y} w).es:=by
  rw[q];have v:((b.atR a (.inRegion ops (i::rest)::k)).kind==CallKind.early)=J:=by simpa[Frame.atR]using u
  have A:noRoomEvent∈Sem.events P (execOp a.eval o) w #[]:=h.1;simp only[stepG.apply,Sem.runT_eq,kz,v,Oy,jY];rw[GStep.es_after];refine Array.mem_append.2 (.inl (seen_keeps P _ _ ?_));have x:=h.2
  grind
 refine Outgrown.now (o:={g:=0,fn:=(b.atR a (.inRegion ops (i::rest)::k)).fn,pos:=(b.atR a (.inRegion ops (i::rest)::k)).place,act:=.mark .noRoom}) ?_ rfl rfl;rw[stepT,move_lone];refine runT_lists P _ 0 {frame:=b.atR a (.inRegion ops (i::rest)::k),callers:=cs,status:=.running,dying:=Y} (by simp[lone]) _ ?_;exact mem_ofEvents (e:=noRoomEvent) (by simpa[lone]using p)
def Zv(y:b.roundOf=r)(C:ops[i]?=Z o)(K:Region.wanted o (yielded ops a.tmps)=W)(h:OpR r P o a w next Q) :
  (∃a' w',next a' w'/\Steps P (lone (b.atR a (.inRegion ops (i::rest)::k)) cs w) (lone (b.atR a' (.inRegion ops rest::k)) cs w'))\/
  ∃e a' w',Q e a' w'/\afr r P (lone (b.atR a (.inRegion ops (i::rest)::k)) cs w) b k cs e a' w':=by
 obtain h|⟨h1,h2,s,t,u⟩:=h
 rotate_left;by_cases R:b.kind=.early;exact .inr ⟨.outgrown,s,t,u,.inl R⟩;exact .inr ⟨.outgrown,s,t,u,.inr (WB y h2 C K R h1)⟩;have S:=stepGR_op (P:=P) (b:=b) (k:=k) (cs:=cs) (w:=w) (rest:=rest) C K;rw[y]at S;have q:∀v,(b.atR a (.inRegion ops (i::rest)::k)).finish v=b.atR (a.put o.dst v) (.inRegion ops rest::k):=λv=>by rw[Frame.finish_atR,C];rfl
 generalize z:(o.semAt r a.eval).run P w=res at h;have enter:∀{fr:Frame}{w1:az},(stepG P W {frame:=b.atR a (.inRegion ops (i::rest)::k),callers:=cs,status:=.running,dying:=Y} w).bare=.go {frame:=fr,callers:=b.atR a (.inRegion ops (i::rest)::k)::cs,status:=.running,dying:=Y} w1->
   step P (lone (b.atR a (.inRegion ops (i::rest)::k)) cs w)=.next (lone fr (b.atR a (.inRegion ops (i::rest)::k)::cs) w1):=λh=>step_lone_go h
 cases res with
 |ok x w1=>cases x with
  |value v=>exact .inl ⟨_,_,h,.one (step_lone_go (by simp_all[stepG.apply]))⟩
  |skip=>exact .inl ⟨_,_,h,.one (step_lone_go (by simp_all[stepG.apply]))⟩
  |defer d=>have A:=Frame.finish_atR b {a with defers:=d::a.defers} ops i rest k undef;rw[C]at A;refine .inl ⟨_,_,h,.one (step_lone_go ?_)⟩;rw[S];simp only[stepG.apply,Sem.runT_eq,z,GStep.bare_after];exact eC (λfr=>GStep.go {frame:=fr,callers:=cs,status:=.running,dying:=Y} w1) A
  |enter f args=>
   obtain⟨e,F,fr,n,c,_,p⟩:=Te.1 h.2 (b.atR a (.inRegion ops (i::rest)::k)::cs);have h1:=enter (fr:=Frame.enter P f args .normal) (w1:=w1) (by simp_all[stepG.apply,Frame.atR]);cases e with|returned v=>exact .inl ⟨_,_,n,.head h1 (c.trans (.one (by grind[step_leave_returned])))⟩|panicked I=>exact .inr ⟨.panic I,a,F,n,.inRegion ops (i::rest)::k,gM.2 (.head h1 (c.trans (.one (by rw[<-Frame.raise_atR];exact step_leave_panicked p))))⟩|outgrown=>obtain⟨s,t,u⟩:=n;exact .inr ⟨.outgrown,s,t,u,.inr (Outgrown.of_steps (.one h1) c)⟩
  |row row args=>obtain⟨v,F,n,c⟩:=h.2 (b.atR a (.inRegion ops (i::rest)::k)) cs (Om _);have h1:=enter (fr:=Frame.ofRow P row args .normal) (w1:=w1) (by simp_all[stepG.apply,Frame.atR]);exact .inl ⟨_,_,n,.head h1 (by rw[<-q];exact gM.1 c)⟩
  |round l f tmps assign B=>
   obtain⟨e,F,n,c⟩:=h.2.2 (b.atR a (.inRegion ops (i::rest)::k)) cs (Om _);have h1:=enter (fr:=Frame.round l f tmps assign B .normal) (w1:=w1) (by simp_all[stepG.apply,Frame.atR]);cases e with|returned v=>exact .inl ⟨_,_,n,.head h1 (by rw[<-q];exact gM.1 c)⟩|panicked I=>exact .inr ⟨.panic I,a,F,n,.inRegion ops (i::rest)::k,gM.2 (.head h1 (by rw[<-Frame.raise_atR];exact gM.1 c))⟩|outgrown=>obtain⟨s,t,u⟩:=n;exact .inr ⟨.outgrown,s,t,u,.inr (Outgrown.of_steps (.one h1) c)⟩
  |_=>exact h.elim
 |halt x w1=>cases x with
  |panic v=>
   refine .inr ⟨_,a,w1,h,.inRegion ops (i::rest)::k,gM.2 (.one (step_lone_go ?_))⟩
   simp_all[Frame.raise_atR,stepG.apply]
  |_=>exact h.elim
end
def xP(r:O Nat)(P:cV)(ops:Array Oper)(Q:Exit->Act->az->Prop):L Nat->Act->az->Prop
 |[],a,w=>Q .normal a w|i::rest,a,w=>match ops[i]? with
  |none=>xP r P ops Q rest a w|some o=>if Region.wanted o (yielded ops a.tmps)then OpR r P o a w (xP r P ops Q rest) Q else xP r P ops Q rest (a.put o.dst undef) w
def nW{ops:Array Oper}{Q:Exit->Act->az->Prop}:∀(l:L Nat)(a:Act)(w:az),xP r P ops Q l a w->∀(b:Frame)(k:L Item)(cs:L Frame),b.roundOf=r->
  ∃e a' w',Q e a' w'/\afr r P (lone (b.atR a (.inRegion ops l::k)) cs w) b k cs e a' w'
 |[],a,w,h,b,k,cs,_=>⟨.normal,a,w,h,gM.2 (.one stepR_region_end)⟩|i::rest,a,w,h,b,k,cs,d=>by
  simp only[xP]at h;cases g:ops[i]? with
  |none=>simp only[g]at h;obtain⟨e,a',w',j,c⟩:=nW rest a w h b k cs d;have f:=stepR_op_skip (P:=P) (b:=b) (a:=a) (k:=k) (cs:=cs) (w:=w) (ops:=ops) (i:=i) (rest:=rest) (by simp[g]);simp only[g,Option.bind_none,Act.put]at f;exact⟨e,a',w',j,.of_steps (gM.2 (.one f)) c⟩
  |some o=>
   simp only[g]at h;by_cases m:Region.wanted o (yielded ops a.tmps)=W;simp only[m,kz]at h;obtain⟨a1,n,p,f⟩|q:=Zv (k:=k) (cs:=cs) (rest:=rest) d g m h
   obtain⟨e,a',w',j,c⟩:=nW rest a1 n p b k cs d;exact⟨e,a',w',j,.of_steps (gM.2 f) c⟩;exact q;simp only[m,jY,Oy]at h;obtain⟨e,a',w',j,c⟩:=nW rest _ w h b k cs d;have f:=stepR_op_skip (P:=P) (b:=b) (a:=a) (k:=k) (cs:=cs) (w:=w) (ops:=ops) (i:=i) (rest:=rest) (by simp_all);simp only[g,Ux]at f;exact⟨e,a',w',j,.of_steps (gM.2 (.one f)) c⟩
def YD{ops:Array Oper}{a:Act}{w:az}(h:xP r P ops Q (List.range ops.size) a w):(Code.region id ops J).wpIn (WR r) 0 P Q a w:=
 λb k cs d _ _=>let ⟨e,f,g,i,c⟩:=nW _ a w h b k cs d;⟨e,f,g,i,.of_steps (gM.2 (.one stepR_region)) c⟩
def DE(r:O Nat)(P:cV)(ops:Array Oper)(Q:Exit->Act->az->Prop)(i:Nat)(K:Act->az->Prop)(a:Act)(w:az):Prop:=
 match ops[i]? with
 |none=>K a w|some o=>if Region.wanted o (yielded ops a.tmps)then OpR r P o a w K Q else K (a.put o.dst undef) w
theorem DE.mono{ops:Array Oper}{Q:Exit->Act->az->Prop}{i:Nat}{a:Act}{w:az}{K c:Act->az->Prop}(h:∀a w,K a w->c a w)(b:DE r P ops Q i K a w):DE r P ops Q i c a w:=by
 unfold DE at *
 split
 simp_all
 rename_i d;simp only[d]at b;split;rename_i e;simp only[e,kz]at b;exact b.mono h
 simp_all
def afs(r:O Nat)(P:cV)(ops:Array Oper)(Q:Exit->Act->az->Prop):Nat->Array aa->Act->az->Prop
 |0,b,a,w=>Region.ready .any ops b=[]/\Q .normal a w|fuel+1,b,a,w=>(Region.ready .any ops b=[]->Q .normal a w)/\
  ∀i∈Region.ready .any ops b,DE r P ops Q i (afs r P ops Q fuel (b.setIfInBounds i W)) a w
def WC{ops:Array Oper}(i:Nat)(rest:L Nat)(a:Act)(w:az):xP r P ops Q (i::rest) a w=DE r P ops Q i (xP r P ops Q rest) a w:=by cases h:ops[i]?<;>simp[xP,DE,h]
def IL{ops:Array Oper}{Q:Exit->Act->az->Prop}:∀(fuel t:Nat)(b:Array aa)(a:Act)(w:az),afs r P ops Q fuel b a w->xP r P ops Q (Region.linearise.go .any ops fuel t b []) a w
 |0,t,b,a,w,h=>by simpa[Region.linearise.go,xP]using h.2
 |fuel+1,t,b,a,w,h=>by
  obtain⟨e,f⟩:=h;simp only[Region.linearise.go];change xP r P ops Q (match(Region.ready .any ops b)[t%(Region.ready .any ops b).length]? with
   |some i=>Region.linearise.go .any ops fuel (t/(Region.ready .any ops b).length) (b.setIfInBounds i W) [i]|none=>[].reverse) a w
  generalize Region.ready .any ops b=l at *
  cases l with|nil=>simpa[xP]using e rfl|cons x d=>have c:t%(x::d).length<(x::d).length:=Nat.mod_lt _ (by simp);rw[iZ c];dsimp only;rw[linearise_go_acc,List.reverse_singleton,Mg,WC];exact(f _ (Oz c)).mono λa w=>IL fuel _ _ a w
def Oo{ops:Array Oper}{a:Act}{w:az}(f:P.follows .mixedOrders=W)
  (h:afs r P ops Q ops.size (Array.replicate ops.size J) a {w with drawn:=w.drawn+1}):(Code.region id ops W).wpIn (WR r) 0 P Q a w:=by
 intro b k cs d _ _;have h2:∀t,xP r P ops Q (Region.schedule (P.follows .mixedOrders) ops t) a {w with drawn:=w.drawn+1}:=λt=>by simp only[Region.schedule,f,Bool.true_or,kz];exact IL ops.size t _ a _ h
 obtain⟨e,g,i,j,c⟩:=nW _ a _ (h2 _) b k cs d;exact⟨e,g,i,j,.of_steps (gM.2 (.one stepR_region_draw)) c⟩
def afR:Exit->O (O Code)
 |.normal=>Z Y|.ret=>Z (Z .ret)|.exit i=>Z (Z (.exit i))|_=>Y
def YB(P:cV)(l:Nat)(R:Ending->az->Prop)(e:Exit)(_:Act)(w:az):Prop:=
 (e=.outgrown/\R .outgrown w)\/∃j,afR e=Z j/\∃v w',(Instr.endRound l j).run P w=.ok v w'/\R (.returned v) w'
def agV{l:Nat}{assign d:Code}{w:az}
  (h:assign.wpIn (WR (Z l)) 0 P (Exit.then (λt z=>∃u,(Instr.beginRound l).run P z=.ok () u/\d.wpIn (WR (Z l)) 0 P (YB P l R) t u) (λe _ w=>e=.outgrown/\R .outgrown w)) {tmps:=tmps,defers:=[]} w) {n:Nat} :
  RoundIn (WR r) n P l f tmps assign d w R:=by
 refine⟨trivial,λc cs _=>?_⟩
 let b:Frame:={(default:Frame)with fn:=f,kind:=.normal,roundOf:=Z l}
 have A:Frame.round l f tmps assign d .normal=b.atR {tmps:=tmps,defers:=[]} [.code assign,.beginRound,.code d]:=by rfl
 obtain⟨e,t,z,F,g⟩:=h b [.beginRound,.code d] (c::cs) rfl trivial (Om _);rw[<-A]at g;have out:∀{e:Exit}{a:Act}{m:az},(e=.outgrown/\R .outgrown m)->afr (Z l) P (lone (Frame.round l f tmps assign d .normal) (c::cs) w) b [.beginRound,.code d] (c::cs) e a m->
   ∃e m,R e m/\ComesIn (Machine.fenced P (WR r)) P (lone (Frame.round l f tmps assign d .normal) (c::cs) w) (match e with|.returned v=>lone (c.finish v) cs m|.panicked chain=>lone (c.raise chain) cs m|.outgrown=>lone c cs m) e:=by
  rintro e a m ⟨rfl,s⟩ g
  exact⟨.outgrown,m,s,g.resolve_left (by simp[b])⟩
 cases e with
 |normal=>
  obtain⟨u,B,o⟩:=F;have x:Steps P (lone (b.atR t [.beginRound,.code d]) (c::cs) z) (lone (b.atR t [.code d]) (c::cs) u):=.one (stepR_beginRound rfl B);obtain⟨I,a₂,K,p,i⟩:=o b [] (c::cs) rfl trivial (Om _);obtain⟨rfl,p⟩|⟨j,y,v,C,k,s⟩:=p
  exact⟨.outgrown,K,p,Outgrown.of_steps ((gM.1 g).trans x) (i.resolve_left (by simp[b]))⟩;cases I with
  |normal=>cases y;exact⟨.returned v,C,s,gM.2 ((gM.1 g).trans (x.trans ((gM.1 i).trans (.one (stepR_round_end rfl rfl k)))))⟩
  |ret=>cases y;obtain⟨S,E⟩:=i.2 rfl;exact⟨.returned v,C,s,gM.2 ((gM.1 g).trans (x.trans ((gM.1 E).trans (.one (stepR_round_ret rfl rfl k)))))⟩
  |exit id=>cases y;obtain⟨S,hk,E⟩:=i.2 rfl rfl;exact⟨.returned v,C,s,gM.2 ((gM.1 g).trans (x.trans ((gM.1 E).trans (.one (stepR_round_exit rfl rfl hk k)))))⟩
  |_=>cases y
 |_=>exact out F g
def nB(P:cV)(fn:Func)(tmps:Array aD)(R:Ending->az->Prop):L Deferred->FrameMode->az->Prop
 |[],.returning,w=>∃v,(results fn tmps).run P w=.ok v w/\R (.returned v) w|[],.panicking chain,w=>R (.panicked chain) w|[],.run,_=>False|d::ds,u,w=>u≠.run/\((∃b a,d.target=.collected b/\(Instr.takeDeferred b).run P w=.ok [] a/\nB P fn tmps R ds u a)\/
   ∃e cap f args,d.target=.fn e cap/\(invoke d.target d.args).run P w=.ok (.enter f args) w/\CallsD P f args u w λ
    |.returned _,c,a=>nB P fn tmps R ds (settle c) a|.panicked chain,c,a=>nB P fn tmps R ds (raised c chain) a|.outgrown,_,a=>R .outgrown a)
def sW:∀(ds:L Deferred)(u:FrameMode)(w:az)(fr:Frame)(cs:L Frame),fr.mode=u->fr.defers=ds->fr.tmps=tmps->P.funcs[fr.fn]?=Z fn->fr.kind=.normal->nB P fn tmps R ds u w->
  ∃e w' fr',R e w'/\Comes P (lone fr cs w) (lone fr' cs w') e/\fr'.fn=fr.fn/\fr'.leaving P w' e:=by
 intro ds
 induction ds with
 |nil=>
  intro u w fr cs l x y t z h;cases u with
  |run=>exact h.elim|returning=>obtain⟨v,S,m⟩:=h;exact⟨.returned v,w,fr,m,Steps.refl P _,rfl,l,x,z,fn,t,y▸S⟩
  |panicking chain=>exact⟨.panicked chain,w,fr,h,Steps.refl P _,rfl,l,x,fn,t⟩
 |cons d ds F=>
  intro u w fr cs l x y t z h;obtain⟨j,h⟩:=h;obtain⟨b,w',g,n,o⟩|⟨fv,cap,f,args,g,A,p⟩:=h
  have h1:=step_collected (cs:=cs) (l▸j) x g n;obtain⟨B,C,fr',m,hs,I,hl⟩:=F u w' {fr with defers:=[]++ds} cs l rfl y t z o;exact⟨B,C,fr',m,Comes.of_steps (.one h1) hs,I,hl⟩;have h1:=step_defer (cs:=cs) (l▸j) x g A;obtain⟨e,k,w',frX,m,a,K,E⟩:=p {fr with defers:=ds} cs l;cases e with
  |returned v=>have h2:=step_going_returned (c:={{fr with defers:=ds}with mode:=k}) (cs:=cs) K E;obtain⟨B,C,fr',q,r,i,s⟩:=F (settle k) w' {{{fr with defers:=ds}with mode:=k}with mode:=settle k} cs rfl rfl y t z m;exact⟨B,C,fr',q,Comes.of_steps (.head h1 (Steps.trans a (.one h2))) r,i,s⟩
  |panicked chain=>have h2:=step_going_panicked (c:={{fr with defers:=ds}with mode:=k}) (cs:=cs) E;obtain⟨B,C,fr',q,r,i,s⟩:=F (raised k chain) w' {{{fr with defers:=ds}with mode:=k}with mode:=raised k chain} cs rfl rfl y t z m;exact⟨B,C,fr',q,Comes.of_steps (.head h1 (Steps.trans a (.one h2))) r,i,s⟩
  |outgrown=>exact⟨.outgrown,w',fr,m,Outgrown.of_steps (.one h1) a,rfl,trivial⟩
def agc(P:cV)(fn:Func)(R:Ending->az->Prop):Exit->Act->az->Prop
 |.normal,a,w|.ret,a,w=>nB P fn a.tmps R a.defers .returning w|.panic chain,a,w=>nB P fn a.tmps R a.defers (.panicking chain) w|.outgrown,_,w=>R .outgrown w|_,_,_=>False
def s8{c:Code}{w:az}(hf:P.funcs[f]?=Z fn)(v:fn.body=Z c)
  (h:c.wpIn (WR Y) 0 P (agc P fn R) {tmps:=args++Array.replicate (fn.ntmps-args.size) undef,defers:=[]} w):Calls P f args w R:=by
 intro cs
 let b:Frame:={(default:Frame)with fn:=f,kind:=.normal}
 have j:Frame.enter P f args .normal=b.at {tmps:=args++Array.replicate (fn.ntmps-args.size) undef,defers:=[]} [.code c]:=by simp[Frame.enter,Frame.at,hf,v,b]
 obtain⟨e,n,u,o,a⟩:=wpIn_wide.1 h b [] cs;rw[<-j]at a;cases e with
 |normal=>obtain⟨p,q,d,r,s,g,t⟩:=sW n.defers .returning u {b.at n []with mode:=.returning} cs rfl rfl rfl hf rfl o;exact⟨p,q,d,r,Comes.of_steps (Steps.trans a (.one step_end)) s,g,t⟩
 |ret=>obtain⟨i,m⟩:=a;obtain⟨p,q,d,r,s,g,t⟩:=sW n.defers .returning u {b.at n i with mode:=.returning} cs rfl rfl rfl hf rfl o;exact⟨p,q,d,r,Comes.of_steps m s,g,t⟩
 |panic chain=>obtain⟨i,m⟩:=a;obtain⟨p,q,d,r,s,g,t⟩:=sW n.defers (.panicking chain) u {b.at n i with mode:=.panicking chain} cs rfl rfl rfl hf rfl o;exact⟨p,q,d,r,Comes.of_steps m s,g,t⟩
 |exit id=>exact o.elim|goto l=>exact o.elim|outgrown=>exact⟨.outgrown,u,b,o,a.resolve_left (by simp[b]),rfl,trivial⟩
end
section
variable {g:Gh}{w:az}
variable {s:St}{E:Env}{fr:Fr}{a:Act}
def Sw{i:TI}{x:T}{vx:aD}{r:Prop×T×St}(h:loadT i s x=Z r)(a:aL g w x vx):∃ad,vx=.pointer (Z ad):=by cases a with|ptr o off b c=>grind|mD=>grind|mC=>grind|_=>simp[loadT]at h
def ac4(tmps:Array aD):ResultVar->Sem aD
 |.tmp t=>pure (tmps.getD t undef)|.cell a t=>do loadVar t (<-asAddr (tmps.getD a undef))
def qZ{E:Env}(c:Cc E){fr:Fr}{s:St}{a:Act}(hf:cZ g fr a w)(hs:bg g s w):∀{l:L ResultVar}{p:Prop}{ts:L T},m7 E s fr l=Z (p,ts)->p->
  ∃vs,(l.mapM (ac4 a.tmps)).run E.P w=.ok vs w/\PW (aL g w) ts vs
 |[],p,ts,h,b=>by obtain⟨_,rfl⟩:=h;exact⟨[],rfl,rfl,λj t v h=>by simp at h⟩
 |.tmp t::l,p,ts,h,b=>by
  simp[m7]at h;split at h;rename_i x q r d e;obtain⟨rfl,rfl⟩:=h
  let ⟨vs,h1,h2⟩:=qZ c hf hs e b
  let ⟨v,y,f⟩:=hf.tm t x d
  refine⟨v::vs,?_,by simp[h2.1],λj i k m n=>?_⟩
  simp_all[ac4]
  .cases j with|zero=>simp_all|succ j=>exact h2.2 j i k (by simpa using m) (by simpa using n)
  cases h
 |.cell z t::l,p,ts,h,b=>by
  simp[m7]at h;split at h;rename_i x A d;split at h;rename_i o e;obtain⟨rfl,rfl⟩:=h
  let ⟨vs,h1,h2⟩:=qZ c hf hs e b.2
  let ⟨v,y,f⟩:=hf.tm z x d
  let ⟨u,I,B,_⟩:=Ep (c.ti _ _ A) hs f o b.1
  obtain⟨C,rfl⟩:=Sw o f;have F:(loadVar t C).run E.P w=.ok u w:=by grind[Instr.loadAt,Instr.sureAddr]
  refine⟨u::vs,?_,by simp[h2.1],λj i k m n=>?_⟩
  simp_all[ac4,asAddr]
  .cases j with|zero=>simp_all|succ j=>exact h2.2 j i k (by simpa using m) (by simpa using n)
  cases h;cases h
def Oj(c:Cc E)(hf:cZ g fr a w)(hs:bg g s w){fn:Func}{p:Prop}{ts:L T}(h:m7 E s fr fn.results.toList=Z (p,ts))(d:p) :
  ∃v,(results fn a.tmps).run E.P w=.ok v w/\aL g w (agO ts) v:=by
 let ⟨b,h1,h2⟩:=qZ c hf hs h d
 refine⟨if h:b.toArray.size=1 then b.toArray[0]else .tuple b.toArray,?_,?_⟩;have e:results fn a.tmps=(do
   let b <-fn.results.mapM (ac4 a.tmps)
   pure (if h:b.size=1 then b[0]else .tuple b)):=by
  rfl
 simp_all[Array.mapM_eq_mapM_toList]
 match ts,b,h2 with
 |[],[],_=>exact .gX _ _ rfl (λj t v h=>by simp at h)
 |[t],[v],h2=>exact h2.2 0 t v rfl rfl|t::f::ts,v::i::b,h2=>simp only[agO,UA,l5];exact .gX _ _ (by simpa using h2.1) (λj t v h3 h4=>h2.2 j t v h3 (by simpa using h4))
 |[],_::_,h2=>exact absurd h2.1 (by simp)
 |_::_,[],h2=>exact absurd h2.1 (by simp)
 |[_],_::_::_,h2=>exact absurd h2.1 (by simp)
 |_::_::_,[_],h2=>exact absurd h2.1 (by simp)
def HJ:∀(l:L T)(k:Nat)(t:Tr T),k+l.length<=bO->∀j,(CT l k t).get j=if k<=j/\j<k+l.length then l[j-k]? else t.get j
 |[],k,t,_,j=>by
  have:¬(k<=j/\j<k+([]:L T).length):=by simp
  rw[bS this];rfl
 |a::l,k,t,h,j=>by
  simp at h;simp only[CT];rw[HJ l (k+1) _ (by omega),Tr.aX _ _ _ _ (by omega)]
  grind
end
section
inductive Ty where
 |int (k:IntKind)|bool|str|sl (e:Ty)|st (n:Nat)|dn (n:Nat)|opt (n:Nat)|mp (k v:Ty)
 deriving Inhabited
def sN:Ty->Ty->aa
 |.int j,.int k=>pz j k|.bool,.bool=>W|.str,.str=>W|.sl a,.sl b=>sN a b|.st m,.st n=>Nq m n|.dn m,.dn n=>Nq m n|.opt m,.opt n=>Nq m n|.mp a b,.mp c d=>sN a c&&sN b d|_,_=>J
theorem j4{a:Ty}:∀{b:Ty},sN a b=W->a=b:=by
 induction a with
 |int j=>
  intro b h;cases b with
  |int k=>
   have:j=k:=by cases j<;>cases k<;>first|rfl|cases h
   rw[this]
  |_=>cases h
 |bool=>intro b h;cases b<;>first|rfl|cases h
 |str=>intro b h;cases b<;>first|rfl|cases h
 |sl e g=>
  intro b h;cases b with|sl f=>rw[g h]|_=>cases h
 |st m=>
  intro b h;cases b with|st n=>rw[wA h]|_=>cases h
 |dn m=>
  intro b h;cases b with|dn n=>rw[wA h]|_=>cases h
 |opt m=>
  intro b h;cases b with|opt n=>rw[wA h]|_=>cases h
 |mp k v g i=>
  intro b h;cases b with|mp c d=>have h:=zT.1 h;rw[g h.1,i h.2]|_=>cases h
@[reducible] def den(A:Nat->Type):Ty->Type
 |.int _=>Int|.bool=>aa|.str=>L UInt8|.sl e=>L (den A e)|.st n=>A n|.dn n=>A n|.opt n=>O (A n)|.mp k v=>L (den A k×den A v)
@[reducible] def mA(A:Nat->Type):L Ty->Type
 |[]=>U|t::l=>den A t×mA A l
@[reducible] def yV(A:Nat->Type):L (TypeId×Ty)->Type
 |[]=>U|p::l=>Sum (den A p.2) (yV A l)
def nL:L (TypeId×Ty)->Nat->Ty
 |[],_=>.bool|p::_,0=>p.2|_::l,i+1=>nL l i
def xN:L (TypeId×Ty)->TypeId->O Nat
 |[],_=>Y|p::l,t=>bif Nq p.1 t then Z 0 else match xN l t with
  |some i=>Z (Ns i)|none=>Y
def aaa{A:Nat->Type}:(l:L (TypeId×Ty))->(i:Nat)->den A (nL l i)->yV A l
 |[],_,_=>()|_::_,0,x=>.inl x|_::l,i+1,x=>.inr (aaa l i x)
def ZB{A:Nat->Type}:(l:L (TypeId×Ty))->yV A l
 |[]=>()|_::l=>.inr (ZB l)
def isNil{A:Nat->Type}:(l:L (TypeId×Ty))->yV A l->aa
 |[],_=>W|_::_,.inl _=>J|_::l,.inr y=>isNil l y
def mQ{A:Nat->Type}:(l:L (TypeId×Ty))->Nat->yV A l->aa
 |[],_,_=>J|_::_,0,.inl _=>W|_::_,0,.inr _=>J|_::_,_+1,.inl _=>J|_::l,i+1,.inr y=>mQ l i y
def kK{A:Nat->Type}(z:(t:Ty)->den A t):(l:L (TypeId×Ty))->(i:Nat)->yV A l->den A (nL l i)
 |[],_,_=>z .bool|_::_,0,.inl x=>x|p::_,0,.inr _=>z p.2|_::l,i+1,.inl _=>z (nL l i)|_::l,i+1,.inr y=>kK z l i y
structure Sg where
 A:Nat->Type
 fs:Nat->List Ty
 dfl:(n:Nat)->A n
 get:(n:Nat)->A n->mA A (fs n)
 FC:(n:Nat)->mA A (fs n)->A n
 cells:(n:Nat)->A n->List D
 alts:Nat->List (TypeId×Ty)
 vg:(n:Nat)->A n->yV A (alts n)
 imk:(n:Nat)->yV A (alts n)->A n
 sv:(n:Nat)->A n->Option (TypeId×D)
 pt:Ty
variable {S:Sg}
def Sg.zero(S:Sg):(t:Ty)->den S.A t
 |.int _=>(0:Int)|.bool=>J|.str=>([]:L UInt8)|.sl _=>[]|.st n=>S.dfl n|.dn n=>S.imk n (ZB (S.alts n))|.opt _=>Y|.mp _ _=>[]
def cY(s:L UInt8):ByteArray:=⟨s.toArray⟩
def ofBytes(b:ByteArray):L UInt8:=b.data.toList
def Rr:O (TypeId×D)->D
 |none=>.lit .nilIface|some p=>.dn p.1 p.2
def ptD:O D->D
 |none=>.lit (.pointer Y)|some d=>.pt d
def enc(S:Sg):(t:Ty)->den S.A t->D
 |.int k,n=>.lit (.int k n)|.bool,b=>.lit (.bool b)|.str,s=>.lit (.string (cY s))|.sl e,l=>.sl (l.map (enc S e))|.st n,x=>.agg (S.cells n x)|.dn n,x=>Rr (S.sv n x)|.opt n,x=>ptD (x.map λy=>.agg (S.cells n y))|.mp k v,l=>.mp (l.map λp=>enc S k p.1) (l.map λp=>enc S v p.2)
def fj(S:Sg):(ts:L Ty)->mA S.A ts->L D
 |[],_=>[]|t::l,x=>enc S t x.1::fj S l x.2
def lf:Ty->aa|.st _=>W|_=>J
def Sg.width(S:Sg):Ty->Nat|.st n=>cM (S.fs n)|_=>1
inductive V(S:Sg) where
 |ty (t:Ty) (x:den S.A t)|kb (b:aa)|kn (k:IntKind) (n:Int)|dat (d:D)|ptr (o off:Nat)|mD (t:Ty) (x:den S.A t) (off:Nat)|mC (o e i off:Nat)|sh (o e:Nat)|emp|kR (n:Nat) (t:Ty) (l:List (den S.A t))|fn (f:Fn) (first cap:List (V S))
 |dn (t:TypeId) (v:V S)|agg (cs:List (V S))|gX (vs:List (V S))|gd (c:aa) (v:V S)|mp (o:Nat)|r9 (o:Nat)|uH (o:Nat)|ub (e:aa)|sV (o m r i:Nat)|qx (n j:Nat) (x:S.A n)
inductive tG(S:Sg) where
 |call (f:V S) (args:List (V S))|mark (o:Nat)|marks (o:Nat)|kO|bad
structure cr(S:Sg) where
 n:Nat
 tm:Tr (V S)
 df:List (tG S):=[]
structure LpV(S:Sg) where
 st:LoopState
 wC:Option Code
 fid:FuncId
 fr:cr S
 params:List Nat
 assign:Code
 body:Code
inductive vO(S:Sg) where
 |box (cs:List (V S))|arr (t:Ty) (l:List (den S.A t)) (era:Nat)|lW (t:Ty) (l:List (den S.A t)) (era:Nat)|map (kt vt:Ty) (l:List (den S.A kt×den S.A vt))|Jh (kt:Ty) (l:List (den S.A kt×V S))|r8 (b:List UInt8) (pos:Nat)|lp (l:LpV S)|AG|l8 (n j:Nat) (l:List (S.A n)) (era m ij:Nat) (hole:Option Nat)|rws (t:Ty) (iY:List (List (den S.A t))) (ij:Nat)|gone|Hj
structure bx(S:Sg) where
 ob:Tr (vO S)
 aH:Nat
 fl:Nat
 lo:Nat
 wr:List Nat
 dr:List Nat
def cr.get(fr:cr S)(k:Nat):O (V S):=fr.tm.get k
def cr.put(fr:cr S)(k:Nat)(v:V S):cr S:={fr with tm:=fr.tm.set aP k v}
def cr.jb(fr:cr S)(k:O Nat)(v:V S):cr S:=match k with|some k=>fr.put k v|none=>fr
def Bm:(ts:L Ty)->mA S.A ts->L (V S)
 |[],_=>[]|t::l,x=>.ty t x.1::Bm l x.2
def w4:(t:Ty)->den S.A t->L (V S)
 |.st n,x=>Bm (S.fs n) (S.get n x)|.int k,x=>[.ty (.int k) x]|.bool,x=>[.ty .bool x]|.str,x=>[.ty .str x]|.sl e,x=>[.ty (.sl e) x]|.dn n,x=>[.ty (.dn n) x]|.opt n,x=>[.ty (.opt n) x]|.mp k v,x=>[.ty (.mp k v) x]
def vF:aD->O (V S)
 |.bool b=>Z (.kb b)|.int k n=>Z (.kn k n)|.slice Y 0 0=>Z .emp|.func f a b=>match a.toList,b.toList with
  |[],[]=>Z (.fn f [] [])|_,_=>Y
 |.iface t v=>(El v).map λd=>.dat (.dn t d)|.string b=>Z (.ty .str (ofBytes b))|v=>(El v).map .dat
def zeroV:D->V S
 |.lit (.bool b)=>.kb b|.lit (.int k n)=>.kn k n|.lit (.string b)=>.ty .str (ofBytes b)|.sl []=>.emp|d=>.dat d
def ZU:V S->aa
 |.ty t _=>!(lf t)|.dat d=>d.leaf|.agg _|.gX _|.gd _ _=>J|_=>W
def CQ:L (V S)->aa
 |[]=>W|v::l=>ZU v&&CQ l
def xw(i:TI):V S->O (L (V S))
 |.agg a=>bif i.agg&&Nq (cM a) i.size then Z a else Y|.ty (.st n) x=>bif i.agg&&Nq (cM (S.fs n)) i.size then Z (Bm (S.fs n) (S.get n x))else Y|.dat d=>bif i.agg then Y else bif Nq i.size 1&&d.leaf then Z [.dat d]else Y|.gX _|.gd _ _=>Y|v=>bif i.agg then Y else bif Nq i.size 1 then Z [v]else Y
def Eg(agg:aa)(cs:L (V S)):O (V S):=
 bif agg then Z (.agg cs)else match cs with
  |[x]=>Z x|_=>Y
def cI(fr:cr S):Operand->O (V S)
 |.tmp k=>fr.get k|.const v=>vF v|.global _=>Y|.func f=>Z (.fn (.func f) [] [])
def kB(fr:cr S):L Operand->O (L (V S))
 |[]=>Z []|x::l=>match cI fr x,kB fr l with
  |some t,Z r=>Z (t::r)|_,_=>Y
def ia(k:IntKind):V S->O Int
 |.kn j n=>bif pz j k then Z n else Y|.ty (.int j) x=>bif pz j k then Z x else Y|_=>Y
def iI:V S->O aa
 |.kb b=>Z b|.ty .bool x=>Z x|_=>Y
def wL:V S->O (L UInt8)
 |.ty .str x=>Z x|_=>Y
def xz(t u:Ty)(x:den S.A t):O (den S.A u):=
 if h:sN t u=W then Z (j4 h▸x)else Y
def oX(t u:Ty)(x:L (den S.A t)):O (L (den S.A u)):=
 if h:sN t u=W then Z (j4 h▸x)else Y
def yW:(ts:L Ty)->mA S.A ts->Nat->(t:Ty)->den S.A t->mA S.A ts
 |[],h,_,_,_=>h| τ::_,h,0,t,y=>(match xz t τ y with|some z=>z|none=>h.1,h.2)
 |_::ts,h,j+1,t,y=>(h.1,yW ts h.2 j t y)
def eu:(ts:L Ty)->mA S.A ts->Nat->(t:Ty)->den S.A t
 |[],_,_,t=>S.zero t| τ::_,h,0,t=>match xz τ t h.1 with|some z=>z|none=>S.zero t
 |_::ts,h,j+1,t=>eu ts h.2 j t
def Wc(n j:Nat)(t:Ty)(x:S.A n)(y:L (den S.A t)):S.A n:=S.FC n (yW (S.fs n) (S.get n x) j (.sl t) y)
def Jz(n j:Nat)(t:Ty)(x:S.A n):L (den S.A t):=eu (S.fs n) (S.get n x) j (.sl t)
def M1(n j:Nat)(t:Ty)(l:L (S.A n)):L (L (den S.A t)):=l.map (Jz n j t)
def pW(n j:Nat)(t:Ty)(l:L (S.A n))(iY:L (L (den S.A t))):L (S.A n):=List.zipWith (Wc n j t) l iY
def E7(S:Sg)(n j:Nat)(t:Ty):aa:=match nth (S.fs n) j with|some u=>sN u (.sl t)|none=>J
def Oi(s:bx S)(m r:Nat):O ((t:Ty)×L (L (den S.A t))):=match s.ob.get m with
 |some (.rws t a b)=>bif Nq r b then Z ⟨t,a⟩else Y|_=>Y
def LQ(s:bx S)(e:Ty):V S->O (L (den S.A e))
 |.emp=>Z []|.kR _ t l=>oX t e l|.qx n _ x=>oX (.st n) e [x]|.ty (.sl t) x=>oX t e x|.sh o r=>match s.ob.get o with
  |some (.arr t l era)|some (.lW t l era)=>bif Nq r era then oX t e l else Y|_=>Y
 |_=>Y
mutual
def ck(s:bx S):(t:Ty)->V S->O (den S.A t×L Nat)
 |t,.ty u x=>match xz u t x with
  |some y=>Z (y,[])|none=>Y
 |.bool,.kb b=>Z (b,[])|.int k,.kn j n=>bif pz j k then Z (n,[])else Y|.sl _,.emp=>Z ([],[])|.sl e,.kR _ t l=>match oX t e l with
  |some l=>Z (l,[])|none=>Y
 |.sl e,.qx n _ x=>match oX (.st n) e [x]with
  |some l=>Z (l,[])|none=>Y
 |.sl e,.sh o r=>match s.ob.get o with
  |some (.arr t l era)=>bif Nq r era then match oX t e l with|some l=>Z (l,[o])|none=>Y else Y
  |some (.lW t l era)=>bif Nq r era then match oX t e l with|some l=>Z (l,[])|none=>Y else Y
  |some (.l8 n j l era m c Y)=>match Oi s m c with
   |some ⟨t,a⟩=>bif Nq r era&&(Nt m bO&&E7 S n j t)then match oX (.st n) e (pW n j t l a)with|some l=>Z (l,[o,m])|none=>Y else Y
   |none=>Y
  |_=>Y
 |.st n,.agg d=>match oE s (S.fs n) d with
  |some (h,os)=>Z (S.FC n h,os)|none=>Y
 |.dn n,.dn t v=>match xN (S.alts n) t with
  |some i=>match ck s (nL (S.alts n) i) v with
   |some (y,os)=>Z (S.imk n (aaa (S.alts n) i y),os)|none=>Y
  |none=>Y
 |.dn n,.dat (.lit .nilIface)=>Z (S.imk n (ZB (S.alts n)),[])|.opt _,.dat (.lit (.pointer Y))=>Z (Y,[])|_,_=>Y
def oE(s:bx S):(ts:L Ty)->L (V S)->O (mA S.A ts×L Nat)
 |[],[]=>Z ((),[])|t::ts,v::l=>match ck s t v,oE s ts l with
  |some (x,os),Z (h,a)=>Z ((x,h),os++a)|_,_=>Y
 |_,_=>Y
end
def dZ(s:bx S):L Nat->O (bx S)
 |[]=>Z s|o::l=>
  bif Nl s.fl o then match s.ob.get o with
   |some (.arr t a era)=>dZ {s with ob:=s.ob.set aP o (.lW t a era),wr:=o::s.wr} l
   |some (.lW _ _ _)=>dZ s l|some (.l8 n j a era m r Y)=>match Oi s m r with
    |some ⟨t,b⟩=>bif l.contains m&&(Nl s.fl m&&(Nt m bO&&E7 S n j t))then dZ {s with ob:=(s.ob.set aP m .gone).set aP o (.lW (.st n) (pW n j t a b) era),wr:=o::m::s.wr} l else Y
    |none=>Y
   |some (.rws ..)=>dZ s l|some .gone=>dZ s l|_=>Y
  else Y
def dy(s:bx S)(o:vO S):bx S:={s with ob:=s.ob.set aP s.aH o,aH:=Ns s.aH}
def gZ(a b:L UInt8):aa:=a==b
def cO{α:Type}(l:L α)(lo hi:Int):L α:=(l.take hi.toNat).drop lo.toNat
def au{α:Type}(l:L α):Int:=l.length
def mX(b:L UInt8)(n:Int):Int:=(b.getD n.toNat 0).toNat
def dx{α:Type}(a b:L α):L α:=a++b
def aM{α:Type}(n:Int)(l:L α):aa:=decide (0<=n)&&decide (n<l.length)
def ei{α:Type}(k:Nat)(l:L α):aa:=decide (k<l.length)
def eF(lo hi len:Int):aa:=decide (0<=lo)&&(decide (lo<=hi)&&decide (hi<=len))
def aeD(a b:L UInt8):aa:=decide (a.length+b.length<=4611686018427387904)
def dI{α:Type}(a b:L α):aa:=decide (a.length+b.length<=17179869184)
def nzI(a:Int):aa:=decide (a≠0)
def bE{α:Type}(l:L α)(k:Nat)(z:α):α:=l.getD k z
def lM{α:Type}(l:L α)(k:Nat)(x:α):L α:=l.set k x
def adM{α β:Type}(l:L α)(m:L β):aa:=decide (l.length=m.length)
def aam{α:Type}(k:Nat)(l:L α)(h i:Nat):aa:=decide (k<l.length)&&(Nq k h&&Nq i h)
def fZ(a b:Int):aa:=decide (a=b)
def aC(n:Int):Nat:=n.toNat
abbrev oh(S:Sg):=O (aa×V S×bx S)
def FK:Lk->V S->V S->O aa
 |.int k,a,b=>match ia k a,ia k b with
  |some x,Z y=>Z (af x y)|_,_=>Y
 |.bool,a,b=>match iI a,iI b with
  |some x,Z y=>Z (pZ x y)|_,_=>Y
 |.str,a,b=>match wL a,wL b with
  |some x,Z y=>Z (gZ x y)|_,_=>Y
 |.no,_,_=>Y
def lg:L Lk->L (V S)->L (V S)->O aa
 |[],[],[]=>Z W|k::c,a::as,b::d=>match FK k a b,lg c as d with
  |some x,Z y=>Z (bR x y)|_,_=>Y
 |_,_,_=>Y
def aaR:V S->V S->O aa
 |.dat (.lit (.pointer Y)),.ptr _ _=>Z J|.ptr _ _,.dat (.lit (.pointer Y))=>Z J|_,_=>Y
def aaS:V S->V S->O aa
 |.dat (.lit .nilIface),.dn _ _=>Z J|.dn _ _,.dat (.lit .nilIface)=>Z J|_,_=>Y
def ais(i:TI)(a b:V S):O aa:=
 bif i.agg then match i.lks,xw i a,xw i b with
  |[],_,_=>Y|k::c,Z as,Z d=>lg (k::c) as d|_,_,_=>Y
 else match i.kd with
  |.leaf k=>FK k a b|.ptr=>aaR a b|.iface=>aaS a b|_=>Y
def aeQ(op:BinOp)(k:IntKind)(m n:Int):O (V S):=
 match op with
 |.lss=>Z (.ty .bool (aG m n))|.leq=>Z (.ty .bool (bB m n))|.gtr=>Z (.ty .bool (aG n m))|.geq=>Z (.ty .bool (bB n m))|.add=>Z (.ty (.int k) (aJ k m n))|.sub=>Z (.ty (.int k) (bn k m n))|.mul=>Z (.ty (.int k) (I8 k m n))|_=>Y
def aeM(op:BinOp)(k:IntKind)(m n:Int):O (V S):=
 match op with
 |.rem=>Z (.ty (.int k) (uD m n))|.quo=>Z (.ty (.int k) (ack k m n))|_=>Y
def Iz(i:TI)(op:BinOp)(a b:V S):O (aa×V S):=
 match op with
 |.eql=>(ais i a b).map λr=>(W,.ty .bool r)|.neq=>(ais i a b).map λr=>(W,.ty .bool (av r))|op=>match i.kd with
  |.leaf (.int k)=>match ia k a,ia k b with
   |some m,Z n=>match aeQ op k m n with
    |some d=>Z (W,d)|none=>(aeM op k m n).map λd=>(nzI n,d)
   |_,_=>Y
  |.leaf .str=>match op,wL a,wL b with
   |.add,Z m,Z n=>Z (aeD m n,.ty .str (dx m n))|_,_,_=>Y
  |_=>Y
def Nf(s:bx S)(o e:Nat):O ((t:Ty)×L (den S.A t)):=
 match s.ob.get o with
 |some (.arr t l era)=>bif Nq e era then Z ⟨t,l⟩else Y|some (.lW t l era)=>bif Nq e era then Z ⟨t,l⟩else Y|_=>Y
def acR(τ:O Ty)(t:Ty):aa:=match τ with|some u=>sN u t|none=>J
def UK(i:TI)(τ:O Ty)(t:Ty)(x:den S.A t)(off:Nat):O (V S):=
 bif Nq off 0&&acR τ t then Z (.ty t x)
 else
  bif Nl (Na off i.size) (S.width t)then Eg i.agg (((w4 t x).drop off).take i.size)else Y
def eA:V S:=.dat (.lit (.tuple #[]))
def zh(i:TI)(τ:O Ty)(s:bx S):V S->oh S
 |.ptr o off=>match s.ob.get o with
  |some (.box a)=>
   let l:=(a.drop off).take i.size
   bif Nq (cM l) i.size then(Eg i.agg l).map λt=>(W,t,s)else Y
  |_=>Y
 |.mD t x off=>(UK i τ t x off).map λv=>(W,v,s)|.mC o e k off=>match Nf s o e with
  |some ⟨t,l⟩=>(UK i τ t (bE l k (S.zero t)) off).map λv=>(ei k l,v,s)|none=>Y
 |_=>Y
def Sg.nh(S:Sg):Ty->L Ty
 |.st n=>S.fs n|t=>[t]
def wU:(t:Ty)->mA S.A (S.nh t)->den S.A t
 |.st n,h=>S.FC n h|.int _,h=>h.1|.bool,h=>h.1|.str,h=>h.1|.sl _,h=>h.1|.dn _,h=>h.1|.opt _,h=>h.1|.mp _ _,h=>h.1
def Ge(i:TI)(s:bx S)(a x:V S):oh S:=
 match xw i x with
 |none=>Y|some l=>match a with
  |.ptr o off=>match s.ob.get o with
   |some (.box d)=>
    bif Nl s.fl o&&(Nl (Na off (cM l)) (cM d)&&CQ l)then
     Z (W,eA,{s with ob:=s.ob.set aP o (.box (d.take off++l++d.drop (Na off (cM l)))),wr:=o::s.wr})
    else Y
   |_=>Y
  |.mC o e k off=>match s.ob.get o with
   |some (.arr t _ _)=>match oE s ((S.nh t).drop off |>.take (cM l)) l with
    |some (_,os)=>match dZ s os with
     |some b=>match b.ob.get o with
      |some (.arr t c era)=>match oE s (S.nh t) ((w4 t (bE c k (S.zero t))).take off++l++(w4 t (bE c k (S.zero t))).drop (Na off (cM l)))with
       |some (h,_)=>
        bif Nl b.fl o&&(Nq e era&&(Nl (Na off (cM l)) (S.width t)&&(Nl 1 (cM l)&&CQ l)))then
         Z (ei k c,eA,{b with ob:=b.ob.set aP o (.arr t (lM c k (wU t h)) era),wr:=o::b.wr})
        else Y
       |none=>Y
      |_=>Y
     |none=>Y
    |none=>Y
   |_=>Y
  |_=>Y
def KM(place:Nat->O (Nat×TI))(cells:L (V S)):L (Nat×V S)->O (L (V S))
 |[]=>Z cells|(k,v)::a=>match place k with
  |none=>Y|some (off,i)=>match xw i v with
   |none=>Y|some l=>
    bif Nl (Na off (cM l)) (cM cells)&&CQ l then KM place (cells.take off++l++cells.drop (Na off (cM l))) a else Y
def je(fr:cr S):L (Nat×Operand)->O (L (Nat×V S))
 |[]=>Z []|(k,x)::l=>match cI fr x,je fr l with
  |some t,Z r=>Z ((k,t)::r)|_,_=>Y
def pH(s:bx S)(e:Ty)(es:L (den S.A e)):L (Nat×V S)->O (L (den S.A e)×L Nat)
 |[]=>Z (es,[])|(k,v)::a=>match ck s e v with
  |none=>Y|some (x,os)=>
   bif Nt k (cM es)then
    match pH s e (es.set k x) a with
    |some (r,b)=>Z (r,os++b)|none=>Y
   else Y
def Mj(fr:cr S):O Operand->O (O (V S))
 |none=>Z Y|some x=>(cI fr x).map Z
def Dz(dflt:Int):O (V S)->O Int
 |none=>Z dflt|some t=>ia .i64 t
def OW:V S->L Nat
 |.sh o _=>[o]|_=>[]
def wM(i:TI)(τ:O Ty)(s:bx S)(v:V S)(l h m:O (V S)):oh S:=
 match τ,Dz 0 l with
 |some .str,Z lo=>match i.kd,wL v,m with
  |.leaf .str,Z b,Y=>match Dz (au b) h with
   |some a=>Z (eF lo a (au b),.ty .str (cO b lo a),s)|none=>Y
  |_,_,_=>Y
 |some (.sl e),Z lo=>match i.kd,LQ s e v,dZ s (OW v)with
  |.slice _ _ _ _,Z c,Z d=>match Dz (au c) h,m,h with
   |some a,Y,_=>Z (eF lo a (au c),.ty (.sl e) (cO c lo a),d)|some a,Z y,Z _=>match y with
    |.kn .i64 0=>Z (fZ lo 0&&fZ a 0,.emp,s)|y=>match ia .i64 y with
     |some f=>Z (eF lo a (au c)&&fZ f a,.kR 0 e (cO c lo a),d)|none=>Y
   |_,_,_=>Y
  |_,_,_=>Y
 |_,_=>Y
def abp:V S->O (O aa×aa)
 |.gd g v=>match iI v with
  |some y=>Z (Z g,y)|none=>Y
 |.kb b=>Z (Y,b)|.ty .bool x=>Z (Y,x)|_=>Y
def orT(g:O aa):aa:=match g with|some g=>g|none=>W
def Zl(c a b:V S):O (aa×V S):=
 match c with
 |.kb u=>match abp (bif u then a else b)with
  |some (p,y)=>Z (orT p,.ty .bool y)|none=>Y
 |c=>match iI c,abp a,abp b with
  |some t,Z (p,x),Z (q,y)=>Z (bif t then orT p else orT q,.ty .bool (acm t x y))|_,_,_=>Y
def xK(n sz:Nat)(s:bx S)(x a:V S):oh S:=match x,a with
 |.mD t d b,.kn .i64 (.ofNat j)=>bif Nt j n then Z (W,.mD t d (Na b (Nat.mul j sz)),s)else Y|_,_=>Y
def EL{n sz:Nat}{s s':bx S}{x a t:V S}{p:aa}(h:xK n sz s x a=Z (p,t,s')):s'=s:=by unfold xK at h;split at h;rename_i j;cases b:Nt j n<;>rw[b]at h<;>cases h;rfl;cases h
def kH(i:TI)(τ:O Ty)(s:bx S)(x a:V S):oh S:=
 match i.kd,τ,ia .i64 a with
 |.slice _ _ _ _,Z (.sl e),Z n=>match x with
  |.sh o r=>match Nf s o r with
   |some ⟨t,l⟩=>bif sN t e then Z (aM n l,.mC o r (aC n) 0,s)else Y|none=>Y
  |v=>match LQ s e v with
   |some l=>Z (aM n l,.mD e (bE l (aC n) (S.zero e)) 0,s)|none=>Y
 |.array n sz _,_,_=>xK n sz s x a|_,_,_=>Y
def rN(i:TI)(s:bx S)(k:Nat)(x:V S):oh S:=
 match i.kd with
 |.struct a=>match nth a k with
  |some (off,size,_)=>bif Nq size 0 then Y else match x with
   |.ptr o b=>Z (W,.ptr o (Na b off),s)|.mD t d b=>Z (W,.mD t d (Na b off),s)|.mC o e j b=>Z (W,.mC o e j (Na b off),s)|_=>Y
  |none=>Y
 |_=>Y
def Dd(i:TI)(s:bx S)(k:Nat)(x:V S):oh S:=
 match i.kd with
 |.struct a=>match nth a k,xw i x with
  |some (off,size,b),Z c=>
   let l:=(c.drop off).take size
   bif Nq (cM l) size&&!(Nq size 0)then(Eg b l).map λt=>(W,t,s)else Y
  |_,_=>Y
 |_=>Y
def CU(i:TI)(s:bx S)(x a:V S):oh S:=
 match i.kd,ia .i64 a,wL x with
 |.leaf .str,Z n,Z b=>Z (aM n b,.ty (.int .u8) (mX b n),s)|_,_,_=>Y
def FO(i:TI)(s:bx S)(t:TypeId)(ok:aa)(x:V S):oh S:=
 match i.kd,x,ok with
 |.iface,_,_=>Y|_,.dn u v,W=>bif Nq u t then Z (W,.gX [v,.kb W],s)else
   (Eg i.agg (i.zero.map zeroV)).map λz=>(W,.gX [z,.kb J],s)
 |_,.dn u v,J=>bif Nq u t then Z (W,v,s)else Y|_,_,_=>Y
def unV(i:TI)(op:UnOp)(v:V S):O (V S):=
 match op,i.kd with
 |.not,.leaf .bool=>(iI v).map λb=>.ty .bool (av b)|.neg,.leaf (.int k)=>(ia k v).map λn=>.ty (.int k) (Rm k n)|_,_=>Y
def Vo(i j:TI)(s:bx S)(v:V S):oh S:=
 match i.kd,j.kd with
 |.leaf (.int k),.leaf (.int l)=>(ia k v).map λn=>(W,.ty (.int l) (TZ l n),s)|.leaf .str,.leaf .str=>(wL v).map λ_=>(W,v,s)|_,_=>Y
def Bz(s:bx S)(k:Nat):V S->oh S
 |.gX a=>(nth a k).map λt=>(W,t,s)|_=>Y
structure MT where
 kt:Ty
 vt:Option Ty
 el:TypeId
structure gC where
 E:Env
 ty:Nat->Option Ty
 mt:Nat->Option MT:=λ_=>Y
 Mu:Nat->String->Option FuncId:=λ_ _=>Y
 nst:Nat->Option Nat:=λ_=>Y
def cP(E:gC)(fr:cr S)(s:bx S)(o:Op):oh S:=
 match o with
 |.move x=>(cI fr x).map λt=>(W,t,s)|.assign x=>(cI fr x).map λt=>(W,t,s)|.pick c a b=>match cI fr c,cI fr a,cI fr b with
  |some c,Z a,Z b=>(Zl c a b).map λ(p,t)=>(p,t,s)|_,_,_=>Y
 |.alloc t=>match E.E.ti t with
  |some i=>bif Nt s.aH bO then Z (W,.ptr s.aH 0,dy s (.box (i.zero.map zeroV)))else Y|none=>Y
 |.box t x=>match E.E.ti t,cI fr x with
  |some i,Z v=>bif Nt s.aH bO then(xw i v).map λg=>(W,.ptr s.aH 0,dy s (.box g))else Y|_,_=>Y
 |.build t parts=>match E.E.ti t,je fr parts.toList with
  |some i,Z q=>match i.kd with
   |.struct w=>(KM (λk=>match nth w k with|some (off,size,z)=>Z (off,{(default:TI)with size:=size,agg:=z})|none=>Y) (i.zero.map zeroV) q).map
     λg=>(W,.agg g,s)
   |_=>Y
  |_,_=>Y
 |.buildSlice t len parts=>match E.E.ti t,E.ty t,je fr parts.toList with
  |some i,Z (.sl e),Z q=>match i.kd with
   |.slice sz _ _ _=>
    bif Nl (Nat.mul len sz) 16777216 then
     match pH s e (List.replicate len (S.zero e)) q with
     |some (A,os)=>(dZ s os).map λs=>(W,.kR len e A,s)|none=>Y
    else Y
   |_=>Y
  |_,_,_=>Y
 |.load t a=>match E.E.ti t,cI fr a with
  |some i,Z a=>zh i (E.ty t) s a|_,_=>Y
 |.store t a x=>match E.E.ti t,cI fr a,cI fr x with
  |some i,Z a,Z x=>Ge i s a x|_,_,_=>Y
 |.nilCheck x=>match cI fr x with
  |some (.ptr o b)=>Z (W,.ptr o b,s)|some (.mD t d b)=>Z (W,.mD t d b,s)|some (.mC o e j b)=>Z (W,.mC o e j b,s)|some (.dn t v)=>Z (W,.dn t v,s)|some (.fn (.func f) a b)=>Z (W,.fn (.func f) a b,s)|_=>Y
 |.binOp op t x y _=>match E.E.ti t,cI fr x,cI fr y with
  |some i,Z a,Z b=>(Iz i op a b).map λ(p,d)=>(p,d,s)|_,_,_=>Y
 |.unOp op t x=>match E.E.ti t,cI fr x with
  |some i,Z v=>(unV i op v).map λd=>(W,d,s)|_,_=>Y
 |.convert src r x=>match E.E.ti src,E.E.ti r,cI fr x with
  |some i,Z j,Z v=>Vo i j s v|_,_,_=>Y
 |.makeInterface t x=>match E.E.ti t,cI fr x with
  |some i,Z v=>match i.kd with
   |.iface=>Y|_=>Z (W,.dn t v,s)
  |_,_=>Y
 |.makeFunc f first cap=>match kB fr first.toList,kB fr cap.toList with
  |some a,Z b=>Z (W,.fn f a b,s)|_,_=>Y
 |.extract x k=>match cI fr x with
  |some v=>Bz s k v|none=>Y
 |.fieldAddr t x k=>match E.E.ti t,cI fr x with
  |some i,Z v=>rN i s k v|_,_=>Y
 |.field t x k=>match E.E.ti t,cI fr x with
  |some i,Z v=>Dd i s k v|_,_=>Y
 |.indexAddr t x u=>match E.E.ti t,cI fr x,cI fr u with
  |some i,Z v,Z n=>kH i (E.ty t) s v n|_,_,_=>Y
 |.index t x u=>match E.E.ti t,cI fr x,cI fr u with
  |some i,Z v,Z n=>CU i s v n|_,_,_=>Y
 |.slice t x lo B C=>match E.E.ti t,cI fr x,Mj fr lo,Mj fr B,Mj fr C with
  |some i,Z v,Z l,Z h,Z m=>wM i (E.ty t) s v l h m|_,_,_,_,_=>Y
 |.typeAssert x _ t ok=>match E.E.ti t,cI fr x with
  |some i,Z v=>FO i s t ok v|_,_=>Y
 |_=>Y
def W0:(kt:Ty)->V S->O (den S.A kt)
 |.int k,v=>ia k v|.bool,v=>iI v|.str,v=>wL v|_,_=>Y
def HC{A:Nat->Type}:(kt:Ty)->den A kt->den A kt->aa
 |.int _,a,b=>af a b|.bool,a,b=>pZ a b|.str,a,b=>gZ a b|_,_,_=>J
def FE{A:Nat->Type}{β:Type}(kt:Ty)(z:β)(k:den A kt):L (den A kt×β)->β
 |[]=>z|p::l=>bif HC kt k p.1 then p.2 else FE kt z k l
def HQ{A:Nat->Type}{β:Type}(kt:Ty)(k:den A kt):L (den A kt×β)->aa
 |[]=>J|p::l=>bif HC kt k p.1 then W else HQ kt k l
def jK{A:Nat->Type}{β:Type}(kt:Ty)(k:den A kt)(x:β):L (den A kt×β)->L (den A kt×β)
 |[]=>[(k,x)]|p::l=>bif HC kt k p.1 then(k,x)::l else p::jK kt k x l
def zm(kt c a b:Ty)(l:L (den S.A kt×den S.A c)):O (L (den S.A a×den S.A b)):=
 if h:sN kt a=W then if d:sN c b=W then Z (j4 h▸j4 d▸l)else Y else Y
def Lb{β:Type}(kt a:Ty)(l:L (den S.A kt×β)):O (L (den S.A a×β)):=
 if h:sN kt a=W then Z (j4 h▸l)else Y
def ZK(s:bx S)(kt a:Ty):V S->O (L (den S.A kt×den S.A a))
 |.mp o=>match s.ob.get o with
  |some (.map k v l)=>zm k v kt a l|_=>Y
 |.dat (.lit (.map Y))=>Z []|.ty (.mp k v) l=>zm k v kt a l|_=>Y
def AS{α:Type}:O α->aa
 |none=>J|some _=>W
def E4{α:Type}(z:α):O α->α
 |none=>z|some x=>x
def isE{α:Type}(l:L α):aa:=match l with|[]=>W|_::_=>J
def Ss(n:Int):aa:=decide (0<=n)&&decide (n<=17179869184)
def Se(pos:Nat)(b:L UInt8):aa:=decide (pos<b.length)
def vY(b:L UInt8)(pos:Nat):Int:=((Utf8.decode (cY b) pos).1:Nat)
def Jk(b:L UInt8)(pos:Nat):Nat:=(Utf8.decode (cY b) pos).2
def Pv(fr:cr S):O Operand->aa
 |none=>W|some x=>match cI fr x with
  |some (.kn _ _)=>W|some (.ty (.int _) _)=>W|_=>J
def uG(E:gC)(fr:cr S)(s:bx S)(o:Op):oh S:=
 match o with
 |.makeMap t r=>bif Nt s.aH bO&&Pv fr r then match E.mt t with
  |some m=>match m.vt with
   |some a=>Z (W,.mp s.aH,dy s (.map m.kt a []))|none=>Z (W,.mp s.aH,dy s (.Jh m.kt []))
  |none=>Y
  else Y
 |.lookup t x d ok=>match E.mt t,cI fr x,cI fr d with
  |some m,Z x,Z k=>match m.vt with
   |some a=>match W0 m.kt k,ZK s m.kt a x with
    |some k,Z l=>Z (W,bif ok then .gX [.ty a (FE m.kt (S.zero a) k l),.ty .bool (HQ m.kt k l)]else .ty a (FE m.kt (S.zero a) k l),s)|_,_=>Y
   |none=>Y
  |_,_,_=>Y
 |.mapUpdate t x d y|.insert t x d y=>match E.mt t,cI fr x,cI fr d,cI fr y with
  |some m,Z (.mp o),Z k,Z y=>match W0 m.kt k,s.ob.get o with
   |some k,Z (.map kt a l)=>match zm kt a m.kt a l,ck s a y with
    |some l,Z (y,os)=>match dZ s os with
     |some f=>bif Nl s.fl o&&acR m.vt a then Z (W,eA,{f with ob:=f.ob.set aP o (.map m.kt a (jK m.kt k y l)),wr:=o::f.wr})else Y
     |none=>Y
    |_,_=>Y
   |some k,Z (.Jh kt l)=>match Lb kt m.kt l with
    |some l=>bif Nl s.fl o then Z (W,eA,{s with ob:=s.ob.set aP o (.Jh m.kt (jK m.kt k y l)),wr:=o::s.wr})else Y
    |none=>Y
   |_,_=>Y
  |_,_,_,_=>Y
 |.makeSlice t n c=>match E.E.ti t,E.ty t,cI fr n,cI fr c with
  |some i,Z (.sl e),Z n,Z c=>match i.kd,ia .i64 n,ia .i64 c with
   |.slice _ _ _ _,Z n,Z c=>bif Nt s.aH bO then Z (Ss n&&fZ c n,.sh s.aH 0,dy s (.arr e (List.replicate (aC n) (S.zero e)) 0))else Y|_,_,_=>Y
  |_,_,_,_=>Y
 |.range t x=>match E.E.ti t,cI fr x with
  |some i,Z x=>match i.kd,wL x with
   |.leaf .str,Z b=>bif Nt s.aH bO then Z (W,.uH s.aH,dy s (.r8 b 0))else Y|_,_=>Y
  |_,_=>Y
 |.binOp .eql t x (.const .nilIface) _=>match E.E.ti t,cI fr x with
  |some i,Z (.ty (.dn n) y)=>match i.kd with
   |.iface=>Z (W,.ty .bool (isNil (S.alts n) (S.vg n y)),s)|_=>Y
  |some i,Z (.dat (.lit .nilIface))=>match i.kd with
   |.iface=>Z (W,.kb W,s)|_=>Y
  |_,_=>Y
 |.binOp .neq t x (.const .nilIface) _=>match E.E.ti t,cI fr x with
  |some i,Z (.ty (.dn n) y)=>match i.kd with
   |.iface=>Z (W,.ty .bool (av (isNil (S.alts n) (S.vg n y))),s)|_=>Y
  |some i,Z (.dat (.lit .nilIface))=>match i.kd with
   |.iface=>Z (W,.kb J,s)|_=>Y
  |_,_=>Y
 |.binOp .eql t x (.const (.slice Y 0 0)) _=>match E.E.ti t,E.ty t,cI fr x with
  |some i,Z (.sl e),Z x=>match i.kd,LQ s e x with
   |.slice _ _ _ _,Z l=>Z (W,.ub (isE l),s)|_,_=>Y
  |_,_,_=>Y
 |.nilCheck x=>match cI fr x with
  |some (.ty (.dn n) y)=>Z (av (isNil (S.alts n) (S.vg n y)),.ty (.dn n) y,s)|some (.ty (.opt n) y)=>Z (AS y,.mD (.st n) (E4 (S.dfl n) y) 0,s)|_=>Y
 |.binOp .eql t x (.const (.pointer Y)) _=>match E.E.ti t,cI fr x with
  |some i,Z (.ty (.opt _) y)=>match i.kd with
   |.ptr=>Z (W,.ty .bool (av (AS y)),s)|_=>Y
  |some i,Z (.dat (.lit (.pointer Y)))=>match i.kd with
   |.ptr=>Z (W,.kb W,s)|_=>Y
  |_,_=>Y
 |.binOp .neq t x (.const (.pointer Y)) _=>match E.E.ti t,cI fr x with
  |some i,Z (.ty (.opt _) y)=>match i.kd with
   |.ptr=>Z (W,.ty .bool (AS y),s)|_=>Y
  |some i,Z (.dat (.lit (.pointer Y)))=>match i.kd with
   |.ptr=>Z (W,.kb J,s)|_=>Y
  |_,_=>Y
 |.typeAssert x _ t ok=>match E.E.ti t,E.ty t,cI fr x with
  |some i,Z τ,Z (.ty (.dn n) y)=>match i.kd,xN (S.alts n) t with
   |.iface,_=>Y|_,Z j=>bif sN (nL (S.alts n) j) τ then
     let v:V S:=.ty (nL (S.alts n) j) (kK S.zero (S.alts n) j (S.vg n y))
     let b:=mQ (S.alts n) j (S.vg n y)
     bif ok then Z (W,.gX [v,.ty .bool b],s)else Z (b,v,s)
    else Y
   |_,Y=>bif ok then Z (W,.gX [.ty τ (S.zero τ),.kb J],s)else Y
  |_,_,_=>Y
 |.build t parts=>match E.E.ti t,je fr parts.toList with
  |some i,Z g=>match i.kd with
   |.array _ sz h=>(KM (λk=>Z (Nat.mul k sz,{(default:TI)with size:=sz,agg:=h})) (i.zero.map zeroV) g).map λp=>(W,.agg p,s)
   |_=>Y
  |_,_=>Y
 |_=>Y
def isNone{α:Type}:O α->aa|none=>W|some _=>J
def Cp(E:gC)(fr:cr S)(s:bx S)(o:Op):oh S:=
 match o with
 |.indexAddr t x g=>match cI fr x with
  |some (.sh o r)=>match s.ob.get o with
   |some (.l8 n _ l era _ _ _)=>match E.E.ti t,E.ty t,cI fr g with
    |some i,Z (.sl (.st p)),Z k=>match i.kd,ia .i64 k with
     |.slice _ _ _ _,Z k=>bif Nq r era&&Nq n p then Z (aM k l,.mC o r (aC k) 0,s)else Y|_,_=>Y
    |_,_,_=>Y
   |_=>Y
  |_=>Y
 |.load t a=>match cI fr a with
  |some (.mC o e k off)=>match s.ob.get o with
   |some (.l8 n j l era m b hole)=>match E.E.ti t with
    |some i=>bif Nq e era then
      bif Nq off j then
       bif Nq i.size 1&&(!i.agg&&(isNone hole&&Nt j (S.width (.st n))))then Z (ei k l,.sV o m b k,s)else Y
      else bif Nl (Na off i.size) j||Nt j off then(UK i Y (.st n) (bE l k (S.zero (.st n))) off).map λv=>(ei k l,v,s)else Y
     else Y
    |none=>Y
   |_=>Y
  |_=>Y
 |.store t a (.tmp c)=>match cI fr a,fr.get c with
  |some (.mC o e k off),Z (.sV q u r i)=>match s.ob.get o with
   |some (.l8 n j l era m b (Z h))=>match E.E.ti t with
    |some d=>bif (Nq e era&&(Nq off j&&(Nq q o&&(Nq u m&&(Nq r b&&(Nq d.size 1&&(!d.agg&&(Nl s.fl o&&(Nt j (S.width (.st n))&&Nt c bO)))))))))then
      Z (aam k l h i,eA,{s with ob:=s.ob.set aP o (.l8 n j l era m b Y),wr:=o::s.wr})
     else Y
    |none=>Y
   |_=>Y
  |_,_=>Y
 |.buildSlice t len parts=>match parts.toList with
  |[(0,.tmp c)]=>match E.E.ti t,E.ty t,fr.get c with
   |some i,Z (.sl (.st n)),Z (.agg f)=>match E.nst n with
    |some j=>match i.kd,nth f j with
     |.slice sz _ _ _,Z .emp=>bif Nq len 1&&(Nl sz 16777216&&Nt c bO)then match ck s (.st n) (.agg f)with
      |some (x,os)=>(dZ s os).map λs=>(W,.qx n j x,s)|none=>Y
      else Y
     |_,_=>Y
    |none=>Y
   |_,_,_=>Y
  |[]=>match E.E.ti t,E.ty t with
   |some i,Z (.sl _)=>match i.kd with
    |.slice _ _ _ _=>bif Nq len 0 then Z (W,.emp,s)else Y|_=>Y
   |_,_=>Y
  |_=>Y
 |.slice t x Y (Z w) Y=>match E.E.ti t,cI fr x,cI fr w with
  |some i,Z (.sh o r),Z h=>match i.kd,s.ob.get o,ia .i64 h with
   |.slice _ _ _ _,Z (.arr (.int .i64) l era),Z h=>bif Nq r era&&Nl s.fl o then
     Z (eF 0 h (au l),.sh o (Ns era),{s with ob:=s.ob.set aP o (.arr (.int .i64) (cO l 0 h) (Ns era)),wr:=o::s.wr})
    else Y
   |_,_,_=>Y
  |_,_,_=>Y
 |_=>Y
def Bb(E:gC)(fr:cr S)(s:bx S)(o:Op):oh S:=match Cp E fr s o with
 |some r=>Z r|none=>match cP E fr s o with
  |some r=>Z r|none=>uG E fr s o
def Ao(n:Int)(ag:aa)(sz:Nat)(cs:L (V S))(s:bx S):L Nat->L (aa×V S×bx S)
 |[]=>[]|j::l=>match bif Nq (cM ((cs.drop (Nat.mul j sz)).take sz)) sz&&Nt 0 sz then Eg ag ((cs.drop (Nat.mul j sz)).take sz)else Y with
  |some v=>(fZ n (Int.ofNat j),v,s)::Ao n ag sz cs s l|none=>[]
def l7(E:gC)(fr:cr S)(s:bx S)(o:Op):O (L (aa×V S×bx S)×aa×V S×bx S):=
 match o with
 |.next d W=>match cI fr d with
  |some (.uH o)=>match s.ob.get o with
   |some (.r8 b pos)=>bif Nl s.fl o then
     Z ([(Se pos b,.gX [.kb W,.ty (.int .i64) (Int.ofNat pos),.ty (.int .i32) (vY b pos)],{s with ob:=s.ob.set aP o (.r8 b (Na pos (Jk b pos))),wr:=o::s.wr})],W,.gX [.kb J],s)
    else Y
   |_=>Y
  |_=>Y
 |.lookup t x a ok=>match E.mt t,cI fr x,cI fr a with
  |some m,Z (.mp o),Z k=>match s.ob.get o,W0 m.kt k,E.E.ti m.el with
   |some (.Jh kt l),Z k,Z i=>match Lb kt m.kt l,Eg i.agg (i.zero.map zeroV)with
    |some l,Z z=>Z (l.map λp=>(HC m.kt k p.1,bif ok then .gX [p.2,.kb W]else p.2,s),W,bif ok then .gX [z,.kb J]else z,s)|_,_=>Y
   |_,_,_=>Y
  |_,_,_=>Y
 |.index t x a=>match E.E.ti t,cI fr x,cI fr a with
  |some i,Z (.agg c),Z k=>match i.kd,ia .i64 k with
   |.array len sz e,Z n=>bif Nq (cM c) i.size then Z (Ao n e sz c s (List.range len),J,eA,s)else Y|_,_=>Y
  |_,_,_=>Y
 |_=>Y
def VB(i:TI)(e:Ty)(s:bx S)(x y:V S):oh S:=
 bif !(Nt s.aH bO)then Y else
 match i.kd,LQ s e y with
 |.slice _ _ _ _,Z new=>
  match x with
  |.emp=>Z (W,.sh s.aH 0,dy s (.arr e new 0))|.kR _ t a=>match oX t e a with
   |some a=>match y with
    |.kR (_+1) _ _=>Z (dI a new,.sh s.aH 0,dy s (.arr e (dx a new) 0))|_=>Z (dI a new,.ty (.sl e) (dx a new),s)
   |none=>Y
  |.sh o r=>match s.ob.get o with
   |some (.arr t a era)=>match oX t e a with
    |some a=>
     bif Nl s.fl o&&(Nq r era&&!(OW y).contains o)then
      Z (dI a new,.sh o (Ns era),{s with ob:=s.ob.set aP o (.arr e (dx a new) (Ns era)),wr:=o::s.wr})
     else Y
    |none=>Y
   |_=>Y
  |_=>Y
 |_,_=>Y
def iE(E:gC)(s:bx S)(b:Builtin)(a:Array TypeId)(args:L (V S)):oh S:=
 match b,args with
 |.len,[x]=>match(nth a.toList 0).bind E.E.ti,(nth a.toList 0).bind E.ty with
  |some i,Z .str=>match i.kd,wL x with
   |.leaf .str,Z b=>Z (W,.ty (.int .i64) (au b),s)|_,_=>Y
  |some i,Z (.sl e)=>match i.kd with
   |.slice _ _ _ _=>(LQ s e x).map λc=>(W,.ty (.int .i64) (au c),s)|_=>Y
  |_,_=>Y
 |.append,[x,y]=>match a.toList with
  |[t,u]=>match E.E.ti t,E.E.ti u,E.ty t with
   |some i,Z j,Z (.sl e)=>match j.kd with
    |.slice _ _ _ _=>VB i e s x y|_=>Y
   |_,_,_=>Y
  |_=>Y
 |_,_=>Y
def adB(a b:Int):Int:=bif aG a b then b else a
def adA(a b:Int):Int:=bif aG b a then b else a
def uw(E:gC)(s:bx S)(b:Builtin)(a:Array TypeId)(args:L (V S)):oh S:=
 match b,args with
 |.len,[.mp o]=>match(nth a.toList 0).bind E.mt,s.ob.get o with
  |some _,Z (.map _ _ l)=>Z (W,.ty (.int .i64) (au l),s)|some _,Z (.Jh _ l)=>Z (W,.ty (.int .i64) (au l),s)|_,_=>Y
 |.max,[x,y]=>match ia .i64 x,ia .i64 y with
  |some m,Z n=>Z (W,.ty (.int .i64) (adB m n),s)|_,_=>Y
 |.min,[x,y]=>match ia .i64 x,ia .i64 y with
  |some m,Z n=>Z (W,.ty (.int .i64) (adA m n),s)|_,_=>Y
 |_,_=>Y
def nu(E:gC)(s:bx S)(b:Builtin)(a:Array TypeId)(args:L (V S)):oh S:=
 match b,args with
 |.len,[.sh o r]=>match s.ob.get o with
  |some (.l8 n _ l era _ _ _)=>match(nth a.toList 0).bind E.E.ti,(nth a.toList 0).bind E.ty with
   |some i,Z (.sl (.st g))=>match i.kd with
    |.slice _ _ _ _=>bif Nq r era&&Nq n g then Z (W,.ty (.int .i64) (au l),s)else Y|_=>Y
   |_,_=>Y
  |_=>Y
 |.append,[.sh o r,.qx g v x]=>match s.ob.get o with
  |some (.l8 n j l era m c Y)=>match a.toList with
   |[t,u]=>match E.E.ti t,E.E.ti u,E.ty t,Oi s m c with
    |some i,Z h,Z (.sl (.st p)),Z ⟨f,d⟩=>match i.kd,h.kd,oX (.st g) (.st n) [x]with
     |.slice _ _ _ _,.slice _ _ _ _,Z new=>bif Nq r era&&(Nq n p&&(Nq j v&&(Nl s.fl o&&(Nl s.fl m&&(Nt m s.aH&&(Nt s.aH bO&&(E7 S n j f&&Nl 1 (S.width f))))))))then
       Z (bR (adM l d) (dI l new),.sh o (Ns era),{s with ob:=(s.ob.set aP m (.rws f (dx d [[]]) c)).set aP o (.l8 n j (dx l new) (Ns era) m c Y),wr:=o::m::s.wr})
      else Y
     |_,_,_=>Y
    |_,_,_,_=>Y
   |_=>Y
  |_=>Y
 |.append,[.sV o m r k,y]=>match s.ob.get o,s.ob.get m with
  |some (.l8 n j l era w c Y),Z (.rws t d e)=>match a.toList with
   |[q,u]=>match E.E.ti q,E.E.ti u,E.ty q,LQ s t y with
    |some i,Z h,Z (.sl f),Z new=>match i.kd,h.kd,y with
     |_,_,.sh _ _=>Y|.slice _ _ _ _,.slice _ _ _ _,_=>bif Nq m w&&(Nq r c&&(Nq r e&&(Nl s.fl o&&(Nl s.fl m&&(Nt o bO&&sN f t)))))then
       Z (bR (ei k d) (dI (bE d k []) new),.sV o m (Ns r) k,{s with ob:=(s.ob.set aP m (.rws t (lM d k (dx (bE d k []) new)) (Ns r))).set aP o (.l8 n j l era m (Ns r) (Z k)),wr:=o::m::s.wr})
      else Y
     |_,_,_=>Y
    |_,_,_,_=>Y
   |_=>Y
  |_,_=>Y
 |_,_=>Y
def MY{A:Nat->Type}{β:Type}(kt:Ty)(k:den A kt):L (den A kt×β)->L (den A kt×β)
 |[]=>[]|p::l=>bif HC kt k p.1 then l else p::MY kt k l
def ux(E:gC)(s:bx S)(b:Builtin)(a:Array TypeId)(args:L (V S)):oh S:=
 match b,args with
 |.delete,[.mp o,k]=>match(nth a.toList 0).bind E.mt,s.ob.get o with
  |some m,Z (.map kt c l)=>match Lb kt m.kt l,W0 m.kt k with
   |some l,Z k=>bif Nl s.fl o then Z (W,eA,{s with ob:=s.ob.set aP o (.map m.kt c (MY m.kt k l)),wr:=o::s.wr})else Y
   |_,_=>Y
  |_,_=>Y
 |_,_=>Y
def me(E:gC)(s:bx S)(b:Builtin)(a:Array TypeId)(args:L (V S)):oh S:=match nu E s b a args with
 |some r=>Z r|none=>match iE E s b a args with
  |some r=>Z r|none=>match uw E s b a args with
   |some r=>Z r|none=>ux E s b a args
end
variable {S:Sg}
def aS{α:Type}(c:aa)(x:O α):O α:=bif c then x else Y
def ak{α:Type}(c:aa)(x y:O α):O α:=bif c then x else y
def aj{α β:Type}(x:O α)(f:α->O β):O β:=match x with|some a=>f a|none=>Y
def imp(c p:aa):aa:=bif c then p else W
inductive Ck where
 |dat (t:Ty)|own (e:Ty)|kE (n j:Nat) (t:Ty)|nil (e:Ty)|ptr (t:Ty)
@[reducible] def Ck.ty:Ck->Ty|.dat t=>t|.own e=>.sl e|.kE n _ _=>.sl (.st n)|.nil e=>.sl e|.ptr t=>t
inductive Bk where
 |cells (cs:List Ck)|map (kt vt:Ty)|r8|link (m:aa) (pre post:List Ck)
inductive Pk where
 |one (c:Ck)|box (k:Bk)|hid (k:Bk)
@[reducible] def gJ(A:Nat->Type):L Ck->Type
 |[]=>U|c::l=>den A c.ty×gJ A l
@[reducible] def yT(A:Nat->Type):Bk->Type
 |.cells a=>gJ A a|.map kt b=>L (den A kt×den A b)|.r8=>L UInt8×Nat|.link _ pre post=>gJ A pre×gJ A post
@[reducible] def gp(A:Nat->Type):L Pk->Type
 |[]=>U|.one c::l=>den A c.ty×gp A l|.box k::l=>yT A k×gp A l|.hid k::l=>yT A k×gp A l
@[reducible] def ic(A:Nat->Type):L Pk->Type
 |[]=>U|.one _::l=>ic A l|.box k::l=>yT A k×ic A l|.hid k::l=>yT A k×ic A l
inductive Rx(R P:Type) where
 |ok (r:R)|iN (p:P)
@[reducible] def RT:aa->Type->Type->Type
 |false,R,_=>R|true,R,P=>Rx R P
def RT.res{R P:Type}:(a:aa)->RT a R P->Rx R P
 |false,r=>Rx.ok r|true,r=>r
def RT.ok{R P:Type}:(a:aa)->R->RT a R P
 |false,r=>r|true,r=>Rx.ok r
def RT.iN{R P:Type}:(a:aa)->P->O (RT a R P)
 |false,_=>Y|true,p=>Z (Rx.iN p)
structure lT(S:Sg) where
 ps:List Pk
 rs:List Ck
 pn:aa
 F:gp S.A ps->Option (RT pn (gJ S.A rs×ic S.A ps) (den S.A S.pt×ic S.A ps))
def pU(s:bx S):(c:Ck)->V S->O (den S.A c.ty×L Nat×L Nat)
 |.dat t,v=>match ck s t v with
  |some (x,os)=>Z (x,os,[])|none=>Y
 |.own e,.emp=>bif Nl 1 (S.width e)then Z ([],[],[])else Y|.own e,.sh o r=>match s.ob.get o with
  |some (.arr t l era)=>bif Nq r era&&(Nl s.fl o&&Nl s.lo o)then match oX t e l with|some l=>Z (l,[],[o])|none=>Y else Y
  |_=>Y
 |.nil _,.emp=>Z ([],[],[])|.kE n j t,.emp=>bif Nl 1 (S.width (.st n))&&(E7 S n j t&&Nt j (S.width (.st n)))then Z ([],[],[])else Y|.kE n j t,.sh o r=>match s.ob.get o with
  |some (.l8 b g l era m a Y)=>match Oi s m a with
   |some ⟨d,f⟩=>bif (Nq r era&&(Nq j g&&(Nl s.fl o&&(Nl s.lo o&&(Nl s.fl m&&(Nl s.lo m&&(Nt m s.aH&&(E7 S b j d&&sN d t))))))))then match oX (.st b) (.st n) (pW b j d l f)with
     |some l=>Z (l,[],[o,m])|none=>Y
    else Y
   |none=>Y
  |_=>Y
 |_,_=>Y
def gG(s:bx S):(cs:L Ck)->L (V S)->O (gJ S.A cs×L Nat×L Nat)
 |[],[]=>Z ((),[],[])|c::cs,v::l=>match pU s c v,gG s cs l with
  |some (x,a,b),Z (h,d,e)=>Z ((x,h),a++d,b++e)|_,_=>Y
 |_,_=>Y
def WZ:Bk->Nat->V S
 |.cells _,o=>.ptr o 0|.map _ _,o=>.mp o|.r8,o=>.uH o|.link _ _ _,o=>.ptr o 0
def E1:Bk->V S->O Nat
 |.cells _,.ptr o 0=>Z o|.map _ _,.mp o=>Z o|.r8,.uH o=>Z o|.link _ _ _,.ptr o 0=>Z o|_,_=>Y
def lkV:aa->Nat->V S
 |true,o=>.mp o|false,o=>.ptr o 0
def lkO:aa->O (V S)->O Nat
 |true,Z (.mp o)=>Z o|false,Z (.ptr o 0)=>Z o|_,_=>Y
def mK(s:bx S):(k:Bk)->O (vO S)->O (yT S.A k×L Nat×L Nat×O Nat)
 |.cells d,Z (.box c)=>match gG s d c with
  |some (x,a,b)=>Z (x,a,b,Y)|none=>Y
 |.map kt e,Z (.map k v l)=>match zm k v kt e l with
  |some l=>Z (l,[],[],Y)|none=>Y
 |.r8,Z (.r8 b n)=>Z ((b,n),[],[],Y)|.link m pre post,Z (.box c)=>match gG s pre (c.take (cM pre)),lkO m (nth c (cM pre)),gG s post (c.drop (Ns (cM pre)))with
  |some (x,a,b),Z o,Z (y,f,g)=>Z ((x,y),a++f,b++g,Z o)|_,_,_=>Y
 |_,_=>Y
def Hx:Bk->L Pk->aa
 |.link _ _ _,.hid _::_=>W|.link _ _ _,_=>J|_,_=>W
def eR(s:bx S):(ps:L Pk)->L (V S)->O Nat->O (gp S.A ps×L Nat×L Nat×L Nat)
 |[],[],_=>Z ((),[],[],[])|.one c::ps,v::l,_=>match pU s c v,eR s ps l Y with
  |some (x,a,b),Z (h,d,e,f)=>Z ((x,h),a++d,b++e,f)|_,_=>Y
 |.box k::ps,v::l,_=>match E1 k v with
  |some o=>bif Nl s.fl o&&Hx k ps then match mK s k (s.ob.get o)with
   |some (x,a,b,nx)=>match eR s ps l nx with
    |some (h,d,e,f)=>Z ((x,h),a++d,b++e,o::f)|none=>Y
   |none=>Y
   else Y
  |none=>Y
 |.hid k::ps,l,Z o=>bif Nl s.fl o&&Hx k ps then match mK s k (s.ob.get o)with
   |some (x,a,b,nx)=>match eR s ps l nx with
    |some (h,d,e,f)=>Z ((x,h),a++d,b++e,o::f)|none=>Y
   |none=>Y
   else Y
 |_,_,_=>Y
def wJ(s:bx S):(c:Ck)->den S.A c.ty->V S×bx S
 |.dat t,x=>(.ty t x,s)|.own e,l=>(.sh s.aH 0,dy s (.arr e l 0))|.nil _,_=>(.emp,s)|.ptr t,x=>(.mD t x 0,s)|.kE n j t,l=>(.sh s.aH 0,dy (dy s (.l8 n j l 0 (Ns s.aH) 0 Y)) (.rws t (M1 n j t l) 0))
def iF(s:bx S):(cs:L Ck)->gJ S.A cs->L (V S)×bx S
 |[],_=>([],s)|c::cs,x=>match wJ s c x.1 with
  |(v,s)=>match iF s cs x.2 with
   |(l,s)=>(v::l,s)
def fQ:L Nat->O Nat
 |[]=>Y|a::_=>Z a
def Zg(m:aa):O Nat->L (V S)
 |some o=>[lkV m o]|none=>[]
def lU(s:bx S)(nx:O Nat):(k:Bk)->yT S.A k->vO S×bx S
 |.cells c,x=>match iF s c x with
  |(a,s)=>(.box a,s)
 |.map kt d,l=>(.map kt d l,s)|.r8,x=>(.r8 x.1 x.2,s)|.link m pre post,x=>match iF s pre x.1 with
  |(a,s)=>match iF s post x.2 with
   |(b,s)=>(.box (a++(Zg m nx++b)),s)
def mI(s:bx S):(ps:L Pk)->L Nat->ic S.A ps->O (bx S)
 |[],[],_=>Z s|.one _::ps,a,h=>mI s ps a h|.box k::ps,o::a,h=>match lU s (fQ a) k h.1 with
  |(ob,s)=>mI {s with ob:=s.ob.set aP o ob,wr:=o::s.wr} ps a h.2
 |.hid k::ps,o::a,h=>match lU s (fQ a) k h.1 with
  |(ob,s)=>mI {s with ob:=s.ob.set aP o ob,wr:=o::s.wr} ps a h.2
 |_,_,_=>Y
def akt(b:Nat):O Nat->aa
 |none=>W|some o=>Nq o (Ns b)
def uW(s:bx S):Nat->(ps:L Pk)->O (ic S.A ps×L Nat×L Nat)
 |_,[]=>Z ((),[],[])|b,.one _::ps=>uW s b ps|b,.box k::ps=>match mK s k (s.ob.get b),uW s (Ns b) ps with
  |some (x,a,c,nx),Z (h,d,e)=>bif akt b nx&&Hx k ps then Z ((x,h),a++d,c++e)else Y|_,_=>Y
 |b,.hid k::ps=>match mK s k (s.ob.get b),uW s (Ns b) ps with
  |some (x,a,c,nx),Z (h,d,e)=>bif akt b nx&&Hx k ps then Z ((x,h),a++d,c++e)else Y|_,_=>Y
def sU:L Nat->aa
 |[]=>W|a::l=>!(l.contains a)&&sU l
def DA(l m:L Nat):aa:=l.all λa=>!(m.contains a)
def EY:L (V S)->V S
 |[x]=>x|l=>.gX l
inductive vT(S:Sg) where
 |su|ext (id:Nat)|ret|iN (v:V S)
abbrev Sh:=L (Nat×Pk)
inductive Pt where
 |slot (k:Nat)|cell (p:Pt) (i:Nat)|cap (p:Pt) (i:Nat)|NO (p:Pt) (k:Nat)
structure X1 where
 sh:Sh
 pts:List Pt:=[]
 al:List (Nat×Nat):=[]
 pl:Nat:=0
structure JSh where
 sh:Sh
 pts:List Pt:=[]
 ks:List Pt:=[]
 rs:List Ck:=[]
structure eI(S:Sg) where
 T:gC
 JA:FuncId->Option (lT S)
 sh:FuncId->Nat->Option X1
 pn:aa:=J
 cj:FuncId->List (V S)->Option JSh:=λ_ _=>Y
def qz:V S->L (V S)->O (FuncId×L (V S))
 |.fn (.func f) first cap,args=>Z (f,first++args++cap)
 |_,_=>Y
inductive Tgt where|fn (f:FuncId)|yl (o:Nat)|jn (f:FuncId)|yd (o:Nat)
abbrev gD(S:Sg):=Tgt->L (V S)->bx S->{ω:Type}->(V S->bx S->O ω)->(V S->bx S->O ω)->O ω
mutual
def iX(os:L Nat):V S->aa
 |.ptr o _=>os.contains o|.mC o _ _ _=>os.contains o|.sh o _=>os.contains o|.mp o=>os.contains o|.r9 o=>os.contains o|.uH o=>os.contains o|.sV o m _ _=>os.contains o||os.contains m|.fn _ a b=>pg os a||pg os b|.dn _ v=>iX os v|.agg c=>pg os c|.gX c=>pg os c|.gd _ v=>iX os v|_=>J
def pg(os:L Nat):L (V S)->aa
 |[]=>J|v::l=>iX os v||pg os l
end
def Mw{α:Type}(os:L Nat):L (α×V S)->aa
 |[]=>J|p::l=>iX os p.2||Mw os l
def nc(p:V S->aa):Tr (V S)->aa
 |.nil=>J|.node v l r=>(match v with|some x=>p x|none=>J)||(nc p l||nc p r)
def Mo(os:L Nat):vO S->aa
 |.box a=>pg os a|.Jh _ l=>Mw os l|.lp l=>nc (iX os) l.fr.tm|.l8 _ _ _ _ m _ _=>os.contains m|_=>J
namespace Tr
variable {α:Type}
def del:Nat->Tr α->Nat->Tr α
 |0,t,_=>t|_+1,.nil,_=>.nil|n+1,.node v l r,k=>match k with
  |0=>.node Y l r|k+1=>match Nq (Nat.mod k 2) 0 with
   |true=>.node v (del n l (Nat.div k 2)) r|false=>.node v l (del n r (Nat.div k 2))
def keep(p:α->aa):Tr α->Tr α
 |.nil=>.nil|.node v l r=>.node (match v with|some x=>bif p x then Z x else Y|none=>Y) (keep p l) (keep p r)
end Tr
namespace Tr
variable {α:Type}
def mapA(f:α->α):Tr α->Tr α
 |.nil=>.nil|.node v l r=>.node (match v with|some x=>Z (f x)|none=>Y) (mapA f l) (mapA f r)
def jZ(p:α->aa):Tr α->L Nat
 |.nil=>[]|.node v l r=>(match v with|some x=>bif p x then[0]else[]|none=>[])++((jZ p l).map (λk=>Ns (Nat.mul 2 k))++(jZ p r).map (λk=>Ns (Ns (Nat.mul 2 k))))
end Tr
def zG:V S:=.gd J eA
def rU(os:L Nat)(v:V S):V S:=bif iX os v then zG else v
def oA(os:L Nat):vO S->vO S
 |.box b=>.box (b.map (rU os))|.Jh kt l=>.Jh kt (l.map λp=>(p.1,rU os p.2))|.lp l=>.lp {l with fr:={l.fr with tm:=l.fr.tm.mapA (rU os)}}
 |.l8 n j l era m a hole=>bif os.contains m then .gone else .l8 n j l era m a hole|o=>o
def forget(os:L Nat)(s:bx S):bx S:=match os with
 |[]=>s|_=>{s with ob:=s.ob.mapA (oA os),wr:=s.ob.jZ (Mo os)++s.wr}
def zl(bs:L Nat)(s:bx S):bx S:={s with ob:=bs.foldl (λt o=>t.del aP o) s.ob}
def tG.one:tG S->aa
 |.marks _|.kO=>J|_=>W
def eL(p:V S->aa):tG S->tG S
 |.call f args=>bif p f||args.any p then .bad else .call f args|.mark o=>bif p (.ptr o 0)then .bad else .mark o|.marks o=>bif p (.sh o 0)then .kO else .marks o|.kO=>.kO|.bad=>.bad
def dH(os:L Nat)(fr:cr S):cr S:=match os with
 |[]=>fr|_=>{fr with tm:=fr.tm.keep λv=>!(iX os v),df:=fr.df.map (eL (iX os))}
def j0:L Ck->aa
 |[]=>W|.dat _::l=>j0 l|.own _::_=>J|.kE ..::_=>J|.nil _::_=>J|.ptr _::_=>J
def uo:(cs:L Ck)->gJ S.A cs->L (V S)
 |[],_=>[]|c::cs,x=>.ty c.ty x.1::uo cs x.2
def cE:L Pk->aa
 |[]=>W|.one (.dat _)::l=>cE l|_=>J
def Yy:Ty->aa
 |.int _|.bool|.str=>W|_=>J
def lJ:L Ck->aa
 |[]=>W|.dat t::l=>Yy t&&lJ l|.own _::_=>J|.kE ..::_=>J|.nil _::_=>J|.ptr _::_=>J
def aax:L Pk->aa
 |[]=>J|.one (.ptr _)::_=>W|_::l=>aax l
def Sp:L Pk->aa
 |[]=>W|.one (.dat _)::l=>Sp l|.one (.ptr _)::l=>Sp l|_=>J
def akh(s:bx S):(t:Ty)->V S->O (den S.A t×L Nat)
 |.mp k v,.mp o=>match s.ob.get o with
  |some (.map a b l)=>match zm a b k v l with
   |some l=>Z (l,[])|none=>Y
  |_=>Y
 |t,v=>ck s t v
def A4(s:bx S):(ts:L Ty)->L (V S)->O (mA S.A ts×L Nat)
 |[],[]=>Z ((),[])|t::ts,v::l=>match akh s t v,A4 s ts l with
  |some (x,os),Z (h,a)=>Z ((x,h),os++a)|_,_=>Y
 |_,_=>Y
def ag0(s:bx S):(t:Ty)->L (V S)->O (den S.A t×L Nat)
 |.st n,a=>match A4 s (S.fs n) a with
  |some (h,os)=>Z (S.FC n h,os)|none=>Y
 |_,_=>Y
def afG(s:bx S)(t:Ty):V S->O (den S.A t×L Nat)
 |.mD u y 0=>match xz u t y with
  |some x=>Z (x,[])|none=>Y
 |.ptr o 0=>match s.ob.get o with
  |some (.box a)=>ag0 s t a|_=>Y
 |_=>Y
def mu(s:bx S):(ps:L Pk)->L (V S)->O (gp S.A ps×L Nat)
 |[],[]=>Z ((),[])|.one (.dat t)::ps,v::l=>match ck s t v,mu s ps l with
  |some (x,os),Z (h,a)=>Z ((x,h),os++a)|_,_=>Y
 |.one (.ptr t)::ps,v::l=>match afG s t v,mu s ps l with
  |some (x,os),Z (h,a)=>Z ((x,h),os++a)|_,_=>Y
 |_,_=>Y
def ZR(c:lT S):aa:=cE c.ps&&(lJ c.rs&&!c.pn)
mutual
def cQ(p:Nat->aa):V S->aa
 |.ptr o _=>p o|.mC o _ _ _=>p o|.sh o _=>p o|.mp o=>p o|.r9 o=>p o|.uH o=>p o|.sV o m _ _=>p o||p m|.fn _ a b=>iS p a||iS p b|.dn _ v=>cQ p v|.agg c=>iS p c|.gX c=>iS p c|.gd _ v=>cQ p v|_=>J
def iS(p:Nat->aa):L (V S)->aa
 |[]=>J|v::l=>cQ p v||iS p l
end
def dU(ow:L Nat)(aH:Nat)(o:Nat):aa:=ow.contains o||Nl aH o
def ni:L (V S)->Nat->Tr (V S)->Tr (V S)
 |[],_,t=>t|a::l,k,t=>ni l (Ns k) (t.set aP k a)
def YC(a:L Ck)(v:V S):L (V S):=match a,v with|[_],v=>[v]|_,.gX l=>l|_,v=>[v]
def lY(sh:Sh):L Pk:=sh.map (·.2)
def Jm(fr:cr S)(s:bx S):Pt->O (V S)
 |.slot k=>fr.get k|.cell p i=>match Jm fr s p with
  |some (.ptr o 0)=>match s.ob.get o with
   |some (.box a)=>nth a i|_=>Y
  |_=>Y
 |.cap p i=>match Jm fr s p with
  |some (.fn _ _ a)=>nth a i|_=>Y
 |.NO p k=>match Jm fr s p with
  |some (.r9 o)=>match s.ob.get o with
   |some (.lp l)=>l.fr.get k|_=>Y
  |_=>Y
def sr(fr:cr S)(s:bx S):Sh->L Pt->O (L Nat)
 |[],[]=>Z []|(_,.one _)::l,a=>sr fr s l a|(_,.box k)::l,p::a=>match Jm fr s p with
  |some v=>match E1 k v,sr fr s l a with
   |some o,Z r=>Z (o::r)|_,_=>Y
  |none=>Y
 |(_,.hid k)::l,p::a=>match Jm fr s p with
  |some v=>match E1 k v,sr fr s l a with
   |some o,Z r=>Z (o::r)|_,_=>Y
  |none=>Y
 |_,_=>Y
def wo(fr:cr S):Sh->L Nat->O (L (V S))
 |[],[]=>Z []|(k,.one _)::l,a=>match fr.get k,wo fr l a with
  |some v,Z r=>Z (v::r)|_,_=>Y
 |(_,.box k)::l,o::a=>match wo fr l a with
  |some r=>Z (WZ k o::r)|none=>Y
 |(_,.hid _)::l,_::a=>wo fr l a|_,_=>Y
def nJ:(sh:Sh)->L Nat->gp S.A (lY sh)->cr S->bx S->O (cr S×bx S)
 |[],[],_,fr,s=>Z (fr,s)|(k,.one c)::l,a,x,fr,s=>match wJ s c x.1 with
  |(v,s)=>bif Nt k fr.n&&Nl s.aH bO then nJ l a x.2 (fr.put k v) s else Y
 |(_,.box k)::l,o::a,x,fr,s=>match lU s (fQ a) k x.1 with
  |(ob,s)=>bif Nl s.aH bO then nJ l a x.2 fr {s with ob:=s.ob.set aP o ob}else Y
 |(_,.hid k)::l,o::a,x,fr,s=>match lU s (fQ a) k x.1 with
  |(ob,s)=>bif Nl s.aH bO then nJ l a x.2 fr {s with ob:=s.ob.set aP o ob}else Y
 |_,_,_,_,_=>Y
def zY{α:Type}(p:Nat->aa):L (α×V S)->aa
 |[]=>J|x::l=>cQ p x.2||zY p l
def gQ(p:Nat->aa):vO S->aa
 |.box a=>iS p a|.Jh _ l=>zY p l|.lp l=>nc (cQ p) l.fr.tm|.l8 _ _ _ _ m _ _=>p m|_=>J
def gu(p:Nat->aa)(v:V S):V S:=bif cQ p v then zG else v
def fq(p:Nat->aa):vO S->vO S
 |.box b=>.box (b.map (gu p))|.Jh kt l=>.Jh kt (l.map λx=>(x.1,gu p x.2))|.lp l=>.lp {l with fr:={l.fr with tm:=l.fr.tm.mapA (gu p)}}
 |.l8 n j l era m a hole=>bif p m then .gone else .l8 n j l era m a hole|o=>o
def cR(ds ow bs:L Nat)(fr:cr S)(s1:bx S):cr S×bx S:=
 ({fr with tm:=(ds.foldl (λt k=>t.del aP k) fr.tm).keep λv=>!(cQ (dU ow s1.aH) v),df:=fr.df.map (eL (cQ (dU ow s1.aH)))},zl bs {s1 with ob:=s1.ob.mapA (fq (dU ow s1.aH)),wr:=[],dr:=[]})
def Rp:Sh->Sh
 |[]=>[]|(_,.one _)::l=>Rp l|(k,.box b)::l=>(k,.box b)::Rp l|(k,.hid b)::l=>(k,.hid b)::Rp l
def rm(sh:Sh)(bs:L Nat)(fr:cr S)(s:bx S):O (gp S.A (lY sh)×bx S×L Nat):=
 match wo fr sh bs with
 |none=>Y|some f=>match eR s (lY sh) f Y with
  |none=>Y|some (x,e,d,c)=>match dZ s e with
   |none=>Y|some g=>bif sU d&&(DA d e&&(sU c&&(Nq (cM c) (cM bs)&&(c.zip bs).all λ(a,b)=>Nq a b)))then Z (x,g,d)else Y
def j5:vO S->aa
 |.arr ..|.lW ..|.l8 ..|.rws ..|.gone|.Hj=>J|_=>W
def ptO(fr:cr S)(s:bx S)(p:Pt):O Nat:=match Jm fr s p with
 |some (.ptr o 0)=>Z o|some (.mp o)=>Z o|some (.r9 o)=>Z o|_=>Y
def Zf(fr:cr S)(s:bx S):L Pt->O (L Nat)
 |[]=>Z []|p::l=>match ptO fr s p,Zf fr s l with
  |some o,Z r=>Z (o::r)|_,_=>Y
def Jv:L Nat->Nat
 |[]=>0|a::l=>bif Nl (Jv l) a then a else Jv l
def zL:Sh->L Nat
 |[]=>[]|(k,.one _)::l=>k::zL l|(_,.box _)::l=>zL l|(_,.hid _)::l=>zL l
def CM(l:L Nat)(o:Nat):aa:=!(l.contains o)
def Vd(args:L (V S)):cr S:={n:=cM args,tm:=ni args 0 .nil}
def S1(l:L Nat)(sh:Sh)(fr:cr S):cr S:={n:=fr.n,tm:=((zL sh).foldl (λt k=>t.del aP k) fr.tm).keep λv=>!(cQ (CM l) v)}
def Er(ob:Tr (vO S)):L Nat->Tr (vO S)
 |[]=>.nil|o::l=>match ob.get o with
  |some x=>(Er ob l).set aP o x|none=>Er ob l
def stJ(bs a:L Nat)(s:bx S):bx S:=⟨Er s.ob a,Ns (Jv (bs++a)),s.fl,0,[],[]⟩
def frE:cr S:={n:=0,tm:=.nil}
def getAll(fr:cr S):Nat->Nat->O (L (V S))
 |_,0=>Z []|j,n+1=>match fr.get j,getAll fr (Ns j) n with
  |some v,Z l=>Z (v::l)|_,_=>Y
def Vs(l a:L Nat)(s:bx S):aa:=a.all λo=>match s.ob.get o with
 |some ob=>j5 ob&&!(gQ (CM l) ob)|none=>J
abbrev JT(S:Sg)(sh:Sh)(rs:L Ck):=gJ S.A rs×gp S.A (lY (Rp sh))
def afH(sh:Sh)(a:L Ck)(bs b:L Nat)(v:V S)(s:bx S):O (JT S sh a):=
 match gG s a (YC a v),rm (Rp sh) bs frE s with
 |some (r,_,_),Z (y,c,_)=>bif b.all (λo=>!(c.wr.contains o))then Z (r,y)else Y|_,_=>Y
def RO(call:gD S)(f:FuncId)(sh:Sh)(a:L Ck)(bs b:L Nat)(fr:cr S)(s:bx S)(x:gp S.A (lY sh)):O (JT S sh a):=
 match nJ sh bs x fr s with
 |none=>Y|some (fr,s)=>match getAll fr 0 fr.n with
  |none=>Y|some args=>call (.jn f) args s (afH sh a bs b) (λ_ _=>Y)
section
variable (E:eI S)(call:gD S){ω:Type}
def aiq(s:bx S)(c:lT S)(args:L (V S))(k:V S->bx S->L Nat->O ω):O ω:=
 bif Sp c.ps&&(lJ c.rs&&!c.pn)then match mu s c.ps args with
  |none=>Y|some (x,a)=>match dZ s a with
   |none=>Y|some _=>aj (c.F x) λr=>match RT.res c.pn r with
    |.ok r=>k (EY (uo c.rs r.1)) s []|.iN _=>Y
 else Y
def PY(s:bx S)(c:lT S)(args:L (V S))(kp:V S->bx S->O ω)(k:V S->bx S->L Nat->O ω):O ω:=bif aax c.ps then aiq s c args k else
 match eR s c.ps args Y with
 |none=>Y|some (x,f,a,d)=>match dZ s f with
  |none=>Y|some b=>bif ZR c then aj (c.F x) λr=>match RT.res c.pn r with
     |.ok r=>k (EY (uo c.rs r.1)) s []|.iN _=>Y
   else bif sU a&&(sU d&&DA a f)then
    aj (c.F x) λr=>match RT.res c.pn r with
     |.ok r=>match mI (zl d (forget a {b with wr:=a++b.wr,dr:=a++b.dr})) c.ps d r.2 with
      |none=>Y|some e=>match iF e c.rs r.1 with
       |(l,g)=>bif Nl g.aH bO then k (EY l) g a else Y
     |.iN p=>match mI (zl d (forget a {b with wr:=a++b.wr,dr:=a++b.dr})) c.ps d p.2 with
      |none=>Y|some e=>match a with
       |[]=>bif Nl e.aH bO then kp (.ty S.pt p.1) e else Y|_::_=>Y
   else Y
def zp(k:V S->bx S->O ω)(d:O ω):L (aa×V S×bx S)->O ω
 |[]=>d|p::l=>ak p.1 (k p.2.1 p.2.2) (zp k d l)
def evJ(a:JSh)(s:bx S)(f:FuncId)(args:L (V S))(k:V S->bx S->L Nat->O ω):O ω:=
 match sr (Vd args) s a.sh a.pts,Zf (Vd args) s a.ks with
 |some b,Z d=>match rm a.sh b (Vd args) s with
  |none=>Y|some (g,c,e)=>bif (Nt (cM args) bO&&(zL a.sh).all λk=>Nt k bO)&&(lJ a.rs&&(Vs (b++d) d c&&Nl (Ns (Jv (b++d))) c.aH))then
    aj (RO call f a.sh a.rs b d (S1 (b++d) a.sh (Vd args)) (stJ b d c) g) λy=>
     match nJ (Rp a.sh) b y.2 frE (cR [] e b frE c).2 with
     |none=>Y|some (_,h)=>k (EY (uo a.rs y.1)) {h with wr:=c.ob.jZ (gQ (dU e c.aH))++(b++(e++c.wr)),dr:=e++c.dr} e
   else Y
 |_,_=>Y
def ydB:aa:=(E.cj 1000000 []).isSome
def Bi(s:bx S):Nat->L Nat
 |0=>[]|n+1=>bif Nl s.lo n&&!((s.ob.get n).any j5)then n::Bi s n else Bi s n
def fdB(f:FuncId):aa:=(E.cj (Na 1000001 f) []).isSome
def vz(s:bx S)(f:FuncId)(args:L (V S))(kp:V S->bx S->O ω)(k:V S->bx S->L Nat->O ω):O ω:=match E.JA f with
 |some c=>PY s c args kp k|none=>match E.cj f args with
  |some a=>evJ call a s f args k|none=>bif fdB E f then call (.jn f) args s (λt b=>k t {b with wr:=Bi s s.aH++b.wr,dr:=Bi s s.aH++b.dr} (Bi s s.aH)) (λ_ _=>Y)else call (.fn f) args s (λt b=>k t b []) kp
def aaP(s:bx S)(m:String)(args:L (V S))(n:Nat)(x:den S.A (.dn n))(kp:V S->bx S->O ω)(k:V S->bx S->L Nat->O ω):L (TypeId×Ty)->Nat->O ω
 |[],_=>Y|p::l,j=>ak (mQ (S.alts n) j (S.vg n x)) (match E.T.Mu p.1 m with
   |some f=>bif Nq p.1 ((nth (S.alts n) j).elim 0 (·.1))then vz E call s f (.ty (nL (S.alts n) j) (kK S.zero (S.alts n) j (S.vg n x))::args) kp k else Y|none=>Y) (aaP s m args n x kp k l (Ns j))
def aj4:O (V S)->O Nat
 |some (.r9 o)=>Z o|_=>Y
def vu(o:Oper)(fr:cr S)(s:bx S)(kp:V S->bx S->O ω)(k:V S->bx S->L Nat->O ω):O ω:=
 match o.op with
 |.call c=>match kB fr c.args.toList with
  |none=>Y|some args=>match c.callee with
   |.builtin b=>match me E.T s b c.argTypes args with
    |none=>Y|some (p,t,a)=>aS p (k t a [])
   |.value f=>match aj4 (cI fr f)with
    |some o=>bif ydB E then call (.yd o) args s (λt a=>k t {a with wr:=Bi s s.aH++a.wr,dr:=Bi s s.aH++a.dr} (Bi s s.aH)) (λ_ _=>Y)else call (.yl o) args s (λt a=>k t a []) kp
    |none=>match(cI fr f).bind (qz · args)with
     |none=>Y|some (f,args)=>vz E call s f args kp k
   |.invoke x m=>match cI fr x with
    |some (.dn t v)=>match E.T.Mu t m with
     |some f=>vz E call s f (v::args) kp k|none=>Y
    |some (.ty (.dn n) x)=>aaP E call s m args n x kp k (S.alts n) 0|_=>Y
 |.panic x=>match cI fr x with
  |some (.dn t v)=>kp (.dn t v) s|_=>Y
 |op=>match l7 E.T fr s op with
  |some (e,p,d,a)=>zp (λv s=>k v s []) (aS p (k d a [])) e|none=>match Bb E.T fr s op with
   |none=>Y|some (p,t,a)=>aS p (k t a [])
def Ab(c:O aa)(p:aa)(x:O ω):O ω:=match c with
 |none=>aS p x|some c=>aS (imp c p) x
def amO{α:Type}(c:O aa)(x:O α)(z:α):O α:=match c with
 |none=>x|some c=>ak c x (Z z)
mutual
def wD:V S->aa
 |.sh _ _=>J|.sV _ _ _ _=>J|.dn _ v=>wD v|.agg a=>j7 a|.gX a=>j7 a|_=>W
def j7:L (V S)->aa
 |[]=>W|v::l=>wD v&&j7 l
end
def Yg(S:Sg):(cs:L Ck)->gJ S.A cs
 |[]=>()|c::cs=>(S.zero c.ty,Yg S cs)
def aku(A:Nat->Type):(ps:L Pk)->O (ic A ps)
 |[]=>Z ()|.one _::ps=>aku A ps|.box _::_=>Y|.hid _::_=>Y
def Ft:Builtin->aa
 |.len|.max|.min=>W|_=>J
def xL(k:V S->O ω)(d:O ω):L (aa×V S×bx S)->O ω
 |[]=>d|p::l=>ak p.1 (k p.2.1) (xL k d l)
def fR(g:O aa)(fr:cr S)(s:bx S)(o:Oper)(k:V S->O ω):O ω:=
 match o.op with
 |.call c=>match kB fr c.args.toList with
  |none=>Y|some args=>match c.callee with
   |.builtin b=>bif Ft b then match me E.T s b c.argTypes args with
     |some (p,t,_)=>Ab g p (k t)|none=>Y
    else Y
   |.value f=>match(cI fr f).bind (qz · args)with
    |none=>Y|some (f,args)=>match E.JA f with
     |none=>Y|some c=>bif cE c.ps&&(j0 c.rs&&(j7 args&&!c.pn))then
       match eR s c.ps args Y,aku S.A c.ps with
       |some (x,_,_,_),Z b=>aj (amO g (c.F x) (RT.ok c.pn (Yg S c.rs,b))) λr=>match RT.res c.pn r with
        |.ok r=>k (EY (uo c.rs r.1))|.iN _=>Y
       |_,_=>Y
      else Y
   |_=>Y
 |.store ..|.alloc ..|.box ..|.panic ..|.makeMap ..|.mapUpdate ..|.insert ..|.makeSlice ..|.range ..|.next ..|.defer ..=>Y|.buildSlice t n e=>match je fr e.toList with
  |some l=>bif j7 (l.map (·.2))then match Bb E.T fr s (.buildSlice t n e)with
   |none=>Y|some (p,v,_)=>Ab g p (k v)
   else Y
  |none=>Y
 |.slice t x lo h i=>match cI fr x with
  |some v=>bif wD v then match Bb E.T fr s (.slice t x lo h i)with
   |none=>Y|some (p,v,_)=>Ab g p (k v)
   else Y
  |none=>Y
 |op=>match l7 E.T fr s op with
  |some (a,p,d,_)=>xL k (Ab g p (k d)) a|none=>match Bb E.T fr s op with
   |none=>Y|some (p,v,_)=>Ab g p (k v)
def CE(fr:cr S)(o:Oper):aa:=
 match o.op with
 |.call c=>match kB fr c.args.toList with
  |none=>J|some args=>match c.callee with
   |.builtin b=>Ft b|.value f=>match(cI fr f).bind (qz · args)with
    |none=>J|some (f,args)=>match E.JA f with
     |none=>J|some c=>cE c.ps&&(j0 c.rs&&(j7 args&&!c.pn))
   |_=>J
 |.store ..|.alloc ..|.box ..|.panic ..|.makeMap ..|.mapUpdate ..|.insert ..|.makeSlice ..|.range ..|.next ..|.defer ..=>J|.buildSlice _ _ a=>match je fr a.toList with
  |some l=>j7 (l.map (·.2))|none=>J
 |.slice _ x _ _ _=>match cI fr x with
  |some v=>wD v|none=>J
 |_=>W
def sB(fr:cr S)(o:Op):cr S:=
 o.operands.toList.foldl (λf x=>match x with
  |.tmp k=>match fr.get k with
   |some (.gd _ v)=>f.put k v|_=>f
  |_=>f) fr
def PA(c:aa)(fr:cr S)(o:Op):aa:=
 o.operands.toList.foldl (λp x=>match x with
  |.tmp k=>match fr.get k with
   |some (.gd g _)=>p&&imp c g|_=>p
  |_=>p) W
def iT(ops:L Oper)(fr:cr S)(o:Oper):O (O aa):=
 match o.guard with
 |none=>Z Y|some (j,a)=>match((nth ops j).bind (·.dst)).bind fr.get with
  |some (.kb b)=>bif (bif b then a else !a)then Z Y else Z (Z J)|some t=>match iI t with
   |some b=>Z (Z (pZ b a))|none=>Y
  |none=>Y
def vX(ops:L Oper)(fr:cr S)(o:Oper):aa:=
 match o.guard with
 |none=>J|some (j,a)=>match((nth ops j).bind (·.dst)).bind fr.get with
  |some (.kb b)=>bif b then !a else a|some (.dat (.lit (.tuple _)))=>W|_=>J
def Vb(ops:L Oper)(d:O Nat):aa:=match d with
 |none=>J|some d=>ops.any λo=>match o.guard with
  |none=>J|some (j,_)=>match(nth ops j).bind (·.dst)with
   |some e=>Nq d e|none=>J
def LN{ω:Type}(b:aa)(t:V S)(k:V S->O ω):O ω:=bif b then match t with
  |.ty .bool x=>ak x (k (.kb W)) (k (.kb J))|t=>k t
 else k t
def gU(fr:cr S):O Nat->aa
 |none=>W|some d=>Nt d fr.n
def qv(ops:L Oper)(o:Oper)(fr:cr S)(s:bx S)(kp:V S->bx S->O ω)(k:V S->bx S->L Nat->O ω):O ω:=
 bif gU fr o.dst then bif vX ops fr o then k eA s []else match iT ops fr o with
  |none=>Y|some Y=>vu E call o fr s kp k|some (Z c)=>
   let f:=sB fr o.op
   bif CE E f o then aS (PA c fr o.op) (fR E (Z c) f s o λt=>k (.gd c t) s [])
   else ak c (aS (PA c fr o.op) (vu E call o f s kp k)) (k (.gd J eA) s [])
 else Y
def S8(fr:cr S)(o:Oper):O (tG S):=match o.guard,o.op with
 |none,.defer c=>match c.callee with
  |.value f=>match cI fr f,kB fr c.args.toList with
   |some (.fn f a b),Z args=>Z (.call (.fn f a b) args)|_,_=>Y
  |_=>Y
 |_,_=>Y
def S3(ops:L Oper)(o:Oper)(fr:cr S)(s:bx S)(kp:V S->bx S->O ω)(k:cr S->bx S->O ω):O ω:=
 match S8 fr o with
 |some d=>bif gU fr o.dst then k {(fr.jb o.dst zG)with df:=d::fr.df} s else Y
 |none=>qv E call ops o fr s kp λt a b=>LN (Vb ops o.dst) t λt=>k ((dH b fr).jb o.dst t) a
def Vh(ops:L Oper)(kp:cr S->V S->bx S->O ω)(k:cr S->bx S->O ω):L Oper->cr S->bx S->O ω
 |[],fr,s=>k fr s|o::l,fr,s=>S3 E call ops o fr s (kp fr) λa b=>Vh ops kp k l a b
end
end TL
end
