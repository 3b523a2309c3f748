import GoSem.Dispatch
import GoSem.Machine.Return
import Derived.Calls
import Derived.RowKit
import Derived.WalkKit
import Derived.Deep.AppendSrc
import Derived.Laws.StructEq
import Derived.Room.AppendAny
import Derived.RangeFuncIn
import Derived.RangeFuncLeaves
import Derived.RangeFuncRecord
import Derived.Orders
set_option linter.all false
set_option maxRecDepth 100000
set_option maxHeartbeats 0
noncomputable section
open Option renaming some->Z,none->Y
open Bool renaming true->W,false->J
section
namespace TL
section
abbrev O:=@Option
abbrev L:=@List
abbrev U:=Unit
abbrev bg:=@Option.some.injEq
abbrev bD:=@Prod.mk.injEq
abbrev eG:=@Option.map_eq_some_iff
abbrev fN:=@List.getElem?_eq_getElem
abbrev br:=@if_neg
abbrev ec:=@Bool.and_eq_true
abbrev fU:=@Nat.le_of_ble_eq_true
abbrev bJ:=@if_pos
abbrev gO:=@List.mem_cons_of_mem
abbrev iX:=@List.mem_append_right
abbrev bQ:=@Nat.le_refl
abbrev dB:=@Nat.lt_of_lt_of_le
abbrev eL:=@List.mem_append_left
abbrev eD:=@List.mem_cons_self
abbrev dU:=@Int.natCast_add
abbrev dX:=@Int.natCast_one
abbrev ef:=@List.mem_append
abbrev ee:=@Option.map_some
abbrev eC:=@List.all_eq_true
abbrev dQ:=@Bool.true_and
abbrev cH:=@cond_true
abbrev eV:=@List.length_cons
abbrev jq:=@List.getD_eq_getElem?_getD
abbrev eO:=@Option.some.inj
abbrev gw:=@List.length_append
abbrev g8:=@List.mem_of_getElem?
abbrev gM:=@List.getElem?_map
abbrev eU:=@List.mem_cons
abbrev dS:=@cond_false
abbrev fO:=@Bool.false_and
abbrev fP:=@decide_eq_true
abbrev gu:=@decide_eq_false
abbrev fJ:=@Nat.le_trans
abbrev ij:=@List.append_nil
abbrev lD:=@List.getElem?_append
abbrev jL:=@decide_eq_true_eq
abbrev oI:=@Array.getElem?_eq_getElem
abbrev lg:=@List.mem_singleton
abbrev nq:=@List.length_singleton
abbrev tH:=@List.eq_nil_of_length_eq_zero
abbrev nN:=@Nat.eq_of_beq_eq_true
abbrev j0:=@Bool.or_eq_true
abbrev eT:=@if_false
abbrev qO:=@List.getElem?_cons_zero
abbrev tG:=@List.getElem?_eq_some_iff
abbrev rW:=@Option.bind_eq_some_iff
abbrev nk:=@List.append_assoc
abbrev js:=@Nat.zero_add
abbrev rV:=@List.pairwise_append
abbrev fY:=@if_true
abbrev lT:=@List.map_cons
abbrev tF:=@List.getElem_of_mem
abbrev v8:=@Nat.mul_le_mul_right
abbrev v7:=@Bool.or_eq_false_iff
abbrev yN:=@List.singleton_append
abbrev v5:=@List.getElem?_take
abbrev vZ:=@List.mem_filterMap
abbrev yM:=@List.contains_eq_mem
abbrev Am:=@Bool.and_eq_true_iff
abbrev vY:=@Option.getD_some
abbrev Jp:=@List.mem_zipIdx_iff_getElem?
abbrev rU:=@Bool.and_true
abbrev Al:=@Int.toNat_of_nonneg
abbrev xz:=@List.length_take
abbrev vX:=@List.nil_append
abbrev Jo:=@Array.getElem?_eq_some_iff
abbrev xy:=@List.length_nil
abbrev lS:=@congrArg
abbrev GB:=@List.getElem?_eq_none
abbrev GA:=@Nat.ble_eq_true_of_le
abbrev DN:=@List.length_pos_iff
abbrev tY:=@List.mem_map
abbrev Co:=@of_decide_eq_true
abbrev DM:=@List.getElem?_drop
abbrev yL:=@Nat.testBit_or
abbrev Ak:=@List.length_set
abbrev Aj:=@List.length_map
abbrev Cn:=@List.take_length
abbrev Gz:=@Array.toList_append
abbrev Jn:=@List.getElem?_zipWith
abbrev DL:=@List.getElem?_set
abbrev DK:=@Bool.not_eq_true'
abbrev Lv:=@decide_eq_false_iff_not
abbrev xw:=@Nat.mul_comm
abbrev Lu:=@List.getElem?_set_self
abbrev Gy:=@Int.toNat_natCast
abbrev Ai:=@Bool.not_true
abbrev Cm:=@Bool.and_false
abbrev Lt:=@List.getElem?_set_ne
abbrev Gx:=@List.getElem_mem
abbrev SJ:=@List.pairwise_iff_getElem
abbrev SI:=@List.getElem?_append_left
abbrev Ol:=@List.getElem?_toArray
abbrev Ok:=@List.contains_iff_mem
abbrev Jm:=@Option.bind_some
abbrev SH:=@Classical.axiomOfChoice
abbrev U3:=@Array.getD_eq_getD_getElem?
abbrev Oj:=@List.getElem?_range
abbrev Cl:=@Nat.add_mul
abbrev Cj:=@Nat.zero_le
abbrev BC:=@List.length_drop
abbrev QZ:=@List.take_succ_eq_append_getElem
abbrev HJ:=@List.take_append_drop
abbrev yR:=@Bool.not_false
abbrev DR:=@Int.add_sub_cancel
abbrev LL:=@List.mem_or_eq_of_mem_set
abbrev tZ:=@Nat.one_mul
abbrev HI:=@List.getElem?_of_mem
abbrev wJ:=@Nat.add_zero
abbrev BB:=@List.foldl_cons
abbrev HH:=@Array.length_toList
abbrev LK:=@List.length_eq_one_iff
abbrev yQ:=@Nat.lt_or_ge
abbrev yP:=@Nat.le_of_eq
abbrev LJ:=@Array.getElem?_toList
abbrev QY:=@List.exists_cons_of_ne_nil
abbrev QX:=@List.getElem?_append_right
abbrev HG:=@List.nodup_append
abbrev HF:=@List.flatMap_cons
abbrev QW:=@List.drop_eq_getElem_cons
abbrev QV:=@Option.filter_eq_some_iff
abbrev QU:=@Classical.byContradiction
abbrev LI:=@List.map_congr_left
abbrev Vq:=@Array.getElem?_setIfInBounds_ne
abbrev qP:=@Iff.rfl
abbrev DQ:=@List.all_cons
abbrev HE:=@List.map_append
abbrev HD:=@List.nodup_cons
abbrev yO:=@Nat.not_le
abbrev LH:=@List.ext_getElem?
abbrev LG:=@List.size_toArray
abbrev LF:=@List.any_eq_false
abbrev QT:=@Array.getElem?_append
abbrev HC:=@Option.map_map
abbrev QS:=@List.mem_of_mem_take
abbrev QO:=@Nat.div_lt_of_lt_mul
abbrev LD:=@List.any_eq_true
abbrev BA:=@Nat.not_lt
abbrev HB:=@Bool.and_self
abbrev HA:=@Bool.false_or
abbrev DP:=@Nat.le_succ
abbrev QN:=@Array.getElem?_push
abbrev LC:=@List.cons.injEq
abbrev Vo:=@List.extract_eq_take_drop
abbrev LB:=@List.all_append
abbrev Hz:=@Nat.beq_refl
abbrev Hy:=@List.map_set
abbrev Vm:=@List.eq_of_mem_replicate
abbrev Hx:=@List.map_nil
abbrev Vl:=@Option.isSome_iff_exists
abbrev DO:=@Array.ext'
abbrev LA:=@Nat.mul_le_mul
abbrev Lz:=@List.mem_range
abbrev Ly:=@List.drop_drop
abbrev Lx:=@List.take_left
abbrev Vk:=@Array.toList_eq_nil_iff
abbrev Vj:=@List.pairwise_singleton
abbrev Vi:=@List.getElem_cons_zero
abbrev Lw:=@Nat.mul_assoc
abbrev QM:=@Option.bind_none
abbrev QL:=@Array.toList_map
abbrev QK:=@Int.natCast_zero
open Go
inductive Tr(α:Type) where
 |nil
 |node (v:Option α) (l r:Tr α)
 deriving Inhabited
namespace Tr
variable {α:Type}
def get:Tr α->Nat->O α
 | .nil,_=>Y
 | .node v l r,k=>match k with
  |0=>v
  |k+1=>match Nat.beq (Nat.mod k 2) 0 with
   |true=>l.get (Nat.div k 2)
   |false=>r.get (Nat.div k 2)
def set:Nat->Tr α->Nat->α->Tr α
 |0,t,_,_=>t
 |n+1,.nil,k,x=>match k with
  |0=>.node (Z x) .nil .nil
  |k+1=>match Nat.beq (Nat.mod k 2) 0 with
   |true=>.node Y (set n .nil (Nat.div k 2) x) .nil
   |false=>.node Y .nil (set n .nil (Nat.div k 2) x)
 |n+1,.node v l r,k,x=>match k with
  |0=>.node (Z x) l r
  |k+1=>match Nat.beq (Nat.mod k 2) 0 with
   |true=>.node v (set n l (Nat.div k 2) x) r
   |false=>.node v l (set n r (Nat.div k 2) x)
end Tr
def nt:IntKind->IntKind->Bool
 | .i8,.i8|.i16,.i16|.i32,.i32|.i64,.i64|.u8,.u8|.u16,.u16|.u32,.u32|.u64,.u64=>W
 |_,_=>J
def cC{α:Type}:L α->Nat
 |[]=>0
 |_::l=>Nat.succ (cC l)
def nth{α:Type}:L α->Nat->O α
 |[],_=>Y
 |a::_,0=>Z a
 |_::l,k+1=>nth l k
inductive D where
 |lit (v:Value)
 |sl (es:List D)
 |agg (cs:List D)
 |cR (t:TypeId) (d:D)
 |gB (ds:List D)
 deriving Inhabited
namespace D
def toInt:D->Int|.lit (.int _ n)=>n|_=>0
def isInt(k:IntKind):D->Bool|.lit (.int j _)=>nt j k|_=>J
def toBool:D->Bool|.lit (.bool b)=>b|_=>J
def isBool:D->Bool|.lit (.bool _)=>W|_=>J
def toStr:D->ByteArray|.lit (.string b)=>b|_=>.empty
def isStr:D->Bool|.lit (.string _)=>W|_=>J
def acu:D->L D|.sl es=>es|_=>[]
def agF:D->Bool|.sl _=>W|_=>J
def cells:D->L D|.agg cs=>cs|d=>[d]
def cell(d:D)(j:Nat):D:=d.cells.getD j (.lit (.tuple #[]))
def leaf:D->Bool
 | .agg _|.gB _=>J
 | .lit (.agg _)|.lit (.tuple _)=>J
 |_=>W
def isAgg(n:Nat):D->Bool|.agg cs=>Nat.beq (cC cs) n&&cs.all leaf|_=>J
def proj:D->Nat->D|.gB ds,k=>ds.getD k (.lit (.tuple #[]))|_,_=>.lit (.tuple #[])
def adR(n:Nat):D->Bool|.gB ds=>Nat.blt n (cC ds)|_=>J
def agG:D->Bool|.cR _ _=>W|_=>J
def el(es:L D)(i:Nat):D:=es.getD i (.lit (.tuple #[]))
def len(es:L D):Int:=es.length
def GG(n:Int)(len:Int):Prop:=0<=n∧n<len
def cut(lo a len:Int):Prop:=0<=lo∧lo<=a∧a<=len
def has(d:D)(m:Nat):Prop:=m<=d.cells.length
def wide(d:D)(m:Nat):Prop:=d.cells.length=m
def sub(es:L D)(lo a:Int):L D:=(es.take a.toNat).drop lo.toNat
def YN(b:ByteArray)(lo a:Int):ByteArray:=b.extract lo.toNat a.toNat
def Dw(b:ByteArray):Int:=b.size
def sat(b:ByteArray)(n:Int):Int:=(b.get! n.toNat).toNat
def YO(a b:ByteArray):Prop:=a.size+b.size<=4611686018427387904
def UQ(a b:ByteArray):ByteArray:=a++b
def app(a b:L D):L D:=a++b
def put(es:L D)(k:Nat)(d:D):L D:=es.set k d
def rows(es:L D)(sz:Nat):Prop:=∀d∈es,d.cells.length=sz
def lby:D->Nat
 | .lit (.string _)|.lit .nilIface|.cR _ _=>16
 | .sl _|.lit (.slice ..)=>24
 |_=>8
def mS:L D->Nat
 |[]=>0
 |d::l=>Nat.add d.lby (mS l)
def qD:D->Nat
 | .agg a=>mS a
 | .lit (.bool _)=>1
 | .lit (.int .i8 _)|.lit (.int .u8 _)=>1
 | .lit (.int .i16 _)|.lit (.int .u16 _)=>2
 | .lit (.int .i32 _)|.lit (.int .u32 _)=>4
 |d=>d.lby
def flat(d:D):Bool:=d.cells.all leaf
def Us(es:L D)(b:Nat):Prop:=∀d∈es,d.qD=b∧d.flat=W
def nat(n:Int):Nat:=n.toNat
def zero:Int:=0
def add(k:IntKind)(a b:Int):Int:=k.wrap (a+b)
def dH(k:IntKind)(a b:Int):Int:=k.wrap (a-b)
def mul(k:IntKind)(a b:Int):Int:=k.wrap (a*b)
def neg(k:IntKind)(a:Int):Int:=k.wrap (-a)
def conv(k:IntKind)(a:Int):Int:=k.wrap a
def rem(a b:Int):Int:=a.tmod b
def quo(k:IntKind)(a b:Int):Int:=k.wrap (a.tdiv b)
def nz(a:Int):Prop:=a≠0
def aG(a b:Int):Bool:=a==b
def beq(a b:Bool):Bool:=a==b
def seq(a b:ByteArray):Bool:=a==b
def bO(a b:Int):Bool:=decide (a<b)
def ep(a b:Int):Bool:=decide (a<=b)
def ahX(c a b:Bool):Bool:=if c then a else b
def aK(a:Bool):Bool:=!a
def dz(a b:Bool):Bool:=a&&b
def Qt(d:D)(off:Nat)(l:L D):D:=match d with
 | .agg a=>.agg (a.take off++l++a.drop (off+l.length))
 |d=>l.getD 0 d
def QA(d:D)(sz off n:Nat):Prop:=d.isAgg sz=W∨(d.leaf=W∧sz=1∧off=0∧n=1)
end D
inductive T where
 |sym (d:D)
 |kb (b:Bool)
 |kn (k:IntKind) (n:Int)
 |ptr (o off:Nat)
 |mO (d:D) (off:Nat)
 |kH (o e i off:Nat)
 |sh (o e:Nat)
 |emp
 |jE (n:Nat) (es:List D)
 |fn (f:Fn) (first cap:List T)
 |cR (t:TypeId) (v:T)
 |agg (cs:List T)
 |gB (vs:List T)
 |gd (c:Bool) (v:T)
 |mp (o:Nat)
 |rJ (o:Nat)
 |rI (o:Nat)
 |ub (e:Bool)
 |qm (o m r i:Nat)
 |nZ (j:Nat) (d:D)
 deriving Inhabited
inductive Df where
 |call (f:T) (args:List T)
 |mark (o:Nat)
 |bad
 deriving Inhabited
structure Fr where
 n:Nat
 tm:Tr T
 df:List Df:=[]
 deriving Inhabited
structure Lp where
 st:LoopState
 tI:Option Code
 fid:FuncId
 fr:Fr
 params:List Nat
 assign:Code
 body:Code
inductive Ob where
 |box (cs:List T)
 |arr (sz:Nat) (es:List D) (era:Nat)
 |j8 (sz:Nat) (es:List D) (era:Nat)
 |map (es:List (T×T))
 |pH (b:ByteArray) (pos:Nat)
 |lp (l:Lp)
 |z8
 |kB (nj sz:Nat) (es:List D) (era m gL:Nat) (hole:Option Nat)
 |rws (sz:Nat) (ig:List (List D)) (gL:Nat)
 |gone
 deriving Inhabited
def Ob.oR:Ob->Bool
 | .arr ..|.j8 ..|.kB ..|.rws ..|.gone=>W
 |_=>J
def Ob.isA:Ob->Bool
 | .arr ..|.j8 ..=>W
 |_=>J
def Ob.odd:Ob->Bool
 | .map _|.pH _ _|.lp _|.z8=>W
 |_=>J
structure St where
 ob:Tr Ob
 aJ:Nat
 fl:Nat
 lo:Nat
 deriving Inhabited
def aL:Nat:=64
def bC:Nat:=1000000000
def Fr.get(fr:Fr)(k:Nat):O T:=fr.tm.get k
def Fr.put(fr:Fr)(k:Nat)(v:T):Fr:={fr with tm:=fr.tm.set aL k v}
def Fr.g9(fr:Fr)(k:O Nat)(v:T):Fr:=match k with|some k=>fr.put k v|none=>fr
inductive Lk where
 |int (k:IntKind)|bool|str|no
 deriving DecidableEq,Inhabited
inductive Kd where
 |leaf (l:Lk)
 |ptr
 |slice (sz:Nat) (agg:Bool) (qD:Nat) (zero:List D)
 |struct (fs:List (Nat×Nat×Bool))
 |array (len sz:Nat) (agg:Bool)
 |iface
 |other
 deriving Inhabited
structure TI where
 size:Nat
 agg:Bool
 zero:List D
 lks:List Lk
 kd:Kd
 deriving Inhabited
structure NS where
 pre:List D->Prop
 f:List D->D
structure Env where
 P:Program
 ti:Nat->Option TI
 Ur:Nat->Option Func
 GI:Nat->Option NS
def BJ:Value->O D
 | .bool b=>Z (.lit (.bool b))
 | .int k n=>Z (.lit (.int k n))
 | .string s=>Z (.lit (.string s))
 | .pointer Y=>Z (.lit (.pointer Y))
 | .map Y=>Z (.lit (.map Y))
 | .nilFunc=>Z (.lit .nilFunc)
 | .nilIface=>Z (.lit .nilIface)
 | .tuple a=>match a.toList with
  |[]=>Z (.lit (.tuple #[]))
  |_=>Y
 |_=>Y
def ofConst:Value->O T
 | .bool b=>Z (.kb b)
 | .int k n=>Z (.kn k n)
 | .slice Y 0 0=>Z .emp
 | .func f a b=>match a.toList,b.toList with
  |[],[]=>Z (.fn f [] [])
  |_,_=>Y
 | .iface t v=>(BJ v).map λd=>.sym (.cR t d)
 |v=>(BJ v).map .sym
def oL:D->T
 | .lit (.bool b)=>.kb b
 | .lit (.int k n)=>.kn k n
 | .sl []=>.emp
 |d=>.sym d
def T.leaf:T->Prop
 | .sym d=>d.leaf=W
 | .agg _|.gB _|.gd _ _=>False
 |_=>True
def iV(i:TI):T->O (Prop×L T)
 | .agg a=>bif i.agg&&Nat.beq (cC a) i.size then Z (True,a)else Y
 | .sym d=>
  bif i.agg then Z (d.isAgg i.size=W,(List.range i.size).map λj=>.sym (d.cell j))
  else bif Nat.beq i.size 1 then Z (d.leaf=W,[.sym d])else Y
 | .gB _|.gd _ _=>Y
 |t=>bif i.agg then Y else bif Nat.beq i.size 1 then Z (True,[t])else Y
def uc(agg:Bool)(cs:L T):O T:=
 bif agg then Z (.agg cs)else match cs with
  |[x]=>Z x
  |_=>Y
def ju(fr:Fr):Operand->O T
 | .tmp k=>fr.get k
 | .const v=>ofConst v
 | .global _=>Y
 | .func f=>Z (.fn (.func f) [] [])
def wL(fr:Fr):L Operand->O (L T)
 |[]=>Z []
 |x::l=>match ju fr x,wL fr l with
  |some t,Z r=>Z (t::r)
  |_,_=>Y
def tK(k:IntKind):T->O (Prop×Int)
 | .kn j n=>bif nt j k then Z (True,n)else Y
 | .sym d=>Z (d.isInt k=W,d.toInt)
 |_=>Y
def wW:T->O (Prop×Bool)
 | .kb b=>Z (True,b)
 | .sym d=>Z (d.isBool=W,d.toBool)
 |_=>Y
def xj:T->O (Prop×ByteArray)
 | .sym d=>Z (d.isStr=W,d.toStr)
 |_=>Y
def qJ(s:St):T->O (Prop×L D)
 | .emp=>Z (True,[])
 | .jE _ a=>Z (True,a)
 | .nZ _ d=>Z (True,[d])
 | .sym d=>Z (d.agF=W,d.acu)
 | .sh o e=>match s.ob.get o with
  |some (.arr _ a era)|some (.j8 _ a era)=>bif Nat.beq e era then Z (True,a)else Y
  |_=>Y
 |_=>Y
def zl(nj:Nat)(d:D)(a:L D):D:=.agg (d.cells.set nj (.sl a))
def iZ(nj:Nat)(es:L D)(ig:L (L D)):L D:=List.zipWith (zl nj) es ig
def Gt(s:St)(m r:Nat):O (L (L D)):=match s.ob.get m with
 |some (.rws _ a b)=>bif Nat.beq r b then Z a else Y
 |_=>Y
mutual
def vz(s:St):T->O (Prop×D×L Nat)
 | .sym d=>Z (True,d,[])
 | .kb b=>Z (True,.lit (.bool b),[])
 | .kn k n=>Z (True,.lit (.int k n),[])
 | .emp=>Z (True,.sl [],[])
 | .jE _ a=>Z (True,.sl a,[])
 | .nZ _ d=>Z (True,.sl [d],[])
 | .sh o e=>match s.ob.get o with
  |some (.arr _ a era)=>bif Nat.beq e era then Z (True,.sl a,[o])else Y
  |some (.j8 _ a era)=>bif Nat.beq e era then Z (True,.sl a,[])else Y
  |some (.kB g _ a era m r Y)=>match Gt s m r with
   |some c=>bif Nat.beq e era&&Nat.blt m bC then Z (True,.sl (iZ g a c),[o,m])else Y
   |none=>Y
  |_=>Y
 | .cR t v=>match vz s v with
  |some (p,d,os)=>Z (p,.cR t d,os)
  |none=>Y
 | .agg f=>match lR s f with
  |some (p,ds,os)=>Z (p∧ds.all D.leaf=W,.agg ds,os)
  |none=>Y
 | .gB f=>match lR s f with
  |some (p,ds,os)=>Z (p,.gB ds,os)
  |none=>Y
 |_=>Y
def lR(s:St):L T->O (Prop×L D×L Nat)
 |[]=>Z (True,[],[])
 |t::l=>match vz s t,lR s l with
  |some (p,d,os),Z (q,ds,a)=>Z (p∧q,d::ds,os++a)
  |_,_=>Y
end
def freeze(s:St):L Nat->O St
 |[]=>Z s
 |o::l=>
  bif Nat.ble s.fl o then match s.ob.get o with
   |some (.arr sz a era)=>freeze {s with ob:=s.ob.set aL o (.j8 sz a era)} l
   |some (.j8 _ _ _)=>freeze s l
   |some (.kB c sz a era m r Y)=>match Gt s m r with
    |some b=>bif l.contains m&&(Nat.ble s.fl m&&Nat.blt m bC)then freeze {s with ob:=(s.ob.set aL m .gone).set aL o (.j8 sz (iZ c a b) era)} l else Y
    |none=>Y
   |some (.rws ..)=>freeze s l
   |some .gone=>freeze s l
   |_=>Y
  else Y
def en(s:St)(o:Ob):Nat×St:=(s.aJ,{s with ob:=s.ob.set aL s.aJ o,aJ:=Nat.succ s.aJ})
def oZ:Lk->T->T->O (Prop×Bool)
 | .int k,a,b=>match tK k a,tK k b with
  |some (p,x),Z (q,y)=>Z (p∧q,D.aG x y)
  |_,_=>Y
 | .bool,a,b=>match wW a,wW b with
  |some (p,x),Z (q,y)=>Z (p∧q,D.beq x y)
  |_,_=>Y
 | .str,a,b=>match xj a,xj b with
  |some (p,x),Z (q,y)=>Z (p∧q,D.seq x y)
  |_,_=>Y
 | .no,_,_=>Y
def jC:L Lk->L T->L T->O (Prop×Bool)
 |[],[],[]=>Z (True,W)
 |k::c,a::as,b::d=>match oZ k a b,jC c as d with
  |some (p,x),Z (q,y)=>Z (p∧q,D.dz x y)
  |_,_=>Y
 |_,_,_=>Y
def abG:T->T->O (Prop×Bool)
 | .sym (.lit (.pointer Y)),.ptr _ _=>Z (True,J)
 | .ptr _ _,.sym (.lit (.pointer Y))=>Z (True,J)
 |_,_=>Y
def abH:T->T->O (Prop×Bool)
 | .sym (.lit .nilIface),.cR _ _=>Z (True,J)
 | .cR _ _,.sym (.lit .nilIface)=>Z (True,J)
 |_,_=>Y
def GV(s:St)(o e:Nat):O (Nat×L D):=
 match s.ob.get o with
 |some (.arr sz a era)=>bif Nat.beq e era then Z (sz,a)else Y
 |some (.j8 sz a era)=>bif Nat.beq e era then Z (sz,a)else Y
 |_=>Y
def nF(i:TI)(d:D)(off:Nat):O T:=
 bif i.agg then Z (.agg ((List.range i.size).map λj=>.sym (d.cell (Nat.add off j))))
 else bif Nat.beq i.size 1 then Z (.sym (d.cell off))else Y
abbrev ou:=O (Prop×T×St)
def Qu:T:=.sym (.lit (.tuple #[]))
def loadT(i:TI)(s:St):T->ou
 | .ptr o off=>match s.ob.get o with
  |some (.box b)=>
   let l:=(b.drop off).take i.size
   bif Nat.beq (cC l) i.size then(uc i.agg l).map λt=>(True,t,s)else Y
  |_=>Y
 | .mO d off=>(nF i d off).map λt=>(d.has (Nat.add off i.size),t,s)
 | .kH o e k off=>match GV s o e with
  |some (_,a)=>(nF i (D.el a k) off).map λt=>(D.GG k (D.len a)∧(D.el a k).has (Nat.add off i.size),t,s)
  |none=>Y
 |_=>Y
def leaves:L T->Prop
 |[]=>True
 |t::l=>t.leaf∧leaves l
def storeT(i:TI)(s:St)(a x:T):ou:=
 match iV i x with
 |none=>Y
 |some (p,l)=>match a with
  | .ptr o off=>match s.ob.get o with
   |some (.box d)=>
    bif Nat.ble s.fl o&&Nat.ble (Nat.add off (cC l)) (cC d)then
     Z (p∧leaves l,Qu,{s with ob:=s.ob.set aL o (.box (d.take off++l++d.drop (Nat.add off (cC l))))})
    else Y
   |_=>Y
  | .kH o e k off=>match lR s l with
   |some (q,ds,os)=>match freeze s os with
    |some c=>match c.ob.get o with
     |some (.arr sz b era)=>
      bif Nat.ble c.fl o&&Nat.beq e era then
       Z (p∧q∧ds.all D.leaf=W∧D.GG k (D.len b)∧(D.el b k).QA sz off (cC ds)∧Nat.ble (Nat.add off (cC ds)) sz=W∧((D.el b k).Qt off ds).qD=(D.el b k).qD,
        Qu,{c with ob:=c.ob.set aL o (.arr sz (D.put b k ((D.el b k).Qt off ds)) era)})
      else Y
     |_=>Y
    |none=>Y
   |none=>Y
  |_=>Y
def BO(place:Nat->O (Nat×TI))(cells:L T):L (Nat×T)->O (Prop×L T)
 |[]=>Z (True,cells)
 |(k,v)::a=>match place k with
  |none=>Y
  |some (off,i)=>match iV i v with
   |none=>Y
   |some (p,l)=>
    bif Nat.ble (Nat.add off (cC l)) (cC cells)then
     (BO place (cells.take off++l++cells.drop (Nat.add off (cC l))) a).map λ(q,r)=>(p∧leaves l∧q,r)
    else Y
def qj(fr:Fr):L (Nat×Operand)->O (L (Nat×T))
 |[]=>Z []
 |(k,x)::l=>match ju fr x,qj fr l with
  |some t,Z r=>Z ((k,t)::r)
  |_,_=>Y
def nw(s:St)(i:TI)(es:L D):L (Nat×T)->O (Prop×L D×L Nat)
 |[]=>Z (True,es,[])
 |(k,v)::a=>match vz s v with
  |none=>Y
  |some (p,d,os)=>
   bif Nat.blt k (cC es)then
    (nw s i (es.set k d) a).map λ(q,r,b)=>(p∧(bif i.agg then d.isAgg i.size else d.leaf)=W∧q,r,os++b)
   else Y
def Pm(op:BinOp)(k:IntKind)(m n:Int):O D:=
 match op with
 | .lss=>Z (.lit (.bool (D.bO m n)))
 | .leq=>Z (.lit (.bool (D.ep m n)))
 | .gtr=>Z (.lit (.bool (D.bO n m)))
 | .geq=>Z (.lit (.bool (D.ep n m)))
 | .add=>Z (.lit (.int k (D.add k m n)))
 | .sub=>Z (.lit (.int k (D.dH k m n)))
 | .mul=>Z (.lit (.int k (D.mul k m n)))
 |_=>Y
def W4(op:BinOp)(k:IntKind)(m n:Int):O D:=
 match op with
 | .rem=>Z (.lit (.int k (D.rem m n)))
 | .quo=>Z (.lit (.int k (D.quo k m n)))
 |_=>Y
def TH(i:TI)(a b:T):O (Prop×Bool):=
 bif i.agg then match i.lks,iV i a,iV i b with
  |[],_,_=>Y
  |k::c,Z (p,as),Z (q,d)=>(jC (k::c) as d).map λ(r,x)=>(p∧q∧r,x)
  |_,_,_=>Y
 else match i.kd with
  | .leaf k=>oZ k a b
  | .ptr=>abG a b
  | .iface=>abH a b
  |_=>Y
def Ka(i:TI)(op:BinOp)(a b:T):O (Prop×D):=
 match op with
 | .eql=>(TH i a b).map λ(p,r)=>(p,.lit (.bool r))
 | .neq=>(TH i a b).map λ(p,r)=>(p,.lit (.bool (D.aK r)))
 |op=>match i.kd with
  | .leaf (.int k)=>match tK k a,tK k b with
   |some (p,m),Z (q,n)=>match Pm op k m n with
    |some d=>Z (p∧q,d)
    |none=>(W4 op k m n).map λd=>(p∧q∧D.nz n,d)
   |_,_=>Y
  | .leaf .str=>match op,xj a,xj b with
   | .add,Z (p,m),Z (q,n)=>Z (p∧q∧D.YO m n,.lit (.string (D.UQ m n)))
   |_,_,_=>Y
  |_=>Y
def Mc(fr:Fr):O Operand->O (O T)
 |none=>Z Y
 |some x=>(ju fr x).map Z
def uM(dflt:Int):O T->O (Prop×Int)
 |none=>Z (True,dflt)
 |some t=>tK .i64 t
def pQ:T->L Nat
 | .sh o _=>[o]
 |_=>[]
def oB(i:TI)(s:St)(v:T)(l h m:O T):ou:=
 match i.kd,uM D.zero l with
 | .leaf .str,Z (p,lo)=>match xj v,m with
  |some (q,b),Y=>match uM (D.Dw b) h with
   |some (r,a)=>Z (p∧q∧r∧D.cut lo a (D.Dw b),.sym (.lit (.string (D.YN b lo a))),s)
   |none=>Y
  |_,_=>Y
 | .slice sz _ _ _,Z (p,lo)=>match qJ s v,freeze s (pQ v)with
  |some (q,c),Z d=>match uM (D.len c) h,m,h with
   |some (r,a),Y,_=>Z (p∧q∧r∧D.rows c sz∧D.cut lo a (D.len c),.sym (.sl (D.sub c lo a)),d)
   |some (r,a),Z y,Z _=>match y with
    | .kn .i64 0=>Z (p∧q∧r∧lo=D.zero∧a=D.zero,.emp,s)
    |y=>(tK .i64 y).map λ(t,e)=>
     (p∧q∧r∧t∧D.rows c sz∧D.cut lo a (D.len c)∧e=a,.jE 0 (D.sub c lo a),d)
   |_,_,_=>Y
  |_,_=>Y
 |_,_=>Y
def FE:T->O (Prop×Bool)
 | .gd g v=>match wW v with
  |some (q,y)=>Z (g=W∧q,y)
  |none=>Y
 | .kb b=>Z (True,b)
 | .sym d=>Z (d.isBool=W,d.toBool)
 |_=>Y
def HM(c a b:T):O (Prop×T):=
 match c with
 | .kb u=>match FE (bif u then a else b)with
  |some (q,y)=>Z (q,.sym (.lit (.bool y)))
  |none=>Y
 |c=>match wW c,FE a,FE b with
  |some (p,t),Z (q,x),Z (r,y)=>Z (p∧(t=W->q)∧(t=J->r),.sym (.lit (.bool (D.ahX t x y))))
  |_,_,_=>Y
def kE(i:TI)(s:St)(x b:T):ou:=
 match i.kd,tK .i64 b with
 | .slice sz _ _ _,Z (p,n)=>match x with
  | .sh o e=>match GV s o e with
   |some (z,a)=>bif Nat.beq z sz then Z (p∧D.GG n (D.len a),.kH o e (D.nat n) 0,s)else Y
   |none=>Y
  |v=>match qJ s v with
   |some (q,a)=>Z (p∧q∧D.GG n (D.len a)∧(D.el a (D.nat n)).wide sz,.mO (D.el a (D.nat n)) 0,s)
   |none=>Y
 |_,_=>Y
def oX(i:TI)(s:St)(k:Nat)(x:T):ou:=
 match i.kd with
 | .struct a=>match nth a k with
  |some (off,size,_)=>bif Nat.beq size 0 then Y else match x with
   | .ptr o b=>Z (True,.ptr o (Nat.add b off),s)
   | .mO d b=>Z (True,.mO d (Nat.add b off),s)
   | .kH o e j b=>Z (True,.kH o e j (Nat.add b off),s)
   |_=>Y
  |none=>Y
 |_=>Y
def ER(i:TI)(s:St)(k:Nat)(x:T):ou:=
 match i.kd with
 | .struct a=>match nth a k,iV i x with
  |some (off,size,b),Z (p,c)=>
   let l:=(c.drop off).take size
   bif Nat.beq (cC l) size&&!(Nat.beq size 0)then(uc b l).map λt=>(p,t,s)else Y
  |_,_=>Y
 |_=>Y
def EI(i:TI)(s:St)(x a:T):ou:=
 match i.kd,tK .i64 a,xj x with
 | .leaf .str,Z (p,n),Z (q,b)=>Z (p∧q∧D.GG n (D.Dw b),.sym (.lit (.int .u8 (D.sat b n))),s)
 |_,_,_=>Y
def p8(i:TI)(s:St)(t:TypeId)(ok:Bool)(x:T):ou:=
 match i.kd,x,ok with
 | .iface,_,_=>Y
 |_,.cR u v,W=>bif Nat.beq u t then Z (True,.gB [v,.kb W],s)else
   (uc i.agg (i.zero.map oL)).map λz=>(True,.gB [z,.kb J],s)
 |_,.cR u v,J=>bif Nat.beq u t then Z (True,v,s)else Y
 |_,_,_=>Y
def unT(i:TI)(op:UnOp)(v:T):O (Prop×D):=
 match op,i.kd with
 | .not,.leaf .bool=>(wW v).map λ(p,b)=>(p,.lit (.bool (D.aK b)))
 | .neg,.leaf (.int k)=>(tK k v).map λ(p,n)=>(p,.lit (.int k (D.neg k n)))
 |_,_=>Y
def Iv(i j:TI)(s:St)(v:T):ou:=
 match i.kd,j.kd with
 | .leaf (.int k),.leaf (.int l)=>(tK k v).map λ(p,n)=>(p,.sym (.lit (.int l (D.conv l n))),s)
 | .leaf .str,.leaf .str=>(xj v).map λ(p,_)=>(p,v,s)
 |_,_=>Y
def oY(s:St)(k:Nat):T->ou
 | .gB a=>(nth a k).map λt=>(True,t,s)
 | .sym d=>Z (d.adR k=W,.sym (d.proj k),s)
 |_=>Y
def nh(E:Env)(fr:Fr)(s:St)(o:Op):ou:=
 match o with
 | .move x=>(ju fr x).map λt=>(True,t,s)
 | .assign x=>(ju fr x).map λt=>(True,t,s)
 | .pick c a b=>match ju fr c,ju fr a,ju fr b with
  |some c,Z a,Z b=>(HM c a b).map λ(p,t)=>(p,t,s)
  |_,_,_=>Y
 | .alloc t=>match E.ti t with
  |some i=>bif Nat.blt s.aJ bC then Z (True,.ptr s.aJ 0,(en s (.box (i.zero.map oL))).2)else Y
  |none=>Y
 | .box t x=>match E.ti t,ju fr x with
  |some i,Z v=>bif Nat.blt s.aJ bC then(iV i v).map λ(p,q)=>(p,.ptr s.aJ 0,(en s (.box q)).2)else Y
  |_,_=>Y
 | .build t parts=>match E.ti t,qj fr parts.toList with
  |some i,Z r=>match i.kd with
   | .struct z=>(BO (λk=>match nth z k with|some (off,size,g)=>Z (off,{(default:TI)with size:=size,agg:=g})|none=>Y) (i.zero.map oL) r).map
     λ(p,q)=>(p,.agg q,s)
   |_=>Y
  |_,_=>Y
 | .buildSlice t len parts=>match E.ti t,qj fr parts.toList with
  |some i,Z r=>match i.kd with
   | .slice sz g _ zero=>
    bif (g||Nat.beq sz 1)&&(Nat.beq (cC zero) sz&&(!(Nat.beq sz 0)&&Nat.ble (Nat.mul len sz) 16777216))then
     match nw s {(default:TI)with size:=sz,agg:=g} (List.replicate len (bif g then .agg zero else zero.getD 0 default)) r with
     |some (p,A,os)=>(freeze s os).map λs=>(p,.jE len A,s)
     |none=>Y
    else Y
   |_=>Y
  |_,_=>Y
 | .load t a=>match E.ti t,ju fr a with
  |some i,Z a=>loadT i s a
  |_,_=>Y
 | .store t a x=>match E.ti t,ju fr a,ju fr x with
  |some i,Z a,Z x=>storeT i s a x
  |_,_,_=>Y
 | .nilCheck x=>match ju fr x with
  |some (.ptr o b)=>Z (True,.ptr o b,s)
  |some (.mO d b)=>Z (True,.mO d b,s)
  |some (.kH o e j b)=>Z (True,.kH o e j b,s)
  |some (.cR t v)=>Z (True,.cR t v,s)
  |some (.fn (.func f) a b)=>Z (True,.fn (.func f) a b,s)
  |some (.sym d)=>Z (d.agG=W,.sym d,s)
  |_=>Y
 | .binOp op t x y _=>match E.ti t,ju fr x,ju fr y with
  |some i,Z a,Z b=>(Ka i op a b).map λ(p,d)=>(p,.sym d,s)
  |_,_,_=>Y
 | .unOp op t x=>match E.ti t,ju fr x with
  |some i,Z v=>(unT i op v).map λ(p,d)=>(p,.sym d,s)
  |_,_=>Y
 | .convert src u x=>match E.ti src,E.ti u,ju fr x with
  |some i,Z j,Z v=>Iv i j s v
  |_,_,_=>Y
 | .makeInterface t x=>match E.ti t,ju fr x with
  |some i,Z v=>match i.kd with
   | .iface=>Y
   |_=>Z (True,.cR t v,s)
  |_,_=>Y
 | .makeFunc f first cap=>match wL fr first.toList,wL fr cap.toList with
  |some a,Z b=>Z (True,.fn f a b,s)
  |_,_=>Y
 | .extract x k=>match ju fr x with
  |some v=>oY s k v
  |none=>Y
 | .fieldAddr t x k=>match E.ti t,ju fr x with
  |some i,Z v=>oX i s k v
  |_,_=>Y
 | .field t x k=>match E.ti t,ju fr x with
  |some i,Z v=>ER i s k v
  |_,_=>Y
 | .indexAddr t x w=>match E.ti t,ju fr x,ju fr w with
  |some i,Z v,Z n=>kE i s v n
  |_,_,_=>Y
 | .index t x w=>match E.ti t,ju fr x,ju fr w with
  |some i,Z v,Z n=>EI i s v n
  |_,_,_=>Y
 | .slice t x lo B C=>match E.ti t,ju fr x,Mc fr lo,Mc fr B,Mc fr C with
  |some i,Z v,Z l,Z h,Z m=>oB i s v l h m
  |_,_,_,_,_=>Y
 | .typeAssert x _ t ok=>match E.ti t,ju fr x with
  |some i,Z v=>p8 i s t ok v
  |_,_=>Y
 |_=>Y
def D.Rp(a b:L D):Prop:=a.length+b.length<=17179869184
def p9(i:TI)(s:St)(x y:T):ou:=
 bif !(Nat.blt s.aJ bC)then Y else
 match i.kd,qJ s y with
 | .slice sz _ b _,Z (q,new)=>
  match x with
  | .emp=>Z (q∧D.rows new sz∧D.Us new b,.sh s.aJ 0,(en s (.arr sz new 0)).2)
  | .jE _ a=>
   let c:=q∧D.rows (D.app a new) sz∧D.Us (D.app a new) b∧D.Rp a new
   match y with
   | .jE (_+1) _=>Z (c,.sh s.aJ 0,(en s (.arr sz (D.app a new) 0)).2)
   |_=>Z (c,.sym (.sl (D.app a new)),s)
  | .sh o e=>match s.ob.get o with
   |some (.arr z a era)=>
    bif Nat.ble s.fl o&&Nat.beq e era&&Nat.beq z sz&&!(pQ y).contains o then
     Z (q∧D.rows new sz∧D.Us (D.app a new) b∧D.Rp a new,.sh o (Nat.succ era),{s with ob:=s.ob.set aL o (.arr sz (D.app a new) (Nat.succ era))})
    else Y
   |_=>Y
  |_=>Y
 |_,_=>Y
def e9(E:Env)(s:St)(b:Builtin)(argTypes:Array TypeId)(args:L T):ou:=
 match b,args with
 | .len,[x]=>match xj x,(nth argTypes.toList 0).bind E.ti with
  |some (p,b),Z i=>match i.kd with
   | .leaf .str=>Z (p,.sym (.lit (.int .i64 (D.Dw b))),s)
   | .slice _ _ _ _=>(qJ s x).map λ(p,a)=>(p,.sym (.lit (.int .i64 (D.len a))),s)
   |_=>Y
  |none,Z i=>match i.kd with
   | .slice _ _ _ _=>(qJ s x).map λ(p,a)=>(p,.sym (.lit (.int .i64 (D.len a))),s)
   |_=>Y
  |_,_=>Y
 | .append,[x,y]=>match argTypes.toList with
  |[t,u]=>match E.ti t,E.ti u with
   |some i,Z j=>match j.kd with
    | .slice _ _ _ _=>p9 i s x y
    |_=>Y
   |_,_=>Y
  |_=>Y
 |_,_=>Y
end
end TL
end
section
namespace TL
open Go
section
def vP:T->L T->O (FuncId×L T)
 | .fn (.func f) first cap,args=>Z (f,first++args++cap)
 |_,_=>Y
section
variable (E:Env)
def gamT(s:St)(f:FuncId)(args:L T):O (Prop×T×St):=
 match E.GI f with
 |none=>Y
 |some c=>match lR s args with
  |none=>Y
  |some (p,ds,os)=>(freeze s os).map λa=>(p∧c.pre ds,.sym (c.f ds),a)
abbrev aiY:=FuncId->L T->St->(T->St->Prop)->(T->St->Prop)->Prop
variable (call:aiY)
def afT(fr:Fr):O Nat->Bool
 |none=>W
 |some d=>Nat.blt d fr.n
end
def Az:L T->Nat->Tr T->Tr T
 |[],_,t=>t
 |a::l,k,t=>Az l (Nat.succ k) (t.set aL k a)
def kj(E:Env)(s:St)(fr:Fr):L ResultVar->O (Prop×L T)
 |[]=>Z (True,[])
 | .tmp t::l=>match fr.get t,kj E s fr l with
  |some x,Z (p,r)=>Z (p,x::r)
  |_,_=>Y
 | .cell a t::l=>match(E.ti t),fr.get a with
  |some i,Z a=>match loadT i s a,kj E s fr l with
   |some (p,x,_),Z (q,r)=>Z (p∧q,x::r)
   |_,_=>Y
  |_,_=>Y
def acr:L T->T
 |[x]=>x
 |l=>.gB l
end
end TL
end
section
namespace TL
section
def bL{α:Type}(l:L α):cC l=l.length:=by
 induction l with|nil=>rfl|cons a l b=>simp[cC,b]
def jv{α:Type}(l:L α)(k:Nat):nth l k=l[k]?:=by
 induction l generalizing k with
 |nil=>cases k<;>rfl
 |cons a l b=>cases k with|zero=>rfl|succ k=>simp[nth,b]
namespace Tr
variable {α:Type}
def get_nil(k:Nat):(Tr.nil:Tr α).get k=Y:=by cases k<;>rfl
def fR(v:O α)(l r:Tr α):(Tr.node v l r).get 0=v:=by simp[get]
def cP(v:O α)(l r:Tr α)(k:Nat):(Tr.node v l r).get (k+1)=if k%2=0 then l.get (k/2)else r.get (k/2):=by
 simp only[get];by_cases h:k%2=0
 .have:Nat.beq (Nat.mod k 2) 0=W:=by show Nat.beq (k%2) 0=W;rw[h];rfl
  simp[this,h];rfl
 .have:Nat.beq (Nat.mod k 2) 0=J:=by
   show Nat.beq (k%2) 0=J;have:k%2=1:=by omega
   rw[this];rfl
  simp[this,h];rfl
theorem wD(n:Nat)(v:O α)(l r:Tr α)(x:α):Tr.set (n+1) (.node v l r) 0 x=.node (Z x) l r:=rfl
theorem yE(n:Nat)(x:α):Tr.set (n+1) .nil 0 x=.node (Z x) .nil .nil:=rfl
def mG(n:Nat)(v:O α)(l r:Tr α)(k:Nat)(x:α) :
  Tr.set (n+1) (.node v l r) (k+1) x=if k%2=0 then .node v (Tr.set n l (k/2) x) r else .node v l (Tr.set n r (k/2) x):=by
 simp only[set];by_cases h:k%2=0
 .have:Nat.beq (Nat.mod k 2) 0=W:=by show Nat.beq (k%2) 0=W;rw[h];rfl
  simp[this,h];rfl
 .have:Nat.beq (Nat.mod k 2) 0=J:=by
   show Nat.beq (k%2) 0=J;have:k%2=1:=by omega
   rw[this];rfl
  simp[this,h];rfl
def nK(n:Nat)(k:Nat)(x:α) :
  Tr.set (n+1) .nil (k+1) x=if k%2=0 then .node Y (Tr.set n .nil (k/2) x) .nil else .node Y .nil (Tr.set n .nil (k/2) x):=by
 simp only[set];by_cases h:k%2=0
 .have:Nat.beq (Nat.mod k 2) 0=W:=by show Nat.beq (k%2) 0=W;rw[h];rfl
  simp[this,h];rfl
 .have:Nat.beq (Nat.mod k 2) 0=J:=by
   show Nat.beq (k%2) 0=J;have:k%2=1:=by omega
   rw[this];rfl
  simp[this,h];rfl
def aaf(n:Nat):∀(t:Tr α)(k j:Nat)(x:α),k+1<2 ^ n->(Tr.set n t k x).get j=if j=k then Z x else t.get j:=by
 induction n with
 |zero=>intro t k j x h;simp at h
 |succ n d=>
  intro t k j x h;cases k with
  |zero=>
   cases t with
   |nil=>
    rw[yE];cases j with|zero=>simp[fR]|succ j=>rw[cP];simp[get_nil]
   |node v l r=>
    rw[wD];cases j with|zero=>simp[fR]|succ j=>rw[cP,cP];simp
  |succ k=>
   have c:k/2+1<2 ^ n:=by rw[Nat.pow_succ]at h;omega
   cases t with
   |nil=>
    rw[nK];cases j with
    |zero=>split<;>simp[fR,get_nil]
    |succ j=>
     by_cases b:k%2=0
     .rw[bJ b,cP,get_nil];by_cases a:j%2=0
      .rw[bJ a,d _ _ _ _ c,get_nil];have:j/2=k/2↔j+1=k+1:=by omega
       simp[this,get_nil]
      .rw[br a,get_nil,br (by omega)]
     .rw[br b,cP,get_nil];by_cases a:j%2=0
      .rw[bJ a,get_nil,br (by omega)]
      .rw[br a,d _ _ _ _ c,get_nil];have:j/2=k/2↔j+1=k+1:=by omega
       simp[this,get_nil]
   |node v l r=>
    rw[mG];cases j with
    |zero=>split<;>simp[fR]
    |succ j=>
     by_cases b:k%2=0
     .rw[bJ b,cP,cP];by_cases a:j%2=0
      .rw[bJ a,bJ a,d _ _ _ _ c];have:j/2=k/2↔j+1=k+1:=by omega
       simp[this]
      .rw[br a,br a,br (by omega)]
     .rw[br b,cP,cP];by_cases a:j%2=0
      .rw[bJ a,bJ a,br (by omega)]
      .rw[br a,br a,d _ _ _ _ c];have:j/2=k/2↔j+1=k+1:=by omega
       simp[this]
def aZ(t:Tr α)(k j:Nat)(x:α)(h:k<bC):(Tr.set aL t k x).get j=if j=k then Z x else t.get j:=
 aaf _ _ _ _ _ (by unfold aL;unfold bC at h;omega)
end Tr
end
end TL
end
section
namespace TL
open Go
section
structure fE where
 a:Option Addr
 len:Nat
 cap:Nat
 sz:Nat
structure Gh where
 cj:Nat->Option Nat
 arr:Nat->Nat->Option fE
 bB:Nat->Prop
inductive ek(I:Nat->Prop)(w:World):D->Value->Prop where
 |lit (v:Value):ek I w (.lit v) v
 |sl (es:List D) (a:Option Addr) (cap sz:Nat) (val:Nat->Nat->Value)
   (hcap:es.length<=cap) (hsz:∀d∈es,d.cells.length=sz) (hby:∀d∈es,es.length*d.qD<=281474976710656)
   (ha:es≠[]->∃ad,a=Z ad∧I ad.block∧∀i j d c,es[i]?=Z d->d.cells[j]?=Z c->w.cell? (ad.add (i*sz+j))=Z (val i j))
   (hc:∀i j d c,es[i]?=Z d->d.cells[j]?=Z c->ek I w c (val i j)):ek I w (.sl es) (.slice a es.length cap)
 |agg (cs:List D) (vs:Array Value) (hl:cs.length=vs.size) (hf:∀c∈cs,c.leaf=W)
   (h:∀(j:Nat)(c:D)(v:Value),cs[j]?=Z c->vs[j]?=Z v->ek I w c v):ek I w (.agg cs) (.agg vs)
 |cR (t:TypeId) (d:D) (v:Value) (h:ek I w d v):ek I w (.cR t d) (.iface t v)
 |gB (ds:List D) (vs:Array Value) (hl:ds.length=vs.size)
   (h:∀(j:Nat)(c:D)(v:Value),ds[j]?=Z c->vs[j]?=Z v->ek I w c v):ek I w (.gB ds) (.tuple vs)
def tu(I:Nat->Prop)(w w':World):Prop:=∀b,I b->w'.heap[b]?=w.heap[b]?
def tu.cell{I:Nat->Prop}{w w':World}(h:tu I w w'){a:Addr}(b:I a.block):w'.cell? a=w.cell? a:=by unfold World.cell?;rw[h _ b]
def kW(a:Addr)(n:Nat):(a.add n).block=a.block:=by unfold Addr.add;split<;>rfl
variable {I:Nat->Prop}{w w':World}{d:D}{v:Value}{s:St}{o b e fl:Nat}{ob:Ob}{t:T}{p:T->Bool}
def ek.mono{q:Nat->Prop}(s:tu I w w')(u:∀b,I b->q b)(h:ek I w d v):ek q w' d v:=by
 induction h with
 |lit v=>exact .lit v
 |sl x a cap sz val g k l y F e=>refine .sl x a cap sz val g k l (λm=>?_) e;obtain⟨z,A,r,f⟩:=y m;refine⟨z,A,u _ r,λi j d c B n=>?_⟩;rw[s.cell (by rw[kW];exact r)];exact f i j d c B n
 |agg C o p E h e=>exact .agg C o p E e
 |cR t d v h e=>exact .cR t d v e
 |gB ds o p h e=>exact .gB ds o p e
def rc(r i:Nat):Nat:=2 ^ r*(2*i+1)
def iS(nj:Nat)(d:D)(h:Value):D:=.agg (d.cells.set nj (.lit h))
inductive aM(g:Gh)(w:World):T->Value->Prop where
 |sym (d:D) (v:Value) (h:ek g.bB w d v):aM g w (.sym d) v
 |kb (b:Bool):aM g w (.kb b) (.bool b)
 |kn (k:IntKind) (n:Int):aM g w (.kn k n) (.int k n)
 |ptr (o off b:Nat) (h:g.cj o=Z b):aM g w (.ptr o off) (.pointer (Z ⟨b,off,Y⟩))
 |mO (d:D) (off:Nat) (ad:Addr) (val:Nat->Value) (hi:g.bB ad.block)
   (hc:∀j c,d.cells[j]?=Z c->w.cell? (ad.add j)=Z (val j)) (hd:∀j c,d.cells[j]?=Z c->ek g.bB w c (val j)) :
   aM g w (.mO d off) (.pointer (Z (ad.add off)))
 |kH (o e i off len cap sz:Nat) (ad:Addr) (h:g.arr o e=Z ⟨Z ad,len,cap,sz⟩):aM g w (.kH o e i off) (.pointer (Z (ad.add (i*sz+off))))
 |sh (o e len cap sz:Nat) (a:Option Addr) (h:g.arr o e=Z ⟨a,len,cap,sz⟩):aM g w (.sh o e) (.slice a len cap)
 |emp (a:Option Addr):aM g w .emp (.slice a 0 0)
 |jE (n:Nat) (es:List D) (a:Option Addr) (hn:n<=es.length) (h:ek g.bB w (.sl es) (.slice a es.length es.length)):aM g w (.jE n es) (.slice a es.length es.length)
 |fn (f:Fn) (fs cs:List T) (va vc:Array Value) (hl:fs.length=va.size) (hm:cs.length=vc.size)
   (h:∀(j:Nat)(t:T)(v:Value),fs[j]?=Z t->va[j]?=Z v->aM g w t v)
   (h':∀(j:Nat)(t:T)(v:Value),cs[j]?=Z t->vc[j]?=Z v->aM g w t v):aM g w (.fn f fs cs) (.func f va vc)
 |cR (t:TypeId) (x:T) (v:Value) (h:aM g w x v):aM g w (.cR t x) (.iface t v)
 |agg (cs:List T) (vs:Array Value) (hl:cs.length=vs.size)
   (h:∀(j:Nat)(t:T)(v:Value),cs[j]?=Z t->vs[j]?=Z v->aM g w t v):aM g w (.agg cs) (.agg vs)
 |gB (cs:List T) (vs:Array Value) (hl:cs.length=vs.size)
   (h:∀(j:Nat)(t:T)(v:Value),cs[j]?=Z t->vs[j]?=Z v->aM g w t v):aM g w (.gB cs) (.tuple vs)
 |gd (c:Bool) (t:T) (v:Value) (h:c=W->aM g w t v):aM g w (.gd c t) v
 |mp (o b:Nat) (h:g.cj o=Z b):aM g w (.mp o) (.map (Z b))
 |rJ (o b:Nat) (h:g.cj o=Z b):aM g w (.rJ o) (.func (.yield b) #[] #[])
 |rI (o b:Nat) (h:g.cj o=Z b):aM g w (.rI o) (.pointer (Z ⟨b,0,Y⟩))
 |ub (e b:Bool) (h:b=W->e=W):aM g w (.ub e) (.bool b)
 |qm (o m r i len cap sz:Nat) (a:Option Addr) (h:g.arr m (rc r i)=Z ⟨a,len,cap,sz⟩):aM g w (.qm o m r i) (.slice a len cap)
 |nZ (j:Nat) (d:D) (c:Option Addr) (a:Option Addr) (hj:d.cells[j]?=Z (.sl [])) (hd:ek g.bB w (.sl [iS j d (.slice c 0 0)]) (.slice a 1 1)):aM g w (.nZ j d) (.slice a 1 1)
inductive g6(g:Gh)(w:World):Ob->Obj->Prop where
 |box (cs:List T) (vs:Array Value) (ty:TypeId) (hl:cs.length=vs.size) (h:∀(j:Nat)(t:T)(v:Value),cs[j]?=Z t->vs[j]?=Z v->aM g w t v):g6 g w (.box cs) (.cells vs ty (0,0))
 |map (es:List (T×T)) (ms:Array MapEntry) (c:Nat) (hl:es.length=ms.size)
   (h:∀(j:Nat)(t:T×T)(m:MapEntry),es[j]?=Z t->ms[j]?=Z m->aM g w t.1 m.key∧aM g w t.2 m.val):g6 g w (.map es) (.map ms c)
 |pH (s:ByteArray) (pos:Nat):g6 g w (.pH s pos) (.stringIter s pos)
 |lp (l:Lp) (r:Loop) (h1:r.state=l.st) (h2:r.pending=l.tI) (h4:r.params.toList=l.params) (h5:r.assign=l.assign) (h6:r.body=l.body)
   (h8:r.tmps.size=l.fr.n) (h9:∀k t,l.fr.get k=Z t->∃v,r.tmps[k]?=Z v∧aM g w t v):g6 g w (.lp l) (.loop r)
 |z8:g6 g w .z8 (.deferred (Z []))
def bN(g:Gh)(o b:Nat):Prop:=¬g.bB b∧(g.cj o=Z b∨∃e x ad,g.arr o e=Z x∧x.a=Z ad∧ad.block=b∧x.cap≠0)
structure vn(g:Gh)(w:World)(fz:Bool)(sz:Nat)(es:List D)(x:fE):Prop where
 len:x.len=es.length
 cap:x.len<=x.cap
 rows:∀d∈es,d.cells.length=sz
 pos:0<sz
 YC:∀d∈es,es.length*d.qD<=281474976710656
 emp:es=[]->x.cap=0
 mem:x.cap≠0->∃b vs ty,x.a=Z ⟨b,0,Y⟩∧(fz=W↔g.bB b)∧w.heap[b]?=Z (.cells vs ty (0,0))∧x.cap*sz<=vs.size∧
  ∀i d j c,es[i]?=Z d->d.cells[j]?=Z c->∃v,vs[i*sz+j]?=Z v∧ek g.bB w c v
def fI(fz:Bool)(sz:Nat)(es:L D)(era:Nat):Ob:=if fz then .j8 sz es era else .arr sz es era
def u7(g:Gh)(s:St)(w:World)(o b:Nat):Prop:=
 ¬g.bB b∧b<w.heap.size∧∀ob,s.ob.get o=Z ob->∃h,w.heap[b]?=Z h∧g6 g w ob h
def u7.box{g:Gh}{s:St}{w:World}{o b:Nat}(h:u7 g s w o b){cs:L T}(c:s.ob.get o=Z (.box cs)) :
  ∃vs ty,w.heap[b]?=Z (.cells vs ty (0,0))∧cs.length=vs.size∧∀(j:Nat)(t:T)(v:Value),cs[j]?=Z t->vs[j]?=Z v->aM g w t v:=by
 obtain⟨x,d,a⟩:=h.2.2 _ c;cases a with|box cs vs ty e a=>exact⟨vs,ty,d,e,a⟩
def u7.Eg{g:Gh}(h:u7 g s w o b)(fz:Bool){sz:Nat}{es:L D}(a:s.ob.get o=Z (if fz then .j8 sz es e else .arr sz es e)):False:=by obtain⟨x,d,c⟩:=h.2.2 _ a;cases fz<;>cases c
def g6.Eg{g:Gh}{h:Obj}(a:g6 g w ob h):ob.oR=J:=by cases a<;>rfl
def fE.at(x:fE)(b:Nat):Prop:=∃ad,x.a=Z ad∧ad.block=b∧x.cap≠0
def lits(nj:Nat)(es:L D)(hs:L Value):L D:=List.zipWith (iS nj) es hs
def GY(g:Gh)(m gL:Nat)(hole:O Nat)(hs:L Value):Prop:=
 (∀(i:Nat)(h:Value),hs[i]?=Z h->∃a n k,h=.slice a n k)∧∀(i:Nat)(h:Value),hs[i]?=Z h->hole≠Z i->∃y,g.arr m (rc gL i)=Z y∧h=.slice y.a y.len y.cap
def RM(g:Gh)(w:World)(o e:Nat)(x:fE)(ob:Ob):Prop:=
 ∃fz es era,ob=fI fz x.sz es era∧e<=era∧(∀a,era<a->g.arr o a=Y)∧(e=era->vn g w fz x.sz es x)
def aiQ(g:Gh)(w:World)(o e:Nat)(x:fE)(ob:Ob):Prop:=
 ∃nj es era m gL hole,ob=.kB nj x.sz es era m gL hole∧e<=era∧(∀a,era<a->g.arr o a=Y)∧
  (e=era->∃hs,hs.length=es.length∧vn g w J x.sz (lits nj es hs) x∧GY g m gL hole hs)
def aiK(g:Gh)(w:World)(o e:Nat)(x:fE)(ob:Ob):Prop:=
 ∃sz ig gL,ob=.rws sz ig gL∧(∀r i,gL<r->g.arr o (rc r i)=Y)∧
  (∀i a y c,i≠a->g.arr o (rc gL i)=Z y->g.arr o (rc gL a)=Z c->∀b,y.at b->¬c.at b)∧
  (∀i,e=rc gL i->x.sz=sz∧∃d,ig[i]?=Z d∧vn g w J sz d x)
def tC(g:Gh)(w:World)(o e:Nat)(x:fE)(ob:Ob):Prop:=
 RM g w o e x ob∨aiQ g w o e x ob∨aiK g w o e x ob∨ob=.gone
def tC.oR{g:Gh}{w:World}{o e:Nat}{x:fE}{ob:Ob}(h:tC g w o e x ob):ob.oR=W:=by
 rcases h with⟨a,_,_,rfl,_⟩|⟨_,_,_,_,_,_,rfl,_⟩|⟨_,_,_,rfl,_⟩|rfl
 .cases a<;>rfl
 .rfl
 .rfl
 .rfl
def tC.old{g:Gh}{x:fE}(h:tC g w o e x ob)(a:ob.isA=W):RM g w o e x ob:=by
 rcases h with h|⟨_,_,_,_,_,_,rfl,_⟩|⟨_,_,_,rfl,_⟩|rfl
 .exact h
 .cases a
 .cases a
 .cases a
def z6(g:Gh)(s:St)(w:World)(o e:Nat)(x:fE):Prop:=
 (∀ad,x.a=Z ad->x.cap≠0->ad.block<w.heap.size)∧∀ob,s.ob.get o=Z ob->tC g w o e x ob
def z6.old{g:Gh}{s:St}{w:World}{o e:Nat}{x:fE}(h:z6 g s w o e x)(ob:Ob)(b:s.ob.get o=Z ob)(c:ob.isA=W) :
  ∃fz es era,ob=fI fz x.sz es era∧e<=era∧(∀a,era<a->g.arr o a=Y)∧(e=era->vn g w fz x.sz es x):=(h.2 ob b).old c
def T1(fz:Bool)(sz:Nat)(es:L D)(era:Nat):(fI fz sz es era).isA=W:=by cases fz<;>rfl
structure bh(g:Gh)(s:St)(w:World):Prop where
 aJ:s.aJ<=bC
 ai:∀o,s.aJ<=o->g.cj o=Y∧∀e,g.arr o e=Y
 box:∀o b,g.cj o=Z b->u7 g s w o b
 arr:∀o e x,g.arr o e=Z x->z6 g s w o e x
 bB:∀b,g.bB b->b<w.heap.size
 l9:∀o o' b,bN g o b->bN g o' b->o=o'
inductive u6(g:Gh)(w:World):Df->Deferred->Prop where
 |call (f:T) (args:List T) (fv:Fn) (first cap Uz:Array Value) (h3:aM g w f (.func fv first cap)) (h4:args.length=Uz.size)
   (h5:∀(j:Nat)(t:T)(v:Value),args[j]?=Z t->Uz[j]?=Z v->aM g w t v):u6 g w (.call f args) {target:=.fn fv cap,args:=first++Uz}
 |mark (o b:Nat) (h:g.cj o=Z b):u6 g w (.mark o) {target:=.collected b,args:=#[]}
 |bad (d:Deferred):u6 g w .bad d
inductive j7(g:Gh)(w:World):List Df->List Deferred->Prop where
 |nil:j7 g w [] []
 |cons {d:Df} {e:Deferred} {l:List Df} {m:List Deferred} (h:u6 g w d e) (t:j7 g w l m):j7 g w (d::l) (e::m)
structure cG(g:Gh)(fr:Fr)(a:Act)(w:World):Prop where
 size:a.tmps.size=fr.n
 df:j7 g w fr.df a.defers
 tm:∀k t,fr.get k=Z t->∃v,a.tmps[k]?=Z v∧aM g w t v
structure Ext(fl:Nat)(g:Gh)(w:World)(g':Gh)(w':World):Prop where
 cj:∀o b,g.cj o=Z b->g'.cj o=Z b
 arr:∀o e x,g.arr o e=Z x->g'.arr o e=Z x
 bB:∀b,g.bB b->g'.bB b
 size:w.heap.size<=w'.heap.size
 heap:∀b,b<w.heap.size->(∀o,fl<=o->¬bN g o b)->w'.heap[b]?=w.heap[b]?
 own:∀o b,bN g' o b->bN g o b∨w.heap.size<=b
 uq:∀b,g'.bB b->g.bB b∨w.heap.size<=b∨∃o,fl<=o∧bN g o b
 os:w'.os=w.os
 output:w'.output=w.output
def Ext.refl(fl:Nat)(g:Gh)(w:World):Ext fl g w g w:=
 ⟨λ_ _ h=>h,λ_ _ _ h=>h,λ_ h=>h,bQ _,λ_ _ _=>rfl,λ_ _ h=>.inl h,λ_ h=>.inl h,rfl,rfl⟩
def Ext.trans{fl:Nat}{g g' d:Gh}{w w' f:World}(h:Ext fl g w g' w')(k:Ext fl g' w' d f):Ext fl g w d f where
 cj o b e:=k.cj o b (h.cj o b e)
 arr o e x l:=k.arr o e x (h.arr o e x l)
 bB b e:=k.bB b (h.bB b e)
 size:=fJ h.size k.size
 heap b c j:=by
  rw[k.heap b (dB c h.size) (λo i a=>?_),h.heap b c j];rcases h.own o b a with a|a
  .exact j o i a
  .omega
 own o b a:=by
  rcases k.own o b a with a|a
  .exact h.own o b a
  .exact .inr (fJ h.size a)
 uq b c:=by
  rcases k.uq b c with c|c|⟨o,i,a⟩
  .exact h.uq b c
  .exact .inr (.inl (fJ h.size c))
  .rcases h.own o b a with a|a
   .exact .inr (.inr ⟨o,i,a⟩)
   .exact .inr (.inl a)
 os:=k.os.trans h.os
 output:=k.output.trans h.output
def Ext.keeps{g g':Gh}(h:Ext fl g w g' w')(c:∀b,g.bB b->b<w.heap.size):tu g.bB w w':=
 λb a=>h.heap b (c b a) λ_ _ d=>d.1 a
def ek.ext{g g':Gh}(h:Ext fl g w g' w')(a:∀b,g.bB b->b<w.heap.size)(c:ek g.bB w d v):ek g'.bB w' d v:=
 c.mono (h.keeps a) h.bB
def aM.ext{fl:Nat}{g g':Gh}{w w':World}(h:Ext fl g w g' w')(s:∀b,g.bB b->b<w.heap.size){t:T}{v:Value}(G:aM g w t v):aM g' w' t v:=by
 induction G with|sym d v p=>exact .sym d v (p.ext h s)|kb b=>exact .kb b|kn k n=>exact .kn k n|ptr o off b q=>exact .ptr o off b (h.cj o b q)|mO d off C val u H p=>exact .mO d off C val (h.bB _ u) (λj c y=>by rw[(h.keeps s).cell (by rw[kW];exact u)];exact H j c y) (λj c y=>(p j c y).ext h s)|kH o e i off len cap sz C z=>exact .kH o e i off len cap sz C (h.arr _ _ _ z)|sh o e len cap sz a z=>exact .sh o e len cap sz a (h.arr _ _ _ z)|emp a=>exact .emp a|jE n I a K p=>exact .jE n I a K (p.ext h s)|fn f M A N P B R _ _ l E=>exact .fn f M A N P B R l E|cR t x v _ l=>exact .cR t x v l|agg A F B _ l=>exact .agg A F B l|gB A F B _ l=>exact .gB A F B l|gd c t v _ l=>exact .gd c t v l|mp o b q=>exact .mp o b (h.cj o b q)|rJ o b q=>exact .rJ o b (h.cj o b q)|rI o b q=>exact .rI o b (h.cj o b q)|ub e b h=>exact .ub e b h|qm o m r i len cap sz a z=>exact .qm o m r i len cap sz a (h.arr _ _ _ z)|nZ j d c a y p=>exact .nZ j d c a y (p.ext h s)
def aM.anE{g g':Gh}(B:∀k j y,g.arr k j=Z y->g'.arr k j=Z y)(A:g'.cj=g.cj)(q:g'.bB=g.bB)(I:aM g w t v):aM g' w t v:=by
 induction I with|sym d v p=>exact .sym d v (q▸p)|kb b=>exact .kb b|kn k n=>exact .kn k n|ptr o off b h=>exact .ptr o off b (A▸h)|mO d off C val E K p=>exact .mO d off C val (q▸E) K (λj c F=>q▸p j c F)|kH o e i off len cap sz C s=>exact .kH o e i off len cap sz C (B _ _ _ s)|sh o e len cap sz a s=>exact .sh o e len cap sz a (B _ _ _ s)|emp a=>exact .emp a|jE n M a N p=>exact .jE n M a N (q▸p)|fn f P u R S z X _ _ l G=>exact .fn f P u R S z X l G|cR t x v _ l=>exact .cR t x v l|agg u H z _ l=>exact .agg u H z l|gB u H z _ l=>exact .gB u H z l|gd c t v _ l=>exact .gd c t v l|mp o b h=>exact .mp o b (A▸h)|rJ o b h=>exact .rJ o b (A▸h)|rI o b h=>exact .rI o b (A▸h)|ub e b h=>exact .ub e b h|qm o m r i len cap sz a s=>exact .qm o m r i len cap sz a (B _ _ _ s)|nZ j d c a F p=>exact .nZ j d c a F (q▸p)
def g6.imp{g g':Gh}(b:∀t v,aM g w t v->aM g' w' t v){x:Obj}(a:g6 g w ob x):g6 g' w' ob x:=by
 cases a with
 |box e f ty d a=>exact .box e f ty d λj t v h1 h2=>b _ _ (a j t v h1 h2)
 |map h i c d a=>exact .map h i c d λj t m h1 h2=>⟨b _ _ (a j t m h1 h2).1,b _ _ (a j t m h1 h2).2⟩
 |pH s pos=>exact .pH s pos
 |lp l r h1 h2 h4 h5 h6 n o=>exact .lp l r h1 h2 h4 h5 h6 n λk t p=>let ⟨v,q,u⟩:=o k t p;⟨v,q,b _ _ u⟩
 |z8=>exact .z8
def g6.ext{fl:Nat}{g g':Gh}{w w':World}(h:Ext fl g w g' w')(a:∀b,g.bB b->b<w.heap.size){ob:Ob}{x:Obj}(c:g6 g w ob x):g6 g' w' ob x:=
 c.imp (λ_ _ d=>d.ext h a)
def tq(p:T->Bool)(t u:T):Prop:=(u=t∧p t=J)∨∃v,u=.gd J v
def qc(p:T->Bool)(ob a:Ob):Prop:=
 match ob,a with
 | .box cs,.box ds=>cs.length=ds.length∧∀(j:Nat)(t u:T),cs[j]?=Z t->ds[j]?=Z u->tq p t u
 | .map es,.map ds=>es.length=ds.length∧∀(j:Nat)(t u:T×T),es[j]?=Z t->ds[j]?=Z u->tq p t.1 u.1∧tq p t.2 u.2
 | .kB nj sz es era m gL hole,a=>(a=.kB nj sz es era m gL hole∧p (.sh m 0)=J)∨a=.gone
 | .lp l,.lp m=>m={l with fr:=m.fr}∧m.fr.n=l.fr.n∧∀k u,m.fr.get k=Z u->∃t,l.fr.get k=Z t∧tq p t u
 |ob,a=>ob=a
def tq.rel{g g':Gh}(a:∀t v,aM g w t v->p t=J->aM g' w' t v){u:T}(h:tq p t u)(b:aM g w t v):aM g' w' u v:=by
 rcases h with⟨rfl,c⟩|⟨x,rfl⟩
 .exact a _ _ b c
 .exact .gd _ _ _ λh=>by cases h
def nG{α:Type}{l:L α}{j:Nat}{a:α}(h:l[j]?=Z a):j<l.length:=(tG.1 h).1
def g6.left{g g':Gh}(i:∀t v,aM g w t v->p t=J->aM g' w' t v){a:Ob}{x:Obj}(d:g6 g w ob x)(hl:qc p ob a):g6 g' w' a x:=by
 cases d with
 |box A B ty f d=>
  cases a with
  |box ds=>
   obtain⟨n,o⟩:=hl;refine .box ds B ty (by omega) λj u v b q=>?_;have h:j<A.length:=by rw[n];exact nG b
   exact(o j _ u (fN h) b).rel i (d j _ v (fN h) q)
  |_=>cases hl
 |map C E c f d=>
  cases a with
  |map ds=>
   obtain⟨n,o⟩:=hl;refine .map ds E c (by omega) λj u m b F=>?_;have h:j<C.length:=by rw[n];exact nG b
   have h1:=o j _ u (fN h) b;have h2:=d j _ m (fN h) F;exact⟨h1.1.rel i h2.1,h1.2.rel i h2.2⟩
  |_=>cases hl
 |pH s pos=>cases a<;>first|(cases hl;exact .pH _ _)|cases hl
 |lp l r h1 h2 h4 h5 h6 G H=>
  cases a with
  |lp m=>obtain⟨e,I,K⟩:=hl;rw[e];refine .lp _ r h1 h2 h4 h5 h6 (G.trans I.symm) λk u b=>?_;obtain⟨t,M,y⟩:=K k u b;obtain⟨v,q,z⟩:=H k t M;exact⟨v,q,y.rel i z⟩
  |_=>cases hl
 |z8=>cases a<;>first|exact .z8|cases hl
def u6.imp{g g':Gh}(c:∀t v,aM g w t v->aM g' w' t v)(i:∀o b,g.cj o=Z b->g'.cj o=Z b){d:Df}{e:Deferred}(h:u6 g w d e):u6 g' w' d e:=by
 cases h with
 |call f args k first cap a h3 h4 h5=>exact .call f args k first cap a (c _ _ h3) h4 (λj t v l m=>c _ _ (h5 j t v l m))
 |mark o b h=>exact .mark o b (i o b h)
 |bad=>exact .bad _
def j7.imp{g g':Gh}{w w':World}(a:∀t v,aM g w t v->aM g' w' t v)(c:∀o b,g.cj o=Z b->g'.cj o=Z b){l:L Df}{m:L Deferred}(h:j7 g w l m):j7 g' w' l m:=by
 induction h with|nil=>exact .nil|cons h _ d=>exact .cons (h.imp a c) d
def Kj(p:T->Bool)(d e:Df):Prop:=e=.bad∨(e=d∧match d with
 | .call f args=>p f=J∧∀t∈args,p t=J
 | .mark o=>p (.ptr o 0)=J
 | .bad=>True)
inductive sQ(p:T->Bool):List Df->List Df->Prop where
 |nil:sQ p [] []
 |cons {d e:Df} {l m:List Df} (h:Kj p d e) (t:sQ p l m):sQ p (d::l) (e::m)
def Kj.rel{g g':Gh}(c:∀t v,aM g w t v->p t=J->aM g' w' t v){d e:Df}{x:Deferred}(h:Kj p d e)(l:u6 g w d x):u6 g' w' e x:=by
 rcases h with rfl|⟨rfl,h⟩
 .exact .bad _
 .cases l with
  |call f args m first cap a h3 h4 h5=>exact .call f args m first cap a (c _ _ h3 h.1) h4 (λj t v k n=>c _ _ (h5 j t v k n) (h.2 t (g8 k)))
  |mark o b q=>
   have:=c _ _ (.ptr o 0 b q) h;cases this with|ptr _ _ _ i=>exact .mark o b i
  |bad=>exact .bad _
def sQ.rel{g g':Gh}{w w':World}{p:T->Bool}(a:∀t v,aM g w t v->p t=J->aM g' w' t v):∀{l m:L Df}{b:L Deferred},sQ p l m->j7 g w l b->j7 g' w' m b
 |_,_,_,.nil,.nil=>.nil
 |_,_,_,.cons h t,.cons k u=>.cons (h.rel a k) (sQ.rel a t u)
def cG.ext{fl:Nat}{g g':Gh}{w w':World}(h:Ext fl g w g' w')(d:∀b,g.bB b->b<w.heap.size){fr:Fr}{a:Act}(hf:cG g fr a w):cG g' fr a w':=
 ⟨hf.size,hf.df.imp (λ_ _ c=>c.ext h d) h.cj,λk t e=>let ⟨v,f,c⟩:=hf.tm k t e;⟨v,f,c.ext h d⟩⟩
end
section
def dR:TypeDesc->Bool
 | .struct _|.array _ _=>W
 |_=>J
def ael(d:D)(v:Value):Prop:=(d=.sl []∧v=.slice Y 0 0)∨d=.lit v
def ZOk(zero:L D)(cells:Array Value):Prop:=
 zero.length=cells.size∧∀(j:Nat)(d:D)(v:Value),zero[j]?=Z d->cells[j]?=Z v->ael d v
def NG(P:Program):Kd->TypeDesc->Prop
 | .leaf (.int k),d=>d=.int k
 | .leaf .bool,d=>d=.bool
 | .leaf .str,d=>d=.string
 | .leaf .no,_=>True
 | .ptr,d=>∃e,d=.pointer e
 | .slice sz ag b zero,d=>∃e j a z,d=.slice e∧P.info? e=Z j∧j.size=sz∧P.underlying e=Z a∧ag=dR a∧j.zero=Z z∧ZOk zero z.cells∧j.bytes<=4096∧0<sz∧j.bytes<=b∧b<=2*j.bytes∧0<j.bytes∧zero.length=sz
 | .struct c,d=>∃fields,d=.struct fields∧fields.size=c.length∧∀(k:Nat)off size ag,c[k]?=Z (off,size,ag)->
   ∃f j a,fields[k]?=Z f∧f.offset=off∧P.info? f.type=Z j∧j.size=size∧P.underlying f.type=Z a∧ag=dR a
 | .array len sz ag,d=>∃e j a,d=.array len e∧P.info? e=Z j∧j.size=sz∧P.underlying e=Z a∧ag=dR a
 | .iface,d=>∃g,d=.interface g
 | .other,_=>True
def zV:Lk->Value->Prop
 | .int k,v=>∃n,v=.int k n
 | .bool,v=>∃b,v=.bool b
 | .str,v=>∃b,v=.string b
 | .no,_=>False
def EZ:Value->Value->Bool
 | .int _ a,.int _ b=>a==b
 | .bool a,.bool b=>a==b
 | .string a,.string b=>a==b
 |_,_=>J
def kG:L Value->L Value->Bool
 |a::l,b::m=>EZ a b&&kG l m
 |_,_=>W
def aeZ(P:Program)(t:TypeId)(a:L Lk):Prop:=
 ∀(w:World)(op:BinOp)(x y:Operand)(b ys:Array Value),b.size=a.length->ys.size=a.length->
  (∀(j:Nat)(l:Lk)(v:Value),a[j]?=Z l->b[j]?=Z v->zV l v)->(∀(j:Nat)(l:Lk)(v:Value),a[j]?=Z l->ys[j]?=Z v->zV l v)->
  (eqGuard op t x y (.agg b) (.agg ys)).run P w=.ok () w∧(Op.equal t (.agg b) (.agg ys)).run P w=.ok (kG b.toList ys.toList) w
structure nc(P:Program)(t:TypeId)(i:TI):Prop where
 eqs:i.agg=W->i.lks≠[]->aeZ P t i.lks
 nif:∀ms,P.underlying t=Z (.interface ms)->i.kd=.iface
 zag:∀x z,P.info? t=Z x->x.zero=Z z->(i.agg=W->∃vs,z=.agg vs)∧(i.agg=J->z.cells=#[z])
 all:∃x d z,P.info? t=Z x∧P.underlying t=Z d∧x.size=i.size∧i.agg=dR d∧x.zero=Z z∧ZOk i.zero z.cells∧NG P i.kd d
section
variable {P:Program}
def aO{t:TypeId}{d:TypeDesc}(h:P.underlying t=Z d)(w:World):(underlying t).run P w=.ok d w:=by simp[underlying,h]
def qh{t:TypeId}{x:TypeInfo}(h:P.info? t=Z x)(w:World):(typeInfo t).run P w=.ok x w:=by simp[typeInfo,h]
def dI{t:TypeId}{x:TypeInfo}(h:P.info? t=Z x)(w:World):(Go.sizeOf t).run P w=.ok x.size w:=by simp[Go.sizeOf,qh h]
def rR{t:TypeId}{d:TypeDesc}(h:P.underlying t=Z d)(w:World):(isAgg t).run P w=.ok (dR d) w:=by simp only[isAgg,Sem.run_bind,aO h,Result.andThen_ok];cases d<;>rfl
def er{t:TypeId}{x:TypeInfo}{z:Value}(h:P.info? t=Z x)(a:x.zero=Z z)(w:World):(zeroValue t).run P w=.ok z w:=by simp[zeroValue,qh h,a]
def beq_iff'{a b:Nat}:Nat.beq a b=W↔a=b:=by
 constructor
 .exact nN
 .intro h;subst h;exact Hz a
def yG{t:TypeId}{x:TypeInfo}{d:TypeDesc}(f:P.info? t=Z x)(g:P.underlying t=Z d)(w:World)(a:Addr)(vals:L Value)(hl:vals.length=x.size)
  (c:∀j v,vals[j]?=Z v->w.cell? (a.add j)=Z v) (h1:dR d=J->∃v,vals=[v]) :
  (loadVar t a).run P w=.ok (if dR d then .agg vals.toArray else vals.headD undef) w:=by
 have b:=run_loadCells_list (P:=P) w a vals c;simp only[loadVar,Sem.run_bind,rR g,Result.andThen_ok];cases h:dR d with|true=>simp[dI f,<-hl,b]|false=>obtain⟨v,rfl⟩:=h1 h;have e:=c 0 v rfl;simp[Addr.add]at e;simp[e]
end
variable {j:Nat}{ag:Bool}{cs:List T}{t:T}{g:Gh}{w:World}
def aF{α:Type}{l:L α}{x:α}(h:l[j]?=Z x):j<l.length:=by
 rcases yQ j l.length with a|a
 .exact a
 .rw[GB a]at h;cases h
def oH{n k:Nat}(h:(List.range n)[j]?=Z k):j=k∧j<n:=by
 have a:j<n:=by have:=aF h;simpa using this
 rw[Oj a]at h;exact⟨by simpa using h,a⟩
def uR(a:Addr)(i j:Nat):(a.add i).add j=a.add (i+j):=by unfold Addr.add;by_cases b:i=0<;>by_cases c:j=0<;>simp[b,c,Nat.add_assoc]
def DZ(h:uc ag cs=Z t):(ag=W∧t=.agg cs)∨(ag=J∧cs=[t]):=by
 unfold uc at h;cases ag with
 |true=>simp at h;exact .inl ⟨rfl,h.symm⟩
 |false=>
  simp at h;split at h
  .simp at h;subst h;exact .inr ⟨rfl,rfl⟩
  .cases h
def vG(h:uc ag cs=Z t){vals:L Value}(hl:cs.length=vals.length)
  (a:∀(j:Nat)(t:T)(v:Value),cs[j]?=Z t->vals[j]?=Z v->aM g w t v) :
  aM g w t (if ag then .agg vals.toArray else vals.headD undef)∧(ag=J->∃v,vals=[v]):=by
 rcases DZ h with⟨rfl,rfl⟩|⟨rfl,rfl⟩
 .exact ⟨.agg _ _ (by simpa using hl) (λj t v h1 h2=>a j t v h1 (by simpa using h2)),λh=>by cases h⟩
 .match vals,hl with
  |[v],_=>exact⟨a 0 _ _ rfl rfl,λ_=>⟨v,rfl⟩⟩
def qf{α:Type}(l:L α)(off n j:Nat)(x:α)(h:((l.drop off).take n)[j]?=Z x):l[off+j]?=Z x∧j<n:=by
 rw[v5]at h;split at h
 .rename_i a;rw[DM]at h;exact⟨h,a⟩
 .cases h
def D.Fk(d:D)(j:Nat)(h:j<d.cells.length):d.cells[j]?=Z (d.cell j):=by simp[D.cell,List.getD,fN h]
def BD{P:Program}{ty:TypeId}{i:TI}(r:nc P ty i){d:D}{off:Nat}(h:nF i d off=Z t)(s:d.has (Nat.add off i.size))
  {ad:Addr} {val:Nat->Value} (u:∀j c,d.cells[j]?=Z c->w.cell? (ad.add j)=Z (val j)) (y:∀j c,d.cells[j]?=Z c->ek g.bB w c (val j)) :
  ∃v,(loadVar ty (ad.add off)).run P w=.ok v w∧aM g w t v:=by
 obtain⟨x,ds,z,A,B,m,e,_⟩:=r.all;have E:off+i.size<=d.cells.length:=s;have a:∀j,j<i.size->w.cell? ((ad.add off).add j)=Z (val (off+j))∧ek g.bB w (d.cell (off+j)) (val (off+j)):=by
  intro j n;have b:off+j<d.cells.length:=by omega
  rw[uR];exact⟨u _ _ (D.Fk d _ b),y _ _ (D.Fk d _ b)⟩
 have f:=yG (P:=P) A B w (ad.add off) ((List.range i.size).map λj=>val (off+j)) (by simp[m]) (λj v n=>by
  simp only[gM,eG]at n;obtain⟨k,o,rfl⟩:=n;obtain⟨rfl,b⟩:=oH o;exact(a j b).1)
 unfold nF at h;cases p:i.agg with
 |true=>
  rw[p]at h e;simp at h;subst h;refine⟨_,f (λq=>by rw[<-e]at q;cases q),?_⟩;rw[<-e];simp only[fY];refine .agg _ _ (by simp) (λj t v h1 h2=>?_);simp only[gM,eG]at h1;obtain⟨k,o,rfl⟩:=h1;obtain⟨rfl,b⟩:=oH o;have C:v=val (off+j):=by simp[b]at h2;exact h2.symm
  subst C;exact .sym _ _ (a j b).2
 |false=>
  rw[p]at h e;simp at h;by_cases h1:Nat.beq i.size 1=W
  .simp[h1]at h;subst h;have l:=beq_iff'.1 h1;refine⟨_,f (λ_=>⟨val off,by simp[l]⟩),?_⟩;rw[<-e];have:=(a 0 (by omega)).2;simp[l];exact .sym _ _ (by simpa using this)
  .rw[Bool.not_eq_true]at h1;simp[h1]at h
end
section
def af{α:Type}{b:Bool}{x y:O α}{z:α}(h:(bif b then x else y)=Z z):(b=W∧x=Z z)∨(b=J∧y=Z z):=by
 cases b
 .exact .inr ⟨rfl,h⟩
 .exact .inl ⟨rfl,h⟩
variable {w:World}{d:D}{v:Value}{g:Gh}{t:T}{i:TI}{s:St}{o e sz k:Nat}{es:List D}{fz:Bool}
def um{I:Nat->Prop}(hl:d.leaf=W)(h:ek I w d v):v.oneCell'=W∧v.cells=#[v]:=by
 cases h with
 |lit v=>cases v<;>first|exact⟨rfl,rfl⟩|cases hl
 |sl=>exact⟨rfl,rfl⟩
 |agg=>cases hl
 |cR=>exact⟨rfl,rfl⟩
 |gB=>cases hl
def Sn(hl:t.leaf)(h:aM g w t v):v.oneCell'=W∧v.cells=#[v]:=by cases h with|sym d v a=>exact um hl a|agg=>exact hl.elim|gB=>exact hl.elim|gd=>exact hl.elim|_=>exact⟨rfl,rfl⟩
def xK{n:Nat}(h:d.isAgg n=W):∃cs,d=.agg cs∧cs.length=n∧∀c∈cs,c.leaf=W:=by
 unfold D.isAgg at h;split at h
 .rename_i cs;simp only[ec]at h;refine⟨cs,rfl,?_,?_⟩
  .rw[<-bL];exact beq_iff'.1 h.1
  .simpa using h.2
 .cases h
def lO{p:Prop}{cs:L T}(h:iV i t=Z (p,cs))(q:p)(r:aM g w t v) :
  cs.length=i.size∧v.cells.size=i.size∧(∀(j:Nat)(t:T)(u:Value),cs[j]?=Z t->v.cells[j]?=Z u->aM g w t u)∧
  (i.agg=W->∃vs,v=.agg vs)∧(i.agg=J->v.cells=#[v]∧i.size=1):=by
 cases r with
 |agg y vs f l=>
  simp only[iV]at h;rcases af h with⟨c,h⟩|⟨_,h⟩
  .simp only[ec]at c;have e:=beq_iff'.1 c.2;rw[bL]at e;simp only[bg,bD]at h;obtain⟨_,rfl⟩:=h;refine⟨e,by simp[Value.cells,<-f,e],λj t u h1 h2=>l j t u h1 h2,λ_=>⟨vs,rfl⟩,λb=>by rw[c.1]at b;cases b⟩
  .cases h
 |sym d v m=>
  simp only[iV]at h;rcases af h with⟨c,h⟩|⟨c,h⟩
  .simp only[bg,bD]at h;obtain⟨rfl,rfl⟩:=h;obtain⟨ds,rfl,e,s⟩:=xK q;cases m with|agg _ vs f _ l=>refine⟨by simp,by simp[Value.cells,<-f,e],λj t u h1 h2=>?_,λ_=>⟨vs,rfl⟩,λb=>by rw[c]at b;cases b⟩;simp only[gM,eG]at h1;obtain⟨k,x,rfl⟩:=h1;obtain⟨rfl,n⟩:=oH x;exact .sym _ _ (l j _ u (D.Fk (.agg ds) j (by simpa[D.cells,e]using n)) h2)
  .rcases af h with⟨h1,h⟩|⟨_,h⟩
   .simp only[bg,bD]at h;obtain⟨rfl,rfl⟩:=h;have a:=beq_iff'.1 h1;obtain⟨_,o⟩:=um q m;refine⟨by simp[a],by simp[o,a],λj t u h2 h3=>?_,λb=>(by rw[c]at b;cases b),λ_=>⟨o,a⟩⟩;rw[o]at h3;cases j with|zero=>simp at h2 h3;subst h2;subst h3;exact .sym _ _ m|succ j=>simp at h2
   .cases h
 |gB=>cases h
 |gd=>cases h
 |kb|kn|ptr|mO|kH|sh|emp|jE|fn|cR|mp|rJ|rI|ub|qm|nZ=>
  all_goals
   simp only[iV]at h;rcases af h with⟨_,h⟩|⟨c,h⟩
   .cases h
   .rcases af h with⟨h1,h⟩|⟨_,h⟩
    .simp only[bg,bD]at h;obtain⟨_,rfl⟩:=h;have a:=beq_iff'.1 h1;refine⟨by simp[a],by simp[Value.cells,a],?_,λb=>(by rw[c]at b;cases b),λ_=>⟨rfl,a⟩⟩;intro j t u h2 h3;cases j with|zero=>simp[Value.cells]at h2 h3;subst h2;subst h3;constructor<;>assumption|succ j=>simp at h2
    .cases h
def IA(h:GV s o e=Z (sz,es)):∃fz,s.ob.get o=Z (fI fz sz es e):=by
 unfold GV at h;split at h
 .rename_i a b era c;rcases af h with⟨d,h⟩|⟨_,h⟩
  .have:=beq_iff'.1 d;subst this;simp at h;obtain⟨rfl,rfl⟩:=h;exact⟨J,c⟩
  .cases h
 .rename_i a b era c;rcases af h with⟨d,h⟩|⟨_,h⟩
  .have:=beq_iff'.1 d;subst this;simp at h;obtain⟨rfl,rfl⟩:=h;exact⟨W,c⟩
  .cases h
 .cases h
def jW{a:Bool}{b d:Nat}{c:L D}(h:fI fz sz es e=fI a b c d):fz=a∧sz=b∧es=c∧e=d:=by cases fz<;>cases a<;>simp[fI]at h<;>exact⟨rfl,h⟩
def bh.ny(hs:bh g s w){x:fE}(c:s.ob.get o=Z (fI fz sz es e))(d:g.arr o e=Z x) :
  vn g w fz sz es x∧x.sz=sz:=by
 obtain⟨f,h,era,a,_,_,b⟩:=(hs.arr o e x d).old _ c (T1 _ _ _ _);obtain⟨rfl,h2,rfl,rfl⟩:=jW a;exact⟨h2▸b rfl,h2.symm⟩
def cell?_of_block{b off:Nat}{vs:Array Value}{ty:TypeId}{fz:Nat×Nat}(h:w.heap[b]?=Z (.cells vs ty fz)):w.cell? ⟨b,off,Y⟩=vs[off]?:=by simp[World.cell?,h]
def nA(b off n:Nat):(⟨b,off,Y⟩:Addr).add n=⟨b,off+n,Y⟩:=by unfold Addr.add;split<;>simp_all
def Rf(h:D.GG (k:Int) (D.len es)):k<es.length:=by have:=h.2;unfold D.len at this;omega
def D.JY(h:k<es.length):es[k]?=Z (D.el es k):=by simp[D.el,List.getD,fN h]
def BK{P:Program}{ty:TypeId}(K:nc P ty i){s':St}(hs:bh g s w){x:T}{vx:Value}(M:aM g w x vx)
  {p:Prop} {t:T} (h:loadT i s x=Z (p,t,s')) (N:p):∃v,(Instr.loadAt ty vx).run P w=.ok v w∧aM g w t v∧s'=s:=by
 cases M with
 |ptr o off b hb=>
  cases C:s.ob.get o with
  |none=>simp[loadT,C]at h
  |some ob=>
  simp only[loadT,C]at h;cases ob with
  |box cs=>
  obtain⟨E,R,S,hl,hr⟩:=(hs.box o b hb).box C;simp only at h;rcases af h with⟨hn,h⟩|⟨_,h⟩
  .have u:=beq_iff'.1 hn;rw[bL]at u;simp only[eG,bD]at h;obtain⟨t',a,_,rfl,rfl⟩:=h;obtain⟨xi,d,z,X,hu,l,F,_⟩:=K.all;have n:((E.toList.drop off).take i.size).length=i.size:=by
    have:((cs.drop off).take i.size).length=((E.toList.drop off).take i.size).length:=by simp[hl]
    rw[<-this,u]
   obtain⟨G,h1⟩:=vG (g:=g) (w:=w) a (vals:=(E.toList.drop off).take i.size) (by rw[u,n]) (λj t v h1 h2=>by
    obtain⟨h1,_⟩:=qf _ _ _ _ _ h1;obtain⟨h2,_⟩:=qf _ _ _ _ _ h2;exact hr _ _ _ h1 (by simpa using h2))
   refine⟨_,?_,G,rfl⟩;have:=yG (P:=P) X hu w ⟨b,off,Y⟩ ((E.toList.drop off).take i.size) (by rw[n,l]) (λj v A=>by
    obtain⟨A,_⟩:=qf _ _ _ _ _ A;rw[nA,cell?_of_block S];simpa using A) (λhf=>h1 (by rw[F,hf]))
   rw[F];simpa[Instr.loadAt,Instr.sureAddr]using this
  .cases h
  |_=>simp at h
 |mO d off ad val Tk f hd=>simp only[loadT,eG,bD]at h;obtain⟨t',a,rfl,rfl,rfl⟩:=h;obtain⟨v,B,ht⟩:=BD K a N f hd;exact⟨v,by simpa[Instr.loadAt,Instr.sureAddr]using B,ht,rfl⟩
 |kH o e k off len cap sz ad M=>
  simp only[loadT]at h;cases ha:GV s o e with
  |none=>simp[ha]at h
  |some q=>
   obtain⟨sz',es⟩:=q;obtain⟨fz,C⟩:=IA ha;obtain⟨y,l⟩:=hs.ny C M;simp only[ha,eG,bD]at h;obtain⟨t',a,rfl,rfl,rfl⟩:=h;simp only at l;subst l;have hk:=Rf N.1;have H:(⟨Z ad,len,cap,sz⟩:fE).cap≠0:=by have h1:=y.len;have h2:=y.cap;simp only at h1 h2 ⊢;omega
   obtain⟨b,E,R,I,_,S,_,m⟩:=y.mem H;simp only[bg]at I;subst I;have hex:∀j,∃v,∀c,(D.el es k).cells[j]?=Z c->w.cell? ((⟨b,k*sz,Y⟩:Addr).add j)=Z v∧ek g.bB w c v:=by
    intro j;by_cases A:j<(D.el es k).cells.length
    .obtain ⟨v,B,hd⟩:=m k _ j _ (D.JY hk) (fN A);refine⟨v,λc f=>?_⟩;rw[fN A]at f;rw[<-eO f,nA,cell?_of_block S];exact⟨B,hd⟩
    .exact ⟨undef,λc f=>by rw[GB (by omega)]at f;cases f⟩
   obtain⟨val,r⟩:=SH hex;obtain⟨v,B,ht⟩:=BD K a N.2 (ad:=⟨b,k*sz,Y⟩) (val:=val) (λj c f=>(r j c f).1) (λj c f=>(r j c f).2);refine⟨v,?_,ht,rfl⟩;rw[nA]at B;rw[nA];simpa[Instr.loadAt,Instr.sureAddr]using B
 |_=>simp[loadT]at h
end
section
def setRow_other(w:World)(g b:Nat)(cs:Array Value)(h:b≠g):(w.setRow g cs).heap[b]?=w.heap[b]?:=by unfold World.setRow;rw[Array.getElem?_modify,br (λe=>h e.symm)]
variable {g g':Gh}{s s':St}{w w':World}{o b e fl sz:Nat}{x:fE}{fz:Bool}{es:List D}{ob:Ob}
def bh.lt(hs:bh g s w)(h:g.cj o=Z b):o<s.aJ:=by
 rcases yQ o s.aJ with a|a
 .exact a
 .rw[(hs.ai o a).1]at h;cases h
def bh.lt'(hs:bh g s w)(h:g.arr o e=Z x):o<s.aJ:=by
 rcases yQ o s.aJ with a|a
 .exact a
 .rw[(hs.ai o a).2 e]at h;cases h
def bh.qT(hs:bh g s w)(h:bN g o b):b<w.heap.size∧o<s.aJ:=by
 rcases h.2 with h1|⟨e,x,c,h1,d,a,f⟩
 .exact ⟨(hs.box o b h1).2.1,hs.lt h1⟩
 .exact ⟨a▸(hs.arr o e x h1).1 c d f,hs.lt' h1⟩
def u7.ext{g g':Gh}{s s':St}{w w':World}{fl o b:Nat}(e:Ext fl g w g' w')(f:∀b,g.bB b->b<w.heap.size)(i:w'.heap[b]?=w.heap[b]?)
  (j:s'.ob.get o=s.ob.get o) (a:¬g'.bB b) (h:u7 g s w o b):u7 g' s' w' o b:=by
 obtain⟨_,c,k⟩:=h;refine⟨a,dB c e.size,λob d=>?_⟩;obtain⟨x,h1,h2⟩:=k ob (j▸d);exact⟨x,i.trans h1,h2.ext e f⟩
def vn.ext{g g':Gh}{w w':World}{fl:Nat}{fz:Bool}{sz:Nat}{es:L D}{x:fE}(e:Ext fl g w g' w')(f:∀b,g.bB b->b<w.heap.size)
  (k:∀b,x.a=Z ⟨b,0,Y⟩->x.cap≠0->w'.heap[b]?=w.heap[b]?∧(g'.bB b↔g.bB b)) (h:vn g w fz sz es x):vn g' w' fz sz es x:=
 ⟨h.len,h.cap,h.rows,h.pos,h.YC,h.emp,λa=>by
  obtain⟨b,l,ty,h1,h2,h3,h4,h5⟩:=h.mem a;obtain⟨m,n⟩:=k b h1 a;exact⟨b,l,ty,h1,h2.trans n.symm,m.trans h3,h4,λi d j c o p=>let ⟨v,q,r⟩:=h5 i d j c o p;⟨v,q,r.ext e f⟩⟩⟩
def vn.j4(h:vn g w fz sz es x)(a:g'.bB=g.bB):vn g' w fz sz es x:=
 ⟨h.len,h.cap,h.rows,h.pos,h.YC,h.emp,by rw[a];exact h.mem⟩
def GY.le{m gL:Nat}{hole:O Nat}{hs:L Value}(h:GY g m gL hole hs)(a:∀j y,g.arr m j=Z y->g'.arr m j=Z y):GY g' m gL hole hs:=
 ⟨h.1,λi v b c=>let ⟨y,h1,h2⟩:=h.2 i v b c;⟨y,a _ _ h1,h2⟩⟩
def tC.tr(h:tC g w o e x ob)(c:∀{fz sz es},vn g w fz sz es x->vn g' w' fz sz es x)(q:∀k j y,g.arr k j=Z y->g'.arr k j=Z y)(b:g'.arr o=g.arr o):tC g' w' o e x ob:=by
 rcases h with⟨fz,es,era,h1,h2,h3,h5⟩|⟨s,es,era,m,a,hole,h1,h2,h3,h5⟩|⟨sz,d,a,h1,h2,h3,h5⟩|h
 .exact .inl ⟨fz,es,era,h1,h2,λf h=>by rw[b];exact h3 f h,λh=>c (h5 h)⟩
 .exact .inr (.inl ⟨s,es,era,m,a,hole,h1,h2,λf h=>by rw[b];exact h3 f h,λh=>let ⟨t,l,n,p⟩:=h5 h;⟨t,l,c n,p.le (q m)⟩⟩)
 .exact .inr (.inr (.inl ⟨sz,d,a,h1,λr i h=>by rw[b];exact h2 r i h,by rw[b];exact h3,λi h=>let ⟨l,u,n,p⟩:=h5 i h;⟨l,u,n,c p⟩⟩))
 .exact .inr (.inr (.inr h))
def tC.left{p:T->Bool}{b:Ob}(h:tC g w o e x ob)(hl:qc p ob b)(f:∀{fz sz es},vn g w fz sz es x->vn g' w' fz sz es x)
  (s:∀m j y,p (.sh m 0)=J->g.arr m j=Z y->g'.arr m j=Z y) (d:g'.arr o=g.arr o):tC g' w' o e x b:=by
 rcases h with⟨fz,es,era,rfl,h2,h3,h5⟩|⟨t,es,era,m,a,hole,rfl,h2,h3,h5⟩|⟨sz,c,a,rfl,h2,h3,h5⟩|rfl
 .have:b=fI fz x.sz es era:=by cases fz<;>exact hl.symm
  exact .inl ⟨fz,es,era,this,h2,λk h=>by rw[d];exact h3 k h,λh=>f (h5 h)⟩
 .rcases hl with⟨rfl,u⟩|rfl
  .exact .inr (.inl ⟨t,es,era,m,a,hole,rfl,h2,λk h=>by rw[d];exact h3 k h,λh=>let ⟨v,l,n,q⟩:=h5 h;⟨v,l,f n,q.le (λj y=>s m j y u)⟩⟩)
  .exact .inr (.inr (.inr rfl))
 .have:b=.rws sz c a:=hl.symm;exact .inr (.inr (.inl ⟨sz,c,a,this,λr i h=>by rw[d];exact h2 r i h,by rw[d];exact h3,λi h=>let ⟨l,z,n,q⟩:=h5 i h;⟨l,z,n,f q⟩⟩))
 .have:b=.gone:=hl.symm;exact .inr (.inr (.inr this))
def z6.ext{g g':Gh}{s s':St}{w w':World}{fl o e:Nat}{x:fE}(a:Ext fl g w g' w')(d:∀b,g.bB b->b<w.heap.size)
  (f:∀b,x.a=Z ⟨b,0,Y⟩->x.cap≠0->w'.heap[b]?=w.heap[b]?∧(g'.bB b↔g.bB b))
  (i:s'.ob.get o=s.ob.get o) (l:g'.arr o=g.arr o) (h:z6 g s w o e x):z6 g' s' w' o e x:=by
 refine⟨λm n p=>dB (h.1 m n p) a.size,λob c=>?_⟩;exact(h.2 ob (i▸c)).tr (λh=>h.ext a d f) (λk j y h=>a.arr k j y h) l
def bh.acy(hs:bh g s w)(n:g.cj o=Z b){r:L T}(k:s.ob.get o=Z (.box r))(u:s.fl<=o){cs':L T}{vs':Array Value}(hl:cs'.length=vs'.size)
  (A:∀(j:Nat)(t:T)(v:Value),cs'[j]?=Z t->vs'[j]?=Z v->aM g w t v) :
  bh g {s with ob:=s.ob.set aL o (.box cs')} (w.setRow b vs')∧Ext s.fl g w g (w.setRow b vs'):=by
 have c:bN g o b:=⟨(hs.box o b n).1,.inl n⟩;have m:o<bC:=dB (hs.lt n) hs.aJ;have q:Ext s.fl g w g (w.setRow b vs'):=
  ⟨λ_ _ h=>h,λ_ _ _ h=>h,λ_ h=>h,by simp,λd _ B=>setRow_other w b d vs' (λe=>B o u (e▸c)),
   λ_ _ h=>.inl h,λ_ h=>.inl h,rfl,rfl⟩
 refine⟨⟨hs.aJ,hs.ai,λi d a=>?_,λi e x y=>?_,λd a=>by simpa using hs.bB d a,hs.l9⟩,q⟩
 .by_cases f:i=o
  .subst f;rw[n]at a;simp at a;subst a;obtain⟨h1,h2,h3⟩:=hs.box i b n;obtain⟨C,ty,h4,h5,h6⟩:=(hs.box i b n).box k;refine⟨h1,by simpa using h2,λE l=>⟨_,setRow_heap w b C vs' ty _ h4,?_⟩⟩;simp only[]at l;rw[Tr.aZ _ _ _ _ m,bJ rfl]at l;obtain rfl:=eO l;exact .box _ _ _ hl λj t v F G=>(A j t v F G).ext q hs.bB
  .have z:d≠b:=λe=>f (hs.l9 i o b (e▸⟨(hs.box i d a).1,.inl a⟩) c);exact(hs.box i d a).ext q hs.bB (setRow_other w b d vs' z) (by simp only[];rw[Tr.aZ _ _ _ _ m,br f]) (hs.box i d a).1
 .have f:i≠o:=by
   rintro rfl
   cases((hs.arr i e x y).2 _ k).oR
  refine(hs.arr i e x y).ext q hs.bB (λd a H=>⟨setRow_other w b d vs' ?_,qP⟩) (by simp only[];rw[Tr.aZ _ _ _ _ m,br f]) rfl
  rintro rfl
  by_cases p:g.bB d
  .exact c.1 p
  .exact f (hs.l9 i o d ⟨p,.inr ⟨e,x,_,y,a,rfl,H⟩⟩ c)
def Gh.dh(g:Gh)(o b:Nat):Gh:={g with cj:=λk=>if k=o then Z b else g.cj k}
def ot(w:World)(o:Obj)(b:Nat)(h:b<w.heap.size):(w.alloc o).heap[b]?=w.heap[b]?:=by show(w.heap.push o)[b]?=_;rw[QN,br (by omega)]
def vQ(w:World)(o:Obj):(w.alloc o).heap[w.heap.size]?=Z o:=by show(w.heap.push o)[w.heap.size]?=_;simp
def bh.newObj(hs:bh g s w)(hn:s.aJ<bC){ob0:Ob}{x0:Obj}(u:g6 g w ob0 x0) :
  bh (g.dh s.aJ w.heap.size) (en s ob0).2 (w.alloc x0)∧Ext s.fl g w (g.dh s.aJ w.heap.size) (w.alloc x0):=by
 have c:=hs.ai s.aJ (bQ _);have k:∀o b,g.cj o=Z b->(g.dh s.aJ w.heap.size).cj o=Z b:=λo b h=>by
  have:o≠s.aJ:=λe=>by rw[e,c.1]at h;cases h
  simp[Gh.dh,this,h]
 have d:∀o b,bN (g.dh s.aJ w.heap.size) o b->bN g o b∨(o=s.aJ∧b=w.heap.size):=by
  rintro o b ⟨h1,h2|h2⟩
  .by_cases f:o=s.aJ
   .subst f;simp[Gh.dh]at h2;exact .inr ⟨rfl,h2.symm⟩
   .simp[Gh.dh,f]at h2;exact .inl ⟨h1,.inl h2⟩
  .exact .inl ⟨h1,.inr h2⟩
 have m:Ext s.fl g w (g.dh s.aJ w.heap.size) (w.alloc x0):=
  ⟨k,λ_ _ _ h=>h,λ_ h=>h,by simp,λb i _=>ot w _ b i,
   λo b h=>(d o b h).imp id λh=>by omega,λ_ h=>.inl h,rfl,rfl⟩
 refine⟨⟨by simp only[en];omega,λo f=>?_,λo b i=>?_,λo e x r=>?_,λb i=>?_,λo t b h v=>?_⟩,m⟩
 .simp only[en]at f;have h1:o≠s.aJ:=by omega
  simp only[Gh.dh,h1,eT];exact hs.ai o (by omega)
 .by_cases f:o=s.aJ
  .subst f;have n:b=w.heap.size:=by simp[Gh.dh]at i;exact i.symm
   subst n;refine⟨λp=>?_,by simp,λob j=>⟨_,vQ w _,?_⟩⟩
   .have:=hs.bB _ p;omega
   .simp only[en]at j;rw[Tr.aZ _ _ _ _ hn,bJ rfl]at j;obtain rfl:=eO j;exact u.ext m hs.bB
  .have q:g.cj o=Z b:=by simpa[Gh.dh,f]using i
   have a:=hs.box o b q;exact a.ext m hs.bB (ot w _ b a.2.1) (by simp only[en];rw[Tr.aZ _ _ _ _ hn,br f]) a.1
 .have a:=hs.arr o e x r;have f:o≠s.aJ:=λh=>by have l:g.arr o e=Z x:=r;rw[h,c.2 e]at l;cases l
  refine a.ext m hs.bB (λb i y=>⟨ot w _ b ?_,qP⟩) (by simp only[en];rw[Tr.aZ _ _ _ _ hn,br f]) rfl;exact a.1 _ i y
 .have:=hs.bB b i;simp;omega
 .rcases d o b h with h1|⟨h1,h3⟩<;>rcases d t b v with h2|⟨h2,h4⟩
  .exact hs.l9 o t b h1 h2
  .have:=(hs.qT h1).1;omega
  .have:=(hs.qT h2).1;omega
  .rw[h1,h2]
def bh.dh{g:Gh}{s:St}{w:World}(hs:bh g s w)(hn:s.aJ<bC){cs:L T}{vs:Array Value}(ty:TypeId)(hl:cs.length=vs.size)
  (a:∀(j:Nat)(t:T)(v:Value),cs[j]?=Z t->vs[j]?=Z v->aM g w t v) :
  bh (g.dh s.aJ w.heap.size) (en s (.box cs)).2 (w.alloc (.cells vs ty))∧Ext s.fl g w (g.dh s.aJ w.heap.size) (w.alloc (.cells vs ty)):=
 hs.newObj hn (.box cs vs ty hl a)
end
section
def Gh.era(g:Gh)(o e:Nat)(x:fE):Gh:={g with arr:=λk j=>if k=o∧j=e then Z x else g.arr k j}
def Gh.fG(g:Gh)(o e:Nat)(x:fE):(g.era o e x).arr o e=Z x:=by simp[Gh.era]
def Gh.cu(g:Gh)(o e k j:Nat)(x:fE)(h:¬(k=o∧j=e)):(g.era o e x).arr k j=g.arr k j:=by simp[Gh.era,h]
variable {g:Gh}{s:St}{w w':World}{o e sz:Nat}{es es':List D}{x:fE}
def bh.aon(hs:bh g s w){x':fE}(ho:s.ob.get o=Z (.arr sz es e))(G:g.arr o e=Z x)
  (hfl:s.fl<=o) (hos:w'.os=w.os) (H:w'.output=w.output) (f:w.heap.size<=w'.heap.size)
  (i:∀b,b<w.heap.size->¬x.at b->w'.heap[b]?=w.heap[b]?)
  (I:∀b,x'.at b->b<w'.heap.size∧(w.heap.size<=b∨x.at b))
  (hok:vn (g.era o (e+1) x') w' J sz es' x') (K:x'.sz=sz) :
  bh (g.era o (e+1) x') {s with ob:=s.ob.set aL o (.arr sz es' (e+1))} w'∧Ext s.fl g w (g.era o (e+1) x') w':=by
 have v:o<bC:=dB (hs.lt' G) hs.aJ;obtain⟨M,agM⟩:=hs.ny (fz:=J) ho G;have l:∀E,e<E->g.arr o E=Y:=by obtain⟨fz,B,era,h1,_,h3,_⟩:=(hs.arr o e x G).old _ ho rfl;have C:fI J sz es e=fI fz x.sz B era:=h1;obtain⟨_,_,_,rfl⟩:=jW C;exact h3
 have r:∀b,x.at b->¬g.bB b:=by
  rintro b ⟨u,h1,rfl,h3⟩ z
  obtain⟨b',_,_,k1,k2,_⟩:=M.mem h3;rw[h1]at k1;simp only[bg]at k1;subst k1;exact Bool.noConfusion (k2.2 z)
 have c:∀b,x.at b->bN g o b:=λb q=>by obtain⟨u,h1,h2,h3⟩:=q;exact⟨r b ⟨u,h1,h2,h3⟩,.inr ⟨e,x,u,G,h1,h2,h3⟩⟩
 have N:∀k j y,g.arr k j=Z y->(g.era o (e+1) x').arr k j=Z y:=λk j y h=>by
  rw[Gh.cu]
  .exact h
  .rintro ⟨rfl,rfl⟩
   rw[l _ (by omega)]at h;cases h
 have P:∀k b,bN (g.era o (e+1) x') k b->bN g k b∨(k=o∧x'.at b):=by
  rintro k b ⟨h1,h2|⟨j,y,u,h2,h3,h4,h5⟩⟩
  .exact .inl ⟨h1,.inl h2⟩
  .by_cases R:k=o∧j=e+1
   .obtain ⟨rfl,rfl⟩:=R;rw[Gh.fG]at h2;simp only[bg]at h2;subst h2;exact .inr ⟨rfl,u,h3,h4,h5⟩
   .rw[Gh.cu _ _ _ _ _ _ R]at h2;exact .inl ⟨h1,.inr ⟨j,y,u,h2,h3,h4,h5⟩⟩
 have m:∀k b,bN (g.era o (e+1) x') k b->bN g k b∨(k=o∧w.heap.size<=b):=λk b h=>by
  rcases P k b h with h1|⟨h0,h1⟩
  .exact .inl h1
  .rcases (I b h1).2 with h2|h2
   .exact .inr ⟨h0,h2⟩
   .exact .inl (h0▸c b h2)
 have he:Ext s.fl g w (g.era o (e+1) x') w':=
  ⟨λ_ _ h=>h,N,λ_ h=>h,f,λb q hn=>i b q λp=>hn o hfl (c b p),λk b h=>(m k b h).imp id (·.2),λ_ h=>.inl h,hos,H⟩
 refine⟨⟨hs.aJ,λk hk=>⟨(hs.ai k hk).1,λj=>?_⟩,λk b q=>?_,λk j y S=>?_,λb q=>dB (hs.bB b q) f,λk k' b h h'=>?_⟩,he⟩
 .rw[Gh.cu]
  .exact (hs.ai k hk).2 j
  .rintro ⟨rfl,_⟩
   have:=hs.lt' G;simp only at hk;omega
 .have d:k≠o:=by
   rintro rfl
   exact(hs.box k b q).Eg J ho
  have n:=hs.box k b q;refine n.ext he hs.bB (i b n.2.1 λp=>d (hs.l9 k o b ⟨n.1,.inl q⟩ (c b p))) (by simp only[];rw[Tr.aZ _ _ _ _ v,br d]) n.1
 .by_cases d:k=o
  .subst d;by_cases hj:j=e+1
   .subst hj;rw[Gh.fG]at S;simp only[bg]at S;subst S;refine⟨λu ha F=>(I _ ⟨u,ha,rfl,F⟩).1,λob a=>.inl ⟨J,es',e+1,?_,bQ _,λE h=>?_,λ_=>K▸hok⟩⟩
    .simp only[]at a;rw[Tr.aZ _ _ _ _ v,bJ rfl]at a;rw[<-eO a];simp only[fI,K];rfl
    .rw[Gh.cu _ _ _ _ _ _ (by omega)];exact l E (by omega)
   .have t:g.arr k j=Z y:=by rwa [Gh.cu _ _ _ _ _ _ (by omega)]at S
    have h4:=(hs.arr k j y t).1;obtain⟨fz,B,era,h1,h2,h3,_⟩:=(hs.arr k j y t).old _ ho rfl;have C:fI J sz es e=fI fz y.sz B era:=h1;obtain⟨_,X,_,rfl⟩:=jW C;refine⟨λu ha F=>dB (h4 u ha F) f,λob a=>.inl ⟨J,es',e+1,?_,by omega,λE h=>?_,λh=>by omega⟩⟩
    .simp only[]at a;rw[Tr.aZ _ _ _ _ v,bJ rfl]at a;rw[<-eO a];simp only[fI,<-X];rfl
    .rw[Gh.cu _ _ _ _ _ _ (by omega)];exact l E (by omega)
  .have t:g.arr k j=Z y:=by rwa [Gh.cu _ _ _ _ _ _ (λh=>d h.1)]at S
   have A:=hs.arr k j y t;refine A.ext he hs.bB (λb q F=>⟨?_,qP⟩) (by simp only[];rw[Tr.aZ _ _ _ _ v,br d]) (funext λj=>Gh.cu _ _ _ _ _ _ (λh=>d h.1));refine i b (A.1 _ q F) λp=>?_;by_cases z:g.bB b
   .exact r b p z
   .exact d (hs.l9 k o b ⟨z,.inr ⟨j,y,_,t,q,rfl,F⟩⟩ (c b p))
 .rcases m k b h with h1|⟨h1,h3⟩<;>rcases m k' b h' with h2|⟨h2,h4⟩
  .exact hs.l9 k k' b h1 h2
  .have:=(hs.qT h1).1;omega
  .have:=(hs.qT h2).1;omega
  .rw[h1,h2]
def bh.Oy(hs:bh g s w)(hn:s.aJ<bC)
  (z:w'.os=w.os) (r:w'.output=w.output) (d:w.heap.size<=w'.heap.size)
  (c:∀b,b<w.heap.size->w'.heap[b]?=w.heap[b]?) (E:∀b,x.at b->w.heap.size<=b∧b<w'.heap.size)
  (A:vn (g.era s.aJ 0 x) w' J sz es x) (t:x.sz=sz) :
  bh (g.era s.aJ 0 x) (en s (.arr sz es 0)).2 w'∧Ext s.fl g w (g.era s.aJ 0 x) w':=by
 have a:=hs.ai s.aJ (bQ _);have u:∀k j y,g.arr k j=Z y->(g.era s.aJ 0 x).arr k j=Z y:=λk j y h=>by
  rw[Gh.cu]
  .exact h
  .rintro ⟨rfl,_⟩
   rw[a.2]at h;cases h
 have e:∀k b,bN (g.era s.aJ 0 x) k b->bN g k b∨(k=s.aJ∧w.heap.size<=b):=by
  rintro k b ⟨h1,h2|⟨j,y,v,h2,h3,h4,h5⟩⟩
  .exact .inl ⟨h1,.inl h2⟩
  .by_cases f:k=s.aJ∧j=0
   .obtain ⟨rfl,rfl⟩:=f;rw[Gh.fG]at h2;simp only[bg]at h2;subst h2;exact .inr ⟨rfl,(E b ⟨v,h3,h4,h5⟩).1⟩
   .rw[Gh.cu _ _ _ _ _ _ f]at h2;exact .inl ⟨h1,.inr ⟨j,y,v,h2,h3,h4,h5⟩⟩
 have B:Ext s.fl g w (g.era s.aJ 0 x) w':=
  ⟨λ_ _ h=>h,u,λ_ h=>h,d,λb o _=>c b o,λk b h=>(e k b h).imp id (·.2),λ_ h=>.inl h,z,r⟩
 refine⟨⟨by simp only[en];omega,λk G=>?_,λk b o=>?_,λk j y p=>?_,λb o=>dB (hs.bB b o) d,λk F b h H=>?_⟩,B⟩
 .simp only[en]at G;refine⟨(hs.ai k (by omega)).1,λj=>?_⟩;rw[Gh.cu _ _ _ _ _ _ (by omega)];exact(hs.ai k (by omega)).2 j
 .have q:g.cj k=Z b:=o;have i:=hs.box k b q;have m:k≠s.aJ:=λh=>by rw[h,a.1]at q;cases q
  exact i.ext B hs.bB (c b i.2.1) (by simp only[en];rw[Tr.aZ _ _ _ _ hn,br m]) i.1
 .by_cases f:k=s.aJ∧j=0
  .obtain ⟨rfl,rfl⟩:=f;rw[Gh.fG]at p;simp only[bg]at p;subst p;refine⟨λv I C=>(E _ ⟨v,I,rfl,C⟩).2,λob l=>.inl ⟨J,es,0,?_,bQ _,λK h=>?_,λ_=>t▸A⟩⟩
   .simp only[en]at l;rw[Tr.aZ _ _ _ _ hn,bJ rfl]at l;rw[<-eO l];simp only[fI,t];rfl
   .rw[Gh.cu _ _ _ _ _ _ (by omega)];exact a.2 K
  .rw[Gh.cu _ _ _ _ _ _ f]at p;have m:k≠s.aJ:=λh=>by rw[h,a.2]at p;cases p
   have n:=hs.arr k j y p;refine n.ext B hs.bB (λb o C=>⟨?_,qP⟩) (by simp only[en];rw[Tr.aZ _ _ _ _ hn,br m]) (funext λj=>Gh.cu _ _ _ _ _ _ (λh=>m h.1));exact c b (n.1 _ o C)
 .rcases e k b h with h1|⟨h1,h3⟩<;>rcases e F b H with h2|⟨h2,h4⟩
  .exact hs.l9 k F b h1 h2
  .have:=(hs.qT h1).1;omega
  .have:=(hs.qT h2).1;omega
  .rw[h1,h2]
def bh.acE(hs:bh g s w){b:Nat}(B:s.ob.get o=Z (.arr sz es e))(v:g.arr o e=Z x)
  (C:s.fl<=o) (P:x.at b) {vs':Array Value} (E:vn g (w.setRow b vs') J sz es' x) :
  bh g {s with ob:=s.ob.set aL o (.arr sz es' e)} (w.setRow b vs')∧Ext s.fl g w g (w.setRow b vs'):=by
 have n:o<bC:=dB (hs.lt' v) hs.aJ;obtain⟨r,R⟩:=hs.ny (fz:=J) B v;have d:¬g.bB b:=by obtain⟨z,h1,rfl,h3⟩:=P;intro F;obtain⟨A,_,_,G,S,_⟩:=r.mem h3;rw[h1]at G;simp only[bg]at G;subst G;exact Bool.noConfusion (S.2 F)
 have f:bN g o b:=by obtain⟨z,h1,h2,h3⟩:=P;exact⟨d,.inr ⟨e,x,z,v,h1,h2,h3⟩⟩
 have H:Ext s.fl g w g (w.setRow b vs'):=
  ⟨λ_ _ h=>h,λ_ _ _ h=>h,λ_ h=>h,by simp,λA _ X=>setRow_other w b A vs' (λe=>X o C (e▸f)),
   λ_ _ h=>.inl h,λ_ h=>.inl h,rfl,rfl⟩
 refine⟨⟨hs.aJ,hs.ai,λk c p=>?_,λk j y q=>?_,λA I=>by simpa using hs.bB A I,hs.l9⟩,H⟩
 .have a:k≠o:=by
   rintro rfl
   exact(hs.box k c p).Eg J B
  have i:=hs.box k c p;exact i.ext H hs.bB (setRow_other w b c vs' λe=>a (hs.l9 k o c ⟨i.1,.inl p⟩ (e▸f))) (by simp only[];rw[Tr.aZ _ _ _ _ n,br a]) i.1
 .by_cases a:k=o
  .subst a;have h4:=(hs.arr k j y q).1;obtain⟨fz,K,era,h1,h2,h3,_⟩:=(hs.arr k j y q).old _ B rfl;have M:fI J sz es e=fI fz y.sz K era:=h1;obtain⟨_,m,_,rfl⟩:=jW M;refine⟨λz ha p=>by simpa using h4 z ha p,λob l=>.inl ⟨J,es',e,?_,h2,h3,λN=>?_⟩⟩
   .simp only[]at l;rw[Tr.aZ _ _ _ _ n,bJ rfl]at l;rw[<-eO l];simp only[fI,<-m];rfl
   .subst N;rw[v]at q;simp only[bg]at q;subst q;exact m▸E
  .have t:=hs.arr k j y q;refine t.ext H hs.bB (λc p u=>⟨setRow_other w b c vs' ?_,qP⟩) (by simp only[];rw[Tr.aZ _ _ _ _ n,br a]) rfl
   rintro rfl
   exact a (hs.l9 k o c ⟨d,.inr ⟨j,y,_,q,p,rfl,u⟩⟩ f)
def Gh.j8(g:Gh)(P:Nat->Prop):Gh:={g with bB:=λb=>g.bB b∨P b}
def bh.aai(hs:bh g s w)(M:s.ob.get o=Z (.arr sz es e))(I:g.arr o e=Z x)
  (N:s.fl<=o) :
  bh (g.j8 x.at) {s with ob:=s.ob.set aL o (.j8 sz es e)} w∧Ext s.fl g w (g.j8 x.at) w:=by
 have u:o<bC:=dB (hs.lt' I) hs.aJ;obtain⟨a,agM⟩:=hs.ny (fz:=J) M I;have z:∀b,x.at b->¬g.bB b:=by
  rintro b ⟨P,h1,rfl,h3⟩ m
  obtain⟨b',_,_,E,k2,_⟩:=a.mem h3;rw[h1]at E;simp only[bg]at E;subst E;exact Bool.noConfusion (k2.2 m)
 have f:∀b,x.at b->bN g o b:=λb A=>by obtain⟨P,h1,h2,h3⟩:=A;exact⟨z b ⟨P,h1,h2,h3⟩,.inr ⟨e,x,P,I,h1,h2,h3⟩⟩
 have p:∀k b,bN (g.j8 x.at) k b->bN g k b∧¬x.at b:=λk b h=>⟨⟨λR=>h.1 (.inl R),h.2⟩,λR=>h.1 (.inr R)⟩;have K:Ext s.fl g w (g.j8 x.at) w:=
  ⟨λ_ _ h=>h,λ_ _ _ h=>h,λ_ h=>.inl h,bQ _,λ_ _ _=>rfl,λk b h=>.inl (p k b h).1,
   λb h=>h.imp id λh=>.inr ⟨o,N,f b h⟩,rfl,rfl⟩
 refine⟨⟨hs.aJ,hs.ai,λk c t=>?_,λk j y F=>?_,λb A=>?_,λk k' b h h'=>hs.l9 k k' b (p k b h).1 (p k' b h').1⟩,K⟩
 .have n:k≠o:=by
   rintro rfl
   exact(hs.box k c t).Eg J M
  have q:=hs.box k c t;refine q.ext K hs.bB rfl (by simp only[];rw[Tr.aZ _ _ _ _ u,br n]) ?_
  rintro(m|B)
  .exact q.1 m
  .exact n (hs.l9 k o c ⟨q.1,.inl t⟩ (f c B))
 .by_cases n:k=o
  .subst n;have h4:=(hs.arr k j y F).1;obtain⟨fz,S,era,h1,h2,h3,_⟩:=(hs.arr k j y F).old _ M rfl;have X:fI J sz es e=fI fz y.sz S era:=h1;obtain⟨_,l,_,rfl⟩:=jW X;refine⟨h4,λob r=>.inl ⟨W,es,e,?_,h2,h3,λhje=>?_⟩⟩
   .simp only[]at r;rw[Tr.aZ _ _ _ _ u,bJ rfl]at r;rw[<-eO r];simp only[fI,<-l];rfl
   .subst hje;have C:g.arr k j=Z y:=F;rw[I]at C;simp only[bg]at C;subst C;refine⟨a.len,a.cap,λd hd=>l▸a.rows d hd,l▸a.pos,a.YC,a.emp,λt=>?_⟩;obtain⟨b,vs,ty,E,_,k3,k4,k5⟩:=a.mem t;exact⟨b,vs,ty,E,⟨λ_=>.inr ⟨_,E,rfl,t⟩,λ_=>rfl⟩,k3,l▸k4,λi d j c hd hj=>let ⟨v,hv,hr⟩:=k5 i d j c hd hj;⟨v,l▸hv,hr.ext K hs.bB⟩⟩
  .have G:=hs.arr k j y F;refine G.ext K hs.bB (λc t H=>⟨rfl,⟨λh=>h.elim id λB=>?_,.inl⟩⟩) (by simp only[];rw[Tr.aZ _ _ _ _ u,br n]) rfl;by_cases m:g.bB c
   .exact m
   .exact absurd (hs.l9 k o c ⟨m,.inr ⟨j,y,_,F,t,rfl,H⟩⟩ (f c B)) n
 .rcases A with A|A
  .exact hs.bB b A
  .exact (hs.qT (f b A)).1
end
section
def qi:∀{r b i a:Nat},rc r i=rc b a->r=b∧i=a
 |0,0,i,a,h=>by simp[rc]at h;exact⟨rfl,by omega⟩
 |0,b+1,i,a,h=>by simp only[rc,Nat.pow_zero,tZ,Nat.pow_succ,xw _ 2,Lw]at h;omega
 |r+1,0,i,a,h=>by simp only[rc,Nat.pow_zero,tZ,Nat.pow_succ,xw _ 2,Lw]at h;omega
 |r+1,b+1,i,a,h=>by
  have:rc r i=rc b a:=by simp only[rc,Nat.pow_succ,xw _ 2,Lw]at h ⊢;exact Nat.eq_of_mul_eq_mul_left (by omega:0<2) h
  have:=qi this;exact⟨by omega,this.2⟩
variable {g:Gh}{s:St}{w:World}{o e nj sz era m gL r i j szr k:Nat}{es:List D}{hole:Option Nat}{x y:fE}{hl:List Value}{ig:List (List D)}{fz:Bool}{I:Nat->Prop}{d:D}{ys:List fE}
def bh.WB{s':St}(hs:bh g s w)(hn:s'.aJ=s.aJ)(c:∀o,s'.ob.get o=s.ob.get o):bh g s' w:=
 ⟨hn▸hs.aJ,λo h=>hs.ai o (hn▸h),λo b h=>let ⟨h1,h2,h3⟩:=hs.box o b h;⟨h1,h2,λob a=>h3 ob (c o▸a)⟩,λo e x h=>let ⟨h1,h2⟩:=hs.arr o e x h;⟨h1,λob a=>h2 ob (c o▸a)⟩,hs.bB,hs.l9⟩
def bh.y6(hs:bh g s w){ob:Ob}(a:s.ob.get o=Z ob)(c:ob.oR=W):g.cj o=Y:=by cases h:g.cj o with|none=>rfl|some b=>obtain⟨x,_,h2⟩:=(hs.box o b h).2.2 ob a;have:=h2.Eg;rw[c]at this;cases this
def bh.Ar(hs:bh g s w)(f:s.ob.get o=Z (.kB nj sz es era m gL hole))(i:g.arr o e=Z x) :
  x.sz=sz∧e<=era∧(∀c,era<c->g.arr o c=Y)∧(e=era->∃hl,hl.length=es.length∧vn g w J sz (lits nj es hl) x∧GY g m gL hole hl):=by
 rcases(hs.arr o e x i).2 _ f with⟨fz,_,_,h,_⟩|⟨j,k,d,l,a,b,h,h2,h3,h4⟩|⟨_,_,_,h,_⟩|h
 .cases fz<;>cases h
 .cases h;exact⟨rfl,h2,h3,h4⟩
 .cases h
 .cases h
def bh.view(hs:bh g s w)(h:s.ob.get o=Z (.kB nj sz es era m gL hole))(i:g.arr o era=Z x) :
  ∃hl,hl.length=es.length∧vn g w J sz (lits nj es hl) x∧GY g m gL hole hl∧bh g {s with ob:=s.ob.set aL o (.arr sz (lits nj es hl) era)} w:=by
 have d:o<bC:=dB (hs.lt' i) hs.aJ;obtain⟨_,_,_,h4⟩:=hs.Ar h i;obtain⟨hl,h5,h6,r⟩:=h4 rfl;have j:=hs.y6 h rfl;refine⟨hl,h5,h6,r,hs.aJ,hs.ai,λk b l=>?_,λk e y f=>?_,hs.bB,hs.l9⟩
 .have c:k≠o:=by rintro rfl;rw[j]at l;cases l
  obtain⟨n,p,t⟩:=hs.box k b l;refine⟨n,p,λob a=>t ob ?_⟩;simp only[]at a;rwa [Tr.aZ _ _ _ _ d,br c]at a
 .obtain ⟨n,p⟩:=hs.arr k e y f;refine⟨n,λob a=>?_⟩;simp only[]at a;rw[Tr.aZ _ _ _ _ d]at a;by_cases c:k=o
  .subst c;rw[bJ rfl]at a;obtain rfl:=eO a;obtain⟨q,u,v,_⟩:=hs.Ar h f;refine .inl ⟨J,lits nj es hl,era,by rw[q];rfl,u,v,λz=>?_⟩;subst z;rw[i]at f;cases f;rw[q];exact h6
  .rw[br c]at a;exact p ob a
def bh.UB(hs:bh g s w)(d:o<bC)(t:s.ob.get o=Z (.arr sz (lits nj es hl) era))(f:hl.length=es.length)
  (v:GY g m gL hole hl):bh g {s with ob:=s.ob.set aL o (.kB nj sz es era m gL hole)} w:=by
 have i:=hs.y6 t rfl;refine⟨hs.aJ,hs.ai,λk b j=>?_,λk e y u=>?_,hs.bB,hs.l9⟩
 .have c:k≠o:=by rintro rfl;rw[i]at j;cases j
  obtain⟨l,n,x⟩:=hs.box k b j;refine⟨l,n,λob a=>x ob ?_⟩;simp only[]at a;rwa [Tr.aZ _ _ _ _ d,br c]at a
 .obtain ⟨l,n⟩:=hs.arr k e y u;refine⟨l,λob a=>?_⟩;simp only[]at a;rw[Tr.aZ _ _ _ _ d]at a;by_cases c:k=o
  .subst c;rw[bJ rfl]at a;obtain rfl:=eO a;obtain⟨fz,p,h,h1,h2,h3,h4⟩:=(hs.arr k e y u).old _ t rfl;have q:fI J sz (lits nj es hl) era=fI fz y.sz p h:=h1;obtain⟨rfl,r,rfl,rfl⟩:=jW q;exact .inr (.inl ⟨nj,es,era,m,gL,hole,by rw[r],h2,h3,λz=>⟨hl,f,h4 z,v⟩⟩)
  .rw[br c]at a;exact n ob a
def bh.oE(hs:bh g s w)(k:s.ob.get m=Z (.rws sz ig r))(l:g.arr m e=Z y) :
  (∀a i,r<a->g.arr m (rc a i)=Y)∧(∀i c y d,i≠c->g.arr m (rc r i)=Z y->g.arr m (rc r c)=Z d->∀b,y.at b->¬d.at b)∧
   (∀i,e=rc r i->y.sz=sz∧∃f,ig[i]?=Z f∧vn g w J sz f y):=by
 rcases(hs.arr m e y l).2 _ k with⟨fz,_,_,h,_⟩|⟨_,_,_,_,_,_,h,_⟩|⟨n,j,a,h,h2,h3,h4⟩|h
 .cases fz<;>cases h
 .cases h
 .cases h;exact⟨h2,h3,h4⟩
 .cases h
def vn.at_(h:vn g w fz sz es x){b:Nat}(c:x.at b):(fz=W↔g.bB b)∧∃vs ty,x.a=Z ⟨b,0,Y⟩∧w.heap[b]?=Z (.cells vs ty (0,0)):=by obtain⟨f,h1,h2,h3⟩:=c;obtain⟨i,vs,ty,a,d,e,_⟩:=h.mem h3;rw[a]at h1;cases h1;simp only at h2;subst h2;exact⟨d,vs,ty,a,e⟩
def vn.TS(a:vn g w fz sz es x)(o:∀b,g.bB b->I b)(p:∀b,x.at b->I b):ek I w (.sl es) (.slice x.a x.len x.cap):=by
 rw[a.len];by_cases f:x.cap=0
 .have r:es=[]:=by have h1:=a.len;have h2:=a.cap;exact tH (by omega)
  subst r;exact .sl [] x.a x.cap sz (λ_ _=>undef) (by simp) (by simp) (by simp) (λh=>absurd rfl h) (λi j d c h=>by simp at h)
 .obtain ⟨b,s,ty,h1,h2,h3,h4,h5⟩:=a.mem f;have n:∀q:Nat×Nat,∃v,∀d c,es[q.1]?=Z d->d.cells[q.2]?=Z c->s[q.1*sz+q.2]?=Z v∧ek I w c v:=by
   rintro⟨i,j⟩
   by_cases m:i<es.length
   .by_cases l:j<(es[i]).cells.length
    .obtain ⟨v,t,u⟩:=h5 i _ j _ (fN m) (fN l);refine⟨v,λd c e f=>?_⟩;rw[fN m]at e;simp only[bg]at e;subst e;rw[fN l]at f;simp only[bg]at f;subst f;exact⟨t,u.mono (λ_ _=>rfl) o⟩
    .refine ⟨undef,λd c e f=>?_⟩;rw[fN m]at e;simp only[bg]at e;subst e;exact absurd (aF f) l
   .exact ⟨undef,λd c e _=>absurd (aF e) m⟩
  obtain⟨val,k⟩:=SH n;refine .sl es x.a x.cap sz (λi j=>val (i,j)) (by have:=a.len;have:=a.cap;omega) a.rows a.YC (λ_=>⟨_,h1,p b ⟨_,h1,rfl,f⟩,λi j d c e l=>?_⟩) (λi j d c e l=>(k (i,j) d c e l).2);rw[nA,cell?_of_block h3];simpa using(k (i,j) d c e l).1
def yA(l:L D):D.mS l=(l.map D.lby).sum:=by
 induction l with|nil=>rfl|cons a l b=>simp only[D.mS,lT,List.sum_cons,<-b];rfl
def Hs{α:Type}{l:L α}{a:α}(h:l[i]?=Z a):l.set i a=l:=by
 apply LH;intro k;rw[DL];split
 .rename_i e;subst e;rw[h,bJ (tG.1 h).1]
 .rfl
def VS(a:hl.length=es.length)(h:es[i]?=Z d):∃v,hl[i]?=Z v∧(lits nj es hl)[i]?=Z (iS nj d v):=by have b:=aF h;refine⟨hl[i]'(by omega),fN _,?_⟩;simp[lits,Jn,h,fN (by omega:i<hl.length)]
def lH(a:hl.length=es.length):(lits nj es hl).length=es.length:=by simp[lits];omega
def zk(nj:Nat)(d:D)(b:L D)(a:O Addr)(n m:Nat):(zl nj d b).qD=(iS nj d (.slice a n m)).qD:=by show D.mS _=D.mS _;rw[yA,yA,Hy,Hy];rfl
def zG{c a:O Addr}(o:d.cells[j]?=Z (.sl []))(A:ek I w (.sl [iS j d (.slice c 0 0)]) (.slice a 1 1)):ek I w (.sl [d]) (.slice a 1 1):=by
 have m:=aF o;generalize E:(Value.slice a 1 1)=v at A;cases A with
 |sl es N cap sz val B q r F G=>
 cases E;have hl:(iS j d (.slice c 0 0)).cells=d.cells.set j (.lit (.slice c 0 0)):=rfl;have b:∀(k:Nat)(x:D),d.cells[k]?=Z x->∃l,(iS j d (.slice c 0 0)).cells[k]?=Z l∧∀u,ek I w l u->ek I w x u:=λk x f=>by
  by_cases C:k=j
  .subst C;rw[o]at f;cases f;refine⟨.lit (.slice c 0 0),by rw[hl,Lu m],λu s=>?_⟩;cases s;exact .sl [] c 0 0 (λ_ _=>undef) (by simp) (by simp) (by simp) (λh=>absurd rfl h) (λi j d c h=>by simp at h)
  .exact ⟨x,by rw[hl,Lt (λe=>C e.symm)];exact f,λu s=>s⟩
 have n:d.qD=(iS j d (.slice c 0 0)).qD:=by
  cases d with
  |agg p=>
   show D.mS p=D.mS (p.set j (.lit (.slice c 0 0)));rw[yA,yA,Hy];have:(p.map D.lby)[j]?=Z 24:=by rw[gM];have t:p[j]?=Z (.sl []):=o;rw[t];rfl
   have z:(D.lit (Value.slice c 0 0)).lby=24:=rfl;rw[z,Hs this]
  |_=>
   have H:j=0:=by have:j<1:=m;omega
   subst H;cases o<;>rfl
 refine .sl [d] a 1 sz val (by simp) (λx f=>?_) (λx f=>?_) (λ_=>?_) (λi k x y h1 h2=>?_)
 .rw[lg.1 f,<-q _ (lg.2 rfl),hl,Ak]
 .rw[lg.1 f,n];exact r _ (lg.2 rfl)
 .obtain ⟨K,h1,h2,h3⟩:=F (by simp);refine⟨K,h1,h2,λi k x y h1 h2=>?_⟩;cases i with
  |zero=>simp only[qO,bg]at h1;subst h1;obtain⟨l,g,_⟩:=b k y h2;exact h3 0 k _ l rfl g
  |succ i=>simp at h1
 .cases i with
  |zero=>simp only[qO,bg]at h1;subst h1;obtain⟨l,g,M⟩:=b k y h2;exact M _ (G 0 k _ l rfl g)
  |succ i=>simp at h1
def bh.Tz(hs:bh g s w)(ho:s.ob.get o=Z (.kB nj sz es era m r Y))(hm:s.ob.get m=Z (.rws szr ig r))
  (hmN:m<bC) (hx:g.arr o era=Z x) (hfl:s.fl<=o) (adH:s.fl<=m) :
  ∃g',bh g' {s with ob:=(s.ob.set aL m .gone).set aL o (.j8 sz (iZ nj es ig) era)} w∧Ext s.fl g w g' w:=by
 have OW:o<bC:=dB (hs.lt' hx) hs.aJ;have hom:o≠m:=by rintro rfl;rw[ho]at hm;cases hm
 obtain⟨agM,_,hnx,h4⟩:=hs.Ar ho hx;obtain⟨hl,B,p,hL⟩:=h4 rfl
 let R:Nat->Prop:=λb=>x.at b∨∃i y,g.arr m (rc r i)=Z y∧y.at b
 have F:∀b,R b->∃k,s.fl<=k∧(k=o∨k=m)∧bN g k b:=by
  rintro b (hb|⟨i,y,hy,hb⟩)
  .have h1:=(p.at_ hb).1;obtain⟨ad,k1,k2,k3⟩:=hb;exact⟨o,hfl,.inl rfl,λq=>Bool.noConfusion (h1.2 q),.inr ⟨era,x,ad,hx,k1,k2,k3⟩⟩
  .obtain ⟨_,t,_,hr⟩:=(hs.oE hm hy).2.2 i rfl;have h1:=(hr.at_ hb).1;obtain⟨ad,k1,k2,k3⟩:=hb;exact⟨m,adH,.inr rfl,λq=>Bool.noConfusion (h1.2 q),.inr ⟨_,y,ad,hy,k1,k2,k3⟩⟩
 have abq:∀b,R b->¬g.bB b:=λb hb=>let ⟨_,_,_,hO⟩:=F b hb;hO.1;have G:∀k b,bN (g.j8 R) k b->bN g k b∧¬R b:=λk b h=>⟨⟨λX=>h.1 (.inl X),h.2⟩,λX=>h.1 (.inr X)⟩;have he:Ext s.fl g w (g.j8 R) w:=
  ⟨λ_ _ h=>h,λ_ _ _ h=>h,λ_ h=>.inl h,bQ _,λ_ _ _=>rfl,λk b h=>.inl (G k b h).1,
   λb h=>h.imp id λh=>.inr (let ⟨k,h1,_,h3⟩:=F b h;⟨k,h1,h3⟩),rfl,rfl⟩
 have cJ:∀k,((s.ob.set aL m .gone).set aL o (.j8 sz (iZ nj es ig) era)).get k=if k=o then Z (.j8 sz (iZ nj es ig) era)else if k=m then Z .gone else s.ob.get k:=λk=>by rw[Tr.aZ _ _ _ _ OW,Tr.aZ _ _ _ _ hmN]
 have adx:=hs.y6 ho rfl;have adz:=hs.y6 hm rfl;refine⟨g.j8 R,⟨hs.aJ,hs.ai,λk c P=>?_,λk j y hy=>?_,λb hb=>?_,λk k' b h h'=>hs.l9 k k' b (G k b h).1 (G k' b h').1⟩,he⟩
 .have N:g.cj k=Z c:=P;have u:k≠o:=by rintro rfl;rw[adx]at N;cases N
  have E:k≠m:=by rintro rfl;rw[adz]at N;cases N
  have H:=hs.box k c P;refine H.ext he hs.bB rfl (by simp only[];rw[cJ,br u,br E]) ?_
  rintro(q|CV)
  .exact H.1 q
  .obtain ⟨k',_,h1,h2⟩:=F c CV;have:=hs.l9 k k' c ⟨H.1,.inl P⟩ h2;subst this;exact h1.elim u E
 .have z:g.arr k j=Z y:=hy;by_cases u:k=o
  .subst u;obtain⟨q1,q2,_,_⟩:=hs.Ar ho z;refine⟨(hs.arr k j y z).1,λob l=>?_⟩;simp only[]at l;rw[cJ,bJ rfl]at l;obtain rfl:=eO l;refine .inl ⟨W,iZ nj es ig,era,by rw[q1];rfl,q2,hnx,λhje=>?_⟩;subst hje;rw[hx]at z;cases z;rw[q1];have C:∀(i:Nat)(d:D),es[i]?=Z d->∃(t:L D)(n:fE),ig[i]?=Z t∧hl[i]?=Z (Value.slice n.a n.len n.cap)∧(lits nj es hl)[i]?=Z (iS nj d (.slice n.a n.len n.cap))∧ek (g.j8 R).bB w (.sl t) (.slice n.a n.len n.cap):=by intro i d hd;obtain⟨v,hv,a⟩:=VS (nj:=nj) B hd;obtain⟨n,hyy,rfl⟩:=hL.2 i v hv (by simp);obtain⟨_,t,hrs,hra⟩:=(hs.oE hm hyy).2.2 i rfl;exact⟨t,n,hrs,hv,a,hra.TS (λ_ h=>.inl h) (λb hb=>.inr (.inr ⟨i,n,hyy,hb⟩))⟩
   have I:(iZ nj es ig).length=es.length:=by
    rw[iZ,List.length_zipWith];rcases yQ ig.length es.length with h|h
    .obtain ⟨t,_,hrs,_⟩:=C ig.length _ (fN h);have:=aF hrs;omega
    .omega
   have A:∀(i:Nat)(f:D),(iZ nj es ig)[i]?=Z f->∃d t,es[i]?=Z d∧ig[i]?=Z t∧f=zl nj d t:=by
    intro i f M;rw[iZ,Jn]at M;split at M
    .rename_i d t h1 h2;exact⟨d,t,h1,h2,(eO M).symm⟩
    .cases M
   refine⟨by rw[I];have:=p.len;rw[lH B]at this;exact this,p.cap,λf M=>?_,p.pos,λf M=>?_,λh=>?_,λP=>?_⟩
   .obtain ⟨i,X⟩:=HI M;obtain⟨d,t,h1,h2,rfl⟩:=A i f X;obtain⟨_,_,_,_,a,_⟩:=C i d h1;have:=p.rows _ (g8 a);simp only[iS,zl,D.cells,Ak]at this ⊢;exact this
   .obtain ⟨i,X⟩:=HI M;obtain⟨d,t,h1,h2,rfl⟩:=A i f X;obtain⟨_,n,_,_,a,_⟩:=C i d h1;rw[zk nj d t n.a n.len n.cap];have hb:=p.YC _ (g8 a);rw[lH B]at hb;rw[I];exact hb
   .refine p.emp ?_;have:es.length=0:=by rw[<-I,h];rfl
    exact tH (by rw[lH B];exact this)
   .obtain ⟨b,vs,ty,k1,_,k3,k4,k5⟩:=p.mem P;refine⟨b,vs,ty,k1,⟨λ_=>.inr (.inl ⟨_,k1,rfl,P⟩),λ_=>rfl⟩,k3,k4,λi f S c M K=>?_⟩;obtain⟨d,t,h1,h2,rfl⟩:=A i f M;obtain⟨rs',n,h2',hv,a,Z7⟩:=C i d h1;rw[h2]at h2';cases h2';by_cases hjn:S=nj
    .subst hjn;have hlt:S<d.cells.length:=by have:=aF K;simpa[zl,D.cells]using this
     obtain⟨v,ZR,hv2⟩:=k5 i _ S (.lit (.slice n.a n.len n.cap)) a (by show(d.cells.set S _)[S]?=_;rw[Lu hlt]);cases hv2;have hce:c=.sl t:=by have hj2:(d.cells.set S (.sl t))[S]?=Z c:=K;rw[Lu hlt]at hj2;exact(eO hj2).symm
     rw[hce];exact⟨_,ZR,Z7⟩
    .obtain ⟨v,ZR,hv2⟩:=k5 i _ S c a (by
      simp only[iS,zl,D.cells]at K ⊢;rw[Lt (λe=>hjn e.symm)]at K ⊢;exact K)
     exact⟨v,ZR,hv2.ext he hs.bB⟩
  .by_cases E:k=m
   .subst E;refine⟨(hs.arr k j y z).1,λob l=>?_⟩;simp only[]at l;rw[cJ,br u,bJ rfl]at l;obtain rfl:=eO l;exact .inr (.inr (.inr rfl))
   .have adt:=hs.arr k j y z;refine adt.ext he hs.bB (λc P hcap=>⟨rfl,⟨λh=>h.elim id λCV=>?_,.inl⟩⟩) (by simp only[];rw[cJ,br u,br E]) rfl;by_cases q:g.bB c
    .exact q
    .obtain ⟨k',_,h1,h2⟩:=F c CV;have:=hs.l9 k k' c ⟨q,.inr ⟨j,y,_,z,P,rfl,hcap⟩⟩ h2;subst this;exact absurd h1 (λh=>h.elim u E)
 .rcases hb with hb|hb
  .exact hs.bB b hb
  .obtain ⟨k,_,_,h⟩:=F b hb;exact(hs.qT h).1
structure Sc(g:Gh)(w:World)(n:Nat)(es:List D)(x:fE)(v:Value)(w':World)(x':fE):Prop where
 val:v=.slice x'.a x'.len x'.cap
 sz:x'.sz=n
 os:w'.os=w.os
 output:w'.output=w.output
 size:w.heap.size<=w'.heap.size
 heap:∀b,b<w.heap.size->¬x.at b->w'.heap[b]?=w.heap[b]?
 at_:∀b,x'.at b->b<w'.heap.size∧(w.heap.size<=b∨x.at b)
 ok:vn g w' J n es x'
noncomputable def Gh.ni(g:Gh)(m r i:Nat)(y:fE):Gh:=by
 classical
 exact{g with arr:=λk j=>if k=m then(if h:∃a,j=rc (r+1) a then(if h.choose=i then Z y else g.arr m (rc r h.choose))else g.arr m j)else g.arr k j}
def Gh.jK(h:k≠m):(g.ni m r i y).arr k=g.arr k:=by
 funext j
 simp[Gh.ni,h]
def Gh.oF(b:Nat):(g.ni m r i y).arr m (rc (r+1) b)=if b=i then Z y else g.arr m (rc r b):=by have a:∃c,rc (r+1) b=rc (r+1) c:=⟨b,rfl⟩;have d:a.choose=b:=(qi a.choose_spec).2.symm;simp only[Gh.ni,fY,dif_pos a,d]
def Gh.xo(h:∀c,j≠rc (r+1) c):(g.ni m r i y).arr m j=g.arr m j:=by have b:¬∃a,j=rc (r+1) a:=λ⟨a,e⟩=>h a e;simp only[Gh.ni,fY,dif_neg b]
def bh.aaH{w':World}(hs:bh g s w){M:fE}{v:Value}{x:L D}(ho:s.ob.get o=Z (.kB nj sz es era m r Y))
  (hm:s.ob.get m=Z (.rws szr ig r)) (hoN:o<bC) (hy:g.arr m (rc r i)=Z y) (n:Sc g w szr x y v w' M) (adH:s.fl<=m) :
  bh (g.ni m r i M) {s with ob:=(s.ob.set aL m (.rws szr (ig.set i x) (r+1))).set aL o (.kB nj sz es era m (r+1) (Z i))} w'∧Ext s.fl g w (g.ni m r i M) w':=by
 have hmN:m<bC:=dB (hs.lt' hy) hs.aJ;have hom:o≠m:=by rintro rfl;rw[ho]at hm;cases hm
 obtain⟨F,f,hrow⟩:=hs.oE hm hy;obtain⟨_,rs0,ZV,amR⟩:=hrow i rfl;have hilt:=aF ZV;have N:∀b,y.at b->bN g m b:=λb d=>by have h1:=(amR.at_ d).1;obtain⟨A,k1,k2,k3⟩:=d;exact⟨λTk=>Bool.noConfusion (h1.2 Tk),.inr ⟨_,y,A,hy,k1,k2,k3⟩⟩
 have Wv:∀k j z,g.arr k j=Z z->(g.ni m r i M).arr k j=Z z:=λk j z h=>by
  by_cases C:k=m
  .subst C;rw[Gh.xo (λa e=>by rw[e,F (r+1) a (by omega)]at h;cases h)];exact h
  .rw[Gh.jK C];exact h
 have l:∀k j z,(g.ni m r i M).arr k j=Z z->(k=m∧j=rc (r+1) i∧z=M)∨(k=m∧∃a,a≠i∧j=rc (r+1) a∧g.arr m (rc r a)=Z z)∨((∀a,k=m->j≠rc (r+1) a)∧g.arr k j=Z z):=λk j z h=>by
  by_cases C:k=m
  .subst C;by_cases hj:∃a,j=rc (r+1) a
   .obtain ⟨a,rfl⟩:=hj;rw[Gh.oF]at h;split at h
    .rename_i S;subst S;exact .inl ⟨rfl,rfl,(eO h).symm⟩
    .rename_i S;exact .inr (.inl ⟨rfl,a,S,rfl,h⟩)
   .rw[Gh.xo (λa e=>hj ⟨a,e⟩)]at h;exact .inr (.inr ⟨λa _ e=>hj ⟨a,e⟩,h⟩)
  .rw[Gh.jK C]at h;exact .inr (.inr ⟨λa e=>absurd e C,h⟩)
 have G:∀k b,bN (g.ni m r i M) k b->bN g k b∨(k=m∧w.heap.size<=b):=by
  rintro k b ⟨h1,h2|⟨j,z,A,h2,h3,h4,h5⟩⟩
  .exact .inl ⟨h1,.inl h2⟩
  .rcases l k j z h2 with⟨rfl,_,rfl⟩|⟨rfl,a,_,_,h⟩|⟨_,h⟩
   .rcases (n.at_ b ⟨A,h3,h4,h5⟩).2 with h|h
    .exact .inr ⟨rfl,h⟩
    .exact .inl (N b h)
   .exact .inl ⟨h1,.inr ⟨_,z,A,h,h3,h4,h5⟩⟩
   .exact .inl ⟨h1,.inr ⟨j,z,A,h,h3,h4,h5⟩⟩
 have he:Ext s.fl g w (g.ni m r i M) w':=
  ⟨λ_ _ h=>h,Wv,λ_ h=>h,n.size,λb d hn=>n.heap b d λp=>hn m adH (N b p),λk b h=>(G k b h).imp id (·.2),λ_ h=>.inl h,n.os,n.output⟩
 have cJ:∀k,((s.ob.set aL m (.rws szr (ig.set i x) (r+1))).set aL o (.kB nj sz es era m (r+1) (Z i))).get k=if k=o then Z (.kB nj sz es era m (r+1) (Z i))else if k=m then Z (.rws szr (ig.set i x) (r+1))else s.ob.get k:=λk=>by rw[Tr.aZ _ _ _ _ hoN,Tr.aZ _ _ _ _ hmN]
 have adx:=hs.y6 ho rfl;have adz:=hs.y6 hm rfl;have H:∀k j z,g.arr k j=Z z->k≠m->∀b,z.a=Z ⟨b,0,Y⟩->z.cap≠0->w'.heap[b]?=w.heap[b]?:=λk j z E C b d q=>by refine n.heap b ((hs.arr k j z E).1 _ d q) λp=>?_;have hO:=N b p;exact C (hs.l9 k m b ⟨hO.1,.inr ⟨j,z,_,E,d,rfl,q⟩⟩ hO)
 refine⟨⟨hs.aJ,λk C=>⟨(hs.ai k C).1,λj=>?_⟩,λk b d=>?_,λk j z E=>?_,λb d=>dB (hs.bB b d) n.size,λk k' b h h'=>?_⟩,he⟩
 .rw[Gh.jK (by rintro rfl;have:=hs.lt' hy;simp only at C;omega)];exact(hs.ai k C).2 j
 .have B:g.cj k=Z b:=d;have P:k≠o:=by rintro rfl;rw[adx]at B;cases B
  have c:k≠m:=by rintro rfl;rw[adz]at B;cases B
  have u:=hs.box k b B;exact u.ext he hs.bB (n.heap b u.2.1 λp=>c (hs.l9 k m b ⟨u.1,.inl B⟩ (N b p))) (by simp only[];rw[cJ,br P,br c]) u.1
 .by_cases c:k=m
  .subst c;refine⟨λA ha q=>?_,λob t=>?_⟩
   .rcases l k j z E with⟨_,_,rfl⟩|⟨_,a,_,_,h⟩|⟨_,h⟩
    .exact (n.at_ _ ⟨A,ha,rfl,q⟩).1
    .exact dB ((hs.arr k _ z h).1 A ha q) n.size
    .exact dB ((hs.arr k _ z h).1 A ha q) n.size
   .simp only[]at t;rw[cJ,br (λe=>hom e.symm),bJ rfl]at t;obtain rfl:=eO t;refine .inr (.inr (.inl ⟨szr,ig.set i x,r+1,rfl,λr' a hr'=>?_,λi1 i2 y1 y2 I h1 h2 b X pI=>?_,λa hj=>?_⟩))
    .rw[Gh.xo (λi'' e=>by have:=(qi e).1;omega)];exact F r' a (by omega)
    .rw[Gh.oF]at h1 h2;have mix:∀i3 y3,i3≠i->g.arr k (rc r i3)=Z y3->∀b,M.at b->¬y3.at b:=λi3 y3 hn h3 b d hb3=>by
      rcases(n.at_ b d).2 with h|h
      .obtain ⟨A,k1,k2,k3⟩:=hb3;have:=(hs.arr k _ y3 h3).1 A k1 k3;omega
      .exact f i i3 y y3 (λe=>hn e.symm) hy h3 b h hb3
     split at h1
     .rename_i R;cases h1;rw[br (λe=>I (R.trans e.symm))]at h2;exact mix i2 y2 (λe=>I (R.trans e.symm)) h2 b X pI
     .rename_i R;split at h2
      .cases h2;exact mix i1 y1 R h1 b pI X
      .exact f i1 i2 y1 y2 I h1 h2 b X pI
    .subst hj;rw[Gh.oF]at E;split at E
     .rename_i R;subst R;cases E;exact⟨n.sz,x,by rw[Lu hilt],n.ok.j4 rfl⟩
     .rename_i R;obtain⟨q1,rs,q2,q3⟩:=(hs.oE hm E).2.2 a rfl;refine⟨q1,rs,by rw[Lt (λe=>R e.symm)];exact q2,q3.ext he hs.bB (λb d q=>⟨?_,qP⟩)⟩;exact n.heap b ((hs.arr k _ z E).1 _ d q) (λp=>f i a y z (λe=>R e.symm) hy E b p ⟨_,d,rfl,q⟩)
  .have K:g.arr k j=Z z:=by rw[Gh.jK c]at E;exact E
   by_cases P:k=o
   .subst P;obtain⟨q1,q2,q3,q4⟩:=hs.Ar ho K;refine⟨λA ha q=>dB ((hs.arr k j z K).1 A ha q) n.size,λob t=>?_⟩;simp only[]at t;rw[cJ,bJ rfl]at t;obtain rfl:=eO t;refine .inr (.inl ⟨nj,es,era,m,r+1,Z i,by rw[q1],q2,λe' h=>by rw[Gh.jK c];exact q3 e' h,λhje=>?_⟩);obtain⟨hl,k1,k2,k3⟩:=q4 hje;refine⟨hl,k1,q1▸(k2.ext he hs.bB (λb d q=>⟨H k j z K c b d q,qP⟩)),k3.1,λa h hh I=>?_⟩;obtain⟨yy,h1,h2⟩:=k3.2 a h hh (by simp);exact⟨yy,by rw[Gh.oF,br (λe=>I (by rw[e]))];exact h1,h2⟩
   .exact (hs.arr k j z K).ext he hs.bB (λb d q=>⟨H k j z K c b d q,qP⟩) (by simp only[];rw[cJ,br P,br c]) (Gh.jK c)
 .rcases G k b h with h1|⟨h1,h3⟩<;>rcases G k' b h' with h2|⟨h2,h4⟩
  .exact hs.l9 k k' b h1 h2
  .have:=(hs.qT h1).1;omega
  .have:=(hs.qT h2).1;omega
  .rw[h1,h2]
noncomputable def Gh.gK(g:Gh)(m:Nat)(ys:L fE):Gh:=by
 classical
 exact{g with arr:=λk j=>if k=m then(if h:∃i,j=rc 0 i then ys[h.choose]? else Y)else g.arr k j}
def Gh.ia(h:k≠m):(g.gK m ys).arr k=g.arr k:=by
 funext j
 simp[Gh.gK,h]
def Gh.uS(i:Nat):(g.gK m ys).arr m (rc 0 i)=ys[i]?:=by have a:∃b,rc 0 i=rc 0 b:=⟨i,rfl⟩;have c:a.choose=i:=(qi a.choose_spec).2.symm;simp only[Gh.gK,fY,dif_pos a,c]
def Gh.sN{z:fE}(h:(g.gK m ys).arr m j=Z z):∃i,j=rc 0 i∧ys[i]?=Z z:=by
 by_cases a:∃i,j=rc 0 i
 .obtain ⟨i,rfl⟩:=a;rw[Gh.uS]at h;exact⟨i,rfl,h⟩
 .simp only[Gh.gK,fY,dif_neg a]at h;cases h
def bh.aek(hs:bh g s w)(hn:s.aJ<bC)(A:∀y∈ys,∀b,y.at b->b<w.heap.size∧∀o,¬bN g o b)
  (B:∀(i:Nat)(y:fE),ys[i]?=Z y->y.sz=sz∧∃q,ig[i]?=Z q∧vn g w J sz q y) (C:ys.Pairwise λx y=>∀b,x.at b->¬y.at b) :
  bh (g.gK s.aJ ys) (en s (.rws sz ig 0)).2 w∧(∀k j y,g.arr k j=Z y->(g.gK s.aJ ys).arr k j=Z y)∧(∀k b,bN (g.gK s.aJ ys) k b->bN g k b∨(k=s.aJ∧∃y∈ys,y.at b)):=by
 have c:=hs.ai s.aJ (bQ _);have d:∀k j y,g.arr k j=Z y->(g.gK s.aJ ys).arr k j=Z y:=λk j y h=>by
  rw[Gh.ia]
  .exact h
  .rintro rfl
   rw[c.2]at h;cases h
 have f:∀k b,bN (g.gK s.aJ ys) k b->bN g k b∨(k=s.aJ∧∃y∈ys,y.at b):=by
  rintro k b ⟨h1,h2|⟨j,y,r,h2,h3⟩⟩
  .exact .inl ⟨h1,.inl h2⟩
  .by_cases l:k=s.aJ
   .subst l;obtain⟨i,_,u⟩:=Gh.sN h2;exact .inr ⟨rfl,y,g8 u,r,h3⟩
   .rw[Gh.ia l]at h2;exact .inl ⟨h1,.inr ⟨j,y,r,h2,h3⟩⟩
 have cJ:∀k,(en s (.rws sz ig 0)).2.ob.get k=if k=s.aJ then Z (.rws sz ig 0)else s.ob.get k:=λk=>by simp only[en];rw[Tr.aZ _ _ _ _ hn]
 refine⟨⟨by simp only[en];omega,λk l=>?_,λk b hb=>?_,λk j y E=>?_,hs.bB,λk F b h h'=>?_⟩,d,f⟩
 .simp only[en]at l;refine⟨(hs.ai k (by omega)).1,λj=>?_⟩;rw[Gh.ia (by omega)];exact(hs.ai k (by omega)).2 j
 .have m:g.cj k=Z b:=hb;have G:k≠s.aJ:=λh=>by rw[h,c.1]at m;cases m
  obtain⟨H,I,k3⟩:=hs.box k b m;refine⟨H,I,λob a=>?_⟩;rw[cJ,br G]at a;obtain⟨x,h1,h2⟩:=k3 ob a;refine⟨x,h1,?_⟩;exact h2.imp (λt v ht=>ht.anE d rfl rfl)
 .by_cases l:k=s.aJ
  .subst l;obtain⟨i,rfl,u⟩:=Gh.sN E;refine⟨λr ha hc=>(A y (g8 u) _ ⟨r,ha,rfl,hc⟩).1,λob a=>?_⟩;rw[cJ,bJ rfl]at a;obtain rfl:=eO a;refine .inr (.inr (.inl ⟨sz,ig,0,rfl,λr' P hr'=>?_,λR K S X M h1 h2 b n p=>?_,λP hj=>?_⟩))
   .cases h:(g.gK s.aJ ys).arr s.aJ (rc r' P)with|none=>rfl|some z=>obtain⟨K,e,_⟩:=Gh.sN h;have:=(qi e).1;omega
   .rw[Gh.uS]at h1 h2;have hp:=SJ.1 C;obtain⟨l1,g1⟩:=tG.1 h1;obtain⟨l2,g2⟩:=tG.1 h2;rcases Nat.lt_or_gt_of_ne M with h|h
    .exact hp R K l1 l2 h b (g1▸n) (g2▸p)
    .exact hp K R l2 l1 h b (g2▸p) (g1▸n)
   .have:=(qi hj).2;subst this;obtain⟨q1,q,q2,q3⟩:=B i y u;exact⟨q1,q,q2,q3.j4 rfl⟩
  .have N:g.arr k j=Z y:=by rw[Gh.ia l]at E;exact E
   obtain⟨H,I⟩:=hs.arr k j y N;refine⟨H,λob a=>?_⟩;rw[cJ,br l]at a;exact(I ob a).tr (λh=>h.j4 rfl) d (Gh.ia l)
 .rcases f k b h with h1|⟨h1,S,m1,a1⟩<;>rcases f F b h' with h2|⟨h2,X,m2,a2⟩
  .exact hs.l9 k F b h1 h2
  .exact absurd h1 ((A X m2 b a2).2 k)
  .exact absurd h2 ((A S m1 b a1).2 F)
  .rw[h1,h2]
end
section
variable {g:Gh}{s s':St}{w:World}{o:Nat}{os:List Nat}
def bh.I4(hs:bh g s w){e sz:Nat}{es:L D}{x:fE}(c:s.ob.get o=Z (.j8 sz es e))(d:g.arr o e=Z x) :
  ek g.bB w (.sl es) (.slice x.a x.len x.cap):=by
 obtain⟨a,_⟩:=hs.ny (fz:=W) c d;exact a.TS (λ_ h=>h) (λb f=>(a.at_ f).1.1 rfl)
def Live(g:Gh)(s:St)(o:Nat):Prop:=o<bC∧((∃e x,g.arr o e=Z x∧((∃fz sz es,s.ob.get o=Z (fI fz sz es e))∨∃nj sz es m r hole,s.ob.get o=Z (.kB nj sz es e m r hole)))∨(∃sz ig r,s.ob.get o=Z (.rws sz ig r))∨s.ob.get o=Z .gone)
def Live.oR{g:Gh}{s:St}{o:Nat}{ob:Ob}(h:Live g s o)(a:s.ob.get o=Z ob):ob.oR=W:=by
 rcases h.2 with⟨_,_,_,⟨b,_,_,h⟩|⟨_,_,_,_,_,_,h⟩⟩|⟨_,_,_,h⟩|h
 .rw[a]at h;cases h;cases b<;>rfl
 .rw[a]at h;cases h;rfl
 .rw[a]at h;cases h;rfl
 .rw[a]at h;cases h;rfl
structure jJ(s s':St)(os:List Nat):Prop where
 fl:s'.fl=s.fl
 aJ:s'.aJ=s.aJ
 hit:∀o∈os,∀fz sz es e,s.ob.get o=Z (fI fz sz es e)->s'.ob.get o=Z (.j8 sz es e)
 j8:∀o sz es e,s.ob.get o=Z (.j8 sz es e)->s'.ob.get o=Z (.j8 sz es e)
 kB:∀o∈os,∀nj sz es e m r ig,s.ob.get o=Z (.kB nj sz es e m r Y)->Gt s m r=Z ig->s'.ob.get o=Z (.j8 sz (iZ nj es ig) e)
def jJ.sub{a:L Nat}(h:jJ s s' os)(hs:∀o∈a,o∈os):jJ s s' a:=
 ⟨h.fl,h.aJ,λo b=>h.hit o (hs o b),h.j8,λo b=>h.kB o (hs o b)⟩
def oa{m r:Nat}{ig:L (L D)}(h:Gt s m r=Z ig):∃sz,s.ob.get m=Z (.rws sz ig r):=by
 unfold Gt at h;split at h
 .rename_i sz a d b;rcases af h with⟨c,h⟩|⟨_,h⟩
  .cases h;have:=beq_iff'.1 c;subst this;exact⟨sz,b⟩
  .cases h
 .cases h
def uy(h:freeze s (o::os)=Z s'):s.fl<=o∧
  ((∃sz es e,s.ob.get o=Z (.arr sz es e)∧freeze {s with ob:=s.ob.set aL o (.j8 sz es e)} os=Z s')∨
   (∃sz es e,s.ob.get o=Z (.j8 sz es e)∧freeze s os=Z s')∨
   (((∃sz ig r,s.ob.get o=Z (.rws sz ig r))∨s.ob.get o=Z .gone)∧freeze s os=Z s')∨
   (∃nj sz es e m r ig c,s.ob.get o=Z (.kB nj sz es e m r Y)∧s.ob.get m=Z (.rws c ig r)∧Gt s m r=Z ig∧(m∈os∧s.fl<=m)∧m<bC∧freeze {s with ob:=(s.ob.set aL m .gone).set aL o (.j8 sz (iZ nj es ig) e)} os=Z s')):=by
 simp only[freeze]at h;rcases af h with⟨f,h⟩|⟨_,h⟩
 .refine ⟨fU f,?_⟩;split at h
  .rename_i sz es e b;exact .inl ⟨sz,es,e,b,h⟩
  .rename_i sz es e b;exact .inr (.inl ⟨sz,es,e,b,h⟩)
  .rename_i nj sz es e m r b;split at h
   .rename_i ig d;rcases af h with⟨a,h⟩|⟨_,h⟩
    .rw[ec]at a;obtain⟨c,g⟩:=oa d;rw[ec]at a;exact .inr (.inr (.inr ⟨nj,sz,es,e,m,r,ig,c,b,g,d,⟨by simpa using a.1,fU a.2.1⟩,fU a.2.2,h⟩))
    .cases h
   .cases h
  .rename_i sz ig r b;exact .inr (.inr (.inl ⟨.inl ⟨sz,ig,r,b⟩,h⟩))
  .rename_i b;exact .inr (.inr (.inl ⟨.inr b,h⟩))
  .cases h
 .cases h
def m7:∀{os:L Nat}{s s':St}{m:Nat},freeze s os=Z s'->s.ob.get m=Z .gone->(∀o∈os,o<bC)->∀o∈os,∀nj sz es e r hole,s.ob.get o≠Z (.kB nj sz es e m r hole)
 |[],_,_,_,_,_,_,o,p,_,_,_,_,_,_=>by cases p
 |c::os,s,s',m,h,l,q,o,p,nj,sz,es,e,r,hole=>λf=>by
  obtain⟨_,h1|h1|h1|h1⟩:=uy h
  .obtain ⟨g,i,x,a,h2⟩:=h1;have n:m≠c:=by rintro rfl;rw[l]at a;cases a
   have b:o≠c:=by rintro rfl;rw[f]at a;cases a
   have cJ:∀k,k≠c->({s with ob:=s.ob.set aL c (.j8 g i x)}:St).ob.get k=s.ob.get k:=λk d=>by show(s.ob.set aL c _).get k=_;rw[Tr.aZ _ _ _ _ (q c (by simp)),br d]
   exact m7 h2 (by rw[cJ m n];exact l) (λk d=>q k (by simp[d])) o ((eU.1 p).resolve_left b) nj sz es e r hole (by rw[cJ o b];exact f)
  .obtain ⟨g,i,x,a,h2⟩:=h1;have b:o≠c:=by rintro rfl;rw[f]at a;cases a
   exact m7 h2 l (λk d=>q k (by simp[d])) o ((eU.1 p).resolve_left b) nj sz es e r hole f
  .obtain ⟨a,h2⟩:=h1;have b:o≠c:=by
    rintro rfl
    rcases a with⟨_,_,_,h⟩|h<;>(rw[f]at h;cases h)
   exact m7 h2 l (λk d=>q k (by simp[d])) o ((eU.1 p).resolve_left b) nj sz es e r hole f
  .obtain ⟨y,g,i,x,t,C,u,B,a,j,_,_,z,h2⟩:=h1;have v:m≠t:=by rintro rfl;rw[l]at j;cases j
   have n:m≠c:=by rintro rfl;rw[l]at a;cases a
   by_cases b:o=c
   .subst b;rw[f]at a;cases a;exact v rfl
   .have w:o≠t:=by rintro rfl;rw[f]at j;cases j
    have cJ:∀k,k≠c->k≠t->({s with ob:=(s.ob.set aL t .gone).set aL c (.j8 g (iZ y i u) x)}:St).ob.get k=s.ob.get k:=λk d A=>by show((s.ob.set aL t _).set aL c _).get k=_;rw[Tr.aZ _ _ _ _ (q c (by simp)),br d,Tr.aZ _ _ _ _ z,br A]
    exact m7 h2 (by rw[cJ m n v];exact l) (λk d=>q k (by simp[d])) o ((eU.1 p).resolve_left b) nj sz es e r hole (by rw[cJ o b w];exact f)
def ey(os:L Nat):∀{g:Gh}{s s':St}{w:World},bh g s w->freeze s os=Z s'->(∀o∈os,Live g s o)->
  ∃g',bh g' s' w∧Ext s.fl g w g' w∧jJ s s' os:=by
 induction os with
 |nil=>intro g s s' w I h _;simp[freeze]at h;subst h;exact⟨g,I,Ext.refl _ _ _,⟨rfl,rfl,λo f=>(by cases f),λ_ _ _ _ h=>h,λo f=>(by cases f)⟩⟩
 |cons o os X=>
  intro g s s' w I h E;have hN:∀k∈o::os,k<bC:=λk i=>(E k i).1;have y:=hN o (by simp);obtain⟨K,h1|h1|h1|h1⟩:=uy h
  .obtain ⟨sz,u,e0,f,h⟩:=h1;obtain⟨x,z⟩:∃x,g.arr o e0=Z x:=by
    rcases(E o (by simp)).2 with⟨e,x,z,⟨t,_,_,h⟩|⟨_,_,_,_,_,_,h⟩⟩|⟨_,_,_,h⟩|h
    .rw[f]at h;have h':fI J sz u e0=_:=eO h;exact⟨x,(jW h').2.2.2▸z⟩
    .rw[f]at h;cases h
    .rw[f]at h;cases h
    .rw[f]at h;cases h
   obtain⟨F,v⟩:=I.aai f z K;have cJ:∀k,({s with ob:=s.ob.set aL o (.j8 sz u e0)}:St).ob.get k=if k=o then Z (.j8 sz u e0)else s.ob.get k:=λk=>Tr.aZ _ _ _ _ y
   obtain⟨g',p,q,b⟩:=X F h (λk i=>by
    by_cases a:k=o
    .subst a;exact⟨y,.inl ⟨e0,x,z,.inl ⟨W,sz,u,by rw[cJ,bJ rfl];rfl⟩⟩⟩
    .have:=E k (by simp[i]);unfold Live at this ⊢;rw[cJ,br a];exact this)
   refine⟨g',p,v.trans q,⟨b.fl,b.aJ,λk i t c d j h1=>?_,λk c d j h1=>?_,λk i C c d j m r n h1 h2=>?_⟩⟩
   .by_cases a:k=o
    .subst a;rw[f]at h1;have G:fI J sz u e0=_:=eO h1;obtain⟨_,rfl,rfl,rfl⟩:=jW G;exact b.j8 k sz u e0 (by rw[cJ,bJ rfl])
    .exact b.hit k ((eU.1 i).resolve_left a) t c d j (by rw[cJ,br a];exact h1)
   .have a:k≠o:=by
     rintro rfl
     rw[f]at h1;cases h1
    exact b.j8 k c d j (by rw[cJ,br a];exact h1)
   .have a:k≠o:=by rintro rfl;rw[f]at h1;cases h1
    obtain⟨szr,A⟩:=oa h2;have B:m≠o:=by rintro rfl;rw[f]at A;cases A
    exact b.kB k ((eU.1 i).resolve_left a) C c d j m r n (by rw[cJ,br a];exact h1) (by simp only[Gt];rw[cJ,br B];exact h2)
  .obtain ⟨sz,u,e,f,h⟩:=h1;obtain⟨g',p,q,b⟩:=X I h (λk i=>E k (by simp[i]));refine⟨g',p,q,⟨b.fl,b.aJ,λk i t c d j h1=>?_,b.j8,λk i C c d j m r n h1 h2=>?_⟩⟩
   .rcases eU.1 i with rfl|i
    .rw[f]at h1;have G:fI W sz u e=_:=eO h1;obtain⟨_,rfl,rfl,rfl⟩:=jW G;exact b.j8 k sz u e f
    .exact b.hit k i t c d j h1
   .have a:k≠o:=by rintro rfl;rw[f]at h1;cases h1
    exact b.kB k ((eU.1 i).resolve_left a) C c d j m r n h1 h2
  .obtain ⟨f,h⟩:=h1;obtain⟨g',p,q,b⟩:=X I h (λk i=>E k (by simp[i]));refine⟨g',p,q,⟨b.fl,b.aJ,λk i t c d j h1=>?_,b.j8,λk i C c d j m r n h1 h2=>?_⟩⟩
   .have a:k≠o:=by rintro rfl;rcases f with⟨_,_,_,h⟩|h<;>(rw[h1]at h;cases t<;>cases h)
    exact b.hit k ((eU.1 i).resolve_left a) t c d j h1
   .have a:k≠o:=by rintro rfl;rcases f with⟨_,_,_,h⟩|h<;>(rw[h1]at h;cases h)
    exact b.kB k ((eU.1 i).resolve_left a) C c d j m r n h1 h2
  .obtain ⟨C,sz,u,e0,m,r,n,szr,f,A,hr,⟨_,M⟩,H,h⟩:=h1;obtain⟨x,z⟩:∃x,g.arr o e0=Z x:=by
    rcases(E o (by simp)).2 with⟨e,x,z,⟨t,_,_,h⟩|⟨_,_,_,_,_,_,h⟩⟩|⟨_,_,_,h⟩|h
    .rw[f]at h;cases t<;>cases h
    .rw[f]at h;cases h;exact⟨x,z⟩
    .rw[f]at h;cases h
    .rw[f]at h;cases h
   obtain⟨g1,F,v⟩:=I.Tz f A H z K M;have hom:o≠m:=by rintro rfl;rw[f]at A;cases A
   have cJ:∀k,({s with ob:=(s.ob.set aL m .gone).set aL o (.j8 sz (iZ C u n) e0)}:St).ob.get k=if k=o then Z (.j8 sz (iZ C u n) e0)else if k=m then Z .gone else s.ob.get k:=λk=>by show((s.ob.set aL m _).set aL o _).get k=_;rw[Tr.aZ _ _ _ _ y,Tr.aZ _ _ _ _ H]
   obtain⟨g',p,q,b⟩:=X F h (λk i=>by
    by_cases a:k=o
    .subst a;exact⟨y,.inl ⟨e0,x,v.arr _ _ _ z,.inl ⟨W,sz,_,by rw[cJ,bJ rfl];rfl⟩⟩⟩
    .by_cases l:k=m
     .subst l;exact⟨H,.inr (.inr (by rw[cJ,br a,bJ rfl]))⟩
     .obtain ⟨h0,h1⟩:=E k (by simp[i]);refine⟨h0,?_⟩;rw[cJ,br a,br l];exact h1.imp (λ⟨j,x',h1,h2⟩=>⟨j,x',v.arr _ _ _ h1,h2⟩) id)
   refine⟨g',p,v.trans q,⟨b.fl,b.aJ,λk i t c d j h1=>?_,λk c d j h1=>?_,λk i N c d j m' r' P h1 h2=>?_⟩⟩
   .have a:k≠o:=by rintro rfl;rw[f]at h1;cases t<;>cases h1
    have l:k≠m:=by rintro rfl;rw[A]at h1;cases t<;>cases h1
    exact b.hit k ((eU.1 i).resolve_left a) t c d j (by rw[cJ,br a,br l];exact h1)
   .have a:k≠o:=by rintro rfl;rw[f]at h1;cases h1
    have l:k≠m:=by rintro rfl;rw[A]at h1;cases h1
    exact b.j8 k c d j (by rw[cJ,br a,br l];exact h1)
   .by_cases a:k=o
    .subst a;rw[f]at h1;cases h1;rw[hr]at h2;cases h2;exact b.j8 k _ _ _ (by rw[cJ,bJ rfl])
    .have R:=(eU.1 i).resolve_left a;obtain⟨szr',S⟩:=oa h2;have l:k≠m:=by rintro rfl;rw[A]at h1;cases h1
     have B:m'≠o:=by rintro rfl;rw[f]at S;cases S
     have hmm:m'≠m:=by
      rintro rfl
      exact m7 h (m:=m') (by rw[cJ,br B,bJ rfl]) (λk i=>hN k (by simp[i])) k R N c d j r' Y (by rw[cJ,br a,br l];exact h1)
     exact b.kB k R N c d j m' r' P (by rw[cJ,br a,br l];exact h1) (by simp only[Gt];rw[cJ,br B,br hmm];exact h2)
mutual
def kO{g:Gh}{s:St}{w:World}(hs:bh g s w):∀(t:T){v:Value}{p:Prop}{d:D}{os:L Nat},vz s t=Z (p,d,os)->p->aM g w t v->
  (∀o∈os,Live g s o)∧∀(g':Gh)(s':St),bh g' s' w->Ext s.fl g w g' w->jJ s s' os->ek g'.bB w d v
 | .sym d,v,p,H,os,h,C,f=>by simp only[vz,bg,bD]at h;obtain⟨_,rfl,rfl⟩:=h;cases f with|sym _ _ y=>exact⟨λo l=>(by cases l),λg' s' _ A _=>y.ext A hs.bB⟩
 | .kb b,v,p,H,os,h,C,f=>by simp only[vz,bg,bD]at h;obtain⟨_,rfl,rfl⟩:=h;cases f;exact⟨λo l=>(by cases l),λg' s' _ A _=>.lit _⟩
 | .kn k n,v,p,H,os,h,C,f=>by simp only[vz,bg,bD]at h;obtain⟨_,rfl,rfl⟩:=h;cases f;exact⟨λo l=>(by cases l),λg' s' _ A _=>.lit _⟩
 | .emp,v,p,H,os,h,C,f=>by simp only[vz,bg,bD]at h;obtain⟨_,rfl,rfl⟩:=h;cases f with|emp a=>exact⟨λo l=>(by cases l),λg' s' _ A _=>.sl [] a 0 0 (λ_ _=>undef) (by simp) (by simp) (by simp) (λh=>absurd rfl h) (λi j d c h=>by simp at h)⟩
 | .jE n I,v,p,H,os,h,C,f=>by simp only[vz,bg,bD]at h;obtain⟨_,rfl,rfl⟩:=h;cases f with|jE _ _ a hn y=>exact⟨λo l=>(by cases l),λg' s' _ A _=>y.ext A hs.bB⟩
 | .nZ j d,v,p,H,os,h,C,f=>by simp only[vz,bg,bD]at h;obtain⟨_,rfl,rfl⟩:=h;cases f with|nZ _ _ c a hj y=>exact⟨λo l=>(by cases l),λg' s' _ A _=>(zG hj y).ext A hs.bB⟩
 | .qm _ _ _ _,_,_,_,_,h,_,_=>by simp[vz]at h
 | .sh o e,v,p,H,os,h,C,f=>by
  cases f with
  |sh _ _ len cap sz a K=>
  simp only[vz]at h;split at h
  .rename_i z I era l;rcases af h with⟨G,B⟩|⟨_,B⟩
   .have E:=beq_iff'.1 G;simp only[bg,bD]at B;obtain⟨_,rfl,rfl⟩:=B;clear h G;subst E;refine⟨λk M=>?_,λg' s' F A R=>?_⟩
    .simp at M;subst M;exact⟨dB (hs.lt' K) hs.aJ,.inl ⟨e,_,K,.inl ⟨J,z,I,l⟩⟩⟩
    .exact F.I4 (R.hit o (by simp) J z I e l) (A.arr _ _ _ K)
   .cases B
  .rename_i z I era l;rcases af h with⟨G,B⟩|⟨_,B⟩
   .have E:=beq_iff'.1 G;simp only[bg,bD]at B;obtain⟨_,rfl,rfl⟩:=B;clear h G;subst E;exact⟨λk M=>(by cases M),λg' s' F A R=>F.I4 (R.j8 o z I e l) (A.arr _ _ _ K)⟩
   .cases B
  .rename_i nj z I era m r l;split at h
   .rename_i S P;rcases af h with⟨G,B⟩|⟨_,B⟩
    .rw[ec]at G;have E:=beq_iff'.1 G.1;have hmN:m<bC:=fU G.2;simp only[bg,bD]at B;obtain⟨_,rfl,rfl⟩:=B;clear h G;subst E;refine⟨λk M=>?_,λg' s' F A R=>?_⟩
     .simp at M;rcases M with rfl|rfl
      .exact ⟨dB (hs.lt' K) hs.aJ,.inl ⟨e,_,K,.inr ⟨nj,z,I,m,r,Y,l⟩⟩⟩
      .obtain ⟨szr,hm⟩:=oa P;exact⟨hmN,.inr (.inl ⟨szr,S,r,hm⟩)⟩
     .exact F.I4 (R.kB o (by simp) nj z I e m r S l P) (A.arr _ _ _ K)
    .cases B
   .cases h
  .cases h
 | .cR t x,v,p,H,os,h,C,f=>by
  cases f with
  |cR _ _ u hu=>
  simp only[vz]at h;split at h
  .rename_i q d X y;simp only[bg,bD]at h;obtain⟨rfl,rfl,rfl⟩:=h;obtain⟨h1,h2⟩:=kO hs x y C hu;exact⟨h1,λg' s' a b c=>.cR _ _ _ (h2 g' s' a b c)⟩
  .cases h
 | .agg cs,v,p,H,os,h,C,f=>by
  cases f with
  |agg _ vs hl P=>
  simp only[vz]at h;split at h
  .rename_i q ds X y;simp only[bg,bD]at h;obtain⟨rfl,rfl,rfl⟩:=h;obtain⟨h0,h1,h2⟩:=rN hs cs (vs:=vs.toList) y C.1 (by simpa using hl) (λj t v f N=>P j t v f (by simpa using N));refine⟨h1,λg' s' a b c=>.agg _ _ (by rw[h0,hl]) (λd y=>by have:=C.2;rw[eC]at this;exact this d y) (λj d v y N=>h2 g' s' a b c j d v y (by simpa using N))⟩
  .cases h
 | .gB cs,v,p,H,os,h,C,f=>by
  cases f with
  |gB _ vs hl P=>
  simp only[vz]at h;split at h
  .rename_i q ds X y;simp only[bg,bD]at h;obtain⟨rfl,rfl,rfl⟩:=h;obtain⟨h0,h1,h2⟩:=rN hs cs (vs:=vs.toList) y C (by simpa using hl) (λj t v f N=>P j t v f (by simpa using N));exact⟨h1,λg' s' a b c=>.gB _ _ (by rw[h0,hl]) (λj d v y N=>h2 g' s' a b c j d v y (by simpa using N))⟩
  .cases h
 | .ptr _ _,_,_,_,_,h,_,_=>by simp[vz]at h
 | .mO _ _,_,_,_,_,h,_,_=>by simp[vz]at h
 | .kH _ _ _ _,_,_,_,_,h,_,_=>by simp[vz]at h
 | .fn _ _ _,_,_,_,_,h,_,_=>by simp[vz]at h
 | .gd _ _,_,_,_,_,h,_,_=>by simp[vz]at h
def rN{g:Gh}{s:St}{w:World}(hs:bh g s w):∀(ts:L T){vs:L Value}{p:Prop}{ds:L D}{os:L Nat},lR s ts=Z (p,ds,os)->p->ts.length=vs.length->
  (∀(j:Nat)(t:T)(v:Value),ts[j]?=Z t->vs[j]?=Z v->aM g w t v)->
  ds.length=ts.length∧(∀o∈os,Live g s o)∧∀(g':Gh)(s':St),bh g' s' w->Ext s.fl g w g' w->jJ s s' os->
   ∀(j:Nat)(d:D)(v:Value),ds[j]?=Z d->vs[j]?=Z v->ek g'.bB w d v
 |[],vs,p,ds,os,h,e,c,f=>by simp only[lR,bg,bD]at h;obtain⟨_,rfl,rfl⟩:=h;exact⟨rfl,λo ho=>(by cases ho),λg' s' _ _ _ j d v a=>by simp at a⟩
 |t::ts,vs,p,ds,os,h,e,c,f=>by
  simp only[lR]at h;split at h
  .rename_i B d i C l k h1 h2;simp only[bg,bD]at h;obtain⟨rfl,rfl,rfl⟩:=h
   match vs,c with
   |v::vs,c=>
    obtain⟨a1,a2⟩:=kO hs t h1 e.1 (f 0 t v rfl rfl);obtain⟨m,n,q⟩:=rN hs ts (vs:=vs) h2 e.2 (by simpa using c) (λj t v r b=>f (j+1) t v (by simpa using r) (by simpa using b));refine⟨by simp[m],λo ho=>?_,λg' s' x y z j d v a b=>?_⟩
    .rcases ef.1 ho with ho|ho
     .exact a1 o ho
     .exact n o ho
    .have u:jJ s s' i:=z.sub (λo ho=>eL _ ho);have A:jJ s s' k:=z.sub (λo ho=>iX _ ho);cases j with|zero=>simp at a b;subst a;subst b;exact a2 g' s' x y u|succ j=>exact q g' s' x y A j d v (by simpa using a) (by simpa using b)
  .cases h
end
end
section
def PW{α β:Type}(R:α->β->Prop)(l:L α)(m:L β):Prop:=l.length=m.length∧∀(j:Nat)(a:α)(b:β),l[j]?=Z a->m[j]?=Z b->R a b
section
variable {α β:Type}{R:α->β->Prop}
def PW.append{l e:L α}{m f:L β}(h:PW R l m)(g:PW R e f):PW R (l++e) (m++f):=by
 refine⟨by simp[h.1,g.1],λj a b d c=>?_⟩;rw[lD]at d c;rw[<-h.1]at c;by_cases i:j<l.length
 .rw[bJ i]at d c;exact h.2 j a b d c
 .rw[br i]at d c;exact g.2 _ a b d c
def PW.take{l:L α}{m:L β}(h:PW R l m)(n:Nat):PW R (l.take n) (m.take n):=by
 refine⟨by simp[h.1],λj a b c d=>?_⟩;rw[v5]at c d;by_cases e:j<n
 .rw[bJ e]at c d;exact h.2 j a b c d
 .rw[br e]at c;cases c
def PW.drop{l:L α}{m:L β}(h:PW R l m)(n:Nat):PW R (l.drop n) (m.drop n):=by refine⟨by simp[h.1],λj a b c d=>?_⟩;rw[DM]at c d;exact h.2 _ a b c d
end
def OI{l:L T}(h:leaves l):∀t∈l,t.leaf:=by
 induction l with
 |nil=>intro t b;cases b
 |cons a l c=>
  intro t b;rcases eU.1 b with rfl|b
  .exact h.1
  .exact c h.2 t b
variable {g:Gh}{w:World}{P:Program}{i:TI}
def PW.one{l:L T}{vs:L Value}(h:PW (aM g w) l vs)(hl:leaves l):∀v∈vs,v.oneCell'=W:=by
 intro v c;obtain⟨j,b,rfl⟩:=tF c;have a:j<l.length:=by rw[h.1];exact b
 exact(Sn (OI hl _ (Gx a)) (h.2 j _ _ (fN a) (fN b))).1
def wF{t:TypeId}{x:TypeInfo}(c:P.info? t=Z x)(w:World)(b off:Nat)(v:Value)(a:v.cells.size=x.size){vs:Array Value}{ty:TypeId}
  (d:w.heap[b]?=Z (.cells vs ty (0,0))) (hl:off+v.cells.size<=vs.size) (h1:∀u∈v.cells.toList,u.oneCell'=W) :
  (storeVar t ⟨b,off,Y⟩ v).run P w=.ok () (w.setRow b (vs.toList.take off++v.cells.toList++vs.toList.drop (off+v.cells.size)).toArray):=by
 have:=run_storeCells_at (P:=P) b off ty v.cells.toList 0 vs w d (by simpa using hl) h1;simp only[wJ,HH]at this;simp[storeVar,dI c,a,this]
def om{t:T}{v:Value}{p:Prop}{cs:L T}(h:iV i t=Z (p,cs))(c:p)(d:aM g w t v) :
  PW (aM g w) cs v.cells.toList∧cs.length=i.size:=by
 obtain⟨h1,h2,h3,_⟩:=lO h c d;exact⟨⟨by simp[h1,h2],λj a b e f=>h3 j a b e (by simpa using f)⟩,h1⟩
def D.Nr{ds:L D}(h:ds.all D.leaf=W):∀d∈ds,d.leaf=W:=by simpa using h
def Jr(es:L D)(k i:Nat)(d c:D)(h:(D.put es k d)[i]?=Z c):(i=k∧k<es.length∧c=d)∨(i≠k∧es[i]?=Z c):=by
 unfold D.put at h;rw[DL]at h;by_cases a:k=i
 .subst a;rw[bJ rfl]at h;by_cases b:k<es.length
  .rw[bJ b]at h;exact .inl ⟨rfl,b,(eO h).symm⟩
  .rw[br b]at h;cases h
 .rw[br a]at h;exact .inr ⟨λe=>a e.symm,h⟩
def IZ{ty:TypeId}(hi:nc P ty i){s s':St}(hs:bh g s w){a x:T}{va vx:Value}(ha:aM g w a va)(hx:aM g w x vx)
  {p:Prop} {t:T} (h:storeT i s a x=Z (p,t,s')) (hp:p) :
  ∃w' g',(Instr.storeAt ty va vx).run P w=.ok () w'∧bh g' s' w'∧Ext s.fl g w g' w'∧t=Qu:=by
 obtain⟨xi,d0,z,OS,hu,hsz,hag,_⟩:=hi.all;unfold storeT at h;cases hc:iV i x with
 |none=>simp[hc]at h
 |some q=>
  obtain⟨q,l⟩:=q;simp only[hc]at h;cases ha with
  |ptr o off b hb=>
   cases B:s.ob.get o with
   |none=>simp[B]at h
   |some ob=>
   simp only[B]at h;cases ob with
   |box cs=>
   obtain⟨y,ety,hh,hl,hr⟩:=(hs.box o b hb).box B;simp only at h;rcases af h with⟨hn,h⟩|⟨_,h⟩
   .simp only[ec]at hn;have N:=fU hn.1;have hlen:off+cC l<=cC cs:=fU hn.2;rw[bL,bL]at hlen;simp only[bg,bD]at h;obtain⟨rfl,rfl,rfl⟩:=h;obtain⟨C,R⟩:=om hc hp.1 hx;have A:vx.cells.size=l.length:=by simpa using C.1.symm
    have hcs:PW (aM g w) cs y.toList:=⟨by simpa using hl,λj a b h1 h2=>hr j a b h1 (by simpa using h2)⟩;have G:=wF (P:=P) OS w b off vx (by rw[A,R,hsz]) hh (by omega) (C.one hp.2);rw[A]at G;have hnew:PW (aM g w) (cs.take off++l++cs.drop (Nat.add off (cC l))) (y.toList.take off++vx.cells.toList++y.toList.drop (off+l.length)):=by rw[bL];exact((hcs.take off).append C).append (hcs.drop _)
    obtain⟨hs',S⟩:=hs.acy hb B N (cs':=cs.take off++l++cs.drop (Nat.add off (cC l)))
     (vs':=(y.toList.take off++vx.cells.toList++y.toList.drop (off+l.length)).toArray) (by simpa using hnew.1) (λj t v h1 h2=>hnew.2 j t v h1 (by simpa using h2))
    exact⟨_,g,by simpa[Instr.storeAt,Instr.sureAddr]using G,hs',S,rfl⟩
   .cases h
   |_=>simp at h
  |kH o e k off len cap sz ad ahi=>
   cases F:lR s l with
   |none=>simp[F]at h
   |some r=>
    obtain⟨r,ds,os⟩:=r;simp only[F]at h;cases H:freeze s os with
    |none=>simp[H]at h
    |some s1=>
    simp only[H]at h;cases B:s1.ob.get o with
    |none=>simp[B]at h
    |some ob=>
     cases ob with
     |box _=>simp[B]at h
     |j8 _ _ _=>simp[B]at h
     |map _=>simp[B]at h
     |pH _ _=>simp[B]at h
     |kB _ _ _ _ _ _ _=>simp[B]at h
     |rws _ _ _=>simp[B]at h
     |gone=>simp[B]at h
     |lp _=>simp[B]at h
     |z8=>simp[B]at h
     |arr sz' es era=>
      simp only[B]at h;rcases af h with⟨hn,h9⟩|⟨_,h9⟩
      .simp only[ec]at hn;obtain⟨N,hee⟩:=hn;have N:=fU N;have hee:=beq_iff'.1 hee;subst hee;simp only[bg,bD]at h9;obtain⟨rfl,rfl,rfl⟩:=h9;obtain⟨hp1,ZY,hp3,hp4,hp5,hp6,hp7⟩:=hp;obtain⟨C,R⟩:=om hc hp1 hx;obtain⟨b0,b1,b2⟩:=rN hs l F ZY C.1 C.2;obtain⟨g1,KO,he1,X⟩:=ey os hs H b1;have Cu:=b2 g1 s1 KO he1 X;have hga:=he1.arr _ _ _ ahi;clear ahi;have ann:=X.fl;clear b1 b2 F H X;obtain⟨E,agW⟩:=KO.ny (fz:=J) B hga;change sz=sz' at agW;subst agW;have hk:=Rf hp4;obtain⟨n,I,f,amv⟩:∃n,(D.el es k).cells=n∧n.length=sz∧(off+ds.length<=sz->(D.Qt (D.el es k) off ds).cells=n.take off++ds++n.drop (off+ds.length)):=by
        rcases hp5 with hp5|⟨h1,h2,h3,h4⟩
        .obtain ⟨n,I,f,hcf⟩:=xK hp5;exact⟨n,by rw[I];rfl,f,λ_=>by rw[I];rfl⟩
        .rw[bL]at h4;obtain⟨d1,rfl⟩:=LK.1 h4;have hl1:=D.Nr hp3 d1 (by simp);have Yz:∀d:D,d.leaf=W->d.cells=[d]:=by intro d F;cases d<;>first|rfl|simp[D.leaf]at F
         refine⟨[D.el es k],Yz _ h1,h2.symm,λ_=>?_⟩;subst h3;have:D.Qt (D.el es k) 0 [d1]=d1:=by generalize D.el es k=q at h1;cases q<;>first|rfl|simp[D.leaf]at h1
         rw[this,Yz _ hl1];rfl
       have hoff:off+ds.length<=sz:=by have:=fU hp6;rw[bL]at this;exact this
       have h1:=E.len;have h2:=E.cap;simp only at h1 h2;obtain⟨b,y,ety,hab,hfz,hh,K,M⟩:=E.mem (by simp only;omega);simp only[bg]at hab;subst hab;have A:vx.cells.size=ds.length:=by rw[b0];simpa using C.1.symm
       have hbound:k*sz+sz<=y.size:=by have:(k+1)*sz<=cap*sz:=v8 _ (by omega);rw[Cl,tZ]at this;exact fJ this K
       have hone:∀u∈vx.cells.toList,u.oneCell'=W:=by
        intro u hu;obtain⟨j,hj,rfl⟩:=tF hu;have hj':j<ds.length:=by rw[b0,C.1];exact hj
        exact(um (D.Nr hp3 _ (Gx hj')) (Cu j _ _ (fN hj') (fN hj))).1
       have G:=wF (P:=P) OS w b (k*sz+off) vx (by rw[A,b0,R,hsz]) hh (by omega) hone;have CV:(⟨Z ⟨b,0,Y⟩,len,cap,sz⟩:fE).at b:=⟨_,rfl,rfl,by simp only;omega⟩;have hsc:=amv hoff;have Z0:(y.toList.take (k*sz+off)++vx.cells.toList++y.toList.drop (k*sz+off+vx.cells.size)).length=y.size:=by simp[A];omega
       have adt:vn g1 (w.setRow b (y.toList.take (k*sz+off)++vx.cells.toList++y.toList.drop (k*sz+off+vx.cells.size)).toArray) J sz
         (D.put es k ((D.el es k).Qt off ds)) ⟨Z ⟨b,0,Y⟩,len,cap,sz⟩:=by
        refine⟨by simp[D.put,h1],h2,λd F=>?_,E.pos,λd F=>?_,λh0=>?_,λ_=>⟨b,_,ety,rfl,hfz,setRow_heap w b y _ ety _ hh,by simp only[LG];rw[Z0];exact K,?_⟩⟩
        .obtain ⟨j,hj,rfl⟩:=tF F;rcases Jr _ _ _ _ _ (fN hj)with⟨rfl,_,S⟩|⟨_,S⟩
         .rw[S,hsc];simp[f];omega
         .exact E.rows _ (g8 S)
        .obtain ⟨j,hj,rfl⟩:=tF F;rcases Jr _ _ _ _ _ (fN hj)with⟨rfl,_,S⟩|⟨_,S⟩
         .rw[S,hp7];have hb:=E.YC _ (g8 (D.JY hk));simpa[D.put]using hb
         .have hb:=E.YC _ (g8 S);simpa[D.put]using hb
        .have:es.length=0:=by simpa[D.put]using lS List.length h0
         omega
        .intro i d j c F hj;have m:∀(v:Value),y[i*sz+j]?=Z v->(i≠k∧j<sz∨i=k∧(j<off∨off+ds.length<=j))->
           (y.toList.take (k*sz+off)++vx.cells.toList++y.toList.drop (k*sz+off+vx.cells.size)).toArray[i*sz+j]?=Z v:=by
          intro v hv Ig;have hlt:i*sz+j<y.size:=by have:=(Jo.1 hv).1;exact this
          have adM:i*sz+j<k*sz+off∨k*sz+off+ds.length<=i*sz+j:=by
           rcases Ig with⟨hik,hj⟩|⟨rfl,hj⟩
           .rcases Nat.lt_or_gt_of_ne hik with hik|hik
            .have:(i+1)*sz<=k*sz:=v8 _ hik;rw[Cl,tZ]at this
             left;omega
            .have:(k+1)*sz<=i*sz:=v8 _ hik;rw[Cl,tZ]at this
             right;omega
           .rcases hj with hj|hj
            .left;omega
            .right;omega
          rw[Ol,lD,lD];rcases adM with Yz|Yz
          .rw[bJ (by simp[A];omega),bJ (by simp;omega),v5,bJ Yz];simpa using hv
          .rw[br (by simp[A];omega),DM];have:k*sz+off+vx.cells.size+(i*sz+j-(List.take (k*sz+off) y.toList++vx.cells.toList).length)=i*sz+j:=by simp[A];omega
           rw[this];simpa using hv
         rcases Jr _ _ _ _ _ F with⟨rfl,hlt,rfl⟩|⟨hik,F⟩
         .rw[hsc]at hj;have Mz:j<sz:=by have:=aF hj;simp[f]at this;omega
          by_cases hin:off<=j∧j<off+ds.length
          .have hj2:ds[j-off]?=Z c:=by
            rw[lD,if_pos (by simp[f];omega),lD,br (by simp[f];omega)]at hj;have:j-(n.take off).length=j-off:=by simp[f];omega
            rwa [this]at hj
           have adC:j-off<vx.cells.size:=by omega
           refine⟨vx.cells[j-off],?_,?_⟩
           .rw[Ol,lD,bJ (by simp[A];omega),lD,br (by simp;omega)];have:i*sz+j-(List.take (i*sz+off) y.toList).length=j-off:=by simp;omega
            rw[this];simp[adC]
           .have:=Cu (j-off) c vx.cells[j-off] hj2 (by simp[adC]);exact this.ext (Ext.refl 0 g1 w) KO.bB |>.mono (λb' hb'=>setRow_other w b b' _ (λe=>by subst e;exact Bool.noConfusion (hfz.2 hb'))) (λ_ h=>h)
          .have hj2:n[j]?=Z c:=by
            rw[lD,lD]at hj;by_cases hlo:j<off
            .rw[bJ (by simp[f];omega),bJ (by simp[f];omega),v5,bJ hlo]at hj;exact hj
            .rw[br (by simp[f];omega),DM]at hj;have:off+ds.length+(j-(List.take off n++ds).length)=j:=by simp[f];omega
             rwa [this]at hj
           obtain⟨v,hv,hr⟩:=M i (D.el es i) j c (D.JY hlt) (by rw[I];exact hj2);refine⟨v,m v hv (.inr ⟨rfl,by omega⟩),hr.mono (λb' hb'=>setRow_other w b b' _ (λe=>by subst e;exact Bool.noConfusion (hfz.2 hb'))) (λ_ h=>h)⟩
         .obtain ⟨v,hv,hr⟩:=M i d j c F hj;have Mz:j<sz:=by rw[<-E.rows d (g8 F)];exact aF hj
          exact⟨v,m v hv (.inl ⟨hik,Mz⟩),hr.mono (λb' hb'=>setRow_other w b b' _ (λe=>by subst e;exact Bool.noConfusion (hfz.2 hb'))) (λ_ h=>h)⟩
       obtain⟨hs',S⟩:=KO.acE B hga N CV adt;refine⟨_,g1,?_,hs',he1.trans (ann▸S),rfl⟩;rw[nA];simpa[Instr.storeAt,Instr.sureAddr]using G
      .cases h9
  |_=>simp at h
end
section
variable {k:IntKind}{I:Nat->Prop}{d:D}{b a:T}{va vb:Value}{r:Bool}
def Aw{j:IntKind}(h:nt j k=W):j=k:=by cases j<;>cases k<;>first|rfl|cases h
section
variable {g:Gh}{w:World}{t:T}{v:Value}{p:Prop}
def Th(h:D.isInt k d=W)(a:ek I w d v):v=.int k d.toInt:=by
 cases a with
 |lit v=>
  cases v with|int j n=>rw[Aw h];rfl|_=>cases h
 |_=>cases h
def EF(h:d.isBool=W)(a:ek I w d v):v=.bool d.toBool:=by
 cases a with
 |lit v=>
  cases v with|bool b=>rfl|_=>cases h
 |_=>cases h
def Tg(h:d.isStr=W)(a:ek I w d v):v=.string d.toStr:=by
 cases a with
 |lit v=>
  cases v with|string b=>rfl|_=>cases h
 |_=>cases h
def dN{n:Int}(h:tK k t=Z (p,n))(a:p)(b:aM g w t v):v=.int k n:=by
 cases b with
 |kn j m=>
  simp only[tK]at h;rcases af h with⟨c,h⟩|⟨_,h⟩
  .simp only[bg,bD]at h;rw[Aw c,h.2]
  .cases h
 |sym d v e=>simp only[tK,bg,bD]at h;obtain⟨rfl,rfl⟩:=h;exact Th a e
 |_=>simp[tK]at h
def iN{b:Bool}(h:wW t=Z (p,b))(a:p)(e:aM g w t v):v=.bool b:=by
 cases e with
 |kb c=>simp only[wW,bg,bD]at h;rw[h.2]
 |sym d v f=>simp only[wW,bg,bD]at h;obtain⟨rfl,rfl⟩:=h;exact EF a f
 |_=>simp[wW]at h
def g7{b:ByteArray}(h:xj t=Z (p,b))(a:p)(c:aM g w t v):v=.string b:=by
 cases c with
 |sym d v e=>simp only[xj,bg,bD]at h;obtain⟨rfl,rfl⟩:=h;exact Tg a e
 |_=>simp[xj]at h
def D.vJ(h:d.agF=W):d=.sl d.acu:=by cases d<;>first|rfl|cases h
def QG{s:St}(hs:bh g s w){es:L D}(h:qJ s t=Z (p,es))(x:p)(y:aM g w t v):∃a cap,v=.slice a es.length cap∧es.length<=cap:=by
 cases y with
 |emp a=>simp only[qJ,bg,bD]at h;obtain⟨_,rfl⟩:=h;exact⟨a,0,rfl,by simp⟩
 |jE n b a C q=>simp only[qJ,bg,bD]at h;obtain⟨_,rfl⟩:=h;exact⟨a,_,rfl,bQ _⟩
 |nZ j d c a E q=>simp only[qJ,bg,bD]at h;obtain⟨_,rfl⟩:=h;exact⟨a,1,rfl,bQ _⟩
 |sym d v q=>
  simp only[qJ,bg,bD]at h;obtain⟨rfl,rfl⟩:=h;rw[D.vJ x]at q;generalize d.acu=es at *
  cases q with|sl _ a cap sz val k=>exact⟨a,cap,rfl,k⟩
 |sh o e len cap sz a z=>
  simp only[qJ]at h;have key:∀u f(b:L D)era,s.ob.get o=Z (fI u f b era)->(bif Nat.beq e era then Z (True,b)else Y)=Z (p,es)->
    ∃A i,Value.slice a len cap=.slice A es.length i∧es.length<=i:=by
   intro u f b era l h;rcases af h with⟨B,h⟩|⟨_,h⟩
   .have r:=beq_iff'.1 B;simp only[bg,bD]at h;obtain⟨_,rfl⟩:=h;obtain⟨m,_⟩:=hs.ny (r▸l) z;have h1:=m.len;have h2:=m.cap;simp only at h1 h2;exact⟨a,cap,by rw[h1],by omega⟩
   .cases h
  split at h
  .rename_i f b era l;exact key J f b era l h
  .rename_i f b era l;exact key W f b era l h
  .cases h
 |_=>simp[qJ]at h
end
section
variable {P:Program}{g:Gh}{w:World}
def sL{x:T}{vx:Value}{q:Prop}{y:Bool}(h:FE x=Z (q,y))(a:q)(f:aM g w x vx):vx=.bool y:=by
 cases f with
 |gd c t v e=>
  simp only[FE]at h;split at h
  .rename_i j k h1;simp only[bg,bD]at h;obtain⟨rfl,rfl⟩:=h;exact iN h1 a.2 (e a.1)
  .cases h
 |kb b=>simp only[FE,bg,bD]at h;rw[h.2]
 |sym d v i=>simp only[FE,bg,bD]at h;obtain⟨rfl,rfl⟩:=h;exact EF a i
 |_=>simp[FE]at h
def LW{c:T}{i:Value}{p:Prop}{t:T}(h:HM c a b=Z (p,t))(d:p)(j:aM g w c i)(k:aM g w a va)(l:aM g w b vb) :
  ∃u,i=.bool u∧aM g w t (if u then va else vb):=by
 unfold HM at h;split at h
 .rename_i u;cases j;refine⟨u,rfl,?_⟩;split at h
  .rename_i q y e;simp only[bg,bD]at h;obtain⟨rfl,rfl⟩:=h;cases u with|true=>rw[bJ rfl,sL e d k];exact .sym _ _ (.lit _)|false=>rw[br Bool.noConfusion,sL e d l];exact .sym _ _ (.lit _)
  .cases h
 split at h
 .rename_i n u o r s v m h1 h2;simp only[bg,bD]at h;obtain⟨rfl,rfl⟩:=h;have f:=iN m d.1 j;refine⟨u,f,?_⟩;cases u with|true=>rw[sL h1 (d.2.1 rfl) k];exact .sym _ _ (.lit _)|false=>rw[sL h2 (d.2.2 rfl) l];exact .sym _ _ (.lit _)
 .cases h
def zy{l:Lk}{p:Prop}(h:oZ l a b=Z (p,r))(c:p)(d:aM g w a va)(e:aM g w b vb) :
  zV l va∧zV l vb∧r=EZ va vb:=by
 cases l with
 |int k=>
  simp only[oZ]at h;split at h
  .rename_i f x i y h1 h2;simp only[bg,bD]at h;obtain⟨rfl,rfl⟩:=h;rw[dN h1 c.1 d,dN h2 c.2 e];exact⟨⟨_,rfl⟩,⟨_,rfl⟩,rfl⟩
  .cases h
 |bool=>
  simp only[oZ]at h;split at h
  .rename_i f x i y h1 h2;simp only[bg,bD]at h;obtain⟨rfl,rfl⟩:=h;rw[iN h1 c.1 d,iN h2 c.2 e];exact⟨⟨_,rfl⟩,⟨_,rfl⟩,rfl⟩
  .cases h
 |str=>
  simp only[oZ]at h;split at h
  .rename_i f x i y h1 h2;simp only[bg,bD]at h;obtain⟨rfl,rfl⟩:=h;rw[g7 h1 c.1 d,g7 h2 c.2 e];exact⟨⟨_,rfl⟩,⟨_,rfl⟩,rfl⟩
  .cases h
 |no=>simp[oZ]at h
def uB:∀(c:L Lk)(as bs:L T)(va vb:L Value){p:Prop}{r:Bool},jC c as bs=Z (p,r)->p->PW (aM g w) as va->PW (aM g w) bs vb->
  va.length=c.length∧vb.length=c.length∧(∀(j:Nat)(l:Lk)(v:Value),c[j]?=Z l->va[j]?=Z v->zV l v)∧
   (∀(j:Nat)(l:Lk)(v:Value),c[j]?=Z l->vb[j]?=Z v->zV l v)∧r=kG va vb
 |[],[],[],va,vb,p,r,h,k,d,e=>by simp only[jC,bg,bD]at h;have h1:va=[]:=tH d.1.symm;have h2:vb=[]:=tH e.1.symm;subst h1;subst h2;refine⟨rfl,rfl,λj l v h=>by simp at h,λj l v h=>by simp at h,h.2.symm⟩
 |l::c,a::as,b::bs,va,vb,p,r,h,k,d,e=>by
  simp only[jC]at h;split at h
  .rename_i G x H y h1 h2;simp only[bg,bD]at h;obtain⟨rfl,rfl⟩:=h
   match va,vb,d,e with
   |v::va,u::vb,d,e=>
    obtain⟨s,t,z⟩:=zy h1 k.1 (d.2 0 _ _ rfl rfl) (e.2 0 _ _ rfl rfl);obtain⟨A,B,C,E,F⟩:=uB c as bs va vb h2 k.2 ⟨by simpa using d.1,λj x y m n=>d.2 (j+1) x y (by simpa using m) (by simpa using n)⟩
     ⟨by simpa using e.1,λj x y m n=>e.2 (j+1) x y (by simpa using m) (by simpa using n)⟩
    refine⟨by simp[A],by simp[B],λj o q f i=>?_,λj o q f i=>?_,?_⟩
    .cases j with|zero=>simp at f i;subst f;subst i;exact s|succ j=>exact C j o q (by simpa using f) (by simpa using i)
    .cases j with|zero=>simp at f i;subst f;subst i;exact t|succ j=>exact E j o q (by simpa using f) (by simpa using i)
    .rw[z,F];rfl
  .cases h
 |[],[],_::_,_,_,_,_,h,_,_,_=>by simp[jC]at h
 |[],_::_,_,_,_,_,_,h,_,_,_=>by simp[jC]at h
 |_::_,[],_,_,_,_,_,h,_,_,_=>by simp[jC]at h
 |_::_,_::_,[],_,_,_,_,h,_,_,_=>by simp[jC]at h
def SB(d:Nat){ty e:TypeId}(b:P.underlying ty=Z (.pointer e))(a:Addr):(Op.equalIn (d+1) ty (.pointer Y) (.pointer (Z a))).run P w=.ok J w:=by simp only[Op.equalIn,Sem.run_bind,aO b,Result.andThen_ok];rfl
def SC(d:Nat){ty e:TypeId}(b:P.underlying ty=Z (.pointer e))(a:Addr):(Op.equalIn (d+1) ty (.pointer (Z a)) (.pointer Y)).run P w=.ok J w:=by simp only[Op.equalIn,Sem.run_bind,aO b,Result.andThen_ok];rfl
def SD(d:Nat){ty:TypeId}{a:Array (String×TypeId)}(b:P.underlying ty=Z (.interface a))(t:TypeId)(v:Value):(Op.equalIn (d+1) ty .nilIface (.iface t v)).run P w=.ok J w:=by simp only[Op.equalIn,Sem.run_bind,aO b,Result.andThen_ok];rfl
def Hv(d:Nat){ty:TypeId}{a:Array (String×TypeId)}(b:P.underlying ty=Z (.interface a))(t:TypeId)(v:Value):(Op.equalIn (d+1) ty (.iface t v) .nilIface).run P w=.ok J w:=by simp only[Op.equalIn,Sem.run_bind,aO b,Result.andThen_ok];rfl
def nL{ty:TypeId}(x y:Operand)(h1:binOp .eql ty va vb=(do pure (.bool (<-Op.equal ty va vb))))(h2:binOp .neq ty va vb=(do pure (.bool (!(<-Op.equal ty va vb)))))
  (b:∀op,(eqGuard op ty x y va vb).run P w=.ok () w) (c:(Op.equalIn (9999+1) ty va vb).run P w=.ok r w) :
  ((do eqGuard .eql ty x y va vb;binOp .eql ty va vb:Sem Value)).run P w=.ok (.bool r) w∧((do eqGuard .neq ty x y va vb;binOp .neq ty va vb:Sem Value)).run P w=.ok (.bool (!r)) w:=by
 have a:(Op.equal ty va vb).run P w=.ok r w:=c;rw[h1,h2];constructor
 .rw[Sem.run_bind,b];simp[a]
 .rw[Sem.run_bind,b];simp[a]
def EY{ty:TypeId}{i:TI}(S:nc P ty i){p:Prop}(h:TH i a b=Z (p,r))(u:p)(o:aM g w a va)(s:aM g w b vb)(x y:Operand) :
  ((do eqGuard .eql ty x y va vb;binOp .eql ty va vb:Sem Value)).run P w=.ok (.bool r) w∧((do eqGuard .neq ty x y va vb;binOp .neq ty va vb:Sem Value)).run P w=.ok (.bool (!r)) w:=by
 obtain⟨xi,d0,z,OS,A,hsz,hag,hz,X,c⟩:=S.all;unfold TH at h;rcases af h with⟨d,h⟩|⟨d,h⟩
 .split at h
  .cases h
  .rename_i k ks qa as qb bs hk B C;simp only[eG,bD]at h;obtain⟨⟨q,r'⟩,he,rfl,rfl⟩:=h;obtain⟨F,_⟩:=om B u.1 o;obtain⟨G,_⟩:=om C u.2.1 s;obtain⟨_,_,_,f,_⟩:=lO B u.1 o;obtain⟨_,_,_,t,_⟩:=lO C u.2.1 s;obtain⟨xs,rfl⟩:=f d;obtain⟨ys,rfl⟩:=t d;obtain⟨H,I,K,M,N⟩:=uB (k::ks) as bs _ _ he u.2.2 F G;simp only[Value.cells]at H I K M N;have R:i.lks≠[]:=by rw[hk];simp
   rw[<-hk]at H I K M;have key:∀op,_:=λop=>S.eqs d R w op x y xs ys (by simpa using H) (by simpa using I) (λj l v h1 h2=>K j l v h1 (by simpa using h2)) (λj l v h1 h2=>M j l v h1 (by simpa using h2));refine⟨?_,?_⟩
   .rw[Sem.run_bind,(key .eql).1];simp only[Result.andThen_ok,binOp,Sem.run_bind,(key .eql).2,N];rfl
   .rw[Sem.run_bind,(key .neq).1];simp only[Result.andThen_ok,binOp,Sem.run_bind,(key .neq).2,N];rfl
  .cases h
 .split at h
  .rename_i l E;obtain⟨f,t,rfl⟩:=zy h u o s;rw[E]at c;cases l with
   |int k=>obtain⟨m,rfl⟩:=f;obtain⟨n,rfl⟩:=t;simp[eqGuard,binOp,Op.intCmp,EZ,bne]
   |bool=>obtain⟨m,rfl⟩:=f;obtain⟨n,rfl⟩:=t;simp only[NG]at c;subst c;exact nL x y rfl rfl (λop=>by cases op<;>rfl) (run_equalIn_bool' w _ _ _ _ A)
   |str=>obtain⟨m,rfl⟩:=f;obtain⟨n,rfl⟩:=t;simp[eqGuard,binOp,Op.stringOp,EZ,beq_toListBytes]
   |no=>exact f.elim
  .rename_i E;rw[E]at c;obtain⟨e,rfl⟩:=c;unfold abG at h;split at h
   .simp only[bg,bD]at h;obtain⟨_,rfl⟩:=h;cases o with
    |sym _ _ o=>
    cases o;cases s;exact nL x y rfl rfl (λop=>by cases op<;>rfl) (SB _ A _)
   .simp only[bg,bD]at h;obtain⟨_,rfl⟩:=h;cases s with
    |sym _ _ s=>
    cases s;cases o;exact nL x y rfl rfl (λop=>by cases op<;>rfl) (SC _ A _)
   .cases h
  .rename_i E;rw[E]at c;obtain⟨e,rfl⟩:=c;unfold abH at h;split at h
   .simp only[bg,bD]at h;obtain⟨_,rfl⟩:=h;cases o with
    |sym _ _ o=>
    cases o;cases s;exact nL x y rfl rfl (λop=>by cases op<;>rfl) (SD _ A _ _)
   .simp only[bg,bD]at h;obtain⟨_,rfl⟩:=h;cases s with
    |sym _ _ s=>
    cases s;cases o;exact nL x y rfl rfl (λop=>by cases op<;>rfl) (Hv _ A _ _)
   .cases h
  .cases h
end
end
section
section
variable {P:Program}{g:Gh}{w:World}
variable {i:TI}{a t:T}{va:Value}{p:Prop}{d:D}{s s':St}{k:Nat}
def Px{ty:TypeId}(t:nc P ty i){op:BinOp}{b:T}{l:Value}(h:Ka i op a b=Z (p,d))(c:p)(e:aM g w a va)(f:aM g w b l)(x y:Operand) :
  ∃v,((do eqGuard op ty x y va l;binOp op ty va l:Sem Value)).run P w=.ok v w∧aM g w (.sym d) v:=by
 unfold Ka at h;split at h
 .simp only[eG,bD]at h;obtain⟨⟨q,r⟩,o,rfl,rfl⟩:=h;exact⟨_,(EY t o c e f x y).1,.sym _ _ (.lit _)⟩
 .simp only[eG,bD]at h;obtain⟨⟨q,r⟩,o,rfl,rfl⟩:=h;exact⟨_,(EY t o c e f x y).2,.sym _ _ (.lit _)⟩
 .rename_i u z;split at h
  .rename_i k G;split at h
   .rename_i B m C n h1 h2;cases j:Pm op k m n with
    |some E=>
     simp only[j,bg,bD]at h;obtain⟨rfl,rfl⟩:=h;rw[dN h1 c.1 e,dN h2 c.2 f];cases op<;>simp only[Pm,bg]at j<;>first
      |(cases j;done)
      |(
        subst j;refine⟨_,?_,.sym _ _ (.lit _)⟩;simp[eqGuard,binOp,Op.intCmp,Op.intArith,D.bO,D.ep,D.add,D.dH,D.mul])
    |none=>
     simp only[j,eG,bD]at h;obtain⟨E,s,rfl,rfl⟩:=h;rw[dN h1 c.1 e,dN h2 c.2.1 f];have F:n≠0:=c.2.2;cases op<;>simp only[W4,bg]at s<;>first
      |(cases s;done)
      |(
        subst s;refine⟨_,?_,.sym _ _ (.lit _)⟩;simp[eqGuard,binOp,Op.intDiv,F,D.rem,D.quo])
   .cases h
  .split at h
   .rename_i B m C n h1 h2;simp only[bg,bD]at h;obtain⟨rfl,rfl⟩:=h;rw[g7 h1 c.1 e,g7 h2 c.2.1 f];have A:m.size+n.size<=4611686018427387904:=c.2.2;refine⟨_,?_,.sym _ _ (.lit _)⟩;simp[eqGuard,binOp,Op.stringOp,D.UQ];omega
   .cases h
  .cases h
def Sf{op:UnOp}(h:unT i op a=Z (p,d))(c:p)(e:aM g w a va) :
  ∃v,(Op.unary op va).run P w=.ok v w∧aM g w (.sym d) v:=by
 unfold unT at h;split at h
 .simp only[eG,bD]at h;obtain⟨⟨q,r⟩,b,rfl,rfl⟩:=h;rw[iN b c e];exact⟨_,rfl,.sym _ _ (.lit _)⟩
 .simp only[eG,bD]at h;obtain⟨⟨q,r⟩,b,rfl,rfl⟩:=h;rw[dN b c e];refine⟨_,rfl,?_⟩;simp only[D.neg];rw[show(0:Int)-r=-r from by omega];exact .sym _ _ (.lit _)
 .cases h
def M3{src dst:TypeId}{j:TI}(y:nc P src i)(z:nc P dst j)(h:Iv i j s a=Z (p,t,s'))(x:p)(r:aM g w a va) :
  ∃v,(convert src dst va).run P w=.ok v w∧aM g w t v∧s'=s:=by
 obtain⟨_,d1,_,_,m,_,_,_,_,c⟩:=y.all;obtain⟨_,d2,_,_,o,_,_,_,_,d⟩:=z.all;unfold Iv at h;split at h
 .rename_i k l e f;simp only[eG,bD]at h;obtain⟨⟨q,n⟩,A,rfl,rfl,rfl⟩:=h;rw[e]at c;rw[f]at d;simp only[NG]at c d;subst c;subst d;rw[dN A x r];exact⟨_,by simp[convert,aO m,aO o,Conv.intToInt];rfl,.sym _ _ (.lit _),rfl⟩
 .rename_i e f;simp only[eG,bD]at h;obtain⟨⟨q,b⟩,B,rfl,rfl,rfl⟩:=h;rw[e]at c;rw[f]at d;simp only[NG]at c d;subst c;subst d;have u:=g7 B x r;subst u;exact⟨_,by simp[convert,aO m,aO o],r,rfl⟩
 .cases h
def EU(h:oY s k a=Z (p,t,s'))(j:p)(m:aM g w a va) :
  ∃v,(Instr.extract va k).run P w=.ok v w∧aM g w t v∧s'=s:=by
 cases m with
 |gB o b f i=>
  simp only[oY,jv,eG,bD]at h;obtain⟨q,l,_,rfl,rfl⟩:=h;have c:k<b.size:=by rw[<-f];exact aF l
  refine⟨b[k],by simp[Instr.extract,oI c],i k _ _ l (oI c),rfl⟩
 |sym d v n=>
  simp only[oY,bg,bD]at h;obtain⟨rfl,rfl,rfl⟩:=h;cases n with
  |gB ds b f i=>
   have e:k<ds.length:=by have:Nat.blt k (cC ds)=W:=j;rw[bL]at this;exact fU this
   have c:k<b.size:=by rw[<-f];exact e
   refine⟨b[k],by simp[Instr.extract,oI c],.sym _ _ ?_,rfl⟩;refine i k _ _ ?_ (oI c);simp[D.proj,List.getD,fN e]
  |_=>cases j
 |_=>simp[oY]at h
def add_zero'(a:Addr):a.add 0=a:=by simp[Addr.add]
def AJ{ty:TypeId}(E:nc P ty i)(h:oX i s k a=Z (p,t,s'))(F:aM g w a va) :
  ∃v,(Instr.fieldAt ty va k).run P w=.ok v w∧aM g w t v∧s'=s:=by
 obtain⟨_,d1,_,_,n,_,_,_,_,l⟩:=E.all;unfold oX at h;split at h
 .rename_i S q;rw[q]at l;obtain⟨fields,rfl,G,H⟩:=l;split at h
  .rename_i off size I B;rw[jv]at B;obtain⟨f,j,X,r,u,x,y,_⟩:=H k off size I B;rcases af h with⟨_,h⟩|⟨C,h⟩
   .cases h
   .have z:j.size≠0:=by rw[y];intro e;rw[e]at C;cases C
    have c:∀m,(Instr.fieldAt ty (.pointer (Z m)) k).run P w=.ok (.pointer (Z (m.add off))) w:=by intro m;simp[Instr.fieldAt,Instr.sureAddr,aO n,r,fieldPlace,dI x,z,u]
    cases F with
    |ptr o b bl K=>simp only[bg,bD]at h;obtain⟨_,rfl,rfl⟩:=h;refine⟨_,c _,?_,rfl⟩;rw[nA];exact .ptr _ _ _ K
    |mO d b m val A M N=>simp only[bg,bD]at h;obtain⟨_,rfl,rfl⟩:=h;refine⟨_,c _,?_,rfl⟩;rw[uR];exact .mO _ _ _ _ A M N
    |kH o e j' b len cap sz m R=>simp only[bg,bD]at h;obtain⟨_,rfl,rfl⟩:=h;refine⟨_,c _,?_,rfl⟩;rw[uR,Nat.add_assoc];exact .kH _ _ _ _ _ _ _ _ R
    |_=>simp at h
  .cases h
 .cases h
def Lm{t:TypeId}{x:TypeInfo}{d:TypeDesc}(b:P.info? t=Z x)(c:P.underlying t=Z d)(vs:Array Value)(off:Nat)(hl:off+x.size<=vs.size)(h1:dR d=J->x.size=1) :
  (part t vs off).run P w=.ok (if dR d then .agg ((vs.toList.drop off).take x.size).toArray else((vs.toList.drop off).take x.size).headD undef) w:=by
 simp only[part,Sem.run_bind,rR c,Result.andThen_ok];cases e:dR d with
 |true=>
  simp only[fY,Sem.run_bind,dI b,Result.andThen_ok,Sem.run_pure]
  congr 2
  apply DO;simp
 |false=>
  have f:=h1 e;have a:off<vs.size:=by omega
  rw[f];simp[oI a];have:(vs.toList.drop off).take 1=[vs[off]]:=by rw[QW (by simpa using a)];simp
  rw[this];rfl
def JT{ty:TypeId}(hi:nc P ty i)(h:ER i s k a=Z (p,t,s'))(I:p)(K:aM g w a va) :
  ∃v,(Instr.field ty va k).run P w=.ok v w∧aM g w t v∧s'=s:=by
 obtain⟨_,d1,_,_,x,M,l,_,_,m⟩:=hi.all;unfold ER at h;split at h
 .rename_i fs y;rw[y]at m;obtain⟨fields,rfl,hsz,hf⟩:=m;split at h
  .rename_i off size ag q cs N R;rw[jv]at N;obtain⟨f,j,d',z,A,B,c,C,n⟩:=hf k off size ag N;rcases af h with⟨E,h⟩|⟨_,h⟩
   .have o:=beq_iff'.1 (Am.1 E).1;rw[bL]at o;simp only[eG,bD]at h;obtain⟨t',ht,rfl,rfl,rfl⟩:=h;obtain⟨r,S⟩:=om R I K;obtain⟨_,_,_,F,_⟩:=lO R I K;obtain⟨G,rfl⟩:=F (by rw[l];rfl);simp only[Value.cells]at r;have b:=(r.drop off).take size;obtain⟨u,h1⟩:=vG (g:=g) (w:=w) ht b.1 b.2;have d:((G.toList.drop off).take size).length=size:=by rw[<-b.1,o]
    have hs0:size≠0:=by simp only[ec]at E;intro e;subst e;exact absurd E.2 (by decide)
    have H:off+size<=G.size:=by simp at d;omega
    refine⟨_,?_,u,rfl⟩;have X:=Lm (P:=P) (w:=w) B C G off (by rw[c];exact H) (λhd=>by
     rw[<-n]at hd;obtain⟨v,hv⟩:=h1 hd;rw[hv]at d;rw[c];exact d.symm)
    rw[c,<-n]at X;simp only[Instr.field,Sem.run_bind,aO x,Result.andThen_ok,z,asAgg,Sem.run_pure,A,X]
   .cases h
  .cases h
 .cases h
end
end
section
section
variable {P:Program}{g:Gh}{w:World}
def Bw{ty e:TypeId}{j:TypeInfo}(b:P.underlying ty=Z (.slice e))(c:P.info? e=Z j)(a:Addr)(len cap:Nat)(n:Int)(h:0<=n∧n<len) :
  (Instr.indexAt ty (.slice (Z a) len cap) (.int .i64 n)).run P w=.ok (.pointer (Z (a.add (n.toNat *j.size)))) w:=by
 simp[Instr.indexAt,asIntOf,aO b,dI c,h]
variable {s s':St}{t x ix:T}{v vx vi:Value}{p:Prop}{es:List D}{i:TI}
def Ld(hs:bh g s w)(h:qJ s t=Z (p,es))(C:p)(E:aM g w t v)
  (hf:freeze s (pQ t)=Z s') :
  ∃g',bh g' s' w∧Ext s.fl g w g' w∧s'.fl=s.fl∧s'.aJ=s.aJ∧ek g'.bB w (.sl es) v:=by
 cases E with
 |emp a=>
  simp only[qJ,bg,bD]at h;simp only[pQ,freeze,bg]at hf;subst hf;exact⟨g,hs,Ext.refl _ _ _,rfl,rfl,by
   rw[<-h.2];exact .sl [] a 0 0 (λ_ _=>undef) (by simp) (by simp) (by simp) (λh=>absurd rfl h) (λi j d c h=>by simp at h)⟩
 |jE n f a H l=>simp only[qJ,bg,bD]at h;simp only[pQ,freeze,bg]at hf;subst hf;obtain⟨_,rfl⟩:=h;exact⟨g,hs,Ext.refl _ _ _,rfl,rfl,l⟩
 |nZ j d c a F l=>simp only[qJ,bg,bD]at h;simp only[pQ,freeze,bg]at hf;subst hf;obtain⟨_,rfl⟩:=h;exact⟨g,hs,Ext.refl _ _ _,rfl,rfl,zG F l⟩
 |sym d v l=>simp only[qJ,bg,bD]at h;simp only[pQ,freeze,bg]at hf;subst hf;obtain⟨rfl,rfl⟩:=h;rw[D.vJ C]at l;exact⟨g,hs,Ext.refl _ _ _,rfl,rfl,l⟩
 |sh o e len cap sz a y=>
  simp only[pQ]at hf;have key:∀m b(f:L D)era,s.ob.get o=Z (fI m b f era)->(bif Nat.beq e era then Z (True,f)else Y)=Z (p,es)->
    s.ob.get o=Z (fI m b es e):=by
   intro m b f era q h;rcases af h with⟨G,h⟩|⟨_,h⟩
   .have z:=beq_iff'.1 G;simp only[bg,bD]at h;rw[q,h.2,z]
   .cases h
  have u:∃m b,s.ob.get o=Z (fI m b es e):=by
   simp only[qJ]at h;split at h
   .rename_i b f era q;exact⟨_,_,key J b f era q h⟩
   .rename_i b f era q;exact⟨_,_,key W b f era q h⟩
   .cases h
  obtain⟨m,b,q⟩:=u;obtain⟨g',x,A,r⟩:=ey [o] hs hf (λk B=>by
   simp at B;subst B;exact⟨dB (hs.lt' y) hs.aJ,.inl ⟨e,_,y,.inl ⟨m,b,es,q⟩⟩⟩)
  have l:=x.I4 (r.hit o (by simp) m b es e q) (A.arr _ _ _ y);exact⟨g',x,A,r.fl,r.aJ,l⟩
 |_=>simp[qJ]at h
def vO{I:Nat->Prop}(h:ek I w (.sl es) v):∃a cap,v=.slice a es.length cap∧es.length<=cap∧(∀d∈es,es.length*d.qD<=281474976710656)∧(es≠[]->∃ad sz,a=Z ad∧(∀d∈es,d.cells.length=sz)∧I ad.block∧
  ∃val:Nat->Nat->Value,(∀i j d c,es[i]?=Z d->d.cells[j]?=Z c->w.cell? (ad.add (i*sz+j))=Z (val i j))∧
   (∀i j d c,es[i]?=Z d->d.cells[j]?=Z c->ek I w c (val i j))):=by
 cases h with|sl _ a cap sz val b e f k l=>refine⟨a,cap,rfl,b,f,λg=>?_⟩;obtain⟨ad,h1,h2,h3⟩:=k g;exact⟨ad,sz,h1,e,h2,val,h3,l⟩
def AB{ty:TypeId}(hi:nc P ty i)(hs:bh g s w)(h:kE i s x ix=Z (p,t,s'))(A:p)
  (hx:aM g w x vx) (H:aM g w ix vi):∃v,(Instr.indexAt ty vx vi).run P w=.ok v w∧aM g w t v∧s'=s:=by
 obtain⟨_,d1,_,_,I,_,_,_,_,K⟩:=hi.all;unfold kE at h;split at h
 .rename_i sz ag bt zero q n s4 hn;rw[s4]at K;obtain⟨e,j,d',z,rfl,hj,M,_,_,_,_,_,hpos,_⟩:=K;have gen:∀{es:L D}{q':Prop},qJ s x=Z (q',es)->q'->D.GG n (D.len es)->(D.el es (D.nat n)).wide sz->(∀o e,x≠.sh o e)->q->∃v,(Instr.indexAt ty vx vi).run P w=.ok v w∧aM g w (.mO (D.el es (D.nat n)) 0) v:=by
   intro es q' f Yy r hw l hq;have B:=dN hn hq H;subst B;have C:n.toNat<es.length:=by have h1:=r.1;have h2:=r.2;unfold D.len at h2;omega
   have N:es≠[]:=by intro e;rw[e]at C;simp at C
   have hd':ek g.bB w (.sl es) vx:=by
    cases hx with
    |sym d v R=>simp only[qJ,bg,bD]at f;obtain⟨rfl,rfl⟩:=f;rw[<-D.vJ Yy];exact R
    |jE m es' a hm R=>simp only[qJ,bg,bD]at f;obtain⟨_,rfl⟩:=f;exact R
    |emp a=>simp only[qJ,bg,bD]at f;exact absurd f.2.symm N
    |nZ j d c a hj R=>simp only[qJ,bg,bD]at f;obtain⟨_,rfl⟩:=f;exact zG hj R
    |sh o e len cap sz a hx=>exact absurd rfl (l o e)
    |_=>simp[qJ]at f
   obtain⟨a,cap,rfl,hcap,_,E⟩:=vO hd';obtain⟨ad,u,rfl,y,Tk,val,hc,hr⟩:=E N;have F:=D.JY C;have S:u=sz:=by have h1:=y (D.el es n.toNat) (g8 F);exact h1.symm.trans hw
   subst S;refine⟨_,Bw I hj ad _ _ n ⟨r.1,?_⟩,?_⟩
   .have:=r.2;unfold D.len at this;exact this
   .rw[M,<-add_zero' (ad.add (n.toNat *u))];refine .mO _ 0 (ad.add (n.toNat *u)) (val n.toNat) (by rw[kW];exact Tk) (λk c hk=>?_) (λk c hk=>hr _ _ _ _ F hk);rw[uR];exact hc _ _ _ _ F hk
  split at h
  .rename_i o e';split at h
   .rename_i z' es X;rcases af h with⟨hb,h3⟩|⟨_,h3⟩
    .have hzz:=beq_iff'.1 hb;simp only[bg,bD]at h3;obtain⟨rfl,rfl,rfl⟩:=h3;clear h hb;subst hzz;have B:=dN hn A.1 H;subst B;cases hx with
     |sh _ _ len cap u a hxa=>
     obtain⟨fz,ho⟩:=IA X;obtain⟨G,y⟩:=hs.ny ho hxa;simp only at y;subst y;have h1:=A.2.1;have h2:=A.2.2;unfold D.len at h2;have hl:=G.len;have hc:=G.cap;simp only at hl hc;obtain⟨b,vs,ety,hab,_⟩:=G.mem (by simp only;omega);simp only at hab;subst hab;refine⟨_,Bw I hj _ _ _ n ⟨h1,by omega⟩,?_,rfl⟩;rw[M];exact .kH o e' n.toNat 0 _ _ _ _ hxa
    .cases h3
   .cases h
  .rename_i x' l;split at h
   .rename_i q' es f;simp only[bg,bD]at h;obtain⟨rfl,rfl,rfl⟩:=h;obtain⟨v,h1,h2⟩:=gen f A.2.1 A.2.2.1 A.2.2.2 (λo e he=>l o e he) A.1;exact⟨v,h1,h2,rfl⟩
   .cases h
 .cases h
def get!_some{b:ByteArray}{k:Nat}(h:k<b.size):b[k]?=Z (b.get! k):=by
 rw[getElem?_pos b k h]
 congr 1
 show b.data[k]=b.data[k]!;rw[getElem!_pos b.data k h]
def JN{ty:TypeId}(j:nc P ty i)(h:EI i s x ix=Z (p,t,s'))(c:p)
  (k:aM g w x vx) (d:aM g w ix vi):∃v,(Instr.index ty vx vi).run P w=.ok v w∧aM g w t v∧s'=s:=by
 obtain⟨_,d1,_,_,e,_,_,_,_,a⟩:=j.all;unfold EI at h;split at h
 .rename_i q n o b f l m;rw[f]at a;simp only[NG]at a;subst a;simp only[bg,bD]at h;obtain⟨rfl,rfl,rfl⟩:=h;rw[dN l c.1 d,g7 m c.2.1 k];have h1:=c.2.2.1;have h2:=c.2.2.2;unfold D.Dw at h2;refine⟨_,?_,.sym _ _ (.lit _),rfl⟩;simp only[Instr.index,asIntOf,Sem.run_bind,Sem.run_pure,Result.andThen_ok,aO e];rw[bJ h1,get!_some (by omega)];rfl
 .cases h
def qE{zero:L D}{cells:Array Value}(h:ZOk zero cells):(zero.map oL).length=cells.size∧
  ∀(j:Nat)(t:T)(v:Value),(zero.map oL)[j]?=Z t->cells[j]?=Z v->aM g w t v:=by
 refine⟨by simpa using h.1,λj t v h1 h2=>?_⟩;simp only[gM,eG]at h1;obtain⟨d,a,rfl⟩:=h1;rcases h.2 j d v a h2 with⟨rfl,rfl⟩|rfl
 .exact .emp Y
 .unfold oL;split
  .rename_i heq;simp only[D.lit.injEq]at heq;subst heq;exact .kb _
  .rename_i heq;simp only[D.lit.injEq]at heq;subst heq;exact .kn _ _
  .rename_i heq;cases heq
  .exact .sym _ _ (.lit _)
def GU{ty xt:TypeId}(r:nc P ty i){ok:Bool}(h:p8 i s ty ok x=Z (p,t,s'))
  (K:aM g w x vx) :
  ∃v,(Instr.typeAssert vx xt ty ok).run P w=.ok v w∧aM g w t v∧s'=s:=by
 obtain⟨M,d1,z,k,l,_,N,m,n,R⟩:=r.all;obtain⟨y,A⟩:=r.zag M z k m;have B:i.kd≠.iface->∀o,P.underlying ty≠Z (.interface o):=λa o C=>a (r.nif o C);unfold p8 at h;have b:i.kd≠.iface->∀u v,(Instr.typeAssert (.iface u v) xt ty ok).run P w=((if u=ty then pure (if ok then .tuple #[v,.bool W]else v)else
   if ok then do pure (.tuple #[<-zeroValue ty,.bool J])else runtimePanic (.typeAssertion (Z xt) (Z u) ty "")):Sem Value).run P w:=by
  intro a u v;simp only[Instr.typeAssert,Sem.run_bind,aO l,Result.andThen_ok];cases d1 with|interface o=>exact absurd l (B a o)|_=>rfl
 split at h
 .cases h
 .rename_i u v a;have a:i.kd≠.iface:=λe=>a e;cases K with
  |cR _ _ S E=>
  rcases af h with⟨c,h⟩|⟨c,h⟩
  .have d:=beq_iff'.1 c;simp only[bg,bD]at h;obtain⟨_,rfl,rfl⟩:=h;clear c;subst d;refine⟨_,by rw[b a,bJ rfl];rfl,.gB _ _ rfl (λj t v h1 h2=>?_),rfl⟩
   match j with
   |0=>simp at h1 h2;subst h1;subst h2;exact E
   |1=>simp at h1 h2;subst h1;subst h2;exact .kb _
   |j+2=>simp at h1
  .have F:u≠ty:=λe=>by rw[e]at c;have:=Hz ty;rw[this]at c;cases c
   simp only[eG,bD]at h;obtain⟨X,G,_,rfl,rfl⟩:=h;obtain⟨H,f⟩:=qE (g:=g) (w:=w) n;have q:aM g w X z:=by
    rcases DZ G with⟨I,rfl⟩|⟨I,C⟩
    .obtain ⟨vs,rfl⟩:=y I;exact .agg _ _ H f
    .have:=A I;rw[C,this]at f;exact f 0 _ _ rfl rfl
   refine⟨_,by rw[b a,br F];simp only[fY,Sem.run_bind,er k m,Result.andThen_ok,Sem.run_pure];rfl,.gB _ _ rfl (λj t v h1 h2=>?_),rfl⟩
   match j with
   |0=>simp at h1 h2;subst h1;subst h2;exact q
   |1=>simp at h1 h2;subst h1;subst h2;exact .kb _
   |j+2=>simp at h1
 .rename_i u v a;have a:i.kd≠.iface:=λe=>a e;cases K with
  |cR _ _ S E=>
  rcases af h with⟨c,h⟩|⟨c,h⟩
  .have d:=beq_iff'.1 c;simp only[bg,bD]at h;obtain⟨_,rfl,rfl⟩:=h;clear c;subst d;exact⟨_,by rw[b a,bJ rfl];rfl,E,rfl⟩
  .cases h
 .cases h
end
end
section
section
variable {P:Program}{g:Gh}{w:World}
inductive PM(g:Gh)(w:World):Option T->Option Value->Prop where
 |no:PM g w Y Y
 |yes (t:T) (v:Value) (h:aM g w t v):PM g w (Z t) (Z v)
variable {l:Option T}{p:Prop}{low:Option Value}{lo hi:Int}{s s':St}{x t:T}{vx:Value}
def jV{dflt n:Int}{v:O Value}(h:uM dflt l=Z (p,n))(a:p)(b:PM g w l v) :
  (v=Y∧l=Y∧n=dflt)∨(v=Z (.int .i64 n)∧∃t,l=Z t):=by
 cases b with|no=>simp only[uM,bg,bD]at h;exact .inl ⟨rfl,rfl,h.2.symm⟩|yes t v c=>exact .inr ⟨by rw[dN h a c],t,rfl⟩
def run_sliceBound(n:Int)(y:Nat)(code:BoundsCode)(h:0<=n∧n<=y):(Instr.sliceBound (.int .i64 n) y code).run P w=.ok n.toNat w:=by simp[Instr.sliceBound,asIntOf,h]
def qM(a:Bool)(len cap:Nat){high:O Value}(hl:(low=Y∧lo=0)∨low=Z (.int .i64 lo))(c:(high=Y∧hi=len)∨high=Z (.int .i64 hi))
  (b:0<=lo) (h1:lo<=hi) (h2:hi<=cap):(Instr.sliceBounds a len cap low high Y).run P w=.ok (lo.toNat,hi.toNat,cap) w:=by
 have e:((hi.toNat:Nat):Int)=hi:=by omega
 rcases hl with⟨rfl,rfl⟩|rfl<;>rcases c with⟨rfl,rfl⟩|rfl
 .simp[Instr.sliceBounds]
 .simp[Instr.sliceBounds,run_sliceBound hi cap _ ⟨by omega,h2⟩]
 .simp[Instr.sliceBounds,run_sliceBound lo len _ ⟨b,h1⟩]
 .simp[Instr.sliceBounds,run_sliceBound hi cap _ ⟨by omega,h2⟩,run_sliceBound lo hi.toNat _ ⟨b,by omega⟩]
def qL(a:Bool)(len cap:Nat){b:Int}(hl:(low=Y∧lo=0)∨low=Z (.int .i64 lo))
  (c:0<=lo) (h1:lo<=hi) (h2:hi<=b) (h3:b<=cap):(Instr.sliceBounds a len cap low (Z (.int .i64 hi)) (Z (.int .i64 b))).run P w=.ok (lo.toNat,hi.toNat,b.toNat) w:=by
 have e:((hi.toNat:Nat):Int)=hi:=by omega
 have d:((b.toNat:Nat):Int)=b:=by omega
 rcases hl with⟨rfl,rfl⟩|rfl
 .simp[Instr.sliceBounds,run_sliceBound b cap _ ⟨by omega,h3⟩,run_sliceBound hi b.toNat _ ⟨by omega,by omega⟩]
 .simp[Instr.sliceBounds,run_sliceBound b cap _ ⟨by omega,h3⟩,run_sliceBound hi b.toNat _ ⟨by omega,by omega⟩,run_sliceBound lo hi.toNat _ ⟨c,by omega⟩]
def MZ{I:Nat->Prop}{es:L D}{a:O Addr}{len cap sz:Nat}(h:ek I w (.sl es) (.slice a len cap))(o:D.rows es sz)(A:D.cut lo hi (D.len es))
  (m:Nat) (F:hi.toNat<=m) (v:m<=cap) :
  (D.sub es lo hi).length=hi.toNat-lo.toNat∧ek I w (.sl (D.sub es lo hi)) (.slice (if m=lo.toNat then a else a.map (·.add (lo.toNat *sz))) (hi.toNat-lo.toNat) (m-lo.toNat)):=by
 obtain⟨G,x,y,z,r,k⟩:=vO h;simp only[Value.slice.injEq]at y;obtain⟨rfl,rfl,rfl⟩:=y;obtain⟨H,h1,h2⟩:=A;unfold D.len at h2;have f:(D.sub es lo hi).length=hi.toNat-lo.toNat:=by simp[D.sub];omega
 refine⟨f,?_⟩;have cJ:∀i d,(D.sub es lo hi)[i]?=Z d->es[lo.toNat+i]?=Z d:=by
  intro i d b;simp only[D.sub,DM,v5]at b;split at b
  .exact b
  .cases b
 have g:∀d∈D.sub es lo hi,d∈es:=λd b=>QS (List.mem_of_mem_drop b);rw[<-f];by_cases l:es=[]
 .subst l;have:D.sub [] lo hi=[]:=by simp[D.sub]
  rw[this];exact .sl [] _ _ sz (λ_ _=>undef) (by simp) (by simp) (by simp) (λh=>absurd rfl h) (λi j d c h=>by simp at h)
 .obtain ⟨B,e,rfl,p,s,val,n,C⟩:=k l;have t:e=sz:=by obtain⟨d,ds,rfl⟩:=QY l;rw[<-p d (by simp),o d (by simp)]
  subst t;refine .sl _ _ _ e (λi j=>val (lo.toNat+i) j) (by omega) (λd b=>o d (g d b)) (λd b=>fJ (v8 _ (by omega)) (r d (g d b))) (λq=>?_) (λi j d c b u=>C _ _ _ _ (cJ i d b) u);have E:0<(D.sub es lo hi).length:=DN.2 q;refine⟨B.add (lo.toNat *e),by rw[br (by omega)];rfl,by rw[kW];exact s,λi j d c b u=>?_⟩;rw[uR,show lo.toNat *e+(i*e+j)=(lo.toNat+i)*e+j by rw[Cl];omega];exact n _ _ _ _ (cJ i d b) u
def I2{ty:TypeId}{i:TI}(hi:nc P ty i)(hs:bh g s w){h m:O T}{vl vh vm:O Value}
  (c:oB i s x l h m=Z (p,t,s')) (N:p) (hx:aM g w x vx) (hl:PM g w l vl) (hh:PM g w h vh) (hm:PM g w m vm) :
  ∃g' v,(Instr.sliceAt ty vx vl vh vm).run P w=.ok v w∧bh g' s' w∧Ext s.fl g w g' w∧aM g' w t v∧s'.fl=s.fl∧s'.aJ=s.aJ:=by
 obtain⟨_,d1,_,_,H,_,_,_,_,B⟩:=hi.all;unfold oB at c;split at c
 .rename_i p0 lo R S;rw[R]at B;simp only[NG]at B;subst B;split at c
  .rename_i q b hb;split at c
   .rename_i r A d;simp only[bg,bD]at c;obtain⟨rfl,rfl,rfl⟩:=c;obtain⟨X,c1,I⟩:=N.2.2.2;unfold D.Dw at I d;rw[g7 hb N.2.1 hx];cases hm;refine⟨g,_,?_,hs,Ext.refl _ _ _,.sym _ _ (.lit _),rfl,rfl⟩;have C:=jV S N.1 hl;have f:=jV d N.2.2.1 hh;have k:=qM (P:=P) (w:=w) J b.size b.size (C.imp (λh=>⟨h.1,h.2.2⟩) (·.1)) (f.imp (λh=>⟨h.1,h.2.2⟩) (·.1)) X c1 I;simp[Instr.sliceAt,Instr.slice,aO H,k,D.YN]
   .cases c
  .cases c
 .rename_i sz ag bt zero p0 lo R S;rw[R]at B;obtain⟨e,j,d',z,rfl,hj,Mz,_,_,_,_,_,hpos,_⟩:=B;split at c
  .rename_i q es s1 ZU hfr;have C:=λn=>jV S n hl;split at c
   .rename_i r A d;simp only[bg,bD]at c;obtain⟨rfl,rfl,rfl⟩:=c;cases hm;obtain⟨n,hq,hr,o,E⟩:=N;obtain⟨g',hs',F,hfl,G,hd⟩:=Ld hs ZU hq hx hfr;obtain⟨a,cap,rfl,K,_⟩:=vO hd;obtain⟨X,c1,I⟩:=E;unfold D.len at I;have f:=jV d hr hh;obtain⟨_,u⟩:=MZ hd o ⟨X,c1,I⟩ cap (by omega) (bQ _);refine⟨g',_,?_,hs',F,.sym _ _ u,hfl,G⟩;have k:=qM (P:=P) (w:=w) W es.length cap ((C n).imp (λh=>⟨h.1,h.2.2⟩) (·.1)) (f.imp (λh=>⟨h.1,h.2.2⟩) (·.1)) X c1 (by omega:A<=cap);simp only[Instr.sliceAt,Instr.slice,Sem.run_bind,aO H,Result.andThen_ok,dI hj,Mz,k];rfl
   .rename_i r A y th d;cases hm with
    |yes _ vy hy=>
    split at c
    .simp only[bg,bD]at c;obtain⟨rfl,rfl,rfl⟩:=c;obtain⟨n,hq,hr,e1,e2⟩:=N;obtain⟨a,cap,rfl,K⟩:=QG hs ZU hq hx;have f:=jV d hr hh;cases hy;rcases f with⟨_,h',_⟩|⟨hv,_⟩
     .cases h'
     .subst hv;have z0:lo=0:=e1;have z1:A=0:=e2;refine⟨g,_,?_,hs,Ext.refl _ _ _,.emp a,rfl,rfl⟩;have k:=qL (P:=P) (w:=w) W es.length cap ((C n).imp (λh=>⟨h.1,h.2.2⟩) (·.1)) (by omega) (by omega:lo<=A) (by omega:A<=0) (by omega);simp only[Instr.sliceAt,Instr.slice,Sem.run_bind,aO H,Result.andThen_ok,dI hj,Mz,k];subst z0;subst z1;rfl
    .simp only[eG,bD]at c;obtain⟨⟨t',mx⟩,hmx,rfl,rfl,rfl⟩:=c;obtain⟨n,hq,hr,ht,o,E,rfl⟩:=N;obtain⟨g',hs',F,hfl,G,hd⟩:=Ld hs ZU hq hx hfr;obtain⟨a,cap,rfl,K,_⟩:=vO hd;obtain⟨X,c1,I⟩:=E;unfold D.len at I;have f:=jV d hr hh;obtain⟨M,u⟩:=MZ hd o ⟨X,c1,I⟩ mx.toNat (bQ _) (by omega);rw[dN hmx ht hy];rcases f with⟨_,h',_⟩|⟨hv,_⟩
     .cases h'
     .subst hv;rw[<-M]at u;refine⟨g',.slice (if mx.toNat=lo.toNat then a else a.map (·.add (lo.toNat *sz))) (D.sub es lo mx).length (D.sub es lo mx).length,?_,hs',F,.jE 0 _ _ (Cj _) u,hfl,G⟩;have k:=qL (P:=P) (w:=w) W es.length cap ((C n).imp (λh=>⟨h.1,h.2.2⟩) (·.1)) X c1 (Int.le_refl _) (by omega:mx<=cap);simp only[Instr.sliceAt,Instr.slice,Sem.run_bind,aO H,Result.andThen_ok,dI hj,Mz,k,M];rfl
   .cases c
  .cases c
 .cases c
def HZ{E:Env}(hs:bh g s w){argTypes:Array TypeId}{rt:TypeId}(C:∀k i,E.ti k=Z i->nc P k i)
  (h:e9 E s .len argTypes [x]=Z (p,t,s')) (y:p) (B:aM g w x vx) :
  ∃v,(Builtin.len_ argTypes rt #[vx]).run P w=.ok v w∧aM g w t v∧s'=s:=by
 unfold e9 at h;simp only[]at h;have o:∀i,(nth argTypes.toList 0).bind E.ti=Z i->∃ty,argTypes[0]?=Z ty∧nc P ty i:=by intro i hi;rw[jv]at hi;simp only[rW]at hi;obtain⟨ty,h1,h2⟩:=hi;exact⟨ty,by simpa using h1,C _ _ h2⟩
 have f:∀i q r,(nth argTypes.toList 0).bind E.ti=Z i->(∃a b c d,i.kd=.slice a b c d)->qJ s x=Z (q,r)->q->
   ∃v,(Builtin.len_ argTypes rt #[vx]).run P w=.ok v w∧aM g w (.sym (.lit (.int .i64 (D.len r)))) v:=by
  intro i q r hi n m F;obtain⟨ty,h1,h2⟩:=o i hi;obtain⟨_,d1,_,_,u,_,_,_,_,l⟩:=h2.all;obtain⟨a,b,c,d,n⟩:=n;rw[n]at l;obtain⟨e,j,H,z,rfl,_⟩:=l;obtain⟨a,cap,rfl,_⟩:=QG hs m F B;refine⟨_,?_,.sym _ _ (.lit _)⟩;simp[Builtin.len_,h1,aO u,goInt,D.len]
 split at h
 .rename_i q b i G hi;split at h
  .rename_i n;simp only[bg,bD]at h;obtain⟨rfl,rfl,rfl⟩:=h;obtain⟨ty,h1,h2⟩:=o i hi;obtain⟨_,d1,_,_,u,_,_,_,_,l⟩:=h2.all;rw[n]at l;simp only[NG]at l;subst l;rw[g7 G y B];refine⟨_,?_,.sym _ _ (.lit _),rfl⟩;simp[Builtin.len_,h1,aO u,goInt,D.Dw]
  .rename_i a b c d n;simp only[eG,bD]at h;obtain⟨⟨A,r⟩,m,rfl,rfl,rfl⟩:=h;obtain⟨v,h1,h2⟩:=f i A r hi ⟨_,_,_,_,n⟩ m y;exact⟨v,h1,h2,rfl⟩
  .cases h
 .rename_i i _ hi;split at h
  .rename_i a b c d n;simp only[eG,bD]at h;obtain⟨⟨A,r⟩,m,rfl,rfl,rfl⟩:=h;obtain⟨v,h1,h2⟩:=f i A r hi ⟨_,_,_,_,n⟩ m y;exact⟨v,h1,h2,rfl⟩
  .cases h
 .cases h
end
end
section
section
variable {P:Program}{g:Gh}{w:World}
variable {v:Value}{t:T}{fr:Fr}{a:Act}
def Ef{d:D}(h:BJ v=Z d):d=.lit v:=by
 unfold BJ at h;split at h;all_goals try(simp only[bg]at h;exact h.symm)
 .split at h
  .rename_i a;simp only[bg]at h;rw[Vk.1 a];exact h.symm
  .cases h
 .cases h
def GC(h:ofConst v=Z t):aM g w t v:=by
 unfold ofConst at h;split at h
 .simp only[bg]at h;subst h;exact .kb _
 .simp only[bg]at h;subst h;exact .kn _ _
 .simp only[bg]at h;subst h;exact .emp _
 .split at h
  .rename_i b c;simp only[bg]at h;subst h;rw[Vk.1 b,Vk.1 c];exact .fn _ _ _ _ _ rfl rfl (λj t v h=>by simp at h) (λj t v h=>by simp at h)
  .cases h
 .simp only[eG]at h;obtain⟨d,a,rfl⟩:=h;rw[Ef a];exact .sym _ _ (.cR _ _ _ (.lit _))
 .simp only[eG]at h;obtain⟨d,a,rfl⟩:=h;rw[Ef a];exact .sym _ _ (.lit _)
def bM(hf:cG g fr a w){x:Operand}(h:ju fr x=Z t):aM g w t (a.eval x):=by
 cases x with
 |tmp k=>
  obtain⟨v,b,c⟩:=hf.tm k t h;have:a.eval (.tmp k)=v:=by simp[Act.eval,U3,b]
  rw[this];exact c
 |const v=>exact GC h
 |global _=>cases h
 |func f=>simp only[ju,bg]at h;subst h;exact .fn _ _ _ _ _ rfl rfl (λj t v h=>by simp at h) (λj t v h=>by simp at h)
def fu{fr:Fr}{a:Act}(hf:cG g fr a w):∀{l:L Operand}{ts:L T},wL fr l=Z ts->PW (aM g w) ts (l.map a.eval)
 |[],ts,h=>by simp only[wL,bg]at h;subst h;exact⟨rfl,λj t v h=>by simp at h⟩
 |x::l,ts,h=>by
  simp only[wL]at h;split at h
  .rename_i t r h1 h2;simp only[bg]at h;subst h;have d:=fu hf h2;refine⟨by simp[d.1],λj e v b c=>?_⟩;cases j with|zero=>simp at b c;subst b;subst c;exact bM hf h1|succ j=>exact d.2 j e v (by simpa using b) (by simpa using c)
  .cases h
def n6(g:Gh)(w:World)(a:Nat×T)(b:Nat×Value):Prop:=a.1=b.1∧aM g w a.2 b.2
def nP{fr:Fr}{a:Act}(hf:cG g fr a w):∀{l:L (Nat×Operand)}{ts:L (Nat×T)},qj fr l=Z ts->PW (n6 g w) ts (l.map λ(i,x)=>(i,a.eval x))
 |[],ts,h=>by simp only[qj,bg]at h;subst h;exact⟨rfl,λj t v h=>by simp at h⟩
 |(k,x)::l,ts,h=>by
  simp only[qj]at h;split at h
  .rename_i t r h1 h2;simp only[bg]at h;subst h;have d:=nP hf h2;refine⟨by simpa using d.1,λj e v b c=>?_⟩;cases j with|zero=>simp at b c;subst b;subst c;exact⟨rfl,bM hf h1⟩|succ j=>exact d.2 j e v (by simpa using b) (by simpa using c)
  .cases h
def xE(hf:cG g fr a w){x:O Operand}{t:O T}(h:Mc fr x=Z t):PM g w t (x.map a.eval):=by cases x with|none=>simp only[Mc,bg]at h;subst h;exact .no|some x=>simp only[Mc,eG]at h;obtain⟨u,b,rfl⟩:=h;exact .yes _ _ (bM hf b)
def AE(off:Nat):∀(l:L Value)(a:Nat)(cells:Array Value),off+a+l.length<=cells.size->
  (l.zipIdx a).foldl (λcs x=>cs.setIfInBounds (off+x.2) x.1) cells=(cells.toList.take (off+a)++l++cells.toList.drop (off+a+l.length)).toArray
 |[],a,cells,h=>by simp
 |c::l,a,cells,h=>by
  simp only[eV]at h;simp only[List.zipIdx_cons,BB];rw[AE off l (a+1) _ (by simp;omega)]
  congr 1
  simp only[Array.toList_setIfInBounds,eV];have b:off+(a+1)=off+a+1:=by omega
  have d:off+a+1+l.length=off+a+(l.length+1):=by omega
  rw[b,d];have h1:(cells.toList.set (off+a) c).take (off+a+1)=cells.toList.take (off+a)++[c]:=by rw[List.take_add_one,List.take_set,DL,bJ rfl,bJ (by simp;omega)];rw[List.set_eq_of_length_le (by simp;omega)];rfl
  have h2:(cells.toList.set (off+a) c).drop (off+a+(l.length+1))=cells.toList.drop (off+a+(l.length+1)):=by rw[List.drop_set,bJ (by omega)]
  rw[h1,h2];simp
def uA{place:Nat->O (Nat×TI)}{pl:Nat->O (Nat×Nat)}(d:∀k off i,place k=Z (off,i)->pl k=Z (off,i.size)) :
  ∀(ps:L (Nat×T))(vs:L (Nat×Value)){cells:L T}{cs:Array Value}{p:Prop}{r:L T},BO place cells ps=Z (p,r)->p->PW (n6 g w) ps vs->PW (aM g w) cells cs.toList->
   ∃x,Instr.fill pl cs vs=Z x∧PW (aM g w) r x.toList
 |[],[],cells,cs,p,r,h,y,_,n=>by simp only[BO,bg,bD]at h;obtain⟨_,rfl⟩:=h;exact⟨cs,rfl,n⟩
 |(k,t)::ps,(M,v)::vs,cells,cs,p,r,h,y,c,n=>by
  have z:=c.2 0 _ _ rfl rfl;obtain⟨rfl,F⟩:=z;simp only at F;have m:PW (n6 g w) ps vs:=⟨by simpa using c.1,λj a b G A=>c.2 (j+1) a b (by simpa using G) (by simpa using A)⟩;simp only[BO]at h;split at h
  .cases h
  .rename_i off i B;split at h
   .cases h
   .rename_i q l H;rcases af h with⟨A,h⟩|⟨_,h⟩
    .simp only[eG,bD]at h;obtain⟨⟨N,P⟩,I,rfl,rfl⟩:=h;have o:=fU A;rw[bL,bL]at o;obtain⟨s,C⟩:=om H y.1 F;have u:v.cells.size=l.length:=by simpa using s.1.symm
     have K:cells.length=cs.size:=by simpa using n.1
     have f:off+v.cells.toList.length<=cs.size:=by simp only[HH];have:off+l.length<=cells.length:=o;omega
     have e:=AE off v.cells.toList 0 cs (by simpa using f);simp only[wJ]at e;obtain⟨x,h1,h2⟩:=uA d ps vs (cs:=(cs.toList.take off++v.cells.toList++cs.toList.drop (off+v.cells.toList.length)).toArray) I y.2.2 m (by
      rw[bL];simp only[HH,u];exact((n.take off).append s).append (n.drop _))
     refine⟨x,?_,h2⟩;have E:¬(v.cells.size≠i.size||off+v.cells.size>cs.size)=W:=by simp only[HH]at f;simp[u,C];omega
     simp only[Instr.fill,d _ _ _ B];rw[br E,<-h1,<-e]
     congr 1
     rw[<-Array.foldl_toList,Array.toList_zipIdx]
    .cases h
 |[],_::_,_,_,_,_,_,_,c,_=>by simp[PW]at c
 |_::_,[],_,_,_,_,_,_,c,_=>by simp[PW]at c
def wH{α β:Type}(f:α->Sem β)(r:α->β):∀(l:L α),(∀x∈l,(f x).run P w=.ok (r x) w)->(l.mapM f).run P w=.ok (l.map r) w
 |[],_=>rfl
 |x::l,h=>by have h1:=h x (by simp);have h2:=wH f r l (λy a=>h y (by simp[a]));simp[List.mapM_cons,h1,h2]
def Nj{ty:TypeId}{i:TI}(K:nc P ty i){fs:L (Nat×Nat×Bool)}(s:i.kd=.struct fs){ps:L (Nat×T)}{vs:Array (Nat×Value)}(x:PW (n6 g w) ps vs.toList)
  {p:Prop} {cs:L T} (h:BO (λk=>match nth fs k with|some (off,size,ag)=>Z (off,{(default:TI)with size:=size,agg:=ag})|none=>Y) (i.zero.map oL) ps=Z (p,cs)) (M:p) :
  ∃v,(Instr.build ty vs).run P w=.ok v w∧aM g w (.agg cs) v:=by
 obtain⟨X,d1,z,y,A,_,N,B,e,l⟩:=K.all;rw[s]at l;obtain⟨fields,rfl,C,u⟩:=l;have m:=qE (g:=g) (w:=w) e;have E:∀f:Field,∃n:Nat,f∈fields.toList->(Go.sizeOf f.type).run P w=.ok n w:=by
  intro f;by_cases I:f∈fields.toList
  .obtain ⟨k,s,rfl⟩:=tF I;have F:k<fs.length:=by rw[<-C];simpa using s
   obtain⟨d,j,R,h1,h2,h3,h4,_⟩:=u k (fs[k]).1 (fs[k]).2.1 (fs[k]).2.2 (fN F);have:d=fields.toList[k]:=by
    have b:fields.toList[k]?=Z d:=by simpa using h1
    rw[fN s]at b;exact(eO b).symm
   subst this;exact⟨j.size,λ_=>dI h3 w⟩
  .exact ⟨0,λh=>absurd h I⟩
 obtain⟨sz,c⟩:=SH E;have o:=wH (P:=P) (w:=w) (λf:Field=>Functor.map (Prod.mk f.offset) <| Go.sizeOf f.type) (λf=>(f.offset,sz f)) fields.toList (λf u=>by simp[c f u]);obtain⟨S,h1,h2⟩:=uA (g:=g) (w:=w) (pl:=λk=>((fields.toList.map λf=>(f.offset,sz f)).toArray)[k]?) (λk off ti a=>by
  simp only[jv]at a;split at a
  .rename_i q size ag G;simp only[bg,bD]at a;obtain⟨rfl,rfl⟩:=a;obtain⟨d,j,R,h1,h2,h3,h4,_⟩:=u k q size ag G;have r:d∈fields.toList:=by
    have b:fields.toList[k]?=Z d:=by simpa using h1
    exact g8 b
   have H:=c d r;rw[dI h3]at H;simp only[Result.ok.injEq,and_true]at H;simp[h1,h2,<-H,h4]
  .cases a) ps vs.toList h M x ⟨by simpa using m.1,λj t v h1 h2=>m.2 j t v h1 (by simpa using h2)⟩
 refine⟨.agg S,?_,.agg _ _ (by simpa using h2.1) (λj t v h3 h4=>h2.2 j t v h3 (by simpa using h4))⟩;simp only[Instr.build,Sem.run_bind,er y B,aO A,Result.andThen_ok,Array.mapM_eq_mapM_toList];simp at h1;simp[o,h1]
end
end
section
section
variable {P:Program}{g:Gh}{w:World}
variable {s:St}{w':World}{I:Nat->Prop}{ag:Bool}{sz len:Nat}{d:D}{v:Value}{i:TI}{es zero:List D}{cells:Array Value}
def bh.VD(hs:bh g s w)(o:Obj)(t:w'.heap=w.heap.push o)(p:w'.os=w.os)(i:w'.output=w.output) :
  bh (g.j8 (·=w.heap.size)) s w'∧Ext s.fl g w (g.j8 (·=w.heap.size)) w':=by
 have d:∀b,b<w.heap.size->w'.heap[b]?=w.heap[b]?:=λb f=>by rw[t,QN,br (by omega)]
 have q:w'.heap.size=w.heap.size+1:=by rw[t];simp
 have e:∀k b,bN (g.j8 (·=w.heap.size)) k b->bN g k b:=λk b h=>⟨λx=>h.1 (.inl x),h.2⟩;have r:Ext s.fl g w (g.j8 (·=w.heap.size)) w':=
  ⟨λ_ _ h=>h,λ_ _ _ h=>h,λ_ h=>.inl h,by omega,λb f _=>d b f,λk b h=>.inl (e k b h),λb h=>h.imp id λh=>.inl (by simp only at h;omega),p,i⟩
 refine⟨⟨hs.aJ,hs.ai,λk c n=>?_,λk j y z=>?_,λb f=>?_,λk u b h A=>hs.l9 k u b (e k b h) (e u b A)⟩,r⟩
 .have a:=hs.box k c n;refine a.ext r hs.bB (d c a.2.1) rfl ?_
  rintro(h|h)
  .exact a.1 h
  .have:=a.2.1;omega
 .have l:=hs.arr k j y z;have m:∀v,y.a=Z v->y.cap≠0->v.block<w.heap.size:=l.1;refine l.ext r hs.bB (λb f n=>⟨d b (m _ f n),⟨λh=>h.elim id λh=>?_,.inl⟩⟩) rfl rfl;have:=m _ f n;simp only at h this;omega
 .rcases f with f|f
  .have:=hs.bB b f;omega
  .omega
structure sO(I:Nat->Prop)(w:World)(sz:Nat)(es:List D)(cells:Array Value):Prop where
 size:cells.size=es.length*sz
 rows:∀d∈es,d.cells.length=sz
 rel:∀i j d c,es[i]?=Z d->d.cells[j]?=Z c->∃v,cells[i*sz+j]?=Z v∧ek I w c v
def Pb(h:(bif ag then d.isAgg sz else d.leaf)=W)(h1:(ag||Nat.beq sz 1)=W)(b:ek I w d v) :
  d.cells.length=sz∧v.cells.size=sz∧∀(j:Nat)(c:D)(u:Value),d.cells[j]?=Z c->v.cells[j]?=Z u->ek I w c u:=by
 cases ag with
 |true=>
  simp at h;obtain⟨k,rfl,f,_⟩:=xK h;cases b with|agg _ l e _ i=>exact⟨f,by simp[Value.cells,<-e,f],λj c u h2 h3=>i j c u h2 h3⟩
 |false=>
  simp at h h1;subst h1;obtain⟨_,g⟩:=um h b;have a:d.cells=[d]:=by cases d<;>first|rfl|(simp[D.leaf]at h)
  refine⟨by rw[a];rfl,by rw[g];rfl,λj c u h2 h3=>?_⟩;rw[a]at h2;rw[g]at h3;cases j with|zero=>simp at h2 h3;subst h2;subst h3;exact b|succ j=>simp at h2
def BW{s:St}(hs:bh g s w){i:TI}:∀(ps:L (Nat×T))(vs:L (Nat×Value)){es r:L D}{p:Prop}{os:L Nat},nw s i es ps=Z (p,r,os)->p->PW (n6 g w) ps vs->
  ∀o∈os,Live g s o
 |[],_,es,r,p,os,h,l,_=>by simp only[nw,bg,bD]at h;obtain⟨_,rfl,rfl⟩:=h;intro o ho;cases ho
 |(k,t)::ps,(A,v)::vs,es,r,p,os,h,l,c=>by
  obtain⟨rfl,m⟩:=c.2 0 _ _ rfl rfl;simp only at m;have e:PW (n6 g w) ps vs:=⟨by simpa using c.1,λj a b u n=>c.2 (j+1) a b (by simpa using u) (by simpa using n)⟩;simp only[nw]at h;split at h
  .cases h
  .rename_i q d x y;rcases af h with⟨n,h⟩|⟨_,h⟩
   .simp only[eG,bD]at h;obtain⟨⟨B,C,z⟩,f,rfl,rfl,rfl⟩:=h;obtain⟨a1,_⟩:=kO hs t y l.1 m;have a2:=BW hs ps vs f l.2.2 e;intro o ho;rcases ef.1 ho with ho|ho
    .exact a1 o ho
    .exact a2 o ho
   .cases h
 |_::_,[],_,_,_,_,_,_,c=>by simp[PW]at c
def zA{s:St}(hs:bh g s w){sz:Nat}{ag:Bool}(h1:(ag||Nat.beq sz 1)=W){g':Gh}{s':St}(C:bh g' s' w)(he:Ext s.fl g w g' w) :
  ∀(ps:L (Nat×T))(vs:L (Nat×Value)){es r:L D}{cells:Array Value}{p:Prop}{os:L Nat},nw s {(default:TI)with size:=sz,agg:=ag} es ps=Z (p,r,os)->p->PW (n6 g w) ps vs->
   jJ s s' os->sO g'.bB w sz es cells->(∀o∈os,Live g s o)∧∃K,Instr.fill (λi=>Z (i*sz,sz)) cells vs=Z K∧sO g'.bB w sz r K∧r.length=es.length
 |[],[],es,r,cells,p,os,h,M,_,_,y=>by simp only[nw,bg,bD]at h;obtain⟨_,rfl,rfl⟩:=h;exact⟨λo ho=>(by cases ho),cells,rfl,y,rfl⟩
 |(k,t)::ps,(k',v)::vs,es,r,cells,p,os,h,M,f,E,y=>by
  obtain⟨rfl,hv⟩:=f.2 0 _ _ rfl rfl;simp only at hv;have z:PW (n6 g w) ps vs:=⟨by simpa using f.1,λj a b ha N=>f.2 (j+1) a b (by simpa using ha) (by simpa using N)⟩;simp only[nw]at h;split at h
  .cases h
  .rename_i q d R S;rcases af h with⟨N,h⟩|⟨_,h⟩
   .simp only[eG,bD]at h;obtain⟨⟨p',r',X⟩,F,rfl,rfl,rfl⟩:=h;have G:k<es.length:=by rw[bL]at N;exact fU N
    obtain⟨a1,a2⟩:=kO hs t S M.1 hv;have z1:jJ s s' R:=E.sub (λo ho=>eL _ ho);have z2:jJ s s' X:=E.sub (λo ho=>iX _ ho);have Z7:=a2 g' s' C he z1;obtain⟨c1,A,c3⟩:=Pb M.2.1 h1 Z7;have n:k*sz+sz<=cells.size:=by rw[y.size];have:(k+1)*sz<=es.length*sz:=v8 _ G;rw[Cl,tZ]at this;exact this
    have l:=AE (k*sz) v.cells.toList 0 cells (by simpa[A]using n);simp only[wJ,HH,A]at l;have H:sO g'.bB w sz (es.set k d) (cells.toList.take (k*sz)++v.cells.toList++cells.toList.drop (k*sz+sz)).toArray:=by
     refine⟨?_,λx m=>?_,λi j x c m P=>?_⟩
     .simp only[LG,gw,xz,HH,BC,A,Ak,<-y.size];omega
     .rcases LL m with m|rfl
      .exact y.rows x m
      .exact c1
     .rw[DL]at m;by_cases B:k=i
      .subst B;rw[bJ rfl,bJ G]at m;simp only[bg]at m;subst m;have I:j<sz:=by rw[<-c1];exact aF P
       refine⟨v.cells[j],?_,c3 j c _ P (oI (by omega))⟩;rw[Ol,lD,bJ (by simp;omega),lD,br (by simp;omega)];have:k*sz+j-(List.take (k*sz) cells.toList).length=j:=by simp;omega
       rw[this];simp[A,I]
      .rw[br B]at m;obtain⟨u,hu,S⟩:=y.rel i j x c m P;have I:j<sz:=by rw[<-y.rows x (g8 m)];exact aF P
       refine⟨u,?_,S⟩;have adC:i*sz+j<cells.size:=(Jo.1 hu).1;rw[Ol,lD,lD];rcases Nat.lt_or_gt_of_ne (λe=>B e.symm:i≠k)with hik|hik
       .have:(i+1)*sz<=k*sz:=v8 _ hik;rw[Cl,tZ]at this;rw[bJ (by simp;omega),bJ (by simp;omega),v5,bJ (by omega)];simpa using hu
       .have:(k+1)*sz<=i*sz:=v8 _ hik;rw[Cl,tZ]at this;rw[br (by simp[A];omega),DM];have:k*sz+sz+(i*sz+j-(List.take (k*sz) cells.toList++v.cells.toList).length)=i*sz+j:=by simp[A];omega
        rw[this];simpa using hu
    obtain⟨b1,K,b2,b3,b4⟩:=zA hs h1 C he ps vs F M.2.2 z z2 H;refine⟨λo ho=>?_,K,?_,b3,by rw[b4];simp⟩
    .rcases ef.1 ho with ho|ho
     .exact a1 o ho
     .exact b1 o ho
    .have hno:¬(v.cells.size≠sz||k*sz+v.cells.size>cells.size)=W:=by simp[A];omega
     simp only[Instr.fill];rw[br hno,<-b2,<-l]
     congr 1
     rw[<-Array.foldl_toList,Array.toList_zipIdx]
   .cases h
 |[],_::_,_,_,_,_,_,_,_,f,_,_=>by simp[PW]at f
 |_::_,[],_,_,_,_,_,_,_,f,_,_=>by simp[PW]at f
def ahU(d:D):d.qD<=24*d.cells.length:=by
 have b:∀x:D,x.lby<=24:=by intro x;unfold D.lby;split<;>omega
 have c:∀l:L D,D.mS l<=24*l.length:=by
  intro l
  induction l with|nil=>exact Cj _|cons a l f=>have:=b a;simp only[D.mS,eV];show a.lby+D.mS l<=_;omega
 cases d with
 |agg e=>exact c e
 |lit v=>
  unfold D.qD;have:(D.lit v).cells.length=1:=rfl;rw[this];split<;>first|omega|exact b _|(rename_i h;cases h)
 |sl es=>exact b (.sl es)
 |cR t d=>exact b (.cR t d)
 |gB ds=>exact b (.gB ds)
def sO.TS(h:sO I w sz es cells){b:Nat}{ty:TypeId}{fz:Nat×Nat}(o:w.heap[b]?=Z (.cells cells ty fz))(p:I b){cap:Nat}(g:es.length<=cap)
  (m:∀d∈es,es.length*d.qD<=281474976710656):ek I w (.sl es) (.slice (Z ⟨b,0,Y⟩) es.length cap):=by
 have n:∀q:Nat×Nat,∃v,∀d c,es[q.1]?=Z d->d.cells[q.2]?=Z c->cells[q.1*sz+q.2]?=Z v∧ek I w c v:=by
  rintro⟨i,j⟩
  by_cases l:i<es.length
  .by_cases f:j<(es[i]).cells.length
   .obtain ⟨v,r,s⟩:=h.rel i j _ _ (fN l) (fN f);refine⟨v,λd c a k=>?_⟩;rw[fN l]at a;simp only[bg]at a;subst a;rw[fN f]at k;simp only[bg]at k;subst k;exact⟨r,s⟩
   .refine ⟨undef,λd c a k=>?_⟩;rw[fN l]at a;simp only[bg]at a;subst a;exact absurd (aF k) f
  .exact ⟨undef,λd c a _=>absurd (aF a) l⟩
 obtain⟨val,e⟩:=SH n;refine .sl es _ cap sz (λi j=>val (i,j)) g h.rows m (λ_=>⟨_,rfl,p,λi j d c a f=>?_⟩) (λi j d c a f=>(e (i,j) d c a f).2);rw[nA,cell?_of_block o];simpa using(e (i,j) d c a f).1
def Ac(h:ael d v):ek I w d v:=by
 rcases h with⟨rfl,rfl⟩|rfl
 .exact .sl [] Y 0 0 (λ_ _=>undef) (by simp) (by simp) (by simp) (λh=>absurd rfl h) (λi j d c h=>by simp at h)
 .exact .lit _
def sO.mono{I a:Nat->Prop}{w w':World}{sz:Nat}{es:L D}{cells:Array Value}(h:sO I w sz es cells)(e:tu I w w')(f:∀b,I b->a b):sO a w' sz es cells:=
 ⟨h.size,h.rows,λi j d c g k=>let ⟨v,l,m⟩:=h.rel i j d c g k;⟨v,l,m.mono e f⟩⟩
def KR(a:ZOk zero cells)(h1:(ag||Nat.beq sz 1)=W)(hl:cC zero=sz) :
  sO I w sz (List.replicate len (bif ag then .agg zero else zero.getD 0 default)) ((Array.range (len*sz)).map (cells[·%cells.size]!)):=by
 rw[bL]at hl;have b:cells.size=sz:=by rw[<-a.1,hl]
 have o:(bif ag then D.agg zero else zero.getD 0 default).cells=zero:=by
  cases ag with
  |true=>rfl
  |false=>
   simp at h1;have e:zero.length=1:=by rw[hl,h1]
   match zero,e with
   |[d],_=>
    have:=a.2 0 d cells[0] rfl (oI (by omega));rcases this with⟨h,_⟩|h<;>(rw[h];rfl)
 refine⟨by simp,λd f=>?_,λi j d c p g=>?_⟩
 .rw[Vm f,o,hl]
 .have k:i<len:=by have:=aF p;simpa using this
  have l:d=(bif ag then D.agg zero else zero.getD 0 default):=Vm (g8 p);rw[l,o]at g;have m:j<sz:=by rw[<-hl];exact aF g
  have n:i*sz+j<len*sz:=by have:(i+1)*sz<=len*sz:=v8 _ k;rw[Cl,tZ]at this;omega
  refine⟨cells[j]'(by omega),?_,Ac (a.2 j c _ g (oI (by omega)))⟩;have q:(i*sz+j)%cells.size=j:=by rw[b,xw,Nat.mul_add_mod,Nat.mod_eq_of_lt m]
  simp[n,q];rw[getElem!_pos cells j (by omega)]
def AY{ty:TypeId}(hi:nc P ty i){E:St}(hs:bh g s w){bt:Nat}(hk:i.kd=.slice sz ag bt zero)(h1:(ag||Nat.beq sz 1)=W)(n:cC zero=sz)(h0:sz≠0)
  (hlen:len*sz<=16777216) {ps:L (Nat×T)} {vs:Array (Nat×Value)} (o:PW (n6 g w) ps vs.toList) {p:Prop} {es:L D} {os:L Nat}
  (h:nw s {(default:TI)with size:=sz,agg:=ag} (List.replicate len (bif ag then .agg zero else zero.getD 0 default)) ps=Z (p,es,os)) (hp:p) (hf:freeze s os=Z E) :
  ∃w' g' v,(Instr.buildSlice ty len vs).run P w=.ok v w'∧bh g' E w'∧Ext s.fl g w g' w'∧aM g' w' (.jE len es) v∧E.fl=s.fl∧E.aJ=s.aJ:=by
 obtain⟨xi,d1,z,OS,q,_,hag,hzx,zf,r⟩:=hi.all;rw[hk]at r;obtain⟨e,j,d',F,rfl,G,t,hue,hage,H,u,_,_,_⟩:=r;have y:=BW hs ps vs.toList h hp o;obtain⟨g1,f,A,b⟩:=ey os hs hf y;have ZP:F.cells.size=sz:=by have:=u.1;rw[bL]at n;omega
 obtain⟨_,rs,a,c,I⟩:=zA hs h1 f A ps vs.toList h hp o b (KR u h1 n);have k:es.length=len:=by rw[I];simp
 obtain⟨K,l⟩:=f.VD (w':=w.alloc (.cells rs e)) (.cells rs e) rfl rfl rfl;have m:=c.mono (l.keeps f.bB) l.bB;have M:=m.TS (cap:=es.length) (vQ w _) (.inr rfl) (bQ _) (λd M=>by
  have h3:=ahU d;rw[c.rows d M]at h3;have h4:es.length*d.qD<=len*(24*sz):=by rw[k];exact Nat.mul_le_mul_left _ h3
  have h5:len*(24*sz)=24*(len*sz):=by rw[<-Lw,xw len 24,Lw]
  omega)
 refine⟨_,_,.slice (Z ⟨w.heap.size,0,Y⟩) es.length es.length,?_,K,(b.fl▸A.trans (b.fl▸l)),.jE len es _ (by omega) M,b.fl,b.aJ⟩;have N:¬(len*sz>2 ^ 24):=by omega
 by_cases B:len*sz=0
 .have C:len=0:=by
   rcases Nat.mul_eq_zero.1 B with h|h
   .exact h
   .exact absurd h h0
  subst C;simp only[Nat.zero_mul]at a;have R:(Array.range 0).map (λx=>F.cells[x%F.cells.size]!)=#[]:=by simp
  rw[R]at a;have S:es.length=0:=k;have X:Array.range 0=#[]:=by simp
  simp[X,Instr.buildSlice,aO q,dI G,t,a,newRow,S]
 .simp[Instr.buildSlice,aO q,dI G,t,er G H,N,B,a,newRow,k]
end
end
section
section
variable {P:Program}{g:Gh}{w:World}
structure qx(I:Nat->Prop)(w:World)(sz:Nat)(es:List D)(vals:List Value):Prop where
 len:vals.length=es.length*sz
 rows:∀d∈es,d.cells.length=sz
 rel:∀i j d c,es[i]?=Z d->d.cells[j]?=Z c->∃v,vals[i*sz+j]?=Z v∧ek I w c v
variable {i j n sz:Nat}{val:Nat->Nat->Value}{v:Value}{s:St}{t:T}{p:Prop}{es:List D}{I:Nat->Prop}{vals:List Value}
def JO(a:i<n)(b:j<sz):i*sz+j<n*sz:=by have:(i+1)*sz<=n*sz:=v8 _ a;rw[Cl,tZ]at this;omega
def ZN(a:j<sz):(i*sz+j)/sz=i∧(i*sz+j)%sz=j:=by
 have b:0<sz:=by omega
 constructor
 .rw[xw,Nat.mul_add_div b,Nat.div_eq_of_lt a];rfl
 .rw[xw,Nat.mul_add_mod,Nat.mod_eq_of_lt a]
def pO(sz n:Nat)(val:Nat->Nat->Value):L Value:=(List.range (n*sz)).map λk=>val (k/sz) (k%sz)
def Bx(b:i<n)(a:j<sz):(pO sz n val)[i*sz+j]?=Z (val i j):=by obtain⟨h1,h2⟩:=ZN (i:=i) a;simp[pO,Oj (JO b a),h1,h2]
def yJ{k:Nat}(b:0<sz)(h:(pO sz n val)[k]?=Z v):∃i j,i<n∧j<sz∧k=i*sz+j∧v=val i j:=by simp only[pO,gM,eG]at h;obtain⟨d,c,rfl⟩:=h;obtain⟨rfl,a⟩:=oH c;refine⟨k/sz,k%sz,QO (by rw[xw];exact a),Nat.mod_lt _ b,?_,rfl⟩;rw[xw];exact(Nat.div_add_mod k sz).symm
def qI(hs:bh g s w)(h:qJ s t=Z (p,es))(hp:p)(ht:aM g w t v)(h0:0<sz)(r:D.rows es sz) :
  ∃a cap,v=.slice a es.length cap∧es.length<=cap∧(∀d∈es,es.length*d.qD<=281474976710656)∧
   (es≠[]->∃ad val,a=Z ad∧(g.bB ad.block∨∃o,pQ t=[o]∧bN g o ad.block)∧
    (∀i j,i<es.length->j<sz->w.cell? (ad.add (i*sz+j))=Z (val i j))∧qx g.bB w sz es (pO sz es.length val)):=by
 have data:∀{v:Value},ek g.bB w (.sl es) v->∃a cap,v=.slice a es.length cap∧es.length<=cap∧(∀d∈es,es.length*d.qD<=281474976710656)∧
   (es≠[]->∃ad val,a=Z ad∧(g.bB ad.block∨∃o,pQ t=[o]∧bN g o ad.block)∧
    (∀i j,i<es.length->j<sz->w.cell? (ad.add (i*sz+j))=Z (val i j))∧qx g.bB w sz es (pO sz es.length val)):=by
  intro v k;obtain⟨a,cap,rfl,H,N,B⟩:=vO k;refine⟨a,cap,rfl,H,N,λx=>?_⟩;obtain⟨ad,f,rfl,y,z,val,hc,P⟩:=B x;have C:f=sz:=by obtain⟨d,ds,rfl⟩:=QY x;rw[<-y d (by simp),r d (by simp)]
  subst C;have E:∀i j(q:i<es.length)(l:j<f),(es[i]).cells[j]?=Z ((es[i]).cells[j]'(by rw[y _ (Gx q)];exact l)):=λi j q l=>fN _;refine⟨ad,val,rfl,.inl z,λi j q l=>hc i j _ _ (fN q) (E i j q l),⟨by simp[pO],y,λi j d c k l=>?_⟩⟩;have q:=aF k;have F:j<f:=by rw[<-y d (g8 k)];exact aF l
  exact⟨val i j,Bx q F,P i j d c k l⟩
 cases ht with
 |emp a=>simp only[qJ,bg,bD]at h;obtain⟨_,rfl⟩:=h;exact⟨a,0,rfl,bQ _,by simp,λh=>absurd rfl h⟩
 |jE n I a hn k=>simp only[qJ,bg,bD]at h;obtain⟨_,rfl⟩:=h;exact data k
 |nZ j d c a l k=>simp only[qJ,bg,bD]at h;obtain⟨_,rfl⟩:=h;exact data (zG l k)
 |sym d v k=>simp only[qJ,bg,bD]at h;obtain⟨rfl,rfl⟩:=h;rw[D.vJ hp]at k;exact data k
 |sh o e len cap sz2 a hx=>
  have key:∃fz f,s.ob.get o=Z (fI fz f es e):=by
   simp only[qJ]at h;split at h
   .rename_i f I era K;rcases af h with⟨R,h⟩|⟨_,h⟩
    .have G:=beq_iff'.1 R;simp only[bg,bD]at h;exact⟨J,f,by rw[K,h.2,G];rfl⟩
    .cases h
   .rename_i f I era K;rcases af h with⟨R,h⟩|⟨_,h⟩
    .have G:=beq_iff'.1 R;simp only[bg,bD]at h;exact⟨W,f,by rw[K,h.2,G];rfl⟩
    .cases h
   .cases h
  obtain⟨fz,f,K⟩:=key;obtain⟨m,adj⟩:=hs.ny K hx;have h1:=m.len;have h2:=m.cap;simp only at h1 h2;refine⟨a,cap,by rw[h1],by omega,m.YC,λx=>?_⟩;have hpos:0<es.length:=DN.2 x;obtain⟨b,S,ty,M,hfz,hh,X,A⟩:=m.mem (by simp only;omega);simp only at M;subst M;have C:f=sz:=by obtain⟨d,ds,rfl⟩:=QY x;rw[<-m.rows d (by simp),r d (by simp)]
  subst C;have hcs':cap*f<=S.size:=X;have hvs:∀i j,i<es.length->j<f->i*f+j<S.size:=λi j q l=>by have:=JO (show i<cap by omega) l;omega
  refine⟨⟨b,0,Y⟩,λi j=>S.getD (i*f+j) undef,rfl,?_,λi j q l=>?_,⟨by simp[pO],m.rows,λi j d c k l=>?_⟩⟩
  .by_cases z:g.bB b
   .exact .inl z
   .exact .inr ⟨o,rfl,z,.inr ⟨e,_,_,hx,rfl,rfl,by simp only;omega⟩⟩
  .rw[nA,cell?_of_block hh];have:=hvs i j q l;simp[Array.getD,this]
  .have q:=aF k;have F:j<f:=by rw[<-m.rows d (g8 k)];exact aF l
   obtain⟨u,hu,P⟩:=A i d j c k l;refine⟨u,?_,P⟩;rw[Bx q F];simp[U3,hu]
 |_=>simp[qJ]at h
def qx.one(h:qx I w sz es vals)(m:0<sz)(hf:∀d∈es,d.flat=W):∀v∈vals,v.oneCell'=W:=by
 intro v n;obtain⟨k,i,rfl⟩:=tF n;have e:k<es.length*sz:=by rw[<-h.len];exact i
 have j:k/sz<es.length:=QO (by rw[xw];exact e);have o:k%sz<sz:=Nat.mod_lt _ m;have a:=Gx j;have c:k%sz<(es[k/sz]).cells.length:=by rw[h.rows _ a];exact o
 obtain⟨u,l,p⟩:=h.rel (k/sz) (k%sz) _ _ (fN j) (fN c);have f:k/sz*sz+k%sz=k:=by rw[xw];exact Nat.div_add_mod k sz
 rw[f,fN i]at l;have g:=eO l;subst g;have b:=hf _ a;unfold D.flat at b;rw[eC]at b;exact(um (b _ (Gx c)) p).1
def qx.append{e:L D}{a:L Value}(h:qx I w sz es vals)(g:qx I w sz e a):qx I w sz (es++e) (vals++a):=by
 refine⟨by simp[h.len,g.len,Cl],λd b=>?_,λi j d c b l=>?_⟩
 .rcases ef.1 b with b|b
  .exact h.rows d b
  .exact g.rows d b
 .rw[lD]at b;by_cases m:i<es.length
  .rw[bJ m]at b;obtain⟨v,f,k⟩:=h.rel i j d c b l;refine⟨v,?_,k⟩;have:=aF f;rw[lD,bJ this];exact f
  .rw[br m]at b;obtain⟨v,f,k⟩:=g.rel (i-es.length) j d c b l;refine⟨v,?_,k⟩;have n:es.length*sz<=i*sz:=v8 _ (by omega);rw[lD,br (by rw[h.len];omega),h.len];have:i*sz+j-es.length*sz=(i-es.length)*sz+j:=by rw[Nat.sub_mul];omega
   rw[this];exact f
def qx.nil:qx I w sz [] []:=⟨by simp,by simp,λi j d c h=>by simp at h⟩
def qx.mono{I a:Nat->Prop}{w w':World}{sz:Nat}{es:L D}{vals:L Value}(h:qx I w sz es vals)(e:tu I w w')(f:∀b,I b->a b):qx a w' sz es vals:=
 ⟨h.len,h.rows,λi j d c g k=>let ⟨v,l,m⟩:=h.rel i j d c g k;⟨v,l,m.mono e f⟩⟩
def yD(hs:bh g s w)(h:qJ s t=Z (p,es))(x:p)(y:aM g w t v)(l:0<sz)(c:D.rows es sz)(hf:∀d∈es,d.flat=W)
  {q z:TypeId} (m:P.underlying q=Z (.slice z)):∃b,Src P sz q v es.length b w∧qx g.bB w sz es b∧Builtin.lenOf v=Sem.pure es.length:=by
 obtain⟨a,cap,rfl,r,A,e⟩:=qI hs h x y l c;by_cases f:es=[]
 .subst f;refine⟨[],?_,.nil,rfl⟩;cases a with|none=>exact Src.ofNil w m cap|some n=>exact Src.ofSlice w m n 0 cap [] (by simp) (by simp) (by simp)
 .obtain ⟨n,val,rfl,_,B,o⟩:=e f;refine⟨_,Src.ofSlice w m n es.length cap _ o.len (λk u C=>?_) (o.one l hf),o,rfl⟩;obtain⟨i,j,E,F,rfl,rfl⟩:=yJ l C;exact B i j E F
def Gj(P:Program)(t a rt:TypeId)(vx vy:Value)(w:World)(R:Value->World->Prop):Prop:=
 ∃v w',(Builtin.append_ #[t,a] rt #[vx,vy]).run P w=.ok v w'∧R v w'
def zQ{ty f rt e k:TypeId}{j:TypeInfo}{z:Value}(l:P.underlying ty=Z (.slice e))(m:P.underlying f=Z (.slice k))(o:P.info? e=Z j)(p:j.zero=Z z)(g:0<j.bytes)
  {base:O Addr} {len cap n:Nat} {olds a:L Value} {vy:Value} (c:(Builtin.firstCells j.size len (.slice base len cap)).run P w.drew=.ok olds.toArray w.drew)
  (hs:Src P j.size f vy n a w) (q:cap<len+n) (i:Builtin.nextslicecap (len+n) cap*j.bytes<=281474976710656) :
  Gj P ty f rt (.slice base len cap) vy w λv w'=>∃b,v=.slice (Z ⟨w.heap.size,0,Y⟩) (len+n) b∧len+n<=b∧
   w'=w.drew.alloc (.cells ((olds++a).toArray++Builtin.zeroCells z.cells (b-(len+n))) e):=by
 have r:(len+n)*j.bytes<=281474976710656:=fJ (v8 _ (le_nextslicecap (by omega))) i;have h:((len+n:Nat):Int)<=9223372036854775807:=by have:len+n<=(len+n)*j.bytes:=Nat.le_mul_of_pos_right _ g;omega
 have d:=run_append_grow_src (P:=P) w ty f rt e j z l o p base len cap olds c vy n a hs q h i;exact⟨_,_,d,_,rfl,grownCap_ge w (len+n) cap e,rfl⟩
def FF{ty b rt e:TypeId}{j:TypeInfo}(d:P.underlying ty=Z (.slice e))(f:P.info? e=Z j){base:O Addr}{len cap:Nat}{vy:Value}(hs:Src P j.size b vy 0 [] w)(a:len<=cap) :
  (Builtin.append_ #[ty,b] rt #[.slice base len cap,vy]).run P w=.ok (.slice base len cap) w:=by
 rcases hs.kind with⟨g,c⟩|c<;>cases base<;>
  simp[Builtin.append_,aO d,aO c,dI f,hs.len,a,hs.cells,storeCells]
end
end
section
section
variable {P:Program}{g:Gh}{w:World}
variable {o:Obj}{w':World}{sz cap n qD bt:Nat}{es:List D}{vals:List Value}{vx vy:Value}
def DV(a:w'.heap=w.heap.push o)(b:Nat)(c:b<w.heap.size):w'.heap[b]?=w.heap[b]?:=by rw[a,QN,br (by omega)]
def LP(a:w'.heap=w.heap.push o):w'.heap[w.heap.size]?=Z o:=by rw[a];simp
def RI{g':Gh}(a:g'.bB=g.bB)(q:∀b,g.bB b->b<w.heap.size){r:Array Value}{e:TypeId}
  (s:w'.heap=w.heap.push (.cells (vals.toArray++r) e)) (k:qx g.bB w sz es vals) (t:0<sz) (l:r.size=(cap-es.length)*sz) (u:es.length<=cap) (m:es≠[])
  (n:∀d∈es,es.length*d.qD<=281474976710656):vn g' w' J sz es ⟨Z ⟨w.heap.size,0,Y⟩,es.length,cap,sz⟩:=by
 have x:tu g.bB w w':=λb o=>DV s b (q b o);refine⟨rfl,u,k.rows,t,n,λh=>absurd h m,λ_=>⟨w.heap.size,_,e,rfl,⟨λh=>(by cases h),λh=>?_⟩,LP s,?_,λi d j c y z=>?_⟩⟩
 .rw[a]at h;have:=q _ h;omega
 .simp only[Array.size_append,LG,k.len,l];rw[<-Cl];exact v8 _ (by omega)
 .obtain ⟨v,f,A⟩:=k.rel i j d c y z;refine⟨v,?_,A.mono x (λb o=>by rw[a];exact o)⟩;have p:=aF f;rw[QT,bJ (by simpa using p)];simpa using f
def vH{len:Nat}{base:O Addr}{olds:L Value}(hl:olds.length=len*sz)(h:len≠0->∃ad,base=Z ad∧∀k u,olds[k]?=Z u->w.cell? (ad.add k)=Z u) :
  (Builtin.firstCells sz len (.slice base len cap)).run P w.drew=.ok olds.toArray w.drew:=by
 by_cases a:len=0
 .subst a;have:olds=[]:=tH (by simpa using hl);subst this;cases base with|none=>exact run_firstCells_none w.drew sz 0 0 cap|some ad=>exact run_firstCells_some w.drew sz 0 ad 0 cap [] (by simp) (by simp)
 .obtain ⟨ad,rfl,b⟩:=h a;exact run_firstCells_some w.drew sz len ad len cap olds hl (λk u c=>by rw[World.cell?_drew];exact b k u c)
def Gj.mono{t a rt:TypeId}{R b:Value->World->Prop}(h:Gj P t a rt vx vy w R)(c:∀v w',R v w'->b v w'):Gj P t a rt vx vy w b:=by obtain⟨v,w',h1,h2⟩:=h;exact⟨v,w',h1,c _ _ h2⟩
def qx.TS{I:Nat->Prop}(h:qx I w sz es vals){b:Nat}{ty:TypeId}{fz:Nat×Nat}{cells:Array Value}(r:w.heap[b]?=Z (.cells cells ty fz))(s:I b)
  (e:∀(k:Nat)(v:Value),vals[k]?=Z v->cells[k]?=Z v) {cap:Nat} (l:es.length<=cap) (o:∀d∈es,es.length*d.qD<=281474976710656):ek I w (.sl es) (.slice (Z ⟨b,0,Y⟩) es.length cap):=by
 have p:∀q:Nat×Nat,∃v,∀d c,es[q.1]?=Z d->d.cells[q.2]?=Z c->cells[q.1*sz+q.2]?=Z v∧ek I w c v:=by
  rintro⟨i,j⟩
  by_cases n:i<es.length
  .by_cases g:j<(es[i]).cells.length
   .obtain ⟨v,t,u⟩:=h.rel i j _ _ (fN n) (fN g);refine⟨v,λd c a m=>?_⟩;rw[fN n]at a;simp only[bg]at a;subst a;rw[fN g]at m;simp only[bg]at m;subst m;exact⟨e _ _ t,u⟩
   .refine ⟨undef,λd c a m=>?_⟩;rw[fN n]at a;simp only[bg]at a;subst a;exact absurd (aF m) g
  .exact ⟨undef,λd c a _=>absurd (aF a) n⟩
 obtain⟨val,f⟩:=SH p;refine .sl es _ cap sz (λi j=>val (i,j)) l h.rows o (λ_=>⟨_,rfl,s,λi j d c a g=>?_⟩) (λi j d c a g=>(f (i,j) d c a g).2);rw[nA,cell?_of_block r];simpa using(f (i,j) d c a g).1
def ES(hf:n<=17179869184)(a:qD<=4096)(b:cap<n):Builtin.nextslicecap n cap*qD<=281474976710656:=by have h1:=nextslicecap_le b;have:Builtin.nextslicecap n cap*qD<=(2*17179869184)*4096:=LA (by omega) a;omega
def JU(hf:n<=17179869184)(a:qD<=4096)(h:bt<=2*qD):n*bt<=281474976710656:=by have:n*bt<=17179869184*8192:=LA hf (by omega);omega
def Cb{ty tx rt e e':TypeId}{l:TypeInfo}{z:Value}(S:P.underlying ty=Z (.slice e))(hu2:P.underlying tx=Z (.slice e'))(X:P.info? e=Z l)(hjz:l.zero=Z z)(hzs:z.cells.size=l.size)(h0:0<l.size)
  (hb0:0<l.bytes) (O1:l.bytes<=4096) (pI:bt<=2*l.bytes) (hI:∀b,g.bB b->b<w.heap.size) {es new:L D} {f:L Value} {x:fE} {vy:Value}
  (m:vn g w J l.size es x) (K:∀b,x.at b->b<w.heap.size) (M:∀d∈D.app es new,d.qD=bt) (y:D.rows new l.size)
  (p:Src P l.size tx vy new.length f w) (hv:qx g.bB w l.size new f) (A:D.Rp es new)
  (hy:new≠[]->∃B cy,vy=.slice (Z B) new.length cy∧¬x.at B.block∧∀k,k<new.length*l.size->(w.cell? (B.add k)).isSome=W) :
  Gj P ty tx rt (.slice x.a x.len x.cap) vy w λv w'=>∃x',Sc g w l.size (D.app es new) x v w' x':=by
 obtain⟨a,len,cap,xsz⟩:=x;have hl1:=m.len;have hl2:=m.cap;simp only at hl1 hl2;subst hl1;by_cases C:new=[]
 .subst C;have OX:f=[]:=tH (by simpa using hv.len);subst OX;have aab:D.app es []=es:=ij es;rw[aab];exact⟨_,_,FF (P:=P) S X p hl2,⟨a,es.length,cap,l.size⟩,rfl,rfl,rfl,rfl,bQ _,λ_ _ _=>rfl,λb hb=>⟨K b hb,.inr hb⟩,⟨m.len,m.cap,m.rows,m.pos,m.YC,m.emp,m.mem⟩⟩
 .have hpos:0<new.length:=DN.2 C;obtain⟨B,cy,rfl,Ri,hyc⟩:=hy C;by_cases n:es.length+new.length<=cap
  ·
   obtain⟨b,s,I,E,hfz,N,F,o⟩:=m.mem (by simp only;omega);simp only at E F;subst E;have abq:¬g.bB b:=λTk=>Bool.noConfusion (hfz.2 Tk);have hnl:f.length=new.length*l.size:=hv.len;have hfit:es.length*l.size+f.length<=s.size:=by have:(es.length+new.length)*l.size<=cap*l.size:=v8 _ n;rw[Cl]at this;omega
   have hst:=run_storeCells_at (P:=P) b (0+es.length*l.size) I f 0 s w N (by omega) p.one;simp only[wJ,js]at hst;have hrun:(Builtin.append_ #[ty,tx] rt #[.slice (Z ⟨b,0,Y⟩) es.length cap,.slice (Z B) new.length cy]).run P w=
     .ok (.slice (Z ⟨b,0,Y⟩) (es.length+new.length) cap) (w.setRow b (s.toList.take (es.length*l.size)++f++s.toList.drop (es.length*l.size+f.length)).toArray):=by
    simp[Builtin.append_,aO S,aO hu2,dI X,p.len,n,p.cells,nA,hst]
   have hk:tu g.bB w (w.setRow b (s.toList.take (es.length*l.size)++f++s.toList.drop (es.length*l.size+f.length)).toArray):=
    λb' G=>setRow_other w b b' _ (λe=>abq (e▸G))
   have CV:(⟨Z ⟨b,0,Y⟩,es.length,cap,xsz⟩:fE).at b:=⟨_,rfl,rfl,by simp only;omega⟩;refine⟨_,_,hrun,⟨Z ⟨b,0,Y⟩,es.length+new.length,cap,l.size⟩,rfl,rfl,rfl,rfl,by simp,λb' _ G=>setRow_other w b b' _ (λe=>G (e▸CV)),λb' G=>?_,
    ⟨by simp[D.app],n,λd hd=>(by
      rcases ef.1 hd with hd|hd
      .exact m.rows d hd
      .exact y d hd),h0,λd hd=>(by
      rw[M d hd];exact JU (by simpa[D.app,D.Rp]using A) O1 pI),λN=>absurd (List.append_eq_nil_iff.1 N).2 C,λ_=>⟨b,_,I,rfl,hfz,setRow_heap w b s _ I _ N,(by
       have e1:(s.toList.take (es.length*l.size)++f++s.toList.drop (es.length*l.size+f.length)).toArray.size=s.size:=by simp;omega
       rw[e1];exact F),λi d j c hd hj=>(by
       have Mz:j<l.size:=by
        have hrw:d.cells.length=l.size:=by
         rcases ef.1 (g8 hd)with hd|hd
         .exact m.rows d hd
         .exact y d hd
        rw[<-hrw];exact aF hj
       unfold D.app at hd;rw[lD]at hd;by_cases hi:i<es.length
       .rw[bJ hi]at hd;obtain⟨v,q,hr⟩:=o i d j c hd hj;refine⟨v,?_,hr.mono hk (λ_ h=>h)⟩;have:=JO hi Mz;rw[Ol,lD,bJ (by simp;omega),lD,bJ (by simp;omega),v5,bJ (by omega)];simpa using q
       .rw[br hi]at hd;obtain⟨v,q,hr⟩:=hv.rel _ j d c hd hj;refine⟨v,?_,hr.mono hk (λ_ h=>h)⟩;have hlt:=aF q;have hge:es.length*l.size<=i*l.size:=v8 _ (by omega);rw[Nat.sub_mul]at q hlt;rw[Ol,lD,bJ (by simp;omega),lD,br (by simp;omega)];have e1:i*l.size+j-(List.take (es.length*l.size) s.toList).length=i*l.size-es.length*l.size+j:=by simp;omega
        rw[e1];exact q)⟩⟩⟩
   obtain⟨ad,k1,k2,k3⟩:=G;simp only[bg]at k1;subst k1;simp only at k2;subst k2;exact⟨by simpa using K _ CV,.inr CV⟩
  ·
   have H:∃olds,qx g.bB w l.size es olds∧(es.length≠0->∃ad,a=Z ad∧∀k u,olds[k]?=Z u->w.cell? (ad.add k)=Z u):=by
    by_cases hes:es=[]
    .subst hes;exact⟨[],.nil,λh=>absurd rfl h⟩
    .have hepos:0<es.length:=DN.2 hes;obtain⟨b,s,I,E,hfz,N,F,o⟩:=m.mem (by simp only;omega);simp only at E F;subst E;have hle:es.length*l.size<=s.size:=fJ (v8 _ hl2) F;refine⟨s.toList.take (es.length*l.size),⟨by simp;omega,m.rows,λi j d c hd hj=>?_⟩,λ_=>⟨_,rfl,λk u hu=>?_⟩⟩
     .obtain ⟨v,q,hr⟩:=o i d j c hd hj;refine⟨v,?_,hr⟩;have Mz:j<l.size:=by rw[<-m.rows d (g8 hd)];exact aF hj
      rw[v5,bJ (JO (aF hd) Mz)];simpa using q
     .rw[nA,cell?_of_block N];have hk:=aF hu;rw[v5,bJ (by simp at hk;omega)]at hu;simpa using hu
   obtain⟨olds,hvo,H⟩:=H;refine(zQ (P:=P) S hu2 X hjz hb0 (olds:=olds) (vH hvo.len H) p (Nat.lt_of_not_le n) (ES A O1 (Nat.lt_of_not_le n))).mono ?_
   rintro v w' ⟨t,rfl,hc,rfl⟩
   have ZP:(Builtin.zeroCells z.cells (t-(es.length+new.length))).size=(t-(es.length+new.length))*l.size:=by simp[Builtin.zeroCells,hzs]
   have r:(es++new).length=es.length+new.length:=gw;have R:=RI (g:=g) (w:=w) (g':=g) rfl hI
    (w':=w.drew.alloc (.cells ((olds++f).toArray++Builtin.zeroCells z.cells (t-(es.length+new.length))) e)) rfl (hvo.append hv) h0 (by rw[r];exact ZP) (by rw[r];exact hc)
    (λN=>C (List.append_eq_nil_iff.1 N).2) (λd hd=>by
     rw[M d hd];exact JU (by simpa[D.Rp]using A) O1 pI)
   rw[r]at R;refine⟨⟨Z ⟨w.heap.size,0,Y⟩,es.length+new.length,t,l.size⟩,rfl,rfl,rfl,rfl,by show w.heap.size<=(w.heap.push _).size;simp,λb hb _=>DV rfl b hb,λb hb=>?_,R⟩;obtain⟨ad,k1,k2,_⟩:=hb;simp only[bg]at k1;subst k1;simp only at k2;subst k2;exact⟨by show _<(w.heap.push _).size;simp,.inl (bQ _)⟩
def wX{ty tx rt:TypeId}{i j:TI}(hi:nc P ty i)(hj:nc P tx j)(hjk:∃a b c d,j.kd=.slice a b c d){s s':St}(hs:bh g s w){x y:T}{p:Prop}{t:T}
  (h:p9 i s x y=Z (p,t,s')) (N:p) (hx:aM g w x vx) (hy:aM g w y vy) :
  Gj P ty tx rt vx vy w λv w'=>∃g',bh g' s' w'∧Ext s.fl g w g' w'∧aM g' w' t v:=by
 obtain⟨_,d1,_,_,R,_,_,_,_,Up⟩:=hi.all;obtain⟨_,d2,_,_,F,_,_,_,_,hk2⟩:=hj.all;obtain⟨_,_,_,_,hjk⟩:=hjk;rw[hjk]at hk2;obtain⟨e',_,_,_,rfl,_⟩:=hk2;unfold p9 at h;rcases af h with⟨_,h⟩|⟨hnb,h⟩
 .cases h
 have hn:s.aJ<bC:=by
  have:Nat.blt s.aJ bC=W:=by simpa using hnb
  exact fU this
 split at h
 .rename_i sz ag bt zero q new s4 G;rw[s4]at Up;obtain⟨e,K,d',z,rfl,S,Mz,_,_,hjz,zf,O1,h0,O2,pI,hb0,hzl⟩:=Up;have hzs:z.cells.size=sz:=by rw[<-zf.1,hzl]
  subst Mz;have H:∀{es:L D}{vals:L Value}{cap:Nat}{v:Value}{w':World},qx g.bB w K.size es vals->es≠[]->D.Us es bt->v=.slice (Z ⟨w.heap.size,0,Y⟩) es.length cap->es.length<=cap->(∀d∈es,es.length*d.qD<=281474976710656)->
    w'=w.drew.alloc (.cells (vals.toArray++Builtin.zeroCells z.cells (cap-es.length)) e)->∃g',bh g' (en s (.arr K.size es 0)).2 w'∧Ext s.fl g w g' w'∧aM g' w' (.sh s.aJ 0) v:=by
   intro es vals cap v w' X n l hve hc hby hw;subst hw;subst hve;have ZP:(Builtin.zeroCells z.cells (cap-es.length)).size=(cap-es.length)*K.size:=by simp[Builtin.zeroCells,hzs]
   have hok:=RI (g:=g) (w:=w) (g':=g.era s.aJ 0 ⟨Z ⟨w.heap.size,0,Y⟩,es.length,cap,K.size⟩) rfl hs.bB (w':=w.drew.alloc (.cells (vals.toArray++Builtin.zeroCells z.cells (cap-es.length)) e)) rfl X h0 ZP hc n hby;obtain⟨M,he⟩:=hs.Oy hn (w':=w.drew.alloc (.cells (vals.toArray++Builtin.zeroCells z.cells (cap-es.length)) e)) rfl rfl (by show w.heap.size<=(w.heap.push _).size;simp) (λb hb=>DV rfl b hb)
    (x:=⟨Z ⟨w.heap.size,0,Y⟩,es.length,cap,K.size⟩) (λb hb=>by
     obtain⟨ad,h1,h2,_⟩:=hb;simp only[bg]at h1;subst h1;simp only at h2;subst h2;exact⟨bQ _,by show _<(w.heap.push _).size;simp⟩) hok rfl
   exact⟨_,M,he,.sh _ _ _ _ _ _ (Gh.fG _ _ _ _)⟩
  cases hx with
  |emp a=>
   simp only[bg,bD]at h;obtain⟨rfl,rfl,rfl⟩:=h;obtain⟨hq,f,l⟩:=N;obtain⟨E,r,X,hlen⟩:=yD hs G hq hy h0 f (λd C=>(l d C).2) F;by_cases n:new=[]
   .subst n;have OX:E=[]:=tH (by simpa using X.len);subst OX;obtain⟨M,he⟩:=hs.Oy hn (w':=w) (sz:=K.size) (es:=[]) (x:=⟨a,0,0,K.size⟩) rfl rfl (bQ _) (λb hb=>rfl) (λb hb=>by
     obtain⟨_,_,_,h⟩:=hb;exact absurd rfl h) ⟨rfl,bQ _,by simp,h0,by simp,λ_=>rfl,λh=>absurd rfl h⟩ rfl
    exact⟨_,_,FF (P:=P) R S r (bQ _),_,M,he,.sh _ _ _ _ _ _ (Gh.fG _ _ _ _)⟩
   .have hpos:0<new.length:=DN.2 n;obtain⟨_,_,_,_,hby,_⟩:=qI hs G hq hy h0 f;have hfit:Builtin.nextslicecap (0+new.length) 0*K.bytes<=281474976710656:=by rw[js,nextslicecap_zero hpos];obtain⟨d,ds,rfl⟩:=QY n;have:=hby d (by simp);rw[(l d (by simp)).1]at this;exact fJ (Nat.mul_le_mul_left _ O2) this
    refine(zQ (P:=P) R F S hjz hb0 (olds:=[]) (vH (by simp) (λh=>absurd rfl h)) r (by omega) hfit).mono ?_
    rintro v w' ⟨I,rfl,hc,rfl⟩
    simp only[js,vX]at *
    exact H X n l rfl hc hby rfl
  |jE m es a hm C=>
   have hes:D.rows (D.app es new) K.size->∃olds,qx g.bB w K.size es olds∧(es.length≠0->∃ad,a=Z ad∧∀k u,olds[k]?=Z u->w.cell? (ad.add k)=Z u):=by
    intro f;obtain⟨a',I,he,_,_,Wi⟩:=qI (s:=s) (t:=.jE m es) (p:=True) (es:=es) hs rfl trivial (.jE m es a hm C) h0 (λd C=>f d (eL _ C));simp only[Value.slice.injEq]at he;obtain⟨rfl,_,_⟩:=he;by_cases n:es=[]
    .subst n;exact⟨[],.nil,λh=>absurd rfl h⟩
    .obtain ⟨ad,val,rfl,_,hc,X⟩:=Wi n;refine⟨_,X,λ_=>⟨ad,rfl,λk u hu=>?_⟩⟩;obtain⟨i,j,hi,hj,rfl,rfl⟩:=yJ h0 hu;exact hc i j hi hj
   dsimp only at h;split at h
   .rename_i k es2;simp only[bg,bD]at h;obtain⟨rfl,rfl,rfl⟩:=h;obtain⟨hq,f,l,A⟩:=N;obtain⟨E,r,X,hlen⟩:=yD hs G hq hy h0 (λd C=>f d (iX _ C)) (λd C=>(l d (iX _ C)).2) F;obtain⟨olds,hvo,hold⟩:=hes f;have hpos:0<new.length:=by
     cases hy with
     |jE _ _ _ hk _=>
     simp only[qJ,bg,bD]at G;rw[<-G.2];omega
    refine(zQ (P:=P) R F S hjz hb0 (olds:=olds) (vH hvo.len hold) r (by omega) (ES A O1 (by omega))).mono ?_
    rintro v w' ⟨I,rfl,hc,rfl⟩
    have B:(D.app es new).length=es.length+new.length:=gw;exact H (es:=D.app es new) (hvo.append X) (λhh=>by
     have:=lS List.length hh;rw[B,xy]at this;omega) l (by rw[B]) (by rw[B];exact hc) (λd C=>by rw[(l d C).1,B];exact JU A O1 pI) (by rw[B])
   .simp only[bg,bD]at h;obtain⟨rfl,rfl,rfl⟩:=h;obtain⟨hq,f,l,A⟩:=N;obtain⟨E,r,X,hlen⟩:=yD hs G hq hy h0 (λd C=>f d (iX _ C)) (λd C=>(l d (iX _ C)).2) F;obtain⟨olds,hvo,hold⟩:=hes f;by_cases n:new=[]
    .subst n;have OX:E=[]:=tH (by simpa using X.len);subst OX;refine⟨_,_,FF (P:=P) R S r (bQ _),g,hs,Ext.refl _ _ _,.sym _ _ ?_⟩;unfold D.app;rw[ij];exact C
    .have hpos:0<new.length:=DN.2 n;refine(zQ (P:=P) R F S hjz hb0 (olds:=olds) (vH hvo.len hold) r (by omega) (ES A O1 (by omega))).mono ?_
     rintro v w' ⟨I,rfl,hc,rfl⟩
     obtain⟨M,he⟩:=hs.VD (w':=w.drew.alloc (.cells ((olds++E).toArray++Builtin.zeroCells z.cells (I-(es.length+new.length))) e)) _ rfl rfl rfl;refine⟨_,M,he,.sym _ _ ?_⟩;have hvv:=(hvo.append X).mono (he.keeps hs.bB) he.bB;have:=hvv.TS (b:=w.heap.size) (LP (w:=w) rfl) (.inr rfl) (λk v hk=>by
      have hlt:=aF hk;rw[QT,bJ (by simpa using hlt)];simpa using hk) (cap:=I) (by rw[gw];exact hc) (λd C=>by
       rw[(l d C).1,gw];exact JU A O1 pI)
     rw[gw]at this;exact this
  |sh o e2 len cap sz2 a hxa=>
   dsimp only at h;split at h
   .rename_i z' es era ho;rcases af h with⟨hb,h9⟩|⟨_,h9⟩
    .simp only[ec]at hb;obtain⟨⟨⟨hfl,hee⟩,hzz⟩,hno⟩:=hb;have hfl:=fU hfl;have hee:=beq_iff'.1 hee;have hzz:=beq_iff'.1 hzz;subst hee;subst hzz;simp only[bg,bD]at h9;obtain⟨rfl,rfl,rfl⟩:=h9;obtain⟨hq,f,l,A⟩:=N;obtain⟨hok,adj⟩:=hs.ny (fz:=J) ho hxa;simp only at adj;subst adj;obtain⟨E,r,X,hlen⟩:=yD hs G hq hy h0 f (λd C=>(l d (iX _ C)).2) F;obtain⟨ay,cy,rfl,_,amo,OR⟩:=qI hs G hq hy h0 f;have hlt:=(hs.arr o e2 _ hxa).1;refine(Cb (rt:=rt) R F S hjz hzs h0 hb0 O1 pI hs.bB hok (λb hb=>?_) (λd C=>(l d C).1) f r X A (λn=>?_)).mono ?_
     .obtain ⟨ad,k1,k2,k3⟩:=hb;exact k2▸hlt ad k1 k3
     .obtain ⟨ady,ajU,rfl,Ri,hyc,_⟩:=OR n;refine⟨ady,cy,rfl,λCV=>?_,λk hk=>?_⟩
      .have hown:bN g o ady.block:=by obtain⟨ad,k1,k2,k3⟩:=CV;obtain⟨b,vs,ety,hab,hfz,_⟩:=hok.mem k3;rw[k1]at hab;cases hab;simp only at k2;exact⟨λTk=>Bool.noConfusion (hfz.2 (k2▸Tk)),.inr ⟨e2,_,_,hxa,k1,k2,k3⟩⟩
       rcases Ri with Tk|⟨o',ho',hO⟩
       .exact hown.1 Tk
       .have:=hs.l9 o o' _ hown hO;subst this;rw[ho']at hno;simp at hno
      .have h1:=hyc (k/K.size) (k%K.size) (QO (by rw[xw];exact hk)) (Nat.mod_lt _ h0);have hkk:k/K.size*K.size+k%K.size=k:=by rw[xw];exact Nat.div_add_mod k _
       rw[hkk]at h1;rw[h1];rfl
     .rintro v w' ⟨x',N⟩
      obtain⟨M,he⟩:=hs.aon ho hxa hfl N.os N.output N.size N.heap N.at_ (N.ok.j4 rfl) N.sz;have:=N.val;subst this;exact⟨_,M,he,.sh _ _ _ _ x'.sz _ (Gh.fG _ _ _ _)⟩
    .cases h9
   .cases h
  |_=>simp at h
 .cases h
end
end
section
def aiP(fl:Nat)(g:Gh)(w:World)(t:T)(s':St)(r:Result Next):Prop:=
 ∃v w' g',(r=.ok (.value v) w'∨(r=.ok .skip w'∧v=undef))∧bh g' s' w'∧Ext fl g w g' w'∧aM g' w' t v
section
variable {P:Program}{g:Gh}{w:World}
variable {s s':St}{t x:T}{os:List Nat}{i:TI}{l h m:Option T}{p:Prop}
def dM{v:Value}{r:Result Next}(hs:bh g s w)(a:r=.ok (.value v) w)(b:aM g w t v)(c:s'=s):aiP s.fl g w t s' r:=
 ⟨v,w,g,.inl a,c▸hs,Ext.refl _ _ _,b⟩
def pV:∀{os:L Nat}{s s':St},freeze s os=Z s'->s'.lo=s.lo∧s'.fl=s.fl∧s'.aJ=s.aJ
 |[],s,s',h=>by simp only[freeze,bg]at h;rw[h];exact⟨rfl,rfl,rfl⟩
 |o::os,s,s',h=>by obtain⟨_,⟨_,_,_,_,h⟩|⟨_,_,_,_,h⟩|⟨_,h⟩|⟨_,_,_,_,_,_,_,_,_,_,_,_,_,h⟩⟩:=uy h<;>(have:=pV h;exact this)
def AD(h:freeze s os=Z s'):s'.lo=s.lo:=(pV h).1
def Tx(h:freeze s os=Z s'):s'.fl=s.fl:=(pV h).2.1
def O5(h:freeze s os=Z s'):s'.aJ=s.aJ:=(pV h).2.2
def Su(a:oB i s x l h m=Z (p,t,s')):s'=s∨freeze s (pQ x)=Z s':=by
 unfold oB at a
 repeat' split at a
 all_goals first
  |(cases a;done)
  |(
    simp only[eG,bg,bD]at a;first
     |(obtain⟨_,_,_,_,rfl⟩:=a;first|exact .inl rfl|(right;assumption))
     |(obtain⟨_,_,rfl⟩:=a;first|exact .inl rfl|(right;assumption)))
def Sv(a:oB i s x l h m=Z (p,t,s')):s'.lo=s.lo:=by
 rcases Su a with rfl|h
 .rfl
 .exact AD h
structure zU(E:Env):Prop where
 ti:∀k i,E.ti k=Z i->nc E.P k i
 Ur:∀f fn,E.Ur f=Z fn->E.P.funcs[f]?=Z fn
def mg{E:Env}(I:zU E){fr:Fr}{a:Act}(hf:cG g fr a w)(hs:bh g s w)(o:Oper)(h:nh E fr s o.op=Z (p,t,s'))(K:p) :
  aiP s.fl g w t s' ((execOp a.eval o).run E.P w)∧s'.fl=s.fl∧s'.lo=s.lo∧s.aJ<=s'.aJ:=by
 cases A:o.op with
 |move x=>rw[A]at h;simp only[nh,eG,bD]at h;obtain⟨t',F,_,rfl,rfl⟩:=h;exact⟨dM hs (by simp[execOp,A]) (bM hf F) rfl,rfl,rfl,bQ _⟩
 |assign x=>rw[A]at h;simp only[nh,eG,bD]at h;obtain⟨t',F,_,rfl,rfl⟩:=h;exact⟨dM hs (by simp[execOp,A]) (bM hf F) rfl,rfl,rfl,bQ _⟩
 |pick c x y=>
  rw[A]at h;simp only[nh]at h;split at h
  .rename_i c' x' y' hc hx hy;simp only[eG,bD]at h;obtain⟨⟨q,u⟩,M,rfl,rfl,rfl⟩:=h;obtain⟨b,X,F⟩:=LW M K (bM hf hc) (bM hf hx) (bM hf hy);exact⟨dM hs (by simp[execOp,A,X,asBool]) F rfl,rfl,rfl,bQ _⟩
  .cases h
 |alloc ty=>
  rw[A]at h;simp only[nh]at h;split at h
  .rename_i i G;rcases af h with⟨hn,h⟩|⟨_,h⟩
   .simp only[bg,bD]at h;obtain⟨_,rfl,rfl⟩:=h;have hn':s.aJ<bC:=fU hn;obtain⟨xi,d,z,OS,_,_,_,hz,zf,_⟩:=(I.ti _ _ G).all;obtain⟨z1,z2⟩:=qE (g:=g) (w:=w) zf;obtain⟨H,he⟩:=hs.dh hn' ty z1 z2;refine⟨⟨_,_,_,.inl ?_,H,he,.ptr s.aJ 0 w.heap.size (by simp[Gh.dh])⟩,rfl,rfl,by simp[en]⟩;simp[execOp,A,Instr.alloc,er OS hz,newVar,newRow]
   .cases h
  .cases h
 |box ty x=>
  rw[A]at h;simp only[nh]at h;split at h
  .rename_i i v G B;rcases af h with⟨hn,h⟩|⟨_,h⟩
   .simp only[eG,bD]at h;obtain⟨⟨q,cs⟩,hc,rfl,rfl,rfl⟩:=h;have hn':s.aJ<bC:=fU hn;obtain⟨h1,h2,h3,_⟩:=lO hc K (bM hf B);obtain⟨H,he⟩:=hs.dh hn' ty (cs:=cs) (vs:=(a.eval x).cells) (by rw[h1,h2]) h3;refine⟨⟨_,_,_,.inl ?_,H,he,.ptr s.aJ 0 w.heap.size (by simp[Gh.dh])⟩,rfl,rfl,by simp[en]⟩;simp[execOp,A,Instr.box,newVar,newRow]
   .cases h
  .cases h
 |build ty parts=>
  rw[A]at h;simp only[nh]at h;split at h
  .rename_i i ps G hps;split at h
   .rename_i fs hk;simp only[eG,bD]at h;obtain⟨⟨q,cs⟩,hc,rfl,rfl,rfl⟩:=h;have nV:=nP hf hps;obtain⟨v,B,F⟩:=Nj (w:=w) (g:=g) (I.ti _ _ G) hk (vs:=parts.map λ(i,x)=>(i,a.eval x)) (by simpa using nV) hc K;exact⟨dM hs (by simp[execOp,A,B]) F rfl,rfl,rfl,bQ _⟩
   .cases h
  .cases h
 |buildSlice ty len parts=>
  rw[A]at h;simp only[nh]at h;split at h
  .rename_i i ps G hps;split at h
   .rename_i sz ag bt zero hk;rcases af h with⟨X,h⟩|⟨_,h⟩
    .split at h
     .rename_i q es os hel;simp only[eG,bD]at h;obtain⟨s1,N,rfl,rfl,rfl⟩:=h;have nV:=nP hf hps;rw[Am]at X;obtain⟨O2,pI⟩:=X;rw[Am]at pI;obtain⟨pI,R⟩:=pI;rw[Am]at R;obtain⟨R,O1⟩:=R;obtain⟨w',g',v,S,H,he,F,hfl,am0⟩:=AY (I.ti _ _ G) hs hk O2 (beq_iff'.1 pI) (λe=>by
       rw[e]at R;cases R) (fU O1) (vs:=parts.map λ(i,x)=>(i,a.eval x)) (by simpa using nV) hel K N
      exact⟨⟨v,w',g',.inl (by simp[execOp,A,S]),H,he,F⟩,hfl,AD N,by omega⟩
     .cases h
    .cases h
   .cases h
  .cases h
 |load ty x=>
  rw[A]at h;simp only[nh]at h;split at h
  .rename_i i v G B;obtain⟨u,M,F,rfl⟩:=BK (I.ti _ _ G) hs (bM hf B) h K;exact⟨dM hs (by simp[execOp,A,M]) F rfl,rfl,rfl,bQ _⟩
  .cases h
 |store ty x y=>
  rw[A]at h;simp only[nh]at h;split at h
  .rename_i i v u G B M;obtain⟨w',g',S,H,he,rfl⟩:=IZ (I.ti _ _ G) hs (bM hf B) (bM hf M) h K;refine⟨⟨undef,w',g',.inr ⟨by simp[execOp,A,S],rfl⟩,H,he,.sym _ _ (.lit _)⟩,?_⟩;unfold storeT at h;split at h
   .cases h
   .split at h
    .split at h
     .rcases af h with⟨_,h⟩|⟨_,h⟩
      .simp only[bg,bD]at h;obtain⟨_,_,rfl⟩:=h;exact⟨rfl,rfl,bQ _⟩
      .cases h
     .cases h
    .split at h
     .split at h
      .rename_i N;split at h
       .rcases af h with⟨_,h⟩|⟨_,h⟩
        .simp only[bg,bD]at h;obtain⟨_,_,rfl⟩:=h;have e1:=Tx N;have e2:=AD N;have e3:=O5 N;exact⟨e1,e2,yP e3.symm⟩
        .cases h
       .cases h
      .cases h
     .cases h
    .cases h
  .cases h
 |nilCheck x=>
  rw[A]at h;simp only[nh]at h;have hx:=λ{t}(e:ju fr x=Z t)=>bM hf e;split at h;all_goals try(cases h;done)
  all_goals
   rename_i Wh;have C:=hx Wh;simp only[bg,bD]at h;obtain⟨rfl,rfl,rfl⟩:=h
  .generalize B:a.eval x=v at C;cases C with|ptr _ _ b X=>exact⟨dM hs (by simp[execOp,A,B]) (.ptr _ _ b X) rfl,rfl,rfl,bQ _⟩
  .generalize B:a.eval x=v at C;cases C with|mO _ _ ad val h1 h2 h3=>exact⟨dM hs (by simp[execOp,A,B]) (.mO _ _ ad val h1 h2 h3) rfl,rfl,rfl,bQ _⟩
  .generalize B:a.eval x=v at C;cases C with|kH _ _ _ _ _ _ _ _ h1=>exact⟨dM hs (by simp[execOp,A,B]) (.kH _ _ _ _ _ _ _ _ h1) rfl,rfl,rfl,bQ _⟩
  .generalize B:a.eval x=v at C;cases C with|cR _ _ _ h1=>exact⟨dM hs (by simp[execOp,A,B]) (.cR _ _ _ h1) rfl,rfl,rfl,bQ _⟩
  .generalize B:a.eval x=v at C;cases C with|fn _ _ _ _ _ h1 h2 h3 h4=>exact⟨dM hs (by simp[execOp,A,B]) (.fn _ _ _ _ _ h1 h2 h3 h4) rfl,rfl,rfl,bQ _⟩
  .generalize B:a.eval x=v at C;cases C with
   |sym d _ hd=>
    cases hd with|cR _ _ _ h1=>exact⟨dM hs (by simp[execOp,A,B]) (.sym _ _ (.cR _ _ _ h1)) rfl,rfl,rfl,bQ _⟩|_=>cases K
 |binOp op ty x y yt=>
  rw[A]at h;simp only[nh]at h;split at h
  .rename_i i u v G M B;simp only[eG,bD]at h;obtain⟨⟨q,d⟩,X,rfl,rfl,rfl⟩:=h;obtain⟨r,C,F⟩:=Px (I.ti _ _ G) X K (bM hf M) (bM hf B) x y;refine⟨dM hs ?_ F rfl,rfl,rfl,bQ _⟩;simp only[Sem.run_bind]at C;simp only[execOp,A,Sem.run_bind];rw[C];rfl
  .cases h
 |unOp op ty x=>
  rw[A]at h;simp only[nh]at h;split at h
  .rename_i i u G M;simp only[eG,bD]at h;obtain⟨⟨q,d⟩,X,rfl,rfl,rfl⟩:=h;obtain⟨r,C,F⟩:=Sf (P:=E.P) X K (bM hf M);exact⟨dM hs (by simp[execOp,A,C]) F rfl,rfl,rfl,bQ _⟩
  .cases h
 |convert src dst x=>
  rw[A]at h;simp only[nh]at h;split at h
  .rename_i i j u G hj M;obtain⟨r,C,F,rfl⟩:=M3 (I.ti _ _ G) (I.ti _ _ hj) h K (bM hf M);exact⟨dM hs (by simp[execOp,A,C]) F rfl,rfl,rfl,bQ _⟩
  .cases h
 |makeInterface ty x=>
  rw[A]at h;simp only[nh]at h;split at h
  .rename_i i v G B;have ZS:=I.ti _ _ G;obtain⟨xi,d,z,OS,M,_⟩:=ZS.all;split at h
   .cases h
   .rename_i hk;simp only[bg,bD]at h;obtain⟨rfl,rfl,rfl⟩:=h;refine⟨dM hs (v:=.iface ty (a.eval x)) ?_ (.cR _ _ _ (bM hf B)) rfl,rfl,rfl,bQ _⟩;have hni:∀ms,d≠.interface ms:=λms e=>hk (ZS.nif ms (e▸M));simp only[execOp,A,Instr.makeInterface,Sem.run_bind,aO M,Result.andThen_ok];cases d<;>first|rfl|exact absurd rfl (hni _)
  .cases h
 |makeFunc f first cap=>
  rw[A]at h;simp only[nh]at h;split at h
  .rename_i xs ys hx hy;simp only[bg,bD]at h;obtain⟨rfl,rfl,rfl⟩:=h;have h1:=fu hf hx;have h2:=fu hf hy;refine⟨dM hs (v:=.func f (first.map a.eval) (cap.map a.eval)) (by simp[execOp,A,Instr.makeFunc]) (.fn _ _ _ _ _ (by simpa using h1.1) (by simpa using h2.1) (λj t v k1 k2=>h1.2 j t v k1 (by simpa using k2)) (λj t v k1 k2=>h2.2 j t v k1 (by simpa using k2))) rfl,rfl,rfl,bQ _⟩
  .cases h
 |extract x k=>
  rw[A]at h;simp only[nh]at h;split at h
  .rename_i v B;obtain⟨r,C,F,rfl⟩:=EU (P:=E.P) h K (bM hf B);exact⟨dM hs (by simp[execOp,A,C]) F rfl,rfl,rfl,bQ _⟩
  .cases h
 |fieldAddr ty x k=>
  rw[A]at h;simp only[nh]at h;split at h
  .rename_i i v G B;obtain⟨r,C,F,rfl⟩:=AJ (I.ti _ _ G) h (bM hf B);exact⟨dM hs (by simp[execOp,A,C]) F rfl,rfl,rfl,bQ _⟩
  .cases h
 |field ty x k=>
  rw[A]at h;simp only[nh]at h;split at h
  .rename_i i v G B;obtain⟨r,C,F,rfl⟩:=JT (I.ti _ _ G) h K (bM hf B);exact⟨dM hs (by simp[execOp,A,C]) F rfl,rfl,rfl,bQ _⟩
  .cases h
 |indexAddr ty x ix=>
  rw[A]at h;simp only[nh]at h;split at h
  .rename_i i v n G B hn;obtain⟨r,C,F,rfl⟩:=AB (I.ti _ _ G) hs h K (bM hf B) (bM hf hn);exact⟨dM hs (by simp[execOp,A,C]) F rfl,rfl,rfl,bQ _⟩
  .cases h
 |index ty x ix=>
  rw[A]at h;simp only[nh]at h;split at h
  .rename_i i v n G B hn;obtain⟨r,C,F,rfl⟩:=JN (I.ti _ _ G) h K (bM hf B) (bM hf hn);exact⟨dM hs (by simp[execOp,A,C]) F rfl,rfl,rfl,bQ _⟩
  .cases h
 |slice ty x lo G mx=>
  rw[A]at h;simp only[nh]at h;split at h
  .rename_i i v l hh m h1 h2 h3 h4 h5;obtain⟨g',r,C,H,he,F,hfl,am0⟩:=I2 (I.ti _ _ h1) hs h K (bM hf h2) (xE hf h3) (xE hf h4) (xE hf h5);exact⟨⟨r,w,g',.inl (by simp[execOp,A,C]),H,he,F⟩,hfl,Sv h,by omega⟩
  .cases h
 |typeAssert x xt ty ok=>
  rw[A]at h;simp only[nh]at h;split at h
  .rename_i i v G B;obtain⟨r,C,F,rfl⟩:=GU (xt:=xt) (I.ti _ _ G) h (bM hf B);exact⟨dM hs (by simp[execOp,A,C]) F rfl,rfl,rfl,bQ _⟩
  .cases h
 |_=>rw[A]at h;simp[nh]at h
end
end
section
section
variable {g g' g'':Gh}{w w' w'':World}{lo fl:Nat}
def bh.grow{s:St}(hs:bh g s w){I:Nat->Prop}(p:∀b,g.bB b->I b)(f:∀b,I b->g.bB b∨w.heap.size<=b)(q:∀b,I b->b<w'.heap.size)(i:w.heap.size<=w'.heap.size)
  (a:∀b,b<w.heap.size->w'.heap[b]?=w.heap[b]?) (r:w'.os=w.os) (m:w'.output=w.output) :
  bh {g with bB:=I} s w'∧Ext fl g w {g with bB:=I} w':=by
 have e:∀k b,bN ({g with bB:=I}:Gh) k b->bN g k b:=λk b h=>⟨λx=>h.1 (p b x),h.2⟩;have t:Ext fl g w {g with bB:=I} w':=
  ⟨λ_ _ h=>h,λ_ _ _ h=>h,p,i,λb n _=>a b n,λk b h=>.inl (e k b h),λb h=>(f b h).imp id .inl,r,m⟩
 refine⟨⟨hs.aJ,hs.ai,λk c o=>?_,λk j y z=>?_,q,λk v b h A=>hs.l9 k v b (e k b h) (e v b A)⟩,t⟩
 .have d:=hs.box k c o;refine d.ext t hs.bB (a c d.2.1) rfl λu=>?_;rcases f c u with h|h
  .exact d.1 h
  .have:=d.2.1;omega
 .have l:=hs.arr k j y z;refine l.ext t hs.bB (λb n o=>⟨a b (l.1 _ n o),⟨λh=>?_,p b⟩⟩) rfl rfl;rcases f b h with h|h
  .exact h
  .have:=l.1 _ n o;simp only at this;omega
end
def mD(P:Program)(f:FuncId):Prop:=∃fn,P.funcs[f]?=Z fn∧fn.body.isSome=W∧(fn.name== "runtime.NumGoroutine")=J
def XE(I:Nat->Prop)(w:World)(d:D):Ending->World->Prop
 | .returned v,w'=>∃a:Nat->Prop,(∀b,I b->a b)∧(∀b,a b->I b∨w.heap.size<=b)∧(∀b,a b->b<w'.heap.size)∧w.heap.size<=w'.heap.size∧
   (∀b,b<w.heap.size->w'.heap[b]?=w.heap[b]?)∧w'.os=w.os∧w'.output=w.output∧ek a w' d v
 | .panicked _,_=>False
 | .outgrown,_=>False
def aiL(P:Program)(f:FuncId)(c:NS):Prop:=
 mD P f∧∀(I:Nat->Prop)(w:World)(ds:L D)(vs:Array Value),(∀b,I b->b<w.heap.size)->ds.length=vs.size->
  (∀(j:Nat)(d:D)(v:Value),ds[j]?=Z d->vs[j]?=Z v->ek I w d v)->c.pre ds->Calls P f vs w (XE I w (c.f ds))
structure NR(E:Env):Prop extends zU E where
 name:∀f fn,E.Ur f=Z fn->(fn.name== "runtime.NumGoroutine")=J
 GI:∀f c,E.GI f=Z c->aiL E.P f c
section
variable {g:Gh}{w:World}
end
end
section
section
variable {g:Gh}{w:World}
variable {s s':St}{t:T}{P:Program}{f:FuncId}{o:Oper}{c:Call}{a:Act}{fr:Fr}
def PD{i:TI}{x y:T}{p:Prop}(h:p9 i s x y=Z (p,t,s')):s'.fl=s.fl∧s'.lo=s.lo∧s.aJ<=s'.aJ:=by
 unfold p9 at h;rcases af h with⟨_,h⟩|⟨_,h⟩
 .cases h
 .split at h
  .split at h
   .simp only[bg,bD]at h;obtain⟨_,_,rfl⟩:=h;exact⟨rfl,rfl,by simp[en]⟩
   .dsimp only at h;split at h
    .simp only[bg,bD]at h;obtain⟨_,_,rfl⟩:=h;exact⟨rfl,rfl,by simp[en]⟩
    .simp only[bg,bD]at h;obtain⟨_,_,rfl⟩:=h;exact⟨rfl,rfl,bQ _⟩
   .split at h
    .rcases af h with⟨_,h⟩|⟨_,h⟩
     .simp only[bg,bD]at h;obtain⟨_,_,rfl⟩:=h;exact⟨rfl,rfl,bQ _⟩
     .cases h
    .cases h
   .cases h
  .cases h
def vE(h:mD P f)(args:Array Value):(callFunc f args).run P w=.ok (.enter f args) w:=by
 obtain⟨fn,h1,h2,h3⟩:=h;have h4:fn.body≠Y:=by intro a;rw[a]at h2;cases h2
 have h5:fn.name≠ "runtime.NumGoroutine":=by simpa using h3
 simp[callFunc,h1,h5,h4]
def yH(d:o.op=.call c){b:Operand}(e:c.callee=.value b){first cap:Array Value}(g:a.eval b=.func (.func f) first cap)(h:mD P f) :
  (execOp a.eval o).run P w=.ok (.enter f (first++c.args.map a.eval++cap)) w:=by
 simp only[execOp,d,resolve,e,Deferred.ofValue,g,Sem.run_bind,Sem.run_pure,Result.andThen_ok,invoke];exact vE h _
def TD(hf:cG g fr a w){dst:O Nat}(h:afT fr dst=W)(hn:fr.n<=bC){v:Value}(i:aM g w t v):cG g (fr.g9 dst t) (a.put dst v) w:=by
 cases dst with
 |none=>exact hf
 |some d=>
  have f:d<fr.n:=fU h;refine⟨by simp[Act.put,Fr.g9,Fr.put,hf.size],hf.df,λk j b=>?_⟩;simp only[Fr.g9,Fr.put,Fr.get]at b;rw[Tr.aZ _ _ _ _ (dB f hn)]at b;by_cases c:k=d
  .subst c;rw[bJ rfl]at b;simp only[bg]at b;subst b;exact⟨v,by simp[Act.put,hf.size,f],i⟩
  .rw[br c]at b;obtain⟨u,l,m⟩:=hf.tm k j b;refine⟨u,?_,m⟩;simp only[Act.put];rw[Vq (λe=>c e.symm)];exact l
structure Aft(s:St)(g:Gh)(w:World)(s':St)(g':Gh)(w':World):Prop where
 rel:bh g' s' w'
 ext:Ext s.fl g w g' w'
 fl:s'.fl=s.fl
 lo:s'.lo=s.lo
 aJ:s.aJ<=s'.aJ
def Aft.refl{s:St}(h:bh g s w):Aft s g w s g w:=⟨h,Ext.refl _ _ _,rfl,rfl,bQ _⟩
def wU{E:Env}(z:NR E)(hf:cG g fr a w)(hs:bh g s w)(n:o.op=.call c){b:Builtin}(I:c.callee=.builtin b){args:L T}
  (d:wL fr c.args.toList=Z args) {p:Prop} {t:T} (h:e9 E s b c.argTypes args=Z (p,t,s')) (M:p) {k:T->St->Prop} (N:k t s')
  {K:Act->World->Prop} {Q:Exit->Act->World->Prop} (P:∀t s' g' v w',k t s'->Aft s g w s' g' w'->aM g' w' t v->K (a.put o.dst v) w') :
  o.wp E.P a w K Q∨(o.asks E.P a w∧LetsOut Q):=by
 have e:=fu hf d;cases b with
 |len=>
  left
  match args,d,e,h with
  |[x],d,e,h=>
   have A:c.args.size=1:=by have:=e.1;simpa using this.symm
   obtain⟨arr,m⟩:∃u,c.args=#[u]:=⟨c.args[0],by
    apply Array.ext
    .simp[A]
    .intro i h1 h2;have:i=0:=by omega
     subst this;rfl⟩
   have B:aM g w x (a.eval arr):=e.2 0 _ _ rfl (by simp[m]);obtain⟨v,S,X,rfl⟩:=HZ (rt:=o.type) hs z.ti h M B;unfold Oper.wp;have f:(execOp a.eval o).run E.P w=.ok (.value v) w:=by simp[execOp,n,resolve,I,invoke,builtin,m,S]
   rw[f];exact P t s' g v w N (Aft.refl hs) X
  |[],_,_,h=>simp[e9]at h
  |_::_::_,_,_,h=>simp[e9]at h
 |append=>
  match args,d,e,h with
  |[x,y],d,e,h=>
   have A:c.args.size=2:=by have:=e.1;simpa using this.symm
   obtain⟨u,v,m⟩:∃u v,c.args=#[u,v]:=⟨c.args[0],c.args[1],by
    apply Array.ext
    .simp[A]
    .intro i h1 h2;have:i=0∨i=1:=by omega
     rcases this with rfl|rfl<;>rfl⟩
   have B:aM g w x (a.eval u):=e.2 0 _ _ rfl (by simp[m]);have hy:aM g w y (a.eval v):=e.2 1 _ _ rfl (by simp[m]);simp only[e9]at h;split at h
   .rename_i ty R C;split at h
    .rename_i i j hi hj;split at h
     .rename_i F;have G:c.argTypes=#[ty,R]:=by apply DO;simpa using C
      have H:=wX (rt:=o.type) (z.ti _ _ hi) (z.ti _ _ hj) ⟨_,_,_,_,F⟩ hs h M B hy;have q:o.op=.call {callee:=.builtin .append,args:=#[u,v],argTypes:=#[ty,R]}:=by rw[n,<-m,<-G,<-I]
      obtain⟨r,w',f,g',h1,h2,h3⟩:=H
      left
      unfold Oper.wp;have l:(execOp a.eval o).run E.P w=.ok (.value r) w':=by simp[execOp,q,resolve,invoke,builtin,f]
      rw[l];obtain⟨e1,e2,e3⟩:=PD h;exact P t s' g' r w' N ⟨h1,h2,e1,e2,e3⟩ h3
     .cases h
    .cases h
   .cases h
  |[],_,_,h=>simp[e9]at h
  |[_],_,_,h=>simp[e9]at h
  |_::_::_::_,_,_,h=>simp[e9]at h
 |_=>simp[e9]at h
end
end
section
section
variable {g:Gh}{w:World}
def VU{E:Env}(j:NR E){fr:Fr}{s s':St}{a:Act}(hf:cG g fr a w)(hs:bh g s w){o:Oper}{c:Call}(e:o.op=.call c)(k:c.callee=.builtin .len){args:L T}
  (b:wL fr c.args.toList=Z args) {p:Prop} {t:T} (h:e9 E s .len c.argTypes args=Z (p,t,s')) (l:p) :
  s'=s∧∃v,(execOp a.eval o).run E.P w=.ok (.value v) w∧aM g w t v:=by
 have d:=fu hf b
 match args,b,d,h with
 |[x],b,d,h=>
  have m:c.args.size=1:=by have:=d.1;simpa using this.symm
  obtain⟨arr,f⟩:∃u,c.args=#[u]:=⟨c.args[0],by
   apply Array.ext
   .simp[m]
   .intro i h1 h2;have:i=0:=by omega
    subst this;rfl⟩
  have n:aM g w x (a.eval arr):=d.2 0 _ _ rfl (by simp[f]);obtain⟨v,q,r,rfl⟩:=HZ (rt:=o.type) hs j.ti h l n;exact⟨rfl,v,by simp[execOp,e,resolve,k,invoke,builtin,f,q],r⟩
 |[],_,_,h=>simp[e9]at h
 |_::_::_,_,_,h=>simp[e9]at h
end
end
section
abbrev WR(r:O Nat):Fence:={Fence.wide with round:=r}
section
variable {P:Program}{r:Option Nat}
def iy{m a:Machine}:StepsIn (Machine.fenced P (WR r)) P m a↔Steps P m a:=stepsIn_wide
variable {n id:Nat}{f:FuncId}{args tmps:Array Value}{R:Ending->World->Prop}{next:Act->World->Prop}{Q:Exit->Act->World->Prop}{fn:Func}
def Pq{w:World}:CallsIn (WR r) n P f args w R↔Calls P f args w R:=
 (callsIn_wide (n:=n):CallsIn Fence.wide n P f args w R↔_)
def Lo(n:Nat):(WR r).room n:=room_wide n
def afI{row:String}{w:World}{R:Value->World->Prop}(h:Rows P row args w R):RowsIn (WR r) n P row args w R:=
 λc cs _=>let ⟨v,a,b,d⟩:=h c cs;⟨v,a,b,iy.2 d⟩
def XG(r:O Nat)(P:Program)(o:Oper)(a:Act)(w:World)(next:Act->World->Prop)(Q:Exit->Act->World->Prop):Prop:=
 o.uponIn (WR r) 0 P a next Q ((o.semAt r a.eval).run P w)∨(o.asks P a w∧(r≠Y->∀c,o.op≠.defer c)∧LetsOut Q)
def XG.of_wp{o:Oper}{a:Act}{w:World}(e:r≠Y->∀c,o.op≠.defer c)(h:o.wp P a w next Q∨(o.asks P a w∧LetsOut Q)):XG r P o a w next Q:=by
 rcases h with h|⟨h1,h2⟩
 .left
  have b:o.semAt r a.eval=execOp a.eval o:=by cases r with|none=>rfl|some l=>exact Oper.semAt_eq _ _ _ (e (by simp))
  rw[b];unfold Oper.wp at h;generalize(execOp a.eval o).run P w=res at h;cases res with
  |ok x g=>cases x with|enter f args=>exact⟨λh=>by simp[Fence.wide]at h,Pq.2 h⟩|row row args=>exact⟨λh=>by simp[Fence.wide]at h,afI h⟩|value v=>exact h|skip=>exact h|defer d=>exact h|_=>exact h.elim
  |halt x g=>cases x<;>exact h
 .exact .inr ⟨h1,e,h2⟩
def XG.mono{o:Oper}{a:Act}{w:World}{next b:Act->World->Prop}{Q:Exit->Act->World->Prop}(hn:∀a w,next a w->b a w)(h:XG r P o a w next Q):XG r P o a w b Q:=by
 rcases h with h|h
 .left
  generalize(o.semAt r a.eval).run P w=res at h;cases res with
  |ok x j=>cases x with|enter f args=>exact⟨h.1,h.2.mono λe g c=>by cases e<;>first|exact hn _ _ c|exact c⟩|row row args=>exact⟨h.1,h.2.mono λ_ _ c=>hn _ _ c⟩|round l f tmps assign i=>exact⟨h.1,h.2.mono λe g c=>by cases e<;>first|exact hn _ _ c|exact c⟩|value v=>exact hn _ _ h|skip=>exact hn _ _ h|defer d=>exact hn _ _ h|_=>exact h
  |halt x j=>cases x<;>exact h
 .exact .inr h
abbrev aa5(r:O Nat)(P:Program):=ArrivesIn (Machine.fenced P (WR r)) P
section
variable {b:Frame}{a:Act}{k:List Item}{cs:List Frame}{w:World}{ops:Array Oper}{i:Nat}{rest:List Nat}{o:Oper}
def SR(q:b.roundOf=r)(y:r≠Y->∀c,o.op≠.defer c)(z:ops[i]?=Z o)(A:Region.wanted o (yielded ops a.tmps)=W)(B:b.kind≠.early)(h:o.asks P a w) :
  Outgrown P (lone (b.atR a (.inRegion ops (i::rest)::k)) cs w):=by
 have n:o.semAt b.roundOf a.eval=execOp a.eval o:=by rw[q];cases r with|none=>rfl|some l=>exact Oper.semAt_eq _ _ _ (y (by simp))
 have v:=stepGR_op (P:=P) (b:=b) (k:=k) (cs:=cs) (w:=w) (rest:=rest) z A;rw[n]at v;have s:noRoomEvent∈(stepG P W {frame:=b.atR a (.inRegion ops (i::rest)::k),callers:=cs,status:=.running,dying:=Y} w).es:=by
  rw[v];have C:((b.atR a (.inRegion ops (i::rest)::k)).kind==CallKind.early)=J:=by simpa[Frame.atR]using B
  have t:noRoomEvent∈Sem.events P (execOp a.eval o) w #[]:=h.1;simp only[stepG.apply,Sem.runT_eq,fY,C,Bool.false_eq_true,eT];rw[GStep.es_after];refine Array.mem_append.2 (.inl (seen_keeps P _ _ ?_));have j:=h.2;cases p:(execOp a.eval o).run P w with
  |ok x E=>exact t
  |halt x E=>
   rw[p]at j;cases x with
   |unsupported u=>cases u<;>first|exact j.elim|exact t
   |blocked=>exact j.elim
   |waiting=>exact j.elim
   |_=>exact t
 refine Outgrown.now (o:={g:=0,fn:=(b.atR a (.inRegion ops (i::rest)::k)).fn,pos:=(b.atR a (.inRegion ops (i::rest)::k)).place,act:=.mark .noRoom}) ?_ rfl rfl;rw[stepT,move_lone];refine runT_lists P _ 0 {frame:=b.atR a (.inRegion ops (i::rest)::k),callers:=cs,status:=.running,dying:=Y} (by simp[lone]) _ ?_;exact mem_ofEvents (e:=noRoomEvent) (by simpa[lone]using s)
def Vx(A:b.roundOf=r)(F:ops[i]?=Z o)(K:Region.wanted o (yielded ops a.tmps)=W)(h:XG r P o a w next Q) :
  (∃B w',next B w'∧Steps P (lone (b.atR a (.inRegion ops (i::rest)::k)) cs w) (lone (b.atR B (.inRegion ops rest::k)) cs w'))∨
  ∃e B w',Q e B w'∧aa5 r P (lone (b.atR a (.inRegion ops (i::rest)::k)) cs w) b k cs e B w':=by
 rcases h with h|⟨h1,h2,u,y,z⟩;rotate_left
 .by_cases M:b.kind=.early
  .exact .inr ⟨.outgrown,u,y,z,.inl M⟩
  .exact .inr ⟨.outgrown,u,y,z,.inr (SR A h2 F K M h1)⟩
 have t:=stepGR_op (P:=P) (b:=b) (k:=k) (cs:=cs) (w:=w) (rest:=rest) F K;rw[A]at t;have j:∀v,(b.atR a (.inRegion ops (i::rest)::k)).finish v=b.atR (a.put o.dst v) (.inRegion ops rest::k):=λv=>by rw[Frame.finish_atR,F];rfl
 generalize g:(o.semAt r a.eval).run P w=res at h;have enter:∀{fr:Frame}{w1:World},(stepG P W {frame:=b.atR a (.inRegion ops (i::rest)::k),callers:=cs,status:=.running,dying:=Y} w).bare=.go {frame:=fr,callers:=b.atR a (.inRegion ops (i::rest)::k)::cs,status:=.running,dying:=Y} w1->
   step P (lone (b.atR a (.inRegion ops (i::rest)::k)) cs w)=.next (lone fr (b.atR a (.inRegion ops (i::rest)::k)::cs) w1):=λh=>step_lone_go h
 cases res with
 |ok x w1=>cases x with
  |value v=>exact .inl ⟨_,_,h,.one (step_lone_go (by rw[t,<-j];simp[stepG.apply,g]))⟩
  |skip=>exact .inl ⟨_,_,h,.one (step_lone_go (by rw[t,<-j];simp[stepG.apply,g]))⟩
  |defer d=>have C:=Frame.finish_atR b {a with defers:=d::a.defers} ops i rest k undef;rw[F]at C;refine .inl ⟨_,_,h,.one (step_lone_go ?_)⟩;rw[t];simp only[stepG.apply,Sem.runT_eq,g,GStep.bare_after];exact lS (λfr=>GStep.go {frame:=fr,callers:=cs,status:=.running,dying:=Y} w1) C
  |enter f args=>
   obtain⟨e,H,fr,s,c,_,p⟩:=Pq.1 h.2 (b.atR a (.inRegion ops (i::rest)::k)::cs);have h1:=enter (fr:=Frame.enter P f args .normal) (w1:=w1) (by rw[t];simp[stepG.apply,g,Frame.atR]);cases e with|returned v=>exact .inl ⟨_,_,s,.head h1 (c.trans (.one (by rw[<-j];exact step_leave_returned p)))⟩|panicked I=>exact .inr ⟨.panic I,a,H,s,.inRegion ops (i::rest)::k,iy.2 (.head h1 (c.trans (.one (by rw[<-Frame.raise_atR];exact step_leave_panicked p))))⟩|outgrown=>obtain⟨u,y,z⟩:=s;exact .inr ⟨.outgrown,u,y,z,.inr (Outgrown.of_steps (.one h1) c)⟩
  |row row args=>obtain⟨v,H,s,c⟩:=h.2 (b.atR a (.inRegion ops (i::rest)::k)) cs (Lo _);have h1:=enter (fr:=Frame.ofRow P row args .normal) (w1:=w1) (by rw[t];simp[stepG.apply,g,Frame.atR]);exact .inl ⟨_,_,s,.head h1 (by rw[<-j];exact iy.1 c)⟩
  |round l f tmps assign E=>
   obtain⟨e,H,s,c⟩:=h.2.2 (b.atR a (.inRegion ops (i::rest)::k)) cs (Lo _);have h1:=enter (fr:=Frame.round l f tmps assign E .normal) (w1:=w1) (by rw[t];simp[stepG.apply,g,Frame.atR]);cases e with|returned v=>exact .inl ⟨_,_,s,.head h1 (by rw[<-j];exact iy.1 c)⟩|panicked I=>exact .inr ⟨.panic I,a,H,s,.inRegion ops (i::rest)::k,iy.2 (.head h1 (by rw[<-Frame.raise_atR];exact iy.1 c))⟩|outgrown=>obtain⟨u,y,z⟩:=s;exact .inr ⟨.outgrown,u,y,z,.inr (Outgrown.of_steps (.one h1) c)⟩
  |_=>exact h.elim
 |halt x w1=>cases x with|panic v=>refine .inr ⟨_,a,w1,h,.inRegion ops (i::rest)::k,iy.2 (.one (step_lone_go ?_))⟩;rw[t,<-Frame.raise_atR];simp[stepG.apply,g]|_=>exact h.elim
end
def uU(r:O Nat)(P:Program)(ops:Array Oper)(Q:Exit->Act->World->Prop):L Nat->Act->World->Prop
 |[],a,w=>Q .normal a w
 |i::rest,a,w=>match ops[i]? with
  |none=>uU r P ops Q rest a w
  |some o=>if Region.wanted o (yielded ops a.tmps)then XG r P o a w (uU r P ops Q rest) Q else uU r P ops Q rest (a.put o.dst undef) w
def me{ops:Array Oper}{Q:Exit->Act->World->Prop}:∀(l:L Nat)(a:Act)(w:World),uU r P ops Q l a w->∀(b:Frame)(k:L Item)(cs:L Frame),b.roundOf=r->
  ∃e f w',Q e f w'∧aa5 r P (lone (b.atR a (.inRegion ops l::k)) cs w) b k cs e f w'
 |[],a,w,h,b,k,cs,_=>⟨.normal,a,w,h,iy.2 (.one stepR_region_end)⟩
 |i::rest,a,w,h,b,k,cs,d=>by
  simp only[uU]at h;cases g:ops[i]? with
  |none=>simp only[g]at h;obtain⟨e,f,w',m,c⟩:=me rest a w h b k cs d;have j:=stepR_op_skip (P:=P) (b:=b) (a:=a) (k:=k) (cs:=cs) (w:=w) (ops:=ops) (i:=i) (rest:=rest) (by simp[g]);simp only[g,QM,Act.put]at j;exact⟨e,f,w',m,.of_steps (iy.2 (.one j)) c⟩
  |some o=>
   simp only[g]at h;by_cases n:Region.wanted o (yielded ops a.tmps)=W
   .simp only[n,fY]at h;rcases Vx (k:=k) (cs:=cs) (rest:=rest) d g n h with⟨a1,p,q,j⟩|hx
    .obtain ⟨e,f,w',m,c⟩:=me rest a1 p q b k cs d;exact⟨e,f,w',m,.of_steps (iy.2 j) c⟩
    .exact hx
   .simp only[n,eT,Bool.false_eq_true]at h;obtain⟨e,f,w',m,c⟩:=me rest _ w h b k cs d;have j:=stepR_op_skip (P:=P) (b:=b) (a:=a) (k:=k) (cs:=cs) (w:=w) (ops:=ops) (i:=i) (rest:=rest) (by simp[g];simpa using n);simp only[g,Jm]at j;exact⟨e,f,w',m,.of_steps (iy.2 (.one j)) c⟩
def UZ{ops:Array Oper}{a:Act}{w:World}(h:uU r P ops Q (List.range ops.size) a w):(Code.region id ops J).wpIn (WR r) 0 P Q a w:=
 λb k cs d _ _=>let ⟨e,f,g,i,c⟩:=me _ a w h b k cs d;⟨e,f,g,i,.of_steps (iy.2 (.one stepR_region)) c⟩
def A3(r:O Nat)(P:Program)(ops:Array Oper)(Q:Exit->Act->World->Prop)(i:Nat)(K:Act->World->Prop)(a:Act)(w:World):Prop:=
 match ops[i]? with
 |none=>K a w
 |some o=>if Region.wanted o (yielded ops a.tmps)then XG r P o a w K Q else K (a.put o.dst undef) w
def A3.mono{ops:Array Oper}{Q:Exit->Act->World->Prop}{i:Nat}{a:Act}{w:World}{K e:Act->World->Prop}(h:∀a w,K a w->e a w)(b:A3 r P ops Q i K a w):A3 r P ops Q i e a w:=by
 unfold A3 at *
 split
 .rename_i c;simp only[c]at b;exact h _ _ b
 .rename_i o c;simp only[c]at b;split
  .rename_i d;simp only[d,fY]at b;exact b.mono h
  .rename_i d;simp only[d]at b;exact h _ _ b
def aa6(r:O Nat)(P:Program)(ops:Array Oper)(Q:Exit->Act->World->Prop):Nat->Array Bool->Act->World->Prop
 |0,b,a,w=>Region.ready .any ops b=[]∧Q .normal a w
 |fuel+1,b,a,w=>(Region.ready .any ops b=[]->Q .normal a w)∧
  ∀i∈Region.ready .any ops b,A3 r P ops Q i (aa6 r P ops Q fuel (b.setIfInBounds i W)) a w
def SS{ops:Array Oper}(i:Nat)(rest:L Nat)(a:Act)(w:World):uU r P ops Q (i::rest) a w=A3 r P ops Q i (uU r P ops Q rest) a w:=by cases h:ops[i]?<;>simp[uU,A3,h]
def FG{ops:Array Oper}{Q:Exit->Act->World->Prop}:∀(fuel t:Nat)(b:Array Bool)(a:Act)(w:World),aa6 r P ops Q fuel b a w->uU r P ops Q (Region.linearise.go .any ops fuel t b []) a w
 |0,t,b,a,w,h=>by simpa[Region.linearise.go,uU]using h.2
 |fuel+1,t,b,a,w,h=>by
  obtain⟨e,f⟩:=h;simp only[Region.linearise.go];change uU r P ops Q (match(Region.ready .any ops b)[t%(Region.ready .any ops b).length]? with
   |some i=>Region.linearise.go .any ops fuel (t/(Region.ready .any ops b).length) (b.setIfInBounds i W) [i]
   |none=>[].reverse) a w
  generalize Region.ready .any ops b=l at *
  cases l with|nil=>simpa[uU]using e rfl|cons x d=>have c:t%(x::d).length<(x::d).length:=Nat.mod_lt _ (by simp);rw[fN c];dsimp only;rw[linearise_go_acc,List.reverse_singleton,yN,SS];exact(f _ (Gx c)).mono λa w=>FG fuel _ _ a w
def Lq{ops:Array Oper}{a:Act}{w:World}(f:P.follows .mixedOrders=W)
  (h:aa6 r P ops Q ops.size (Array.replicate ops.size J) a {w with drawn:=w.drawn+1}):(Code.region id ops W).wpIn (WR r) 0 P Q a w:=by
 intro b k cs d _ _;have h2:∀t,uU r P ops Q (Region.schedule (P.follows .mixedOrders) ops t) a {w with drawn:=w.drawn+1}:=λt=>by simp only[Region.schedule,f,Bool.true_or,fY];exact FG ops.size t _ a _ h
 obtain⟨e,g,i,j,c⟩:=me _ a _ (h2 _) b k cs d;exact⟨e,g,i,j,.of_steps (iy.2 (.one stepR_region_draw)) c⟩
def UY(P:Program)(l:Nat)(R:Ending->World->Prop):Exit->Act->World->Prop
 | .normal,_,w=>∃v a,(Instr.endRound l Y).run P w=.ok v a∧R (.returned v) a
 | .outgrown,_,w=>R .outgrown w
 |_,_,_=>False
def acB{l:Nat}{assign d:Code}{w:World}
  (h:assign.wpIn (WR (Z l)) 0 P (Exit.then (λq t=>∃s,(Instr.beginRound l).run P t=.ok () s∧d.wpIn (WR (Z l)) 0 P (UY P l R) q s) (λe _ w=>e=.outgrown∧R .outgrown w)) {tmps:=tmps,defers:=[]} w) {n:Nat} :
  RoundIn (WR r) n P l f tmps assign d w R:=by
 refine⟨trivial,λc cs _=>?_⟩
 let b:Frame:={(default:Frame)with fn:=f,kind:=.normal,roundOf:=Z l}
 have u:Frame.round l f tmps assign d .normal=b.atR {tmps:=tmps,defers:=[]} [.code assign,.beginRound,.code d]:=by simp[Frame.round,Frame.atR,b]
 obtain⟨e,q,t,z,g⟩:=h b [.beginRound,.code d] (c::cs) rfl trivial (Lo _);rw[<-u]at g;have out:∀{e:Exit}{a:Act}{j:World},(e=.outgrown∧R .outgrown j)->aa5 (Z l) P (lone (Frame.round l f tmps assign d .normal) (c::cs) w) b [.beginRound,.code d] (c::cs) e a j->
   ∃e j,R e j∧ComesIn (Machine.fenced P (WR r)) P (lone (Frame.round l f tmps assign d .normal) (c::cs) w) (match e with|.returned v=>lone (c.finish v) cs j|.panicked chain=>lone (c.raise chain) cs j|.outgrown=>lone c cs j) e:=by
  rintro e a j ⟨rfl,x⟩ g
  exact⟨.outgrown,j,x,g.resolve_left (by simp[b])⟩
 cases e with
 |normal=>
  obtain⟨s,y,k⟩:=z;have A:Steps P (lone (b.atR q [.beginRound,.code d]) (c::cs) t) (lone (b.atR q [.code d]) (c::cs) s):=.one (stepR_beginRound rfl y);obtain⟨B,F,C,m,i⟩:=k b [] (c::cs) rfl trivial (Lo _);cases B with
  |normal=>obtain⟨v,E,p,x⟩:=m;exact⟨.returned v,E,x,iy.2 ((iy.1 g).trans (A.trans ((iy.1 i).trans (.one (stepR_round_end rfl rfl p)))))⟩
  |outgrown=>exact⟨.outgrown,C,m,Outgrown.of_steps ((iy.1 g).trans A) (i.resolve_left (by simp[b]))⟩
  |_=>exact m.elim
 |_=>exact out z g
def n7(P:Program)(fn:Func)(tmps:Array Value)(R:Ending->World->Prop):L Deferred->FrameMode->World->Prop
 |[],.returning,w=>∃v,(results fn tmps).run P w=.ok v w∧R (.returned v) w
 |[],.panicking chain,w=>R (.panicked chain) w
 |[],.run,_=>False
 |d::ds,u,w=>u≠.run∧((∃b a,d.target=.collected b∧(Instr.takeDeferred b).run P w=.ok [] a∧n7 P fn tmps R ds u a)∨
   ∃e cap f args,d.target=.fn e cap∧(invoke d.target d.args).run P w=.ok (.enter f args) w∧CallsD P f args u w λ
    | .returned _,c,a=>n7 P fn tmps R ds (settle c) a
    | .panicked chain,c,a=>n7 P fn tmps R ds (raised c chain) a
    | .outgrown,_,a=>R .outgrown a)
def qn:∀(ds:L Deferred)(u:FrameMode)(w:World)(fr:Frame)(cs:L Frame),fr.mode=u->fr.defers=ds->fr.tmps=tmps->P.funcs[fr.fn]?=Z fn->fr.kind=.normal->n7 P fn tmps R ds u w->
  ∃e w' fr',R e w'∧Comes P (lone fr cs w) (lone fr' cs w') e∧fr'.fn=fr.fn∧fr'.leaving P w' e:=by
 intro ds
 induction ds with
 |nil=>
  intro u w fr cs l x y t z h;cases u with
  |run=>exact h.elim
  |returning=>obtain⟨v,I,m⟩:=h;exact⟨.returned v,w,fr,m,Steps.refl P _,rfl,l,x,z,fn,t,y▸I⟩
  |panicking chain=>exact⟨.panicked chain,w,fr,h,Steps.refl P _,rfl,l,x,fn,t⟩
 |cons d ds F=>
  intro u w fr cs l x y t z h;obtain⟨j,h⟩:=h;rcases h with⟨b,w',g,n,o⟩|⟨S,cap,f,args,g,A,p⟩
  .have h1:=step_collected (cs:=cs) (l▸j) x g n;obtain⟨B,C,fr',m,K,G,M⟩:=F u w' {fr with defers:=[]++ds} cs l rfl y t z o;exact⟨B,C,fr',m,Comes.of_steps (.one h1) K,G,M⟩
  .have h1:=step_defer (cs:=cs) (l▸j) x g A;obtain⟨e,k,w',N,m,a,H,E⟩:=p {fr with defers:=ds} cs l;cases e with
   |returned v=>have h2:=step_going_returned (c:={{fr with defers:=ds}with mode:=k}) (cs:=cs) H E;obtain⟨B,C,fr',q,r,i,s⟩:=F (settle k) w' {{{fr with defers:=ds}with mode:=k}with mode:=settle k} cs rfl rfl y t z m;exact⟨B,C,fr',q,Comes.of_steps (.head h1 (Steps.trans a (.one h2))) r,i,s⟩
   |panicked chain=>have h2:=step_going_panicked (c:={{fr with defers:=ds}with mode:=k}) (cs:=cs) E;obtain⟨B,C,fr',q,r,i,s⟩:=F (raised k chain) w' {{{fr with defers:=ds}with mode:=k}with mode:=raised k chain} cs rfl rfl y t z m;exact⟨B,C,fr',q,Comes.of_steps (.head h1 (Steps.trans a (.one h2))) r,i,s⟩
   |outgrown=>exact⟨.outgrown,w',fr,m,Outgrown.of_steps (.one h1) a,rfl,trivial⟩
def abO(P:Program)(fn:Func)(R:Ending->World->Prop):Exit->Act->World->Prop
 | .normal,a,w|.ret,a,w=>n7 P fn a.tmps R a.defers .returning w
 | .panic chain,a,w=>n7 P fn a.tmps R a.defers (.panicking chain) w
 | .outgrown,_,w=>R .outgrown w
 |_,_,_=>False
def wT{c:Code}{w:World}(hf:P.funcs[f]?=Z fn)(v:fn.body=Z c)
  (h:c.wpIn (WR Y) 0 P (abO P fn R) {tmps:=args++Array.replicate (fn.ntmps-args.size) undef,defers:=[]} w):Calls P f args w R:=by
 intro cs
 let b:Frame:={(default:Frame)with fn:=f,kind:=.normal}
 have j:Frame.enter P f args .normal=b.at {tmps:=args++Array.replicate (fn.ntmps-args.size) undef,defers:=[]} [.code c]:=by simp[Frame.enter,Frame.at,hf,v,b]
 obtain⟨e,n,u,o,a⟩:=wpIn_wide.1 h b [] cs;rw[<-j]at a;cases e with
 |normal=>obtain⟨p,q,d,r,s,g,t⟩:=qn n.defers .returning u {b.at n []with mode:=.returning} cs rfl rfl rfl hf rfl o;exact⟨p,q,d,r,Comes.of_steps (Steps.trans a (.one step_end)) s,g,t⟩
 |ret=>obtain⟨i,m⟩:=a;obtain⟨p,q,d,r,s,g,t⟩:=qn n.defers .returning u {b.at n i with mode:=.returning} cs rfl rfl rfl hf rfl o;exact⟨p,q,d,r,Comes.of_steps m s,g,t⟩
 |panic chain=>obtain⟨i,m⟩:=a;obtain⟨p,q,d,r,s,g,t⟩:=qn n.defers (.panicking chain) u {b.at n i with mode:=.panicking chain} cs rfl rfl rfl hf rfl o;exact⟨p,q,d,r,Comes.of_steps m s,g,t⟩
 |exit id=>exact o.elim
 |goto l=>exact o.elim
 |outgrown=>exact⟨.outgrown,u,b,o,a.resolve_left (by simp[b]),rfl,trivial⟩
end
end
section
section
variable {g:Gh}{w:World}
variable {s:St}{E:Env}{fr:Fr}{a:Act}
def OG{i:TI}{x:T}{vx:Value}{r:Prop×T×St}(h:loadT i s x=Z r)(a:aM g w x vx):∃ad,vx=.pointer (Z ad):=by cases a with|ptr o off b c=>exact⟨_,rfl⟩|mO=>exact⟨_,rfl⟩|kH=>exact⟨_,rfl⟩|_=>simp[loadT]at h
def SE(tmps:Array Value):ResultVar->Sem Value
 | .tmp t=>pure (tmps.getD t undef)
 | .cell a t=>do loadVar t (<-asAddr (tmps.getD a undef))
def oG{E:Env}(k:zU E){fr:Fr}{s:St}{a:Act}(hf:cG g fr a w)(hs:bh g s w):∀{l:L ResultVar}{p:Prop}{ts:L T},kj E s fr l=Z (p,ts)->p->
  ∃vs,(l.mapM (SE a.tmps)).run E.P w=.ok vs w∧PW (aM g w) ts vs
 |[],p,ts,h,d=>by simp only[kj,bg,bD]at h;obtain⟨_,rfl⟩:=h;exact⟨[],rfl,rfl,λj t v h=>by simp at h⟩
 | .tmp t::l,p,ts,h,d=>by
  simp only[kj]at h;split at h
  .rename_i x q r m n;simp only[bg,bD]at h;obtain⟨rfl,rfl⟩:=h;obtain⟨vs,h1,h2⟩:=oG k hf hs n d;obtain⟨v,o,f⟩:=hf.tm t x m;refine⟨v::vs,?_,by simp[h2.1],λj z A b c=>?_⟩
   .have e:(SE a.tmps (.tmp t)).run E.P w=.ok v w:=by simp[SE,U3,o]
    simp[List.mapM_cons,h1,e]
   .cases j with|zero=>simp at b c;subst b;subst c;exact f|succ j=>exact h2.2 j z A (by simpa using b) (by simpa using c)
  .cases h
 | .cell F t::l,p,ts,h,d=>by
  simp only[kj]at h;split at h
  .rename_i i x H m;split at h
   .rename_i q y M r N G n;simp only[bg,bD]at h;obtain⟨rfl,rfl⟩:=h;obtain⟨vs,h1,h2⟩:=oG k hf hs n d.2;obtain⟨v,o,f⟩:=hf.tm F x m;obtain⟨u,I,B,_⟩:=BK (k.ti _ _ H) hs f G d.1;obtain⟨K,rfl⟩:=OG G f;have C:(loadVar t K).run E.P w=.ok u w:=by simpa[Instr.loadAt,Instr.sureAddr]using I
    refine⟨u::vs,?_,by simp[h2.1],λj z A b c=>?_⟩
    .have e:(SE a.tmps (.cell F t)).run E.P w=.ok u w:=by simp[SE,U3,o,asAddr,C]
     simp[List.mapM_cons,h1,e]
    .cases j with|zero=>simp at b c;subst b;subst c;exact B|succ j=>exact h2.2 j z A (by simpa using b) (by simpa using c)
   .cases h
  .cases h
def Ll(c:zU E)(hf:cG g fr a w)(hs:bh g s w){fn:Func}{p:Prop}{ts:L T}(h:kj E s fr fn.results.toList=Z (p,ts))(d:p) :
  ∃v,(results fn a.tmps).run E.P w=.ok v w∧aM g w (acr ts) v:=by
 obtain⟨b,h1,h2⟩:=oG c hf hs h d;refine⟨if h:b.toArray.size=1 then b.toArray[0]else .tuple b.toArray,?_,?_⟩
 .have e:results fn a.tmps=(do
    let b <-fn.results.mapM (SE a.tmps)
    pure (if h:b.size=1 then b[0]else .tuple b)):=by
   unfold results
   congr 2
  rw[e];simp only[Array.mapM_eq_mapM_toList];simp[h1]
 .match ts,b,h2 with
  |[],[],_=>exact .gB _ _ rfl (λj t v h=>by simp at h)
  |[t],[v],h2=>exact h2.2 0 t v rfl rfl
  |t::f::ts,v::i::b,h2=>simp only[acr,LG,eV];rw[dif_neg (by omega)];exact .gB _ _ (by simpa using h2.1) (λj t v h3 h4=>h2.2 j t v h3 (by simpa using h4))
  |[],_::_,h2=>exact absurd h2.1 (by simp)
  |_::_,[],h2=>exact absurd h2.1 (by simp)
  |[_],_::_::_,h2=>exact absurd h2.1 (by simp)
  |_::_::_,[_],h2=>exact absurd h2.1 (by simp)
def EH:∀(l:L T)(k:Nat)(t:Tr T),k+l.length<=bC->∀j,(Az l k t).get j=if k<=j∧j<k+l.length then l[j-k]? else t.get j
 |[],k,t,_,j=>by
  have:¬(k<=j∧j<k+([]:L T).length):=by simp
  rw[br this];rfl
 |a::l,k,t,h,j=>by
  simp only[eV]at h;simp only[Az];rw[EH l (k+1) _ (by omega),Tr.aZ _ _ _ _ (by omega)];simp only[eV];by_cases h1:k+1<=j∧j<k+1+l.length
  .rw[bJ h1,bJ (by omega)];have:j-k=(j-(k+1))+1:=by omega
   rw[this];simp
  .rw[br h1];by_cases h2:j=k
   .rw[bJ h2,bJ (by omega)];subst h2;simp
   .rw[br h2,br (by omega)]
end
end
section
inductive Ty where
 |int (k:IntKind)|bool|str
 |sl (e:Ty)
 |st (n:Nat)
 |cR (n:Nat)
 deriving Inhabited
def rL:Ty->Ty->Bool
 | .int j,.int k=>nt j k
 | .bool,.bool=>W
 | .str,.str=>W
 | .sl a,.sl b=>rL a b
 | .st m,.st n=>Nat.beq m n
 | .cR m,.cR n=>Nat.beq m n
 |_,_=>J
def fM{a:Ty}:∀{b:Ty},rL a b=W->a=b:=by
 induction a with
 |int j=>
  intro b h;cases b with
  |int k=>
   have:j=k:=by cases j<;>cases k<;>first|rfl|cases h
   rw[this]
  |_=>cases h
 |bool=>intro b h;cases b<;>first|rfl|cases h
 |str=>intro b h;cases b<;>first|rfl|cases h
 |sl e c=>
  intro b h;cases b with|sl f=>rw[c h]|_=>cases h
 |st m=>
  intro b h;cases b with|st n=>rw[nN h]|_=>cases h
 |cR m=>
  intro b h;cases b with|cR n=>rw[nN h]|_=>cases h
@[reducible] def den(A:Nat->Type):Ty->Type
 | .int _=>Int
 | .bool=>Bool
 | .str=>L UInt8
 | .sl e=>L (den A e)
 | .st n=>A n
 | .cR n=>A n
@[reducible] def lI(A:Nat->Type):L Ty->Type
 |[]=>U
 |t::l=>den A t×lI A l
@[reducible] def wh(A:Nat->Type):L (TypeId×Ty)->Type
 |[]=>U
 |p::l=>Sum (den A p.2) (wh A l)
def lX:L (TypeId×Ty)->Nat->Ty
 |[],_=>.bool
 |p::_,0=>p.2
 |_::l,i+1=>lX l i
def o8:L (TypeId×Ty)->TypeId->O Nat
 |[],_=>Y
 |p::l,t=>bif Nat.beq p.1 t then Z 0 else match o8 l t with
  |some i=>Z (Nat.succ i)
  |none=>Y
def Wc{A:Nat->Type}:(l:L (TypeId×Ty))->(i:Nat)->den A (lX l i)->wh A l
 |[],_,_=>()
 |_::_,0,x=>.inl x
 |_::l,i+1,x=>.inr (Wc l i x)
def VC{A:Nat->Type}:(l:L (TypeId×Ty))->wh A l
 |[]=>()
 |_::l=>.inr (VC l)
def isNil{A:Nat->Type}:(l:L (TypeId×Ty))->wh A l->Bool
 |[],_=>W
 |_::_,.inl _=>J
 |_::l,.inr y=>isNil l y
def fW{A:Nat->Type}:(l:L (TypeId×Ty))->Nat->wh A l->Bool
 |[],_,_=>J
 |_::_,0,.inl _=>W
 |_::_,0,.inr _=>J
 |_::_,_+1,.inl _=>J
 |_::l,i+1,.inr y=>fW l i y
def gi{A:Nat->Type}(z:(t:Ty)->den A t):(l:L (TypeId×Ty))->(i:Nat)->wh A l->den A (lX l i)
 |[],_,_=>z .bool
 |_::_,0,.inl x=>x
 |p::_,0,.inr _=>z p.2
 |_::l,i+1,.inl _=>z (lX l i)
 |_::l,i+1,.inr y=>gi z l i y
structure Sg where
 A:Nat->Type
 fs:Nat->List Ty
 dfl:(n:Nat)->A n
 get:(n:Nat)->A n->lI A (fs n)
 VI:(n:Nat)->lI A (fs n)->A n
 cells:(n:Nat)->A n->List D
 alts:Nat->List (TypeId×Ty)
 sq:(n:Nat)->A n->wh A (alts n)
 imk:(n:Nat)->wh A (alts n)->A n
 pT:(n:Nat)->A n->Option (TypeId×D)
 pt:Ty
variable {S:Sg}
def Sg.zero(S:Sg):(t:Ty)->den S.A t
 | .int _=>(0:Int)
 | .bool=>J
 | .str=>([]:L UInt8)
 | .sl _=>[]
 | .st n=>S.dfl n
 | .cR n=>S.imk n (VC (S.alts n))
def bK(s:L UInt8):ByteArray:=⟨s.toArray⟩
def ofBytes(b:ByteArray):L UInt8:=b.data.toList
def NW:O (TypeId×D)->D
 |none=>.lit .nilIface
 |some p=>.cR p.1 p.2
def enc(S:Sg):(t:Ty)->den S.A t->D
 | .int k,n=>.lit (.int k n)
 | .bool,b=>.lit (.bool b)
 | .str,s=>.lit (.string (bK s))
 | .sl e,l=>.sl (l.map (enc S e))
 | .st n,x=>.agg (S.cells n x)
 | .cR n,x=>NW (S.pT n x)
def gD(S:Sg):(ts:L Ty)->lI S.A ts->L D
 |[],_=>[]
 |t::l,x=>enc S t x.1::gD S l x.2
def jr:Ty->Bool|.st _=>W|_=>J
def Sg.width(S:Sg):Ty->Nat|.st n=>cC (S.fs n)|_=>1
inductive V(S:Sg) where
 |ty (t:Ty) (x:den S.A t)
 |kb (b:Bool)
 |kn (k:IntKind) (n:Int)
 |dat (d:D)
 |ptr (o off:Nat)
 |mO (t:Ty) (x:den S.A t) (off:Nat)
 |kH (o e i off:Nat)
 |sh (o e:Nat)
 |emp
 |jE (n:Nat) (t:Ty) (l:List (den S.A t))
 |fn (f:Fn) (first cap:List (V S))
 |cR (t:TypeId) (v:V S)
 |agg (cs:List (V S))
 |gB (vs:List (V S))
 |gd (c:Bool) (v:V S)
 |mp (o:Nat)
 |rJ (o:Nat)
 |rI (o:Nat)
 |ub (e:Bool)
 |qm (o m r i:Nat)
 |nZ (n j:Nat) (x:S.A n)
inductive Bo(S:Sg) where
 |call (f:V S) (args:List (V S))
 |mark (o:Nat)
 |bad
structure bY(S:Sg) where
 n:Nat
 tm:Tr (V S)
 df:List (Bo S):=[]
structure LpV(S:Sg) where
 st:LoopState
 tI:Option Code
 fid:FuncId
 fr:bY S
 params:List Nat
 assign:Code
 body:Code
inductive wv(S:Sg) where
 |box (cs:List (V S))
 |arr (t:Ty) (l:List (den S.A t)) (era:Nat)
 |j8 (t:Ty) (l:List (den S.A t)) (era:Nat)
 |map (kt vt:Ty) (l:List (den S.A kt×den S.A vt))
 |GD (kt:Ty) (l:List (den S.A kt×V S))
 |pH (b:List UInt8) (pos:Nat)
 |lp (l:LpV S)
 |z8
 |kB (n j:Nat) (l:List (S.A n)) (era m gL:Nat) (hole:Option Nat)
 |rws (t:Ty) (ig:List (List (den S.A t))) (gL:Nat)
 |gone
structure bq(S:Sg) where
 ob:Tr (wv S)
 aJ:Nat
 fl:Nat
 lo:Nat
 wr:List Nat
 dr:List Nat
def bY.get(fr:bY S)(k:Nat):O (V S):=fr.tm.get k
def bY.put(fr:bY S)(k:Nat)(v:V S):bY S:={fr with tm:=fr.tm.set aL k v}
def bY.g9(fr:bY S)(k:O Nat)(v:V S):bY S:=match k with|some k=>fr.put k v|none=>fr
def za:(ts:L Ty)->lI S.A ts->L (V S)
 |[],_=>[]
 |t::l,x=>.ty t x.1::za l x.2
def uk:(t:Ty)->den S.A t->L (V S)
 | .st n,x=>za (S.fs n) (S.get n x)
 | .int k,x=>[.ty (.int k) x]
 | .bool,x=>[.ty .bool x]
 | .str,x=>[.ty .str x]
 | .sl e,x=>[.ty (.sl e) x]
 | .cR n,x=>[.ty (.cR n) x]
def sE:Value->O (V S)
 | .bool b=>Z (.kb b)
 | .int k n=>Z (.kn k n)
 | .slice Y 0 0=>Z .emp
 | .func f a b=>match a.toList,b.toList with
  |[],[]=>Z (.fn f [] [])
  |_,_=>Y
 | .iface t v=>(BJ v).map λd=>.dat (.cR t d)
 | .string b=>Z (.ty .str (ofBytes b))
 |v=>(BJ v).map .dat
def zeroV:D->V S
 | .lit (.bool b)=>.kb b
 | .lit (.int k n)=>.kn k n
 | .lit (.string b)=>.ty .str (ofBytes b)
 | .sl []=>.emp
 |d=>.dat d
def VX:V S->Bool
 | .ty t _=>!(jr t)
 | .dat d=>d.leaf
 | .agg _|.gB _|.gd _ _=>J
 |_=>W
def Au:L (V S)->Bool
 |[]=>W
 |v::l=>VX v&&Au l
def uF(i:TI):V S->O (L (V S))
 | .agg a=>bif i.agg&&Nat.beq (cC a) i.size then Z a else Y
 | .ty (.st n) x=>bif i.agg&&Nat.beq (cC (S.fs n)) i.size then Z (za (S.fs n) (S.get n x))else Y
 | .dat d=>bif i.agg then Y else bif Nat.beq i.size 1&&d.leaf then Z [.dat d]else Y
 | .gB _|.gd _ _=>Y
 |v=>bif i.agg then Y else bif Nat.beq i.size 1 then Z [v]else Y
def yV(agg:Bool)(cs:L (V S)):O (V S):=
 bif agg then Z (.agg cs)else match cs with
  |[x]=>Z x
  |_=>Y
def cm(fr:bY S):Operand->O (V S)
 | .tmp k=>fr.get k
 | .const v=>sE v
 | .global _=>Y
 | .func f=>Z (.fn (.func f) [] [])
def jX(fr:bY S):L Operand->O (L (V S))
 |[]=>Z []
 |x::l=>match cm fr x,jX fr l with
  |some t,Z r=>Z (t::r)
  |_,_=>Y
def gf(k:IntKind):V S->O Int
 | .kn j n=>bif nt j k then Z n else Y
 | .ty (.int j) x=>bif nt j k then Z x else Y
 |_=>Y
def iD:V S->O Bool
 | .kb b=>Z b
 | .ty .bool x=>Z x
 |_=>Y
def tV:V S->O (L UInt8)
 | .ty .str x=>Z x
 |_=>Y
def uH(t u:Ty)(x:den S.A t):O (den S.A u):=
 if h:rL t u=W then Z (fM h▸x)else Y
def m9(t u:Ty)(x:L (den S.A t)):O (L (den S.A u)):=
 if h:rL t u=W then Z (fM h▸x)else Y
def qq:(ts:L Ty)->lI S.A ts->Nat->(t:Ty)->den S.A t->lI S.A ts
 |[],h,_,_,_=>h
 | τ::_,h,0,t,y=>(match uH t τ y with|some z=>z|none=>h.1,h.2)
 |_::ts,h,j+1,t,y=>(h.1,qq ts h.2 j t y)
def cJ:(ts:L Ty)->lI S.A ts->Nat->(t:Ty)->den S.A t
 |[],_,_,t=>S.zero t
 | τ::_,h,0,t=>match uH τ t h.1 with|some z=>z|none=>S.zero t
 |_::ts,h,j+1,t=>cJ ts h.2 j t
def Sx(n j:Nat)(t:Ty)(x:S.A n)(y:L (den S.A t)):S.A n:=S.VI n (qq (S.fs n) (S.get n x) j (.sl t) y)
def GH(n j:Nat)(t:Ty)(x:S.A n):L (den S.A t):=cJ (S.fs n) (S.get n x) j (.sl t)
def xS(n j:Nat)(t:Ty)(l:L (S.A n)):L (L (den S.A t)):=l.map (GH n j t)
def ja(n j:Nat)(t:Ty)(l:L (S.A n))(ig:L (L (den S.A t))):L (S.A n):=List.zipWith (Sx n j t) l ig
def Cv(S:Sg)(n j:Nat)(t:Ty):Bool:=match nth (S.fs n) j with|some u=>rL u (.sl t)|none=>J
def Li(s:bq S)(m r:Nat):O ((t:Ty)×L (L (den S.A t))):=match s.ob.get m with
 |some (.rws t a b)=>bif Nat.beq r b then Z ⟨t,a⟩else Y
 |_=>Y
def I3(s:bq S)(e:Ty):V S->O (L (den S.A e))
 | .emp=>Z []
 | .jE _ t l=>m9 t e l
 | .nZ n _ x=>m9 (.st n) e [x]
 | .ty (.sl t) x=>m9 t e x
 | .sh o r=>match s.ob.get o with
  |some (.arr t l era)|some (.j8 t l era)=>bif Nat.beq r era then m9 t e l else Y
  |_=>Y
 |_=>Y
mutual
def bP(s:bq S):(t:Ty)->V S->O (den S.A t×L Nat)
 |t,.ty u x=>match uH u t x with
  |some y=>Z (y,[])
  |none=>Y
 | .bool,.kb b=>Z (b,[])
 | .int k,.kn j n=>bif nt j k then Z (n,[])else Y
 | .sl _,.emp=>Z ([],[])
 | .sl e,.jE _ t l=>match m9 t e l with
  |some l=>Z (l,[])
  |none=>Y
 | .sl e,.nZ n _ x=>match m9 (.st n) e [x]with
  |some l=>Z (l,[])
  |none=>Y
 | .sl e,.sh o r=>match s.ob.get o with
  |some (.arr t l era)=>bif Nat.beq r era then match m9 t e l with|some l=>Z (l,[o])|none=>Y else Y
  |some (.j8 t l era)=>bif Nat.beq r era then match m9 t e l with|some l=>Z (l,[])|none=>Y else Y
  |some (.kB n j l era m c Y)=>match Li s m c with
   |some ⟨t,a⟩=>bif Nat.beq r era&&(Nat.blt m bC&&Cv S n j t)then match m9 (.st n) e (ja n j t l a)with|some l=>Z (l,[o,m])|none=>Y else Y
   |none=>Y
  |_=>Y
 | .st n,.agg d=>match mR s (S.fs n) d with
  |some (h,os)=>Z (S.VI n h,os)
  |none=>Y
 | .cR n,.cR t v=>match o8 (S.alts n) t with
  |some i=>match bP s (lX (S.alts n) i) v with
   |some (y,os)=>Z (S.imk n (Wc (S.alts n) i y),os)
   |none=>Y
  |none=>Y
 | .cR n,.dat (.lit .nilIface)=>Z (S.imk n (VC (S.alts n)),[])
 |_,_=>Y
def mR(s:bq S):(ts:L Ty)->L (V S)->O (lI S.A ts×L Nat)
 |[],[]=>Z ((),[])
 |t::ts,v::l=>match bP s t v,mR s ts l with
  |some (x,os),Z (h,a)=>Z ((x,h),os++a)
  |_,_=>Y
 |_,_=>Y
end
def dF(s:bq S):L Nat->O (bq S)
 |[]=>Z s
 |o::l=>
  bif Nat.ble s.fl o then match s.ob.get o with
   |some (.arr t a era)=>dF {s with ob:=s.ob.set aL o (.j8 t a era),wr:=o::s.wr} l
   |some (.j8 _ _ _)=>dF s l
   |some (.kB n j a era m r Y)=>match Li s m r with
    |some ⟨t,b⟩=>bif l.contains m&&(Nat.ble s.fl m&&(Nat.blt m bC&&Cv S n j t))then dF {s with ob:=(s.ob.set aL m .gone).set aL o (.j8 (.st n) (ja n j t a b) era),wr:=o::m::s.wr} l else Y
    |none=>Y
   |some (.rws ..)=>dF s l
   |some .gone=>dF s l
   |_=>Y
  else Y
def dw(s:bq S)(o:wv S):bq S:={s with ob:=s.ob.set aL s.aJ o,aJ:=Nat.succ s.aJ}
def gn(a b:L UInt8):Bool:=a==b
def eo{α:Type}(l:L α)(lo a:Int):L α:=(l.take a.toNat).drop lo.toNat
def ak{α:Type}(l:L α):Int:=l.length
def lC(b:L UInt8)(n:Int):Int:=(b.getD n.toNat 0).toNat
def cM{α:Type}(a b:L α):L α:=a++b
def av{α:Type}(n:Int)(l:L α):Bool:=decide (0<=n)&&decide (n<l.length)
def cz{α:Type}(k:Nat)(l:L α):Bool:=decide (k<l.length)
def eS(lo a len:Int):Bool:=decide (0<=lo)&&(decide (lo<=a)&&decide (a<=len))
def aal(a b:L UInt8):Bool:=decide (a.length+b.length<=4611686018427387904)
def cX{α:Type}(a b:L α):Bool:=decide (a.length+b.length<=17179869184)
def nzI(a:Int):Bool:=decide (a≠0)
def aR{α:Type}(l:L α)(k:Nat)(z:α):α:=l.getD k z
def dV{α:Type}(l:L α)(k:Nat)(x:α):L α:=l.set k x
def Zu{α β:Type}(l:L α)(m:L β):Bool:=decide (l.length=m.length)
def Wj{α:Type}(k:Nat)(l:L α)(h i:Nat):Bool:=decide (k<l.length)&&(Nat.beq k h&&Nat.beq i h)
def iq(a b:Int):Bool:=decide (a=b)
def ah(n:Int):Nat:=n.toNat
abbrev o9(S:Sg):=O (Bool×V S×bq S)
def CY:Lk->V S->V S->O Bool
 | .int k,a,b=>match gf k a,gf k b with
  |some x,Z y=>Z (D.aG x y)
  |_,_=>Y
 | .bool,a,b=>match iD a,iD b with
  |some x,Z y=>Z (D.beq x y)
  |_,_=>Y
 | .str,a,b=>match tV a,tV b with
  |some x,Z y=>Z (gn x y)
  |_,_=>Y
 | .no,_,_=>Y
def jT:L Lk->L (V S)->L (V S)->O Bool
 |[],[],[]=>Z W
 |k::c,a::as,b::d=>match CY k a b,jT c as d with
  |some x,Z y=>Z (D.dz x y)
  |_,_=>Y
 |_,_,_=>Y
def WM:V S->V S->O Bool
 | .dat (.lit (.pointer Y)),.ptr _ _=>Z J
 | .ptr _ _,.dat (.lit (.pointer Y))=>Z J
 |_,_=>Y
def WN:V S->V S->O Bool
 | .dat (.lit .nilIface),.cR _ _=>Z J
 | .cR _ _,.dat (.lit .nilIface)=>Z J
 |_,_=>Y
def aao(i:TI)(a b:V S):O Bool:=
 bif i.agg then match i.lks,uF i a,uF i b with
  |[],_,_=>Y
  |k::c,Z as,Z d=>jT (k::c) as d
  |_,_,_=>Y
 else match i.kd with
  | .leaf k=>CY k a b
  | .ptr=>WM a b
  | .iface=>WN a b
  |_=>Y
def aaE(op:BinOp)(k:IntKind)(m n:Int):O (V S):=
 match op with
 | .lss=>Z (.ty .bool (D.bO m n))
 | .leq=>Z (.ty .bool (D.ep m n))
 | .gtr=>Z (.ty .bool (D.bO n m))
 | .geq=>Z (.ty .bool (D.ep n m))
 | .add=>Z (.ty (.int k) (D.add k m n))
 | .sub=>Z (.ty (.int k) (D.dH k m n))
 | .mul=>Z (.ty (.int k) (D.mul k m n))
 |_=>Y
def aaB(op:BinOp)(k:IntKind)(m n:Int):O (V S):=
 match op with
 | .rem=>Z (.ty (.int k) (D.rem m n))
 | .quo=>Z (.ty (.int k) (D.quo k m n))
 |_=>Y
def Fv(i:TI)(op:BinOp)(a b:V S):O (Bool×V S):=
 match op with
 | .eql=>(aao i a b).map λr=>(W,.ty .bool r)
 | .neq=>(aao i a b).map λr=>(W,.ty .bool (D.aK r))
 |op=>match i.kd with
  | .leaf (.int k)=>match gf k a,gf k b with
   |some m,Z n=>match aaE op k m n with
    |some d=>Z (W,d)
    |none=>(aaB op k m n).map λd=>(nzI n,d)
   |_,_=>Y
  | .leaf .str=>match op,tV a,tV b with
   | .add,Z m,Z n=>Z (aal m n,.ty .str (cM m n))
   |_,_,_=>Y
  |_=>Y
def Ke(s:bq S)(o e:Nat):O ((t:Ty)×L (den S.A t)):=
 match s.ob.get o with
 |some (.arr t l era)=>bif Nat.beq e era then Z ⟨t,l⟩else Y
 |some (.j8 t l era)=>bif Nat.beq e era then Z ⟨t,l⟩else Y
 |_=>Y
def YH(τ:O Ty)(t:Ty):Bool:=match τ with|some u=>rL u t|none=>J
def LX(i:TI)(τ:O Ty)(t:Ty)(x:den S.A t)(off:Nat):O (V S):=
 bif Nat.beq off 0&&YH τ t then Z (.ty t x)
 else
  bif Nat.ble (Nat.add off i.size) (S.width t)then yV i.agg (((uk t x).drop off).take i.size)else Y
def fq:V S:=.dat (.lit (.tuple #[]))
def wO(i:TI)(τ:O Ty)(s:bq S):V S->o9 S
 | .ptr o off=>match s.ob.get o with
  |some (.box a)=>
   let l:=(a.drop off).take i.size
   bif Nat.beq (cC l) i.size then(yV i.agg l).map λt=>(W,t,s)else Y
  |_=>Y
 | .mO t x off=>(LX i τ t x off).map λv=>(W,v,s)
 | .kH o e k off=>match Ke s o e with
  |some ⟨t,l⟩=>(LX i τ t (aR l k (S.zero t)) off).map λv=>(cz k l,v,s)
  |none=>Y
 |_=>Y
def Sg.mJ(S:Sg):Ty->L Ty
 | .st n=>S.fs n
 |t=>[t]
def ue:(t:Ty)->lI S.A (S.mJ t)->den S.A t
 | .st n,h=>S.VI n h
 | .int _,h=>h.1
 | .bool,h=>h.1
 | .str,h=>h.1
 | .sl _,h=>h.1
 | .cR _,h=>h.1
def Ds(i:TI)(s:bq S)(a x:V S):o9 S:=
 match uF i x with
 |none=>Y
 |some l=>match a with
  | .ptr o off=>match s.ob.get o with
   |some (.box d)=>
    bif Nat.ble s.fl o&&(Nat.ble (Nat.add off (cC l)) (cC d)&&Au l)then
     Z (W,fq,{s with ob:=s.ob.set aL o (.box (d.take off++l++d.drop (Nat.add off (cC l)))),wr:=o::s.wr})
    else Y
   |_=>Y
  | .kH o e k off=>match s.ob.get o with
   |some (.arr t _ _)=>match mR s ((S.mJ t).drop off |>.take (cC l)) l with
    |some (_,os)=>match dF s os with
     |some b=>match b.ob.get o with
      |some (.arr t c era)=>match mR s (S.mJ t) ((uk t (aR c k (S.zero t))).take off++l++(uk t (aR c k (S.zero t))).drop (Nat.add off (cC l)))with
       |some (h,_)=>
        bif Nat.ble b.fl o&&(Nat.beq e era&&(Nat.ble (Nat.add off (cC l)) (S.width t)&&(Nat.ble 1 (cC l)&&Au l)))then
         Z (cz k c,fq,{b with ob:=b.ob.set aL o (.arr t (dV c k (ue t h)) era),wr:=o::b.wr})
        else Y
       |none=>Y
      |_=>Y
     |none=>Y
    |none=>Y
   |_=>Y
  |_=>Y
def Im(place:Nat->O (Nat×TI))(cells:L (V S)):L (Nat×V S)->O (L (V S))
 |[]=>Z cells
 |(k,v)::a=>match place k with
  |none=>Y
  |some (off,i)=>match uF i v with
   |none=>Y
   |some l=>
    bif Nat.ble (Nat.add off (cC l)) (cC cells)&&Au l then Im place (cells.take off++l++cells.drop (Nat.add off (cC l))) a else Y
def iA(fr:bY S):L (Nat×Operand)->O (L (Nat×V S))
 |[]=>Z []
 |(k,x)::l=>match cm fr x,iA fr l with
  |some t,Z r=>Z ((k,t)::r)
  |_,_=>Y
def mo(s:bq S)(e:Ty)(es:L (den S.A e)):L (Nat×V S)->O (L (den S.A e)×L Nat)
 |[]=>Z (es,[])
 |(k,v)::a=>match bP s e v with
  |none=>Y
  |some (x,os)=>
   bif Nat.blt k (cC es)then
    match mo s e (es.set k x) a with
    |some (r,b)=>Z (r,os++b)
    |none=>Y
   else Y
def Js(fr:bY S):O Operand->O (O (V S))
 |none=>Z Y
 |some x=>(cm fr x).map Z
def AZ(dflt:Int):O (V S)->O Int
 |none=>Z dflt
 |some t=>gf .i64 t
def LY:V S->L Nat
 | .sh o _=>[o]
 |_=>[]
def tW(i:TI)(τ:O Ty)(s:bq S)(v:V S)(l h m:O (V S)):o9 S:=
 match τ,AZ 0 l with
 |some .str,Z lo=>match i.kd,tV v,m with
  | .leaf .str,Z b,Y=>match AZ (ak b) h with
   |some a=>Z (eS lo a (ak b),.ty .str (eo b lo a),s)
   |none=>Y
  |_,_,_=>Y
 |some (.sl e),Z lo=>match i.kd,I3 s e v,dF s (LY v)with
  | .slice _ _ _ _,Z c,Z d=>match AZ (ak c) h,m,h with
   |some a,Y,_=>Z (eS lo a (ak c),.ty (.sl e) (eo c lo a),d)
   |some a,Z y,Z _=>match y with
    | .kn .i64 0=>Z (iq lo 0&&iq a 0,.emp,s)
    |y=>match gf .i64 y with
     |some f=>Z (eS lo a (ak c)&&iq f a,.jE 0 e (eo c lo a),d)
     |none=>Y
   |_,_,_=>Y
  |_,_,_=>Y
 |_,_=>Y
def Xl:V S->O (O Bool×Bool)
 | .gd g v=>match iD v with
  |some y=>Z (Z g,y)
  |none=>Y
 | .kb b=>Z (Y,b)
 | .ty .bool x=>Z (Y,x)
 |_=>Y
def orT(g:O Bool):Bool:=match g with|some g=>g|none=>W
def Vs(c a b:V S):O (Bool×V S):=
 match c with
 | .kb u=>match Xl (bif u then a else b)with
  |some (p,y)=>Z (orT p,.ty .bool y)
  |none=>Y
 |c=>match iD c,Xl a,Xl b with
  |some t,Z (p,x),Z (q,y)=>Z (bif t then orT p else orT q,.ty .bool (D.ahX t x y))
  |_,_,_=>Y
def jA(i:TI)(τ:O Ty)(s:bq S)(x a:V S):o9 S:=
 match i.kd,τ,gf .i64 a with
 | .slice _ _ _ _,Z (.sl e),Z n=>match x with
  | .sh o r=>match Ke s o r with
   |some ⟨t,l⟩=>bif rL t e then Z (av n l,.kH o r (ah n) 0,s)else Y
   |none=>Y
  |v=>match I3 s e v with
   |some l=>Z (av n l,.mO e (aR l (ah n) (S.zero e)) 0,s)
   |none=>Y
 |_,_,_=>Y
def oW(i:TI)(s:bq S)(k:Nat)(x:V S):o9 S:=
 match i.kd with
 | .struct a=>match nth a k with
  |some (off,size,_)=>bif Nat.beq size 0 then Y else match x with
   | .ptr o b=>Z (W,.ptr o (Nat.add b off),s)
   | .mO t d b=>Z (W,.mO t d (Nat.add b off),s)
   | .kH o e j b=>Z (W,.kH o e j (Nat.add b off),s)
   |_=>Y
  |none=>Y
 |_=>Y
def AI(i:TI)(s:bq S)(k:Nat)(x:V S):o9 S:=
 match i.kd with
 | .struct a=>match nth a k,uF i x with
  |some (off,size,b),Z c=>
   let l:=(c.drop off).take size
   bif Nat.beq (cC l) size&&!(Nat.beq size 0)then(yV b l).map λt=>(W,t,s)else Y
  |_,_=>Y
 |_=>Y
def AA(i:TI)(s:bq S)(x a:V S):o9 S:=
 match i.kd,gf .i64 a,tV x with
 | .leaf .str,Z n,Z b=>Z (av n b,.ty (.int .u8) (lC b n),s)
 |_,_,_=>Y
def Db(i:TI)(s:bq S)(t:TypeId)(ok:Bool)(x:V S):o9 S:=
 match i.kd,x,ok with
 | .iface,_,_=>Y
 |_,.cR u v,W=>bif Nat.beq u t then Z (W,.gB [v,.kb W],s)else
   (yV i.agg (i.zero.map zeroV)).map λz=>(W,.gB [z,.kb J],s)
 |_,.cR u v,J=>bif Nat.beq u t then Z (W,v,s)else Y
 |_,_,_=>Y
def unV(i:TI)(op:UnOp)(v:V S):O (V S):=
 match op,i.kd with
 | .not,.leaf .bool=>(iD v).map λb=>.ty .bool (D.aK b)
 | .neg,.leaf (.int k)=>(gf k v).map λn=>.ty (.int k) (D.neg k n)
 |_,_=>Y
def Ry(i j:TI)(s:bq S)(v:V S):o9 S:=
 match i.kd,j.kd with
 | .leaf (.int k),.leaf (.int l)=>(gf k v).map λn=>(W,.ty (.int l) (D.conv l n),s)
 | .leaf .str,.leaf .str=>(tV v).map λ_=>(W,v,s)
 |_,_=>Y
def zo(s:bq S)(k:Nat):V S->o9 S
 | .gB a=>(nth a k).map λt=>(W,t,s)
 |_=>Y
structure MT where
 kt:Ty
 vt:Option Ty
 el:TypeId
structure gH where
 E:Env
 ty:Nat->Option Ty
 mt:Nat->Option MT:=λ_=>Y
 Jx:Nat->String->Option FuncId:=λ_ _=>Y
 nst:Nat->Option Nat:=λ_=>Y
def cn(E:gH)(fr:bY S)(s:bq S)(o:Op):o9 S:=
 match o with
 | .move x=>(cm fr x).map λt=>(W,t,s)
 | .assign x=>(cm fr x).map λt=>(W,t,s)
 | .pick c a b=>match cm fr c,cm fr a,cm fr b with
  |some c,Z a,Z b=>(Vs c a b).map λ(p,t)=>(p,t,s)
  |_,_,_=>Y
 | .alloc t=>match E.E.ti t with
  |some i=>bif Nat.blt s.aJ bC then Z (W,.ptr s.aJ 0,dw s (.box (i.zero.map zeroV)))else Y
  |none=>Y
 | .box t x=>match E.E.ti t,cm fr x with
  |some i,Z v=>bif Nat.blt s.aJ bC then(uF i v).map λg=>(W,.ptr s.aJ 0,dw s (.box g))else Y
  |_,_=>Y
 | .build t parts=>match E.E.ti t,iA fr parts.toList with
  |some i,Z q=>match i.kd with
   | .struct w=>(Im (λk=>match nth w k with|some (off,size,z)=>Z (off,{(default:TI)with size:=size,agg:=z})|none=>Y) (i.zero.map zeroV) q).map
     λg=>(W,.agg g,s)
   |_=>Y
  |_,_=>Y
 | .buildSlice t len parts=>match E.E.ti t,E.ty t,iA fr parts.toList with
  |some i,Z (.sl e),Z q=>match i.kd with
   | .slice sz _ _ _=>
    bif Nat.ble (Nat.mul len sz) 16777216 then
     match mo s e (List.replicate len (S.zero e)) q with
     |some (A,os)=>(dF s os).map λs=>(W,.jE len e A,s)
     |none=>Y
    else Y
   |_=>Y
  |_,_,_=>Y
 | .load t a=>match E.E.ti t,cm fr a with
  |some i,Z a=>wO i (E.ty t) s a
  |_,_=>Y
 | .store t a x=>match E.E.ti t,cm fr a,cm fr x with
  |some i,Z a,Z x=>Ds i s a x
  |_,_,_=>Y
 | .nilCheck x=>match cm fr x with
  |some (.ptr o b)=>Z (W,.ptr o b,s)
  |some (.mO t d b)=>Z (W,.mO t d b,s)
  |some (.kH o e j b)=>Z (W,.kH o e j b,s)
  |some (.cR t v)=>Z (W,.cR t v,s)
  |some (.fn (.func f) a b)=>Z (W,.fn (.func f) a b,s)
  |_=>Y
 | .binOp op t x y _=>match E.E.ti t,cm fr x,cm fr y with
  |some i,Z a,Z b=>(Fv i op a b).map λ(p,d)=>(p,d,s)
  |_,_,_=>Y
 | .unOp op t x=>match E.E.ti t,cm fr x with
  |some i,Z v=>(unV i op v).map λd=>(W,d,s)
  |_,_=>Y
 | .convert src r x=>match E.E.ti src,E.E.ti r,cm fr x with
  |some i,Z j,Z v=>Ry i j s v
  |_,_,_=>Y
 | .makeInterface t x=>match E.E.ti t,cm fr x with
  |some i,Z v=>match i.kd with
   | .iface=>Y
   |_=>Z (W,.cR t v,s)
  |_,_=>Y
 | .makeFunc f first cap=>match jX fr first.toList,jX fr cap.toList with
  |some a,Z b=>Z (W,.fn f a b,s)
  |_,_=>Y
 | .extract x k=>match cm fr x with
  |some v=>zo s k v
  |none=>Y
 | .fieldAddr t x k=>match E.E.ti t,cm fr x with
  |some i,Z v=>oW i s k v
  |_,_=>Y
 | .field t x k=>match E.E.ti t,cm fr x with
  |some i,Z v=>AI i s k v
  |_,_=>Y
 | .indexAddr t x u=>match E.E.ti t,cm fr x,cm fr u with
  |some i,Z v,Z n=>jA i (E.ty t) s v n
  |_,_,_=>Y
 | .index t x u=>match E.E.ti t,cm fr x,cm fr u with
  |some i,Z v,Z n=>AA i s v n
  |_,_,_=>Y
 | .slice t x lo B C=>match E.E.ti t,cm fr x,Js fr lo,Js fr B,Js fr C with
  |some i,Z v,Z l,Z h,Z m=>tW i (E.ty t) s v l h m
  |_,_,_,_,_=>Y
 | .typeAssert x _ t ok=>match E.E.ti t,cm fr x with
  |some i,Z v=>Db i s t ok v
  |_,_=>Y
 |_=>Y
def VZ:(a:Ty)->V S->O (den S.A a)
 | .int k,v=>gf k v
 | .bool,v=>iD v
 | .str,v=>tV v
 |_,_=>Y
def H8{A:Nat->Type}:(c:Ty)->den A c->den A c->Bool
 | .int _,a,b=>D.aG a b
 | .bool,a,b=>D.beq a b
 | .str,a,b=>gn a b
 |_,_,_=>J
def Gl{A:Nat->Type}{β:Type}(a:Ty)(z:β)(k:den A a):L (den A a×β)->β
 |[]=>z
 |p::l=>bif H8 a k p.1 then p.2 else Gl a z k l
def EM{A:Nat->Type}{β:Type}(a:Ty)(k:den A a):L (den A a×β)->Bool
 |[]=>J
 |p::l=>bif H8 a k p.1 then W else EM a k l
def nu{A:Nat->Type}{β:Type}(a:Ty)(k:den A a)(x:β):L (den A a×β)->L (den A a×β)
 |[]=>[(k,x)]
 |p::l=>bif H8 a k p.1 then(k,x)::l else p::nu a k x l
def Ca(c d a b:Ty)(l:L (den S.A c×den S.A d)):O (L (den S.A a×den S.A b)):=
 if h:rL c a=W then if e:rL d b=W then Z (fM h▸fM e▸l)else Y else Y
def M9{β:Type}(b a:Ty)(l:L (den S.A b×β)):O (L (den S.A a×β)):=
 if h:rL b a=W then Z (fM h▸l)else Y
def VL(s:bq S)(a b:Ty):V S->O (L (den S.A a×den S.A b))
 | .mp o=>match s.ob.get o with
  |some (.map k v l)=>Ca k v a b l
  |_=>Y
 | .dat (.lit (.map Y))=>Z []
 |_=>Y
def Yx{α:Type}(l:L α):Bool:=match l with|[]=>W|_::_=>J
def Zn(n:Int):Bool:=decide (0<=n)&&decide (n<=17179869184)
def Oo(pos:Nat)(b:L UInt8):Bool:=decide (pos<b.length)
def sY(b:L UInt8)(pos:Nat):Int:=((Utf8.decode (bK b) pos).1:Nat)
def Gp(b:L UInt8)(pos:Nat):Nat:=(Utf8.decode (bK b) pos).2
def MB(fr:bY S):O Operand->Bool
 |none=>W
 |some x=>match cm fr x with
  |some (.kn _ _)=>W
  |some (.ty (.int _) _)=>W
  |_=>J
def qU(E:gH)(fr:bY S)(s:bq S)(o:Op):o9 S:=
 match o with
 | .makeMap t r=>bif Nat.blt s.aJ bC&&MB fr r then match E.mt t with
  |some m=>match m.vt with
   |some a=>Z (W,.mp s.aJ,dw s (.map m.kt a []))
   |none=>Z (W,.mp s.aJ,dw s (.GD m.kt []))
  |none=>Y
  else Y
 | .lookup t x d ok=>match E.mt t,cm fr x,cm fr d with
  |some m,Z x,Z k=>match m.vt with
   |some a=>match VZ m.kt k,VL s m.kt a x with
    |some k,Z l=>Z (W,bif ok then .gB [.ty a (Gl m.kt (S.zero a) k l),.ty .bool (EM m.kt k l)]else .ty a (Gl m.kt (S.zero a) k l),s)
    |_,_=>Y
   |none=>Y
  |_,_,_=>Y
 | .mapUpdate t x d y|.insert t x d y=>match E.mt t,cm fr x,cm fr d,cm fr y with
  |some m,Z (.mp o),Z k,Z y=>match VZ m.kt k,s.ob.get o with
   |some k,Z (.map f a l)=>match Ca f a m.kt a l,bP s a y with
    |some l,Z (y,os)=>match dF s os with
     |some g=>bif Nat.ble s.fl o&&YH m.vt a then Z (W,fq,{g with ob:=g.ob.set aL o (.map m.kt a (nu m.kt k y l)),wr:=o::g.wr})else Y
     |none=>Y
    |_,_=>Y
   |some k,Z (.GD f l)=>match M9 f m.kt l with
    |some l=>bif Nat.ble s.fl o then Z (W,fq,{s with ob:=s.ob.set aL o (.GD m.kt (nu m.kt k y l)),wr:=o::s.wr})else Y
    |none=>Y
   |_,_=>Y
  |_,_,_,_=>Y
 | .makeSlice t n c=>match E.E.ti t,E.ty t,cm fr n,cm fr c with
  |some i,Z (.sl e),Z n,Z c=>match i.kd,gf .i64 n,gf .i64 c with
   | .slice _ _ _ _,Z n,Z c=>bif Nat.blt s.aJ bC then Z (Zn n&&iq c n,.sh s.aJ 0,dw s (.arr e (List.replicate (ah n) (S.zero e)) 0))else Y
   |_,_,_=>Y
  |_,_,_,_=>Y
 | .range t x=>match E.E.ti t,cm fr x with
  |some i,Z x=>match i.kd,tV x with
   | .leaf .str,Z b=>bif Nat.blt s.aJ bC then Z (W,.rI s.aJ,dw s (.pH b 0))else Y
   |_,_=>Y
  |_,_=>Y
 | .binOp .eql t x (.const .nilIface) _=>match E.E.ti t,cm fr x with
  |some i,Z (.ty (.cR n) y)=>match i.kd with
   | .iface=>Z (W,.ty .bool (isNil (S.alts n) (S.sq n y)),s)
   |_=>Y
  |some i,Z (.dat (.lit .nilIface))=>match i.kd with
   | .iface=>Z (W,.kb W,s)
   |_=>Y
  |_,_=>Y
 | .binOp .neq t x (.const .nilIface) _=>match E.E.ti t,cm fr x with
  |some i,Z (.ty (.cR n) y)=>match i.kd with
   | .iface=>Z (W,.ty .bool (D.aK (isNil (S.alts n) (S.sq n y))),s)
   |_=>Y
  |some i,Z (.dat (.lit .nilIface))=>match i.kd with
   | .iface=>Z (W,.kb J,s)
   |_=>Y
  |_,_=>Y
 | .binOp .eql t x (.const (.slice Y 0 0)) _=>match E.E.ti t,E.ty t,cm fr x with
  |some i,Z (.sl e),Z x=>match i.kd,I3 s e x with
   | .slice _ _ _ _,Z l=>Z (W,.ub (Yx l),s)
   |_,_=>Y
  |_,_,_=>Y
 | .nilCheck x=>match cm fr x with
  |some (.ty (.cR n) y)=>Z (D.aK (isNil (S.alts n) (S.sq n y)),.ty (.cR n) y,s)
  |_=>Y
 | .typeAssert x _ t ok=>match E.E.ti t,E.ty t,cm fr x with
  |some i,Z τ,Z (.ty (.cR n) y)=>match i.kd,o8 (S.alts n) t with
   | .iface,_=>Y
   |_,Z j=>bif rL (lX (S.alts n) j) τ then
     let v:V S:=.ty (lX (S.alts n) j) (gi S.zero (S.alts n) j (S.sq n y))
     let b:=fW (S.alts n) j (S.sq n y)
     bif ok then Z (W,.gB [v,.ty .bool b],s)else Z (b,v,s)
    else Y
   |_,Y=>bif ok then Z (W,.gB [.ty τ (S.zero τ),.kb J],s)else Y
  |_,_,_=>Y
 | .build t parts=>match E.E.ti t,iA fr parts.toList with
  |some i,Z h=>match i.kd with
   | .array _ sz p=>(Im (λk=>Z (Nat.mul k sz,{(default:TI)with size:=sz,agg:=p})) (i.zero.map zeroV) h).map λq=>(W,.agg q,s)
   |_=>Y
  |_,_=>Y
 |_=>Y
def isNone{α:Type}:O α->Bool|none=>W|some _=>J
def Ap(E:gH)(fr:bY S)(s:bq S)(o:Op):o9 S:=
 match o with
 | .indexAddr t x g=>match cm fr x with
  |some (.sh o r)=>match s.ob.get o with
   |some (.kB n _ l era _ _ _)=>match E.E.ti t,E.ty t,cm fr g with
    |some i,Z (.sl (.st p)),Z k=>match i.kd,gf .i64 k with
     | .slice _ _ _ _,Z k=>bif Nat.beq r era&&Nat.beq n p then Z (av k l,.kH o r (ah k) 0,s)else Y
     |_,_=>Y
    |_,_,_=>Y
   |_=>Y
  |_=>Y
 | .load t a=>match cm fr a with
  |some (.kH o e k off)=>match s.ob.get o with
   |some (.kB n j l era m b hole)=>match E.E.ti t with
    |some i=>bif Nat.beq e era then
      bif Nat.beq off j then
       bif Nat.beq i.size 1&&(!i.agg&&(isNone hole&&Nat.blt j (S.width (.st n))))then Z (cz k l,.qm o m b k,s)else Y
      else bif Nat.ble (Nat.add off i.size) j||Nat.blt j off then(LX i Y (.st n) (aR l k (S.zero (.st n))) off).map λv=>(cz k l,v,s)else Y
     else Y
    |none=>Y
   |_=>Y
  |_=>Y
 | .store t a (.tmp c)=>match cm fr a,fr.get c with
  |some (.kH o e k off),Z (.qm q u r i)=>match s.ob.get o with
   |some (.kB n j l era m b (Z h))=>match E.E.ti t with
    |some d=>bif (Nat.beq e era&&(Nat.beq off j&&(Nat.beq q o&&(Nat.beq u m&&(Nat.beq r b&&(Nat.beq d.size 1&&(!d.agg&&(Nat.ble s.fl o&&(Nat.blt j (S.width (.st n))&&Nat.blt c bC)))))))))then
      Z (Wj k l h i,fq,{s with ob:=s.ob.set aL o (.kB n j l era m b Y),wr:=o::s.wr})
     else Y
    |none=>Y
   |_=>Y
  |_,_=>Y
 | .buildSlice t len parts=>match parts.toList with
  |[(0,.tmp c)]=>match E.E.ti t,E.ty t,fr.get c with
   |some i,Z (.sl (.st n)),Z (.agg f)=>match E.nst n with
    |some j=>match i.kd,nth f j with
     | .slice sz _ _ _,Z .emp=>bif Nat.beq len 1&&(Nat.ble sz 16777216&&Nat.blt c bC)then match bP s (.st n) (.agg f)with
      |some (x,os)=>(dF s os).map λs=>(W,.nZ n j x,s)
      |none=>Y
      else Y
     |_,_=>Y
    |none=>Y
   |_,_,_=>Y
  |[]=>match E.E.ti t,E.ty t with
   |some i,Z (.sl _)=>match i.kd with
    | .slice _ _ _ _=>bif Nat.beq len 0 then Z (W,.emp,s)else Y
    |_=>Y
   |_,_=>Y
  |_=>Y
 |_=>Y
def yX(E:gH)(fr:bY S)(s:bq S)(o:Op):o9 S:=match Ap E fr s o with
 |some r=>Z r
 |none=>match cn E fr s o with
  |some r=>Z r
  |none=>qU E fr s o
def xW(n:Int)(ag:Bool)(sz:Nat)(cs:L (V S))(s:bq S):L Nat->L (Bool×V S×bq S)
 |[]=>[]
 |j::l=>match bif Nat.beq (cC ((cs.drop (Nat.mul j sz)).take sz)) sz&&Nat.blt 0 sz then yV ag ((cs.drop (Nat.mul j sz)).take sz)else Y with
  |some v=>(iq n (Int.ofNat j),v,s)::xW n ag sz cs s l
  |none=>[]
def iI(E:gH)(fr:bY S)(s:bq S)(o:Op):O (L (Bool×V S×bq S)×Bool×V S×bq S):=
 match o with
 | .next d W=>match cm fr d with
  |some (.rI o)=>match s.ob.get o with
   |some (.pH b pos)=>bif Nat.ble s.fl o then
     Z ([(Oo pos b,.gB [.kb W,.ty (.int .i64) (Int.ofNat pos),.ty (.int .i32) (sY b pos)],{s with ob:=s.ob.set aL o (.pH b (Nat.add pos (Gp b pos))),wr:=o::s.wr})],W,.gB [.kb J],s)
    else Y
   |_=>Y
  |_=>Y
 | .lookup t x a ok=>match E.mt t,cm fr x,cm fr a with
  |some m,Z (.mp o),Z k=>match s.ob.get o,VZ m.kt k,E.E.ti m.el with
   |some (.GD e l),Z k,Z i=>match M9 e m.kt l,yV i.agg (i.zero.map zeroV)with
    |some l,Z z=>Z (l.map λp=>(H8 m.kt k p.1,bif ok then .gB [p.2,.kb W]else p.2,s),W,bif ok then .gB [z,.kb J]else z,s)
    |_,_=>Y
   |_,_,_=>Y
  |_,_,_=>Y
 | .index t x a=>match E.E.ti t,cm fr x,cm fr a with
  |some i,Z (.agg c),Z k=>match i.kd,gf .i64 k with
   | .array len sz f,Z n=>bif Nat.beq (cC c) i.size then Z (xW n f sz c s (List.range len),J,fq,s)else Y
   |_,_=>Y
  |_,_,_=>Y
 |_=>Y
def Dd(i:TI)(e:Ty)(s:bq S)(x y:V S):o9 S:=
 bif !(Nat.blt s.aJ bC)then Y else
 match i.kd,I3 s e y with
 | .slice _ _ _ _,Z new=>
  match x with
  | .emp=>Z (W,.sh s.aJ 0,dw s (.arr e new 0))
  | .jE _ t a=>match m9 t e a with
   |some a=>match y with
    | .jE (_+1) _ _=>Z (cX a new,.sh s.aJ 0,dw s (.arr e (cM a new) 0))
    |_=>Z (cX a new,.ty (.sl e) (cM a new),s)
   |none=>Y
  | .sh o r=>match s.ob.get o with
   |some (.arr t a era)=>match m9 t e a with
    |some a=>
     bif Nat.ble s.fl o&&(Nat.beq r era&&!(LY y).contains o)then
      Z (cX a new,.sh o (Nat.succ era),{s with ob:=s.ob.set aL o (.arr e (cM a new) (Nat.succ era)),wr:=o::s.wr})
     else Y
    |none=>Y
   |_=>Y
  |_=>Y
 |_,_=>Y
def fh(E:gH)(s:bq S)(b:Builtin)(argTypes:Array TypeId)(args:L (V S)):o9 S:=
 match b,args with
 | .len,[x]=>match(nth argTypes.toList 0).bind E.E.ti,(nth argTypes.toList 0).bind E.ty with
  |some i,Z .str=>match i.kd,tV x with
   | .leaf .str,Z b=>Z (W,.ty (.int .i64) (ak b),s)
   |_,_=>Y
  |some i,Z (.sl e)=>match i.kd with
   | .slice _ _ _ _=>(I3 s e x).map λa=>(W,.ty (.int .i64) (ak a),s)
   |_=>Y
  |_,_=>Y
 | .append,[x,y]=>match argTypes.toList with
  |[t,u]=>match E.E.ti t,E.E.ti u,E.ty t with
   |some i,Z j,Z (.sl e)=>match j.kd with
    | .slice _ _ _ _=>Dd i e s x y
    |_=>Y
   |_,_,_=>Y
  |_=>Y
 |_,_=>Y
def El(a b:Int):Int:=bif D.bO a b then b else a
def OA(a b:Int):Int:=bif D.bO b a then b else a
def rC(E:gH)(s:bq S)(b:Builtin)(argTypes:Array TypeId)(args:L (V S)):o9 S:=
 match b,args with
 | .len,[.mp o]=>match(nth argTypes.toList 0).bind E.mt,s.ob.get o with
  |some _,Z (.map _ _ l)=>Z (W,.ty (.int .i64) (ak l),s)
  |some _,Z (.GD _ l)=>Z (W,.ty (.int .i64) (ak l),s)
  |_,_=>Y
 | .max,[x,y]=>match gf .i64 x,gf .i64 y with
  |some m,Z n=>Z (W,.ty (.int .i64) (El m n),s)
  |_,_=>Y
 | .min,[x,y]=>match gf .i64 x,gf .i64 y with
  |some m,Z n=>Z (W,.ty (.int .i64) (OA m n),s)
  |_,_=>Y
 |_,_=>Y
def jF(E:gH)(s:bq S)(b:Builtin)(argTypes:Array TypeId)(args:L (V S)):o9 S:=
 match b,args with
 | .len,[.sh o r]=>match s.ob.get o with
  |some (.kB n _ l era _ _ _)=>match(nth argTypes.toList 0).bind E.E.ti,(nth argTypes.toList 0).bind E.ty with
   |some i,Z (.sl (.st f))=>match i.kd with
    | .slice _ _ _ _=>bif Nat.beq r era&&Nat.beq n f then Z (W,.ty (.int .i64) (ak l),s)else Y
    |_=>Y
   |_,_=>Y
  |_=>Y
 | .append,[.sh o r,.nZ f q x]=>match s.ob.get o with
  |some (.kB n j l era m a Y)=>match argTypes.toList with
   |[t,u]=>match E.E.ti t,E.E.ti u,E.ty t,Li s m a with
    |some i,Z g,Z (.sl (.st h)),Z ⟨e,c⟩=>match i.kd,g.kd,m9 (.st f) (.st n) [x]with
     | .slice _ _ _ _,.slice _ _ _ _,Z new=>bif Nat.beq r era&&(Nat.beq n h&&(Nat.beq j q&&(Nat.ble s.fl o&&(Nat.ble s.fl m&&(Nat.blt m s.aJ&&(Nat.blt s.aJ bC&&(Cv S n j e&&Nat.ble 1 (S.width e))))))))then
       Z (D.dz (Zu l c) (cX l new),.sh o (Nat.succ era),{s with ob:=(s.ob.set aL m (.rws e (cM c [[]]) a)).set aL o (.kB n j (cM l new) (Nat.succ era) m a Y),wr:=o::m::s.wr})
      else Y
     |_,_,_=>Y
    |_,_,_,_=>Y
   |_=>Y
  |_=>Y
 | .append,[.qm o m r k,y]=>match s.ob.get o,s.ob.get m with
  |some (.kB n j l era v a Y),Z (.rws t c d)=>match argTypes.toList with
   |[p,u]=>match E.E.ti p,E.E.ti u,E.ty p,I3 s t y with
    |some i,Z g,Z (.sl e),Z new=>match i.kd,g.kd,y with
     |_,_,.sh _ _=>Y
     | .slice _ _ _ _,.slice _ _ _ _,_=>bif Nat.beq m v&&(Nat.beq r a&&(Nat.beq r d&&(Nat.ble s.fl o&&(Nat.ble s.fl m&&(Nat.blt o bC&&rL e t)))))then
       Z (D.dz (cz k c) (cX (aR c k []) new),.qm o m (Nat.succ r) k,{s with ob:=(s.ob.set aL m (.rws t (dV c k (cM (aR c k []) new)) (Nat.succ r))).set aL o (.kB n j l era m (Nat.succ r) (Z k)),wr:=o::m::s.wr})
      else Y
     |_,_,_=>Y
    |_,_,_,_=>Y
   |_=>Y
  |_,_=>Y
 |_,_=>Y
def kz(E:gH)(s:bq S)(b:Builtin)(argTypes:Array TypeId)(args:L (V S)):o9 S:=match jF E s b argTypes args with
 |some r=>Z r
 |none=>match fh E s b argTypes args with
  |some r=>Z r
  |none=>rC E s b argTypes args
end
end TL
end
end
