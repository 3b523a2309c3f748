import GoSem.Dispatch
import GoSem.Machine.Return
import Derived.Calls
import Derived.RowKit
import Derived.WalkKit
import Derived.Deep.AppendSrc
import Derived.Laws.StructEq
import Derived.Room.AppendAny
import Derived.RangeFuncIn
import Derived.RangeFuncLeaves
import Derived.RangeFuncRecord
import Derived.Orders
set_option linter.all false
set_option maxRecDepth 100000
set_option maxHeartbeats 0
noncomputable section
open Option renaming some->Z,none->Y
open Bool renaming true->W,false->J
section
namespace TL
section
abbrev bg:=@Option.some.injEq
abbrev bC:=@Prod.mk.injEq
abbrev eC:=@Option.map_eq_some_iff
abbrev fP:=@List.getElem?_eq_getElem
abbrev br:=@if_neg
abbrev dR:=@Bool.and_eq_true
abbrev fQ:=@Nat.le_of_ble_eq_true
abbrev bJ:=@if_pos
abbrev gJ:=@List.mem_cons_of_mem
abbrev iS:=@List.mem_append_right
abbrev bP:=@Nat.le_refl
abbrev dy:=@Nat.lt_of_lt_of_le
abbrev eH:=@List.mem_append_left
abbrev ez:=@List.mem_cons_self
abbrev dY:=@List.mem_append
abbrev dX:=@Option.map_some
abbrev dW:=@Int.natCast_add
abbrev eg:=@Int.natCast_one
abbrev eA:=@List.all_eq_true
abbrev dM:=@Bool.true_and
abbrev cG:=@cond_true
abbrev eK:=@Option.some.inj
abbrev fc:=@List.length_cons
abbrev gY:=@List.mem_of_getElem?
abbrev j6:=@List.getD_eq_getElem?_getD
abbrev eR:=@List.mem_cons
abbrev gK:=@List.getElem?_map
abbrev dP:=@cond_false
abbrev fG:=@Bool.false_and
abbrev fI:=@decide_eq_true
abbrev iq:=@List.length_append
abbrev gj:=@decide_eq_false
abbrev fC:=@Nat.le_trans
abbrev kY:=@List.getElem?_append
abbrev ov:=@Array.getElem?_eq_getElem
abbrev iT:=@List.append_nil
abbrev jR:=@decide_eq_true_eq
abbrev mZ:=@List.length_singleton
abbrev td:=@List.eq_nil_of_length_eq_zero
abbrev kX:=@List.mem_singleton
abbrev nF:=@Nat.eq_of_beq_eq_true
abbrev jQ:=@Bool.or_eq_true
abbrev eP:=@if_false
abbrev tc:=@List.getElem?_eq_some_iff
abbrev rM:=@List.getElem?_cons_zero
abbrev rL:=@Option.bind_eq_some_iff
abbrev jl:=@Nat.zero_add
abbrev rK:=@List.pairwise_append
abbrev fR:=@if_true
abbrev lI:=@List.map_cons
abbrev p8:=@List.append_assoc
abbrev s9:=@List.getElem_of_mem
abbrev vM:=@Nat.mul_le_mul_right
abbrev vL:=@Bool.or_eq_false_iff
abbrev yq:=@List.singleton_append
abbrev vK:=@List.getElem?_take
abbrev vJ:=@List.mem_filterMap
abbrev yp:=@List.contains_eq_mem
abbrev zX:=@Bool.and_eq_true_iff
abbrev IV:=@List.mem_zipIdx_iff_getElem?
abbrev zW:=@Int.toNat_of_nonneg
abbrev IU:=@Array.getElem?_eq_some_iff
abbrev w6:=@List.nil_append
abbrev w4:=@List.length_nil
abbrev Gb:=@List.getElem?_eq_none
abbrev Ga:=@Nat.ble_eq_true_of_le
abbrev Ds:=@List.length_pos_iff
abbrev mJ:=@congrArg
abbrev zV:=@List.length_take
abbrev zU:=@Option.getD_some
abbrev vI:=@Bool.and_true
abbrev tK:=@List.mem_map
abbrev BU:=@of_decide_eq_true
abbrev Dr:=@List.getElem?_drop
abbrev yo:=@Nat.testBit_or
abbrev zT:=@List.length_set
abbrev BT:=@List.take_length
abbrev FZ:=@Array.toList_append
abbrev IT:=@List.getElem?_zipWith
abbrev Dq:=@List.getElem?_set
abbrev Dp:=@Bool.not_eq_true'
abbrev KS:=@decide_eq_false_iff_not
abbrev wZ:=@Nat.mul_comm
abbrev KR:=@List.getElem?_set_self
abbrev FY:=@Int.toNat_natCast
abbrev BS:=@Bool.and_false
abbrev Dn:=@List.length_map
abbrev KQ:=@List.getElem?_set_ne
abbrev FX:=@List.getElem_mem
abbrev BR:=@Bool.not_true
abbrev RK:=@List.pairwise_iff_getElem
abbrev NR:=@List.getElem?_toArray
abbrev NQ:=@List.contains_iff_mem
abbrev IS:=@Option.bind_some
abbrev RJ:=@Classical.axiomOfChoice
abbrev Um:=@Array.getD_eq_getD_getElem?
abbrev NP:=@List.getElem?_range
abbrev BQ:=@Nat.add_mul
abbrev BP:=@Nat.zero_le
abbrev KP:=@List.length_drop
abbrev yz:=@Bool.not_false
abbrev Dw:=@Int.add_sub_cancel
abbrev Ll:=@List.mem_or_eq_of_mem_set
abbrev Lj:=@List.getElem?_append_left
abbrev tL:=@Nat.one_mul
abbrev Hf:=@List.getElem?_of_mem
abbrev Bh:=@List.foldl_cons
abbrev He:=@Array.length_toList
abbrev Li:=@List.length_eq_one_iff
abbrev yx:=@Nat.lt_or_ge
abbrev yw:=@Nat.le_of_eq
abbrev Lh:=@List.take_append_drop
abbrev Lg:=@Array.getElem?_toList
abbrev Qk:=@List.exists_cons_of_ne_nil
abbrev GZ:=@List.nodup_append
abbrev Qj:=@List.drop_eq_getElem_cons
abbrev Qi:=@Option.filter_eq_some_iff
abbrev Qh:=@Classical.byContradiction
abbrev Bg:=@Nat.add_zero
abbrev UL:=@List.take_succ_eq_append_getElem
abbrev Lf:=@List.map_congr_left
abbrev UK:=@Array.getElem?_setIfInBounds_ne
abbrev qF:=@Iff.rfl
abbrev Dv:=@List.all_cons
abbrev GY:=@List.nodup_cons
abbrev yu:=@Nat.not_le
abbrev Le:=@List.ext_getElem?
abbrev Ld:=@List.size_toArray
abbrev Lc:=@List.any_eq_false
abbrev Qg:=@Array.getElem?_append
abbrev GX:=@Option.map_map
abbrev Qf:=@List.mem_of_mem_take
abbrev Qe:=@Nat.div_lt_of_lt_mul
abbrev Lb:=@List.any_eq_true
abbrev Bf:=@Nat.not_lt
abbrev GW:=@Bool.and_self
abbrev UJ:=@List.getElem?_append_right
abbrev GV:=@Bool.false_or
abbrev Du:=@Nat.le_succ
abbrev Qd:=@Array.getElem?_push
abbrev La:=@List.map_append
abbrev KZ:=@List.cons.injEq
abbrev UH:=@List.extract_eq_take_drop
abbrev KY:=@List.all_append
abbrev GU:=@Nat.beq_refl
abbrev GS:=@List.map_set
abbrev UF:=@List.eq_of_mem_replicate
abbrev GR:=@List.map_nil
abbrev UE:=@Option.isSome_iff_exists
abbrev Dt:=@Array.ext'
abbrev KX:=@Nat.mul_le_mul
abbrev KW:=@List.mem_range
abbrev KV:=@List.drop_drop
abbrev KU:=@List.take_left
abbrev UD:=@Array.toList_eq_nil_iff
abbrev UC:=@List.pairwise_singleton
abbrev Qc:=@List.flatMap_cons
abbrev UB:=@List.getElem_cons_zero
abbrev KT:=@Nat.mul_assoc
abbrev Qb:=@Option.bind_none
abbrev Qa:=@Array.toList_map
open Go
inductive Tr(α:Type) where
 |nil
 |node (v:Option α) (l r:Tr α)
 deriving Inhabited
namespace Tr
variable {α:Type}
def get:Tr α->Nat->Option α
 | .nil,_=>Y
 | .node v l r,k=>match k with
  |0=>v
  |k+1=>match Nat.beq (Nat.mod k 2) 0 with
   |true=>l.get (Nat.div k 2)
   |false=>r.get (Nat.div k 2)
def set:Nat->Tr α->Nat->α->Tr α
 |0,t,_,_=>t
 |n+1,.nil,k,x=>match k with
  |0=>.node (Z x) .nil .nil
  |k+1=>match Nat.beq (Nat.mod k 2) 0 with
   |true=>.node Y (set n .nil (Nat.div k 2) x) .nil
   |false=>.node Y .nil (set n .nil (Nat.div k 2) x)
 |n+1,.node v l r,k,x=>match k with
  |0=>.node (Z x) l r
  |k+1=>match Nat.beq (Nat.mod k 2) 0 with
   |true=>.node v (set n l (Nat.div k 2) x) r
   |false=>.node v l (set n r (Nat.div k 2) x)
end Tr
def m6:IntKind->IntKind->Bool
 | .i8,.i8|.i16,.i16|.i32,.i32|.i64,.i64|.u8,.u8|.u16,.u16|.u32,.u32|.u64,.u64=>W
 |_,_=>J
def cz{α:Type}:List α->Nat
 |[]=>0
 |_::l=>Nat.succ (cz l)
def nth{α:Type}:List α->Nat->Option α
 |[],_=>Y
 |a::_,0=>Z a
 |_::l,k+1=>nth l k
inductive D where
 |lit (v:Value)
 |sl (es:List D)
 |agg (cs:List D)
 |cR (t:TypeId) (d:D)
 |gm (ds:List D)
 deriving Inhabited
namespace D
def toInt:D->Int|.lit (.int _ n)=>n|_=>0
def isInt(k:IntKind):D->Bool|.lit (.int j _)=>m6 j k|_=>J
def toBool:D->Bool|.lit (.bool b)=>b|_=>J
def isBool:D->Bool|.lit (.bool _)=>W|_=>J
def toStr:D->ByteArray|.lit (.string b)=>b|_=>.empty
def isStr:D->Bool|.lit (.string _)=>W|_=>J
def abG:D->List D|.sl es=>es|_=>[]
def afG:D->Bool|.sl _=>W|_=>J
def cells:D->List D|.agg cs=>cs|d=>[d]
def cell(d:D)(j:Nat):D:=d.cells.getD j (.lit (.tuple #[]))
def leaf:D->Bool
 | .agg _|.gm _=>J
 | .lit (.agg _)|.lit (.tuple _)=>J
 |_=>W
def isAgg(n:Nat):D->Bool|.agg cs=>Nat.beq (cz cs) n&&cs.all leaf|_=>J
def proj:D->Nat->D|.gm ds,k=>ds.getD k (.lit (.tuple #[]))|_,_=>.lit (.tuple #[])
def acY(n:Nat):D->Bool|.gm ds=>Nat.blt n (cz ds)|_=>J
def afH:D->Bool|.cR _ _=>W|_=>J
def el(es:List D)(i:Nat):D:=es.getD i (.lit (.tuple #[]))
def len(es:List D):Int:=es.length
def Gg(n:Int)(len:Int):Prop:=0<=n∧n<len
def cut(lo hi len:Int):Prop:=0<=lo∧lo<=hi∧hi<=len
def has(d:D)(m:Nat):Prop:=m<=d.cells.length
def wide(d:D)(m:Nat):Prop:=d.cells.length=m
def sub(es:List D)(lo hi:Int):List D:=(es.take hi.toNat).drop lo.toNat
def Yd(b:ByteArray)(lo hi:Int):ByteArray:=b.extract lo.toNat hi.toNat
def CZ(b:ByteArray):Int:=b.size
def sat(b:ByteArray)(n:Int):Int:=(b.get! n.toNat).toNat
def Ye(a b:ByteArray):Prop:=a.size+b.size<=4611686018427387904
def Uc(a b:ByteArray):ByteArray:=a++b
def app(a b:List D):List D:=a++b
def put(es:List D)(k:Nat)(d:D):List D:=es.set k d
def rows(es:List D)(sz:Nat):Prop:=∀d∈es,d.cells.length=sz
def lby:D->Nat
 | .lit (.string _)|.lit .nilIface|.cR _ _=>16
 | .sl _|.lit (.slice ..)=>24
 |_=>8
def mH:List D->Nat
 |[]=>0
 |d::l=>Nat.add d.lby (mH l)
def qu:D->Nat
 | .agg b=>mH b
 | .lit (.bool _)=>1
 | .lit (.int .i8 _)|.lit (.int .u8 _)=>1
 | .lit (.int .i16 _)|.lit (.int .u16 _)=>2
 | .lit (.int .i32 _)|.lit (.int .u32 _)=>4
 |d=>d.lby
def flat(d:D):Bool:=d.cells.all leaf
def TK(es:List D)(b:Nat):Prop:=∀d∈es,d.qu=b∧d.flat=W
def nat(n:Int):Nat:=n.toNat
def zero:Int:=0
def add(k:IntKind)(a b:Int):Int:=k.wrap (a+b)
def dI(k:IntKind)(a b:Int):Int:=k.wrap (a-b)
def mul(k:IntKind)(a b:Int):Int:=k.wrap (a*b)
def neg(k:IntKind)(a:Int):Int:=k.wrap (-a)
def conv(k:IntKind)(a:Int):Int:=k.wrap a
def rem(a b:Int):Int:=a.tmod b
def quo(k:IntKind)(a b:Int):Int:=k.wrap (a.tdiv b)
def nz(a:Int):Prop:=a≠0
def aI(a b:Int):Bool:=a==b
def beq(a b:Bool):Bool:=a==b
def seq(a b:ByteArray):Bool:=a==b
def bN(a b:Int):Bool:=decide (a<b)
def ek(a b:Int):Bool:=decide (a<=b)
def ag0(c a b:Bool):Bool:=if c then a else b
def aO(a:Bool):Bool:=!a
def fA(a b:Bool):Bool:=a&&b
def PI(d:D)(off:Nat)(l:List D):D:=match d with
 | .agg b=>.agg (b.take off++l++b.drop (off+l.length))
 |d=>l.getD 0 d
def PO(d:D)(sz off n:Nat):Prop:=d.isAgg sz=W∨(d.leaf=W∧sz=1∧off=0∧n=1)
end D
inductive T where
 |sym (d:D)
 |kb (b:Bool)
 |kn (k:IntKind) (n:Int)
 |ptr (o off:Nat)
 |mD (d:D) (off:Nat)
 |kA (o e i off:Nat)
 |sh (o e:Nat)
 |emp
 |jy (n:Nat) (es:List D)
 |fn (f:Fn) (first cap:List T)
 |cR (t:TypeId) (v:T)
 |agg (cs:List T)
 |gm (vs:List T)
 |gd (c:Bool) (v:T)
 |mp (o:Nat)
 |ry (o:Nat)
 |ru (o:Nat)
 |ub (e:Bool)
 |qd (o m r i:Nat)
 |nQ (j:Nat) (d:D)
 deriving Inhabited
inductive Df where
 |call (f:T) (args:List T)
 |mark (o:Nat)
 |bad
 deriving Inhabited
structure Fr where
 n:Nat
 tm:Tr T
 df:List Df:=[]
 deriving Inhabited
structure Lp where
 st:LoopState
 oA:Option Code
 fid:FuncId
 fr:Fr
 params:List Nat
 assign:Code
 body:Code
inductive Ob where
 |box (cs:List T)
 |arr (sz:Nat) (es:List D) (era:Nat)
 |jX (sz:Nat) (es:List D) (era:Nat)
 |map (es:List (T×T))
 |o7 (b:ByteArray) (pos:Nat)
 |lp (l:Lp)
 |zH
 |kj (nj sz:Nat) (es:List D) (era m gE:Nat) (hole:Option Nat)
 |rws (sz:Nat) (hU:List (List D)) (gE:Nat)
 |gone
 deriving Inhabited
def Ob.oJ:Ob->Bool
 | .arr ..|.jX ..|.kj ..|.rws ..|.gone=>W
 |_=>J
def Ob.isA:Ob->Bool
 | .arr ..|.jX ..=>W
 |_=>J
def Ob.odd:Ob->Bool
 | .map _|.o7 _ _|.lp _|.zH=>W
 |_=>J
structure St where
 ob:Tr Ob
 aH:Nat
 fl:Nat
 lo:Nat
 deriving Inhabited
def aJ:Nat:=64
def bB:Nat:=1000000000
def Fr.get(fr:Fr)(k:Nat):Option T:=fr.tm.get k
def Fr.put(fr:Fr)(k:Nat)(v:T):Fr:={fr with tm:=fr.tm.set aJ k v}
def Fr.hY(fr:Fr)(k:Option Nat)(v:T):Fr:=match k with|some k=>fr.put k v|none=>fr
inductive Lk where
 |int (k:IntKind)|bool|str|no
 deriving DecidableEq,Inhabited
inductive Kd where
 |leaf (l:Lk)
 |ptr
 |slice (sz:Nat) (agg:Bool) (qu:Nat) (zero:List D)
 |struct (fs:List (Nat×Nat×Bool))
 |array (len sz:Nat) (agg:Bool)
 |iface
 |other
 deriving Inhabited
structure TI where
 size:Nat
 agg:Bool
 zero:List D
 XU:List Lk
 kd:Kd
 deriving Inhabited
structure Nq where
 pre:List D->Prop
 f:List D->D
structure Env where
 P:Program
 ti:Nat->Option TI
 TJ:Nat->Option Func
 Gj:Nat->Option Nq
def Bq:Value->Option D
 | .bool b=>Z (.lit (.bool b))
 | .int k n=>Z (.lit (.int k n))
 | .string s=>Z (.lit (.string s))
 | .pointer Y=>Z (.lit (.pointer Y))
 | .map Y=>Z (.lit (.map Y))
 | .nilFunc=>Z (.lit .nilFunc)
 | .nilIface=>Z (.lit .nilIface)
 | .tuple a=>match a.toList with
  |[]=>Z (.lit (.tuple #[]))
  |_=>Y
 |_=>Y
def ofConst:Value->Option T
 | .bool b=>Z (.kb b)
 | .int k n=>Z (.kn k n)
 | .slice Y 0 0=>Z .emp
 | .func f a b=>match a.toList,b.toList with
  |[],[]=>Z (.fn f [] [])
  |_,_=>Y
 | .iface t v=>(Bq v).map λd=>.sym (.cR t d)
 |v=>(Bq v).map .sym
def oC:D->T
 | .lit (.bool b)=>.kb b
 | .lit (.int k n)=>.kn k n
 | .sl []=>.emp
 |d=>.sym d
def T.leaf:T->Prop
 | .sym d=>d.leaf=W
 | .agg _|.gm _|.gd _ _=>False
 |_=>True
def iQ(i:TI):T->Option (Prop×List T)
 | .agg b=>bif i.agg&&Nat.beq (cz b) i.size then Z (True,b)else Y
 | .sym d=>
  bif i.agg then Z (d.isAgg i.size=W,(List.range i.size).map λj=>.sym (d.cell j))
  else bif Nat.beq i.size 1 then Z (d.leaf=W,[.sym d])else Y
 | .gm _|.gd _ _=>Y
 |t=>bif i.agg then Y else bif Nat.beq i.size 1 then Z (True,[t])else Y
def tO(agg:Bool)(cs:List T):Option T:=
 bif agg then Z (.agg cs)else match cs with
  |[x]=>Z x
  |_=>Y
def jo(fr:Fr):Operand->Option T
 | .tmp k=>fr.get k
 | .const v=>ofConst v
 | .global _=>Y
 | .func f=>Z (.fn (.func f) [] [])
def wm(fr:Fr):List Operand->Option (List T)
 |[]=>Z []
 |x::l=>match jo fr x,wm fr l with
  |some t,Z r=>Z (t::r)
  |_,_=>Y
def tj(k:IntKind):T->Option (Prop×Int)
 | .kn j n=>bif m6 j k then Z (True,n)else Y
 | .sym d=>Z (d.isInt k=W,d.toInt)
 |_=>Y
def wF:T->Option (Prop×Bool)
 | .kb b=>Z (True,b)
 | .sym d=>Z (d.isBool=W,d.toBool)
 |_=>Y
def wU:T->Option (Prop×ByteArray)
 | .sym d=>Z (d.isStr=W,d.toStr)
 |_=>Y
def qz(s:St):T->Option (Prop×List D)
 | .emp=>Z (True,[])
 | .jy _ b=>Z (True,b)
 | .nQ _ d=>Z (True,[d])
 | .sym d=>Z (d.afG=W,d.abG)
 | .sh o e=>match s.ob.get o with
  |some (.arr _ b era)|some (.jX _ b era)=>bif Nat.beq e era then Z (True,b)else Y
  |_=>Y
 |_=>Y
def yV(nj:Nat)(d:D)(rs:List D):D:=.agg (d.cells.set nj (.sl rs))
def iV(nj:Nat)(es:List D)(hU:List (List D)):List D:=List.zipWith (yV nj) es hU
def FT(s:St)(m r:Nat):Option (List (List D)):=match s.ob.get m with
 |some (.rws _ b d)=>bif Nat.beq r d then Z b else Y
 |_=>Y
mutual
def uZ(s:St):T->Option (Prop×D×List Nat)
 | .sym d=>Z (True,d,[])
 | .kb b=>Z (True,.lit (.bool b),[])
 | .kn k n=>Z (True,.lit (.int k n),[])
 | .emp=>Z (True,.sl [],[])
 | .jy _ g=>Z (True,.sl g,[])
 | .nQ _ d=>Z (True,.sl [d],[])
 | .sh o e=>match s.ob.get o with
  |some (.arr _ g era)=>bif Nat.beq e era then Z (True,.sl g,[o])else Y
  |some (.jX _ g era)=>bif Nat.beq e era then Z (True,.sl g,[])else Y
  |some (.kj l _ g era m r Y)=>match FT s m r with
   |some i=>bif Nat.beq e era&&Nat.blt m bB then Z (True,.sl (iV l g i),[o,m])else Y
   |none=>Y
  |_=>Y
 | .cR t v=>match uZ s v with
  |some (p,d,os)=>Z (p,.cR t d,os)
  |none=>Y
 | .agg j=>match lG s j with
  |some (p,ds,os)=>Z (p∧ds.all D.leaf=W,.agg ds,os)
  |none=>Y
 | .gm j=>match lG s j with
  |some (p,ds,os)=>Z (p,.gm ds,os)
  |none=>Y
 |_=>Y
def lG(s:St):List T->Option (Prop×List D×List Nat)
 |[]=>Z (True,[],[])
 |t::l=>match uZ s t,lG s l with
  |some (p,d,os),Z (q,ds,ps)=>Z (p∧q,d::ds,os++ps)
  |_,_=>Y
end
def freeze(s:St):List Nat->Option St
 |[]=>Z s
 |o::l=>
  bif Nat.ble s.fl o then match s.ob.get o with
   |some (.arr sz b era)=>freeze {s with ob:=s.ob.set aJ o (.jX sz b era)} l
   |some (.jX _ _ _)=>freeze s l
   |some (.kj e sz b era m r Y)=>match FT s m r with
    |some d=>bif l.contains m&&(Nat.ble s.fl m&&Nat.blt m bB)then freeze {s with ob:=(s.ob.set aJ m .gone).set aJ o (.jX sz (iV e b d) era)} l else Y
    |none=>Y
   |some (.rws ..)=>freeze s l
   |some .gone=>freeze s l
   |_=>Y
  else Y
def ef(s:St)(o:Ob):Nat×St:=(s.aH,{s with ob:=s.ob.set aJ s.aH o,aH:=Nat.succ s.aH})
def oR:Lk->T->T->Option (Prop×Bool)
 | .int k,a,b=>match tj k a,tj k b with
  |some (p,x),Z (q,y)=>Z (p∧q,D.aI x y)
  |_,_=>Y
 | .bool,a,b=>match wF a,wF b with
  |some (p,x),Z (q,y)=>Z (p∧q,D.beq x y)
  |_,_=>Y
 | .str,a,b=>match wU a,wU b with
  |some (p,x),Z (q,y)=>Z (p∧q,D.seq x y)
  |_,_=>Y
 | .no,_,_=>Y
def jw:List Lk->List T->List T->Option (Prop×Bool)
 |[],[],[]=>Z (True,W)
 |k::d,a::as,b::e=>match oR k a b,jw d as e with
  |some (p,x),Z (q,y)=>Z (p∧q,D.fA x y)
  |_,_=>Y
 |_,_,_=>Y
def aaY:T->T->Option (Prop×Bool)
 | .sym (.lit (.pointer Y)),.ptr _ _=>Z (True,J)
 | .ptr _ _,.sym (.lit (.pointer Y))=>Z (True,J)
 |_,_=>Y
def aaZ:T->T->Option (Prop×Bool)
 | .sym (.lit .nilIface),.cR _ _=>Z (True,J)
 | .cR _ _,.sym (.lit .nilIface)=>Z (True,J)
 |_,_=>Y
def Gv(s:St)(o e:Nat):Option (Nat×List D):=
 match s.ob.get o with
 |some (.arr sz b era)=>bif Nat.beq e era then Z (sz,b)else Y
 |some (.jX sz b era)=>bif Nat.beq e era then Z (sz,b)else Y
 |_=>Y
def nr(i:TI)(d:D)(off:Nat):Option T:=
 bif i.agg then Z (.agg ((List.range i.size).map λj=>.sym (d.cell (Nat.add off j))))
 else bif Nat.beq i.size 1 then Z (.sym (d.cell off))else Y
abbrev o8:=Option (Prop×T×St)
def PJ:T:=.sym (.lit (.tuple #[]))
def loadT(i:TI)(s:St):T->o8
 | .ptr o off=>match s.ob.get o with
  |some (.box g)=>
   let l:=(g.drop off).take i.size
   bif Nat.beq (cz l) i.size then(tO i.agg l).map λt=>(True,t,s)else Y
  |_=>Y
 | .mD d off=>(nr i d off).map λt=>(d.has (Nat.add off i.size),t,s)
 | .kA o e k off=>match Gv s o e with
  |some (_,b)=>(nr i (D.el b k) off).map λt=>(D.Gg k (D.len b)∧(D.el b k).has (Nat.add off i.size),t,s)
  |none=>Y
 |_=>Y
def leaves:List T->Prop
 |[]=>True
 |t::l=>t.leaf∧leaves l
def storeT(i:TI)(s:St)(a x:T):o8:=
 match iQ i x with
 |none=>Y
 |some (p,l)=>match a with
  | .ptr o off=>match s.ob.get o with
   |some (.box g)=>
    bif Nat.ble s.fl o&&Nat.ble (Nat.add off (cz l)) (cz g)then
     Z (p∧leaves l,PJ,{s with ob:=s.ob.set aJ o (.box (g.take off++l++g.drop (Nat.add off (cz l))))})
    else Y
   |_=>Y
  | .kA o e k off=>match lG s l with
   |some (q,ds,os)=>match freeze s os with
    |some d=>match d.ob.get o with
     |some (.arr sz b era)=>
      bif Nat.ble d.fl o&&Nat.beq e era then
       Z (p∧q∧ds.all D.leaf=W∧D.Gg k (D.len b)∧(D.el b k).PO sz off (cz ds)∧Nat.ble (Nat.add off (cz ds)) sz=W∧((D.el b k).PI off ds).qu=(D.el b k).qu,
        PJ,{d with ob:=d.ob.set aJ o (.arr sz (D.put b k ((D.el b k).PI off ds)) era)})
      else Y
     |_=>Y
    |none=>Y
   |none=>Y
  |_=>Y
def Bv(place:Nat->Option (Nat×TI))(cells:List T):List (Nat×T)->Option (Prop×List T)
 |[]=>Z (True,cells)
 |(k,v)::b=>match place k with
  |none=>Y
  |some (off,i)=>match iQ i v with
   |none=>Y
   |some (p,l)=>
    bif Nat.ble (Nat.add off (cz l)) (cz cells)then
     (Bv place (cells.take off++l++cells.drop (Nat.add off (cz l))) b).map λ(q,r)=>(p∧leaves l∧q,r)
    else Y
def p9(fr:Fr):List (Nat×Operand)->Option (List (Nat×T))
 |[]=>Z []
 |(k,x)::l=>match jo fr x,p9 fr l with
  |some t,Z r=>Z ((k,t)::r)
  |_,_=>Y
def m8(s:St)(i:TI)(es:List D):List (Nat×T)->Option (Prop×List D×List Nat)
 |[]=>Z (True,es,[])
 |(k,v)::b=>match uZ s v with
  |none=>Y
  |some (p,d,os)=>
   bif Nat.blt k (cz es)then
    (m8 s i (es.set k d) b).map λ(q,r,ps)=>(p∧(bif i.agg then d.isAgg i.size else d.leaf)=W∧q,r,os++ps)
   else Y
def OM(op:BinOp)(k:IntKind)(m n:Int):Option D:=
 match op with
 | .lss=>Z (.lit (.bool (D.bN m n)))
 | .leq=>Z (.lit (.bool (D.ek m n)))
 | .gtr=>Z (.lit (.bool (D.bN n m)))
 | .geq=>Z (.lit (.bool (D.ek n m)))
 | .add=>Z (.lit (.int k (D.add k m n)))
 | .sub=>Z (.lit (.int k (D.dI k m n)))
 | .mul=>Z (.lit (.int k (D.mul k m n)))
 |_=>Y
def Ws(op:BinOp)(k:IntKind)(m n:Int):Option D:=
 match op with
 | .rem=>Z (.lit (.int k (D.rem m n)))
 | .quo=>Z (.lit (.int k (D.quo k m n)))
 |_=>Y
def SX(i:TI)(a b:T):Option (Prop×Bool):=
 bif i.agg then match i.XU,iQ i a,iQ i b with
  |[],_,_=>Y
  |k::d,Z (p,as),Z (q,e)=>(jw (k::d) as e).map λ(r,x)=>(p∧q∧r,x)
  |_,_,_=>Y
 else match i.kd with
  | .leaf k=>oR k a b
  | .ptr=>aaY a b
  | .iface=>aaZ a b
  |_=>Y
def JG(i:TI)(op:BinOp)(a b:T):Option (Prop×D):=
 match op with
 | .eql=>(SX i a b).map λ(p,r)=>(p,.lit (.bool r))
 | .neq=>(SX i a b).map λ(p,r)=>(p,.lit (.bool (D.aO r)))
 |op=>match i.kd with
  | .leaf (.int k)=>match tj k a,tj k b with
   |some (p,m),Z (q,n)=>match OM op k m n with
    |some d=>Z (p∧q,d)
    |none=>(Ws op k m n).map λd=>(p∧q∧D.nz n,d)
   |_,_=>Y
  | .leaf .str=>match op,wU a,wU b with
   | .add,Z (p,m),Z (q,n)=>Z (p∧q∧D.Ye m n,.lit (.string (D.Uc m n)))
   |_,_,_=>Y
  |_=>Y
def Lz(fr:Fr):Option Operand->Option (Option T)
 |none=>Z Y
 |some x=>(jo fr x).map Z
def uz(dflt:Int):Option T->Option (Prop×Int)
 |none=>Z (True,dflt)
 |some t=>tj .i64 t
def pI:T->List Nat
 | .sh o _=>[o]
 |_=>[]
def oe(i:TI)(s:St)(v:T)(l h m:Option T):o8:=
 match i.kd,uz D.zero l with
 | .leaf .str,Z (p,lo)=>match wU v,m with
  |some (q,b),Y=>match uz (D.CZ b) h with
   |some (r,hi)=>Z (p∧q∧r∧D.cut lo hi (D.CZ b),.sym (.lit (.string (D.Yd b lo hi))),s)
   |none=>Y
  |_,_=>Y
 | .slice sz _ _ _,Z (p,lo)=>match qz s v,freeze s (pI v)with
  |some (q,d),Z e=>match uz (D.len d) h,m,h with
   |some (r,hi),Y,_=>Z (p∧q∧r∧D.rows d sz∧D.cut lo hi (D.len d),.sym (.sl (D.sub d lo hi)),e)
   |some (r,hi),Z y,Z _=>match y with
    | .kn .i64 0=>Z (p∧q∧r∧lo=D.zero∧hi=D.zero,.emp,s)
    |y=>(tj .i64 y).map λ(t,g)=>
     (p∧q∧r∧t∧D.rows d sz∧D.cut lo hi (D.len d)∧g=hi,.jy 0 (D.sub d lo hi),e)
   |_,_,_=>Y
  |_,_=>Y
 |_,_=>Y
def Ff:T->Option (Prop×Bool)
 | .gd g v=>match wF v with
  |some (q,y)=>Z (g=W∧q,y)
  |none=>Y
 | .kb b=>Z (True,b)
 | .sym d=>Z (d.isBool=W,d.toBool)
 |_=>Y
def Hi(c a b:T):Option (Prop×T):=
 match c with
 | .kb u=>match Ff (bif u then a else b)with
  |some (q,y)=>Z (q,.sym (.lit (.bool y)))
  |none=>Y
 |c=>match wF c,Ff a,Ff b with
  |some (p,t),Z (q,x),Z (r,y)=>Z (p∧(t=W->q)∧(t=J->r),.sym (.lit (.bool (D.ag0 t x y))))
  |_,_,_=>Y
def kq(i:TI)(s:St)(x d:T):o8:=
 match i.kd,tj .i64 d with
 | .slice sz _ _ _,Z (p,n)=>match x with
  | .sh o e=>match Gv s o e with
   |some (z,b)=>bif Nat.beq z sz then Z (p∧D.Gg n (D.len b),.kA o e (D.nat n) 0,s)else Y
   |none=>Y
  |v=>match qz s v with
   |some (q,b)=>Z (p∧q∧D.Gg n (D.len b)∧(D.el b (D.nat n)).wide sz,.mD (D.el b (D.nat n)) 0,s)
   |none=>Y
 |_,_=>Y
def oP(i:TI)(s:St)(k:Nat)(x:T):o8:=
 match i.kd with
 | .struct fs=>match nth fs k with
  |some (off,size,_)=>bif Nat.beq size 0 then Y else match x with
   | .ptr o b=>Z (True,.ptr o (Nat.add b off),s)
   | .mD d b=>Z (True,.mD d (Nat.add b off),s)
   | .kA o e j b=>Z (True,.kA o e j (Nat.add b off),s)
   |_=>Y
  |none=>Y
 |_=>Y
def Es(i:TI)(s:St)(k:Nat)(x:T):o8:=
 match i.kd with
 | .struct fs=>match nth fs k,iQ i x with
  |some (off,size,b),Z (p,d)=>
   let l:=(d.drop off).take size
   bif Nat.beq (cz l) size&&!(Nat.beq size 0)then(tO b l).map λt=>(p,t,s)else Y
  |_,_=>Y
 |_=>Y
def Ej(i:TI)(s:St)(x d:T):o8:=
 match i.kd,tj .i64 d,wU x with
 | .leaf .str,Z (p,n),Z (q,b)=>Z (p∧q∧D.Gg n (D.CZ b),.sym (.lit (.int .u8 (D.sat b n))),s)
 |_,_,_=>Y
def pT(i:TI)(s:St)(t:TypeId)(ok:Bool)(x:T):o8:=
 match i.kd,x,ok with
 | .iface,_,_=>Y
 |_,.cR u v,W=>bif Nat.beq u t then Z (True,.gm [v,.kb W],s)else
   (tO i.agg (i.zero.map oC)).map λz=>(True,.gm [z,.kb J],s)
 |_,.cR u v,J=>bif Nat.beq u t then Z (True,v,s)else Y
 |_,_,_=>Y
def unT(i:TI)(op:UnOp)(v:T):Option (Prop×D):=
 match op,i.kd with
 | .not,.leaf .bool=>(wF v).map λ(p,b)=>(p,.lit (.bool (D.aO b)))
 | .neg,.leaf (.int k)=>(tj k v).map λ(p,n)=>(p,.lit (.int k (D.neg k n)))
 |_,_=>Y
def HW(i j:TI)(s:St)(v:T):o8:=
 match i.kd,j.kd with
 | .leaf (.int k),.leaf (.int l)=>(tj k v).map λ(p,n)=>(p,.sym (.lit (.int l (D.conv l n))),s)
 | .leaf .str,.leaf .str=>(wU v).map λ(p,_)=>(p,v,s)
 |_,_=>Y
def oQ(s:St)(k:Nat):T->o8
 | .gm b=>(nth b k).map λt=>(True,t,s)
 | .sym d=>Z (d.acY k=W,.sym (d.proj k),s)
 |_=>Y
def mV(E:Env)(fr:Fr)(s:St)(o:Op):o8:=
 match o with
 | .move x=>(jo fr x).map λt=>(True,t,s)
 | .assign x=>(jo fr x).map λt=>(True,t,s)
 | .pick c a b=>match jo fr c,jo fr a,jo fr b with
  |some c,Z a,Z b=>(Hi c a b).map λ(p,t)=>(p,t,s)
  |_,_,_=>Y
 | .alloc t=>match E.ti t with
  |some i=>bif Nat.blt s.aH bB then Z (True,.ptr s.aH 0,(ef s (.box (i.zero.map oC))).2)else Y
  |none=>Y
 | .box t x=>match E.ti t,jo fr x with
  |some i,Z v=>bif Nat.blt s.aH bB then(iQ i v).map λ(p,q)=>(p,.ptr s.aH 0,(ef s (.box q)).2)else Y
  |_,_=>Y
 | .build t parts=>match E.ti t,p9 fr parts.toList with
  |some i,Z ps=>match i.kd with
   | .struct fs=>(Bv (λk=>match nth fs k with|some (off,size,g)=>Z (off,{(default:TI)with size:=size,agg:=g})|none=>Y) (i.zero.map oC) ps).map
     λ(p,q)=>(p,.agg q,s)
   |_=>Y
  |_,_=>Y
 | .buildSlice t len parts=>match E.ti t,p9 fr parts.toList with
  |some i,Z ps=>match i.kd with
   | .slice sz g _ zero=>
    bif (g||Nat.beq sz 1)&&(Nat.beq (cz zero) sz&&(!(Nat.beq sz 0)&&Nat.ble (Nat.mul len sz) 16777216))then
     match m8 s {(default:TI)with size:=sz,agg:=g} (List.replicate len (bif g then .agg zero else zero.getD 0 default)) ps with
     |some (p,w,os)=>(freeze s os).map λs=>(p,.jy len w,s)
     |none=>Y
    else Y
   |_=>Y
  |_,_=>Y
 | .load t a=>match E.ti t,jo fr a with
  |some i,Z a=>loadT i s a
  |_,_=>Y
 | .store t a x=>match E.ti t,jo fr a,jo fr x with
  |some i,Z a,Z x=>storeT i s a x
  |_,_,_=>Y
 | .nilCheck x=>match jo fr x with
  |some (.ptr o b)=>Z (True,.ptr o b,s)
  |some (.mD d b)=>Z (True,.mD d b,s)
  |some (.kA o e j b)=>Z (True,.kA o e j b,s)
  |some (.cR t v)=>Z (True,.cR t v,s)
  |some (.fn (.func f) a b)=>Z (True,.fn (.func f) a b,s)
  |some (.sym d)=>Z (d.afH=W,.sym d,s)
  |_=>Y
 | .binOp op t x y _=>match E.ti t,jo fr x,jo fr y with
  |some i,Z a,Z b=>(JG i op a b).map λ(p,d)=>(p,.sym d,s)
  |_,_,_=>Y
 | .unOp op t x=>match E.ti t,jo fr x with
  |some i,Z v=>(unT i op v).map λ(p,d)=>(p,.sym d,s)
  |_,_=>Y
 | .convert src r x=>match E.ti src,E.ti r,jo fr x with
  |some i,Z j,Z v=>HW i j s v
  |_,_,_=>Y
 | .makeInterface t x=>match E.ti t,jo fr x with
  |some i,Z v=>match i.kd with
   | .iface=>Y
   |_=>Z (True,.cR t v,s)
  |_,_=>Y
 | .makeFunc f first cap=>match wm fr first.toList,wm fr cap.toList with
  |some a,Z b=>Z (True,.fn f a b,s)
  |_,_=>Y
 | .extract x k=>match jo fr x with
  |some v=>oQ s k v
  |none=>Y
 | .fieldAddr t x k=>match E.ti t,jo fr x with
  |some i,Z v=>oP i s k v
  |_,_=>Y
 | .field t x k=>match E.ti t,jo fr x with
  |some i,Z v=>Es i s k v
  |_,_=>Y
 | .indexAddr t x u=>match E.ti t,jo fr x,jo fr u with
  |some i,Z v,Z n=>kq i s v n
  |_,_,_=>Y
 | .index t x u=>match E.ti t,jo fr x,jo fr u with
  |some i,Z v,Z n=>Ej i s v n
  |_,_,_=>Y
 | .slice t x lo hi z=>match E.ti t,jo fr x,Lz fr lo,Lz fr hi,Lz fr z with
  |some i,Z v,Z l,Z h,Z m=>oe i s v l h m
  |_,_,_,_,_=>Y
 | .typeAssert x _ t ok=>match E.ti t,jo fr x with
  |some i,Z v=>pT i s t ok v
  |_,_=>Y
 |_=>Y
def D.QI(a b:List D):Prop:=a.length+b.length<=17179869184
def pU(i:TI)(s:St)(x y:T):o8:=
 bif !(Nat.blt s.aH bB)then Y else
 match i.kd,qz s y with
 | .slice sz _ d _,Z (q,new)=>
  match x with
  | .emp=>Z (q∧D.rows new sz∧D.TK new d,.sh s.aH 0,(ef s (.arr sz new 0)).2)
  | .jy _ b=>
   let g:=q∧D.rows (D.app b new) sz∧D.TK (D.app b new) d∧D.QI b new
   match y with
   | .jy (_+1) _=>Z (g,.sh s.aH 0,(ef s (.arr sz (D.app b new) 0)).2)
   |_=>Z (g,.sym (.sl (D.app b new)),s)
  | .sh o e=>match s.ob.get o with
   |some (.arr z b era)=>
    bif Nat.ble s.fl o&&Nat.beq e era&&Nat.beq z sz&&!(pI y).contains o then
     Z (q∧D.rows new sz∧D.TK (D.app b new) d∧D.QI b new,.sh o (Nat.succ era),{s with ob:=s.ob.set aJ o (.arr sz (D.app b new) (Nat.succ era))})
    else Y
   |_=>Y
  |_=>Y
 |_,_=>Y
def eX(E:Env)(s:St)(b:Builtin)(argTypes:Array TypeId)(args:List T):o8:=
 match b,args with
 | .len,[x]=>match wU x,(nth argTypes.toList 0).bind E.ti with
  |some (p,b),Z i=>match i.kd with
   | .leaf .str=>Z (p,.sym (.lit (.int .i64 (D.CZ b))),s)
   | .slice _ _ _ _=>(qz s x).map λ(p,d)=>(p,.sym (.lit (.int .i64 (D.len d))),s)
   |_=>Y
  |none,Z i=>match i.kd with
   | .slice _ _ _ _=>(qz s x).map λ(p,d)=>(p,.sym (.lit (.int .i64 (D.len d))),s)
   |_=>Y
  |_,_=>Y
 | .append,[x,y]=>match argTypes.toList with
  |[t,u]=>match E.ti t,E.ti u with
   |some i,Z j=>match j.kd with
    | .slice _ _ _ _=>pU i s x y
    |_=>Y
   |_,_=>Y
  |_=>Y
 |_,_=>Y
end
end TL
end
section
namespace TL
open Go
section
def vA:T->List T->Option (FuncId×List T)
 | .fn (.func f) first cap,args=>Z (f,first++args++cap)
 |_,_=>Y
section
variable (E:Env)
def gamT(s:St)(f:FuncId)(args:List T):Option (Prop×T×St):=
 match E.Gj f with
 |none=>Y
 |some c=>match lG s args with
  |none=>Y
  |some (p,ds,os)=>(freeze s os).map λb=>(p∧c.pre ds,.sym (c.f ds),b)
abbrev ah1:=FuncId->List T->St->(T->St->Prop)->(T->St->Prop)->Prop
variable (call:ah1)
def aeZ(fr:Fr):Option Nat->Bool
 |none=>W
 |some d=>Nat.blt d fr.n
end
def Ad:List T->Nat->Tr T->Tr T
 |[],_,t=>t
 |a::l,k,t=>Ad l (Nat.succ k) (t.set aJ k a)
def j5(E:Env)(s:St)(fr:Fr):List ResultVar->Option (Prop×List T)
 |[]=>Z (True,[])
 | .tmp t::l=>match fr.get t,j5 E s fr l with
  |some x,Z (p,r)=>Z (p,x::r)
  |_,_=>Y
 | .cell a t::l=>match(E.ti t),fr.get a with
  |some i,Z a=>match loadT i s a,j5 E s fr l with
   |some (p,x,_),Z (q,r)=>Z (p∧q,x::r)
   |_,_=>Y
  |_,_=>Y
def abE:List T->T
 |[x]=>x
 |l=>.gm l
end
end TL
end
section
namespace TL
section
def bK{α:Type}(l:List α):cz l=l.length:=by
 induction l with|nil=>rfl|cons a l b=>simp[cz,b]
def jq{α:Type}(l:List α)(k:Nat):nth l k=l[k]?:=by
 induction l generalizing k with
 |nil=>cases k<;>rfl
 |cons a l b=>cases k with|zero=>rfl|succ k=>simp[nth,b]
namespace Tr
variable {α:Type}
def get_nil(k:Nat):(Tr.nil:Tr α).get k=Y:=by cases k<;>rfl
def fL(v:Option α)(l r:Tr α):(Tr.node v l r).get 0=v:=by simp[get]
def cO(v:Option α)(l r:Tr α)(k:Nat):(Tr.node v l r).get (k+1)=if k%2=0 then l.get (k/2)else r.get (k/2):=by
 simp only[get];by_cases h:k%2=0
 .have:Nat.beq (Nat.mod k 2) 0=W:=by show Nat.beq (k%2) 0=W;rw[h];rfl
  simp[this,h];rfl
 .have:Nat.beq (Nat.mod k 2) 0=J:=by
   show Nat.beq (k%2) 0=J;have:k%2=1:=by omega
   rw[this];rfl
  simp[this,h];rfl
theorem v8(n:Nat)(v:Option α)(l r:Tr α)(x:α):Tr.set (n+1) (.node v l r) 0 x=.node (Z x) l r:=rfl
theorem yb(n:Nat)(x:α):Tr.set (n+1) .nil 0 x=.node (Z x) .nil .nil:=rfl
def mq(n:Nat)(v:Option α)(l r:Tr α)(k:Nat)(x:α) :
  Tr.set (n+1) (.node v l r) (k+1) x=if k%2=0 then .node v (Tr.set n l (k/2) x) r else .node v l (Tr.set n r (k/2) x):=by
 simp only[set];by_cases h:k%2=0
 .have:Nat.beq (Nat.mod k 2) 0=W:=by show Nat.beq (k%2) 0=W;rw[h];rfl
  simp[this,h];rfl
 .have:Nat.beq (Nat.mod k 2) 0=J:=by
   show Nat.beq (k%2) 0=J;have:k%2=1:=by omega
   rw[this];rfl
  simp[this,h];rfl
def nC(n:Nat)(k:Nat)(x:α) :
  Tr.set (n+1) .nil (k+1) x=if k%2=0 then .node Y (Tr.set n .nil (k/2) x) .nil else .node Y .nil (Tr.set n .nil (k/2) x):=by
 simp only[set];by_cases h:k%2=0
 .have:Nat.beq (Nat.mod k 2) 0=W:=by show Nat.beq (k%2) 0=W;rw[h];rfl
  simp[this,h];rfl
 .have:Nat.beq (Nat.mod k 2) 0=J:=by
   show Nat.beq (k%2) 0=J;have:k%2=1:=by omega
   rw[this];rfl
  simp[this,h];rfl
def ZA(n:Nat):∀(t:Tr α)(k j:Nat)(x:α),k+1<2 ^ n->(Tr.set n t k x).get j=if j=k then Z x else t.get j:=by
 induction n with
 |zero=>intro t k j x h;simp at h
 |succ n g=>
  intro t k j x h;cases k with
  |zero=>
   cases t with
   |nil=>
    rw[yb];cases j with|zero=>simp[fL]|succ j=>rw[cO];simp[get_nil]
   |node v l r=>
    rw[v8];cases j with|zero=>simp[fL]|succ j=>rw[cO,cO];simp
  |succ k=>
   have e:k/2+1<2 ^ n:=by rw[Nat.pow_succ]at h;omega
   cases t with
   |nil=>
    rw[nC];cases j with
    |zero=>split<;>simp[fL,get_nil]
    |succ j=>
     by_cases d:k%2=0
     .rw[bJ d,cO,get_nil];by_cases b:j%2=0
      .rw[bJ b,g _ _ _ _ e,get_nil];have:j/2=k/2↔j+1=k+1:=by omega
       simp[this,get_nil]
      .rw[br b,get_nil,br (by omega)]
     .rw[br d,cO,get_nil];by_cases b:j%2=0
      .rw[bJ b,get_nil,br (by omega)]
      .rw[br b,g _ _ _ _ e,get_nil];have:j/2=k/2↔j+1=k+1:=by omega
       simp[this,get_nil]
   |node v l r=>
    rw[mq];cases j with
    |zero=>split<;>simp[fL]
    |succ j=>
     by_cases d:k%2=0
     .rw[bJ d,cO,cO];by_cases b:j%2=0
      .rw[bJ b,bJ b,g _ _ _ _ e];have:j/2=k/2↔j+1=k+1:=by omega
       simp[this]
      .rw[br b,br b,br (by omega)]
     .rw[br d,cO,cO];by_cases b:j%2=0
      .rw[bJ b,bJ b,br (by omega)]
      .rw[br b,br b,g _ _ _ _ e];have:j/2=k/2↔j+1=k+1:=by omega
       simp[this]
def aX(t:Tr α)(k j:Nat)(x:α)(h:k<bB):(Tr.set aJ t k x).get j=if j=k then Z x else t.get j:=
 ZA _ _ _ _ _ (by unfold aJ;unfold bB at h;omega)
end Tr
end
end TL
end
section
namespace TL
open Go
section
structure fq where
 a:Option Addr
 len:Nat
 cap:Nat
 sz:Nat
structure Gh where
 cg:Nat->Option Nat
 arr:Nat->Nat->Option fq
 bA:Nat->Prop
inductive ee(I:Nat->Prop)(w:World):D->Value->Prop where
 |lit (v:Value):ee I w (.lit v) v
 |sl (es:List D) (a:Option Addr) (cap sz:Nat) (val:Nat->Nat->Value)
   (hcap:es.length<=cap) (hsz:∀d∈es,d.cells.length=sz) (hby:∀d∈es,es.length*d.qu<=281474976710656)
   (ha:es≠[]->∃ad,a=Z ad∧I ad.block∧∀i j d c,es[i]?=Z d->d.cells[j]?=Z c->w.cell? (ad.add (i*sz+j))=Z (val i j))
   (hc:∀i j d c,es[i]?=Z d->d.cells[j]?=Z c->ee I w c (val i j)):ee I w (.sl es) (.slice a es.length cap)
 |agg (cs:List D) (vs:Array Value) (hl:cs.length=vs.size) (hf:∀c∈cs,c.leaf=W)
   (h:∀(j:Nat)(c:D)(v:Value),cs[j]?=Z c->vs[j]?=Z v->ee I w c v):ee I w (.agg cs) (.agg vs)
 |cR (t:TypeId) (d:D) (v:Value) (h:ee I w d v):ee I w (.cR t d) (.iface t v)
 |gm (ds:List D) (vs:Array Value) (hl:ds.length=vs.size)
   (h:∀(j:Nat)(c:D)(v:Value),ds[j]?=Z c->vs[j]?=Z v->ee I w c v):ee I w (.gm ds) (.tuple vs)
def sZ(I:Nat->Prop)(w w':World):Prop:=∀b,I b->w'.heap[b]?=w.heap[b]?
def sZ.cell{I:Nat->Prop}{w w':World}(h:sZ I w w'){a:Addr}(b:I a.block):w'.cell? a=w.cell? a:=by unfold World.cell?;rw[h _ b]
def kN(a:Addr)(n:Nat):(a.add n).block=a.block:=by unfold Addr.add;split<;>rfl
variable {I:Nat->Prop}{w w':World}{d:D}{v:Value}{s:St}{o b e fl:Nat}{ob:Ob}{t:T}{p:T->Bool}
def ee.mono{u:Nat->Prop}(z:sZ I w w')(B:∀b,I b->u b)(h:ee I w d v):ee u w' d v:=by
 induction h with
 |lit v=>exact .lit v
 |sl C a cap sz val k l m G O e=>refine .sl C a cap sz val k l m (λp=>?_) e;obtain⟨H,K,y,g⟩:=G p;refine⟨H,K,B _ y,λi j d c L q=>?_⟩;rw[z.cell (by rw[kN];exact y)];exact g i j d c L q
 |agg M r s hf h e=>exact .agg M r s hf e
 |cR t d v h e=>exact .cR t d v e
 |gm ds r s h e=>exact .gm ds r s e
def rc(r i:Nat):Nat:=2 ^ r*(2*i+1)
def iN(nj:Nat)(d:D)(h:Value):D:=.agg (d.cells.set nj (.lit h))
inductive aK(g:Gh)(w:World):T->Value->Prop where
 |sym (d:D) (v:Value) (h:ee g.bA w d v):aK g w (.sym d) v
 |kb (b:Bool):aK g w (.kb b) (.bool b)
 |kn (k:IntKind) (n:Int):aK g w (.kn k n) (.int k n)
 |ptr (o off b:Nat) (h:g.cg o=Z b):aK g w (.ptr o off) (.pointer (Z ⟨b,off,Y⟩))
 |mD (d:D) (off:Nat) (ad:Addr) (val:Nat->Value) (hi:g.bA ad.block)
   (hc:∀j c,d.cells[j]?=Z c->w.cell? (ad.add j)=Z (val j)) (hd:∀j c,d.cells[j]?=Z c->ee g.bA w c (val j)) :
   aK g w (.mD d off) (.pointer (Z (ad.add off)))
 |kA (o e i off len cap sz:Nat) (ad:Addr) (h:g.arr o e=Z ⟨Z ad,len,cap,sz⟩):aK g w (.kA o e i off) (.pointer (Z (ad.add (i*sz+off))))
 |sh (o e len cap sz:Nat) (a:Option Addr) (h:g.arr o e=Z ⟨a,len,cap,sz⟩):aK g w (.sh o e) (.slice a len cap)
 |emp (a:Option Addr):aK g w .emp (.slice a 0 0)
 |jy (n:Nat) (es:List D) (a:Option Addr) (hn:n<=es.length) (h:ee g.bA w (.sl es) (.slice a es.length es.length)):aK g w (.jy n es) (.slice a es.length es.length)
 |fn (f:Fn) (fs cs:List T) (va vc:Array Value) (hl:fs.length=va.size) (hm:cs.length=vc.size)
   (h:∀(j:Nat)(t:T)(v:Value),fs[j]?=Z t->va[j]?=Z v->aK g w t v)
   (h':∀(j:Nat)(t:T)(v:Value),cs[j]?=Z t->vc[j]?=Z v->aK g w t v):aK g w (.fn f fs cs) (.func f va vc)
 |cR (t:TypeId) (x:T) (v:Value) (h:aK g w x v):aK g w (.cR t x) (.iface t v)
 |agg (cs:List T) (vs:Array Value) (hl:cs.length=vs.size)
   (h:∀(j:Nat)(t:T)(v:Value),cs[j]?=Z t->vs[j]?=Z v->aK g w t v):aK g w (.agg cs) (.agg vs)
 |gm (cs:List T) (vs:Array Value) (hl:cs.length=vs.size)
   (h:∀(j:Nat)(t:T)(v:Value),cs[j]?=Z t->vs[j]?=Z v->aK g w t v):aK g w (.gm cs) (.tuple vs)
 |gd (c:Bool) (t:T) (v:Value) (h:c=W->aK g w t v):aK g w (.gd c t) v
 |mp (o b:Nat) (h:g.cg o=Z b):aK g w (.mp o) (.map (Z b))
 |ry (o b:Nat) (h:g.cg o=Z b):aK g w (.ry o) (.func (.yield b) #[] #[])
 |ru (o b:Nat) (h:g.cg o=Z b):aK g w (.ru o) (.pointer (Z ⟨b,0,Y⟩))
 |ub (e b:Bool) (h:b=W->e=W):aK g w (.ub e) (.bool b)
 |qd (o m r i len cap sz:Nat) (a:Option Addr) (h:g.arr m (rc r i)=Z ⟨a,len,cap,sz⟩):aK g w (.qd o m r i) (.slice a len cap)
 |nQ (j:Nat) (d:D) (c:Option Addr) (a:Option Addr) (hj:d.cells[j]?=Z (.sl [])) (hd:ee g.bA w (.sl [iN j d (.slice c 0 0)]) (.slice a 1 1)):aK g w (.nQ j d) (.slice a 1 1)
inductive gW(g:Gh)(w:World):Ob->Obj->Prop where
 |box (cs:List T) (vs:Array Value) (ty:TypeId) (hl:cs.length=vs.size) (h:∀(j:Nat)(t:T)(v:Value),cs[j]?=Z t->vs[j]?=Z v->aK g w t v):gW g w (.box cs) (.cells vs ty (0,0))
 |map (es:List (T×T)) (ms:Array MapEntry) (c:Nat) (hl:es.length=ms.size)
   (h:∀(j:Nat)(t:T×T)(m:MapEntry),es[j]?=Z t->ms[j]?=Z m->aK g w t.1 m.key∧aK g w t.2 m.val):gW g w (.map es) (.map ms c)
 |o7 (s:ByteArray) (pos:Nat):gW g w (.o7 s pos) (.stringIter s pos)
 |lp (l:Lp) (r:Loop) (h1:r.state=l.st) (h2:r.pending=l.oA) (h4:r.params.toList=l.params) (h5:r.assign=l.assign) (h6:r.body=l.body)
   (h8:r.tmps.size=l.fr.n) (h9:∀k t,l.fr.get k=Z t->∃v,r.tmps[k]?=Z v∧aK g w t v):gW g w (.lp l) (.loop r)
 |zH:gW g w .zH (.deferred (Z []))
def bM(g:Gh)(o b:Nat):Prop:=¬g.bA b∧(g.cg o=Z b∨∃e x ad,g.arr o e=Z x∧x.a=Z ad∧ad.block=b∧x.cap≠0)
structure uV(g:Gh)(w:World)(fz:Bool)(sz:Nat)(es:List D)(x:fq):Prop where
 len:x.len=es.length
 cap:x.len<=x.cap
 rows:∀d∈es,d.cells.length=sz
 pos:0<sz
 X2:∀d∈es,es.length*d.qu<=281474976710656
 emp:es=[]->x.cap=0
 mem:x.cap≠0->∃b vs ty,x.a=Z ⟨b,0,Y⟩∧(fz=W↔g.bA b)∧w.heap[b]?=Z (.cells vs ty (0,0))∧x.cap*sz<=vs.size∧
  ∀i d j c,es[i]?=Z d->d.cells[j]?=Z c->∃v,vs[i*sz+j]?=Z v∧ee g.bA w c v
def fB(fz:Bool)(sz:Nat)(es:List D)(era:Nat):Ob:=if fz then .jX sz es era else .arr sz es era
def uR(g:Gh)(s:St)(w:World)(o b:Nat):Prop:=
 ¬g.bA b∧b<w.heap.size∧∀ob,s.ob.get o=Z ob->∃h,w.heap[b]?=Z h∧gW g w ob h
def uR.box{g:Gh}{s:St}{w:World}{o b:Nat}(h:uR g s w o b){cs:List T}(e:s.ob.get o=Z (.box cs)) :
  ∃vs ty,w.heap[b]?=Z (.cells vs ty (0,0))∧cs.length=vs.size∧∀(j:Nat)(t:T)(v:Value),cs[j]?=Z t->vs[j]?=Z v->aK g w t v:=by
 obtain⟨x,i,d⟩:=h.2.2 _ e;cases d with|box cs vs ty k d=>exact⟨vs,ty,i,k,d⟩
def uR.DM{g:Gh}(h:uR g s w o b)(fz:Bool){sz:Nat}{es:List D}(d:s.ob.get o=Z (if fz then .jX sz es e else .arr sz es e)):False:=by obtain⟨x,j,i⟩:=h.2.2 _ d;cases fz<;>cases i
def gW.DM{g:Gh}{h:Obj}(b:gW g w ob h):ob.oJ=J:=by cases b<;>rfl
def fq.at(x:fq)(b:Nat):Prop:=∃ad,x.a=Z ad∧ad.block=b∧x.cap≠0
def lits(nj:Nat)(es:List D)(hs:List Value):List D:=List.zipWith (iN nj) es hs
def Gy(g:Gh)(m gE:Nat)(hole:Option Nat)(hs:List Value):Prop:=
 (∀(i:Nat)(h:Value),hs[i]?=Z h->∃a n k,h=.slice a n k)∧∀(i:Nat)(h:Value),hs[i]?=Z h->hole≠Z i->∃y,g.arr m (rc gE i)=Z y∧h=.slice y.a y.len y.cap
def Q3(g:Gh)(w:World)(o e:Nat)(x:fq)(ob:Ob):Prop:=
 ∃fz es era,ob=fB fz x.sz es era∧e<=era∧(∀b,era<b->g.arr o b=Y)∧(e=era->uV g w fz x.sz es x)
def ahU(g:Gh)(w:World)(o e:Nat)(x:fq)(ob:Ob):Prop:=
 ∃nj es era m gE hole,ob=.kj nj x.sz es era m gE hole∧e<=era∧(∀b,era<b->g.arr o b=Y)∧
  (e=era->∃hs,hs.length=es.length∧uV g w J x.sz (lits nj es hs) x∧Gy g m gE hole hs)
def ahN(g:Gh)(w:World)(o e:Nat)(x:fq)(ob:Ob):Prop:=
 ∃sz hU gE,ob=.rws sz hU gE∧(∀r i,gE<r->g.arr o (rc r i)=Y)∧
  (∀i d y j,i≠d->g.arr o (rc gE i)=Z y->g.arr o (rc gE d)=Z j->∀b,y.at b->¬j.at b)∧
  (∀i,e=rc gE i->x.sz=sz∧∃rs,hU[i]?=Z rs∧uV g w J sz rs x)
def s7(g:Gh)(w:World)(o e:Nat)(x:fq)(ob:Ob):Prop:=
 Q3 g w o e x ob∨ahU g w o e x ob∨ahN g w o e x ob∨ob=.gone
def s7.oJ{g:Gh}{w:World}{o e:Nat}{x:fq}{ob:Ob}(h:s7 g w o e x ob):ob.oJ=W:=by
 rcases h with⟨b,_,_,rfl,_⟩|⟨_,_,_,_,_,_,rfl,_⟩|⟨_,_,_,rfl,_⟩|rfl
 .cases b<;>rfl
 .rfl
 .rfl
 .rfl
def s7.old{g:Gh}{x:fq}(h:s7 g w o e x ob)(hi:ob.isA=W):Q3 g w o e x ob:=by
 rcases h with h|⟨_,_,_,_,_,_,rfl,_⟩|⟨_,_,_,rfl,_⟩|rfl
 .exact h
 .cases hi
 .cases hi
 .cases hi
def zF(g:Gh)(s:St)(w:World)(o e:Nat)(x:fq):Prop:=
 (∀ad,x.a=Z ad->x.cap≠0->ad.block<w.heap.size)∧∀ob,s.ob.get o=Z ob->s7 g w o e x ob
def zF.old{g:Gh}{s:St}{w:World}{o e:Nat}{x:fq}(h:zF g s w o e x)(ob:Ob)(d:s.ob.get o=Z ob)(hi:ob.isA=W) :
  ∃fz es era,ob=fB fz x.sz es era∧e<=era∧(∀b,era<b->g.arr o b=Y)∧(e=era->uV g w fz x.sz es x):=(h.2 ob d).old hi
def Tf(fz:Bool)(sz:Nat)(es:List D)(era:Nat):(fB fz sz es era).isA=W:=by cases fz<;>rfl
structure bh(g:Gh)(s:St)(w:World):Prop where
 aH:s.aH<=bB
 ai:∀o,s.aH<=o->g.cg o=Y∧∀e,g.arr o e=Y
 box:∀o b,g.cg o=Z b->uR g s w o b
 arr:∀o e x,g.arr o e=Z x->zF g s w o e x
 bA:∀b,g.bA b->b<w.heap.size
 lV:∀o o' b,bM g o b->bM g o' b->o=o'
inductive uQ(g:Gh)(w:World):Df->Deferred->Prop where
 |call (f:T) (args:List T) (fv:Fn) (first cap TS:Array Value) (h3:aK g w f (.func fv first cap)) (h4:args.length=TS.size)
   (h5:∀(j:Nat)(t:T)(v:Value),args[j]?=Z t->TS[j]?=Z v->aK g w t v):uQ g w (.call f args) {target:=.fn fv cap,args:=first++TS}
 |mark (o b:Nat) (h:g.cg o=Z b):uQ g w (.mark o) {target:=.collected b,args:=#[]}
 |bad (d:Deferred):uQ g w .bad d
inductive jW(g:Gh)(w:World):List Df->List Deferred->Prop where
 |nil:jW g w [] []
 |cons {d:Df} {e:Deferred} {l:List Df} {m:List Deferred} (h:uQ g w d e) (t:jW g w l m):jW g w (d::l) (e::m)
structure cF(g:Gh)(fr:Fr)(a:Act)(w:World):Prop where
 size:a.tmps.size=fr.n
 df:jW g w fr.df a.defers
 tm:∀k t,fr.get k=Z t->∃v,a.tmps[k]?=Z v∧aK g w t v
structure Ext(fl:Nat)(g:Gh)(w:World)(g':Gh)(w':World):Prop where
 cg:∀o b,g.cg o=Z b->g'.cg o=Z b
 arr:∀o e x,g.arr o e=Z x->g'.arr o e=Z x
 bA:∀b,g.bA b->g'.bA b
 size:w.heap.size<=w'.heap.size
 heap:∀b,b<w.heap.size->(∀o,fl<=o->¬bM g o b)->w'.heap[b]?=w.heap[b]?
 own:∀o b,bM g' o b->bM g o b∨w.heap.size<=b
 tZ:∀b,g'.bA b->g.bA b∨w.heap.size<=b∨∃o,fl<=o∧bM g o b
 os:w'.os=w.os
 output:w'.output=w.output
def Ext.refl(fl:Nat)(g:Gh)(w:World):Ext fl g w g w:=
 ⟨λ_ _ h=>h,λ_ _ _ h=>h,λ_ h=>h,bP _,λ_ _ _=>rfl,λ_ _ h=>.inl h,λ_ h=>.inl h,rfl,rfl⟩
def Ext.trans{fl:Nat}{g g' j:Gh}{w w' l:World}(h:Ext fl g w g' w')(k:Ext fl g' w' j l):Ext fl g w j l where
 cg o b e:=k.cg o b (h.cg o b e)
 arr o e x q:=k.arr o e x (h.arr o e x q)
 bA b e:=k.bA b (h.bA b e)
 size:=fC h.size k.size
 heap b i p:=by
  rw[k.heap b (dy i h.size) (λo m d=>?_),h.heap b i p];rcases h.own o b d with d|d
  .exact p o m d
  .omega
 own o b d:=by
  rcases k.own o b d with d|d
  .exact h.own o b d
  .exact .inr (fC h.size d)
 tZ b i:=by
  rcases k.tZ b i with i|i|⟨o,m,d⟩
  .exact h.tZ b i
  .exact .inr (.inl (fC h.size i))
  .rcases h.own o b d with d|d
   .exact .inr (.inr ⟨o,m,d⟩)
   .exact .inr (.inl d)
 os:=k.os.trans h.os
 output:=k.output.trans h.output
def Ext.keeps{g g':Gh}(h:Ext fl g w g' w')(hi:∀b,g.bA b->b<w.heap.size):sZ g.bA w w':=
 λb d=>h.heap b (hi b d) λ_ _ e=>e.1 d
def ee.ext{g g':Gh}(h:Ext fl g w g' w')(hi:∀b,g.bA b->b<w.heap.size)(e:ee g.bA w d v):ee g'.bA w' d v:=
 e.mono (h.keeps hi) h.bA
def aK.ext{fl:Nat}{g g':Gh}{w w':World}(h:Ext fl g w g' w')(hi:∀b,g.bA b->b<w.heap.size){t:T}{v:Value}(I:aK g w t v):aK g' w' t v:=by
 induction I with|sym d v p=>exact .sym d v (p.ext h hi)|kb b=>exact .kb b|kn k n=>exact .kn k n|ptr o off b q=>exact .ptr o off b (h.cg o b q)|mD d off C val s K p=>exact .mD d off C val (h.bA _ s) (λj c u=>by rw[(h.keeps hi).cell (by rw[kN];exact s)];exact K j c u) (λj c u=>(p j c u).ext h hi)|kA o e i off len cap sz C y=>exact .kA o e i off len cap sz C (h.arr _ _ _ y)|sh o e len cap sz a y=>exact .sh o e len cap sz a (h.arr _ _ _ y)|emp a=>exact .emp a|jy n L a M p=>exact .jy n L a M (p.ext h hi)|fn f fs z O R B S _ _ l G=>exact .fn f fs z O R B S l G|cR t x v _ l=>exact .cR t x v l|agg z H B _ l=>exact .agg z H B l|gm z H B _ l=>exact .gm z H B l|gd c t v _ l=>exact .gd c t v l|mp o b q=>exact .mp o b (h.cg o b q)|ry o b q=>exact .ry o b (h.cg o b q)|ru o b q=>exact .ru o b (h.cg o b q)|ub e b h=>exact .ub e b h|qd o m r i len cap sz a y=>exact .qd o m r i len cap sz a (h.arr _ _ _ y)|nQ j d c a u p=>exact .nQ j d c a u (p.ext h hi)
def aK.amK{g g':Gh}(B:∀k j y,g.arr k j=Z y->g'.arr k j=Z y)(z:g'.cg=g.cg)(hi:g'.bA=g.bA)(L:aK g w t v):aK g' w t v:=by
 induction L with|sym d v p=>exact .sym d v (hi▸p)|kb b=>exact .kb b|kn k n=>exact .kn k n|ptr o off b h=>exact .ptr o off b (z▸h)|mD d off C val G M p=>exact .mD d off C val (hi▸G) M (λj c H=>hi▸p j c H)|kA o e i off len cap sz C q=>exact .kA o e i off len cap sz C (B _ _ _ q)|sh o e len cap sz a q=>exact .sh o e len cap sz a (B _ _ _ q)|emp a=>exact .emp a|jy n O a R p=>exact .jy n O a R (hi▸p)|fn f fs s S U u X _ _ l I=>exact .fn f fs s S U u X l I|cR t x v _ l=>exact .cR t x v l|agg s K u _ l=>exact .agg s K u l|gm s K u _ l=>exact .gm s K u l|gd c t v _ l=>exact .gd c t v l|mp o b h=>exact .mp o b (z▸h)|ry o b h=>exact .ry o b (z▸h)|ru o b h=>exact .ru o b (z▸h)|ub e b h=>exact .ub e b h|qd o m r i len cap sz a q=>exact .qd o m r i len cap sz a (B _ _ _ q)|nQ j d c a H p=>exact .nQ j d c a H (hi▸p)
def gW.imp{g g':Gh}(d:∀t v,aK g w t v->aK g' w' t v){x:Obj}(b:gW g w ob x):gW g' w' ob x:=by
 cases b with
 |box i p ty e b=>exact .box i p ty e λj t v h1 h2=>d _ _ (b j t v h1 h2)
 |map q u c e b=>exact .map q u c e λj t m h1 h2=>⟨d _ _ (b j t m h1 h2).1,d _ _ (b j t m h1 h2).2⟩
 |o7 s pos=>exact .o7 s pos
 |lp l r h1 h2 h4 h5 h6 y z=>exact .lp l r h1 h2 h4 h5 h6 y λk t B=>let ⟨v,C,G⟩:=z k t B;⟨v,C,d _ _ G⟩
 |zH=>exact .zH
def gW.ext{fl:Nat}{g g':Gh}{w w':World}(h:Ext fl g w g' w')(hi:∀b,g.bA b->b<w.heap.size){ob:Ob}{x:Obj}(d:gW g w ob x):gW g' w' ob x:=
 d.imp (λ_ _ e=>e.ext h hi)
def sY(p:T->Bool)(t u:T):Prop:=(u=t∧p t=J)∨∃v,u=.gd J v
def pV(p:T->Bool)(ob b:Ob):Prop:=
 match ob,b with
 | .box cs,.box ds=>cs.length=ds.length∧∀(j:Nat)(t u:T),cs[j]?=Z t->ds[j]?=Z u->sY p t u
 | .map es,.map ds=>es.length=ds.length∧∀(j:Nat)(t u:T×T),es[j]?=Z t->ds[j]?=Z u->sY p t.1 u.1∧sY p t.2 u.2
 | .kj nj sz es era m gE hole,b=>(b=.kj nj sz es era m gE hole∧p (.sh m 0)=J)∨b=.gone
 | .lp l,.lp m=>m={l with fr:=m.fr}∧m.fr.n=l.fr.n∧∀k u,m.fr.get k=Z u->∃t,l.fr.get k=Z t∧sY p t u
 |ob,b=>ob=b
def sY.rel{g g':Gh}(b:∀t v,aK g w t v->p t=J->aK g' w' t v){u:T}(h:sY p t u)(d:aK g w t v):aK g' w' u v:=by
 rcases h with⟨rfl,hp⟩|⟨x,rfl⟩
 .exact b _ _ d hp
 .exact .gd _ _ _ λh=>by cases h
def nu{α:Type}{l:List α}{j:Nat}{a:α}(h:l[j]?=Z a):j<l.length:=(tc.1 h).1
def gW.left{g g':Gh}(z:∀t v,aK g w t v->p t=J->aK g' w' t v){b:Ob}{x:Obj}(i:gW g w ob x)(hl:pV p ob b):gW g' w' b x:=by
 cases i with
 |box K L ty q i=>
  cases b with
  |box ds=>
   obtain⟨B,C⟩:=hl;refine .box ds L ty (by omega) λj u v d G=>?_;have y:j<K.length:=by rw[B];exact nu d
   exact(C j _ u (fP y) d).rel z (i j _ v (fP y) G)
  |_=>cases hl
 |map M O c q i=>
  cases b with
  |map ds=>
   obtain⟨B,C⟩:=hl;refine .map ds O c (by omega) λj u m d R=>?_;have y:j<M.length:=by rw[B];exact nu d
   have h1:=C j _ u (fP y) d;have h2:=i j _ m (fP y) R;exact⟨h1.1.rel z h2.1,h1.2.rel z h2.2⟩
  |_=>cases hl
 |o7 s pos=>cases b<;>first|(cases hl;exact .o7 _ _)|cases hl
 |lp l r h1 h2 h4 h5 h6 S U=>
  cases b with
  |lp m=>obtain⟨e,X,k2⟩:=hl;rw[e];refine .lp _ r h1 h2 h4 h5 h6 (S.trans X.symm) λk u d=>?_;obtain⟨t,ht,H⟩:=k2 k u d;obtain⟨v,G,I⟩:=U k t ht;exact⟨v,G,H.rel z I⟩
  |_=>cases hl
 |zH=>cases b<;>first|exact .zH|cases hl
def uQ.imp{g g':Gh}(k:∀t v,aK g w t v->aK g' w' t v)(l:∀o b,g.cg o=Z b->g'.cg o=Z b){d:Df}{e:Deferred}(h:uQ g w d e):uQ g' w' d e:=by
 cases h with
 |call f args m first cap i h3 h4 h5=>exact .call f args m first cap i (k _ _ h3) h4 (λj t v p q=>k _ _ (h5 j t v p q))
 |mark o b h=>exact .mark o b (l o b h)
 |bad=>exact .bad _
def jW.imp{g g':Gh}{w w':World}(d:∀t v,aK g w t v->aK g' w' t v)(e:∀o b,g.cg o=Z b->g'.cg o=Z b){l:List Df}{m:List Deferred}(h:jW g w l m):jW g' w' l m:=by
 induction h with|nil=>exact .nil|cons h _ i=>exact .cons (h.imp d e) i
def JO(p:T->Bool)(d e:Df):Prop:=e=.bad∨(e=d∧match d with
 | .call f args=>p f=J∧∀t∈args,p t=J
 | .mark o=>p (.ptr o 0)=J
 | .bad=>True)
inductive sG(p:T->Bool):List Df->List Df->Prop where
 |nil:sG p [] []
 |cons {d e:Df} {l m:List Df} (h:JO p d e) (t:sG p l m):sG p (d::l) (e::m)
def JO.rel{g g':Gh}(k:∀t v,aK g w t v->p t=J->aK g' w' t v){d e:Df}{x:Deferred}(h:JO p d e)(q:uQ g w d x):uQ g' w' e x:=by
 rcases h with rfl|⟨rfl,h⟩
 .exact .bad _
 .cases q with
  |call f args r first cap i h3 h4 h5=>exact .call f args r first cap i (k _ _ h3 h.1) h4 (λj t v m s=>k _ _ (h5 j t v m s) (h.2 t (gY m)))
  |mark o b u=>
   have:=k _ _ (.ptr o 0 b u) h;cases this with|ptr _ _ _ l=>exact .mark o b l
  |bad=>exact .bad _
def sG.rel{g g':Gh}{w w':World}{p:T->Bool}(b:∀t v,aK g w t v->p t=J->aK g' w' t v):∀{l m:List Df}{d:List Deferred},sG p l m->jW g w l d->jW g' w' m d
 |_,_,_,.nil,.nil=>.nil
 |_,_,_,.cons h t,.cons k u=>.cons (h.rel b k) (sG.rel b t u)
def cF.ext{fl:Nat}{g g':Gh}{w w':World}(h:Ext fl g w g' w')(hi:∀b,g.bA b->b<w.heap.size){fr:Fr}{a:Act}(hf:cF g fr a w):cF g' fr a w':=
 ⟨hf.size,hf.df.imp (λ_ _ d=>d.ext h hi) h.cg,λk t e=>let ⟨v,i,d⟩:=hf.tm k t e;⟨v,i,d.ext h hi⟩⟩
end
section
def dN:TypeDesc->Bool
 | .struct _|.array _ _=>W
 |_=>J
def adv(d:D)(v:Value):Prop:=(d=.sl []∧v=.slice Y 0 0)∨d=.lit v
def ZOk(zero:List D)(cells:Array Value):Prop:=
 zero.length=cells.size∧∀(j:Nat)(d:D)(v:Value),zero[j]?=Z d->cells[j]?=Z v->adv d v
def Nd(P:Program):Kd->TypeDesc->Prop
 | .leaf (.int k),d=>d=.int k
 | .leaf .bool,d=>d=.bool
 | .leaf .str,d=>d=.string
 | .leaf .no,_=>True
 | .ptr,d=>∃e,d=.pointer e
 | .slice sz ag g zero,d=>∃e j b z,d=.slice e∧P.info? e=Z j∧j.size=sz∧P.underlying e=Z b∧ag=dN b∧j.zero=Z z∧ZOk zero z.cells∧j.bytes<=4096∧0<sz∧j.bytes<=g∧g<=2*j.bytes∧0<j.bytes∧zero.length=sz
 | .struct fs,d=>∃fields,d=.struct fields∧fields.size=fs.length∧∀(k:Nat)off size ag,fs[k]?=Z (off,size,ag)->
   ∃f j b,fields[k]?=Z f∧f.offset=off∧P.info? f.type=Z j∧j.size=size∧P.underlying f.type=Z b∧ag=dN b
 | .array len sz ag,d=>∃e j b,d=.array len e∧P.info? e=Z j∧j.size=sz∧P.underlying e=Z b∧ag=dN b
 | .iface,d=>∃i,d=.interface i
 | .other,_=>True
def zx:Lk->Value->Prop
 | .int k,v=>∃n,v=.int k n
 | .bool,v=>∃b,v=.bool b
 | .str,v=>∃b,v=.string b
 | .no,_=>False
def EC:Value->Value->Bool
 | .int _ a,.int _ b=>a==b
 | .bool a,.bool b=>a==b
 | .string a,.string b=>a==b
 |_,_=>J
def kz:List Value->List Value->Bool
 |a::l,b::m=>EC a b&&kz l m
 |_,_=>W
def ad6(P:Program)(t:TypeId)(XU:List Lk):Prop:=
 ∀(w:World)(op:BinOp)(x y:Operand)(b ys:Array Value),b.size=XU.length->ys.size=XU.length->
  (∀(j:Nat)(l:Lk)(v:Value),XU[j]?=Z l->b[j]?=Z v->zx l v)->(∀(j:Nat)(l:Lk)(v:Value),XU[j]?=Z l->ys[j]?=Z v->zx l v)->
  (eqGuard op t x y (.agg b) (.agg ys)).run P w=.ok () w∧(Op.equal t (.agg b) (.agg ys)).run P w=.ok (kz b.toList ys.toList) w
structure mU(P:Program)(t:TypeId)(i:TI):Prop where
 eqs:i.agg=W->i.XU≠[]->ad6 P t i.XU
 nif:∀ms,P.underlying t=Z (.interface ms)->i.kd=.iface
 zag:∀x z,P.info? t=Z x->x.zero=Z z->(i.agg=W->∃vs,z=.agg vs)∧(i.agg=J->z.cells=#[z])
 all:∃x d z,P.info? t=Z x∧P.underlying t=Z d∧x.size=i.size∧i.agg=dN d∧x.zero=Z z∧ZOk i.zero z.cells∧Nd P i.kd d
section
variable {P:Program}
def aM{t:TypeId}{d:TypeDesc}(h:P.underlying t=Z d)(w:World):(underlying t).run P w=.ok d w:=by simp[underlying,h]
def pZ{t:TypeId}{x:TypeInfo}(h:P.info? t=Z x)(w:World):(typeInfo t).run P w=.ok x w:=by simp[typeInfo,h]
def dB{t:TypeId}{x:TypeInfo}(h:P.info? t=Z x)(w:World):(Go.sizeOf t).run P w=.ok x.size w:=by simp[Go.sizeOf,pZ h]
def rH{t:TypeId}{d:TypeDesc}(h:P.underlying t=Z d)(w:World):(isAgg t).run P w=.ok (dN d) w:=by simp only[isAgg,Sem.run_bind,aM h,Result.andThen_ok];cases d<;>rfl
def ei{t:TypeId}{x:TypeInfo}{z:Value}(h:P.info? t=Z x)(b:x.zero=Z z)(w:World):(zeroValue t).run P w=.ok z w:=by simp[zeroValue,pZ h,b]
def beq_iff'{a b:Nat}:Nat.beq a b=W↔a=b:=by
 constructor
 .exact nF
 .intro h;subst h;exact GU a
def yd{t:TypeId}{x:TypeInfo}{d:TypeDesc}(hi:P.info? t=Z x)(i:P.underlying t=Z d)(w:World)(a:Addr)(vals:List Value)(hl:vals.length=x.size)
  (e:∀j v,vals[j]?=Z v->w.cell? (a.add j)=Z v) (h1:dN d=J->∃v,vals=[v]) :
  (loadVar t a).run P w=.ok (if dN d then .agg vals.toArray else vals.headD undef) w:=by
 have b:=run_loadCells_list (P:=P) w a vals e;simp only[loadVar,Sem.run_bind,rH i,Result.andThen_ok];cases k:dN d with|true=>simp[dB hi,<-hl,b]|false=>obtain⟨v,rfl⟩:=h1 k;have g:=e 0 v rfl;simp[Addr.add]at g;simp[g]
end
variable {j:Nat}{ag:Bool}{cs:List T}{t:T}{g:Gh}{w:World}
def aF{α:Type}{l:List α}{x:α}(h:l[j]?=Z x):j<l.length:=by
 rcases yx j l.length with b|b
 .exact b
 .rw[Gb b]at h;cases h
def ou{n k:Nat}(h:(List.range n)[j]?=Z k):j=k∧j<n:=by
 have b:j<n:=by have:=aF h;simpa using this
 rw[NP b]at h;exact⟨by simpa using h,b⟩
def uE(a:Addr)(i j:Nat):(a.add i).add j=a.add (i+j):=by unfold Addr.add;by_cases hi:i=0<;>by_cases b:j=0<;>simp[hi,b,Nat.add_assoc]
def DF(h:tO ag cs=Z t):(ag=W∧t=.agg cs)∨(ag=J∧cs=[t]):=by
 unfold tO at h;cases ag with
 |true=>simp at h;exact .inl ⟨rfl,h.symm⟩
 |false=>
  simp at h;split at h
  .simp at h;subst h;exact .inr ⟨rfl,rfl⟩
  .cases h
def u9(h:tO ag cs=Z t){vals:List Value}(hl:cs.length=vals.length)
  (b:∀(j:Nat)(t:T)(v:Value),cs[j]?=Z t->vals[j]?=Z v->aK g w t v) :
  aK g w t (if ag then .agg vals.toArray else vals.headD undef)∧(ag=J->∃v,vals=[v]):=by
 rcases DF h with⟨rfl,rfl⟩|⟨rfl,rfl⟩
 .exact ⟨.agg _ _ (by simpa using hl) (λj t v h1 h2=>b j t v h1 (by simpa using h2)),λh=>by cases h⟩
 .match vals,hl with
  |[v],_=>exact⟨b 0 _ _ rfl rfl,λ_=>⟨v,rfl⟩⟩
def pY{α:Type}(l:List α)(off n j:Nat)(x:α)(h:((l.drop off).take n)[j]?=Z x):l[off+j]?=Z x∧j<n:=by
 rw[vK]at h;split at h
 .rename_i b;rw[Dr]at h;exact⟨h,b⟩
 .cases h
def D.EX(d:D)(j:Nat)(h:j<d.cells.length):d.cells[j]?=Z (d.cell j):=by simp[D.cell,List.getD,fP h]
def Bj{P:Program}{ty:TypeId}{i:TI}(hi:mU P ty i){d:D}{off:Nat}(h:nr i d off=Z t)(y:d.has (Nat.add off i.size))
  {ad:Addr} {val:Nat->Value} (B:∀j c,d.cells[j]?=Z c->w.cell? (ad.add j)=Z (val j)) (C:∀j c,d.cells[j]?=Z c->ee g.bA w c (val j)) :
  ∃v,(loadVar ty (ad.add off)).run P w=.ok v w∧aK g w t v:=by
 obtain⟨x,ds,z,G,H,q,l,_⟩:=hi.all;have K:off+i.size<=d.cells.length:=y;have b:∀j,j<i.size->w.cell? ((ad.add off).add j)=Z (val (off+j))∧ee g.bA w (d.cell (off+j)) (val (off+j)):=by
  intro j r;have e:off+j<d.cells.length:=by omega
  rw[uE];exact⟨B _ _ (D.EX d _ e),C _ _ (D.EX d _ e)⟩
 have m:=yd (P:=P) G H w (ad.add off) ((List.range i.size).map λj=>val (off+j)) (by simp[q]) (λj v r=>by
  simp only[gK,eC]at r;obtain⟨k,s,rfl⟩:=r;obtain⟨rfl,e⟩:=ou s;exact(b j e).1)
 unfold nr at h;cases u:i.agg with
 |true=>
  rw[u]at h l;simp at h;subst h;refine⟨_,m (λhf=>by rw[<-l]at hf;cases hf),?_⟩;rw[<-l];simp only[fR];refine .agg _ _ (by simp) (λj t v h1 h2=>?_);simp only[gK,eC]at h1;obtain⟨k,s,rfl⟩:=h1;obtain⟨rfl,e⟩:=ou s;have I:v=val (off+j):=by simp[e]at h2;exact h2.symm
  subst I;exact .sym _ _ (b j e).2
 |false=>
  rw[u]at h l;simp at h;by_cases h1:Nat.beq i.size 1=W
  .simp[h1]at h;subst h;have p:=beq_iff'.1 h1;refine⟨_,m (λ_=>⟨val off,by simp[p]⟩),?_⟩;rw[<-l];have:=(b 0 (by omega)).2;simp[p];exact .sym _ _ (by simpa using this)
  .rw[Bool.not_eq_true]at h1;simp[h1]at h
end
section
def af{α:Type}{b:Bool}{x y:Option α}{z:α}(h:(bif b then x else y)=Z z):(b=W∧x=Z z)∨(b=J∧y=Z z):=by
 cases b
 .exact .inr ⟨rfl,h⟩
 .exact .inl ⟨rfl,h⟩
variable {w:World}{d:D}{v:Value}{g:Gh}{t:T}{i:TI}{s:St}{o e sz k:Nat}{es:List D}{fz:Bool}
def tW{I:Nat->Prop}(hl:d.leaf=W)(h:ee I w d v):v.oneCell'=W∧v.cells=#[v]:=by
 cases h with
 |lit v=>cases v<;>first|exact⟨rfl,rfl⟩|cases hl
 |sl=>exact⟨rfl,rfl⟩
 |agg=>cases hl
 |cR=>exact⟨rfl,rfl⟩
 |gm=>cases hl
def Ro(hl:t.leaf)(h:aK g w t v):v.oneCell'=W∧v.cells=#[v]:=by cases h with|sym d v b=>exact tW hl b|agg=>exact hl.elim|gm=>exact hl.elim|gd=>exact hl.elim|_=>exact⟨rfl,rfl⟩
def xk{n:Nat}(h:d.isAgg n=W):∃cs,d=.agg cs∧cs.length=n∧∀c∈cs,c.leaf=W:=by
 unfold D.isAgg at h;split at h
 .rename_i cs;simp only[dR]at h;refine⟨cs,rfl,?_,?_⟩
  .rw[<-bK];exact beq_iff'.1 h.1
  .simpa using h.2
 .cases h
def lD{p:Prop}{cs:List T}(h:iQ i t=Z (p,cs))(hp:p)(z:aK g w t v) :
  cs.length=i.size∧v.cells.size=i.size∧(∀(j:Nat)(t:T)(u:Value),cs[j]?=Z t->v.cells[j]?=Z u->aK g w t u)∧
  (i.agg=W->∃vs,v=.agg vs)∧(i.agg=J->v.cells=#[v]∧i.size=1):=by
 cases z with
 |agg G vs m q=>
  simp only[iQ]at h;rcases af h with⟨e,h⟩|⟨_,h⟩
  .simp only[dR]at e;have l:=beq_iff'.1 e.2;rw[bK]at l;simp only[bg,bC]at h;obtain⟨_,rfl⟩:=h;refine⟨l,by simp[Value.cells,<-m,l],λj t u h1 h2=>q j t u h1 h2,λ_=>⟨vs,rfl⟩,λhf=>by rw[e.1]at hf;cases hf⟩
  .cases h
 |sym d v r=>
  simp only[iQ]at h;rcases af h with⟨e,h⟩|⟨e,h⟩
  .simp only[bg,bC]at h;obtain⟨rfl,rfl⟩:=h;obtain⟨ds,rfl,l,B⟩:=xk hp;cases r with|agg _ vs m _ q=>refine⟨by simp,by simp[Value.cells,<-m,l],λj t u h1 h2=>?_,λ_=>⟨vs,rfl⟩,λhf=>by rw[e]at hf;cases hf⟩;simp only[gK,eC]at h1;obtain⟨k,C,rfl⟩:=h1;obtain⟨rfl,s⟩:=ou C;exact .sym _ _ (q j _ u (D.EX (.agg ds) j (by simpa[D.cells,l]using s)) h2)
  .rcases af h with⟨h1,h⟩|⟨_,h⟩
   .simp only[bg,bC]at h;obtain⟨rfl,rfl⟩:=h;have b:=beq_iff'.1 h1;obtain⟨_,y⟩:=tW hp r;refine⟨by simp[b],by simp[y,b],λj t u h2 h3=>?_,λhf=>(by rw[e]at hf;cases hf),λ_=>⟨y,b⟩⟩;rw[y]at h3;cases j with|zero=>simp at h2 h3;subst h2;subst h3;exact .sym _ _ r|succ j=>simp at h2
   .cases h
 |gm=>cases h
 |gd=>cases h
 |kb|kn|ptr|mD|kA|sh|emp|jy|fn|cR|mp|ry|ru|ub|qd|nQ=>
  all_goals
   simp only[iQ]at h;rcases af h with⟨_,h⟩|⟨e,h⟩
   .cases h
   .rcases af h with⟨h1,h⟩|⟨_,h⟩
    .simp only[bg,bC]at h;obtain⟨_,rfl⟩:=h;have b:=beq_iff'.1 h1;refine⟨by simp[b],by simp[Value.cells,b],?_,λhf=>(by rw[e]at hf;cases hf),λ_=>⟨rfl,b⟩⟩;intro j t u h2 h3;cases j with|zero=>simp[Value.cells]at h2 h3;subst h2;subst h3;constructor<;>assumption|succ j=>simp at h2
    .cases h
def H8(h:Gv s o e=Z (sz,es)):∃fz,s.ob.get o=Z (fB fz sz es e):=by
 unfold Gv at h;split at h
 .rename_i b d era g;rcases af h with⟨i,h⟩|⟨_,h⟩
  .have:=beq_iff'.1 i;subst this;simp at h;obtain⟨rfl,rfl⟩:=h;exact⟨J,g⟩
  .cases h
 .rename_i b d era g;rcases af h with⟨i,h⟩|⟨_,h⟩
  .have:=beq_iff'.1 i;subst this;simp at h;obtain⟨rfl,rfl⟩:=h;exact⟨W,g⟩
  .cases h
 .cases h
def jO{b:Bool}{d i:Nat}{g:List D}(h:fB fz sz es e=fB b d g i):fz=b∧sz=d∧es=g∧e=i:=by cases fz<;>cases b<;>simp[fB]at h<;>exact⟨rfl,h⟩
def bh.m9(hs:bh g s w){x:fq}(i:s.ob.get o=Z (fB fz sz es e))(j:g.arr o e=Z x) :
  uV g w fz sz es x∧x.sz=sz:=by
 obtain⟨k,l,era,b,_,_,d⟩:=(hs.arr o e x j).old _ i (Tf _ _ _ _);obtain⟨rfl,h2,rfl,rfl⟩:=jO b;exact⟨h2▸d rfl,h2.symm⟩
def cell?_of_block{b off:Nat}{vs:Array Value}{ty:TypeId}{fz:Nat×Nat}(h:w.heap[b]?=Z (.cells vs ty fz)):w.cell? ⟨b,off,Y⟩=vs[off]?:=by simp[World.cell?,h]
def nc(b off n:Nat):(⟨b,off,Y⟩:Addr).add n=⟨b,off+n,Y⟩:=by unfold Addr.add;split<;>simp_all
def Qz(h:D.Gg (k:Int) (D.len es)):k<es.length:=by have:=h.2;unfold D.len at this;omega
def D.Jv(h:k<es.length):es[k]?=Z (D.el es k):=by simp[D.el,List.getD,fP h]
def Br{P:Program}{ty:TypeId}(hi:mU P ty i){s':St}(hs:bh g s w){x:T}{vx:Value}(U:aK g w x vx)
  {p:Prop} {t:T} (h:loadT i s x=Z (p,t,s')) (hp:p):∃v,(Instr.loadAt ty vx).run P w=.ok v w∧aK g w t v∧s'=s:=by
 cases U with
 |ptr o off b hb=>
  cases K:s.ob.get o with
  |none=>simp[loadT,K]at h
  |some ob=>
  simp only[loadT,K]at h;cases ob with
  |box cs=>
  obtain⟨L,X,hh,hl,hr⟩:=(hs.box o b hb).box K;simp only at h;rcases af h with⟨hn,h⟩|⟨_,h⟩
  .have C:=beq_iff'.1 hn;rw[bK]at C;simp only[eC,bC]at h;obtain⟨t',l,_,rfl,rfl⟩:=h;obtain⟨xi,d,z,LS,hu,r,M,_⟩:=hi.all;have y:((L.toList.drop off).take i.size).length=i.size:=by
    have:((cs.drop off).take i.size).length=((L.toList.drop off).take i.size).length:=by simp[hl]
    rw[<-this,C]
   obtain⟨O,h1⟩:=u9 (g:=g) (w:=w) l (vals:=(L.toList.drop off).take i.size) (by rw[C,y]) (λj t v h1 h2=>by
    obtain⟨h1,_⟩:=pY _ _ _ _ _ h1;obtain⟨h2,_⟩:=pY _ _ _ _ _ h2;exact hr _ _ _ h1 (by simpa using h2))
   refine⟨_,?_,O,rfl⟩;have:=yd (P:=P) LS hu w ⟨b,off,Y⟩ ((L.toList.drop off).take i.size) (by rw[y,r]) (λj v H=>by
    obtain⟨H,_⟩:=pY _ _ _ _ _ H;rw[nc,cell?_of_block hh];simpa using H) (λhf=>h1 (by rw[M,hf]))
   rw[M];simpa[Instr.loadAt,Instr.sureAddr]using this
  .cases h
  |_=>simp at h
 |mD d off ad val SC m hd=>simp only[loadT,eC,bC]at h;obtain⟨t',l,rfl,rfl,rfl⟩:=h;obtain⟨v,I,ht⟩:=Bj hi l hp m hd;exact⟨v,by simpa[Instr.loadAt,Instr.sureAddr]using I,ht,rfl⟩
 |kA o e k off len cap sz ad U=>
  simp only[loadT]at h;cases ha:Gv s o e with
  |none=>simp[ha]at h
  |some q=>
   obtain⟨sz',es⟩:=q;obtain⟨fz,K⟩:=H8 ha;obtain⟨G,r⟩:=hs.m9 K U;simp only[ha,eC,bC]at h;obtain⟨t',l,rfl,rfl,rfl⟩:=h;simp only at r;subst r;have hk:=Qz hp.1;have R:(⟨Z ad,len,cap,sz⟩:fq).cap≠0:=by have h1:=G.len;have h2:=G.cap;simp only at h1 h2 ⊢;omega
   obtain⟨b,L,X,S,_,hh,_,u⟩:=G.mem R;simp only[bg]at S;subst S;have hex:∀j,∃v,∀c,(D.el es k).cells[j]?=Z c->w.cell? ((⟨b,k*sz,Y⟩:Addr).add j)=Z v∧ee g.bA w c v:=by
    intro j;by_cases H:j<(D.el es k).cells.length
    .obtain ⟨v,I,hd⟩:=u k _ j _ (D.Jv hk) (fP H);refine⟨v,λc m=>?_⟩;rw[fP H]at m;rw[<-eK m,nc,cell?_of_block hh];exact⟨I,hd⟩
    .exact ⟨undef,λc m=>by rw[Gb (by omega)]at m;cases m⟩
   obtain⟨val,B⟩:=RJ hex;obtain⟨v,I,ht⟩:=Bj hi l hp.2 (ad:=⟨b,k*sz,Y⟩) (val:=val) (λj c m=>(B j c m).1) (λj c m=>(B j c m).2);refine⟨v,?_,ht,rfl⟩;rw[nc]at I;rw[nc];simpa[Instr.loadAt,Instr.sureAddr]using I
 |_=>simp[loadT]at h
end
section
def setRow_other(w:World)(g b:Nat)(cs:Array Value)(h:b≠g):(w.setRow g cs).heap[b]?=w.heap[b]?:=by unfold World.setRow;rw[Array.getElem?_modify,br (λe=>h e.symm)]
variable {g g':Gh}{s s':St}{w w':World}{o b e fl sz:Nat}{x:fq}{fz:Bool}{es:List D}{ob:Ob}
def bh.lt(hs:bh g s w)(h:g.cg o=Z b):o<s.aH:=by
 rcases yx o s.aH with d|d
 .exact d
 .rw[(hs.ai o d).1]at h;cases h
def bh.lt'(hs:bh g s w)(h:g.arr o e=Z x):o<s.aH:=by
 rcases yx o s.aH with b|b
 .exact b
 .rw[(hs.ai o b).2 e]at h;cases h
def bh.qJ(hs:bh g s w)(h:bM g o b):b<w.heap.size∧o<s.aH:=by
 rcases h.2 with h1|⟨e,x,i,h1,j,d,k⟩
 .exact ⟨(hs.box o b h1).2.1,hs.lt h1⟩
 .exact ⟨d▸(hs.arr o e x h1).1 i j k,hs.lt' h1⟩
def uR.ext{g g':Gh}{s s':St}{w w':World}{fl o b:Nat}(j:Ext fl g w g' w')(hi:∀b,g.bA b->b<w.heap.size)(k:w'.heap[b]?=w.heap[b]?)
  (l:s'.ob.get o=s.ob.get o) (d:¬g'.bA b) (h:uR g s w o b):uR g' s' w' o b:=by
 obtain⟨_,e,m⟩:=h;refine⟨d,dy e j.size,λob i=>?_⟩;obtain⟨x,h1,h2⟩:=m ob (l▸i);exact⟨x,k.trans h1,h2.ext j hi⟩
def uV.ext{g g':Gh}{w w':World}{fl:Nat}{fz:Bool}{sz:Nat}{es:List D}{x:fq}(k:Ext fl g w g' w')(hi:∀b,g.bA b->b<w.heap.size)
  (l:∀b,x.a=Z ⟨b,0,Y⟩->x.cap≠0->w'.heap[b]?=w.heap[b]?∧(g'.bA b↔g.bA b)) (h:uV g w fz sz es x):uV g' w' fz sz es x:=
 ⟨h.len,h.cap,h.rows,h.pos,h.X2,h.emp,λe=>by
  obtain⟨b,m,ty,h1,h2,h3,h4,h5⟩:=h.mem e;obtain⟨p,q⟩:=l b h1 e;exact⟨b,m,ty,h1,h2.trans q.symm,p.trans h3,h4,λi d j c r s=>let ⟨v,t,u⟩:=h5 i d j c r s;⟨v,t,u.ext k hi⟩⟩⟩
def uV.jT(h:uV g w fz sz es x)(hi:g'.bA=g.bA):uV g' w fz sz es x:=
 ⟨h.len,h.cap,h.rows,h.pos,h.X2,h.emp,by rw[hi];exact h.mem⟩
def Gy.le{m gE:Nat}{hole:Option Nat}{hs:List Value}(h:Gy g m gE hole hs)(b:∀j y,g.arr m j=Z y->g'.arr m j=Z y):Gy g' m gE hole hs:=
 ⟨h.1,λi v hi d=>let ⟨y,h1,h2⟩:=h.2 i v hi d;⟨y,b _ _ h1,h2⟩⟩
def s7.tr(h:s7 g w o e x ob)(l:∀{fz sz es},uV g w fz sz es x->uV g' w' fz sz es x)(v:∀k j y,g.arr k j=Z y->g'.arr k j=Z y)(d:g'.arr o=g.arr o):s7 g' w' o e x ob:=by
 rcases h with⟨fz,es,era,h1,h2,h3,h5⟩|⟨z,es,era,m,b,hole,h1,h2,h3,h5⟩|⟨sz,p,b,h1,h2,h3,h5⟩|h
 .exact .inl ⟨fz,es,era,h1,h2,λq h=>by rw[d];exact h3 q h,λh=>l (h5 h)⟩
 .exact .inr (.inl ⟨z,es,era,m,b,hole,h1,h2,λq h=>by rw[d];exact h3 q h,λh=>let ⟨B,s,t,u⟩:=h5 h;⟨B,s,l t,u.le (v m)⟩⟩)
 .exact .inr (.inr (.inl ⟨sz,p,b,h1,λr i h=>by rw[d];exact h2 r i h,by rw[d];exact h3,λi h=>let ⟨s,rs,t,u⟩:=h5 i h;⟨s,rs,t,l u⟩⟩))
 .exact .inr (.inr (.inr h))
def s7.left{p:T->Bool}{d:Ob}(h:s7 g w o e x ob)(hl:pV p ob d)(q:∀{fz sz es},uV g w fz sz es x->uV g' w' fz sz es x)
  (z:∀m j y,p (.sh m 0)=J->g.arr m j=Z y->g'.arr m j=Z y) (l:g'.arr o=g.arr o):s7 g' w' o e x d:=by
 rcases h with⟨fz,es,era,rfl,h2,h3,h5⟩|⟨B,es,era,m,b,hole,rfl,h2,h3,h5⟩|⟨sz,k,b,rfl,h2,h3,h5⟩|rfl
 .have:d=fB fz x.sz es era:=by cases fz<;>exact hl.symm
  exact .inl ⟨fz,es,era,this,h2,λs h=>by rw[l];exact h3 s h,λh=>q (h5 h)⟩
 .rcases hl with⟨rfl,hp⟩|rfl
  .exact .inr (.inl ⟨B,es,era,m,b,hole,rfl,h2,λs h=>by rw[l];exact h3 s h,λh=>let ⟨C,t,u,v⟩:=h5 h;⟨C,t,q u,v.le (λj y=>z m j y hp)⟩⟩)
  .exact .inr (.inr (.inr rfl))
 .have:d=.rws sz k b:=hl.symm;exact .inr (.inr (.inl ⟨sz,k,b,this,λr i h=>by rw[l];exact h2 r i h,by rw[l];exact h3,λi h=>let ⟨t,rs,u,v⟩:=h5 i h;⟨t,rs,u,q v⟩⟩))
 .have:d=.gone:=hl.symm;exact .inr (.inr (.inr this))
def zF.ext{g g':Gh}{s s':St}{w w':World}{fl o e:Nat}{x:fq}(d:Ext fl g w g' w')(hi:∀b,g.bA b->b<w.heap.size)
  (l:∀b,x.a=Z ⟨b,0,Y⟩->x.cap≠0->w'.heap[b]?=w.heap[b]?∧(g'.bA b↔g.bA b))
  (m:s'.ob.get o=s.ob.get o) (p:g'.arr o=g.arr o) (h:zF g s w o e x):zF g' s' w' o e x:=by
 refine⟨λq r t=>dy (h.1 q r t) d.size,λob i=>?_⟩;exact(h.2 ob (m▸i)).tr (λh=>h.ext d hi l) (λk j y h=>d.arr k j y h) p
def bh.abJ(hs:bh g s w)(u:g.cg o=Z b){B:List T}(p:s.ob.get o=Z (.box B))(C:s.fl<=o){cs':List T}{vs':Array Value}(hl:cs'.length=vs'.size)
  (I:∀(j:Nat)(t:T)(v:Value),cs'[j]?=Z t->vs'[j]?=Z v->aK g w t v) :
  bh g {s with ob:=s.ob.set aJ o (.box cs')} (w.setRow b vs')∧Ext s.fl g w g (w.setRow b vs'):=by
 have i:bM g o b:=⟨(hs.box o b u).1,.inl u⟩;have r:o<bB:=dy (hs.lt u) hs.aH;have z:Ext s.fl g w g (w.setRow b vs'):=
  ⟨λ_ _ h=>h,λ_ _ _ h=>h,λ_ h=>h,by simp,λk _ K=>setRow_other w b k vs' (λe=>K o C (e▸i)),
   λ_ _ h=>.inl h,λ_ h=>.inl h,rfl,rfl⟩
 refine⟨⟨hs.aH,hs.ai,λm k d=>?_,λm e x G=>?_,λk d=>by simpa using hs.bA k d,hs.lV⟩,z⟩
 .by_cases l:m=o
  .subst l;rw[u]at d;simp at d;subst d;obtain⟨h1,h2,h3⟩:=hs.box m b u;obtain⟨L,ty,h4,h5,h6⟩:=(hs.box m b u).box p;refine⟨h1,by simpa using h2,λM q=>⟨_,setRow_heap w b L vs' ty _ h4,?_⟩⟩;simp only[]at q;rw[Tr.aX _ _ _ _ r,bJ rfl]at q;obtain rfl:=eK q;exact .box _ _ _ hl λj t v O R=>(I j t v O R).ext z hs.bA
  .have H:k≠b:=λe=>l (hs.lV m o b (e▸⟨(hs.box m k d).1,.inl d⟩) i);exact(hs.box m k d).ext z hs.bA (setRow_other w b k vs' H) (by simp only[];rw[Tr.aX _ _ _ _ r,br l]) (hs.box m k d).1
 .have l:m≠o:=by
   rintro rfl
   cases((hs.arr m e x G).2 _ p).oJ
  refine(hs.arr m e x G).ext z hs.bA (λk d S=>⟨setRow_other w b k vs' ?_,qF⟩) (by simp only[];rw[Tr.aX _ _ _ _ r,br l]) rfl
  rintro rfl
  by_cases y:g.bA k
  .exact i.1 y
  .exact l (hs.lV m o k ⟨y,.inr ⟨e,x,_,G,d,rfl,S⟩⟩ i)
def Gh.dg(g:Gh)(o b:Nat):Gh:={g with cg:=λk=>if k=o then Z b else g.cg k}
def n9(w:World)(o:Obj)(b:Nat)(h:b<w.heap.size):(w.alloc o).heap[b]?=w.heap[b]?:=by show(w.heap.push o)[b]?=_;rw[Qd,br (by omega)]
def vC(w:World)(o:Obj):(w.alloc o).heap[w.heap.size]?=Z o:=by show(w.heap.push o)[w.heap.size]?=_;simp
def bh.newObj(hs:bh g s w)(hn:s.aH<bB){ob0:Ob}{x0:Obj}(B:gW g w ob0 x0) :
  bh (g.dg s.aH w.heap.size) (ef s ob0).2 (w.alloc x0)∧Ext s.fl g w (g.dg s.aH w.heap.size) (w.alloc x0):=by
 have i:=hs.ai s.aH (bP _);have p:∀o b,g.cg o=Z b->(g.dg s.aH w.heap.size).cg o=Z b:=λo b h=>by
  have:o≠s.aH:=λe=>by rw[e,i.1]at h;cases h
  simp[Gh.dg,this,h]
 have j:∀o b,bM (g.dg s.aH w.heap.size) o b->bM g o b∨(o=s.aH∧b=w.heap.size):=by
  rintro o b ⟨h1,h2|h2⟩
  .by_cases k:o=s.aH
   .subst k;simp[Gh.dg]at h2;exact .inr ⟨rfl,h2.symm⟩
   .simp[Gh.dg,k]at h2;exact .inl ⟨h1,.inl h2⟩
  .exact .inl ⟨h1,.inr h2⟩
 have r:Ext s.fl g w (g.dg s.aH w.heap.size) (w.alloc x0):=
  ⟨p,λ_ _ _ h=>h,λ_ h=>h,by simp,λb l _=>n9 w _ b l,
   λo b h=>(j o b h).imp id λh=>by omega,λ_ h=>.inl h,rfl,rfl⟩
 refine⟨⟨by simp only[ef];omega,λo k=>?_,λo b l=>?_,λo e x y=>?_,λb l=>?_,λo z b h C=>?_⟩,r⟩
 .simp only[ef]at k;have h1:o≠s.aH:=by omega
  simp only[Gh.dg,h1,eP];exact hs.ai o (by omega)
 .by_cases k:o=s.aH
  .subst k;have t:b=w.heap.size:=by simp[Gh.dg]at l;exact l.symm
   subst t;refine⟨λu=>?_,by simp,λob m=>⟨_,vC w _,?_⟩⟩
   .have:=hs.bA _ u;omega
   .simp only[ef]at m;rw[Tr.aX _ _ _ _ hn,bJ rfl]at m;obtain rfl:=eK m;exact B.ext r hs.bA
  .have v:g.cg o=Z b:=by simpa[Gh.dg,k]using l
   have d:=hs.box o b v;exact d.ext r hs.bA (n9 w _ b d.2.1) (by simp only[ef];rw[Tr.aX _ _ _ _ hn,br k]) d.1
 .have d:=hs.arr o e x y;have k:o≠s.aH:=λh=>by have q:g.arr o e=Z x:=y;rw[h,i.2 e]at q;cases q
  refine d.ext r hs.bA (λb l G=>⟨n9 w _ b ?_,qF⟩) (by simp only[ef];rw[Tr.aX _ _ _ _ hn,br k]) rfl;exact d.1 _ l G
 .have:=hs.bA b l;simp;omega
 .rcases j o b h with h1|⟨h1,h3⟩<;>rcases j z b C with h2|⟨h2,h4⟩
  .exact hs.lV o z b h1 h2
  .have:=(hs.qJ h1).1;omega
  .have:=(hs.qJ h2).1;omega
  .rw[h1,h2]
def bh.dg{g:Gh}{s:St}{w:World}(hs:bh g s w)(hn:s.aH<bB){cs:List T}{vs:Array Value}(ty:TypeId)(hl:cs.length=vs.size)
  (b:∀(j:Nat)(t:T)(v:Value),cs[j]?=Z t->vs[j]?=Z v->aK g w t v) :
  bh (g.dg s.aH w.heap.size) (ef s (.box cs)).2 (w.alloc (.cells vs ty))∧Ext s.fl g w (g.dg s.aH w.heap.size) (w.alloc (.cells vs ty)):=
 hs.newObj hn (.box cs vs ty hl b)
end
section
def Gh.era(g:Gh)(o e:Nat)(x:fq):Gh:={g with arr:=λk j=>if k=o∧j=e then Z x else g.arr k j}
def Gh.fy(g:Gh)(o e:Nat)(x:fq):(g.era o e x).arr o e=Z x:=by simp[Gh.era]
def Gh.cq(g:Gh)(o e k j:Nat)(x:fq)(h:¬(k=o∧j=e)):(g.era o e x).arr k j=g.arr k j:=by simp[Gh.era,h]
variable {g:Gh}{s:St}{w w':World}{o e sz:Nat}{es es':List D}{x:fq}
def bh.ano(hs:bh g s w){x':fq}(ho:s.ob.get o=Z (.arr sz es e))(R:g.arr o e=Z x)
  (hfl:s.fl<=o) (hos:w'.os=w.os) (S:w'.output=w.output) (m:w.heap.size<=w'.heap.size)
  (p:∀b,b<w.heap.size->¬x.at b->w'.heap[b]?=w.heap[b]?)
  (U:∀b,x'.at b->b<w'.heap.size∧(w.heap.size<=b∨x.at b))
  (hok:uV (g.era o (e+1) x') w' J sz es' x') (X:x'.sz=sz) :
  bh (g.era o (e+1) x') {s with ob:=s.ob.set aJ o (.arr sz es' (e+1))} w'∧Ext s.fl g w (g.era o (e+1) x') w':=by
 have G:o<bB:=dy (hs.lt' R) hs.aH;obtain⟨VJ,acp⟩:=hs.m9 (fz:=J) ho R;have q:∀M,e<M->g.arr o M=Y:=by obtain⟨fz,K,era,h1,_,h3,_⟩:=(hs.arr o e x R).old _ ho rfl;have L:fB J sz es e=fB fz x.sz K era:=h1;obtain⟨_,_,_,rfl⟩:=jO L;exact h3
 have z:∀b,x.at b->¬g.bA b:=by
  rintro b ⟨C,h1,rfl,h3⟩ H
  obtain⟨b',_,_,k1,k2,_⟩:=VJ.mem h3;rw[h1]at k1;simp only[bg]at k1;subst k1;exact Bool.noConfusion (k2.2 H)
 have i:∀b,x.at b->bM g o b:=λb v=>by obtain⟨C,h1,h2,h3⟩:=v;exact⟨z b ⟨C,h1,h2,h3⟩,.inr ⟨e,x,C,R,h1,h2,h3⟩⟩
 have Jn:∀k j y,g.arr k j=Z y->(g.era o (e+1) x').arr k j=Z y:=λk j y h=>by
  rw[Gh.cq]
  .exact h
  .rintro ⟨rfl,rfl⟩
   rw[q _ (by omega)]at h;cases h
 have hown:∀k b,bM (g.era o (e+1) x') k b->bM g k b∨(k=o∧x'.at b):=by
  rintro k b ⟨h1,h2|⟨j,y,C,h2,h3,h4,h5⟩⟩
  .exact .inl ⟨h1,.inl h2⟩
  .by_cases hkj:k=o∧j=e+1
   .obtain ⟨rfl,rfl⟩:=hkj;rw[Gh.fy]at h2;simp only[bg]at h2;subst h2;exact .inr ⟨rfl,C,h3,h4,h5⟩
   .rw[Gh.cq _ _ _ _ _ _ hkj]at h2;exact .inl ⟨h1,.inr ⟨j,y,C,h2,h3,h4,h5⟩⟩
 have r:∀k b,bM (g.era o (e+1) x') k b->bM g k b∨(k=o∧w.heap.size<=b):=λk b h=>by
  rcases hown k b h with h1|⟨h0,h1⟩
  .exact .inl h1
  .rcases (U b h1).2 with h2|h2
   .exact .inr ⟨h0,h2⟩
   .exact .inl (h0▸i b h2)
 have he:Ext s.fl g w (g.era o (e+1) x') w':=
  ⟨λ_ _ h=>h,Jn,λ_ h=>h,m,λb v hn=>p b v λu=>hn o hfl (i b u),λk b h=>(r k b h).imp id (·.2),λ_ h=>.inl h,hos,S⟩
 refine⟨⟨hs.aH,λk hk=>⟨(hs.ai k hk).1,λj=>?_⟩,λk b v=>?_,λk j y hy=>?_,λb v=>dy (hs.bA b v) m,λk k' b h h'=>?_⟩,he⟩
 .rw[Gh.cq]
  .exact (hs.ai k hk).2 j
  .rintro ⟨rfl,_⟩
   have:=hs.lt' R;simp only at hk;omega
 .have l:k≠o:=by
   rintro rfl
   exact(hs.box k b v).DM J ho
  have t:=hs.box k b v;refine t.ext he hs.bA (p b t.2.1 λu=>l (hs.lV k o b ⟨t.1,.inl v⟩ (i b u))) (by simp only[];rw[Tr.aX _ _ _ _ G,br l]) t.1
 .by_cases l:k=o
  .subst l;by_cases hj:j=e+1
   .subst hj;rw[Gh.fy]at hy;simp only[bg]at hy;subst hy;refine⟨λC ha O=>(U _ ⟨C,ha,rfl,O⟩).1,λob d=>.inl ⟨J,es',e+1,?_,bP _,λM h=>?_,λ_=>X▸hok⟩⟩
    .simp only[]at d;rw[Tr.aX _ _ _ _ G,bJ rfl]at d;rw[<-eK d];simp only[fB,X];rfl
    .rw[Gh.cq _ _ _ _ _ _ (by omega)];exact q M (by omega)
   .have B:g.arr k j=Z y:=by rwa [Gh.cq _ _ _ _ _ _ (by omega)]at hy
    have h4:=(hs.arr k j y B).1;obtain⟨fz,K,era,h1,h2,h3,_⟩:=(hs.arr k j y B).old _ ho rfl;have L:fB J sz es e=fB fz y.sz K era:=h1;obtain⟨_,aln,_,rfl⟩:=jO L;refine⟨λC ha O=>dy (h4 C ha O) m,λob d=>.inl ⟨J,es',e+1,?_,by omega,λM h=>?_,λh=>by omega⟩⟩
    .simp only[]at d;rw[Tr.aX _ _ _ _ G,bJ rfl]at d;rw[<-eK d];simp only[fB,<-aln];rfl
    .rw[Gh.cq _ _ _ _ _ _ (by omega)];exact q M (by omega)
  .have B:g.arr k j=Z y:=by rwa [Gh.cq _ _ _ _ _ _ (λh=>l h.1)]at hy
   have I:=hs.arr k j y B;refine I.ext he hs.bA (λb v O=>⟨?_,qF⟩) (by simp only[];rw[Tr.aX _ _ _ _ G,br l]) (funext λj=>Gh.cq _ _ _ _ _ _ (λh=>l h.1));refine p b (I.1 _ v O) λu=>?_;by_cases H:g.bA b
   .exact z b u H
   .exact l (hs.lV k o b ⟨H,.inr ⟨j,y,_,B,v,rfl,O⟩⟩ (i b u))
 .rcases r k b h with h1|⟨h1,h3⟩<;>rcases r k' b h' with h2|⟨h2,h4⟩
  .exact hs.lV k k' b h1 h2
  .have:=(hs.qJ h1).1;omega
  .have:=(hs.qJ h2).1;omega
  .rw[h1,h2]
def bh.N1(hs:bh g s w)(hn:s.aH<bB)
  (I:w'.os=w.os) (B:w'.output=w.output) (i:w.heap.size<=w'.heap.size)
  (e:∀b,b<w.heap.size->w'.heap[b]?=w.heap[b]?) (O:∀b,x.at b->w.heap.size<=b∧b<w'.heap.size)
  (K:uV (g.era s.aH 0 x) w' J sz es x) (C:x.sz=sz) :
  bh (g.era s.aH 0 x) (ef s (.arr sz es 0)).2 w'∧Ext s.fl g w (g.era s.aH 0 x) w':=by
 have d:=hs.ai s.aH (bP _);have G:∀k j y,g.arr k j=Z y->(g.era s.aH 0 x).arr k j=Z y:=λk j y h=>by
  rw[Gh.cq]
  .exact h
  .rintro ⟨rfl,_⟩
   rw[d.2]at h;cases h
 have l:∀k b,bM (g.era s.aH 0 x) k b->bM g k b∨(k=s.aH∧w.heap.size<=b):=by
  rintro k b ⟨h1,h2|⟨j,y,H,h2,h3,h4,h5⟩⟩
  .exact .inl ⟨h1,.inl h2⟩
  .by_cases m:k=s.aH∧j=0
   .obtain ⟨rfl,rfl⟩:=m;rw[Gh.fy]at h2;simp only[bg]at h2;subst h2;exact .inr ⟨rfl,(O b ⟨H,h3,h4,h5⟩).1⟩
   .rw[Gh.cq _ _ _ _ _ _ m]at h2;exact .inl ⟨h1,.inr ⟨j,y,H,h2,h3,h4,h5⟩⟩
 have L:Ext s.fl g w (g.era s.aH 0 x) w':=
  ⟨λ_ _ h=>h,G,λ_ h=>h,i,λb u _=>e b u,λk b h=>(l k b h).imp id (·.2),λ_ h=>.inl h,I,B⟩
 refine⟨⟨by simp only[ef];omega,λk S=>?_,λk b u=>?_,λk j y v=>?_,λb u=>dy (hs.bA b u) i,λk R b h U=>?_⟩,L⟩
 .simp only[ef]at S;refine⟨(hs.ai k (by omega)).1,λj=>?_⟩;rw[Gh.cq _ _ _ _ _ _ (by omega)];exact(hs.ai k (by omega)).2 j
 .have z:g.cg k=Z b:=u;have p:=hs.box k b z;have r:k≠s.aH:=λh=>by rw[h,d.1]at z;cases z
  exact p.ext L hs.bA (e b p.2.1) (by simp only[ef];rw[Tr.aX _ _ _ _ hn,br r]) p.1
 .by_cases m:k=s.aH∧j=0
  .obtain ⟨rfl,rfl⟩:=m;rw[Gh.fy]at v;simp only[bg]at v;subst v;refine⟨λH X M=>(O _ ⟨H,X,rfl,M⟩).2,λob q=>.inl ⟨J,es,0,?_,bP _,λe' h=>?_,λ_=>C▸K⟩⟩
   .simp only[ef]at q;rw[Tr.aX _ _ _ _ hn,bJ rfl]at q;rw[<-eK q];simp only[fB,C];rfl
   .rw[Gh.cq _ _ _ _ _ _ (by omega)];exact d.2 e'
  .rw[Gh.cq _ _ _ _ _ _ m]at v;have r:k≠s.aH:=λh=>by rw[h,d.2]at v;cases v
   have t:=hs.arr k j y v;refine t.ext L hs.bA (λb u M=>⟨?_,qF⟩) (by simp only[ef];rw[Tr.aX _ _ _ _ hn,br r]) (funext λj=>Gh.cq _ _ _ _ _ _ (λh=>r h.1));exact e b (t.1 _ u M)
 .rcases l k b h with h1|⟨h1,h3⟩<;>rcases l R b U with h2|⟨h2,h4⟩
  .exact hs.lV k R b h1 h2
  .have:=(hs.qJ h1).1;omega
  .have:=(hs.qJ h2).1;omega
  .rw[h1,h2]
def bh.abP(hs:bh g s w){b:Nat}(I:s.ob.get o=Z (.arr sz es e))(C:g.arr o e=Z x)
  (K:s.fl<=o) (hb:x.at b) {vs':Array Value} (L:uV g (w.setRow b vs') J sz es' x) :
  bh g {s with ob:=s.ob.set aJ o (.arr sz es' e)} (w.setRow b vs')∧Ext s.fl g w g (w.setRow b vs'):=by
 have r:o<bB:=dy (hs.lt' C) hs.aH;obtain⟨v,acp⟩:=hs.m9 (fz:=J) I C;have i:¬g.bA b:=by obtain⟨G,h1,rfl,h3⟩:=hb;intro M;obtain⟨H,_,_,O,k2,_⟩:=v.mem h3;rw[h1]at O;simp only[bg]at O;subst O;exact Bool.noConfusion (k2.2 M)
 have l:bM g o b:=by obtain⟨G,h1,h2,h3⟩:=hb;exact⟨i,.inr ⟨e,x,G,C,h1,h2,h3⟩⟩
 have R:Ext s.fl g w g (w.setRow b vs'):=
  ⟨λ_ _ h=>h,λ_ _ _ h=>h,λ_ h=>h,by simp,λH _ hn=>setRow_other w b H vs' (λe=>hn o K (e▸l)),
   λ_ _ h=>.inl h,λ_ h=>.inl h,rfl,rfl⟩
 refine⟨⟨hs.aH,hs.ai,λk c t=>?_,λk j y u=>?_,λH S=>by simpa using hs.bA H S,hs.lV⟩,R⟩
 .have d:k≠o:=by
   rintro rfl
   exact(hs.box k c t).DM J I
  have m:=hs.box k c t;exact m.ext R hs.bA (setRow_other w b c vs' λe=>d (hs.lV k o c ⟨m.1,.inl t⟩ (e▸l))) (by simp only[];rw[Tr.aX _ _ _ _ r,br d]) m.1
 .by_cases d:k=o
  .subst d;have h4:=(hs.arr k j y u).1;obtain⟨fz,U,era,h1,h2,h3,_⟩:=(hs.arr k j y u).old _ I rfl;have X:fB J sz es e=fB fz y.sz U era:=h1;obtain⟨_,q,_,rfl⟩:=jO X;refine⟨λG ha t=>by simpa using h4 G ha t,λob p=>.inl ⟨J,es',e,?_,h2,h3,λhje=>?_⟩⟩
   .simp only[]at p;rw[Tr.aX _ _ _ _ r,bJ rfl]at p;rw[<-eK p];simp only[fB,<-q];rfl
   .subst hje;rw[C]at u;simp only[bg]at u;subst u;exact q▸L
  .have z:=hs.arr k j y u;refine z.ext R hs.bA (λc t B=>⟨setRow_other w b c vs' ?_,qF⟩) (by simp only[];rw[Tr.aX _ _ _ _ r,br d]) rfl
   rintro rfl
   exact d (hs.lV k o c ⟨i,.inr ⟨j,y,_,u,t,rfl,B⟩⟩ l)
def Gh.jX(g:Gh)(P:Nat->Prop):Gh:={g with bA:=λb=>g.bA b∨P b}
def bh.ZD(hs:bh g s w)(X:s.ob.get o=Z (.arr sz es e))(S:g.arr o e=Z x)
  (hfl:s.fl<=o) :
  bh (g.jX x.at) {s with ob:=s.ob.set aJ o (.jX sz es e)} w∧Ext s.fl g w (g.jX x.at) w:=by
 have C:o<bB:=dy (hs.lt' S) hs.aH;obtain⟨l,acp⟩:=hs.m9 (fz:=J) X S;have G:∀b,x.at b->¬g.bA b:=by
  rintro b ⟨ad,h1,rfl,h3⟩ q
  obtain⟨b',_,_,L,k2,_⟩:=l.mem h3;rw[h1]at L;simp only[bg]at L;subst L;exact Bool.noConfusion (k2.2 q)
 have m:∀b,x.at b->bM g o b:=λb H=>by obtain⟨ad,h1,h2,h3⟩:=H;exact⟨G b ⟨ad,h1,h2,h3⟩,.inr ⟨e,x,ad,S,h1,h2,h3⟩⟩
 have t:∀k b,bM (g.jX x.at) k b->bM g k b∧¬x.at b:=λk b h=>⟨⟨λhi=>h.1 (.inl hi),h.2⟩,λhi=>h.1 (.inr hi)⟩;have U:Ext s.fl g w (g.jX x.at) w:=
  ⟨λ_ _ h=>h,λ_ _ _ h=>h,λ_ h=>.inl h,bP _,λ_ _ _=>rfl,λk b h=>.inl (t k b h).1,
   λb h=>h.imp id λh=>.inr ⟨o,hfl,m b h⟩,rfl,rfl⟩
 refine⟨⟨hs.aH,hs.ai,λk c B=>?_,λk j y M=>?_,λb H=>?_,λk k' b h h'=>hs.lV k k' b (t k b h).1 (t k' b h').1⟩,U⟩
 .have r:k≠o:=by
   rintro rfl
   exact(hs.box k c B).DM J X
  have u:=hs.box k c B;refine u.ext U hs.bA rfl (by simp only[];rw[Tr.aX _ _ _ _ C,br r]) ?_
  rintro(q|I)
  .exact u.1 q
  .exact r (hs.lV k o c ⟨u.1,.inl B⟩ (m c I))
 .by_cases r:k=o
  .subst r;have h4:=(hs.arr k j y M).1;obtain⟨fz,es0,era,h1,h2,h3,_⟩:=(hs.arr k j y M).old _ X rfl;have h1':fB J sz es e=fB fz y.sz es0 era:=h1;obtain⟨_,p,_,rfl⟩:=jO h1';refine⟨h4,λob z=>.inl ⟨W,es,e,?_,h2,h3,λhje=>?_⟩⟩
   .simp only[]at z;rw[Tr.aX _ _ _ _ C,bJ rfl]at z;rw[<-eK z];simp only[fB,<-p];rfl
   .subst hje;have K:g.arr k j=Z y:=M;rw[S]at K;simp only[bg]at K;subst K;refine⟨l.len,l.cap,λd hd=>p▸l.rows d hd,p▸l.pos,l.X2,l.emp,λB=>?_⟩;obtain⟨b,vs,ty,L,_,k3,k4,k5⟩:=l.mem B;exact⟨b,vs,ty,L,⟨λ_=>.inr ⟨_,L,rfl,B⟩,λ_=>rfl⟩,k3,p▸k4,λi d j c hd hj=>let ⟨v,hv,hr⟩:=k5 i d j c hd hj;⟨v,p▸hv,hr.ext U hs.bA⟩⟩
  .have O:=hs.arr k j y M;refine O.ext U hs.bA (λc B R=>⟨rfl,⟨λh=>h.elim id λI=>?_,.inl⟩⟩) (by simp only[];rw[Tr.aX _ _ _ _ C,br r]) rfl;by_cases q:g.bA c
   .exact q
   .exact absurd (hs.lV k o c ⟨q,.inr ⟨j,y,_,M,B,rfl,R⟩⟩ (m c I)) r
 .rcases H with H|H
  .exact hs.bA b H
  .exact (hs.qJ (m b H)).1
end
section
def p7:∀{r d i b:Nat},rc r i=rc d b->r=d∧i=b
 |0,0,i,b,h=>by simp[rc]at h;exact⟨rfl,by omega⟩
 |0,d+1,i,b,h=>by simp only[rc,Nat.pow_zero,tL,Nat.pow_succ,wZ _ 2,KT]at h;omega
 |r+1,0,i,b,h=>by simp only[rc,Nat.pow_zero,tL,Nat.pow_succ,wZ _ 2,KT]at h;omega
 |r+1,d+1,i,b,h=>by
  have:rc r i=rc d b:=by simp only[rc,Nat.pow_succ,wZ _ 2,KT]at h ⊢;exact Nat.eq_of_mul_eq_mul_left (by omega:0<2) h
  have:=p7 this;exact⟨by omega,this.2⟩
variable {g:Gh}{s:St}{w:World}{o e nj sz era m gE r i j szr k:Nat}{es:List D}{hole:Option Nat}{x y:fq}{hl:List Value}{hU:List (List D)}{fz:Bool}{I:Nat->Prop}{d:D}{ys:List fq}
def bh.V4{s':St}(hs:bh g s w)(hn:s'.aH=s.aH)(i:∀o,s'.ob.get o=s.ob.get o):bh g s' w:=
 ⟨hn▸hs.aH,λo h=>hs.ai o (hn▸h),λo b h=>let ⟨h1,h2,h3⟩:=hs.box o b h;⟨h1,h2,λob d=>h3 ob (i o▸d)⟩,λo e x h=>let ⟨h1,h2⟩:=hs.arr o e x h;⟨h1,λob d=>h2 ob (i o▸d)⟩,hs.bA,hs.lV⟩
def bh.yI(hs:bh g s w){ob:Ob}(d:s.ob.get o=Z ob)(hi:ob.oJ=W):g.cg o=Y:=by cases h:g.cg o with|none=>rfl|some b=>obtain⟨x,_,h2⟩:=(hs.box o b h).2.2 ob d;have:=h2.DM;rw[hi]at this;cases this
def bh.z6(hs:bh g s w)(k:s.ob.get o=Z (.kj nj sz es era m gE hole))(l:g.arr o e=Z x) :
  x.sz=sz∧e<=era∧(∀i,era<i->g.arr o i=Y)∧(e=era->∃hl,hl.length=es.length∧uV g w J sz (lits nj es hl) x∧Gy g m gE hole hl):=by
 rcases(hs.arr o e x l).2 _ k with⟨fz,_,_,h,_⟩|⟨p,q,j,r,b,d,h,h2,h3,h4⟩|⟨_,_,_,h,_⟩|h
 .cases fz<;>cases h
 .cases h;exact⟨rfl,h2,h3,h4⟩
 .cases h
 .cases h
def bh.view(hs:bh g s w)(p:s.ob.get o=Z (.kj nj sz es era m gE hole))(q:g.arr o era=Z x) :
  ∃hl,hl.length=es.length∧uV g w J sz (lits nj es hl) x∧Gy g m gE hole hl∧bh g {s with ob:=s.ob.set aJ o (.arr sz (lits nj es hl) era)} w:=by
 have j:o<bB:=dy (hs.lt' q) hs.aH;obtain⟨_,_,_,h4⟩:=hs.z6 p q;obtain⟨hl,h5,h6,B⟩:=h4 rfl;have r:=hs.yI p rfl;refine⟨hl,h5,h6,B,hs.aH,hs.ai,λk b t=>?_,λk e y l=>?_,hs.bA,hs.lV⟩
 .have i:k≠o:=by rintro rfl;rw[r]at t;cases t
  obtain⟨u,v,C⟩:=hs.box k b t;refine⟨u,v,λob d=>C ob ?_⟩;simp only[]at d;rwa [Tr.aX _ _ _ _ j,br i]at d
 .obtain ⟨u,v⟩:=hs.arr k e y l;refine⟨u,λob d=>?_⟩;simp only[]at d;rw[Tr.aX _ _ _ _ j]at d;by_cases i:k=o
  .subst i;rw[bJ rfl]at d;obtain rfl:=eK d;obtain⟨z,G,H,_⟩:=hs.z6 p l;refine .inl ⟨J,lits nj es hl,era,by rw[z];rfl,G,H,λI=>?_⟩;subst I;rw[q]at l;cases l;rw[z];exact h6
  .rw[br i]at d;exact v ob d
def bh.TU(hs:bh g s w)(j:o<bB)(C:s.ob.get o=Z (.arr sz (lits nj es hl) era))(l:hl.length=es.length)
  (H:Gy g m gE hole hl):bh g {s with ob:=s.ob.set aJ o (.kj nj sz es era m gE hole)} w:=by
 have q:=hs.yI C rfl;refine⟨hs.aH,hs.ai,λk b r=>?_,λk e y G=>?_,hs.bA,hs.lV⟩
 .have i:k≠o:=by rintro rfl;rw[q]at r;cases r
  obtain⟨t,u,I⟩:=hs.box k b r;refine⟨t,u,λob d=>I ob ?_⟩;simp only[]at d;rwa [Tr.aX _ _ _ _ j,br i]at d
 .obtain ⟨t,u⟩:=hs.arr k e y G;refine⟨t,λob d=>?_⟩;simp only[]at d;rw[Tr.aX _ _ _ _ j]at d;by_cases i:k=o
  .subst i;rw[bJ rfl]at d;obtain rfl:=eK d;obtain⟨fz,v,p,h1,h2,h3,h4⟩:=(hs.arr k e y G).old _ C rfl;have z:fB J sz (lits nj es hl) era=fB fz y.sz v p:=h1;obtain⟨rfl,B,rfl,rfl⟩:=jO z;exact .inr (.inl ⟨nj,es,era,m,gE,hole,by rw[B],h2,h3,λK=>⟨hl,l,h4 K,H⟩⟩)
  .rw[br i]at d;exact u ob d
def bh.om(hs:bh g s w)(p:s.ob.get m=Z (.rws sz hU r))(q:g.arr m e=Z y) :
  (∀d i,r<d->g.arr m (rc d i)=Y)∧(∀i j y k,i≠j->g.arr m (rc r i)=Z y->g.arr m (rc r j)=Z k->∀b,y.at b->¬k.at b)∧
   (∀i,e=rc r i->y.sz=sz∧∃rs,hU[i]?=Z rs∧uV g w J sz rs y):=by
 rcases(hs.arr m e y q).2 _ p with⟨fz,_,_,h,_⟩|⟨_,_,_,_,_,_,h,_⟩|⟨t,l,d,h,h2,h3,h4⟩|h
 .cases fz<;>cases h
 .cases h
 .cases h;exact⟨h2,h3,h4⟩
 .cases h
def uV.at_(h:uV g w fz sz es x){b:Nat}(e:x.at b):(fz=W↔g.bA b)∧∃vs ty,x.a=Z ⟨b,0,Y⟩∧w.heap[b]?=Z (.cells vs ty (0,0)):=by obtain⟨k,h1,h2,h3⟩:=e;obtain⟨l,vs,ty,d,i,j,_⟩:=h.mem h3;rw[d]at h1;cases h1;simp only at h2;subst h2;exact⟨i,vs,ty,d,j⟩
def uV.S7(e:uV g w fz sz es x)(s:∀b,g.bA b->I b)(t:∀b,x.at b->I b):ee I w (.sl es) (.slice x.a x.len x.cap):=by
 rw[e.len];by_cases l:x.cap=0
 .have u:es=[]:=by have h1:=e.len;have h2:=e.cap;exact td (by omega)
  subst u;exact .sl [] x.a x.cap sz (λ_ _=>undef) (by simp) (by simp) (by simp) (λh=>absurd rfl h) (λi j d c h=>by simp at h)
 .obtain ⟨b,y,ty,h1,h2,h3,h4,h5⟩:=e.mem l;have r:∀q:Nat×Nat,∃v,∀d c,es[q.1]?=Z d->d.cells[q.2]?=Z c->y[q.1*sz+q.2]?=Z v∧ee I w c v:=by
   rintro⟨i,j⟩
   by_cases hi:i<es.length
   .by_cases p:j<(es[i]).cells.length
    .obtain ⟨v,z,B⟩:=h5 i _ j _ (fP hi) (fP p);refine⟨v,λd c k l=>?_⟩;rw[fP hi]at k;simp only[bg]at k;subst k;rw[fP p]at l;simp only[bg]at l;subst l;exact⟨z,B.mono (λ_ _=>rfl) s⟩
    .refine ⟨undef,λd c k l=>?_⟩;rw[fP hi]at k;simp only[bg]at k;subst k;exact absurd (aF l) p
   .exact ⟨undef,λd c k _=>absurd (aF k) hi⟩
  obtain⟨val,m⟩:=RJ r;refine .sl es x.a x.cap sz (λi j=>val (i,j)) (by have:=e.len;have:=e.cap;omega) e.rows e.X2 (λ_=>⟨_,h1,t b ⟨_,h1,rfl,l⟩,λi j d c k p=>?_⟩) (λi j d c k p=>(m (i,j) d c k p).2);rw[nc,cell?_of_block h3];simpa using(m (i,j) d c k p).1
def xX(l:List D):D.mH l=(l.map D.lby).sum:=by
 induction l with|nil=>rfl|cons a l b=>simp only[D.mH,lI,List.sum_cons,<-b];rfl
def GL{α:Type}{l:List α}{a:α}(h:l[i]?=Z a):l.set i a=l:=by
 apply Le;intro k;rw[Dq];split
 .rename_i e;subst e;rw[h,bJ (tc.1 h).1]
 .rfl
def Vf(b:hl.length=es.length)(h:es[i]?=Z d):∃v,hl[i]?=Z v∧(lits nj es hl)[i]?=Z (iN nj d v):=by have hi:=aF h;refine⟨hl[i]'(by omega),fP _,?_⟩;simp[lits,IT,h,fP (by omega:i<hl.length)]
def lq(b:hl.length=es.length):(lits nj es hl).length=es.length:=by simp[lits];omega
def yU(nj:Nat)(d:D)(rs:List D)(a:Option Addr)(n m:Nat):(yV nj d rs).qu=(iN nj d (.slice a n m)).qu:=by show D.mH _=D.mH _;rw[xX,xX,GS,GS];rfl
def zd{c a:Option Addr}(r:d.cells[j]?=Z (.sl []))(H:ee I w (.sl [iN j d (.slice c 0 0)]) (.slice a 1 1)):ee I w (.sl [d]) (.slice a 1 1):=by
 have p:=aF r;generalize M:(Value.slice a 1 1)=v at H;cases H with
 |sl es a' cap sz val K t z O R=>
 cases M;have hl:(iN j d (.slice c 0 0)).cells=d.cells.set j (.lit (.slice c 0 0)):=rfl;have b:∀(k:Nat)(x:D),d.cells[k]?=Z x->∃m,(iN j d (.slice c 0 0)).cells[k]?=Z m∧∀u,ee I w m u->ee I w x u:=λk x g=>by
  by_cases L:k=j
  .subst L;rw[r]at g;cases g;refine⟨.lit (.slice c 0 0),by rw[hl,KR p],λu B=>?_⟩;cases B;exact .sl [] c 0 0 (λ_ _=>undef) (by simp) (by simp) (by simp) (λh=>absurd rfl h) (λi j d c h=>by simp at h)
  .exact ⟨x,by rw[hl,KQ (λe=>L e.symm)];exact g,λu B=>B⟩
 have q:d.qu=(iN j d (.slice c 0 0)).qu:=by
  cases d with
  |agg s=>
   show D.mH s=D.mH (s.set j (.lit (.slice c 0 0)));rw[xX,xX,GS];have:(s.map D.lby)[j]?=Z 24:=by rw[gK];have C:s[j]?=Z (.sl []):=r;rw[C];rfl
   have G:(D.lit (Value.slice c 0 0)).lby=24:=rfl;rw[G,GL this]
  |_=>
   have S:j=0:=by have:j<1:=p;omega
   subst S;cases r<;>rfl
 refine .sl [d] a 1 sz val (by simp) (λx g=>?_) (λx g=>?_) (λ_=>?_) (λi k x y h1 h2=>?_)
 .rw[kX.1 g,<-t _ (kX.2 rfl),hl,zT]
 .rw[kX.1 g,q];exact z _ (kX.2 rfl)
 .obtain ⟨U,h1,h2,h3⟩:=O (by simp);refine⟨U,h1,h2,λi k x y h1 h2=>?_⟩;cases i with
  |zero=>simp only[rM,bg]at h1;subst h1;obtain⟨m,l,_⟩:=b k y h2;exact h3 0 k _ m rfl l
  |succ i=>simp at h1
 .cases i with
  |zero=>simp only[rM,bg]at h1;subst h1;obtain⟨m,l,X⟩:=b k y h2;exact X _ (R 0 k _ m rfl l)
  |succ i=>simp at h1
def bh.SP(hs:bh g s w)(ho:s.ob.get o=Z (.kj nj sz es era m r Y))(hm:s.ob.get m=Z (.rws szr hU r))
  (hmN:m<bB) (hx:g.arr o era=Z x) (hfl:s.fl<=o) (VP:s.fl<=m) :
  ∃g',bh g' {s with ob:=(s.ob.set aJ m .gone).set aJ o (.jX sz (iV nj es hU) era)} w∧Ext s.fl g w g' w:=by
 have El:o<bB:=dy (hs.lt' hx) hs.aH;have hom:o≠m:=by rintro rfl;rw[ho]at hm;cases hm
 obtain⟨acp,_,hnx,h4⟩:=hs.z6 ho hx;obtain⟨hl,G,t,hL⟩:=h4 rfl
 let R:Nat->Prop:=λb=>x.at b∨∃i y,g.arr m (rc r i)=Z y∧y.at b
 have K:∀b,R b->∃k,s.fl<=k∧(k=o∨k=m)∧bM g k b:=by
  rintro b (hb|⟨i,y,hy,hb⟩)
  .have h1:=(t.at_ hb).1;obtain⟨ad,k1,k2,k3⟩:=hb;exact⟨o,hfl,.inl rfl,λu=>Bool.noConfusion (h1.2 u),.inr ⟨era,x,ad,hx,k1,k2,k3⟩⟩
  .obtain ⟨_,rs,_,hr⟩:=(hs.om hm hy).2.2 i rfl;have h1:=(hr.at_ hb).1;obtain⟨ad,k1,k2,k3⟩:=hb;exact⟨m,VP,.inr rfl,λu=>Bool.noConfusion (h1.2 u),.inr ⟨_,y,ad,hy,k1,k2,k3⟩⟩
 have aaM:∀b,R b->¬g.bA b:=λb hb=>let ⟨_,_,_,hO⟩:=K b hb;hO.1;have L:∀k b,bM (g.jX R) k b->bM g k b∧¬R b:=λk b h=>⟨⟨λhi=>h.1 (.inl hi),h.2⟩,λhi=>h.1 (.inr hi)⟩;have he:Ext s.fl g w (g.jX R) w:=
  ⟨λ_ _ h=>h,λ_ _ _ h=>h,λ_ h=>.inl h,bP _,λ_ _ _=>rfl,λk b h=>.inl (L k b h).1,
   λb h=>h.imp id λh=>.inr (let ⟨k,h1,_,h3⟩:=K b h;⟨k,h1,h3⟩),rfl,rfl⟩
 have cL:∀k,((s.ob.set aJ m .gone).set aJ o (.jX sz (iV nj es hU) era)).get k=if k=o then Z (.jX sz (iV nj es hU) era)else if k=m then Z .gone else s.ob.get k:=λk=>by rw[Tr.aX _ _ _ _ El,Tr.aX _ _ _ _ hmN]
 have acG:=hs.yI ho rfl;have acH:=hs.yI hm rfl;refine⟨g.jX R,⟨hs.aH,hs.ai,λk c X=>?_,λk j y hy=>?_,λb hb=>?_,λk k' b h h'=>hs.lV k k' b (L k b h).1 (L k' b h').1⟩,he⟩
 .have U:g.cg k=Z c:=X;have z:k≠o:=by rintro rfl;rw[acG]at U;cases U
  have I:k≠m:=by rintro rfl;rw[acH]at U;cases U
  have M:=hs.box k c X;refine M.ext he hs.bA rfl (by simp only[];rw[cL,br z,br I]) ?_
  rintro(u|CB)
  .exact M.1 u
  .obtain ⟨k',_,h1,h2⟩:=K c CB;have:=hs.lV k k' c ⟨M.1,.inl X⟩ h2;subst this;exact h1.elim z I
 .have B:g.arr k j=Z y:=hy;by_cases z:k=o
  .subst z;obtain⟨q1,q2,_,_⟩:=hs.z6 ho B;refine⟨(hs.arr k j y B).1,λob p=>?_⟩;simp only[]at p;rw[cL,bJ rfl]at p;obtain rfl:=eK p;refine .inl ⟨W,iV nj es hU,era,by rw[q1];rfl,q2,hnx,λhje=>?_⟩;subst hje;rw[hx]at B;cases B;rw[q1];have H:∀(i:Nat)(d:D),es[i]?=Z d->∃(rs:List D)(q:fq),hU[i]?=Z rs∧hl[i]?=Z (Value.slice q.a q.len q.cap)∧(lits nj es hl)[i]?=Z (iN nj d (.slice q.a q.len q.cap))∧ee (g.jX R).bA w (.sl rs) (.slice q.a q.len q.cap):=by intro i d hd;obtain⟨v,hv,l⟩:=Vf (nj:=nj) G hd;obtain⟨q,hyy,rfl⟩:=hL.2 i v hv (by simp);obtain⟨_,rs,hrs,hra⟩:=(hs.om hm hyy).2.2 i rfl;exact⟨rs,q,hrs,hv,l,hra.S7 (λ_ h=>.inl h) (λb hb=>.inr (.inr ⟨i,q,hyy,hb⟩))⟩
   have O:(iV nj es hU).length=es.length:=by
    rw[iV,List.length_zipWith];rcases yx hU.length es.length with h|h
    .obtain ⟨rs,_,hrs,_⟩:=H hU.length _ (fP h);have:=aF hrs;omega
    .omega
   have C:∀(i:Nat)(f:D),(iV nj es hU)[i]?=Z f->∃d rs,es[i]?=Z d∧hU[i]?=Z rs∧f=yV nj d rs:=by
    intro i f hf;rw[iV,IT]at hf;split at hf
    .rename_i d rs h1 h2;exact⟨d,rs,h1,h2,(eK hf).symm⟩
    .cases hf
   refine⟨by rw[O];have:=t.len;rw[lq G]at this;exact this,t.cap,λf hf=>?_,t.pos,λf hf=>?_,λh=>?_,λX=>?_⟩
   .obtain ⟨i,hi⟩:=Hf hf;obtain⟨d,rs,h1,h2,rfl⟩:=C i f hi;obtain⟨_,_,_,_,l,_⟩:=H i d h1;have:=t.rows _ (gY l);simp only[iN,yV,D.cells,zT]at this ⊢;exact this
   .obtain ⟨i,hi⟩:=Hf hf;obtain⟨d,rs,h1,h2,rfl⟩:=C i f hi;obtain⟨_,q,_,_,l,_⟩:=H i d h1;rw[yU nj d rs q.a q.len q.cap];have hb:=t.X2 _ (gY l);rw[lq G]at hb;rw[O];exact hb
   .refine t.emp ?_;have:es.length=0:=by rw[<-O,h];rfl
    exact td (by rw[lq G];exact this)
   .obtain ⟨b,vs,ty,k1,_,k3,k4,k5⟩:=t.mem X;refine⟨b,vs,ty,k1,⟨λ_=>.inr (.inl ⟨_,k1,rfl,X⟩),λ_=>rfl⟩,k3,k4,λi f jj c hf S=>?_⟩;obtain⟨d,rs,h1,h2,rfl⟩:=C i f hf;obtain⟨rs',q,h2',hv,l,Zs⟩:=H i d h1;rw[h2]at h2';cases h2';by_cases hjn:jj=nj
    .subst hjn;have hlt:jj<d.cells.length:=by have:=aF S;simpa[yV,D.cells]using this
     obtain⟨v,Zf,hv2⟩:=k5 i _ jj (.lit (.slice q.a q.len q.cap)) l (by show(d.cells.set jj _)[jj]?=_;rw[KR hlt]);cases hv2;have hce:c=.sl rs:=by have hj2:(d.cells.set jj (.sl rs))[jj]?=Z c:=S;rw[KR hlt]at hj2;exact(eK hj2).symm
     rw[hce];exact⟨_,Zf,Zs⟩
    .obtain ⟨v,Zf,hv2⟩:=k5 i _ jj c l (by
      simp only[iN,yV,D.cells]at S ⊢;rw[KQ (λe=>hjn e.symm)]at S ⊢;exact S)
     exact⟨v,Zf,hv2.ext he hs.bA⟩
  .by_cases I:k=m
   .subst I;refine⟨(hs.arr k j y B).1,λob p=>?_⟩;simp only[]at p;rw[cL,br z,bJ rfl]at p;obtain rfl:=eK p;exact .inr (.inr (.inr rfl))
   .have Sz:=hs.arr k j y B;refine Sz.ext he hs.bA (λc X hcap=>⟨rfl,⟨λh=>h.elim id λCB=>?_,.inl⟩⟩) (by simp only[];rw[cL,br z,br I]) rfl;by_cases u:g.bA c
    .exact u
    .obtain ⟨k',_,h1,h2⟩:=K c CB;have:=hs.lV k k' c ⟨u,.inr ⟨j,y,_,B,X,rfl,hcap⟩⟩ h2;subst this;exact absurd h1 (λh=>h.elim z I)
 .rcases hb with hb|hb
  .exact hs.bA b hb
  .obtain ⟨k,_,_,h⟩:=K b hb;exact(hs.qJ h).1
structure Rh(g:Gh)(w:World)(n:Nat)(es:List D)(x:fq)(v:Value)(w':World)(x':fq):Prop where
 val:v=.slice x'.a x'.len x'.cap
 sz:x'.sz=n
 os:w'.os=w.os
 output:w'.output=w.output
 size:w.heap.size<=w'.heap.size
 heap:∀b,b<w.heap.size->¬x.at b->w'.heap[b]?=w.heap[b]?
 at_:∀b,x'.at b->b<w'.heap.size∧(w.heap.size<=b∨x.at b)
 ok:uV g w' J n es x'
noncomputable def Gh.mY(g:Gh)(m r i:Nat)(y:fq):Gh:=by
 classical
 exact{g with arr:=λk j=>if k=m then(if h:∃b,j=rc (r+1) b then(if h.choose=i then Z y else g.arr m (rc r h.choose))else g.arr m j)else g.arr k j}
def Gh.jD(h:k≠m):(g.mY m r i y).arr k=g.arr k:=by
 funext j
 simp[Gh.mY,h]
def Gh.oq(d:Nat):(g.mY m r i y).arr m (rc (r+1) d)=if d=i then Z y else g.arr m (rc r d):=by have b:∃e,rc (r+1) d=rc (r+1) e:=⟨d,rfl⟩;have j:b.choose=d:=(p7 b.choose_spec).2.symm;simp only[Gh.mY,fR,dif_pos b,j]
def Gh.wW(h:∀k,j≠rc (r+1) k):(g.mY m r i y).arr m j=g.arr m j:=by have d:¬∃b,j=rc (r+1) b:=λ⟨b,e⟩=>h b e;simp only[Gh.mY,fR,dif_neg d]
def bh.Z3{w':World}(hs:bh g s w){y':fq}{v:Value}{H:List D}(ho:s.ob.get o=Z (.kj nj sz es era m r Y))
  (hm:s.ob.get m=Z (.rws szr hU r)) (hoN:o<bB) (hy:g.arr m (rc r i)=Z y) (hp:Rh g w szr H y v w' y') (VP:s.fl<=m) :
  bh (g.mY m r i y') {s with ob:=(s.ob.set aJ m (.rws szr (hU.set i H) (r+1))).set aJ o (.kj nj sz es era m (r+1) (Z i))} w'∧Ext s.fl g w (g.mY m r i y') w':=by
 have hmN:m<bB:=dy (hs.lt' hy) hs.aH;have hom:o≠m:=by rintro rfl;rw[ho]at hm;cases hm
 obtain⟨O,q,hrow⟩:=hs.om hm hy;obtain⟨_,rs0,Zi,alU⟩:=hrow i rfl;have hilt:=aF Zi;have hyO:∀b,y.at b->bM g m b:=λb p=>by have h1:=(alU.at_ p).1;obtain⟨I,k1,k2,k3⟩:=p;exact⟨λSC=>Bool.noConfusion (h1.2 SC),.inr ⟨_,y,I,hy,k1,k2,k3⟩⟩
 have Jn:∀k j z,g.arr k j=Z z->(g.mY m r i y').arr k j=Z z:=λk j z h=>by
  by_cases L:k=m
  .subst L;rw[Gh.wW (λd e=>by rw[e,O (r+1) d (by omega)]at h;cases h)];exact h
  .rw[Gh.jD L];exact h
 have t:∀k j z,(g.mY m r i y').arr k j=Z z->(k=m∧j=rc (r+1) i∧z=y')∨(k=m∧∃d,d≠i∧j=rc (r+1) d∧g.arr m (rc r d)=Z z)∨((∀d,k=m->j≠rc (r+1) d)∧g.arr k j=Z z):=λk j z h=>by
  by_cases L:k=m
  .subst L;by_cases hj:∃d,j=rc (r+1) d
   .obtain ⟨d,rfl⟩:=hj;rw[Gh.oq]at h;split at h
    .rename_i hii;subst hii;exact .inl ⟨rfl,rfl,(eK h).symm⟩
    .rename_i hii;exact .inr (.inl ⟨rfl,d,hii,rfl,h⟩)
   .rw[Gh.wW (λd e=>hj ⟨d,e⟩)]at h;exact .inr (.inr ⟨λd _ e=>hj ⟨d,e⟩,h⟩)
  .rw[Gh.jD L]at h;exact .inr (.inr ⟨λd e=>absurd e L,h⟩)
 have R:∀k b,bM (g.mY m r i y') k b->bM g k b∨(k=m∧w.heap.size<=b):=by
  rintro k b ⟨h1,h2|⟨j,z,I,h2,h3,h4,h5⟩⟩
  .exact .inl ⟨h1,.inl h2⟩
  .rcases t k j z h2 with⟨rfl,_,rfl⟩|⟨rfl,d,_,_,h⟩|⟨_,h⟩
   .rcases (hp.at_ b ⟨I,h3,h4,h5⟩).2 with h|h
    .exact .inr ⟨rfl,h⟩
    .exact .inl (hyO b h)
   .exact .inl ⟨h1,.inr ⟨_,z,I,h,h3,h4,h5⟩⟩
   .exact .inl ⟨h1,.inr ⟨j,z,I,h,h3,h4,h5⟩⟩
 have he:Ext s.fl g w (g.mY m r i y') w':=
  ⟨λ_ _ h=>h,Jn,λ_ h=>h,hp.size,λb p hn=>hp.heap b p λu=>hn m VP (hyO b u),λk b h=>(R k b h).imp id (·.2),λ_ h=>.inl h,hp.os,hp.output⟩
 have cL:∀k,((s.ob.set aJ m (.rws szr (hU.set i H) (r+1))).set aJ o (.kj nj sz es era m (r+1) (Z i))).get k=if k=o then Z (.kj nj sz es era m (r+1) (Z i))else if k=m then Z (.rws szr (hU.set i H) (r+1))else s.ob.get k:=λk=>by rw[Tr.aX _ _ _ _ hoN,Tr.aX _ _ _ _ hmN]
 have acG:=hs.yI ho rfl;have acH:=hs.yI hm rfl;have S:∀k j z,g.arr k j=Z z->k≠m->∀b,z.a=Z ⟨b,0,Y⟩->z.cap≠0->w'.heap[b]?=w.heap[b]?:=λk j z M L b p B=>by refine hp.heap b ((hs.arr k j z M).1 _ p B) λu=>?_;have hO:=hyO b u;exact L (hs.lV k m b ⟨hO.1,.inr ⟨j,z,_,M,p,rfl,B⟩⟩ hO)
 refine⟨⟨hs.aH,λk L=>⟨(hs.ai k L).1,λj=>?_⟩,λk b p=>?_,λk j z M=>?_,λb p=>dy (hs.bA b p) hp.size,λk k' b h h'=>?_⟩,he⟩
 .rw[Gh.jD (by rintro rfl;have:=hs.lt' hy;simp only at L;omega)];exact(hs.ai k L).2 j
 .have K:g.cg k=Z b:=p;have hko:k≠o:=by rintro rfl;rw[acG]at K;cases K
  have l:k≠m:=by rintro rfl;rw[acH]at K;cases K
  have G:=hs.box k b K;exact G.ext he hs.bA (hp.heap b G.2.1 λu=>l (hs.lV k m b ⟨G.1,.inl K⟩ (hyO b u))) (by simp only[];rw[cL,br hko,br l]) G.1
 .by_cases l:k=m
  .subst l;refine⟨λI ha B=>?_,λob C=>?_⟩
   .rcases t k j z M with⟨_,_,rfl⟩|⟨_,d,_,_,h⟩|⟨_,h⟩
    .exact (hp.at_ _ ⟨I,ha,rfl,B⟩).1
    .exact dy ((hs.arr k _ z h).1 I ha B) hp.size
    .exact dy ((hs.arr k _ z h).1 I ha B) hp.size
   .simp only[]at C;rw[cL,br (λe=>hom e.symm),bJ rfl]at C;obtain rfl:=eK C;refine .inr (.inr (.inl ⟨szr,hU.set i H,r+1,rfl,λr' d hr'=>?_,λi1 i2 y1 y2 U h1 h2 b Jm qg=>?_,λd hj=>?_⟩))
    .rw[Gh.wW (λi'' e=>by have:=(p7 e).1;omega)];exact O r' d (by omega)
    .rw[Gh.oq]at h1 h2;have mix:∀i3 y3,i3≠i->g.arr k (rc r i3)=Z y3->∀b,y'.at b->¬y3.at b:=λi3 y3 hn h3 b p hb3=>by
      rcases(hp.at_ b p).2 with h|h
      .obtain ⟨I,k1,k2,k3⟩:=hb3;have:=(hs.arr k _ y3 h3).1 I k1 k3;omega
      .exact q i i3 y y3 (λe=>hn e.symm) hy h3 b h hb3
     split at h1
     .rename_i e1;cases h1;rw[br (λe=>U (e1.trans e.symm))]at h2;exact mix i2 y2 (λe=>U (e1.trans e.symm)) h2 b Jm qg
     .rename_i e1;split at h2
      .cases h2;exact mix i1 y1 e1 h1 b qg Jm
      .exact q i1 i2 y1 y2 U h1 h2 b Jm qg
    .subst hj;rw[Gh.oq]at M;split at M
     .rename_i e1;subst e1;cases M;exact⟨hp.sz,H,by rw[KR hilt],hp.ok.jT rfl⟩
     .rename_i e1;obtain⟨q1,rs,q2,q3⟩:=(hs.om hm M).2.2 d rfl;refine⟨q1,rs,by rw[KQ (λe=>e1 e.symm)];exact q2,q3.ext he hs.bA (λb p B=>⟨?_,qF⟩)⟩;exact hp.heap b ((hs.arr k _ z M).1 _ p B) (λu=>q i d y z (λe=>e1 e.symm) hy M b u ⟨_,p,rfl,B⟩)
  .have X:g.arr k j=Z z:=by rw[Gh.jD l]at M;exact M
   by_cases hko:k=o
   .subst hko;obtain⟨q1,q2,q3,q4⟩:=hs.z6 ho X;refine⟨λI ha B=>dy ((hs.arr k j z X).1 I ha B) hp.size,λob C=>?_⟩;simp only[]at C;rw[cL,bJ rfl]at C;obtain rfl:=eK C;refine .inr (.inl ⟨nj,es,era,m,r+1,Z i,by rw[q1],q2,λe' h=>by rw[Gh.jD l];exact q3 e' h,λhje=>?_⟩);obtain⟨hl,k1,k2,k3⟩:=q4 hje;refine⟨hl,k1,q1▸(k2.ext he hs.bA (λb p B=>⟨S k j z X l b p B,qF⟩)),k3.1,λd h hh U=>?_⟩;obtain⟨yy,h1,h2⟩:=k3.2 d h hh (by simp);exact⟨yy,by rw[Gh.oq,br (λe=>U (by rw[e]))];exact h1,h2⟩
   .exact (hs.arr k j z X).ext he hs.bA (λb p B=>⟨S k j z X l b p B,qF⟩) (by simp only[];rw[cL,br hko,br l]) (Gh.jD l)
 .rcases R k b h with h1|⟨h1,h3⟩<;>rcases R k' b h' with h2|⟨h2,h4⟩
  .exact hs.lV k k' b h1 h2
  .have:=(hs.qJ h1).1;omega
  .have:=(hs.qJ h2).1;omega
  .rw[h1,h2]
noncomputable def Gh.gD(g:Gh)(m:Nat)(ys:List fq):Gh:=by
 classical
 exact{g with arr:=λk j=>if k=m then(if h:∃i,j=rc 0 i then ys[h.choose]? else Y)else g.arr k j}
def Gh.g9(h:k≠m):(g.gD m ys).arr k=g.arr k:=by
 funext j
 simp[Gh.gD,h]
def Gh.uF(i:Nat):(g.gD m ys).arr m (rc 0 i)=ys[i]?:=by have b:∃d,rc 0 i=rc 0 d:=⟨i,rfl⟩;have e:b.choose=i:=(p7 b.choose_spec).2.symm;simp only[Gh.gD,fR,dif_pos b,e]
def Gh.sB{z:fq}(h:(g.gD m ys).arr m j=Z z):∃i,j=rc 0 i∧ys[i]?=Z z:=by
 by_cases b:∃i,j=rc 0 i
 .obtain ⟨i,rfl⟩:=b;rw[Gh.uF]at h;exact⟨i,rfl,h⟩
 .simp only[Gh.gD,fR,dif_neg b]at h;cases h
def bh.adu(hs:bh g s w)(hn:s.aH<bB)(G:∀y∈ys,∀b,y.at b->b<w.heap.size∧∀o,¬bM g o b)
  (H:∀(i:Nat)(y:fq),ys[i]?=Z y->y.sz=sz∧∃rs,hU[i]?=Z rs∧uV g w J sz rs y) (I:ys.Pairwise λx y=>∀b,x.at b->¬y.at b) :
  bh (g.gD s.aH ys) (ef s (.rws sz hU 0)).2 w∧(∀k j y,g.arr k j=Z y->(g.gD s.aH ys).arr k j=Z y)∧(∀k b,bM (g.gD s.aH ys) k b->bM g k b∨(k=s.aH∧∃y∈ys,y.at b)):=by
 have l:=hs.ai s.aH (bP _);have m:∀k j y,g.arr k j=Z y->(g.gD s.aH ys).arr k j=Z y:=λk j y h=>by
  rw[Gh.g9]
  .exact h
  .rintro rfl
   rw[l.2]at h;cases h
 have p:∀k b,bM (g.gD s.aH ys) k b->bM g k b∨(k=s.aH∧∃y∈ys,y.at b):=by
  rintro k b ⟨h1,h2|⟨j,y,C,h2,h3⟩⟩
  .exact .inl ⟨h1,.inl h2⟩
  .by_cases q:k=s.aH
   .subst q;obtain⟨i,_,hi⟩:=Gh.sB h2;exact .inr ⟨rfl,y,gY hi,C,h3⟩
   .rw[Gh.g9 q]at h2;exact .inl ⟨h1,.inr ⟨j,y,C,h2,h3⟩⟩
 have cL:∀k,(ef s (.rws sz hU 0)).2.ob.get k=if k=s.aH then Z (.rws sz hU 0)else s.ob.get k:=λk=>by simp only[ef];rw[Tr.aX _ _ _ _ hn]
 refine⟨⟨by simp only[ef];omega,λk q=>?_,λk b hb=>?_,λk j y K=>?_,hs.bA,λk L b h h'=>?_⟩,m,p⟩
 .simp only[ef]at q;refine⟨(hs.ai k (by omega)).1,λj=>?_⟩;rw[Gh.g9 (by omega)];exact(hs.ai k (by omega)).2 j
 .have r:g.cg k=Z b:=hb;have M:k≠s.aH:=λh=>by rw[h,l.1]at r;cases r
  obtain⟨O,R,k3⟩:=hs.box k b r;refine⟨O,R,λob d=>?_⟩;rw[cL,br M]at d;obtain⟨x,h1,h2⟩:=k3 ob d;refine⟨x,h1,?_⟩;exact h2.imp (λt v ht=>ht.amK m rfl rfl)
 .by_cases q:k=s.aH
  .subst q;obtain⟨i,rfl,hi⟩:=Gh.sB K;refine⟨λC ha hc=>(G y (gY hi) _ ⟨C,ha,rfl,hc⟩).1,λob d=>?_⟩;rw[cL,bJ rfl]at d;obtain rfl:=eK d;refine .inr (.inr (.inl ⟨sz,hU,0,rfl,λr' i' hr'=>?_,λi1 S y1 y2 U h1 h2 b u B=>?_,λi' hj=>?_⟩))
   .cases h:(g.gD s.aH ys).arr s.aH (rc r' i')with|none=>rfl|some z=>obtain⟨S,e,_⟩:=Gh.sB h;have:=(p7 e).1;omega
   .rw[Gh.uF]at h1 h2;have hp:=RK.1 I;obtain⟨l1,g1⟩:=tc.1 h1;obtain⟨l2,g2⟩:=tc.1 h2;rcases Nat.lt_or_gt_of_ne U with h|h
    .exact hp i1 S l1 l2 h b (g1▸u) (g2▸B)
    .exact hp S i1 l2 l1 h b (g2▸B) (g1▸u)
   .have:=(p7 hj).2;subst this;obtain⟨q1,rs,q2,q3⟩:=H i y hi;exact⟨q1,rs,q2,q3.jT rfl⟩
  .have X:g.arr k j=Z y:=by rw[Gh.g9 q]at K;exact K
   obtain⟨O,R⟩:=hs.arr k j y X;refine⟨O,λob d=>?_⟩;rw[cL,br q]at d;exact(R ob d).tr (λh=>h.jT rfl) m (Gh.g9 q)
 .rcases p k b h with h1|⟨h1,y1,m1,a1⟩<;>rcases p L b h' with h2|⟨h2,y2,m2,a2⟩
  .exact hs.lV k L b h1 h2
  .exact absurd h1 ((G y2 m2 b a2).2 k)
  .exact absurd h2 ((G y1 m1 b a1).2 L)
  .rw[h1,h2]
end
section
variable {g:Gh}{s s':St}{w:World}{o:Nat}{os:List Nat}
def bh.IA(hs:bh g s w){e sz:Nat}{es:List D}{x:fq}(i:s.ob.get o=Z (.jX sz es e))(j:g.arr o e=Z x) :
  ee g.bA w (.sl es) (.slice x.a x.len x.cap):=by
 obtain⟨d,_⟩:=hs.m9 (fz:=W) i j;exact d.S7 (λ_ h=>h) (λb k=>(d.at_ k).1.1 rfl)
def Live(g:Gh)(s:St)(o:Nat):Prop:=o<bB∧((∃e x,g.arr o e=Z x∧((∃fz sz es,s.ob.get o=Z (fB fz sz es e))∨∃nj sz es m r hole,s.ob.get o=Z (.kj nj sz es e m r hole)))∨(∃sz hU r,s.ob.get o=Z (.rws sz hU r))∨s.ob.get o=Z .gone)
def Live.oJ{g:Gh}{s:St}{o:Nat}{ob:Ob}(h:Live g s o)(b:s.ob.get o=Z ob):ob.oJ=W:=by
 rcases h.2 with⟨_,_,_,⟨d,_,_,h⟩|⟨_,_,_,_,_,_,h⟩⟩|⟨_,_,_,h⟩|h
 .rw[b]at h;cases h;cases d<;>rfl
 .rw[b]at h;cases h;rfl
 .rw[b]at h;cases h;rfl
 .rw[b]at h;cases h;rfl
structure jC(s s':St)(os:List Nat):Prop where
 fl:s'.fl=s.fl
 aH:s'.aH=s.aH
 hit:∀o∈os,∀fz sz es e,s.ob.get o=Z (fB fz sz es e)->s'.ob.get o=Z (.jX sz es e)
 jX:∀o sz es e,s.ob.get o=Z (.jX sz es e)->s'.ob.get o=Z (.jX sz es e)
 kj:∀o∈os,∀nj sz es e m r hU,s.ob.get o=Z (.kj nj sz es e m r Y)->FT s m r=Z hU->s'.ob.get o=Z (.jX sz (iV nj es hU) e)
def jC.sub{b:List Nat}(h:jC s s' os)(hs:∀o∈b,o∈os):jC s s' b:=
 ⟨h.fl,h.aH,λo d=>h.hit o (hs o d),h.jX,λo d=>h.kj o (hs o d)⟩
def nY{m r:Nat}{hU:List (List D)}(h:FT s m r=Z hU):∃sz,s.ob.get m=Z (.rws sz hU r):=by
 unfold FT at h;split at h
 .rename_i sz b g d;rcases af h with⟨e,h⟩|⟨_,h⟩
  .cases h;have:=beq_iff'.1 e;subst this;exact⟨sz,d⟩
  .cases h
 .cases h
def uf(h:freeze s (o::os)=Z s'):s.fl<=o∧
  ((∃sz es e,s.ob.get o=Z (.arr sz es e)∧freeze {s with ob:=s.ob.set aJ o (.jX sz es e)} os=Z s')∨
   (∃sz es e,s.ob.get o=Z (.jX sz es e)∧freeze s os=Z s')∨
   (((∃sz hU r,s.ob.get o=Z (.rws sz hU r))∨s.ob.get o=Z .gone)∧freeze s os=Z s')∨
   (∃nj sz es e m r hU g,s.ob.get o=Z (.kj nj sz es e m r Y)∧s.ob.get m=Z (.rws g hU r)∧FT s m r=Z hU∧(m∈os∧s.fl<=m)∧m<bB∧freeze {s with ob:=(s.ob.set aJ m .gone).set aJ o (.jX sz (iV nj es hU) e)} os=Z s')):=by
 simp only[freeze]at h;rcases af h with⟨j,h⟩|⟨_,h⟩
 .refine ⟨fQ j,?_⟩;split at h
  .rename_i sz es e d;exact .inl ⟨sz,es,e,d,h⟩
  .rename_i sz es e d;exact .inr (.inl ⟨sz,es,e,d,h⟩)
  .rename_i nj sz es e m r d;split at h
   .rename_i hU i;rcases af h with⟨b,h⟩|⟨_,h⟩
    .rw[dR]at b;obtain⟨g,k⟩:=nY i;rw[dR]at b;exact .inr (.inr (.inr ⟨nj,sz,es,e,m,r,hU,g,d,k,i,⟨by simpa using b.1,fQ b.2.1⟩,fQ b.2.2,h⟩))
    .cases h
   .cases h
  .rename_i sz hU r d;exact .inr (.inr (.inl ⟨.inl ⟨sz,hU,r,d⟩,h⟩))
  .rename_i d;exact .inr (.inr (.inl ⟨.inr d,h⟩))
  .cases h
 .cases h
def mR:∀{os:List Nat}{s s':St}{m:Nat},freeze s os=Z s'->s.ob.get m=Z .gone->(∀o∈os,o<bB)->∀o∈os,∀nj sz es e r hole,s.ob.get o≠Z (.kj nj sz es e m r hole)
 |[],_,_,_,_,_,_,o,v,_,_,_,_,_,_=>by cases v
 |g::os,s,s',m,h,t,w,o,v,nj,sz,es,e,r,hole=>λj=>by
  obtain⟨_,h1|h1|h1|h1⟩:=uf h
  .obtain ⟨l,p,G,b,h2⟩:=h1;have u:m≠g:=by rintro rfl;rw[t]at b;cases b
   have d:o≠g:=by rintro rfl;rw[j]at b;cases b
   have cL:∀k,k≠g->({s with ob:=s.ob.set aJ g (.jX l p G)}:St).ob.get k=s.ob.get k:=λk i=>by show(s.ob.set aJ g _).get k=_;rw[Tr.aX _ _ _ _ (w g (by simp)),br i]
   exact mR h2 (by rw[cL m u];exact t) (λk i=>w k (by simp[i])) o ((eR.1 v).resolve_left d) nj sz es e r hole (by rw[cL o d];exact j)
  .obtain ⟨l,p,G,b,h2⟩:=h1;have d:o≠g:=by rintro rfl;rw[j]at b;cases b
   exact mR h2 t (λk i=>w k (by simp[i])) o ((eR.1 v).resolve_left d) nj sz es e r hole j
  .obtain ⟨b,h2⟩:=h1;have d:o≠g:=by
    rintro rfl
    rcases b with⟨_,_,_,h⟩|h<;>(rw[j]at h;cases h)
   exact mR h2 t (λk i=>w k (by simp[i])) o ((eR.1 v).resolve_left d) nj sz es e r hole j
  .obtain ⟨H,l,p,G,y,M,z,L,b,q,_,_,I,h2⟩:=h1;have B:m≠y:=by rintro rfl;rw[t]at q;cases q
   have u:m≠g:=by rintro rfl;rw[t]at b;cases b
   by_cases d:o=g
   .subst d;rw[j]at b;cases b;exact B rfl
   .have C:o≠y:=by rintro rfl;rw[j]at q;cases q
    have cL:∀k,k≠g->k≠y->({s with ob:=(s.ob.set aJ y .gone).set aJ g (.jX l (iV H p z) G)}:St).ob.get k=s.ob.get k:=λk i K=>by show((s.ob.set aJ y _).set aJ g _).get k=_;rw[Tr.aX _ _ _ _ (w g (by simp)),br i,Tr.aX _ _ _ _ I,br K]
    exact mR h2 (by rw[cL m u B];exact t) (λk i=>w k (by simp[i])) o ((eR.1 v).resolve_left d) nj sz es e r hole (by rw[cL o d C];exact j)
def eo(os:List Nat):∀{g:Gh}{s s':St}{w:World},bh g s w->freeze s os=Z s'->(∀o∈os,Live g s o)->
  ∃g',bh g' s' w∧Ext s.fl g w g' w∧jC s s' os:=by
 induction os with
 |nil=>intro g s s' w U h _;simp[freeze]at h;subst h;exact⟨g,U,Ext.refl _ _ _,⟨rfl,rfl,λo l=>(by cases l),λ_ _ _ _ h=>h,λo l=>(by cases l)⟩⟩
 |cons o os ih=>
  intro g s s' w U h M;have hN:∀k∈o::os,k<bB:=λk p=>(M k p).1;have G:=hN o (by simp);obtain⟨X,h1|h1|h1|h1⟩:=uf h
  .obtain ⟨sz,B,e0,l,h⟩:=h1;obtain⟨x,H⟩:∃x,g.arr o e0=Z x:=by
    rcases(M o (by simp)).2 with⟨e,x,H,⟨z,_,_,h⟩|⟨_,_,_,_,_,_,h⟩⟩|⟨_,_,_,h⟩|h
    .rw[l]at h;have h':fB J sz B e0=_:=eK h;exact⟨x,(jO h').2.2.2▸H⟩
    .rw[l]at h;cases h
    .rw[l]at h;cases h
    .rw[l]at h;cases h
   obtain⟨O,C⟩:=U.ZD l H X;have cL:∀k,({s with ob:=s.ob.set aJ o (.jX sz B e0)}:St).ob.get k=if k=o then Z (.jX sz B e0)else s.ob.get k:=λk=>Tr.aX _ _ _ _ G
   obtain⟨g',v,y,d⟩:=ih O h (λk p=>by
    by_cases b:k=o
    .subst b;exact⟨G,.inl ⟨e0,x,H,.inl ⟨W,sz,B,by rw[cL,bJ rfl];rfl⟩⟩⟩
    .have:=M k (by simp[p]);unfold Live at this ⊢;rw[cL,br b];exact this)
   refine⟨g',v,C.trans y,⟨d.fl,d.aH,λk p z i j q h1=>?_,λk i j q h1=>?_,λk p L i j q m r u h1 h2=>?_⟩⟩
   .by_cases b:k=o
    .subst b;rw[l]at h1;have R:fB J sz B e0=_:=eK h1;obtain⟨_,rfl,rfl,rfl⟩:=jO R;exact d.jX k sz B e0 (by rw[cL,bJ rfl])
    .exact d.hit k ((eR.1 p).resolve_left b) z i j q (by rw[cL,br b];exact h1)
   .have b:k≠o:=by
     rintro rfl
     rw[l]at h1;cases h1
    exact d.jX k i j q (by rw[cL,br b];exact h1)
   .have b:k≠o:=by rintro rfl;rw[l]at h1;cases h1
    obtain⟨szr,I⟩:=nY h2;have K:m≠o:=by rintro rfl;rw[l]at I;cases I
    exact d.kj k ((eR.1 p).resolve_left b) L i j q m r u (by rw[cL,br b];exact h1) (by simp only[FT];rw[cL,br K];exact h2)
  .obtain ⟨sz,B,e,l,h⟩:=h1;obtain⟨g',v,y,d⟩:=ih U h (λk p=>M k (by simp[p]));refine⟨g',v,y,⟨d.fl,d.aH,λk p z i j q h1=>?_,d.jX,λk p L i j q m r u h1 h2=>?_⟩⟩
   .rcases eR.1 p with rfl|p
    .rw[l]at h1;have R:fB W sz B e=_:=eK h1;obtain⟨_,rfl,rfl,rfl⟩:=jO R;exact d.jX k sz B e l
    .exact d.hit k p z i j q h1
   .have b:k≠o:=by rintro rfl;rw[l]at h1;cases h1
    exact d.kj k ((eR.1 p).resolve_left b) L i j q m r u h1 h2
  .obtain ⟨l,h⟩:=h1;obtain⟨g',v,y,d⟩:=ih U h (λk p=>M k (by simp[p]));refine⟨g',v,y,⟨d.fl,d.aH,λk p z i j q h1=>?_,d.jX,λk p L i j q m r u h1 h2=>?_⟩⟩
   .have b:k≠o:=by rintro rfl;rcases l with⟨_,_,_,h⟩|h<;>(rw[h1]at h;cases z<;>cases h)
    exact d.hit k ((eR.1 p).resolve_left b) z i j q h1
   .have b:k≠o:=by rintro rfl;rcases l with⟨_,_,_,h⟩|h<;>(rw[h1]at h;cases h)
    exact d.kj k ((eR.1 p).resolve_left b) L i j q m r u h1 h2
  .obtain ⟨L,sz,B,e0,m,r,u,szr,l,I,hr,⟨_,VP⟩,S,h⟩:=h1;obtain⟨x,H⟩:∃x,g.arr o e0=Z x:=by
    rcases(M o (by simp)).2 with⟨e,x,H,⟨z,_,_,h⟩|⟨_,_,_,_,_,_,h⟩⟩|⟨_,_,_,h⟩|h
    .rw[l]at h;cases z<;>cases h
    .rw[l]at h;cases h;exact⟨x,H⟩
    .rw[l]at h;cases h
    .rw[l]at h;cases h
   obtain⟨g1,O,C⟩:=U.SP l I S H X VP;have hom:o≠m:=by rintro rfl;rw[l]at I;cases I
   have cL:∀k,({s with ob:=(s.ob.set aJ m .gone).set aJ o (.jX sz (iV L B u) e0)}:St).ob.get k=if k=o then Z (.jX sz (iV L B u) e0)else if k=m then Z .gone else s.ob.get k:=λk=>by show((s.ob.set aJ m _).set aJ o _).get k=_;rw[Tr.aX _ _ _ _ G,Tr.aX _ _ _ _ S]
   obtain⟨g',v,y,d⟩:=ih O h (λk p=>by
    by_cases b:k=o
    .subst b;exact⟨G,.inl ⟨e0,x,C.arr _ _ _ H,.inl ⟨W,sz,_,by rw[cL,bJ rfl];rfl⟩⟩⟩
    .by_cases t:k=m
     .subst t;exact⟨S,.inr (.inr (by rw[cL,br b,bJ rfl]))⟩
     .obtain ⟨h0,h1⟩:=M k (by simp[p]);refine⟨h0,?_⟩;rw[cL,br b,br t];exact h1.imp (λ⟨q,x',h1,h2⟩=>⟨q,x',C.arr _ _ _ h1,h2⟩) id)
   refine⟨g',v,C.trans y,⟨d.fl,d.aH,λk p z i j q h1=>?_,λk i j q h1=>?_,λk p nj' i j q m' r' ai0 h1 h2=>?_⟩⟩
   .have b:k≠o:=by rintro rfl;rw[l]at h1;cases z<;>cases h1
    have t:k≠m:=by rintro rfl;rw[I]at h1;cases z<;>cases h1
    exact d.hit k ((eR.1 p).resolve_left b) z i j q (by rw[cL,br b,br t];exact h1)
   .have b:k≠o:=by rintro rfl;rw[l]at h1;cases h1
    have t:k≠m:=by rintro rfl;rw[I]at h1;cases h1
    exact d.jX k i j q (by rw[cL,br b,br t];exact h1)
   .by_cases b:k=o
    .subst b;rw[l]at h1;cases h1;rw[hr]at h2;cases h2;exact d.jX k _ _ _ (by rw[cL,bJ rfl])
    .have hk':=(eR.1 p).resolve_left b;obtain⟨szr',hm'⟩:=nY h2;have t:k≠m:=by rintro rfl;rw[I]at h1;cases h1
     have K:m'≠o:=by rintro rfl;rw[l]at hm';cases hm'
     have hmm:m'≠m:=by
      rintro rfl
      exact mR h (m:=m') (by rw[cL,br K,bJ rfl]) (λk p=>hN k (by simp[p])) k hk' nj' i j q r' Y (by rw[cL,br b,br t];exact h1)
     exact d.kj k hk' nj' i j q m' r' ai0 (by rw[cL,br b,br t];exact h1) (by simp only[FT];rw[cL,br K,br hmm];exact h2)
mutual
def kF{g:Gh}{s:St}{w:World}(hs:bh g s w):∀(t:T){v:Value}{p:Prop}{d:D}{os:List Nat},uZ s t=Z (p,d,os)->p->aK g w t v->
  (∀o∈os,Live g s o)∧∀(g':Gh)(s':St),bh g' s' w->Ext s.fl g w g' w->jC s s' os->ee g'.bA w d v
 | .sym d,v,p,L,os,h,hp,l=>by simp only[uZ,bg,bC]at h;obtain⟨_,rfl,rfl⟩:=h;cases l with|sym _ _ z=>exact⟨λo y=>(by cases y),λg' s' _ C _=>z.ext C hs.bA⟩
 | .kb b,v,p,L,os,h,hp,l=>by simp only[uZ,bg,bC]at h;obtain⟨_,rfl,rfl⟩:=h;cases l;exact⟨λo y=>(by cases y),λg' s' _ C _=>.lit _⟩
 | .kn k n,v,p,L,os,h,hp,l=>by simp only[uZ,bg,bC]at h;obtain⟨_,rfl,rfl⟩:=h;cases l;exact⟨λo y=>(by cases y),λg' s' _ C _=>.lit _⟩
 | .emp,v,p,L,os,h,hp,l=>by simp only[uZ,bg,bC]at h;obtain⟨_,rfl,rfl⟩:=h;cases l with|emp a=>exact⟨λo y=>(by cases y),λg' s' _ C _=>.sl [] a 0 0 (λ_ _=>undef) (by simp) (by simp) (by simp) (λh=>absurd rfl h) (λi j d c h=>by simp at h)⟩
 | .jy n M,v,p,L,os,h,hp,l=>by simp only[uZ,bg,bC]at h;obtain⟨_,rfl,rfl⟩:=h;cases l with|jy _ _ a hn z=>exact⟨λo y=>(by cases y),λg' s' _ C _=>z.ext C hs.bA⟩
 | .nQ j d,v,p,L,os,h,hp,l=>by simp only[uZ,bg,bC]at h;obtain⟨_,rfl,rfl⟩:=h;cases l with|nQ _ _ c a hj z=>exact⟨λo y=>(by cases y),λg' s' _ C _=>(zd hj z).ext C hs.bA⟩
 | .qd _ _ _ _,_,_,_,_,h,_,_=>by simp[uZ]at h
 | .sh o e,v,p,L,os,h,hp,l=>by
  cases l with
  |sh _ _ len cap sz a O=>
  simp only[uZ]at h;split at h
  .rename_i B M era y;rcases af h with⟨K,G⟩|⟨_,G⟩
   .have H:=beq_iff'.1 K;simp only[bg,bC]at G;obtain⟨_,rfl,rfl⟩:=G;clear h K;subst H;refine⟨λk R=>?_,λg' s' I C hf=>?_⟩
    .simp at R;subst R;exact⟨dy (hs.lt' O) hs.aH,.inl ⟨e,_,O,.inl ⟨J,B,M,y⟩⟩⟩
    .exact I.IA (hf.hit o (by simp) J B M e y) (C.arr _ _ _ O)
   .cases G
  .rename_i B M era y;rcases af h with⟨K,G⟩|⟨_,G⟩
   .have H:=beq_iff'.1 K;simp only[bg,bC]at G;obtain⟨_,rfl,rfl⟩:=G;clear h K;subst H;exact⟨λk R=>(by cases R),λg' s' I C hf=>I.IA (hf.jX o B M e y) (C.arr _ _ _ O)⟩
   .cases G
  .rename_i nj B M era m r y;split at h
   .rename_i X U;rcases af h with⟨K,G⟩|⟨_,G⟩
    .rw[dR]at K;have H:=beq_iff'.1 K.1;have hmN:m<bB:=fQ K.2;simp only[bg,bC]at G;obtain⟨_,rfl,rfl⟩:=G;clear h K;subst H;refine⟨λk R=>?_,λg' s' I C hf=>?_⟩
     .simp at R;rcases R with rfl|rfl
      .exact ⟨dy (hs.lt' O) hs.aH,.inl ⟨e,_,O,.inr ⟨nj,B,M,m,r,Y,y⟩⟩⟩
      .obtain ⟨szr,hm⟩:=nY U;exact⟨hmN,.inr (.inl ⟨szr,X,r,hm⟩)⟩
     .exact I.IA (hf.kj o (by simp) nj B M e m r X y U) (C.arr _ _ _ O)
    .cases G
   .cases h
  .cases h
 | .cR t x,v,p,L,os,h,hp,l=>by
  cases l with
  |cR _ _ u hu=>
  simp only[uZ]at h;split at h
  .rename_i q d os' z;simp only[bg,bC]at h;obtain⟨rfl,rfl,rfl⟩:=h;obtain⟨h1,h2⟩:=kF hs x z hp hu;exact⟨h1,λg' s' a b c=>.cR _ _ _ (h2 g' s' a b c)⟩
  .cases h
 | .agg cs,v,p,L,os,h,hp,l=>by
  cases l with
  |agg _ vs hl U=>
  simp only[uZ]at h;split at h
  .rename_i q ds os' z;simp only[bg,bC]at h;obtain⟨rfl,rfl,rfl⟩:=h;obtain⟨h0,h1,h2⟩:=rB hs cs (vs:=vs.toList) z hp.1 (by simpa using hl) (λj t v l S=>U j t v l (by simpa using S));refine⟨h1,λg' s' a b c=>.agg _ _ (by rw[h0,hl]) (λd z=>by have:=hp.2;rw[eA]at this;exact this d z) (λj d v z S=>h2 g' s' a b c j d v z (by simpa using S))⟩
  .cases h
 | .gm cs,v,p,L,os,h,hp,l=>by
  cases l with
  |gm _ vs hl U=>
  simp only[uZ]at h;split at h
  .rename_i q ds os' z;simp only[bg,bC]at h;obtain⟨rfl,rfl,rfl⟩:=h;obtain⟨h0,h1,h2⟩:=rB hs cs (vs:=vs.toList) z hp (by simpa using hl) (λj t v l S=>U j t v l (by simpa using S));exact⟨h1,λg' s' a b c=>.gm _ _ (by rw[h0,hl]) (λj d v z S=>h2 g' s' a b c j d v z (by simpa using S))⟩
  .cases h
 | .ptr _ _,_,_,_,_,h,_,_=>by simp[uZ]at h
 | .mD _ _,_,_,_,_,h,_,_=>by simp[uZ]at h
 | .kA _ _ _ _,_,_,_,_,h,_,_=>by simp[uZ]at h
 | .fn _ _ _,_,_,_,_,h,_,_=>by simp[uZ]at h
 | .gd _ _,_,_,_,_,h,_,_=>by simp[uZ]at h
def rB{g:Gh}{s:St}{w:World}(hs:bh g s w):∀(ts:List T){vs:List Value}{p:Prop}{ds:List D}{os:List Nat},lG s ts=Z (p,ds,os)->p->ts.length=vs.length->
  (∀(j:Nat)(t:T)(v:Value),ts[j]?=Z t->vs[j]?=Z v->aK g w t v)->
  ds.length=ts.length∧(∀o∈os,Live g s o)∧∀(g':Gh)(s':St),bh g' s' w->Ext s.fl g w g' w->jC s s' os->
   ∀(j:Nat)(d:D)(v:Value),ds[j]?=Z d->vs[j]?=Z v->ee g'.bA w d v
 |[],vs,p,ds,os,h,hp,i,k=>by simp only[lG,bg,bC]at h;obtain⟨_,rfl,rfl⟩:=h;exact⟨rfl,λo ho=>(by cases ho),λg' s' _ _ _ j d v b=>by simp at b⟩
 |t::ts,vs,p,ds,os,h,hp,i,k=>by
  simp only[lG]at h;split at h
  .rename_i I d l K q m h1 h2;simp only[bg,bC]at h;obtain⟨rfl,rfl,rfl⟩:=h
   match vs,i with
   |v::vs,i=>
    obtain⟨a1,a2⟩:=kF hs t h1 hp.1 (k 0 t v rfl rfl);obtain⟨r,u,B⟩:=rB hs ts (vs:=vs) h2 hp.2 (by simpa using i) (λj t v C e=>k (j+1) t v (by simpa using C) (by simpa using e));refine⟨by simp[r],λo ho=>?_,λg' s' x y z j d v b e=>?_⟩
    .rcases dY.1 ho with ho|ho
     .exact a1 o ho
     .exact u o ho
    .have G:jC s s' l:=z.sub (λo ho=>eH _ ho);have H:jC s s' m:=z.sub (λo ho=>iS _ ho);cases j with|zero=>simp at b e;subst b;subst e;exact a2 g' s' x y G|succ j=>exact B g' s' x y H j d v (by simpa using b) (by simpa using e)
  .cases h
end
end
section
def PW{α β:Type}(R:α->β->Prop)(l:List α)(m:List β):Prop:=l.length=m.length∧∀(j:Nat)(a:α)(b:β),l[j]?=Z a->m[j]?=Z b->R a b
section
variable {α β:Type}{R:α->β->Prop}
def PW.append{l g:List α}{m i:List β}(h:PW R l m)(k:PW R g i):PW R (l++g) (m++i):=by
 refine⟨by simp[h.1,k.1],λj a b e d=>?_⟩;rw[kY]at e d;rw[<-h.1]at d;by_cases p:j<l.length
 .rw[bJ p]at e d;exact h.2 j a b e d
 .rw[br p]at e d;exact k.2 _ a b e d
def PW.take{l:List α}{m:List β}(h:PW R l m)(n:Nat):PW R (l.take n) (m.take n):=by
 refine⟨by simp[h.1],λj a b d e=>?_⟩;rw[vK]at d e;by_cases g:j<n
 .rw[bJ g]at d e;exact h.2 j a b d e
 .rw[br g]at d;cases d
def PW.drop{l:List α}{m:List β}(h:PW R l m)(n:Nat):PW R (l.drop n) (m.drop n):=by refine⟨by simp[h.1],λj a b d e=>?_⟩;rw[Dr]at d e;exact h.2 _ a b d e
end
def Oa{l:List T}(h:leaves l):∀t∈l,t.leaf:=by
 induction l with
 |nil=>intro t b;cases b
 |cons a l d=>
  intro t b;rcases eR.1 b with rfl|b
  .exact h.1
  .exact d h.2 t b
variable {g:Gh}{w:World}{P:Program}{i:TI}
def PW.one{l:List T}{vs:List Value}(h:PW (aK g w) l vs)(hl:leaves l):∀v∈vs,v.oneCell'=W:=by
 intro v e;obtain⟨j,d,rfl⟩:=s9 e;have b:j<l.length:=by rw[h.1];exact d
 exact(Ro (Oa hl _ (FX b)) (h.2 j _ _ (fP b) (fP d))).1
def we{t:TypeId}{x:TypeInfo}(hi:P.info? t=Z x)(w:World)(b off:Nat)(v:Value)(d:v.cells.size=x.size){vs:Array Value}{ty:TypeId}
  (e:w.heap[b]?=Z (.cells vs ty (0,0))) (hl:off+v.cells.size<=vs.size) (h1:∀u∈v.cells.toList,u.oneCell'=W) :
  (storeVar t ⟨b,off,Y⟩ v).run P w=.ok () (w.setRow b (vs.toList.take off++v.cells.toList++vs.toList.drop (off+v.cells.size)).toArray):=by
 have:=run_storeCells_at (P:=P) b off ty v.cells.toList 0 vs w e (by simpa using hl) h1;simp only[Bg,He]at this;simp[storeVar,dB hi,d,this]
def n7{t:T}{v:Value}{p:Prop}{cs:List T}(h:iQ i t=Z (p,cs))(hp:p)(d:aK g w t v) :
  PW (aK g w) cs v.cells.toList∧cs.length=i.size:=by
 obtain⟨h1,h2,h3,_⟩:=lD h hp d;exact⟨⟨by simp[h1,h2],λj a b e k=>h3 j a b e (by simpa using k)⟩,h1⟩
def D.MZ{ds:List D}(h:ds.all D.leaf=W):∀d∈ds,d.leaf=W:=by simpa using h
def IX(es:List D)(k i:Nat)(d j:D)(h:(D.put es k d)[i]?=Z j):(i=k∧k<es.length∧j=d)∨(i≠k∧es[i]?=Z j):=by
 unfold D.put at h;rw[Dq]at h;by_cases b:k=i
 .subst b;rw[bJ rfl]at h;by_cases g:k<es.length
  .rw[bJ g]at h;exact .inl ⟨rfl,g,(eK h).symm⟩
  .rw[br g]at h;cases h
 .rw[br b]at h;exact .inr ⟨λe=>b e.symm,h⟩
def Iv{ty:TypeId}(hi:mU P ty i){s s':St}(hs:bh g s w){a x:T}{va vx:Value}(ha:aK g w a va)(hx:aK g w x vx)
  {p:Prop} {t:T} (h:storeT i s a x=Z (p,t,s')) (hp:p) :
  ∃w' g',(Instr.storeAt ty va vx).run P w=.ok () w'∧bh g' s' w'∧Ext s.fl g w g' w'∧t=PJ:=by
 obtain⟨xi,d0,z,LS,hu,hsz,Zw,_⟩:=hi.all;unfold storeT at h;cases hc:iQ i x with
 |none=>simp[hc]at h
 |some q=>
  obtain⟨q,l⟩:=q;simp only[hc]at h;cases ha with
  |ptr o off b hb=>
   cases H:s.ob.get o with
   |none=>simp[H]at h
   |some ob=>
   simp only[H]at h;cases ob with
   |box cs=>
   obtain⟨C,ety,hh,hl,hr⟩:=(hs.box o b hb).box H;simp only at h;rcases af h with⟨hn,h⟩|⟨_,h⟩
   .simp only[dR]at hn;have X:=fQ hn.1;have hlen:off+cz l<=cz cs:=fQ hn.2;rw[bK,bK]at hlen;simp only[bg,bC]at h;obtain⟨rfl,rfl,rfl⟩:=h;obtain⟨I,acL⟩:=n7 hc hp.1 hx;have G:vx.cells.size=l.length:=by simpa using I.1.symm
    have hcs:PW (aK g w) cs C.toList:=⟨by simpa using hl,λj a b h1 h2=>hr j a b h1 (by simpa using h2)⟩;have M:=we (P:=P) LS w b off vx (by rw[G,acL,hsz]) hh (by omega) (I.one hp.2);rw[G]at M;have hnew:PW (aK g w) (cs.take off++l++cs.drop (Nat.add off (cz l))) (C.toList.take off++vx.cells.toList++C.toList.drop (off+l.length)):=by rw[bK];exact((hcs.take off).append I).append (hcs.drop _)
    obtain⟨hs',he⟩:=hs.abJ hb H X (cs':=cs.take off++l++cs.drop (Nat.add off (cz l)))
     (vs':=(C.toList.take off++vx.cells.toList++C.toList.drop (off+l.length)).toArray) (by simpa using hnew.1) (λj t v h1 h2=>hnew.2 j t v h1 (by simpa using h2))
    exact⟨_,g,by simpa[Instr.storeAt,Instr.sureAddr]using M,hs',he,rfl⟩
   .cases h
   |_=>simp at h
  |kA o e k off len cap sz ad agn=>
   cases L:lG s l with
   |none=>simp[L]at h
   |some r=>
    obtain⟨r,ds,os⟩:=r;simp only[L]at h;cases O:freeze s os with
    |none=>simp[O]at h
    |some s1=>
    simp only[O]at h;cases H:s1.ob.get o with
    |none=>simp[H]at h
    |some ob=>
     cases ob with
     |box _=>simp[H]at h
     |jX _ _ _=>simp[H]at h
     |map _=>simp[H]at h
     |o7 _ _=>simp[H]at h
     |kj _ _ _ _ _ _ _=>simp[H]at h
     |rws _ _ _=>simp[H]at h
     |gone=>simp[H]at h
     |lp _=>simp[H]at h
     |zH=>simp[H]at h
     |arr sz' es era=>
      simp only[H]at h;rcases af h with⟨hn,h9⟩|⟨_,h9⟩
      .simp only[dR]at hn;obtain⟨X,hee⟩:=hn;have X:=fQ X;have hee:=beq_iff'.1 hee;subst hee;simp only[bg,bC]at h9;obtain⟨rfl,rfl,rfl⟩:=h9;obtain⟨hp1,VH,hp3,hp4,hp5,hp6,hp7⟩:=hp;obtain⟨I,acL⟩:=n7 hc hp1 hx;obtain⟨b0,b1,b2⟩:=rB hs l L VH I.1 I.2;obtain⟨g1,Kl,he1,acN⟩:=eo os hs O b1;have Cc:=b2 g1 s1 Kl he1 acN;have hga:=he1.arr _ _ _ agn;clear agn;have amt:=acN.fl;clear b1 b2 L O acN;obtain⟨K,afX⟩:=Kl.m9 (fz:=J) H hga;change sz=sz' at afX;subst afX;have hk:=Qz hp4;obtain⟨B,R,m,alA⟩:∃B,(D.el es k).cells=B∧B.length=sz∧(off+ds.length<=sz->(D.PI (D.el es k) off ds).cells=B.take off++ds++B.drop (off+ds.length)):=by
        rcases hp5 with hp5|⟨h1,h2,h3,h4⟩
        .obtain ⟨B,R,m,hcf⟩:=xk hp5;exact⟨B,by rw[R];rfl,m,λ_=>by rw[R];rfl⟩
        .rw[bK]at h4;obtain⟨d1,rfl⟩:=Li.1 h4;have hl1:=D.MZ hp3 d1 (by simp);have XY:∀d:D,d.leaf=W->d.cells=[d]:=by intro d L;cases d<;>first|rfl|simp[D.leaf]at L
         refine⟨[D.el es k],XY _ h1,h2.symm,λ_=>?_⟩;subst h3;have:D.PI (D.el es k) 0 [d1]=d1:=by generalize D.el es k=q at h1;cases q<;>first|rfl|simp[D.leaf]at h1
         rw[this,XY _ hl1];rfl
       have hoff:off+ds.length<=sz:=by have:=fQ hp6;rw[bK]at this;exact this
       have h1:=K.len;have h2:=K.cap;simp only at h1 h2;obtain⟨b,C,ety,hab,hfz,hh,S,U⟩:=K.mem (by simp only;omega);simp only[bg]at hab;subst hab;have G:vx.cells.size=ds.length:=by rw[b0];simpa using I.1.symm
       have hbound:k*sz+sz<=C.size:=by have:(k+1)*sz<=cap*sz:=vM _ (by omega);rw[BQ,tL]at this;exact fC this S
       have hone:∀u∈vx.cells.toList,u.oneCell'=W:=by
        intro u hu;obtain⟨j,hj,rfl⟩:=s9 hu;have hj':j<ds.length:=by rw[b0,I.1];exact hj
        exact(tW (D.MZ hp3 _ (FX hj')) (Cc j _ _ (fP hj') (fP hj))).1
       have M:=we (P:=P) LS w b (k*sz+off) vx (by rw[G,b0,acL,hsz]) hh (by omega) hone;have CB:(⟨Z ⟨b,0,Y⟩,len,cap,sz⟩:fq).at b:=⟨_,rfl,rfl,by simp only;omega⟩;have hsc:=alA hoff;have Zm:(C.toList.take (k*sz+off)++vx.cells.toList++C.toList.drop (k*sz+off+vx.cells.size)).length=C.size:=by simp[G];omega
       have Sz:uV g1 (w.setRow b (C.toList.take (k*sz+off)++vx.cells.toList++C.toList.drop (k*sz+off+vx.cells.size)).toArray) J sz
         (D.put es k ((D.el es k).PI off ds)) ⟨Z ⟨b,0,Y⟩,len,cap,sz⟩:=by
        refine⟨by simp[D.put,h1],h2,λd L=>?_,K.pos,λd L=>?_,λh0=>?_,λ_=>⟨b,_,ety,rfl,hfz,setRow_heap w b C _ ety _ hh,by simp only[Ld];rw[Zm];exact S,?_⟩⟩
        .obtain ⟨j,hj,rfl⟩:=s9 L;rcases IX _ _ _ _ _ (fP hj)with⟨rfl,_,he⟩|⟨_,he⟩
         .rw[he,hsc];simp[m];omega
         .exact K.rows _ (gY he)
        .obtain ⟨j,hj,rfl⟩:=s9 L;rcases IX _ _ _ _ _ (fP hj)with⟨rfl,_,he⟩|⟨_,he⟩
         .rw[he,hp7];have hb:=K.X2 _ (gY (D.Jv hk));simpa[D.put]using hb
         .have hb:=K.X2 _ (gY he);simpa[D.put]using hb
        .have:es.length=0:=by simpa[D.put]using mJ List.length h0
         omega
        .intro i d j c L hj;have y:∀(v:Value),C[i*sz+j]?=Z v->(i≠k∧j<sz∨i=k∧(j<off∨off+ds.length<=j))->
           (C.toList.take (k*sz+off)++vx.cells.toList++C.toList.drop (k*sz+off+vx.cells.size)).toArray[i*sz+j]?=Z v:=by
          intro v hv HI;have hlt:i*sz+j<C.size:=by have:=(IU.1 hv).1;exact this
          have acT:i*sz+j<k*sz+off∨k*sz+off+ds.length<=i*sz+j:=by
           rcases HI with⟨hik,hj⟩|⟨rfl,hj⟩
           .rcases Nat.lt_or_gt_of_ne hik with hik|hik
            .have:(i+1)*sz<=k*sz:=vM _ hik;rw[BQ,tL]at this
             left;omega
            .have:(k+1)*sz<=i*sz:=vM _ hik;rw[BQ,tL]at this
             right;omega
           .rcases hj with hj|hj
            .left;omega
            .right;omega
          rw[NR,kY,kY];rcases acT with XY|XY
          .rw[bJ (by simp[G];omega),bJ (by simp;omega),vK,bJ XY];simpa using hv
          .rw[br (by simp[G];omega),Dr];have:k*sz+off+vx.cells.size+(i*sz+j-(List.take (k*sz+off) C.toList++vx.cells.toList).length)=i*sz+j:=by simp[G];omega
           rw[this];simpa using hv
         rcases IX _ _ _ _ _ L with⟨rfl,hlt,rfl⟩|⟨hik,L⟩
         .rw[hsc]at hj;have LX:j<sz:=by have:=aF hj;simp[m]at this;omega
          by_cases hin:off<=j∧j<off+ds.length
          .have hj2:ds[j-off]?=Z c:=by
            rw[kY,if_pos (by simp[m];omega),kY,br (by simp[m];omega)]at hj;have:j-(B.take off).length=j-off:=by simp[m];omega
            rwa [this]at hj
           have acK:j-off<vx.cells.size:=by omega
           refine⟨vx.cells[j-off],?_,?_⟩
           .rw[NR,kY,bJ (by simp[G];omega),kY,br (by simp;omega)];have:i*sz+j-(List.take (i*sz+off) C.toList).length=j-off:=by simp;omega
            rw[this];simp[acK]
           .have:=Cc (j-off) c vx.cells[j-off] hj2 (by simp[acK]);exact this.ext (Ext.refl 0 g1 w) Kl.bA |>.mono (λb' hb'=>setRow_other w b b' _ (λe=>by subst e;exact Bool.noConfusion (hfz.2 hb'))) (λ_ h=>h)
          .have hj2:B[j]?=Z c:=by
            rw[kY,kY]at hj;by_cases hlo:j<off
            .rw[bJ (by simp[m];omega),bJ (by simp[m];omega),vK,bJ hlo]at hj;exact hj
            .rw[br (by simp[m];omega),Dr]at hj;have:off+ds.length+(j-(List.take off B++ds).length)=j:=by simp[m];omega
             rwa [this]at hj
           obtain⟨v,hv,hr⟩:=U i (D.el es i) j c (D.Jv hlt) (by rw[R];exact hj2);refine⟨v,y v hv (.inr ⟨rfl,by omega⟩),hr.mono (λb' hb'=>setRow_other w b b' _ (λe=>by subst e;exact Bool.noConfusion (hfz.2 hb'))) (λ_ h=>h)⟩
         .obtain ⟨v,hv,hr⟩:=U i d j c L hj;have LX:j<sz:=by rw[<-K.rows d (gY L)];exact aF hj
          exact⟨v,y v hv (.inl ⟨hik,LX⟩),hr.mono (λb' hb'=>setRow_other w b b' _ (λe=>by subst e;exact Bool.noConfusion (hfz.2 hb'))) (λ_ h=>h)⟩
       obtain⟨hs',he⟩:=Kl.abP H hga X CB Sz;refine⟨_,g1,?_,hs',he1.trans (amt▸he),rfl⟩;rw[nc];simpa[Instr.storeAt,Instr.sureAddr]using M
      .cases h9
  |_=>simp at h
end
section
variable {k:IntKind}{I:Nat->Prop}{d:D}{b a:T}{va vb:Value}{r:Bool}
def Aa{j:IntKind}(h:m6 j k=W):j=k:=by cases j<;>cases k<;>first|rfl|cases h
section
variable {g:Gh}{w:World}{t:T}{v:Value}{p:Prop}
def Sx(h:D.isInt k d=W)(b:ee I w d v):v=.int k d.toInt:=by
 cases b with
 |lit v=>
  cases v with|int j n=>rw[Aa h];rfl|_=>cases h
 |_=>cases h
def Eg(h:d.isBool=W)(e:ee I w d v):v=.bool d.toBool:=by
 cases e with
 |lit v=>
  cases v with|bool b=>rfl|_=>cases h
 |_=>cases h
def Sw(h:d.isStr=W)(e:ee I w d v):v=.string d.toStr:=by
 cases e with
 |lit v=>
  cases v with|string b=>rfl|_=>cases h
 |_=>cases h
def dJ{n:Int}(h:tj k t=Z (p,n))(hp:p)(b:aK g w t v):v=.int k n:=by
 cases b with
 |kn j m=>
  simp only[tj]at h;rcases af h with⟨e,h⟩|⟨_,h⟩
  .simp only[bg,bC]at h;rw[Aa e,h.2]
  .cases h
 |sym d v i=>simp only[tj,bg,bC]at h;obtain⟨rfl,rfl⟩:=h;exact Sx hp i
 |_=>simp[tj]at h
def iH{b:Bool}(h:wF t=Z (p,b))(hp:p)(e:aK g w t v):v=.bool b:=by
 cases e with
 |kb c=>simp only[wF,bg,bC]at h;rw[h.2]
 |sym d v i=>simp only[wF,bg,bC]at h;obtain⟨rfl,rfl⟩:=h;exact Eg hp i
 |_=>simp[wF]at h
def gX{b:ByteArray}(h:wU t=Z (p,b))(hp:p)(e:aK g w t v):v=.string b:=by
 cases e with
 |sym d v i=>simp only[wU,bg,bC]at h;obtain⟨rfl,rfl⟩:=h;exact Sw hp i
 |_=>simp[wU]at h
def D.vk(h:d.afG=W):d=.sl d.abG:=by cases d<;>first|rfl|cases h
def PV{s:St}(hs:bh g s w){es:List D}(h:qz s t=Z (p,es))(hp:p)(z:aK g w t v):∃a cap,v=.slice a es.length cap∧es.length<=cap:=by
 cases z with
 |emp a=>simp only[qz,bg,bC]at h;obtain⟨_,rfl⟩:=h;exact⟨a,0,rfl,by simp⟩
 |jy n b a H r=>simp only[qz,bg,bC]at h;obtain⟨_,rfl⟩:=h;exact⟨a,_,rfl,bP _⟩
 |nQ j d c a I r=>simp only[qz,bg,bC]at h;obtain⟨_,rfl⟩:=h;exact⟨a,1,rfl,bP _⟩
 |sym d v r=>
  simp only[qz,bg,bC]at h;obtain⟨rfl,rfl⟩:=h;rw[D.vk hp]at r;generalize d.abG=es at *
  cases r with|sl _ a cap sz val l=>exact⟨a,cap,rfl,l⟩
 |sh o e len cap sz a B=>
  simp only[qz]at h;have key:∀y i(b:List D)era,s.ob.get o=Z (fB y i b era)->(bif Nat.beq e era then Z (True,b)else Y)=Z (p,es)->
    ∃C k,Value.slice a len cap=.slice C es.length k∧es.length<=k:=by
   intro y i b era m h;rcases af h with⟨G,h⟩|⟨_,h⟩
   .have u:=beq_iff'.1 G;simp only[bg,bC]at h;obtain⟨_,rfl⟩:=h;obtain⟨q,_⟩:=hs.m9 (u▸m) B;have h1:=q.len;have h2:=q.cap;simp only at h1 h2;exact⟨a,cap,by rw[h1],by omega⟩
   .cases h
  split at h
  .rename_i i b era m;exact key J i b era m h
  .rename_i i b era m;exact key W i b era m h
  .cases h
 |_=>simp[qz]at h
end
section
variable {P:Program}{g:Gh}{w:World}
def sy{x:T}{vx:Value}{q:Prop}{y:Bool}(h:Ff x=Z (q,y))(e:q)(j:aK g w x vx):vx=.bool y:=by
 cases j with
 |gd c t v i=>
  simp only[Ff]at h;split at h
  .rename_i l m h1;simp only[bg,bC]at h;obtain⟨rfl,rfl⟩:=h;exact iH h1 e.2 (i e.1)
  .cases h
 |kb b=>simp only[Ff,bg,bC]at h;rw[h.2]
 |sym d v k=>simp only[Ff,bg,bC]at h;obtain⟨rfl,rfl⟩:=h;exact Eg e k
 |_=>simp[Ff]at h
def Lt{c:T}{i:Value}{p:Prop}{t:T}(h:Hi c a b=Z (p,t))(hp:p)(j:aK g w c i)(k:aK g w a va)(l:aK g w b vb) :
  ∃u,i=.bool u∧aK g w t (if u then va else vb):=by
 unfold Hi at h;split at h
 .rename_i u;cases j;refine⟨u,rfl,?_⟩;split at h
  .rename_i q y d;simp only[bg,bC]at h;obtain⟨rfl,rfl⟩:=h;cases u with|true=>rw[bJ rfl,sy d hp k];exact .sym _ _ (.lit _)|false=>rw[br Bool.noConfusion,sy d hp l];exact .sym _ _ (.lit _)
  .cases h
 split at h
 .rename_i r u s v z B m h1 h2;simp only[bg,bC]at h;obtain⟨rfl,rfl⟩:=h;have e:=iH m hp.1 j;refine⟨u,e,?_⟩;cases u with|true=>rw[sy h1 (hp.2.1 rfl) k];exact .sym _ _ (.lit _)|false=>rw[sy h2 (hp.2.2 rfl) l];exact .sym _ _ (.lit _)
 .cases h
def y8{l:Lk}{p:Prop}(h:oR l a b=Z (p,r))(hp:p)(d:aK g w a va)(e:aK g w b vb) :
  zx l va∧zx l vb∧r=EC va vb:=by
 cases l with
 |int k=>
  simp only[oR]at h;split at h
  .rename_i i x j y h1 h2;simp only[bg,bC]at h;obtain⟨rfl,rfl⟩:=h;rw[dJ h1 hp.1 d,dJ h2 hp.2 e];exact⟨⟨_,rfl⟩,⟨_,rfl⟩,rfl⟩
  .cases h
 |bool=>
  simp only[oR]at h;split at h
  .rename_i i x j y h1 h2;simp only[bg,bC]at h;obtain⟨rfl,rfl⟩:=h;rw[iH h1 hp.1 d,iH h2 hp.2 e];exact⟨⟨_,rfl⟩,⟨_,rfl⟩,rfl⟩
  .cases h
 |str=>
  simp only[oR]at h;split at h
  .rename_i i x j y h1 h2;simp only[bg,bC]at h;obtain⟨rfl,rfl⟩:=h;rw[gX h1 hp.1 d,gX h2 hp.2 e];exact⟨⟨_,rfl⟩,⟨_,rfl⟩,rfl⟩
  .cases h
 |no=>simp[oR]at h
def uj:∀(d:List Lk)(as bs:List T)(va vb:List Value){p:Prop}{r:Bool},jw d as bs=Z (p,r)->p->PW (aK g w) as va->PW (aK g w) bs vb->
  va.length=d.length∧vb.length=d.length∧(∀(j:Nat)(l:Lk)(v:Value),d[j]?=Z l->va[j]?=Z v->zx l v)∧
   (∀(j:Nat)(l:Lk)(v:Value),d[j]?=Z l->vb[j]?=Z v->zx l v)∧r=kz va vb
 |[],[],[],va,vb,p,r,h,hp,e,i=>by simp only[jw,bg,bC]at h;have h1:va=[]:=td e.1.symm;have h2:vb=[]:=td i.1.symm;subst h1;subst h2;refine⟨rfl,rfl,λj l v h=>by simp at h,λj l v h=>by simp at h,h.2.symm⟩
 |l::d,a::as,b::bs,va,vb,p,r,h,hp,e,i=>by
  simp only[jw]at h;split at h
  .rename_i O x R y h1 h2;simp only[bg,bC]at h;obtain⟨rfl,rfl⟩:=h
   match va,vb,e,i with
   |v::va,u::vb,e,i=>
    obtain⟨B,C,G⟩:=y8 h1 hp.1 (e.2 0 _ _ rfl rfl) (i.2 0 _ _ rfl rfl);obtain⟨H,I,K,L,M⟩:=uj d as bs va vb h2 hp.2 ⟨by simpa using e.1,λj x y q s=>e.2 (j+1) x y (by simpa using q) (by simpa using s)⟩
     ⟨by simpa using i.1,λj x y q s=>i.2 (j+1) x y (by simpa using q) (by simpa using s)⟩
    refine⟨by simp[H],by simp[I],λj t z k m=>?_,λj t z k m=>?_,?_⟩
    .cases j with|zero=>simp at k m;subst k;subst m;exact B|succ j=>exact K j t z (by simpa using k) (by simpa using m)
    .cases j with|zero=>simp at k m;subst k;subst m;exact C|succ j=>exact L j t z (by simpa using k) (by simpa using m)
    .rw[G,M];rfl
  .cases h
 |[],[],_::_,_,_,_,_,h,_,_,_=>by simp[jw]at h
 |[],_::_,_,_,_,_,_,h,_,_,_=>by simp[jw]at h
 |_::_,[],_,_,_,_,_,h,_,_,_=>by simp[jw]at h
 |_::_,_::_,[],_,_,_,_,h,_,_,_=>by simp[jw]at h
def RE(d:Nat){ty e:TypeId}(b:P.underlying ty=Z (.pointer e))(a:Addr):(Op.equalIn (d+1) ty (.pointer Y) (.pointer (Z a))).run P w=.ok J w:=by simp only[Op.equalIn,Sem.run_bind,aM b,Result.andThen_ok];rfl
def RF(d:Nat){ty e:TypeId}(b:P.underlying ty=Z (.pointer e))(a:Addr):(Op.equalIn (d+1) ty (.pointer (Z a)) (.pointer Y)).run P w=.ok J w:=by simp only[Op.equalIn,Sem.run_bind,aM b,Result.andThen_ok];rfl
def RG(d:Nat){ty:TypeId}{b:Array (String×TypeId)}(e:P.underlying ty=Z (.interface b))(t:TypeId)(v:Value):(Op.equalIn (d+1) ty .nilIface (.iface t v)).run P w=.ok J w:=by simp only[Op.equalIn,Sem.run_bind,aM e,Result.andThen_ok];rfl
def GP(d:Nat){ty:TypeId}{b:Array (String×TypeId)}(e:P.underlying ty=Z (.interface b))(t:TypeId)(v:Value):(Op.equalIn (d+1) ty (.iface t v) .nilIface).run P w=.ok J w:=by simp only[Op.equalIn,Sem.run_bind,aM e,Result.andThen_ok];rfl
def nE{ty:TypeId}(x y:Operand)(h1:binOp .eql ty va vb=(do pure (.bool (<-Op.equal ty va vb))))(h2:binOp .neq ty va vb=(do pure (.bool (!(<-Op.equal ty va vb)))))
  (d:∀op,(eqGuard op ty x y va vb).run P w=.ok () w) (e:(Op.equalIn (9999+1) ty va vb).run P w=.ok r w) :
  ((do eqGuard .eql ty x y va vb;binOp .eql ty va vb:Sem Value)).run P w=.ok (.bool r) w∧((do eqGuard .neq ty x y va vb;binOp .neq ty va vb:Sem Value)).run P w=.ok (.bool (!r)) w:=by
 have b:(Op.equal ty va vb).run P w=.ok r w:=e;rw[h1,h2];constructor
 .rw[Sem.run_bind,d];simp[b]
 .rw[Sem.run_bind,d];simp[b]
def EB{ty:TypeId}{i:TI}(hi:mU P ty i){p:Prop}(h:SX i a b=Z (p,r))(hp:p)(u:aK g w a va)(B:aK g w b vb)(x y:Operand) :
  ((do eqGuard .eql ty x y va vb;binOp .eql ty va vb:Sem Value)).run P w=.ok (.bool r) w∧((do eqGuard .neq ty x y va vb;binOp .neq ty va vb:Sem Value)).run P w=.ok (.bool (!r)) w:=by
 obtain⟨xi,d0,z,LS,G,hsz,Zw,hz,xl,d⟩:=hi.all;unfold SX at h;rcases af h with⟨s,h⟩|⟨s,h⟩
 .split at h
  .cases h
  .rename_i k ks qa as qb bs hk H I;simp only[eC,bC]at h;obtain⟨⟨q,r'⟩,he,rfl,rfl⟩:=h;obtain⟨L,_⟩:=n7 H hp.1 u;obtain⟨M,_⟩:=n7 I hp.2.1 B;obtain⟨_,_,_,t,_⟩:=lD H hp.1 u;obtain⟨_,_,_,C,_⟩:=lD I hp.2.1 B;obtain⟨xs,rfl⟩:=t s;obtain⟨ys,rfl⟩:=C s;obtain⟨O,R,S,U,X⟩:=uj (k::ks) as bs _ _ he hp.2.2 L M;simp only[Value.cells]at O R S U X;have hne:i.XU≠[]:=by rw[hk];simp
   rw[<-hk]at O R S U;have key:∀op,_:=λop=>hi.eqs s hne w op x y xs ys (by simpa using O) (by simpa using R) (λj l v h1 h2=>S j l v h1 (by simpa using h2)) (λj l v h1 h2=>U j l v h1 (by simpa using h2));refine⟨?_,?_⟩
   .rw[Sem.run_bind,(key .eql).1];simp only[Result.andThen_ok,binOp,Sem.run_bind,(key .eql).2,X];rfl
   .rw[Sem.run_bind,(key .neq).1];simp only[Result.andThen_ok,binOp,Sem.run_bind,(key .neq).2,X];rfl
  .cases h
 .split at h
  .rename_i l K;obtain⟨t,C,rfl⟩:=y8 h hp u B;rw[K]at d;cases l with
   |int k=>obtain⟨m,rfl⟩:=t;obtain⟨n,rfl⟩:=C;simp[eqGuard,binOp,Op.intCmp,EC,bne]
   |bool=>obtain⟨m,rfl⟩:=t;obtain⟨n,rfl⟩:=C;simp only[Nd]at d;subst d;exact nE x y rfl rfl (λop=>by cases op<;>rfl) (run_equalIn_bool' w _ _ _ _ G)
   |str=>obtain⟨m,rfl⟩:=t;obtain⟨n,rfl⟩:=C;simp[eqGuard,binOp,Op.stringOp,EC,beq_toListBytes]
   |no=>exact t.elim
  .rename_i K;rw[K]at d;obtain⟨e,rfl⟩:=d;unfold aaY at h;split at h
   .simp only[bg,bC]at h;obtain⟨_,rfl⟩:=h;cases u with
    |sym _ _ u=>
    cases u;cases B;exact nE x y rfl rfl (λop=>by cases op<;>rfl) (RE _ G _)
   .simp only[bg,bC]at h;obtain⟨_,rfl⟩:=h;cases B with
    |sym _ _ B=>
    cases B;cases u;exact nE x y rfl rfl (λop=>by cases op<;>rfl) (RF _ G _)
   .cases h
  .rename_i K;rw[K]at d;obtain⟨e,rfl⟩:=d;unfold aaZ at h;split at h
   .simp only[bg,bC]at h;obtain⟨_,rfl⟩:=h;cases u with
    |sym _ _ u=>
    cases u;cases B;exact nE x y rfl rfl (λop=>by cases op<;>rfl) (RG _ G _ _)
   .simp only[bg,bC]at h;obtain⟨_,rfl⟩:=h;cases B with
    |sym _ _ B=>
    cases B;cases u;exact nE x y rfl rfl (λop=>by cases op<;>rfl) (GP _ G _ _)
   .cases h
  .cases h
end
end
section
section
variable {P:Program}{g:Gh}{w:World}
variable {i:TI}{a t:T}{va:Value}{p:Prop}{d:D}{s s':St}{k:Nat}
def OV{ty:TypeId}(hi:mU P ty i){op:BinOp}{b:T}{s:Value}(h:JG i op a b=Z (p,d))(hp:p)(e:aK g w a va)(j:aK g w b s)(x y:Operand) :
  ∃v,((do eqGuard op ty x y va s;binOp op ty va s:Sem Value)).run P w=.ok v w∧aK g w (.sym d) v:=by
 unfold JG at h;split at h
 .simp only[eC,bC]at h;obtain⟨⟨q,r⟩,t,rfl,rfl⟩:=h;exact⟨_,(EB hi t hp e j x y).1,.sym _ _ (.lit _)⟩
 .simp only[eC,bC]at h;obtain⟨⟨q,r⟩,t,rfl,rfl⟩:=h;exact⟨_,(EB hi t hp e j x y).2,.sym _ _ (.lit _)⟩
 .rename_i z B;split at h
  .rename_i k L;split at h
   .rename_i G m H n h1 h2;cases l:OM op k m n with
    |some I=>
     simp only[l,bg,bC]at h;obtain⟨rfl,rfl⟩:=h;rw[dJ h1 hp.1 e,dJ h2 hp.2 j];cases op<;>simp only[OM,bg]at l<;>first
      |(cases l;done)
      |(
        subst l;refine⟨_,?_,.sym _ _ (.lit _)⟩;simp[eqGuard,binOp,Op.intCmp,Op.intArith,D.bN,D.ek,D.add,D.dI,D.mul])
    |none=>
     simp only[l,eC,bC]at h;obtain⟨I,u,rfl,rfl⟩:=h;rw[dJ h1 hp.1 e,dJ h2 hp.2.1 j];have K:n≠0:=hp.2.2;cases op<;>simp only[Ws,bg]at u<;>first
      |(cases u;done)
      |(
        subst u;refine⟨_,?_,.sym _ _ (.lit _)⟩;simp[eqGuard,binOp,Op.intDiv,K,D.rem,D.quo])
   .cases h
  .split at h
   .rename_i G m H n h1 h2;simp only[bg,bC]at h;obtain⟨rfl,rfl⟩:=h;rw[gX h1 hp.1 e,gX h2 hp.2.1 j];have C:m.size+n.size<=4611686018427387904:=hp.2.2;refine⟨_,?_,.sym _ _ (.lit _)⟩;simp[eqGuard,binOp,Op.stringOp,D.Uc];omega
   .cases h
  .cases h
def Rk{op:UnOp}(h:unT i op a=Z (p,d))(hp:p)(e:aK g w a va) :
  ∃v,(Op.unary op va).run P w=.ok v w∧aK g w (.sym d) v:=by
 unfold unT at h;split at h
 .simp only[eC,bC]at h;obtain⟨⟨q,r⟩,b,rfl,rfl⟩:=h;rw[iH b hp e];exact⟨_,rfl,.sym _ _ (.lit _)⟩
 .simp only[eC,bC]at h;obtain⟨⟨q,r⟩,b,rfl,rfl⟩:=h;rw[dJ b hp e];refine⟨_,rfl,?_⟩;simp only[D.neg];rw[show(0:Int)-r=-r from by omega];exact .sym _ _ (.lit _)
 .cases h
def MB{src dst:TypeId}{j:TI}(hi:mU P src i)(C:mU P dst j)(h:HW i j s a=Z (p,t,s'))(hp:p)(z:aK g w a va) :
  ∃v,(convert src dst va).run P w=.ok v w∧aK g w t v∧s'=s:=by
 obtain⟨_,d1,_,_,u,_,_,_,_,d⟩:=hi.all;obtain⟨_,d2,_,_,y,_,_,_,_,e⟩:=C.all;unfold HW at h;split at h
 .rename_i k l m r;simp only[eC,bC]at h;obtain⟨⟨q,n⟩,G,rfl,rfl,rfl⟩:=h;rw[m]at d;rw[r]at e;simp only[Nd]at d e;subst d;subst e;rw[dJ G hp z];exact⟨_,by simp[convert,aM u,aM y,Conv.intToInt];rfl,.sym _ _ (.lit _),rfl⟩
 .rename_i m r;simp only[eC,bC]at h;obtain⟨⟨q,b⟩,H,rfl,rfl,rfl⟩:=h;rw[m]at d;rw[r]at e;simp only[Nd]at d e;subst d;subst e;have B:=gX H hp z;subst B;exact⟨_,by simp[convert,aM u,aM y],z,rfl⟩
 .cases h
def Ew(h:oQ s k a=Z (p,t,s'))(hp:p)(q:aK g w a va) :
  ∃v,(Instr.extract va k).run P w=.ok v w∧aK g w t v∧s'=s:=by
 cases q with
 |gm u b j l=>
  simp only[oQ,jq,eC,bC]at h;obtain⟨y,m,_,rfl,rfl⟩:=h;have e:k<b.size:=by rw[<-j];exact aF m
  refine⟨b[k],by simp[Instr.extract,ov e],l k _ _ m (ov e),rfl⟩
 |sym d v r=>
  simp only[oQ,bg,bC]at h;obtain⟨rfl,rfl,rfl⟩:=h;cases r with
  |gm ds b j l=>
   have i:k<ds.length:=by have:Nat.blt k (cz ds)=W:=hp;rw[bK]at this;exact fQ this
   have e:k<b.size:=by rw[<-j];exact i
   refine⟨b[k],by simp[Instr.extract,ov e],.sym _ _ ?_,rfl⟩;refine l k _ _ ?_ (ov e);simp[D.proj,List.getD,fP i]
  |_=>cases hp
 |_=>simp[oQ]at h
def add_zero'(a:Addr):a.add 0=a:=by simp[Addr.add]
def Am{ty:TypeId}(hi:mU P ty i)(h:oP i s k a=Z (p,t,s'))(L:aK g w a va) :
  ∃v,(Instr.fieldAt ty va k).run P w=.ok v w∧aK g w t v∧s'=s:=by
 obtain⟨_,d1,_,_,r,_,_,_,_,m⟩:=hi.all;unfold oP at h;split at h
 .rename_i fs u;rw[u]at m;obtain⟨fields,rfl,M,hf⟩:=m;split at h
  .rename_i off size O I;rw[jq]at I;obtain⟨f,j,d',y,z,B,C,_⟩:=hf k off size O I;rcases af h with⟨_,h⟩|⟨K,h⟩
   .cases h
   .have G:j.size≠0:=by rw[C];intro e;rw[e]at K;cases K
    have l:∀q,(Instr.fieldAt ty (.pointer (Z q)) k).run P w=.ok (.pointer (Z (q.add off))) w:=by intro q;simp[Instr.fieldAt,Instr.sureAddr,aM r,y,fieldPlace,dB B,G,z]
    cases L with
    |ptr o b bl R=>simp only[bg,bC]at h;obtain⟨_,rfl,rfl⟩:=h;refine⟨_,l _,?_,rfl⟩;rw[nc];exact .ptr _ _ _ R
    |mD d b q val H S U=>simp only[bg,bC]at h;obtain⟨_,rfl,rfl⟩:=h;refine⟨_,l _,?_,rfl⟩;rw[uE];exact .mD _ _ _ _ H S U
    |kA o e j' b len cap sz q X=>simp only[bg,bC]at h;obtain⟨_,rfl,rfl⟩:=h;refine⟨_,l _,?_,rfl⟩;rw[uE,Nat.add_assoc];exact .kA _ _ _ _ _ _ _ _ X
    |_=>simp at h
  .cases h
 .cases h
def KK{t:TypeId}{x:TypeInfo}{d:TypeDesc}(hi:P.info? t=Z x)(e:P.underlying t=Z d)(vs:Array Value)(off:Nat)(hl:off+x.size<=vs.size)(h1:dN d=J->x.size=1) :
  (part t vs off).run P w=.ok (if dN d then .agg ((vs.toList.drop off).take x.size).toArray else((vs.toList.drop off).take x.size).headD undef) w:=by
 simp only[part,Sem.run_bind,rH e,Result.andThen_ok];cases g:dN d with
 |true=>
  simp only[fR,Sem.run_bind,dB hi,Result.andThen_ok,Sem.run_pure]
  congr 2
  apply Dt;simp
 |false=>
  have i:=h1 g;have b:off<vs.size:=by omega
  rw[i];simp[ov b];have:(vs.toList.drop off).take 1=[vs[off]]:=by rw[Qj (by simpa using b)];simp
  rw[this];rfl
def Jq{ty:TypeId}(hi:mU P ty i)(h:Es i s k a=Z (p,t,s'))(hp:p)(U:aK g w a va) :
  ∃v,(Instr.field ty va k).run P w=.ok v w∧aK g w t v∧s'=s:=by
 obtain⟨_,d1,_,_,C,X,m,_,_,r⟩:=hi.all;unfold Es at h;split at h
 .rename_i fs G;rw[G]at r;obtain⟨fields,rfl,hsz,hf⟩:=r;split at h
  .rename_i off size ag q cs hn hc;rw[jq]at hn;obtain⟨f,j,d',H,I,K,d,L,u⟩:=hf k off size ag hn;rcases af h with⟨M,h⟩|⟨_,h⟩
   .have y:=beq_iff'.1 (zX.1 M).1;rw[bK]at y;simp only[eC,bC]at h;obtain⟨t',ht,rfl,rfl,rfl⟩:=h;obtain⟨z,hlen⟩:=n7 hc hp U;obtain⟨_,_,_,O,_⟩:=lD hc hp U;obtain⟨R,rfl⟩:=O (by rw[m];rfl);simp only[Value.cells]at z;have b:=(z.drop off).take size;obtain⟨B,h1⟩:=u9 (g:=g) (w:=w) ht b.1 b.2;have l:((R.toList.drop off).take size).length=size:=by rw[<-b.1,y]
    have hs0:size≠0:=by simp only[dR]at M;intro e;subst e;exact absurd M.2 (by decide)
    have S:off+size<=R.size:=by simp at l;omega
    refine⟨_,?_,B,rfl⟩;have hr:=KK (P:=P) (w:=w) K L R off (by rw[d];exact S) (λhd=>by
     rw[<-u]at hd;obtain⟨v,hv⟩:=h1 hd;rw[hv]at l;rw[d];exact l.symm)
    rw[d,<-u]at hr;simp only[Instr.field,Sem.run_bind,aM C,Result.andThen_ok,H,asAgg,Sem.run_pure,I,hr]
   .cases h
  .cases h
 .cases h
end
end
section
section
variable {P:Program}{g:Gh}{w:World}
def Ba{ty e:TypeId}{j:TypeInfo}(b:P.underlying ty=Z (.slice e))(d:P.info? e=Z j)(a:Addr)(len cap:Nat)(n:Int)(h:0<=n∧n<len) :
  (Instr.indexAt ty (.slice (Z a) len cap) (.int .i64 n)).run P w=.ok (.pointer (Z (a.add (n.toNat *j.size)))) w:=by
 simp[Instr.indexAt,asIntOf,aM b,dB d,h]
variable {s s':St}{t x ix:T}{v vx vi:Value}{p:Prop}{es:List D}{i:TI}
def KC(hs:bh g s w)(h:qz s t=Z (p,es))(hp:p)(I:aK g w t v)
  (hf:freeze s (pI t)=Z s') :
  ∃g',bh g' s' w∧Ext s.fl g w g' w∧s'.fl=s.fl∧s'.aH=s.aH∧ee g'.bA w (.sl es) v:=by
 cases I with
 |emp a=>
  simp only[qz,bg,bC]at h;simp only[pI,freeze,bg]at hf;subst hf;exact⟨g,hs,Ext.refl _ _ _,rfl,rfl,by
   rw[<-h.2];exact .sl [] a 0 0 (λ_ _=>undef) (by simp) (by simp) (by simp) (λh=>absurd rfl h) (λi j d c h=>by simp at h)⟩
 |jy n l a M m=>simp only[qz,bg,bC]at h;simp only[pI,freeze,bg]at hf;subst hf;obtain⟨_,rfl⟩:=h;exact⟨g,hs,Ext.refl _ _ _,rfl,rfl,m⟩
 |nQ j d c a K m=>simp only[qz,bg,bC]at h;simp only[pI,freeze,bg]at hf;subst hf;obtain⟨_,rfl⟩:=h;exact⟨g,hs,Ext.refl _ _ _,rfl,rfl,zd K m⟩
 |sym d v m=>simp only[qz,bg,bC]at h;simp only[pI,freeze,bg]at hf;subst hf;obtain⟨rfl,rfl⟩:=h;rw[D.vk hp]at m;exact⟨g,hs,Ext.refl _ _ _,rfl,rfl,m⟩
 |sh o e len cap sz a B=>
  simp only[pI]at hf;have key:∀q b(l:List D)era,s.ob.get o=Z (fB q b l era)->(bif Nat.beq e era then Z (True,l)else Y)=Z (p,es)->
    s.ob.get o=Z (fB q b es e):=by
   intro q b l era r h;rcases af h with⟨L,h⟩|⟨_,h⟩
   .have C:=beq_iff'.1 L;simp only[bg,bC]at h;rw[r,h.2,C]
   .cases h
  have y:∃q b,s.ob.get o=Z (fB q b es e):=by
   simp only[qz]at h;split at h
   .rename_i b l era r;exact⟨_,_,key J b l era r h⟩
   .rename_i b l era r;exact⟨_,_,key W b l era r h⟩
   .cases h
  obtain⟨q,b,r⟩:=y;obtain⟨g',z,G,u⟩:=eo [o] hs hf (λk H=>by
   simp at H;subst H;exact⟨dy (hs.lt' B) hs.aH,.inl ⟨e,_,B,.inl ⟨q,b,es,r⟩⟩⟩)
  have m:=z.IA (u.hit o (by simp) q b es e r) (G.arr _ _ _ B);exact⟨g',z,G,u.fl,u.aH,m⟩
 |_=>simp[qz]at h
def vz{I:Nat->Prop}(h:ee I w (.sl es) v):∃a cap,v=.slice a es.length cap∧es.length<=cap∧(∀d∈es,es.length*d.qu<=281474976710656)∧(es≠[]->∃ad sz,a=Z ad∧(∀d∈es,d.cells.length=sz)∧I ad.block∧
  ∃val:Nat->Nat->Value,(∀i j d c,es[i]?=Z d->d.cells[j]?=Z c->w.cell? (ad.add (i*sz+j))=Z (val i j))∧
   (∀i j d c,es[i]?=Z d->d.cells[j]?=Z c->ee I w c (val i j))):=by
 cases h with|sl _ a cap sz val b e g l m=>refine⟨a,cap,rfl,b,g,λk=>?_⟩;obtain⟨ad,h1,h2,h3⟩:=l k;exact⟨ad,sz,h1,e,h2,val,h3,m⟩
def Af{ty:TypeId}(hi:mU P ty i)(hs:bh g s w)(h:kq i s x ix=Z (p,t,s'))(hp:p)
  (hx:aK g w x vx) (L:aK g w ix vi):∃v,(Instr.indexAt ty vx vi).run P w=.ok v w∧aK g w t v∧s'=s:=by
 obtain⟨_,d1,_,_,M,_,_,_,_,O⟩:=hi.all;unfold kq at h;split at h
 .rename_i sz ag bt zero q n nt hn;rw[nt]at O;obtain⟨e,j,d',z,rfl,hj,R,_,_,_,_,_,hpos,_⟩:=O;have gen:∀{es:List D}{q':Prop},qz s x=Z (q',es)->q'->D.Gg n (D.len es)->(D.el es (D.nat n)).wide sz->(∀o e,x≠.sh o e)->q->∃v,(Instr.indexAt ty vx vi).run P w=.ok v w∧aK g w (.mD (D.el es (D.nat n)) 0) v:=by
   intro es q' l XW u hw r hq;have C:=dJ hn hq L;subst C;have G:n.toNat<es.length:=by have h1:=u.1;have h2:=u.2;unfold D.len at h2;omega
   have S:es≠[]:=by intro e;rw[e]at G;simp at G
   have hd':ee g.bA w (.sl es) vx:=by
    cases hx with
    |sym d v U=>simp only[qz,bg,bC]at l;obtain⟨rfl,rfl⟩:=l;rw[<-D.vk XW];exact U
    |jy m es' a hm U=>simp only[qz,bg,bC]at l;obtain⟨_,rfl⟩:=l;exact U
    |emp a=>simp only[qz,bg,bC]at l;exact absurd l.2.symm S
    |nQ j d c a hj U=>simp only[qz,bg,bC]at l;obtain⟨_,rfl⟩:=l;exact zd hj U
    |sh o e len cap sz a hx=>exact absurd rfl (r o e)
    |_=>simp[qz]at l
   obtain⟨a,cap,rfl,hcap,_,H⟩:=vz hd';obtain⟨ad,y,rfl,B,SC,val,hc,hr⟩:=H S;have I:=D.Jv G;have X:y=sz:=by have h1:=B (D.el es n.toNat) (gY I);exact h1.symm.trans hw
   subst X;refine⟨_,Ba M hj ad _ _ n ⟨u.1,?_⟩,?_⟩
   .have:=u.2;unfold D.len at this;exact this
   .rw[R,<-add_zero' (ad.add (n.toNat *y))];refine .mD _ 0 (ad.add (n.toNat *y)) (val n.toNat) (by rw[kN];exact SC) (λk c hk=>?_) (λk c hk=>hr _ _ _ _ I hk);rw[uE];exact hc _ _ _ _ I hk
  split at h
  .rename_i o e';split at h
   .rename_i z' es Jn;rcases af h with⟨hb,h3⟩|⟨_,h3⟩
    .have hzz:=beq_iff'.1 hb;simp only[bg,bC]at h3;obtain⟨rfl,rfl,rfl⟩:=h3;clear h hb;subst hzz;have C:=dJ hn hp.1 L;subst C;cases hx with
     |sh _ _ len cap y a hxa=>
     obtain⟨fz,ho⟩:=H8 Jn;obtain⟨K,B⟩:=hs.m9 ho hxa;simp only at B;subst B;have h1:=hp.2.1;have h2:=hp.2.2;unfold D.len at h2;have hl:=K.len;have hc:=K.cap;simp only at hl hc;obtain⟨b,vs,ety,hab,_⟩:=K.mem (by simp only;omega);simp only at hab;subst hab;refine⟨_,Ba M hj _ _ _ n ⟨h1,by omega⟩,?_,rfl⟩;rw[R];exact .kA o e' n.toNat 0 _ _ _ _ hxa
    .cases h3
   .cases h
  .rename_i x' r;split at h
   .rename_i q' es l;simp only[bg,bC]at h;obtain⟨rfl,rfl,rfl⟩:=h;obtain⟨v,h1,h2⟩:=gen l hp.2.1 hp.2.2.1 hp.2.2.2 (λo e he=>r o e he) hp.1;exact⟨v,h1,h2,rfl⟩
   .cases h
 .cases h
def get!_some{b:ByteArray}{k:Nat}(h:k<b.size):b[k]?=Z (b.get! k):=by
 rw[getElem?_pos b k h]
 congr 1
 show b.data[k]=b.data[k]!;rw[getElem!_pos b.data k h]
def Ji{ty:TypeId}(hi:mU P ty i)(h:Ej i s x ix=Z (p,t,s'))(hp:p)
  (l:aK g w x vx) (e:aK g w ix vi):∃v,(Instr.index ty vx vi).run P w=.ok v w∧aK g w t v∧s'=s:=by
 obtain⟨_,d1,_,_,j,_,_,_,_,d⟩:=hi.all;unfold Ej at h;split at h
 .rename_i q n u b k m r;rw[k]at d;simp only[Nd]at d;subst d;simp only[bg,bC]at h;obtain⟨rfl,rfl,rfl⟩:=h;rw[dJ m hp.1 e,gX r hp.2.1 l];have h1:=hp.2.2.1;have h2:=hp.2.2.2;unfold D.CZ at h2;refine⟨_,?_,.sym _ _ (.lit _),rfl⟩;simp only[Instr.index,asIntOf,Sem.run_bind,Sem.run_pure,Result.andThen_ok,aM j];rw[bJ h1,get!_some (by omega)];rfl
 .cases h
def qv{zero:List D}{cells:Array Value}(h:ZOk zero cells):(zero.map oC).length=cells.size∧
  ∀(j:Nat)(t:T)(v:Value),(zero.map oC)[j]?=Z t->cells[j]?=Z v->aK g w t v:=by
 refine⟨by simpa using h.1,λj t v h1 h2=>?_⟩;simp only[gK,eC]at h1;obtain⟨d,b,rfl⟩:=h1;rcases h.2 j d v b h2 with⟨rfl,rfl⟩|rfl
 .exact .emp Y
 .unfold oC;split
  .rename_i heq;simp only[D.lit.injEq]at heq;subst heq;exact .kb _
  .rename_i heq;simp only[D.lit.injEq]at heq;subst heq;exact .kn _ _
  .rename_i heq;cases heq
  .exact .sym _ _ (.lit _)
def Gu{ty xt:TypeId}(hi:mU P ty i){ok:Bool}(h:pT i s ty ok x=Z (p,t,s'))
  (X:aK g w x vx) :
  ∃v,(Instr.typeAssert vx xt ty ok).run P w=.ok v w∧aK g w t v∧s'=s:=by
 obtain⟨xi,d1,z,q,r,_,Zw,y,B,SB⟩:=hi.all;obtain⟨H,I⟩:=hi.zag xi z q y;have K:i.kd≠.iface->∀C,P.underlying ty≠Z (.interface C):=λb C L=>b (hi.nif C L);unfold pT at h;have d:i.kd≠.iface->∀u v,(Instr.typeAssert (.iface u v) xt ty ok).run P w=((if u=ty then pure (if ok then .tuple #[v,.bool W]else v)else
   if ok then do pure (.tuple #[<-zeroValue ty,.bool J])else runtimePanic (.typeAssertion (Z xt) (Z u) ty "")):Sem Value).run P w:=by
  intro b u v;simp only[Instr.typeAssert,Sem.run_bind,aM r,Result.andThen_ok];cases d1 with|interface C=>exact absurd r (K b C)|_=>rfl
 split at h
 .cases h
 .rename_i u v b;have b:i.kd≠.iface:=λe=>b e;cases X with
  |cR _ _ vv M=>
  rcases af h with⟨k,h⟩|⟨k,h⟩
  .have l:=beq_iff'.1 k;simp only[bg,bC]at h;obtain⟨_,rfl,rfl⟩:=h;clear k;subst l;refine⟨_,by rw[d b,bJ rfl];rfl,.gm _ _ rfl (λj t v h1 h2=>?_),rfl⟩
   match j with
   |0=>simp at h1 h2;subst h1;subst h2;exact M
   |1=>simp at h1 h2;subst h1;subst h2;exact .kb _
   |j+2=>simp at h1
  .have O:u≠ty:=λe=>by rw[e]at k;have:=GU ty;rw[this]at k;cases k
   simp only[eC,bC]at h;obtain⟨tz,R,_,rfl,rfl⟩:=h;obtain⟨S,m⟩:=qv (g:=g) (w:=w) B;have G:aK g w tz z:=by
    rcases DF R with⟨U,rfl⟩|⟨U,L⟩
    .obtain ⟨vs,rfl⟩:=H U;exact .agg _ _ S m
    .have:=I U;rw[L,this]at m;exact m 0 _ _ rfl rfl
   refine⟨_,by rw[d b,br O];simp only[fR,Sem.run_bind,ei q y,Result.andThen_ok,Sem.run_pure];rfl,.gm _ _ rfl (λj t v h1 h2=>?_),rfl⟩
   match j with
   |0=>simp at h1 h2;subst h1;subst h2;exact G
   |1=>simp at h1 h2;subst h1;subst h2;exact .kb _
   |j+2=>simp at h1
 .rename_i u v b;have b:i.kd≠.iface:=λe=>b e;cases X with
  |cR _ _ vv M=>
  rcases af h with⟨k,h⟩|⟨k,h⟩
  .have l:=beq_iff'.1 k;simp only[bg,bC]at h;obtain⟨_,rfl,rfl⟩:=h;clear k;subst l;exact⟨_,by rw[d b,bJ rfl];rfl,M,rfl⟩
  .cases h
 .cases h
end
end
section
section
variable {P:Program}{g:Gh}{w:World}
inductive O9(g:Gh)(w:World):Option T->Option Value->Prop where
 |no:O9 g w Y Y
 |yes (t:T) (v:Value) (h:aK g w t v):O9 g w (Z t) (Z v)
variable {l:Option T}{p:Prop}{low:Option Value}{lo hi:Int}{s s':St}{x t:T}{vx:Value}
def jN{dflt n:Int}{v:Option Value}(h:uz dflt l=Z (p,n))(hp:p)(b:O9 g w l v) :
  (v=Y∧l=Y∧n=dflt)∨(v=Z (.int .i64 n)∧∃t,l=Z t):=by
 cases b with|no=>simp only[uz,bg,bC]at h;exact .inl ⟨rfl,rfl,h.2.symm⟩|yes t v d=>exact .inr ⟨by rw[dJ h hp d],t,rfl⟩
def run_sliceBound(n:Int)(y:Nat)(code:BoundsCode)(h:0<=n∧n<=y):(Instr.sliceBound (.int .i64 n) y code).run P w=.ok n.toNat w:=by simp[Instr.sliceBound,asIntOf,h]
def qD(b:Bool)(len cap:Nat){high:Option Value}(hl:(low=Y∧lo=0)∨low=Z (.int .i64 lo))(g:(high=Y∧hi=len)∨high=Z (.int .i64 hi))
  (d:0<=lo) (h1:lo<=hi) (h2:hi<=cap):(Instr.sliceBounds b len cap low high Y).run P w=.ok (lo.toNat,hi.toNat,cap) w:=by
 have e:((hi.toNat:Nat):Int)=hi:=by omega
 rcases hl with⟨rfl,rfl⟩|rfl<;>rcases g with⟨rfl,rfl⟩|rfl
 .simp[Instr.sliceBounds]
 .simp[Instr.sliceBounds,run_sliceBound hi cap _ ⟨by omega,h2⟩]
 .simp[Instr.sliceBounds,run_sliceBound lo len _ ⟨d,h1⟩]
 .simp[Instr.sliceBounds,run_sliceBound hi cap _ ⟨by omega,h2⟩,run_sliceBound lo hi.toNat _ ⟨d,by omega⟩]
def qC(b:Bool)(len cap:Nat){d:Int}(hl:(low=Y∧lo=0)∨low=Z (.int .i64 lo))
  (g:0<=lo) (h1:lo<=hi) (h2:hi<=d) (h3:d<=cap):(Instr.sliceBounds b len cap low (Z (.int .i64 hi)) (Z (.int .i64 d))).run P w=.ok (lo.toNat,hi.toNat,d.toNat) w:=by
 have e:((hi.toNat:Nat):Int)=hi:=by omega
 have i:((d.toNat:Nat):Int)=d:=by omega
 rcases hl with⟨rfl,rfl⟩|rfl
 .simp[Instr.sliceBounds,run_sliceBound d cap _ ⟨by omega,h3⟩,run_sliceBound hi d.toNat _ ⟨by omega,by omega⟩]
 .simp[Instr.sliceBounds,run_sliceBound d cap _ ⟨by omega,h3⟩,run_sliceBound hi d.toNat _ ⟨by omega,by omega⟩,run_sliceBound lo hi.toNat _ ⟨g,by omega⟩]
def My{I:Nat->Prop}{es:List D}{a:Option Addr}{len cap sz:Nat}(h:ee I w (.sl es) (.slice a len cap))(r:D.rows es sz)(K:D.cut lo hi (D.len es))
  (m:Nat) (R:hi.toNat<=m) (B:m<=cap) :
  (D.sub es lo hi).length=hi.toNat-lo.toNat∧ee I w (.sl (D.sub es lo hi)) (.slice (if m=lo.toNat then a else a.map (·.add (lo.toNat *sz))) (hi.toNat-lo.toNat) (m-lo.toNat)):=by
 obtain⟨S,C,G,H,u,l⟩:=vz h;simp only[Value.slice.injEq]at G;obtain⟨rfl,rfl,rfl⟩:=G;obtain⟨U,h1,h2⟩:=K;unfold D.len at h2;have g:(D.sub es lo hi).length=hi.toNat-lo.toNat:=by simp[D.sub];omega
 refine⟨g,?_⟩;have cL:∀i d,(D.sub es lo hi)[i]?=Z d->es[lo.toNat+i]?=Z d:=by
  intro i d b;simp only[D.sub,Dr,vK]at b;split at b
  .exact b
  .cases b
 have k:∀d∈D.sub es lo hi,d∈es:=λd b=>Qf (List.mem_of_mem_drop b);rw[<-g];by_cases p:es=[]
 .subst p;have:D.sub [] lo hi=[]:=by simp[D.sub]
  rw[this];exact .sl [] _ _ sz (λ_ _=>undef) (by simp) (by simp) (by simp) (λh=>absurd rfl h) (λi j d c h=>by simp at h)
 .obtain ⟨L,e,rfl,s,v,val,q,M⟩:=l p;have y:e=sz:=by obtain⟨d,ds,rfl⟩:=Qk p;rw[<-s d (by simp),r d (by simp)]
  subst y;refine .sl _ _ _ e (λi j=>val (lo.toNat+i) j) (by omega) (λd b=>r d (k d b)) (λd b=>fC (vM _ (by omega)) (u d (k d b))) (λt=>?_) (λi j d c b z=>M _ _ _ _ (cL i d b) z);have O:0<(D.sub es lo hi).length:=Ds.2 t;refine⟨L.add (lo.toNat *e),by rw[br (by omega)];rfl,by rw[kN];exact v,λi j d c b z=>?_⟩;rw[uE,show lo.toNat *e+(i*e+j)=(lo.toNat+i)*e+j by rw[BQ];omega];exact q _ _ _ _ (cL i d b) z
def Iy{ty:TypeId}{i:TI}(hi:mU P ty i)(hs:bh g s w){h m:Option T}{vl vh vm:Option Value}
  (d:oe i s x l h m=Z (p,t,s')) (hp:p) (hx:aK g w x vx) (hl:O9 g w l vl) (hh:O9 g w h vh) (hm:O9 g w m vm) :
  ∃g' v,(Instr.sliceAt ty vx vl vh vm).run P w=.ok v w∧bh g' s' w∧Ext s.fl g w g' w∧aK g' w t v∧s'.fl=s.fl∧s'.aH=s.aH:=by
 obtain⟨_,d1,_,_,S,_,_,_,_,K⟩:=hi.all;unfold oe at d;split at d
 .rename_i p0 lo nt hlo;rw[nt]at K;simp only[Nd]at K;subst K;split at d
  .rename_i q b hb;split at d
   .rename_i r I k;simp only[bg,bC]at d;obtain⟨rfl,rfl,rfl⟩:=d;obtain⟨c0,c1,U⟩:=hp.2.2.2;unfold D.CZ at U k;rw[gX hb hp.2.1 hx];cases hm;refine⟨g,_,?_,hs,Ext.refl _ _ _,.sym _ _ (.lit _),rfl,rfl⟩;have L:=jN hlo hp.1 hl;have u:=jN k hp.2.2.1 hh;have B:=qD (P:=P) (w:=w) J b.size b.size (L.imp (λh=>⟨h.1,h.2.2⟩) (·.1)) (u.imp (λh=>⟨h.1,h.2.2⟩) (·.1)) c0 c1 U;simp[Instr.sliceAt,Instr.slice,aM S,B,D.Yd]
   .cases d
  .cases d
 .rename_i sz ag bt zero p0 lo nt hlo;rw[nt]at K;obtain⟨e,j,d',z,rfl,hj,LX,_,_,_,_,_,hpos,_⟩:=K;split at d
  .rename_i q es s1 VD hfr;have L:=λC=>jN hlo C hl;split at d
   .rename_i r I k;simp only[bg,bC]at d;obtain⟨rfl,rfl,rfl⟩:=d;cases hm;obtain⟨C,hq,hr,G,M⟩:=hp;obtain⟨g',hs',O,hfl,R,hd⟩:=KC hs VD hq hx hfr;obtain⟨a,cap,rfl,X,_⟩:=vz hd;obtain⟨c0,c1,U⟩:=M;unfold D.len at U;have u:=jN k hr hh;obtain⟨_,H⟩:=My hd G ⟨c0,c1,U⟩ cap (by omega) (bP _);refine⟨g',_,?_,hs',O,.sym _ _ H,hfl,R⟩;have B:=qD (P:=P) (w:=w) W es.length cap ((L C).imp (λh=>⟨h.1,h.2.2⟩) (·.1)) (u.imp (λh=>⟨h.1,h.2.2⟩) (·.1)) c0 c1 (by omega:I<=cap);simp only[Instr.sliceAt,Instr.slice,Sem.run_bind,aM S,Result.andThen_ok,dB hj,LX,B];rfl
   .rename_i r I y th k;cases hm with
    |yes _ vy hy=>
    split at d
    .simp only[bg,bC]at d;obtain⟨rfl,rfl,rfl⟩:=d;obtain⟨C,hq,hr,e1,e2⟩:=hp;obtain⟨a,cap,rfl,X⟩:=PV hs VD hq hx;have u:=jN k hr hh;cases hy;rcases u with⟨_,h',_⟩|⟨hv,_⟩
     .cases h'
     .subst hv;have z0:lo=0:=e1;have z1:I=0:=e2;refine⟨g,_,?_,hs,Ext.refl _ _ _,.emp a,rfl,rfl⟩;have B:=qC (P:=P) (w:=w) W es.length cap ((L C).imp (λh=>⟨h.1,h.2.2⟩) (·.1)) (by omega) (by omega:lo<=I) (by omega:I<=0) (by omega);simp only[Instr.sliceAt,Instr.slice,Sem.run_bind,aM S,Result.andThen_ok,dB hj,LX,B];subst z0;subst z1;rfl
    .simp only[eC,bC]at d;obtain⟨⟨t',mx⟩,hmx,rfl,rfl,rfl⟩:=d;obtain⟨C,hq,hr,ht,G,M,rfl⟩:=hp;obtain⟨g',hs',O,hfl,R,hd⟩:=KC hs VD hq hx hfr;obtain⟨a,cap,rfl,X,_⟩:=vz hd;obtain⟨c0,c1,U⟩:=M;unfold D.len at U;have u:=jN k hr hh;obtain⟨hlen,H⟩:=My hd G ⟨c0,c1,U⟩ mx.toNat (bP _) (by omega);rw[dJ hmx ht hy];rcases u with⟨_,h',_⟩|⟨hv,_⟩
     .cases h'
     .subst hv;rw[<-hlen]at H;refine⟨g',.slice (if mx.toNat=lo.toNat then a else a.map (·.add (lo.toNat *sz))) (D.sub es lo mx).length (D.sub es lo mx).length,?_,hs',O,.jy 0 _ _ (BP _) H,hfl,R⟩;have B:=qC (P:=P) (w:=w) W es.length cap ((L C).imp (λh=>⟨h.1,h.2.2⟩) (·.1)) c0 c1 (Int.le_refl _) (by omega:mx<=cap);simp only[Instr.sliceAt,Instr.slice,Sem.run_bind,aM S,Result.andThen_ok,dB hj,LX,B,hlen];rfl
   .cases d
  .cases d
 .cases d
def Hx{E:Env}(hs:bh g s w){argTypes:Array TypeId}{rt:TypeId}(I:∀k i,E.ti k=Z i->mU P k i)
  (h:eX E s .len argTypes [x]=Z (p,t,s')) (hp:p) (H:aK g w x vx) :
  ∃v,(Builtin.len_ argTypes rt #[vx]).run P w=.ok v w∧aK g w t v∧s'=s:=by
 unfold eX at h;simp only[]at h;have y:∀i,(nth argTypes.toList 0).bind E.ti=Z i->∃ty,argTypes[0]?=Z ty∧mU P ty i:=by intro i hi;rw[jq]at hi;simp only[rL]at hi;obtain⟨ty,h1,h2⟩:=hi;exact⟨ty,by simpa using h1,I _ _ h2⟩
 have l:∀i q B,(nth argTypes.toList 0).bind E.ti=Z i->(∃a b c d,i.kd=.slice a b c d)->qz s x=Z (q,B)->q->
   ∃v,(Builtin.len_ argTypes rt #[vx]).run P w=.ok v w∧aK g w (.sym (.lit (.int .i64 (D.len B)))) v:=by
  intro i q B hi u r K;obtain⟨ty,h1,h2⟩:=y i hi;obtain⟨_,d1,_,_,C,_,_,_,_,m⟩:=h2.all;obtain⟨a,b,c,d,u⟩:=u;rw[u]at m;obtain⟨e,j,M,z,rfl,_⟩:=m;obtain⟨a,cap,rfl,_⟩:=PV hs r K H;refine⟨_,?_,.sym _ _ (.lit _)⟩;simp[Builtin.len_,h1,aM C,goInt,D.len]
 split at h
 .rename_i q b i L hi;split at h
  .rename_i u;simp only[bg,bC]at h;obtain⟨rfl,rfl,rfl⟩:=h;obtain⟨ty,h1,h2⟩:=y i hi;obtain⟨_,d1,_,_,C,_,_,_,_,m⟩:=h2.all;rw[u]at m;simp only[Nd]at m;subst m;rw[gX L hp H];refine⟨_,?_,.sym _ _ (.lit _),rfl⟩;simp[Builtin.len_,h1,aM C,goInt,D.CZ]
  .rename_i a b c d u;simp only[eC,bC]at h;obtain⟨⟨G,B⟩,r,rfl,rfl,rfl⟩:=h;obtain⟨v,h1,h2⟩:=l i G B hi ⟨_,_,_,_,u⟩ r hp;exact⟨v,h1,h2,rfl⟩
  .cases h
 .rename_i i _ hi;split at h
  .rename_i a b c d u;simp only[eC,bC]at h;obtain⟨⟨G,B⟩,r,rfl,rfl,rfl⟩:=h;obtain⟨v,h1,h2⟩:=l i G B hi ⟨_,_,_,_,u⟩ r hp;exact⟨v,h1,h2,rfl⟩
  .cases h
 .cases h
end
end
section
section
variable {P:Program}{g:Gh}{w:World}
variable {v:Value}{t:T}{fr:Fr}{a:Act}
def DL{d:D}(h:Bq v=Z d):d=.lit v:=by
 unfold Bq at h;split at h;all_goals try(simp only[bg]at h;exact h.symm)
 .split at h
  .rename_i b;simp only[bg]at h;rw[UD.1 b];exact h.symm
  .cases h
 .cases h
def Gc(h:ofConst v=Z t):aK g w t v:=by
 unfold ofConst at h;split at h
 .simp only[bg]at h;subst h;exact .kb _
 .simp only[bg]at h;subst h;exact .kn _ _
 .simp only[bg]at h;subst h;exact .emp _
 .split at h
  .rename_i e i;simp only[bg]at h;subst h;rw[UD.1 e,UD.1 i];exact .fn _ _ _ _ _ rfl rfl (λj t v h=>by simp at h) (λj t v h=>by simp at h)
  .cases h
 .simp only[eC]at h;obtain⟨d,b,rfl⟩:=h;rw[DL b];exact .sym _ _ (.cR _ _ _ (.lit _))
 .simp only[eC]at h;obtain⟨d,b,rfl⟩:=h;rw[DL b];exact .sym _ _ (.lit _)
def bL(hf:cF g fr a w){x:Operand}(h:jo fr x=Z t):aK g w t (a.eval x):=by
 cases x with
 |tmp k=>
  obtain⟨v,b,d⟩:=hf.tm k t h;have:a.eval (.tmp k)=v:=by simp[Act.eval,Um,b]
  rw[this];exact d
 |const v=>exact Gc h
 |global _=>cases h
 |func f=>simp only[jo,bg]at h;subst h;exact .fn _ _ _ _ _ rfl rfl (λj t v h=>by simp at h) (λj t v h=>by simp at h)
def e9{fr:Fr}{a:Act}(hf:cF g fr a w):∀{l:List Operand}{ts:List T},wm fr l=Z ts->PW (aK g w) ts (l.map a.eval)
 |[],ts,h=>by simp only[wm,bg]at h;subst h;exact⟨rfl,λj t v h=>by simp at h⟩
 |x::l,ts,h=>by
  simp only[wm]at h;split at h
  .rename_i t r h1 h2;simp only[bg]at h;subst h;have e:=e9 hf h2;refine⟨by simp[e.1],λj i v b d=>?_⟩;cases j with|zero=>simp at b d;subst b;subst d;exact bL hf h1|succ j=>exact e.2 j i v (by simpa using b) (by simpa using d)
  .cases h
def nU(g:Gh)(w:World)(a:Nat×T)(b:Nat×Value):Prop:=a.1=b.1∧aK g w a.2 b.2
def nH{fr:Fr}{a:Act}(hf:cF g fr a w):∀{l:List (Nat×Operand)}{ts:List (Nat×T)},p9 fr l=Z ts->PW (nU g w) ts (l.map λ(i,x)=>(i,a.eval x))
 |[],ts,h=>by simp only[p9,bg]at h;subst h;exact⟨rfl,λj t v h=>by simp at h⟩
 |(k,x)::l,ts,h=>by
  simp only[p9]at h;split at h
  .rename_i t r h1 h2;simp only[bg]at h;subst h;have e:=nH hf h2;refine⟨by simpa using e.1,λj m v b d=>?_⟩;cases j with|zero=>simp at b d;subst b;subst d;exact⟨rfl,bL hf h1⟩|succ j=>exact e.2 j m v (by simpa using b) (by simpa using d)
  .cases h
def xb(hf:cF g fr a w){x:Option Operand}{t:Option T}(h:Lz fr x=Z t):O9 g w t (x.map a.eval):=by cases x with|none=>simp only[Lz,bg]at h;subst h;exact .no|some x=>simp only[Lz,eC]at h;obtain⟨u,b,rfl⟩:=h;exact .yes _ _ (bL hf b)
def Ah(off:Nat):∀(l:List Value)(b:Nat)(cells:Array Value),off+b+l.length<=cells.size->
  (l.zipIdx b).foldl (λcs x=>cs.setIfInBounds (off+x.2) x.1) cells=(cells.toList.take (off+b)++l++cells.toList.drop (off+b+l.length)).toArray
 |[],b,cells,h=>by simp
 |c::l,b,cells,h=>by
  simp only[fc]at h;simp only[List.zipIdx_cons,Bh];rw[Ah off l (b+1) _ (by simp;omega)]
  congr 1
  simp only[Array.toList_setIfInBounds,fc];have d:off+(b+1)=off+b+1:=by omega
  have e:off+b+1+l.length=off+b+(l.length+1):=by omega
  rw[d,e];have h1:(cells.toList.set (off+b) c).take (off+b+1)=cells.toList.take (off+b)++[c]:=by rw[List.take_add_one,List.take_set,Dq,bJ rfl,bJ (by simp;omega)];rw[List.set_eq_of_length_le (by simp;omega)];rfl
  have h2:(cells.toList.set (off+b) c).drop (off+b+(l.length+1))=cells.toList.drop (off+b+(l.length+1)):=by rw[List.drop_set,bJ (by omega)]
  rw[h1,h2];simp
def uh{place:Nat->Option (Nat×TI)}{pl:Nat->Option (Nat×Nat)}(e:∀k off i,place k=Z (off,i)->pl k=Z (off,i.size)) :
  ∀(ps:List (Nat×T))(vs:List (Nat×Value)){cells:List T}{cs:Array Value}{p:Prop}{r:List T},Bv place cells ps=Z (p,r)->p->PW (nU g w) ps vs->PW (aK g w) cells cs.toList->
   ∃rs,Instr.fill pl cs vs=Z rs∧PW (aK g w) r rs.toList
 |[],[],cells,cs,p,r,h,hp,_,y=>by simp only[Bv,bg,bC]at h;obtain⟨_,rfl⟩:=h;exact⟨cs,rfl,y⟩
 |(k,t)::ps,(X,v)::vs,cells,cs,p,r,h,hp,d,y=>by
  have G:=d.2 0 _ _ rfl rfl;obtain⟨rfl,M⟩:=G;simp only at M;have u:PW (nU g w) ps vs:=⟨by simpa using d.1,λj a b O H=>d.2 (j+1) a b (by simpa using O) (by simpa using H)⟩;simp only[Bv]at h;split at h
  .cases h
  .rename_i off i I;split at h
   .cases h
   .rename_i q l R;rcases af h with⟨H,h⟩|⟨_,h⟩
    .simp only[eC,bC]at h;obtain⟨⟨p',r'⟩,S,rfl,rfl⟩:=h;have z:=fQ H;rw[bK,bK]at z;obtain⟨B,K⟩:=n7 R hp.1 M;have C:v.cells.size=l.length:=by simpa using B.1.symm
     have U:cells.length=cs.size:=by simpa using y.1
     have s:off+v.cells.toList.length<=cs.size:=by simp only[He];have:off+l.length<=cells.length:=z;omega
     have m:=Ah off v.cells.toList 0 cs (by simpa using s);simp only[Bg]at m;obtain⟨rs,h1,h2⟩:=uh e ps vs (cs:=(cs.toList.take off++v.cells.toList++cs.toList.drop (off+v.cells.toList.length)).toArray) S hp.2.2 u (by
      rw[bK];simp only[He,C];exact((y.take off).append B).append (y.drop _))
     refine⟨rs,?_,h2⟩;have L:¬(v.cells.size≠i.size||off+v.cells.size>cs.size)=W:=by simp only[He]at s;simp[C,K];omega
     simp only[Instr.fill,e _ _ _ I];rw[br L,<-h1,<-m]
     congr 1
     rw[<-Array.foldl_toList,Array.toList_zipIdx]
    .cases h
 |[],_::_,_,_,_,_,_,_,d,_=>by simp[PW]at d
 |_::_,[],_,_,_,_,_,_,d,_=>by simp[PW]at d
def wh{α β:Type}(f:α->Sem β)(r:α->β):∀(l:List α),(∀x∈l,(f x).run P w=.ok (r x) w)->(l.mapM f).run P w=.ok (l.map r) w
 |[],_=>rfl
 |x::l,h=>by have h1:=h x (by simp);have h2:=wh f r l (λy b=>h y (by simp[b]));simp[List.mapM_cons,h1,h2]
def MQ{ty:TypeId}{i:TI}(hi:mU P ty i){fs:List (Nat×Nat×Bool)}(B:i.kd=.struct fs){ps:List (Nat×T)}{vs:Array (Nat×Value)}(C:PW (nU g w) ps vs.toList)
  {p:Prop} {cs:List T} (h:Bv (λk=>match nth fs k with|some (off,size,ag)=>Z (off,{(default:TI)with size:=size,agg:=ag})|none=>Y) (i.zero.map oC) ps=Z (p,cs)) (hp:p) :
  ∃v,(Instr.build ty vs).run P w=.ok v w∧aK g w (.agg cs) v:=by
 obtain⟨xi,d1,z,G,H,_,U,I,m,q⟩:=hi.all;rw[B]at q;obtain⟨fields,rfl,K,hf⟩:=q;have r:=qv (g:=g) (w:=w) m;have L:∀f:Field,∃n:Nat,f∈fields.toList->(Go.sizeOf f.type).run P w=.ok n w:=by
  intro f;by_cases S:f∈fields.toList
  .obtain ⟨k,B,rfl⟩:=s9 S;have M:k<fs.length:=by rw[<-K];simpa using B
   obtain⟨l,j,X,h1,h2,h3,h4,_⟩:=hf k (fs[k]).1 (fs[k]).2.1 (fs[k]).2.2 (fP M);have:l=fields.toList[k]:=by
    have d:fields.toList[k]?=Z l:=by simpa using h1
    rw[fP B]at d;exact(eK d).symm
   subst this;exact⟨j.size,λ_=>dB h3 w⟩
  .exact ⟨0,λh=>absurd h S⟩
 obtain⟨sz,e⟩:=RJ L;have s:=wh (P:=P) (w:=w) (λf:Field=>Functor.map (Prod.mk f.offset) <| Go.sizeOf f.type) (λf=>(f.offset,sz f)) fields.toList (λf hf=>by simp[e f hf]);obtain⟨rs,h1,h2⟩:=uh (g:=g) (w:=w) (pl:=λk=>((fields.toList.map λf=>(f.offset,sz f)).toArray)[k]?) (λk off ti b=>by
  simp only[jq]at b;split at b
  .rename_i u size ag O;simp only[bg,bC]at b;obtain⟨rfl,rfl⟩:=b;obtain⟨l,j,X,h1,h2,h3,h4,_⟩:=hf k u size ag O;have y:l∈fields.toList:=by
    have d:fields.toList[k]?=Z l:=by simpa using h1
    exact gY d
   have R:=e l y;rw[dB h3]at R;simp only[Result.ok.injEq,and_true]at R;simp[h1,h2,<-R,h4]
  .cases b) ps vs.toList h hp C ⟨by simpa using r.1,λj t v h1 h2=>r.2 j t v h1 (by simpa using h2)⟩
 refine⟨.agg rs,?_,.agg _ _ (by simpa using h2.1) (λj t v h3 h4=>h2.2 j t v h3 (by simpa using h4))⟩;simp only[Instr.build,Sem.run_bind,ei G I,aM H,Result.andThen_ok,Array.mapM_eq_mapM_toList];simp at h1;simp[s,h1]
end
end
section
section
variable {P:Program}{g:Gh}{w:World}
variable {s:St}{w':World}{I:Nat->Prop}{ag:Bool}{sz len:Nat}{d:D}{v:Value}{i:TI}{es zero:List D}{cells:Array Value}
def bh.U0(hs:bh g s w)(o:Obj)(z:w'.heap=w.heap.push o)(t:w'.os=w.os)(m:w'.output=w.output) :
  bh (g.jX (·=w.heap.size)) s w'∧Ext s.fl g w (g.jX (·=w.heap.size)) w':=by
 have e:∀b,b<w.heap.size->w'.heap[b]?=w.heap[b]?:=λb l=>by rw[z,Qd,br (by omega)]
 have u:w'.heap.size=w.heap.size+1:=by rw[z];simp
 have i:∀k b,bM (g.jX (·=w.heap.size)) k b->bM g k b:=λk b h=>⟨λhi=>h.1 (.inl hi),h.2⟩;have v:Ext s.fl g w (g.jX (·=w.heap.size)) w':=
  ⟨λ_ _ h=>h,λ_ _ _ h=>h,λ_ h=>.inl h,by omega,λb l _=>e b l,λk b h=>.inl (i k b h),λb h=>h.imp id λh=>.inl (by simp only at h;omega),t,m⟩
 refine⟨⟨hs.aH,hs.ai,λk c r=>?_,λk j y G=>?_,λb l=>?_,λk B b h H=>hs.lV k B b (i k b h) (i B b H)⟩,v⟩
 .have d:=hs.box k c r;refine d.ext v hs.bA (e c d.2.1) rfl ?_
  rintro(h|h)
  .exact d.1 h
  .have:=d.2.1;omega
 .have p:=hs.arr k j y G;have q:∀C,y.a=Z C->y.cap≠0->C.block<w.heap.size:=p.1;refine p.ext v hs.bA (λb l r=>⟨e b (q _ l r),⟨λh=>h.elim id λh=>?_,.inl⟩⟩) rfl rfl;have:=q _ l r;simp only at h this;omega
 .rcases l with l|l
  .have:=hs.bA b l;omega
  .omega
structure sC(I:Nat->Prop)(w:World)(sz:Nat)(es:List D)(cells:Array Value):Prop where
 size:cells.size=es.length*sz
 rows:∀d∈es,d.cells.length=sz
 rel:∀i j d c,es[i]?=Z d->d.cells[j]?=Z c->∃v,cells[i*sz+j]?=Z v∧ee I w c v
def OF(h:(bif ag then d.isAgg sz else d.leaf)=W)(h1:(ag||Nat.beq sz 1)=W)(e:ee I w d v) :
  d.cells.length=sz∧v.cells.size=sz∧∀(j:Nat)(c:D)(u:Value),d.cells[j]?=Z c->v.cells[j]?=Z u->ee I w c u:=by
 cases ag with
 |true=>
  simp at h;obtain⟨m,rfl,i,_⟩:=xk h;cases e with|agg _ p g _ l=>exact⟨i,by simp[Value.cells,<-g,i],λj c u h2 h3=>l j c u h2 h3⟩
 |false=>
  simp at h h1;subst h1;obtain⟨_,k⟩:=tW h e;have b:d.cells=[d]:=by cases d<;>first|rfl|(simp[D.leaf]at h)
  refine⟨by rw[b];rfl,by rw[k];rfl,λj c u h2 h3=>?_⟩;rw[b]at h2;rw[k]at h3;cases j with|zero=>simp at h2 h3;subst h2;subst h3;exact e|succ j=>simp at h2
def BD{s:St}(hs:bh g s w){i:TI}:∀(ps:List (Nat×T))(vs:List (Nat×Value)){es r:List D}{p:Prop}{os:List Nat},m8 s i es ps=Z (p,r,os)->p->PW (nU g w) ps vs->
  ∀o∈os,Live g s o
 |[],_,es,r,p,os,h,hp,_=>by simp only[m8,bg,bC]at h;obtain⟨_,rfl,rfl⟩:=h;intro o ho;cases ho
 |(k,t)::ps,(H,v)::vs,es,r,p,os,h,hp,e=>by
  obtain⟨rfl,u⟩:=e.2 0 _ _ rfl rfl;simp only at u;have l:PW (nU g w) ps vs:=⟨by simpa using e.1,λj a b z y=>e.2 (j+1) a b (by simpa using z) (by simpa using y)⟩;simp only[m8]at h;split at h
  .cases h
  .rename_i q d B C;rcases af h with⟨y,h⟩|⟨_,h⟩
   .simp only[eC,bC]at h;obtain⟨⟨I,K,G⟩,m,rfl,rfl,rfl⟩:=h;obtain⟨a1,_⟩:=kF hs t C hp.1 u;have a2:=BD hs ps vs m hp.2.2 l;intro o ho;rcases dY.1 ho with ho|ho
    .exact a1 o ho
    .exact a2 o ho
   .cases h
 |_::_,[],_,_,_,_,_,_,e=>by simp[PW]at e
def y9{s:St}(hs:bh g s w){sz:Nat}{ag:Bool}(h1:(ag||Nat.beq sz 1)=W){g':Gh}{s':St}(I:bh g' s' w)(he:Ext s.fl g w g' w) :
  ∀(ps:List (Nat×T))(vs:List (Nat×Value)){es r:List D}{cells:Array Value}{p:Prop}{os:List Nat},m8 s {(default:TI)with size:=sz,agg:=ag} es ps=Z (p,r,os)->p->PW (nU g w) ps vs->
   jC s s' os->sC g'.bA w sz es cells->(∀o∈os,Live g s o)∧∃rs,Instr.fill (λi=>Z (i*sz,sz)) cells vs=Z rs∧sC g'.bA w sz r rs∧r.length=es.length
 |[],[],es,r,cells,p,os,h,hp,_,_,B=>by simp only[m8,bg,bC]at h;obtain⟨_,rfl,rfl⟩:=h;exact⟨λo ho=>(by cases ho),cells,rfl,B,rfl⟩
 |(k,t)::ps,(k',v)::vs,es,r,cells,p,os,h,hp,l,K,B=>by
  obtain⟨rfl,hv⟩:=l.2 0 _ _ rfl rfl;simp only at hv;have C:PW (nU g w) ps vs:=⟨by simpa using l.1,λj a b ha S=>l.2 (j+1) a b (by simpa using ha) (by simpa using S)⟩;simp only[m8]at h;split at h
  .cases h
  .rename_i q d X hd;rcases af h with⟨S,h⟩|⟨_,h⟩
   .simp only[eC,bC]at h;obtain⟨⟨p',r',os2⟩,L,rfl,rfl,rfl⟩:=h;have M:k<es.length:=by rw[bK]at S;exact fQ S
    obtain⟨a1,a2⟩:=kF hs t hd hp.1 hv;have z1:jC s s' X:=K.sub (λo ho=>eH _ ho);have z2:jC s s' os2:=K.sub (λo ho=>iS _ ho);have Zs:=a2 g' s' I he z1;obtain⟨c1,G,c3⟩:=OF hp.2.1 h1 Zs;have z:k*sz+sz<=cells.size:=by rw[B.size];have:(k+1)*sz<=es.length*sz:=vM _ M;rw[BQ,tL]at this;exact this
    have m:=Ah (k*sz) v.cells.toList 0 cells (by simpa[G]using z);simp only[Bg,He,G]at m;have O:sC g'.bA w sz (es.set k d) (cells.toList.take (k*sz)++v.cells.toList++cells.toList.drop (k*sz+sz)).toArray:=by
     refine⟨?_,λx y=>?_,λi j x c y U=>?_⟩
     .simp only[Ld,iq,zV,He,KP,G,zT,<-B.size];omega
     .rcases Ll y with y|rfl
      .exact B.rows x y
      .exact c1
     .rw[Dq]at y;by_cases H:k=i
      .subst H;rw[bJ rfl,bJ M]at y;simp only[bg]at y;subst y;have R:j<sz:=by rw[<-c1];exact aF U
       refine⟨v.cells[j],?_,c3 j c _ U (ov (by omega))⟩;rw[NR,kY,bJ (by simp;omega),kY,br (by simp;omega)];have:k*sz+j-(List.take (k*sz) cells.toList).length=j:=by simp;omega
       rw[this];simp[G,R]
      .rw[br H]at y;obtain⟨u,hu,hd⟩:=B.rel i j x c y U;have R:j<sz:=by rw[<-B.rows x (gY y)];exact aF U
       refine⟨u,?_,hd⟩;have acK:i*sz+j<cells.size:=(IU.1 hu).1;rw[NR,kY,kY];rcases Nat.lt_or_gt_of_ne (λe=>H e.symm:i≠k)with hik|hik
       .have:(i+1)*sz<=k*sz:=vM _ hik;rw[BQ,tL]at this;rw[bJ (by simp;omega),bJ (by simp;omega),vK,bJ (by omega)];simpa using hu
       .have:(k+1)*sz<=i*sz:=vM _ hik;rw[BQ,tL]at this;rw[br (by simp[G];omega),Dr];have:k*sz+sz+(i*sz+j-(List.take (k*sz) cells.toList++v.cells.toList).length)=i*sz+j:=by simp[G];omega
        rw[this];simpa using hu
    obtain⟨b1,rs,b2,b3,b4⟩:=y9 hs h1 I he ps vs L hp.2.2 C z2 O;refine⟨λo ho=>?_,rs,?_,b3,by rw[b4];simp⟩
    .rcases dY.1 ho with ho|ho
     .exact a1 o ho
     .exact b1 o ho
    .have hno:¬(v.cells.size≠sz||k*sz+v.cells.size>cells.size)=W:=by simp[G];omega
     simp only[Instr.fill];rw[br hno,<-b2,<-m]
     congr 1
     rw[<-Array.foldl_toList,Array.toList_zipIdx]
   .cases h
 |[],_::_,_,_,_,_,_,_,_,l,_,_=>by simp[PW]at l
 |_::_,[],_,_,_,_,_,_,_,l,_,_=>by simp[PW]at l
def agX(d:D):d.qu<=24*d.cells.length:=by
 have b:∀x:D,x.lby<=24:=by intro x;unfold D.lby;split<;>omega
 have e:∀l:List D,D.mH l<=24*l.length:=by
  intro l
  induction l with|nil=>exact BP _|cons a l i=>have:=b a;simp only[D.mH,fc];show a.lby+D.mH l<=_;omega
 cases d with
 |agg g=>exact e g
 |lit v=>
  unfold D.qu;have:(D.lit v).cells.length=1:=rfl;rw[this];split<;>first|omega|exact b _|(rename_i h;cases h)
 |sl es=>exact b (.sl es)
 |cR t d=>exact b (.cR t d)
 |gm ds=>exact b (.gm ds)
def sC.S7(h:sC I w sz es cells){b:Nat}{ty:TypeId}{fz:Nat×Nat}(s:w.heap[b]?=Z (.cells cells ty fz))(t:I b){cap:Nat}(l:es.length<=cap)
  (p:∀d∈es,es.length*d.qu<=281474976710656):ee I w (.sl es) (.slice (Z ⟨b,0,Y⟩) es.length cap):=by
 have r:∀q:Nat×Nat,∃v,∀d c,es[q.1]?=Z d->d.cells[q.2]?=Z c->cells[q.1*sz+q.2]?=Z v∧ee I w c v:=by
  rintro⟨i,j⟩
  by_cases hi:i<es.length
  .by_cases k:j<(es[i]).cells.length
   .obtain ⟨v,u,y⟩:=h.rel i j _ _ (fP hi) (fP k);refine⟨v,λd c e m=>?_⟩;rw[fP hi]at e;simp only[bg]at e;subst e;rw[fP k]at m;simp only[bg]at m;subst m;exact⟨u,y⟩
   .refine ⟨undef,λd c e m=>?_⟩;rw[fP hi]at e;simp only[bg]at e;subst e;exact absurd (aF m) k
  .exact ⟨undef,λd c e _=>absurd (aF e) hi⟩
 obtain⟨val,g⟩:=RJ r;refine .sl es _ cap sz (λi j=>val (i,j)) l h.rows p (λ_=>⟨_,rfl,t,λi j d c e k=>?_⟩) (λi j d c e k=>(g (i,j) d c e k).2);rw[nc,cell?_of_block s];simpa using(g (i,j) d c e k).1
def zL(h:adv d v):ee I w d v:=by
 rcases h with⟨rfl,rfl⟩|rfl
 .exact .sl [] Y 0 0 (λ_ _=>undef) (by simp) (by simp) (by simp) (λh=>absurd rfl h) (λi j d c h=>by simp at h)
 .exact .lit _
def sC.mono{I e:Nat->Prop}{w w':World}{sz:Nat}{es:List D}{cells:Array Value}(h:sC I w sz es cells)(g:sZ I w w')(k:∀b,I b->e b):sC e w' sz es cells:=
 ⟨h.size,h.rows,λi j d c l m=>let ⟨v,p,q⟩:=h.rel i j d c l m;⟨v,p,q.mono g k⟩⟩
def Kp(b:ZOk zero cells)(h1:(ag||Nat.beq sz 1)=W)(hl:cz zero=sz) :
  sC I w sz (List.replicate len (bif ag then .agg zero else zero.getD 0 default)) ((Array.range (len*sz)).map (cells[·%cells.size]!)):=by
 rw[bK]at hl;have e:cells.size=sz:=by rw[<-b.1,hl]
 have s:(bif ag then D.agg zero else zero.getD 0 default).cells=zero:=by
  cases ag with
  |true=>rfl
  |false=>
   simp at h1;have g:zero.length=1:=by rw[hl,h1]
   match zero,g with
   |[d],_=>
    have:=b.2 0 d cells[0] rfl (ov (by omega));rcases this with⟨h,_⟩|h<;>(rw[h];rfl)
 refine⟨by simp,λd k=>?_,λi j d c hi l=>?_⟩
 .rw[UF k,s,hl]
 .have m:i<len:=by have:=aF hi;simpa using this
  have p:d=(bif ag then D.agg zero else zero.getD 0 default):=UF (gY hi);rw[p,s]at l;have q:j<sz:=by rw[<-hl];exact aF l
  have r:i*sz+j<len*sz:=by have:(i+1)*sz<=len*sz:=vM _ m;rw[BQ,tL]at this;omega
  refine⟨cells[j]'(by omega),?_,zL (b.2 j c _ l (ov (by omega)))⟩;have t:(i*sz+j)%cells.size=j:=by rw[e,wZ,Nat.mul_add_mod,Nat.mod_eq_of_lt q]
  simp[r,t];rw[getElem!_pos cells j (by omega)]
def AD{ty:TypeId}(hi:mU P ty i){O:St}(hs:bh g s w){bt:Nat}(hk:i.kd=.slice sz ag bt zero)(h1:(ag||Nat.beq sz 1)=W)(u:cz zero=sz)(h0:sz≠0)
  (hlen:len*sz<=16777216) {ps:List (Nat×T)} {vs:Array (Nat×Value)} (y:PW (nU g w) ps vs.toList) {p:Prop} {es:List D} {os:List Nat}
  (h:m8 s {(default:TI)with size:=sz,agg:=ag} (List.replicate len (bif ag then .agg zero else zero.getD 0 default)) ps=Z (p,es,os)) (hp:p) (hf:freeze s os=Z O) :
  ∃w' g' v,(Instr.buildSlice ty len vs).run P w=.ok v w'∧bh g' O w'∧Ext s.fl g w g' w'∧aK g' w' (.jy len es) v∧O.fl=s.fl∧O.aH=s.aH:=by
 obtain⟨xi,d1,z,LS,B,_,Zw,hzx,xl,C⟩:=hi.all;rw[hk]at C;obtain⟨e,j,d',R,rfl,S,G,hue,hage,U,H,_,_,_⟩:=C;have I:=BD hs ps vs.toList h hp y;obtain⟨g1,m,K,k⟩:=eo os hs hf I;have Ze:R.cells.size=sz:=by have:=H.1;rw[bK]at u;omega
 obtain⟨_,rs,b,l,X⟩:=y9 hs h1 m K ps vs.toList h hp y k (Kp H h1 u);have q:es.length=len:=by rw[X];simp
 obtain⟨Zh,r⟩:=m.U0 (w':=w.alloc (.cells rs e)) (.cells rs e) rfl rfl rfl;have t:=l.mono (r.keeps m.bA) r.bA;have hd:=t.S7 (cap:=es.length) (vC w _) (.inr rfl) (bP _) (λd hd=>by
  have h3:=agX d;rw[l.rows d hd]at h3;have h4:es.length*d.qu<=len*(24*sz):=by rw[q];exact Nat.mul_le_mul_left _ h3
  have h5:len*(24*sz)=24*(len*sz):=by rw[<-KT,wZ len 24,KT]
  omega)
 refine⟨_,_,.slice (Z ⟨w.heap.size,0,Y⟩) es.length es.length,?_,Zh,(k.fl▸K.trans (k.fl▸r)),.jy len es _ (by omega) hd,k.fl,k.aH⟩;have hno:¬(len*sz>2 ^ 24):=by omega
 by_cases L:len*sz=0
 .have M:len=0:=by
   rcases Nat.mul_eq_zero.1 L with h|h
   .exact h
   .exact absurd h h0
  subst M;simp only[Nat.zero_mul]at b;have hr0:(Array.range 0).map (λx=>R.cells[x%R.cells.size]!)=#[]:=by simp
  rw[hr0]at b;have he0:es.length=0:=q;have hr1:Array.range 0=#[]:=by simp
  simp[hr1,Instr.buildSlice,aM B,dB S,G,b,newRow,he0]
 .simp[Instr.buildSlice,aM B,dB S,G,ei S U,hno,L,b,newRow,q]
end
end
section
section
variable {P:Program}{g:Gh}{w:World}
structure qm(I:Nat->Prop)(w:World)(sz:Nat)(es:List D)(vals:List Value):Prop where
 len:vals.length=es.length*sz
 rows:∀d∈es,d.cells.length=sz
 rel:∀i j d c,es[i]?=Z d->d.cells[j]?=Z c->∃v,vals[i*sz+j]?=Z v∧ee I w c v
variable {i j n sz:Nat}{val:Nat->Nat->Value}{v:Value}{s:St}{t:T}{p:Prop}{es:List D}{I:Nat->Prop}{vals:List Value}
def Jj(hi:i<n)(b:j<sz):i*sz+j<n*sz:=by have:(i+1)*sz<=n*sz:=vM _ hi;rw[BQ,tL]at this;omega
def Zc(b:j<sz):(i*sz+j)/sz=i∧(i*sz+j)%sz=j:=by
 have d:0<sz:=by omega
 constructor
 .rw[wZ,Nat.mul_add_div d,Nat.div_eq_of_lt b];rfl
 .rw[wZ,Nat.mul_add_mod,Nat.mod_eq_of_lt b]
def pG(sz n:Nat)(val:Nat->Nat->Value):List Value:=(List.range (n*sz)).map λk=>val (k/sz) (k%sz)
def Bb(hi:i<n)(b:j<sz):(pG sz n val)[i*sz+j]?=Z (val i j):=by obtain⟨h1,h2⟩:=Zc (i:=i) b;simp[pG,NP (Jj hi b),h1,h2]
def yh{k:Nat}(d:0<sz)(h:(pG sz n val)[k]?=Z v):∃i j,i<n∧j<sz∧k=i*sz+j∧v=val i j:=by simp only[pG,gK,eC]at h;obtain⟨g,e,rfl⟩:=h;obtain⟨rfl,b⟩:=ou e;refine⟨k/sz,k%sz,Qe (by rw[wZ];exact b),Nat.mod_lt _ d,?_,rfl⟩;rw[wZ];exact(Nat.div_add_mod k sz).symm
def qy(hs:bh g s w)(h:qz s t=Z (p,es))(hp:p)(ht:aK g w t v)(h0:0<sz)(r:D.rows es sz) :
  ∃a cap,v=.slice a es.length cap∧es.length<=cap∧(∀d∈es,es.length*d.qu<=281474976710656)∧
   (es≠[]->∃ad val,a=Z ad∧(g.bA ad.block∨∃o,pI t=[o]∧bM g o ad.block)∧
    (∀i j,i<es.length->j<sz->w.cell? (ad.add (i*sz+j))=Z (val i j))∧qm g.bA w sz es (pG sz es.length val)):=by
 have data:∀{v:Value},ee g.bA w (.sl es) v->∃a cap,v=.slice a es.length cap∧es.length<=cap∧(∀d∈es,es.length*d.qu<=281474976710656)∧
   (es≠[]->∃ad val,a=Z ad∧(g.bA ad.block∨∃o,pI t=[o]∧bM g o ad.block)∧
    (∀i j,i<es.length->j<sz->w.cell? (ad.add (i*sz+j))=Z (val i j))∧qm g.bA w sz es (pG sz es.length val)):=by
  intro v l;obtain⟨a,cap,rfl,M,U,G⟩:=vz l;refine⟨a,cap,rfl,M,U,λy=>?_⟩;obtain⟨ad,k,rfl,z,B,val,hc,X⟩:=G y;have H:k=sz:=by obtain⟨d,ds,rfl⟩:=Qk y;rw[<-z d (by simp),r d (by simp)]
  subst H;have I:∀i j(hi:i<es.length)(m:j<k),(es[i]).cells[j]?=Z ((es[i]).cells[j]'(by rw[z _ (FX hi)];exact m)):=λi j hi m=>fP _;refine⟨ad,val,rfl,.inl B,λi j hi m=>hc i j _ _ (fP hi) (I i j hi m),⟨by simp[pG],z,λi j d c l m=>?_⟩⟩;have hi:=aF l;have K:j<k:=by rw[<-z d (gY l)];exact aF m
  exact⟨val i j,Bb hi K,X i j d c l m⟩
 cases ht with
 |emp a=>simp only[qz,bg,bC]at h;obtain⟨_,rfl⟩:=h;exact⟨a,0,rfl,bP _,by simp,λh=>absurd rfl h⟩
 |jy n O a hn l=>simp only[qz,bg,bC]at h;obtain⟨_,rfl⟩:=h;exact data l
 |nQ j d c a m l=>simp only[qz,bg,bC]at h;obtain⟨_,rfl⟩:=h;exact data (zd m l)
 |sym d v l=>simp only[qz,bg,bC]at h;obtain⟨rfl,rfl⟩:=h;rw[D.vk hp]at l;exact data l
 |sh o e len cap sz2 a hx=>
  have key:∃fz k,s.ob.get o=Z (fB fz k es e):=by
   simp only[qz]at h;split at h
   .rename_i k O era R;rcases af h with⟨hb,h⟩|⟨_,h⟩
    .have L:=beq_iff'.1 hb;simp only[bg,bC]at h;exact⟨J,k,by rw[R,h.2,L];rfl⟩
    .cases h
   .rename_i k O era R;rcases af h with⟨hb,h⟩|⟨_,h⟩
    .have L:=beq_iff'.1 hb;simp only[bg,bC]at h;exact⟨W,k,by rw[R,h.2,L];rfl⟩
    .cases h
   .cases h
  obtain⟨fz,k,R⟩:=key;obtain⟨q,acu⟩:=hs.m9 R hx;have h1:=q.len;have h2:=q.cap;simp only at h1 h2;refine⟨a,cap,by rw[h1],by omega,q.X2,λy=>?_⟩;have hpos:0<es.length:=Ds.2 y;obtain⟨b,vs,ty,S,hfz,hh,hcs,C⟩:=q.mem (by simp only;omega);simp only at S;subst S;have H:k=sz:=by obtain⟨d,ds,rfl⟩:=Qk y;rw[<-q.rows d (by simp),r d (by simp)]
  subst H;have hcs':cap*k<=vs.size:=hcs;have hvs:∀i j,i<es.length->j<k->i*k+j<vs.size:=λi j hi m=>by have:=Jj (show i<cap by omega) m;omega
  refine⟨⟨b,0,Y⟩,λi j=>vs.getD (i*k+j) undef,rfl,?_,λi j hi m=>?_,⟨by simp[pG],q.rows,λi j d c l m=>?_⟩⟩
  .by_cases B:g.bA b
   .exact .inl B
   .exact .inr ⟨o,rfl,B,.inr ⟨e,_,_,hx,rfl,rfl,by simp only;omega⟩⟩
  .rw[nc,cell?_of_block hh];have:=hvs i j hi m;simp[Array.getD,this]
  .have hi:=aF l;have K:j<k:=by rw[<-q.rows d (gY l)];exact aF m
   obtain⟨u,hu,X⟩:=C i d j c l m;refine⟨u,?_,X⟩;rw[Bb hi K];simp[Um,hu]
 |_=>simp[qz]at h
def qm.one(h:qm I w sz es vals)(q:0<sz)(hf:∀d∈es,d.flat=W):∀v∈vals,v.oneCell'=W:=by
 intro v r;obtain⟨k,m,rfl⟩:=s9 r;have i:k<es.length*sz:=by rw[<-h.len];exact m
 have hi:k/sz<es.length:=Qe (by rw[wZ];exact i);have s:k%sz<sz:=Nat.mod_lt _ q;have b:=FX hi;have g:k%sz<(es[k/sz]).cells.length:=by rw[h.rows _ b];exact s
 obtain⟨u,p,t⟩:=h.rel (k/sz) (k%sz) _ _ (fP hi) (fP g);have j:k/sz*sz+k%sz=k:=by rw[wZ];exact Nat.div_add_mod k sz
 rw[j,fP m]at p;have l:=eK p;subst l;have e:=hf _ b;unfold D.flat at e;rw[eA]at e;exact(tW (e _ (FX g)) t).1
def qm.append{g:List D}{b:List Value}(h:qm I w sz es vals)(l:qm I w sz g b):qm I w sz (es++g) (vals++b):=by
 refine⟨by simp[h.len,l.len,BQ],λd e=>?_,λi j d c e p=>?_⟩
 .rcases dY.1 e with e|e
  .exact h.rows d e
  .exact l.rows d e
 .rw[kY]at e;by_cases hi:i<es.length
  .rw[bJ hi]at e;obtain⟨v,k,m⟩:=h.rel i j d c e p;refine⟨v,?_,m⟩;have:=aF k;rw[kY,bJ this];exact k
  .rw[br hi]at e;obtain⟨v,k,m⟩:=l.rel (i-es.length) j d c e p;refine⟨v,?_,m⟩;have q:es.length*sz<=i*sz:=vM _ (by omega);rw[kY,br (by rw[h.len];omega),h.len];have:i*sz+j-es.length*sz=(i-es.length)*sz+j:=by rw[Nat.sub_mul];omega
   rw[this];exact k
def qm.nil:qm I w sz [] []:=⟨by simp,by simp,λi j d c h=>by simp at h⟩
def qm.mono{I e:Nat->Prop}{w w':World}{sz:Nat}{es:List D}{vals:List Value}(h:qm I w sz es vals)(g:sZ I w w')(k:∀b,I b->e b):qm e w' sz es vals:=
 ⟨h.len,h.rows,λi j d c l m=>let ⟨v,p,q⟩:=h.rel i j d c l m;⟨v,p,q.mono g k⟩⟩
def ya(hs:bh g s w)(h:qz s t=Z (p,es))(hp:p)(G:aK g w t v)(q:0<sz)(e:D.rows es sz)(hf:∀d∈es,d.flat=W)
  {B H:TypeId} (r:P.underlying B=Z (.slice H)):∃b,Src P sz B v es.length b w∧qm g.bA w sz es b∧Builtin.lenOf v=Sem.pure es.length:=by
 obtain⟨a,cap,rfl,C,I,l⟩:=qy hs h hp G q e;by_cases m:es=[]
 .subst m;refine⟨[],?_,.nil,rfl⟩;cases a with|none=>exact Src.ofNil w r cap|some y=>exact Src.ofSlice w r y 0 cap [] (by simp) (by simp) (by simp)
 .obtain ⟨y,val,rfl,_,K,z⟩:=l m;refine⟨_,Src.ofSlice w r y es.length cap _ z.len (λk u L=>?_) (z.one q hf),z,rfl⟩;obtain⟨i,j,hi,M,rfl,rfl⟩:=yh q L;exact K i j hi M
def FJ(P:Program)(t b rt:TypeId)(vx vy:Value)(w:World)(R:Value->World->Prop):Prop:=
 ∃v w',(Builtin.append_ #[t,b] rt #[vx,vy]).run P w=.ok v w'∧R v w'
def zn{ty k rt e p:TypeId}{j:TypeInfo}{z:Value}(q:P.underlying ty=Z (.slice e))(r:P.underlying k=Z (.slice p))(s:P.info? e=Z j)(t:j.zero=Z z)(l:0<j.bytes)
  {base:Option Addr} {len cap n:Nat} {olds b:List Value} {vy:Value} (g:(Builtin.firstCells j.size len (.slice base len cap)).run P w.drew=.ok olds.toArray w.drew)
  (hs:Src P j.size k vy n b w) (u:cap<len+n) (hp:Builtin.nextslicecap (len+n) cap*j.bytes<=281474976710656) :
  FJ P ty k rt (.slice base len cap) vy w λv w'=>∃d,v=.slice (Z ⟨w.heap.size,0,Y⟩) (len+n) d∧len+n<=d∧
   w'=w.drew.alloc (.cells ((olds++b).toArray++Builtin.zeroCells z.cells (d-(len+n))) e):=by
 have y:(len+n)*j.bytes<=281474976710656:=fC (vM _ (le_nextslicecap (by omega))) hp;have m:((len+n:Nat):Int)<=9223372036854775807:=by have:len+n<=(len+n)*j.bytes:=Nat.le_mul_of_pos_right _ l;omega
 have i:=run_append_grow_src (P:=P) w ty k rt e j z q s t base len cap olds g vy n b hs u m hp;exact⟨_,_,i,_,rfl,grownCap_ge w (len+n) cap e,rfl⟩
def Fg{ty d rt e:TypeId}{j:TypeInfo}(i:P.underlying ty=Z (.slice e))(k:P.info? e=Z j){base:Option Addr}{len cap:Nat}{vy:Value}(hs:Src P j.size d vy 0 [] w)(b:len<=cap) :
  (Builtin.append_ #[ty,d] rt #[.slice base len cap,vy]).run P w=.ok (.slice base len cap) w:=by
 rcases hs.kind with⟨l,g⟩|g<;>cases base<;>
  simp[Builtin.append_,aM i,aM g,dB k,hs.len,b,hs.cells,storeCells]
end
end
section
section
variable {P:Program}{g:Gh}{w:World}
variable {o:Obj}{w':World}{sz cap n qu bt:Nat}{es:List D}{vals:List Value}{vx vy:Value}
def DA(d:w'.heap=w.heap.push o)(b:Nat)(e:b<w.heap.size):w'.heap[b]?=w.heap[b]?:=by rw[d,Qd,br (by omega)]
def Lo(b:w'.heap=w.heap.push o):w'.heap[w.heap.size]?=Z o:=by rw[b];simp
def Q0{g':Gh}(k:g'.bA=g.bA)(hi:∀b,g.bA b->b<w.heap.size){u:Array Value}{e:TypeId}
  (y:w'.heap=w.heap.push (.cells (vals.toArray++u) e)) (m:qm g.bA w sz es vals) (z:0<sz) (p:u.size=(cap-es.length)*sz) (B:es.length<=cap) (q:es≠[])
  (r:∀d∈es,es.length*d.qu<=281474976710656):uV g' w' J sz es ⟨Z ⟨w.heap.size,0,Y⟩,es.length,cap,sz⟩:=by
 have C:sZ g.bA w w':=λb s=>DA y b (hi b s);refine⟨rfl,B,m.rows,z,r,λh=>absurd h q,λ_=>⟨w.heap.size,_,e,rfl,⟨λh=>(by cases h),λh=>?_⟩,Lo y,?_,λi d j c G H=>?_⟩⟩
 .rw[k]at h;have:=hi _ h;omega
 .simp only[Array.size_append,Ld,m.len,p];rw[<-BQ];exact vM _ (by omega)
 .obtain ⟨v,l,I⟩:=m.rel i j d c G H;refine⟨v,?_,I.mono C (λb s=>by rw[k];exact s)⟩;have t:=aF l;rw[Qg,bJ (by simpa using t)];simpa using l
def vg{len:Nat}{base:Option Addr}{olds:List Value}(hl:olds.length=len*sz)(h:len≠0->∃ad,base=Z ad∧∀k u,olds[k]?=Z u->w.cell? (ad.add k)=Z u) :
  (Builtin.firstCells sz len (.slice base len cap)).run P w.drew=.ok olds.toArray w.drew:=by
 by_cases b:len=0
 .subst b;have:olds=[]:=td (by simpa using hl);subst this;cases base with|none=>exact run_firstCells_none w.drew sz 0 0 cap|some ad=>exact run_firstCells_some w.drew sz 0 ad 0 cap [] (by simp) (by simp)
 .obtain ⟨ad,rfl,d⟩:=h b;exact run_firstCells_some w.drew sz len ad len cap olds hl (λk u e=>by rw[World.cell?_drew];exact d k u e)
def FJ.mono{t b rt:TypeId}{R d:Value->World->Prop}(h:FJ P t b rt vx vy w R)(e:∀v w',R v w'->d v w'):FJ P t b rt vx vy w d:=by obtain⟨v,w',h1,h2⟩:=h;exact⟨v,w',h1,e _ _ h2⟩
def qm.S7{I:Nat->Prop}(h:qm I w sz es vals){b:Nat}{ty:TypeId}{fz:Nat×Nat}{cells:Array Value}(u:w.heap[b]?=Z (.cells cells ty fz))(y:I b)
  (g:∀(k:Nat)(v:Value),vals[k]?=Z v->cells[k]?=Z v) {cap:Nat} (p:es.length<=cap) (s:∀d∈es,es.length*d.qu<=281474976710656):ee I w (.sl es) (.slice (Z ⟨b,0,Y⟩) es.length cap):=by
 have t:∀q:Nat×Nat,∃v,∀d c,es[q.1]?=Z d->d.cells[q.2]?=Z c->cells[q.1*sz+q.2]?=Z v∧ee I w c v:=by
  rintro⟨i,j⟩
  by_cases hi:i<es.length
  .by_cases m:j<(es[i]).cells.length
   .obtain ⟨v,z,B⟩:=h.rel i j _ _ (fP hi) (fP m);refine⟨v,λd c e r=>?_⟩;rw[fP hi]at e;simp only[bg]at e;subst e;rw[fP m]at r;simp only[bg]at r;subst r;exact⟨g _ _ z,B⟩
   .refine ⟨undef,λd c e r=>?_⟩;rw[fP hi]at e;simp only[bg]at e;subst e;exact absurd (aF r) m
  .exact ⟨undef,λd c e _=>absurd (aF e) hi⟩
 obtain⟨val,l⟩:=RJ t;refine .sl es _ cap sz (λi j=>val (i,j)) p h.rows s (λ_=>⟨_,rfl,y,λi j d c e m=>?_⟩) (λi j d c e m=>(l (i,j) d c e m).2);rw[nc,cell?_of_block u];simpa using(l (i,j) d c e m).1
def Et(hf:n<=17179869184)(b:qu<=4096)(d:cap<n):Builtin.nextslicecap n cap*qu<=281474976710656:=by have h1:=nextslicecap_le d;have:Builtin.nextslicecap n cap*qu<=(2*17179869184)*4096:=KX (by omega) b;omega
def Jr(hf:n<=17179869184)(b:qu<=4096)(h:bt<=2*qu):n*bt<=281474976710656:=by have:n*bt<=17179869184*8192:=KX hf (by omega);omega
def BI{ty tx rt e e':TypeId}{m:TypeInfo}{z:Value}(Kk:P.underlying ty=Z (.slice e))(hu2:P.underlying tx=Z (.slice e'))(hji:P.info? e=Z m)(hjz:m.zero=Z z)(hzs:z.cells.size=m.size)(h0:0<m.size)
  (hb0:0<m.bytes) (Ow:m.bytes<=4096) (qg:bt<=2*m.bytes) (hI:∀b,g.bA b->b<w.heap.size) {es new:List D} {l:List Value} {x:fq} {vy:Value}
  (p:uV g w J m.size es x) (U:∀b,x.at b->b<w.heap.size) (X:∀d∈D.app es new,d.qu=bt) (G:D.rows new m.size)
  (s:Src P m.size tx vy new.length l w) (hv:qm g.bA w m.size new l) (H:D.QI es new)
  (hy:new≠[]->∃I cy,vy=.slice (Z I) new.length cy∧¬x.at I.block∧∀k,k<new.length*m.size->(w.cell? (I.add k)).isSome=W) :
  FJ P ty tx rt (.slice x.a x.len x.cap) vy w λv w'=>∃x',Rh g w m.size (D.app es new) x v w' x':=by
 obtain⟨a,len,cap,xsz⟩:=x;have hl1:=p.len;have hl2:=p.cap;simp only at hl1 hl2;subst hl1;by_cases K:new=[]
 .subst K;have Oq:l=[]:=td (by simpa using hv.len);subst Oq;have Zv:D.app es []=es:=iT es;rw[Zv];exact⟨_,_,Fg (P:=P) Kk hji s hl2,⟨a,es.length,cap,m.size⟩,rfl,rfl,rfl,rfl,bP _,λ_ _ _=>rfl,λb hb=>⟨U b hb,.inr hb⟩,⟨p.len,p.cap,p.rows,p.pos,p.X2,p.emp,p.mem⟩⟩
 .have hpos:0<new.length:=Ds.2 K;obtain⟨I,cy,rfl,QC,hyc⟩:=hy K;by_cases q:es.length+new.length<=cap
  ·
   obtain⟨b,B,S,L,hfz,hh,M,r⟩:=p.mem (by simp only;omega);simp only at L M;subst L;have aaM:¬g.bA b:=λSC=>Bool.noConfusion (hfz.2 SC);have hnl:l.length=new.length*m.size:=hv.len;have hfit:es.length*m.size+l.length<=B.size:=by have:(es.length+new.length)*m.size<=cap*m.size:=vM _ q;rw[BQ]at this;omega
   have hst:=run_storeCells_at (P:=P) b (0+es.length*m.size) S l 0 B w hh (by omega) s.one;simp only[Bg,jl]at hst;have hrun:(Builtin.append_ #[ty,tx] rt #[.slice (Z ⟨b,0,Y⟩) es.length cap,.slice (Z I) new.length cy]).run P w=
     .ok (.slice (Z ⟨b,0,Y⟩) (es.length+new.length) cap) (w.setRow b (B.toList.take (es.length*m.size)++l++B.toList.drop (es.length*m.size+l.length)).toArray):=by
    simp[Builtin.append_,aM Kk,aM hu2,dB hji,s.len,q,s.cells,nc,hst]
   have hk:sZ g.bA w (w.setRow b (B.toList.take (es.length*m.size)++l++B.toList.drop (es.length*m.size+l.length)).toArray):=
    λb' O=>setRow_other w b b' _ (λe=>aaM (e▸O))
   have CB:(⟨Z ⟨b,0,Y⟩,es.length,cap,xsz⟩:fq).at b:=⟨_,rfl,rfl,by simp only;omega⟩;refine⟨_,_,hrun,⟨Z ⟨b,0,Y⟩,es.length+new.length,cap,m.size⟩,rfl,rfl,rfl,rfl,by simp,λb' _ O=>setRow_other w b b' _ (λe=>O (e▸CB)),λb' O=>?_,
    ⟨by simp[D.app],q,λd hd=>(by
      rcases dY.1 hd with hd|hd
      .exact p.rows d hd
      .exact G d hd),h0,λd hd=>(by
      rw[X d hd];exact Jr (by simpa[D.app,D.QI]using H) Ow qg),λhh=>absurd (List.append_eq_nil_iff.1 hh).2 K,λ_=>⟨b,_,S,rfl,hfz,setRow_heap w b B _ S _ hh,(by
       have e1:(B.toList.take (es.length*m.size)++l++B.toList.drop (es.length*m.size+l.length)).toArray.size=B.size:=by simp;omega
       rw[e1];exact M),λi d j c hd hj=>(by
       have LX:j<m.size:=by
        have hrw:d.cells.length=m.size:=by
         rcases dY.1 (gY hd)with hd|hd
         .exact p.rows d hd
         .exact G d hd
        rw[<-hrw];exact aF hj
       unfold D.app at hd;rw[kY]at hd;by_cases hi:i<es.length
       .rw[bJ hi]at hd;obtain⟨v,t,hr⟩:=r i d j c hd hj;refine⟨v,?_,hr.mono hk (λ_ h=>h)⟩;have:=Jj hi LX;rw[NR,kY,bJ (by simp;omega),kY,bJ (by simp;omega),vK,bJ (by omega)];simpa using t
       .rw[br hi]at hd;obtain⟨v,t,hr⟩:=hv.rel _ j d c hd hj;refine⟨v,?_,hr.mono hk (λ_ h=>h)⟩;have hlt:=aF t;have hge:es.length*m.size<=i*m.size:=vM _ (by omega);rw[Nat.sub_mul]at t hlt;rw[NR,kY,bJ (by simp;omega),kY,br (by simp;omega)];have e1:i*m.size+j-(List.take (es.length*m.size) B.toList).length=i*m.size-es.length*m.size+j:=by simp;omega
        rw[e1];exact t)⟩⟩⟩
   obtain⟨ad,k1,k2,k3⟩:=O;simp only[bg]at k1;subst k1;simp only at k2;subst k2;exact⟨by simpa using U _ CB,.inr CB⟩
  ·
   have R:∃olds,qm g.bA w m.size es olds∧(es.length≠0->∃ad,a=Z ad∧∀k u,olds[k]?=Z u->w.cell? (ad.add k)=Z u):=by
    by_cases hes:es=[]
    .subst hes;exact⟨[],.nil,λh=>absurd rfl h⟩
    .have hepos:0<es.length:=Ds.2 hes;obtain⟨b,B,S,L,hfz,hh,M,r⟩:=p.mem (by simp only;omega);simp only at L M;subst L;have hle:es.length*m.size<=B.size:=fC (vM _ hl2) M;refine⟨B.toList.take (es.length*m.size),⟨by simp;omega,p.rows,λi j d c hd hj=>?_⟩,λ_=>⟨_,rfl,λk u hu=>?_⟩⟩
     .obtain ⟨v,t,hr⟩:=r i d j c hd hj;refine⟨v,?_,hr⟩;have LX:j<m.size:=by rw[<-p.rows d (gY hd)];exact aF hj
      rw[vK,bJ (Jj (aF hd) LX)];simpa using t
     .rw[nc,cell?_of_block hh];have hk:=aF hu;rw[vK,bJ (by simp at hk;omega)]at hu;simpa using hu
   obtain⟨olds,hvo,R⟩:=R;refine(zn (P:=P) Kk hu2 hji hjz hb0 (olds:=olds) (vg hvo.len R) s (Nat.lt_of_not_le q) (Et H Ow (Nat.lt_of_not_le q))).mono ?_
   rintro v w' ⟨C,rfl,hc,rfl⟩
   have Ze:(Builtin.zeroCells z.cells (C-(es.length+new.length))).size=(C-(es.length+new.length))*m.size:=by simp[Builtin.zeroCells,hzs]
   have y:(es++new).length=es.length+new.length:=iq;have Sz:=Q0 (g:=g) (w:=w) (g':=g) rfl hI
    (w':=w.drew.alloc (.cells ((olds++l).toArray++Builtin.zeroCells z.cells (C-(es.length+new.length))) e)) rfl (hvo.append hv) h0 (by rw[y];exact Ze) (by rw[y];exact hc)
    (λhh=>K (List.append_eq_nil_iff.1 hh).2) (λd hd=>by
     rw[X d hd];exact Jr (by simpa[D.QI]using H) Ow qg)
   rw[y]at Sz;refine⟨⟨Z ⟨w.heap.size,0,Y⟩,es.length+new.length,C,m.size⟩,rfl,rfl,rfl,rfl,by show w.heap.size<=(w.heap.push _).size;simp,λb hb _=>DA rfl b hb,λb hb=>?_,Sz⟩;obtain⟨ad,k1,k2,_⟩:=hb;simp only[bg]at k1;subst k1;simp only at k2;subst k2;exact⟨by show _<(w.heap.push _).size;simp,.inl (bP _)⟩
def wG{ty tx rt:TypeId}{i j:TI}(hi:mU P ty i)(hj:mU P tx j)(hjk:∃a b c d,j.kd=.slice a b c d){s s':St}(hs:bh g s w){x y:T}{p:Prop}{t:T}
  (h:pU i s x y=Z (p,t,s')) (hp:p) (hx:aK g w x vx) (hy:aK g w y vy) :
  FJ P ty tx rt vx vy w λv w'=>∃g',bh g' s' w'∧Ext s.fl g w g' w'∧aK g' w' t v:=by
 obtain⟨_,d1,_,_,X,_,_,_,_,SB⟩:=hi.all;obtain⟨_,d2,_,_,L,_,_,_,_,hk2⟩:=hj.all;obtain⟨_,_,_,_,hjk⟩:=hjk;rw[hjk]at hk2;obtain⟨e',_,_,_,rfl,_⟩:=hk2;unfold pU at h;rcases af h with⟨_,h⟩|⟨hnb,h⟩
 .cases h
 have hn:s.aH<bB:=by
  have:Nat.blt s.aH bB=W:=by simpa using hnb
  exact fQ this
 split at h
 .rename_i sz ag bt zero q new nt M;rw[nt]at SB;obtain⟨e,S,d',z,rfl,hji,LX,_,_,hjz,xl,Ow,h0,Jm,qg,hb0,hzl⟩:=SB;have hzs:z.cells.size=sz:=by rw[<-xl.1,hzl]
  subst LX;have O:∀{es:List D}{vals:List Value}{cap:Nat}{v:Value}{w':World},qm g.bA w S.size es vals->es≠[]->D.TK es bt->v=.slice (Z ⟨w.heap.size,0,Y⟩) es.length cap->es.length<=cap->(∀d∈es,es.length*d.qu<=281474976710656)->
    w'=w.drew.alloc (.cells (vals.toArray++Builtin.zeroCells z.cells (cap-es.length)) e)->∃g',bh g' (ef s (.arr S.size es 0)).2 w'∧Ext s.fl g w g' w'∧aK g' w' (.sh s.aH 0) v:=by
   intro es vals cap v w' hv B r hve hc hby hw;subst hw;subst hve;have Ze:(Builtin.zeroCells z.cells (cap-es.length)).size=(cap-es.length)*S.size:=by simp[Builtin.zeroCells,hzs]
   have hok:=Q0 (g:=g) (w:=w) (g':=g.era s.aH 0 ⟨Z ⟨w.heap.size,0,Y⟩,es.length,cap,S.size⟩) rfl hs.bA (w':=w.drew.alloc (.cells (vals.toArray++Builtin.zeroCells z.cells (cap-es.length)) e)) rfl hv h0 Ze hc B hby;obtain⟨U,he⟩:=hs.N1 hn (w':=w.drew.alloc (.cells (vals.toArray++Builtin.zeroCells z.cells (cap-es.length)) e)) rfl rfl (by show w.heap.size<=(w.heap.push _).size;simp) (λb hb=>DA rfl b hb)
    (x:=⟨Z ⟨w.heap.size,0,Y⟩,es.length,cap,S.size⟩) (λb hb=>by
     obtain⟨ad,h1,h2,_⟩:=hb;simp only[bg]at h1;subst h1;simp only at h2;subst h2;exact⟨bP _,by show _<(w.heap.push _).size;simp⟩) hok rfl
   exact⟨_,U,he,.sh _ _ _ _ _ _ (Gh.fy _ _ _ _)⟩
  cases hx with
  |emp a=>
   simp only[bg,bC]at h;obtain⟨rfl,rfl,rfl⟩:=h;obtain⟨hq,l,r⟩:=hp;obtain⟨K,C,hv,hlen⟩:=ya hs M hq hy h0 l (λd I=>(r d I).2) L;by_cases B:new=[]
   .subst B;have Oq:K=[]:=td (by simpa using hv.len);subst Oq;obtain⟨U,he⟩:=hs.N1 hn (w':=w) (sz:=S.size) (es:=[]) (x:=⟨a,0,0,S.size⟩) rfl rfl (bP _) (λb hb=>rfl) (λb hb=>by
     obtain⟨_,_,_,h⟩:=hb;exact absurd rfl h) ⟨rfl,bP _,by simp,h0,by simp,λ_=>rfl,λh=>absurd rfl h⟩ rfl
    exact⟨_,_,Fg (P:=P) X hji C (bP _),_,U,he,.sh _ _ _ _ _ _ (Gh.fy _ _ _ _)⟩
   .have hpos:0<new.length:=Ds.2 B;obtain⟨_,_,_,_,hby,_⟩:=qy hs M hq hy h0 l;have hfit:Builtin.nextslicecap (0+new.length) 0*S.bytes<=281474976710656:=by rw[jl,nextslicecap_zero hpos];obtain⟨d,ds,rfl⟩:=Qk B;have:=hby d (by simp);rw[(r d (by simp)).1]at this;exact fC (Nat.mul_le_mul_left _ Jm) this
    refine(zn (P:=P) X L hji hjz hb0 (olds:=[]) (vg (by simp) (λh=>absurd rfl h)) C (by omega) hfit).mono ?_
    rintro v w' ⟨R,rfl,hc,rfl⟩
    simp only[jl,w6]at *
    exact O hv B r rfl hc hby rfl
  |jy m es a hm I=>
   have hes:D.rows (D.app es new) S.size->∃olds,qm g.bA w S.size es olds∧(es.length≠0->∃ad,a=Z ad∧∀k u,olds[k]?=Z u->w.cell? (ad.add k)=Z u):=by
    intro l;obtain⟨a',R,he,_,_,VF⟩:=qy (s:=s) (t:=.jy m es) (p:=True) (es:=es) hs rfl trivial (.jy m es a hm I) h0 (λd I=>l d (eH _ I));simp only[Value.slice.injEq]at he;obtain⟨rfl,_,_⟩:=he;by_cases B:es=[]
    .subst B;exact⟨[],.nil,λh=>absurd rfl h⟩
    .obtain ⟨ad,val,rfl,_,hc,hv⟩:=VF B;refine⟨_,hv,λ_=>⟨ad,rfl,λk u hu=>?_⟩⟩;obtain⟨i,j,hi,hj,rfl,rfl⟩:=yh h0 hu;exact hc i j hi hj
   dsimp only at h;split at h
   .rename_i k es2;simp only[bg,bC]at h;obtain⟨rfl,rfl,rfl⟩:=h;obtain⟨hq,l,r,G⟩:=hp;obtain⟨K,C,hv,hlen⟩:=ya hs M hq hy h0 (λd I=>l d (iS _ I)) (λd I=>(r d (iS _ I)).2) L;obtain⟨olds,hvo,hold⟩:=hes l;have hpos:0<new.length:=by
     cases hy with
     |jy _ _ _ hk _=>
     simp only[qz,bg,bC]at M;rw[<-M.2];omega
    refine(zn (P:=P) X L hji hjz hb0 (olds:=olds) (vg hvo.len hold) C (by omega) (Et G Ow (by omega))).mono ?_
    rintro v w' ⟨R,rfl,hc,rfl⟩
    have H:(D.app es new).length=es.length+new.length:=iq;exact O (es:=D.app es new) (hvo.append hv) (λhh=>by
     have:=mJ List.length hh;rw[H,w4]at this;omega) r (by rw[H]) (by rw[H];exact hc) (λd I=>by rw[(r d I).1,H];exact Jr G Ow qg) (by rw[H])
   .simp only[bg,bC]at h;obtain⟨rfl,rfl,rfl⟩:=h;obtain⟨hq,l,r,G⟩:=hp;obtain⟨K,C,hv,hlen⟩:=ya hs M hq hy h0 (λd I=>l d (iS _ I)) (λd I=>(r d (iS _ I)).2) L;obtain⟨olds,hvo,hold⟩:=hes l;by_cases B:new=[]
    .subst B;have Oq:K=[]:=td (by simpa using hv.len);subst Oq;refine⟨_,_,Fg (P:=P) X hji C (bP _),g,hs,Ext.refl _ _ _,.sym _ _ ?_⟩;unfold D.app;rw[iT];exact I
    .have hpos:0<new.length:=Ds.2 B;refine(zn (P:=P) X L hji hjz hb0 (olds:=olds) (vg hvo.len hold) C (by omega) (Et G Ow (by omega))).mono ?_
     rintro v w' ⟨R,rfl,hc,rfl⟩
     obtain⟨U,he⟩:=hs.U0 (w':=w.drew.alloc (.cells ((olds++K).toArray++Builtin.zeroCells z.cells (R-(es.length+new.length))) e)) _ rfl rfl rfl;refine⟨_,U,he,.sym _ _ ?_⟩;have hvv:=(hvo.append hv).mono (he.keeps hs.bA) he.bA;have:=hvv.S7 (b:=w.heap.size) (Lo (w:=w) rfl) (.inr rfl) (λk v hk=>by
      have hlt:=aF hk;rw[Qg,bJ (by simpa using hlt)];simpa using hk) (cap:=R) (by rw[iq];exact hc) (λd I=>by
       rw[(r d I).1,iq];exact Jr G Ow qg)
     rw[iq]at this;exact this
  |sh o e2 len cap sz2 a hxa=>
   dsimp only at h;split at h
   .rename_i z' es era ho;rcases af h with⟨hb,h9⟩|⟨_,h9⟩
    .simp only[dR]at hb;obtain⟨⟨⟨hfl,hee⟩,hzz⟩,hno⟩:=hb;have hfl:=fQ hfl;have hee:=beq_iff'.1 hee;have hzz:=beq_iff'.1 hzz;subst hee;subst hzz;simp only[bg,bC]at h9;obtain⟨rfl,rfl,rfl⟩:=h9;obtain⟨hq,l,r,G⟩:=hp;obtain⟨hok,acu⟩:=hs.m9 (fz:=J) ho hxa;simp only at acu;subst acu;obtain⟨K,C,hv,hlen⟩:=ya hs M hq hy h0 l (λd I=>(r d (iS _ I)).2) L;obtain⟨ay,cy,rfl,_,alu,Ok⟩:=qy hs M hq hy h0 l;have hlt:=(hs.arr o e2 _ hxa).1;refine(BI (rt:=rt) X L hji hjz hzs h0 hb0 Ow qg hs.bA hok (λb hb=>?_) (λd I=>(r d I).1) l C hv G (λB=>?_)).mono ?_
     .obtain ⟨ad,k1,k2,k3⟩:=hb;exact k2▸hlt ad k1 k3
     .obtain ⟨ady,aiU,rfl,QC,hyc,_⟩:=Ok B;refine⟨ady,cy,rfl,λCB=>?_,λk hk=>?_⟩
      .have hown:bM g o ady.block:=by obtain⟨ad,k1,k2,k3⟩:=CB;obtain⟨b,vs,ety,hab,hfz,_⟩:=hok.mem k3;rw[k1]at hab;cases hab;simp only at k2;exact⟨λSC=>Bool.noConfusion (hfz.2 (k2▸SC)),.inr ⟨e2,_,_,hxa,k1,k2,k3⟩⟩
       rcases QC with SC|⟨o',ho',hO⟩
       .exact hown.1 SC
       .have:=hs.lV o o' _ hown hO;subst this;rw[ho']at hno;simp at hno
      .have h1:=hyc (k/S.size) (k%S.size) (Qe (by rw[wZ];exact hk)) (Nat.mod_lt _ h0);have hkk:k/S.size*S.size+k%S.size=k:=by rw[wZ];exact Nat.div_add_mod k _
       rw[hkk]at h1;rw[h1];rfl
     .rintro v w' ⟨x',hp⟩
      obtain⟨U,he⟩:=hs.ano ho hxa hfl hp.os hp.output hp.size hp.heap hp.at_ (hp.ok.jT rfl) hp.sz;have:=hp.val;subst this;exact⟨_,U,he,.sh _ _ _ _ x'.sz _ (Gh.fy _ _ _ _)⟩
    .cases h9
   .cases h
  |_=>simp at h
 .cases h
end
end
section
def ahT(fl:Nat)(g:Gh)(w:World)(t:T)(s':St)(r:Result Next):Prop:=
 ∃v w' g',(r=.ok (.value v) w'∨(r=.ok .skip w'∧v=undef))∧bh g' s' w'∧Ext fl g w g' w'∧aK g' w' t v
section
variable {P:Program}{g:Gh}{w:World}
variable {s s':St}{t x:T}{os:List Nat}{i:TI}{l h m:Option T}{p:Prop}
def dH{v:Value}{r:Result Next}(hs:bh g s w)(b:r=.ok (.value v) w)(d:aK g w t v)(e:s'=s):ahT s.fl g w t s' r:=
 ⟨v,w,g,.inl b,e▸hs,Ext.refl _ _ _,d⟩
def pN:∀{os:List Nat}{s s':St},freeze s os=Z s'->s'.lo=s.lo∧s'.fl=s.fl∧s'.aH=s.aH
 |[],s,s',h=>by simp only[freeze,bg]at h;rw[h];exact⟨rfl,rfl,rfl⟩
 |o::os,s,s',h=>by obtain⟨_,⟨_,_,_,_,h⟩|⟨_,_,_,_,h⟩|⟨_,h⟩|⟨_,_,_,_,_,_,_,_,_,_,_,_,_,h⟩⟩:=uf h<;>(have:=pN h;exact this)
def Ag(h:freeze s os=Z s'):s'.lo=s.lo:=(pN h).1
def SO(h:freeze s os=Z s'):s'.fl=s.fl:=(pN h).2.1
def Oy(h:freeze s os=Z s'):s'.aH=s.aH:=(pN h).2.2
def Ru(b:oe i s x l h m=Z (p,t,s')):s'=s∨freeze s (pI x)=Z s':=by
 unfold oe at b
 repeat' split at b
 all_goals first
  |(cases b;done)
  |(
    simp only[eC,bg,bC]at b;first
     |(obtain⟨_,_,_,_,rfl⟩:=b;first|exact .inl rfl|(right;assumption))
     |(obtain⟨_,_,rfl⟩:=b;first|exact .inl rfl|(right;assumption)))
def Rw(b:oe i s x l h m=Z (p,t,s')):s'.lo=s.lo:=by
 rcases Ru b with rfl|h
 .rfl
 .exact Ag h
structure zu(E:Env):Prop where
 ti:∀k i,E.ti k=Z i->mU E.P k i
 TJ:∀f fn,E.TJ f=Z fn->E.P.funcs[f]?=Z fn
def lZ{E:Env}(K:zu E){fr:Fr}{a:Act}(hf:cF g fr a w)(hs:bh g s w)(o:Oper)(h:mV E fr s o.op=Z (p,t,s'))(hp:p) :
  ahT s.fl g w t s' ((execOp a.eval o).run E.P w)∧s'.fl=s.fl∧s'.lo=s.lo∧s.aH<=s'.aH:=by
 cases B:o.op with
 |move x=>rw[B]at h;simp only[mV,eC,bC]at h;obtain⟨t',H,_,rfl,rfl⟩:=h;exact⟨dH hs (by simp[execOp,B]) (bL hf H) rfl,rfl,rfl,bP _⟩
 |assign x=>rw[B]at h;simp only[mV,eC,bC]at h;obtain⟨t',H,_,rfl,rfl⟩:=h;exact⟨dH hs (by simp[execOp,B]) (bL hf H) rfl,rfl,rfl,bP _⟩
 |pick c x y=>
  rw[B]at h;simp only[mV]at h;split at h
  .rename_i c' x' y' hc hx hy;simp only[eC,bC]at h;obtain⟨⟨q,u⟩,L,rfl,rfl,rfl⟩:=h;obtain⟨b,S,H⟩:=Lt L hp (bL hf hc) (bL hf hx) (bL hf hy);exact⟨dH hs (by simp[execOp,B,S,asBool]) H rfl,rfl,rfl,bP _⟩
  .cases h
 |alloc ty=>
  rw[B]at h;simp only[mV]at h;split at h
  .rename_i i hi;rcases af h with⟨hn,h⟩|⟨_,h⟩
   .simp only[bg,bC]at h;obtain⟨_,rfl,rfl⟩:=h;have hn':s.aH<bB:=fQ hn;obtain⟨xi,d,z,LS,_,_,_,hz,xl,_⟩:=(K.ti _ _ hi).all;obtain⟨z1,z2⟩:=qv (g:=g) (w:=w) xl;obtain⟨I,U⟩:=hs.dg hn' ty z1 z2;refine⟨⟨_,_,_,.inl ?_,I,U,.ptr s.aH 0 w.heap.size (by simp[Gh.dg])⟩,rfl,rfl,by simp[ef]⟩;simp[execOp,B,Instr.alloc,ei LS hz,newVar,newRow]
   .cases h
  .cases h
 |box ty x=>
  rw[B]at h;simp only[mV]at h;split at h
  .rename_i i v hi C;rcases af h with⟨hn,h⟩|⟨_,h⟩
   .simp only[eC,bC]at h;obtain⟨⟨q,cs⟩,hc,rfl,rfl,rfl⟩:=h;have hn':s.aH<bB:=fQ hn;obtain⟨h1,h2,h3,_⟩:=lD hc hp (bL hf C);obtain⟨I,U⟩:=hs.dg hn' ty (cs:=cs) (vs:=(a.eval x).cells) (by rw[h1,h2]) h3;refine⟨⟨_,_,_,.inl ?_,I,U,.ptr s.aH 0 w.heap.size (by simp[Gh.dg])⟩,rfl,rfl,by simp[ef]⟩;simp[execOp,B,Instr.box,newVar,newRow]
   .cases h
  .cases h
 |build ty parts=>
  rw[B]at h;simp only[mV]at h;split at h
  .rename_i i ps hi hps;split at h
   .rename_i fs hk;simp only[eC,bC]at h;obtain⟨⟨q,cs⟩,hc,rfl,rfl,rfl⟩:=h;have lO:=nH hf hps;obtain⟨v,C,H⟩:=MQ (w:=w) (g:=g) (K.ti _ _ hi) hk (vs:=parts.map λ(i,x)=>(i,a.eval x)) (by simpa using lO) hc hp;exact⟨dH hs (by simp[execOp,B,C]) H rfl,rfl,rfl,bP _⟩
   .cases h
  .cases h
 |buildSlice ty len parts=>
  rw[B]at h;simp only[mV]at h;split at h
  .rename_i i ps hi hps;split at h
   .rename_i sz ag bt zero hk;rcases af h with⟨S,h⟩|⟨_,h⟩
    .split at h
     .rename_i q es os hel;simp only[eC,bC]at h;obtain⟨s1,M,rfl,rfl,rfl⟩:=h;have lO:=nH hf hps;rw[zX]at S;obtain⟨Jm,X⟩:=S;rw[zX]at X;obtain⟨X,O⟩:=X;rw[zX]at O;obtain⟨O,Ow⟩:=O;obtain⟨w',g',v,R,I,U,H,hfl,al5⟩:=AD (K.ti _ _ hi) hs hk Jm (beq_iff'.1 X) (λe=>by
       rw[e]at O;cases O) (fQ Ow) (vs:=parts.map λ(i,x)=>(i,a.eval x)) (by simpa using lO) hel hp M
      exact⟨⟨v,w',g',.inl (by simp[execOp,B,R]),I,U,H⟩,hfl,Ag M,by omega⟩
     .cases h
    .cases h
   .cases h
  .cases h
 |load ty x=>
  rw[B]at h;simp only[mV]at h;split at h
  .rename_i i v hi C;obtain⟨u,L,H,rfl⟩:=Br (K.ti _ _ hi) hs (bL hf C) h hp;exact⟨dH hs (by simp[execOp,B,L]) H rfl,rfl,rfl,bP _⟩
  .cases h
 |store ty x y=>
  rw[B]at h;simp only[mV]at h;split at h
  .rename_i i v u hi C L;obtain⟨w',g',R,I,U,rfl⟩:=Iv (K.ti _ _ hi) hs (bL hf C) (bL hf L) h hp;refine⟨⟨undef,w',g',.inr ⟨by simp[execOp,B,R],rfl⟩,I,U,.sym _ _ (.lit _)⟩,?_⟩;unfold storeT at h;split at h
   .cases h
   .split at h
    .split at h
     .rcases af h with⟨_,h⟩|⟨_,h⟩
      .simp only[bg,bC]at h;obtain⟨_,_,rfl⟩:=h;exact⟨rfl,rfl,bP _⟩
      .cases h
     .cases h
    .split at h
     .split at h
      .rename_i M;split at h
       .rcases af h with⟨_,h⟩|⟨_,h⟩
        .simp only[bg,bC]at h;obtain⟨_,_,rfl⟩:=h;have e1:=SO M;have e2:=Ag M;have e3:=Oy M;exact⟨e1,e2,yw e3.symm⟩
        .cases h
       .cases h
      .cases h
     .cases h
    .cases h
  .cases h
 |nilCheck x=>
  rw[B]at h;simp only[mV]at h;have hx:=λ{t}(e:jo fr x=Z t)=>bL hf e;split at h;all_goals try(cases h;done)
  all_goals
   rename_i VC;have G:=hx VC;simp only[bg,bC]at h;obtain⟨rfl,rfl,rfl⟩:=h
  .generalize C:a.eval x=v at G;cases G with|ptr _ _ b S=>exact⟨dH hs (by simp[execOp,B,C]) (.ptr _ _ b S) rfl,rfl,rfl,bP _⟩
  .generalize C:a.eval x=v at G;cases G with|mD _ _ ad val h1 h2 h3=>exact⟨dH hs (by simp[execOp,B,C]) (.mD _ _ ad val h1 h2 h3) rfl,rfl,rfl,bP _⟩
  .generalize C:a.eval x=v at G;cases G with|kA _ _ _ _ _ _ _ _ h1=>exact⟨dH hs (by simp[execOp,B,C]) (.kA _ _ _ _ _ _ _ _ h1) rfl,rfl,rfl,bP _⟩
  .generalize C:a.eval x=v at G;cases G with|cR _ _ _ h1=>exact⟨dH hs (by simp[execOp,B,C]) (.cR _ _ _ h1) rfl,rfl,rfl,bP _⟩
  .generalize C:a.eval x=v at G;cases G with|fn _ _ _ _ _ h1 h2 h3 h4=>exact⟨dH hs (by simp[execOp,B,C]) (.fn _ _ _ _ _ h1 h2 h3 h4) rfl,rfl,rfl,bP _⟩
  .generalize C:a.eval x=v at G;cases G with
   |sym d _ hd=>
    cases hd with|cR _ _ _ h1=>exact⟨dH hs (by simp[execOp,B,C]) (.sym _ _ (.cR _ _ _ h1)) rfl,rfl,rfl,bP _⟩|_=>cases hp
 |binOp op ty x y yt=>
  rw[B]at h;simp only[mV]at h;split at h
  .rename_i i u v hi L C;simp only[eC,bC]at h;obtain⟨⟨q,d⟩,S,rfl,rfl,rfl⟩:=h;obtain⟨r,G,H⟩:=OV (K.ti _ _ hi) S hp (bL hf L) (bL hf C) x y;refine⟨dH hs ?_ H rfl,rfl,rfl,bP _⟩;simp only[Sem.run_bind]at G;simp only[execOp,B,Sem.run_bind];rw[G];rfl
  .cases h
 |unOp op ty x=>
  rw[B]at h;simp only[mV]at h;split at h
  .rename_i i u hi L;simp only[eC,bC]at h;obtain⟨⟨q,d⟩,S,rfl,rfl,rfl⟩:=h;obtain⟨r,G,H⟩:=Rk (P:=E.P) S hp (bL hf L);exact⟨dH hs (by simp[execOp,B,G]) H rfl,rfl,rfl,bP _⟩
  .cases h
 |convert src dst x=>
  rw[B]at h;simp only[mV]at h;split at h
  .rename_i i j u hi hj L;obtain⟨r,G,H,rfl⟩:=MB (K.ti _ _ hi) (K.ti _ _ hj) h hp (bL hf L);exact⟨dH hs (by simp[execOp,B,G]) H rfl,rfl,rfl,bP _⟩
  .cases h
 |makeInterface ty x=>
  rw[B]at h;simp only[mV]at h;split at h
  .rename_i i v hi C;have Ol:=K.ti _ _ hi;obtain⟨xi,d,z,LS,L,_⟩:=Ol.all;split at h
   .cases h
   .rename_i hk;simp only[bg,bC]at h;obtain⟨rfl,rfl,rfl⟩:=h;refine⟨dH hs (v:=.iface ty (a.eval x)) ?_ (.cR _ _ _ (bL hf C)) rfl,rfl,rfl,bP _⟩;have hni:∀ms,d≠.interface ms:=λms e=>hk (Ol.nif ms (e▸L));simp only[execOp,B,Instr.makeInterface,Sem.run_bind,aM L,Result.andThen_ok];cases d<;>first|rfl|exact absurd rfl (hni _)
  .cases h
 |makeFunc f first cap=>
  rw[B]at h;simp only[mV]at h;split at h
  .rename_i xs ys hx hy;simp only[bg,bC]at h;obtain⟨rfl,rfl,rfl⟩:=h;have h1:=e9 hf hx;have h2:=e9 hf hy;refine⟨dH hs (v:=.func f (first.map a.eval) (cap.map a.eval)) (by simp[execOp,B,Instr.makeFunc]) (.fn _ _ _ _ _ (by simpa using h1.1) (by simpa using h2.1) (λj t v k1 k2=>h1.2 j t v k1 (by simpa using k2)) (λj t v k1 k2=>h2.2 j t v k1 (by simpa using k2))) rfl,rfl,rfl,bP _⟩
  .cases h
 |extract x k=>
  rw[B]at h;simp only[mV]at h;split at h
  .rename_i v C;obtain⟨r,G,H,rfl⟩:=Ew (P:=E.P) h hp (bL hf C);exact⟨dH hs (by simp[execOp,B,G]) H rfl,rfl,rfl,bP _⟩
  .cases h
 |fieldAddr ty x k=>
  rw[B]at h;simp only[mV]at h;split at h
  .rename_i i v hi C;obtain⟨r,G,H,rfl⟩:=Am (K.ti _ _ hi) h (bL hf C);exact⟨dH hs (by simp[execOp,B,G]) H rfl,rfl,rfl,bP _⟩
  .cases h
 |field ty x k=>
  rw[B]at h;simp only[mV]at h;split at h
  .rename_i i v hi C;obtain⟨r,G,H,rfl⟩:=Jq (K.ti _ _ hi) h hp (bL hf C);exact⟨dH hs (by simp[execOp,B,G]) H rfl,rfl,rfl,bP _⟩
  .cases h
 |indexAddr ty x ix=>
  rw[B]at h;simp only[mV]at h;split at h
  .rename_i i v n hi C hn;obtain⟨r,G,H,rfl⟩:=Af (K.ti _ _ hi) hs h hp (bL hf C) (bL hf hn);exact⟨dH hs (by simp[execOp,B,G]) H rfl,rfl,rfl,bP _⟩
  .cases h
 |index ty x ix=>
  rw[B]at h;simp only[mV]at h;split at h
  .rename_i i v n hi C hn;obtain⟨r,G,H,rfl⟩:=Ji (K.ti _ _ hi) h hp (bL hf C) (bL hf hn);exact⟨dH hs (by simp[execOp,B,G]) H rfl,rfl,rfl,bP _⟩
  .cases h
 |slice ty x lo hi mx=>
  rw[B]at h;simp only[mV]at h;split at h
  .rename_i i v l hh m h1 h2 h3 h4 h5;obtain⟨g',r,G,I,U,H,hfl,al5⟩:=Iy (K.ti _ _ h1) hs h hp (bL hf h2) (xb hf h3) (xb hf h4) (xb hf h5);exact⟨⟨r,w,g',.inl (by simp[execOp,B,G]),I,U,H⟩,hfl,Rw h,by omega⟩
  .cases h
 |typeAssert x xt ty ok=>
  rw[B]at h;simp only[mV]at h;split at h
  .rename_i i v hi C;obtain⟨r,G,H,rfl⟩:=Gu (xt:=xt) (K.ti _ _ hi) h (bL hf C);exact⟨dH hs (by simp[execOp,B,G]) H rfl,rfl,rfl,bP _⟩
  .cases h
 |_=>rw[B]at h;simp[mV]at h
end
end
section
section
variable {g g' g'':Gh}{w w' w'':World}{lo fl:Nat}
def bh.grow{s:St}(hs:bh g s w){I:Nat->Prop}(u:∀b,g.bA b->I b)(l:∀b,I b->g.bA b∨w.heap.size<=b)(v:∀b,I b->b<w'.heap.size)(m:w.heap.size<=w'.heap.size)
  (d:∀b,b<w.heap.size->w'.heap[b]?=w.heap[b]?) (z:w'.os=w.os) (q:w'.output=w.output) :
  bh {g with bA:=I} s w'∧Ext fl g w {g with bA:=I} w':=by
 have i:∀k b,bM ({g with bA:=I}:Gh) k b->bM g k b:=λk b h=>⟨λhi=>h.1 (u b hi),h.2⟩;have B:Ext fl g w {g with bA:=I} w':=
  ⟨λ_ _ h=>h,λ_ _ _ h=>h,u,m,λb r _=>d b r,λk b h=>.inl (i k b h),λb h=>(l b h).imp id .inl,z,q⟩
 refine⟨⟨hs.aH,hs.ai,λk c t=>?_,λk j y H=>?_,v,λk G b h K=>hs.lV k G b (i k b h) (i G b K)⟩,B⟩
 .have e:=hs.box k c t;refine e.ext B hs.bA (d c e.2.1) rfl λC=>?_;rcases l c C with h|h
  .exact e.1 h
  .have:=e.2.1;omega
 .have p:=hs.arr k j y H;refine p.ext B hs.bA (λb r t=>⟨d b (p.1 _ r t),⟨λh=>?_,u b⟩⟩) rfl rfl;rcases l b h with h|h
  .exact h
  .have:=p.1 _ r t;simp only at this;omega
end
def mj(P:Program)(f:FuncId):Prop:=∃fn,P.funcs[f]?=Z fn∧fn.body.isSome=W∧(fn.name== "runtime.NumGoroutine")=J
def W4(I:Nat->Prop)(w:World)(d:D):Ending->World->Prop
 | .returned v,w'=>∃e:Nat->Prop,(∀b,I b->e b)∧(∀b,e b->I b∨w.heap.size<=b)∧(∀b,e b->b<w'.heap.size)∧w.heap.size<=w'.heap.size∧
   (∀b,b<w.heap.size->w'.heap[b]?=w.heap[b]?)∧w'.os=w.os∧w'.output=w.output∧ee e w' d v
 | .panicked _,_=>False
 | .outgrown,_=>False
def ahO(P:Program)(f:FuncId)(c:Nq):Prop:=
 mj P f∧∀(I:Nat->Prop)(w:World)(ds:List D)(vs:Array Value),(∀b,I b->b<w.heap.size)->ds.length=vs.size->
  (∀(j:Nat)(d:D)(v:Value),ds[j]?=Z d->vs[j]?=Z v->ee I w d v)->c.pre ds->Calls P f vs w (W4 I w (c.f ds))
structure Np(E:Env):Prop extends zu E where
 name:∀f fn,E.TJ f=Z fn->(fn.name== "runtime.NumGoroutine")=J
 Gj:∀f c,E.Gj f=Z c->ahO E.P f c
section
variable {g:Gh}{w:World}
end
end
section
section
variable {g:Gh}{w:World}
variable {s s':St}{t:T}{P:Program}{f:FuncId}{o:Oper}{c:Call}{a:Act}{fr:Fr}
def O1{i:TI}{x y:T}{p:Prop}(h:pU i s x y=Z (p,t,s')):s'.fl=s.fl∧s'.lo=s.lo∧s.aH<=s'.aH:=by
 unfold pU at h;rcases af h with⟨_,h⟩|⟨_,h⟩
 .cases h
 .split at h
  .split at h
   .simp only[bg,bC]at h;obtain⟨_,_,rfl⟩:=h;exact⟨rfl,rfl,by simp[ef]⟩
   .dsimp only at h;split at h
    .simp only[bg,bC]at h;obtain⟨_,_,rfl⟩:=h;exact⟨rfl,rfl,by simp[ef]⟩
    .simp only[bg,bC]at h;obtain⟨_,_,rfl⟩:=h;exact⟨rfl,rfl,bP _⟩
   .split at h
    .rcases af h with⟨_,h⟩|⟨_,h⟩
     .simp only[bg,bC]at h;obtain⟨_,_,rfl⟩:=h;exact⟨rfl,rfl,bP _⟩
     .cases h
    .cases h
   .cases h
  .cases h
def u6(h:mj P f)(args:Array Value):(callFunc f args).run P w=.ok (.enter f args) w:=by
 obtain⟨fn,h1,h2,h3⟩:=h;have h4:fn.body≠Y:=by intro b;rw[b]at h2;cases h2
 have h5:fn.name≠ "runtime.NumGoroutine":=by simpa using h3
 simp[callFunc,h1,h5,h4]
def ye(d:o.op=.call c){b:Operand}(e:c.callee=.value b){first cap:Array Value}(g:a.eval b=.func (.func f) first cap)(i:mj P f) :
  (execOp a.eval o).run P w=.ok (.enter f (first++c.args.map a.eval++cap)) w:=by
 simp only[execOp,d,resolve,e,Deferred.ofValue,g,Sem.run_bind,Sem.run_pure,Result.andThen_ok,invoke];exact u6 i _
def SS(hf:cF g fr a w){dst:Option Nat}(l:aeZ fr dst=W)(hn:fr.n<=bB){v:Value}(m:aK g w t v):cF g (fr.hY dst t) (a.put dst v) w:=by
 cases dst with
 |none=>exact hf
 |some d=>
  have j:d<fr.n:=fQ l;refine⟨by simp[Act.put,Fr.hY,Fr.put,hf.size],hf.df,λk p b=>?_⟩;simp only[Fr.hY,Fr.put,Fr.get]at b;rw[Tr.aX _ _ _ _ (dy j hn)]at b;by_cases i:k=d
  .subst i;rw[bJ rfl]at b;simp only[bg]at b;subst b;exact⟨v,by simp[Act.put,hf.size,j],m⟩
  .rw[br i]at b;obtain⟨u,q,r⟩:=hf.tm k p b;refine⟨u,?_,r⟩;simp only[Act.put];rw[UK (λe=>i e.symm)];exact q
structure Aft(s:St)(g:Gh)(w:World)(s':St)(g':Gh)(w':World):Prop where
 rel:bh g' s' w'
 ext:Ext s.fl g w g' w'
 fl:s'.fl=s.fl
 lo:s'.lo=s.lo
 aH:s.aH<=s'.aH
def Aft.refl{s:St}(h:bh g s w):Aft s g w s g w:=⟨h,Ext.refl _ _ _,rfl,rfl,bP _⟩
def wD{E:Env}(C:Np E)(hf:cF g fr a w)(hs:bh g s w)(z:o.op=.call c){b:Builtin}(R:c.callee=.builtin b){args:List T}
  (d:wm fr c.args.toList=Z args) {p:Prop} {t:T} (h:eX E s b c.argTypes args=Z (p,t,s')) (hp:p) {k:T->St->Prop} (S:k t s')
  {K:Act->World->Prop} {Q:Exit->Act->World->Prop} (U:∀t s' g' v w',k t s'->Aft s g w s' g' w'->aK g' w' t v->K (a.put o.dst v) w') :
  o.wp E.P a w K Q∨(o.asks E.P a w∧LetsOut Q):=by
 have e:=e9 hf d;cases b with
 |len=>
  left
  match args,d,e,h with
  |[x],d,e,h=>
   have G:c.args.size=1:=by have:=e.1;simpa using this.symm
   obtain⟨arr,q⟩:∃u,c.args=#[u]:=⟨c.args[0],by
    apply Array.ext
    .simp[G]
    .intro i h1 h2;have:i=0:=by omega
     subst this;rfl⟩
   have H:aK g w x (a.eval arr):=e.2 0 _ _ rfl (by simp[q]);obtain⟨v,hv,ht,rfl⟩:=Hx (rt:=o.type) hs C.ti h hp H;unfold Oper.wp;have l:(execOp a.eval o).run E.P w=.ok (.value v) w:=by simp[execOp,z,resolve,R,invoke,builtin,q,hv]
   rw[l];exact U t s' g v w S (Aft.refl hs) ht
  |[],_,_,h=>simp[eX]at h
  |_::_::_,_,_,h=>simp[eX]at h
 |append=>
  match args,d,e,h with
  |[x,y],d,e,h=>
   have G:c.args.size=2:=by have:=e.1;simpa using this.symm
   obtain⟨u,v,q⟩:∃u v,c.args=#[u,v]:=⟨c.args[0],c.args[1],by
    apply Array.ext
    .simp[G]
    .intro i h1 h2;have:i=0∨i=1:=by omega
     rcases this with rfl|rfl<;>rfl⟩
   have H:aK g w x (a.eval u):=e.2 0 _ _ rfl (by simp[q]);have hy:aK g w y (a.eval v):=e.2 1 _ _ rfl (by simp[q]);simp only[eX]at h;split at h
   .rename_i ty X I;split at h
    .rename_i i j hi hj;split at h
     .rename_i L;have M:c.argTypes=#[ty,X]:=by apply Dt;simpa using I
      have O:=wG (rt:=o.type) (C.ti _ _ hi) (C.ti _ _ hj) ⟨_,_,_,_,L⟩ hs h hp H hy;have B:o.op=.call {callee:=.builtin .append,args:=#[u,v],argTypes:=#[ty,X]}:=by rw[z,<-q,<-M,<-R]
      obtain⟨r,w',l,g',h1,h2,h3⟩:=O
      left
      unfold Oper.wp;have m:(execOp a.eval o).run E.P w=.ok (.value r) w':=by simp[execOp,B,resolve,invoke,builtin,l]
      rw[m];obtain⟨e1,e2,e3⟩:=O1 h;exact U t s' g' r w' S ⟨h1,h2,e1,e2,e3⟩ h3
     .cases h
    .cases h
   .cases h
  |[],_,_,h=>simp[eX]at h
  |[_],_,_,h=>simp[eX]at h
  |_::_::_::_,_,_,h=>simp[eX]at h
 |_=>simp[eX]at h
end
end
section
section
variable {g:Gh}{w:World}
def Vh{E:Env}(k:Np E){fr:Fr}{s s':St}{a:Act}(hf:cF g fr a w)(hs:bh g s w){o:Oper}{c:Call}(e:o.op=.call c)(l:c.callee=.builtin .len){args:List T}
  (b:wm fr c.args.toList=Z args) {p:Prop} {t:T} (h:eX E s .len c.argTypes args=Z (p,t,s')) (hp:p) :
  s'=s∧∃v,(execOp a.eval o).run E.P w=.ok (.value v) w∧aK g w t v:=by
 have d:=e9 hf b
 match args,b,d,h with
 |[x],b,d,h=>
  have m:c.args.size=1:=by have:=d.1;simpa using this.symm
  obtain⟨arr,j⟩:∃u,c.args=#[u]:=⟨c.args[0],by
   apply Array.ext
   .simp[m]
   .intro i h1 h2;have:i=0:=by omega
    subst this;rfl⟩
  have q:aK g w x (a.eval arr):=d.2 0 _ _ rfl (by simp[j]);obtain⟨v,r,y,rfl⟩:=Hx (rt:=o.type) hs k.ti h hp q;exact⟨rfl,v,by simp[execOp,e,resolve,l,invoke,builtin,j,r],y⟩
 |[],_,_,h=>simp[eX]at h
 |_::_::_,_,_,h=>simp[eX]at h
end
end
section
abbrev WR(r:Option Nat):Fence:={Fence.wide with round:=r}
section
variable {P:Program}{r:Option Nat}
def ij{m b:Machine}:StepsIn (Machine.fenced P (WR r)) P m b↔Steps P m b:=stepsIn_wide
variable {n id:Nat}{f:FuncId}{args tmps:Array Value}{R:Ending->World->Prop}{next:Act->World->Prop}{Q:Exit->Act->World->Prop}{fn:Func}
def OQ{w:World}:CallsIn (WR r) n P f args w R↔Calls P f args w R:=
 (callsIn_wide (n:=n):CallsIn Fence.wide n P f args w R↔_)
def KM(n:Nat):(WR r).room n:=room_wide n
def aeO{row:String}{w:World}{R:Value->World->Prop}(h:Rows P row args w R):RowsIn (WR r) n P row args w R:=
 λc cs _=>let ⟨v,b,d,e⟩:=h c cs;⟨v,b,d,ij.2 e⟩
def W6(r:Option Nat)(P:Program)(o:Oper)(a:Act)(w:World)(next:Act->World->Prop)(Q:Exit->Act->World->Prop):Prop:=
 o.uponIn (WR r) 0 P a next Q ((o.semAt r a.eval).run P w)∨(o.asks P a w∧(r≠Y->∀c,o.op≠.defer c)∧LetsOut Q)
def W6.of_wp{o:Oper}{a:Act}{w:World}(e:r≠Y->∀c,o.op≠.defer c)(h:o.wp P a w next Q∨(o.asks P a w∧LetsOut Q)):W6 r P o a w next Q:=by
 rcases h with h|⟨h1,h2⟩
 .left
  have b:o.semAt r a.eval=execOp a.eval o:=by cases r with|none=>rfl|some l=>exact Oper.semAt_eq _ _ _ (e (by simp))
  rw[b];unfold Oper.wp at h;generalize(execOp a.eval o).run P w=res at h;cases res with
  |ok x g=>cases x with|enter f args=>exact⟨λh=>by simp[Fence.wide]at h,OQ.2 h⟩|row row args=>exact⟨λh=>by simp[Fence.wide]at h,aeO h⟩|value v=>exact h|skip=>exact h|defer d=>exact h|_=>exact h.elim
  |halt x g=>cases x<;>exact h
 .exact .inr ⟨h1,e,h2⟩
def W6.mono{o:Oper}{a:Act}{w:World}{next b:Act->World->Prop}{Q:Exit->Act->World->Prop}(hn:∀a w,next a w->b a w)(h:W6 r P o a w next Q):W6 r P o a w b Q:=by
 rcases h with h|h
 .left
  generalize(o.semAt r a.eval).run P w=res at h;cases res with
  |ok x j=>cases x with|enter f args=>exact⟨h.1,h.2.mono λe i g=>by cases e<;>first|exact hn _ _ g|exact g⟩|row row args=>exact⟨h.1,h.2.mono λ_ _ g=>hn _ _ g⟩|round l f tmps assign body=>exact⟨h.1,h.2.mono λe i g=>by cases e<;>first|exact hn _ _ g|exact g⟩|value v=>exact hn _ _ h|skip=>exact hn _ _ h|defer d=>exact hn _ _ h|_=>exact h
  |halt x j=>cases x<;>exact h
 .exact .inr h
abbrev aar(r:Option Nat)(P:Program):=ArrivesIn (Machine.fenced P (WR r)) P
section
variable {b:Frame}{a:Act}{k:List Item}{cs:List Frame}{w:World}{ops:Array Oper}{i:Nat}{rest:List Nat}{o:Oper}
def RS(t:b.roundOf=r)(B:r≠Y->∀c,o.op≠.defer c)(C:ops[i]?=Z o)(hw:Region.wanted o (yielded ops a.tmps)=W)(G:b.kind≠.early)(h:o.asks P a w) :
  Outgrown P (lone (b.atR a (.inRegion ops (i::rest)::k)) cs w):=by
 have q:o.semAt b.roundOf a.eval=execOp a.eval o:=by rw[t];cases r with|none=>rfl|some l=>exact Oper.semAt_eq _ _ _ (B (by simp))
 have z:=stepGR_op (P:=P) (b:=b) (k:=k) (cs:=cs) (w:=w) (rest:=rest) C hw;rw[q]at z;have v:noRoomEvent∈(stepG P W {frame:=b.atR a (.inRegion ops (i::rest)::k),callers:=cs,status:=.running,dying:=Y} w).es:=by
  rw[z];have H:((b.atR a (.inRegion ops (i::rest)::k)).kind==CallKind.early)=J:=by simpa[Frame.atR]using G
  have y:noRoomEvent∈Sem.events P (execOp a.eval o) w #[]:=h.1;simp only[stepG.apply,Sem.runT_eq,fR,H,Bool.false_eq_true,eP];rw[GStep.es_after];refine Array.mem_append.2 (.inl (seen_keeps P _ _ ?_));have m:=h.2;cases s:(execOp a.eval o).run P w with
  |ok x I=>exact y
  |halt x I=>
   rw[s]at m;cases x with
   |unsupported u=>cases u<;>first|exact m.elim|exact y
   |blocked=>exact m.elim
   |waiting=>exact m.elim
   |_=>exact y
 refine Outgrown.now (o:={g:=0,fn:=(b.atR a (.inRegion ops (i::rest)::k)).fn,pos:=(b.atR a (.inRegion ops (i::rest)::k)).place,act:=.mark .noRoom}) ?_ rfl rfl;rw[stepT,move_lone];refine runT_lists P _ 0 {frame:=b.atR a (.inRegion ops (i::rest)::k),callers:=cs,status:=.running,dying:=Y} (by simp[lone]) _ ?_;exact mem_ofEvents (e:=noRoomEvent) (by simpa[lone]using v)
def UU(G:b.roundOf=r)(K:ops[i]?=Z o)(hw:Region.wanted o (yielded ops a.tmps)=W)(h:W6 r P o a w next Q) :
  (∃H w',next H w'∧Steps P (lone (b.atR a (.inRegion ops (i::rest)::k)) cs w) (lone (b.atR H (.inRegion ops rest::k)) cs w'))∨
  ∃e H w',Q e H w'∧aar r P (lone (b.atR a (.inRegion ops (i::rest)::k)) cs w) b k cs e H w':=by
 rcases h with h|⟨h1,h2,z,B,C⟩;rotate_left
 .by_cases R:b.kind=.early
  .exact .inr ⟨.outgrown,z,B,C,.inl R⟩
  .exact .inr ⟨.outgrown,z,B,C,.inr (RS G h2 K hw R h1)⟩
 have y:=stepGR_op (P:=P) (b:=b) (k:=k) (cs:=cs) (w:=w) (rest:=rest) K hw;rw[G]at y;have m:∀v,(b.atR a (.inRegion ops (i::rest)::k)).finish v=b.atR (a.put o.dst v) (.inRegion ops rest::k):=λv=>by rw[Frame.finish_atR,K];rfl
 generalize j:(o.semAt r a.eval).run P w=res at h;have enter:∀{fr:Frame}{w1:World},(stepG P W {frame:=b.atR a (.inRegion ops (i::rest)::k),callers:=cs,status:=.running,dying:=Y} w).bare=.go {frame:=fr,callers:=b.atR a (.inRegion ops (i::rest)::k)::cs,status:=.running,dying:=Y} w1->
   step P (lone (b.atR a (.inRegion ops (i::rest)::k)) cs w)=.next (lone fr (b.atR a (.inRegion ops (i::rest)::k)::cs) w1):=λh=>step_lone_go h
 cases res with
 |ok x w1=>cases x with
  |value v=>exact .inl ⟨_,_,h,.one (step_lone_go (by rw[y,<-m];simp[stepG.apply,j]))⟩
  |skip=>exact .inl ⟨_,_,h,.one (step_lone_go (by rw[y,<-m];simp[stepG.apply,j]))⟩
  |defer d=>have I:=Frame.finish_atR b {a with defers:=d::a.defers} ops i rest k undef;rw[K]at I;refine .inl ⟨_,_,h,.one (step_lone_go ?_)⟩;rw[y];simp only[stepG.apply,Sem.runT_eq,j,GStep.bare_after];exact mJ (λfr=>GStep.go {frame:=fr,callers:=cs,status:=.running,dying:=Y} w1) I
  |enter f args=>
   obtain⟨e,M,fr,u,g,_,s⟩:=OQ.1 h.2 (b.atR a (.inRegion ops (i::rest)::k)::cs);have h1:=enter (fr:=Frame.enter P f args .normal) (w1:=w1) (by rw[y];simp[stepG.apply,j,Frame.atR]);cases e with|returned v=>exact .inl ⟨_,_,u,.head h1 (g.trans (.one (by rw[<-m];exact step_leave_returned s)))⟩|panicked O=>exact .inr ⟨.panic O,a,M,u,.inRegion ops (i::rest)::k,ij.2 (.head h1 (g.trans (.one (by rw[<-Frame.raise_atR];exact step_leave_panicked s))))⟩|outgrown=>obtain⟨z,B,C⟩:=u;exact .inr ⟨.outgrown,z,B,C,.inr (Outgrown.of_steps (.one h1) g)⟩
  |row row args=>obtain⟨v,M,u,g⟩:=h.2 (b.atR a (.inRegion ops (i::rest)::k)) cs (KM _);have h1:=enter (fr:=Frame.ofRow P row args .normal) (w1:=w1) (by rw[y];simp[stepG.apply,j,Frame.atR]);exact .inl ⟨_,_,u,.head h1 (by rw[<-m];exact ij.1 g)⟩
  |round l f tmps assign body=>
   obtain⟨e,M,u,g⟩:=h.2.2 (b.atR a (.inRegion ops (i::rest)::k)) cs (KM _);have h1:=enter (fr:=Frame.round l f tmps assign body .normal) (w1:=w1) (by rw[y];simp[stepG.apply,j,Frame.atR]);cases e with|returned v=>exact .inl ⟨_,_,u,.head h1 (by rw[<-m];exact ij.1 g)⟩|panicked O=>exact .inr ⟨.panic O,a,M,u,.inRegion ops (i::rest)::k,ij.2 (.head h1 (by rw[<-Frame.raise_atR];exact ij.1 g))⟩|outgrown=>obtain⟨z,B,C⟩:=u;exact .inr ⟨.outgrown,z,B,C,.inr (Outgrown.of_steps (.one h1) g)⟩
  |_=>exact h.elim
 |halt x w1=>cases x with|panic v=>refine .inr ⟨_,a,w1,h,.inRegion ops (i::rest)::k,ij.2 (.one (step_lone_go ?_))⟩;rw[y,<-Frame.raise_atR];simp[stepG.apply,j]|_=>exact h.elim
end
def uH(r:Option Nat)(P:Program)(ops:Array Oper)(Q:Exit->Act->World->Prop):List Nat->Act->World->Prop
 |[],a,w=>Q .normal a w
 |i::rest,a,w=>match ops[i]? with
  |none=>uH r P ops Q rest a w
  |some o=>if Region.wanted o (yielded ops a.tmps)then W6 r P o a w (uH r P ops Q rest) Q else uH r P ops Q rest (a.put o.dst undef) w
def lY{ops:Array Oper}{Q:Exit->Act->World->Prop}:∀(l:List Nat)(a:Act)(w:World),uH r P ops Q l a w->∀(b:Frame)(k:List Item)(cs:List Frame),b.roundOf=r->
  ∃e j w',Q e j w'∧aar r P (lone (b.atR a (.inRegion ops l::k)) cs w) b k cs e j w'
 |[],a,w,h,b,k,cs,_=>⟨.normal,a,w,h,ij.2 (.one stepR_region_end)⟩
 |i::rest,a,w,h,b,k,cs,g=>by
  simp only[uH]at h;cases m:ops[i]? with
  |none=>simp only[m]at h;obtain⟨e,j,w',q,d⟩:=lY rest a w h b k cs g;have p:=stepR_op_skip (P:=P) (b:=b) (a:=a) (k:=k) (cs:=cs) (w:=w) (ops:=ops) (i:=i) (rest:=rest) (by simp[m]);simp only[m,Qb,Act.put]at p;exact⟨e,j,w',q,.of_steps (ij.2 (.one p)) d⟩
  |some o=>
   simp only[m]at h;by_cases hw:Region.wanted o (yielded ops a.tmps)=W
   .simp only[hw,fR]at h;rcases UU (k:=k) (cs:=cs) (rest:=rest) g m hw h with⟨a1,s,t,p⟩|hx
    .obtain ⟨e,j,w',q,d⟩:=lY rest a1 s t b k cs g;exact⟨e,j,w',q,.of_steps (ij.2 p) d⟩
    .exact hx
   .simp only[hw,eP,Bool.false_eq_true]at h;obtain⟨e,j,w',q,d⟩:=lY rest _ w h b k cs g;have p:=stepR_op_skip (P:=P) (b:=b) (a:=a) (k:=k) (cs:=cs) (w:=w) (ops:=ops) (i:=i) (rest:=rest) (by simp[m];simpa using hw);simp only[m,IS]at p;exact⟨e,j,w',q,.of_steps (ij.2 (.one p)) d⟩
def Ui{ops:Array Oper}{a:Act}{w:World}(h:uH r P ops Q (List.range ops.size) a w):(Code.region id ops J).wpIn (WR r) 0 P Q a w:=
 λb k cs g _ _=>let ⟨e,i,j,l,d⟩:=lY _ a w h b k cs g;⟨e,i,j,l,.of_steps (ij.2 (.one stepR_region)) d⟩
def AJ(r:Option Nat)(P:Program)(ops:Array Oper)(Q:Exit->Act->World->Prop)(i:Nat)(K:Act->World->Prop)(a:Act)(w:World):Prop:=
 match ops[i]? with
 |none=>K a w
 |some o=>if Region.wanted o (yielded ops a.tmps)then W6 r P o a w K Q else K (a.put o.dst undef) w
def AJ.mono{ops:Array Oper}{Q:Exit->Act->World->Prop}{i:Nat}{a:Act}{w:World}{K e:Act->World->Prop}(h:∀a w,K a w->e a w)(b:AJ r P ops Q i K a w):AJ r P ops Q i e a w:=by
 unfold AJ at *
 split
 .rename_i d;simp only[d]at b;exact h _ _ b
 .rename_i o d;simp only[d]at b;split
  .rename_i hw;simp only[hw,fR]at b;exact b.mono h
  .rename_i hw;simp only[hw]at b;exact h _ _ b
def aas(r:Option Nat)(P:Program)(ops:Array Oper)(Q:Exit->Act->World->Prop):Nat->Array Bool->Act->World->Prop
 |0,b,a,w=>Region.ready .any ops b=[]∧Q .normal a w
 |fuel+1,b,a,w=>(Region.ready .any ops b=[]->Q .normal a w)∧
  ∀i∈Region.ready .any ops b,AJ r P ops Q i (aas r P ops Q fuel (b.setIfInBounds i W)) a w
def RV{ops:Array Oper}(i:Nat)(rest:List Nat)(a:Act)(w:World):uH r P ops Q (i::rest) a w=AJ r P ops Q i (uH r P ops Q rest) a w:=by cases h:ops[i]?<;>simp[uH,AJ,h]
def Fh{ops:Array Oper}{Q:Exit->Act->World->Prop}:∀(fuel t:Nat)(b:Array Bool)(a:Act)(w:World),aas r P ops Q fuel b a w->uH r P ops Q (Region.linearise.go .any ops fuel t b []) a w
 |0,t,b,a,w,h=>by simpa[Region.linearise.go,uH]using h.2
 |fuel+1,t,b,a,w,h=>by
  obtain⟨g,j⟩:=h;simp only[Region.linearise.go];change uH r P ops Q (match(Region.ready .any ops b)[t%(Region.ready .any ops b).length]? with
   |some i=>Region.linearise.go .any ops fuel (t/(Region.ready .any ops b).length) (b.setIfInBounds i W) [i]
   |none=>[].reverse) a w
  generalize Region.ready .any ops b=l at *
  cases l with|nil=>simpa[uH]using g rfl|cons x e=>have d:t%(x::e).length<(x::e).length:=Nat.mod_lt _ (by simp);rw[fP d];dsimp only;rw[linearise_go_acc,List.reverse_singleton,yq,RV];exact(j _ (FX d)).mono λa w=>Fh fuel _ _ a w
def KN{ops:Array Oper}{a:Act}{w:World}(i:P.follows .mixedOrders=W)
  (h:aas r P ops Q ops.size (Array.replicate ops.size J) a {w with drawn:=w.drawn+1}):(Code.region id ops W).wpIn (WR r) 0 P Q a w:=by
 intro b k cs g _ _;have h2:∀t,uH r P ops Q (Region.schedule (P.follows .mixedOrders) ops t) a {w with drawn:=w.drawn+1}:=λt=>by simp only[Region.schedule,i,Bool.true_or,fR];exact Fh ops.size t _ a _ h
 obtain⟨e,j,l,m,d⟩:=lY _ a _ (h2 _) b k cs g;exact⟨e,j,l,m,.of_steps (ij.2 (.one stepR_region_draw)) d⟩
def Uh(P:Program)(l:Nat)(R:Ending->World->Prop):Exit->Act->World->Prop
 | .normal,_,w=>∃v b,(Instr.endRound l Y).run P w=.ok v b∧R (.returned v) b
 | .outgrown,_,w=>R .outgrown w
 |_,_,_=>False
def abM{l:Nat}{assign body:Code}{w:World}
  (h:assign.wpIn (WR (Z l)) 0 P (Exit.then (λq t=>∃s,(Instr.beginRound l).run P t=.ok () s∧body.wpIn (WR (Z l)) 0 P (Uh P l R) q s) (λe _ w=>e=.outgrown∧R .outgrown w)) {tmps:=tmps,defers:=[]} w) {n:Nat} :
  RoundIn (WR r) n P l f tmps assign body w R:=by
 refine⟨trivial,λc cs _=>?_⟩
 let b:Frame:={(default:Frame)with fn:=f,kind:=.normal,roundOf:=Z l}
 have u:Frame.round l f tmps assign body .normal=b.atR {tmps:=tmps,defers:=[]} [.code assign,.beginRound,.code body]:=by simp[Frame.round,Frame.atR,b]
 obtain⟨e,q,t,B,d⟩:=h b [.beginRound,.code body] (c::cs) rfl trivial (KM _);rw[<-u]at d;have out:∀{e:Exit}{a:Act}{i:World},(e=.outgrown∧R .outgrown i)->aar (Z l) P (lone (Frame.round l f tmps assign body .normal) (c::cs) w) b [.beginRound,.code body] (c::cs) e a i->
   ∃e i,R e i∧ComesIn (Machine.fenced P (WR r)) P (lone (Frame.round l f tmps assign body .normal) (c::cs) w) (match e with|.returned v=>lone (c.finish v) cs i|.panicked chain=>lone (c.raise chain) cs i|.outgrown=>lone c cs i) e:=by
  rintro e a i ⟨rfl,y⟩ d
  exact⟨.outgrown,i,y,d.resolve_left (by simp[b])⟩
 cases e with
 |normal=>
  obtain⟨s,z,j⟩:=B;have C:Steps P (lone (b.atR q [.beginRound,.code body]) (c::cs) t) (lone (b.atR q [.code body]) (c::cs) s):=.one (stepR_beginRound rfl z);obtain⟨G,K,H,k,g⟩:=j b [] (c::cs) rfl trivial (KM _);cases G with
  |normal=>obtain⟨v,I,p,y⟩:=k;exact⟨.returned v,I,y,ij.2 ((ij.1 d).trans (C.trans ((ij.1 g).trans (.one (stepR_round_end rfl rfl p)))))⟩
  |outgrown=>exact⟨.outgrown,H,k,Outgrown.of_steps ((ij.1 d).trans C) (g.resolve_left (by simp[b]))⟩
  |_=>exact k.elim
 |_=>exact out B d
def nV(P:Program)(fn:Func)(tmps:Array Value)(R:Ending->World->Prop):List Deferred->FrameMode->World->Prop
 |[],.returning,w=>∃v,(results fn tmps).run P w=.ok v w∧R (.returned v) w
 |[],.panicking chain,w=>R (.panicked chain) w
 |[],.run,_=>False
 |d::ds,u,w=>u≠.run∧((∃b e,d.target=.collected b∧(Instr.takeDeferred b).run P w=.ok [] e∧nV P fn tmps R ds u e)∨
   ∃i cap f args,d.target=.fn i cap∧(invoke d.target d.args).run P w=.ok (.enter f args) w∧CallsD P f args u w λ
    | .returned _,g,e=>nV P fn tmps R ds (settle g) e
    | .panicked chain,g,e=>nV P fn tmps R ds (raised g chain) e
    | .outgrown,_,e=>R .outgrown e)
def qe:∀(ds:List Deferred)(u:FrameMode)(w:World)(fr:Frame)(cs:List Frame),fr.mode=u->fr.defers=ds->fr.tmps=tmps->P.funcs[fr.fn]?=Z fn->fr.kind=.normal->nV P fn tmps R ds u w->
  ∃e w' fr',R e w'∧Comes P (lone fr cs w) (lone fr' cs w') e∧fr'.fn=fr.fn∧fr'.leaving P w' e:=by
 intro ds
 induction ds with
 |nil=>
  intro u w fr cs m B C hf G h;cases u with
  |run=>exact h.elim
  |returning=>obtain⟨v,U,p⟩:=h;exact⟨.returned v,w,fr,p,Steps.refl P _,rfl,m,B,G,fn,hf,C▸U⟩
  |panicking chain=>exact⟨.panicked chain,w,fr,h,Steps.refl P _,rfl,m,B,fn,hf⟩
 |cons d ds M=>
  intro u w fr cs m B C hf G h;obtain⟨k,h⟩:=h;rcases h with⟨b,w',i,q,r⟩|⟨fv,cap,f,args,i,H,s⟩
  .have h1:=step_collected (cs:=cs) (m▸k) B i q;obtain⟨I,K,fr',p,X,O,hl⟩:=M u w' {fr with defers:=[]++ds} cs m rfl C hf G r;exact⟨I,K,fr',p,Comes.of_steps (.one h1) X,O,hl⟩
  .have h1:=step_defer (cs:=cs) (m▸k) B i H;obtain⟨e,l,w',frX,p,g,S,L⟩:=s {fr with defers:=ds} cs m;cases e with
   |returned v=>have h2:=step_going_returned (c:={{fr with defers:=ds}with mode:=l}) (cs:=cs) S L;obtain⟨I,K,fr',t,y,j,z⟩:=M (settle l) w' {{{fr with defers:=ds}with mode:=l}with mode:=settle l} cs rfl rfl C hf G p;exact⟨I,K,fr',t,Comes.of_steps (.head h1 (Steps.trans g (.one h2))) y,j,z⟩
   |panicked chain=>have h2:=step_going_panicked (c:={{fr with defers:=ds}with mode:=l}) (cs:=cs) L;obtain⟨I,K,fr',t,y,j,z⟩:=M (raised l chain) w' {{{fr with defers:=ds}with mode:=l}with mode:=raised l chain} cs rfl rfl C hf G p;exact⟨I,K,fr',t,Comes.of_steps (.head h1 (Steps.trans g (.one h2))) y,j,z⟩
   |outgrown=>exact⟨.outgrown,w',fr,p,Outgrown.of_steps (.one h1) g,rfl,trivial⟩
def aa4(P:Program)(fn:Func)(R:Ending->World->Prop):Exit->Act->World->Prop
 | .normal,a,w|.ret,a,w=>nV P fn a.tmps R a.defers .returning w
 | .panic chain,a,w=>nV P fn a.tmps R a.defers (.panicking chain) w
 | .outgrown,_,w=>R .outgrown w
 |_,_,_=>False
def wC{c:Code}{w:World}(hf:P.funcs[f]?=Z fn)(B:fn.body=Z c)
  (h:c.wpIn (WR Y) 0 P (aa4 P fn R) {tmps:=args++Array.replicate (fn.ntmps-args.size) undef,defers:=[]} w):Calls P f args w R:=by
 intro cs
 let b:Frame:={(default:Frame)with fn:=f,kind:=.normal}
 have k:Frame.enter P f args .normal=b.at {tmps:=args++Array.replicate (fn.ntmps-args.size) undef,defers:=[]} [.code c]:=by simp[Frame.enter,Frame.at,hf,B,b]
 obtain⟨e,q,z,r,d⟩:=wpIn_wide.1 h b [] cs;rw[<-k]at d;cases e with
 |normal=>obtain⟨s,t,g,u,v,i,y⟩:=qe q.defers .returning z {b.at q []with mode:=.returning} cs rfl rfl rfl hf rfl r;exact⟨s,t,g,u,Comes.of_steps (Steps.trans d (.one step_end)) v,i,y⟩
 |ret=>obtain⟨j,p⟩:=d;obtain⟨s,t,g,u,v,i,y⟩:=qe q.defers .returning z {b.at q j with mode:=.returning} cs rfl rfl rfl hf rfl r;exact⟨s,t,g,u,Comes.of_steps p v,i,y⟩
 |panic chain=>obtain⟨j,p⟩:=d;obtain⟨s,t,g,u,v,i,y⟩:=qe q.defers (.panicking chain) z {b.at q j with mode:=.panicking chain} cs rfl rfl rfl hf rfl r;exact⟨s,t,g,u,Comes.of_steps p v,i,y⟩
 |exit id=>exact r.elim
 |goto l=>exact r.elim
 |outgrown=>exact⟨.outgrown,z,b,r,d.resolve_left (by simp[b]),rfl,trivial⟩
end
end
section
section
variable {g:Gh}{w:World}
variable {s:St}{E:Env}{fr:Fr}{a:Act}
def N8{i:TI}{x:T}{vx:Value}{r:Prop×T×St}(h:loadT i s x=Z r)(d:aK g w x vx):∃ad,vx=.pointer (Z ad):=by cases d with|ptr o off b e=>exact⟨_,rfl⟩|mD=>exact⟨_,rfl⟩|kA=>exact⟨_,rfl⟩|_=>simp[loadT]at h
def RH(tmps:Array Value):ResultVar->Sem Value
 | .tmp t=>pure (tmps.getD t undef)
 | .cell a t=>do loadVar t (<-asAddr (tmps.getD a undef))
def ot{E:Env}(m:zu E){fr:Fr}{s:St}{a:Act}(hf:cF g fr a w)(hs:bh g s w):∀{l:List ResultVar}{p:Prop}{ts:List T},j5 E s fr l=Z (p,ts)->p->
  ∃vs,(l.mapM (RH a.tmps)).run E.P w=.ok vs w∧PW (aK g w) ts vs
 |[],p,ts,h,hp=>by simp only[j5,bg,bC]at h;obtain⟨_,rfl⟩:=h;exact⟨[],rfl,rfl,λj t v h=>by simp at h⟩
 | .tmp t::l,p,ts,h,hp=>by
  simp only[j5]at h;split at h
  .rename_i x q r z B;simp only[bg,bC]at h;obtain⟨rfl,rfl⟩:=h;obtain⟨vs,h1,h2⟩:=ot m hf hs B hp;obtain⟨v,C,k⟩:=hf.tm t x z;refine⟨v::vs,?_,by simp[h2.1],λj G H b d=>?_⟩
   .have e:(RH a.tmps (.tmp t)).run E.P w=.ok v w:=by simp[RH,Um,C]
    simp[List.mapM_cons,h1,e]
   .cases j with|zero=>simp at b d;subst b;subst d;exact k|succ j=>exact h2.2 j G H (by simpa using b) (by simpa using d)
  .cases h
 | .cell L t::l,p,ts,h,hp=>by
  simp only[j5]at h;split at h
  .rename_i i x hi z;split at h
   .rename_i q y S r U M B;simp only[bg,bC]at h;obtain⟨rfl,rfl⟩:=h;obtain⟨vs,h1,h2⟩:=ot m hf hs B hp.2;obtain⟨v,C,k⟩:=hf.tm L x z;obtain⟨u,O,I,_⟩:=Br (m.ti _ _ hi) hs k M hp.1;obtain⟨R,rfl⟩:=N8 M k;have K:(loadVar t R).run E.P w=.ok u w:=by simpa[Instr.loadAt,Instr.sureAddr]using O
    refine⟨u::vs,?_,by simp[h2.1],λj G H b d=>?_⟩
    .have e:(RH a.tmps (.cell L t)).run E.P w=.ok u w:=by simp[RH,Um,C,asAddr,K]
     simp[List.mapM_cons,h1,e]
    .cases j with|zero=>simp at b d;subst b;subst d;exact I|succ j=>exact h2.2 j G H (by simpa using b) (by simpa using d)
   .cases h
  .cases h
def KJ(d:zu E)(hf:cF g fr a w)(hs:bh g s w){fn:Func}{p:Prop}{ts:List T}(h:j5 E s fr fn.results.toList=Z (p,ts))(hp:p) :
  ∃v,(results fn a.tmps).run E.P w=.ok v w∧aK g w (abE ts) v:=by
 obtain⟨b,h1,h2⟩:=ot d hf hs h hp;refine⟨if h:b.toArray.size=1 then b.toArray[0]else .tuple b.toArray,?_,?_⟩
 .have e:results fn a.tmps=(do
    let b <-fn.results.mapM (RH a.tmps)
    pure (if h:b.size=1 then b[0]else .tuple b)):=by
   unfold results
   congr 2
  rw[e];simp only[Array.mapM_eq_mapM_toList];simp[h1]
 .match ts,b,h2 with
  |[],[],_=>exact .gm _ _ rfl (λj t v h=>by simp at h)
  |[t],[v],h2=>exact h2.2 0 t v rfl rfl
  |t::i::ts,v::k::b,h2=>simp only[abE,Ld,fc];rw[dif_neg (by omega)];exact .gm _ _ (by simpa using h2.1) (λj t v h3 h4=>h2.2 j t v h3 (by simpa using h4))
  |[],_::_,h2=>exact absurd h2.1 (by simp)
  |_::_,[],h2=>exact absurd h2.1 (by simp)
  |[_],_::_::_,h2=>exact absurd h2.1 (by simp)
  |_::_::_,[_],h2=>exact absurd h2.1 (by simp)
def Ei:∀(l:List T)(k:Nat)(t:Tr T),k+l.length<=bB->∀j,(Ad l k t).get j=if k<=j∧j<k+l.length then l[j-k]? else t.get j
 |[],k,t,_,j=>by
  have:¬(k<=j∧j<k+([]:List T).length):=by simp
  rw[br this];rfl
 |a::l,k,t,h,j=>by
  simp only[fc]at h;simp only[Ad];rw[Ei l (k+1) _ (by omega),Tr.aX _ _ _ _ (by omega)];simp only[fc];by_cases h1:k+1<=j∧j<k+1+l.length
  .rw[bJ h1,bJ (by omega)];have:j-k=(j-(k+1))+1:=by omega
   rw[this];simp
  .rw[br h1];by_cases h2:j=k
   .rw[bJ h2,bJ (by omega)];subst h2;simp
   .rw[br h2,br (by omega)]
end
end
section
inductive Ty where
 |int (k:IntKind)|bool|str
 |sl (e:Ty)
 |st (n:Nat)
 |cR (n:Nat)
 deriving Inhabited
def rA:Ty->Ty->Bool
 | .int j,.int k=>m6 j k
 | .bool,.bool=>W
 | .str,.str=>W
 | .sl a,.sl b=>rA a b
 | .st m,.st n=>Nat.beq m n
 | .cR m,.cR n=>Nat.beq m n
 |_,_=>J
def fE{a:Ty}:∀{b:Ty},rA a b=W->a=b:=by
 induction a with
 |int j=>
  intro b h;cases b with
  |int k=>
   have:j=k:=by cases j<;>cases k<;>first|rfl|cases h
   rw[this]
  |_=>cases h
 |bool=>intro b h;cases b<;>first|rfl|cases h
 |str=>intro b h;cases b<;>first|rfl|cases h
 |sl e d=>
  intro b h;cases b with|sl f=>rw[d h]|_=>cases h
 |st m=>
  intro b h;cases b with|st n=>rw[nF h]|_=>cases h
 |cR m=>
  intro b h;cases b with|cR n=>rw[nF h]|_=>cases h
@[reducible] def den(A:Nat->Type):Ty->Type
 | .int _=>Int
 | .bool=>Bool
 | .str=>List UInt8
 | .sl e=>List (den A e)
 | .st n=>A n
 | .cR n=>A n
@[reducible] def lu(A:Nat->Type):List Ty->Type
 |[]=>Unit
 |t::l=>den A t×lu A l
@[reducible] def vP(A:Nat->Type):List (TypeId×Ty)->Type
 |[]=>Unit
 |p::l=>Sum (den A p.2) (vP A l)
def lP:List (TypeId×Ty)->Nat->Ty
 |[],_=>.bool
 |p::_,0=>p.2
 |_::l,i+1=>lP l i
def oX:List (TypeId×Ty)->TypeId->Option Nat
 |[],_=>Y
 |p::l,t=>bif Nat.beq p.1 t then Z 0 else match oX l t with
  |some i=>Z (Nat.succ i)
  |none=>Y
def Vy{A:Nat->Type}:(l:List (TypeId×Ty))->(i:Nat)->den A (lP l i)->vP A l
 |[],_,_=>()
 |_::_,0,x=>.inl x
 |_::l,i+1,x=>.inr (Vy l i x)
def UZ{A:Nat->Type}:(l:List (TypeId×Ty))->vP A l
 |[]=>()
 |_::l=>.inr (UZ l)
def isNil{A:Nat->Type}:(l:List (TypeId×Ty))->vP A l->Bool
 |[],_=>W
 |_::_,.inl _=>J
 |_::l,.inr y=>isNil l y
def iG{A:Nat->Type}:(l:List (TypeId×Ty))->Nat->vP A l->Bool
 |[],_,_=>J
 |_::_,0,.inl _=>W
 |_::_,0,.inr _=>J
 |_::_,_+1,.inl _=>J
 |_::l,i+1,.inr y=>iG l i y
def jv{A:Nat->Type}(z:(t:Ty)->den A t):(l:List (TypeId×Ty))->(i:Nat)->vP A l->den A (lP l i)
 |[],_,_=>z .bool
 |_::_,0,.inl x=>x
 |p::_,0,.inr _=>z p.2
 |_::l,i+1,.inl _=>z (lP l i)
 |_::l,i+1,.inr y=>jv z l i y
structure Sg where
 A:Nat->Type
 fs:Nat->List Ty
 dfl:(n:Nat)->A n
 get:(n:Nat)->A n->lu A (fs n)
 U5:(n:Nat)->lu A (fs n)->A n
 cells:(n:Nat)->A n->List D
 alts:Nat->List (TypeId×Ty)
 r7:(n:Nat)->A n->vP A (alts n)
 imk:(n:Nat)->vP A (alts n)->A n
 pL:(n:Nat)->A n->Option (TypeId×D)
 pt:Ty
variable {S:Sg}
def Sg.zero(S:Sg):(t:Ty)->den S.A t
 | .int _=>(0:Int)
 | .bool=>J
 | .str=>([]:List UInt8)
 | .sl _=>[]
 | .st n=>S.dfl n
 | .cR n=>S.imk n (UZ (S.alts n))
def bI(s:List UInt8):ByteArray:=⟨s.toArray⟩
def ofBytes(b:ByteArray):List UInt8:=b.data.toList
def Nu:Option (TypeId×D)->D
 |none=>.lit .nilIface
 |some p=>.cR p.1 p.2
def enc(S:Sg):(t:Ty)->den S.A t->D
 | .int k,n=>.lit (.int k n)
 | .bool,b=>.lit (.bool b)
 | .str,s=>.lit (.string (bI s))
 | .sl e,l=>.sl (l.map (enc S e))
 | .st n,x=>.agg (S.cells n x)
 | .cR n,x=>Nu (S.pL n x)
def gq(S:Sg):(ts:List Ty)->lu S.A ts->List D
 |[],_=>[]
 |t::l,x=>enc S t x.1::gq S l x.2
def jk:Ty->Bool|.st _=>W|_=>J
def Sg.width(S:Sg):Ty->Nat|.st n=>cz (S.fs n)|_=>1
inductive V(S:Sg) where
 |ty (t:Ty) (x:den S.A t)
 |kb (b:Bool)
 |kn (k:IntKind) (n:Int)
 |dat (d:D)
 |ptr (o off:Nat)
 |mD (t:Ty) (x:den S.A t) (off:Nat)
 |kA (o e i off:Nat)
 |sh (o e:Nat)
 |emp
 |jy (n:Nat) (t:Ty) (l:List (den S.A t))
 |fn (f:Fn) (first cap:List (V S))
 |cR (t:TypeId) (v:V S)
 |agg (cs:List (V S))
 |gm (vs:List (V S))
 |gd (c:Bool) (v:V S)
 |mp (o:Nat)
 |ry (o:Nat)
 |ru (o:Nat)
 |ub (e:Bool)
 |qd (o m r i:Nat)
 |nQ (n j:Nat) (x:S.A n)
inductive A2(S:Sg) where
 |call (f:V S) (args:List (V S))
 |mark (o:Nat)
 |bad
structure bW(S:Sg) where
 n:Nat
 tm:Tr (V S)
 df:List (A2 S):=[]
structure LpV(S:Sg) where
 st:LoopState
 oA:Option Code
 fid:FuncId
 fr:bW S
 params:List Nat
 assign:Code
 body:Code
inductive vX(S:Sg) where
 |box (cs:List (V S))
 |arr (t:Ty) (l:List (den S.A t)) (era:Nat)
 |jX (t:Ty) (l:List (den S.A t)) (era:Nat)
 |map (kt vt:Ty) (l:List (den S.A kt×den S.A vt))
 |Gd (kt:Ty) (l:List (den S.A kt×V S))
 |o7 (b:List UInt8) (pos:Nat)
 |lp (l:LpV S)
 |zH
 |kj (n j:Nat) (l:List (S.A n)) (era m gE:Nat) (hole:Option Nat)
 |rws (t:Ty) (hU:List (List (den S.A t))) (gE:Nat)
 |gone
structure bq(S:Sg) where
 ob:Tr (vX S)
 aH:Nat
 fl:Nat
 lo:Nat
 wr:List Nat
 dr:List Nat
def bW.get(fr:bW S)(k:Nat):Option (V S):=fr.tm.get k
def bW.put(fr:bW S)(k:Nat)(v:V S):bW S:={fr with tm:=fr.tm.set aJ k v}
def bW.hY(fr:bW S)(k:Option Nat)(v:V S):bW S:=match k with|some k=>fr.put k v|none=>fr
def yM:(ts:List Ty)->lu S.A ts->List (V S)
 |[],_=>[]
 |t::l,x=>.ty t x.1::yM l x.2
def tV:(t:Ty)->den S.A t->List (V S)
 | .st n,x=>yM (S.fs n) (S.get n x)
 | .int k,x=>[.ty (.int k) x]
 | .bool,x=>[.ty .bool x]
 | .str,x=>[.ty .str x]
 | .sl e,x=>[.ty (.sl e) x]
 | .cR n,x=>[.ty (.cR n) x]
def sq:Value->Option (V S)
 | .bool b=>Z (.kb b)
 | .int k n=>Z (.kn k n)
 | .slice Y 0 0=>Z .emp
 | .func f a b=>match a.toList,b.toList with
  |[],[]=>Z (.fn f [] [])
  |_,_=>Y
 | .iface t v=>(Bq v).map λd=>.dat (.cR t d)
 | .string b=>Z (.ty .str (ofBytes b))
 |v=>(Bq v).map .dat
def zeroV:D->V S
 | .lit (.bool b)=>.kb b
 | .lit (.int k n)=>.kn k n
 | .lit (.string b)=>.ty .str (ofBytes b)
 | .sl []=>.emp
 |d=>.dat d
def Vk:V S->Bool
 | .ty t _=>!(jk t)
 | .dat d=>d.leaf
 | .agg _|.gm _|.gd _ _=>J
 |_=>W
def z9:List (V S)->Bool
 |[]=>W
 |v::l=>Vk v&&z9 l
def uq(i:TI):V S->Option (List (V S))
 | .agg b=>bif i.agg&&Nat.beq (cz b) i.size then Z b else Y
 | .ty (.st n) x=>bif i.agg&&Nat.beq (cz (S.fs n)) i.size then Z (yM (S.fs n) (S.get n x))else Y
 | .dat d=>bif i.agg then Y else bif Nat.beq i.size 1&&d.leaf then Z [.dat d]else Y
 | .gm _|.gd _ _=>Y
 |v=>bif i.agg then Y else bif Nat.beq i.size 1 then Z [v]else Y
def yB(agg:Bool)(cs:List (V S)):Option (V S):=
 bif agg then Z (.agg cs)else match cs with
  |[x]=>Z x
  |_=>Y
def ck(fr:bW S):Operand->Option (V S)
 | .tmp k=>fr.get k
 | .const v=>sq v
 | .global _=>Y
 | .func f=>Z (.fn (.func f) [] [])
def jP(fr:bW S):List Operand->Option (List (V S))
 |[]=>Z []
 |x::l=>match ck fr x,jP fr l with
  |some t,Z r=>Z (t::r)
  |_,_=>Y
def gF(k:IntKind):V S->Option Int
 | .kn j n=>bif m6 j k then Z n else Y
 | .ty (.int j) x=>bif m6 j k then Z x else Y
 |_=>Y
def iy:V S->Option Bool
 | .kb b=>Z b
 | .ty .bool x=>Z x
 |_=>Y
def tG:V S->Option (List UInt8)
 | .ty .str x=>Z x
 |_=>Y
def uu(t u:Ty)(x:den S.A t):Option (den S.A u):=
 if h:rA t u=W then Z (fE h▸x)else Y
def mT(t u:Ty)(x:List (den S.A t)):Option (List (den S.A u)):=
 if h:rA t u=W then Z (fE h▸x)else Y
def Cb:(ts:List Ty)->lu S.A ts->Nat->(t:Ty)->den S.A t->lu S.A ts
 |[],h,_,_,_=>h
 | τ::_,h,0,t,y=>(match uu t τ y with|some z=>z|none=>h.1,h.2)
 |_::ts,h,j+1,t,y=>(h.1,Cb ts h.2 j t y)
def cL:(ts:List Ty)->lu S.A ts->Nat->(t:Ty)->den S.A t
 |[],_,_,t=>S.zero t
 | τ::_,h,0,t=>match uu τ t h.1 with|some z=>z|none=>S.zero t
 |_::ts,h,j+1,t=>cL ts h.2 j t
def Rz(n j:Nat)(t:Ty)(x:S.A n)(y:List (den S.A t)):S.A n:=S.U5 n (Cb (S.fs n) (S.get n x) j (.sl t) y)
def Gi(n j:Nat)(t:Ty)(x:S.A n):List (den S.A t):=cL (S.fs n) (S.get n x) j (.sl t)
def xA(n j:Nat)(t:Ty)(l:List (S.A n)):List (List (den S.A t)):=l.map (Gi n j t)
def iW(n j:Nat)(t:Ty)(l:List (S.A n))(hU:List (List (den S.A t))):List (S.A n):=List.zipWith (Rz n j t) l hU
def Cd(S:Sg)(n j:Nat)(t:Ty):Bool:=match nth (S.fs n) j with|some u=>rA u (.sl t)|none=>J
def KH(s:bq S)(m r:Nat):Option ((t:Ty)×List (List (den S.A t))):=match s.ob.get m with
 |some (.rws t b d)=>bif Nat.beq r d then Z ⟨t,b⟩else Y
 |_=>Y
def Iz(s:bq S)(e:Ty):V S->Option (List (den S.A e))
 | .emp=>Z []
 | .jy _ t l=>mT t e l
 | .nQ n _ x=>mT (.st n) e [x]
 | .ty (.sl t) x=>mT t e x
 | .sh o r=>match s.ob.get o with
  |some (.arr t l era)|some (.jX t l era)=>bif Nat.beq r era then mT t e l else Y
  |_=>Y
 |_=>Y
mutual
def bO(s:bq S):(t:Ty)->V S->Option (den S.A t×List Nat)
 |t,.ty u x=>match uu u t x with
  |some y=>Z (y,[])
  |none=>Y
 | .bool,.kb b=>Z (b,[])
 | .int k,.kn j n=>bif m6 j k then Z (n,[])else Y
 | .sl _,.emp=>Z ([],[])
 | .sl e,.jy _ t l=>match mT t e l with
  |some l=>Z (l,[])
  |none=>Y
 | .sl e,.nQ n _ x=>match mT (.st n) e [x]with
  |some l=>Z (l,[])
  |none=>Y
 | .sl e,.sh o r=>match s.ob.get o with
  |some (.arr t l era)=>bif Nat.beq r era then match mT t e l with|some l=>Z (l,[o])|none=>Y else Y
  |some (.jX t l era)=>bif Nat.beq r era then match mT t e l with|some l=>Z (l,[])|none=>Y else Y
  |some (.kj n j l era m g Y)=>match KH s m g with
   |some ⟨t,d⟩=>bif Nat.beq r era&&(Nat.blt m bB&&Cd S n j t)then match mT (.st n) e (iW n j t l d)with|some l=>Z (l,[o,m])|none=>Y else Y
   |none=>Y
  |_=>Y
 | .st n,.agg p=>match mG s (S.fs n) p with
  |some (h,os)=>Z (S.U5 n h,os)
  |none=>Y
 | .cR n,.cR t v=>match oX (S.alts n) t with
  |some i=>match bO s (lP (S.alts n) i) v with
   |some (y,os)=>Z (S.imk n (Vy (S.alts n) i y),os)
   |none=>Y
  |none=>Y
 | .cR n,.dat (.lit .nilIface)=>Z (S.imk n (UZ (S.alts n)),[])
 |_,_=>Y
def mG(s:bq S):(ts:List Ty)->List (V S)->Option (lu S.A ts×List Nat)
 |[],[]=>Z ((),[])
 |t::ts,v::l=>match bO s t v,mG s ts l with
  |some (x,os),Z (h,ps)=>Z ((x,h),os++ps)
  |_,_=>Y
 |_,_=>Y
end
def dz(s:bq S):List Nat->Option (bq S)
 |[]=>Z s
 |o::l=>
  bif Nat.ble s.fl o then match s.ob.get o with
   |some (.arr t b era)=>dz {s with ob:=s.ob.set aJ o (.jX t b era),wr:=o::s.wr} l
   |some (.jX _ _ _)=>dz s l
   |some (.kj n j b era m r Y)=>match KH s m r with
    |some ⟨t,d⟩=>bif l.contains m&&(Nat.ble s.fl m&&(Nat.blt m bB&&Cd S n j t))then dz {s with ob:=(s.ob.set aJ m .gone).set aJ o (.jX (.st n) (iW n j t b d) era),wr:=o::m::s.wr} l else Y
    |none=>Y
   |some (.rws ..)=>dz s l
   |some .gone=>dz s l
   |_=>Y
  else Y
def dm(s:bq S)(o:vX S):bq S:={s with ob:=s.ob.set aJ s.aH o,aH:=Nat.succ s.aH}
def fZ(a b:List UInt8):Bool:=a==b
def ey{α:Type}(l:List α)(lo hi:Int):List α:=(l.take hi.toNat).drop lo.toNat
def ak{α:Type}(l:List α):Int:=l.length
def kW(b:List UInt8)(n:Int):Int:=(b.getD n.toNat 0).toNat
def cP{α:Type}(a b:List α):List α:=a++b
def av{α:Type}(n:Int)(l:List α):Bool:=decide (0<=n)&&decide (n<l.length)
def ct{α:Type}(k:Nat)(l:List α):Bool:=decide (k<l.length)
def ff(lo hi len:Int):Bool:=decide (0<=lo)&&(decide (lo<=hi)&&decide (hi<=len))
def ZH(a b:List UInt8):Bool:=decide (a.length+b.length<=4611686018427387904)
def cZ{α:Type}(a b:List α):Bool:=decide (a.length+b.length<=17179869184)
def nzI(a:Int):Bool:=decide (a≠0)
def aR{α:Type}(l:List α)(k:Nat)(z:α):α:=l.getD k z
def dO{α:Type}(l:List α)(k:Nat)(x:α):List α:=l.set k x
def YK{α β:Type}(l:List α)(m:List β):Bool:=decide (l.length=m.length)
def VI{α:Type}(k:Nat)(l:List α)(h i:Nat):Bool:=decide (k<l.length)&&(Nat.beq k h&&Nat.beq i h)
def ia(a b:Int):Bool:=decide (a=b)
def ah(n:Int):Nat:=n.toNat
abbrev oY(S:Sg):=Option (Bool×V S×bq S)
def CE:Lk->V S->V S->Option Bool
 | .int k,a,b=>match gF k a,gF k b with
  |some x,Z y=>Z (D.aI x y)
  |_,_=>Y
 | .bool,a,b=>match iy a,iy b with
  |some x,Z y=>Z (D.beq x y)
  |_,_=>Y
 | .str,a,b=>match tG a,tG b with
  |some x,Z y=>Z (fZ x y)
  |_,_=>Y
 | .no,_,_=>Y
def jL:List Lk->List (V S)->List (V S)->Option Bool
 |[],[],[]=>Z W
 |k::d,a::as,b::e=>match CE k a b,jL d as e with
  |some x,Z y=>Z (D.fA x y)
  |_,_=>Y
 |_,_,_=>Y
def Wd:V S->V S->Option Bool
 | .dat (.lit (.pointer Y)),.ptr _ _=>Z J
 | .ptr _ _,.dat (.lit (.pointer Y))=>Z J
 |_,_=>Y
def We:V S->V S->Option Bool
 | .dat (.lit .nilIface),.cR _ _=>Z J
 | .cR _ _,.dat (.lit .nilIface)=>Z J
 |_,_=>Y
def ZK(i:TI)(a b:V S):Option Bool:=
 bif i.agg then match i.XU,uq i a,uq i b with
  |[],_,_=>Y
  |k::d,Z as,Z e=>jL (k::d) as e
  |_,_,_=>Y
 else match i.kd with
  | .leaf k=>CE k a b
  | .ptr=>Wd a b
  | .iface=>We a b
  |_=>Y
def ZZ(op:BinOp)(k:IntKind)(m n:Int):Option (V S):=
 match op with
 | .lss=>Z (.ty .bool (D.bN m n))
 | .leq=>Z (.ty .bool (D.ek m n))
 | .gtr=>Z (.ty .bool (D.bN n m))
 | .geq=>Z (.ty .bool (D.ek n m))
 | .add=>Z (.ty (.int k) (D.add k m n))
 | .sub=>Z (.ty (.int k) (D.dI k m n))
 | .mul=>Z (.ty (.int k) (D.mul k m n))
 |_=>Y
def ZW(op:BinOp)(k:IntKind)(m n:Int):Option (V S):=
 match op with
 | .rem=>Z (.ty (.int k) (D.rem m n))
 | .quo=>Z (.ty (.int k) (D.quo k m n))
 |_=>Y
def E5(i:TI)(op:BinOp)(a b:V S):Option (Bool×V S):=
 match op with
 | .eql=>(ZK i a b).map λr=>(W,.ty .bool r)
 | .neq=>(ZK i a b).map λr=>(W,.ty .bool (D.aO r))
 |op=>match i.kd with
  | .leaf (.int k)=>match gF k a,gF k b with
   |some m,Z n=>match ZZ op k m n with
    |some d=>Z (W,d)
    |none=>(ZW op k m n).map λd=>(nzI n,d)
   |_,_=>Y
  | .leaf .str=>match op,tG a,tG b with
   | .add,Z m,Z n=>Z (ZH m n,.ty .str (cP m n))
   |_,_,_=>Y
  |_=>Y
def JJ(s:bq S)(o e:Nat):Option ((t:Ty)×List (den S.A t)):=
 match s.ob.get o with
 |some (.arr t l era)=>bif Nat.beq e era then Z ⟨t,l⟩else Y
 |some (.jX t l era)=>bif Nat.beq e era then Z ⟨t,l⟩else Y
 |_=>Y
def X8(τ:Option Ty)(t:Ty):Bool:=match τ with|some u=>rA u t|none=>J
def Lu(i:TI)(τ:Option Ty)(t:Ty)(x:den S.A t)(off:Nat):Option (V S):=
 bif Nat.beq off 0&&X8 τ t then Z (.ty t x)
 else
  bif Nat.ble (Nat.add off i.size) (S.width t)then yB i.agg (((tV t x).drop off).take i.size)else Y
def fu:V S:=.dat (.lit (.tuple #[]))
def wu(i:TI)(τ:Option Ty)(s:bq S):V S->oY S
 | .ptr o off=>match s.ob.get o with
  |some (.box b)=>
   let l:=(b.drop off).take i.size
   bif Nat.beq (cz l) i.size then(yB i.agg l).map λt=>(W,t,s)else Y
  |_=>Y
 | .mD t x off=>(Lu i τ t x off).map λv=>(W,v,s)
 | .kA o e k off=>match JJ s o e with
  |some ⟨t,l⟩=>(Lu i τ t (aR l k (S.zero t)) off).map λv=>(ct k l,v,s)
  |none=>Y
 |_=>Y
def Sg.mw(S:Sg):Ty->List Ty
 | .st n=>S.fs n
 |t=>[t]
def tQ:(t:Ty)->lu S.A (S.mw t)->den S.A t
 | .st n,h=>S.U5 n h
 | .int _,h=>h.1
 | .bool,h=>h.1
 | .str,h=>h.1
 | .sl _,h=>h.1
 | .cR _,h=>h.1
def CV(i:TI)(s:bq S)(a x:V S):oY S:=
 match uq i x with
 |none=>Y
 |some l=>match a with
  | .ptr o off=>match s.ob.get o with
   |some (.box g)=>
    bif Nat.ble s.fl o&&(Nat.ble (Nat.add off (cz l)) (cz g)&&z9 l)then
     Z (W,fu,{s with ob:=s.ob.set aJ o (.box (g.take off++l++g.drop (Nat.add off (cz l)))),wr:=o::s.wr})
    else Y
   |_=>Y
  | .kA o e k off=>match s.ob.get o with
   |some (.arr t _ _)=>match mG s ((S.mw t).drop off |>.take (cz l)) l with
    |some (_,os)=>match dz s os with
     |some b=>match b.ob.get o with
      |some (.arr t d era)=>match mG s (S.mw t) ((tV t (aR d k (S.zero t))).take off++l++(tV t (aR d k (S.zero t))).drop (Nat.add off (cz l)))with
       |some (h,_)=>
        bif Nat.ble b.fl o&&(Nat.beq e era&&(Nat.ble (Nat.add off (cz l)) (S.width t)&&(Nat.ble 1 (cz l)&&z9 l)))then
         Z (ct k d,fu,{b with ob:=b.ob.set aJ o (.arr t (dO d k (tQ t h)) era),wr:=o::b.wr})
        else Y
       |none=>Y
      |_=>Y
     |none=>Y
    |none=>Y
   |_=>Y
  |_=>Y
def HO(place:Nat->Option (Nat×TI))(cells:List (V S)):List (Nat×V S)->Option (List (V S))
 |[]=>Z cells
 |(k,v)::b=>match place k with
  |none=>Y
  |some (off,i)=>match uq i v with
   |none=>Y
   |some l=>
    bif Nat.ble (Nat.add off (cz l)) (cz cells)&&z9 l then HO place (cells.take off++l++cells.drop (Nat.add off (cz l))) b else Y
def ir(fr:bW S):List (Nat×Operand)->Option (List (Nat×V S))
 |[]=>Z []
 |(k,x)::l=>match ck fr x,ir fr l with
  |some t,Z r=>Z ((k,t)::r)
  |_,_=>Y
def l7(s:bq S)(e:Ty)(es:List (den S.A e)):List (Nat×V S)->Option (List (den S.A e)×List Nat)
 |[]=>Z (es,[])
 |(k,v)::b=>match bO s e v with
  |none=>Y
  |some (x,os)=>
   bif Nat.blt k (cz es)then
    match l7 s e (es.set k x) b with
    |some (r,ps)=>Z (r,os++ps)
    |none=>Y
   else Y
def IY(fr:bW S):Option Operand->Option (Option (V S))
 |none=>Z Y
 |some x=>(ck fr x).map Z
def AE(dflt:Int):Option (V S)->Option Int
 |none=>Z dflt
 |some t=>gF .i64 t
def Lv:V S->List Nat
 | .sh o _=>[o]
 |_=>[]
def tH(i:TI)(τ:Option Ty)(s:bq S)(v:V S)(l h m:Option (V S)):oY S:=
 match τ,AE 0 l with
 |some .str,Z lo=>match i.kd,tG v,m with
  | .leaf .str,Z b,Y=>match AE (ak b) h with
   |some hi=>Z (ff lo hi (ak b),.ty .str (ey b lo hi),s)
   |none=>Y
  |_,_,_=>Y
 |some (.sl e),Z lo=>match i.kd,Iz s e v,dz s (Lv v)with
  | .slice _ _ _ _,Z d,Z g=>match AE (ak d) h,m,h with
   |some hi,Y,_=>Z (ff lo hi (ak d),.ty (.sl e) (ey d lo hi),g)
   |some hi,Z y,Z _=>match y with
    | .kn .i64 0=>Z (ia lo 0&&ia hi 0,.emp,s)
    |y=>match gF .i64 y with
     |some j=>Z (ff lo hi (ak d)&&ia j hi,.jy 0 e (ey d lo hi),g)
     |none=>Y
   |_,_,_=>Y
  |_,_,_=>Y
 |_,_=>Y
def WK:V S->Option (Option Bool×Bool)
 | .gd g v=>match iy v with
  |some y=>Z (Z g,y)
  |none=>Y
 | .kb b=>Z (Y,b)
 | .ty .bool x=>Z (Y,x)
 |_=>Y
def orT(g:Option Bool):Bool:=match g with|some g=>g|none=>W
def UO(c a b:V S):Option (Bool×V S):=
 match c with
 | .kb u=>match WK (bif u then a else b)with
  |some (p,y)=>Z (orT p,.ty .bool y)
  |none=>Y
 |c=>match iy c,WK a,WK b with
  |some t,Z (p,x),Z (q,y)=>Z (bif t then orT p else orT q,.ty .bool (D.ag0 t x y))
  |_,_,_=>Y
def ju(i:TI)(τ:Option Ty)(s:bq S)(x b:V S):oY S:=
 match i.kd,τ,gF .i64 b with
 | .slice _ _ _ _,Z (.sl e),Z n=>match x with
  | .sh o r=>match JJ s o r with
   |some ⟨t,l⟩=>bif rA t e then Z (av n l,.kA o r (ah n) 0,s)else Y
   |none=>Y
  |v=>match Iz s e v with
   |some l=>Z (av n l,.mD e (aR l (ah n) (S.zero e)) 0,s)
   |none=>Y
 |_,_,_=>Y
def oO(i:TI)(s:bq S)(k:Nat)(x:V S):oY S:=
 match i.kd with
 | .struct fs=>match nth fs k with
  |some (off,size,_)=>bif Nat.beq size 0 then Y else match x with
   | .ptr o b=>Z (W,.ptr o (Nat.add b off),s)
   | .mD t d b=>Z (W,.mD t d (Nat.add b off),s)
   | .kA o e j b=>Z (W,.kA o e j (Nat.add b off),s)
   |_=>Y
  |none=>Y
 |_=>Y
def Al(i:TI)(s:bq S)(k:Nat)(x:V S):oY S:=
 match i.kd with
 | .struct fs=>match nth fs k,uq i x with
  |some (off,size,b),Z d=>
   let l:=(d.drop off).take size
   bif Nat.beq (cz l) size&&!(Nat.beq size 0)then(yB b l).map λt=>(W,t,s)else Y
  |_,_=>Y
 |_=>Y
def Ae(i:TI)(s:bq S)(x d:V S):oY S:=
 match i.kd,gF .i64 d,tG x with
 | .leaf .str,Z n,Z b=>Z (av n b,.ty (.int .u8) (kW b n),s)
 |_,_,_=>Y
def CG(i:TI)(s:bq S)(t:TypeId)(ok:Bool)(x:V S):oY S:=
 match i.kd,x,ok with
 | .iface,_,_=>Y
 |_,.cR u v,W=>bif Nat.beq u t then Z (W,.gm [v,.kb W],s)else
   (yB i.agg (i.zero.map zeroV)).map λz=>(W,.gm [z,.kb J],s)
 |_,.cR u v,J=>bif Nat.beq u t then Z (W,v,s)else Y
 |_,_,_=>Y
def unV(i:TI)(op:UnOp)(v:V S):Option (V S):=
 match op,i.kd with
 | .not,.leaf .bool=>(iy v).map λb=>.ty .bool (D.aO b)
 | .neg,.leaf (.int k)=>(gF k v).map λn=>.ty (.int k) (D.neg k n)
 |_,_=>Y
def QS(i j:TI)(s:bq S)(v:V S):oY S:=
 match i.kd,j.kd with
 | .leaf (.int k),.leaf (.int l)=>(gF k v).map λn=>(W,.ty (.int l) (D.conv l n),s)
 | .leaf .str,.leaf .str=>(tG v).map λ_=>(W,v,s)
 |_,_=>Y
def yY(s:bq S)(k:Nat):V S->oY S
 | .gm b=>(nth b k).map λt=>(W,t,s)
 |_=>Y
structure MT where
 kt:Ty
 vt:Option Ty
 el:TypeId
structure gA where
 E:Env
 ty:Nat->Option Ty
 mt:Nat->Option MT:=λ_=>Y
 I3:Nat->String->Option FuncId:=λ_ _=>Y
 nst:Nat->Option Nat:=λ_=>Y
def cm(E:gA)(fr:bW S)(s:bq S)(o:Op):oY S:=
 match o with
 | .move x=>(ck fr x).map λt=>(W,t,s)
 | .assign x=>(ck fr x).map λt=>(W,t,s)
 | .pick c a b=>match ck fr c,ck fr a,ck fr b with
  |some c,Z a,Z b=>(UO c a b).map λ(p,t)=>(p,t,s)
  |_,_,_=>Y
 | .alloc t=>match E.E.ti t with
  |some i=>bif Nat.blt s.aH bB then Z (W,.ptr s.aH 0,dm s (.box (i.zero.map zeroV)))else Y
  |none=>Y
 | .box t x=>match E.E.ti t,ck fr x with
  |some i,Z v=>bif Nat.blt s.aH bB then(uq i v).map λg=>(W,.ptr s.aH 0,dm s (.box g))else Y
  |_,_=>Y
 | .build t parts=>match E.E.ti t,ir fr parts.toList with
  |some i,Z ps=>match i.kd with
   | .struct fs=>(HO (λk=>match nth fs k with|some (off,size,u)=>Z (off,{(default:TI)with size:=size,agg:=u})|none=>Y) (i.zero.map zeroV) ps).map
     λg=>(W,.agg g,s)
   |_=>Y
  |_,_=>Y
 | .buildSlice t len parts=>match E.E.ti t,E.ty t,ir fr parts.toList with
  |some i,Z (.sl e),Z ps=>match i.kd with
   | .slice sz _ _ _=>
    bif Nat.ble (Nat.mul len sz) 16777216 then
     match l7 s e (List.replicate len (S.zero e)) ps with
     |some (w,os)=>(dz s os).map λs=>(W,.jy len e w,s)
     |none=>Y
    else Y
   |_=>Y
  |_,_,_=>Y
 | .load t a=>match E.E.ti t,ck fr a with
  |some i,Z a=>wu i (E.ty t) s a
  |_,_=>Y
 | .store t a x=>match E.E.ti t,ck fr a,ck fr x with
  |some i,Z a,Z x=>CV i s a x
  |_,_,_=>Y
 | .nilCheck x=>match ck fr x with
  |some (.ptr o b)=>Z (W,.ptr o b,s)
  |some (.mD t d b)=>Z (W,.mD t d b,s)
  |some (.kA o e j b)=>Z (W,.kA o e j b,s)
  |some (.cR t v)=>Z (W,.cR t v,s)
  |some (.fn (.func f) a b)=>Z (W,.fn (.func f) a b,s)
  |_=>Y
 | .binOp op t x y _=>match E.E.ti t,ck fr x,ck fr y with
  |some i,Z a,Z b=>(E5 i op a b).map λ(p,d)=>(p,d,s)
  |_,_,_=>Y
 | .unOp op t x=>match E.E.ti t,ck fr x with
  |some i,Z v=>(unV i op v).map λd=>(W,d,s)
  |_,_=>Y
 | .convert src q x=>match E.E.ti src,E.E.ti q,ck fr x with
  |some i,Z j,Z v=>QS i j s v
  |_,_,_=>Y
 | .makeInterface t x=>match E.E.ti t,ck fr x with
  |some i,Z v=>match i.kd with
   | .iface=>Y
   |_=>Z (W,.cR t v,s)
  |_,_=>Y
 | .makeFunc f first cap=>match jP fr first.toList,jP fr cap.toList with
  |some a,Z b=>Z (W,.fn f a b,s)
  |_,_=>Y
 | .extract x k=>match ck fr x with
  |some v=>yY s k v
  |none=>Y
 | .fieldAddr t x k=>match E.E.ti t,ck fr x with
  |some i,Z v=>oO i s k v
  |_,_=>Y
 | .field t x k=>match E.E.ti t,ck fr x with
  |some i,Z v=>Al i s k v
  |_,_=>Y
 | .indexAddr t x r=>match E.E.ti t,ck fr x,ck fr r with
  |some i,Z v,Z n=>ju i (E.ty t) s v n
  |_,_,_=>Y
 | .index t x r=>match E.E.ti t,ck fr x,ck fr r with
  |some i,Z v,Z n=>Ae i s v n
  |_,_,_=>Y
 | .slice t x lo hi z=>match E.E.ti t,ck fr x,IY fr lo,IY fr hi,IY fr z with
  |some i,Z v,Z l,Z h,Z m=>tH i (E.ty t) s v l h m
  |_,_,_,_,_=>Y
 | .typeAssert x _ t ok=>match E.E.ti t,ck fr x with
  |some i,Z v=>CG i s t ok v
  |_,_=>Y
 |_=>Y
def Vm:(kt:Ty)->V S->Option (den S.A kt)
 | .int k,v=>gF k v
 | .bool,v=>iy v
 | .str,v=>tG v
 |_,_=>Y
def HA{A:Nat->Type}:(kt:Ty)->den A kt->den A kt->Bool
 | .int _,a,b=>D.aI a b
 | .bool,a,b=>D.beq a b
 | .str,a,b=>fZ a b
 |_,_,_=>J
def FL{A:Nat->Type}{β:Type}(kt:Ty)(z:β)(k:den A kt):List (den A kt×β)->β
 |[]=>z
 |p::l=>bif HA kt k p.1 then p.2 else FL kt z k l
def En{A:Nat->Type}{β:Type}(kt:Ty)(k:den A kt):List (den A kt×β)->Bool
 |[]=>J
 |p::l=>bif HA kt k p.1 then W else En kt k l
def m7{A:Nat->Type}{β:Type}(kt:Ty)(k:den A kt)(x:β):List (den A kt×β)->List (den A kt×β)
 |[]=>[(k,x)]
 |p::l=>bif HA kt k p.1 then(k,x)::l else p::m7 kt k x l
def BH(kt vt b d:Ty)(l:List (den S.A kt×den S.A vt)):Option (List (den S.A b×den S.A d)):=
 if h:rA kt b=W then if e:rA vt d=W then Z (fE h▸fE e▸l)else Y else Y
def MH{β:Type}(kt b:Ty)(l:List (den S.A kt×β)):Option (List (den S.A b×β)):=
 if h:rA kt b=W then Z (fE h▸l)else Y
def U8(s:bq S)(kt vt:Ty):V S->Option (List (den S.A kt×den S.A vt))
 | .mp o=>match s.ob.get o with
  |some (.map k v l)=>BH k v kt vt l
  |_=>Y
 | .dat (.lit (.map Y))=>Z []
 |_=>Y
def XV{α:Type}(l:List α):Bool:=match l with|[]=>W|_::_=>J
def YD(n:Int):Bool:=decide (0<=n)&&decide (n<=17179869184)
def NU(pos:Nat)(b:List UInt8):Bool:=decide (pos<b.length)
def sM(b:List UInt8)(pos:Nat):Int:=((Utf8.decode (bI b) pos).1:Nat)
def FO(b:List UInt8)(pos:Nat):Nat:=(Utf8.decode (bI b) pos).2
def LZ(fr:bW S):Option Operand->Bool
 |none=>W
 |some x=>match ck fr x with
  |some (.kn _ _)=>W
  |some (.ty (.int _) _)=>W
  |_=>J
def qK(E:gA)(fr:bW S)(s:bq S)(o:Op):oY S:=
 match o with
 | .makeMap t r=>bif Nat.blt s.aH bB&&LZ fr r then match E.mt t with
  |some m=>match m.vt with
   |some vt=>Z (W,.mp s.aH,dm s (.map m.kt vt []))
   |none=>Z (W,.mp s.aH,dm s (.Gd m.kt []))
  |none=>Y
  else Y
 | .lookup t x d ok=>match E.mt t,ck fr x,ck fr d with
  |some m,Z x,Z k=>match m.vt with
   |some vt=>match Vm m.kt k,U8 s m.kt vt x with
    |some k,Z l=>Z (W,bif ok then .gm [.ty vt (FL m.kt (S.zero vt) k l),.ty .bool (En m.kt k l)]else .ty vt (FL m.kt (S.zero vt) k l),s)
    |_,_=>Y
   |none=>Y
  |_,_,_=>Y
 | .mapUpdate t x d y|.insert t x d y=>match E.mt t,ck fr x,ck fr d,ck fr y with
  |some m,Z (.mp o),Z k,Z y=>match Vm m.kt k,s.ob.get o with
   |some k,Z (.map kt vt l)=>match BH kt vt m.kt vt l,bO s vt y with
    |some l,Z (y,os)=>match dz s os with
     |some g=>bif Nat.ble s.fl o&&X8 m.vt vt then Z (W,fu,{g with ob:=g.ob.set aJ o (.map m.kt vt (m7 m.kt k y l)),wr:=o::g.wr})else Y
     |none=>Y
    |_,_=>Y
   |some k,Z (.Gd kt l)=>match MH kt m.kt l with
    |some l=>bif Nat.ble s.fl o then Z (W,fu,{s with ob:=s.ob.set aJ o (.Gd m.kt (m7 m.kt k y l)),wr:=o::s.wr})else Y
    |none=>Y
   |_,_=>Y
  |_,_,_,_=>Y
 | .makeSlice t n c=>match E.E.ti t,E.ty t,ck fr n,ck fr c with
  |some i,Z (.sl e),Z n,Z c=>match i.kd,gF .i64 n,gF .i64 c with
   | .slice _ _ _ _,Z n,Z c=>bif Nat.blt s.aH bB then Z (YD n&&ia c n,.sh s.aH 0,dm s (.arr e (List.replicate (ah n) (S.zero e)) 0))else Y
   |_,_,_=>Y
  |_,_,_,_=>Y
 | .range t x=>match E.E.ti t,ck fr x with
  |some i,Z x=>match i.kd,tG x with
   | .leaf .str,Z b=>bif Nat.blt s.aH bB then Z (W,.ru s.aH,dm s (.o7 b 0))else Y
   |_,_=>Y
  |_,_=>Y
 | .binOp .eql t x (.const .nilIface) _=>match E.E.ti t,ck fr x with
  |some i,Z (.ty (.cR n) y)=>match i.kd with
   | .iface=>Z (W,.ty .bool (isNil (S.alts n) (S.r7 n y)),s)
   |_=>Y
  |some i,Z (.dat (.lit .nilIface))=>match i.kd with
   | .iface=>Z (W,.kb W,s)
   |_=>Y
  |_,_=>Y
 | .binOp .neq t x (.const .nilIface) _=>match E.E.ti t,ck fr x with
  |some i,Z (.ty (.cR n) y)=>match i.kd with
   | .iface=>Z (W,.ty .bool (D.aO (isNil (S.alts n) (S.r7 n y))),s)
   |_=>Y
  |some i,Z (.dat (.lit .nilIface))=>match i.kd with
   | .iface=>Z (W,.kb J,s)
   |_=>Y
  |_,_=>Y
 | .binOp .eql t x (.const (.slice Y 0 0)) _=>match E.E.ti t,E.ty t,ck fr x with
  |some i,Z (.sl e),Z x=>match i.kd,Iz s e x with
   | .slice _ _ _ _,Z l=>Z (W,.ub (XV l),s)
   |_,_=>Y
  |_,_,_=>Y
 | .nilCheck x=>match ck fr x with
  |some (.ty (.cR n) y)=>Z (D.aO (isNil (S.alts n) (S.r7 n y)),.ty (.cR n) y,s)
  |_=>Y
 | .typeAssert x _ t ok=>match E.E.ti t,E.ty t,ck fr x with
  |some i,Z τ,Z (.ty (.cR n) y)=>match i.kd,oX (S.alts n) t with
   | .iface,_=>Y
   |_,Z j=>bif rA (lP (S.alts n) j) τ then
     let v:V S:=.ty (lP (S.alts n) j) (jv S.zero (S.alts n) j (S.r7 n y))
     let b:=iG (S.alts n) j (S.r7 n y)
     bif ok then Z (W,.gm [v,.ty .bool b],s)else Z (b,v,s)
    else Y
   |_,Y=>bif ok then Z (W,.gm [.ty τ (S.zero τ),.kb J],s)else Y
  |_,_,_=>Y
 | .build t parts=>match E.E.ti t,ir fr parts.toList with
  |some i,Z ps=>match i.kd with
   | .array _ sz p=>(HO (λk=>Z (Nat.mul k sz,{(default:TI)with size:=sz,agg:=p})) (i.zero.map zeroV) ps).map λq=>(W,.agg q,s)
   |_=>Y
  |_,_=>Y
 |_=>Y
def isNone{α:Type}:Option α->Bool|none=>W|some _=>J
def z4(E:gA)(fr:bW S)(s:bq S)(o:Op):oY S:=
 match o with
 | .indexAddr t x p=>match ck fr x with
  |some (.sh o r)=>match s.ob.get o with
   |some (.kj n _ l era _ _ _)=>match E.E.ti t,E.ty t,ck fr p with
    |some i,Z (.sl (.st q)),Z k=>match i.kd,gF .i64 k with
     | .slice _ _ _ _,Z k=>bif Nat.beq r era&&Nat.beq n q then Z (av k l,.kA o r (ah k) 0,s)else Y
     |_,_=>Y
    |_,_,_=>Y
   |_=>Y
  |_=>Y
 | .load t a=>match ck fr a with
  |some (.kA o e k off)=>match s.ob.get o with
   |some (.kj n j l era m b hole)=>match E.E.ti t with
    |some i=>bif Nat.beq e era then
      bif Nat.beq off j then
       bif Nat.beq i.size 1&&(!i.agg&&(isNone hole&&Nat.blt j (S.width (.st n))))then Z (ct k l,.qd o m b k,s)else Y
      else bif Nat.ble (Nat.add off i.size) j||Nat.blt j off then(Lu i Y (.st n) (aR l k (S.zero (.st n))) off).map λv=>(ct k l,v,s)else Y
     else Y
    |none=>Y
   |_=>Y
  |_=>Y
 | .store t a (.tmp d)=>match ck fr a,fr.get d with
  |some (.kA o e k off),Z (.qd u w r i)=>match s.ob.get o with
   |some (.kj n j l era m b (Z h))=>match E.E.ti t with
    |some ti=>bif (Nat.beq e era&&(Nat.beq off j&&(Nat.beq u o&&(Nat.beq w m&&(Nat.beq r b&&(Nat.beq ti.size 1&&(!ti.agg&&(Nat.ble s.fl o&&(Nat.blt j (S.width (.st n))&&Nat.blt d bB)))))))))then
      Z (VI k l h i,fu,{s with ob:=s.ob.set aJ o (.kj n j l era m b Y),wr:=o::s.wr})
     else Y
    |none=>Y
   |_=>Y
  |_,_=>Y
 | .buildSlice t len parts=>match parts.toList with
  |[(0,.tmp d)]=>match E.E.ti t,E.ty t,fr.get d with
   |some i,Z (.sl (.st n)),Z (.agg g)=>match E.nst n with
    |some j=>match i.kd,nth g j with
     | .slice sz _ _ _,Z .emp=>bif Nat.beq len 1&&(Nat.ble sz 16777216&&Nat.blt d bB)then match bO s (.st n) (.agg g)with
      |some (x,os)=>(dz s os).map λs=>(W,.nQ n j x,s)
      |none=>Y
      else Y
     |_,_=>Y
    |none=>Y
   |_,_,_=>Y
  |[]=>match E.E.ti t,E.ty t with
   |some i,Z (.sl _)=>match i.kd with
    | .slice _ _ _ _=>bif Nat.beq len 0 then Z (W,.emp,s)else Y
    |_=>Y
   |_,_=>Y
  |_=>Y
 |_=>Y
def yD(E:gA)(fr:bW S)(s:bq S)(o:Op):oY S:=match z4 E fr s o with
 |some r=>Z r
 |none=>match cm E fr s o with
  |some r=>Z r
  |none=>qK E fr s o
def xE(n:Int)(ag:Bool)(sz:Nat)(cs:List (V S))(s:bq S):List Nat->List (Bool×V S×bq S)
 |[]=>[]
 |j::l=>match bif Nat.beq (cz ((cs.drop (Nat.mul j sz)).take sz)) sz&&Nat.blt 0 sz then yB ag ((cs.drop (Nat.mul j sz)).take sz)else Y with
  |some v=>(ia n (Int.ofNat j),v,s)::xE n ag sz cs s l
  |none=>[]
def iI(E:gA)(fr:bW S)(s:bq S)(o:Op):Option (List (Bool×V S×bq S)×Bool×V S×bq S):=
 match o with
 | .next g W=>match ck fr g with
  |some (.ru o)=>match s.ob.get o with
   |some (.o7 b pos)=>bif Nat.ble s.fl o then
     Z ([(NU pos b,.gm [.kb W,.ty (.int .i64) (Int.ofNat pos),.ty (.int .i32) (sM b pos)],{s with ob:=s.ob.set aJ o (.o7 b (Nat.add pos (FO b pos))),wr:=o::s.wr})],W,.gm [.kb J],s)
    else Y
   |_=>Y
  |_=>Y
 | .lookup t x d ok=>match E.mt t,ck fr x,ck fr d with
  |some m,Z (.mp o),Z k=>match s.ob.get o,Vm m.kt k,E.E.ti m.el with
   |some (.Gd kt l),Z k,Z i=>match MH kt m.kt l,yB i.agg (i.zero.map zeroV)with
    |some l,Z z=>Z (l.map λp=>(HA m.kt k p.1,bif ok then .gm [p.2,.kb W]else p.2,s),W,bif ok then .gm [z,.kb J]else z,s)
    |_,_=>Y
   |_,_,_=>Y
  |_,_,_=>Y
 | .index t x d=>match E.E.ti t,ck fr x,ck fr d with
  |some i,Z (.agg e),Z k=>match i.kd,gF .i64 k with
   | .array len sz j,Z n=>bif Nat.beq (cz e) i.size then Z (xE n j sz e s (List.range len),J,fu,s)else Y
   |_,_=>Y
  |_,_,_=>Y
 |_=>Y
def CI(i:TI)(e:Ty)(s:bq S)(x y:V S):oY S:=
 bif !(Nat.blt s.aH bB)then Y else
 match i.kd,Iz s e y with
 | .slice _ _ _ _,Z new=>
  match x with
  | .emp=>Z (W,.sh s.aH 0,dm s (.arr e new 0))
  | .jy _ t b=>match mT t e b with
   |some b=>match y with
    | .jy (_+1) _ _=>Z (cZ b new,.sh s.aH 0,dm s (.arr e (cP b new) 0))
    |_=>Z (cZ b new,.ty (.sl e) (cP b new),s)
   |none=>Y
  | .sh o r=>match s.ob.get o with
   |some (.arr t b era)=>match mT t e b with
    |some b=>
     bif Nat.ble s.fl o&&(Nat.beq r era&&!(Lv y).contains o)then
      Z (cZ b new,.sh o (Nat.succ era),{s with ob:=s.ob.set aJ o (.arr e (cP b new) (Nat.succ era)),wr:=o::s.wr})
     else Y
    |none=>Y
   |_=>Y
  |_=>Y
 |_,_=>Y
def eZ(E:gA)(s:bq S)(b:Builtin)(argTypes:Array TypeId)(args:List (V S)):oY S:=
 match b,args with
 | .len,[x]=>match(nth argTypes.toList 0).bind E.E.ti,(nth argTypes.toList 0).bind E.ty with
  |some i,Z .str=>match i.kd,tG x with
   | .leaf .str,Z b=>Z (W,.ty (.int .i64) (ak b),s)
   |_,_=>Y
  |some i,Z (.sl e)=>match i.kd with
   | .slice _ _ _ _=>(Iz s e x).map λd=>(W,.ty (.int .i64) (ak d),s)
   |_=>Y
  |_,_=>Y
 | .append,[x,y]=>match argTypes.toList with
  |[t,u]=>match E.E.ti t,E.E.ti u,E.ty t with
   |some i,Z j,Z (.sl e)=>match j.kd with
    | .slice _ _ _ _=>CI i e s x y
    |_=>Y
   |_,_,_=>Y
  |_=>Y
 |_,_=>Y
def DR(a b:Int):Int:=bif D.bN a b then b else a
def N3(a b:Int):Int:=bif D.bN b a then b else a
def qZ(E:gA)(s:bq S)(b:Builtin)(argTypes:Array TypeId)(args:List (V S)):oY S:=
 match b,args with
 | .len,[.mp o]=>match(nth argTypes.toList 0).bind E.mt,s.ob.get o with
  |some _,Z (.map _ _ l)=>Z (W,.ty (.int .i64) (ak l),s)
  |some _,Z (.Gd _ l)=>Z (W,.ty (.int .i64) (ak l),s)
  |_,_=>Y
 | .max,[x,y]=>match gF .i64 x,gF .i64 y with
  |some m,Z n=>Z (W,.ty (.int .i64) (DR m n),s)
  |_,_=>Y
 | .min,[x,y]=>match gF .i64 x,gF .i64 y with
  |some m,Z n=>Z (W,.ty (.int .i64) (N3 m n),s)
  |_,_=>Y
 |_,_=>Y
def jz(E:gA)(s:bq S)(b:Builtin)(argTypes:Array TypeId)(args:List (V S)):oY S:=
 match b,args with
 | .len,[.sh o r]=>match s.ob.get o with
  |some (.kj n _ l era _ _ _)=>match(nth argTypes.toList 0).bind E.E.ti,(nth argTypes.toList 0).bind E.ty with
   |some i,Z (.sl (.st q))=>match i.kd with
    | .slice _ _ _ _=>bif Nat.beq r era&&Nat.beq n q then Z (W,.ty (.int .i64) (ak l),s)else Y
    |_=>Y
   |_,_=>Y
  |_=>Y
 | .append,[.sh o r,.nQ q B x]=>match s.ob.get o with
  |some (.kj n j l era m d Y)=>match argTypes.toList with
   |[t,u]=>match E.E.ti t,E.E.ti u,E.ty t,KH s m d with
    |some i,Z v,Z (.sl (.st w)),Z ⟨p,e⟩=>match i.kd,v.kd,mT (.st q) (.st n) [x]with
     | .slice _ _ _ _,.slice _ _ _ _,Z new=>bif Nat.beq r era&&(Nat.beq n w&&(Nat.beq j B&&(Nat.ble s.fl o&&(Nat.ble s.fl m&&(Nat.blt m s.aH&&(Nat.blt s.aH bB&&(Cd S n j p&&Nat.ble 1 (S.width p))))))))then
       Z (D.fA (YK l e) (cZ l new),.sh o (Nat.succ era),{s with ob:=(s.ob.set aJ m (.rws p (cP e [[]]) d)).set aJ o (.kj n j (cP l new) (Nat.succ era) m d Y),wr:=o::m::s.wr})
      else Y
     |_,_,_=>Y
    |_,_,_,_=>Y
   |_=>Y
  |_=>Y
 | .append,[.qd o m r k,y]=>match s.ob.get o,s.ob.get m with
  |some (.kj n j l era C d Y),Z (.rws t e g)=>match argTypes.toList with
   |[z,u]=>match E.E.ti z,E.E.ti u,E.ty z,Iz s t y with
    |some i,Z v,Z (.sl p),Z new=>match i.kd,v.kd,y with
     |_,_,.sh _ _=>Y
     | .slice _ _ _ _,.slice _ _ _ _,_=>bif Nat.beq m C&&(Nat.beq r d&&(Nat.beq r g&&(Nat.ble s.fl o&&(Nat.ble s.fl m&&(Nat.blt o bB&&rA p t)))))then
       Z (D.fA (ct k e) (cZ (aR e k []) new),.qd o m (Nat.succ r) k,{s with ob:=(s.ob.set aJ m (.rws t (dO e k (cP (aR e k []) new)) (Nat.succ r))).set aJ o (.kj n j l era m (Nat.succ r) (Z k)),wr:=o::m::s.wr})
      else Y
     |_,_,_=>Y
    |_,_,_,_=>Y
   |_=>Y
  |_,_=>Y
 |_,_=>Y
def kg(E:gA)(s:bq S)(b:Builtin)(argTypes:Array TypeId)(args:List (V S)):oY S:=match jz E s b argTypes args with
 |some r=>Z r
 |none=>match eZ E s b argTypes args with
  |some r=>Z r
  |none=>qZ E s b argTypes args
end
end TL
end
end
