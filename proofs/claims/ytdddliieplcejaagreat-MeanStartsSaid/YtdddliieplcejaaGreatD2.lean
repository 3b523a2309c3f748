import Derived.Laws.OwnMore
import Derived.Test.YtdddliieplcejaaGreatD1
set_option linter.all false
set_option maxRecDepth 100000
set_option maxHeartbeats 0
noncomputable section
section
namespace TL
open Go
section
inductive Ty where
 |int (k:IntKind)|bool|str
 |sl (e:Ty)
 |st (n:Nat)
 |cR (n:Nat)
 deriving Inhabited
def r6:Ty->Ty->Bool
 | .int j,.int k=>nD j k
 | .bool,.bool=>true
 | .str,.str=>true
 | .sl a,.sl b=>r6 a b
 | .st m,.st n=>Nat.beq m n
 | .cR m,.cR n=>Nat.beq m n
 |_,_=>false
def fG{a:Ty}:∀{b:Ty},r6 a b=true->a=b:=by
 induction a with
 |int j=>
  intro b h;cases b with
  |int k=>
   have:j=k:=by cases j<;>cases k<;>first|rfl|cases h
   rw[this]
  |_=>cases h
 |bool=>intro b h;cases b<;>first|rfl|cases h
 |str=>intro b h;cases b<;>first|rfl|cases h
 |sl e ih=>
  intro b h;cases b with|sl f=>rw[ih h]|_=>cases h
 |st m=>
  intro b h;cases b with|st n=>rw[nT h]|_=>cases h
 |cR m=>
  intro b h;cases b with|cR n=>rw[nT h]|_=>cases h
@[reducible] def den(A:Nat->Type):Ty->Type
 | .int _=>Int
 | .bool=>Bool
 | .str=>List UInt8
 | .sl e=>List (den A e)
 | .st n=>A n
 | .cR n=>A n
@[reducible] def lP(A:Nat->Type):List Ty->Type
 |[]=>Unit
 |t::l=>den A t×lP A l
@[reducible] def wE(A:Nat->Type):List (TypeId×Ty)->Type
 |[]=>Unit
 |p::l=>Sum (den A p.2) (wE A l)
def l9:List (TypeId×Ty)->Nat->Ty
 |[],_=>.bool
 |p::_,0=>p.2
 |_::l,i+1=>l9 l i
def pI:List (TypeId×Ty)->TypeId->Option Nat
 |[],_=>none
 |p::l,t=>bif Nat.beq p.1 t then some 0 else match pI l t with
  |some i=>some (Nat.succ i)
  |none=>none
def Wl{A:Nat->Type}:(l:List (TypeId×Ty))->(i:Nat)->den A (l9 l i)->wE A l
 |[],_,_=>()
 |_::_,0,x=>.inl x
 |_::l,i+1,x=>.inr (Wl l i x)
def VP{A:Nat->Type}:(l:List (TypeId×Ty))->wE A l
 |[]=>()
 |_::l=>.inr (VP l)
def isNil{A:Nat->Type}:(l:List (TypeId×Ty))->wE A l->Bool
 |[],_=>true
 |_::_,.inl _=>false
 |_::l,.inr y=>isNil l y
def iI{A:Nat->Type}:(l:List (TypeId×Ty))->Nat->wE A l->Bool
 |[],_,_=>false
 |_::_,0,.inl _=>true
 |_::_,0,.inr _=>false
 |_::_,_+1,.inl _=>false
 |_::l,i+1,.inr y=>iI l i y
def jE{A:Nat->Type}(z:(t:Ty)->den A t):(l:List (TypeId×Ty))->(i:Nat)->wE A l->den A (l9 l i)
 |[],_,_=>z .bool
 |_::_,0,.inl x=>x
 |p::_,0,.inr _=>z p.2
 |_::l,i+1,.inl _=>z (l9 l i)
 |_::l,i+1,.inr y=>jE z l i y
structure Sg where
 A:Nat->Type
 fs:Nat->List Ty
 dfl:(n:Nat)->A n
 get:(n:Nat)->A n->lP A (fs n)
 VV:(n:Nat)->lP A (fs n)->A n
 cells:(n:Nat)->A n->List D
 alts:Nat->List (TypeId×Ty)
 sM:(n:Nat)->A n->wE A (alts n)
 imk:(n:Nat)->wE A (alts n)->A n
 qe:(n:Nat)->A n->Option (TypeId×D)
 pt:Ty
variable {S:Sg}
def Sg.zero(S:Sg):(t:Ty)->den S.A t
 | .int _=>(0:Int)
 | .bool=>false
 | .str=>([]:List UInt8)
 | .sl _=>[]
 | .st n=>S.dfl n
 | .cR n=>S.imk n (VP (S.alts n))
def bF(s:List UInt8):ByteArray:=⟨s.toArray⟩
def ofBytes(b:ByteArray):List UInt8:=b.data.toList
def N3:Option (TypeId×D)->D
 |none=>.lit .nilIface
 |some p=>.cR p.1 p.2
def enc(S:Sg):(t:Ty)->den S.A t->D
 | .int k,n=>.lit (.int k n)
 | .bool,b=>.lit (.bool b)
 | .str,s=>.lit (.string (bF s))
 | .sl e,l=>.sl (l.map (enc S e))
 | .st n,x=>.agg (S.cells n x)
 | .cR n,x=>N3 (S.qe n x)
def gw(S:Sg):(ts:List Ty)->lP S.A ts->List D
 |[],_=>[]
 |t::l,x=>enc S t x.1::gw S l x.2
def js:Ty->Bool|.st _=>true|_=>false
def Sg.width(S:Sg):Ty->Nat|.st n=>cA (S.fs n)|_=>1
inductive V(S:Sg) where
 |ty (t:Ty) (x:den S.A t)
 |kb (b:Bool)
 |kn (k:IntKind) (n:Int)
 |dat (d:D)
 |ptr (o off:Nat)
 |mV (t:Ty) (x:den S.A t) (off:Nat)
 |kL (o e i off:Nat)
 |sh (o e:Nat)
 |emp
 |jI (n:Nat) (t:Ty) (l:List (den S.A t))
 |fn (f:Fn) (first cap:List (V S))
 |cR (t:TypeId) (v:V S)
 |agg (cs:List (V S))
 |gq (vs:List (V S))
 |gd (c:Bool) (v:V S)
 |mp (o:Nat)
 |rZ (o:Nat)
 |rY (o:Nat)
 |ub (e:Bool)
 |qF (o m r i:Nat)
 |n9 (n j:Nat) (x:S.A n)
inductive BK(S:Sg) where
 |call (f:V S) (args:List (V S))
 |mark (o:Nat)
 |bad
structure bV(S:Sg) where
 n:Nat
 tm:Tr (V S)
 df:List (BK S):=[]
structure LpV(S:Sg) where
 st:LoopState
 oO:Option Code
 fid:FuncId
 fr:bV S
 params:List Nat
 assign:Code
 body:Code
inductive wP(S:Sg) where
 |box (cs:List (V S))
 |arr (t:Ty) (l:List (den S.A t)) (era:Nat)
 |kf (t:Ty) (l:List (den S.A t)) (era:Nat)
 |map (kt vt:Ty) (l:List (den S.A kt×den S.A vt))
 |GQ (kt:Ty) (l:List (den S.A kt×V S))
 |pO (b:List UInt8) (pos:Nat)
 |lp (l:LpV S)
 |Av
 |kE (n j:Nat) (l:List (S.A n)) (era m dg:Nat) (hole:Option Nat)
 |rws (t:Ty) (dL:List (List (den S.A t))) (dg:Nat)
 |gone
structure bq(S:Sg) where
 ob:Tr (wP S)
 aH:Nat
 fl:Nat
 lo:Nat
 wr:List Nat
 dr:List Nat
def bV.get(fr:bV S)(k:Nat):Option (V S):=fr.tm.get k
def bV.put(fr:bV S)(k:Nat)(v:V S):bV S:={fr with tm:=fr.tm.set aI k v}
def bV.ij(fr:bV S)(k:Option Nat)(v:V S):bV S:=match k with|some k=>fr.put k v|none=>fr
def zB:(ts:List Ty)->lP S.A ts->List (V S)
 |[],_=>[]
 |t::l,x=>.ty t x.1::zB l x.2
def uG:(t:Ty)->den S.A t->List (V S)
 | .st n,x=>zB (S.fs n) (S.get n x)
 | .int k,x=>[.ty (.int k) x]
 | .bool,x=>[.ty .bool x]
 | .str,x=>[.ty .str x]
 | .sl e,x=>[.ty (.sl e) x]
 | .cR n,x=>[.ty (.cR n) x]
def sZ:Value->Option (V S)
 | .bool b=>some (.kb b)
 | .int k n=>some (.kn k n)
 | .slice none 0 0=>some .emp
 | .func f a b=>match a.toList,b.toList with
  |[],[]=>some (.fn f [] [])
  |_,_=>none
 | .iface t v=>(Cd v).map λd=>.dat (.cR t d)
 | .string b=>some (.ty .str (ofBytes b))
 |v=>(Cd v).map .dat
def zeroV:D->V S
 | .lit (.bool b)=>.kb b
 | .lit (.int k n)=>.kn k n
 | .lit (.string b)=>.ty .str (ofBytes b)
 | .sl []=>.emp
 |d=>.dat d
def V8:V S->Bool
 | .ty t _=>!(js t)
 | .dat d=>d.leaf
 | .agg _|.gq _|.gd _ _=>false
 |_=>true
def AQ:List (V S)->Bool
 |[]=>true
 |v::l=>V8 v&&AQ l
def u5(i:TI):V S->Option (List (V S))
 | .agg cs=>bif i.agg&&Nat.beq (cA cs) i.size then some cs else none
 | .ty (.st n) x=>bif i.agg&&Nat.beq (cA (S.fs n)) i.size then some (zB (S.fs n) (S.get n x))else none
 | .dat d=>bif i.agg then none else bif Nat.beq i.size 1&&d.leaf then some [.dat d]else none
 | .gq _|.gd _ _=>none
 |v=>bif i.agg then none else bif Nat.beq i.size 1 then some [v]else none
def zo(agg:Bool)(cs:List (V S)):Option (V S):=
 bif agg then some (.agg cs)else match cs with
  |[x]=>some x
  |_=>none
def cm(fr:bV S):Operand->Option (V S)
 | .tmp k=>fr.get k
 | .const v=>sZ v
 | .global _=>none
 | .func f=>some (.fn (.func f) [] [])
def jX(fr:bV S):List Operand->Option (List (V S))
 |[]=>some []
 |x::l=>match cm fr x,jX fr l with
  |some t,some r=>some (t::r)
  |_,_=>none
def gF(k:IntKind):V S->Option Int
 | .kn j n=>bif nD j k then some n else none
 | .ty (.int j) x=>bif nD j k then some x else none
 |_=>none
def iw:V S->Option Bool
 | .kb b=>some b
 | .ty .bool x=>some x
 |_=>none
def ur:V S->Option (List UInt8)
 | .ty .str x=>some x
 |_=>none
def u7(t u:Ty)(x:den S.A t):Option (den S.A u):=
 if h:r6 t u=true then some (fG h▸x)else none
def nt(t u:Ty)(x:List (den S.A t)):Option (List (den S.A u)):=
 if h:r6 t u=true then some (fG h▸x)else none
def ya:(ts:List Ty)->lP S.A ts->Nat->(t:Ty)->den S.A t->lP S.A ts
 |[],h,_,_,_=>h
 | τ::_,h,0,t,y=>(match u7 t τ y with|some z=>z|none=>h.1,h.2)
 |_::ts,h,j+1,t,y=>(h.1,ya ts h.2 j t y)
def cJ:(ts:List Ty)->lP S.A ts->Nat->(t:Ty)->den S.A t
 |[],_,_,t=>S.zero t
 | τ::_,h,0,t=>match u7 τ t h.1 with|some z=>z|none=>S.zero t
 |_::ts,h,j+1,t=>cJ ts h.2 j t
def SA(n j:Nat)(t:Ty)(x:S.A n)(y:List (den S.A t)):S.A n:=S.VV n (ya (S.fs n) (S.get n x) j (.sl t) y)
def Hg(n j:Nat)(t:Ty)(x:S.A n):List (den S.A t):=cJ (S.fs n) (S.get n x) j (.sl t)
def yx(n j:Nat)(t:Ty)(l:List (S.A n)):List (List (den S.A t)):=l.map (Hg n j t)
def ja(n j:Nat)(t:Ty)(l:List (S.A n))(dL:List (List (den S.A t))):List (S.A n):=List.zipWith (SA n j t) l dL
def CR(S:Sg)(n j:Nat)(t:Ty):Bool:=match nth (S.fs n) j with|some u=>r6 u (.sl t)|none=>false
def Lv(s:bq S)(m r:Nat):Option ((t:Ty)×List (List (den S.A t))):=match s.ob.get m with
 |some (.rws t dL r')=>bif Nat.beq r r' then some ⟨t,dL⟩else none
 |_=>none
def I9(s:bq S)(e:Ty):V S->Option (List (den S.A e))
 | .emp=>some []
 | .jI _ t l=>nt t e l
 | .n9 n _ x=>nt (.st n) e [x]
 | .ty (.sl t) x=>nt t e x
 | .sh o r=>match s.ob.get o with
  |some (.arr t l era)|some (.kf t l era)=>bif Nat.beq r era then nt t e l else none
  |_=>none
 |_=>none
mutual
def bM(s:bq S):(t:Ty)->V S->Option (den S.A t×List Nat)
 |t,.ty u x=>match u7 u t x with
  |some y=>some (y,[])
  |none=>none
 | .bool,.kb b=>some (b,[])
 | .int k,.kn j n=>bif nD j k then some (n,[])else none
 | .sl _,.emp=>some ([],[])
 | .sl e,.jI _ t l=>match nt t e l with
  |some l=>some (l,[])
  |none=>none
 | .sl e,.n9 n _ x=>match nt (.st n) e [x]with
  |some l=>some (l,[])
  |none=>none
 | .sl e,.sh o r=>match s.ob.get o with
  |some (.arr t l era)=>bif Nat.beq r era then match nt t e l with|some l=>some (l,[o])|none=>none else none
  |some (.kf t l era)=>bif Nat.beq r era then match nt t e l with|some l=>some (l,[])|none=>none else none
  |some (.kE n j l era m r' none)=>match Lv s m r' with
   |some ⟨t,dL⟩=>bif Nat.beq r era&&(Nat.blt m bA&&CR S n j t)then match nt (.st n) e (ja n j t l dL)with|some l=>some (l,[o,m])|none=>none else none
   |none=>none
  |_=>none
 | .st n,.agg cs=>match mZ s (S.fs n) cs with
  |some (h,os)=>some (S.VV n h,os)
  |none=>none
 | .cR n,.cR t v=>match pI (S.alts n) t with
  |some i=>match bM s (l9 (S.alts n) i) v with
   |some (y,os)=>some (S.imk n (Wl (S.alts n) i y),os)
   |none=>none
  |none=>none
 | .cR n,.dat (.lit .nilIface)=>some (S.imk n (VP (S.alts n)),[])
 |_,_=>none
def mZ(s:bq S):(ts:List Ty)->List (V S)->Option (lP S.A ts×List Nat)
 |[],[]=>some ((),[])
 |t::ts,v::l=>match bM s t v,mZ s ts l with
  |some (x,os),some (h,ps)=>some ((x,h),os++ps)
  |_,_=>none
 |_,_=>none
end
def dz(s:bq S):List Nat->Option (bq S)
 |[]=>some s
 |o::l=>
  bif Nat.ble s.fl o then match s.ob.get o with
   |some (.arr t es era)=>dz {s with ob:=s.ob.set aI o (.kf t es era),wr:=o::s.wr} l
   |some (.kf _ _ _)=>dz s l
   |some (.kE n j es era m r none)=>match Lv s m r with
    |some ⟨t,dL⟩=>bif l.contains m&&(Nat.ble s.fl m&&(Nat.blt m bA&&CR S n j t))then dz {s with ob:=(s.ob.set aI m .gone).set aI o (.kf (.st n) (ja n j t es dL) era),wr:=o::m::s.wr} l else none
    |none=>none
   |some (.rws ..)=>dz s l
   |some .gone=>dz s l
   |_=>none
  else none
def dn(s:bq S)(o:wP S):bq S:={s with ob:=s.ob.set aI s.aH o,aH:=Nat.succ s.aH}
def gf(a b:List UInt8):Bool:=a==b
def eo{α:Type}(l:List α)(lo hi:Int):List α:=(l.take hi.toNat).drop lo.toNat
def aq{α:Type}(l:List α):Int:=l.length
def lH(b:List UInt8)(n:Int):Int:=(b.getD n.toNat 0).toNat
def cM{α:Type}(a b:List α):List α:=a++b
def av{α:Type}(n:Int)(l:List α):Bool:=decide (0<=n)&&decide (n<l.length)
def cw{α:Type}(k:Nat)(l:List α):Bool:=decide (k<l.length)
def eW(lo hi len:Int):Bool:=decide (0<=lo)&&(decide (lo<=hi)&&decide (hi<=len))
def aaQ(a b:List UInt8):Bool:=decide (a.length+b.length<=4611686018427387904)
def cY{α:Type}(a b:List α):Bool:=decide (a.length+b.length<=17179869184)
def nzI(a:Int):Bool:=decide (a≠0)
def aN{α:Type}(l:List α)(k:Nat)(z:α):α:=l.getD k z
def dQ{α:Type}(l:List α)(k:Nat)(x:α):List α:=l.set k x
def ZX{α β:Type}(l:List α)(m:List β):Bool:=decide (l.length=m.length)
def WA{α:Type}(k:Nat)(l:List α)(h i:Nat):Bool:=decide (k<l.length)&&(Nat.beq k h&&Nat.beq i h)
def hU(a b:Int):Bool:=decide (a=b)
def ah(n:Int):Nat:=n.toNat
abbrev pJ(S:Sg):=Option (Bool×V S×bq S)
def Dq:Lk->V S->V S->Option Bool
 | .int k,a,b=>match gF k a,gF k b with
  |some x,some y=>some (D.aO x y)
  |_,_=>none
 | .bool,a,b=>match iw a,iw b with
  |some x,some y=>some (D.beq x y)
  |_,_=>none
 | .str,a,b=>match ur a,ur b with
  |some x,some y=>some (gf x y)
  |_,_=>none
 | .no,_,_=>none
def jT:List Lk->List (V S)->List (V S)->Option Bool
 |[],[],[]=>some true
 |k::ks,a::as,b::bs=>match Dq k a b,jT ks as bs with
  |some x,some y=>some (D.ey x y)
  |_,_=>none
 |_,_,_=>none
def Xh:V S->V S->Option Bool
 | .dat (.lit (.pointer none)),.ptr _ _=>some false
 | .ptr _ _,.dat (.lit (.pointer none))=>some false
 |_,_=>none
def Xi:V S->V S->Option Bool
 | .dat (.lit .nilIface),.cR _ _=>some false
 | .cR _ _,.dat (.lit .nilIface)=>some false
 |_,_=>none
def aaT(i:TI)(a b:V S):Option Bool:=
 bif i.agg then match i.YW,u5 i a,u5 i b with
  |[],_,_=>none
  |k::ks,some as,some bs=>jT (k::ks) as bs
  |_,_,_=>none
 else match i.kd with
  | .leaf k=>Dq k a b
  | .ptr=>Xh a b
  | .iface=>Xi a b
  |_=>none
def aa7(op:BinOp)(k:IntKind)(m n:Int):Option (V S):=
 match op with
 | .lss=>some (.ty .bool (D.bN m n))
 | .leq=>some (.ty .bool (D.eu m n))
 | .gtr=>some (.ty .bool (D.bN n m))
 | .geq=>some (.ty .bool (D.eu n m))
 | .add=>some (.ty (.int k) (D.add k m n))
 | .sub=>some (.ty (.int k) (D.dN k m n))
 | .mul=>some (.ty (.int k) (D.mul k m n))
 |_=>none
def aa4(op:BinOp)(k:IntKind)(m n:Int):Option (V S):=
 match op with
 | .rem=>some (.ty (.int k) (D.rem m n))
 | .quo=>some (.ty (.int k) (D.quo k m n))
 |_=>none
def FH(i:TI)(op:BinOp)(a b:V S):Option (Bool×V S):=
 match op with
 | .eql=>(aaT i a b).map λr=>(true,.ty .bool r)
 | .neq=>(aaT i a b).map λr=>(true,.ty .bool (D.aM r))
 |op=>match i.kd with
  | .leaf (.int k)=>match gF k a,gF k b with
   |some m,some n=>match aa7 op k m n with
    |some d=>some (true,d)
    |none=>(aa4 op k m n).map λd=>(nzI n,d)
   |_,_=>none
  | .leaf .str=>match op,ur a,ur b with
   | .add,some m,some n=>some (aaQ m n,.ty .str (cM m n))
   |_,_,_=>none
  |_=>none
def Kn(s:bq S)(o e:Nat):Option ((t:Ty)×List (den S.A t)):=
 match s.ob.get o with
 |some (.arr t l era)=>bif Nat.beq e era then some ⟨t,l⟩else none
 |some (.kf t l era)=>bif Nat.beq e era then some ⟨t,l⟩else none
 |_=>none
def Zk(τ:Option Ty)(t:Ty):Bool:=match τ with|some u=>r6 u t|none=>false
def Ml(i:TI)(τ:Option Ty)(t:Ty)(x:den S.A t)(off:Nat):Option (V S):=
 bif Nat.beq off 0&&Zk τ t then some (.ty t x)
 else
  bif Nat.ble (Nat.add off i.size) (S.width t)then zo i.agg (((uG t x).drop off).take i.size)else none
def ff:V S:=.dat (.lit (.tuple #[]))
def w8(i:TI)(τ:Option Ty)(s:bq S):V S->pJ S
 | .ptr o off=>match s.ob.get o with
  |some (.box cs)=>
   let l:=(cs.drop off).take i.size
   bif Nat.beq (cA l) i.size then(zo i.agg l).map λt=>(true,t,s)else none
  |_=>none
 | .mV t x off=>(Ml i τ t x off).map λv=>(true,v,s)
 | .kL o e k off=>match Kn s o e with
  |some ⟨t,l⟩=>(Ml i τ t (aN l k (S.zero t)) off).map λv=>(cw k l,v,s)
  |none=>none
 |_=>none
def Sg.mQ(S:Sg):Ty->List Ty
 | .st n=>S.fs n
 |t=>[t]
def uB:(t:Ty)->lP S.A (S.mQ t)->den S.A t
 | .st n,h=>S.VV n h
 | .int _,h=>h.1
 | .bool,h=>h.1
 | .str,h=>h.1
 | .sl _,h=>h.1
 | .cR _,h=>h.1
def DF(i:TI)(s:bq S)(a x:V S):pJ S:=
 match u5 i x with
 |none=>none
 |some l=>match a with
  | .ptr o off=>match s.ob.get o with
   |some (.box cs)=>
    bif Nat.ble s.fl o&&(Nat.ble (Nat.add off (cA l)) (cA cs)&&AQ l)then
     some (true,ff,{s with ob:=s.ob.set aI o (.box (cs.take off++l++cs.drop (Nat.add off (cA l)))),wr:=o::s.wr})
    else none
   |_=>none
  | .kL o e k off=>match s.ob.get o with
   |some (.arr t _ _)=>match mZ s ((S.mQ t).drop off |>.take (cA l)) l with
    |some (_,os)=>match dz s os with
     |some s1=>match s1.ob.get o with
      |some (.arr t es era)=>match mZ s (S.mQ t) ((uG t (aN es k (S.zero t))).take off++l++(uG t (aN es k (S.zero t))).drop (Nat.add off (cA l)))with
       |some (h,_)=>
        bif Nat.ble s1.fl o&&(Nat.beq e era&&(Nat.ble (Nat.add off (cA l)) (S.width t)&&(Nat.ble 1 (cA l)&&AQ l)))then
         some (cw k es,ff,{s1 with ob:=s1.ob.set aI o (.arr t (dQ es k (uB t h)) era),wr:=o::s1.wr})
        else none
       |none=>none
      |_=>none
     |none=>none
    |none=>none
   |_=>none
  |_=>none
def Iw(place:Nat->Option (Nat×TI))(cells:List (V S)):List (Nat×V S)->Option (List (V S))
 |[]=>some cells
 |(k,v)::rest=>match place k with
  |none=>none
  |some (off,i)=>match u5 i v with
   |none=>none
   |some l=>
    bif Nat.ble (Nat.add off (cA l)) (cA cells)&&AQ l then Iw place (cells.take off++l++cells.drop (Nat.add off (cA l))) rest else none
def iq(fr:bV S):List (Nat×Operand)->Option (List (Nat×V S))
 |[]=>some []
 |(k,x)::l=>match cm fr x,iq fr l with
  |some t,some r=>some ((k,t)::r)
  |_,_=>none
def mF(s:bq S)(e:Ty)(es:List (den S.A e)):List (Nat×V S)->Option (List (den S.A e)×List Nat)
 |[]=>some (es,[])
 |(k,v)::rest=>match bM s e v with
  |none=>none
  |some (x,os)=>
   bif Nat.blt k (cA es)then
    match mF s e (es.set k x) rest with
    |some (r,ps)=>some (r,os++ps)
    |none=>none
   else none
def Jy(fr:bV S):Option Operand->Option (Option (V S))
 |none=>some none
 |some x=>(cm fr x).map some
def Bo(dflt:Int):Option (V S)->Option Int
 |none=>some dflt
 |some t=>gF .i64 t
def Mm:V S->List Nat
 | .sh o _=>[o]
 |_=>[]
def uu(i:TI)(τ:Option Ty)(s:bq S)(v:V S)(l h m:Option (V S)):pJ S:=
 match τ,Bo 0 l with
 |some .str,some lo=>match i.kd,ur v,m with
  | .leaf .str,some b,none=>match Bo (aq b) h with
   |some hi=>some (eW lo hi (aq b),.ty .str (eo b lo hi),s)
   |none=>none
  |_,_,_=>none
 |some (.sl e),some lo=>match i.kd,I9 s e v,dz s (Mm v)with
  | .slice _ _ _ _,some es,some s'=>match Bo (aq es) h,m,h with
   |some hi,none,_=>some (eW lo hi (aq es),.ty (.sl e) (eo es lo hi),s')
   |some hi,some y,some _=>match y with
    | .kn .i64 0=>some (hU lo 0&&hU hi 0,.emp,s)
    |y=>match gF .i64 y with
     |some mx=>some (eW lo hi (aq es)&&hU mx hi,.jI 0 e (eo es lo hi),s')
     |none=>none
   |_,_,_=>none
  |_,_,_=>none
 |_,_=>none
def XJ:V S->Option (Option Bool×Bool)
 | .gd g v=>match iw v with
  |some y=>some (some g,y)
  |none=>none
 | .kb b=>some (none,b)
 | .ty .bool x=>some (none,x)
 |_=>none
def orT(g:Option Bool):Bool:=match g with|some g=>g|none=>true
def VG(c a b:V S):Option (Bool×V S):=
 match c with
 | .kb u=>match XJ (bif u then a else b)with
  |some (p,y)=>some (orT p,.ty .bool y)
  |none=>none
 |c=>match iw c,XJ a,XJ b with
  |some t,some (p,x),some (q,y)=>some (bif t then orT p else orT q,.ty .bool (D.aiR t x y))
  |_,_,_=>none
def jB(i:TI)(τ:Option Ty)(s:bq S)(x ix:V S):pJ S:=
 match i.kd,τ,gF .i64 ix with
 | .slice _ _ _ _,some (.sl e),some n=>match x with
  | .sh o r=>match Kn s o r with
   |some ⟨t,l⟩=>bif r6 t e then some (av n l,.kL o r (ah n) 0,s)else none
   |none=>none
  |v=>match I9 s e v with
   |some l=>some (av n l,.mV e (aN l (ah n) (S.zero e)) 0,s)
   |none=>none
 |_,_,_=>none
def o7(i:TI)(s:bq S)(k:Nat)(x:V S):pJ S:=
 match i.kd with
 | .struct fs=>match nth fs k with
  |some (off,size,_)=>bif Nat.beq size 0 then none else match x with
   | .ptr o b=>some (true,.ptr o (Nat.add b off),s)
   | .mV t d b=>some (true,.mV t d (Nat.add b off),s)
   | .kL o e j b=>some (true,.kL o e j (Nat.add b off),s)
   |_=>none
  |none=>none
 |_=>none
def A7(i:TI)(s:bq S)(k:Nat)(x:V S):pJ S:=
 match i.kd with
 | .struct fs=>match nth fs k,u5 i x with
  |some (off,size,ag),some cs=>
   let l:=(cs.drop off).take size
   bif Nat.beq (cA l) size&&!(Nat.beq size 0)then(zo ag l).map λt=>(true,t,s)else none
  |_,_=>none
 |_=>none
def AU(i:TI)(s:bq S)(x ix:V S):pJ S:=
 match i.kd,gF .i64 ix,ur x with
 | .leaf .str,some n,some b=>some (av n b,.ty (.int .u8) (lH b n),s)
 |_,_,_=>none
def Ds(i:TI)(s:bq S)(t:TypeId)(ok:Bool)(x:V S):pJ S:=
 match i.kd,x,ok with
 | .iface,_,_=>none
 |_,.cR u v,true=>bif Nat.beq u t then some (true,.gq [v,.kb true],s)else
   (zo i.agg (i.zero.map zeroV)).map λz=>(true,.gq [z,.kb false],s)
 |_,.cR u v,false=>bif Nat.beq u t then some (true,v,s)else none
 |_,_,_=>none
def unV(i:TI)(op:UnOp)(v:V S):Option (V S):=
 match op,i.kd with
 | .not,.leaf .bool=>(iw v).map λb=>.ty .bool (D.aM b)
 | .neg,.leaf (.int k)=>(gF k v).map λn=>.ty (.int k) (D.neg k n)
 |_,_=>none
def RI(i j:TI)(s:bq S)(v:V S):pJ S:=
 match i.kd,j.kd with
 | .leaf (.int k),.leaf (.int l)=>(gF k v).map λn=>(true,.ty (.int l) (D.conv l n),s)
 | .leaf .str,.leaf .str=>(ur v).map λ_=>(true,v,s)
 |_,_=>none
def zR(s:bq S)(k:Nat):V S->pJ S
 | .gq vs=>(nth vs k).map λt=>(true,t,s)
 |_=>none
structure MT where
 kt:Ty
 vt:Option Ty
 el:TypeId
structure gA where
 E:Env
 ty:Nat->Option Ty
 mt:Nat->Option MT:=λ_=>none
 JB:Nat->String->Option FuncId:=λ_ _=>none
 nst:Nat->Option Nat:=λ_=>none
def cn(E:gA)(fr:bV S)(s:bq S)(o:Op):pJ S:=
 match o with
 | .move x=>(cm fr x).map λt=>(true,t,s)
 | .assign x=>(cm fr x).map λt=>(true,t,s)
 | .pick c a b=>match cm fr c,cm fr a,cm fr b with
  |some c,some a,some b=>(VG c a b).map λ(p,t)=>(p,t,s)
  |_,_,_=>none
 | .alloc t=>match E.E.ti t with
  |some i=>bif Nat.blt s.aH bA then some (true,.ptr s.aH 0,dn s (.box (i.zero.map zeroV)))else none
  |none=>none
 | .box t x=>match E.E.ti t,cm fr x with
  |some i,some v=>bif Nat.blt s.aH bA then(u5 i v).map λcs=>(true,.ptr s.aH 0,dn s (.box cs))else none
  |_,_=>none
 | .build t parts=>match E.E.ti t,iq fr parts.toList with
  |some i,some ps=>match i.kd with
   | .struct fs=>(Iw (λk=>match nth fs k with|some (off,size,ag)=>some (off,{(default:TI)with size:=size,agg:=ag})|none=>none) (i.zero.map zeroV) ps).map
     λcs=>(true,.agg cs,s)
   |_=>none
  |_,_=>none
 | .buildSlice t len parts=>match E.E.ti t,E.ty t,iq fr parts.toList with
  |some i,some (.sl e),some ps=>match i.kd with
   | .slice sz _ _ _=>
    bif Nat.ble (Nat.mul len sz) 16777216 then
     match mF s e (List.replicate len (S.zero e)) ps with
     |some (es,os)=>(dz s os).map λs=>(true,.jI len e es,s)
     |none=>none
    else none
   |_=>none
  |_,_,_=>none
 | .load t a=>match E.E.ti t,cm fr a with
  |some i,some a=>w8 i (E.ty t) s a
  |_,_=>none
 | .store t a x=>match E.E.ti t,cm fr a,cm fr x with
  |some i,some a,some x=>DF i s a x
  |_,_,_=>none
 | .nilCheck x=>match cm fr x with
  |some (.ptr o b)=>some (true,.ptr o b,s)
  |some (.mV t d b)=>some (true,.mV t d b,s)
  |some (.kL o e j b)=>some (true,.kL o e j b,s)
  |some (.cR t v)=>some (true,.cR t v,s)
  |some (.fn (.func f) a b)=>some (true,.fn (.func f) a b,s)
  |_=>none
 | .binOp op t x y _=>match E.E.ti t,cm fr x,cm fr y with
  |some i,some a,some b=>(FH i op a b).map λ(p,d)=>(p,d,s)
  |_,_,_=>none
 | .unOp op t x=>match E.E.ti t,cm fr x with
  |some i,some v=>(unV i op v).map λd=>(true,d,s)
  |_,_=>none
 | .convert src dst x=>match E.E.ti src,E.E.ti dst,cm fr x with
  |some i,some j,some v=>RI i j s v
  |_,_,_=>none
 | .makeInterface t x=>match E.E.ti t,cm fr x with
  |some i,some v=>match i.kd with
   | .iface=>none
   |_=>some (true,.cR t v,s)
  |_,_=>none
 | .makeFunc f first cap=>match jX fr first.toList,jX fr cap.toList with
  |some a,some b=>some (true,.fn f a b,s)
  |_,_=>none
 | .extract x k=>match cm fr x with
  |some v=>zR s k v
  |none=>none
 | .fieldAddr t x k=>match E.E.ti t,cm fr x with
  |some i,some v=>o7 i s k v
  |_,_=>none
 | .field t x k=>match E.E.ti t,cm fr x with
  |some i,some v=>A7 i s k v
  |_,_=>none
 | .indexAddr t x ix=>match E.E.ti t,cm fr x,cm fr ix with
  |some i,some v,some n=>jB i (E.ty t) s v n
  |_,_,_=>none
 | .index t x ix=>match E.E.ti t,cm fr x,cm fr ix with
  |some i,some v,some n=>AU i s v n
  |_,_,_=>none
 | .slice t x lo hi mx=>match E.E.ti t,cm fr x,Jy fr lo,Jy fr hi,Jy fr mx with
  |some i,some v,some l,some h,some m=>uu i (E.ty t) s v l h m
  |_,_,_,_,_=>none
 | .typeAssert x _ t ok=>match E.E.ti t,cm fr x with
  |some i,some v=>Ds i s t ok v
  |_,_=>none
 |_=>none
def Wa:(kt:Ty)->V S->Option (den S.A kt)
 | .int k,v=>gF k v
 | .bool,v=>iw v
 | .str,v=>ur v
 |_,_=>none
def Ii{A:Nat->Type}:(kt:Ty)->den A kt->den A kt->Bool
 | .int _,a,b=>D.aO a b
 | .bool,a,b=>D.beq a b
 | .str,a,b=>gf a b
 |_,_,_=>false
def KV{A:Nat->Type}{β:Type}(kt:Ty)(z:β)(k:den A kt):List (den A kt×β)->β
 |[]=>z
 |p::l=>bif Ii kt k p.1 then p.2 else KV kt z k l
def EZ{A:Nat->Type}{β:Type}(kt:Ty)(k:den A kt):List (den A kt×β)->Bool
 |[]=>false
 |p::l=>bif Ii kt k p.1 then true else EZ kt k l
def n3{A:Nat->Type}{β:Type}(kt:Ty)(k:den A kt)(x:β):List (den A kt×β)->List (den A kt×β)
 |[]=>[(k,x)]
 |p::l=>bif Ii kt k p.1 then(k,x)::l else p::n3 kt k x l
def Cy(kt vt My Sn:Ty)(l:List (den S.A kt×den S.A vt)):Option (List (den S.A My×den S.A Sn)):=
 if h:r6 kt My=true then if h':r6 vt Sn=true then some (fG h▸fG h'▸l)else none else none
def Nl{β:Type}(kt My:Ty)(l:List (den S.A kt×β)):Option (List (den S.A My×β)):=
 if h:r6 kt My=true then some (fG h▸l)else none
def VY(s:bq S)(kt vt:Ty):V S->Option (List (den S.A kt×den S.A vt))
 | .mp o=>match s.ob.get o with
  |some (.map k v l)=>Cy k v kt vt l
  |_=>none
 | .dat (.lit (.map none))=>some []
 |_=>none
def YX{α:Type}(l:List α):Bool:=match l with|[]=>true|_::_=>false
def ZP(n:Int):Bool:=decide (0<=n)&&decide (n<=17179869184)
def Ot(pos:Nat)(b:List UInt8):Bool:=decide (pos<b.length)
def tE(b:List UInt8)(pos:Nat):Int:=((Utf8.decode (bF b) pos).1:Nat)
def GB(b:List UInt8)(pos:Nat):Nat:=(Utf8.decode (bF b) pos).2
def ML(fr:bV S):Option Operand->Bool
 |none=>true
 |some x=>match cm fr x with
  |some (.kn _ _)=>true
  |some (.ty (.int _) _)=>true
  |_=>false
def rC(E:gA)(fr:bV S)(s:bq S)(o:Op):pJ S:=
 match o with
 | .makeMap t r=>bif Nat.blt s.aH bA&&ML fr r then match E.mt t with
  |some m=>match m.vt with
   |some vt=>some (true,.mp s.aH,dn s (.map m.kt vt []))
   |none=>some (true,.mp s.aH,dn s (.GQ m.kt []))
  |none=>none
  else none
 | .lookup t x ix ok=>match E.mt t,cm fr x,cm fr ix with
  |some m,some x,some k=>match m.vt with
   |some vt=>match Wa m.kt k,VY s m.kt vt x with
    |some k,some l=>some (true,bif ok then .gq [.ty vt (KV m.kt (S.zero vt) k l),.ty .bool (EZ m.kt k l)]else .ty vt (KV m.kt (S.zero vt) k l),s)
    |_,_=>none
   |none=>none
  |_,_,_=>none
 | .mapUpdate t x ix y|.insert t x ix y=>match E.mt t,cm fr x,cm fr ix,cm fr y with
  |some m,some (.mp o),some k,some y=>match Wa m.kt k,s.ob.get o with
   |some k,some (.map kt vt l)=>match Cy kt vt m.kt vt l,bM s vt y with
    |some l,some (y,os)=>match dz s os with
     |some s1=>bif Nat.ble s.fl o&&Zk m.vt vt then some (true,ff,{s1 with ob:=s1.ob.set aI o (.map m.kt vt (n3 m.kt k y l)),wr:=o::s1.wr})else none
     |none=>none
    |_,_=>none
   |some k,some (.GQ kt l)=>match Nl kt m.kt l with
    |some l=>bif Nat.ble s.fl o then some (true,ff,{s with ob:=s.ob.set aI o (.GQ m.kt (n3 m.kt k y l)),wr:=o::s.wr})else none
    |none=>none
   |_,_=>none
  |_,_,_,_=>none
 | .makeSlice t n c=>match E.E.ti t,E.ty t,cm fr n,cm fr c with
  |some i,some (.sl e),some n,some c=>match i.kd,gF .i64 n,gF .i64 c with
   | .slice _ _ _ _,some n,some c=>bif Nat.blt s.aH bA then some (ZP n&&hU c n,.sh s.aH 0,dn s (.arr e (List.replicate (ah n) (S.zero e)) 0))else none
   |_,_,_=>none
  |_,_,_,_=>none
 | .range t x=>match E.E.ti t,cm fr x with
  |some i,some x=>match i.kd,ur x with
   | .leaf .str,some b=>bif Nat.blt s.aH bA then some (true,.rY s.aH,dn s (.pO b 0))else none
   |_,_=>none
  |_,_=>none
 | .binOp .eql t x (.const .nilIface) _=>match E.E.ti t,cm fr x with
  |some i,some (.ty (.cR n) y)=>match i.kd with
   | .iface=>some (true,.ty .bool (isNil (S.alts n) (S.sM n y)),s)
   |_=>none
  |some i,some (.dat (.lit .nilIface))=>match i.kd with
   | .iface=>some (true,.kb true,s)
   |_=>none
  |_,_=>none
 | .binOp .neq t x (.const .nilIface) _=>match E.E.ti t,cm fr x with
  |some i,some (.ty (.cR n) y)=>match i.kd with
   | .iface=>some (true,.ty .bool (D.aM (isNil (S.alts n) (S.sM n y))),s)
   |_=>none
  |some i,some (.dat (.lit .nilIface))=>match i.kd with
   | .iface=>some (true,.kb false,s)
   |_=>none
  |_,_=>none
 | .binOp .eql t x (.const (.slice none 0 0)) _=>match E.E.ti t,E.ty t,cm fr x with
  |some i,some (.sl e),some x=>match i.kd,I9 s e x with
   | .slice _ _ _ _,some l=>some (true,.ub (YX l),s)
   |_,_=>none
  |_,_,_=>none
 | .nilCheck x=>match cm fr x with
  |some (.ty (.cR n) y)=>some (D.aM (isNil (S.alts n) (S.sM n y)),.ty (.cR n) y,s)
  |_=>none
 | .typeAssert x _ t ok=>match E.E.ti t,E.ty t,cm fr x with
  |some i,some τ,some (.ty (.cR n) y)=>match i.kd,pI (S.alts n) t with
   | .iface,_=>none
   |_,some j=>bif r6 (l9 (S.alts n) j) τ then
     let v:V S:=.ty (l9 (S.alts n) j) (jE S.zero (S.alts n) j (S.sM n y))
     let b:=iI (S.alts n) j (S.sM n y)
     bif ok then some (true,.gq [v,.ty .bool b],s)else some (b,v,s)
    else none
   |_,none=>bif ok then some (true,.gq [.ty τ (S.zero τ),.kb false],s)else none
  |_,_,_=>none
 | .build t parts=>match E.E.ti t,iq fr parts.toList with
  |some i,some ps=>match i.kd with
   | .array _ sz ag=>(Iw (λk=>some (Nat.mul k sz,{(default:TI)with size:=sz,agg:=ag})) (i.zero.map zeroV) ps).map λcs=>(true,.agg cs,s)
   |_=>none
  |_,_=>none
 |_=>none
def isNone{α:Type}:Option α->Bool|none=>true|some _=>false
def AN(E:gA)(fr:bV S)(s:bq S)(o:Op):pJ S:=
 match o with
 | .indexAddr t x ix=>match cm fr x with
  |some (.sh o r)=>match s.ob.get o with
   |some (.kE n _ l era _ _ _)=>match E.E.ti t,E.ty t,cm fr ix with
    |some i,some (.sl (.st n')),some k=>match i.kd,gF .i64 k with
     | .slice _ _ _ _,some k=>bif Nat.beq r era&&Nat.beq n n' then some (av k l,.kL o r (ah k) 0,s)else none
     |_,_=>none
    |_,_,_=>none
   |_=>none
  |_=>none
 | .load t a=>match cm fr a with
  |some (.kL o e k off)=>match s.ob.get o with
   |some (.kE n j l era m dg hole)=>match E.E.ti t with
    |some i=>bif Nat.beq e era then
      bif Nat.beq off j then
       bif Nat.beq i.size 1&&(!i.agg&&(isNone hole&&Nat.blt j (S.width (.st n))))then some (cw k l,.qF o m dg k,s)else none
      else bif Nat.ble (Nat.add off i.size) j||Nat.blt j off then(Ml i none (.st n) (aN l k (S.zero (.st n))) off).map λv=>(cw k l,v,s)else none
     else none
    |none=>none
   |_=>none
  |_=>none
 | .store t a (.tmp kx)=>match cm fr a,fr.get kx with
  |some (.kL o e k off),some (.qF o' m' r i)=>match s.ob.get o with
   |some (.kE n j l era m dg (some h))=>match E.E.ti t with
    |some ti=>bif (Nat.beq e era&&(Nat.beq off j&&(Nat.beq o' o&&(Nat.beq m' m&&(Nat.beq r dg&&(Nat.beq ti.size 1&&(!ti.agg&&(Nat.ble s.fl o&&(Nat.blt j (S.width (.st n))&&Nat.blt kx bA)))))))))then
      some (WA k l h i,ff,{s with ob:=s.ob.set aI o (.kE n j l era m dg none),wr:=o::s.wr})
     else none
    |none=>none
   |_=>none
  |_,_=>none
 | .buildSlice t len parts=>match parts.toList with
  |[(0,.tmp kx)]=>match E.E.ti t,E.ty t,fr.get kx with
   |some i,some (.sl (.st n)),some (.agg cs)=>match E.nst n with
    |some j=>match i.kd,nth cs j with
     | .slice sz _ _ _,some .emp=>bif Nat.beq len 1&&(Nat.ble sz 16777216&&Nat.blt kx bA)then match bM s (.st n) (.agg cs)with
      |some (x,os)=>(dz s os).map λs=>(true,.n9 n j x,s)
      |none=>none
      else none
     |_,_=>none
    |none=>none
   |_,_,_=>none
  |[]=>match E.E.ti t,E.ty t with
   |some i,some (.sl _)=>match i.kd with
    | .slice _ _ _ _=>bif Nat.beq len 0 then some (true,.emp,s)else none
    |_=>none
   |_,_=>none
  |_=>none
 |_=>none
def zu(E:gA)(fr:bV S)(s:bq S)(o:Op):pJ S:=match AN E fr s o with
 |some r=>some r
 |none=>match cn E fr s o with
  |some r=>some r
  |none=>rC E fr s o
def yC(n:Int)(ag:Bool)(sz:Nat)(cs:List (V S))(s:bq S):List Nat->List (Bool×V S×bq S)
 |[]=>[]
 |j::l=>match bif Nat.beq (cA ((cs.drop (Nat.mul j sz)).take sz)) sz&&Nat.blt 0 sz then zo ag ((cs.drop (Nat.mul j sz)).take sz)else none with
  |some v=>(hU n (Int.ofNat j),v,s)::yC n ag sz cs s l
  |none=>[]
def jc(E:gA)(fr:bV S)(s:bq S)(o:Op):Option (List (Bool×V S×bq S)×Bool×V S×bq S):=
 match o with
 | .next it true=>match cm fr it with
  |some (.rY o)=>match s.ob.get o with
   |some (.pO b pos)=>bif Nat.ble s.fl o then
     some ([(Ot pos b,.gq [.kb true,.ty (.int .i64) (Int.ofNat pos),.ty (.int .i32) (tE b pos)],{s with ob:=s.ob.set aI o (.pO b (Nat.add pos (GB b pos))),wr:=o::s.wr})],true,.gq [.kb false],s)
    else none
   |_=>none
  |_=>none
 | .lookup t x ix ok=>match E.mt t,cm fr x,cm fr ix with
  |some m,some (.mp o),some k=>match s.ob.get o,Wa m.kt k,E.E.ti m.el with
   |some (.GQ kt l),some k,some i=>match Nl kt m.kt l,zo i.agg (i.zero.map zeroV)with
    |some l,some z=>some (l.map λp=>(Ii m.kt k p.1,bif ok then .gq [p.2,.kb true]else p.2,s),true,bif ok then .gq [z,.kb false]else z,s)
    |_,_=>none
   |_,_,_=>none
  |_,_,_=>none
 | .index t x ix=>match E.E.ti t,cm fr x,cm fr ix with
  |some i,some (.agg cs),some k=>match i.kd,gF .i64 k with
   | .array len sz ag,some n=>bif Nat.beq (cA cs) i.size then some (yC n ag sz cs s (List.range len),false,ff,s)else none
   |_,_=>none
  |_,_,_=>none
 |_=>none
def Du(i:TI)(e:Ty)(s:bq S)(x y:V S):pJ S:=
 bif !(Nat.blt s.aH bA)then none else
 match i.kd,I9 s e y with
 | .slice _ _ _ _,some new=>
  match x with
  | .emp=>some (true,.sh s.aH 0,dn s (.arr e new 0))
  | .jI _ t es=>match nt t e es with
   |some es=>match y with
    | .jI (_+1) _ _=>some (cY es new,.sh s.aH 0,dn s (.arr e (cM es new) 0))
    |_=>some (cY es new,.ty (.sl e) (cM es new),s)
   |none=>none
  | .sh o r=>match s.ob.get o with
   |some (.arr t es era)=>match nt t e es with
    |some es=>
     bif Nat.ble s.fl o&&(Nat.beq r era&&!(Mm y).contains o)then
      some (cY es new,.sh o (Nat.succ era),{s with ob:=s.ob.set aI o (.arr e (cM es new) (Nat.succ era)),wr:=o::s.wr})
     else none
    |none=>none
   |_=>none
  |_=>none
 |_,_=>none
def e8(E:gA)(s:bq S)(b:Builtin)(argTypes:Array TypeId)(args:List (V S)):pJ S:=
 match b,args with
 | .len,[x]=>match(nth argTypes.toList 0).bind E.E.ti,(nth argTypes.toList 0).bind E.ty with
  |some i,some .str=>match i.kd,ur x with
   | .leaf .str,some b=>some (true,.ty (.int .i64) (aq b),s)
   |_,_=>none
  |some i,some (.sl e)=>match i.kd with
   | .slice _ _ _ _=>(I9 s e x).map λes=>(true,.ty (.int .i64) (aq es),s)
   |_=>none
  |_,_=>none
 | .append,[x,y]=>match argTypes.toList with
  |[t,u]=>match E.E.ti t,E.E.ti u,E.ty t with
   |some i,some j,some (.sl e)=>match j.kd with
    | .slice _ _ _ _=>Du i e s x y
    |_=>none
   |_,_,_=>none
  |_=>none
 |_,_=>none
def Oy(a b:Int):Int:=bif D.bN a b then b else a
def VW(a b:Int):Int:=bif D.bN b a then b else a
def rS(E:gA)(s:bq S)(b:Builtin)(argTypes:Array TypeId)(args:List (V S)):pJ S:=
 match b,args with
 | .len,[.mp o]=>match(nth argTypes.toList 0).bind E.mt,s.ob.get o with
  |some _,some (.map _ _ l)=>some (true,.ty (.int .i64) (aq l),s)
  |some _,some (.GQ _ l)=>some (true,.ty (.int .i64) (aq l),s)
  |_,_=>none
 | .max,[x,y]=>match gF .i64 x,gF .i64 y with
  |some m,some n=>some (true,.ty (.int .i64) (Oy m n),s)
  |_,_=>none
 | .min,[x,y]=>match gF .i64 x,gF .i64 y with
  |some m,some n=>some (true,.ty (.int .i64) (VW m n),s)
  |_,_=>none
 |_,_=>none
def jJ(E:gA)(s:bq S)(b:Builtin)(argTypes:Array TypeId)(args:List (V S)):pJ S:=
 match b,args with
 | .len,[.sh o r]=>match s.ob.get o with
  |some (.kE n _ l era _ _ _)=>match(nth argTypes.toList 0).bind E.E.ti,(nth argTypes.toList 0).bind E.ty with
   |some i,some (.sl (.st n'))=>match i.kd with
    | .slice _ _ _ _=>bif Nat.beq r era&&Nat.beq n n' then some (true,.ty (.int .i64) (aq l),s)else none
    |_=>none
   |_,_=>none
  |_=>none
 | .append,[.sh o r,.n9 n' j' x]=>match s.ob.get o with
  |some (.kE n j l era m dg none)=>match argTypes.toList with
   |[t,u]=>match E.E.ti t,E.E.ti u,E.ty t,Lv s m dg with
    |some i,some i',some (.sl (.st n'')),some ⟨t',dL⟩=>match i.kd,i'.kd,nt (.st n') (.st n) [x]with
     | .slice _ _ _ _,.slice _ _ _ _,some new=>bif Nat.beq r era&&(Nat.beq n n''&&(Nat.beq j j'&&(Nat.ble s.fl o&&(Nat.ble s.fl m&&(Nat.blt m s.aH&&(Nat.blt s.aH bA&&(CR S n j t'&&Nat.ble 1 (S.width t'))))))))then
       some (D.ey (ZX l dL) (cY l new),.sh o (Nat.succ era),{s with ob:=(s.ob.set aI m (.rws t' (cM dL [[]]) dg)).set aI o (.kE n j (cM l new) (Nat.succ era) m dg none),wr:=o::m::s.wr})
      else none
     |_,_,_=>none
    |_,_,_,_=>none
   |_=>none
  |_=>none
 | .append,[.qF o m r k,y]=>match s.ob.get o,s.ob.get m with
  |some (.kE n j l era m' dg none),some (.rws t dL Vc)=>match argTypes.toList with
   |[ta,u]=>match E.E.ti ta,E.E.ti u,E.ty ta,I9 s t y with
    |some i,some i',some (.sl t'),some new=>match i.kd,i'.kd,y with
     |_,_,.sh _ _=>none
     | .slice _ _ _ _,.slice _ _ _ _,_=>bif Nat.beq m m'&&(Nat.beq r dg&&(Nat.beq r Vc&&(Nat.ble s.fl o&&(Nat.ble s.fl m&&(Nat.blt o bA&&r6 t' t)))))then
       some (D.ey (cw k dL) (cY (aN dL k []) new),.qF o m (Nat.succ r) k,{s with ob:=(s.ob.set aI m (.rws t (dQ dL k (cM (aN dL k []) new)) (Nat.succ r))).set aI o (.kE n j l era m (Nat.succ r) (some k)),wr:=o::m::s.wr})
      else none
     |_,_,_=>none
    |_,_,_,_=>none
   |_=>none
  |_,_=>none
 |_,_=>none
def kC(E:gA)(s:bq S)(b:Builtin)(argTypes:Array TypeId)(args:List (V S)):pJ S:=match jJ E s b argTypes args with
 |some r=>some r
 |none=>match e8 E s b argTypes args with
  |some r=>some r
  |none=>rS E s b argTypes args
end
variable {S:Sg}
section
def aB{α:Type}(c:Bool)(x:Option α):Option α:=bif c then x else none
def aj{α:Type}(c:Bool)(x y:Option α):Option α:=bif c then x else y
def ak{α β:Type}(x:Option α)(f:α->Option β):Option β:=match x with|some a=>f a|none=>none
def imp(c p:Bool):Bool:=bif c then p else true
inductive Ck where
 |dat (t:Ty)|own (e:Ty)|jy (n j:Nat) (t:Ty)|nil (e:Ty)|ptr (t:Ty)
@[reducible] def Ck.ty:Ck->Ty|.dat t=>t|.own e=>.sl e|.jy n _ _=>.sl (.st n)|.nil e=>.sl e|.ptr t=>t
inductive Bk where
 |cells (cs:List Ck)|map (kt vt:Ty)|pO|link (pre post:List Ck)
inductive Pk where
 |one (c:Ck)|box (k:Bk)|hid (k:Bk)
@[reducible] def gp(A:Nat->Type):List Ck->Type
 |[]=>Unit
 |c::l=>den A c.ty×gp A l
@[reducible] def wD(A:Nat->Type):Bk->Type
 | .cells cs=>gp A cs
 | .map kt vt=>List (den A kt×den A vt)
 | .pO=>List UInt8×Nat
 | .link pre post=>gp A pre×gp A post
@[reducible] def fW(A:Nat->Type):List Pk->Type
 |[]=>Unit
 | .one c::l=>den A c.ty×fW A l
 | .box k::l=>wD A k×fW A l
 | .hid k::l=>wD A k×fW A l
@[reducible] def iE(A:Nat->Type):List Pk->Type
 |[]=>Unit
 | .one _::l=>iE A l
 | .box k::l=>wD A k×iE A l
 | .hid k::l=>wD A k×iE A l
inductive Rx(R P:Type) where
 |ok (r:R)|dm (p:P)
@[reducible] def RT:Bool->Type->Type->Type
 |false,R,_=>R
 |true,R,P=>Rx R P
def RT.res{R P:Type}:(pn:Bool)->RT pn R P->Rx R P
 |false,r=>Rx.ok r
 |true,r=>r
def RT.ok{R P:Type}:(pn:Bool)->R->RT pn R P
 |false,r=>r
 |true,r=>Rx.ok r
def RT.dm{R P:Type}:(pn:Bool)->P->Option (RT pn R P)
 |false,_=>none
 |true,p=>some (Rx.dm p)
structure lF(S:Sg) where
 ps:List Pk
 rs:List Ck
 pn:Bool
 F:fW S.A ps->Option (RT pn (gp S.A rs×iE S.A ps) (den S.A S.pt×iE S.A ps))
def l6(s:bq S):(c:Ck)->V S->Option (den S.A c.ty×List Nat×List Nat)
 | .dat t,v=>match bM s t v with
  |some (x,os)=>some (x,os,[])
  |none=>none
 | .own e,.emp=>bif Nat.ble 1 (S.width e)then some ([],[],[])else none
 | .own e,.sh o r=>match s.ob.get o with
  |some (.arr t l era)=>bif Nat.beq r era&&(Nat.ble s.fl o&&Nat.ble s.lo o)then match nt t e l with|some l=>some (l,[],[o])|none=>none else none
  |_=>none
 | .nil _,.emp=>some ([],[],[])
 | .jy n j t,.emp=>bif Nat.ble 1 (S.width (.st n))&&(CR S n j t&&Nat.blt j (S.width (.st n)))then some ([],[],[])else none
 | .jy n j t,.sh o r=>match s.ob.get o with
  |some (.kE n' j' l era m dg none)=>match Lv s m dg with
   |some ⟨t',dL⟩=>bif (Nat.beq r era&&(Nat.beq j j'&&(Nat.ble s.fl o&&(Nat.ble s.lo o&&(Nat.ble s.fl m&&(Nat.ble s.lo m&&(Nat.blt m s.aH&&(CR S n' j t'&&r6 t' t))))))))then match nt (.st n') (.st n) (ja n' j t' l dL)with
     |some l=>some (l,[],[o,m])
     |none=>none
    else none
   |none=>none
  |_=>none
 |_,_=>none
def gI(s:bq S):(cs:List Ck)->List (V S)->Option (gp S.A cs×List Nat×List Nat)
 |[],[]=>some ((),[],[])
 |c::cs,v::l=>match l6 s c v,gI s cs l with
  |some (x,a,b),some (h,a',b')=>some ((x,h),a++a',b++b')
  |_,_=>none
 |_,_=>none
def Td:Bk->Nat->V S
 | .cells _,o=>.ptr o 0
 | .map _ _,o=>.mp o
 | .pO,o=>.rY o
 | .link _ _,o=>.ptr o 0
def CM:Bk->V S->Option Nat
 | .cells _,.ptr o 0=>some o
 | .map _ _,.mp o=>some o
 | .pO,.rY o=>some o
 | .link _ _,.ptr o 0=>some o
 |_,_=>none
def kz(s:bq S):(k:Bk)->Option (wP S)->Option (wD S.A k×List Nat×List Nat×Option Nat)
 | .cells cs,some (.box vs)=>match gI s cs vs with
  |some (x,a,b)=>some (x,a,b,none)
  |none=>none
 | .map kt vt,some (.map k v l)=>match Cy k v kt vt l with
  |some l=>some (l,[],[],none)
  |none=>none
 | .pO,some (.pO b n)=>some ((b,n),[],[],none)
 | .link pre post,some (.box vs)=>match gI s pre (vs.take (cA pre)),nth vs (cA pre),gI s post (vs.drop (Nat.succ (cA pre)))with
  |some (x,a,b),some (.ptr o 0),some (y,a',b')=>some ((x,y),a++a',b++b',some o)
  |_,_,_=>none
 |_,_=>none
def EF:Bk->List Pk->Bool
 | .link _ _,.hid _::_=>true
 | .link _ _,_=>false
 |_,_=>true
def dY(s:bq S):(ps:List Pk)->List (V S)->Option Nat->Option (fW S.A ps×List Nat×List Nat×List Nat)
 |[],[],_=>some ((),[],[],[])
 | .one c::ps,v::l,_=>match l6 s c v,dY s ps l none with
  |some (x,a,b),some (h,a',b',bs)=>some ((x,h),a++a',b++b',bs)
  |_,_=>none
 | .box k::ps,v::l,_=>match CM k v with
  |some o=>bif Nat.ble s.fl o&&EF k ps then match kz s k (s.ob.get o)with
   |some (x,a,b,nx)=>match dY s ps l nx with
    |some (h,a',b',bs)=>some ((x,h),a++a',b++b',o::bs)
    |none=>none
   |none=>none
   else none
  |none=>none
 | .hid k::ps,l,some o=>bif Nat.ble s.fl o&&EF k ps then match kz s k (s.ob.get o)with
   |some (x,a,b,nx)=>match dY s ps l nx with
    |some (h,a',b',bs)=>some ((x,h),a++a',b++b',o::bs)
    |none=>none
   |none=>none
   else none
 |_,_,_=>none
def uh(s:bq S):(c:Ck)->den S.A c.ty->V S×bq S
 | .dat t,x=>(.ty t x,s)
 | .own e,l=>(.sh s.aH 0,dn s (.arr e l 0))
 | .nil _,_=>(.emp,s)
 | .ptr t,x=>(.mV t x 0,s)
 | .jy n j t,l=>(.sh s.aH 0,dn (dn s (.kE n j l 0 (Nat.succ s.aH) 0 none)) (.rws t (yx n j t l) 0))
def gH(s:bq S):(cs:List Ck)->gp S.A cs->List (V S)×bq S
 |[],_=>([],s)
 |c::cs,x=>match uh s c x.1 with
  |(v,s)=>match gH s cs x.2 with
   |(l,s)=>(v::l,s)
def dF:List Nat->Option Nat
 |[]=>none
 |a::_=>some a
def Q4:Option Nat->List (V S)
 |some o=>[.ptr o 0]
 |none=>[]
def gC(s:bq S)(nx:Option Nat):(k:Bk)->wD S.A k->wP S×bq S
 | .cells cs,x=>match gH s cs x with
  |(vs,s)=>(.box vs,s)
 | .map kt vt,l=>(.map kt vt l,s)
 | .pO,x=>(.pO x.1 x.2,s)
 | .link pre post,x=>match gH s pre x.1 with
  |(vs,s)=>match gH s post x.2 with
   |(vs',s)=>(.box (vs++(Q4 nx++vs')),s)
def ku(s:bq S):(ps:List Pk)->List Nat->iE S.A ps->Option (bq S)
 |[],[],_=>some s
 | .one _::ps,bs,h=>ku s ps bs h
 | .box k::ps,o::bs,h=>match gC s (dF bs) k h.1 with
  |(ob,s)=>ku {s with ob:=s.ob.set aI o ob,wr:=o::s.wr} ps bs h.2
 | .hid k::ps,o::bs,h=>match gC s (dF bs) k h.1 with
  |(ob,s)=>ku {s with ob:=s.ob.set aI o ob,wr:=o::s.wr} ps bs h.2
 |_,_,_=>none
def agF(b:Nat):Option Nat->Bool
 |none=>true
 |some o=>Nat.beq o (Nat.succ b)
def sA(s:bq S):Nat->(ps:List Pk)->Option (iE S.A ps×List Nat×List Nat)
 |_,[]=>some ((),[],[])
 |b,.one _::ps=>sA s b ps
 |b,.box k::ps=>match kz s k (s.ob.get b),sA s (Nat.succ b) ps with
  |some (x,a,c,nx),some (h,a',c')=>bif agF b nx&&EF k ps then some ((x,h),a++a',c++c')else none
  |_,_=>none
 |b,.hid k::ps=>match kz s k (s.ob.get b),sA s (Nat.succ b) ps with
  |some (x,a,c,nx),some (h,a',c')=>bif agF b nx&&EF k ps then some ((x,h),a++a',c++c')else none
  |_,_=>none
def sC:List Nat->Bool
 |[]=>true
 |a::l=>!(l.contains a)&&sC l
def Br(l m:List Nat):Bool:=l.all λa=>!(m.contains a)
def GD:List (V S)->V S
 |[x]=>x
 |l=>.gq l
inductive xC(S:Sg) where
 |pR
 |ext (id:Nat)
 |ret
 |dm (v:V S)
abbrev Sh:=List (Nat×Pk)
inductive Pt where
 |slot (k:Nat)|cell (p:Pt) (i:Nat)|cap (p:Pt) (i:Nat)|rnd (p:Pt) (k:Nat)
structure LSh where
 sh:Sh
 pts:List Pt:=[]
 al:List (Nat×Nat):=[]
 pl:Nat:=0
structure ga(S:Sg) where
 T:gA
 Hh:FuncId->Option (lF S)
 sh:FuncId->Nat->Option LSh
 pn:Bool:=false
def oc:V S->List (V S)->Option (FuncId×List (V S))
 | .fn (.func f) first cap,args=>some (f,first++args++cap)
 |_,_=>none
inductive Tgt where|fn (f:FuncId)|yl (o:Nat)
abbrev iB(S:Sg):=Tgt->List (V S)->bq S->{ω:Type}->(V S->bq S->Option ω)->(V S->bq S->Option ω)->Option ω
mutual
def gR(os:List Nat):V S->Bool
 | .ptr o _=>os.contains o
 | .kL o _ _ _=>os.contains o
 | .sh o _=>os.contains o
 | .mp o=>os.contains o
 | .rZ o=>os.contains o
 | .rY o=>os.contains o
 | .qF o m _ _=>os.contains o||os.contains m
 | .fn _ a b=>nC os a||nC os b
 | .cR _ v=>gR os v
 | .agg cs=>nC os cs
 | .gq cs=>nC os cs
 | .gd _ v=>gR os v
 |_=>false
def nC(os:List Nat):List (V S)->Bool
 |[]=>false
 |v::l=>gR os v||nC os l
end
def JC{α:Type}(os:List Nat):List (α×V S)->Bool
 |[]=>false
 |p::l=>gR os p.2||JC os l
def qd(p:V S->Bool):Tr (V S)->Bool
 | .nil=>false
 | .node v l r=>(match v with|some x=>p x|none=>false)||(qd p l||qd p r)
def Jz(os:List Nat):wP S->Bool
 | .box cs=>nC os cs
 | .GQ _ l=>JC os l
 | .lp l=>qd (gR os) l.fr.tm
 | .kE _ _ _ _ m _ _=>os.contains m
 |_=>false
namespace Tr
variable {α:Type}
def del:Nat->Tr α->Nat->Tr α
 |0,t,_=>t
 |_+1,.nil,_=>.nil
 |n+1,.node v l r,k=>match k with
  |0=>.node none l r
  |k+1=>match Nat.beq (Nat.mod k 2) 0 with
   |true=>.node v (del n l (Nat.div k 2)) r
   |false=>.node v l (del n r (Nat.div k 2))
def keep(p:α->Bool):Tr α->Tr α
 | .nil=>.nil
 | .node v l r=>.node (match v with|some x=>bif p x then some x else none|none=>none) (keep p l) (keep p r)
end Tr
namespace Tr
variable {α:Type}
def mapA(f:α->α):Tr α->Tr α
 | .nil=>.nil
 | .node v l r=>.node (match v with|some x=>some (f x)|none=>none) (mapA f l) (mapA f r)
def jA(p:α->Bool):Tr α->List Nat
 | .nil=>[]
 | .node v l r=>(match v with|some x=>bif p x then[0]else[]|none=>[])++((jA p l).map (λk=>Nat.succ (Nat.mul 2 k))++(jA p r).map (λk=>Nat.succ (Nat.succ (Nat.mul 2 k))))
end Tr
def xG:V S:=.gd false ff
def pF(os:List Nat)(v:V S):V S:=bif gR os v then xG else v
def mW(os:List Nat):wP S->wP S
 | .box cs=>.box (cs.map (pF os))
 | .GQ kt l=>.GQ kt (l.map λp=>(p.1,pF os p.2))
 | .lp l=>.lp {l with fr:={l.fr with tm:=l.fr.tm.mapA (pF os)}}
 | .kE n j l era m dg hole=>bif os.contains m then .gone else .kE n j l era m dg hole
 |o=>o
def forget(os:List Nat)(s:bq S):bq S:=match os with
 |[]=>s
 |_=>{s with ob:=s.ob.mapA (mW os),wr:=s.ob.jA (Jz os)++s.wr}
def IB(bs:List Nat)(s:bq S):bq S:={s with ob:=bs.foldl (λt o=>t.del aI o) s.ob}
def ic(p:V S->Bool):BK S->BK S
 | .call f args=>bif p f||args.any p then .bad else .call f args
 | .mark o=>bif p (.ptr o 0)then .bad else .mark o
 | .bad=>.bad
def dV(os:List Nat)(fr:bV S):bV S:=match os with
 |[]=>fr
 |_=>{fr with tm:=fr.tm.keep λv=>!(gR os v),df:=fr.df.map (ic (gR os))}
def jk:List Ck->Bool
 |[]=>true
 | .dat _::l=>jk l
 | .own _::_=>false
 | .jy ..::_=>false
 | .nil _::_=>false
 | .ptr _::_=>false
def tH:(cs:List Ck)->gp S.A cs->List (V S)
 |[],_=>[]
 |c::cs,x=>.ty c.ty x.1::tH cs x.2
def bR:List Pk->Bool
 |[]=>true
 | .one (.dat _)::l=>bR l
 |_=>false
def QO:Ty->Bool
 | .int _|.bool|.str=>true
 |_=>false
def se:List Ck->Bool
 |[]=>true
 | .dat t::l=>QO t&&se l
 | .own _::_=>false
 | .jy ..::_=>false
 | .nil _::_=>false
 | .ptr _::_=>false
def W3:List Pk->Bool
 |[]=>false
 | .one (.ptr _)::_=>true
 |_::l=>W3 l
def Ow:List Pk->Bool
 |[]=>true
 | .one (.dat _)::l=>Ow l
 | .one (.ptr _)::l=>Ow l
 |_=>false
def abE(s:bq S)(t:Ty):V S->Option (den S.A t×List Nat)
 | .mV u y 0=>match u7 u t y with
  |some x=>some (x,[])
  |none=>none
 | .ptr o 0=>match s.ob.get o with
  |some (.box cs)=>bif js t then bM s t (.agg cs)else none
  |_=>none
 |_=>none
def j3(s:bq S):(ps:List Pk)->List (V S)->Option (fW S.A ps×List Nat)
 |[],[]=>some ((),[])
 | .one (.dat t)::ps,v::l=>match bM s t v,j3 s ps l with
  |some (x,os),some (h,os')=>some ((x,h),os++os')
  |_,_=>none
 | .one (.ptr t)::ps,v::l=>match abE s t v,j3 s ps l with
  |some (x,os),some (h,os')=>some ((x,h),os++os')
  |_,_=>none
 |_,_=>none
def V4(c:lF S):Bool:=bR c.ps&&(se c.rs&&!c.pn)
section
variable (E:ga S)(call:iB S){ω:Type}
def Xe(s:bq S)(c:lF S)(args:List (V S))(k:V S->bq S->List Nat->Option ω):Option ω:=
 bif Ow c.ps&&(se c.rs&&!c.pn)then match j3 s c.ps args with
  |none=>none
  |some (x,fz)=>match dz s fz with
   |none=>none
   |some _=>ak (c.F x) λr=>match RT.res c.pn r with
    | .ok r=>k (GD (tH c.rs r.1)) s []
    | .dm _=>none
 else none
def M4(s:bq S)(c:lF S)(args:List (V S))(kp:V S->bq S->Option ω)(k:V S->bq S->List Nat->Option ω):Option ω:=bif W3 c.ps then Xe s c args k else
 match dY s c.ps args none with
 |none=>none
 |some (x,fz,ow,bs)=>match dz s fz with
  |none=>none
  |some s1=>bif V4 c then ak (c.F x) λr=>match RT.res c.pn r with
     | .ok r=>k (GD (tH c.rs r.1)) s []
     | .dm _=>none
   else bif sC ow&&(sC bs&&Br ow fz)then
    ak (c.F x) λr=>match RT.res c.pn r with
     | .ok r=>match ku (IB bs (forget ow {s1 with wr:=ow++s1.wr,dr:=ow++s1.dr})) c.ps bs r.2 with
      |none=>none
      |some s2=>match gH s2 c.rs r.1 with
       |(l,s3)=>bif Nat.ble s3.aH bA then k (GD l) s3 ow else none
     | .dm p=>match ku (IB bs (forget ow {s1 with wr:=ow++s1.wr,dr:=ow++s1.dr})) c.ps bs p.2 with
      |none=>none
      |some s2=>match ow with
       |[]=>bif Nat.ble s2.aH bA then kp (.ty S.pt p.1) s2 else none
       |_::_=>none
   else none
def tM(k:V S->bq S->Option ω)(d:Option ω):List (Bool×V S×bq S)->Option ω
 |[]=>d
 |p::l=>aj p.1 (k p.2.1 p.2.2) (tM k d l)
def sW(s:bq S)(f:FuncId)(args:List (V S))(kp:V S->bq S->Option ω)(k:V S->bq S->List Nat->Option ω):Option ω:=match E.Hh f with
 |some c=>M4 s c args kp k
 |none=>call (.fn f) args s (λt s'=>k t s' []) kp
def RE(s:bq S)(m:String)(args:List (V S))(n:Nat)(x:den S.A (.cR n))(kp:V S->bq S->Option ω)(k:V S->bq S->List Nat->Option ω):List (TypeId×Ty)->Nat->Option ω
 |[],_=>none
 |p::l,j=>aj (iI (S.alts n) j (S.sM n x)) (match E.T.JB p.1 m with
   |some f=>bif Nat.beq p.1 ((nth (S.alts n) j).elim 0 (·.1))then sW E call s f (.ty (l9 (S.alts n) j) (jE S.zero (S.alts n) j (S.sM n x))::args) kp k else none
   |none=>none) (RE s m args n x kp k l (Nat.succ j))
def acT:Option (V S)->Option Nat
 |some (.rZ o)=>some o
 |_=>none
def sU(o:Oper)(fr:bV S)(s:bq S)(kp:V S->bq S->Option ω)(k:V S->bq S->List Nat->Option ω):Option ω:=
 match o.op with
 | .call c=>match jX fr c.args.toList with
  |none=>none
  |some args=>match c.callee with
   | .builtin b=>match kC E.T s b c.argTypes args with
    |none=>none
    |some (p,t,s')=>aB p (k t s' [])
   | .value f=>match acT (cm fr f)with
    |some o=>call (.yl o) args s (λt s'=>k t s' []) kp
    |none=>match(cm fr f).bind (oc · args)with
     |none=>none
     |some (f,args)=>sW E call s f args kp k
   | .invoke x m=>match cm fr x with
    |some (.cR t v)=>match E.T.JB t m with
     |some f=>sW E call s f (v::args) kp k
     |none=>none
    |some (.ty (.cR n) x)=>RE E call s m args n x kp k (S.alts n) 0
    |_=>none
 | .panic x=>match cm fr x with
  |some (.cR t v)=>kp (.cR t v) s
  |_=>none
 |op=>match jc E.T fr s op with
  |some (Bq,p,d,s')=>tM (λv s=>k v s []) (aB p (k d s' [])) Bq
  |none=>match zu E.T fr s op with
   |none=>none
   |some (p,t,s')=>aB p (k t s' [])
def yo(c:Option Bool)(p:Bool)(x:Option ω):Option ω:=match c with
 |none=>aB p x
 |some c=>aB (imp c p) x
def aiy{α:Type}(c:Option Bool)(x:Option α)(z:α):Option α:=match c with
 |none=>x
 |some c=>aj c x (some z)
mutual
def rG:V S->Bool
 | .sh _ _=>false
 | .qF _ _ _ _=>false
 | .cR _ v=>rG v
 | .agg cs=>iX cs
 | .gq cs=>iX cs
 |_=>true
def iX:List (V S)->Bool
 |[]=>true
 |v::l=>rG v&&iX l
end
def UM(S:Sg):(cs:List Ck)->gp S.A cs
 |[]=>()
 |c::cs=>(S.zero c.ty,UM S cs)
def agI(A:Nat->Type):(ps:List Pk)->Option (iE A ps)
 |[]=>some ()
 | .one _::ps=>agI A ps
 | .box _::_=>none
 | .hid _::_=>none
def zf:Builtin->Bool
 | .len|.max|.min=>true
 |_=>false
def tL(k:V S->Option ω)(d:Option ω):List (Bool×V S×bq S)->Option ω
 |[]=>d
 |p::l=>aj p.1 (k p.2.1) (tL k d l)
def ez(g:Option Bool)(fr:bV S)(s:bq S)(o:Oper)(k:V S->Option ω):Option ω:=
 match o.op with
 | .call c=>match jX fr c.args.toList with
  |none=>none
  |some args=>match c.callee with
   | .builtin b=>bif zf b then match kC E.T s b c.argTypes args with
     |some (p,t,_)=>yo g p (k t)
     |none=>none
    else none
   | .value f=>match(cm fr f).bind (oc · args)with
    |none=>none
    |some (f,args)=>match E.Hh f with
     |none=>none
     |some c=>bif bR c.ps&&(jk c.rs&&(iX args&&!c.pn))then
       match dY s c.ps args none,agI S.A c.ps with
       |some (x,_,_,_),some b=>ak (aiy g (c.F x) (RT.ok c.pn (UM S c.rs,b))) λr=>match RT.res c.pn r with
        | .ok r=>k (GD (tH c.rs r.1))
        | .dm _=>none
       |_,_=>none
      else none
   |_=>none
 | .store ..|.alloc ..|.box ..|.panic ..|.makeMap ..|.mapUpdate ..|.insert ..|.makeSlice ..|.range ..|.next ..|.defer ..=>none
 | .buildSlice t n ps=>match iq fr ps.toList with
  |some l=>bif iX (l.map (·.2))then match zu E.T fr s (.buildSlice t n ps)with
   |none=>none
   |some (p,v,_)=>yo g p (k v)
   else none
  |none=>none
 | .slice t x lo hi mx=>match cm fr x with
  |some v=>bif rG v then match zu E.T fr s (.slice t x lo hi mx)with
   |none=>none
   |some (p,v,_)=>yo g p (k v)
   else none
  |none=>none
 |op=>match jc E.T fr s op with
  |some (Bq,p,d,_)=>tL k (yo g p (k d)) Bq
  |none=>match zu E.T fr s op with
   |none=>none
   |some (p,v,_)=>yo g p (k v)
def AF(fr:bV S)(o:Oper):Bool:=
 match o.op with
 | .call c=>match jX fr c.args.toList with
  |none=>false
  |some args=>match c.callee with
   | .builtin b=>zf b
   | .value f=>match(cm fr f).bind (oc · args)with
    |none=>false
    |some (f,args)=>match E.Hh f with
     |none=>false
     |some c=>bR c.ps&&(jk c.rs&&(iX args&&!c.pn))
   |_=>false
 | .store ..|.alloc ..|.box ..|.panic ..|.makeMap ..|.mapUpdate ..|.insert ..|.makeSlice ..|.range ..|.next ..|.defer ..=>false
 | .buildSlice _ _ ps=>match iq fr ps.toList with
  |some l=>iX (l.map (·.2))
  |none=>false
 | .slice _ x _ _ _=>match cm fr x with
  |some v=>rG v
  |none=>false
 |_=>true
def nk(fr:bV S)(o:Op):bV S:=
 o.operands.toList.foldl (λf x=>match x with
  | .tmp k=>match fr.get k with
   |some (.gd _ v)=>f.put k v
   |_=>f
  |_=>f) fr
def J2(c:Bool)(fr:bV S)(o:Op):Bool:=
 o.operands.toList.foldl (λp x=>match x with
  | .tmp k=>match fr.get k with
   |some (.gd g _)=>p&&imp c g
   |_=>p
  |_=>p) true
def gY(ops:List Oper)(fr:bV S)(o:Oper):Option (Option Bool):=
 match o.guard with
 |none=>some none
 |some (j,want)=>match((nth ops j).bind (·.dst)).bind fr.get with
  |some (.kb b)=>bif (bif b then want else !want)then some none else some (some false)
  |some t=>match iw t with
   |some b=>some (some (D.beq b want))
   |none=>none
  |none=>none
def tD(ops:List Oper)(fr:bV S)(o:Oper):Bool:=
 match o.guard with
 |none=>false
 |some (j,want)=>match((nth ops j).bind (·.dst)).bind fr.get with
  |some (.kb b)=>bif b then !want else want
  |some (.dat (.lit (.tuple _)))=>true
  |_=>false
def Rz(ops:List Oper)(d:Option Nat):Bool:=match d with
 |none=>false
 |some d=>ops.any λo=>match o.guard with
  |none=>false
  |some (j,_)=>match(nth ops j).bind (·.dst)with
   |some e=>Nat.beq d e
   |none=>false
def Az{ω:Type}(b:Bool)(t:V S)(k:V S->Option ω):Option ω:=bif b then match t with
  | .ty .bool x=>aj x (k (.kb true)) (k (.kb false))
  |t=>k t
 else k t
def fX(fr:bV S):Option Nat->Bool
 |none=>true
 |some d=>Nat.blt d fr.n
def mU(ops:List Oper)(o:Oper)(fr:bV S)(s:bq S)(kp:V S->bq S->Option ω)(k:V S->bq S->List Nat->Option ω):Option ω:=
 bif fX fr o.dst then bif tD ops fr o then k ff s []else match gY ops fr o with
  |none=>none
  |some none=>sU E call o fr s kp k
  |some (some c)=>
   let f:=nk fr o.op
   bif AF E f o then aB (J2 c fr o.op) (ez E (some c) f s o λt=>k (.gd c t) s [])
   else aj c (aB (J2 c fr o.op) (sU E call o f s kp k)) (k (.gd false ff) s [])
 else none
def Pu(fr:bV S)(o:Oper):Option (BK S):=match o.guard,o.op with
 |none,.defer c=>match c.callee with
  | .value f=>match cm fr f,jX fr c.args.toList with
   |some (.fn f a b),some args=>some (.call (.fn f a b) args)
   |_,_=>none
  |_=>none
 |_,_=>none
def Ph(ops:List Oper)(o:Oper)(fr:bV S)(s:bq S)(kp:V S->bq S->Option ω)(k:bV S->bq S->Option ω):Option ω:=
 match Pu fr o with
 |some d=>bif fX fr o.dst then k {(fr.ij o.dst xG)with df:=d::fr.df} s else none
 |none=>mU E call ops o fr s kp λt s' ow=>Az (Rz ops o.dst) t λt=>k ((dV ow fr).ij o.dst t) s'
def MY(ops:List Oper)(kp:bV S->V S->bq S->Option ω)(k:bV S->bq S->Option ω):List Oper->bV S->bq S->Option ω
 |[],fr,s=>k fr s
 |o::l,fr,s=>Ph E call ops o fr s (kp fr) λfr' s'=>MY ops kp k l fr' s'
end
end
section
def wM(o:Oper):List Nat:=(o.after.toList.filter (Region.binds .any)).map (·.on)
def Nw:List Oper->List Nat->List Nat
 |[],acc=>acc
 |o::l,acc=>Nw l (acc++[(wM o).foldl (λb e=>b||| (1 <<< e||| acc.getD e 0)) 0])
def vu(ops:List Oper):List Nat:=Nw ops []
def tJ:List Oper->Nat->Bool
 |[],_=>true
 |o::l,n=>(wM o).all (λe=>Nat.blt e n)&&tJ l (Nat.succ n)
def Lc(o:Oper)(k:Nat):Bool:=o.op.operands.toList.any λx=>match x with|.tmp j=>Nat.beq j k|_=>false
def aa2(ops:List Oper)(rU:List Nat):Bool:=
 ops.zipIdx.all λ(o,i)=>match o.dst with
  |none=>true
  |some d=>Nat.blt d bA&&ops.zipIdx.all λ(p,j)=>bif Nat.beq i j then !(Lc p d)else !(match p.dst with|some e=>Nat.beq e d|none=>false)&&(!(Lc p d)||((rU.getD j 0).testBit i||(rU.getD i 0).testBit j))
def RQ(ops:List Oper)(rU:List Nat)(i:Nat)(o:Oper):Bool:=match o.dst with
 |none=>false
 |some d=>ops.zipIdx.any λ(p,j)=>Lc p d&&(rU.getD i 0).testBit j
def acV(ops:List Oper):Bool:=ops.all λo=>o.op.operands.toList.all λx=>match x with|.tmp j=>Nat.blt j bA|_=>true
def J1(ops:List Oper)(rU:List Nat):Bool:=
 ops.zipIdx.all λ(o,i)=>match o.guard with
  |none=>true
  |some (j,_)=>(rU.getD i 0).testBit j
def eH(o:Oper):Bool:=match o.op with|.alloc _=>o.guard.isNone|_=>false
def Su(a b:Nat):Bool:=Nat.beq (a&&& b) a
abbrev Uo:=List (Nat×Oper)
mutual
def cC(p:Nat->Bool):V S->Bool
 | .ptr o _=>p o
 | .kL o _ _ _=>p o
 | .sh o _=>p o
 | .mp o=>p o
 | .rZ o=>p o
 | .rY o=>p o
 | .qF o m _ _=>p o||p m
 | .fn _ a b=>gX p a||gX p b
 | .cR _ v=>cC p v
 | .agg cs=>gX p cs
 | .gq cs=>gX p cs
 | .gd _ v=>cC p v
 |_=>false
def gX(p:Nat->Bool):List (V S)->Bool
 |[]=>false
 |v::l=>cC p v||gX p l
end
def eD(ow:List Nat)(aH:Nat)(o:Nat):Bool:=ow.contains o||Nat.ble aH o
section
variable (E:ga S)(call:iB S){ω:Type}
def Jl(ops:List Oper)(rU:List Nat)(done:Nat)(fr:bV S):Uo->Option (Nat×Oper)
 |[]=>none
 |(i,o)::l=>bif !(done.testBit i)&&(Su (rU.getD i 0) done&&((!(eH o)&&!(RQ ops rU i o))&&(tD ops fr o||(match gY ops fr o with|some (some _)=>AF E (nk fr o.op) o|some none=>AF E fr o|none=>false))))
   then some (i,o)else Jl ops rU done fr l
def Jm(rU:List Nat)(done oO:Nat):Uo->Option (Nat×Oper)
 |[]=>none
 |(i,o)::l=>bif !(done.testBit i)&&(!(eH o)&&Su (rU.getD i 0) (done||| oO))then some (i,o)else Jm rU done oO l
def tN(E:gA)(which:Nat):Uo->bV S->bq S->Option (bV S×bq S)
 |[],fr,s=>some (fr,s)
 |(i,o)::l,fr,s=>bif which.testBit i then match o.op,o.dst with
   | .alloc t,some d=>match E.E.ti t with
    |some ti=>bif Nat.blt s.aH bA&&Nat.blt d fr.n then tN E which l (fr.put d (.ptr s.aH 0)) (dn s (.box (ti.zero.map zeroV)))else none
    |none=>none
   |_,_=>none
  else tN E which l fr s
def jo(p:Nat->Bool)(fr:bV S)(o:Op):Bool:=o.operands.toList.any λx=>match cm fr x with
 |some v=>cC p v
 |none=>false
def Mh:Op->Bool
 | .move _|.assign _|.nilCheck _|.fieldAddr ..=>true
 |_=>false
def DH(ops:List Oper)(rU:List Nat)(done i:Nat)(fr:bV S)(aH:Nat)(wr ow:List Nat):Uo->Bool
 |[]=>true
 |(j,o)::l=>(!(done.testBit j)||(eH o||((rU.getD i 0).testBit j||(!(jo (eD wr aH) fr o.op||jo (eD wr aH) (nk fr o.op) o.op)||(Mh o.op&&!(jo (λx=>ow.contains x) fr o.op||jo (λx=>ow.contains x) (nk fr o.op) o.op))))))&&DH ops rU done i fr aH wr ow l
def w4(all:Uo)(done:Nat):Nat:=all.foldl (λb(i,o)=>bif eH o&&!(done.testBit i)then b||| 1 <<< i else b) 0
def aeM(ops:List Oper)(fr:bV S):bV S:={fr with tm:=(ops.filterMap (·.dst)).foldl (λt k=>t.del aI k) fr.tm}
def sV(ops:List Oper)(rU:List Nat)(all:Uo)(kp:bV S->V S->bq S->Option ω)(k:bV S->bq S->Option ω):Nat->Nat->bV S->bq S->Option ω
 |0,_,_,_=>none
 |n+1,done,fr,s=>
  match Jl E ops rU done fr all with
  |some (i,o)=>bif fX fr o.dst then bif tD ops fr o then sV ops rU all kp k n (done||| 1 <<< i) (fr.ij o.dst ff) s else match gY ops fr o with
    |none=>none
    |some none=>ez E none fr s o λt=>Az (Rz ops o.dst) t λt=>sV ops rU all kp k n (done||| 1 <<< i) (fr.ij o.dst t) s
    |some (some c)=>aB (J2 c fr o.op) (ez E (some c) (nk fr o.op) s o λt=>sV ops rU all kp k n (done||| 1 <<< i) (fr.ij o.dst (.gd c t)) s)
   else none
  |none=>
   let oO:=w4 all done
   match Jm rU done oO all with
   |some (i,o)=>
    bif all.all (λ(j,p)=>done.testBit j||(eH p||(Nat.beq i j||(rU.getD j 0).testBit i)))then
     match tN E.T (oO&&& rU.getD i 0) all fr s with
     |none=>none
     |some (qi,s1)=>
      mU E call ops o qi {s1 with wr:=[]} (λt s'=>kp (aeM ops qi) t {s' with wr:=s'.wr++s1.wr}) λt s' ow=>
       bif DH ops rU done i fr s.aH s'.wr ow all then sV ops rU all kp k n (done||| (oO&&& rU.getD i 0)||| 1 <<< i) ((dV ow qi).ij o.dst t) {s' with wr:=s'.wr++s1.wr}else none
    else none
   |none=>match tN E.T oO all fr s with
    |none=>none
    |some (fr,s)=>bif all.all (λ(j,p)=>done.testBit j||eH p)then k fr s else none
def PN(E:gA)(n:Nat)(l:List Oper):Bool:=l.all λo=>bif eH o then(match o.op with
  | .alloc t=>(E.E.ti t).isSome
  |_=>true)&&(match o.dst with|some d=>Nat.blt d n|none=>true)
 else true
def Xt(E:ga S)(fr:bV S)(s:bq S)(l:List Oper)(rU:List Nat):Bool:=tJ l 0&&(aa2 l rU&&(J1 l rU&&(acV l&&(PN E.T fr.n l&&Nat.beq s.fl 0))))
end
inductive LO(X R B P:Type) where
 |next (x:X)
 |out (j:Nat) (x:X)
 |ret (b:B) (r:R)
 |dm (b:B) (p:P)
def iter{X R B P:Type}(F:X->Option (LO X R B P)):Nat->X->Option (LO X R B P)
 |0,_=>none
 |n+1,x=>match F x with
  |none=>none
  |some (.next y)=>iter F n y
  |some (.out j y)=>some (.out j y)
  |some (.ret y r)=>some (.ret y r)
  |some (.dm y p)=>some (.dm y p)
def N2:Code->Bool
 | .region _ ops _=>ops.toList.all λo=>match o.op with|.defer _=>false|_=>true
 | .seq a b=>N2 a&&N2 b
 | .cond _ a b=>N2 a&&N2 b
 | .block _ b=>N2 b
 | .loop b=>N2 b
 | .scope _=>false
 | .rangeFunc ..=>false
 |_=>true
def wR:Code->List Nat
 | .region _ ops _=>ops.toList.foldl (λl o=>o.op.operands.toList.foldl (λl x=>match x with|.tmp k=>k::l|_=>l) l) []
 | .seq a b=>wR a++wR b
 | .cond c a b=>(match c with|.tmp k=>[k]|_=>[])++(wR a++wR b)
 | .block _ b=>wR b
 | .loop b=>wR b
 |_=>[]
def RA(l:List Nat)(fr:bV S):bV S:={n:=fr.n,tm:=l.foldl (λt k=>match fr.get k with|some v=>t.set aI k v|none=>t) .nil,df:=[]}
def Oh:List Nat->List (V S)->Tr (V S)->Tr (V S)
 |k::ks,v::vs,t=>Oh ks vs (t.set aI k v)
 |_,_,t=>t
def DV:LoopState->Option Code->Bool
 | .ready,none=>true
 |_,_=>false
def RJ:Operand->List Nat
 | .tmp k=>[k]
 |_=>[]
def eN:Code->List Nat
 | .region _ ops _=>ops.toList.filterMap (·.dst)
 | .seq a b=>eN a++eN b
 | .cond c a b=>RJ c++(eN a++eN b)
 | .block _ b=>eN b
 | .loop b=>eN b
 | .rangeFunc _ _ a b=>eN a++eN b
 | .scope b=>eN b
 |_=>[]
def kJ:Code->List Nat
 | .seq a b=>kJ a++kJ b
 | .cond _ a b=>kJ a++kJ b
 | .block i b=>(kJ b).filter λj=>!(Nat.beq i j)
 | .loop b=>kJ b
 | .rangeFunc _ _ a b=>kJ a++kJ b
 | .scope b=>kJ b
 | .exit i=>[i]
 |_=>[]
def yq:List Nat->List Nat
 |[]=>[]
 |a::l=>a::(yq l).filter λb=>!(Nat.beq a b)
def lz(sh:Sh):List Pk:=sh.map (·.2)
def I2(fr:bV S)(s:bq S):Pt->Option (V S)
 | .slot k=>fr.get k
 | .cell p i=>match I2 fr s p with
  |some (.ptr o 0)=>match s.ob.get o with
   |some (.box cs)=>nth cs i
   |_=>none
  |_=>none
 | .cap p i=>match I2 fr s p with
  |some (.fn _ _ cs)=>nth cs i
  |_=>none
 | .rnd p k=>match I2 fr s p with
  |some (.rZ o)=>match s.ob.get o with
   |some (.lp l)=>l.fr.get k
   |_=>none
  |_=>none
def rD(fr:bV S)(s:bq S):Sh->List Pt->Option (List Nat)
 |[],[]=>some []
 |(_,.one _)::l,ps=>rD fr s l ps
 |(_,.box k)::l,p::ps=>match I2 fr s p with
  |some v=>match CM k v,rD fr s l ps with
   |some o,some r=>some (o::r)
   |_,_=>none
  |none=>none
 |(_,.hid k)::l,p::ps=>match I2 fr s p with
  |some v=>match CM k v,rD fr s l ps with
   |some o,some r=>some (o::r)
   |_,_=>none
  |none=>none
 |_,_=>none
def tV(fr:bV S):Sh->List Nat->Option (List (V S))
 |[],[]=>some []
 |(k,.one _)::l,bs=>match fr.get k,tV fr l bs with
  |some v,some r=>some (v::r)
  |_,_=>none
 |(_,.box k)::l,o::bs=>match tV fr l bs with
  |some r=>some (Td k o::r)
  |none=>none
 |(_,.hid _)::l,_::bs=>tV fr l bs
 |_,_=>none
def kT:(sh:Sh)->List Nat->fW S.A (lz sh)->bV S->bq S->Option (bV S×bq S)
 |[],[],_,fr,s=>some (fr,s)
 |(k,.one c)::l,bs,x,fr,s=>match uh s c x.1 with
  |(v,s)=>bif Nat.blt k fr.n&&Nat.ble s.aH bA then kT l bs x.2 (fr.put k v) s else none
 |(_,.box k)::l,o::bs,x,fr,s=>match gC s (dF bs) k x.1 with
  |(ob,s)=>bif Nat.ble s.aH bA then kT l bs x.2 fr {s with ob:=s.ob.set aI o ob}else none
 |(_,.hid k)::l,o::bs,x,fr,s=>match gC s (dF bs) k x.1 with
  |(ob,s)=>bif Nat.ble s.aH bA then kT l bs x.2 fr {s with ob:=s.ob.set aI o ob}else none
 |_,_,_,_,_=>none
def JD{α:Type}(p:Nat->Bool):List (α×V S)->Bool
 |[]=>false
 |x::l=>cC p x.2||JD p l
def jQ(p:Nat->Bool):wP S->Bool
 | .box cs=>gX p cs
 | .GQ _ l=>JD p l
 | .lp l=>qd (cC p) l.fr.tm
 | .kE _ _ _ _ m _ _=>p m
 |_=>false
def iS(p:Nat->Bool)(v:V S):V S:=bif cC p v then xG else v
def gj(p:Nat->Bool):wP S->wP S
 | .box cs=>.box (cs.map (iS p))
 | .GQ kt l=>.GQ kt (l.map λx=>(x.1,iS p x.2))
 | .lp l=>.lp {l with fr:={l.fr with tm:=l.fr.tm.mapA (iS p)}}
 | .kE n j l era m dg hole=>bif p m then .gone else .kE n j l era m dg hole
 |o=>o
def cT(ds ow bs:List Nat)(fr:bV S)(s1:bq S):bV S×bq S:=
 ({fr with tm:=(ds.foldl (λt k=>t.del aI k) fr.tm).keep λv=>!(cC (eD ow s1.aH) v),df:=fr.df.map (ic (cC (eD ow s1.aH)))},IB bs {s1 with ob:=s1.ob.mapA (gj (eD ow s1.aH)),wr:=[],dr:=[]})
def Sz:Sh->Sh
 |[]=>[]
 |(_,.one _)::l=>Sz l
 |(k,.box b)::l=>(k,.box b)::Sz l
 |(k,.hid b)::l=>(k,.hid b)::Sz l
abbrev LOT(S:Sg)(sh:Sh)(rs:List Ck):=LO (fW S.A (lz sh)) (gp S.A rs) (fW S.A (lz (Sz sh))) (den S.A S.pt)
def Xc(ds:List Nat):Sh->List Nat
 |[]=>[]
 |(k,.one (.own _))::l=>bif ds.contains k then Xc ds l else k::Xc ds l
 |_::l=>Xc ds l
def Mo:Sh->List Nat
 |[]=>[]
 |(k,.one (.own _))::l=>k::Mo l
 |_::l=>Mo l
def UZ(fr:bV S)(s:bq S)(c:Nat):Option (V S):=bif Nat.blt c 1000000 then fr.get c else match fr.get (Nat.div (Nat.sub c 1000000) 1000)with
 |some (.ptr o 0)=>match s.ob.get o with
  |some (.box cs)=>nth cs (Nat.mod (Nat.sub c 1000000) 1000)
  |_=>none
 |_=>none
def T8(fr:bV S)(s:bq S)(al:List (Nat×Nat)):Bool:=al.all λp=>match fr.get p.1,UZ fr s p.2 with
 |some (.sh o r),some (.sh o' r')=>Nat.beq o o'&&Nat.beq r r'
 |_,_=>false
def abg(fr:bV S)(ow:List Nat)(al:List (Nat×Nat)):Bool:=al.all λp=>match fr.get p.1 with
 |some (.sh o _)=>ow.contains o
 |_=>false
def lJ(s:bq S):List (Nat×Nat)->bV S->bV S
 |[],fr=>fr
 |p::l,fr=>lJ s l (match UZ fr s p.2 with|some v=>fr.put p.1 v|none=>fr)
def aaS(fr:bV S)(l:List Nat):Bool:=l.all λk=>match fr.get k with
 |some (.sh _ _)=>true
 |_=>false
def DN(ds:List Nat)(sh:Sh):Bool:=sh.all λp=>match p.2 with
 | .one _=>ds.contains p.1
 | .box _=>true
 | .hid _=>true
abbrev Rv:=List (Nat×Ty)
def GG(rv:Rv):List Ck:=rv.map λp=>.dat p.2
def U7(fr:bV S):Rv->Option (List (V S))
 |[]=>some []
 |(k,_)::l=>match fr.get k,U7 fr l with
  |some v,some r=>some (v::r)
  |_,_=>none
def wU:(rv:Rv)->gp S.A (GG rv)->bV S->bV S
 |[],_,fr=>fr
 |(k,_)::l,x,fr=>wU l x.2 (fr.put k (.ty _ x.1))
def bV.sJ(fr:bV S)(c:Operand)(b:Bool):bV S:=match c with
 | .tmp k=>bif Nat.blt k fr.n then fr.put k (.kb b)else fr
 |_=>fr
noncomputable def Hv{ω:Type}(e:Bool)(x y:Option ω):Option ω:=bif e then(open Classical in if x=y then y else none)else y
def aah(l:List Nat)(i:Nat):Nat:=match l with
 |[]=>0
 |a::l=>bif Nat.beq a i then 0 else Nat.succ (aah l i)
def sx(sh:Sh)(bs:List Nat)(fr:bV S)(s:bq S):Option (fW S.A (lz sh)×bq S×List Nat):=
 match tV fr sh bs with
 |none=>none
 |some vs=>match dY s (lz sh) vs none with
  |none=>none
  |some (x,fz,ow,bs')=>match dz s fz with
   |none=>none
   |some s1=>bif sC ow&&(Br ow fz&&(sC bs'&&(Nat.beq (cA bs') (cA bs)&&(bs'.zip bs).all λ(a,b)=>Nat.beq a b)))then some (x,s1,ow)else none
def N8(aH:Nat)(bs wr:List Nat):Bool:=wr.all λo=>Nat.ble aH o||bs.contains o
def tI{ω:Type}(sh:Sh)(bs:List Nat)(aH:Nat)(fr:bV S)(s:bq S)(f:fW S.A (lz sh)->Option ω):Option ω:=
 match sx sh bs fr s with
 |some (x,s2,ow)=>bif N8 aH bs s2.wr&&(ow.all (λo=>Nat.ble aH o)&&s2.dr.all (λo=>Nat.ble aH o))then f x else none
 |none=>none
section
variable (E:ga S)(call:iB S)(n:Nat)(fid:FuncId)(rv:Rv)
def Pg{ω:Type}(k:bV S->bq S->Option ω)(Q:xC S->bV S->bq S->Option ω):xC S->bV S->bq S->Option ω
 | .pR,fr,s=>k fr s
 | .ext i,fr,s=>Q (.ext i) fr s
 | .ret,fr,s=>Q .ret fr s
 | .dm v,fr,s=>Q (.dm v) fr s
def MW{ω:Type}(i:Nat)(Q:xC S->bV S->bq S->Option ω):xC S->bV S->bq S->Option ω
 | .pR,fr,s=>Q .pR fr s
 | .ext j,fr,s=>match Nat.beq j i with
  |true=>Q .pR fr s
  |false=>Q (.ext j) fr s
 | .ret,fr,s=>Q .ret fr s
 | .dm v,fr,s=>Q (.dm v) fr s
def ZJ{ω:Type}(Q:xC S->bV S->bq S->Option ω)(fr:bV S)(s:bq S):List Nat->Nat->Option ω
 |[],_=>none
 |[i],_=>Q (.ext i) fr s
 |i::l,j=>match j with
  |0=>Q (.ext i) fr s
  |j+1=>ZJ Q fr s l j
def ac5(fr fr':bV S):Bool:=Nat.beq (cA fr'.df) (cA fr.df)
def DT(ev:{ω:Type}->(xC S->bV S->bq S->Option ω)->bV S->bq S->Option ω)(sh:Sh)(bs:List Nat)(aH:Nat)(exs:List Nat)(base:bV S×bq S)(pn:Bool)(al:List (Nat×Nat))(x:fW S.A (lz sh)):Option (LOT S sh (GG rv)):=
 match kT sh bs x base.1 base.2 with
 |none=>none
 |some (mE,iV)=>ev (λex fr' s'=>bif ac5 base.1 fr' then match ex with
  | .pR=>bif T8 fr' s' al then tI sh bs aH fr' s' (λy=>some (.next y))else none
  | .ext j=>bif exs.contains j&&T8 fr' s' al then tI sh bs aH fr' s' (λy=>some (.out (aah exs j) y))else none
  | .ret=>match U7 fr' rv with
   |none=>none
   |some vs=>match gI s' (GG rv) vs with
    |some (r,fz,_)=>match dz s' fz with
     |some s'=>tI (Sz sh) bs aH fr' s' (λy=>some (.ret y r))
     |none=>none
    |none=>none
  | .dm v=>bif pn then match gI s' [.dat S.pt] [v]with
    |some (p,fz,_)=>match dz s' fz with
     |some s'=>tI (Sz sh) bs aH fr' s' (λy=>some (.dm y p.1))
     |none=>none
    |none=>none
   else none
  else none) (lJ iV al mE) iV
def sR:Code->Option Nat
 | .region id _ _=>some id
 | .seq a b=>match sR a with
  |some k=>some k
  |none=>sR b
 | .cond _ a b=>match sR a with
  |some k=>some k
  |none=>sR b
 | .block _ b=>sR b
 | .loop b=>sR b
 | .scope b=>sR b
 |_=>none
def ahm(a b:Code):Nat:=match sR a with
 |some k=>Nat.add 1000000 k
 |none=>match sR b with
  |some k=>Nat.add 1000000 k
  |none=>999999
noncomputable def Ng{ω:Type}(c:Operand)(A B:(xC S->bV S->bq S->Option ω)->bV S->bq S->Option ω)(Q:xC S->bV S->bq S->Option ω)(fr:bV S)(s:bq S):Option ω:=match cm fr c with
  |some (.kb true)=>A Q fr s
  |some (.kb false)=>B Q fr s
  |some (.ub e)=>Hv e (A Q (fr.sJ c true) s) (B Q (fr.sJ c false) s)
  |some v=>match iw v with
   |some t=>aj t (A Q (fr.sJ c true) s) (B Q (fr.sJ c false) s)
   |none=>none
  |none=>none
def Wf(ev:{ω:Type}->(xC S->bV S->bq S->Option ω)->bV S->bq S->Option ω){ω:Type}(sh:Sh)(pts:List Pt)(al:List (Nat×Nat))(ds0 exs:List Nat)(Q:xC S->bV S->bq S->Option ω)(fr:bV S)(s:bq S):Option ω:=
 match rD fr s sh pts with
 |none=>none
 |some bs=>
  let ds:=ds0++(Xc ds0 sh++al.map (·.1))
  match sx sh bs fr s with
  |none=>none
  |some (x0,s1,ow)=>
   let base:=cT ds ow bs fr s1
   bif (DN ds sh&&(aaS fr (Xc ds0 sh)&&(T8 fr s al&&abg fr ow al)))&&ds.all (λd=>Nat.blt d fr.n)then
    ak (DT rv ev sh bs s1.aH exs base E.pn al x0) λ(o:LOT S sh (GG rv))=>match o with
     | .next x=>match kT sh bs x base.1 base.2 with
      |none=>none
      |some (mE,iV)=>Q .pR (lJ iV al mE) {iV with wr:=s1.ob.jA (jQ (eD ow s1.aH))++(bs++s1.wr),dr:=ow++s1.dr}
     | .out j x=>match kT sh bs x base.1 base.2 with
      |none=>none
      |some (mE,iV)=>ZJ Q (lJ iV al mE) {iV with wr:=s1.ob.jA (jQ (eD ow s1.aH))++(bs++s1.wr),dr:=ow++s1.dr} exs j
     | .ret x r=>match kT (Sz sh) bs x base.1 base.2 with
      |none=>none
      |some (mE,iV)=>Q .ret (wU rv r mE) {iV with wr:=s1.ob.jA (jQ (eD ow s1.aH))++(bs++s1.wr),dr:=ow++s1.dr}
     | .dm y p=>bif E.pn then match kT (Sz sh) bs y base.1 base.2 with
      |none=>none
      |some (mE,iV)=>Q (.dm (.ty S.pt p)) mE {iV with wr:=s1.ob.jA (jQ (eD ow s1.aH))++(bs++s1.wr),dr:=ow++s1.dr}
      else none
   else none
def Q5{ω:Type}(ev:(xC S->bV S->bq S->Option ω)->bV S->bq S->Option ω)(Q:xC S->bV S->bq S->Option ω)(fin:bV S->bq S->Option ω):Nat->bV S->bq S->Option ω
 |0,fr,s=>fin fr s
 |m+1,fr,s=>ev (Pg (Q5 ev Q fin m) Q) fr s
noncomputable def uj:Code->Nat->{ω:Type}->(xC S->bV S->bq S->Option ω)->bV S->bq S->Option ω
 | .region _ ops false,_,_,Q,fr,s=>MY E call ops.toList (λfr t s=>Q (.dm t) fr s) (Q .pR) ops.toList fr s
 | .region _ ops true,_,_,Q,fr,s=>
  let l:=ops.toList
  let rU:=vu l
  let all:=l.zipIdx.map λp=>(p.2,p.1)
  bif Xt E fr s l rU then sV E call l rU all (λfr t s=>Q (.dm t) fr s) (Q .pR) (Nat.succ (Nat.mul 2 (cA l))) 0 fr s else none
 | .seq a b,i,_,Q,fr,s=>uj a i (Pg (uj b i Q) Q) fr s
 | .cond c a b,i,_,Q,fr,s=>match E.sh fid (ahm a b)with
  |none=>Ng c (uj a i) (uj b i) Q fr s
  |some ⟨sh,pts,al,_⟩=>Wf E rv (λQ fr s=>Ng c (uj a i) (uj b i) Q fr s) sh pts al (eN (.cond c a b)++rv.map (·.1)) (yq (kJ (.cond c a b))) Q fr s
 | .block i b,_,_,Q,fr,s=>uj b i (MW i Q) fr s
 | .loop b,i,_,Q,fr,s=>match E.sh fid i with
  |none=>none
  |some ⟨sh,pts,al,pl⟩=>Q5 (uj b i) Q (λfr s=>match rD fr s sh pts with
  |none=>none
  |some bs=>
   let ds0:=eN b++rv.map (·.1)
   let ds:=ds0++(Xc ds0 sh++al.map (·.1))
   match sx sh bs fr s with
   |none=>none
   |some (x0,s1,ow)=>
    let base:=cT ds ow bs fr s1
    let exs:=yq (kJ b)
    bif (DN ds sh&&(aaS fr (Xc ds0 sh)&&(T8 fr s al&&abg fr ow al)))&&ds.all (λd=>Nat.blt d fr.n)then
     ak (iter (DT rv (uj b i) sh bs s1.aH exs base E.pn al) n x0) λ(o:LOT S sh (GG rv))=>match o with
      | .next _=>none
      | .out j x=>match kT sh bs x base.1 base.2 with
       |none=>none
       |some (mE,iV)=>ZJ Q (lJ iV al mE) {iV with wr:=s1.ob.jA (jQ (eD ow s1.aH))++(bs++s1.wr),dr:=ow++s1.dr} exs j
      | .ret x r=>match kT (Sz sh) bs x base.1 base.2 with
       |none=>none
       |some (mE,iV)=>Q .ret (wU rv r mE) {iV with wr:=s1.ob.jA (jQ (eD ow s1.aH))++(bs++s1.wr),dr:=ow++s1.dr}
      | .dm y p=>bif E.pn then match kT (Sz sh) bs y base.1 base.2 with
       |none=>none
       |some (mE,iV)=>Q (.dm (.ty S.pt p)) mE {iV with wr:=s1.ob.jA (jQ (eD ow s1.aH))++(bs++s1.wr),dr:=ow++s1.dr}
       else none
    else none) pl fr s
 | .rangeFunc g ps T5 body,_,_,Q,fr,s=>match(cm fr g).bind (oc · [.rZ (Nat.succ s.aH)])with
  |none=>none
  |some (f,args)=>bif N2 T5&&(N2 body&&(Nat.ble s.fl (Nat.succ s.aH)&&Nat.blt (Nat.succ s.aH) bA))then
    sW E call (dn (dn s .Av) (.lp ⟨.ready,none,fid,RA (wR T5++wR body) fr,ps.toList,T5,body⟩)) f args (λ_ _=>none) λ_ s' ow=>match ow with
     |[]=>match s'.ob.get (Nat.succ s.aH)with
      |some (.lp l)=>bif DV l.st l.oO then Q .pR {fr with df:=.mark s.aH::fr.df} {s' with ob:=s'.ob.set aI (Nat.succ s.aH) (.lp {l with st:=.exhausted})}else none
      |_=>none
     |_::_=>none
   else none
 | .exit i,_,_,Q,fr,s=>Q (.ext i) fr s
 | .ret,_,_,Q,fr,s=>Q .ret fr s
 | .skip,_,_,Q,fr,s=>Q .pR fr s
 | .label _,_,_,Q,fr,s=>Q .pR fr s
 | .scope b,i,_,Q,fr,s=>uj b i Q fr s
 |_,_,_,_,_,_=>none
end
def ko(E:gA)(s:bq S)(fr:bV S):List ResultVar->Option (List (V S))
 |[]=>some []
 | .tmp t::l=>match fr.get t,ko E s fr l with
  |some x,some r=>some (x::r)
  |_,_=>none
 | .cell a t::l=>match E.E.ti t,fr.get a with
  |some i,some a=>match w8 i (E.ty t) s a,ko E s fr l with
   |some (p,x,_),some r=>bif p then some (x::r)else none
   |_,_=>none
  |_,_=>none
def n4:List (V S)->Nat->Tr (V S)->Tr (V S)
 |[],_,t=>t
 |a::l,k,t=>n4 l (Nat.succ k) (t.set aI k a)
def SC(E:gA):List ResultVar->List TypeId->Rv
 | .tmp k::l,t::ts=>match E.ty t with
  |some τ=>(k,τ)::SC E l ts
  |none=>SC E l ts
 |_::l,_::ts=>SC E l ts
 |_,_=>[]
def isRec(o:Oper):Bool:=match o.guard,o.op with
 |none,.call c=>match c.callee with
  | .builtin .recover=>true
  |_=>false
 |_,_=>false
def agw(pv:Option (V S)):V S:=match pv with
 |some v=>v
 |none=>.dat (.lit .nilIface)
section
variable (E:ga S)(call:iB S)(n:Nat)(pv:Option (V S)){ω:Type}
noncomputable def evR(fid:FuncId)(rv:Rv):Code->Nat->(Bool->xC S->bV S->bq S->Option ω)->bV S->bq S->Option ω
 | .region id ops false,i,Q,fr,s=>match ops.toList with
  |o::l=>bif isRec o then(bif fX fr o.dst then MY E call (o::l) (λfr t s=>Q pv.isSome (.dm t) fr s) (Q pv.isSome .pR) l (fr.ij o.dst (agw pv)) s else none)
   else uj E call n fid rv (.region id ops false) i (Q false) fr s
  |[]=>none
 | .seq a b,i,Q,fr,s=>evR fid rv a i (λrec ex fr s=>match ex with
  | .pR=>uj E call n fid rv b i (Q rec) fr s
  |ex=>Q rec ex fr s) fr s
 |c,i,Q,fr,s=>uj E call n fid rv c i (Q false) fr s
noncomputable def Xg(d:BK S)(s:bq S)(k:Bool->bq S->Option ω):Option ω:=match d with
 | .call f args=>match oc f args with
  |none=>none
  |some (f,args)=>match E.T.E.UG f with
   |none=>none
   |some fn=>match fn.body with
    |none=>none
    |some c=>bif Nat.ble (cA args) fn.ntmps&&Nat.blt fn.ntmps bA then
      evR E call n pv f (SC E.T fn.results.toList fn.resultTypes.toList) c 0 (λrec e fr s'=>match fr.df with
       |[]=>match e with
        | .pR|.ret=>match ko E.T s' fr fn.results.toList with
         |some _=>k rec {s' with lo:=s.lo}
         |none=>none
        |_=>none
       |_::_=>none) {n:=fn.ntmps,tm:=n4 args 0 .nil} {s with lo:=s.aH}
     else none
 | .mark o=>match s.ob.get o with
  |some .Av=>bif Nat.ble s.fl o&&Nat.blt o bA then k false {s with ob:=s.ob.del aI o,wr:=o::s.wr}else none
  |_=>none
 |_=>none
end
noncomputable def Fb(E:ga S)(call:iB S)(n:Nat){ω:Type}:List (BK S)->Option (V S)->bq S->(Option (V S)->bq S->Option ω)->Option ω
 |[],pv,s,k=>k pv s
 |d::l,pv,s,k=>Xg E call n pv d s λrec s'=>Fb E call n l (bif rec then none else pv) s' k
def MZ(E:gA){ω:Type}(rs:List ResultVar)(fr:bV S)(k kp:V S->bq S->Option ω)(pv:Option (V S))(s:bq S):Option ω:=match pv with
 |none=>match ko E s fr rs with
  |some l=>k (GD l) s
  |none=>none
 |some v=>kp v s
noncomputable def Xf(E:ga S)(call:iB S)(n:Nat){ω:Type}(rs:List ResultVar)(k kp:V S->bq S->Option ω):xC S->bV S->bq S->Option ω
 | .pR,fr,s=>Fb E call n fr.df none s (MZ E.T rs fr k kp)
 | .ret,fr,s=>Fb E call n fr.df none s (MZ E.T rs fr k kp)
 | .dm v,fr,s=>Fb E call n fr.df (some v) s (MZ E.T rs fr k kp)
 | .ext _,_,_=>none
def abD(o lo:Nat){ω:Type}(k:V S->bq S->Option ω):xC S->bV S->bq S->Option ω
 | .pR,_,s=>match s.ob.get o with
  |some (.lp l)=>k (.kb true) {s with ob:=s.ob.set aI o (.lp {l with st:=.ready,oO:=none}),lo:=lo}
  |_=>none
 |_,_,_=>none
noncomputable def abC(E:ga S)(call:iB S)(n o lo:Nat)(fid:FuncId)(body:Code){ω:Type}(k:V S->bq S->Option ω):xC S->bV S->bq S->Option ω
 | .pR,fr,s=>match s.ob.get o with
  |some (.lp l)=>bif DV l.st l.oO then uj E call n fid [] body 0 (abD o lo k) fr {s with ob:=s.ob.set aI o (.lp {l with st:=.busy})}else none
  |_=>none
 |_,_,_=>none
noncomputable def Oj(E:ga S)(call:iB S)(n o:Nat)(args:List (V S))(s:bq S){ω:Type}(k:V S->bq S->Option ω):Option ω:=match s.ob.get o with
 |some (.lp l)=>bif DV l.st l.oO&&(Nat.beq (cA args) (cA l.params)&&(l.params.all (λk=>Nat.blt k l.fr.n)&&(Nat.ble l.fr.n bA&&(N2 l.assign&&(N2 l.body&&Nat.ble s.fl o)))))then
   uj E call n l.fid [] l.assign 0 (abC E call n o s.lo l.fid l.body k) {n:=l.fr.n,tm:=Oh l.params args l.fr.tm,df:=[]} {s with lo:=s.aH}
  else none
 |_=>none
noncomputable def acf(E:ga S)(n:Nat)(call:iB S):iB S:=λtg args s{_}k kp=>match tg with
 | .yl o=>Oj E call n o args s k
 | .fn f=>match E.T.E.UG f with
  |none=>none
  |some fn=>match fn.body with
   |none=>none
   |some c=>
    bif Nat.ble (cA args) fn.ntmps&&Nat.blt fn.ntmps bA then
     uj E call n f (SC E.T fn.results.toList fn.resultTypes.toList) c 0 (Xf E call n fn.results.toList (λv s'=>k v {s' with lo:=s.lo}) (λv s'=>kp v {s' with lo:=s.lo})) {n:=fn.ntmps,tm:=n4 args 0 .nil} {s with lo:=s.aH}
    else none
noncomputable def Np(E:ga S)(n:Nat):Nat->iB S
 |0=>λ_ _ _{_}_ _=>none
 |d+1=>acf E n (Np E n d)
noncomputable def XG(E:ga S)(n d:Nat)(f:FuncId)(args:List (V S))(s:bq S){ω:Type}(k kp:V S->bq S->Option ω):Option ω:=match E.T.E.UG f with
  |none=>none
  |some fn=>match fn.body with
   |none=>none
   |some c=>
    bif Nat.ble (cA args) fn.ntmps&&Nat.blt fn.ntmps bA then
     uj E (Np E n d) n f (SC E.T fn.results.toList fn.resultTypes.toList) c 0 (Xf E (Np E n d) n fn.results.toList k kp) {n:=fn.ntmps,tm:=n4 args 0 .nil} s
    else none
def sL(b:Nat)(s:bq S):(ps:List Pk)->fW S.A ps->List (V S)×bq S
 |[],_=>([],s)
 | .one c::ps,x=>match uh s c x.1 with
  |(v,s)=>match sL b s ps x.2 with
   |(l,s)=>(v::l,s)
 | .box k::ps,x=>match gC s (some (Nat.succ b)) k x.1 with
  |(ob,s)=>match sL (Nat.succ b) {s with ob:=s.ob.set aI b ob} ps x.2 with
   |(l,s')=>(Td k b::l,s')
 | .hid k::ps,x=>match gC s (some (Nat.succ b)) k x.1 with
  |(ob,s)=>sL (Nat.succ b) {s with ob:=s.ob.set aI b ob} ps x.2
def ej:List Pk->Nat
 |[]=>0
 | .one _::l=>ej l
 | .box _::l=>Nat.succ (ej l)
 | .hid _::l=>Nat.succ (ej l)
def Zw(rs:List Ck)(v:V S):List (V S):=match rs,v with|[_],v=>[v]|_,.gq l=>l|_,v=>[v]
def aaR(rs:List Ck)(ps:List Pk)(v:V S)(s':bq S):Option (gp S.A rs×iE S.A ps):=
 match gI s' rs (Zw rs v),sA s' 0 ps with
 |some (r,fz,ow),some (b,jZ,Uw)=>match dz s' (fz++jZ)with
  |some _=>bif sC (ow++Uw)&&Br (ow++Uw) (fz++jZ)then some (r,b)else none
  |none=>none
 |_,_=>none
def aeB(pn:Bool)(rs:List Ck)(ps:List Pk)(v:V S)(s':bq S):Option (RT pn (gp S.A rs×iE S.A ps) (den S.A S.pt×iE S.A ps)):=
 match aaR rs ps v s' with
 |some r=>some (RT.ok pn r)
 |none=>none
def aeA(pn:Bool)(rs:List Ck)(ps:List Pk)(v:V S)(s':bq S):Option (RT pn (gp S.A rs×iE S.A ps) (den S.A S.pt×iE S.A ps)):=
 match aaR [.dat S.pt] ps v s' with
 |some r=>RT.dm pn (r.1.1,r.2)
 |none=>none
noncomputable def Fa(E:ga S)(n d:Nat)(f:FuncId)(ps:List Pk)(rs:List Ck)(x:fW S.A ps):Option (RT E.pn (gp S.A rs×iE S.A ps) (den S.A S.pt×iE S.A ps)):=
 match sL 0 ⟨.nil,ej ps,0,ej ps,[],[]⟩ ps x with
 |(args,s)=>bif !(Nat.ble s.aH bA)then none else XG E n d f args s (aeB E.pn rs ps) (aeA E.pn rs ps)
end
section
namespace Tr
variable {α β:Type}
def map(f:α->β):Tr α->Tr β
 | .nil=>.nil
 | .node v l r=>.node (v.map f) (map f l) (map f r)
def get_map(f:α->β):∀(t:Tr α)(k:Nat),(t.map f).get k=(t.get k).map f
 | .nil,k=>by rw[map,get_nil,get_nil];rfl
 | .node v l r,0=>by rw[map,fN,fN]
 | .node v l r,k+1=>by rw[map,cP,cP,get_map f l,get_map f r];split<;>rfl
def lG(f:α->β):∀(n:Nat)(t:Tr α)(k:Nat)(x:α),(Tr.set n t k x).map f=Tr.set n (t.map f) k (f x)
 |0,t,k,x=>rfl
 |n+1,.nil,0,x=>rfl
 |n+1,.nil,k+1,x=>by
  rw[map,nQ,nQ];split
  .rw[map,lG f n];rfl
  .rw[map,lG f n];rfl
 |n+1,.node v l r,0,x=>rfl
 |n+1,.node v l r,k+1,x=>by
  rw[map,mO,mO];split
  .rw[map,lG f n]
  .rw[map,lG f n]
end Tr
def sX(S:Sg):(l:List (TypeId×Ty))->wE S.A l->Option (TypeId×D)
 |[],_=>none
 |p::_,.inl x=>some (p.1,enc S p.2 x)
 |_::l,.inr y=>sX S l y
def NA:List (TypeId×Ty)->Bool
 |[]=>true
 |p::l=>(pI l p.1).isNone&&NA l
structure fy(S:Sg):Prop where
 uS:∀n h,S.get n (S.VV n h)=h
 VU:∀n x,S.VV n (S.get n x)=x
 cells:∀n x,S.cells n x=gw S (S.fs n) (S.get n x)
 leaf:∀n,∀t∈S.fs n,js t=false
 Dk:∀n h,S.sM n (S.imk n h)=h
 qe:∀n x,S.qe n x=sX S (S.alts n) (S.sM n x)
 alts:∀n,NA (S.alts n)=true
def M7:∀l:List (TypeId×Ty),sX S l (VP l)=none
 |[]=>rfl
 |_::l=>M7 l
def M8:∀(l:List (TypeId×Ty))(t:TypeId)(i:Nat)(x:den S.A (l9 l i)),pI l t=some i->sX S l (Wl l i x)=some (t,enc S (l9 l i) x)
 |[],t,i,x,h=>by cases h
 |p::l,t,i,x,h=>by
  simp only[pI]at h;rcases af h with⟨hb,h⟩|⟨_,h⟩
  .simp only[bf]at h;subst h;simp only[Wl,sX,nT hb];rfl
  .split at h
   .rename_i j hj;simp only[bf]at h;subst h;exact M8 l t j x hj
   .cases h
def agO:Ty->Nat
 | .str=>16
 | .cR _=>16
 | .sl _=>24
 |_=>8
def Zo:List Ty->Nat
 |[]=>0
 |t::l=>Nat.add (agO t) (Zo l)
def vn(S:Sg):Ty->Nat
 | .int .i8|.int .u8=>1
 | .int .i16|.int .u16=>2
 | .int .i32|.int .u32=>4
 | .int _=>8
 | .bool=>1
 | .str=>16
 | .sl _=>24
 | .st n=>Zo (S.fs n)
 | .cR _=>16
def aaf(o:Option (TypeId×D)):(N3 o).lby=16:=by cases o<;>rfl
def uK(o:Option (TypeId×D)):(N3 o).leaf=true:=by cases o<;>rfl
def mB(o:Option (TypeId×D)):(N3 o).cells=[N3 o]:=by cases o<;>rfl
def adE(o:Option (TypeId×D)):(N3 o).qT=16:=by cases o<;>rfl
def lR:∀(ts:List Ty)(h:lP S.A ts),(gw S ts h).length=ts.length
 |[],_=>rfl
 |t::ts,h=>by simp[gw,lR ts]
variable {t:Ty}{v u:V S}{fr:bV S}{l:List (V S)}
def aaU(x:den S.A t)(h:js t=false):(enc S t x).lby=agO t:=by cases t<;>first|rfl|exact aaf _|cases h
def DE:∀(ts:List Ty)(h:lP S.A ts),(∀t∈ts,js t=false)->D.m6 (gw S ts h)=Zo ts
 |[],_,_=>rfl
 |t::ts,h,hl=>by simp only[gw,D.m6,Zo,aaU _ (hl t (by simp)),DE ts h.2 (λu hu=>hl u (by simp[hu]))]
def Ff(x:den S.A t)(h:js t=false):(enc S t x).leaf=true:=by cases t<;>first|rfl|exact uK _|cases h
def gO:∀(ts:List Ty)(h:lP S.A ts),(∀t∈ts,js t=false)->∀d∈gw S ts h,d.leaf=true
 |[],_,_,d,hd=>by simp[gw]at hd
 |t::ts,h,hl,d,hd=>by
  simp only[gw,fc]at hd;rcases hd with rfl|hd
  .exact Ff _ (hl t (by simp))
  .exact gO ts h.2 (λu hu=>hl u (by simp[hu])) d hd
def Ba(hS:fy S)(x:den S.A t):(enc S t x).qT=vn S t:=by
 cases t with
 |st n=>simp only[enc,D.qT,vn];rw[show S.cells n x=_ from hS.cells n x,DE _ _ (hS.leaf n)]
 |int k=>cases k<;>rfl
 |cR n=>exact adE _
 |_=>rfl
def jU(hS:fy S)(x:den S.A t):(enc S t x).cells.length=S.width t:=by cases t with|st n=>simp only[enc,D.cells,Sg.width,bH];rw[show S.cells n x=_ from hS.cells n x,lR]|cR n=>rw[show enc S (.cR n) x=N3 (S.qe n x)from rfl,mB];rfl|_=>rfl
def M6(hS:fy S)(x:den S.A t):(enc S t x).flat=true:=by cases t with|st n=>simp only[enc,D.flat,D.cells,gr];rw[show S.cells n x=_ from hS.cells n x];exact gO _ _ (hS.leaf n)|cR n=>simp only[enc,D.flat,mB,Ed,List.all_nil,uK,HR]|_=>rfl
def eB(S:Sg):(t:Ty)->den S.A t->T
 | .st n,x=>.agg ((S.cells n x).map .sym)
 | .int k,x=>.sym (enc S (.int k) x)
 | .bool,x=>.sym (enc S .bool x)
 | .str,x=>.sym (enc S .str x)
 | .sl e,x=>.sym (enc S (.sl e) x)
 | .cR n,x=>.sym (enc S (.cR n) x)
def xV(x:den S.A t)(h:js t=false):eB S t x=.sym (enc S t x):=by cases t<;>first|rfl|cases h
mutual
def low:V S->T
 | .ty t x=>eB S t x
 | .kb b=>.kb b
 | .kn k n=>.kn k n
 | .dat d=>.sym d
 | .ptr o off=>.ptr o off
 | .mV t x off=>.mV (enc S t x) off
 | .kL o e i off=>.kL o e i off
 | .sh o e=>.sh o e
 | .emp=>.emp
 | .jI n t l=>.jI n (l.map (enc S t))
 | .fn f a b=>.fn f (bh a) (bh b)
 | .cR t v=>.cR t (low v)
 | .agg cs=>.agg (bh cs)
 | .gq vs=>.gq (bh vs)
 | .gd c v=>.gd c (low v)
 | .mp o=>.mp o
 | .rZ o=>.rZ o
 | .rY o=>.rY o
 | .ub e=>.ub e
 | .qF o m r i=>.qF o m r i
 | .n9 n j x=>.n9 j (enc S (.st n) x)
def bh:List (V S)->List T
 |[]=>[]
 |v::l=>low v::bh l
end
def gi:∀l:List (V S),bh l=l.map low
 |[]=>rfl
 |v::l=>by simp only[bh,lZ,gi l]
def rH:BK S->Df
 | .call f args=>.call (low f) (bh args)
 | .mark o=>.mark o
 | .bad=>.bad
def bx(fr:bV S):Fr:=⟨fr.n,fr.tm.map low,fr.df.map rH⟩
def w7(l:LpV S):Lp:=⟨l.st,l.oO,l.fid,bx l.fr,l.params,l.assign,l.body⟩
def cQ:wP S->Ob
 | .box cs=>.box (bh cs)
 | .arr t l era=>.arr (S.width t) (l.map (enc S t)) era
 | .kf t l era=>.kf (S.width t) (l.map (enc S t)) era
 | .map kt vt l=>.map (l.map λp=>(eB S kt p.1,eB S vt p.2))
 | .GQ kt l=>.map (l.map λp=>(eB S kt p.1,low p.2))
 | .pO b pos=>.pO (bF b) pos
 | .lp l=>.lp (w7 l)
 | .Av=>.Av
 | .kE n j l era m dg hole=>.kE j (S.width (.st n)) (l.map (enc S (.st n))) era m dg hole
 | .rws t dL dg=>.rws (S.width t) (dL.map (·.map (enc S t))) dg
 | .gone=>.gone
def aF(s:bq S):St:=⟨s.ob.map cQ,s.aH,s.fl,s.lo⟩
def aV(s:bq S)(o:Nat):(aF s).ob.get o=(s.ob.get o).map cQ:=Tr.get_map _ _ _
def bO(fr:bV S)(k:Nat):(bx fr).get k=(fr.get k).map low:=Tr.get_map _ _ _
def S7(fr:bV S)(k:Nat)(v:V S):bx (fr.put k v)=(bx fr).put k (low v):=by simp only[bx,bV.put,Fr.put,Tr.lG]
def OA(fr:bV S)(k:Option Nat)(v:V S):bx (fr.ij k v)=(bx fr).ij k (low v):=by cases k with|none=>rfl|some k=>exact S7 fr k v
def eZ(s:bq S)(o:Nat)(ob:wP S)(wr:List Nat):aF {s with ob:=s.ob.set aI o ob,wr:=wr}={aF s with ob:=(aF s).ob.set aI o (cQ ob)}:=by simp only[aF,Tr.lG]
def gu(s:bq S)(ob:wP S):aF (dn s ob)=(ec (aF s) (cQ ob)).2:=by simp only[aF,dn,ec,Tr.lG]
def Nt(b:ByteArray):bF (ofBytes b)=b:=by unfold bF ofBytes;cases b;simp
def Pw{v:Value}(h:sZ v=some u):ofConst v=some (low u):=by
 cases v with
 |bool b=>simp only[sZ,bf]at h;subst h;rfl
 |int k n=>simp only[sZ,bf]at h;subst h;rfl
 |string b=>simp only[sZ,bf]at h;subst h;simp only[ofConst,low,eB,enc,Cd,dX];rw[Nt]
 |slice a n m=>
  unfold sZ at h;split at h;all_goals first
   |(simp only[bf]at h;rename_i he;simp only[Value.slice.injEq]at he;obtain⟨rfl,rfl,rfl⟩:=he;subst h;rfl)
   |(rename_i he;cases he;done)
   |(simp only[Cd,Option.map_none,reduceCtorEq]at h)
 |func f a b=>
  simp only[sZ]at h;simp only[ofConst];split at h
  .simp only[bf]at h;subst h;rename_i h1 h2;rw[h1,h2];rfl
  .cases h
 |iface t v=>simp only[sZ,eA]at h;obtain⟨d,hd,rfl⟩:=h;simp only[ofConst,hd,dX];rfl
 |_=>simp only[sZ,eA]at h;obtain⟨d,hd,rfl⟩:=h;simp only[ofConst,hd,dX];rfl
def bU{x:Operand}(h:cm fr x=some u):jw (bx fr) x=some (low u):=by
 cases x with
 |tmp k=>simp only[cm]at h;simp only[jw,bO,h,dX]
 |const v=>exact Pw h
 |global g=>cases h
 |func f=>simp only[cm,bf]at h;subst h;rfl
def gM{fr:bV S}:∀{l:List Operand}{us:List (V S)},jX fr l=some us->w6 (bx fr) l=some (bh us)
 |[],us,h=>by simp only[jX,bf]at h;subst h;rfl
 |x::l,us,h=>by
  simp only[jX]at h;split at h
  .rename_i t r h1 h2;simp only[bf]at h;subst h;simp only[w6,bU h1,gM h2,bh]
  .cases h
def IF{u:Ty}{x:den S.A t}{y:den S.A u}(h:u7 t u x=some y):t=u∧HEq x y:=by
 unfold u7 at h;split at h
 .rename_i he;have:=fG he;subst this;simp only[bf]at h;exact⟨rfl,heq_of_eq h⟩
 .cases h
def eX{u:Ty}{x:List (den S.A t)}{y:List (den S.A u)}(h:nt t u x=some y):t=u∧HEq x y:=by
 unfold nt at h;split at h
 .rename_i he;have:=fG he;subst this;simp only[bf]at h;exact⟨rfl,heq_of_eq h⟩
 .cases h
def fL{k:IntKind}{n:Int}(h:gF k v=some n):∃p,tZ k (low v)=some (p,n)∧p:=by
 unfold gF at h;split at h
 .rename_i j m;cases hk:nD j k<;>rw[hk]at h
  .cases h
  .simp only[dM,bf]at h;subst h;exact⟨True,by simp[low,tZ,hk],trivial⟩
 .rename_i j x;cases hk:nD j k<;>rw[hk]at h
  .cases h
  .simp only[dM,bf]at h;subst h;exact⟨_,rfl,hk⟩
 .cases h
def kY{b:Bool}(h:iw v=some b):∃p,xu (low v)=some (p,b)∧p:=by
 unfold iw at h;split at h
 .simp only[bf]at h;subst h;exact⟨True,rfl,trivial⟩
 .simp only[bf]at h;subst h;exact⟨_,rfl,rfl⟩
 .cases h
def ki{b:List UInt8}(h:ur v=some b):∃p,xH (low v)=some (p,bF b)∧p:=by
 unfold ur at h;split at h
 .simp only[bf]at h;subst h;exact⟨_,rfl,rfl⟩
 .cases h
def uF:∀(ts:List Ty)(h:lP S.A ts),(∀t∈ts,js t=false)->bh (zB (S:=S) ts h)=(gw S ts h).map .sym
 |[],_,_=>rfl
 |t::ts,h,hl=>by simp only[zB,bh,gw,lZ,uF ts h.2 (λu hu=>hl u (by simp[hu]))];rw[low,xV _ (hl t (by simp))]
def eR:∀l:List (V S),(bh l).length=l.length
 |[]=>rfl
 |v::l=>by simp[bh,eR l]
def jz(l m:List (V S)):bh (l++m)=bh l++bh m:=by simp only[gi,LV]
def jd(l:List (V S))(n:Nat):bh (l.take n)=(bh l).take n:=by simp only[gi,List.map_take]
def je(l:List (V S))(n:Nat):bh (l.drop n)=(bh l).drop n:=by simp only[gi,List.map_drop]
def Ta(h:V8 v=true):(low v).leaf:=by
 cases v with
 |ty t x=>simp only[V8,GL]at h;rw[low,xV _ h];exact Ff x h
 |dat d=>exact h
 |agg=>cases h
 |gq=>cases h
 |gd=>cases h
 |_=>trivial
def xW:∀{l:List (V S)},AQ l=true->leaves (bh l)
 |[],_=>trivial
 |v::l,h=>by simp only[AQ,eE]at h;exact⟨Ta h.1,xW h.2⟩
def DW(cs:List D):(List.range cs.length).map (λj=>T.sym ((D.agg cs).cell j))=cs.map .sym:=by
 apply LZ;intro j;simp only[gQ];by_cases hj:j<cs.length
 .rw[SJ hj,gm hj];simp[D.cell,D.cells,List.getD,hj]
 .rw[Jt (by simpa using hj),Jt (by simpa using hj)];rfl
def mI(hS:fy S){i:TI}(h:u5 i v=some l):∃p,iT i (low v)=some (p,bh l)∧p:=by
 unfold u5 at h;split at h
 .rename_i cs;rcases af h with⟨hb,h⟩|⟨_,h⟩
  .simp only[bf]at h;subst h;have:(i.agg&&Nat.beq (cA (bh cs)) i.size)=true:=by rw[bH,eR,<-bH];exact hb
   exact⟨True,by simp only[low,iT,this,dM],trivial⟩
  .cases h
 .rename_i n x;rcases af h with⟨hb,h⟩|⟨_,h⟩
  .simp only[bf]at h;subst h;rw[uF _ _ (hS.leaf n),<-hS.cells];have:(i.agg&&Nat.beq (cA ((S.cells n x).map T.sym)) i.size)=true:=by rw[bH,Jo,hS.cells,lR,<-bH];exact hb
   exact⟨True,by simp only[low,eB,iT,this,dM],trivial⟩
  .cases h
 .rename_i d;rcases af h with⟨_,h⟩|⟨pP,h⟩
  .cases h
  .rcases af h with⟨hb,h⟩|⟨_,h⟩
   .simp only[eE]at hb;simp only[bf]at h;subst h;exact⟨_,by simp only[low,iT,pP,hb.1,dM,gE];rfl,hb.2⟩
   .cases h
 .cases h
 .cases h
 .rename_i h1 h2 h3 h4 h5;rcases af h with⟨_,h⟩|⟨pP,h⟩
  .cases h
  .rcases af h with⟨hb,h⟩|⟨_,h⟩
   .simp only[bf]at h;subst h;cases v with
    |ty t x=>
     have ht:js t=false:=by cases t with|st n=>exact absurd rfl (h2 n x)|_=>rfl
     have e:low (V.ty t x)=.sym (enc S t x):=by rw[low,xV _ ht]
     refine⟨(enc S t x).leaf=true,?_,Ff _ ht⟩;simp only[e,bh,iT,pP,hb,dM,gE]
    |agg cs=>exact absurd rfl (h1 cs)
    |dat d=>exact absurd rfl (h3 d)
    |gq vs=>exact absurd rfl (h4 vs)
    |gd c v=>exact absurd rfl (h5 c v)
    |_=>exact⟨True,by simp only[low,bh,iT,pP,hb,dM,gE],trivial⟩
   .cases h
def ot{ag:Bool}(h:zo ag l=some v):uy ag (bh l)=some (low v):=by
 unfold zo at h;rcases af h with⟨pP,h⟩|⟨pP,h⟩
 .simp only[bf]at h;subst h;simp only[uy,pP,dM,low]
 .split at h
  .simp only[bf]at h;subst h;simp only[uy,pP,gE,bh]
  .cases h
end
section
def xy(S:Sg)(i:TI):Ty->Prop
 | .int k=>i.kd=.leaf (.int k)∧i.agg=false∧i.size=1
 | .bool=>i.kd=.leaf .bool∧i.agg=false∧i.size=1
 | .str=>i.kd=.leaf .str∧i.agg=false∧i.size=1
 | .sl e=>(∃z,i.kd=.slice (S.width e) (js e) (vn S e) z∧(bif js e then D.agg z=enc S e (S.zero e)else z=[enc S e (S.zero e)]))∧i.agg=false∧i.size=1∧0<S.width e
 | .st n=>i.agg=true∧i.size=(S.fs n).length
 | .cR _=>i.kd=.iface∧i.agg=false∧i.size=1
structure PV(S:Sg)(E:gA):Prop where
 row:∀k i τ,E.E.ti k=some i->E.ty k=some τ->xy S i τ
def vT(s:St):∀ds:List D,∃p,lY s (ds.map .sym)=some (p,ds,[])∧p
 |[]=>⟨True,rfl,trivial⟩
 |d::ds=>by obtain⟨p,h,hp⟩:=vT s ds;exact⟨True∧p,by simp only[lZ,lY,vU,h,xN],trivial,hp⟩
variable {t e:Ty}{n j:Nat}{s:bq S}{v:V S}{i:TI}{τ:Option Ty}{fr:bV S}{u:Option (V S)}
def Sq(hS:fy S)(s:St)(x:den S.A t):∃p,vU s (eB S t x)=some (p,enc S t x,[])∧p:=by
 cases t with
 |st n=>obtain⟨p,h,hp⟩:=vT s (S.cells n x);refine⟨p∧(S.cells n x).all D.leaf=true,by simp only[eB,vU,h,enc],hp,?_⟩;rw[gr,hS.cells];exact gO _ _ (hS.leaf n)
 |_=>exact⟨True,rfl,trivial⟩
def Mz(k:IntKind):nD k k=true:=by cases k<;>rfl
def HE:∀t:Ty,r6 t t=true
 | .int k=>Mz k
 | .bool=>rfl
 | .str=>rfl
 | .sl e=>HE e
 | .st n=>HQ n
 | .cR n=>HQ n
def u6(x:den S.A t):u7 (S:=S) t t x=some x:=by unfold u7;rw[dif_pos (HE t)]
def Ix:∀{ts:List Ty}{h:lP S.A ts}{j:Nat}{t:Ty}{y:den S.A t},nth ts j=some t->gw S ts (ya ts h j t y)=(gw S ts h).set j (enc S t y)
 |[],_,_,_,_,h=>by simp[nth]at h
 | τ::ts,h,0,t,y,e=>by simp only[nth,bf]at e;subst e;simp only[ya,u6,gw,List.set_cons_zero]
 | τ::ts,h,j+1,t,y,e=>by simp only[nth]at e;simp only[ya,gw,List.set_cons_succ,Ix e]
def Iy:∀{ts:List Ty}{h:lP S.A ts}{j:Nat}{t:Ty},nth ts j=some t->(gw S ts h)[j]?=some (enc S t (cJ ts h j t))
 |[],_,_,_,h=>by simp[nth]at h
 | τ::ts,h,0,t,e=>by simp only[nth,bf]at e;subst e;simp only[cJ,u6,gw,sr]
 | τ::ts,h,j+1,t,e=>by simp only[nth]at e;simp only[cJ,gw,List.getElem?_cons_succ,Iy e]
def Fx(h:CR S n j t=true):nth (S.fs n) j=some (.sl t):=by
 unfold CR at h;split at h
 .rename_i u hu;rw[hu,fG h]
 .cases h
def Xk(hS:fy S)(hc:CR S n j t=true)(x:S.A n)(y:List (den S.A t)):enc S (.st n) (SA n j t x y)=zP j (enc S (.st n) x) (y.map (enc S t)):=by show D.agg (S.cells n _)=D.agg ((S.cells n x).set j _);rw[hS.cells,hS.cells,SA,hS.uS,Ix (Fx hc)];rfl
def zN(hS:fy S){n j:Nat}{t:Ty}(hc:CR S n j t=true):∀(l:List (S.A n))(dL:List (List (den S.A t))),(ja n j t l dL).map (enc S (.st n))=iZ j (l.map (enc S (.st n))) (dL.map (·.map (enc S t)))
 |[],_=>by simp[ja,iZ]
 |_::_,[]=>by simp[ja,iZ]
 |x::l,rs::dL=>by have:=zN hS hc l dL;simp only[ja,iZ]at this;simp only[ja,iZ,List.zipWith_cons_cons,lZ,this,Xk hS hc]
def za{m r:Nat}{dL:List (List (den S.A t))}(h:Lv s m r=some ⟨t,dL⟩):GF (aF s) m r=some (dL.map (·.map (enc S t))):=by
 unfold Lv at h;split at h
 .rename_i t' Zv r' hm;rcases af h with⟨hb,h⟩|⟨_,h⟩
  .cases h;simp only[GF,aV,hm,dX,cQ,hb,dM]
  .cases h
 .cases h
mutual
def oF(hS:fy S)(s:bq S):∀(t:Ty)(v:V S){x:den S.A t}{os:List Nat},bM s t v=some (x,os)->∃p,vU (aF s) (low v)=some (p,enc S t x,os)∧p
 |t,.ty u y,x,os,h=>by
  simp only[bM]at h;split at h
  .rename_i z hz;obtain⟨rfl,hxy⟩:=IF hz;cases hxy;simp only[bf,bB]at h;obtain⟨rfl,rfl⟩:=h;exact Sq hS _ _
  .cases h
 | .bool,.kb b,x,os,h=>by simp only[bM,bf,bB]at h;obtain⟨rfl,rfl⟩:=h;exact⟨True,rfl,trivial⟩
 | .int k,.kn j n,x,os,h=>by
  simp only[bM]at h;rcases af h with⟨hb,h⟩|⟨_,h⟩
  .simp only[bf,bB]at h;obtain⟨rfl,rfl⟩:=h;rw[AR hb];exact⟨True,rfl,trivial⟩
  .cases h
 | .sl e,.emp,x,os,h=>by simp only[bM,bf,bB]at h;obtain⟨rfl,rfl⟩:=h;exact⟨True,rfl,trivial⟩
 | .sl e,.jI n t l,x,os,h=>by
  simp only[bM]at h;split at h
  .rename_i z hz;obtain⟨rfl,hxy⟩:=eX hz;cases hxy;simp only[bf,bB]at h;obtain⟨rfl,rfl⟩:=h;exact⟨True,rfl,trivial⟩
  .cases h
 | .sl e,.sh o r,x,os,h=>by
  simp only[bM]at h;split at h
  .rename_i t l era ho;rcases af h with⟨hb,h⟩|⟨_,h⟩
   .split at h
    .rename_i z hz;obtain⟨rfl,hxy⟩:=eX hz;cases hxy;simp only[bf,bB]at h;obtain⟨rfl,rfl⟩:=h;refine⟨True,?_,trivial⟩;simp only[low,vU,aV,ho,dX,cQ,hb,dM,enc]
    .cases h
   .cases h
  .rename_i t l era ho;rcases af h with⟨hb,h⟩|⟨_,h⟩
   .split at h
    .rename_i z hz;obtain⟨rfl,hxy⟩:=eX hz;cases hxy;simp only[bf,bB]at h;obtain⟨rfl,rfl⟩:=h;refine⟨True,?_,trivial⟩;simp only[low,vU,aV,ho,dX,cQ,hb,dM,enc]
    .cases h
   .cases h
  .rename_i n j l era m r' ho;split at h
   .rename_i t dL hr;rcases af h with⟨hb,h⟩|⟨_,h⟩
    .simp only[eE]at hb;split at h
     .rename_i z hz;obtain⟨rfl,hxy⟩:=eX hz;cases hxy;simp only[bf,bB]at h;obtain⟨rfl,rfl⟩:=h;refine⟨True,?_,trivial⟩;simp only[low,vU,aV,ho,dX,cQ,za hr,hb.1,hb.2.1,HR,dM];rw[<-zN hS hb.2.2];rfl
     .cases h
    .cases h
   .cases h
  .cases h
 | .sl e,.n9 n j x0,x,os,h=>by
  simp only[bM]at h;split at h
  .rename_i z hz;obtain⟨rfl,hxy⟩:=eX hz;cases hxy;simp only[bf,bB]at h;obtain⟨rfl,rfl⟩:=h;exact⟨True,rfl,trivial⟩
  .cases h
 | .st n,.agg cs,x,os,h=>by
  simp only[bM]at h;split at h
  .rename_i h1 Q6 hh;simp only[bf,bB]at h;obtain⟨rfl,rfl⟩:=h;obtain⟨p,hd,hp⟩:=qW hS s (S.fs n) cs hh;have hce:S.cells n (S.VV n h1)=gw S (S.fs n) h1:=by rw[hS.cells,hS.uS]
   refine⟨p∧(gw S (S.fs n) h1).all D.leaf=true,by simp only[low,vU,hd,enc,hce],hp,?_⟩;rw[gr];exact gO _ _ (hS.leaf n)
  .cases h
 | .cR n,.cR t v,x,os,h=>by
  simp only[bM]at h;split at h
  .rename_i i hi;split at h
   .rename_i y Q6 hy;simp only[bf,bB]at h;obtain⟨rfl,rfl⟩:=h;obtain⟨p,hd,hp⟩:=oF hS s _ v hy;refine⟨p,?_,hp⟩;have e:enc S (.cR n) (S.imk n (Wl (S.alts n) i y))=.cR t (enc S (l9 (S.alts n) i) y):=by show N3 (S.qe n _)=_;rw[hS.qe,hS.Dk,M8 _ _ _ _ hi];rfl
    simp only[low,vU,hd,e]
   .cases h
  .cases h
 | .cR n,.dat (.lit .nilIface),x,os,h=>by
  simp only[bM,bf,bB]at h;obtain⟨rfl,rfl⟩:=h;refine⟨True,?_,trivial⟩;have e:enc S (.cR n) (S.imk n (VP (S.alts n)))=.lit .nilIface:=by show N3 (S.qe n _)=_;rw[hS.qe,hS.Dk,M7];rfl
  simp only[low,vU,e]
 | .cR _,.kb _,_,_,h=>by simp[bM]at h
 | .cR _,.kn _ _,_,_,h=>by simp[bM]at h
 | .cR _,.emp,_,_,h=>by simp[bM]at h
 | .cR _,.jI _ _ _,_,_,h=>by simp[bM]at h
 | .cR _,.sh _ _,_,_,h=>by simp[bM]at h
 | .cR _,.n9 _ _ _,_,_,h=>by simp[bM]at h
 | .bool,.n9 _ _ _,_,_,h=>by simp[bM]at h
 | .str,.n9 _ _ _,_,_,h=>by simp[bM]at h
 | .int _,.n9 _ _ _,_,_,h=>by simp[bM]at h
 | .st _,.n9 _ _ _,_,_,h=>by simp[bM]at h
 |t,.qF _ _ _ _,_,_,h=>by cases t<;>simp[bM]at h
 | .cR _,.agg _,_,_,h=>by simp[bM]at h
 | .int _,.cR _ _,_,_,h=>by simp[bM]at h
 | .bool,.cR _ _,_,_,h=>by simp[bM]at h
 | .str,.cR _ _,_,_,h=>by simp[bM]at h
 | .sl _,.cR _ _,_,_,h=>by simp[bM]at h
 | .st _,.cR _ _,_,_,h=>by simp[bM]at h
 | .int _,.dat _,_,_,h=>by simp[bM]at h
 | .bool,.dat _,_,_,h=>by simp[bM]at h
 | .str,.dat _,_,_,h=>by simp[bM]at h
 | .sl _,.dat _,_,_,h=>by simp[bM]at h
 | .st _,.dat _,_,_,h=>by simp[bM]at h
 | .cR _,.dat (.sl _),_,_,h=>by simp[bM]at h
 | .cR _,.dat (.agg _),_,_,h=>by simp[bM]at h
 | .cR _,.dat (.cR _ _),_,_,h=>by simp[bM]at h
 | .cR _,.dat (.gq _),_,_,h=>by simp[bM]at h
 | .cR _,.dat (.lit (.bool _)),_,_,h=>by simp[bM]at h
 | .cR _,.dat (.lit (.int _ _)),_,_,h=>by simp[bM]at h
 | .cR _,.dat (.lit (.float _ _)),_,_,h=>by simp[bM]at h
 | .cR _,.dat (.lit (.complex _ _ _)),_,_,h=>by simp[bM]at h
 | .cR _,.dat (.lit (.string _)),_,_,h=>by simp[bM]at h
 | .cR _,.dat (.lit (.pointer _)),_,_,h=>by simp[bM]at h
 | .cR _,.dat (.lit (.slice _ _ _)),_,_,h=>by simp[bM]at h
 | .cR _,.dat (.lit (.map _)),_,_,h=>by simp[bM]at h
 | .cR _,.dat (.lit (.chan _)),_,_,h=>by simp[bM]at h
 | .cR _,.dat (.lit (.iface _ _)),_,_,h=>by simp[bM]at h
 | .cR _,.dat (.lit (.func _ _ _)),_,_,h=>by simp[bM]at h
 | .cR _,.dat (.lit .nilFunc),_,_,h=>by simp[bM]at h
 | .cR _,.dat (.lit (.agg _)),_,_,h=>by simp[bM]at h
 | .cR _,.dat (.lit (.tuple _)),_,_,h=>by simp[bM]at h
 |t,.mp _,_,_,h=>by cases t<;>simp[bM]at h
 |t,.rZ _,_,_,h=>by cases t<;>simp[bM]at h
 |t,.rY _,_,_,h=>by cases t<;>simp[bM]at h
 |t,.ub _,_,_,h=>by cases t<;>simp[bM]at h
 | .int _,.kb _,_,_,h=>by simp[bM]at h
 | .str,.kb _,_,_,h=>by simp[bM]at h
 | .sl _,.kb _,_,_,h=>by simp[bM]at h
 | .st _,.kb _,_,_,h=>by simp[bM]at h
 | .bool,.kn _ _,_,_,h=>by simp[bM]at h
 | .str,.kn _ _,_,_,h=>by simp[bM]at h
 | .sl _,.kn _ _,_,_,h=>by simp[bM]at h
 | .st _,.kn _ _,_,_,h=>by simp[bM]at h
 | .bool,.emp,_,_,h=>by simp[bM]at h
 | .str,.emp,_,_,h=>by simp[bM]at h
 | .int _,.emp,_,_,h=>by simp[bM]at h
 | .st _,.emp,_,_,h=>by simp[bM]at h
 | .bool,.jI _ _ _,_,_,h=>by simp[bM]at h
 | .str,.jI _ _ _,_,_,h=>by simp[bM]at h
 | .int _,.jI _ _ _,_,_,h=>by simp[bM]at h
 | .st _,.jI _ _ _,_,_,h=>by simp[bM]at h
 | .bool,.sh _ _,_,_,h=>by simp[bM]at h
 | .str,.sh _ _,_,_,h=>by simp[bM]at h
 | .int _,.sh _ _,_,_,h=>by simp[bM]at h
 | .st _,.sh _ _,_,_,h=>by simp[bM]at h
 | .bool,.agg _,_,_,h=>by simp[bM]at h
 | .str,.agg _,_,_,h=>by simp[bM]at h
 | .int _,.agg _,_,_,h=>by simp[bM]at h
 | .sl _,.agg _,_,_,h=>by simp[bM]at h
 |t,.ptr _ _,_,_,h=>by cases t<;>simp[bM]at h
 |t,.mV _ _ _,_,_,h=>by cases t<;>simp[bM]at h
 |t,.kL _ _ _ _,_,_,h=>by cases t<;>simp[bM]at h
 |t,.fn _ _ _,_,_,h=>by cases t<;>simp[bM]at h
 |t,.gq _,_,_,h=>by cases t<;>simp[bM]at h
 |t,.gd _ _,_,_,h=>by cases t<;>simp[bM]at h
def qW(hS:fy S)(s:bq S):∀(ts:List Ty)(l:List (V S)){h:lP S.A ts}{os:List Nat},mZ s ts l=some (h,os)->∃p,lY (aF s) (bh l)=some (p,gw S ts h,os)∧p
 |[],[],x,os,h=>by simp only[mZ,bf,bB]at h;obtain⟨_,rfl⟩:=h;exact⟨True,rfl,trivial⟩
 |t::ts,v::l,x,os,h=>by
  simp only[mZ]at h;split at h
  .rename_i x1 Q6 h1 SV e1 e2;simp only[bf,bB]at h;obtain⟨rfl,rfl⟩:=h;obtain⟨p,hd,hp⟩:=oF hS s t v e1;obtain⟨q,hd',hq⟩:=qW hS s ts l e2;exact⟨p∧q,by simp only[bh,lY,hd,hd',gw],hp,hq⟩
  .cases h
 |[],_::_,_,_,h=>by simp[mZ]at h
 |_::_,[],_,_,h=>by simp[mZ]at h
end
def de(hS:fy S):∀(os:List Nat){s s':bq S},dz s os=some s'->freeze (aF s) os=some (aF s')
 |[],s,s',h=>by simp only[dz,bf]at h;subst h;rfl
 |o::os,s,s',h=>by
  simp only[dz]at h;rcases af h with⟨hb,h⟩|⟨_,h⟩
  .have hb':Nat.ble (aF s).fl o=true:=hb;simp only[freeze,hb',dM];split at h
   .rename_i t l era ho;have:=de hS os h;rw[eZ]at this;simp only[aV,ho,dX,cQ];exact this
   .rename_i t l era ho;simp only[aV,ho,dX,cQ];exact de hS os h
   .rename_i n j l era m r ho;split at h
    .rename_i t dL hr;rcases af h with⟨fM,h⟩|⟨_,h⟩
     .simp only[eE]at fM;have:=de hS os h;have e1:Nat.ble (aF s).fl m=true:=fM.2.1;simp only[aV,ho,dX,cQ,za hr,e1,fM.1,fM.2.2.1,HR,dM];rw[<-this]
      congr 1
      simp only[aF,Tr.lG,cQ,zN hS fM.2.2.2]
     .cases h
    .cases h
   .rename_i t dL r ho;simp only[aV,ho,dX,cQ];exact de hS os h
   .rename_i ho;simp only[aV,ho,dX,cQ];exact de hS os h
   .cases h
  .cases h
def y6{l:List (den S.A e)}(h:I9 s e v=some l):∃p,rf (aF s) (low v)=some (p,l.map (enc S e))∧p:=by
 unfold I9 at h;split at h
 .simp only[bf]at h;subst h;exact⟨True,rfl,trivial⟩
 .obtain ⟨rfl,hxy⟩:=eX h;cases hxy;exact⟨True,rfl,trivial⟩
 .obtain ⟨rfl,hxy⟩:=eX h;cases hxy;exact⟨True,rfl,trivial⟩
 .obtain ⟨rfl,hxy⟩:=eX h;cases hxy;exact⟨_,rfl,rfl⟩
 .rename_i o r;split at h
  .rename_i t l' era ho;rcases af h with⟨hb,h⟩|⟨_,h⟩
   .obtain ⟨rfl,hxy⟩:=eX h;cases hxy;exact⟨True,by simp only[low,rf,aV,ho,dX,cQ,hb,dM],trivial⟩
   .cases h
  .rename_i t l' era ho;rcases af h with⟨hb,h⟩|⟨_,h⟩
   .obtain ⟨rfl,hxy⟩:=eX h;cases hxy;exact⟨True,by simp only[low,rf,aV,ho,dX,cQ,hb,dM],trivial⟩
   .cases h
  .cases h
 .cases h
def Ny{o e:Nat}{l:List (den S.A t)}(h:Kn s o e=some ⟨t,l⟩):Hu (aF s) o e=some (S.width t,l.map (enc S t)):=by
 unfold Kn at h;unfold Hu;rw[aV];split at h
 .rename_i t' l' era ho;rcases af h with⟨hb,h⟩|⟨_,h⟩
  .cases h;simp only[ho,dX,cQ,hb,dM]
  .cases h
 .rename_i t' l' era ho;rcases af h with⟨hb,h⟩|⟨_,h⟩
  .cases h;simp only[ho,dX,cQ,hb,dM]
  .cases h
 .cases h
def Pn{α:Type}(f:α->D)(l:List α)(k:Nat)(z:α)(h:k<l.length):D.el (l.map f) k=f (aN l k z):=by simp[D.el,aN,List.getD,h]
def uI{α:Type}{n:Int}{l:List α}(h:av n l=true):0<=n∧n<l.length:=by simpa[av]using h
def rK{α:Type}{k:Nat}{l:List α}(h:cw k l=true):k<l.length:=by simpa[cw]using h
def zC(hS:fy S)(x:den S.A t):bh (uG (S:=S) t x)=(enc S t x).cells.map .sym:=by cases t with|st n=>simp only[uG,enc,D.cells];rw[uF _ _ (hS.leaf n),hS.cells]|cR n=>show[T.sym (N3 (S.qe n x))]=(N3 (S.qe n x)).cells.map .sym;rw[mB];rfl|_=>rfl
def AM(hS:fy S)(hi:∀u,τ=some u->xy S i u){x:den S.A t}{off:Nat}(h:Ml i τ t x off=some v) :
  nM i (enc S t x) off=some (low v)∧(enc S t x).has (Nat.add off i.size):=by
 unfold Ml at h;have hw:=jU hS x;rcases af h with⟨hb,h9⟩|⟨_,h⟩
 .simp only[eE]at hb;clear h;obtain⟨h1,h2⟩:=hb;have h0:=beq_iff'.1 h1;subst h0;have h:=eI h9;subst h;unfold Zk at h2;split at h2
  .rename_i u;have:=fG h2;subst this;have hr:=hi u rfl;cases u with
   |st n=>
    obtain⟨ha,hsz⟩:=hr;have hc:(S.cells n x).length=(S.fs n).length:=by rw[hS.cells,lR]
    refine⟨?_,?_⟩
    .unfold nM;rw[ha,dM,hsz,<-hc];simp only[enc,low,eB,ju,Nat.add_eq]
     congr 2
     exact DW _
    .simp only[D.has,enc,D.cells,hsz,hc];exact zl (ju _)
   |int k=>obtain⟨_,ha,hsz⟩:=hr;exact⟨by simp only[nM,ha,hsz];rfl,by simp only[D.has,hsz];exact bT _⟩
   |bool=>obtain⟨_,ha,hsz⟩:=hr;exact⟨by simp only[nM,ha,hsz];rfl,by simp only[D.has,hsz];exact bT _⟩
   |str=>obtain⟨_,ha,hsz⟩:=hr;exact⟨by simp only[nM,ha,hsz];rfl,by simp only[D.has,hsz];exact bT _⟩
   |sl e=>obtain⟨_,ha,hsz,_⟩:=hr;exact⟨by simp only[nM,ha,hsz];rfl,by simp only[D.has,hsz];exact bT _⟩
   |cR n=>obtain⟨_,ha,hsz⟩:=hr;have e:(enc S (.cR n) x).cells=[enc S (.cR n) x]:=mB _;exact⟨by simp only[nM,ha,hsz,D.cell,e];rfl,by simp only[D.has,hsz,e];exact bT _⟩
  .cases h2
 .rcases af h with⟨hb,h⟩|⟨_,h⟩
  .have hle:off+i.size<=S.width t:=fQ hb;have hlen:(enc S t x).cells.length=S.width t:=hw;have hp:=ot h;rw[jd,je,zC hS]at hp;have hcell:((List.map T.sym (enc S t x).cells).drop off).take i.size=(List.range i.size).map λj=>T.sym ((enc S t x).cell (off+j)):=by
    apply LZ;intro j;rw[gQ];by_cases hj:j<i.size
    .rw[xO,bL hj,DZ,gQ,SJ hj];have:off+j<(enc S t x).cells.length:=by omega
     rw[gm this];simp[D.cell,List.getD,this]
    .rw[xO,bw hj,Jt (by simpa using hj)];rfl
   rw[hcell]at hp;refine⟨?_,by simp only[D.has];exact hlen▸hle⟩;unfold uy at hp;unfold nM;cases pP:i.agg with
   |true=>rw[pP,dM]at hp;rw[dM];exact hp
   |false=>
    rw[pP,gE]at hp;rw[gE];split at hp
    .rename_i y hy;have h1:i.size=1:=by have:=nB List.length hy;simpa using this
     rw[h1]at hy;have:Nat.beq i.size 1=true:=by rw[h1];rfl
     rw[this,dM];simp only[List.range_one,lZ,HO,Ec,LU,and_true]at hy;rw[hy];exact hp
    .cases hp
  .cases h
def Ic(hS:fy S)(hi:∀u,τ=some u->xy S i u){s':bq S}{a:V S}{c:Bool}(h:w8 i τ s a=some (c,v,s'))(hc:c=true) :
  s'=s∧∃p,loadT i (aF s) (low a)=some (p,low v,aF s')∧p:=by
 unfold w8 at h;split at h
 .rename_i o off;split at h
  .rename_i cs ho;dsimp only at h;rcases af h with⟨hb,h⟩|⟨_,h⟩
   .simp only[eA,bB]at h;obtain⟨t,ht,_,rfl,rfl⟩:=h;refine⟨rfl,True,?_,trivial⟩;have hp:=ot ht;rw[jd,je]at hp;have hb':Nat.beq (cA (((bh cs).drop off).take i.size)) i.size=true:=by rw[<-je,<-jd,bH,eR,<-bH];exact hb
    simp only[low,loadT,aV,ho,dX,cQ,hb',dM,hp]
   .cases h
  .cases h
 .rename_i t x off;simp only[eA,bB]at h;obtain⟨u,hu,_,rfl,rfl⟩:=h;obtain⟨h1,h2⟩:=AM hS hi hu;exact⟨rfl,_,by simp only[low,loadT,h1,dX],h2⟩
 .rename_i o e k off;split at h
  .rename_i t l hl;simp only[eA,bB]at h;obtain⟨u,hu,rfl,rfl,rfl⟩:=h;obtain⟨h1,h2⟩:=AM hS hi hu;have hk:=rK hc;have hel:=Pn (enc S t) l k (S.zero t) hk;refine⟨rfl,D.GU (k:Int) (D.len (l.map (enc S t)))∧(enc S t (aN l k (S.zero t))).has (Nat.add off i.size),by simp only[low,loadT,Ny hl,hel,h1,dX],?_,h2⟩;simp only[D.GU,D.len,Jo];omega
  .cases h
 .cases h
def Ep{x:Option Operand}(h:Jy fr x=some u):Mq (bx fr) x=some (u.map low):=by cases x with|none=>simp only[Jy,bf]at h;subst h;rfl|some x=>simp only[Jy,eA]at h;obtain⟨v,hv,rfl⟩:=h;simp only[Mq,bU hv,dX]
def pG{d:Int}{n:Int}(h:Bo d u=some n):∃p,vo d (u.map low)=some (p,n)∧p:=by cases u with|none=>simp only[Bo,bf]at h;subst h;exact⟨True,rfl,trivial⟩|some v=>exact fL h
def En(v:V S):p9 (low v)=Mm v:=by
 cases v with
 |ty t x=>cases t<;>rfl
 |_=>rfl
def sw{fr:bV S}:∀{l:List (Nat×Operand)}{us:List (Nat×V S)},iq fr l=some us->qD (bx fr) l=some (us.map λp=>(p.1,low p.2))
 |[],us,h=>by simp only[iq,bf]at h;subst h;rfl
 |(k,x)::l,us,h=>by
  simp only[iq]at h;split at h
  .rename_i t r h1 h2;simp only[bf]at h;subst h;simp only[qD,bU h1,sw h2,lZ]
  .cases h
def A6(hS:fy S){place:Nat->Option (Nat×TI)}:∀{ps:List (Nat×V S)}{cells r:List (V S)},Iw place cells ps=some r->∃p,Cl place (bh cells) (ps.map λp=>(p.1,low p.2))=some (p,bh r)∧p
 |[],cells,r,h=>by simp only[Iw,bf]at h;subst h;exact⟨True,rfl,trivial⟩
 |(k,v)::ps,cells,r,h=>by
  simp only[Iw]at h;split at h
  .cases h
  .rename_i off i hp;split at h
   .cases h
   .rename_i l hl;rcases af h with⟨hb,h⟩|⟨_,h⟩
    .simp only[eE]at hb;obtain⟨p,hc,MI⟩:=mI hS hl;obtain⟨q,hf,hq⟩:=A6 hS h;simp only[jz,jd,je]at hf;have hlen:cA (bh l)=cA l:=by rw[bH,eR,<-bH]
     have hlen':cA (bh cells)=cA cells:=by rw[bH,eR,<-bH]
     refine⟨p∧leaves (bh l)∧q,?_,MI,xW hb.2,hq⟩;simp only[lZ,Cl,hp,hc,hlen,hlen',hb.1,dM,hf,dX]
    .cases h
def Fi(hS:fy S){s:bq S}{e:Ty}{i:TI}(hi:i.agg=js e∧(js e=true->i.size=S.width e)):∀{ps:List (Nat×V S)}{es r:List (den S.A e)}{os:List Nat},mF s e es ps=some (r,os)->
  ∃p,nF (aF s) i (es.map (enc S e)) (ps.map λp=>(p.1,low p.2))=some (p,r.map (enc S e),os)∧p
 |[],es,r,os,h=>by simp only[mF,bf,bB]at h;obtain⟨rfl,rfl⟩:=h;exact⟨True,rfl,trivial⟩
 |(k,v)::ps,es,r,os,h=>by
  simp only[mF]at h;split at h
  .cases h
  .rename_i x Q6 hx;rcases af h with⟨hb,h⟩|⟨_,h⟩
   .split at h
    .rename_i r' SV hr;simp only[bf,bB]at h;obtain⟨rfl,rfl⟩:=h;obtain⟨p,hd,hp⟩:=oF hS s e v hx;obtain⟨q,hf,hq⟩:=Fi hS hi hr;rw[HP]at hf;have hb':Nat.blt k (cA (es.map (enc S e)))=true:=by rw[bH,Jo,<-bH];exact hb
     refine⟨p∧(bif i.agg then(enc S e x).isAgg i.size else(enc S e x).leaf)=true∧q,by simp only[lZ,nF,hd,hb',dM,hf,dX],hp,?_,hq⟩;rw[hi.1];cases e with|st n=>simp only[js,dM,enc,D.isAgg];have hsz:=hi.2 rfl;rw[hsz];simp only[Sg.width,bH,hS.cells,lR,eE];refine⟨beq_iff'.2 rfl,?_⟩;rw[gr];exact gO _ _ (hS.leaf n)|cR n=>exact uK _|_=>rfl
    .cases h
   .cases h
end
section
def uq(s:St):∀(l m:List T){p q:Prop}{ds es:List D}{os ps:List Nat},lY s l=some (p,ds,os)->lY s m=some (q,es,ps)->∃r,lY s (l++m)=some (r,ds++es,os++ps)∧(p->q->r)
 |[],m,p,q,ds,es,os,ps,h,h'=>by simp only[lY,bf,bB]at h;obtain⟨_,rfl,rfl⟩:=h;exact⟨q,h',λ_ hq=>hq⟩
 |t::l,m,p,q,ds,es,os,ps,h,h'=>by
  simp only[lY]at h;split at h
  .rename_i p1 d Q6 p2 ds2 SV h1 h2;simp only[bf,bB]at h;obtain⟨rfl,rfl,rfl⟩:=h;obtain⟨r,hr,AX⟩:=uq s l m h2 h';exact⟨p1∧r,by simp only[List.cons_append,lY,h1,hr,sn],λhp hq=>⟨hp.1,AX hp.2 hq⟩⟩
  .cases h
def J7(hS:fy S):∀(t:Ty)(h:lP S.A (S.mQ t)),(enc S t (uB t h)).cells=gw S (S.mQ t) h
 | .st n,h=>(hS.cells n (S.VV n h)).trans (nB _ (hS.uS n h))
 | .int _,_=>rfl
 | .bool,_=>rfl
 | .str,_=>rfl
 | .sl _,_=>rfl
 | .cR _,h=>by rw[show(enc S (.cR _) (uB _ h)).cells=[enc S (.cR _) (uB _ h)]from mB _];rfl
variable {i:TI}{s s':bq S}{a x v:V S}{c:Bool}{lo hi:Int}
def Od(hS:fy S)(h:DF i s a x=some (c,v,s'))(hc:c=true) :
  ∃p,storeT i (aF s) (low a) (low x)=some (p,low v,aF s')∧p:=by
 unfold DF at h;split at h
 .cases h
 .rename_i l hl;obtain⟨p,hcl,hp⟩:=mI hS hl;have hlen:cA (bh l)=cA l:=by rw[bH,eR,<-bH]
  split at h
  .rename_i o off;split at h
   .rename_i cs ho;rcases af h with⟨hb,h9⟩|⟨_,h9⟩
    .clear h;simp only[eE]at hb;simp only[bf,bB]at h9;obtain⟨_,rfl,rfl⟩:=h9;have hlen':cA (bh cs)=cA cs:=by rw[bH,eR,<-bH]
     have hb':(Nat.ble (aF s).fl o&&Nat.ble (Nat.add off (cA l)) (cA (bh cs)))=true:=by rw[hlen',eE];exact⟨hb.1,hb.2.1⟩
     refine⟨p∧leaves (bh l),?_,hp,xW hb.2.2⟩;simp only[storeT,hcl,low,aV,ho,dX,cQ,hb',dM,eZ,jz,jd,je,hlen];rfl
    .cases h9
   .cases h
  .rename_i o e k off;split at h
   .rename_i t _ _ _;split at h
    .rename_i h0 os hos;split at h
     .rename_i s1 fq;split at h
      .rename_i t2 es era ho;split at h
       .rename_i h2 SV hh2;rcases af h with⟨hb,h9⟩|⟨_,h9⟩
        .clear h;simp only[eE]at hb;obtain⟨n5,fM,Pa,Ir,hb5⟩:=hb;simp only[bf,bB]at h9;obtain⟨rfl,rfl,rfl⟩:=h9;obtain⟨q,hd,hq⟩:=qW hS s _ l hos;have hf:=de hS os fq;have hk:=rK hc;have hel:=Pn (enc S t2) es k (S.zero t2) hk;obtain⟨q2,hd2,_⟩:=qW hS s _ _ hh2;have hle:off+cA l<=S.width t2:=fQ Pa;have h1l:1<=cA l:=fQ Ir;generalize hds:gw S (List.take (cA l) (List.drop off (S.mQ t))) h0=ds at hd;have MN:ds.length=cA l:=by
          have:∀(s:St)(l:List T){p:Prop}{ds:List D}{os:List Nat},lY s l=some (p,ds,os)->ds.length=l.length:=by
           intro s l
           induction l with
           |nil=>intro p ds os h;simp only[lY,bf,bB]at h;obtain⟨_,rfl,_⟩:=h;rfl
           |cons t l ih=>
            intro p ds os h;simp only[lY]at h;split at h
            .rename_i h1 h2;simp only[bf,bB]at h;obtain⟨_,rfl,_⟩:=h;simp[ih h2]
            .cases h
          rw[this _ _ hd,eR,bH]
         have hnew:gw S (S.mQ t2) h2=(enc S t2 (aN es k (S.zero t2))).cells.take off++ds++(enc S t2 (aN es k (S.zero t2))).cells.drop (Nat.add off (cA l)):=by rw[jz,jz,jd,je,zC hS,<-List.map_take,<-List.map_drop]at hd2;obtain⟨r1,e1,_⟩:=vT (aF s) ((enc S t2 (aN es k (S.zero t2))).cells.take off);obtain⟨r2,e2,_⟩:=vT (aF s) ((enc S t2 (aN es k (S.zero t2))).cells.drop (Nat.add off (cA l)));obtain⟨r3,e3,_⟩:=uq _ _ _ e1 hd;obtain⟨r4,e4,_⟩:=uq _ _ _ e3 e2;rw[e4]at hd2;simp only[bf,bB]at hd2;exact hd2.2.1.symm
         have Wq:D.QA (enc S t2 (aN es k (S.zero t2))) off ds=enc S t2 (uB t2 h2):=by
          have WZ:=J7 hS t2 h2;rw[hnew]at WZ;cases t2 with
          |st n=>simp only[enc,D.cells]at WZ;simp only[enc,D.QA,MN];rw[WZ];rfl
          |cR n=>
           simp only[Sg.width]at hle;have hoff:off=0:=by omega
           have JU:cA l=1:=by omega
           rw[JU]at MN;obtain⟨d1,rfl⟩:=Md.1 MN;subst hoff;have hcx:∀y:S.A n,(enc S (.cR n) y).cells=[enc S (.cR n) y]:=λy=>mB _;rw[hcx,hcx]at WZ;simp only[List.take_zero,xN,JU,Nat.add_eq,ju,List.drop_succ_cons,List.drop_nil,lB,LU,and_true]at WZ;have hux:∀y:S.A n,D.QA (enc S (.cR n) y) 0 [d1]=d1:=λy=>by show D.QA (N3 (S.qe n y)) 0 [d1]=d1;cases S.qe n y<;>rfl
           rw[hux];exact WZ.symm
          |_=>
           simp only[Sg.width]at hle;have hoff:off=0:=by omega
           have JU:cA l=1:=by omega
           rw[JU]at MN;obtain⟨d1,rfl⟩:=Md.1 MN;subst hoff;simp only[enc,D.cells,List.take_zero,xN,JU,Nat.add_eq,ju,List.drop_succ_cons,List.drop_nil,lB,LU,and_true]at WZ;simp only[enc,D.QA,List.getD,fI,AG,Nat.lt_add_one,getElem?_pos,Vw,Jp,ju];exact WZ.symm
         have htk:(D.el (es.map (enc S t2)) k).QG (S.width t2) off (cA ds):=by
          rw[hel,bH,MN];cases t2 with
          |st n=>
           left
           simp only[enc,D.isAgg,Sg.width,bH,hS.cells,lR,eE];refine⟨beq_iff'.2 rfl,?_⟩;rw[gr];exact gO _ _ (hS.leaf n)
          |cR n=>simp only[Sg.width]at hle;exact .inr ⟨uK _,rfl,by omega,by omega⟩
          |_=>simp only[Sg.width]at hle;exact .inr ⟨rfl,rfl,by omega,by omega⟩
         have ael:Nat.ble (Nat.add off (cA ds)) (S.width t2)=true:=by rw[bH,MN];exact Pa
         have ad5:ds.all D.leaf=true:=by
          rw[gr];intro d hd';have:d∈gw S (S.mQ t2) h2:=by rw[hnew];simp[hd']
          cases t2 with|st n=>exact gO _ _ (hS.leaf n) d this|cR n=>simp only[Sg.mQ,gw,mq]at this;rw[this];exact uK _|_=>simp only[Sg.mQ,gw,mq]at this;rw[this];rfl
         have hby:((D.el (es.map (enc S t2)) k).QA off ds).qT=(D.el (es.map (enc S t2)) k).qT:=by rw[hel,Wq,Ba hS,Ba hS]
         have aoP:(Nat.ble (aF s1).fl o&&Nat.beq e era)=true:=by rw[eE];exact⟨n5,fM⟩
         refine⟨p∧q∧ds.all D.leaf=true∧D.GU (k:Int) (D.len (es.map (enc S t2)))∧(D.el (es.map (enc S t2)) k).QG (S.width t2) off (cA ds)∧Nat.ble (Nat.add off (cA ds)) (S.width t2)=true∧
          ((D.el (es.map (enc S t2)) k).QA off ds).qT=(D.el (es.map (enc S t2)) k).qT,?_,hp,hq,ad5,?_,htk,ael,hby⟩
         .simp only[storeT,hcl,low,hd,hf,aV,ho,dX,cQ,aoP,dM,eZ,hel,Wq,D.put,dQ,HP];rfl
         .simp only[D.GU,D.len,Jo];omega
        .cases h9
       .cases h
      .cases h
     .cases h
    .cases h
   .cases h
  .cases h
def Fs{len:Int}(h:eW lo hi len=true):D.cut lo hi len:=by simpa[eW,D.cut]using h
def nZ{α:Type}(f:α->D)(l:List α):D.len (l.map f)=aq l:=by simp[D.len,aq]
def QJ{α:Type}(f:α->D)(l:List α)(lo hi:Int):D.sub (l.map f) lo hi=(eo l lo hi).map f:=by simp[D.sub,eo,List.map_drop,List.map_take]
def rq(hS:fy S){e:Ty}(l:List (den S.A e)):D.rows (l.map (enc S e)) (S.width e):=by intro d hd;obtain⟨x,_,rfl⟩:=zg.1 hd;exact jU hS x
def r9(b:List UInt8):D.DL (bF b)=aq b:=by simp[D.DL,bF,aq,ByteArray.size]
def Of(b:List UInt8)(h:D.cut lo hi (aq b)):D.Zp (bF b) lo hi=bF (eo b lo hi):=by obtain⟨h1,h2,h3⟩:=h;unfold D.Zp bF eo;unfold aq at h3;apply ByteArray.ext;simp only[ByteArray.data_extract];apply Ea;simp[VD,List.drop_take]
def Og(hS:fy S){τ:Option Ty}(hi:∀u,τ=some u->xy S i u){l h m:Option (V S)}(he:uu i τ s x l h m=some (c,v,s'))(hc:c=true) :
  ∃p,oG i (aF s) (low x) (l.map low) (h.map low) (m.map low)=some (p,low v,aF s')∧p:=by
 unfold uu at he;split at he
 .rename_i lo hlo;obtain⟨p,kH,hp⟩:=pG (d:=0) hlo;have kH:vo D.zero (l.map low)=some (p,lo):=kH;obtain⟨dO,_,_⟩:=hi _ rfl;split at he
  .rename_i b _ hb;obtain⟨q,Tn,hq⟩:=ki hb;split at he
   .rename_i hi' hhi;obtain⟨r,KW,hr⟩:=pG hhi;simp only[bf,bB]at he;obtain⟨rfl,rfl,rfl⟩:=he;have Hf:=Fs hc;refine⟨p∧q∧r∧D.cut lo hi' (D.DL (bF b)),?_,hp,hq,hr,by rw[r9];exact Hf⟩;unfold oG;rw[dO,kH];simp only[Tn,Option.map_none,r9,KW,Of b Hf];rfl
   .cases he
  .cases he
 .rename_i e lo hlo;obtain⟨p,kH,hp⟩:=pG (d:=0) hlo;have kH:vo D.zero (l.map low)=some (p,lo):=kH;obtain⟨⟨z,dO,_⟩,_⟩:=hi _ rfl;split at he
  .rename_i es s1 _ tF hfz;obtain⟨q,Tn,hq⟩:=y6 tF;have hf:=de hS _ hfz;rw[<-En]at hf;split at he
   .rename_i _ hi' hhi;obtain⟨r,KW,hr⟩:=pG hhi;simp only[bf,bB]at he;obtain⟨rfl,rfl,rfl⟩:=he;have Hf:=Fs hc;refine⟨p∧q∧r∧D.rows (es.map (enc S e)) (S.width e)∧D.cut lo hi' (D.len (es.map (enc S e))),?_,hp,hq,hr,rq hS es,by rw[nZ];exact Hf⟩;unfold oG;rw[dO,kH];simp only[Tn,hf,nZ,KW,Option.map_none,QJ];rfl
   .rename_i hi' y hv hhi;obtain⟨r,KW,hr⟩:=pG hhi;simp only[dX]at KW;split at he
    .simp only[bf,bB]at he;obtain⟨rfl,rfl,rfl⟩:=he;simp only[eE,hU,qA]at hc;refine⟨p∧q∧r∧lo=D.zero∧hi'=D.zero,?_,hp,hq,hr,hc.1,hc.2⟩;unfold oG;rw[dO,kH];simp only[Tn,hf,nZ,KW,dX,low]
    .rename_i hno;split at he
     .rename_i mx hmx;obtain⟨t,ht1,ht⟩:=fL hmx;simp only[bf,bB]at he;obtain⟨rfl,rfl,rfl⟩:=he;simp only[eE,hU,qA]at hc;have Hf:=Fs hc.1;refine⟨p∧q∧r∧t∧D.rows (es.map (enc S e)) (S.width e)∧D.cut lo hi' (D.len (es.map (enc S e)))∧mx=hi',?_,hp,hq,hr,ht,rq hS es,by rw[nZ];exact Hf,hc.2⟩;unfold oG;rw[dO,kH];simp only[Tn,hf,nZ,KW,dX,QJ];have hnl:∀q,low y=.kn .i64 q->q≠0:=by
       intro q hq0 h0;subst h0;cases y with
       |ty t x=>cases t<;>simp[low,eB]at hq0
       |kn k n=>simp only[low,T.kn.injEq]at hq0;obtain⟨rfl,rfl⟩:=hq0;exact hno rfl
       |_=>simp[low]at hq0
      generalize low y=ly at ht1 hnl;split
      .exact absurd rfl (hnl 0 rfl)
      .rw[ht1];rfl
     .cases he
   .cases he
  .cases he
 .cases he
def FQ{g:Option Bool}{b:Bool}(h:XJ v=some (g,b)):∃p,FR (low v)=some (p,b)∧(orT g=true->p):=by
 unfold XJ at h;split at h
 .rename_i g' v';split at h
  .rename_i y hy;obtain⟨p,kH,hp⟩:=kY hy;simp only[bf,bB]at h;obtain⟨rfl,rfl⟩:=h;exact⟨g'=true∧p,by simp only[low,FR,kH],λhg=>⟨hg,hp⟩⟩
  .cases h
 .simp only[bf,bB]at h;obtain⟨rfl,rfl⟩:=h;exact⟨True,rfl,λ_=>trivial⟩
 .simp only[bf,bB]at h;obtain⟨rfl,rfl⟩:=h;exact⟨_,rfl,λ_=>rfl⟩
 .cases h
def SQ{c b:V S}{q:Bool}(h:VG c a b=some (q,v))(hq:q=true):∃p,HW (low c) (low a) (low b)=some (p,low v)∧p:=by
 unfold VG at h;split at h
 .rename_i u;split at h
  .rename_i p y h1;simp only[bf,bB]at h;obtain⟨rfl,rfl⟩:=h;obtain⟨r,e,k⟩:=FQ h1;refine⟨r,?_,k hq⟩;have e':FR (bif u then low a else low b)=some (r,y):=by cases u<;>exact e
   simp only[low,HW,e'];rfl
  .cases h
 rename_i hkb;split at h
 .rename_i t p x q' y h1 h2 h3;obtain⟨r1,e1,k1⟩:=kY h1;obtain⟨r2,e2,k2⟩:=FQ h2;obtain⟨r3,e3,k3⟩:=FQ h3;simp only[bf,bB]at h;obtain⟨rfl,rfl⟩:=h;refine⟨r1∧(t=true->r2)∧(t=false->r3),by
   have hlk:∀u,low c≠.kb u:=by
    intro u hu;cases c with
    |kb b=>exact hkb b rfl
    |ty t x=>cases t<;>cases hu
    |_=>cases hu
   unfold HW;split
   .rename_i hu;exact absurd hu (hlk _)
   .simp only[e1,e2,e3];rfl,k1,λht=>k2 ?_,λht=>k3 ?_⟩
  .rw[ht]at hq;exact hq
  .rw[ht]at hq;exact hq
 .cases h
end
section
variable {v x ix b a:V S}{r c:Bool}{i:TI}{s s':bq S}{k:Nat}{n m:Int}{op:BinOp}
def adn{o r:Nat}(h:low v=.sh o r):v=.sh o r:=by
 cases v with
 |ty t x=>cases t<;>simp[low,eB]at h
 |sh a b=>simpa[low]using h
 |_=>simp[low]at h
def ES(hS:fy S){τ:Option Ty}(hi:∀u,τ=some u->xy S i u)(he:jB i τ s x ix=some (c,v,s'))(hc:c=true) :
  s'=s∧∃p,kG i (aF s) (low x) (low ix)=some (p,low v,aF s')∧p:=by
 unfold jB at he;split at he
 .rename_i sz ag bt zz e n dO hn;obtain⟨p,kH,hp⟩:=fL hn;obtain⟨⟨z,uM,_⟩,_⟩:=hi _ rfl;split at he
  .rename_i o r;split at he
   .rename_i t l hl;rcases af he with⟨hb,he9⟩|⟨_,he9⟩
    .clear he;have:=fG hb;subst this;simp only[bf,bB]at he9;obtain⟨rfl,rfl,rfl⟩:=he9;have hin:=uI hc;have hbq:Nat.beq (S.width t) (S.width t)=true:=beq_iff'.2 rfl;refine⟨rfl,p∧D.GU n (D.len (l.map (enc S t))),?_,hp,by rw[nZ];exact hin⟩;unfold kG;rw[uM,kH];simp only[low,Ny hl,hbq,dM];rfl
    .cases he9
   .cases he
  .rename_i hno;split at he
   .rename_i l hl;simp only[bf,bB]at he;obtain⟨rfl,rfl,rfl⟩:=he;obtain⟨q,Tn,hq⟩:=y6 hl;have hin:=uI hc;have hk:(ah n)<l.length:=by unfold ah;omega
    have hel:=Pn (enc S e) l (ah n) (S.zero e) hk;refine⟨rfl,p∧q∧D.GU n (D.len (l.map (enc S e)))∧(D.el (l.map (enc S e)) (D.nat n)).wide (S.width e),?_,hp,hq,by rw[nZ];exact hin,?_⟩
    .unfold kG;rw[uM,kH];simp only;split
     .rename_i o r wG;exact absurd (adn wG) (hno o r)
     .rw[Tn];simp only[low];rw[show D.el (List.map (enc S e) l) (D.nat n)=_ from hel]
    .show (D.el (l.map (enc S e)) (ah n)).cells.length=_;rw[hel,jU hS]
   .cases he
 .cases he
def o6(he:o7 i s k x=some (c,v,s')):s'=s∧∃p,o8 i (aF s) k (low x)=some (p,low v,aF s')∧p:=by
 unfold o7 at he;unfold o8;split at he
 .rename_i fs dO;rw[dO];simp only;split at he
  .rename_i off size ag hf;rw[hf];rcases af he with⟨_,h⟩|⟨hb,h⟩
   .cases h
   .simp only[hb,gE];split at h;all_goals first
     |(cases h;done)
     |(
       simp only[bf,bB]at h;obtain⟨rfl,rfl,rfl⟩:=h;exact⟨rfl,True,rfl,trivial⟩)
  .cases he
 .cases he
def Pf(hS:fy S)(he:A7 i s k x=some (c,v,s')):s'=s∧∃p,E5 i (aF s) k (low x)=some (p,low v,aF s')∧p:=by
 unfold A7 at he;unfold E5;split at he
 .rename_i fs dO;rw[dO];simp only;split at he
  .rename_i off size ag cs hf hc;obtain⟨p,kH,hp⟩:=mI hS hc;rw[hf,kH];dsimp only at he ⊢;rcases af he with⟨hb,h⟩|⟨_,h⟩
   .simp only[eA,bB]at h;obtain⟨t,ht,_,rfl,rfl⟩:=h;have hpk:=ot ht;rw[jd,je]at hpk;have hb':(Nat.beq (cA (((bh cs).drop off).take size)) size&&!(Nat.beq size 0))=true:=by rw[<-je,<-jd,bH,eR,<-bH];exact hb
    exact⟨rfl,p,by rw[hb',dM,hpk];rfl,hp⟩
   .cases h
  .cases he
 .cases he
def SB{b:List UInt8}(h:av n b=true):D.sat (bF b) n=lH b n:=by
 have hn:=uI h;have hk:n.toNat<b.length:=by omega
 unfold D.sat lH;have h1:(bF b).get! n.toNat=b.getD n.toNat 0:=by unfold bF ByteArray.get!;simp[hk]
 rw[h1]
def ON(he:AU i s x ix=some (c,v,s'))(hc:c=true):s'=s∧∃p,ER i (aF s) (low x) (low ix)=some (p,low v,aF s')∧p:=by
 unfold AU at he;split at he
 .rename_i n b dO hn hb;obtain⟨p,kH,hp⟩:=fL hn;obtain⟨q,Tn,hq⟩:=ki hb;simp only[bf,bB]at he;obtain⟨rfl,rfl,rfl⟩:=he;refine⟨rfl,p∧q∧D.GU n (D.DL (bF b)),?_,hp,hq,by rw[r9];exact uI hc⟩;unfold ER;rw[dO,kH,Tn];simp only[low,eB,enc,SB hc]
 .cases he
def Sl(d:D):low (zeroV (S:=S) d)=oQ d:=by
 unfold zeroV;split
 .rfl
 .rfl
 .rename_i b;simp only[low,eB,enc,Nt];rfl
 .rfl
 .rename_i h1 h2 h3 h4;unfold oQ;split
  .rename_i b;exact absurd rfl (h1 b)
  .rename_i k n;exact absurd rfl (h2 k n)
  .exact absurd rfl h4
  .rfl
def mh:∀(l:List D),bh (l.map (zeroV (S:=S)))=l.map oQ
 |[]=>rfl
 |d::l=>by simp only[lZ,bh,Sl,mh l]
def PJ(hno:i.kd=.iface->False)(s:St)(t u:TypeId)(v:T) :
  qq i s t true (.cR u v)=(bif Nat.beq u t then some (True,.gq [v,.kb true],s)else(uy i.agg (i.zero.map oQ)).map λz=>(True,.gq [z,.kb false],s)):=by
 unfold qq;cases hk:i.kd<;>first|rfl|exact(hno hk).elim
def PK(hno:i.kd=.iface->False)(s:St)(t u:TypeId)(v:T) :
  qq i s t false (.cR u v)=(bif Nat.beq u t then some (True,v,s)else none):=by
 unfold qq;cases hk:i.kd<;>first|rfl|exact(hno hk).elim
def vz{t:TypeId}{ok:Bool}(he:Ds i s t ok x=some (c,v,s')):s'=s∧∃p,qq i (aF s) t ok (low x)=some (p,low v,aF s')∧p:=by
 unfold Ds at he;split at he
 .cases he
 .rename_i u w _ hno;rw[low,PJ hno];rcases af he with⟨hb,he⟩|⟨hb,he⟩
  .simp only[bf,bB]at he;obtain⟨rfl,rfl,rfl⟩:=he;exact⟨rfl,True,by rw[hb];rfl,trivial⟩
  .simp only[eA,bB]at he;obtain⟨z,hz,_,rfl,rfl⟩:=he;have hpk:=ot hz;rw[mh]at hpk;exact⟨rfl,True,by rw[hb,gE,hpk];rfl,trivial⟩
 .rename_i u w _ hno;rw[low,PK hno];rcases af he with⟨hb,he⟩|⟨_,he⟩
  .simp only[bf,bB]at he;obtain⟨rfl,rfl,rfl⟩:=he;exact⟨rfl,True,by rw[hb];rfl,trivial⟩
  .cases he
 .cases he
def Zj{op:UnOp}(he:unV i op x=some v):∃p d,unT i op (low x)=some (p,d)∧p∧low v=.sym d:=by
 unfold unV at he;split at he
 .rename_i dO;simp only[eA]at he;obtain⟨b,hb,rfl⟩:=he;obtain⟨p,kH,hp⟩:=kY hb;exact⟨p,_,by simp only[unT,dO,kH,dX];rfl,hp,rfl⟩
 .rename_i k dO;simp only[eA]at he;obtain⟨b,hb,rfl⟩:=he;obtain⟨p,kH,hp⟩:=fL hb;exact⟨p,_,by simp only[unT,dO,kH,dX];rfl,hp,rfl⟩
 .cases he
def Bh{j:TI}(he:RI i j s x=some (c,v,s')):s'=s∧∃p,IE i j (aF s) (low x)=some (p,low v,aF s')∧p:=by
 unfold RI at he;split at he
 .rename_i k l h1 h2;simp only[eA,bB]at he;obtain⟨n,hn,_,rfl,rfl⟩:=he;obtain⟨p,kH,hp⟩:=fL hn;exact⟨rfl,p,by simp only[IE,h1,h2,kH,dX];rfl,hp⟩
 .rename_i h1 h2;simp only[eA,bB]at he;obtain⟨n,hn,_,rfl,rfl⟩:=he;obtain⟨p,kH,hp⟩:=ki hn;exact⟨rfl,p,by simp only[IE,h1,h2,kH,dX],hp⟩
 .cases he
def sS(he:zR s k x=some (c,v,s')):s'=s∧∃p,o9 (aF s) k (low x)=some (p,low v,aF s')∧p:=by
 unfold zR at he;split at he
 .rename_i vs;simp only[eA,bB]at he;obtain⟨t,ht,_,rfl,rfl⟩:=he;rw[jx]at ht;exact⟨rfl,True,by simp only[low,o9,jx,gi,gQ,ht,dX],trivial⟩
 .cases he
def AD(a b:List UInt8):D.seq (bF a) (bF b)=gf a b:=by show(a.toArray==b.toArray)=(a==b);simp
def Cr{k:Lk}(h:Dq k a b=some r):∃p,pg k (low a) (low b)=some (p,r)∧p:=by
 unfold Dq at h;split at h
 .split at h
  .rename_i h1 h2;simp only[bf]at h;subst h;obtain⟨p,e1,hp⟩:=fL h1;obtain⟨q,e2,hq⟩:=fL h2;exact⟨p∧q,by simp only[pg,e1,e2],hp,hq⟩
  .cases h
 .split at h
  .rename_i h1 h2;simp only[bf]at h;subst h;obtain⟨p,e1,hp⟩:=kY h1;obtain⟨q,e2,hq⟩:=kY h2;exact⟨p∧q,by simp only[pg,e1,e2],hp,hq⟩
  .cases h
 .split at h
  .rename_i h1 h2;simp only[bf]at h;subst h;obtain⟨p,e1,hp⟩:=ki h1;obtain⟨q,e2,hq⟩:=ki h2;exact⟨p∧q,by simp only[pg,e1,e2,AD],hp,hq⟩
  .cases h
 .cases h
def xl:∀{ks:List Lk}{as bs:List (V S)}{r:Bool},jT ks as bs=some r->∃p,jG ks (bh as) (bh bs)=some (p,r)∧p
 |[],[],[],r,h=>by simp only[jT,bf]at h;subst h;exact⟨True,rfl,trivial⟩
 |k::ks,a::as,b::bs,r,h=>by
  simp only[jT]at h;split at h
  .rename_i x y h1 h2;simp only[bf]at h;subst h;obtain⟨p,e1,hp⟩:=Cr h1;obtain⟨q,e2,hq⟩:=xl h2;exact⟨p∧q,by simp only[bh,jG,e1,e2],hp,hq⟩
  .cases h
 |[],[],_::_,_,h=>by simp[jT]at h
 |[],_::_,_,_,h=>by simp[jT]at h
 |_::_,[],_,_,h=>by simp[jT]at h
 |_::_,_::_,[],_,h=>by simp[jT]at h
def M5(hS:fy S)(h:aaT i a b=some r):∃p,TN i (low a) (low b)=some (p,r)∧p:=by
 unfold aaT at h;unfold TN;rcases af h with⟨pP,h⟩|⟨pP,h⟩
 .rw[pP];simp only[dM];split at h
  .cases h
  .rename_i k ks as bs hks ha hb;obtain⟨p,e1,hp⟩:=mI hS ha;obtain⟨q,e2,hq⟩:=mI hS hb;obtain⟨t,e3,ht⟩:=xl h;exact⟨p∧q∧t,by simp only[hks,e1,e2,e3,dX],hp,hq,ht⟩
  .cases h
 .rw[pP];simp only[gE];split at h
  .rename_i k dO;rw[dO];exact Cr h
  .rename_i dO;rw[dO];unfold Xh at h;split at h
   .simp only[bf]at h;subst h;exact⟨True,rfl,trivial⟩
   .simp only[bf]at h;subst h;exact⟨True,rfl,trivial⟩
   .cases h
  .rename_i dO;rw[dO];unfold Xi at h;split at h
   .simp only[bf]at h;subst h;exact⟨True,rfl,trivial⟩
   .simp only[bf]at h;subst h;exact⟨True,rfl,trivial⟩
   .cases h
  .cases h
def XA{op:BinOp}{k:IntKind}{m n:Int}:(aa7 (S:=S) op k m n).map low=(Px op k m n).map .sym:=by unfold aa7 Px;cases op<;>rfl
def Xu{op:BinOp}{k:IntKind}{m n:Int}:(aa4 (S:=S) op k m n).map low=(Xv op k m n).map .sym:=by unfold aa4 Xv;cases op<;>rfl
def TG{a b:List UInt8}(h:aaQ a b=true):D.Zq (bF a) (bF b):=by simpa[aaQ,D.Zq,bF,ByteArray.size]using h
def TY(a b:List UInt8):D.U6 (bF a) (bF b)=bF (cM a b):=by unfold D.U6 cM bF;apply ByteArray.ext;simp
def XH(hS:fy S)(h:FH i op a b=some (c,v))(hc:c=true):∃p d,Kk i op (low a) (low b)=some (p,d)∧p∧low v=.sym d:=by
 have h0:=h;unfold FH at h;split at h
 .simp only[eA,bB]at h;obtain⟨r,hr,_,rfl⟩:=h;obtain⟨p,e,hp⟩:=M5 hS hr;exact⟨p,_,by simp only[Kk,e,dX];rfl,hp,rfl⟩
 .simp only[eA,bB]at h;obtain⟨r,hr,_,rfl⟩:=h;obtain⟨p,e,hp⟩:=M5 hS hr;exact⟨p,_,by simp only[Kk,e,dX];rfl,hp,rfl⟩
 .rename_i O1 O0;cases dO:i.kd with
  |leaf lk=>
   cases lk with
   |int k=>
    have hv:FH i op a b=(match gF k a,gF k b with
     |some m,some n=>match aa7 op k m n with
      |some d=>some (true,d)
      |none=>(aa4 op k m n).map λd=>(nzI n,d)
     |_,_=>none):=by
     clear h;unfold FH;cases op<;>first|exact(O1 rfl).elim|exact(O0 rfl).elim|(simp only[dO];done)|(simp only[dO];cases gF k a<;>cases gF k b<;>rfl)
    have ht:∀{p q:Prop}{m n:Int},tZ k (low a)=some (p,m)->tZ k (low b)=some (q,n)->Kk i op (low a) (low b)=(match Px op k m n with
     |some d=>some (p∧q,d)
     |none=>(Xv op k m n).map λd=>(p∧q∧D.nz n,d)):=by
     intro p q m n e1 e2;clear h hv;unfold Kk;cases op<;>first|exact(O1 rfl).elim|exact(O0 rfl).elim|(simp only[dO,e1,e2];rfl)
    rw[hv]at h0;split at h0
    .rename_i m n h1 h2;obtain⟨p,e1,hp⟩:=fL h1;obtain⟨q,e2,hq⟩:=fL h2;rw[ht e1 e2];have hcmp:=XA (S:=S) (op:=op) (k:=k) (m:=m) (n:=n);split at h0
     .rename_i d hd;rw[hd]at hcmp;simp only[dX]at hcmp;obtain⟨d',hd',hdd⟩:=eA.1 hcmp.symm;simp only[bf,bB]at h0;obtain⟨_,rfl⟩:=h0;exact⟨p∧q,d',by rw[hd'],⟨hp,hq⟩,hdd.symm⟩
     .rename_i hd;rw[hd]at hcmp;simp only[Option.map_none]at hcmp;have hnone:Px op k m n=none:=by simpa using hcmp.symm
      simp only[eA,bB]at h0;obtain⟨d,hdv,rfl,rfl⟩:=h0;have hdiv:=Xu (S:=S) (op:=op) (k:=k) (m:=m) (n:=n);rw[hdv]at hdiv;simp only[dX]at hdiv;obtain⟨d',hd',hdd⟩:=eA.1 hdiv.symm;refine⟨p∧q∧D.nz n,d',by rw[hnone,hd'];rfl,⟨hp,hq,?_⟩,hdd.symm⟩;simpa[nzI,D.nz]using hc
    .cases h0
   |str=>
    have hop:op=.add:=by clear h;unfold FH at h0;cases op<;>first|rfl|exact(O1 rfl).elim|exact(O0 rfl).elim|(simp only[dO]at h0;cases h0)
    clear h;subst hop;have hv:FH i .add a b=(match ur a,ur b with
     |some m,some n=>some (aaQ m n,.ty .str (cM m n))
     |_,_=>none):=by
     unfold FH;simp only[dO];cases ur a<;>cases ur b<;>rfl
    rw[hv]at h0;split at h0
    .rename_i m n h1 h2;obtain⟨p,e1,hp⟩:=ki h1;obtain⟨q,e2,hq⟩:=ki h2;simp only[bf,bB]at h0;obtain⟨rfl,rfl⟩:=h0;refine⟨p∧q∧D.Zq (bF m) (bF n),.lit (.string (D.U6 (bF m) (bF n))),?_,⟨hp,hq,TG hc⟩,by rw[TY];rfl⟩;unfold Kk;simp only[dO,e1,e2]
    .cases h0
   |bool=>
    clear h;unfold FH at h0;cases op<;>first|exact(O1 rfl).elim|exact(O0 rfl).elim|(simp only[dO]at h0;cases h0)
   |no=>
    clear h;unfold FH at h0;cases op<;>first|exact(O1 rfl).elim|exact(O0 rfl).elim|(simp only[dO]at h0;cases h0)
  |_=>
   clear h;unfold FH at h0;cases op<;>first|exact(O1 rfl).elim|exact(O0 rfl).elim|(simp only[dO]at h0;cases h0)
def Mr(hS:fy S){E:gA}(hE:PV S E){fr:bV S}{o:Op}(h:cn E fr s o=some (c,v,s'))(hc:c=true) :
  ∃p,ny E.E (bx fr) (aF s) o=some (p,low v,aF s')∧p:=by
 cases o with
 |move x=>simp only[cn,eA,bB]at h;obtain⟨t,ht,_,rfl,rfl⟩:=h;exact⟨True,by simp only[ny,bU ht,dX],trivial⟩
 |assign x=>simp only[cn,eA,bB]at h;obtain⟨t,ht,_,rfl,rfl⟩:=h;exact⟨True,by simp only[ny,bU ht,dX],trivial⟩
 |pick x y z=>
  simp only[cn]at h;split at h
  .rename_i a b d h1 h2 h3;simp only[eA,bB]at h;obtain⟨⟨q,t⟩,ht,rfl,rfl,rfl⟩:=h;obtain⟨p,e,hp⟩:=SQ ht hc;exact⟨p,by simp only[ny,bU h1,bU h2,bU h3,e,dX],hp⟩
  .cases h
 |alloc t=>
  simp only[cn]at h;split at h
  .rename_i i hi;rcases af h with⟨hb,h⟩|⟨_,h⟩
   .simp only[bf,bB]at h;obtain⟨_,rfl,rfl⟩:=h;refine⟨True,?_,trivial⟩;have hb':Nat.blt (aF s).aH bA=true:=hb;simp only[ny,hi,hb',dM,gu,cQ,mh];rfl
   .cases h
  .cases h
 |box t x=>
  simp only[cn]at h;split at h
  .rename_i i v' hi hv;rcases af h with⟨hb,h⟩|⟨_,h⟩
   .simp only[eA,bB]at h;obtain⟨cs,hcs,_,rfl,rfl⟩:=h;obtain⟨p,e,hp⟩:=mI hS hcs;have hb':Nat.blt (aF s).aH bA=true:=hb;refine⟨p,?_,hp⟩;simp only[ny,hi,bU hv,hb',dM,e,dX,gu,cQ];rfl
   .cases h
  .cases h
 |build t ps=>
  simp only[cn]at h;split at h
  .rename_i i ps' hi hps;split at h
   .rename_i fs dO;simp only[eA,bB]at h;obtain⟨cs,hcs,_,rfl,rfl⟩:=h;obtain⟨p,e,hp⟩:=A6 hS hcs;rw[mh]at e;refine⟨p,?_,hp⟩;simp only[ny,hi,sw hps,dO,low];exact nB (Option.map λq:Prop×List T=>(q.1,T.agg q.2,aF s)) e
   .cases h
  .cases h
 |buildSlice t n ps=>
  simp only[cn]at h;split at h
  .rename_i i e ps' hi As hps;split at h
   .rename_i sz ag bt zz dO;rcases af h with⟨hb,h⟩|⟨_,h⟩
    .split at h
     .rename_i es os hel;simp only[eA,bB]at h;obtain⟨s1,fq,_,rfl,rfl⟩:=h;obtain⟨⟨z,uM,hz⟩,_,_,hpos⟩:=hE.row _ _ _ hi As;rw[dO]at uM;obtain⟨rfl,rfl,rfl,rfl⟩:=Kd.slice.inj uM;have hf:=de hS os fq;have hzl:cA zz=S.width e:=by rw[bH];cases e with|st m=>simp only[js,dM,enc,D.agg.injEq]at hz;rw[hz];simp only[Sg.width,bH];rw[show S.cells m (S.zero (.st m))=_ from hS.cells m _,lR]|_=>simp only[js,gE]at hz;rw[hz];rfl
      have Ch:((js e||Nat.beq (S.width e) 1)&&(Nat.beq (cA zz) (S.width e)&&(!(Nat.beq (S.width e) 0)&&Nat.ble (Nat.mul n (S.width e)) 16777216)))=true:=by
       rw[hzl];simp only[eE,GL];refine⟨?_,beq_iff'.2 rfl,?_,hb⟩
       .cases e<;>rfl
       .cases hq:Nat.beq (S.width e) 0 with|false=>rfl|true=>have:=beq_iff'.1 hq;omega
      have anZ:List.replicate n (bif js e then D.agg zz else zz.getD 0 default)=(List.replicate n (S.zero e)).map (enc S e):=by
       rw[List.map_replicate]
       congr 1
       cases e with|st m=>exact hz|_=>simp only[js,gE]at hz ⊢;rw[hz];rfl
      obtain⟨p,e1,hp⟩:=Fi hS (i:={(default:TI)with size:=S.width e,agg:=js e}) ⟨rfl,λ_=>rfl⟩ hel;refine⟨p,?_,hp⟩;simp only[ny,hi,sw hps,dO,Ch,dM,anZ,e1,hf,dX,low]
     .cases h
    .cases h
   .cases h
  .cases h
 |load t x=>
  simp only[cn]at h;split at h
  .rename_i i a hi ha;obtain⟨rfl,p,e,hp⟩:=Ic hS (λu hu=>hE.row _ _ _ hi hu) h hc;exact⟨p,by simp only[ny,hi,bU ha,e],hp⟩
  .cases h
 |store t x y=>
  simp only[cn]at h;split at h
  .rename_i i a b hi ha hb;obtain⟨p,e,hp⟩:=Od hS h hc;exact⟨p,by simp only[ny,hi,bU ha,bU hb,e],hp⟩
  .cases h
 |nilCheck x=>
  simp only[cn]at h;split at h;all_goals first
   |(cases h;done)
   |(
     rename_i hx;simp only[bf,bB]at h;obtain⟨_,rfl,rfl⟩:=h;have:=bU hx;simp only[low]at this;exact⟨True,by simp only[ny,this,low],trivial⟩)
 |binOp op t x y u=>
  simp only[cn]at h;split at h
  .rename_i i a b hi ha hb;simp only[eA,bB]at h;obtain⟨⟨q,d⟩,hd,rfl,rfl,rfl⟩:=h;obtain⟨p,d',e,hp,hl⟩:=XH hS hd hc;exact⟨p,by simp only[ny,hi,bU ha,bU hb,e,dX,hl],hp⟩
  .cases h
 |unOp op t x=>
  simp only[cn]at h;split at h
  .rename_i i a hi ha;simp only[eA,bB]at h;obtain⟨d,hd,_,rfl,rfl⟩:=h;obtain⟨p,d',e,hp,hl⟩:=Zj hd;exact⟨p,by simp only[ny,hi,bU ha,e,dX,hl],hp⟩
  .cases h
 |convert t u x=>
  simp only[cn]at h;split at h
  .rename_i i j a hi hj ha;obtain⟨rfl,p,e,hp⟩:=Bh h;exact⟨p,by simp only[ny,hi,hj,bU ha,e],hp⟩
  .cases h
 |makeInterface t x=>
  simp only[cn]at h;split at h
  .rename_i i a hi ha;split at h
   .cases h
   .rename_i hk;simp only[bf,bB]at h;obtain⟨_,rfl,rfl⟩:=h;refine⟨True,?_,trivial⟩;simp only[ny,hi,bU ha,low]
  .cases h
 |makeFunc f a b=>
  simp only[cn]at h;split at h
  .rename_i x y hx hy;simp only[bf,bB]at h;obtain⟨_,rfl,rfl⟩:=h;exact⟨True,by simp only[ny,gM hx,gM hy,low],trivial⟩
  .cases h
 |extract x k=>
  simp only[cn]at h;split at h
  .rename_i a ha;obtain⟨rfl,p,e,hp⟩:=sS h;exact⟨p,by simp only[ny,bU ha,e],hp⟩
  .cases h
 |fieldAddr t x k=>
  simp only[cn]at h;split at h
  .rename_i i a hi ha;obtain⟨rfl,p,e,hp⟩:=o6 h;exact⟨p,by simp only[ny,hi,bU ha,e],hp⟩
  .cases h
 |field t x k=>
  simp only[cn]at h;split at h
  .rename_i i a hi ha;obtain⟨rfl,p,e,hp⟩:=Pf hS h;exact⟨p,by simp only[ny,hi,bU ha,e],hp⟩
  .cases h
 |indexAddr t x y=>
  simp only[cn]at h;split at h
  .rename_i i a b hi ha hb;obtain⟨rfl,p,e,hp⟩:=ES hS (λu hu=>hE.row _ _ _ hi hu) h hc;exact⟨p,by simp only[ny,hi,bU ha,bU hb,e],hp⟩
  .cases h
 |index t x y=>
  simp only[cn]at h;split at h
  .rename_i i a b hi ha hb;obtain⟨rfl,p,e,hp⟩:=ON h hc;exact⟨p,by simp only[ny,hi,bU ha,bU hb,e],hp⟩
  .cases h
 |slice t x lo hi mx=>
  simp only[cn]at h;split at h
  .rename_i i a l1 l2 l3 hi' ha h1 h2 h3;obtain⟨p,e,hp⟩:=Og hS (λu hu=>hE.row _ _ _ hi' hu) h hc;exact⟨p,by simp only[ny,hi',bU ha,Ep h1,Ep h2,Ep h3,e],hp⟩
  .cases h
 |typeAssert x t u ok=>
  simp only[cn]at h;split at h
  .rename_i i a hi ha;obtain⟨rfl,p,e,hp⟩:=vz h;exact⟨p,by simp only[ny,hi,bU ha,e],hp⟩
  .cases h
 |_=>simp[cn]at h
end
section
variable {e:Ty}{v:V S}{s s':bq S}{c:Bool}
def Dr(hS:fy S)(l:List (den S.A e)):D.UI (l.map (enc S e)) (vn S e):=by intro d hd;obtain⟨x,_,rfl⟩:=zg.1 hd;exact⟨Ba hS x,M6 hS x⟩
def tc{α:Type}(f:α->D)(l m:List α):D.app (l.map f) (m.map f)=(cM l m).map f:=by simp[D.app,cM]
def Dp{α:Type}(f:α->D){l m:List α}(h:cY l m=true):D.RD (l.map f) (m.map f):=by simpa[cY,D.RD]using h
def ZS{n:Nat}{es:List D}(h:low v=.jI n es):∃t l,v=.jI n t l:=by
 cases v with
 |ty t x=>cases t<;>simp[low,eB]at h
 |jI a t l=>simp only[low,T.jI.injEq]at h;obtain⟨rfl,_⟩:=h;exact⟨t,l,rfl⟩
 |_=>simp[low]at h
def Nz(hS:fy S){i:TI}(hi:xy S i (.sl e)){x y:V S}(h:Du i e s x y=some (c,v,s'))(hc:c=true) :
  ∃p,qt i (aF s) (low x) (low y)=some (p,low v,aF s')∧p:=by
 unfold Du at h;rcases af h with⟨_,h9⟩|⟨hnb,h9⟩
 .cases h9
 clear h;have aol:(!(Nat.blt (aF s).aH bA))=false:=hnb;unfold qt;rw[aol,gE];obtain⟨⟨z,dO,hz⟩,_⟩:=hi;split at h9
 .rename_i sz ag bt zz new uM hnew;rw[dO]at uM;obtain⟨rfl,rfl,rfl,rfl⟩:=Kd.slice.inj uM;obtain⟨q,Tn,hq⟩:=y6 hnew;rw[dO,Tn];simp only;have hrn:=rq hS new;have hbn:=Dr hS new;split at h9
  .simp only[bf,bB]at h9;obtain⟨_,rfl,rfl⟩:=h9;refine⟨q∧D.rows (new.map (enc S e)) (S.width e)∧D.UI (new.map (enc S e)) (vn S e),?_,hq,hrn,hbn⟩;simp only[low,gu,cQ];rfl
  .rename_i n t es;split at h9
   .rename_i es2 hcast;obtain⟨rfl,hh⟩:=eX hcast;cases hh;have hra:=rq hS (cM es new);have hba:=Dr hS (cM es new);rw[<-tc]at hra hba;split at h9
    .rename_i k t2 l2;simp only[bf,bB]at h9;obtain⟨rfl,rfl,rfl⟩:=h9;refine⟨q∧D.rows (D.app (es.map (enc S t)) (new.map (enc S t))) (S.width t)∧D.UI (D.app (es.map (enc S t)) (new.map (enc S t))) (vn S t)∧D.RD (es.map (enc S t)) (new.map (enc S t)),?_,hq,hra,hba,Dp _ hc⟩;simp only[low,gu,cQ,<-tc];rfl
    .rename_i hno;simp only[bf,bB]at h9;obtain⟨rfl,rfl,rfl⟩:=h9;refine⟨q∧D.rows (D.app (es.map (enc S t)) (new.map (enc S t))) (S.width t)∧D.UI (D.app (es.map (enc S t)) (new.map (enc S t))) (vn S t)∧D.RD (es.map (enc S t)) (new.map (enc S t)),?_,hq,hra,hba,Dp _ hc⟩;simp only[low];split
     .rename_i k es' hl;obtain⟨t3,l3,rfl⟩:=ZS hl;exact absurd rfl (hno _ _ _)
     .simp only[eB,enc,<-tc]
   .cases h9
  .rename_i o r;split at h9
   .rename_i t es era ho;split at h9
    .rename_i es2 hcast;obtain⟨rfl,hh⟩:=eX hcast;cases hh;rcases af h9 with⟨hb,h8⟩|⟨_,h8⟩
     .clear h9;simp only[eE]at hb;simp only[bf,bB]at h8;obtain⟨rfl,rfl,rfl⟩:=h8;have hba:=Dr hS (cM es new);rw[<-tc]at hba;refine⟨q∧D.rows (new.map (enc S t)) (S.width t)∧D.UI (D.app (es.map (enc S t)) (new.map (enc S t))) (vn S t)∧D.RD (es.map (enc S t)) (new.map (enc S t)),?_,hq,hrn,hba,Dp _ hc⟩;have hb':(Nat.ble (aF s).fl o&&Nat.beq r era&&Nat.beq (S.width t) (S.width t)&&!(p9 (low y)).contains o)=true:=by rw[En];simp only[eE];exact⟨⟨⟨hb.1,hb.2.1⟩,beq_iff'.2 rfl⟩,hb.2.2⟩
      simp only[low,aV,ho,dX,cQ,hb',dM,eZ,<-tc]
     .cases h8
    .cases h9
   .cases h9
  .cases h9
 .cases h9
def xq(hS:fy S){E:gA}(hE:PV S E){b:Builtin}{ats:Array TypeId}{args:List (V S)}(h:e8 E s b ats args=some (c,v,s'))(hc:c=true) :
  ∃p,eY E.E (aF s) b ats (bh args)=some (p,low v,aF s')∧p:=by
 unfold e8 at h;split at h
 .rename_i x;split at h
  .rename_i i hi As;obtain⟨k,ke,hk2⟩:=sq.1 hi;obtain⟨k',WI,ad6⟩:=sq.1 As;rw[ke]at WI;cases WI;obtain⟨dO,_⟩:=hE.row _ _ _ hk2 ad6;split at h
   .rename_i b' _ hb;obtain⟨p,e,hp⟩:=ki hb;simp only[bf,bB]at h;obtain⟨_,rfl,rfl⟩:=h;exact⟨p,by simp only[bh,eY,e,hi,dO,r9];rfl,hp⟩
   .cases h
  .rename_i i e hi As;obtain⟨k,ke,hk2⟩:=sq.1 hi;obtain⟨k',WI,ad6⟩:=sq.1 As;rw[ke]at WI;cases WI;obtain⟨⟨z,dO,_⟩,_⟩:=hE.row _ _ _ hk2 ad6;split at h
   .simp only[eA,bB]at h;obtain⟨es,WV,_,rfl,rfl⟩:=h;obtain⟨p,e1,hp⟩:=y6 WV;refine⟨p,?_,hp⟩;simp only[bh,eY];cases hst:xH (low x)with|none=>simp only[hi,dO,e1,dX,nZ];rfl|some q=>simp only[hi,dO,e1,dX,nZ];rfl
   .cases h
  .cases h
 .rename_i x y;split at h
  .rename_i t u ht;split at h
   .rename_i i j e hi hj As;split at h
    .rename_i Cg;obtain⟨p,e1,hp⟩:=Nz hS (hE.row _ _ _ hi As) h hc;exact⟨p,by simp only[bh,eY,ht,hi,hj,Cg,e1],hp⟩
    .cases h
   .cases h
  .cases h
 .cases h
end
section
section
variable {g g':Gh}{w w':World}
structure oh(g g':Gh):Prop where
 cj:∀o b,g.cj o=some b->g'.cj o=some b
 arr:∀o e x,g.arr o e=some x->g'.arr o e=some x
 bz:∀b,g.bz b->g'.bz b
def oh.refl(g:Gh):oh g g:=⟨λ_ _ h=>h,λ_ _ _ h=>h,λ_ h=>h⟩
def oh.trans{g g' xh:Gh}(h:oh g g')(k:oh g' xh):oh g xh:=⟨λo b e=>k.cj o b (h.cj o b e),λo e x k'=>k.arr o e x (h.arr o e x k'),λb e=>k.bz b (h.bz b e)⟩
variable {I:Nat->Prop}{v:Value}{t:T}{s s':St}{o b e:Nat}{x:fB}{os:List Nat}
def dZ.le{I':Nat->Prop}(hI:∀b,I b->I' b){d:D}(h:dZ I w d v):dZ I' w d v:=h.mono (λ_ _=>rfl) hI
def aJ.le(h:oh g g'){t:T}{v:Value}(ht:aJ g w t v):aJ g' w t v:=by
 induction ht with|sym d v hd=>exact .sym d v (hd.le h.bz)|kb b=>exact .kb b|kn k n=>exact .kn k n|ptr o off b hb=>exact .ptr o off b (h.cj o b hb)|mV d off ad val jt hc hd=>exact .mV d off ad val (h.bz _ jt) hc (λj c hj=>(hd j c hj).le h.bz)|kL o e i off len cap sz ad hx=>exact .kL o e i off len cap sz ad (h.arr _ _ _ hx)|sh o e len cap sz a hx=>exact .sh o e len cap sz a (h.arr _ _ _ hx)|emp a=>exact .emp a|jI n es a hn hd=>exact .jI n es a hn (hd.le h.bz)|fn f fs cs va vc hl hm _ _ ih Tj=>exact .fn f fs cs va vc hl hm ih Tj|cR t x v _ ih=>exact .cR t x v ih|agg cs vs hl _ ih=>exact .agg cs vs hl ih|gq cs vs hl _ ih=>exact .gq cs vs hl ih|gd c t v _ ih=>exact .gd c t v ih|mp o b hb=>exact .mp o b (h.cj o b hb)|rZ o b hb=>exact .rZ o b (h.cj o b hb)|rY o b hb=>exact .rY o b (h.cj o b hb)|ub e b h=>exact .ub e b h|qF o m r i len cap sz a hx=>exact .qF o m r i len cap sz a (h.arr _ _ _ hx)|n9 j d c a hj hd=>exact .n9 j d c a hj (hd.le h.bz)
def vN.le{s s':St}{o b:Nat}(h:vN g s w o b)(hle:oh g g')(hi:g'.bz=g.bz)(hs:s'.ob.get o=s.ob.get o):vN g' s' w o b:=by refine⟨by rw[hi];exact h.1,h.2.1,λob cB=>?_⟩;rw[hs]at cB;obtain⟨x,h1,h2⟩:=h.2.2 ob cB;exact⟨x,h1,h2.imp (λ_ _ h=>h.le hle)⟩
def Aq.le(h:Aq g s w o e x)(hi:g'.bz=g.bz)(hs:s'.ob.get o=s.ob.get o)(hle:∀k j y,g.arr k j=some y->g'.arr k j=some y)(ha:∀e',g'.arr o e'=g.arr o e'):Aq g' s' w o e x:=by refine⟨h.1,λob cB=>?_⟩;rw[hs]at cB;exact(h.2 ob cB).tr (λh=>h.j5 hi) hle (funext ha)
def bg.XN(hs:bg g s w)(hn:s.aH<bA){sz:Nat}{es:List D}
  (hx:∀b,x.at b->b<w.heap.size∧∀o,¬bK g o b) (hok:vR g w false sz es x) (hxs:x.sz=sz) :
  bg (g.era s.aH 0 x) (ec s (.arr sz es 0)).2 w∧oh g (g.era s.aH 0 x)∧(∀k b,bK (g.era s.aH 0 x) k b->bK g k b∨(k=s.aH∧x.at b)):=by
 have hnone:=hs.ak s.aH (bT _);have eP:∀k j y,g.arr k j=some y->(g.era s.aH 0 x).arr k j=some y:=λk j y h=>by
  rw[Gh.ct]
  .exact h
  .rintro ⟨rfl,_⟩
   rw[hnone.2]at h;cases h
 have hle:oh g (g.era s.aH 0 x):=⟨λ_ _ h=>h,eP,λ_ h=>h⟩;have hown:∀k b,bK (g.era s.aH 0 x) k b->bK g k b∨(k=s.aH∧x.at b):=by
  rintro k b ⟨h1,h2|⟨j,y,ad,h2,h3,h4,h5⟩⟩
  .exact .inl ⟨h1,.inl h2⟩
  .by_cases JV:k=s.aH∧j=0
   .obtain ⟨rfl,rfl⟩:=JV;rw[Gh.fC]at h2;simp only[bf]at h2;subst h2;exact .inr ⟨rfl,⟨ad,h3,h4,h5⟩⟩
   .rw[Gh.ct _ _ _ _ _ _ JV]at h2;exact .inl ⟨h1,.inr ⟨j,y,ad,h2,h3,h4,h5⟩⟩
 refine⟨⟨by simp only[ec];omega,λk hk=>?_,λk b hb=>?_,λk j y hy=>?_,λb hb=>hs.bz b hb,λk k' b h h'=>?_⟩,hle,hown⟩
 .simp only[ec]at hk;refine⟨(hs.ak k (by omega)).1,λj=>?_⟩;rw[Gh.ct _ _ _ _ _ _ (by omega)];exact(hs.ak k (by omega)).2 j
 .have hb':g.cj k=some b:=hb;have gx:k≠s.aH:=λh=>by rw[h,hnone.1]at hb';cases hb'
  exact(hs.box k b hb').le hle rfl (by simp only[ec];rw[Tr.aT _ _ _ _ hn,bw gx])
 .by_cases JV:k=s.aH∧j=0
  .obtain ⟨rfl,rfl⟩:=JV;rw[Gh.fC]at hy;simp only[bf]at hy;subst hy;refine⟨λad ha hc=>(hx _ ⟨ad,ha,rfl,hc⟩).1,λob ei=>.inl ⟨false,es,0,?_,bT _,λe' h=>?_,λ_=>hxs▸(hok.j5 rfl)⟩⟩
   .simp only[ec]at ei;rw[Tr.aT _ _ _ _ hn,bL rfl]at ei;rw[<-eI ei];simp only[fD,hxs];rfl
   .rw[Gh.ct _ _ _ _ _ _ (by omega)];exact hnone.2 e'
  .rw[Gh.ct _ _ _ _ _ _ JV]at hy;have gx:k≠s.aH:=λh=>by rw[h,hnone.2]at hy;cases hy
   exact(hs.arr k j y hy).le rfl (by simp only[ec];rw[Tr.aT _ _ _ _ hn,bw gx]) eP (λe'=>Gh.ct _ _ _ _ _ _ (λh=>gx h.1))
 .rcases hown k b h with h1|⟨h1,h3⟩<;>rcases hown k' b h' with h2|⟨h2,h4⟩
  .exact hs.mj k k' b h1 h2
  .exact absurd h1 ((hx b h4).2 k)
  .exact absurd h2 ((hx b h3).2 k')
  .rw[h1,h2]
def bg.sJ(hs:bg g s w)(ho:g.cj o=some b){ob:Ob}{x:Obj}(hh:w.heap[b]?=some x)(hr:gU g w ob x)(eP:∀e,g.arr o e=none):bg g {s with ob:=s.ob.set aI o ob} w:=by
 have hlt:=hs.lt ho;have hnb:=hs.aH;have cJ:∀k,(Tr.set aI s.ob o ob).get k=if k=o then some ob else s.ob.get k:=λk=>Tr.aT _ _ _ _ (by omega)
 refine⟨hs.aH,hs.ak,λk c hc=>?_,λk e x hx=>?_,hs.bz,hs.mj⟩
 .have gS:=hs.box k c hc;refine⟨gS.1,gS.2.1,λUx cB=>?_⟩;rw[cJ]at cB;by_cases gx:k=o
  .subst gx;rw[bL rfl]at cB;have:c=b:=by rw[ho]at hc;exact(eI hc).symm
   subst this;obtain rfl:=eI cB;exact⟨_,hh,hr⟩
  .rw[bw gx]at cB;exact gS.2.2 Ux cB
 .have hok:=hs.arr k e x hx;have gx:k≠o:=λh=>by subst h;rw[eP]at hx;cases hx
  refine⟨hok.1,λUx cB=>?_⟩;rw[cJ,bw gx]at cB;exact hok.2 Ux cB
def bg.step(hs:bg g s w){X:Nat->Prop}(hI:∀b,g.bz b->I b)(hIn:∀b,I b->g.bz b∨w.heap.size<=b∨X b)(hIs:∀b,I b->b<w'.heap.size)(hsize:w.heap.size<=w'.heap.size)
  (jY:∀b,b<w.heap.size->¬X b->w'.heap[b]?=w.heap[b]?) (hX:∀o b,X b->bK g o b->s.ob.get o=none∧¬I b) (hXi:∀b,X b->¬g.bz b) :
  bg {g with bz:=I} s w':=by
 have hown:∀k b,bK ({g with bz:=I}:Gh) k b->bK g k b:=λk b h=>⟨λhi=>h.1 (hI b hi),h.2⟩;have hk:tQ g.bz w w':=λb hb=>jY b (hs.bz b hb) (λhx=>hXi b hx hb);have hkeep:∀{t:T}{v:Value},aJ g w t v->aJ ({g with bz:=I}:Gh) w' t v:=by
  intro t v ht
  induction ht with|sym d v hd=>exact .sym d v (hd.mono hk hI)|kb b=>exact .kb b|kn k n=>exact .kn k n|ptr o off b hb=>exact .ptr o off b hb|mV d off ad val jt hc hd=>exact .mV d off ad val (hI _ jt) (λj c hj=>by rw[hk.cell (by rw[kZ];exact jt)];exact hc j c hj) (λj c hj=>(hd j c hj).mono hk hI)|kL o e i off len cap sz ad hx=>exact .kL o e i off len cap sz ad hx|sh o e len cap sz a hx=>exact .sh o e len cap sz a hx|emp a=>exact .emp a|jI n es a hn hd=>exact .jI n es a hn (hd.mono hk hI)|fn f fs cs va vc hl hm _ _ ih Tj=>exact .fn f fs cs va vc hl hm ih Tj|cR t x v _ ih=>exact .cR t x v ih|agg cs vs hl _ ih=>exact .agg cs vs hl ih|gq cs vs hl _ ih=>exact .gq cs vs hl ih|gd c t v _ ih=>exact .gd c t v ih|mp o b hb=>exact .mp o b hb|rZ o b hb=>exact .rZ o b hb|rY o b hb=>exact .rY o b hb|ub e b h=>exact .ub e b h|qF o m r i len cap sz a hx=>exact .qF o m r i len cap sz a hx|n9 j d c a hj hd=>exact .n9 j d c a hj (hd.mono hk hI)
 have hnew:∀o b,bK g o b->¬I b:=λo b hO hi=>by
  rcases hIn b hi with h|h|h
  .exact hO.1 h
  .have:=(hs.rB hO).1;omega
  .exact (hX o b h hO).2 hi
 refine⟨hs.aH,hs.ak,λk c hc=>?_,λk e x hx=>?_,hIs,λk k' b h h'=>hs.mj k k' b (hown k b h) (hown k' b h')⟩
 .have gS:=hs.box k c hc;have hO:bK g k c:=⟨gS.1,.inl hc⟩;refine⟨hnew k c hO,dy gS.2.1 hsize,λob cB=>?_⟩;obtain⟨x,h2,h3⟩:=gS.2.2 ob cB;have OZ:¬X c:=λhx=>by rw[(hX k c hx hO).1]at cB;cases cB
  exact⟨x,by rw[jY c gS.2.1 OZ];exact h2,h3.imp (λ_ _ h=>hkeep h)⟩
 .have hok:=hs.arr k e x hx;refine⟨λad ha hc=>dy (hok.1 ad ha hc) hsize,λob cB=>?_⟩;refine(hok.2 ob cB).tr (λ{fz sz es}hA=>?_) (λ_ _ _ h=>h) rfl;refine⟨hA.len,hA.cap,hA.rows,hA.pos,hA.Ze,hA.emp,λhc=>?_⟩;obtain⟨b,vs,ty,k1,k2,k3,k4,k5⟩:=hA.mem hc;have hb:b<w.heap.size:=hok.1 _ k1 hc;by_cases jt:g.bz b
  .refine ⟨b,vs,ty,k1,⟨λ_=>hI b jt,λ_=>k2.2 jt⟩,by rw[jY b hb (λhx=>hXi b hx jt)];exact k3,k4,λi d j c hd hj=>?_⟩;obtain⟨v,hv,hr⟩:=k5 i d j c hd hj;exact⟨v,hv,hr.mono hk hI⟩
  .have hO:bK g k b:=⟨jt,.inr ⟨e,x,_,hx,k1,rfl,hc⟩⟩;have OZ:¬X b:=λIk=>by rw[(hX k b Ik hO).1]at cB;cases cB
   refine⟨b,vs,ty,k1,⟨λhf=>absurd (k2.1 hf) jt,λhi=>absurd hi (hnew k b hO)⟩,by rw[jY b hb OZ];exact k3,k4,λi d j c hd hj=>?_⟩;obtain⟨v,hv,hr⟩:=k5 i d j c hd hj;exact⟨v,hv,hr.mono hk hI⟩
def Gh.drop(g:Gh)(os:List Nat):Gh:={g with arr:=λo e=>if o∈os then none else g.arr o e}
def Gh.Fl(h:(g.drop os).arr o e=some x):o∉os∧g.arr o e=some x:=by
 simp only[Gh.drop]at h;split at h
 .cases h
 .exact ⟨by assumption,h⟩
def Gh.yp{k:Nat}(h:bK (g.drop os) k b):bK g k b:=by
 obtain⟨h1,h2|⟨e,x,ad,h2,h3⟩⟩:=h
 .exact ⟨h1,.inl h2⟩
 .exact ⟨h1,.inr ⟨e,x,ad,(Gh.Fl h2).2,h3⟩⟩
mutual
def dD(os:List Nat):T->Bool
 | .ptr o _=>os.contains o
 | .kL o _ _ _=>os.contains o
 | .sh o _=>os.contains o
 | .mp o=>os.contains o
 | .rZ o=>os.contains o
 | .rY o=>os.contains o
 | .fn _ a b=>iO os a||iO os b
 | .cR _ v=>dD os v
 | .agg cs=>iO os cs
 | .gq cs=>iO os cs
 | .gd _ v=>dD os v
 | .qF o m _ _=>os.contains o||os.contains m
 |_=>false
def iO(os:List Nat):List T->Bool
 |[]=>false
 |v::l=>dD os v||iO os l
end
def oT{os:List Nat}:∀{l:List T},iO os l=false->∀t∈l,dD os t=false
 |[],_,t,ht=>by cases ht
 |a::l,h,t,ht=>by
  simp only[iO,wA]at h;rcases fc.1 ht with rfl|ht
  .exact h.1
  .exact oT h.2 t ht
def aJ.drop{os:List Nat}{t:T}{v:Value}(h:aJ g w t v)(hm:dD os t=false):aJ (g.drop os) w t v:=by
 induction h with
 |sym d v hd=>exact .sym d v hd
 |kb b=>exact .kb b
 |kn k n=>exact .kn k n
 |ptr o off b h=>exact .ptr o off b h
 |mV d off ad val hi hc hd=>exact .mV d off ad val hi hc hd
 |kL o e i off len cap sz ad h=>simp only[dD,zi,LL]at hm;exact .kL o e i off len cap sz ad (by simp only[Gh.drop,bw hm];exact h)
 |sh o e len cap sz a h=>simp only[dD,zi,LL]at hm;exact .sh o e len cap sz a (by simp only[Gh.drop,bw hm];exact h)
 |emp a=>exact .emp a
 |jI k es a hn hd=>exact .jI k es a hn hd
 |fn f fs cs va vc hl hm' _ _ ih Tj=>simp only[dD,wA]at hm;exact .fn f fs cs va vc hl hm' (λj t v h1 h2=>ih j t v h1 h2 (oT hm.1 t (gW h1))) (λj t v h1 h2=>Tj j t v h1 h2 (oT hm.2 t (gW h1)))
 |cR t x v _ ih=>exact .cR t x v (ih hm)
 |agg cs vs hl _ ih=>exact .agg cs vs hl (λj t v h1 h2=>ih j t v h1 h2 (oT hm t (gW h1)))
 |gq cs vs hl _ ih=>exact .gq cs vs hl (λj t v h1 h2=>ih j t v h1 h2 (oT hm t (gW h1)))
 |gd c t v _ ih=>exact .gd c t v (λhc=>ih hc hm)
 |mp o b h=>exact .mp o b h
 |rZ o b h=>exact .rZ o b h
 |rY o b h=>exact .rY o b h
 |ub e b h=>exact .ub e b h
 |qF o m r i len cap sz a h=>simp only[dD,wA,zi,LL]at hm;exact .qF o m r i len cap sz a (by simp only[Gh.drop,bw hm.2];exact h)
 |n9 j d c a hj hd=>exact .n9 j d c a hj hd
def X3(os:List Nat)(ob Ar:Ob):Prop:=qu (dD os) ob Ar
def bg.drop{s s2:St}(hs:bg g s w){os:List Nat}(hn:s2.aH=s.aH)(cB:∀o Ar,s2.ob.get o=some Ar->∃ob,s.ob.get o=some ob∧X3 os ob Ar):bg (g.drop os) s2 w:=by
 refine⟨hn▸hs.aH,λo ho=>⟨(hs.ak o (hn▸ho)).1,λe=>?_⟩,λo b hb=>?_,λo e x hx=>?_,hs.bz,λo o' b h h'=>hs.mj o o' b (Gh.yp h) (Gh.yp h')⟩
 .simp only[Gh.drop];split
  .rfl
  .exact (hs.ak o (hn▸ho)).2 e
 .obtain ⟨h1,h2,h3⟩:=hs.box o b hb;refine⟨h1,h2,λAr ei=>?_⟩;obtain⟨ob,k1,k2⟩:=cB o Ar ei;obtain⟨x,h4,h5⟩:=h3 ob k1;exact⟨x,h4,h5.left (λt v ht hm=>ht.drop hm) k2⟩
 .obtain ⟨ho,hx'⟩:=Gh.Fl hx;obtain⟨h1,h2⟩:=hs.arr o e x hx';refine⟨h1,λAr ei=>?_⟩;obtain⟨ob,k1,k2⟩:=cB o Ar ei;refine(h2 ob k1).left k2 (λh=>h.j5 rfl) (λm j y hm h=>?_) (funext λe'=>by simp only[Gh.drop,bw ho]);simp only[dD,zi,LL]at hm;simp only[Gh.drop,bw hm];exact h
end
end
section
def ghI(I:Nat->Prop):Gh:=⟨λ_=>none,λ_ _=>none,I⟩
def YT(I:Nat->Prop)(w:World)(sz:Nat)(es:List D)(x:fB):Prop:=vR (ghI I) w false sz es x∧x.sz=sz
def afr(S:Sg)(I:Nat->Prop)(w:World)(n j:Nat)(t:Ty)(l:List (S.A n))(a:fB)(rl:List fB):Prop:=
 ∃hl:List Value,hl.length=l.length∧YT I w (S.width (.st n)) (lits j (l.map (enc S (.st n))) hl) a∧rl.length=l.length∧
  (∀(i:Nat)(y:fB),rl[i]?=some y->hl[i]?=some (.slice y.a y.len y.cap))∧(∀(i:Nat)(y:fB)(x:S.A n),rl[i]?=some y->l[i]?=some x->YT I w (S.width t) ((Hg n j t x).map (enc S t)) y)∧CR S n j t=true
inductive jl(S:Sg)(I:Nat->Prop)(w:World):(cs:List Ck)->gp S.A cs->List Value->List fB->Prop where
 |nil:jl S I w [] () [] []
 |dat {t:Ty} {cs:List Ck} {x:den S.A t} {h:gp S.A cs} {v:Value} {vs:List Value} {al:List fB} (hd:dZ I w (enc S t x) v) (hr:jl S I w cs h vs al):jl S I w (.dat t::cs) (x,h) (v::vs) al
 |own {e:Ty} {cs:List Ck} {l:List (den S.A e)} {h:gp S.A cs} {a:fB} {vs:List Value} {al:List fB} (ho:YT I w (S.width e) (l.map (enc S e)) a) (hr:jl S I w cs h vs al) :
   jl S I w (.own e::cs) (l,h) (.slice a.a a.len a.cap::vs) (a::al)
 |jy {n j:Nat} {t:Ty} {cs:List Ck} {l:List (S.A n)} {h:gp S.A cs} {a:fB} {rl:List fB} {vs:List Value} {al:List fB} (ho:afr S I w n j t l a rl) (hr:jl S I w cs h vs al) :
   jl S I w (.jy n j t::cs) (l,h) (.slice a.a a.len a.cap::vs) (a::(rl++al))
 |nl {e:Ty} {cs:List Ck} {h:gp S.A cs} {a:Option Addr} {vs:List Value} {al:List fB} (hr:jl S I w cs h vs al):jl S I w (.nil e::cs) ([],h) (.slice a 0 0::vs) al
 |ptr {t:Ty} {cs:List Ck} {x:den S.A t} {h:gp S.A cs} {ad:Addr} {val:Nat->Value} {vs:List Value} {al:List fB} (hi:I ad.block) (hc:∀j c,(enc S t x).cells[j]?=some c->w.cell? (ad.add j)=some (val j))
   (hd:∀j c,(enc S t x).cells[j]?=some c->dZ I w c (val j)) (hr:jl S I w cs h vs al):jl S I w (.ptr t::cs) (x,h) (.pointer (some (ad.add 0))::vs) al
inductive AL(g:Gh):List fB->List Nat->Prop where
 |nil:AL g [] []
 |emp {a:fB} {al:List fB} {ow:List Nat} (h:a.cap=0) (hr:AL g al ow):AL g (a::al) ow
 |own {a:fB} {al:List fB} {o e:Nat} {ow:List Nat} (h:g.arr o e=some a) (hr:AL g al ow):AL g (a::al) (o::ow)
 |rows {rl al:List fB} {m:Nat} {ow:List Nat} (h:∀y∈rl,∃e,g.arr m e=some y) (hap:rl.Pairwise λx y=>∀b,x.at b->¬y.at b) (hr:AL g al ow):AL g (rl++al) (m::ow)
variable {g:Gh}{al mX:List fB}{ow fz:List Nat}{s:bq S}{w:World}{I:Nat->Prop}{a:fB}{b n j o:Nat}{t τ:Ty}{cs:List Ck}{vs:List Value}{c:Ck}{h:Obj}{v:Value}{ob:wP S}{k:Bk}{nx nb:Option Nat}
def AL.append{Uw:List Nat}(h:AL g al ow)(h':AL g mX Uw):AL g (al++mX) (ow++Uw):=by
 induction h with|nil=>exact h'|emp h _ ih=>exact .emp h ih|own h _ ih=>exact .own h ih|rows h hap _ ih=>rw[sn];exact .rows h hap ih
def vQ(al:List fB):Prop:=al.Pairwise λx y=>∀b,x.at b->¬y.at b
def AL.owned(h:AL g al ow)(hi:∀a∈al,∀b,a.at b->¬g.bz b):∀a∈al,∀b,a.at b->∃o∈ow,bK g o b:=by
 induction h with
 |nil=>intro a ha;cases ha
 |emp h _ ih=>
  intro a ha b hb;rcases fc.1 ha with rfl|ha
  .exact absurd h hb.choose_spec.2.2
  .exact ih (λa ha=>hi a (gL _ ha)) a ha b hb
 |own h _ ih=>
  intro a ha b hb;rcases fc.1 ha with rfl|ha
  .obtain ⟨ad,h1,h2,h3⟩:=hb;exact⟨_,eC,hi _ eC b ⟨ad,h1,h2,h3⟩,.inr ⟨_,_,ad,h,h1,h2,h3⟩⟩
  .obtain ⟨o,ho,hO⟩:=ih (λa ha=>hi a (gL _ ha)) a ha b hb;exact⟨o,gL _ ho,hO⟩
 |rows h _ _ ih=>
  intro a ha b hb;rcases eg.1 ha with ha|ha
  .obtain ⟨e,he⟩:=h a ha;obtain⟨ad,h1,h2,h3⟩:=hb;exact⟨_,eC,hi _ (eJ _ ha) b ⟨ad,h1,h2,h3⟩,.inr ⟨_,_,ad,he,h1,h2,h3⟩⟩
  .obtain ⟨o,ho,hO⟩:=ih (λa ha=>hi a (iW _ ha)) a ha b hb;exact⟨o,gL _ ho,hO⟩
def AL.apart{s:St}(hs:bg g s w)(h:AL g al ow)(hn:ow.Nodup)(hi:∀a∈al,∀b,a.at b->¬g.bz b):vQ al:=by
 induction h with
 |nil=>exact .nil
 |emp h hr ih=>refine .cons (λa ha b hb=>absurd h hb.choose_spec.2.2) (ih hn (λa ha=>hi a (gL _ ha)))
 |own h hr ih=>rw[List.nodup_cons]at hn;refine .cons (λa ha b hb hb'=>?_) (ih hn.2 (λa ha=>hi a (gL _ ha)));obtain⟨o',ho',yh⟩:=hr.owned (λa ha=>hi a (gL _ ha)) a ha b hb';obtain⟨ad,h1,h2,h3⟩:=hb;have hO:bK g _ b:=⟨yh.1,.inr ⟨_,_,ad,h,h1,h2,h3⟩⟩;have:=hs.mj _ _ b hO yh;subst this;exact hn.1 ho'
 |rows h hap hr ih=>rw[List.nodup_cons]at hn;refine so.2 ⟨hap,ih hn.2 (λa ha=>hi a (iW _ ha)),λy hy a ha b hb hb'=>?_⟩;obtain⟨e,he⟩:=h y hy;obtain⟨o',ho',yh⟩:=hr.owned (λa ha=>hi a (iW _ ha)) a ha b hb';obtain⟨ad,h1,h2,h3⟩:=hb;have hO:bK g _ b:=⟨yh.1,.inr ⟨_,_,ad,he,h1,h2,h3⟩⟩;have:=hs.mj _ _ b hO yh;subst this;exact hn.1 ho'
def mA:∀{l:List Nat},sC l=true->l.Nodup
 |[],_=>.nil
 |a::l,h=>by simp only[sC,eE,GL,zi,LL]at h;exact List.nodup_cons.2 ⟨h.1,mA h.2⟩
def yD{l m:List Nat}(h:Br l m=true):∀o∈l,o∉m:=by intro o ho;simp only[Br,gr,GL,zi,LL]at h;exact h o ho
def YT.at_{I:Nat->Prop}{w:World}{sz:Nat}{es:List D}{a:fB}(h:YT I w sz es a){b:Nat}(hb:a.at b):¬I b∧b<w.heap.size:=by obtain⟨h1,vs,ty,_,h3⟩:=h.1.at_ hb;exact⟨λhi=>Bool.noConfusion (h1.2 hi),(Ju.1 h3).1⟩
def afr.at_{I:Nat->Prop}{w:World}{n j:Nat}{t:Ty}{l:List (S.A n)}{a:fB}{rl:List fB}(h:afr S I w n j t l a rl):∀y∈a::rl,∀b,y.at b->¬I b∧b<w.heap.size:=by
 obtain⟨hl,_,h2,h3,_,h5,_⟩:=h;intro y hy b hb;rcases fc.1 hy with rfl|hy
 .exact h2.at_ hb
 .obtain ⟨i,hi⟩:=SK hy;have:i<l.length:=by rw[<-h3];exact aD hi
  exact(h5 i y _ hi (gm this)).at_ hb
def jl.at_{I:Nat->Prop}{w:World}{cs:List Ck}{x:gp S.A cs}{vs:List Value}{al:List fB}(h:jl S I w cs x vs al):∀a∈al,∀b,a.at b->¬I b∧b<w.heap.size:=by
 induction h with
 |nil=>intro a ha;cases ha
 |dat _ _ ih=>exact ih
 |own ho _ ih=>
  intro a ha b hb;rcases fc.1 ha with rfl|ha
  .exact ho.at_ hb
  .exact ih a ha b hb
 |jy ho _ ih=>
  intro a ha b hb;rw[<-List.cons_append]at ha;rcases eg.1 ha with ha|ha
  .exact ho.at_ a ha b hb
  .exact ih a ha b hb
 |nl _ ih=>exact ih
 |ptr _ _ _ _ ih=>exact ih
def jl.iM{x:gp S.A cs}(h:jl S I w cs x vs al):∀a∈al,∀b,a.at b->¬I b:=λa ha b hb=>(h.at_ a ha b hb).1
def jl.lt{x:gp S.A cs}(h:jl S I w cs x vs al):∀a∈al,∀b,a.at b->b<w.heap.size:=λa ha b hb=>(h.at_ a ha b hb).2
def jl.append{x:den S.A c.ty}{h:gp S.A cs}(h1:jl S I w [c] (x,()) [v] al)(h2:jl S I w cs h vs mX) :
  jl S I w (c::cs) (x,h) (v::vs) (al++mX):=by
 cases h1 with
 |dat hd hr=>cases hr;exact .dat hd h2
 |own ho hr=>cases hr;exact .own ho h2
 |jy ho hr=>cases hr;rw[lB,List.cons_append];exact .jy ho h2
 |nl hr=>cases hr;exact .nl h2
 |ptr hi hc hd hr=>cases hr;exact .ptr hi hc hd h2
def oE{x:den S.A t}(h:dZ g.bz w (enc S t x) v):aJ g w (eB S t x) v:=by
 cases t with
 |st n=>
  cases h with|agg cs vs hl hf hr=>refine .agg _ vs (by simpa using hl) λj t v h1 h2=>?_;rw[gQ,eA]at h1;obtain⟨d,hd,rfl⟩:=h1;exact .sym _ _ (hr j d v hd h2)
 |_=>exact .sym _ _ h
def Tr.dh{α:Type}:∀(n:Nat)(t:Tr α)(k j:Nat)(x:α),j≠k->(Tr.set n t k x).get j=t.get j
 |0,_,_,_,_,_=>rfl
 |n+1,t,0,j,x,h=>by
  cases j with
  |zero=>exact absurd rfl h
  |succ j=>
   cases t with|nil=>rw[Tr.y8,Tr.cP,Tr.get_nil,Tr.get_nil];split<;>rfl|node v l r=>rw[Tr.wT,Tr.cP,Tr.cP]
 |n+1,t,k+1,j,x,h=>by
  cases t with
  |nil=>
   rw[Tr.nQ];cases j with
   |zero=>split<;>rw[Tr.fN,Tr.get_nil]
   |succ j=>
    by_cases hk2:k%2=0
    .rw[bL hk2,Tr.cP,Tr.get_nil,Tr.get_nil];by_cases hj2:j%2=0
     .rw[bL hj2,Tr.dh n _ _ _ _ (by omega),Tr.get_nil]
     .rw[bw hj2]
    .rw[bw hk2,Tr.cP,Tr.get_nil,Tr.get_nil];by_cases hj2:j%2=0
     .rw[bL hj2]
     .rw[bw hj2,Tr.dh n _ _ _ _ (by omega),Tr.get_nil]
  |node v l r=>
   rw[Tr.mO];cases j with
   |zero=>split<;>rw[Tr.fN,Tr.fN]
   |succ j=>
    by_cases hk2:k%2=0
    .rw[bL hk2,Tr.cP,Tr.cP];by_cases hj2:j%2=0
     .rw[bL hj2,bL hj2,Tr.dh n _ _ _ _ (by omega)]
     .rw[bw hj2,bw hj2]
    .rw[bw hk2,Tr.cP,Tr.cP];by_cases hj2:j%2=0
     .rw[bL hj2,bL hj2]
     .rw[bw hj2,bw hj2,Tr.dh n _ _ _ _ (by omega)]
def PL:wP S->Bool
 | .arr ..|.kE ..|.rws ..=>true
 |_=>false
def s8(h:PL ob=true):(cQ ob).oY=true:=by cases ob<;>first|rfl|cases h
def EE{nj:Nat}:∀{es:List D}{dL:List (List D)}{hl:List Value},es.length<=dL.length->lits nj (iZ nj es dL) hl=lits nj es hl
 |[],dL,hl,_=>by simp[iZ,lits]
 |d::es,[],hl,h=>by simp at h
 |d::es,rs::dL,[],_=>by simp[iZ,lits]
 |d::es,rs::dL,v::hl,h=>by have:=EE (nj:=nj) (es:=es) (dL:=dL) (hl:=hl) (by simpa using h);simp only[lits,iZ]at this;simp only[lits,iZ,List.zipWith_cons_cons,this,iQ,zP,D.cells,List.set_set]
def Io:∀{ts:List Ty}{h:lP S.A ts}{j:Nat}{t:Ty}{y:den S.A t},nth ts j=some t->cJ ts (ya ts h j t y) j t=y
 |[],_,_,_,_,h=>by simp[nth]at h
 | τ::ts,h,0,t,y,e=>by simp only[nth,bf]at e;subst e;simp only[cJ,ya,u6]
 | τ::ts,h,j+1,t,y,e=>by simp only[nth]at e;simp only[cJ,ya,Io e]
def TC(hS:fy S)(hc:CR S n j t=true)(x:S.A n)(y:List (den S.A t)):Hg n j t (SA n j t x y)=y:=by rw[Hg,SA,hS.uS,Io (Fx hc)]
def Cb(hS:fy S)(hs:bg g (aF s) w){v:V S}{val:Value}{x:den S.A c.ty}(h:l6 s c v=some (x,fz,ow))(hv:aJ g w (low v) val) :
  (∀o∈fz,Live g (aF s) o)∧(∀o∈ow,s.fl<=o∧s.lo<=o∧o<s.aH∧∃ob,s.ob.get o=some ob∧PL ob=true)∧∀(g1:Gh)(s1:St)(jZ:List Nat),bg g1 s1 w->Ext s.fl g w g1 w->jM (aF s) s1 jZ->(∀o∈fz,o∈jZ)->(∀o∈ow,s1.ob.get o=(aF s).ob.get o)->
   ∃al,jl S g1.bz w [c] (x,()) [val] al∧AL g1 al ow:=by
 cases c with
 |dat t=>
  simp only[l6]at h;split at h
  .rename_i y os hy;simp only[bf,bB]at h;obtain⟨rfl,rfl,rfl⟩:=h;obtain⟨p,hd,hp⟩:=oF hS s t v hy;obtain⟨h1,h2⟩:=kQ hs (low v) hd hp hv;refine⟨h1,λo ho=>(by cases ho),λg1 s1 jZ fq he hf hsub _=>⟨[],.dat ?_ .nil,.nil⟩⟩;exact h2 g1 s1 fq he (hf.sub hsub)
  .cases h
 |nil e=>
  cases v with
  |emp=>
   simp only[l6,bf,bB]at h;obtain⟨rfl,rfl,rfl⟩:=h;cases hv with|emp a=>exact⟨λo ho=>(by cases ho),λo ho=>(by cases ho),λg1 s1 jZ fq he hf hsub _=>⟨[],.nl .nil,.nil⟩⟩
  |_=>simp[l6]at h
 |ptr t=>simp[l6]at h
 |own e=>
  cases v with
  |emp=>
   simp only[l6]at h;rcases af h with⟨hb,h⟩|⟨_,h⟩
   .simp only[bf,bB]at h;obtain⟨rfl,rfl,rfl⟩:=h;have hpos:1<=S.width e:=fQ hb;cases hv with
    |emp a=>
    refine⟨λo ho=>(by cases ho),λo ho=>(by cases ho),λg1 s1 jZ fq he hf hsub _=>⟨[⟨a,0,0,S.width e⟩],?_,.emp rfl .nil⟩⟩;refine jl.own (a:=⟨a,0,0,S.width e⟩) ⟨⟨rfl,bT _,by simp,by omega,by simp,λ_=>rfl,λh=>absurd rfl h⟩,rfl⟩ .nil
   .cases h
  |sh o r=>
   simp only[l6]at h;split at h
   .rename_i t l era ho;rcases af h with⟨hb,h9⟩|⟨_,h9⟩
    .clear h;split at h9
     .rename_i l' hl;obtain⟨rfl,hh⟩:=eX hl;cases hh;simp only[eE]at hb;have Tm:=beq_iff'.1 hb.1;subst Tm;simp only[bf,bB]at h9;obtain⟨rfl,rfl,rfl⟩:=h9;cases hv with
      |sh _ _ len cap sz a hx=>
      have Ts:=hs.lt' hx;refine⟨λo ho=>(by cases ho),λk hk=>?_,λg1 s1 jZ fq he hf hsub hsame=>?_⟩
      .rw[mq]at hk;subst hk;exact⟨fQ hb.2.1,fQ hb.2.2,Ts,_,ho,rfl⟩
      .have hx1:=he.arr _ _ _ hx;have Au:s1.ob.get o=some (fD false (S.width t) (l.map (enc S t)) r):=by rw[hsame o (by simp),aV,ho];rfl
       obtain⟨hok,hsz⟩:=fq.nG Au hx1;exact⟨[_],jl.own ⟨hok.j5 rfl,hsz⟩ .nil,.own hx1 .nil⟩
     .cases h9
    .cases h9
   .cases h
  |_=>simp[l6]at h
 |jy n j t=>
  cases v with
  |emp=>
   simp only[l6]at h;rcases af h with⟨hb,h⟩|⟨_,h⟩
   .simp only[bf,bB]at h;obtain⟨rfl,rfl,rfl⟩:=h;simp only[eE]at hb;have hpos:1<=S.width (.st n):=fQ hb.1;cases hv with
    |emp a=>
    refine⟨λo ho=>(by cases ho),λo ho=>(by cases ho),λg1 s1 jZ fq he hf hsub _=>⟨[⟨a,0,0,S.width (.st n)⟩],?_,.emp rfl .nil⟩⟩;exact jl.jy (a:=⟨a,0,0,S.width (.st n)⟩) (rl:=[]) ⟨[],rfl,⟨⟨rfl,bT _,by simp[lits],by omega,by simp[lits],λ_=>rfl,λh=>absurd rfl h⟩,rfl⟩,rfl,by simp,by simp,hb.2.1⟩ .nil
   .cases h
  |sh o r=>
   simp only[l6]at h;split at h;rotate_left
   .cases h
   rename_i n' j' l era m dg ho;split at h;rotate_left
   .cases h
   rename_i t' dL hrw;rcases af h with⟨hb,h9⟩|⟨_,h9⟩;rotate_left
   .cases h9
   clear h;simp only[eE]at hb;obtain⟨b1,b2,b3,b4,b5,b6,b7,b8,b9⟩:=hb;have Tm:=beq_iff'.1 b1;subst Tm;have hjj:=beq_iff'.1 b2;subst hjj;have htt:=fG b9;subst htt;split at h9;rotate_left
   .cases h9
   rename_i l' hl;obtain⟨e1,hh⟩:=eX hl;cases e1;cases hh;simp only[bf,bB]at h9;obtain⟨rfl,rfl,rfl⟩:=h9;have aoo:m<s.aH:=fQ b7;cases hv with
   |sh _ _ len cap sz a hx=>
   have Ts:=hs.lt' hx;obtain⟨szm,hm⟩:=oq (za hrw);obtain⟨obm,aoa,ahU⟩:∃ob,s.ob.get m=some ob∧PL ob=true:=by
    cases hq:s.ob.get m with
    |none=>rw[aV,hq]at hm;cases hm
    |some ob=>
     rw[aV,hq]at hm;cases ob<;>first|exact⟨_,rfl,rfl⟩|cases hm
   refine⟨λo ho=>(by cases ho),λk hk=>?_,λg1 s1 jZ fq he hf hsub hsame=>?_⟩
   .simp only[fc,List.not_mem_nil,or_false]at hk;rcases hk with rfl|rfl
    .exact ⟨fQ b3,fQ b4,Ts,_,ho,rfl⟩
    .exact ⟨fQ b5,fQ b6,aoo,obm,aoa,ahU⟩
   .have hx1:=he.arr _ _ _ hx;have Au:s1.ob.get o=some (.kE j (S.width (.st n)) (l.map (enc S (.st n))) r m dg none):=by rw[hsame o (by simp),aV,ho];rfl
    have WD:s1.ob.get m=some (.rws szm (dL.map (·.map (enc S t'))) dg):=by rw[hsame m (by simp),hm]
    have aam:szm=S.width t':=by
     have h1:=hrw;unfold Lv at h1;split at h1
     .rename_i t0 ak2 r0 hq;rcases af h1 with⟨_,h1⟩|⟨_,h1⟩
      .cases h1;rw[aV,hq]at hm;cases hm;rfl
      .cases h1
     .cases h1
    obtain⟨q1,q2,q3,q4⟩:=fq.AO Au hx1;obtain⟨hl0,q5,q6,q7⟩:=q4 rfl;simp only[Jo]at q5;have hrow:∀i,i<l.length->∃y rs,g1.arr m (rc dg i)=some y∧hl0[i]?=some (.slice y.a y.len y.cap)∧dL[i]?=some rs∧vR g1 w false (S.width t') (rs.map (enc S t')) y∧y.sz=S.width t':=by intro i hi;obtain⟨y,hy,hv⟩:=q7.2 i _ (gm (by omega)) (by simp);obtain⟨k1,rs,k2,k3⟩:=(fq.oJ WD hy).2.2 i rfl;rw[gQ,eA]at k2;obtain⟨rs0,k4,rfl⟩:=k2;exact⟨y,rs0,hy,by rw[<-hv];exact gm _,k4,aam▸k3,aam▸k1⟩
    have hex:∀i:Nat,∃y:fB,i<l.length->∃rs,g1.arr m (rc dg i)=some y∧hl0[i]?=some (.slice y.a y.len y.cap)∧dL[i]?=some rs∧vR g1 w false (S.width t') (rs.map (enc S t')) y∧y.sz=S.width t':=λi=>by
     by_cases hi:i<l.length
     .obtain ⟨y,rs,h⟩:=hrow i hi;exact⟨y,λ_=>⟨rs,h⟩⟩
     .exact ⟨⟨none,0,0,0⟩,λh=>absurd h hi⟩
    obtain⟨ys,hys⟩:=SL hex;have cJ:∀(i:Nat)(y:fB),((List.range l.length).map ys)[i]?=some y->i<l.length∧y=ys i:=λi y h=>by rw[gQ,eA]at h;obtain⟨k,hk,rfl⟩:=h;obtain⟨rfl,hlt⟩:=oM hk;exact⟨hlt,rfl⟩
    have hrl:l.length<=dL.length:=by
     rcases zm dL.length l.length with h|h
     .obtain ⟨_,rs,_,_,k,_⟩:=hrow dL.length h;have:=aD k;omega
     .exact h
    have hlen:(ja n j t' l dL).length=l.length:=by simp[ja];omega
    refine⟨_,jl.jy (a:=⟨a,len,cap,sz⟩) (rl:=(List.range l.length).map ys) ⟨hl0,by rw[hlen];exact q5,⟨?_,q1⟩,by rw[hlen];simp,λi y hi=>?_,λi y x hi hx=>?_,b8⟩ .nil,?_⟩
    .rw[zN hS b8,EE (by simpa using hrl)];exact q6.j5 rfl
    .obtain ⟨h1,rfl⟩:=cJ i y hi;obtain⟨_,_,h2,_⟩:=hys i h1;exact h2
    .obtain ⟨h1,rfl⟩:=cJ i y hi;obtain⟨rs,_,_,h3,h4,h5⟩:=hys i h1;have Ik:x=SA n j t' (l[i]) rs:=by simp only[ja,Js,h3,gm h1,bf]at hx;exact hx.symm
     rw[Ik,TC hS b8];exact⟨h4.j5 rfl,h5⟩
    .refine .own hx1 ?_;refine .rows (λy hy=>?_) ?_ .nil
     .obtain ⟨i,hi⟩:=SK hy;obtain⟨h1,rfl⟩:=cJ i y hi;obtain⟨_,h2,_⟩:=hys i h1;exact⟨_,h2⟩
     .refine Q2.2 λi1 i2 l1 l2 hlt b n5 fM=>?_;obtain⟨h1,e1⟩:=cJ i1 _ (gm l1);obtain⟨h2,e2⟩:=cJ i2 _ (gm l2);rw[e1]at n5;rw[e2]at fM;obtain⟨_,k1,_⟩:=hys i1 h1;obtain⟨_,k2,_⟩:=hys i2 h2;exact(fq.oJ WD k1).2.1 i1 i2 _ _ (by omega) k1 k2 b n5 fM
  |_=>simp[l6]at h
def gn(hS:fy S){g:Gh}{w:World}{s:bq S}(hs:bg g (aF s) w):∀{cs:List Ck}{l:List (V S)}{vals:List Value}{x:gp S.A cs}{fz ow:List Nat},gI s cs l=some (x,fz,ow)->PW (aJ g w) (bh l) vals->
  (∀o∈fz,Live g (aF s) o)∧(∀o∈ow,s.fl<=o∧s.lo<=o∧o<s.aH∧∃ob,s.ob.get o=some ob∧PL ob=true)∧∀(g1:Gh)(s1:St)(jZ:List Nat),bg g1 s1 w->Ext s.fl g w g1 w->jM (aF s) s1 jZ->(∀o∈fz,o∈jZ)->(∀o∈ow,s1.ob.get o=(aF s).ob.get o)->
   ∃al,jl S g1.bz w cs x vals al∧AL g1 al ow
 |[],[],vals,x,fz,ow,h,hv=>by simp only[gI,bf,bB]at h;obtain⟨_,rfl,rfl⟩:=h;have:vals=[]:=AJ (by have:=hv.1;simpa[bh]using this.symm);subst this;exact⟨λo ho=>(by cases ho),λo ho=>(by cases ho),λ_ _ _ _ _ _ _ _=>⟨[],.nil,.nil⟩⟩
 |c::cs,v::l,vals,x,fz,ow,h,hv=>by
  simp only[gI]at h;split at h
  .rename_i x1 a1 b1 h1 a2 b2 e1 e2;simp only[bf,bB]at h;obtain⟨rfl,rfl,rfl⟩:=h
   match vals,hv with
   |val::vals,hv=>have Dm:aJ g w (low v) val:=hv.2 0 _ _ rfl rfl;have OQ:PW (aJ g w) (bh l) vals:=⟨by have:=hv.1;simpa[bh]using this,λj a b k1 k2=>hv.2 (j+1) a b (by simpa[bh]using k1) (by simpa using k2)⟩;obtain⟨p1,p2,p3⟩:=Cb hS hs e1 Dm;obtain⟨q1,q2,q3⟩:=gn hS hs e2 OQ;refine⟨λo ho=>(eg.1 ho).elim (p1 o) (q1 o),λo ho=>(eg.1 ho).elim (p2 o) (q2 o),λg1 s1 jZ fq he hf hsub hsame=>?_⟩;obtain⟨vC,k1,k2⟩:=p3 g1 s1 jZ fq he hf (λo ho=>hsub o (eJ _ ho)) (λo ho=>hsame o (eJ _ ho));obtain⟨wk,k3,k4⟩:=q3 g1 s1 jZ fq he hf (λo ho=>hsub o (iW _ ho)) (λo ho=>hsame o (iW _ ho));exact⟨_,k1.append k3,k2.append k4⟩
   |[],hv=>exact absurd hv.1 (by simp[bh])
  .cases h
 |[],_::_,_,_,_,_,h,_=>by simp[gI]at h
 |_::_,[],_,_,_,_,h,_=>by simp[gI]at h
structure Uf(g:Gh)(s:bq S)(w:World)(al:List fB)(g':Gh)(s':bq S):Prop where
 rel:bg g' (aF s') w
 le:oh g g'
 bz:g'.bz=g.bz
 own:∀k b,bK g' k b->bK g k b∨(s.aH<=k∧∃a∈al,a.at b)
 fl:s'.fl=s.fl
 lo:s'.lo=s.lo
 aH:s.aH<=s'.aH
 wr:s'.wr=s.wr
 dr:s'.dr=s.dr
 ob:∀o,o<s.aH->s'.ob.get o=s.ob.get o
 cj:g'.cj=g.cj
 arr:∀o,o<s.aH->∀e,g'.arr o e=g.arr o e
def Uf.refl{g:Gh}{s:bq S}{w:World}(h:bg g (aF s) w):Uf g s w [] g s:=
 ⟨h,oh.refl _,rfl,λ_ _ h=>.inl h,rfl,rfl,bT _,rfl,rfl,λ_ _=>rfl,rfl,λ_ _ _=>rfl⟩
def Uf.trans{g g' xh:Gh}{s s' s'':bq S}{w:World}{al mX:List fB}(h:Uf g s w al g' s')(k:Uf g' s' w mX xh s''):Uf g s w (al++mX) xh s'' where
 rel:=k.rel
 le:=h.le.trans k.le
 bz:=k.bz.trans h.bz
 own o b hO:=by
  rcases k.own o b hO with hO|⟨h1,a,h2,h3⟩
  .rcases h.own o b hO with hO|⟨h1,a,h2,h3⟩
   .exact .inl hO
   .exact .inr ⟨h1,a,eJ _ h2,h3⟩
  .exact .inr ⟨fS h.aH h1,a,iW _ h2,h3⟩
 fl:=k.fl.trans h.fl
 lo:=k.lo.trans h.lo
 aH:=fS h.aH k.aH
 wr:=k.wr.trans h.wr
 dr:=k.dr.trans h.dr
 ob o ho:=(k.ob o (dy ho h.aH)).trans (h.ob o ho)
 cj:=k.cj.trans h.cj
 arr o ho e:=(k.arr o (dy ho h.aH) e).trans (h.arr o ho e)
def QC(s:bq S)(c:Ck)(x:den S.A c.ty):s.aH<=(uh s c x).2.aH:=by cases c with|dat t=>exact bT _|own e=>exact Eb _|jy n j t=>exact Nat.le_succ_of_le (Eb _)|nil e=>exact bT _|ptr t=>exact bT _
def mY:∀(cs:List Ck)(s:bq S)(x:gp S.A cs),s.aH<=(gH s cs x).2.aH
 |[],_,_=>bT _
 |c::cs,s,x=>fS (QC s c x.1) (mY cs _ x.2)
def mo:∀{cs:List Ck}{x:gp S.A cs}{vals:List Value}{al:List fB}{g:Gh}{w:World}{s:bq S},jl S g.bz w cs x vals al->bg g (aF s) w->(∀a∈al,∀b,a.at b->∀o,¬bK g o b)->vQ al->
  (gH s cs x).2.aH<=bA->∃g',Uf g s w al g' (gH s cs x).2∧PW (aJ g' w) (bh (gH s cs x).1) vals:=by
 intro cs
 induction cs with
 |nil=>intro x vals al g w s h hs _ _ _;cases h;exact⟨g,Uf.refl hs,rfl,λj t v h=>by simp[gH,bh]at h⟩
 |cons c cs ih=>
  intro x vals al g w s h hs hfr hap hn;cases h with
  | @dat t _ x h v vs al hd hr=>
   obtain⟨g',hu,dc⟩:=ih hr hs hfr hap hn;refine⟨g',hu,by simp only[gH,uh,bh,fI];rw[dc.1],λj t' v' k1 k2=>?_⟩;cases j with|zero=>simp only[gH,uh,bh,sr,bf]at k1 k2;subst k1;subst k2;have:=oE (g:=g) hd;exact this.le hu.le|succ j=>exact dc.2 j t' v' (by simpa[gH,uh,bh]using k1) (by simpa using k2)
  | @nl e _ h a vs al hr=>
   obtain⟨g',hu,dc⟩:=ih hr hs hfr hap hn;refine⟨g',hu,by simp only[gH,uh,bh,fI];rw[dc.1],λj t' v' k1 k2=>?_⟩;cases j with|zero=>simp only[gH,uh,bh,sr,bf]at k1 k2;subst k1;subst k2;exact .emp _|succ j=>exact dc.2 j t' v' (by simpa[gH,uh,bh]using k1) (by simpa using k2)
  | @ptr t _ x h ad val vs al hi hc hd hr=>
   obtain⟨g',hu,dc⟩:=ih hr hs hfr hap hn;refine⟨g',hu,by simp only[gH,uh,bh,fI];rw[dc.1],λj t' v' k1 k2=>?_⟩;cases j with|zero=>simp only[gH,uh,bh,sr,bf]at k1 k2;subst k1;subst k2;have:aJ g w (low (V.mV t x 0)) (.pointer (some (ad.add 0))):=.mV _ 0 ad val hi hc hd;exact this.le hu.le|succ j=>exact dc.2 j t' v' (by simpa[gH,uh,bh]using k1) (by simpa using k2)
  | @own e _ l h a vs al ho hr=>
   have hb0:=mY cs (dn s (.arr e l 0)) h;have hlt:s.aH<bA:=by have h1:(dn s (.arr e l 0)).aH=s.aH+1:=rfl;have h2:(gH (dn s (.arr e l 0)) cs h).2.aH<=bA:=hn;omega
   have hall:=hr.iM;have ahI:∀b,a.at b->b<w.heap.size∧∀o,¬bK g o b:=λb hb=>⟨(jl.own (S:=S) ho hr).lt a eC b hb,hfr a eC b hb⟩;obtain⟨k1,k2,k3⟩:=hs.XN hlt (sz:=S.width e) (es:=l.map (enc S e)) (x:=a) ahI (ho.1.j5 rfl) ho.2;have hst:(ec (aF s) (Ob.arr (S.width e) (l.map (enc S e)) 0)).2=aF (dn s (.arr e l 0)):=(gu s (.arr e l 0)).symm;have e0:(aF s).aH=s.aH:=rfl;rw[hst,e0]at k1;rw[e0]at k2 k3;rw[vQ,List.pairwise_cons]at hap;obtain⟨g',hu,dc⟩:=ih (g:=g.era s.aH 0 a) (s:=dn s (.arr e l 0)) hr k1 (λy hy b hb o hO=>by
    rcases k3 o b hO with hO|⟨_,hb'⟩
    .exact hfr y (gL _ hy) b hb o hO
    .exact hap.1 y hy b hb' hb) hap.2 hn
   have j6:Uf g s w [a] (g.era s.aH 0 a) (dn s (.arr e l 0)):=by
    refine⟨k1,k2,rfl,λk b hO=>?_,rfl,rfl,Eb _,rfl,rfl,λo hlo=>?_,rfl,λo hlo e'=>Gh.ct _ _ _ _ _ _ (λh=>by omega)⟩
    .rcases k3 k b hO with hO|⟨h1,h2⟩
     .exact .inl hO
     .exact .inr ⟨by omega,a,by simp,h2⟩
    .simp only[dn];rw[Tr.aT _ _ _ _ hlt,bw (by omega)]
   refine⟨g',j6.trans hu,by simp only[gH,uh,bh,fI];rw[dc.1],λj t' v' q1 q2=>?_⟩;cases j with|zero=>simp only[gH,uh,bh,sr,bf]at q1 q2;subst q1;subst q2;have:aJ (g.era s.aH 0 a) w (.sh s.aH 0) (.slice a.a a.len a.cap):=.sh _ _ _ _ a.sz _ (Gh.fC _ _ _ _);exact this.le hu.le|succ j=>exact dc.2 j t' v' (by simpa[gH,uh,bh]using q1) (by simpa using q2)
  | @jy n j t0 _ l h a rl vs al ho hr=>
   have hb0:=mY cs (uh s (.jy n j t0) l).2 h;have ahY:(uh s (.jy n j t0) l).2.aH=s.aH+2:=rfl;have hlt:s.aH+1<bA:=by have h2:(gH (uh s (.jy n j t0) l).2 cs h).2.aH<=bA:=hn;omega
   have aim:=ho.at_;obtain⟨hl,p1,p2,p3,p4,p5,p6⟩:=ho;rw[<-List.cons_append]at hfr hap;have aeq:=(so.1 hap).1;rw[List.pairwise_cons]at aeq;obtain⟨k1,k2,k3⟩:=hs.XN (by show s.aH<bA;omega) (sz:=S.width (.st n)) (es:=lits j (l.map (enc S (.st n))) hl) (x:=a) (λb hb=>⟨(aim a eC b hb).2,hfr a (by simp) b hb⟩) (p2.1.j5 rfl) p2.2;have e0:(aF s).aH=s.aH:=rfl;rw[e0]at k1 k2 k3;have e1:(ec (aF s) (Ob.arr (S.width (.st n)) (lits j (l.map (enc S (.st n))) hl) 0)).2.aH=s.aH+1:=rfl;obtain⟨r1,r2,r3⟩:=k1.aeX (by rw[e1];exact hlt) (sz:=S.width t0) (dL:=(l.map (Hg n j t0)).map (·.map (enc S t0))) (ys:=rl)
    (λy hy b hb=>⟨(aim y (gL _ hy) b hb).2,λo hO=>by
     rcases k3 o b hO with hO|⟨_,hb'⟩
     .exact hfr y (by simp[hy]) b hb o hO
     .exact aeq.1 y hy b hb' hb⟩)
    (λi y hi=>by
     have UC:i<l.length:=by rw[<-p3];exact aD hi
     have hk:=p5 i y _ hi (gm UC);exact⟨hk.2,_,by rw[gQ,gQ,gm UC];rfl,hk.1.j5 rfl⟩) aeq.2
   rw[e1]at r1 r2 r3;have abZ:∀k,(ec (ec (aF s) (Ob.arr (S.width (.st n)) (lits j (l.map (enc S (.st n))) hl) 0)).2 (.rws (S.width t0) ((l.map (Hg n j t0)).map (·.map (enc S t0))) 0)).2.ob.get k=if k=s.aH+1 then some (.rws (S.width t0) ((l.map (Hg n j t0)).map (·.map (enc S t0))) 0)else if k=s.aH then some (.arr (S.width (.st n)) (lits j (l.map (enc S (.st n))) hl) 0)else(aF s).ob.get k:=λk=>by show(((aF s).ob.set aI s.aH _).set aI (s.aH+1) _).get k=_;rw[Tr.aT _ _ _ _ hlt,Tr.aT _ _ _ _ (by omega)]
   have hL:Hy ((g.era s.aH 0 a).gD (s.aH+1) rl) (s.aH+1) 0 none hl:=by
    have tF:∀i v,hl[i]?=some v->∃UC:i<rl.length,v=.slice (rl[i]).a (rl[i]).len (rl[i]).cap:=λi v hi=>by
     have UC:i<rl.length:=by rw[p3,<-p1];exact aD hi
     have:=p4 i _ (gm UC);rw[hi]at this;exact⟨UC,eI this⟩
    refine⟨λi v hi=>let ⟨_,h⟩:=tF i v hi;⟨_,_,_,h⟩,λi v hi _=>?_⟩;have UC:i<rl.length:=by rw[p3,<-p1];exact aD hi
    refine⟨rl[i],by rw[Gh.vE];exact gm UC,?_⟩;have:=p4 i _ (gm UC);rw[hi]at this;exact eI this
   have u1:=r1.UP (o:=s.aH) (nj:=j) (es:=l.map (enc S (.st n))) (era:=0) (m:=s.aH+1) (dg:=0) (hole:=none) (hl:=hl) (by omega) (by rw[abZ,bw (by omega),bL rfl]) (by simpa using p1) hL;have u2:bg ((g.era s.aH 0 a).gD (s.aH+1) rl) (aF (uh s (.jy n j t0) l).2) w:=by
    refine u1.W9 rfl λk=>?_;show(aF (dn (dn s (.kE n j l 0 (Nat.succ s.aH) 0 none)) (.rws t0 (yx n j t0 l) 0))).ob.get k=((ec _ _).2.ob.set aI s.aH _).get k;rw[gu,gu,Tr.aT _ _ _ _ (by omega),abZ];show(((aF s).ob.set aI s.aH _).set aI (s.aH+1) _).get k=_;rw[Tr.aT _ _ _ _ hlt,Tr.aT _ _ _ _ (by omega)];by_cases h1:k=s.aH
    .subst h1;rw[bw (by omega),bL rfl,bL rfl];rfl
    .rw[bw h1,bw h1,bw h1];rfl
   have hle:oh g ((g.era s.aH 0 a).gD (s.aH+1) rl):=k2.trans ⟨λ_ _ h=>h,r2,λ_ h=>h⟩;obtain⟨g',hu,dc⟩:=ih (g:=(g.era s.aH 0 a).gD (s.aH+1) rl) (s:=(uh s (.jy n j t0) l).2) hr u2 (λy hy b hb o hO=>by
    rcases r3 o b hO with hO|⟨_,y',hy',hb'⟩
    .rcases k3 o b hO with hO|⟨_,hb'⟩
     .exact hfr y (iW _ hy) b hb o hO
     .exact (so.1 hap).2.2 a (by simp) y hy b hb' hb
    .exact (so.1 hap).2.2 y' (by simp[hy']) y hy b hb' hb) (so.1 hap).2.1 hn
   have j6:Uf g s w (a::rl) ((g.era s.aH 0 a).gD (s.aH+1) rl) (uh s (.jy n j t0) l).2:=by
    refine⟨u2,hle,rfl,λk b hO=>?_,rfl,rfl,by rw[ahY];omega,rfl,rfl,λo hlo=>?_,rfl,λo hlo e'=>?_⟩
    .rcases r3 k b hO with hO|⟨h1,y,hy,hb⟩
     .rcases k3 k b hO with hO|⟨h1,h2⟩
      .exact .inl hO
      .exact .inr ⟨by omega,a,by simp,h2⟩
     .exact .inr ⟨by omega,y,by simp[hy],hb⟩
    .show ((s.ob.set aI s.aH _).set aI (s.aH+1) _).get o=_;rw[Tr.aT _ _ _ _ hlt,bw (by omega),Tr.aT _ _ _ _ (by omega),bw (by omega)]
    .rw[Gh.g7 (by omega)];exact Gh.ct _ _ _ _ _ _ (λh=>by omega)
   refine⟨g',by rw[<-List.cons_append];exact j6.trans hu,by have:=dc.1;simp only[gH,uh,bh,fI]at this ⊢;rw[this],λj' t' v' q1 q2=>?_⟩;cases j' with|zero=>simp only[gH,uh,bh,sr,bf]at q1 q2;subst q1;subst q2;have:aJ ((g.era s.aH 0 a).gD (s.aH+1) rl) w (.sh s.aH 0) (.slice a.a a.len a.cap):=.sh _ _ _ _ a.sz _ (by rw[Gh.g7 (by omega)];exact Gh.fC _ _ _ _);exact this.le hu.le|succ j'=>exact dc.2 j' t' v' (by simpa[gH,uh,bh]using q1) (by simpa using q2)
def uo{x:den S.A τ}(h:dZ g.bz w (enc S τ x) v):aJ g w (eB S τ x) v:=by
 cases τ with
 |st n=>
  cases h with|agg _ vs hl hf hr=>refine .agg _ _ (by simpa using hl) λj t v h1 h2=>?_;simp only[gQ,eA]at h1;obtain⟨c,hc,rfl⟩:=h1;exact .sym _ _ (hr j c v hc h2)
 |int k=>exact .sym _ _ h
 |bool=>exact .sym _ _ h
 |str=>exact .sym _ _ h
 |sl e=>exact .sym _ _ h
 |cR n=>exact .sym _ _ h
def QE(hS:fy S){x:den S.A τ}(h:aJ g w (eB S τ x) v):dZ g.bz w (enc S τ x) v:=by
 cases τ with
 |st n=>
  cases h with
  |agg _ vs hl hr=>
   refine .agg _ _ (by simpa using hl) (λc hc=>?_) λj c v h1 h2=>?_
   .rw[hS.cells]at hc;exact gO _ _ (hS.leaf n) c hc
   .have:=hr j (.sym c) v (by simp[h1]) h2;cases this with|sym _ _ h=>exact h
 |int k=>cases h with|sym _ _ h=>exact h
 |bool=>cases h with|sym _ _ h=>exact h
 |str=>cases h with|sym _ _ h=>exact h
 |sl e=>cases h with|sym _ _ h=>exact h
 |cR n=>cases h with|sym _ _ h=>exact h
inductive CX(S:Sg)(I:Nat->Prop)(w:World)(nb:Option Nat):(k:Bk)->wD S.A k->Obj->List fB->Prop where
 |cells {cs:List Ck} {x:gp S.A cs} {cv:Array Value} {ty:TypeId} {al:List fB} (h:jl S I w cs x cv.toList al):CX S I w nb (.cells cs) x (.cells cv ty (0,0)) al
 |map {kt vt:Ty} {l:List (den S.A kt×den S.A vt)} {ms:Array MapEntry} {c:Nat} (hl:l.length=ms.size)
   (h:∀(j:Nat)(p:den S.A kt×den S.A vt)(m:MapEntry),l[j]?=some p->ms[j]?=some m->dZ I w (enc S kt p.1) m.key∧dZ I w (enc S vt p.2) m.val):CX S I w nb (.map kt vt) l (.map ms c) []
 |pO {x:List UInt8×Nat}:CX S I w nb .pO x (.stringIter (bF x.1) x.2) []
 |link {pre post:List Ck} {x:gp S.A pre} {y:gp S.A post} {cv:Array Value} {ty:TypeId} {al mX:List fB} {vp vq:List Value} {b:Nat} (hn:nb=some b) (hv:cv.toList=vp++([.pointer (some ⟨b,0,none⟩)]++vq))
   (h1:jl S I w pre x vp al) (h2:jl S I w post y vq mX):CX S I w nb (.link pre post) (x,y) (.cells cv ty (0,0)) (al++mX)
def JH:Bk->Nat->Value
 | .cells _,b=>.pointer (some ⟨b,0,none⟩)
 | .map _ _,b=>.map (some b)
 | .pO,b=>.pointer (some ⟨b,0,none⟩)
 | .link _ _,b=>.pointer (some ⟨b,0,none⟩)
def JI{v:V S}(h:CM k v=some o):v=Td k o:=by
 cases k with
 |cells cs=>
  cases v with
  |ptr o' off=>cases off with|zero=>simp only[CM,bf]at h;subst h;rfl|succ=>simp[CM]at h
  |_=>simp[CM]at h
 |map kt vt=>cases v<;>simp[CM]at h;subst h;rfl
 |pO=>cases v<;>simp[CM]at h;subst h;rfl
 |link pre post=>
  cases v with
  |ptr o' off=>cases off with|zero=>simp only[CM,bf]at h;subst h;rfl|succ=>simp[CM]at h
  |_=>simp[CM]at h
def Mx(h:g.cj o=some b):aJ g w (low (Td k o:V S)) (JH k b):=by cases k with|cells cs=>exact .ptr o 0 b h|map kt vt=>exact .mp o b h|pO=>exact .rY o b h|link pre post=>exact .ptr o 0 b h
def EH(h:aJ g w (low (Td k o:V S)) v):∃b,g.cj o=some b∧v=JH k b:=by
 cases k with
 |cells cs=>cases h with|ptr _ _ b hb=>exact⟨b,hb,rfl⟩
 |map kt vt=>cases h with|mp _ b hb=>exact⟨b,hb,rfl⟩
 |pO=>cases h with|rY _ b hb=>exact⟨b,hb,rfl⟩
 |link pre post=>cases h with|ptr _ _ b hb=>exact⟨b,hb,rfl⟩
def sv:wP S->Bool
 | .arr ..|.kf ..|.kE ..|.rws ..|.gone=>false
 |_=>true
def m7(h:sv ob=true):(cQ ob).oY=false:=by cases ob<;>first|rfl|(simp[sv]at h)
def Mi{e:Nat}{x:fB}(h:sv ob=true)(ha:tU g w o e x (cQ ob)):False:=by have:=ha.oY;rw[m7 h]at this;cases this
def PA{kt vt My Sn:Ty}{l:List (den S.A kt×den S.A vt)}{l':List (den S.A My×den S.A Sn)}(h:Cy kt vt My Sn l=some l'):∃(h1:kt=My)(h2:vt=Sn),l'=h1▸h2▸l:=by
 unfold Cy at h;split at h
 .split at h
  .simp only[bf]at h;exact⟨fG ‹_›,fG ‹_›,h.symm⟩
  .cases h
 .cases h
def p8(hS:fy S)(hs:bg g (aF s) w)(hb:g.cj o=some b){x:wD S.A k}(h:kz s k (s.ob.get o)=some (x,fz,ow,nx)) :
  (∃ob,s.ob.get o=some ob∧sv ob=true)∧∃hx,w.heap[b]?=some hx∧
  (∀o∈fz,Live g (aF s) o)∧(∀o∈ow,s.fl<=o∧s.lo<=o∧o<s.aH∧∃ob,s.ob.get o=some ob∧PL ob=true)∧∀(g1:Gh)(s1:St)(jZ:List Nat),bg g1 s1 w->Ext s.fl g w g1 w->jM (aF s) s1 jZ->(∀o∈fz,o∈jZ)->(∀o∈ow,s1.ob.get o=(aF s).ob.get o)->
   ∀nb,(∀o',nx=some o'->∃b',nb=some b'∧g1.cj o'=some b')->∃al,CX S g1.bz w nb k x hx al∧AL g1 al ow:=by
 cases ho:s.ob.get o with
 |none=>rw[ho]at h;cases k<;>simp[kz]at h
 |some ob=>
 rw[ho]at h;obtain⟨hx,hh,hr⟩:=(hs.box o b hb).2.2 (cQ ob) (by rw[aV,ho];rfl);cases k with
 |cells cs=>
  cases ob with
  |box vs=>
   refine⟨⟨_,rfl,rfl⟩,hx,hh,?_⟩;cases hr with
   |box _ cv ty hl hr=>
   simp only[kz]at h;split at h;rotate_left
   .cases h
   rename_i y1 a1 b1 Tp;simp only[bf,bB]at h;obtain⟨rfl,rfl,rfl,rfl⟩:=h;obtain⟨p1,p2,p3⟩:=gn hS hs Tp (vals:=cv.toList) ⟨by simpa using hl,λj t v k1 k2=>hr j t v k1 (by simpa using k2)⟩;refine⟨p1,p2,λg1 s1 jZ a b c d e nb _=>?_⟩;obtain⟨al,k1,k2⟩:=p3 g1 s1 jZ a b c d e;exact⟨al,.cells k1,k2⟩
  |_=>simp[kz]at h
 |link pre post=>
  cases ob with
  |box vs=>
   refine⟨⟨_,rfl,rfl⟩,hx,hh,?_⟩;cases hr with
   |box _ cv ty hl hr=>
   simp only[kz]at h;split at h;rotate_left
   .cases h
   rename_i x1 a1 b1 o1 y1 a2 b2 e1 e2 e3;simp only[bf,bB]at h;obtain⟨rfl,rfl,rfl,rfl⟩:=h;rw[bH]at e1 e2 e3;have hsz:vs.length=cv.toList.length:=by rw[<-eR];simpa using hl
   have lE:∀j t v,vs[j]?=some t->cv.toList[j]?=some v->aJ g w (low t) v:=λj t v k1 k2=>hr j _ v (by rw[gi,gQ,k1];rfl) (by simpa using k2);have hpre:PW (aJ g w) (bh (vs.take pre.length)) (cv.toList.take pre.length):=by
    refine⟨by rw[eR];simp[hsz],λj t v k1 k2=>?_⟩;rw[gi,gQ,eA]at k1;obtain⟨t',k1,rfl⟩:=k1;rw[xO]at k1 k2;split at k1
    .rename_i hj;rw[bL hj]at k2;exact lE j t' v k1 k2
    .cases k1
   have hpost:PW (aJ g w) (bh (vs.drop (Nat.succ pre.length))) (cv.toList.drop (Nat.succ pre.length)):=by refine⟨by rw[eR];simp[hsz],λj t v k1 k2=>?_⟩;rw[gi,gQ,eA]at k1;obtain⟨t',k1,rfl⟩:=k1;rw[DZ]at k1 k2;exact lE _ t' v k1 k2
   rw[jx]at e2;have hlt:pre.length<cv.toList.length:=by rw[<-hsz];exact(tW.1 e2).1
   have hmid:=lE pre.length _ _ e2 (gm hlt);simp only[low]at hmid;generalize hvm:cv.toList[pre.length]=vm at hmid;cases hmid with
   |ptr _ _ b2 fM=>
   have hsplit:cv.toList=cv.toList.take pre.length++([.pointer (some ⟨b2,0,none⟩)]++cv.toList.drop (Nat.succ pre.length)):=by have h1:=(Mc pre.length cv.toList).symm;rw[Q1 hlt,hvm]at h1;simpa using h1
   obtain⟨p1,p2,p3⟩:=gn hS hs e1 hpre;obtain⟨q1,q2,q3⟩:=gn hS hs e3 hpost;refine⟨λo ho=>(eg.1 ho).elim (p1 o) (q1 o),λo ho=>(eg.1 ho).elim (p2 o) (q2 o),λg1 s1 jZ fq he hf hsub hsame nb hnb=>?_⟩;obtain⟨vC,k1,k2⟩:=p3 g1 s1 jZ fq he hf (λo ho=>hsub o (eJ _ ho)) (λo ho=>hsame o (eJ _ ho));obtain⟨wk,k3,k4⟩:=q3 g1 s1 jZ fq he hf (λo ho=>hsub o (iW _ ho)) (λo ho=>hsame o (iW _ ho));obtain⟨b',n5,Pa⟩:=hnb _ rfl;have:b'=b2:=eI (Pa.symm.trans (he.cj _ _ fM));subst this;exact⟨_,.link n5 hsplit k1 k3,k2.append k4⟩
  |_=>simp[kz]at h
 |map kt vt=>
  cases ob with
  |map k v l=>
   simp only[kz]at h;split at h
   .rename_i l' hl;obtain⟨rfl,rfl,hh'⟩:=PA hl;cases hh';simp only[bf,bB]at h;obtain⟨rfl,rfl,rfl,rfl⟩:=h;refine⟨⟨_,rfl,rfl⟩,hx,hh,λo ho=>(by cases ho),λo ho=>(by cases ho),λg1 s1 jZ fq he hf _ _ nb _=>⟨[],?_,.nil⟩⟩;cases hr with
    |map _ ms c hl hr=>
    refine .map (by simpa using hl) λj p m h1 h2=>?_;obtain⟨k1,k2⟩:=hr j _ m (by rw[gQ,h1];rfl) h2;exact⟨QE hS (k1.ext he hs.bz),QE hS (k2.ext he hs.bz)⟩
   .cases h
  |_=>simp[kz]at h
 |pO=>
  cases ob with
  |pO bs n=>simp only[kz,bf,bB]at h;obtain⟨rfl,rfl,rfl,rfl⟩:=h;refine⟨⟨_,rfl,rfl⟩,hx,hh,λo ho=>(by cases ho),λo ho=>(by cases ho),λg1 s1 jZ fq he hf _ _ nb _=>⟨[],?_,.nil⟩⟩;cases hr;exact .pO (x:=(bs,n))
  |_=>simp[kz]at h
def CX.iM{I:Nat->Prop}{w:World}{nb:Option Nat}{k:Bk}{x:wD S.A k}{h:Obj}{al:List fB}(hr:CX S I w nb k x h al):∀a∈al,∀b,a.at b->¬I b:=by
 cases hr with
 |cells h=>exact h.iM
 |map=>intro a ha;cases ha
 |pO=>intro a ha;cases ha
 |link _ _ h1 h2=>intro a ha;exact(eg.1 ha).elim (h1.iM a) (h2.iM a)
def Da(k:Bk)(s:bq S)(nx:Option Nat)(x:wD S.A k):s.aH<=(gC s nx k x).2.aH:=by cases k with|cells cs=>exact mY cs s x|map kt vt=>exact bT _|pO=>exact bT _|link pre post=>exact fS (mY pre s x.1) (mY post _ x.2)
def om{x:wD S.A k}(hr:CX S g.bz w nb k x h al)(OZ:∀b',nb=some b'->∃o',nx=some o'∧g.cj o'=some b')(hs:bg g (aF s) w)(hfr:∀a∈al,∀b,a.at b->∀o,¬bK g o b)(hap:vQ al)
  (hn:(gC s nx k x).2.aH<=bA):∃g',Uf g s w al g' (gC s nx k x).2∧gU g' w (cQ (gC s nx k x).1) h:=by
 cases hr with
 |cells hr=>obtain⟨g',hu,dc⟩:=mo hr hs hfr hap hn;exact⟨g',hu,.box _ _ _ (by simpa using dc.1) λj t v k1 k2=>dc.2 j t v k1 (by simpa using k2)⟩
 | @map kt vt l ms c hl hr=>refine⟨g,Uf.refl hs,.map _ _ _ (by simpa using hl) λj t m h1 h2=>?_⟩;simp only[gQ,eA]at h1;obtain⟨p,hp,rfl⟩:=h1;obtain⟨k1,k2⟩:=hr j p m hp h2;exact⟨uo k1,uo k2⟩
 |pO=>exact⟨g,Uf.refl hs,.pO _ _⟩
 | @link pre post x y cv ty al mX vp vq b hb hv h1 h2=>
  obtain⟨o',rfl,ho'⟩:=OZ b hb;have jD:=so.1 hap;have O2:(gH s pre x).2.aH<=bA:=fS (mY post _ y) hn;obtain⟨g1,j6,kH⟩:=mo h1 hs (λa ha=>hfr a (eJ _ ha)) jD.1 O2;obtain⟨g2,EU,Wx⟩:=mo (s:=(gH s pre x).2) (j6.bz▸h2) j6.rel (λa ha b hb o hO=>by
    rcases j6.own o b hO with hO|⟨_,a2,J0,fM⟩
    .exact hfr a (iW _ ha) b hb o hO
    .exact jD.2.2 a2 J0 a ha b fM hb) jD.2.1 hn
  refine⟨g2,j6.trans EU,?_⟩;have hmid:aJ g2 w (low (.ptr o' 0:V S)) (.pointer (some ⟨b,0,none⟩)):=.ptr o' 0 b (by rw[EU.cj,j6.cj];exact ho');have hall:PW (aJ g2 w) (bh ((gH s pre x).1++(Q4 (some o')++(gH (gH s pre x).2 post y).1))) cv.toList:=by
   rw[hv,jz,jz];exact PW.append ⟨kH.1,λj t v k1 k2=>(kH.2 j t v k1 k2).le EU.le⟩ (PW.append ⟨rfl,λj t v k1 k2=>by
    cases j with
    |zero=>simp[bh,Q4]at k1 k2;subst k1;subst k2;exact hmid
    |succ j=>simp[bh,Q4]at k1⟩ Wx)
  exact .box _ _ _ (by simpa using hall.1) λj t v k1 k2=>hall.2 j t v k1 (by simpa using k2)
end
section
def Tr.sO{α:Type}:∀(n:Nat)(t:Tr α)(k j:Nat),k+1<2 ^ n->(Tr.del n t k).get j=if j=k then none else t.get j
 |0,t,k,j,h=>by simp at h
 |n+1,.nil,k,j,h=>by have:Tr.del (n+1) (.nil:Tr α) k=.nil:=rfl;rw[this,Tr.get_nil];split<;>rfl
 |n+1,.node v l r,0,j,h=>by have:Tr.del (n+1) (.node v l r) 0=.node none l r:=rfl;rw[this];cases j with|zero=>simp[Tr.fN]|succ j=>rw[Tr.cP,Tr.cP];simp
 |n+1,.node v l r,k+1,j,h=>by
  have hk':k/2+1<2 ^ n:=by rw[Nat.pow_succ]at h;omega
  have aoI:Tr.del (n+1) (.node v l r) (k+1)=if k%2=0 then .node v (Tr.del n l (k/2)) r else .node v l (Tr.del n r (k/2)):=by
   simp only[Tr.del];by_cases h2:k%2=0
   .have:Nat.beq (Nat.mod k 2) 0=true:=by show Nat.beq (k%2) 0=true;rw[h2];rfl
    simp[this,h2];rfl
   .have:Nat.beq (Nat.mod k 2) 0=false:=by
     show Nat.beq (k%2) 0=false;have:k%2=1:=by omega
     rw[this];rfl
    simp[this,h2];rfl
  rw[aoI];cases j with
  |zero=>split<;>simp[Tr.fN]
  |succ j=>
   by_cases hk2:k%2=0
   .rw[bL hk2,Tr.cP,Tr.cP];by_cases hj2:j%2=0
    .rw[bL hj2,bL hj2,Tr.sO n _ _ _ hk'];have:j/2=k/2↔j+1=k+1:=by omega
     simp[this]
    .rw[bw hj2,bw hj2,bw (by omega)]
   .rw[bw hk2,Tr.cP,Tr.cP];by_cases hj2:j%2=0
    .rw[bL hj2,bL hj2,bw (by omega)]
    .rw[bw hj2,bw hj2,Tr.sO n _ _ _ hk'];have:j/2=k/2↔j+1=k+1:=by omega
     simp[this]
def Tr.rM{α:Type}:∀(bs:List Nat)(t:Tr α)(j:Nat),(∀b∈bs,b<bA)->(bs.foldl (λt o=>t.del aI o) t).get j=if j∈bs then none else t.get j
 |[],t,j,_=>by simp
 |b::bs,t,j,h=>by
  rw[LD,Tr.rM bs _ j (λc hc=>h c (by simp[hc])),Tr.sO _ _ _ _ (by have:=h b (by simp);unfold aI;unfold bA at this;omega)];by_cases h1:j∈bs
  .simp[h1]
  .by_cases h2:j=b<;>simp[h1,h2]
def Tr.o4{α:Type}(f:α->α):∀(t:Tr α)(k:Nat),(t.mapA f).get k=(t.get k).map f
 | .nil,k=>by have:(Tr.nil:Tr α).mapA f=.nil:=rfl;rw[this,Tr.get_nil];rfl
 | .node v l r,0=>by have:(Tr.node v l r).mapA f=.node (match v with|some x=>some (f x)|none=>none) (l.mapA f) (r.mapA f):=rfl;rw[this,Tr.fN,Tr.fN];cases v<;>rfl
 | .node v l r,k+1=>by have:(Tr.node v l r).mapA f=.node (match v with|some x=>some (f x)|none=>none) (l.mapA f) (r.mapA f):=rfl;rw[this,Tr.cP,Tr.cP,Tr.o4 f l,Tr.o4 f r];split<;>rfl
def Tr.sG{α:Type}(p:α->Bool):∀(t:Tr α)(k:Nat)(x:α),t.get k=some x->p x=true->k∈t.jA p
 | .nil,k,x,h,_=>by rw[Tr.get_nil]at h;cases h
 | .node v l r,0,x,h,hp=>by rw[Tr.fN]at h;subst h;simp[Tr.jA,hp]
 | .node v l r,k+1,x,h,hp=>by
  rw[Tr.cP]at h;simp only[Tr.jA,eg,zg];by_cases hk:k%2=0
  .rw[bL hk]at h;exact .inr (.inl ⟨k/2,Tr.sG p l _ x h hp,by show 2*(k/2)+1=k+1;omega⟩)
  .rw[bw hk]at h;exact .inr (.inr ⟨k/2,Tr.sG p r _ x h hp,by show 2*(k/2)+1+1=k+1;omega⟩)
def Tr.o5{α:Type}(p:α->Bool):∀(t:Tr α)(k:Nat),(t.keep p).get k=(t.get k).filter p
 | .nil,k=>by have:(Tr.nil:Tr α).keep p=.nil:=rfl;rw[this,Tr.get_nil];rfl
 | .node v l r,0=>by have:(Tr.node v l r).keep p=.node (match v with|some x=>bif p x then some x else none|none=>none) (l.keep p) (r.keep p):=rfl;rw[this,Tr.fN,Tr.fN];cases v with|none=>rfl|some x=>cases hp:p x<;>simp[Option.filter,hp]
 | .node v l r,k+1=>by have:(Tr.node v l r).keep p=.node (match v with|some x=>bif p x then some x else none|none=>none) (l.keep p) (r.keep p):=rfl;rw[this,Tr.cP,Tr.cP,Tr.o5 p l,Tr.o5 p r];split<;>rfl
mutual
def jR(os:List Nat):∀v:V S,dD os (low v)=gR os v
 | .ty t x=>by
  have:∀l:List D,iO os (l.map .sym)=false:=by
   intro l
   induction l with|nil=>rfl|cons d l ih=>simp[iO,dD,ih]
  cases t<;>simp[low,eB,gR,dD,this]
 | .kb _=>rfl
 | .kn _ _=>rfl
 | .dat _=>rfl
 | .ptr _ _=>rfl
 | .mV _ _ _=>rfl
 | .kL _ _ _ _=>rfl
 | .sh _ _=>rfl
 | .emp=>rfl
 | .jI _ _ _=>rfl
 | .fn _ a b=>by simp only[low,gR,dD,oS os a,oS os b]
 | .cR _ v=>by simp only[low,gR,dD,jR os v]
 | .agg cs=>by simp only[low,gR,dD,oS os cs]
 | .gq cs=>by simp only[low,gR,dD,oS os cs]
 | .gd _ v=>by simp only[low,gR,dD,jR os v]
 | .mp _=>rfl
 | .rZ _=>rfl
 | .rY _=>rfl
 | .ub _=>rfl
 | .qF _ _ _ _=>rfl
 | .n9 _ _ _=>rfl
def oS(os:List Nat):∀l:List (V S),iO os (bh l)=nC os l
 |[]=>rfl
 |v::l=>by simp only[bh,iO,nC,jR os v,oS os l]
end
def ov:∀t:T,dD [] t=false:=by
 intro t
 induction t using T.rec (motive_2:=λl=>iO [] l=false)with|fn f a b JR ihb=>simp[dD,JR,ihb]|cR t v ih=>simp[dD,ih]|agg cs ih=>simp[dD,ih]|gq cs ih=>simp[dD,ih]|gd c v ih=>simp[dD,ih]|nil=>rfl|cons a l JR ihl=>simp[iO,JR,ihl]|_=>simp[dD]
structure pW(lo fl:Nat)(g:Gh)(w:World)(g':Gh)(w':World):Prop where
 cj:∀o b,g.cj o=some b->g'.cj o=some b
 arr:∀o e x,o<lo->g.arr o e=some x->g'.arr o e=some x
 bz:∀b,g.bz b->g'.bz b
 size:w.heap.size<=w'.heap.size
 heap:∀b,b<w.heap.size->(∀o,fl<=o->¬bK g o b)->w'.heap[b]?=w.heap[b]?
 own:∀o b,fl<=o->bK g' o b->(∃o',fl<=o'∧bK g o' b)∨w.heap.size<=b
 uJ:∀b,g'.bz b->g.bz b∨w.heap.size<=b∨∃o,fl<=o∧bK g o b
 os:w'.os=w.os
 output:w'.output=w.output
def pW.trans{lo fl:Nat}{g g' xh:Gh}{w w' w'':World}(h:pW lo fl g w g' w')(k:pW lo fl g' w' xh w''):pW lo fl g w xh w'' where
 cj o b e:=k.cj o b (h.cj o b e)
 arr o e x hl e':=k.arr o e x hl (h.arr o e x hl e')
 bz b e:=k.bz b (h.bz b e)
 size:=fS h.size k.size
 heap b hb hn:=by
  rw[k.heap b (dy hb h.size) (λo ho hO=>?_),h.heap b hb hn];rcases h.own o b ho hO with⟨o',ho',yh⟩|hO
  .exact hn o' ho' yh
  .omega
 own o b ho hO:=by
  rcases k.own o b ho hO with⟨o',ho',yh⟩|hO
  .exact h.own o' b ho' yh
  .exact .inr (fS h.size hO)
 uJ b hb:=by
  rcases k.uJ b hb with hb|hb|⟨o,ho,hO⟩
  .exact h.uJ b hb
  .exact .inr (.inl (fS h.size hb))
  .rcases h.own o b ho hO with⟨o',ho',yh⟩|hO
   .exact .inr (.inr ⟨o',ho',yh⟩)
   .exact .inr (.inl hO)
 os:=k.os.trans h.os
 output:=k.output.trans h.output
variable {fl:Nat}{g g':Gh}{w w':World}{s:bq S}{k:Bk}{nx:Option Nat}
def Ext.HG(lo:Nat)(h:Ext fl g w g' w'):pW lo fl g w g' w':=
 ⟨λo b e=>h.cj o b e,λo e x _ k=>h.arr o e x k,h.bz,h.size,h.heap,λo b ho hO=>(h.own o b hO).imp (λh=>⟨o,ho,h⟩) id,h.uJ,h.os,h.output⟩
structure cN(ow:List Nat)(s:bq S)(g:Gh)(w:World)(s':bq S)(g':Gh)(w':World):Prop where
 rel:bg g' (aF s') w'
 ext:pW s.lo s.fl g w g' w'
 fl:s'.fl=s.fl
 lo:s'.lo=s.lo
 aH:s.aH<=s'.aH
 vS:∀o∈s.wr,o∈s'.wr
 same:∀o,o<s.aH->o∉s'.wr->s'.ob.get o=s.ob.get o
 tr:∀t v,aJ g w t v->dD ow t=false->aJ g' w' t v
 oww:∀o∈ow,o∈s'.wr
 Hp:∀o∈s.dr,o∈s'.dr
 owd:∀o∈ow,o∈s'.dr
inductive pK(S:Sg)(I:Nat->Prop)(w:World):(ps:List Pk)->fW S.A ps->List Value->List fB->List Nat->Prop where
 |nil:pK S I w [] () [] [] []
 |one {c:Ck} {ps:List Pk} {x:den S.A c.ty} {h:fW S.A ps} {v:Value} {vs:List Value} {al mX:List fB} {bl:List Nat} (h1:jl S I w [c] (x,()) [v] al) (h2:pK S I w ps h vs mX bl) :
   pK S I w (.one c::ps) (x,h) (v::vs) (al++mX) bl
 |box {k:Bk} {ps:List Pk} {x:wD S.A k} {h:fW S.A ps} {b:Nat} {hx:Obj} {vs:List Value} {al mX:List fB} {bl:List Nat} (hh:w.heap[b]?=some hx)
   (h1:CX S I w (dF bl) k x hx al) (h2:pK S I w ps h vs mX bl):pK S I w (.box k::ps) (x,h) (JH k b::vs) (al++mX) (b::bl)
 |hid {k:Bk} {ps:List Pk} {x:wD S.A k} {h:fW S.A ps} {b:Nat} {hx:Obj} {vs:List Value} {al mX:List fB} {bl:List Nat} (hh:w.heap[b]?=some hx)
   (h1:CX S I w (dF bl) k x hx al) (h2:pK S I w ps h vs mX bl):pK S I w (.hid k::ps) (x,h) vs (al++mX) (b::bl)
inductive CZ(S:Sg)(I:Nat->Prop)(w:World):(ps:List Pk)->iE S.A ps->List Nat->List fB->Prop where
 |nil:CZ S I w [] () [] []
 |one {c:Ck} {ps:List Pk} {r:iE S.A ps} {bl:List Nat} {al:List fB} (h:CZ S I w ps r bl al):CZ S I w (.one c::ps) r bl al
 |box {k:Bk} {ps:List Pk} {x:wD S.A k} {r:iE S.A ps} {b:Nat} {hx:Obj} {bl:List Nat} {al mX:List fB} (hh:w.heap[b]?=some hx)
   (h1:CX S I w (dF bl) k x hx al) (h2:CZ S I w ps r bl mX):CZ S I w (.box k::ps) (x,r) (b::bl) (al++mX)
 |hid {k:Bk} {ps:List Pk} {x:wD S.A k} {r:iE S.A ps} {b:Nat} {hx:Obj} {bl:List Nat} {al mX:List fB} (hh:w.heap[b]?=some hx)
   (h1:CX S I w (dF bl) k x hx al) (h2:CZ S I w ps r bl mX):CZ S I w (.hid k::ps) (x,r) (b::bl) (al++mX)
def valOf:List Value->Value
 |[v]=>v
 |l=>.tuple l.toArray
def Dx(S:Sg)(I:Nat->Prop)(w:World)(ps:List Pk)(rs:List Ck)(r:gp S.A rs×iE S.A ps)(al:List fB)(bl:List Nat)(v:Value)(w':World):Prop:=∃(I':Nat->Prop)(vs:List Value)(vC wk:List fB),(∀b,I b->I' b)∧(∀b,I' b->I b∨w.heap.size<=b∨∃a∈al,a.at b)∧(∀b,I' b->b<w'.heap.size)∧w.heap.size<=w'.heap.size∧
   (∀b,b<w.heap.size->b∉bl->(∀a∈al,¬a.at b)->w'.heap[b]?=w.heap[b]?)∧w'.os=w.os∧w'.output=w.output∧v=valOf vs∧
   CZ S I' w' ps r.2 bl vC∧jl S I' w' rs r.1 vs wk∧vQ (vC++wk)∧(∀a∈vC++wk,∀b,a.at b->(∃a'∈al,a'.at b)∨w.heap.size<=b)∧(∀b∈bl,¬I' b∧∀a∈vC++wk,¬a.at b)
def wo(S:Sg)(I:Nat->Prop)(w:World)(ps:List Pk)(rs:List Ck)(r:Rx (gp S.A rs×iE S.A ps) (den S.A S.pt×iE S.A ps))(al:List fB)(bl:List Nat):Ending->World->Prop
 | .returned v,w'=>match r with
  | .ok r=>Dx S I w ps rs r al bl v w'
  | .dm _=>False
 | .panicked ch,w'=>match r with
  | .ok _=>False
  | .dm p=>∃v,ch=[{v,recovered:=false}]∧Dx S I w ps [.dat S.pt] ((p.1,()),p.2) al bl v w'
 | .outgrown,_=>False
def bC(P:Program)(f:FuncId)(c:lF S):Prop:=
 mM P f∧∀x r,c.F x=some r->∀(I:Nat->Prop)(w:World)(vs:Array Value)(al:List fB)(bl:List Nat),pK S I w c.ps x vs.toList al bl->(∀b,I b->b<w.heap.size)->vQ al->bl.Nodup->
  (∀b∈bl,b<w.heap.size∧¬I b∧∀a∈al,¬a.at b)->Calls P f vs w (wo S I w c.ps c.rs (RT.res c.pn r) al bl)
def zp(hs:bg g (aF s) w){o b:Nat}(hb:g.cj o=some b){x:wD S.A k}{fz ow:List Nat}(h:kz s k (s.ob.get o)=some (x,fz,ow,nx)) :
  (∀o',nx=some o'->∃b',g.cj o'=some b')∧∀o',nx=some o'->∃pre post,k=.link pre post:=by
 cases ho:s.ob.get o with
 |none=>rw[ho]at h;cases k<;>simp[kz]at h
 |some ob=>
 rw[ho]at h;obtain⟨hx,hh,hr⟩:=(hs.box o b hb).2.2 (cQ ob) (by rw[aV,ho];rfl);cases k with
 |link pre post=>
  refine⟨λo' OZ=>?_,λ_ _=>⟨pre,post,rfl⟩⟩;subst OZ;cases ob with
  |box vs=>
   cases hr with
   |box _ cv ty hl hr=>
   simp only[kz]at h;split at h;rotate_left
   .cases h
   rename_i x1 a1 b1 o1 y1 a2 b2 e1 e2 e3;simp only[bf,bB]at h;obtain⟨_,_,_,rfl⟩:=h;rw[jx]at e2;have hlt:cA pre<cv.size:=by rw[<-hl,eR];exact(tW.1 e2).1
   have hmid:=hr (cA pre) _ _ (by rw[gi,gQ,e2];rfl) (oN hlt);simp only[low]at hmid;generalize cv[cA pre]=vm at hmid;cases hmid with|ptr _ _ b2 fM=>exact⟨b2,fM⟩
  |_=>simp[kz]at h
 |cells cs=>
  cases ob<;>simp only[kz]at h<;>try(cases h;done)
  split at h
  .simp only[bf,bB]at h;obtain⟨_,_,_,rfl⟩:=h;exact⟨λ_ h=>(by cases h),λ_ h=>(by cases h)⟩
  .cases h
 |map kt vt=>
  cases ob<;>simp only[kz]at h<;>try(cases h;done)
  split at h
  .simp only[bf,bB]at h;obtain⟨_,_,_,rfl⟩:=h;exact⟨λ_ h=>(by cases h),λ_ h=>(by cases h)⟩
  .cases h
 |pO=>
  cases ob<;>simp only[kz]at h<;>try(cases h;done)
  simp only[bf,bB]at h;obtain⟨_,_,_,rfl⟩:=h;exact⟨λ_ h=>(by cases h),λ_ h=>(by cases h)⟩
def BZ{g1:Gh}{ps:List Pk}{l:List (V S)}{h:fW S.A ps}{a b bs bl:List Nat}(hk:EF k ps=true)(OZ:∀o',nx=some o'->∃pre post,k=.link pre post)(e:dY s ps l nx=some (h,a,b,bs))(hp:PW (λo b=>g1.cj o=some b) bs bl) :
  ∀o',nx=some o'->∃b',dF bl=some b'∧g1.cj o'=some b':=by
 intro o' ho;obtain⟨pre,post,rfl⟩:=OZ o' ho;subst ho
 match ps,hk with
 | .hid k'::ps,_=>
  simp only[dY]at e;rcases af e with⟨_,e⟩|⟨_,e⟩;rotate_left
  .cases e
  split at e;rotate_left
  .cases e
  split at e;rotate_left
  .cases e
  simp only[bf,bB]at e;obtain⟨_,_,_,rfl⟩:=e
  match bl,hp with
  |b'::bl,hp=>exact⟨b',rfl,hp.2 0 _ _ rfl rfl⟩
  |[],hp=>exact absurd hp.1 (by simp)
def jP(hS:fy S){g:Gh}{w:World}{s:bq S}(hs:bg g (aF s) w):∀{ps:List Pk}{l:List (V S)}{vals:List Value}{x:fW S.A ps}{fz ow bs:List Nat}{nx0:Option Nat},dY s ps l nx0=some (x,fz,ow,bs)->PW (aJ g w) (bh l) vals->(∀o,nx0=some o->∃b,g.cj o=some b)->
  (∀o∈fz,Live g (aF s) o)∧(∀o∈ow,s.fl<=o∧s.lo<=o∧o<s.aH∧∃ob,s.ob.get o=some ob∧PL ob=true)∧(∀o∈bs,s.fl<=o∧∃ob,s.ob.get o=some ob∧sv ob=true)∧∀(g1:Gh)(s1:St)(jZ:List Nat),bg g1 s1 w->Ext s.fl g w g1 w->jM (aF s) s1 jZ->(∀o∈fz,o∈jZ)->(∀o∈ow,s1.ob.get o=(aF s).ob.get o)->
   ∃al bl,pK S g1.bz w ps x vals al bl∧AL g1 al ow∧PW (λo b=>g1.cj o=some b) bs bl
 |[],[],vals,x,fz,ow,bs,_,h,hv=>by intro _;simp only[dY,bf,bB]at h;obtain⟨_,rfl,rfl,rfl⟩:=h;have:vals=[]:=AJ (by have:=hv.1;simpa[bh]using this.symm);subst this;exact⟨λo ho=>(by cases ho),λo ho=>(by cases ho),λo ho=>(by cases ho),λ_ _ _ _ _ _ _ _=>⟨[],[],.nil,.nil,rfl,λj a b h=>by simp at h⟩⟩
 | .one c::ps,v::l,vals,x,fz,ow,bs,_,h,hv=>by
  intro _;simp only[dY]at h;split at h
  .rename_i x1 a1 b1 h1 a2 b2 bs2 e1 e2;simp only[bf,bB]at h;obtain⟨rfl,rfl,rfl,rfl⟩:=h
   match vals,hv with
   |val::vals,hv=>have Dm:aJ g w (low v) val:=hv.2 0 _ _ rfl rfl;have OQ:PW (aJ g w) (bh l) vals:=⟨by have:=hv.1;simpa[bh]using this,λj a b k1 k2=>hv.2 (j+1) a b (by simpa[bh]using k1) (by simpa using k2)⟩;obtain⟨p1,p2,p3⟩:=Cb hS hs e1 Dm;obtain⟨q1,q2,q4,q3⟩:=jP hS hs e2 OQ (λo ho=>by cases ho);refine⟨λo ho=>(eg.1 ho).elim (p1 o) (q1 o),λo ho=>(eg.1 ho).elim (p2 o) (q2 o),q4,λg1 s1 jZ fq he hf hsub hsame=>?_⟩;obtain⟨vC,k1,k2⟩:=p3 g1 s1 jZ fq he hf (λo ho=>hsub o (eJ _ ho)) (λo ho=>hsame o (eJ _ ho));obtain⟨wk,bl,k3,k4,k5⟩:=q3 g1 s1 jZ fq he hf (λo ho=>hsub o (iW _ ho)) (λo ho=>hsame o (iW _ ho));exact⟨_,bl,.one k1 k3,k2.append k4,k5⟩
   |[],hv=>exact absurd hv.1 (by simp[bh])
  .cases h
 | .box k::ps,v::l,vals,x,fz,ow,bs,nx0,h,hv=>by
  intro _;simp only[dY]at h;split at h
  .rename_i o hkp;obtain rfl:=JI hkp;rcases af h with⟨hb,h9⟩|⟨_,h9⟩
   .clear h;rw[AI]at hb;split at h9;rotate_left
    .cases h9
    rename_i x1 a1 b1 nx e1;split at h9;rotate_left
    .cases h9
    rename_i h1 a2 b2 bs2 e2;simp only[bf,bB]at h9;obtain⟨rfl,rfl,rfl,rfl⟩:=h9
    match vals,hv with
    |val::vals,hv=>
     have Dm:aJ g w (low (Td k o)) val:=hv.2 0 _ _ rfl rfl;have OQ:PW (aJ g w) (bh l) vals:=⟨by have:=hv.1;simpa[bh]using this,λj a b k1 k2=>hv.2 (j+1) a b (by simpa[bh]using k1) (by simpa using k2)⟩;obtain⟨b,Tx,rfl⟩:=EH Dm;obtain⟨p0,hx,hh,p1,p2,p3⟩:=p8 hS hs Tx e1;obtain⟨hpt,OZ⟩:=zp hs Tx e1;obtain⟨q1,q2,q4,q3⟩:=jP hS hs e2 OQ hpt;refine⟨λo ho=>(eg.1 ho).elim (p1 o) (q1 o),λo ho=>(eg.1 ho).elim (p2 o) (q2 o),λk hk=>?_,λg1 s1 jZ fq he hf hsub hsame=>?_⟩
     .rcases fc.1 hk with rfl|hk
      .exact ⟨fQ hb.1,p0⟩
      .exact q4 k hk
     .obtain ⟨wk,bl,k3,k4,k5⟩:=q3 g1 s1 jZ fq he hf (λo ho=>hsub o (iW _ ho)) (λo ho=>hsame o (iW _ ho));obtain⟨vC,k1,k2⟩:=p3 g1 s1 jZ fq he hf (λo ho=>hsub o (eJ _ ho)) (λo ho=>hsame o (eJ _ ho)) (dF bl) (BZ hb.2 OZ e2 k5);refine⟨_,b::bl,.box hh k1 k3,k2.append k4,by simp[k5.1],λj a c m1 m2=>?_⟩;cases j with|zero=>simp at m1 m2;subst m1;subst m2;exact he.cj _ _ Tx|succ j=>exact k5.2 j a c (by simpa using m1) (by simpa using m2)
    |[],hv=>exact absurd hv.1 (by simp[bh])
   .cases h9
  .cases h
 | .hid k::ps,l,vals,x,fz,ow,bs,some o,h,hv=>by
  intro OW;simp only[dY]at h;rcases af h with⟨hb,h9⟩|⟨_,h9⟩;rotate_left
  .cases h9
  clear h;rw[AI]at hb;split at h9;rotate_left
  .cases h9
  rename_i x1 a1 b1 nx e1;split at h9;rotate_left
  .cases h9
  rename_i h1 a2 b2 bs2 e2;simp only[bf,bB]at h9;obtain⟨rfl,rfl,rfl,rfl⟩:=h9;obtain⟨b,Tx⟩:=OW o rfl;obtain⟨p0,hx,hh,p1,p2,p3⟩:=p8 hS hs Tx e1;obtain⟨hpt,OZ⟩:=zp hs Tx e1;obtain⟨q1,q2,q4,q3⟩:=jP hS hs e2 hv hpt;refine⟨λo ho=>(eg.1 ho).elim (p1 o) (q1 o),λo ho=>(eg.1 ho).elim (p2 o) (q2 o),λk hk=>?_,λg1 s1 jZ fq he hf hsub hsame=>?_⟩
  .rcases fc.1 hk with rfl|hk
   .exact ⟨fQ hb.1,p0⟩
   .exact q4 k hk
  .obtain ⟨wk,bl,k3,k4,k5⟩:=q3 g1 s1 jZ fq he hf (λo ho=>hsub o (iW _ ho)) (λo ho=>hsame o (iW _ ho));obtain⟨vC,k1,k2⟩:=p3 g1 s1 jZ fq he hf (λo ho=>hsub o (eJ _ ho)) (λo ho=>hsame o (eJ _ ho)) (dF bl) (BZ hb.2 OZ e2 k5);refine⟨_,b::bl,.hid hh k1 k3,k2.append k4,by simp[k5.1],λj a c m1 m2=>?_⟩;cases j with|zero=>simp at m1 m2;subst m1;subst m2;exact he.cj _ _ Tx|succ j=>exact k5.2 j a c (by simpa using m1) (by simpa using m2)
 |[],_::_,_,_,_,_,_,_,h,_=>by simp[dY]at h
 | .one _::_,[],_,_,_,_,_,_,h,_=>by simp[dY]at h
 | .box _::_,[],_,_,_,_,_,_,h,_=>by simp[dY]at h
 | .hid _::_,_,_,_,_,_,_,none,h,_=>by simp[dY]at h
end
section
def Gh.drop_nil(g:Gh):g.drop []=g:=by cases g;simp[Gh.drop]
def Ey{os:List Nat}:∀{l:List (V S)},nC os l=false->∀v∈l,gR os v=false
 |[],_,v,hv=>by cases hv
 |a::l,h,v,hv=>by
  simp only[nC,wA]at h;rcases fc.1 hv with rfl|hv
  .exact h.1
  .exact Ey h.2 v hv
def Ex{α:Type}{os:List Nat}:∀{l:List (α×V S)},JC os l=false->∀p∈l,gR os p.2=false
 |[],_,v,hv=>by cases hv
 |a::l,h,v,hv=>by
  simp only[JC,wA]at h;rcases fc.1 hv with rfl|hv
  .exact h.1
  .exact Ex h.2 v hv
def Di{p:V S->Bool}{f:V S->V S}(hf:∀v,p v=false->f v=v):∀{t:Tr (V S)},qd p t=false->t.mapA f=t
 | .nil,_=>rfl
 | .node v l r,h=>by simp only[qd,wA]at h;simp only[Tr.mapA,Di hf h.2.1,Di hf h.2.2];cases v with|none=>rfl|some x=>simp only[hf x h.1]
variable {os bl:List Nat}{g:Gh}{w:World}{s:bq S}{vs:List Value}{I:Nat->Prop}{ps:List Pk}{al:List fB}
def Bi{v:V S}(h:gR os v=false):pF os v=v:=by simp only[pF,h,gE]
def Py{ob:wP S}(h:Jz os ob=false):mW os ob=ob:=by
 cases ob with
 |box cs=>simp only[mW,wP.box.injEq];have:∀v∈cs,pF os v=v:=λv hv=>Bi (Ey h v hv);exact(Ma this).trans (List.map_id _)
 |GQ kt l=>
  simp only[mW];have:∀p∈l,((p.1,pF os p.2):den S.A kt×V S)=p:=λp hp=>by rw[Bi (Ex h p hp)]
  rw[(Ma this).trans (List.map_id _)]
 |lp l=>simp only[mW,Di (λv=>Bi) (show qd (gR os) l.fr.tm=false from h)]
 |kE n j l era m dg hole=>have h:os.contains m=false:=h;simp only[mW,h,gE]
 |_=>rfl
def u0(os:List Nat)(v:V S):tP (dD os) (low v) (low (pF os v)):=by cases hm:gR os v with|true=>exact .inr ⟨_,by simp only[pF,hm,dM];rfl⟩|false=>exact .inl ⟨by simp only[pF,hm,gE],by rw[jR];exact hm⟩
def I4(os:List Nat)(t:Ty)(x:den S.A t):tP (dD os) (eB S t x) (eB S t x):=.inl ⟨rfl,jR (S:=S) os (.ty t x)⟩
def Ke(os:List Nat)(ob:wP S):X3 os (cQ ob) (cQ (mW os ob)):=by
 cases ob with
 |box cs=>refine⟨by simp[eR],λj t u h1 h2=>?_⟩;simp only[gi,gQ,eA]at h1 h2;obtain⟨v,hv,rfl⟩:=h1;obtain⟨v',⟨v'',ET,rfl⟩,rfl⟩:=h2;rw[hv]at ET;cases ET;exact u0 os v
 |map kt vt l=>refine⟨rfl,λj t u h1 h2=>?_⟩;rw[h1]at h2;cases h2;simp only[gQ,eA]at h1;obtain⟨p,_,rfl⟩:=h1;exact⟨I4 os _ _,I4 os _ _⟩
 |GQ kt l=>refine⟨by simp,λj t u h1 h2=>?_⟩;simp only[gQ,eA]at h1 h2;obtain⟨v,hv,rfl⟩:=h1;obtain⟨v',⟨v'',ET,rfl⟩,rfl⟩:=h2;rw[hv]at ET;cases ET;exact⟨I4 os _ _,u0 os _⟩
 |lp l=>refine⟨rfl,rfl,λk u hk=>?_⟩;have hk':((l.fr.tm.mapA (pF os)).map low).get k=some u:=hk;rw[Tr.get_map,Tr.o4,HS,eA]at hk';obtain⟨v,hv,rfl⟩:=hk';exact⟨low v,by show(l.fr.tm.map low).get k=_;rw[Tr.get_map,hv];rfl,u0 os v⟩
 |arr=>rfl
 |kf=>rfl
 |pO=>rfl
 |Av=>rfl
 |rws=>rfl
 |gone=>rfl
 |kE n j l era m dg hole=>
  cases hm:os.contains m with|true=>exact .inr (by simp only[mW,hm,dM];rfl)|false=>exact .inl ⟨by simp only[mW,hm,gE];rfl,hm⟩
def E3(os:List Nat)(s:bq S)(o:Nat):(forget os s).ob.get o=if os=[]then s.ob.get o else(s.ob.get o).map (mW os):=by cases os with|nil=>rfl|cons a os=>rw[bw (by simp)];exact Tr.o4 _ _ _
def MS(os:List Nat)(hs:bg g (aF s) w):bg (g.drop os) (aF (forget os s)) w:=by cases os with|nil=>rw[Gh.drop_nil];exact hs|cons a os=>refine hs.drop rfl λo Ar h=>?_;rw[aV,E3,bw (by simp),HS,eA]at h;obtain⟨ob,cB,rfl⟩:=h;exact⟨cQ ob,by rw[aV,cB];rfl,Ke _ ob⟩
def MR(os:List Nat)(s:bq S)(o:Nat)(h:o∉(forget os s).wr):(forget os s).ob.get o=s.ob.get o:=by
 rw[E3];split
 .rfl
 .rename_i hos;cases hg:s.ob.get o with
  |none=>rfl
  |some ob=>
   cases hm:Jz os ob with
   |true=>
    exfalso;apply h;cases os with|nil=>exact absurd rfl hos|cons a os=>exact eJ _ (Tr.sG _ _ _ _ hg hm)
   |false=>rw[dX,Py hm]
def TF(os:List Nat)(s:bq S):(forget os s).fl=s.fl∧(forget os s).lo=s.lo∧(forget os s).aH=s.aH∧(forget os s).dr=s.dr∧∀o∈s.wr,o∈(forget os s).wr:=by cases os with|nil=>exact⟨rfl,rfl,rfl,rfl,λ_ h=>h⟩|cons a os=>exact⟨rfl,rfl,rfl,rfl,λo h=>iW _ h⟩
def ew:∀{os:List Nat}{s s':bq S},dz s os=some s'->s'.fl=s.fl∧s'.lo=s.lo∧s'.aH=s.aH∧(∀o∈s.wr,o∈s'.wr)∧(∀o,o∉s'.wr->s'.ob.get o=s.ob.get o)∧(∀o,o∉os->s'.ob.get o=s.ob.get o)∧s'.dr=s.dr
 |[],s,s',h=>by simp only[dz,bf]at h;subst h;exact⟨rfl,rfl,rfl,λ_ h=>h,λ_ _=>rfl,λ_ _=>rfl,rfl⟩
 |k::os,s,s',h=>by
  simp only[dz]at h;rcases af h with⟨_,h⟩|⟨_,h⟩
  .split at h
   .obtain ⟨h1,h2,h3,h4,h5,h6,h7⟩:=ew h;refine⟨h1,h2,h3,λo ho=>h4 o (gL _ ho),λo ho=>?_,λo ho=>?_,h7⟩
    .rw[h5 o ho];exact Tr.dh _ _ _ _ _ (λe=>ho (h4 o (by rw[e];exact eC)))
    .rw[h6 o (λhm=>ho (gL _ hm))];exact Tr.dh _ _ _ _ _ (λe=>ho (by rw[e];exact eC))
   .obtain ⟨h1,h2,h3,h4,h5,h6,h7⟩:=ew h;exact⟨h1,h2,h3,h4,h5,λo ho=>h6 o (λhm=>ho (gL _ hm)),h7⟩
   .split at h
    .rename_i m r _ _ _ _ _;rcases af h with⟨hb,h⟩|⟨_,h⟩
     .simp only[eE,zi,qA]at hb;obtain⟨h1,h2,h3,h4,h5,h6,h7⟩:=ew h;refine⟨h1,h2,h3,λo ho=>h4 o (gL _ (gL _ ho)),λo ho=>?_,λo ho=>?_,h7⟩
      .rw[h5 o ho];show((s.ob.set aI _ _).set aI k _).get o=_;rw[Tr.dh _ _ _ _ _ (λe=>ho (h4 o (by rw[e];exact eC))),Tr.dh _ _ _ _ _ (λe=>ho (h4 o (by rw[e];exact gL _ eC)))]
      .rw[h6 o (λhm=>ho (gL _ hm))];show((s.ob.set aI _ _).set aI k _).get o=_;rw[Tr.dh _ _ _ _ _ (λe=>ho (by rw[e];exact eC)),Tr.dh _ _ _ _ _ (λe=>ho (by rw[e];exact gL _ hb.1))]
     .cases h
    .cases h
   .obtain ⟨h1,h2,h3,h4,h5,h6,h7⟩:=ew h;exact⟨h1,h2,h3,h4,h5,λo ho=>h6 o (λhm=>ho (gL _ hm)),h7⟩
   .obtain ⟨h1,h2,h3,h4,h5,h6,h7⟩:=ew h;exact⟨h1,h2,h3,h4,h5,λo ho=>h6 o (λhm=>ho (gL _ hm)),h7⟩
   .cases h
  .cases h
structure aqg(bs:List Nat)(g:Gh)(s:bq S)(w:World)(al:List fB)(g':Gh)(s':bq S):Prop where
 rel:bg g' (aF s') w
 le:oh g g'
 bz:g'.bz=g.bz
 own:∀k b,bK g' k b->bK g k b∨(s.aH<=k∧∃a∈al,a.at b)
 fl:s'.fl=s.fl
 lo:s'.lo=s.lo
 aH:s.aH<=s'.aH
 vS:∀o∈s.wr,o∈s'.wr
 wrb:∀o∈bs,o∈s'.wr
 dr:s'.dr=s.dr
 ob:∀o,o<s.aH->o∉bs->s'.ob.get o=s.ob.get o
 cj:g'.cj=g.cj
 arr:∀o,o<s.aH->∀e,g'.arr o e=g.arr o e
def rz:∀{ps:List Pk}{bs:List Nat}{r:iE S.A ps}{s s':bq S},ku s ps bs r=some s'->s.aH<=s'.aH
 |[],[],r,s,s',h=>by simp only[ku,bf]at h;rw[h];exact bT _
 | .one c::ps,bs,r,s,s',h=>rz (ps:=ps) (by simpa only[ku]using h)
 | .box cs::ps,o::bs,r,s,s',h=>by simp only[ku]at h;have h1:=rz h;exact fS (Da _ s _ r.1) h1
 | .hid cs::ps,o::bs,r,s,s',h=>by simp only[ku]at h;have h1:=rz h;exact fS (Da _ s _ r.1) h1
 |[],_::_,_,_,_,h=>by simp[ku]at h
 | .box _::_,[],_,_,_,h=>by simp[ku]at h
 | .hid _::_,[],_,_,_,h=>by simp[ku]at h
def zI{bs:List Nat}(h:PW (λo b=>g.cj o=some b) bs bl):∀b',dF bl=some b'->∃o',dF bs=some o'∧g.cj o'=some b':=by
 intro b' hb
 match bl,bs,h with
 |b::bl,o::bs,h=>cases hb;exact⟨o,rfl,h.2 0 _ _ rfl rfl⟩
 |[],_,_=>cases hb
 |_::_,[],h=>exact absurd h.1 (by simp)
def Me:∀{ps:List Pk}{r:iE S.A ps}{bl:List Nat}{al:List fB}{bs:List Nat}{g:Gh}{w:World}{s s2:bq S},CZ S g.bz w ps r bl al->bg g (aF s) w->PW (λo b=>g.cj o=some b) bs bl->(∀o∈bs,∀e,g.arr o e=none)->
  (∀a∈al,∀b,a.at b->∀o,¬bK g o b)->vQ al->ku s ps bs r=some s2->s2.aH<=bA->∃g',aqg bs g s w al g' s2:=by
 intro ps
 induction ps with
 |nil=>
  intro r bl al bs g w s s2 hb hs dc _ _ _ h _;cases hb;cases bs with|nil=>simp only[ku,bf]at h;subst h;exact⟨g,hs,oh.refl _,rfl,λ_ _ h=>.inl h,rfl,rfl,bT _,λ_ h=>h,λo ho=>(by cases ho),rfl,λ_ _ _=>rfl,rfl,λ_ _ _=>rfl⟩|cons o bs=>exact absurd dc.1 (by simp)
 |cons p ps ih=>
  intro r bl al bs g w s s2 hb hs dc hna hfr hap h hn;cases hb with
  |one hb=>simp only[ku]at h;exact ih hb hs dc hna hfr hap h hn
  | @box kd _ x r b hx bl al mX hh h1 h2=>
   cases bs with
   |nil=>exact absurd dc.1 (by simp)
   |cons o bs=>
    simp only[ku]at h;have cB:g.cj o=some b:=dc.2 0 _ _ rfl rfl;have jD:=so.1 hap;have hn0:=rz h;have O2:(gC s (dF bs) kd x).2.aH<=bA:=fS hn0 hn;obtain⟨g1,hu,EV⟩:=om h1 (zI (bs:=bs) (bl:=bl) ⟨by simpa using dc.1,λj a c k1 k2=>dc.2 (j+1) a c (by simpa using k1) (by simpa using k2)⟩) hs (λa ha=>hfr a (eJ _ ha)) jD.1 O2;have hol:o<s.aH:=hs.lt cB;have hk:=hu.rel.sJ (o:=o) (b:=b) (by rw[hu.cj];exact cB) hh EV (λe=>by rw[hu.arr o hol];exact hna o (by simp) e);have hk2:bg g1 (aF {(gC s (dF bs) kd x).2 with ob:=(gC s (dF bs) kd x).2.ob.set aI o (gC s (dF bs) kd x).1,wr:=o::(gC s (dF bs) kd x).2.wr}) w:=by rw[eZ];exact hk
    obtain⟨g2,hp⟩:=ih (bl:=bl) (al:=mX) (bs:=bs) (g:=g1) (hu.bz▸h2) hk2 ⟨by simpa using dc.1,λj a c k1 k2=>by rw[hu.cj];exact dc.2 (j+1) a c (by simpa using k1) (by simpa using k2)⟩
     (λo' ho' e=>by
      have:o'<s.aH:=by
       obtain⟨j,hj,rfl⟩:=uw ho';have hj':j<bl.length:=by have:=dc.1;simp at this;omega
       exact hs.lt (dc.2 (j+1) bs[j] bl[j] (by simp[hj]) (by simp[hj']))
      rw[hu.arr o' this];exact hna o' (by simp[ho']) e)
     (λa ha b' hb' k hO=>by
      rcases hu.own k b' hO with hO|⟨_,a2,J0,fM⟩
      .exact hfr a (iW _ ha) b' hb' k hO
      .exact jD.2.2 a2 J0 a ha b' fM hb') jD.2.1 h hn
    refine⟨g2,hp.rel,hu.le.trans hp.le,hp.bz.trans hu.bz,λk b' hO=>?_,hp.fl.trans hu.fl,hp.lo.trans hu.lo,fS hu.aH hp.aH,λo' ho'=>?_,λo' ho'=>?_,hp.dr.trans hu.dr,λo' hl ho'=>?_,hp.cj.trans hu.cj,λo' hl e=>?_⟩
    .rcases hp.own k b' hO with hO|⟨k1,a,k2,k3⟩
     .rcases hu.own k b' hO with hO|⟨k1,a,k2,k3⟩
      .exact .inl hO
      .exact .inr ⟨k1,a,eJ _ k2,k3⟩
     .exact .inr ⟨fS hu.aH k1,a,iW _ k2,k3⟩
    .exact hp.vS o' (gL _ (by rw[hu.wr];exact ho'))
    .rcases fc.1 ho' with rfl|ho'
     .exact hp.vS _ eC
     .exact hp.wrb o' ho'
    .have hne:o'≠o:=λe=>ho' (by rw[e];exact eC);rw[hp.ob o' (dy hl hu.aH) (λhm=>ho' (gL _ hm))];simp only;rw[Tr.dh _ _ _ _ _ hne];exact hu.ob o' hl
    .rw[hp.arr o' (dy hl hu.aH)];exact hu.arr o' hl e
  | @hid kd _ x r b hx bl al mX hh h1 h2=>
   cases bs with
   |nil=>exact absurd dc.1 (by simp)
   |cons o bs=>
    simp only[ku]at h;have cB:g.cj o=some b:=dc.2 0 _ _ rfl rfl;have jD:=so.1 hap;have hn0:=rz h;have O2:(gC s (dF bs) kd x).2.aH<=bA:=fS hn0 hn;obtain⟨g1,hu,EV⟩:=om h1 (zI (bs:=bs) (bl:=bl) ⟨by simpa using dc.1,λj a c k1 k2=>dc.2 (j+1) a c (by simpa using k1) (by simpa using k2)⟩) hs (λa ha=>hfr a (eJ _ ha)) jD.1 O2;have hol:o<s.aH:=hs.lt cB;have hk:=hu.rel.sJ (o:=o) (b:=b) (by rw[hu.cj];exact cB) hh EV (λe=>by rw[hu.arr o hol];exact hna o (by simp) e);have hk2:bg g1 (aF {(gC s (dF bs) kd x).2 with ob:=(gC s (dF bs) kd x).2.ob.set aI o (gC s (dF bs) kd x).1,wr:=o::(gC s (dF bs) kd x).2.wr}) w:=by rw[eZ];exact hk
    obtain⟨g2,hp⟩:=ih (bl:=bl) (al:=mX) (bs:=bs) (g:=g1) (hu.bz▸h2) hk2 ⟨by simpa using dc.1,λj a c k1 k2=>by rw[hu.cj];exact dc.2 (j+1) a c (by simpa using k1) (by simpa using k2)⟩
     (λo' ho' e=>by
      have:o'<s.aH:=by
       obtain⟨j,hj,rfl⟩:=uw ho';have hj':j<bl.length:=by have:=dc.1;simp at this;omega
       exact hs.lt (dc.2 (j+1) bs[j] bl[j] (by simp[hj]) (by simp[hj']))
      rw[hu.arr o' this];exact hna o' (by simp[ho']) e)
     (λa ha b' hb' k hO=>by
      rcases hu.own k b' hO with hO|⟨_,a2,J0,fM⟩
      .exact hfr a (iW _ ha) b' hb' k hO
      .exact jD.2.2 a2 J0 a ha b' fM hb') jD.2.1 h hn
    refine⟨g2,hp.rel,hu.le.trans hp.le,hp.bz.trans hu.bz,λk b' hO=>?_,hp.fl.trans hu.fl,hp.lo.trans hu.lo,fS hu.aH hp.aH,λo' ho'=>?_,λo' ho'=>?_,hp.dr.trans hu.dr,λo' hl ho'=>?_,hp.cj.trans hu.cj,λo' hl e=>?_⟩
    .rcases hp.own k b' hO with hO|⟨k1,a,k2,k3⟩
     .rcases hu.own k b' hO with hO|⟨k1,a,k2,k3⟩
      .exact .inl hO
      .exact .inr ⟨k1,a,eJ _ k2,k3⟩
     .exact .inr ⟨fS hu.aH k1,a,iW _ k2,k3⟩
    .exact hp.vS o' (gL _ (by rw[hu.wr];exact ho'))
    .rcases fc.1 ho' with rfl|ho'
     .exact hp.vS _ eC
     .exact hp.wrb o' ho'
    .have hne:o'≠o:=λe=>ho' (by rw[e];exact eC);rw[hp.ob o' (dy hl hu.aH) (λhm=>ho' (gL _ hm))];simp only;rw[Tr.dh _ _ _ _ _ hne];exact hu.ob o' hl
    .rw[hp.arr o' (dy hl hu.aH)];exact hu.arr o' hl e
def DC{l:List (V S)}(h:PW (aJ g w) (bh l) vs):aJ g w (low (GD l)) (valOf vs):=by
 match l,vs,h with
 |[],[],_=>exact .gq _ _ rfl (λj t v h=>by simp[bh]at h)
 |[v],[x],h=>exact h.2 0 _ _ rfl rfl
 |v::v'::l,x::x'::vs,h=>exact .gq _ _ (by simpa using h.1) (λj t u k1 k2=>h.2 j t u k1 (by simpa using k2))
 |[],_::_,h=>exact absurd h.1 (by simp[bh])
 |_::_,[],h=>exact absurd h.1 (by simp[bh])
 |[_],_::_::_,h=>exact absurd h.1 (by simp[bh])
 |_::_::_,[_],h=>exact absurd h.1 (by simp[bh])
def pK.iM{I:Nat->Prop}{w:World}{ps:List Pk}{x:fW S.A ps}{vs:List Value}{al:List fB}{bl:List Nat}(h:pK S I w ps x vs al bl):∀a∈al,∀b,a.at b->¬I b:=by
 induction h with
 |nil=>intro a ha;cases ha
 |one h1 h2 ih=>
  intro a ha b hb;rcases eg.1 ha with ha|ha
  .exact h1.iM a ha b hb
  .exact ih a ha b hb
 |box hh h1 h2 ih=>
  intro a ha b hb;rcases eg.1 ha with ha|ha
  .exact h1.iM a ha b hb
  .exact ih a ha b hb
 |hid hh h1 h2 ih=>
  intro a ha b hb;rcases eg.1 ha with ha|ha
  .exact h1.iM a ha b hb
  .exact ih a ha b hb
def rT{α β:Type}{x:Option α}{f:α->Option β}{r:β}(h:ak x f=some r):∃a,x=some a∧f a=some r:=by
 unfold ak at h;split at h
 .exact ⟨_,rfl,h⟩
 .cases h
def pK.apO{x:fW S.A ps}(h:pK S I w ps x vs al bl):bR ps=true->al=[]∧bl=[]:=by
 induction h with
 |nil=>intro _;exact⟨rfl,rfl⟩
 | @one c ps x h v vs al mX bl h1 h2 ih=>
  intro ho;cases c with
  |own e=>simp[bR]at ho
  |jy n j t=>simp[bR]at ho
  |nil e=>simp[bR]at ho
  |ptr t=>simp[bR]at ho
  |dat t=>
   obtain⟨rfl,rfl⟩:=ih (by simpa[bR]using ho);cases h1 with|dat _ hr=>cases hr;exact⟨rfl,rfl⟩
 |box=>intro ho;simp[bR]at ho
 |hid=>intro ho;simp[bR]at ho
def Ca{s:bq S}:∀{ps:List Pk}{l:List (V S)}{nx:Option Nat}{x:fW S.A ps}{fz ow bs:List Nat},bR ps=true->dY s ps l nx=some (x,fz,ow,bs)->ow=[]
 |[],[],_,x,fz,ow,bs,_,h=>by simp only[dY,bf,bB]at h;exact h.2.2.1.symm
 | .one (.dat t)::ps,v::l,_,x,fz,ow,bs,ho,h=>by
  simp only[dY]at h;split at h
  .rename_i x1 a1 b1 h1 a2 b2 bs2 e1 e2;simp only[bf,bB]at h;obtain⟨_,_,rfl,_⟩:=h;rw[Ca (by simpa[bR]using ho) e2];simp only[l6]at e1;split at e1
   .simp only[bf,bB]at e1;obtain⟨_,_,rfl⟩:=e1;rfl
   .cases e1
  .cases h
 | .one (.jy ..)::_,_,_,_,_,_,_,ho,_=>by simp[bR]at ho
 | .one (.nil _)::_,_,_,_,_,_,_,ho,_=>by simp[bR]at ho
 | .one (.ptr _)::_,_,_,_,_,_,_,ho,_=>by simp[bR]at ho
 | .one (.own _)::_,_,_,_,_,_,_,ho,_=>by simp[bR]at ho
 | .box _::_,_,_,_,_,_,_,ho,_=>by simp[bR]at ho
 | .hid _::_,_,_,_,_,_,_,ho,_=>by simp[bR]at ho
 |[],_::_,_,_,_,_,_,_,h=>by simp[dY]at h
 | .one _::_,[],_,_,_,_,_,_,h=>by simp[dY]at h
def Bf{g:Gh}{I:Nat->Prop}{w w':World}:∀{cs:List Ck}{x:gp S.A cs}{vs:List Value}{al:List fB},se cs=true->jl S I w cs x vs al->PW (aJ g w') (bh (tH cs x)) vs
 |[],x,vs,al,_,h=>by cases h;exact⟨rfl,λj t v h=>by simp[bh,tH]at h⟩
 | .dat t::cs,x,vs,al,hs,h=>by
  cases h with
  | @dat _ _ y h v vs al hd hr=>
  simp only[se,eE]at hs;obtain⟨k1,k2⟩:=Bf (g:=g) (w':=w') hs.2 hr;refine⟨by simp only[tH,bh,fI];rw[k1],λj t' v' q1 q2=>?_⟩;cases j with
  |zero=>
   simp only[tH,bh,sr,bf]at q1 q2;subst q1;subst q2;have:dZ g.bz w' (enc S t y) v:=by
    cases t with
    |int k=>cases hd;exact .lit _
    |bool=>cases hd;exact .lit _
    |str=>cases hd;exact .lit _
    |sl e=>simp[QO]at hs
    |st n=>simp[QO]at hs
    |cR n=>simp[QO]at hs
   exact oE this
  |succ j=>exact k2 j t' v' (by simpa[tH,bh]using q1) (by simpa using q2)
 | .own _::_,_,_,_,hs,_=>by simp[se]at hs
 | .jy ..::_,_,_,_,hs,_=>by simp[se]at hs
 | .nil _::_,_,_,_,hs,_=>by simp[se]at hs
 | .ptr _::_,_,_,_,hs,_=>by simp[se]at hs
def sy(hS:fy S){g:Gh}{w:World}{s:bq S}(hs:bg g (aF s) w):∀{ps:List Pk}{l:List (V S)}{vals:List Value}{x:fW S.A ps}{fz:List Nat},j3 s ps l=some (x,fz)->PW (aJ g w) (bh l) vals->
  (∀o∈fz,Live g (aF s) o)∧∀(g1:Gh)(s1:St)(jZ:List Nat),bg g1 s1 w->Ext s.fl g w g1 w->jM (aF s) s1 jZ->(∀o∈fz,o∈jZ)->∃B:Nat->Prop,(∀b,B b->b<w.heap.size)∧∀I:Nat->Prop,(∀b,g1.bz b∨B b->I b)->pK S I w ps x vals [] []
 |[],[],vals,x,fz,h,hv=>by simp only[j3,bf,bB]at h;obtain⟨_,rfl⟩:=h;have:vals=[]:=AJ (by have:=hv.1;simpa[bh]using this.symm);subst this;exact⟨λo ho=>(by cases ho),λ_ _ _ _ _ _ _=>⟨λ_=>False,λ_ h=>h.elim,λ_ _=>.nil⟩⟩
 |[],_::_,_,_,_,h,_=>by simp[j3]at h
 | .one c::_,[],_,_,_,h,_=>by cases c<;>simp[j3]at h
 | .box _::_,[],_,_,_,h,_=>by simp[j3]at h
 | .hid _::_,[],_,_,_,h,_=>by simp[j3]at h
 | .box _::_,_::_,_,_,_,h,_=>by simp[j3]at h
 | .hid _::_,_::_,_,_,_,h,_=>by simp[j3]at h
 | .one (.own _)::_,_::_,_,_,_,h,_=>by simp[j3]at h
 | .one (.jy ..)::_,_::_,_,_,_,h,_=>by simp[j3]at h
 | .one (.nil _)::_,_::_,_,_,_,h,_=>by simp[j3]at h
 | .one (.dat t)::ps,v::l,[],x,fz,_,hv=>absurd hv.1 (by simp[bh])
 | .one (.ptr t)::ps,v::l,[],x,fz,_,hv=>absurd hv.1 (by simp[bh])
 | .one (.dat t)::ps,v::l,val::vals,x,fz,h,hv=>by
  simp only[j3]at h;split at h;rotate_left
  .cases h
  rename_i y os y2 SV h1 h2;simp only[bf,bB]at h;obtain⟨rfl,rfl⟩:=h;have Dm:aJ g w (low v) val:=hv.2 0 _ _ rfl rfl;have OQ:PW (aJ g w) (bh l) vals:=⟨by have:=hv.1;simpa[bh]using this,λj a b k1 k2=>hv.2 (j+1) a b (by simpa[bh]using k1) (by simpa using k2)⟩;obtain⟨p,hd,hp⟩:=oF hS s t v h1;obtain⟨q1,q2⟩:=kQ hs (low v) hd hp Dm;obtain⟨q3,q4⟩:=sy hS hs h2 OQ;refine⟨λo ho=>(eg.1 ho).elim (q1 o) (q3 o),λg1 s1 jZ fq he hf hsub=>?_⟩;obtain⟨B,hB,hr⟩:=q4 g1 s1 jZ fq he hf (λo ho=>hsub o (iW _ ho));have hx:=q2 g1 s1 fq he (hf.sub λo ho=>hsub o (eJ _ ho));exact⟨B,hB,λI hI=>pK.one (al:=[]) (.dat (hx.le λb hb=>hI b (.inl hb)) .nil) (hr I hI)⟩
 | .one (.ptr t)::ps,v::l,val::vals,x,fz,h,hv=>by
  simp only[j3]at h;split at h;rotate_left
  .cases h
  rename_i y os y2 SV h1 h2;simp only[bf,bB]at h;obtain⟨rfl,rfl⟩:=h;have Dm:aJ g w (low v) val:=hv.2 0 _ _ rfl rfl;have OQ:PW (aJ g w) (bh l) vals:=⟨by have:=hv.1;simpa[bh]using this,λj a b k1 k2=>hv.2 (j+1) a b (by simpa[bh]using k1) (by simpa using k2)⟩;obtain⟨q3,q4⟩:=sy hS hs h2 OQ;unfold abE at h1;split at h1
  .rename_i u z;split at h1;rotate_left
   .cases h1
   rename_i z' hz;simp only[bf,bB]at h1;obtain⟨rfl,rfl⟩:=h1;obtain⟨rfl,hz⟩:=IF hz;cases hz;simp only[low]at Dm;cases Dm with
   |mV _ _ ad vv hi hc hd=>
   refine⟨λo ho=>q3 o (by simpa using ho),λg1 s1 jZ fq he hf hsub=>?_⟩;obtain⟨B,hB,hr⟩:=q4 g1 s1 jZ fq he hf (λo ho=>hsub o (by simpa using ho));exact⟨B,hB,λI hI=>pK.one (al:=[]) (.ptr (hI _ (.inl (he.bz _ hi))) hc (λj c hj=>(hd j c hj).le λb hb=>hI _ (.inl (he.bz _ hb))) .nil) (hr I hI)⟩
  .rename_i o;split at h1;rotate_left
   .cases h1
   rename_i cs ho;rcases af h1 with⟨hst,h1⟩|⟨_,h1⟩;rotate_left
   .cases h1
   simp only[low]at Dm;cases Dm with
   |ptr _ _ b hb=>
   have ho':(aF s).ob.get o=some (.box (bh cs)):=by rw[aV,ho];rfl
   obtain⟨vs,ty,jY,hl,hcell⟩:=(hs.box o b hb).box ho';have E0:aJ g w (low (.agg cs)) (.agg vs):=by simp only[low];exact .agg _ _ hl hcell
   obtain⟨p,hd,hp⟩:=oF hS s t (.agg cs) h1;obtain⟨q1,q2⟩:=kQ hs _ hd hp E0;refine⟨λo ho=>(eg.1 ho).elim (q1 o) (q3 o),λg1 s1 jZ fq he hf hsub=>?_⟩;obtain⟨B,hB,hr⟩:=q4 g1 s1 jZ fq he hf (λo ho=>hsub o (iW _ ho));have hx:=q2 g1 s1 fq he (hf.sub λo ho=>hsub o (eJ _ ho));refine⟨λb'=>B b'∨b'=b,λb' hb'=>hb'.elim (hB b') λe=>by rw[e];exact(hs.box o b hb).2.1,λI hI=>pK.one (al:=[]) ?_ (hr I λb' hb'=>hI b' (hb'.imp id .inl))⟩;cases t with
   |st n=>
    have hx':∃l,enc S (.st n) y=.agg l:=⟨_,rfl⟩;obtain⟨l,hl'⟩:=hx';rw[hl']at hx;cases hx with
    |agg _ _ e1 e2 e3=>
    have ais:∀j,(⟨b,0,none⟩:Addr).add j=⟨b,j,none⟩:=λj=>by
     unfold Addr.add;split
     .rename_i e;rw[e]
     .simp
    have:=jl.ptr (S:=S) (I:=I) (w:=w) (t:=.st n) (cs:=[]) (x:=y) (h:=()) (ad:=⟨b,0,none⟩) (val:=λj=>(vs[j]?).getD undef) (vs:=[]) (al:=[]) (hI _ (.inr (.inr rfl))) (λj c hj=>?_) (λj c hj=>?_) .nil
    .rw[ais]at this;exact this
    .rw[hl']at hj;have hj:l[j]?=some c:=hj;have hlt:j<vs.size:=by rw[<-e1];exact(tW.1 hj).1
     rw[ais,cell?_of_block jY,oN hlt];rfl
    .rw[hl']at hj;have hj:l[j]?=some c:=hj;have hlt:j<vs.size:=by rw[<-e1];exact(tW.1 hj).1
     have:=e3 j c vs[j] hj (oN hlt);rw[oN hlt];exact this.le λb hb=>hI b (.inl hb)
   |_=>cases hst
  .cases h1
def Cq(hS:fy S){P:Program}{f:FuncId}{c:lF S}(MO:bC P f c)(hs:bg g (aF s) w){args:List (V S)}{vs:Array Value}(dc:PW (aJ g w) (bh args) vs.toList)
  {ω:Type} {kp:V S->bq S->Option ω} {k:V S->bq S->List Nat->Option ω} {res:ω} (h:M4 s c args kp k=some res) :
  mM P f∧Calls P f vs w λ
   | .returned v,w'=>∃t s' g' ow,k t s' ow=some res∧aJ g' w' (low t) v∧cN ow s g w s' g' w'
   | .panicked ch,w'=>∃v t s' g',ch=[{v,recovered:=false}]∧kp t s'=some res∧aJ g' w' (low t) v∧cN [] s g w s' g' w'
   | .outgrown,_=>False:=by
 unfold M4 at h;rcases af h with⟨_,h0⟩|⟨_,h0⟩
 .clear h;unfold Xe at h0;rcases af h0 with⟨hc,h1⟩|⟨_,h1⟩;rotate_left
  .cases h1
  clear h0;simp only[eE]at hc;split at h1
  .cases h1
  rename_i x fz hpk;split at h1
  .cases h1
  rename_i s1 hfz;obtain⟨p1,p2⟩:=sy hS hs hpk dc;obtain⟨g1,fq,pT,hfr⟩:=en fz hs (de hS _ hfz) p1;obtain⟨B,hB,xe⟩:=p2 g1 (aF s1) fz fq pT hfr (λo ho=>ho);obtain⟨r0,hF,h2⟩:=rT h1;split at h2;rotate_left
  .cases h2
  rename_i r hr;refine⟨MO.1,(MO.2 x r0 hF (λb=>g1.bz b∨B b) w vs [] [] (xe _ λ_ h=>h) (λb hb=>hb.elim (fq.bz b) (hB b)) .nil .nil (λb hb=>by cases hb)).mono λe w' he=>?_⟩;rw[hr]at he;cases e with|outgrown=>exact he.elim|panicked ch=>exact he.elim|returned v=>obtain⟨I',vr,vC,wk,q1,q2,q3,q4,q5,q6,q7,rfl,q8,q9,_⟩:=he;have jY:∀b,b<w.heap.size->w'.heap[b]?=w.heap[b]?:=λb hb=>q5 b hb (by simp) (by simp);obtain⟨hs',he'⟩:=hs.grow (fl:=s.fl) (I:=g.bz) (w':=w') (λ_ h=>h) (λ_ h=>.inl h) (λb hb=>dy (hs.bz b hb) q4) q4 jY q6 q7;exact⟨_,s,g,[],h2,DC (Bf hc.2.1 q9),hs',he'.HG _,rfl,rfl,bT _,λ_ h=>h,λ_ _ _=>rfl,λt v ht _=>ht.ext he' hs.bz,λo ho=>(by cases ho),λ_ h=>h,λo ho=>(by cases ho)⟩
 clear h;have h:=h0;clear h0;split at h
 .cases h
 rename_i x fz ow bs hpk;split at h
 .cases h
 rename_i s1 hfz;rcases af h with⟨Rr,h2⟩|⟨_,h⟩
 .obtain ⟨p1,_,_,p3⟩:=jP hS hs hpk dc (λo ho=>by cases ho);obtain⟨g1,fq,pT,hfr⟩:=en fz hs (de hS _ hfz) p1;simp only[V4,eE]at Rr;obtain⟨f1,f2,f3,f4,f5,f6,f7⟩:=ew hfz;obtain⟨al,bl,xe,_,_⟩:=p3 g1 (aF s1) fz fq pT hfr (λo ho=>ho) (λo ho=>by rw[Ca Rr.1 hpk]at ho;cases ho);obtain⟨rfl,rfl⟩:=xe.apO Rr.1;clear h;obtain⟨r0,hF,h2⟩:=rT h2;split at h2;rotate_left
  .cases h2
  rename_i r hr;refine⟨MO.1,(MO.2 x r0 hF g1.bz w vs [] [] xe fq.bz .nil .nil (λb hb=>by cases hb)).mono λe w' he=>?_⟩;rw[hr]at he;cases e with|outgrown=>exact he.elim|panicked ch=>exact he.elim|returned v=>obtain⟨I',vr,vC,wk,q1,q2,q3,q4,q5,q6,q7,rfl,q8,q9,_⟩:=he;have jY:∀b,b<w.heap.size->w'.heap[b]?=w.heap[b]?:=λb hb=>q5 b hb (by simp) (by simp);obtain⟨hs',he'⟩:=hs.grow (fl:=s.fl) (I:=g.bz) (w':=w') (λ_ h=>h) (λ_ h=>.inl h) (λb hb=>dy (hs.bz b hb) q4) q4 jY q6 q7;refine⟨_,s,g,[],h2,DC (Bf Rr.2.1 q9),hs',he'.HG _,rfl,rfl,bT _,λ_ h=>h,λ_ _ _=>rfl,λt v ht _=>ht.ext he' hs.bz,λo ho=>(by cases ho),λ_ h=>h,λo ho=>(by cases ho)⟩
 rcases af h with⟨hb,h2⟩|⟨_,h2⟩;rotate_left
 .cases h2
 clear h;simp only[eE]at hb;have sN:=mA hb.1;have aar:=mA hb.2.1;have hap:=yD hb.2.2;unfold ak at h2;split at h2;rotate_left
 .cases h2
 rename_i r hF;dsimp only at h2;obtain⟨p1,p2,p4,p3⟩:=jP hS hs hpk dc (λo ho=>by cases ho);have hfl:=de hS _ hfz;obtain⟨g1,fq,pT,hfr⟩:=en fz hs hfl p1;obtain⟨f1,f2,f3,f4,f5,f6,f7⟩:=ew hfz;obtain⟨al,bl,xe,hal,qf⟩:=p3 g1 (aF s1) fz fq pT hfr (λo ho=>ho) (λo ho=>by rw[aV,aV,f6 o (hap o ho)]);have Ru:∀o∈bs,∃ob,s1.ob.get o=some ob∧sv ob=true:=by
  intro o ho;obtain⟨_,Ux,hvs,qS⟩:=p4 o ho;have hnf:o∉fz:=λhm=>by have:=(p1 o hm).oY (by rw[aV,hvs];rfl);rw[m7 qS]at this;cases this
  exact⟨Ux,by rw[f6 o hnf];exact hvs,qS⟩
 have adX:∀o∈bs,∀e,g1.arr o e=none:=by intro o ho e;obtain⟨vs',hvs,qS⟩:=Ru o ho;cases hx:g1.arr o e with|none=>rfl|some x'=>exfalso;obtain⟨_,h2⟩:=fq.arr o e x' hx;exact Mi qS (h2 _ (by rw[aV,hvs];rfl))
 have hni:∀a∈al,∀b,a.at b->¬g1.bz b:=xe.iM;have CP:=hal.owned hni;have aip:=hal.apart fq sN hni;have o3:∀b∈bl,∃o∈bs,g1.cj o=some b:=by
  intro b hb;obtain⟨j,hj,rfl⟩:=uw hb;have hj':j<bs.length:=by have:=qf.1;omega
  exact⟨bs[j],GK hj',qf.2 j _ _ (gm hj') (gm hj)⟩
 have AZ:∀o∈bs,∃b∈bl,g1.cj o=some b:=by
  intro o ho;obtain⟨j,hj,rfl⟩:=uw ho;have hj':j<bl.length:=by have:=qf.1;omega
  exact⟨bl[j],GK hj',qf.2 j _ _ (gm hj) (gm hj')⟩
 have hOb:∀o b,g1.cj o=some b->bK g1 o b:=λo b h=>⟨(fq.box o b h).1,.inl h⟩;have aoO:bl.Nodup:=by
  refine Q2.2 λi j hi hj hij heq=>?_;have hlen:=qf.1;have hi':i<bs.length:=by omega
  have hj':j<bs.length:=by omega
  have e1:=qf.2 i _ _ (gm hi') (gm hi);have e2:=qf.2 j _ _ (gm hj') (gm hj);rw[<-heq]at e2;exact(Q2.1 aar i j hi' hj' hij) (fq.mj _ _ _ (hOb _ _ e1) (hOb _ _ e2))
 have aek:∀b∈bl,b<w.heap.size∧¬g1.bz b∧∀a∈al,¬a.at b:=by intro b hb;obtain⟨o,ho,cB⟩:=o3 b hb;refine⟨(fq.box o b cB).2.1,(fq.box o b cB).1,λa ha lE=>?_⟩;obtain⟨o',ho',yh⟩:=CP a ha b lE;have:=fq.mj o o' b (hOb o b cB) yh;subst this;obtain⟨vs',hvs,qS⟩:=Ru o ho;obtain⟨_,_,_,oba,aoc,hB⟩:=p2 o ho';rw[f6 o (hap o ho')]at hvs;have hvs:s.ob.get o=some vs':=hvs;rw[aoc]at hvs;cases hvs;have:=s8 hB;rw[m7 qS]at this;cases this
 have core:∀(rs:List Ck)(r:gp S.A rs×iE S.A c.ps)(s2:bq S),ku (IB bs (forget ow {s1 with wr:=ow++s1.wr,dr:=ow++s1.dr})) c.ps bs r.2=some s2->(gH s2 rs r.1).2.aH<=bA->∀(v:Value)(w':World),Dx S g1.bz w c.ps rs r al bl v w'->
   ∃g',aJ g' w' (low (GD (gH s2 rs r.1).1)) v∧cN ow s g w (gH s2 rs r.1).2 g' w':=by
  clear h2;intro rs r s2 hput aop v w' he;obtain⟨I',vr,vC,wk,q1,q2,q3,q4,q5,q6,q7,rfl,q8,q9,q10,q11,q12⟩:=he
  let sF:bq S:=forget ow {s1 with wr:=ow++s1.wr,dr:=ow++s1.dr}
  let sD:bq S:=IB bs sF
  obtain⟨t1,t2,t3,t5,t4⟩:=TF ow {s1 with wr:=ow++s1.wr,dr:=ow++s1.dr};have adO:bg g1 (aF {s1 with wr:=ow++s1.wr,dr:=ow++s1.dr}) w:=fq;have hsF:bg (g1.drop ow) (aF sF) w:=MS ow adO;have aoM:∀o∈bs,o<s1.aH:=λo ho=>by obtain⟨b,_,hb⟩:=AZ o ho;exact fq.lt hb
  have hnob1:s1.aH<=bA:=fq.aH;have WM:∀o,sD.ob.get o=if o∈bs then none else sF.ob.get o:=λo=>Tr.rM bs _ o (λb hb=>by have:=aoM b hb;omega)
  have hsD:bg (g1.drop ow) (aF sD) w:=by
   have hsub:∀o ob,(aF sD).ob.get o=some ob->(aF sF).ob.get o=some ob:=by
    intro o ob h;rw[aV,WM]at h;split at h
    .cases h
    .rw[aV];exact h
   refine⟨hsF.aH,hsF.ak,λo b h=>?_,λo e x h=>?_,hsF.bz,hsF.mj⟩
   .obtain ⟨k1,k2,k3⟩:=hsF.box o b h;exact⟨k1,k2,λob cB=>k3 ob (hsub o ob cB)⟩
   .obtain ⟨k1,k2⟩:=hsF.arr o e x h;exact⟨k1,λob cB=>k2 ob (hsub o ob cB)⟩
  let X:Nat->Prop:=λb=>b∈bl∨∃a∈al,a.at b
  have O9:∀o b,bK (g1.drop ow) o b->bK g1 o b:=λo b h=>Gh.yp h;have ab4:∀a∈al,∀b,a.at b->∀o,¬bK (g1.drop ow) o b:=by
   intro a ha b hb o hO;obtain⟨o',ho',yh⟩:=CP a ha b hb;have:=fq.mj o o' b (O9 o b hO) yh;subst this;obtain⟨_,h|⟨e,x',ad,h,_⟩⟩:=hO
   .have h:g1.cj o=some b:=h;obtain⟨_,_,_,oba,cB,hB⟩:=p2 o ho';have hnb:=fq.zx (o:=o) (ob:=cQ oba) ((aV s1 o).trans (by rw[f6 o (hap o ho'),cB];rfl)) (s8 hB);rw[hnb]at h;cases h
   .exact (Gh.Fl h).1 ho'
  have hstep:bg {g1.drop ow with bz:=I'} (aF sD) w':=by
   refine hsD.step (X:=X) q1 (λb hb=>?_) q3 q4 (λb hb hX=>q5 b hb (λh=>hX (.inl h)) (λa ha h=>hX (.inr ⟨a,ha,h⟩))) (λo b hX hO=>?_) (λb hX=>?_)
   .rcases q2 b hb with h|h|h
    .exact .inl h
    .exact .inr (.inl h)
    .exact .inr (.inr (.inr h))
   .rcases hX with hX|⟨a,ha,hab⟩
    .obtain ⟨o',ho',aod⟩:=o3 b hX;have:=fq.mj o o' b (O9 o b hO) (hOb _ _ aod);subst this;exact⟨by rw[aV,WM,bL ho'];rfl,(q12 b hX).1⟩
    .exact absurd hO (ab4 a ha b hab o)
   .rcases hX with hX|⟨a,ha,hab⟩
    .exact (aek b hX).2.1
    .exact hni a ha b hab
  have abQ:∀o b,bK ({g1.drop ow with bz:=I'}:Gh) o b->bK (g1.drop ow) o b:=λo b h=>⟨λhi=>h.1 (q1 b hi),h.2⟩;have hfresh:∀a∈vC++wk,∀b,a.at b->∀o,¬bK ({g1.drop ow with bz:=I'}:Gh) o b:=by
   intro a ha b hb o hO;have hO:=abQ o b hO;rcases q11 a ha b hb with⟨a',Zb,hb'⟩|hge
   .exact ab4 a' Zb b hb' o hO
   .have:=(hsD.rB hO).1;omega
  have aep:=so.1 q10;have hs3n:s2.aH<=(gH s2 rs r.1).2.aH:=mY _ _ _;obtain⟨g4,hp⟩:=Me (g:={g1.drop ow with bz:=I'}) (s:=sD) q8 hstep qf (λo ho e=>by
    show(if o∈ow then none else g1.arr o e)=none;split
    .rfl
    .exact adX o ho e) (λa ha=>hfresh a (eJ _ ha)) aep.1 hput (by omega)
  obtain⟨g5,hu,an1⟩:=mo (g:=g4) (by rw[hp.bz];exact q9) hp.rel (λa ha b hb o hO=>by
    rcases hp.own o b hO with hO|⟨_,a2,J0,fM⟩
    .exact hfresh a (iW _ ha) b hb o hO
    .exact aep.2.2 a2 J0 a ha b fM hb) aep.2.1 aop
  have hle:oh ({g1.drop ow with bz:=I'}:Gh) g5:=hp.le.trans hu.le;have abY:g5.bz=I':=hu.bz.trans hp.bz;have hnobD:sD.aH=s1.aH:=t3;have aof:s1.aH<=(gH s2 rs r.1).2.aH:=by have:=hp.aH;omega
  have ahR:∀k b,bK g5 k b->bK g k b∨(s.fl<=k∧∃o',s.fl<=o'∧bK g o' b)∨w.heap.size<=b:=by
   intro k b hO;have abU:∀a∈vC++wk,a.at b->s1.aH<=k->bK g k b∨(s.fl<=k∧∃o',s.fl<=o'∧bK g o' b)∨w.heap.size<=b:=by
    intro a ha hab hk';rcases q11 a ha b hab with⟨a',Zb,hb'⟩|hge
    .obtain ⟨o',ho',yh⟩:=CP a' Zb b hb';rcases pT.own o' b yh with yh|hge
     .have Wx:=p2 o' ho';exact .inr (.inl ⟨by omega,o',Wx.1,yh⟩)
     .exact .inr (.inr hge)
    .exact .inr (.inr hge)
   rcases hu.own k b hO with hO|⟨h1,a,ha,hab⟩
   .rcases hp.own k b hO with hO|⟨h1,a,ha,hab⟩
    .rcases pT.own k b (O9 k b (abQ k b hO))with hO|hge
     .exact .inl hO
     .exact .inr (.inr hge)
    .exact abU a (eJ _ ha) hab (by omega)
   .have:=hp.aH;exact abU a (iW _ ha) hab (by omega)
  refine⟨g5,DC an1,hu.rel,⟨λo b hb=>?_,λo e y hl hy=>?_,λb hb=>?_,q4,λb hb hno=>?_,λo b ho hO=>?_,λb hb=>?_,q6,q7⟩,?_,?_,?_,λo ho=>?_,λo hl ho=>?_,λt v ht hm=>?_,λo ho=>?_,λo ho=>?_,λo ho=>?_⟩
  .rw[hu.cj,hp.cj];exact pT.cj o b hb
  .have hno:o∉ow:=λhm=>by have:=(p2 o hm).2.1;omega
   have h1:({g1.drop ow with bz:=I'}:Gh).arr o e=some y:=by show(if o∈ow then none else g1.arr o e)=some y;rw[bw hno];exact pT.arr o e y hy
   exact hle.arr o e y h1
  .rw[abY];exact q1 b (pT.bz b hb)
  .refine q5 b hb (λhm=>?_) (λa ha hab=>?_)
   .obtain ⟨o,ho,cB⟩:=o3 b hm;rcases pT.own o b (hOb o b cB)with hO|hge
    .exact hno o (p4 o ho).1 hO
    .omega
   .obtain ⟨o,ho,hO⟩:=CP a ha b hab;rcases pT.own o b hO with hO|hge
    .exact hno o (p2 o ho).1 hO
    .omega
  .rcases ahR o b hO with h|⟨_,h⟩|h
   .exact .inl ⟨o,ho,h⟩
   .exact .inl h
   .exact .inr h
  .rw[abY]at hb;rcases q2 b hb with h|h|⟨a,ha,hab⟩
   .exact pT.uJ b h
   .exact .inr (.inl h)
   .obtain ⟨o,ho,hO⟩:=CP a ha b hab;rcases pT.own o b hO with hO|hge
    .exact .inr (.inr ⟨o,(p2 o ho).1,hO⟩)
    .exact .inr (.inl hge)
  .exact hu.fl.trans (hp.fl.trans (t1.trans f1))
  .exact hu.lo.trans (hp.lo.trans (t2.trans f2))
  .omega
  .rw[hu.wr];exact hp.vS o (t4 o (iW _ (f4 o ho)))
  .rw[hu.wr]at ho;have h1:o∉bs:=λhm=>ho (hp.wrb o hm);have h2:o∉sF.wr:=λhm=>ho (hp.vS o hm);have h3:o∉s1.wr:=λhm=>h2 (t4 o (iW _ hm));rw[hu.ob o (by have:=hp.aH;omega),hp.ob o (by omega) h1,WM,bw h1,MR _ _ _ h2];exact f5 o h3
  .have h1:=ht.ext pT hs.bz;have h2:=h1.drop hm;have hkp:tQ (g1.drop ow).bz w w':=λb hb=>q5 b (fq.bz b hb) (λZa=>(aek b Za).2.1 hb) (λa ha hab=>hni a ha b hab hb);have h3:aJ ({g1.drop ow with bz:=I'}:Gh) w' t v:=by
    clear hm h1 ht
    induction h2 with|sym d v hd=>exact .sym d v (hd.mono hkp q1)|kb b=>exact .kb b|kn k n=>exact .kn k n|ptr o off b hb=>exact .ptr o off b hb|mV d off ad val jt hc hd=>exact .mV d off ad val (q1 _ jt) (λj c hj=>by rw[hkp.cell (by rw[kZ];exact jt)];exact hc j c hj) (λj c hj=>(hd j c hj).mono hkp q1)|kL o e i off len cap sz ad hx=>exact .kL o e i off len cap sz ad hx|sh o e len cap sz a hx=>exact .sh o e len cap sz a hx|emp a=>exact .emp a|jI n es a hn hd=>exact .jI n es a hn (hd.mono hkp q1)|fn f fs cs va vc hl hm _ _ ih Tj=>exact .fn f fs cs va vc hl hm ih Tj|cR t x v _ ih=>exact .cR t x v ih|agg cs vs hl _ ih=>exact .agg cs vs hl ih|gq cs vs hl _ ih=>exact .gq cs vs hl ih|gd c t v _ ih=>exact .gd c t v ih|mp o b hb=>exact .mp o b hb|rZ o b hb=>exact .rZ o b hb|rY o b hb=>exact .rY o b hb|ub e b h=>exact .ub e b h|qF o m r i len cap sz a hx=>exact .qF o m r i len cap sz a hx|n9 j d c a hj hd=>exact .n9 j d c a hj (hd.mono hkp q1)
   exact h3.le hle
  .rw[hu.wr];exact hp.vS o (t4 o (eJ _ ho))
  .rw[hu.dr,hp.dr];show o∈sF.dr;rw[t5];exact iW _ (by rw[f7];exact ho)
  .rw[hu.dr,hp.dr];show o∈sF.dr;rw[t5];exact eJ _ ho
 refine⟨MO.1,(MO.2 x r hF g1.bz w vs al bl xe fq.bz aip aoO aek).mono λe w' he=>?_⟩;cases e with
 |outgrown=>exact he.elim
 |returned v=>
  simp only[wo]at he;split at he;rotate_left
  .exact he.elim
  rename_i r' hr';rw[hr']at h2;dsimp only at h2;split at h2
  .cases h2
  rename_i s2 hput;rcases af h2 with⟨hlt,hk⟩|⟨_,hk⟩;rotate_left
  .cases hk
  obtain⟨g5,k1,k2⟩:=core c.rs r' s2 hput (fQ hlt) v w' he;exact⟨_,_,g5,ow,hk,k1,k2⟩
 |panicked ch=>
  simp only[wo]at he;split at he
  .exact he.elim
  rename_i p hp;obtain⟨v,rfl,he⟩:=he;rw[hp]at h2;dsimp only at h2;split at h2
  .cases h2
  rename_i s2 hput;split at h2;rotate_left
  .cases h2
  rcases af h2 with⟨hlt,hk⟩|⟨_,hk⟩;rotate_left
  .cases hk
  obtain⟨g5,k1,k2⟩:=core [.dat S.pt] ((p.1,()),p.2) s2 hput (fQ hlt) v w' he;exact⟨v,_,_,g5,rfl,hk,k1,k2⟩
end
section
structure iG(s s':bq S):Prop where
 vS:∀o∈s.wr,o∈s'.wr
 same:∀o,o<s.aH->o∉s'.wr->s'.ob.get o=s.ob.get o
 dr:s'.dr=s.dr
def iG.refl(s:bq S):iG s s:=⟨λ_ h=>h,λ_ _ _=>rfl,rfl⟩
variable {g:Gh}{w:World}{s s':bq S}{i:TI}{x v:V S}{c:Bool}{E:gA}
def cN.l7{g':Gh}{w':World}(hs:bg g (aF s) w)(h1:bg g' (aF s') w')(h2:Ext s.fl g w g' w')(h3:s'.fl=s.fl)(h4:s'.lo=s.lo)(h5:s.aH<=s'.aH)(h6:iG s s'):cN [] s g w s' g' w':=
 ⟨h1,h2.HG _,h3,h4,h5,h6.vS,h6.same,λ_ _ ht _=>ht.ext h2 hs.bz,λo ho=>(by cases ho),λo ho=>h6.dr▸ho,λo ho=>(by cases ho)⟩
def cN.refl{g:Gh}{w:World}{s:bq S}(hs:bg g (aF s) w):cN [] s g w s g w:=
 cN.l7 hs hs (Ext.refl _ _ _) rfl rfl (bT _) (iG.refl _)
def iN(s:bq S)(ob:wP S)(hn:s.aH<bA):iG s (dn s ob):=
 ⟨λ_ h=>h,λo ho _=>by simp only[dn];rw[Tr.aT _ _ _ _ hn,bw (by omega)],rfl⟩
def kU{os:List Nat}(h:dz s os=some s'):iG s s':=by obtain⟨_,_,_,h1,h2,_,h3⟩:=ew h;exact⟨h1,λo _ ho=>h2 o ho,h3⟩
def sd(s:bq S)(o:Nat)(ob:wP S):iG s {s with ob:=s.ob.set aI o ob,wr:=o::s.wr}:=
 ⟨λ_ h=>gL _ h,λk _ hk=>Tr.dh _ _ _ _ _ (λe=>hk (by rw[e];exact eC)),rfl⟩
def iG.trans'{s'':bq S}(h:iG s s')(hn:s.aH<=s'.aH)(k:iG s' s''):iG s s'':=
 ⟨λo ho=>k.vS o (h.vS o ho),λo ho hno=>(k.same o (dy ho hn) hno).trans (h.same o ho (λhm=>hno (k.vS o hm))),k.dr.trans h.dr⟩
def Oe{a:V S}(h:DF i s a x=some (c,v,s')):iG s s':=by
 unfold DF at h;split at h
 .cases h
 .split at h
  .split at h
   .rcases af h with⟨_,h⟩|⟨_,h⟩
    .simp only[bf,bB]at h;obtain⟨_,_,rfl⟩:=h;exact sd _ _ _
    .cases h
   .cases h
  .split at h
   .split at h
    .split at h
     .rename_i hfz;split at h
      .split at h
       .rcases af h with⟨_,h⟩|⟨_,h⟩
        .simp only[bf,bB]at h;obtain⟨_,_,rfl⟩:=h;exact(kU hfz).trans' (zl (ew hfz).2.2.1.symm) (sd _ _ _)
        .cases h
       .cases h
      .cases h
     .cases h
    .cases h
   .cases h
  .cases h
def DK{τ:Option Ty}{l h m:Option (V S)}(he:uu i τ s x l h m=some (c,v,s')):s'=s∨dz s (Mm x)=some s':=by
 unfold uu at he
 repeat' split at he
 all_goals first
  |(cases he;done)
  |(
    simp only[bf,bB]at he;obtain⟨_,_,rfl⟩:=he;first|exact .inl rfl|(right;assumption))
def VL{fr:bV S}{o:Op}(h:cn E fr s o=some (c,v,s')):iG s s':=by
 have same:s'=s->iG s s':=λe=>e▸iG.refl _;cases o with
 |alloc t=>
  simp only[cn]at h;split at h
  .rcases af h with⟨hb,h⟩|⟨_,h⟩
   .simp only[bf,bB]at h;obtain⟨_,_,rfl⟩:=h;exact iN _ _ (fQ hb)
   .cases h
  .cases h
 |box t x=>
  simp only[cn]at h;split at h
  .rcases af h with⟨hb,h⟩|⟨_,h⟩
   .simp only[eA,bB]at h;obtain⟨_,_,_,_,rfl⟩:=h;exact iN _ _ (fQ hb)
   .cases h
  .cases h
 |buildSlice t n ps=>
  simp only[cn]at h;split at h
  .split at h
   .rcases af h with⟨_,h⟩|⟨_,h⟩
    .split at h
     .simp only[eA,bB]at h;obtain⟨s1,fq,_,_,rfl⟩:=h;exact kU fq
     .cases h
    .cases h
   .cases h
  .cases h
 |store t x y=>
  simp only[cn]at h;split at h
  .exact Oe h
  .cases h
 |slice t x lo hi mx=>
  simp only[cn]at h;split at h
  .rcases DK h with rfl|h
   .exact iG.refl _
   .exact kU h
  .cases h
 |move x=>simp only[cn,eA,bB]at h;obtain⟨_,_,_,_,rfl⟩:=h;exact iG.refl _
 |assign x=>simp only[cn,eA,bB]at h;obtain⟨_,_,_,_,rfl⟩:=h;exact iG.refl _
 |pick x y z=>
  simp only[cn]at h;split at h
  .simp only[eA,bB]at h;obtain⟨_,_,_,_,rfl⟩:=h;exact iG.refl _
  .cases h
 |build t ps=>
  simp only[cn]at h;split at h
  .split at h
   .simp only[eA,bB]at h;obtain⟨_,_,_,_,rfl⟩:=h;exact iG.refl _
   .cases h
  .cases h
 |load t x=>
  simp only[cn]at h;split at h
  .unfold w8 at h;split at h
   .split at h
    .dsimp only at h;rcases af h with⟨_,h⟩|⟨_,h⟩
     .simp only[eA,bB]at h;obtain⟨_,_,_,_,rfl⟩:=h;exact iG.refl _
     .cases h
    .cases h
   .simp only[eA,bB]at h;obtain⟨_,_,_,_,rfl⟩:=h;exact iG.refl _
   .split at h
    .simp only[eA,bB]at h;obtain⟨_,_,_,_,rfl⟩:=h;exact iG.refl _
    .cases h
   .cases h
  .cases h
 |nilCheck x=>
  simp only[cn]at h;split at h;all_goals first
   |(cases h;done)
   |(
     simp only[bf,bB]at h;obtain⟨_,_,rfl⟩:=h;exact iG.refl _)
 |binOp op t x y u=>
  simp only[cn]at h;split at h
  .simp only[eA,bB]at h;obtain⟨_,_,_,_,rfl⟩:=h;exact iG.refl _
  .cases h
 |unOp op t x=>
  simp only[cn]at h;split at h
  .simp only[eA,bB]at h;obtain⟨_,_,_,_,rfl⟩:=h;exact iG.refl _
  .cases h
 |convert t u x=>
  simp only[cn]at h;split at h
  .exact same (Bh h).1
  .cases h
 |makeInterface t x=>
  simp only[cn]at h;split at h
  .split at h
   .cases h
   .simp only[bf,bB]at h;obtain⟨_,_,rfl⟩:=h;exact iG.refl _
  .cases h
 |makeFunc f a b=>
  simp only[cn]at h;split at h
  .simp only[bf,bB]at h;obtain⟨_,_,rfl⟩:=h;exact iG.refl _
  .cases h
 |extract x k=>
  simp only[cn]at h;split at h
  .exact same (sS h).1
  .cases h
 |fieldAddr t x k=>
  simp only[cn]at h;split at h
  .exact same (o6 h).1
  .cases h
 |field t x k=>
  simp only[cn]at h;split at h
  .unfold A7 at h;split at h
   .split at h
    .dsimp only at h;rcases af h with⟨_,h⟩|⟨_,h⟩
     .simp only[eA,bB]at h;obtain⟨_,_,_,_,rfl⟩:=h;exact iG.refl _
     .cases h
    .cases h
   .cases h
  .cases h
 |indexAddr t x y=>
  simp only[cn]at h;split at h
  .unfold jB at h;split at h
   .split at h
    .split at h
     .rcases af h with⟨_,h⟩|⟨_,h⟩
      .simp only[bf,bB]at h;obtain⟨_,_,rfl⟩:=h;exact iG.refl _
      .cases h
     .cases h
    .split at h
     .simp only[bf,bB]at h;obtain⟨_,_,rfl⟩:=h;exact iG.refl _
     .cases h
   .cases h
  .cases h
 |index t x y=>
  simp only[cn]at h;split at h
  .unfold AU at h;split at h
   .simp only[bf,bB]at h;obtain⟨_,_,rfl⟩:=h;exact iG.refl _
   .cases h
  .cases h
 |typeAssert x t u ok=>
  simp only[cn]at h;split at h
  .exact same (vz h).1
  .cases h
 |_=>simp[cn]at h
def Hs{b:Builtin}{ats:Array TypeId}{args:List (V S)}(h:e8 E s b ats args=some (c,v,s')):iG s s':=by
 unfold e8 at h;split at h
 .split at h
  .split at h
   .simp only[bf,bB]at h;obtain⟨_,_,rfl⟩:=h;exact iG.refl _
   .cases h
  .split at h
   .simp only[eA,bB]at h;obtain⟨_,_,_,_,rfl⟩:=h;exact iG.refl _
   .cases h
  .cases h
 .split at h
  .split at h
   .split at h
    .unfold Du at h;rcases af h with⟨_,h⟩|⟨hnb,h⟩
     .cases h
     .have hlt:s.aH<bA:=by
       have:Nat.blt s.aH bA=true:=by simpa using hnb
       exact fQ this
      split at h
      .split at h
       .simp only[bf,bB]at h;obtain⟨_,_,rfl⟩:=h;exact iN _ _ hlt
       .split at h
        .split at h
         .simp only[bf,bB]at h;obtain⟨_,_,rfl⟩:=h;exact iN _ _ hlt
         .simp only[bf,bB]at h;obtain⟨_,_,rfl⟩:=h;exact iG.refl _
        .cases h
       .split at h
        .split at h
         .rcases af h with⟨_,h⟩|⟨_,h⟩
          .simp only[bf,bB]at h;obtain⟨_,_,rfl⟩:=h;exact sd _ _ _
          .cases h
         .cases h
        .cases h
       .cases h
      .cases h
    .cases h
   .cases h
  .cases h
 .cases h
end
section
section
variable {g:Gh}{w w':World}
variable {s:St}{o b c:Nat}{ob:Ob}{kt:Ty}{u z:Value}{ms:Array MapEntry}
def bg.setObj(hs:bg g s w)(hb:g.cj o=some b){Ux:Ob}(hsome:s.ob.get o=some ob)(adV:ob.odd=true)(hfl:s.fl<=o){x':Obj}(hr:gU g w Ux x')
  (hsize:w'.heap.size=w.heap.size) (yc:∀b',b'≠b->w'.heap[b']?=w.heap[b']?) (hnew:w'.heap[b]?=some x') (hos:w'.os=w.os) (hout:w'.output=w.output) :
  bg g {s with ob:=s.ob.set aI o Ux} w'∧Ext s.fl g w g w':=by
 have hown:bK g o b:=⟨(hs.box o b hb).1,.inl hb⟩;have cB:o<bA:=dy (hs.lt hb) hs.aH;have he:Ext s.fl g w g w':=
  ⟨λ_ _ h=>h,λ_ _ _ h=>h,λ_ h=>h,by omega,λb' _ hn=>yc b' (λe=>hn o hfl (e▸hown)),λ_ _ h=>.inl h,λ_ h=>.inl h,hos,hout⟩
 refine⟨⟨hs.aH,hs.ak,λo' b' hb'=>?_,λo' e x hx=>?_,λb' hb'=>by have:=hs.bz b' hb';omega,hs.mj⟩,he⟩
 .by_cases yd:o'=o
  .subst yd;rw[hb]at hb';simp at hb';subst hb';obtain⟨h1,h2,_⟩:=hs.box o' b hb;refine⟨h1,by omega,λAr ei=>⟨x',hnew,?_⟩⟩;simp only[]at ei;rw[Tr.aT _ _ _ _ cB,bL rfl]at ei;obtain rfl:=eI ei;exact hr.ext he hs.bz
  .have EX:b'≠b:=λe=>yd (hs.mj o' o b (e▸⟨(hs.box o' b' hb').1,.inl hb'⟩) hown);exact(hs.box o' b' hb').ext he hs.bz (yc b' EX) (by simp only[];rw[Tr.aT _ _ _ _ cB,bw yd]) (hs.box o' b' hb').1
 .have yd:o'≠o:=by
   rintro rfl
   have h4:=((hs.arr o' e x hx).2 _ hsome).oY;cases ob<;>first|(cases adV;done)|(cases h4;done)
  refine(hs.arr o' e x hx).ext he hs.bz (λb' hb' hc=>⟨yc b' ?_,ru⟩) (by simp only[];rw[Tr.aT _ _ _ _ cB,bw yd]) rfl
  rintro rfl
  by_cases jt:g.bz b'
  .exact hown.1 jt
  .exact yd (hs.mj o' o b' ⟨jt,.inr ⟨e,x,_,hx,hb',rfl,hc⟩⟩ hown)
def bg.akW(hs:bg g s w)(hb:g.cj o=some b)(hsome:s.ob.get o=some ob)(adV:ob.odd=true)(hfl:s.fl<=o)
  (hsize:w'.heap.size=w.heap.size) (yc:∀b',b'≠b->w'.heap[b']?=w.heap[b']?) (hos:w'.os=w.os) (hout:w'.output=w.output) :
  bg g {s with ob:=s.ob.del aI o} w'∧Ext s.fl g w g w':=by
 have hown:bK g o b:=⟨(hs.box o b hb).1,.inl hb⟩;have cB:o<bA:=dy (hs.lt hb) hs.aH;have cJ:∀k,(s.ob.del aI o).get k=if k=o then none else s.ob.get k:=λk=>Tr.sO _ _ _ _ (by unfold aI;unfold bA at cB;omega)
 have he:Ext s.fl g w g w':=
  ⟨λ_ _ h=>h,λ_ _ _ h=>h,λ_ h=>h,by omega,λb' _ hn=>yc b' (λe=>hn o hfl (e▸hown)),λ_ _ h=>.inl h,λ_ h=>.inl h,hos,hout⟩
 refine⟨⟨hs.aH,hs.ak,λo' b' hb'=>?_,λo' e x hx=>?_,λb' hb'=>by have:=hs.bz b' hb';omega,hs.mj⟩,he⟩
 .by_cases yd:o'=o
  .subst yd;rw[hb]at hb';simp at hb';subst hb';obtain⟨h1,h2,_⟩:=hs.box o' b hb;refine⟨h1,by omega,λAr ei=>?_⟩;simp only[]at ei;rw[cJ,bL rfl]at ei;cases ei
  .have EX:b'≠b:=λe=>yd (hs.mj o' o b (e▸⟨(hs.box o' b' hb').1,.inl hb'⟩) hown);exact(hs.box o' b' hb').ext he hs.bz (yc b' EX) (by simp only[];rw[cJ,bw yd]) (hs.box o' b' hb').1
 .have yd:o'≠o:=by
   rintro rfl
   have h4:=((hs.arr o' e x hx).2 _ hsome).oY;cases ob<;>first|(cases adV;done)|(cases h4;done)
  refine(hs.arr o' e x hx).ext he hs.bz (λb' hb' hc=>⟨yc b' ?_,ru⟩) (by simp only[];rw[cJ,bw yd]) rfl
  rintro rfl
  by_cases jt:g.bz b'
  .exact hown.1 jt
  .exact yd (hs.mj o' o b' ⟨jt,.inr ⟨e,x,_,hx,hb',rfl,hc⟩⟩ hown)
def fj:(kt:Ty)->den S.A kt->Value
 | .int k,n=>.int k n
 | .bool,b=>.bool b
 | .str,s=>.string (bF s)
 |_,_=>undef
def ia:Ty->TypeDesc->Prop
 | .int k,d=>d=.int k
 | .bool,d=>d=.bool
 | .str,d=>d=.string
 |_,_=>False
def sK{v:V S}{k:den S.A kt}(h:Wa kt v=some k)(ht:aJ g w (low v) u):u=fj kt k:=by
 cases kt with
 |int j=>obtain⟨p,hp,MI⟩:=fL (show gF j v=some k from h);exact dJ hp MI ht
 |bool=>obtain⟨p,hp,MI⟩:=kY (show iw v=some k from h);exact iK hp MI ht
 |str=>obtain⟨p,hp,MI⟩:=ki (show ur v=some k from h);exact gV hp MI ht
 |_=>cases h
def Z0{k:den S.A kt}{d:TypeDesc}(hd:ia kt d)(ht:aJ g w (eB S kt k) u):u=fj kt k:=by
 cases kt with
 |int j=>cases ht with|sym _ _ hd=>cases hd;rfl
 |bool=>cases ht with|sym _ _ hd=>cases hd;rfl
 |str=>cases ht with|sym _ _ hd=>cases hd;rfl
 |_=>cases hd
def ZZ{k:den S.A kt}{d:TypeDesc}(hd:ia kt d):aJ g w (eB S kt k) (fj kt k):=by cases kt with|int j=>exact .sym _ _ (.lit _)|bool=>exact .sym _ _ (.lit _)|str=>exact .sym _ _ (.lit _)|_=>cases hd
def Lu{d:TypeDesc}(hd:ia kt d)(a b:den S.A kt):Instr.sameNow d (fj kt a) (fj kt b)=some (Ii kt a b):=by
 cases kt with
 |int j=>cases hd;simp[Instr.sameNow,fj,Ii,D.aO]
 |bool=>cases hd;simp[Instr.sameNow,fj,Ii,D.beq]
 |str=>cases hd;have:=AD a b;simp only[D.seq]at this;simp[Instr.sameNow,fj,Ii,<-this]
 |_=>cases hd
def Jf{d:TypeDesc}(hd:ia kt d){a b:den S.A kt}(h:Ii kt a b=true)(n:Nat):Instr.sameBits n (fj kt b) (fj kt a)=true:=by
 cases kt with
 |int j=>
  have:a=b:=by simpa[Ii,D.aO]using h
  subst this;cases n<;>simp[Instr.sameBits,fj]
 |bool=>
  have:a=b:=by simpa[Ii,D.beq]using h
  subst this;cases n<;>simp[Instr.sameBits,fj]
 |str=>
  have:a=b:=by simpa[Ii,gf]using h
  subst this;have hh:(bF a==bF a)=true:=by have:=AD a a;simp only[D.seq]at this;rw[this];simp[gf]
  cases n<;>simp[Instr.sameBits,fj,hh]
 |_=>cases hd
def Gx{A:Nat->Type}{β:Type}(kt:Ty)(k:den A kt):List (den A kt×β)->Option Nat
 |[]=>none
 |p::l=>bif Ii kt k p.1 then some 0 else(Gx kt k l).map Nat.succ
def EN{β:Type}{kt:Ty}{k:den S.A kt}:∀{l:List (den S.A kt×β)},Gx kt k l=none->(∀z,KV kt z k l=z)∧EZ kt k l=false∧∀x,n3 kt k x l=l++[(k,x)]
 |[],_=>⟨λ_=>rfl,rfl,λ_=>rfl⟩
 |p::l,h=>by
  simp only[Gx]at h;cases hb:Ii kt k p.1 with
  |true=>rw[hb]at h;cases h
  |false=>rw[hb]at h;obtain⟨h1,h2,h3⟩:=EN (l:=l) (by simpa using h);exact⟨λz=>by simp[KV,hb,h1],by simp[EZ,hb,h2],λx=>by simp[n3,hb,h3]⟩
def zG{β:Type}{kt:Ty}{k:den S.A kt}:∀{l:List (den S.A kt×β)}{j:Nat},Gx kt k l=some j->∃p,l[j]?=some p∧Ii kt k p.1=true∧(∀z,KV kt z k l=p.2)∧EZ kt k l=true∧∀x,n3 kt k x l=l.set j (k,x)
 |[],j,h=>by cases h
 |p::l,j,h=>by simp only[Gx]at h;cases hb:Ii kt k p.1 with|true=>rw[hb]at h;simp only[dM,bf]at h;subst h;exact⟨p,rfl,hb,λz=>by simp[KV,hb],by simp[EZ,hb],λx=>by simp[n3,hb]⟩|false=>rw[hb]at h;simp only[gE,eA]at h;obtain⟨i,hi,rfl⟩:=h;obtain⟨q,h1,h2,h3,h4,h5⟩:=zG hi;exact⟨q,by simpa using h1,h2,λz=>by simp[KV,hb,h3],by simp[EZ,hb,h4],λx=>by simp[n3,hb,h5]⟩
def xj{β:Type}{kt:Ty}{d:TypeDesc}(hd:ia kt d)(k:den S.A kt):∀(l:List (den S.A kt×β))(es:List MapEntry)(i:Nat),es.length=l.length->
  (∀(j:Nat)p m,l[j]?=some p->es[j]?=some m->m.key=fj kt p.1)->Instr.findNow d (fj kt k) es i=some ((Gx kt k l).bind λj=>(es[j]?).map λm=>(i+j,m.val))
 |[],[],i,_,_=>rfl
 |p::l,m::es,i,hl,hk=>by
  simp only[Instr.findNow,hk 0 p m rfl rfl,Lu hd];cases hb:Ii kt k p.1 with
  |true=>simp[Gx,hb]
  |false=>
   simp only;rw[xj hd k l es (i+1) (by simpa using hl) (λj p' m' h1 h2=>hk (j+1) p' m' (by simpa using h1) (by simpa using h2))];simp only[Gx,hb,gE];cases Gx kt k l with
   |none=>rfl
   |some j=>
    simp only[dX,Jq,Nat.succ_eq_add_one,List.getElem?_cons_succ,bf]
    congr 1
    funext m
    rw[Nat.add_assoc,Nat.add_comm 1 j]
 |[],_::_,_,hl,_=>by simp at hl
 |_::_,[],_,hl,_=>by simp at hl
variable {P:Program}
def GI{d:TypeDesc}(hd:ia kt d){t:TypeId}(hu:P.underlying t=some d)(b:Bool)(n:Nat)(v:Value)(w:World):(Instr.checkKey b (n+1) t v).run P w=.ok () w:=by
 cases kt with
 |int j=>cases hd;simp[Instr.checkKey,aL hu]
 |bool=>cases hd;simp[Instr.checkKey,aL hu]
 |str=>cases hd;simp[Instr.checkKey,aL hu]
 |_=>cases hd
def run_checkKey{d:TypeDesc}(hd:ia kt d){t:TypeId}(hu:P.underlying t=some d)(b:Bool)(v:Value)(w:World):(Instr.checkKey b 10000 t v).run P w=.ok () w:=
 GI hd hu b 9999 v w
def run_findKey{β:Type}{d:TypeDesc}(hd:ia kt d){t:TypeId}(hu:P.underlying t=some d)(k:den S.A kt){l:List (den S.A kt×β)}{es:List MapEntry}(hl:es.length=l.length)
  (hk:∀(j:Nat)p m,l[j]?=some p->es[j]?=some m->m.key=fj kt p.1) (w:World) :
  (Instr.findKey t (fj kt k) es).run P w=.ok ((Gx kt k l).bind λj=>(es[j]?).map λm=>(j,m.val)) w:=by
 have:=xj hd k l es 0 hl hk;simp only[ju]at this;simp[Instr.findKey,aL hu,this]
def sj(h:w.heap[b]?=some (.map ms c)):(getObj b).run P w=.ok (.map ms c) w:=by simp[getObj,Sem.run,h]
def DQ(o:Obj)(h:w.heap[b]?=some (.map ms c)):(setObj b o).run P w=.ok () {w with heap:=w.heap.setIfInBounds b o}:=by simp[setObj,Sem.run,h]
def DS{β:Type}{d:TypeDesc}(hd:ia kt d){t tY e:TypeId}{uz:TypeInfo}(ht:P.underlying t=some (.map tY e))(hu:P.underlying tY=some d)(hi:P.info? e=some uz)(hz:uz.zero=some z)
  (k:den S.A kt) {l:List (den S.A kt×β)} {b c:Nat} {ms:Array MapEntry} (h:w.heap[b]?=some (.map ms c)) (hl:l.length=ms.size) (hk:∀(j:Nat)p m,l[j]?=some p->ms[j]?=some m->m.key=fj kt p.1) (ok:Bool) :
  (Instr.lookup t (.map (some b)) (fj kt k) ok).run P w=.ok (match(Gx kt k l).bind λj=>(ms[j]?).map (·.val)with
   |some v=>if ok then .tuple #[v,.bool true]else v
   |none=>if ok then .tuple #[z,.bool false]else z) w:=by
 have hf:=run_findKey (P:=P) hd hu k (l:=l) (es:=ms.toList) (by simpa using hl.symm) (λj p m h1 h2=>hk j p m h1 (by simpa using h2)) w;simp only[Instr.lookup,Sem.run_bind,aL ht,Result.andThen_ok,sj h,run_checkKey hd hu,hf,Sem.run_pure];cases hx:Gx kt k l with
 |none=>simp[ef hi hz]
 |some j=>
  cases hm:ms[j]? with|none=>simp[hm,ef hi hz]|some m=>simp[hm]
def DR{d:TypeDesc}(hd:ia kt d){t tY e:TypeId}{uz:TypeInfo}(ht:P.underlying t=some (.map tY e))(hu:P.underlying tY=some d)(hi:P.info? e=some uz)(hz:uz.zero=some z)
  (k:den S.A kt) (ok:Bool):(Instr.lookup t (.map none) (fj kt k) ok).run P w=.ok (if ok then .tuple #[z,.bool false]else z) w:=by
 have hf:=run_findKey (P:=P) (β:=Unit) hd hu k (l:=[]) (es:=[]) rfl (λj p m h1=>by simp at h1) w;simp only[Instr.lookup,Sem.run_bind,aL ht,Result.andThen_ok,run_checkKey hd hu,Sem.run_pure];simp only[Gx,QU]at hf;simp[hf,ef hi hz]
end
end
section
section
variable {g:Gh}{w w':World}{P:Program}
def NM{β:Type}(kt:Ty)(R:β->Value->Prop)(l:List (den S.A kt×β))(ms:Array MapEntry):Prop:=
 l.length=ms.size∧∀(j:Nat)p m,l[j]?=some p->ms[j]?=some m->m.key=fj kt p.1∧R p.2 m.val
variable {kt My:Ty}{ms:Array MapEntry}
def wW{β:Type}{R:β->Value->Prop}{d:TypeDesc}(hd:ia kt d){t tY e:TypeId}(ht:P.underlying t=some (.map tY e))(hu:P.underlying tY=some d)
  (k:den S.A kt) {l:List (den S.A kt×β)} {b c:Nat} {ms:Array MapEntry} (h:w.heap[b]?=some (.map ms c)) (hr:NM kt R l ms) {x:β} {v:Value} (hx:R x v) :
  ∃ms' c',(Instr.mapUpdate t (.map (some b)) (fj kt k) v).run P w=.ok () {w with heap:=w.heap.setIfInBounds b (.map ms' c')}∧NM kt R (n3 kt k x l) ms':=by
 obtain⟨hl,hk⟩:=hr;have hf:=run_findKey (P:=P) hd hu k (l:=l) (es:=ms.toList) (by simpa using hl.symm) (λj p m h1 h2=>(hk j p m h1 (by simpa using h2)).1) w;cases KX:Gx kt k l with
 |none=>
  obtain⟨_,_,WK⟩:=EN KX;rw[KX]at hf;refine⟨ms.push {key:=fj kt k,val:=v,born:=c},c+1,?_,by rw[WK];simp[hl],λj p m h1 h2=>?_⟩
  .simp only[Instr.mapUpdate,Sem.run_bind,aL ht,Result.andThen_ok,sj h,run_checkKey hd hu,hf,QU,DQ _ h]
  .rw[WK,lI]at h1;rw[QW]at h2;by_cases hj:j<l.length
   .rw[bL hj]at h1;rw[bw (by omega)]at h2;exact hk j p m h1 h2
   .rw[bw hj]at h1;have hjl:j=l.length:=by have:=aD h1;simp at this;omega
    subst hjl;simp at h1;rw[bL hl]at h2;cases h2;subst h1;exact⟨rfl,hx⟩
 |some i=>
  obtain⟨p,hp,hpk,_,_,WK⟩:=zG KX;rw[KX]at hf;have hi:i<ms.size:=by rw[<-hl];exact aD hp
  obtain⟨m,hm⟩:∃m,ms[i]?=some m:=⟨ms[i],oN hi⟩;have hmk:=(hk i p m hp hm).1;have hf':(Instr.findKey tY (fj kt k) ms.toList).run P w=.ok (some (i,m.val)) w:=by rw[hf];simp[hm]
  refine⟨ms.modify i λe=>{e with key:=fj kt k,val:=v},c,?_,by rw[WK];simp[hl],λj q n h1 h2=>?_⟩
  .have hsb:Instr.sameBits 10000 m.key (fj kt k)=true:=by rw[hmk];exact Jf hd hpk 10000
   have hks:(Instr.keyThatStays m.key (fj kt k)).run P w=.ok (fj kt k) w:=by simp only[Instr.keyThatStays,hsb,fR,Sem.run_pure]
   simp only[Instr.mapUpdate,Sem.run_bind,aL ht,Result.andThen_ok,sj h,run_checkKey hd hu,hf',hm,dX,Jp,hks,DQ _ h]
  .rw[WK,GM]at h1;rw[Array.getElem?_modify]at h2;by_cases hij:i=j
   .subst hij;rw[bL rfl,bL (by omega)]at h1;rw[bL rfl,hm]at h2;cases h1;cases h2;exact⟨rfl,hx⟩
   .rw[bw hij]at h1 h2;exact hk j q n h1 h2
def gU.QF{β:Type}{d:TypeDesc}(hd:ia kt d){f:β->T}{l:List (den S.A kt×β)}{x:Obj}(h:gU g w (.map (l.map λp=>(eB S kt p.1,f p.2))) x) :
  ∃ms c,x=.map ms c∧NM kt (λy v=>aJ g w (f y) v) l ms:=by
 cases h with|map _ ms c hl hr=>refine⟨ms,c,rfl,by simpa using hl,λj p m h1 h2=>?_⟩;have:=hr j (eB S kt p.1,f p.2) m (by simp[h1]) h2;exact⟨Z0 hd this.1,this.2⟩
def NM.ob{β:Type}{d:TypeDesc}(hd:ia kt d){f:β->T}{l:List (den S.A kt×β)}(h:NM kt (λy v=>aJ g w (f y) v) l ms)(c:Nat):gU g w (.map (l.map λp=>(eB S kt p.1,f p.2))) (.map ms c):=by refine .map _ ms c (by simpa using h.1) λj t m h1 h2=>?_;simp only[gQ,eA]at h1;obtain⟨p,hp,rfl⟩:=h1;obtain⟨h3,h4⟩:=h.2 j p m hp h2;rw[h3];exact⟨ZZ hd,h4⟩
def PO(S:Sg)(i:TI)(τ:Ty):Prop:=bif js τ then D.agg i.zero=enc S τ (S.zero τ)else i.zero=[enc S τ (S.zero τ)]
def HB{I:Nat->Prop}(hS:fy S){t:TypeId}{i:TI}(hi:nu P t i){τ:Ty}(hr:xy S i τ)(hz:PO S i τ){x:TypeInfo}{z:Value}(hx:P.info? t=some x)(hxz:x.zero=some z):dZ I w (enc S τ (S.zero τ)) z:=by
 obtain⟨x',d0,z',hx',hu,_,pP,GV,nE,_⟩:=hi.all;rw[hx]at hx';cases hx';rw[hxz]at GV;cases GV;obtain⟨hza,hzn⟩:=hi.zag x z hx hxz;unfold PO at hz;cases hst:js τ with
 |true=>
  rw[hst,dM]at hz;have aoS:i.agg=true:=by cases τ with|st n=>exact hr.1|_=>cases hst
  obtain⟨vs,rfl⟩:=hza aoS;have nE:ZOk i.zero vs:=nE;rw[<-hz];refine .agg _ _ nE.1 (λc hc=>?_) (λj c v h1 h2=>Ay (nE.2 j c v h1 h2));cases τ with
  |st n=>
   have e:i.zero=S.cells n (S.zero (.st n)):=by have:D.agg i.zero=D.agg (S.cells n (S.zero (.st n))):=hz;injection this
   rw[e,hS.cells]at hc;exact gO _ _ (hS.leaf n) c hc
  |_=>cases hst
 |false=>
  rw[hst,gE]at hz;have aoT:i.agg=false:=by
   cases τ with
   |st n=>cases hst
   |sl e=>exact hr.2.1
   |int k=>exact hr.2.1
   |bool=>exact hr.2.1
   |str=>exact hr.2.1
   |cR n=>exact hr.2.1
  have hzc:=hzn aoT;have:=nE.2 0 _ z (by rw[hz];rfl) (by rw[hzc];rfl);exact Ay this
structure XOk(S:Sg)(E:gA):Prop where
 zr:∀t i τ,E.E.ti t=some i->E.ty t=some τ->PO S i τ
 mt:∀t m,E.mt t=some m->∃tY d,E.E.P.underlying t=some (.map tY m.el)∧E.E.P.underlying tY=some d∧ia m.kt d∧(∃x z,E.E.P.info? m.el=some x∧x.zero=some z)∧
  ∀vt,m.vt=some vt->E.ty m.el=some vt∧∃i,E.E.ti m.el=some i
 JB:∀t nm f,E.JB t nm=some f->∃x mm d,E.E.P.info? t=some x∧x.methods.find? (·.name==nm)=some mm∧mm.path=#[]∧E.E.P.underlying t=some d∧
  ((mm.func=some (f,false)∧∀e,d≠.pointer e)∨(mm.func=some (f,true)∧∃e,d=.pointer e))
def cX{fr:bV S}{a:Act}(hf:cE g (bx fr) a w){x:Operand}{v:V S}(h:cm fr x=some v):aJ g w (low v) (a.eval x):=bJ hf (bU h)
def Nj{vt Sn:Ty}{l:List (den S.A kt×den S.A vt)}{l':List (den S.A My×den S.A Sn)}(h:Cy kt vt My Sn l=some l'):kt=My∧vt=Sn∧HEq l l':=by
 unfold Cy at h;split at h
 .rename_i h1;split at h
  .rename_i h2;have e1:=fG h1;have e2:=fG h2;subst e1;subst e2;simp only[bf]at h;exact⟨rfl,rfl,heq_of_eq h⟩
  .cases h
 .cases h
def Nk{β:Type}{l:List (den S.A kt×β)}{l':List (den S.A My×β)}(h:Nl kt My l=some l'):kt=My∧HEq l l':=by
 unfold Nl at h;split at h
 .rename_i h1;have e1:=fG h1;subst e1;simp only[bf]at h;exact⟨rfl,heq_of_eq h⟩
 .cases h
def Jc{w:World}{b:Nat}(x:Obj)(hb:b<w.heap.size):({w with heap:=w.heap.setIfInBounds b x}:World).heap.size=w.heap.size∧(∀b',b'≠b->({w with heap:=w.heap.setIfInBounds b x}:World).heap[b']?=w.heap[b']?)∧
  ({w with heap:=w.heap.setIfInBounds b x}:World).heap[b]?=some x:=by
 refine⟨by simp,λb' hne=>?_,?_⟩
 .simp[VF (Ne.symm hne)]
 .simp[hb]
def OD{β:Type}{f:β->T}{k:den S.A kt}{l:List (den S.A kt×β)}(hr:NM kt (λy v=>aJ g w (f y) v) l ms){z:β}{zv:Value}(hz:aJ g w (f z) zv) :
  aJ g w (f (KV kt z k l)) (((Gx kt k l).bind λj=>(ms[j]?).map (·.val)).getD zv)∧(((Gx kt k l).bind λj=>(ms[j]?).map (·.val)).isSome=EZ kt k l):=by
 cases KX:Gx kt k l with
 |none=>obtain⟨h1,h2,_⟩:=EN KX;rw[h1,h2];exact⟨hz,rfl⟩
 |some j=>
  obtain⟨p,hp,_,h1,h2,_⟩:=zG KX;rw[h1,h2];have hj:j<ms.size:=by rw[<-hr.1];exact aD hp
  have hm:ms[j]?=some ms[j]:=oN hj;simp only[Jq,hm,dX,Jp,Option.isSome_some,and_true];exact(hr.2 j p _ hp hm).2
end
end
section
def Bc:∀(l:List (TypeId×Ty))(x:wE S.A l),isNil l x=(sX S l x).isNone
 |[],_=>rfl
 |_::_,.inl _=>rfl
 |_::l,.inr y=>Bc l y
def Fh:∀(l:List (TypeId×Ty))(t:TypeId)(j:Nat)(x:wE S.A l)(z:(t:Ty)->den S.A t),NA l=true->pI l t=some j->
  (iI l j x=true∧sX S l x=some (t,enc S (l9 l j) (jE z l j x)))∨(iI l j x=false∧jE z l j x=z (l9 l j)∧∀d,sX S l x≠some (t,d))
 |[],t,j,x,z,_,h=>by cases h
 |p::l,t,j,x,z,ha,h=>by
  simp only[NA,eE]at ha;simp only[pI]at h;rcases af h with⟨hb,h⟩|⟨hb,h⟩
  .simp only[bf]at h;subst h;have hpt:=nT hb;cases x with
   |inl y=>left;exact⟨rfl,by simp only[sX,hpt];rfl⟩
   |inr y=>
    right
    refine⟨rfl,rfl,λd hd=>?_⟩;simp only[sX]at hd;have hno:pI l p.1=none:=by cases hx:pI l p.1 with|none=>rfl|some i=>rw[hx]at ha;simp at ha
    exact Bb l y p.1 hno d (by rw[hpt];exact hd)
  .split at h
   .rename_i i hi;simp only[bf]at h;subst h;cases x with
    |inl y=>
     right
     refine⟨rfl,rfl,λd hd=>?_⟩;simp only[sX,bf,bB]at hd;rw[hd.1]at hb;simp at hb
    |inr y=>
     rcases Fh l t i y z ha.2 hi with⟨h1,h2⟩|⟨h1,h2,h3⟩
     .exact .inl ⟨h1,h2⟩
     .exact .inr ⟨h1,h2,h3⟩
   .cases h
where
 Bb:∀(l:List (TypeId×Ty))(x:wE S.A l)(t:TypeId),pI l t=none->∀d,sX S l x≠some (t,d)
  |[],_,_,_,_,h=>by cases h
  |p::l,.inl y,t,hn,d,h=>by simp only[pI]at hn;simp only[sX,bf,bB]at h;rw[h.1]at hn;simp at hn
  |p::l,.inr y,t,hn,d,h=>by
   simp only[pI]at hn;cases hb:Nat.beq p.1 t with
   |true=>rw[hb]at hn;cases hn
   |false=>
    rw[hb]at hn;refine Bb l y t ?_ d h;cases hx:pI l t with|none=>rfl|some i=>rw[hx]at hn;cases hn
section
variable {g:Gh}{w:World}{P:Program}
def Dl(hS:fy S){n:Nat}{x:S.A n}{v:Value}(h:aJ g w (eB S (.cR n) x) v) :
  (sX S (S.alts n) (S.sM n x)=none∧v=.nilIface)∨∃t d u,sX S (S.alts n) (S.sM n x)=some (t,d)∧v=.iface t u∧dZ g.bz w d u:=by
 have h':aJ g w (.sym (N3 (S.qe n x))) v:=h;rw[hS.qe]at h';cases h' with
 |sym _ _ hd=>
  cases he:sX S (S.alts n) (S.sM n x)with
  |none=>rw[he]at hd;cases hd;exact .inl ⟨rfl,rfl⟩
  |some p=>
   rw[he]at hd;obtain⟨t,d⟩:=p;cases hd with|cR _ _ u hu=>exact .inr ⟨t,d,u,rfl,rfl,hu⟩
variable {s:bq S}
def JE(hs:bg g (aF s) w)(hn:s.aH<bA){t:TypeId}{r:Option Value}{tY el:TypeId}(ht:P.underlying t=some (.map tY el))(hr:∀v,r=some v->∃k n,v=.int k n){ob:wP S}(cB:cQ ob=.map []) :
  ∃v w' g',(Instr.makeMap t r).run P w=.ok v w'∧aJ g' w' (low (.mp s.aH:V S)) v∧cN [] s g w (dn s ob) g' w':=by
 obtain⟨hs',he⟩:=hs.newObj (ob0:=.map []) (x0:=.map #[] 0) hn (.map [] #[] 0 rfl (λj t m h=>by simp at h));refine⟨.map (some w.heap.size),_,_,?_,.mp _ _ (by simp[Gh.dj,aF]),cN.l7 hs (by rw[gu,cB];exact hs') he rfl rfl (Eb _) (iN s ob hn)⟩;cases r with|none=>simp[Instr.makeMap]|some v=>obtain⟨k,n,rfl⟩:=hr v rfl;simp[Instr.makeMap,aL ht,asInt,asIntOf]
def Ol(hs:bg g (aF s) w)(hn:s.aH<bA){t:TypeId}(ht:P.underlying t=some .string)(b:List UInt8) :
  ∃v w' g',(Instr.range t (.string (bF b))).run P w=.ok v w'∧aJ g' w' (low (.rY s.aH:V S)) v∧cN [] s g w (dn s (.pO b 0)) g' w':=by
 obtain⟨hs',he⟩:=hs.newObj (ob0:=.pO (bF b) 0) (x0:=.stringIter (bF b) 0) hn (.pO _ _);refine⟨.pointer (some ⟨w.heap.size,0,none⟩),_,_,?_,.rY _ _ (by simp[Gh.dj,aF]),cN.l7 hs (by rw[gu];exact hs') he rfl rfl (Eb _) (iN s _ hn)⟩;simp[Instr.range,aL ht]
def EC(hS:fy S)(hs:bg g (aF s) w)(hn:s.aH<bA){t:TypeId}{i:TI}(hi:nu P t i){e:Ty}(hr:xy S i (.sl e)){n:Int}(hmk:ZP n=true)(k1 k2:IntKind) :
  ∃v w' g',(Instr.makeSlice t (.int k1 n) (.int k2 n)).run P w=.ok v w'∧aJ g' w' (low (.sh s.aH 0:V S)) v∧cN [] s g w (dn s (.arr e (List.replicate (ah n) (S.zero e)) 0)) g' w':=by
 obtain⟨⟨z,dO,hz⟩,_,_,hwd⟩:=hr;obtain⟨xi,d1,z1,xb,j6,_,pP,Uz,nE,hk⟩:=hi.all;rw[dO]at hk;obtain⟨el,j,d',zv,rfl,hj,pS,hju,Pb,UB,ah9,hjb,hj0,hjb1,hjb2,hjb3,hjl⟩:=hk;simp only[ZP,eE,qA]at hmk;obtain⟨m,rfl⟩:∃m:Nat,n=(m:Int):=⟨n.toNat,by omega⟩;have hm:m<=17179869184:=by omega
 have hbm:j.bytes*m<=4096*17179869184:=LR hjb hm;have hrun:=run_make (P:=P) w t el j zv j6 hj UB k1 k2 (m:Int) (m:Int) (by omega) (Int.le_refl _) (by
  have:((j.bytes*m:Nat):Int)<=281474976710656:=by omega
  rwa [Int.natCast_mul]at this) (by omega)
 simp only[Jr]at hrun;have hzd:(bif js e then D.agg z else z.getD 0 default)=enc S e (S.zero e):=by cases hst:js e with|true=>rw[hst]at hz;exact hz|false=>rw[hst]at hz;simp only[gE]at hz;rw[hz];rfl
 have hrow:=La (I:=g.bz) (w:=w.alloc (.cells (madeCells zv.cells (m*j.size)) el)) (ag:=js e) (sz:=S.width e) (len:=m) ah9 (by
  cases hst:js e with
  |true=>rfl
  |false=>
   have:S.width e=1:=by cases e<;>first|rfl|cases hst
   rw[this];rfl) (by rw[bH];exact hjl)
 rw[hzd]at hrow;have WV:(List.replicate m (S.zero e)).map (enc S e)=List.replicate m (enc S e (S.zero e)):=by simp
 let x:fB:=⟨some ⟨w.heap.size,0,none⟩,m,m,S.width e⟩
 have lE:∀b,x.at b->b=w.heap.size:=by
  rintro b ⟨ad,h1,h2,_⟩
  have:ad=⟨w.heap.size,0,none⟩:=(eI h1).symm;rw[this]at h2;exact h2.symm
 have tG:¬g.bz w.heap.size:=λh=>by have:=hs.bz _ h;omega
 obtain⟨hs',he⟩:=bg.Ox (w':=w.alloc (.cells (madeCells zv.cells (m*j.size)) el)) hs hn (sz:=S.width e) (es:=List.replicate m (enc S e (S.zero e))) (x:=x) rfl rfl (by simp) (λb hb=>oC w _ b hb)
  (λb hb=>by rw[lE b hb];simp)
  ⟨by simp[x],bT _,hrow.rows,hwd,λd hd=>by
    have hde:=VB hd;rw[hde,Ba hS,List.length_replicate];show m*vn S e<=_;have:m*vn S e<=17179869184*(2*4096):=LR hm (by omega);omega,λh=>by
    have:m=0:=by cases m with|zero=>rfl|succ m=>simp[List.replicate_succ]at h
    exact this,λhc=>by
    refine⟨w.heap.size,madeCells zv.cells (m*j.size),el,rfl,⟨λh=>(by cases h),λh=>absurd h tG⟩,wh w _,by rw[size_madeCells,pS];exact bT _,λi d jj c h1 h2=>?_⟩;obtain⟨v,h3,h4⟩:=hrow.rel i jj d c h1 h2;refine⟨v,?_,h4⟩;rw[<-pS]at h3 ⊢;exact h3⟩ rfl
 refine⟨_,_,_,hrun,.sh _ _ _ _ (S.width e) _ (Gh.fC _ _ _ _),cN.l7 hs ?_ he rfl rfl (Eb _) (iN s _ hn)⟩;rw[gu];simp only[cQ,ah,Jr,WV];exact hs'
end
end
end TL
end
end
