import Derived.Laws.OwnMore
import Derived.Test.YtdddliieplcejaaGreatP1
set_option linter.all false
set_option maxRecDepth 100000
set_option maxHeartbeats 0
noncomputable section
open Option renaming some->Z,none->Y
open Bool renaming true->W,false->J
section
namespace TL
open Go
variable {S:Sg}
section
def aC{α:Type}(c:Bool)(x:Option α):Option α:=bif c then x else Y
def aj{α:Type}(c:Bool)(x y:Option α):Option α:=bif c then x else y
def ai{α β:Type}(x:Option α)(f:α->Option β):Option β:=match x with|some a=>f a|none=>Y
def imp(c p:Bool):Bool:=bif c then p else W
inductive Ck where
 |dat (t:Ty)|own (e:Ty)|jr (n j:Nat) (t:Ty)|nil (e:Ty)|ptr (t:Ty)
@[reducible] def Ck.ty:Ck->Ty|.dat t=>t|.own e=>.sl e|.jr n _ _=>.sl (.st n)|.nil e=>.sl e|.ptr t=>t
inductive Bk where
 |cells (cs:List Ck)|map (kt vt:Ty)|o7|link (pre post:List Ck)
inductive Pk where
 |one (c:Ck)|box (k:Bk)|hid (k:Bk)
@[reducible] def gl(A:Nat->Type):List Ck->Type
 |[]=>Unit
 |c::l=>den A c.ty×gl A l
@[reducible] def vO(A:Nat->Type):Bk->Type
 | .cells b=>gl A b
 | .map kt vt=>List (den A kt×den A vt)
 | .o7=>List UInt8×Nat
 | .link pre post=>gl A pre×gl A post
@[reducible] def fU(A:Nat->Type):List Pk->Type
 |[]=>Unit
 | .one c::l=>den A c.ty×fU A l
 | .box k::l=>vO A k×fU A l
 | .hid k::l=>vO A k×fU A l
@[reducible] def iD(A:Nat->Type):List Pk->Type
 |[]=>Unit
 | .one _::l=>iD A l
 | .box k::l=>vO A k×iD A l
 | .hid k::l=>vO A k×iD A l
inductive Rx(R P:Type) where
 |ok (r:R)|dh (p:P)
@[reducible] def RT:Bool->Type->Type->Type
 |false,R,_=>R
 |true,R,P=>Rx R P
def RT.res{R P:Type}:(pn:Bool)->RT pn R P->Rx R P
 |false,r=>Rx.ok r
 |true,r=>r
def RT.ok{R P:Type}:(pn:Bool)->R->RT pn R P
 |false,r=>r
 |true,r=>Rx.ok r
def RT.dh{R P:Type}:(pn:Bool)->P->Option (RT pn R P)
 |false,_=>Y
 |true,p=>Z (Rx.dh p)
structure kT(S:Sg) where
 ps:List Pk
 rs:List Ck
 pn:Bool
 F:fU S.A ps->Option (RT pn (gl S.A rs×iD S.A ps) (den S.A S.pt×iD S.A ps))
def lK(s:bq S):(c:Ck)->V S->Option (den S.A c.ty×List Nat×List Nat)
 | .dat t,v=>match bO s t v with
  |some (x,os)=>Z (x,os,[])
  |none=>Y
 | .own e,.emp=>bif Nat.ble 1 (S.width e)then Z ([],[],[])else Y
 | .own e,.sh o r=>match s.ob.get o with
  |some (.arr t l era)=>bif Nat.beq r era&&(Nat.ble s.fl o&&Nat.ble s.lo o)then match mT t e l with|some l=>Z (l,[],[o])|none=>Y else Y
  |_=>Y
 | .nil _,.emp=>Z ([],[],[])
 | .jr n j t,.emp=>bif Nat.ble 1 (S.width (.st n))&&(Cd S n j t&&Nat.blt j (S.width (.st n)))then Z ([],[],[])else Y
 | .jr n j t,.sh o r=>match s.ob.get o with
  |some (.kj d k l era m b Y)=>match KH s m b with
   |some ⟨g,i⟩=>bif (Nat.beq r era&&(Nat.beq j k&&(Nat.ble s.fl o&&(Nat.ble s.lo o&&(Nat.ble s.fl m&&(Nat.ble s.lo m&&(Nat.blt m s.aH&&(Cd S d j g&&rA g t))))))))then match mT (.st d) (.st n) (iW d j g l i)with
     |some l=>Z (l,[],[o,m])
     |none=>Y
    else Y
   |none=>Y
  |_=>Y
 |_,_=>Y
def gL(s:bq S):(cs:List Ck)->List (V S)->Option (gl S.A cs×List Nat×List Nat)
 |[],[]=>Z ((),[],[])
 |c::cs,v::l=>match lK s c v,gL s cs l with
  |some (x,a,b),Z (h,d,e)=>Z ((x,h),a++d,b++e)
  |_,_=>Y
 |_,_=>Y
def Sr:Bk->Nat->V S
 | .cells _,o=>.ptr o 0
 | .map _ _,o=>.mp o
 | .o7,o=>.ru o
 | .link _ _,o=>.ptr o 0
def BY:Bk->V S->Option Nat
 | .cells _,.ptr o 0=>Z o
 | .map _ _,.mp o=>Z o
 | .o7,.ru o=>Z o
 | .link _ _,.ptr o 0=>Z o
 |_,_=>Y
def j8(s:bq S):(k:Bk)->Option (vX S)->Option (vO S.A k×List Nat×List Nat×Option Nat)
 | .cells e,Z (.box d)=>match gL s e d with
  |some (x,a,b)=>Z (x,a,b,Y)
  |none=>Y
 | .map kt vt,Z (.map k v l)=>match BH k v kt vt l with
  |some l=>Z (l,[],[],Y)
  |none=>Y
 | .o7,Z (.o7 b n)=>Z ((b,n),[],[],Y)
 | .link pre post,Z (.box d)=>match gL s pre (d.take (cz pre)),nth d (cz pre),gL s post (d.drop (Nat.succ (cz pre)))with
  |some (x,a,b),Z (.ptr o 0),Z (y,g,i)=>Z ((x,y),a++g,b++i,Z o)
  |_,_,_=>Y
 |_,_=>Y
def DX:Bk->List Pk->Bool
 | .link _ _,.hid _::_=>W
 | .link _ _,_=>J
 |_,_=>W
def dZ(s:bq S):(ps:List Pk)->List (V S)->Option Nat->Option (fU S.A ps×List Nat×List Nat×List Nat)
 |[],[],_=>Z ((),[],[],[])
 | .one c::ps,v::l,_=>match lK s c v,dZ s ps l Y with
  |some (x,a,b),Z (h,d,e,g)=>Z ((x,h),a++d,b++e,g)
  |_,_=>Y
 | .box k::ps,v::l,_=>match BY k v with
  |some o=>bif Nat.ble s.fl o&&DX k ps then match j8 s k (s.ob.get o)with
   |some (x,a,b,i)=>match dZ s ps l i with
    |some (h,d,e,g)=>Z ((x,h),a++d,b++e,o::g)
    |none=>Y
   |none=>Y
   else Y
  |none=>Y
 | .hid k::ps,l,Z o=>bif Nat.ble s.fl o&&DX k ps then match j8 s k (s.ob.get o)with
   |some (x,a,b,i)=>match dZ s ps l i with
    |some (h,d,e,g)=>Z ((x,h),a++d,b++e,o::g)
    |none=>Y
   |none=>Y
   else Y
 |_,_,_=>Y
def tB(s:bq S):(c:Ck)->den S.A c.ty->V S×bq S
 | .dat t,x=>(.ty t x,s)
 | .own e,l=>(.sh s.aH 0,dm s (.arr e l 0))
 | .nil _,_=>(.emp,s)
 | .ptr t,x=>(.mD t x 0,s)
 | .jr n j t,l=>(.sh s.aH 0,dm (dm s (.kj n j l 0 (Nat.succ s.aH) 0 Y)) (.rws t (xA n j t l) 0))
def gI(s:bq S):(cs:List Ck)->gl S.A cs->List (V S)×bq S
 |[],_=>([],s)
 |c::cs,x=>match tB s c x.1 with
  |(v,s)=>match gI s cs x.2 with
   |(l,s)=>(v::l,s)
def dF:List Nat->Option Nat
 |[]=>Y
 |a::_=>Z a
def Ql:Option Nat->List (V S)
 |some o=>[.ptr o 0]
 |none=>[]
def gC(s:bq S)(e:Option Nat):(k:Bk)->vO S.A k->vX S×bq S
 | .cells g,x=>match gI s g x with
  |(b,s)=>(.box b,s)
 | .map kt vt,l=>(.map kt vt l,s)
 | .o7,x=>(.o7 x.1 x.2,s)
 | .link pre post,x=>match gI s pre x.1 with
  |(b,s)=>match gI s post x.2 with
   |(d,s)=>(.box (b++(Ql e++d)),s)
def j7(s:bq S):(ps:List Pk)->List Nat->iD S.A ps->Option (bq S)
 |[],[],_=>Z s
 | .one _::ps,b,h=>j7 s ps b h
 | .box k::ps,o::b,h=>match gC s (dF b) k h.1 with
  |(ob,s)=>j7 {s with ob:=s.ob.set aJ o ob,wr:=o::s.wr} ps b h.2
 | .hid k::ps,o::b,h=>match gC s (dF b) k h.1 with
  |(ob,s)=>j7 {s with ob:=s.ob.set aJ o ob,wr:=o::s.wr} ps b h.2
 |_,_,_=>Y
def ae1(b:Nat):Option Nat->Bool
 |none=>W
 |some o=>Nat.beq o (Nat.succ b)
def rS(s:bq S):Nat->(ps:List Pk)->Option (iD S.A ps×List Nat×List Nat)
 |_,[]=>Z ((),[],[])
 |b,.one _::ps=>rS s b ps
 |b,.box k::ps=>match j8 s k (s.ob.get b),rS s (Nat.succ b) ps with
  |some (x,a,c,d),Z (h,e,g)=>bif ae1 b d&&DX k ps then Z ((x,h),a++e,c++g)else Y
  |_,_=>Y
 |b,.hid k::ps=>match j8 s k (s.ob.get b),rS s (Nat.succ b) ps with
  |some (x,a,c,d),Z (h,e,g)=>bif ae1 b d&&DX k ps then Z ((x,h),a++e,c++g)else Y
  |_,_=>Y
def rU:List Nat->Bool
 |[]=>W
 |a::l=>!(l.contains a)&&rU l
def AH(l m:List Nat):Bool:=l.all λa=>!(m.contains a)
def FR:List (V S)->V S
 |[x]=>x
 |l=>.gm l
inductive wO(S:Sg) where
 |o9
 |ext (id:Nat)
 |ret
 |dh (v:V S)
abbrev Sh:=List (Nat×Pk)
inductive Pt where
 |slot (k:Nat)|cell (p:Pt) (i:Nat)|cap (p:Pt) (i:Nat)|rnd (p:Pt) (k:Nat)
structure LSh where
 sh:Sh
 pts:List Pt:=[]
 al:List (Nat×Nat):=[]
 pl:Nat:=0
structure fY(S:Sg) where
 T:gA
 Gj:FuncId->Option (kT S)
 sh:FuncId->Nat->Option LSh
 pn:Bool:=J
def nS:V S->List (V S)->Option (FuncId×List (V S))
 | .fn (.func f) first cap,args=>Z (f,first++args++cap)
 |_,_=>Y
inductive Tgt where|fn (f:FuncId)|yl (o:Nat)
abbrev iC(S:Sg):=Tgt->List (V S)->bq S->{ω:Type}->(V S->bq S->Option ω)->(V S->bq S->Option ω)->Option ω
mutual
def gS(os:List Nat):V S->Bool
 | .ptr o _=>os.contains o
 | .kA o _ _ _=>os.contains o
 | .sh o _=>os.contains o
 | .mp o=>os.contains o
 | .ry o=>os.contains o
 | .ru o=>os.contains o
 | .qd o m _ _=>os.contains o||os.contains m
 | .fn _ a b=>m5 os a||m5 os b
 | .cR _ v=>gS os v
 | .agg d=>m5 os d
 | .gm d=>m5 os d
 | .gd _ v=>gS os v
 |_=>J
def m5(os:List Nat):List (V S)->Bool
 |[]=>J
 |v::l=>gS os v||m5 os l
end
def I4{α:Type}(os:List Nat):List (α×V S)->Bool
 |[]=>J
 |p::l=>gS os p.2||I4 os l
def pK(p:V S->Bool):Tr (V S)->Bool
 | .nil=>J
 | .node v l r=>(match v with|some x=>p x|none=>J)||(pK p l||pK p r)
def I0(os:List Nat):vX S->Bool
 | .box b=>m5 os b
 | .Gd _ l=>I4 os l
 | .lp l=>pK (gS os) l.fr.tm
 | .kj _ _ _ _ m _ _=>os.contains m
 |_=>J
namespace Tr
variable {α:Type}
def del:Nat->Tr α->Nat->Tr α
 |0,t,_=>t
 |_+1,.nil,_=>.nil
 |n+1,.node v l r,k=>match k with
  |0=>.node Y l r
  |k+1=>match Nat.beq (Nat.mod k 2) 0 with
   |true=>.node v (del n l (Nat.div k 2)) r
   |false=>.node v l (del n r (Nat.div k 2))
def keep(p:α->Bool):Tr α->Tr α
 | .nil=>.nil
 | .node v l r=>.node (match v with|some x=>bif p x then Z x else Y|none=>Y) (keep p l) (keep p r)
end Tr
namespace Tr
variable {α:Type}
def mapA(f:α->α):Tr α->Tr α
 | .nil=>.nil
 | .node v l r=>.node (match v with|some x=>Z (f x)|none=>Y) (mapA f l) (mapA f r)
def jt(p:α->Bool):Tr α->List Nat
 | .nil=>[]
 | .node v l r=>(match v with|some x=>bif p x then[0]else[]|none=>[])++((jt p l).map (λk=>Nat.succ (Nat.mul 2 k))++(jt p r).map (λk=>Nat.succ (Nat.succ (Nat.mul 2 k))))
end Tr
def wR:V S:=.gd J fu
def oV(os:List Nat)(v:V S):V S:=bif gS os v then wR else v
def mE(os:List Nat):vX S->vX S
 | .box d=>.box (d.map (oV os))
 | .Gd kt l=>.Gd kt (l.map λp=>(p.1,oV os p.2))
 | .lp l=>.lp {l with fr:={l.fr with tm:=l.fr.tm.mapA (oV os)}}
 | .kj n j l era m b hole=>bif os.contains m then .gone else .kj n j l era m b hole
 |o=>o
def forget(os:List Nat)(s:bq S):bq S:=match os with
 |[]=>s
 |_=>{s with ob:=s.ob.mapA (mE os),wr:=s.ob.jt (I0 os)++s.wr}
def HT(bs:List Nat)(s:bq S):bq S:={s with ob:=bs.foldl (λt o=>t.del aJ o) s.ob}
def ig(p:V S->Bool):A2 S->A2 S
 | .call f args=>bif p f||args.any p then .bad else .call f args
 | .mark o=>bif p (.ptr o 0)then .bad else .mark o
 | .bad=>.bad
def dU(os:List Nat)(fr:bW S):bW S:=match os with
 |[]=>fr
 |_=>{fr with tm:=fr.tm.keep λv=>!(gS os v),df:=fr.df.map (ig (gS os))}
def jb:List Ck->Bool
 |[]=>W
 | .dat _::l=>jb l
 | .own _::_=>J
 | .jr ..::_=>J
 | .nil _::_=>J
 | .ptr _::_=>J
def sO:(cs:List Ck)->gl S.A cs->List (V S)
 |[],_=>[]
 |c::cs,x=>.ty c.ty x.1::sO cs x.2
def bU:List Pk->Bool
 |[]=>W
 | .one (.dat _)::l=>bU l
 |_=>J
def PY:Ty->Bool
 | .int _|.bool|.str=>W
 |_=>J
def rG:List Ck->Bool
 |[]=>W
 | .dat t::l=>PY t&&rG l
 | .own _::_=>J
 | .jr ..::_=>J
 | .nil _::_=>J
 | .ptr _::_=>J
def VY:List Pk->Bool
 |[]=>J
 | .one (.ptr _)::_=>W
 |_::l=>VY l
def NZ:List Pk->Bool
 |[]=>W
 | .one (.dat _)::l=>NZ l
 | .one (.ptr _)::l=>NZ l
 |_=>J
def aaA(s:bq S)(t:Ty):V S->Option (den S.A t×List Nat)
 | .mD u y 0=>match uu u t y with
  |some x=>Z (x,[])
  |none=>Y
 | .ptr o 0=>match s.ob.get o with
  |some (.box b)=>bif jk t then bO s t (.agg b)else Y
  |_=>Y
 |_=>Y
def jS(s:bq S):(ps:List Pk)->List (V S)->Option (fU S.A ps×List Nat)
 |[],[]=>Z ((),[])
 | .one (.dat t)::ps,v::l=>match bO s t v,jS s ps l with
  |some (x,os),Z (h,b)=>Z ((x,h),os++b)
  |_,_=>Y
 | .one (.ptr t)::ps,v::l=>match aaA s t v,jS s ps l with
  |some (x,os),Z (h,b)=>Z ((x,h),os++b)
  |_,_=>Y
 |_,_=>Y
def Vg(c:kT S):Bool:=bU c.ps&&(rG c.rs&&!c.pn)
section
variable (E:fY S)(call:iC S){ω:Type}
def Wa(s:bq S)(c:kT S)(args:List (V S))(k:V S->bq S->List Nat->Option ω):Option ω:=
 bif NZ c.ps&&(rG c.rs&&!c.pn)then match jS s c.ps args with
  |none=>Y
  |some (x,b)=>match dz s b with
   |none=>Y
   |some _=>ai (c.F x) λr=>match RT.res c.pn r with
    | .ok r=>k (FR (sO c.rs r.1)) s []
    | .dh _=>Y
 else Y
def Mq(s:bq S)(c:kT S)(args:List (V S))(kp:V S->bq S->Option ω)(k:V S->bq S->List Nat->Option ω):Option ω:=bif VY c.ps then Wa s c args k else
 match dZ s c.ps args Y with
 |none=>Y
 |some (x,i,b,e)=>match dz s i with
  |none=>Y
  |some d=>bif Vg c then ai (c.F x) λr=>match RT.res c.pn r with
     | .ok r=>k (FR (sO c.rs r.1)) s []
     | .dh _=>Y
   else bif rU b&&(rU e&&AH b i)then
    ai (c.F x) λr=>match RT.res c.pn r with
     | .ok r=>match j7 (HT e (forget b {d with wr:=b++d.wr,dr:=b++d.dr})) c.ps e r.2 with
      |none=>Y
      |some g=>match gI g c.rs r.1 with
       |(l,j)=>bif Nat.ble j.aH bB then k (FR l) j b else Y
     | .dh p=>match j7 (HT e (forget b {d with wr:=b++d.wr,dr:=b++d.dr})) c.ps e p.2 with
      |none=>Y
      |some g=>match b with
       |[]=>bif Nat.ble g.aH bB then kp (.ty S.pt p.1) g else Y
       |_::_=>Y
   else Y
def sU(k:V S->bq S->Option ω)(d:Option ω):List (Bool×V S×bq S)->Option ω
 |[]=>d
 |p::l=>aj p.1 (k p.2.1 p.2.2) (sU k d l)
def sk(s:bq S)(f:FuncId)(args:List (V S))(kp:V S->bq S->Option ω)(k:V S->bq S->List Nat->Option ω):Option ω:=match E.Gj f with
 |some c=>Mq s c args kp k
 |none=>call (.fn f) args s (λt b=>k t b []) kp
def QJ(s:bq S)(m:String)(args:List (V S))(n:Nat)(x:den S.A (.cR n))(kp:V S->bq S->Option ω)(k:V S->bq S->List Nat->Option ω):List (TypeId×Ty)->Nat->Option ω
 |[],_=>Y
 |p::l,j=>aj (iG (S.alts n) j (S.r7 n x)) (match E.T.I3 p.1 m with
   |some f=>bif Nat.beq p.1 ((nth (S.alts n) j).elim 0 (·.1))then sk E call s f (.ty (lP (S.alts n) j) (jv S.zero (S.alts n) j (S.r7 n x))::args) kp k else Y
   |none=>Y) (QJ s m args n x kp k l (Nat.succ j))
def abA:Option (V S)->Option Nat
 |some (.ry o)=>Z o
 |_=>Y
def si(o:Oper)(fr:bW S)(s:bq S)(kp:V S->bq S->Option ω)(k:V S->bq S->List Nat->Option ω):Option ω:=
 match o.op with
 | .call c=>match jP fr c.args.toList with
  |none=>Y
  |some args=>match c.callee with
   | .builtin b=>match kg E.T s b c.argTypes args with
    |none=>Y
    |some (p,t,e)=>aC p (k t e [])
   | .value f=>match abA (ck fr f)with
    |some o=>call (.yl o) args s (λt e=>k t e []) kp
    |none=>match(ck fr f).bind (nS · args)with
     |none=>Y
     |some (f,args)=>sk E call s f args kp k
   | .invoke x m=>match ck fr x with
    |some (.cR t v)=>match E.T.I3 t m with
     |some f=>sk E call s f (v::args) kp k
     |none=>Y
    |some (.ty (.cR n) x)=>QJ E call s m args n x kp k (S.alts n) 0
    |_=>Y
 | .panic x=>match ck fr x with
  |some (.cR t v)=>kp (.cR t v) s
  |_=>Y
 |op=>match iI E.T fr s op with
  |some (g,p,d,e)=>sU (λv s=>k v s []) (aC p (k d e [])) g
  |none=>match yD E.T fr s op with
   |none=>Y
   |some (p,t,e)=>aC p (k t e [])
def xq(c:Option Bool)(p:Bool)(x:Option ω):Option ω:=match c with
 |none=>aC p x
 |some c=>aC (imp c p) x
def agG{α:Type}(c:Option Bool)(x:Option α)(z:α):Option α:=match c with
 |none=>x
 |some c=>aj c x (Z z)
mutual
def qP:V S->Bool
 | .sh _ _=>J
 | .qd _ _ _ _=>J
 | .cR _ v=>qP v
 | .agg b=>iU b
 | .gm b=>iU b
 |_=>W
def iU:List (V S)->Bool
 |[]=>W
 |v::l=>qP v&&iU l
end
def TP(S:Sg):(cs:List Ck)->gl S.A cs
 |[]=>()
 |c::cs=>(S.zero c.ty,TP S cs)
def ae4(A:Nat->Type):(ps:List Pk)->Option (iD A ps)
 |[]=>Z ()
 | .one _::ps=>ae4 A ps
 | .box _::_=>Y
 | .hid _::_=>Y
def ym:Builtin->Bool
 | .len|.max|.min=>W
 |_=>J
def sS(k:V S->Option ω)(d:Option ω):List (Bool×V S×bq S)->Option ω
 |[]=>d
 |p::l=>aj p.1 (k p.2.1) (sS k d l)
def eB(g:Option Bool)(fr:bW S)(s:bq S)(o:Oper)(k:V S->Option ω):Option ω:=
 match o.op with
 | .call c=>match jP fr c.args.toList with
  |none=>Y
  |some args=>match c.callee with
   | .builtin b=>bif ym b then match kg E.T s b c.argTypes args with
     |some (p,t,_)=>xq g p (k t)
     |none=>Y
    else Y
   | .value f=>match(ck fr f).bind (nS · args)with
    |none=>Y
    |some (f,args)=>match E.Gj f with
     |none=>Y
     |some c=>bif bU c.ps&&(jb c.rs&&(iU args&&!c.pn))then
       match dZ s c.ps args Y,ae4 S.A c.ps with
       |some (x,_,_,_),Z b=>ai (agG g (c.F x) (RT.ok c.pn (TP S c.rs,b))) λr=>match RT.res c.pn r with
        | .ok r=>k (FR (sO c.rs r.1))
        | .dh _=>Y
       |_,_=>Y
      else Y
   |_=>Y
 | .store ..|.alloc ..|.box ..|.panic ..|.makeMap ..|.mapUpdate ..|.insert ..|.makeSlice ..|.range ..|.next ..|.defer ..=>Y
 | .buildSlice t n ps=>match ir fr ps.toList with
  |some l=>bif iU (l.map (·.2))then match yD E.T fr s (.buildSlice t n ps)with
   |none=>Y
   |some (p,v,_)=>xq g p (k v)
   else Y
  |none=>Y
 | .slice t x lo hi i=>match ck fr x with
  |some v=>bif qP v then match yD E.T fr s (.slice t x lo hi i)with
   |none=>Y
   |some (p,v,_)=>xq g p (k v)
   else Y
  |none=>Y
 |op=>match iI E.T fr s op with
  |some (e,p,d,_)=>sS k (xq g p (k d)) e
  |none=>match yD E.T fr s op with
   |none=>Y
   |some (p,v,_)=>xq g p (k v)
def zS(fr:bW S)(o:Oper):Bool:=
 match o.op with
 | .call c=>match jP fr c.args.toList with
  |none=>J
  |some args=>match c.callee with
   | .builtin b=>ym b
   | .value f=>match(ck fr f).bind (nS · args)with
    |none=>J
    |some (f,args)=>match E.Gj f with
     |none=>J
     |some c=>bU c.ps&&(jb c.rs&&(iU args&&!c.pn))
   |_=>J
 | .store ..|.alloc ..|.box ..|.panic ..|.makeMap ..|.mapUpdate ..|.insert ..|.makeSlice ..|.range ..|.next ..|.defer ..=>J
 | .buildSlice _ _ ps=>match ir fr ps.toList with
  |some l=>iU (l.map (·.2))
  |none=>J
 | .slice _ x _ _ _=>match ck fr x with
  |some v=>qP v
  |none=>J
 |_=>W
def mQ(fr:bW S)(o:Op):bW S:=
 o.operands.toList.foldl (λf x=>match x with
  | .tmp k=>match fr.get k with
   |some (.gd _ v)=>f.put k v
   |_=>f
  |_=>f) fr
def Jp(c:Bool)(fr:bW S)(o:Op):Bool:=
 o.operands.toList.foldl (λp x=>match x with
  | .tmp k=>match fr.get k with
   |some (.gd g _)=>p&&imp c g
   |_=>p
  |_=>p) W
def g6(ops:List Oper)(fr:bW S)(o:Oper):Option (Option Bool):=
 match o.guard with
 |none=>Z Y
 |some (j,d)=>match((nth ops j).bind (·.dst)).bind fr.get with
  |some (.kb b)=>bif (bif b then d else !d)then Z Y else Z (Z J)
  |some t=>match iy t with
   |some b=>Z (Z (D.beq b d))
   |none=>Y
  |none=>Y
def sL(ops:List Oper)(fr:bW S)(o:Oper):Bool:=
 match o.guard with
 |none=>J
 |some (j,d)=>match((nth ops j).bind (·.dst)).bind fr.get with
  |some (.kb b)=>bif b then !d else d
  |some (.dat (.lit (.tuple _)))=>W
  |_=>J
def QE(ops:List Oper)(d:Option Nat):Bool:=match d with
 |none=>J
 |some d=>ops.any λo=>match o.guard with
  |none=>J
  |some (j,_)=>match(nth ops j).bind (·.dst)with
   |some e=>Nat.beq d e
   |none=>J
def zM{ω:Type}(b:Bool)(t:V S)(k:V S->Option ω):Option ω:=bif b then match t with
  | .ty .bool x=>aj x (k (.kb W)) (k (.kb J))
  |t=>k t
 else k t
def fV(fr:bW S):Option Nat->Bool
 |none=>W
 |some d=>Nat.blt d fr.n
def mC(ops:List Oper)(o:Oper)(fr:bW S)(s:bq S)(kp:V S->bq S->Option ω)(k:V S->bq S->List Nat->Option ω):Option ω:=
 bif fV fr o.dst then bif sL ops fr o then k fu s []else match g6 ops fr o with
  |none=>Y
  |some Y=>si E call o fr s kp k
  |some (Z c)=>
   let f:=mQ fr o.op
   bif zS E f o then aC (Jp c fr o.op) (eB E (Z c) f s o λt=>k (.gd c t) s [])
   else aj c (aC (Jp c fr o.op) (si E call o f s kp k)) (k (.gd J fu) s [])
 else Y
def OJ(fr:bW S)(o:Oper):Option (A2 S):=match o.guard,o.op with
 |none,.defer c=>match c.callee with
  | .value f=>match ck fr f,jP fr c.args.toList with
   |some (.fn f a b),Z args=>Z (.call (.fn f a b) args)
   |_,_=>Y
  |_=>Y
 |_,_=>Y
def OD(ops:List Oper)(o:Oper)(fr:bW S)(s:bq S)(kp:V S->bq S->Option ω)(k:bW S->bq S->Option ω):Option ω:=
 match OJ fr o with
 |some d=>bif fV fr o.dst then k {(fr.hY o.dst wR)with df:=d::fr.df} s else Y
 |none=>mC E call ops o fr s kp λt b e=>zM (QE ops o.dst) t λt=>k ((dU e fr).hY o.dst t) b
def Mj(ops:List Oper)(kp:bW S->V S->bq S->Option ω)(k:bW S->bq S->Option ω):List Oper->bW S->bq S->Option ω
 |[],fr,s=>k fr s
 |o::l,fr,s=>OD E call ops o fr s (kp fr) λb d=>Mj ops kp k l b d
end
end
section
def vU(o:Oper):List Nat:=(o.after.toList.filter (Region.binds .any)).map (·.on)
def MU:List Oper->List Nat->List Nat
 |[],d=>d
 |o::l,d=>MU l (d++[(vU o).foldl (λb e=>b||| (1 <<< e||| d.getD e 0)) 0])
def uA(ops:List Oper):List Nat:=MU ops []
def sQ:List Oper->Nat->Bool
 |[],_=>W
 |o::l,n=>(vU o).all (λe=>Nat.blt e n)&&sQ l (Nat.succ n)
def Kr(o:Oper)(k:Nat):Bool:=o.op.operands.toList.any λx=>match x with|.tmp j=>Nat.beq j k|_=>J
def ZU(ops:List Oper)(b:List Nat):Bool:=
 ops.zipIdx.all λ(o,i)=>match o.dst with
  |none=>W
  |some d=>Nat.blt d bB&&ops.zipIdx.all λ(p,j)=>bif Nat.beq i j then !(Kr p d)else !(match p.dst with|some e=>Nat.beq e d|none=>J)&&(!(Kr p d)||((b.getD j 0).testBit i||(b.getD i 0).testBit j))
def Q1(ops:List Oper)(b:List Nat)(i:Nat)(o:Oper):Bool:=match o.dst with
 |none=>J
 |some d=>ops.zipIdx.any λ(p,j)=>Kr p d&&(b.getD i 0).testBit j
def abC(ops:List Oper):Bool:=ops.all λo=>o.op.operands.toList.all λx=>match x with|.tmp j=>Nat.blt j bB|_=>W
def Jo(ops:List Oper)(b:List Nat):Bool:=
 ops.zipIdx.all λ(o,i)=>match o.guard with
  |none=>W
  |some (j,_)=>(b.getD i 0).testBit j
def eJ(o:Oper):Bool:=match o.op with|.alloc _=>o.guard.isNone|_=>J
def Rr(a b:Nat):Bool:=Nat.beq (a&&& b) a
abbrev TA:=List (Nat×Oper)
mutual
def cD(p:Nat->Bool):V S->Bool
 | .ptr o _=>p o
 | .kA o _ _ _=>p o
 | .sh o _=>p o
 | .mp o=>p o
 | .ry o=>p o
 | .ru o=>p o
 | .qd o m _ _=>p o||p m
 | .fn _ a b=>gZ p a||gZ p b
 | .cR _ v=>cD p v
 | .agg d=>gZ p d
 | .gm d=>gZ p d
 | .gd _ v=>cD p v
 |_=>J
def gZ(p:Nat->Bool):List (V S)->Bool
 |[]=>J
 |v::l=>cD p v||gZ p l
end
def eE(ow:List Nat)(aH:Nat)(o:Nat):Bool:=ow.contains o||Nat.ble aH o
section
variable (E:fY S)(call:iC S){ω:Type}
def IN(ops:List Oper)(b:List Nat)(done:Nat)(fr:bW S):TA->Option (Nat×Oper)
 |[]=>Y
 |(i,o)::l=>bif !(done.testBit i)&&(Rr (b.getD i 0) done&&((!(eJ o)&&!(Q1 ops b i o))&&(sL ops fr o||(match g6 ops fr o with|some (Z _)=>zS E (mQ fr o.op) o|some Y=>zS E fr o|none=>J))))
   then Z (i,o)else IN ops b done fr l
def IP(b:List Nat)(done oA:Nat):TA->Option (Nat×Oper)
 |[]=>Y
 |(i,o)::l=>bif !(done.testBit i)&&(!(eJ o)&&Rr (b.getD i 0) (done||| oA))then Z (i,o)else IP b done oA l
def sW(E:gA)(b:Nat):TA->bW S->bq S->Option (bW S×bq S)
 |[],fr,s=>Z (fr,s)
 |(i,o)::l,fr,s=>bif b.testBit i then match o.op,o.dst with
   | .alloc t,Z d=>match E.E.ti t with
    |some ti=>bif Nat.blt s.aH bB&&Nat.blt d fr.n then sW E b l (fr.put d (.ptr s.aH 0)) (dm s (.box (ti.zero.map zeroV)))else Y
    |none=>Y
   |_,_=>Y
  else sW E b l fr s
def je(p:Nat->Bool)(fr:bW S)(o:Op):Bool:=o.operands.toList.any λx=>match ck fr x with
 |some v=>cD p v
 |none=>J
def Lq:Op->Bool
 | .move _|.assign _|.nilCheck _|.fieldAddr ..=>W
 |_=>J
def CW(ops:List Oper)(b:List Nat)(done i:Nat)(fr:bW S)(aH:Nat)(wr ow:List Nat):TA->Bool
 |[]=>W
 |(j,o)::l=>(!(done.testBit j)||(eJ o||((b.getD i 0).testBit j||(!(je (eE wr aH) fr o.op||je (eE wr aH) (mQ fr o.op) o.op)||(Lq o.op&&!(je (λx=>ow.contains x) fr o.op||je (λx=>ow.contains x) (mQ fr o.op) o.op))))))&&CW ops b done i fr aH wr ow l
def wk(all:TA)(done:Nat):Nat:=all.foldl (λb(i,o)=>bif eJ o&&!(done.testBit i)then b||| 1 <<< i else b) 0
def adj(ops:List Oper)(fr:bW S):bW S:={fr with tm:=(ops.filterMap (·.dst)).foldl (λt k=>t.del aJ k) fr.tm}
def sj(ops:List Oper)(b:List Nat)(all:TA)(kp:bW S->V S->bq S->Option ω)(k:bW S->bq S->Option ω):Nat->Nat->bW S->bq S->Option ω
 |0,_,_,_=>Y
 |n+1,done,fr,s=>
  match IN E ops b done fr all with
  |some (i,o)=>bif fV fr o.dst then bif sL ops fr o then sj ops b all kp k n (done||| 1 <<< i) (fr.hY o.dst fu) s else match g6 ops fr o with
    |none=>Y
    |some Y=>eB E Y fr s o λt=>zM (QE ops o.dst) t λt=>sj ops b all kp k n (done||| 1 <<< i) (fr.hY o.dst t) s
    |some (Z c)=>aC (Jp c fr o.op) (eB E (Z c) (mQ fr o.op) s o λt=>sj ops b all kp k n (done||| 1 <<< i) (fr.hY o.dst (.gd c t)) s)
   else Y
  |none=>
   let oA:=wk all done
   match IP b done oA all with
   |some (i,o)=>
    bif all.all (λ(j,p)=>done.testBit j||(eJ p||(Nat.beq i j||(b.getD j 0).testBit i)))then
     match sW E.T (oA&&& b.getD i 0) all fr s with
     |none=>Y
     |some (d,g)=>
      mC E call ops o d {g with wr:=[]} (λt e=>kp (adj ops d) t {e with wr:=e.wr++g.wr}) λt e l=>
       bif CW ops b done i fr s.aH e.wr l all then sj ops b all kp k n (done||| (oA&&& b.getD i 0)||| 1 <<< i) ((dU l d).hY o.dst t) {e with wr:=e.wr++g.wr}else Y
    else Y
   |none=>match sW E.T oA all fr s with
    |none=>Y
    |some (fr,s)=>bif all.all (λ(j,p)=>done.testBit j||eJ p)then k fr s else Y
def O2(E:gA)(n:Nat)(l:List Oper):Bool:=l.all λo=>bif eJ o then(match o.op with
  | .alloc t=>(E.E.ti t).isSome
  |_=>W)&&(match o.dst with|some d=>Nat.blt d n|none=>W)
 else W
def Wq(E:fY S)(fr:bW S)(s:bq S)(l:List Oper)(b:List Nat):Bool:=sQ l 0&&(ZU l b&&(Jo l b&&(abC l&&(O2 E.T fr.n l&&Nat.beq s.fl 0))))
end
inductive LO(X R B P:Type) where
 |next (x:X)
 |out (j:Nat) (x:X)
 |ret (b:B) (r:R)
 |dh (b:B) (p:P)
def iter{X R B P:Type}(F:X->Option (LO X R B P)):Nat->X->Option (LO X R B P)
 |0,_=>Y
 |n+1,x=>match F x with
  |none=>Y
  |some (.next y)=>iter F n y
  |some (.out j y)=>Z (.out j y)
  |some (.ret y r)=>Z (.ret y r)
  |some (.dh y p)=>Z (.dh y p)
def Nt:Code->Bool
 | .region _ d _=>d.toList.all λo=>match o.op with|.defer _=>J|_=>W
 | .seq a b=>Nt a&&Nt b
 | .cond _ a b=>Nt a&&Nt b
 | .block _ b=>Nt b
 | .loop b=>Nt b
 | .scope _=>J
 | .rangeFunc ..=>J
 |_=>W
def vY:Code->List Nat
 | .region _ d _=>d.toList.foldl (λl o=>o.op.operands.toList.foldl (λl x=>match x with|.tmp k=>k::l|_=>l) l) []
 | .seq a b=>vY a++vY b
 | .cond c a b=>(match c with|.tmp k=>[k]|_=>[])++(vY a++vY b)
 | .block _ b=>vY b
 | .loop b=>vY b
 |_=>[]
def QG(l:List Nat)(fr:bW S):bW S:={n:=fr.n,tm:=l.foldl (λt k=>match fr.get k with|some v=>t.set aJ k v|none=>t) .nil,df:=[]}
def NJ:List Nat->List (V S)->Tr (V S)->Tr (V S)
 |k::b,v::d,t=>NJ b d (t.set aJ k v)
 |_,_,t=>t
def Dl:LoopState->Option Code->Bool
 | .ready,Y=>W
 |_,_=>J
def QT:Operand->List Nat
 | .tmp k=>[k]
 |_=>[]
def eO:Code->List Nat
 | .region _ d _=>d.toList.filterMap (·.dst)
 | .seq a b=>eO a++eO b
 | .cond c a b=>QT c++(eO a++eO b)
 | .block _ b=>eO b
 | .loop b=>eO b
 | .rangeFunc _ _ a b=>eO a++eO b
 | .scope b=>eO b
 |_=>[]
def ku:Code->List Nat
 | .seq a b=>ku a++ku b
 | .cond _ a b=>ku a++ku b
 | .block i b=>(ku b).filter λj=>!(Nat.beq i j)
 | .loop b=>ku b
 | .rangeFunc _ _ a b=>ku a++ku b
 | .scope b=>ku b
 | .exit i=>[i]
 |_=>[]
def xy:List Nat->List Nat
 |[]=>[]
 |a::l=>a::(xy l).filter λb=>!(Nat.beq a b)
def kR(sh:Sh):List Pk:=sh.map (·.2)
def Is(fr:bW S)(s:bq S):Pt->Option (V S)
 | .slot k=>fr.get k
 | .cell p i=>match Is fr s p with
  |some (.ptr o 0)=>match s.ob.get o with
   |some (.box b)=>nth b i
   |_=>Y
  |_=>Y
 | .cap p i=>match Is fr s p with
  |some (.fn _ _ b)=>nth b i
  |_=>Y
 | .rnd p k=>match Is fr s p with
  |some (.ry o)=>match s.ob.get o with
   |some (.lp l)=>l.fr.get k
   |_=>Y
  |_=>Y
def qL(fr:bW S)(s:bq S):Sh->List Pt->Option (List Nat)
 |[],[]=>Z []
 |(_,.one _)::l,ps=>qL fr s l ps
 |(_,.box k)::l,p::ps=>match Is fr s p with
  |some v=>match BY k v,qL fr s l ps with
   |some o,Z r=>Z (o::r)
   |_,_=>Y
  |none=>Y
 |(_,.hid k)::l,p::ps=>match Is fr s p with
  |some v=>match BY k v,qL fr s l ps with
   |some o,Z r=>Z (o::r)
   |_,_=>Y
  |none=>Y
 |_,_=>Y
def s8(fr:bW S):Sh->List Nat->Option (List (V S))
 |[],[]=>Z []
 |(k,.one _)::l,b=>match fr.get k,s8 fr l b with
  |some v,Z r=>Z (v::r)
  |_,_=>Y
 |(_,.box k)::l,o::b=>match s8 fr l b with
  |some r=>Z (Sr k o::r)
  |none=>Y
 |(_,.hid _)::l,_::b=>s8 fr l b
 |_,_=>Y
def kH:(sh:Sh)->List Nat->fU S.A (kR sh)->bW S->bq S->Option (bW S×bq S)
 |[],[],_,fr,s=>Z (fr,s)
 |(k,.one c)::l,b,x,fr,s=>match tB s c x.1 with
  |(v,s)=>bif Nat.blt k fr.n&&Nat.ble s.aH bB then kH l b x.2 (fr.put k v) s else Y
 |(_,.box k)::l,o::b,x,fr,s=>match gC s (dF b) k x.1 with
  |(ob,s)=>bif Nat.ble s.aH bB then kH l b x.2 fr {s with ob:=s.ob.set aJ o ob}else Y
 |(_,.hid k)::l,o::b,x,fr,s=>match gC s (dF b) k x.1 with
  |(ob,s)=>bif Nat.ble s.aH bB then kH l b x.2 fr {s with ob:=s.ob.set aJ o ob}else Y
 |_,_,_,_,_=>Y
def I5{α:Type}(p:Nat->Bool):List (α×V S)->Bool
 |[]=>J
 |x::l=>cD p x.2||I5 p l
def jG(p:Nat->Bool):vX S->Bool
 | .box b=>gZ p b
 | .Gd _ l=>I5 p l
 | .lp l=>pK (cD p) l.fr.tm
 | .kj _ _ _ _ m _ _=>p m
 |_=>J
def iP(p:Nat->Bool)(v:V S):V S:=bif cD p v then wR else v
def gf(p:Nat->Bool):vX S->vX S
 | .box d=>.box (d.map (iP p))
 | .Gd kt l=>.Gd kt (l.map λx=>(x.1,iP p x.2))
 | .lp l=>.lp {l with fr:={l.fr with tm:=l.fr.tm.mapA (iP p)}}
 | .kj n j l era m b hole=>bif p m then .gone else .kj n j l era m b hole
 |o=>o
def cT(ds ow bs:List Nat)(fr:bW S)(b:bq S):bW S×bq S:=
 ({fr with tm:=(ds.foldl (λt k=>t.del aJ k) fr.tm).keep λv=>!(cD (eE ow b.aH) v),df:=fr.df.map (ig (cD (eE ow b.aH)))},HT bs {b with ob:=b.ob.mapA (gf (eE ow b.aH)),wr:=[],dr:=[]})
def Ry:Sh->Sh
 |[]=>[]
 |(_,.one _)::l=>Ry l
 |(k,.box b)::l=>(k,.box b)::Ry l
 |(k,.hid b)::l=>(k,.hid b)::Ry l
abbrev LOT(S:Sg)(sh:Sh)(rs:List Ck):=LO (fU S.A (kR sh)) (gl S.A rs) (fU S.A (kR (Ry sh))) (den S.A S.pt)
def V8(ds:List Nat):Sh->List Nat
 |[]=>[]
 |(k,.one (.own _))::l=>bif ds.contains k then V8 ds l else k::V8 ds l
 |_::l=>V8 ds l
def Lw:Sh->List Nat
 |[]=>[]
 |(k,.one (.own _))::l=>k::Lw l
 |_::l=>Lw l
def T5(fr:bW S)(s:bq S)(c:Nat):Option (V S):=bif Nat.blt c 1000000 then fr.get c else match fr.get (Nat.div (Nat.sub c 1000000) 1000)with
 |some (.ptr o 0)=>match s.ob.get o with
  |some (.box b)=>nth b (Nat.mod (Nat.sub c 1000000) 1000)
  |_=>Y
 |_=>Y
def Th(fr:bW S)(s:bq S)(al:List (Nat×Nat)):Bool:=al.all λp=>match fr.get p.1,T5 fr s p.2 with
 |some (.sh o r),Z (.sh b d)=>Nat.beq o b&&Nat.beq r d
 |_,_=>J
def Z9(fr:bW S)(ow:List Nat)(al:List (Nat×Nat)):Bool:=al.all λp=>match fr.get p.1 with
 |some (.sh o _)=>ow.contains o
 |_=>J
def kZ(s:bq S):List (Nat×Nat)->bW S->bW S
 |[],fr=>fr
 |p::l,fr=>kZ s l (match T5 fr s p.2 with|some v=>fr.put p.1 v|none=>fr)
def ZJ(fr:bW S)(l:List Nat):Bool:=l.all λk=>match fr.get k with
 |some (.sh _ _)=>W
 |_=>J
def Da(ds:List Nat)(sh:Sh):Bool:=sh.all λp=>match p.2 with
 | .one _=>ds.contains p.1
 | .box _=>W
 | .hid _=>W
abbrev Rv:=List (Nat×Ty)
def FU(rv:Rv):List Ck:=rv.map λp=>.dat p.2
def Ud(fr:bW S):Rv->Option (List (V S))
 |[]=>Z []
 |(k,_)::l=>match fr.get k,Ud fr l with
  |some v,Z r=>Z (v::r)
  |_,_=>Y
def v9:(rv:Rv)->gl S.A (FU rv)->bW S->bW S
 |[],_,fr=>fr
 |(k,_)::l,x,fr=>v9 l x.2 (fr.put k (.ty _ x.1))
def bW.rZ(fr:bW S)(c:Operand)(b:Bool):bW S:=match c with
 | .tmp k=>bif Nat.blt k fr.n then fr.put k (.kb b)else fr
 |_=>fr
noncomputable def Gw{ω:Type}(e:Bool)(x y:Option ω):Option ω:=bif e then(open Classical in if x=y then y else Y)else y
def Zd(l:List Nat)(i:Nat):Nat:=match l with
 |[]=>0
 |a::l=>bif Nat.beq a i then 0 else Nat.succ (Zd l i)
def rQ(sh:Sh)(bs:List Nat)(fr:bW S)(s:bq S):Option (fU S.A (kR sh)×bq S×List Nat):=
 match s8 fr sh bs with
 |none=>Y
 |some i=>match dZ s (kR sh) i Y with
  |none=>Y
  |some (x,g,e,d)=>match dz s g with
   |none=>Y
   |some j=>bif rU e&&(AH e g&&(rU d&&(Nat.beq (cz d) (cz bs)&&(d.zip bs).all λ(a,b)=>Nat.beq a b)))then Z (x,j,e)else Y
def Ny(aH:Nat)(bs wr:List Nat):Bool:=wr.all λo=>Nat.ble aH o||bs.contains o
def sP{ω:Type}(sh:Sh)(bs:List Nat)(aH:Nat)(fr:bW S)(s:bq S)(f:fU S.A (kR sh)->Option ω):Option ω:=
 match rQ sh bs fr s with
 |some (x,b,d)=>bif Ny aH bs b.wr&&(d.all (λo=>Nat.ble aH o)&&b.dr.all (λo=>Nat.ble aH o))then f x else Y
 |none=>Y
section
variable (E:fY S)(call:iC S)(n:Nat)(fid:FuncId)(rv:Rv)
def OB{ω:Type}(k:bW S->bq S->Option ω)(Q:wO S->bW S->bq S->Option ω):wO S->bW S->bq S->Option ω
 | .o9,fr,s=>k fr s
 | .ext i,fr,s=>Q (.ext i) fr s
 | .ret,fr,s=>Q .ret fr s
 | .dh v,fr,s=>Q (.dh v) fr s
def Mh{ω:Type}(i:Nat)(Q:wO S->bW S->bq S->Option ω):wO S->bW S->bq S->Option ω
 | .o9,fr,s=>Q .o9 fr s
 | .ext j,fr,s=>match Nat.beq j i with
  |true=>Q .o9 fr s
  |false=>Q (.ext j) fr s
 | .ret,fr,s=>Q .ret fr s
 | .dh v,fr,s=>Q (.dh v) fr s
def Yv{ω:Type}(Q:wO S->bW S->bq S->Option ω)(fr:bW S)(s:bq S):List Nat->Nat->Option ω
 |[],_=>Y
 |[i],_=>Q (.ext i) fr s
 |i::l,j=>match j with
  |0=>Q (.ext i) fr s
  |j+1=>Yv Q fr s l j
def abK(fr fr':bW S):Bool:=Nat.beq (cz fr'.df) (cz fr.df)
def Di(ev:{ω:Type}->(wO S->bW S->bq S->Option ω)->bW S->bq S->Option ω)(sh:Sh)(bs:List Nat)(aH:Nat)(e:List Nat)(base:bW S×bq S)(pn:Bool)(al:List (Nat×Nat))(x:fU S.A (kR sh)):Option (LOT S sh (FU rv)):=
 match kH sh bs x base.1 base.2 with
 |none=>Y
 |some (i,g)=>ev (λl b d=>bif abK base.1 b then match l with
  | .o9=>bif Th b d al then sP sh bs aH b d (λy=>Z (.next y))else Y
  | .ext j=>bif e.contains j&&Th b d al then sP sh bs aH b d (λy=>Z (.out (Zd e j) y))else Y
  | .ret=>match Ud b rv with
   |none=>Y
   |some m=>match gL d (FU rv) m with
    |some (r,k,_)=>match dz d k with
     |some d=>sP (Ry sh) bs aH b d (λy=>Z (.ret y r))
     |none=>Y
    |none=>Y
  | .dh v=>bif pn then match gL d [.dat S.pt] [v]with
    |some (p,k,_)=>match dz d k with
     |some d=>sP (Ry sh) bs aH b d (λy=>Z (.dh y p.1))
     |none=>Y
    |none=>Y
   else Y
  else Y) (kZ g al i) g
def sd:Code->Option Nat
 | .region id _ _=>Z id
 | .seq a b=>match sd a with
  |some k=>Z k
  |none=>sd b
 | .cond _ a b=>match sd a with
  |some k=>Z k
  |none=>sd b
 | .block _ b=>sd b
 | .loop b=>sd b
 | .scope b=>sd b
 |_=>Y
def afF(a b:Code):Nat:=match sd a with
 |some k=>Nat.add 1000000 k
 |none=>match sd b with
  |some k=>Nat.add 1000000 k
  |none=>999999
noncomputable def MC{ω:Type}(c:Operand)(A B:(wO S->bW S->bq S->Option ω)->bW S->bq S->Option ω)(Q:wO S->bW S->bq S->Option ω)(fr:bW S)(s:bq S):Option ω:=match ck fr c with
  |some (.kb W)=>A Q fr s
  |some (.kb J)=>B Q fr s
  |some (.ub e)=>Gw e (A Q (fr.rZ c W) s) (B Q (fr.rZ c J) s)
  |some v=>match iy v with
   |some t=>aj t (A Q (fr.rZ c W) s) (B Q (fr.rZ c J) s)
   |none=>Y
  |none=>Y
def Vr(ev:{ω:Type}->(wO S->bW S->bq S->Option ω)->bW S->bq S->Option ω){ω:Type}(sh:Sh)(pts:List Pt)(al:List (Nat×Nat))(l m:List Nat)(Q:wO S->bW S->bq S->Option ω)(fr:bW S)(s:bq S):Option ω:=
 match qL fr s sh pts with
 |none=>Y
 |some i=>
  let ds:=l++(V8 l sh++al.map (·.1))
  match rQ sh i fr s with
  |none=>Y
  |some (q,e,k)=>
   let base:=cT ds k i fr e
   bif (Da ds sh&&(ZJ fr (V8 l sh)&&(Th fr s al&&Z9 fr k al)))&&ds.all (λd=>Nat.blt d fr.n)then
    ai (Di rv ev sh i e.aH m base E.pn al q) λ(o:LOT S sh (FU rv))=>match o with
     | .next x=>match kH sh i x base.1 base.2 with
      |none=>Y
      |some (g,b)=>Q .o9 (kZ b al g) {b with wr:=e.ob.jt (jG (eE k e.aH))++(i++e.wr),dr:=k++e.dr}
     | .out j x=>match kH sh i x base.1 base.2 with
      |none=>Y
      |some (g,b)=>Yv Q (kZ b al g) {b with wr:=e.ob.jt (jG (eE k e.aH))++(i++e.wr),dr:=k++e.dr} m j
     | .ret x r=>match kH (Ry sh) i x base.1 base.2 with
      |none=>Y
      |some (g,b)=>Q .ret (v9 rv r g) {b with wr:=e.ob.jt (jG (eE k e.aH))++(i++e.wr),dr:=k++e.dr}
     | .dh y p=>bif E.pn then match kH (Ry sh) i y base.1 base.2 with
      |none=>Y
      |some (g,b)=>Q (.dh (.ty S.pt p)) g {b with wr:=e.ob.jt (jG (eE k e.aH))++(i++e.wr),dr:=k++e.dr}
      else Y
   else Y
def Qn{ω:Type}(ev:(wO S->bW S->bq S->Option ω)->bW S->bq S->Option ω)(Q:wO S->bW S->bq S->Option ω)(b:bW S->bq S->Option ω):Nat->bW S->bq S->Option ω
 |0,fr,s=>b fr s
 |m+1,fr,s=>ev (OB (Qn ev Q b m) Q) fr s
noncomputable def tC:Code->Nat->{ω:Type}->(wO S->bW S->bq S->Option ω)->bW S->bq S->Option ω
 | .region _ u J,_,_,Q,fr,s=>Mj E call u.toList (λfr t s=>Q (.dh t) fr s) (Q .o9) u.toList fr s
 | .region _ u W,_,_,Q,fr,s=>
  let l:=u.toList
  let B:=uA l
  let all:=l.zipIdx.map λp=>(p.2,p.1)
  bif Wq E fr s l B then sj E call l B all (λfr t s=>Q (.dh t) fr s) (Q .o9) (Nat.succ (Nat.mul 2 (cz l))) 0 fr s else Y
 | .seq a b,i,_,Q,fr,s=>tC a i (OB (tC b i Q) Q) fr s
 | .cond c a b,i,_,Q,fr,s=>match E.sh fid (afF a b)with
  |none=>MC c (tC a i) (tC b i) Q fr s
  |some ⟨sh,pts,al,_⟩=>Vr E rv (λQ fr s=>MC c (tC a i) (tC b i) Q fr s) sh pts al (eO (.cond c a b)++rv.map (·.1)) (xy (ku (.cond c a b))) Q fr s
 | .block i b,_,_,Q,fr,s=>tC b i (Mh i Q) fr s
 | .loop b,i,_,Q,fr,s=>match E.sh fid i with
  |none=>Y
  |some ⟨sh,pts,al,pl⟩=>Qn (tC b i) Q (λfr s=>match qL fr s sh pts with
  |none=>Y
  |some v=>
   let w:=eO b++rv.map (·.1)
   let ds:=w++(V8 w sh++al.map (·.1))
   match rQ sh v fr s with
   |none=>Y
   |some (H,e,q)=>
    let base:=cT ds q v fr e
    let C:=xy (ku b)
    bif (Da ds sh&&(ZJ fr (V8 w sh)&&(Th fr s al&&Z9 fr q al)))&&ds.all (λd=>Nat.blt d fr.n)then
     ai (iter (Di rv (tC b i) sh v e.aH C base E.pn al) n H) λ(o:LOT S sh (FU rv))=>match o with
      | .next _=>Y
      | .out j x=>match kH sh v x base.1 base.2 with
       |none=>Y
       |some (m,k)=>Yv Q (kZ k al m) {k with wr:=e.ob.jt (jG (eE q e.aH))++(v++e.wr),dr:=q++e.dr} C j
      | .ret x r=>match kH (Ry sh) v x base.1 base.2 with
       |none=>Y
       |some (m,k)=>Q .ret (v9 rv r m) {k with wr:=e.ob.jt (jG (eE q e.aH))++(v++e.wr),dr:=q++e.dr}
      | .dh y p=>bif E.pn then match kH (Ry sh) v y base.1 base.2 with
       |none=>Y
       |some (m,k)=>Q (.dh (.ty S.pt p)) m {k with wr:=e.ob.jt (jG (eE q e.aH))++(v++e.wr),dr:=q++e.dr}
       else Y
    else Y) pl fr s
 | .rangeFunc g ps z body,_,_,Q,fr,s=>match(ck fr g).bind (nS · [.ry (Nat.succ s.aH)])with
  |none=>Y
  |some (f,args)=>bif Nt z&&(Nt body&&(Nat.ble s.fl (Nat.succ s.aH)&&Nat.blt (Nat.succ s.aH) bB))then
    sk E call (dm (dm s .zH) (.lp ⟨.ready,Y,fid,QG (vY z++vY body) fr,ps.toList,z,body⟩)) f args (λ_ _=>Y) λ_ G q=>match q with
     |[]=>match G.ob.get (Nat.succ s.aH)with
      |some (.lp l)=>bif Dl l.st l.oA then Q .o9 {fr with df:=.mark s.aH::fr.df} {G with ob:=G.ob.set aJ (Nat.succ s.aH) (.lp {l with st:=.exhausted})}else Y
      |_=>Y
     |_::_=>Y
   else Y
 | .exit i,_,_,Q,fr,s=>Q (.ext i) fr s
 | .ret,_,_,Q,fr,s=>Q .ret fr s
 | .skip,_,_,Q,fr,s=>Q .o9 fr s
 | .label _,_,_,Q,fr,s=>Q .o9 fr s
 | .scope b,i,_,Q,fr,s=>tC b i Q fr s
 |_,_,_,_,_,_=>Y
end
def j4(E:gA)(s:bq S)(fr:bW S):List ResultVar->Option (List (V S))
 |[]=>Z []
 | .tmp t::l=>match fr.get t,j4 E s fr l with
  |some x,Z r=>Z (x::r)
  |_,_=>Y
 | .cell a t::l=>match E.E.ti t,fr.get a with
  |some i,Z a=>match wu i (E.ty t) s a,j4 E s fr l with
   |some (p,x,_),Z r=>bif p then Z (x::r)else Y
   |_,_=>Y
  |_,_=>Y
def nM:List (V S)->Nat->Tr (V S)->Tr (V S)
 |[],_,t=>t
 |a::l,k,t=>nM l (Nat.succ k) (t.set aJ k a)
def RC(E:gA):List ResultVar->List TypeId->Rv
 | .tmp k::l,t::b=>match E.ty t with
  |some τ=>(k,τ)::RC E l b
  |none=>RC E l b
 |_::l,_::b=>RC E l b
 |_,_=>[]
def isRec(o:Oper):Bool:=match o.guard,o.op with
 |none,.call c=>match c.callee with
  | .builtin .recover=>W
  |_=>J
 |_,_=>J
def aeP(pv:Option (V S)):V S:=match pv with
 |some v=>v
 |none=>.dat (.lit .nilIface)
section
variable (E:fY S)(call:iC S)(n:Nat)(pv:Option (V S)){ω:Type}
noncomputable def evR(fid:FuncId)(rv:Rv):Code->Nat->(Bool->wO S->bW S->bq S->Option ω)->bW S->bq S->Option ω
 | .region id d J,i,Q,fr,s=>match d.toList with
  |o::l=>bif isRec o then(bif fV fr o.dst then Mj E call (o::l) (λfr t s=>Q pv.isSome (.dh t) fr s) (Q pv.isSome .o9) l (fr.hY o.dst (aeP pv)) s else Y)
   else tC E call n fid rv (.region id d J) i (Q J) fr s
  |[]=>Y
 | .seq a b,i,Q,fr,s=>evR fid rv a i (λe g fr s=>match g with
  | .o9=>tC E call n fid rv b i (Q e) fr s
  |g=>Q e g fr s) fr s
 |c,i,Q,fr,s=>tC E call n fid rv c i (Q J) fr s
noncomputable def Wc(d:A2 S)(s:bq S)(k:Bool->bq S->Option ω):Option ω:=match d with
 | .call f args=>match nS f args with
  |none=>Y
  |some (f,args)=>match E.T.E.TJ f with
   |none=>Y
   |some fn=>match fn.body with
    |none=>Y
    |some c=>bif Nat.ble (cz args) fn.ntmps&&Nat.blt fn.ntmps bB then
      evR E call n pv f (RC E.T fn.results.toList fn.resultTypes.toList) c 0 (λb e fr g=>match fr.df with
       |[]=>match e with
        | .o9|.ret=>match j4 E.T g fr fn.results.toList with
         |some _=>k b {g with lo:=s.lo}
         |none=>Y
        |_=>Y
       |_::_=>Y) {n:=fn.ntmps,tm:=nM args 0 .nil} {s with lo:=s.aH}
     else Y
 | .mark o=>match s.ob.get o with
  |some .zH=>bif Nat.ble s.fl o&&Nat.blt o bB then k J {s with ob:=s.ob.del aJ o,wr:=o::s.wr}else Y
  |_=>Y
 |_=>Y
end
noncomputable def EA(E:fY S)(call:iC S)(n:Nat){ω:Type}:List (A2 S)->Option (V S)->bq S->(Option (V S)->bq S->Option ω)->Option ω
 |[],pv,s,k=>k pv s
 |d::l,pv,s,k=>Wc E call n pv d s λb e=>EA E call n l (bif b then Y else pv) e k
def Ml(E:gA){ω:Type}(rs:List ResultVar)(fr:bW S)(k kp:V S->bq S->Option ω)(pv:Option (V S))(s:bq S):Option ω:=match pv with
 |none=>match j4 E s fr rs with
  |some l=>k (FR l) s
  |none=>Y
 |some v=>kp v s
noncomputable def Wb(E:fY S)(call:iC S)(n:Nat){ω:Type}(rs:List ResultVar)(k kp:V S->bq S->Option ω):wO S->bW S->bq S->Option ω
 | .o9,fr,s=>EA E call n fr.df Y s (Ml E.T rs fr k kp)
 | .ret,fr,s=>EA E call n fr.df Y s (Ml E.T rs fr k kp)
 | .dh v,fr,s=>EA E call n fr.df (Z v) s (Ml E.T rs fr k kp)
 | .ext _,_,_=>Y
def aay(o lo:Nat){ω:Type}(k:V S->bq S->Option ω):wO S->bW S->bq S->Option ω
 | .o9,_,s=>match s.ob.get o with
  |some (.lp l)=>k (.kb W) {s with ob:=s.ob.set aJ o (.lp {l with st:=.ready,oA:=Y}),lo:=lo}
  |_=>Y
 |_,_,_=>Y
noncomputable def aax(E:fY S)(call:iC S)(n o lo:Nat)(fid:FuncId)(body:Code){ω:Type}(k:V S->bq S->Option ω):wO S->bW S->bq S->Option ω
 | .o9,fr,s=>match s.ob.get o with
  |some (.lp l)=>bif Dl l.st l.oA then tC E call n fid [] body 0 (aay o lo k) fr {s with ob:=s.ob.set aJ o (.lp {l with st:=.busy})}else Y
  |_=>Y
 |_,_,_=>Y
noncomputable def NL(E:fY S)(call:iC S)(n o:Nat)(args:List (V S))(s:bq S){ω:Type}(k:V S->bq S->Option ω):Option ω:=match s.ob.get o with
 |some (.lp l)=>bif Dl l.st l.oA&&(Nat.beq (cz args) (cz l.params)&&(l.params.all (λk=>Nat.blt k l.fr.n)&&(Nat.ble l.fr.n bB&&(Nt l.assign&&(Nt l.body&&Nat.ble s.fl o)))))then
   tC E call n l.fid [] l.assign 0 (aax E call n o s.lo l.fid l.body k) {n:=l.fr.n,tm:=NJ l.params args l.fr.tm,df:=[]} {s with lo:=s.aH}
  else Y
 |_=>Y
noncomputable def aa3(E:fY S)(n:Nat)(call:iC S):iC S:=λd args s{_}k e=>match d with
 | .yl o=>NL E call n o args s k
 | .fn f=>match E.T.E.TJ f with
  |none=>Y
  |some fn=>match fn.body with
   |none=>Y
   |some c=>
    bif Nat.ble (cz args) fn.ntmps&&Nat.blt fn.ntmps bB then
     tC E call n f (RC E.T fn.results.toList fn.resultTypes.toList) c 0 (Wb E call n fn.results.toList (λv b=>k v {b with lo:=s.lo}) (λv b=>e v {b with lo:=s.lo})) {n:=fn.ntmps,tm:=nM args 0 .nil} {s with lo:=s.aH}
    else Y
noncomputable def ML(E:fY S)(n:Nat):Nat->iC S
 |0=>λ_ _ _{_}_ _=>Y
 |d+1=>aa3 E n (ML E n d)
noncomputable def WG(E:fY S)(n d:Nat)(f:FuncId)(args:List (V S))(s:bq S){ω:Type}(k kp:V S->bq S->Option ω):Option ω:=match E.T.E.TJ f with
  |none=>Y
  |some fn=>match fn.body with
   |none=>Y
   |some c=>
    bif Nat.ble (cz args) fn.ntmps&&Nat.blt fn.ntmps bB then
     tC E (ML E n d) n f (RC E.T fn.results.toList fn.resultTypes.toList) c 0 (Wb E (ML E n d) n fn.results.toList k kp) {n:=fn.ntmps,tm:=nM args 0 .nil} s
    else Y
def r6(b:Nat)(s:bq S):(ps:List Pk)->fU S.A ps->List (V S)×bq S
 |[],_=>([],s)
 | .one c::ps,x=>match tB s c x.1 with
  |(v,s)=>match r6 b s ps x.2 with
   |(l,s)=>(v::l,s)
 | .box k::ps,x=>match gC s (Z (Nat.succ b)) k x.1 with
  |(ob,s)=>match r6 (Nat.succ b) {s with ob:=s.ob.set aJ b ob} ps x.2 with
   |(l,d)=>(Sr k b::l,d)
 | .hid k::ps,x=>match gC s (Z (Nat.succ b)) k x.1 with
  |(ob,s)=>r6 (Nat.succ b) {s with ob:=s.ob.set aJ b ob} ps x.2
def ej:List Pk->Nat
 |[]=>0
 | .one _::l=>ej l
 | .box _::l=>Nat.succ (ej l)
 | .hid _::l=>Nat.succ (ej l)
def Yi(rs:List Ck)(v:V S):List (V S):=match rs,v with|[_],v=>[v]|_,.gm l=>l|_,v=>[v]
def ZI(rs:List Ck)(ps:List Pk)(v:V S)(s':bq S):Option (gl S.A rs×iD S.A ps):=
 match gL s' rs (Yi rs v),rS s' 0 ps with
 |some (r,g,i),Z (b,d,e)=>match dz s' (g++d)with
  |some _=>bif rU (i++e)&&AH (i++e) (g++d)then Z (r,b)else Y
  |none=>Y
 |_,_=>Y
def ac6(pn:Bool)(rs:List Ck)(ps:List Pk)(v:V S)(s':bq S):Option (RT pn (gl S.A rs×iD S.A ps) (den S.A S.pt×iD S.A ps)):=
 match ZI rs ps v s' with
 |some r=>Z (RT.ok pn r)
 |none=>Y
def ac5(pn:Bool)(rs:List Ck)(ps:List Pk)(v:V S)(s':bq S):Option (RT pn (gl S.A rs×iD S.A ps) (den S.A S.pt×iD S.A ps)):=
 match ZI [.dat S.pt] ps v s' with
 |some r=>RT.dh pn (r.1.1,r.2)
 |none=>Y
noncomputable def Ez(E:fY S)(n d:Nat)(f:FuncId)(ps:List Pk)(rs:List Ck)(x:fU S.A ps):Option (RT E.pn (gl S.A rs×iD S.A ps) (den S.A S.pt×iD S.A ps)):=
 match r6 0 ⟨.nil,ej ps,0,ej ps,[],[]⟩ ps x with
 |(args,s)=>bif !(Nat.ble s.aH bB)then Y else WG E n d f args s (ac6 E.pn rs ps) (ac5 E.pn rs ps)
end
section
namespace Tr
variable {α β:Type}
def map(f:α->β):Tr α->Tr β
 | .nil=>.nil
 | .node v l r=>.node (v.map f) (map f l) (map f r)
def get_map(f:α->β):∀(t:Tr α)(k:Nat),(t.map f).get k=(t.get k).map f
 | .nil,k=>by rw[map,get_nil,get_nil];rfl
 | .node v l r,0=>by rw[map,fL,fL]
 | .node v l r,k+1=>by rw[map,cO,cO,get_map f l,get_map f r];split<;>rfl
def kV(f:α->β):∀(n:Nat)(t:Tr α)(k:Nat)(x:α),(Tr.set n t k x).map f=Tr.set n (t.map f) k (f x)
 |0,t,k,x=>rfl
 |n+1,.nil,0,x=>rfl
 |n+1,.nil,k+1,x=>by
  rw[map,nC,nC];split
  .rw[map,kV f n];rfl
  .rw[map,kV f n];rfl
 |n+1,.node v l r,0,x=>rfl
 |n+1,.node v l r,k+1,x=>by
  rw[map,mq,mq];split
  .rw[map,kV f n]
  .rw[map,kV f n]
end Tr
def sn(S:Sg):(l:List (TypeId×Ty))->vP S.A l->Option (TypeId×D)
 |[],_=>Y
 |p::_,.inl x=>Z (p.1,enc S p.2 x)
 |_::l,.inr y=>sn S l y
def MY:List (TypeId×Ty)->Bool
 |[]=>W
 |p::l=>(oX l p.1).isNone&&MY l
structure fh(S:Sg):Prop where
 ud:∀n h,S.get n (S.U5 n h)=h
 U4:∀n x,S.U5 n (S.get n x)=x
 cells:∀n x,S.cells n x=gq S (S.fs n) (S.get n x)
 leaf:∀n,∀t∈S.fs n,jk t=J
 Cz:∀n h,S.r7 n (S.imk n h)=h
 pL:∀n x,S.pL n x=sn S (S.alts n) (S.r7 n x)
 alts:∀n,MY (S.alts n)=W
def Mt:∀l:List (TypeId×Ty),sn S l (UZ l)=Y
 |[]=>rfl
 |_::l=>Mt l
def Mu:∀(l:List (TypeId×Ty))(t:TypeId)(i:Nat)(x:den S.A (lP l i)),oX l t=Z i->sn S l (Vy l i x)=Z (t,enc S (lP l i) x)
 |[],t,i,x,h=>by cases h
 |p::l,t,i,x,h=>by
  simp only[oX]at h;rcases af h with⟨b,h⟩|⟨_,h⟩
  .simp only[bg]at h;subst h;simp only[Vy,sn,nF b];rfl
  .split at h
   .rename_i j d;simp only[bg]at h;subst h;exact Mu l t j x d
   .cases h
def ae9:Ty->Nat
 | .str=>16
 | .cR _=>16
 | .sl _=>24
 |_=>8
def Yc:List Ty->Nat
 |[]=>0
 |t::l=>Nat.add (ae9 t) (Yc l)
def uy(S:Sg):Ty->Nat
 | .int .i8|.int .u8=>1
 | .int .i16|.int .u16=>2
 | .int .i32|.int .u32=>4
 | .int _=>8
 | .bool=>1
 | .str=>16
 | .sl _=>24
 | .st n=>Yc (S.fs n)
 | .cR _=>16
def Zb(o:Option (TypeId×D)):(Nu o).lby=16:=by cases o<;>rfl
def ua(o:Option (TypeId×D)):(Nu o).leaf=W:=by cases o<;>rfl
def l6(o:Option (TypeId×D)):(Nu o).cells=[Nu o]:=by cases o<;>rfl
def acn(o:Option (TypeId×D)):(Nu o).qu=16:=by cases o<;>rfl
def lA:∀(ts:List Ty)(h:lu S.A ts),(gq S ts h).length=ts.length
 |[],_=>rfl
 |t::ts,h=>by simp[gq,lA ts]
variable {t:Ty}{v u:V S}{fr:bW S}{l:List (V S)}
def ZL(x:den S.A t)(h:jk t=J):(enc S t x).lby=ae9 t:=by cases t<;>first|rfl|exact Zb _|cases h
def CU:∀(ts:List Ty)(h:lu S.A ts),(∀t∈ts,jk t=J)->D.mH (gq S ts h)=Yc ts
 |[],_,_=>rfl
 |t::ts,h,b=>by simp only[gq,D.mH,Yc,ZL _ (b t (by simp)),CU ts h.2 (λu d=>b u (by simp[d]))]
def ED(x:den S.A t)(h:jk t=J):(enc S t x).leaf=W:=by cases t<;>first|rfl|exact ua _|cases h
def gR:∀(ts:List Ty)(h:lu S.A ts),(∀t∈ts,jk t=J)->∀d∈gq S ts h,d.leaf=W
 |[],_,_,d,b=>by simp[gq]at b
 |t::ts,h,e,d,b=>by
  simp only[gq,eR]at b;rcases b with rfl|b
  .exact ED _ (e t (by simp))
  .exact gR ts h.2 (λu g=>e u (by simp[g])) d b
def Ao(b:fh S)(x:den S.A t):(enc S t x).qu=uy S t:=by
 cases t with
 |st n=>simp only[enc,D.qu,uy];rw[show S.cells n x=_ from b.cells n x,CU _ _ (b.leaf n)]
 |int k=>cases k<;>rfl
 |cR n=>exact acn _
 |_=>rfl
def jM(b:fh S)(x:den S.A t):(enc S t x).cells.length=S.width t:=by cases t with|st n=>simp only[enc,D.cells,Sg.width,bK];rw[show S.cells n x=_ from b.cells n x,lA]|cR n=>rw[show enc S (.cR n) x=Nu (S.pL n x)from rfl,l6];rfl|_=>rfl
def Ms(b:fh S)(x:den S.A t):(enc S t x).flat=W:=by cases t with|st n=>simp only[enc,D.flat,D.cells,eA];rw[show S.cells n x=_ from b.cells n x];exact gR _ _ (b.leaf n)|cR n=>simp only[enc,D.flat,l6,Dv,List.all_nil,ua,GW]|_=>rfl
def eD(S:Sg):(t:Ty)->den S.A t->T
 | .st n,x=>.agg ((S.cells n x).map .sym)
 | .int k,x=>.sym (enc S (.int k) x)
 | .bool,x=>.sym (enc S .bool x)
 | .str,x=>.sym (enc S .str x)
 | .sl e,x=>.sym (enc S (.sl e) x)
 | .cR n,x=>.sym (enc S (.cR n) x)
def xg(x:den S.A t)(h:jk t=J):eD S t x=.sym (enc S t x):=by cases t<;>first|rfl|cases h
mutual
def low:V S->T
 | .ty t x=>eD S t x
 | .kb b=>.kb b
 | .kn k n=>.kn k n
 | .dat d=>.sym d
 | .ptr o off=>.ptr o off
 | .mD t x off=>.mD (enc S t x) off
 | .kA o e i off=>.kA o e i off
 | .sh o e=>.sh o e
 | .emp=>.emp
 | .jy n t l=>.jy n (l.map (enc S t))
 | .fn f a b=>.fn f (bn a) (bn b)
 | .cR t v=>.cR t (low v)
 | .agg g=>.agg (bn g)
 | .gm p=>.gm (bn p)
 | .gd c v=>.gd c (low v)
 | .mp o=>.mp o
 | .ry o=>.ry o
 | .ru o=>.ru o
 | .ub e=>.ub e
 | .qd o m r i=>.qd o m r i
 | .nQ n j x=>.nQ j (enc S (.st n) x)
def bn:List (V S)->List T
 |[]=>[]
 |v::l=>low v::bn l
end
def ga:∀l:List (V S),bn l=l.map low
 |[]=>rfl
 |v::l=>by simp only[bn,lI,ga l]
def qQ:A2 S->Df
 | .call f args=>.call (low f) (bn args)
 | .mark o=>.mark o
 | .bad=>.bad
def bz(fr:bW S):Fr:=⟨fr.n,fr.tm.map low,fr.df.map qQ⟩
def wq(l:LpV S):Lp:=⟨l.st,l.oA,l.fid,bz l.fr,l.params,l.assign,l.body⟩
def cQ:vX S->Ob
 | .box g=>.box (bn g)
 | .arr t l era=>.arr (S.width t) (l.map (enc S t)) era
 | .jX t l era=>.jX (S.width t) (l.map (enc S t)) era
 | .map kt vt l=>.map (l.map λp=>(eD S kt p.1,eD S vt p.2))
 | .Gd kt l=>.map (l.map λp=>(eD S kt p.1,low p.2))
 | .o7 b pos=>.o7 (bI b) pos
 | .lp l=>.lp (wq l)
 | .zH=>.zH
 | .kj n j l era m d hole=>.kj j (S.width (.st n)) (l.map (enc S (.st n))) era m d hole
 | .rws t e d=>.rws (S.width t) (e.map (·.map (enc S t))) d
 | .gone=>.gone
def aG(s:bq S):St:=⟨s.ob.map cQ,s.aH,s.fl,s.lo⟩
def aY(s:bq S)(o:Nat):(aG s).ob.get o=(s.ob.get o).map cQ:=Tr.get_map _ _ _
def bQ(fr:bW S)(k:Nat):(bz fr).get k=(fr.get k).map low:=Tr.get_map _ _ _
def Sj(fr:bW S)(k:Nat)(v:V S):bz (fr.put k v)=(bz fr).put k (low v):=by simp only[bz,bW.put,Fr.put,Tr.kV]
def N5(fr:bW S)(k:Option Nat)(v:V S):bz (fr.hY k v)=(bz fr).hY k (low v):=by cases k with|none=>rfl|some k=>exact Sj fr k v
def eY(s:bq S)(o:Nat)(ob:vX S)(wr:List Nat):aG {s with ob:=s.ob.set aJ o ob,wr:=wr}={aG s with ob:=(aG s).ob.set aJ o (cQ ob)}:=by simp only[aG,Tr.kV]
def gp(s:bq S)(ob:vX S):aG (dm s ob)=(ef (aG s) (cQ ob)).2:=by simp only[aG,dm,ef,Tr.kV]
def MP(b:ByteArray):bI (ofBytes b)=b:=by unfold bI ofBytes;cases b;simp
def OL{v:Value}(h:sq v=Z u):ofConst v=Z (low u):=by
 cases v with
 |bool b=>simp only[sq,bg]at h;subst h;rfl
 |int k n=>simp only[sq,bg]at h;subst h;rfl
 |string b=>simp only[sq,bg]at h;subst h;simp only[ofConst,low,eD,enc,Bq,dX];rw[MP]
 |slice a n m=>
  unfold sq at h;split at h;all_goals first
   |(simp only[bg]at h;rename_i e;simp only[Value.slice.injEq]at e;obtain⟨rfl,rfl,rfl⟩:=e;subst h;rfl)
   |(rename_i e;cases e;done)
   |(simp only[Bq,Option.map_none,reduceCtorEq]at h)
 |func f a b=>
  simp only[sq]at h;simp only[ofConst];split at h
  .simp only[bg]at h;subst h;rename_i h1 h2;try rw[h1,h2]
   rfl
  .cases h
 |iface t v=>simp only[sq,eC]at h;obtain⟨d,g,rfl⟩:=h;simp only[ofConst,g,dX];rfl
 |_=>simp only[sq,eC]at h;obtain⟨d,g,rfl⟩:=h;simp only[ofConst,g,dX];rfl
def bV{x:Operand}(h:ck fr x=Z u):jo (bz fr) x=Z (low u):=by
 cases x with
 |tmp k=>simp only[ck]at h;simp only[jo,bQ,h,dX]
 |const v=>exact OL h
 |global g=>cases h
 |func f=>simp only[ck,bg]at h;subst h;rfl
def gP{fr:bW S}:∀{l:List Operand}{us:List (V S)},jP fr l=Z us->wm (bz fr) l=Z (bn us)
 |[],us,h=>by simp only[jP,bg]at h;subst h;rfl
 |x::l,us,h=>by
  simp only[jP]at h;split at h
  .rename_i t r h1 h2;simp only[bg]at h;subst h;simp only[wm,bV h1,gP h2,bn]
  .cases h
def HX{u:Ty}{x:den S.A t}{y:den S.A u}(h:uu t u x=Z y):t=u∧HEq x y:=by
 unfold uu at h;split at h
 .rename_i b;have:=fE b;subst this;simp only[bg]at h;exact⟨rfl,heq_of_eq h⟩
 .cases h
def eW{u:Ty}{x:List (den S.A t)}{y:List (den S.A u)}(h:mT t u x=Z y):t=u∧HEq x y:=by
 unfold mT at h;split at h
 .rename_i b;have:=fE b;subst this;simp only[bg]at h;exact⟨rfl,heq_of_eq h⟩
 .cases h
def fJ{k:IntKind}{n:Int}(h:gF k v=Z n):∃p,tj k (low v)=Z (p,n)∧p:=by
 unfold gF at h;split at h
 .rename_i j m;cases b:m6 j k<;>rw[b]at h
  .cases h
  .simp only[cG,bg]at h;subst h;exact⟨True,by simp[low,tj,b],trivial⟩
 .rename_i j x;cases b:m6 j k<;>rw[b]at h
  .cases h
  .simp only[cG,bg]at h;subst h;exact⟨_,rfl,b⟩
 .cases h
def kM{b:Bool}(h:iy v=Z b):∃p,wF (low v)=Z (p,b)∧p:=by
 unfold iy at h;split at h
 .simp only[bg]at h;subst h;exact⟨True,rfl,trivial⟩
 .simp only[bg]at h;subst h;exact⟨_,rfl,rfl⟩
 .cases h
def j0{b:List UInt8}(h:tG v=Z b):∃p,wU (low v)=Z (p,bI b)∧p:=by
 unfold tG at h;split at h
 .simp only[bg]at h;subst h;exact⟨_,rfl,rfl⟩
 .cases h
def tU:∀(ts:List Ty)(h:lu S.A ts),(∀t∈ts,jk t=J)->bn (yM (S:=S) ts h)=(gq S ts h).map .sym
 |[],_,_=>rfl
 |t::ts,h,b=>by simp only[yM,bn,gq,lI,tU ts h.2 (λu d=>b u (by simp[d]))];rw[low,xg _ (b t (by simp))]
def eS:∀l:List (V S),(bn l).length=l.length
 |[]=>rfl
 |v::l=>by simp[bn,eS l]
def js(l m:List (V S)):bn (l++m)=bn l++bn m:=by simp only[ga,La]
def iY(l:List (V S))(n:Nat):bn (l.take n)=(bn l).take n:=by simp only[ga,List.map_take]
def iZ(l:List (V S))(n:Nat):bn (l.drop n)=(bn l).drop n:=by simp only[ga,List.map_drop]
def Sn(h:Vk v=W):(low v).leaf:=by
 cases v with
 |ty t x=>simp only[Vk,Dp]at h;rw[low,xg _ h];exact ED x h
 |dat d=>exact h
 |agg=>cases h
 |gm=>cases h
 |gd=>cases h
 |_=>trivial
def xh:∀{l:List (V S)},z9 l=W->leaves (bn l)
 |[],_=>trivial
 |v::l,h=>by simp only[z9,dR]at h;exact⟨Sn h.1,xh h.2⟩
def Dm(cs:List D):(List.range cs.length).map (λj=>T.sym ((D.agg cs).cell j))=cs.map .sym:=by
 apply Le;intro j;simp only[gK];by_cases b:j<cs.length
 .rw[NP b,fP b];simp[D.cell,D.cells,List.getD,b]
 .rw[Gb (by simpa using b),Gb (by simpa using b)];rfl
def mb(j:fh S){i:TI}(h:uq i v=Z l):∃p,iQ i (low v)=Z (p,bn l)∧p:=by
 unfold uq at h;split at h
 .rename_i k;rcases af h with⟨b,h⟩|⟨_,h⟩
  .simp only[bg]at h;subst h;have:(i.agg&&Nat.beq (cz (bn k)) i.size)=W:=by rw[bK,eS,<-bK];exact b
   exact⟨True,by simp only[low,iQ,this,cG],trivial⟩
  .cases h
 .rename_i n x;rcases af h with⟨b,h⟩|⟨_,h⟩
  .simp only[bg]at h;subst h;rw[tU _ _ (j.leaf n),<-j.cells];have:(i.agg&&Nat.beq (cz ((S.cells n x).map T.sym)) i.size)=W:=by rw[bK,Dn,j.cells,lA,<-bK];exact b
   exact⟨True,by simp only[low,eD,iQ,this,cG],trivial⟩
  .cases h
 .rename_i d;rcases af h with⟨_,h⟩|⟨g,h⟩
  .cases h
  .rcases af h with⟨b,h⟩|⟨_,h⟩
   .simp only[dR]at b;simp only[bg]at h;subst h;exact⟨_,by simp only[low,iQ,g,b.1,cG,dP];rfl,b.2⟩
   .cases h
 .cases h
 .cases h
 .rename_i h1 h2 h3 h4 h5;rcases af h with⟨_,h⟩|⟨g,h⟩
  .cases h
  .rcases af h with⟨b,h⟩|⟨_,h⟩
   .simp only[bg]at h;subst h;cases v with
    |ty t x=>
     have m:jk t=J:=by cases t with|st n=>exact absurd rfl (h2 n x)|_=>rfl
     have e:low (V.ty t x)=.sym (enc S t x):=by rw[low,xg _ m]
     refine⟨(enc S t x).leaf=W,?_,ED _ m⟩;simp only[e,bn,iQ,g,b,cG,dP]
    |agg k=>exact absurd rfl (h1 k)
    |dat d=>exact absurd rfl (h3 d)
    |gm q=>exact absurd rfl (h4 q)
    |gd c v=>exact absurd rfl (h5 c v)
    |_=>exact⟨True,by simp only[low,bn,iQ,g,b,cG,dP],trivial⟩
   .cases h
def nZ{ag:Bool}(h:yB ag l=Z v):tO ag (bn l)=Z (low v):=by
 unfold yB at h;rcases af h with⟨b,h⟩|⟨b,h⟩
 .simp only[bg]at h;subst h;simp only[tO,b,cG,low]
 .split at h
  .simp only[bg]at h;subst h;simp only[tO,b,dP,bn]
  .cases h
end
section
def wI(S:Sg)(i:TI):Ty->Prop
 | .int k=>i.kd=.leaf (.int k)∧i.agg=J∧i.size=1
 | .bool=>i.kd=.leaf .bool∧i.agg=J∧i.size=1
 | .str=>i.kd=.leaf .str∧i.agg=J∧i.size=1
 | .sl e=>(∃z,i.kd=.slice (S.width e) (jk e) (uy S e) z∧(bif jk e then D.agg z=enc S e (S.zero e)else z=[enc S e (S.zero e)]))∧i.agg=J∧i.size=1∧0<S.width e
 | .st n=>i.agg=W∧i.size=(S.fs n).length
 | .cR _=>i.kd=.iface∧i.agg=J∧i.size=1
structure O8(S:Sg)(E:gA):Prop where
 row:∀k i τ,E.E.ti k=Z i->E.ty k=Z τ->wI S i τ
def uY(s:St):∀ds:List D,∃p,lG s (ds.map .sym)=Z (p,ds,[])∧p
 |[]=>⟨True,rfl,trivial⟩
 |d::ds=>by obtain⟨p,h,hp⟩:=uY s ds;exact⟨True∧p,by simp only[lI,lG,uZ,h,w6],trivial,hp⟩
variable {t e:Ty}{n j:Nat}{s:bq S}{v:V S}{i:TI}{τ:Option Ty}{fr:bW S}{u:Option (V S)}
def Rn(b:fh S)(s:St)(x:den S.A t):∃p,uZ s (eD S t x)=Z (p,enc S t x,[])∧p:=by
 cases t with
 |st n=>obtain⟨p,h,hp⟩:=uY s (S.cells n x);refine⟨p∧(S.cells n x).all D.leaf=W,by simp only[eD,uZ,h,enc],hp,?_⟩;rw[eA,b.cells];exact gR _ _ (b.leaf n)
 |_=>exact⟨True,rfl,trivial⟩
def LL(k:IntKind):m6 k k=W:=by cases k<;>rfl
def GF:∀t:Ty,rA t t=W
 | .int k=>LL k
 | .bool=>rfl
 | .str=>rfl
 | .sl e=>GF e
 | .st n=>GU n
 | .cR n=>GU n
def ur(x:den S.A t):uu (S:=S) t t x=Z x:=by unfold uu;rw[dif_pos (GF t)]
def HP:∀{ts:List Ty}{h:lu S.A ts}{j:Nat}{t:Ty}{y:den S.A t},nth ts j=Z t->gq S ts (Cb ts h j t y)=(gq S ts h).set j (enc S t y)
 |[],_,_,_,_,h=>by simp[nth]at h
 | τ::ts,h,0,t,y,e=>by simp only[nth,bg]at e;subst e;simp only[Cb,ur,gq,List.set_cons_zero]
 | τ::ts,h,j+1,t,y,e=>by simp only[nth]at e;simp only[Cb,gq,List.set_cons_succ,HP e]
def HQ:∀{ts:List Ty}{h:lu S.A ts}{j:Nat}{t:Ty},nth ts j=Z t->(gq S ts h)[j]?=Z (enc S t (cL ts h j t))
 |[],_,_,_,h=>by simp[nth]at h
 | τ::ts,h,0,t,e=>by simp only[nth,bg]at e;subst e;simp only[cL,ur,gq,rM]
 | τ::ts,h,j+1,t,e=>by simp only[nth]at e;simp only[cL,gq,List.getElem?_cons_succ,HQ e]
def EV(h:Cd S n j t=W):nth (S.fs n) j=Z (.sl t):=by
 unfold Cd at h;split at h
 .rename_i u b;rw[b,fE h]
 .cases h
def Wg(b:fh S)(d:Cd S n j t=W)(x:S.A n)(y:List (den S.A t)):enc S (.st n) (Rz n j t x y)=yV j (enc S (.st n) x) (y.map (enc S t)):=by show D.agg (S.cells n _)=D.agg ((S.cells n x).set j _);rw[b.cells,b.cells,Rz,b.ud,HP (EV d)];rfl
def yT(b:fh S){n j:Nat}{t:Ty}(d:Cd S n j t=W):∀(l:List (S.A n))(hU:List (List (den S.A t))),(iW n j t l hU).map (enc S (.st n))=iV j (l.map (enc S (.st n))) (hU.map (·.map (enc S t)))
 |[],_=>by simp[iW,iV]
 |_::_,[]=>by simp[iW,iV]
 |x::l,rs::hU=>by have:=yT b d l hU;simp only[iW,iV]at this;simp only[iW,iV,List.zipWith_cons_cons,lI,this,Wg b d]
def yc{m r:Nat}{hU:List (List (den S.A t))}(h:KH s m r=Z ⟨t,hU⟩):FT (aG s) m r=Z (hU.map (·.map (enc S t))):=by
 unfold KH at h;split at h
 .rename_i g b i d;rcases af h with⟨e,h⟩|⟨_,h⟩
  .cases h;simp only[FT,aY,d,dX,cQ,e,cG]
  .cases h
 .cases h
mutual
def od(g:fh S)(s:bq S):∀(t:Ty)(v:V S){x:den S.A t}{os:List Nat},bO s t v=Z (x,os)->∃p,uZ (aG s) (low v)=Z (p,enc S t x,os)∧p
 |t,.ty u y,x,os,h=>by
  simp only[bO]at h;split at h
  .rename_i z q;obtain⟨rfl,d⟩:=HX q;cases d;simp only[bg,bC]at h;obtain⟨rfl,rfl⟩:=h;exact Rn g _ _
  .cases h
 | .bool,.kb b,x,os,h=>by simp only[bO,bg,bC]at h;obtain⟨rfl,rfl⟩:=h;exact⟨True,rfl,trivial⟩
 | .int k,.kn j n,x,os,h=>by
  simp only[bO]at h;rcases af h with⟨w,h⟩|⟨_,h⟩
  .simp only[bg,bC]at h;obtain⟨rfl,rfl⟩:=h;rw[Aa w];exact⟨True,rfl,trivial⟩
  .cases h
 | .sl e,.emp,x,os,h=>by simp only[bO,bg,bC]at h;obtain⟨rfl,rfl⟩:=h;exact⟨True,rfl,trivial⟩
 | .sl e,.jy n t l,x,os,h=>by
  simp only[bO]at h;split at h
  .rename_i z q;obtain⟨rfl,d⟩:=eW q;cases d;simp only[bg,bC]at h;obtain⟨rfl,rfl⟩:=h;exact⟨True,rfl,trivial⟩
  .cases h
 | .sl e,.sh o r,x,os,h=>by
  simp only[bO]at h;split at h
  .rename_i t l era B;rcases af h with⟨w,h⟩|⟨_,h⟩
   .split at h
    .rename_i z q;obtain⟨rfl,d⟩:=eW q;cases d;simp only[bg,bC]at h;obtain⟨rfl,rfl⟩:=h;refine⟨True,?_,trivial⟩;simp only[low,uZ,aY,B,dX,cQ,w,cG,enc]
    .cases h
   .cases h
  .rename_i t l era B;rcases af h with⟨w,h⟩|⟨_,h⟩
   .split at h
    .rename_i z q;obtain⟨rfl,d⟩:=eW q;cases d;simp only[bg,bC]at h;obtain⟨rfl,rfl⟩:=h;refine⟨True,?_,trivial⟩;simp only[low,uZ,aY,B,dX,cQ,w,cG,enc]
    .cases h
   .cases h
  .rename_i n j l era m R B;split at h
   .rename_i t I K;rcases af h with⟨w,h⟩|⟨_,h⟩
    .simp only[dR]at w;split at h
     .rename_i z q;obtain⟨rfl,d⟩:=eW q;cases d;simp only[bg,bC]at h;obtain⟨rfl,rfl⟩:=h;refine⟨True,?_,trivial⟩;simp only[low,uZ,aY,B,dX,cQ,yc K,w.1,w.2.1,GW,cG];rw[<-yT g w.2.2];rfl
     .cases h
    .cases h
   .cases h
  .cases h
 | .sl e,.nQ n j U,x,os,h=>by
  simp only[bO]at h;split at h
  .rename_i z q;obtain⟨rfl,d⟩:=eW q;cases d;simp only[bg,bC]at h;obtain⟨rfl,rfl⟩:=h;exact⟨True,rfl,trivial⟩
  .cases h
 | .st n,.agg L,x,os,h=>by
  simp only[bO]at h;split at h
  .rename_i h1 C M;simp only[bg,bC]at h;obtain⟨rfl,rfl⟩:=h;obtain⟨p,G,hp⟩:=qw g s (S.fs n) L M;have H:S.cells n (S.U5 n h1)=gq S (S.fs n) h1:=by rw[g.cells,g.ud]
   refine⟨p∧(gq S (S.fs n) h1).all D.leaf=W,by simp only[low,uZ,G,enc,H],hp,?_⟩;rw[eA];exact gR _ _ (g.leaf n)
  .cases h
 | .cR n,.cR t v,x,os,h=>by
  simp only[bO]at h;split at h
  .rename_i i hi;split at h
   .rename_i y C O;simp only[bg,bC]at h;obtain⟨rfl,rfl⟩:=h;obtain⟨p,G,hp⟩:=od g s _ v O;refine⟨p,?_,hp⟩;have e:enc S (.cR n) (S.imk n (Vy (S.alts n) i y))=.cR t (enc S (lP (S.alts n) i) y):=by show Nu (S.pL n _)=_;rw[g.pL,g.Cz,Mu _ _ _ _ hi];rfl
    simp only[low,uZ,G,e]
   .cases h
  .cases h
 | .cR n,.dat (.lit .nilIface),x,os,h=>by
  simp only[bO,bg,bC]at h;obtain⟨rfl,rfl⟩:=h;refine⟨True,?_,trivial⟩;have e:enc S (.cR n) (S.imk n (UZ (S.alts n)))=.lit .nilIface:=by show Nu (S.pL n _)=_;rw[g.pL,g.Cz,Mt];rfl
  simp only[low,uZ,e]
 | .cR _,.kb _,_,_,h=>by simp[bO]at h
 | .cR _,.kn _ _,_,_,h=>by simp[bO]at h
 | .cR _,.emp,_,_,h=>by simp[bO]at h
 | .cR _,.jy _ _ _,_,_,h=>by simp[bO]at h
 | .cR _,.sh _ _,_,_,h=>by simp[bO]at h
 | .cR _,.nQ _ _ _,_,_,h=>by simp[bO]at h
 | .bool,.nQ _ _ _,_,_,h=>by simp[bO]at h
 | .str,.nQ _ _ _,_,_,h=>by simp[bO]at h
 | .int _,.nQ _ _ _,_,_,h=>by simp[bO]at h
 | .st _,.nQ _ _ _,_,_,h=>by simp[bO]at h
 |t,.qd _ _ _ _,_,_,h=>by cases t<;>simp[bO]at h
 | .cR _,.agg _,_,_,h=>by simp[bO]at h
 | .int _,.cR _ _,_,_,h=>by simp[bO]at h
 | .bool,.cR _ _,_,_,h=>by simp[bO]at h
 | .str,.cR _ _,_,_,h=>by simp[bO]at h
 | .sl _,.cR _ _,_,_,h=>by simp[bO]at h
 | .st _,.cR _ _,_,_,h=>by simp[bO]at h
 | .int _,.dat _,_,_,h=>by simp[bO]at h
 | .bool,.dat _,_,_,h=>by simp[bO]at h
 | .str,.dat _,_,_,h=>by simp[bO]at h
 | .sl _,.dat _,_,_,h=>by simp[bO]at h
 | .st _,.dat _,_,_,h=>by simp[bO]at h
 | .cR _,.dat (.sl _),_,_,h=>by simp[bO]at h
 | .cR _,.dat (.agg _),_,_,h=>by simp[bO]at h
 | .cR _,.dat (.cR _ _),_,_,h=>by simp[bO]at h
 | .cR _,.dat (.gm _),_,_,h=>by simp[bO]at h
 | .cR _,.dat (.lit (.bool _)),_,_,h=>by simp[bO]at h
 | .cR _,.dat (.lit (.int _ _)),_,_,h=>by simp[bO]at h
 | .cR _,.dat (.lit (.float _ _)),_,_,h=>by simp[bO]at h
 | .cR _,.dat (.lit (.complex _ _ _)),_,_,h=>by simp[bO]at h
 | .cR _,.dat (.lit (.string _)),_,_,h=>by simp[bO]at h
 | .cR _,.dat (.lit (.pointer _)),_,_,h=>by simp[bO]at h
 | .cR _,.dat (.lit (.slice _ _ _)),_,_,h=>by simp[bO]at h
 | .cR _,.dat (.lit (.map _)),_,_,h=>by simp[bO]at h
 | .cR _,.dat (.lit (.chan _)),_,_,h=>by simp[bO]at h
 | .cR _,.dat (.lit (.iface _ _)),_,_,h=>by simp[bO]at h
 | .cR _,.dat (.lit (.func _ _ _)),_,_,h=>by simp[bO]at h
 | .cR _,.dat (.lit .nilFunc),_,_,h=>by simp[bO]at h
 | .cR _,.dat (.lit (.agg _)),_,_,h=>by simp[bO]at h
 | .cR _,.dat (.lit (.tuple _)),_,_,h=>by simp[bO]at h
 |t,.mp _,_,_,h=>by cases t<;>simp[bO]at h
 |t,.ry _,_,_,h=>by cases t<;>simp[bO]at h
 |t,.ru _,_,_,h=>by cases t<;>simp[bO]at h
 |t,.ub _,_,_,h=>by cases t<;>simp[bO]at h
 | .int _,.kb _,_,_,h=>by simp[bO]at h
 | .str,.kb _,_,_,h=>by simp[bO]at h
 | .sl _,.kb _,_,_,h=>by simp[bO]at h
 | .st _,.kb _,_,_,h=>by simp[bO]at h
 | .bool,.kn _ _,_,_,h=>by simp[bO]at h
 | .str,.kn _ _,_,_,h=>by simp[bO]at h
 | .sl _,.kn _ _,_,_,h=>by simp[bO]at h
 | .st _,.kn _ _,_,_,h=>by simp[bO]at h
 | .bool,.emp,_,_,h=>by simp[bO]at h
 | .str,.emp,_,_,h=>by simp[bO]at h
 | .int _,.emp,_,_,h=>by simp[bO]at h
 | .st _,.emp,_,_,h=>by simp[bO]at h
 | .bool,.jy _ _ _,_,_,h=>by simp[bO]at h
 | .str,.jy _ _ _,_,_,h=>by simp[bO]at h
 | .int _,.jy _ _ _,_,_,h=>by simp[bO]at h
 | .st _,.jy _ _ _,_,_,h=>by simp[bO]at h
 | .bool,.sh _ _,_,_,h=>by simp[bO]at h
 | .str,.sh _ _,_,_,h=>by simp[bO]at h
 | .int _,.sh _ _,_,_,h=>by simp[bO]at h
 | .st _,.sh _ _,_,_,h=>by simp[bO]at h
 | .bool,.agg _,_,_,h=>by simp[bO]at h
 | .str,.agg _,_,_,h=>by simp[bO]at h
 | .int _,.agg _,_,_,h=>by simp[bO]at h
 | .sl _,.agg _,_,_,h=>by simp[bO]at h
 |t,.ptr _ _,_,_,h=>by cases t<;>simp[bO]at h
 |t,.mD _ _ _,_,_,h=>by cases t<;>simp[bO]at h
 |t,.kA _ _ _ _,_,_,h=>by cases t<;>simp[bO]at h
 |t,.fn _ _ _,_,_,h=>by cases t<;>simp[bO]at h
 |t,.gm _,_,_,h=>by cases t<;>simp[bO]at h
 |t,.gd _ _,_,_,h=>by cases t<;>simp[bO]at h
def qw(d:fh S)(s:bq S):∀(ts:List Ty)(l:List (V S)){h:lu S.A ts}{os:List Nat},mG s ts l=Z (h,os)->∃p,lG (aG s) (bn l)=Z (p,gq S ts h,os)∧p
 |[],[],x,os,h=>by simp only[mG,bg,bC]at h;obtain⟨_,rfl⟩:=h;exact⟨True,rfl,trivial⟩
 |t::ts,v::l,x,os,h=>by
  simp only[mG]at h;split at h
  .rename_i r e h1 g i j;simp only[bg,bC]at h;obtain⟨rfl,rfl⟩:=h;obtain⟨p,k,hp⟩:=od d s t v i;obtain⟨q,b,m⟩:=qw d s ts l j;exact⟨p∧q,by simp only[bn,lG,k,b,gq],hp,m⟩
  .cases h
 |[],_::_,_,_,h=>by simp[mG]at h
 |_::_,[],_,_,h=>by simp[mG]at h
end
def cY(e:fh S):∀(os:List Nat){s s':bq S},dz s os=Z s'->freeze (aG s) os=Z (aG s')
 |[],s,s',h=>by simp only[dz,bg]at h;subst h;rfl
 |o::os,s,s',h=>by
  simp only[dz]at h;rcases af h with⟨k,h⟩|⟨_,h⟩
  .have g:Nat.ble (aG s).fl o=W:=k;simp only[freeze,g,cG];split at h
   .rename_i t l era d;have:=cY e os h;rw[eY]at this;simp only[aY,d,dX,cQ];exact this
   .rename_i t l era d;simp only[aY,d,dX,cQ];exact cY e os h
   .rename_i n j l era m r d;split at h
    .rename_i t i p;rcases af h with⟨b,h⟩|⟨_,h⟩
     .simp only[dR]at b;have:=cY e os h;have q:Nat.ble (aG s).fl m=W:=b.2.1;simp only[aY,d,dX,cQ,yc p,q,b.1,b.2.2.1,GW,cG];rw[<-this]
      congr 1
      simp only[aG,Tr.kV,cQ,yT e b.2.2.2]
     .cases h
    .cases h
   .rename_i t i r d;simp only[aY,d,dX,cQ];exact cY e os h
   .rename_i d;simp only[aY,d,dX,cQ];exact cY e os h
   .cases h
  .cases h
def xZ{l:List (den S.A e)}(h:Iz s e v=Z l):∃p,qz (aG s) (low v)=Z (p,l.map (enc S e))∧p:=by
 unfold Iz at h;split at h
 .simp only[bg]at h;subst h;exact⟨True,rfl,trivial⟩
 .obtain ⟨rfl,b⟩:=eW h;cases b;exact⟨True,rfl,trivial⟩
 .obtain ⟨rfl,b⟩:=eW h;cases b;exact⟨True,rfl,trivial⟩
 .obtain ⟨rfl,b⟩:=eW h;cases b;exact⟨_,rfl,rfl⟩
 .rename_i o r;split at h
  .rename_i t i era d;rcases af h with⟨g,h⟩|⟨_,h⟩
   .obtain ⟨rfl,b⟩:=eW h;cases b;exact⟨True,by simp only[low,qz,aY,d,dX,cQ,g,cG],trivial⟩
   .cases h
  .rename_i t i era d;rcases af h with⟨g,h⟩|⟨_,h⟩
   .obtain ⟨rfl,b⟩:=eW h;cases b;exact⟨True,by simp only[low,qz,aY,d,dX,cQ,g,cG],trivial⟩
   .cases h
  .cases h
 .cases h
def MW{o e:Nat}{l:List (den S.A t)}(h:JJ s o e=Z ⟨t,l⟩):Gv (aG s) o e=Z (S.width t,l.map (enc S t)):=by
 unfold JJ at h;unfold Gv;rw[aY];split at h
 .rename_i g i era b;rcases af h with⟨d,h⟩|⟨_,h⟩
  .cases h;simp only[b,dX,cQ,d,cG]
  .cases h
 .rename_i g i era b;rcases af h with⟨d,h⟩|⟨_,h⟩
  .cases h;simp only[b,dX,cQ,d,cG]
  .cases h
 .cases h
def OG{α:Type}(f:α->D)(l:List α)(k:Nat)(z:α)(h:k<l.length):D.el (l.map f) k=f (aR l k z):=by simp[D.el,aR,List.getD,h]
def tX{α:Type}{n:Int}{l:List α}(h:av n l=W):0<=n∧n<l.length:=by simpa[av]using h
def qS{α:Type}{k:Nat}{l:List α}(h:ct k l=W):k<l.length:=by simpa[ct]using h
def yN(b:fh S)(x:den S.A t):bn (tV (S:=S) t x)=(enc S t x).cells.map .sym:=by cases t with|st n=>simp only[tV,enc,D.cells];rw[tU _ _ (b.leaf n),b.cells]|cR n=>show[T.sym (Nu (S.pL n x))]=(Nu (S.pL n x)).cells.map .sym;rw[l6];rfl|_=>rfl
def zZ(w:fh S)(hi:∀u,τ=Z u->wI S i u){x:den S.A t}{off:Nat}(h:Lu i τ t x off=Z v) :
  nr i (enc S t x) off=Z (low v)∧(enc S t x).has (Nat.add off i.size):=by
 unfold Lu at h;have hw:=jM w x;rcases af h with⟨q,C⟩|⟨_,h⟩
 .simp only[dR]at q;clear h;obtain⟨h1,h2⟩:=q;have G:=beq_iff'.1 h1;subst G;have h:=eK C;subst h;unfold X8 at h2;split at h2
  .rename_i u;have:=fE h2;subst this;have l:=hi u rfl;cases u with
   |st n=>
    obtain⟨d,b⟩:=l;have B:(S.cells n x).length=(S.fs n).length:=by rw[w.cells,lA]
    refine⟨?_,?_⟩
    .unfold nr;rw[d,cG,b,<-B];simp only[enc,low,eD,jl,Nat.add_eq]
     congr 2
     exact Dm _
    .simp only[D.has,enc,D.cells,b,B];exact yw (jl _)
   |int k=>obtain⟨_,d,b⟩:=l;exact⟨by simp only[nr,d,b];rfl,by simp only[D.has,b];exact bP _⟩
   |bool=>obtain⟨_,d,b⟩:=l;exact⟨by simp only[nr,d,b];rfl,by simp only[D.has,b];exact bP _⟩
   |str=>obtain⟨_,d,b⟩:=l;exact⟨by simp only[nr,d,b];rfl,by simp only[D.has,b];exact bP _⟩
   |sl e=>obtain⟨_,d,b,_⟩:=l;exact⟨by simp only[nr,d,b];rfl,by simp only[D.has,b];exact bP _⟩
   |cR n=>obtain⟨_,d,b⟩:=l;have e:(enc S (.cR n) x).cells=[enc S (.cR n) x]:=l6 _;exact⟨by simp only[nr,d,b,D.cell,e];rfl,by simp only[D.has,b,e];exact bP _⟩
  .cases h2
 .rcases af h with⟨q,h⟩|⟨_,h⟩
  .have z:off+i.size<=S.width t:=fQ q;have m:(enc S t x).cells.length=S.width t:=hw;have hp:=nZ h;rw[iY,iZ,yN w]at hp;have g:((List.map T.sym (enc S t x).cells).drop off).take i.size=(List.range i.size).map λj=>T.sym ((enc S t x).cell (off+j)):=by
    apply Le;intro j;rw[gK];by_cases r:j<i.size
    .rw[vK,bJ r,Dr,gK,NP r];have:off+j<(enc S t x).cells.length:=by omega
     rw[fP this];simp[D.cell,List.getD,this]
    .rw[vK,br r,Gb (by simpa using r)];rfl
   rw[g]at hp;refine⟨?_,by simp only[D.has];exact m▸z⟩;unfold tO at hp;unfold nr;cases p:i.agg with
   |true=>rw[p,cG]at hp;rw[cG];exact hp
   |false=>
    rw[p,dP]at hp;rw[dP];split at hp
    .rename_i y s;have h1:i.size=1:=by have:=mJ List.length s;simpa using this
     rw[h1]at s;have:Nat.beq i.size 1=W:=by rw[h1];rfl
     rw[this,cG];simp only[List.range_one,lI,GR,Bg,KZ,and_true]at s;rw[s];exact hp
    .cases hp
  .cases h
def Hw(j:fh S)(hi:∀u,τ=Z u->wI S i u){s':bq S}{a:V S}{c:Bool}(h:wu i τ s a=Z (c,v,s'))(m:c=W) :
  s'=s∧∃p,loadT i (aG s) (low a)=Z (p,low v,aG s')∧p:=by
 unfold wu at h;split at h
 .rename_i o off;split at h
  .rename_i q r;dsimp only at h;rcases af h with⟨w,h⟩|⟨_,h⟩
   .simp only[eC,bC]at h;obtain⟨t,y,_,rfl,rfl⟩:=h;refine⟨rfl,True,?_,trivial⟩;have hp:=nZ y;rw[iY,iZ]at hp;have b:Nat.beq (cz (((bn q).drop off).take i.size)) i.size=W:=by rw[<-iZ,<-iY,bK,eS,<-bK];exact w
    simp only[low,loadT,aY,r,dX,cQ,b,cG,hp]
   .cases h
  .cases h
 .rename_i t x off;simp only[eC,bC]at h;obtain⟨u,d,_,rfl,rfl⟩:=h;obtain⟨h1,h2⟩:=zZ j hi d;exact⟨rfl,_,by simp only[low,loadT,h1,dX],h2⟩
 .rename_i o e k off;split at h
  .rename_i t l z;simp only[eC,bC]at h;obtain⟨u,d,rfl,rfl,rfl⟩:=h;obtain⟨h1,h2⟩:=zZ j hi d;have B:=qS m;have g:=OG (enc S t) l k (S.zero t) B;refine⟨rfl,D.Gg (k:Int) (D.len (l.map (enc S t)))∧(enc S t (aR l k (S.zero t))).has (Nat.add off i.size),by simp only[low,loadT,MW z,g,h1,dX],?_,h2⟩;simp only[D.Gg,D.len,Dn];omega
  .cases h
 .cases h
def DJ{x:Option Operand}(h:IY fr x=Z u):Lz (bz fr) x=Z (u.map low):=by cases x with|none=>simp only[IY,bg]at h;subst h;rfl|some x=>simp only[IY,eC]at h;obtain⟨v,b,rfl⟩:=h;simp only[Lz,bV b,dX]
def oW{d:Int}{n:Int}(h:AE d u=Z n):∃p,uz d (u.map low)=Z (p,n)∧p:=by cases u with|none=>simp only[AE,bg]at h;subst h;exact⟨True,rfl,trivial⟩|some v=>exact fJ h
def DH(v:V S):pI (low v)=Lv v:=by
 cases v with
 |ty t x=>cases t<;>rfl
 |_=>rfl
def rP{fr:bW S}:∀{l:List (Nat×Operand)}{us:List (Nat×V S)},ir fr l=Z us->p9 (bz fr) l=Z (us.map λp=>(p.1,low p.2))
 |[],us,h=>by simp only[ir,bg]at h;subst h;rfl
 |(k,x)::l,us,h=>by
  simp only[ir]at h;split at h
  .rename_i t r h1 h2;simp only[bg]at h;subst h;simp only[p9,bV h1,rP h2,lI]
  .cases h
def Ak(j:fh S){place:Nat->Option (Nat×TI)}:∀{ps:List (Nat×V S)}{cells r:List (V S)},HO place cells ps=Z r->∃p,Bv place (bn cells) (ps.map λp=>(p.1,low p.2))=Z (p,bn r)∧p
 |[],cells,r,h=>by simp only[HO,bg]at h;subst h;exact⟨True,rfl,trivial⟩
 |(k,v)::ps,cells,r,h=>by
  simp only[HO]at h;split at h
  .cases h
  .rename_i off i hp;split at h
   .cases h
   .rename_i l m;rcases af h with⟨e,h⟩|⟨_,h⟩
    .simp only[dR]at e;obtain⟨p,s,g⟩:=mb j m;obtain⟨q,hf,t⟩:=Ak j h;simp only[js,iY,iZ]at hf;have d:cz (bn l)=cz l:=by rw[bK,eS,<-bK]
     have b:cz (bn cells)=cz cells:=by rw[bK,eS,<-bK]
     refine⟨p∧leaves (bn l)∧q,?_,g,xh e.2,t⟩;simp only[lI,Bv,hp,s,d,b,e.1,cG,hf,dX]
    .cases h
def EG(b:fh S){s:bq S}{e:Ty}{i:TI}(hi:i.agg=jk e∧(jk e=W->i.size=S.width e)):∀{ps:List (Nat×V S)}{es r:List (den S.A e)}{os:List Nat},l7 s e es ps=Z (r,os)->
  ∃p,m8 (aG s) i (es.map (enc S e)) (ps.map λp=>(p.1,low p.2))=Z (p,r.map (enc S e),os)∧p
 |[],es,r,os,h=>by simp only[l7,bg,bC]at h;obtain⟨rfl,rfl⟩:=h;exact⟨True,rfl,trivial⟩
 |(k,v)::ps,es,r,os,h=>by
  simp only[l7]at h;split at h
  .cases h
  .rename_i x j l;rcases af h with⟨m,h⟩|⟨_,h⟩
   .split at h
    .rename_i z t u;simp only[bg,bC]at h;obtain⟨rfl,rfl⟩:=h;obtain⟨p,w,hp⟩:=od b s e v l;obtain⟨q,hf,y⟩:=EG b hi u;rw[GS]at hf;have d:Nat.blt k (cz (es.map (enc S e)))=W:=by rw[bK,Dn,<-bK];exact m
     refine⟨p∧(bif i.agg then(enc S e x).isAgg i.size else(enc S e x).leaf)=W∧q,by simp only[lI,m8,w,d,cG,hf,dX],hp,?_,y⟩;rw[hi.1];cases e with|st n=>simp only[jk,cG,enc,D.isAgg];have g:=hi.2 rfl;rw[g];simp only[Sg.width,bK,b.cells,lA,dR];refine⟨beq_iff'.2 rfl,?_⟩;rw[eA];exact gR _ _ (b.leaf n)|cR n=>exact ua _|_=>rfl
    .cases h
   .cases h
end
section
def tF(s:St):∀(l m:List T){p q:Prop}{ds es:List D}{os ps:List Nat},lG s l=Z (p,ds,os)->lG s m=Z (q,es,ps)->∃r,lG s (l++m)=Z (r,ds++es,os++ps)∧(p->q->r)
 |[],m,p,q,ds,es,os,ps,h,b=>by simp only[lG,bg,bC]at h;obtain⟨_,rfl,rfl⟩:=h;exact⟨q,b,λ_ e=>e⟩
 |t::l,m,p,q,ds,es,os,ps,h,b=>by
  simp only[lG]at h;split at h
  .rename_i i d j w k u h1 h2;simp only[bg,bC]at h;obtain⟨rfl,rfl,rfl⟩:=h;obtain⟨r,v,g⟩:=tF s l m h2 b;exact⟨i∧r,by simp only[List.cons_append,lG,h1,v,p8],λhp e=>⟨hp.1,g hp.2 e⟩⟩
  .cases h
def Ju(b:fh S):∀(t:Ty)(h:lu S.A (S.mw t)),(enc S t (tQ t h)).cells=gq S (S.mw t) h
 | .st n,h=>(b.cells n (S.U5 n h)).trans (mJ _ (b.ud n h))
 | .int _,_=>rfl
 | .bool,_=>rfl
 | .str,_=>rfl
 | .sl _,_=>rfl
 | .cR _,h=>by rw[show(enc S (.cR _) (tQ _ h)).cells=[enc S (.cR _) (tQ _ h)]from l6 _];rfl
variable {i:TI}{s s':bq S}{a x v:V S}{c:Bool}{lo hi:Int}
def NF(m:fh S)(h:CV i s a x=Z (c,v,s'))(hc:c=W) :
  ∃p,storeT i (aG s) (low a) (low x)=Z (p,low v,aG s')∧p:=by
 unfold CV at h;split at h
 .cases h
 .rename_i l hl;obtain⟨p,M,hp⟩:=mb m hl;have O:cz (bn l)=cz l:=by rw[bK,eS,<-bK]
  split at h
  .rename_i o off;split at h
   .rename_i cs ho;rcases af h with⟨I,w⟩|⟨_,w⟩
    .clear h;simp only[dR]at I;simp only[bg,bC]at w;obtain⟨_,rfl,rfl⟩:=w;have K:cz (bn cs)=cz cs:=by rw[bK,eS,<-bK]
     have hb':(Nat.ble (aG s).fl o&&Nat.ble (Nat.add off (cz l)) (cz (bn cs)))=W:=by rw[K,dR];exact⟨I.1,I.2.1⟩
     refine⟨p∧leaves (bn l),?_,hp,xh I.2.2⟩;simp only[storeT,M,low,aY,ho,dX,cQ,hb',cG,eY,js,iY,iZ,O];rfl
    .cases w
   .cases h
  .rename_i o e k off;split at h
   .rename_i t _ _ _;split at h
    .rename_i h0 os hos;split at h
     .rename_i s1 Kl;split at h
      .rename_i t2 j era ho;split at h
       .rename_i h2 os2 hh2;rcases af h with⟨I,w⟩|⟨_,w⟩
        .clear h;simp only[dR]at I;obtain⟨Jm,qg,R,Ow,hb5⟩:=I;simp only[bg,bC]at w;obtain⟨rfl,rfl,rfl⟩:=w;obtain⟨q,hd,hq⟩:=qw m s _ l hos;have hf:=cY m os Kl;have hk:=qS hc;have L:=OG (enc S t2) j k (S.zero t2) hk;obtain⟨q2,z,_⟩:=qw m s _ _ hh2;have B:off+cz l<=S.width t2:=fQ R;have h1l:1<=cz l:=fQ Ow;generalize hds:gq S (List.take (cz l) (List.drop off (S.mw t))) h0=ds at hd;have g:ds.length=cz l:=by
          have:∀(s:St)(l:List T){p:Prop}{ds:List D}{os:List Nat},lG s l=Z (p,ds,os)->ds.length=l.length:=by
           intro s l
           induction l with
           |nil=>intro p ds os h;simp only[lG,bg,bC]at h;obtain⟨_,rfl,_⟩:=h;rfl
           |cons t l ih=>
            intro p ds os h;simp only[lG]at h;split at h
            .rename_i h1 h2;simp only[bg,bC]at h;obtain⟨_,rfl,_⟩:=h;simp[ih h2]
            .cases h
          rw[this _ _ hd,eS,bK]
         have G:gq S (S.mw t2) h2=(enc S t2 (aR j k (S.zero t2))).cells.take off++ds++(enc S t2 (aR j k (S.zero t2))).cells.drop (Nat.add off (cz l)):=by rw[js,js,iY,iZ,yN m,<-List.map_take,<-List.map_drop]at z;obtain⟨r1,e1,_⟩:=uY (aG s) ((enc S t2 (aR j k (S.zero t2))).cells.take off);obtain⟨r2,e2,_⟩:=uY (aG s) ((enc S t2 (aR j k (S.zero t2))).cells.drop (Nat.add off (cz l)));obtain⟨r3,e3,_⟩:=tF _ _ _ e1 hd;obtain⟨r4,e4,_⟩:=tF _ _ _ e3 e2;rw[e4]at z;simp only[bg,bC]at z;exact z.2.1.symm
         have H:D.PI (enc S t2 (aR j k (S.zero t2))) off ds=enc S t2 (tQ t2 h2):=by
          have b:=Ju m t2 h2;rw[G]at b;cases t2 with
          |st n=>simp only[enc,D.cells]at b;simp only[enc,D.PI,g];rw[b];rfl
          |cR n=>
           simp only[Sg.width]at B;have r:off=0:=by omega
           have u:cz l=1:=by omega
           rw[u]at g;obtain⟨d1,rfl⟩:=Li.1 g;subst r;have U:∀y:S.A n,(enc S (.cR n) y).cells=[enc S (.cR n) y]:=λy=>l6 _;rw[U,U]at b;simp only[List.take_zero,w6,u,Nat.add_eq,jl,List.drop_succ_cons,List.drop_nil,iT,KZ,and_true]at b;have hux:∀y:S.A n,D.PI (enc S (.cR n) y) 0 [d1]=d1:=λy=>by show D.PI (Nu (S.pL n y)) 0 [d1]=d1;cases S.pL n y<;>rfl
           rw[hux];exact b.symm
          |_=>
           simp only[Sg.width]at B;have r:off=0:=by omega
           have u:cz l=1:=by omega
           rw[u]at g;obtain⟨d1,rfl⟩:=Li.1 g;subst r;simp only[enc,D.cells,List.take_zero,w6,u,Nat.add_eq,jl,List.drop_succ_cons,List.drop_nil,iT,KZ,and_true]at b;simp only[enc,D.PI,List.getD,fc,w4,Nat.lt_add_one,getElem?_pos,UB,zU,jl];exact b.symm
         have htk:(D.el (j.map (enc S t2)) k).PO (S.width t2) off (cz ds):=by
          rw[L,bK,g];cases t2 with
          |st n=>
           left
           simp only[enc,D.isAgg,Sg.width,bK,m.cells,lA,dR];refine⟨beq_iff'.2 rfl,?_⟩;rw[eA];exact gR _ _ (m.leaf n)
          |cR n=>simp only[Sg.width]at B;exact .inr ⟨ua _,rfl,by omega,by omega⟩
          |_=>simp only[Sg.width]at B;exact .inr ⟨rfl,rfl,by omega,by omega⟩
         have X:Nat.ble (Nat.add off (cz ds)) (S.width t2)=W:=by rw[bK,g];exact R
         have C:ds.all D.leaf=W:=by
          rw[eA];intro d hd';have:d∈gq S (S.mw t2) h2:=by rw[G];simp[hd']
          cases t2 with|st n=>exact gR _ _ (m.leaf n) d this|cR n=>simp only[Sg.mw,gq,kX]at this;rw[this];exact ua _|_=>simp only[Sg.mw,gq,kX]at this;rw[this];rfl
         have hby:((D.el (j.map (enc S t2)) k).PI off ds).qu=(D.el (j.map (enc S t2)) k).qu:=by rw[L,H,Ao m,Ao m]
         have amF:(Nat.ble (aG s1).fl o&&Nat.beq e era)=W:=by rw[dR];exact⟨Jm,qg⟩
         refine⟨p∧q∧ds.all D.leaf=W∧D.Gg (k:Int) (D.len (j.map (enc S t2)))∧(D.el (j.map (enc S t2)) k).PO (S.width t2) off (cz ds)∧Nat.ble (Nat.add off (cz ds)) (S.width t2)=W∧
          ((D.el (j.map (enc S t2)) k).PI off ds).qu=(D.el (j.map (enc S t2)) k).qu,?_,hp,hq,C,?_,htk,X,hby⟩
         .simp only[storeT,M,low,hd,hf,aY,ho,dX,cQ,amF,cG,eY,L,H,D.put,dO,GS];rfl
         .simp only[D.Gg,D.len,Dn];omega
        .cases w
       .cases h
      .cases h
     .cases h
    .cases h
   .cases h
  .cases h
def EP{len:Int}(h:ff lo hi len=W):D.cut lo hi len:=by simpa[ff,D.cut]using h
def nL{α:Type}(f:α->D)(l:List α):D.len (l.map f)=ak l:=by simp[D.len,ak]
def PT{α:Type}(f:α->D)(l:List α)(lo hi:Int):D.sub (l.map f) lo hi=(ey l lo hi).map f:=by simp[D.sub,ey,List.map_drop,List.map_take]
def qE(b:fh S){e:Ty}(l:List (den S.A e)):D.rows (l.map (enc S e)) (S.width e):=by intro d g;obtain⟨x,_,rfl⟩:=tK.1 g;exact jM b x
def rC(b:List UInt8):D.CZ (bI b)=ak b:=by simp[D.CZ,bI,ak,ByteArray.size]
def NH(b:List UInt8)(h:D.cut lo hi (ak b)):D.Yd (bI b) lo hi=bI (ey b lo hi):=by obtain⟨h1,h2,h3⟩:=h;unfold D.Yd bI ey;unfold ak at h3;apply ByteArray.ext;simp only[ByteArray.data_extract];apply Dt;simp[UH,List.drop_take]
def NI(hS:fh S){τ:Option Ty}(hi:∀u,τ=Z u->wI S i u){l h m:Option (V S)}(g:tH i τ s x l h m=Z (c,v,s'))(L:c=W) :
  ∃p,oe i (aG s) (low x) (l.map low) (h.map low) (m.map low)=Z (p,low v,aG s')∧p:=by
 unfold tH at g;split at g
 .rename_i lo M;obtain⟨p,w,hp⟩:=oW (d:=0) M;have w:uz D.zero (l.map low)=Z (p,lo):=w;obtain⟨G,_,_⟩:=hi _ rfl;split at g
  .rename_i b _ hb;obtain⟨q,H,U⟩:=j0 hb;split at g
   .rename_i B I;obtain⟨r,C,O⟩:=oW I;simp only[bg,bC]at g;obtain⟨rfl,rfl,rfl⟩:=g;have j:=EP L;refine⟨p∧q∧r∧D.cut lo B (D.CZ (bI b)),?_,hp,U,O,by rw[rC];exact j⟩;unfold oe;rw[G,w];simp only[H,Option.map_none,rC,C,NH b j];rfl
   .cases g
  .cases g
 .rename_i e lo M;obtain⟨p,w,hp⟩:=oW (d:=0) M;have w:uz D.zero (l.map low)=Z (p,lo):=w;obtain⟨⟨z,G,_⟩,_⟩:=hi _ rfl;split at g
  .rename_i R s1 _ VD hfz;obtain⟨q,H,U⟩:=xZ VD;have hf:=cY hS _ hfz;rw[<-DH]at hf;split at g
   .rename_i _ B I;obtain⟨r,C,O⟩:=oW I;simp only[bg,bC]at g;obtain⟨rfl,rfl,rfl⟩:=g;have j:=EP L;refine⟨p∧q∧r∧D.rows (R.map (enc S e)) (S.width e)∧D.cut lo B (D.len (R.map (enc S e))),?_,hp,U,O,qE hS R,by rw[nL];exact j⟩;unfold oe;rw[G,w];simp only[H,hf,nL,C,Option.map_none,PT];rfl
   .rename_i B y hv I;obtain⟨r,C,O⟩:=oW I;simp only[dX]at C;split at g
    .simp only[bg,bC]at g;obtain⟨rfl,rfl,rfl⟩:=g;simp only[dR,ia,jR]at L;refine⟨p∧q∧r∧lo=D.zero∧B=D.zero,?_,hp,U,O,L.1,L.2⟩;unfold oe;rw[G,w];simp only[H,hf,nL,C,dX,low]
    .rename_i hno;split at g
     .rename_i mx hmx;obtain⟨t,X,ht⟩:=fJ hmx;simp only[bg,bC]at g;obtain⟨rfl,rfl,rfl⟩:=g;simp only[dR,ia,jR]at L;have j:=EP L.1;refine⟨p∧q∧r∧t∧D.rows (R.map (enc S e)) (S.width e)∧D.cut lo B (D.len (R.map (enc S e)))∧mx=B,?_,hp,U,O,ht,qE hS R,by rw[nL];exact j,L.2⟩;unfold oe;rw[G,w];simp only[H,hf,nL,C,dX,PT];have hnl:∀q,low y=.kn .i64 q->q≠0:=by
       intro q K h0;subst h0;cases y with
       |ty t x=>cases t<;>simp[low,eD]at K
       |kn k n=>simp only[low,T.kn.injEq]at K;obtain⟨rfl,rfl⟩:=K;exact hno rfl
       |_=>simp[low]at K
      generalize low y=ly at X hnl;split
      .exact absurd rfl (hnl 0 rfl)
      .rw[X];rfl
     .cases g
   .cases g
  .cases g
 .cases g
def Fe{g:Option Bool}{b:Bool}(h:WK v=Z (g,b)):∃p,Ff (low v)=Z (p,b)∧(orT g=W->p):=by
 unfold WK at h;split at h
 .rename_i e k;split at h
  .rename_i y i;obtain⟨p,d,hp⟩:=kM i;simp only[bg,bC]at h;obtain⟨rfl,rfl⟩:=h;exact⟨e=W∧p,by simp only[low,Ff,d],λj=>⟨j,hp⟩⟩
  .cases h
 .simp only[bg,bC]at h;obtain⟨rfl,rfl⟩:=h;exact⟨True,rfl,λ_=>trivial⟩
 .simp only[bg,bC]at h;obtain⟨rfl,rfl⟩:=h;exact⟨_,rfl,λ_=>rfl⟩
 .cases h
def RP{c b:V S}{q:Bool}(h:UO c a b=Z (q,v))(d:q=W):∃p,Hi (low c) (low a) (low b)=Z (p,low v)∧p:=by
 unfold UO at h;split at h
 .rename_i u;split at h
  .rename_i p y h1;simp only[bg,bC]at h;obtain⟨rfl,rfl⟩:=h;obtain⟨r,e,k⟩:=Fe h1;refine⟨r,?_,k d⟩;have m:Ff (bif u then low a else low b)=Z (r,y):=by cases u<;>exact e
   simp only[low,Hi,m];rfl
  .cases h
 rename_i i;split at h
 .rename_i t p x L y h1 h2 h3;obtain⟨s,w,z⟩:=kM h1;obtain⟨B,C,G⟩:=Fe h2;obtain⟨H,I,K⟩:=Fe h3;simp only[bg,bC]at h;obtain⟨rfl,rfl⟩:=h;refine⟨s∧(t=W->B)∧(t=J->H),by
   have j:∀u,low c≠.kb u:=by
    intro u g;cases c with
    |kb b=>exact i b rfl
    |ty t x=>cases t<;>cases g
    |_=>cases g
   unfold Hi;split
   .rename_i g;exact absurd g (j _)
   .simp only[w,C,I];rfl,z,λl=>G ?_,λl=>K ?_⟩
  .rw[l]at d;exact d
  .rw[l]at d;exact d
 .cases h
end
section
variable {v x ix b a:V S}{r c:Bool}{i:TI}{s s':bq S}{k:Nat}{n m:Int}{op:BinOp}
def ab2{o r:Nat}(h:low v=.sh o r):v=.sh o r:=by
 cases v with
 |ty t x=>cases t<;>simp[low,eD]at h
 |sh a b=>simpa[low]using h
 |_=>simp[low]at h
def Ek(I:fh S){τ:Option Ty}(hi:∀u,τ=Z u->wI S i u)(b:ju i τ s x ix=Z (c,v,s'))(H:c=W) :
  s'=s∧∃p,kq i (aG s) (low x) (low ix)=Z (p,low v,aG s')∧p:=by
 unfold ju at b;split at b
 .rename_i sz U X zz e n K L;obtain⟨p,k,hp⟩:=fJ L;obtain⟨⟨z,g,_⟩,_⟩:=hi _ rfl;split at b
  .rename_i o r;split at b
   .rename_i t l y;rcases af b with⟨M,d⟩|⟨_,d⟩
    .clear b;have:=fE M;subst this;simp only[bg,bC]at d;obtain⟨rfl,rfl,rfl⟩:=d;have j:=tX H;have B:Nat.beq (S.width t) (S.width t)=W:=beq_iff'.2 rfl;refine⟨rfl,p∧D.Gg n (D.len (l.map (enc S t))),?_,hp,by rw[nL];exact j⟩;unfold kq;rw[g,k];simp only[low,MW y,B,cG];rfl
    .cases d
   .cases b
  .rename_i C;split at b
   .rename_i l y;simp only[bg,bC]at b;obtain⟨rfl,rfl,rfl⟩:=b;obtain⟨q,G,O⟩:=xZ y;have j:=tX H;have R:(ah n)<l.length:=by unfold ah;omega
    have m:=OG (enc S e) l (ah n) (S.zero e) R;refine⟨rfl,p∧q∧D.Gg n (D.len (l.map (enc S e)))∧(D.el (l.map (enc S e)) (D.nat n)).wide (S.width e),?_,hp,O,by rw[nL];exact j,?_⟩
    .unfold kq;rw[g,k];simp only;split
     .rename_i o r w;exact absurd (ab2 w) (C o r)
     .rw[G];simp only[low];rw[show D.el (List.map (enc S e) l) (D.nat n)=_ from m]
    .show (D.el (l.map (enc S e)) (ah n)).cells.length=_;rw[m,jM I]
   .cases b
 .cases b
def oN(b:oO i s k x=Z (c,v,s')):s'=s∧∃p,oP i (aG s) k (low x)=Z (p,low v,aG s')∧p:=by
 unfold oO at b;unfold oP;split at b
 .rename_i fs d;try rw[d]
  try simp only
  split at b
  .rename_i off size g hf;(try rw[hf]);rcases af b with⟨_,h⟩|⟨e,h⟩
   .cases h
   .simp only[e,dP];split at h;all_goals first
     |(cases h;done)
     |(
       simp only[bg,bC]at h;obtain⟨rfl,rfl,rfl⟩:=h;exact⟨rfl,True,rfl,trivial⟩)
  .cases b
 .cases b
def OA(l:fh S)(b:Al i s k x=Z (c,v,s')):s'=s∧∃p,Es i (aG s) k (low x)=Z (p,low v,aG s')∧p:=by
 unfold Al at b;unfold Es;split at b
 .rename_i fs e;try rw[e]
  try simp only
  split at b
  .rename_i off size w m hf q;obtain⟨p,g,hp⟩:=mb l q;rw[hf,g];dsimp only at b ⊢;rcases af b with⟨r,h⟩|⟨_,h⟩
   .simp only[eC,bC]at h;obtain⟨t,u,_,rfl,rfl⟩:=h;have d:=nZ u;rw[iY,iZ]at d;have j:(Nat.beq (cz (((bn m).drop off).take size)) size&&!(Nat.beq size 0))=W:=by rw[<-iZ,<-iY,bK,eS,<-bK];exact r
    exact⟨rfl,p,by rw[j,cG,d];rfl,hp⟩
   .cases h
  .cases b
 .cases b
def RA{b:List UInt8}(h:av n b=W):D.sat (bI b) n=kW b n:=by
 have e:=tX h;have d:n.toNat<b.length:=by omega
 unfold D.sat kW;have h1:(bI b).get! n.toNat=b.getD n.toNat 0:=by unfold bI ByteArray.get!;simp[d]
 rw[h1]
def Oi(d:Ae i s x ix=Z (c,v,s'))(k:c=W):s'=s∧∃p,Ej i (aG s) (low x) (low ix)=Z (p,low v,aG s')∧p:=by
 unfold Ae at d;split at d
 .rename_i n b e l m;obtain⟨p,g,hp⟩:=fJ l;obtain⟨q,j,r⟩:=j0 m;simp only[bg,bC]at d;obtain⟨rfl,rfl,rfl⟩:=d;refine⟨rfl,p∧q∧D.Gg n (D.CZ (bI b)),?_,hp,r,by rw[rC];exact tX k⟩;unfold Ej;rw[e,g,j];simp only[low,eD,enc,RA k]
 .cases d
def Rj(d:D):low (zeroV (S:=S) d)=oC d:=by
 unfold zeroV;split
 .rfl
 .rfl
 .rename_i b;simp only[low,eD,enc,MP];rfl
 .rfl
 .rename_i h1 h2 h3 h4;unfold oC;split
  .rename_i b;exact absurd rfl (h1 b)
  .rename_i k n;exact absurd rfl (h2 k n)
  .exact absurd rfl h4
  .rfl
def lU:∀(l:List D),bn (l.map (zeroV (S:=S)))=l.map oC
 |[]=>rfl
 |d::l=>by simp only[lI,bn,Rj,lU l]
def OX(b:i.kd=.iface->False)(s:St)(t u:TypeId)(v:T) :
  pT i s t W (.cR u v)=(bif Nat.beq u t then Z (True,.gm [v,.kb W],s)else(tO i.agg (i.zero.map oC)).map λz=>(True,.gm [z,.kb J],s)):=by
 unfold pT;cases d:i.kd<;>first|rfl|exact(b d).elim
def OY(b:i.kd=.iface->False)(s:St)(t u:TypeId)(v:T) :
  pT i s t J (.cR u v)=(bif Nat.beq u t then Z (True,v,s)else Y):=by
 unfold pT;cases d:i.kd<;>first|rfl|exact(b d).elim
def uC{t:TypeId}{ok:Bool}(b:CG i s t ok x=Z (c,v,s')):s'=s∧∃p,pT i (aG s) t ok (low x)=Z (p,low v,aG s')∧p:=by
 unfold CG at b;split at b
 .cases b
 .rename_i u w _ d;rw[low,OX d];rcases af b with⟨e,b⟩|⟨e,b⟩
  .simp only[bg,bC]at b;obtain⟨rfl,rfl,rfl⟩:=b;exact⟨rfl,True,by rw[e];rfl,trivial⟩
  .simp only[eC,bC]at b;obtain⟨z,j,_,rfl,rfl⟩:=b;have g:=nZ j;rw[lU]at g;exact⟨rfl,True,by rw[e,dP,g];rfl,trivial⟩
 .rename_i u w _ d;rw[low,OY d];rcases af b with⟨e,b⟩|⟨_,b⟩
  .simp only[bg,bC]at b;obtain⟨rfl,rfl,rfl⟩:=b;exact⟨rfl,True,by rw[e];rfl,trivial⟩
  .cases b
 .cases b
def X7{op:UnOp}(e:unV i op x=Z v):∃p d,unT i op (low x)=Z (p,d)∧p∧low v=.sym d:=by
 unfold unV at e;split at e
 .rename_i g;simp only[eC]at e;obtain⟨b,l,rfl⟩:=e;obtain⟨p,j,hp⟩:=kM l;exact⟨p,_,by simp only[unT,g,j,dX];rfl,hp,rfl⟩
 .rename_i k g;simp only[eC]at e;obtain⟨b,l,rfl⟩:=e;obtain⟨p,j,hp⟩:=fJ l;exact⟨p,_,by simp only[unT,g,j,dX];rfl,hp,rfl⟩
 .cases e
def Ax{j:TI}(b:QS i j s x=Z (c,v,s')):s'=s∧∃p,HW i j (aG s) (low x)=Z (p,low v,aG s')∧p:=by
 unfold QS at b;split at b
 .rename_i k l h1 h2;simp only[eC,bC]at b;obtain⟨n,e,_,rfl,rfl⟩:=b;obtain⟨p,d,hp⟩:=fJ e;exact⟨rfl,p,by simp only[HW,h1,h2,d,dX];rfl,hp⟩
 .rename_i h1 h2;simp only[eC,bC]at b;obtain⟨n,e,_,rfl,rfl⟩:=b;obtain⟨p,d,hp⟩:=j0 e;exact⟨rfl,p,by simp only[HW,h1,h2,d,dX],hp⟩
 .cases b
def se(b:yY s k x=Z (c,v,s')):s'=s∧∃p,oQ (aG s) k (low x)=Z (p,low v,aG s')∧p:=by
 unfold yY at b;split at b
 .rename_i e;simp only[eC,bC]at b;obtain⟨t,d,_,rfl,rfl⟩:=b;rw[jq]at d;exact⟨rfl,True,by simp only[low,oQ,jq,ga,gK,d,dX],trivial⟩
 .cases b
def zR(a b:List UInt8):D.seq (bI a) (bI b)=fZ a b:=by show(a.toArray==b.toArray)=(a==b);simp
def BB{k:Lk}(h:CE k a b=Z r):∃p,oR k (low a) (low b)=Z (p,r)∧p:=by
 unfold CE at h;split at h
 .split at h
  .rename_i h1 h2;simp only[bg]at h;subst h;obtain⟨p,d,hp⟩:=fJ h1;obtain⟨q,e,g⟩:=fJ h2;exact⟨p∧q,by simp only[oR,d,e],hp,g⟩
  .cases h
 .split at h
  .rename_i h1 h2;simp only[bg]at h;subst h;obtain⟨p,d,hp⟩:=kM h1;obtain⟨q,e,g⟩:=kM h2;exact⟨p∧q,by simp only[oR,d,e],hp,g⟩
  .cases h
 .split at h
  .rename_i h1 h2;simp only[bg]at h;subst h;obtain⟨p,d,hp⟩:=j0 h1;obtain⟨q,e,g⟩:=j0 h2;exact⟨p∧q,by simp only[oR,d,e,zR],hp,g⟩
  .cases h
 .cases h
def wB:∀{d:List Lk}{as bs:List (V S)}{r:Bool},jL d as bs=Z r->∃p,jw d (bn as) (bn bs)=Z (p,r)∧p
 |[],[],[],r,h=>by simp only[jL,bg]at h;subst h;exact⟨True,rfl,trivial⟩
 |k::d,a::as,b::bs,r,h=>by
  simp only[jL]at h;split at h
  .rename_i x y h1 h2;simp only[bg]at h;subst h;obtain⟨p,e,hp⟩:=BB h1;obtain⟨q,g,i⟩:=wB h2;exact⟨p∧q,by simp only[bn,jw,e,g],hp,i⟩
  .cases h
 |[],[],_::_,_,h=>by simp[jL]at h
 |[],_::_,_,_,h=>by simp[jL]at h
 |_::_,[],_,_,h=>by simp[jL]at h
 |_::_,_::_,[],_,h=>by simp[jL]at h
def Mr(j:fh S)(h:ZK i a b=Z r):∃p,SX i (low a) (low b)=Z (p,r)∧p:=by
 unfold ZK at h;unfold SX;rcases af h with⟨e,h⟩|⟨e,h⟩
 .rw[e];simp only[cG];split at h
  .cases h
  .rename_i k z as B g l m;obtain⟨p,s,hp⟩:=mb j l;obtain⟨q,u,v⟩:=mb j m;obtain⟨t,w,y⟩:=wB h;exact⟨p∧q∧t,by simp only[g,s,u,w,dX],hp,v,y⟩
  .cases h
 .rw[e];simp only[dP];split at h
  .rename_i k d;try rw[d]
   exact BB h
  .rename_i d;try rw[d]
   unfold Wd at h;split at h
   .simp only[bg]at h;subst h;exact⟨True,rfl,trivial⟩
   .simp only[bg]at h;subst h;exact⟨True,rfl,trivial⟩
   .cases h
  .rename_i d;try rw[d]
   unfold We at h;split at h
   .simp only[bg]at h;subst h;exact⟨True,rfl,trivial⟩
   .simp only[bg]at h;subst h;exact⟨True,rfl,trivial⟩
   .cases h
  .cases h
def Wy{op:BinOp}{k:IntKind}{m n:Int}:(ZZ (S:=S) op k m n).map low=(OM op k m n).map .sym:=by unfold ZZ OM;cases op<;>rfl
def Wr{op:BinOp}{k:IntKind}{m n:Int}:(ZW (S:=S) op k m n).map low=(Ws op k m n).map .sym:=by unfold ZW Ws;cases op<;>rfl
def SR{a b:List UInt8}(h:ZH a b=W):D.Ye (bI a) (bI b):=by simpa[ZH,D.Ye,bI,ByteArray.size]using h
def S9(a b:List UInt8):D.Uc (bI a) (bI b)=bI (cP a b):=by unfold D.Uc cP bI;apply ByteArray.ext;simp
def WH(R:fh S)(h:E5 i op a b=Z (c,v))(U:c=W):∃p d,JG i op (low a) (low b)=Z (p,d)∧p∧low v=.sym d:=by
 have g:=h;unfold E5 at h;split at h
 .simp only[eC,bC]at h;obtain⟨r,I,_,rfl⟩:=h;obtain⟨p,e,hp⟩:=Mr R I;exact⟨p,_,by simp only[JG,e,dX];rfl,hp,rfl⟩
 .simp only[eC,bC]at h;obtain⟨r,I,_,rfl⟩:=h;obtain⟨p,e,hp⟩:=Mr R I;exact⟨p,_,by simp only[JG,e,dX];rfl,hp,rfl⟩
 .rename_i j l;cases t:i.kd with
  |leaf X=>
   cases X with
   |int k=>
    have G:E5 i op a b=(match gF k a,gF k b with
     |some m,Z n=>match ZZ op k m n with
      |some d=>Z (W,d)
      |none=>(ZW op k m n).map λd=>(nzI n,d)
     |_,_=>Y):=by
     clear h;unfold E5;cases op<;>first|exact(j rfl).elim|exact(l rfl).elim|(simp only[t];done)|(simp only[t];cases gF k a<;>cases gF k b<;>rfl)
    have ht:∀{p q:Prop}{m n:Int},tj k (low a)=Z (p,m)->tj k (low b)=Z (q,n)->JG i op (low a) (low b)=(match OM op k m n with
     |some d=>Z (p∧q,d)
     |none=>(Ws op k m n).map λd=>(p∧q∧D.nz n,d)):=by
     intro p q m n B C;clear h G;unfold JG;cases op<;>first|exact(j rfl).elim|exact(l rfl).elim|(simp only[t,B,C];rfl)
    rw[G]at g;split at g
    .rename_i m n h1 h2;obtain⟨p,B,hp⟩:=fJ h1;obtain⟨q,C,H⟩:=fJ h2;rw[ht B C];have s:=Wy (S:=S) (op:=op) (k:=k) (m:=m) (n:=n);split at g
     .rename_i d K;rw[K]at s;simp only[dX]at s;obtain⟨L,w,y⟩:=eC.1 s.symm;simp only[bg,bC]at g;obtain⟨_,rfl⟩:=g;exact⟨p∧q,L,by rw[w],⟨hp,H⟩,y.symm⟩
     .rename_i K;rw[K]at s;simp only[Option.map_none]at s;have z:OM op k m n=Y:=by simpa using s.symm
      simp only[eC,bC]at g;obtain⟨d,M,rfl,rfl⟩:=g;have u:=Wr (S:=S) (op:=op) (k:=k) (m:=m) (n:=n);rw[M]at u;simp only[dX]at u;obtain⟨L,w,y⟩:=eC.1 u.symm;refine⟨p∧q∧D.nz n,L,by rw[z,w];rfl,⟨hp,H,?_⟩,y.symm⟩;simpa[nzI,D.nz]using U
    .cases g
   |str=>
    have O:op=.add:=by clear h;unfold E5 at g;cases op<;>first|rfl|exact(j rfl).elim|exact(l rfl).elim|(simp only[t]at g;cases g)
    clear h;subst O;have G:E5 i .add a b=(match tG a,tG b with
     |some m,Z n=>Z (ZH m n,.ty .str (cP m n))
     |_,_=>Y):=by
     unfold E5;simp only[t];cases tG a<;>cases tG b<;>rfl
    rw[G]at g;split at g
    .rename_i m n h1 h2;obtain⟨p,B,hp⟩:=j0 h1;obtain⟨q,C,H⟩:=j0 h2;simp only[bg,bC]at g;obtain⟨rfl,rfl⟩:=g;refine⟨p∧q∧D.Ye (bI m) (bI n),.lit (.string (D.Uc (bI m) (bI n))),?_,⟨hp,H,SR U⟩,by rw[S9];rfl⟩;unfold JG;simp only[t,B,C]
    .cases g
   |bool=>
    clear h;unfold E5 at g;cases op<;>first|exact(j rfl).elim|exact(l rfl).elim|(simp only[t]at g;cases g)
   |no=>
    clear h;unfold E5 at g;cases op<;>first|exact(j rfl).elim|exact(l rfl).elim|(simp only[t]at g;cases g)
  |_=>
   clear h;unfold E5 at g;cases op<;>first|exact(j rfl).elim|exact(l rfl).elim|(simp only[t]at g;cases g)
def LB(r:fh S){E:gA}(X:O8 S E){fr:bW S}{o:Op}(h:cm E fr s o=Z (c,v,s'))(C:c=W) :
  ∃p,mV E.E (bz fr) (aG s) o=Z (p,low v,aG s')∧p:=by
 cases o with
 |move x=>simp only[cm,eC,bC]at h;obtain⟨t,M,_,rfl,rfl⟩:=h;exact⟨True,by simp only[mV,bV M,dX],trivial⟩
 |assign x=>simp only[cm,eC,bC]at h;obtain⟨t,M,_,rfl,rfl⟩:=h;exact⟨True,by simp only[mV,bV M,dX],trivial⟩
 |pick x y z=>
  simp only[cm]at h;split at h
  .rename_i a b d h1 h2 h3;simp only[eC,bC]at h;obtain⟨⟨q,t⟩,M,rfl,rfl,rfl⟩:=h;obtain⟨p,e,hp⟩:=RP M C;exact⟨p,by simp only[mV,bV h1,bV h2,bV h3,e,dX],hp⟩
  .cases h
 |alloc t=>
  simp only[cm]at h;split at h
  .rename_i i hi;rcases af h with⟨l,h⟩|⟨_,h⟩
   .simp only[bg,bC]at h;obtain⟨_,rfl,rfl⟩:=h;refine⟨True,?_,trivial⟩;have G:Nat.blt (aG s).aH bB=W:=l;simp only[mV,hi,G,cG,gp,cQ,lU];rfl
   .cases h
  .cases h
 |box t x=>
  simp only[cm]at h;split at h
  .rename_i i v' hi hv;rcases af h with⟨l,h⟩|⟨_,h⟩
   .simp only[eC,bC]at h;obtain⟨cs,H,_,rfl,rfl⟩:=h;obtain⟨p,e,hp⟩:=mb r H;have G:Nat.blt (aG s).aH bB=W:=l;refine⟨p,?_,hp⟩;simp only[mV,hi,bV hv,G,cG,e,dX,gp,cQ];rfl
   .cases h
  .cases h
 |build t ps=>
  simp only[cm]at h;split at h
  .rename_i i ps' hi I;split at h
   .rename_i fs w;simp only[eC,bC]at h;obtain⟨cs,H,_,rfl,rfl⟩:=h;obtain⟨p,e,hp⟩:=Ak r H;rw[lU]at e;refine⟨p,?_,hp⟩;simp only[mV,hi,rP I,w,low];exact mJ (Option.map λq:Prop×List T=>(q.1,T.agg q.2,aG s)) e
   .cases h
  .cases h
 |buildSlice t n ps=>
  simp only[cm]at h;split at h
  .rename_i i e ps' hi LU I;split at h
   .rename_i sz ag bt zz w;rcases af h with⟨l,h⟩|⟨_,h⟩
    .split at h
     .rename_i es os hel;simp only[eC,bC]at h;obtain⟨s1,Kl,_,rfl,rfl⟩:=h;obtain⟨⟨z,B,K⟩,_,_,hpos⟩:=X.row _ _ _ hi LU;rw[w]at B;obtain⟨rfl,rfl,rfl,rfl⟩:=Kd.slice.inj B;have hf:=cY r os Kl;have hzl:cz zz=S.width e:=by rw[bK];cases e with|st m=>simp only[jk,cG,enc,D.agg.injEq]at K;rw[K];simp only[Sg.width,bK];rw[show S.cells m (S.zero (.st m))=_ from r.cells m _,lA]|_=>simp only[jk,dP]at K;rw[K];rfl
      have L:((jk e||Nat.beq (S.width e) 1)&&(Nat.beq (cz zz) (S.width e)&&(!(Nat.beq (S.width e) 0)&&Nat.ble (Nat.mul n (S.width e)) 16777216)))=W:=by
       rw[hzl];simp only[dR,Dp];refine⟨?_,beq_iff'.2 rfl,?_,l⟩
       .cases e<;>rfl
       .cases hq:Nat.beq (S.width e) 0 with|false=>rfl|true=>have:=beq_iff'.1 hq;omega
      have O:List.replicate n (bif jk e then D.agg zz else zz.getD 0 default)=(List.replicate n (S.zero e)).map (enc S e):=by
       rw[List.map_replicate]
       congr 1
       cases e with|st m=>exact K|_=>simp only[jk,dP]at K ⊢;rw[K];rfl
      obtain⟨p,e1,hp⟩:=EG r (i:={(default:TI)with size:=S.width e,agg:=jk e}) ⟨rfl,λ_=>rfl⟩ hel;refine⟨p,?_,hp⟩;simp only[mV,hi,rP I,w,L,cG,O,e1,hf,dX,low]
     .cases h
    .cases h
   .cases h
  .cases h
 |load t x=>
  simp only[cm]at h;split at h
  .rename_i i a hi g;obtain⟨rfl,p,e,hp⟩:=Hw r (λu R=>X.row _ _ _ hi R) h C;exact⟨p,by simp only[mV,hi,bV g,e],hp⟩
  .cases h
 |store t x y=>
  simp only[cm]at h;split at h
  .rename_i i a b hi g l;obtain⟨p,e,hp⟩:=NF r h C;exact⟨p,by simp only[mV,hi,bV g,bV l,e],hp⟩
  .cases h
 |nilCheck x=>
  simp only[cm]at h;split at h;all_goals first
   |(cases h;done)
   |(
     rename_i hx;simp only[bg,bC]at h;obtain⟨_,rfl,rfl⟩:=h;have:=bV hx;simp only[low]at this;exact⟨True,by simp only[mV,this,low],trivial⟩)
 |binOp op t x y u=>
  simp only[cm]at h;split at h
  .rename_i i a b hi g l;simp only[eC,bC]at h;obtain⟨⟨q,d⟩,hd,rfl,rfl,rfl⟩:=h;obtain⟨p,d',e,hp,hl⟩:=WH r hd C;exact⟨p,by simp only[mV,hi,bV g,bV l,e,dX,hl],hp⟩
  .cases h
 |unOp op t x=>
  simp only[cm]at h;split at h
  .rename_i i a hi g;simp only[eC,bC]at h;obtain⟨d,hd,_,rfl,rfl⟩:=h;obtain⟨p,d',e,hp,hl⟩:=X7 hd;exact⟨p,by simp only[mV,hi,bV g,e,dX,hl],hp⟩
  .cases h
 |convert t u x=>
  simp only[cm]at h;split at h
  .rename_i i j a hi hj g;obtain⟨rfl,p,e,hp⟩:=Ax h;exact⟨p,by simp only[mV,hi,hj,bV g,e],hp⟩
  .cases h
 |makeInterface t x=>
  simp only[cm]at h;split at h
  .rename_i i a hi g;split at h
   .cases h
   .rename_i hk;simp only[bg,bC]at h;obtain⟨_,rfl,rfl⟩:=h;refine⟨True,?_,trivial⟩;simp only[mV,hi,bV g,low]
  .cases h
 |makeFunc f a b=>
  simp only[cm]at h;split at h
  .rename_i x y hx hy;simp only[bg,bC]at h;obtain⟨_,rfl,rfl⟩:=h;exact⟨True,by simp only[mV,gP hx,gP hy,low],trivial⟩
  .cases h
 |extract x k=>
  simp only[cm]at h;split at h
  .rename_i a g;obtain⟨rfl,p,e,hp⟩:=se h;exact⟨p,by simp only[mV,bV g,e],hp⟩
  .cases h
 |fieldAddr t x k=>
  simp only[cm]at h;split at h
  .rename_i i a hi g;obtain⟨rfl,p,e,hp⟩:=oN h;exact⟨p,by simp only[mV,hi,bV g,e],hp⟩
  .cases h
 |field t x k=>
  simp only[cm]at h;split at h
  .rename_i i a hi g;obtain⟨rfl,p,e,hp⟩:=OA r h;exact⟨p,by simp only[mV,hi,bV g,e],hp⟩
  .cases h
 |indexAddr t x y=>
  simp only[cm]at h;split at h
  .rename_i i a b hi g l;obtain⟨rfl,p,e,hp⟩:=Ek r (λu R=>X.row _ _ _ hi R) h C;exact⟨p,by simp only[mV,hi,bV g,bV l,e],hp⟩
  .cases h
 |index t x y=>
  simp only[cm]at h;split at h
  .rename_i i a b hi g l;obtain⟨rfl,p,e,hp⟩:=Oi h C;exact⟨p,by simp only[mV,hi,bV g,bV l,e],hp⟩
  .cases h
 |slice t x lo hi mx=>
  simp only[cm]at h;split at h
  .rename_i i a l1 l2 l3 U g h1 h2 h3;obtain⟨p,e,hp⟩:=NI r (λu R=>X.row _ _ _ U R) h C;exact⟨p,by simp only[mV,U,bV g,DJ h1,DJ h2,DJ h3,e],hp⟩
  .cases h
 |typeAssert x t u ok=>
  simp only[cm]at h;split at h
  .rename_i i a hi g;obtain⟨rfl,p,e,hp⟩:=uC h;exact⟨p,by simp only[mV,hi,bV g,e],hp⟩
  .cases h
 |_=>simp[cm]at h
end
section
variable {e:Ty}{v:V S}{s s':bq S}{c:Bool}
def CF(b:fh S)(l:List (den S.A e)):D.TK (l.map (enc S e)) (uy S e):=by intro d g;obtain⟨x,_,rfl⟩:=tK.1 g;exact⟨Ao b x,Ms b x⟩
def sA{α:Type}(f:α->D)(l m:List α):D.app (l.map f) (m.map f)=(cP l m).map f:=by simp[D.app,cP]
def CD{α:Type}(f:α->D){l m:List α}(h:cZ l m=W):D.QI (l.map f) (m.map f):=by simpa[cZ,D.QI]using h
def YG{n:Nat}{es:List D}(h:low v=.jy n es):∃t l,v=.jy n t l:=by
 cases v with
 |ty t x=>cases t<;>simp[low,eD]at h
 |jy a t l=>simp only[low,T.jy.injEq]at h;obtain⟨rfl,_⟩:=h;exact⟨t,l,rfl⟩
 |_=>simp[low]at h
def MX(u:fh S){i:TI}(hi:wI S i (.sl e)){x y:V S}(h:CI i e s x y=Z (c,v,s'))(L:c=W) :
  ∃p,pU i (aG s) (low x) (low y)=Z (p,low v,aG s')∧p:=by
 unfold CI at h;rcases af h with⟨_,b⟩|⟨M,b⟩
 .cases b
 clear h;have w:(!(Nat.blt (aG s).aH bB))=J:=M;unfold pU;rw[w,dP];obtain⟨⟨z,B,hz⟩,_⟩:=hi;split at b
 .rename_i sz ag bt zz new l C;rw[B]at l;obtain⟨rfl,rfl,rfl,rfl⟩:=Kd.slice.inj l;obtain⟨q,O,H⟩:=xZ C;rw[B,O];simp only;have G:=qE u new;have R:=CF u new;split at b
  .simp only[bg,bC]at b;obtain⟨_,rfl,rfl⟩:=b;refine⟨q∧D.rows (new.map (enc S e)) (S.width e)∧D.TK (new.map (enc S e)) (uy S e),?_,H,G,R⟩;simp only[low,gp,cQ];rfl
  .rename_i n t j;split at b
   .rename_i U d;obtain⟨rfl,X⟩:=eW d;cases X;have m:=qE u (cP j new);have g:=CF u (cP j new);rw[<-sA]at m g;split at b
    .rename_i k t2 l2;simp only[bg,bC]at b;obtain⟨rfl,rfl,rfl⟩:=b;refine⟨q∧D.rows (D.app (j.map (enc S t)) (new.map (enc S t))) (S.width t)∧D.TK (D.app (j.map (enc S t)) (new.map (enc S t))) (uy S t)∧D.QI (j.map (enc S t)) (new.map (enc S t)),?_,H,m,g,CD _ L⟩;simp only[low,gp,cQ,<-sA];rfl
    .rename_i hno;simp only[bg,bC]at b;obtain⟨rfl,rfl,rfl⟩:=b;refine⟨q∧D.rows (D.app (j.map (enc S t)) (new.map (enc S t))) (S.width t)∧D.TK (D.app (j.map (enc S t)) (new.map (enc S t))) (uy S t)∧D.QI (j.map (enc S t)) (new.map (enc S t)),?_,H,m,g,CD _ L⟩;simp only[low];split
     .rename_i k es' hl;obtain⟨t3,l3,rfl⟩:=YG hl;exact absurd rfl (hno _ _ _)
     .simp only[eD,enc,<-sA]
   .cases b
  .rename_i o r;split at b
   .rename_i t j era ho;split at b
    .rename_i U d;obtain⟨rfl,X⟩:=eW d;cases X;rcases af b with⟨I,K⟩|⟨_,K⟩
     .clear b;simp only[dR]at I;simp only[bg,bC]at K;obtain⟨rfl,rfl,rfl⟩:=K;have g:=CF u (cP j new);rw[<-sA]at g;refine⟨q∧D.rows (new.map (enc S t)) (S.width t)∧D.TK (D.app (j.map (enc S t)) (new.map (enc S t))) (uy S t)∧D.QI (j.map (enc S t)) (new.map (enc S t)),?_,H,G,g,CD _ L⟩;have hb':(Nat.ble (aG s).fl o&&Nat.beq r era&&Nat.beq (S.width t) (S.width t)&&!(pI (low y)).contains o)=W:=by rw[DH];simp only[dR];exact⟨⟨⟨I.1,I.2.1⟩,beq_iff'.2 rfl⟩,I.2.2⟩
      simp only[low,aY,ho,dX,cQ,hb',cG,eY,<-sA]
     .cases K
    .cases b
   .cases b
  .cases b
 .cases b
def wE(K:fh S){E:gA}(G:O8 S E){b:Builtin}{B:Array TypeId}{args:List (V S)}(h:eZ E s b B args=Z (c,v,s'))(L:c=W) :
  ∃p,eX E.E (aG s) b B (bn args)=Z (p,low v,aG s')∧p:=by
 unfold eZ at h;split at h
 .rename_i x;split at h
  .rename_i i hi g;obtain⟨k,r,w⟩:=rL.1 hi;obtain⟨M,d,l⟩:=rL.1 g;rw[r]at d;cases d;obtain⟨m,_⟩:=G.row _ _ _ w l;split at h
   .rename_i b' _ O;obtain⟨p,e,hp⟩:=j0 O;simp only[bg,bC]at h;obtain⟨_,rfl,rfl⟩:=h;exact⟨p,by simp only[bn,eX,e,hi,m,rC];rfl,hp⟩
   .cases h
  .rename_i i e hi g;obtain⟨k,r,w⟩:=rL.1 hi;obtain⟨M,d,l⟩:=rL.1 g;rw[r]at d;cases d;obtain⟨⟨z,m,_⟩,_⟩:=G.row _ _ _ w l;split at h
   .simp only[eC,bC]at h;obtain⟨es,H,_,rfl,rfl⟩:=h;obtain⟨p,C,hp⟩:=xZ H;refine⟨p,?_,hp⟩;simp only[bn,eX];cases R:wU (low x)with|none=>simp only[hi,m,C,dX,nL];rfl|some q=>simp only[hi,m,C,dX,nL];rfl
   .cases h
  .cases h
 .rename_i x y;split at h
  .rename_i t u U;split at h
   .rename_i i j e hi X g;split at h
    .rename_i I;obtain⟨p,C,hp⟩:=MX K (G.row _ _ _ hi g) h L;exact⟨p,by simp only[bn,eX,U,hi,X,I,C],hp⟩
    .cases h
   .cases h
  .cases h
 .cases h
end
section
section
variable {g g':Gh}{w w':World}
structure nW(g g':Gh):Prop where
 cg:∀o b,g.cg o=Z b->g'.cg o=Z b
 arr:∀o e x,g.arr o e=Z x->g'.arr o e=Z x
 bA:∀b,g.bA b->g'.bA b
def nW.refl(g:Gh):nW g g:=⟨λ_ _ h=>h,λ_ _ _ h=>h,λ_ h=>h⟩
def nW.trans{g g' d:Gh}(h:nW g g')(k:nW g' d):nW g d:=⟨λo b e=>k.cg o b (h.cg o b e),λo e x i=>k.arr o e x (h.arr o e x i),λb e=>k.bA b (h.bA b e)⟩
variable {I:Nat->Prop}{v:Value}{t:T}{s s':St}{o b e:Nat}{x:fq}{os:List Nat}
def ee.le{e:Nat->Prop}(g:∀b,I b->e b){d:D}(h:ee I w d v):ee e w d v:=h.mono (λ_ _=>rfl) g
def aK.le(h:nW g g'){t:T}{v:Value}(I:aK g w t v):aK g' w t v:=by
 induction I with|sym d v p=>exact .sym d v (p.le h.bA)|kb b=>exact .kb b|kn k n=>exact .kn k n|ptr o off b q=>exact .ptr o off b (h.cg o b q)|mD d off z val B K p=>exact .mD d off z val (h.bA _ B) K (λj c C=>(p j c C).le h.bA)|kA o e i off len cap sz z s=>exact .kA o e i off len cap sz z (h.arr _ _ _ s)|sh o e len cap sz a s=>exact .sh o e len cap sz a (h.arr _ _ _ s)|emp a=>exact .emp a|jy n L a M p=>exact .jy n L a M (p.le h.bA)|fn f fs u O R y S _ _ l G=>exact .fn f fs u O R y S l G|cR t x v _ l=>exact .cR t x v l|agg u H y _ l=>exact .agg u H y l|gm u H y _ l=>exact .gm u H y l|gd c t v _ l=>exact .gd c t v l|mp o b q=>exact .mp o b (h.cg o b q)|ry o b q=>exact .ry o b (h.cg o b q)|ru o b q=>exact .ru o b (h.cg o b q)|ub e b h=>exact .ub e b h|qd o m r i len cap sz a s=>exact .qd o m r i len cap sz a (h.arr _ _ _ s)|nQ j d c a C p=>exact .nQ j d c a C (p.le h.bA)
def uR.le{s s':St}{o b:Nat}(h:uR g s w o b)(e:nW g g')(hi:g'.bA=g.bA)(hs:s'.ob.get o=s.ob.get o):uR g' s' w o b:=by refine⟨by rw[hi];exact h.1,h.2.1,λob d=>?_⟩;rw[hs]at d;obtain⟨x,h1,h2⟩:=h.2.2 ob d;exact⟨x,h1,h2.imp (λ_ _ h=>h.le e)⟩
def zF.le(h:zF g s w o e x)(hi:g'.bA=g.bA)(hs:s'.ob.get o=s.ob.get o)(d:∀k j y,g.arr k j=Z y->g'.arr k j=Z y)(l:∀i,g'.arr o i=g.arr o i):zF g' s' w o e x:=by refine⟨h.1,λob b=>?_⟩;rw[hs]at b;exact(h.2 ob b).tr (λh=>h.jT hi) d (funext l)
def bh.WO(hs:bh g s w)(hn:s.aH<bB){sz:Nat}{es:List D}
  (z:∀b,x.at b->b<w.heap.size∧∀o,¬bM g o b) (B:uV g w J sz es x) (t:x.sz=sz) :
  bh (g.era s.aH 0 x) (ef s (.arr sz es 0)).2 w∧nW g (g.era s.aH 0 x)∧(∀k b,bM (g.era s.aH 0 x) k b->bM g k b∨(k=s.aH∧x.at b)):=by
 have d:=hs.ai s.aH (bP _);have p:∀k j y,g.arr k j=Z y->(g.era s.aH 0 x).arr k j=Z y:=λk j y h=>by
  rw[Gh.cq]
  .exact h
  .rintro ⟨rfl,_⟩
   rw[d.2]at h;cases h
 have u:nW g (g.era s.aH 0 x):=⟨λ_ _ h=>h,p,λ_ h=>h⟩;have e:∀k b,bM (g.era s.aH 0 x) k b->bM g k b∨(k=s.aH∧x.at b):=by
  rintro k b ⟨h1,h2|⟨j,y,v,h2,h3,h4,h5⟩⟩
  .exact .inl ⟨h1,.inl h2⟩
  .by_cases i:k=s.aH∧j=0
   .obtain ⟨rfl,rfl⟩:=i;rw[Gh.fy]at h2;simp only[bg]at h2;subst h2;exact .inr ⟨rfl,⟨v,h3,h4,h5⟩⟩
   .rw[Gh.cq _ _ _ _ _ _ i]at h2;exact .inl ⟨h1,.inr ⟨j,y,v,h2,h3,h4,h5⟩⟩
 refine⟨⟨by simp only[ef];omega,λk I=>?_,λk b C=>?_,λk j y q=>?_,λb C=>hs.bA b C,λk G b h K=>?_⟩,u,e⟩
 .simp only[ef]at I;refine⟨(hs.ai k (by omega)).1,λj=>?_⟩;rw[Gh.cq _ _ _ _ _ _ (by omega)];exact(hs.ai k (by omega)).2 j
 .have r:g.cg k=Z b:=C;have m:k≠s.aH:=λh=>by rw[h,d.1]at r;cases r
  exact(hs.box k b r).le u rfl (by simp only[ef];rw[Tr.aX _ _ _ _ hn,br m])
 .by_cases i:k=s.aH∧j=0
  .obtain ⟨rfl,rfl⟩:=i;rw[Gh.fy]at q;simp only[bg]at q;subst q;refine⟨λv L M=>(z _ ⟨v,L,rfl,M⟩).1,λob l=>.inl ⟨J,es,0,?_,bP _,λH h=>?_,λ_=>t▸(B.jT rfl)⟩⟩
   .simp only[ef]at l;rw[Tr.aX _ _ _ _ hn,bJ rfl]at l;rw[<-eK l];simp only[fB,t];rfl
   .rw[Gh.cq _ _ _ _ _ _ (by omega)];exact d.2 H
  .rw[Gh.cq _ _ _ _ _ _ i]at q;have m:k≠s.aH:=λh=>by rw[h,d.2]at q;cases q
   exact(hs.arr k j y q).le rfl (by simp only[ef];rw[Tr.aX _ _ _ _ hn,br m]) p (λH=>Gh.cq _ _ _ _ _ _ (λh=>m h.1))
 .rcases e k b h with h1|⟨h1,h3⟩<;>rcases e G b K with h2|⟨h2,h4⟩
  .exact hs.lV k G b h1 h2
  .exact absurd h1 ((z b h4).2 k)
  .exact absurd h2 ((z b h3).2 G)
  .rw[h1,h2]
def bh.rZ(hs:bh g s w)(t:g.cg o=Z b){ob:Ob}{x:Obj}(u:w.heap[b]?=Z x)(v:gW g w ob x)(m:∀e,g.arr o e=Y):bh g {s with ob:=s.ob.set aJ o ob} w:=by
 have y:=hs.lt t;have z:=hs.aH;have cL:∀k,(Tr.set aJ s.ob o ob).get k=if k=o then Z ob else s.ob.get k:=λk=>Tr.aX _ _ _ _ (by omega)
 refine⟨hs.aH,hs.ai,λk c q=>?_,λk e x r=>?_,hs.bA,hs.lV⟩
 .have i:=hs.box k c q;refine⟨i.1,i.2.1,λl d=>?_⟩;rw[cL]at d;by_cases j:k=o
  .subst j;rw[bJ rfl]at d;have:c=b:=by rw[t]at q;exact(eK q).symm
   subst this;obtain rfl:=eK d;exact⟨_,u,v⟩
  .rw[br j]at d;exact i.2.2 l d
 .have p:=hs.arr k e x r;have j:k≠o:=λh=>by subst h;rw[m]at r;cases r
  refine⟨p.1,λl d=>?_⟩;rw[cL,br j]at d;exact p.2 l d
def bh.step(hs:bh g s w){X:Nat->Prop}(H:∀b,g.bA b->I b)(hIn:∀b,I b->g.bA b∨w.heap.size<=b∨X b)(hIs:∀b,I b->b<w'.heap.size)(B:w.heap.size<=w'.heap.size)
  (l:∀b,b<w.heap.size->¬X b->w'.heap[b]?=w.heap[b]?) (hX:∀o b,X b->bM g o b->s.ob.get o=Y∧¬I b) (hXi:∀b,X b->¬g.bA b) :
  bh {g with bA:=I} s w':=by
 have O:∀k b,bM ({g with bA:=I}:Gh) k b->bM g k b:=λk b h=>⟨λhi=>h.1 (H b hi),h.2⟩;have S:sZ g.bA w w':=λb z=>l b (hs.bA b z) (λu=>hXi b u z);have U:∀{t:T}{v:Value},aK g w t v->aK ({g with bA:=I}:Gh) w' t v:=by
  intro t v ht
  induction ht with|sym d v C=>exact .sym d v (C.mono S H)|kb b=>exact .kb b|kn k n=>exact .kn k n|ptr o off b z=>exact .ptr o off b z|mD d off ad val p G C=>exact .mD d off ad val (H _ p) (λj c K=>by rw[S.cell (by rw[kN];exact p)];exact G j c K) (λj c K=>(C j c K).mono S H)|kA o e i off len cap sz ad u=>exact .kA o e i off len cap sz ad u|sh o e len cap sz a u=>exact .sh o e len cap sz a u|emp a=>exact .emp a|jy n es a hn C=>exact .jy n es a hn (C.mono S H)|fn f fs cs va vc hl hm _ _ L ih'=>exact .fn f fs cs va vc hl hm L ih'|cR t x v _ L=>exact .cR t x v L|agg cs vs hl _ L=>exact .agg cs vs hl L|gm cs vs hl _ L=>exact .gm cs vs hl L|gd c t v _ L=>exact .gd c t v L|mp o b z=>exact .mp o b z|ry o b z=>exact .ry o b z|ru o b z=>exact .ru o b z|ub e b h=>exact .ub e b h|qd o m r i len cap sz a u=>exact .qd o m r i len cap sz a u|nQ j d c a K C=>exact .nQ j d c a K (C.mono S H)
 have R:∀o b,bM g o b->¬I b:=λo b M hi=>by
  rcases hIn b hi with h|h|h
  .exact M.1 h
  .have:=(hs.qJ M).1;omega
  .exact (hX o b h M).2 hi
 refine⟨hs.aH,hs.ai,λk c G=>?_,λk e x u=>?_,hIs,λk k' b h h'=>hs.lV k k' b (O k b h) (O k' b h')⟩
 .have y:=hs.box k c G;have M:bM g k c:=⟨y.1,.inl G⟩;refine⟨R k c M,dy y.2.1 B,λob q=>?_⟩;obtain⟨x,h2,h3⟩:=y.2.2 ob q;have hnx:¬X c:=λu=>by rw[(hX k c u M).1]at q;cases q
  exact⟨x,by rw[l c y.2.1 hnx];exact h2,h3.imp (λ_ _ h=>U h)⟩
 .have hok:=hs.arr k e x u;refine⟨λad ha G=>dy (hok.1 ad ha G) B,λob q=>?_⟩;refine(hok.2 ob q).tr (λ{fz sz es}hA=>?_) (λ_ _ _ h=>h) rfl;refine⟨hA.len,hA.cap,hA.rows,hA.pos,hA.X2,hA.emp,λG=>?_⟩;obtain⟨b,vs,ty,k1,k2,k3,k4,k5⟩:=hA.mem G;have z:b<w.heap.size:=hok.1 _ k1 G;by_cases p:g.bA b
  .refine ⟨b,vs,ty,k1,⟨λ_=>H b p,λ_=>k2.2 p⟩,by rw[l b z (λu=>hXi b u p)];exact k3,k4,λi d j c C K=>?_⟩;obtain⟨v,hv,hr⟩:=k5 i d j c C K;exact⟨v,hv,hr.mono S H⟩
  .have M:bM g k b:=⟨p,.inr ⟨e,x,_,u,k1,rfl,G⟩⟩;have hnx:¬X b:=λhxx=>by rw[(hX k b hxx M).1]at q;cases q
   refine⟨b,vs,ty,k1,⟨λhf=>absurd (k2.1 hf) p,λhi=>absurd hi (R k b M)⟩,by rw[l b z hnx];exact k3,k4,λi d j c C K=>?_⟩;obtain⟨v,hv,hr⟩:=k5 i d j c C K;exact⟨v,hv,hr.mono S H⟩
def Gh.drop(g:Gh)(os:List Nat):Gh:={g with arr:=λo e=>if o∈os then Y else g.arr o e}
def Gh.EJ(h:(g.drop os).arr o e=Z x):o∉os∧g.arr o e=Z x:=by
 simp only[Gh.drop]at h;split at h
 .cases h
 .exact ⟨by assumption,h⟩
def Gh.xw{k:Nat}(h:bM (g.drop os) k b):bM g k b:=by
 obtain⟨h1,h2|⟨e,x,d,h2,h3⟩⟩:=h
 .exact ⟨h1,.inl h2⟩
 .exact ⟨h1,.inr ⟨e,x,d,(Gh.EJ h2).2,h3⟩⟩
mutual
def dD(os:List Nat):T->Bool
 | .ptr o _=>os.contains o
 | .kA o _ _ _=>os.contains o
 | .sh o _=>os.contains o
 | .mp o=>os.contains o
 | .ry o=>os.contains o
 | .ru o=>os.contains o
 | .fn _ a b=>iL os a||iL os b
 | .cR _ v=>dD os v
 | .agg d=>iL os d
 | .gm d=>iL os d
 | .gd _ v=>dD os v
 | .qd o m _ _=>os.contains o||os.contains m
 |_=>J
def iL(os:List Nat):List T->Bool
 |[]=>J
 |v::l=>dD os v||iL os l
end
def oF{os:List Nat}:∀{l:List T},iL os l=J->∀t∈l,dD os t=J
 |[],_,t,b=>by cases b
 |a::l,h,t,b=>by
  simp only[iL,vL]at h;rcases eR.1 b with rfl|b
  .exact h.1
  .exact oF h.2 t b
def aK.drop{os:List Nat}{t:T}{v:Value}(h:aK g w t v)(l:dD os t=J):aK (g.drop os) w t v:=by
 induction h with
 |sym d v q=>exact .sym d v q
 |kb b=>exact .kb b
 |kn k n=>exact .kn k n
 |ptr o off b h=>exact .ptr o off b h
 |mD d off y val hi z q=>exact .mD d off y val hi z q
 |kA o e i off len cap sz y h=>simp only[dD,yp,KS]at l;exact .kA o e i off len cap sz y (by simp only[Gh.drop,br l];exact h)
 |sh o e len cap sz a h=>simp only[dD,yp,KS]at l;exact .sh o e len cap sz a (by simp only[Gh.drop,br l];exact h)
 |emp a=>exact .emp a
 |jy k H a I q=>exact .jy k H a I q
 |fn f fs s K L u B _ _ p C=>simp only[dD,vL]at l;exact .fn f fs s K L u B (λj t v h1 h2=>p j t v h1 h2 (oF l.1 t (gY h1))) (λj t v h1 h2=>C j t v h1 h2 (oF l.2 t (gY h1)))
 |cR t x v _ p=>exact .cR t x v (p l)
 |agg s G u _ p=>exact .agg s G u (λj t v h1 h2=>p j t v h1 h2 (oF l t (gY h1)))
 |gm s G u _ p=>exact .gm s G u (λj t v h1 h2=>p j t v h1 h2 (oF l t (gY h1)))
 |gd c t v _ p=>exact .gd c t v (λz=>p z l)
 |mp o b h=>exact .mp o b h
 |ry o b h=>exact .ry o b h
 |ru o b h=>exact .ru o b h
 |ub e b h=>exact .ub e b h
 |qd o m r i len cap sz a h=>simp only[dD,vL,yp,KS]at l;exact .qd o m r i len cap sz a (by simp only[Gh.drop,br l.2];exact h)
 |nQ j d c a M q=>exact .nQ j d c a M q
def W7(os:List Nat)(ob b:Ob):Prop:=pV (dD os) ob b
def bh.drop{s q:St}(hs:bh g s w){os:List Nat}(hn:q.aH=s.aH)(k:∀o d,q.ob.get o=Z d->∃ob,s.ob.get o=Z ob∧W7 os ob d):bh (g.drop os) q w:=by
 refine⟨hn▸hs.aH,λo l=>⟨(hs.ai o (hn▸l)).1,λe=>?_⟩,λo b B=>?_,λo e x C=>?_,hs.bA,λo G b h H=>hs.lV o G b (Gh.xw h) (Gh.xw H)⟩
 .simp only[Gh.drop];split
  .rfl
  .exact (hs.ai o (hn▸l)).2 e
 .obtain ⟨h1,h2,h3⟩:=hs.box o b B;refine⟨h1,h2,λd i=>?_⟩;obtain⟨ob,r,u⟩:=k o d i;obtain⟨x,h4,h5⟩:=h3 ob r;exact⟨x,h4,h5.left (λt v I p=>I.drop p) u⟩
 .obtain ⟨l,z⟩:=Gh.EJ C;obtain⟨h1,h2⟩:=hs.arr o e x z;refine⟨h1,λd i=>?_⟩;obtain⟨ob,r,u⟩:=k o d i;refine(h2 ob r).left u (λh=>h.jT rfl) (λm j y p h=>?_) (funext λK=>by simp only[Gh.drop,br l]);simp only[dD,yp,KS]at p;simp only[Gh.drop,br p];exact h
end
end
section
def ghI(I:Nat->Prop):Gh:=⟨λ_=>Y,λ_ _=>Y,I⟩
def XQ(I:Nat->Prop)(w:World)(sz:Nat)(es:List D)(x:fq):Prop:=uV (ghI I) w J sz es x∧x.sz=sz
def adW(S:Sg)(I:Nat->Prop)(w:World)(n j:Nat)(t:Ty)(l:List (S.A n))(a:fq)(rl:List fq):Prop:=
 ∃hl:List Value,hl.length=l.length∧XQ I w (S.width (.st n)) (lits j (l.map (enc S (.st n))) hl) a∧rl.length=l.length∧
  (∀(i:Nat)(y:fq),rl[i]?=Z y->hl[i]?=Z (.slice y.a y.len y.cap))∧(∀(i:Nat)(y:fq)(x:S.A n),rl[i]?=Z y->l[i]?=Z x->XQ I w (S.width t) ((Gi n j t x).map (enc S t)) y)∧Cd S n j t=W
inductive jc(S:Sg)(I:Nat->Prop)(w:World):(cs:List Ck)->gl S.A cs->List Value->List fq->Prop where
 |nil:jc S I w [] () [] []
 |dat {t:Ty} {cs:List Ck} {x:den S.A t} {h:gl S.A cs} {v:Value} {vs:List Value} {al:List fq} (hd:ee I w (enc S t x) v) (hr:jc S I w cs h vs al):jc S I w (.dat t::cs) (x,h) (v::vs) al
 |own {e:Ty} {cs:List Ck} {l:List (den S.A e)} {h:gl S.A cs} {a:fq} {vs:List Value} {al:List fq} (ho:XQ I w (S.width e) (l.map (enc S e)) a) (hr:jc S I w cs h vs al) :
   jc S I w (.own e::cs) (l,h) (.slice a.a a.len a.cap::vs) (a::al)
 |jr {n j:Nat} {t:Ty} {cs:List Ck} {l:List (S.A n)} {h:gl S.A cs} {a:fq} {rl:List fq} {vs:List Value} {al:List fq} (ho:adW S I w n j t l a rl) (hr:jc S I w cs h vs al) :
   jc S I w (.jr n j t::cs) (l,h) (.slice a.a a.len a.cap::vs) (a::(rl++al))
 |nl {e:Ty} {cs:List Ck} {h:gl S.A cs} {a:Option Addr} {vs:List Value} {al:List fq} (hr:jc S I w cs h vs al):jc S I w (.nil e::cs) ([],h) (.slice a 0 0::vs) al
 |ptr {t:Ty} {cs:List Ck} {x:den S.A t} {h:gl S.A cs} {ad:Addr} {val:Nat->Value} {vs:List Value} {al:List fq} (hi:I ad.block) (hc:∀j c,(enc S t x).cells[j]?=Z c->w.cell? (ad.add j)=Z (val j))
   (hd:∀j c,(enc S t x).cells[j]?=Z c->ee I w c (val j)) (hr:jc S I w cs h vs al):jc S I w (.ptr t::cs) (x,h) (.pointer (Z (ad.add 0))::vs) al
inductive AL(g:Gh):List fq->List Nat->Prop where
 |nil:AL g [] []
 |emp {a:fq} {al:List fq} {ow:List Nat} (h:a.cap=0) (hr:AL g al ow):AL g (a::al) ow
 |own {a:fq} {al:List fq} {o e:Nat} {ow:List Nat} (h:g.arr o e=Z a) (hr:AL g al ow):AL g (a::al) (o::ow)
 |rows {rl al:List fq} {m:Nat} {ow:List Nat} (h:∀y∈rl,∃e,g.arr m e=Z y) (hap:rl.Pairwise λx y=>∀b,x.at b->¬y.at b) (hr:AL g al ow):AL g (rl++al) (m::ow)
variable {g:Gh}{al sV:List fq}{ow fz:List Nat}{s:bq S}{w:World}{I:Nat->Prop}{a:fq}{b n j o:Nat}{t τ:Ty}{cs:List Ck}{vs:List Value}{c:Ck}{h:Obj}{v:Value}{ob:vX S}{k:Bk}{nx nb:Option Nat}
def AL.append{b:List Nat}(h:AL g al ow)(i:AL g sV b):AL g (al++sV) (ow++b):=by
 induction h with|nil=>exact i|emp h _ d=>exact .emp h d|own h _ d=>exact .own h d|rows h e _ d=>rw[p8];exact .rows h e d
def uU(al:List fq):Prop:=al.Pairwise λx y=>∀b,x.at b->¬y.at b
def AL.owned(h:AL g al ow)(hi:∀a∈al,∀b,a.at b->¬g.bA b):∀a∈al,∀b,a.at b->∃o∈ow,bM g o b:=by
 induction h with
 |nil=>intro a d;cases d
 |emp h _ j=>
  intro a d b i;rcases eR.1 d with rfl|d
  .exact absurd h i.choose_spec.2.2
  .exact j (λa d=>hi a (gJ _ d)) a d b i
 |own h _ j=>
  intro a d b i;rcases eR.1 d with rfl|d
  .obtain ⟨k,h1,h2,h3⟩:=i;exact⟨_,ez,hi _ ez b ⟨k,h1,h2,h3⟩,.inr ⟨_,_,k,h,h1,h2,h3⟩⟩
  .obtain ⟨o,l,m⟩:=j (λa d=>hi a (gJ _ d)) a d b i;exact⟨o,gJ _ l,m⟩
 |rows h _ _ j=>
  intro a d b i;rcases dY.1 d with d|d
  .obtain ⟨e,p⟩:=h a d;obtain⟨k,h1,h2,h3⟩:=i;exact⟨_,ez,hi _ (eH _ d) b ⟨k,h1,h2,h3⟩,.inr ⟨_,_,k,p,h1,h2,h3⟩⟩
  .obtain ⟨o,l,m⟩:=j (λa d=>hi a (iS _ d)) a d b i;exact⟨o,gJ _ l,m⟩
def AL.apart{s:St}(hs:bh g s w)(h:AL g al ow)(hn:ow.Nodup)(hi:∀a∈al,∀b,a.at b->¬g.bA b):uU al:=by
 induction h with
 |nil=>exact .nil
 |emp h p l=>refine .cons (λa d b m=>absurd h m.choose_spec.2.2) (l hn (λa d=>hi a (gJ _ d)))
 |own h p l=>rw[GY]at hn;refine .cons (λa d b m j=>?_) (l hn.2 (λa d=>hi a (gJ _ d)));obtain⟨u,k,i⟩:=p.owned (λa d=>hi a (gJ _ d)) a d b j;obtain⟨q,h1,h2,h3⟩:=m;have r:bM g _ b:=⟨i.1,.inr ⟨_,_,q,h,h1,h2,h3⟩⟩;have:=hs.lV _ _ b r i;subst this;exact hn.1 k
 |rows h t p l=>rw[GY]at hn;refine rK.2 ⟨t,l hn.2 (λa d=>hi a (iS _ d)),λy v a d b m j=>?_⟩;obtain⟨e,z⟩:=h y v;obtain⟨u,k,i⟩:=p.owned (λa d=>hi a (iS _ d)) a d b j;obtain⟨q,h1,h2,h3⟩:=m;have r:bM g _ b:=⟨i.1,.inr ⟨_,_,q,z,h1,h2,h3⟩⟩;have:=hs.lV _ _ b r i;subst this;exact hn.1 k
def l5:∀{l:List Nat},rU l=W->l.Nodup
 |[],_=>.nil
 |a::l,h=>by simp only[rU,dR,Dp,yp,KS]at h;exact GY.2 ⟨h.1,l5 h.2⟩
def xF{l m:List Nat}(h:AH l m=W):∀o∈l,o∉m:=by intro o b;simp only[AH,eA,Dp,yp,KS]at h;exact h o b
def XQ.at_{I:Nat->Prop}{w:World}{sz:Nat}{es:List D}{a:fq}(h:XQ I w sz es a){b:Nat}(d:a.at b):¬I b∧b<w.heap.size:=by obtain⟨h1,vs,ty,_,h3⟩:=h.1.at_ d;exact⟨λhi=>Bool.noConfusion (h1.2 hi),(IU.1 h3).1⟩
def adW.at_{I:Nat->Prop}{w:World}{n j:Nat}{t:Ty}{l:List (S.A n)}{a:fq}{rl:List fq}(h:adW S I w n j t l a rl):∀y∈a::rl,∀b,y.at b->¬I b∧b<w.heap.size:=by
 obtain⟨g,_,h2,h3,_,h5,_⟩:=h;intro y d b e;rcases eR.1 d with rfl|d
 .exact h2.at_ e
 .obtain ⟨i,hi⟩:=Hf d;have:i<l.length:=by rw[<-h3];exact aF hi
  exact(h5 i y _ hi (fP this)).at_ e
def jc.at_{I:Nat->Prop}{w:World}{cs:List Ck}{x:gl S.A cs}{vs:List Value}{al:List fq}(h:jc S I w cs x vs al):∀a∈al,∀b,a.at b->¬I b∧b<w.heap.size:=by
 induction h with
 |nil=>intro a d;cases d
 |dat _ _ e=>exact e
 |own i _ e=>
  intro a d b g;rcases eR.1 d with rfl|d
  .exact i.at_ g
  .exact e a d b g
 |jr i _ e=>
  intro a d b g;rw[<-List.cons_append]at d;rcases dY.1 d with d|d
  .exact i.at_ a d b g
  .exact e a d b g
 |nl _ e=>exact e
 |ptr _ _ _ _ e=>exact e
def jc.iJ{x:gl S.A cs}(h:jc S I w cs x vs al):∀a∈al,∀b,a.at b->¬I b:=λa d b e=>(h.at_ a d b e).1
def jc.lt{x:gl S.A cs}(h:jc S I w cs x vs al):∀a∈al,∀b,a.at b->b<w.heap.size:=λa d b e=>(h.at_ a d b e).2
def jc.append{x:den S.A c.ty}{h:gl S.A cs}(h1:jc S I w [c] (x,()) [v] al)(h2:jc S I w cs h vs sV) :
  jc S I w (c::cs) (x,h) (v::vs) (al++sV):=by
 cases h1 with
 |dat d b=>cases b;exact .dat d h2
 |own e b=>cases b;exact .own e h2
 |jr e b=>cases b;rw[iT,List.cons_append];exact .jr e h2
 |nl b=>cases b;exact .nl h2
 |ptr hi g d b=>cases b;exact .ptr hi g d h2
def oc{x:den S.A t}(h:ee g.bA w (enc S t x) v):aK g w (eD S t x) v:=by
 cases t with
 |st n=>
  cases h with|agg cs vs b hf e=>refine .agg _ vs (by simpa using b) λj t v h1 h2=>?_;rw[gK,eC]at h1;obtain⟨d,i,rfl⟩:=h1;exact .sym _ _ (e j d v i h2)
 |_=>exact .sym _ _ h
def Tr.dc{α:Type}:∀(n:Nat)(t:Tr α)(k j:Nat)(x:α),j≠k->(Tr.set n t k x).get j=t.get j
 |0,_,_,_,_,_=>rfl
 |n+1,t,0,j,x,h=>by
  cases j with
  |zero=>exact absurd rfl h
  |succ j=>
   cases t with|nil=>rw[Tr.yb,Tr.cO,Tr.get_nil,Tr.get_nil];split<;>rfl|node v l r=>rw[Tr.v8,Tr.cO,Tr.cO]
 |n+1,t,k+1,j,x,h=>by
  cases t with
  |nil=>
   rw[Tr.nC];cases j with
   |zero=>split<;>rw[Tr.fL,Tr.get_nil]
   |succ j=>
    by_cases d:k%2=0
    .rw[bJ d,Tr.cO,Tr.get_nil,Tr.get_nil];by_cases b:j%2=0
     .rw[bJ b,Tr.dc n _ _ _ _ (by omega),Tr.get_nil]
     .rw[br b]
    .rw[br d,Tr.cO,Tr.get_nil,Tr.get_nil];by_cases b:j%2=0
     .rw[bJ b]
     .rw[br b,Tr.dc n _ _ _ _ (by omega),Tr.get_nil]
  |node v l r=>
   rw[Tr.mq];cases j with
   |zero=>split<;>rw[Tr.fL,Tr.fL]
   |succ j=>
    by_cases d:k%2=0
    .rw[bJ d,Tr.cO,Tr.cO];by_cases b:j%2=0
     .rw[bJ b,bJ b,Tr.dc n _ _ _ _ (by omega)]
     .rw[br b,br b]
    .rw[br d,Tr.cO,Tr.cO];by_cases b:j%2=0
     .rw[bJ b,bJ b]
     .rw[br b,br b,Tr.dc n _ _ _ _ (by omega)]
def OZ:vX S->Bool
 | .arr ..|.kj ..|.rws ..=>W
 |_=>J
def sx(h:OZ ob=W):(cQ ob).oJ=W:=by cases ob<;>first|rfl|cases h
def DW{nj:Nat}:∀{es:List D}{hU:List (List D)}{hl:List Value},es.length<=hU.length->lits nj (iV nj es hU) hl=lits nj es hl
 |[],hU,hl,_=>by simp[iV,lits]
 |d::es,[],hl,h=>by simp at h
 |d::es,rs::hU,[],_=>by simp[iV,lits]
 |d::es,rs::hU,v::hl,h=>by have:=DW (nj:=nj) (es:=es) (hU:=hU) (hl:=hl) (by simpa using h);simp only[lits,iV]at this;simp only[lits,iV,List.zipWith_cons_cons,this,iN,yV,D.cells,List.set_set]
def HE:∀{ts:List Ty}{h:lu S.A ts}{j:Nat}{t:Ty}{y:den S.A t},nth ts j=Z t->cL ts (Cb ts h j t y) j t=y
 |[],_,_,_,_,h=>by simp[nth]at h
 | τ::ts,h,0,t,y,e=>by simp only[nth,bg]at e;subst e;simp only[cL,Cb,ur]
 | τ::ts,h,j+1,t,y,e=>by simp only[nth]at e;simp only[cL,Cb,HE e]
def SN(b:fh S)(d:Cd S n j t=W)(x:S.A n)(y:List (den S.A t)):Gi n j t (Rz n j t x y)=y:=by rw[Gi,Rz,b.ud,HE (EV d)]
def Bo(hS:fh S)(hs:bh g (aG s) w){v:V S}{val:Value}{x:den S.A c.ty}(h:lK s c v=Z (x,fz,ow))(X:aK g w (low v) val) :
  (∀o∈fz,Live g (aG s) o)∧(∀o∈ow,s.fl<=o∧s.lo<=o∧o<s.aH∧∃ob,s.ob.get o=Z ob∧OZ ob=W)∧∀(C:Gh)(I:St)(B:List Nat),bh C I w->Ext s.fl g w C w->jC (aG s) I B->(∀o∈fz,o∈B)->(∀o∈ow,I.ob.get o=(aG s).ob.get o)->
   ∃al,jc S C.bA w [c] (x,()) [val] al∧AL C al ow:=by
 cases c with
 |dat t=>
  simp only[lK]at h;split at h
  .rename_i y os hy;simp only[bg,bC]at h;obtain⟨rfl,rfl,rfl⟩:=h;obtain⟨p,hd,hp⟩:=od hS s t v hy;obtain⟨h1,h2⟩:=kF hs (low v) hd hp X;refine⟨h1,λo d=>(by cases d),λC I B q he hf u _=>⟨[],.dat ?_ .nil,.nil⟩⟩;exact h2 C I q he (hf.sub u)
  .cases h
 |nil e=>
  cases v with
  |emp=>
   simp only[lK,bg,bC]at h;obtain⟨rfl,rfl,rfl⟩:=h;cases X with|emp a=>exact⟨λo d=>(by cases d),λo d=>(by cases d),λC I B q he hf u _=>⟨[],.nl .nil,.nil⟩⟩
  |_=>simp[lK]at h
 |ptr t=>simp[lK]at h
 |own e=>
  cases v with
  |emp=>
   simp only[lK]at h;rcases af h with⟨K,h⟩|⟨_,h⟩
   .simp only[bg,bC]at h;obtain⟨rfl,rfl,rfl⟩:=h;have hpos:1<=S.width e:=fQ K;cases X with
    |emp a=>
    refine⟨λo d=>(by cases d),λo d=>(by cases d),λC I B q he hf u _=>⟨[⟨a,0,0,S.width e⟩],?_,.emp rfl .nil⟩⟩;refine jc.own (a:=⟨a,0,0,S.width e⟩) ⟨⟨rfl,bP _,by simp,by omega,by simp,λ_=>rfl,λh=>absurd rfl h⟩,rfl⟩ .nil
   .cases h
  |sh o r=>
   simp only[lK]at h;split at h
   .rename_i t l era d;rcases af h with⟨K,L⟩|⟨_,L⟩
    .clear h;split at L
     .rename_i l' hl;obtain⟨rfl,hh⟩:=eW hl;cases hh;simp only[dR]at K;have Zj:=beq_iff'.1 K.1;subst Zj;simp only[bg,bC]at L;obtain⟨rfl,rfl,rfl⟩:=L;cases X with
      |sh _ _ len cap sz a hx=>
      have M:=hs.lt' hx;refine⟨λo d=>(by cases d),λk hk=>?_,λC I B q he hf u z=>?_⟩
      .rw[kX]at hk;subst hk;exact⟨fQ K.2.1,fQ K.2.2,M,_,d,rfl⟩
      .have O:=he.arr _ _ _ hx;have SA:I.ob.get o=Z (fB J (S.width t) (l.map (enc S t)) r):=by rw[z o (by simp),aY,d];rfl
       obtain⟨hok,hsz⟩:=q.m9 SA O;exact⟨[_],jc.own ⟨hok.jT rfl,hsz⟩ .nil,.own O .nil⟩
     .cases L
    .cases L
   .cases h
  |_=>simp[lK]at h
 |jr n j t=>
  cases v with
  |emp=>
   simp only[lK]at h;rcases af h with⟨K,h⟩|⟨_,h⟩
   .simp only[bg,bC]at h;obtain⟨rfl,rfl,rfl⟩:=h;simp only[dR]at K;have hpos:1<=S.width (.st n):=fQ K.1;cases X with
    |emp a=>
    refine⟨λo d=>(by cases d),λo d=>(by cases d),λC I B q he hf u _=>⟨[⟨a,0,0,S.width (.st n)⟩],?_,.emp rfl .nil⟩⟩;exact jc.jr (a:=⟨a,0,0,S.width (.st n)⟩) (rl:=[]) ⟨[],rfl,⟨⟨rfl,bP _,by simp[lits],by omega,by simp[lits],λ_=>rfl,λh=>absurd rfl h⟩,rfl⟩,rfl,by simp,by simp,K.2.1⟩ .nil
   .cases h
  |sh o r=>
   simp only[lK]at h;split at h;rotate_left
   .cases h
   rename_i n' j' l era m H d;split at h;rotate_left
   .cases h
   rename_i U G hrw;rcases af h with⟨K,L⟩|⟨_,L⟩;rotate_left
   .cases L
   clear h;simp only[dR]at K;obtain⟨b1,b2,b3,b4,b5,b6,b7,b8,b9⟩:=K;have Zj:=beq_iff'.1 b1;subst Zj;have hjj:=beq_iff'.1 b2;subst hjj;have htt:=fE b9;subst htt;split at L;rotate_left
   .cases L
   rename_i l' hl;obtain⟨e1,hh⟩:=eW hl;cases e1;cases hh;simp only[bg,bC]at L;obtain⟨rfl,rfl,rfl⟩:=L;have amf:m<s.aH:=fQ b7;cases X with
   |sh _ _ len cap sz a hx=>
   have M:=hs.lt' hx;obtain⟨szm,hm⟩:=nY (yc hrw);obtain⟨obm,alV,af9⟩:∃ob,s.ob.get m=Z ob∧OZ ob=W:=by
    cases hq:s.ob.get m with
    |none=>rw[aY,hq]at hm;cases hm
    |some ob=>
     rw[aY,hq]at hm;cases ob<;>first|exact⟨_,rfl,rfl⟩|cases hm
   refine⟨λo d=>(by cases d),λk hk=>?_,λC I B q he hf u z=>?_⟩
   .simp only[eR,List.not_mem_nil,or_false]at hk;rcases hk with rfl|rfl
    .exact ⟨fQ b3,fQ b4,M,_,d,rfl⟩
    .exact ⟨fQ b5,fQ b6,amf,obm,alV,af9⟩
   .have O:=he.arr _ _ _ hx;have SA:I.ob.get o=Z (.kj j (S.width (.st n)) (l.map (enc S (.st n))) r m H Y):=by rw[z o (by simp),aY,d];rfl
    have hm1:I.ob.get m=Z (.rws szm (G.map (·.map (enc S U))) H):=by rw[z m (by simp),hm]
    have Zg:szm=S.width U:=by
     have h1:=hrw;unfold KH at h1;split at h1
     .rename_i t0 aiZ r0 hq;rcases af h1 with⟨_,h1⟩|⟨_,h1⟩
      .cases h1;rw[aY,hq]at hm;cases hm;rfl
      .cases h1
     .cases h1
    obtain⟨q1,q2,q3,q4⟩:=q.z6 SA O;obtain⟨hl0,q5,q6,q7⟩:=q4 rfl;simp only[Dn]at q5;have hrow:∀i,i<l.length->∃y rs,C.arr m (rc H i)=Z y∧hl0[i]?=Z (.slice y.a y.len y.cap)∧G[i]?=Z rs∧uV C w J (S.width U) (rs.map (enc S U)) y∧y.sz=S.width U:=by intro i hi;obtain⟨y,hy,X⟩:=q7.2 i _ (fP (by omega)) (by simp);obtain⟨k1,rs,k2,k3⟩:=(q.om hm1 hy).2.2 i rfl;rw[gK,eC]at k2;obtain⟨rs0,k4,rfl⟩:=k2;exact⟨y,rs0,hy,by rw[<-X];exact fP _,k4,Zg▸k3,Zg▸k1⟩
    have hex:∀i:Nat,∃y:fq,i<l.length->∃rs,C.arr m (rc H i)=Z y∧hl0[i]?=Z (.slice y.a y.len y.cap)∧G[i]?=Z rs∧uV C w J (S.width U) (rs.map (enc S U)) y∧y.sz=S.width U:=λi=>by
     by_cases hi:i<l.length
     .obtain ⟨y,rs,h⟩:=hrow i hi;exact⟨y,λ_=>⟨rs,h⟩⟩
     .exact ⟨⟨Y,0,0,0⟩,λh=>absurd h hi⟩
    obtain⟨ys,R⟩:=RJ hex;have cL:∀(i:Nat)(y:fq),((List.range l.length).map ys)[i]?=Z y->i<l.length∧y=ys i:=λi y h=>by rw[gK,eC]at h;obtain⟨k,hk,rfl⟩:=h;obtain⟨rfl,hlt⟩:=ou hk;exact⟨hlt,rfl⟩
    have hrl:l.length<=G.length:=by
     rcases yx G.length l.length with h|h
     .obtain ⟨_,rs,_,_,k,_⟩:=hrow G.length h;have:=aF k;omega
     .exact h
    have hlen:(iW n j U l G).length=l.length:=by simp[iW];omega
    refine⟨_,jc.jr (a:=⟨a,len,cap,sz⟩) (rl:=(List.range l.length).map ys) ⟨hl0,by rw[hlen];exact q5,⟨?_,q1⟩,by rw[hlen];simp,λi y hi=>?_,λi y x hi hx=>?_,b8⟩ .nil,?_⟩
    .rw[yT hS b8,DW (by simpa using hrl)];exact q6.jT rfl
    .obtain ⟨h1,rfl⟩:=cL i y hi;obtain⟨_,_,h2,_⟩:=R i h1;exact h2
    .obtain ⟨h1,rfl⟩:=cL i y hi;obtain⟨rs,_,_,h3,h4,h5⟩:=R i h1;have hxx:x=Rz n j U (l[i]) rs:=by simp only[iW,IT,h3,fP h1,bg]at hx;exact hx.symm
     rw[hxx,SN hS b8];exact⟨h4.jT rfl,h5⟩
    .refine .own O ?_;refine .rows (λy hy=>?_) ?_ .nil
     .obtain ⟨i,hi⟩:=Hf hy;obtain⟨h1,rfl⟩:=cL i y hi;obtain⟨_,h2,_⟩:=R i h1;exact⟨_,h2⟩
     .refine RK.2 λi1 i2 l1 l2 hlt b Jm qg=>?_;obtain⟨h1,e1⟩:=cL i1 _ (fP l1);obtain⟨h2,e2⟩:=cL i2 _ (fP l2);rw[e1]at Jm;rw[e2]at qg;obtain⟨_,k1,_⟩:=R i1 h1;obtain⟨_,k2,_⟩:=R i2 h2;exact(q.om hm1 k1).2.1 i1 i2 _ _ (by omega) k1 k2 b Jm qg
  |_=>simp[lK]at h
def gk(B:fh S){g:Gh}{w:World}{s:bq S}(hs:bh g (aG s) w):∀{cs:List Ck}{l:List (V S)}{vals:List Value}{x:gl S.A cs}{fz ow:List Nat},gL s cs l=Z (x,fz,ow)->PW (aK g w) (bn l) vals->
  (∀o∈fz,Live g (aG s) o)∧(∀o∈ow,s.fl<=o∧s.lo<=o∧o<s.aH∧∃ob,s.ob.get o=Z ob∧OZ ob=W)∧∀(p:Gh)(q:St)(e:List Nat),bh p q w->Ext s.fl g w p w->jC (aG s) q e->(∀o∈fz,o∈e)->(∀o∈ow,q.ob.get o=(aG s).ob.get o)->
   ∃al,jc S p.bA w cs x vals al∧AL p al ow
 |[],[],vals,x,fz,ow,h,k=>by simp only[gL,bg,bC]at h;obtain⟨_,rfl,rfl⟩:=h;have:vals=[]:=td (by have:=k.1;simpa[bn]using this.symm);subst this;exact⟨λo d=>(by cases d),λo d=>(by cases d),λ_ _ _ _ _ _ _ _=>⟨[],.nil,.nil⟩⟩
 |c::cs,v::l,vals,x,fz,ow,h,k=>by
  simp only[gL]at h;split at h
  .rename_i x1 a1 b1 h1 a2 b2 G H;simp only[bg,bC]at h;obtain⟨rfl,rfl,rfl⟩:=h
   match vals,k with
   |val::vals,k=>have t:aK g w (low v) val:=k.2 0 _ _ rfl rfl;have u:PW (aK g w) (bn l) vals:=⟨by have:=k.1;simpa[bn]using this,λj a b y z=>k.2 (j+1) a b (by simpa[bn]using y) (by simpa using z)⟩;obtain⟨I,K,L⟩:=Bo B hs G t;obtain⟨M,O,R⟩:=gk B hs H u;refine⟨λo d=>(dY.1 d).elim (I o) (M o),λo d=>(dY.1 d).elim (K o) (O o),λp q e r C hf m i=>?_⟩;obtain⟨U,y,z⟩:=L p q e r C hf (λo d=>m o (eH _ d)) (λo d=>i o (eH _ d));obtain⟨X,k3,k4⟩:=R p q e r C hf (λo d=>m o (iS _ d)) (λo d=>i o (iS _ d));exact⟨_,y.append k3,z.append k4⟩
   |[],k=>exact absurd k.1 (by simp[bn])
  .cases h
 |[],_::_,_,_,_,_,h,_=>by simp[gL]at h
 |_::_,[],_,_,_,_,h,_=>by simp[gL]at h
structure Tp(g:Gh)(s:bq S)(w:World)(al:List fq)(g':Gh)(s':bq S):Prop where
 rel:bh g' (aG s') w
 le:nW g g'
 bA:g'.bA=g.bA
 own:∀k b,bM g' k b->bM g k b∨(s.aH<=k∧∃a∈al,a.at b)
 fl:s'.fl=s.fl
 lo:s'.lo=s.lo
 aH:s.aH<=s'.aH
 wr:s'.wr=s.wr
 dr:s'.dr=s.dr
 ob:∀o,o<s.aH->s'.ob.get o=s.ob.get o
 cg:g'.cg=g.cg
 arr:∀o,o<s.aH->∀e,g'.arr o e=g.arr o e
def Tp.refl{g:Gh}{s:bq S}{w:World}(h:bh g (aG s) w):Tp g s w [] g s:=
 ⟨h,nW.refl _,rfl,λ_ _ h=>.inl h,rfl,rfl,bP _,rfl,rfl,λ_ _=>rfl,rfl,λ_ _ _=>rfl⟩
def Tp.trans{g g' d:Gh}{s s' i:bq S}{w:World}{al sV:List fq}(h:Tp g s w al g' s')(k:Tp g' s' w sV d i):Tp g s w (al++sV) d i where
 rel:=k.rel
 le:=h.le.trans k.le
 bA:=k.bA.trans h.bA
 own o b j:=by
  rcases k.own o b j with j|⟨h1,a,h2,h3⟩
  .rcases h.own o b j with j|⟨h1,a,h2,h3⟩
   .exact .inl j
   .exact .inr ⟨h1,a,eH _ h2,h3⟩
  .exact .inr ⟨fC h.aH h1,a,iS _ h2,h3⟩
 fl:=k.fl.trans h.fl
 lo:=k.lo.trans h.lo
 aH:=fC h.aH k.aH
 wr:=k.wr.trans h.wr
 dr:=k.dr.trans h.dr
 ob o l:=(k.ob o (dy l h.aH)).trans (h.ob o l)
 cg:=k.cg.trans h.cg
 arr o l e:=(k.arr o (dy l h.aH) e).trans (h.arr o l e)
def PK(s:bq S)(c:Ck)(x:den S.A c.ty):s.aH<=(tB s c x).2.aH:=by cases c with|dat t=>exact bP _|own e=>exact Du _|jr n j t=>exact Nat.le_succ_of_le (Du _)|nil e=>exact bP _|ptr t=>exact bP _
def mF:∀(cs:List Ck)(s:bq S)(x:gl S.A cs),s.aH<=(gI s cs x).2.aH
 |[],_,_=>bP _
 |c::cs,s,x=>fC (PK s c x.1) (mF cs _ x.2)
def lW:∀{cs:List Ck}{x:gl S.A cs}{vals:List Value}{al:List fq}{g:Gh}{w:World}{s:bq S},jc S g.bA w cs x vals al->bh g (aG s) w->(∀a∈al,∀b,a.at b->∀o,¬bM g o b)->uU al->
  (gI s cs x).2.aH<=bB->∃g',Tp g s w al g' (gI s cs x).2∧PW (aK g' w) (bn (gI s cs x).1) vals:=by
 intro cs
 induction cs with
 |nil=>intro x vals al g w s h hs _ _ _;cases h;exact⟨g,Tp.refl hs,rfl,λj t v h=>by simp[gI,bn]at h⟩
 |cons c cs ih=>
  intro x vals al g w s h hs r p hn;cases h with
  | @dat t _ x h v vs al hd M=>
   obtain⟨g',K,d⟩:=ih M hs r p hn;refine⟨g',K,by simp only[gI,tB,bn,fc];rw[d.1],λj U X z C=>?_⟩;cases j with|zero=>simp only[gI,tB,bn,rM,bg]at z C;subst z;subst C;have:=oc (g:=g) hd;exact this.le K.le|succ j=>exact d.2 j U X (by simpa[gI,tB,bn]using z) (by simpa using C)
  | @nl e _ h a vs al M=>
   obtain⟨g',K,d⟩:=ih M hs r p hn;refine⟨g',K,by simp only[gI,tB,bn,fc];rw[d.1],λj U X z C=>?_⟩;cases j with|zero=>simp only[gI,tB,bn,rM,bg]at z C;subst z;subst C;exact .emp _|succ j=>exact d.2 j U X (by simpa[gI,tB,bn]using z) (by simpa using C)
  | @ptr t _ x h ad val vs al hi hc hd M=>
   obtain⟨g',K,d⟩:=ih M hs r p hn;refine⟨g',K,by simp only[gI,tB,bn,fc];rw[d.1],λj U X z C=>?_⟩;cases j with|zero=>simp only[gI,tB,bn,rM,bg]at z C;subst z;subst C;have:aK g w (low (V.mD t x 0)) (.pointer (Z (ad.add 0))):=.mD _ 0 ad val hi hc hd;exact this.le K.le|succ j=>exact d.2 j U X (by simpa[gI,tB,bn]using z) (by simpa using C)
  | @own e _ l h a vs al ho M=>
   have hb0:=mF cs (dm s (.arr e l 0)) h;have G:s.aH<bB:=by have h1:(dm s (.arr e l 0)).aH=s.aH+1:=rfl;have h2:(gI (dm s (.arr e l 0)) cs h).2.aH<=bB:=hn;omega
   have hall:=M.iJ;have af0:∀b,a.at b->b<w.heap.size∧∀o,¬bM g o b:=λb B=>⟨(jc.own (S:=S) ho M).lt a ez b B,r a ez b B⟩;obtain⟨z,C,k3⟩:=hs.WO G (sz:=S.width e) (es:=l.map (enc S e)) (x:=a) af0 (ho.1.jT rfl) ho.2;have hst:(ef (aG s) (Ob.arr (S.width e) (l.map (enc S e)) 0)).2=aG (dm s (.arr e l 0)):=(gp s (.arr e l 0)).symm;have e0:(aG s).aH=s.aH:=rfl;rw[hst,e0]at z;rw[e0]at C k3;rw[uU,List.pairwise_cons]at p;obtain⟨g',K,d⟩:=ih (g:=g.era s.aH 0 a) (s:=dm s (.arr e l 0)) M z (λy L b B o q=>by
    rcases k3 o b q with q|⟨_,H⟩
    .exact r y (gJ _ L) b B o q
    .exact p.1 y L b H B) p.2 hn
   have Kk:Tp g s w [a] (g.era s.aH 0 a) (dm s (.arr e l 0)):=by
    refine⟨z,C,rfl,λk b q=>?_,rfl,rfl,Du _,rfl,rfl,λo hlo=>?_,rfl,λo hlo e'=>Gh.cq _ _ _ _ _ _ (λh=>by omega)⟩
    .rcases k3 k b q with q|⟨h1,h2⟩
     .exact .inl q
     .exact .inr ⟨by omega,a,by simp,h2⟩
    .simp only[dm];rw[Tr.aX _ _ _ _ G,br (by omega)]
   refine⟨g',Kk.trans K,by simp only[gI,tB,bn,fc];rw[d.1],λj U X q1 q2=>?_⟩;cases j with|zero=>simp only[gI,tB,bn,rM,bg]at q1 q2;subst q1;subst q2;have:aK (g.era s.aH 0 a) w (.sh s.aH 0) (.slice a.a a.len a.cap):=.sh _ _ _ _ a.sz _ (Gh.fy _ _ _ _);exact this.le K.le|succ j=>exact d.2 j U X (by simpa[gI,tB,bn]using q1) (by simpa using q2)
  | @jr n j t0 _ l h a I vs al ho M=>
   have hb0:=mF cs (tB s (.jr n j t0) l).2 h;have agc:(tB s (.jr n j t0) l).2.aH=s.aH+2:=rfl;have G:s.aH+1<bB:=by have h2:(gI (tB s (.jr n j t0) l).2 cs h).2.aH<=bB:=hn;omega
   have agA:=ho.at_;obtain⟨hl,p1,p2,p3,p4,p5,p6⟩:=ho;rw[<-List.cons_append]at r p;have O:=(rK.1 p).1;rw[List.pairwise_cons]at O;obtain⟨z,C,k3⟩:=hs.WO (by show s.aH<bB;omega) (sz:=S.width (.st n)) (es:=lits j (l.map (enc S (.st n))) hl) (x:=a) (λb B=>⟨(agA a ez b B).2,r a (by simp) b B⟩) (p2.1.jT rfl) p2.2;have e0:(aG s).aH=s.aH:=rfl;rw[e0]at z C k3;have e1:(ef (aG s) (Ob.arr (S.width (.st n)) (lits j (l.map (enc S (.st n))) hl) 0)).2.aH=s.aH+1:=rfl;obtain⟨r1,r2,r3⟩:=z.adu (by rw[e1];exact G) (sz:=S.width t0) (hU:=(l.map (Gi n j t0)).map (·.map (enc S t0))) (ys:=I)
    (λy L b B=>⟨(agA y (gJ _ L) b B).2,λo q=>by
     rcases k3 o b q with q|⟨_,H⟩
     .exact r y (by simp[L]) b B o q
     .exact O.1 y L b H B⟩)
    (λi y hi=>by
     have u:i<l.length:=by rw[<-p3];exact aF hi
     have hk:=p5 i y _ hi (fP u);exact⟨hk.2,_,by rw[gK,gK,fP u];rfl,hk.1.jT rfl⟩) O.2
   rw[e1]at r1 r2 r3;have R:∀k,(ef (ef (aG s) (Ob.arr (S.width (.st n)) (lits j (l.map (enc S (.st n))) hl) 0)).2 (.rws (S.width t0) ((l.map (Gi n j t0)).map (·.map (enc S t0))) 0)).2.ob.get k=if k=s.aH+1 then Z (.rws (S.width t0) ((l.map (Gi n j t0)).map (·.map (enc S t0))) 0)else if k=s.aH then Z (.arr (S.width (.st n)) (lits j (l.map (enc S (.st n))) hl) 0)else(aG s).ob.get k:=λk=>by show(((aG s).ob.set aJ s.aH _).set aJ (s.aH+1) _).get k=_;rw[Tr.aX _ _ _ _ G,Tr.aX _ _ _ _ (by omega)]
   have hL:Gy ((g.era s.aH 0 a).gD (s.aH+1) I) (s.aH+1) 0 Y hl:=by
    have VD:∀i v,hl[i]?=Z v->∃u:i<I.length,v=.slice (I[i]).a (I[i]).len (I[i]).cap:=λi v hi=>by
     have u:i<I.length:=by rw[p3,<-p1];exact aF hi
     have:=p4 i _ (fP u);rw[hi]at this;exact⟨u,eK this⟩
    refine⟨λi v hi=>let ⟨_,h⟩:=VD i v hi;⟨_,_,_,h⟩,λi v hi _=>?_⟩;have u:i<I.length:=by rw[p3,<-p1];exact aF hi
    refine⟨I[i],by rw[Gh.uF];exact fP u,?_⟩;have:=p4 i _ (fP u);rw[hi]at this;exact eK this
   have u1:=r1.TU (o:=s.aH) (nj:=j) (es:=l.map (enc S (.st n))) (era:=0) (m:=s.aH+1) (gE:=0) (hole:=Y) (hl:=hl) (by omega) (by rw[R,br (by omega),bJ rfl]) (by simpa using p1) hL;have u2:bh ((g.era s.aH 0 a).gD (s.aH+1) I) (aG (tB s (.jr n j t0) l).2) w:=by
    refine u1.V4 rfl λk=>?_;show(aG (dm (dm s (.kj n j l 0 (Nat.succ s.aH) 0 Y)) (.rws t0 (xA n j t0 l) 0))).ob.get k=((ef _ _).2.ob.set aJ s.aH _).get k;rw[gp,gp,Tr.aX _ _ _ _ (by omega),R];show(((aG s).ob.set aJ s.aH _).set aJ (s.aH+1) _).get k=_;rw[Tr.aX _ _ _ _ G,Tr.aX _ _ _ _ (by omega)];by_cases h1:k=s.aH
    .subst h1;rw[br (by omega),bJ rfl,bJ rfl];rfl
    .rw[br h1,br h1,br h1];rfl
   have hle:nW g ((g.era s.aH 0 a).gD (s.aH+1) I):=C.trans ⟨λ_ _ h=>h,r2,λ_ h=>h⟩;obtain⟨g',K,d⟩:=ih (g:=(g.era s.aH 0 a).gD (s.aH+1) I) (s:=(tB s (.jr n j t0) l).2) M u2 (λy L b B o q=>by
    rcases r3 o b q with q|⟨_,y',hy',H⟩
    .rcases k3 o b q with q|⟨_,H⟩
     .exact r y (iS _ L) b B o q
     .exact (rK.1 p).2.2 a (by simp) y L b H B
    .exact (rK.1 p).2.2 y' (by simp[hy']) y L b H B) (rK.1 p).2.1 hn
   have Kk:Tp g s w (a::I) ((g.era s.aH 0 a).gD (s.aH+1) I) (tB s (.jr n j t0) l).2:=by
    refine⟨u2,hle,rfl,λk b q=>?_,rfl,rfl,by rw[agc];omega,rfl,rfl,λo hlo=>?_,rfl,λo hlo e'=>?_⟩
    .rcases r3 k b q with q|⟨h1,y,L,B⟩
     .rcases k3 k b q with q|⟨h1,h2⟩
      .exact .inl q
      .exact .inr ⟨by omega,a,by simp,h2⟩
     .exact .inr ⟨by omega,y,by simp[L],B⟩
    .show ((s.ob.set aJ s.aH _).set aJ (s.aH+1) _).get o=_;rw[Tr.aX _ _ _ _ G,br (by omega),Tr.aX _ _ _ _ (by omega),br (by omega)]
    .rw[Gh.g9 (by omega)];exact Gh.cq _ _ _ _ _ _ (λh=>by omega)
   refine⟨g',by rw[<-List.cons_append];exact Kk.trans K,by have:=d.1;simp only[gI,tB,bn,fc]at this ⊢;rw[this],λj' U X q1 q2=>?_⟩;cases j' with|zero=>simp only[gI,tB,bn,rM,bg]at q1 q2;subst q1;subst q2;have:aK ((g.era s.aH 0 a).gD (s.aH+1) I) w (.sh s.aH 0) (.slice a.a a.len a.cap):=.sh _ _ _ _ a.sz _ (by rw[Gh.g9 (by omega)];exact Gh.fy _ _ _ _);exact this.le K.le|succ j'=>exact d.2 j' U X (by simpa[gI,tB,bn]using q1) (by simpa using q2)
def tE{x:den S.A τ}(h:ee g.bA w (enc S τ x) v):aK g w (eD S τ x) v:=by
 cases τ with
 |st n=>
  cases h with|agg _ vs b hf d=>refine .agg _ _ (by simpa using b) λj t v h1 h2=>?_;simp only[gK,eC]at h1;obtain⟨c,i,rfl⟩:=h1;exact .sym _ _ (d j c v i h2)
 |int k=>exact .sym _ _ h
 |bool=>exact .sym _ _ h
 |str=>exact .sym _ _ h
 |sl e=>exact .sym _ _ h
 |cR n=>exact .sym _ _ h
def PM(b:fh S){x:den S.A τ}(h:aK g w (eD S τ x) v):ee g.bA w (enc S τ x) v:=by
 cases τ with
 |st n=>
  cases h with
  |agg _ vs i l=>
   refine .agg _ _ (by simpa using i) (λc d=>?_) λj c v h1 h2=>?_
   .rw[b.cells]at d;exact gR _ _ (b.leaf n) c d
   .have:=l j (.sym c) v (by simp[h1]) h2;cases this with|sym _ _ h=>exact h
 |int k=>cases h with|sym _ _ h=>exact h
 |bool=>cases h with|sym _ _ h=>exact h
 |str=>cases h with|sym _ _ h=>exact h
 |sl e=>cases h with|sym _ _ h=>exact h
 |cR n=>cases h with|sym _ _ h=>exact h
inductive Cl(S:Sg)(I:Nat->Prop)(w:World)(nb:Option Nat):(k:Bk)->vO S.A k->Obj->List fq->Prop where
 |cells {cs:List Ck} {x:gl S.A cs} {cv:Array Value} {ty:TypeId} {al:List fq} (h:jc S I w cs x cv.toList al):Cl S I w nb (.cells cs) x (.cells cv ty (0,0)) al
 |map {kt vt:Ty} {l:List (den S.A kt×den S.A vt)} {ms:Array MapEntry} {c:Nat} (hl:l.length=ms.size)
   (h:∀(j:Nat)(p:den S.A kt×den S.A vt)(m:MapEntry),l[j]?=Z p->ms[j]?=Z m->ee I w (enc S kt p.1) m.key∧ee I w (enc S vt p.2) m.val):Cl S I w nb (.map kt vt) l (.map ms c) []
 |o7 {x:List UInt8×Nat}:Cl S I w nb .o7 x (.stringIter (bI x.1) x.2) []
 |link {pre post:List Ck} {x:gl S.A pre} {y:gl S.A post} {cv:Array Value} {ty:TypeId} {al sV:List fq} {vp vq:List Value} {b:Nat} (hn:nb=Z b) (hv:cv.toList=vp++([.pointer (Z ⟨b,0,Y⟩)]++vq))
   (h1:jc S I w pre x vp al) (h2:jc S I w post y vq sV):Cl S I w nb (.link pre post) (x,y) (.cells cv ty (0,0)) (al++sV)
def Ja:Bk->Nat->Value
 | .cells _,b=>.pointer (Z ⟨b,0,Y⟩)
 | .map _ _,b=>.map (Z b)
 | .o7,b=>.pointer (Z ⟨b,0,Y⟩)
 | .link _ _,b=>.pointer (Z ⟨b,0,Y⟩)
def Jb{v:V S}(h:BY k v=Z o):v=Sr k o:=by
 cases k with
 |cells cs=>
  cases v with
  |ptr b off=>cases off with|zero=>simp only[BY,bg]at h;subst h;rfl|succ=>simp[BY]at h
  |_=>simp[BY]at h
 |map kt vt=>cases v<;>simp[BY]at h;subst h;rfl
 |o7=>cases v<;>simp[BY]at h;subst h;rfl
 |link pre post=>
  cases v with
  |ptr b off=>cases off with|zero=>simp only[BY,bg]at h;subst h;rfl|succ=>simp[BY]at h
  |_=>simp[BY]at h
def LK(h:g.cg o=Z b):aK g w (low (Sr k o:V S)) (Ja k b):=by cases k with|cells cs=>exact .ptr o 0 b h|map kt vt=>exact .mp o b h|o7=>exact .ru o b h|link pre post=>exact .ptr o 0 b h
def DZ(h:aK g w (low (Sr k o:V S)) v):∃b,g.cg o=Z b∧v=Ja k b:=by
 cases k with
 |cells cs=>cases h with|ptr _ _ b d=>exact⟨b,d,rfl⟩
 |map kt vt=>cases h with|mp _ b d=>exact⟨b,d,rfl⟩
 |o7=>cases h with|ru _ b d=>exact⟨b,d,rfl⟩
 |link pre post=>cases h with|ptr _ _ b d=>exact⟨b,d,rfl⟩
def rO:vX S->Bool
 | .arr ..|.jX ..|.kj ..|.rws ..|.gone=>J
 |_=>W
def mK(h:rO ob=W):(cQ ob).oJ=J:=by cases ob<;>first|rfl|(simp[rO]at h)
def Ls{e:Nat}{x:fq}(h:rO ob=W)(b:s7 g w o e x (cQ ob)):False:=by have:=b.oJ;rw[mK h]at this;cases this
def OP{kt vt b d:Ty}{l:List (den S.A kt×den S.A vt)}{e:List (den S.A b×den S.A d)}(h:BH kt vt b d l=Z e):∃(h1:kt=b)(h2:vt=d),e=h1▸h2▸l:=by
 unfold BH at h;split at h
 .split at h
  .simp only[bg]at h;exact⟨fE ‹_›,fE ‹_›,h.symm⟩
  .cases h
 .cases h
def pH(hS:fh S)(hs:bh g (aG s) w)(hb:g.cg o=Z b){x:vO S.A k}(h:j8 s k (s.ob.get o)=Z (x,fz,ow,nx)) :
  (∃ob,s.ob.get o=Z ob∧rO ob=W)∧∃M,w.heap[b]?=Z M∧
  (∀o∈fz,Live g (aG s) o)∧(∀o∈ow,s.fl<=o∧s.lo<=o∧o<s.aH∧∃ob,s.ob.get o=Z ob∧OZ ob=W)∧∀(y:Gh)(G:St)(r:List Nat),bh y G w->Ext s.fl g w y w->jC (aG s) G r->(∀o∈fz,o∈r)->(∀o∈ow,G.ob.get o=(aG s).ob.get o)->
   ∀nb,(∀o',nx=Z o'->∃b',nb=Z b'∧y.cg o'=Z b')->∃al,Cl S y.bA w nb k x M al∧AL y al ow:=by
 cases i:s.ob.get o with
 |none=>rw[i]at h;cases k<;>simp[j8]at h
 |some ob=>
 rw[i]at h;obtain⟨M,hh,H⟩:=(hs.box o b hb).2.2 (cQ ob) (by rw[aY,i];rfl);cases k with
 |cells cs=>
  cases ob with
  |box vs=>
   refine⟨⟨_,rfl,rfl⟩,M,hh,?_⟩;cases H with
   |box _ z ty O H=>
   simp only[j8]at h;split at h;rotate_left
   .cases h
   rename_i y1 a1 b1 Sy;simp only[bg,bC]at h;obtain⟨rfl,rfl,rfl,rfl⟩:=h;obtain⟨p1,p2,p3⟩:=gk hS hs Sy (vals:=z.toList) ⟨by simpa using O,λj t v q u=>H j t v q (by simpa using u)⟩;refine⟨p1,p2,λy G r a b c d e nb _=>?_⟩;obtain⟨al,q,u⟩:=p3 y G r a b c d e;exact⟨al,.cells q,u⟩
  |_=>simp[j8]at h
 |link pre post=>
  cases ob with
  |box vs=>
   refine⟨⟨_,rfl,rfl⟩,M,hh,?_⟩;cases H with
   |box _ z ty O H=>
   simp only[j8]at h;split at h;rotate_left
   .cases h
   rename_i x1 a1 b1 o1 y1 a2 b2 e1 e2 e3;simp only[bg,bC]at h;obtain⟨rfl,rfl,rfl,rfl⟩:=h;rw[bK]at e1 e2 e3;have R:vs.length=z.toList.length:=by rw[<-eS];simpa using O
   have U:∀j t v,vs[j]?=Z t->z.toList[j]?=Z v->aK g w (low t) v:=λj t v q u=>H j _ v (by rw[ga,gK,q];rfl) (by simpa using u);have hpre:PW (aK g w) (bn (vs.take pre.length)) (z.toList.take pre.length):=by
    refine⟨by rw[eS];simp[R],λj t v q u=>?_⟩;rw[ga,gK,eC]at q;obtain⟨t',q,rfl⟩:=q;rw[vK]at q u;split at q
    .rename_i hj;rw[bJ hj]at u;exact U j t' v q u
    .cases q
   have X:PW (aK g w) (bn (vs.drop (Nat.succ pre.length))) (z.toList.drop (Nat.succ pre.length)):=by refine⟨by rw[eS];simp[R],λj t v q u=>?_⟩;rw[ga,gK,eC]at q;obtain⟨t',q,rfl⟩:=q;rw[Dr]at q u;exact U _ t' v q u
   rw[jq]at e2;have hlt:pre.length<z.toList.length:=by rw[<-R];exact(tc.1 e2).1
   have B:=U pre.length _ _ e2 (fP hlt);simp only[low]at B;generalize hvm:z.toList[pre.length]=vm at B;cases B with
   |ptr _ _ b2 qg=>
   have I:z.toList=z.toList.take pre.length++([.pointer (Z ⟨b2,0,Y⟩)]++z.toList.drop (Nat.succ pre.length)):=by have h1:=(Lh pre.length z.toList).symm;rw[Qj hlt,hvm]at h1;simpa using h1
   obtain⟨p1,p2,p3⟩:=gk hS hs e1 hpre;obtain⟨q1,q2,q3⟩:=gk hS hs e3 X;refine⟨λo i=>(dY.1 i).elim (p1 o) (q1 o),λo i=>(dY.1 i).elim (p2 o) (q2 o),λy G r K he hf L C nb hnb=>?_⟩;obtain⟨zo,q,u⟩:=p3 y G r K he hf (λo i=>L o (eH _ i)) (λo i=>C o (eH _ i));obtain⟨zI,k3,k4⟩:=q3 y G r K he hf (λo i=>L o (iS _ i)) (λo i=>C o (iS _ i));obtain⟨b',Jm,hb3⟩:=hnb _ rfl;have:b'=b2:=eK (hb3.symm.trans (he.cg _ _ qg));subst this;exact⟨_,.link Jm I q k3,u.append k4⟩
  |_=>simp[j8]at h
 |map kt vt=>
  cases ob with
  |map k v l=>
   simp only[j8]at h;split at h
   .rename_i l' O;obtain⟨rfl,rfl,hh'⟩:=OP O;cases hh';simp only[bg,bC]at h;obtain⟨rfl,rfl,rfl,rfl⟩:=h;refine⟨⟨_,rfl,rfl⟩,M,hh,λo i=>(by cases i),λo i=>(by cases i),λy G r K he hf _ _ nb _=>⟨[],?_,.nil⟩⟩;cases H with
    |map _ ms c O H=>
    refine .map (by simpa using O) λj p m h1 h2=>?_;obtain⟨q,u⟩:=H j _ m (by rw[gK,h1];rfl) h2;exact⟨PM hS (q.ext he hs.bA),PM hS (u.ext he hs.bA)⟩
   .cases h
  |_=>simp[j8]at h
 |o7=>
  cases ob with
  |o7 bs n=>simp only[j8,bg,bC]at h;obtain⟨rfl,rfl,rfl,rfl⟩:=h;refine⟨⟨_,rfl,rfl⟩,M,hh,λo i=>(by cases i),λo i=>(by cases i),λy G r K he hf _ _ nb _=>⟨[],?_,.nil⟩⟩;cases H;exact .o7 (x:=(bs,n))
  |_=>simp[j8]at h
def Cl.iJ{I:Nat->Prop}{w:World}{nb:Option Nat}{k:Bk}{x:vO S.A k}{h:Obj}{al:List fq}(e:Cl S I w nb k x h al):∀a∈al,∀b,a.at b->¬I b:=by
 cases e with
 |cells h=>exact h.iJ
 |map=>intro a d;cases d
 |o7=>intro a d;cases d
 |link _ _ h1 h2=>intro a d;exact(dY.1 d).elim (h1.iJ a) (h2.iJ a)
def Cn(k:Bk)(s:bq S)(nx:Option Nat)(x:vO S.A k):s.aH<=(gC s nx k x).2.aH:=by cases k with|cells cs=>exact mF cs s x|map kt vt=>exact bP _|o7=>exact bP _|link pre post=>exact fC (mF pre s x.1) (mF post _ x.2)
def nX{x:vO S.A k}(C:Cl S g.bA w nb k x h al)(O:∀b',nb=Z b'->∃B,nx=Z B∧g.cg B=Z b')(hs:bh g (aG s) w)(u:∀a∈al,∀b,a.at b->∀o,¬bM g o b)(G:uU al)
  (hn:(gC s nx k x).2.aH<=bB):∃g',Tp g s w al g' (gC s nx k x).2∧gW g' w (cQ (gC s nx k x).1) h:=by
 cases C with
 |cells C=>obtain⟨g',hu,H⟩:=lW C hs u G hn;exact⟨g',hu,.box _ _ _ (by simpa using H.1) λj t v d q=>H.2 j t v d (by simpa using q)⟩
 | @map kt vt l ms c hl C=>refine⟨g,Tp.refl hs,.map _ _ _ (by simpa using hl) λj t m h1 h2=>?_⟩;simp only[gK,eC]at h1;obtain⟨p,hp,rfl⟩:=h1;obtain⟨d,q⟩:=C j p m hp h2;exact⟨tE d,tE q⟩
 |o7=>exact⟨g,Tp.refl hs,.o7 _ _⟩
 | @link pre post x y cv ty al sV vp vq b L hv h1 h2=>
  obtain⟨B,rfl,R⟩:=O b L;have e:=rK.1 G;have U:(gI s pre x).2.aH<=bB:=fC (mF post _ y) hn;obtain⟨g1,i,I⟩:=lW h1 hs (λa M=>u a (eH _ M)) e.1 U;obtain⟨X,z,VH⟩:=lW (s:=(gI s pre x).2) (i.bA▸h2) i.rel (λa M b L o hO=>by
    rcases i.own o b hO with hO|⟨_,a2,SJ,qg⟩
    .exact u a (iS _ M) b L o hO
    .exact e.2.2 a2 SJ a M b qg L) e.2.1 hn
  refine⟨X,i.trans z,?_⟩;have K:aK X w (low (.ptr B 0:V S)) (.pointer (Z ⟨b,0,Y⟩)):=.ptr B 0 b (by rw[z.cg,i.cg];exact R);have r:PW (aK X w) (bn ((gI s pre x).1++(Ql (Z B)++(gI (gI s pre x).2 post y).1))) cv.toList:=by
   rw[hv,js,js];exact PW.append ⟨I.1,λj t v d q=>(I.2 j t v d q).le z.le⟩ (PW.append ⟨rfl,λj t v d q=>by
    cases j with
    |zero=>simp[bn,Ql]at d q;subst d;subst q;exact K
    |succ j=>simp[bn,Ql]at d⟩ VH)
  exact .box _ _ _ (by simpa using r.1) λj t v d q=>r.2 j t v d (by simpa using q)
end
section
def Tr.r8{α:Type}:∀(n:Nat)(t:Tr α)(k j:Nat),k+1<2 ^ n->(Tr.del n t k).get j=if j=k then Y else t.get j
 |0,t,k,j,h=>by simp at h
 |n+1,.nil,k,j,h=>by have:Tr.del (n+1) (.nil:Tr α) k=.nil:=rfl;rw[this,Tr.get_nil];split<;>rfl
 |n+1,.node v l r,0,j,h=>by have:Tr.del (n+1) (.node v l r) 0=.node Y l r:=rfl;rw[this];cases j with|zero=>simp[Tr.fL]|succ j=>rw[Tr.cO,Tr.cO];simp
 |n+1,.node v l r,k+1,j,h=>by
  have d:k/2+1<2 ^ n:=by rw[Nat.pow_succ]at h;omega
  have e:Tr.del (n+1) (.node v l r) (k+1)=if k%2=0 then .node v (Tr.del n l (k/2)) r else .node v l (Tr.del n r (k/2)):=by
   simp only[Tr.del];by_cases h2:k%2=0
   .have:Nat.beq (Nat.mod k 2) 0=W:=by show Nat.beq (k%2) 0=W;rw[h2];rfl
    simp[this,h2];rfl
   .have:Nat.beq (Nat.mod k 2) 0=J:=by
     show Nat.beq (k%2) 0=J;have:k%2=1:=by omega
     rw[this];rfl
    simp[this,h2];rfl
  rw[e];cases j with
  |zero=>split<;>simp[Tr.fL]
  |succ j=>
   by_cases g:k%2=0
   .rw[bJ g,Tr.cO,Tr.cO];by_cases b:j%2=0
    .rw[bJ b,bJ b,Tr.r8 n _ _ _ d];have:j/2=k/2↔j+1=k+1:=by omega
     simp[this]
    .rw[br b,br b,br (by omega)]
   .rw[br g,Tr.cO,Tr.cO];by_cases b:j%2=0
    .rw[bJ b,bJ b,br (by omega)]
    .rw[br b,br b,Tr.r8 n _ _ _ d];have:j/2=k/2↔j+1=k+1:=by omega
     simp[this]
def Tr.qT{α:Type}:∀(bs:List Nat)(t:Tr α)(j:Nat),(∀b∈bs,b<bB)->(bs.foldl (λt o=>t.del aJ o) t).get j=if j∈bs then Y else t.get j
 |[],t,j,_=>by simp
 |b::bs,t,j,h=>by
  rw[Bh,Tr.qT bs _ j (λc d=>h c (by simp[d])),Tr.r8 _ _ _ _ (by have:=h b (by simp);unfold aJ;unfold bB at this;omega)];by_cases h1:j∈bs
  .simp[h1]
  .by_cases h2:j=b<;>simp[h1,h2]
def Tr.oL{α:Type}(f:α->α):∀(t:Tr α)(k:Nat),(t.mapA f).get k=(t.get k).map f
 | .nil,k=>by have:(Tr.nil:Tr α).mapA f=.nil:=rfl;rw[this,Tr.get_nil];rfl
 | .node v l r,0=>by have:(Tr.node v l r).mapA f=.node (match v with|some x=>Z (f x)|none=>Y) (l.mapA f) (r.mapA f):=rfl;rw[this,Tr.fL,Tr.fL];cases v<;>rfl
 | .node v l r,k+1=>by have:(Tr.node v l r).mapA f=.node (match v with|some x=>Z (f x)|none=>Y) (l.mapA f) (r.mapA f):=rfl;rw[this,Tr.cO,Tr.cO,Tr.oL f l,Tr.oL f r];split<;>rfl
def Tr.rW{α:Type}(p:α->Bool):∀(t:Tr α)(k:Nat)(x:α),t.get k=Z x->p x=W->k∈t.jt p
 | .nil,k,x,h,_=>by rw[Tr.get_nil]at h;cases h
 | .node v l r,0,x,h,hp=>by rw[Tr.fL]at h;subst h;simp[Tr.jt,hp]
 | .node v l r,k+1,x,h,hp=>by
  rw[Tr.cO]at h;simp only[Tr.jt,dY,tK];by_cases b:k%2=0
  .rw[bJ b]at h;exact .inr (.inl ⟨k/2,Tr.rW p l _ x h hp,by show 2*(k/2)+1=k+1;omega⟩)
  .rw[br b]at h;exact .inr (.inr ⟨k/2,Tr.rW p r _ x h hp,by show 2*(k/2)+1+1=k+1;omega⟩)
def Tr.oM{α:Type}(p:α->Bool):∀(t:Tr α)(k:Nat),(t.keep p).get k=(t.get k).filter p
 | .nil,k=>by have:(Tr.nil:Tr α).keep p=.nil:=rfl;rw[this,Tr.get_nil];rfl
 | .node v l r,0=>by have:(Tr.node v l r).keep p=.node (match v with|some x=>bif p x then Z x else Y|none=>Y) (l.keep p) (r.keep p):=rfl;rw[this,Tr.fL,Tr.fL];cases v with|none=>rfl|some x=>cases hp:p x<;>simp[Option.filter,hp]
 | .node v l r,k+1=>by have:(Tr.node v l r).keep p=.node (match v with|some x=>bif p x then Z x else Y|none=>Y) (l.keep p) (r.keep p):=rfl;rw[this,Tr.cO,Tr.cO,Tr.oM p l,Tr.oM p r];split<;>rfl
mutual
def jI(os:List Nat):∀v:V S,dD os (low v)=gS os v
 | .ty t x=>by
  have:∀l:List D,iL os (l.map .sym)=J:=by
   intro l
   induction l with|nil=>rfl|cons d l g=>simp[iL,dD,g]
  cases t<;>simp[low,eD,gS,dD,this]
 | .kb _=>rfl
 | .kn _ _=>rfl
 | .dat _=>rfl
 | .ptr _ _=>rfl
 | .mD _ _ _=>rfl
 | .kA _ _ _ _=>rfl
 | .sh _ _=>rfl
 | .emp=>rfl
 | .jy _ _ _=>rfl
 | .fn _ a b=>by simp only[low,gS,dD,oE os a,oE os b]
 | .cR _ v=>by simp only[low,gS,dD,jI os v]
 | .agg e=>by simp only[low,gS,dD,oE os e]
 | .gm e=>by simp only[low,gS,dD,oE os e]
 | .gd _ v=>by simp only[low,gS,dD,jI os v]
 | .mp _=>rfl
 | .ry _=>rfl
 | .ru _=>rfl
 | .ub _=>rfl
 | .qd _ _ _ _=>rfl
 | .nQ _ _ _=>rfl
def oE(os:List Nat):∀l:List (V S),iL os (bn l)=m5 os l
 |[]=>rfl
 |v::l=>by simp only[bn,iL,m5,jI os v,oE os l]
end
def n4:∀t:T,dD [] t=J:=by
 intro t
 induction t using T.rec (motive_2:=λl=>iL [] l=J)with|fn f a b d g=>simp[dD,d,g]|cR t v e=>simp[dD,e]|agg j e=>simp[dD,e]|gm j e=>simp[dD,e]|gd c v e=>simp[dD,e]|nil=>rfl|cons a l d i=>simp[iL,d,i]|_=>simp[dD]
structure pz(lo fl:Nat)(g:Gh)(w:World)(g':Gh)(w':World):Prop where
 cg:∀o b,g.cg o=Z b->g'.cg o=Z b
 arr:∀o e x,o<lo->g.arr o e=Z x->g'.arr o e=Z x
 bA:∀b,g.bA b->g'.bA b
 size:w.heap.size<=w'.heap.size
 heap:∀b,b<w.heap.size->(∀o,fl<=o->¬bM g o b)->w'.heap[b]?=w.heap[b]?
 own:∀o b,fl<=o->bM g' o b->(∃o',fl<=o'∧bM g o' b)∨w.heap.size<=b
 tZ:∀b,g'.bA b->g.bA b∨w.heap.size<=b∨∃o,fl<=o∧bM g o b
 os:w'.os=w.os
 output:w'.output=w.output
def pz.trans{lo fl:Nat}{g g' m:Gh}{w w' p:World}(h:pz lo fl g w g' w')(k:pz lo fl g' w' m p):pz lo fl g w m p where
 cg o b e:=k.cg o b (h.cg o b e)
 arr o e x s u:=k.arr o e x s (h.arr o e x s u)
 bA b e:=k.bA b (h.bA b e)
 size:=fC h.size k.size
 heap b l t:=by
  rw[k.heap b (dy l h.size) (λo q j=>?_),h.heap b l t];rcases h.own o b q j with⟨r,d,i⟩|j
  .exact t r d i
  .omega
 own o b q j:=by
  rcases k.own o b q j with⟨r,d,i⟩|j
  .exact h.own r b d i
  .exact .inr (fC h.size j)
 tZ b l:=by
  rcases k.tZ b l with l|l|⟨o,q,j⟩
  .exact h.tZ b l
  .exact .inr (.inl (fC h.size l))
  .rcases h.own o b q j with⟨r,d,i⟩|j
   .exact .inr (.inr ⟨r,d,i⟩)
   .exact .inr (.inl j)
 os:=k.os.trans h.os
 output:=k.output.trans h.output
variable {fl:Nat}{g g':Gh}{w w':World}{s:bq S}{k:Bk}{nx:Option Nat}
def Ext.GH(lo:Nat)(h:Ext fl g w g' w'):pz lo fl g w g' w':=
 ⟨λo b e=>h.cg o b e,λo e x _ k=>h.arr o e x k,h.bA,h.size,h.heap,λo b d i=>(h.own o b i).imp (λh=>⟨o,d,h⟩) id,h.tZ,h.os,h.output⟩
structure cM(ow:List Nat)(s:bq S)(g:Gh)(w:World)(s':bq S)(g':Gh)(w':World):Prop where
 rel:bh g' (aG s') w'
 ext:pz s.lo s.fl g w g' w'
 fl:s'.fl=s.fl
 lo:s'.lo=s.lo
 aH:s.aH<=s'.aH
 uW:∀o∈s.wr,o∈s'.wr
 same:∀o,o<s.aH->o∉s'.wr->s'.ob.get o=s.ob.get o
 tr:∀t v,aK g w t v->dD ow t=J->aK g' w' t v
 oww:∀o∈ow,o∈s'.wr
 Gq:∀o∈s.dr,o∈s'.dr
 owd:∀o∈ow,o∈s'.dr
inductive oZ(S:Sg)(I:Nat->Prop)(w:World):(ps:List Pk)->fU S.A ps->List Value->List fq->List Nat->Prop where
 |nil:oZ S I w [] () [] [] []
 |one {c:Ck} {ps:List Pk} {x:den S.A c.ty} {h:fU S.A ps} {v:Value} {vs:List Value} {al sV:List fq} {bl:List Nat} (h1:jc S I w [c] (x,()) [v] al) (h2:oZ S I w ps h vs sV bl) :
   oZ S I w (.one c::ps) (x,h) (v::vs) (al++sV) bl
 |box {k:Bk} {ps:List Pk} {x:vO S.A k} {h:fU S.A ps} {b:Nat} {hx:Obj} {vs:List Value} {al sV:List fq} {bl:List Nat} (hh:w.heap[b]?=Z hx)
   (h1:Cl S I w (dF bl) k x hx al) (h2:oZ S I w ps h vs sV bl):oZ S I w (.box k::ps) (x,h) (Ja k b::vs) (al++sV) (b::bl)
 |hid {k:Bk} {ps:List Pk} {x:vO S.A k} {h:fU S.A ps} {b:Nat} {hx:Obj} {vs:List Value} {al sV:List fq} {bl:List Nat} (hh:w.heap[b]?=Z hx)
   (h1:Cl S I w (dF bl) k x hx al) (h2:oZ S I w ps h vs sV bl):oZ S I w (.hid k::ps) (x,h) vs (al++sV) (b::bl)
inductive Cm(S:Sg)(I:Nat->Prop)(w:World):(ps:List Pk)->iD S.A ps->List Nat->List fq->Prop where
 |nil:Cm S I w [] () [] []
 |one {c:Ck} {ps:List Pk} {r:iD S.A ps} {bl:List Nat} {al:List fq} (h:Cm S I w ps r bl al):Cm S I w (.one c::ps) r bl al
 |box {k:Bk} {ps:List Pk} {x:vO S.A k} {r:iD S.A ps} {b:Nat} {hx:Obj} {bl:List Nat} {al sV:List fq} (hh:w.heap[b]?=Z hx)
   (h1:Cl S I w (dF bl) k x hx al) (h2:Cm S I w ps r bl sV):Cm S I w (.box k::ps) (x,r) (b::bl) (al++sV)
 |hid {k:Bk} {ps:List Pk} {x:vO S.A k} {r:iD S.A ps} {b:Nat} {hx:Obj} {bl:List Nat} {al sV:List fq} (hh:w.heap[b]?=Z hx)
   (h1:Cl S I w (dF bl) k x hx al) (h2:Cm S I w ps r bl sV):Cm S I w (.hid k::ps) (x,r) (b::bl) (al++sV)
def valOf:List Value->Value
 |[v]=>v
 |l=>.tuple l.toArray
def CL(S:Sg)(I:Nat->Prop)(w:World)(ps:List Pk)(rs:List Ck)(r:gl S.A rs×iD S.A ps)(al:List fq)(bl:List Nat)(v:Value)(w':World):Prop:=∃(g:Nat->Prop)(vs:List Value)(d e:List fq),(∀b,I b->g b)∧(∀b,g b->I b∨w.heap.size<=b∨∃a∈al,a.at b)∧(∀b,g b->b<w'.heap.size)∧w.heap.size<=w'.heap.size∧
   (∀b,b<w.heap.size->b∉bl->(∀a∈al,¬a.at b)->w'.heap[b]?=w.heap[b]?)∧w'.os=w.os∧w'.output=w.output∧v=valOf vs∧
   Cm S g w' ps r.2 bl d∧jc S g w' rs r.1 vs e∧uU (d++e)∧(∀a∈d++e,∀b,a.at b->(∃i∈al,i.at b)∨w.heap.size<=b)∧(∀b∈bl,¬g b∧∀a∈d++e,¬a.at b)
def vF(S:Sg)(I:Nat->Prop)(w:World)(ps:List Pk)(rs:List Ck)(r:Rx (gl S.A rs×iD S.A ps) (den S.A S.pt×iD S.A ps))(al:List fq)(bl:List Nat):Ending->World->Prop
 | .returned v,w'=>match r with
  | .ok r=>CL S I w ps rs r al bl v w'
  | .dh _=>False
 | .panicked d,w'=>match r with
  | .ok _=>False
  | .dh p=>∃v,d=[{v,recovered:=J}]∧CL S I w ps [.dat S.pt] ((p.1,()),p.2) al bl v w'
 | .outgrown,_=>False
def bD(P:Program)(f:FuncId)(c:kT S):Prop:=
 mj P f∧∀x r,c.F x=Z r->∀(I:Nat->Prop)(w:World)(vs:Array Value)(al:List fq)(bl:List Nat),oZ S I w c.ps x vs.toList al bl->(∀b,I b->b<w.heap.size)->uU al->bl.Nodup->
  (∀b∈bl,b<w.heap.size∧¬I b∧∀a∈al,¬a.at b)->Calls P f vs w (vF S I w c.ps c.rs (RT.res c.pn r) al bl)
def yC(hs:bh g (aG s) w){o b:Nat}(u:g.cg o=Z b){x:vO S.A k}{fz ow:List Nat}(h:j8 s k (s.ob.get o)=Z (x,fz,ow,nx)) :
  (∀e,nx=Z e->∃v,g.cg e=Z v)∧∀e,nx=Z e->∃pre post,k=.link pre post:=by
 cases i:s.ob.get o with
 |none=>rw[i]at h;cases k<;>simp[j8]at h
 |some ob=>
 rw[i]at h;obtain⟨z,B,j⟩:=(hs.box o b u).2.2 (cQ ob) (by rw[aY,i];rfl);cases k with
 |link pre post=>
  refine⟨λe l=>?_,λ_ _=>⟨pre,post,rfl⟩⟩;subst l;cases ob with
  |box C=>
   cases j with
   |box _ r ty y j=>
   simp only[j8]at h;split at h;rotate_left
   .cases h
   rename_i G a1 H I K a2 t L m M;simp only[bg,bC]at h;obtain⟨_,_,_,rfl⟩:=h;rw[jq]at m;have p:cz pre<r.size:=by rw[<-y,eS];exact(tc.1 m).1
   have d:=j (cz pre) _ _ (by rw[ga,gK,m];rfl) (ov p);simp only[low]at d;generalize r[cz pre]=O at d;cases d with|ptr _ _ t q=>exact⟨t,q⟩
  |_=>simp[j8]at h
 |cells R=>
  cases ob<;>simp only[j8]at h<;>try(cases h;done)
  split at h
  .simp only[bg,bC]at h;obtain⟨_,_,_,rfl⟩:=h;exact⟨λ_ h=>(by cases h),λ_ h=>(by cases h)⟩
  .cases h
 |map kt vt=>
  cases ob<;>simp only[j8]at h<;>try(cases h;done)
  split at h
  .simp only[bg,bC]at h;obtain⟨_,_,_,rfl⟩:=h;exact⟨λ_ h=>(by cases h),λ_ h=>(by cases h)⟩
  .cases h
 |o7=>
  cases ob<;>simp only[j8]at h<;>try(cases h;done)
  simp only[bg,bC]at h;obtain⟨_,_,_,rfl⟩:=h;exact⟨λ_ h=>(by cases h),λ_ h=>(by cases h)⟩
def Bm{j:Gh}{ps:List Pk}{l:List (V S)}{h:fU S.A ps}{a b bs bl:List Nat}(p:DX k ps=W)(i:∀d,nx=Z d->∃pre post,k=.link pre post)(e:dZ s ps l nx=Z (h,a,b,bs))(hp:PW (λo b=>j.cg o=Z b) bs bl) :
  ∀d,nx=Z d->∃g,dF bl=Z g∧j.cg d=Z g:=by
 intro d m;obtain⟨pre,post,rfl⟩:=i d m;subst m
 match ps,p with
 | .hid q::ps,_=>
  simp only[dZ]at e;rcases af e with⟨_,e⟩|⟨_,e⟩;rotate_left
  .cases e
  split at e;rotate_left
  .cases e
  split at e;rotate_left
  .cases e
  simp only[bg,bC]at e;obtain⟨_,_,_,rfl⟩:=e
  match bl,hp with
  |g::bl,hp=>exact⟨g,rfl,hp.2 0 _ _ rfl rfl⟩
  |[],hp=>exact absurd hp.1 (by simp)
def jF(hS:fh S){g:Gh}{w:World}{s:bq S}(hs:bh g (aG s) w):∀{ps:List Pk}{l:List (V S)}{vals:List Value}{x:fU S.A ps}{fz ow bs:List Nat}{H:Option Nat},dZ s ps l H=Z (x,fz,ow,bs)->PW (aK g w) (bn l) vals->(∀o,H=Z o->∃b,g.cg o=Z b)->
  (∀o∈fz,Live g (aG s) o)∧(∀o∈ow,s.fl<=o∧s.lo<=o∧o<s.aH∧∃ob,s.ob.get o=Z ob∧OZ ob=W)∧(∀o∈bs,s.fl<=o∧∃ob,s.ob.get o=Z ob∧rO ob=W)∧∀(u:Gh)(y:St)(m:List Nat),bh u y w->Ext s.fl g w u w->jC (aG s) y m->(∀o∈fz,o∈m)->(∀o∈ow,y.ob.get o=(aG s).ob.get o)->
   ∃al bl,oZ S u.bA w ps x vals al bl∧AL u al ow∧PW (λo b=>u.cg o=Z b) bs bl
 |[],[],vals,x,fz,ow,bs,_,h,p=>by intro _;simp only[dZ,bg,bC]at h;obtain⟨_,rfl,rfl,rfl⟩:=h;have:vals=[]:=td (by have:=p.1;simpa[bn]using this.symm);subst this;exact⟨λo d=>(by cases d),λo d=>(by cases d),λo d=>(by cases d),λ_ _ _ _ _ _ _ _=>⟨[],[],.nil,.nil,rfl,λj a b h=>by simp at h⟩⟩
 | .one c::ps,v::l,vals,x,fz,ow,bs,_,h,p=>by
  intro _;simp only[dZ]at h;split at h
  .rename_i x1 a1 b1 h1 a2 b2 bs2 I K;simp only[bg,bC]at h;obtain⟨rfl,rfl,rfl,rfl⟩:=h
   match vals,p with
   |val::vals,p=>have L:aK g w (low v) val:=p.2 0 _ _ rfl rfl;have M:PW (aK g w) (bn l) vals:=⟨by have:=p.1;simpa[bn]using this,λj a b B C=>p.2 (j+1) a b (by simpa[bn]using B) (by simpa using C)⟩;obtain⟨p1,p2,p3⟩:=Bo hS hs I L;obtain⟨q1,q2,q4,q3⟩:=jF hS hs K M (λo d=>by cases d);refine⟨λo d=>(dY.1 d).elim (p1 o) (q1 o),λo d=>(dY.1 d).elim (p2 o) (q2 o),q4,λu y m q z hf i e=>?_⟩;obtain⟨zo,B,C⟩:=p3 u y m q z hf (λo d=>i o (eH _ d)) (λo d=>e o (eH _ d));obtain⟨zI,bl,k3,k4,G⟩:=q3 u y m q z hf (λo d=>i o (iS _ d)) (λo d=>e o (iS _ d));exact⟨_,bl,.one B k3,C.append k4,G⟩
   |[],p=>exact absurd p.1 (by simp[bn])
  .cases h
 | .box k::ps,v::l,vals,x,fz,ow,bs,H,h,p=>by
  intro _;simp only[dZ]at h;split at h
  .rename_i o hkp;obtain rfl:=Jb hkp;rcases af h with⟨O,r⟩|⟨_,r⟩
   .clear h;rw[zX]at O;split at r;rotate_left
    .cases r
    rename_i x1 a1 b1 nx I;split at r;rotate_left
    .cases r
    rename_i h1 a2 b2 bs2 K;simp only[bg,bC]at r;obtain⟨rfl,rfl,rfl,rfl⟩:=r
    match vals,p with
    |val::vals,p=>
     have L:aK g w (low (Sr k o)) val:=p.2 0 _ _ rfl rfl;have M:PW (aK g w) (bn l) vals:=⟨by have:=p.1;simpa[bn]using this,λj a b B C=>p.2 (j+1) a b (by simpa[bn]using B) (by simpa using C)⟩;obtain⟨b,t,rfl⟩:=DZ L;obtain⟨p0,hx,hh,p1,p2,p3⟩:=pH hS hs t I;obtain⟨R,U⟩:=yC hs t I;obtain⟨q1,q2,q4,q3⟩:=jF hS hs K M R;refine⟨λo d=>(dY.1 d).elim (p1 o) (q1 o),λo d=>(dY.1 d).elim (p2 o) (q2 o),λk hk=>?_,λu y m q z hf i e=>?_⟩
     .rcases eR.1 hk with rfl|hk
      .exact ⟨fQ O.1,p0⟩
      .exact q4 k hk
     .obtain ⟨zI,bl,k3,k4,G⟩:=q3 u y m q z hf (λo d=>i o (iS _ d)) (λo d=>e o (iS _ d));obtain⟨zo,B,C⟩:=p3 u y m q z hf (λo d=>i o (eH _ d)) (λo d=>e o (eH _ d)) (dF bl) (Bm O.2 U K G);refine⟨_,b::bl,.box hh B k3,C.append k4,by simp[G.1],λj a c X m2=>?_⟩;cases j with|zero=>simp at X m2;subst X;subst m2;exact z.cg _ _ t|succ j=>exact G.2 j a c (by simpa using X) (by simpa using m2)
    |[],p=>exact absurd p.1 (by simp[bn])
   .cases r
  .cases h
 | .hid k::ps,l,vals,x,fz,ow,bs,Z o,h,p=>by
  intro hp0;simp only[dZ]at h;rcases af h with⟨O,r⟩|⟨_,r⟩;rotate_left
  .cases r
  clear h;rw[zX]at O;split at r;rotate_left
  .cases r
  rename_i x1 a1 b1 nx I;split at r;rotate_left
  .cases r
  rename_i h1 a2 b2 bs2 K;simp only[bg,bC]at r;obtain⟨rfl,rfl,rfl,rfl⟩:=r;obtain⟨b,t⟩:=hp0 o rfl;obtain⟨p0,hx,hh,p1,p2,p3⟩:=pH hS hs t I;obtain⟨R,U⟩:=yC hs t I;obtain⟨q1,q2,q4,q3⟩:=jF hS hs K p R;refine⟨λo d=>(dY.1 d).elim (p1 o) (q1 o),λo d=>(dY.1 d).elim (p2 o) (q2 o),λk hk=>?_,λu y m q z hf i e=>?_⟩
  .rcases eR.1 hk with rfl|hk
   .exact ⟨fQ O.1,p0⟩
   .exact q4 k hk
  .obtain ⟨zI,bl,k3,k4,G⟩:=q3 u y m q z hf (λo d=>i o (iS _ d)) (λo d=>e o (iS _ d));obtain⟨zo,B,C⟩:=p3 u y m q z hf (λo d=>i o (eH _ d)) (λo d=>e o (eH _ d)) (dF bl) (Bm O.2 U K G);refine⟨_,b::bl,.hid hh B k3,C.append k4,by simp[G.1],λj a c X m2=>?_⟩;cases j with|zero=>simp at X m2;subst X;subst m2;exact z.cg _ _ t|succ j=>exact G.2 j a c (by simpa using X) (by simpa using m2)
 |[],_::_,_,_,_,_,_,_,h,_=>by simp[dZ]at h
 | .one _::_,[],_,_,_,_,_,_,h,_=>by simp[dZ]at h
 | .box _::_,[],_,_,_,_,_,_,h,_=>by simp[dZ]at h
 | .hid _::_,_,_,_,_,_,_,Y,h,_=>by simp[dZ]at h
end
section
def Gh.drop_nil(g:Gh):g.drop []=g:=by cases g;simp[Gh.drop]
def DP{os:List Nat}:∀{l:List (V S)},m5 os l=J->∀v∈l,gS os v=J
 |[],_,v,b=>by cases b
 |a::l,h,v,b=>by
  simp only[m5,vL]at h;rcases eR.1 b with rfl|b
  .exact h.1
  .exact DP h.2 v b
def DO{α:Type}{os:List Nat}:∀{l:List (α×V S)},I4 os l=J->∀p∈l,gS os p.2=J
 |[],_,v,b=>by cases b
 |a::l,h,v,b=>by
  simp only[I4,vL]at h;rcases eR.1 b with rfl|b
  .exact h.1
  .exact DO h.2 v b
def Cv{p:V S->Bool}{f:V S->V S}(hf:∀v,p v=J->f v=v):∀{t:Tr (V S)},pK p t=J->t.mapA f=t
 | .nil,_=>rfl
 | .node v l r,h=>by simp only[pK,vL]at h;simp only[Tr.mapA,Cv hf h.2.1,Cv hf h.2.2];cases v with|none=>rfl|some x=>simp only[hf x h.1]
variable {os bl:List Nat}{g:Gh}{w:World}{s:bq S}{vs:List Value}{I:Nat->Prop}{ps:List Pk}{al:List fq}
def Ay{v:V S}(h:gS os v=J):oV os v=v:=by simp only[oV,h,dP]
def ON{ob:vX S}(h:I0 os ob=J):mE os ob=ob:=by
 cases ob with
 |box d=>simp only[mE,vX.box.injEq];have:∀v∈d,oV os v=v:=λv e=>Ay (DP h v e);exact(Lf this).trans (List.map_id _)
 |Gd kt l=>
  simp only[mE];have:∀p∈l,((p.1,oV os p.2):den S.A kt×V S)=p:=λp hp=>by rw[Ay (DO h p hp)]
  rw[(Lf this).trans (List.map_id _)]
 |lp l=>simp only[mE,Cv (λv=>Ay) (show pK (gS os) l.fr.tm=J from h)]
 |kj n j l era m b hole=>have h:os.contains m=J:=h;simp only[mE,h,dP]
 |_=>rfl
def uo(os:List Nat)(v:V S):sY (dD os) (low v) (low (oV os v)):=by cases b:gS os v with|true=>exact .inr ⟨_,by simp only[oV,b,cG];rfl⟩|false=>exact .inl ⟨by simp only[oV,b,dP],by rw[jI];exact b⟩
def Iu(os:List Nat)(t:Ty)(x:den S.A t):sY (dD os) (eD S t x) (eD S t x):=.inl ⟨rfl,jI (S:=S) os (.ty t x)⟩
def JA(os:List Nat)(ob:vX S):W7 os (cQ ob) (cQ (mE os ob)):=by
 cases ob with
 |box w=>refine⟨by simp[eS],λj t u h1 h2=>?_⟩;simp only[ga,gK,eC]at h1 h2;obtain⟨v,d,rfl⟩:=h1;obtain⟨r,⟨g,b,rfl⟩,rfl⟩:=h2;rw[d]at b;cases b;exact uo os v
 |map kt vt l=>refine⟨rfl,λj t u h1 h2=>?_⟩;rw[h1]at h2;cases h2;simp only[gK,eC]at h1;obtain⟨p,_,rfl⟩:=h1;exact⟨Iu os _ _,Iu os _ _⟩
 |Gd kt l=>refine⟨by simp,λj t u h1 h2=>?_⟩;simp only[gK,eC]at h1 h2;obtain⟨v,d,rfl⟩:=h1;obtain⟨r,⟨g,b,rfl⟩,rfl⟩:=h2;rw[d]at b;cases b;exact⟨Iu os _ _,uo os _⟩
 |lp l=>refine⟨rfl,rfl,λk u s=>?_⟩;have e:((l.fr.tm.mapA (oV os)).map low).get k=Z u:=s;rw[Tr.get_map,Tr.oL,GX,eC]at e;obtain⟨v,d,rfl⟩:=e;exact⟨low v,by show(l.fr.tm.map low).get k=_;rw[Tr.get_map,d];rfl,uo os v⟩
 |arr=>rfl
 |jX=>rfl
 |o7=>rfl
 |zH=>rfl
 |rws=>rfl
 |gone=>rfl
 |kj n j l era m q hole=>
  cases i:os.contains m with|true=>exact .inr (by simp only[mE,i,cG];rfl)|false=>exact .inl ⟨by simp only[mE,i,dP];rfl,i⟩
def Ep(os:List Nat)(s:bq S)(o:Nat):(forget os s).ob.get o=if os=[]then s.ob.get o else(s.ob.get o).map (mE os):=by cases os with|nil=>rfl|cons a os=>rw[br (by simp)];exact Tr.oL _ _ _
def Me(os:List Nat)(hs:bh g (aG s) w):bh (g.drop os) (aG (forget os s)) w:=by cases os with|nil=>rw[Gh.drop_nil];exact hs|cons a os=>refine hs.drop rfl λo d h=>?_;rw[aY,Ep,br (by simp),GX,eC]at h;obtain⟨ob,b,rfl⟩:=h;exact⟨cQ ob,by rw[aY,b];rfl,JA _ ob⟩
def Md(os:List Nat)(s:bq S)(o:Nat)(h:o∉(forget os s).wr):(forget os s).ob.get o=s.ob.get o:=by
 rw[Ep];split
 .rfl
 .rename_i b;cases e:s.ob.get o with
  |none=>rfl
  |some ob=>
   cases d:I0 os ob with
   |true=>
    exfalso;apply h;cases os with|nil=>exact absurd rfl b|cons a os=>exact eH _ (Tr.rW _ _ _ _ e d)
   |false=>rw[dX,ON d]
def SQ(os:List Nat)(s:bq S):(forget os s).fl=s.fl∧(forget os s).lo=s.lo∧(forget os s).aH=s.aH∧(forget os s).dr=s.dr∧∀o∈s.wr,o∈(forget os s).wr:=by cases os with|nil=>exact⟨rfl,rfl,rfl,rfl,λ_ h=>h⟩|cons a os=>exact⟨rfl,rfl,rfl,rfl,λo h=>iS _ h⟩
def ew:∀{os:List Nat}{s s':bq S},dz s os=Z s'->s'.fl=s.fl∧s'.lo=s.lo∧s'.aH=s.aH∧(∀o∈s.wr,o∈s'.wr)∧(∀o,o∉s'.wr->s'.ob.get o=s.ob.get o)∧(∀o,o∉os->s'.ob.get o=s.ob.get o)∧s'.dr=s.dr
 |[],s,s',h=>by simp only[dz,bg]at h;subst h;exact⟨rfl,rfl,rfl,λ_ h=>h,λ_ _=>rfl,λ_ _=>rfl,rfl⟩
 |k::os,s,s',h=>by
  simp only[dz]at h;rcases af h with⟨_,h⟩|⟨_,h⟩
  .split at h
   .obtain ⟨h1,h2,h3,h4,h5,h6,d⟩:=ew h;refine⟨h1,h2,h3,λo b=>h4 o (gJ _ b),λo b=>?_,λo b=>?_,d⟩
    .rw[h5 o b];exact Tr.dc _ _ _ _ _ (λe=>b (h4 o (by rw[e];exact ez)))
    .rw[h6 o (λg=>b (gJ _ g))];exact Tr.dc _ _ _ _ _ (λe=>b (by rw[e];exact ez))
   .obtain ⟨h1,h2,h3,h4,h5,h6,d⟩:=ew h;exact⟨h1,h2,h3,h4,h5,λo b=>h6 o (λg=>b (gJ _ g)),d⟩
   .split at h
    .rename_i m r _ _ _ _ _;rcases af h with⟨i,h⟩|⟨_,h⟩
     .simp only[dR,yp,jR]at i;obtain⟨h1,h2,h3,h4,h5,h6,d⟩:=ew h;refine⟨h1,h2,h3,λo b=>h4 o (gJ _ (gJ _ b)),λo b=>?_,λo b=>?_,d⟩
      .rw[h5 o b];show((s.ob.set aJ _ _).set aJ k _).get o=_;rw[Tr.dc _ _ _ _ _ (λe=>b (h4 o (by rw[e];exact ez))),Tr.dc _ _ _ _ _ (λe=>b (h4 o (by rw[e];exact gJ _ ez)))]
      .rw[h6 o (λg=>b (gJ _ g))];show((s.ob.set aJ _ _).set aJ k _).get o=_;rw[Tr.dc _ _ _ _ _ (λe=>b (by rw[e];exact ez)),Tr.dc _ _ _ _ _ (λe=>b (by rw[e];exact gJ _ i.1))]
     .cases h
    .cases h
   .obtain ⟨h1,h2,h3,h4,h5,h6,d⟩:=ew h;exact⟨h1,h2,h3,h4,h5,λo b=>h6 o (λg=>b (gJ _ g)),d⟩
   .obtain ⟨h1,h2,h3,h4,h5,h6,d⟩:=ew h;exact⟨h1,h2,h3,h4,h5,λo b=>h6 o (λg=>b (gJ _ g)),d⟩
   .cases h
  .cases h
structure anQ(bs:List Nat)(g:Gh)(s:bq S)(w:World)(al:List fq)(g':Gh)(s':bq S):Prop where
 rel:bh g' (aG s') w
 le:nW g g'
 bA:g'.bA=g.bA
 own:∀k b,bM g' k b->bM g k b∨(s.aH<=k∧∃a∈al,a.at b)
 fl:s'.fl=s.fl
 lo:s'.lo=s.lo
 aH:s.aH<=s'.aH
 uW:∀o∈s.wr,o∈s'.wr
 wrb:∀o∈bs,o∈s'.wr
 dr:s'.dr=s.dr
 ob:∀o,o<s.aH->o∉bs->s'.ob.get o=s.ob.get o
 cg:g'.cg=g.cg
 arr:∀o,o<s.aH->∀e,g'.arr o e=g.arr o e
def qH:∀{ps:List Pk}{bs:List Nat}{r:iD S.A ps}{s s':bq S},j7 s ps bs r=Z s'->s.aH<=s'.aH
 |[],[],r,s,s',h=>by simp only[j7,bg]at h;rw[h];exact bP _
 | .one c::ps,bs,r,s,s',h=>qH (ps:=ps) (by simpa only[j7]using h)
 | .box b::ps,o::bs,r,s,s',h=>by simp only[j7]at h;have h1:=qH h;exact fC (Cn _ s _ r.1) h1
 | .hid b::ps,o::bs,r,s,s',h=>by simp only[j7]at h;have h1:=qH h;exact fC (Cn _ s _ r.1) h1
 |[],_::_,_,_,_,h=>by simp[j7]at h
 | .box _::_,[],_,_,_,h=>by simp[j7]at h
 | .hid _::_,[],_,_,_,h=>by simp[j7]at h
def yR{bs:List Nat}(h:PW (λo b=>g.cg o=Z b) bs bl):∀d,dF bl=Z d->∃e,dF bs=Z e∧g.cg e=Z d:=by
 intro d i
 match bl,bs,h with
 |b::bl,o::bs,h=>cases i;exact⟨o,rfl,h.2 0 _ _ rfl rfl⟩
 |[],_,_=>cases i
 |_::_,[],h=>exact absurd h.1 (by simp)
def Lm:∀{ps:List Pk}{r:iD S.A ps}{bl:List Nat}{al:List fq}{bs:List Nat}{g:Gh}{w:World}{s s2:bq S},Cm S g.bA w ps r bl al->bh g (aG s) w->PW (λo b=>g.cg o=Z b) bs bl->(∀o∈bs,∀e,g.arr o e=Y)->
  (∀a∈al,∀b,a.at b->∀o,¬bM g o b)->uU al->j7 s ps bs r=Z s2->s2.aH<=bB->∃g',anQ bs g s w al g' s2:=by
 intro ps
 induction ps with
 |nil=>
  intro r bl al bs g w s s2 hb K l _ _ _ h _;cases hb;cases bs with|nil=>simp only[j7,bg]at h;subst h;exact⟨g,K,nW.refl _,rfl,λ_ _ h=>.inl h,rfl,rfl,bP _,λ_ h=>h,λo ho=>(by cases ho),rfl,λ_ _ _=>rfl,rfl,λ_ _ _=>rfl⟩|cons o bs=>exact absurd l.1 (by simp)
 |cons p ps ih=>
  intro r bl al bs g w s s2 hb K l z B M h hn;cases hb with
  |one hb=>simp only[j7]at h;exact ih hb K l z B M h hn
  | @box kd _ x r b hx bl al O hh h1 h2=>
   cases bs with
   |nil=>exact absurd l.1 (by simp)
   |cons o bs=>
    simp only[j7]at h;have C:g.cg o=Z b:=l.2 0 _ _ rfl rfl;have q:=rK.1 M;have R:=qH h;have U:(gC s (dF bs) kd x).2.aH<=bB:=fC R hn;obtain⟨g1,i,G⟩:=nX h1 (yR (bs:=bs) (bl:=bl) ⟨by simpa using l.1,λj a c u v=>l.2 (j+1) a c (by simpa using u) (by simpa using v)⟩) K (λa L=>B a (eH _ L)) q.1 U;have X:o<s.aH:=K.lt C;have hk:=i.rel.rZ (o:=o) (b:=b) (by rw[i.cg];exact C) hh G (λe=>by rw[i.arr o X];exact z o (by simp) e);have hk2:bh g1 (aG {(gC s (dF bs) kd x).2 with ob:=(gC s (dF bs) kd x).2.ob.set aJ o (gC s (dF bs) kd x).1,wr:=o::(gC s (dF bs) kd x).2.wr}) w:=by rw[eY];exact hk
    obtain⟨g2,hp⟩:=ih (bl:=bl) (al:=O) (bs:=bs) (g:=g1) (i.bA▸h2) hk2 ⟨by simpa using l.1,λj a c u v=>by rw[i.cg];exact l.2 (j+1) a c (by simpa using u) (by simpa using v)⟩
     (λm d e=>by
      have:m<s.aH:=by
       obtain⟨j,hj,rfl⟩:=s9 d;have hj':j<bl.length:=by have:=l.1;simp at this;omega
       exact K.lt (l.2 (j+1) bs[j] bl[j] (by simp[hj]) (by simp[hj']))
      rw[i.arr m this];exact z m (by simp[d]) e)
     (λa L y H k t=>by
      rcases i.own k y t with t|⟨_,a2,SJ,qg⟩
      .exact B a (iS _ L) y H k t
      .exact q.2.2 a2 SJ a L y qg H) q.2.1 h hn
    refine⟨g2,hp.rel,i.le.trans hp.le,hp.bA.trans i.bA,λk y t=>?_,hp.fl.trans i.fl,hp.lo.trans i.lo,fC i.aH hp.aH,λm d=>?_,λm d=>?_,hp.dr.trans i.dr,λm I d=>?_,hp.cg.trans i.cg,λm I e=>?_⟩
    .rcases hp.own k y t with t|⟨u,a,v,k3⟩
     .rcases i.own k y t with t|⟨u,a,v,k3⟩
      .exact .inl t
      .exact .inr ⟨u,a,eH _ v,k3⟩
     .exact .inr ⟨fC i.aH u,a,iS _ v,k3⟩
    .exact hp.uW m (gJ _ (by rw[i.wr];exact d))
    .rcases eR.1 d with rfl|d
     .exact hp.uW _ ez
     .exact hp.wrb m d
    .have hne:m≠o:=λe=>d (by rw[e];exact ez);rw[hp.ob m (dy I i.aH) (λhm=>d (gJ _ hm))];simp only;rw[Tr.dc _ _ _ _ _ hne];exact i.ob m I
    .rw[hp.arr m (dy I i.aH)];exact i.arr m I e
  | @hid kd _ x r b hx bl al O hh h1 h2=>
   cases bs with
   |nil=>exact absurd l.1 (by simp)
   |cons o bs=>
    simp only[j7]at h;have C:g.cg o=Z b:=l.2 0 _ _ rfl rfl;have q:=rK.1 M;have R:=qH h;have U:(gC s (dF bs) kd x).2.aH<=bB:=fC R hn;obtain⟨g1,i,G⟩:=nX h1 (yR (bs:=bs) (bl:=bl) ⟨by simpa using l.1,λj a c u v=>l.2 (j+1) a c (by simpa using u) (by simpa using v)⟩) K (λa L=>B a (eH _ L)) q.1 U;have X:o<s.aH:=K.lt C;have hk:=i.rel.rZ (o:=o) (b:=b) (by rw[i.cg];exact C) hh G (λe=>by rw[i.arr o X];exact z o (by simp) e);have hk2:bh g1 (aG {(gC s (dF bs) kd x).2 with ob:=(gC s (dF bs) kd x).2.ob.set aJ o (gC s (dF bs) kd x).1,wr:=o::(gC s (dF bs) kd x).2.wr}) w:=by rw[eY];exact hk
    obtain⟨g2,hp⟩:=ih (bl:=bl) (al:=O) (bs:=bs) (g:=g1) (i.bA▸h2) hk2 ⟨by simpa using l.1,λj a c u v=>by rw[i.cg];exact l.2 (j+1) a c (by simpa using u) (by simpa using v)⟩
     (λm d e=>by
      have:m<s.aH:=by
       obtain⟨j,hj,rfl⟩:=s9 d;have hj':j<bl.length:=by have:=l.1;simp at this;omega
       exact K.lt (l.2 (j+1) bs[j] bl[j] (by simp[hj]) (by simp[hj']))
      rw[i.arr m this];exact z m (by simp[d]) e)
     (λa L y H k t=>by
      rcases i.own k y t with t|⟨_,a2,SJ,qg⟩
      .exact B a (iS _ L) y H k t
      .exact q.2.2 a2 SJ a L y qg H) q.2.1 h hn
    refine⟨g2,hp.rel,i.le.trans hp.le,hp.bA.trans i.bA,λk y t=>?_,hp.fl.trans i.fl,hp.lo.trans i.lo,fC i.aH hp.aH,λm d=>?_,λm d=>?_,hp.dr.trans i.dr,λm I d=>?_,hp.cg.trans i.cg,λm I e=>?_⟩
    .rcases hp.own k y t with t|⟨u,a,v,k3⟩
     .rcases i.own k y t with t|⟨u,a,v,k3⟩
      .exact .inl t
      .exact .inr ⟨u,a,eH _ v,k3⟩
     .exact .inr ⟨fC i.aH u,a,iS _ v,k3⟩
    .exact hp.uW m (gJ _ (by rw[i.wr];exact d))
    .rcases eR.1 d with rfl|d
     .exact hp.uW _ ez
     .exact hp.wrb m d
    .have hne:m≠o:=λe=>d (by rw[e];exact ez);rw[hp.ob m (dy I i.aH) (λhm=>d (gJ _ hm))];simp only;rw[Tr.dc _ _ _ _ _ hne];exact i.ob m I
    .rw[hp.arr m (dy I i.aH)];exact i.arr m I e
def CQ{l:List (V S)}(h:PW (aK g w) (bn l) vs):aK g w (low (FR l)) (valOf vs):=by
 match l,vs,h with
 |[],[],_=>exact .gm _ _ rfl (λj t v h=>by simp[bn]at h)
 |[v],[x],h=>exact h.2 0 _ _ rfl rfl
 |v::e::l,x::i::vs,h=>exact .gm _ _ (by simpa using h.1) (λj t u b d=>h.2 j t u b (by simpa using d))
 |[],_::_,h=>exact absurd h.1 (by simp[bn])
 |_::_,[],h=>exact absurd h.1 (by simp[bn])
 |[_],_::_::_,h=>exact absurd h.1 (by simp[bn])
 |_::_::_,[_],h=>exact absurd h.1 (by simp[bn])
def oZ.iJ{I:Nat->Prop}{w:World}{ps:List Pk}{x:fU S.A ps}{vs:List Value}{al:List fq}{bl:List Nat}(h:oZ S I w ps x vs al bl):∀a∈al,∀b,a.at b->¬I b:=by
 induction h with
 |nil=>intro a d;cases d
 |one h1 h2 g=>
  intro a d b e;rcases dY.1 d with d|d
  .exact h1.iJ a d b e
  .exact g a d b e
 |box i h1 h2 g=>
  intro a d b e;rcases dY.1 d with d|d
  .exact h1.iJ a d b e
  .exact g a d b e
 |hid i h1 h2 g=>
  intro a d b e;rcases dY.1 d with d|d
  .exact h1.iJ a d b e
  .exact g a d b e
def rf{α β:Type}{x:Option α}{f:α->Option β}{r:β}(h:ai x f=Z r):∃a,x=Z a∧f a=Z r:=by
 unfold ai at h;split at h
 .exact ⟨_,rfl,h⟩
 .cases h
def oZ.ank{x:fU S.A ps}(h:oZ S I w ps x vs al bl):bU ps=W->al=[]∧bl=[]:=by
 induction h with
 |nil=>intro _;exact⟨rfl,rfl⟩
 | @one c ps x h v vs al d bl h1 h2 g=>
  intro b;cases c with
  |own e=>simp[bU]at b
  |jr n j t=>simp[bU]at b
  |nil e=>simp[bU]at b
  |ptr t=>simp[bU]at b
  |dat t=>
   obtain⟨rfl,rfl⟩:=g (by simpa[bU]using b);cases h1 with|dat _ i=>cases i;exact⟨rfl,rfl⟩
 |box=>intro b;simp[bU]at b
 |hid=>intro b;simp[bU]at b
def Bn{s:bq S}:∀{ps:List Pk}{l:List (V S)}{e:Option Nat}{x:fU S.A ps}{fz ow bs:List Nat},bU ps=W->dZ s ps l e=Z (x,fz,ow,bs)->ow=[]
 |[],[],_,x,fz,ow,bs,_,h=>by simp only[dZ,bg,bC]at h;exact h.2.2.1.symm
 | .one (.dat t)::ps,v::l,_,x,fz,ow,bs,b,h=>by
  simp only[dZ]at h;split at h
  .rename_i j a1 k h1 a2 m g d i;simp only[bg,bC]at h;obtain⟨_,_,rfl,_⟩:=h;rw[Bn (by simpa[bU]using b) i];simp only[lK]at d;split at d
   .simp only[bg,bC]at d;obtain⟨_,_,rfl⟩:=d;rfl
   .cases d
  .cases h
 | .one (.jr ..)::_,_,_,_,_,_,_,b,_=>by simp[bU]at b
 | .one (.nil _)::_,_,_,_,_,_,_,b,_=>by simp[bU]at b
 | .one (.ptr _)::_,_,_,_,_,_,_,b,_=>by simp[bU]at b
 | .one (.own _)::_,_,_,_,_,_,_,b,_=>by simp[bU]at b
 | .box _::_,_,_,_,_,_,_,b,_=>by simp[bU]at b
 | .hid _::_,_,_,_,_,_,_,b,_=>by simp[bU]at b
 |[],_::_,_,_,_,_,_,_,h=>by simp[dZ]at h
 | .one _::_,[],_,_,_,_,_,_,h=>by simp[dZ]at h
def Av{g:Gh}{I:Nat->Prop}{w w':World}:∀{cs:List Ck}{x:gl S.A cs}{vs:List Value}{al:List fq},rG cs=W->jc S I w cs x vs al->PW (aK g w') (bn (sO cs x)) vs
 |[],x,vs,al,_,h=>by cases h;exact⟨rfl,λj t v h=>by simp[bn,sO]at h⟩
 | .dat t::cs,x,vs,al,b,h=>by
  cases h with
  | @dat _ _ y h v vs al d m=>
  simp only[rG,dR]at b;obtain⟨p,q⟩:=Av (g:=g) (w':=w') b.2 m;refine⟨by simp only[sO,bn,fc];rw[p],λj r s i l=>?_⟩;cases j with
  |zero=>
   simp only[sO,bn,rM,bg]at i l;subst i;subst l;have:ee g.bA w' (enc S t y) v:=by
    cases t with
    |int k=>cases d;exact .lit _
    |bool=>cases d;exact .lit _
    |str=>cases d;exact .lit _
    |sl e=>simp[PY]at b
    |st n=>simp[PY]at b
    |cR n=>simp[PY]at b
   exact oc this
  |succ j=>exact q j r s (by simpa[sO,bn]using i) (by simpa using l)
 | .own _::_,_,_,_,b,_=>by simp[rG]at b
 | .jr ..::_,_,_,_,b,_=>by simp[rG]at b
 | .nil _::_,_,_,_,b,_=>by simp[rG]at b
 | .ptr _::_,_,_,_,b,_=>by simp[rG]at b
def rR(hS:fh S){g:Gh}{w:World}{s:bq S}(hs:bh g (aG s) w):∀{ps:List Pk}{l:List (V S)}{vals:List Value}{x:fU S.A ps}{fz:List Nat},jS s ps l=Z (x,fz)->PW (aK g w) (bn l) vals->
  (∀o∈fz,Live g (aG s) o)∧∀(G:Gh)(H:St)(k:List Nat),bh G H w->Ext s.fl g w G w->jC (aG s) H k->(∀o∈fz,o∈k)->∃B:Nat->Prop,(∀b,B b->b<w.heap.size)∧∀I:Nat->Prop,(∀b,G.bA b∨B b->I b)->oZ S I w ps x vals [] []
 |[],[],vals,x,fz,h,q=>by simp only[jS,bg,bC]at h;obtain⟨_,rfl⟩:=h;have:vals=[]:=td (by have:=q.1;simpa[bn]using this.symm);subst this;exact⟨λo i=>(by cases i),λ_ _ _ _ _ _ _=>⟨λ_=>False,λ_ h=>h.elim,λ_ _=>.nil⟩⟩
 |[],_::_,_,_,_,h,_=>by simp[jS]at h
 | .one c::_,[],_,_,_,h,_=>by cases c<;>simp[jS]at h
 | .box _::_,[],_,_,_,h,_=>by simp[jS]at h
 | .hid _::_,[],_,_,_,h,_=>by simp[jS]at h
 | .box _::_,_::_,_,_,_,h,_=>by simp[jS]at h
 | .hid _::_,_::_,_,_,_,h,_=>by simp[jS]at h
 | .one (.own _)::_,_::_,_,_,_,h,_=>by simp[jS]at h
 | .one (.jr ..)::_,_::_,_,_,_,h,_=>by simp[jS]at h
 | .one (.nil _)::_,_::_,_,_,_,h,_=>by simp[jS]at h
 | .one (.dat t)::ps,v::l,[],x,fz,_,q=>absurd q.1 (by simp[bn])
 | .one (.ptr t)::ps,v::l,[],x,fz,_,q=>absurd q.1 (by simp[bn])
 | .one (.dat t)::ps,v::l,val::vals,x,fz,h,q=>by
  simp only[jS]at h;split at h;rotate_left
  .cases h
  rename_i y os y2 os2 h1 h2;simp only[bg,bC]at h;obtain⟨rfl,rfl⟩:=h;have r:aK g w (low v) val:=q.2 0 _ _ rfl rfl;have U:PW (aK g w) (bn l) vals:=⟨by have:=q.1;simpa[bn]using this,λj a b k1 k2=>q.2 (j+1) a b (by simpa[bn]using k1) (by simpa using k2)⟩;obtain⟨p,hd,hp⟩:=od hS s t v h1;obtain⟨q1,q2⟩:=kF hs (low v) hd hp r;obtain⟨q3,q4⟩:=rR hS hs h2 U;refine⟨λo i=>(dY.1 i).elim (q1 o) (q3 o),λG H k m L hf d=>?_⟩;obtain⟨B,hB,hr⟩:=q4 G H k m L hf (λo i=>d o (iS _ i));have hx:=q2 G H m L (hf.sub λo i=>d o (eH _ i));exact⟨B,hB,λI K=>oZ.one (al:=[]) (.dat (hx.le λb O=>K b (.inl O)) .nil) (hr I K)⟩
 | .one (.ptr t)::ps,v::l,val::vals,x,fz,h,q=>by
  simp only[jS]at h;split at h;rotate_left
  .cases h
  rename_i y os y2 os2 h1 h2;simp only[bg,bC]at h;obtain⟨rfl,rfl⟩:=h;have r:aK g w (low v) val:=q.2 0 _ _ rfl rfl;have U:PW (aK g w) (bn l) vals:=⟨by have:=q.1;simpa[bn]using this,λj a b k1 k2=>q.2 (j+1) a b (by simpa[bn]using k1) (by simpa using k2)⟩;obtain⟨q3,q4⟩:=rR hS hs h2 U;unfold aaA at h1;split at h1
  .rename_i u z;split at h1;rotate_left
   .cases h1
   rename_i z' hz;simp only[bg,bC]at h1;obtain⟨rfl,rfl⟩:=h1;obtain⟨rfl,hz⟩:=HX hz;cases hz;simp only[low]at r;cases r with
   |mD _ _ ad vv hi hc hd=>
   refine⟨λo i=>q3 o (by simpa using i),λG H k m L hf d=>?_⟩;obtain⟨B,hB,hr⟩:=q4 G H k m L hf (λo i=>d o (by simpa using i));exact⟨B,hB,λI K=>oZ.one (al:=[]) (.ptr (K _ (.inl (L.bA _ hi))) hc (λj c C=>(hd j c C).le λb O=>K _ (.inl (L.bA _ O))) .nil) (hr I K)⟩
  .rename_i o;split at h1;rotate_left
   .cases h1
   rename_i cs i;rcases af h1 with⟨hst,h1⟩|⟨_,h1⟩;rotate_left
   .cases h1
   simp only[low]at r;cases r with
   |ptr _ _ b O=>
   have ho':(aG s).ob.get o=Z (.box (bn cs)):=by rw[aY,i];rfl
   obtain⟨vs,ty,X,hl,hcell⟩:=(hs.box o b O).box ho';have SI:aK g w (low (.agg cs)) (.agg vs):=by simp only[low];exact .agg _ _ hl hcell
   obtain⟨p,hd,hp⟩:=od hS s t (.agg cs) h1;obtain⟨q1,q2⟩:=kF hs _ hd hp SI;refine⟨λo i=>(dY.1 i).elim (q1 o) (q3 o),λG H k m L hf d=>?_⟩;obtain⟨B,hB,hr⟩:=q4 G H k m L hf (λo i=>d o (iS _ i));have hx:=q2 G H m L (hf.sub λo i=>d o (eH _ i));refine⟨λb'=>B b'∨b'=b,λb' hb'=>hb'.elim (hB b') λe=>by rw[e];exact(hs.box o b O).2.1,λI K=>oZ.one (al:=[]) ?_ (hr I λb' hb'=>K b' (hb'.imp id .inl))⟩;cases t with
   |st n=>
    have hx':∃l,enc S (.st n) y=.agg l:=⟨_,rfl⟩;obtain⟨l,hl'⟩:=hx';rw[hl']at hx;cases hx with
    |agg _ _ e1 e2 e3=>
    have R:∀j,(⟨b,0,Y⟩:Addr).add j=⟨b,j,Y⟩:=λj=>by
     unfold Addr.add;split
     .rename_i e;rw[e]
     .simp
    have:=jc.ptr (S:=S) (I:=I) (w:=w) (t:=.st n) (cs:=[]) (x:=y) (h:=()) (ad:=⟨b,0,Y⟩) (val:=λj=>(vs[j]?).getD undef) (vs:=[]) (al:=[]) (K _ (.inr (.inr rfl))) (λj c C=>?_) (λj c C=>?_) .nil
    .rw[R]at this;exact this
    .rw[hl']at C;have C:l[j]?=Z c:=C;have M:j<vs.size:=by rw[<-e1];exact(tc.1 C).1
     rw[R,cell?_of_block X,ov M];rfl
    .rw[hl']at C;have C:l[j]?=Z c:=C;have M:j<vs.size:=by rw[<-e1];exact(tc.1 C).1
     have:=e3 j c vs[j] C (ov M);rw[ov M];exact this.le λb O=>K b (.inl O)
   |_=>cases hst
  .cases h1
def BA(hS:fh S){P:Program}{f:FuncId}{c:kT S}(SE:bD P f c)(hs:bh g (aG s) w){args:List (V S)}{vs:Array Value}(lO:PW (aK g w) (bn args) vs.toList)
  {ω:Type} {kp:V S->bq S->Option ω} {k:V S->bq S->List Nat->Option ω} {res:ω} (h:Mq s c args kp k=Z res) :
  mj P f∧Calls P f vs w λ
   | .returned v,w'=>∃t s' g' G,k t s' G=Z res∧aK g' w' (low t) v∧cM G s g w s' g' w'
   | .panicked ch,w'=>∃v t s' g',ch=[{v,recovered:=J}]∧kp t s'=Z res∧aK g' w' (low t) v∧cM [] s g w s' g' w'
   | .outgrown,_=>False:=by
 unfold Mq at h;rcases af h with⟨_,h0⟩|⟨_,h0⟩
 .clear h;unfold Wa at h0;rcases af h0 with⟨hc,h1⟩|⟨_,h1⟩;rotate_left
  .cases h1
  clear h0;simp only[dR]at hc;split at h1
  .cases h1
  rename_i x fz hpk;split at h1
  .cases h1
  rename_i O hfz;obtain⟨p1,p2⟩:=rR hS hs hpk lO;obtain⟨z,u,H,hfr⟩:=eo fz hs (cY hS _ hfz) p1;obtain⟨B,hB,K⟩:=p2 z (aG O) fz u H hfr (λo q=>q);obtain⟨r0,hF,h2⟩:=rf h1;split at h2;rotate_left
  .cases h2
  rename_i r hr;refine⟨SE.1,(SE.2 x r0 hF (λb=>z.bA b∨B b) w vs [] [] (K _ λ_ h=>h) (λb l=>l.elim (u.bA b) (hB b)) .nil .nil (λb l=>by cases l)).mono λe w' R=>?_⟩;rw[hr]at R;cases e with|outgrown=>exact R.elim|panicked ch=>exact R.elim|returned v=>obtain⟨I',vr,zo,zI,q1,q2,q3,q4,q5,q6,q7,rfl,q8,q9,_⟩:=R;have VM:∀b,b<w.heap.size->w'.heap[b]?=w.heap[b]?:=λb l=>q5 b l (by simp) (by simp);obtain⟨hs',he'⟩:=hs.grow (fl:=s.fl) (I:=g.bA) (w':=w') (λ_ h=>h) (λ_ h=>.inl h) (λb l=>dy (hs.bA b l) q4) q4 VM q6 q7;exact⟨_,s,g,[],h2,CQ (Av hc.2.1 q9),hs',he'.GH _,rfl,rfl,bP _,λ_ h=>h,λ_ _ _=>rfl,λt v ht _=>ht.ext he' hs.bA,λo q=>(by cases q),λ_ h=>h,λo q=>(by cases q)⟩
 clear h;have h:=h0;clear h0;split at h
 .cases h
 rename_i x fz G bs hpk;split at h
 .cases h
 rename_i O hfz;rcases af h with⟨QD,h2⟩|⟨_,h⟩
 .obtain ⟨p1,_,_,p3⟩:=jF hS hs hpk lO (λo q=>by cases q);obtain⟨z,u,H,hfr⟩:=eo fz hs (cY hS _ hfz) p1;simp only[Vg,dR]at QD;obtain⟨f1,f2,f3,f4,f5,f6,f7⟩:=ew hfz;obtain⟨al,bl,K,_,_⟩:=p3 z (aG O) fz u H hfr (λo q=>q) (λo q=>by rw[Bn QD.1 hpk]at q;cases q);obtain⟨rfl,rfl⟩:=K.ank QD.1;clear h;obtain⟨r0,hF,h2⟩:=rf h2;split at h2;rotate_left
  .cases h2
  rename_i r hr;refine⟨SE.1,(SE.2 x r0 hF z.bA w vs [] [] K u.bA .nil .nil (λb l=>by cases l)).mono λe w' R=>?_⟩;rw[hr]at R;cases e with|outgrown=>exact R.elim|panicked ch=>exact R.elim|returned v=>obtain⟨I',vr,zo,zI,q1,q2,q3,q4,q5,q6,q7,rfl,q8,q9,_⟩:=R;have VM:∀b,b<w.heap.size->w'.heap[b]?=w.heap[b]?:=λb l=>q5 b l (by simp) (by simp);obtain⟨hs',he'⟩:=hs.grow (fl:=s.fl) (I:=g.bA) (w':=w') (λ_ h=>h) (λ_ h=>.inl h) (λb l=>dy (hs.bA b l) q4) q4 VM q6 q7;refine⟨_,s,g,[],h2,CQ (Av QD.2.1 q9),hs',he'.GH _,rfl,rfl,bP _,λ_ h=>h,λ_ _ _=>rfl,λt v ht _=>ht.ext he' hs.bA,λo q=>(by cases q),λ_ h=>h,λo q=>(by cases q)⟩
 rcases af h with⟨l,h2⟩|⟨_,h2⟩;rotate_left
 .cases h2
 clear h;simp only[dR]at l;have VJ:=l5 l.1;have amb:=l5 l.2.1;have hap:=xF l.2.2;unfold ai at h2;split at h2;rotate_left
 .cases h2
 rename_i r hF;dsimp only at h2;obtain⟨p1,p2,p4,p3⟩:=jF hS hs hpk lO (λo q=>by cases q);have hfl:=cY hS _ hfz;obtain⟨z,u,H,hfr⟩:=eo fz hs hfl p1;obtain⟨f1,f2,f3,f4,f5,f6,f7⟩:=ew hfz;obtain⟨al,bl,K,hal,TH⟩:=p3 z (aG O) fz u H hfr (λo q=>q) (λo q=>by rw[aY,aY,f6 o (hap o q)]);have aaT:∀o∈bs,∃ob,O.ob.get o=Z ob∧rO ob=W:=by
  intro o q;obtain⟨_,XS,hvs,Km⟩:=p4 o q;have hnf:o∉fz:=λhm=>by have:=(p1 o hm).oJ (by rw[aY,hvs];rfl);rw[mK Km]at this;cases this
  exact⟨XS,by rw[f6 o hnf];exact hvs,Km⟩
 have acF:∀o∈bs,∀e,z.arr o e=Y:=by intro o q e;obtain⟨vs',hvs,Km⟩:=aaT o q;cases hx:z.arr o e with|none=>rfl|some x'=>exfalso;obtain⟨_,h2⟩:=u.arr o e x' hx;exact Ls Km (h2 _ (by rw[aY,hvs];rfl))
 have hni:∀a∈al,∀b,a.at b->¬z.bA b:=K.iJ;have SH:=hal.owned hni;have agB:=hal.apart u VJ hni;have acU:∀b∈bl,∃o∈bs,z.cg o=Z b:=by
  intro b l;obtain⟨j,hj,rfl⟩:=s9 l;have hj':j<bs.length:=by have:=TH.1;omega
  exact⟨bs[j],FX hj',TH.2 j _ _ (fP hj') (fP hj)⟩
 have amD:∀o∈bs,∃b∈bl,z.cg o=Z b:=by
  intro o q;obtain⟨j,hj,rfl⟩:=s9 q;have hj':j<bl.length:=by have:=TH.1;omega
  exact⟨bl[j],FX hj',TH.2 j _ _ (fP hj) (fP hj')⟩
 have hOb:∀o b,z.cg o=Z b->bM z o b:=λo b h=>⟨(u.box o b h).1,.inl h⟩;have amE:bl.Nodup:=by
  refine RK.2 λi j hi hj hij heq=>?_;have hlen:=TH.1;have hi':i<bs.length:=by omega
  have hj':j<bs.length:=by omega
  have e1:=TH.2 i _ _ (fP hi') (fP hi);have e2:=TH.2 j _ _ (fP hj') (fP hj);rw[<-heq]at e2;exact(RK.1 amb i j hi' hj' hij) (u.lV _ _ _ (hOb _ _ e1) (hOb _ _ e2))
 have acV:∀b∈bl,b<w.heap.size∧¬z.bA b∧∀a∈al,¬a.at b:=by intro b l;obtain⟨o,q,U⟩:=acU b l;refine⟨(u.box o b U).2.1,(u.box o b U).1,λa M CB=>?_⟩;obtain⟨o',ho',Zx⟩:=SH a M b CB;have:=u.lV o o' b (hOb o b U) Zx;subst this;obtain⟨vs',hvs,Km⟩:=aaT o q;obtain⟨_,_,_,oba,alX,hB⟩:=p2 o ho';rw[f6 o (hap o ho')]at hvs;have hvs:s.ob.get o=Z vs':=hvs;rw[alX]at hvs;cases hvs;have:=sx hB;rw[mK Km]at this;cases this
 have core:∀(rs:List Ck)(r:gl S.A rs×iD S.A c.ps)(s2:bq S),j7 (HT bs (forget G {O with wr:=G++O.wr,dr:=G++O.dr})) c.ps bs r.2=Z s2->(gI s2 rs r.1).2.aH<=bB->∀(v:Value)(w':World),CL S z.bA w c.ps rs r al bl v w'->
   ∃g',aK g' w' (low (FR (gI s2 rs r.1).1)) v∧cM G s g w (gI s2 rs r.1).2 g' w':=by
  clear h2;intro rs r s2 hput amg v w' R;obtain⟨I',vr,zo,zI,q1,q2,q3,q4,q5,q6,q7,rfl,q8,q9,q10,q11,q12⟩:=R
  let sF:bq S:=forget G {O with wr:=G++O.wr,dr:=G++O.dr}
  let sD:bq S:=HT bs sF
  obtain⟨t1,t2,t3,t5,t4⟩:=SQ G {O with wr:=G++O.wr,dr:=G++O.dr};have acy:bh z (aG {O with wr:=G++O.wr,dr:=G++O.dr}) w:=u;have hsF:bh (z.drop G) (aG sF) w:=Me G acy;have amC:∀o∈bs,o<O.aH:=λo q=>by obtain⟨b,_,l⟩:=amD o q;exact u.lt l
  have hnob1:O.aH<=bB:=u.aH;have VO:∀o,sD.ob.get o=if o∈bs then Y else sF.ob.get o:=λo=>Tr.qT bs _ o (λb l=>by have:=amC b l;omega)
  have hsD:bh (z.drop G) (aG sD) w:=by
   have hsub:∀o ob,(aG sD).ob.get o=Z ob->(aG sF).ob.get o=Z ob:=by
    intro o ob h;rw[aY,VO]at h;split at h
    .cases h
    .rw[aY];exact h
   refine⟨hsF.aH,hsF.ai,λo b h=>?_,λo e x h=>?_,hsF.bA,hsF.lV⟩
   .obtain ⟨k1,k2,k3⟩:=hsF.box o b h;exact⟨k1,k2,λob U=>k3 ob (hsub o ob U)⟩
   .obtain ⟨k1,k2⟩:=hsF.arr o e x h;exact⟨k1,λob U=>k2 ob (hsub o ob U)⟩
  let X:Nat->Prop:=λb=>b∈bl∨∃a∈al,a.at b
  have Ov:∀o b,bM (z.drop G) o b->bM z o b:=λo b h=>Gh.xw h;have aaU:∀a∈al,∀b,a.at b->∀o,¬bM (z.drop G) o b:=by
   intro a M b l o C;obtain⟨o',ho',Zx⟩:=SH a M b l;have:=u.lV o o' b (Ov o b C) Zx;subst this;obtain⟨_,h|⟨e,x',ad,h,_⟩⟩:=C
   .have h:z.cg o=Z b:=h;obtain⟨_,_,_,oba,U,hB⟩:=p2 o ho';have hnb:=u.yI (o:=o) (ob:=cQ oba) ((aY O o).trans (by rw[f6 o (hap o ho'),U];rfl)) (sx hB);rw[hnb]at h;cases h
   .exact (Gh.EJ h).1 ho'
  have hstep:bh {z.drop G with bA:=I'} (aG sD) w':=by
   refine hsD.step (X:=X) q1 (λb l=>?_) q3 q4 (λb l hX=>q5 b l (λh=>hX (.inl h)) (λa M h=>hX (.inr ⟨a,M,h⟩))) (λo b hX C=>?_) (λb hX=>?_)
   .rcases q2 b l with h|h|h
    .exact .inl h
    .exact .inr (.inl h)
    .exact .inr (.inr (.inr h))
   .rcases hX with hX|⟨a,M,L⟩
    .obtain ⟨o',ho',alZ⟩:=acU b hX;have:=u.lV o o' b (Ov o b C) (hOb _ _ alZ);subst this;exact⟨by rw[aY,VO,bJ ho'];rfl,(q12 b hX).1⟩
    .exact absurd C (aaU a M b L o)
   .rcases hX with hX|⟨a,M,L⟩
    .exact (acV b hX).2.1
    .exact hni a M b L
  have aaL:∀o b,bM ({z.drop G with bA:=I'}:Gh) o b->bM (z.drop G) o b:=λo b h=>⟨λhi=>h.1 (q1 b hi),h.2⟩;have hfresh:∀a∈zo++zI,∀b,a.at b->∀o,¬bM ({z.drop G with bA:=I'}:Gh) o b:=by
   intro a M b l o C;have C:=aaL o b C;rcases q11 a M b l with⟨a',ha',hb'⟩|hge
   .exact aaU a' ha' b hb' o C
   .have:=(hsD.qJ C).1;omega
  have ac0:=rK.1 q10;have hs3n:s2.aH<=(gI s2 rs r.1).2.aH:=mF _ _ _;obtain⟨g4,hp⟩:=Lm (g:={z.drop G with bA:=I'}) (s:=sD) q8 hstep TH (λo q e=>by
    show(if o∈G then Y else z.arr o e)=Y;split
    .rfl
    .exact acF o q e) (λa M=>hfresh a (eH _ M)) ac0.1 hput (by omega)
  obtain⟨g5,hu,alM⟩:=lW (g:=g4) (by rw[hp.bA];exact q9) hp.rel (λa M b l o C=>by
    rcases hp.own o b C with C|⟨_,a2,SJ,qg⟩
    .exact hfresh a (iS _ M) b l o C
    .exact ac0.2.2 a2 SJ a M b qg l) ac0.2.1 amg
  have hle:nW ({z.drop G with bA:=I'}:Gh) g5:=hp.le.trans hu.le;have aaQ:g5.bA=I':=hu.bA.trans hp.bA;have hnobD:sD.aH=O.aH:=t3;have al4:O.aH<=(gI s2 rs r.1).2.aH:=by have:=hp.aH;omega
  have af6:∀k b,bM g5 k b->bM g k b∨(s.fl<=k∧∃o',s.fl<=o'∧bM g o' b)∨w.heap.size<=b:=by
   intro k b C;have aaN:∀a∈zo++zI,a.at b->O.aH<=k->bM g k b∨(s.fl<=k∧∃o',s.fl<=o'∧bM g o' b)∨w.heap.size<=b:=by
    intro a M L hk';rcases q11 a M b L with⟨a',ha',hb'⟩|hge
    .obtain ⟨o',ho',Zx⟩:=SH a' ha' b hb';rcases H.own o' b Zx with Zx|hge
     .have VH:=p2 o' ho';exact .inr (.inl ⟨by omega,o',VH.1,Zx⟩)
     .exact .inr (.inr hge)
    .exact .inr (.inr hge)
   rcases hu.own k b C with C|⟨h1,a,M,L⟩
   .rcases hp.own k b C with C|⟨h1,a,M,L⟩
    .rcases H.own k b (Ov k b (aaL k b C))with C|hge
     .exact .inl C
     .exact .inr (.inr hge)
    .exact aaN a (eH _ M) L (by omega)
   .have:=hp.aH;exact aaN a (iS _ M) L (by omega)
  refine⟨g5,CQ alM,hu.rel,⟨λo b l=>?_,λo e y hl hy=>?_,λb l=>?_,q4,λb l hno=>?_,λo b q C=>?_,λb l=>?_,q6,q7⟩,?_,?_,?_,λo q=>?_,λo hl q=>?_,λt v ht hm=>?_,λo q=>?_,λo q=>?_,λo q=>?_⟩
  .rw[hu.cg,hp.cg];exact H.cg o b l
  .have hno:o∉G:=λhm=>by have:=(p2 o hm).2.1;omega
   have h1:({z.drop G with bA:=I'}:Gh).arr o e=Z y:=by show(if o∈G then Y else z.arr o e)=Z y;rw[br hno];exact H.arr o e y hy
   exact hle.arr o e y h1
  .rw[aaQ];exact q1 b (H.bA b l)
  .refine q5 b l (λhm=>?_) (λa M L=>?_)
   .obtain ⟨o,q,U⟩:=acU b hm;rcases H.own o b (hOb o b U)with C|hge
    .exact hno o (p4 o q).1 C
    .omega
   .obtain ⟨o,q,C⟩:=SH a M b L;rcases H.own o b C with C|hge
    .exact hno o (p2 o q).1 C
    .omega
  .rcases af6 o b C with h|⟨_,h⟩|h
   .exact .inl ⟨o,q,h⟩
   .exact .inl h
   .exact .inr h
  .rw[aaQ]at l;rcases q2 b l with h|h|⟨a,M,L⟩
   .exact H.tZ b h
   .exact .inr (.inl h)
   .obtain ⟨o,q,C⟩:=SH a M b L;rcases H.own o b C with C|hge
    .exact .inr (.inr ⟨o,(p2 o q).1,C⟩)
    .exact .inr (.inl hge)
  .exact hu.fl.trans (hp.fl.trans (t1.trans f1))
  .exact hu.lo.trans (hp.lo.trans (t2.trans f2))
  .omega
  .rw[hu.wr];exact hp.uW o (t4 o (iS _ (f4 o q)))
  .rw[hu.wr]at q;have h1:o∉bs:=λhm=>q (hp.wrb o hm);have h2:o∉sF.wr:=λhm=>q (hp.uW o hm);have h3:o∉O.wr:=λhm=>h2 (t4 o (iS _ hm));rw[hu.ob o (by have:=hp.aH;omega),hp.ob o (by omega) h1,VO,br h1,Md _ _ _ h2];exact f5 o h3
  .have h1:=ht.ext H hs.bA;have h2:=h1.drop hm;have hkp:sZ (z.drop G).bA w w':=λb l=>q5 b (u.bA b l) (λhmm=>(acV b hmm).2.1 l) (λa M L=>hni a M b L l);have h3:aK ({z.drop G with bA:=I'}:Gh) w' t v:=by
    clear hm h1 ht
    induction h2 with|sym d v hd=>exact .sym d v (hd.mono hkp q1)|kb b=>exact .kb b|kn k n=>exact .kn k n|ptr o off b l=>exact .ptr o off b l|mD d off ad val SC hc hd=>exact .mD d off ad val (q1 _ SC) (λj c hj=>by rw[hkp.cell (by rw[kN];exact SC)];exact hc j c hj) (λj c hj=>(hd j c hj).mono hkp q1)|kA o e i off len cap sz ad hx=>exact .kA o e i off len cap sz ad hx|sh o e len cap sz a hx=>exact .sh o e len cap sz a hx|emp a=>exact .emp a|jy n es a hn hd=>exact .jy n es a hn (hd.mono hkp q1)|fn f fs cs va vc hl hm _ _ ih ih'=>exact .fn f fs cs va vc hl hm ih ih'|cR t x v _ ih=>exact .cR t x v ih|agg cs vs hl _ ih=>exact .agg cs vs hl ih|gm cs vs hl _ ih=>exact .gm cs vs hl ih|gd c t v _ ih=>exact .gd c t v ih|mp o b l=>exact .mp o b l|ry o b l=>exact .ry o b l|ru o b l=>exact .ru o b l|ub e b h=>exact .ub e b h|qd o m r i len cap sz a hx=>exact .qd o m r i len cap sz a hx|nQ j d c a hj hd=>exact .nQ j d c a hj (hd.mono hkp q1)
   exact h3.le hle
  .rw[hu.wr];exact hp.uW o (t4 o (eH _ q))
  .rw[hu.dr,hp.dr];show o∈sF.dr;rw[t5];exact iS _ (by rw[f7];exact q)
  .rw[hu.dr,hp.dr];show o∈sF.dr;rw[t5];exact eH _ q
 refine⟨SE.1,(SE.2 x r hF z.bA w vs al bl K u.bA agB amE acV).mono λe w' R=>?_⟩;cases e with
 |outgrown=>exact R.elim
 |returned v=>
  simp only[vF]at R;split at R;rotate_left
  .exact R.elim
  rename_i r' hr';rw[hr']at h2;dsimp only at h2;split at h2
  .cases h2
  rename_i s2 hput;rcases af h2 with⟨hlt,hk⟩|⟨_,hk⟩;rotate_left
  .cases hk
  obtain⟨g5,k1,k2⟩:=core c.rs r' s2 hput (fQ hlt) v w' R;exact⟨_,_,g5,G,hk,k1,k2⟩
 |panicked ch=>
  simp only[vF]at R;split at R
  .exact R.elim
  rename_i p hp;obtain⟨v,rfl,R⟩:=R;rw[hp]at h2;dsimp only at h2;split at h2
  .cases h2
  rename_i s2 hput;split at h2;rotate_left
  .cases h2
  rcases af h2 with⟨hlt,hk⟩|⟨_,hk⟩;rotate_left
  .cases hk
  obtain⟨g5,k1,k2⟩:=core [.dat S.pt] ((p.1,()),p.2) s2 hput (fQ hlt) v w' R;exact⟨v,_,_,g5,rfl,hk,k1,k2⟩
end
section
structure iE(s s':bq S):Prop where
 uW:∀o∈s.wr,o∈s'.wr
 same:∀o,o<s.aH->o∉s'.wr->s'.ob.get o=s.ob.get o
 dr:s'.dr=s.dr
def iE.refl(s:bq S):iE s s:=⟨λ_ h=>h,λ_ _ _=>rfl,rfl⟩
variable {g:Gh}{w:World}{s s':bq S}{i:TI}{x v:V S}{c:Bool}{E:gA}
def cM.lM{g':Gh}{w':World}(hs:bh g (aG s) w)(h1:bh g' (aG s') w')(h2:Ext s.fl g w g' w')(h3:s'.fl=s.fl)(h4:s'.lo=s.lo)(h5:s.aH<=s'.aH)(h6:iE s s'):cM [] s g w s' g' w':=
 ⟨h1,h2.GH _,h3,h4,h5,h6.uW,h6.same,λ_ _ d _=>d.ext h2 hs.bA,λo b=>(by cases b),λo b=>h6.dr▸b,λo b=>(by cases b)⟩
def cM.refl{g:Gh}{w:World}{s:bq S}(hs:bh g (aG s) w):cM [] s g w s g w:=
 cM.lM hs hs (Ext.refl _ _ _) rfl rfl (bP _) (iE.refl _)
def iK(s:bq S)(ob:vX S)(hn:s.aH<bB):iE s (dm s ob):=
 ⟨λ_ h=>h,λo b _=>by simp only[dm];rw[Tr.aX _ _ _ _ hn,br (by omega)],rfl⟩
def kI{os:List Nat}(h:dz s os=Z s'):iE s s':=by obtain⟨_,_,_,h1,h2,_,h3⟩:=ew h;exact⟨h1,λo _ b=>h2 o b,h3⟩
def rD(s:bq S)(o:Nat)(ob:vX S):iE s {s with ob:=s.ob.set aJ o ob,wr:=o::s.wr}:=
 ⟨λ_ h=>gJ _ h,λk _ b=>Tr.dc _ _ _ _ _ (λe=>b (by rw[e];exact ez)),rfl⟩
def iE.trans'{b:bq S}(h:iE s s')(hn:s.aH<=s'.aH)(k:iE s' b):iE s b:=
 ⟨λo e=>k.uW o (h.uW o e),λo e d=>(k.same o (dy e hn) d).trans (h.same o e (λg=>d (k.uW o g))),k.dr.trans h.dr⟩
def NG{a:V S}(h:CV i s a x=Z (c,v,s')):iE s s':=by
 unfold CV at h;split at h
 .cases h
 .split at h
  .split at h
   .rcases af h with⟨_,h⟩|⟨_,h⟩
    .simp only[bg,bC]at h;obtain⟨_,_,rfl⟩:=h;exact rD _ _ _
    .cases h
   .cases h
  .split at h
   .split at h
    .split at h
     .rename_i b;split at h
      .split at h
       .rcases af h with⟨_,h⟩|⟨_,h⟩
        .simp only[bg,bC]at h;obtain⟨_,_,rfl⟩:=h;exact(kI b).trans' (yw (ew b).2.2.1.symm) (rD _ _ _)
        .cases h
       .cases h
      .cases h
     .cases h
    .cases h
   .cases h
  .cases h
def CY{τ:Option Ty}{l h m:Option (V S)}(b:tH i τ s x l h m=Z (c,v,s')):s'=s∨dz s (Lv x)=Z s':=by
 unfold tH at b
 repeat' split at b
 all_goals first
  |(cases b;done)
  |(
    simp only[bg,bC]at b;obtain⟨_,_,rfl⟩:=b;first|exact .inl rfl|(right;assumption))
def UT{fr:bW S}{o:Op}(h:cm E fr s o=Z (c,v,s')):iE s s':=by
 have same:s'=s->iE s s':=λe=>e▸iE.refl _;cases o with
 |alloc t=>
  simp only[cm]at h;split at h
  .rcases af h with⟨d,h⟩|⟨_,h⟩
   .simp only[bg,bC]at h;obtain⟨_,_,rfl⟩:=h;exact iK _ _ (fQ d)
   .cases h
  .cases h
 |box t x=>
  simp only[cm]at h;split at h
  .rcases af h with⟨d,h⟩|⟨_,h⟩
   .simp only[eC,bC]at h;obtain⟨_,_,_,_,rfl⟩:=h;exact iK _ _ (fQ d)
   .cases h
  .cases h
 |buildSlice t n ps=>
  simp only[cm]at h;split at h
  .split at h
   .rcases af h with⟨_,h⟩|⟨_,h⟩
    .split at h
     .simp only[eC,bC]at h;obtain⟨i,g,_,_,rfl⟩:=h;exact kI g
     .cases h
    .cases h
   .cases h
  .cases h
 |store t x y=>
  simp only[cm]at h;split at h
  .exact NG h
  .cases h
 |slice t x lo hi j=>
  simp only[cm]at h;split at h
  .rcases CY h with rfl|h
   .exact iE.refl _
   .exact kI h
  .cases h
 |move x=>simp only[cm,eC,bC]at h;obtain⟨_,_,_,_,rfl⟩:=h;exact iE.refl _
 |assign x=>simp only[cm,eC,bC]at h;obtain⟨_,_,_,_,rfl⟩:=h;exact iE.refl _
 |pick x y z=>
  simp only[cm]at h;split at h
  .simp only[eC,bC]at h;obtain⟨_,_,_,_,rfl⟩:=h;exact iE.refl _
  .cases h
 |build t ps=>
  simp only[cm]at h;split at h
  .split at h
   .simp only[eC,bC]at h;obtain⟨_,_,_,_,rfl⟩:=h;exact iE.refl _
   .cases h
  .cases h
 |load t x=>
  simp only[cm]at h;split at h
  .unfold wu at h;split at h
   .split at h
    .dsimp only at h;rcases af h with⟨_,h⟩|⟨_,h⟩
     .simp only[eC,bC]at h;obtain⟨_,_,_,_,rfl⟩:=h;exact iE.refl _
     .cases h
    .cases h
   .simp only[eC,bC]at h;obtain⟨_,_,_,_,rfl⟩:=h;exact iE.refl _
   .split at h
    .simp only[eC,bC]at h;obtain⟨_,_,_,_,rfl⟩:=h;exact iE.refl _
    .cases h
   .cases h
  .cases h
 |nilCheck x=>
  simp only[cm]at h;split at h;all_goals first
   |(cases h;done)
   |(
     simp only[bg,bC]at h;obtain⟨_,_,rfl⟩:=h;exact iE.refl _)
 |binOp op t x y u=>
  simp only[cm]at h;split at h
  .simp only[eC,bC]at h;obtain⟨_,_,_,_,rfl⟩:=h;exact iE.refl _
  .cases h
 |unOp op t x=>
  simp only[cm]at h;split at h
  .simp only[eC,bC]at h;obtain⟨_,_,_,_,rfl⟩:=h;exact iE.refl _
  .cases h
 |convert t u x=>
  simp only[cm]at h;split at h
  .exact same (Ax h).1
  .cases h
 |makeInterface t x=>
  simp only[cm]at h;split at h
  .split at h
   .cases h
   .simp only[bg,bC]at h;obtain⟨_,_,rfl⟩:=h;exact iE.refl _
  .cases h
 |makeFunc f a b=>
  simp only[cm]at h;split at h
  .simp only[bg,bC]at h;obtain⟨_,_,rfl⟩:=h;exact iE.refl _
  .cases h
 |extract x k=>
  simp only[cm]at h;split at h
  .exact same (se h).1
  .cases h
 |fieldAddr t x k=>
  simp only[cm]at h;split at h
  .exact same (oN h).1
  .cases h
 |field t x k=>
  simp only[cm]at h;split at h
  .unfold Al at h;split at h
   .split at h
    .dsimp only at h;rcases af h with⟨_,h⟩|⟨_,h⟩
     .simp only[eC,bC]at h;obtain⟨_,_,_,_,rfl⟩:=h;exact iE.refl _
     .cases h
    .cases h
   .cases h
  .cases h
 |indexAddr t x y=>
  simp only[cm]at h;split at h
  .unfold ju at h;split at h
   .split at h
    .split at h
     .rcases af h with⟨_,h⟩|⟨_,h⟩
      .simp only[bg,bC]at h;obtain⟨_,_,rfl⟩:=h;exact iE.refl _
      .cases h
     .cases h
    .split at h
     .simp only[bg,bC]at h;obtain⟨_,_,rfl⟩:=h;exact iE.refl _
     .cases h
   .cases h
  .cases h
 |index t x y=>
  simp only[cm]at h;split at h
  .unfold Ae at h;split at h
   .simp only[bg,bC]at h;obtain⟨_,_,rfl⟩:=h;exact iE.refl _
   .cases h
  .cases h
 |typeAssert x t u ok=>
  simp only[cm]at h;split at h
  .exact same (uC h).1
  .cases h
 |_=>simp[cm]at h
def Gt{b:Builtin}{e:Array TypeId}{args:List (V S)}(h:eZ E s b e args=Z (c,v,s')):iE s s':=by
 unfold eZ at h;split at h
 .split at h
  .split at h
   .simp only[bg,bC]at h;obtain⟨_,_,rfl⟩:=h;exact iE.refl _
   .cases h
  .split at h
   .simp only[eC,bC]at h;obtain⟨_,_,_,_,rfl⟩:=h;exact iE.refl _
   .cases h
  .cases h
 .split at h
  .split at h
   .split at h
    .unfold CI at h;rcases af h with⟨_,h⟩|⟨g,h⟩
     .cases h
     .have d:s.aH<bB:=by
       have:Nat.blt s.aH bB=W:=by simpa using g
       exact fQ this
      split at h
      .split at h
       .simp only[bg,bC]at h;obtain⟨_,_,rfl⟩:=h;exact iK _ _ d
       .split at h
        .split at h
         .simp only[bg,bC]at h;obtain⟨_,_,rfl⟩:=h;exact iK _ _ d
         .simp only[bg,bC]at h;obtain⟨_,_,rfl⟩:=h;exact iE.refl _
        .cases h
       .split at h
        .split at h
         .rcases af h with⟨_,h⟩|⟨_,h⟩
          .simp only[bg,bC]at h;obtain⟨_,_,rfl⟩:=h;exact rD _ _ _
          .cases h
         .cases h
        .cases h
       .cases h
      .cases h
    .cases h
   .cases h
  .cases h
 .cases h
end
section
section
variable {g:Gh}{w w':World}
variable {s:St}{o b c:Nat}{ob:Ob}{kt:Ty}{u z:Value}{ms:Array MapEntry}
def bh.setObj(hs:bh g s w)(t:g.cg o=Z b){XS:Ob}(q:s.ob.get o=Z ob)(u:ob.odd=W)(C:s.fl<=o){x':Obj}(L:gW g w XS x')
  (G:w'.heap.size=w.heap.size) (i:∀j,j≠b->w'.heap[j]?=w.heap[j]?) (v:w'.heap[b]?=Z x') (H:w'.os=w.os) (y:w'.output=w.output) :
  bh g {s with ob:=s.ob.set aJ o XS} w'∧Ext s.fl g w g w':=by
 have k:bM g o b:=⟨(hs.box o b t).1,.inl t⟩;have r:o<bB:=dy (hs.lt t) hs.aH;have B:Ext s.fl g w g w':=
  ⟨λ_ _ h=>h,λ_ _ _ h=>h,λ_ h=>h,by omega,λj _ M=>i j (λe=>M o C (e▸k)),λ_ _ h=>.inl h,λ_ h=>.inl h,H,y⟩
 refine⟨⟨hs.aH,hs.ai,λm j d=>?_,λm e x I=>?_,λj d=>by have:=hs.bA j d;omega,hs.lV⟩,B⟩
 .by_cases l:m=o
  .subst l;rw[t]at d;simp at d;subst d;obtain⟨h1,h2,_⟩:=hs.box m b t;refine⟨h1,by omega,λO p=>⟨x',v,?_⟩⟩;simp only[]at p;rw[Tr.aX _ _ _ _ r,bJ rfl]at p;obtain rfl:=eK p;exact L.ext B hs.bA
  .have K:j≠b:=λe=>l (hs.lV m o b (e▸⟨(hs.box m j d).1,.inl d⟩) k);exact(hs.box m j d).ext B hs.bA (i j K) (by simp only[];rw[Tr.aX _ _ _ _ r,br l]) (hs.box m j d).1
 .have l:m≠o:=by
   rintro rfl
   have h4:=((hs.arr m e x I).2 _ q).oJ;cases ob<;>first|(cases u;done)|(cases h4;done)
  refine(hs.arr m e x I).ext B hs.bA (λj d R=>⟨i j ?_,qF⟩) (by simp only[];rw[Tr.aX _ _ _ _ r,br l]) rfl
  rintro rfl
  by_cases z:g.bA j
  .exact k.1 z
  .exact l (hs.lV m o j ⟨z,.inr ⟨e,x,_,I,d,rfl,R⟩⟩ k)
def bh.aiT(hs:bh g s w)(t:g.cg o=Z b)(r:s.ob.get o=Z ob)(u:ob.odd=W)(z:s.fl<=o)
  (B:w'.heap.size=w.heap.size) (i:∀j,j≠b->w'.heap[j]?=w.heap[j]?) (C:w'.os=w.os) (v:w'.output=w.output) :
  bh g {s with ob:=s.ob.del aJ o} w'∧Ext s.fl g w g w':=by
 have l:bM g o b:=⟨(hs.box o b t).1,.inl t⟩;have G:o<bB:=dy (hs.lt t) hs.aH;have cL:∀k,(s.ob.del aJ o).get k=if k=o then Y else s.ob.get k:=λk=>Tr.r8 _ _ _ _ (by unfold aJ;unfold bB at G;omega)
 have H:Ext s.fl g w g w':=
  ⟨λ_ _ h=>h,λ_ _ _ h=>h,λ_ h=>h,by omega,λj _ L=>i j (λe=>L o z (e▸l)),λ_ _ h=>.inl h,λ_ h=>.inl h,C,v⟩
 refine⟨⟨hs.aH,hs.ai,λp j d=>?_,λp e x I=>?_,λj d=>by have:=hs.bA j d;omega,hs.lV⟩,H⟩
 .by_cases m:p=o
  .subst m;rw[t]at d;simp at d;subst d;obtain⟨h1,h2,_⟩:=hs.box p b t;refine⟨h1,by omega,λM q=>?_⟩;simp only[]at q;rw[cL,bJ rfl]at q;cases q
  .have K:j≠b:=λe=>m (hs.lV p o b (e▸⟨(hs.box p j d).1,.inl d⟩) l);exact(hs.box p j d).ext H hs.bA (i j K) (by simp only[];rw[cL,br m]) (hs.box p j d).1
 .have m:p≠o:=by
   rintro rfl
   have h4:=((hs.arr p e x I).2 _ r).oJ;cases ob<;>first|(cases u;done)|(cases h4;done)
  refine(hs.arr p e x I).ext H hs.bA (λj d O=>⟨i j ?_,qF⟩) (by simp only[];rw[cL,br m]) rfl
  rintro rfl
  by_cases y:g.bA j
  .exact l.1 y
  .exact m (hs.lV p o j ⟨y,.inr ⟨e,x,_,I,d,rfl,O⟩⟩ l)
def fe:(kt:Ty)->den S.A kt->Value
 | .int k,n=>.int k n
 | .bool,b=>.bool b
 | .str,s=>.string (bI s)
 |_,_=>undef
def ie:Ty->TypeDesc->Prop
 | .int k,d=>d=.int k
 | .bool,d=>d=.bool
 | .str,d=>d=.string
 |_,_=>False
def r5{v:V S}{k:den S.A kt}(h:Vm kt v=Z k)(d:aK g w (low v) u):u=fe kt k:=by
 cases kt with
 |int j=>obtain⟨p,hp,b⟩:=fJ (show gF j v=Z k from h);exact dJ hp b d
 |bool=>obtain⟨p,hp,b⟩:=kM (show iy v=Z k from h);exact iH hp b d
 |str=>obtain⟨p,hp,b⟩:=j0 (show tG v=Z k from h);exact gX hp b d
 |_=>cases h
def YO{k:den S.A kt}{d:TypeDesc}(b:ie kt d)(e:aK g w (eD S kt k) u):u=fe kt k:=by
 cases kt with
 |int j=>cases e with|sym _ _ b=>cases b;rfl
 |bool=>cases e with|sym _ _ b=>cases b;rfl
 |str=>cases e with|sym _ _ b=>cases b;rfl
 |_=>cases b
def YN{k:den S.A kt}{d:TypeDesc}(b:ie kt d):aK g w (eD S kt k) (fe kt k):=by cases kt with|int j=>exact .sym _ _ (.lit _)|bool=>exact .sym _ _ (.lit _)|str=>exact .sym _ _ (.lit _)|_=>cases b
def KG{d:TypeDesc}(e:ie kt d)(a b:den S.A kt):Instr.sameNow d (fe kt a) (fe kt b)=Z (HA kt a b):=by
 cases kt with
 |int j=>cases e;simp[Instr.sameNow,fe,HA,D.aI]
 |bool=>cases e;simp[Instr.sameNow,fe,HA,D.beq]
 |str=>cases e;have:=zR a b;simp only[D.seq]at this;simp[Instr.sameNow,fe,HA,<-this]
 |_=>cases e
def IG{d:TypeDesc}(e:ie kt d){a b:den S.A kt}(h:HA kt a b=W)(n:Nat):Instr.sameBits n (fe kt b) (fe kt a)=W:=by
 cases kt with
 |int j=>
  have:a=b:=by simpa[HA,D.aI]using h
  subst this;cases n<;>simp[Instr.sameBits,fe]
 |bool=>
  have:a=b:=by simpa[HA,D.beq]using h
  subst this;cases n<;>simp[Instr.sameBits,fe]
 |str=>
  have:a=b:=by simpa[HA,fZ]using h
  subst this;have g:(bI a==bI a)=W:=by have:=zR a a;simp only[D.seq]at this;rw[this];simp[fZ]
  cases n<;>simp[Instr.sameBits,fe,g]
 |_=>cases e
def FM{A:Nat->Type}{β:Type}(kt:Ty)(k:den A kt):List (den A kt×β)->Option Nat
 |[]=>Y
 |p::l=>bif HA kt k p.1 then Z 0 else(FM kt k l).map Nat.succ
def Ef{β:Type}{kt:Ty}{k:den S.A kt}:∀{l:List (den S.A kt×β)},FM kt k l=Y->(∀z,FL kt z k l=z)∧En kt k l=J∧∀x,m7 kt k x l=l++[(k,x)]
 |[],_=>⟨λ_=>rfl,rfl,λ_=>rfl⟩
 |p::l,h=>by
  simp only[FM]at h;cases b:HA kt k p.1 with
  |true=>rw[b]at h;cases h
  |false=>rw[b]at h;obtain⟨h1,h2,h3⟩:=Ef (l:=l) (by simpa using h);exact⟨λz=>by simp[FL,b,h1],by simp[En,b,h2],λx=>by simp[m7,b,h3]⟩
def yQ{β:Type}{kt:Ty}{k:den S.A kt}:∀{l:List (den S.A kt×β)}{j:Nat},FM kt k l=Z j->∃p,l[j]?=Z p∧HA kt k p.1=W∧(∀z,FL kt z k l=p.2)∧En kt k l=W∧∀x,m7 kt k x l=l.set j (k,x)
 |[],j,h=>by cases h
 |p::l,j,h=>by simp only[FM]at h;cases b:HA kt k p.1 with|true=>rw[b]at h;simp only[cG,bg]at h;subst h;exact⟨p,rfl,b,λz=>by simp[FL,b],by simp[En,b],λx=>by simp[m7,b]⟩|false=>rw[b]at h;simp only[dP,eC]at h;obtain⟨i,hi,rfl⟩:=h;obtain⟨q,h1,h2,h3,h4,h5⟩:=yQ hi;exact⟨q,by simpa using h1,h2,λz=>by simp[FL,b,h3],by simp[En,b,h4],λx=>by simp[m7,b,h5]⟩
def wz{β:Type}{kt:Ty}{d:TypeDesc}(e:ie kt d)(k:den S.A kt):∀(l:List (den S.A kt×β))(es:List MapEntry)(i:Nat),es.length=l.length->
  (∀(j:Nat)p m,l[j]?=Z p->es[j]?=Z m->m.key=fe kt p.1)->Instr.findNow d (fe kt k) es i=Z ((FM kt k l).bind λj=>(es[j]?).map λm=>(i+j,m.val))
 |[],[],i,_,_=>rfl
 |p::l,m::es,i,b,g=>by
  simp only[Instr.findNow,g 0 p m rfl rfl,KG e];cases q:HA kt k p.1 with
  |true=>simp[FM,q]
  |false=>
   simp only;rw[wz e k l es (i+1) (by simpa using b) (λj r s h1 h2=>g (j+1) r s (by simpa using h1) (by simpa using h2))];simp only[FM,q,dP];cases FM kt k l with
   |none=>rfl
   |some j=>
    simp only[dX,IS,Nat.succ_eq_add_one,List.getElem?_cons_succ,bg]
    congr 1
    funext m
    rw[Nat.add_assoc,Nat.add_comm 1 j]
 |[],_::_,_,b,_=>by simp at b
 |_::_,[],_,b,_=>by simp at b
variable {P:Program}
def FW{d:TypeDesc}(e:ie kt d){t:TypeId}(g:P.underlying t=Z d)(b:Bool)(n:Nat)(v:Value)(w:World):(Instr.checkKey b (n+1) t v).run P w=.ok () w:=by
 cases kt with
 |int j=>cases e;simp[Instr.checkKey,aM g]
 |bool=>cases e;simp[Instr.checkKey,aM g]
 |str=>cases e;simp[Instr.checkKey,aM g]
 |_=>cases e
def run_checkKey{d:TypeDesc}(e:ie kt d){t:TypeId}(g:P.underlying t=Z d)(b:Bool)(v:Value)(w:World):(Instr.checkKey b 10000 t v).run P w=.ok () w:=
 FW e g b 9999 v w
def run_findKey{β:Type}{d:TypeDesc}(b:ie kt d){t:TypeId}(e:P.underlying t=Z d)(k:den S.A kt){l:List (den S.A kt×β)}{es:List MapEntry}(hl:es.length=l.length)
  (g:∀(j:Nat)p m,l[j]?=Z p->es[j]?=Z m->m.key=fe kt p.1) (w:World) :
  (Instr.findKey t (fe kt k) es).run P w=.ok ((FM kt k l).bind λj=>(es[j]?).map λm=>(j,m.val)) w:=by
 have:=wz b k l es 0 hl g;simp only[jl]at this;simp[Instr.findKey,aM e,this]
def rI(h:w.heap[b]?=Z (.map ms c)):(getObj b).run P w=.ok (.map ms c) w:=by simp[getObj,Sem.run,h]
def Dd(o:Obj)(h:w.heap[b]?=Z (.map ms c)):(setObj b o).run P w=.ok () {w with heap:=w.heap.setIfInBounds b o}:=by simp[setObj,Sem.run,h]
def Dg{β:Type}{d:TypeDesc}(i:ie kt d){t g e:TypeId}{q:TypeInfo}(y:P.underlying t=Z (.map g e))(r:P.underlying g=Z d)(hi:P.info? e=Z q)(s:q.zero=Z z)
  (k:den S.A kt) {l:List (den S.A kt×β)} {b c:Nat} {ms:Array MapEntry} (h:w.heap[b]?=Z (.map ms c)) (hl:l.length=ms.size) (B:∀(j:Nat)p m,l[j]?=Z p->ms[j]?=Z m->m.key=fe kt p.1) (ok:Bool) :
  (Instr.lookup t (.map (Z b)) (fe kt k) ok).run P w=.ok (match(FM kt k l).bind λj=>(ms[j]?).map (·.val)with
   |some v=>if ok then .tuple #[v,.bool W]else v
   |none=>if ok then .tuple #[z,.bool J]else z) w:=by
 have hf:=run_findKey (P:=P) i r k (l:=l) (es:=ms.toList) (by simpa using hl.symm) (λj p m h1 h2=>B j p m h1 (by simpa using h2)) w;simp only[Instr.lookup,Sem.run_bind,aM y,Result.andThen_ok,rI h,run_checkKey i r,hf,Sem.run_pure];cases C:FM kt k l with
 |none=>simp[ei hi s]
 |some j=>
  cases u:ms[j]? with|none=>simp[u,ei hi s]|some m=>simp[u]
def De{d:TypeDesc}(g:ie kt d){t b e:TypeId}{i:TypeInfo}(r:P.underlying t=Z (.map b e))(q:P.underlying b=Z d)(hi:P.info? e=Z i)(s:i.zero=Z z)
  (k:den S.A kt) (ok:Bool):(Instr.lookup t (.map Y) (fe kt k) ok).run P w=.ok (if ok then .tuple #[z,.bool J]else z) w:=by
 have hf:=run_findKey (P:=P) (β:=Unit) g q k (l:=[]) (es:=[]) rfl (λj p m h1=>by simp at h1) w;simp only[Instr.lookup,Sem.run_bind,aM r,Result.andThen_ok,run_checkKey g q,Sem.run_pure];simp only[FM,Qb]at hf;simp[hf,ei hi s]
end
end
section
section
variable {g:Gh}{w w':World}{P:Program}
def Nb{β:Type}(kt:Ty)(R:β->Value->Prop)(l:List (den S.A kt×β))(ms:Array MapEntry):Prop:=
 l.length=ms.size∧∀(j:Nat)p m,l[j]?=Z p->ms[j]?=Z m->m.key=fe kt p.1∧R p.2 m.val
variable {kt kt':Ty}{ms:Array MapEntry}
def wg{β:Type}{R:β->Value->Prop}{d:TypeDesc}(B:ie kt d){t s e:TypeId}(X:P.underlying t=Z (.map s e))(H:P.underlying s=Z d)
  (k:den S.A kt) {l:List (den S.A kt×β)} {b c:Nat} {ms:Array MapEntry} (h:w.heap[b]?=Z (.map ms c)) (hr:Nb kt R l ms) {x:β} {v:Value} (hx:R x v) :
  ∃u c',(Instr.mapUpdate t (.map (Z b)) (fe kt k) v).run P w=.ok () {w with heap:=w.heap.setIfInBounds b (.map u c')}∧Nb kt R (m7 kt k x l) u:=by
 obtain⟨y,C⟩:=hr;have hf:=run_findKey (P:=P) B H k (l:=l) (es:=ms.toList) (by simpa using y.symm) (λj p m h1 h2=>(C j p m h1 (by simpa using h2)).1) w;cases r:FM kt k l with
 |none=>
  obtain⟨_,_,g⟩:=Ef r;rw[r]at hf;refine⟨ms.push {key:=fe kt k,val:=v,born:=c},c+1,?_,by rw[g];simp[y],λj p m h1 h2=>?_⟩
  .simp only[Instr.mapUpdate,Sem.run_bind,aM X,Result.andThen_ok,rI h,run_checkKey B H,hf,Qb,Dd _ h]
  .rw[g,kY]at h1;rw[Qd]at h2;by_cases hj:j<l.length
   .rw[bJ hj]at h1;rw[br (by omega)]at h2;exact C j p m h1 h2
   .rw[br hj]at h1;have I:j=l.length:=by have:=aF h1;simp at this;omega
    subst I;simp at h1;rw[bJ y]at h2;cases h2;subst h1;exact⟨rfl,hx⟩
 |some i=>
  obtain⟨p,hp,K,_,_,g⟩:=yQ r;rw[r]at hf;have hi:i<ms.size:=by rw[<-y];exact aF hp
  obtain⟨m,G⟩:∃m,ms[i]?=Z m:=⟨ms[i],ov hi⟩;have L:=(C i p m hp G).1;have M:(Instr.findKey s (fe kt k) ms.toList).run P w=.ok (Z (i,m.val)) w:=by rw[hf];simp[G]
  refine⟨ms.modify i λe=>{e with key:=fe kt k,val:=v},c,?_,by rw[g];simp[y],λj q n h1 h2=>?_⟩
  .have O:Instr.sameBits 10000 m.key (fe kt k)=W:=by rw[L];exact IG B K 10000
   have U:(Instr.keyThatStays m.key (fe kt k)).run P w=.ok (fe kt k) w:=by simp only[Instr.keyThatStays,O,fR,Sem.run_pure]
   simp only[Instr.mapUpdate,Sem.run_bind,aM X,Result.andThen_ok,rI h,run_checkKey B H,M,G,dX,zU,U,Dd _ h]
  .rw[g,Dq]at h1;rw[Array.getElem?_modify]at h2;by_cases z:i=j
   .subst z;rw[bJ rfl,bJ (by omega)]at h1;rw[bJ rfl,G]at h2;cases h1;cases h2;exact⟨rfl,hx⟩
   .rw[br z]at h1 h2;exact C j q n h1 h2
def gW.PN{β:Type}{d:TypeDesc}(b:ie kt d){f:β->T}{l:List (den S.A kt×β)}{x:Obj}(h:gW g w (.map (l.map λp=>(eD S kt p.1,f p.2))) x) :
  ∃ms c,x=.map ms c∧Nb kt (λy v=>aK g w (f y) v) l ms:=by
 cases h with|map _ ms c e i=>refine⟨ms,c,rfl,by simpa using e,λj p m h1 h2=>?_⟩;have:=i j (eD S kt p.1,f p.2) m (by simp[h1]) h2;exact⟨YO b this.1,this.2⟩
def Nb.ob{β:Type}{d:TypeDesc}(b:ie kt d){f:β->T}{l:List (den S.A kt×β)}(h:Nb kt (λy v=>aK g w (f y) v) l ms)(c:Nat):gW g w (.map (l.map λp=>(eD S kt p.1,f p.2))) (.map ms c):=by refine .map _ ms c (by simpa using h.1) λj t m h1 h2=>?_;simp only[gK,eC]at h1;obtain⟨p,hp,rfl⟩:=h1;obtain⟨h3,h4⟩:=h.2 j p m hp h2;rw[h3];exact⟨YN b,h4⟩
def O3(S:Sg)(i:TI)(τ:Ty):Prop:=bif jk τ then D.agg i.zero=enc S τ (S.zero τ)else i.zero=[enc S τ (S.zero τ)]
def GB{I:Nat->Prop}(C:fh S){t:TypeId}{i:TI}(hi:mU P t i){τ:Ty}(g:wI S i τ)(l:O3 S i τ){x:TypeInfo}{z:Value}(G:P.info? t=Z x)(m:x.zero=Z z):ee I w (enc S τ (S.zero τ)) z:=by
 obtain⟨M,d0,O,p,R,_,K,q,b,_⟩:=hi.all;rw[G]at p;cases p;rw[m]at q;cases q;obtain⟨u,y⟩:=hi.zag x z G m;unfold O3 at l;cases d:jk τ with
 |true=>
  rw[d,cG]at l;have r:i.agg=W:=by cases τ with|st n=>exact g.1|_=>cases d
  obtain⟨L,rfl⟩:=u r;have b:ZOk i.zero L:=b;rw[<-l];refine .agg _ _ b.1 (λc H=>?_) (λj c v h1 h2=>zL (b.2 j c v h1 h2));cases τ with
  |st n=>
   have e:i.zero=S.cells n (S.zero (.st n)):=by have:D.agg i.zero=D.agg (S.cells n (S.zero (.st n))):=l;injection this
   rw[e,C.cells]at H;exact gR _ _ (C.leaf n) c H
  |_=>cases d
 |false=>
  rw[d,dP]at l;have s:i.agg=J:=by
   cases τ with
   |st n=>cases d
   |sl e=>exact g.2.1
   |int k=>exact g.2.1
   |bool=>exact g.2.1
   |str=>exact g.2.1
   |cR n=>exact g.2.1
  have B:=y s;have:=b.2 0 _ z (by rw[l];rfl) (by rw[B];rfl);exact zL this
structure XOk(S:Sg)(E:gA):Prop where
 zr:∀t i τ,E.E.ti t=Z i->E.ty t=Z τ->O3 S i τ
 mt:∀t m,E.mt t=Z m->∃kid d,E.E.P.underlying t=Z (.map kid m.el)∧E.E.P.underlying kid=Z d∧ie m.kt d∧(∃x z,E.E.P.info? m.el=Z x∧x.zero=Z z)∧
  ∀vt,m.vt=Z vt->E.ty m.el=Z vt∧∃i,E.E.ti m.el=Z i
 I3:∀t nm f,E.I3 t nm=Z f->∃x mm d,E.E.P.info? t=Z x∧x.methods.find? (·.name==nm)=Z mm∧mm.path=#[]∧E.E.P.underlying t=Z d∧
  ((mm.func=Z (f,J)∧∀e,d≠.pointer e)∨(mm.func=Z (f,W)∧∃e,d=.pointer e))
def cW{fr:bW S}{a:Act}(hf:cF g (bz fr) a w){x:Operand}{v:V S}(h:ck fr x=Z v):aK g w (low v) (a.eval x):=bL hf (bV h)
def MF{vt b:Ty}{l:List (den S.A kt×den S.A vt)}{d:List (den S.A kt'×den S.A b)}(h:BH kt vt kt' b l=Z d):kt=kt'∧vt=b∧HEq l d:=by
 unfold BH at h;split at h
 .rename_i h1;split at h
  .rename_i h2;have e:=fE h1;have g:=fE h2;subst e;subst g;simp only[bg]at h;exact⟨rfl,rfl,heq_of_eq h⟩
  .cases h
 .cases h
def MG{β:Type}{l:List (den S.A kt×β)}{b:List (den S.A kt'×β)}(h:MH kt kt' l=Z b):kt=kt'∧HEq l b:=by
 unfold MH at h;split at h
 .rename_i h1;have d:=fE h1;subst d;simp only[bg]at h;exact⟨rfl,heq_of_eq h⟩
 .cases h
def IC{w:World}{b:Nat}(x:Obj)(g:b<w.heap.size):({w with heap:=w.heap.setIfInBounds b x}:World).heap.size=w.heap.size∧(∀d,d≠b->({w with heap:=w.heap.setIfInBounds b x}:World).heap[d]?=w.heap[d]?)∧
  ({w with heap:=w.heap.setIfInBounds b x}:World).heap[b]?=Z x:=by
 refine⟨by simp,λd e=>?_,?_⟩
 .simp[UK (Ne.symm e)]
 .simp[g]
def N7{β:Type}{f:β->T}{k:den S.A kt}{l:List (den S.A kt×β)}(d:Nb kt (λy v=>aK g w (f y) v) l ms){z:β}{e:Value}(m:aK g w (f z) e) :
  aK g w (f (FL kt z k l)) (((FM kt k l).bind λj=>(ms[j]?).map (·.val)).getD e)∧(((FM kt k l).bind λj=>(ms[j]?).map (·.val)).isSome=En kt k l):=by
 cases b:FM kt k l with
 |none=>obtain⟨h1,h2,_⟩:=Ef b;rw[h1,h2];exact⟨m,rfl⟩
 |some j=>
  obtain⟨p,hp,_,h1,h2,_⟩:=yQ b;rw[h1,h2];have q:j<ms.size:=by rw[<-d.1];exact aF hp
  have i:ms[j]?=Z ms[j]:=ov q;simp only[IS,i,dX,zU,Option.isSome_some,and_true];exact(d.2 j p _ hp i).2
end
end
section
def Aq:∀(l:List (TypeId×Ty))(x:vP S.A l),isNil l x=(sn S l x).isNone
 |[],_=>rfl
 |_::_,.inl _=>rfl
 |_::l,.inr y=>Aq l y
def EF:∀(l:List (TypeId×Ty))(t:TypeId)(j:Nat)(x:vP S.A l)(z:(t:Ty)->den S.A t),MY l=W->oX l t=Z j->
  (iG l j x=W∧sn S l x=Z (t,enc S (lP l j) (jv z l j x)))∨(iG l j x=J∧jv z l j x=z (lP l j)∧∀d,sn S l x≠Z (t,d))
 |[],t,j,x,z,_,h=>by cases h
 |p::l,t,j,x,z,g,h=>by
  simp only[MY,dR]at g;simp only[oX]at h;rcases af h with⟨k,h⟩|⟨k,h⟩
  .simp only[bg]at h;subst h;have b:=nF k;cases x with
   |inl y=>left;exact⟨rfl,by simp only[sn,b];rfl⟩
   |inr y=>
    right
    refine⟨rfl,rfl,λd e=>?_⟩;simp only[sn]at e;have m:oX l p.1=Y:=by cases q:oX l p.1 with|none=>rfl|some i=>rw[q]at g;simp at g
    exact Ap l y p.1 m d (by rw[b];exact e)
  .split at h
   .rename_i i hi;simp only[bg]at h;subst h;cases x with
    |inl y=>
     right
     refine⟨rfl,rfl,λd e=>?_⟩;simp only[sn,bg,bC]at e;rw[e.1]at k;simp at k
    |inr y=>
     rcases EF l t i y z g.2 hi with⟨h1,h2⟩|⟨h1,h2,h3⟩
     .exact .inl ⟨h1,h2⟩
     .exact .inr ⟨h1,h2,h3⟩
   .cases h
where
 Ap:∀(l:List (TypeId×Ty))(x:vP S.A l)(t:TypeId),oX l t=Y->∀d,sn S l x≠Z (t,d)
  |[],_,_,_,_,h=>by cases h
  |p::l,.inl y,t,hn,d,h=>by simp only[oX]at hn;simp only[sn,bg,bC]at h;rw[h.1]at hn;simp at hn
  |p::l,.inr y,t,hn,d,h=>by
   simp only[oX]at hn;cases hb:Nat.beq p.1 t with
   |true=>rw[hb]at hn;cases hn
   |false=>
    rw[hb]at hn;refine Ap l y t ?_ d h;cases hx:oX l t with|none=>rfl|some i=>rw[hx]at hn;cases hn
section
variable {g:Gh}{w:World}{P:Program}
def CA(j:fh S){n:Nat}{x:S.A n}{v:Value}(h:aK g w (eD S (.cR n) x) v) :
  (sn S (S.alts n) (S.r7 n x)=Y∧v=.nilIface)∨∃t d u,sn S (S.alts n) (S.r7 n x)=Z (t,d)∧v=.iface t u∧ee g.bA w d u:=by
 have e:aK g w (.sym (Nu (S.pL n x))) v:=h;rw[j.pL]at e;cases e with
 |sym _ _ b=>
  cases i:sn S (S.alts n) (S.r7 n x)with
  |none=>rw[i]at b;cases b;exact .inl ⟨rfl,rfl⟩
  |some p=>
   rw[i]at b;obtain⟨t,d⟩:=p;cases b with|cR _ _ u k=>exact .inr ⟨t,d,u,rfl,rfl,k⟩
variable {s:bq S}
def I6(hs:bh g (aG s) w)(hn:s.aH<bB){t:TypeId}{r:Option Value}{b el:TypeId}(i:P.underlying t=Z (.map b el))(l:∀v,r=Z v->∃k n,v=.int k n){ob:vX S}(d:cQ ob=.map []) :
  ∃v w' g',(Instr.makeMap t r).run P w=.ok v w'∧aK g' w' (low (.mp s.aH:V S)) v∧cM [] s g w (dm s ob) g' w':=by
 obtain⟨e,p⟩:=hs.newObj (ob0:=.map []) (x0:=.map #[] 0) hn (.map [] #[] 0 rfl (λj t m h=>by simp at h));refine⟨.map (Z w.heap.size),_,_,?_,.mp _ _ (by simp[Gh.dg,aG]),cM.lM hs (by rw[gp,d];exact e) p rfl rfl (Du _) (iK s ob hn)⟩;cases r with|none=>simp[Instr.makeMap]|some v=>obtain⟨k,n,rfl⟩:=l v rfl;simp[Instr.makeMap,aM i,asInt,asIntOf]
def NO(hs:bh g (aG s) w)(hn:s.aH<bB){t:TypeId}(e:P.underlying t=Z .string)(b:List UInt8) :
  ∃v w' g',(Instr.range t (.string (bI b))).run P w=.ok v w'∧aK g' w' (low (.ru s.aH:V S)) v∧cM [] s g w (dm s (.o7 b 0)) g' w':=by
 obtain⟨d,i⟩:=hs.newObj (ob0:=.o7 (bI b) 0) (x0:=.stringIter (bI b) 0) hn (.o7 _ _);refine⟨.pointer (Z ⟨w.heap.size,0,Y⟩),_,_,?_,.ru _ _ (by simp[Gh.dg,aG]),cM.lM hs (by rw[gp];exact d) i rfl rfl (Du _) (iK s _ hn)⟩;simp[Instr.range,aM e]
def DU(hS:fh S)(hs:bh g (aG s) w)(hn:s.aH<bB){t:TypeId}{i:TI}(hi:mU P t i){e:Ty}(hr:wI S i (.sl e)){n:Int}(C:YD n=W)(k1 k2:IntKind) :
  ∃v w' g',(Instr.makeSlice t (.int k1 n) (.int k2 n)).run P w=.ok v w'∧aK g' w' (low (.sh s.aH 0:V S)) v∧cM [] s g w (dm s (.arr e (List.replicate (ah n) (S.zero e)) 0)) g' w':=by
 obtain⟨⟨z,G,u⟩,_,_,H⟩:=hr;obtain⟨xi,d1,z1,LS,K,_,Zw,hzx,xl,hk⟩:=hi.all;rw[G]at hk;obtain⟨el,j,d',B,rfl,hj,y,hju,ac3,L,q,M,hj0,hjb1,hjb2,hjb3,O⟩:=hk;simp only[YD,dR,jR]at C;obtain⟨m,rfl⟩:∃m:Nat,n=(m:Int):=⟨n.toNat,by omega⟩;have hm:m<=17179869184:=by omega
 have hbm:j.bytes*m<=4096*17179869184:=KX M hm;have p:=run_make (P:=P) w t el j B K hj L k1 k2 (m:Int) (m:Int) (by omega) (Int.le_refl _) (by
  have:((j.bytes*m:Nat):Int)<=281474976710656:=by omega
  rwa [Int.natCast_mul]at this) (by omega)
 simp only[FY]at p;have R:(bif jk e then D.agg z else z.getD 0 default)=enc S e (S.zero e):=by cases l:jk e with|true=>rw[l]at u;exact u|false=>rw[l]at u;simp only[dP]at u;rw[u];rfl
 have k:=Kp (I:=g.bA) (w:=w.alloc (.cells (madeCells B.cells (m*j.size)) el)) (ag:=jk e) (sz:=S.width e) (len:=m) q (by
  cases l:jk e with
  |true=>rfl
  |false=>
   have:S.width e=1:=by cases e<;>first|rfl|cases l
   rw[this];rfl) (by rw[bK];exact O)
 rw[R]at k;have U:(List.replicate m (S.zero e)).map (enc S e)=List.replicate m (enc S e (S.zero e)):=by simp
 let x:fq:=⟨Z ⟨w.heap.size,0,Y⟩,m,m,S.width e⟩
 have X:∀b,x.at b->b=w.heap.size:=by
  rintro b ⟨ad,h1,h2,_⟩
  have:ad=⟨w.heap.size,0,Y⟩:=(eK h1).symm;rw[this]at h2;exact h2.symm
 have r:¬g.bA w.heap.size:=λh=>by have:=hs.bA _ h;omega
 obtain⟨hs',he⟩:=bh.N1 (w':=w.alloc (.cells (madeCells B.cells (m*j.size)) el)) hs hn (sz:=S.width e) (es:=List.replicate m (enc S e (S.zero e))) (x:=x) rfl rfl (by simp) (λb hb=>n9 w _ b hb)
  (λb hb=>by rw[X b hb];simp)
  ⟨by simp[x],bP _,k.rows,H,λd hd=>by
    have hde:=UF hd;rw[hde,Ao hS,List.length_replicate];show m*uy S e<=_;have:m*uy S e<=17179869184*(2*4096):=KX hm (by omega);omega,λh=>by
    have:m=0:=by cases m with|zero=>rfl|succ m=>simp[List.replicate_succ]at h
    exact this,λhc=>by
    refine⟨w.heap.size,madeCells B.cells (m*j.size),el,rfl,⟨λh=>(by cases h),λh=>absurd h r⟩,vC w _,by rw[size_madeCells,y];exact bP _,λi d jj c h1 h2=>?_⟩;obtain⟨v,h3,h4⟩:=k.rel i jj d c h1 h2;refine⟨v,?_,h4⟩;rw[<-y]at h3 ⊢;exact h3⟩ rfl
 refine⟨_,_,_,p,.sh _ _ _ _ (S.width e) _ (Gh.fy _ _ _ _),cM.lM hs ?_ he rfl rfl (Du _) (iK s _ hn)⟩;rw[gp];simp only[cQ,ah,FY,U];exact hs'
end
end
section
section
variable {g:Gh}{w:World}
variable {o:Nat}{v:Value}{P:Program}{i:TI}{s s':bq S}{E:gA}{fr:bW S}{a:Act}{c:Bool}{t:V S}
def aK.Jg(h:aK g w (.mp o) v):∃b,v=.map (Z b)∧g.cg o=Z b:=by cases h;exact⟨_,rfl,by assumption⟩
def aK.YZ(h:aK g w (.ru o) v):∃b,v=.pointer (Z ⟨b,0,Y⟩)∧g.cg o=Z b:=by cases h;exact⟨_,rfl,by assumption⟩
def aK.acm{k:IntKind}{n:Int}(h:aK g w (.kn k n) v):v=.int k n:=by cases h;rfl
def aK.Jh{u:Value}(h:aK g w (.sym (.lit u)) v):v=u:=by cases h with|sym _ _ b=>cases b;rfl
def aK.Qy{cs:List T}(h:aK g w (.agg cs) v):∃vs,v=.agg vs∧PW (aK g w) cs vs.toList:=by cases h with|agg _ vs b d=>exact⟨vs,rfl,by simpa using b,λj t v h1 h2=>d j t v h1 (by simpa using h2)⟩
def GO(P:Program)(d:Nat){ty:TypeId}{b:Array (String×TypeId)}(e:P.underlying ty=Z (.interface b)):(Op.equalIn (d+1) ty .nilIface .nilIface).run P w=.ok W w:=by simp only[Op.equalIn,Sem.run_bind,aM e,Result.andThen_ok];rfl
def RD(P:Program)(d:Nat){ty e:TypeId}(b:P.underlying ty=Z (.slice e))(a:Option Addr)(n m:Nat):(Op.equalIn (d+1) ty (.slice a n m) (.slice Y 0 0)).run P w=.ok a.isNone w:=by simp only[Op.equalIn,Sem.run_bind,aM b,Result.andThen_ok];cases a<;>rfl
def QA(l:fh S){t:TypeId}(hi:mU P t i)(m:i.kd=.iface){n:Nat}{x:S.A n}(h:aK g w (eD S (.cR n) x) v)(b:Operand) :
  ((do eqGuard .eql t b (.const .nilIface) v .nilIface;binOp .eql t v .nilIface:Sem Value)).run P w=.ok (.bool (isNil (S.alts n) (S.r7 n x))) w∧
  ((do eqGuard .neq t b (.const .nilIface) v .nilIface;binOp .neq t v .nilIface:Sem Value)).run P w=.ok (.bool (!(isNil (S.alts n) (S.r7 n x)))) w:=by
 obtain⟨_,d0,_,_,k,_,_,_,_,e⟩:=hi.all;rw[m]at e;obtain⟨q,rfl⟩:=e;rw[Aq];rcases CA l h with⟨j,rfl⟩|⟨p,d,u,j,rfl,_⟩
 .rw[j];refine nE b (.const .nilIface) rfl rfl (λop=>?_) (GO P 9999 k);unfold eqGuard;cases op<;>cases b<;>rfl
 .rw[j];refine nE b (.const .nilIface) rfl rfl (λop=>?_) (GP 9999 k p u);unfold eqGuard;cases op<;>rfl
def Qt{t:TypeId}(hi:mU P t i)(e:i.kd=.iface)(h:aK g w (.sym (.lit .nilIface)) v)(d:Operand) :
  ((do eqGuard .eql t d (.const .nilIface) v .nilIface;binOp .eql t v .nilIface:Sem Value)).run P w=.ok (.bool W) w∧
  ((do eqGuard .neq t d (.const .nilIface) v .nilIface;binOp .neq t v .nilIface:Sem Value)).run P w=.ok (.bool J) w:=by
 obtain⟨_,d0,_,_,j,_,_,_,_,b⟩:=hi.all;rw[e]at b;obtain⟨k,rfl⟩:=b;cases h with
 |sym _ _ h=>
 cases h;refine nE d (.const .nilIface) rfl rfl (λop=>?_) (GO P 9999 j);unfold eqGuard;cases op<;>cases d<;>rfl
def abH{t:TypeId}(hi:mU P t i){sz qu:Nat}{ag:Bool}{z:List D}(e:i.kd=.slice sz ag qu z)(a:Option Addr)(n m:Nat)(d:Operand) :
  ((do eqGuard .eql t d (.const (.slice Y 0 0)) (.slice a n m) (.slice Y 0 0);binOp .eql t (.slice a n m) (.slice Y 0 0):Sem Value)).run P w=.ok (.bool a.isNone) w:=by
 obtain⟨_,d0,_,_,g,_,_,_,_,b⟩:=hi.all;rw[e]at b;obtain⟨el,j,k,l,rfl,_⟩:=b;refine(nE d (.const (.slice Y 0 0)) rfl rfl (λop=>?_) (RD P 9999 g a n m)).1;unfold eqGuard;cases op<;>rfl
def abI(hs:bh g (aG s) w){e:Ty}{x:V S}{l:List (den S.A e)}(h:Iz s e x=Z l)(z:aK g w (low x) v):∃a n m,v=.slice a n m∧(a.isNone=W->XV l=W):=by
 unfold Iz at h;split at h
 .simp only[bg]at h;subst h;cases z with|emp a=>exact⟨a,0,0,rfl,λ_=>rfl⟩
 .rename_i t K;obtain⟨rfl,q⟩:=eW h;cases q;cases z with
  |jy n es' a hn B=>
   refine⟨a,_,_,rfl,λi=>?_⟩;cases B with
   |sl _ _ _ sz val C L M O R=>
   cases K with|nil=>rfl|cons y K=>obtain⟨X,h1,_⟩:=O (by simp);rw[h1]at i;cases i
 .obtain ⟨k,q⟩:=eW h;cases k;cases q;cases z with|nQ j d c a hj B=>refine⟨a,_,_,rfl,λi=>?_⟩;obtain⟨a',cap,he,_,_,hr⟩:=vz B;cases he;obtain⟨X,_,h1,_⟩:=hr (by simp);rw[h1]at i;cases i
 .rename_i t x';obtain⟨k,q⟩:=eW h;subst k;cases q;cases z with
  |sym _ _ B=>
   cases B with
   |sl _ a cap sz val C L M O R=>
   refine⟨a,_,_,rfl,λi=>?_⟩;cases x' with|nil=>rfl|cons y K=>obtain⟨X,h1,_⟩:=O (by simp);rw[h1]at i;cases i
 .rename_i o r;have key:∀(I:Bool)(t:Ty)(p:List (den S.A t))(era:Nat),s.ob.get o=Z (if I then .jX t p era else .arr t p era)->(bif Nat.beq r era then mT t e p else Y)=Z l->∃a n m,v=.slice a n m∧(a.isNone=W->XV l=W):=by
   intro I t p era G h;rcases af h with⟨hb,h⟩|⟨_,h⟩
   .obtain ⟨k,q⟩:=eW h;subst k;cases q;have U:=beq_iff'.1 hb;subst U;cases z with
    |sh _ _ len cap sz a hx=>
     have H:(aG s).ob.get o=Z (fB I (S.width t) (p.map (enc S t)) r):=by rw[aY,G];cases I<;>rfl
     obtain⟨u,_⟩:=hs.m9 H hx;refine⟨a,len,cap,rfl,λi=>?_⟩;cases p with
     |nil=>rfl
     |cons y p=>
      have h1:=u.len;have h2:=u.cap;simp only[lI,fc]at h1 h2;have R:(⟨a,len,cap,sz⟩:fq).cap≠0:=by simp only;omega
      obtain⟨b,vs,ty,h3,_⟩:=u.mem R;simp only at h3;rw[h3]at i;cases i
   .cases h
  split at h
  .rename_i t p era G;exact key J t p era G h
  .rename_i t p era G;exact key W t p era G h
  .cases h
 .cases h
def Hu(hX:XOk S E)(hS:fh S)(hf:cF g (bz fr) a w)(hs:bh g (aG s) w)(o:Oper){ty:TypeId}{x ix y:Operand}(G:o.op=.mapUpdate ty x ix y∨o.op=.insert ty x ix y)
  (h:(match E.mt ty,ck fr x,ck fr ix,ck fr y with
  |some m,Z (.mp o),Z k,Z y=>match Vm m.kt k,s.ob.get o with
   |some k,Z (.map kt vt l)=>match BH kt vt m.kt vt l,bO s vt y with
    |some l,Z (y,os)=>match dz s os with
     |some C=>bif Nat.ble s.fl o&&X8 m.vt vt then Z (W,(fu:V S),{C with ob:=C.ob.set aJ o (.map m.kt vt (m7 m.kt k y l)),wr:=o::C.wr})else Y
     |none=>Y
    |_,_=>Y
   |some k,Z (.Gd kt l)=>match MH kt m.kt l with
    |some l=>bif Nat.ble s.fl o then Z (W,fu,{s with ob:=s.ob.set aJ o (.Gd m.kt (m7 m.kt k y l)),wr:=o::s.wr})else Y
    |none=>Y
   |_,_=>Y
  |_,_,_,_=>Y)=Z (c,t,s')) :
  ∃v w' g',((execOp a.eval o).run E.E.P w=.ok (.value v) w'∨((execOp a.eval o).run E.E.P w=.ok .skip w'∧v=undef))∧aK g' w' (low t) v∧cM [] s g w s' g' w':=by
 split at h;rotate_left
 .cases h
 rename_i m e kv yv hm hx hk hy;obtain⟨kid,d,ht,hu,q,_,_⟩:=hX.mt _ _ hm;obtain⟨b,VC,hb⟩:=aK.Jg (cW hf hx);have j:∀w',(Instr.mapUpdate ty (a.eval x) (a.eval ix) (a.eval y)).run E.E.P w=.ok () w'->(execOp a.eval o).run E.E.P w=.ok .skip w':=by intro w' hr;rcases G with G|G<;>simp[execOp,G,hr]
 split at h
 .rename_i k kt vt l r H;have M:=r5 r (cW hf hk);split at h;rotate_left
  .cases h
  rename_i l' y' os hcm LU;obtain⟨rfl,_,O⟩:=MF hcm;cases O;split at h;rotate_left
  .cases h
  rename_i C R;rcases af h with⟨I,K⟩|⟨_,K⟩;rotate_left
  .cases K
  clear h;simp only[bg,bC]at K;obtain⟨_,rfl,rfl⟩:=K;rw[dR]at I;have hfl:s.fl<=e:=fQ I.1;obtain⟨p,hp,Zk⟩:=od hS s vt yv LU;obtain⟨u,hd⟩:=kF hs _ hp Zk (cW hf hy);obtain⟨g1,L,U,hfr⟩:=eo os hs (cY hS _ R) u;have hyd:=hd g1 _ L U hfr;obtain⟨f1,f2,f3,f4,f5,f6,f7⟩:=ew R;have hno:e∉os:=λhmem=>by have:=(u e hmem).oJ (by rw[aY,H];rfl);cases this
  have i:(aG C).ob.get e=Z (cQ (.map m.kt vt l')):=by rw[aY,f6 e hno,H];rfl
  have X:g1.cg e=Z b:=U.cg _ _ hb;obtain⟨x0,hh,Zl⟩:=(L.box e b X).2.2 _ i;obtain⟨ms,cl,rfl,hmr⟩:=gW.PN q (f:=eD S vt) Zl;obtain⟨ms',c',z,B⟩:=wg (P:=E.E.P) q ht hu k hh hmr (x:=y') (tE hyd);have hlt:=(L.box e b X).2.1;obtain⟨q1,q2,q3⟩:=IC (.map ms' c') hlt;obtain⟨Zh,he2⟩:=L.setObj X i rfl (by show C.fl<=e;rw[f1];exact hfl) (XS:=cQ (.map m.kt vt (m7 m.kt k y' l'))) (Nb.ob q (f:=eD S vt) B c') q1 q2 q3 rfl rfl;have amh:iE s {C with ob:=C.ob.set aJ e (.map m.kt vt (m7 m.kt k y' l')),wr:=e::C.wr}:=(kI R).trans' (yw f3.symm) (rD _ _ _);refine⟨undef,_,g1,.inr ⟨j _ (by rw[VC,M];exact z),rfl⟩,.sym _ _ (.lit _),cM.lM hs (by rw[eY];exact Zh) (U.trans (by have h5:=he2;rw[show(aG C).fl=s.fl from f1]at h5;exact h5)) f1 f2 (yw f3.symm) amh⟩
 .rename_i k kt l r H;have M:=r5 r (cW hf hk);split at h;rotate_left
  .cases h
  rename_i l' hck;obtain⟨rfl,O⟩:=MG hck;cases O;rcases af h with⟨I,K⟩|⟨_,K⟩;rotate_left
  .cases K
  clear h;simp only[bg,bC]at K;obtain⟨_,rfl,rfl⟩:=K;have i:(aG s).ob.get e=Z (cQ (.Gd m.kt l')):=by rw[aY,H];rfl
  obtain⟨x0,hh,Zl⟩:=(hs.box e b hb).2.2 _ i;obtain⟨ms,cl,rfl,hmr⟩:=gW.PN q (f:=low) Zl;obtain⟨ms',c',z,B⟩:=wg (P:=E.E.P) q ht hu k hh hmr (x:=yv) (cW hf hy);obtain⟨q1,q2,q3⟩:=IC (.map ms' c') (hs.box e b hb).2.1;obtain⟨Zh,he2⟩:=hs.setObj hb i rfl (fQ I) (XS:=cQ (.Gd m.kt (m7 m.kt k yv l'))) (Nb.ob q (f:=low) B c') q1 q2 q3 rfl rfl;exact⟨undef,_,g,.inr ⟨j _ (by rw[VC,M];exact z),rfl⟩,.sym _ _ (.lit _),cM.lM hs (by rw[eY];exact Zh) he2 rfl rfl (bP _) (rD _ _ _)⟩
 .cases h
def Yw(hS:fh S)(hT:zu E.E)(X0:O8 S E)(hX:XOk S E)(hf:cF g (bz fr) a w)(hs:bh g (aG s) w)(o:Oper)(h:qK E fr s o.op=Z (c,t,s'))(hc:c=W) :
  ∃v w' g',((execOp a.eval o).run E.E.P w=.ok (.value v) w'∨((execOp a.eval o).run E.E.P w=.ok .skip w'∧v=undef))∧aK g' w' (low t) v∧cM [] s g w s' g' w':=by
 unfold qK at h;split at h
 ·
  rename_i ty r B;rcases af h with⟨hb,C⟩|⟨_,C⟩;rotate_left
  .cases C
  clear h;rw[dR]at hb;have hn:s.aH<bB:=fQ hb.1;split at C;rotate_left
  .cases C
  rename_i m hm;obtain⟨kid,d,ht,hu,G,_,_⟩:=hX.mt _ _ hm;have hr:∀v,r.map a.eval=Z v->∃k n,v=.int k n:=by
   intro v R;cases r with
   |none=>cases R
   |some x=>
    simp only[dX,bg]at R;subst R;have hh:=hb.2;simp only[LZ]at hh;split at hh
    .rename_i k n I;exact⟨_,_,(cW hf I).acm⟩
    .rename_i k n I;exact⟨_,_,aK.Jh (cW hf I)⟩
    .cases hh
  have fin:∀ob:vX S,cQ ob=.map []->(W,(.mp s.aH:V S),dm s ob)=(c,t,s')->
    ∃v w' g',((execOp a.eval o).run E.E.P w=.ok (.value v) w'∨((execOp a.eval o).run E.E.P w=.ok .skip w'∧v=undef))∧aK g' w' (low t) v∧cM [] s g w s' g' w':=λob El he=>by
   simp only[bC]at he;obtain⟨_,rfl,rfl⟩:=he;obtain⟨v,w',g',h1,h2,h3⟩:=I6 (P:=E.E.P) hs hn ht hr El;exact⟨v,w',g',.inl (by simp[execOp,B,h1]),h2,h3⟩
  split at C
  .exact fin _ rfl (eK C)
  .exact fin _ rfl (eK C)
 ·
  rename_i ty x ix ok B;split at h;rotate_left
  .cases h
  rename_i m xv kv hm I hk;split at h;rotate_left
  .cases h
  rename_i vt hvt;split at h;rotate_left
  .cases h
  rename_i k l hkey H;simp only[bg,bC]at h;obtain⟨_,rfl,rfl⟩:=h;obtain⟨kid,d,ht,hu,G,⟨xi,z,K,hz⟩,hvv⟩:=hX.mt _ _ hm;obtain⟨ags,i,Ol⟩:=hvv vt hvt;have hke:=r5 hkey (cW hf hk);have hxr:=cW hf I;have M:aK g w (eD S vt (S.zero vt)) z:=tE (GB hS (hT.ti _ _ Ol) (X0.row _ _ _ Ol ags) (hX.zr _ _ _ Ol ags) K hz);have fin:∀(u:Value)(b:Bool),(Instr.lookup ty (a.eval x) (a.eval ix) ok).run E.E.P w=.ok (if ok then .tuple #[u,.bool b]else u) w->aK g w (eD S vt (FL m.kt (S.zero vt) k l)) u->b=En m.kt k l->
    ∃v w' g',((execOp a.eval o).run E.E.P w=.ok (.value v) w'∨((execOp a.eval o).run E.E.P w=.ok .skip w'∧v=undef))∧
     aK g' w' (low (bif ok then .gm [.ty vt (FL m.kt (S.zero vt) k l),.ty .bool (En m.kt k l)]else .ty vt (FL m.kt (S.zero vt) k l):V S)) v∧cM [] s g w s g' w':=by
   intro u b U hu hbb;refine⟨_,w,g,.inl (by simp only[execOp,B,Sem.run_bind,U,Result.andThen_ok,Sem.run_pure];rfl),?_,cM.refl hs⟩;cases ok with
   |false=>exact hu
   |true=>
    subst hbb;refine .gm _ _ rfl λj t' v' h1 h2=>?_
    match j with
    |0=>simp[bn]at h1 h2;subst h1;subst h2;exact hu
    |1=>simp[bn]at h1 h2;subst h1;subst h2;exact .sym _ _ (.lit _)
    |j+2=>simp[bn]at h1
  unfold U8 at H;split at H
  .rename_i oid;split at H
   .rename_i kt' vt' l' El;obtain⟨rfl,rfl,VK⟩:=MF H;cases VK;obtain⟨b,VC,hb⟩:=aK.Jg hxr;obtain⟨x0,hh,Zl⟩:=(hs.box oid b hb).2.2 _ (by rw[aY,El];rfl);obtain⟨ms,cl,rfl,hmr⟩:=gW.PN G (f:=eD S vt') Zl;have hlk:=Dg (P:=E.E.P) G ht hu K hz k hh hmr.1 (λj p q h1 h2=>(hmr.2 j p q h1 h2).1) ok;obtain⟨r1,r2⟩:=N7 (f:=eD S vt') (k:=k) hmr M;refine fin _ _ ?_ r1 r2;rw[hke,VC,hlk];cases hq:(FM m.kt k l').bind λj=>(ms[j]?).map (·.val)with|none=>simp[hq]|some v=>simp[hq]
   .cases H
  .simp only[bg]at H;subst H;refine fin z J ?_ M rfl;rw[hke,aK.Jh hxr];exact De G ht hu K hz k ok
  .cases H
 .exact Hu hX hS hf hs o (.inl ‹_›) h
 .exact Hu hX hS hf hs o (.inr ‹_›) h
 ·
  rename_i ty n cp B;split at h;rotate_left
  .cases h
  rename_i i e nv cv hi he hn hcv;split at h;rotate_left
  .cases h
  rename_i n1 c1 G hn1 XY;rcases af h with⟨hb,C⟩|⟨_,C⟩;rotate_left
  .cases C
  simp only[bg,bC]at C;obtain⟨rfl,rfl,rfl⟩:=C;rw[dR]at hc;have hcn:c1=n1:=by simpa[ia]using hc.2
  subst hcn;obtain⟨p,hp,Zk⟩:=fJ hn1;obtain⟨q,hq,hqq⟩:=fJ XY;have e1:=dJ hp Zk (cW hf hn);have e2:=dJ hq hqq (cW hf hcv);obtain⟨v,w',g',h1,h2,h3⟩:=DU (P:=E.E.P) hS hs (fQ hb) (hT.ti _ _ hi) (X0.row _ _ _ hi he) hc.1 .i64 .i64;exact⟨v,w',g',.inl (by simp[execOp,B,e1,e2,h1]),h2,h3⟩
 ·
  rename_i ty x B;split at h;rotate_left
  .cases h
  rename_i i xv hi I;split at h;rotate_left
  .cases h
  rename_i b G hb;rcases af h with⟨hn,C⟩|⟨_,C⟩;rotate_left
  .cases C
  simp only[bg,bC]at C;obtain⟨_,rfl,rfl⟩:=C;obtain⟨p,hp,Zk⟩:=j0 hb;have e1:=gX hp Zk (cW hf I);obtain⟨_,d0,_,_,hu,_,_,_,_,hk⟩:=(hT.ti _ _ hi).all;rw[G]at hk;cases hk;obtain⟨v,w',g',h1,h2,h3⟩:=NO (P:=E.E.P) hs (fQ hn) hu b;exact⟨v,w',g',.inl (by simp[execOp,B,e1,h1]),h2,h3⟩
 ·
  rename_i ty x u B;split at h;rotate_left
  .rename_i i hi I;split at h;rotate_left
   .cases h
   rename_i G;simp only[bg,bC]at h;obtain⟨_,rfl,rfl⟩:=h;have:=(Qt (w:=w) (hT.ti _ _ hi) G (cW hf I) x).1;exact⟨_,w,g,.inl (by simp only[execOp,B,Sem.run_bind]at this ⊢;simp only[Act.eval]at this ⊢;rw[this];rfl),.kb W,cM.refl hs⟩
  .cases h
  rename_i i n y hi I;split at h;rotate_left
  .cases h
  rename_i G;simp only[bg,bC]at h;obtain⟨_,rfl,rfl⟩:=h;have:=(QA (S:=S) hS (hT.ti _ _ hi) G (cW hf I) x).1;exact⟨_,w,g,.inl (by simp only[execOp,B,Sem.run_bind]at this ⊢;simp only[Act.eval]at this ⊢;rw[this];rfl),.sym _ _ (.lit _),cM.refl hs⟩
 ·
  rename_i ty x u B;split at h;rotate_left
  .rename_i i hi I;split at h;rotate_left
   .cases h
   rename_i G;simp only[bg,bC]at h;obtain⟨_,rfl,rfl⟩:=h;have:=(Qt (w:=w) (hT.ti _ _ hi) G (cW hf I) x).2;exact⟨_,w,g,.inl (by simp only[execOp,B,Sem.run_bind]at this ⊢;simp only[Act.eval]at this ⊢;rw[this];rfl),.kb J,cM.refl hs⟩
  .cases h
  rename_i i n y hi I;split at h;rotate_left
  .cases h
  rename_i G;simp only[bg,bC]at h;obtain⟨_,rfl,rfl⟩:=h;have:=(QA (S:=S) hS (hT.ti _ _ hi) G (cW hf I) x).2;exact⟨_,w,g,.inl (by simp only[execOp,B,Sem.run_bind]at this ⊢;simp only[Act.eval]at this ⊢;rw[this];rfl),.sym _ _ (.lit _),cM.refl hs⟩
 ·
  rename_i ty x u B;split at h;rotate_left
  .cases h
  rename_i i e xv hi he I;split at h;rotate_left
  .cases h
  rename_i l G hl;simp only[bg,bC]at h;obtain⟨_,rfl,rfl⟩:=h;obtain⟨ad,n,m,R,hE⟩:=abI hs hl (cW hf I);have:=abH (w:=w) (hT.ti _ _ hi) G ad n m x;exact⟨_,w,g,.inl (by rw[<-R]at this;simp only[execOp,B,Sem.run_bind]at this ⊢;simp only[Act.eval]at this ⊢;rw[this];rfl),.ub _ _ hE,cM.refl hs⟩
 ·
  rename_i x B;split at h;rotate_left
  .cases h
  rename_i n y I;simp only[bg,bC]at h;obtain⟨rfl,rfl,rfl⟩:=h;have hr:=cW hf I;rw[Aq]at hc;rcases CA hS (show aK g w (eD S (.cR n) y) (a.eval x)from hr)with⟨he,_⟩|⟨t',d,u,he,R,_⟩
  .rw[he]at hc;cases hc
  .exact ⟨_,w,g,.inl (by simp[execOp,B,R]),R▸hr,cM.refl hs⟩
 ·
  rename_i x xt ty ok B;split at h;rotate_left
  .cases h
  rename_i i τ n y hi he I;obtain⟨xi,d1,z,K,Kk,_,Zw,hzx,xl,SB⟩:=(hT.ti _ _ hi).all;have hni:i.kd≠.iface->∀ms,d1≠.interface ms:=λhk ms hd=>hk ((hT.ti _ _ hi).nif ms (by rw[Kk,hd]));have hr:=CA hS (show aK g w (eD S (.cR n) y) (a.eval x)from cW hf I);have M:aK g w (eD S τ (S.zero τ)) z:=tE (GB hS (hT.ti _ _ hi) (X0.row _ _ _ hi he) (hX.zr _ _ _ hi he) K hzx);have hno:i.kd≠.iface->(∀d,sn S (S.alts n) (S.r7 n y)≠Z (ty,d))->(Instr.typeAssert (a.eval x) xt ty W).run E.E.P w=.ok (.tuple #[z,.bool J]) w:=by
   intro hk hne;rcases hr with⟨_,R⟩|⟨t',d,u,he',R,_⟩
   .rw[R];simp only[Instr.typeAssert,Sem.run_bind,aM Kk,Result.andThen_ok];cases d1 with|interface ms=>exact absurd rfl (hni hk ms)|_=>simp[ei K hzx]
   .have al9:t'≠ty:=λe=>hne d (e▸he');rw[R];simp only[Instr.typeAssert,Sem.run_bind,aM Kk,Result.andThen_ok];cases d1 with|interface ms=>exact absurd rfl (hni hk ms)|_=>simp[al9,ei K hzx]
  split at h
  .cases h
  .rename_i j hj hk;rcases af h with⟨hb,C⟩|⟨_,C⟩;rotate_left
   .cases C
   clear h;have hte:=fE hb;have hk':i.kd≠.iface:=λe=>hk e;rcases EF (S.alts n) ty j (S.r7 n y) S.zero (hS.alts n) hj with⟨h1,h2⟩|⟨h1,h2,h3⟩
   ·
    rcases hr with⟨he',_⟩|⟨t',d,u,he',R,hd⟩
    .rw[he']at h2;cases h2
    rw[he']at h2;simp only[bg,bC]at h2;obtain⟨rfl,rfl⟩:=h2;have U:∀ok,(Instr.typeAssert (a.eval x) xt t' ok).run E.E.P w=.ok (if ok then .tuple #[u,.bool W]else u) w:=by intro ok;rw[R];simp only[Instr.typeAssert,Sem.run_bind,aM Kk,Result.andThen_ok];cases d1 with|interface ms=>exact absurd rfl (hni hk' ms)|_=>simp
    rcases af C with⟨L,C⟩|⟨L,C⟩
    .simp only[bg,bC]at C;obtain⟨_,rfl,rfl⟩:=C;subst L;refine⟨_,w,g,.inl (by simp only[execOp,B,Sem.run_bind,U,Result.andThen_ok,Sem.run_pure];rfl),.gm _ _ rfl λq t v O X=>?_,cM.refl hs⟩
     match q with
     |0=>simp[bn]at O X;subst O;subst X;exact tE hd
     |1=>simp[bn]at O X;subst O;subst X;rw[h1];exact .sym _ _ (.lit _)
     |q+2=>simp[bn]at O
    .simp only[bg,bC]at C;obtain⟨_,rfl,rfl⟩:=C;subst L;exact⟨_,w,g,.inl (by simp only[execOp,B,Sem.run_bind,U,Result.andThen_ok,Sem.run_pure];rfl),tE hd,cM.refl hs⟩
   ·
    rcases af C with⟨L,C⟩|⟨L,C⟩
    .simp only[bg,bC]at C;obtain⟨_,rfl,rfl⟩:=C;subst L;refine⟨_,w,g,.inl (by simp only[execOp,B,Sem.run_bind,hno hk' h3,Result.andThen_ok,Sem.run_pure];rfl),.gm _ _ rfl λq t v O X=>?_,cM.refl hs⟩
     match q with
     |0=>simp[bn]at O X;subst O;subst X;simp only[low];rw[h2];subst hte;exact M
     |1=>simp[bn]at O X;subst O;subst X;rw[h1];exact .sym _ _ (.lit _)
     |q+2=>simp[bn]at O
    .simp only[bg,bC]at C;obtain⟨rfl,_⟩:=C;rw[h1]at hc;cases hc
  .rename_i hj hk;have hk':i.kd≠.iface:=λe=>hk e;rcases af h with⟨L,C⟩|⟨L,C⟩;rotate_left
   .cases C
   simp only[bg,bC]at C;obtain⟨_,rfl,rfl⟩:=C;subst L;refine⟨_,w,g,.inl (by simp only[execOp,B,Sem.run_bind,hno hk' (λd=>EF.Ap _ _ _ hj d),Result.andThen_ok,Sem.run_pure];rfl),.gm _ _ rfl λq t v O X=>?_,cM.refl hs⟩
   match q with
   |0=>simp[bn]at O X;subst O;subst X;exact M
   |1=>simp[bn]at O X;subst O;subst X;exact .kb _
   |q+2=>simp[bn]at O
 ·
  rename_i ty ps B;split at h;rotate_left
  .cases h
  rename_i i pv hi hps;split at h;rotate_left
  .cases h
  rename_i len sz ag G;simp only[eC,bC]at h;obtain⟨cs,hcs,_,rfl,rfl⟩:=h;obtain⟨p,hfl,hp⟩:=Ak hS hcs;rw[lU]at hfl;obtain⟨xi,d1,z,K,Kk,_,Zw,hzx,xl,SB⟩:=(hT.ti _ _ hi).all;rw[G]at SB;obtain⟨el,j,d',rfl,hj,LX,hju,_⟩:=SB;have M:=qv (g:=g) (w:=w) xl;obtain⟨rs,h1,h2⟩:=uh (g:=g) (w:=w) (pl:=λk=>Z (k*sz,sz)) (λk off ti Km=>by
   simp only[bg,bC]at Km;obtain⟨rfl,rfl⟩:=Km;rfl) _ _ hfl hp (nH hf (rP hps)) ⟨by simpa using M.1,λj t v h1 h2=>M.2 j t v h1 (by simpa using h2)⟩
  refine⟨.agg rs,w,g,.inl ?_,.agg _ _ (by simpa using h2.1) (λj t v h3 h4=>h2.2 j t v h3 (by simpa using h4)),cM.refl hs⟩;have agp:Instr.fill (λi=>Z (i*sz,sz)) z.cells (ps.map λ(i,x)=>(i,a.eval x)).toList=Z rs:=by simpa using h1
  simp only[execOp,B,Instr.build,Sem.run_bind,ei K hzx,aM Kk,dB hj,LX,Result.andThen_ok,Sem.run_pure,agp]
 .cases h
end
end
section
section
variable {g:Gh}{w:World}
def Ia{β:Type}{ω:Type}{X:V S->bq S->Option ω}{D:Option ω}{kt:Ty}(k:den S.A kt)(f:β->V S)(s:bq S):∀(l:List (den S.A kt×β)),
  sU X D (l.map λp=>(HA kt k p.1,f p.2,s))=match(FM kt k l).bind (l[·]?)with
   |some p=>X (f p.2) s
   |none=>D
 |[]=>rfl
 |p::l=>by
  simp only[lI,sU,FM];cases b:HA kt k p.1 with
  |true=>simp[aj]
  |false=>
   simp only[aj,dP];rw[Ia k f s l];cases FM kt k l with|none=>rfl|some j=>simp
def uD{ω:Type}{X:V S->bq S->Option ω}{n:Int}{ag:Bool}{sz:Nat}{cs:List (V S)}{s:bq S}{r:ω}:∀{l:List Nat},sU X Y (xE n ag sz cs s l)=Z r->
  ∃j v,j∈l∧n=(j:Int)∧((cs.drop (j*sz)).take sz).length=sz∧0<sz∧yB ag ((cs.drop (j*sz)).take sz)=Z v∧X v s=Z r
 |[],h=>by cases h
 |j::l,h=>by
  simp only[xE]at h;split at h
  .rename_i v b;rcases af b with⟨d,b⟩|⟨_,b⟩;rotate_left
   .cases b
   rw[dR]at d;have e:=beq_iff'.1 d.1;rw[bK]at e;simp only[sU]at h;rcases GN h with⟨g,h⟩|⟨_,h⟩
   .exact ⟨j,v,ez,by simpa[ia]using g,e,fQ d.2,b,h⟩
   .obtain ⟨i,u,h1,h2⟩:=uD h;exact⟨i,u,gJ _ h1,h2⟩
  .cases h
where
 GN {α:Type} {c:Bool} {x y:Option α} {r:α} (h:aj c x y=Z r):(c=W∧x=Z r)∨(c=J∧y=Z r):=af h
variable {s s':bq S}{E:gA}{fr:bW S}{a:Act}{o:Oper}{f:FuncId}
def Qq(hT:zu E.E)(hX:XOk S E)(hf:cF g (bz fr) a w)(hs:bh g (aG s) w)(o:Oper){O0:List (Bool×V S×bq S)}{p:Bool}{d:V S}(h:iI E fr s o.op=Z (O0,p,d,s')){ω:Type}{X:V S->bq S->Option ω}{r:ω}
  (C:sU X (aC p (X d s')) O0=Z r) :
  ∃t s1 v w' g',X t s1=Z r∧((execOp a.eval o).run E.E.P w=.ok (.value v) w'∨((execOp a.eval o).run E.E.P w=.ok .skip w'∧v=undef))∧aK g' w' (low t) v∧cM [] s g w s1 g' w'∧((∀it b,o.op≠.next it b)->s1=s):=by
 unfold iI at h;split at h
 ·
  rename_i it B;split at h;rotate_left
  .cases h
  rename_i I hit;split at h;rotate_left
  .cases h
  rename_i b pos El;rcases af h with⟨hfl,O⟩|⟨_,O⟩;rotate_left
  .cases O
  clear h;simp only[bg,bC]at O;obtain⟨rfl,rfl,rfl,rfl⟩:=O;obtain⟨cg,hie,hb⟩:=aK.YZ (cW hf hit);have LV:(aG s).ob.get I=Z (.o7 (bI b) pos):=by rw[aY,El];rfl
  obtain⟨x0,hh,Zl⟩:=(hs.box I cg hb).2.2 _ LV;have R:=(hs.box I cg hb).2.1;cases Zl;have cL:(getObj cg).run E.E.P w=.ok (.stringIter (bI b) pos) w:=by simp[getObj,Sem.run,hh]
  have Cb:∀x,(setObj cg x).run E.E.P w=.ok () {w with heap:=w.heap.setIfInBounds cg x}:=λx=>by simp[setObj,Sem.run,hh]
  have K:(bI b).size=b.length:=by simp[bI,ByteArray.size]
  simp only[sU]at C;rcases uD.GN C with⟨hp,C⟩|⟨hp,C⟩
  .have hp':pos<(bI b).size:=by rw[K];simpa[NU]using hp
   obtain⟨q1,q2,q3⟩:=IC (.stringIter (bI b) (pos+FO b pos)) R;obtain⟨Zh,he2⟩:=hs.setObj hb LV rfl (fQ hfl) (XS:=.o7 (bI b) (pos+FO b pos)) (.o7 _ _) q1 q2 q3 rfl rfl;refine⟨_,_,.tuple #[.bool W,goInt pos,.int .i32 (sM b pos)],_,g,C,.inl ?_,.gm _ _ rfl λq t v G H=>?_,cM.lM hs (by rw[eY];exact Zh) he2 rfl rfl (bP _) (rD _ _ _),λhh=>absurd B (hh it W)⟩
   .have L:(Instr.next (a.eval it) W o.type).run E.E.P w=.ok (.tuple #[.bool W,goInt pos,.int .i32 (sM b pos)]) {w with heap:=w.heap.setIfInBounds cg (.stringIter (bI b) (pos+FO b pos))}:=by rw[hie];simp only[Instr.next,Sem.run_bind,cL,Result.andThen_ok,hp',fR,Cb];rfl
    simp only[execOp,B,Sem.run_bind,L,Result.andThen_ok,Sem.run_pure]
   .match q with
    |0=>simp[bn]at G H;subst G;subst H;exact .kb _
    |1=>simp[bn]at G H;subst G;subst H;exact .sym _ _ (.lit _)
    |2=>simp[bn]at G H;subst G;subst H;exact .sym _ _ (.lit _)
    |q+3=>simp[bn]at G
  .have hp':¬pos<(bI b).size:=by rw[K];simpa[NU]using hp
   simp only[aC,cG]at C;refine⟨_,_,.tuple #[.bool J],w,g,C,.inl ?_,.gm _ _ rfl λq t v G H=>?_,cM.refl hs,λhh=>absurd B (hh it W)⟩
   .have L:(Instr.next (a.eval it) W o.type).run E.E.P w=.ok (.tuple #[.bool J]) w:=by rw[hie];simp only[Instr.next,Sem.run_bind,cL,Result.andThen_ok,hp',eP];rfl
    simp only[execOp,B,Sem.run_bind,L,Result.andThen_ok,Sem.run_pure]
   .match q with
    |0=>simp[bn]at G H;subst G;subst H;exact .kb _
    |q+1=>simp[bn]at G
 ·
  rename_i ty x ix ok B;split at h;rotate_left
  .cases h
  rename_i m I kv hm hx hk;split at h;rotate_left
  .cases h
  rename_i kt l k i El hkey Ol;split at h;rotate_left
  .cases h
  rename_i l' z hck hpz;simp only[bg,bC]at h;obtain⟨rfl,rfl,rfl,rfl⟩:=h;obtain⟨rfl,VK⟩:=MG hck;cases VK;obtain⟨kid,dd,ht,hu,U,⟨xi,zv,LS,hz⟩,_⟩:=hX.mt _ _ hm;have hke:=r5 hkey (cW hf hk);obtain⟨b,VC,hb⟩:=aK.Jg (cW hf hx);obtain⟨x0,hh,Zl⟩:=(hs.box I b hb).2.2 _ (by rw[aY,El];rfl);obtain⟨ms,cl,rfl,hmr⟩:=gW.PN U (f:=low) Zl;have hlk:=Dg (P:=E.E.P) U ht hu LS hz k hh hmr.1 (λj p q h1 h2=>(hmr.2 j p q h1 h2).1) ok;have hzr:aK g w (low z) zv:=by
   obtain⟨x',_,z',hx',_,_,Zw,hz',xl,_⟩:=(hT.ti _ _ Ol).all;rw[LS]at hx';cases hx';rw[hz]at hz';cases hz';obtain⟨hza,hzn⟩:=(hT.ti _ _ Ol).zag _ _ LS hz;obtain⟨hz1,hz2⟩:=qv (g:=g) (w:=w) xl;have hp:=nZ hpz;rw[lU]at hp;obtain⟨y,_⟩:=u9 (g:=g) (w:=w) hp (vals:=zv.cells.toList) (by simpa using hz1) (λj t v h1 h2=>hz2 j t v h1 (by simpa using h2));cases hia:i.agg with
   |true=>obtain⟨vs,rfl⟩:=hza hia;rw[hia]at y;simpa[Value.cells]using y
   |false=>have:=hzn hia;rw[hia,this]at y;simpa using y
  rw[Ia k (λv=>bif ok then .gm [v,.kb W]else v) s l']at C;have wrap:∀(t:V S)(u:Value)(bb:Bool),aK g w (low t) u->aK g w (low (bif ok then .gm [t,.kb bb]else t:V S)) (if ok then .tuple #[u,.bool bb]else u):=by
   intro t u bb hu;cases ok with
   |false=>exact hu
   |true=>
    refine .gm _ _ rfl λq t v G H=>?_
    match q with
    |0=>simp[bn]at G H;subst G;subst H;exact hu
    |1=>simp[bn]at G H;subst G;subst H;exact .kb _
    |q+2=>simp[bn]at G
  have e:=hlk;rw[<-VC,<-hke]at e;cases hix:FM m.kt k l' with
  |none=>rw[hix]at C e;simp only[Qb]at C e;simp only[aC,cG]at C;exact⟨_,_,_,w,g,C,.inl (by simp only[execOp,B,Sem.run_bind,e,Result.andThen_ok,Sem.run_pure]),wrap z zv J hzr,cM.refl hs,λ_=>rfl⟩
  |some j=>
   obtain⟨q,hq,_⟩:=yQ hix;have hj:j<ms.size:=by rw[<-hmr.1];exact aF hq
   have hmj:ms[j]?=Z ms[j]:=ov hj;rw[hix]at C e;simp only[IS,hq,hmj,dX]at C e;exact⟨_,_,_,w,g,C,.inl (by simp only[execOp,B,Sem.run_bind,e,Result.andThen_ok,Sem.run_pure]),wrap q.2 _ W (hmr.2 j q _ hq hmj).2,cM.refl hs,λ_=>rfl⟩
 ·
  rename_i ty x ix B;split at h;rotate_left
  .cases h
  rename_i i cs kv hi hx hk;split at h;rotate_left
  .cases h
  rename_i len sz ag n U hn;rcases af h with⟨hlen,O⟩|⟨_,O⟩;rotate_left
  .cases O
  clear h;simp only[bg,bC]at O;obtain⟨rfl,rfl,rfl,rfl⟩:=O;simp only[aC,dP]at C;obtain⟨j,v,Zp,rfl,hl,hsz,hpk,hXv⟩:=uD C;have hjl:j<len:=KW.1 Zp;obtain⟨pq,hp,Zk⟩:=fJ hn;have e1:=dJ hp Zk (cW hf hk);obtain⟨_,d1,_,_,Kk,hsz1,hag1,_,_,SB⟩:=(hT.ti _ _ hi).all;rw[U]at SB;obtain⟨el,jj,d',rfl,hj1,hj2,hj3,hj4⟩:=SB;obtain⟨vs,VC,lO⟩:=aK.Qy (cW hf hx);have M:=(lO.drop (j*sz)).take sz;have R:=nZ hpk;rw[iY,iZ]at R;obtain⟨y,h1⟩:=u9 (g:=g) (w:=w) R M.1 M.2;have hlv:((vs.toList.drop (j*sz)).take sz).length=sz:=by rw[<-M.1,<-iZ,<-iY,eS];exact hl
  have hle:j*sz+sz<=vs.size:=by simp at hlv;omega
  have hrp:=KK (P:=E.E.P) (w:=w) hj1 hj3 vs (j*sz) (by rw[hj2];exact hle) (λhd=>by
   rw[<-hj4]at hd;obtain⟨v,hv⟩:=h1 hd;rw[hv]at hlv;rw[hj2];exact hlv.symm)
  rw[hj2,<-hj4]at hrp;refine⟨v,s,_,w,g,hXv,.inl ?_,y,cM.refl hs,λ_=>rfl⟩;have hin:(0:Int)<=(j:Int)∧(j:Int)<(len:Int):=by omega
  simp only[execOp,B,Instr.index,e1,VC,asIntOf,Sem.run_bind,Sem.run_pure,Result.andThen_ok,aM Kk,bJ hin,dB hj1,hj2,FY,hrp]
 .cases h
def Yh(P:Program)(b:Array TypeId)(ty:TypeId)(m n:Int):(Builtin.max_ b ty #[.int .i64 m,.int .i64 n]).run P w=.ok (.int .i64 (DR m n)) w:=by simp only[Builtin.max_,List.foldlM_cons,List.foldlM_nil,Builtin.max2,DR,D.bN];by_cases h:m<n<;>simp[h]
def Yg(P:Program)(b:Array TypeId)(ty:TypeId)(m n:Int):(Builtin.min_ b ty #[.int .i64 m,.int .i64 n]).run P w=.ok (.int .i64 (N3 m n)) w:=by simp only[Builtin.min_,List.foldlM_cons,List.foldlM_nil,Builtin.min2,N3,D.bN];by_cases h:n<m<;>simp[h]
def zj(hX:XOk S E)(hs:bh g (aG s) w)(hf:cF g (bz fr) a w){cl:Call}(p:o.op=.call cl){b:Builtin}(H:cl.callee=.builtin b){args:List (V S)}(q:jP fr cl.args.toList=Z args){c:Bool}{t:V S}
  (h:qZ E s b cl.argTypes args=Z (c,t,s')):s'=s∧∃v,(execOp a.eval o).run E.E.P w=.ok (.value v) w∧aK g w (low t) v:=by
 have e:=e9 hf (gP q);unfold qZ at h;split at h
 .rename_i r;have key:∀(l:Nat)(ob:vX S),s.ob.get r=Z ob->(∀x,gW g w (cQ ob) x->∃k c,x=.map k c∧k.size=l)->∀m,(nth cl.argTypes.toList 0).bind E.mt=Z m->
    ∃v,(execOp a.eval o).run E.E.P w=.ok (.value v) w∧aK g w (low (.ty (.int .i64) (l:Int):V S)) v:=by
   intro l ob i u m j;simp only[rL]at j;obtain⟨ty,z,I⟩:=j;obtain⟨kid,d,ht,_⟩:=hX.mt _ _ I;have h0:aK g w (.mp r) ((cl.args.toList.map a.eval)[0]'(by have:=e.1;simp[bn]at this;simp;omega)):=e.2 0 _ _ rfl (fP _);obtain⟨cg,K,B⟩:=aK.Jg h0;obtain⟨x0,hh,L⟩:=(hs.box r cg B).2.2 _ (by rw[aY,i];rfl);obtain⟨k,cc,rfl,M⟩:=u _ L;have cL:(getObj cg).run E.E.P w=.ok (.map k cc) w:=rI hh;have O:(cl.args.map a.eval)[0]?=Z (.map (Z cg)):=by
    have C:0<(cl.args.toList.map a.eval).length:=by have:=e.1;simp[bn]at this;simp;omega
    have:=fP C;rw[K]at this;simpa using this
   have G:cl.argTypes[0]?=Z ty:=by rw[jq]at z;simpa using z
   refine⟨goInt k.size,?_,by rw[M];exact .sym _ _ (.lit _)⟩;simp only[execOp,p,resolve,H,Sem.run_bind,Sem.run_pure,Result.andThen_ok,invoke,builtin,Builtin.len_,G,O,aM ht,cL]
  split at h
  .rename_i m kt vt l j i;simp only[bg,bC]at h;obtain⟨_,rfl,rfl⟩:=h;exact⟨rfl,key l.length _ i (λx u=>by cases u with|map _ k c R _=>exact⟨k,c,rfl,by simpa using R.symm⟩) m j⟩
  .rename_i m kt l j i;simp only[bg,bC]at h;obtain⟨_,rfl,rfl⟩:=h;exact⟨rfl,key l.length _ i (λx u=>by cases u with|map _ k c R _=>exact⟨k,c,rfl,by simpa using R.symm⟩) m j⟩
  .cases h
 .rename_i x y;split at h;rotate_left
  .cases h
  rename_i m n j U;simp only[bg,bC]at h;obtain⟨_,rfl,rfl⟩:=h;obtain⟨a1,X⟩:=Kv e j U;refine⟨rfl,.int .i64 (DR m n),?_,.sym _ _ (.lit _)⟩;simp only[execOp,p,resolve,H,Sem.run_bind,Sem.run_pure,Result.andThen_ok,invoke,builtin,X,Yh]
 .rename_i x y;split at h;rotate_left
  .cases h
  rename_i m n j U;simp only[bg,bC]at h;obtain⟨_,rfl,rfl⟩:=h;obtain⟨a1,X⟩:=Kv e j U;refine⟨rfl,.int .i64 (N3 m n),?_,.sym _ _ (.lit _)⟩;simp only[execOp,p,resolve,H,Sem.run_bind,Sem.run_pure,Result.andThen_ok,invoke,builtin,X,Yg]
 .cases h
where
 Kv {l:Array Operand} {a:Act} {x y:V S} {m n:Int} (lO:PW (aK g w) (bn [x,y]) (l.toList.map a.eval)) (hm:gF .i64 x=Z m) (hn:gF .i64 y=Z n):True∧l.map a.eval=#[.int .i64 m,.int .i64 n]:=by
  refine⟨trivial,?_⟩;have hl:(l.toList.map a.eval).length=2:=by have:=lO.1;simpa[bn]using this.symm
  match VK:l.toList.map a.eval,hl with
  |[u,v],_=>rw[VK]at lO;have h1:=lO.2 0 _ _ rfl rfl;have h2:=lO.2 1 _ _ rfl rfl;obtain⟨p,hp,Zk⟩:=fJ hm;obtain⟨q,hq,hqq⟩:=fJ hn;rw[dJ hp Zk h1,dJ hq hqq h2]at VK;apply Dt;simpa using VK
def NK(m:XOk S E){t:TypeId}{j:String}(h:E.I3 t j=Z f)(v:Value)(args:Array Value)(hf:mj E.E.P f):(callMethod (.iface t v) j args).run E.E.P w=.ok (.enter f (#[v]++args)) w:=by
 obtain⟨x,s,d,p,q,hp,l,i⟩:=m.I3 _ _ _ h;obtain⟨n,r⟩:∃n,E.E.P.types.size+Made.depth=n+1:=⟨E.E.P.types.size+Made.depth-1,by unfold Made.depth;omega⟩;have b:(method (E.E.P.types.size+Made.depth) t v j).run E.E.P w=.ok (f,v) w:=by
  rw[r];simp only[method,Sem.run_bind,pZ p,Result.andThen_ok,q,hp,follow,Sem.run_pure];rcases i with⟨i,k⟩|⟨i,e,rfl⟩
  .simp only[i,Sem.run_bind,receiverAt,aM l,Result.andThen_ok];cases d<;>first|(exact absurd rfl (k _))|(simp[Place.get])
  .simp only[i,Sem.run_bind,receiverAt,aM l,Result.andThen_ok];simp[Place.get]
 have g:(Go.program).run E.E.P w=.ok E.E.P w:=rfl;simp only[callMethod,Sem.run_bind,g,Result.andThen_ok,b,u6 hf]
def KL(b:XOk S E){c:Call}(d:o.op=.call c){x:Operand}{m:String}(g:c.callee=.invoke x m){t:TypeId}{v:Value}(i:a.eval x=.iface t v)(h:E.I3 t m=Z f)(j:mj E.E.P f) :
  (execOp a.eval o).run E.E.P w=.ok (.enter f (#[v]++c.args.map a.eval)) w:=by
 simp only[execOp,d,resolve,g,i,Sem.run_bind,Sem.run_pure,Result.andThen_ok,invoke];simp only[Qg,Ld,fc,w4,Nat.lt_add_one,fR,NR,rM];have e:(#[Value.iface t v]++c.args.map a.eval).extract 1 (#[Value.iface t v]++c.args.map a.eval).size=c.args.map a.eval:=by apply Dt;simp only[Array.toList_extract,FZ,Qa,UH];simp;exact List.take_of_length_le (by simp)
 rw[e];exact NK b h v _ j
end
end
end TL
end
end
