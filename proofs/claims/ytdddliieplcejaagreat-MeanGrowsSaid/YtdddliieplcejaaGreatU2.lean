import Derived.Laws.OwnMore
import Derived.Test.YtdddliieplcejaaGreatU1
set_option linter.all false
set_option maxRecDepth 100000
set_option maxHeartbeats 0
noncomputable section
open Option renaming some->Z,none->Y
open Bool renaming true->W,false->J
section
namespace TL
open Go
variable {S:Sg}
section
def aD{α:Type}(c:Bool)(x:O α):O α:=bif c then x else Y
def aj{α:Type}(c:Bool)(x y:O α):O α:=bif c then x else y
def ai{α β:Type}(x:O α)(f:α->O β):O β:=match x with|some a=>f a|none=>Y
def imp(c p:Bool):Bool:=bif c then p else W
inductive Ck where
 |dat (t:Ty)|own (e:Ty)|jw (n j:Nat) (t:Ty)|nil (e:Ty)|ptr (t:Ty)
@[reducible] def Ck.ty:Ck->Ty|.dat t=>t|.own e=>.sl e|.jw n _ _=>.sl (.st n)|.nil e=>.sl e|.ptr t=>t
inductive Bk where
 |cells (cs:List Ck)|map (kt vt:Ty)|pH|link (pre post:List Ck)
inductive Pk where
 |one (c:Ck)|box (k:Bk)|hid (k:Bk)
@[reducible] def gA(A:Nat->Type):L Ck->Type
 |[]=>U
 |c::l=>den A c.ty×gA A l
@[reducible] def wg(A:Nat->Type):Bk->Type
 | .cells a=>gA A a
 | .map b c=>L (den A b×den A c)
 | .pH=>L UInt8×Nat
 | .link pre post=>gA A pre×gA A post
@[reducible] def fZ(A:Nat->Type):L Pk->Type
 |[]=>U
 | .one c::l=>den A c.ty×fZ A l
 | .box k::l=>wg A k×fZ A l
 | .hid k::l=>wg A k×fZ A l
@[reducible] def iJ(A:Nat->Type):L Pk->Type
 |[]=>U
 | .one _::l=>iJ A l
 | .box k::l=>wg A k×iJ A l
 | .hid k::l=>wg A k×iJ A l
inductive Rx(R P:Type) where
 |ok (r:R)|dm (p:P)
@[reducible] def RT:Bool->Type->Type->Type
 |false,R,_=>R
 |true,R,P=>Rx R P
def RT.res{R P:Type}:(a:Bool)->RT a R P->Rx R P
 |false,r=>Rx.ok r
 |true,r=>r
def RT.ok{R P:Type}:(a:Bool)->R->RT a R P
 |false,r=>r
 |true,r=>Rx.ok r
def RT.dm{R P:Type}:(a:Bool)->P->O (RT a R P)
 |false,_=>Y
 |true,p=>Z (Rx.dm p)
structure kC(S:Sg) where
 ps:List Pk
 rs:List Ck
 pn:Bool
 F:fZ S.A ps->Option (RT pn (gA S.A rs×iJ S.A ps) (den S.A S.pt×iJ S.A ps))
def lV(s:bq S):(c:Ck)->V S->O (den S.A c.ty×L Nat×L Nat)
 | .dat t,v=>match bP s t v with
  |some (x,os)=>Z (x,os,[])
  |none=>Y
 | .own e,.emp=>bif Nat.ble 1 (S.width e)then Z ([],[],[])else Y
 | .own e,.sh o r=>match s.ob.get o with
  |some (.arr t l era)=>bif Nat.beq r era&&(Nat.ble s.fl o&&Nat.ble s.lo o)then match m9 t e l with|some l=>Z (l,[],[o])|none=>Y else Y
  |_=>Y
 | .nil _,.emp=>Z ([],[],[])
 | .jw n j t,.emp=>bif Nat.ble 1 (S.width (.st n))&&(Cv S n j t&&Nat.blt j (S.width (.st n)))then Z ([],[],[])else Y
 | .jw n j t,.sh o r=>match s.ob.get o with
  |some (.kB b g l era m a Y)=>match Li s m a with
   |some ⟨d,f⟩=>bif (Nat.beq r era&&(Nat.beq j g&&(Nat.ble s.fl o&&(Nat.ble s.lo o&&(Nat.ble s.fl m&&(Nat.ble s.lo m&&(Nat.blt m s.aJ&&(Cv S b j d&&rL d t))))))))then match m9 (.st b) (.st n) (ja b j d l f)with
     |some l=>Z (l,[],[o,m])
     |none=>Y
    else Y
   |none=>Y
  |_=>Y
 |_,_=>Y
def gQ(s:bq S):(cs:L Ck)->L (V S)->O (gA S.A cs×L Nat×L Nat)
 |[],[]=>Z ((),[],[])
 |c::cs,v::l=>match lV s c v,gQ s cs l with
  |some (x,a,b),Z (h,d,e)=>Z ((x,h),a++d,b++e)
  |_,_=>Y
 |_,_=>Y
def Tc:Bk->Nat->V S
 | .cells _,o=>.ptr o 0
 | .map _ _,o=>.mp o
 | .pH,o=>.rI o
 | .link _ _,o=>.ptr o 0
def Cs:Bk->V S->O Nat
 | .cells _,.ptr o 0=>Z o
 | .map _ _,.mp o=>Z o
 | .pH,.rI o=>Z o
 | .link _ _,.ptr o 0=>Z o
 |_,_=>Y
def kq(s:bq S):(k:Bk)->O (wv S)->O (wg S.A k×L Nat×L Nat×O Nat)
 | .cells d,Z (.box c)=>match gQ s d c with
  |some (x,a,b)=>Z (x,a,b,Y)
  |none=>Y
 | .map e f,Z (.map k v l)=>match Ca k v e f l with
  |some l=>Z (l,[],[],Y)
  |none=>Y
 | .pH,Z (.pH b n)=>Z ((b,n),[],[],Y)
 | .link pre post,Z (.box c)=>match gQ s pre (c.take (cC pre)),nth c (cC pre),gQ s post (c.drop (Nat.succ (cC pre)))with
  |some (x,a,b),Z (.ptr o 0),Z (y,g,h)=>Z ((x,y),a++g,b++h,Z o)
  |_,_,_=>Y
 |_,_=>Y
def Et:Bk->L Pk->Bool
 | .link _ _,.hid _::_=>W
 | .link _ _,_=>J
 |_,_=>W
def ej(s:bq S):(ps:L Pk)->L (V S)->O Nat->O (fZ S.A ps×L Nat×L Nat×L Nat)
 |[],[],_=>Z ((),[],[],[])
 | .one c::ps,v::l,_=>match lV s c v,ej s ps l Y with
  |some (x,a,b),Z (h,d,e,f)=>Z ((x,h),a++d,b++e,f)
  |_,_=>Y
 | .box k::ps,v::l,_=>match Cs k v with
  |some o=>bif Nat.ble s.fl o&&Et k ps then match kq s k (s.ob.get o)with
   |some (x,a,b,g)=>match ej s ps l g with
    |some (h,d,e,f)=>Z ((x,h),a++d,b++e,o::f)
    |none=>Y
   |none=>Y
   else Y
  |none=>Y
 | .hid k::ps,l,Z o=>bif Nat.ble s.fl o&&Et k ps then match kq s k (s.ob.get o)with
   |some (x,a,b,g)=>match ej s ps l g with
    |some (h,d,e,f)=>Z ((x,h),a++d,b++e,o::f)
    |none=>Y
   |none=>Y
   else Y
 |_,_,_=>Y
def tQ(s:bq S):(c:Ck)->den S.A c.ty->V S×bq S
 | .dat t,x=>(.ty t x,s)
 | .own e,l=>(.sh s.aJ 0,dw s (.arr e l 0))
 | .nil _,_=>(.emp,s)
 | .ptr t,x=>(.mO t x 0,s)
 | .jw n j t,l=>(.sh s.aJ 0,dw (dw s (.kB n j l 0 (Nat.succ s.aJ) 0 Y)) (.rws t (xS n j t l) 0))
def gP(s:bq S):(cs:L Ck)->gA S.A cs->L (V S)×bq S
 |[],_=>([],s)
 |c::cs,x=>match tQ s c x.1 with
  |(v,s)=>match gP s cs x.2 with
   |(l,s)=>(v::l,s)
def dK:L Nat->O Nat
 |[]=>Y
 |a::_=>Z a
def Q0:O Nat->L (V S)
 |some o=>[.ptr o 0]
 |none=>[]
def gJ(s:bq S)(c:O Nat):(k:Bk)->wg S.A k->wv S×bq S
 | .cells d,x=>match gP s d x with
  |(a,s)=>(.box a,s)
 | .map e f,l=>(.map e f l,s)
 | .pH,x=>(.pH x.1 x.2,s)
 | .link pre post,x=>match gP s pre x.1 with
  |(a,s)=>match gP s post x.2 with
   |(b,s)=>(.box (a++(Q0 c++b)),s)
def ko(s:bq S):(ps:L Pk)->L Nat->iJ S.A ps->O (bq S)
 |[],[],_=>Z s
 | .one _::ps,a,h=>ko s ps a h
 | .box k::ps,o::a,h=>match gJ s (dK a) k h.1 with
  |(ob,s)=>ko {s with ob:=s.ob.set aL o ob,wr:=o::s.wr} ps a h.2
 | .hid k::ps,o::a,h=>match gJ s (dK a) k h.1 with
  |(ob,s)=>ko {s with ob:=s.ob.set aL o ob,wr:=o::s.wr} ps a h.2
 |_,_,_=>Y
def afU(b:Nat):O Nat->Bool
 |none=>W
 |some o=>Nat.beq o (Nat.succ b)
def r7(s:bq S):Nat->(ps:L Pk)->O (iJ S.A ps×L Nat×L Nat)
 |_,[]=>Z ((),[],[])
 |b,.one _::ps=>r7 s b ps
 |b,.box k::ps=>match kq s k (s.ob.get b),r7 s (Nat.succ b) ps with
  |some (x,a,c,d),Z (h,e,f)=>bif afU b d&&Et k ps then Z ((x,h),a++e,c++f)else Y
  |_,_=>Y
 |b,.hid k::ps=>match kq s k (s.ob.get b),r7 s (Nat.succ b) ps with
  |some (x,a,c,d),Z (h,e,f)=>bif afU b d&&Et k ps then Z ((x,h),a++e,c++f)else Y
  |_,_=>Y
def r9:L Nat->Bool
 |[]=>W
 |a::l=>!(l.contains a)&&r9 l
def A1(l m:L Nat):Bool:=l.all λa=>!(m.contains a)
def Gs:L (V S)->V S
 |[x]=>x
 |l=>.gB l
inductive xb(S:Sg) where
 |pJ
 |ext (id:Nat)
 |ret
 |dm (v:V S)
abbrev Sh:=L (Nat×Pk)
inductive Pt where
 |slot (k:Nat)|cell (p:Pt) (i:Nat)|cap (p:Pt) (i:Nat)|rnd (p:Pt) (k:Nat)
structure LSh where
 sh:Sh
 pts:List Pt:=[]
 al:List (Nat×Nat):=[]
 pl:Nat:=0
structure gl(S:Sg) where
 T:gH
 GI:FuncId->Option (kC S)
 sh:FuncId->Nat->Option LSh
 pn:Bool:=J
def n4:V S->L (V S)->O (FuncId×L (V S))
 | .fn (.func f) first cap,args=>Z (f,first++args++cap)
 |_,_=>Y
inductive Tgt where|fn (f:FuncId)|yl (o:Nat)
abbrev iH(S:Sg):=Tgt->L (V S)->bq S->{ω:Type}->(V S->bq S->O ω)->(V S->bq S->O ω)->O ω
mutual
def gX(os:L Nat):V S->Bool
 | .ptr o _=>os.contains o
 | .kH o _ _ _=>os.contains o
 | .sh o _=>os.contains o
 | .mp o=>os.contains o
 | .rJ o=>os.contains o
 | .rI o=>os.contains o
 | .qm o m _ _=>os.contains o||os.contains m
 | .fn _ a b=>nr os a||nr os b
 | .cR _ v=>gX os v
 | .agg c=>nr os c
 | .gB c=>nr os c
 | .gd _ v=>gX os v
 |_=>J
def nr(os:L Nat):L (V S)->Bool
 |[]=>J
 |v::l=>gX os v||nr os l
end
def Jy{α:Type}(os:L Nat):L (α×V S)->Bool
 |[]=>J
 |p::l=>gX os p.2||Jy os l
def pS(p:V S->Bool):Tr (V S)->Bool
 | .nil=>J
 | .node v l r=>(match v with|some x=>p x|none=>J)||(pS p l||pS p r)
def Ju(os:L Nat):wv S->Bool
 | .box a=>nr os a
 | .GD _ l=>Jy os l
 | .lp l=>pS (gX os) l.fr.tm
 | .kB _ _ _ _ m _ _=>os.contains m
 |_=>J
namespace Tr
variable {α:Type}
def del:Nat->Tr α->Nat->Tr α
 |0,t,_=>t
 |_+1,.nil,_=>.nil
 |n+1,.node v l r,k=>match k with
  |0=>.node Y l r
  |k+1=>match Nat.beq (Nat.mod k 2) 0 with
   |true=>.node v (del n l (Nat.div k 2)) r
   |false=>.node v l (del n r (Nat.div k 2))
def keep(p:α->Bool):Tr α->Tr α
 | .nil=>.nil
 | .node v l r=>.node (match v with|some x=>bif p x then Z x else Y|none=>Y) (keep p l) (keep p r)
end Tr
namespace Tr
variable {α:Type}
def mapA(f:α->α):Tr α->Tr α
 | .nil=>.nil
 | .node v l r=>.node (match v with|some x=>Z (f x)|none=>Y) (mapA f l) (mapA f r)
def jz(p:α->Bool):Tr α->L Nat
 | .nil=>[]
 | .node v l r=>(match v with|some x=>bif p x then[0]else[]|none=>[])++((jz p l).map (λk=>Nat.succ (Nat.mul 2 k))++(jz p r).map (λk=>Nat.succ (Nat.succ (Nat.mul 2 k))))
end Tr
def xg:V S:=.gd J fq
def o6(os:L Nat)(v:V S):V S:=bif gX os v then xg else v
def mP(os:L Nat):wv S->wv S
 | .box b=>.box (b.map (o6 os))
 | .GD c l=>.GD c (l.map λp=>(p.1,o6 os p.2))
 | .lp l=>.lp {l with fr:={l.fr with tm:=l.fr.tm.mapA (o6 os)}}
 | .kB n j l era m a hole=>bif os.contains m then .gone else .kB n j l era m a hole
 |o=>o
def forget(os:L Nat)(s:bq S):bq S:=match os with
 |[]=>s
 |_=>{s with ob:=s.ob.mapA (mP os),wr:=s.ob.jz (Ju os)++s.wr}
def Is(bs:L Nat)(s:bq S):bq S:={s with ob:=bs.foldl (λt o=>t.del aL o) s.ob}
def iw(p:V S->Bool):Bo S->Bo S
 | .call f args=>bif p f||args.any p then .bad else .call f args
 | .mark o=>bif p (.ptr o 0)then .bad else .mark o
 | .bad=>.bad
def ei(os:L Nat)(fr:bY S):bY S:=match os with
 |[]=>fr
 |_=>{fr with tm:=fr.tm.keep λv=>!(gX os v),df:=fr.df.map (iw (gX os))}
def jf:L Ck->Bool
 |[]=>W
 | .dat _::l=>jf l
 | .own _::_=>J
 | .jw ..::_=>J
 | .nil _::_=>J
 | .ptr _::_=>J
def s5:(cs:L Ck)->gA S.A cs->L (V S)
 |[],_=>[]
 |c::cs,x=>.ty c.ty x.1::s5 cs x.2
def bV:L Pk->Bool
 |[]=>W
 | .one (.dat _)::l=>bV l
 |_=>J
def QI:Ty->Bool
 | .int _|.bool|.str=>W
 |_=>J
def rQ:L Ck->Bool
 |[]=>W
 | .dat t::l=>QI t&&rQ l
 | .own _::_=>J
 | .jw ..::_=>J
 | .nil _::_=>J
 | .ptr _::_=>J
def Wu:L Pk->Bool
 |[]=>J
 | .one (.ptr _)::_=>W
 |_::l=>Wu l
def Ox:L Pk->Bool
 |[]=>W
 | .one (.dat _)::l=>Ox l
 | .one (.ptr _)::l=>Ox l
 |_=>J
def abe(s:bq S)(t:Ty):V S->O (den S.A t×L Nat)
 | .mO u y 0=>match uH u t y with
  |some x=>Z (x,[])
  |none=>Y
 | .ptr o 0=>match s.ob.get o with
  |some (.box a)=>bif jr t then bP s t (.agg a)else Y
  |_=>Y
 |_=>Y
def j3(s:bq S):(ps:L Pk)->L (V S)->O (fZ S.A ps×L Nat)
 |[],[]=>Z ((),[])
 | .one (.dat t)::ps,v::l=>match bP s t v,j3 s ps l with
  |some (x,os),Z (h,a)=>Z ((x,h),os++a)
  |_,_=>Y
 | .one (.ptr t)::ps,v::l=>match abe s t v,j3 s ps l with
  |some (x,os),Z (h,a)=>Z ((x,h),os++a)
  |_,_=>Y
 |_,_=>Y
def VT(c:kC S):Bool:=bV c.ps&&(rQ c.rs&&!c.pn)
section
variable (E:gl S)(call:iH S){ω:Type}
def WJ(s:bq S)(c:kC S)(args:L (V S))(k:V S->bq S->L Nat->O ω):O ω:=
 bif Ox c.ps&&(rQ c.rs&&!c.pn)then match j3 s c.ps args with
  |none=>Y
  |some (x,a)=>match dF s a with
   |none=>Y
   |some _=>ai (c.F x) λr=>match RT.res c.pn r with
    | .ok r=>k (Gs (s5 c.rs r.1)) s []
    | .dm _=>Y
 else Y
def MQ(s:bq S)(c:kC S)(args:L (V S))(kp:V S->bq S->O ω)(k:V S->bq S->L Nat->O ω):O ω:=bif Wu c.ps then WJ s c args k else
 match ej s c.ps args Y with
 |none=>Y
 |some (x,f,a,d)=>match dF s f with
  |none=>Y
  |some b=>bif VT c then ai (c.F x) λr=>match RT.res c.pn r with
     | .ok r=>k (Gs (s5 c.rs r.1)) s []
     | .dm _=>Y
   else bif r9 a&&(r9 d&&A1 a f)then
    ai (c.F x) λr=>match RT.res c.pn r with
     | .ok r=>match ko (Is d (forget a {b with wr:=a++b.wr,dr:=a++b.dr})) c.ps d r.2 with
      |none=>Y
      |some e=>match gP e c.rs r.1 with
       |(l,g)=>bif Nat.ble g.aJ bC then k (Gs l) g a else Y
     | .dm p=>match ko (Is d (forget a {b with wr:=a++b.wr,dr:=a++b.dr})) c.ps d p.2 with
      |none=>Y
      |some e=>match a with
       |[]=>bif Nat.ble e.aJ bC then kp (.ty S.pt p.1) e else Y
       |_::_=>Y
   else Y
def tc(k:V S->bq S->O ω)(d:O ω):L (Bool×V S×bq S)->O ω
 |[]=>d
 |p::l=>aj p.1 (k p.2.1 p.2.2) (tc k d l)
def sA(s:bq S)(f:FuncId)(args:L (V S))(kp:V S->bq S->O ω)(k:V S->bq S->L Nat->O ω):O ω:=match E.GI f with
 |some c=>MQ s c args kp k
 |none=>call (.fn f) args s (λt a=>k t a []) kp
def Rq(s:bq S)(m:String)(args:L (V S))(n:Nat)(x:den S.A (.cR n))(kp:V S->bq S->O ω)(k:V S->bq S->L Nat->O ω):L (TypeId×Ty)->Nat->O ω
 |[],_=>Y
 |p::l,j=>aj (fW (S.alts n) j (S.sq n x)) (match E.T.Jx p.1 m with
   |some f=>bif Nat.beq p.1 ((nth (S.alts n) j).elim 0 (·.1))then sA E call s f (.ty (lX (S.alts n) j) (gi S.zero (S.alts n) j (S.sq n x))::args) kp k else Y
   |none=>Y) (Rq s m args n x kp k l (Nat.succ j))
def acn:O (V S)->O Nat
 |some (.rJ o)=>Z o
 |_=>Y
def sx(o:Oper)(fr:bY S)(s:bq S)(kp:V S->bq S->O ω)(k:V S->bq S->L Nat->O ω):O ω:=
 match o.op with
 | .call c=>match jX fr c.args.toList with
  |none=>Y
  |some args=>match c.callee with
   | .builtin b=>match kz E.T s b c.argTypes args with
    |none=>Y
    |some (p,t,a)=>aD p (k t a [])
   | .value f=>match acn (cm fr f)with
    |some o=>call (.yl o) args s (λt a=>k t a []) kp
    |none=>match(cm fr f).bind (n4 · args)with
     |none=>Y
     |some (f,args)=>sA E call s f args kp k
   | .invoke x m=>match cm fr x with
    |some (.cR t v)=>match E.T.Jx t m with
     |some f=>sA E call s f (v::args) kp k
     |none=>Y
    |some (.ty (.cR n) x)=>Rq E call s m args n x kp k (S.alts n) 0
    |_=>Y
 | .panic x=>match cm fr x with
  |some (.cR t v)=>kp (.cR t v) s
  |_=>Y
 |op=>match iI E.T fr s op with
  |some (e,p,d,a)=>tc (λv s=>k v s []) (aD p (k d a [])) e
  |none=>match yX E.T fr s op with
   |none=>Y
   |some (p,t,a)=>aD p (k t a [])
def xN(c:O Bool)(p:Bool)(x:O ω):O ω:=match c with
 |none=>aD p x
 |some c=>aD (imp c p) x
def ahz{α:Type}(c:O Bool)(x:O α)(z:α):O α:=match c with
 |none=>x
 |some c=>aj c x (Z z)
mutual
def qZ:V S->Bool
 | .sh _ _=>J
 | .qm _ _ _ _=>J
 | .cR _ v=>qZ v
 | .agg a=>iY a
 | .gB a=>iY a
 |_=>W
def iY:L (V S)->Bool
 |[]=>W
 |v::l=>qZ v&&iY l
end
def Uw(S:Sg):(cs:L Ck)->gA S.A cs
 |[]=>()
 |c::cs=>(S.zero c.ty,Uw S cs)
def afX(A:Nat->Type):(ps:L Pk)->O (iJ A ps)
 |[]=>Z ()
 | .one _::ps=>afX A ps
 | .box _::_=>Y
 | .hid _::_=>Y
def yK:Builtin->Bool
 | .len|.max|.min=>W
 |_=>J
def s9(k:V S->O ω)(d:O ω):L (Bool×V S×bq S)->O ω
 |[]=>d
 |p::l=>aj p.1 (k p.2.1) (s9 k d l)
def eE(g:O Bool)(fr:bY S)(s:bq S)(o:Oper)(k:V S->O ω):O ω:=
 match o.op with
 | .call c=>match jX fr c.args.toList with
  |none=>Y
  |some args=>match c.callee with
   | .builtin b=>bif yK b then match kz E.T s b c.argTypes args with
     |some (p,t,_)=>xN g p (k t)
     |none=>Y
    else Y
   | .value f=>match(cm fr f).bind (n4 · args)with
    |none=>Y
    |some (f,args)=>match E.GI f with
     |none=>Y
     |some c=>bif bV c.ps&&(jf c.rs&&(iY args&&!c.pn))then
       match ej s c.ps args Y,afX S.A c.ps with
       |some (x,_,_,_),Z b=>ai (ahz g (c.F x) (RT.ok c.pn (Uw S c.rs,b))) λr=>match RT.res c.pn r with
        | .ok r=>k (Gs (s5 c.rs r.1))
        | .dm _=>Y
       |_,_=>Y
      else Y
   |_=>Y
 | .store ..|.alloc ..|.box ..|.panic ..|.makeMap ..|.mapUpdate ..|.insert ..|.makeSlice ..|.range ..|.next ..|.defer ..=>Y
 | .buildSlice t n e=>match iA fr e.toList with
  |some l=>bif iY (l.map (·.2))then match yX E.T fr s (.buildSlice t n e)with
   |none=>Y
   |some (p,v,_)=>xN g p (k v)
   else Y
  |none=>Y
 | .slice t x lo h i=>match cm fr x with
  |some v=>bif qZ v then match yX E.T fr s (.slice t x lo h i)with
   |none=>Y
   |some (p,v,_)=>xN g p (k v)
   else Y
  |none=>Y
 |op=>match iI E.T fr s op with
  |some (a,p,d,_)=>s9 k (xN g p (k d)) a
  |none=>match yX E.T fr s op with
   |none=>Y
   |some (p,v,_)=>xN g p (k v)
def Ah(fr:bY S)(o:Oper):Bool:=
 match o.op with
 | .call c=>match jX fr c.args.toList with
  |none=>J
  |some args=>match c.callee with
   | .builtin b=>yK b
   | .value f=>match(cm fr f).bind (n4 · args)with
    |none=>J
    |some (f,args)=>match E.GI f with
     |none=>J
     |some c=>bV c.ps&&(jf c.rs&&(iY args&&!c.pn))
   |_=>J
 | .store ..|.alloc ..|.box ..|.panic ..|.makeMap ..|.mapUpdate ..|.insert ..|.makeSlice ..|.range ..|.next ..|.defer ..=>J
 | .buildSlice _ _ a=>match iA fr a.toList with
  |some l=>iY (l.map (·.2))
  |none=>J
 | .slice _ x _ _ _=>match cm fr x with
  |some v=>qZ v
  |none=>J
 |_=>W
def m6(fr:bY S)(o:Op):bY S:=
 o.operands.toList.foldl (λf x=>match x with
  | .tmp k=>match fr.get k with
   |some (.gd _ v)=>f.put k v
   |_=>f
  |_=>f) fr
def JS(c:Bool)(fr:bY S)(o:Op):Bool:=
 o.operands.toList.foldl (λp x=>match x with
  | .tmp k=>match fr.get k with
   |some (.gd g _)=>p&&imp c g
   |_=>p
  |_=>p) W
def hJ(ops:L Oper)(fr:bY S)(o:Oper):O (O Bool):=
 match o.guard with
 |none=>Z Y
 |some (j,a)=>match((nth ops j).bind (·.dst)).bind fr.get with
  |some (.kb b)=>bif (bif b then a else !a)then Z Y else Z (Z J)
  |some t=>match iD t with
   |some b=>Z (Z (D.beq b a))
   |none=>Y
  |none=>Y
def sX(ops:L Oper)(fr:bY S)(o:Oper):Bool:=
 match o.guard with
 |none=>J
 |some (j,a)=>match((nth ops j).bind (·.dst)).bind fr.get with
  |some (.kb b)=>bif b then !a else a
  |some (.dat (.lit (.tuple _)))=>W
  |_=>J
def Rl(ops:L Oper)(d:O Nat):Bool:=match d with
 |none=>J
 |some d=>ops.any λo=>match o.guard with
  |none=>J
  |some (j,_)=>match(nth ops j).bind (·.dst)with
   |some e=>Nat.beq d e
   |none=>J
def Ad{ω:Type}(b:Bool)(t:V S)(k:V S->O ω):O ω:=bif b then match t with
  | .ty .bool x=>aj x (k (.kb W)) (k (.kb J))
  |t=>k t
 else k t
def ga(fr:bY S):O Nat->Bool
 |none=>W
 |some d=>Nat.blt d fr.n
def mN(ops:L Oper)(o:Oper)(fr:bY S)(s:bq S)(kp:V S->bq S->O ω)(k:V S->bq S->L Nat->O ω):O ω:=
 bif ga fr o.dst then bif sX ops fr o then k fq s []else match hJ ops fr o with
  |none=>Y
  |some Y=>sx E call o fr s kp k
  |some (Z c)=>
   let f:=m6 fr o.op
   bif Ah E f o then aD (JS c fr o.op) (eE E (Z c) f s o λt=>k (.gd c t) s [])
   else aj c (aD (JS c fr o.op) (sx E call o f s kp k)) (k (.gd J fq) s [])
 else Y
def Pg(fr:bY S)(o:Oper):O (Bo S):=match o.guard,o.op with
 |none,.defer c=>match c.callee with
  | .value f=>match cm fr f,jX fr c.args.toList with
   |some (.fn f a b),Z args=>Z (.call (.fn f a b) args)
   |_,_=>Y
  |_=>Y
 |_,_=>Y
def O9(ops:L Oper)(o:Oper)(fr:bY S)(s:bq S)(kp:V S->bq S->O ω)(k:bY S->bq S->O ω):O ω:=
 match Pg fr o with
 |some d=>bif ga fr o.dst then k {(fr.g9 o.dst xg)with df:=d::fr.df} s else Y
 |none=>mN E call ops o fr s kp λt a b=>Ad (Rl ops o.dst) t λt=>k ((ei b fr).g9 o.dst t) a
def ML(ops:L Oper)(kp:bY S->V S->bq S->O ω)(k:bY S->bq S->O ω):L Oper->bY S->bq S->O ω
 |[],a,s=>k a s
 |o::l,a,s=>O9 E call ops o a s (kp a) λb c=>ML ops kp k l b c
end
end
section
def wo(o:Oper):L Nat:=(o.after.toList.filter (Region.binds .any)).map (·.on)
def Nm:L Oper->L Nat->L Nat
 |[],a=>a
 |o::l,a=>Nm l (a++[(wo o).foldl (λb e=>b||| (1 <<< e||| a.getD e 0)) 0])
def uN(ops:L Oper):L Nat:=Nm ops []
def s7:L Oper->Nat->Bool
 |[],_=>W
 |o::l,n=>(wo o).all (λe=>Nat.blt e n)&&s7 l (Nat.succ n)
def KT(o:Oper)(k:Nat):Bool:=o.op.operands.toList.any λx=>match x with|.tmp j=>Nat.beq j k|_=>J
def aaz(ops:L Oper)(a:L Nat):Bool:=
 ops.zipIdx.all λ(o,i)=>match o.dst with
  |none=>W
  |some d=>Nat.blt d bC&&ops.zipIdx.all λ(p,j)=>bif Nat.beq i j then !(KT p d)else !(match p.dst with|some e=>Nat.beq e d|none=>J)&&(!(KT p d)||((a.getD j 0).testBit i||(a.getD i 0).testBit j))
def RJ(ops:L Oper)(a:L Nat)(i:Nat)(o:Oper):Bool:=match o.dst with
 |none=>J
 |some d=>ops.zipIdx.any λ(p,j)=>KT p d&&(a.getD i 0).testBit j
def acp(ops:L Oper):Bool:=ops.all λo=>o.op.operands.toList.all λx=>match x with|.tmp j=>Nat.blt j bC|_=>W
def JR(ops:L Oper)(a:L Nat):Bool:=
 ops.zipIdx.all λ(o,i)=>match o.guard with
  |none=>W
  |some (j,_)=>(a.getD i 0).testBit j
def eN(o:Oper):Bool:=match o.op with|.alloc _=>o.guard.isNone|_=>J
def Sq(a b:Nat):Bool:=Nat.beq (a&&& b) a
abbrev Uj:=L (Nat×Oper)
mutual
def cE(p:Nat->Bool):V S->Bool
 | .ptr o _=>p o
 | .kH o _ _ _=>p o
 | .sh o _=>p o
 | .mp o=>p o
 | .rJ o=>p o
 | .rI o=>p o
 | .qm o m _ _=>p o||p m
 | .fn _ a b=>hG p a||hG p b
 | .cR _ v=>cE p v
 | .agg c=>hG p c
 | .gB c=>hG p c
 | .gd _ v=>cE p v
 |_=>J
def hG(p:Nat->Bool):L (V S)->Bool
 |[]=>J
 |v::l=>cE p v||hG p l
end
def eI(ow:L Nat)(aJ:Nat)(o:Nat):Bool:=ow.contains o||Nat.ble aJ o
section
variable (E:gl S)(call:iH S){ω:Type}
def Jh(ops:L Oper)(a:L Nat)(done:Nat)(fr:bY S):Uj->O (Nat×Oper)
 |[]=>Y
 |(i,o)::l=>bif !(done.testBit i)&&(Sq (a.getD i 0) done&&((!(eN o)&&!(RJ ops a i o))&&(sX ops fr o||(match hJ ops fr o with|some (Z _)=>Ah E (m6 fr o.op) o|some Y=>Ah E fr o|none=>J))))
   then Z (i,o)else Jh ops a done fr l
def Ji(a:L Nat)(done tI:Nat):Uj->O (Nat×Oper)
 |[]=>Y
 |(i,o)::l=>bif !(done.testBit i)&&(!(eN o)&&Sq (a.getD i 0) (done||| tI))then Z (i,o)else Ji a done tI l
def tg(E:gH)(a:Nat):Uj->bY S->bq S->O (bY S×bq S)
 |[],b,s=>Z (b,s)
 |(i,o)::l,b,s=>bif a.testBit i then match o.op,o.dst with
   | .alloc t,Z d=>match E.E.ti t with
    |some c=>bif Nat.blt s.aJ bC&&Nat.blt d b.n then tg E a l (b.put d (.ptr s.aJ 0)) (dw s (.box (c.zero.map zeroV)))else Y
    |none=>Y
   |_,_=>Y
  else tg E a l b s
def jl(p:Nat->Bool)(fr:bY S)(o:Op):Bool:=o.operands.toList.any λx=>match cm fr x with
 |some v=>cE p v
 |none=>J
def LQ:Op->Bool
 | .move _|.assign _|.nilCheck _|.fieldAddr ..=>W
 |_=>J
def Dt(ops:L Oper)(a:L Nat)(done i:Nat)(fr:bY S)(aJ:Nat)(wr ow:L Nat):Uj->Bool
 |[]=>W
 |(j,o)::l=>(!(done.testBit j)||(eN o||((a.getD i 0).testBit j||(!(jl (eI wr aJ) fr o.op||jl (eI wr aJ) (m6 fr o.op) o.op)||(LQ o.op&&!(jl (λx=>ow.contains x) fr o.op||jl (λx=>ow.contains x) (m6 fr o.op) o.op))))))&&Dt ops a done i fr aJ wr ow l
def wK(all:Uj)(done:Nat):Nat:=all.foldl (λb(i,o)=>bif eN o&&!(done.testBit i)then b||| 1 <<< i else b) 0
def ad9(ops:L Oper)(fr:bY S):bY S:={fr with tm:=(ops.filterMap (·.dst)).foldl (λt k=>t.del aL k) fr.tm}
def sy(ops:L Oper)(a:L Nat)(all:Uj)(kp:bY S->V S->bq S->O ω)(k:bY S->bq S->O ω):Nat->Nat->bY S->bq S->O ω
 |0,_,_,_=>Y
 |n+1,done,b,s=>
  match Jh E ops a done b all with
  |some (i,o)=>bif ga b o.dst then bif sX ops b o then sy ops a all kp k n (done||| 1 <<< i) (b.g9 o.dst fq) s else match hJ ops b o with
    |none=>Y
    |some Y=>eE E Y b s o λt=>Ad (Rl ops o.dst) t λt=>sy ops a all kp k n (done||| 1 <<< i) (b.g9 o.dst t) s
    |some (Z c)=>aD (JS c b o.op) (eE E (Z c) (m6 b o.op) s o λt=>sy ops a all kp k n (done||| 1 <<< i) (b.g9 o.dst (.gd c t)) s)
   else Y
  |none=>
   let d:=wK all done
   match Ji a done d all with
   |some (i,o)=>
    bif all.all (λ(j,p)=>done.testBit j||(eN p||(Nat.beq i j||(a.getD j 0).testBit i)))then
     match tg E.T (d&&& a.getD i 0) all b s with
     |none=>Y
     |some (e,g)=>
      mN E call ops o e {g with wr:=[]} (λt f=>kp (ad9 ops e) t {f with wr:=f.wr++g.wr}) λt f h=>
       bif Dt ops a done i b s.aJ f.wr h all then sy ops a all kp k n (done||| (d&&& a.getD i 0)||| 1 <<< i) ((ei h e).g9 o.dst t) {f with wr:=f.wr++g.wr}else Y
    else Y
   |none=>match tg E.T d all b s with
    |none=>Y
    |some (b,s)=>bif all.all (λ(j,p)=>done.testBit j||eN p)then k b s else Y
def PE(E:gH)(n:Nat)(l:L Oper):Bool:=l.all λo=>bif eN o then(match o.op with
  | .alloc t=>(E.E.ti t).isSome
  |_=>W)&&(match o.dst with|some d=>Nat.blt d n|none=>W)
 else W
def W1(E:gl S)(fr:bY S)(s:bq S)(l:L Oper)(a:L Nat):Bool:=s7 l 0&&(aaz l a&&(JR l a&&(acp l&&(PE E.T fr.n l&&Nat.beq s.fl 0))))
end
inductive LO(X R B P:Type) where
 |next (x:X)
 |out (j:Nat) (x:X)
 |ret (b:B) (r:R)
 |dm (b:B) (p:P)
def iter{X R B P:Type}(F:X->O (LO X R B P)):Nat->X->O (LO X R B P)
 |0,_=>Y
 |n+1,x=>match F x with
  |none=>Y
  |some (.next y)=>iter F n y
  |some (.out j y)=>Z (.out j y)
  |some (.ret y r)=>Z (.ret y r)
  |some (.dm y p)=>Z (.dm y p)
def NV:Code->Bool
 | .region _ c _=>c.toList.all λo=>match o.op with|.defer _=>J|_=>W
 | .seq a b=>NV a&&NV b
 | .cond _ a b=>NV a&&NV b
 | .block _ b=>NV b
 | .loop b=>NV b
 | .scope _=>J
 | .rangeFunc ..=>J
 |_=>W
def wz:Code->L Nat
 | .region _ d _=>d.toList.foldl (λl o=>o.op.operands.toList.foldl (λl x=>match x with|.tmp k=>k::l|_=>l) l) []
 | .seq a b=>wz a++wz b
 | .cond c a b=>(match c with|.tmp k=>[k]|_=>[])++(wz a++wz b)
 | .block _ b=>wz b
 | .loop b=>wz b
 |_=>[]
def Rn(l:L Nat)(fr:bY S):bY S:={n:=fr.n,tm:=l.foldl (λt k=>match fr.get k with|some v=>t.set aL k v|none=>t) .nil,df:=[]}
def Od:L Nat->L (V S)->Tr (V S)->Tr (V S)
 |k::a,v::b,t=>Od a b (t.set aL k v)
 |_,_,t=>t
def DI:LoopState->O Code->Bool
 | .ready,Y=>W
 |_,_=>J
def Rz:Operand->L Nat
 | .tmp k=>[k]
 |_=>[]
def eR:Code->L Nat
 | .region _ d _=>d.toList.filterMap (·.dst)
 | .seq a b=>eR a++eR b
 | .cond c a b=>Rz c++(eR a++eR b)
 | .block _ b=>eR b
 | .loop b=>eR b
 | .rangeFunc _ _ a b=>eR a++eR b
 | .scope b=>eR b
 |_=>[]
def kF:Code->L Nat
 | .seq a b=>kF a++kF b
 | .cond _ a b=>kF a++kF b
 | .block i b=>(kF b).filter λj=>!(Nat.beq i j)
 | .loop b=>kF b
 | .rangeFunc _ _ a b=>kF a++kF b
 | .scope b=>kF b
 | .exit i=>[i]
 |_=>[]
def xQ:L Nat->L Nat
 |[]=>[]
 |a::l=>a::(xQ l).filter λb=>!(Nat.beq a b)
def lf(sh:Sh):L Pk:=sh.map (·.2)
def IU(fr:bY S)(s:bq S):Pt->O (V S)
 | .slot k=>fr.get k
 | .cell p i=>match IU fr s p with
  |some (.ptr o 0)=>match s.ob.get o with
   |some (.box a)=>nth a i
   |_=>Y
  |_=>Y
 | .cap p i=>match IU fr s p with
  |some (.fn _ _ a)=>nth a i
  |_=>Y
 | .rnd p k=>match IU fr s p with
  |some (.rJ o)=>match s.ob.get o with
   |some (.lp l)=>l.fr.get k
   |_=>Y
  |_=>Y
def qV(fr:bY S)(s:bq S):Sh->L Pt->O (L Nat)
 |[],[]=>Z []
 |(_,.one _)::l,a=>qV fr s l a
 |(_,.box k)::l,p::a=>match IU fr s p with
  |some v=>match Cs k v,qV fr s l a with
   |some o,Z r=>Z (o::r)
   |_,_=>Y
  |none=>Y
 |(_,.hid k)::l,p::a=>match IU fr s p with
  |some v=>match Cs k v,qV fr s l a with
   |some o,Z r=>Z (o::r)
   |_,_=>Y
  |none=>Y
 |_,_=>Y
def tD(fr:bY S):Sh->L Nat->O (L (V S))
 |[],[]=>Z []
 |(k,.one _)::l,a=>match fr.get k,tD fr l a with
  |some v,Z r=>Z (v::r)
  |_,_=>Y
 |(_,.box k)::l,o::a=>match tD fr l a with
  |some r=>Z (Tc k o::r)
  |none=>Y
 |(_,.hid _)::l,_::a=>tD fr l a
 |_,_=>Y
def kQ:(sh:Sh)->L Nat->fZ S.A (lf sh)->bY S->bq S->O (bY S×bq S)
 |[],[],_,a,s=>Z (a,s)
 |(k,.one c)::l,b,x,a,s=>match tQ s c x.1 with
  |(v,s)=>bif Nat.blt k a.n&&Nat.ble s.aJ bC then kQ l b x.2 (a.put k v) s else Y
 |(_,.box k)::l,o::b,x,a,s=>match gJ s (dK b) k x.1 with
  |(ob,s)=>bif Nat.ble s.aJ bC then kQ l b x.2 a {s with ob:=s.ob.set aL o ob}else Y
 |(_,.hid k)::l,o::b,x,a,s=>match gJ s (dK b) k x.1 with
  |(ob,s)=>bif Nat.ble s.aJ bC then kQ l b x.2 a {s with ob:=s.ob.set aL o ob}else Y
 |_,_,_,_,_=>Y
def Jz{α:Type}(p:Nat->Bool):L (α×V S)->Bool
 |[]=>J
 |x::l=>cE p x.2||Jz p l
def jO(p:Nat->Bool):wv S->Bool
 | .box a=>hG p a
 | .GD _ l=>Jz p l
 | .lp l=>pS (cE p) l.fr.tm
 | .kB _ _ _ _ m _ _=>p m
 |_=>J
def iU(p:Nat->Bool)(v:V S):V S:=bif cE p v then xg else v
def gq(p:Nat->Bool):wv S->wv S
 | .box b=>.box (b.map (iU p))
 | .GD c l=>.GD c (l.map λx=>(x.1,iU p x.2))
 | .lp l=>.lp {l with fr:={l.fr with tm:=l.fr.tm.mapA (iU p)}}
 | .kB n j l era m a hole=>bif p m then .gone else .kB n j l era m a hole
 |o=>o
def cV(ds ow bs:L Nat)(fr:bY S)(a:bq S):bY S×bq S:=
 ({fr with tm:=(ds.foldl (λt k=>t.del aL k) fr.tm).keep λv=>!(cE (eI ow a.aJ) v),df:=fr.df.map (iw (cE (eI ow a.aJ)))},Is bs {a with ob:=a.ob.mapA (gq (eI ow a.aJ)),wr:=[],dr:=[]})
def Sw:Sh->Sh
 |[]=>[]
 |(_,.one _)::l=>Sw l
 |(k,.box b)::l=>(k,.box b)::Sw l
 |(k,.hid b)::l=>(k,.hid b)::Sw l
abbrev LOT(S:Sg)(sh:Sh)(rs:L Ck):=LO (fZ S.A (lf sh)) (gA S.A rs) (fZ S.A (lf (Sw sh))) (den S.A S.pt)
def WH(ds:L Nat):Sh->L Nat
 |[]=>[]
 |(k,.one (.own _))::l=>bif ds.contains k then WH ds l else k::WH ds l
 |_::l=>WH ds l
def LZ:Sh->L Nat
 |[]=>[]
 |(k,.one (.own _))::l=>k::LZ l
 |_::l=>LZ l
def UK(fr:bY S)(s:bq S)(c:Nat):O (V S):=bif Nat.blt c 1000000 then fr.get c else match fr.get (Nat.div (Nat.sub c 1000000) 1000)with
 |some (.ptr o 0)=>match s.ob.get o with
  |some (.box a)=>nth a (Nat.mod (Nat.sub c 1000000) 1000)
  |_=>Y
 |_=>Y
def T3(fr:bY S)(s:bq S)(al:L (Nat×Nat)):Bool:=al.all λp=>match fr.get p.1,UK fr s p.2 with
 |some (.sh o r),Z (.sh a b)=>Nat.beq o a&&Nat.beq r b
 |_,_=>J
def aaL(fr:bY S)(ow:L Nat)(al:L (Nat×Nat)):Bool:=al.all λp=>match fr.get p.1 with
 |some (.sh o _)=>ow.contains o
 |_=>J
def lE(s:bq S):L (Nat×Nat)->bY S->bY S
 |[],a=>a
 |p::l,a=>lE s l (match UK a s p.2 with|some v=>a.put p.1 v|none=>a)
def aan(fr:bY S)(l:L Nat):Bool:=l.all λk=>match fr.get k with
 |some (.sh _ _)=>W
 |_=>J
def Dx(ds:L Nat)(sh:Sh):Bool:=sh.all λp=>match p.2 with
 | .one _=>ds.contains p.1
 | .box _=>W
 | .hid _=>W
abbrev Rv:=L (Nat×Ty)
def Gu(rv:Rv):L Ck:=rv.map λp=>.dat p.2
def US(fr:bY S):Rv->O (L (V S))
 |[]=>Z []
 |(k,_)::l=>match fr.get k,US fr l with
  |some v,Z r=>Z (v::r)
  |_,_=>Y
def wE:(rv:Rv)->gA S.A (Gu rv)->bY S->bY S
 |[],_,a=>a
 |(k,_)::l,x,a=>wE l x.2 (a.put k (.ty _ x.1))
def bY.sk(fr:bY S)(c:Operand)(b:Bool):bY S:=match c with
 | .tmp k=>bif Nat.blt k fr.n then fr.put k (.kb b)else fr
 |_=>fr
noncomputable def GW{ω:Type}(e:Bool)(x y:O ω):O ω:=bif e then(open Classical in if x=y then y else Y)else y
def ZO(l:L Nat)(i:Nat):Nat:=match l with
 |[]=>0
 |a::l=>bif Nat.beq a i then 0 else Nat.succ (ZO l i)
def r5(sh:Sh)(bs:L Nat)(fr:bY S)(s:bq S):O (fZ S.A (lf sh)×bq S×L Nat):=
 match tD fr sh bs with
 |none=>Y
 |some f=>match ej s (lf sh) f Y with
  |none=>Y
  |some (x,e,d,c)=>match dF s e with
   |none=>Y
   |some g=>bif r9 d&&(A1 d e&&(r9 c&&(Nat.beq (cC c) (cC bs)&&(c.zip bs).all λ(a,b)=>Nat.beq a b)))then Z (x,g,d)else Y
def N2(aJ:Nat)(bs wr:L Nat):Bool:=wr.all λo=>Nat.ble aJ o||bs.contains o
def s6{ω:Type}(sh:Sh)(bs:L Nat)(aJ:Nat)(fr:bY S)(s:bq S)(f:fZ S.A (lf sh)->O ω):O ω:=
 match r5 sh bs fr s with
 |some (x,a,b)=>bif N2 aJ bs a.wr&&(b.all (λo=>Nat.ble aJ o)&&a.dr.all (λo=>Nat.ble aJ o))then f x else Y
 |none=>Y
section
variable (E:gl S)(call:iH S)(n:Nat)(fid:FuncId)(rv:Rv)
def O8{ω:Type}(k:bY S->bq S->O ω)(Q:xb S->bY S->bq S->O ω):xb S->bY S->bq S->O ω
 | .pJ,a,s=>k a s
 | .ext i,a,s=>Q (.ext i) a s
 | .ret,a,s=>Q .ret a s
 | .dm v,a,s=>Q (.dm v) a s
def MJ{ω:Type}(i:Nat)(Q:xb S->bY S->bq S->O ω):xb S->bY S->bq S->O ω
 | .pJ,a,s=>Q .pJ a s
 | .ext j,a,s=>match Nat.beq j i with
  |true=>Q .pJ a s
  |false=>Q (.ext j) a s
 | .ret,a,s=>Q .ret a s
 | .dm v,a,s=>Q (.dm v) a s
def Zg{ω:Type}(Q:xb S->bY S->bq S->O ω)(fr:bY S)(s:bq S):L Nat->Nat->O ω
 |[],_=>Y
 |[i],_=>Q (.ext i) fr s
 |i::l,j=>match j with
  |0=>Q (.ext i) fr s
  |j+1=>Zg Q fr s l j
def acz(fr fr':bY S):Bool:=Nat.beq (cC fr'.df) (cC fr.df)
def DG(ev:{ω:Type}->(xb S->bY S->bq S->O ω)->bY S->bq S->O ω)(sh:Sh)(bs:L Nat)(aJ:Nat)(c:L Nat)(base:bY S×bq S)(g:Bool)(al:L (Nat×Nat))(x:fZ S.A (lf sh)):O (LOT S sh (Gu rv)):=
 match kQ sh bs x base.1 base.2 with
 |none=>Y
 |some (e,d)=>ev (λh a b=>bif acz base.1 a then match h with
  | .pJ=>bif T3 a b al then s6 sh bs aJ a b (λy=>Z (.next y))else Y
  | .ext j=>bif c.contains j&&T3 a b al then s6 sh bs aJ a b (λy=>Z (.out (ZO c j) y))else Y
  | .ret=>match US a rv with
   |none=>Y
   |some i=>match gQ b (Gu rv) i with
    |some (r,f,_)=>match dF b f with
     |some b=>s6 (Sw sh) bs aJ a b (λy=>Z (.ret y r))
     |none=>Y
    |none=>Y
  | .dm v=>bif g then match gQ b [.dat S.pt] [v]with
    |some (p,f,_)=>match dF b f with
     |some b=>s6 (Sw sh) bs aJ a b (λy=>Z (.dm y p.1))
     |none=>Y
    |none=>Y
   else Y
  else Y) (lE d al e) d
def sv:Code->O Nat
 | .region id _ _=>Z id
 | .seq a b=>match sv a with
  |some k=>Z k
  |none=>sv b
 | .cond _ a b=>match sv a with
  |some k=>Z k
  |none=>sv b
 | .block _ b=>sv b
 | .loop b=>sv b
 | .scope b=>sv b
 |_=>Y
def agE(a b:Code):Nat:=match sv a with
 |some k=>Nat.add 1000000 k
 |none=>match sv b with
  |some k=>Nat.add 1000000 k
  |none=>999999
noncomputable def M4{ω:Type}(c:Operand)(A B:(xb S->bY S->bq S->O ω)->bY S->bq S->O ω)(Q:xb S->bY S->bq S->O ω)(fr:bY S)(s:bq S):O ω:=match cm fr c with
  |some (.kb W)=>A Q fr s
  |some (.kb J)=>B Q fr s
  |some (.ub e)=>GW e (A Q (fr.sk c W) s) (B Q (fr.sk c J) s)
  |some v=>match iD v with
   |some t=>aj t (A Q (fr.sk c W) s) (B Q (fr.sk c J) s)
   |none=>Y
  |none=>Y
def V4(ev:{ω:Type}->(xb S->bY S->bq S->O ω)->bY S->bq S->O ω){ω:Type}(sh:Sh)(i:L Pt)(al:L (Nat×Nat))(g h:L Nat)(Q:xb S->bY S->bq S->O ω)(fr:bY S)(s:bq S):O ω:=
 match qV fr s sh i with
 |none=>Y
 |some e=>
  let ds:=g++(WH g sh++al.map (·.1))
  match r5 sh e fr s with
  |none=>Y
  |some (k,b,f)=>
   let base:=cV ds f e fr b
   bif (Dx ds sh&&(aan fr (WH g sh)&&(T3 fr s al&&aaL fr f al)))&&ds.all (λd=>Nat.blt d fr.n)then
    ai (DG rv ev sh e b.aJ h base E.pn al k) λ(o:LOT S sh (Gu rv))=>match o with
     | .next x=>match kQ sh e x base.1 base.2 with
      |none=>Y
      |some (c,a)=>Q .pJ (lE a al c) {a with wr:=b.ob.jz (jO (eI f b.aJ))++(e++b.wr),dr:=f++b.dr}
     | .out j x=>match kQ sh e x base.1 base.2 with
      |none=>Y
      |some (c,a)=>Zg Q (lE a al c) {a with wr:=b.ob.jz (jO (eI f b.aJ))++(e++b.wr),dr:=f++b.dr} h j
     | .ret x r=>match kQ (Sw sh) e x base.1 base.2 with
      |none=>Y
      |some (c,a)=>Q .ret (wE rv r c) {a with wr:=b.ob.jz (jO (eI f b.aJ))++(e++b.wr),dr:=f++b.dr}
     | .dm y p=>bif E.pn then match kQ (Sw sh) e y base.1 base.2 with
      |none=>Y
      |some (c,a)=>Q (.dm (.ty S.pt p)) c {a with wr:=b.ob.jz (jO (eI f b.aJ))++(e++b.wr),dr:=f++b.dr}
      else Y
   else Y
def Q3{ω:Type}(ev:(xb S->bY S->bq S->O ω)->bY S->bq S->O ω)(Q:xb S->bY S->bq S->O ω)(a:bY S->bq S->O ω):Nat->bY S->bq S->O ω
 |0,b,s=>a b s
 |m+1,b,s=>ev (O8 (Q3 ev Q a m) Q) b s
noncomputable def tR:Code->Nat->{ω:Type}->(xb S->bY S->bq S->O ω)->bY S->bq S->O ω
 | .region _ v J,_,_,Q,e,s=>ML E call v.toList (λe t s=>Q (.dm t) e s) (Q .pJ) v.toList e s
 | .region _ v W,_,_,Q,e,s=>
  let l:=v.toList
  let F:=uN l
  let all:=l.zipIdx.map λp=>(p.2,p.1)
  bif W1 E e s l F then sy E call l F all (λe t s=>Q (.dm t) e s) (Q .pJ) (Nat.succ (Nat.mul 2 (cC l))) 0 e s else Y
 | .seq a b,i,_,Q,e,s=>tR a i (O8 (tR b i Q) Q) e s
 | .cond c a b,i,_,Q,e,s=>match E.sh fid (agE a b)with
  |none=>M4 c (tR a i) (tR b i) Q e s
  |some ⟨sh,z,A,_⟩=>V4 E rv (λQ e s=>M4 c (tR a i) (tR b i) Q e s) sh z A (eR (.cond c a b)++rv.map (·.1)) (xQ (kF (.cond c a b))) Q e s
 | .block i b,_,_,Q,e,s=>tR b i (MJ i Q) e s
 | .loop b,i,_,Q,e,s=>match E.sh fid i with
  |none=>Y
  |some ⟨sh,z,A,I⟩=>Q3 (tR b i) Q (λe s=>match qV e s sh z with
  |none=>Y
  |some w=>
   let B:=eR b++rv.map (·.1)
   let ds:=B++(WH B sh++A.map (·.1))
   match r5 sh w e s with
   |none=>Y
   |some (K,h,u)=>
    let base:=cV ds u w e h
    let G:=xQ (kF b)
    bif (Dx ds sh&&(aan e (WH B sh)&&(T3 e s A&&aaL e u A)))&&ds.all (λd=>Nat.blt d e.n)then
     ai (iter (DG rv (tR b i) sh w h.aJ G base E.pn A) n K) λ(o:LOT S sh (Gu rv))=>match o with
      | .next _=>Y
      | .out j x=>match kQ sh w x base.1 base.2 with
       |none=>Y
       |some (m,k)=>Zg Q (lE k A m) {k with wr:=h.ob.jz (jO (eI u h.aJ))++(w++h.wr),dr:=u++h.dr} G j
      | .ret x r=>match kQ (Sw sh) w x base.1 base.2 with
       |none=>Y
       |some (m,k)=>Q .ret (wE rv r m) {k with wr:=h.ob.jz (jO (eI u h.aJ))++(w++h.wr),dr:=u++h.dr}
      | .dm y p=>bif E.pn then match kQ (Sw sh) w y base.1 base.2 with
       |none=>Y
       |some (m,k)=>Q (.dm (.ty S.pt p)) m {k with wr:=h.ob.jz (jO (eI u h.aJ))++(w++h.wr),dr:=u++h.dr}
       else Y
    else Y) I e s
 | .rangeFunc g M C q,_,_,Q,e,s=>match(cm e g).bind (n4 · [.rJ (Nat.succ s.aJ)])with
  |none=>Y
  |some (f,args)=>bif NV C&&(NV q&&(Nat.ble s.fl (Nat.succ s.aJ)&&Nat.blt (Nat.succ s.aJ) bC))then
    sA E call (dw (dw s .z8) (.lp ⟨.ready,Y,fid,Rn (wz C++wz q) e,M.toList,C,q⟩)) f args (λ_ _=>Y) λ_ H u=>match u with
     |[]=>match H.ob.get (Nat.succ s.aJ)with
      |some (.lp l)=>bif DI l.st l.tI then Q .pJ {e with df:=.mark s.aJ::e.df} {H with ob:=H.ob.set aL (Nat.succ s.aJ) (.lp {l with st:=.exhausted})}else Y
      |_=>Y
     |_::_=>Y
   else Y
 | .exit i,_,_,Q,e,s=>Q (.ext i) e s
 | .ret,_,_,Q,e,s=>Q .ret e s
 | .skip,_,_,Q,e,s=>Q .pJ e s
 | .label _,_,_,Q,e,s=>Q .pJ e s
 | .scope b,i,_,Q,e,s=>tR b i Q e s
 |_,_,_,_,_,_=>Y
end
def ki(E:gH)(s:bq S)(fr:bY S):L ResultVar->O (L (V S))
 |[]=>Z []
 | .tmp t::l=>match fr.get t,ki E s fr l with
  |some x,Z r=>Z (x::r)
  |_,_=>Y
 | .cell a t::l=>match E.E.ti t,fr.get a with
  |some i,Z a=>match wO i (E.ty t) s a,ki E s fr l with
   |some (p,x,_),Z r=>bif p then Z (x::r)else Y
   |_,_=>Y
  |_,_=>Y
def nU:L (V S)->Nat->Tr (V S)->Tr (V S)
 |[],_,t=>t
 |a::l,k,t=>nU l (Nat.succ k) (t.set aL k a)
def Sz(E:gH):L ResultVar->L TypeId->Rv
 | .tmp k::l,t::a=>match E.ty t with
  |some τ=>(k,τ)::Sz E l a
  |none=>Sz E l a
 |_::l,_::a=>Sz E l a
 |_,_=>[]
def isRec(o:Oper):Bool:=match o.guard,o.op with
 |none,.call c=>match c.callee with
  | .builtin .recover=>W
  |_=>J
 |_,_=>J
def afJ(pv:O (V S)):V S:=match pv with
 |some v=>v
 |none=>.dat (.lit .nilIface)
section
variable (E:gl S)(call:iH S)(n:Nat)(pv:Option (V S)){ω:Type}
noncomputable def evR(fid:FuncId)(rv:Rv):Code->Nat->(Bool->xb S->bY S->bq S->O ω)->bY S->bq S->O ω
 | .region id e J,i,Q,d,s=>match e.toList with
  |o::l=>bif isRec o then(bif ga d o.dst then ML E call (o::l) (λd t s=>Q pv.isSome (.dm t) d s) (Q pv.isSome .pJ) l (d.g9 o.dst (afJ pv)) s else Y)
   else tR E call n fid rv (.region id e J) i (Q J) d s
  |[]=>Y
 | .seq a b,i,Q,d,s=>evR fid rv a i (λf g d s=>match g with
  | .pJ=>tR E call n fid rv b i (Q f) d s
  |g=>Q f g d s) d s
 |c,i,Q,d,s=>tR E call n fid rv c i (Q J) d s
noncomputable def WL(d:Bo S)(s:bq S)(k:Bool->bq S->O ω):O ω:=match d with
 | .call f args=>match n4 f args with
  |none=>Y
  |some (f,args)=>match E.T.E.Ur f with
   |none=>Y
   |some fn=>match fn.body with
    |none=>Y
    |some c=>bif Nat.ble (cC args) fn.ntmps&&Nat.blt fn.ntmps bC then
      evR E call n pv f (Sz E.T fn.results.toList fn.resultTypes.toList) c 0 (λa e b g=>match b.df with
       |[]=>match e with
        | .pJ|.ret=>match ki E.T g b fn.results.toList with
         |some _=>k a {g with lo:=s.lo}
         |none=>Y
        |_=>Y
       |_::_=>Y) {n:=fn.ntmps,tm:=nU args 0 .nil} {s with lo:=s.aJ}
     else Y
 | .mark o=>match s.ob.get o with
  |some .z8=>bif Nat.ble s.fl o&&Nat.blt o bC then k J {s with ob:=s.ob.del aL o,wr:=o::s.wr}else Y
  |_=>Y
 |_=>Y
end
noncomputable def EX(E:gl S)(call:iH S)(n:Nat){ω:Type}:L (Bo S)->O (V S)->bq S->(O (V S)->bq S->O ω)->O ω
 |[],pv,s,k=>k pv s
 |d::l,pv,s,k=>WL E call n pv d s λa b=>EX E call n l (bif a then Y else pv) b k
def MM(E:gH){ω:Type}(a:L ResultVar)(fr:bY S)(k kp:V S->bq S->O ω)(pv:O (V S))(s:bq S):O ω:=match pv with
 |none=>match ki E s fr a with
  |some l=>k (Gs l) s
  |none=>Y
 |some v=>kp v s
noncomputable def WK(E:gl S)(call:iH S)(n:Nat){ω:Type}(b:L ResultVar)(k kp:V S->bq S->O ω):xb S->bY S->bq S->O ω
 | .pJ,a,s=>EX E call n a.df Y s (MM E.T b a k kp)
 | .ret,a,s=>EX E call n a.df Y s (MM E.T b a k kp)
 | .dm v,a,s=>EX E call n a.df (Z v) s (MM E.T b a k kp)
 | .ext _,_,_=>Y
def abc(o lo:Nat){ω:Type}(k:V S->bq S->O ω):xb S->bY S->bq S->O ω
 | .pJ,_,s=>match s.ob.get o with
  |some (.lp l)=>k (.kb W) {s with ob:=s.ob.set aL o (.lp {l with st:=.ready,tI:=Y}),lo:=lo}
  |_=>Y
 |_,_,_=>Y
noncomputable def abb(E:gl S)(call:iH S)(n o lo:Nat)(fid:FuncId)(a:Code){ω:Type}(k:V S->bq S->O ω):xb S->bY S->bq S->O ω
 | .pJ,b,s=>match s.ob.get o with
  |some (.lp l)=>bif DI l.st l.tI then tR E call n fid [] a 0 (abc o lo k) b {s with ob:=s.ob.set aL o (.lp {l with st:=.busy})}else Y
  |_=>Y
 |_,_,_=>Y
noncomputable def Of(E:gl S)(call:iH S)(n o:Nat)(args:L (V S))(s:bq S){ω:Type}(k:V S->bq S->O ω):O ω:=match s.ob.get o with
 |some (.lp l)=>bif DI l.st l.tI&&(Nat.beq (cC args) (cC l.params)&&(l.params.all (λk=>Nat.blt k l.fr.n)&&(Nat.ble l.fr.n bC&&(NV l.assign&&(NV l.body&&Nat.ble s.fl o)))))then
   tR E call n l.fid [] l.assign 0 (abb E call n o s.lo l.fid l.body k) {n:=l.fr.n,tm:=Od l.params args l.fr.tm,df:=[]} {s with lo:=s.aJ}
  else Y
 |_=>Y
noncomputable def abN(E:gl S)(n:Nat)(call:iH S):iH S:=λb args s{_}k d=>match b with
 | .yl o=>Of E call n o args s k
 | .fn f=>match E.T.E.Ur f with
  |none=>Y
  |some fn=>match fn.body with
   |none=>Y
   |some c=>
    bif Nat.ble (cC args) fn.ntmps&&Nat.blt fn.ntmps bC then
     tR E call n f (Sz E.T fn.results.toList fn.resultTypes.toList) c 0 (WK E call n fn.results.toList (λv a=>k v {a with lo:=s.lo}) (λv a=>d v {a with lo:=s.lo})) {n:=fn.ntmps,tm:=nU args 0 .nil} {s with lo:=s.aJ}
    else Y
noncomputable def Nd(E:gl S)(n:Nat):Nat->iH S
 |0=>λ_ _ _{_}_ _=>Y
 |d+1=>abN E n (Nd E n d)
noncomputable def Xh(E:gl S)(n d:Nat)(f:FuncId)(args:L (V S))(s:bq S){ω:Type}(k kp:V S->bq S->O ω):O ω:=match E.T.E.Ur f with
  |none=>Y
  |some fn=>match fn.body with
   |none=>Y
   |some c=>
    bif Nat.ble (cC args) fn.ntmps&&Nat.blt fn.ntmps bC then
     tR E (Nd E n d) n f (Sz E.T fn.results.toList fn.resultTypes.toList) c 0 (WK E (Nd E n d) n fn.results.toList k kp) {n:=fn.ntmps,tm:=nU args 0 .nil} s
    else Y
def so(b:Nat)(s:bq S):(ps:L Pk)->fZ S.A ps->L (V S)×bq S
 |[],_=>([],s)
 | .one c::ps,x=>match tQ s c x.1 with
  |(v,s)=>match so b s ps x.2 with
   |(l,s)=>(v::l,s)
 | .box k::ps,x=>match gJ s (Z (Nat.succ b)) k x.1 with
  |(ob,s)=>match so (Nat.succ b) {s with ob:=s.ob.set aL b ob} ps x.2 with
   |(l,a)=>(Tc k b::l,a)
 | .hid k::ps,x=>match gJ s (Z (Nat.succ b)) k x.1 with
  |(ob,s)=>so (Nat.succ b) {s with ob:=s.ob.set aL b ob} ps x.2
def ew:L Pk->Nat
 |[]=>0
 | .one _::l=>ew l
 | .box _::l=>Nat.succ (ew l)
 | .hid _::l=>Nat.succ (ew l)
def YS(a:L Ck)(v:V S):L (V S):=match a,v with|[_],v=>[v]|_,.gB l=>l|_,v=>[v]
def aam(d:L Ck)(ps:L Pk)(v:V S)(s':bq S):O (gA S.A d×iJ S.A ps):=
 match gQ s' d (YS d v),r7 s' 0 ps with
 |some (r,e,f),Z (b,a,c)=>match dF s' (e++a)with
  |some _=>bif r9 (f++c)&&A1 (f++c) (e++a)then Z (r,b)else Y
  |none=>Y
 |_,_=>Y
def adZ(a:Bool)(b:L Ck)(ps:L Pk)(v:V S)(s':bq S):O (RT a (gA S.A b×iJ S.A ps) (den S.A S.pt×iJ S.A ps)):=
 match aam b ps v s' with
 |some r=>Z (RT.ok a r)
 |none=>Y
def adY(a:Bool)(b:L Ck)(ps:L Pk)(v:V S)(s':bq S):O (RT a (gA S.A b×iJ S.A ps) (den S.A S.pt×iJ S.A ps)):=
 match aam [.dat S.pt] ps v s' with
 |some r=>RT.dm a (r.1.1,r.2)
 |none=>Y
noncomputable def EW(E:gl S)(n d:Nat)(f:FuncId)(ps:L Pk)(a:L Ck)(x:fZ S.A ps):O (RT E.pn (gA S.A a×iJ S.A ps) (den S.A S.pt×iJ S.A ps)):=
 match so 0 ⟨.nil,ew ps,0,ew ps,[],[]⟩ ps x with
 |(args,s)=>bif !(Nat.ble s.aJ bC)then Y else Xh E n d f args s (adZ E.pn a ps) (adY E.pn a ps)
end
section
namespace Tr
variable {α β:Type}
def map(f:α->β):Tr α->Tr β
 | .nil=>.nil
 | .node v l r=>.node (v.map f) (map f l) (map f r)
def get_map(f:α->β):∀(t:Tr α)(k:Nat),(t.map f).get k=(t.get k).map f
 | .nil,k=>by rw[map,get_nil,get_nil];rfl
 | .node v l r,0=>by rw[map,fR,fR]
 | .node v l r,k+1=>by rw[map,cP,cP,get_map f l,get_map f r];split<;>rfl
def lA(f:α->β):∀(n:Nat)(t:Tr α)(k:Nat)(x:α),(Tr.set n t k x).map f=Tr.set n (t.map f) k (f x)
 |0,t,k,x=>rfl
 |n+1,.nil,0,x=>rfl
 |n+1,.nil,k+1,x=>by
  rw[map,nK,nK];split
  .rw[map,lA f n];rfl
  .rw[map,lA f n];rfl
 |n+1,.node v l r,0,x=>rfl
 |n+1,.node v l r,k+1,x=>by
  rw[map,mG,mG];split
  .rw[map,lA f n]
  .rw[map,lA f n]
end Tr
def sB(S:Sg):(l:L (TypeId×Ty))->wh S.A l->O (TypeId×D)
 |[],_=>Y
 |p::_,.inl x=>Z (p.1,enc S p.2 x)
 |_::l,.inr y=>sB S l y
def Nq:L (TypeId×Ty)->Bool
 |[]=>W
 |p::l=>(o8 l p.1).isNone&&Nq l
structure fB(S:Sg):Prop where
 uw:∀n h,S.get n (S.VI n h)=h
 VH:∀n x,S.VI n (S.get n x)=x
 cells:∀n x,S.cells n x=gD S (S.fs n) (S.get n x)
 leaf:∀n,∀t∈S.fs n,jr t=J
 CT:∀n h,S.sq n (S.imk n h)=h
 pT:∀n x,S.pT n x=sB S (S.alts n) (S.sq n x)
 alts:∀n,Nq (S.alts n)=W
def MU:∀l:L (TypeId×Ty),sB S l (VC l)=Y
 |[]=>rfl
 |_::l=>MU l
def MV:∀(l:L (TypeId×Ty))(t:TypeId)(i:Nat)(x:den S.A (lX l i)),o8 l t=Z i->sB S l (Wc l i x)=Z (t,enc S (lX l i) x)
 |[],t,i,x,h=>by cases h
 |p::l,t,i,x,h=>by
  simp only[o8]at h;rcases af h with⟨a,h⟩|⟨_,h⟩
  .simp only[bg]at h;subst h;simp only[Wc,sB,nN a];rfl
  .split at h
   .rename_i j b;simp only[bg]at h;subst h;exact MV l t j x b
   .cases h
def af3:Ty->Nat
 | .str=>16
 | .cR _=>16
 | .sl _=>24
 |_=>8
def YM:L Ty->Nat
 |[]=>0
 |t::l=>Nat.add (af3 t) (YM l)
def uL(S:Sg):Ty->Nat
 | .int .i8|.int .u8=>1
 | .int .i16|.int .u16=>2
 | .int .i32|.int .u32=>4
 | .int _=>8
 | .bool=>1
 | .str=>16
 | .sl _=>24
 | .st n=>YM (S.fs n)
 | .cR _=>16
def ZM(o:O (TypeId×D)):(NW o).lby=16:=by cases o<;>rfl
def ur(o:O (TypeId×D)):(NW o).leaf=W:=by cases o<;>rfl
def mj(o:O (TypeId×D)):(NW o).cells=[NW o]:=by cases o<;>rfl
def ade(o:O (TypeId×D)):(NW o).qD=16:=by cases o<;>rfl
def lK:∀(ts:L Ty)(h:lI S.A ts),(gD S ts h).length=ts.length
 |[],_=>rfl
 |t::ts,h=>by simp[gD,lK ts]
variable {t:Ty}{v u:V S}{fr:bY S}{l:List (V S)}
def aap(x:den S.A t)(h:jr t=J):(enc S t x).lby=af3 t:=by cases t<;>first|rfl|exact ZM _|cases h
def Dr:∀(ts:L Ty)(h:lI S.A ts),(∀t∈ts,jr t=J)->D.mS (gD S ts h)=YM ts
 |[],_,_=>rfl
 |t::ts,h,a=>by simp only[gD,D.mS,YM,aap _ (a t (by simp)),Dr ts h.2 (λu b=>a u (by simp[b]))]
def E0(x:den S.A t)(h:jr t=J):(enc S t x).leaf=W:=by cases t<;>first|rfl|exact ur _|cases h
def gW:∀(ts:L Ty)(h:lI S.A ts),(∀t∈ts,jr t=J)->∀d∈gD S ts h,d.leaf=W
 |[],_,_,d,a=>by simp[gD]at a
 |t::ts,h,b,d,a=>by
  simp only[gD,eU]at a;rcases a with rfl|a
  .exact E0 _ (b t (by simp))
  .exact gW ts h.2 (λu c=>b u (by simp[c])) d a
def AM(a:fB S)(x:den S.A t):(enc S t x).qD=uL S t:=by
 cases t with
 |st n=>simp only[enc,D.qD,uL];rw[show S.cells n x=_ from a.cells n x,Dr _ _ (a.leaf n)]
 |int k=>cases k<;>rfl
 |cR n=>exact ade _
 |_=>rfl
def jU(a:fB S)(x:den S.A t):(enc S t x).cells.length=S.width t:=by cases t with|st n=>simp only[enc,D.cells,Sg.width,bL];rw[show S.cells n x=_ from a.cells n x,lK]|cR n=>rw[show enc S (.cR n) x=NW (S.pT n x)from rfl,mj];rfl|_=>rfl
def MS(a:fB S)(x:den S.A t):(enc S t x).flat=W:=by cases t with|st n=>simp only[enc,D.flat,D.cells,eC];rw[show S.cells n x=_ from a.cells n x];exact gW _ _ (a.leaf n)|cR n=>simp only[enc,D.flat,mj,DQ,List.all_nil,ur,HB]|_=>rfl
def eH(S:Sg):(t:Ty)->den S.A t->T
 | .st n,x=>.agg ((S.cells n x).map .sym)
 | .int k,x=>.sym (enc S (.int k) x)
 | .bool,x=>.sym (enc S .bool x)
 | .str,x=>.sym (enc S .str x)
 | .sl e,x=>.sym (enc S (.sl e) x)
 | .cR n,x=>.sym (enc S (.cR n) x)
def xH(x:den S.A t)(h:jr t=J):eH S t x=.sym (enc S t x):=by cases t<;>first|rfl|cases h
mutual
def low:V S->T
 | .ty t x=>eH S t x
 | .kb b=>.kb b
 | .kn k n=>.kn k n
 | .dat d=>.sym d
 | .ptr o off=>.ptr o off
 | .mO t x off=>.mO (enc S t x) off
 | .kH o e i off=>.kH o e i off
 | .sh o e=>.sh o e
 | .emp=>.emp
 | .jE n t l=>.jE n (l.map (enc S t))
 | .fn f a b=>.fn f (bn a) (bn b)
 | .cR t v=>.cR t (low v)
 | .agg g=>.agg (bn g)
 | .gB h=>.gB (bn h)
 | .gd c v=>.gd c (low v)
 | .mp o=>.mp o
 | .rJ o=>.rJ o
 | .rI o=>.rI o
 | .ub e=>.ub e
 | .qm o m r i=>.qm o m r i
 | .nZ n j x=>.nZ j (enc S (.st n) x)
def bn:L (V S)->L T
 |[]=>[]
 |v::l=>low v::bn l
end
def gp:∀l:L (V S),bn l=l.map low
 |[]=>rfl
 |v::l=>by simp only[bn,lT,gp l]
def rf:Bo S->Df
 | .call f args=>.call (low f) (bn args)
 | .mark o=>.mark o
 | .bad=>.bad
def bA(fr:bY S):Fr:=⟨fr.n,fr.tm.map low,fr.df.map rf⟩
def wN(l:LpV S):Lp:=⟨l.st,l.tI,l.fid,bA l.fr,l.params,l.assign,l.body⟩
def cQ:wv S->Ob
 | .box e=>.box (bn e)
 | .arr t l era=>.arr (S.width t) (l.map (enc S t)) era
 | .j8 t l era=>.j8 (S.width t) (l.map (enc S t)) era
 | .map c f l=>.map (l.map λp=>(eH S c p.1,eH S f p.2))
 | .GD c l=>.map (l.map λp=>(eH S c p.1,low p.2))
 | .pH b pos=>.pH (bK b) pos
 | .lp l=>.lp (wN l)
 | .z8=>.z8
 | .kB n j l era m a hole=>.kB j (S.width (.st n)) (l.map (enc S (.st n))) era m a hole
 | .rws t d a=>.rws (S.width t) (d.map (·.map (enc S t))) a
 | .gone=>.gone
def aI(s:bq S):St:=⟨s.ob.map cQ,s.aJ,s.fl,s.lo⟩
def bf(s:bq S)(o:Nat):(aI s).ob.get o=(s.ob.get o).map cQ:=Tr.get_map _ _ _
def bR(fr:bY S)(k:Nat):(bA fr).get k=(fr.get k).map low:=Tr.get_map _ _ _
def S5(fr:bY S)(k:Nat)(v:V S):bA (fr.put k v)=(bA fr).put k (low v):=by simp only[bA,bY.put,Fr.put,Tr.lA]
def OD(fr:bY S)(k:O Nat)(v:V S):bA (fr.g9 k v)=(bA fr).g9 k (low v):=by cases k with|none=>rfl|some k=>exact S5 fr k v
def ff(s:bq S)(o:Nat)(ob:wv S)(wr:L Nat):aI {s with ob:=s.ob.set aL o ob,wr:=wr}={aI s with ob:=(aI s).ob.set aL o (cQ ob)}:=by simp only[aI,Tr.lA]
def gC(s:bq S)(ob:wv S):aI (dw s ob)=(en (aI s) (cQ ob)).2:=by simp only[aI,dw,en,Tr.lA]
def Ni(b:ByteArray):bK (ofBytes b)=b:=by unfold bK ofBytes;cases b;simp
def Pj{v:Value}(h:sE v=Z u):ofConst v=Z (low u):=by
 cases v with
 |bool b=>simp only[sE,bg]at h;subst h;rfl
 |int k n=>simp only[sE,bg]at h;subst h;rfl
 |string b=>simp only[sE,bg]at h;subst h;simp only[ofConst,low,eH,enc,BJ,ee];rw[Ni]
 |slice a n m=>
  unfold sE at h;split at h;all_goals first
   |(simp only[bg]at h;rename_i c;simp only[Value.slice.injEq]at c;obtain⟨rfl,rfl,rfl⟩:=c;subst h;rfl)
   |(rename_i c;cases c;done)
   |(simp only[BJ,Option.map_none,reduceCtorEq]at h)
 |func f a b=>
  simp only[sE]at h;simp only[ofConst];split at h
  .simp only[bg]at h;subst h;rename_i h1 h2;try rw[h1,h2]
   rfl
  .cases h
 |iface t v=>simp only[sE,eG]at h;obtain⟨d,e,rfl⟩:=h;simp only[ofConst,e,ee];rfl
 |_=>simp only[sE,eG]at h;obtain⟨d,e,rfl⟩:=h;simp only[ofConst,e,ee];rfl
def bW{x:Operand}(h:cm fr x=Z u):ju (bA fr) x=Z (low u):=by
 cases x with
 |tmp k=>simp only[cm]at h;simp only[ju,bR,h,ee]
 |const v=>exact Pj h
 |global g=>cases h
 |func f=>simp only[cm,bg]at h;subst h;rfl
def gU{fr:bY S}:∀{l:L Operand}{a:L (V S)},jX fr l=Z a->wL (bA fr) l=Z (bn a)
 |[],a,h=>by simp only[jX,bg]at h;subst h;rfl
 |x::l,a,h=>by
  simp only[jX]at h;split at h
  .rename_i t r h1 h2;simp only[bg]at h;subst h;simp only[wL,bW h1,gU h2,bn]
  .cases h
def Iw{u:Ty}{x:den S.A t}{y:den S.A u}(h:uH t u x=Z y):t=u∧HEq x y:=by
 unfold uH at h;split at h
 .rename_i a;have:=fM a;subst this;simp only[bg]at h;exact⟨rfl,heq_of_eq h⟩
 .cases h
def e8{u:Ty}{x:L (den S.A t)}{y:L (den S.A u)}(h:m9 t u x=Z y):t=u∧HEq x y:=by
 unfold m9 at h;split at h
 .rename_i a;have:=fM a;subst this;simp only[bg]at h;exact⟨rfl,heq_of_eq h⟩
 .cases h
def fQ{k:IntKind}{n:Int}(h:gf k v=Z n):∃p,tK k (low v)=Z (p,n)∧p:=by
 unfold gf at h;split at h
 .rename_i j m;cases a:nt j k<;>rw[a]at h
  .cases h
  .simp only[cH,bg]at h;subst h;exact⟨True,by simp[low,tK,a],trivial⟩
 .rename_i j x;cases a:nt j k<;>rw[a]at h
  .cases h
  .simp only[cH,bg]at h;subst h;exact⟨_,rfl,a⟩
 .cases h
def kV{b:Bool}(h:iD v=Z b):∃p,wW (low v)=Z (p,b)∧p:=by
 unfold iD at h;split at h
 .simp only[bg]at h;subst h;exact⟨True,rfl,trivial⟩
 .simp only[bg]at h;subst h;exact⟨_,rfl,rfl⟩
 .cases h
def ke{b:L UInt8}(h:tV v=Z b):∃p,xj (low v)=Z (p,bK b)∧p:=by
 unfold tV at h;split at h
 .simp only[bg]at h;subst h;exact⟨_,rfl,rfl⟩
 .cases h
def uj:∀(ts:L Ty)(h:lI S.A ts),(∀t∈ts,jr t=J)->bn (za (S:=S) ts h)=(gD S ts h).map .sym
 |[],_,_=>rfl
 |t::ts,h,a=>by simp only[za,bn,gD,lT,uj ts h.2 (λu b=>a u (by simp[b]))];rw[low,xH _ (a t (by simp))]
def eW:∀l:L (V S),(bn l).length=l.length
 |[]=>rfl
 |v::l=>by simp[bn,eW l]
def jx(l m:L (V S)):bn (l++m)=bn l++bn m:=by simp only[gp,HE]
def jc(l:L (V S))(n:Nat):bn (l.take n)=(bn l).take n:=by simp only[gp,List.map_take]
def jd(l:L (V S))(n:Nat):bn (l.drop n)=(bn l).drop n:=by simp only[gp,List.map_drop]
def S8(h:VX v=W):(low v).leaf:=by
 cases v with
 |ty t x=>simp only[VX,DK]at h;rw[low,xH _ h];exact E0 x h
 |dat d=>exact h
 |agg=>cases h
 |gB=>cases h
 |gd=>cases h
 |_=>trivial
def xI:∀{l:L (V S)},Au l=W->leaves (bn l)
 |[],_=>trivial
 |v::l,h=>by simp only[Au,ec]at h;exact⟨S8 h.1,xI h.2⟩
def DJ(cs:L D):(List.range cs.length).map (λj=>T.sym ((D.agg cs).cell j))=cs.map .sym:=by
 apply LH;intro j;simp only[gM];by_cases a:j<cs.length
 .rw[Oj a,fN a];simp[D.cell,D.cells,List.getD,a]
 .rw[GB (by simpa using a),GB (by simpa using a)];rfl
def mz(f:fB S){i:TI}(h:uF i v=Z l):∃p,iV i (low v)=Z (p,bn l)∧p:=by
 unfold uF at h;split at h
 .rename_i g;rcases af h with⟨a,h⟩|⟨_,h⟩
  .simp only[bg]at h;subst h;have:(i.agg&&Nat.beq (cC (bn g)) i.size)=W:=by rw[bL,eW,<-bL];exact a
   exact⟨True,by simp only[low,iV,this,cH],trivial⟩
  .cases h
 .rename_i n x;rcases af h with⟨a,h⟩|⟨_,h⟩
  .simp only[bg]at h;subst h;rw[uj _ _ (f.leaf n),<-f.cells];have:(i.agg&&Nat.beq (cC ((S.cells n x).map T.sym)) i.size)=W:=by rw[bL,Aj,f.cells,lK,<-bL];exact a
   exact⟨True,by simp only[low,eH,iV,this,cH],trivial⟩
  .cases h
 .rename_i d;rcases af h with⟨_,h⟩|⟨b,h⟩
  .cases h
  .rcases af h with⟨a,h⟩|⟨_,h⟩
   .simp only[ec]at a;simp only[bg]at h;subst h;exact⟨_,by simp only[low,iV,b,a.1,cH,dS];rfl,a.2⟩
   .cases h
 .cases h
 .cases h
 .rename_i h1 h2 h3 h4 h5;rcases af h with⟨_,h⟩|⟨b,h⟩
  .cases h
  .rcases af h with⟨a,h⟩|⟨_,h⟩
   .simp only[bg]at h;subst h;cases v with
    |ty t x=>
     have j:jr t=J:=by cases t with|st n=>exact absurd rfl (h2 n x)|_=>rfl
     have e:low (V.ty t x)=.sym (enc S t x):=by rw[low,xH _ j]
     refine⟨(enc S t x).leaf=W,?_,E0 _ j⟩;simp only[e,bn,iV,b,a,cH,dS]
    |agg g=>exact absurd rfl (h1 g)
    |dat d=>exact absurd rfl (h3 d)
    |gB k=>exact absurd rfl (h4 k)
    |gd c v=>exact absurd rfl (h5 c v)
    |_=>exact⟨True,by simp only[low,bn,iV,b,a,cH,dS],trivial⟩
   .cases h
def oc{ag:Bool}(h:yV ag l=Z v):uc ag (bn l)=Z (low v):=by
 unfold yV at h;rcases af h with⟨a,h⟩|⟨a,h⟩
 .simp only[bg]at h;subst h;simp only[uc,a,cH,low]
 .split at h
  .simp only[bg]at h;subst h;simp only[uc,a,dS,bn]
  .cases h
end
section
def wZ(S:Sg)(i:TI):Ty->Prop
 | .int k=>i.kd=.leaf (.int k)∧i.agg=J∧i.size=1
 | .bool=>i.kd=.leaf .bool∧i.agg=J∧i.size=1
 | .str=>i.kd=.leaf .str∧i.agg=J∧i.size=1
 | .sl e=>(∃z,i.kd=.slice (S.width e) (jr e) (uL S e) z∧(bif jr e then D.agg z=enc S e (S.zero e)else z=[enc S e (S.zero e)]))∧i.agg=J∧i.size=1∧0<S.width e
 | .st n=>i.agg=W∧i.size=(S.fs n).length
 | .cR _=>i.kd=.iface∧i.agg=J∧i.size=1
structure PL(S:Sg)(E:gH):Prop where
 row:∀k i τ,E.E.ti k=Z i->E.ty k=Z τ->wZ S i τ
def vw(s:St):∀ds:L D,∃p,lR s (ds.map .sym)=Z (p,ds,[])∧p
 |[]=>⟨True,rfl,trivial⟩
 |d::ds=>by obtain⟨p,h,a⟩:=vw s ds;exact⟨True∧p,by simp only[lT,lR,vz,h,vX],trivial,a⟩
variable {t e:Ty}{n j:Nat}{s:bq S}{v:V S}{i:TI}{τ:Option Ty}{fr:bY S}{u:Option (V S)}
def Sl(a:fB S)(s:St)(x:den S.A t):∃p,vz s (eH S t x)=Z (p,enc S t x,[])∧p:=by
 cases t with
 |st n=>obtain⟨p,h,b⟩:=vw s (S.cells n x);refine⟨p∧(S.cells n x).all D.leaf=W,by simp only[eH,vz,h,enc],b,?_⟩;rw[eC,a.cells];exact gW _ _ (a.leaf n)
 |_=>exact⟨True,rfl,trivial⟩
def Mq(k:IntKind):nt k k=W:=by cases k<;>rfl
def Hj:∀t:Ty,rL t t=W
 | .int k=>Mq k
 | .bool=>rfl
 | .str=>rfl
 | .sl e=>Hj e
 | .st n=>Hz n
 | .cR n=>Hz n
def uG(x:den S.A t):uH (S:=S) t t x=Z x:=by unfold uH;rw[dif_pos (Hj t)]
def Io:∀{ts:L Ty}{h:lI S.A ts}{j:Nat}{t:Ty}{y:den S.A t},nth ts j=Z t->gD S ts (qq ts h j t y)=(gD S ts h).set j (enc S t y)
 |[],_,_,_,_,h=>by simp[nth]at h
 | τ::ts,h,0,t,y,e=>by simp only[nth,bg]at e;subst e;simp only[qq,uG,gD,List.set_cons_zero]
 | τ::ts,h,j+1,t,y,e=>by simp only[nth]at e;simp only[qq,gD,List.set_cons_succ,Io e]
def Ip:∀{ts:L Ty}{h:lI S.A ts}{j:Nat}{t:Ty},nth ts j=Z t->(gD S ts h)[j]?=Z (enc S t (cJ ts h j t))
 |[],_,_,_,h=>by simp[nth]at h
 | τ::ts,h,0,t,e=>by simp only[nth,bg]at e;subst e;simp only[cJ,uG,gD,qO]
 | τ::ts,h,j+1,t,e=>by simp only[nth]at e;simp only[cJ,gD,List.getElem?_cons_succ,Ip e]
def Fi(h:Cv S n j t=W):nth (S.fs n) j=Z (.sl t):=by
 unfold Cv at h;split at h
 .rename_i u a;rw[a,fM h]
 .cases h
def WQ(a:fB S)(b:Cv S n j t=W)(x:S.A n)(y:L (den S.A t)):enc S (.st n) (Sx n j t x y)=zl j (enc S (.st n) x) (y.map (enc S t)):=by show D.agg (S.cells n _)=D.agg ((S.cells n x).set j _);rw[a.cells,a.cells,Sx,a.uw,Io (Fi b)];rfl
def zj(a:fB S){n j:Nat}{t:Ty}(b:Cv S n j t=W):∀(l:L (S.A n))(ig:L (L (den S.A t))),(ja n j t l ig).map (enc S (.st n))=iZ j (l.map (enc S (.st n))) (ig.map (·.map (enc S t)))
 |[],_=>by simp[ja,iZ]
 |_::_,[]=>by simp[ja,iZ]
 |x::l,c::ig=>by have:=zj a b l ig;simp only[ja,iZ]at this;simp only[ja,iZ,List.zipWith_cons_cons,lT,this,WQ a b]
def yF{m r:Nat}{ig:L (L (den S.A t))}(h:Li s m r=Z ⟨t,ig⟩):Gt (aI s) m r=Z (ig.map (·.map (enc S t))):=by
 unfold Li at h;split at h
 .rename_i d a e b;rcases af h with⟨c,h⟩|⟨_,h⟩
  .cases h;simp only[Gt,bf,b,ee,cQ,c,cH]
  .cases h
 .cases h
mutual
def oA(c:fB S)(s:bq S):∀(t:Ty)(v:V S){x:den S.A t}{os:L Nat},bP s t v=Z (x,os)->∃p,vz (aI s) (low v)=Z (p,enc S t x,os)∧p
 |t,.ty u y,x,os,h=>by
  simp only[bP]at h;split at h
  .rename_i z d;obtain⟨rfl,a⟩:=Iw d;cases a;simp only[bg,bD]at h;obtain⟨rfl,rfl⟩:=h;exact Sl c _ _
  .cases h
 | .bool,.kb b,x,os,h=>by simp only[bP,bg,bD]at h;obtain⟨rfl,rfl⟩:=h;exact⟨True,rfl,trivial⟩
 | .int k,.kn j n,x,os,h=>by
  simp only[bP]at h;rcases af h with⟨f,h⟩|⟨_,h⟩
  .simp only[bg,bD]at h;obtain⟨rfl,rfl⟩:=h;rw[Aw f];exact⟨True,rfl,trivial⟩
  .cases h
 | .sl e,.emp,x,os,h=>by simp only[bP,bg,bD]at h;obtain⟨rfl,rfl⟩:=h;exact⟨True,rfl,trivial⟩
 | .sl e,.jE n t l,x,os,h=>by
  simp only[bP]at h;split at h
  .rename_i z d;obtain⟨rfl,a⟩:=e8 d;cases a;simp only[bg,bD]at h;obtain⟨rfl,rfl⟩:=h;exact⟨True,rfl,trivial⟩
  .cases h
 | .sl e,.sh o r,x,os,h=>by
  simp only[bP]at h;split at h
  .rename_i t l era g;rcases af h with⟨f,h⟩|⟨_,h⟩
   .split at h
    .rename_i z d;obtain⟨rfl,a⟩:=e8 d;cases a;simp only[bg,bD]at h;obtain⟨rfl,rfl⟩:=h;refine⟨True,?_,trivial⟩;simp only[low,vz,bf,g,ee,cQ,f,cH,enc]
    .cases h
   .cases h
  .rename_i t l era g;rcases af h with⟨f,h⟩|⟨_,h⟩
   .split at h
    .rename_i z d;obtain⟨rfl,a⟩:=e8 d;cases a;simp only[bg,bD]at h;obtain⟨rfl,rfl⟩:=h;refine⟨True,?_,trivial⟩;simp only[low,vz,bf,g,ee,cQ,f,cH,enc]
    .cases h
   .cases h
  .rename_i n j l era m K g;split at h
   .rename_i t C E;rcases af h with⟨f,h⟩|⟨_,h⟩
    .simp only[ec]at f;split at h
     .rename_i z d;obtain⟨rfl,a⟩:=e8 d;cases a;simp only[bg,bD]at h;obtain⟨rfl,rfl⟩:=h;refine⟨True,?_,trivial⟩;simp only[low,vz,bf,g,ee,cQ,yF E,f.1,f.2.1,HB,cH];rw[<-zj c f.2.2];rfl
     .cases h
    .cases h
   .cases h
  .cases h
 | .sl e,.nZ n j M,x,os,h=>by
  simp only[bP]at h;split at h
  .rename_i z d;obtain⟨rfl,a⟩:=e8 d;cases a;simp only[bg,bD]at h;obtain⟨rfl,rfl⟩:=h;exact⟨True,rfl,trivial⟩
  .cases h
 | .st n,.agg F,x,os,h=>by
  simp only[bP]at h;split at h
  .rename_i h1 q G;simp only[bg,bD]at h;obtain⟨rfl,rfl⟩:=h;obtain⟨p,w,A⟩:=qF c s (S.fs n) F G;have B:S.cells n (S.VI n h1)=gD S (S.fs n) h1:=by rw[c.cells,c.uw]
   refine⟨p∧(gD S (S.fs n) h1).all D.leaf=W,by simp only[low,vz,w,enc,B],A,?_⟩;rw[eC];exact gW _ _ (c.leaf n)
  .cases h
 | .cR n,.cR t v,x,os,h=>by
  simp only[bP]at h;split at h
  .rename_i i H;split at h
   .rename_i y q I;simp only[bg,bD]at h;obtain⟨rfl,rfl⟩:=h;obtain⟨p,w,A⟩:=oA c s _ v I;refine⟨p,?_,A⟩;have e:enc S (.cR n) (S.imk n (Wc (S.alts n) i y))=.cR t (enc S (lX (S.alts n) i) y):=by show NW (S.pT n _)=_;rw[c.pT,c.CT,MV _ _ _ _ H];rfl
    simp only[low,vz,w,e]
   .cases h
  .cases h
 | .cR n,.dat (.lit .nilIface),x,os,h=>by
  simp only[bP,bg,bD]at h;obtain⟨rfl,rfl⟩:=h;refine⟨True,?_,trivial⟩;have e:enc S (.cR n) (S.imk n (VC (S.alts n)))=.lit .nilIface:=by show NW (S.pT n _)=_;rw[c.pT,c.CT,MU];rfl
  simp only[low,vz,e]
 | .cR _,.kb _,_,_,h=>by simp[bP]at h
 | .cR _,.kn _ _,_,_,h=>by simp[bP]at h
 | .cR _,.emp,_,_,h=>by simp[bP]at h
 | .cR _,.jE _ _ _,_,_,h=>by simp[bP]at h
 | .cR _,.sh _ _,_,_,h=>by simp[bP]at h
 | .cR _,.nZ _ _ _,_,_,h=>by simp[bP]at h
 | .bool,.nZ _ _ _,_,_,h=>by simp[bP]at h
 | .str,.nZ _ _ _,_,_,h=>by simp[bP]at h
 | .int _,.nZ _ _ _,_,_,h=>by simp[bP]at h
 | .st _,.nZ _ _ _,_,_,h=>by simp[bP]at h
 |t,.qm _ _ _ _,_,_,h=>by cases t<;>simp[bP]at h
 | .cR _,.agg _,_,_,h=>by simp[bP]at h
 | .int _,.cR _ _,_,_,h=>by simp[bP]at h
 | .bool,.cR _ _,_,_,h=>by simp[bP]at h
 | .str,.cR _ _,_,_,h=>by simp[bP]at h
 | .sl _,.cR _ _,_,_,h=>by simp[bP]at h
 | .st _,.cR _ _,_,_,h=>by simp[bP]at h
 | .int _,.dat _,_,_,h=>by simp[bP]at h
 | .bool,.dat _,_,_,h=>by simp[bP]at h
 | .str,.dat _,_,_,h=>by simp[bP]at h
 | .sl _,.dat _,_,_,h=>by simp[bP]at h
 | .st _,.dat _,_,_,h=>by simp[bP]at h
 | .cR _,.dat (.sl _),_,_,h=>by simp[bP]at h
 | .cR _,.dat (.agg _),_,_,h=>by simp[bP]at h
 | .cR _,.dat (.cR _ _),_,_,h=>by simp[bP]at h
 | .cR _,.dat (.gB _),_,_,h=>by simp[bP]at h
 | .cR _,.dat (.lit (.bool _)),_,_,h=>by simp[bP]at h
 | .cR _,.dat (.lit (.int _ _)),_,_,h=>by simp[bP]at h
 | .cR _,.dat (.lit (.float _ _)),_,_,h=>by simp[bP]at h
 | .cR _,.dat (.lit (.complex _ _ _)),_,_,h=>by simp[bP]at h
 | .cR _,.dat (.lit (.string _)),_,_,h=>by simp[bP]at h
 | .cR _,.dat (.lit (.pointer _)),_,_,h=>by simp[bP]at h
 | .cR _,.dat (.lit (.slice _ _ _)),_,_,h=>by simp[bP]at h
 | .cR _,.dat (.lit (.map _)),_,_,h=>by simp[bP]at h
 | .cR _,.dat (.lit (.chan _)),_,_,h=>by simp[bP]at h
 | .cR _,.dat (.lit (.iface _ _)),_,_,h=>by simp[bP]at h
 | .cR _,.dat (.lit (.func _ _ _)),_,_,h=>by simp[bP]at h
 | .cR _,.dat (.lit .nilFunc),_,_,h=>by simp[bP]at h
 | .cR _,.dat (.lit (.agg _)),_,_,h=>by simp[bP]at h
 | .cR _,.dat (.lit (.tuple _)),_,_,h=>by simp[bP]at h
 |t,.mp _,_,_,h=>by cases t<;>simp[bP]at h
 |t,.rJ _,_,_,h=>by cases t<;>simp[bP]at h
 |t,.rI _,_,_,h=>by cases t<;>simp[bP]at h
 |t,.ub _,_,_,h=>by cases t<;>simp[bP]at h
 | .int _,.kb _,_,_,h=>by simp[bP]at h
 | .str,.kb _,_,_,h=>by simp[bP]at h
 | .sl _,.kb _,_,_,h=>by simp[bP]at h
 | .st _,.kb _,_,_,h=>by simp[bP]at h
 | .bool,.kn _ _,_,_,h=>by simp[bP]at h
 | .str,.kn _ _,_,_,h=>by simp[bP]at h
 | .sl _,.kn _ _,_,_,h=>by simp[bP]at h
 | .st _,.kn _ _,_,_,h=>by simp[bP]at h
 | .bool,.emp,_,_,h=>by simp[bP]at h
 | .str,.emp,_,_,h=>by simp[bP]at h
 | .int _,.emp,_,_,h=>by simp[bP]at h
 | .st _,.emp,_,_,h=>by simp[bP]at h
 | .bool,.jE _ _ _,_,_,h=>by simp[bP]at h
 | .str,.jE _ _ _,_,_,h=>by simp[bP]at h
 | .int _,.jE _ _ _,_,_,h=>by simp[bP]at h
 | .st _,.jE _ _ _,_,_,h=>by simp[bP]at h
 | .bool,.sh _ _,_,_,h=>by simp[bP]at h
 | .str,.sh _ _,_,_,h=>by simp[bP]at h
 | .int _,.sh _ _,_,_,h=>by simp[bP]at h
 | .st _,.sh _ _,_,_,h=>by simp[bP]at h
 | .bool,.agg _,_,_,h=>by simp[bP]at h
 | .str,.agg _,_,_,h=>by simp[bP]at h
 | .int _,.agg _,_,_,h=>by simp[bP]at h
 | .sl _,.agg _,_,_,h=>by simp[bP]at h
 |t,.ptr _ _,_,_,h=>by cases t<;>simp[bP]at h
 |t,.mO _ _ _,_,_,h=>by cases t<;>simp[bP]at h
 |t,.kH _ _ _ _,_,_,h=>by cases t<;>simp[bP]at h
 |t,.fn _ _ _,_,_,h=>by cases t<;>simp[bP]at h
 |t,.gB _,_,_,h=>by cases t<;>simp[bP]at h
 |t,.gd _ _,_,_,h=>by cases t<;>simp[bP]at h
def qF(b:fB S)(s:bq S):∀(ts:L Ty)(l:L (V S)){h:lI S.A ts}{os:L Nat},mR s ts l=Z (h,os)->∃p,lR (aI s) (bn l)=Z (p,gD S ts h,os)∧p
 |[],[],x,os,h=>by simp only[mR,bg,bD]at h;obtain⟨_,rfl⟩:=h;exact⟨True,rfl,trivial⟩
 |t::ts,v::l,x,os,h=>by
  simp only[mR]at h;split at h
  .rename_i k c h1 d e f;simp only[bg,bD]at h;obtain⟨rfl,rfl⟩:=h;obtain⟨p,g,i⟩:=oA b s t v e;obtain⟨q,a,j⟩:=qF b s ts l f;exact⟨p∧q,by simp only[bn,lR,g,a,gD],i,j⟩
  .cases h
 |[],_::_,_,_,h=>by simp[mR]at h
 |_::_,[],_,_,h=>by simp[mR]at h
end
def dc(c:fB S):∀(os:L Nat){s s':bq S},dF s os=Z s'->freeze (aI s) os=Z (aI s')
 |[],s,s',h=>by simp only[dF,bg]at h;subst h;rfl
 |o::os,s,s',h=>by
  simp only[dF]at h;rcases af h with⟨f,h⟩|⟨_,h⟩
  .have d:Nat.ble (aI s).fl o=W:=f;simp only[freeze,d,cH];split at h
   .rename_i t l era b;have:=dc c os h;rw[ff]at this;simp only[bf,b,ee,cQ];exact this
   .rename_i t l era b;simp only[bf,b,ee,cQ];exact dc c os h
   .rename_i n j l era m r b;split at h
    .rename_i t e g;rcases af h with⟨a,h⟩|⟨_,h⟩
     .simp only[ec]at a;have:=dc c os h;have i:Nat.ble (aI s).fl m=W:=a.2.1;simp only[bf,b,ee,cQ,yF g,i,a.1,a.2.2.1,HB,cH];rw[<-this]
      congr 1
      simp only[aI,Tr.lA,cQ,zj c a.2.2.2]
     .cases h
    .cases h
   .rename_i t e r b;simp only[bf,b,ee,cQ];exact dc c os h
   .rename_i b;simp only[bf,b,ee,cQ];exact dc c os h
   .cases h
  .cases h
def yC{l:L (den S.A e)}(h:I3 s e v=Z l):∃p,qJ (aI s) (low v)=Z (p,l.map (enc S e))∧p:=by
 unfold I3 at h;split at h
 .simp only[bg]at h;subst h;exact⟨True,rfl,trivial⟩
 .obtain ⟨rfl,a⟩:=e8 h;cases a;exact⟨True,rfl,trivial⟩
 .obtain ⟨rfl,a⟩:=e8 h;cases a;exact⟨True,rfl,trivial⟩
 .obtain ⟨rfl,a⟩:=e8 h;cases a;exact⟨_,rfl,rfl⟩
 .rename_i o r;split at h
  .rename_i t d era b;rcases af h with⟨c,h⟩|⟨_,h⟩
   .obtain ⟨rfl,a⟩:=e8 h;cases a;exact⟨True,by simp only[low,qJ,bf,b,ee,cQ,c,cH],trivial⟩
   .cases h
  .rename_i t d era b;rcases af h with⟨c,h⟩|⟨_,h⟩
   .obtain ⟨rfl,a⟩:=e8 h;cases a;exact⟨True,by simp only[low,qJ,bf,b,ee,cQ,c,cH],trivial⟩
   .cases h
  .cases h
 .cases h
def No{o e:Nat}{l:L (den S.A t)}(h:Ke s o e=Z ⟨t,l⟩):GV (aI s) o e=Z (S.width t,l.map (enc S t)):=by
 unfold Ke at h;unfold GV;rw[bf];split at h
 .rename_i c d era a;rcases af h with⟨b,h⟩|⟨_,h⟩
  .cases h;simp only[a,ee,cQ,b,cH]
  .cases h
 .rename_i c d era a;rcases af h with⟨b,h⟩|⟨_,h⟩
  .cases h;simp only[a,ee,cQ,b,cH]
  .cases h
 .cases h
def Pc{α:Type}(f:α->D)(l:L α)(k:Nat)(z:α)(h:k<l.length):D.el (l.map f) k=f (aR l k z):=by simp[D.el,aR,List.getD,h]
def uo{α:Type}{n:Int}{l:L α}(h:av n l=W):0<=n∧n<l.length:=by simpa[av]using h
def rm{α:Type}{k:Nat}{l:L α}(h:cz k l=W):k<l.length:=by simpa[cz]using h
def zb(a:fB S)(x:den S.A t):bn (uk (S:=S) t x)=(enc S t x).cells.map .sym:=by cases t with|st n=>simp only[uk,enc,D.cells];rw[uj _ _ (a.leaf n),a.cells]|cR n=>show[T.sym (NW (S.pT n x))]=(NW (S.pT n x)).cells.map .sym;rw[mj];rfl|_=>rfl
def Ao(q:fB S)(w:∀u,τ=Z u->wZ S i u){x:den S.A t}{off:Nat}(h:LX i τ t x off=Z v) :
  nF i (enc S t x) off=Z (low v)∧(enc S t x).has (Nat.add off i.size):=by
 unfold LX at h;have z:=jU q x;rcases af h with⟨m,A⟩|⟨_,h⟩
 .simp only[ec]at m;clear h;obtain⟨h1,h2⟩:=m;have B:=beq_iff'.1 h1;subst B;have h:=eO A;subst h;unfold YH at h2;split at h2
  .rename_i u;have:=fM h2;subst this;have f:=w u rfl;cases u with
   |st n=>
    obtain⟨b,a⟩:=f;have s:(S.cells n x).length=(S.fs n).length:=by rw[q.cells,lK]
    refine⟨?_,?_⟩
    .unfold nF;rw[b,cH,a,<-s];simp only[enc,low,eH,js,Nat.add_eq]
     congr 2
     exact DJ _
    .simp only[D.has,enc,D.cells,a,s];exact yP (js _)
   |int k=>obtain⟨_,b,a⟩:=f;exact⟨by simp only[nF,b,a];rfl,by simp only[D.has,a];exact bQ _⟩
   |bool=>obtain⟨_,b,a⟩:=f;exact⟨by simp only[nF,b,a];rfl,by simp only[D.has,a];exact bQ _⟩
   |str=>obtain⟨_,b,a⟩:=f;exact⟨by simp only[nF,b,a];rfl,by simp only[D.has,a];exact bQ _⟩
   |sl e=>obtain⟨_,b,a,_⟩:=f;exact⟨by simp only[nF,b,a];rfl,by simp only[D.has,a];exact bQ _⟩
   |cR n=>obtain⟨_,b,a⟩:=f;have e:(enc S (.cR n) x).cells=[enc S (.cR n) x]:=mj _;exact⟨by simp only[nF,b,a,D.cell,e];rfl,by simp only[D.has,a,e];exact bQ _⟩
  .cases h2
 .rcases af h with⟨m,h⟩|⟨_,h⟩
  .have r:off+i.size<=S.width t:=fU m;have g:(enc S t x).cells.length=S.width t:=z;have c:=oc h;rw[jc,jd,zb q]at c;have d:((List.map T.sym (enc S t x).cells).drop off).take i.size=(List.range i.size).map λj=>T.sym ((enc S t x).cell (off+j)):=by
    apply LH;intro j;rw[gM];by_cases o:j<i.size
    .rw[v5,bJ o,DM,gM,Oj o];have:off+j<(enc S t x).cells.length:=by omega
     rw[fN this];simp[D.cell,List.getD,this]
    .rw[v5,br o,GB (by simpa using o)];rfl
   rw[d]at c;refine⟨?_,by simp only[D.has];exact g▸r⟩;unfold uc at c;unfold nF;cases l:i.agg with
   |true=>rw[l,cH]at c;rw[cH];exact c
   |false=>
    rw[l,dS]at c;rw[dS];split at c
    .rename_i y p;have h1:i.size=1:=by have:=lS List.length p;simpa using this
     rw[h1]at p;have:Nat.beq i.size 1=W:=by rw[h1];rfl
     rw[this,cH];simp only[List.range_one,lT,Hx,wJ,LC,and_true]at p;rw[p];exact c
    .cases c
  .cases h
def HY(g:fB S)(j:∀u,τ=Z u->wZ S i u){s':bq S}{a:V S}{c:Bool}(h:wO i τ s a=Z (c,v,s'))(n:c=W) :
  s'=s∧∃p,loadT i (aI s) (low a)=Z (p,low v,aI s')∧p:=by
 unfold wO at h;split at h
 .rename_i o off;split at h
  .rename_i q r;dsimp only at h;rcases af h with⟨w,h⟩|⟨_,h⟩
   .simp only[eG,bD]at h;obtain⟨t,y,_,rfl,rfl⟩:=h;refine⟨rfl,True,?_,trivial⟩;have m:=oc y;rw[jc,jd]at m;have b:Nat.beq (cC (((bn q).drop off).take i.size)) i.size=W:=by rw[<-jd,<-jc,bL,eW,<-bL];exact w
    simp only[low,loadT,bf,r,ee,cQ,b,cH,m]
   .cases h
  .cases h
 .rename_i t x off;simp only[eG,bD]at h;obtain⟨u,d,_,rfl,rfl⟩:=h;obtain⟨h1,h2⟩:=Ao g j d;exact⟨rfl,_,by simp only[low,loadT,h1,ee],h2⟩
 .rename_i o e k off;split at h
  .rename_i t l z;simp only[eG,bD]at h;obtain⟨u,d,rfl,rfl,rfl⟩:=h;obtain⟨h1,h2⟩:=Ao g j d;have A:=rm n;have f:=Pc (enc S t) l k (S.zero t) A;refine⟨rfl,D.GG (k:Int) (D.len (l.map (enc S t)))∧(enc S t (aR l k (S.zero t))).has (Nat.add off i.size),by simp only[low,loadT,No z,f,h1,ee],?_,h2⟩;simp only[D.GG,D.len,Aj];omega
  .cases h
 .cases h
def Ed{x:O Operand}(h:Js fr x=Z u):Mc (bA fr) x=Z (u.map low):=by cases x with|none=>simp only[Js,bg]at h;subst h;rfl|some x=>simp only[Js,eG]at h;obtain⟨v,a,rfl⟩:=h;simp only[Mc,bW a,ee]
def o7{d:Int}{n:Int}(h:AZ d u=Z n):∃p,uM d (u.map low)=Z (p,n)∧p:=by cases u with|none=>simp only[AZ,bg]at h;subst h;exact⟨True,rfl,trivial⟩|some v=>exact fQ h
def Eb(v:V S):pQ (low v)=LY v:=by
 cases v with
 |ty t x=>cases t<;>rfl
 |_=>rfl
def rZ{fr:bY S}:∀{l:L (Nat×Operand)}{a:L (Nat×V S)},iA fr l=Z a->qj (bA fr) l=Z (a.map λp=>(p.1,low p.2))
 |[],a,h=>by simp only[iA,bg]at h;subst h;rfl
 |(k,x)::l,a,h=>by
  simp only[iA]at h;split at h
  .rename_i t r h1 h2;simp only[bg]at h;subst h;simp only[qj,bW h1,rZ h2,lT]
  .cases h
def AH(e:fB S){place:Nat->O (Nat×TI)}:∀{ps:L (Nat×V S)}{cells r:L (V S)},Im place cells ps=Z r->∃p,BO place (bn cells) (ps.map λp=>(p.1,low p.2))=Z (p,bn r)∧p
 |[],cells,r,h=>by simp only[Im,bg]at h;subst h;exact⟨True,rfl,trivial⟩
 |(k,v)::ps,cells,r,h=>by
  simp only[Im]at h;split at h
  .cases h
  .rename_i off i g;split at h
   .cases h
   .rename_i l j;rcases af h with⟨c,h⟩|⟨_,h⟩
    .simp only[ec]at c;obtain⟨p,m,d⟩:=mz e j;obtain⟨q,f,n⟩:=AH e h;simp only[jx,jc,jd]at f;have b:cC (bn l)=cC l:=by rw[bL,eW,<-bL]
     have a:cC (bn cells)=cC cells:=by rw[bL,eW,<-bL]
     refine⟨p∧leaves (bn l)∧q,?_,d,xI c.2,n⟩;simp only[lT,BO,g,m,b,a,c.1,cH,f,ee]
    .cases h
def E3(a:fB S){s:bq S}{e:Ty}{i:TI}(b:i.agg=jr e∧(jr e=W->i.size=S.width e)):∀{ps:L (Nat×V S)}{es r:L (den S.A e)}{os:L Nat},mo s e es ps=Z (r,os)->
  ∃p,nw (aI s) i (es.map (enc S e)) (ps.map λp=>(p.1,low p.2))=Z (p,r.map (enc S e),os)∧p
 |[],es,r,os,h=>by simp only[mo,bg,bD]at h;obtain⟨rfl,rfl⟩:=h;exact⟨True,rfl,trivial⟩
 |(k,v)::ps,es,r,os,h=>by
  simp only[mo]at h;split at h
  .cases h
  .rename_i x g j;rcases af h with⟨l,h⟩|⟨_,h⟩
   .split at h
    .rename_i y m o;simp only[bg,bD]at h;obtain⟨rfl,rfl⟩:=h;obtain⟨p,t,u⟩:=oA a s e v j;obtain⟨q,f,w⟩:=E3 a b o;rw[Hy]at f;have c:Nat.blt k (cC (es.map (enc S e)))=W:=by rw[bL,Aj,<-bL];exact l
     refine⟨p∧(bif i.agg then(enc S e x).isAgg i.size else(enc S e x).leaf)=W∧q,by simp only[lT,nw,t,c,cH,f,ee],u,?_,w⟩;rw[b.1];cases e with|st n=>simp only[jr,cH,enc,D.isAgg];have d:=b.2 rfl;rw[d];simp only[Sg.width,bL,a.cells,lK,ec];refine⟨beq_iff'.2 rfl,?_⟩;rw[eC];exact gW _ _ (a.leaf n)|cR n=>exact ur _|_=>rfl
    .cases h
   .cases h
end
section
def tU(s:St):∀(l m:L T){p q:Prop}{ds es:L D}{os ps:L Nat},lR s l=Z (p,ds,os)->lR s m=Z (q,es,ps)->∃r,lR s (l++m)=Z (r,ds++es,os++ps)∧(p->q->r)
 |[],m,p,q,ds,es,os,ps,h,a=>by simp only[lR,bg,bD]at h;obtain⟨_,rfl,rfl⟩:=h;exact⟨q,a,λ_ b=>b⟩
 |t::l,m,p,q,ds,es,os,ps,h,a=>by
  simp only[lR]at h;split at h
  .rename_i f d g n i j h1 h2;simp only[bg,bD]at h;obtain⟨rfl,rfl,rfl⟩:=h;obtain⟨r,k,c⟩:=tU s l m h2 a;exact⟨f∧r,by simp only[List.cons_append,lR,h1,k,nk],λe b=>⟨e.1,c e.2 b⟩⟩
  .cases h
def JX(a:fB S):∀(t:Ty)(h:lI S.A (S.mJ t)),(enc S t (ue t h)).cells=gD S (S.mJ t) h
 | .st n,h=>(a.cells n (S.VI n h)).trans (lS _ (a.uw n h))
 | .int _,_=>rfl
 | .bool,_=>rfl
 | .str,_=>rfl
 | .sl _,_=>rfl
 | .cR _,h=>by rw[show(enc S (.cR _) (ue _ h)).cells=[enc S (.cR _) (ue _ h)]from mj _];rfl
variable {i:TI}{s s':bq S}{a x v:V S}{c:Bool}{lo hi:Int}
def N8(j:fB S)(h:Ds i s a x=Z (c,v,s'))(hc:c=W) :
  ∃p,storeT i (aI s) (low a) (low x)=Z (p,low v,aI s')∧p:=by
 unfold Ds at h;split at h
 .cases h
 .rename_i l hl;obtain⟨p,H,hp⟩:=mz j hl;have I:cC (bn l)=cC l:=by rw[bL,eW,<-bL]
  split at h
  .rename_i o off;split at h
   .rename_i X ho;rcases af h with⟨E,u⟩|⟨_,u⟩
    .clear h;simp only[ec]at E;simp only[bg,bD]at u;obtain⟨_,rfl,rfl⟩:=u;have F:cC (bn X)=cC X:=by rw[bL,eW,<-bL]
     have hb':(Nat.ble (aI s).fl o&&Nat.ble (Nat.add off (cC l)) (cC (bn X)))=W:=by rw[F,ec];exact⟨E.1,E.2.1⟩
     refine⟨p∧leaves (bn l),?_,hp,xI E.2.2⟩;simp only[storeT,H,low,bf,ho,ee,cQ,hb',cH,ff,jx,jc,jd,I];rfl
    .cases u
   .cases h
  .rename_i o e k off;split at h
   .rename_i t _ _ _;split at h
    .rename_i h0 os hos;split at h
     .rename_i s1 KO;split at h
      .rename_i t2 g era ho;split at h
       .rename_i h2 os2 hh2;rcases af h with⟨E,u⟩|⟨_,u⟩
        .clear h;simp only[ec]at E;obtain⟨O2,pI,K,O1,hb5⟩:=E;simp only[bg,bD]at u;obtain⟨rfl,rfl,rfl⟩:=u;obtain⟨q,R,hq⟩:=qF j s _ l hos;have hf:=dc j os KO;have hk:=rm hc;have G:=Pc (enc S t2) g k (S.zero t2) hk;obtain⟨q2,w,_⟩:=qF j s _ _ hh2;have z:off+cC l<=S.width t2:=fU K;have h1l:1<=cC l:=fU O1;generalize hds:gD S (List.take (cC l) (List.drop off (S.mJ t))) h0=ds at R;have f:ds.length=cC l:=by
          have:∀(s:St)(l:L T){p:Prop}{ds:L D}{os:L Nat},lR s l=Z (p,ds,os)->ds.length=l.length:=by
           intro s l
           induction l with
           |nil=>intro p ds os h;simp only[lR,bg,bD]at h;obtain⟨_,rfl,_⟩:=h;rfl
           |cons t l ih=>
            intro p ds os h;simp only[lR]at h;split at h
            .rename_i h1 h2;simp only[bg,bD]at h;obtain⟨_,rfl,_⟩:=h;simp[ih h2]
            .cases h
          rw[this _ _ R,eW,bL]
         have B:gD S (S.mJ t2) h2=(enc S t2 (aR g k (S.zero t2))).cells.take off++ds++(enc S t2 (aR g k (S.zero t2))).cells.drop (Nat.add off (cC l)):=by rw[jx,jx,jc,jd,zb j,<-List.map_take,<-List.map_drop]at w;obtain⟨r1,e1,_⟩:=vw (aI s) ((enc S t2 (aR g k (S.zero t2))).cells.take off);obtain⟨r2,e2,_⟩:=vw (aI s) ((enc S t2 (aR g k (S.zero t2))).cells.drop (Nat.add off (cC l)));obtain⟨r3,e3,_⟩:=tU _ _ _ e1 R;obtain⟨r4,e4,_⟩:=tU _ _ _ e3 e2;rw[e4]at w;simp only[bg,bD]at w;exact w.2.1.symm
         have C:D.Qt (enc S t2 (aR g k (S.zero t2))) off ds=enc S t2 (ue t2 h2):=by
          have b:=JX j t2 h2;rw[B]at b;cases t2 with
          |st n=>simp only[enc,D.cells]at b;simp only[enc,D.Qt,f];rw[b];rfl
          |cR n=>
           simp only[Sg.width]at z;have m:off=0:=by omega
           have r:cC l=1:=by omega
           rw[r]at f;obtain⟨d1,rfl⟩:=LK.1 f;subst m;have M:∀y:S.A n,(enc S (.cR n) y).cells=[enc S (.cR n) y]:=λy=>mj _;rw[M,M]at b;simp only[List.take_zero,vX,r,Nat.add_eq,js,List.drop_succ_cons,List.drop_nil,ij,LC,and_true]at b;have hux:∀y:S.A n,D.Qt (enc S (.cR n) y) 0 [d1]=d1:=λy=>by show D.Qt (NW (S.pT n y)) 0 [d1]=d1;cases S.pT n y<;>rfl
           rw[hux];exact b.symm
          |_=>
           simp only[Sg.width]at z;have m:off=0:=by omega
           have r:cC l=1:=by omega
           rw[r]at f;obtain⟨d1,rfl⟩:=LK.1 f;subst m;simp only[enc,D.cells,List.take_zero,vX,r,Nat.add_eq,js,List.drop_succ_cons,List.drop_nil,ij,LC,and_true]at b;simp only[enc,D.Qt,List.getD,eV,xy,Nat.lt_add_one,getElem?_pos,Vi,vY,js];exact b.symm
         have htk:(D.el (g.map (enc S t2)) k).QA (S.width t2) off (cC ds):=by
          rw[G,bL,f];cases t2 with
          |st n=>
           left
           simp only[enc,D.isAgg,Sg.width,bL,j.cells,lK,ec];refine⟨beq_iff'.2 rfl,?_⟩;rw[eC];exact gW _ _ (j.leaf n)
          |cR n=>simp only[Sg.width]at z;exact .inr ⟨ur _,rfl,by omega,by omega⟩
          |_=>simp only[Sg.width]at z;exact .inr ⟨rfl,rfl,by omega,by omega⟩
         have N:Nat.ble (Nat.add off (cC ds)) (S.width t2)=W:=by rw[bL,f];exact K
         have A:ds.all D.leaf=W:=by
          rw[eC];intro d hd';have:d∈gD S (S.mJ t2) h2:=by rw[B];simp[hd']
          cases t2 with|st n=>exact gW _ _ (j.leaf n) d this|cR n=>simp only[Sg.mJ,gD,lg]at this;rw[this];exact ur _|_=>simp only[Sg.mJ,gD,lg]at this;rw[this];rfl
         have hby:((D.el (g.map (enc S t2)) k).Qt off ds).qD=(D.el (g.map (enc S t2)) k).qD:=by rw[G,C,AM j,AM j]
         have P:(Nat.ble (aI s1).fl o&&Nat.beq e era)=W:=by rw[ec];exact⟨O2,pI⟩
         refine⟨p∧q∧ds.all D.leaf=W∧D.GG (k:Int) (D.len (g.map (enc S t2)))∧(D.el (g.map (enc S t2)) k).QA (S.width t2) off (cC ds)∧Nat.ble (Nat.add off (cC ds)) (S.width t2)=W∧
          ((D.el (g.map (enc S t2)) k).Qt off ds).qD=(D.el (g.map (enc S t2)) k).qD,?_,hp,hq,A,?_,htk,N,hby⟩
         .simp only[storeT,H,low,R,hf,bf,ho,ee,cQ,P,cH,ff,G,C,D.put,dV,Hy];rfl
         .simp only[D.GG,D.len,Aj];omega
        .cases u
       .cases h
      .cases h
     .cases h
    .cases h
   .cases h
  .cases h
def Fc{len:Int}(h:eS lo hi len=W):D.cut lo hi len:=by simpa[eS,D.cut]using h
def nT{α:Type}(f:α->D)(l:L α):D.len (l.map f)=ak l:=by simp[D.len,ak]
def QD{α:Type}(f:α->D)(l:L α)(lo hi:Int):D.sub (l.map f) lo hi=(eo l lo hi).map f:=by simp[D.sub,eo,List.map_drop,List.map_take]
def qN(a:fB S){e:Ty}(l:L (den S.A e)):D.rows (l.map (enc S e)) (S.width e):=by intro d b;obtain⟨x,_,rfl⟩:=tY.1 b;exact jU a x
def rO(b:L UInt8):D.Dw (bK b)=ak b:=by simp[D.Dw,bK,ak,ByteArray.size]
def Oa(b:L UInt8)(h:D.cut lo hi (ak b)):D.YN (bK b) lo hi=bK (eo b lo hi):=by obtain⟨h1,h2,h3⟩:=h;unfold D.YN bK eo;unfold ak at h3;apply ByteArray.ext;simp only[ByteArray.data_extract];apply DO;simp[Vo,List.drop_take]
def Oc(R:fB S){τ:O Ty}(hi:∀u,τ=Z u->wZ S i u){l h m:O (V S)}(a:tW i τ s x l h m=Z (c,v,s'))(E:c=W) :
  ∃p,oB i (aI s) (low x) (l.map low) (h.map low) (m.map low)=Z (p,low v,aI s')∧p:=by
 unfold tW at a;split at a
 .rename_i lo F;obtain⟨p,g,I⟩:=o7 (d:=0) F;have g:uM D.zero (l.map low)=Z (p,lo):=g;obtain⟨w,_,_⟩:=hi _ rfl;split at a
  .rename_i b _ hb;obtain⟨q,A,K⟩:=ke hb;split at a
   .rename_i j B;obtain⟨r,o,G⟩:=o7 B;simp only[bg,bD]at a;obtain⟨rfl,rfl,rfl⟩:=a;have f:=Fc E;refine⟨p∧q∧r∧D.cut lo j (D.Dw (bK b)),?_,I,K,G,by rw[rO];exact f⟩;unfold oB;rw[w,g];simp only[A,Option.map_none,rO,o,Oa b f];rfl
   .cases a
  .cases a
 .rename_i e lo F;obtain⟨p,g,I⟩:=o7 (d:=0) F;have g:uM D.zero (l.map low)=Z (p,lo):=g;obtain⟨⟨z,w,_⟩,_⟩:=hi _ rfl;split at a
  .rename_i H s1 _ X hfz;obtain⟨q,A,K⟩:=yC X;have P:=dc R _ hfz;rw[<-Eb]at P;split at a
   .rename_i _ j B;obtain⟨r,o,G⟩:=o7 B;simp only[bg,bD]at a;obtain⟨rfl,rfl,rfl⟩:=a;have f:=Fc E;refine⟨p∧q∧r∧D.rows (H.map (enc S e)) (S.width e)∧D.cut lo j (D.len (H.map (enc S e))),?_,I,K,G,qN R H,by rw[nT];exact f⟩;unfold oB;rw[w,g];simp only[A,P,nT,o,Option.map_none,QD];rfl
   .rename_i j y hv B;obtain⟨r,o,G⟩:=o7 B;simp only[ee]at o;split at a
    .simp only[bg,bD]at a;obtain⟨rfl,rfl,rfl⟩:=a;simp only[ec,iq,jL]at E;refine⟨p∧q∧r∧lo=D.zero∧j=D.zero,?_,I,K,G,E.1,E.2⟩;unfold oB;rw[w,g];simp only[A,P,nT,o,ee,low]
    .rename_i hno;split at a
     .rename_i mx hmx;obtain⟨t,M,ht⟩:=fQ hmx;simp only[bg,bD]at a;obtain⟨rfl,rfl,rfl⟩:=a;simp only[ec,iq,jL]at E;have f:=Fc E.1;refine⟨p∧q∧r∧t∧D.rows (H.map (enc S e)) (S.width e)∧D.cut lo j (D.len (H.map (enc S e)))∧mx=j,?_,I,K,G,ht,qN R H,by rw[nT];exact f,E.2⟩;unfold oB;rw[w,g];simp only[A,P,nT,o,ee,QD];have N:∀q,low y=.kn .i64 q->q≠0:=by
       intro q C h0;subst h0;cases y with
       |ty t x=>cases t<;>simp[low,eH]at C
       |kn k n=>simp only[low,T.kn.injEq]at C;obtain⟨rfl,rfl⟩:=C;exact hno rfl
       |_=>simp[low]at C
      generalize low y=ly at M N;split
      .exact absurd rfl (N 0 rfl)
      .rw[M];rfl
     .cases a
   .cases a
  .cases a
 .cases a
def FD{g:O Bool}{b:Bool}(h:Xl v=Z (g,b)):∃p,FE (low v)=Z (p,b)∧(orT g=W->p):=by
 unfold Xl at h;split at h
 .rename_i c i;split at h
  .rename_i y d;obtain⟨p,a,e⟩:=kV d;simp only[bg,bD]at h;obtain⟨rfl,rfl⟩:=h;exact⟨c=W∧p,by simp only[low,FE,a],λf=>⟨f,e⟩⟩
  .cases h
 .simp only[bg,bD]at h;obtain⟨rfl,rfl⟩:=h;exact⟨True,rfl,λ_=>trivial⟩
 .simp only[bg,bD]at h;obtain⟨rfl,rfl⟩:=h;exact⟨_,rfl,λ_=>rfl⟩
 .cases h
def SO{c b:V S}{q:Bool}(h:Vs c a b=Z (q,v))(d:q=W):∃p,HM (low c) (low a) (low b)=Z (p,low v)∧p:=by
 unfold Vs at h;split at h
 .rename_i u;split at h
  .rename_i p y h1;simp only[bg,bD]at h;obtain⟨rfl,rfl⟩:=h;obtain⟨r,e,k⟩:=FD h1;refine⟨r,?_,k d⟩;have l:FE (bif u then low a else low b)=Z (r,y):=by cases u<;>exact e
   simp only[low,HM,l];rfl
  .cases h
 rename_i g;split at h
 .rename_i t p x E y h1 h2 h3;obtain⟨m,n,o⟩:=kV h1;obtain⟨s,w,z⟩:=FD h2;obtain⟨A,B,C⟩:=FD h3;simp only[bg,bD]at h;obtain⟨rfl,rfl⟩:=h;refine⟨m∧(t=W->s)∧(t=J->A),by
   have i:∀u,low c≠.kb u:=by
    intro u f;cases c with
    |kb b=>exact g b rfl
    |ty t x=>cases t<;>cases f
    |_=>cases f
   unfold HM;split
   .rename_i f;exact absurd f (i _)
   .simp only[n,w,B];rfl,o,λj=>z ?_,λj=>C ?_⟩
  .rw[j]at d;exact d
  .rw[j]at d;exact d
 .cases h
end
section
variable {v x ix b a:V S}{r c:Bool}{i:TI}{s s':bq S}{k:Nat}{n m:Int}{op:BinOp}
def acS{o r:Nat}(h:low v=.sh o r):v=.sh o r:=by
 cases v with
 |ty t x=>cases t<;>simp[low,eH]at h
 |sh a b=>simpa[low]using h
 |_=>simp[low]at h
def EJ(C:fB S){τ:O Ty}(E:∀u,τ=Z u->wZ S i u)(a:jA i τ s x ix=Z (c,v,s'))(A:c=W) :
  s'=s∧∃p,kE i (aI s) (low x) (low ix)=Z (p,low v,aI s')∧p:=by
 unfold jA at a;split at a
 .rename_i sz M N P e n F G;obtain⟨p,g,B⟩:=fQ G;obtain⟨⟨z,d,_⟩,_⟩:=E _ rfl;split at a
  .rename_i o r;split at a
   .rename_i t l k;rcases af a with⟨H,b⟩|⟨_,b⟩
    .clear a;have:=fM H;subst this;simp only[bg,bD]at b;obtain⟨rfl,rfl,rfl⟩:=b;have f:=uo A;have m:Nat.beq (S.width t) (S.width t)=W:=beq_iff'.2 rfl;refine⟨rfl,p∧D.GG n (D.len (l.map (enc S t))),?_,B,by rw[nT];exact f⟩;unfold kE;rw[d,g];simp only[low,No k,m,cH];rfl
    .cases b
   .cases a
  .rename_i w;split at a
   .rename_i l k;simp only[bg,bD]at a;obtain⟨rfl,rfl,rfl⟩:=a;obtain⟨q,y,I⟩:=yC k;have f:=uo A;have K:(ah n)<l.length:=by unfold ah;omega
    have h:=Pc (enc S e) l (ah n) (S.zero e) K;refine⟨rfl,p∧q∧D.GG n (D.len (l.map (enc S e)))∧(D.el (l.map (enc S e)) (D.nat n)).wide (S.width e),?_,B,I,by rw[nT];exact f,?_⟩
    .unfold kE;rw[d,g];simp only;split
     .rename_i o r j;exact absurd (acS j) (w o r)
     .rw[y];simp only[low];rw[show D.el (List.map (enc S e) l) (D.nat n)=_ from h]
    .show (D.el (l.map (enc S e)) (ah n)).cells.length=_;rw[h,jU C]
   .cases a
 .cases a
def oV(a:oW i s k x=Z (c,v,s')):s'=s∧∃p,oX i (aI s) k (low x)=Z (p,low v,aI s')∧p:=by
 unfold oW at a;unfold oX;split at a
 .rename_i f b;try rw[b]
  try simp only
  split at a
  .rename_i off size g d;try rw[d]
   rcases af a with⟨_,h⟩|⟨e,h⟩
   .cases h
   .simp only[e,dS];split at h;all_goals first
     |(cases h;done)
     |(
       simp only[bg,bD]at h;obtain⟨rfl,rfl,rfl⟩:=h;exact⟨rfl,True,rfl,trivial⟩)
  .cases a
 .cases a
def O7(g:fB S)(a:AI i s k x=Z (c,v,s')):s'=s∧∃p,ER i (aI s) k (low x)=Z (p,low v,aI s')∧p:=by
 unfold AI at a;unfold ER;split at a
 .rename_i r d;try rw[d]
  try simp only
  split at a
  .rename_i off size u j l m;obtain⟨p,e,n⟩:=mz g m;rw[l,e];dsimp only at a ⊢;rcases af a with⟨o,h⟩|⟨_,h⟩
   .simp only[eG,bD]at h;obtain⟨t,q,_,rfl,rfl⟩:=h;have b:=oc q;rw[jc,jd]at b;have f:(Nat.beq (cC (((bn j).drop off).take size)) size&&!(Nat.beq size 0))=W:=by rw[<-jd,<-jc,bL,eW,<-bL];exact o
    exact⟨rfl,p,by rw[f,cH,b];rfl,n⟩
   .cases h
  .cases a
 .cases a
def Sy{b:L UInt8}(h:av n b=W):D.sat (bK b) n=lC b n:=by
 have c:=uo h;have a:n.toNat<b.length:=by omega
 unfold D.sat lC;have h1:(bK b).get! n.toNat=b.getD n.toNat 0:=by unfold bK ByteArray.get!;simp[a]
 rw[h1]
def OP(a:AA i s x ix=Z (c,v,s'))(g:c=W):s'=s∧∃p,EI i (aI s) (low x) (low ix)=Z (p,low v,aI s')∧p:=by
 unfold AA at a;split at a
 .rename_i n b d h j;obtain⟨p,e,k⟩:=fQ h;obtain⟨q,f,l⟩:=ke j;simp only[bg,bD]at a;obtain⟨rfl,rfl,rfl⟩:=a;refine⟨rfl,p∧q∧D.GG n (D.Dw (bK b)),?_,k,l,by rw[rO];exact uo g⟩;unfold EI;rw[d,e,f];simp only[low,eH,enc,Sy g]
 .cases a
def Se(d:D):low (zeroV (S:=S) d)=oL d:=by
 unfold zeroV;split
 .rfl
 .rfl
 .rename_i b;simp only[low,eH,enc,Ni];rfl
 .rfl
 .rename_i h1 h2 h3 h4;unfold oL;split
  .rename_i b;exact absurd rfl (h1 b)
  .rename_i k n;exact absurd rfl (h2 k n)
  .exact absurd rfl h4
  .rfl
def l8:∀(l:L D),bn (l.map (zeroV (S:=S)))=l.map oL
 |[]=>rfl
 |d::l=>by simp only[lT,bn,Se,l8 l]
def Pz(a:i.kd=.iface->False)(s:St)(t u:TypeId)(v:T) :
  p8 i s t W (.cR u v)=(bif Nat.beq u t then Z (True,.gB [v,.kb W],s)else(uc i.agg (i.zero.map oL)).map λz=>(True,.gB [z,.kb J],s)):=by
 unfold p8;cases b:i.kd<;>first|rfl|exact(a b).elim
def PA(a:i.kd=.iface->False)(s:St)(t u:TypeId)(v:T) :
  p8 i s t J (.cR u v)=(bif Nat.beq u t then Z (True,v,s)else Y):=by
 unfold p8;cases b:i.kd<;>first|rfl|exact(a b).elim
def uP{t:TypeId}{ok:Bool}(a:Db i s t ok x=Z (c,v,s')):s'=s∧∃p,p8 i (aI s) t ok (low x)=Z (p,low v,aI s')∧p:=by
 unfold Db at a;split at a
 .cases a
 .rename_i u w _ b;rw[low,Pz b];rcases af a with⟨d,a⟩|⟨d,a⟩
  .simp only[bg,bD]at a;obtain⟨rfl,rfl,rfl⟩:=a;exact⟨rfl,True,by rw[d];rfl,trivial⟩
  .simp only[eG,bD]at a;obtain⟨z,f,_,rfl,rfl⟩:=a;have e:=oc f;rw[l8]at e;exact⟨rfl,True,by rw[d,dS,e];rfl,trivial⟩
 .rename_i u w _ b;rw[low,PA b];rcases af a with⟨d,a⟩|⟨_,a⟩
  .simp only[bg,bD]at a;obtain⟨rfl,rfl,rfl⟩:=a;exact⟨rfl,True,by rw[d];rfl,trivial⟩
  .cases a
 .cases a
def YG{op:UnOp}(a:unV i op x=Z v):∃p d,unT i op (low x)=Z (p,d)∧p∧low v=.sym d:=by
 unfold unV at a;split at a
 .rename_i c;simp only[eG]at a;obtain⟨b,f,rfl⟩:=a;obtain⟨p,e,g⟩:=kV f;exact⟨p,_,by simp only[unT,c,e,ee];rfl,g,rfl⟩
 .rename_i k c;simp only[eG]at a;obtain⟨b,f,rfl⟩:=a;obtain⟨p,e,g⟩:=fQ f;exact⟨p,_,by simp only[unT,c,e,ee];rfl,g,rfl⟩
 .cases a
def AT{j:TI}(a:Ry i j s x=Z (c,v,s')):s'=s∧∃p,Iv i j (aI s) (low x)=Z (p,low v,aI s')∧p:=by
 unfold Ry at a;split at a
 .rename_i k l h1 h2;simp only[eG,bD]at a;obtain⟨n,d,_,rfl,rfl⟩:=a;obtain⟨p,b,e⟩:=fQ d;exact⟨rfl,p,by simp only[Iv,h1,h2,b,ee];rfl,e⟩
 .rename_i h1 h2;simp only[eG,bD]at a;obtain⟨n,d,_,rfl,rfl⟩:=a;obtain⟨p,b,e⟩:=ke d;exact⟨rfl,p,by simp only[Iv,h1,h2,b,ee],e⟩
 .cases a
def sw(a:zo s k x=Z (c,v,s')):s'=s∧∃p,oY (aI s) k (low x)=Z (p,low v,aI s')∧p:=by
 unfold zo at a;split at a
 .rename_i d;simp only[eG,bD]at a;obtain⟨t,b,_,rfl,rfl⟩:=a;rw[jv]at b;exact⟨rfl,True,by simp only[low,oY,jv,gp,gM,b,ee],trivial⟩
 .cases a
def Ag(a b:L UInt8):D.seq (bK a) (bK b)=gn a b:=by show(a.toArray==b.toArray)=(a==b);simp
def BU{k:Lk}(h:CY k a b=Z r):∃p,oZ k (low a) (low b)=Z (p,r)∧p:=by
 unfold CY at h;split at h
 .split at h
  .rename_i h1 h2;simp only[bg]at h;subst h;obtain⟨p,c,d⟩:=fQ h1;obtain⟨q,e,f⟩:=fQ h2;exact⟨p∧q,by simp only[oZ,c,e],d,f⟩
  .cases h
 .split at h
  .rename_i h1 h2;simp only[bg]at h;subst h;obtain⟨p,c,d⟩:=kV h1;obtain⟨q,e,f⟩:=kV h2;exact⟨p∧q,by simp only[oZ,c,e],d,f⟩
  .cases h
 .split at h
  .rename_i h1 h2;simp only[bg]at h;subst h;obtain⟨p,c,d⟩:=ke h1;obtain⟨q,e,f⟩:=ke h2;exact⟨p∧q,by simp only[oZ,c,e,Ag],d,f⟩
  .cases h
 .cases h
def wS:∀{c:L Lk}{as bs:L (V S)}{r:Bool},jT c as bs=Z r->∃p,jC c (bn as) (bn bs)=Z (p,r)∧p
 |[],[],[],r,h=>by simp only[jT,bg]at h;subst h;exact⟨True,rfl,trivial⟩
 |k::c,a::as,b::bs,r,h=>by
  simp only[jT]at h;split at h
  .rename_i x y h1 h2;simp only[bg]at h;subst h;obtain⟨p,d,e⟩:=BU h1;obtain⟨q,f,g⟩:=wS h2;exact⟨p∧q,by simp only[bn,jC,d,f],e,g⟩
  .cases h
 |[],[],_::_,_,h=>by simp[jT]at h
 |[],_::_,_,_,h=>by simp[jT]at h
 |_::_,[],_,_,h=>by simp[jT]at h
 |_::_,_::_,[],_,h=>by simp[jT]at h
def MR(f:fB S)(h:aao i a b=Z r):∃p,TH i (low a) (low b)=Z (p,r)∧p:=by
 unfold aao at h;unfold TH;rcases af h with⟨d,h⟩|⟨d,h⟩
 .rw[d];simp only[cH];split at h
  .cases h
  .rename_i k v as w e g j;obtain⟨p,l,m⟩:=mz f g;obtain⟨q,n,o⟩:=mz f j;obtain⟨t,s,u⟩:=wS h;exact⟨p∧q∧t,by simp only[e,l,n,s,ee],m,o,u⟩
  .cases h
 .rw[d];simp only[dS];split at h
  .rename_i k c;try rw[c]
   exact BU h
  .rename_i c;try rw[c]
   unfold WM at h;split at h
   .simp only[bg]at h;subst h;exact⟨True,rfl,trivial⟩
   .simp only[bg]at h;subst h;exact⟨True,rfl,trivial⟩
   .cases h
  .rename_i c;try rw[c]
   unfold WN at h;split at h
   .simp only[bg]at h;subst h;exact⟨True,rfl,trivial⟩
   .simp only[bg]at h;subst h;exact⟨True,rfl,trivial⟩
   .cases h
  .cases h
def Xa{op:BinOp}{k:IntKind}{m n:Int}:(aaE (S:=S) op k m n).map low=(Pm op k m n).map .sym:=by unfold aaE Pm;cases op<;>rfl
def W3{op:BinOp}{k:IntKind}{m n:Int}:(aaB (S:=S) op k m n).map low=(W4 op k m n).map .sym:=by unfold aaB W4;cases op<;>rfl
def TC{a b:L UInt8}(h:aal a b=W):D.YO (bK a) (bK b):=by simpa[aal,D.YO,bK,ByteArray.size]using h
def TU(a b:L UInt8):D.UQ (bK a) (bK b)=bK (cM a b):=by unfold D.UQ cM bK;apply ByteArray.ext;simp
def Xi(I:fB S)(h:Fv i op a b=Z (c,v))(K:c=W):∃p d,Ka i op (low a) (low b)=Z (p,d)∧p∧low v=.sym d:=by
 have f:=h;unfold Fv at h;split at h
 .simp only[eG,bD]at h;obtain⟨r,C,_,rfl⟩:=h;obtain⟨p,e,t⟩:=MR I C;exact⟨p,_,by simp only[Ka,e,ee];rfl,t,rfl⟩
 .simp only[eG,bD]at h;obtain⟨r,C,_,rfl⟩:=h;obtain⟨p,e,t⟩:=MR I C;exact⟨p,_,by simp only[Ka,e,ee];rfl,t,rfl⟩
 .rename_i g j;cases o:i.kd with
  |leaf M=>
   cases M with
   |int k=>
    have A:Fv i op a b=(match gf k a,gf k b with
     |some m,Z n=>match aaE op k m n with
      |some d=>Z (W,d)
      |none=>(aaB op k m n).map λd=>(nzI n,d)
     |_,_=>Y):=by
     clear h;unfold Fv;cases op<;>first|exact(g rfl).elim|exact(j rfl).elim|(simp only[o];done)|(simp only[o];cases gf k a<;>cases gf k b<;>rfl)
    have N:∀{p q:Prop}{m n:Int},tK k (low a)=Z (p,m)->tK k (low b)=Z (q,n)->Ka i op (low a) (low b)=(match Pm op k m n with
     |some d=>Z (p∧q,d)
     |none=>(W4 op k m n).map λd=>(p∧q∧D.nz n,d)):=by
     intro p q m n y z;clear h A;unfold Ka;cases op<;>first|exact(g rfl).elim|exact(j rfl).elim|(simp only[o,y,z];rfl)
    rw[A]at f;split at f
    .rename_i m n h1 h2;obtain⟨p,y,t⟩:=fQ h1;obtain⟨q,z,B⟩:=fQ h2;rw[N y z];have l:=Xa (S:=S) (op:=op) (k:=k) (m:=m) (n:=n);split at f
     .rename_i d E;rw[E]at l;simp only[ee]at l;obtain⟨F,u,w⟩:=eG.1 l.symm;simp only[bg,bD]at f;obtain⟨_,rfl⟩:=f;exact⟨p∧q,F,by rw[u],⟨t,B⟩,w.symm⟩
     .rename_i E;rw[E]at l;simp only[Option.map_none]at l;have x:Pm op k m n=Y:=by simpa using l.symm
      simp only[eG,bD]at f;obtain⟨d,G,rfl,rfl⟩:=f;have s:=W3 (S:=S) (op:=op) (k:=k) (m:=m) (n:=n);rw[G]at s;simp only[ee]at s;obtain⟨F,u,w⟩:=eG.1 s.symm;refine⟨p∧q∧D.nz n,F,by rw[x,u];rfl,⟨t,B,?_⟩,w.symm⟩;simpa[nzI,D.nz]using K
    .cases f
   |str=>
    have H:op=.add:=by clear h;unfold Fv at f;cases op<;>first|rfl|exact(g rfl).elim|exact(j rfl).elim|(simp only[o]at f;cases f)
    clear h;subst H;have A:Fv i .add a b=(match tV a,tV b with
     |some m,Z n=>Z (aal m n,.ty .str (cM m n))
     |_,_=>Y):=by
     unfold Fv;simp only[o];cases tV a<;>cases tV b<;>rfl
    rw[A]at f;split at f
    .rename_i m n h1 h2;obtain⟨p,y,t⟩:=ke h1;obtain⟨q,z,B⟩:=ke h2;simp only[bg,bD]at f;obtain⟨rfl,rfl⟩:=f;refine⟨p∧q∧D.YO (bK m) (bK n),.lit (.string (D.UQ (bK m) (bK n))),?_,⟨t,B,TC K⟩,by rw[TU];rfl⟩;unfold Ka;simp only[o,y,z]
    .cases f
   |bool=>
    clear h;unfold Fv at f;cases op<;>first|exact(g rfl).elim|exact(j rfl).elim|(simp only[o]at f;cases f)
   |no=>
    clear h;unfold Fv at f;cases op<;>first|exact(g rfl).elim|exact(j rfl).elim|(simp only[o]at f;cases f)
  |_=>
   clear h;unfold Fv at f;cases op<;>first|exact(g rfl).elim|exact(j rfl).elim|(simp only[o]at f;cases f)
def Me(A:fB S){E:gH}(hE:PL S E){fr:bY S}{o:Op}(h:cn E fr s o=Z (c,v,s'))(F:c=W) :
  ∃p,nh E.E (bA fr) (aI s) o=Z (p,low v,aI s')∧p:=by
 cases o with
 |move x=>simp only[cn,eG,bD]at h;obtain⟨t,N,_,rfl,rfl⟩:=h;exact⟨True,by simp only[nh,bW N,ee],trivial⟩
 |assign x=>simp only[cn,eG,bD]at h;obtain⟨t,N,_,rfl,rfl⟩:=h;exact⟨True,by simp only[nh,bW N,ee],trivial⟩
 |pick x y z=>
  simp only[cn]at h;split at h
  .rename_i a b d h1 h2 h3;simp only[eG,bD]at h;obtain⟨⟨q,t⟩,N,rfl,rfl,rfl⟩:=h;obtain⟨p,e,l⟩:=SO N F;exact⟨p,by simp only[nh,bW h1,bW h2,bW h3,e,ee],l⟩
  .cases h
 |alloc t=>
  simp only[cn]at h;split at h
  .rename_i i g;rcases af h with⟨w,h⟩|⟨_,h⟩
   .simp only[bg,bD]at h;obtain⟨_,rfl,rfl⟩:=h;refine⟨True,?_,trivial⟩;have G:Nat.blt (aI s).aJ bC=W:=w;simp only[nh,g,G,cH,gC,cQ,l8];rfl
   .cases h
  .cases h
 |box t x=>
  simp only[cn]at h;split at h
  .rename_i i v' g hv;rcases af h with⟨w,h⟩|⟨_,h⟩
   .simp only[eG,bD]at h;obtain⟨cs,H,_,rfl,rfl⟩:=h;obtain⟨p,e,l⟩:=mz A H;have G:Nat.blt (aI s).aJ bC=W:=w;refine⟨p,?_,l⟩;simp only[nh,g,bW hv,G,cH,e,ee,gC,cQ];rfl
   .cases h
  .cases h
 |build t ps=>
  simp only[cn]at h;split at h
  .rename_i i ps' g I;split at h
   .rename_i fs B;simp only[eG,bD]at h;obtain⟨cs,H,_,rfl,rfl⟩:=h;obtain⟨p,e,l⟩:=AH A H;rw[l8]at e;refine⟨p,?_,l⟩;simp only[nh,g,rZ I,B,low];exact lS (Option.map λq:Prop×L T=>(q.1,T.agg q.2,aI s)) e
   .cases h
  .cases h
 |buildSlice t n ps=>
  simp only[cn]at h;split at h
  .rename_i i e ps' g Mw I;split at h
   .rename_i sz ag bt zz B;rcases af h with⟨w,h⟩|⟨_,h⟩
    .split at h
     .rename_i es os hel;simp only[eG,bD]at h;obtain⟨s1,KO,_,rfl,rfl⟩:=h;obtain⟨⟨z,C,K⟩,_,_,hpos⟩:=hE.row _ _ _ g Mw;rw[B]at C;obtain⟨rfl,rfl,rfl,rfl⟩:=Kd.slice.inj C;have hf:=dc A os KO;have hzl:cC zz=S.width e:=by rw[bL];cases e with|st m=>simp only[jr,cH,enc,D.agg.injEq]at K;rw[K];simp only[Sg.width,bL];rw[show S.cells m (S.zero (.st m))=_ from A.cells m _,lK]|_=>simp only[jr,dS]at K;rw[K];rfl
      have M:((jr e||Nat.beq (S.width e) 1)&&(Nat.beq (cC zz) (S.width e)&&(!(Nat.beq (S.width e) 0)&&Nat.ble (Nat.mul n (S.width e)) 16777216)))=W:=by
       rw[hzl];simp only[ec,DK];refine⟨?_,beq_iff'.2 rfl,?_,w⟩
       .cases e<;>rfl
       .cases hq:Nat.beq (S.width e) 0 with|false=>rfl|true=>have:=beq_iff'.1 hq;omega
      have P:List.replicate n (bif jr e then D.agg zz else zz.getD 0 default)=(List.replicate n (S.zero e)).map (enc S e):=by
       rw[List.map_replicate]
       congr 1
       cases e with|st m=>exact K|_=>simp only[jr,dS]at K ⊢;rw[K];rfl
      obtain⟨p,e1,l⟩:=E3 A (i:={(default:TI)with size:=S.width e,agg:=jr e}) ⟨rfl,λ_=>rfl⟩ hel;refine⟨p,?_,l⟩;simp only[nh,g,rZ I,B,M,cH,P,e1,hf,ee,low]
     .cases h
    .cases h
   .cases h
  .cases h
 |load t x=>
  simp only[cn]at h;split at h
  .rename_i i a g r;obtain⟨rfl,p,e,l⟩:=HY A (λu R=>hE.row _ _ _ g R) h F;exact⟨p,by simp only[nh,g,bW r,e],l⟩
  .cases h
 |store t x y=>
  simp only[cn]at h;split at h
  .rename_i i a b g r w;obtain⟨p,e,l⟩:=N8 A h F;exact⟨p,by simp only[nh,g,bW r,bW w,e],l⟩
  .cases h
 |nilCheck x=>
  simp only[cn]at h;split at h;all_goals first
   |(cases h;done)
   |(
     rename_i hx;simp only[bg,bD]at h;obtain⟨_,rfl,rfl⟩:=h;have:=bW hx;simp only[low]at this;exact⟨True,by simp only[nh,this,low],trivial⟩)
 |binOp op t x y u=>
  simp only[cn]at h;split at h
  .rename_i i a b g r w;simp only[eG,bD]at h;obtain⟨⟨q,d⟩,hd,rfl,rfl,rfl⟩:=h;obtain⟨p,d',e,l,hl⟩:=Xi A hd F;exact⟨p,by simp only[nh,g,bW r,bW w,e,ee,hl],l⟩
  .cases h
 |unOp op t x=>
  simp only[cn]at h;split at h
  .rename_i i a g r;simp only[eG,bD]at h;obtain⟨d,hd,_,rfl,rfl⟩:=h;obtain⟨p,d',e,l,hl⟩:=YG hd;exact⟨p,by simp only[nh,g,bW r,e,ee,hl],l⟩
  .cases h
 |convert t u x=>
  simp only[cn]at h;split at h
  .rename_i i j a g hj r;obtain⟨rfl,p,e,l⟩:=AT h;exact⟨p,by simp only[nh,g,hj,bW r,e],l⟩
  .cases h
 |makeInterface t x=>
  simp only[cn]at h;split at h
  .rename_i i a g r;split at h
   .cases h
   .rename_i hk;simp only[bg,bD]at h;obtain⟨_,rfl,rfl⟩:=h;refine⟨True,?_,trivial⟩;simp only[nh,g,bW r,low]
  .cases h
 |makeFunc f a b=>
  simp only[cn]at h;split at h
  .rename_i x y hx hy;simp only[bg,bD]at h;obtain⟨_,rfl,rfl⟩:=h;exact⟨True,by simp only[nh,gU hx,gU hy,low],trivial⟩
  .cases h
 |extract x k=>
  simp only[cn]at h;split at h
  .rename_i a r;obtain⟨rfl,p,e,l⟩:=sw h;exact⟨p,by simp only[nh,bW r,e],l⟩
  .cases h
 |fieldAddr t x k=>
  simp only[cn]at h;split at h
  .rename_i i a g r;obtain⟨rfl,p,e,l⟩:=oV h;exact⟨p,by simp only[nh,g,bW r,e],l⟩
  .cases h
 |field t x k=>
  simp only[cn]at h;split at h
  .rename_i i a g r;obtain⟨rfl,p,e,l⟩:=O7 A h;exact⟨p,by simp only[nh,g,bW r,e],l⟩
  .cases h
 |indexAddr t x y=>
  simp only[cn]at h;split at h
  .rename_i i a b g r w;obtain⟨rfl,p,e,l⟩:=EJ A (λu R=>hE.row _ _ _ g R) h F;exact⟨p,by simp only[nh,g,bW r,bW w,e],l⟩
  .cases h
 |index t x y=>
  simp only[cn]at h;split at h
  .rename_i i a b g r w;obtain⟨rfl,p,e,l⟩:=OP h F;exact⟨p,by simp only[nh,g,bW r,bW w,e],l⟩
  .cases h
 |slice t x lo g mx=>
  simp only[cn]at h;split at h
  .rename_i i a l1 l2 l3 X r h1 h2 h3;obtain⟨p,e,l⟩:=Oc A (λu R=>hE.row _ _ _ X R) h F;exact⟨p,by simp only[nh,X,bW r,Ed h1,Ed h2,Ed h3,e],l⟩
  .cases h
 |typeAssert x t u ok=>
  simp only[cn]at h;split at h
  .rename_i i a g r;obtain⟨rfl,p,e,l⟩:=uP h;exact⟨p,by simp only[nh,g,bW r,e],l⟩
  .cases h
 |_=>simp[cn]at h
end
section
variable {e:Ty}{v:V S}{s s':bq S}{c:Bool}
def Da(a:fB S)(l:L (den S.A e)):D.Us (l.map (enc S e)) (uL S e):=by intro d b;obtain⟨x,_,rfl⟩:=tY.1 b;exact⟨AM a x,MS a x⟩
def sM{α:Type}(f:α->D)(l m:L α):D.app (l.map f) (m.map f)=(cM l m).map f:=by simp[D.app,cM]
def CX{α:Type}(f:α->D){l m:L α}(h:cX l m=W):D.Rp (l.map f) (m.map f):=by simpa[cX,D.Rp]using h
def Zq{n:Nat}{es:L D}(h:low v=.jE n es):∃t l,v=.jE n t l:=by
 cases v with
 |ty t x=>cases t<;>simp[low,eH]at h
 |jE a t l=>simp only[low,T.jE.injEq]at h;obtain⟨rfl,_⟩:=h;exact⟨t,l,rfl⟩
 |_=>simp[low]at h
def Np(l:fB S){i:TI}(R:wZ S i (.sl e)){x y:V S}(h:Dd i e s x y=Z (c,v,s'))(F:c=W) :
  ∃p,p9 i (aI s) (low x) (low y)=Z (p,low v,aI s')∧p:=by
 unfold Dd at h;rcases af h with⟨_,a⟩|⟨G,a⟩
 .cases a
 clear h;have m:(!(Nat.blt (aI s).aJ bC))=J:=G;unfold p9;rw[m,dS];obtain⟨⟨z,u,hz⟩,_⟩:=R;split at a
 .rename_i sz ag bt zz new g w;rw[u]at g;obtain⟨rfl,rfl,rfl,rfl⟩:=Kd.slice.inj g;obtain⟨q,H,B⟩:=yC w;rw[u,H];simp only;have A:=qN l new;have I:=Da l new;split at a
  .simp only[bg,bD]at a;obtain⟨_,rfl,rfl⟩:=a;refine⟨q∧D.rows (new.map (enc S e)) (S.width e)∧D.Us (new.map (enc S e)) (uL S e),?_,B,A,I⟩;simp only[low,gC,cQ];rfl
  .rename_i n t f;split at a
   .rename_i K b;obtain⟨rfl,M⟩:=e8 b;cases M;have j:=qN l (cM f new);have d:=Da l (cM f new);rw[<-sM]at j d;split at a
    .rename_i k t2 l2;simp only[bg,bD]at a;obtain⟨rfl,rfl,rfl⟩:=a;refine⟨q∧D.rows (D.app (f.map (enc S t)) (new.map (enc S t))) (S.width t)∧D.Us (D.app (f.map (enc S t)) (new.map (enc S t))) (uL S t)∧D.Rp (f.map (enc S t)) (new.map (enc S t)),?_,B,j,d,CX _ F⟩;simp only[low,gC,cQ,<-sM];rfl
    .rename_i N;simp only[bg,bD]at a;obtain⟨rfl,rfl,rfl⟩:=a;refine⟨q∧D.rows (D.app (f.map (enc S t)) (new.map (enc S t))) (S.width t)∧D.Us (D.app (f.map (enc S t)) (new.map (enc S t))) (uL S t)∧D.Rp (f.map (enc S t)) (new.map (enc S t)),?_,B,j,d,CX _ F⟩;simp only[low];split
     .rename_i k X hl;obtain⟨t3,l3,rfl⟩:=Zq hl;exact absurd rfl (N _ _ _)
     .simp only[eH,enc,<-sM]
   .cases a
  .rename_i o r;split at a
   .rename_i t f era ho;split at a
    .rename_i K b;obtain⟨rfl,M⟩:=e8 b;cases M;rcases af a with⟨C,E⟩|⟨_,E⟩
     .clear a;simp only[ec]at C;simp only[bg,bD]at E;obtain⟨rfl,rfl,rfl⟩:=E;have d:=Da l (cM f new);rw[<-sM]at d;refine⟨q∧D.rows (new.map (enc S t)) (S.width t)∧D.Us (D.app (f.map (enc S t)) (new.map (enc S t))) (uL S t)∧D.Rp (f.map (enc S t)) (new.map (enc S t)),?_,B,A,d,CX _ F⟩;have P:(Nat.ble (aI s).fl o&&Nat.beq r era&&Nat.beq (S.width t) (S.width t)&&!(pQ (low y)).contains o)=W:=by rw[Eb];simp only[ec];exact⟨⟨⟨C.1,C.2.1⟩,beq_iff'.2 rfl⟩,C.2.2⟩
      simp only[low,bf,ho,ee,cQ,P,cH,ff,<-sM]
     .cases E
    .cases a
   .cases a
  .cases a
 .cases a
def wV(F:fB S){E:gH}(A:PL S E){b:Builtin}{o:Array TypeId}{args:L (V S)}(h:fh E s b o args=Z (c,v,s'))(G:c=W) :
  ∃p,e9 E.E (aI s) b o (bn args)=Z (p,low v,aI s')∧p:=by
 unfold fh at h;split at h
 .rename_i x;split at h
  .rename_i i g d;obtain⟨k,m,n⟩:=rW.1 g;obtain⟨H,a,f⟩:=rW.1 d;rw[m]at a;cases a;obtain⟨l,_⟩:=A.row _ _ _ n f;split at h
   .rename_i P _ I;obtain⟨p,e,r⟩:=ke I;simp only[bg,bD]at h;obtain⟨_,rfl,rfl⟩:=h;exact⟨p,by simp only[bn,e9,e,g,l,rO];rfl,r⟩
   .cases h
  .rename_i i e g d;obtain⟨k,m,n⟩:=rW.1 g;obtain⟨H,a,f⟩:=rW.1 d;rw[m]at a;cases a;obtain⟨⟨z,l,_⟩,_⟩:=A.row _ _ _ n f;split at h
   .simp only[eG,bD]at h;obtain⟨R,B,_,rfl,rfl⟩:=h;obtain⟨p,w,r⟩:=yC B;refine⟨p,?_,r⟩;simp only[bn,e9];cases K:xj (low x)with|none=>simp only[g,l,w,ee,nT];rfl|some q=>simp only[g,l,w,ee,nT];rfl
   .cases h
  .cases h
 .rename_i x y;split at h
  .rename_i t u M;split at h
   .rename_i i j e g N d;split at h
    .rename_i C;obtain⟨p,w,r⟩:=Np F (A.row _ _ _ g d) h G;exact⟨p,by simp only[bn,e9,M,g,N,C,w],r⟩
    .cases h
   .cases h
  .cases h
 .cases h
end
section
section
variable {g g':Gh}{w w':World}
structure n8(g g':Gh):Prop where
 cj:∀o b,g.cj o=Z b->g'.cj o=Z b
 arr:∀o e x,g.arr o e=Z x->g'.arr o e=Z x
 bB:∀b,g.bB b->g'.bB b
def n8.refl(g:Gh):n8 g g:=⟨λ_ _ h=>h,λ_ _ _ h=>h,λ_ h=>h⟩
def n8.trans{g g' a:Gh}(h:n8 g g')(k:n8 g' a):n8 g a:=⟨λo b e=>k.cj o b (h.cj o b e),λo e x c=>k.arr o e x (h.arr o e x c),λb e=>k.bB b (h.bB b e)⟩
variable {I:Nat->Prop}{v:Value}{t:T}{s s':St}{o b e:Nat}{x:fE}{os:List Nat}
def ek.le{a:Nat->Prop}(c:∀b,I b->a b){d:D}(h:ek I w d v):ek a w d v:=h.mono (λ_ _=>rfl) c
def aM.le(h:n8 g g'){t:T}{v:Value}(F:aM g w t v):aM g' w t v:=by
 induction F with|sym d v p=>exact .sym d v (p.le h.bB)|kb b=>exact .kb b|kn k n=>exact .kn k n|ptr o off b q=>exact .ptr o off b (h.cj o b q)|mO d off z val A G p=>exact .mO d off z val (h.bB _ A) G (λj c B=>(p j c B).le h.bB)|kH o e i off len cap sz z s=>exact .kH o e i off len cap sz z (h.arr _ _ _ s)|sh o e len cap sz a s=>exact .sh o e len cap sz a (h.arr _ _ _ s)|emp a=>exact .emp a|jE n H a I p=>exact .jE n H a I (p.le h.bB)|fn f K u M N y P _ _ l C=>exact .fn f K u M N y P l C|cR t x v _ l=>exact .cR t x v l|agg u E y _ l=>exact .agg u E y l|gB u E y _ l=>exact .gB u E y l|gd c t v _ l=>exact .gd c t v l|mp o b q=>exact .mp o b (h.cj o b q)|rJ o b q=>exact .rJ o b (h.cj o b q)|rI o b q=>exact .rI o b (h.cj o b q)|ub e b h=>exact .ub e b h|qm o m r i len cap sz a s=>exact .qm o m r i len cap sz a (h.arr _ _ _ s)|nZ j d c a B p=>exact .nZ j d c a B (p.le h.bB)
def u7.le{s s':St}{o b:Nat}(h:u7 g s w o b)(c:n8 g g')(d:g'.bB=g.bB)(hs:s'.ob.get o=s.ob.get o):u7 g' s' w o b:=by refine⟨by rw[d];exact h.1,h.2.1,λob a=>?_⟩;rw[hs]at a;obtain⟨x,h1,h2⟩:=h.2.2 ob a;exact⟨x,h1,h2.imp (λ_ _ h=>h.le c)⟩
def z6.le(h:z6 g s w o e x)(d:g'.bB=g.bB)(hs:s'.ob.get o=s.ob.get o)(b:∀k j y,g.arr k j=Z y->g'.arr k j=Z y)(f:∀c,g'.arr o c=g.arr o c):z6 g' s' w o e x:=by refine⟨h.1,λob a=>?_⟩;rw[hs]at a;exact(h.2 ob a).tr (λh=>h.j4 d) b (funext f)
def bh.Xp(hs:bh g s w)(hn:s.aJ<bC){sz:Nat}{es:L D}
  (r:∀b,x.at b->b<w.heap.size∧∀o,¬bN g o b) (t:vn g w J sz es x) (n:x.sz=sz) :
  bh (g.era s.aJ 0 x) (en s (.arr sz es 0)).2 w∧n8 g (g.era s.aJ 0 x)∧(∀k b,bN (g.era s.aJ 0 x) k b->bN g k b∨(k=s.aJ∧x.at b)):=by
 have a:=hs.ai s.aJ (bQ _);have i:∀k j y,g.arr k j=Z y->(g.era s.aJ 0 x).arr k j=Z y:=λk j y h=>by
  rw[Gh.cu]
  .exact h
  .rintro ⟨rfl,_⟩
   rw[a.2]at h;cases h
 have p:n8 g (g.era s.aJ 0 x):=⟨λ_ _ h=>h,i,λ_ h=>h⟩;have c:∀k b,bN (g.era s.aJ 0 x) k b->bN g k b∨(k=s.aJ∧x.at b):=by
  rintro k b ⟨h1,h2|⟨j,y,q,h2,h3,h4,h5⟩⟩
  .exact .inl ⟨h1,.inl h2⟩
  .by_cases d:k=s.aJ∧j=0
   .obtain ⟨rfl,rfl⟩:=d;rw[Gh.fG]at h2;simp only[bg]at h2;subst h2;exact .inr ⟨rfl,⟨q,h3,h4,h5⟩⟩
   .rw[Gh.cu _ _ _ _ _ _ d]at h2;exact .inl ⟨h1,.inr ⟨j,y,q,h2,h3,h4,h5⟩⟩
 refine⟨⟨by simp only[en];omega,λk A=>?_,λk b u=>?_,λk j y l=>?_,λb u=>hs.bB b u,λk v b h B=>?_⟩,p,c⟩
 .simp only[en]at A;refine⟨(hs.ai k (by omega)).1,λj=>?_⟩;rw[Gh.cu _ _ _ _ _ _ (by omega)];exact(hs.ai k (by omega)).2 j
 .have m:g.cj k=Z b:=u;have f:k≠s.aJ:=λh=>by rw[h,a.1]at m;cases m
  exact(hs.box k b m).le p rfl (by simp only[en];rw[Tr.aZ _ _ _ _ hn,br f])
 .by_cases d:k=s.aJ∧j=0
  .obtain ⟨rfl,rfl⟩:=d;rw[Gh.fG]at l;simp only[bg]at l;subst l;refine⟨λq C E=>(r _ ⟨q,C,rfl,E⟩).1,λob e=>.inl ⟨J,es,0,?_,bQ _,λz h=>?_,λ_=>n▸(t.j4 rfl)⟩⟩
   .simp only[en]at e;rw[Tr.aZ _ _ _ _ hn,bJ rfl]at e;rw[<-eO e];simp only[fI,n];rfl
   .rw[Gh.cu _ _ _ _ _ _ (by omega)];exact a.2 z
  .rw[Gh.cu _ _ _ _ _ _ d]at l;have f:k≠s.aJ:=λh=>by rw[h,a.2]at l;cases l
   exact(hs.arr k j y l).le rfl (by simp only[en];rw[Tr.aZ _ _ _ _ hn,br f]) i (λz=>Gh.cu _ _ _ _ _ _ (λh=>f h.1))
 .rcases c k b h with h1|⟨h1,h3⟩<;>rcases c v b B with h2|⟨h2,h4⟩
  .exact hs.l9 k v b h1 h2
  .exact absurd h1 ((r b h4).2 k)
  .exact absurd h2 ((r b h3).2 v)
  .rw[h1,h2]
def bh.sk(hs:bh g s w)(p:g.cj o=Z b){ob:Ob}{x:Obj}(q:w.heap[b]?=Z x)(r:g6 g w ob x)(j:∀e,g.arr o e=Y):bh g {s with ob:=s.ob.set aL o ob} w:=by
 have t:=hs.lt p;have u:=hs.aJ;have cJ:∀k,(Tr.set aL s.ob o ob).get k=if k=o then Z ob else s.ob.get k:=λk=>Tr.aZ _ _ _ _ (by omega)
 refine⟨hs.aJ,hs.ai,λk c m=>?_,λk e x n=>?_,hs.bB,hs.l9⟩
 .have d:=hs.box k c m;refine⟨d.1,d.2.1,λi a=>?_⟩;rw[cJ]at a;by_cases f:k=o
  .subst f;rw[bJ rfl]at a;have:c=b:=by rw[p]at m;exact(eO m).symm
   subst this;obtain rfl:=eO a;exact⟨_,q,r⟩
  .rw[br f]at a;exact d.2.2 i a
 .have l:=hs.arr k e x n;have f:k≠o:=λh=>by subst h;rw[j]at n;cases n
  refine⟨l.1,λi a=>?_⟩;rw[cJ,br f]at a;exact l.2 i a
def bh.step(hs:bh g s w){X:Nat->Prop}(E:∀b,g.bB b->I b)(hIn:∀b,I b->g.bB b∨w.heap.size<=b∨X b)(hIs:∀b,I b->b<w'.heap.size)(A:w.heap.size<=w'.heap.size)
  (l:∀b,b<w.heap.size->¬X b->w'.heap[b]?=w.heap[b]?) (hX:∀o b,X b->bN g o b->s.ob.get o=Y∧¬I b) (hXi:∀b,X b->¬g.bB b) :
  bh {g with bB:=I} s w':=by
 have K:∀k b,bN ({g with bB:=I}:Gh) k b->bN g k b:=λk b h=>⟨λhi=>h.1 (E b hi),h.2⟩;have N:tu g.bB w w':=λb z=>l b (hs.bB b z) (λu=>hXi b u z);have P:∀{t:T}{v:Value},aM g w t v->aM ({g with bB:=I}:Gh) w' t v:=by
  intro t v ht
  induction ht with|sym d v B=>exact .sym d v (B.mono N E)|kb b=>exact .kb b|kn k n=>exact .kn k n|ptr o off b z=>exact .ptr o off b z|mO d off ad val p C B=>exact .mO d off ad val (E _ p) (λj c F=>by rw[N.cell (by rw[kW];exact p)];exact C j c F) (λj c F=>(B j c F).mono N E)|kH o e i off len cap sz ad u=>exact .kH o e i off len cap sz ad u|sh o e len cap sz a u=>exact .sh o e len cap sz a u|emp a=>exact .emp a|jE n es a hn B=>exact .jE n es a hn (B.mono N E)|fn f fs cs va vc hl hm _ _ G ih'=>exact .fn f fs cs va vc hl hm G ih'|cR t x v _ G=>exact .cR t x v G|agg cs vs hl _ G=>exact .agg cs vs hl G|gB cs vs hl _ G=>exact .gB cs vs hl G|gd c t v _ G=>exact .gd c t v G|mp o b z=>exact .mp o b z|rJ o b z=>exact .rJ o b z|rI o b z=>exact .rI o b z|ub e b h=>exact .ub e b h|qm o m r i len cap sz a u=>exact .qm o m r i len cap sz a u|nZ j d c a F B=>exact .nZ j d c a F (B.mono N E)
 have M:∀o b,bN g o b->¬I b:=λo b H hi=>by
  rcases hIn b hi with h|h|h
  .exact H.1 h
  .have:=(hs.qT H).1;omega
  .exact (hX o b h H).2 hi
 refine⟨hs.aJ,hs.ai,λk c C=>?_,λk e x u=>?_,hIs,λk k' b h h'=>hs.l9 k k' b (K k b h) (K k' b h')⟩
 .have y:=hs.box k c C;have H:bN g k c:=⟨y.1,.inl C⟩;refine⟨M k c H,dB y.2.1 A,λob q=>?_⟩;obtain⟨x,h2,h3⟩:=y.2.2 ob q;have R:¬X c:=λu=>by rw[(hX k c u H).1]at q;cases q
  exact⟨x,by rw[l c y.2.1 R];exact h2,h3.imp (λ_ _ h=>P h)⟩
 .have S:=hs.arr k e x u;refine⟨λad ha C=>dB (S.1 ad ha C) A,λob q=>?_⟩;refine(S.2 ob q).tr (λ{fz sz es}hA=>?_) (λ_ _ _ h=>h) rfl;refine⟨hA.len,hA.cap,hA.rows,hA.pos,hA.YC,hA.emp,λC=>?_⟩;obtain⟨b,vs,ty,k1,k2,k3,k4,k5⟩:=hA.mem C;have z:b<w.heap.size:=S.1 _ k1 C;by_cases p:g.bB b
  .refine ⟨b,vs,ty,k1,⟨λ_=>E b p,λ_=>k2.2 p⟩,by rw[l b z (λu=>hXi b u p)];exact k3,k4,λi d j c B F=>?_⟩;obtain⟨v,hv,hr⟩:=k5 i d j c B F;exact⟨v,hv,hr.mono N E⟩
  .have H:bN g k b:=⟨p,.inr ⟨e,x,_,u,k1,rfl,C⟩⟩;have R:¬X b:=λhxx=>by rw[(hX k b hxx H).1]at q;cases q
   refine⟨b,vs,ty,k1,⟨λhf=>absurd (k2.1 hf) p,λhi=>absurd hi (M k b H)⟩,by rw[l b z R];exact k3,k4,λi d j c B F=>?_⟩;obtain⟨v,hv,hr⟩:=k5 i d j c B F;exact⟨v,hv,hr.mono N E⟩
def Gh.drop(g:Gh)(os:L Nat):Gh:={g with arr:=λo e=>if o∈os then Y else g.arr o e}
def Gh.E6(h:(g.drop os).arr o e=Z x):o∉os∧g.arr o e=Z x:=by
 simp only[Gh.drop]at h;split at h
 .cases h
 .exact ⟨by assumption,h⟩
def Gh.xP{k:Nat}(h:bN (g.drop os) k b):bN g k b:=by
 obtain⟨h1,h2|⟨e,x,a,h2,h3⟩⟩:=h
 .exact ⟨h1,.inl h2⟩
 .exact ⟨h1,.inr ⟨e,x,a,(Gh.E6 h2).2,h3⟩⟩
mutual
def dJ(os:L Nat):T->Bool
 | .ptr o _=>os.contains o
 | .kH o _ _ _=>os.contains o
 | .sh o _=>os.contains o
 | .mp o=>os.contains o
 | .rJ o=>os.contains o
 | .rI o=>os.contains o
 | .fn _ a b=>iQ os a||iQ os b
 | .cR _ v=>dJ os v
 | .agg c=>iQ os c
 | .gB c=>iQ os c
 | .gd _ v=>dJ os v
 | .qm o m _ _=>os.contains o||os.contains m
 |_=>J
def iQ(os:L Nat):L T->Bool
 |[]=>J
 |v::l=>dJ os v||iQ os l
end
def oO{os:L Nat}:∀{l:L T},iQ os l=J->∀t∈l,dJ os t=J
 |[],_,t,b=>by cases b
 |a::l,h,t,b=>by
  simp only[iQ,v7]at h;rcases eU.1 b with rfl|b
  .exact h.1
  .exact oO h.2 t b
def aM.drop{os:L Nat}{t:T}{v:Value}(h:aM g w t v)(l:dJ os t=J):aM (g.drop os) w t v:=by
 induction h with
 |sym d v q=>exact .sym d v q
 |kb b=>exact .kb b
 |kn k n=>exact .kn k n
 |ptr o off b h=>exact .ptr o off b h
 |mO d off y val E z q=>exact .mO d off y val E z q
 |kH o e i off len cap sz y h=>simp only[dJ,yM,Lv]at l;exact .kH o e i off len cap sz y (by simp only[Gh.drop,br l];exact h)
 |sh o e len cap sz a h=>simp only[dJ,yM,Lv]at l;exact .sh o e len cap sz a (by simp only[Gh.drop,br l];exact h)
 |emp a=>exact .emp a
 |jE k F a G q=>exact .jE k F a G q
 |fn f H s I K u A _ _ p B=>simp only[dJ,v7]at l;exact .fn f H s I K u A (λj t v h1 h2=>p j t v h1 h2 (oO l.1 t (g8 h1))) (λj t v h1 h2=>B j t v h1 h2 (oO l.2 t (g8 h1)))
 |cR t x v _ p=>exact .cR t x v (p l)
 |agg s C u _ p=>exact .agg s C u (λj t v h1 h2=>p j t v h1 h2 (oO l t (g8 h1)))
 |gB s C u _ p=>exact .gB s C u (λj t v h1 h2=>p j t v h1 h2 (oO l t (g8 h1)))
 |gd c t v _ p=>exact .gd c t v (λz=>p z l)
 |mp o b h=>exact .mp o b h
 |rJ o b h=>exact .rJ o b h
 |rI o b h=>exact .rI o b h
 |ub e b h=>exact .ub e b h
 |qm o m r i len cap sz a h=>simp only[dJ,v7,yM,Lv]at l;exact .qm o m r i len cap sz a (by simp only[Gh.drop,br l.2];exact h)
 |nZ j d c a M q=>exact .nZ j d c a M q
def XH(os:L Nat)(ob a:Ob):Prop:=qc (dJ os) ob a
def bh.drop{s k:St}(hs:bh g s w){os:L Nat}(hn:k.aJ=s.aJ)(d:∀o a,k.ob.get o=Z a->∃ob,s.ob.get o=Z ob∧XH os ob a):bh (g.drop os) k w:=by
 refine⟨hn▸hs.aJ,λo f=>⟨(hs.ai o (hn▸f)).1,λe=>?_⟩,λo b q=>?_,λo e x r=>?_,hs.bB,λo u b h z=>hs.l9 o u b (Gh.xP h) (Gh.xP z)⟩
 .simp only[Gh.drop];split
  .rfl
  .exact (hs.ai o (hn▸f)).2 e
 .obtain ⟨h1,h2,h3⟩:=hs.box o b q;refine⟨h1,h2,λa c=>?_⟩;obtain⟨ob,l,n⟩:=d o a c;obtain⟨x,h4,h5⟩:=h3 ob l;exact⟨x,h4,h5.left (λt v A i=>A.drop i) n⟩
 .obtain ⟨f,p⟩:=Gh.E6 r;obtain⟨h1,h2⟩:=hs.arr o e x p;refine⟨h1,λa c=>?_⟩;obtain⟨ob,l,n⟩:=d o a c;refine(h2 ob l).left n (λh=>h.j4 rfl) (λm j y i h=>?_) (funext λB=>by simp only[Gh.drop,br f]);simp only[dJ,yM,Lv]at i;simp only[Gh.drop,br i];exact h
end
end
section
def ghI(I:Nat->Prop):Gh:=⟨λ_=>Y,λ_ _=>Y,I⟩
def Ys(I:Nat->Prop)(w:World)(sz:Nat)(es:L D)(x:fE):Prop:=vn (ghI I) w J sz es x∧x.sz=sz
def aeP(S:Sg)(I:Nat->Prop)(w:World)(n j:Nat)(t:Ty)(l:L (S.A n))(a:fE)(rl:L fE):Prop:=
 ∃hl:L Value,hl.length=l.length∧Ys I w (S.width (.st n)) (lits j (l.map (enc S (.st n))) hl) a∧rl.length=l.length∧
  (∀(i:Nat)(y:fE),rl[i]?=Z y->hl[i]?=Z (.slice y.a y.len y.cap))∧(∀(i:Nat)(y:fE)(x:S.A n),rl[i]?=Z y->l[i]?=Z x->Ys I w (S.width t) ((GH n j t x).map (enc S t)) y)∧Cv S n j t=W
inductive jg(S:Sg)(I:Nat->Prop)(w:World):(cs:List Ck)->gA S.A cs->List Value->List fE->Prop where
 |nil:jg S I w [] () [] []
 |dat {t:Ty} {cs:List Ck} {x:den S.A t} {h:gA S.A cs} {v:Value} {vs:List Value} {al:List fE} (hd:ek I w (enc S t x) v) (hr:jg S I w cs h vs al):jg S I w (.dat t::cs) (x,h) (v::vs) al
 |own {e:Ty} {cs:List Ck} {l:List (den S.A e)} {h:gA S.A cs} {a:fE} {vs:List Value} {al:List fE} (ho:Ys I w (S.width e) (l.map (enc S e)) a) (hr:jg S I w cs h vs al) :
   jg S I w (.own e::cs) (l,h) (.slice a.a a.len a.cap::vs) (a::al)
 |jw {n j:Nat} {t:Ty} {cs:List Ck} {l:List (S.A n)} {h:gA S.A cs} {a:fE} {rl:List fE} {vs:List Value} {al:List fE} (ho:aeP S I w n j t l a rl) (hr:jg S I w cs h vs al) :
   jg S I w (.jw n j t::cs) (l,h) (.slice a.a a.len a.cap::vs) (a::(rl++al))
 |nl {e:Ty} {cs:List Ck} {h:gA S.A cs} {a:Option Addr} {vs:List Value} {al:List fE} (hr:jg S I w cs h vs al):jg S I w (.nil e::cs) ([],h) (.slice a 0 0::vs) al
 |ptr {t:Ty} {cs:List Ck} {x:den S.A t} {h:gA S.A cs} {ad:Addr} {val:Nat->Value} {vs:List Value} {al:List fE} (hi:I ad.block) (hc:∀j c,(enc S t x).cells[j]?=Z c->w.cell? (ad.add j)=Z (val j))
   (hd:∀j c,(enc S t x).cells[j]?=Z c->ek I w c (val j)) (hr:jg S I w cs h vs al):jg S I w (.ptr t::cs) (x,h) (.pointer (Z (ad.add 0))::vs) al
inductive AL(g:Gh):List fE->List Nat->Prop where
 |nil:AL g [] []
 |emp {a:fE} {al:List fE} {ow:List Nat} (h:a.cap=0) (hr:AL g al ow):AL g (a::al) ow
 |own {a:fE} {al:List fE} {o e:Nat} {ow:List Nat} (h:g.arr o e=Z a) (hr:AL g al ow):AL g (a::al) (o::ow)
 |rows {rl al:List fE} {m:Nat} {ow:List Nat} (h:∀y∈rl,∃e,g.arr m e=Z y) (hap:rl.Pairwise λx y=>∀b,x.at b->¬y.at b) (hr:AL g al ow):AL g (rl++al) (m::ow)
variable {g:Gh}{al td:List fE}{ow fz:List Nat}{s:bq S}{w:World}{I:Nat->Prop}{a:fE}{b n j o:Nat}{t τ:Ty}{cs:List Ck}{vs:List Value}{c:Ck}{h:Obj}{v:Value}{ob:wv S}{k:Bk}{nx nb:Option Nat}
def AL.append{a:L Nat}(h:AL g al ow)(d:AL g td a):AL g (al++td) (ow++a):=by
 induction h with|nil=>exact d|emp h _ b=>exact .emp h b|own h _ b=>exact .own h b|rows h c _ b=>rw[nk];exact .rows h c b
def vk(al:L fE):Prop:=al.Pairwise λx y=>∀b,x.at b->¬y.at b
def AL.owned(h:AL g al ow)(f:∀a∈al,∀b,a.at b->¬g.bB b):∀a∈al,∀b,a.at b->∃o∈ow,bN g o b:=by
 induction h with
 |nil=>intro a c;cases c
 |emp h _ i=>
  intro a c b d;rcases eU.1 c with rfl|c
  .exact absurd h d.choose_spec.2.2
  .exact i (λa c=>f a (gO _ c)) a c b d
 |own h _ i=>
  intro a c b d;rcases eU.1 c with rfl|c
  .obtain ⟨j,h1,h2,h3⟩:=d;exact⟨_,eD,f _ eD b ⟨j,h1,h2,h3⟩,.inr ⟨_,_,j,h,h1,h2,h3⟩⟩
  .obtain ⟨o,k,l⟩:=i (λa c=>f a (gO _ c)) a c b d;exact⟨o,gO _ k,l⟩
 |rows h _ _ i=>
  intro a c b d;rcases ef.1 c with c|c
  .obtain ⟨e,m⟩:=h a c;obtain⟨j,h1,h2,h3⟩:=d;exact⟨_,eD,f _ (eL _ c) b ⟨j,h1,h2,h3⟩,.inr ⟨_,_,j,m,h1,h2,h3⟩⟩
  .obtain ⟨o,k,l⟩:=i (λa c=>f a (iX _ c)) a c b d;exact⟨o,gO _ k,l⟩
def AL.apart{s:St}(hs:bh g s w)(h:AL g al ow)(hn:ow.Nodup)(j:∀a∈al,∀b,a.at b->¬g.bB b):vk al:=by
 induction h with
 |nil=>exact .nil
 |emp h m k=>refine .cons (λa c b l=>absurd h l.choose_spec.2.2) (k hn (λa c=>j a (gO _ c)))
 |own h m k=>rw[HD]at hn;refine .cons (λa c b l f=>?_) (k hn.2 (λa c=>j a (gO _ c)));obtain⟨q,i,d⟩:=m.owned (λa c=>j a (gO _ c)) a c b f;obtain⟨n,h1,h2,h3⟩:=l;have o:bN g _ b:=⟨d.1,.inr ⟨_,_,n,h,h1,h2,h3⟩⟩;have:=hs.l9 _ _ b o d;subst this;exact hn.1 i
 |rows h p m k=>rw[HD]at hn;refine rV.2 ⟨p,k hn.2 (λa c=>j a (iX _ c)),λy r a c b l f=>?_⟩;obtain⟨e,t⟩:=h y r;obtain⟨q,i,d⟩:=m.owned (λa c=>j a (iX _ c)) a c b f;obtain⟨n,h1,h2,h3⟩:=l;have o:bN g _ b:=⟨d.1,.inr ⟨_,_,n,t,h1,h2,h3⟩⟩;have:=hs.l9 _ _ b o d;subst this;exact hn.1 i
def mh:∀{l:L Nat},r9 l=W->l.Nodup
 |[],_=>.nil
 |a::l,h=>by simp only[r9,ec,DK,yM,Lv]at h;exact HD.2 ⟨h.1,mh h.2⟩
def xY{l m:L Nat}(h:A1 l m=W):∀o∈l,o∉m:=by intro o a;simp only[A1,eC,DK,yM,Lv]at h;exact h o a
def Ys.at_{I:Nat->Prop}{w:World}{sz:Nat}{es:L D}{a:fE}(h:Ys I w sz es a){b:Nat}(c:a.at b):¬I b∧b<w.heap.size:=by obtain⟨h1,vs,ty,_,h3⟩:=h.1.at_ c;exact⟨λd=>Bool.noConfusion (h1.2 d),(Jo.1 h3).1⟩
def aeP.at_{I:Nat->Prop}{w:World}{n j:Nat}{t:Ty}{l:L (S.A n)}{a:fE}{rl:L fE}(h:aeP S I w n j t l a rl):∀y∈a::rl,∀b,y.at b->¬I b∧b<w.heap.size:=by
 obtain⟨f,_,h2,h3,_,h5,_⟩:=h;intro y c b d;rcases eU.1 c with rfl|c
 .exact h2.at_ d
 .obtain ⟨i,e⟩:=HI c;have:i<l.length:=by rw[<-h3];exact aF e
  exact(h5 i y _ e (fN this)).at_ d
def jg.at_{I:Nat->Prop}{w:World}{cs:L Ck}{x:gA S.A cs}{vs:L Value}{al:L fE}(h:jg S I w cs x vs al):∀a∈al,∀b,a.at b->¬I b∧b<w.heap.size:=by
 induction h with
 |nil=>intro a c;cases c
 |dat _ _ d=>exact d
 |own f _ d=>
  intro a c b e;rcases eU.1 c with rfl|c
  .exact f.at_ e
  .exact d a c b e
 |jw f _ d=>
  intro a c b e;rw[<-List.cons_append]at c;rcases ef.1 c with c|c
  .exact f.at_ a c b e
  .exact d a c b e
 |nl _ d=>exact d
 |ptr _ _ _ _ d=>exact d
def jg.iO{x:gA S.A cs}(h:jg S I w cs x vs al):∀a∈al,∀b,a.at b->¬I b:=λa c b d=>(h.at_ a c b d).1
def jg.lt{x:gA S.A cs}(h:jg S I w cs x vs al):∀a∈al,∀b,a.at b->b<w.heap.size:=λa c b d=>(h.at_ a c b d).2
def jg.append{x:den S.A c.ty}{h:gA S.A cs}(h1:jg S I w [c] (x,()) [v] al)(h2:jg S I w cs h vs td) :
  jg S I w (c::cs) (x,h) (v::vs) (al++td):=by
 cases h1 with
 |dat b a=>cases a;exact .dat b h2
 |own d a=>cases a;exact .own d h2
 |jw d a=>cases a;rw[ij,List.cons_append];exact .jw d h2
 |nl a=>cases a;exact .nl h2
 |ptr e f b a=>cases a;exact .ptr e f b h2
def oz{x:den S.A t}(h:ek g.bB w (enc S t x) v):aM g w (eH S t x) v:=by
 cases t with
 |st n=>
  cases h with|agg cs vs a e b=>refine .agg _ vs (by simpa using a) λj t v h1 h2=>?_;rw[gM,eG]at h1;obtain⟨d,c,rfl⟩:=h1;exact .sym _ _ (b j d v c h2)
 |_=>exact .sym _ _ h
def Tr.dg{α:Type}:∀(n:Nat)(t:Tr α)(k j:Nat)(x:α),j≠k->(Tr.set n t k x).get j=t.get j
 |0,_,_,_,_,_=>rfl
 |n+1,t,0,j,x,h=>by
  cases j with
  |zero=>exact absurd rfl h
  |succ j=>
   cases t with|nil=>rw[Tr.yE,Tr.cP,Tr.get_nil,Tr.get_nil];split<;>rfl|node v l r=>rw[Tr.wD,Tr.cP,Tr.cP]
 |n+1,t,k+1,j,x,h=>by
  cases t with
  |nil=>
   rw[Tr.nK];cases j with
   |zero=>split<;>rw[Tr.fR,Tr.get_nil]
   |succ j=>
    by_cases b:k%2=0
    .rw[bJ b,Tr.cP,Tr.get_nil,Tr.get_nil];by_cases a:j%2=0
     .rw[bJ a,Tr.dg n _ _ _ _ (by omega),Tr.get_nil]
     .rw[br a]
    .rw[br b,Tr.cP,Tr.get_nil,Tr.get_nil];by_cases a:j%2=0
     .rw[bJ a]
     .rw[br a,Tr.dg n _ _ _ _ (by omega),Tr.get_nil]
  |node v l r=>
   rw[Tr.mG];cases j with
   |zero=>split<;>rw[Tr.fR,Tr.fR]
   |succ j=>
    by_cases b:k%2=0
    .rw[bJ b,Tr.cP,Tr.cP];by_cases a:j%2=0
     .rw[bJ a,bJ a,Tr.dg n _ _ _ _ (by omega)]
     .rw[br a,br a]
    .rw[br b,Tr.cP,Tr.cP];by_cases a:j%2=0
     .rw[bJ a,bJ a]
     .rw[br a,br a,Tr.dg n _ _ _ _ (by omega)]
def PB:wv S->Bool
 | .arr ..|.kB ..|.rws ..=>W
 |_=>J
def sK(h:PB ob=W):(cQ ob).oR=W:=by cases ob<;>first|rfl|cases h
def Es{nj:Nat}:∀{es:L D}{ig:L (L D)}{hl:L Value},es.length<=ig.length->lits nj (iZ nj es ig) hl=lits nj es hl
 |[],ig,hl,_=>by simp[iZ,lits]
 |d::es,[],hl,h=>by simp at h
 |d::es,a::ig,[],_=>by simp[iZ,lits]
 |d::es,a::ig,v::hl,h=>by have:=Es (nj:=nj) (es:=es) (ig:=ig) (hl:=hl) (by simpa using h);simp only[lits,iZ]at this;simp only[lits,iZ,List.zipWith_cons_cons,this,iS,zl,D.cells,List.set_set]
def Ia:∀{ts:L Ty}{h:lI S.A ts}{j:Nat}{t:Ty}{y:den S.A t},nth ts j=Z t->cJ ts (qq ts h j t y) j t=y
 |[],_,_,_,_,h=>by simp[nth]at h
 | τ::ts,h,0,t,y,e=>by simp only[nth,bg]at e;subst e;simp only[cJ,qq,uG]
 | τ::ts,h,j+1,t,y,e=>by simp only[nth]at e;simp only[cJ,qq,Ia e]
def Tw(a:fB S)(b:Cv S n j t=W)(x:S.A n)(y:L (den S.A t)):GH n j t (Sx n j t x y)=y:=by rw[GH,Sx,a.uw,Ia (Fi b)]
def BH(hS:fB S)(hs:bh g (aI s) w){v:V S}{val:Value}{x:den S.A c.ty}(h:lV s c v=Z (x,fz,ow))(R:aM g w (low v) val) :
  (∀o∈fz,Live g (aI s) o)∧(∀o∈ow,s.fl<=o∧s.lo<=o∧o<s.aJ∧∃ob,s.ob.get o=Z ob∧PB ob=W)∧∀(A:Gh)(E:St)(z:L Nat),bh A E w->Ext s.fl g w A w->jJ (aI s) E z->(∀o∈fz,o∈z)->(∀o∈ow,E.ob.get o=(aI s).ob.get o)->
   ∃al,jg S A.bB w [c] (x,()) [val] al∧AL A al ow:=by
 cases c with
 |dat t=>
  simp only[lV]at h;split at h
  .rename_i y os hy;simp only[bg,bD]at h;obtain⟨rfl,rfl,rfl⟩:=h;obtain⟨p,hd,hp⟩:=oA hS s t v hy;obtain⟨h1,h2⟩:=kO hs (low v) hd hp R;refine⟨h1,λo d=>(by cases d),λA E z f X hf q _=>⟨[],.dat ?_ .nil,.nil⟩⟩;exact h2 A E f X (hf.sub q)
  .cases h
 |nil e=>
  cases v with
  |emp=>
   simp only[lV,bg,bD]at h;obtain⟨rfl,rfl,rfl⟩:=h;cases R with|emp a=>exact⟨λo d=>(by cases d),λo d=>(by cases d),λA E z f X hf q _=>⟨[],.nl .nil,.nil⟩⟩
  |_=>simp[lV]at h
 |ptr t=>simp[lV]at h
 |own e=>
  cases v with
  |emp=>
   simp only[lV]at h;rcases af h with⟨F,h⟩|⟨_,h⟩
   .simp only[bg,bD]at h;obtain⟨rfl,rfl,rfl⟩:=h;have hpos:1<=S.width e:=fU F;cases R with
    |emp a=>
    refine⟨λo d=>(by cases d),λo d=>(by cases d),λA E z f X hf q _=>⟨[⟨a,0,0,S.width e⟩],?_,.emp rfl .nil⟩⟩;refine jg.own (a:=⟨a,0,0,S.width e⟩) ⟨⟨rfl,bQ _,by simp,by omega,by simp,λ_=>rfl,λh=>absurd rfl h⟩,rfl⟩ .nil
   .cases h
  |sh o r=>
   simp only[lV]at h;split at h
   .rename_i t l era d;rcases af h with⟨F,G⟩|⟨_,G⟩
    .clear h;split at G
     .rename_i l' hl;obtain⟨rfl,hh⟩:=e8 hl;cases hh;simp only[ec]at F;have ZW:=beq_iff'.1 F.1;subst ZW;simp only[bg,bD]at G;obtain⟨rfl,rfl,rfl⟩:=G;cases R with
      |sh _ _ len cap sz a hx=>
      have H:=hs.lt' hx;refine⟨λo d=>(by cases d),λk hk=>?_,λA E z f X hf q u=>?_⟩
      .rw[lg]at hk;subst hk;exact⟨fU F.2.1,fU F.2.2,H,_,d,rfl⟩
      .have I:=X.arr _ _ _ hx;have Tj:E.ob.get o=Z (fI J (S.width t) (l.map (enc S t)) r):=by rw[u o (by simp),bf,d];rfl
       obtain⟨hok,hsz⟩:=f.ny Tj I;exact⟨[_],jg.own ⟨hok.j4 rfl,hsz⟩ .nil,.own I .nil⟩
     .cases G
    .cases G
   .cases h
  |_=>simp[lV]at h
 |jw n j t=>
  cases v with
  |emp=>
   simp only[lV]at h;rcases af h with⟨F,h⟩|⟨_,h⟩
   .simp only[bg,bD]at h;obtain⟨rfl,rfl,rfl⟩:=h;simp only[ec]at F;have hpos:1<=S.width (.st n):=fU F.1;cases R with
    |emp a=>
    refine⟨λo d=>(by cases d),λo d=>(by cases d),λA E z f X hf q _=>⟨[⟨a,0,0,S.width (.st n)⟩],?_,.emp rfl .nil⟩⟩;exact jg.jw (a:=⟨a,0,0,S.width (.st n)⟩) (rl:=[]) ⟨[],rfl,⟨⟨rfl,bQ _,by simp[lits],by omega,by simp[lits],λ_=>rfl,λh=>absurd rfl h⟩,rfl⟩,rfl,by simp,by simp,F.2.1⟩ .nil
   .cases h
  |sh o r=>
   simp only[lV]at h;split at h;rotate_left
   .cases h
   rename_i n' j' l era m C d;split at h;rotate_left
   .cases h
   rename_i N B hrw;rcases af h with⟨F,G⟩|⟨_,G⟩;rotate_left
   .cases G
   clear h;simp only[ec]at F;obtain⟨b1,b2,b3,b4,b5,b6,b7,b8,b9⟩:=F;have ZW:=beq_iff'.1 b1;subst ZW;have hjj:=beq_iff'.1 b2;subst hjj;have htt:=fM b9;subst htt;split at G;rotate_left
   .cases G
   rename_i l' hl;obtain⟨e1,hh⟩:=e8 hl;cases e1;cases hh;simp only[bg,bD]at G;obtain⟨rfl,rfl,rfl⟩:=G;have ana:m<s.aJ:=fU b7;cases R with
   |sh _ _ len cap sz a hx=>
   have H:=hs.lt' hx;obtain⟨szm,hm⟩:=oa (yF hrw);obtain⟨obm,amS,ag6⟩:∃ob,s.ob.get m=Z ob∧PB ob=W:=by
    cases hq:s.ob.get m with
    |none=>rw[bf,hq]at hm;cases hm
    |some ob=>
     rw[bf,hq]at hm;cases ob<;>first|exact⟨_,rfl,rfl⟩|cases hm
   refine⟨λo d=>(by cases d),λk hk=>?_,λA E z f X hf q u=>?_⟩
   .simp only[eU,List.not_mem_nil,or_false]at hk;rcases hk with rfl|rfl
    .exact ⟨fU b3,fU b4,H,_,d,rfl⟩
    .exact ⟨fU b5,fU b6,ana,obm,amS,ag6⟩
   .have I:=X.arr _ _ _ hx;have Tj:E.ob.get o=Z (.kB j (S.width (.st n)) (l.map (enc S (.st n))) r m C Y):=by rw[u o (by simp),bf,d];rfl
    have hm1:E.ob.get m=Z (.rws szm (B.map (·.map (enc S N))) C):=by rw[u m (by simp),hm]
    have ZT:szm=S.width N:=by
     have h1:=hrw;unfold Li at h1;split at h1
     .rename_i t0 ajX r0 hq;rcases af h1 with⟨_,h1⟩|⟨_,h1⟩
      .cases h1;rw[bf,hq]at hm;cases hm;rfl
      .cases h1
     .cases h1
    obtain⟨q1,q2,q3,q4⟩:=f.Ar Tj I;obtain⟨hl0,q5,q6,q7⟩:=q4 rfl;simp only[Aj]at q5;have hrow:∀i,i<l.length->∃y K,A.arr m (rc C i)=Z y∧hl0[i]?=Z (.slice y.a y.len y.cap)∧B[i]?=Z K∧vn A w J (S.width N) (K.map (enc S N)) y∧y.sz=S.width N:=by intro i P;obtain⟨y,hy,R⟩:=q7.2 i _ (fN (by omega)) (by simp);obtain⟨k1,K,k2,k3⟩:=(f.oE hm1 hy).2.2 i rfl;rw[gM,eG]at k2;obtain⟨rs0,k4,rfl⟩:=k2;exact⟨y,rs0,hy,by rw[<-R];exact fN _,k4,ZT▸k3,ZT▸k1⟩
    have hex:∀i:Nat,∃y:fE,i<l.length->∃K,A.arr m (rc C i)=Z y∧hl0[i]?=Z (.slice y.a y.len y.cap)∧B[i]?=Z K∧vn A w J (S.width N) (K.map (enc S N)) y∧y.sz=S.width N:=λi=>by
     by_cases P:i<l.length
     .obtain ⟨y,K,h⟩:=hrow i P;exact⟨y,λ_=>⟨K,h⟩⟩
     .exact ⟨⟨Y,0,0,0⟩,λh=>absurd h P⟩
    obtain⟨ys,M⟩:=SH hex;have cJ:∀(i:Nat)(y:fE),((List.range l.length).map ys)[i]?=Z y->i<l.length∧y=ys i:=λi y h=>by rw[gM,eG]at h;obtain⟨k,hk,rfl⟩:=h;obtain⟨rfl,hlt⟩:=oH hk;exact⟨hlt,rfl⟩
    have hrl:l.length<=B.length:=by
     rcases yQ B.length l.length with h|h
     .obtain ⟨_,K,_,_,k,_⟩:=hrow B.length h;have:=aF k;omega
     .exact h
    have hlen:(ja n j N l B).length=l.length:=by simp[ja];omega
    refine⟨_,jg.jw (a:=⟨a,len,cap,sz⟩) (rl:=(List.range l.length).map ys) ⟨hl0,by rw[hlen];exact q5,⟨?_,q1⟩,by rw[hlen];simp,λi y P=>?_,λi y x P hx=>?_,b8⟩ .nil,?_⟩
    .rw[zj hS b8,Es (by simpa using hrl)];exact q6.j4 rfl
    .obtain ⟨h1,rfl⟩:=cJ i y P;obtain⟨_,_,h2,_⟩:=M i h1;exact h2
    .obtain ⟨h1,rfl⟩:=cJ i y P;obtain⟨K,_,_,h3,h4,h5⟩:=M i h1;have hxx:x=Sx n j N (l[i]) K:=by simp only[ja,Jn,h3,fN h1,bg]at hx;exact hx.symm
     rw[hxx,Tw hS b8];exact⟨h4.j4 rfl,h5⟩
    .refine .own I ?_;refine .rows (λy hy=>?_) ?_ .nil
     .obtain ⟨i,P⟩:=HI hy;obtain⟨h1,rfl⟩:=cJ i y P;obtain⟨_,h2,_⟩:=M i h1;exact⟨_,h2⟩
     .refine SJ.2 λi1 i2 l1 l2 hlt b O2 pI=>?_;obtain⟨h1,e1⟩:=cJ i1 _ (fN l1);obtain⟨h2,e2⟩:=cJ i2 _ (fN l2);rw[e1]at O2;rw[e2]at pI;obtain⟨_,k1,_⟩:=M i1 h1;obtain⟨_,k2,_⟩:=M i2 h2;exact(f.oE hm1 k1).2.1 i1 i2 _ _ (by omega) k1 k2 b O2 pI
  |_=>simp[lV]at h
def gx(y:fB S){g:Gh}{w:World}{s:bq S}(hs:bh g (aI s) w):∀{cs:L Ck}{l:L (V S)}{vals:L Value}{x:gA S.A cs}{fz ow:L Nat},gQ s cs l=Z (x,fz,ow)->PW (aM g w) (bn l) vals->
  (∀o∈fz,Live g (aI s) o)∧(∀o∈ow,s.fl<=o∧s.lo<=o∧o<s.aJ∧∃ob,s.ob.get o=Z ob∧PB ob=W)∧∀(m:Gh)(n:St)(e:L Nat),bh m n w->Ext s.fl g w m w->jJ (aI s) n e->(∀o∈fz,o∈e)->(∀o∈ow,n.ob.get o=(aI s).ob.get o)->
   ∃al,jg S m.bB w cs x vals al∧AL m al ow
 |[],[],vals,x,fz,ow,h,i=>by simp only[gQ,bg,bD]at h;obtain⟨_,rfl,rfl⟩:=h;have:vals=[]:=tH (by have:=i.1;simpa[bn]using this.symm);subst this;exact⟨λo d=>(by cases d),λo d=>(by cases d),λ_ _ _ _ _ _ _ _=>⟨[],.nil,.nil⟩⟩
 |c::cs,v::l,vals,x,fz,ow,h,i=>by
  simp only[gQ]at h;split at h
  .rename_i X a1 b1 h1 a2 b2 B C;simp only[bg,bD]at h;obtain⟨rfl,rfl,rfl⟩:=h
   match vals,i with
   |val::vals,i=>have q:aM g w (low v) val:=i.2 0 _ _ rfl rfl;have r:PW (aM g w) (bn l) vals:=⟨by have:=i.1;simpa[bn]using this,λj a b t u=>i.2 (j+1) a b (by simpa[bn]using t) (by simpa using u)⟩;obtain⟨E,F,G⟩:=BH y hs B q;obtain⟨H,I,K⟩:=gx y hs C r;refine⟨λo d=>(ef.1 d).elim (E o) (H o),λo d=>(ef.1 d).elim (F o) (I o),λm n e p z A k f=>?_⟩;obtain⟨M,t,u⟩:=G m n e p z A (λo d=>k o (eL _ d)) (λo d=>f o (eL _ d));obtain⟨N,P,R⟩:=K m n e p z A (λo d=>k o (iX _ d)) (λo d=>f o (iX _ d));exact⟨_,t.append P,u.append R⟩
   |[],i=>exact absurd i.1 (by simp[bn])
  .cases h
 |[],_::_,_,_,_,_,h,_=>by simp[gQ]at h
 |_::_,[],_,_,_,_,h,_=>by simp[gQ]at h
structure Ua(g:Gh)(s:bq S)(w:World)(al:List fE)(g':Gh)(s':bq S):Prop where
 rel:bh g' (aI s') w
 le:n8 g g'
 bB:g'.bB=g.bB
 own:∀k b,bN g' k b->bN g k b∨(s.aJ<=k∧∃a∈al,a.at b)
 fl:s'.fl=s.fl
 lo:s'.lo=s.lo
 aJ:s.aJ<=s'.aJ
 wr:s'.wr=s.wr
 dr:s'.dr=s.dr
 ob:∀o,o<s.aJ->s'.ob.get o=s.ob.get o
 cj:g'.cj=g.cj
 arr:∀o,o<s.aJ->∀e,g'.arr o e=g.arr o e
def Ua.refl{g:Gh}{s:bq S}{w:World}(h:bh g (aI s) w):Ua g s w [] g s:=
 ⟨h,n8.refl _,rfl,λ_ _ h=>.inl h,rfl,rfl,bQ _,rfl,rfl,λ_ _=>rfl,rfl,λ_ _ _=>rfl⟩
def Ua.trans{g g' c:Gh}{s s' d:bq S}{w:World}{al td:L fE}(h:Ua g s w al g' s')(k:Ua g' s' w td c d):Ua g s w (al++td) c d where
 rel:=k.rel
 le:=h.le.trans k.le
 bB:=k.bB.trans h.bB
 own o b f:=by
  rcases k.own o b f with f|⟨h1,a,h2,h3⟩
  .rcases h.own o b f with f|⟨h1,a,h2,h3⟩
   .exact .inl f
   .exact .inr ⟨h1,a,eL _ h2,h3⟩
  .exact .inr ⟨fJ h.aJ h1,a,iX _ h2,h3⟩
 fl:=k.fl.trans h.fl
 lo:=k.lo.trans h.lo
 aJ:=fJ h.aJ k.aJ
 wr:=k.wr.trans h.wr
 dr:=k.dr.trans h.dr
 ob o i:=(k.ob o (dB i h.aJ)).trans (h.ob o i)
 cj:=k.cj.trans h.cj
 arr o i e:=(k.arr o (dB i h.aJ) e).trans (h.arr o i e)
def Qv(s:bq S)(c:Ck)(x:den S.A c.ty):s.aJ<=(tQ s c x).2.aJ:=by cases c with|dat t=>exact bQ _|own e=>exact DP _|jw n j t=>exact Nat.le_succ_of_le (DP _)|nil e=>exact bQ _|ptr t=>exact bQ _
def mQ:∀(cs:L Ck)(s:bq S)(x:gA S.A cs),s.aJ<=(gP s cs x).2.aJ
 |[],_,_=>bQ _
 |c::cs,s,x=>fJ (Qv s c x.1) (mQ cs _ x.2)
def mb:∀{cs:L Ck}{x:gA S.A cs}{vals:L Value}{al:L fE}{g:Gh}{w:World}{s:bq S},jg S g.bB w cs x vals al->bh g (aI s) w->(∀a∈al,∀b,a.at b->∀o,¬bN g o b)->vk al->
  (gP s cs x).2.aJ<=bC->∃g',Ua g s w al g' (gP s cs x).2∧PW (aM g' w) (bn (gP s cs x).1) vals:=by
 intro cs
 induction cs with
 |nil=>intro x vals al g w s h hs _ _ _;cases h;exact⟨g,Ua.refl hs,rfl,λj t v h=>by simp[gP,bn]at h⟩
 |cons c cs ih=>
  intro x vals al g w s h hs q f hn;cases h with
  | @dat t _ x h v vs al hd I=>
   obtain⟨g',F,d⟩:=ih I hs q f hn;refine⟨g',F,by simp only[gP,tQ,bn,eV];rw[d.1],λj N P u A=>?_⟩;cases j with|zero=>simp only[gP,tQ,bn,qO,bg]at u A;subst u;subst A;have:=oz (g:=g) hd;exact this.le F.le|succ j=>exact d.2 j N P (by simpa[gP,tQ,bn]using u) (by simpa using A)
  | @nl e _ h a vs al I=>
   obtain⟨g',F,d⟩:=ih I hs q f hn;refine⟨g',F,by simp only[gP,tQ,bn,eV];rw[d.1],λj N P u A=>?_⟩;cases j with|zero=>simp only[gP,tQ,bn,qO,bg]at u A;subst u;subst A;exact .emp _|succ j=>exact d.2 j N P (by simpa[gP,tQ,bn]using u) (by simpa using A)
  | @ptr t _ x h ad val vs al G hc hd I=>
   obtain⟨g',F,d⟩:=ih I hs q f hn;refine⟨g',F,by simp only[gP,tQ,bn,eV];rw[d.1],λj N P u A=>?_⟩;cases j with|zero=>simp only[gP,tQ,bn,qO,bg]at u A;subst u;subst A;have:aM g w (low (V.mO t x 0)) (.pointer (Z (ad.add 0))):=.mO _ 0 ad val G hc hd;exact this.le F.le|succ j=>exact d.2 j N P (by simpa[gP,tQ,bn]using u) (by simpa using A)
  | @own e _ l h a vs al ho I=>
   have hb0:=mQ cs (dw s (.arr e l 0)) h;have B:s.aJ<bC:=by have h1:(dw s (.arr e l 0)).aJ=s.aJ+1:=rfl;have h2:(gP (dw s (.arr e l 0)) cs h).2.aJ<=bC:=hn;omega
   have hall:=I.iO;have agZ:∀b,a.at b->b<w.heap.size∧∀o,¬bN g o b:=λb z=>⟨(jg.own (S:=S) ho I).lt a eD b z,q a eD b z⟩;obtain⟨u,A,R⟩:=hs.Xp B (sz:=S.width e) (es:=l.map (enc S e)) (x:=a) agZ (ho.1.j4 rfl) ho.2;have hst:(en (aI s) (Ob.arr (S.width e) (l.map (enc S e)) 0)).2=aI (dw s (.arr e l 0)):=(gC s (.arr e l 0)).symm;have e0:(aI s).aJ=s.aJ:=rfl;rw[hst,e0]at u;rw[e0]at A R;rw[vk,List.pairwise_cons]at f;obtain⟨g',F,d⟩:=ih (g:=g.era s.aJ 0 a) (s:=dw s (.arr e l 0)) I u (λy H b z o p=>by
    rcases R o b p with p|⟨_,C⟩
    .exact q y (gO _ H) b z o p
    .exact f.1 y H b C z) f.2 hn
   have Rj:Ua g s w [a] (g.era s.aJ 0 a) (dw s (.arr e l 0)):=by
    refine⟨u,A,rfl,λk b p=>?_,rfl,rfl,DP _,rfl,rfl,λo hlo=>?_,rfl,λo hlo e'=>Gh.cu _ _ _ _ _ _ (λh=>by omega)⟩
    .rcases R k b p with p|⟨h1,h2⟩
     .exact .inl p
     .exact .inr ⟨by omega,a,by simp,h2⟩
    .simp only[dw];rw[Tr.aZ _ _ _ _ B,br (by omega)]
   refine⟨g',Rj.trans F,by simp only[gP,tQ,bn,eV];rw[d.1],λj N P q1 q2=>?_⟩;cases j with|zero=>simp only[gP,tQ,bn,qO,bg]at q1 q2;subst q1;subst q2;have:aM (g.era s.aJ 0 a) w (.sh s.aJ 0) (.slice a.a a.len a.cap):=.sh _ _ _ _ a.sz _ (Gh.fG _ _ _ _);exact this.le F.le|succ j=>exact d.2 j N P (by simpa[gP,tQ,bn]using q1) (by simpa using q2)
  | @jw n j t0 _ l h a E vs al ho I=>
   have hb0:=mQ cs (tQ s (.jw n j t0) l).2 h;have ag8:(tQ s (.jw n j t0) l).2.aJ=s.aJ+2:=rfl;have B:s.aJ+1<bC:=by have h2:(gP (tQ s (.jw n j t0) l).2 cs h).2.aJ<=bC:=hn;omega
   have X:=ho.at_;obtain⟨hl,p1,p2,p3,p4,p5,p6⟩:=ho;rw[<-List.cons_append]at q f;have K:=(rV.1 f).1;rw[List.pairwise_cons]at K;obtain⟨u,A,R⟩:=hs.Xp (by show s.aJ<bC;omega) (sz:=S.width (.st n)) (es:=lits j (l.map (enc S (.st n))) hl) (x:=a) (λb z=>⟨(X a eD b z).2,q a (by simp) b z⟩) (p2.1.j4 rfl) p2.2;have e0:(aI s).aJ=s.aJ:=rfl;rw[e0]at u A R;have e1:(en (aI s) (Ob.arr (S.width (.st n)) (lits j (l.map (enc S (.st n))) hl) 0)).2.aJ=s.aJ+1:=rfl;obtain⟨r1,r2,r3⟩:=u.aek (by rw[e1];exact B) (sz:=S.width t0) (ig:=(l.map (GH n j t0)).map (·.map (enc S t0))) (ys:=E)
    (λy H b z=>⟨(X y (gO _ H) b z).2,λo p=>by
     rcases R o b p with p|⟨_,C⟩
     .exact q y (by simp[H]) b z o p
     .exact K.1 y H b C z⟩)
    (λi y G=>by
     have r:i<l.length:=by rw[<-p3];exact aF G
     have hk:=p5 i y _ G (fN r);exact⟨hk.2,_,by rw[gM,gM,fN r];rfl,hk.1.j4 rfl⟩) K.2
   rw[e1]at r1 r2 r3;have M:∀k,(en (en (aI s) (Ob.arr (S.width (.st n)) (lits j (l.map (enc S (.st n))) hl) 0)).2 (.rws (S.width t0) ((l.map (GH n j t0)).map (·.map (enc S t0))) 0)).2.ob.get k=if k=s.aJ+1 then Z (.rws (S.width t0) ((l.map (GH n j t0)).map (·.map (enc S t0))) 0)else if k=s.aJ then Z (.arr (S.width (.st n)) (lits j (l.map (enc S (.st n))) hl) 0)else(aI s).ob.get k:=λk=>by show(((aI s).ob.set aL s.aJ _).set aL (s.aJ+1) _).get k=_;rw[Tr.aZ _ _ _ _ B,Tr.aZ _ _ _ _ (by omega)]
   have hL:GY ((g.era s.aJ 0 a).gK (s.aJ+1) E) (s.aJ+1) 0 Y hl:=by
    have ZU:∀i v,hl[i]?=Z v->∃r:i<E.length,v=.slice (E[i]).a (E[i]).len (E[i]).cap:=λi v G=>by
     have r:i<E.length:=by rw[p3,<-p1];exact aF G
     have:=p4 i _ (fN r);rw[G]at this;exact⟨r,eO this⟩
    refine⟨λi v G=>let ⟨_,h⟩:=ZU i v G;⟨_,_,_,h⟩,λi v G _=>?_⟩;have r:i<E.length:=by rw[p3,<-p1];exact aF G
    refine⟨E[i],by rw[Gh.uS];exact fN r,?_⟩;have:=p4 i _ (fN r);rw[G]at this;exact eO this
   have u1:=r1.UB (o:=s.aJ) (nj:=j) (es:=l.map (enc S (.st n))) (era:=0) (m:=s.aJ+1) (gL:=0) (hole:=Y) (hl:=hl) (by omega) (by rw[M,br (by omega),bJ rfl]) (by simpa using p1) hL;have u2:bh ((g.era s.aJ 0 a).gK (s.aJ+1) E) (aI (tQ s (.jw n j t0) l).2) w:=by
    refine u1.WB rfl λk=>?_;show(aI (dw (dw s (.kB n j l 0 (Nat.succ s.aJ) 0 Y)) (.rws t0 (xS n j t0 l) 0))).ob.get k=((en _ _).2.ob.set aL s.aJ _).get k;rw[gC,gC,Tr.aZ _ _ _ _ (by omega),M];show(((aI s).ob.set aL s.aJ _).set aL (s.aJ+1) _).get k=_;rw[Tr.aZ _ _ _ _ B,Tr.aZ _ _ _ _ (by omega)];by_cases h1:k=s.aJ
    .subst h1;rw[br (by omega),bJ rfl,bJ rfl];rfl
    .rw[br h1,br h1,br h1];rfl
   have hle:n8 g ((g.era s.aJ 0 a).gK (s.aJ+1) E):=A.trans ⟨λ_ _ h=>h,r2,λ_ h=>h⟩;obtain⟨g',F,d⟩:=ih (g:=(g.era s.aJ 0 a).gK (s.aJ+1) E) (s:=(tQ s (.jw n j t0) l).2) I u2 (λy H b z o p=>by
    rcases r3 o b p with p|⟨_,y',hy',C⟩
    .rcases R o b p with p|⟨_,C⟩
     .exact q y (iX _ H) b z o p
     .exact (rV.1 f).2.2 a (by simp) y H b C z
    .exact (rV.1 f).2.2 y' (by simp[hy']) y H b C z) (rV.1 f).2.1 hn
   have Rj:Ua g s w (a::E) ((g.era s.aJ 0 a).gK (s.aJ+1) E) (tQ s (.jw n j t0) l).2:=by
    refine⟨u2,hle,rfl,λk b p=>?_,rfl,rfl,by rw[ag8];omega,rfl,rfl,λo hlo=>?_,rfl,λo hlo e'=>?_⟩
    .rcases r3 k b p with p|⟨h1,y,H,z⟩
     .rcases R k b p with p|⟨h1,h2⟩
      .exact .inl p
      .exact .inr ⟨by omega,a,by simp,h2⟩
     .exact .inr ⟨by omega,y,by simp[H],z⟩
    .show ((s.ob.set aL s.aJ _).set aL (s.aJ+1) _).get o=_;rw[Tr.aZ _ _ _ _ B,br (by omega),Tr.aZ _ _ _ _ (by omega),br (by omega)]
    .rw[Gh.ia (by omega)];exact Gh.cu _ _ _ _ _ _ (λh=>by omega)
   refine⟨g',by rw[<-List.cons_append];exact Rj.trans F,by have:=d.1;simp only[gP,tQ,bn,eV]at this ⊢;rw[this],λj' N P q1 q2=>?_⟩;cases j' with|zero=>simp only[gP,tQ,bn,qO,bg]at q1 q2;subst q1;subst q2;have:aM ((g.era s.aJ 0 a).gK (s.aJ+1) E) w (.sh s.aJ 0) (.slice a.a a.len a.cap):=.sh _ _ _ _ a.sz _ (by rw[Gh.ia (by omega)];exact Gh.fG _ _ _ _);exact this.le F.le|succ j'=>exact d.2 j' N P (by simpa[gP,tQ,bn]using q1) (by simpa using q2)
def tT{x:den S.A τ}(h:ek g.bB w (enc S τ x) v):aM g w (eH S τ x) v:=by
 cases τ with
 |st n=>
  cases h with|agg _ vs a f b=>refine .agg _ _ (by simpa using a) λj t v h1 h2=>?_;simp only[gM,eG]at h1;obtain⟨c,d,rfl⟩:=h1;exact .sym _ _ (b j c v d h2)
 |int k=>exact .sym _ _ h
 |bool=>exact .sym _ _ h
 |str=>exact .sym _ _ h
 |sl e=>exact .sym _ _ h
 |cR n=>exact .sym _ _ h
def Qx(a:fB S){x:den S.A τ}(h:aM g w (eH S τ x) v):ek g.bB w (enc S τ x) v:=by
 cases τ with
 |st n=>
  cases h with
  |agg _ vs d f=>
   refine .agg _ _ (by simpa using d) (λc b=>?_) λj c v h1 h2=>?_
   .rw[a.cells]at b;exact gW _ _ (a.leaf n) c b
   .have:=f j (.sym c) v (by simp[h1]) h2;cases this with|sym _ _ h=>exact h
 |int k=>cases h with|sym _ _ h=>exact h
 |bool=>cases h with|sym _ _ h=>exact h
 |str=>cases h with|sym _ _ h=>exact h
 |sl e=>cases h with|sym _ _ h=>exact h
 |cR n=>cases h with|sym _ _ h=>exact h
inductive CE(S:Sg)(I:Nat->Prop)(w:World)(nb:Option Nat):(k:Bk)->wg S.A k->Obj->List fE->Prop where
 |cells {cs:List Ck} {x:gA S.A cs} {cv:Array Value} {ty:TypeId} {al:List fE} (h:jg S I w cs x cv.toList al):CE S I w nb (.cells cs) x (.cells cv ty (0,0)) al
 |map {kt vt:Ty} {l:List (den S.A kt×den S.A vt)} {ms:Array MapEntry} {c:Nat} (hl:l.length=ms.size)
   (h:∀(j:Nat)(p:den S.A kt×den S.A vt)(m:MapEntry),l[j]?=Z p->ms[j]?=Z m->ek I w (enc S kt p.1) m.key∧ek I w (enc S vt p.2) m.val):CE S I w nb (.map kt vt) l (.map ms c) []
 |pH {x:List UInt8×Nat}:CE S I w nb .pH x (.stringIter (bK x.1) x.2) []
 |link {pre post:List Ck} {x:gA S.A pre} {y:gA S.A post} {cv:Array Value} {ty:TypeId} {al td:List fE} {vp vq:List Value} {b:Nat} (hn:nb=Z b) (hv:cv.toList=vp++([.pointer (Z ⟨b,0,Y⟩)]++vq))
   (h1:jg S I w pre x vp al) (h2:jg S I w post y vq td):CE S I w nb (.link pre post) (x,y) (.cells cv ty (0,0)) (al++td)
def JF:Bk->Nat->Value
 | .cells _,b=>.pointer (Z ⟨b,0,Y⟩)
 | .map _ _,b=>.map (Z b)
 | .pH,b=>.pointer (Z ⟨b,0,Y⟩)
 | .link _ _,b=>.pointer (Z ⟨b,0,Y⟩)
def JG{v:V S}(h:Cs k v=Z o):v=Tc k o:=by
 cases k with
 |cells cs=>
  cases v with
  |ptr a off=>cases off with|zero=>simp only[Cs,bg]at h;subst h;rfl|succ=>simp[Cs]at h
  |_=>simp[Cs]at h
 |map b c=>cases v<;>simp[Cs]at h;subst h;rfl
 |pH=>cases v<;>simp[Cs]at h;subst h;rfl
 |link pre post=>
  cases v with
  |ptr a off=>cases off with|zero=>simp only[Cs,bg]at h;subst h;rfl|succ=>simp[Cs]at h
  |_=>simp[Cs]at h
def Mp(h:g.cj o=Z b):aM g w (low (Tc k o:V S)) (JF k b):=by cases k with|cells cs=>exact .ptr o 0 b h|map a c=>exact .mp o b h|pH=>exact .rI o b h|link pre post=>exact .ptr o 0 b h
def Ew(h:aM g w (low (Tc k o:V S)) v):∃b,g.cj o=Z b∧v=JF k b:=by
 cases k with
 |cells cs=>cases h with|ptr _ _ b a=>exact⟨b,a,rfl⟩
 |map c d=>cases h with|mp _ b a=>exact⟨b,a,rfl⟩
 |pH=>cases h with|rI _ b a=>exact⟨b,a,rfl⟩
 |link pre post=>cases h with|ptr _ _ b a=>exact⟨b,a,rfl⟩
def rY:wv S->Bool
 | .arr ..|.j8 ..|.kB ..|.rws ..|.gone=>J
 |_=>W
def mU(h:rY ob=W):(cQ ob).oR=J:=by cases ob<;>first|rfl|(simp[rY]at h)
def LV{e:Nat}{x:fE}(h:rY ob=W)(a:tC g w o e x (cQ ob)):False:=by have:=a.oR;rw[mU h]at this;cases this
def Pp{c d a b:Ty}{l:L (den S.A c×den S.A d)}{e:L (den S.A a×den S.A b)}(h:Ca c d a b l=Z e):∃(h1:c=a)(h2:d=b),e=h1▸h2▸l:=by
 unfold Ca at h;split at h
 .split at h
  .simp only[bg]at h;exact⟨fM ‹_›,fM ‹_›,h.symm⟩
  .cases h
 .cases h
def pP(R:fB S)(hs:bh g (aI s) w)(hb:g.cj o=Z b){x:wg S.A k}(h:kq s k (s.ob.get o)=Z (x,fz,ow,nx)) :
  (∃ob,s.ob.get o=Z ob∧rY ob=W)∧∃H,w.heap[b]?=Z H∧
  (∀o∈fz,Live g (aI s) o)∧(∀o∈ow,s.fl<=o∧s.lo<=o∧o<s.aJ∧∃ob,s.ob.get o=Z ob∧PB ob=W)∧∀(u:Gh)(B:St)(q:L Nat),bh u B w->Ext s.fl g w u w->jJ (aI s) B q->(∀o∈fz,o∈q)->(∀o∈ow,B.ob.get o=(aI s).ob.get o)->
   ∀nb,(∀o',nx=Z o'->∃b',nb=Z b'∧u.cj o'=Z b')->∃al,CE S u.bB w nb k x H al∧AL u al ow:=by
 cases f:s.ob.get o with
 |none=>rw[f]at h;cases k<;>simp[kq]at h
 |some ob=>
 rw[f]at h;obtain⟨H,hh,C⟩:=(hs.box o b hb).2.2 (cQ ob) (by rw[bf,f];rfl);cases k with
 |cells cs=>
  cases ob with
  |box vs=>
   refine⟨⟨_,rfl,rfl⟩,H,hh,?_⟩;cases C with
   |box _ y ty I C=>
   simp only[kq]at h;split at h;rotate_left
   .cases h
   rename_i y1 a1 b1 Ti;simp only[bg,bD]at h;obtain⟨rfl,rfl,rfl,rfl⟩:=h;obtain⟨p1,p2,p3⟩:=gx R hs Ti (vals:=y.toList) ⟨by simpa using I,λj t v i r=>C j t v i (by simpa using r)⟩;refine⟨p1,p2,λu B q a b c d e nb _=>?_⟩;obtain⟨al,i,r⟩:=p3 u B q a b c d e;exact⟨al,.cells i,r⟩
  |_=>simp[kq]at h
 |link pre post=>
  cases ob with
  |box vs=>
   refine⟨⟨_,rfl,rfl⟩,H,hh,?_⟩;cases C with
   |box _ y ty I C=>
   simp only[kq]at h;split at h;rotate_left
   .cases h
   rename_i x1 a1 b1 o1 y1 a2 b2 e1 e2 e3;simp only[bg,bD]at h;obtain⟨rfl,rfl,rfl,rfl⟩:=h;rw[bL]at e1 e2 e3;have K:vs.length=y.toList.length:=by rw[<-eW];simpa using I
   have M:∀j t v,vs[j]?=Z t->y.toList[j]?=Z v->aM g w (low t) v:=λj t v i r=>C j _ v (by rw[gp,gM,i];rfl) (by simpa using r);have X:PW (aM g w) (bn (vs.take pre.length)) (y.toList.take pre.length):=by
    refine⟨by rw[eW];simp[K],λj t v i r=>?_⟩;rw[gp,gM,eG]at i;obtain⟨t',i,rfl⟩:=i;rw[v5]at i r;split at i
    .rename_i hj;rw[bJ hj]at r;exact M j t' v i r
    .cases i
   have N:PW (aM g w) (bn (vs.drop (Nat.succ pre.length))) (y.toList.drop (Nat.succ pre.length)):=by refine⟨by rw[eW];simp[K],λj t v i r=>?_⟩;rw[gp,gM,eG]at i;obtain⟨t',i,rfl⟩:=i;rw[DM]at i r;exact M _ t' v i r
   rw[jv]at e2;have hlt:pre.length<y.toList.length:=by rw[<-K];exact(tG.1 e2).1
   have z:=M pre.length _ _ e2 (fN hlt);simp only[low]at z;generalize hvm:y.toList[pre.length]=vm at z;cases z with
   |ptr _ _ b2 pI=>
   have E:y.toList=y.toList.take pre.length++([.pointer (Z ⟨b2,0,Y⟩)]++y.toList.drop (Nat.succ pre.length)):=by have h1:=(HJ pre.length y.toList).symm;rw[QW hlt,hvm]at h1;simpa using h1
   obtain⟨p1,p2,p3⟩:=gx R hs e1 X;obtain⟨q1,q2,q3⟩:=gx R hs e3 N;refine⟨λo f=>(ef.1 f).elim (p1 o) (q1 o),λo f=>(ef.1 f).elim (p2 o) (q2 o),λu B q F P hf G A nb hnb=>?_⟩;obtain⟨zR,i,r⟩:=p3 u B q F P hf (λo f=>G o (eL _ f)) (λo f=>A o (eL _ f));obtain⟨z9,k3,k4⟩:=q3 u B q F P hf (λo f=>G o (iX _ f)) (λo f=>A o (iX _ f));obtain⟨b',O2,hb3⟩:=hnb _ rfl;have:b'=b2:=eO (hb3.symm.trans (P.cj _ _ pI));subst this;exact⟨_,.link O2 E i k3,r.append k4⟩
  |_=>simp[kq]at h
 |map kt vt=>
  cases ob with
  |map k v l=>
   simp only[kq]at h;split at h
   .rename_i l' I;obtain⟨rfl,rfl,hh'⟩:=Pp I;cases hh';simp only[bg,bD]at h;obtain⟨rfl,rfl,rfl,rfl⟩:=h;refine⟨⟨_,rfl,rfl⟩,H,hh,λo f=>(by cases f),λo f=>(by cases f),λu B q F P hf _ _ nb _=>⟨[],?_,.nil⟩⟩;cases C with
    |map _ ms c I C=>
    refine .map (by simpa using I) λj p m h1 h2=>?_;obtain⟨i,r⟩:=C j _ m (by rw[gM,h1];rfl) h2;exact⟨Qx R (i.ext P hs.bB),Qx R (r.ext P hs.bB)⟩
   .cases h
  |_=>simp[kq]at h
 |pH=>
  cases ob with
  |pH bs n=>simp only[kq,bg,bD]at h;obtain⟨rfl,rfl,rfl,rfl⟩:=h;refine⟨⟨_,rfl,rfl⟩,H,hh,λo f=>(by cases f),λo f=>(by cases f),λu B q F P hf _ _ nb _=>⟨[],?_,.nil⟩⟩;cases C;exact .pH (x:=(bs,n))
  |_=>simp[kq]at h
def CE.iO{I:Nat->Prop}{w:World}{nb:O Nat}{k:Bk}{x:wg S.A k}{h:Obj}{al:L fE}(d:CE S I w nb k x h al):∀a∈al,∀b,a.at b->¬I b:=by
 cases d with
 |cells h=>exact h.iO
 |map=>intro a c;cases c
 |pH=>intro a c;cases c
 |link _ _ h1 h2=>intro a c;exact(ef.1 c).elim (h1.iO a) (h2.iO a)
def CG(k:Bk)(s:bq S)(nx:O Nat)(x:wg S.A k):s.aJ<=(gJ s nx k x).2.aJ:=by cases k with|cells cs=>exact mQ cs s x|map a b=>exact bQ _|pH=>exact bQ _|link pre post=>exact fJ (mQ pre s x.1) (mQ post _ x.2)
def n9{x:wg S.A k}(z:CE S g.bB w nb k x h al)(H:∀b',nb=Z b'->∃u,nx=Z u∧g.cj u=Z b')(hs:bh g (aI s) w)(q:∀a∈al,∀b,a.at b->∀o,¬bN g o b)(A:vk al)
  (hn:(gJ s nx k x).2.aJ<=bC):∃g',Ua g s w al g' (gJ s nx k x).2∧g6 g' w (cQ (gJ s nx k x).1) h:=by
 cases z with
 |cells z=>obtain⟨g',hu,B⟩:=mb z hs q A hn;exact⟨g',hu,.box _ _ _ (by simpa using B.1) λj t v d i=>B.2 j t v d (by simpa using i)⟩
 | @map kt vt l ms c hl z=>refine⟨g,Ua.refl hs,.map _ _ _ (by simpa using hl) λj t m h1 h2=>?_⟩;simp only[gM,eG]at h1;obtain⟨p,hp,rfl⟩:=h1;obtain⟨d,i⟩:=z j p m hp h2;exact⟨tT d,tT i⟩
 |pH=>exact⟨g,Ua.refl hs,.pH _ _⟩
 | @link pre post x y cv ty al td vp vq b F hv h1 h2=>
  obtain⟨u,rfl,I⟩:=H b F;have e:=rV.1 A;have K:(gP s pre x).2.aJ<=bC:=fJ (mQ post _ y) hn;obtain⟨g1,f,C⟩:=mb h1 hs (λa G=>q a (eL _ G)) e.1 K;obtain⟨M,r,N⟩:=mb (s:=(gP s pre x).2) (f.bB▸h2) f.rel (λa G b F o P=>by
    rcases f.own o b P with P|⟨_,a2,R,X⟩
    .exact q a (iX _ G) b F o P
    .exact e.2.2 a2 R a G b X F) e.2.1 hn
  refine⟨M,f.trans r,?_⟩;have E:aM M w (low (.ptr u 0:V S)) (.pointer (Z ⟨b,0,Y⟩)):=.ptr u 0 b (by rw[r.cj,f.cj];exact I);have n:PW (aM M w) (bn ((gP s pre x).1++(Q0 (Z u)++(gP (gP s pre x).2 post y).1))) cv.toList:=by
   rw[hv,jx,jx];exact PW.append ⟨C.1,λj t v d i=>(C.2 j t v d i).le r.le⟩ (PW.append ⟨rfl,λj t v d i=>by
    cases j with
    |zero=>simp[bn,Q0]at d i;subst d;subst i;exact E
    |succ j=>simp[bn,Q0]at d⟩ N)
  exact .box _ _ _ (by simpa using n.1) λj t v d i=>n.2 j t v d (by simpa using i)
end
section
def Tr.sr{α:Type}:∀(n:Nat)(t:Tr α)(k j:Nat),k+1<2 ^ n->(Tr.del n t k).get j=if j=k then Y else t.get j
 |0,t,k,j,h=>by simp at h
 |n+1,.nil,k,j,h=>by have:Tr.del (n+1) (.nil:Tr α) k=.nil:=rfl;rw[this,Tr.get_nil];split<;>rfl
 |n+1,.node v l r,0,j,h=>by have:Tr.del (n+1) (.node v l r) 0=.node Y l r:=rfl;rw[this];cases j with|zero=>simp[Tr.fR]|succ j=>rw[Tr.cP,Tr.cP];simp
 |n+1,.node v l r,k+1,j,h=>by
  have b:k/2+1<2 ^ n:=by rw[Nat.pow_succ]at h;omega
  have c:Tr.del (n+1) (.node v l r) (k+1)=if k%2=0 then .node v (Tr.del n l (k/2)) r else .node v l (Tr.del n r (k/2)):=by
   simp only[Tr.del];by_cases h2:k%2=0
   .have:Nat.beq (Nat.mod k 2) 0=W:=by show Nat.beq (k%2) 0=W;rw[h2];rfl
    simp[this,h2];rfl
   .have:Nat.beq (Nat.mod k 2) 0=J:=by
     show Nat.beq (k%2) 0=J;have:k%2=1:=by omega
     rw[this];rfl
    simp[this,h2];rfl
  rw[c];cases j with
  |zero=>split<;>simp[Tr.fR]
  |succ j=>
   by_cases d:k%2=0
   .rw[bJ d,Tr.cP,Tr.cP];by_cases a:j%2=0
    .rw[bJ a,bJ a,Tr.sr n _ _ _ b];have:j/2=k/2↔j+1=k+1:=by omega
     simp[this]
    .rw[br a,br a,br (by omega)]
   .rw[br d,Tr.cP,Tr.cP];by_cases a:j%2=0
    .rw[bJ a,bJ a,br (by omega)]
    .rw[br a,br a,Tr.sr n _ _ _ b];have:j/2=k/2↔j+1=k+1:=by omega
     simp[this]
def Tr.rq{α:Type}:∀(bs:L Nat)(t:Tr α)(j:Nat),(∀b∈bs,b<bC)->(bs.foldl (λt o=>t.del aL o) t).get j=if j∈bs then Y else t.get j
 |[],t,j,_=>by simp
 |b::bs,t,j,h=>by
  rw[BB,Tr.rq bs _ j (λc a=>h c (by simp[a])),Tr.sr _ _ _ _ (by have:=h b (by simp);unfold aL;unfold bC at this;omega)];by_cases h1:j∈bs
  .simp[h1]
  .by_cases h2:j=b<;>simp[h1,h2]
def Tr.oT{α:Type}(f:α->α):∀(t:Tr α)(k:Nat),(t.mapA f).get k=(t.get k).map f
 | .nil,k=>by have:(Tr.nil:Tr α).mapA f=.nil:=rfl;rw[this,Tr.get_nil];rfl
 | .node v l r,0=>by have:(Tr.node v l r).mapA f=.node (match v with|some x=>Z (f x)|none=>Y) (l.mapA f) (r.mapA f):=rfl;rw[this,Tr.fR,Tr.fR];cases v<;>rfl
 | .node v l r,k+1=>by have:(Tr.node v l r).mapA f=.node (match v with|some x=>Z (f x)|none=>Y) (l.mapA f) (r.mapA f):=rfl;rw[this,Tr.cP,Tr.cP,Tr.oT f l,Tr.oT f r];split<;>rfl
def Tr.se{α:Type}(p:α->Bool):∀(t:Tr α)(k:Nat)(x:α),t.get k=Z x->p x=W->k∈t.jz p
 | .nil,k,x,h,_=>by rw[Tr.get_nil]at h;cases h
 | .node v l r,0,x,h,a=>by rw[Tr.fR]at h;subst h;simp[Tr.jz,a]
 | .node v l r,k+1,x,h,a=>by
  rw[Tr.cP]at h;simp only[Tr.jz,ef,tY];by_cases b:k%2=0
  .rw[bJ b]at h;exact .inr (.inl ⟨k/2,Tr.se p l _ x h a,by show 2*(k/2)+1=k+1;omega⟩)
  .rw[br b]at h;exact .inr (.inr ⟨k/2,Tr.se p r _ x h a,by show 2*(k/2)+1+1=k+1;omega⟩)
def Tr.oU{α:Type}(p:α->Bool):∀(t:Tr α)(k:Nat),(t.keep p).get k=(t.get k).filter p
 | .nil,k=>by have:(Tr.nil:Tr α).keep p=.nil:=rfl;rw[this,Tr.get_nil];rfl
 | .node v l r,0=>by have:(Tr.node v l r).keep p=.node (match v with|some x=>bif p x then Z x else Y|none=>Y) (l.keep p) (r.keep p):=rfl;rw[this,Tr.fR,Tr.fR];cases v with|none=>rfl|some x=>cases a:p x<;>simp[Option.filter,a]
 | .node v l r,k+1=>by have:(Tr.node v l r).keep p=.node (match v with|some x=>bif p x then Z x else Y|none=>Y) (l.keep p) (r.keep p):=rfl;rw[this,Tr.cP,Tr.cP,Tr.oU p l,Tr.oU p r];split<;>rfl
mutual
def jQ(os:L Nat):∀v:V S,dJ os (low v)=gX os v
 | .ty t x=>by
  have:∀l:L D,iQ os (l.map .sym)=J:=by
   intro l
   induction l with|nil=>rfl|cons d l e=>simp[iQ,dJ,e]
  cases t<;>simp[low,eH,gX,dJ,this]
 | .kb _=>rfl
 | .kn _ _=>rfl
 | .dat _=>rfl
 | .ptr _ _=>rfl
 | .mO _ _ _=>rfl
 | .kH _ _ _ _=>rfl
 | .sh _ _=>rfl
 | .emp=>rfl
 | .jE _ _ _=>rfl
 | .fn _ a b=>by simp only[low,gX,dJ,oN os a,oN os b]
 | .cR _ v=>by simp only[low,gX,dJ,jQ os v]
 | .agg c=>by simp only[low,gX,dJ,oN os c]
 | .gB c=>by simp only[low,gX,dJ,oN os c]
 | .gd _ v=>by simp only[low,gX,dJ,jQ os v]
 | .mp _=>rfl
 | .rJ _=>rfl
 | .rI _=>rfl
 | .ub _=>rfl
 | .qm _ _ _ _=>rfl
 | .nZ _ _ _=>rfl
def oN(os:L Nat):∀l:L (V S),iQ os (bn l)=nr os l
 |[]=>rfl
 |v::l=>by simp only[bn,iQ,nr,jQ os v,oN os l]
end
def oe:∀t:T,dJ [] t=J:=by
 intro t
 induction t using T.rec (motive_2:=λl=>iQ [] l=J)with|fn f a b d g=>simp[dJ,d,g]|cR t v e=>simp[dJ,e]|agg i e=>simp[dJ,e]|gB i e=>simp[dJ,e]|gd c v e=>simp[dJ,e]|nil=>rfl|cons a l d h=>simp[iQ,d,h]|_=>simp[dJ]
structure pL(lo fl:Nat)(g:Gh)(w:World)(g':Gh)(w':World):Prop where
 cj:∀o b,g.cj o=Z b->g'.cj o=Z b
 arr:∀o e x,o<lo->g.arr o e=Z x->g'.arr o e=Z x
 bB:∀b,g.bB b->g'.bB b
 size:w.heap.size<=w'.heap.size
 heap:∀b,b<w.heap.size->(∀o,fl<=o->¬bN g o b)->w'.heap[b]?=w.heap[b]?
 own:∀o b,fl<=o->bN g' o b->(∃o',fl<=o'∧bN g o' b)∨w.heap.size<=b
 uq:∀b,g'.bB b->g.bB b∨w.heap.size<=b∨∃o,fl<=o∧bN g o b
 os:w'.os=w.os
 output:w'.output=w.output
def pL.trans{lo fl:Nat}{g g' i:Gh}{w w' j:World}(h:pL lo fl g w g' w')(k:pL lo fl g' w' i j):pL lo fl g w i j where
 cj o b e:=k.cj o b (h.cj o b e)
 arr o e x n q:=k.arr o e x n (h.arr o e x n q)
 bB b e:=k.bB b (h.bB b e)
 size:=fJ h.size k.size
 heap b f p:=by
  rw[k.heap b (dB f h.size) (λo l d=>?_),h.heap b f p];rcases h.own o b l d with⟨m,a,c⟩|d
  .exact p m a c
  .omega
 own o b l d:=by
  rcases k.own o b l d with⟨m,a,c⟩|d
  .exact h.own m b a c
  .exact .inr (fJ h.size d)
 uq b f:=by
  rcases k.uq b f with f|f|⟨o,l,d⟩
  .exact h.uq b f
  .exact .inr (.inl (fJ h.size f))
  .rcases h.own o b l d with⟨m,a,c⟩|d
   .exact .inr (.inr ⟨m,a,c⟩)
   .exact .inr (.inl d)
 os:=k.os.trans h.os
 output:=k.output.trans h.output
variable {fl:Nat}{g g':Gh}{w w':World}{s:bq S}{k:Bk}{nx:Option Nat}
def Ext.Ho(lo:Nat)(h:Ext fl g w g' w'):pL lo fl g w g' w':=
 ⟨λo b e=>h.cj o b e,λo e x _ k=>h.arr o e x k,h.bB,h.size,h.heap,λo b a c=>(h.own o b c).imp (λh=>⟨o,a,h⟩) id,h.uq,h.os,h.output⟩
structure cO(ow:List Nat)(s:bq S)(g:Gh)(w:World)(s':bq S)(g':Gh)(w':World):Prop where
 rel:bh g' (aI s') w'
 ext:pL s.lo s.fl g w g' w'
 fl:s'.fl=s.fl
 lo:s'.lo=s.lo
 aJ:s.aJ<=s'.aJ
 vo:∀o∈s.wr,o∈s'.wr
 same:∀o,o<s.aJ->o∉s'.wr->s'.ob.get o=s.ob.get o
 tr:∀t v,aM g w t v->dJ ow t=J->aM g' w' t v
 oww:∀o∈ow,o∈s'.wr
 GO:∀o∈s.dr,o∈s'.dr
 owd:∀o∈ow,o∈s'.dr
inductive pg(S:Sg)(I:Nat->Prop)(w:World):(ps:List Pk)->fZ S.A ps->List Value->List fE->List Nat->Prop where
 |nil:pg S I w [] () [] [] []
 |one {c:Ck} {ps:List Pk} {x:den S.A c.ty} {h:fZ S.A ps} {v:Value} {vs:List Value} {al td:List fE} {bl:List Nat} (h1:jg S I w [c] (x,()) [v] al) (h2:pg S I w ps h vs td bl) :
   pg S I w (.one c::ps) (x,h) (v::vs) (al++td) bl
 |box {k:Bk} {ps:List Pk} {x:wg S.A k} {h:fZ S.A ps} {b:Nat} {hx:Obj} {vs:List Value} {al td:List fE} {bl:List Nat} (hh:w.heap[b]?=Z hx)
   (h1:CE S I w (dK bl) k x hx al) (h2:pg S I w ps h vs td bl):pg S I w (.box k::ps) (x,h) (JF k b::vs) (al++td) (b::bl)
 |hid {k:Bk} {ps:List Pk} {x:wg S.A k} {h:fZ S.A ps} {b:Nat} {hx:Obj} {vs:List Value} {al td:List fE} {bl:List Nat} (hh:w.heap[b]?=Z hx)
   (h1:CE S I w (dK bl) k x hx al) (h2:pg S I w ps h vs td bl):pg S I w (.hid k::ps) (x,h) vs (al++td) (b::bl)
inductive CF(S:Sg)(I:Nat->Prop)(w:World):(ps:List Pk)->iJ S.A ps->List Nat->List fE->Prop where
 |nil:CF S I w [] () [] []
 |one {c:Ck} {ps:List Pk} {r:iJ S.A ps} {bl:List Nat} {al:List fE} (h:CF S I w ps r bl al):CF S I w (.one c::ps) r bl al
 |box {k:Bk} {ps:List Pk} {x:wg S.A k} {r:iJ S.A ps} {b:Nat} {hx:Obj} {bl:List Nat} {al td:List fE} (hh:w.heap[b]?=Z hx)
   (h1:CE S I w (dK bl) k x hx al) (h2:CF S I w ps r bl td):CF S I w (.box k::ps) (x,r) (b::bl) (al++td)
 |hid {k:Bk} {ps:List Pk} {x:wg S.A k} {r:iJ S.A ps} {b:Nat} {hx:Obj} {bl:List Nat} {al td:List fE} (hh:w.heap[b]?=Z hx)
   (h1:CE S I w (dK bl) k x hx al) (h2:CF S I w ps r bl td):CF S I w (.hid k::ps) (x,r) (b::bl) (al++td)
def valOf:L Value->Value
 |[v]=>v
 |l=>.tuple l.toArray
def Dg(S:Sg)(I:Nat->Prop)(w:World)(ps:L Pk)(f:L Ck)(r:gA S.A f×iJ S.A ps)(al:L fE)(bl:L Nat)(v:Value)(w':World):Prop:=∃(e:Nat->Prop)(vs:L Value)(c d:L fE),(∀b,I b->e b)∧(∀b,e b->I b∨w.heap.size<=b∨∃a∈al,a.at b)∧(∀b,e b->b<w'.heap.size)∧w.heap.size<=w'.heap.size∧
   (∀b,b<w.heap.size->b∉bl->(∀a∈al,¬a.at b)->w'.heap[b]?=w.heap[b]?)∧w'.os=w.os∧w'.output=w.output∧v=valOf vs∧
   CF S e w' ps r.2 bl c∧jg S e w' f r.1 vs d∧vk (c++d)∧(∀a∈c++d,∀b,a.at b->(∃g∈al,g.at b)∨w.heap.size<=b)∧(∀b∈bl,¬e b∧∀a∈c++d,¬a.at b)
def vT(S:Sg)(I:Nat->Prop)(w:World)(ps:L Pk)(b:L Ck)(r:Rx (gA S.A b×iJ S.A ps) (den S.A S.pt×iJ S.A ps))(al:L fE)(bl:L Nat):Ending->World->Prop
 | .returned v,w'=>match r with
  | .ok r=>Dg S I w ps b r al bl v w'
  | .dm _=>False
 | .panicked c,w'=>match r with
  | .ok _=>False
  | .dm p=>∃v,c=[{v,recovered:=J}]∧Dg S I w ps [.dat S.pt] ((p.1,()),p.2) al bl v w'
 | .outgrown,_=>False
def bz(P:Program)(f:FuncId)(c:kC S):Prop:=
 mD P f∧∀x r,c.F x=Z r->∀(I:Nat->Prop)(w:World)(vs:Array Value)(al:L fE)(bl:L Nat),pg S I w c.ps x vs.toList al bl->(∀b,I b->b<w.heap.size)->vk al->bl.Nodup->
  (∀b∈bl,b<w.heap.size∧¬I b∧∀a∈al,¬a.at b)->Calls P f vs w (vT S I w c.ps c.rs (RT.res c.pn r) al bl)
def yW(hs:bh g (aI s) w){o b:Nat}(p:g.cj o=Z b){x:wg S.A k}{fz ow:L Nat}(h:kq s k (s.ob.get o)=Z (x,fz,ow,nx)) :
  (∀c,nx=Z c->∃q,g.cj c=Z q)∧∀c,nx=Z c->∃pre post,k=.link pre post:=by
 cases d:s.ob.get o with
 |none=>rw[d]at h;cases k<;>simp[kq]at h
 |some ob=>
 rw[d]at h;obtain⟨t,u,e⟩:=(hs.box o b p).2.2 (cQ ob) (by rw[bf,d];rfl);cases k with
 |link pre post=>
  refine⟨λc f=>?_,λ_ _=>⟨pre,post,rfl⟩⟩;subst f;cases ob with
  |box v=>
   cases e with
   |box _ m ty r e=>
   simp only[kq]at h;split at h;rotate_left
   .cases h
   rename_i y a1 z A B a2 n C i E;simp only[bg,bD]at h;obtain⟨_,_,_,rfl⟩:=h;rw[jv]at i;have j:cC pre<m.size:=by rw[<-r,eW];exact(tG.1 i).1
   have a:=e (cC pre) _ _ (by rw[gp,gM,i];rfl) (oI j);simp only[low]at a;generalize m[cC pre]=F at a;cases a with|ptr _ _ n l=>exact⟨n,l⟩
  |_=>simp[kq]at h
 |cells G=>
  cases ob<;>simp only[kq]at h<;>try(cases h;done)
  split at h
  .simp only[bg,bD]at h;obtain⟨_,_,_,rfl⟩:=h;exact⟨λ_ h=>(by cases h),λ_ h=>(by cases h)⟩
  .cases h
 |map H I=>
  cases ob<;>simp only[kq]at h<;>try(cases h;done)
  split at h
  .simp only[bg,bD]at h;obtain⟨_,_,_,rfl⟩:=h;exact⟨λ_ h=>(by cases h),λ_ h=>(by cases h)⟩
  .cases h
 |pH=>
  cases ob<;>simp only[kq]at h<;>try(cases h;done)
  simp only[bg,bD]at h;obtain⟨_,_,_,rfl⟩:=h;exact⟨λ_ h=>(by cases h),λ_ h=>(by cases h)⟩
def BF{i:Gh}{ps:L Pk}{l:L (V S)}{h:fZ S.A ps}{a b bs bl:L Nat}(m:Et k ps=W)(g:∀c,nx=Z c->∃pre post,k=.link pre post)(e:ej s ps l nx=Z (h,a,b,bs))(d:PW (λo b=>i.cj o=Z b) bs bl) :
  ∀c,nx=Z c->∃f,dK bl=Z f∧i.cj c=Z f:=by
 intro c j;obtain⟨pre,post,rfl⟩:=g c j;subst j
 match ps,m with
 | .hid n::ps,_=>
  simp only[ej]at e;rcases af e with⟨_,e⟩|⟨_,e⟩;rotate_left
  .cases e
  split at e;rotate_left
  .cases e
  split at e;rotate_left
  .cases e
  simp only[bg,bD]at e;obtain⟨_,_,_,rfl⟩:=e
  match bl,d with
  |f::bl,d=>exact⟨f,rfl,d.2 0 _ _ rfl rfl⟩
  |[],d=>exact absurd d.1 (by simp)
def jN(R:fB S){g:Gh}{w:World}{s:bq S}(hs:bh g (aI s) w):∀{ps:L Pk}{l:L (V S)}{vals:L Value}{x:fZ S.A ps}{fz ow bs:L Nat}{C:O Nat},ej s ps l C=Z (x,fz,ow,bs)->PW (aM g w) (bn l) vals->(∀o,C=Z o->∃b,g.cj o=Z b)->
  (∀o∈fz,Live g (aI s) o)∧(∀o∈ow,s.fl<=o∧s.lo<=o∧o<s.aJ∧∃ob,s.ob.get o=Z ob∧PB ob=W)∧(∀o∈bs,s.fl<=o∧∃ob,s.ob.get o=Z ob∧rY ob=W)∧∀(r:Gh)(t:St)(i:L Nat),bh r t w->Ext s.fl g w r w->jJ (aI s) t i->(∀o∈fz,o∈i)->(∀o∈ow,t.ob.get o=(aI s).ob.get o)->
   ∃al bl,pg S r.bB w ps x vals al bl∧AL r al ow∧PW (λo b=>r.cj o=Z b) bs bl
 |[],[],vals,x,fz,ow,bs,_,h,m=>by intro _;simp only[ej,bg,bD]at h;obtain⟨_,rfl,rfl,rfl⟩:=h;have:vals=[]:=tH (by have:=m.1;simpa[bn]using this.symm);subst this;exact⟨λo d=>(by cases d),λo d=>(by cases d),λo d=>(by cases d),λ_ _ _ _ _ _ _ _=>⟨[],[],.nil,.nil,rfl,λj a b h=>by simp at h⟩⟩
 | .one c::ps,v::l,vals,x,fz,ow,bs,_,h,m=>by
  intro _;simp only[ej]at h;split at h
  .rename_i x1 a1 b1 h1 a2 b2 X E F;simp only[bg,bD]at h;obtain⟨rfl,rfl,rfl,rfl⟩:=h
   match vals,m with
   |val::vals,m=>have G:aM g w (low v) val:=m.2 0 _ _ rfl rfl;have H:PW (aM g w) (bn l) vals:=⟨by have:=m.1;simpa[bn]using this,λj a b y z=>m.2 (j+1) a b (by simpa[bn]using y) (by simpa using z)⟩;obtain⟨p1,p2,p3⟩:=BH R hs E G;obtain⟨q1,q2,q4,q3⟩:=jN R hs F H (λo d=>by cases d);refine⟨λo d=>(ef.1 d).elim (p1 o) (q1 o),λo d=>(ef.1 d).elim (p2 o) (q2 o),q4,λr t i n u B f e=>?_⟩;obtain⟨zR,y,z⟩:=p3 r t i n u B (λo d=>f o (eL _ d)) (λo d=>e o (eL _ d));obtain⟨z9,bl,k3,k4,A⟩:=q3 r t i n u B (λo d=>f o (iX _ d)) (λo d=>e o (iX _ d));exact⟨_,bl,.one y k3,z.append k4,A⟩
   |[],m=>exact absurd m.1 (by simp[bn])
  .cases h
 | .box k::ps,v::l,vals,x,fz,ow,bs,C,h,m=>by
  intro _;simp only[ej]at h;split at h
  .rename_i o hkp;obtain rfl:=JG hkp;rcases af h with⟨I,p⟩|⟨_,p⟩
   .clear h;rw[Am]at I;split at p;rotate_left
    .cases p
    rename_i x1 a1 b1 nx E;split at p;rotate_left
    .cases p
    rename_i h1 a2 b2 X F;simp only[bg,bD]at p;obtain⟨rfl,rfl,rfl,rfl⟩:=p
    match vals,m with
    |val::vals,m=>
     have G:aM g w (low (Tc k o)) val:=m.2 0 _ _ rfl rfl;have H:PW (aM g w) (bn l) vals:=⟨by have:=m.1;simpa[bn]using this,λj a b y z=>m.2 (j+1) a b (by simpa[bn]using y) (by simpa using z)⟩;obtain⟨b,q,rfl⟩:=Ew G;obtain⟨p0,hx,hh,p1,p2,p3⟩:=pP R hs q E;obtain⟨K,M⟩:=yW hs q E;obtain⟨q1,q2,q4,q3⟩:=jN R hs F H K;refine⟨λo d=>(ef.1 d).elim (p1 o) (q1 o),λo d=>(ef.1 d).elim (p2 o) (q2 o),λk hk=>?_,λr t i n u B f e=>?_⟩
     .rcases eU.1 hk with rfl|hk
      .exact ⟨fU I.1,p0⟩
      .exact q4 k hk
     .obtain ⟨z9,bl,k3,k4,A⟩:=q3 r t i n u B (λo d=>f o (iX _ d)) (λo d=>e o (iX _ d));obtain⟨zR,y,z⟩:=p3 r t i n u B (λo d=>f o (eL _ d)) (λo d=>e o (eL _ d)) (dK bl) (BF I.2 M F A);refine⟨_,b::bl,.box hh y k3,z.append k4,by simp[A.1],λj a c N P=>?_⟩;cases j with|zero=>simp at N P;subst N;subst P;exact u.cj _ _ q|succ j=>exact A.2 j a c (by simpa using N) (by simpa using P)
    |[],m=>exact absurd m.1 (by simp[bn])
   .cases p
  .cases h
 | .hid k::ps,l,vals,x,fz,ow,bs,Z o,h,m=>by
  intro hp0;simp only[ej]at h;rcases af h with⟨I,p⟩|⟨_,p⟩;rotate_left
  .cases p
  clear h;rw[Am]at I;split at p;rotate_left
  .cases p
  rename_i x1 a1 b1 nx E;split at p;rotate_left
  .cases p
  rename_i h1 a2 b2 X F;simp only[bg,bD]at p;obtain⟨rfl,rfl,rfl,rfl⟩:=p;obtain⟨b,q⟩:=hp0 o rfl;obtain⟨p0,hx,hh,p1,p2,p3⟩:=pP R hs q E;obtain⟨K,M⟩:=yW hs q E;obtain⟨q1,q2,q4,q3⟩:=jN R hs F m K;refine⟨λo d=>(ef.1 d).elim (p1 o) (q1 o),λo d=>(ef.1 d).elim (p2 o) (q2 o),λk hk=>?_,λr t i n u B f e=>?_⟩
  .rcases eU.1 hk with rfl|hk
   .exact ⟨fU I.1,p0⟩
   .exact q4 k hk
  .obtain ⟨z9,bl,k3,k4,A⟩:=q3 r t i n u B (λo d=>f o (iX _ d)) (λo d=>e o (iX _ d));obtain⟨zR,y,z⟩:=p3 r t i n u B (λo d=>f o (eL _ d)) (λo d=>e o (eL _ d)) (dK bl) (BF I.2 M F A);refine⟨_,b::bl,.hid hh y k3,z.append k4,by simp[A.1],λj a c N P=>?_⟩;cases j with|zero=>simp at N P;subst N;subst P;exact u.cj _ _ q|succ j=>exact A.2 j a c (by simpa using N) (by simpa using P)
 |[],_::_,_,_,_,_,_,_,h,_=>by simp[ej]at h
 | .one _::_,[],_,_,_,_,_,_,h,_=>by simp[ej]at h
 | .box _::_,[],_,_,_,_,_,_,h,_=>by simp[ej]at h
 | .hid _::_,_,_,_,_,_,_,Y,h,_=>by simp[ej]at h
end
section
def Gh.drop_nil(g:Gh):g.drop []=g:=by cases g;simp[Gh.drop]
def Ej{os:L Nat}:∀{l:L (V S)},nr os l=J->∀v∈l,gX os v=J
 |[],_,v,b=>by cases b
 |a::l,h,v,b=>by
  simp only[nr,v7]at h;rcases eU.1 b with rfl|b
  .exact h.1
  .exact Ej h.2 v b
def Ei{α:Type}{os:L Nat}:∀{l:L (α×V S)},Jy os l=J->∀p∈l,gX os p.2=J
 |[],_,v,b=>by cases b
 |a::l,h,v,b=>by
  simp only[Jy,v7]at h;rcases eU.1 b with rfl|b
  .exact h.1
  .exact Ei h.2 v b
def CR{p:V S->Bool}{f:V S->V S}(hf:∀v,p v=J->f v=v):∀{t:Tr (V S)},pS p t=J->t.mapA f=t
 | .nil,_=>rfl
 | .node v l r,h=>by simp only[pS,v7]at h;simp only[Tr.mapA,CR hf h.2.1,CR hf h.2.2];cases v with|none=>rfl|some x=>simp only[hf x h.1]
variable {os bl:List Nat}{g:Gh}{w:World}{s:bq S}{vs:List Value}{I:Nat->Prop}{ps:List Pk}{al:List fE}
def AU{v:V S}(h:gX os v=J):o6 os v=v:=by simp only[o6,h,dS]
def Pn{ob:wv S}(h:Ju os ob=J):mP os ob=ob:=by
 cases ob with
 |box b=>simp only[mP,wv.box.injEq];have:∀v∈b,o6 os v=v:=λv c=>AU (Ej h v c);exact(LI this).trans (List.map_id _)
 |GD d l=>
  simp only[mP];have:∀p∈l,((p.1,o6 os p.2):den S.A d×V S)=p:=λp e=>by rw[AU (Ei h p e)]
  rw[(LI this).trans (List.map_id _)]
 |lp l=>simp only[mP,CR (λv=>AU) (show pS (gX os) l.fr.tm=J from h)]
 |kB n j l era m a hole=>have h:os.contains m=J:=h;simp only[mP,h,dS]
 |_=>rfl
def uE(os:L Nat)(v:V S):tq (dJ os) (low v) (low (o6 os v)):=by cases a:gX os v with|true=>exact .inr ⟨_,by simp only[o6,a,cH];rfl⟩|false=>exact .inl ⟨by simp only[o6,a,dS],by rw[jQ];exact a⟩
def IW(os:L Nat)(t:Ty)(x:den S.A t):tq (dJ os) (eH S t x) (eH S t x):=.inl ⟨rfl,jQ (S:=S) os (.ty t x)⟩
def J3(os:L Nat)(ob:wv S):XH os (cQ ob) (cQ (mP os ob)):=by
 cases ob with
 |box o=>refine⟨by simp[eW],λj t u h1 h2=>?_⟩;simp only[gp,gM,eG]at h1 h2;obtain⟨v,b,rfl⟩:=h1;obtain⟨g,⟨d,a,rfl⟩,rfl⟩:=h2;rw[b]at a;cases a;exact uE os v
 |map h q l=>refine⟨rfl,λj t u h1 h2=>?_⟩;rw[h1]at h2;cases h2;simp only[gM,eG]at h1;obtain⟨p,_,rfl⟩:=h1;exact⟨IW os _ _,IW os _ _⟩
 |GD h l=>refine⟨by simp,λj t u h1 h2=>?_⟩;simp only[gM,eG]at h1 h2;obtain⟨v,b,rfl⟩:=h1;obtain⟨g,⟨d,a,rfl⟩,rfl⟩:=h2;rw[b]at a;cases a;exact⟨IW os _ _,uE os _⟩
 |lp l=>refine⟨rfl,rfl,λk u i=>?_⟩;have c:((l.fr.tm.mapA (o6 os)).map low).get k=Z u:=i;rw[Tr.get_map,Tr.oT,HC,eG]at c;obtain⟨v,b,rfl⟩:=c;exact⟨low v,by show(l.fr.tm.map low).get k=_;rw[Tr.get_map,b];rfl,uE os v⟩
 |arr=>rfl
 |j8=>rfl
 |pH=>rfl
 |z8=>rfl
 |rws=>rfl
 |gone=>rfl
 |kB n j l era m f hole=>
  cases e:os.contains m with|true=>exact .inr (by simp only[mP,e,cH];rfl)|false=>exact .inl ⟨by simp only[mP,e,dS];rfl,e⟩
def EO(os:L Nat)(s:bq S)(o:Nat):(forget os s).ob.get o=if os=[]then s.ob.get o else(s.ob.get o).map (mP os):=by cases os with|nil=>rfl|cons a os=>rw[br (by simp)];exact Tr.oT _ _ _
def MG(os:L Nat)(hs:bh g (aI s) w):bh (g.drop os) (aI (forget os s)) w:=by cases os with|nil=>rw[Gh.drop_nil];exact hs|cons a os=>refine hs.drop rfl λo c h=>?_;rw[bf,EO,br (by simp),HC,eG]at h;obtain⟨ob,b,rfl⟩:=h;exact⟨cQ ob,by rw[bf,b];rfl,J3 _ ob⟩
def MF(os:L Nat)(s:bq S)(o:Nat)(h:o∉(forget os s).wr):(forget os s).ob.get o=s.ob.get o:=by
 rw[EO];split
 .rfl
 .rename_i b;cases d:s.ob.get o with
  |none=>rfl
  |some ob=>
   cases c:Ju os ob with
   |true=>
    exfalso;apply h;cases os with|nil=>exact absurd rfl b|cons a os=>exact eL _ (Tr.se _ _ _ _ d c)
   |false=>rw[ee,Pn c]
def TA(os:L Nat)(s:bq S):(forget os s).fl=s.fl∧(forget os s).lo=s.lo∧(forget os s).aJ=s.aJ∧(forget os s).dr=s.dr∧∀o∈s.wr,o∈(forget os s).wr:=by cases os with|nil=>exact⟨rfl,rfl,rfl,rfl,λ_ h=>h⟩|cons a os=>exact⟨rfl,rfl,rfl,rfl,λo h=>iX _ h⟩
def eB:∀{os:L Nat}{s s':bq S},dF s os=Z s'->s'.fl=s.fl∧s'.lo=s.lo∧s'.aJ=s.aJ∧(∀o∈s.wr,o∈s'.wr)∧(∀o,o∉s'.wr->s'.ob.get o=s.ob.get o)∧(∀o,o∉os->s'.ob.get o=s.ob.get o)∧s'.dr=s.dr
 |[],s,s',h=>by simp only[dF,bg]at h;subst h;exact⟨rfl,rfl,rfl,λ_ h=>h,λ_ _=>rfl,λ_ _=>rfl,rfl⟩
 |k::os,s,s',h=>by
  simp only[dF]at h;rcases af h with⟨_,h⟩|⟨_,h⟩
  .split at h
   .obtain ⟨h1,h2,h3,h4,h5,h6,b⟩:=eB h;refine⟨h1,h2,h3,λo a=>h4 o (gO _ a),λo a=>?_,λo a=>?_,b⟩
    .rw[h5 o a];exact Tr.dg _ _ _ _ _ (λe=>a (h4 o (by rw[e];exact eD)))
    .rw[h6 o (λc=>a (gO _ c))];exact Tr.dg _ _ _ _ _ (λe=>a (by rw[e];exact eD))
   .obtain ⟨h1,h2,h3,h4,h5,h6,b⟩:=eB h;exact⟨h1,h2,h3,h4,h5,λo a=>h6 o (λc=>a (gO _ c)),b⟩
   .split at h
    .rename_i m r _ _ _ _ _;rcases af h with⟨d,h⟩|⟨_,h⟩
     .simp only[ec,yM,jL]at d;obtain⟨h1,h2,h3,h4,h5,h6,b⟩:=eB h;refine⟨h1,h2,h3,λo a=>h4 o (gO _ (gO _ a)),λo a=>?_,λo a=>?_,b⟩
      .rw[h5 o a];show((s.ob.set aL _ _).set aL k _).get o=_;rw[Tr.dg _ _ _ _ _ (λe=>a (h4 o (by rw[e];exact eD))),Tr.dg _ _ _ _ _ (λe=>a (h4 o (by rw[e];exact gO _ eD)))]
      .rw[h6 o (λc=>a (gO _ c))];show((s.ob.set aL _ _).set aL k _).get o=_;rw[Tr.dg _ _ _ _ _ (λe=>a (by rw[e];exact eD)),Tr.dg _ _ _ _ _ (λe=>a (by rw[e];exact gO _ d.1))]
     .cases h
    .cases h
   .obtain ⟨h1,h2,h3,h4,h5,h6,b⟩:=eB h;exact⟨h1,h2,h3,h4,h5,λo a=>h6 o (λc=>a (gO _ c)),b⟩
   .obtain ⟨h1,h2,h3,h4,h5,h6,b⟩:=eB h;exact⟨h1,h2,h3,h4,h5,λo a=>h6 o (λc=>a (gO _ c)),b⟩
   .cases h
  .cases h
structure aoN(bs:List Nat)(g:Gh)(s:bq S)(w:World)(al:List fE)(g':Gh)(s':bq S):Prop where
 rel:bh g' (aI s') w
 le:n8 g g'
 bB:g'.bB=g.bB
 own:∀k b,bN g' k b->bN g k b∨(s.aJ<=k∧∃a∈al,a.at b)
 fl:s'.fl=s.fl
 lo:s'.lo=s.lo
 aJ:s.aJ<=s'.aJ
 vo:∀o∈s.wr,o∈s'.wr
 wrb:∀o∈bs,o∈s'.wr
 dr:s'.dr=s.dr
 ob:∀o,o<s.aJ->o∉bs->s'.ob.get o=s.ob.get o
 cj:g'.cj=g.cj
 arr:∀o,o<s.aJ->∀e,g'.arr o e=g.arr o e
def qR:∀{ps:L Pk}{bs:L Nat}{r:iJ S.A ps}{s s':bq S},ko s ps bs r=Z s'->s.aJ<=s'.aJ
 |[],[],r,s,s',h=>by simp only[ko,bg]at h;rw[h];exact bQ _
 | .one c::ps,bs,r,s,s',h=>qR (ps:=ps) (by simpa only[ko]using h)
 | .box a::ps,o::bs,r,s,s',h=>by simp only[ko]at h;have h1:=qR h;exact fJ (CG _ s _ r.1) h1
 | .hid a::ps,o::bs,r,s,s',h=>by simp only[ko]at h;have h1:=qR h;exact fJ (CG _ s _ r.1) h1
 |[],_::_,_,_,_,h=>by simp[ko]at h
 | .box _::_,[],_,_,_,h=>by simp[ko]at h
 | .hid _::_,[],_,_,_,h=>by simp[ko]at h
def zg{bs:L Nat}(h:PW (λo b=>g.cj o=Z b) bs bl):∀a,dK bl=Z a->∃c,dK bs=Z c∧g.cj c=Z a:=by
 intro a d
 match bl,bs,h with
 |b::bl,o::bs,h=>cases d;exact⟨o,rfl,h.2 0 _ _ rfl rfl⟩
 |[],_,_=>cases d
 |_::_,[],h=>exact absurd h.1 (by simp)
def LM:∀{ps:L Pk}{r:iJ S.A ps}{bl:L Nat}{al:L fE}{bs:L Nat}{g:Gh}{w:World}{s s2:bq S},CF S g.bB w ps r bl al->bh g (aI s) w->PW (λo b=>g.cj o=Z b) bs bl->(∀o∈bs,∀e,g.arr o e=Y)->
  (∀a∈al,∀b,a.at b->∀o,¬bN g o b)->vk al->ko s ps bs r=Z s2->s2.aJ<=bC->∃g',aoN bs g s w al g' s2:=by
 intro ps
 induction ps with
 |nil=>
  intro r bl al bs g w s s2 hb G i _ _ _ h _;cases hb;cases bs with|nil=>simp only[ko,bg]at h;subst h;exact⟨g,G,n8.refl _,rfl,λ_ _ h=>.inl h,rfl,rfl,bQ _,λ_ h=>h,λo ho=>(by cases ho),rfl,λ_ _ _=>rfl,rfl,λ_ _ _=>rfl⟩|cons o bs=>exact absurd i.1 (by simp)
 |cons p ps ih=>
  intro r bl al bs g w s s2 hb G i y z I h hn;cases hb with
  |one hb=>simp only[ko]at h;exact ih hb G i y z I h hn
  | @box A _ x r b hx bl al K hh h1 h2=>
   cases bs with
   |nil=>exact absurd i.1 (by simp)
   |cons o bs=>
    simp only[ko]at h;have B:g.cj o=Z b:=i.2 0 _ _ rfl rfl;have n:=rV.1 I;have M:=qR h;have N:(gJ s (dK bs) A x).2.aJ<=bC:=fJ M hn;obtain⟨g1,f,C⟩:=n9 h1 (zg (bs:=bs) (bl:=bl) ⟨by simpa using i.1,λj a c t u=>i.2 (j+1) a c (by simpa using t) (by simpa using u)⟩) G (λa H=>z a (eL _ H)) n.1 N;have P:o<s.aJ:=G.lt B;have hk:=f.rel.sk (o:=o) (b:=b) (by rw[f.cj];exact B) hh C (λe=>by rw[f.arr o P];exact y o (by simp) e);have R:bh g1 (aI {(gJ s (dK bs) A x).2 with ob:=(gJ s (dK bs) A x).2.ob.set aL o (gJ s (dK bs) A x).1,wr:=o::(gJ s (dK bs) A x).2.wr}) w:=by rw[ff];exact hk
    obtain⟨g2,l⟩:=ih (bl:=bl) (al:=K) (bs:=bs) (g:=g1) (f.bB▸h2) R ⟨by simpa using i.1,λj a c t u=>by rw[f.cj];exact i.2 (j+1) a c (by simpa using t) (by simpa using u)⟩
     (λm d e=>by
      have:m<s.aJ:=by
       obtain⟨j,hj,rfl⟩:=tF d;have X:j<bl.length:=by have:=i.1;simp at this;omega
       exact G.lt (i.2 (j+1) bs[j] bl[j] (by simp[hj]) (by simp[X]))
      rw[f.arr m this];exact y m (by simp[d]) e)
     (λa H v E k q=>by
      rcases f.own k v q with q|⟨_,a2,Wy,pI⟩
      .exact z a (iX _ H) v E k q
      .exact n.2.2 a2 Wy a H v pI E) n.2.1 h hn
    refine⟨g2,l.rel,f.le.trans l.le,l.bB.trans f.bB,λk v q=>?_,l.fl.trans f.fl,l.lo.trans f.lo,fJ f.aJ l.aJ,λm d=>?_,λm d=>?_,l.dr.trans f.dr,λm F d=>?_,l.cj.trans f.cj,λm F e=>?_⟩
    .rcases l.own k v q with q|⟨t,a,u,k3⟩
     .rcases f.own k v q with q|⟨t,a,u,k3⟩
      .exact .inl q
      .exact .inr ⟨t,a,eL _ u,k3⟩
     .exact .inr ⟨fJ f.aJ t,a,iX _ u,k3⟩
    .exact l.vo m (gO _ (by rw[f.wr];exact d))
    .rcases eU.1 d with rfl|d
     .exact l.vo _ eD
     .exact l.wrb m d
    .have hne:m≠o:=λe=>d (by rw[e];exact eD);rw[l.ob m (dB F f.aJ) (λhm=>d (gO _ hm))];simp only;rw[Tr.dg _ _ _ _ _ hne];exact f.ob m F
    .rw[l.arr m (dB F f.aJ)];exact f.arr m F e
  | @hid A _ x r b hx bl al K hh h1 h2=>
   cases bs with
   |nil=>exact absurd i.1 (by simp)
   |cons o bs=>
    simp only[ko]at h;have B:g.cj o=Z b:=i.2 0 _ _ rfl rfl;have n:=rV.1 I;have M:=qR h;have N:(gJ s (dK bs) A x).2.aJ<=bC:=fJ M hn;obtain⟨g1,f,C⟩:=n9 h1 (zg (bs:=bs) (bl:=bl) ⟨by simpa using i.1,λj a c t u=>i.2 (j+1) a c (by simpa using t) (by simpa using u)⟩) G (λa H=>z a (eL _ H)) n.1 N;have P:o<s.aJ:=G.lt B;have hk:=f.rel.sk (o:=o) (b:=b) (by rw[f.cj];exact B) hh C (λe=>by rw[f.arr o P];exact y o (by simp) e);have R:bh g1 (aI {(gJ s (dK bs) A x).2 with ob:=(gJ s (dK bs) A x).2.ob.set aL o (gJ s (dK bs) A x).1,wr:=o::(gJ s (dK bs) A x).2.wr}) w:=by rw[ff];exact hk
    obtain⟨g2,l⟩:=ih (bl:=bl) (al:=K) (bs:=bs) (g:=g1) (f.bB▸h2) R ⟨by simpa using i.1,λj a c t u=>by rw[f.cj];exact i.2 (j+1) a c (by simpa using t) (by simpa using u)⟩
     (λm d e=>by
      have:m<s.aJ:=by
       obtain⟨j,hj,rfl⟩:=tF d;have X:j<bl.length:=by have:=i.1;simp at this;omega
       exact G.lt (i.2 (j+1) bs[j] bl[j] (by simp[hj]) (by simp[X]))
      rw[f.arr m this];exact y m (by simp[d]) e)
     (λa H v E k q=>by
      rcases f.own k v q with q|⟨_,a2,Wy,pI⟩
      .exact z a (iX _ H) v E k q
      .exact n.2.2 a2 Wy a H v pI E) n.2.1 h hn
    refine⟨g2,l.rel,f.le.trans l.le,l.bB.trans f.bB,λk v q=>?_,l.fl.trans f.fl,l.lo.trans f.lo,fJ f.aJ l.aJ,λm d=>?_,λm d=>?_,l.dr.trans f.dr,λm F d=>?_,l.cj.trans f.cj,λm F e=>?_⟩
    .rcases l.own k v q with q|⟨t,a,u,k3⟩
     .rcases f.own k v q with q|⟨t,a,u,k3⟩
      .exact .inl q
      .exact .inr ⟨t,a,eL _ u,k3⟩
     .exact .inr ⟨fJ f.aJ t,a,iX _ u,k3⟩
    .exact l.vo m (gO _ (by rw[f.wr];exact d))
    .rcases eU.1 d with rfl|d
     .exact l.vo _ eD
     .exact l.wrb m d
    .have hne:m≠o:=λe=>d (by rw[e];exact eD);rw[l.ob m (dB F f.aJ) (λhm=>d (gO _ hm))];simp only;rw[Tr.dg _ _ _ _ _ hne];exact f.ob m F
    .rw[l.arr m (dB F f.aJ)];exact f.arr m F e
def Dl{l:L (V S)}(h:PW (aM g w) (bn l) vs):aM g w (low (Gs l)) (valOf vs):=by
 match l,vs,h with
 |[],[],_=>exact .gB _ _ rfl (λj t v h=>by simp[bn]at h)
 |[v],[x],h=>exact h.2 0 _ _ rfl rfl
 |v::c::l,x::d::vs,h=>exact .gB _ _ (by simpa using h.1) (λj t u a b=>h.2 j t u a (by simpa using b))
 |[],_::_,h=>exact absurd h.1 (by simp[bn])
 |_::_,[],h=>exact absurd h.1 (by simp[bn])
 |[_],_::_::_,h=>exact absurd h.1 (by simp[bn])
 |_::_::_,[_],h=>exact absurd h.1 (by simp[bn])
def pg.iO{I:Nat->Prop}{w:World}{ps:L Pk}{x:fZ S.A ps}{vs:L Value}{al:L fE}{bl:L Nat}(h:pg S I w ps x vs al bl):∀a∈al,∀b,a.at b->¬I b:=by
 induction h with
 |nil=>intro a c;cases c
 |one h1 h2 e=>
  intro a c b d;rcases ef.1 c with c|c
  .exact h1.iO a c b d
  .exact e a c b d
 |box f h1 h2 e=>
  intro a c b d;rcases ef.1 c with c|c
  .exact h1.iO a c b d
  .exact e a c b d
 |hid f h1 h2 e=>
  intro a c b d;rcases ef.1 c with c|c
  .exact h1.iO a c b d
  .exact e a c b d
def rD{α β:Type}{x:O α}{f:α->O β}{r:β}(h:ai x f=Z r):∃a,x=Z a∧f a=Z r:=by
 unfold ai at h;split at h
 .exact ⟨_,rfl,h⟩
 .cases h
def pg.aoj{x:fZ S.A ps}(h:pg S I w ps x vs al bl):bV ps=W->al=[]∧bl=[]:=by
 induction h with
 |nil=>intro _;exact⟨rfl,rfl⟩
 | @one c ps x h v vs al b bl h1 h2 d=>
  intro a;cases c with
  |own e=>simp[bV]at a
  |jw n j t=>simp[bV]at a
  |nil e=>simp[bV]at a
  |ptr t=>simp[bV]at a
  |dat t=>
   obtain⟨rfl,rfl⟩:=d (by simpa[bV]using a);cases h1 with|dat _ f=>cases f;exact⟨rfl,rfl⟩
 |box=>intro a;simp[bV]at a
 |hid=>intro a;simp[bV]at a
def BG{s:bq S}:∀{ps:L Pk}{l:L (V S)}{c:O Nat}{x:fZ S.A ps}{fz ow bs:L Nat},bV ps=W->ej s ps l c=Z (x,fz,ow,bs)->ow=[]
 |[],[],_,x,fz,ow,bs,_,h=>by simp only[ej,bg,bD]at h;exact h.2.2.1.symm
 | .one (.dat t)::ps,v::l,_,x,fz,ow,bs,a,h=>by
  simp only[ej]at h;split at h
  .rename_i f a1 g h1 a2 i d b e;simp only[bg,bD]at h;obtain⟨_,_,rfl,_⟩:=h;rw[BG (by simpa[bV]using a) e];simp only[lV]at b;split at b
   .simp only[bg,bD]at b;obtain⟨_,_,rfl⟩:=b;rfl
   .cases b
  .cases h
 | .one (.jw ..)::_,_,_,_,_,_,_,a,_=>by simp[bV]at a
 | .one (.nil _)::_,_,_,_,_,_,_,a,_=>by simp[bV]at a
 | .one (.ptr _)::_,_,_,_,_,_,_,a,_=>by simp[bV]at a
 | .one (.own _)::_,_,_,_,_,_,_,a,_=>by simp[bV]at a
 | .box _::_,_,_,_,_,_,_,a,_=>by simp[bV]at a
 | .hid _::_,_,_,_,_,_,_,a,_=>by simp[bV]at a
 |[],_::_,_,_,_,_,_,_,h=>by simp[ej]at h
 | .one _::_,[],_,_,_,_,_,_,h=>by simp[ej]at h
def AR{g:Gh}{I:Nat->Prop}{w w':World}:∀{cs:L Ck}{x:gA S.A cs}{vs:L Value}{al:L fE},rQ cs=W->jg S I w cs x vs al->PW (aM g w') (bn (s5 cs x)) vs
 |[],x,vs,al,_,h=>by cases h;exact⟨rfl,λj t v h=>by simp[bn,s5]at h⟩
 | .dat t::cs,x,vs,al,a,h=>by
  cases h with
  | @dat _ _ y h v vs al b f=>
  simp only[rQ,ec]at a;obtain⟨i,l⟩:=AR (g:=g) (w':=w') a.2 f;refine⟨by simp only[s5,bn,eV];rw[i],λj m o c d=>?_⟩;cases j with
  |zero=>
   simp only[s5,bn,qO,bg]at c d;subst c;subst d;have:ek g.bB w' (enc S t y) v:=by
    cases t with
    |int k=>cases b;exact .lit _
    |bool=>cases b;exact .lit _
    |str=>cases b;exact .lit _
    |sl e=>simp[QI]at a
    |st n=>simp[QI]at a
    |cR n=>simp[QI]at a
   exact oz this
  |succ j=>exact l j m o (by simpa[s5,bn]using c) (by simpa using d)
 | .own _::_,_,_,_,a,_=>by simp[rQ]at a
 | .jw ..::_,_,_,_,a,_=>by simp[rQ]at a
 | .nil _::_,_,_,_,a,_=>by simp[rQ]at a
 | .ptr _::_,_,_,_,a,_=>by simp[rQ]at a
def r6(hS:fB S){g:Gh}{w:World}{s:bq S}(hs:bh g (aI s) w):∀{ps:L Pk}{l:L (V S)}{vals:L Value}{x:fZ S.A ps}{fz:L Nat},j3 s ps l=Z (x,fz)->PW (aM g w) (bn l) vals->
  (∀o∈fz,Live g (aI s) o)∧∀(A:Gh)(C:St)(i:L Nat),bh A C w->Ext s.fl g w A w->jJ (aI s) C i->(∀o∈fz,o∈i)->∃B:Nat->Prop,(∀b,B b->b<w.heap.size)∧∀I:Nat->Prop,(∀b,A.bB b∨B b->I b)->pg S I w ps x vals [] []
 |[],[],vals,x,fz,h,m=>by simp only[j3,bg,bD]at h;obtain⟨_,rfl⟩:=h;have:vals=[]:=tH (by have:=m.1;simpa[bn]using this.symm);subst this;exact⟨λo f=>(by cases f),λ_ _ _ _ _ _ _=>⟨λ_=>False,λ_ h=>h.elim,λ_ _=>.nil⟩⟩
 |[],_::_,_,_,_,h,_=>by simp[j3]at h
 | .one c::_,[],_,_,_,h,_=>by cases c<;>simp[j3]at h
 | .box _::_,[],_,_,_,h,_=>by simp[j3]at h
 | .hid _::_,[],_,_,_,h,_=>by simp[j3]at h
 | .box _::_,_::_,_,_,_,h,_=>by simp[j3]at h
 | .hid _::_,_::_,_,_,_,h,_=>by simp[j3]at h
 | .one (.own _)::_,_::_,_,_,_,h,_=>by simp[j3]at h
 | .one (.jw ..)::_,_::_,_,_,_,h,_=>by simp[j3]at h
 | .one (.nil _)::_,_::_,_,_,_,h,_=>by simp[j3]at h
 | .one (.dat t)::ps,v::l,[],x,fz,_,m=>absurd m.1 (by simp[bn])
 | .one (.ptr t)::ps,v::l,[],x,fz,_,m=>absurd m.1 (by simp[bn])
 | .one (.dat t)::ps,v::l,val::vals,x,fz,h,m=>by
  simp only[j3]at h;split at h;rotate_left
  .cases h
  rename_i y os y2 os2 h1 h2;simp only[bg,bD]at h;obtain⟨rfl,rfl⟩:=h;have q:aM g w (low v) val:=m.2 0 _ _ rfl rfl;have M:PW (aM g w) (bn l) vals:=⟨by have:=m.1;simpa[bn]using this,λj a b k1 k2=>m.2 (j+1) a b (by simpa[bn]using k1) (by simpa using k2)⟩;obtain⟨p,hd,hp⟩:=oA hS s t v h1;obtain⟨q1,q2⟩:=kO hs (low v) hd hp q;obtain⟨q3,q4⟩:=r6 hS hs h2 M;refine⟨λo f=>(ef.1 f).elim (q1 o) (q3 o),λA C i k F N d=>?_⟩;obtain⟨B,hB,hr⟩:=q4 A C i k F N (λo f=>d o (iX _ f));have hx:=q2 A C k F (N.sub λo f=>d o (eL _ f));exact⟨B,hB,λI E=>pg.one (al:=[]) (.dat (hx.le λb H=>E b (.inl H)) .nil) (hr I E)⟩
 | .one (.ptr t)::ps,v::l,val::vals,x,fz,h,m=>by
  simp only[j3]at h;split at h;rotate_left
  .cases h
  rename_i y os y2 os2 h1 h2;simp only[bg,bD]at h;obtain⟨rfl,rfl⟩:=h;have q:aM g w (low v) val:=m.2 0 _ _ rfl rfl;have M:PW (aM g w) (bn l) vals:=⟨by have:=m.1;simpa[bn]using this,λj a b k1 k2=>m.2 (j+1) a b (by simpa[bn]using k1) (by simpa using k2)⟩;obtain⟨q3,q4⟩:=r6 hS hs h2 M;unfold abe at h1;split at h1
  .rename_i u z;split at h1;rotate_left
   .cases h1
   rename_i z' hz;simp only[bg,bD]at h1;obtain⟨rfl,rfl⟩:=h1;obtain⟨rfl,hz⟩:=Iw hz;cases hz;simp only[low]at q;cases q with
   |mO _ _ ad vv hi hc hd=>
   refine⟨λo f=>q3 o (by simpa using f),λA C i k F N d=>?_⟩;obtain⟨B,hB,hr⟩:=q4 A C i k F N (λo f=>d o (by simpa using f));exact⟨B,hB,λI E=>pg.one (al:=[]) (.ptr (E _ (.inl (F.bB _ hi))) hc (λj c r=>(hd j c r).le λb H=>E _ (.inl (F.bB _ H))) .nil) (hr I E)⟩
  .rename_i o;split at h1;rotate_left
   .cases h1
   rename_i cs f;rcases af h1 with⟨hst,h1⟩|⟨_,h1⟩;rotate_left
   .cases h1
   simp only[low]at q;cases q with
   |ptr _ _ b H=>
   have ho':(aI s).ob.get o=Z (.box (bn cs)):=by rw[bf,f];rfl
   obtain⟨vs,ty,P,hl,R⟩:=(hs.box o b H).box ho';have Ts:aM g w (low (.agg cs)) (.agg vs):=by simp only[low];exact .agg _ _ hl R
   obtain⟨p,hd,hp⟩:=oA hS s t (.agg cs) h1;obtain⟨q1,q2⟩:=kO hs _ hd hp Ts;refine⟨λo f=>(ef.1 f).elim (q1 o) (q3 o),λA C i k F N d=>?_⟩;obtain⟨B,hB,hr⟩:=q4 A C i k F N (λo f=>d o (iX _ f));have hx:=q2 A C k F (N.sub λo f=>d o (eL _ f));refine⟨λb'=>B b'∨b'=b,λb' X=>X.elim (hB b') λe=>by rw[e];exact(hs.box o b H).2.1,λI E=>pg.one (al:=[]) ?_ (hr I λb' X=>E b' (X.imp id .inl))⟩;cases t with
   |st n=>
    have hx':∃l,enc S (.st n) y=.agg l:=⟨_,rfl⟩;obtain⟨l,hl'⟩:=hx';rw[hl']at hx;cases hx with
    |agg _ _ e1 e2 e3=>
    have K:∀j,(⟨b,0,Y⟩:Addr).add j=⟨b,j,Y⟩:=λj=>by
     unfold Addr.add;split
     .rename_i e;rw[e]
     .simp
    have:=jg.ptr (S:=S) (I:=I) (w:=w) (t:=.st n) (cs:=[]) (x:=y) (h:=()) (ad:=⟨b,0,Y⟩) (val:=λj=>(vs[j]?).getD undef) (vs:=[]) (al:=[]) (E _ (.inr (.inr rfl))) (λj c r=>?_) (λj c r=>?_) .nil
    .rw[K]at this;exact this
    .rw[hl']at r;have r:l[j]?=Z c:=r;have G:j<vs.size:=by rw[<-e1];exact(tG.1 r).1
     rw[K,cell?_of_block P,oI G];rfl
    .rw[hl']at r;have r:l[j]?=Z c:=r;have G:j<vs.size:=by rw[<-e1];exact(tG.1 r).1
     have:=e3 j c vs[j] r (oI G);rw[oI G];exact this.le λb H=>E b (.inl H)
   |_=>cases hst
  .cases h1
def BT(hS:fB S){P:Program}{f:FuncId}{c:kC S}(Tm:bz P f c)(hs:bh g (aI s) w){args:L (V S)}{vs:Array Value}(nV:PW (aM g w) (bn args) vs.toList)
  {ω:Type} {kp:V S->bq S->O ω} {k:V S->bq S->L Nat->O ω} {res:ω} (h:MQ s c args kp k=Z res) :
  mD P f∧Calls P f vs w λ
   | .returned v,w'=>∃t s' g' C,k t s' C=Z res∧aM g' w' (low t) v∧cO C s g w s' g' w'
   | .panicked ch,w'=>∃v t s' g',ch=[{v,recovered:=J}]∧kp t s'=Z res∧aM g' w' (low t) v∧cO [] s g w s' g' w'
   | .outgrown,_=>False:=by
 unfold MQ at h;rcases af h with⟨_,h0⟩|⟨_,h0⟩
 .clear h;unfold WJ at h0;rcases af h0 with⟨hc,h1⟩|⟨_,h1⟩;rotate_left
  .cases h1
  clear h0;simp only[ec]at hc;split at h1
  .cases h1
  rename_i x fz hpk;split at h1
  .cases h1
  rename_i K hfz;obtain⟨p1,p2⟩:=r6 hS hs hpk nV;obtain⟨z,u,E,hfr⟩:=ey fz hs (dc hS _ hfz) p1;obtain⟨B,hB,F⟩:=p2 z (aI K) fz u E hfr (λo q=>q);obtain⟨r0,hF,h2⟩:=rD h1;split at h2;rotate_left
  .cases h2
  rename_i r hr;refine⟨Tm.1,(Tm.2 x r0 hF (λb=>z.bB b∨B b) w vs [] [] (F _ λ_ h=>h) (λb l=>l.elim (u.bB b) (hB b)) .nil .nil (λb l=>by cases l)).mono λe w' M=>?_⟩;rw[hr]at M;cases e with|outgrown=>exact M.elim|panicked ch=>exact M.elim|returned v=>obtain⟨I',vr,zR,z9,q1,q2,q3,q4,q5,q6,q7,rfl,q8,q9,_⟩:=M;have Wl:∀b,b<w.heap.size->w'.heap[b]?=w.heap[b]?:=λb l=>q5 b l (by simp) (by simp);obtain⟨hs',he'⟩:=hs.grow (fl:=s.fl) (I:=g.bB) (w':=w') (λ_ h=>h) (λ_ h=>.inl h) (λb l=>dB (hs.bB b l) q4) q4 Wl q6 q7;exact⟨_,s,g,[],h2,Dl (AR hc.2.1 q9),hs',he'.Ho _,rfl,rfl,bQ _,λ_ h=>h,λ_ _ _=>rfl,λt v ht _=>ht.ext he' hs.bB,λo q=>(by cases q),λ_ h=>h,λo q=>(by cases q)⟩
 clear h;have h:=h0;clear h0;split at h
 .cases h
 rename_i x fz C bs hpk;split at h
 .cases h
 rename_i K hfz;rcases af h with⟨Rk,h2⟩|⟨_,h⟩
 .obtain ⟨p1,_,_,p3⟩:=jN hS hs hpk nV (λo q=>by cases q);obtain⟨z,u,E,hfr⟩:=ey fz hs (dc hS _ hfz) p1;simp only[VT,ec]at Rk;obtain⟨f1,f2,f3,f4,f5,f6,f7⟩:=eB hfz;obtain⟨al,bl,F,_,_⟩:=p3 z (aI K) fz u E hfr (λo q=>q) (λo q=>by rw[BG Rk.1 hpk]at q;cases q);obtain⟨rfl,rfl⟩:=F.aoj Rk.1;clear h;obtain⟨r0,hF,h2⟩:=rD h2;split at h2;rotate_left
  .cases h2
  rename_i r hr;refine⟨Tm.1,(Tm.2 x r0 hF z.bB w vs [] [] F u.bB .nil .nil (λb l=>by cases l)).mono λe w' M=>?_⟩;rw[hr]at M;cases e with|outgrown=>exact M.elim|panicked ch=>exact M.elim|returned v=>obtain⟨I',vr,zR,z9,q1,q2,q3,q4,q5,q6,q7,rfl,q8,q9,_⟩:=M;have Wl:∀b,b<w.heap.size->w'.heap[b]?=w.heap[b]?:=λb l=>q5 b l (by simp) (by simp);obtain⟨hs',he'⟩:=hs.grow (fl:=s.fl) (I:=g.bB) (w':=w') (λ_ h=>h) (λ_ h=>.inl h) (λb l=>dB (hs.bB b l) q4) q4 Wl q6 q7;refine⟨_,s,g,[],h2,Dl (AR Rk.2.1 q9),hs',he'.Ho _,rfl,rfl,bQ _,λ_ h=>h,λ_ _ _=>rfl,λt v ht _=>ht.ext he' hs.bB,λo q=>(by cases q),λ_ h=>h,λo q=>(by cases q)⟩
 rcases af h with⟨l,h2⟩|⟨_,h2⟩;rotate_left
 .cases h2
 clear h;simp only[ec]at l;have adv:=mh l.1;have am6:=mh l.2.1;have hap:=xY l.2.2;unfold ai at h2;split at h2;rotate_left
 .cases h2
 rename_i r hF;dsimp only at h2;obtain⟨p1,p2,p4,p3⟩:=jN hS hs hpk nV (λo q=>by cases q);have hfl:=dc hS _ hfz;obtain⟨z,u,E,hfr⟩:=ey fz hs hfl p1;obtain⟨f1,f2,f3,f4,f5,f6,f7⟩:=eB hfz;obtain⟨al,bl,F,hal,Uq⟩:=p3 z (aI K) fz u E hfr (λo q=>q) (λo q=>by rw[bf,bf,f6 o (hap o q)]);have aby:∀o∈bs,∃ob,K.ob.get o=Z ob∧rY ob=W:=by
  intro o q;obtain⟨_,Yu,R,NX⟩:=p4 o q;have hnf:o∉fz:=λhm=>by have:=(p1 o hm).oR (by rw[bf,R];rfl);rw[mU NX]at this;cases this
  exact⟨Yu,by rw[f6 o hnf];exact R,NX⟩
 have adw:∀o∈bs,∀e,z.arr o e=Y:=by intro o q e;obtain⟨vs',R,NX⟩:=aby o q;cases hx:z.arr o e with|none=>rfl|some x'=>exfalso;obtain⟨_,h2⟩:=u.arr o e x' hx;exact LV NX (h2 _ (by rw[bf,R];rfl))
 have hni:∀a∈al,∀b,a.at b->¬z.bB b:=F.iO;have Tq:=hal.owned hni;have ahu:=hal.apart u adv hni;have adN:∀b∈bl,∃o∈bs,z.cj o=Z b:=by
  intro b l;obtain⟨j,hj,rfl⟩:=tF l;have hj':j<bs.length:=by have:=Uq.1;omega
  exact⟨bs[j],Gx hj',Uq.2 j _ _ (fN hj') (fN hj)⟩
 have anz:∀o∈bs,∃b∈bl,z.cj o=Z b:=by
  intro o q;obtain⟨j,hj,rfl⟩:=tF q;have hj':j<bl.length:=by have:=Uq.1;omega
  exact⟨bl[j],Gx hj',Uq.2 j _ _ (fN hj) (fN hj')⟩
 have hOb:∀o b,z.cj o=Z b->bN z o b:=λo b h=>⟨(u.box o b h).1,.inl h⟩;have anA:bl.Nodup:=by
  refine SJ.2 λi j hi hj hij heq=>?_;have hlen:=Uq.1;have hi':i<bs.length:=by omega
  have hj':j<bs.length:=by omega
  have e1:=Uq.2 i _ _ (fN hi') (fN hi);have e2:=Uq.2 j _ _ (fN hj') (fN hj);rw[<-heq]at e2;exact(SJ.1 am6 i j hi' hj' hij) (u.l9 _ _ _ (hOb _ _ e1) (hOb _ _ e2))
 have adO:∀b∈bl,b<w.heap.size∧¬z.bB b∧∀a∈al,¬a.at b:=by intro b l;obtain⟨o,q,N⟩:=adN b l;refine⟨(u.box o b N).2.1,(u.box o b N).1,λa H CV=>?_⟩;obtain⟨o',ho',hO'⟩:=Tq a H b CV;have:=u.l9 o o' b (hOb o b N) hO';subst this;obtain⟨vs',R,NX⟩:=aby o q;obtain⟨_,_,_,oba,amU,hB⟩:=p2 o ho';rw[f6 o (hap o ho')]at R;have R:s.ob.get o=Z vs':=R;rw[amU]at R;cases R;have:=sK hB;rw[mU NX]at this;cases this
 have core:∀(rs:L Ck)(r:gA S.A rs×iJ S.A c.ps)(s2:bq S),ko (Is bs (forget C {K with wr:=C++K.wr,dr:=C++K.dr})) c.ps bs r.2=Z s2->(gP s2 rs r.1).2.aJ<=bC->∀(v:Value)(w':World),Dg S z.bB w c.ps rs r al bl v w'->
   ∃g',aM g' w' (low (Gs (gP s2 rs r.1).1)) v∧cO C s g w (gP s2 rs r.1).2 g' w':=by
  clear h2;intro rs r s2 hput anb v w' M;obtain⟨I',vr,zR,z9,q1,q2,q3,q4,q5,q6,q7,rfl,q8,q9,q10,q11,q12⟩:=M
  let sF:bq S:=forget C {K with wr:=C++K.wr,dr:=C++K.dr}
  let sD:bq S:=Is bs sF
  obtain⟨t1,t2,t3,t5,t4⟩:=TA C {K with wr:=C++K.wr,dr:=C++K.dr};have adn:bh z (aI {K with wr:=C++K.wr,dr:=C++K.dr}) w:=u;have hsF:bh (z.drop C) (aI sF) w:=MG C adn;have anx:∀o∈bs,o<K.aJ:=λo q=>by obtain⟨b,_,l⟩:=anz o q;exact u.lt l
  have hnob1:K.aJ<=bC:=u.aJ;have Wn:∀o,sD.ob.get o=if o∈bs then Y else sF.ob.get o:=λo=>Tr.rq bs _ o (λb l=>by have:=anx b l;omega)
  have hsD:bh (z.drop C) (aI sD) w:=by
   have hsub:∀o ob,(aI sD).ob.get o=Z ob->(aI sF).ob.get o=Z ob:=by
    intro o ob h;rw[bf,Wn]at h;split at h
    .cases h
    .rw[bf];exact h
   refine⟨hsF.aJ,hsF.ai,λo b h=>?_,λo e x h=>?_,hsF.bB,hsF.l9⟩
   .obtain ⟨k1,k2,k3⟩:=hsF.box o b h;exact⟨k1,k2,λob N=>k3 ob (hsub o ob N)⟩
   .obtain ⟨k1,k2⟩:=hsF.arr o e x h;exact⟨k1,λob N=>k2 ob (hsub o ob N)⟩
  let X:Nat->Prop:=λb=>b∈bl∨∃a∈al,a.at b
  have O0:∀o b,bN (z.drop C) o b->bN z o b:=λo b h=>Gh.xP h;have abz:∀a∈al,∀b,a.at b->∀o,¬bN (z.drop C) o b:=by
   intro a H b l o A;obtain⟨o',ho',hO'⟩:=Tq a H b l;have:=u.l9 o o' b (O0 o b A) hO';subst this;obtain⟨_,h|⟨e,x',ad,h,_⟩⟩:=A
   .have h:z.cj o=Z b:=h;obtain⟨_,_,_,oba,N,hB⟩:=p2 o ho';have hnb:=u.y6 (o:=o) (ob:=cQ oba) ((bf K o).trans (by rw[f6 o (hap o ho'),N];rfl)) (sK hB);rw[hnb]at h;cases h
   .exact (Gh.E6 h).1 ho'
  have hstep:bh {z.drop C with bB:=I'} (aI sD) w':=by
   refine hsD.step (X:=X) q1 (λb l=>?_) q3 q4 (λb l hX=>q5 b l (λh=>hX (.inl h)) (λa H h=>hX (.inr ⟨a,H,h⟩))) (λo b hX A=>?_) (λb hX=>?_)
   .rcases q2 b l with h|h|h
    .exact .inl h
    .exact .inr (.inl h)
    .exact .inr (.inr (.inr h))
   .rcases hX with hX|⟨a,H,G⟩
    .obtain ⟨o',ho',amW⟩:=adN b hX;have:=u.l9 o o' b (O0 o b A) (hOb _ _ amW);subst this;exact⟨by rw[bf,Wn,bJ ho'];rfl,(q12 b hX).1⟩
    .exact absurd A (abz a H b G o)
   .rcases hX with hX|⟨a,H,G⟩
    .exact (adO b hX).2.1
    .exact hni a H b G
  have abp:∀o b,bN ({z.drop C with bB:=I'}:Gh) o b->bN (z.drop C) o b:=λo b h=>⟨λhi=>h.1 (q1 b hi),h.2⟩;have hfresh:∀a∈zR++z9,∀b,a.at b->∀o,¬bN ({z.drop C with bB:=I'}:Gh) o b:=by
   intro a H b l o A;have A:=abp o b A;rcases q11 a H b l with⟨a',ha',hb'⟩|hge
   .exact abz a' ha' b hb' o A
   .have:=(hsD.qT A).1;omega
  have adT:=rV.1 q10;have hs3n:s2.aJ<=(gP s2 rs r.1).2.aJ:=mQ _ _ _;obtain⟨g4,hp⟩:=LM (g:={z.drop C with bB:=I'}) (s:=sD) q8 hstep Uq (λo q e=>by
    show(if o∈C then Y else z.arr o e)=Y;split
    .rfl
    .exact adw o q e) (λa H=>hfresh a (eL _ H)) adT.1 hput (by omega)
  obtain⟨g5,hu,amJ⟩:=mb (g:=g4) (by rw[hp.bB];exact q9) hp.rel (λa H b l o A=>by
    rcases hp.own o b A with A|⟨_,a2,Wy,pI⟩
    .exact hfresh a (iX _ H) b l o A
    .exact adT.2.2 a2 Wy a H b pI l) adT.2.1 anb
  have hle:n8 ({z.drop C with bB:=I'}:Gh) g5:=hp.le.trans hu.le;have abv:g5.bB=I':=hu.bB.trans hp.bB;have hnobD:sD.aJ=K.aJ:=t3;have amZ:K.aJ<=(gP s2 rs r.1).2.aJ:=by have:=hp.aJ;omega
  have ag3:∀k b,bN g5 k b->bN g k b∨(s.fl<=k∧∃o',s.fl<=o'∧bN g o' b)∨w.heap.size<=b:=by
   intro k b A;have abr:∀a∈zR++z9,a.at b->K.aJ<=k->bN g k b∨(s.fl<=k∧∃o',s.fl<=o'∧bN g o' b)∨w.heap.size<=b:=by
    intro a H G hk';rcases q11 a H b G with⟨a',ha',hb'⟩|hge
    .obtain ⟨o',ho',hO'⟩:=Tq a' ha' b hb';rcases E.own o' b hO' with hO'|hge
     .have ZY:=p2 o' ho';exact .inr (.inl ⟨by omega,o',ZY.1,hO'⟩)
     .exact .inr (.inr hge)
    .exact .inr (.inr hge)
   rcases hu.own k b A with A|⟨h1,a,H,G⟩
   .rcases hp.own k b A with A|⟨h1,a,H,G⟩
    .rcases E.own k b (O0 k b (abp k b A))with A|hge
     .exact .inl A
     .exact .inr (.inr hge)
    .exact abr a (eL _ H) G (by omega)
   .have:=hp.aJ;exact abr a (iX _ H) G (by omega)
  refine⟨g5,Dl amJ,hu.rel,⟨λo b l=>?_,λo e y hl hy=>?_,λb l=>?_,q4,λb l hno=>?_,λo b q A=>?_,λb l=>?_,q6,q7⟩,?_,?_,?_,λo q=>?_,λo hl q=>?_,λt v ht hm=>?_,λo q=>?_,λo q=>?_,λo q=>?_⟩
  .rw[hu.cj,hp.cj];exact E.cj o b l
  .have hno:o∉C:=λhm=>by have:=(p2 o hm).2.1;omega
   have h1:({z.drop C with bB:=I'}:Gh).arr o e=Z y:=by show(if o∈C then Y else z.arr o e)=Z y;rw[br hno];exact E.arr o e y hy
   exact hle.arr o e y h1
  .rw[abv];exact q1 b (E.bB b l)
  .refine q5 b l (λhm=>?_) (λa H G=>?_)
   .obtain ⟨o,q,N⟩:=adN b hm;rcases E.own o b (hOb o b N)with A|hge
    .exact hno o (p4 o q).1 A
    .omega
   .obtain ⟨o,q,A⟩:=Tq a H b G;rcases E.own o b A with A|hge
    .exact hno o (p2 o q).1 A
    .omega
  .rcases ag3 o b A with h|⟨_,h⟩|h
   .exact .inl ⟨o,q,h⟩
   .exact .inl h
   .exact .inr h
  .rw[abv]at l;rcases q2 b l with h|h|⟨a,H,G⟩
   .exact E.uq b h
   .exact .inr (.inl h)
   .obtain ⟨o,q,A⟩:=Tq a H b G;rcases E.own o b A with A|hge
    .exact .inr (.inr ⟨o,(p2 o q).1,A⟩)
    .exact .inr (.inl hge)
  .exact hu.fl.trans (hp.fl.trans (t1.trans f1))
  .exact hu.lo.trans (hp.lo.trans (t2.trans f2))
  .omega
  .rw[hu.wr];exact hp.vo o (t4 o (iX _ (f4 o q)))
  .rw[hu.wr]at q;have h1:o∉bs:=λhm=>q (hp.wrb o hm);have h2:o∉sF.wr:=λhm=>q (hp.vo o hm);have h3:o∉K.wr:=λhm=>h2 (t4 o (iX _ hm));rw[hu.ob o (by have:=hp.aJ;omega),hp.ob o (by omega) h1,Wn,br h1,MF _ _ _ h2];exact f5 o h3
  .have h1:=ht.ext E hs.bB;have h2:=h1.drop hm;have hkp:tu (z.drop C).bB w w':=λb l=>q5 b (u.bB b l) (λhmm=>(adO b hmm).2.1 l) (λa H G=>hni a H b G l);have h3:aM ({z.drop C with bB:=I'}:Gh) w' t v:=by
    clear hm h1 ht
    induction h2 with|sym d v hd=>exact .sym d v (hd.mono hkp q1)|kb b=>exact .kb b|kn k n=>exact .kn k n|ptr o off b l=>exact .ptr o off b l|mO d off ad val Tk hc hd=>exact .mO d off ad val (q1 _ Tk) (λj c hj=>by rw[hkp.cell (by rw[kW];exact Tk)];exact hc j c hj) (λj c hj=>(hd j c hj).mono hkp q1)|kH o e i off len cap sz ad hx=>exact .kH o e i off len cap sz ad hx|sh o e len cap sz a hx=>exact .sh o e len cap sz a hx|emp a=>exact .emp a|jE n es a hn hd=>exact .jE n es a hn (hd.mono hkp q1)|fn f fs cs va vc hl hm _ _ ih ih'=>exact .fn f fs cs va vc hl hm ih ih'|cR t x v _ ih=>exact .cR t x v ih|agg cs vs hl _ ih=>exact .agg cs vs hl ih|gB cs vs hl _ ih=>exact .gB cs vs hl ih|gd c t v _ ih=>exact .gd c t v ih|mp o b l=>exact .mp o b l|rJ o b l=>exact .rJ o b l|rI o b l=>exact .rI o b l|ub e b h=>exact .ub e b h|qm o m r i len cap sz a hx=>exact .qm o m r i len cap sz a hx|nZ j d c a hj hd=>exact .nZ j d c a hj (hd.mono hkp q1)
   exact h3.le hle
  .rw[hu.wr];exact hp.vo o (t4 o (eL _ q))
  .rw[hu.dr,hp.dr];show o∈sF.dr;rw[t5];exact iX _ (by rw[f7];exact q)
  .rw[hu.dr,hp.dr];show o∈sF.dr;rw[t5];exact eL _ q
 refine⟨Tm.1,(Tm.2 x r hF z.bB w vs al bl F u.bB ahu anA adO).mono λe w' M=>?_⟩;cases e with
 |outgrown=>exact M.elim
 |returned v=>
  simp only[vT]at M;split at M;rotate_left
  .exact M.elim
  rename_i r' hr';rw[hr']at h2;dsimp only at h2;split at h2
  .cases h2
  rename_i s2 hput;rcases af h2 with⟨hlt,hk⟩|⟨_,hk⟩;rotate_left
  .cases hk
  obtain⟨g5,k1,k2⟩:=core c.rs r' s2 hput (fU hlt) v w' M;exact⟨_,_,g5,C,hk,k1,k2⟩
 |panicked ch=>
  simp only[vT]at M;split at M
  .exact M.elim
  rename_i p hp;obtain⟨v,rfl,M⟩:=M;rw[hp]at h2;dsimp only at h2;split at h2
  .cases h2
  rename_i s2 hput;split at h2;rotate_left
  .cases h2
  rcases af h2 with⟨hlt,hk⟩|⟨_,hk⟩;rotate_left
  .cases hk
  obtain⟨g5,k1,k2⟩:=core [.dat S.pt] ((p.1,()),p.2) s2 hput (fU hlt) v w' M;exact⟨v,_,_,g5,rfl,hk,k1,k2⟩
end
section
structure iK(s s':bq S):Prop where
 vo:∀o∈s.wr,o∈s'.wr
 same:∀o,o<s.aJ->o∉s'.wr->s'.ob.get o=s.ob.get o
 dr:s'.dr=s.dr
def iK.refl(s:bq S):iK s s:=⟨λ_ h=>h,λ_ _ _=>rfl,rfl⟩
variable {g:Gh}{w:World}{s s':bq S}{i:TI}{x v:V S}{c:Bool}{E:gH}
def cO.lW{g':Gh}{w':World}(hs:bh g (aI s) w)(h1:bh g' (aI s') w')(h2:Ext s.fl g w g' w')(h3:s'.fl=s.fl)(h4:s'.lo=s.lo)(h5:s.aJ<=s'.aJ)(h6:iK s s'):cO [] s g w s' g' w':=
 ⟨h1,h2.Ho _,h3,h4,h5,h6.vo,h6.same,λ_ _ b _=>b.ext h2 hs.bB,λo a=>(by cases a),λo a=>h6.dr▸a,λo a=>(by cases a)⟩
def cO.refl{g:Gh}{w:World}{s:bq S}(hs:bh g (aI s) w):cO [] s g w s g w:=
 cO.lW hs hs (Ext.refl _ _ _) rfl rfl (bQ _) (iK.refl _)
def iP(s:bq S)(ob:wv S)(hn:s.aJ<bC):iK s (dw s ob):=
 ⟨λ_ h=>h,λo a _=>by simp only[dw];rw[Tr.aZ _ _ _ _ hn,br (by omega)],rfl⟩
def kR{os:L Nat}(h:dF s os=Z s'):iK s s':=by obtain⟨_,_,_,h1,h2,_,h3⟩:=eB h;exact⟨h1,λo _ a=>h2 o a,h3⟩
def rP(s:bq S)(o:Nat)(ob:wv S):iK s {s with ob:=s.ob.set aL o ob,wr:=o::s.wr}:=
 ⟨λ_ h=>gO _ h,λk _ a=>Tr.dg _ _ _ _ _ (λe=>a (by rw[e];exact eD)),rfl⟩
def iK.trans'{a:bq S}(h:iK s s')(hn:s.aJ<=s'.aJ)(k:iK s' a):iK s a:=
 ⟨λo c=>k.vo o (h.vo o c),λo c b=>(k.same o (dB c hn) b).trans (h.same o c (λd=>b (k.vo o d))),k.dr.trans h.dr⟩
def N9{a:V S}(h:Ds i s a x=Z (c,v,s')):iK s s':=by
 unfold Ds at h;split at h
 .cases h
 .split at h
  .split at h
   .rcases af h with⟨_,h⟩|⟨_,h⟩
    .simp only[bg,bD]at h;obtain⟨_,_,rfl⟩:=h;exact rP _ _ _
    .cases h
   .cases h
  .split at h
   .split at h
    .split at h
     .rename_i b;split at h
      .split at h
       .rcases af h with⟨_,h⟩|⟨_,h⟩
        .simp only[bg,bD]at h;obtain⟨_,_,rfl⟩:=h;exact(kR b).trans' (yP (eB b).2.2.1.symm) (rP _ _ _)
        .cases h
       .cases h
      .cases h
     .cases h
    .cases h
   .cases h
  .cases h
def Dv{τ:O Ty}{l h m:O (V S)}(a:tW i τ s x l h m=Z (c,v,s')):s'=s∨dF s (LY x)=Z s':=by
 unfold tW at a
 repeat' split at a
 all_goals first
  |(cases a;done)
  |(
    simp only[bg,bD]at a;obtain⟨_,_,rfl⟩:=a;first|exact .inl rfl|(right;assumption))
def Vw{fr:bY S}{o:Op}(h:cn E fr s o=Z (c,v,s')):iK s s':=by
 have same:s'=s->iK s s':=λe=>e▸iK.refl _;cases o with
 |alloc t=>
  simp only[cn]at h;split at h
  .rcases af h with⟨d,h⟩|⟨_,h⟩
   .simp only[bg,bD]at h;obtain⟨_,_,rfl⟩:=h;exact iP _ _ (fU d)
   .cases h
  .cases h
 |box t x=>
  simp only[cn]at h;split at h
  .rcases af h with⟨d,h⟩|⟨_,h⟩
   .simp only[eG,bD]at h;obtain⟨_,_,_,_,rfl⟩:=h;exact iP _ _ (fU d)
   .cases h
  .cases h
 |buildSlice t n i=>
  simp only[cn]at h;split at h
  .split at h
   .rcases af h with⟨_,h⟩|⟨_,h⟩
    .split at h
     .simp only[eG,bD]at h;obtain⟨j,g,_,_,rfl⟩:=h;exact kR g
     .cases h
    .cases h
   .cases h
  .cases h
 |store t x y=>
  simp only[cn]at h;split at h
  .exact N9 h
  .cases h
 |slice t x lo l m=>
  simp only[cn]at h;split at h
  .rcases Dv h with rfl|h
   .exact iK.refl _
   .exact kR h
  .cases h
 |move x=>simp only[cn,eG,bD]at h;obtain⟨_,_,_,_,rfl⟩:=h;exact iK.refl _
 |assign x=>simp only[cn,eG,bD]at h;obtain⟨_,_,_,_,rfl⟩:=h;exact iK.refl _
 |pick x y z=>
  simp only[cn]at h;split at h
  .simp only[eG,bD]at h;obtain⟨_,_,_,_,rfl⟩:=h;exact iK.refl _
  .cases h
 |build t i=>
  simp only[cn]at h;split at h
  .split at h
   .simp only[eG,bD]at h;obtain⟨_,_,_,_,rfl⟩:=h;exact iK.refl _
   .cases h
  .cases h
 |load t x=>
  simp only[cn]at h;split at h
  .unfold wO at h;split at h
   .split at h
    .dsimp only at h;rcases af h with⟨_,h⟩|⟨_,h⟩
     .simp only[eG,bD]at h;obtain⟨_,_,_,_,rfl⟩:=h;exact iK.refl _
     .cases h
    .cases h
   .simp only[eG,bD]at h;obtain⟨_,_,_,_,rfl⟩:=h;exact iK.refl _
   .split at h
    .simp only[eG,bD]at h;obtain⟨_,_,_,_,rfl⟩:=h;exact iK.refl _
    .cases h
   .cases h
  .cases h
 |nilCheck x=>
  simp only[cn]at h;split at h;all_goals first
   |(cases h;done)
   |(
     simp only[bg,bD]at h;obtain⟨_,_,rfl⟩:=h;exact iK.refl _)
 |binOp op t x y u=>
  simp only[cn]at h;split at h
  .simp only[eG,bD]at h;obtain⟨_,_,_,_,rfl⟩:=h;exact iK.refl _
  .cases h
 |unOp op t x=>
  simp only[cn]at h;split at h
  .simp only[eG,bD]at h;obtain⟨_,_,_,_,rfl⟩:=h;exact iK.refl _
  .cases h
 |convert t u x=>
  simp only[cn]at h;split at h
  .exact same (AT h).1
  .cases h
 |makeInterface t x=>
  simp only[cn]at h;split at h
  .split at h
   .cases h
   .simp only[bg,bD]at h;obtain⟨_,_,rfl⟩:=h;exact iK.refl _
  .cases h
 |makeFunc f a b=>
  simp only[cn]at h;split at h
  .simp only[bg,bD]at h;obtain⟨_,_,rfl⟩:=h;exact iK.refl _
  .cases h
 |extract x k=>
  simp only[cn]at h;split at h
  .exact same (sw h).1
  .cases h
 |fieldAddr t x k=>
  simp only[cn]at h;split at h
  .exact same (oV h).1
  .cases h
 |field t x k=>
  simp only[cn]at h;split at h
  .unfold AI at h;split at h
   .split at h
    .dsimp only at h;rcases af h with⟨_,h⟩|⟨_,h⟩
     .simp only[eG,bD]at h;obtain⟨_,_,_,_,rfl⟩:=h;exact iK.refl _
     .cases h
    .cases h
   .cases h
  .cases h
 |indexAddr t x y=>
  simp only[cn]at h;split at h
  .unfold jA at h;split at h
   .split at h
    .split at h
     .rcases af h with⟨_,h⟩|⟨_,h⟩
      .simp only[bg,bD]at h;obtain⟨_,_,rfl⟩:=h;exact iK.refl _
      .cases h
     .cases h
    .split at h
     .simp only[bg,bD]at h;obtain⟨_,_,rfl⟩:=h;exact iK.refl _
     .cases h
   .cases h
  .cases h
 |index t x y=>
  simp only[cn]at h;split at h
  .unfold AA at h;split at h
   .simp only[bg,bD]at h;obtain⟨_,_,rfl⟩:=h;exact iK.refl _
   .cases h
  .cases h
 |typeAssert x t u ok=>
  simp only[cn]at h;split at h
  .exact same (uP h).1
  .cases h
 |_=>simp[cn]at h
def GS{b:Builtin}{d:Array TypeId}{args:L (V S)}(h:fh E s b d args=Z (c,v,s')):iK s s':=by
 unfold fh at h;split at h
 .split at h
  .split at h
   .simp only[bg,bD]at h;obtain⟨_,_,rfl⟩:=h;exact iK.refl _
   .cases h
  .split at h
   .simp only[eG,bD]at h;obtain⟨_,_,_,_,rfl⟩:=h;exact iK.refl _
   .cases h
  .cases h
 .split at h
  .split at h
   .split at h
    .unfold Dd at h;rcases af h with⟨_,h⟩|⟨e,h⟩
     .cases h
     .have a:s.aJ<bC:=by
       have:Nat.blt s.aJ bC=W:=by simpa using e
       exact fU this
      split at h
      .split at h
       .simp only[bg,bD]at h;obtain⟨_,_,rfl⟩:=h;exact iP _ _ a
       .split at h
        .split at h
         .simp only[bg,bD]at h;obtain⟨_,_,rfl⟩:=h;exact iP _ _ a
         .simp only[bg,bD]at h;obtain⟨_,_,rfl⟩:=h;exact iK.refl _
        .cases h
       .split at h
        .split at h
         .rcases af h with⟨_,h⟩|⟨_,h⟩
          .simp only[bg,bD]at h;obtain⟨_,_,rfl⟩:=h;exact rP _ _ _
          .cases h
         .cases h
        .cases h
       .cases h
      .cases h
    .cases h
   .cases h
  .cases h
 .cases h
end
section
section
variable {g:Gh}{w w':World}
variable {s:St}{o b c:Nat}{ob:Ob}{kt:Ty}{u z:Value}{ms:Array MapEntry}
def bh.setObj(hs:bh g s w)(n:g.cj o=Z b){Yu:Ob}(l:s.ob.get o=Z ob)(p:ob.odd=W)(v:s.fl<=o){x':Obj}(C:g6 g w Yu x')
  (y:w'.heap.size=w.heap.size) (c:∀d,d≠b->w'.heap[d]?=w.heap[d]?) (q:w'.heap[b]?=Z x') (z:w'.os=w.os) (r:w'.output=w.output) :
  bh g {s with ob:=s.ob.set aL o Yu} w'∧Ext s.fl g w g w':=by
 have f:bN g o b:=⟨(hs.box o b n).1,.inl n⟩;have m:o<bC:=dB (hs.lt n) hs.aJ;have u:Ext s.fl g w g w':=
  ⟨λ_ _ h=>h,λ_ _ _ h=>h,λ_ h=>h,by omega,λd _ E=>c d (λe=>E o v (e▸f)),λ_ _ h=>.inl h,λ_ h=>.inl h,z,r⟩
 refine⟨⟨hs.aJ,hs.ai,λj d a=>?_,λj e x A=>?_,λd a=>by have:=hs.bB d a;omega,hs.l9⟩,u⟩
 .by_cases i:j=o
  .subst i;rw[n]at a;simp at a;subst a;obtain⟨h1,h2,_⟩:=hs.box j b n;refine⟨h1,by omega,λF k=>⟨x',q,?_⟩⟩;simp only[]at k;rw[Tr.aZ _ _ _ _ m,bJ rfl]at k;obtain rfl:=eO k;exact C.ext u hs.bB
  .have B:d≠b:=λe=>i (hs.l9 j o b (e▸⟨(hs.box j d a).1,.inl a⟩) f);exact(hs.box j d a).ext u hs.bB (c d B) (by simp only[];rw[Tr.aZ _ _ _ _ m,br i]) (hs.box j d a).1
 .have i:j≠o:=by
   rintro rfl
   have h4:=((hs.arr j e x A).2 _ l).oR;cases ob<;>first|(cases p;done)|(cases h4;done)
  refine(hs.arr j e x A).ext u hs.bB (λd a G=>⟨c d ?_,qP⟩) (by simp only[];rw[Tr.aZ _ _ _ _ m,br i]) rfl
  rintro rfl
  by_cases t:g.bB d
  .exact f.1 t
  .exact i (hs.l9 j o d ⟨t,.inr ⟨e,x,_,A,a,rfl,G⟩⟩ f)
def bh.ajT(hs:bh g s w)(n:g.cj o=Z b)(m:s.ob.get o=Z ob)(p:ob.odd=W)(t:s.fl<=o)
  (u:w'.heap.size=w.heap.size) (c:∀d,d≠b->w'.heap[d]?=w.heap[d]?) (v:w'.os=w.os) (q:w'.output=w.output) :
  bh g {s with ob:=s.ob.del aL o} w'∧Ext s.fl g w g w':=by
 have f:bN g o b:=⟨(hs.box o b n).1,.inl n⟩;have y:o<bC:=dB (hs.lt n) hs.aJ;have cJ:∀k,(s.ob.del aL o).get k=if k=o then Y else s.ob.get k:=λk=>Tr.sr _ _ _ _ (by unfold aL;unfold bC at y;omega)
 have z:Ext s.fl g w g w':=
  ⟨λ_ _ h=>h,λ_ _ _ h=>h,λ_ h=>h,by omega,λd _ C=>c d (λe=>C o t (e▸f)),λ_ _ h=>.inl h,λ_ h=>.inl h,v,q⟩
 refine⟨⟨hs.aJ,hs.ai,λj d a=>?_,λj e x A=>?_,λd a=>by have:=hs.bB d a;omega,hs.l9⟩,z⟩
 .by_cases i:j=o
  .subst i;rw[n]at a;simp at a;subst a;obtain⟨h1,h2,_⟩:=hs.box j b n;refine⟨h1,by omega,λE l=>?_⟩;simp only[]at l;rw[cJ,bJ rfl]at l;cases l
  .have B:d≠b:=λe=>i (hs.l9 j o b (e▸⟨(hs.box j d a).1,.inl a⟩) f);exact(hs.box j d a).ext z hs.bB (c d B) (by simp only[];rw[cJ,br i]) (hs.box j d a).1
 .have i:j≠o:=by
   rintro rfl
   have h4:=((hs.arr j e x A).2 _ m).oR;cases ob<;>first|(cases p;done)|(cases h4;done)
  refine(hs.arr j e x A).ext z hs.bB (λd a F=>⟨c d ?_,qP⟩) (by simp only[];rw[cJ,br i]) rfl
  rintro rfl
  by_cases r:g.bB d
  .exact f.1 r
  .exact i (hs.l9 j o d ⟨r,.inr ⟨e,x,_,A,a,rfl,F⟩⟩ f)
def fy:(kt:Ty)->den S.A kt->Value
 | .int k,n=>.int k n
 | .bool,b=>.bool b
 | .str,s=>.string (bK s)
 |_,_=>undef
def iu:Ty->TypeDesc->Prop
 | .int k,d=>d=.int k
 | .bool,d=>d=.bool
 | .str,d=>d=.string
 |_,_=>False
def sn{v:V S}{k:den S.A kt}(h:VZ kt v=Z k)(c:aM g w (low v) u):u=fy kt k:=by
 cases kt with
 |int j=>obtain⟨p,b,a⟩:=fQ (show gf j v=Z k from h);exact dN b a c
 |bool=>obtain⟨p,b,a⟩:=kV (show iD v=Z k from h);exact iN b a c
 |str=>obtain⟨p,b,a⟩:=ke (show tV v=Z k from h);exact g7 b a c
 |_=>cases h
def Zy{k:den S.A kt}{d:TypeDesc}(a:iu kt d)(b:aM g w (eH S kt k) u):u=fy kt k:=by
 cases kt with
 |int j=>cases b with|sym _ _ a=>cases a;rfl
 |bool=>cases b with|sym _ _ a=>cases a;rfl
 |str=>cases b with|sym _ _ a=>cases a;rfl
 |_=>cases a
def Zx{k:den S.A kt}{d:TypeDesc}(a:iu kt d):aM g w (eH S kt k) (fy kt k):=by cases kt with|int j=>exact .sym _ _ (.lit _)|bool=>exact .sym _ _ (.lit _)|str=>exact .sym _ _ (.lit _)|_=>cases a
def Lh{d:TypeDesc}(c:iu kt d)(a b:den S.A kt):Instr.sameNow d (fy kt a) (fy kt b)=Z (H8 kt a b):=by
 cases kt with
 |int j=>cases c;simp[Instr.sameNow,fy,H8,D.aG]
 |bool=>cases c;simp[Instr.sameNow,fy,H8,D.beq]
 |str=>cases c;have:=Ag a b;simp only[D.seq]at this;simp[Instr.sameNow,fy,H8,<-this]
 |_=>cases c
def Ja{d:TypeDesc}(c:iu kt d){a b:den S.A kt}(h:H8 kt a b=W)(n:Nat):Instr.sameBits n (fy kt b) (fy kt a)=W:=by
 cases kt with
 |int j=>
  have:a=b:=by simpa[H8,D.aG]using h
  subst this;cases n<;>simp[Instr.sameBits,fy]
 |bool=>
  have:a=b:=by simpa[H8,D.beq]using h
  subst this;cases n<;>simp[Instr.sameBits,fy]
 |str=>
  have:a=b:=by simpa[H8,gn]using h
  subst this;have e:(bK a==bK a)=W:=by have:=Ag a a;simp only[D.seq]at this;rw[this];simp[gn]
  cases n<;>simp[Instr.sameBits,fy,e]
 |_=>cases c
def Gm{A:Nat->Type}{β:Type}(kt:Ty)(k:den A kt):L (den A kt×β)->O Nat
 |[]=>Y
 |p::l=>bif H8 kt k p.1 then Z 0 else(Gm kt k l).map Nat.succ
def EE{β:Type}{kt:Ty}{k:den S.A kt}:∀{l:L (den S.A kt×β)},Gm kt k l=Y->(∀z,Gl kt z k l=z)∧EM kt k l=J∧∀x,nu kt k x l=l++[(k,x)]
 |[],_=>⟨λ_=>rfl,rfl,λ_=>rfl⟩
 |p::l,h=>by
  simp only[Gm]at h;cases a:H8 kt k p.1 with
  |true=>rw[a]at h;cases h
  |false=>rw[a]at h;obtain⟨h1,h2,h3⟩:=EE (l:=l) (by simpa using h);exact⟨λz=>by simp[Gl,a,h1],by simp[EM,a,h2],λx=>by simp[nu,a,h3]⟩
def ze{β:Type}{kt:Ty}{k:den S.A kt}:∀{l:L (den S.A kt×β)}{j:Nat},Gm kt k l=Z j->∃p,l[j]?=Z p∧H8 kt k p.1=W∧(∀z,Gl kt z k l=p.2)∧EM kt k l=W∧∀x,nu kt k x l=l.set j (k,x)
 |[],j,h=>by cases h
 |p::l,j,h=>by simp only[Gm]at h;cases a:H8 kt k p.1 with|true=>rw[a]at h;simp only[cH,bg]at h;subst h;exact⟨p,rfl,a,λz=>by simp[Gl,a],by simp[EM,a],λx=>by simp[nu,a]⟩|false=>rw[a]at h;simp only[dS,eG]at h;obtain⟨i,b,rfl⟩:=h;obtain⟨q,h1,h2,h3,h4,h5⟩:=ze b;exact⟨q,by simpa using h1,h2,λz=>by simp[Gl,a,h3],by simp[EM,a,h4],λx=>by simp[nu,a,h5]⟩
def wQ{β:Type}{kt:Ty}{d:TypeDesc}(b:iu kt d)(k:den S.A kt):∀(l:L (den S.A kt×β))(es:L MapEntry)(i:Nat),es.length=l.length->
  (∀(j:Nat)p m,l[j]?=Z p->es[j]?=Z m->m.key=fy kt p.1)->Instr.findNow d (fy kt k) es i=Z ((Gm kt k l).bind λj=>(es[j]?).map λm=>(i+j,m.val))
 |[],[],i,_,_=>rfl
 |p::l,m::es,i,a,c=>by
  simp only[Instr.findNow,c 0 p m rfl rfl,Lh b];cases e:H8 kt k p.1 with
  |true=>simp[Gm,e]
  |false=>
   simp only;rw[wQ b k l es (i+1) (by simpa using a) (λj f g h1 h2=>c (j+1) f g (by simpa using h1) (by simpa using h2))];simp only[Gm,e,dS];cases Gm kt k l with
   |none=>rfl
   |some j=>
    simp only[ee,Jm,Nat.succ_eq_add_one,List.getElem?_cons_succ,bg]
    congr 1
    funext m
    rw[Nat.add_assoc,Nat.add_comm 1 j]
 |[],_::_,_,a,_=>by simp at a
 |_::_,[],_,a,_=>by simp at a
variable {P:Program}
def Gw{d:TypeDesc}(a:iu kt d){t:TypeId}(c:P.underlying t=Z d)(b:Bool)(n:Nat)(v:Value)(w:World):(Instr.checkKey b (n+1) t v).run P w=.ok () w:=by
 cases kt with
 |int j=>cases a;simp[Instr.checkKey,aO c]
 |bool=>cases a;simp[Instr.checkKey,aO c]
 |str=>cases a;simp[Instr.checkKey,aO c]
 |_=>cases a
def run_checkKey{d:TypeDesc}(a:iu kt d){t:TypeId}(c:P.underlying t=Z d)(b:Bool)(v:Value)(w:World):(Instr.checkKey b 10000 t v).run P w=.ok () w:=
 Gw a c b 9999 v w
def run_findKey{β:Type}{d:TypeDesc}(a:iu kt d){t:TypeId}(b:P.underlying t=Z d)(k:den S.A kt){l:L (den S.A kt×β)}{es:L MapEntry}(hl:es.length=l.length)
  (c:∀(j:Nat)p m,l[j]?=Z p->es[j]?=Z m->m.key=fy kt p.1) (w:World) :
  (Instr.findKey t (fy kt k) es).run P w=.ok ((Gm kt k l).bind λj=>(es[j]?).map λm=>(j,m.val)) w:=by
 have:=wQ a k l es 0 hl c;simp only[js]at this;simp[Instr.findKey,aO b,this]
def rS(h:w.heap[b]?=Z (.map ms c)):(getObj b).run P w=.ok (.map ms c) w:=by simp[getObj,Sem.run,h]
def DC(o:Obj)(h:w.heap[b]?=Z (.map ms c)):(setObj b o).run P w=.ok () {w with heap:=w.heap.setIfInBounds b o}:=by simp[setObj,Sem.run,h]
def DE{β:Type}{d:TypeDesc}(f:iu kt d){t a e:TypeId}{g:TypeInfo}(r:P.underlying t=Z (.map a e))(i:P.underlying a=Z d)(n:P.info? e=Z g)(o:g.zero=Z z)
  (k:den S.A kt) {l:L (den S.A kt×β)} {b c:Nat} {ms:Array MapEntry} (h:w.heap[b]?=Z (.map ms c)) (hl:l.length=ms.size) (s:∀(j:Nat)p m,l[j]?=Z p->ms[j]?=Z m->m.key=fy kt p.1) (ok:Bool) :
  (Instr.lookup t (.map (Z b)) (fy kt k) ok).run P w=.ok (match(Gm kt k l).bind λj=>(ms[j]?).map (·.val)with
   |some v=>if ok then .tuple #[v,.bool W]else v
   |none=>if ok then .tuple #[z,.bool J]else z) w:=by
 have u:=run_findKey (P:=P) f i k (l:=l) (es:=ms.toList) (by simpa using hl.symm) (λj p m h1 h2=>s j p m h1 (by simpa using h2)) w;simp only[Instr.lookup,Sem.run_bind,aO r,Result.andThen_ok,rS h,run_checkKey f i,u,Sem.run_pure];cases x:Gm kt k l with
 |none=>simp[er n o]
 |some j=>
  cases q:ms[j]? with|none=>simp[q,er n o]|some m=>simp[q]
def DD{d:TypeDesc}(b:iu kt d){t a e:TypeId}{c:TypeInfo}(h:P.underlying t=Z (.map a e))(f:P.underlying a=Z d)(i:P.info? e=Z c)(n:c.zero=Z z)
  (k:den S.A kt) (ok:Bool):(Instr.lookup t (.map Y) (fy kt k) ok).run P w=.ok (if ok then .tuple #[z,.bool J]else z) w:=by
 have g:=run_findKey (P:=P) (β:=U) b f k (l:=[]) (es:=[]) rfl (λj p m h1=>by simp at h1) w;simp only[Instr.lookup,Sem.run_bind,aO h,Result.andThen_ok,run_checkKey b f,Sem.run_pure];simp only[Gm,QM]at g;simp[g,er i n]
end
end
section
section
variable {g:Gh}{w w':World}{P:Program}
def NC{β:Type}(kt:Ty)(R:β->Value->Prop)(l:L (den S.A kt×β))(ms:Array MapEntry):Prop:=
 l.length=ms.size∧∀(j:Nat)p m,l[j]?=Z p->ms[j]?=Z m->m.key=fy kt p.1∧R p.2 m.val
variable {kt kt':Ty}{ms:Array MapEntry}
def wG{β:Type}{R:β->Value->Prop}{d:TypeDesc}(u:iu kt d){t g e:TypeId}(K:P.underlying t=Z (.map g e))(B:P.underlying g=Z d)
  (k:den S.A kt) {l:L (den S.A kt×β)} {b c:Nat} {ms:Array MapEntry} (h:w.heap[b]?=Z (.map ms c)) (hr:NC kt R l ms) {x:β} {v:Value} (M:R x v) :
  ∃o c',(Instr.mapUpdate t (.map (Z b)) (fy kt k) v).run P w=.ok () {w with heap:=w.heap.setIfInBounds b (.map o c')}∧NC kt R (nu kt k x l) o:=by
 obtain⟨r,y⟩:=hr;have z:=run_findKey (P:=P) u B k (l:=l) (es:=ms.toList) (by simpa using r.symm) (λj p m h1 h2=>(y j p m h1 (by simpa using h2)).1) w;cases f:Gm kt k l with
 |none=>
  obtain⟨_,_,a⟩:=EE f;rw[f]at z;refine⟨ms.push {key:=fy kt k,val:=v,born:=c},c+1,?_,by rw[a];simp[r],λj p m h1 h2=>?_⟩
  .simp only[Instr.mapUpdate,Sem.run_bind,aO K,Result.andThen_ok,rS h,run_checkKey u B,z,QM,DC _ h]
  .rw[a,lD]at h1;rw[QN]at h2;by_cases X:j<l.length
   .rw[bJ X]at h1;rw[br (by omega)]at h2;exact y j p m h1 h2
   .rw[br X]at h1;have C:j=l.length:=by have:=aF h1;simp at this;omega
    subst C;simp at h1;rw[bJ r]at h2;cases h2;subst h1;exact⟨rfl,M⟩
 |some i=>
  obtain⟨p,hp,E,_,_,a⟩:=ze f;rw[f]at z;have hi:i<ms.size:=by rw[<-r];exact aF hp
  obtain⟨m,A⟩:∃m,ms[i]?=Z m:=⟨ms[i],oI hi⟩;have F:=(y i p m hp A).1;have G:(Instr.findKey g (fy kt k) ms.toList).run P w=.ok (Z (i,m.val)) w:=by rw[z];simp[A]
  refine⟨ms.modify i λe=>{e with key:=fy kt k,val:=v},c,?_,by rw[a];simp[r],λj q n h1 h2=>?_⟩
  .have H:Instr.sameBits 10000 m.key (fy kt k)=W:=by rw[F];exact Ja u E 10000
   have I:(Instr.keyThatStays m.key (fy kt k)).run P w=.ok (fy kt k) w:=by simp only[Instr.keyThatStays,H,fY,Sem.run_pure]
   simp only[Instr.mapUpdate,Sem.run_bind,aO K,Result.andThen_ok,rS h,run_checkKey u B,G,A,ee,vY,I,DC _ h]
  .rw[a,DL]at h1;rw[Array.getElem?_modify]at h2;by_cases s:i=j
   .subst s;rw[bJ rfl,bJ (by omega)]at h1;rw[bJ rfl,A]at h2;cases h1;cases h2;exact⟨rfl,M⟩
   .rw[br s]at h1 h2;exact y j q n h1 h2
def g6.Qz{β:Type}{d:TypeDesc}(a:iu kt d){f:β->T}{l:L (den S.A kt×β)}{x:Obj}(h:g6 g w (.map (l.map λp=>(eH S kt p.1,f p.2))) x) :
  ∃ms c,x=.map ms c∧NC kt (λy v=>aM g w (f y) v) l ms:=by
 cases h with|map _ ms c b e=>refine⟨ms,c,rfl,by simpa using b,λj p m h1 h2=>?_⟩;have:=e j (eH S kt p.1,f p.2) m (by simp[h1]) h2;exact⟨Zy a this.1,this.2⟩
def NC.ob{β:Type}{d:TypeDesc}(a:iu kt d){f:β->T}{l:L (den S.A kt×β)}(h:NC kt (λy v=>aM g w (f y) v) l ms)(c:Nat):g6 g w (.map (l.map λp=>(eH S kt p.1,f p.2))) (.map ms c):=by refine .map _ ms c (by simpa using h.1) λj t m h1 h2=>?_;simp only[gM,eG]at h1;obtain⟨p,b,rfl⟩:=h1;obtain⟨h3,h4⟩:=h.2 j p m b h2;rw[h3];exact⟨Zx a,h4⟩
def PF(S:Sg)(i:TI)(τ:Ty):Prop:=bif jr τ then D.agg i.zero=enc S τ (S.zero τ)else i.zero=[enc S τ (S.zero τ)]
def Hg{I:Nat->Prop}(s:fB S){t:TypeId}{i:TI}(u:nc P t i){τ:Ty}(d:wZ S i τ)(f:PF S i τ){x:TypeInfo}{z:Value}(y:P.info? t=Z x)(g:x.zero=Z z):ek I w (enc S τ (S.zero τ)) z:=by
 obtain⟨E,d0,F,h,G,_,B,l,a,_⟩:=u.all;rw[y]at h;cases h;rw[g]at l;cases l;obtain⟨p,q⟩:=u.zag x z y g;unfold PF at f;cases b:jr τ with
 |true=>
  rw[b,cH]at f;have m:i.agg=W:=by cases τ with|st n=>exact d.1|_=>cases b
  obtain⟨C,rfl⟩:=p m;have a:ZOk i.zero C:=a;rw[<-f];refine .agg _ _ a.1 (λc A=>?_) (λj c v h1 h2=>Ac (a.2 j c v h1 h2));cases τ with
  |st n=>
   have e:i.zero=S.cells n (S.zero (.st n)):=by have:D.agg i.zero=D.agg (S.cells n (S.zero (.st n))):=f;injection this
   rw[e,s.cells]at A;exact gW _ _ (s.leaf n) c A
  |_=>cases b
 |false=>
  rw[b,dS]at f;have o:i.agg=J:=by
   cases τ with
   |st n=>cases b
   |sl e=>exact d.2.1
   |int k=>exact d.2.1
   |bool=>exact d.2.1
   |str=>exact d.2.1
   |cR n=>exact d.2.1
  have r:=q o;have:=a.2 0 _ z (by rw[f];rfl) (by rw[r];rfl);exact Ac this
structure XOk(S:Sg)(E:gH):Prop where
 zr:∀t i τ,E.E.ti t=Z i->E.ty t=Z τ->PF S i τ
 mt:∀t m,E.mt t=Z m->∃kid d,E.E.P.underlying t=Z (.map kid m.el)∧E.E.P.underlying kid=Z d∧iu m.kt d∧(∃x z,E.E.P.info? m.el=Z x∧x.zero=Z z)∧
  ∀vt,m.vt=Z vt->E.ty m.el=Z vt∧∃i,E.E.ti m.el=Z i
 Jx:∀t nm f,E.Jx t nm=Z f->∃x mm d,E.E.P.info? t=Z x∧x.methods.find? (·.name==nm)=Z mm∧mm.path=#[]∧E.E.P.underlying t=Z d∧
  ((mm.func=Z (f,J)∧∀e,d≠.pointer e)∨(mm.func=Z (f,W)∧∃e,d=.pointer e))
def cY{fr:bY S}{a:Act}(hf:cG g (bA fr) a w){x:Operand}{v:V S}(h:cm fr x=Z v):aM g w (low v) (a.eval x):=bM hf (bW h)
def M7{b a:Ty}{l:L (den S.A kt×den S.A b)}{c:L (den S.A kt'×den S.A a)}(h:Ca kt b kt' a l=Z c):kt=kt'∧b=a∧HEq l c:=by
 unfold Ca at h;split at h
 .rename_i h1;split at h
  .rename_i h2;have d:=fM h1;have e:=fM h2;subst d;subst e;simp only[bg]at h;exact⟨rfl,rfl,heq_of_eq h⟩
  .cases h
 .cases h
def M8{β:Type}{l:L (den S.A kt×β)}{a:L (den S.A kt'×β)}(h:M9 kt kt' l=Z a):kt=kt'∧HEq l a:=by
 unfold M9 at h;split at h
 .rename_i h1;have b:=fM h1;subst b;simp only[bg]at h;exact⟨rfl,heq_of_eq h⟩
 .cases h
def I6{w:World}{b:Nat}(x:Obj)(d:b<w.heap.size):({w with heap:=w.heap.setIfInBounds b x}:World).heap.size=w.heap.size∧(∀a,a≠b->({w with heap:=w.heap.setIfInBounds b x}:World).heap[a]?=w.heap[a]?)∧
  ({w with heap:=w.heap.setIfInBounds b x}:World).heap[b]?=Z x:=by
 refine⟨by simp,λa c=>?_,?_⟩
 .simp[Vq (Ne.symm c)]
 .simp[d]
def OF{β:Type}{f:β->T}{k:den S.A kt}{l:L (den S.A kt×β)}(b:NC kt (λy v=>aM g w (f y) v) l ms){z:β}{c:Value}(h:aM g w (f z) c) :
  aM g w (f (Gl kt z k l)) (((Gm kt k l).bind λj=>(ms[j]?).map (·.val)).getD c)∧(((Gm kt k l).bind λj=>(ms[j]?).map (·.val)).isSome=EM kt k l):=by
 cases a:Gm kt k l with
 |none=>obtain⟨h1,h2,_⟩:=EE a;rw[h1,h2];exact⟨h,rfl⟩
 |some j=>
  obtain⟨p,d,_,h1,h2,_⟩:=ze a;rw[h1,h2];have i:j<ms.size:=by rw[<-b.1];exact aF d
  have e:ms[j]?=Z ms[j]:=oI i;simp only[Jm,e,ee,vY,Option.isSome_some,and_true];exact(b.2 j p _ d e).2
end
end
section
def AO:∀(l:L (TypeId×Ty))(x:wh S.A l),isNil l x=(sB S l x).isNone
 |[],_=>rfl
 |_::_,.inl _=>rfl
 |_::l,.inr y=>AO l y
def E2:∀(l:L (TypeId×Ty))(t:TypeId)(j:Nat)(x:wh S.A l)(z:(t:Ty)->den S.A t),Nq l=W->o8 l t=Z j->
  (fW l j x=W∧sB S l x=Z (t,enc S (lX l j) (gi z l j x)))∨(fW l j x=J∧gi z l j x=z (lX l j)∧∀d,sB S l x≠Z (t,d))
 |[],t,j,x,z,_,h=>by cases h
 |p::l,t,j,x,z,f,h=>by
  simp only[Nq,ec]at f;simp only[o8]at h;rcases af h with⟨b,h⟩|⟨b,h⟩
  .simp only[bg]at h;subst h;have c:=nN b;cases x with
   |inl y=>left;exact⟨rfl,by simp only[sB,c];rfl⟩
   |inr y=>
    right
    refine⟨rfl,rfl,λd e=>?_⟩;simp only[sB]at e;have g:o8 l p.1=Y:=by cases k:o8 l p.1 with|none=>rfl|some i=>rw[k]at f;simp at f
    exact AN l y p.1 g d (by rw[c];exact e)
  .split at h
   .rename_i i m;simp only[bg]at h;subst h;cases x with
    |inl y=>
     right
     refine⟨rfl,rfl,λd e=>?_⟩;simp only[sB,bg,bD]at e;rw[e.1]at b;simp at b
    |inr y=>
     rcases E2 l t i y z f.2 m with⟨h1,h2⟩|⟨h1,h2,h3⟩
     .exact .inl ⟨h1,h2⟩
     .exact .inr ⟨h1,h2,h3⟩
   .cases h
where
 AN:∀(l:L (TypeId×Ty))(x:wh S.A l)(t:TypeId),o8 l t=Y->∀d,sB S l x≠Z (t,d)
  |[],_,_,_,_,h=>by cases h
  |p::l,.inl y,t,a,d,h=>by simp only[o8]at a;simp only[sB,bg,bD]at h;rw[h.1]at a;simp at a
  |p::l,.inr y,t,a,d,h=>by
   simp only[o8]at a;cases b:Nat.beq p.1 t with
   |true=>rw[b]at a;cases a
   |false=>
    rw[b]at a;refine AN l y t ?_ d h;cases k:o8 l t with|none=>rfl|some i=>rw[k]at a;cases a
section
variable {g:Gh}{w:World}{P:Program}
def CU(e:fB S){n:Nat}{x:S.A n}{v:Value}(h:aM g w (eH S (.cR n) x) v) :
  (sB S (S.alts n) (S.sq n x)=Y∧v=.nilIface)∨∃t d u,sB S (S.alts n) (S.sq n x)=Z (t,d)∧v=.iface t u∧ek g.bB w d u:=by
 have b:aM g w (.sym (NW (S.pT n x))) v:=h;rw[e.pT]at b;cases b with
 |sym _ _ a=>
  cases c:sB S (S.alts n) (S.sq n x)with
  |none=>rw[c]at a;cases a;exact .inl ⟨rfl,rfl⟩
  |some p=>
   rw[c]at a;obtain⟨t,d⟩:=p;cases a with|cR _ _ u f=>exact .inr ⟨t,d,u,rfl,rfl,f⟩
variable {s:bq S}
def JA(hs:bh g (aI s) w)(hn:s.aJ<bC){t:TypeId}{r:O Value}{a el:TypeId}(d:P.underlying t=Z (.map a el))(e:∀v,r=Z v->∃k n,v=.int k n){ob:wv S}(b:cQ ob=.map []) :
  ∃v w' g',(Instr.makeMap t r).run P w=.ok v w'∧aM g' w' (low (.mp s.aJ:V S)) v∧cO [] s g w (dw s ob) g' w':=by
 obtain⟨c,f⟩:=hs.newObj (ob0:=.map []) (x0:=.map #[] 0) hn (.map [] #[] 0 rfl (λj t m h=>by simp at h));refine⟨.map (Z w.heap.size),_,_,?_,.mp _ _ (by simp[Gh.dh,aI]),cO.lW hs (by rw[gC,b];exact c) f rfl rfl (DP _) (iP s ob hn)⟩;cases r with|none=>simp[Instr.makeMap]|some v=>obtain⟨k,n,rfl⟩:=e v rfl;simp[Instr.makeMap,aO d,asInt,asIntOf]
def Oi(hs:bh g (aI s) w)(hn:s.aJ<bC){t:TypeId}(c:P.underlying t=Z .string)(b:L UInt8) :
  ∃v w' g',(Instr.range t (.string (bK b))).run P w=.ok v w'∧aM g' w' (low (.rI s.aJ:V S)) v∧cO [] s g w (dw s (.pH b 0)) g' w':=by
 obtain⟨a,d⟩:=hs.newObj (ob0:=.pH (bK b) 0) (x0:=.stringIter (bK b) 0) hn (.pH _ _);refine⟨.pointer (Z ⟨w.heap.size,0,Y⟩),_,_,?_,.rI _ _ (by simp[Gh.dh,aI]),cO.lW hs (by rw[gC];exact a) d rfl rfl (DP _) (iP s _ hn)⟩;simp[Instr.range,aO c]
def Ep(hS:fB S)(hs:bh g (aI s) w)(hn:s.aJ<bC){t:TypeId}{i:TI}(hi:nc P t i){e:Ty}(hr:wZ S i (.sl e)){n:Int}(u:Zn n=W)(X k2:IntKind) :
  ∃v w' g',(Instr.makeSlice t (.int X n) (.int k2 n)).run P w=.ok v w'∧aM g' w' (low (.sh s.aJ 0:V S)) v∧cO [] s g w (dw s (.arr e (List.replicate (ah n) (S.zero e)) 0)) g' w':=by
 obtain⟨⟨z,y,p⟩,_,_,A⟩:=hr;obtain⟨xi,d1,z1,OS,B,_,hag,hzx,zf,hk⟩:=hi.all;rw[y]at hk;obtain⟨el,j,d',r,rfl,hj,q,hju,adW,C,l,E,hj0,hjb1,hjb2,hjb3,F⟩:=hk;simp only[Zn,ec,jL]at u;obtain⟨m,rfl⟩:∃m:Nat,n=(m:Int):=⟨n.toNat,by omega⟩;have hm:m<=17179869184:=by omega
 have hbm:j.bytes*m<=4096*17179869184:=LA E hm;have k:=run_make (P:=P) w t el j r B hj C X k2 (m:Int) (m:Int) (by omega) (Int.le_refl _) (by
  have:((j.bytes*m:Nat):Int)<=281474976710656:=by omega
  rwa [Int.natCast_mul]at this) (by omega)
 simp only[Gy]at k;have G:(bif jr e then D.agg z else z.getD 0 default)=enc S e (S.zero e):=by cases f:jr e with|true=>rw[f]at p;exact p|false=>rw[f]at p;simp only[dS]at p;rw[p];rfl
 have a:=KR (I:=g.bB) (w:=w.alloc (.cells (madeCells r.cells (m*j.size)) el)) (ag:=jr e) (sz:=S.width e) (len:=m) l (by
  cases f:jr e with
  |true=>rfl
  |false=>
   have:S.width e=1:=by cases e<;>first|rfl|cases f
   rw[this];rfl) (by rw[bL];exact F)
 rw[G]at a;have H:(List.replicate m (S.zero e)).map (enc S e)=List.replicate m (enc S e (S.zero e)):=by simp
 let x:fE:=⟨Z ⟨w.heap.size,0,Y⟩,m,m,S.width e⟩
 have K:∀b,x.at b->b=w.heap.size:=by
  rintro b ⟨ad,h1,h2,_⟩
  have:ad=⟨w.heap.size,0,Y⟩:=(eO h1).symm;rw[this]at h2;exact h2.symm
 have o:¬g.bB w.heap.size:=λh=>by have:=hs.bB _ h;omega
 obtain⟨M,he⟩:=bh.Oy (w':=w.alloc (.cells (madeCells r.cells (m*j.size)) el)) hs hn (sz:=S.width e) (es:=List.replicate m (enc S e (S.zero e))) (x:=x) rfl rfl (by simp) (λb N=>ot w _ b N)
  (λb N=>by rw[K b N];simp)
  ⟨by simp[x],bQ _,a.rows,A,λd hd=>by
    have R:=Vm hd;rw[R,AM hS,List.length_replicate];show m*uL S e<=_;have:m*uL S e<=17179869184*(2*4096):=LA hm (by omega);omega,λh=>by
    have:m=0:=by cases m with|zero=>rfl|succ m=>simp[List.replicate_succ]at h
    exact this,λhc=>by
    refine⟨w.heap.size,madeCells r.cells (m*j.size),el,rfl,⟨λh=>(by cases h),λh=>absurd h o⟩,vQ w _,by rw[size_madeCells,q];exact bQ _,λi d jj c h1 h2=>?_⟩;obtain⟨v,h3,h4⟩:=a.rel i jj d c h1 h2;refine⟨v,?_,h4⟩;rw[<-q]at h3 ⊢;exact h3⟩ rfl
 refine⟨_,_,_,k,.sh _ _ _ _ (S.width e) _ (Gh.fG _ _ _ _),cO.lW hs ?_ he rfl rfl (DP _) (iP s _ hn)⟩;rw[gC];simp only[cQ,ah,Gy,H];exact M
end
end
section
section
variable {g:Gh}{w:World}
variable {o:Nat}{v:Value}{P:Program}{i:TI}{s s':bq S}{E:gH}{fr:bY S}{a:Act}{c:Bool}{t:V S}
def aM.JL(h:aM g w (.mp o) v):∃b,v=.map (Z b)∧g.cj o=Z b:=by cases h;exact⟨_,rfl,by assumption⟩
def aM.ZK(h:aM g w (.rI o) v):∃b,v=.pointer (Z ⟨b,0,Y⟩)∧g.cj o=Z b:=by cases h;exact⟨_,rfl,by assumption⟩
def aM.ada{k:IntKind}{n:Int}(h:aM g w (.kn k n) v):v=.int k n:=by cases h;rfl
def aM.JM{u:Value}(h:aM g w (.sym (.lit u)) v):v=u:=by cases h with|sym _ _ a=>cases a;rfl
def aM.Re{cs:L T}(h:aM g w (.agg cs) v):∃vs,v=.agg vs∧PW (aM g w) cs vs.toList:=by cases h with|agg _ vs a b=>exact⟨vs,rfl,by simpa using a,λj t v h1 h2=>b j t v h1 (by simpa using h2)⟩
def Hu(P:Program)(d:Nat){ty:TypeId}{a:Array (String×TypeId)}(b:P.underlying ty=Z (.interface a)):(Op.equalIn (d+1) ty .nilIface .nilIface).run P w=.ok W w:=by simp only[Op.equalIn,Sem.run_bind,aO b,Result.andThen_ok];rfl
def SA(P:Program)(d:Nat){ty e:TypeId}(b:P.underlying ty=Z (.slice e))(a:O Addr)(n m:Nat):(Op.equalIn (d+1) ty (.slice a n m) (.slice Y 0 0)).run P w=.ok a.isNone w:=by simp only[Op.equalIn,Sem.run_bind,aO b,Result.andThen_ok];cases a<;>rfl
def Rg(f:fB S){t:TypeId}(j:nc P t i)(k:i.kd=.iface){n:Nat}{x:S.A n}(h:aM g w (eH S (.cR n) x) v)(a:Operand) :
  ((do eqGuard .eql t a (.const .nilIface) v .nilIface;binOp .eql t v .nilIface:Sem Value)).run P w=.ok (.bool (isNil (S.alts n) (S.sq n x))) w∧
  ((do eqGuard .neq t a (.const .nilIface) v .nilIface;binOp .neq t v .nilIface:Sem Value)).run P w=.ok (.bool (!(isNil (S.alts n) (S.sq n x)))) w:=by
 obtain⟨_,d0,_,_,e,_,_,_,_,b⟩:=j.all;rw[k]at b;obtain⟨m,rfl⟩:=b;rw[AO];rcases CU f h with⟨c,rfl⟩|⟨l,d,u,c,rfl,_⟩
 .rw[c];refine nL a (.const .nilIface) rfl rfl (λop=>?_) (Hu P 9999 e);unfold eqGuard;cases op<;>cases a<;>rfl
 .rw[c];refine nL a (.const .nilIface) rfl rfl (λop=>?_) (Hv 9999 e l u);unfold eqGuard;cases op<;>rfl
def Q9{t:TypeId}(c:nc P t i)(d:i.kd=.iface)(h:aM g w (.sym (.lit .nilIface)) v)(b:Operand) :
  ((do eqGuard .eql t b (.const .nilIface) v .nilIface;binOp .eql t v .nilIface:Sem Value)).run P w=.ok (.bool W) w∧
  ((do eqGuard .neq t b (.const .nilIface) v .nilIface;binOp .neq t v .nilIface:Sem Value)).run P w=.ok (.bool J) w:=by
 obtain⟨_,d0,_,_,e,_,_,_,_,a⟩:=c.all;rw[d]at a;obtain⟨f,rfl⟩:=a;cases h with
 |sym _ _ h=>
 cases h;refine nL b (.const .nilIface) rfl rfl (λop=>?_) (Hu P 9999 e);unfold eqGuard;cases op<;>cases b<;>rfl
def acv{t:TypeId}(d:nc P t i){sz qD:Nat}{ag:Bool}{z:L D}(e:i.kd=.slice sz ag qD z)(a:O Addr)(n m:Nat)(c:Operand) :
  ((do eqGuard .eql t c (.const (.slice Y 0 0)) (.slice a n m) (.slice Y 0 0);binOp .eql t (.slice a n m) (.slice Y 0 0):Sem Value)).run P w=.ok (.bool a.isNone) w:=by
 obtain⟨_,d0,_,_,f,_,_,_,_,b⟩:=d.all;rw[e]at b;obtain⟨el,j,g,h,rfl,_⟩:=b;refine(nL c (.const (.slice Y 0 0)) rfl rfl (λop=>?_) (SA P 9999 f a n m)).1;unfold eqGuard;cases op<;>rfl
def acw(hs:bh g (aI s) w){e:Ty}{x:V S}{l:L (den S.A e)}(h:I3 s e x=Z l)(u:aM g w (low x) v):∃a n m,v=.slice a n m∧(a.isNone=W->Yx l=W):=by
 unfold I3 at h;split at h
 .simp only[bg]at h;subst h;cases u with|emp a=>exact⟨a,0,0,rfl,λ_=>rfl⟩
 .rename_i t F;obtain⟨rfl,p⟩:=e8 h;cases p;cases u with
  |jE n P a hn z=>
   refine⟨a,_,_,rfl,λf=>?_⟩;cases z with
   |sl _ _ _ sz val A G H I K=>
   cases F with|nil=>rfl|cons y F=>obtain⟨N,h1,_⟩:=I (by simp);rw[h1]at f;cases f
 .obtain ⟨i,p⟩:=e8 h;cases i;cases p;cases u with|nZ j d c a hj z=>refine⟨a,_,_,rfl,λf=>?_⟩;obtain⟨a',cap,R,_,_,X⟩:=vO z;cases R;obtain⟨N,_,h1,_⟩:=X (by simp);rw[h1]at f;cases f
 .rename_i t x';obtain⟨i,p⟩:=e8 h;subst i;cases p;cases u with
  |sym _ _ z=>
   cases z with
   |sl _ a cap sz val A G H I K=>
   refine⟨a,_,_,rfl,λf=>?_⟩;cases x' with|nil=>rfl|cons y F=>obtain⟨N,h1,_⟩:=I (by simp);rw[h1]at f;cases f
 .rename_i o r;have key:∀(E:Bool)(t:Ty)(k:L (den S.A t))(era:Nat),s.ob.get o=Z (if E then .j8 t k era else .arr t k era)->(bif Nat.beq r era then m9 t e k else Y)=Z l->∃a n m,v=.slice a n m∧(a.isNone=W->Yx l=W):=by
   intro E t k era B h;rcases af h with⟨hb,h⟩|⟨_,h⟩
   .obtain ⟨i,p⟩:=e8 h;subst i;cases p;have M:=beq_iff'.1 hb;subst M;cases u with
    |sh _ _ len cap sz a hx=>
     have C:(aI s).ob.get o=Z (fI E (S.width t) (k.map (enc S t)) r):=by rw[bf,B];cases E<;>rfl
     obtain⟨q,_⟩:=hs.ny C hx;refine⟨a,len,cap,rfl,λf=>?_⟩;cases k with
     |nil=>rfl
     |cons y k=>
      have h1:=q.len;have h2:=q.cap;simp only[lT,eV]at h1 h2;have K:(⟨a,len,cap,sz⟩:fE).cap≠0:=by simp only;omega
      obtain⟨b,vs,ty,h3,_⟩:=q.mem K;simp only at h3;rw[h3]at f;cases f
   .cases h
  split at h
  .rename_i t k era B;exact key J t k era B h
  .rename_i t k era B;exact key W t k era B h
  .cases h
 .cases h
def HV(hX:XOk S E)(hS:fB S)(hf:cG g (bA fr) a w)(hs:bh g (aI s) w)(o:Oper){ty:TypeId}{x ix y:Operand}(C:o.op=.mapUpdate ty x ix y∨o.op=.insert ty x ix y)
  (h:(match E.mt ty,cm fr x,cm fr ix,cm fr y with
  |some m,Z (.mp o),Z k,Z y=>match VZ m.kt k,s.ob.get o with
   |some k,Z (.map kt q l)=>match Ca kt q m.kt q l,bP s q y with
    |some l,Z (y,os)=>match dF s os with
     |some B=>bif Nat.ble s.fl o&&YH m.vt q then Z (W,(fq:V S),{B with ob:=B.ob.set aL o (.map m.kt q (nu m.kt k y l)),wr:=o::B.wr})else Y
     |none=>Y
    |_,_=>Y
   |some k,Z (.GD kt l)=>match M9 kt m.kt l with
    |some l=>bif Nat.ble s.fl o then Z (W,fq,{s with ob:=s.ob.set aL o (.GD m.kt (nu m.kt k y l)),wr:=o::s.wr})else Y
    |none=>Y
   |_,_=>Y
  |_,_,_,_=>Y)=Z (c,t,s')) :
  ∃v w' g',((execOp a.eval o).run E.E.P w=.ok (.value v) w'∨((execOp a.eval o).run E.E.P w=.ok .skip w'∧v=undef))∧aM g' w' (low t) v∧cO [] s g w s' g' w':=by
 split at h;rotate_left
 .cases h
 rename_i m e kv yv hm hx hk hy;obtain⟨kid,d,ht,hu,n,_,_⟩:=hX.mt _ _ hm;obtain⟨b,Wh,hb⟩:=aM.JL (cY hf hx);have j:∀w',(Instr.mapUpdate ty (a.eval x) (a.eval ix) (a.eval y)).run E.E.P w=.ok () w'->(execOp a.eval o).run E.E.P w=.ok .skip w':=by intro w' hr;rcases C with C|C<;>simp[execOp,C,hr]
 split at h
 .rename_i k kt q l r F;have K:=sn r (cY hf hk);split at h;rotate_left
  .cases h
  rename_i l' y' os hcm Mw;obtain⟨rfl,_,M⟩:=M7 hcm;cases M;split at h;rotate_left
  .cases h
  rename_i B N;rcases af h with⟨G,H⟩|⟨_,H⟩;rotate_left
  .cases H
  clear h;simp only[bg,bD]at H;obtain⟨_,rfl,rfl⟩:=H;rw[ec]at G;have hfl:s.fl<=e:=fU G.1;obtain⟨p,hp,ZX⟩:=oA hS s q yv Mw;obtain⟨u,hd⟩:=kO hs _ hp ZX (cY hf hy);obtain⟨g1,I,R,hfr⟩:=ey os hs (dc hS _ N) u;have hyd:=hd g1 _ I R hfr;obtain⟨f1,f2,f3,f4,f5,f6,f7⟩:=eB N;have hno:e∉os:=λhmem=>by have:=(u e hmem).oR (by rw[bf,F];rfl);cases this
  have i:(aI B).ob.get e=Z (cQ (.map m.kt q l')):=by rw[bf,f6 e hno,F];rfl
  have X:g1.cj e=Z b:=R.cj _ _ hb;obtain⟨x0,hh,ZZ⟩:=(I.box e b X).2.2 _ i;obtain⟨ms,cl,rfl,hmr⟩:=g6.Qz n (f:=eH S q) ZZ;obtain⟨ms',c',z,A⟩:=wG (P:=E.E.P) n ht hu k hh hmr (x:=y') (tT hyd);have hlt:=(I.box e b X).2.1;obtain⟨q1,q2,q3⟩:=I6 (.map ms' c') hlt;obtain⟨hs2,he2⟩:=I.setObj X i rfl (by show B.fl<=e;rw[f1];exact hfl) (Yu:=cQ (.map m.kt q (nu m.kt k y' l'))) (NC.ob n (f:=eH S q) A c') q1 q2 q3 rfl rfl;have anc:iK s {B with ob:=B.ob.set aL e (.map m.kt q (nu m.kt k y' l')),wr:=e::B.wr}:=(kR N).trans' (yP f3.symm) (rP _ _ _);refine⟨undef,_,g1,.inr ⟨j _ (by rw[Wh,K];exact z),rfl⟩,.sym _ _ (.lit _),cO.lW hs (by rw[ff];exact hs2) (R.trans (by have h5:=he2;rw[show(aI B).fl=s.fl from f1]at h5;exact h5)) f1 f2 (yP f3.symm) anc⟩
 .rename_i k kt l r F;have K:=sn r (cY hf hk);split at h;rotate_left
  .cases h
  rename_i l' hck;obtain⟨rfl,M⟩:=M8 hck;cases M;rcases af h with⟨G,H⟩|⟨_,H⟩;rotate_left
  .cases H
  clear h;simp only[bg,bD]at H;obtain⟨_,rfl,rfl⟩:=H;have i:(aI s).ob.get e=Z (cQ (.GD m.kt l')):=by rw[bf,F];rfl
  obtain⟨x0,hh,ZZ⟩:=(hs.box e b hb).2.2 _ i;obtain⟨ms,cl,rfl,hmr⟩:=g6.Qz n (f:=low) ZZ;obtain⟨ms',c',z,A⟩:=wG (P:=E.E.P) n ht hu k hh hmr (x:=yv) (cY hf hy);obtain⟨q1,q2,q3⟩:=I6 (.map ms' c') (hs.box e b hb).2.1;obtain⟨hs2,he2⟩:=hs.setObj hb i rfl (fU G) (Yu:=cQ (.GD m.kt (nu m.kt k yv l'))) (NC.ob n (f:=low) A c') q1 q2 q3 rfl rfl;exact⟨undef,_,g,.inr ⟨j _ (by rw[Wh,K];exact z),rfl⟩,.sym _ _ (.lit _),cO.lW hs (by rw[ff];exact hs2) he2 rfl rfl (bQ _) (rP _ _ _)⟩
 .cases h
def Zh(hS:fB S)(hT:zU E.E)(YA:PL S E)(hX:XOk S E)(hf:cG g (bA fr) a w)(hs:bh g (aI s) w)(o:Oper)(h:qU E fr s o.op=Z (c,t,s'))(hc:c=W) :
  ∃v w' g',((execOp a.eval o).run E.E.P w=.ok (.value v) w'∨((execOp a.eval o).run E.E.P w=.ok .skip w'∧v=undef))∧aM g' w' (low t) v∧cO [] s g w s' g' w':=by
 unfold qU at h;split at h
 ·
  rename_i ty r A;rcases af h with⟨hb,B⟩|⟨_,B⟩;rotate_left
  .cases B
  clear h;rw[ec]at hb;have hn:s.aJ<bC:=fU hb.1;split at B;rotate_left
  .cases B
  rename_i m hm;obtain⟨kid,d,ht,hu,C,_,_⟩:=hX.mt _ _ hm;have hr:∀v,r.map a.eval=Z v->∃k n,v=.int k n:=by
   intro v R;cases r with
   |none=>cases R
   |some x=>
    simp only[ee,bg]at R;subst R;have hh:=hb.2;simp only[MB]at hh;split at hh
    .rename_i k n H;exact⟨_,_,(cY hf H).ada⟩
    .rename_i k n H;exact⟨_,_,aM.JM (cY hf H)⟩
    .cases hh
  have fin:∀ob:wv S,cQ ob=.map []->(W,(.mp s.aJ:V S),dw s ob)=(c,t,s')->
    ∃v w' g',((execOp a.eval o).run E.E.P w=.ok (.value v) w'∨((execOp a.eval o).run E.E.P w=.ok .skip w'∧v=undef))∧aM g' w' (low t) v∧cO [] s g w s' g' w':=λob OW he=>by
   simp only[bD]at he;obtain⟨_,rfl,rfl⟩:=he;obtain⟨v,w',g',h1,h2,h3⟩:=JA (P:=E.E.P) hs hn ht hr OW;exact⟨v,w',g',.inl (by simp[execOp,A,h1]),h2,h3⟩
  split at B
  .exact fin _ rfl (eO B)
  .exact fin _ rfl (eO B)
 ·
  rename_i ty x ix ok A;split at h;rotate_left
  .cases h
  rename_i m xv kv hm H hk;split at h;rotate_left
  .cases h
  rename_i vt hvt;split at h;rotate_left
  .cases h
  rename_i k l hkey F;simp only[bg,bD]at h;obtain⟨_,rfl,rfl⟩:=h;obtain⟨kid,d,ht,hu,C,⟨xi,z,I,hz⟩,hvv⟩:=hX.mt _ _ hm;obtain⟨ahn,i,ZS⟩:=hvv vt hvt;have hke:=sn hkey (cY hf hk);have hxr:=cY hf H;have M:aM g w (eH S vt (S.zero vt)) z:=tT (Hg hS (hT.ti _ _ ZS) (YA.row _ _ _ ZS ahn) (hX.zr _ _ _ ZS ahn) I hz);have fin:∀(u:Value)(b:Bool),(Instr.lookup ty (a.eval x) (a.eval ix) ok).run E.E.P w=.ok (if ok then .tuple #[u,.bool b]else u) w->aM g w (eH S vt (Gl m.kt (S.zero vt) k l)) u->b=EM m.kt k l->
    ∃v w' g',((execOp a.eval o).run E.E.P w=.ok (.value v) w'∨((execOp a.eval o).run E.E.P w=.ok .skip w'∧v=undef))∧
     aM g' w' (low (bif ok then .gB [.ty vt (Gl m.kt (S.zero vt) k l),.ty .bool (EM m.kt k l)]else .ty vt (Gl m.kt (S.zero vt) k l):V S)) v∧cO [] s g w s g' w':=by
   intro u b X hu hbb;refine⟨_,w,g,.inl (by simp only[execOp,A,Sem.run_bind,X,Result.andThen_ok,Sem.run_pure];rfl),?_,cO.refl hs⟩;cases ok with
   |false=>exact hu
   |true=>
    subst hbb;refine .gB _ _ rfl λj t' v' h1 h2=>?_
    match j with
    |0=>simp[bn]at h1 h2;subst h1;subst h2;exact hu
    |1=>simp[bn]at h1 h2;subst h1;subst h2;exact .sym _ _ (.lit _)
    |j+2=>simp[bn]at h1
  unfold VL at F;split at F
  .rename_i oid;split at F
   .rename_i kt' vt' l' OW;obtain⟨rfl,rfl,hll⟩:=M7 F;cases hll;obtain⟨b,Wh,hb⟩:=aM.JL hxr;obtain⟨x0,hh,ZZ⟩:=(hs.box oid b hb).2.2 _ (by rw[bf,OW];rfl);obtain⟨ms,cl,rfl,hmr⟩:=g6.Qz C (f:=eH S vt') ZZ;have hlk:=DE (P:=E.E.P) C ht hu I hz k hh hmr.1 (λj p q h1 h2=>(hmr.2 j p q h1 h2).1) ok;obtain⟨r1,r2⟩:=OF (f:=eH S vt') (k:=k) hmr M;refine fin _ _ ?_ r1 r2;rw[hke,Wh,hlk];cases hq:(Gm m.kt k l').bind λj=>(ms[j]?).map (·.val)with|none=>simp[hq]|some v=>simp[hq]
   .cases F
  .simp only[bg]at F;subst F;refine fin z J ?_ M rfl;rw[hke,aM.JM hxr];exact DD C ht hu I hz k ok
  .cases F
 .exact HV hX hS hf hs o (.inl ‹_›) h
 .exact HV hX hS hf hs o (.inr ‹_›) h
 ·
  rename_i ty n cp A;split at h;rotate_left
  .cases h
  rename_i i e nv cv G he hn hcv;split at h;rotate_left
  .cases h
  rename_i n1 c1 C hn1 Yz;rcases af h with⟨hb,B⟩|⟨_,B⟩;rotate_left
  .cases B
  simp only[bg,bD]at B;obtain⟨rfl,rfl,rfl⟩:=B;rw[ec]at hc;have hcn:c1=n1:=by simpa[iq]using hc.2
  subst hcn;obtain⟨p,hp,ZX⟩:=fQ hn1;obtain⟨q,hq,hqq⟩:=fQ Yz;have e1:=dN hp ZX (cY hf hn);have e2:=dN hq hqq (cY hf hcv);obtain⟨v,w',g',h1,h2,h3⟩:=Ep (P:=E.E.P) hS hs (fU hb) (hT.ti _ _ G) (YA.row _ _ _ G he) hc.1 .i64 .i64;exact⟨v,w',g',.inl (by simp[execOp,A,e1,e2,h1]),h2,h3⟩
 ·
  rename_i ty x A;split at h;rotate_left
  .cases h
  rename_i i xv G H;split at h;rotate_left
  .cases h
  rename_i b C hb;rcases af h with⟨hn,B⟩|⟨_,B⟩;rotate_left
  .cases B
  simp only[bg,bD]at B;obtain⟨_,rfl,rfl⟩:=B;obtain⟨p,hp,ZX⟩:=ke hb;have e1:=g7 hp ZX (cY hf H);obtain⟨_,d0,_,_,hu,_,_,_,_,hk⟩:=(hT.ti _ _ G).all;rw[C]at hk;cases hk;obtain⟨v,w',g',h1,h2,h3⟩:=Oi (P:=E.E.P) hs (fU hn) hu b;exact⟨v,w',g',.inl (by simp[execOp,A,e1,h1]),h2,h3⟩
 ·
  rename_i ty x u A;split at h;rotate_left
  .rename_i i G H;split at h;rotate_left
   .cases h
   rename_i C;simp only[bg,bD]at h;obtain⟨_,rfl,rfl⟩:=h;have:=(Q9 (w:=w) (hT.ti _ _ G) C (cY hf H) x).1;exact⟨_,w,g,.inl (by simp only[execOp,A,Sem.run_bind]at this ⊢;simp only[Act.eval]at this ⊢;rw[this];rfl),.kb W,cO.refl hs⟩
  .cases h
  rename_i i n y G H;split at h;rotate_left
  .cases h
  rename_i C;simp only[bg,bD]at h;obtain⟨_,rfl,rfl⟩:=h;have:=(Rg (S:=S) hS (hT.ti _ _ G) C (cY hf H) x).1;exact⟨_,w,g,.inl (by simp only[execOp,A,Sem.run_bind]at this ⊢;simp only[Act.eval]at this ⊢;rw[this];rfl),.sym _ _ (.lit _),cO.refl hs⟩
 ·
  rename_i ty x u A;split at h;rotate_left
  .rename_i i G H;split at h;rotate_left
   .cases h
   rename_i C;simp only[bg,bD]at h;obtain⟨_,rfl,rfl⟩:=h;have:=(Q9 (w:=w) (hT.ti _ _ G) C (cY hf H) x).2;exact⟨_,w,g,.inl (by simp only[execOp,A,Sem.run_bind]at this ⊢;simp only[Act.eval]at this ⊢;rw[this];rfl),.kb J,cO.refl hs⟩
  .cases h
  rename_i i n y G H;split at h;rotate_left
  .cases h
  rename_i C;simp only[bg,bD]at h;obtain⟨_,rfl,rfl⟩:=h;have:=(Rg (S:=S) hS (hT.ti _ _ G) C (cY hf H) x).2;exact⟨_,w,g,.inl (by simp only[execOp,A,Sem.run_bind]at this ⊢;simp only[Act.eval]at this ⊢;rw[this];rfl),.sym _ _ (.lit _),cO.refl hs⟩
 ·
  rename_i ty x u A;split at h;rotate_left
  .cases h
  rename_i i e xv G he H;split at h;rotate_left
  .cases h
  rename_i l C hl;simp only[bg,bD]at h;obtain⟨_,rfl,rfl⟩:=h;obtain⟨ad,n,m,R,hE⟩:=acw hs hl (cY hf H);have:=acv (w:=w) (hT.ti _ _ G) C ad n m x;exact⟨_,w,g,.inl (by rw[<-R]at this;simp only[execOp,A,Sem.run_bind]at this ⊢;simp only[Act.eval]at this ⊢;rw[this];rfl),.ub _ _ hE,cO.refl hs⟩
 ·
  rename_i x A;split at h;rotate_left
  .cases h
  rename_i n y H;simp only[bg,bD]at h;obtain⟨rfl,rfl,rfl⟩:=h;have hr:=cY hf H;rw[AO]at hc;rcases CU hS (show aM g w (eH S (.cR n) y) (a.eval x)from hr)with⟨he,_⟩|⟨t',d,u,he,R,_⟩
  .rw[he]at hc;cases hc
  .exact ⟨_,w,g,.inl (by simp[execOp,A,R]),R▸hr,cO.refl hs⟩
 ·
  rename_i x xt ty ok A;split at h;rotate_left
  .cases h
  rename_i i τ n y G he H;obtain⟨xi,d1,z,I,Rj,_,hag,hzx,zf,Up⟩:=(hT.ti _ _ G).all;have hni:i.kd≠.iface->∀ms,d1≠.interface ms:=λhk ms hd=>hk ((hT.ti _ _ G).nif ms (by rw[Rj,hd]));have hr:=CU hS (show aM g w (eH S (.cR n) y) (a.eval x)from cY hf H);have M:aM g w (eH S τ (S.zero τ)) z:=tT (Hg hS (hT.ti _ _ G) (YA.row _ _ _ G he) (hX.zr _ _ _ G he) I hzx);have hno:i.kd≠.iface->(∀d,sB S (S.alts n) (S.sq n y)≠Z (ty,d))->(Instr.typeAssert (a.eval x) xt ty W).run E.E.P w=.ok (.tuple #[z,.bool J]) w:=by
   intro hk hne;rcases hr with⟨_,R⟩|⟨t',d,u,he',R,_⟩
   .rw[R];simp only[Instr.typeAssert,Sem.run_bind,aO Rj,Result.andThen_ok];cases d1 with|interface ms=>exact absurd rfl (hni hk ms)|_=>simp[er I hzx]
   .have am4:t'≠ty:=λe=>hne d (e▸he');rw[R];simp only[Instr.typeAssert,Sem.run_bind,aO Rj,Result.andThen_ok];cases d1 with|interface ms=>exact absurd rfl (hni hk ms)|_=>simp[am4,er I hzx]
  split at h
  .cases h
  .rename_i j hj hk;rcases af h with⟨hb,B⟩|⟨_,B⟩;rotate_left
   .cases B
   clear h;have hte:=fM hb;have hk':i.kd≠.iface:=λe=>hk e;rcases E2 (S.alts n) ty j (S.sq n y) S.zero (hS.alts n) hj with⟨h1,h2⟩|⟨h1,h2,h3⟩
   ·
    rcases hr with⟨he',_⟩|⟨t',d,u,he',R,hd⟩
    .rw[he']at h2;cases h2
    rw[he']at h2;simp only[bg,bD]at h2;obtain⟨rfl,rfl⟩:=h2;have X:∀ok,(Instr.typeAssert (a.eval x) xt t' ok).run E.E.P w=.ok (if ok then .tuple #[u,.bool W]else u) w:=by intro ok;rw[R];simp only[Instr.typeAssert,Sem.run_bind,aO Rj,Result.andThen_ok];cases d1 with|interface ms=>exact absurd rfl (hni hk' ms)|_=>simp
    rcases af B with⟨K,B⟩|⟨K,B⟩
    .simp only[bg,bD]at B;obtain⟨_,rfl,rfl⟩:=B;subst K;refine⟨_,w,g,.inl (by simp only[execOp,A,Sem.run_bind,X,Result.andThen_ok,Sem.run_pure];rfl),.gB _ _ rfl λq t v N k2=>?_,cO.refl hs⟩
     match q with
     |0=>simp[bn]at N k2;subst N;subst k2;exact tT hd
     |1=>simp[bn]at N k2;subst N;subst k2;rw[h1];exact .sym _ _ (.lit _)
     |q+2=>simp[bn]at N
    .simp only[bg,bD]at B;obtain⟨_,rfl,rfl⟩:=B;subst K;exact⟨_,w,g,.inl (by simp only[execOp,A,Sem.run_bind,X,Result.andThen_ok,Sem.run_pure];rfl),tT hd,cO.refl hs⟩
   ·
    rcases af B with⟨K,B⟩|⟨K,B⟩
    .simp only[bg,bD]at B;obtain⟨_,rfl,rfl⟩:=B;subst K;refine⟨_,w,g,.inl (by simp only[execOp,A,Sem.run_bind,hno hk' h3,Result.andThen_ok,Sem.run_pure];rfl),.gB _ _ rfl λq t v N k2=>?_,cO.refl hs⟩
     match q with
     |0=>simp[bn]at N k2;subst N;subst k2;simp only[low];rw[h2];subst hte;exact M
     |1=>simp[bn]at N k2;subst N;subst k2;rw[h1];exact .sym _ _ (.lit _)
     |q+2=>simp[bn]at N
    .simp only[bg,bD]at B;obtain⟨rfl,_⟩:=B;rw[h1]at hc;cases hc
  .rename_i hj hk;have hk':i.kd≠.iface:=λe=>hk e;rcases af h with⟨K,B⟩|⟨K,B⟩;rotate_left
   .cases B
   simp only[bg,bD]at B;obtain⟨_,rfl,rfl⟩:=B;subst K;refine⟨_,w,g,.inl (by simp only[execOp,A,Sem.run_bind,hno hk' (λd=>E2.AN _ _ _ hj d),Result.andThen_ok,Sem.run_pure];rfl),.gB _ _ rfl λq t v N k2=>?_,cO.refl hs⟩
   match q with
   |0=>simp[bn]at N k2;subst N;subst k2;exact M
   |1=>simp[bn]at N k2;subst N;subst k2;exact .kb _
   |q+2=>simp[bn]at N
 ·
  rename_i ty ps A;split at h;rotate_left
  .cases h
  rename_i i pv G hps;split at h;rotate_left
  .cases h
  rename_i len sz ag C;simp only[eG,bD]at h;obtain⟨cs,hcs,_,rfl,rfl⟩:=h;obtain⟨p,hfl,hp⟩:=AH hS hcs;rw[l8]at hfl;obtain⟨xi,d1,z,I,Rj,_,hag,hzx,zf,Up⟩:=(hT.ti _ _ G).all;rw[C]at Up;obtain⟨el,j,d',rfl,hj,Mz,hju,_⟩:=Up;have M:=qE (g:=g) (w:=w) zf;obtain⟨rs,h1,h2⟩:=uA (g:=g) (w:=w) (pl:=λk=>Z (k*sz,sz)) (λk off ti NX=>by
   simp only[bg,bD]at NX;obtain⟨rfl,rfl⟩:=NX;rfl) _ _ hfl hp (nP hf (rZ hps)) ⟨by simpa using M.1,λj t v h1 h2=>M.2 j t v h1 (by simpa using h2)⟩
  refine⟨.agg rs,w,g,.inl ?_,.agg _ _ (by simpa using h2.1) (λj t v h3 h4=>h2.2 j t v h3 (by simpa using h4)),cO.refl hs⟩;have ahk:Instr.fill (λi=>Z (i*sz,sz)) z.cells (ps.map λ(i,x)=>(i,a.eval x)).toList=Z rs:=by simpa using h1
  simp only[execOp,A,Instr.build,Sem.run_bind,er I hzx,aO Rj,dI hj,Mz,Result.andThen_ok,Sem.run_pure,ahk]
 .cases h
end
end
section
section
variable {g:Gh}{w:World}
def IC{β:Type}{ω:Type}{X:V S->bq S->O ω}{D:O ω}{a:Ty}(k:den S.A a)(f:β->V S)(s:bq S):∀(l:L (den S.A a×β)),
  tc X D (l.map λp=>(H8 a k p.1,f p.2,s))=match(Gm a k l).bind (l[·]?)with
   |some p=>X (f p.2) s
   |none=>D
 |[]=>rfl
 |p::l=>by
  simp only[lT,tc,Gm];cases b:H8 a k p.1 with
  |true=>simp[aj]
  |false=>
   simp only[aj,dS];rw[IC k f s l];cases Gm a k l with|none=>rfl|some j=>simp
def uQ{ω:Type}{X:V S->bq S->O ω}{n:Int}{ag:Bool}{sz:Nat}{cs:L (V S)}{s:bq S}{r:ω}:∀{l:L Nat},tc X Y (xW n ag sz cs s l)=Z r->
  ∃j v,j∈l∧n=(j:Int)∧((cs.drop (j*sz)).take sz).length=sz∧0<sz∧yV ag ((cs.drop (j*sz)).take sz)=Z v∧X v s=Z r
 |[],h=>by cases h
 |j::l,h=>by
  simp only[xW]at h;split at h
  .rename_i v a;rcases af a with⟨b,a⟩|⟨_,a⟩;rotate_left
   .cases a
   rw[ec]at b;have d:=beq_iff'.1 b.1;rw[bL]at d;simp only[tc]at h;rcases Ht h with⟨e,h⟩|⟨_,h⟩
   .exact ⟨j,v,eD,by simpa[iq]using e,d,fU b.2,a,h⟩
   .obtain ⟨i,u,h1,h2⟩:=uQ h;exact⟨i,u,gO _ h1,h2⟩
  .cases h
where
 Ht {α:Type} {c:Bool} {x y:O α} {r:α} (h:aj c x y=Z r):(c=W∧x=Z r)∨(c=J∧y=Z r):=af h
variable {s s':bq S}{E:gH}{fr:bY S}{a:Act}{o:Oper}{f:FuncId}
def Q6(hT:zU E.E)(hX:XOk S E)(hf:cG g (bA fr) a w)(hs:bh g (aI s) w)(o:Oper){PC:L (Bool×V S×bq S)}{p:Bool}{d:V S}(h:iI E fr s o.op=Z (PC,p,d,s')){ω:Type}{X:V S->bq S->O ω}{r:ω}
  (A:tc X (aD p (X d s')) PC=Z r) :
  ∃t s1 v w' g',X t s1=Z r∧((execOp a.eval o).run E.E.P w=.ok (.value v) w'∨((execOp a.eval o).run E.E.P w=.ok .skip w'∧v=undef))∧aM g' w' (low t) v∧cO [] s g w s1 g' w'∧((∀it b,o.op≠.next it b)->s1=s):=by
 unfold iI at h;split at h
 ·
  rename_i it y;split at h;rotate_left
  .cases h
  rename_i F hit;split at h;rotate_left
  .cases h
  rename_i b pos OW;rcases af h with⟨hfl,K⟩|⟨_,K⟩;rotate_left
  .cases K
  clear h;simp only[bg,bD]at K;obtain⟨rfl,rfl,rfl,rfl⟩:=K;obtain⟨cj,hie,hb⟩:=aM.ZK (cY hf hit);have Mx:(aI s).ob.get F=Z (.pH (bK b) pos):=by rw[bf,OW];rfl
  obtain⟨x0,hh,ZZ⟩:=(hs.box F cj hb).2.2 _ Mx;have M:=(hs.box F cj hb).2.1;cases ZZ;have cJ:(getObj cj).run E.E.P w=.ok (.stringIter (bK b) pos) w:=by simp[getObj,Sem.run,hh]
  have qq:∀x,(setObj cj x).run E.E.P w=.ok () {w with heap:=w.heap.setIfInBounds cj x}:=λx=>by simp[setObj,Sem.run,hh]
  have G:(bK b).size=b.length:=by simp[bK,ByteArray.size]
  simp only[tc]at A;rcases uQ.Ht A with⟨hp,A⟩|⟨hp,A⟩
  .have hp':pos<(bK b).size:=by rw[G];simpa[Oo]using hp
   obtain⟨q1,q2,q3⟩:=I6 (.stringIter (bK b) (pos+Gp b pos)) M;obtain⟨hs2,he2⟩:=hs.setObj hb Mx rfl (fU hfl) (Yu:=.pH (bK b) (pos+Gp b pos)) (.pH _ _) q1 q2 q3 rfl rfl;refine⟨_,_,.tuple #[.bool W,goInt pos,.int .i32 (sY b pos)],_,g,A,.inl ?_,.gB _ _ rfl λq t v B C=>?_,cO.lW hs (by rw[ff];exact hs2) he2 rfl rfl (bQ _) (rP _ _ _),λhh=>absurd y (hh it W)⟩
   .have H:(Instr.next (a.eval it) W o.type).run E.E.P w=.ok (.tuple #[.bool W,goInt pos,.int .i32 (sY b pos)]) {w with heap:=w.heap.setIfInBounds cj (.stringIter (bK b) (pos+Gp b pos))}:=by rw[hie];simp only[Instr.next,Sem.run_bind,cJ,Result.andThen_ok,hp',fY,qq];rfl
    simp only[execOp,y,Sem.run_bind,H,Result.andThen_ok,Sem.run_pure]
   .match q with
    |0=>simp[bn]at B C;subst B;subst C;exact .kb _
    |1=>simp[bn]at B C;subst B;subst C;exact .sym _ _ (.lit _)
    |2=>simp[bn]at B C;subst B;subst C;exact .sym _ _ (.lit _)
    |q+3=>simp[bn]at B
  .have hp':¬pos<(bK b).size:=by rw[G];simpa[Oo]using hp
   simp only[aD,cH]at A;refine⟨_,_,.tuple #[.bool J],w,g,A,.inl ?_,.gB _ _ rfl λq t v B C=>?_,cO.refl hs,λhh=>absurd y (hh it W)⟩
   .have H:(Instr.next (a.eval it) W o.type).run E.E.P w=.ok (.tuple #[.bool J]) w:=by rw[hie];simp only[Instr.next,Sem.run_bind,cJ,Result.andThen_ok,hp',eT];rfl
    simp only[execOp,y,Sem.run_bind,H,Result.andThen_ok,Sem.run_pure]
   .match q with
    |0=>simp[bn]at B C;subst B;subst C;exact .kb _
    |q+1=>simp[bn]at B
 ·
  rename_i ty x ix ok y;split at h;rotate_left
  .cases h
  rename_i m F kv hm hx hk;split at h;rotate_left
  .cases h
  rename_i kt l k i OW hkey ZS;split at h;rotate_left
  .cases h
  rename_i l' z hck hpz;simp only[bg,bD]at h;obtain⟨rfl,rfl,rfl,rfl⟩:=h;obtain⟨rfl,hll⟩:=M8 hck;cases hll;obtain⟨kid,dd,ht,hu,N,⟨xi,zv,OS,hz⟩,_⟩:=hX.mt _ _ hm;have hke:=sn hkey (cY hf hk);obtain⟨b,Wh,hb⟩:=aM.JL (cY hf hx);obtain⟨x0,hh,ZZ⟩:=(hs.box F b hb).2.2 _ (by rw[bf,OW];rfl);obtain⟨ms,cl,rfl,R⟩:=g6.Qz N (f:=low) ZZ;have hlk:=DE (P:=E.E.P) N ht hu OS hz k hh R.1 (λj p q h1 h2=>(R.2 j p q h1 h2).1) ok;have hzr:aM g w (low z) zv:=by
   obtain⟨x',_,z',hx',_,_,hag,hz',zf,_⟩:=(hT.ti _ _ ZS).all;rw[OS]at hx';cases hx';rw[hz]at hz';cases hz';obtain⟨hza,hzn⟩:=(hT.ti _ _ ZS).zag _ _ OS hz;obtain⟨hz1,hz2⟩:=qE (g:=g) (w:=w) zf;have hp:=oc hpz;rw[l8]at hp;obtain⟨e,_⟩:=vG (g:=g) (w:=w) hp (vals:=zv.cells.toList) (by simpa using hz1) (λj t v h1 h2=>hz2 j t v h1 (by simpa using h2));cases hia:i.agg with
   |true=>obtain⟨vs,rfl⟩:=hza hia;rw[hia]at e;simpa[Value.cells]using e
   |false=>have:=hzn hia;rw[hia,this]at e;simpa using e
  rw[IC k (λv=>bif ok then .gB [v,.kb W]else v) s l']at A;have wrap:∀(t:V S)(u:Value)(bb:Bool),aM g w (low t) u->aM g w (low (bif ok then .gB [t,.kb bb]else t:V S)) (if ok then .tuple #[u,.bool bb]else u):=by
   intro t u bb hu;cases ok with
   |false=>exact hu
   |true=>
    refine .gB _ _ rfl λq t v B C=>?_
    match q with
    |0=>simp[bn]at B C;subst B;subst C;exact hu
    |1=>simp[bn]at B C;subst B;subst C;exact .kb _
    |q+2=>simp[bn]at B
  have c:=hlk;rw[<-Wh,<-hke]at c;cases hix:Gm m.kt k l' with
  |none=>rw[hix]at A c;simp only[QM]at A c;simp only[aD,cH]at A;exact⟨_,_,_,w,g,A,.inl (by simp only[execOp,y,Sem.run_bind,c,Result.andThen_ok,Sem.run_pure]),wrap z zv J hzr,cO.refl hs,λ_=>rfl⟩
  |some j=>
   obtain⟨q,hq,_⟩:=ze hix;have hj:j<ms.size:=by rw[<-R.1];exact aF hq
   have hmj:ms[j]?=Z ms[j]:=oI hj;rw[hix]at A c;simp only[Jm,hq,hmj,ee]at A c;exact⟨_,_,_,w,g,A,.inl (by simp only[execOp,y,Sem.run_bind,c,Result.andThen_ok,Sem.run_pure]),wrap q.2 _ W (R.2 j q _ hq hmj).2,cO.refl hs,λ_=>rfl⟩
 ·
  rename_i ty x ix y;split at h;rotate_left
  .cases h
  rename_i i cs kv hi hx hk;split at h;rotate_left
  .cases h
  rename_i len sz ag n N hn;rcases af h with⟨hlen,K⟩|⟨_,K⟩;rotate_left
  .cases K
  clear h;simp only[bg,bD]at K;obtain⟨rfl,rfl,rfl,rfl⟩:=K;simp only[aD,dS]at A;obtain⟨j,v,Z3,rfl,hl,hsz,hpk,hXv⟩:=uQ A;have hjl:j<len:=Lz.1 Z3;obtain⟨pq,hp,ZX⟩:=fQ hn;have e1:=dN hp ZX (cY hf hk);obtain⟨_,d1,_,_,Rj,hsz1,hag1,_,_,Up⟩:=(hT.ti _ _ hi).all;rw[N]at Up;obtain⟨el,jj,d',rfl,hj1,hj2,hj3,hj4⟩:=Up;obtain⟨vs,Wh,nV⟩:=aM.Re (cY hf hx);have I:=(nV.drop (j*sz)).take sz;have M:=oc hpk;rw[jc,jd]at M;obtain⟨e,h1⟩:=vG (g:=g) (w:=w) M I.1 I.2;have hlv:((vs.toList.drop (j*sz)).take sz).length=sz:=by rw[<-I.1,<-jd,<-jc,eW];exact hl
  have hle:j*sz+sz<=vs.size:=by simp at hlv;omega
  have hrp:=Lm (P:=E.E.P) (w:=w) hj1 hj3 vs (j*sz) (by rw[hj2];exact hle) (λhd=>by
   rw[<-hj4]at hd;obtain⟨v,hv⟩:=h1 hd;rw[hv]at hlv;rw[hj2];exact hlv.symm)
  rw[hj2,<-hj4]at hrp;refine⟨v,s,_,w,g,hXv,.inl ?_,e,cO.refl hs,λ_=>rfl⟩;have hin:(0:Int)<=(j:Int)∧(j:Int)<(len:Int):=by omega
  simp only[execOp,y,Instr.index,e1,Wh,asIntOf,Sem.run_bind,Sem.run_pure,Result.andThen_ok,aO Rj,bJ hin,dI hj1,hj2,Gy,hrp]
 .cases h
def YR(P:Program)(a:Array TypeId)(ty:TypeId)(m n:Int):(Builtin.max_ a ty #[.int .i64 m,.int .i64 n]).run P w=.ok (.int .i64 (El m n)) w:=by simp only[Builtin.max_,List.foldlM_cons,List.foldlM_nil,Builtin.max2,El,D.bO];by_cases h:m<n<;>simp[h]
def YQ(P:Program)(a:Array TypeId)(ty:TypeId)(m n:Int):(Builtin.min_ a ty #[.int .i64 m,.int .i64 n]).run P w=.ok (.int .i64 (OA m n)) w:=by simp only[Builtin.min_,List.foldlM_cons,List.foldlM_nil,Builtin.min2,OA,D.bO];by_cases h:n<m<;>simp[h]
def zM(hX:XOk S E)(hs:bh g (aI s) w)(hf:cG g (bA fr) a w){j:Call}(r:o.op=.call j){b:Builtin}(N:j.callee=.builtin b){args:L (V S)}(z:jX fr j.args.toList=Z args){c:Bool}{t:V S}
  (h:rC E s b j.argTypes args=Z (c,t,s')):s'=s∧∃v,(execOp a.eval o).run E.E.P w=.ok (.value v) w∧aM g w (low t) v:=by
 have e:=fu hf (gU z);unfold rC at h;split at h
 .rename_i A;have key:∀(l:Nat)(ob:wv S),s.ob.get A=Z ob->(∀x,g6 g w (cQ ob) x->∃k c,x=.map k c∧k.size=l)->∀m,(nth j.argTypes.toList 0).bind E.mt=Z m->
    ∃v,(execOp a.eval o).run E.E.P w=.ok (.value v) w∧aM g w (low (.ty (.int .i64) (l:Int):V S)) v:=by
   intro l ob i C m f;simp only[rW]at f;obtain⟨ty,F,P⟩:=f;obtain⟨kid,d,ht,_⟩:=hX.mt _ _ P;have h0:aM g w (.mp A) ((j.args.toList.map a.eval)[0]'(by have:=e.1;simp[bn]at this;simp;omega)):=e.2 0 _ _ rfl (fN _);obtain⟨cj,R,G⟩:=aM.JL h0;obtain⟨x0,hh,X⟩:=(hs.box A cj G).2.2 _ (by rw[bf,i];rfl);obtain⟨k,cc,rfl,hms⟩:=C _ X;have cJ:(getObj cj).run E.E.P w=.ok (.map k cc) w:=rS hh;have ha0:(j.args.map a.eval)[0]?=Z (.map (Z cj)):=by
    have H:0<(j.args.toList.map a.eval).length:=by have:=e.1;simp[bn]at this;simp;omega
    have:=fN H;rw[R]at this;simpa using this
   have I:j.argTypes[0]?=Z ty:=by rw[jv]at F;simpa using F
   refine⟨goInt k.size,?_,by rw[hms];exact .sym _ _ (.lit _)⟩;simp only[execOp,r,resolve,N,Sem.run_bind,Sem.run_pure,Result.andThen_ok,invoke,builtin,Builtin.len_,I,ha0,aO ht,cJ]
  split at h
  .rename_i m kt vt l f i;simp only[bg,bD]at h;obtain⟨_,rfl,rfl⟩:=h;exact⟨rfl,key l.length _ i (λx C=>by cases C with|map _ k c K _=>exact⟨k,c,rfl,by simpa using K.symm⟩) m f⟩
  .rename_i m kt l f i;simp only[bg,bD]at h;obtain⟨_,rfl,rfl⟩:=h;exact⟨rfl,key l.length _ i (λx C=>by cases C with|map _ k c K _=>exact⟨k,c,rfl,by simpa using K.symm⟩) m f⟩
  .cases h
 .rename_i x y;split at h;rotate_left
  .cases h
  rename_i m n f M;simp only[bg,bD]at h;obtain⟨_,rfl,rfl⟩:=h;obtain⟨a1,ha⟩:=KX e f M;refine⟨rfl,.int .i64 (El m n),?_,.sym _ _ (.lit _)⟩;simp only[execOp,r,resolve,N,Sem.run_bind,Sem.run_pure,Result.andThen_ok,invoke,builtin,ha,YR]
 .rename_i x y;split at h;rotate_left
  .cases h
  rename_i m n f M;simp only[bg,bD]at h;obtain⟨_,rfl,rfl⟩:=h;obtain⟨a1,ha⟩:=KX e f M;refine⟨rfl,.int .i64 (OA m n),?_,.sym _ _ (.lit _)⟩;simp only[execOp,r,resolve,N,Sem.run_bind,Sem.run_pure,Result.andThen_ok,invoke,builtin,ha,YQ]
 .cases h
where
 KX {l:Array Operand} {a:Act} {x y:V S} {m n:Int} (e:PW (aM g w) (bn [x,y]) (l.toList.map a.eval)) (f:gf .i64 x=Z m) (M:gf .i64 y=Z n):True∧l.map a.eval=#[.int .i64 m,.int .i64 n]:=by
  refine⟨trivial,?_⟩;have K:(l.toList.map a.eval).length=2:=by have:=e.1;simpa[bn]using this.symm
  match B:l.toList.map a.eval,K with
  |[u,v],_=>rw[B]at e;have h1:=e.2 0 _ _ rfl rfl;have h2:=e.2 1 _ _ rfl rfl;obtain⟨p,hp,ZX⟩:=fQ f;obtain⟨q,hq,hqq⟩:=fQ M;rw[dN hp ZX h1,dN hq hqq h2]at B;apply DO;simpa using B
def Oe(k:XOk S E){t:TypeId}{g:String}(h:E.Jx t g=Z f)(v:Value)(args:Array Value)(hf:mD E.E.P f):(callMethod (.iface t v) g args).run E.E.P w=.ok (.enter f (#[v]++args)) w:=by
 obtain⟨x,q,d,l,m,o,j,c⟩:=k.Jx _ _ _ h;obtain⟨n,p⟩:∃n,E.E.P.types.size+Made.depth=n+1:=⟨E.E.P.types.size+Made.depth-1,by unfold Made.depth;omega⟩;have a:(method (E.E.P.types.size+Made.depth) t v g).run E.E.P w=.ok (f,v) w:=by
  rw[p];simp only[method,Sem.run_bind,qh l,Result.andThen_ok,m,o,follow,Sem.run_pure];rcases c with⟨c,i⟩|⟨c,e,rfl⟩
  .simp only[c,Sem.run_bind,receiverAt,aO j,Result.andThen_ok];cases d<;>first|(exact absurd rfl (i _))|(simp[Place.get])
  .simp only[c,Sem.run_bind,receiverAt,aO j,Result.andThen_ok];simp[Place.get]
 have b:(Go.program).run E.E.P w=.ok E.E.P w:=rfl;simp only[callMethod,Sem.run_bind,b,Result.andThen_ok,a,vE hf]
def Ln(b:XOk S E){c:Call}(d:o.op=.call c){x:Operand}{m:String}(g:c.callee=.invoke x m){t:TypeId}{v:Value}(i:a.eval x=.iface t v)(h:E.Jx t m=Z f)(j:mD E.E.P f) :
  (execOp a.eval o).run E.E.P w=.ok (.enter f (#[v]++c.args.map a.eval)) w:=by
 simp only[execOp,d,resolve,g,i,Sem.run_bind,Sem.run_pure,Result.andThen_ok,invoke];simp only[QT,LG,eV,xy,Nat.lt_add_one,fY,Ol,qO];have e:(#[Value.iface t v]++c.args.map a.eval).extract 1 (#[Value.iface t v]++c.args.map a.eval).size=c.args.map a.eval:=by apply DO;simp only[Array.toList_extract,Gz,QL,Vo];simp;exact List.take_of_length_le (by simp)
 rw[e];exact Oe b h v _ j
end
end
section
section
variable {g:Gh}{w:World}
def j9(s:bq S)(o:Nat)(ob:Ob):St:={aI s with ob:=(aI s).ob.set aL o ob}
variable {s s':bq S}{o n j era m gL k r i off:Nat}{hole:Option Nat}{hl:List Value}{d:D}{h v:Value}{a:Act}
def Hh(hs:bh g (aI s) w){l:L (S.A n)}{x:fE}(a:s.ob.get o=Z (.kB n j l era m gL hole))(b:g.arr o era=Z x) :
  ∃hl,hl.length=l.length∧vn g w J (S.width (.st n)) (lits j (l.map (enc S (.st n))) hl) x∧GY g m gL hole hl∧bh g (j9 s o (.arr (S.width (.st n)) (lits j (l.map (enc S (.st n))) hl) era)) w:=by
 obtain⟨hl,h1,h2,h3,h4⟩:=hs.view (by rw[bf,a];rfl) b;exact⟨hl,by simpa using h1,h2,h3,h4⟩
def yu{a:St}(h:bh g a w){l:L (S.A n)}(b:o<bC)(h1:a.ob.get o=Z (.arr (S.width (.st n)) (lits j (l.map (enc S (.st n))) hl) era))(c:hl.length=l.length)
  (e:GY g m gL hole hl) (h2:s'.ob.get o=Z (.kB n j l era m gL hole)) (h3:∀k,k≠o->(aI s').ob.get k=a.ob.get k) (h4:s'.aJ=a.aJ):bh g (aI s') w:=by
 refine(h.UB (es:=l.map (enc S (.st n))) b h1 (by simpa using c) e).WB h4 λk=>?_;show _=(a.ob.set aL o _).get k;rw[Tr.aZ _ _ _ _ b];by_cases d:k=o
 .subst d;rw[bJ rfl,bf,h2];rfl
 .rw[br d,h3 k d]
def fV(a:o<bC)(ob:Ob)(k:Nat):(j9 s o ob).ob.get k=if k=o then Z ob else(aI s).ob.get k:=Tr.aZ _ _ _ _ a
def JE{es:L D}(h1:es[k]?=Z d)(h2:hl[k]?=Z h):D.el (lits j es hl) k=iS j d h:=by simp[D.el,lits,List.getD,Jn,h1,h2]
def I5(h:aM g w (.sh o r) v):∃x,g.arr o r=Z x∧v=.slice x.a x.len x.cap:=by cases h with|sh _ _ len cap sz a b=>exact⟨_,b,rfl⟩
def Rr{e:Nat}(h:aM g w (.kH o e i off) v):∃x,g.arr o e=Z x:=by cases h with|kH _ _ _ _ len cap sz b a=>exact⟨_,a⟩
def Ra(h:aM g w (.qm o m r i) v):∃y,g.arr m (rc r i)=Z y∧v=.slice y.a y.len y.cap:=by cases h with|qm _ _ _ _ len cap sz a b=>exact⟨_,b,rfl⟩
def SM(fr:Fr)(x:Operand)(t:T):Fr:=match x with
 | .tmp k=>{fr with tm:=fr.tm.set aL k t}
 |_=>fr
def LN{fr:Fr}(hf:cG g fr a w){u t:T}(f:fr.get k=Z u)(b:k<bC)(i:aM g w t (a.eval (.tmp k))):cG g (SM fr (.tmp k) t) a w:=by
 refine⟨hf.size,hf.df,λc j h=>?_⟩;simp only[SM,Fr.get]at h;rw[Tr.aZ _ _ _ _ b]at h;split at h
 .rename_i e;subst e;cases h;obtain⟨v,d,_⟩:=hf.tm _ _ f;refine⟨v,d,?_⟩;have:a.eval (.tmp c)=v:=by simp[Act.eval,d]
  rw[<-this];exact i
 .exact hf.tm c j h
def SQ{i:TI}(b:Nat.ble (Nat.add off i.size) j=W∨Nat.blt j off=W):nF i (iS j d h) off=nF i d off:=by
 have a:∀q,(off<=q∧q<off+i.size)->(iS j d h).cell q=d.cell q:=by
  intro q e;have c:j≠q:=by
   rcases b with b|b
   .have:=fU b;simp only[Nat.add_eq]at this;omega
   .have:j<off:=fU b;omega
  show(d.cells.set j _).getD q _=d.cells.getD q _;simp only[List.getD,Lt c]
 unfold nF;cases i.agg with
 |true=>
  simp only[cH]
  congr 2
  refine LI λq e=>?_;have:=a (Nat.add off q) ⟨Nat.le_add_right _ _,Nat.add_lt_add_left (Lz.1 e) _⟩;rw[this]
 |false=>
  simp only[dS];cases f:Nat.beq i.size 1 with|true=>have:=beq_iff'.1 f;simp only[cH];rw[a off ⟨bQ _,by omega⟩]|false=>rfl
def La(s:St):∀{l:L T}{p:Prop}{ds:L D}{os:L Nat}{j:Nat},lR s l=Z (p,ds,os)->l[j]?=Z .emp->∀v,∃b,lR s (l.set j (.sym (.lit v)))=Z (b,ds.set j (.lit v),os)∧(p->b)∧ds[j]?=Z (.sl [])
 |[],p,ds,os,j,_,a,v=>by simp at a
 |t::l,p,ds,os,j,h,a,v=>by
  simp only[lR]at h;split at h
  .rename_i q d c r e f h1 h2;simp only[bg,bD]at h;obtain⟨rfl,rfl,rfl⟩:=h;cases j with
   |zero=>simp only[qO,bg]at a;subst a;simp only[vz,bg,bD]at h1;obtain⟨rfl,rfl,rfl⟩:=h1;exact⟨True∧r,by simp only[List.set_cons_zero,lR,vz,h2],λh=>h,rfl⟩
   |succ j=>obtain⟨b,g,i,k⟩:=La s h2 (by simpa using a) v;exact⟨q∧b,by simp only[List.set_cons_succ,lR,h1,g],λh=>⟨h.1,i h.2⟩,by simpa using k⟩
  .cases h
def Zj{E:gH}(hS:fB S)(hT:zU E.E)(YA:PL S E){fr:bY S}(hf:cG g (bA fr) a w)(hs:bh g (aI s) w)(o:Oper){c:Bool}{t:V S}(h:Ap E fr s o.op=Z (c,t,s'))(hc:c=W) :
  ∃v w' g',((execOp a.eval o).run E.E.P w=.ok (.value v) w'∨((execOp a.eval o).run E.E.P w=.ok .skip w'∧v=undef))∧aM g' w' (low t) v∧cO [] s g w s' g' w':=by
 unfold Ap at h;split at h
 ·
  rename_i ty x ix H;split at h;rotate_left
  .cases h
  rename_i I r R;split at h;rotate_left
  .cases h
  rename_i n j l era m gL hole X;split at h;rotate_left
  .cases h
  rename_i i n' kv hi Mw hix;split at h;rotate_left
  .cases h
  rename_i sz ag bt zz k s4 hk;rcases af h with⟨hb,b⟩|⟨_,b⟩;rotate_left
  .cases b
  simp only[ec]at hb;have ZW:=beq_iff'.1 hb.1;subst ZW;have hnn:=beq_iff'.1 hb.2;subst hnn;simp only[bg,bD]at b;obtain⟨rfl,rfl,rfl⟩:=b;obtain⟨xs,C,_⟩:=I5 (cY hf R);have f:I<bC:=dB (hs.lt' C) hs.aJ;obtain⟨hl,h1,h2,h3,h4⟩:=Hh hs X C;obtain⟨p,hp1,hp⟩:=fQ hk;obtain⟨⟨z,My,_⟩,_⟩:=YA.row _ _ _ hi Mw;have hin:=uo hc;have hbq:Nat.beq (S.width (.st n)) (S.width (.st n))=W:=beq_iff'.2 rfl;have B:(lits j (l.map (enc S (.st n))) hl).length=l.length:=by rw[lH (by simpa using h1)];simp
  obtain⟨⟨v,w',g',hr,A,P,ht⟩,q1,q2,q3⟩:=mg hT hf h4 o (p:=p∧D.GG k (D.len (lits j (l.map (enc S (.st n))) hl))) (t:=.kH I r (D.nat k) 0) (s':=j9 s I (.arr (S.width (.st n)) (lits j (l.map (enc S (.st n))) hl) r)) (by
   rw[H];simp only[nh,hi,bW R,bW hix,kE,My,hp1,low,GV];rw[fV f,bJ rfl];simp only[show Nat.beq r r=W from beq_iff'.2 rfl,cH,hbq]) ⟨hp,by simp only[D.GG,D.len,B];omega⟩
  refine⟨v,w',g',hr,ht,cO.lW hs ?_ P rfl rfl (bQ _) (iK.refl _)⟩;refine yu A f (by rw[fV f,bJ rfl]) h1 (h3.le (λj y=>P.arr m j y)) X (λk hk=>by rw[fV f,br hk]) rfl
 ·
  rename_i ty x H;split at h;rotate_left
  .cases h
  rename_i I e k off R;split at h;rotate_left
  .cases h
  rename_i n j l era m gL hole X;split at h;rotate_left
  .cases h
  rename_i i hi;rcases af h with⟨hb,b⟩|⟨_,b⟩;rotate_left
  .cases b
  clear h;have ZW:=beq_iff'.1 hb;subst ZW;obtain⟨xs,C⟩:=Rr (cY hf R);have f:I<bC:=dB (hs.lt' C) hs.aJ;obtain⟨hl,h1,h2,h3,h4⟩:=Hh hs X C;have B:(lits j (l.map (enc S (.st n))) hl).length=l.length:=by rw[lH (by simpa using h1)];simp
  have back:∀{g':Gh}{w':World},bh g' (j9 s I (.arr (S.width (.st n)) (lits j (l.map (enc S (.st n))) hl) e)) w'->Ext s.fl g w g' w'->cO [] s g w s g' w':=λA P=>
   cO.lW hs (yu A f (by rw[fV f,bJ rfl]) h1 (h3.le (λj y=>P.arr m j y)) X (λk hk=>by rw[fV f,br hk]) rfl) P rfl rfl (bQ _) (iK.refl _)
  rcases af b with⟨hj,h⟩|⟨hj,h⟩
  ·
   clear b;rcases af h with⟨F,b⟩|⟨_,b⟩;rotate_left
   .cases b
   simp only[ec,DK]at F;simp only[bg,bD]at b;obtain⟨rfl,rfl,rfl⟩:=b;have hoff:=beq_iff'.1 hj;subst hoff;have hk:=rm hc;have hel:D.el (lits off (l.map (enc S (.st n))) hl) k=iS off (enc S (.st n) l[k]) (hl[k]'(by omega)):=JE (by rw[gM,fN hk];rfl) (fN _);have hrow:=h2.rows _ (g8 (by rw[lits,Jn,gM,fN hk,fN (by omega:k<hl.length)];rfl:(lits off (l.map (enc S (.st n))) hl)[k]?=Z (iS off (enc S (.st n) l[k]) (hl[k]'(by omega)))));have hsz:i.size=1:=beq_iff'.1 F.1;have K:off<S.width (.st n):=fU F.2.2.2;have hcell:(iS off (enc S (.st n) l[k]) (hl[k]'(by omega))).cell off=.lit (hl[k]'(by omega)):=by
    show((enc S (.st n) l[k]).cells.set off _).getD off _=_;have:off<(enc S (.st n) l[k]).cells.length:=by rw[jU hS];exact K
    simp[List.getD,this]
   obtain⟨⟨v,w',g',hr,A,P,ht⟩,q1,q2,q3⟩:=mg hT hf h4 o (t:=.sym (.lit (hl[k]'(by omega)))) (s':=j9 s I (.arr (S.width (.st n)) (lits off (l.map (enc S (.st n))) hl) e)) (p:=D.GG (k:Int) (D.len (lits off (l.map (enc S (.st n))) hl))∧(D.el (lits off (l.map (enc S (.st n))) hl) k).has (Nat.add off i.size)) (by
    rw[H];simp only[nh,hi,bW R,low,loadT,GV];rw[fV f,bJ rfl];simp only[show Nat.beq e e=W from beq_iff'.2 rfl,cH,hel,nF,F.2.1,dS,F.1,hcell,ee]) ⟨by simp only[D.GG,D.len,B];omega,by
     rw[hel];show Nat.add off i.size<=_;rw[hrow,hsz];exact K⟩
   have hv:=aM.JM ht;obtain⟨y,hy,hye⟩:=h3.2 k _ (fN (by omega)) (by
    intro e;rw[e]at F;exact Bool.noConfusion F.2.2.1)
   refine⟨v,w',g',hr,?_,back A P⟩;rw[hv,hye];exact .qm _ _ _ _ _ _ y.sz _ (P.arr _ _ _ hy)
  ·
   clear b;rcases af h with⟨F,b⟩|⟨_,b⟩;rotate_left
   .cases b
   simp only[eG,bD]at b;obtain⟨u,hu,rfl,rfl,rfl⟩:=b;rw[j0]at F;have hk:=rm hc;obtain⟨p1,p2⟩:=Ao hS (i:=i) (τ:=Y) (λu h=>by cases h) hu;have hex:aR l k (S.zero (.st n))=l[k]:=by simp[aR,List.getD,hk]
   rw[hex]at p1 p2;have hel:D.el (lits j (l.map (enc S (.st n))) hl) k=iS j (enc S (.st n) l[k]) (hl[k]'(by omega)):=JE (by rw[gM,fN hk];rfl) (fN _);obtain⟨⟨v,w',g',hr,A,P,ht⟩,q1,q2,q3⟩:=mg hT hf h4 o (t:=low u) (s':=j9 s I (.arr (S.width (.st n)) (lits j (l.map (enc S (.st n))) hl) e)) (p:=D.GG (k:Int) (D.len (lits j (l.map (enc S (.st n))) hl))∧(D.el (lits j (l.map (enc S (.st n))) hl) k).has (Nat.add off i.size)) (by
    rw[H];simp only[nh,hi,bW R,low,loadT,GV];rw[fV f,bJ rfl];simp only[show Nat.beq e e=W from beq_iff'.2 rfl,cH,hel,SQ F,p1,ee]) ⟨by simp only[D.GG,D.len,B];omega,by
     rw[hel];show Nat.add off i.size<=((enc S (.st n) l[k]).cells.set j _).length;rw[Ak];exact p2⟩
   exact⟨v,w',g',hr,ht,back A P⟩
 ·
  rename_i ty x G H;split at h;rotate_left
  .cases h
  rename_i I e k off M m' r i R hy;split at h;rotate_left
  .cases h
  rename_i n j l era m gL hh X;split at h;rotate_left
  .cases h
  rename_i ti hi;rcases af h with⟨hb,b⟩|⟨_,b⟩;rotate_left
  .cases b
  clear h;simp only[ec,DK]at hb;obtain⟨b1,b2,b3,b4,b5,b6,b7,b8,b9,b10⟩:=hb;have e1:=beq_iff'.1 b1;subst e1;have e2:=beq_iff'.1 b2;subst e2;have e3:=beq_iff'.1 b3;subst e3;have e4:=beq_iff'.1 b4;subst e4;have e5:=beq_iff'.1 b5;subst e5;simp only[bg,bD]at b;obtain⟨rfl,rfl,rfl⟩:=b;unfold Wj at hc;simp only[ec]at hc;have hk:=rm hc.1;have e6:=beq_iff'.1 hc.2.1;subst e6;have e7:=beq_iff'.1 hc.2.2;subst e7;obtain⟨xs,C⟩:=Rr (cY hf R);have f:M<bC:=dB (hs.lt' C) hs.aJ;obtain⟨hl,h1,h2,h3,h4⟩:=Hh hs X C;have B:(lits off (l.map (enc S (.st n))) hl).length=l.length:=by rw[lH (by simpa using h1)];simp
  have K:off<S.width (.st n):=fU b9;have hfl:=b8;have hval:=cY hf (x:=.tmp G) (v:=.qm M m' r i) hy;obtain⟨y,hy1,hye⟩:=Ra hval;have hel:D.el (lits off (l.map (enc S (.st n))) hl) i=iS off (enc S (.st n) l[i]) (hl[i]'(by omega)):=JE (by rw[gM,fN hk];rfl) (fN _);have hf':=LN hf (k:=G) (u:=low (.qm M m' r i)) (t:=.sym (.lit (.slice y.a y.len y.cap))) (by show(bA fr).get G=_;rw[bR,hy];rfl) (fU b10) (by rw[hye];exact .sym _ _ (.lit _));have adr:ju (SM (bA fr) (.tmp G) (.sym (.lit (.slice y.a y.len y.cap)))) (.tmp G)=Z (.sym (.lit (.slice y.a y.len y.cap))):=by show((bA fr).tm.set aL G _).get G=_;rw[Tr.aZ _ _ _ _ (fU b10),bJ rfl]
  have amN:ju (SM (bA fr) (.tmp G) (.sym (.lit (.slice y.a y.len y.cap)))) x=Z (.kH M e i off):=by
   have h0:=bW R;cases x with
   |tmp k2=>
    show((bA fr).tm.set aL G _).get k2=_;rw[Tr.dg _ _ _ _ _ (λe=>by
     subst e;have h5:fr.get k2=Z (.kH M e i off):=R;rw[hy]at h5;cases h5)]
    exact h0
   |_=>exact h0
  have agT:(iS off (enc S (.st n) l[i]) (hl[i]'(by omega))).Qt off [.lit (.slice y.a y.len y.cap)]=iS off (enc S (.st n) l[i]) (.slice y.a y.len y.cap):=by
   have hlt:off<(enc S (.st n) l[i]).cells.length:=by rw[jU hS];exact K
   show D.agg _=D.agg _
   congr 1
   rw[List.take_set_of_le (bQ _),nq,List.drop_set_of_lt (Nat.lt_succ_self _)];apply LH;intro q;simp only[nk,lD,xz,DL,v5,DM,nq];rcases Nat.lt_trichotomy q off with hq|hq|hq
   .rw[bJ (by omega),bJ hq,br (by omega)]
   .subst hq;rw[br (by omega),bJ (by omega),bJ rfl,bJ hlt];simp[Nat.min_eq_left (Nat.le_of_lt hlt)]
   .rw[br (by omega),br (by omega),br (by omega)]
    congr 1
    omega
  have hby:(iS off (enc S (.st n) l[i]) (.slice y.a y.len y.cap)).qD=(iS off (enc S (.st n) l[i]) (hl[i]'(by omega))).qD:=by obtain⟨a0,n0,m0,he0⟩:=h3.1 i _ (fN (by omega:i<hl.length));rw[he0,<-zk off (enc S (.st n) l[i]) [] a0 n0 m0,<-zk off (enc S (.st n) l[i]) [] y.a y.len y.cap]
  have hleaf:(D.lit (.slice y.a y.len y.cap)).leaf=W:=rfl;have Ts:(iS off (enc S (.st n) l[i]) (hl[i]'(by omega))).isAgg (S.width (.st n))=W:=by
   obtain⟨a0,n0,m0,he0⟩:=h3.1 i _ (fN (by omega:i<hl.length));rw[he0];show(Nat.beq (cC ((enc S (.st n) l[i]).cells.set off _)) _&&((enc S (.st n) l[i]).cells.set off _).all D.leaf)=W;rw[ec,bL,Ak,jU hS];refine⟨beq_iff'.2 rfl,eC.2 λd hd=>?_⟩;rcases LL hd with hd|rfl
   .rw[show(enc S (.st n) l[i]).cells=gD S (S.fs n) (S.get n l[i])from hS.cells n _]at hd;exact gW _ _ (hS.leaf n) d hd
   .rfl
  have hput:D.put (lits off (l.map (enc S (.st n))) hl) i (iS off (enc S (.st n) l[i]) (.slice y.a y.len y.cap))=lits off (l.map (enc S (.st n))) (hl.set i (.slice y.a y.len y.cap)):=by
   apply LH;intro q;simp only[D.put,lits];by_cases hq:i=q
   .subst hq;rw[Lu (by simp;omega),Jn,gM,Lu (by omega),fN hk];rfl
   .rw[Lt hq,Jn,Jn,Lt hq]
  obtain⟨⟨v,w',g',hr,A,P,ht⟩,q1,q2,q3⟩:=mg hT hf' h4 o (t:=Qu) (s':={j9 s M (.arr (S.width (.st n)) (lits off (l.map (enc S (.st n))) hl) e)with ob:=(j9 s M (.arr (S.width (.st n)) (lits off (l.map (enc S (.st n))) hl) e)).ob.set aL M (.arr (S.width (.st n)) (lits off (l.map (enc S (.st n))) (hl.set i (.slice y.a y.len y.cap))) e)})
   (p:=(D.lit (.slice y.a y.len y.cap)).leaf=W∧(True∧True)∧[D.lit (.slice y.a y.len y.cap)].all D.leaf=W∧D.GG (i:Int) (D.len (lits off (l.map (enc S (.st n))) hl))∧(iS off (enc S (.st n) l[i]) (hl[i]'(by omega))).QA (S.width (.st n)) off (cC [D.lit (.slice y.a y.len y.cap)])∧Nat.ble (Nat.add off (cC [D.lit (.slice y.a y.len y.cap)])) (S.width (.st n))=W∧((iS off (enc S (.st n) l[i]) (hl[i]'(by omega))).Qt off [.lit (.slice y.a y.len y.cap)]).qD=(iS off (enc S (.st n) l[i]) (hl[i]'(by omega))).qD) (by
   rw[H];have hg:=fV (s:=s) f (.arr (S.width (.st n)) (lits off (l.map (enc S (.st n))) hl) e) M;rw[bJ rfl]at hg;have anm:Nat.ble (j9 s M (.arr (S.width (.st n)) (lits off (l.map (enc S (.st n))) hl) e)).fl M=W:=b8;simp only[nh,hi,amN,adr,storeT,iV,b7,b6,dS,cH,lR,vz,ij,freeze,hg,anm,show Nat.beq e e=W from beq_iff'.2 rfl,HB,hel,agT,hput]) ⟨rfl,⟨trivial,trivial⟩,rfl,⟨Int.natCast_nonneg _,by show(i:Int)<((lits off (l.map (enc S (.st n))) hl).length:Int);rw[B];exact Int.ofNat_lt.2 hk⟩,.inl Ts,GA (by show off+1<=_;omega),by rw[agT,hby]⟩
  have hgn:∀q,({j9 s M (.arr (S.width (.st n)) (lits off (l.map (enc S (.st n))) hl) e)with ob:=(j9 s M (.arr (S.width (.st n)) (lits off (l.map (enc S (.st n))) hl) e)).ob.set aL M (.arr (S.width (.st n)) (lits off (l.map (enc S (.st n))) (hl.set i (.slice y.a y.len y.cap))) e)}:St).ob.get q=if q=M then Z (.arr (S.width (.st n)) (lits off (l.map (enc S (.st n))) (hl.set i (.slice y.a y.len y.cap))) e)else(j9 s M (.arr (S.width (.st n)) (lits off (l.map (enc S (.st n))) hl) e)).ob.get q:=λq=>Tr.aZ _ _ _ _ f
  refine⟨v,w',g',hr,ht,cO.lW hs (yu A (hl:=hl.set i (.slice y.a y.len y.cap)) f (by rw[hgn,bJ rfl]) (by simpa using h1) ⟨λq hv hq=>?_,λq hv hq _=>?_⟩ (by show(s.ob.set aL M _).get M=_;rw[Tr.aZ _ _ _ _ f,bJ rfl]) (λq hq=>?_) rfl) P rfl rfl (bQ _) (rP _ _ _)⟩
  .rw[DL]at hq;split at hq
   .rw[bJ (by omega)]at hq;cases hq;exact⟨_,_,_,rfl⟩
   .exact h3.1 q hv hq
  .rw[DL]at hq;split at hq
   .rename_i e;subst e;rw[bJ (by omega)]at hq;cases hq;exact⟨y,P.arr _ _ _ hy1,rfl⟩
   .rename_i e;obtain⟨yy,k1,k2⟩:=h3.2 q hv hq (λh=>e (eO h));exact⟨yy,P.arr _ _ _ k1,k2⟩
  .rw[hgn,br hq,fV f,br hq,bf,bf];show((s.ob.set aL M _).get q).map cQ=_;rw[Tr.aZ _ _ _ _ f,br hq]
 ·
  rename_i ty len parts H;split at h;rotate_left
  .rename_i N;split at h;rotate_left
   .cases h
   rename_i i e hi Mw;split at h;rotate_left
   .cases h
   rename_i sz ag bt zz s4;rcases af h with⟨hb,b⟩|⟨_,b⟩;rotate_left
   .cases b
   simp only[bg,bD]at b;obtain⟨_,rfl,rfl⟩:=b;have B:len=0:=beq_iff'.1 hb;subst B;have hle:Nat.ble (Nat.mul 0 sz) 16777216=W:=by rw[show Nat.mul 0 sz=0 from Nat.zero_mul sz];rfl
   have h0:cn E fr s o.op=Z (W,.jE 0 e [],s):=by rw[H];simp only[cn,hi,Mw,N,iA,s4,hle,cH,List.replicate_zero,mo,dF,ee]
   obtain⟨p,amO,hp⟩:=Me hS YA h0 rfl;obtain⟨⟨v,w',g',hr,A,P,ht⟩,q1,q2,q3⟩:=mg hT hf hs o amO hp;refine⟨v,w',g',hr,?_,cO.lW hs A P q1 q2 q3 (kR (show dF s []=Z s from rfl))⟩;cases ht with|jE _ _ a0 hn0 hd=>exact .emp a0
  .cases h
  rename_i G N;split at h;rotate_left
  .cases h
  rename_i i n cs hi Mw hkx;split at h;rotate_left
  .cases h
  rename_i j hnst;split at h;rotate_left
  .cases h
  rename_i sz ag bt zz s4 hnj;rcases af h with⟨hb,b⟩|⟨_,b⟩;rotate_left
  .cases b
  clear h;split at b;rotate_left
  .cases b
  rename_i x os R;simp only[eG,bD]at b;obtain⟨s1,KO,_,rfl,rfl⟩:=b;simp only[ec]at hb;have ahe:=beq_iff'.1 hb.1;subst ahe;have hkN:G<bC:=fU hb.2.2;obtain⟨⟨z,My,hz⟩,_,_,hpos⟩:=YA.row _ _ _ hi Mw;rw[s4]at My;obtain⟨rfl,rfl,rfl,rfl⟩:=Kd.slice.inj My;have hfz:=dc hS os KO;have hval:=cY hf (x:=.tmp G) (v:=.agg cs) hkx;generalize hve:a.eval (.tmp G)=ve at hval;obtain⟨vs,rfl,nV⟩:=aM.Re hval;have hcj:(bn cs)[j]?=Z .emp:=by rw[jv]at hnj;rw[gp,gM,hnj];rfl
  obtain⟨vj,hvj⟩:∃vj,vs.toList[j]?=Z vj:=by have:=aF hcj;exact⟨_,fN (by have:=nV.1;omega)⟩
  have ans:=nV.2 j _ _ hcj hvj;obtain⟨c,rfl⟩:∃c,vj=.slice c 0 0:=by cases ans with|emp c=>exact⟨c,rfl⟩
  have agR:aM g w (.agg ((bn cs).set j (.sym (.lit (.slice c 0 0))))) (.agg vs):=by
   refine .agg _ vs (by rw[Ak];simpa using nV.1) λq t v h1 h2=>?_;rw[DL]at h1;split at h1
   .rename_i e;subst e;rw[bJ (aF hcj)]at h1;cases h1;have:vs.toList[j]?=Z v:=by simpa using h2
    rw[hvj]at this;cases this;exact .sym _ _ (.lit _)
   .exact nV.2 q t v h1 (by simpa using h2)
  have hf':=LN hf (k:=G) (u:=low (.agg cs)) (t:=.agg ((bn cs).set j (.sym (.lit (.slice c 0 0))))) (by show(bA fr).get G=_;rw[bR,hkx];rfl) hkN (by rw[hve];exact agR);have adr:ju (SM (bA fr) (.tmp G) (.agg ((bn cs).set j (.sym (.lit (.slice c 0 0)))))) (.tmp G)=Z (.agg ((bn cs).set j (.sym (.lit (.slice c 0 0))))):=by show((bA fr).tm.set aL G _).get G=_;rw[Tr.aZ _ _ _ _ hkN,bJ rfl]
  simp only[bP]at R;split at R;rotate_left
  .cases R
  rename_i hh os' C;simp only[bg,bD]at R;obtain⟨rfl,rfl⟩:=R;obtain⟨q,hq,hqp⟩:=qF hS s _ _ C;obtain⟨q',Yy,hqq,Ie⟩:=La (aI s) hq hcj (.slice c 0 0);have Ws:(enc S (.st n) (S.VI n hh)).cells=gD S (S.fs n) hh:=by show S.cells n _=_;rw[hS.cells,hS.uw]
  have hzl:cC zz=S.width (.st n):=by simp only[jr,cH,enc,D.agg.injEq]at hz;rw[hz];simp only[Sg.width,bL];rw[show S.cells n (S.zero (.st n))=_ from hS.cells n _,lK]
  have ahr:((jr (.st n)||Nat.beq (S.width (.st n)) 1)&&(Nat.beq (cC zz) (S.width (.st n))&&(!(Nat.beq (S.width (.st n)) 0)&&Nat.ble (Nat.mul 1 (S.width (.st n))) 16777216)))=W:=by rw[hzl];simp only[ec,DK];refine⟨rfl,beq_iff'.2 rfl,?_,by simpa using hb.2.1⟩;cases hq:Nat.beq (S.width (.st n)) 0 with|false=>rfl|true=>have:=beq_iff'.1 hq;omega
  have Ts:(D.agg ((gD S (S.fs n) hh).set j (.lit (.slice c 0 0)))).isAgg (S.width (.st n))=W:=by
   show(Nat.beq (cC ((gD S (S.fs n) hh).set j _)) _&&((gD S (S.fs n) hh).set j _).all D.leaf)=W;rw[ec,bL,Ak,lK];refine⟨beq_iff'.2 (bL _).symm,eC.2 λd hd=>?_⟩;rcases LL hd with hd|rfl
   .exact gW _ _ (hS.leaf n) d hd
   .rfl
  have hall:((gD S (S.fs n) hh).set j (.lit (.slice c 0 0))).all D.leaf=W:=by have h0:(Nat.beq (cC ((gD S (S.fs n) hh).set j _)) _&&((gD S (S.fs n) hh).set j (.lit (.slice c 0 0))).all D.leaf)=W:=Ts;rw[ec]at h0;exact h0.2
  obtain⟨⟨v,w',g',hr,A,P,ht⟩,q1,q2,q3⟩:=mg hT hf' hs o (t:=.jE 1 [D.agg ((gD S (S.fs n) hh).set j (.lit (.slice c 0 0)))]) (s':=aI s1)
   (p:=(q'∧((gD S (S.fs n) hh).set j (.lit (.slice c 0 0))).all D.leaf=W)∧(D.agg ((gD S (S.fs n) hh).set j (.lit (.slice c 0 0)))).isAgg (S.width (.st n))=W∧True) (by
   rw[H];have hps:qj (SM (bA fr) (.tmp G) (.agg ((bn cs).set j (.sym (.lit (.slice c 0 0)))))) parts.toList=Z [(0,.agg ((bn cs).set j (.sym (.lit (.slice c 0 0)))))]:=by rw[N];simp only[qj,adr]
   simp only[nh,hi,hps,s4,cH,nw,vz,Yy,List.replicate,cC,jr,show Nat.blt 0 (Nat.succ 0)=W from rfl,List.set_cons_zero,ij,hfz,ee];have adL:((W||Nat.beq (S.width (.st n)) 1)&&(Nat.beq (cC zz) (S.width (.st n))&&(!(Nat.beq (S.width (.st n)) 0)&&Nat.ble (Nat.mul 1 (S.width (.st n))) 16777216)))=W:=ahr;rw[adL];rfl) ⟨⟨hqq hqp,hall⟩,Ts,trivial⟩
  refine⟨v,w',g',hr,?_,cO.lW hs A P q1 q2 q3 (kR KO)⟩;cases ht with
  |jE _ _ a0 hn0 hd=>
   refine .nZ _ _ c a0 ?_ ?_
   .rw[Ws];exact Ie
   .show ek g'.bB w' (.sl [D.agg ((enc S (.st n) (S.VI n hh)).cells.set j _)]) _;rw[Ws];exact hd
 .cases h
end
end
end TL
end
end
