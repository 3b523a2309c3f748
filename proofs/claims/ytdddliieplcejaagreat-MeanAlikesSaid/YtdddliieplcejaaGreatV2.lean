import Derived.Laws.OwnMore
import Derived.Test.YtdddliieplcejaaGreatV1
set_option linter.all false
set_option maxRecDepth 100000
set_option maxHeartbeats 0
noncomputable section
open Option renaming some->Z,none->Y
open Bool renaming true->W,false->J
section
namespace TL
open Go
variable {S:Sg}
section
def aP{α:Type}(c:Bool)(x:O α):O α:=bif c then x else Y
def ah{α:Type}(c:Bool)(x y:O α):O α:=bif c then x else y
def af{α β:Type}(x:O α)(f:α->O β):O β:=match x with|some a=>f a|none=>Y
def imp(c p:Bool):Bool:=bif c then p else W
inductive Ck where
 |dat (t:Ty)|own (e:Ty)|iJ (n j:Nat) (t:Ty)|nil (e:Ty)|ptr (t:Ty)
@[reducible] def Ck.ty:Ck->Ty|.dat t=>t|.own e=>.sl e|.iJ n _ _=>.sl (.st n)|.nil e=>.sl e|.ptr t=>t
inductive Bk where
 |cells (cs:List Ck)|map (kt vt:Ty)|oG|link (pre post:List Ck)
inductive Pk where
 |one (c:Ck)|box (k:Bk)|hid (k:Bk)
@[reducible] def fH(A:Nat->Type):L Ck->Type
 |[]=>U
 |c::l=>den A c.ty×fH A l
@[reducible] def uH(A:Nat->Type):Bk->Type
 | .cells a=>fH A a
 | .map b c=>L (den A b×den A c)
 | .oG=>L UInt8×Nat
 | .link pre post=>fH A pre×fH A post
@[reducible] def fj(A:Nat->Type):L Pk->Type
 |[]=>U
 | .one c::l=>den A c.ty×fj A l
 | .box k::l=>uH A k×fj A l
 | .hid k::l=>uH A k×fj A l
@[reducible] def gB(A:Nat->Type):L Pk->Type
 |[]=>U
 | .one _::l=>gB A l
 | .box k::l=>uH A k×gB A l
 | .hid k::l=>uH A k×gB A l
inductive Rx(R P:Type) where
 |ok (r:R)|dP (p:P)
@[reducible] def RT:Bool->Type->Type->Type
 |false,R,_=>R
 |true,R,P=>Rx R P
def RT.res{R P:Type}:(a:Bool)->RT a R P->Rx R P
 |false,r=>Rx.ok r
 |true,r=>r
def RT.ok{R P:Type}:(a:Bool)->R->RT a R P
 |false,r=>r
 |true,r=>Rx.ok r
def RT.dP{R P:Type}:(a:Bool)->P->O (RT a R P)
 |false,_=>Y
 |true,p=>Z (Rx.dP p)
structure j0(S:Sg) where
 ps:List Pk
 rs:List Ck
 pn:Bool
 F:fj S.A ps->Option (RT pn (fH S.A rs×gB S.A ps) (den S.A S.pt×gB S.A ps))
def kD(s:aW S):(c:Ck)->V S->O (den S.A c.ty×L Nat×L Nat)
 | .dat t,v=>match bH s t v with
  |some (x,os)=>Z (x,os,[])
  |none=>Y
 | .own e,.emp=>bif Nat.ble 1 (S.width e)then Z ([],[],[])else Y
 | .own e,.sh o r=>match s.ob.get o with
  |some (.arr t l era)=>bif Nat.beq r era&&(Nat.ble s.fl o&&Nat.ble s.lo o)then match mu t e l with|some l=>Z (l,[],[o])|none=>Y else Y
  |_=>Y
 | .nil _,.emp=>Z ([],[],[])
 | .iJ n j t,.emp=>bif Nat.ble 1 (S.width (.st n))&&(AE S n j t&&Nat.blt j (S.width (.st n)))then Z ([],[],[])else Y
 | .iJ n j t,.sh o r=>match s.ob.get o with
  |some (.jL b g l era m a Y)=>match Iz s m a with
   |some ⟨d,f⟩=>bif (Nat.beq r era&&(Nat.beq j g&&(Nat.ble s.fl o&&(Nat.ble s.lo o&&(Nat.ble s.fl m&&(Nat.ble s.lo m&&(Nat.blt m s.au&&(AE S b j d&&qI d t))))))))then match mu (.st b) (.st n) (iy b j d l f)with
     |some l=>Z (l,[],[o,m])
     |none=>Y
    else Y
   |none=>Y
  |_=>Y
 |_,_=>Y
def eV(s:aW S):(cs:L Ck)->L (V S)->O (fH S.A cs×L Nat×L Nat)
 |[],[]=>Z ((),[],[])
 |c::cs,v::l=>match kD s c v,eV s cs l with
  |some (x,a,b),Z (h,d,e)=>Z ((x,h),a++d,b++e)
  |_,_=>Y
 |_,_=>Y
def PS:Bk->Nat->V S
 | .cells _,o=>.ptr o 0
 | .map _ _,o=>.mp o
 | .oG,o=>.qF o
 | .link _ _,o=>.ptr o 0
def Ay:Bk->V S->O Nat
 | .cells _,.ptr o 0=>Z o
 | .map _ _,.mp o=>Z o
 | .oG,.qF o=>Z o
 | .link _ _,.ptr o 0=>Z o
 |_,_=>Y
def jK(s:aW S):(k:Bk)->O (sj S)->O (uH S.A k×L Nat×L Nat×O Nat)
 | .cells d,Z (.box c)=>match eV s d c with
  |some (x,a,b)=>Z (x,a,b,Y)
  |none=>Y
 | .map e f,Z (.map k v l)=>match Ac k v e f l with
  |some l=>Z (l,[],[],Y)
  |none=>Y
 | .oG,Z (.oG b n)=>Z ((b,n),[],[],Y)
 | .link pre post,Z (.box c)=>match eV s pre (c.take (bU pre)),nth c (bU pre),eV s post (c.drop (Nat.succ (bU pre)))with
  |some (x,a,b),Z (.ptr o 0),Z (y,g,h)=>Z ((x,y),a++g,b++h,Z o)
  |_,_,_=>Y
 |_,_=>Y
def Cv:Bk->L Pk->Bool
 | .link _ _,.hid _::_=>W
 | .link _ _,_=>J
 |_,_=>W
def dL(s:aW S):(ps:L Pk)->L (V S)->O Nat->O (fj S.A ps×L Nat×L Nat×L Nat)
 |[],[],_=>Z ((),[],[],[])
 | .one c::ps,v::l,_=>match kD s c v,dL s ps l Y with
  |some (x,a,b),Z (h,d,e,f)=>Z ((x,h),a++d,b++e,f)
  |_,_=>Y
 | .box k::ps,v::l,_=>match Ay k v with
  |some o=>bif Nat.ble s.fl o&&Cv k ps then match jK s k (s.ob.get o)with
   |some (x,a,b,g)=>match dL s ps l g with
    |some (h,d,e,f)=>Z ((x,h),a++d,b++e,o::f)
    |none=>Y
   |none=>Y
   else Y
  |none=>Y
 | .hid k::ps,l,Z o=>bif Nat.ble s.fl o&&Cv k ps then match jK s k (s.ob.get o)with
   |some (x,a,b,g)=>match dL s ps l g with
    |some (h,d,e,f)=>Z ((x,h),a++d,b++e,o::f)
    |none=>Y
   |none=>Y
   else Y
 |_,_,_=>Y
def sG(s:aW S):(c:Ck)->den S.A c.ty->V S×aW S
 | .dat t,x=>(.ty t x,s)
 | .own e,l=>(.sh s.au 0,cJ s (.arr e l 0))
 | .nil _,_=>(.emp,s)
 | .ptr t,x=>(.lR t x 0,s)
 | .iJ n j t,l=>(.sh s.au 0,cJ (cJ s (.jL n j l 0 (Nat.succ s.au) 0 Y)) (.rws t (wm n j t l) 0))
def gn(s:aW S):(cs:L Ck)->fH S.A cs->L (V S)×aW S
 |[],_=>([],s)
 |c::cs,x=>match sG s c x.1 with
  |(v,s)=>match gn s cs x.2 with
   |(l,s)=>(v::l,s)
def dg:L Nat->O Nat
 |[]=>Y
 |a::_=>Z a
def NP:O Nat->L (V S)
 |some o=>[.ptr o 0]
 |none=>[]
def fZ(s:aW S)(c:O Nat):(k:Bk)->uH S.A k->sj S×aW S
 | .cells d,x=>match gn s d x with
  |(a,s)=>(.box a,s)
 | .map e f,l=>(.map e f l,s)
 | .oG,x=>(.oG x.1 x.2,s)
 | .link pre post,x=>match gn s pre x.1 with
  |(a,s)=>match gn s post x.2 with
   |(b,s)=>(.box (a++(NP c++b)),s)
def jJ(s:aW S):(ps:L Pk)->L Nat->gB S.A ps->O (aW S)
 |[],[],_=>Z s
 | .one _::ps,a,h=>jJ s ps a h
 | .box k::ps,o::a,h=>match fZ s (dg a) k h.1 with
  |(ob,s)=>jJ {s with ob:=s.ob.set aA o ob,wr:=o::s.wr} ps a h.2
 | .hid k::ps,o::a,h=>match fZ s (dg a) k h.1 with
  |(ob,s)=>jJ {s with ob:=s.ob.set aA o ob,wr:=o::s.wr} ps a h.2
 |_,_,_=>Y
def abW(b:Nat):O Nat->Bool
 |none=>W
 |some o=>Nat.beq o (Nat.succ b)
def qY(s:aW S):Nat->(ps:L Pk)->O (gB S.A ps×L Nat×L Nat)
 |_,[]=>Z ((),[],[])
 |b,.one _::ps=>qY s b ps
 |b,.box k::ps=>match jK s k (s.ob.get b),qY s (Nat.succ b) ps with
  |some (x,a,c,d),Z (h,e,f)=>bif abW b d&&Cv k ps then Z ((x,h),a++e,c++f)else Y
  |_,_=>Y
 |b,.hid k::ps=>match jK s k (s.ob.get b),qY s (Nat.succ b) ps with
  |some (x,a,c,d),Z (h,e,f)=>bif abW b d&&Cv k ps then Z ((x,h),a++e,c++f)else Y
  |_,_=>Y
def pK:L Nat->Bool
 |[]=>W
 |a::l=>!(l.contains a)&&pK l
def zf(l m:L Nat):Bool:=l.all λa=>!(m.contains a)
def An:L (V S)->V S
 |[x]=>x
 |l=>.fQ l
inductive uB(S:Sg) where
 |oK
 |ext (id:Nat)
 |ret
 |dP (v:V S)
abbrev Sh:=L (Nat×Pk)
inductive Pt where
 |slot (k:Nat)|cell (p:Pt) (i:Nat)|cap (p:Pt) (i:Nat)|Pe (p:Pt) (k:Nat)
structure Xo where
 sh:Sh
 pts:List Pt:=[]
 al:List (Nat×Nat):=[]
 pl:Nat:=0
structure Xp where
 sh:Sh
 pts:List Pt:=[]
 ks:List Pt:=[]
 rs:List Ck:=[]
structure fA(S:Sg) where
 T:fX
 Es:FuncId->Option (j0 S)
 sh:FuncId->Nat->Option Xo
 pn:Bool:=J
 cj:FuncId->Option Xp:=λ_=>Y
def nq:V S->L (V S)->O (FuncId×L (V S))
 | .fn (.func f) first cap,args=>Z (f,first++args++cap)
 |_,_=>Y
inductive Tgt where|fn (f:FuncId)|yl (o:Nat)|jn (f:FuncId)
abbrev gm(S:Sg):=Tgt->L (V S)->aW S->{ω:Type}->(V S->aW S->O ω)->(V S->aW S->O ω)->O ω
mutual
def gw(os:L Nat):V S->Bool
 | .ptr o _=>os.contains o
 | .jV o _ _ _=>os.contains o
 | .sh o _=>os.contains o
 | .mp o=>os.contains o
 | .pz o=>os.contains o
 | .qF o=>os.contains o
 | .pL o m _ _=>os.contains o||os.contains m
 | .fn _ a b=>mF os a||mF os b
 | .cE _ v=>gw os v
 | .agg c=>mF os c
 | .fQ c=>mF os c
 | .gd _ v=>gw os v
 |_=>J
def mF(os:L Nat):L (V S)->Bool
 |[]=>J
 |v::l=>gw os v||mF os l
end
def GW{α:Type}(os:L Nat):L (α×V S)->Bool
 |[]=>J
 |p::l=>gw os p.2||GW os l
def kG(p:V S->Bool):Tr (V S)->Bool
 | .nil=>J
 | .node v l r=>(match v with|some x=>p x|none=>J)||(kG p l||kG p r)
def GR(os:L Nat):sj S->Bool
 | .box a=>mF os a
 | .DT _ l=>GW os l
 | .lp l=>kG (gw os) l.fr.tm
 | .jL _ _ _ _ m _ _=>os.contains m
 |_=>J
namespace Tr
variable {α:Type}
def del:Nat->Tr α->Nat->Tr α
 |0,t,_=>t
 |_+1,.nil,_=>.nil
 |n+1,.node v l r,k=>match k with
  |0=>.node Y l r
  |k+1=>match Nat.beq (Nat.mod k 2) 0 with
   |true=>.node v (del n l (Nat.div k 2)) r
   |false=>.node v l (del n r (Nat.div k 2))
def keep(p:α->Bool):Tr α->Tr α
 | .nil=>.nil
 | .node v l r=>.node (match v with|some x=>bif p x then Z x else Y|none=>Y) (keep p l) (keep p r)
end Tr
namespace Tr
variable {α:Type}
def mapA(f:α->α):Tr α->Tr α
 | .nil=>.nil
 | .node v l r=>.node (match v with|some x=>Z (f x)|none=>Y) (mapA f l) (mapA f r)
def iD(p:α->Bool):Tr α->L Nat
 | .nil=>[]
 | .node v l r=>(match v with|some x=>bif p x then[0]else[]|none=>[])++((iD p l).map (λk=>Nat.succ (Nat.mul 2 k))++(iD p r).map (λk=>Nat.succ (Nat.succ (Nat.mul 2 k))))
end Tr
def vJ:V S:=.gd J lU
def ou(os:L Nat)(v:V S):V S:=bif gw os v then vJ else v
def lT(os:L Nat):sj S->sj S
 | .box b=>.box (b.map (ou os))
 | .DT c l=>.DT c (l.map λp=>(p.1,ou os p.2))
 | .lp l=>.lp {l with fr:={l.fr with tm:=l.fr.tm.mapA (ou os)}}
 | .jL n j l era m a hole=>bif os.contains m then .gone else .jL n j l era m a hole
 |o=>o
def forget(os:L Nat)(s:aW S):aW S:=match os with
 |[]=>s
 |_=>{s with ob:=s.ob.mapA (lT os),wr:=s.ob.iD (GR os)++s.wr}
def vk(bs:L Nat)(s:aW S):aW S:={s with ob:=bs.foldl (λt o=>t.del aA o) s.ob}
def qE.one:qE S->Bool
 | .marks _|.jc=>J
 |_=>W
def dB(p:V S->Bool):qE S->qE S
 | .call f args=>bif p f||args.any p then .bad else .call f args
 | .mark o=>bif p (.ptr o 0)then .bad else .mark o
 | .marks o=>bif p (.sh o 0)then .jc else .marks o
 | .jc=>.jc
 | .bad=>.bad
def cQ(os:L Nat)(fr:bI S):bI S:=match os with
 |[]=>fr
 |_=>{fr with tm:=fr.tm.keep λv=>!(gw os v),df:=fr.df.map (dB (gw os))}
def iE:L Ck->Bool
 |[]=>W
 | .dat _::l=>iE l
 | .own _::_=>J
 | .iJ ..::_=>J
 | .nil _::_=>J
 | .ptr _::_=>J
def oY:(cs:L Ck)->fH S.A cs->L (V S)
 |[],_=>[]
 |c::cs,x=>.ty c.ty x.1::oY cs x.2
def bN:L Pk->Bool
 |[]=>W
 | .one (.dat _)::l=>bN l
 |_=>J
def Bt:Ty->Bool
 | .int _|.bool|.str=>W
 |_=>J
def jy:L Ck->Bool
 |[]=>W
 | .dat t::l=>Bt t&&jy l
 | .own _::_=>J
 | .iJ ..::_=>J
 | .nil _::_=>J
 | .ptr _::_=>J
def Tn:L Pk->Bool
 |[]=>J
 | .one (.ptr _)::_=>W
 |_::l=>Tn l
def Lw:L Pk->Bool
 |[]=>W
 | .one (.dat _)::l=>Lw l
 | .one (.ptr _)::l=>Lw l
 |_=>J
def XF(s:aW S)(t:Ty):V S->O (den S.A t×L Nat)
 | .lR u y 0=>match tA u t y with
  |some x=>Z (x,[])
  |none=>Y
 | .ptr o 0=>match s.ob.get o with
  |some (.box a)=>bif iK t then bH s t (.agg a)else Y
  |_=>Y
 |_=>Y
def jz(s:aW S):(ps:L Pk)->L (V S)->O (fj S.A ps×L Nat)
 |[],[]=>Z ((),[])
 | .one (.dat t)::ps,v::l=>match bH s t v,jz s ps l with
  |some (x,os),Z (h,a)=>Z ((x,h),os++a)
  |_,_=>Y
 | .one (.ptr t)::ps,v::l=>match XF s t v,jz s ps l with
  |some (x,os),Z (h,a)=>Z ((x,h),os++a)
  |_,_=>Y
 |_,_=>Y
def SM(c:j0 S):Bool:=bN c.ps&&(jy c.rs&&!c.pn)
mutual
def bQ(p:Nat->Bool):V S->Bool
 | .ptr o _=>p o
 | .jV o _ _ _=>p o
 | .sh o _=>p o
 | .mp o=>p o
 | .pz o=>p o
 | .qF o=>p o
 | .pL o m _ _=>p o||p m
 | .fn _ a b=>gH p a||gH p b
 | .cE _ v=>bQ p v
 | .agg c=>gH p c
 | .fQ c=>gH p c
 | .gd _ v=>bQ p v
 |_=>J
def gH(p:Nat->Bool):L (V S)->Bool
 |[]=>J
 |v::l=>bQ p v||gH p l
end
def cS(ow:L Nat)(au:Nat)(o:Nat):Bool:=ow.contains o||Nat.ble au o
def kJ:L (V S)->Nat->Tr (V S)->Tr (V S)
 |[],_,t=>t
 |a::l,k,t=>kJ l (Nat.succ k) (t.set aA k a)
def RH(a:L Ck)(v:V S):L (V S):=match a,v with|[_],v=>[v]|_,.fQ l=>l|_,v=>[v]
def jF(sh:Sh):L Pk:=sh.map (·.2)
def Ea(fr:bI S)(s:aW S):Pt->O (V S)
 | .slot k=>fr.get k
 | .cell p i=>match Ea fr s p with
  |some (.ptr o 0)=>match s.ob.get o with
   |some (.box a)=>nth a i
   |_=>Y
  |_=>Y
 | .cap p i=>match Ea fr s p with
  |some (.fn _ _ a)=>nth a i
  |_=>Y
 | .Pe p k=>match Ea fr s p with
  |some (.pz o)=>match s.ob.get o with
   |some (.lp l)=>l.fr.get k
   |_=>Y
  |_=>Y
def oS(fr:bI S)(s:aW S):Sh->L Pt->O (L Nat)
 |[],[]=>Z []
 |(_,.one _)::l,a=>oS fr s l a
 |(_,.box k)::l,p::a=>match Ea fr s p with
  |some v=>match Ay k v,oS fr s l a with
   |some o,Z r=>Z (o::r)
   |_,_=>Y
  |none=>Y
 |(_,.hid k)::l,p::a=>match Ea fr s p with
  |some v=>match Ay k v,oS fr s l a with
   |some o,Z r=>Z (o::r)
   |_,_=>Y
  |none=>Y
 |_,_=>Y
def sq(fr:bI S):Sh->L Nat->O (L (V S))
 |[],[]=>Z []
 |(k,.one _)::l,a=>match fr.get k,sq fr l a with
  |some v,Z r=>Z (v::r)
  |_,_=>Y
 |(_,.box k)::l,o::a=>match sq fr l a with
  |some r=>Z (PS k o::r)
  |none=>Y
 |(_,.hid _)::l,_::a=>sq fr l a
 |_,_=>Y
def jx:(sh:Sh)->L Nat->fj S.A (jF sh)->bI S->aW S->O (bI S×aW S)
 |[],[],_,a,s=>Z (a,s)
 |(k,.one c)::l,b,x,a,s=>match sG s c x.1 with
  |(v,s)=>bif Nat.blt k a.n&&Nat.ble s.au bg then jx l b x.2 (a.put k v) s else Y
 |(_,.box k)::l,o::b,x,a,s=>match fZ s (dg b) k x.1 with
  |(ob,s)=>bif Nat.ble s.au bg then jx l b x.2 a {s with ob:=s.ob.set aA o ob}else Y
 |(_,.hid k)::l,o::b,x,a,s=>match fZ s (dg b) k x.1 with
  |(ob,s)=>bif Nat.ble s.au bg then jx l b x.2 a {s with ob:=s.ob.set aA o ob}else Y
 |_,_,_,_,_=>Y
def v5{α:Type}(p:Nat->Bool):L (α×V S)->Bool
 |[]=>J
 |x::l=>bQ p x.2||v5 p l
def eY(p:Nat->Bool):sj S->Bool
 | .box a=>gH p a
 | .DT _ l=>v5 p l
 | .lp l=>kG (bQ p) l.fr.tm
 | .jL _ _ _ _ m _ _=>p m
 |_=>J
def ig(p:Nat->Bool)(v:V S):V S:=bif bQ p v then vJ else v
def fG(p:Nat->Bool):sj S->sj S
 | .box b=>.box (b.map (ig p))
 | .DT c l=>.DT c (l.map λx=>(x.1,ig p x.2))
 | .lp l=>.lp {l with fr:={l.fr with tm:=l.fr.tm.mapA (ig p)}}
 | .jL n j l era m a hole=>bif p m then .gone else .jL n j l era m a hole
 |o=>o
def bX(ds ow bs:L Nat)(fr:bI S)(s1:aW S):bI S×aW S:=
 ({fr with tm:=(ds.foldl (λt k=>t.del aA k) fr.tm).keep λv=>!(bQ (cS ow s1.au) v),df:=fr.df.map (dB (bQ (cS ow s1.au)))},vk bs {s1 with ob:=s1.ob.mapA (fG (cS ow s1.au)),wr:=[],dr:=[]})
def KL:Sh->Sh
 |[]=>[]
 |(_,.one _)::l=>KL l
 |(k,.box b)::l=>(k,.box b)::KL l
 |(k,.hid b)::l=>(k,.hid b)::KL l
def nV(sh:Sh)(bs:L Nat)(fr:bI S)(s:aW S):O (fj S.A (jF sh)×aW S×L Nat):=
 match sq fr sh bs with
 |none=>Y
 |some f=>match dL s (jF sh) f Y with
  |none=>Y
  |some (x,e,d,c)=>match cY s e with
   |none=>Y
   |some g=>bif pK d&&(zf d e&&(pK c&&(Nat.beq (bU c) (bU bs)&&(c.zip bs).all λ(a,b)=>Nat.beq a b)))then Z (x,g,d)else Y
def mW:sj S->Bool
 | .arr ..|.jC ..|.jL ..|.rws ..|.gone|.Cj=>J
 |_=>W
def ptO(fr:bI S)(s:aW S)(p:Pt):O Nat:=match Ea fr s p with
 |some (.ptr o 0)=>Z o
 |some (.mp o)=>Z o
 |some (.pz o)=>Z o
 |_=>Y
def Sl(fr:bI S)(s:aW S):L Pt->O (L Nat)
 |[]=>Z []
 |p::l=>match ptO fr s p,Sl fr s l with
  |some o,Z r=>Z (o::r)
  |_,_=>Y
def Co:L Nat->Nat
 |[]=>0
 |a::l=>bif Nat.ble (Co l) a then a else Co l
def vL:Sh->L Nat
 |[]=>[]
 |(k,.one _)::l=>k::vL l
 |(_,.box _)::l=>vL l
 |(_,.hid _)::l=>vL l
def xb(l:L Nat)(o:Nat):Bool:=!(l.contains o)
def TB(args:L (V S)):bI S:={n:=bU args,tm:=kJ args 0 .nil}
def WT(l:L Nat)(sh:Sh)(fr:bI S):bI S:={n:=fr.n,tm:=((vL sh).foldl (λt k=>t.del aA k) fr.tm).keep λv=>!(bQ (xb l) v)}
def xj(ob:Tr (sj S)):L Nat->Tr (sj S)
 |[]=>.nil
 |o::l=>match ob.get o with
  |some x=>(xj ob l).set aA o x
  |none=>xj ob l
def stJ(bs a:L Nat)(s:aW S):aW S:=⟨xj s.ob a,Nat.succ (Co (bs++a)),s.fl,0,[],[]⟩
def frE:bI S:={n:=0,tm:=.nil}
def getAll(fr:bI S):Nat->Nat->O (L (V S))
 |_,0=>Z []
 |j,n+1=>match fr.get j,getAll fr (Nat.succ j) n with
  |some v,Z l=>Z (v::l)
  |_,_=>Y
def Ot(l a:L Nat)(s:aW S):Bool:=a.all λo=>match s.ob.get o with
 |some ob=>mW ob&&!(eY (xb l) ob)
 |none=>J
abbrev JT(S:Sg)(sh:Sh)(rs:L Ck):=fH S.A rs×fj S.A (jF (KL sh))
def XH(sh:Sh)(a:L Ck)(bs b:L Nat)(v:V S)(s:aW S):O (JT S sh a):=
 match eV s a (RH a v),nV (KL sh) bs frE s with
 |some (r,_,_),Z (y,c,_)=>bif b.all (λo=>!(c.wr.contains o))then Z (r,y)else Y
 |_,_=>Y
def Vw(call:gm S)(f:FuncId)(sh:Sh)(a:L Ck)(bs b:L Nat)(fr:bI S)(s:aW S)(x:fj S.A (jF sh)):O (JT S sh a):=
 match jx sh bs x fr s with
 |none=>Y
 |some (fr,s)=>match getAll fr 0 fr.n with
  |none=>Y
  |some args=>call (.jn f) args s (XH sh a bs b) (λ_ _=>Y)
section
variable (E:fA S)(call:gm S){ω:Type}
def TE(s:aW S)(c:j0 S)(args:L (V S))(k:V S->aW S->L Nat->O ω):O ω:=
 bif Lw c.ps&&(jy c.rs&&!c.pn)then match jz s c.ps args with
  |none=>Y
  |some (x,a)=>match cY s a with
   |none=>Y
   |some _=>af (c.F x) λr=>match RT.res c.pn r with
    | .ok r=>k (An (oY c.rs r.1)) s []
    | .dP _=>Y
 else Y
def JR(s:aW S)(c:j0 S)(args:L (V S))(kp:V S->aW S->O ω)(k:V S->aW S->L Nat->O ω):O ω:=bif Tn c.ps then TE s c args k else
 match dL s c.ps args Y with
 |none=>Y
 |some (x,f,a,d)=>match cY s f with
  |none=>Y
  |some b=>bif SM c then af (c.F x) λr=>match RT.res c.pn r with
     | .ok r=>k (An (oY c.rs r.1)) s []
     | .dP _=>Y
   else bif pK a&&(pK d&&zf a f)then
    af (c.F x) λr=>match RT.res c.pn r with
     | .ok r=>match jJ (vk d (forget a {b with wr:=a++b.wr,dr:=a++b.dr})) c.ps d r.2 with
      |none=>Y
      |some e=>match gn e c.rs r.1 with
       |(l,g)=>bif Nat.ble g.au bg then k (An l) g a else Y
     | .dP p=>match jJ (vk d (forget a {b with wr:=a++b.wr,dr:=a++b.dr})) c.ps d p.2 with
      |none=>Y
      |some e=>match a with
       |[]=>bif Nat.ble e.au bg then kp (.ty S.pt p.1) e else Y
       |_::_=>Y
   else Y
def sd(k:V S->aW S->O ω)(d:O ω):L (Bool×V S×aW S)->O ω
 |[]=>d
 |p::l=>ah p.1 (k p.2.1 p.2.2) (sd k d l)
def evJ(a:Xp)(s:aW S)(f:FuncId)(args:L (V S))(k:V S->aW S->L Nat->O ω):O ω:=
 match oS (TB args) s a.sh a.pts,Sl (TB args) s a.ks with
 |some b,Z d=>match nV a.sh b (TB args) s with
  |none=>Y
  |some (g,c,e)=>bif (Nat.blt (bU args) bg&&(vL a.sh).all λk=>Nat.blt k bg)&&(jy a.rs&&(Ot (b++d) d c&&Nat.ble (Nat.succ (Co (b++d))) c.au))then
    af (Vw call f a.sh a.rs b d (WT (b++d) a.sh (TB args)) (stJ b d c) g) λy=>
     match jx (KL a.sh) b y.2 frE (bX [] e b frE c).2 with
     |none=>Y
     |some (_,h)=>k (An (oY a.rs y.1)) {h with wr:=c.ob.iD (eY (cS e c.au))++(b++(e++c.wr)),dr:=e++c.dr} e
   else Y
 |_,_=>Y
def rF(s:aW S)(f:FuncId)(args:L (V S))(kp:V S->aW S->O ω)(k:V S->aW S->L Nat->O ω):O ω:=match E.Es f with
 |some c=>JR s c args kp k
 |none=>match E.cj f with
  |some a=>evJ call a s f args k
  |none=>call (.fn f) args s (λt b=>k t b []) kp
def Og(s:aW S)(m:String)(args:L (V S))(n:Nat)(x:den S.A (.cE n))(kp:V S->aW S->O ω)(k:V S->aW S->L Nat->O ω):L (TypeId×Ty)->Nat->O ω
 |[],_=>Y
 |p::l,j=>ah (g9 (S.alts n) j (S.rz n x)) (match E.T.GV p.1 m with
   |some f=>bif Nat.beq p.1 ((nth (S.alts n) j).elim 0 (·.1))then rF E call s f (.ty (kV (S.alts n) j) (iX S.zero (S.alts n) j (S.rz n x))::args) kp k else Y
   |none=>Y) (Og s m args n x kp k l (Nat.succ j))
def YC:O (V S)->O Nat
 |some (.pz o)=>Z o
 |_=>Y
def rD(o:Oper)(fr:bI S)(s:aW S)(kp:V S->aW S->O ω)(k:V S->aW S->L Nat->O ω):O ω:=
 match o.op with
 | .call c=>match jw fr c.args.toList with
  |none=>Y
  |some args=>match c.callee with
   | .builtin b=>match jN E.T s b c.argTypes args with
    |none=>Y
    |some (p,t,a)=>aP p (k t a [])
   | .value f=>match YC (bT fr f)with
    |some o=>call (.yl o) args s (λt a=>k t a []) kp
    |none=>match(bT fr f).bind (nq · args)with
     |none=>Y
     |some (f,args)=>rF E call s f args kp k
   | .invoke x m=>match bT fr x with
    |some (.cE t v)=>match E.T.GV t m with
     |some f=>rF E call s f (v::args) kp k
     |none=>Y
    |some (.ty (.cE n) x)=>Og E call s m args n x kp k (S.alts n) 0
    |_=>Y
 | .panic x=>match bT fr x with
  |some (.cE t v)=>kp (.cE t v) s
  |_=>Y
 |op=>match Fj E.T fr s op with
  |some (e,p,d,a)=>sd (λv s=>k v s []) (aP p (k d a [])) e
  |none=>match w8 E.T fr s op with
   |none=>Y
   |some (p,t,a)=>aP p (k t a [])
def wh(c:O Bool)(p:Bool)(x:O ω):O ω:=match c with
 |none=>aP p x
 |some c=>aP (imp c p) x
def adW{α:Type}(c:O Bool)(x:O α)(z:α):O α:=match c with
 |none=>x
 |some c=>ah c x (Z z)
mutual
def qq:V S->Bool
 | .sh _ _=>J
 | .pL _ _ _ _=>J
 | .cE _ v=>qq v
 | .agg a=>iu a
 | .fQ a=>iu a
 |_=>W
def iu:L (V S)->Bool
 |[]=>W
 |v::l=>qq v&&iu l
end
def Rc(S:Sg):(cs:L Ck)->fH S.A cs
 |[]=>()
 |c::cs=>(S.zero c.ty,Rc S cs)
def abY(A:Nat->Type):(ps:L Pk)->O (gB A ps)
 |[]=>Z ()
 | .one _::ps=>abY A ps
 | .box _::_=>Y
 | .hid _::_=>Y
def wV:Builtin->Bool
 | .len|.max|.min=>W
 |_=>J
def r9(k:V S->O ω)(d:O ω):L (Bool×V S×aW S)->O ω
 |[]=>d
 |p::l=>ah p.1 (k p.2.1) (r9 k d l)
def ek(g:O Bool)(fr:bI S)(s:aW S)(o:Oper)(k:V S->O ω):O ω:=
 match o.op with
 | .call c=>match jw fr c.args.toList with
  |none=>Y
  |some args=>match c.callee with
   | .builtin b=>bif wV b then match jN E.T s b c.argTypes args with
     |some (p,t,_)=>wh g p (k t)
     |none=>Y
    else Y
   | .value f=>match(bT fr f).bind (nq · args)with
    |none=>Y
    |some (f,args)=>match E.Es f with
     |none=>Y
     |some c=>bif bN c.ps&&(iE c.rs&&(iu args&&!c.pn))then
       match dL s c.ps args Y,abY S.A c.ps with
       |some (x,_,_,_),Z b=>af (adW g (c.F x) (RT.ok c.pn (Rc S c.rs,b))) λr=>match RT.res c.pn r with
        | .ok r=>k (An (oY c.rs r.1))
        | .dP _=>Y
       |_,_=>Y
      else Y
   |_=>Y
 | .store ..|.alloc ..|.box ..|.panic ..|.makeMap ..|.mapUpdate ..|.insert ..|.makeSlice ..|.range ..|.next ..|.defer ..=>Y
 | .buildSlice t n e=>match gW fr e.toList with
  |some l=>bif iu (l.map (·.2))then match w8 E.T fr s (.buildSlice t n e)with
   |none=>Y
   |some (p,v,_)=>wh g p (k v)
   else Y
  |none=>Y
 | .slice t x lo h i=>match bT fr x with
  |some v=>bif qq v then match w8 E.T fr s (.slice t x lo h i)with
   |none=>Y
   |some (p,v,_)=>wh g p (k v)
   else Y
  |none=>Y
 |op=>match Fj E.T fr s op with
  |some (a,p,d,_)=>r9 k (wh g p (k d)) a
  |none=>match w8 E.T fr s op with
   |none=>Y
   |some (p,v,_)=>wh g p (k v)
def yz(fr:bI S)(o:Oper):Bool:=
 match o.op with
 | .call c=>match jw fr c.args.toList with
  |none=>J
  |some args=>match c.callee with
   | .builtin b=>wV b
   | .value f=>match(bT fr f).bind (nq · args)with
    |none=>J
    |some (f,args)=>match E.Es f with
     |none=>J
     |some c=>bN c.ps&&(iE c.rs&&(iu args&&!c.pn))
   |_=>J
 | .store ..|.alloc ..|.box ..|.panic ..|.makeMap ..|.mapUpdate ..|.insert ..|.makeSlice ..|.range ..|.next ..|.defer ..=>J
 | .buildSlice _ _ a=>match gW fr a.toList with
  |some l=>iu (l.map (·.2))
  |none=>J
 | .slice _ x _ _ _=>match bT fr x with
  |some v=>qq v
  |none=>J
 |_=>W
def mg(fr:bI S)(o:Op):bI S:=
 o.operands.toList.foldl (λf x=>match x with
  | .tmp k=>match fr.get k with
   |some (.gd _ v)=>f.put k v
   |_=>f
  |_=>f) fr
def Hx(c:Bool)(fr:bI S)(o:Op):Bool:=
 o.operands.toList.foldl (λp x=>match x with
  | .tmp k=>match fr.get k with
   |some (.gd g _)=>p&&imp c g
   |_=>p
  |_=>p) W
def gI(ops:L Oper)(fr:bI S)(o:Oper):O (O Bool):=
 match o.guard with
 |none=>Z Y
 |some (j,a)=>match((nth ops j).bind (·.dst)).bind fr.get with
  |some (.kb b)=>bif (bif b then a else !a)then Z Y else Z (Z J)
  |some t=>match o6 t with
   |some b=>Z (Z (D.beq b a))
   |none=>Y
  |none=>Y
def rW(ops:L Oper)(fr:bI S)(o:Oper):Bool:=
 match o.guard with
 |none=>J
 |some (j,a)=>match((nth ops j).bind (·.dst)).bind fr.get with
  |some (.kb b)=>bif b then !a else a
  |some (.dat (.lit (.tuple _)))=>W
  |_=>J
def Oc(ops:L Oper)(d:O Nat):Bool:=match d with
 |none=>J
 |some d=>ops.any λo=>match o.guard with
  |none=>J
  |some (j,_)=>match(nth ops j).bind (·.dst)with
   |some e=>Nat.beq d e
   |none=>J
def yp{ω:Type}(b:Bool)(t:V S)(k:V S->O ω):O ω:=bif b then match t with
  | .ty .bool x=>ah x (k (.kb W)) (k (.kb J))
  |t=>k t
 else k t
def fM(fr:bI S):O Nat->Bool
 |none=>W
 |some d=>Nat.blt d fr.n
def lQ(ops:L Oper)(o:Oper)(fr:bI S)(s:aW S)(kp:V S->aW S->O ω)(k:V S->aW S->L Nat->O ω):O ω:=
 bif fM fr o.dst then bif rW ops fr o then k lU s []else match gI ops fr o with
  |none=>Y
  |some Y=>rD E call o fr s kp k
  |some (Z c)=>
   let f:=mg fr o.op
   bif yz E f o then aP (Hx c fr o.op) (ek E (Z c) f s o λt=>k (.gd c t) s [])
   else ah c (aP (Hx c fr o.op) (rD E call o f s kp k)) (k (.gd J lU) s [])
 else Y
def Mq(fr:bI S)(o:Oper):O (qE S):=match o.guard,o.op with
 |none,.defer c=>match c.callee with
  | .value f=>match bT fr f,jw fr c.args.toList with
   |some (.fn f a b),Z args=>Z (.call (.fn f a b) args)
   |_,_=>Y
  |_=>Y
 |_,_=>Y
def Ml(ops:L Oper)(o:Oper)(fr:bI S)(s:aW S)(kp:V S->aW S->O ω)(k:bI S->aW S->O ω):O ω:=
 match Mq fr o with
 |some d=>bif fM fr o.dst then k {(fr.iO o.dst vJ)with df:=d::fr.df} s else Y
 |none=>lQ E call ops o fr s kp λt a b=>yp (Oc ops o.dst) t λt=>k ((cQ b fr).iO o.dst t) a
def JM(ops:L Oper)(kp:bI S->V S->aW S->O ω)(k:bI S->aW S->O ω):L Oper->bI S->aW S->O ω
 |[],a,s=>k a s
 |o::l,a,s=>Ml E call ops o a s (kp a) λb c=>JM ops kp k l b c
end
end
section
def uK(o:Oper):L Nat:=(o.after.toList.filter (Region.binds .any)).map (·.on)
def Kf:L Oper->L Nat->L Nat
 |[],a=>a
 |o::l,a=>Kf l (a++[(uK o).foldl (λb e=>b||| (1 <<< e||| a.getD e 0)) 0])
def tG(ops:L Oper):L Nat:=Kf ops []
def r7:L Oper->Nat->Bool
 |[],_=>W
 |o::l,n=>(uK o).all (λe=>Nat.blt e n)&&r7 l (Nat.succ n)
def Im(o:Oper)(k:Nat):Bool:=o.op.operands.toList.any λx=>match x with|.tmp j=>Nat.beq j k|_=>J
def W3(ops:L Oper)(a:L Nat):Bool:=
 ops.zipIdx.all λ(o,i)=>match o.dst with
  |none=>W
  |some d=>Nat.blt d bg&&ops.zipIdx.all λ(p,j)=>bif Nat.beq i j then !(Im p d)else !(match p.dst with|some e=>Nat.beq e d|none=>J)&&(!(Im p d)||((a.getD j 0).testBit i||(a.getD i 0).testBit j))
def OA(ops:L Oper)(a:L Nat)(i:Nat)(o:Oper):Bool:=match o.dst with
 |none=>J
 |some d=>ops.zipIdx.any λ(p,j)=>Im p d&&(a.getD i 0).testBit j
def YE(ops:L Oper):Bool:=ops.all λo=>o.op.operands.toList.all λx=>match x with|.tmp j=>Nat.blt j bg|_=>W
def Hw(ops:L Oper)(a:L Nat):Bool:=
 ops.zipIdx.all λ(o,i)=>match o.guard with
  |none=>W
  |some (j,_)=>(a.getD i 0).testBit j
def ey(o:Oper):Bool:=match o.op with|.alloc _=>o.guard.isNone|_=>J
def O0(a b:Nat):Bool:=Nat.beq (a&&& b) a
abbrev Q0:=L (Nat×Oper)
section
variable (E:fA S)(call:gm S){ω:Type}
def GG(ops:L Oper)(a:L Nat)(done:Nat)(fr:bI S):Q0->O (Nat×Oper)
 |[]=>Y
 |(i,o)::l=>bif !(done.testBit i)&&(O0 (a.getD i 0) done&&((!(ey o)&&!(OA ops a i o))&&(rW ops fr o||(match gI ops fr o with|some (Z _)=>yz E (mg fr o.op) o|some Y=>yz E fr o|none=>J))))
   then Z (i,o)else GG ops a done fr l
def GH(a:L Nat)(done sw:Nat):Q0->O (Nat×Oper)
 |[]=>Y
 |(i,o)::l=>bif !(done.testBit i)&&(!(ey o)&&O0 (a.getD i 0) (done||| sw))then Z (i,o)else GH a done sw l
def si(E:fX)(a:Nat):Q0->bI S->aW S->O (bI S×aW S)
 |[],b,s=>Z (b,s)
 |(i,o)::l,b,s=>bif a.testBit i then match o.op,o.dst with
   | .alloc t,Z d=>match E.E.ti t with
    |some c=>bif Nat.blt s.au bg&&Nat.blt d b.n then si E a l (b.put d (.ptr s.au 0)) (cJ s (.box (c.zero.map zeroV)))else Y
    |none=>Y
   |_,_=>Y
  else si E a l b s
def iH(p:Nat->Bool)(fr:bI S)(o:Op):Bool:=o.operands.toList.any λx=>match bT fr x with
 |some v=>bQ p v
 |none=>J
def I5:Op->Bool
 | .move _|.assign _|.nilCheck _|.fieldAddr ..=>W
 |_=>J
def Bm(ops:L Oper)(a:L Nat)(done i:Nat)(fr:bI S)(au:Nat)(wr ow:L Nat):Q0->Bool
 |[]=>W
 |(j,o)::l=>(!(done.testBit j)||(ey o||((a.getD i 0).testBit j||(!(iH (cS wr au) fr o.op||iH (cS wr au) (mg fr o.op) o.op)||(I5 o.op&&!(iH (λx=>ow.contains x) fr o.op||iH (λx=>ow.contains x) (mg fr o.op) o.op))))))&&Bm ops a done i fr au wr ow l
def uX(all:Q0)(done:Nat):Nat:=all.foldl (λb(i,o)=>bif ey o&&!(done.testBit i)then b||| 1 <<< i else b) 0
def aaq(ops:L Oper)(fr:bI S):bI S:={fr with tm:=(ops.filterMap (·.dst)).foldl (λt k=>t.del aA k) fr.tm}
def rE(ops:L Oper)(a:L Nat)(all:Q0)(kp:bI S->V S->aW S->O ω)(k:bI S->aW S->O ω):Nat->Nat->bI S->aW S->O ω
 |0,_,_,_=>Y
 |n+1,done,b,s=>
  match GG E ops a done b all with
  |some (i,o)=>bif fM b o.dst then bif rW ops b o then rE ops a all kp k n (done||| 1 <<< i) (b.iO o.dst lU) s else match gI ops b o with
    |none=>Y
    |some Y=>ek E Y b s o λt=>yp (Oc ops o.dst) t λt=>rE ops a all kp k n (done||| 1 <<< i) (b.iO o.dst t) s
    |some (Z c)=>aP (Hx c b o.op) (ek E (Z c) (mg b o.op) s o λt=>rE ops a all kp k n (done||| 1 <<< i) (b.iO o.dst (.gd c t)) s)
   else Y
  |none=>
   let d:=uX all done
   match GH a done d all with
   |some (i,o)=>
    bif all.all (λ(j,p)=>done.testBit j||(ey p||(Nat.beq i j||(a.getD j 0).testBit i)))then
     match si E.T (d&&& a.getD i 0) all b s with
     |none=>Y
     |some (e,g)=>
      lQ E call ops o e {g with wr:=[]} (λt f=>kp (aaq ops e) t {f with wr:=f.wr++g.wr}) λt f h=>
       bif Bm ops a done i b s.au f.wr h all then rE ops a all kp k n (done||| (d&&& a.getD i 0)||| 1 <<< i) ((cQ h e).iO o.dst t) {f with wr:=f.wr++g.wr}else Y
    else Y
   |none=>match si E.T d all b s with
    |none=>Y
    |some (b,s)=>bif all.all (λ(j,p)=>done.testBit j||ey p)then k b s else Y
def MI(E:fX)(n:Nat)(l:L Oper):Bool:=l.all λo=>bif ey o then(match o.op with
  | .alloc t=>(E.E.ti t).isSome
  |_=>W)&&(match o.dst with|some d=>Nat.blt d n|none=>W)
 else W
def TN(E:fA S)(fr:bI S)(s:aW S)(l:L Oper)(a:L Nat):Bool:=r7 l 0&&(W3 l a&&(Hw l a&&(YE l&&(MI E.T fr.n l&&Nat.beq s.fl 0))))
end
inductive LO(X R B P:Type) where
 |next (x:X)
 |out (j:Nat) (x:X)
 |ret (b:B) (r:R)
 |dP (b:B) (p:P)
def iter{X R B P:Type}(F:X->O (LO X R B P)):Nat->X->O (LO X R B P)
 |0,_=>Y
 |n+1,x=>match F x with
  |none=>Y
  |some (.next y)=>iter F n y
  |some (.out j y)=>Z (.out j y)
  |some (.ret y r)=>Z (.ret y r)
  |some (.dP y p)=>Z (.dP y p)
def KM:Code->Bool
 | .region _ c _=>c.toList.all λo=>match o.op with|.defer _=>J|_=>W
 | .seq a b=>KM a&&KM b
 | .cond _ a b=>KM a&&KM b
 | .block _ b=>KM b
 | .loop b=>KM b
 | .scope _=>J
 | .rangeFunc ..=>J
 |_=>W
def rV:Code->L Nat
 | .region _ d _=>d.toList.foldl (λl o=>o.op.operands.toList.foldl (λl x=>match x with|.tmp k=>k::l|_=>l) l) []
 | .seq a b=>rV a++rV b
 | .cond c a b=>(match c with|.tmp k=>[k]|_=>[])++(rV a++rV b)
 | .block _ b=>rV b
 | .loop b=>rV b
 |_=>[]
def JG(l:L Nat)(fr:bI S):bI S:={n:=fr.n,tm:=l.foldl (λt k=>match fr.get k with|some v=>t.set aA k v|none=>t) .nil,df:=[]}
def Lc:L Nat->L (V S)->Tr (V S)->Tr (V S)
 |k::a,v::b,t=>Lc a b (t.set aA k v)
 |_,_,t=>t
def BC:LoopState->O Code->Bool
 | .ready,Y=>W
 |_,_=>J
def Oq:Operand->L Nat
 | .tmp k=>[k]
 |_=>[]
def eo:Code->L Nat
 | .region _ d _=>d.toList.filterMap (·.dst)
 | .seq a b=>eo a++eo b
 | .cond c a b=>Oq c++(eo a++eo b)
 | .block _ b=>eo b
 | .loop b=>eo b
 | .rangeFunc _ _ a b=>eo a++eo b
 | .scope b=>eo b
 |_=>[]
def jA:Code->L Nat
 | .seq a b=>jA a++jA b
 | .cond _ a b=>jA a++jA b
 | .block i b=>(jA b).filter λj=>!(Nat.beq i j)
 | .loop b=>jA b
 | .rangeFunc _ _ a b=>jA a++jA b
 | .scope b=>jA b
 | .exit i=>[i]
 |_=>[]
def tn:L Nat->L Nat
 |[]=>[]
 |a::l=>a::(tn l).filter λb=>!(Nat.beq a b)
abbrev LOT(S:Sg)(sh:Sh)(rs:L Ck):=LO (fj S.A (jF sh)) (fH S.A rs) (fj S.A (jF (KL sh))) (den S.A S.pt)
def TD(ds:L Nat):Sh->L Nat
 |[]=>[]
 |(k,.one (.own _))::l=>bif ds.contains k then TD ds l else k::TD ds l
 |_::l=>TD ds l
def Ja:Sh->L Nat
 |[]=>[]
 |(k,.one (.own _))::l=>k::Ja l
 |_::l=>Ja l
def Rq(fr:bI S)(s:aW S)(c:Nat):O (V S):=bif Nat.blt c 1000000 then fr.get c else match fr.get (Nat.div (Nat.sub c 1000000) 1000)with
 |some (.ptr o 0)=>match s.ob.get o with
  |some (.box a)=>nth a (Nat.mod (Nat.sub c 1000000) 1000)
  |_=>Y
 |_=>Y
def QK(fr:bI S)(s:aW S)(al:L (Nat×Nat)):Bool:=al.all λp=>match fr.get p.1,Rq fr s p.2 with
 |some (.sh o r),Z (.sh a b)=>Nat.beq o a&&Nat.beq r b
 |_,_=>J
def Xi(fr:bI S)(ow:L Nat)(al:L (Nat×Nat)):Bool:=al.all λp=>match fr.get p.1 with
 |some (.sh o _)=>ow.contains o
 |_=>J
def kC(s:aW S):L (Nat×Nat)->bI S->bI S
 |[],a=>a
 |p::l,a=>kC s l (match Rq a s p.2 with|some v=>a.put p.1 v|none=>a)
def WY(fr:bI S)(l:L Nat):Bool:=l.all λk=>match fr.get k with
 |some (.sh _ _)=>W
 |_=>J
def Bq(ds:L Nat)(sh:Sh):Bool:=sh.all λp=>match p.2 with
 | .one _=>ds.contains p.1
 | .box _=>W
 | .hid _=>W
abbrev Rv:=L (Nat×Ty)
def Ee(rv:Rv):L Ck:=rv.map λp=>.dat p.2
def RA(fr:bI S):Rv->O (L (V S))
 |[]=>Z []
 |(k,_)::l=>match fr.get k,RA fr l with
  |some v,Z r=>Z (v::r)
  |_,_=>Y
def uR:(rv:Rv)->fH S.A (Ee rv)->bI S->bI S
 |[],_,a=>a
 |(k,_)::l,x,a=>uR l x.2 (a.put k (.ty _ x.1))
def bI.rm(fr:bI S)(c:Operand)(b:Bool):bI S:=match c with
 | .tmp k=>bif Nat.blt k fr.n then fr.put k (.kb b)else fr
 |_=>fr
noncomputable def EG{ω:Type}(e:Bool)(x y:O ω):O ω:=bif e then(open Classical in if x=y then y else Y)else y
def Wo(l:L Nat)(i:Nat):Nat:=match l with
 |[]=>0
 |a::l=>bif Nat.beq a i then 0 else Nat.succ (Wo l i)
def KT(au:Nat)(bs wr:L Nat):Bool:=wr.all λo=>Nat.ble au o||bs.contains o
def r6{ω:Type}(sh:Sh)(bs:L Nat)(au:Nat)(fr:bI S)(s:aW S)(f:fj S.A (jF sh)->O ω):O ω:=
 match nV sh bs fr s with
 |some (x,a,b)=>bif KT au bs a.wr&&(b.all (λo=>Nat.ble au o)&&a.dr.all (λo=>Nat.ble au o))then f x else Y
 |none=>Y
section
variable (E:fA S)(call:gm S)(n:Nat)(fid:FuncId)(rv:Rv)
def Mj{ω:Type}(k:bI S->aW S->O ω)(Q:uB S->bI S->aW S->O ω):uB S->bI S->aW S->O ω
 | .oK,a,s=>k a s
 | .ext i,a,s=>Q (.ext i) a s
 | .ret,a,s=>Q .ret a s
 | .dP v,a,s=>Q (.dP v) a s
def JK{ω:Type}(i:Nat)(Q:uB S->bI S->aW S->O ω):uB S->bI S->aW S->O ω
 | .oK,a,s=>Q .oK a s
 | .ext j,a,s=>match Nat.beq j i with
  |true=>Q .oK a s
  |false=>Q (.ext j) a s
 | .ret,a,s=>Q .ret a s
 | .dP v,a,s=>Q (.dP v) a s
def VN{ω:Type}(Q:uB S->bI S->aW S->O ω)(fr:bI S)(s:aW S):L Nat->Nat->O ω
 |[],_=>Y
 |[i],_=>Q (.ext i) fr s
 |i::l,j=>match j with
  |0=>Q (.ext i) fr s
  |j+1=>VN Q fr s l j
def ri(au:Nat)(s:aW S):L (qE S)->O (L Nat)
 |[]=>Z []
 | .mark o::l=>match s.ob.get o with
  |some .wE=>bif Nat.ble au o then(match ri au s l with|some r=>Z (o::r)|none=>Y)else Y
  |_=>Y
 |_=>Y
def ab0(fl au:Nat)(base:bI S×aW S):Bool:=match base.1.df with
 | .marks o::_=>(match base.2.ob.get o with
  |some .Cj=>Nat.blt o au&&Nat.ble fl o
  |_=>J)
 |_=>J
def Ld(au:Nat)(base:bI S×aW S)(fr':bI S)(s':aW S):Bool:=
 match ri au s' (fr'.df.take (Nat.sub (bU fr'.df) (bU base.1.df)))with
 |some os=>pK os&&(Nat.beq (Nat.add (bU os) (bU base.1.df)) (bU fr'.df)&&(Nat.beq (bU os) 0||ab0 s'.fl au base))
 |none=>J
def By(ev:{ω:Type}->(uB S->bI S->aW S->O ω)->bI S->aW S->O ω)(sh:Sh)(bs:L Nat)(au:Nat)(c:L Nat)(base:bI S×aW S)(g:Bool)(al:L (Nat×Nat))(x:fj S.A (jF sh)):O (LOT S sh (Ee rv)):=
 match jx sh bs x base.1 base.2 with
 |none=>Y
 |some (e,d)=>ev (λh a b=>bif Ld au base a b then match h with
  | .oK=>bif QK a b al then r6 sh bs au a b (λy=>Z (.next y))else Y
  | .ext j=>bif c.contains j&&QK a b al then r6 sh bs au a b (λy=>Z (.out (Wo c j) y))else Y
  | .ret=>match RA a rv with
   |none=>Y
   |some i=>match eV b (Ee rv) i with
    |some (r,f,_)=>match cY b f with
     |some b=>r6 (KL sh) bs au a b (λy=>Z (.ret y r))
     |none=>Y
    |none=>Y
  | .dP v=>bif g then match eV b [.dat S.pt] [v]with
    |some (p,f,_)=>match cY b f with
     |some b=>r6 (KL sh) bs au a b (λy=>Z (.dP y p.1))
     |none=>Y
    |none=>Y
   else Y
  else Y) (kC d al e) d
def rB:Code->O Nat
 | .region id _ _=>Z id
 | .seq a b=>match rB a with
  |some k=>Z k
  |none=>rB b
 | .cond _ a b=>match rB a with
  |some k=>Z k
  |none=>rB b
 | .block _ b=>rB b
 | .loop b=>rB b
 | .scope b=>rB b
 |_=>Y
def acE(a b:Code):Nat:=match rB a with
 |some k=>Nat.add 1000000 k
 |none=>match rB b with
  |some k=>Nat.add 1000000 k
  |none=>999999
noncomputable def J2{ω:Type}(c:Operand)(A B:(uB S->bI S->aW S->O ω)->bI S->aW S->O ω)(Q:uB S->bI S->aW S->O ω)(fr:bI S)(s:aW S):O ω:=match bT fr c with
  |some (.kb W)=>A Q fr s
  |some (.kb J)=>B Q fr s
  |some (.ub e)=>EG e (A Q (fr.rm c W) s) (B Q (fr.rm c J) s)
  |some v=>match o6 v with
   |some t=>ah t (A Q (fr.rm c W) s) (B Q (fr.rm c J) s)
   |none=>Y
  |none=>Y
def SY(ev:{ω:Type}->(uB S->bI S->aW S->O ω)->bI S->aW S->O ω){ω:Type}(sh:Sh)(pts:L Pt)(al:L (Nat×Nat))(g h:L Nat)(Q:uB S->bI S->aW S->O ω)(fr:bI S)(s:aW S):O ω:=
 match oS fr s sh pts with
 |none=>Y
 |some e=>
  let ds:=g++(TD g sh++al.map (·.1))
  match nV sh e fr s with
  |none=>Y
  |some (i,b,f)=>
   let base:=bX ds f e fr b
   bif (Bq ds sh&&(WY fr (TD g sh)&&(QK fr s al&&Xi fr f al)))&&ds.all (λd=>Nat.blt d fr.n)then
    af (By rv ev sh e b.au h base E.pn al i) λ(o:LOT S sh (Ee rv))=>match o with
     | .next x=>match jx sh e x base.1 base.2 with
      |none=>Y
      |some (c,a)=>Q .oK (kC a al c) {a with wr:=b.ob.iD (eY (cS f b.au))++(e++b.wr),dr:=f++b.dr}
     | .out j x=>match jx sh e x base.1 base.2 with
      |none=>Y
      |some (c,a)=>VN Q (kC a al c) {a with wr:=b.ob.iD (eY (cS f b.au))++(e++b.wr),dr:=f++b.dr} h j
     | .ret x r=>match jx (KL sh) e x base.1 base.2 with
      |none=>Y
      |some (c,a)=>Q .ret (uR rv r c) {a with wr:=b.ob.iD (eY (cS f b.au))++(e++b.wr),dr:=f++b.dr}
     | .dP y p=>bif E.pn then match jx (KL sh) e y base.1 base.2 with
      |none=>Y
      |some (c,a)=>Q (.dP (.ty S.pt p)) c {a with wr:=b.ob.iD (eY (cS f b.au))++(e++b.wr),dr:=f++b.dr}
      else Y
   else Y
def NQ{ω:Type}(ev:(uB S->bI S->aW S->O ω)->bI S->aW S->O ω)(Q:uB S->bI S->aW S->O ω)(a:bI S->aW S->O ω):Nat->bI S->aW S->O ω
 |0,b,s=>a b s
 |m+1,b,s=>ev (Mj (NQ ev Q a m) Q) b s
def SH(ev:{ω:Type}->(uB S->bI S->aW S->O ω)->bI S->aW S->O ω){ω:Type}(sh:Sh)(pts:L Pt)(al:L (Nat×Nat))(g h:L Nat)(Q:uB S->bI S->aW S->O ω)(fr:bI S)(s:aW S):O ω:=match oS fr s sh pts with
  |none=>Y
  |some e=>
   let ds:=g++(TD g sh++al.map (·.1))
   match nV sh e fr s with
   |none=>Y
   |some (i,a,f)=>
    let base:=bX ds f e fr a
    bif (Bq ds sh&&(WY fr (TD g sh)&&(QK fr s al&&Xi fr f al)))&&ds.all (λd=>Nat.blt d fr.n)then
     af (iter (By rv ev sh e a.au h base E.pn al) n i) λ(o:LOT S sh (Ee rv))=>match o with
      | .next _=>Y
      | .out j x=>match jx sh e x base.1 base.2 with
       |none=>Y
       |some (c,b)=>VN Q (kC b al c) {b with wr:=a.ob.iD (eY (cS f a.au))++(e++a.wr),dr:=f++a.dr} h j
      | .ret x r=>match jx (KL sh) e x base.1 base.2 with
       |none=>Y
       |some (c,b)=>Q .ret (uR rv r c) {b with wr:=a.ob.iD (eY (cS f a.au))++(e++a.wr),dr:=f++a.dr}
      | .dP y p=>bif E.pn then match jx (KL sh) e y base.1 base.2 with
       |none=>Y
       |some (c,b)=>Q (.dP (.ty S.pt p)) c {b with wr:=a.ob.iD (eY (cS f a.au))++(e++a.wr),dr:=f++a.dr}
       else Y
    else Y
def XA:Code->Bool
 | .seq a b=>XA a||XA b
 | .cond _ a b=>XA a||XA b
 | .block _ b=>XA b
 | .loop b=>XA b
 | .rangeFunc ..=>W
 | .scope b=>XA b
 |_=>J
def abZ{ω:Type}(b:Bool)(k:bI S->aW S->O ω)(fr:bI S)(s:aW S):O ω:=
 bif b then(bif Nat.blt s.au bg then k {fr with df:=.marks s.au::fr.df} (cJ s .Cj)else Y)else k fr s
noncomputable def rZ:Code->Nat->{ω:Type}->(uB S->bI S->aW S->O ω)->bI S->aW S->O ω
 | .region _ h J,_,_,Q,d,s=>JM E call h.toList (λd t s=>Q (.dP t) d s) (Q .oK) h.toList d s
 | .region _ h W,_,_,Q,d,s=>
  let l:=h.toList
  let k:=tG l
  let all:=l.zipIdx.map λp=>(p.2,p.1)
  bif TN E d s l k then rE E call l k all (λd t s=>Q (.dP t) d s) (Q .oK) (Nat.succ (Nat.mul 2 (bU l))) 0 d s else Y
 | .seq a b,i,_,Q,d,s=>rZ a i (Mj (rZ b i Q) Q) d s
 | .cond c a b,i,_,Q,d,s=>match E.sh fid (acE a b)with
  |none=>J2 c (rZ a i) (rZ b i) Q d s
  |some ⟨sh,pts,m,_⟩=>SY E rv (λQ d s=>J2 c (rZ a i) (rZ b i) Q d s) sh pts m (eo (.cond c a b)++rv.map (·.1)) (tn (jA (.cond c a b))) Q d s
 | .block i b,_,_,Q,d,s=>rZ b i (JK i Q) d s
 | .loop b,i,_,Q,d,s=>match E.sh fid i with
  |none=>Y
  |some ⟨sh,pts,m,r⟩=>NQ (rZ b i) Q (abZ (XA b) λd s=>SH E n rv (rZ b i) sh pts m (eo b++rv.map (·.1)) (tn (jA b)) Q d s) r d s
 | .rangeFunc g u j e,_,_,Q,d,s=>match(bT d g).bind (nq · [.pz (Nat.succ s.au)])with
  |none=>Y
  |some (f,args)=>bif KM j&&(KM e&&(Nat.ble s.fl (Nat.succ s.au)&&Nat.blt (Nat.succ s.au) bg))then
    rF E call (cJ (cJ s .wE) (.lp ⟨.ready,Y,fid,JG (rV j++rV e) d,u.toList,j,e⟩)) f args (λ_ _=>Y) λ_ o q=>match o.ob.get (Nat.succ s.au)with
      |some (.lp l)=>bif BC l.st l.sw then Q .oK {(cQ q d)with df:=.mark s.au::(cQ q d).df} {o with ob:=o.ob.set aA (Nat.succ s.au) (.lp {l with st:=.exhausted})}else Y
      |_=>Y
   else Y
 | .exit i,_,_,Q,d,s=>Q (.ext i) d s
 | .ret,_,_,Q,d,s=>Q .ret d s
 | .skip,_,_,Q,d,s=>Q .oK d s
 | .label _,_,_,Q,d,s=>Q .oK d s
 | .scope b,i,_,Q,d,s=>rZ b i Q d s
 |_,_,_,_,_,_=>Y
end
def jH(E:fX)(s:aW S)(fr:bI S):L ResultVar->O (L (V S))
 |[]=>Z []
 | .tmp t::l=>match fr.get t,jH E s fr l with
  |some x,Z r=>Z (x::r)
  |_,_=>Y
 | .cell a t::l=>match E.E.ti t,fr.get a with
  |some i,Z a=>match u0 i (E.ty t) s a,jH E s fr l with
   |some (p,x,_),Z r=>bif p then Z (x::r)else Y
   |_,_=>Y
  |_,_=>Y
def Le(E:fX):L ResultVar->L TypeId->Rv
 | .tmp k::l,t::a=>match E.ty t with
  |some τ=>(k,τ)::Le E l a
  |none=>Le E l a
 |_::l,_::a=>Le E l a
 |_,_=>[]
def isRec(o:Oper):Bool:=match o.guard,o.op with
 |none,.call c=>match c.callee with
  | .builtin .recover=>W
  |_=>J
 |_,_=>J
def abN(pv:O (V S)):V S:=match pv with
 |some v=>v
 |none=>.dat (.lit .nilIface)
section
variable (E:fA S)(call:gm S)(n:Nat)(pv:Option (V S)){ω:Type}
noncomputable def evR(fid:FuncId)(rv:Rv):Code->Nat->(Bool->uB S->bI S->aW S->O ω)->bI S->aW S->O ω
 | .region id e J,i,Q,d,s=>match e.toList with
  |o::l=>bif isRec o then(bif fM d o.dst then JM E call (o::l) (λd t s=>Q pv.isSome (.dP t) d s) (Q pv.isSome .oK) l (d.iO o.dst (abN pv)) s else Y)
   else rZ E call n fid rv (.region id e J) i (Q J) d s
  |[]=>Y
 | .seq a b,i,Q,d,s=>evR fid rv a i (λf g d s=>match g with
  | .oK=>rZ E call n fid rv b i (Q f) d s
  |g=>Q f g d s) d s
 |c,i,Q,d,s=>rZ E call n fid rv c i (Q J) d s
noncomputable def Oi(d:qE S)(s:aW S)(k:Bool->aW S->O ω):O ω:=match d with
 | .call f args=>match nq f args with
  |none=>Y
  |some (f,args)=>match E.T.E.Od f with
   |none=>Y
   |some fn=>match fn.body with
    |none=>Y
    |some c=>bif Nat.ble (bU args) fn.ntmps&&Nat.blt fn.ntmps bg then
      evR E call n pv f (Le E.T fn.results.toList fn.resultTypes.toList) c 0 (λa e b g=>match b.df with
       |[]=>match e with
        | .oK|.ret=>match jH E.T g b fn.results.toList with
         |some _=>k a {g with lo:=s.lo}
         |none=>Y
        |_=>Y
       |_::_=>Y) {n:=fn.ntmps,tm:=kJ args 0 .nil} {s with lo:=s.au}
     else Y
 | .mark o=>match s.ob.get o with
  |some .wE=>bif Nat.ble s.fl o&&Nat.blt o bg then k J {s with ob:=s.ob.del aA o,wr:=o::s.wr}else Y
  |_=>Y
 | .marks o=>match s.ob.get o with
  |some .Cj=>bif Nat.ble s.fl o&&Nat.blt o bg then k J {s with ob:=s.ob.del aA o,wr:=o::s.wr}else Y
  |_=>Y
 |_=>Y
end
noncomputable def z4(E:fA S)(call:gm S)(n:Nat){ω:Type}:L (qE S)->O (V S)->aW S->(O (V S)->aW S->O ω)->O ω
 |[],pv,s,k=>k pv s
 |d::l,pv,s,k=>Oi E call n pv d s λa b=>z4 E call n l (bif a then Y else pv) b k
def JN(E:fX){ω:Type}(a:L ResultVar)(fr:bI S)(k kp:V S->aW S->O ω)(pv:O (V S))(s:aW S):O ω:=match pv with
 |none=>match jH E s fr a with
  |some l=>k (An l) s
  |none=>Y
 |some v=>kp v s
noncomputable def Oh(E:fA S)(call:gm S)(n:Nat){ω:Type}(b:L ResultVar)(k kp:V S->aW S->O ω):uB S->bI S->aW S->O ω
 | .oK,a,s=>z4 E call n a.df Y s (JN E.T b a k kp)
 | .ret,a,s=>z4 E call n a.df Y s (JN E.T b a k kp)
 | .dP v,a,s=>z4 E call n a.df (Z v) s (JN E.T b a k kp)
 | .ext _,_,_=>Y
def XE(o lo:Nat){ω:Type}(k:V S->aW S->O ω):uB S->bI S->aW S->O ω
 | .oK,_,s=>match s.ob.get o with
  |some (.lp l)=>k (.kb W) {s with ob:=s.ob.set aA o (.lp {l with st:=.ready,sw:=Y}),lo:=lo}
  |_=>Y
 |_,_,_=>Y
noncomputable def XD(E:fA S)(call:gm S)(n o lo:Nat)(fid:FuncId)(a:Code){ω:Type}(k:V S->aW S->O ω):uB S->bI S->aW S->O ω
 | .oK,b,s=>match s.ob.get o with
  |some (.lp l)=>bif BC l.st l.sw then rZ E call n fid [] a 0 (XE o lo k) b {s with ob:=s.ob.set aA o (.lp {l with st:=.busy})}else Y
  |_=>Y
 |_,_,_=>Y
noncomputable def Lg(E:fA S)(call:gm S)(n o:Nat)(args:L (V S))(s:aW S){ω:Type}(k:V S->aW S->O ω):O ω:=match s.ob.get o with
 |some (.lp l)=>bif BC l.st l.sw&&(Nat.beq (bU args) (bU l.params)&&(l.params.all (λk=>Nat.blt k l.fr.n)&&(Nat.ble l.fr.n bg&&(KM l.assign&&(KM l.body&&Nat.ble s.fl o)))))then
   rZ E call n l.fid [] l.assign 0 (XD E call n o s.lo l.fid l.body k) {n:=l.fr.n,tm:=Lc l.params args l.fr.tm,df:=[]} {s with lo:=s.au}
  else Y
 |_=>Y
noncomputable def TY(E:fA S)(n:Nat)(call:gm S):gm S:=λd args s{_}k b=>match d with
 | .yl o=>Lg E call n o args s k
 | .jn f=>match E.T.E.Od f with
  |none=>Y
  |some fn=>match fn.body with
   |none=>Y
   |some c=>
    bif Nat.ble (bU args) fn.ntmps&&(Nat.blt fn.ntmps bg&&Nat.beq s.lo 0)then
     rZ E call n f (Le E.T fn.results.toList fn.resultTypes.toList) c 0 (Oh E call n fn.results.toList k b) {n:=fn.ntmps,tm:=kJ args 0 .nil} s
    else Y
 | .fn f=>match E.T.E.Od f with
  |none=>Y
  |some fn=>match fn.body with
   |none=>Y
   |some c=>
    bif Nat.ble (bU args) fn.ntmps&&Nat.blt fn.ntmps bg then
     rZ E call n f (Le E.T fn.results.toList fn.resultTypes.toList) c 0 (Oh E call n fn.results.toList (λv a=>k v {a with lo:=s.lo}) (λv a=>b v {a with lo:=s.lo})) {n:=fn.ntmps,tm:=kJ args 0 .nil} {s with lo:=s.au}
    else Y
noncomputable def Ad(E:fA S)(n:Nat):Nat->gm S
 |0=>λ_ _ _{_}_ _=>Y
 |d+1=>TY E n (Ad E n d)
noncomputable def T0(E:fA S)(n d:Nat)(f:FuncId)(args:L (V S))(s:aW S){ω:Type}(k kp:V S->aW S->O ω):O ω:=match E.T.E.Od f with
  |none=>Y
  |some fn=>match fn.body with
   |none=>Y
   |some c=>
    bif Nat.ble (bU args) fn.ntmps&&Nat.blt fn.ntmps bg then
     rZ E (Ad E n d) n f (Le E.T fn.results.toList fn.resultTypes.toList) c 0 (Oh E (Ad E n d) n fn.results.toList k kp) {n:=fn.ntmps,tm:=kJ args 0 .nil} s
    else Y
def ry(b:Nat)(s:aW S):(ps:L Pk)->fj S.A ps->L (V S)×aW S
 |[],_=>([],s)
 | .one c::ps,x=>match sG s c x.1 with
  |(v,s)=>match ry b s ps x.2 with
   |(l,s)=>(v::l,s)
 | .box k::ps,x=>match fZ s (Z (Nat.succ b)) k x.1 with
  |(ob,s)=>match ry (Nat.succ b) {s with ob:=s.ob.set aA b ob} ps x.2 with
   |(l,a)=>(PS k b::l,a)
 | .hid k::ps,x=>match fZ s (Z (Nat.succ b)) k x.1 with
  |(ob,s)=>ry (Nat.succ b) {s with ob:=s.ob.set aA b ob} ps x.2
def dS:L Pk->Nat
 |[]=>0
 | .one _::l=>dS l
 | .box _::l=>Nat.succ (dS l)
 | .hid _::l=>Nat.succ (dS l)
def WX(d:L Ck)(ps:L Pk)(v:V S)(s':aW S):O (fH S.A d×gB S.A ps):=
 match eV s' d (RH d v),qY s' 0 ps with
 |some (r,e,f),Z (b,a,c)=>match cY s' (e++a)with
  |some _=>bif pK (f++c)&&zf (f++c) (e++a)then Z (r,b)else Y
  |none=>Y
 |_,_=>Y
def aah(a:Bool)(b:L Ck)(ps:L Pk)(v:V S)(s':aW S):O (RT a (fH S.A b×gB S.A ps) (den S.A S.pt×gB S.A ps)):=
 match WX b ps v s' with
 |some r=>Z (RT.ok a r)
 |none=>Y
def aag(a:Bool)(b:L Ck)(ps:L Pk)(v:V S)(s':aW S):O (RT a (fH S.A b×gB S.A ps) (den S.A S.pt×gB S.A ps)):=
 match WX [.dat S.pt] ps v s' with
 |some r=>RT.dP a (r.1.1,r.2)
 |none=>Y
noncomputable def xH(E:fA S)(n d:Nat)(f:FuncId)(ps:L Pk)(a:L Ck)(x:fj S.A ps):O (RT E.pn (fH S.A a×gB S.A ps) (den S.A S.pt×gB S.A ps)):=
 match ry 0 ⟨.nil,dS ps,0,dS ps,[],[]⟩ ps x with
 |(args,s)=>bif !(Nat.ble s.au bg)then Y else T0 E n d f args s (aah E.pn a ps) (aag E.pn a ps)
end
section
namespace Tr
variable {α β:Type}
def map(f:α->β):Tr α->Tr β
 | .nil=>.nil
 | .node v l r=>.node (v.map f) (map f l) (map f r)
def get_map(f:α->β):∀(t:Tr α)(k:Nat),(t.map f).get k=(t.get k).map f
 | .nil,k=>by rw[map,get_nil,get_nil];rfl
 | .node v l r,0=>by rw[map,fC,fC]
 | .node v l r,k+1=>by rw[map,cD,cD,get_map f l,get_map f r];split<;>rfl
def kz(f:α->β):∀(n:Nat)(t:Tr α)(k:Nat)(x:α),(Tr.set n t k x).map f=Tr.set n (t.map f) k (f x)
 |0,t,k,x=>rfl
 |n+1,.nil,0,x=>rfl
 |n+1,.nil,k+1,x=>by
  rw[map,mT,mT];split
  .rw[map,kz f n];rfl
  .rw[map,kz f n];rfl
 |n+1,.node v l r,0,x=>rfl
 |n+1,.node v l r,k+1,x=>by
  rw[map,lJ,lJ];split
  .rw[map,kz f n]
  .rw[map,kz f n]
end Tr
def rG(S:Sg):(l:L (TypeId×Ty))->uI S.A l->O (TypeId×D)
 |[],_=>Y
 |p::_,.inl x=>Z (p.1,enc S p.2 x)
 |_::l,.inr y=>rG S l y
def Kj:L (TypeId×Ty)->Bool
 |[]=>W
 |p::l=>(oA l p.1).isNone&&Kj l
structure eR(S:Sg):Prop where
 s7:∀n h,S.get n (S.SC n h)=h
 SB:∀n x,S.SC n (S.get n x)=x
 cells:∀n x,S.cells n x=fV S (S.fs n) (S.get n x)
 leaf:∀n,∀t∈S.fs n,iK t=J
 AZ:∀n h,S.rz n (S.imk n h)=h
 oU:∀n x,S.oU n x=rG S (S.alts n) (S.rz n x)
 alts:∀n,Kj (S.alts n)=W
def JV:∀l:L (TypeId×Ty),rG S l (Sx l)=Y
 |[]=>rfl
 |_::l=>JV l
def JW:∀(l:L (TypeId×Ty))(t:TypeId)(i:Nat)(x:den S.A (kV l i)),oA l t=Z i->rG S l (S4 l i x)=Z (t,enc S (kV l i) x)
 |[],t,i,x,h=>by cases h
 |p::l,t,i,x,h=>by
  simp only[oA]at h;rcases aa h with⟨a,h⟩|⟨_,h⟩
  .simp only[aV]at h;subst h;simp only[S4,rG,mV a];rfl
  .split at h
   .rename_i j b;simp only[aV]at h;subst h;exact JW l t j x b
   .cases h
def ab4:Ty->Nat
 | .str=>16
 | .cE _=>16
 | .sl _=>24
 |_=>8
def Vp:L Ty->Nat
 |[]=>0
 |t::l=>Nat.add (ab4 t) (Vp l)
def tE(S:Sg):Ty->Nat
 | .int .i8|.int .u8=>1
 | .int .i16|.int .u16=>2
 | .int .i32|.int .u32=>4
 | .int _=>8
 | .bool=>1
 | .str=>16
 | .sl _=>24
 | .st n=>Vp (S.fs n)
 | .cE _=>16
def Wm(o:O (TypeId×D)):(KO o).lby=16:=by cases o<;>rfl
def sZ(o:O (TypeId×D)):(KO o).leaf=W:=by cases o<;>rfl
def lA(o:O (TypeId×D)):(KO o).cells=[KO o]:=by cases o<;>rfl
def Zs(o:O (TypeId×D)):(KO o).pZ=16:=by cases o<;>rfl
def kM:∀(ts:L Ty)(h:kK S.A ts),(fV S ts h).length=ts.length
 |[],_=>rfl
 |t::ts,h=>by simp[fV,kM ts]
variable {t:Ty}{v u:V S}{fr:bI S}{l:List (V S)}
def W0(x:den S.A t)(h:iK t=J):(enc S t x).lby=ab4 t:=by cases t<;>first|rfl|exact Wm _|cases h
def Bj:∀(ts:L Ty)(h:kK S.A ts),(∀t∈ts,iK t=J)->D.lX (fV S ts h)=Vp ts
 |[],_,_=>rfl
 |t::ts,h,a=>by simp only[fV,D.lX,Vp,W0 _ (a t (by simp)),Bj ts h.2 (λu b=>a u (by simp[b]))]
def CV(x:den S.A t)(h:iK t=J):(enc S t x).leaf=W:=by cases t<;>first|rfl|exact sZ _|cases h
def gu:∀(ts:L Ty)(h:kK S.A ts),(∀t∈ts,iK t=J)->∀d∈fV S ts h,d.leaf=W
 |[],_,_,d,a=>by simp[fV]at a
 |t::ts,h,b,d,a=>by
  simp only[fV,ej]at a;rcases a with rfl|a
  .exact CV _ (b t (by simp))
  .exact gu ts h.2 (λu c=>b u (by simp[c])) d a
def y4(a:eR S)(x:den S.A t):(enc S t x).pZ=tE S t:=by
 cases t with
 |st n=>simp only[enc,D.pZ,tE];rw[show S.cells n x=_ from a.cells n x,Bj _ _ (a.leaf n)]
 |int k=>cases k<;>rfl
 |cE n=>exact Zs _
 |_=>rfl
def js(a:eR S)(x:den S.A t):(enc S t x).cells.length=S.width t:=by cases t with|st n=>simp only[enc,D.cells,Sg.width,bA];rw[show S.cells n x=_ from a.cells n x,kM]|cE n=>rw[show enc S (.cE n) x=KO (S.oU n x)from rfl,lA];rfl|_=>rfl
def JU(a:eR S)(x:den S.A t):(enc S t x).flat=W:=by cases t with|st n=>simp only[enc,D.flat,D.cells,dU];rw[show S.cells n x=_ from a.cells n x];exact gu _ _ (a.leaf n)|cE n=>simp only[enc,D.flat,lA,BM,List.all_nil,sZ,E6]|_=>rfl
def en(S:Sg):(t:Ty)->den S.A t->T
 | .st n,x=>.agg ((S.cells n x).map .sym)
 | .int k,x=>.sym (enc S (.int k) x)
 | .bool,x=>.sym (enc S .bool x)
 | .str,x=>.sym (enc S .str x)
 | .sl e,x=>.sym (enc S (.sl e) x)
 | .cE n,x=>.sym (enc S (.cE n) x)
def v7(x:den S.A t)(h:iK t=J):en S t x=.sym (enc S t x):=by cases t<;>first|rfl|cases h
mutual
def low:V S->T
 | .ty t x=>en S t x
 | .kb b=>.kb b
 | .kn k n=>.kn k n
 | .dat d=>.sym d
 | .ptr o off=>.ptr o off
 | .lR t x off=>.lR (enc S t x) off
 | .jV o e i off=>.jV o e i off
 | .sh o e=>.sh o e
 | .emp=>.emp
 | .ja n t l=>.ja n (l.map (enc S t))
 | .fn f a b=>.fn f (aX a) (aX b)
 | .cE t v=>.cE t (low v)
 | .agg g=>.agg (aX g)
 | .fQ h=>.fQ (aX h)
 | .gd c v=>.gd c (low v)
 | .mp o=>.mp o
 | .pz o=>.pz o
 | .qF o=>.qF o
 | .ub e=>.ub e
 | .pL o m r i=>.pL o m r i
 | .nk n j x=>.nk j (enc S (.st n) x)
def aX:L (V S)->L T
 |[]=>[]
 |v::l=>low v::aX l
end
def fP:∀l:L (V S),aX l=l.map low
 |[]=>rfl
 |v::l=>by simp only[aX,jh,fP l]
def iU:qE S->Df
 | .call f args=>.call (low f) (aX args)
 | .mark o=>.mark o
 | .marks o=>.marks o
 | .jc=>.jc
 | .bad=>.bad
def bh(fr:bI S):Fr:=⟨fr.n,fr.tm.map low,fr.df.map iU⟩
def uZ(l:LpV S):Lp:=⟨l.st,l.sw,l.fid,bh l.fr,l.params,l.assign,l.body⟩
def cz:sj S->Ob
 | .box e=>.box (aX e)
 | .arr t l era=>.arr (S.width t) (l.map (enc S t)) era
 | .jC t l era=>.jC (S.width t) (l.map (enc S t)) era
 | .map c f l=>.map (l.map λp=>(en S c p.1,en S f p.2))
 | .DT c l=>.map (l.map λp=>(en S c p.1,low p.2))
 | .oG b pos=>.oG (bD b) pos
 | .lp l=>.lp (uZ l)
 | .wE=>.wE
 | .jL n j l era m a hole=>.jL j (S.width (.st n)) (l.map (enc S (.st n))) era m a hole
 | .rws t d a=>.rws (S.width t) (d.map (·.map (enc S t))) a
 | .gone=>.gone
 | .Cj=>.Cj
def aq(s:aW S):St:=⟨s.ob.map cz,s.au,s.fl,s.lo⟩
def aE(s:aW S)(o:Nat):(aq s).ob.get o=(s.ob.get o).map cz:=Tr.get_map _ _ _
def bF(fr:bI S)(k:Nat):(bh fr).get k=(fr.get k).map low:=Tr.get_map _ _ _
def PL(fr:bI S)(k:Nat)(v:V S):bh (fr.put k v)=(bh fr).put k (low v):=by simp only[bh,bI.put,Fr.put,Tr.kz]
def LB(fr:bI S)(k:O Nat)(v:V S):bh (fr.iO k v)=(bh fr).iO k (low v):=by cases k with|none=>rfl|some k=>exact PL fr k v
def eK(s:aW S)(o:Nat)(ob:sj S)(wr:L Nat):aq {s with ob:=s.ob.set aA o ob,wr:=wr}={aq s with ob:=(aq s).ob.set aA o (cz ob)}:=by simp only[aq,Tr.kz]
def fU(s:aW S)(ob:sj S):aq (cJ s ob)=(dO (aq s) (cz ob)).2:=by simp only[aq,cJ,dO,Tr.kz]
def Kb(b:ByteArray):bD (ofBytes b)=b:=by unfold bD ofBytes;cases b;simp
def Ms{v:Value}(h:rJ v=Z u):ofConst v=Z (low u):=by
 cases v with
 |bool b=>simp only[rJ,aV]at h;subst h;rfl
 |int k n=>simp only[rJ,aV]at h;subst h;rfl
 |string b=>simp only[rJ,aV]at h;subst h;simp only[ofConst,low,en,enc,zN,dG];rw[Kb]
 |slice a n m=>
  unfold rJ at h;split at h;all_goals first
   |(simp only[aV]at h;rename_i c;simp only[Value.slice.injEq]at c;obtain⟨rfl,rfl,rfl⟩:=c;subst h;rfl)
   |(rename_i c;cases c;done)
   |(simp only[zN,Option.map_none,reduceCtorEq]at h)
 |func f a b=>
  simp only[rJ]at h;simp only[ofConst];split at h
  .simp only[aV]at h;subst h;rename_i h1 h2;try rw[h1,h2]
   rfl
  .cases h
 |iface t v=>simp only[rJ,ec]at h;obtain⟨d,e,rfl⟩:=h;simp only[ofConst,e,dG];rfl
 |_=>simp only[rJ,ec]at h;obtain⟨d,e,rfl⟩:=h;simp only[ofConst,e,dG];rfl
def bP{x:Operand}(h:bT fr x=Z u):iQ (bh fr) x=Z (low u):=by
 cases x with
 |tmp k=>simp only[bT]at h;simp only[iQ,bF,h,dG]
 |const v=>exact Ms h
 |global g=>cases h
 |func f=>simp only[bT,aV]at h;subst h;rfl
def gr{fr:bI S}:∀{l:L Operand}{a:L (V S)},jw fr l=Z a->uY (bh fr) l=Z (aX a)
 |[],a,h=>by simp only[jw,aV]at h;subst h;rfl
 |x::l,a,h=>by
  simp only[jw]at h;split at h
  .rename_i t r h1 h2;simp only[aV]at h;subst h;simp only[uY,bP h1,gr h2,aX]
  .cases h
def FN{u:Ty}{x:den S.A t}{y:den S.A u}(h:tA t u x=Z y):t=u∧HEq x y:=by
 unfold tA at h;split at h
 .rename_i a;have:=fq a;subst this;simp only[aV]at h;exact⟨rfl,heq_of_eq h⟩
 .cases h
def eH{u:Ty}{x:L (den S.A t)}{y:L (den S.A u)}(h:mu t u x=Z y):t=u∧HEq x y:=by
 unfold mu at h;split at h
 .rename_i a;have:=fq a;subst this;simp only[aV]at h;exact⟨rfl,heq_of_eq h⟩
 .cases h
def fB{k:IntKind}{n:Int}(h:kI k v=Z n):∃p,sA k (low v)=Z (p,n)∧p:=by
 unfold kI at h;split at h
 .rename_i j m;cases a:mG j k<;>rw[a]at h
  .cases h
  .simp only[cn,aV]at h;subst h;exact⟨True,by simp[low,sA,a],trivial⟩
 .rename_i j x;cases a:mG j k<;>rw[a]at h
  .cases h
  .simp only[cn,aV]at h;subst h;exact⟨_,rfl,a⟩
 .cases h
def kg{b:Bool}(h:o6 v=Z b):∃p,vu (low v)=Z (p,b)∧p:=by
 unfold o6 at h;split at h
 .simp only[aV]at h;subst h;exact⟨True,rfl,trivial⟩
 .simp only[aV]at h;subst h;exact⟨_,rfl,rfl⟩
 .cases h
def jE{b:L UInt8}(h:sK v=Z b):∃p,vK (low v)=Z (p,bD b)∧p:=by
 unfold sK at h;split at h
 .simp only[aV]at h;subst h;exact⟨_,rfl,rfl⟩
 .cases h
def sU:∀(ts:L Ty)(h:kK S.A ts),(∀t∈ts,iK t=J)->aX (xg (S:=S) ts h)=(fV S ts h).map .sym
 |[],_,_=>rfl
 |t::ts,h,a=>by simp only[xg,aX,fV,jh,sU ts h.2 (λu b=>a u (by simp[b]))];rw[low,v7 _ (a t (by simp))]
def ee:∀l:L (V S),(aX l).length=l.length
 |[]=>rfl
 |v::l=>by simp[aX,ee l]
def iT(l m:L (V S)):aX (l++m)=aX l++aX m:=by simp only[fP,vS]
def iA(l:L (V S))(n:Nat):aX (l.take n)=(aX l).take n:=by simp only[fP,List.map_take]
def iB(l:L (V S))(n:Nat):aX (l.drop n)=(aX l).drop n:=by simp only[fP,List.map_drop]
def PO(h:SQ v=W):(low v).leaf:=by
 cases v with
 |ty t x=>simp only[SQ,As]at h;rw[low,v7 _ h];exact CV x h
 |dat d=>exact h
 |agg=>cases h
 |fQ=>cases h
 |gd=>cases h
 |_=>trivial
def v8:∀{l:L (V S)},yN l=W->leaves (aX l)
 |[],_=>trivial
 |v::l,h=>by simp only[yN,dI]at h;exact⟨PO h.1,v8 h.2⟩
def BF(cs:L D):(List.range cs.length).map (λj=>T.sym ((D.agg cs).cell j))=cs.map .sym:=by
 apply IX;intro j;simp only[gj];by_cases a:j<cs.length
 .rw[Lj a,eS a];simp[D.cell,D.cells,List.getD,a]
 .rw[Ln (by simpa using a),Ln (by simpa using a)];rfl
def lE(f:eR S){i:TI}(h:tu i v=Z l):∃p,ij i (low v)=Z (p,aX l)∧p:=by
 unfold tu at h;split at h
 .rename_i g;rcases aa h with⟨a,h⟩|⟨_,h⟩
  .simp only[aV]at h;subst h;have:(i.agg&&Nat.beq (bU (aX g)) i.size)=W:=by rw[bA,ee,<-bA];exact a
   exact⟨True,by simp only[low,ij,this,cn],trivial⟩
  .cases h
 .rename_i n x;rcases aa h with⟨a,h⟩|⟨_,h⟩
  .simp only[aV]at h;subst h;rw[sU _ _ (f.leaf n),<-f.cells];have:(i.agg&&Nat.beq (bU ((S.cells n x).map T.sym)) i.size)=W:=by rw[bA,mC,f.cells,kM,<-bA];exact a
   exact⟨True,by simp only[low,en,ij,this,cn],trivial⟩
  .cases h
 .rename_i d;rcases aa h with⟨_,h⟩|⟨b,h⟩
  .cases h
  .rcases aa h with⟨a,h⟩|⟨_,h⟩
   .simp only[dI]at a;simp only[aV]at h;subst h;exact⟨_,by simp only[low,ij,b,a.1,cn,cM];rfl,a.2⟩
   .cases h
 .cases h
 .cases h
 .rename_i h1 h2 h3 h4 h5;rcases aa h with⟨_,h⟩|⟨b,h⟩
  .cases h
  .rcases aa h with⟨a,h⟩|⟨_,h⟩
   .simp only[aV]at h;subst h;cases v with
    |ty t x=>
     have j:iK t=J:=by cases t with|st n=>exact absurd rfl (h2 n x)|_=>rfl
     have e:low (V.ty t x)=.sym (enc S t x):=by rw[low,v7 _ j]
     refine⟨(enc S t x).leaf=W,?_,CV _ j⟩;simp only[e,aX,ij,b,a,cn,cM]
    |agg g=>exact absurd rfl (h1 g)
    |dat d=>exact absurd rfl (h3 d)
    |fQ k=>exact absurd rfl (h4 k)
    |gd c v=>exact absurd rfl (h5 c v)
    |_=>exact⟨True,by simp only[low,aX,ij,b,a,cn,cM],trivial⟩
   .cases h
def ny{ag:Bool}(h:w6 ag l=Z v):sP ag (aX l)=Z (low v):=by
 unfold w6 at h;rcases aa h with⟨a,h⟩|⟨a,h⟩
 .simp only[aV]at h;subst h;simp only[sP,a,cn,low]
 .split at h
  .simp only[aV]at h;subst h;simp only[sP,a,cM,aX]
  .cases h
end
section
def vz(S:Sg)(i:TI):Ty->Prop
 | .int k=>i.kd=.leaf (.int k)∧i.agg=J∧i.size=1
 | .bool=>i.kd=.leaf .bool∧i.agg=J∧i.size=1
 | .str=>i.kd=.leaf .str∧i.agg=J∧i.size=1
 | .sl e=>(∃z,i.kd=.slice (S.width e) (iK e) (tE S e) z∧(bif iK e then D.agg z=enc S e (S.zero e)else z=[enc S e (S.zero e)]))∧i.agg=J∧i.size=1∧0<S.width e
 | .st n=>i.agg=W∧i.size=(S.fs n).length
 | .cE _=>i.kd=.iface∧i.agg=J∧i.size=1
structure MO(S:Sg)(E:fX):Prop where
 row:∀k i τ,E.E.ti k=Z i->E.ty k=Z τ->vz S i τ
def uc(s:St):∀ds:L D,∃p,kQ s (ds.map .sym)=Z (p,ds,[])∧p
 |[]=>⟨True,rfl,trivial⟩
 |d::ds=>by obtain⟨p,h,a⟩:=uc s ds;exact⟨True∧p,by simp only[jh,kQ,ud,h,Ei],trivial,a⟩
variable {t e:Ty}{n j:Nat}{s:aW S}{v:V S}{i:TI}{τ:Option Ty}{fr:bI S}{u:Option (V S)}
def OW(a:eR S)(s:St)(x:den S.A t):∃p,ud s (en S t x)=Z (p,enc S t x,[])∧p:=by
 cases t with
 |st n=>obtain⟨p,h,b⟩:=uc s (S.cells n x);refine⟨p∧(S.cells n x).all D.leaf=W,by simp only[en,ud,h,enc],b,?_⟩;rw[dU,a.cells];exact gu _ _ (a.leaf n)
 |_=>exact⟨True,rfl,trivial⟩
def Jn(k:IntKind):mG k k=W:=by cases k<;>rfl
def EO:∀t:Ty,qI t t=W
 | .int k=>Jn k
 | .bool=>rfl
 | .str=>rfl
 | .sl e=>EO e
 | .st n=>E4 n
 | .cE n=>E4 n
def tw(x:den S.A t):tA (S:=S) t t x=Z x:=by unfold tA;rw[dif_pos (EO t)]
def FG:∀{ts:L Ty}{h:kK S.A ts}{j:Nat}{t:Ty}{y:den S.A t},nth ts j=Z t->fV S ts (sB ts h j t y)=(fV S ts h).set j (enc S t y)
 |[],_,_,_,_,h=>by simp[nth]at h
 | τ::ts,h,0,t,y,e=>by simp only[nth,aV]at e;subst e;simp only[sB,tw,fV,ND]
 | τ::ts,h,j+1,t,y,e=>by simp only[nth]at e;simp only[sB,fV,List.set_cons_succ,FG e]
def FH:∀{ts:L Ty}{h:kK S.A ts}{j:Nat}{t:Ty},nth ts j=Z t->(fV S ts h)[j]?=Z (enc S t (cC ts h j t))
 |[],_,_,_,h=>by simp[nth]at h
 | τ::ts,h,0,t,e=>by simp only[nth,aV]at e;subst e;simp only[cC,tw,fV,qT]
 | τ::ts,h,j+1,t,e=>by simp only[nth]at e;simp only[cC,fV,List.getElem?_cons_succ,FH e]
def Dk(h:AE S n j t=W):nth (S.fs n) j=Z (.sl t):=by
 unfold AE at h;split at h
 .rename_i u a;rw[a,fq h]
 .cases h
def TJ(a:eR S)(b:AE S n j t=W)(x:S.A n)(y:L (den S.A t)):enc S (.st n) (O8 n j t x y)=xz j (enc S (.st n) x) (y.map (enc S t)):=by show D.agg (S.cells n _)=D.agg ((S.cells n x).set j _);rw[a.cells,a.cells,O8,a.s7,FG (Dk b)];rfl
def xw(a:eR S){n j:Nat}{t:Ty}(b:AE S n j t=W):∀(l:L (S.A n))(gO:L (L (den S.A t))),(iy n j t l gO).map (enc S (.st n))=iw j (l.map (enc S (.st n))) (gO.map (·.map (enc S t)))
 |[],_=>by simp[iy,iw]
 |_::_,[]=>by simp[iy,iw]
 |x::l,c::gO=>by have:=xw a b l gO;simp only[iy,iw]at this;simp only[iy,iw,List.zipWith_cons_cons,jh,this,TJ a b]
def wR{m r:Nat}{gO:L (L (den S.A t))}(h:Iz s m r=Z ⟨t,gO⟩):Ed (aq s) m r=Z (gO.map (·.map (enc S t))):=by
 unfold Iz at h;split at h
 .rename_i d a e b;rcases aa h with⟨c,h⟩|⟨_,h⟩
  .cases h;simp only[Ed,aE,b,dG,cz,c,cn]
  .cases h
 .cases h
mutual
def nH(c:eR S)(s:aW S):∀(t:Ty)(v:V S){x:den S.A t}{os:L Nat},bH s t v=Z (x,os)->∃p,ud (aq s) (low v)=Z (p,enc S t x,os)∧p
 |t,.ty u y,x,os,h=>by
  simp only[bH]at h;split at h
  .rename_i z d;obtain⟨rfl,a⟩:=FN d;cases a;simp only[aV,bq]at h;obtain⟨rfl,rfl⟩:=h;exact OW c _ _
  .cases h
 | .bool,.kb b,x,os,h=>by simp only[bH,aV,bq]at h;obtain⟨rfl,rfl⟩:=h;exact⟨True,rfl,trivial⟩
 | .int k,.kn j n,x,os,h=>by
  simp only[bH]at h;rcases aa h with⟨f,h⟩|⟨_,h⟩
  .simp only[aV,bq]at h;obtain⟨rfl,rfl⟩:=h;rw[yO f];exact⟨True,rfl,trivial⟩
  .cases h
 | .sl e,.emp,x,os,h=>by simp only[bH,aV,bq]at h;obtain⟨rfl,rfl⟩:=h;exact⟨True,rfl,trivial⟩
 | .sl e,.ja n t l,x,os,h=>by
  simp only[bH]at h;split at h
  .rename_i z d;obtain⟨rfl,a⟩:=eH d;cases a;simp only[aV,bq]at h;obtain⟨rfl,rfl⟩:=h;exact⟨True,rfl,trivial⟩
  .cases h
 | .sl e,.sh o r,x,os,h=>by
  simp only[bH]at h;split at h
  .rename_i t l era g;rcases aa h with⟨f,h⟩|⟨_,h⟩
   .split at h
    .rename_i z d;obtain⟨rfl,a⟩:=eH d;cases a;simp only[aV,bq]at h;obtain⟨rfl,rfl⟩:=h;refine⟨True,?_,trivial⟩;simp only[low,ud,aE,g,dG,cz,f,cn,enc]
    .cases h
   .cases h
  .rename_i t l era g;rcases aa h with⟨f,h⟩|⟨_,h⟩
   .split at h
    .rename_i z d;obtain⟨rfl,a⟩:=eH d;cases a;simp only[aV,bq]at h;obtain⟨rfl,rfl⟩:=h;refine⟨True,?_,trivial⟩;simp only[low,ud,aE,g,dG,cz,f,cn,enc]
    .cases h
   .cases h
  .rename_i n j l era m K g;split at h
   .rename_i t C E;rcases aa h with⟨f,h⟩|⟨_,h⟩
    .simp only[dI]at f;split at h
     .rename_i z d;obtain⟨rfl,a⟩:=eH d;cases a;simp only[aV,bq]at h;obtain⟨rfl,rfl⟩:=h;refine⟨True,?_,trivial⟩;simp only[low,ud,aE,g,dG,cz,wR E,f.1,f.2.1,E6,cn];rw[<-xw c f.2.2];rfl
     .cases h
    .cases h
   .cases h
  .cases h
 | .sl e,.nk n j M,x,os,h=>by
  simp only[bH]at h;split at h
  .rename_i z d;obtain⟨rfl,a⟩:=eH d;cases a;simp only[aV,bq]at h;obtain⟨rfl,rfl⟩:=h;exact⟨True,rfl,trivial⟩
  .cases h
 | .st n,.agg F,x,os,h=>by
  simp only[bH]at h;split at h
  .rename_i h1 q G;simp only[aV,bq]at h;obtain⟨rfl,rfl⟩:=h;obtain⟨p,w,A⟩:=p8 c s (S.fs n) F G;have B:S.cells n (S.SC n h1)=fV S (S.fs n) h1:=by rw[c.cells,c.s7]
   refine⟨p∧(fV S (S.fs n) h1).all D.leaf=W,by simp only[low,ud,w,enc,B],A,?_⟩;rw[dU];exact gu _ _ (c.leaf n)
  .cases h
 | .cE n,.cE t v,x,os,h=>by
  simp only[bH]at h;split at h
  .rename_i i H;split at h
   .rename_i y q I;simp only[aV,bq]at h;obtain⟨rfl,rfl⟩:=h;obtain⟨p,w,A⟩:=nH c s _ v I;refine⟨p,?_,A⟩;have e:enc S (.cE n) (S.imk n (S4 (S.alts n) i y))=.cE t (enc S (kV (S.alts n) i) y):=by show KO (S.oU n _)=_;rw[c.oU,c.AZ,JW _ _ _ _ H];rfl
    simp only[low,ud,w,e]
   .cases h
  .cases h
 | .cE n,.dat (.lit .nilIface),x,os,h=>by
  simp only[bH,aV,bq]at h;obtain⟨rfl,rfl⟩:=h;refine⟨True,?_,trivial⟩;have e:enc S (.cE n) (S.imk n (Sx (S.alts n)))=.lit .nilIface:=by show KO (S.oU n _)=_;rw[c.oU,c.AZ,JV];rfl
  simp only[low,ud,e]
 | .cE _,.kb _,_,_,h=>by simp[bH]at h
 | .cE _,.kn _ _,_,_,h=>by simp[bH]at h
 | .cE _,.emp,_,_,h=>by simp[bH]at h
 | .cE _,.ja _ _ _,_,_,h=>by simp[bH]at h
 | .cE _,.sh _ _,_,_,h=>by simp[bH]at h
 | .cE _,.nk _ _ _,_,_,h=>by simp[bH]at h
 | .bool,.nk _ _ _,_,_,h=>by simp[bH]at h
 | .str,.nk _ _ _,_,_,h=>by simp[bH]at h
 | .int _,.nk _ _ _,_,_,h=>by simp[bH]at h
 | .st _,.nk _ _ _,_,_,h=>by simp[bH]at h
 |t,.pL _ _ _ _,_,_,h=>by cases t<;>simp[bH]at h
 | .cE _,.agg _,_,_,h=>by simp[bH]at h
 | .int _,.cE _ _,_,_,h=>by simp[bH]at h
 | .bool,.cE _ _,_,_,h=>by simp[bH]at h
 | .str,.cE _ _,_,_,h=>by simp[bH]at h
 | .sl _,.cE _ _,_,_,h=>by simp[bH]at h
 | .st _,.cE _ _,_,_,h=>by simp[bH]at h
 | .int _,.dat _,_,_,h=>by simp[bH]at h
 | .bool,.dat _,_,_,h=>by simp[bH]at h
 | .str,.dat _,_,_,h=>by simp[bH]at h
 | .sl _,.dat _,_,_,h=>by simp[bH]at h
 | .st _,.dat _,_,_,h=>by simp[bH]at h
 | .cE _,.dat (.sl _),_,_,h=>by simp[bH]at h
 | .cE _,.dat (.agg _),_,_,h=>by simp[bH]at h
 | .cE _,.dat (.cE _ _),_,_,h=>by simp[bH]at h
 | .cE _,.dat (.fQ _),_,_,h=>by simp[bH]at h
 | .cE _,.dat (.lit (.bool _)),_,_,h=>by simp[bH]at h
 | .cE _,.dat (.lit (.int _ _)),_,_,h=>by simp[bH]at h
 | .cE _,.dat (.lit (.float _ _)),_,_,h=>by simp[bH]at h
 | .cE _,.dat (.lit (.complex _ _ _)),_,_,h=>by simp[bH]at h
 | .cE _,.dat (.lit (.string _)),_,_,h=>by simp[bH]at h
 | .cE _,.dat (.lit (.pointer _)),_,_,h=>by simp[bH]at h
 | .cE _,.dat (.lit (.slice _ _ _)),_,_,h=>by simp[bH]at h
 | .cE _,.dat (.lit (.map _)),_,_,h=>by simp[bH]at h
 | .cE _,.dat (.lit (.chan _)),_,_,h=>by simp[bH]at h
 | .cE _,.dat (.lit (.iface _ _)),_,_,h=>by simp[bH]at h
 | .cE _,.dat (.lit (.func _ _ _)),_,_,h=>by simp[bH]at h
 | .cE _,.dat (.lit .nilFunc),_,_,h=>by simp[bH]at h
 | .cE _,.dat (.lit (.agg _)),_,_,h=>by simp[bH]at h
 | .cE _,.dat (.lit (.tuple _)),_,_,h=>by simp[bH]at h
 |t,.mp _,_,_,h=>by cases t<;>simp[bH]at h
 |t,.pz _,_,_,h=>by cases t<;>simp[bH]at h
 |t,.qF _,_,_,h=>by cases t<;>simp[bH]at h
 |t,.ub _,_,_,h=>by cases t<;>simp[bH]at h
 | .int _,.kb _,_,_,h=>by simp[bH]at h
 | .str,.kb _,_,_,h=>by simp[bH]at h
 | .sl _,.kb _,_,_,h=>by simp[bH]at h
 | .st _,.kb _,_,_,h=>by simp[bH]at h
 | .bool,.kn _ _,_,_,h=>by simp[bH]at h
 | .str,.kn _ _,_,_,h=>by simp[bH]at h
 | .sl _,.kn _ _,_,_,h=>by simp[bH]at h
 | .st _,.kn _ _,_,_,h=>by simp[bH]at h
 | .bool,.emp,_,_,h=>by simp[bH]at h
 | .str,.emp,_,_,h=>by simp[bH]at h
 | .int _,.emp,_,_,h=>by simp[bH]at h
 | .st _,.emp,_,_,h=>by simp[bH]at h
 | .bool,.ja _ _ _,_,_,h=>by simp[bH]at h
 | .str,.ja _ _ _,_,_,h=>by simp[bH]at h
 | .int _,.ja _ _ _,_,_,h=>by simp[bH]at h
 | .st _,.ja _ _ _,_,_,h=>by simp[bH]at h
 | .bool,.sh _ _,_,_,h=>by simp[bH]at h
 | .str,.sh _ _,_,_,h=>by simp[bH]at h
 | .int _,.sh _ _,_,_,h=>by simp[bH]at h
 | .st _,.sh _ _,_,_,h=>by simp[bH]at h
 | .bool,.agg _,_,_,h=>by simp[bH]at h
 | .str,.agg _,_,_,h=>by simp[bH]at h
 | .int _,.agg _,_,_,h=>by simp[bH]at h
 | .sl _,.agg _,_,_,h=>by simp[bH]at h
 |t,.ptr _ _,_,_,h=>by cases t<;>simp[bH]at h
 |t,.lR _ _ _,_,_,h=>by cases t<;>simp[bH]at h
 |t,.jV _ _ _ _,_,_,h=>by cases t<;>simp[bH]at h
 |t,.fn _ _ _,_,_,h=>by cases t<;>simp[bH]at h
 |t,.fQ _,_,_,h=>by cases t<;>simp[bH]at h
 |t,.gd _ _,_,_,h=>by cases t<;>simp[bH]at h
def p8(b:eR S)(s:aW S):∀(ts:L Ty)(l:L (V S)){h:kK S.A ts}{os:L Nat},lW s ts l=Z (h,os)->∃p,kQ (aq s) (aX l)=Z (p,fV S ts h,os)∧p
 |[],[],x,os,h=>by simp only[lW,aV,bq]at h;obtain⟨_,rfl⟩:=h;exact⟨True,rfl,trivial⟩
 |t::ts,v::l,x,os,h=>by
  simp only[lW]at h;split at h
  .rename_i k c h1 d e f;simp only[aV,bq]at h;obtain⟨rfl,rfl⟩:=h;obtain⟨p,g,i⟩:=nH b s t v e;obtain⟨q,a,j⟩:=p8 b s ts l f;exact⟨p∧q,by simp only[aX,kQ,g,a,fV],i,j⟩
  .cases h
 |[],_::_,_,_,h=>by simp[lW]at h
 |_::_,[],_,_,h=>by simp[lW]at h
end
def cP(c:eR S):∀(os:L Nat){s s':aW S},cY s os=Z s'->freeze (aq s) os=Z (aq s')
 |[],s,s',h=>by simp only[cY,aV]at h;subst h;rfl
 |o::os,s,s',h=>by
  simp only[cY]at h;rcases aa h with⟨f,h⟩|⟨_,h⟩
  .have d:Nat.ble (aq s).fl o=W:=f;simp only[freeze,d,cn];split at h
   .rename_i t l era b;have:=cP c os h;rw[eK]at this;simp only[aE,b,dG,cz];exact this
   .rename_i t l era b;simp only[aE,b,dG,cz];exact cP c os h
   .rename_i n j l era m r b;split at h
    .rename_i t e g;rcases aa h with⟨a,h⟩|⟨_,h⟩
     .simp only[dI]at a;have:=cP c os h;have i:Nat.ble (aq s).fl m=W:=a.2.1;simp only[aE,b,dG,cz,wR g,i,a.1,a.2.2.1,E6,cn];rw[<-this]
      congr 1
      simp only[aq,Tr.kz,cz,xw c a.2.2.2]
     .cases h
    .cases h
   .rename_i t e r b;simp only[aE,b,dG,cz];exact cP c os h
   .rename_i b;simp only[aE,b,dG,cz];exact cP c os h
   .cases h
  .cases h
def wN{l:L (den S.A e)}(h:Gt s e v=Z l):∃p,qc (aq s) (low v)=Z (p,l.map (enc S e))∧p:=by
 unfold Gt at h;split at h
 .simp only[aV]at h;subst h;exact⟨True,rfl,trivial⟩
 .obtain ⟨rfl,a⟩:=eH h;cases a;exact⟨True,rfl,trivial⟩
 .obtain ⟨rfl,a⟩:=eH h;cases a;exact⟨True,rfl,trivial⟩
 .obtain ⟨rfl,a⟩:=eH h;cases a;exact⟨_,rfl,rfl⟩
 .rename_i o r;split at h
  .rename_i t d era b;rcases aa h with⟨c,h⟩|⟨_,h⟩
   .obtain ⟨rfl,a⟩:=eH h;cases a;exact⟨True,by simp only[low,qc,aE,b,dG,cz,c,cn],trivial⟩
   .cases h
  .rename_i t d era b;rcases aa h with⟨c,h⟩|⟨_,h⟩
   .obtain ⟨rfl,a⟩:=eH h;cases a;exact⟨True,by simp only[low,qc,aE,b,dG,cz,c,cn],trivial⟩
   .cases h
  .cases h
 .cases h
def Kh{o e:Nat}{l:L (den S.A t)}(h:HQ s o e=Z ⟨t,l⟩):EF (aq s) o e=Z (S.width t,l.map (enc S t)):=by
 unfold HQ at h;unfold EF;rw[aE];split at h
 .rename_i c d era a;rcases aa h with⟨b,h⟩|⟨_,h⟩
  .cases h;simp only[a,dG,cz,b,cn]
  .cases h
 .rename_i c d era a;rcases aa h with⟨b,h⟩|⟨_,h⟩
  .cases h;simp only[a,dG,cz,b,cn]
  .cases h
 .cases h
def Mo{α:Type}(f:α->D)(l:L α)(k:Nat)(z:α)(h:k<l.length):D.el (l.map f) k=f (aT l k z):=by simp[D.el,aT,List.getD,h]
def sX{α:Type}{n:Int}{l:L α}(h:az n l=W):0<=n∧n<l.length:=by simpa[az]using h
def qu{α:Type}{k:Nat}{l:L α}(h:ef k l=W):k<l.length:=by simpa[ef]using h
def xh(a:eR S)(x:den S.A t):aX (sV (S:=S) t x)=(enc S t x).cells.map .sym:=by cases t with|st n=>simp only[sV,enc,D.cells];rw[sU _ _ (a.leaf n),a.cells]|cE n=>show[T.sym (KO (S.oU n x))]=(KO (S.oU n x)).cells.map .sym;rw[lA];rfl|_=>rfl
def yF(q:eR S)(w:∀u,τ=Z u->vz S i u){x:den S.A t}{off:Nat}(h:I8 i τ t x off=Z v) :
  mP i (enc S t x) off=Z (low v)∧(enc S t x).has (Nat.add off i.size):=by
 unfold I8 at h;have z:=js q x;rcases aa h with⟨m,A⟩|⟨_,h⟩
 .simp only[dI]at m;clear h;obtain⟨h1,h2⟩:=m;have B:=beq_iff'.1 h1;subst B;have h:=ew A;subst h;unfold Vj at h2;split at h2
  .rename_i u;have:=fq h2;subst this;have f:=w u rfl;cases u with
   |st n=>
    obtain⟨b,a⟩:=f;have s:(S.cells n x).length=(S.fs n).length:=by rw[q.cells,kM]
    refine⟨?_,?_⟩
    .unfold mP;rw[b,cn,a,<-s];simp only[enc,low,en,lY,Nat.add_eq]
     congr 2
     exact BF _
    .simp only[D.has,enc,D.cells,a,s];exact wY (lY _)
   |int k=>obtain⟨_,b,a⟩:=f;exact⟨by simp only[mP,b,a];rfl,by simp only[D.has,a];exact bS _⟩
   |bool=>obtain⟨_,b,a⟩:=f;exact⟨by simp only[mP,b,a];rfl,by simp only[D.has,a];exact bS _⟩
   |str=>obtain⟨_,b,a⟩:=f;exact⟨by simp only[mP,b,a];rfl,by simp only[D.has,a];exact bS _⟩
   |sl e=>obtain⟨_,b,a,_⟩:=f;exact⟨by simp only[mP,b,a];rfl,by simp only[D.has,a];exact bS _⟩
   |cE n=>obtain⟨_,b,a⟩:=f;have e:(enc S (.cE n) x).cells=[enc S (.cE n) x]:=lA _;exact⟨by simp only[mP,b,a,D.cell,e];rfl,by simp only[D.has,a,e];exact bS _⟩
  .cases h2
 .rcases aa h with⟨m,h⟩|⟨_,h⟩
  .have r:off+i.size<=S.width t:=eN m;have g:(enc S t x).cells.length=S.width t:=z;have c:=ny h;rw[iA,iB,xh q]at c;have d:((List.map T.sym (enc S t x).cells).drop off).take i.size=(List.range i.size).map λj=>T.sym ((enc S t x).cell (off+j)):=by
    apply IX;intro j;rw[gj];by_cases o:j<i.size
    .rw[uF,aY o,Au,gj,Lj o];have:off+j<(enc S t x).cells.length:=by omega
     rw[eS this];simp[D.cell,List.getD,this]
    .rw[uF,bK o,Ln (by simpa using o)];rfl
   rw[d]at c;refine⟨?_,by simp only[D.has];exact g▸r⟩;unfold sP at c;unfold mP;cases l:i.agg with
   |true=>rw[l,cn]at c;rw[cn];exact c
   |false=>
    rw[l,cM]at c;rw[cM];split at c
    .rename_i y p;have h1:i.size=1:=by have:=oI List.length p;simpa using this
     rw[h1]at p;have:Nat.beq i.size 1=W:=by rw[h1];rfl
     rw[this,cn];simp only[List.range_one,jh,E2,wZ,IU,and_true]at p;rw[p];exact c
    .cases c
  .cases h
def Fo(g:eR S)(j:∀u,τ=Z u->vz S i u){s':aW S}{a:V S}{c:Bool}(h:u0 i τ s a=Z (c,v,s'))(n:c=W) :
  s'=s∧∃p,loadT i (aq s) (low a)=Z (p,low v,aq s')∧p:=by
 unfold u0 at h;split at h
 .rename_i o off;split at h
  .rename_i q r;dsimp only at h;rcases aa h with⟨w,h⟩|⟨_,h⟩
   .simp only[ec,bq]at h;obtain⟨t,y,_,rfl,rfl⟩:=h;refine⟨rfl,True,?_,trivial⟩;have m:=ny y;rw[iA,iB]at m;have b:Nat.beq (bU (((aX q).drop off).take i.size)) i.size=W:=by rw[<-iB,<-iA,bA,ee,<-bA];exact w
    simp only[low,loadT,aE,r,dG,cz,b,cn,m]
   .cases h
  .cases h
 .rename_i t x off;simp only[ec,bq]at h;obtain⟨u,d,_,rfl,rfl⟩:=h;obtain⟨h1,h2⟩:=yF g j d;exact⟨rfl,_,by simp only[low,loadT,h1,dG],h2⟩
 .rename_i o e k off;split at h
  .rename_i t l z;simp only[ec,bq]at h;obtain⟨u,d,rfl,rfl,rfl⟩:=h;obtain⟨h1,h2⟩:=yF g j d;have A:=qu n;have f:=Mo (enc S t) l k (S.zero t) A;refine⟨rfl,D.En (k:Int) (D.len (l.map (enc S t)))∧(enc S t (aT l k (S.zero t))).has (Nat.add off i.size),by simp only[low,loadT,Kh z,f,h1,dG],?_,h2⟩;simp only[D.En,D.len,mC];omega
  .cases h
 .cases h
def Ce{x:O Operand}(h:GQ fr x=Z u):Jd (bh fr) x=Z (u.map low):=by cases x with|none=>simp only[GQ,aV]at h;subst h;rfl|some x=>simp only[GQ,ec]at h;obtain⟨v,a,rfl⟩:=h;simp only[Jd,bP a,dG]
def ov{d:Int}{n:Int}(h:ze d u=Z n):∃p,tF d (u.map low)=Z (p,n)∧p:=by cases u with|none=>simp only[ze,aV]at h;subst h;exact⟨True,rfl,trivial⟩|some v=>exact fB h
def Cc(v:V S):oQ (low v)=I9 v:=by
 cases v with
 |ty t x=>cases t<;>rfl
 |_=>rfl
def qW{fr:bI S}:∀{l:L (Nat×Operand)}{a:L (Nat×V S)},gW fr l=Z a->pI (bh fr) l=Z (a.map λp=>(p.1,low p.2))
 |[],a,h=>by simp only[gW,aV]at h;subst h;rfl
 |(k,x)::l,a,h=>by
  simp only[gW]at h;split at h
  .rename_i t r h1 h2;simp only[aV]at h;subst h;simp only[pI,bP h1,qW h2,jh]
  .cases h
def yX(e:eR S){place:Nat->O (Nat×TI)}:∀{ps:L (Nat×V S)}{cells r:L (V S)},FF place cells ps=Z r->∃p,zW place (aX cells) (ps.map λp=>(p.1,low p.2))=Z (p,aX r)∧p
 |[],cells,r,h=>by simp only[FF,aV]at h;subst h;exact⟨True,rfl,trivial⟩
 |(k,v)::ps,cells,r,h=>by
  simp only[FF]at h;split at h
  .cases h
  .rename_i off i g;split at h
   .cases h
   .rename_i l j;rcases aa h with⟨c,h⟩|⟨_,h⟩
    .simp only[dI]at c;obtain⟨p,m,d⟩:=lE e j;obtain⟨q,f,n⟩:=yX e h;simp only[iT,iA,iB]at f;have b:bU (aX l)=bU l:=by rw[bA,ee,<-bA]
     have a:bU (aX cells)=bU cells:=by rw[bA,ee,<-bA]
     refine⟨p∧leaves (aX l)∧q,?_,d,v8 c.2,n⟩;simp only[jh,zW,g,m,b,a,c.1,cn,f,dG]
    .cases h
def CY(a:eR S){s:aW S}{e:Ty}{i:TI}(b:i.agg=iK e∧(iK e=W->i.size=S.width e)):∀{ps:L (Nat×V S)}{es r:L (den S.A e)}{os:L Nat},lB s e es ps=Z (r,os)->
  ∃p,mI (aq s) i (es.map (enc S e)) (ps.map λp=>(p.1,low p.2))=Z (p,r.map (enc S e),os)∧p
 |[],es,r,os,h=>by simp only[lB,aV,bq]at h;obtain⟨rfl,rfl⟩:=h;exact⟨True,rfl,trivial⟩
 |(k,v)::ps,es,r,os,h=>by
  simp only[lB]at h;split at h
  .cases h
  .rename_i x g j;rcases aa h with⟨l,h⟩|⟨_,h⟩
   .split at h
    .rename_i y m o;simp only[aV,bq]at h;obtain⟨rfl,rfl⟩:=h;obtain⟨p,t,u⟩:=nH a s e v j;obtain⟨q,f,w⟩:=CY a b o;rw[E3]at f;have c:Nat.blt k (bU (es.map (enc S e)))=W:=by rw[bA,mC,<-bA];exact l
     refine⟨p∧(bif i.agg then(enc S e x).isAgg i.size else(enc S e x).leaf)=W∧q,by simp only[jh,mI,t,c,cn,f,dG],u,?_,w⟩;rw[b.1];cases e with|st n=>simp only[iK,cn,enc,D.isAgg];have d:=b.2 rfl;rw[d];simp only[Sg.width,bA,a.cells,kM,dI];refine⟨beq_iff'.2 rfl,?_⟩;rw[dU];exact gu _ _ (a.leaf n)|cE n=>exact sZ _|_=>rfl
    .cases h
   .cases h
end
section
def sJ(s:St):∀(l m:L T){p q:Prop}{ds es:L D}{os ps:L Nat},kQ s l=Z (p,ds,os)->kQ s m=Z (q,es,ps)->∃r,kQ s (l++m)=Z (r,ds++es,os++ps)∧(p->q->r)
 |[],m,p,q,ds,es,os,ps,h,a=>by simp only[kQ,aV,bq]at h;obtain⟨_,rfl,rfl⟩:=h;exact⟨q,a,λ_ b=>b⟩
 |t::l,m,p,q,ds,es,os,ps,h,a=>by
  simp only[kQ]at h;split at h
  .rename_i f d g n i j h1 h2;simp only[aV,bq]at h;obtain⟨rfl,rfl,rfl⟩:=h;obtain⟨r,k,c⟩:=sJ s l m h2 a;exact⟨f∧r,by simp only[List.cons_append,kQ,h1,k,nS],λe b=>⟨e.1,c e.2 b⟩⟩
  .cases h
def HC(a:eR S):∀(t:Ty)(h:kK S.A (S.lM t)),(enc S t (sQ t h)).cells=fV S (S.lM t) h
 | .st n,h=>(a.cells n (S.SC n h)).trans (oI _ (a.s7 n h))
 | .int _,_=>rfl
 | .bool,_=>rfl
 | .str,_=>rfl
 | .sl _,_=>rfl
 | .cE _,h=>by rw[show(enc S (.cE _) (sQ _ h)).cells=[enc S (.cE _) (sQ _ h)]from lA _];rfl
variable {i:TI}{s s':aW S}{a x v:V S}{c:Bool}{lo hi:Int}
def KY(j:eR S)(h:Bl i s a x=Z (c,v,s'))(hc:c=W) :
  ∃p,storeT i (aq s) (low a) (low x)=Z (p,low v,aq s')∧p:=by
 unfold Bl at h;split at h
 .cases h
 .rename_i l hl;obtain⟨p,H,hp⟩:=lE j hl;have I:bU (aX l)=bU l:=by rw[bA,ee,<-bA]
  split at h
  .rename_i o off;split at h
   .rename_i R X;rcases aa h with⟨E,u⟩|⟨_,u⟩
    .clear h;simp only[dI]at E;simp only[aV,bq]at u;obtain⟨_,rfl,rfl⟩:=u;have F:bU (aX R)=bU R:=by rw[bA,ee,<-bA]
     have hb':(Nat.ble (aq s).fl o&&Nat.ble (Nat.add off (bU l)) (bU (aX R)))=W:=by rw[F,dI];exact⟨E.1,E.2.1⟩
     refine⟨p∧leaves (aX l),?_,hp,v8 E.2.2⟩;simp only[storeT,H,low,aE,X,dG,cz,hb',cn,eK,iT,iA,iB,I];rfl
    .cases u
   .cases h
  .rename_i o e k off;split at h
   .rename_i t _ _ _;split at h
    .rename_i h0 os hos;split at h
     .rename_i s1 Eo;split at h
      .rename_i t2 g era X;split at h
       .rename_i h2 os2 hh2;rcases aa h with⟨E,u⟩|⟨_,u⟩
        .clear h;simp only[dI]at E;obtain⟨Hv,nB,K,Tl,hb5⟩:=E;simp only[aV,bq]at u;obtain⟨rfl,rfl,rfl⟩:=u;obtain⟨q,Q,hq⟩:=p8 j s _ l hos;have hf:=cP j os Eo;have hk:=qu hc;have G:=Mo (enc S t2) g k (S.zero t2) hk;obtain⟨q2,w,_⟩:=p8 j s _ _ hh2;have z:off+bU l<=S.width t2:=eN K;have h1l:1<=bU l:=eN Tl;generalize hds:fV S (List.take (bU l) (List.drop off (S.lM t))) h0=ds at Q;have f:ds.length=bU l:=by
          have:∀(s:St)(l:L T){p:Prop}{ds:L D}{os:L Nat},kQ s l=Z (p,ds,os)->ds.length=l.length:=by
           intro s l
           induction l with
           |nil=>intro p ds os h;simp only[kQ,aV,bq]at h;obtain⟨_,rfl,_⟩:=h;rfl
           |cons t l ih=>
            intro p ds os h;simp only[kQ]at h;split at h
            .rename_i h1 h2;simp only[aV,bq]at h;obtain⟨_,rfl,_⟩:=h;simp[ih h2]
            .cases h
          rw[this _ _ Q,ee,bA]
         have B:fV S (S.lM t2) h2=(enc S t2 (aT g k (S.zero t2))).cells.take off++ds++(enc S t2 (aT g k (S.zero t2))).cells.drop (Nat.add off (bU l)):=by rw[iT,iT,iA,iB,xh j,<-List.map_take,<-List.map_drop]at w;obtain⟨r1,e1,_⟩:=uc (aq s) ((enc S t2 (aT g k (S.zero t2))).cells.take off);obtain⟨r2,e2,_⟩:=uc (aq s) ((enc S t2 (aT g k (S.zero t2))).cells.drop (Nat.add off (bU l)));obtain⟨r3,e3,_⟩:=sJ _ _ _ e1 Q;obtain⟨r4,e4,_⟩:=sJ _ _ _ e3 e2;rw[e4]at w;simp only[aV,bq]at w;exact w.2.1.symm
         have C:D.Nj (enc S t2 (aT g k (S.zero t2))) off ds=enc S t2 (sQ t2 h2):=by
          have b:=HC j t2 h2;rw[B]at b;cases t2 with
          |st n=>simp only[enc,D.cells]at b;simp only[enc,D.Nj,f];rw[b];rfl
          |cE n=>
           simp only[Sg.width]at z;have m:off=0:=by omega
           have r:bU l=1:=by omega
           rw[r]at f;obtain⟨d1,rfl⟩:=IZ.1 f;subst m;have M:∀y:S.A n,(enc S (.cE n) y).cells=[enc S (.cE n) y]:=λy=>lA _;rw[M,M]at b;simp only[List.take_zero,Ei,r,Nat.add_eq,lY,List.drop_succ_cons,List.drop_nil,mD,IU,and_true]at b;have hux:∀y:S.A n,D.Nj (enc S (.cE n) y) 0 [d1]=d1:=λy=>by show D.Nj (KO (S.oU n y)) 0 [d1]=d1;cases S.oU n y<;>rfl
           rw[hux];exact b.symm
          |_=>
           simp only[Sg.width]at z;have m:off=0:=by omega
           have r:bU l=1:=by omega
           rw[r]at f;obtain⟨d1,rfl⟩:=IZ.1 f;subst m;simp only[enc,D.cells,List.take_zero,Ei,r,Nat.add_eq,lY,List.drop_succ_cons,List.drop_nil,mD,IU,and_true]at b;simp only[enc,D.Nj,List.getD,gi,BO,Nat.lt_add_one,getElem?_pos,List.getElem_cons_zero,Aq,lY];exact b.symm
         have htk:(D.el (g.map (enc S t2)) k).Np (S.width t2) off (bU ds):=by
          rw[G,bA,f];cases t2 with
          |st n=>
           left
           simp only[enc,D.isAgg,Sg.width,bA,j.cells,kM,dI];refine⟨beq_iff'.2 rfl,?_⟩;rw[dU];exact gu _ _ (j.leaf n)
          |cE n=>simp only[Sg.width]at z;exact .inr ⟨sZ _,rfl,by omega,by omega⟩
          |_=>simp only[Sg.width]at z;exact .inr ⟨rfl,rfl,by omega,by omega⟩
         have N:Nat.ble (Nat.add off (bU ds)) (S.width t2)=W:=by rw[bA,f];exact K
         have A:ds.all D.leaf=W:=by
          rw[dU];intro d hd';have:d∈fV S (S.lM t2) h2:=by rw[B];simp[hd']
          cases t2 with|st n=>exact gu _ _ (j.leaf n) d this|cE n=>simp only[Sg.lM,fV,ko]at this;rw[this];exact sZ _|_=>simp only[Sg.lM,fV,ko]at this;rw[this];rfl
         have hby:((D.el (g.map (enc S t2)) k).Nj off ds).pZ=(D.el (g.map (enc S t2)) k).pZ:=by rw[G,C,y4 j,y4 j]
         have P:(Nat.ble (aq s1).fl o&&Nat.beq e era)=W:=by rw[dI];exact⟨Hv,nB⟩
         refine⟨p∧q∧ds.all D.leaf=W∧D.En (k:Int) (D.len (g.map (enc S t2)))∧(D.el (g.map (enc S t2)) k).Np (S.width t2) off (bU ds)∧Nat.ble (Nat.add off (bU ds)) (S.width t2)=W∧
          ((D.el (g.map (enc S t2)) k).Nj off ds).pZ=(D.el (g.map (enc S t2)) k).pZ,?_,hp,hq,A,?_,htk,N,hby⟩
         .simp only[storeT,H,low,Q,hf,aE,X,dG,cz,P,cn,eK,G,C,D.put,jP,E3];rfl
         .simp only[D.En,D.len,mC];omega
        .cases u
       .cases h
      .cases h
     .cases h
    .cases h
   .cases h
  .cases h
def De{len:Int}(h:iz lo hi len=W):D.cut lo hi len:=by simpa[iz,D.cut]using h
def m7{α:Type}(f:α->D)(l:L α):D.len (l.map f)=aj l:=by simp[D.len,aj]
def Ns{α:Type}(f:α->D)(l:L α)(lo hi:Int):D.sub (l.map f) lo hi=(eZ l lo hi).map f:=by simp[D.sub,eZ,List.map_drop,List.map_take]
def qf(a:eR S){e:Ty}(l:L (den S.A e)):D.rows (l.map (enc S e)) (S.width e):=by intro d b;obtain⟨x,_,rfl⟩:=sr.1 b;exact js a x
def qK(b:L UInt8):D.Bp (bD b)=aj b:=by simp[D.Bp,bD,aj,ByteArray.size]
def La(b:L UInt8)(h:D.cut lo hi (aj b)):D.Vq (bD b) lo hi=bD (eZ b lo hi):=by obtain⟨h1,h2,h3⟩:=h;unfold D.Vq bD eZ;unfold aj at h3;apply ByteArray.ext;simp only[ByteArray.data_extract];apply BK;simp[Se,List.drop_take]
def Lb(Q:eR S){τ:O Ty}(hi:∀u,τ=Z u->vz S i u){l h m:O (V S)}(a:sL i τ s x l h m=Z (c,v,s'))(E:c=W) :
  ∃p,nJ i (aq s) (low x) (l.map low) (h.map low) (m.map low)=Z (p,low v,aq s')∧p:=by
 unfold sL at a;split at a
 .rename_i lo F;obtain⟨p,g,I⟩:=ov (d:=0) F;have g:tF D.zero (l.map low)=Z (p,lo):=g;obtain⟨w,_,_⟩:=hi _ rfl;split at a
  .rename_i b _ hb;obtain⟨q,A,K⟩:=jE hb;split at a
   .rename_i j B;obtain⟨r,o,G⟩:=ov B;simp only[aV,bq]at a;obtain⟨rfl,rfl,rfl⟩:=a;have f:=De E;refine⟨p∧q∧r∧D.cut lo j (D.Bp (bD b)),?_,I,K,G,by rw[qK];exact f⟩;unfold nJ;rw[w,g];simp only[A,Option.map_none,qK,o,La b f];rfl
   .cases a
  .cases a
 .rename_i e lo F;obtain⟨p,g,I⟩:=ov (d:=0) F;have g:tF D.zero (l.map low)=Z (p,lo):=g;obtain⟨⟨z,w,_⟩,_⟩:=hi _ rfl;split at a
  .rename_i H s1 _ R X;obtain⟨q,A,K⟩:=wN R;have P:=cP Q _ X;rw[<-Cc]at P;split at a
   .rename_i _ j B;obtain⟨r,o,G⟩:=ov B;simp only[aV,bq]at a;obtain⟨rfl,rfl,rfl⟩:=a;have f:=De E;refine⟨p∧q∧r∧D.rows (H.map (enc S e)) (S.width e)∧D.cut lo j (D.len (H.map (enc S e))),?_,I,K,G,qf Q H,by rw[m7];exact f⟩;unfold nJ;rw[w,g];simp only[A,P,m7,o,Option.map_none,Ns];rfl
   .rename_i j y hv B;obtain⟨r,o,G⟩:=ov B;simp only[dG]at o;split at a
    .simp only[aV,bq]at a;obtain⟨rfl,rfl,rfl⟩:=a;simp only[dI,kT,kj]at E;refine⟨p∧q∧r∧lo=D.zero∧j=D.zero,?_,I,K,G,E.1,E.2⟩;unfold nJ;rw[w,g];simp only[A,P,m7,o,dG,low]
    .rename_i hno;split at a
     .rename_i mx hmx;obtain⟨t,M,ht⟩:=fB hmx;simp only[aV,bq]at a;obtain⟨rfl,rfl,rfl⟩:=a;simp only[dI,kT,kj]at E;have f:=De E.1;refine⟨p∧q∧r∧t∧D.rows (H.map (enc S e)) (S.width e)∧D.cut lo j (D.len (H.map (enc S e)))∧mx=j,?_,I,K,G,ht,qf Q H,by rw[m7];exact f,E.2⟩;unfold nJ;rw[w,g];simp only[A,P,m7,o,dG,Ns];have N:∀q,low y=.kn .i64 q->q≠0:=by
       intro q C h0;subst h0;cases y with
       |ty t x=>cases t<;>simp[low,en]at C
       |kn k n=>simp only[low,T.kn.injEq]at C;obtain⟨rfl,rfl⟩:=C;exact hno rfl
       |_=>simp[low]at C
      generalize low y=ly at M N;split
      .exact absurd rfl (N 0 rfl)
      .rw[M];rfl
     .cases a
   .cases a
  .cases a
 .cases a
def DA{g:O Bool}{b:Bool}(h:T4 v=Z (g,b)):∃p,DB (low v)=Z (p,b)∧(orT g=W->p):=by
 unfold T4 at h;split at h
 .rename_i c i;split at h
  .rename_i y d;obtain⟨p,a,e⟩:=kg d;simp only[aV,bq]at h;obtain⟨rfl,rfl⟩:=h;exact⟨c=W∧p,by simp only[low,DB,a],λf=>⟨f,e⟩⟩
  .cases h
 .simp only[aV,bq]at h;obtain⟨rfl,rfl⟩:=h;exact⟨True,rfl,λ_=>trivial⟩
 .simp only[aV,bq]at h;obtain⟨rfl,rfl⟩:=h;exact⟨_,rfl,λ_=>rfl⟩
 .cases h
def Pr{c b:V S}{q:Bool}(h:Sn c a b=Z (q,v))(d:q=W):∃p,Fb (low c) (low a) (low b)=Z (p,low v)∧p:=by
 unfold Sn at h;split at h
 .rename_i u;split at h
  .rename_i p y h1;simp only[aV,bq]at h;obtain⟨rfl,rfl⟩:=h;obtain⟨r,e,k⟩:=DA h1;refine⟨r,?_,k d⟩;have l:DB (bif u then low a else low b)=Z (r,y):=by cases u<;>exact e
   simp only[low,Fb,l];rfl
  .cases h
 rename_i g;split at h
 .rename_i t p x E y h1 h2 h3;obtain⟨m,n,o⟩:=kg h1;obtain⟨s,w,z⟩:=DA h2;obtain⟨A,B,C⟩:=DA h3;simp only[aV,bq]at h;obtain⟨rfl,rfl⟩:=h;refine⟨m∧(t=W->s)∧(t=J->A),by
   have i:∀u,low c≠.kb u:=by
    intro u f;cases c with
    |kb b=>exact g b rfl
    |ty t x=>cases t<;>cases f
    |_=>cases f
   unfold Fb;split
   .rename_i f;exact absurd f (i _)
   .simp only[n,w,B];rfl,o,λj=>z ?_,λj=>C ?_⟩
  .rw[j]at d;exact d
  .rw[j]at d;exact d
 .cases h
end
section
variable {v x ix b a:V S}{r c:Bool}{i:TI}{s s':aW S}{k:Nat}{n m:Int}{op:BinOp}
def Ze{o r:Nat}(h:low v=.sh o r):v=.sh o r:=by
 cases v with
 |ty t x=>cases t<;>simp[low,en]at h
 |sh a b=>simpa[low]using h
 |_=>simp[low]at h
def CH(C:eR S){τ:O Ty}(E:∀u,τ=Z u->vz S i u)(a:iV i τ s x ix=Z (c,v,s'))(A:c=W) :
  s'=s∧∃p,jT i (aq s) (low x) (low ix)=Z (p,low v,aq s')∧p:=by
 unfold iV at a;split at a
 .rename_i sz M N P e n F G;obtain⟨p,g,B⟩:=fB G;obtain⟨⟨z,d,_⟩,_⟩:=E _ rfl;split at a
  .rename_i o r;split at a
   .rename_i t l k;rcases aa a with⟨H,b⟩|⟨_,b⟩
    .clear a;have:=fq H;subst this;simp only[aV,bq]at b;obtain⟨rfl,rfl,rfl⟩:=b;have f:=sX A;have m:Nat.beq (S.width t) (S.width t)=W:=beq_iff'.2 rfl;refine⟨rfl,p∧D.En n (D.len (l.map (enc S t))),?_,B,by rw[m7];exact f⟩;unfold jT;rw[d,g];simp only[low,Kh k,m,cn];rfl
    .cases b
   .cases a
  .rename_i w;split at a
   .rename_i l k;simp only[aV,bq]at a;obtain⟨rfl,rfl,rfl⟩:=a;obtain⟨q,y,I⟩:=wN k;have f:=sX A;have K:(ai n)<l.length:=by unfold ai;omega
    have h:=Mo (enc S e) l (ai n) (S.zero e) K;refine⟨rfl,p∧q∧D.En n (D.len (l.map (enc S e)))∧(D.el (l.map (enc S e)) (D.nat n)).wide (S.width e),?_,B,I,by rw[m7];exact f,?_⟩
    .unfold jT;rw[d,g];simp only;split
     .rename_i o r j;exact absurd (Ze j) (w o r)
     .rw[y];simp only[low];rw[show D.el (List.map (enc S e) l) (D.nat n)=_ from h]
    .show (D.el (l.map (enc S e)) (ai n)).cells.length=_;rw[h,js C]
   .cases a
 .cases a
def od(a:oe i s k x=Z (c,v,s')):s'=s∧∃p,og i (aq s) k (low x)=Z (p,low v,aq s')∧p:=by
 unfold oe at a;unfold og;split at a
 .rename_i f b;try rw[b]
  try simp only
  split at a
  .rename_i off size g d;try rw[d]
   rcases aa a with⟨_,h⟩|⟨e,h⟩
   .cases h
   .simp only[e,cM];split at h;all_goals first
     |(cases h;done)
     |(
       simp only[aV,bq]at h;obtain⟨rfl,rfl,rfl⟩:=h;exact⟨rfl,True,rfl,trivial⟩)
  .cases a
 .cases a
def Mi(g:eR S)(a:yY i s k x=Z (c,v,s')):s'=s∧∃p,CO i (aq s) k (low x)=Z (p,low v,aq s')∧p:=by
 unfold yY at a;unfold CO;split at a
 .rename_i r d;try rw[d]
  try simp only
  split at a
  .rename_i off size u j l m;obtain⟨p,e,n⟩:=lE g m;rw[l,e];dsimp only at a ⊢;rcases aa a with⟨o,h⟩|⟨_,h⟩
   .simp only[ec,bq]at h;obtain⟨t,q,_,rfl,rfl⟩:=h;have b:=ny q;rw[iA,iB]at b;have f:(Nat.beq (bU (((aX j).drop off).take size)) size&&!(Nat.beq size 0))=W:=by rw[<-iB,<-iA,bA,ee,<-bA];exact o
    exact⟨rfl,p,by rw[f,cn,b];rfl,n⟩
   .cases h
  .cases a
 .cases a
def O9{b:L UInt8}(h:az n b=W):D.sat (bD b) n=kA b n:=by
 have c:=sX h;have a:n.toNat<b.length:=by omega
 unfold D.sat kA;have h1:(bD b).get! n.toNat=b.getD n.toNat 0:=by unfold bD ByteArray.get!;simp[a]
 rw[h1]
def LP(a:yR i s x ix=Z (c,v,s'))(g:c=W):s'=s∧∃p,CG i (aq s) (low x) (low ix)=Z (p,low v,aq s')∧p:=by
 unfold yR at a;split at a
 .rename_i n b d h j;obtain⟨p,e,k⟩:=fB h;obtain⟨q,f,l⟩:=jE j;simp only[aV,bq]at a;obtain⟨rfl,rfl,rfl⟩:=a;refine⟨rfl,p∧q∧D.En n (D.Bp (bD b)),?_,k,l,by rw[qK];exact sX g⟩;unfold CG;rw[d,e,f];simp only[low,en,enc,O9 g]
 .cases a
def OS(d:D):low (zeroV (S:=S) d)=nY d:=by
 unfold zeroV;split
 .rfl
 .rfl
 .rename_i b;simp only[low,en,enc,Kb];rfl
 .rfl
 .rename_i h1 h2 h3 h4;unfold nY;split
  .rename_i b;exact absurd rfl (h1 b)
  .rename_i k n;exact absurd rfl (h2 k n)
  .exact absurd rfl h4
  .rfl
def kY:∀(l:L D),aX (l.map (zeroV (S:=S)))=l.map nY
 |[]=>rfl
 |d::l=>by simp only[jh,aX,OS,kY l]
def MD(a:i.kd=.iface->False)(s:St)(t u:TypeId)(v:T) :
  o7 i s t W (.cE u v)=(bif Nat.beq u t then Z (True,.fQ [v,.kb W],s)else(sP i.agg (i.zero.map nY)).map λz=>(True,.fQ [z,.kb J],s)):=by
 unfold o7;cases b:i.kd<;>first|rfl|exact(a b).elim
def ME(a:i.kd=.iface->False)(s:St)(t u:TypeId)(v:T) :
  o7 i s t J (.cE u v)=(bif Nat.beq u t then Z (True,v,s)else Y):=by
 unfold o7;cases b:i.kd<;>first|rfl|exact(a b).elim
def tI{t:TypeId}{ok:Bool}(a:A7 i s t ok x=Z (c,v,s')):s'=s∧∃p,o7 i (aq s) t ok (low x)=Z (p,low v,aq s')∧p:=by
 unfold A7 at a;split at a
 .cases a
 .rename_i u w _ b;rw[low,MD b];rcases aa a with⟨d,a⟩|⟨d,a⟩
  .simp only[aV,bq]at a;obtain⟨rfl,rfl,rfl⟩:=a;exact⟨rfl,True,by rw[d];rfl,trivial⟩
  .simp only[ec,bq]at a;obtain⟨z,f,_,rfl,rfl⟩:=a;have e:=ny f;rw[kY]at e;exact⟨rfl,True,by rw[d,cM,e];rfl,trivial⟩
 .rename_i u w _ b;rw[low,ME b];rcases aa a with⟨d,a⟩|⟨_,a⟩
  .simp only[aV,bq]at a;obtain⟨rfl,rfl,rfl⟩:=a;exact⟨rfl,True,by rw[d];rfl,trivial⟩
  .cases a
 .cases a
def Vi{op:UnOp}(a:unV i op x=Z v):∃p d,unT i op (low x)=Z (p,d)∧p∧low v=.sym d:=by
 unfold unV at a;split at a
 .rename_i c;simp only[ec]at a;obtain⟨b,f,rfl⟩:=a;obtain⟨p,e,g⟩:=kg f;exact⟨p,_,by simp only[unT,c,e,dG];rfl,g,rfl⟩
 .rename_i k c;simp only[ec]at a;obtain⟨b,f,rfl⟩:=a;obtain⟨p,e,g⟩:=fB f;exact⟨p,_,by simp only[unT,c,e,dG];rfl,g,rfl⟩
 .cases a
def y8{j:TI}(a:Oo i j s x=Z (c,v,s')):s'=s∧∃p,FL i j (aq s) (low x)=Z (p,low v,aq s')∧p:=by
 unfold Oo at a;split at a
 .rename_i k l h1 h2;simp only[ec,bq]at a;obtain⟨n,d,_,rfl,rfl⟩:=a;obtain⟨p,b,e⟩:=fB d;exact⟨rfl,p,by simp only[FL,h1,h2,b,dG];rfl,e⟩
 .rename_i h1 h2;simp only[ec,bq]at a;obtain⟨n,d,_,rfl,rfl⟩:=a;obtain⟨p,b,e⟩:=jE d;exact⟨rfl,p,by simp only[FL,h1,h2,b,dG],e⟩
 .cases a
def rC(a:xC s k x=Z (c,v,s')):s'=s∧∃p,oh (aq s) k (low x)=Z (p,low v,aq s')∧p:=by
 unfold xC at a;split at a
 .rename_i d;simp only[ec,bq]at a;obtain⟨t,b,_,rfl,rfl⟩:=a;rw[iR]at b;exact⟨rfl,True,by simp only[low,oh,iR,fP,gj,b,dG],trivial⟩
 .cases a
def yw(a b:L UInt8):D.seq (bD a) (bD b)=fO a b:=by show(a.toArray==b.toArray)=(a==b);simp
def z6{k:Lk}(h:A4 k a b=Z r):∃p,om k (low a) (low b)=Z (p,r)∧p:=by
 unfold A4 at h;split at h
 .split at h
  .rename_i h1 h2;simp only[aV]at h;subst h;obtain⟨p,c,d⟩:=fB h1;obtain⟨q,e,f⟩:=fB h2;exact⟨p∧q,by simp only[om,c,e],d,f⟩
  .cases h
 .split at h
  .rename_i h1 h2;simp only[aV]at h;subst h;obtain⟨p,c,d⟩:=kg h1;obtain⟨q,e,f⟩:=kg h2;exact⟨p∧q,by simp only[om,c,e],d,f⟩
  .cases h
 .split at h
  .rename_i h1 h2;simp only[aV]at h;subst h;obtain⟨p,c,d⟩:=jE h1;obtain⟨q,e,f⟩:=jE h2;exact⟨p∧q,by simp only[om,c,e,yw],d,f⟩
  .cases h
 .cases h
def vg:∀{c:L Lk}{as bs:L (V S)}{r:Bool},jr c as bs=Z r->∃p,iY c (aX as) (aX bs)=Z (p,r)∧p
 |[],[],[],r,h=>by simp only[jr,aV]at h;subst h;exact⟨True,rfl,trivial⟩
 |k::c,a::as,b::bs,r,h=>by
  simp only[jr]at h;split at h
  .rename_i x y h1 h2;simp only[aV]at h;subst h;obtain⟨p,d,e⟩:=z6 h1;obtain⟨q,f,g⟩:=vg h2;exact⟨p∧q,by simp only[aX,iY,d,f],e,g⟩
  .cases h
 |[],[],_::_,_,h=>by simp[jr]at h
 |[],_::_,_,_,h=>by simp[jr]at h
 |_::_,[],_,_,h=>by simp[jr]at h
 |_::_,_::_,[],_,h=>by simp[jr]at h
def JS(f:eR S)(h:WZ i a b=Z r):∃p,Qv i (low a) (low b)=Z (p,r)∧p:=by
 unfold WZ at h;unfold Qv;rcases aa h with⟨d,h⟩|⟨d,h⟩
 .rw[d];simp only[cn];split at h
  .cases h
  .rename_i k v as w e g j;obtain⟨p,l,m⟩:=lE f g;obtain⟨q,n,o⟩:=lE f j;obtain⟨t,s,u⟩:=vg h;exact⟨p∧q∧t,by simp only[e,l,n,s,dG],m,o,u⟩
  .cases h
 .rw[d];simp only[cM];split at h
  .rename_i k c;try rw[c]
   exact z6 h
  .rename_i c;try rw[c]
   unfold TF at h;split at h
   .simp only[aV]at h;subst h;exact⟨True,rfl,trivial⟩
   .simp only[aV]at h;subst h;exact⟨True,rfl,trivial⟩
   .cases h
  .rename_i c;try rw[c]
   unfold TG at h;split at h
   .simp only[aV]at h;subst h;exact⟨True,rfl,trivial⟩
   .simp only[aV]at h;subst h;exact⟨True,rfl,trivial⟩
   .cases h
  .cases h
def TU{op:BinOp}{k:IntKind}{m n:Int}:(W7 (S:=S) op k m n).map low=(Mt op k m n).map .sym:=by unfold W7 Mt;cases op<;>rfl
def TO{op:BinOp}{k:IntKind}{m n:Int}:(W4 (S:=S) op k m n).map low=(TP op k m n).map .sym:=by unfold W4 TP;cases op<;>rfl
def Qq{a b:L UInt8}(h:WW a b=W):D.Vs (bD a) (bD b):=by simpa[WW,D.Vs,bD,ByteArray.size]using h
def QB(a b:L UInt8):D.Rz (bD a) (bD b)=bD (dj a b):=by unfold D.Rz dj bD;apply ByteArray.ext;simp
def T1(I:eR S)(h:Du i op a b=Z (c,v))(K:c=W):∃p d,HN i op (low a) (low b)=Z (p,d)∧p∧low v=.sym d:=by
 have f:=h;unfold Du at h;split at h
 .simp only[ec,bq]at h;obtain⟨r,C,_,rfl⟩:=h;obtain⟨p,e,t⟩:=JS I C;exact⟨p,_,by simp only[HN,e,dG];rfl,t,rfl⟩
 .simp only[ec,bq]at h;obtain⟨r,C,_,rfl⟩:=h;obtain⟨p,e,t⟩:=JS I C;exact⟨p,_,by simp only[HN,e,dG];rfl,t,rfl⟩
 .rename_i g j;cases o:i.kd with
  |leaf M=>
   cases M with
   |int k=>
    have A:Du i op a b=(match kI k a,kI k b with
     |some m,Z n=>match W7 op k m n with
      |some d=>Z (W,d)
      |none=>(W4 op k m n).map λd=>(nzI n,d)
     |_,_=>Y):=by
     clear h;unfold Du;cases op<;>first|exact(g rfl).elim|exact(j rfl).elim|(simp only[o];done)|(simp only[o];cases kI k a<;>cases kI k b<;>rfl)
    have N:∀{p q:Prop}{m n:Int},sA k (low a)=Z (p,m)->sA k (low b)=Z (q,n)->HN i op (low a) (low b)=(match Mt op k m n with
     |some d=>Z (p∧q,d)
     |none=>(TP op k m n).map λd=>(p∧q∧D.nz n,d)):=by
     intro p q m n y z;clear h A;unfold HN;cases op<;>first|exact(g rfl).elim|exact(j rfl).elim|(simp only[o,y,z];rfl)
    rw[A]at f;split at f
    .rename_i m n h1 h2;obtain⟨p,y,t⟩:=fB h1;obtain⟨q,z,B⟩:=fB h2;rw[N y z];have l:=TU (S:=S) (op:=op) (k:=k) (m:=m) (n:=n);split at f
     .rename_i d E;rw[E]at l;simp only[dG]at l;obtain⟨F,u,w⟩:=ec.1 l.symm;simp only[aV,bq]at f;obtain⟨_,rfl⟩:=f;exact⟨p∧q,F,by rw[u],⟨t,B⟩,w.symm⟩
     .rename_i E;rw[E]at l;simp only[Option.map_none]at l;have x:Mt op k m n=Y:=by simpa using l.symm
      simp only[ec,bq]at f;obtain⟨d,G,rfl,rfl⟩:=f;have s:=TO (S:=S) (op:=op) (k:=k) (m:=m) (n:=n);rw[G]at s;simp only[dG]at s;obtain⟨F,u,w⟩:=ec.1 s.symm;refine⟨p∧q∧D.nz n,F,by rw[x,u];rfl,⟨t,B,?_⟩,w.symm⟩;simpa[nzI,D.nz]using K
    .cases f
   |str=>
    have H:op=.add:=by clear h;unfold Du at f;cases op<;>first|rfl|exact(g rfl).elim|exact(j rfl).elim|(simp only[o]at f;cases f)
    clear h;subst H;have A:Du i .add a b=(match sK a,sK b with
     |some m,Z n=>Z (WW m n,.ty .str (dj m n))
     |_,_=>Y):=by
     unfold Du;simp only[o];cases sK a<;>cases sK b<;>rfl
    rw[A]at f;split at f
    .rename_i m n h1 h2;obtain⟨p,y,t⟩:=jE h1;obtain⟨q,z,B⟩:=jE h2;simp only[aV,bq]at f;obtain⟨rfl,rfl⟩:=f;refine⟨p∧q∧D.Vs (bD m) (bD n),.lit (.string (D.Rz (bD m) (bD n))),?_,⟨t,B,Qq K⟩,by rw[QB];rfl⟩;unfold HN;simp only[o,y,z]
    .cases f
   |bool=>
    clear h;unfold Du at f;cases op<;>first|exact(g rfl).elim|exact(j rfl).elim|(simp only[o]at f;cases f)
   |no=>
    clear h;unfold Du at f;cases op<;>first|exact(g rfl).elim|exact(j rfl).elim|(simp only[o]at f;cases f)
  |_=>
   clear h;unfold Du at f;cases op<;>first|exact(g rfl).elim|exact(j rfl).elim|(simp only[o]at f;cases f)
def Jf(A:eR S){E:fX}(X:MO S E){fr:bI S}{o:Op}(h:bV E fr s o=Z (c,v,s'))(F:c=W) :
  ∃p,mA E.E (bh fr) (aq s) o=Z (p,low v,aq s')∧p:=by
 cases o with
 |move x=>simp only[bV,ec,bq]at h;obtain⟨t,N,_,rfl,rfl⟩:=h;exact⟨True,by simp only[mA,bP N,dG],trivial⟩
 |assign x=>simp only[bV,ec,bq]at h;obtain⟨t,N,_,rfl,rfl⟩:=h;exact⟨True,by simp only[mA,bP N,dG],trivial⟩
 |pick x y z=>
  simp only[bV]at h;split at h
  .rename_i a b d h1 h2 h3;simp only[ec,bq]at h;obtain⟨⟨q,t⟩,N,rfl,rfl,rfl⟩:=h;obtain⟨p,e,l⟩:=Pr N F;exact⟨p,by simp only[mA,bP h1,bP h2,bP h3,e,dG],l⟩
  .cases h
 |alloc t=>
  simp only[bV]at h;split at h
  .rename_i i g;rcases aa h with⟨w,h⟩|⟨_,h⟩
   .simp only[aV,bq]at h;obtain⟨_,rfl,rfl⟩:=h;refine⟨True,?_,trivial⟩;have G:Nat.blt (aq s).au bg=W:=w;simp only[mA,g,G,cn,fU,cz,kY];rfl
   .cases h
  .cases h
 |box t x=>
  simp only[bV]at h;split at h
  .rename_i i v' g hv;rcases aa h with⟨w,h⟩|⟨_,h⟩
   .simp only[ec,bq]at h;obtain⟨cs,H,_,rfl,rfl⟩:=h;obtain⟨p,e,l⟩:=lE A H;have G:Nat.blt (aq s).au bg=W:=w;refine⟨p,?_,l⟩;simp only[mA,g,bP hv,G,cn,e,dG,fU,cz];rfl
   .cases h
  .cases h
 |build t ps=>
  simp only[bV]at h;split at h
  .rename_i i ps' g I;split at h
   .rename_i fs B;simp only[ec,bq]at h;obtain⟨cs,H,_,rfl,rfl⟩:=h;obtain⟨p,e,l⟩:=yX A H;rw[kY]at e;refine⟨p,?_,l⟩;simp only[mA,g,qW I,B,low];exact oI (Option.map λq:Prop×L T=>(q.1,T.agg q.2,aq s)) e
   .cases h
  .cases h
 |buildSlice t n ps=>
  simp only[bV]at h;split at h
  .rename_i i e ps' g Jv I;split at h
   .rename_i sz ag bt zz B;rcases aa h with⟨w,h⟩|⟨_,h⟩
    .split at h
     .rename_i es os hel;simp only[ec,bq]at h;obtain⟨s1,Eo,_,rfl,rfl⟩:=h;obtain⟨⟨z,C,K⟩,_,_,hpos⟩:=X.row _ _ _ g Jv;rw[B]at C;obtain⟨rfl,rfl,rfl,rfl⟩:=Kd.slice.inj C;have hf:=cP A os Eo;have hzl:bU zz=S.width e:=by rw[bA];cases e with|st m=>simp only[iK,cn,enc,D.agg.injEq]at K;rw[K];simp only[Sg.width,bA];rw[show S.cells m (S.zero (.st m))=_ from A.cells m _,kM]|_=>simp only[iK,cM]at K;rw[K];rfl
      have M:((iK e||Nat.beq (S.width e) 1)&&(Nat.beq (bU zz) (S.width e)&&(!(Nat.beq (S.width e) 0)&&Nat.ble (Nat.mul n (S.width e)) 16777216)))=W:=by
       rw[hzl];simp only[dI,As];refine⟨?_,beq_iff'.2 rfl,?_,w⟩
       .cases e<;>rfl
       .cases hq:Nat.beq (S.width e) 0 with|false=>rfl|true=>have:=beq_iff'.1 hq;omega
      have P:List.replicate n (bif iK e then D.agg zz else zz.getD 0 default)=(List.replicate n (S.zero e)).map (enc S e):=by
       rw[List.map_replicate]
       congr 1
       cases e with|st m=>exact K|_=>simp only[iK,cM]at K ⊢;rw[K];rfl
      obtain⟨p,e1,l⟩:=CY A (i:={(default:TI)with size:=S.width e,agg:=iK e}) ⟨rfl,λ_=>rfl⟩ hel;refine⟨p,?_,l⟩;simp only[mA,g,qW I,B,M,cn,P,e1,hf,dG,low]
     .cases h
    .cases h
   .cases h
  .cases h
 |load t x=>
  simp only[bV]at h;split at h
  .rename_i i a g r;obtain⟨rfl,p,e,l⟩:=Fo A (λu Q=>X.row _ _ _ g Q) h F;exact⟨p,by simp only[mA,g,bP r,e],l⟩
  .cases h
 |store t x y=>
  simp only[bV]at h;split at h
  .rename_i i a b g r w;obtain⟨p,e,l⟩:=KY A h F;exact⟨p,by simp only[mA,g,bP r,bP w,e],l⟩
  .cases h
 |nilCheck x=>
  simp only[bV]at h;split at h;all_goals first
   |(cases h;done)
   |(
     rename_i hx;simp only[aV,bq]at h;obtain⟨_,rfl,rfl⟩:=h;have:=bP hx;simp only[low]at this;exact⟨True,by simp only[mA,this,low],trivial⟩)
 |binOp op t x y u=>
  simp only[bV]at h;split at h
  .rename_i i a b g r w;simp only[ec,bq]at h;obtain⟨⟨q,d⟩,hd,rfl,rfl,rfl⟩:=h;obtain⟨p,d',e,l,hl⟩:=T1 A hd F;exact⟨p,by simp only[mA,g,bP r,bP w,e,dG,hl],l⟩
  .cases h
 |unOp op t x=>
  simp only[bV]at h;split at h
  .rename_i i a g r;simp only[ec,bq]at h;obtain⟨d,hd,_,rfl,rfl⟩:=h;obtain⟨p,d',e,l,hl⟩:=Vi hd;exact⟨p,by simp only[mA,g,bP r,e,dG,hl],l⟩
  .cases h
 |convert t u x=>
  simp only[bV]at h;split at h
  .rename_i i j a g hj r;obtain⟨rfl,p,e,l⟩:=y8 h;exact⟨p,by simp only[mA,g,hj,bP r,e],l⟩
  .cases h
 |makeInterface t x=>
  simp only[bV]at h;split at h
  .rename_i i a g r;split at h
   .cases h
   .rename_i hk;simp only[aV,bq]at h;obtain⟨_,rfl,rfl⟩:=h;refine⟨True,?_,trivial⟩;simp only[mA,g,bP r,low]
  .cases h
 |makeFunc f a b=>
  simp only[bV]at h;split at h
  .rename_i x y hx hy;simp only[aV,bq]at h;obtain⟨_,rfl,rfl⟩:=h;exact⟨True,by simp only[mA,gr hx,gr hy,low],trivial⟩
  .cases h
 |extract x k=>
  simp only[bV]at h;split at h
  .rename_i a r;obtain⟨rfl,p,e,l⟩:=rC h;exact⟨p,by simp only[mA,bP r,e],l⟩
  .cases h
 |fieldAddr t x k=>
  simp only[bV]at h;split at h
  .rename_i i a g r;obtain⟨rfl,p,e,l⟩:=od h;exact⟨p,by simp only[mA,g,bP r,e],l⟩
  .cases h
 |field t x k=>
  simp only[bV]at h;split at h
  .rename_i i a g r;obtain⟨rfl,p,e,l⟩:=Mi A h;exact⟨p,by simp only[mA,g,bP r,e],l⟩
  .cases h
 |indexAddr t x y=>
  simp only[bV]at h;split at h
  .rename_i i a b g r w;obtain⟨rfl,p,e,l⟩:=CH A (λu Q=>X.row _ _ _ g Q) h F;exact⟨p,by simp only[mA,g,bP r,bP w,e],l⟩
  .cases h
 |index t x y=>
  simp only[bV]at h;split at h
  .rename_i i a b g r w;obtain⟨rfl,p,e,l⟩:=LP h F;exact⟨p,by simp only[mA,g,bP r,bP w,e],l⟩
  .cases h
 |slice t x lo g mx=>
  simp only[bV]at h;split at h
  .rename_i i a l1 l2 l3 R r h1 h2 h3;obtain⟨p,e,l⟩:=Lb A (λu Q=>X.row _ _ _ R Q) h F;exact⟨p,by simp only[mA,R,bP r,Ce h1,Ce h2,Ce h3,e],l⟩
  .cases h
 |typeAssert x t u ok=>
  simp only[bV]at h;split at h
  .rename_i i a g r;obtain⟨rfl,p,e,l⟩:=tI h;exact⟨p,by simp only[mA,g,bP r,e],l⟩
  .cases h
 |_=>simp[bV]at h
end
section
variable {e:Ty}{v:V S}{s s':aW S}{c:Bool}
def A6(a:eR S)(l:L (den S.A e)):D.Q8 (l.map (enc S e)) (tE S e):=by intro d b;obtain⟨x,_,rfl⟩:=sr.1 b;exact⟨y4 a x,JU a x⟩
def rO{α:Type}(f:α->D)(l m:L α):D.app (l.map f) (m.map f)=(dj l m).map f:=by simp[D.app,dj]
def A3{α:Type}(f:α->D){l m:L α}(h:dR l m=W):D.Of (l.map f) (m.map f):=by simpa[dR,D.Of]using h
def V0{n:Nat}{es:L D}(h:low v=.ja n es):∃t l,v=.ja n t l:=by
 cases v with
 |ty t x=>cases t<;>simp[low,en]at h
 |ja a t l=>simp only[low,T.ja.injEq]at h;obtain⟨rfl,_⟩:=h;exact⟨t,l,rfl⟩
 |_=>simp[low]at h
def Ki(l:eR S){i:TI}(Q:vz S i (.sl e)){x y:V S}(h:A8 i e s x y=Z (c,v,s'))(F:c=W) :
  ∃p,o8 i (aq s) (low x) (low y)=Z (p,low v,aq s')∧p:=by
 unfold A8 at h;rcases aa h with⟨_,a⟩|⟨G,a⟩
 .cases a
 clear h;have m:(!(Nat.blt (aq s).au bg))=J:=G;unfold o8;rw[m,cM];obtain⟨⟨z,u,hz⟩,_⟩:=Q;split at a
 .rename_i sz ag bt zz new g w;rw[u]at g;obtain⟨rfl,rfl,rfl,rfl⟩:=Kd.slice.inj g;obtain⟨q,H,B⟩:=wN w;rw[u,H];simp only;have A:=qf l new;have I:=A6 l new;split at a
  .simp only[aV,bq]at a;obtain⟨_,rfl,rfl⟩:=a;refine⟨q∧D.rows (new.map (enc S e)) (S.width e)∧D.Q8 (new.map (enc S e)) (tE S e),?_,B,A,I⟩;simp only[low,fU,cz];rfl
  .rename_i n t f;split at a
   .rename_i K b;obtain⟨rfl,M⟩:=eH b;cases M;have j:=qf l (dj f new);have d:=A6 l (dj f new);rw[<-rO]at j d;split at a
    .rename_i k t2 l2;simp only[aV,bq]at a;obtain⟨rfl,rfl,rfl⟩:=a;refine⟨q∧D.rows (D.app (f.map (enc S t)) (new.map (enc S t))) (S.width t)∧D.Q8 (D.app (f.map (enc S t)) (new.map (enc S t))) (tE S t)∧D.Of (f.map (enc S t)) (new.map (enc S t)),?_,B,j,d,A3 _ F⟩;simp only[low,fU,cz,<-rO];rfl
    .rename_i N;simp only[aV,bq]at a;obtain⟨rfl,rfl,rfl⟩:=a;refine⟨q∧D.rows (D.app (f.map (enc S t)) (new.map (enc S t))) (S.width t)∧D.Q8 (D.app (f.map (enc S t)) (new.map (enc S t))) (tE S t)∧D.Of (f.map (enc S t)) (new.map (enc S t)),?_,B,j,d,A3 _ F⟩;simp only[low];split
     .rename_i k R X;obtain⟨t3,l3,rfl⟩:=V0 X;exact absurd rfl (N _ _ _)
     .simp only[en,enc,<-rO]
   .cases a
  .rename_i o r;split at a
   .rename_i t f era ho;split at a
    .rename_i K b;obtain⟨rfl,M⟩:=eH b;cases M;rcases aa a with⟨C,E⟩|⟨_,E⟩
     .clear a;simp only[dI]at C;simp only[aV,bq]at E;obtain⟨rfl,rfl,rfl⟩:=E;have d:=A6 l (dj f new);rw[<-rO]at d;refine⟨q∧D.rows (new.map (enc S t)) (S.width t)∧D.Q8 (D.app (f.map (enc S t)) (new.map (enc S t))) (tE S t)∧D.Of (f.map (enc S t)) (new.map (enc S t)),?_,B,A,d,A3 _ F⟩;have P:(Nat.ble (aq s).fl o&&Nat.beq r era&&Nat.beq (S.width t) (S.width t)&&!(oQ (low y)).contains o)=W:=by rw[Cc];simp only[dI];exact⟨⟨⟨C.1,C.2.1⟩,beq_iff'.2 rfl⟩,C.2.2⟩
      simp only[low,aE,ho,dG,cz,P,cn,eK,<-rO]
     .cases E
    .cases a
   .cases a
  .cases a
 .cases a
def vo(F:eR S){E:fX}(A:MO S E){b:Builtin}{o:Array TypeId}{args:L (V S)}(h:eL E s b o args=Z (c,v,s'))(G:c=W) :
  ∃p,eI E.E (aq s) b o (aX args)=Z (p,low v,aq s')∧p:=by
 unfold eL at h;split at h
 .rename_i x;split at h
  .rename_i i g d;obtain⟨k,m,n⟩:=qS.1 g;obtain⟨H,a,f⟩:=qS.1 d;rw[m]at a;cases a;obtain⟨l,_⟩:=A.row _ _ _ n f;split at h
   .rename_i P _ I;obtain⟨p,e,r⟩:=jE I;simp only[aV,bq]at h;obtain⟨_,rfl,rfl⟩:=h;exact⟨p,by simp only[aX,eI,e,g,l,qK];rfl,r⟩
   .cases h
  .rename_i i e g d;obtain⟨k,m,n⟩:=qS.1 g;obtain⟨H,a,f⟩:=qS.1 d;rw[m]at a;cases a;obtain⟨⟨z,l,_⟩,_⟩:=A.row _ _ _ n f;split at h
   .simp only[ec,bq]at h;obtain⟨Q,B,_,rfl,rfl⟩:=h;obtain⟨p,w,r⟩:=wN B;refine⟨p,?_,r⟩;simp only[aX,eI];cases K:vK (low x)with|none=>simp only[g,l,w,dG,m7];rfl|some q=>simp only[g,l,w,dG,m7];rfl
   .cases h
  .cases h
 .rename_i x y;split at h
  .rename_i t u M;split at h
   .rename_i i j e g N d;split at h
    .rename_i C;obtain⟨p,w,r⟩:=Ki F (A.row _ _ _ g d) h G;exact⟨p,by simp only[aX,eI,M,g,N,C,w],r⟩
    .cases h
   .cases h
  .cases h
 .cases h
end
section
section
variable {g g':Gh}{w w':World}
structure lH(g g':Gh):Prop where
 bG:∀o b,g.bG o=Z b->g'.bG o=Z b
 arr:∀o e x,g.arr o e=Z x->g'.arr o e=Z x
 bf:∀b,g.bf b->g'.bf b
def lH.refl(g:Gh):lH g g:=⟨λ_ _ h=>h,λ_ _ _ h=>h,λ_ h=>h⟩
def lH.trans{g g' a:Gh}(h:lH g g')(k:lH g' a):lH g a:=⟨λo b e=>k.bG o b (h.bG o b e),λo e x c=>k.arr o e x (h.arr o e x c),λb e=>k.bf b (h.bf b e)⟩
variable {I:Nat->Prop}{v:Value}{t:T}{s s':St}{o b e:Nat}{x:eX}{os:List Nat}
def dM.le{a:Nat->Prop}(c:∀b,I b->a b){d:D}(h:dM I w d v):dM a w d v:=h.mono (λ_ _=>rfl) c
def aC.le(h:lH g g'){t:T}{v:Value}(F:aC g w t v):aC g' w t v:=by
 induction F with|sym d v p=>exact .sym d v (p.le h.bf)|kb b=>exact .kb b|kn k n=>exact .kn k n|ptr o off b q=>exact .ptr o off b (h.bG o b q)|lR d off z val A G p=>exact .lR d off z val (h.bf _ A) G (λj c B=>(p j c B).le h.bf)|jV o e i off len cap sz z s=>exact .jV o e i off len cap sz z (h.arr _ _ _ s)|sh o e len cap sz a s=>exact .sh o e len cap sz a (h.arr _ _ _ s)|emp a=>exact .emp a|ja n H a I p=>exact .ja n H a I (p.le h.bf)|fn f K u M N y P _ _ l C=>exact .fn f K u M N y P l C|cE t x v _ l=>exact .cE t x v l|agg u E y _ l=>exact .agg u E y l|fQ u E y _ l=>exact .fQ u E y l|gd c t v _ l=>exact .gd c t v l|mp o b q=>exact .mp o b (h.bG o b q)|pz o b q=>exact .pz o b (h.bG o b q)|qF o b q=>exact .qF o b (h.bG o b q)|ub e b h=>exact .ub e b h|pL o m r i len cap sz a s=>exact .pL o m r i len cap sz a (h.arr _ _ _ s)|nk j d c a B p=>exact .nk j d c a B (p.le h.bf)
def tV.le{s s':St}{o b:Nat}(h:tV g s w o b)(c:lH g g')(d:g'.bf=g.bf)(hs:s'.ob.get o=s.ob.get o):tV g' s' w o b:=by refine⟨by rw[d];exact h.1,h.2.1,λob a=>?_⟩;rw[hs]at a;obtain⟨x,h1,h2⟩:=h.2.2 ob a;exact⟨x,h1,h2.imp (λ_ _ h=>h.le c)⟩
def yh.le(h:yh g s w o e x)(c:g'.bf=g.bf)(hs:s'.ob.get o=s.ob.get o)(b:∀k j y,g.arr k j=Z y->g'.arr k j=Z y)(f:∀d,g'.arr o d=g.arr o d):yh g' s' w o e x:=by refine⟨h.1,λob a=>?_⟩;rw[hs]at a;exact(h.2 ob a).tr (λh=>h.iW c) b (funext f) (λ_ _ _=>⟨rfl,by rw[c]⟩)
def aU.T9(hs:aU g s w)(hn:s.au<bg){sz:Nat}{es:L D}
  (r:∀b,x.at b->b<w.heap.size∧∀o,¬br g o b) (t:tZ g w J sz es x) (n:x.sz=sz) :
  aU (g.era s.au 0 x) (dO s (.arr sz es 0)).2 w∧lH g (g.era s.au 0 x)∧(∀k b,br (g.era s.au 0 x) k b->br g k b∨(k=s.au∧x.at b)):=by
 have a:=hs.af s.au (bS _);have i:∀k j y,g.arr k j=Z y->(g.era s.au 0 x).arr k j=Z y:=λk j y h=>by
  rw[Gh.bZ]
  .exact h
  .rintro ⟨rfl,_⟩
   rw[a.2]at h;cases h
 have p:lH g (g.era s.au 0 x):=⟨λ_ _ h=>h,i,λ_ h=>h⟩;have c:∀k b,br (g.era s.au 0 x) k b->br g k b∨(k=s.au∧x.at b):=by
  rintro k b ⟨h1,h2|⟨j,y,q,h2,h3,h4,h5⟩⟩
  .exact .inl ⟨h1,.inl h2⟩
  .by_cases d:k=s.au∧j=0
   .obtain ⟨rfl,rfl⟩:=d;rw[Gh.e9]at h2;simp only[aV]at h2;subst h2;exact .inr ⟨rfl,⟨q,h3,h4,h5⟩⟩
   .rw[Gh.bZ _ _ _ _ _ _ d]at h2;exact .inl ⟨h1,.inr ⟨j,y,q,h2,h3,h4,h5⟩⟩
 refine⟨⟨by simp only[dO];omega,λk A=>?_,λk b u=>?_,λk j y l=>?_,λb u=>hs.bf b u,λk v b h B=>?_⟩,p,c⟩
 .simp only[dO]at A;refine⟨(hs.af k (by omega)).1,λj=>?_⟩;rw[Gh.bZ _ _ _ _ _ _ (by omega)];exact(hs.af k (by omega)).2 j
 .have m:g.bG k=Z b:=u;have f:k≠s.au:=λh=>by rw[h,a.1]at m;cases m
  exact(hs.box k b m).le p rfl (by simp only[dO];rw[Tr.aO _ _ _ _ hn,bK f])
 .by_cases d:k=s.au∧j=0
  .obtain ⟨rfl,rfl⟩:=d;rw[Gh.e9]at l;simp only[aV]at l;subst l;refine⟨λq C E=>(r _ ⟨q,C,rfl,E⟩).1,λob e=>.inl ⟨J,es,0,?_,bS _,λz h=>?_,λ_=>n▸(t.iW rfl)⟩⟩
   .simp only[dO]at e;rw[Tr.aO _ _ _ _ hn,aY rfl]at e;rw[<-ew e];simp only[fc,n];rfl
   .rw[Gh.bZ _ _ _ _ _ _ (by omega)];exact a.2 z
  .rw[Gh.bZ _ _ _ _ _ _ d]at l;have f:k≠s.au:=λh=>by rw[h,a.2]at l;cases l
   exact(hs.arr k j y l).le rfl (by simp only[dO];rw[Tr.aO _ _ _ _ hn,bK f]) i (λz=>Gh.bZ _ _ _ _ _ _ (λh=>f h.1))
 .rcases c k b h with h1|⟨h1,h3⟩<;>rcases c v b B with h2|⟨h2,h4⟩
  .exact hs.jv k v b h1 h2
  .exact absurd h1 ((r b h4).2 k)
  .exact absurd h2 ((r b h3).2 v)
  .rw[h1,h2]
def aU.rm(hs:aU g s w)(p:g.bG o=Z b){ob:Ob}{x:Obj}(q:w.heap[b]?=Z x)(r:gC g w ob x)(j:∀e,g.arr o e=Y):aU g {s with ob:=s.ob.set aA o ob} w:=by
 have t:=hs.lt p;have u:=hs.au;have cC:∀k,(Tr.set aA s.ob o ob).get k=if k=o then Z ob else s.ob.get k:=λk=>Tr.aO _ _ _ _ (by omega)
 refine⟨hs.au,hs.af,λk c m=>?_,λk e x n=>?_,hs.bf,hs.jv⟩
 .have d:=hs.box k c m;refine⟨d.1,d.2.1,λi a=>?_⟩;rw[cC]at a;by_cases f:k=o
  .subst f;rw[aY rfl]at a;have:c=b:=by rw[p]at m;exact(ew m).symm
   subst this;obtain rfl:=ew a;exact⟨_,q,r⟩
  .rw[bK f]at a;exact d.2.2 i a
 .have l:=hs.arr k e x n;have f:k≠o:=λh=>by subst h;rw[j]at n;cases n
  refine⟨l.1,λi a=>?_⟩;rw[cC,bK f]at a;exact l.2 i a
def aU.step(hs:aU g s w){X:Nat->Prop}(G:∀b,g.bf b->I b)(hIn:∀b,I b->g.bf b∨w.heap.size<=b∨X b)(hIs:∀b,I b->b<w'.heap.size)(C:w.heap.size<=w'.heap.size)
  (p:∀b,b<w.heap.size->¬X b->w'.heap[b]?=w.heap[b]?) (hX:∀o b,X b->br g o b->s.ob.get o=Y∧¬I b) (Q:∀b,X b->¬g.bf b) :
  aU {g with bf:=I} s w':=by
 have N:∀k b,br ({g with bf:=I}:Gh) k b->br g k b:=λk b h=>⟨λP=>h.1 (G b P),h.2⟩;have R:sn g.bf w w':=λb y=>p b (hs.bf b y) (λu=>Q b u y);have S:∀{t:T}{v:Value},aC g w t v->aC ({g with bf:=I}:Gh) w' t v:=by
  intro t v ht
  induction ht with|sym d v E=>exact .sym d v (E.mono R G)|kb b=>exact .kb b|kn k n=>exact .kn k n|ptr o off b y=>exact .ptr o off b y|lR d off ad val l A E=>exact .lR d off ad val (G _ l) (λj c H=>by rw[R.cell (by rw[ki];exact l)];exact A j c H) (λj c H=>(E j c H).mono R G)|jV o e i off len cap sz ad u=>exact .jV o e i off len cap sz ad u|sh o e len cap sz a u=>exact .sh o e len cap sz a u|emp a=>exact .emp a|ja n es a hn E=>exact .ja n es a hn (E.mono R G)|fn f fs cs va vc hl hm _ _ K ih'=>exact .fn f fs cs va vc hl hm K ih'|cE t x v _ K=>exact .cE t x v K|agg cs vs hl _ K=>exact .agg cs vs hl K|fQ cs vs hl _ K=>exact .fQ cs vs hl K|gd c t v _ K=>exact .gd c t v K|mp o b y=>exact .mp o b y|pz o b y=>exact .pz o b y|qF o b y=>exact .qF o b y|ub e b h=>exact .ub e b h|pL o m r i len cap sz a u=>exact .pL o m r i len cap sz a u|nk j d c a H E=>exact .nk j d c a H (E.mono R G)
 have F:∀o b,br g o b->¬I b:=λo b B P=>by
  rcases hIn b P with h|h|h
  .exact B.1 h
  .have:=(hs.nX B).1;omega
  .exact (hX o b h B).2 P
 refine⟨hs.au,hs.af,λk c A=>?_,λk e x u=>?_,hIs,λk k' b h h'=>hs.jv k k' b (N k b h) (N k' b h')⟩
 .have z:=hs.box k c A;have B:br g k c:=⟨z.1,.inl A⟩;refine⟨F k c B,gN z.2.1 C,λob q=>?_⟩;obtain⟨x,h2,h3⟩:=z.2.2 ob q;have hnx:¬X c:=λu=>by rw[(hX k c u B).1]at q;cases q
  exact⟨x,by rw[p c z.2.1 hnx];exact h2,h3.imp (λ_ _ h=>S h)⟩
 .have M:=hs.arr k e x u;refine⟨λad ha A=>gN (M.1 ad ha A) C,λob q=>?_⟩;refine(M.2 ob q).tr (λ{fz sz es}hA=>?_) (λ_ _ _ h=>h) rfl (λb k1 A=>?_);rotate_left
  .have y:b<w.heap.size:=M.1 _ k1 A;by_cases l:g.bf b
   .exact ⟨p b y (λu=>Q b u l),λ_=>l,λ_=>G b l⟩
   .have B:br g k b:=⟨l,.inr ⟨e,x,_,u,k1,rfl,A⟩⟩;exact⟨p b y (λhxx=>by rw[(hX k b hxx B).1]at q;cases q),λP=>absurd P (F k b B),λh=>absurd h l⟩
  refine⟨hA.len,hA.cap,hA.rows,hA.pos,hA.Vd,hA.emp,λA=>?_⟩;obtain⟨b,vs,ty,k1,k2,k3,k4,k5⟩:=hA.mem A;have y:b<w.heap.size:=M.1 _ k1 A;by_cases l:g.bf b
  .refine ⟨b,vs,ty,k1,⟨λ_=>G b l,λ_=>k2.2 l⟩,by rw[p b y (λu=>Q b u l)];exact k3,k4,λi d j c E H=>?_⟩;obtain⟨v,hv,hr⟩:=k5 i d j c E H;exact⟨v,hv,hr.mono R G⟩
  .have B:br g k b:=⟨l,.inr ⟨e,x,_,u,k1,rfl,A⟩⟩;have hnx:¬X b:=λhxx=>by rw[(hX k b hxx B).1]at q;cases q
   refine⟨b,vs,ty,k1,⟨λhf=>absurd (k2.1 hf) l,λP=>absurd P (F k b B)⟩,by rw[p b y hnx];exact k3,k4,λi d j c E H=>?_⟩;obtain⟨v,hv,hr⟩:=k5 i d j c E H;exact⟨v,hv,hr.mono R G⟩
def Gh.drop(g:Gh)(os:L Nat):Gh:={g with arr:=λo e=>if o∈os then Y else g.arr o e}
def Gh.Da(h:(g.drop os).arr o e=Z x):o∉os∧g.arr o e=Z x:=by
 simp only[Gh.drop]at h;split at h
 .cases h
 .exact ⟨by assumption,h⟩
def Gh.wj{k:Nat}(h:br (g.drop os) k b):br g k b:=by
 obtain⟨h1,h2|⟨e,x,a,h2,h3⟩⟩:=h
 .exact ⟨h1,.inl h2⟩
 .exact ⟨h1,.inr ⟨e,x,a,(Gh.Da h2).2,h3⟩⟩
mutual
def cO(os:L Nat):T->Bool
 | .ptr o _=>os.contains o
 | .jV o _ _ _=>os.contains o
 | .sh o _=>os.contains o
 | .mp o=>os.contains o
 | .pz o=>os.contains o
 | .qF o=>os.contains o
 | .fn _ a b=>gG os a||gG os b
 | .cE _ v=>cO os v
 | .agg c=>gG os c
 | .fQ c=>gG os c
 | .gd _ v=>cO os v
 | .pL o m _ _=>os.contains o||os.contains m
 |_=>J
def gG(os:L Nat):L T->Bool
 |[]=>J
 |v::l=>cO os v||gG os l
end
def n6{os:L Nat}:∀{l:L T},gG os l=J->∀t∈l,cO os t=J
 |[],_,t,b=>by cases b
 |a::l,h,t,b=>by
  simp only[gG,vT]at h;rcases ej.1 b with rfl|b
  .exact h.1
  .exact n6 h.2 t b
def aC.drop{os:L Nat}{t:T}{v:Value}(h:aC g w t v)(l:cO os t=J):aC (g.drop os) w t v:=by
 induction h with
 |sym d v q=>exact .sym d v q
 |kb b=>exact .kb b
 |kn k n=>exact .kn k n
 |ptr o off b h=>exact .ptr o off b h
 |lR d off y val E z q=>exact .lR d off y val E z q
 |jV o e i off len cap sz y h=>simp only[cO,wX,IM]at l;exact .jV o e i off len cap sz y (by simp only[Gh.drop,bK l];exact h)
 |sh o e len cap sz a h=>simp only[cO,wX,IM]at l;exact .sh o e len cap sz a (by simp only[Gh.drop,bK l];exact h)
 |emp a=>exact .emp a
 |ja k F a G q=>exact .ja k F a G q
 |fn f H s I K u A _ _ p B=>simp only[cO,vT]at l;exact .fn f H s I K u A (λj t v h1 h2=>p j t v h1 h2 (n6 l.1 t (gk h1))) (λj t v h1 h2=>B j t v h1 h2 (n6 l.2 t (gk h1)))
 |cE t x v _ p=>exact .cE t x v (p l)
 |agg s C u _ p=>exact .agg s C u (λj t v h1 h2=>p j t v h1 h2 (n6 l t (gk h1)))
 |fQ s C u _ p=>exact .fQ s C u (λj t v h1 h2=>p j t v h1 h2 (n6 l t (gk h1)))
 |gd c t v _ p=>exact .gd c t v (λz=>p z l)
 |mp o b h=>exact .mp o b h
 |pz o b h=>exact .pz o b h
 |qF o b h=>exact .qF o b h
 |ub e b h=>exact .ub e b h
 |pL o m r i len cap sz a h=>simp only[cO,vT,wX,IM]at l;exact .pL o m r i len cap sz a (by simp only[Gh.drop,bK l.2];exact h)
 |nk j d c a M q=>exact .nk j d c a M q
def Uq(os:L Nat)(ob a:Ob):Prop:=o9 (cO os) ob a
def aU.drop{s k:St}(hs:aU g s w){os:L Nat}(hn:k.au=s.au)(d:∀o a,k.ob.get o=Z a->∃ob,s.ob.get o=Z ob∧Uq os ob a):aU (g.drop os) k w:=by
 refine⟨hn▸hs.au,λo f=>⟨(hs.af o (hn▸f)).1,λe=>?_⟩,λo b q=>?_,λo e x r=>?_,hs.bf,λo u b h z=>hs.jv o u b (Gh.wj h) (Gh.wj z)⟩
 .simp only[Gh.drop];split
  .rfl
  .exact (hs.af o (hn▸f)).2 e
 .obtain ⟨h1,h2,h3⟩:=hs.box o b q;refine⟨h1,h2,λa c=>?_⟩;obtain⟨ob,l,n⟩:=d o a c;obtain⟨x,h4,h5⟩:=h3 ob l;exact⟨x,h4,h5.left (λt v A i=>A.drop i) n⟩
 .obtain ⟨f,p⟩:=Gh.Da r;obtain⟨h1,h2⟩:=hs.arr o e x p;refine⟨h1,λa c=>?_⟩;obtain⟨ob,l,n⟩:=d o a c;refine(h2 ob l).left n (λh=>h.iW rfl) (λm j y i h=>?_) (funext λB=>by simp only[Gh.drop,bK f]) (λ_ _ _=>⟨rfl,nU⟩);simp only[cO,wX,IM]at i;simp only[Gh.drop,bK i];exact h
end
end
section
def ghI(I:Nat->Prop):Gh:=⟨λ_=>Y,λ_ _=>Y,I⟩
def U3(I:Nat->Prop)(w:World)(sz:Nat)(es:L D)(x:eX):Prop:=tZ (ghI I) w J sz es x∧x.sz=sz
def aaY(S:Sg)(I:Nat->Prop)(w:World)(n j:Nat)(t:Ty)(l:L (S.A n))(a:eX)(rl:L eX):Prop:=
 ∃hl:L Value,hl.length=l.length∧U3 I w (S.width (.st n)) (lits j (l.map (enc S (.st n))) hl) a∧rl.length=l.length∧
  (∀(i:Nat)(y:eX),rl[i]?=Z y->hl[i]?=Z (.slice y.a y.len y.cap))∧(∀(i:Nat)(y:eX)(x:S.A n),rl[i]?=Z y->l[i]?=Z x->U3 I w (S.width t) ((Er n j t x).map (enc S t)) y)∧AE S n j t=W
inductive iF(S:Sg)(I:Nat->Prop)(w:World):(cs:List Ck)->fH S.A cs->List Value->List eX->Prop where
 |nil:iF S I w [] () [] []
 |dat {t:Ty} {cs:List Ck} {x:den S.A t} {h:fH S.A cs} {v:Value} {vs:List Value} {al:List eX} (hd:dM I w (enc S t x) v) (hr:iF S I w cs h vs al):iF S I w (.dat t::cs) (x,h) (v::vs) al
 |own {e:Ty} {cs:List Ck} {l:List (den S.A e)} {h:fH S.A cs} {a:eX} {vs:List Value} {al:List eX} (ho:U3 I w (S.width e) (l.map (enc S e)) a) (hr:iF S I w cs h vs al) :
   iF S I w (.own e::cs) (l,h) (.slice a.a a.len a.cap::vs) (a::al)
 |iJ {n j:Nat} {t:Ty} {cs:List Ck} {l:List (S.A n)} {h:fH S.A cs} {a:eX} {rl:List eX} {vs:List Value} {al:List eX} (ho:aaY S I w n j t l a rl) (hr:iF S I w cs h vs al) :
   iF S I w (.iJ n j t::cs) (l,h) (.slice a.a a.len a.cap::vs) (a::(rl++al))
 |nl {e:Ty} {cs:List Ck} {h:fH S.A cs} {a:Option Addr} {vs:List Value} {al:List eX} (hr:iF S I w cs h vs al):iF S I w (.nil e::cs) ([],h) (.slice a 0 0::vs) al
 |ptr {t:Ty} {cs:List Ck} {x:den S.A t} {h:fH S.A cs} {ad:Addr} {val:Nat->Value} {vs:List Value} {al:List eX} (hi:I ad.block) (hc:∀j c,(enc S t x).cells[j]?=Z c->w.cell? (ad.add j)=Z (val j))
   (hd:∀j c,(enc S t x).cells[j]?=Z c->dM I w c (val j)) (hr:iF S I w cs h vs al):iF S I w (.ptr t::cs) (x,h) (.pointer (Z (ad.add 0))::vs) al
inductive AL(g:Gh):List eX->List Nat->Prop where
 |nil:AL g [] []
 |emp {a:eX} {al:List eX} {ow:List Nat} (h:a.cap=0) (hr:AL g al ow):AL g (a::al) ow
 |own {a:eX} {al:List eX} {o e:Nat} {ow:List Nat} (h:g.arr o e=Z a) (hr:AL g al ow):AL g (a::al) (o::ow)
 |rows {rl al:List eX} {m:Nat} {ow:List Nat} (h:∀y∈rl,∃e,g.arr m e=Z y) (hap:rl.Pairwise λx y=>∀b,x.at b->¬y.at b) (hr:AL g al ow):AL g (rl++al) (m::ow)
variable {g:Gh}{al se:List eX}{ow fz:List Nat}{s:aW S}{w:World}{I:Nat->Prop}{a:eX}{b n j o:Nat}{t τ:Ty}{cs:List Ck}{vs:List Value}{c:Ck}{h:Obj}{v:Value}{ob:sj S}{k:Bk}{nx nb:Option Nat}
def AL.append{a:L Nat}(h:AL g al ow)(d:AL g se a):AL g (al++se) (ow++a):=by
 induction h with|nil=>exact d|emp h _ b=>exact .emp h b|own h _ b=>exact .own h b|rows h c _ b=>rw[nS];exact .rows h c b
def tY(al:L eX):Prop:=al.Pairwise λx y=>∀b,x.at b->¬y.at b
def AL.owned(h:AL g al ow)(f:∀a∈al,∀b,a.at b->¬g.bf b):∀a∈al,∀b,a.at b->∃o∈ow,br g o b:=by
 induction h with
 |nil=>intro a c;cases c
 |emp h _ i=>
  intro a c b d;rcases ej.1 c with rfl|c
  .exact absurd h d.choose_spec.2.2
  .exact i (λa c=>f a (gl _ c)) a c b d
 |own h _ i=>
  intro a c b d;rcases ej.1 c with rfl|c
  .obtain ⟨j,h1,h2,h3⟩:=d;exact⟨_,dX,f _ dX b ⟨j,h1,h2,h3⟩,.inr ⟨_,_,j,h,h1,h2,h3⟩⟩
  .obtain ⟨o,k,l⟩:=i (λa c=>f a (gl _ c)) a c b d;exact⟨o,gl _ k,l⟩
 |rows h _ _ i=>
  intro a c b d;rcases dy.1 c with c|c
  .obtain ⟨e,m⟩:=h a c;obtain⟨j,h1,h2,h3⟩:=d;exact⟨_,dX,f _ (dH _ c) b ⟨j,h1,h2,h3⟩,.inr ⟨_,_,j,m,h1,h2,h3⟩⟩
  .obtain ⟨o,k,l⟩:=i (λa c=>f a (gp _ c)) a c b d;exact⟨o,gl _ k,l⟩
def AL.apart{s:St}(hs:aU g s w)(h:AL g al ow)(hn:ow.Nodup)(j:∀a∈al,∀b,a.at b->¬g.bf b):tY al:=by
 induction h with
 |nil=>exact .nil
 |emp h m k=>refine .cons (λa c b l=>absurd h l.choose_spec.2.2) (k hn (λa c=>j a (gl _ c)))
 |own h m k=>rw[Eh]at hn;refine .cons (λa c b l f=>?_) (k hn.2 (λa c=>j a (gl _ c)));obtain⟨q,i,d⟩:=m.owned (λa c=>j a (gl _ c)) a c b f;obtain⟨n,h1,h2,h3⟩:=l;have o:br g _ b:=⟨d.1,.inr ⟨_,_,n,h,h1,h2,h3⟩⟩;have:=hs.jv _ _ b o d;subst this;exact hn.1 i
 |rows h p m k=>rw[Eh]at hn;refine qR.2 ⟨p,k hn.2 (λa c=>j a (gp _ c)),λy r a c b l f=>?_⟩;obtain⟨e,t⟩:=h y r;obtain⟨q,i,d⟩:=m.owned (λa c=>j a (gp _ c)) a c b f;obtain⟨n,h1,h2,h3⟩:=l;have o:br g _ b:=⟨d.1,.inr ⟨_,_,n,t,h1,h2,h3⟩⟩;have:=hs.jv _ _ b o d;subst this;exact hn.1 i
def jR:∀{l:L Nat},pK l=W->l.Nodup
 |[],_=>.nil
 |a::l,h=>by simp only[pK,dI,As,wX,IM]at h;exact Eh.2 ⟨h.1,jR h.2⟩
def wz{l m:L Nat}(h:zf l m=W):∀o∈l,o∉m:=by intro o a;simp only[zf,dU,As,wX,IM]at h;exact h o a
def U3.at_{I:Nat->Prop}{w:World}{sz:Nat}{es:L D}{a:eX}(h:U3 I w sz es a){b:Nat}(c:a.at b):¬I b∧b<w.heap.size:=by obtain⟨h1,vs,ty,_,h3⟩:=h.1.at_ c;exact⟨λd=>Bool.noConfusion (h1.2 d),(GM.1 h3).1⟩
def aaY.at_{I:Nat->Prop}{w:World}{n j:Nat}{t:Ty}{l:L (S.A n)}{a:eX}{rl:L eX}(h:aaY S I w n j t l a rl):∀y∈a::rl,∀b,y.at b->¬I b∧b<w.heap.size:=by
 obtain⟨f,_,h2,h3,_,h5,_⟩:=h;intro y c b d;rcases ej.1 c with rfl|c
 .exact h2.at_ d
 .obtain ⟨i,e⟩:=Fa c;have:i<l.length:=by rw[<-h3];exact ax e
  exact(h5 i y _ e (eS this)).at_ d
def iF.at_{I:Nat->Prop}{w:World}{cs:L Ck}{x:fH S.A cs}{vs:L Value}{al:L eX}(h:iF S I w cs x vs al):∀a∈al,∀b,a.at b->¬I b∧b<w.heap.size:=by
 induction h with
 |nil=>intro a c;cases c
 |dat _ _ d=>exact d
 |own f _ d=>
  intro a c b e;rcases ej.1 c with rfl|c
  .exact f.at_ e
  .exact d a c b e
 |iJ f _ d=>
  intro a c b e;rw[<-List.cons_append]at c;rcases dy.1 c with c|c
  .exact f.at_ a c b e
  .exact d a c b e
 |nl _ d=>exact d
 |ptr _ _ _ _ d=>exact d
def iF.gq{x:fH S.A cs}(h:iF S I w cs x vs al):∀a∈al,∀b,a.at b->¬I b:=λa c b d=>(h.at_ a c b d).1
def iF.lt{x:fH S.A cs}(h:iF S I w cs x vs al):∀a∈al,∀b,a.at b->b<w.heap.size:=λa c b d=>(h.at_ a c b d).2
def iF.append{x:den S.A c.ty}{h:fH S.A cs}(h1:iF S I w [c] (x,()) [v] al)(h2:iF S I w cs h vs se) :
  iF S I w (c::cs) (x,h) (v::vs) (al++se):=by
 cases h1 with
 |dat b a=>cases a;exact .dat b h2
 |own d a=>cases a;exact .own d h2
 |iJ d a=>cases a;rw[mD,List.cons_append];exact .iJ d h2
 |nl a=>cases a;exact .nl h2
 |ptr e f b a=>cases a;exact .ptr e f b h2
def nG{x:den S.A t}(h:dM g.bf w (enc S t x) v):aC g w (en S t x) v:=by
 cases t with
 |st n=>
  cases h with|agg cs vs a e b=>refine .agg _ vs (by simpa using a) λj t v h1 h2=>?_;rw[gj,ec]at h1;obtain⟨d,c,rfl⟩:=h1;exact .sym _ _ (b j d v c h2)
 |_=>exact .sym _ _ h
def Tr.cT{α:Type}:∀(n:Nat)(t:Tr α)(k j:Nat)(x:α),j≠k->(Tr.set n t k x).get j=t.get j
 |0,_,_,_,_,_=>rfl
 |n+1,t,0,j,x,h=>by
  cases j with
  |zero=>exact absurd rfl h
  |succ j=>
   cases t with|nil=>rw[Tr.wP,Tr.cD,Tr.get_nil,Tr.get_nil];split<;>rfl|node v l r=>rw[Tr.uQ,Tr.cD,Tr.cD]
 |n+1,t,k+1,j,x,h=>by
  cases t with
  |nil=>
   rw[Tr.mT];cases j with
   |zero=>split<;>rw[Tr.fC,Tr.get_nil]
   |succ j=>
    by_cases b:k%2=0
    .rw[aY b,Tr.cD,Tr.get_nil,Tr.get_nil];by_cases a:j%2=0
     .rw[aY a,Tr.cT n _ _ _ _ (by omega),Tr.get_nil]
     .rw[bK a]
    .rw[bK b,Tr.cD,Tr.get_nil,Tr.get_nil];by_cases a:j%2=0
     .rw[aY a]
     .rw[bK a,Tr.cT n _ _ _ _ (by omega),Tr.get_nil]
  |node v l r=>
   rw[Tr.lJ];cases j with
   |zero=>split<;>rw[Tr.fC,Tr.fC]
   |succ j=>
    by_cases b:k%2=0
    .rw[aY b,Tr.cD,Tr.cD];by_cases a:j%2=0
     .rw[aY a,aY a,Tr.cT n _ _ _ _ (by omega)]
     .rw[bK a,bK a]
    .rw[bK b,Tr.cD,Tr.cD];by_cases a:j%2=0
     .rw[aY a,aY a]
     .rw[bK a,bK a,Tr.cT n _ _ _ _ (by omega)]
def MF:sj S->Bool
 | .arr ..|.jL ..|.rws ..=>W
 |_=>J
def rM(h:MF ob=W):(cz ob).mQ=W:=by cases ob<;>first|rfl|cases h
def Cu{nj:Nat}:∀{es:L D}{gO:L (L D)}{hl:L Value},es.length<=gO.length->lits nj (iw nj es gO) hl=lits nj es hl
 |[],gO,hl,_=>by simp[iw,lits]
 |d::es,[],hl,h=>by simp at h
 |d::es,a::gO,[],_=>by simp[iw,lits]
 |d::es,a::gO,v::hl,h=>by have:=Cu (nj:=nj) (es:=es) (gO:=gO) (hl:=hl) (by simpa using h);simp only[lits,iw]at this;simp only[lits,iw,List.zipWith_cons_cons,this,ic,xz,D.cells,List.set_set]
def Fz:∀{ts:L Ty}{h:kK S.A ts}{j:Nat}{t:Ty}{y:den S.A t},nth ts j=Z t->cC ts (sB ts h j t y) j t=y
 |[],_,_,_,_,h=>by simp[nth]at h
 | τ::ts,h,0,t,y,e=>by simp only[nth,aV]at e;subst e;simp only[cC,sB,tw]
 | τ::ts,h,j+1,t,y,e=>by simp only[nth]at e;simp only[cC,sB,Fz e]
def Ql(a:eR S)(b:AE S n j t=W)(x:S.A n)(y:L (den S.A t)):Er n j t (O8 n j t x y)=y:=by rw[Er,O8,a.s7,Fz (Dk b)]
def zL(hS:eR S)(hs:aU g (aq s) w){v:V S}{val:Value}{x:den S.A c.ty}(h:kD s c v=Z (x,fz,ow))(P:aC g w (low v) val) :
  (∀o∈fz,Live g (aq s) o)∧(∀o∈ow,s.fl<=o∧s.lo<=o∧o<s.au∧∃ob,s.ob.get o=Z ob∧MF ob=W)∧∀(A:Gh)(s1:St)(z:L Nat),aU A s1 w->Ext s.fl g w A w->jf (aq s) s1 z->(∀o∈fz,o∈z)->(∀o∈ow,s1.ob.get o=(aq s).ob.get o)->
   ∃al,iF S A.bf w [c] (x,()) [val] al∧AL A al ow:=by
 cases c with
 |dat t=>
  simp only[kD]at h;split at h
  .rename_i y os hy;simp only[aV,bq]at h;obtain⟨rfl,rfl,rfl⟩:=h;obtain⟨p,hd,hp⟩:=nH hS s t v hy;obtain⟨h1,h2⟩:=j3 hs (low v) hd hp P;refine⟨h1,λo d=>(by cases d),λA s1 z f Q hf q _=>⟨[],.dat ?_ .nil,.nil⟩⟩;exact h2 A s1 f Q (hf.sub q)
  .cases h
 |nil e=>
  cases v with
  |emp=>
   simp only[kD,aV,bq]at h;obtain⟨rfl,rfl,rfl⟩:=h;cases P with|emp a=>exact⟨λo d=>(by cases d),λo d=>(by cases d),λA s1 z f Q hf q _=>⟨[],.nl .nil,.nil⟩⟩
  |_=>simp[kD]at h
 |ptr t=>simp[kD]at h
 |own e=>
  cases v with
  |emp=>
   simp only[kD]at h;rcases aa h with⟨E,h⟩|⟨_,h⟩
   .simp only[aV,bq]at h;obtain⟨rfl,rfl,rfl⟩:=h;have hpos:1<=S.width e:=eN E;cases P with
    |emp a=>
    refine⟨λo d=>(by cases d),λo d=>(by cases d),λA s1 z f Q hf q _=>⟨[⟨a,0,0,S.width e⟩],?_,.emp rfl .nil⟩⟩;refine iF.own (a:=⟨a,0,0,S.width e⟩) ⟨⟨rfl,bS _,by simp,by omega,by simp,λ_=>rfl,λh=>absurd rfl h⟩,rfl⟩ .nil
   .cases h
  |sh o r=>
   simp only[kD]at h;split at h
   .rename_i t l era d;rcases aa h with⟨E,F⟩|⟨_,F⟩
    .clear h;split at F
     .rename_i l' hl;obtain⟨rfl,hh⟩:=eH hl;cases hh;simp only[dI]at E;have Wu:=beq_iff'.1 E.1;subst Wu;simp only[aV,bq]at F;obtain⟨rfl,rfl,rfl⟩:=F;cases P with
      |sh _ _ len cap sz a R=>
      have G:=hs.lt' R;refine⟨λo d=>(by cases d),λk hk=>?_,λA s1 z f Q hf q u=>?_⟩
      .rw[ko]at hk;subst hk;exact⟨eN E.2.1,eN E.2.2,G,_,d,rfl⟩
      .have H:=Q.arr _ _ _ R;have N8:s1.ob.get o=Z (fc J (S.width t) (l.map (enc S t)) r):=by rw[u o (by simp),aE,d];rfl
       obtain⟨hok,hsz⟩:=f.mJ N8 H;exact⟨[_],iF.own ⟨hok.iW rfl,hsz⟩ .nil,.own H .nil⟩
     .cases F
    .cases F
   .cases h
  |_=>simp[kD]at h
 |iJ n j t=>
  cases v with
  |emp=>
   simp only[kD]at h;rcases aa h with⟨E,h⟩|⟨_,h⟩
   .simp only[aV,bq]at h;obtain⟨rfl,rfl,rfl⟩:=h;simp only[dI]at E;have hpos:1<=S.width (.st n):=eN E.1;cases P with
    |emp a=>
    refine⟨λo d=>(by cases d),λo d=>(by cases d),λA s1 z f Q hf q _=>⟨[⟨a,0,0,S.width (.st n)⟩],?_,.emp rfl .nil⟩⟩;exact iF.iJ (a:=⟨a,0,0,S.width (.st n)⟩) (rl:=[]) ⟨[],rfl,⟨⟨rfl,bS _,by simp[lits],by omega,by simp[lits],λ_=>rfl,λh=>absurd rfl h⟩,rfl⟩,rfl,by simp,by simp,E.2.1⟩ .nil
   .cases h
  |sh o r=>
   simp only[kD]at h;split at h;rotate_left
   .cases h
   rename_i n' j' l era m C d;split at h;rotate_left
   .cases h
   rename_i M B hrw;rcases aa h with⟨E,F⟩|⟨_,F⟩;rotate_left
   .cases F
   clear h;simp only[dI]at E;obtain⟨b1,b2,b3,b4,b5,b6,b7,b8,b9⟩:=E;have Wu:=beq_iff'.1 b1;subst Wu;have hjj:=beq_iff'.1 b2;subst hjj;have htt:=fq b9;subst htt;split at F;rotate_left
   .cases F
   rename_i l' hl;obtain⟨e1,hh⟩:=eH hl;cases e1;cases hh;simp only[aV,bq]at F;obtain⟨rfl,rfl,rfl⟩:=F;have aiS:m<s.au:=eN b7;cases P with
   |sh _ _ len cap sz a R=>
   have G:=hs.lt' R;obtain⟨szm,hm⟩:=nw (wR hrw);obtain⟨obm,aiD,ac9⟩:∃ob,s.ob.get m=Z ob∧MF ob=W:=by
    cases hq:s.ob.get m with
    |none=>rw[aE,hq]at hm;cases hm
    |some ob=>
     rw[aE,hq]at hm;cases ob<;>first|exact⟨_,rfl,rfl⟩|cases hm
   refine⟨λo d=>(by cases d),λk hk=>?_,λA s1 z f Q hf q u=>?_⟩
   .simp only[ej,List.not_mem_nil,or_false]at hk;rcases hk with rfl|rfl
    .exact ⟨eN b3,eN b4,G,_,d,rfl⟩
    .exact ⟨eN b5,eN b6,aiS,obm,aiD,ac9⟩
   .have H:=Q.arr _ _ _ R;have N8:s1.ob.get o=Z (.jL j (S.width (.st n)) (l.map (enc S (.st n))) r m C Y):=by rw[u o (by simp),aE,d];rfl
    have Tb:s1.ob.get m=Z (.rws szm (B.map (·.map (enc S M))) C):=by rw[u m (by simp),hm]
    have X:szm=S.width M:=by
     have h1:=hrw;unfold Iz at h1;split at h1
     .rename_i t0 agi r0 hq;rcases aa h1 with⟨_,h1⟩|⟨_,h1⟩
      .cases h1;rw[aE,hq]at hm;cases hm;rfl
      .cases h1
     .cases h1
    obtain⟨q1,q2,q3,q4⟩:=f.yL N8 H;obtain⟨hl0,q5,q6,q7⟩:=q4 rfl;simp only[mC]at q5;have hrow:∀i,i<l.length->∃y I,A.arr m (rc C i)=Z y∧hl0[i]?=Z (.slice y.a y.len y.cap)∧B[i]?=Z I∧tZ A w J (S.width M) (I.map (enc S M)) y∧y.sz=S.width M:=by intro i N;obtain⟨y,hy,P⟩:=q7.2 i _ (eS (by omega)) (by simp);obtain⟨k1,I,k2,k3⟩:=(f.nN Tb hy).2.2 i rfl;rw[gj,ec]at k2;obtain⟨rs0,k4,rfl⟩:=k2;exact⟨y,rs0,hy,by rw[<-P];exact eS _,k4,X▸k3,X▸k1⟩
    have hex:∀i:Nat,∃y:eX,i<l.length->∃I,A.arr m (rc C i)=Z y∧hl0[i]?=Z (.slice y.a y.len y.cap)∧B[i]?=Z I∧tZ A w J (S.width M) (I.map (enc S M)) y∧y.sz=S.width M:=λi=>by
     by_cases N:i<l.length
     .obtain ⟨y,I,h⟩:=hrow i N;exact⟨y,λ_=>⟨I,h⟩⟩
     .exact ⟨⟨Y,0,0,0⟩,λh=>absurd h N⟩
    obtain⟨ys,K⟩:=Pm hex;have cC:∀(i:Nat)(y:eX),((List.range l.length).map ys)[i]?=Z y->i<l.length∧y=ys i:=λi y h=>by rw[gj,ec]at h;obtain⟨k,hk,rfl⟩:=h;obtain⟨rfl,hlt⟩:=nR hk;exact⟨hlt,rfl⟩
    have hrl:l.length<=B.length:=by
     rcases uW B.length l.length with h|h
     .obtain ⟨_,I,_,_,k,_⟩:=hrow B.length h;have:=ax k;omega
     .exact h
    have hlen:(iy n j M l B).length=l.length:=by simp[iy];omega
    refine⟨_,iF.iJ (a:=⟨a,len,cap,sz⟩) (rl:=(List.range l.length).map ys) ⟨hl0,by rw[hlen];exact q5,⟨?_,q1⟩,by rw[hlen];simp,λi y N=>?_,λi y x N R=>?_,b8⟩ .nil,?_⟩
    .rw[xw hS b8,Cu (by simpa using hrl)];exact q6.iW rfl
    .obtain ⟨h1,rfl⟩:=cC i y N;obtain⟨_,_,h2,_⟩:=K i h1;exact h2
    .obtain ⟨h1,rfl⟩:=cC i y N;obtain⟨I,_,_,h3,h4,h5⟩:=K i h1;have hxx:x=O8 n j M (l[i]) I:=by simp only[iy,GL,h3,eS h1,aV]at R;exact R.symm
     rw[hxx,Ql hS b8];exact⟨h4.iW rfl,h5⟩
    .refine .own H ?_;refine .rows (λy hy=>?_) ?_ .nil
     .obtain ⟨i,N⟩:=Fa hy;obtain⟨h1,rfl⟩:=cC i y N;obtain⟨_,h2,_⟩:=K i h1;exact⟨_,h2⟩
     .refine Lo.2 λi1 i2 l1 l2 hlt b Hv nB=>?_;obtain⟨h1,e1⟩:=cC i1 _ (eS l1);obtain⟨h2,e2⟩:=cC i2 _ (eS l2);rw[e1]at Hv;rw[e2]at nB;obtain⟨_,k1,_⟩:=K i1 h1;obtain⟨_,k2,_⟩:=K i2 h2;exact(f.nN Tb k1).2.1 i1 i2 _ _ (by omega) k1 k2 b Hv nB
  |_=>simp[kD]at h
def fy(u:eR S){g:Gh}{w:World}{s:aW S}(hs:aU g (aq s) w):∀{cs:L Ck}{l:L (V S)}{vals:L Value}{x:fH S.A cs}{fz ow:L Nat},eV s cs l=Z (x,fz,ow)->PW (aC g w) (aX l) vals->
  (∀o∈fz,Live g (aq s) o)∧(∀o∈ow,s.fl<=o∧s.lo<=o∧o<s.au∧∃ob,s.ob.get o=Z ob∧MF ob=W)∧∀(m:Gh)(s1:St)(e:L Nat),aU m s1 w->Ext s.fl g w m w->jf (aq s) s1 e->(∀o∈fz,o∈e)->(∀o∈ow,s1.ob.get o=(aq s).ob.get o)->
   ∃al,iF S m.bf w cs x vals al∧AL m al ow
 |[],[],vals,x,fz,ow,h,i=>by simp only[eV,aV,bq]at h;obtain⟨_,rfl,rfl⟩:=h;have:vals=[]:=qU (by have:=i.1;simpa[aX]using this.symm);subst this;exact⟨λo d=>(by cases d),λo d=>(by cases d),λ_ _ _ _ _ _ _ _=>⟨[],.nil,.nil⟩⟩
 |c::cs,v::l,vals,x,fz,ow,h,i=>by
  simp only[eV]at h;split at h
  .rename_i Q a1 R h1 a2 X A B;simp only[aV,bq]at h;obtain⟨rfl,rfl,rfl⟩:=h
   match vals,i with
   |val::vals,i=>have p:aC g w (low v) val:=i.2 0 _ _ rfl rfl;have q:PW (aC g w) (aX l) vals:=⟨by have:=i.1;simpa[aX]using this,λj a b r t=>i.2 (j+1) a b (by simpa[aX]using r) (by simpa using t)⟩;obtain⟨C,E,F⟩:=zL u hs A p;obtain⟨G,H,I⟩:=fy u hs B q;refine⟨λo d=>(dy.1 d).elim (C o) (G o),λo d=>(dy.1 d).elim (E o) (H o),λm s1 e n y z k f=>?_⟩;obtain⟨K,r,t⟩:=F m s1 e n y z (λo d=>k o (dH _ d)) (λo d=>f o (dH _ d));obtain⟨M,N,P⟩:=I m s1 e n y z (λo d=>k o (gp _ d)) (λo d=>f o (gp _ d));exact⟨_,r.append N,t.append P⟩
   |[],i=>exact absurd i.1 (by simp[aX])
  .cases h
 |[],_::_,_,_,_,_,h,_=>by simp[eV]at h
 |_::_,[],_,_,_,_,h,_=>by simp[eV]at h
structure QO(g:Gh)(s:aW S)(w:World)(al:List eX)(g':Gh)(s':aW S):Prop where
 rel:aU g' (aq s') w
 le:lH g g'
 bf:g'.bf=g.bf
 own:∀k b,br g' k b->br g k b∨(s.au<=k∧∃a∈al,a.at b)
 fl:s'.fl=s.fl
 lo:s'.lo=s.lo
 au:s.au<=s'.au
 wr:s'.wr=s.wr
 dr:s'.dr=s.dr
 ob:∀o,o<s.au->s'.ob.get o=s.ob.get o
 bG:g'.bG=g.bG
 arr:∀o,o<s.au->∀e,g'.arr o e=g.arr o e
def QO.refl{g:Gh}{s:aW S}{w:World}(h:aU g (aq s) w):QO g s w [] g s:=
 ⟨h,lH.refl _,rfl,λ_ _ h=>.inl h,rfl,rfl,bS _,rfl,rfl,λ_ _=>rfl,rfl,λ_ _ _=>rfl⟩
def QO.trans{g g' c:Gh}{s s' d:aW S}{w:World}{al se:L eX}(h:QO g s w al g' s')(k:QO g' s' w se c d):QO g s w (al++se) c d where
 rel:=k.rel
 le:=h.le.trans k.le
 bf:=k.bf.trans h.bf
 own o b f:=by
  rcases k.own o b f with f|⟨h1,a,h2,h3⟩
  .rcases h.own o b f with f|⟨h1,a,h2,h3⟩
   .exact .inl f
   .exact .inr ⟨h1,a,dH _ h2,h3⟩
  .exact .inr ⟨eO h.au h1,a,gp _ h2,h3⟩
 fl:=k.fl.trans h.fl
 lo:=k.lo.trans h.lo
 au:=eO h.au k.au
 wr:=k.wr.trans h.wr
 dr:=k.dr.trans h.dr
 ob o i:=(k.ob o (gN i h.au)).trans (h.ob o i)
 bG:=k.bG.trans h.bG
 arr o i e:=(k.arr o (gN i h.au) e).trans (h.arr o i e)
def Nl(s:aW S)(c:Ck)(x:den S.A c.ty):s.au<=(sG s c x).2.au:=by cases c with|dat t=>exact bS _|own e=>exact zC _|iJ n j t=>exact Nat.le_succ_of_le (zC _)|nil e=>exact bS _|ptr t=>exact bS _
def lV:∀(cs:L Ck)(s:aW S)(x:fH S.A cs),s.au<=(gn s cs x).2.au
 |[],_,_=>bS _
 |c::cs,s,x=>eO (Nl s c x.1) (lV cs _ x.2)
def kZ:∀{cs:L Ck}{x:fH S.A cs}{vals:L Value}{al:L eX}{g:Gh}{w:World}{s:aW S},iF S g.bf w cs x vals al->aU g (aq s) w->(∀a∈al,∀b,a.at b->∀o,¬br g o b)->tY al->
  (gn s cs x).2.au<=bg->∃g',QO g s w al g' (gn s cs x).2∧PW (aC g' w) (aX (gn s cs x).1) vals:=by
 intro cs
 induction cs with
 |nil=>intro x vals al g w s h X _ _ _;cases h;exact⟨g,QO.refl X,rfl,λj t v h=>by simp[gn,aX]at h⟩
 |cons c cs ih=>
  intro x vals al g w s h X q f hn;cases h with
  | @dat t _ x h v vs al hd I=>
   obtain⟨g',F,d⟩:=ih I X q f hn;refine⟨g',F,by simp only[gn,sG,aX,gi];rw[d.1],λj N P u A=>?_⟩;cases j with|zero=>simp only[gn,sG,aX,qT,aV]at u A;subst u;subst A;have:=nG (g:=g) hd;exact this.le F.le|succ j=>exact d.2 j N P (by simpa[gn,sG,aX]using u) (by simpa using A)
  | @nl e _ h a vs al I=>
   obtain⟨g',F,d⟩:=ih I X q f hn;refine⟨g',F,by simp only[gn,sG,aX,gi];rw[d.1],λj N P u A=>?_⟩;cases j with|zero=>simp only[gn,sG,aX,qT,aV]at u A;subst u;subst A;exact .emp _|succ j=>exact d.2 j N P (by simpa[gn,sG,aX]using u) (by simpa using A)
  | @ptr t _ x h ad val vs al G hc hd I=>
   obtain⟨g',F,d⟩:=ih I X q f hn;refine⟨g',F,by simp only[gn,sG,aX,gi];rw[d.1],λj N P u A=>?_⟩;cases j with|zero=>simp only[gn,sG,aX,qT,aV]at u A;subst u;subst A;have:aC g w (low (V.lR t x 0)) (.pointer (Z (ad.add 0))):=.lR _ 0 ad val G hc hd;exact this.le F.le|succ j=>exact d.2 j N P (by simpa[gn,sG,aX]using u) (by simpa using A)
  | @own e _ l h a vs al ho I=>
   have hb0:=lV cs (cJ s (.arr e l 0)) h;have B:s.au<bg:=by have h1:(cJ s (.arr e l 0)).au=s.au+1:=rfl;have h2:(gn (cJ s (.arr e l 0)) cs h).2.au<=bg:=hn;omega
   have hall:=I.gq;have ac1:∀b,a.at b->b<w.heap.size∧∀o,¬br g o b:=λb z=>⟨(iF.own (S:=S) ho I).lt a dX b z,q a dX b z⟩;obtain⟨u,A,Q⟩:=X.T9 B (sz:=S.width e) (es:=l.map (enc S e)) (x:=a) ac1 (ho.1.iW rfl) ho.2;have hst:(dO (aq s) (Ob.arr (S.width e) (l.map (enc S e)) 0)).2=aq (cJ s (.arr e l 0)):=(fU s (.arr e l 0)).symm;have e0:(aq s).au=s.au:=rfl;rw[hst,e0]at u;rw[e0]at A Q;rw[tY,List.pairwise_cons]at f;obtain⟨g',F,d⟩:=ih (g:=g.era s.au 0 a) (s:=cJ s (.arr e l 0)) I u (λy H b z o p=>by
    rcases Q o b p with p|⟨_,C⟩
    .exact q y (gl _ H) b z o p
    .exact f.1 y H b C z) f.2 hn
   have N7:QO g s w [a] (g.era s.au 0 a) (cJ s (.arr e l 0)):=by
    refine⟨u,A,rfl,λk b p=>?_,rfl,rfl,zC _,rfl,rfl,λo hlo=>?_,rfl,λo hlo e'=>Gh.bZ _ _ _ _ _ _ (λh=>by omega)⟩
    .rcases Q k b p with p|⟨h1,h2⟩
     .exact .inl p
     .exact .inr ⟨by omega,a,by simp,h2⟩
    .simp only[cJ];rw[Tr.aO _ _ _ _ B,bK (by omega)]
   refine⟨g',N7.trans F,by simp only[gn,sG,aX,gi];rw[d.1],λj N P q1 q2=>?_⟩;cases j with|zero=>simp only[gn,sG,aX,qT,aV]at q1 q2;subst q1;subst q2;have:aC (g.era s.au 0 a) w (.sh s.au 0) (.slice a.a a.len a.cap):=.sh _ _ _ _ a.sz _ (Gh.e9 _ _ _ _);exact this.le F.le|succ j=>exact d.2 j N P (by simpa[gn,sG,aX]using q1) (by simpa using q2)
  | @iJ n j t0 _ l h a E vs al ho I=>
   have hb0:=lV cs (sG s (.iJ n j t0) l).2 h;have ade:(sG s (.iJ n j t0) l).2.au=s.au+2:=rfl;have B:s.au+1<bg:=by have h2:(gn (sG s (.iJ n j t0) l).2 cs h).2.au<=bg:=hn;omega
   have R:=ho.at_;obtain⟨hl,p1,p2,p3,p4,p5,p6⟩:=ho;rw[<-List.cons_append]at q f;have K:=(qR.1 f).1;rw[List.pairwise_cons]at K;obtain⟨u,A,Q⟩:=X.T9 (by show s.au<bg;omega) (sz:=S.width (.st n)) (es:=lits j (l.map (enc S (.st n))) hl) (x:=a) (λb z=>⟨(R a dX b z).2,q a (by simp) b z⟩) (p2.1.iW rfl) p2.2;have e0:(aq s).au=s.au:=rfl;rw[e0]at u A Q;have e1:(dO (aq s) (Ob.arr (S.width (.st n)) (lits j (l.map (enc S (.st n))) hl) 0)).2.au=s.au+1:=rfl;obtain⟨r1,r2,r3⟩:=u.aaB (by rw[e1];exact B) (sz:=S.width t0) (gO:=(l.map (Er n j t0)).map (·.map (enc S t0))) (ys:=E)
    (λy H b z=>⟨(R y (gl _ H) b z).2,λo p=>by
     rcases Q o b p with p|⟨_,C⟩
     .exact q y (by simp[H]) b z o p
     .exact K.1 y H b C z⟩)
    (λi y G=>by
     have r:i<l.length:=by rw[<-p3];exact ax G
     have hk:=p5 i y _ G (eS r);exact⟨hk.2,_,by rw[gj,gj,eS r];rfl,hk.1.iW rfl⟩) K.2
   rw[e1]at r1 r2 r3;have M:∀k,(dO (dO (aq s) (Ob.arr (S.width (.st n)) (lits j (l.map (enc S (.st n))) hl) 0)).2 (.rws (S.width t0) ((l.map (Er n j t0)).map (·.map (enc S t0))) 0)).2.ob.get k=if k=s.au+1 then Z (.rws (S.width t0) ((l.map (Er n j t0)).map (·.map (enc S t0))) 0)else if k=s.au then Z (.arr (S.width (.st n)) (lits j (l.map (enc S (.st n))) hl) 0)else(aq s).ob.get k:=λk=>by show(((aq s).ob.set aA s.au _).set aA (s.au+1) _).get k=_;rw[Tr.aO _ _ _ _ B,Tr.aO _ _ _ _ (by omega)]
   have hL:EI ((g.era s.au 0 a).ga (s.au+1) E) (s.au+1) 0 Y hl:=by
    have Ws:∀i v,hl[i]?=Z v->∃r:i<E.length,v=.slice (E[i]).a (E[i]).len (E[i]).cap:=λi v G=>by
     have r:i<E.length:=by rw[p3,<-p1];exact ax G
     have:=p4 i _ (eS r);rw[G]at this;exact⟨r,ew this⟩
    refine⟨λi v G=>let ⟨_,h⟩:=Ws i v G;⟨_,_,_,h⟩,λi v G _=>?_⟩;have r:i<E.length:=by rw[p3,<-p1];exact ax G
    refine⟨E[i],by rw[Gh.tL];exact eS r,?_⟩;have:=p4 i _ (eS r);rw[G]at this;exact ew this
   have u1:=r1.Ri (o:=s.au) (nj:=j) (es:=l.map (enc S (.st n))) (era:=0) (m:=s.au+1) (gf:=0) (hole:=Y) (hl:=hl) (by omega) (by rw[M,bK (by omega),aY rfl]) (by simpa using p1) hL;have u2:aU ((g.era s.au 0 a).ga (s.au+1) E) (aq (sG s (.iJ n j t0) l).2) w:=by
    refine u1.Tw rfl λk=>?_;show(aq (cJ (cJ s (.jL n j l 0 (Nat.succ s.au) 0 Y)) (.rws t0 (wm n j t0 l) 0))).ob.get k=((dO _ _).2.ob.set aA s.au _).get k;rw[fU,fU,Tr.aO _ _ _ _ (by omega),M];show(((aq s).ob.set aA s.au _).set aA (s.au+1) _).get k=_;rw[Tr.aO _ _ _ _ B,Tr.aO _ _ _ _ (by omega)];by_cases h1:k=s.au
    .subst h1;rw[bK (by omega),aY rfl,aY rfl];rfl
    .rw[bK h1,bK h1,bK h1];rfl
   have hle:lH g ((g.era s.au 0 a).ga (s.au+1) E):=A.trans ⟨λ_ _ h=>h,r2,λ_ h=>h⟩;obtain⟨g',F,d⟩:=ih (g:=(g.era s.au 0 a).ga (s.au+1) E) (s:=(sG s (.iJ n j t0) l).2) I u2 (λy H b z o p=>by
    rcases r3 o b p with p|⟨_,y',hy',C⟩
    .rcases Q o b p with p|⟨_,C⟩
     .exact q y (gp _ H) b z o p
     .exact (qR.1 f).2.2 a (by simp) y H b C z
    .exact (qR.1 f).2.2 y' (by simp[hy']) y H b C z) (qR.1 f).2.1 hn
   have N7:QO g s w (a::E) ((g.era s.au 0 a).ga (s.au+1) E) (sG s (.iJ n j t0) l).2:=by
    refine⟨u2,hle,rfl,λk b p=>?_,rfl,rfl,by rw[ade];omega,rfl,rfl,λo hlo=>?_,rfl,λo hlo e'=>?_⟩
    .rcases r3 k b p with p|⟨h1,y,H,z⟩
     .rcases Q k b p with p|⟨h1,h2⟩
      .exact .inl p
      .exact .inr ⟨by omega,a,by simp,h2⟩
     .exact .inr ⟨by omega,y,by simp[H],z⟩
    .show ((s.ob.set aA s.au _).set aA (s.au+1) _).get o=_;rw[Tr.aO _ _ _ _ B,bK (by omega),Tr.aO _ _ _ _ (by omega),bK (by omega)]
    .rw[Gh.gK (by omega)];exact Gh.bZ _ _ _ _ _ _ (λh=>by omega)
   refine⟨g',by rw[<-List.cons_append];exact N7.trans F,by have:=d.1;simp only[gn,sG,aX,gi]at this ⊢;rw[this],λj' N P q1 q2=>?_⟩;cases j' with|zero=>simp only[gn,sG,aX,qT,aV]at q1 q2;subst q1;subst q2;have:aC ((g.era s.au 0 a).ga (s.au+1) E) w (.sh s.au 0) (.slice a.a a.len a.cap):=.sh _ _ _ _ a.sz _ (by rw[Gh.gK (by omega)];exact Gh.e9 _ _ _ _);exact this.le F.le|succ j'=>exact d.2 j' N P (by simpa[gn,sG,aX]using q1) (by simpa using q2)
def sI{x:den S.A τ}(h:dM g.bf w (enc S τ x) v):aC g w (en S τ x) v:=by
 cases τ with
 |st n=>
  cases h with|agg _ vs a f b=>refine .agg _ _ (by simpa using a) λj t v h1 h2=>?_;simp only[gj,ec]at h1;obtain⟨c,d,rfl⟩:=h1;exact .sym _ _ (b j c v d h2)
 |int k=>exact .sym _ _ h
 |bool=>exact .sym _ _ h
 |str=>exact .sym _ _ h
 |sl e=>exact .sym _ _ h
 |cE n=>exact .sym _ _ h
def Nn(a:eR S){x:den S.A τ}(h:aC g w (en S τ x) v):dM g.bf w (enc S τ x) v:=by
 cases τ with
 |st n=>
  cases h with
  |agg _ vs d f=>
   refine .agg _ _ (by simpa using d) (λc b=>?_) λj c v h1 h2=>?_
   .rw[a.cells]at b;exact gu _ _ (a.leaf n) c b
   .have:=f j (.sym c) v (by simp[h1]) h2;cases this with|sym _ _ h=>exact h
 |int k=>cases h with|sym _ _ h=>exact h
 |bool=>cases h with|sym _ _ h=>exact h
 |str=>cases h with|sym _ _ h=>exact h
 |sl e=>cases h with|sym _ _ h=>exact h
 |cE n=>cases h with|sym _ _ h=>exact h
inductive AM(S:Sg)(I:Nat->Prop)(w:World)(nb:Option Nat):(k:Bk)->uH S.A k->Obj->List eX->Prop where
 |cells {cs:List Ck} {x:fH S.A cs} {cv:Array Value} {ty:TypeId} {al:List eX} (h:iF S I w cs x cv.toList al):AM S I w nb (.cells cs) x (.cells cv ty (0,0)) al
 |map {kt vt:Ty} {l:List (den S.A kt×den S.A vt)} {ms:Array MapEntry} {c:Nat} (hl:l.length=ms.size)
   (h:∀(j:Nat)(p:den S.A kt×den S.A vt)(m:MapEntry),l[j]?=Z p->ms[j]?=Z m->dM I w (enc S kt p.1) m.key∧dM I w (enc S vt p.2) m.val):AM S I w nb (.map kt vt) l (.map ms c) []
 |oG {x:List UInt8×Nat}:AM S I w nb .oG x (.stringIter (bD x.1) x.2) []
 |link {pre post:List Ck} {x:fH S.A pre} {y:fH S.A post} {cv:Array Value} {ty:TypeId} {al se:List eX} {vp vq:List Value} {b:Nat} (hn:nb=Z b) (hv:cv.toList=vp++([.pointer (Z ⟨b,0,Y⟩)]++vq))
   (h1:iF S I w pre x vp al) (h2:iF S I w post y vq se):AM S I w nb (.link pre post) (x,y) (.cells cv ty (0,0)) (al++se)
def Hf:Bk->Nat->Value
 | .cells _,b=>.pointer (Z ⟨b,0,Y⟩)
 | .map _ _,b=>.map (Z b)
 | .oG,b=>.pointer (Z ⟨b,0,Y⟩)
 | .link _ _,b=>.pointer (Z ⟨b,0,Y⟩)
def Hg{v:V S}(h:Ay k v=Z o):v=PS k o:=by
 cases k with
 |cells cs=>
  cases v with
  |ptr a off=>cases off with|zero=>simp only[Ay,aV]at h;subst h;rfl|succ=>simp[Ay]at h
  |_=>simp[Ay]at h
 |map b c=>cases v<;>simp[Ay]at h;subst h;rfl
 |oG=>cases v<;>simp[Ay]at h;subst h;rfl
 |link pre post=>
  cases v with
  |ptr a off=>cases off with|zero=>simp only[Ay,aV]at h;subst h;rfl|succ=>simp[Ay]at h
  |_=>simp[Ay]at h
def Jm(h:g.bG o=Z b):aC g w (low (PS k o:V S)) (Hf k b):=by cases k with|cells cs=>exact .ptr o 0 b h|map a c=>exact .mp o b h|oG=>exact .qF o b h|link pre post=>exact .ptr o 0 b h
def Cw(h:aC g w (low (PS k o:V S)) v):∃b,g.bG o=Z b∧v=Hf k b:=by
 cases k with
 |cells cs=>cases h with|ptr _ _ b a=>exact⟨b,a,rfl⟩
 |map c d=>cases h with|mp _ b a=>exact⟨b,a,rfl⟩
 |oG=>cases h with|qF _ b a=>exact⟨b,a,rfl⟩
 |link pre post=>cases h with|ptr _ _ b a=>exact⟨b,a,rfl⟩
def lZ(h:mW ob=W):(cz ob).mQ=J:=by cases ob<;>first|rfl|(simp[mW]at h)
def BX{e:Nat}{x:eX}(h:mW ob=W)(a:so g w o e x (cz ob)):False:=by have:=a.mQ;rw[lZ h]at this;cases this
def Mw{c d a b:Ty}{l:L (den S.A c×den S.A d)}{e:L (den S.A a×den S.A b)}(h:Ac c d a b l=Z e):∃(h1:c=a)(h2:d=b),e=h1▸h2▸l:=by
 unfold Ac at h;split at h
 .split at h
  .simp only[aV]at h;exact⟨fq ‹_›,fq ‹_›,h.symm⟩
  .cases h
 .cases h
def oP(P:eR S)(hs:aU g (aq s) w)(hb:g.bG o=Z b){x:uH S.A k}(h:jK s k (s.ob.get o)=Z (x,fz,ow,nx)) :
  (∃ob,s.ob.get o=Z ob∧mW ob=W)∧∃G,w.heap[b]?=Z G∧
  (∀o∈fz,Live g (aq s) o)∧(∀o∈ow,s.fl<=o∧s.lo<=o∧o<s.au∧∃ob,s.ob.get o=Z ob∧MF ob=W)∧∀(u:Gh)(s1:St)(q:L Nat),aU u s1 w->Ext s.fl g w u w->jf (aq s) s1 q->(∀o∈fz,o∈q)->(∀o∈ow,s1.ob.get o=(aq s).ob.get o)->
   ∀nb,(∀o',nx=Z o'->∃X,nb=Z X∧u.bG o'=Z X)->∃al,AM S u.bf w nb k x G al∧AL u al ow:=by
 cases f:s.ob.get o with
 |none=>rw[f]at h;cases k<;>simp[jK]at h
 |some ob=>
 rw[f]at h;obtain⟨G,hh,B⟩:=(hs.box o b hb).2.2 (cz ob) (by rw[aE,f];rfl);cases k with
 |cells cs=>
  cases ob with
  |box vs=>
   refine⟨⟨_,rfl,rfl⟩,G,hh,?_⟩;cases B with
   |box _ y ty H B=>
   simp only[jK]at h;split at h;rotate_left
   .cases h
   rename_i y1 a1 b1 PY;simp only[aV,bq]at h;obtain⟨rfl,rfl,rfl,rfl⟩:=h;obtain⟨p1,p2,p3⟩:=fy P hs PY (vals:=y.toList) ⟨by simpa using H,λj t v i r=>B j t v i (by simpa using r)⟩;refine⟨p1,p2,λu s1 q a b c d e nb _=>?_⟩;obtain⟨al,i,r⟩:=p3 u s1 q a b c d e;exact⟨al,.cells i,r⟩
  |_=>simp[jK]at h
 |link pre post=>
  cases ob with
  |box vs=>
   refine⟨⟨_,rfl,rfl⟩,G,hh,?_⟩;cases B with
   |box _ y ty H B=>
   simp only[jK]at h;split at h;rotate_left
   .cases h
   rename_i x1 a1 b1 o1 y1 a2 b2 e1 e2 e3;simp only[aV,bq]at h;obtain⟨rfl,rfl,rfl,rfl⟩:=h;rw[bA]at e1 e2 e3;have I:vs.length=y.toList.length:=by rw[<-ee];simpa using H
   have K:∀j t v,vs[j]?=Z t->y.toList[j]?=Z v->aC g w (low t) v:=λj t v i r=>B j _ v (by rw[fP,gj,i];rfl) (by simpa using r);have Q:PW (aC g w) (aX (vs.take pre.length)) (y.toList.take pre.length):=by
    refine⟨by rw[ee];simp[I],λj t v i r=>?_⟩;rw[fP,gj,ec]at i;obtain⟨t',i,rfl⟩:=i;rw[uF]at i r;split at i
    .rename_i hj;rw[aY hj]at r;exact K j t' v i r
    .cases i
   have M:PW (aC g w) (aX (vs.drop (Nat.succ pre.length))) (y.toList.drop (Nat.succ pre.length)):=by refine⟨by rw[ee];simp[I],λj t v i r=>?_⟩;rw[fP,gj,ec]at i;obtain⟨t',i,rfl⟩:=i;rw[Au]at i r;exact K _ t' v i r
   rw[iR]at e2;have R:pre.length<y.toList.length:=by rw[<-I];exact(sv.1 e2).1
   have z:=K pre.length _ _ e2 (eS R);simp only[low]at z;generalize hvm:y.toList[pre.length]=vm at z;cases z with
   |ptr _ _ b2 nB=>
   have C:y.toList=y.toList.take pre.length++([.pointer (Z ⟨b2,0,Y⟩)]++y.toList.drop (Nat.succ pre.length)):=by have h1:=(Ll pre.length y.toList).symm;rw[NL R,hvm]at h1;simpa using h1
   obtain⟨p1,p2,p3⟩:=fy P hs e1 Q;obtain⟨q1,q2,q3⟩:=fy P hs e3 M;refine⟨λo f=>(dy.1 f).elim (p1 o) (q1 o),λo f=>(dy.1 f).elim (p2 o) (q2 o),λu s1 q E N hf F A nb hnb=>?_⟩;obtain⟨xZ,i,r⟩:=p3 u s1 q E N hf (λo f=>F o (dH _ f)) (λo f=>A o (dH _ f));obtain⟨yj,k3,k4⟩:=q3 u s1 q E N hf (λo f=>F o (gp _ f)) (λo f=>A o (gp _ f));obtain⟨X,Hv,Z5⟩:=hnb _ rfl;have:X=b2:=ew (Z5.symm.trans (N.bG _ _ nB));subst this;exact⟨_,.link Hv C i k3,r.append k4⟩
  |_=>simp[jK]at h
 |map kt vt=>
  cases ob with
  |map k v l=>
   simp only[jK]at h;split at h
   .rename_i l' H;obtain⟨rfl,rfl,hh'⟩:=Mw H;cases hh';simp only[aV,bq]at h;obtain⟨rfl,rfl,rfl,rfl⟩:=h;refine⟨⟨_,rfl,rfl⟩,G,hh,λo f=>(by cases f),λo f=>(by cases f),λu s1 q E N hf _ _ nb _=>⟨[],?_,.nil⟩⟩;cases B with
    |map _ ms c H B=>
    refine .map (by simpa using H) λj p m h1 h2=>?_;obtain⟨i,r⟩:=B j _ m (by rw[gj,h1];rfl) h2;exact⟨Nn P (i.ext N hs.bf),Nn P (r.ext N hs.bf)⟩
   .cases h
  |_=>simp[jK]at h
 |oG=>
  cases ob with
  |oG bs n=>simp only[jK,aV,bq]at h;obtain⟨rfl,rfl,rfl,rfl⟩:=h;refine⟨⟨_,rfl,rfl⟩,G,hh,λo f=>(by cases f),λo f=>(by cases f),λu s1 q E N hf _ _ nb _=>⟨[],?_,.nil⟩⟩;cases B;exact .oG (x:=(bs,n))
  |_=>simp[jK]at h
def AM.gq{I:Nat->Prop}{w:World}{nb:O Nat}{k:Bk}{x:uH S.A k}{h:Obj}{al:L eX}(d:AM S I w nb k x h al):∀a∈al,∀b,a.at b->¬I b:=by
 cases d with
 |cells h=>exact h.gq
 |map=>intro a c;cases c
 |oG=>intro a c;cases c
 |link _ _ h1 h2=>intro a c;exact(dy.1 c).elim (h1.gq a) (h2.gq a)
def AQ(k:Bk)(s:aW S)(nx:O Nat)(x:uH S.A k):s.au<=(fZ s nx k x).2.au:=by cases k with|cells cs=>exact lV cs s x|map a b=>exact bS _|oG=>exact bS _|link pre post=>exact eO (lV pre s x.1) (lV post _ x.2)
def nu{x:uH S.A k}(z:AM S g.bf w nb k x h al)(H:∀X,nb=Z X->∃u,nx=Z u∧g.bG u=Z X)(hs:aU g (aq s) w)(q:∀a∈al,∀b,a.at b->∀o,¬br g o b)(A:tY al)
  (hn:(fZ s nx k x).2.au<=bg):∃g',QO g s w al g' (fZ s nx k x).2∧gC g' w (cz (fZ s nx k x).1) h:=by
 cases z with
 |cells z=>obtain⟨g',hu,B⟩:=kZ z hs q A hn;exact⟨g',hu,.box _ _ _ (by simpa using B.1) λj t v d i=>B.2 j t v d (by simpa using i)⟩
 | @map kt vt l ms c hl z=>refine⟨g,QO.refl hs,.map _ _ _ (by simpa using hl) λj t m h1 h2=>?_⟩;simp only[gj,ec]at h1;obtain⟨p,hp,rfl⟩:=h1;obtain⟨d,i⟩:=z j p m hp h2;exact⟨sI d,sI i⟩
 |oG=>exact⟨g,QO.refl hs,.oG _ _⟩
 | @link pre post x y cv ty al se vp vq b F hv h1 h2=>
  obtain⟨u,rfl,I⟩:=H b F;have e:=qR.1 A;have K:(gn s pre x).2.au<=bg:=eO (lV post _ y) hn;obtain⟨g1,f,C⟩:=kZ h1 hs (λa G=>q a (dH _ G)) e.1 K;obtain⟨M,r,N⟩:=kZ (s:=(gn s pre x).2) (f.bf▸h2) f.rel (λa G b F o P=>by
    rcases f.own o b P with P|⟨_,a2,Q,R⟩
    .exact q a (gp _ G) b F o P
    .exact e.2.2 a2 Q a G b R F) e.2.1 hn
  refine⟨M,f.trans r,?_⟩;have E:aC M w (low (.ptr u 0:V S)) (.pointer (Z ⟨b,0,Y⟩)):=.ptr u 0 b (by rw[r.bG,f.bG];exact I);have n:PW (aC M w) (aX ((gn s pre x).1++(NP (Z u)++(gn (gn s pre x).2 post y).1))) cv.toList:=by
   rw[hv,iT,iT];exact PW.append ⟨C.1,λj t v d i=>(C.2 j t v d i).le r.le⟩ (PW.append ⟨rfl,λj t v d i=>by
    cases j with
    |zero=>simp[aX,NP]at d i;subst d;subst i;exact E
    |succ j=>simp[aX,NP]at d⟩ N)
  exact .box _ _ _ (by simpa using n.1) λj t v d i=>n.2 j t v d (by simpa using i)
end
section
def Tr.oV{α:Type}:∀(n:Nat)(t:Tr α)(k j:Nat),k+1<2 ^ n->(Tr.del n t k).get j=if j=k then Y else t.get j
 |0,t,k,j,h=>by simp at h
 |n+1,.nil,k,j,h=>by have:Tr.del (n+1) (.nil:Tr α) k=.nil:=rfl;rw[this,Tr.get_nil];split<;>rfl
 |n+1,.node v l r,0,j,h=>by have:Tr.del (n+1) (.node v l r) 0=.node Y l r:=rfl;rw[this];cases j with|zero=>simp[Tr.fC]|succ j=>rw[Tr.cD,Tr.cD];simp
 |n+1,.node v l r,k+1,j,h=>by
  have b:k/2+1<2 ^ n:=by rw[Nat.pow_succ]at h;omega
  have c:Tr.del (n+1) (.node v l r) (k+1)=if k%2=0 then .node v (Tr.del n l (k/2)) r else .node v l (Tr.del n r (k/2)):=by
   simp only[Tr.del];by_cases h2:k%2=0
   .have:Nat.beq (Nat.mod k 2) 0=W:=by show Nat.beq (k%2) 0=W;rw[h2];rfl
    simp[this,h2];rfl
   .have:Nat.beq (Nat.mod k 2) 0=J:=by
     show Nat.beq (k%2) 0=J;have:k%2=1:=by omega
     rw[this];rfl
    simp[this,h2];rfl
  rw[c];cases j with
  |zero=>split<;>simp[Tr.fC]
  |succ j=>
   by_cases d:k%2=0
   .rw[aY d,Tr.cD,Tr.cD];by_cases a:j%2=0
    .rw[aY a,aY a,Tr.oV n _ _ _ b];have:j/2=k/2↔j+1=k+1:=by omega
     simp[this]
    .rw[bK a,bK a,bK (by omega)]
   .rw[bK d,Tr.cD,Tr.cD];by_cases a:j%2=0
    .rw[aY a,aY a,bK (by omega)]
    .rw[bK a,bK a,Tr.oV n _ _ _ b];have:j/2=k/2↔j+1=k+1:=by omega
     simp[this]
def Tr.mb{α:Type}:∀(bs:L Nat)(t:Tr α)(j:Nat),(∀b∈bs,b<bg)->(bs.foldl (λt o=>t.del aA o) t).get j=if j∈bs then Y else t.get j
 |[],t,j,_=>by simp
 |b::bs,t,j,h=>by
  rw[zF,Tr.mb bs _ j (λc a=>h c (by simp[a])),Tr.oV _ _ _ _ (by have:=h b (by simp);unfold aA;unfold bg at this;omega)];by_cases h1:j∈bs
  .simp[h1]
  .by_cases h2:j=b<;>simp[h1,h2]
def Tr.oa{α:Type}(f:α->α):∀(t:Tr α)(k:Nat),(t.mapA f).get k=(t.get k).map f
 | .nil,k=>by have:(Tr.nil:Tr α).mapA f=.nil:=rfl;rw[this,Tr.get_nil];rfl
 | .node v l r,0=>by have:(Tr.node v l r).mapA f=.node (match v with|some x=>Z (f x)|none=>Y) (l.mapA f) (r.mapA f):=rfl;rw[this,Tr.fC,Tr.fC];cases v<;>rfl
 | .node v l r,k+1=>by have:(Tr.node v l r).mapA f=.node (match v with|some x=>Z (f x)|none=>Y) (l.mapA f) (r.mapA f):=rfl;rw[this,Tr.cD,Tr.cD,Tr.oa f l,Tr.oa f r];split<;>rfl
def Tr.n8{α:Type}(p:α->Bool):∀(t:Tr α)(k:Nat)(x:α),t.get k=Z x->p x=W->k∈t.iD p
 | .nil,k,x,h,_=>by rw[Tr.get_nil]at h;cases h
 | .node v l r,0,x,h,a=>by rw[Tr.fC]at h;subst h;simp[Tr.iD,a]
 | .node v l r,k+1,x,h,a=>by
  rw[Tr.cD]at h;simp only[Tr.iD,dy,sr];by_cases b:k%2=0
  .rw[aY b]at h;exact .inr (.inl ⟨k/2,Tr.n8 p l _ x h a,by show 2*(k/2)+1=k+1;omega⟩)
  .rw[bK b]at h;exact .inr (.inr ⟨k/2,Tr.n8 p r _ x h a,by show 2*(k/2)+1+1=k+1;omega⟩)
def Tr.l9{α:Type}(p:α->Bool):∀(t:Tr α)(k:Nat),(t.keep p).get k=(t.get k).filter p
 | .nil,k=>by have:(Tr.nil:Tr α).keep p=.nil:=rfl;rw[this,Tr.get_nil];rfl
 | .node v l r,0=>by have:(Tr.node v l r).keep p=.node (match v with|some x=>bif p x then Z x else Y|none=>Y) (l.keep p) (r.keep p):=rfl;rw[this,Tr.fC,Tr.fC];cases v with|none=>rfl|some x=>cases a:p x<;>simp[Option.filter,a]
 | .node v l r,k+1=>by have:(Tr.node v l r).keep p=.node (match v with|some x=>bif p x then Z x else Y|none=>Y) (l.keep p) (r.keep p):=rfl;rw[this,Tr.cD,Tr.cD,Tr.l9 p l,Tr.l9 p r];split<;>rfl
mutual
def jq(os:L Nat):∀v:V S,cO os (low v)=gw os v
 | .ty t x=>by
  have:∀l:L D,gG os (l.map .sym)=J:=by
   intro l
   induction l with|nil=>rfl|cons d l e=>simp[gG,cO,e]
  cases t<;>simp[low,en,gw,cO,this]
 | .kb _=>rfl
 | .kn _ _=>rfl
 | .dat _=>rfl
 | .ptr _ _=>rfl
 | .lR _ _ _=>rfl
 | .jV _ _ _ _=>rfl
 | .sh _ _=>rfl
 | .emp=>rfl
 | .ja _ _ _=>rfl
 | .fn _ a b=>by simp only[low,gw,cO,n5 os a,n5 os b]
 | .cE _ v=>by simp only[low,gw,cO,jq os v]
 | .agg c=>by simp only[low,gw,cO,n5 os c]
 | .fQ c=>by simp only[low,gw,cO,n5 os c]
 | .gd _ v=>by simp only[low,gw,cO,jq os v]
 | .mp _=>rfl
 | .pz _=>rfl
 | .qF _=>rfl
 | .ub _=>rfl
 | .pL _ _ _ _=>rfl
 | .nk _ _ _=>rfl
def n5(os:L Nat):∀l:L (V S),gG os (aX l)=mF os l
 |[]=>rfl
 |v::l=>by simp only[aX,gG,mF,jq os v,n5 os l]
end
def j6:∀t:T,cO [] t=J:=by
 intro t
 induction t using T.rec (motive_2:=λl=>gG [] l=J)with|fn f a b d g=>simp[cO,d,g]|cE t v e=>simp[cO,e]|agg i e=>simp[cO,e]|fQ i e=>simp[cO,e]|gd c v e=>simp[cO,e]|nil=>rfl|cons a l d h=>simp[gG,d,h]|_=>simp[cO]
structure mz(lo fl:Nat)(g:Gh)(w:World)(g':Gh)(w':World):Prop where
 bG:∀o b,g.bG o=Z b->g'.bG o=Z b
 arr:∀o e x,o<lo->g.arr o e=Z x->g'.arr o e=Z x
 bf:∀b,g.bf b->g'.bf b
 size:w.heap.size<=w'.heap.size
 heap:∀b,b<w.heap.size->(∀o,fl<=o->¬br g o b)->w'.heap[b]?=w.heap[b]?
 own:∀o b,fl<=o->br g' o b->(∃o',fl<=o'∧br g o' b)∨w.heap.size<=b
 pN:∀b,g'.bf b->g.bf b∨w.heap.size<=b∨∃o,fl<=o∧br g o b
 os:w'.os=w.os
 output:w'.output=w.output
def mz.refl(lo fl:Nat)(g:Gh)(w:World):mz lo fl g w g w:=
 ⟨λ_ _ h=>h,λ_ _ _ _ h=>h,λ_ h=>h,bS _,λ_ _ _=>rfl,λo _ a h=>.inl ⟨o,a,h⟩,λ_ h=>.inl h,rfl,rfl⟩
def mz.trans{lo fl:Nat}{g g' i:Gh}{w w' j:World}(h:mz lo fl g w g' w')(k:mz lo fl g' w' i j):mz lo fl g w i j where
 bG o b e:=k.bG o b (h.bG o b e)
 arr o e x n q:=k.arr o e x n (h.arr o e x n q)
 bf b e:=k.bf b (h.bf b e)
 size:=eO h.size k.size
 heap b f p:=by
  rw[k.heap b (gN f h.size) (λo l d=>?_),h.heap b f p];rcases h.own o b l d with⟨m,a,c⟩|d
  .exact p m a c
  .omega
 own o b l d:=by
  rcases k.own o b l d with⟨m,a,c⟩|d
  .exact h.own m b a c
  .exact .inr (eO h.size d)
 pN b f:=by
  rcases k.pN b f with f|f|⟨o,l,d⟩
  .exact h.pN b f
  .exact .inr (.inl (eO h.size f))
  .rcases h.own o b l d with⟨m,a,c⟩|d
   .exact .inr (.inr ⟨m,a,c⟩)
   .exact .inr (.inl d)
 os:=k.os.trans h.os
 output:=k.output.trans h.output
variable {fl:Nat}{g g':Gh}{w w':World}{s:aW S}{k:Bk}{nx:Option Nat}
def Ext.Eb(lo:Nat)(h:Ext fl g w g' w'):mz lo fl g w g' w':=
 ⟨λo b e=>h.bG o b e,λo e x _ k=>h.arr o e x k,h.bf,h.size,h.heap,λo b a c=>(h.own o b c).imp (λh=>⟨o,a,h⟩) id,h.pN,h.os,h.output⟩
structure cr(ow:List Nat)(s:aW S)(g:Gh)(w:World)(s':aW S)(g':Gh)(w':World):Prop where
 rel:aU g' (aq s') w'
 ext:mz s.lo s.fl g w g' w'
 fl:s'.fl=s.fl
 lo:s'.lo=s.lo
 au:s.au<=s'.au
 rU:∀o∈s.wr,o∈s'.wr
 same:∀o,o<s.au->o∉s'.wr->s'.ob.get o=s.ob.get o
 tr:∀t v,aC g w t v->cO ow t=J->aC g' w' t v
 oww:∀o∈ow,o∈s'.wr
 Ey:∀o∈s.dr,o∈s'.dr
 owd:∀o∈ow,o∈s'.dr
inductive oD(S:Sg)(I:Nat->Prop)(w:World):(ps:List Pk)->fj S.A ps->List Value->List eX->List Nat->Prop where
 |nil:oD S I w [] () [] [] []
 |one {c:Ck} {ps:List Pk} {x:den S.A c.ty} {h:fj S.A ps} {v:Value} {vs:List Value} {al se:List eX} {bl:List Nat} (h1:iF S I w [c] (x,()) [v] al) (h2:oD S I w ps h vs se bl) :
   oD S I w (.one c::ps) (x,h) (v::vs) (al++se) bl
 |box {k:Bk} {ps:List Pk} {x:uH S.A k} {h:fj S.A ps} {b:Nat} {hx:Obj} {vs:List Value} {al se:List eX} {bl:List Nat} (hh:w.heap[b]?=Z hx)
   (h1:AM S I w (dg bl) k x hx al) (h2:oD S I w ps h vs se bl):oD S I w (.box k::ps) (x,h) (Hf k b::vs) (al++se) (b::bl)
 |hid {k:Bk} {ps:List Pk} {x:uH S.A k} {h:fj S.A ps} {b:Nat} {hx:Obj} {vs:List Value} {al se:List eX} {bl:List Nat} (hh:w.heap[b]?=Z hx)
   (h1:AM S I w (dg bl) k x hx al) (h2:oD S I w ps h vs se bl):oD S I w (.hid k::ps) (x,h) vs (al++se) (b::bl)
inductive AO(S:Sg)(I:Nat->Prop)(w:World):(ps:List Pk)->gB S.A ps->List Nat->List eX->Prop where
 |nil:AO S I w [] () [] []
 |one {c:Ck} {ps:List Pk} {r:gB S.A ps} {bl:List Nat} {al:List eX} (h:AO S I w ps r bl al):AO S I w (.one c::ps) r bl al
 |box {k:Bk} {ps:List Pk} {x:uH S.A k} {r:gB S.A ps} {b:Nat} {hx:Obj} {bl:List Nat} {al se:List eX} (hh:w.heap[b]?=Z hx)
   (h1:AM S I w (dg bl) k x hx al) (h2:AO S I w ps r bl se):AO S I w (.box k::ps) (x,r) (b::bl) (al++se)
 |hid {k:Bk} {ps:List Pk} {x:uH S.A k} {r:gB S.A ps} {b:Nat} {hx:Obj} {bl:List Nat} {al se:List eX} (hh:w.heap[b]?=Z hx)
   (h1:AM S I w (dg bl) k x hx al) (h2:AO S I w ps r bl se):AO S I w (.hid k::ps) (x,r) (b::bl) (al++se)
def valOf:L Value->Value
 |[v]=>v
 |l=>.tuple l.toArray
def Ba(S:Sg)(I:Nat->Prop)(w:World)(ps:L Pk)(f:L Ck)(r:fH S.A f×gB S.A ps)(al:L eX)(bl:L Nat)(v:Value)(w':World):Prop:=∃(e:Nat->Prop)(vs:L Value)(c d:L eX),(∀b,I b->e b)∧(∀b,e b->I b∨w.heap.size<=b∨∃a∈al,a.at b)∧(∀b,e b->b<w'.heap.size)∧w.heap.size<=w'.heap.size∧
   (∀b,b<w.heap.size->b∉bl->(∀a∈al,¬a.at b)->w'.heap[b]?=w.heap[b]?)∧w'.os=w.os∧w'.output=w.output∧v=valOf vs∧
   AO S e w' ps r.2 bl c∧iF S e w' f r.1 vs d∧tY (c++d)∧(∀a∈c++d,∀b,a.at b->(∃a'∈al,a'.at b)∨w.heap.size<=b)∧(∀b∈bl,¬e b∧∀a∈c++d,¬a.at b)
def uC(S:Sg)(I:Nat->Prop)(w:World)(ps:L Pk)(b:L Ck)(r:Rx (fH S.A b×gB S.A ps) (den S.A S.pt×gB S.A ps))(al:L eX)(bl:L Nat):Ending->World->Prop
 | .returned v,w'=>match r with
  | .ok r=>Ba S I w ps b r al bl v w'
  | .dP _=>False
 | .panicked c,w'=>match r with
  | .ok _=>False
  | .dP p=>∃v,c=[{v,recovered:=J}]∧Ba S I w ps [.dat S.pt] ((p.1,()),p.2) al bl v w'
 | .outgrown,_=>False
def bw(P:Program)(f:FuncId)(c:j0 S):Prop:=
 jZ P f∧∀x r,c.F x=Z r->∀(I:Nat->Prop)(w:World)(vs:Array Value)(al:L eX)(bl:L Nat),oD S I w c.ps x vs.toList al bl->(∀b,I b->b<w.heap.size)->tY al->bl.Nodup->
  (∀b∈bl,b<w.heap.size∧¬I b∧∀a∈al,¬a.at b)->Calls P f vs w (uC S I w c.ps c.rs (RT.res c.pn r) al bl)
def w7(hs:aU g (aq s) w){o b:Nat}(p:g.bG o=Z b){x:uH S.A k}{fz ow:L Nat}(h:jK s k (s.ob.get o)=Z (x,fz,ow,nx)) :
  (∀c,nx=Z c->∃q,g.bG c=Z q)∧∀c,nx=Z c->∃pre post,k=.link pre post:=by
 cases d:s.ob.get o with
 |none=>rw[d]at h;cases k<;>simp[jK]at h
 |some ob=>
 rw[d]at h;obtain⟨t,u,e⟩:=(hs.box o b p).2.2 (cz ob) (by rw[aE,d];rfl);cases k with
 |link pre post=>
  refine⟨λc f=>?_,λ_ _=>⟨pre,post,rfl⟩⟩;subst f;cases ob with
  |box v=>
   cases e with
   |box _ m ty r e=>
   simp only[jK]at h;split at h;rotate_left
   .cases h
   rename_i y a1 z A B a2 n C i E;simp only[aV,bq]at h;obtain⟨_,_,_,rfl⟩:=h;rw[iR]at i;have j:bU pre<m.size:=by rw[<-r,ee];exact(sv.1 i).1
   have a:=e (bU pre) _ _ (by rw[fP,gj,i];rfl) (nT j);simp only[low]at a;generalize m[bU pre]=F at a;cases a with|ptr _ _ n l=>exact⟨n,l⟩
  |_=>simp[jK]at h
 |cells G=>
  cases ob<;>simp only[jK]at h<;>try(cases h;done)
  split at h
  .simp only[aV,bq]at h;obtain⟨_,_,_,rfl⟩:=h;exact⟨λ_ h=>(by cases h),λ_ h=>(by cases h)⟩
  .cases h
 |map H I=>
  cases ob<;>simp only[jK]at h<;>try(cases h;done)
  split at h
  .simp only[aV,bq]at h;obtain⟨_,_,_,rfl⟩:=h;exact⟨λ_ h=>(by cases h),λ_ h=>(by cases h)⟩
  .cases h
 |oG=>
  cases ob<;>simp only[jK]at h<;>try(cases h;done)
  simp only[aV,bq]at h;obtain⟨_,_,_,rfl⟩:=h;exact⟨λ_ h=>(by cases h),λ_ h=>(by cases h)⟩
def zJ{i:Gh}{ps:L Pk}{l:L (V S)}{h:fj S.A ps}{a b bs bl:L Nat}(m:Cv k ps=W)(g:∀c,nx=Z c->∃pre post,k=.link pre post)(e:dL s ps l nx=Z (h,a,b,bs))(d:PW (λo b=>i.bG o=Z b) bs bl) :
  ∀c,nx=Z c->∃f,dg bl=Z f∧i.bG c=Z f:=by
 intro c j;obtain⟨pre,post,rfl⟩:=g c j;subst j
 match ps,m with
 | .hid n::ps,_=>
  simp only[dL]at e;rcases aa e with⟨_,e⟩|⟨_,e⟩;rotate_left
  .cases e
  split at e;rotate_left
  .cases e
  split at e;rotate_left
  .cases e
  simp only[aV,bq]at e;obtain⟨_,_,_,rfl⟩:=e
  match bl,d with
  |f::bl,d=>exact⟨f,rfl,d.2 0 _ _ rfl rfl⟩
  |[],d=>exact absurd d.1 (by simp)
def jm(P:eR S){g:Gh}{w:World}{s:aW S}(hs:aU g (aq s) w):∀{ps:L Pk}{l:L (V S)}{vals:L Value}{x:fj S.A ps}{fz ow bs:L Nat}{B:O Nat},dL s ps l B=Z (x,fz,ow,bs)->PW (aC g w) (aX l) vals->(∀o,B=Z o->∃b,g.bG o=Z b)->
  (∀o∈fz,Live g (aq s) o)∧(∀o∈ow,s.fl<=o∧s.lo<=o∧o<s.au∧∃ob,s.ob.get o=Z ob∧MF ob=W)∧(∀o∈bs,s.fl<=o∧∃ob,s.ob.get o=Z ob∧mW ob=W)∧∀(r:Gh)(s1:St)(i:L Nat),aU r s1 w->Ext s.fl g w r w->jf (aq s) s1 i->(∀o∈fz,o∈i)->(∀o∈ow,s1.ob.get o=(aq s).ob.get o)->
   ∃al bl,oD S r.bf w ps x vals al bl∧AL r al ow∧PW (λo b=>r.bG o=Z b) bs bl
 |[],[],vals,x,fz,ow,bs,_,h,m=>by intro _;simp only[dL,aV,bq]at h;obtain⟨_,rfl,rfl,rfl⟩:=h;have:vals=[]:=qU (by have:=m.1;simpa[aX]using this.symm);subst this;exact⟨λo d=>(by cases d),λo d=>(by cases d),λo d=>(by cases d),λ_ _ _ _ _ _ _ _=>⟨[],[],.nil,.nil,rfl,λj a b h=>by simp at h⟩⟩
 | .one c::ps,v::l,vals,x,fz,ow,bs,_,h,m=>by
  intro _;simp only[dL]at h;split at h
  .rename_i x1 a1 b1 h1 a2 b2 Q C E;simp only[aV,bq]at h;obtain⟨rfl,rfl,rfl,rfl⟩:=h
   match vals,m with
   |val::vals,m=>have F:aC g w (low v) val:=m.2 0 _ _ rfl rfl;have G:PW (aC g w) (aX l) vals:=⟨by have:=m.1;simpa[aX]using this,λj a b u y=>m.2 (j+1) a b (by simpa[aX]using u) (by simpa using y)⟩;obtain⟨R,X,p3⟩:=zL P hs C F;obtain⟨q1,q2,q4,q3⟩:=jm P hs E G (λo d=>by cases d);refine⟨λo d=>(dy.1 d).elim (R o) (q1 o),λo d=>(dy.1 d).elim (X o) (q2 o),q4,λr s1 i n t A f e=>?_⟩;obtain⟨xZ,u,y⟩:=p3 r s1 i n t A (λo d=>f o (dH _ d)) (λo d=>e o (dH _ d));obtain⟨yj,bl,k3,k4,z⟩:=q3 r s1 i n t A (λo d=>f o (gp _ d)) (λo d=>e o (gp _ d));exact⟨_,bl,.one u k3,y.append k4,z⟩
   |[],m=>exact absurd m.1 (by simp[aX])
  .cases h
 | .box k::ps,v::l,vals,x,fz,ow,bs,B,h,m=>by
  intro _;simp only[dL]at h;split at h
  .rename_i o hkp;obtain rfl:=Hg hkp;rcases aa h with⟨H,p⟩|⟨_,p⟩
   .clear h;rw[yB]at H;split at p;rotate_left
    .cases p
    rename_i x1 a1 b1 nx C;split at p;rotate_left
    .cases p
    rename_i h1 a2 b2 Q E;simp only[aV,bq]at p;obtain⟨rfl,rfl,rfl,rfl⟩:=p
    match vals,m with
    |val::vals,m=>
     have F:aC g w (low (PS k o)) val:=m.2 0 _ _ rfl rfl;have G:PW (aC g w) (aX l) vals:=⟨by have:=m.1;simpa[aX]using this,λj a b u y=>m.2 (j+1) a b (by simpa[aX]using u) (by simpa using y)⟩;obtain⟨b,q,rfl⟩:=Cw F;obtain⟨p0,hx,hh,R,X,p3⟩:=oP P hs q C;obtain⟨I,K⟩:=w7 hs q C;obtain⟨q1,q2,q4,q3⟩:=jm P hs E G I;refine⟨λo d=>(dy.1 d).elim (R o) (q1 o),λo d=>(dy.1 d).elim (X o) (q2 o),λk hk=>?_,λr s1 i n t A f e=>?_⟩
     .rcases ej.1 hk with rfl|hk
      .exact ⟨eN H.1,p0⟩
      .exact q4 k hk
     .obtain ⟨yj,bl,k3,k4,z⟩:=q3 r s1 i n t A (λo d=>f o (gp _ d)) (λo d=>e o (gp _ d));obtain⟨xZ,u,y⟩:=p3 r s1 i n t A (λo d=>f o (dH _ d)) (λo d=>e o (dH _ d)) (dg bl) (zJ H.2 K E z);refine⟨_,b::bl,.box hh u k3,y.append k4,by simp[z.1],λj a c M N=>?_⟩;cases j with|zero=>simp at M N;subst M;subst N;exact t.bG _ _ q|succ j=>exact z.2 j a c (by simpa using M) (by simpa using N)
    |[],m=>exact absurd m.1 (by simp[aX])
   .cases p
  .cases h
 | .hid k::ps,l,vals,x,fz,ow,bs,Z o,h,m=>by
  intro hp0;simp only[dL]at h;rcases aa h with⟨H,p⟩|⟨_,p⟩;rotate_left
  .cases p
  clear h;rw[yB]at H;split at p;rotate_left
  .cases p
  rename_i x1 a1 b1 nx C;split at p;rotate_left
  .cases p
  rename_i h1 a2 b2 Q E;simp only[aV,bq]at p;obtain⟨rfl,rfl,rfl,rfl⟩:=p;obtain⟨b,q⟩:=hp0 o rfl;obtain⟨p0,hx,hh,R,X,p3⟩:=oP P hs q C;obtain⟨I,K⟩:=w7 hs q C;obtain⟨q1,q2,q4,q3⟩:=jm P hs E m I;refine⟨λo d=>(dy.1 d).elim (R o) (q1 o),λo d=>(dy.1 d).elim (X o) (q2 o),λk hk=>?_,λr s1 i n t A f e=>?_⟩
  .rcases ej.1 hk with rfl|hk
   .exact ⟨eN H.1,p0⟩
   .exact q4 k hk
  .obtain ⟨yj,bl,k3,k4,z⟩:=q3 r s1 i n t A (λo d=>f o (gp _ d)) (λo d=>e o (gp _ d));obtain⟨xZ,u,y⟩:=p3 r s1 i n t A (λo d=>f o (dH _ d)) (λo d=>e o (dH _ d)) (dg bl) (zJ H.2 K E z);refine⟨_,b::bl,.hid hh u k3,y.append k4,by simp[z.1],λj a c M N=>?_⟩;cases j with|zero=>simp at M N;subst M;subst N;exact t.bG _ _ q|succ j=>exact z.2 j a c (by simpa using M) (by simpa using N)
 |[],_::_,_,_,_,_,_,_,h,_=>by simp[dL]at h
 | .one _::_,[],_,_,_,_,_,_,h,_=>by simp[dL]at h
 | .box _::_,[],_,_,_,_,_,_,h,_=>by simp[dL]at h
 | .hid _::_,_,_,_,_,_,_,Y,h,_=>by simp[dL]at h
end
section
def Gh.drop_nil(g:Gh):g.drop []=g:=by cases g;simp[Gh.drop]
def Cm{os:L Nat}:∀{l:L (V S)},mF os l=J->∀v∈l,gw os v=J
 |[],_,v,b=>by cases b
 |a::l,h,v,b=>by
  simp only[mF,vT]at h;rcases ej.1 b with rfl|b
  .exact h.1
  .exact Cm h.2 v b
def Cl{α:Type}{os:L Nat}:∀{l:L (α×V S)},GW os l=J->∀p∈l,gw os p.2=J
 |[],_,v,b=>by cases b
 |a::l,h,v,b=>by
  simp only[GW,vT]at h;rcases ej.1 b with rfl|b
  .exact h.1
  .exact Cl h.2 v b
def AX{p:V S->Bool}{f:V S->V S}(hf:∀v,p v=J->f v=v):∀{t:Tr (V S)},kG p t=J->t.mapA f=t
 | .nil,_=>rfl
 | .node v l r,h=>by simp only[kG,vT]at h;simp only[Tr.mapA,AX hf h.2.1,AX hf h.2.2];cases v with|none=>rfl|some x=>simp only[hf x h.1]
variable {os bl:List Nat}{g:Gh}{w:World}{s:aW S}{vs:List Value}{I:Nat->Prop}{ps:List Pk}{al:List eX}
def y9{v:V S}(h:gw os v=J):ou os v=v:=by simp only[ou,h,cM]
def Mu{ob:sj S}(h:GR os ob=J):lT os ob=ob:=by
 cases ob with
 |box b=>simp only[lT,sj.box.injEq];have:∀v∈b,ou os v=v:=λv c=>y9 (Cm h v c);exact(II this).trans (List.map_id _)
 |DT d l=>
  simp only[lT];have:∀p∈l,((p.1,ou os p.2):den S.A d×V S)=p:=λp e=>by rw[y9 (Cl h p e)]
  rw[(II this).trans (List.map_id _)]
 |lp l=>simp only[lT,AX (λv=>y9) (show kG (gw os) l.fr.tm=J from h)]
 |jL n j l era m a hole=>have h:os.contains m=J:=h;simp only[lT,h,cM]
 |_=>rfl
def tq(os:L Nat)(v:V S):sk (cO os) (low v) (low (ou os v)):=by cases a:gw os v with|true=>exact .inr ⟨_,by simp only[ou,a,cn];rfl⟩|false=>exact .inl ⟨by simp only[ou,a,cM],by rw[jq];exact a⟩
def Gl(os:L Nat)(t:Ty)(x:den S.A t):sk (cO os) (en S t x) (en S t x):=.inl ⟨rfl,jq (S:=S) os (.ty t x)⟩
def HG(os:L Nat)(ob:sj S):Uq os (cz ob) (cz (lT os ob)):=by
 cases ob with
 |box o=>refine⟨by simp[ee],λj t u h1 h2=>?_⟩;simp only[fP,gj,ec]at h1 h2;obtain⟨v,b,rfl⟩:=h1;obtain⟨g,⟨d,a,rfl⟩,rfl⟩:=h2;rw[b]at a;cases a;exact tq os v
 |map h q l=>refine⟨rfl,λj t u h1 h2=>?_⟩;rw[h1]at h2;cases h2;simp only[gj,ec]at h1;obtain⟨p,_,rfl⟩:=h1;exact⟨Gl os _ _,Gl os _ _⟩
 |DT h l=>refine⟨by simp,λj t u h1 h2=>?_⟩;simp only[gj,ec]at h1 h2;obtain⟨v,b,rfl⟩:=h1;obtain⟨g,⟨d,a,rfl⟩,rfl⟩:=h2;rw[b]at a;cases a;exact⟨Gl os _ _,tq os _⟩
 |lp l=>refine⟨rfl,rfl,λk u i=>?_⟩;have c:((l.fr.tm.mapA (ou os)).map low).get k=Z u:=i;rw[Tr.get_map,Tr.oa,BN,ec]at c;obtain⟨v,b,rfl⟩:=c;exact⟨low v,by show(l.fr.tm.map low).get k=_;rw[Tr.get_map,b];rfl,tq os v⟩
 |arr=>rfl
 |jC=>rfl
 |oG=>rfl
 |wE=>rfl
 |rws=>rfl
 |gone=>rfl
 |Cj=>rfl
 |jL n j l era m f hole=>
  cases e:os.contains m with|true=>exact .inr (by simp only[lT,e,cn];rfl)|false=>exact .inl ⟨by simp only[lT,e,cond_false];rfl,e⟩
def CM(os:L Nat)(s:aW S)(o:Nat):(forget os s).ob.get o=if os=[]then s.ob.get o else(s.ob.get o).map (lT os):=by cases os with|nil=>rfl|cons a os=>rw[bK (by simp)];exact Tr.oa _ _ _
def JI(os:L Nat)(hs:aU g (aq s) w):aU (g.drop os) (aq (forget os s)) w:=by cases os with|nil=>rw[Gh.drop_nil];exact hs|cons a os=>refine hs.drop rfl λo c h=>?_;rw[aE,CM,bK (by simp),BN,ec]at h;obtain⟨ob,b,rfl⟩:=h;exact⟨cz ob,by rw[aE,b];rfl,HG _ ob⟩
def JH(os:L Nat)(s:aW S)(o:Nat)(h:o∉(forget os s).wr):(forget os s).ob.get o=s.ob.get o:=by
 rw[CM];split
 .rfl
 .rename_i b;cases d:s.ob.get o with
  |none=>rfl
  |some ob=>
   cases c:GR os ob with
   |true=>
    exfalso;apply h;cases os with|nil=>exact absurd rfl b|cons a os=>exact dH _ (Tr.n8 _ _ _ _ d c)
   |false=>rw[dG,Mu c]
def Qp(os:L Nat)(s:aW S):(forget os s).fl=s.fl∧(forget os s).lo=s.lo∧(forget os s).au=s.au∧(forget os s).dr=s.dr∧∀o∈s.wr,o∈(forget os s).wr:=by cases os with|nil=>exact⟨rfl,rfl,rfl,rfl,λ_ h=>h⟩|cons a os=>exact⟨rfl,rfl,rfl,rfl,λo h=>gp _ h⟩
def dY:∀{os:L Nat}{s s':aW S},cY s os=Z s'->s'.fl=s.fl∧s'.lo=s.lo∧s'.au=s.au∧(∀o∈s.wr,o∈s'.wr)∧(∀o,o∉s'.wr->s'.ob.get o=s.ob.get o)∧(∀o,o∉os->s'.ob.get o=s.ob.get o)∧s'.dr=s.dr
 |[],s,s',h=>by simp only[cY,aV]at h;subst h;exact⟨rfl,rfl,rfl,λ_ h=>h,λ_ _=>rfl,λ_ _=>rfl,rfl⟩
 |k::os,s,s',h=>by
  simp only[cY]at h;rcases aa h with⟨_,h⟩|⟨_,h⟩
  .split at h
   .obtain ⟨h1,h2,h3,h4,h5,h6,b⟩:=dY h;refine⟨h1,h2,h3,λo a=>h4 o (gl _ a),λo a=>?_,λo a=>?_,b⟩
    .rw[h5 o a];exact Tr.cT _ _ _ _ _ (λe=>a (h4 o (by rw[e];exact dX)))
    .rw[h6 o (λc=>a (gl _ c))];exact Tr.cT _ _ _ _ _ (λe=>a (by rw[e];exact dX))
   .obtain ⟨h1,h2,h3,h4,h5,h6,b⟩:=dY h;exact⟨h1,h2,h3,h4,h5,λo a=>h6 o (λc=>a (gl _ c)),b⟩
   .split at h
    .rename_i m r _ _ _ _ _;rcases aa h with⟨d,h⟩|⟨_,h⟩
     .simp only[dI,wX,kj]at d;obtain⟨h1,h2,h3,h4,h5,h6,b⟩:=dY h;refine⟨h1,h2,h3,λo a=>h4 o (gl _ (gl _ a)),λo a=>?_,λo a=>?_,b⟩
      .rw[h5 o a];show((s.ob.set aA _ _).set aA k _).get o=_;rw[Tr.cT _ _ _ _ _ (λe=>a (h4 o (by rw[e];exact dX))),Tr.cT _ _ _ _ _ (λe=>a (h4 o (by rw[e];exact gl _ dX)))]
      .rw[h6 o (λc=>a (gl _ c))];show((s.ob.set aA _ _).set aA k _).get o=_;rw[Tr.cT _ _ _ _ _ (λe=>a (by rw[e];exact dX)),Tr.cT _ _ _ _ _ (λe=>a (by rw[e];exact gl _ d.1))]
     .cases h
    .cases h
   .obtain ⟨h1,h2,h3,h4,h5,h6,b⟩:=dY h;exact⟨h1,h2,h3,h4,h5,λo a=>h6 o (λc=>a (gl _ c)),b⟩
   .obtain ⟨h1,h2,h3,h4,h5,h6,b⟩:=dY h;exact⟨h1,h2,h3,h4,h5,λo a=>h6 o (λc=>a (gl _ c)),b⟩
   .cases h
  .cases h
structure akr(bs:List Nat)(g:Gh)(s:aW S)(w:World)(al:List eX)(g':Gh)(s':aW S):Prop where
 rel:aU g' (aq s') w
 le:lH g g'
 bf:g'.bf=g.bf
 own:∀k b,br g' k b->br g k b∨(s.au<=k∧∃a∈al,a.at b)
 fl:s'.fl=s.fl
 lo:s'.lo=s.lo
 au:s.au<=s'.au
 rU:∀o∈s.wr,o∈s'.wr
 wrb:∀o∈bs,o∈s'.wr
 dr:s'.dr=s.dr
 ob:∀o,o<s.au->o∉bs->s'.ob.get o=s.ob.get o
 bG:g'.bG=g.bG
 arr:∀o,o<s.au->∀e,g'.arr o e=g.arr o e
def qj:∀{ps:L Pk}{bs:L Nat}{r:gB S.A ps}{s s':aW S},jJ s ps bs r=Z s'->s.au<=s'.au
 |[],[],r,s,s',h=>by simp only[jJ,aV]at h;rw[h];exact bS _
 | .one c::ps,bs,r,s,s',h=>qj (ps:=ps) (by simpa only[jJ]using h)
 | .box a::ps,o::bs,r,s,s',h=>by simp only[jJ]at h;have h1:=qj h;exact eO (AQ _ s _ r.1) h1
 | .hid a::ps,o::bs,r,s,s',h=>by simp only[jJ]at h;have h1:=qj h;exact eO (AQ _ s _ r.1) h1
 |[],_::_,_,_,_,h=>by simp[jJ]at h
 | .box _::_,[],_,_,_,h=>by simp[jJ]at h
 | .hid _::_,[],_,_,_,h=>by simp[jJ]at h
def xo{bs:L Nat}(h:PW (λo b=>g.bG o=Z b) bs bl):∀a,dg bl=Z a->∃c,dg bs=Z c∧g.bG c=Z a:=by
 intro a d
 match bl,bs,h with
 |b::bl,o::bs,h=>cases d;exact⟨o,rfl,h.2 0 _ _ rfl rfl⟩
 |[],_,_=>cases d
 |_::_,[],h=>exact absurd h.1 (by simp)
def I2:∀{ps:L Pk}{r:gB S.A ps}{bl:L Nat}{al:L eX}{bs:L Nat}{g:Gh}{w:World}{s s2:aW S},AO S g.bf w ps r bl al->aU g (aq s) w->PW (λo b=>g.bG o=Z b) bs bl->(∀o∈bs,∀e,g.arr o e=Y)->
  (∀a∈al,∀b,a.at b->∀o,¬br g o b)->tY al->jJ s ps bs r=Z s2->s2.au<=bg->∃g',akr bs g s w al g' s2:=by
 intro ps
 induction ps with
 |nil=>
  intro r bl al bs g w s s2 hb G i _ _ _ h _;cases hb;cases bs with|nil=>simp only[jJ,aV]at h;subst h;exact⟨g,G,lH.refl _,rfl,λ_ _ h=>.inl h,rfl,rfl,bS _,λ_ h=>h,λo ho=>(by cases ho),rfl,λ_ _ _=>rfl,rfl,λ_ _ _=>rfl⟩|cons o bs=>exact absurd i.1 (by simp)
 |cons p ps ih=>
  intro r bl al bs g w s s2 hb G i y z I h hn;cases hb with
  |one hb=>simp only[jJ]at h;exact ih hb G i y z I h hn
  | @box A _ x r b hx bl al K hh h1 h2=>
   cases bs with
   |nil=>exact absurd i.1 (by simp)
   |cons o bs=>
    simp only[jJ]at h;have B:g.bG o=Z b:=i.2 0 _ _ rfl rfl;have n:=qR.1 I;have M:=qj h;have N:(fZ s (dg bs) A x).2.au<=bg:=eO M hn;obtain⟨g1,f,C⟩:=nu h1 (xo (bs:=bs) (bl:=bl) ⟨by simpa using i.1,λj a c t u=>i.2 (j+1) a c (by simpa using t) (by simpa using u)⟩) G (λa H=>z a (dH _ H)) n.1 N;have P:o<s.au:=G.lt B;have hk:=f.rel.rm (o:=o) (b:=b) (by rw[f.bG];exact B) hh C (λe=>by rw[f.arr o P];exact y o (by simp) e);have Q:aU g1 (aq {(fZ s (dg bs) A x).2 with ob:=(fZ s (dg bs) A x).2.ob.set aA o (fZ s (dg bs) A x).1,wr:=o::(fZ s (dg bs) A x).2.wr}) w:=by rw[eK];exact hk
    obtain⟨g2,l⟩:=ih (bl:=bl) (al:=K) (bs:=bs) (g:=g1) (f.bf▸h2) Q ⟨by simpa using i.1,λj a c t u=>by rw[f.bG];exact i.2 (j+1) a c (by simpa using t) (by simpa using u)⟩
     (λm d e=>by
      have:m<s.au:=by
       obtain⟨j,hj,rfl⟩:=oJ d;have R:j<bl.length:=by have:=i.1;simp at this;omega
       exact G.lt (i.2 (j+1) bs[j] bl[j] (by simp[hj]) (by simp[R]))
      rw[f.arr m this];exact y m (by simp[d]) e)
     (λa H v E k q=>by
      rcases f.own k v q with q|⟨_,a2,X,nB⟩
      .exact z a (gp _ H) v E k q
      .exact n.2.2 a2 X a H v nB E) n.2.1 h hn
    refine⟨g2,l.rel,f.le.trans l.le,l.bf.trans f.bf,λk v q=>?_,l.fl.trans f.fl,l.lo.trans f.lo,eO f.au l.au,λm d=>?_,λm d=>?_,l.dr.trans f.dr,λm F d=>?_,l.bG.trans f.bG,λm F e=>?_⟩
    .rcases l.own k v q with q|⟨t,a,u,k3⟩
     .rcases f.own k v q with q|⟨t,a,u,k3⟩
      .exact .inl q
      .exact .inr ⟨t,a,dH _ u,k3⟩
     .exact .inr ⟨eO f.au t,a,gp _ u,k3⟩
    .exact l.rU m (gl _ (by rw[f.wr];exact d))
    .rcases ej.1 d with rfl|d
     .exact l.rU _ dX
     .exact l.wrb m d
    .have hne:m≠o:=λe=>d (by rw[e];exact dX);rw[l.ob m (gN F f.au) (λhm=>d (gl _ hm))];simp only;rw[Tr.cT _ _ _ _ _ hne];exact f.ob m F
    .rw[l.arr m (gN F f.au)];exact f.arr m F e
  | @hid A _ x r b hx bl al K hh h1 h2=>
   cases bs with
   |nil=>exact absurd i.1 (by simp)
   |cons o bs=>
    simp only[jJ]at h;have B:g.bG o=Z b:=i.2 0 _ _ rfl rfl;have n:=qR.1 I;have M:=qj h;have N:(fZ s (dg bs) A x).2.au<=bg:=eO M hn;obtain⟨g1,f,C⟩:=nu h1 (xo (bs:=bs) (bl:=bl) ⟨by simpa using i.1,λj a c t u=>i.2 (j+1) a c (by simpa using t) (by simpa using u)⟩) G (λa H=>z a (dH _ H)) n.1 N;have P:o<s.au:=G.lt B;have hk:=f.rel.rm (o:=o) (b:=b) (by rw[f.bG];exact B) hh C (λe=>by rw[f.arr o P];exact y o (by simp) e);have Q:aU g1 (aq {(fZ s (dg bs) A x).2 with ob:=(fZ s (dg bs) A x).2.ob.set aA o (fZ s (dg bs) A x).1,wr:=o::(fZ s (dg bs) A x).2.wr}) w:=by rw[eK];exact hk
    obtain⟨g2,l⟩:=ih (bl:=bl) (al:=K) (bs:=bs) (g:=g1) (f.bf▸h2) Q ⟨by simpa using i.1,λj a c t u=>by rw[f.bG];exact i.2 (j+1) a c (by simpa using t) (by simpa using u)⟩
     (λm d e=>by
      have:m<s.au:=by
       obtain⟨j,hj,rfl⟩:=oJ d;have R:j<bl.length:=by have:=i.1;simp at this;omega
       exact G.lt (i.2 (j+1) bs[j] bl[j] (by simp[hj]) (by simp[R]))
      rw[f.arr m this];exact y m (by simp[d]) e)
     (λa H v E k q=>by
      rcases f.own k v q with q|⟨_,a2,X,nB⟩
      .exact z a (gp _ H) v E k q
      .exact n.2.2 a2 X a H v nB E) n.2.1 h hn
    refine⟨g2,l.rel,f.le.trans l.le,l.bf.trans f.bf,λk v q=>?_,l.fl.trans f.fl,l.lo.trans f.lo,eO f.au l.au,λm d=>?_,λm d=>?_,l.dr.trans f.dr,λm F d=>?_,l.bG.trans f.bG,λm F e=>?_⟩
    .rcases l.own k v q with q|⟨t,a,u,k3⟩
     .rcases f.own k v q with q|⟨t,a,u,k3⟩
      .exact .inl q
      .exact .inr ⟨t,a,dH _ u,k3⟩
     .exact .inr ⟨eO f.au t,a,gp _ u,k3⟩
    .exact l.rU m (gl _ (by rw[f.wr];exact d))
    .rcases ej.1 d with rfl|d
     .exact l.rU _ dX
     .exact l.wrb m d
    .have hne:m≠o:=λe=>d (by rw[e];exact dX);rw[l.ob m (gN F f.au) (λhm=>d (gl _ hm))];simp only;rw[Tr.cT _ _ _ _ _ hne];exact f.ob m F
    .rw[l.arr m (gN F f.au)];exact f.arr m F e
def wH{l:L (V S)}(h:PW (aC g w) (aX l) vs):aC g w (low (An l)) (valOf vs):=by
 match l,vs,h with
 |[],[],_=>exact .fQ _ _ rfl (λj t v h=>by simp[aX]at h)
 |[v],[x],h=>exact h.2 0 _ _ rfl rfl
 |v::c::l,x::d::vs,h=>exact .fQ _ _ (by simpa using h.1) (λj t u a b=>h.2 j t u a (by simpa using b))
 |[],_::_,h=>exact absurd h.1 (by simp[aX])
 |_::_,[],h=>exact absurd h.1 (by simp[aX])
 |[_],_::_::_,h=>exact absurd h.1 (by simp[aX])
 |_::_::_,[_],h=>exact absurd h.1 (by simp[aX])
def oD.gq{I:Nat->Prop}{w:World}{ps:L Pk}{x:fj S.A ps}{vs:L Value}{al:L eX}{bl:L Nat}(h:oD S I w ps x vs al bl):∀a∈al,∀b,a.at b->¬I b:=by
 induction h with
 |nil=>intro a c;cases c
 |one h1 h2 e=>
  intro a c b d;rcases dy.1 c with c|c
  .exact h1.gq a c b d
  .exact e a c b d
 |box f h1 h2 e=>
  intro a c b d;rcases dy.1 c with c|c
  .exact h1.gq a c b d
  .exact e a c b d
 |hid f h1 h2 e=>
  intro a c b d;rcases dy.1 c with c|c
  .exact h1.gq a c b d
  .exact e a c b d
def oz{α β:Type}{x:O α}{f:α->O β}{r:β}(h:af x f=Z r):∃a,x=Z a∧f a=Z r:=by
 unfold af at h;split at h
 .exact ⟨_,rfl,h⟩
 .cases h
def oD.ajW{x:fj S.A ps}(h:oD S I w ps x vs al bl):bN ps=W->al=[]∧bl=[]:=by
 induction h with
 |nil=>intro _;exact⟨rfl,rfl⟩
 | @one c ps x h v vs al b bl h1 h2 d=>
  intro a;cases c with
  |own e=>simp[bN]at a
  |iJ n j t=>simp[bN]at a
  |nil e=>simp[bN]at a
  |ptr t=>simp[bN]at a
  |dat t=>
   obtain⟨rfl,rfl⟩:=d (by simpa[bN]using a);cases h1 with|dat _ f=>cases f;exact⟨rfl,rfl⟩
 |box=>intro a;simp[bN]at a
 |hid=>intro a;simp[bN]at a
def zK{s:aW S}:∀{ps:L Pk}{l:L (V S)}{c:O Nat}{x:fj S.A ps}{fz ow bs:L Nat},bN ps=W->dL s ps l c=Z (x,fz,ow,bs)->ow=[]
 |[],[],_,x,fz,ow,bs,_,h=>by simp only[dL,aV,bq]at h;exact h.2.2.1.symm
 | .one (.dat t)::ps,v::l,_,x,fz,ow,bs,a,h=>by
  simp only[dL]at h;split at h
  .rename_i f a1 g h1 a2 i d b e;simp only[aV,bq]at h;obtain⟨_,_,rfl,_⟩:=h;rw[zK (by simpa[bN]using a) e];simp only[kD]at b;split at b
   .simp only[aV,bq]at b;obtain⟨_,_,rfl⟩:=b;rfl
   .cases b
  .cases h
 | .one (.iJ ..)::_,_,_,_,_,_,_,a,_=>by simp[bN]at a
 | .one (.nil _)::_,_,_,_,_,_,_,a,_=>by simp[bN]at a
 | .one (.ptr _)::_,_,_,_,_,_,_,a,_=>by simp[bN]at a
 | .one (.own _)::_,_,_,_,_,_,_,a,_=>by simp[bN]at a
 | .box _::_,_,_,_,_,_,_,a,_=>by simp[bN]at a
 | .hid _::_,_,_,_,_,_,_,a,_=>by simp[bN]at a
 |[],_::_,_,_,_,_,_,_,h=>by simp[dL]at h
 | .one _::_,[],_,_,_,_,_,_,h=>by simp[dL]at h
def uw{g:Gh}{I:Nat->Prop}{w w':World}:∀{cs:L Ck}{x:fH S.A cs}{vs:L Value}{al:L eX},jy cs=W->iF S I w cs x vs al->PW (aC g w') (aX (oY cs x)) vs
 |[],x,vs,al,_,h=>by cases h;exact⟨rfl,λj t v h=>by simp[aX,oY]at h⟩
 | .dat t::cs,x,vs,al,a,h=>by
  cases h with
  | @dat _ _ y h v vs al b f=>
  simp only[jy,dI]at a;obtain⟨i,l⟩:=uw (g:=g) (w':=w') a.2 f;refine⟨by simp only[oY,aX,gi];rw[i],λj m o c d=>?_⟩;cases j with
  |zero=>
   simp only[oY,aX,qT,aV]at c d;subst c;subst d;have:dM g.bf w' (enc S t y) v:=by
    cases t with
    |int k=>cases b;exact .lit _
    |bool=>cases b;exact .lit _
    |str=>cases b;exact .lit _
    |sl e=>simp[Bt]at a
    |st n=>simp[Bt]at a
    |cE n=>simp[Bt]at a
   exact nG this
  |succ j=>exact l j m o (by simpa[oY,aX]using c) (by simpa using d)
 | .own _::_,_,_,_,a,_=>by simp[jy]at a
 | .iJ ..::_,_,_,_,a,_=>by simp[jy]at a
 | .nil _::_,_,_,_,a,_=>by simp[jy]at a
 | .ptr _::_,_,_,_,a,_=>by simp[jy]at a
def qX(hS:eR S){g:Gh}{w:World}{s:aW S}(hs:aU g (aq s) w):∀{ps:L Pk}{l:L (V S)}{vals:L Value}{x:fj S.A ps}{fz:L Nat},jz s ps l=Z (x,fz)->PW (aC g w) (aX l) vals->
  (∀o∈fz,Live g (aq s) o)∧∀(A:Gh)(s1:St)(i:L Nat),aU A s1 w->Ext s.fl g w A w->jf (aq s) s1 i->(∀o∈fz,o∈i)->∃B:Nat->Prop,(∀b,B b->b<w.heap.size)∧∀I:Nat->Prop,(∀b,A.bf b∨B b->I b)->oD S I w ps x vals [] []
 |[],[],vals,x,fz,h,m=>by simp only[jz,aV,bq]at h;obtain⟨_,rfl⟩:=h;have:vals=[]:=qU (by have:=m.1;simpa[aX]using this.symm);subst this;exact⟨λo f=>(by cases f),λ_ _ _ _ _ _ _=>⟨λ_=>False,λ_ h=>h.elim,λ_ _=>.nil⟩⟩
 |[],_::_,_,_,_,h,_=>by simp[jz]at h
 | .one c::_,[],_,_,_,h,_=>by cases c<;>simp[jz]at h
 | .box _::_,[],_,_,_,h,_=>by simp[jz]at h
 | .hid _::_,[],_,_,_,h,_=>by simp[jz]at h
 | .box _::_,_::_,_,_,_,h,_=>by simp[jz]at h
 | .hid _::_,_::_,_,_,_,h,_=>by simp[jz]at h
 | .one (.own _)::_,_::_,_,_,_,h,_=>by simp[jz]at h
 | .one (.iJ ..)::_,_::_,_,_,_,h,_=>by simp[jz]at h
 | .one (.nil _)::_,_::_,_,_,_,h,_=>by simp[jz]at h
 | .one (.dat t)::ps,v::l,[],x,fz,_,m=>absurd m.1 (by simp[aX])
 | .one (.ptr t)::ps,v::l,[],x,fz,_,m=>absurd m.1 (by simp[aX])
 | .one (.dat t)::ps,v::l,val::vals,x,fz,h,m=>by
  simp only[jz]at h;split at h;rotate_left
  .cases h
  rename_i y os y2 os2 h1 h2;simp only[aV,bq]at h;obtain⟨rfl,rfl⟩:=h;have q:aC g w (low v) val:=m.2 0 _ _ rfl rfl;have K:PW (aC g w) (aX l) vals:=⟨by have:=m.1;simpa[aX]using this,λj a b k1 k2=>m.2 (j+1) a b (by simpa[aX]using k1) (by simpa using k2)⟩;obtain⟨p,hd,hp⟩:=nH hS s t v h1;obtain⟨q1,q2⟩:=j3 hs (low v) hd hp q;obtain⟨q3,q4⟩:=qX hS hs h2 K;refine⟨λo f=>(dy.1 f).elim (q1 o) (q3 o),λA s1 i k E M d=>?_⟩;obtain⟨B,hB,hr⟩:=q4 A s1 i k E M (λo f=>d o (gp _ f));have hx:=q2 A s1 k E (M.sub λo f=>d o (dH _ f));exact⟨B,hB,λI C=>oD.one (al:=[]) (.dat (hx.le λb G=>C b (.inl G)) .nil) (hr I C)⟩
 | .one (.ptr t)::ps,v::l,val::vals,x,fz,h,m=>by
  simp only[jz]at h;split at h;rotate_left
  .cases h
  rename_i y os y2 os2 h1 h2;simp only[aV,bq]at h;obtain⟨rfl,rfl⟩:=h;have q:aC g w (low v) val:=m.2 0 _ _ rfl rfl;have K:PW (aC g w) (aX l) vals:=⟨by have:=m.1;simpa[aX]using this,λj a b k1 k2=>m.2 (j+1) a b (by simpa[aX]using k1) (by simpa using k2)⟩;obtain⟨q3,q4⟩:=qX hS hs h2 K;unfold XF at h1;split at h1
  .rename_i u z;split at h1;rotate_left
   .cases h1
   rename_i z' hz;simp only[aV,bq]at h1;obtain⟨rfl,rfl⟩:=h1;obtain⟨rfl,hz⟩:=FN hz;cases hz;simp only[low]at q;cases q with
   |lR _ _ ad vv hi hc hd=>
   refine⟨λo f=>q3 o (by simpa using f),λA s1 i k E M d=>?_⟩;obtain⟨B,hB,hr⟩:=q4 A s1 i k E M (λo f=>d o (by simpa using f));exact⟨B,hB,λI C=>oD.one (al:=[]) (.ptr (C _ (.inl (E.bf _ hi))) hc (λj c r=>(hd j c r).le λb G=>C _ (.inl (E.bf _ G))) .nil) (hr I C)⟩
  .rename_i o;split at h1;rotate_left
   .cases h1
   rename_i cs f;rcases aa h1 with⟨hst,h1⟩|⟨_,h1⟩;rotate_left
   .cases h1
   simp only[low]at q;cases q with
   |ptr _ _ b G=>
   have ho':(aq s).ob.get o=Z (.box (aX cs)):=by rw[aE,f];rfl
   obtain⟨vs,ty,N,hl,P⟩:=(hs.box o b G).box ho';have Qh:aC g w (low (.agg cs)) (.agg vs):=by simp only[low];exact .agg _ _ hl P
   obtain⟨p,hd,hp⟩:=nH hS s t (.agg cs) h1;obtain⟨q1,q2⟩:=j3 hs _ hd hp Qh;refine⟨λo f=>(dy.1 f).elim (q1 o) (q3 o),λA s1 i k E M d=>?_⟩;obtain⟨B,hB,hr⟩:=q4 A s1 i k E M (λo f=>d o (gp _ f));have hx:=q2 A s1 k E (M.sub λo f=>d o (dH _ f));refine⟨λX=>B X∨X=b,λX Q=>Q.elim (hB X) λe=>by rw[e];exact(hs.box o b G).2.1,λI C=>oD.one (al:=[]) ?_ (hr I λX Q=>C X (Q.imp id .inl))⟩;cases t with
   |st n=>
    have hx':∃l,enc S (.st n) y=.agg l:=⟨_,rfl⟩;obtain⟨l,R⟩:=hx';rw[R]at hx;cases hx with
    |agg _ _ e1 e2 e3=>
    have H:∀j,(⟨b,0,Y⟩:Addr).add j=⟨b,j,Y⟩:=λj=>by
     unfold Addr.add;split
     .rename_i e;rw[e]
     .simp
    have:=iF.ptr (S:=S) (I:=I) (w:=w) (t:=.st n) (cs:=[]) (x:=y) (h:=()) (ad:=⟨b,0,Y⟩) (val:=λj=>(vs[j]?).getD undef) (vs:=[]) (al:=[]) (C _ (.inr (.inr rfl))) (λj c r=>?_) (λj c r=>?_) .nil
    .rw[H]at this;exact this
    .rw[R]at r;have r:l[j]?=Z c:=r;have F:j<vs.size:=by rw[<-e1];exact(sv.1 r).1
     rw[H,cell?_of_block N,nT F];rfl
    .rw[R]at r;have r:l[j]?=Z c:=r;have F:j<vs.size:=by rw[<-e1];exact(sv.1 r).1
     have:=e3 j c vs[j] r (nT F);rw[nT F];exact this.le λb G=>C b (.inl G)
   |_=>cases hst
  .cases h1
def z5(hS:eR S){P:Program}{f:FuncId}{c:j0 S}(Qd:bw P f c)(hs:aU g (aq s) w){args:L (V S)}{vs:Array Value}(m8:PW (aC g w) (aX args) vs.toList)
  {ω:Type} {kp:V S->aW S->O ω} {k:V S->aW S->L Nat->O ω} {res:ω} (h:JR s c args kp k=Z res) :
  jZ P f∧Calls P f vs w λ
   | .returned v,w'=>∃t s' g' C,k t s' C=Z res∧aC g' w' (low t) v∧cr C s g w s' g' w'
   | .panicked ch,w'=>∃v t s' g',ch=[{v,recovered:=J}]∧kp t s'=Z res∧aC g' w' (low t) v∧cr [] s g w s' g' w'
   | .outgrown,_=>False:=by
 unfold JR at h;rcases aa h with⟨_,h0⟩|⟨_,h0⟩
 .clear h;unfold TE at h0;rcases aa h0 with⟨hc,h1⟩|⟨_,h1⟩;rotate_left
  .cases h1
  clear h0;simp only[dI]at hc;split at h1
  .cases h1
  rename_i x fz hpk;split at h1
  .cases h1
  rename_i K hfz;obtain⟨p1,p2⟩:=qX hS hs hpk m8;obtain⟨z,u,E,hfr⟩:=dV fz hs (cP hS _ hfz) p1;obtain⟨B,hB,F⟩:=p2 z (aq K) fz u E hfr (λo q=>q);obtain⟨r0,hF,h2⟩:=oz h1;split at h2;rotate_left
  .cases h2
  rename_i r hr;refine⟨Qd.1,(Qd.2 x r0 hF (λb=>z.bf b∨B b) w vs [] [] (F _ λ_ h=>h) (λb l=>l.elim (u.bf b) (hB b)) .nil .nil (λb l=>by cases l)).mono λe w' M=>?_⟩;rw[hr]at M;cases e with|outgrown=>exact M.elim|panicked ch=>exact M.elim|returned v=>obtain⟨I',vr,xZ,yj,q1,q2,q3,q4,q5,q6,q7,rfl,q8,q9,_⟩:=M;have Td:∀b,b<w.heap.size->w'.heap[b]?=w.heap[b]?:=λb l=>q5 b l (by simp) (by simp);obtain⟨hs',he'⟩:=hs.grow (fl:=s.fl) (I:=g.bf) (w':=w') (λ_ h=>h) (λ_ h=>.inl h) (λb l=>gN (hs.bf b l) q4) q4 Td q6 q7;exact⟨_,s,g,[],h2,wH (uw hc.2.1 q9),hs',he'.Eb _,rfl,rfl,bS _,λ_ h=>h,λ_ _ _=>rfl,λt v ht _=>ht.ext he' hs.bf,λo q=>(by cases q),λ_ h=>h,λo q=>(by cases q)⟩
 clear h;have h:=h0;clear h0;split at h
 .cases h
 rename_i x fz C bs hpk;split at h
 .cases h
 rename_i K hfz;rcases aa h with⟨N9,h2⟩|⟨_,h⟩
 .obtain ⟨p1,_,_,p3⟩:=jm hS hs hpk m8 (λo q=>by cases q);obtain⟨z,u,E,hfr⟩:=dV fz hs (cP hS _ hfz) p1;simp only[SM,dI]at N9;obtain⟨f1,f2,f3,f4,f5,f6,f7⟩:=dY hfz;obtain⟨al,bl,F,_,_⟩:=p3 z (aq K) fz u E hfr (λo q=>q) (λo q=>by rw[zK N9.1 hpk]at q;cases q);obtain⟨rfl,rfl⟩:=F.ajW N9.1;clear h;obtain⟨r0,hF,h2⟩:=oz h2;split at h2;rotate_left
  .cases h2
  rename_i r hr;refine⟨Qd.1,(Qd.2 x r0 hF z.bf w vs [] [] F u.bf .nil .nil (λb l=>by cases l)).mono λe w' M=>?_⟩;rw[hr]at M;cases e with|outgrown=>exact M.elim|panicked ch=>exact M.elim|returned v=>obtain⟨I',vr,xZ,yj,q1,q2,q3,q4,q5,q6,q7,rfl,q8,q9,_⟩:=M;have Td:∀b,b<w.heap.size->w'.heap[b]?=w.heap[b]?:=λb l=>q5 b l (by simp) (by simp);obtain⟨hs',he'⟩:=hs.grow (fl:=s.fl) (I:=g.bf) (w':=w') (λ_ h=>h) (λ_ h=>.inl h) (λb l=>gN (hs.bf b l) q4) q4 Td q6 q7;refine⟨_,s,g,[],h2,wH (uw N9.2.1 q9),hs',he'.Eb _,rfl,rfl,bS _,λ_ h=>h,λ_ _ _=>rfl,λt v ht _=>ht.ext he' hs.bf,λo q=>(by cases q),λ_ h=>h,λo q=>(by cases q)⟩
 rcases aa h with⟨l,h2⟩|⟨_,h2⟩;rotate_left
 .cases h2
 clear h;simp only[dI]at l;have ZK:=jR l.1;have aiP:=jR l.2.1;have hap:=wz l.2.2;unfold af at h2;split at h2;rotate_left
 .cases h2
 rename_i r hF;dsimp only at h2;obtain⟨p1,p2,p4,p3⟩:=jm hS hs hpk m8 (λo q=>by cases q);have hfl:=cP hS _ hfz;obtain⟨z,u,E,hfr⟩:=dV fz hs hfl p1;obtain⟨f1,f2,f3,f4,f5,f6,f7⟩:=dY hfz;obtain⟨al,bl,F,hal,Q7⟩:=p3 z (aq K) fz u E hfr (λo q=>q) (λo q=>by rw[aE,aE,f6 o (hap o q)]);have XX:∀o∈bs,∃ob,K.ob.get o=Z ob∧mW ob=W:=by
  intro o q;obtain⟨_,U5,Q,Fy⟩:=p4 o q;have hnf:o∉fz:=λhm=>by have:=(p1 o hm).mQ (by rw[aE,Q];rfl);rw[lZ Fy]at this;cases this
  exact⟨U5,by rw[f6 o hnf];exact Q,Fy⟩
 have ZL:∀o∈bs,∀e,z.arr o e=Y:=by intro o q e;obtain⟨vs',Q,Fy⟩:=XX o q;cases hx:z.arr o e with|none=>rfl|some x'=>exfalso;obtain⟨_,h2⟩:=u.arr o e x' hx;exact BX Fy (h2 _ (by rw[aE,Q];rfl))
 have hni:∀a∈al,∀b,a.at b->¬z.bf b:=F.gq;have AD:=hal.owned hni;have adM:=hal.apart u ZK hni;have Z2:∀b∈bl,∃o∈bs,z.bG o=Z b:=by
  intro b l;obtain⟨j,hj,rfl⟩:=oJ l;have hj':j<bs.length:=by have:=Q7.1;omega
  exact⟨bs[j],BI hj',Q7.2 j _ _ (eS hj') (eS hj)⟩
 have Qe:∀o∈bs,∃b∈bl,z.bG o=Z b:=by
  intro o q;obtain⟨j,hj,rfl⟩:=oJ q;have hj':j<bl.length:=by have:=Q7.1;omega
  exact⟨bl[j],BI hj',Q7.2 j _ _ (eS hj) (eS hj')⟩
 have hOb:∀o b,z.bG o=Z b->br z o b:=λo b h=>⟨(u.box o b h).1,.inl h⟩;have WH:bl.Nodup:=by
  refine Lo.2 λi j hi hj hij heq=>?_;have hlen:=Q7.1;have hi':i<bs.length:=by omega
  have hj':j<bs.length:=by omega
  have e1:=Q7.2 i _ _ (eS hi') (eS hi);have e2:=Q7.2 j _ _ (eS hj') (eS hj);rw[<-heq]at e2;exact(Lo.1 aiP i j hi' hj' hij) (u.jv _ _ _ (hOb _ _ e1) (hOb _ _ e2))
 have Z4:∀b∈bl,b<w.heap.size∧¬z.bf b∧∀a∈al,¬a.at b:=by intro b l;obtain⟨o,q,N⟩:=Z2 b l;refine⟨(u.box o b N).2.1,(u.box o b N).1,λa H A1=>?_⟩;obtain⟨o',R,WJ⟩:=AD a H b A1;have:=u.jv o o' b (hOb o b N) WJ;subst this;obtain⟨vs',Q,Fy⟩:=XX o q;obtain⟨_,_,_,oba,aiF,hB⟩:=p2 o R;rw[f6 o (hap o R)]at Q;have Q:s.ob.get o=Z vs':=Q;rw[aiF]at Q;cases Q;have:=rM hB;rw[lZ Fy]at this;cases this
 have core:∀(rs:L Ck)(r:fH S.A rs×gB S.A c.ps)(s2:aW S),jJ (vk bs (forget C {K with wr:=C++K.wr,dr:=C++K.dr})) c.ps bs r.2=Z s2->(gn s2 rs r.1).2.au<=bg->∀(v:Value)(w':World),Ba S z.bf w c.ps rs r al bl v w'->
   ∃g',aC g' w' (low (An (gn s2 rs r.1).1)) v∧cr C s g w (gn s2 rs r.1).2 g' w':=by
  clear h2;intro rs r s2 hput aiU v w' M;obtain⟨I',vr,xZ,yj,q1,q2,q3,q4,q5,q6,q7,rfl,q8,q9,q10,q11,q12⟩:=M
  let sF:aW S:=forget C {K with wr:=C++K.wr,dr:=C++K.dr}
  let sD:aW S:=vk bs sF
  obtain⟨t1,t2,t3,t5,t4⟩:=Qp C {K with wr:=C++K.wr,dr:=C++K.dr};have ZB:aU z (aq {K with wr:=C++K.wr,dr:=C++K.dr}) w:=u;have hsF:aU (z.drop C) (aq sF) w:=JI C ZB;have ajl:∀o∈bs,o<K.au:=λo q=>by obtain⟨b,_,l⟩:=Qe o q;exact u.lt l
  have hnob1:K.au<=bg:=u.au;have Tf:∀o,sD.ob.get o=if o∈bs then Y else sF.ob.get o:=λo=>Tr.mb bs _ o (λb l=>by have:=ajl b l;omega)
  have hsD:aU (z.drop C) (aq sD) w:=by
   have hsub:∀o ob,(aq sD).ob.get o=Z ob->(aq sF).ob.get o=Z ob:=by
    intro o ob h;rw[aE,Tf]at h;split at h
    .cases h
    .rw[aE];exact h
   refine⟨hsF.au,hsF.af,λo b h=>?_,λo e x h=>?_,hsF.bf,hsF.jv⟩
   .obtain ⟨k1,k2,k3⟩:=hsF.box o b h;exact⟨k1,k2,λob N=>k3 ob (hsub o ob N)⟩
   .obtain ⟨k1,k2⟩:=hsF.arr o e x h;exact⟨k1,λob N=>k2 ob (hsub o ob N)⟩
  let X:Nat->Prop:=λb=>b∈bl∨∃a∈al,a.at b
  have Md:∀o b,br (z.drop C) o b->br z o b:=λo b h=>Gh.wj h;have XY:∀a∈al,∀b,a.at b->∀o,¬br (z.drop C) o b:=by
   intro a H b l o A;obtain⟨o',R,WJ⟩:=AD a H b l;have:=u.jv o o' b (Md o b A) WJ;subst this;obtain⟨_,h|⟨e,x',ad,h,_⟩⟩:=A
   .have h:z.bG o=Z b:=h;obtain⟨_,_,_,oba,N,hB⟩:=p2 o R;have hnb:=u.xd (o:=o) (ob:=cz oba) ((aE K o).trans (by rw[f6 o (hap o R),N];rfl)) (rM hB);rw[hnb]at h;cases h
   .exact (Gh.Da h).1 R
  have hstep:aU {z.drop C with bf:=I'} (aq sD) w':=by
   refine hsD.step (X:=X) q1 (λb l=>?_) q3 q4 (λb l hX=>q5 b l (λh=>hX (.inl h)) (λa H h=>hX (.inr ⟨a,H,h⟩))) (λo b hX A=>?_) (λb hX=>?_)
   .rcases q2 b l with h|h|h
    .exact .inl h
    .exact .inr (.inl h)
    .exact .inr (.inr (.inr h))
   .rcases hX with hX|⟨a,H,G⟩
    .obtain ⟨o',R,aiG⟩:=Z2 b hX;have:=u.jv o o' b (Md o b A) (hOb _ _ aiG);subst this;exact⟨by rw[aE,Tf,aY R];rfl,(q12 b hX).1⟩
    .exact absurd A (XY a H b G o)
   .rcases hX with hX|⟨a,H,G⟩
    .exact (Z4 b hX).2.1
    .exact hni a H b G
  have XP:∀o b,br ({z.drop C with bf:=I'}:Gh) o b->br (z.drop C) o b:=λo b h=>⟨λhi=>h.1 (q1 b hi),h.2⟩;have hfresh:∀a∈xZ++yj,∀b,a.at b->∀o,¬br ({z.drop C with bf:=I'}:Gh) o b:=by
   intro a H b l o A;have A:=XP o b A;rcases q11 a H b l with⟨a',ha',hb'⟩|hge
   .exact XY a' ha' b hb' o A
   .have:=(hsD.nX A).1;omega
  have Z9:=qR.1 q10;have hs3n:s2.au<=(gn s2 rs r.1).2.au:=lV _ _ _;obtain⟨g4,hp⟩:=I2 (g:={z.drop C with bf:=I'}) (s:=sD) q8 hstep Q7 (λo q e=>by
    show(if o∈C then Y else z.arr o e)=Y;split
    .rfl
    .exact ZL o q e) (λa H=>hfresh a (dH _ H)) Z9.1 hput (by omega)
  obtain⟨g5,hu,aiu⟩:=kZ (g:=g4) (by rw[hp.bf];exact q9) hp.rel (λa H b l o A=>by
    rcases hp.own o b A with A|⟨_,a2,ha2,nB⟩
    .exact hfresh a (gp _ H) b l o A
    .exact Z9.2.2 a2 ha2 a H b nB l) Z9.2.1 aiU
  have hle:lH ({z.drop C with bf:=I'}:Gh) g5:=hp.le.trans hu.le;have XU:g5.bf=I':=hu.bf.trans hp.bf;have hnobD:sD.au=K.au:=t3;have aiJ:K.au<=(gn s2 rs r.1).2.au:=by have:=hp.au;omega
  have ac5:∀k b,br g5 k b->br g k b∨(s.fl<=k∧∃o',s.fl<=o'∧br g o' b)∨w.heap.size<=b:=by
   intro k b A;have XR:∀a∈xZ++yj,a.at b->K.au<=k->br g k b∨(s.fl<=k∧∃o',s.fl<=o'∧br g o' b)∨w.heap.size<=b:=by
    intro a H G hk';rcases q11 a H b G with⟨a',ha',hb'⟩|hge
    .obtain ⟨o',R,WJ⟩:=AD a' ha' b hb';rcases E.own o' b WJ with WJ|hge
     .have Ww:=p2 o' R;exact .inr (.inl ⟨by omega,o',Ww.1,WJ⟩)
     .exact .inr (.inr hge)
    .exact .inr (.inr hge)
   rcases hu.own k b A with A|⟨h1,a,H,G⟩
   .rcases hp.own k b A with A|⟨h1,a,H,G⟩
    .rcases E.own k b (Md k b (XP k b A))with A|hge
     .exact .inl A
     .exact .inr (.inr hge)
    .exact XR a (dH _ H) G (by omega)
   .have:=hp.au;exact XR a (gp _ H) G (by omega)
  refine⟨g5,wH aiu,hu.rel,⟨λo b l=>?_,λo e y hl hy=>?_,λb l=>?_,q4,λb l hno=>?_,λo b q A=>?_,λb l=>?_,q6,q7⟩,?_,?_,?_,λo q=>?_,λo hl q=>?_,λt v ht hm=>?_,λo q=>?_,λo q=>?_,λo q=>?_⟩
  .rw[hu.bG,hp.bG];exact E.bG o b l
  .have hno:o∉C:=λhm=>by have:=(p2 o hm).2.1;omega
   have h1:({z.drop C with bf:=I'}:Gh).arr o e=Z y:=by show(if o∈C then Y else z.arr o e)=Z y;rw[bK hno];exact E.arr o e y hy
   exact hle.arr o e y h1
  .rw[XU];exact q1 b (E.bf b l)
  .refine q5 b l (λhm=>?_) (λa H G=>?_)
   .obtain ⟨o,q,N⟩:=Z2 b hm;rcases E.own o b (hOb o b N)with A|hge
    .exact hno o (p4 o q).1 A
    .omega
   .obtain ⟨o,q,A⟩:=AD a H b G;rcases E.own o b A with A|hge
    .exact hno o (p2 o q).1 A
    .omega
  .rcases ac5 o b A with h|⟨_,h⟩|h
   .exact .inl ⟨o,q,h⟩
   .exact .inl h
   .exact .inr h
  .rw[XU]at l;rcases q2 b l with h|h|⟨a,H,G⟩
   .exact E.pN b h
   .exact .inr (.inl h)
   .obtain ⟨o,q,A⟩:=AD a H b G;rcases E.own o b A with A|hge
    .exact .inr (.inr ⟨o,(p2 o q).1,A⟩)
    .exact .inr (.inl hge)
  .exact hu.fl.trans (hp.fl.trans (t1.trans f1))
  .exact hu.lo.trans (hp.lo.trans (t2.trans f2))
  .omega
  .rw[hu.wr];exact hp.rU o (t4 o (gp _ (f4 o q)))
  .rw[hu.wr]at q;have h1:o∉bs:=λhm=>q (hp.wrb o hm);have h2:o∉sF.wr:=λhm=>q (hp.rU o hm);have h3:o∉K.wr:=λhm=>h2 (t4 o (gp _ hm));rw[hu.ob o (by have:=hp.au;omega),hp.ob o (by omega) h1,Tf,bK h1,JH _ _ _ h2];exact f5 o h3
  .have h1:=ht.ext E hs.bf;have h2:=h1.drop hm;have hkp:sn (z.drop C).bf w w':=λb l=>q5 b (u.bf b l) (λhmm=>(Z4 b hmm).2.1 l) (λa H G=>hni a H b G l);have h3:aC ({z.drop C with bf:=I'}:Gh) w' t v:=by
    clear hm h1 ht
    induction h2 with|sym d v hd=>exact .sym d v (hd.mono hkp q1)|kb b=>exact .kb b|kn k n=>exact .kn k n|ptr o off b l=>exact .ptr o off b l|lR d off ad val PZ hc hd=>exact .lR d off ad val (q1 _ PZ) (λj c hj=>by rw[hkp.cell (by rw[ki];exact PZ)];exact hc j c hj) (λj c hj=>(hd j c hj).mono hkp q1)|jV o e i off len cap sz ad hx=>exact .jV o e i off len cap sz ad hx|sh o e len cap sz a hx=>exact .sh o e len cap sz a hx|emp a=>exact .emp a|ja n es a hn hd=>exact .ja n es a hn (hd.mono hkp q1)|fn f fs cs va vc hl hm _ _ ih ih'=>exact .fn f fs cs va vc hl hm ih ih'|cE t x v _ ih=>exact .cE t x v ih|agg cs vs hl _ ih=>exact .agg cs vs hl ih|fQ cs vs hl _ ih=>exact .fQ cs vs hl ih|gd c t v _ ih=>exact .gd c t v ih|mp o b l=>exact .mp o b l|pz o b l=>exact .pz o b l|qF o b l=>exact .qF o b l|ub e b h=>exact .ub e b h|pL o m r i len cap sz a hx=>exact .pL o m r i len cap sz a hx|nk j d c a hj hd=>exact .nk j d c a hj (hd.mono hkp q1)
   exact h3.le hle
  .rw[hu.wr];exact hp.rU o (t4 o (dH _ q))
  .rw[hu.dr,hp.dr];show o∈sF.dr;rw[t5];exact gp _ (by rw[f7];exact q)
  .rw[hu.dr,hp.dr];show o∈sF.dr;rw[t5];exact dH _ q
 refine⟨Qd.1,(Qd.2 x r hF z.bf w vs al bl F u.bf adM WH Z4).mono λe w' M=>?_⟩;cases e with
 |outgrown=>exact M.elim
 |returned v=>
  simp only[uC]at M;split at M;rotate_left
  .exact M.elim
  rename_i r' hr';rw[hr']at h2;dsimp only at h2;split at h2
  .cases h2
  rename_i s2 hput;rcases aa h2 with⟨hlt,hk⟩|⟨_,hk⟩;rotate_left
  .cases hk
  obtain⟨g5,k1,k2⟩:=core c.rs r' s2 hput (eN hlt) v w' M;exact⟨_,_,g5,C,hk,k1,k2⟩
 |panicked ch=>
  simp only[uC]at M;split at M
  .exact M.elim
  rename_i p hp;obtain⟨v,rfl,M⟩:=M;rw[hp]at h2;dsimp only at h2;split at h2
  .cases h2
  rename_i s2 hput;split at h2;rotate_left
  .cases h2
  rcases aa h2 with⟨hlt,hk⟩|⟨_,hk⟩;rotate_left
  .cases hk
  obtain⟨g5,k1,k2⟩:=core [.dat S.pt] ((p.1,()),p.2) s2 hput (eN hlt) v w' M;exact⟨v,_,_,g5,rfl,hk,k1,k2⟩
end
section
structure g7(s s':aW S):Prop where
 rU:∀o∈s.wr,o∈s'.wr
 same:∀o,o<s.au->o∉s'.wr->s'.ob.get o=s.ob.get o
 dr:s'.dr=s.dr
def g7.refl(s:aW S):g7 s s:=⟨λ_ h=>h,λ_ _ _=>rfl,rfl⟩
variable {g:Gh}{w:World}{s s':aW S}{i:TI}{x v:V S}{c:Bool}{E:fX}
def cr.j5{g':Gh}{w':World}(hs:aU g (aq s) w)(h1:aU g' (aq s') w')(h2:Ext s.fl g w g' w')(h3:s'.fl=s.fl)(h4:s'.lo=s.lo)(h5:s.au<=s'.au)(h6:g7 s s'):cr [] s g w s' g' w':=
 ⟨h1,h2.Eb _,h3,h4,h5,h6.rU,h6.same,λ_ _ b _=>b.ext h2 hs.bf,λo a=>(by cases a),λo a=>h6.dr▸a,λo a=>(by cases a)⟩
def cr.refl{g:Gh}{w:World}{s:aW S}(hs:aU g (aq s) w):cr [] s g w s g w:=
 cr.j5 hs hs (Ext.refl _ _ _) rfl rfl (bS _) (g7.refl _)
def hU(s:aW S)(ob:sj S)(hn:s.au<bg):g7 s (cJ s ob):=
 ⟨λ_ h=>h,λo a _=>by simp only[cJ];rw[Tr.aO _ _ _ _ hn,bK (by omega)],rfl⟩
def j8{os:L Nat}(h:cY s os=Z s'):g7 s s':=by obtain⟨_,_,_,h1,h2,_,h3⟩:=dY h;exact⟨h1,λo _ a=>h2 o a,h3⟩
def qL(s:aW S)(o:Nat)(ob:sj S):g7 s {s with ob:=s.ob.set aA o ob,wr:=o::s.wr}:=
 ⟨λ_ h=>gl _ h,λk _ a=>Tr.cT _ _ _ _ _ (λe=>a (by rw[e];exact dX)),rfl⟩
def g7.trans'{a:aW S}(h:g7 s s')(hn:s.au<=s'.au)(k:g7 s' a):g7 s a:=
 ⟨λo c=>k.rU o (h.rU o c),λo c b=>(k.same o (gN c hn) b).trans (h.same o c (λd=>b (k.rU o d))),k.dr.trans h.dr⟩
def KZ{a:V S}(h:Bl i s a x=Z (c,v,s')):g7 s s':=by
 unfold Bl at h;split at h
 .cases h
 .split at h
  .split at h
   .rcases aa h with⟨_,h⟩|⟨_,h⟩
    .simp only[aV,bq]at h;obtain⟨_,_,rfl⟩:=h;exact qL _ _ _
    .cases h
   .cases h
  .split at h
   .split at h
    .split at h
     .rename_i b;split at h
      .split at h
       .rcases aa h with⟨_,h⟩|⟨_,h⟩
        .simp only[aV,bq]at h;obtain⟨_,_,rfl⟩:=h;exact(j8 b).trans' (wY (dY b).2.2.1.symm) (qL _ _ _)
        .cases h
       .cases h
      .cases h
     .cases h
    .cases h
   .cases h
  .cases h
def Bo{τ:O Ty}{l h m:O (V S)}(a:sL i τ s x l h m=Z (c,v,s')):s'=s∨cY s (I9 x)=Z s':=by
 unfold sL at a
 repeat' split at a
 all_goals first
  |(cases a;done)
  |(
    simp only[aV,bq]at a;obtain⟨_,_,rfl⟩:=a;first|exact .inl rfl|(right;assumption))
def Ss{fr:bI S}{o:Op}(h:bV E fr s o=Z (c,v,s')):g7 s s':=by
 have same:s'=s->g7 s s':=λe=>e▸g7.refl _;cases o with
 |alloc t=>
  simp only[bV]at h;split at h
  .rcases aa h with⟨d,h⟩|⟨_,h⟩
   .simp only[aV,bq]at h;obtain⟨_,_,rfl⟩:=h;exact hU _ _ (eN d)
   .cases h
  .cases h
 |box t x=>
  simp only[bV]at h;split at h
  .rcases aa h with⟨d,h⟩|⟨_,h⟩
   .simp only[ec,bq]at h;obtain⟨_,_,_,_,rfl⟩:=h;exact hU _ _ (eN d)
   .cases h
  .cases h
 |buildSlice t n i=>
  simp only[bV]at h;split at h
  .split at h
   .rcases aa h with⟨_,h⟩|⟨_,h⟩
    .split at h
     .simp only[ec,bq]at h;obtain⟨j,g,_,_,rfl⟩:=h;exact j8 g
     .cases h
    .cases h
   .cases h
  .cases h
 |store t x y=>
  simp only[bV]at h;split at h
  .exact KZ h
  .cases h
 |slice t x lo l m=>
  simp only[bV]at h;split at h
  .rcases Bo h with rfl|h
   .exact g7.refl _
   .exact j8 h
  .cases h
 |move x=>simp only[bV,ec,bq]at h;obtain⟨_,_,_,_,rfl⟩:=h;exact g7.refl _
 |assign x=>simp only[bV,ec,bq]at h;obtain⟨_,_,_,_,rfl⟩:=h;exact g7.refl _
 |pick x y z=>
  simp only[bV]at h;split at h
  .simp only[ec,bq]at h;obtain⟨_,_,_,_,rfl⟩:=h;exact g7.refl _
  .cases h
 |build t i=>
  simp only[bV]at h;split at h
  .split at h
   .simp only[ec,bq]at h;obtain⟨_,_,_,_,rfl⟩:=h;exact g7.refl _
   .cases h
  .cases h
 |load t x=>
  simp only[bV]at h;split at h
  .unfold u0 at h;split at h
   .split at h
    .dsimp only at h;rcases aa h with⟨_,h⟩|⟨_,h⟩
     .simp only[ec,bq]at h;obtain⟨_,_,_,_,rfl⟩:=h;exact g7.refl _
     .cases h
    .cases h
   .simp only[ec,bq]at h;obtain⟨_,_,_,_,rfl⟩:=h;exact g7.refl _
   .split at h
    .simp only[ec,bq]at h;obtain⟨_,_,_,_,rfl⟩:=h;exact g7.refl _
    .cases h
   .cases h
  .cases h
 |nilCheck x=>
  simp only[bV]at h;split at h;all_goals first
   |(cases h;done)
   |(
     simp only[aV,bq]at h;obtain⟨_,_,rfl⟩:=h;exact g7.refl _)
 |binOp op t x y u=>
  simp only[bV]at h;split at h
  .simp only[ec,bq]at h;obtain⟨_,_,_,_,rfl⟩:=h;exact g7.refl _
  .cases h
 |unOp op t x=>
  simp only[bV]at h;split at h
  .simp only[ec,bq]at h;obtain⟨_,_,_,_,rfl⟩:=h;exact g7.refl _
  .cases h
 |convert t u x=>
  simp only[bV]at h;split at h
  .exact same (y8 h).1
  .cases h
 |makeInterface t x=>
  simp only[bV]at h;split at h
  .split at h
   .cases h
   .simp only[aV,bq]at h;obtain⟨_,_,rfl⟩:=h;exact g7.refl _
  .cases h
 |makeFunc f a b=>
  simp only[bV]at h;split at h
  .simp only[aV,bq]at h;obtain⟨_,_,rfl⟩:=h;exact g7.refl _
  .cases h
 |extract x k=>
  simp only[bV]at h;split at h
  .exact same (rC h).1
  .cases h
 |fieldAddr t x k=>
  simp only[bV]at h;split at h
  .exact same (od h).1
  .cases h
 |field t x k=>
  simp only[bV]at h;split at h
  .unfold yY at h;split at h
   .split at h
    .dsimp only at h;rcases aa h with⟨_,h⟩|⟨_,h⟩
     .simp only[ec,bq]at h;obtain⟨_,_,_,_,rfl⟩:=h;exact g7.refl _
     .cases h
    .cases h
   .cases h
  .cases h
 |indexAddr t x y=>
  simp only[bV]at h;split at h
  .unfold iV at h;split at h
   .split at h
    .split at h
     .rcases aa h with⟨_,h⟩|⟨_,h⟩
      .simp only[aV,bq]at h;obtain⟨_,_,rfl⟩:=h;exact g7.refl _
      .cases h
     .cases h
    .split at h
     .simp only[aV,bq]at h;obtain⟨_,_,rfl⟩:=h;exact g7.refl _
     .cases h
   .cases h
  .cases h
 |index t x y=>
  simp only[bV]at h;split at h
  .unfold yR at h;split at h
   .simp only[aV,bq]at h;obtain⟨_,_,rfl⟩:=h;exact g7.refl _
   .cases h
  .cases h
 |typeAssert x t u ok=>
  simp only[bV]at h;split at h
  .exact same (tI h).1
  .cases h
 |_=>simp[bV]at h
def EC{b:Builtin}{d:Array TypeId}{args:L (V S)}(h:eL E s b d args=Z (c,v,s')):g7 s s':=by
 unfold eL at h;split at h
 .split at h
  .split at h
   .simp only[aV,bq]at h;obtain⟨_,_,rfl⟩:=h;exact g7.refl _
   .cases h
  .split at h
   .simp only[ec,bq]at h;obtain⟨_,_,_,_,rfl⟩:=h;exact g7.refl _
   .cases h
  .cases h
 .split at h
  .split at h
   .split at h
    .unfold A8 at h;rcases aa h with⟨_,h⟩|⟨e,h⟩
     .cases h
     .have a:s.au<bg:=by
       have:Nat.blt s.au bg=W:=by simpa using e
       exact eN this
      split at h
      .split at h
       .simp only[aV,bq]at h;obtain⟨_,_,rfl⟩:=h;exact hU _ _ a
       .split at h
        .split at h
         .simp only[aV,bq]at h;obtain⟨_,_,rfl⟩:=h;exact hU _ _ a
         .simp only[aV,bq]at h;obtain⟨_,_,rfl⟩:=h;exact g7.refl _
        .cases h
       .split at h
        .split at h
         .rcases aa h with⟨_,h⟩|⟨_,h⟩
          .simp only[aV,bq]at h;obtain⟨_,_,rfl⟩:=h;exact qL _ _ _
          .cases h
         .cases h
        .cases h
       .cases h
      .cases h
    .cases h
   .cases h
  .cases h
 .cases h
end
section
section
variable {g:Gh}{w w':World}
variable {s:St}{o b c:Nat}{ob:Ob}{kt:Ty}{u z:Value}{ms:Array MapEntry}
def aU.setObj(hs:aU g s w)(n:g.bG o=Z b){U5:Ob}(l:s.ob.get o=Z ob)(p:ob.odd=W)(v:s.fl<=o){x':Obj}(C:gC g w U5 x')
  (y:w'.heap.size=w.heap.size) (c:∀d,d≠b->w'.heap[d]?=w.heap[d]?) (q:w'.heap[b]?=Z x') (z:w'.os=w.os) (r:w'.output=w.output) :
  aU g {s with ob:=s.ob.set aA o U5} w'∧Ext s.fl g w g w':=by
 have f:br g o b:=⟨(hs.box o b n).1,.inl n⟩;have m:o<bg:=gN (hs.lt n) hs.au;have u:Ext s.fl g w g w':=
  ⟨λ_ _ h=>h,λ_ _ _ h=>h,λ_ h=>h,by omega,λd _ E=>c d (λe=>E o v (e▸f)),λ_ _ h=>.inl h,λ_ h=>.inl h,z,r⟩
 refine⟨⟨hs.au,hs.af,λj d a=>?_,λj e x A=>?_,λd a=>by have:=hs.bf d a;omega,hs.jv⟩,u⟩
 .by_cases i:j=o
  .subst i;rw[n]at a;simp at a;subst a;obtain⟨h1,h2,_⟩:=hs.box j b n;refine⟨h1,by omega,λF k=>⟨x',q,?_⟩⟩;simp only[]at k;rw[Tr.aO _ _ _ _ m,aY rfl]at k;obtain rfl:=ew k;exact C.ext u hs.bf
  .have B:d≠b:=λe=>i (hs.jv j o b (e▸⟨(hs.box j d a).1,.inl a⟩) f);exact(hs.box j d a).ext u hs.bf (c d B) (by simp only[];rw[Tr.aO _ _ _ _ m,bK i]) (hs.box j d a).1
 .have i:j≠o:=by
   rintro rfl
   have h4:=((hs.arr j e x A).2 _ l).mQ;cases ob<;>first|(cases p;done)|(cases h4;done)
  refine(hs.arr j e x A).ext u hs.bf (λd a G=>⟨c d ?_,nU⟩) (by simp only[];rw[Tr.aO _ _ _ _ m,bK i]) rfl
  rintro rfl
  by_cases t:g.bf d
  .exact f.1 t
  .exact i (hs.jv j o d ⟨t,.inr ⟨e,x,_,A,a,rfl,G⟩⟩ f)
def aU.age(hs:aU g s w)(n:g.bG o=Z b)(m:s.ob.get o=Z ob)(p:ob.odd=W)(t:s.fl<=o)
  (u:w'.heap.size=w.heap.size) (c:∀d,d≠b->w'.heap[d]?=w.heap[d]?) (v:w'.os=w.os) (q:w'.output=w.output) :
  aU g {s with ob:=s.ob.del aA o} w'∧Ext s.fl g w g w':=by
 have f:br g o b:=⟨(hs.box o b n).1,.inl n⟩;have y:o<bg:=gN (hs.lt n) hs.au;have cC:∀k,(s.ob.del aA o).get k=if k=o then Y else s.ob.get k:=λk=>Tr.oV _ _ _ _ (by unfold aA;unfold bg at y;omega)
 have z:Ext s.fl g w g w':=
  ⟨λ_ _ h=>h,λ_ _ _ h=>h,λ_ h=>h,by omega,λd _ C=>c d (λe=>C o t (e▸f)),λ_ _ h=>.inl h,λ_ h=>.inl h,v,q⟩
 refine⟨⟨hs.au,hs.af,λj d a=>?_,λj e x A=>?_,λd a=>by have:=hs.bf d a;omega,hs.jv⟩,z⟩
 .by_cases i:j=o
  .subst i;rw[n]at a;simp at a;subst a;obtain⟨h1,h2,_⟩:=hs.box j b n;refine⟨h1,by omega,λE l=>?_⟩;simp only[]at l;rw[cC,aY rfl]at l;cases l
  .have B:d≠b:=λe=>i (hs.jv j o b (e▸⟨(hs.box j d a).1,.inl a⟩) f);exact(hs.box j d a).ext z hs.bf (c d B) (by simp only[];rw[cC,bK i]) (hs.box j d a).1
 .have i:j≠o:=by
   rintro rfl
   have h4:=((hs.arr j e x A).2 _ m).mQ;cases ob<;>first|(cases p;done)|(cases h4;done)
  refine(hs.arr j e x A).ext z hs.bf (λd a F=>⟨c d ?_,nU⟩) (by simp only[];rw[cC,bK i]) rfl
  rintro rfl
  by_cases r:g.bf d
  .exact f.1 r
  .exact i (hs.jv j o d ⟨r,.inr ⟨e,x,_,A,a,rfl,F⟩⟩ f)
def eW:(kt:Ty)->den S.A kt->Value
 | .int k,n=>.int k n
 | .bool,b=>.bool b
 | .str,s=>.string (bD s)
 |_,_=>undef
def gS:Ty->TypeDesc->Prop
 | .int k,d=>d=.int k
 | .bool,d=>d=.bool
 | .str,d=>d=.string
 |_,_=>False
def rq{v:V S}{k:den S.A kt}(h:SU kt v=Z k)(c:aC g w (low v) u):u=eW kt k:=by
 cases kt with
 |int j=>obtain⟨p,b,a⟩:=fB (show kI j v=Z k from h);exact dn b a c
 |bool=>obtain⟨p,b,a⟩:=kg (show o6 v=Z k from h);exact hG b a c
 |str=>obtain⟨p,b,a⟩:=jE (show sK v=Z k from h);exact gE b a c
 |_=>cases h
def V9{k:den S.A kt}{d:TypeDesc}(a:gS kt d)(b:aC g w (en S kt k) u):u=eW kt k:=by
 cases kt with
 |int j=>cases b with|sym _ _ a=>cases a;rfl
 |bool=>cases b with|sym _ _ a=>cases a;rfl
 |str=>cases b with|sym _ _ a=>cases a;rfl
 |_=>cases a
def V8{k:den S.A kt}{d:TypeDesc}(a:gS kt d):aC g w (en S kt k) (eW kt k):=by cases kt with|int j=>exact .sym _ _ (.lit _)|bool=>exact .sym _ _ (.lit _)|str=>exact .sym _ _ (.lit _)|_=>cases a
def Iy{d:TypeDesc}(c:gS kt d)(a b:den S.A kt):Instr.sameNow d (eW kt a) (eW kt b)=Z (Fu kt a b):=by
 cases kt with
 |int j=>cases c;simp[Instr.sameNow,eW,Fu,D.aH]
 |bool=>cases c;simp[Instr.sameNow,eW,Fu,D.beq]
 |str=>cases c;have:=yw a b;simp only[D.seq]at this;simp[Instr.sameNow,eW,Fu,<-this]
 |_=>cases c
def Gz{d:TypeDesc}(c:gS kt d){a b:den S.A kt}(h:Fu kt a b=W)(n:Nat):Instr.sameBits n (eW kt b) (eW kt a)=W:=by
 cases kt with
 |int j=>
  have:a=b:=by simpa[Fu,D.aH]using h
  subst this;cases n<;>simp[Instr.sameBits,eW]
 |bool=>
  have:a=b:=by simpa[Fu,D.beq]using h
  subst this;cases n<;>simp[Instr.sameBits,eW]
 |str=>
  have:a=b:=by simpa[Fu,fO]using h
  subst this;have e:(bD a==bD a)=W:=by have:=yw a a;simp only[D.seq]at this;rw[this];simp[fO]
  cases n<;>simp[Instr.sameBits,eW,e]
 |_=>cases c
def DV{A:Nat->Type}{β:Type}(kt:Ty)(k:den A kt):L (den A kt×β)->O Nat
 |[]=>Y
 |p::l=>bif Fu kt k p.1 then Z 0 else(DV kt k l).map Nat.succ
def CC{β:Type}{kt:Ty}{k:den S.A kt}:∀{l:L (den S.A kt×β)},DV kt k l=Y->(∀z,Ct kt z k l=z)∧yT kt k l=J∧∀x,lz kt k x l=l++[(k,x)]
 |[],_=>⟨λ_=>rfl,rfl,λ_=>rfl⟩
 |p::l,h=>by
  simp only[DV]at h;cases a:Fu kt k p.1 with
  |true=>rw[a]at h;cases h
  |false=>rw[a]at h;obtain⟨h1,h2,h3⟩:=CC (l:=l) (by simpa using h);exact⟨λz=>by simp[Ct,a,h1],by simp[yT,a,h2],λx=>by simp[lz,a,h3]⟩
def xk{β:Type}{kt:Ty}{k:den S.A kt}:∀{l:L (den S.A kt×β)}{j:Nat},DV kt k l=Z j->∃p,l[j]?=Z p∧Fu kt k p.1=W∧(∀z,Ct kt z k l=p.2)∧yT kt k l=W∧∀x,lz kt k x l=l.set j (k,x)
 |[],j,h=>by cases h
 |p::l,j,h=>by simp only[DV]at h;cases a:Fu kt k p.1 with|true=>rw[a]at h;simp only[cn,aV]at h;subst h;exact⟨p,rfl,a,λz=>by simp[Ct,a],by simp[yT,a],λx=>by simp[lz,a]⟩|false=>rw[a]at h;simp only[cM,ec]at h;obtain⟨i,b,rfl⟩:=h;obtain⟨q,h1,h2,h3,h4,h5⟩:=xk b;exact⟨q,by simpa using h1,h2,λz=>by simp[Ct,a,h3],by simp[yT,a,h4],λx=>by simp[lz,a,h5]⟩
def u7{β:Type}{kt:Ty}{d:TypeDesc}(b:gS kt d)(k:den S.A kt):∀(l:L (den S.A kt×β))(es:L MapEntry)(i:Nat),es.length=l.length->
  (∀(j:Nat)p m,l[j]?=Z p->es[j]?=Z m->m.key=eW kt p.1)->Instr.findNow d (eW kt k) es i=Z ((DV kt k l).bind λj=>(es[j]?).map λm=>(i+j,m.val))
 |[],[],i,_,_=>rfl
 |p::l,m::es,i,a,c=>by
  simp only[Instr.findNow,c 0 p m rfl rfl,Iy b];cases e:Fu kt k p.1 with
  |true=>simp[DV,e]
  |false=>
   simp only;rw[u7 b k l es (i+1) (by simpa using a) (λj f g h1 h2=>c (j+1) f g (by simpa using h1) (by simpa using h2))];simp only[DV,e,cM];cases DV kt k l with
   |none=>rfl
   |some j=>
    simp only[dG,GJ,Nat.succ_eq_add_one,List.getElem?_cons_succ,aV]
    congr 1
    funext m
    rw[Nat.add_assoc,Nat.add_comm 1 j]
 |[],_::_,_,a,_=>by simp at a
 |_::_,[],_,a,_=>by simp at a
variable {P:Program}
def Eg{d:TypeDesc}(a:gS kt d){t:TypeId}(c:P.underlying t=Z d)(b:Bool)(n:Nat)(v:Value)(w:World):(Instr.checkKey b (n+1) t v).run P w=.ok () w:=by
 cases kt with
 |int j=>cases a;simp[Instr.checkKey,aI c]
 |bool=>cases a;simp[Instr.checkKey,aI c]
 |str=>cases a;simp[Instr.checkKey,aI c]
 |_=>cases a
def run_checkKey{d:TypeDesc}(a:gS kt d){t:TypeId}(c:P.underlying t=Z d)(b:Bool)(v:Value)(w:World):(Instr.checkKey b 10000 t v).run P w=.ok () w:=
 Eg a c b 9999 v w
def run_findKey{β:Type}{d:TypeDesc}(a:gS kt d){t:TypeId}(b:P.underlying t=Z d)(k:den S.A kt){l:L (den S.A kt×β)}{es:L MapEntry}(hl:es.length=l.length)
  (c:∀(j:Nat)p m,l[j]?=Z p->es[j]?=Z m->m.key=eW kt p.1) (w:World) :
  (Instr.findKey t (eW kt k) es).run P w=.ok ((DV kt k l).bind λj=>(es[j]?).map λm=>(j,m.val)) w:=by
 have:=u7 a k l es 0 hl c;simp only[lY]at this;simp[Instr.findKey,aI b,this]
def qO(h:w.heap[b]?=Z (.map ms c)):(getObj b).run P w=.ok (.map ms c) w:=by simp[getObj,Sem.run,h]
def Bv(o:Obj)(h:w.heap[b]?=Z (.map ms c)):(setObj b o).run P w=.ok () {w with heap:=w.heap.setIfInBounds b o}:=by simp[setObj,Sem.run,h]
def Bx{β:Type}{d:TypeDesc}(f:gS kt d){t a e:TypeId}{g:TypeInfo}(r:P.underlying t=Z (.map a e))(i:P.underlying a=Z d)(n:P.info? e=Z g)(o:g.zero=Z z)
  (k:den S.A kt) {l:L (den S.A kt×β)} {b c:Nat} {ms:Array MapEntry} (h:w.heap[b]?=Z (.map ms c)) (hl:l.length=ms.size) (s:∀(j:Nat)p m,l[j]?=Z p->ms[j]?=Z m->m.key=eW kt p.1) (ok:Bool) :
  (Instr.lookup t (.map (Z b)) (eW kt k) ok).run P w=.ok (match(DV kt k l).bind λj=>(ms[j]?).map (·.val)with
   |some v=>if ok then .tuple #[v,.bool W]else v
   |none=>if ok then .tuple #[z,.bool J]else z) w:=by
 have u:=run_findKey (P:=P) f i k (l:=l) (es:=ms.toList) (by simpa using hl.symm) (λj p m h1 h2=>s j p m h1 (by simpa using h2)) w;simp only[Instr.lookup,Sem.run_bind,aI r,Result.andThen_ok,qO h,run_checkKey f i,u,Sem.run_pure];cases x:DV kt k l with
 |none=>simp[dQ n o]
 |some j=>
  cases q:ms[j]? with|none=>simp[q,dQ n o]|some m=>simp[q]
def Bw{d:TypeDesc}(b:gS kt d){t a e:TypeId}{c:TypeInfo}(h:P.underlying t=Z (.map a e))(f:P.underlying a=Z d)(i:P.info? e=Z c)(n:c.zero=Z z)
  (k:den S.A kt) (ok:Bool):(Instr.lookup t (.map Y) (eW kt k) ok).run P w=.ok (if ok then .tuple #[z,.bool J]else z) w:=by
 have g:=run_findKey (P:=P) (β:=U) b f k (l:=[]) (es:=[]) rfl (λj p m h1=>by simp at h1) w;simp only[Instr.lookup,Sem.run_bind,aI h,Result.andThen_ok,run_checkKey b f,Sem.run_pure];simp only[DV,Ny]at g;simp[g,dQ i n]
end
end
section
section
variable {g:Gh}{w w':World}{P:Program}
def Ku{β:Type}(kt:Ty)(R:β->Value->Prop)(l:L (den S.A kt×β))(ms:Array MapEntry):Prop:=
 l.length=ms.size∧∀(j:Nat)p m,l[j]?=Z p->ms[j]?=Z m->m.key=eW kt p.1∧R p.2 m.val
variable {kt Zg:Ty}{ms:Array MapEntry}
def uT{β:Type}{R:β->Value->Prop}{d:TypeDesc}(u:gS kt d){t g e:TypeId}(K:P.underlying t=Z (.map g e))(B:P.underlying g=Z d)
  (k:den S.A kt) {l:L (den S.A kt×β)} {b c:Nat} {ms:Array MapEntry} (h:w.heap[b]?=Z (.map ms c)) (hr:Ku kt R l ms) {x:β} {v:Value} (M:R x v) :
  ∃o c',(Instr.mapUpdate t (.map (Z b)) (eW kt k) v).run P w=.ok () {w with heap:=w.heap.setIfInBounds b (.map o c')}∧Ku kt R (lz kt k x l) o:=by
 obtain⟨r,y⟩:=hr;have z:=run_findKey (P:=P) u B k (l:=l) (es:=ms.toList) (by simpa using r.symm) (λj p m h1 h2=>(y j p m h1 (by simpa using h2)).1) w;cases f:DV kt k l with
 |none=>
  obtain⟨_,_,a⟩:=CC f;rw[f]at z;refine⟨ms.push {key:=eW kt k,val:=v,born:=c},c+1,?_,by rw[a];simp[r],λj p m h1 h2=>?_⟩
  .simp only[Instr.mapUpdate,Sem.run_bind,aI K,Result.andThen_ok,qO h,run_checkKey u B,z,Ny,Bv _ h]
  .rw[a,kR]at h1;rw[NF]at h2;by_cases Q:j<l.length
   .rw[aY Q]at h1;rw[bK (by omega)]at h2;exact y j p m h1 h2
   .rw[bK Q]at h1;have C:j=l.length:=by have:=ax h1;simp at this;omega
    subst C;simp at h1;rw[aY r]at h2;cases h2;subst h1;exact⟨rfl,M⟩
 |some i=>
  obtain⟨p,X,E,_,_,a⟩:=xk f;rw[f]at z;have hi:i<ms.size:=by rw[<-r];exact ax X
  obtain⟨m,A⟩:∃m,ms[i]?=Z m:=⟨ms[i],nT hi⟩;have F:=(y i p m X A).1;have G:(Instr.findKey g (eW kt k) ms.toList).run P w=.ok (Z (i,m.val)) w:=by rw[z];simp[A]
  refine⟨ms.modify i λe=>{e with key:=eW kt k,val:=v},c,?_,by rw[a];simp[r],λj q n h1 h2=>?_⟩
  .have H:Instr.sameBits 10000 m.key (eW kt k)=W:=by rw[F];exact Gz u E 10000
   have I:(Instr.keyThatStays m.key (eW kt k)).run P w=.ok (eW kt k) w:=by simp only[Instr.keyThatStays,H,qg,Sem.run_pure]
   simp only[Instr.mapUpdate,Sem.run_bind,aI K,Result.andThen_ok,qO h,run_checkKey u B,G,A,dG,Aq,I,Bv _ h]
  .rw[a,GK]at h1;rw[Array.getElem?_modify]at h2;by_cases s:i=j
   .subst s;rw[aY rfl,aY (by omega)]at h1;rw[aY rfl,A]at h2;cases h1;cases h2;exact⟨rfl,M⟩
   .rw[bK s]at h1 h2;exact y j q n h1 h2
def gC.No{β:Type}{d:TypeDesc}(a:gS kt d){f:β->T}{l:L (den S.A kt×β)}{x:Obj}(h:gC g w (.map (l.map λp=>(en S kt p.1,f p.2))) x) :
  ∃ms c,x=.map ms c∧Ku kt (λy v=>aC g w (f y) v) l ms:=by
 cases h with|map _ ms c b e=>refine⟨ms,c,rfl,by simpa using b,λj p m h1 h2=>?_⟩;have:=e j (en S kt p.1,f p.2) m (by simp[h1]) h2;exact⟨V9 a this.1,this.2⟩
def Ku.ob{β:Type}{d:TypeDesc}(a:gS kt d){f:β->T}{l:L (den S.A kt×β)}(h:Ku kt (λy v=>aC g w (f y) v) l ms)(c:Nat):gC g w (.map (l.map λp=>(en S kt p.1,f p.2))) (.map ms c):=by refine .map _ ms c (by simpa using h.1) λj t m h1 h2=>?_;simp only[gj,ec]at h1;obtain⟨p,b,rfl⟩:=h1;obtain⟨h3,h4⟩:=h.2 j p m b h2;rw[h3];exact⟨V8 a,h4⟩
def MJ(S:Sg)(i:TI)(τ:Ty):Prop:=bif iK τ then D.agg i.zero=enc S τ (S.zero τ)else i.zero=[enc S τ (S.zero τ)]
def EL{I:Nat->Prop}(s:eR S){t:TypeId}{i:TI}(u:mw P t i){τ:Ty}(d:vz S i τ)(f:MJ S i τ){x:TypeInfo}{z:Value}(y:P.info? t=Z x)(g:x.zero=Z z):dM I w (enc S τ (S.zero τ)) z:=by
 obtain⟨E,d0,F,h,G,_,B,l,a,_⟩:=u.all;rw[y]at h;cases h;rw[g]at l;cases l;obtain⟨p,q⟩:=u.zag x z y g;unfold MJ at f;cases b:iK τ with
 |true=>
  rw[b,cn]at f;have m:i.agg=W:=by cases τ with|st n=>exact d.1|_=>cases b
  obtain⟨C,rfl⟩:=p m;have a:ZOk i.zero C:=a;rw[<-f];refine .agg _ _ a.1 (λc A=>?_) (λj c v h1 h2=>yo (a.2 j c v h1 h2));cases τ with
  |st n=>
   have e:i.zero=S.cells n (S.zero (.st n)):=by have:D.agg i.zero=D.agg (S.cells n (S.zero (.st n))):=f;injection this
   rw[e,s.cells]at A;exact gu _ _ (s.leaf n) c A
  |_=>cases b
 |false=>
  rw[b,cM]at f;have o:i.agg=J:=by
   cases τ with
   |st n=>cases b
   |sl e=>exact d.2.1
   |int k=>exact d.2.1
   |bool=>exact d.2.1
   |str=>exact d.2.1
   |cE n=>exact d.2.1
  have r:=q o;have:=a.2 0 _ z (by rw[f];rfl) (by rw[r];rfl);exact yo this
structure XOk(S:Sg)(E:fX):Prop where
 zr:∀t i τ,E.E.ti t=Z i->E.ty t=Z τ->MJ S i τ
 mt:∀t m,E.mt t=Z m->∃Zh d,E.E.P.underlying t=Z (.map Zh m.el)∧E.E.P.underlying Zh=Z d∧gS m.kt d∧(∃x z,E.E.P.info? m.el=Z x∧x.zero=Z z)∧
  ∀vt,m.vt=Z vt->E.ty m.el=Z vt∧∃i,E.E.ti m.el=Z i
 GV:∀t nm f,E.GV t nm=Z f->∃x mm d,E.E.P.info? t=Z x∧x.methods.find? (·.name==nm)=Z mm∧mm.path=#[]∧E.E.P.underlying t=Z d∧
  ((mm.func=Z (f,J)∧∀e,d≠.pointer e)∨(mm.func=Z (f,W)∧∃e,d=.pointer e))
def cL{fr:bI S}{a:Act}(hf:cg g (bh fr) a w){x:Operand}{v:V S}(h:bT fr x=Z v):aC g w (low v) (a.eval x):=bE hf (bP h)
def J3{b a:Ty}{l:L (den S.A kt×den S.A b)}{c:L (den S.A Zg×den S.A a)}(h:Ac kt b Zg a l=Z c):kt=Zg∧b=a∧HEq l c:=by
 unfold Ac at h;split at h
 .rename_i h1;split at h
  .rename_i h2;have d:=fq h1;have e:=fq h2;subst d;subst e;simp only[aV]at h;exact⟨rfl,rfl,heq_of_eq h⟩
  .cases h
 .cases h
def J4{β:Type}{l:L (den S.A kt×β)}{a:L (den S.A Zg×β)}(h:J5 kt Zg l=Z a):kt=Zg∧HEq l a:=by
 unfold J5 at h;split at h
 .rename_i h1;have b:=fq h1;subst b;simp only[aV]at h;exact⟨rfl,heq_of_eq h⟩
 .cases h
def Gw{w:World}{b:Nat}(x:Obj)(d:b<w.heap.size):({w with heap:=w.heap.setIfInBounds b x}:World).heap.size=w.heap.size∧(∀a,a≠b->({w with heap:=w.heap.setIfInBounds b x}:World).heap[a]?=w.heap[a]?)∧
  ({w with heap:=w.heap.setIfInBounds b x}:World).heap[b]?=Z x:=by
 refine⟨by simp,λa c=>?_,?_⟩
 .simp[Sf (Ne.symm c)]
 .simp[d]
def LD{β:Type}{f:β->T}{k:den S.A kt}{l:L (den S.A kt×β)}(b:Ku kt (λy v=>aC g w (f y) v) l ms){z:β}{c:Value}(h:aC g w (f z) c) :
  aC g w (f (Ct kt z k l)) (((DV kt k l).bind λj=>(ms[j]?).map (·.val)).getD c)∧(((DV kt k l).bind λj=>(ms[j]?).map (·.val)).isSome=yT kt k l):=by
 cases a:DV kt k l with
 |none=>obtain⟨h1,h2,_⟩:=CC a;rw[h1,h2];exact⟨h,rfl⟩
 |some j=>
  obtain⟨p,d,_,h1,h2,_⟩:=xk a;rw[h1,h2];have i:j<ms.size:=by rw[<-b.1];exact ax d
  have e:ms[j]?=Z ms[j]:=nT i;simp only[GJ,e,dG,Aq,Option.isSome_some,and_true];exact(b.2 j p _ d e).2
end
end
section
def y6:∀(l:L (TypeId×Ty))(x:uI S.A l),isNil l x=(rG S l x).isNone
 |[],_=>rfl
 |_::_,.inl _=>rfl
 |_::l,.inr y=>y6 l y
def CX:∀(l:L (TypeId×Ty))(t:TypeId)(j:Nat)(x:uI S.A l)(z:(t:Ty)->den S.A t),Kj l=W->oA l t=Z j->
  (g9 l j x=W∧rG S l x=Z (t,enc S (kV l j) (iX z l j x)))∨(g9 l j x=J∧iX z l j x=z (kV l j)∧∀d,rG S l x≠Z (t,d))
 |[],t,j,x,z,_,h=>by cases h
 |p::l,t,j,x,z,f,h=>by
  simp only[Kj,dI]at f;simp only[oA]at h;rcases aa h with⟨b,h⟩|⟨b,h⟩
  .simp only[aV]at h;subst h;have c:=mV b;cases x with
   |inl y=>left;exact⟨rfl,by simp only[rG,c];rfl⟩
   |inr y=>
    right
    refine⟨rfl,rfl,λd e=>?_⟩;simp only[rG]at e;have g:oA l p.1=Y:=by cases k:oA l p.1 with|none=>rfl|some i=>rw[k]at f;simp at f
    exact y5 l y p.1 g d (by rw[c];exact e)
  .split at h
   .rename_i i m;simp only[aV]at h;subst h;cases x with
    |inl y=>
     right
     refine⟨rfl,rfl,λd e=>?_⟩;simp only[rG,aV,bq]at e;rw[e.1]at b;simp at b
    |inr y=>
     rcases CX l t i y z f.2 m with⟨h1,h2⟩|⟨h1,h2,h3⟩
     .exact .inl ⟨h1,h2⟩
     .exact .inr ⟨h1,h2,h3⟩
   .cases h
where
 y5:∀(l:L (TypeId×Ty))(x:uI S.A l)(t:TypeId),oA l t=Y->∀d,rG S l x≠Z (t,d)
  |[],_,_,_,_,h=>by cases h
  |p::l,.inl y,t,a,d,h=>by simp only[oA]at a;simp only[rG,aV,bq]at h;rw[h.1]at a;simp at a
  |p::l,.inr y,t,a,d,h=>by
   simp only[oA]at a;cases b:Nat.beq p.1 t with
   |true=>rw[b]at a;cases a
   |false=>
    rw[b]at a;refine y5 l y t ?_ d h;cases k:oA l t with|none=>rfl|some i=>rw[k]at a;cases a
section
variable {g:Gh}{w:World}{P:Program}
def A0(e:eR S){n:Nat}{x:S.A n}{v:Value}(h:aC g w (en S (.cE n) x) v) :
  (rG S (S.alts n) (S.rz n x)=Y∧v=.nilIface)∨∃t d u,rG S (S.alts n) (S.rz n x)=Z (t,d)∧v=.iface t u∧dM g.bf w d u:=by
 have b:aC g w (.sym (KO (S.oU n x))) v:=h;rw[e.oU]at b;cases b with
 |sym _ _ a=>
  cases c:rG S (S.alts n) (S.rz n x)with
  |none=>rw[c]at a;cases a;exact .inl ⟨rfl,rfl⟩
  |some p=>
   rw[c]at a;obtain⟨t,d⟩:=p;cases a with|cE _ _ u f=>exact .inr ⟨t,d,u,rfl,rfl,f⟩
variable {s:aW S}
def GX(hs:aU g (aq s) w)(hn:s.au<bg){t:TypeId}{r:O Value}{a el:TypeId}(d:P.underlying t=Z (.map a el))(e:∀v,r=Z v->∃k n,v=.int k n){ob:sj S}(b:cz ob=.map []) :
  ∃v w' g',(Instr.makeMap t r).run P w=.ok v w'∧aC g' w' (low (.mp s.au:V S)) v∧cr [] s g w (cJ s ob) g' w':=by
 obtain⟨c,f⟩:=hs.newObj (ob0:=.map []) (x0:=.map #[] 0) hn (.map [] #[] 0 rfl (λj t m h=>by simp at h));refine⟨.map (Z w.heap.size),_,_,?_,.mp _ _ (by simp[Gh.cU,aq]),cr.j5 hs (by rw[fU,b];exact c) f rfl rfl (zC _) (hU s ob hn)⟩;cases r with|none=>simp[Instr.makeMap]|some v=>obtain⟨k,n,rfl⟩:=e v rfl;simp[Instr.makeMap,aI d,asInt,asIntOf]
def Li(hs:aU g (aq s) w)(hn:s.au<bg){t:TypeId}(c:P.underlying t=Z .string)(b:L UInt8) :
  ∃v w' g',(Instr.range t (.string (bD b))).run P w=.ok v w'∧aC g' w' (low (.qF s.au:V S)) v∧cr [] s g w (cJ s (.oG b 0)) g' w':=by
 obtain⟨a,d⟩:=hs.newObj (ob0:=.oG (bD b) 0) (x0:=.stringIter (bD b) 0) hn (.oG _ _);refine⟨.pointer (Z ⟨w.heap.size,0,Y⟩),_,_,?_,.qF _ _ (by simp[Gh.cU,aq]),cr.j5 hs (by rw[fU];exact a) d rfl rfl (zC _) (hU s _ hn)⟩;simp[Instr.range,aI c]
def Cr(hS:eR S)(hs:aU g (aq s) w)(hn:s.au<bg){t:TypeId}{i:TI}(hi:mw P t i){e:Ty}(hr:vz S i (.sl e)){n:Int}(u:VW n=W)(R X:IntKind) :
  ∃v w' g',(Instr.makeSlice t (.int R n) (.int X n)).run P w=.ok v w'∧aC g' w' (low (.sh s.au 0:V S)) v∧cr [] s g w (cJ s (.arr e (List.replicate (ai n) (S.zero e)) 0)) g' w':=by
 obtain⟨⟨z,y,p⟩,_,_,A⟩:=hr;obtain⟨xi,d1,z1,LS,B,_,XZ,Zt,xm,hk⟩:=hi.all;rw[y]at hk;obtain⟨el,j,d',r,rfl,hj,q,hju,aab,C,l,E,hj0,hjb1,hjb2,hjb3,F⟩:=hk;simp only[VW,dI,kj]at u;obtain⟨m,rfl⟩:∃m:Nat,n=(m:Int):=⟨n.toNat,by omega⟩;have hm:m<=17179869184:=by omega
 have hbm:j.bytes*m<=4096*17179869184:=Nat.mul_le_mul E hm;have k:=run_make (P:=P) w t el j r B hj C R X (m:Int) (m:Int) (by omega) (Int.le_refl _) (by
  have:((j.bytes*m:Nat):Int)<=281474976710656:=by omega
  rwa [Int.natCast_mul]at this) (by omega)
 simp only[NC]at k;have G:(bif iK e then D.agg z else z.getD 0 default)=enc S e (S.zero e):=by cases f:iK e with|true=>rw[f]at p;exact p|false=>rw[f]at p;simp only[cM]at p;rw[p];rfl
 have a:=Ik (I:=g.bf) (w:=w.alloc (.cells (madeCells r.cells (m*j.size)) el)) (ag:=iK e) (sz:=S.width e) (len:=m) l (by
  cases f:iK e with
  |true=>rfl
  |false=>
   have:S.width e=1:=by cases e<;>first|rfl|cases f
   rw[this];rfl) (by rw[bA];exact F)
 rw[G]at a;have H:(List.replicate m (S.zero e)).map (enc S e)=List.replicate m (enc S e (S.zero e)):=by simp
 let x:eX:=⟨Z ⟨w.heap.size,0,Y⟩,m,m,S.width e⟩
 have K:∀b,x.at b->b=w.heap.size:=by
  rintro b ⟨ad,h1,h2,_⟩
  have:ad=⟨w.heap.size,0,Y⟩:=(ew h1).symm;rw[this]at h2;exact h2.symm
 have o:¬g.bf w.heap.size:=λh=>by have:=hs.bf _ h;omega
 obtain⟨M,he⟩:=aU.Lx (w':=w.alloc (.cells (madeCells r.cells (m*j.size)) el)) hs hn (sz:=S.width e) (es:=List.replicate m (enc S e (S.zero e))) (x:=x) rfl rfl (by simp) (λb N=>nF w _ b N)
  (λb N=>by rw[K b N];simp)
  ⟨by simp[x],bS _,a.rows,A,λd hd=>by
    have Q:=Sb hd;rw[Q,y4 hS,List.length_replicate];show m*tE S e<=_;have:m*tE S e<=17179869184*(2*4096):=Nat.mul_le_mul hm (by omega);omega,λh=>by
    have:m=0:=by cases m with|zero=>rfl|succ m=>simp[List.replicate_succ]at h
    exact this,λhc=>by
    refine⟨w.heap.size,madeCells r.cells (m*j.size),el,rfl,⟨λh=>(by cases h),λh=>absurd h o⟩,uy w _,by rw[size_madeCells,q];exact bS _,λi d jj c h1 h2=>?_⟩;obtain⟨v,h3,h4⟩:=a.rel i jj d c h1 h2;refine⟨v,?_,h4⟩;rw[<-q]at h3 ⊢;exact h3⟩ rfl
 refine⟨_,_,_,k,.sh _ _ _ _ (S.width e) _ (Gh.e9 _ _ _ _),cr.j5 hs ?_ he rfl rfl (zC _) (hU s _ hn)⟩;rw[fU];simp only[cz,ai,NC,H];exact M
end
end
section
section
variable {g:Gh}{w:World}
variable {o:Nat}{v:Value}{P:Program}{i:TI}{s s':aW S}{E:fX}{fr:bI S}{a:Act}{c:Bool}{t:V S}
def aC.Ho(h:aC g w (.mp o) v):∃b,v=.map (Z b)∧g.bG o=Z b:=by cases h;exact⟨_,rfl,by assumption⟩
def aC.Wl(h:aC g w (.qF o) v):∃b,v=.pointer (Z ⟨b,0,Y⟩)∧g.bG o=Z b:=by cases h;exact⟨_,rfl,by assumption⟩
def aC.Zr{k:IntKind}{n:Int}(h:aC g w (.kn k n) v):v=.int k n:=by cases h;rfl
def aC.Hp{u:Value}(h:aC g w (.sym (.lit u)) v):v=u:=by cases h with|sym _ _ a=>cases a;rfl
def aC.N1{cs:L T}(h:aC g w (.agg cs) v):∃vs,v=.agg vs∧PW (aC g w) cs vs.toList:=by cases h with|agg _ vs a b=>exact⟨vs,rfl,by simpa using a,λj t v h1 h2=>b j t v h1 (by simpa using h2)⟩
def EW(P:Program)(d:Nat){ty:TypeId}{a:Array (String×TypeId)}(b:P.underlying ty=Z (.interface a)):(Op.equalIn (d+1) ty .nilIface .nilIface).run P w=.ok W w:=by simp only[Op.equalIn,Sem.run_bind,aI b,Result.andThen_ok];rfl
def Pa(P:Program)(d:Nat){ty e:TypeId}(b:P.underlying ty=Z (.slice e))(a:O Addr)(n m:Nat):(Op.equalIn (d+1) ty (.slice a n m) (.slice Y 0 0)).run P w=.ok a.isNone w:=by simp only[Op.equalIn,Sem.run_bind,aI b,Result.andThen_ok];cases a<;>rfl
def N4(f:eR S){t:TypeId}(j:mw P t i)(k:i.kd=.iface){n:Nat}{x:S.A n}(h:aC g w (en S (.cE n) x) v)(a:Operand) :
  ((do eqGuard .eql t a (.const .nilIface) v .nilIface;binOp .eql t v .nilIface:Sem Value)).run P w=.ok (.bool (isNil (S.alts n) (S.rz n x))) w∧
  ((do eqGuard .neq t a (.const .nilIface) v .nilIface;binOp .neq t v .nilIface:Sem Value)).run P w=.ok (.bool (!(isNil (S.alts n) (S.rz n x)))) w:=by
 obtain⟨_,d0,_,_,e,_,_,_,_,b⟩:=j.all;rw[k]at b;obtain⟨m,rfl⟩:=b;rw[y6];rcases A0 f h with⟨c,rfl⟩|⟨l,d,u,c,rfl,_⟩
 .rw[c];refine mU a (.const .nilIface) rfl rfl (λop=>?_) (EW P 9999 e);unfold eqGuard;cases op<;>cases a<;>rfl
 .rw[c];refine mU a (.const .nilIface) rfl rfl (λop=>?_) (EX 9999 e l u);unfold eqGuard;cases op<;>rfl
def NW{t:TypeId}(c:mw P t i)(d:i.kd=.iface)(h:aC g w (.sym (.lit .nilIface)) v)(b:Operand) :
  ((do eqGuard .eql t b (.const .nilIface) v .nilIface;binOp .eql t v .nilIface:Sem Value)).run P w=.ok (.bool W) w∧
  ((do eqGuard .neq t b (.const .nilIface) v .nilIface;binOp .neq t v .nilIface:Sem Value)).run P w=.ok (.bool J) w:=by
 obtain⟨_,d0,_,_,e,_,_,_,_,a⟩:=c.all;rw[d]at a;obtain⟨f,rfl⟩:=a;cases h with
 |sym _ _ h=>
 cases h;refine mU b (.const .nilIface) rfl rfl (λop=>?_) (EW P 9999 e);unfold eqGuard;cases op<;>cases b<;>rfl
def YJ{t:TypeId}(d:mw P t i){sz pZ:Nat}{ag:Bool}{z:L D}(e:i.kd=.slice sz ag pZ z)(a:O Addr)(n m:Nat)(c:Operand) :
  ((do eqGuard .eql t c (.const (.slice Y 0 0)) (.slice a n m) (.slice Y 0 0);binOp .eql t (.slice a n m) (.slice Y 0 0):Sem Value)).run P w=.ok (.bool a.isNone) w:=by
 obtain⟨_,d0,_,_,f,_,_,_,_,b⟩:=d.all;rw[e]at b;obtain⟨el,j,g,h,rfl,_⟩:=b;refine(mU c (.const (.slice Y 0 0)) rfl rfl (λop=>?_) (Pa P 9999 f a n m)).1;unfold eqGuard;cases op<;>rfl
def YK(hs:aU g (aq s) w){e:Ty}{x:V S}{l:L (den S.A e)}(h:Gt s e x=Z l)(u:aC g w (low x) v):∃a n m,v=.slice a n m∧(a.isNone=W->U8 l=W):=by
 unfold Gt at h;split at h
 .simp only[aV]at h;subst h;cases u with|emp a=>exact⟨a,0,0,rfl,λ_=>rfl⟩
 .rename_i t F;obtain⟨rfl,p⟩:=eH h;cases p;cases u with
  |ja n P a hn z=>
   refine⟨a,_,_,rfl,λf=>?_⟩;cases z with
   |sl _ _ _ sz val A G H I K=>
   cases F with|nil=>rfl|cons y F=>obtain⟨N,h1,_⟩:=I (by simp);rw[h1]at f;cases f
 .obtain ⟨i,p⟩:=eH h;cases i;cases p;cases u with|nk j d c a hj z=>refine⟨a,_,_,rfl,λf=>?_⟩;obtain⟨a',cap,Q,_,_,R⟩:=uv z;cases Q;obtain⟨N,_,h1,_⟩:=R (by simp);rw[h1]at f;cases f
 .rename_i t X;obtain⟨i,p⟩:=eH h;subst i;cases p;cases u with
  |sym _ _ z=>
   cases z with
   |sl _ a cap sz val A G H I K=>
   refine⟨a,_,_,rfl,λf=>?_⟩;cases X with|nil=>rfl|cons y F=>obtain⟨N,h1,_⟩:=I (by simp);rw[h1]at f;cases f
 .rename_i o r;have key:∀(E:Bool)(t:Ty)(k:L (den S.A t))(era:Nat),s.ob.get o=Z (if E then .jC t k era else .arr t k era)->(bif Nat.beq r era then mu t e k else Y)=Z l->∃a n m,v=.slice a n m∧(a.isNone=W->U8 l=W):=by
   intro E t k era B h;rcases aa h with⟨hb,h⟩|⟨_,h⟩
   .obtain ⟨i,p⟩:=eH h;subst i;cases p;have M:=beq_iff'.1 hb;subst M;cases u with
    |sh _ _ len cap sz a hx=>
     have C:(aq s).ob.get o=Z (fc E (S.width t) (k.map (enc S t)) r):=by rw[aE,B];cases E<;>rfl
     obtain⟨q,_⟩:=hs.mJ C hx;refine⟨a,len,cap,rfl,λf=>?_⟩;cases k with
     |nil=>rfl
     |cons y k=>
      have h1:=q.len;have h2:=q.cap;simp only[jh,gi]at h1 h2;have K:(⟨a,len,cap,sz⟩:eX).cap≠0:=by simp only;omega
      obtain⟨b,vs,ty,h3,_⟩:=q.mem K;simp only at h3;rw[h3]at f;cases f
   .cases h
  split at h
  .rename_i t k era B;exact key J t k era B h
  .rename_i t k era B;exact key W t k era B h
  .cases h
 .cases h
def Fl(hX:XOk S E)(hS:eR S)(hf:cg g (bh fr) a w)(hs:aU g (aq s) w)(o:Oper){ty:TypeId}{x ix y:Operand}(B:o.op=.mapUpdate ty x ix y∨o.op=.insert ty x ix y)
  (h:(match E.mt ty,bT fr x,bT fr ix,bT fr y with
  |some m,Z (.mp o),Z k,Z y=>match SU m.kt k,s.ob.get o with
   |some k,Z (.map kt q l)=>match Ac kt q m.kt q l,bH s q y with
    |some l,Z (y,os)=>match cY s os with
     |some s1=>bif Nat.ble s.fl o&&Vj m.vt q then Z (W,(lU:V S),{s1 with ob:=s1.ob.set aA o (.map m.kt q (lz m.kt k y l)),wr:=o::s1.wr})else Y
     |none=>Y
    |_,_=>Y
   |some k,Z (.DT kt l)=>match J5 kt m.kt l with
    |some l=>bif Nat.ble s.fl o then Z (W,lU,{s with ob:=s.ob.set aA o (.DT m.kt (lz m.kt k y l)),wr:=o::s.wr})else Y
    |none=>Y
   |_,_=>Y
  |_,_,_,_=>Y)=Z (c,t,s')) :
  ∃v w' g',((execOp a.eval o).run E.E.P w=.ok (.value v) w'∨((execOp a.eval o).run E.E.P w=.ok .skip w'∧v=undef))∧aC g' w' (low t) v∧cr [] s g w s' g' w':=by
 split at h;rotate_left
 .cases h
 rename_i m e kv yv hm hx hk hy;obtain⟨Zh,d,ht,hu,n,_,_⟩:=hX.mt _ _ hm;obtain⟨b,S8,hb⟩:=aC.Ho (cL hf hx);have j:∀w',(Instr.mapUpdate ty (a.eval x) (a.eval ix) (a.eval y)).run E.E.P w=.ok () w'->(execOp a.eval o).run E.E.P w=.ok .skip w':=by intro w' hr;rcases B with B|B<;>simp[execOp,B,hr]
 split at h
 .rename_i k kt q l r C;have I:=rq r (cL hf hk);split at h;rotate_left
  .cases h
  rename_i l' y' os hcm Jv;obtain⟨rfl,_,K⟩:=J3 hcm;cases K;split at h;rotate_left
  .cases h
  rename_i s1 M;rcases aa h with⟨F,G⟩|⟨_,G⟩;rotate_left
  .cases G
  clear h;simp only[aV,bq]at G;obtain⟨_,rfl,rfl⟩:=G;rw[dI]at F;have hfl:s.fl<=e:=eN F.1;obtain⟨p,hp,Wv⟩:=nH hS s q yv Jv;obtain⟨u,hd⟩:=j3 hs _ hp Wv (cL hf hy);obtain⟨g1,H,N,hfr⟩:=dV os hs (cP hS _ M) u;have hyd:=hd g1 _ H N hfr;obtain⟨f1,f2,f3,f4,f5,f6,f7⟩:=dY M;have hno:e∉os:=λhmem=>by have:=(u e hmem).mQ (by rw[aE,C];rfl);cases this
  have i:(aq s1).ob.get e=Z (cz (.map m.kt q l')):=by rw[aE,f6 e hno,C];rfl
  have Q:g1.bG e=Z b:=N.bG _ _ hb;obtain⟨x0,hh,R⟩:=(H.box e b Q).2.2 _ i;obtain⟨ms,cl,rfl,X⟩:=gC.No n (f:=en S q) R;obtain⟨ms',c',z,A⟩:=uT (P:=E.E.P) n ht hu k hh X (x:=y') (sI hyd);have hlt:=(H.box e b Q).2.1;obtain⟨q1,q2,q3⟩:=Gw (.map ms' c') hlt;obtain⟨Zz,XW⟩:=H.setObj Q i rfl (by show s1.fl<=e;rw[f1];exact hfl) (U5:=cz (.map m.kt q (lz m.kt k y' l'))) (Ku.ob n (f:=en S q) A c') q1 q2 q3 rfl rfl;have aiV:g7 s {s1 with ob:=s1.ob.set aA e (.map m.kt q (lz m.kt k y' l')),wr:=e::s1.wr}:=(j8 M).trans' (wY f3.symm) (qL _ _ _);refine⟨undef,_,g1,.inr ⟨j _ (by rw[S8,I];exact z),rfl⟩,.sym _ _ (.lit _),cr.j5 hs (by rw[eK];exact Zz) (N.trans (by have h5:=XW;rw[show(aq s1).fl=s.fl from f1]at h5;exact h5)) f1 f2 (wY f3.symm) aiV⟩
 .rename_i k kt l r C;have I:=rq r (cL hf hk);split at h;rotate_left
  .cases h
  rename_i l' hck;obtain⟨rfl,K⟩:=J4 hck;cases K;rcases aa h with⟨F,G⟩|⟨_,G⟩;rotate_left
  .cases G
  clear h;simp only[aV,bq]at G;obtain⟨_,rfl,rfl⟩:=G;have i:(aq s).ob.get e=Z (cz (.DT m.kt l')):=by rw[aE,C];rfl
  obtain⟨x0,hh,R⟩:=(hs.box e b hb).2.2 _ i;obtain⟨ms,cl,rfl,X⟩:=gC.No n (f:=low) R;obtain⟨ms',c',z,A⟩:=uT (P:=E.E.P) n ht hu k hh X (x:=yv) (cL hf hy);obtain⟨q1,q2,q3⟩:=Gw (.map ms' c') (hs.box e b hb).2.1;obtain⟨Zz,XW⟩:=hs.setObj hb i rfl (eN F) (U5:=cz (.DT m.kt (lz m.kt k yv l'))) (Ku.ob n (f:=low) A c') q1 q2 q3 rfl rfl;exact⟨undef,_,g,.inr ⟨j _ (by rw[S8,I];exact z),rfl⟩,.sym _ _ (.lit _),cr.j5 hs (by rw[eK];exact Zz) XW rfl rfl (bS _) (qL _ _ _)⟩
 .cases h
def VO(hS:eR S)(hT:yb E.E)(Vb:MO S E)(hX:XOk S E)(hf:cg g (bh fr) a w)(hs:aU g (aq s) w)(o:Oper)(h:qm E fr s o.op=Z (c,t,s'))(hc:c=W) :
  ∃v w' g',((execOp a.eval o).run E.E.P w=.ok (.value v) w'∨((execOp a.eval o).run E.E.P w=.ok .skip w'∧v=undef))∧aC g' w' (low t) v∧cr [] s g w s' g' w':=by
 unfold qm at h;split at h
 ·
  rename_i ty r A;rcases aa h with⟨hb,B⟩|⟨_,B⟩;rotate_left
  .cases B
  clear h;rw[dI]at hb;have hn:s.au<bg:=eN hb.1;split at B;rotate_left
  .cases B
  rename_i m hm;obtain⟨Zh,d,ht,hu,C,_,_⟩:=hX.mt _ _ hm;have hr:∀v,r.map a.eval=Z v->∃k n,v=.int k n:=by
   intro v Q;cases r with
   |none=>cases Q
   |some x=>
    simp only[dG,aV]at Q;subst Q;have hh:=hb.2;simp only[JA]at hh;split at hh
    .rename_i k n H;exact⟨_,_,(cL hf H).Zr⟩
    .rename_i k n H;exact⟨_,_,aC.Hp (cL hf H)⟩
    .cases hh
  have fin:∀ob:sj S,cz ob=.map []->(W,(.mp s.au:V S),cJ s ob)=(c,t,s')->
    ∃v w' g',((execOp a.eval o).run E.E.P w=.ok (.value v) w'∨((execOp a.eval o).run E.E.P w=.ok .skip w'∧v=undef))∧aC g' w' (low t) v∧cr [] s g w s' g' w':=λob Ep he=>by
   simp only[bq]at he;obtain⟨_,rfl,rfl⟩:=he;obtain⟨v,w',g',h1,h2,h3⟩:=GX (P:=E.E.P) hs hn ht hr Ep;exact⟨v,w',g',.inl (by simp[execOp,A,h1]),h2,h3⟩
  split at B
  .exact fin _ rfl (ew B)
  .exact fin _ rfl (ew B)
 ·
  rename_i ty x ix ok A;split at h;rotate_left
  .cases h
  rename_i m xv kv hm H hk;split at h;rotate_left
  .cases h
  rename_i vt hvt;split at h;rotate_left
  .cases h
  rename_i k l hkey F;simp only[aV,bq]at h;obtain⟨_,rfl,rfl⟩:=h;obtain⟨Zh,d,ht,hu,C,⟨xi,z,I,hz⟩,Zv⟩:=hX.mt _ _ hm;obtain⟨adB,i,Wr⟩:=Zv vt hvt;have hke:=rq hkey (cL hf hk);have hxr:=cL hf H;have M:aC g w (en S vt (S.zero vt)) z:=sI (EL hS (hT.ti _ _ Wr) (Vb.row _ _ _ Wr adB) (hX.zr _ _ _ Wr adB) I hz);have fin:∀(u:Value)(b:Bool),(Instr.lookup ty (a.eval x) (a.eval ix) ok).run E.E.P w=.ok (if ok then .tuple #[u,.bool b]else u) w->aC g w (en S vt (Ct m.kt (S.zero vt) k l)) u->b=yT m.kt k l->
    ∃v w' g',((execOp a.eval o).run E.E.P w=.ok (.value v) w'∨((execOp a.eval o).run E.E.P w=.ok .skip w'∧v=undef))∧
     aC g' w' (low (bif ok then .fQ [.ty vt (Ct m.kt (S.zero vt) k l),.ty .bool (yT m.kt k l)]else .ty vt (Ct m.kt (S.zero vt) k l):V S)) v∧cr [] s g w s g' w':=by
   intro u b R hu hbb;refine⟨_,w,g,.inl (by simp only[execOp,A,Sem.run_bind,R,Result.andThen_ok,Sem.run_pure];rfl),?_,cr.refl hs⟩;cases ok with
   |false=>exact hu
   |true=>
    subst hbb;refine .fQ _ _ rfl λj t' v' h1 h2=>?_
    match j with
    |0=>simp[aX]at h1 h2;subst h1;subst h2;exact hu
    |1=>simp[aX]at h1 h2;subst h1;subst h2;exact .sym _ _ (.lit _)
    |j+2=>simp[aX]at h1
  unfold SE at F;split at F
  .rename_i oid;split at F
   .rename_i Zg vt' l' Ep;obtain⟨rfl,rfl,hll⟩:=J3 F;cases hll;obtain⟨b,S8,hb⟩:=aC.Ho hxr;obtain⟨x0,hh,hor⟩:=(hs.box oid b hb).2.2 _ (by rw[aE,Ep];rfl);obtain⟨ms,cl,rfl,hmr⟩:=gC.No C (f:=en S vt') hor;have hlk:=Bx (P:=E.E.P) C ht hu I hz k hh hmr.1 (λj p q h1 h2=>(hmr.2 j p q h1 h2).1) ok;obtain⟨r1,r2⟩:=LD (f:=en S vt') (k:=k) hmr M;refine fin _ _ ?_ r1 r2;rw[hke,S8,hlk];cases hq:(DV m.kt k l').bind λj=>(ms[j]?).map (·.val)with|none=>simp[hq]|some v=>simp[hq]
   .cases F
  .simp only[aV]at F;subst F;refine fin z J ?_ M rfl;rw[hke,aC.Hp hxr];exact Bw C ht hu I hz k ok
  .cases F
 .exact Fl hX hS hf hs o (.inl ‹_›) h
 .exact Fl hX hS hf hs o (.inr ‹_›) h
 ·
  rename_i ty n cp A;split at h;rotate_left
  .cases h
  rename_i i e nv cv G he hn hcv;split at h;rotate_left
  .cases h
  rename_i n1 c1 C hn1 Va;rcases aa h with⟨hb,B⟩|⟨_,B⟩;rotate_left
  .cases B
  simp only[aV,bq]at B;obtain⟨rfl,rfl,rfl⟩:=B;rw[dI]at hc;have hcn:c1=n1:=by simpa[kT]using hc.2
  subst hcn;obtain⟨p,hp,Wv⟩:=fB hn1;obtain⟨q,hq,hqq⟩:=fB Va;have e1:=dn hp Wv (cL hf hn);have e2:=dn hq hqq (cL hf hcv);obtain⟨v,w',g',h1,h2,h3⟩:=Cr (P:=E.E.P) hS hs (eN hb) (hT.ti _ _ G) (Vb.row _ _ _ G he) hc.1 .i64 .i64;exact⟨v,w',g',.inl (by simp[execOp,A,e1,e2,h1]),h2,h3⟩
 ·
  rename_i ty x A;split at h;rotate_left
  .cases h
  rename_i i xv G H;split at h;rotate_left
  .cases h
  rename_i b C hb;rcases aa h with⟨hn,B⟩|⟨_,B⟩;rotate_left
  .cases B
  simp only[aV,bq]at B;obtain⟨_,rfl,rfl⟩:=B;obtain⟨p,hp,Wv⟩:=jE hb;have e1:=gE hp Wv (cL hf H);obtain⟨_,d0,_,_,hu,_,_,_,_,hk⟩:=(hT.ti _ _ G).all;rw[C]at hk;cases hk;obtain⟨v,w',g',h1,h2,h3⟩:=Li (P:=E.E.P) hs (eN hn) hu b;exact⟨v,w',g',.inl (by simp[execOp,A,e1,h1]),h2,h3⟩
 ·
  rename_i ty x u A;split at h;rotate_left
  .rename_i i G H;split at h;rotate_left
   .cases h
   rename_i C;simp only[aV,bq]at h;obtain⟨_,rfl,rfl⟩:=h;have:=(NW (w:=w) (hT.ti _ _ G) C (cL hf H) x).1;exact⟨_,w,g,.inl (by simp only[execOp,A,Sem.run_bind]at this ⊢;simp only[Act.eval]at this ⊢;rw[this];rfl),.kb W,cr.refl hs⟩
  .cases h
  rename_i i n y G H;split at h;rotate_left
  .cases h
  rename_i C;simp only[aV,bq]at h;obtain⟨_,rfl,rfl⟩:=h;have:=(N4 (S:=S) hS (hT.ti _ _ G) C (cL hf H) x).1;exact⟨_,w,g,.inl (by simp only[execOp,A,Sem.run_bind]at this ⊢;simp only[Act.eval]at this ⊢;rw[this];rfl),.sym _ _ (.lit _),cr.refl hs⟩
 ·
  rename_i ty x u A;split at h;rotate_left
  .rename_i i G H;split at h;rotate_left
   .cases h
   rename_i C;simp only[aV,bq]at h;obtain⟨_,rfl,rfl⟩:=h;have:=(NW (w:=w) (hT.ti _ _ G) C (cL hf H) x).2;exact⟨_,w,g,.inl (by simp only[execOp,A,Sem.run_bind]at this ⊢;simp only[Act.eval]at this ⊢;rw[this];rfl),.kb J,cr.refl hs⟩
  .cases h
  rename_i i n y G H;split at h;rotate_left
  .cases h
  rename_i C;simp only[aV,bq]at h;obtain⟨_,rfl,rfl⟩:=h;have:=(N4 (S:=S) hS (hT.ti _ _ G) C (cL hf H) x).2;exact⟨_,w,g,.inl (by simp only[execOp,A,Sem.run_bind]at this ⊢;simp only[Act.eval]at this ⊢;rw[this];rfl),.sym _ _ (.lit _),cr.refl hs⟩
 ·
  rename_i ty x u A;split at h;rotate_left
  .cases h
  rename_i i e xv G he H;split at h;rotate_left
  .cases h
  rename_i l C hl;simp only[aV,bq]at h;obtain⟨_,rfl,rfl⟩:=h;obtain⟨ad,n,m,Q,hE⟩:=YK hs hl (cL hf H);have:=YJ (w:=w) (hT.ti _ _ G) C ad n m x;exact⟨_,w,g,.inl (by rw[<-Q]at this;simp only[execOp,A,Sem.run_bind]at this ⊢;simp only[Act.eval]at this ⊢;rw[this];rfl),.ub _ _ hE,cr.refl hs⟩
 ·
  rename_i x A;split at h;rotate_left
  .cases h
  rename_i n y H;simp only[aV,bq]at h;obtain⟨rfl,rfl,rfl⟩:=h;have hr:=cL hf H;rw[y6]at hc;rcases A0 hS (show aC g w (en S (.cE n) y) (a.eval x)from hr)with⟨he,_⟩|⟨t',d,u,he,Q,_⟩
  .rw[he]at hc;cases hc
  .exact ⟨_,w,g,.inl (by simp[execOp,A,Q]),Q▸hr,cr.refl hs⟩
 ·
  rename_i x xt ty ok A;split at h;rotate_left
  .cases h
  rename_i i τ n y G he H;obtain⟨xi,d1,z,I,N7,_,XZ,Zt,xm,Q6⟩:=(hT.ti _ _ G).all;have hni:i.kd≠.iface->∀ms,d1≠.interface ms:=λhk ms hd=>hk ((hT.ti _ _ G).nif ms (by rw[N7,hd]));have hr:=A0 hS (show aC g w (en S (.cE n) y) (a.eval x)from cL hf H);have M:aC g w (en S τ (S.zero τ)) z:=sI (EL hS (hT.ti _ _ G) (Vb.row _ _ _ G he) (hX.zr _ _ _ G he) I Zt);have hno:i.kd≠.iface->(∀d,rG S (S.alts n) (S.rz n y)≠Z (ty,d))->(Instr.typeAssert (a.eval x) xt ty W).run E.E.P w=.ok (.tuple #[z,.bool J]) w:=by
   intro hk hne;rcases hr with⟨_,Q⟩|⟨t',d,u,he',Q,_⟩
   .rw[Q];simp only[Instr.typeAssert,Sem.run_bind,aI N7,Result.andThen_ok];cases d1 with|interface ms=>exact absurd rfl (hni hk ms)|_=>simp[dQ I Zt]
   .have aiN:t'≠ty:=λe=>hne d (e▸he');rw[Q];simp only[Instr.typeAssert,Sem.run_bind,aI N7,Result.andThen_ok];cases d1 with|interface ms=>exact absurd rfl (hni hk ms)|_=>simp[aiN,dQ I Zt]
  split at h
  .cases h
  .rename_i j hj hk;rcases aa h with⟨hb,B⟩|⟨_,B⟩;rotate_left
   .cases B
   clear h;have hte:=fq hb;have hk':i.kd≠.iface:=λe=>hk e;rcases CX (S.alts n) ty j (S.rz n y) S.zero (hS.alts n) hj with⟨h1,h2⟩|⟨h1,h2,h3⟩
   ·
    rcases hr with⟨he',_⟩|⟨t',d,u,he',Q,hd⟩
    .rw[he']at h2;cases h2
    rw[he']at h2;simp only[aV,bq]at h2;obtain⟨rfl,rfl⟩:=h2;have R:∀ok,(Instr.typeAssert (a.eval x) xt t' ok).run E.E.P w=.ok (if ok then .tuple #[u,.bool W]else u) w:=by intro ok;rw[Q];simp only[Instr.typeAssert,Sem.run_bind,aI N7,Result.andThen_ok];cases d1 with|interface ms=>exact absurd rfl (hni hk' ms)|_=>simp
    rcases aa B with⟨K,B⟩|⟨K,B⟩
    .simp only[aV,bq]at B;obtain⟨_,rfl,rfl⟩:=B;subst K;refine⟨_,w,g,.inl (by simp only[execOp,A,Sem.run_bind,R,Result.andThen_ok,Sem.run_pure];rfl),.fQ _ _ rfl λq t v N X=>?_,cr.refl hs⟩
     match q with
     |0=>simp[aX]at N X;subst N;subst X;exact sI hd
     |1=>simp[aX]at N X;subst N;subst X;rw[h1];exact .sym _ _ (.lit _)
     |q+2=>simp[aX]at N
    .simp only[aV,bq]at B;obtain⟨_,rfl,rfl⟩:=B;subst K;exact⟨_,w,g,.inl (by simp only[execOp,A,Sem.run_bind,R,Result.andThen_ok,Sem.run_pure];rfl),sI hd,cr.refl hs⟩
   ·
    rcases aa B with⟨K,B⟩|⟨K,B⟩
    .simp only[aV,bq]at B;obtain⟨_,rfl,rfl⟩:=B;subst K;refine⟨_,w,g,.inl (by simp only[execOp,A,Sem.run_bind,hno hk' h3,Result.andThen_ok,Sem.run_pure];rfl),.fQ _ _ rfl λq t v N X=>?_,cr.refl hs⟩
     match q with
     |0=>simp[aX]at N X;subst N;subst X;simp only[low];rw[h2];subst hte;exact M
     |1=>simp[aX]at N X;subst N;subst X;rw[h1];exact .sym _ _ (.lit _)
     |q+2=>simp[aX]at N
    .simp only[aV,bq]at B;obtain⟨rfl,_⟩:=B;rw[h1]at hc;cases hc
  .rename_i hj hk;have hk':i.kd≠.iface:=λe=>hk e;rcases aa h with⟨K,B⟩|⟨K,B⟩;rotate_left
   .cases B
   simp only[aV,bq]at B;obtain⟨_,rfl,rfl⟩:=B;subst K;refine⟨_,w,g,.inl (by simp only[execOp,A,Sem.run_bind,hno hk' (λd=>CX.y5 _ _ _ hj d),Result.andThen_ok,Sem.run_pure];rfl),.fQ _ _ rfl λq t v N X=>?_,cr.refl hs⟩
   match q with
   |0=>simp[aX]at N X;subst N;subst X;exact M
   |1=>simp[aX]at N X;subst N;subst X;exact .kb _
   |q+2=>simp[aX]at N
 ·
  rename_i ty ps A;split at h;rotate_left
  .cases h
  rename_i i pv G hps;split at h;rotate_left
  .cases h
  rename_i len sz ag C;simp only[ec,bq]at h;obtain⟨cs,hcs,_,rfl,rfl⟩:=h;obtain⟨p,hfl,hp⟩:=yX hS hcs;rw[kY]at hfl;obtain⟨xi,d1,z,I,N7,_,XZ,Zt,xm,Q6⟩:=(hT.ti _ _ G).all;rw[C]at Q6;obtain⟨el,j,d',rfl,hj,Jy,hju,_⟩:=Q6;have M:=p7 (g:=g) (w:=w) xm;obtain⟨rs,h1,h2⟩:=td (g:=g) (w:=w) (pl:=λk=>Z (k*sz,sz)) (λk off ti Fy=>by
   simp only[aV,bq]at Fy;obtain⟨rfl,rfl⟩:=Fy;rfl) _ _ hfl hp (mY hf (qW hps)) ⟨by simpa using M.1,λj t v h1 h2=>M.2 j t v h1 (by simpa using h2)⟩
  refine⟨.agg rs,w,g,.inl ?_,.agg _ _ (by simpa using h2.1) (λj t v h3 h4=>h2.2 j t v h3 (by simpa using h4)),cr.refl hs⟩;have adu:Instr.fill (λi=>Z (i*sz,sz)) z.cells (ps.map λ(i,x)=>(i,a.eval x)).toList=Z rs:=by simpa using h1
  simp only[execOp,A,Instr.build,Sem.run_bind,dQ I Zt,aI N7,de hj,Jy,Result.andThen_ok,Sem.run_pure,adu]
 .cases h
end
end
section
section
variable {g:Gh}{w:World}
def FW{β:Type}{ω:Type}{X:V S->aW S->O ω}{D:O ω}{a:Ty}(k:den S.A a)(f:β->V S)(s:aW S):∀(l:L (den S.A a×β)),
  sd X D (l.map λp=>(Fu a k p.1,f p.2,s))=match(DV a k l).bind (l[·]?)with
   |some p=>X (f p.2) s
   |none=>D
 |[]=>rfl
 |p::l=>by
  simp only[jh,sd,DV];cases b:Fu a k p.1 with
  |true=>simp[ah]
  |false=>
   simp only[ah,cM];rw[FW k f s l];cases DV a k l with|none=>rfl|some j=>simp
def tJ{ω:Type}{X:V S->aW S->O ω}{n:Int}{ag:Bool}{sz:Nat}{cs:L (V S)}{s:aW S}{r:ω}:∀{l:L Nat},sd X Y (wv n ag sz cs s l)=Z r->
  ∃j v,j∈l∧n=(j:Int)∧((cs.drop (j*sz)).take sz).length=sz∧0<sz∧w6 ag ((cs.drop (j*sz)).take sz)=Z v∧X v s=Z r
 |[],h=>by cases h
 |j::l,h=>by
  simp only[wv]at h;split at h
  .rename_i v a;rcases aa a with⟨b,a⟩|⟨_,a⟩;rotate_left
   .cases a
   rw[dI]at b;have d:=beq_iff'.1 b.1;rw[bA]at d;simp only[sd]at h;rcases EU h with⟨e,h⟩|⟨_,h⟩
   .exact ⟨j,v,dX,by simpa[kT]using e,d,eN b.2,a,h⟩
   .obtain ⟨i,u,h1,h2⟩:=tJ h;exact⟨i,u,gl _ h1,h2⟩
  .cases h
where
 EU {α:Type} {c:Bool} {x y:O α} {r:α} (h:ah c x y=Z r):(c=W∧x=Z r)∨(c=J∧y=Z r):=aa h
variable {s s':aW S}{E:fX}{fr:bI S}{a:Act}{o:Oper}{f:FuncId}
def NT(hT:yb E.E)(hX:XOk S E)(hf:cg g (bh fr) a w)(hs:aU g (aq s) w)(o:Oper){MG:L (Bool×V S×aW S)}{p:Bool}{d:V S}(h:Fj E fr s o.op=Z (MG,p,d,s')){ω:Type}{X:V S->aW S->O ω}{r:ω}
  (A:sd X (aP p (X d s')) MG=Z r) :
  ∃t s1 v w' g',X t s1=Z r∧((execOp a.eval o).run E.E.P w=.ok (.value v) w'∨((execOp a.eval o).run E.E.P w=.ok .skip w'∧v=undef))∧aC g' w' (low t) v∧cr [] s g w s1 g' w'∧((∀it b,o.op≠.next it b)->s1=s):=by
 unfold Fj at h;split at h
 ·
  rename_i it y;split at h;rotate_left
  .cases h
  rename_i F hit;split at h;rotate_left
  .cases h
  rename_i b pos Ep;rcases aa h with⟨hfl,K⟩|⟨_,K⟩;rotate_left
  .cases K
  clear h;simp only[aV,bq]at K;obtain⟨rfl,rfl,rfl,rfl⟩:=K;obtain⟨bG,hie,hb⟩:=aC.Wl (cL hf hit);have Jw:(aq s).ob.get F=Z (.oG (bD b) pos):=by rw[aE,Ep];rfl
  obtain⟨x0,hh,hor⟩:=(hs.box F bG hb).2.2 _ Jw;have M:=(hs.box F bG hb).2.1;cases hor;have cC:(getObj bG).run E.E.P w=.ok (.stringIter (bD b) pos) w:=by simp[getObj,Sem.run,hh]
  have sB:∀x,(setObj bG x).run E.E.P w=.ok () {w with heap:=w.heap.setIfInBounds bG x}:=λx=>by simp[setObj,Sem.run,hh]
  have G:(bD b).size=b.length:=by simp[bD,ByteArray.size]
  simp only[sd]at A;rcases tJ.EU A with⟨hp,A⟩|⟨hp,A⟩
  .have hp':pos<(bD b).size:=by rw[G];simpa[Ls]using hp
   obtain⟨q1,q2,q3⟩:=Gw (.stringIter (bD b) (pos+DY b pos)) M;obtain⟨Zz,XW⟩:=hs.setObj hb Jw rfl (eN hfl) (U5:=.oG (bD b) (pos+DY b pos)) (.oG _ _) q1 q2 q3 rfl rfl;refine⟨_,_,.tuple #[.bool W,goInt pos,.int .i32 (rX b pos)],_,g,A,.inl ?_,.fQ _ _ rfl λq t v B C=>?_,cr.j5 hs (by rw[eK];exact Zz) XW rfl rfl (bS _) (qL _ _ _),λhh=>absurd y (hh it W)⟩
   .have H:(Instr.next (a.eval it) W o.type).run E.E.P w=.ok (.tuple #[.bool W,goInt pos,.int .i32 (rX b pos)]) {w with heap:=w.heap.setIfInBounds bG (.stringIter (bD b) (pos+DY b pos))}:=by rw[hie];simp only[Instr.next,Sem.run_bind,cC,Result.andThen_ok,hp',qg,sB];rfl
    simp only[execOp,y,Sem.run_bind,H,Result.andThen_ok,Sem.run_pure]
   .match q with
    |0=>simp[aX]at B C;subst B;subst C;exact .kb _
    |1=>simp[aX]at B C;subst B;subst C;exact .sym _ _ (.lit _)
    |2=>simp[aX]at B C;subst B;subst C;exact .sym _ _ (.lit _)
    |q+3=>simp[aX]at B
  .have hp':¬pos<(bD b).size:=by rw[G];simpa[Ls]using hp
   simp only[aP,cn]at A;refine⟨_,_,.tuple #[.bool J],w,g,A,.inl ?_,.fQ _ _ rfl λq t v B C=>?_,cr.refl hs,λhh=>absurd y (hh it W)⟩
   .have H:(Instr.next (a.eval it) W o.type).run E.E.P w=.ok (.tuple #[.bool J]) w:=by rw[hie];simp only[Instr.next,Sem.run_bind,cC,Result.andThen_ok,hp',if_false];rfl
    simp only[execOp,y,Sem.run_bind,H,Result.andThen_ok,Sem.run_pure]
   .match q with
    |0=>simp[aX]at B C;subst B;subst C;exact .kb _
    |q+1=>simp[aX]at B
 ·
  rename_i ty x ix ok y;split at h;rotate_left
  .cases h
  rename_i m F kv hm hx hk;split at h;rotate_left
  .cases h
  rename_i kt l k i Ep hkey Wr;split at h;rotate_left
  .cases h
  rename_i l' z hck hpz;simp only[aV,bq]at h;obtain⟨rfl,rfl,rfl,rfl⟩:=h;obtain⟨rfl,hll⟩:=J4 hck;cases hll;obtain⟨Zh,dd,ht,hu,N,⟨xi,zv,LS,hz⟩,_⟩:=hX.mt _ _ hm;have hke:=rq hkey (cL hf hk);obtain⟨b,S8,hb⟩:=aC.Ho (cL hf hx);obtain⟨x0,hh,hor⟩:=(hs.box F b hb).2.2 _ (by rw[aE,Ep];rfl);obtain⟨ms,cl,rfl,Q⟩:=gC.No N (f:=low) hor;have hlk:=Bx (P:=E.E.P) N ht hu LS hz k hh Q.1 (λj p q h1 h2=>(Q.2 j p q h1 h2).1) ok;have hzr:aC g w (low z) zv:=by
   obtain⟨x',_,z',hx',_,_,XZ,hz',xm,_⟩:=(hT.ti _ _ Wr).all;rw[LS]at hx';cases hx';rw[hz]at hz';cases hz';obtain⟨hza,hzn⟩:=(hT.ti _ _ Wr).zag _ _ LS hz;obtain⟨hz1,hz2⟩:=p7 (g:=g) (w:=w) xm;have hp:=ny hpz;rw[kY]at hp;obtain⟨e,_⟩:=um (g:=g) (w:=w) hp (vals:=zv.cells.toList) (by simpa using hz1) (λj t v h1 h2=>hz2 j t v h1 (by simpa using h2));cases R:i.agg with
   |true=>obtain⟨vs,rfl⟩:=hza R;rw[R]at e;simpa[Value.cells]using e
   |false=>have:=hzn R;rw[R,this]at e;simpa using e
  rw[FW k (λv=>bif ok then .fQ [v,.kb W]else v) s l']at A;have wrap:∀(t:V S)(u:Value)(bb:Bool),aC g w (low t) u->aC g w (low (bif ok then .fQ [t,.kb bb]else t:V S)) (if ok then .tuple #[u,.bool bb]else u):=by
   intro t u bb hu;cases ok with
   |false=>exact hu
   |true=>
    refine .fQ _ _ rfl λq t v B C=>?_
    match q with
    |0=>simp[aX]at B C;subst B;subst C;exact hu
    |1=>simp[aX]at B C;subst B;subst C;exact .kb _
    |q+2=>simp[aX]at B
  have c:=hlk;rw[<-S8,<-hke]at c;cases hix:DV m.kt k l' with
  |none=>rw[hix]at A c;simp only[Ny]at A c;simp only[aP,cn]at A;exact⟨_,_,_,w,g,A,.inl (by simp only[execOp,y,Sem.run_bind,c,Result.andThen_ok,Sem.run_pure]),wrap z zv J hzr,cr.refl hs,λ_=>rfl⟩
  |some j=>
   obtain⟨q,hq,_⟩:=xk hix;have hj:j<ms.size:=by rw[<-Q.1];exact ax hq
   have hmj:ms[j]?=Z ms[j]:=nT hj;rw[hix]at A c;simp only[GJ,hq,hmj,dG]at A c;exact⟨_,_,_,w,g,A,.inl (by simp only[execOp,y,Sem.run_bind,c,Result.andThen_ok,Sem.run_pure]),wrap q.2 _ W (Q.2 j q _ hq hmj).2,cr.refl hs,λ_=>rfl⟩
 ·
  rename_i ty x ix y;split at h;rotate_left
  .cases h
  rename_i i cs kv hi hx hk;split at h;rotate_left
  .cases h
  rename_i len sz ag n N hn;rcases aa h with⟨hlen,K⟩|⟨_,K⟩;rotate_left
  .cases K
  clear h;simp only[aV,bq]at K;obtain⟨rfl,rfl,rfl,rfl⟩:=K;simp only[aP,cM]at A;obtain⟨j,v,WB,rfl,hl,hsz,hpk,hXv⟩:=tJ A;have hjl:j<len:=IQ.1 WB;obtain⟨pq,hp,Wv⟩:=fB hn;have e1:=dn hp Wv (cL hf hk);obtain⟨_,d1,_,_,N7,hsz1,hag1,_,_,Q6⟩:=(hT.ti _ _ hi).all;rw[N]at Q6;obtain⟨el,jj,d',rfl,hj1,hj2,hj3,hj4⟩:=Q6;obtain⟨vs,S8,m8⟩:=aC.N1 (cL hf hx);have I:=(m8.drop (j*sz)).take sz;have M:=ny hpk;rw[iA,iB]at M;obtain⟨e,h1⟩:=um (g:=g) (w:=w) M I.1 I.2;have hlv:((vs.toList.drop (j*sz)).take sz).length=sz:=by rw[<-I.1,<-iB,<-iA,ee];exact hl
  have hle:j*sz+sz<=vs.size:=by simp at hlv;omega
  have hrp:=IB (P:=E.E.P) (w:=w) hj1 hj3 vs (j*sz) (by rw[hj2];exact hle) (λhd=>by
   rw[<-hj4]at hd;obtain⟨v,hv⟩:=h1 hd;rw[hv]at hlv;rw[hj2];exact hlv.symm)
  rw[hj2,<-hj4]at hrp;refine⟨v,s,_,w,g,hXv,.inl ?_,e,cr.refl hs,λ_=>rfl⟩;have hin:(0:Int)<=(j:Int)∧(j:Int)<(len:Int):=by omega
  simp only[execOp,y,Instr.index,e1,S8,asIntOf,Sem.run_bind,Sem.run_pure,Result.andThen_ok,aI N7,aY hin,de hj1,hj2,NC,hrp]
 .cases h
def Vv(P:Program)(a:Array TypeId)(ty:TypeId)(m n:Int):(Builtin.max_ a ty #[.int .i64 m,.int .i64 n]).run P w=.ok (.int .i64 (Cp m n)) w:=by simp only[Builtin.max_,List.foldlM_cons,List.foldlM_nil,Builtin.max2,Cp,D.bM];by_cases h:m<n<;>simp[h]
def Vu(P:Program)(a:Array TypeId)(ty:TypeId)(m n:Int):(Builtin.min_ a ty #[.int .i64 m,.int .i64 n]).run P w=.ok (.int .i64 (Lz m n)) w:=by simp only[Builtin.min_,List.foldlM_cons,List.foldlM_nil,Builtin.min2,Lz,D.bM];by_cases h:n<m<;>simp[h]
def xT(hX:XOk S E)(hs:aU g (aq s) w)(hf:cg g (bh fr) a w){j:Call}(r:o.op=.call j){b:Builtin}(N:j.callee=.builtin b){args:L (V S)}(z:jw fr j.args.toList=Z args){c:Bool}{t:V S}
  (h:qz E s b j.argTypes args=Z (c,t,s')):s'=s∧∃v,(execOp a.eval o).run E.E.P w=.ok (.value v) w∧aC g w (low t) v:=by
 have e:=eT hf (gr z);unfold qz at h;split at h
 .rename_i A;have key:∀(l:Nat)(ob:sj S),s.ob.get A=Z ob->(∀x,gC g w (cz ob) x->∃k c,x=.map k c∧k.size=l)->∀m,(nth j.argTypes.toList 0).bind E.mt=Z m->
    ∃v,(execOp a.eval o).run E.E.P w=.ok (.value v) w∧aC g w (low (.ty (.int .i64) (l:Int):V S)) v:=by
   intro l ob i C m f;simp only[qS]at f;obtain⟨ty,F,P⟩:=f;obtain⟨Zh,d,ht,_⟩:=hX.mt _ _ P;have h0:aC g w (.mp A) ((j.args.toList.map a.eval)[0]'(by have:=e.1;simp[aX]at this;simp;omega)):=e.2 0 _ _ rfl (eS _);obtain⟨bG,Q,G⟩:=aC.Ho h0;obtain⟨x0,hh,R⟩:=(hs.box A bG G).2.2 _ (by rw[aE,i];rfl);obtain⟨k,cc,rfl,X⟩:=C _ R;have cC:(getObj bG).run E.E.P w=.ok (.map k cc) w:=qO hh;have ha0:(j.args.map a.eval)[0]?=Z (.map (Z bG)):=by
    have H:0<(j.args.toList.map a.eval).length:=by have:=e.1;simp[aX]at this;simp;omega
    have:=eS H;rw[Q]at this;simpa using this
   have I:j.argTypes[0]?=Z ty:=by rw[iR]at F;simpa using F
   refine⟨goInt k.size,?_,by rw[X];exact .sym _ _ (.lit _)⟩;simp only[execOp,r,resolve,N,Sem.run_bind,Sem.run_pure,Result.andThen_ok,invoke,builtin,Builtin.len_,I,ha0,aI ht,cC]
  split at h
  .rename_i m kt vt l f i;simp only[aV,bq]at h;obtain⟨_,rfl,rfl⟩:=h;exact⟨rfl,key l.length _ i (λx C=>by cases C with|map _ k c K _=>exact⟨k,c,rfl,by simpa using K.symm⟩) m f⟩
  .rename_i m kt l f i;simp only[aV,bq]at h;obtain⟨_,rfl,rfl⟩:=h;exact⟨rfl,key l.length _ i (λx C=>by cases C with|map _ k c K _=>exact⟨k,c,rfl,by simpa using K.symm⟩) m f⟩
  .cases h
 .rename_i x y;split at h;rotate_left
  .cases h
  rename_i m n f M;simp only[aV,bq]at h;obtain⟨_,rfl,rfl⟩:=h;obtain⟨a1,ha⟩:=Ir e f M;refine⟨rfl,.int .i64 (Cp m n),?_,.sym _ _ (.lit _)⟩;simp only[execOp,r,resolve,N,Sem.run_bind,Sem.run_pure,Result.andThen_ok,invoke,builtin,ha,Vv]
 .rename_i x y;split at h;rotate_left
  .cases h
  rename_i m n f M;simp only[aV,bq]at h;obtain⟨_,rfl,rfl⟩:=h;obtain⟨a1,ha⟩:=Ir e f M;refine⟨rfl,.int .i64 (Lz m n),?_,.sym _ _ (.lit _)⟩;simp only[execOp,r,resolve,N,Sem.run_bind,Sem.run_pure,Result.andThen_ok,invoke,builtin,ha,Vu]
 .cases h
where
 Ir {l:Array Operand} {a:Act} {x y:V S} {m n:Int} (e:PW (aC g w) (aX [x,y]) (l.toList.map a.eval)) (f:kI .i64 x=Z m) (M:kI .i64 y=Z n):True∧l.map a.eval=#[.int .i64 m,.int .i64 n]:=by
  refine⟨trivial,?_⟩;have K:(l.toList.map a.eval).length=2:=by have:=e.1;simpa[aX]using this.symm
  match B:l.toList.map a.eval,K with
  |[u,v],_=>rw[B]at e;have h1:=e.2 0 _ _ rfl rfl;have h2:=e.2 1 _ _ rfl rfl;obtain⟨p,hp,Wv⟩:=fB f;obtain⟨q,hq,hqq⟩:=fB M;rw[dn hp Wv h1,dn hq hqq h2]at B;apply BK;simpa using B
def Lf(k:XOk S E){t:TypeId}{g:String}(h:E.GV t g=Z f)(v:Value)(args:Array Value)(hf:jZ E.E.P f):(callMethod (.iface t v) g args).run E.E.P w=.ok (.enter f (#[v]++args)) w:=by
 obtain⟨x,q,d,l,m,o,j,c⟩:=k.GV _ _ _ h;obtain⟨n,p⟩:∃n,E.E.P.types.size+Made.depth=n+1:=⟨E.E.P.types.size+Made.depth-1,by unfold Made.depth;omega⟩;have a:(method (E.E.P.types.size+Made.depth) t v g).run E.E.P w=.ok (f,v) w:=by
  rw[p];simp only[method,Sem.run_bind,pF l,Result.andThen_ok,m,o,follow,Sem.run_pure];rcases c with⟨c,i⟩|⟨c,e,rfl⟩
  .simp only[c,Sem.run_bind,receiverAt,aI j,Result.andThen_ok];cases d<;>first|(exact absurd rfl (i _))|(simp[Place.get])
  .simp only[c,Sem.run_bind,receiverAt,aI j,Result.andThen_ok];simp[Place.get]
 have b:(Go.program).run E.E.P w=.ok E.E.P w:=rfl;simp only[callMethod,Sem.run_bind,b,Result.andThen_ok,a,uf hf]
def IC(b:XOk S E){c:Call}(d:o.op=.call c){x:Operand}{m:String}(g:c.callee=.invoke x m){t:TypeId}{v:Value}(i:a.eval x=.iface t v)(h:E.GV t m=Z f)(j:jZ E.E.P f) :
  (execOp a.eval o).run E.E.P w=.ok (.enter f (#[v]++c.args.map a.eval)) w:=by
 simp only[execOp,d,resolve,g,i,Sem.run_bind,Sem.run_pure,Result.andThen_ok,invoke];simp only[NH,IW,gi,BO,Nat.lt_add_one,qg,Lm,qT];have e:(#[Value.iface t v]++c.args.map a.eval).extract 1 (#[Value.iface t v]++c.args.map a.eval).size=c.args.map a.eval:=by apply BK;simp only[Array.toList_extract,Ej,Nx,Se];simp;exact List.take_of_length_le (by simp)
 rw[e];exact Lf b h v _ j
end
end
end TL
end
end
