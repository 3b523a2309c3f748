import Derived.KernelRfl
import Derived.Laws.RangeAny
import Derived.Test.YtdddliieplcejaaGreatP4
set_option linter.all false
set_option maxRecDepth 100000
set_option maxHeartbeats 0
noncomputable section
open Option renaming some->Z,none->Y
open Bool renaming true->W,false->J
section
namespace Mn
open Go TL
abbrev Us(F:Fn P97 K4 J):kT sg:=⟨P97,K4,J,F⟩
def B254:Nat->(Term×Unit->Option fH)->Term×Unit->Option fH:=
 λn f254 c=>ai (F291 n (Term.mk c.1.1 c.1.2 c.1.3 c.1.4 c.1.5,())) λd=>aj (D.aO d.1.1) (Z ((J,()),())) (ai (@iter (Int×Unit)
 (Bool×Unit) (Unit) (Any) (λe=>aj (D.bN e.1 (ak c.1.5)) (aC (av e.1 c.1.5) (ai (F292 n (aR c.1.5 (ah e.1) aL,())) λg=>aj
 (D.aO g.1.1) (Z (LO.ret () (J,()))) (Z (LO.next (D.add .i64 e.1 1,()))))) (Z (LO.out 0 e))) n (0,())) λe=>LO.el e (λ_ _=>
 ai (@iter (Int×Unit) (Bool×Unit) (Unit) (Any) (λi=>aj (D.bN i.1 (ak c.1.4)) (aC (av i.1 c.1.4) (ai (f254 (aR c.1.4 (ah i.1) pP,
 ())) λj=>aj (D.aO j.1.1) (Z (LO.ret () (J,()))) (Z (LO.next (D.add .i64 i.1 1,()))))) (Z (LO.out 0 i))) n (0,())) λi=>
 LO.el i (λ_ _=>Z ((W,()),())) (λ_ k=>Z (k,())) λ_ _=>Y) (λ_ h=>Z (h,())) λ_ _=>Y)
def D254(n:Nat)(f254:Fn P97 K4 J)(b:bD prog 254 (Us f254)):bD prog 254 (Us (B254 n f254)):=cx [⟨254,Us f254,b⟩,aj0 n,ajZ n] [(254,0,⟨[(3,de)],[],[],0⟩),(254,2,⟨[(4,de)],[],[],0⟩)] n 10 254
def R254(n k:Nat):(Fn P97 K4 J):=Nat.rec (motive:=λ_=>(Fn P97 K4 J)) (λ_=>Y) (λ_ r=>B254 n r) k
def F254(n:Nat):Fn P97 K4 J:=(R254 n n)
def abm(n:Nat):∀k,bD prog 254 (Us (R254 n k))
 |0=>bY (enters 254 (by kernel_rfl))
 |k+1=>have b:=abm n k
  D254 n _ b
def aj8(n:Nat):OC:=⟨254,Us (F254 n),(abm n n)⟩
def F189:Y86:=
 λn b=>ai (F253 n (Term.mk b.1.1 b.1.2 b.1.3 b.1.4 b.1.5,60,14,())) λc=>aj (D.ek 0 c.1.1) (ai (F254 n (Term.mk b.1.1 b.1.2 b.1.3 b.1.4
 b.1.5,())) λd=>Z d) (Z ((J,()),()))
def akK(n:Nat):OC:=⟨189,⟨P97,K4,J,F189 n⟩,cx [aj9 n,aj8 n] [] n 10 189⟩
def kE(b:dQ×Unit)(i:Int×Unit):cE:=
 aR b.1.3 (ah i.1) dG
def FA(n:Nat):Option (LO (Int×Unit) (Bool×Unit) Unit Any):=
 Z (LO.ret () (J,()))
def F138:Nat->dQ×Unit->Option fH:=
 λn b=>ai (F185 n (b.1.1,())) λc=>aj (D.aO c.1.1) (Z ((J,()),())) (aj (D.bN 4 (ak b.1.2)) (Z ((J,()),())) (ai
 (F186 n (ak b.1.3,1,5,())) λd=>aj (D.aO d.1.1) (Z ((J,()),())) (ai (@iter (Int×Unit) (Bool×Unit) (Unit) (Any) (λe=>aj
 (D.bN e.1 (ak b.1.2)) (aC (av e.1 b.1.2) (ai (F187 n (aR b.1.2 (ah e.1) kJ,())) λg=>aj (D.aO g.1.1) (Z (LO.ret () (J,
 ()))) (Z (LO.next (D.add .i64 e.1 1,()))))) (Z (LO.out 0 e))) n (0,())) λe=>LO.el e (λ_ _=>ai (@iter (Int×Unit) (Bool×Unit)
 (Unit) (Any) (λi=>aj (D.bN i.1 (ak b.1.3)) (aC (av i.1 b.1.3) (ai (F185 n ((kE b i).1,())) λj=>aj (D.aO j.1.1) (FA n)
 (ai (F185 n ((kE b i).2,())) λk=>aj (D.aO k.1.1) (FA n) (ai (F188 n (cj.mk (kE b i).3.1 (kE b i).3.2 (kE b i).3.3
 (kE b i).3.4,())) λl=>aj (D.aO l.1.1) (FA n) (ai (F188 n (cj.mk (kE b i).4.1 (kE b i).4.2 (kE b i).4.3 (kE b
 i).4.4,())) λm=>aj (D.aO m.1.1) (FA n) (ai (F189 n (Term.mk (kE b i).5.1 (kE b i).5.2 (kE b i).5.3 (kE b i).5.4 (kE b
 i).5.5,())) λo=>aj (D.aO o.1.1) (FA n) (Z (LO.next (D.add .i64 i.1 1,()))))))))) (Z (LO.out 0 i))) n (0,())) λi=>LO.el i (λ
 _ _=>Z ((W,()),())) (λ_ k=>Z (k,())) λ_ _=>Y) (λ_ h=>Z (h,())) λ_ _=>Y)))
def afA(n:Nat):OC:=⟨138,⟨P98,K4,J,F138 n⟩,cx [ace n,Vo n,akL n,afu n,akK n] [(138,0,⟨[(3,de)],[],[],0⟩),(138,2,⟨[(4,de)],[],[],0⟩)] n 10 138⟩
def F85:Nat->List UInt8×Unit->Option ((dQ×Int×Unit)×Unit):=
 λn b=>ai (F179 n b) λc=>aj (D.aO (D.aI c.1.2.1 0)) (Z ((jx,c.1.2),())) (ai (F136 n ((c.1.1,0,J,()),())) λd=>
 ai (F137 n (bE.mk d.2.1.1 d.2.1.2.1 d.2.1.2.2.1,())) λe=>aj (D.aO e.1.1) (Z ((jx,4,()),())) (ai (F138 n d.1)
 λg=>aj (D.aO g.1.1) (Z ((jx,2,()),())) (Z ((d.1.1,0,()),()))))
def k85(n:Nat):OC:=⟨85,⟨P7,K99,J,F85 n⟩,cx [ak5 n,ak4 n,afA n,akO n] [] n 10 85⟩
def F139:Nat->dQ×Unit->Option (Ti×Unit):=
 λn b=>ai (@iter (Tl) (Ti) (Unit) (Any) (λc=>aj (D.bN c.2.1 (ak b.1.3)) (aC (av c.2.1 b.1.3) (aC (cZ c.1 [(aR b.1.3 (ah
 c.2.1) dG).1]) (Z (LO.next (cP c.1 [(aR b.1.3 (ah c.2.1) dG).1],D.add .i64 c.2.1 1,()))))) (Z (LO.out 0 c))) n ([],0,
 ())) λc=>LO.el c (λ_ e=>Z ((e.1,()),())) (λ_ e=>Z (e,())) λ_ _=>Y
def ak3(n:Nat):OC:=⟨139,⟨P98,K72,J,F139 n⟩,cx [] [(139,0,⟨[(3,.one (.own (.str))),(4,de)],[],[],0⟩)] n 10 139⟩
def XB(b:dQ×Unit)(c:aah)(d:aah):List cw:=
 [cw.mk (aR (aR b.1.2 (ah c.2.1) kJ).2 (ah d.2.1) gV).1 (ak (aR (aR b.1.2 (ah c.2.1) kJ).2 (ah d.2.1)
 gV).2)]
def F140:Nat->dQ×Unit->Option ((List cw×Unit)×Unit):=
 λn b=>ai (@iter (aah) (List cw×Unit) (Unit) (Any) (λc=>aj (D.bN c.2.1 (ak b.1.2)) (ai (@iter (aah) (List cw×Unit)
 (Unit) (Any) (λd=>aC (av c.2.1 b.1.2) (aj (D.bN d.2.1 (ak (aR b.1.2 (ah c.2.1) kJ).2)) (aC (av c.2.1 b.1.2) (aC (av d.2.1
 (aR b.1.2 (ah c.2.1) kJ).2) (aC (cZ d.1 (XB b c d)) (Z (LO.next (cP d.1 (XB b c d),D.add .i64 d.2.1 1,())))))) (Z
 (LO.out 0 d)))) n (c.1,0,())) λd=>LO.el d (λ_ g=>Z (LO.next (g.1,D.add .i64 c.2.1 1,()))) (λ_ g=>Z (LO.ret () g)) λ_ _=>
 Y) (Z (LO.out 0 c))) n ([],0,())) λc=>LO.el c (λ_ e=>Z ((e.1,()),())) (λ_ e=>Z (e,())) λ_ _=>Y
def ak2(n:Nat):OC:=⟨140,⟨P98,K100,J,F140 n⟩,cx [] [(140,0,⟨[(3,.one (.own (.st 2))),(4,de)],[],[],0⟩),(140,2,⟨[(3,.one (.own (.st 2))),(5,de)],[],[],0⟩)] n 10 140⟩
def F141:Nat->List cw×Unit->Option (Ti×Unit):=
 λn b=>ai (@iter (Tl) (Ti) (Unit) (Any) (λc=>aj (D.bN c.2.1 (ak b.1)) (aC (av c.2.1 b.1) (aC (cZ c.1 [(aR b.1 (ah c.2.1)
 bx).1]) (Z (LO.next (cP c.1 [(aR b.1 (ah c.2.1) bx).1],D.add .i64 c.2.1 1,()))))) (Z (LO.out 0 c))) n ([],0,())) λc=>
 LO.el c (λ_ e=>Z ((e.1,()),())) (λ_ e=>Z (e,())) λ_ _=>Y
def ak1(n:Nat):OC:=⟨141,⟨ahS,K72,J,F141 n⟩,cx [] [(141,0,⟨[(3,.one (.own (.str))),(4,de)],[],[],0⟩)] n 10 141⟩
def F190:Nat->List cw×List UInt8×Unit->FN:=
 λn b=>ai (@iter (Int×Unit) (Int×Unit) (Unit) (Any) (λc=>aj (D.bN c.1 (ak b.1)) (aC (av c.1 b.1) (aj (fZ (aR b.1 (ah c.1)
 bx).1 b.2.1) (Z (LO.ret () c)) (Z (LO.next (D.add .i64 c.1 1,()))))) (Z (LO.out 0 c))) n (0,())) λc=>LO.el c (λ_ _=>Z
 (((-1),()),())) (λ_ e=>Z (e,())) λ_ _=>Y
def YW(n:Nat):OC:=⟨190,⟨aot,K2,J,F190 n⟩,cx [] [(190,0,⟨[(5,de)],[],[],0⟩)] n 10 190⟩
abbrev Uz(F:Fn Tz K4 J):kT sg:=⟨Tz,K4,J,F⟩
def B191:Nat->(Y12->Option fH)->Y12->Option fH:=
 λn f191 c=>ai (aj (D.aI c.2.1.1 6) (ai (F190 n (c.1.2,c.2.1.3,())) λd=>aj (D.bN d.1.1 0) (Z (LO.ret () (J,()))) (aC (av
 d.1.1 c.1.2) (aj (D.aO (D.aI (aR c.1.2 (ah d.1.1) bx).2 (ak c.2.1.4))) (Z (LO.ret () (J,()))) (Z (LO.next (J,W,
 ())))))) (Z (LO.next (J,J,())))) λ(d:Kn)=>LO.jn d (λ_=>ai (@iter (Int×Unit) (Bool×Unit) (Unit) (Any) (λg=>aj
 (D.bN g.1 (ak c.2.1.4)) (aC (av g.1 c.2.1.4) (ai (f191 (c.1,aR c.2.1.4 (ah g.1) aL,())) λh=>aj (D.aO h.1.1) (Z (LO.ret ()
 (J,()))) (Z (LO.next (D.add .i64 g.1 1,()))))) (Z (LO.out 0 g))) n (0,())) λg=>LO.el g (λ_ _=>Z ((W,()),())) (λ_ i=>
 Z (i,())) λ_ _=>Y) (λ_ _=>Y) (λ_ g=>Z (g,())) λ_ _=>Y
def D191(n:Nat)(f191:Fn Tz K4 J)(b:bD prog 191 (Uz f191)):bD prog 191 (Uz (B191 n f191)):=cx [YW n,⟨191,Uz f191,b⟩] [(191,0,⟨[(6,de)],[],[],0⟩),(191,1000002,⟨[(4,cX),(9,cX)],[],[],0⟩)] n 10 191
def R191(n k:Nat):(Fn Tz K4 J):=Nat.rec (motive:=λ_=>(Fn Tz K4 J)) (λ_=>Y) (λ_ r=>B191 n r) k
def F191(n:Nat):Fn Tz K4 J:=(R191 n n)
def abw(n:Nat):∀k,bD prog 191 (Uz (R191 n k))
 |0=>bY (enters 191 (by kernel_rfl))
 |k+1=>have b:=abw n k
  D191 n _ b
def akJ(n:Nat):OC:=⟨191,Uz (F191 n),(abw n n)⟩
def F192:Nat->List (List UInt8)×List (List UInt8)×Unit->Option (Ti×Unit):=
 λn b=>aC (cZ b.1 b.2.1) (Z ((cP b.1 b.2.1,()),()))
def afs(n:Nat):OC:=⟨192,⟨aos,K72,J,F192 n⟩,cx [] [] n 10 192⟩
def F193:Nat->Term×Int×Unit->Option (Ti×Unit):=
 λn b=>ai (aj (D.aI b.1.1 5) (Z (LO.next (W,()))) (Z (LO.next (D.aI b.1.1 27,())))) λ(c:LO (Bool×Unit) Ti Unit Any)=>LO.jn
 c (λd=>aj d.1 (Z (([b.1.3],()),())) (aj (D.aI b.1.1 7) (aj (D.aI b.2.1 1) (Z (([b.1.3],()),())) (Z (([],()),()))) (aj (D.aI
 b.1.1 15) (aj (D.bN 0 b.2.1) (aC (av (D.dI .i64 b.2.1 1) b.1.5) (ai (F255 n (aR b.1.5 (ah (D.dI .i64 b.2.1 1)) aL,())) λe=>
 Z e)) (Z (([],()),()))) (Z (([],()),()))))) (λ_ _=>Y) (λ_ e=>Z (e,())) λ_ _=>Y
def afr(n:Nat):OC:=⟨193,⟨aor,K72,J,F193 n⟩,cx [afl n] [(193,1000003,⟨[(7,cX)],[],[],0⟩)] n 10 193⟩
abbrev UI(F:Fn Tx K4 J):kT sg:=⟨Tx,K4,J,F⟩
def B143:Nat->(ahs->Option fH)->ahs->Option fH:=
 λn f143 c=>aj (D.aI c.2.1.1 4) (ai (F142 n (c.2.2.1,c.2.1.3,())) λd=>aj d.1.1 (Z ((W,()),())) (ai (F142 n (c.1.1,c.2.1.3,
 ())) λe=>Z e)) (ai (aj (D.aI c.2.1.1 14) (ai (F190 n (c.1.2,c.2.1.3,())) λd=>aj (D.bN d.1.1 0) (Z (LO.ret () (J,()))) (aC
 (av d.1.1 c.1.2) (aj (D.aO (D.aI (aR c.1.2 (ah d.1.1) bx).2 (ak c.2.1.4))) (Z (LO.ret () (J,()))) (Z (LO.next (J,W,
 ())))))) (Z (LO.next (J,J,())))) λ(d:Kn)=>LO.jn d (λ_=>ai (@iter (Int×Unit) (Bool×Unit) (Unit) (Any) (λg=>aj
 (D.bN g.1 (ak c.2.1.5)) (aC (av g.1 c.2.1.5) (ai (F191 n (c.1,aR c.2.1.5 (ah g.1) aL,())) λh=>aj (D.aO h.1.1) (Z (LO.ret
 () (J,()))) (Z (LO.next (D.add .i64 g.1 1,()))))) (Z (LO.out 0 g))) n (0,())) λg=>LO.el g (λ_ _=>ai (@iter (Int×Unit) (Bool×
 Unit) (Unit) (Any) (λj=>aj (D.bN j.1 (ak c.2.1.4)) (aC (av j.1 c.2.1.4) (ai (F193 n (Term.mk c.2.1.1 c.2.1.2 c.2.1.3 c.2.1.4 c.2.1.5,j))
 λk=>ai (F192 n (c.2.2.1,k.1)) λl=>ai (f143 (c.1,aR c.2.1.4 (ah j.1) pP,l.1)) λm=>aj (D.aO m.1.1) (Z (LO.ret () (J,
 ()))) (Z (LO.next (D.add .i64 j.1 1,()))))) (Z (LO.out 0 j))) n (0,())) λj=>LO.el j (λ_ _=>Z ((W,()),())) (λ_ l=>Z
 (l,())) λ_ _=>Y) (λ_ i=>Z (i,())) λ_ _=>Y) (λ_ _=>Y) (λ_ g=>Z (g,())) λ_ _=>Y)
def D143(n:Nat)(f143:Fn Tx K4 J)(b:bD prog 143 (UI f143)):bD prog 143 (UI (B143 n f143)):=cx [YX n,⟨143,UI f143,b⟩,YW n,akJ n,afs n,afr n] [(143,0,⟨[(8,de)],[],[],0⟩),(143,2,⟨[(9,de)],[],[],0⟩),(143,1000004,⟨[(6,cX),(28,cX)],[],[],0⟩)] n 10 143
def R143(n k:Nat):(Fn Tx K4 J):=Nat.rec (motive:=λ_=>(Fn Tx K4 J)) (λ_=>Y) (λ_ r=>B143 n r) k
def F143(n:Nat):Fn Tx K4 J:=(R143 n n)
def abz(n:Nat):∀k,bD prog 143 (UI (R143 n k))
 |0=>bY (enters 143 (by kernel_rfl))
 |k+1=>have b:=abz n k
  D143 n _ b
def ak0(n:Nat):OC:=⟨143,UI (F143 n),(abz n n)⟩
def F144:Nat->ahy->FN:=
 λn b=>ai (@iter (Int×Unit) (Int×Unit) (Unit) (Any) (λc=>aj (D.ek 0 c.1) (aC (av c.1 b.1) (aj (fZ (aR b.1 (ah c.1) []) b.2.1)
 (Z (LO.ret () c)) (Z (LO.next (D.dI .i64 c.1 1,()))))) (Z (LO.out 0 c))) n (D.dI .i64 (ak b.1) 1,())) λc=>LO.el c (λ_ _=>
 Z (((-1),()),())) (λ_ e=>Z (e,())) λ_ _=>Y
def afz(n:Nat):OC:=⟨144,⟨P71,K2,J,F144 n⟩,cx [] [(144,0,⟨[(5,de)],[],[],0⟩)] n 10 144⟩
abbrev Uy(F:Fn Tw K86 J):kT sg:=⟨Tw,K86,J,F⟩
def PC(g:Y24):zq:=
 (g.2.1.1,g.2.1.2.1,iW (S:=sg) 1 2 (Ty.int .i64) g.2.1.2.2.1 (xA (S:=sg) 1 2 (Ty.int .i64) g.2.1.2.2.1),())
def aeh(h:Y25):zq:=
 (h.2.1.1,h.2.1.2.1,iW (S:=sg) 1 2 (Ty.int .i64) h.2.1.2.2.1 (xA (S:=sg) 1 2 (Ty.int .i64) h.2.1.2.2.1),())
def XM(c:Y26):zq:=
 (c.1.1,c.1.2.1,iW (S:=sg) 1 2 (Ty.int .i64) c.1.2.2.1 (xA (S:=sg) 1 2 (Ty.int .i64) c.1.2.2.1),())
def aeg(h:zq×Y9×Unit):zq:=
 (h.1.1,h.1.2.1,iW (S:=sg) 1 2 (Ty.int .i64) h.1.2.2.1 (xA (S:=sg) 1 2 (Ty.int .i64) h.1.2.2.1),())
def B194:Nat->(Y26->Option Y25)->Y26->Option Y25:=
 λn f194 c=>ai (aj (D.aI c.2.1.1 6) (ai (F190 n (c.1.2.1,c.2.1.3,())) λd=>Z (LO.next (W,(c.2.1.1,d.1.1,[],[],()),()))) (Z
 (LO.next (J,(c.2.1.1,c.2.1.2,[],[],()),())))) λ(d:LO (Bool×Y9×Unit) Unit (Y9×Unit) Any)=>LO.jn d (λe=>ai (@iter (Y24)
 (Unit) (zq×Y9×Unit) (Any) (λg=>aj (D.bN g.1 (ak c.2.1.4)) (aC (av g.1 c.2.1.4) (ai (f194 (PC g,aR c.2.1.4 (ah g.1) aL,
 ())) λh=>aC (cZ g.2.2.1.2.2.2.1 [h.1.1]) (Z (LO.next (D.add .i64 g.1 1,aeh h,(g.2.2.1.1,g.2.2.1.2.1,g.2.2.1.2.2.1,cP
 g.2.2.1.2.2.2.1 [h.1.1],()),()))))) (Z (LO.out 0 (g.1,PC g,g.2.2)))) n (0,XM c,e.2)) λg=>LO.el g (λ_ i=>Z ((aB.mk
 i.2.2.1.1 i.2.2.1.2.1 i.2.2.1.2.2.1 i.2.2.1.2.2.2.1,()),PC i,())) (λh _=>Z ((aL,()),aeg h,())) λ_ _=>Y) (λ_ _=>
 Y) (λ_ _=>Z ((aL,()),XM c,())) λ_ _=>Y
def D194(n:Nat)(f194:Fn Tw K86 J)(b:bD prog 194 (Uy f194)):bD prog 194 (Uy (B194 n f194)):=cx [YW n,⟨194,Uy f194,b⟩] [(194,0,⟨[(6,de),(0,Td),(0,adr)],[.slot 0,.slot 5],[],0⟩),(194,1000003,⟨[(14,cX),(0,adr)],[.slot 5],[],0⟩)] n 10 194
def R194(n k:Nat):(Fn Tw K86 J):=Nat.rec (motive:=λ_=>(Fn Tw K86 J)) (λ_=>Y) (λ_ r=>B194 n r) k
def F194(n:Nat):Fn Tw K86 J:=(R194 n n)
def abv(n:Nat):∀k,bD prog 194 (Uy (R194 n k))
 |0=>bY (enters 194 (by kernel_rfl))
 |k+1=>have b:=abv n k
  D194 n _ b
def akI(n:Nat):OC:=⟨194,Uy (F194 n),(abv n n)⟩
abbrev UG(F:Fn Tv K2 J):kT sg:=⟨Tv,K2,J,F⟩
def PF(g:Bool×M8×Unit):M8×Unit:=
 ((g.2.1.1,g.2.1.2.1,[],g.2.1.2.2.2),())
def PE(i:adF):List (List Int):=
 xA (S:=sg) 1 2 (Ty.int .i64) i.2.1.2.2.1
def XO(i:adF):zq:=
 (i.2.1.1,i.2.1.2.1,iW (S:=sg) 1 2 (Ty.int .i64) i.2.1.2.2.1 (PE i),())
def aek(j:Y25):List (List Int):=
 xA (S:=sg) 1 2 (Ty.int .i64) j.2.1.2.2.1
def aej(j:Y25):zq:=
 (j.2.1.1,j.2.1.2.1,iW (S:=sg) 1 2 (Ty.int .i64) j.2.1.2.2.1 (aek j),())
def XN(c:M7):zq:=
 (c.1.1,c.1.2.1,iW (S:=sg) 1 2 (Ty.int .i64) c.1.2.2.1 (xA (S:=sg) 1 2 (Ty.int .i64) c.1.2.2.1),())
def aei(l:Int×zq×Unit):List (List Int):=
 xA (S:=sg) 1 2 (Ty.int .i64) l.2.1.2.2.1
def PD(l:Int×zq×Unit):zq:=
 (l.2.1.1,l.2.1.2.1,iW (S:=sg) 1 2 (Ty.int .i64) l.2.1.2.2.1 (aei l),())
def uT(c:M7):Nat:=
 ah (ak c.1.2.2.1)
def CM(p:O4):List (List Int):=
 xA (S:=sg) 1 2 (Ty.int .i64) p.2.1.2.2.1
def aaq(m:zq×Unit):zq:=
 (m.1.1,m.1.2.1,iW (S:=sg) 1 2 (Ty.int .i64) m.1.2.2.1 (xA (S:=sg) 1 2 (Ty.int .i64) m.1.2.2.1),())
def aap(n:Nat)(f145:M7->Option O4)(m:zq×Unit):adE:=
 λo=>Z (o,aaq m,())
def aao(j:zq×M8×Unit):zq:=
 (j.1.1,j.1.2.1,iW (S:=sg) 1 2 (Ty.int .i64) j.1.2.2.1 (xA (S:=sg) 1 2 (Ty.int .i64) j.1.2.2.1),())
def aan(n:Nat)(f145:M7->Option O4)(j:zq×M8×Unit):adE:=
 λk=>Z (k,aao j,())
def Rg(n:Nat)(f145:M7->Option O4)(c:M7):adE:=
 λi=>Z (i,XN c,())
def B145:Nat->(M7->Option O4)->M7->Option O4:=
 λn f145 c=>ai (aj (D.aI c.2.1.1 4) (ai (F144 n (c.2.2.1,c.2.1.3,())) λd=>ai (aj (D.bN d.1.1 0) (ai (F144 n (c.1.1,c.2.1.3,()))
 λe=>Z (LO.next (W,(c.2.1.1,D.dI .i64 (-1) e.1.1,[],[],()),()))) (Z (LO.next (J,(c.2.1.1,d.1.1,[],[],()),())))) λ(e :
 adD)=>LO.jn e (λg=>Z (LO.next (W,PF g))) (λ_ _=>Y) (λg h=>Z (LO.ret ((g.1.1,g.1.2.1,[],g.1.2.2.2),()) h)) λ_
 _=>Y) (Z (LO.next (J,(c.2.1.1,c.2.1.2,[],[],()),())))) λ(d:adD)=>LO.jn d (λe=>ai (aj (D.aI c.2.1.1 14) (ai (F190 n
 (c.1.2.1,c.2.1.3,())) λg=>Z (LO.next (W,(e.2.1.1,g.1.1,[],e.2.1.2.2.2),()))) (Z (LO.next (J,PF e)))) λ(g:adD)=>
 LO.jn g (λh=>ai (@iter (adF) (Int×Unit) (zq×M8×Unit) (Any) (λi=>aj (D.bN i.1 (ak c.2.1.5)) (aC (av i.1 c.2.1.5) (ai (F194
 n (XO i,aR c.2.1.5 (ah i.1) aL,())) λj=>aC (cZ i.2.2.1.2.2.2.1 [j.1.1]) (Z (LO.next (D.add .i64 i.1 1,aej j,(i.2.2.1.1,
 i.2.2.1.2.1,[],cP i.2.2.1.2.2.2.1 [j.1.1],()),()))))) (Z (LO.out 0 (i.1,XO i,(i.2.2.1.1,i.2.2.1.2.1,[],i.2.2.1.2.2.2),())))) n (0,
 XN c,PF h)) λi=>LO.el i (λ_ k=>aC (D.fA (YK k.2.1.2.2.1 (PE k)) (cZ k.2.1.2.2.1 [bp.mk k.2.2.1.1 k.2.2.1.2.1 []
 k.2.2.1.2.2.2.1])) (ai (@iter (Int×zq×Unit) (Int×Unit) (zq×Unit) (Any) (λl=>aj (D.bN l.1 (ak c.2.1.4)) (aC (av l.1 c.2.1.4) (ai
 (F193 n (Term.mk c.2.1.1 c.2.1.2 c.2.1.3 c.2.1.4 c.2.1.5,l.1,())) λm=>ai (F192 n (c.2.2.1,m.1)) λo=>ai (f145 (PD l,aR c.2.1.4
 (ah l.1) pP,o.1)) λp=>aC (av (ak c.1.2.2.1) p.2.1.2.2.1) (aC (ct (uT c) p.2.1.2.2.1) (aC (D.fA (ct (uT c) (CM p))
 (cZ (aR (CM p) (uT c) []) [p.1.1])) (aC (av (ak c.1.2.2.1) p.2.1.2.2.1) (aC (VI (uT c) p.2.1.2.2.1 (uT c) (uT c))
 (Z (LO.next (D.add .i64 l.1 1,(p.2.1.1,p.2.1.2.1,iW (S:=sg) 1 2 (Ty.int .i64) p.2.1.2.2.1 (dO (CM p) (uT c) (cP (aR (CM
 p) (uT c) []) [p.1.1])),()),()))))))))) (Z (LO.out 0 (l.1,PD l,())))) n (0,(k.2.1.1,k.2.1.2.1,iW (S:=sg) 1 2 (Ty.int .i64) (cP
 k.2.1.2.2.1 [bp.mk k.2.2.1.1 k.2.2.1.2.1 [] k.2.2.1.2.2.2.1]) (cP (PE k) [[]]),()),())) λl=>LO.el l (λ_ o=>Z ((ak
 c.1.2.2.1,()),PD o,())) (λm=>aap n f145 m) λ_ _=>Y)) (λj=>aan n f145 j) λ_ _=>Y) (λ_ _=>Y) (λ_=>
 Rg n f145 c) λ_ _=>Y) (λ_ _=>Y) (λ_=>Rg n f145 c) λ_ _=>Y
def D145(n:Nat)(f145:Fn Tv K2 J)(b:bD prog 145 (UG f145)):bD prog 145 (UG (B145 n f145)):=cx [afz n,⟨145,UG f145,b⟩,YW n,afs n,afr n,akI n] [(145,0,⟨[(9,de),(0,Td),(0,Z6)],[.slot 0,.slot 8],[],0⟩),(145,2,⟨[(10,de),(0,Td)],[.slot 0],[],0⟩),(145,1000004,⟨[(24,cX),(0,Z6)],[.slot 8],[],0⟩),(145,1000006,⟨[(32,cX),(0,Z6)],[.slot 8],[],0⟩),(145,1000008,⟨[(44,cX),(0,Z6)],[.slot 8],[],0⟩)] n 10 145
def R145(n k:Nat):(Fn Tv K2 J):=Nat.rec (motive:=λ_=>(Fn Tv K2 J)) (λ_=>Y) (λ_ r=>B145 n r) k
def F145(n:Nat):Fn Tv K2 J:=(R145 n n)
def aby(n:Nat):∀k,bD prog 145 (UG (R145 n k))
 |0=>bY (enters 145 (by kernel_rfl))
 |k+1=>have b:=aby n k
  D145 n _ b
def akZ(n:Nat):OC:=⟨145,UG (F145 n),(aby n n)⟩
def ahX(b:dQ×Unit)(k:Int×JK×Unit):ahz:=
 (Term.mk (aR b.1.3 (ah k.1) dG).5.1 (aR b.1.3 (ah k.1) dG).5.2 (aR b.1.3 (ah k.1) dG).5.3 (aR b.1.3 (ah k.1)
 dG).5.4 (aR b.1.3 (ah k.1) dG).5.5,[(aR b.1.3 (ah k.1) dG).2],())
def Ih(k:Int×JK×Unit):JK×Unit:=
 (([],[],k.2.1.2.2.1,[],()),())
def Xa(p:adJ):List bp:=
 iW (S:=sg) 1 2 (Ty.int .i64) p.2.2.1.2.2.1 (xA (S:=sg) 1 2 (Ty.int .i64) p.2.2.1.2.2.1)
def ahW(b:dQ×Unit)(p:adJ):ahz:=
 (Term.mk (aR b.1.3 (ah p.1) dG).5.1 (aR b.1.3 (ah p.1) dG).5.2 (aR b.1.3 (ah p.1) dG).5.3 (aR b.1.3 (ah p.1)
 dG).5.4 (aR b.1.3 (ah p.1) dG).5.5,[(aR b.1.3 (ah p.1) dG).2],())
def F86:Nat->dQ×Unit->Option ((aA×Int×Unit)×Unit):=
 λn b=>ai (F138 n b) λc=>aj (D.aO c.1.1) (Z ((kK,2,()),())) (ai (F139 n b) λd=>ai (F140 n b) λe=>ai (F94 n d.1)
 λg=>aj (D.aO g.1.1) (Z ((kK,7,()),())) (ai (F141 n e.1) λh=>ai (F94 n h.1) λi=>aj (D.aO i.1.1) (Z ((kK,
 7,()),())) (ai (F142 n (d.1.1,[109,97,105,110],())) λj=>aj (D.aO j.1.1) (Z ((kK,7,()),())) (ai (@iter (Int×JK×Unit)
 (Int×Unit) (JK×Unit) (Any) (λk=>aj (D.bN k.1 (ak b.1.3)) (aC (av k.1 b.1.3) (aC (av k.1 b.1.3) (ai (F143 n (dA.mk
 d.1.1 e.1.1 [],ahX b k)) λl=>aj (D.aO l.1.1) (Z (LO.ret (([],[],0,[],()),()) (7,()))) (Z (LO.next (D.add .i64 k.1 1,Ih
 k)))))) (Z (LO.out 0 (k.1,Ih k)))) n (0,([],[],0,[],()),())) λk=>LO.el k (λ_ m=>ai (F144 n (d.1.1,[109,97,105,110],()))
 λo=>ai (@iter (adJ) (Int×Unit) (JK×zq×Unit) (Any) (λp=>aj (D.bN p.1 (ak b.1.3)) (aC (cZ p.2.1.2.1 [ak p.2.2.1.2.2.1])
 (aC (av p.1 b.1.3) (aC (av p.1 b.1.3) (ai (F145 n ((p.2.2.1.1,p.2.2.1.2.1,Xa p,()),ahW b p)) λq=>Z (LO.next (D.add .i64 p.1 1,
 ([],cP p.2.1.2.1 [ak p.2.2.1.2.2.1],p.2.1.2.2),(q.2.1.1,q.2.1.2.1,iW (S:=sg) 1 2 (Ty.int .i64) q.2.1.2.2.1 (xA (S:=sg) 1 2 (Ty.int .i64)
 q.2.1.2.2.1),()),())))))) (Z (LO.out 0 (p.1,([],p.2.1.2),(p.2.2.1.1,p.2.2.1.2.1,Xa p,()),())))) n (0,([],[],o.1.1,e.1),(d.1.1,
 e.1.1,[],()),())) λp=>LO.el p (λ_ r=>ai (@iter (Int×JK×Unit) (Int×Unit) (JK×Unit) (Any) (λs=>aj (D.bN s.1 (ak
 r.2.2.1.2.2.1)) (aC (av s.1 r.2.2.1.2.2.1) (aC (ct (ah s.1) r.2.2.1.2.2.1) (aj (D.aI (aR r.2.2.1.2.2.1 (ah s.1) aN).1 4) (aC (av
 s.1 r.2.2.1.2.2.1) (aC (ct (ah s.1) r.2.2.1.2.2.1) (aj (D.ek 30 (aR r.2.2.1.2.2.1 (ah s.1) aN).2) (Z (LO.ret (([],[],0,[],()),
 ()) (3,()))) (Z (LO.next (D.add .i64 s.1 1,Ih s)))))) (Z (LO.next (D.add .i64 s.1 1,Ih s)))))) (Z (LO.out 0 (s.1,Ih s)))) n (0,
 Ih m)) λs=>LO.el s (λ_ _=>Z ((aA.mk (Xa r) r.2.1.2.1 r.2.1.2.2.1 r.2.1.2.2.2.1,0,()),())) (λt u=>Z ((aA.mk []
 [] t.1.2.2.1 [],u),())) λ_ _=>Y) (λ_ r=>Z ((aA.mk [] [] m.2.1.2.2.1 [],r),())) λ_ _=>Y) (λl m=>Z
 ((aA.mk [] [] l.1.2.2.1 [],m),())) λ_ _=>Y))))
def k86(n:Nat):OC:=⟨86,⟨P98,K109,J,F86 n⟩,cx [k94 n,afA n,ak3 n,ak2 n,ak1 n,YX n,ak0 n,afz n,akZ n] [(86,0,⟨[(5,de),(0,ag5)],[.slot 2],[],0⟩),(86,2,⟨[(7,de),(0,.box (.cells [.nil (.st 1),.own (.int .i64),lF,b8y])),(0,Td)],[.slot 6,.slot 18],[],0⟩),(86,4,⟨[(8,de),(0,ag5)],[.slot 2],[],0⟩)] n 10 86⟩
def F45:Nat->List UInt8×Unit->ahp:=
 λn b=>ai (F85 n b) λc=>ai (F86 n (c.1.1,())) λd=>Z ((d.1.1,()),())
def k45(n:Nat):OC:=⟨45,⟨P7,K110,J,F45 n⟩,cx [k85 n,k86 n] [] n 10 45⟩
def abf(n:Nat):ahp:=
 F45 n ([109,111,100,117,108,101,32,97,32,123,32,102,117,110,32,109,97,105,110,40,117,32,58,32,117,110,105,116,41,32,58,
 32,105,110,116,32,61,32,108,101,116,32,99,32,61,32,99,101,108,108,40,49,41,32,105,110,32,108,101,116,32,120,32,61,32,
 111,117,116,40,48,44,32,103,101,116,40,99,41,41,32,105,110,32,108,101,116,32,121,32,61,32,112,117,116,40,99,44,32,105,
 110,112,117,116,41,32,105,110,32,103,101,116,40,99,41,32,43,32,49,59,32,125],())
def wN(n:Nat):Option fH:=
 Z ((J,()),())
def No(e:Y80):aE:=
 aR e.1.2.1 (ah 2) aZ
def Nn(e:Y80):aE:=
 aR e.1.2.1 (ah 5) aZ
def F13:Nat->Unit->Option fH:=
 λn _=>ai (F45 n ([109,111,100,117,108,101,32,98,32,123,32,102,117,110,32,119,111,114,107,40,99,32,58,32,99,104,97,110,
 32,105,110,116,41,32,58,32,117,110,105,116,32,61,32,108,101,116,32,120,32,61,32,115,101,110,100,40,99,44,32,53,41,32,
 105,110,32,115,101,110,100,40,99,44,32,54,41,59,32,102,117,110,32,109,97,105,110,40,117,32,58,32,117,110,105,116,41,
 32,58,32,105,110,116,32,61,32,108,101,116,32,99,32,61,32,99,104,97,110,32,105,110,32,108,101,116,32,116,32,61,32,115,
 112,97,119,110,40,102,117,110,32,117,32,61,62,32,119,111,114,107,32,99,41,32,105,110,32,116,97,107,101,40,99,41,32,43,
 32,114,101,115,101,116,40,49,32,43,32,40,115,104,105,102,116,32,107,32,61,62,32,107,32,40,107,32,49,48,41,41,41,59,
 32,125],())) λc=>ai (F14 n (c.1.1,[],())) λd=>ai (F21 n (c.1.1,d.1.1,[0,0,1,1,0,0,1],())) λe=>ai (F28 n (c.1.1,e.1.1,
 ())) λg=>ai (abf n) λh=>ai (F14 n (h.1.1,[],())) λi=>ai (abf n) λj=>ai (F32 n (j.1.1,i.1.1,0,())) λk=>aj (D.aO
 (D.aI d.1.2.1 0)) (wN n) (aj (D.aO (D.aI e.1.2.2.1 0)) (wN n) (aj (D.aO (D.aI g.1.2.1 0)) (wN n) (aj (D.aO (D.aI i.1.2.1 0))
 (wN n) (aj (D.aO (D.aI k.1.2.2.2.1 0)) (wN n) (aj (D.aO (D.aI (ak e.1.2.1) 7)) (wN n) (aC (av 2 e.1.2.1) (ai (F25 n (5,())) λ
 l=>aj (D.fA (D.aI (No e).1 1) (D.fA (D.aI (No e).2 22) (D.fA (D.aI (No e).3 0) (D.fA (D.aI (No e).4.1 l.1.1.1) (D.fA
 (D.aI (No e).4.2 l.1.1.2) W))))) (aC (av 5 e.1.2.1) (ai (F25 n (17,())) λm=>aj (D.fA (D.aI (Nn e).1 0) (D.fA (D.aI (Nn
 e).2 0) (D.fA (D.aI (Nn e).3 1) (D.fA (D.aI (Nn e).4.1 m.1.1.1) (D.fA (D.aI (Nn e).4.2 m.1.1.2) W))))) (aj (D.aI (ak g.1.1.1)
 2) (ai (F25 n (1,())) λo=>aj (D.fA (D.aI k.1.2.1.1 0) (D.fA (D.aI k.1.2.1.2 16) (D.fA (D.aI k.1.2.1.3 0) (D.fA (D.aI k.1.2.1.4.1
 o.1.1.1) (D.fA (D.aI k.1.2.1.4.2 o.1.1.2) W))))) (Z ((D.aI k.1.2.2.1 8,()),())) (wN n)) (wN n)) (wN n))) (wN n))))))))
def k13(n:Nat):OC:=⟨13,⟨[],K4,J,F13 n⟩,cx [k14 n,k21 n,k25 n,k28 n,k32 n,k45 n] [] n 10 13⟩
def F52:Y69:=
 λn b=>aj (D.ek b.2.1 b.1) (Z ((D.ek b.1 b.2.2.1,()),())) (Z ((J,()),()))
def k52(n:Nat):OC:=⟨52,⟨P6,K4,J,F52 n⟩,cx [] [] n 10 52⟩
def F53:Nat->List cw×Unit->Option fH:=
 λn b=>ai (@iter (Tl) (Bool×Unit) (Unit) (Any) (λc=>aj (D.bN c.2.1 (ak b.1)) (aC (av c.2.1 b.1) (ai (F93 n ((aR b.1 (ah c.2.1)
 bx).1,())) λd=>aj (D.aO d.1.1) (Z (LO.ret () (J,()))) (aC (av c.2.1 b.1) (ai (F52 n ((aR b.1 (ah c.2.1) bx).2,0,
 3,())) λe=>aj (D.aO e.1.1) (Z (LO.ret () (J,()))) (aC (av c.2.1 b.1) (aC (cZ c.1 [(aR b.1 (ah c.2.1) bx).1]) (Z
 (LO.next (cP c.1 [(aR b.1 (ah c.2.1) bx).1],D.add .i64 c.2.1 1,()))))))))) (Z (LO.out 0 c))) n ([],0,())) λc=>LO.el c (λ_ e
 =>aj (D.ek (ak b.1) 20) (ai (F94 n (e.1,())) λg=>Z g) (Z ((J,()),()))) (λ_ e=>Z (e,())) λ_ _=>Y
def k53(n:Nat):OC:=⟨53,⟨ahS,K4,J,F53 n⟩,cx [k52 n,k93 n,k94 n] [(53,0,⟨[(3,.one (.own (.str))),(4,de)],[],[],0⟩)] n 10 53⟩
abbrev q95(F:Fn Tu K4 J):kT sg:=⟨Tu,K4,J,F⟩
def Ns(n:Nat)(f95:Y52->Option fH)(c:Y52):Bool×Int×Unit->Option Y53:=
 λi=>aj (D.bN i.2.1 (ak c.1.4)) (aj i.1 (aC (av i.2.1 c.1.4) (ai (f95 (aR c.1.4 (ah i.2.1) aL,c.2)) λj=>Z (LO.next
 (j.1.1,D.add .i64 i.2.1 1,())))) (Z (LO.out 0 i))) (Z (LO.out 0 i))
def Nr(n:Nat)(f95:Y52->Option fH):Y53->Option fH:=
 λi=>LO.el i (λ_ k=>Z ((k.1,()),())) (λ_ k=>Z (k,())) λ_ _=>Y
def B95:Nat->(Y52->Option fH)->Y52->Option fH:=
 λn f95 c=>ai (aj (D.aI c.1.1 1) (Z (LO.next (W,()))) (ai (aj (D.aI c.1.1 2) (Z (LO.next (W,()))) (Z (LO.next (D.aI c.1.1
 5,())))) λ(d:Fi)=>LO.jn d (λe=>Z (LO.next e)) (λ_ _=>Y) (λ_ g=>Z (LO.ret () g)) λ_ _=>Y)) λ(d:Fi)=>
 LO.jn d (λe=>ai (aj e.1 (aj (D.aI (ak c.1.4) 0) (Z (LO.next (D.aI c.1.2 0,W,()))) (Z (LO.next (J,W,())))) (ai (aj
 (D.aI c.1.1 3) (aj (D.aI (ak c.1.4) 0) (ai (F52 n (c.1.2,(-1000000000),1000000000,())) λg=>Z (LO.next (g.1.1,W,()))) (Z
 (LO.next (J,W,())))) (ai (aj (D.aI c.1.1 4) (aj (D.aI (ak c.1.4) 0) (ai (F52 n (c.1.2,0,1,())) λg=>Z (LO.next (g.1.1,W,
 ()))) (Z (LO.next (J,W,())))) (ai (aj (D.aI c.1.1 6) (ai (F52 n (c.1.2,0,D.dI .i64 (ak c.2.1) 1,())) λg=>aj g.1.1 (aC
 (av c.1.2 c.2.1) (Z (LO.next (D.aI (ak c.1.4) (aR c.2.1 (ah c.1.2) bx).2,W,())))) (Z (LO.next (J,W,())))) (Z
 (LO.next (J,J,())))) λ(g:Kn)=>LO.jn g (λh=>Z (LO.next (h.1,J,()))) (λ_ _=>Y) (λ_ i=>Z (LO.ret () i))
 λ_ _=>Y)) λ(g:Kn)=>LO.jn g (λh=>Z (LO.next (h.1,J,()))) (λ_ _=>Y) (λ_ i=>Z (LO.ret () i)) λ_ _=>
 Y)) λ(g:Kn)=>LO.jn g (λh=>Z (LO.next (h.1,J,()))) (λ_ _=>Y) (λ_ i=>Z (LO.ret () i)) λ_ _=>Y)) λ(g :
 Kn)=>LO.jn g (λh=>aj h.1 (ai (@iter (Bool×Int×Unit) (Bool×Unit) (Unit) (Any) (Ns n f95 c) n (fZ c.1.3 [],0,())) (Nr n f95))
 (ai (@iter (Bool×Int×Unit) (Bool×Unit) (Unit) (Any) (Ns n f95 c) n (J,0,())) (Nr n f95))) (λ_ _=>Y) (λ_ i=>Z (i,
 ())) λ_ _=>Y) (λ_ _=>Y) (λ_ g=>Z (g,())) λ_ _=>Y
def D95(n:Nat)(f95:Fn Tu K4 J)(b:bD prog 95 (q95 f95)):bD prog 95 (q95 (B95 n f95)):=cx [k52 n,⟨95,q95 f95,b⟩] [(95,1,⟨[(5,cX),(7,de)],[],[],0⟩),(95,1000005,⟨[(13,cX)],[],[],0⟩),(95,1000006,⟨[(13,cX)],[],[],0⟩),(95,1000007,⟨[(5,cX),(13,cX)],[],[],0⟩),(95,1000009,⟨[(5,cX),(24,cX)],[],[],0⟩),(95,1000011,⟨[(5,cX),(33,cX)],[],[],0⟩),(95,1000013,⟨[(5,cX),(42,cX)],[],[],0⟩)] n 10 95
def R95(n k:Nat):(Fn Tu K4 J):=Nat.rec (motive:=λ_=>(Fn Tu K4 J)) (λ_=>Y) (λ_ r=>B95 n r) k
def F95(n:Nat):Fn Tu K4 J:=(R95 n n)
def ah2(n:Nat):∀k,bD prog 95 (q95 (R95 n k))
 |0=>bY (enters 95 (by kernel_rfl))
 |k+1=>have b:=ah2 n k
  D95 n _ b
def k95(n:Nat):OC:=⟨95,q95 (F95 n),(ah2 n n)⟩
def Fj(n:Nat):O5->Option O5:=
 λc=>LO.jn c (λd=>Z (LO.next d)) (λ_ _=>Y) (λ_ e=>Z (LO.ret () e)) λ_ _=>Y
def zB(n:Nat):O5->Option O5:=
 λe=>LO.jn e (λg=>Z (LO.next g)) (λ_ _=>Y) (λ_ h=>Z (LO.ret () h)) λ_ _=>Y
def zA(n:Nat):O5->Option O5:=
 λh=>LO.jn h (λi=>Z (LO.next i)) (λ_ _=>Y) (λ_ j=>Z (LO.ret () j)) λ_ _=>Y
def F96:Nat->Y68->FN:=
 λn b=>ai (aj (D.aI b.1 1) (Z (LO.next (W,()))) (ai (aj (D.aI b.1 2) (Z (LO.next (W,()))) (ai (aj (D.aI b.1 3) (Z
 (LO.next (W,()))) (ai (aj (D.aI b.1 4) (Z (LO.next (W,()))) (ai (aj (D.aI b.1 21) (Z (LO.next (W,()))) (ai (aj (D.aI b.1 25)
 (Z (LO.next (W,()))) (Z (LO.next (D.aI b.1 28,())))) (Fj n))) (Fj n))) (Fj n))) (Fj n))) (Fj n))) λ(c:O5)=>LO.jn c
 (λd=>aj d.1 (Z ((0,()),())) (ai (aj (D.aI b.1 5) (Z (LO.next (W,()))) (ai (aj (D.aI b.1 27) (Z (LO.next (W,()))) (ai
 (aj (D.aI b.1 16) (Z (LO.next (W,()))) (ai (aj (D.aI b.1 17) (Z (LO.next (W,()))) (ai (aj (D.aI b.1 19) (Z (LO.next (W,
 ()))) (ai (aj (D.aI b.1 20) (Z (LO.next (W,()))) (ai (aj (D.aI b.1 23) (Z (LO.next (W,()))) (ai (aj (D.aI b.1 26) (Z (LO.next
 (W,()))) (Z (LO.next (D.aI b.1 24,())))) (zB n))) (zB n))) (zB n))) (zB n))) (zB n))) (zB n))) (zB n))) λ(e:O5)=>
 LO.jn e (λg=>aj g.1 (Z ((1,()),())) (ai (aj (D.aI b.1 6) (Z (LO.next (W,()))) (ai (aj (D.aI b.1 7) (Z (LO.next (W,())))
 (ai (aj (D.aI b.1 9) (Z (LO.next (W,()))) (ai (aj (D.aI b.1 10) (Z (LO.next (W,()))) (ai (aj (D.aI b.1 11) (Z (LO.next (W,
 ()))) (ai (aj (D.aI b.1 12) (Z (LO.next (W,()))) (ai (aj (D.aI b.1 13) (Z (LO.next (W,()))) (ai (aj (D.aI b.1 18) (Z (LO.next
 (W,()))) (Z (LO.next (D.aI b.1 22,())))) (zA n))) (zA n))) (zA n))) (zA n))) (zA n))) (zA n))) (zA n))) λ(h:O5)=>
 LO.jn h (λi=>aj i.1 (Z ((2,()),())) (aj (D.aI b.1 8) (Z ((3,()),())) (aj (D.aI b.1 15) (Z ((D.add .i64 1 b.2.1,()),())) (aj
 (D.aI b.1 14) (Z (b.2.2,())) (Z (((-1),()),())))))) (λ_ _=>Y) (λ_ j=>Z (j,())) λ_ _=>Y)) (λ_ _=>Y) (λ_ h
 =>Z (h,())) λ_ _=>Y)) (λ_ _=>Y) (λ_ e=>Z (e,())) λ_ _=>Y
def k96(n:Nat):OC:=⟨96,⟨P6,K2,J,F96 n⟩,cx [] [(96,1000003,⟨[(8,cX)],[],[],0⟩),(96,1000004,⟨[(8,cX)],[],[],0⟩),(96,1000005,⟨[(8,cX)],[],[],0⟩),(96,1000006,⟨[(8,cX)],[],[],0⟩),(96,1000007,⟨[(8,cX)],[],[],0⟩),(96,1000008,⟨[(8,cX)],[],[],0⟩),(96,1000011,⟨[(16,cX)],[],[],0⟩),(96,1000012,⟨[(16,cX)],[],[],0⟩),(96,1000013,⟨[(16,cX)],[],[],0⟩),(96,1000014,⟨[(16,cX)],[],[],0⟩),(96,1000015,⟨[(16,cX)],[],[],0⟩),(96,1000016,⟨[(16,cX)],[],[],0⟩),(96,1000017,⟨[(16,cX)],[],[],0⟩),(96,1000018,⟨[(16,cX)],[],[],0⟩),(96,1000021,⟨[(26,cX)],[],[],0⟩),(96,1000022,⟨[(26,cX)],[],[],0⟩),(96,1000023,⟨[(26,cX)],[],[],0⟩),(96,1000024,⟨[(26,cX)],[],[],0⟩),(96,1000025,⟨[(26,cX)],[],[],0⟩),(96,1000026,⟨[(26,cX)],[],[],0⟩),(96,1000027,⟨[(26,cX)],[],[],0⟩),(96,1000028,⟨[(26,cX)],[],[],0⟩)] n 10 96⟩
def F54:Nat->aA×bp×Unit->Option fH:=
 λn b=>ai (aj (D.aI b.2.1.1 1) (ai (F52 n (b.2.1.2,(-1000000000),1000000000,())) λc=>Z (LO.next (0,c.1.1,W,()))) (ai (aj
 (D.aI b.2.1.1 2) (ai (F52 n (b.2.1.2,0,1,())) λc=>Z (LO.next (0,c.1.1,W,()))) (ai (aj (D.aI b.2.1.1 4) (ai (F52 n (b.2.1.2,
 D.neg .i64 (ak b.1.2),29,())) λc=>Z (LO.next (0,c.1.1,W,()))) (ai (aj (D.aI b.2.1.1 24) (ai (F52 n (b.2.1.2,0,3,())) λc=>
 Z (LO.next (0,c.1.1,W,()))) (ai (aj (D.aI b.2.1.1 14) (ai (F52 n (b.2.1.2,0,D.dI .i64 (ak b.1.4) 1,())) λc=>ai (aj c.1.1
 (aC (av b.2.1.2 b.1.4) (Z (LO.next ((aR b.1.4 (ah b.2.1.2) bx).2,W,())))) (Z (LO.next (0,J,())))) λ(d:LO (Int×Bool
 ×Unit) (Bool×Unit) Unit Any)=>LO.jn d (λe=>Z (LO.next (e.1,c.1.1,W,()))) (λ_ _=>Y) (λ_ g=>Z (LO.ret () g)) λ_ _
 =>Y) (Z (LO.next (0,D.aI b.2.1.2 0,J,())))) λ(c:Y70)=>LO.jn c (λd=>Z (LO.next (d.1,d.2.1,J,()))) (λ_ _=>Y)
 (λ_ e=>Z (LO.ret () e)) λ_ _=>Y)) λ(c:Y70)=>LO.jn c (λd=>Z (LO.next (d.1,d.2.1,J,()))) (λ_ _=>Y) (λ_ e
 =>Z (LO.ret () e)) λ_ _=>Y)) λ(c:Y70)=>LO.jn c (λd=>Z (LO.next (d.1,d.2.1,J,()))) (λ_ _=>Y) (λ_ e=>Z
 (LO.ret () e)) λ_ _=>Y)) λ(c:Y70)=>LO.jn c (λd=>Z (LO.next (d.1,d.2.1,J,()))) (λ_ _=>Y) (λ_ e=>Z (LO.ret
 () e)) λ_ _=>Y)) λ(c:Y70)=>LO.jn c (λd=>ai (aj (D.aI b.2.1.1 15) (aj d.2.1 (ai (F52 n (ak b.2.1.4,1,5,())) λe=>Z
 (LO.next (e.1.1,W,()))) (Z (LO.next (J,W,())))) (aj d.2.1 (Z (LO.next (D.aI (ak b.2.1.4) 0,J,()))) (Z (LO.next (J,
 J,()))))) λ(e:Kn)=>LO.jn e (λg=>ai (@iter (Bool×Int×Unit) (Bool×Unit) (Unit) (Any) (λh=>aj (D.bN h.2.1 (ak b.2.1.4))
 (aj h.1 (aC (av h.2.1 b.2.1.4) (ai (F83 n (aR b.2.1.4 (ah h.2.1) aL,12,())) λi=>aj (D.ek 0 i.1.1) (aC (av h.2.1 b.2.1.4) (ai
 (F95 n (aR b.2.1.4 (ah h.2.1) aL,b.1.4,())) λj=>Z (LO.next (j.1.1,D.add .i64 h.2.1 1,())))) (Z (LO.next (J,D.add .i64
 h.2.1 1,()))))) (Z (LO.out 0 h))) (Z (LO.out 0 h))) n (g.1,0,())) λh=>LO.el h (λ_ j=>aj j.1 (ai (F96 n (b.2.1.1,ak b.2.1.4,
 d.1,())) λk=>Z ((D.aI (ak b.2.1.3) k.1.1,()),())) (Z ((J,()),()))) (λ_ j=>Z (j,())) λ_ _=>Y) (λ_ _=>Y)
 (λ_ h=>Z (h,())) λ_ _=>Y) (λ_ _=>Y) (λ_ e=>Z (e,())) λ_ _=>Y
def k54(n:Nat):OC:=⟨54,⟨aoq,K4,J,F54 n⟩,cx [k52 n,k83 n,k95 n,k96 n] [(54,1,⟨[(6,cX),(7,de)],[],[],0⟩),(54,1000005,⟨[(5,de),(6,cX),(13,cX)],[],[],0⟩),(54,1000007,⟨[(5,de),(6,cX),(18,cX)],[],[],0⟩),(54,1000009,⟨[(5,de),(6,cX),(23,cX)],[],[],0⟩),(54,1000011,⟨[(5,de),(6,cX),(32,cX)],[],[],0⟩),(54,1000013,⟨[(5,de),(6,cX),(37,cX)],[],[],0⟩),(54,1000015,⟨[(5,de),(46,cX)],[],[],0⟩),(54,1000017,⟨[(6,cX),(56,cX)],[],[],0⟩)] n 10 54⟩
def BO(b:aA×Unit)(j:WU)(l:WU):Int:=
 aR (aR b.1.1 (ah j.2.1) aN).3 (ah l.2.1) 0
def F15:Y83:=
 λn b=>aj (D.bN 300 (ak b.1.1)) (Z ((J,()),())) (ai (F52 n (ak b.1.2,1,ak b.1.1,())) λc=>aj (D.aO c.1.1) (Z
 ((J,()),())) (ai (F52 n (b.1.3,0,D.dI .i64 (ak b.1.2) 1,())) λd=>aj (D.aO d.1.1) (Z ((J,()),())) (ai (F53 n (b.1.4,
 ())) λe=>aj (D.aO e.1.1) (Z ((J,()),())) (aC (Ch (YD (ak b.1.1)) (ia (ak b.1.1) (ak b.1.1))) (ai (@iter (WU) (Bool×
 Unit) (Unit) (Any) (λg=>aj (D.bN g.2.1 (ak b.1.2)) (aC (av g.2.1 b.1.2) (ai (F52 n (aR b.1.2 (ah g.2.1) 0,0,D.dI .i64 (ak b.1.1)
 1,())) λh=>aj (D.aO h.1.1) (Z (LO.ret () (J,()))) (aC (av g.2.1 b.1.2) (aC (av (aR b.1.2 (ah g.2.1) 0) g.1) (aC (ct (ah
 (aR b.1.2 (ah g.2.1) 0)) g.1) (aj (aR g.1 (ah (aR b.1.2 (ah g.2.1) 0)) J) (Z (LO.ret () (J,()))) (aC (av g.2.1 b.1.2) (aC
 (av (aR b.1.2 (ah g.2.1) 0) g.1) (aC (ct (ah (aR b.1.2 (ah g.2.1) 0)) g.1) (Z (LO.next (dO g.1 (ah (aR b.1.2 (ah g.2.1) 0))
 W,D.add .i64 g.2.1 1,())))))))))))) (Z (LO.out 0 g))) n (IM (ah (ak b.1.1)) J,0,())) λg=>LO.el g (λ_ i=>ai (@iter (WU)
 (Bool×Unit) (Unit) (Any) (λj=>aj (D.bN j.2.1 (ak b.1.1)) (aC (av j.2.1 b.1.1) (ai (F54 n (b.1,aR b.1.1 (ah j.2.1) aN,()))
 λk=>aj (D.aO k.1.1) (Z (LO.ret () (J,()))) (ai (@iter (WU) (Bool×Unit) (Unit) (Any) (λl=>aC (av j.2.1 b.1.1) (aj (D.bN
 l.2.1 (ak (aR b.1.1 (ah j.2.1) aN).3)) (aC (av j.2.1 b.1.1) (aC (av l.2.1 (aR b.1.1 (ah j.2.1) aN).3) (ai (F52 n (BO b
 j l,D.add .i64 j.2.1 1,D.dI .i64 (ak b.1.1) 1,())) λm=>aj (D.aO m.1.1) (Z (LO.ret () (J,()))) (aC (av (BO b j l) l.1) (aC
 (ct (ah (BO b j l)) l.1) (aj (aR l.1 (ah (BO b j l)) J) (Z (LO.ret () (J,()))) (aC (av (BO b j l) l.1) (aC (ct (ah
 (BO b j l)) l.1) (Z (LO.next (dO l.1 (ah (BO b j l)) W,D.add .i64 l.2.1 1,()))))))))))) (Z (LO.out 0 l)))) n (j.1,0,())) λl
 =>LO.el l (λ_ o=>Z (LO.next (o.1,D.add .i64 j.2.1 1,()))) (λ_ o=>Z (LO.ret () o)) λ_ _=>Y))) (Z (LO.out 0 j))) n (i.1,0,
 ())) λj=>LO.el j (λ_ l=>ai (@iter (Int×Unit) (Bool×Unit) (Unit) (Any) (λm=>aj (D.bN m.1 (ak b.1.1)) (aC (av m.1 l.1) (aC
 (ct (ah m.1) l.1) (aj (D.aO (aR l.1 (ah m.1) J)) (Z (LO.ret () (J,()))) (Z (LO.next (D.add .i64 m.1 1,())))))) (Z (LO.out
 0 m))) n (0,())) λm=>LO.el m (λ_ _=>Z ((W,()),())) (λ_ p=>Z (p,())) λ_ _=>Y) (λ_ l=>Z (l,())) λ_ _=>
 Y) (λ_ i=>Z (i,())) λ_ _=>Y)))))
def k15(n:Nat):OC:=⟨15,⟨P5,K4,J,F15 n⟩,cx [k52 n,k53 n,k54 n] [(15,0,⟨[(4,.one (.own (.bool))),(5,de)],[],[],0⟩),(15,2,⟨[(4,.one (.own (.bool))),(6,de)],[],[],0⟩),(15,4,⟨[(4,.one (.own (.bool))),(7,de)],[],[],0⟩),(15,6,⟨[(9,de)],[],[],0⟩)] n 10 15⟩
def F55:Y69:=
 λn b=>aj (D.ek b.2.1 b.1) (Z ((D.ek b.1 b.2.2.1,()),())) (Z ((J,()),()))
def k55(n:Nat):OC:=⟨55,⟨P6,K4,J,F55 n⟩,cx [] [] n 10 55⟩
def F16:ahE:=
 λn b=>ai (@iter (Int×Unit) (Bool×Unit) (Unit) (Any) (λc=>aj (D.bN c.1 (ak b.1)) (aj (D.ek c.1 b.2.1) (aC (av c.1 b.1) (ai (F55
 n (aR b.1 (ah c.1) 0,(-1000000000),1000000000,())) λd=>aj (D.aO d.1.1) (Z (LO.ret () (J,()))) (Z (LO.next (D.add .i64 c.1 1,
 ()))))) (Z (LO.out 0 c))) (Z (LO.out 0 c))) n (0,())) λc=>LO.el c (λ_ _=>Z ((D.ek (ak b.1) b.2.1,()),())) (λ_ e=>Z (e,
 ())) λ_ _=>Y
def k16(n:Nat):OC:=⟨16,⟨ahR,K4,J,F16 n⟩,cx [k55 n] [(16,0,⟨[(5,de)],[],[],0⟩)] n 10 16⟩
def F26:Nat->List Int×List Int×Unit->Option fH:=
 λn b=>aj (D.aO (D.aI (ak b.1) (ak b.2.1))) (Z ((J,()),())) (ai (@iter (Int×Unit) (Bool×Unit) (Unit) (Any) (λc=>aj
 (D.bN c.1 (ak b.1)) (aC (av c.1 b.1) (aC (av c.1 b.2.1) (aj (D.aO (D.aI (aR b.1 (ah c.1) 0) (aR b.2.1 (ah c.1) 0))) (Z (LO.ret ()
 (J,()))) (Z (LO.next (D.add .i64 c.1 1,())))))) (Z (LO.out 0 c))) n (0,())) λc=>LO.el c (λ_ _=>Z ((W,()),())) (λ_ e
 =>Z (e,())) λ_ _=>Y)
def k26(n:Nat):OC:=⟨26,⟨aop,K4,J,F26 n⟩,cx [] [(26,0,⟨[(5,de)],[],[],0⟩)] n 10 26⟩
def F27:Nat->List dV×List dV×Unit->Option fH:=
 λn b=>aj (D.aO (D.aI (ak b.1) (ak b.2.1))) (Z ((J,()),())) (ai (@iter (Int×Unit) (Bool×Unit) (Unit) (Any) (λc=>aj
 (D.bN c.1 (ak b.1)) (aC (av c.1 b.1) (aC (av c.1 b.2.1) (aj (D.aO (D.fA (D.aI (aR b.1 (ah c.1) gx).1 (aR b.2.1 (ah c.1)
 gx).1) (D.fA (D.aI (aR b.1 (ah c.1) gx).2 (aR b.2.1 (ah c.1) gx).2) W))) (Z (LO.ret () (J,()))) (Z (LO.next
 (D.add .i64 c.1 1,())))))) (Z (LO.out 0 c))) n (0,())) λc=>LO.el c (λ_ _=>Z ((W,()),())) (λ_ e=>Z (e,())) λ_ _=>
 Y)
def k27(n:Nat):OC:=⟨27,⟨aoo,K4,J,F27 n⟩,cx [] [(27,0,⟨[(5,de)],[],[],0⟩)] n 10 27⟩
def F98:Nat->Y99->Option fH:=
 λn b=>aj (D.aO (D.aI (ak b.1) (ak b.2.1))) (Z ((J,()),())) (ai (@iter (Int×Unit) (Bool×Unit) (Unit) (Any) (λc=>aj
 (D.bN c.1 (ak b.1)) (aC (av c.1 b.1) (aC (av c.1 b.2.1) (aj (D.aO (D.fA (D.aI (aR b.1 (ah c.1) ax).1 (aR b.2.1 (ah c.1)
 ax).1) (D.fA (D.aI (aR b.1 (ah c.1) ax).2 (aR b.2.1 (ah c.1) ax).2) W))) (Z (LO.ret () (J,()))) (Z (LO.next
 (D.add .i64 c.1 1,())))))) (Z (LO.out 0 c))) n (0,())) λc=>LO.el c (λ_ _=>Z ((W,()),())) (λ_ e=>Z (e,())) λ_ _=>
 Y)
def k98(n:Nat):OC:=⟨98,⟨P34,K4,J,F98 n⟩,cx [] [(98,0,⟨[(5,de)],[],[],0⟩)] n 10 98⟩
def F57:anL:=
 λn b=>aj (D.aO (D.aI b.1.1 b.2.1.1)) (Z ((J,()),())) (aj (D.aO (D.aI b.1.2 b.2.1.2)) (Z ((J,()),())) (ai (F98 n (b.1.3,
 b.2.1.3,())) λc=>aj (D.aO c.1.1) (Z ((J,()),())) (aj (D.aO (D.aI (ak b.1.4) (ak b.2.1.4))) (Z ((J,()),())) (ai
 (@iter (Int×Unit) (Bool×Unit) (Unit) (Any) (λd=>aj (D.bN d.1 (ak b.1.4)) (aC (av d.1 b.1.4) (aC (av d.1 b.2.1.4) (aj (D.aO (D.aI
 (aR b.1.4 (ah d.1) aU).1 (aR b.2.1.4 (ah d.1) aU).1)) (Z (LO.ret () (J,()))) (ai (F98 n ((aR b.1.4 (ah d.1)
 aU).2,(aR b.2.1.4 (ah d.1) aU).2,())) λe=>aj (D.aO e.1.1) (Z (LO.ret () (J,()))) (ai (F98 n ((aR b.1.4 (ah
 d.1) aU).3,(aR b.2.1.4 (ah d.1) aU).3,())) λg=>aj (D.aO g.1.1) (Z (LO.ret () (J,()))) (Z (LO.next (D.add .i64
 d.1 1,())))))))) (Z (LO.out 0 d))) n (0,())) λd=>LO.el d (λ_ _=>Z ((W,()),())) (λ_ g=>Z (g,())) λ_ _=>Y))))
def k57(n:Nat):OC:=⟨57,⟨aon,K4,J,F57 n⟩,cx [k98 n] [(57,0,⟨[(5,de)],[],[],0⟩)] n 10 57⟩
def Nm(n:Nat):Option fH:=
 Z ((J,()),())
def F19:anO:=
 λn b=>aj (D.aO (D.aI (ak b.1.1) (ak b.2.1.1))) (Nm n) (ai (F26 n (b.1.2,b.2.1.2,())) λc=>aj (D.aO c.1.1) (Nm n) (ai (F27
 n (b.1.3,b.2.1.3,())) λd=>aj (D.aO d.1.1) (Nm n) (ai (F26 n (b.1.4,b.2.1.4,())) λe=>aj (D.aO e.1.1) (Nm n) (aj (D.aO
 (D.aI b.1.5 b.2.1.5)) (Nm n) (ai (@iter (Int×Unit) (Bool×Unit) (Unit) (Any) (λg=>aj (D.bN g.1 (ak b.1.1)) (aC (av g.1 b.1.1) (aC
 (av g.1 b.2.1.1) (ai (F57 n (aR b.1.1 (ah g.1) aT,aR b.2.1.1 (ah g.1) aT,())) λh=>aj (D.aO h.1.1) (Z (LO.ret ()
 (J,()))) (Z (LO.next (D.add .i64 g.1 1,())))))) (Z (LO.out 0 g))) n (0,())) λg=>LO.el g (λ_ _=>Z ((W,()),())) (λ_ i
 =>Z (i,())) λ_ _=>Y)))))
def k19(n:Nat):OC:=⟨19,⟨aom,K4,J,F19 n⟩,cx [k26 n,k27 n,k57 n] [(19,0,⟨[(5,de)],[],[],0⟩)] n 10 19⟩
def F17:Y90:=
 λn b=>ai (F19 n (b.1,cA,())) λc=>Z c
def k17(n:Nat):OC:=⟨17,⟨adT,K4,J,F17 n⟩,cx [k19 n] [] n 10 17⟩
def F117:adC:=
 λn b=>Z ((aq.mk 5 b.1,()),())
def Vq(n:Nat):OC:=⟨117,⟨P11,K17,J,F117 n⟩,cx [] [] n 10 117⟩
def F73:Y62:=
 λn b=>aj (D.aI b.1.1 4) (ai (F117 n (0,())) λc=>Z c) (aj (D.aI b.1.1 5) (ai (F117 n (0,())) λc=>Z c) (Z (b,())))
def k73(n:Nat):OC:=⟨73,⟨P22,K17,J,F73 n⟩,cx [Vq n] [] n 10 73⟩
def F74:Nat->List aq×aq×Unit->Option Y44:=
 λn b=>aC (cZ b.1 [b.2.1]) (Z ((cP b.1 [b.2.1],()),()))
def k74(n:Nat):OC:=⟨74,⟨aol,K35,J,F74 n⟩,cx [] [] n 10 74⟩
def Ii(n:Nat):O5->Option O5:=
 λc=>LO.jn c (λd=>Z (LO.next d)) (λ_ _=>Y) (λ_ e=>Z (LO.ret () e)) λ_ _=>Y
def wK(n:Nat):FN:=
 Z ((1,()),())
def F75:Y16:=
 λn b=>ai (aj (D.aI b.1.1 6) (Z (LO.next (W,()))) (ai (aj (D.aI b.1.1 9) (Z (LO.next (W,()))) (ai (aj (D.aI b.1.1 10) (Z
 (LO.next (W,()))) (ai (aj (D.aI b.1.1 11) (Z (LO.next (W,()))) (ai (aj (D.aI b.1.1 12) (Z (LO.next (W,()))) (ai (aj (D.aI
 b.1.1 13) (Z (LO.next (W,()))) (ai (aj (D.aI b.1.1 18) (Z (LO.next (W,()))) (Z (LO.next (D.aI b.1.1 22,())))) (Ii n))) (Ii
 n))) (Ii n))) (Ii n))) (Ii n))) (Ii n))) λ(c:O5)=>LO.jn c (λd=>aj d.1 (Z ((2,()),())) (aj (D.aI b.1.1 14) (Z ((ak
 b.1.3,()),())) (aj (D.aI b.1.1 7) (wK n) (aj (D.aI b.1.1 8) (wK n) (aj (D.aI b.1.1 15) (wK n) (aj (D.aI b.1.1 16) (wK n) (aj
 (D.aI b.1.1 17) (wK n) (aj (D.aI b.1.1 19) (wK n) (aj (D.aI b.1.1 20) (wK n) (aj (D.aI b.1.1 23) (wK n) (aj (D.aI b.1.1 24) (wK
 n) (aj (D.aI b.1.1 26) (wK n) (Z ((0,()),())))))))))))))) (λ_ _=>Y) (λ_ e=>Z (e,())) λ_ _=>Y
def k75(n:Nat):OC:=⟨75,⟨P27,K2,J,F75 n⟩,cx [] [(75,1000003,⟨[(5,cX)],[],[],0⟩),(75,1000004,⟨[(5,cX)],[],[],0⟩),(75,1000005,⟨[(5,cX)],[],[],0⟩),(75,1000006,⟨[(5,cX)],[],[],0⟩),(75,1000007,⟨[(5,cX)],[],[],0⟩),(75,1000008,⟨[(5,cX)],[],[],0⟩),(75,1000009,⟨[(5,cX)],[],[],0⟩)] n 10 75⟩
def Xb(n:Nat)(b:WQ):Option Ie:=
 aC (av b.2.1 b.1.2) (aC (av (aR b.1.2 (ah b.2.1) 0) b.1.1) (aC (ct (ah (aR b.1.2 (ah b.2.1) 0)) b.1.1) (Z ((az.mk
 (aa.mk (dO b.1.1 (ah (aR b.1.2 (ah b.2.1) 0)) (aD.mk 6 4 [] [])) b.1.2 b.1.3 b.1.4 b.1.5) 1 (aE.mk b.2.1 0 4 ax),()),
 ()))))
def F76:Y88:=
 λn b=>aj (D.ek 40 (ak b.2.2.1)) (Xb n b) (aj (D.bN 30 (ak b.2.2.2.2.1)) (Xb n b) (aC (cZ b.2.2.1 [au.mk b.2.2.2.1
 b.2.2.2.2.1 []]) (aC (av b.2.1 b.1.2) (aC (av (aR b.1.2 (ah b.2.1) 0) b.1.1) (aC (ct (ah (aR b.1.2 (ah b.2.1) 0)) b.1.1) (Z
 ((az.mk (aa.mk (dO b.1.1 (ah (aR b.1.2 (ah b.2.1) 0)) (aD.mk 6 0 [] (cP b.2.2.1 [au.mk b.2.2.2.1 b.2.2.2.2.1
 []]))) b.1.2 b.1.3 b.1.4 b.1.5) 0 aZ,()),())))))))
def k76(n:Nat):OC:=⟨76,⟨adS,K121,J,F76 n⟩,cx [] [] n 10 76⟩
def F97:Y59:=
 λn _=>Z ((aq.mk 3 0,()),())
def k97(n:Nat):OC:=⟨97,⟨[],K17,J,F97 n⟩,cx [] [] n 10 97⟩
def F120:ahx:=
 λn b=>aj b.1 (Z ((aq.mk 2 1,()),())) (Z ((aq.mk 2 0,()),()))
def aci(n:Nat):OC:=⟨120,⟨P31,K17,J,F120 n⟩,cx [] [] n 10 120⟩
def F176:Nat->aa×aq×Int×Unit->Option (Y34×Unit):=
 λn b=>aj (D.aO (D.aI b.2.1.1 5)) (Z ((aT,J,()),())) (aC (av b.2.1.2 b.1.1) (aj (D.aO (D.aI (aR b.1.1 (ah b.2.1.2)
 aT).1 b.2.2.1)) (Z ((aT,J,()),())) (aC (av b.2.1.2 b.1.1) (Z ((aR b.1.1 (ah b.2.1.2) aT,W,()),())))))
def Of(n:Nat):OC:=⟨176,⟨aok,K37,J,F176 n⟩,cx [] [] n 10 176⟩
def F177:Nat->aA×aa×aq×aq×Unit->Option (Y56×Unit):=
 λn b=>aj (D.aI b.2.2.1.1 4) (aC (av b.2.2.1.2 b.1.2) (Z ((au.mk (aR b.1.2 (ah b.2.2.1.2) 0) [b.2.2.2.1] [],W,()),())))
 (ai (F176 n (b.2.1,b.2.2.1,2,())) λc=>aj (D.aO c.1.2.1) (Z ((aU,J,()),())) (aC (av c.1.1.2 b.1.1) (aC (av 0 (aR
 b.1.1 (ah c.1.1.2) aN).3) (ai (F74 n (c.1.1.3,b.2.2.2)) λd=>Z ((au.mk (aR (aR b.1.1 (ah c.1.1.2) aN).3 (ah 0) 0)
 d.1.1 [],W,()),())))))
def afv(n:Nat):OC:=⟨177,⟨aoj,K39,J,F177 n⟩,cx [k74 n,Of n] [] n 10 177⟩
def Kb(b:adB):Bool:=
 av (aR b.2.1.2 (ah b.2.2.1) 0) b.2.1.1
def xP(b:adB):Nat:=
 ah (aR b.2.1.2 (ah b.2.2.1) 0)
def F122:Nat->adB->Option Ie:=
 λn b=>ai (F176 n (b.2.1,b.2.2.2.2.1,5,())) λc=>aj c.1.2.1 (aC (cZ b.2.2.2.1 c.1.1.4) (aj (D.bN 40 (ak (cP b.2.2.2.1 c.1.1.4)))
 (aC (av b.2.2.1 b.2.1.2) (aC (Kb b) (aC (ct (xP b) b.2.1.1) (Z ((az.mk (aa.mk (dO b.2.1.1 (xP b) (aD.mk
 6 4 [] [])) b.2.1.2 b.2.1.3 b.2.1.4 b.2.1.5) 1 (aE.mk b.2.2.1 0 4 ax),()),()))))) (aC (av b.2.2.1 b.2.1.2) (aC (Kb b) (aC (ct
 (xP b) b.2.1.1) (Z ((az.mk (aa.mk (dO b.2.1.1 (xP b) (aD.mk 6 0 [b.2.2.2.2.2.1] (cP b.2.2.2.1 c.1.1.4))) b.2.1.2
 b.2.1.3 b.2.1.4 b.2.1.5) 0 aZ,()),()))))))) (ai (F177 n (b.1,b.2.1,b.2.2.2.2)) λd=>aj (D.aO d.1.2.1) (aC (av b.2.2.1 b.2.1.2)
 (aC (Kb b) (aC (ct (xP b) b.2.1.1) (Z ((az.mk (aa.mk (dO b.2.1.1 (xP b) (aD.mk 6 2 [] [])) b.2.1.2 b.2.1.3
 b.2.1.4 b.2.1.5) 1 (aE.mk b.2.2.1 0 2 ax),()),()))))) (ai (F76 n (b.2.1,b.2.2.1,b.2.2.2.1,d.1.1.1,d.1.1.2,())) λe=>Z e))
def ale(n:Nat):OC:=⟨122,⟨aoi,K121,J,F122 n⟩,cx [k76 n,Of n,afv n] [] n 10 122⟩
def Ka(b:WW):Bool:=
 av (aR b.1.2 (ah b.2.1) 0) b.1.1
def xO(b:WW):Nat:=
 ah (aR b.1.2 (ah b.2.1) 0)
def FH(n:Nat)(b:WW):Option Ie:=
 aC (av b.2.1 b.1.2) (aC (Ka b) (aC (ct (xO b) b.1.1) (Z ((az.mk (aa.mk (dO b.1.1 (xO b) (aD.mk 6 2 []
 [])) b.1.2 b.1.3 b.1.4 b.1.5) 1 (aE.mk b.2.1 0 2 ax),()),()))))
def J9(n:Nat)(b:WW):Tj->Option Ie:=
 λc=>aC (av b.2.1 b.1.2) (aC (Ka b) (aC (ct (xO b) b.1.1) (Z ((az.mk (aa.mk (dO b.1.1 (xO b) (aD.mk
 6 0 [c.1.1] b.2.2.1)) b.1.2 b.1.3 b.1.4 b.1.5) 0 aZ,()),()))))
def F123:Nat->WW->Option Ie:=
 λn b=>aj (D.aI b.2.2.2.1 13) (aj (D.aO (D.aI b.2.2.2.2.1.1 b.2.2.2.2.2.1.1)) (FH n b) (aj (D.bN 3 b.2.2.2.2.1.1) (FH n b) (ai
 (F120 n (D.fA (D.aI b.2.2.2.2.1.1 b.2.2.2.2.2.1.1) (D.fA (D.aI b.2.2.2.2.1.2 b.2.2.2.2.2.1.2) W),())) (J9 n b)))) (aj (D.aO (D.aI
 b.2.2.2.2.1.1 1)) (FH n b) (aj (D.aO (D.aI b.2.2.2.2.2.1.1 1)) (FH n b) (aj (D.aI b.2.2.2.1 12) (ai (F120 n (D.bN b.2.2.2.2.1.2
 b.2.2.2.2.2.1.2,())) (J9 n b)) (ai (aj (D.aI b.2.2.2.1 9) (Z (LO.next (D.add .i64 b.2.2.2.2.1.2 b.2.2.2.2.2.1.2,W,()))) (ai (aj
 (D.aI b.2.2.2.1 10) (Z (LO.next (D.dI .i64 b.2.2.2.2.1.2 b.2.2.2.2.2.1.2,W,()))) (ai (aj (D.aI b.2.2.2.1 11) (Z (LO.next (D.mul .i64
 b.2.2.2.2.1.2 b.2.2.2.2.2.1.2,W,()))) (Z (LO.next (0,J,())))) λ(c:aal)=>LO.jn c (λd=>Z (LO.next (d.1,J,()))) (λ_
 _=>Y) (λ_ _=>Z (LO.ret () ())) λ_ _=>Y)) λ(c:aal)=>LO.jn c (λd=>Z (LO.next (d.1,J,()))) (λ_ _=>Y)
 (λ_ _=>Z (LO.ret () ())) λ_ _=>Y)) λ(c:aal)=>LO.jn c (λd=>ai (F55 n (d.1,(-1000000000),1000000000,())) λe=>aj
 (D.aO e.1.1) (aC (av b.2.1 b.1.2) (aC (Ka b) (aC (ct (xO b) b.1.1) (Z ((az.mk (aa.mk (dO b.1.1 (xO b)
 (aD.mk 6 4 [] [])) b.1.2 b.1.3 b.1.4 b.1.5) 1 (aE.mk b.2.1 0 4 ax),()),()))))) (ai (F25 n (d.1,())) (J9 n b))) (λ_ _=>
 Y) (λ_ _=>Z ((iX,()),())) λ_ _=>Y))))
def ald(n:Nat):OC:=⟨123,⟨aoh,K121,J,F123 n⟩,cx [k25 n,k55 n,aci n] [(123,1000012,⟨[(13,de),(61,cX)],[],[],0⟩),(123,1000014,⟨[(13,de),(68,cX)],[],[],0⟩),(123,1000016,⟨[(13,de),(75,cX)],[],[],0⟩)] n 10 123⟩
abbrev UA(F:Fn Tt K127 J):kT sg:=⟨Tt,K127,J,F⟩
def A5(n:Nat)(f178:aaj->aai)(c:aaj):Tj->aai:=
 λd=>Z (([],D.fA (D.aI c.2.2.1.1 d.1.1.1) (D.fA (D.aI c.2.2.1.2 d.1.1.2) W),()),())
def B178:Nat->(aaj->aai)->aaj->aai:=
 λn f178 c=>aj (D.aI c.2.1.1 1) (Z (([],W,()),())) (aj (D.aI c.2.1.1 2) (Z (([c.2.2.1],W,()),())) (aj (D.aI c.2.1.1 3) (ai
 (F25 n (c.2.1.2,())) (A5 n f178 c)) (aj (D.aI c.2.1.1 4) (ai (F120 n (D.aI c.2.1.2 1,())) (A5 n f178 c)) (aj (D.aI c.2.1.1 5) (ai (F97
 n ()) (A5 n f178 c)) (ai (F176 n (c.1,c.2.2.1,1,())) λd=>aj (D.aO d.1.2.1) (Z (([],J,()),())) (aj (D.aO (D.aI d.1.1.2
 c.2.1.2)) (Z (([],J,()),())) (aj (D.aO (D.aI (ak d.1.1.3) (ak c.2.1.4))) (Z (([],J,()),())) (ai (@iter (Nx) (ahB) (Unit)
 (Any) (λe=>aj (D.bN e.2.1 (ak c.2.1.4)) (aC (av e.2.1 c.2.1.4) (aC (av e.2.1 d.1.1.3) (ai (f178 (c.1,aR c.2.1.4 (ah e.2.1)
 aL,aR d.1.1.3 (ah e.2.1) ax,())) λg=>aj (D.aO g.1.2.1) (Z (LO.ret () ([],J,()))) (aC (cZ e.1 g.1.1) (Z (LO.next
 (cP e.1 g.1.1,D.add .i64 e.2.1 1,()))))))) (Z (LO.out 0 e))) n ([],0,())) λe=>LO.el e (λ_ h=>Z ((h.1,W,()),())) (λ_ h=>
 Z (h,())) λ_ _=>Y))))))))
def D178(n:Nat)(f178:Fn Tt K127 J)(b:bD prog 178 (UA f178)):bD prog 178 (UA (B178 n f178)):=cx [k25 n,k97 n,aci n,Of n,⟨178,UA f178,b⟩] [(178,1,⟨[(10,.one (.own (.st 4))),(11,de)],[],[],0⟩)] n 10 178
def R178(n k:Nat):(Fn Tt K127 J):=Nat.rec (motive:=λ_=>(Fn Tt K127 J)) (λ_=>Y) (λ_ r=>B178 n r) k
def F178(n:Nat):Fn Tt K127 J:=(R178 n n)
def abx(n:Nat):∀k,bD prog 178 (UA (R178 n k))
 |0=>bY (enters 178 (by kernel_rfl))
 |k+1=>have b:=abx n k
  D178 n _ b
def akP(n:Nat):OC:=⟨178,UA (F178 n),(abx n n)⟩
def F124:Nat->aa×Int×List au×bp×List aq×aq×Unit->Option Ie:=
 λn b=>ai (@iter (Int×Y72×Unit) (Unit) (Y72×Unit) (Any) (λc=>aj (D.bN c.1 (ak b.2.2.2.1.4)) (aC (av c.1 b.2.2.2.1.4) (ai (F178
 n (b.1,aR b.2.2.2.1.4 (ah c.1) aL,b.2.2.2.2.2)) λd=>aj d.1.2.1 (aC (av (D.add .i64 1 c.1) b.2.2.2.1.3) (aC (cZ b.2.2.2.2.1
 d.1.1) (ai (F76 n (b.1,b.2.1,b.2.2.1,aR b.2.2.2.1.3 (ah (D.add .i64 1 c.1)) 0,cP b.2.2.2.2.1 d.1.1,())) λe=>Z (LO.ret ((e.1.1.1.1,
 e.1.1.1.2,e.1.1.1.3,e.1.1.1.4,e.1.1.1.5,e.1.1.2,e.1.1.3.1,e.1.1.3.2,e.1.1.3.3,e.1.1.3.4.1,e.1.1.3.4.2,()),()) ())))) (Z (LO.next (D.add .i64
 c.1 1,c.2))))) (Z (LO.out 0 c))) n (0,([],[],[],[],0,0,0,0,0,0,0,()),())) λc=>LO.el c (λ_ _=>aC (av b.2.1 b.1.2) (aC
 (av (aR b.1.2 (ah b.2.1) 0) b.1.1) (aC (ct (ah (aR b.1.2 (ah b.2.1) 0)) b.1.1) (Z ((az.mk (aa.mk (dO b.1.1 (ah
 (aR b.1.2 (ah b.2.1) 0)) (aD.mk 6 3 [] [])) b.1.2 b.1.3 b.1.4 b.1.5) 1 (aE.mk b.2.1 0 3 ax),()),()))))) (λd _=>Z
 ((az.mk (aa.mk d.1.1 d.1.2.1 d.1.2.2.1 d.1.2.2.2.1 d.1.2.2.2.2.1) d.1.2.2.2.2.2.1 (aE.mk d.1.2.2.2.2.2.2.1
 d.1.2.2.2.2.2.2.2.1 d.1.2.2.2.2.2.2.2.2.1 (aq.mk d.1.2.2.2.2.2.2.2.2.2.1 d.1.2.2.2.2.2.2.2.2.2.2.1)),()),())) λ_ _=>Y
def alc(n:Nat):OC:=⟨124,⟨aog,K121,J,F124 n⟩,cx [k76 n,akP n] [(124,0,⟨[(13,de),(0,b0z)],[.slot 12],[],0⟩)] n 10 124⟩
def J8(b:aag):Bool:=
 av (aR b.2.1.2 (ah b.2.2.1) 0) b.2.1.1
def xN(b:aag):Nat:=
 ah (aR b.2.1.2 (ah b.2.2.1) 0)
def Pq(b:aag)(e:Int×Unit):List aD:=
 cP b.2.1.1 [aD.mk 5 0 [] (ey b.2.2.2.1 e.1 (ak b.2.2.2.1))]
def F125:Nat->aag->Option Ie:=
 λn b=>ai (@iter (Int×Unit) (Unit) (Unit) (Any) (λc=>aj (D.ek 0 c.1) (aC (av c.1 b.2.2.2.1) (aC (av (aR b.2.2.2.1 (ah c.1)
 aU).1 b.1.1) (aj (D.aO (D.aI (aR b.1.1 (ah (aR b.2.2.2.1 (ah c.1) aU).1) aN).1 26)) (Z (LO.next (D.dI .i64 c.1 1,
 ()))) (Z (LO.out 0 c))))) (Z (LO.out 0 c))) n (D.dI .i64 (ak b.2.2.2.1) 1,())) λc=>LO.el c (λ_ e=>aj (D.bN e.1 0) (aC (av
 b.2.2.1 b.2.1.2) (aC (J8 b) (aC (ct (xN b) b.2.1.1) (Z ((az.mk (aa.mk (dO b.2.1.1 (xN b) (aD.mk 6 3 []
 [])) b.2.1.2 b.2.1.3 b.2.1.4 b.2.1.5) 1 (aE.mk b.2.2.1 0 3 ax),()),()))))) (aj (D.ek 120 (ak b.2.1.1)) (aC (av b.2.2.1 b.2.1.2)
 (aC (J8 b) (aC (ct (xN b) b.2.1.1) (Z ((az.mk (aa.mk (dO b.2.1.1 (xN b) (aD.mk 6 4 [] [])) b.2.1.2 b.2.1.3
 b.2.1.4 b.2.1.5) 1 (aE.mk b.2.2.1 0 4 ax),()),()))))) (aC (ff e.1 (ak b.2.2.2.1) (ak b.2.2.2.1)) (aC (cZ b.2.1.1 [aD.mk 5
 0 [] (ey b.2.2.2.1 e.1 (ak b.2.2.2.1))]) (aC (ff 0 (D.add .i64 e.1 1) (ak b.2.2.2.1)) (ai (F117 n (D.dI .i64 (ak (Pq b e)) 1,()))
 λg=>ai (F74 n (b.2.2.2.2.2.1,g.1)) λh=>ai (F76 n (aa.mk (Pq b e) b.2.1.2 b.2.1.3 b.2.1.4 b.2.1.5,b.2.2.1,ey b.2.2.2.1 0
 (D.add .i64 e.1 1),b.2.2.2.2.1,h.1)) λi=>aj (D.aI i.1.1.2 1) (aC (av b.2.2.1 b.2.1.2) (aC (J8 b) (aC (ct (xN b) b.2.1.1) (Z
 ((az.mk (aa.mk (dO b.2.1.1 (xN b) (aD.mk 6 i.1.1.3.3 [] [])) b.2.1.2 b.2.1.3 b.2.1.4 b.2.1.5) 1 (aE.mk b.2.2.1 0
 i.1.1.3.3 ax),()),()))))) (Z i))))))) (λ_ _=>Z ((iX,()),())) λ_ _=>Y
def alb(n:Nat):OC:=⟨125,⟨aof,K121,J,F125 n⟩,cx [k74 n,k76 n,Vq n] [(125,0,⟨[(13,de)],[],[],0⟩)] n 10 125⟩
def F129:Nat->az×Int×Int×Int×aq×Unit->Option Ie:=
 λn b=>aj (D.aI b.1.2 1) (Z ((b.1,()),())) (ai (F73 n b.2.2.2.2) λc=>Z ((az.mk b.1.1 1 (aE.mk b.2.1 b.2.2.1
 b.2.2.2.1 c.1.1),()),()))
def Su(n:Nat):OC:=⟨129,⟨aoe,K121,J,F129 n⟩,cx [k73 n] [] n 10 129⟩
def jd(b:WQ):Int:=
 aR b.1.2 (ah b.2.1) 0
def o4(b:WQ):aq:=
 aR b.2.2.2.2.1 (ah 0) ax
def xM(b:WQ):List aD:=
 cP b.1.1 [aD.mk 3 0 [o4 b] []]
def A1(b:WQ):List aD:=
 dO b.1.1 (ah (o4 b).2) (aD.mk 3 0 [aR b.2.2.2.2.1 (ah 1) ax] [])
def F126:Y88:=
 λn b=>aj (D.aI b.2.2.2.1 16) (aC (av 0 b.2.2.2.2.1) (aC (av 0 b.2.2.2.2.1) (aj (D.ek 120 (ak b.1.1)) (aC (av b.2.1 b.1.2) (aC
 (av (jd b) b.1.1) (aC (ct (ah (jd b)) b.1.1) (ai (F129 n (az.mk (aa.mk (dO b.1.1 (ah (jd b)) (aD.mk 6 4
 [] [])) b.1.2 b.1.3 b.1.4 b.1.5) 1 (aE.mk b.2.1 0 4 ax),b.2.1,b.2.2.2.1,0,o4 b,())) λc=>Z c)))) (aC (cZ b.1.1
 [aD.mk 3 0 [o4 b] []]) (ai (F117 n (D.dI .i64 (ak (xM b)) 1,())) λc=>aC (av b.2.1 b.1.2) (aC (ct (ah b.2.1) b.1.2) (aC
 (av (jd b) (xM b)) (aC (ct (ah (jd b)) (xM b)) (ai (F129 n (az.mk (aa.mk (dO (xM b) (ah (jd b))
 (aD.mk 6 0 [c.1.1] b.2.2.1)) b.1.2 b.1.3 b.1.4 b.1.5) 0 aZ,b.2.1,b.2.2.2.1,0,o4 b,())) λd=>Z d))))))))) (aC (av 0
 b.2.2.2.2.1) (ai (F176 n (b.1,o4 b,3,())) λc=>aj (D.aO c.1.2.1) (aC (av b.2.1 b.1.2) (aC (av (jd b) b.1.1) (aC (ct (ah
 (jd b)) b.1.1) (Z ((az.mk (aa.mk (dO b.1.1 (ah (jd b)) (aD.mk 6 2 [] [])) b.1.2 b.1.3 b.1.4 b.1.5) 1
 (aE.mk b.2.1 0 2 ax),()),()))))) (aj (D.aI b.2.2.2.1 17) (aC (av 0 c.1.1.3) (aC (av 0 c.1.1.3) (aC (av b.2.1 b.1.2) (aC
 (av (jd b) b.1.1) (aC (ct (ah (jd b)) b.1.1) (ai (F129 n (az.mk (aa.mk (dO b.1.1 (ah (jd b)) (aD.mk 6 0
 [aR c.1.1.3 (ah 0) ax] b.2.2.1)) b.1.2 b.1.3 b.1.4 b.1.5) 0 aZ,b.2.1,b.2.2.2.1,0,aR c.1.1.3 (ah 0) ax,())) λd=>Z
 d)))))) (aC (av 0 b.2.2.2.2.1) (aC (av 1 b.2.2.2.2.1) (aC (av (o4 b).2 b.1.1) (aC (ct (ah (o4 b).2) b.1.1) (ai (F97 n ()) λd
 =>aC (av 1 b.2.2.2.2.1) (aC (av b.2.1 b.1.2) (aC (ct (ah b.2.1) b.1.2) (aC (av (jd b) (A1 b)) (aC (ct (ah (jd b))
 (A1 b)) (ai (F129 n (az.mk (aa.mk (dO (A1 b) (ah (jd b)) (aD.mk 6 0 [d.1.1] b.2.2.1)) b.1.2 b.1.3 b.1.4 b.1.5)
 0 aZ,b.2.1,b.2.2.2.1,0,aR b.2.2.2.2.1 (ah 1) ax,())) λe=>Z e)))))))))))))
def ala(n:Nat):OC:=⟨126,⟨adS,K121,J,F126 n⟩,cx [k97 n,Vq n,Su n,Of n] [] n 10 126⟩
def Pp:Y72:=
 ([],[],[],[],0,0,0,0,0,0,0,())
def FG(b:M5):Bool:=
 av b.2.2.1 b.2.1.2
def J7(b:M5):Bool:=
 av (aR b.2.1.2 (ah b.2.2.1) 0) b.2.1.1
def uO(b:M5):Nat:=
 ah (aR b.2.1.2 (ah b.2.2.1) 0)
def A0(b:M5):List aD:=
 dO b.2.1.1 (uO b) (aD.mk 6 4 [] [])
def FF(b:M5)(g:Tj):Int×Int×Int×aq×Unit:=
 (b.2.2.1,19,0,g.1)
def Po(e:aad):List aD:=
 [aD.mk e.2.2.1.1 e.2.2.1.2.1 e.2.2.1.2.2.1 e.2.2.1.2.2.2.1]
def FE(b:M5)(e:aad):List aD:=
 cP b.2.1.1 (Po e)
def FD(b:M5)(e:aad)(g:Tj):List aD:=
 dO (FE b e) (uO b) (aD.mk 6 0 [g.1.1] b.2.2.2.1)
def F127:Nat->M5->Option Ie:=
 λn b=>ai (F176 n (b.2.1,b.2.2.2.2.1,5,())) λc=>ai (aj c.1.2.1 (ai (F97 n ()) λd=>Z (LO.next (W,Pp,(6,0,[d.1.1],
 c.1.1.4,()),()))) (ai (F97 n ()) λd=>ai (F177 n (b.1,b.2.1,b.2.2.2.2.1,d.1)) λe=>aj (D.aO e.1.2.1) (aC (FG b) (aC (J7 b)
 (aC (ct (uO b) b.2.1.1) (Z (LO.ret ((dO b.2.1.1 (uO b) (aD.mk 6 2 [] []),b.2.1.2,b.2.1.3,b.2.1.4,b.2.1.5,1,b.2.2.1,0,2,0,
 0,()),(6,0,[],[],()),()) ()))))) (aj (D.bN 30 (ak e.1.1.2)) (aC (FG b) (aC (J7 b) (aC (ct (uO b) b.2.1.1) (Z (LO.ret
 ((A0 b,b.2.1.2,b.2.1.3,b.2.1.4,b.2.1.5,1,b.2.2.1,0,4,0,0,()),(6,0,[],[],()),()) ()))))) (Z (LO.next (J,Pp,(6,0,[],
 [e.1.1],()),())))))) λ(d:LO aad Unit (Y72×zK×Unit) Any)=>LO.jn d (λe=>aj (D.ek 120 (ak b.2.1.1)) (aC (FG b) (aC (J7
 b) (aC (ct (uO b) b.2.1.1) (aj (D.aO W) (aC (cZ b.2.1.2 [D.dI .i64 (ak (A0 b)) 1]) (ai (F97 n ()) λg=>ai (F129 n
 (az.mk (aa.mk (A0 b) (cP b.2.1.2 [D.dI .i64 (ak (A0 b)) 1]) b.2.1.3 b.2.1.4 b.2.1.5) 1 (aE.mk b.2.2.1 0 4
 ax),FF b g)) λh=>Z h)) (ai (F97 n ()) λg=>ai (F129 n (az.mk (aa.mk (A0 b) b.2.1.2 b.2.1.3 b.2.1.4
 b.2.1.5) 1 (aE.mk b.2.2.1 0 4 ax),FF b g)) λh=>Z h))))) (aC (cZ b.2.1.1 (Po e)) (ai (F117 n (D.dI .i64 (ak
 (FE b e)) 1,())) λg=>aC (FG b) (aC (ct (ah b.2.2.1) b.2.1.2) (aC (av (aR b.2.1.2 (ah b.2.2.1) 0) (FE b e)) (aC (ct
 (uO b) (FE b e)) (aj (D.aO J) (aC (cZ b.2.1.2 [D.dI .i64 (ak (FD b e g)) 1]) (ai (F97 n ()) λh=>ai (F129 n
 (az.mk (aa.mk (FD b e g) (cP b.2.1.2 [D.dI .i64 (ak (FD b e g)) 1]) b.2.1.3 b.2.1.4 b.2.1.5) 0 aZ,FF b
 h)) λi=>Z i)) (ai (F97 n ()) λh=>ai (F129 n (az.mk (aa.mk (FD b e g) b.2.1.2 b.2.1.3 b.2.1.4 b.2.1.5) 0
 aZ,FF b h)) λi=>Z i)))))))) (λ_ _=>Y) (λe _=>Z ((az.mk (aa.mk e.1.1 e.1.2.1 e.1.2.2.1
 e.1.2.2.2.1 e.1.2.2.2.2.1) e.1.2.2.2.2.2.1 (aE.mk e.1.2.2.2.2.2.2.1 e.1.2.2.2.2.2.2.2.1 e.1.2.2.2.2.2.2.2.2.1 (aq.mk
 e.1.2.2.2.2.2.2.2.2.2.1 e.1.2.2.2.2.2.2.2.2.2.2.1)),()),())) λ_ _=>Y
def ak9(n:Nat):OC:=⟨127,⟨aod,K121,J,F127 n⟩,cx [k97 n,Vq n,Su n,Of n,afv n] [(127,1000004,⟨[(24,cX),(0,b0z),(0,ag7)],[.slot 10,.slot 11],[],0⟩)] n 10 127⟩
def J6(b:adz):Bool:=
 av (aR b.1.2 (ah b.2.1) 0) b.1.1
def xL(b:adz):Nat:=
 ah (aR b.1.2 (ah b.2.1) 0)
def F128:Nat->adz->Option Ie:=
 λn b=>ai (F176 n (b.1,b.2.2.2.1,6,())) λc=>aj (D.aO c.1.2.1) (aC (av b.2.1 b.1.2) (aC (J6 b) (aC (ct (xL b) b.1.1)
 (Z ((az.mk (aa.mk (dO b.1.1 (xL b) (aD.mk 6 2 [] [])) b.1.2 b.1.3 b.1.4 b.1.5) 1 (aE.mk b.2.1 0 2 ax),
 ()),()))))) (aj (D.aI c.1.1.2 0) (Z ((az.mk b.1 2 aZ,()),())) (aj (D.aO (D.aI c.1.1.2 1)) (aC (av b.2.1 b.1.2) (aC
 (J6 b) (aC (ct (xL b) b.1.1) (Z ((az.mk (aa.mk (dO b.1.1 (xL b) (aD.mk 6 c.1.1.2 [] [])) b.1.2 b.1.3 b.1.4
 b.1.5) 1 (aE.mk b.2.1 0 c.1.1.2 ax),()),()))))) (aC (av 0 c.1.1.3) (aC (av 0 c.1.1.3) (aC (av b.2.1 b.1.2) (aC (J6 b) (aC
 (ct (xL b) b.1.1) (ai (F129 n (az.mk (aa.mk (dO b.1.1 (xL b) (aD.mk 6 0 [aR c.1.1.3 (ah 0) ax] b.2.2.1))
 b.1.2 b.1.3 b.1.4 b.1.5) 0 aZ,b.2.1,20,0,aR c.1.1.3 (ah 0) ax,())) λd=>Z d))))))))
def ak8(n:Nat):OC:=⟨128,⟨aoc,K121,J,F128 n⟩,cx [Su n,Of n] [] n 10 128⟩
def o3(b:WQ):Int:=
 aR b.1.2 (ah b.2.1) 0
def AZ(b:WQ):Nat:=
 ah (aR b.2.2.2.2.1 (ah 0) ax).2
def FC(b:WQ)(d:Y44):List aD:=
 dO b.1.1 (AZ b) (aD.mk 4 0 d.1.1 [])
def FB(b:WQ)(c:Y34×Unit):List aD:=
 dO b.1.1 (AZ b) (aD.mk 4 0 (ey c.1.1.3 1 (ak c.1.1.3)) [])
def F130:Y88:=
 λn b=>aC (av 0 b.2.2.2.2.1) (ai (F176 n (b.1,aR b.2.2.2.2.1 (ah 0) ax,4,())) λc=>aj (D.aO c.1.2.1) (aC (av b.2.1 b.1.2)
 (aC (av (o3 b) b.1.1) (aC (ct (ah (o3 b)) b.1.1) (Z ((az.mk (aa.mk (dO b.1.1 (ah (o3 b)) (aD.mk 6 2
 [] [])) b.1.2 b.1.3 b.1.4 b.1.5) 1 (aE.mk b.2.1 0 2 ax),()),()))))) (aj (D.aI b.2.2.2.1 22) (aj (D.ek 4 (ak c.1.1.3)) (Z
 ((az.mk b.1 2 aZ,()),())) (aC (av 0 b.2.2.2.2.1) (aC (av 1 b.2.2.2.2.1) (ai (F74 n (c.1.1.3,aR b.2.2.2.2.1 (ah 1)
 ax,())) λd=>aC (av (aR b.2.2.2.2.1 (ah 0) ax).2 b.1.1) (aC (ct (AZ b) b.1.1) (ai (F97 n ()) λe=>aC (av 1
 b.2.2.2.2.1) (aC (av b.2.1 b.1.2) (aC (ct (ah b.2.1) b.1.2) (aC (av (o3 b) (FC b d)) (aC (ct (ah (o3 b)) (FC b d)) (ai
 (F129 n (az.mk (aa.mk (dO (FC b d) (ah (o3 b)) (aD.mk 6 0 [e.1.1] b.2.2.1)) b.1.2 b.1.3 b.1.4 b.1.5) 0 aZ,
 b.2.1,b.2.2.2.1,0,aR b.2.2.2.2.1 (ah 1) ax,())) λg=>Z g))))))))))) (aj (D.aI (ak c.1.1.3) 0) (Z ((az.mk b.1 2
 aZ,()),())) (aC (av 0 b.2.2.2.2.1) (aC (ff 1 (ak c.1.1.3) (ak c.1.1.3)) (aC (av (aR b.2.2.2.2.1 (ah 0) ax).2 b.1.1)
 (aC (ct (AZ b) b.1.1) (aC (av 0 c.1.1.3) (aC (av 0 c.1.1.3) (aC (av b.2.1 b.1.2) (aC (ct (ah b.2.1) b.1.2) (aC (av (o3 b)
 (FB b c)) (aC (ct (ah (o3 b)) (FB b c)) (ai (F129 n (az.mk (aa.mk (dO (FB b c) (ah (o3 b)) (aD.mk
 6 0 [aR c.1.1.3 (ah 0) ax] b.2.2.1)) b.1.2 b.1.3 b.1.4 b.1.5) 0 aZ,b.2.1,b.2.2.2.1,0,aR c.1.1.3 (ah 0) ax,())) λd=>
 Z d))))))))))))))
def ak7(n:Nat):OC:=⟨130,⟨adS,K121,J,F130 n⟩,cx [k74 n,k97 n,Su n,Of n] [] n 10 130⟩
def AY(b:Tk):Bool:=
 ct (ah b.2.1) b.1.2
def AX(b:Tk):Bool:=
 av (aR b.1.2 (ah b.2.1) 0) b.1.1
def xK(b:Tk):Nat:=
 ah (aR b.1.2 (ah b.2.1) 0)
def AW(b:Tk):Bool:=
 ct (xK b) b.1.1
def J5(n:Nat)(b:Tk):Option Ie:=
 aC (av b.2.1 b.1.2) (aC (AY b) (aC (AX b) (aC (AW b) (Z ((az.mk (aa.mk (dO b.1.1 (xK b) (aD.mk 6 4
 [] [])) b.1.2 b.1.3 b.1.4 b.1.5) 1 (aE.mk b.2.1 0 4 ax),()),())))))
def F131:Nat->Tk->Option Ie:=
 λn b=>aj (D.aI b.2.2.2.1.1 25) (aj (D.aI (ak b.1.4) 0) (Z ((az.mk b.1 2 aZ,()),())) (aC (av 0 b.1.4) (aC (ct
 (ah 0) b.1.4) (ai (F25 n (aR b.1.4 (ah 0) 0,())) λc=>aj (D.ek 1000000000 b.1.5) (J5 n b) (aC (ff 1 (ak b.1.4) (ak b.1.4)) (aC
 (av b.2.1 b.1.2) (aC (AY b) (aC (AX b) (aC (AW b) (ai (F129 n (az.mk (aa.mk (dO b.1.1 (xK b) (aD.mk 6 0
 [c.1.1] b.2.2.1)) b.1.2 b.1.3 (ey b.1.4 1 (ak b.1.4)) (D.add .i64 b.1.5 1)) 0 aZ,b.2.1,b.2.2.2.1.1,0,c.1)) λd=>Z d))))))))))
 (aC (av 0 b.2.2.2.2.1) (aj (D.aO (D.aI (aR b.2.2.2.2.1 (ah 0) ax).1 1)) (aC (av b.2.1 b.1.2) (aC (AY b) (aC (AX b) (aC
 (AW b) (Z ((az.mk (aa.mk (dO b.1.1 (xK b) (aD.mk 6 2 [] [])) b.1.2 b.1.3 b.1.4 b.1.5) 1 (aE.mk b.2.1 0 2
 ax),()),())))))) (aj (D.ek 100 (ak b.1.3)) (J5 n b) (aC (av 0 b.2.2.2.2.1) (aC (cZ b.1.3 [dV.mk b.2.2.2.1.2 (aR b.2.2.2.2.1
 (ah 0) ax).2]) (ai (F97 n ()) λc=>aC (av 0 b.2.2.2.2.1) (aC (av b.2.1 b.1.2) (aC (AY b) (aC (AX b) (aC (AW b) (ai
 (F129 n (az.mk (aa.mk (dO b.1.1 (xK b) (aD.mk 6 0 [c.1.1] b.2.2.1)) b.1.2 (cP b.1.3 [dV.mk b.2.2.2.1.2 (aR
 b.2.2.2.2.1 (ah 0) ax).2]) b.1.4 b.1.5) 0 aZ,b.2.1,b.2.2.2.1.1,b.2.2.2.1.2,aR b.2.2.2.2.1 (ah 0) ax,())) λd=>Z
 d)))))))))))
def ak6(n:Nat):OC:=⟨131,⟨aob,K121,J,F131 n⟩,cx [k25 n,k97 n,Su n] [] n 10 131⟩
def cr(b:tq):bp:=
 aR b.1.1 (ah b.2.2.2.2.1.1) aN
def ki(b:tq):Bool:=
 av b.2.2.1 b.2.1.2
def iA(b:tq):Int:=
 aR b.2.1.2 (ah b.2.2.1) 0
def lT(b:tq):Bool:=
 av (iA b) b.2.1.1
def lS(b:tq):Bool:=
 ct (ah (iA b)) b.2.1.1
def pW(b:tq)(c:Tj):aD:=
 aD.mk 6 0 [c.1.1] b.2.2.2.1
def s4(b:tq)(c:Tj):az:=
 az.mk (aa.mk (dO b.2.1.1 (ah (iA b)) (pW b c)) b.2.1.2 b.2.1.3 b.2.1.4 b.2.1.5) 0 aZ
def rm(n:Nat)(b:tq):Tj->Option Ie:=
 λc=>aC (ki b) (aC (lT b) (aC (lS b) (Z ((s4 b c,()),()))))
def BM(n:Nat)(b:tq):Option Ie:=
 aC (ki b) (aC (lT b) (aC (lS b) (Z ((az.mk (aa.mk (dO b.2.1.1 (ah (iA b)) (aD.mk 6 2 [] [])) b.2.1.2
 b.2.1.3 b.2.1.4 b.2.1.5) 1 (aE.mk b.2.2.1 0 2 ax),()),()))))
def Fo(b:tq):az:=
 az.mk (aa.mk (dO b.2.1.1 (ah (iA b)) (aD.mk 6 4 [] [])) b.2.1.2 b.2.1.3 b.2.1.4 b.2.1.5) 1 (aE.mk b.2.2.1 0 4
 ax)
def JS(n:Nat)(b:tq):Option Ie:=
 aC (ki b) (aC (lT b) (aC (lS b) (Z ((Fo b,()),()))))
def Fm(b:tq):List aD:=
 cP b.2.1.1 [aD.mk 2 b.2.2.2.2.1.1 b.2.2.2.2.1.2 []]
def hJ(b:tq):Bool:=
 av 0 b.2.2.2.2.1.3
def gO(b:tq):aq:=
 aR b.2.2.2.2.1.3 (ah 0) ax
def gz(n:Nat):M6->Option M6:=
 λc=>LO.jn c (λd=>Z (LO.next d)) (λ_ _=>Y) (λ_ _=>Z (LO.ret () ())) λ_ _=>Y
def Fl(b:tq):List aD:=
 cP b.2.1.1 [aD.mk 1 (cr b).2 b.2.2.2.2.1.3 []]
def xG(b:tq):WQ:=
 (b.2.1,b.2.2.1,b.2.2.2.1,(cr b).1,b.2.2.2.2.1.3,())
def Fk(b:tq):List aD:=
 cP b.2.1.1 [aD.mk 4 0 [] []]
def JR(n:Nat):Unit->Unit->Option Ie:=
 λ_ _=>Z ((iX,()),())
def F77:Nat->tq->Option Ie:=
 λn b=>aC (av b.2.2.2.2.1.1 b.1.1) (aj (D.aI (cr b).1 1) (ai (F25 n ((cr b).2,())) (rm n b)) (aj (D.aI (cr b).1 2) (ai (F120
 n (D.aI (cr b).2 1,())) (rm n b)) (aj (D.aI (cr b).1 3) (ai (F97 n ()) (rm n b)) (aj (D.aI (cr b).1 4) (aj (D.bN (cr b).2 0)
 (aC (ki b) (aC (lT b) (aC (lS b) (Z ((az.mk (aa.mk (dO b.2.1.1 (ah (iA b)) (aD.mk 6 0 [aq.mk 4
 (D.dI .i64 (-1) (cr b).2)] b.2.2.2.1)) b.2.1.2 b.2.1.3 b.2.1.4 b.2.1.5) 0 aZ,()),()))))) (aj (D.ek (ak b.2.2.2.2.1.2) (cr b).2)
 (BM n b) (aC (av (cr b).2 b.2.2.2.2.1.2) (aC (ki b) (aC (lT b) (aC (lS b) (Z ((az.mk (aa.mk (dO b.2.1.1
 (ah (iA b)) (aD.mk 6 0 [aR b.2.2.2.2.1.2 (ah (cr b).2) ax] b.2.2.2.1)) b.2.1.2 b.2.1.3 b.2.1.4 b.2.1.5) 0 aZ,()),
 ())))))))) (aj (D.aI (cr b).1 5) (aj (D.ek 120 (ak b.2.1.1)) (JS n b) (aC (cZ b.2.1.1 [aD.mk 2 b.2.2.2.2.1.1 b.2.2.2.2.1.2 []])
 (ai (F117 n (D.dI .i64 (ak (Fm b)) 1,())) λc=>aC (ki b) (aC (ct (ah b.2.2.1) b.2.1.2) (aC (av (iA b) (Fm b)) (aC
 (ct (ah (iA b)) (Fm b)) (Z ((az.mk (aa.mk (dO (Fm b) (ah (iA b)) (pW b c)) b.2.1.2 b.2.1.3 b.2.1.4
 b.2.1.5) 0 aZ,()),())))))))) (aj (D.aI (cr b).1 6) (aC (hJ b) (aC (av 1 b.2.2.2.2.1.3) (ai (F122 n (b.1,b.2.1,b.2.2.1,
 b.2.2.2.1,gO b,aR b.2.2.2.2.1.3 (ah 1) ax,())) λc=>Z c))) (aj (D.aI (cr b).1 7) (aC (av 1 (cr b).3) (aC (hJ b)
 (ai (F74 n (b.2.2.2.2.1.2,gO b,())) λc=>ai (F76 n (b.2.1,b.2.2.1,b.2.2.2.1,aR (cr b).3 (ah 1) 0,c.1)) λd=>Z d))) (aj
 (D.aI (cr b).1 8) (aC (hJ b) (aj (D.aO (D.aI (gO b).1 2)) (BM n b) (aC (hJ b) (aC (av (D.dI .i64 2 (gO b).2) (cr
 b).3) (ai (F76 n (b.2.1,b.2.2.1,b.2.2.2.1,aR (cr b).3 (ah (D.dI .i64 2 (gO b).2)) 0,b.2.2.2.2.1.2,())) λc=>Z c))))) (ai (aj
 (D.aI (cr b).1 9) (Z (LO.next (W,()))) (ai (aj (D.aI (cr b).1 10) (Z (LO.next (W,()))) (ai (aj (D.aI (cr b).1 11) (Z
 (LO.next (W,()))) (ai (aj (D.aI (cr b).1 12) (Z (LO.next (W,()))) (Z (LO.next (D.aI (cr b).1 13,())))) (gz n))) (gz
 n))) (gz n))) λ(c:M6)=>LO.jn c (λd=>aj d.1 (aC (hJ b) (aC (av 1 b.2.2.2.2.1.3) (ai (F123 n (b.2.1,b.2.2.1,b.2.2.2.1,
 (cr b).1,gO b,aR b.2.2.2.2.1.3 (ah 1) ax,())) λe=>Z e))) (aj (D.aI (cr b).1 14) (aj (D.ek 120 (ak b.2.1.1)) (JS
 n b) (aC (cZ b.2.1.1 [aD.mk 1 (cr b).2 b.2.2.2.2.1.3 []]) (ai (F117 n (D.dI .i64 (ak (Fl b)) 1,())) λe=>aC (ki b) (aC
 (ct (ah b.2.2.1) b.2.1.2) (aC (av (iA b) (Fl b)) (aC (ct (ah (iA b)) (Fl b)) (Z ((az.mk (aa.mk (dO
 (Fl b) (ah (iA b)) (pW b e)) b.2.1.2 b.2.1.3 b.2.1.4 b.2.1.5) 0 aZ,()),())))))))) (aj (D.aI (cr b).1 15) (aC (hJ b)
 (ai (F124 n (b.2.1,b.2.2.1,b.2.2.2.1,cr b,b.2.2.2.2.1.2,gO b,())) λe=>Z e)) (aj (D.aI (cr b).1 26) (aC (hJ b) (aC
 (ki b) (aC (lT b) (aC (lS b) (Z ((az.mk (aa.mk (dO b.2.1.1 (ah (iA b)) (aD.mk 6 0 [gO b] b.2.2.2.1))
 b.2.1.2 b.2.1.3 b.2.1.4 b.2.1.5) 0 aZ,()),())))))) (aj (D.aI (cr b).1 27) (aC (av 0 (cr b).3) (ai (F125 n (b.1,b.2.1,b.2.2.1,
 b.2.2.2.1,aR (cr b).3 (ah 0) 0,b.2.2.2.2.1.2,())) λe=>Z e)) (ai (aj (D.aI (cr b).1 16) (Z (LO.next (W,()))) (ai (aj
 (D.aI (cr b).1 17) (Z (LO.next (W,()))) (Z (LO.next (D.aI (cr b).1 18,())))) λ(e:M6)=>LO.jn e (λg=>Z (LO.next g))
 (λ_ _=>Y) (λ_ _=>Z (LO.ret () ())) λ_ _=>Y)) λ(e:M6)=>LO.jn e (λg=>aj g.1 (ai (F126 n (xG b)) λh=>Z
 h) (aj (D.aI (cr b).1 19) (aC (hJ b) (ai (F127 n (b.1,b.2.1,b.2.2.1,b.2.2.2.1,gO b,())) λh=>Z h)) (aj (D.aI (cr b).1
 20) (aC (hJ b) (ai (F128 n (b.2.1,b.2.2.1,b.2.2.2.1,gO b,())) λh=>Z h)) (aj (D.aI (cr b).1 21) (aj (D.ek 120 (ak
 b.2.1.1)) (aC (ki b) (aC (lT b) (aC (lS b) (ai (F97 n ()) λh=>ai (F129 n (Fo b,b.2.2.1,(cr b).1,0,h.1)) λi=>Z
 i)))) (aC (cZ b.2.1.1 [aD.mk 4 0 [] []]) (ai (F117 n (D.dI .i64 (ak (Fk b)) 1,())) λh=>aC (ki b) (aC (ct (ah b.2.2.1)
 b.2.1.2) (aC (av (iA b) (Fk b)) (aC (ct (ah (iA b)) (Fk b)) (ai (F97 n ()) λi=>ai (F129 n (az.mk (aa.mk
 (dO (Fk b) (ah (iA b)) (pW b h)) b.2.1.2 b.2.1.3 b.2.1.4 b.2.1.5) 0 aZ,b.2.2.1,(cr b).1,0,i.1)) λj=>Z j)))))))
 (ai (aj (D.aI (cr b).1 22) (Z (LO.next (W,()))) (Z (LO.next (D.aI (cr b).1 23,())))) λ(h:M6)=>LO.jn h (λi=>aj i.1
 (ai (F130 n (xG b)) λj=>Z j) (ai (aj (D.aI (cr b).1 24) (Z (LO.next (W,()))) (Z (LO.next (D.aI (cr b).1 25,())))) λ
 (j:M6)=>LO.jn j (λk=>aj k.1 (ai (F131 n (b.2.1,b.2.2.1,b.2.2.2.1,cr b,b.2.2.2.2.1.3,())) λl=>Z l) (ai (F97 n ()) λl=>
 aC (ki b) (aC (lT b) (aC (lS b) (ai (F97 n ()) λm=>ai (F129 n (s4 b l,b.2.2.1,28,0,m.1)) λo=>Z o))))) (λ_ _=>
 Y) (JR n) λ_ _=>Y)) (λ_ _=>Y) (JR n) λ_ _=>Y))))) (λ_ _=>Y) (JR n) λ_ _=>Y)))))) (λ_ _=>
 Y) (JR n) λ_ _=>Y)))))))))
def k77(n:Nat):OC:=⟨77,⟨aoa,K121,J,F77 n⟩,cx [k25 n,k74 n,k76 n,k97 n,Vq n,aci n,ale n,ald n,alc n,alb n,ala n,ak9 n,ak8 n,Su n,ak7 n,ak6 n] [(77,1000026,⟨[(146,cX)],[],[],0⟩),(77,1000027,⟨[(146,cX)],[],[],0⟩),(77,1000028,⟨[(146,cX)],[],[],0⟩),(77,1000029,⟨[(146,cX)],[],[],0⟩),(77,1000040,⟨[(208,cX)],[],[],0⟩),(77,1000041,⟨[(208,cX)],[],[],0⟩),(77,1000050,⟨[(250,cX)],[],[],0⟩),(77,1000053,⟨[(260,cX)],[],[],0⟩)] n 10 77⟩
def Re(b:Y31):Bool:=
 av (aR b.2.1.2 (ah b.2.2.1) 0) b.2.1.1
def kQ(b:Y31):Nat:=
 ah (aR b.2.1.2 (ah b.2.2.1) 0)
def s6(b:Y31):Int:=
 D.dI .i64 (ak (aR b.2.1.1 (kQ b) aT).4) 1
def Rd(b:Y31):Bool:=
 av (s6 b) (aR b.2.1.1 (kQ b) aT).4
def rq(b:Y31):au:=
 aR (aR b.2.1.1 (kQ b) aT).4 (ah (s6 b)) aU
def F40:Nat->Y31->Option Ie:=
 λn b=>aC (av b.2.2.1 b.2.1.2) (aC (Re b) (aj (D.aO (D.aI (aR b.2.1.1 (kQ b) aT).2 0)) (Z ((az.mk b.2.1 2
 aZ,()),())) (aj (D.aI (ak (aR b.2.1.1 (kQ b) aT).3) 1) (aC (av 0 (aR b.2.1.1 (kQ b) aT).3) (aj (D.bN (s6 b)
 0) (aC (av b.2.2.1 b.2.1.2) (aC (Re b) (aC (ct (kQ b) b.2.1.1) (ai (F73 n (aR (aR b.2.1.1 (kQ b) aT).3 (ah 0) ax,()))
 λc=>Z ((az.mk (aa.mk (dO b.2.1.1 (kQ b) (aD.mk 6 1 [aR (aR b.2.1.1 (kQ b) aT).3 (ah 0) ax] []))
 b.2.1.2 b.2.1.3 b.2.1.4 b.2.1.5) 1 (aE.mk b.2.2.1 0 1 c.1.1),()),()))))) (aC (Rd b) (aC (ct (ah (s6 b)) (aR b.2.1.1 (kQ b)
 aT).4) (ai (F74 n ((rq b).3,aR (aR b.2.1.1 (kQ b) aT).3 (ah 0) ax,())) λc=>aC (Rd b) (aC (ct (ah (s6
 b)) (aR b.2.1.1 (kQ b) aT).4) (aC (av b.2.2.1 b.2.1.2) (aC (Re b) (aC (ct (kQ b) b.2.1.1) (Z ((az.mk
 (aa.mk (dO b.2.1.1 (kQ b) (aD.mk 6 0 [] (dO (aR b.2.1.1 (kQ b) aT).4 (ah (s6 b)) (au.mk (rq b).1 (rq
 b).2 c.1.1)))) b.2.1.2 b.2.1.3 b.2.1.4 b.2.1.5) 0 aZ,()),()))))))))))) (aC (Rd b) (aC (av (rq b).1 b.1.1) (ai (F75 n (aR b.1.1
 (ah (rq b).1) aN,())) λc=>aj (D.bN (ak (rq b).3) c.1.1) (aC (av (ak (rq b).3) (aR b.1.1 (ah (rq b).1)
 aN).3) (ai (F76 n (b.2.1,b.2.2.1,(aR b.2.1.1 (kQ b) aT).4,aR (aR b.1.1 (ah (rq b).1) aN).3 (ah (ak (rq b).3))
 0,(rq b).2,())) λd=>Z d)) (aC (ff 0 (s6 b) (ak (aR b.2.1.1 (kQ b) aT).4)) (ai (F77 n (b.1,b.2.1,b.2.2.1,ey (aR
 b.2.1.1 (kQ b) aT).4 0 (s6 b),rq b,())) λd=>Z d))))))))
def k40(n:Nat):OC:=⟨40,⟨P68,K121,J,F40 n⟩,cx [k73 n,k74 n,k75 n,k76 n,k77 n] [] n 10 40⟩
def Xp(c:Y71):aa:=
 aa.mk c.2.2.1.1 c.2.2.1.2.1 c.2.2.1.2.2.1 c.2.2.1.2.2.2.1 c.2.2.1.2.2.2.2.1
def Im(g:Ie):Y72×Unit:=
 ((g.1.1.1.1,g.1.1.1.2,g.1.1.1.3,g.1.1.1.4,g.1.1.1.5,g.1.1.2,g.1.1.3.1,g.1.1.3.2,g.1.1.3.3,g.1.1.3.4.1,g.1.1.3.4.2,()),())
def F33:Nat->Y31->Option Y73:=
 λn b=>ai (@iter (Y71) (Int×Bool×Unit) (wH×wH×Unit) (Any) (λc=>aj (D.bN c.2.1 (ak c.2.2.1.2.1)) (ai (F40 n (b.1,Xp c,
 c.2.1,())) λd=>ai (@iter (Int×wH×wH×Y72×Unit) (Int×Bool×Unit) (wH×wH×Y72×Unit) (Any) (λe=>aj (D.aI
 e.2.2.2.1.2.2.2.2.2.1 0) (aj (D.bN 5000 (D.add .i64 e.1 1)) (Z (LO.ret (e.2.1,e.2.1,e.2.2.2) (D.add .i64 e.1 1,J,()))) (ai (F40 n (b.1,
 aa.mk e.2.2.2.1.1 e.2.2.2.1.2.1 e.2.2.2.1.2.2.1 e.2.2.2.1.2.2.2.1 e.2.2.2.1.2.2.2.2.1,c.2.1,())) λg=>Z (LO.next (D.add .i64 e.1 1,
 (e.2.2.2.1.1,e.2.2.2.1.2.1,e.2.2.2.1.2.2.1,e.2.2.2.1.2.2.2.1,e.2.2.2.1.2.2.2.2.1,()),e.2.2.1,Im g)))) (Z (LO.out 0 e))) n (c.1,c.2.2.1,
 c.2.2.2.1,Im d)) λe=>LO.el e (λ_ h=>Z (LO.next (h.1,D.add .i64 c.2.1 1,h.2.1,h.2.2.1,()))) (λg h=>Z (LO.ret (g.1,g.2.1,
 ()) h)) λ_ _=>Y) (Z (LO.out 0 c))) n (b.2.2.1,0,(b.2.1.1,b.2.1.2,b.2.1.3,b.2.1.4,b.2.1.5,()),([],[],[],[],0,()),())) λc=>
 LO.el c (λ_ e=>Z ((Xp e,e.1,W,()),())) (λd e=>Z ((aa.mk d.2.1.1 d.2.1.2.1 d.2.1.2.2.1 d.2.1.2.2.2.1 d.2.1.2.2.2.2.1,
 e),())) λ_ _=>Y
def k33(n:Nat):OC:=⟨33,⟨P68,K135,J,F33 n⟩,cx [k40 n] [(33,0,⟨[(2,de),(9,de),(0,b4z),(0,b4z)],[.slot 4,.slot 6],[],0⟩),(33,2,⟨[(2,de),(0,b4z),(0,b4z),(0,b0z)],[.slot 4,.slot 6,.slot 10],[],0⟩)] n 10 33⟩
def F65:Nat->List aq×Unit->Option fH:=
 λn b=>Z ((D.ek (ak b.1) 40,()),())
def k65(n:Nat):OC:=⟨65,⟨P50,K4,J,F65 n⟩,cx [] [] n 10 65⟩
def F35:Y90:=
 λn b=>aj (D.bN 130 (ak b.1.1)) (Z ((J,()),())) (aj (D.bN 130 (ak b.1.2)) (Z ((J,()),())) (aj (D.bN 110 (ak b.1.3))
 (Z ((J,()),())) (aj (D.bN 60 (ak b.1.4)) (Z ((J,()),())) (ai (@iter (Int×Unit) (Bool×Unit) (Unit) (Any) (λc=>aj (D.bN
 c.1 (ak b.1.1)) (aC (av c.1 b.1.1) (ai (F65 n ((aR b.1.1 (ah c.1) aT).3,())) λd=>aj (D.aO d.1.1) (Z (LO.ret () (J,())))
 (aj (D.bN 50 (ak (aR b.1.1 (ah c.1) aT).4)) (Z (LO.ret () (J,()))) (ai (@iter (Int×Unit) (Bool×Unit) (Unit) (Any) (λe=>
 aj (D.bN e.1 (ak (aR b.1.1 (ah c.1) aT).4)) (aC (av e.1 (aR b.1.1 (ah c.1) aT).4) (ai (F65 n ((aR (aR b.1.1 (ah c.1)
 aT).4 (ah e.1) aU).2,())) λg=>aj (D.aO g.1.1) (Z (LO.ret () (J,()))) (aC (av e.1 (aR b.1.1 (ah c.1) aT).4)
 (ai (F65 n ((aR (aR b.1.1 (ah c.1) aT).4 (ah e.1) aU).3,())) λh=>aj (D.aO h.1.1) (Z (LO.ret () (J,()))) (Z
 (LO.next (D.add .i64 e.1 1,()))))))) (Z (LO.out 0 e))) n (0,())) λe=>LO.el e (λ_ _=>Z (LO.next (D.add .i64 c.1 1,()))) (λ_ h=>
 Z (LO.ret () h)) λ_ _=>Y)))) (Z (LO.out 0 c))) n (0,())) λc=>LO.el c (λ_ _=>Z ((W,()),())) (λ_ e=>Z (e,()))
 λ_ _=>Y))))
def k35(n:Nat):OC:=⟨35,⟨adT,K4,J,F35 n⟩,cx [k65 n] [(35,0,⟨[(3,de)],[],[],0⟩),(35,2,⟨[(5,de)],[],[],0⟩)] n 10 35⟩
def F20:Y21:=
 λn b=>ai (F12 n (b.1,())) λc=>aj c.1.1 (ai (F35 n b.2) λd=>Z d) (Z ((J,()),()))
def k20(n:Nat):OC:=⟨20,⟨P67,K4,J,F20 n⟩,cx [k12 n,k35 n] [] n 10 20⟩
def F105:ahE:=
 λn b=>ai (@iter (Int×Unit) (Bool×Unit) (Unit) (Any) (λc=>aj (D.bN c.1 (ak b.1)) (aC (av c.1 b.1) (aj (D.aI (aR b.1 (ah c.1)
 0) b.2.1) (Z (LO.ret () (W,()))) (Z (LO.next (D.add .i64 c.1 1,()))))) (Z (LO.out 0 c))) n (0,())) λc=>LO.el c (λ_ _=>Z
 ((J,()),())) (λ_ e=>Z (e,())) λ_ _=>Y
def ali(n:Nat):OC:=⟨105,⟨ahR,K4,J,F105 n⟩,cx [] [(105,0,⟨[(5,de)],[],[],0⟩)] n 10 105⟩
def Nj(b:aa×Unit)(g:Int×Unit):Int:=
 aR b.1.2 (ah g.1) 0
def F66:Y90:=
 λn b=>ai (@iter (Int×Int×Unit) (Bool×Unit) (Unit) (Any) (λc=>aj (D.bN c.2.1 (ak b.1.1)) (aC (av c.2.1 b.1.1) (aj (D.aI (aR
 b.1.1 (ah c.2.1) aT).1 6) (Z (LO.next (D.add .i64 c.1 1,D.add .i64 c.2.1 1,()))) (Z (LO.next (c.1,D.add .i64 c.2.1 1,()))))) (Z
 (LO.out 0 c))) n (0,0,())) λc=>LO.el c (λ_ e=>aj (D.aO (D.aI (ak b.1.2) e.1)) (Z ((J,()),())) (ai (@iter (Int×Unit) (Bool
 ×Unit) (Unit) (Any) (λg=>aj (D.bN g.1 e.1) (aC (av g.1 b.1.2) (ai (F55 n (Nj b g,0,D.dI .i64 (ak b.1.1) 1,())) λh=>aj
 (D.aO h.1.1) (Z (LO.ret () (J,()))) (aC (av (Nj b g) b.1.1) (aj (D.aO (D.aI (aR b.1.1 (ah (Nj b g)) aT).1 6)) (Z
 (LO.ret () (J,()))) (aC (ff 0 g.1 (ak b.1.2)) (ai (F105 n (ey b.1.2 0 g.1,Nj b g,())) λi=>aj i.1.1 (Z (LO.ret () (J,
 ()))) (Z (LO.next (D.add .i64 g.1 1,()))))))))) (Z (LO.out 0 g))) n (0,())) λg=>LO.el g (λ_ _=>Z ((W,()),())) (λ_ i=>
 Z (i,())) λ_ _=>Y)) (λ_ e=>Z (e,())) λ_ _=>Y
def k66(n:Nat):OC:=⟨66,⟨adT,K4,J,F66 n⟩,cx [k55 n,ali n] [(66,0,⟨[(3,de),(4,de)],[],[],0⟩),(66,2,⟨[(5,de)],[],[],0⟩)] n 10 66⟩
def F169:Nat->aA×aa×aq×Unit->Option fH:=
 λn b=>aj (D.aI b.2.2.1.1 1) (ai (F55 n (b.2.2.1.2,(-1000000000),1000000000,())) λc=>Z c) (aj (D.aI b.2.2.1.1 2) (ai (F55 n
 (b.2.2.1.2,0,1,())) λc=>Z c) (aj (D.aI b.2.2.1.1 3) (Z ((D.aI b.2.2.1.2 0,()),())) (aj (D.aI b.2.2.1.1 4) (ai (F55 n (b.2.2.1.2,
 0,D.dI .i64 (ak b.1.2) 1,())) λc=>Z c) (aj (D.aI b.2.2.1.1 5) (ai (F55 n (b.2.2.1.2,0,D.dI .i64 (ak b.2.1.1) 1,())) λc=>
 Z c) (Z ((J,()),()))))))
def akQ(n:Nat):OC:=⟨169,⟨an9,K4,J,F169 n⟩,cx [k55 n] [] n 10 169⟩
def F109:Nat->aA×aa×List aq×Int×Unit->Option fH:=
 λn b=>ai (@iter (Int×Unit) (Bool×Unit) (Unit) (Any) (λc=>aj (D.bN c.1 (ak b.2.2.1)) (aj (D.ek c.1 b.2.2.2.1) (aC (av c.1
 b.2.2.1) (ai (F169 n (b.1,b.2.1,aR b.2.2.1 (ah c.1) ax,())) λd=>aj (D.aO d.1.1) (Z (LO.ret () (J,()))) (Z (LO.next
 (D.add .i64 c.1 1,()))))) (Z (LO.out 0 c))) (Z (LO.out 0 c))) n (0,())) λc=>LO.el c (λ_ _=>Z ((D.ek (ak b.2.2.1) b.2.2.2.1,
 ()),())) (λ_ e=>Z (e,())) λ_ _=>Y
def acj(n:Nat):OC:=⟨109,⟨an8,K4,J,F109 n⟩,cx [akQ n] [(109,0,⟨[(9,de)],[],[],0⟩)] n 10 109⟩
def F107:Nat->aA×aa×List au×Unit->Option fH:=
 λn b=>ai (@iter (Int×Unit) (Bool×Unit) (Unit) (Any) (λc=>aj (D.bN c.1 (ak b.2.2.1)) (aj (D.ek c.1 40) (aC (av c.1 b.2.2.1) (ai
 (F55 n ((aR b.2.2.1 (ah c.1) aU).1,0,D.dI .i64 (ak b.1.1) 1,())) λd=>aj (D.aO d.1.1) (Z (LO.ret () (J,()))) (ai
 (F109 n (b.1,b.2.1,(aR b.2.2.1 (ah c.1) aU).2,30,())) λe=>aj (D.aO e.1.1) (Z (LO.ret () (J,()))) (aC (av (aR b.2.2.1
 (ah c.1) aU).1 b.1.1) (ai (F75 n (aR b.1.1 (ah (aR b.2.2.1 (ah c.1) aU).1) aN,())) λg=>ai (F109 n (b.1,b.2.1,
 (aR b.2.2.1 (ah c.1) aU).3,g.1)) λh=>aj (D.aO h.1.1) (Z (LO.ret () (J,()))) (Z (LO.next (D.add .i64 c.1 1,()))))))))
 (Z (LO.out 0 c))) (Z (LO.out 0 c))) n (0,())) λc=>LO.el c (λ_ _=>Z ((D.ek (ak b.2.2.1) 40,()),())) (λ_ e=>Z (e,()))
 λ_ _=>Y
def afE(n:Nat):OC:=⟨107,⟨an7,K4,J,F107 n⟩,cx [k55 n,k75 n,acj n] [(107,0,⟨[(7,de)],[],[],0⟩)] n 10 107⟩
def F108:Nat->aA×List au×Int×Unit->Option fH:=
 λn b=>ai (@iter (Int×Unit) (Bool×Unit) (Unit) (Any) (λc=>aj (D.bN c.1 b.2.2.1) (aC (av c.1 b.2.1) (aC (av c.1 b.2.1) (aC (av
 (aR b.2.1 (ah c.1) aU).1 b.1.1) (ai (F75 n (aR b.1.1 (ah (aR b.2.1 (ah c.1) aU).1) aN,())) λd=>aj (D.ek d.1.1
 (ak (aR b.2.1 (ah c.1) aU).3)) (Z (LO.ret () (J,()))) (Z (LO.next (D.add .i64 c.1 1,()))))))) (Z (LO.out 0 c))) n (0,()))
 λc=>LO.el c (λ_ _=>Z ((W,()),())) (λ_ e=>Z (e,())) λ_ _=>Y
def afD(n:Nat):OC:=⟨108,⟨an6,K4,J,F108 n⟩,cx [k75 n] [(108,0,⟨[(7,de)],[],[],0⟩)] n 10 108⟩
def uP(n:Nat):Option fH:=
 Z ((J,()),())
def F106:Y58:=
 λn b=>aj (D.aI b.2.2.1.2 0) (ai (F107 n (b.1,b.2.1,b.2.2.1.4,())) λc=>aj c.1.1 (ai (F109 n (b.1,b.2.1,b.2.2.1.3,1,())) λd=>
 aj d.1.1 (aj (D.bN 0 (D.add .i64 (ak b.2.2.1.4) (ak b.2.2.1.3))) (ai (F108 n (b.1,b.2.2.1.4,N3 (ak b.2.2.1.4) (DR 0 (D.add .i64 (D.dI .i64
 (ak b.2.2.1.4) 1) (ak b.2.2.1.3))),())) λe=>Z e) (uP n)) (uP n)) (uP n)) (aj (D.aI b.2.2.1.2 1) (aj (D.aI (ak b.2.2.1.4)
 0) (aj (D.aI (ak b.2.2.1.3) 1) (ai (F109 n (b.1,b.2.1,b.2.2.1.3,1,())) λc=>Z c) (uP n)) (uP n)) (ai (aj (D.aI b.2.2.1.2 2)
 (Z (LO.next (W,()))) (ai (aj (D.aI b.2.2.1.2 3) (Z (LO.next (W,()))) (Z (LO.next (D.aI b.2.2.1.2 4,())))) λ(c:Fi)=>LO.jn
 c (λd=>Z (LO.next d)) (λ_ _=>Y) (λ_ e=>Z (LO.ret () e)) λ_ _=>Y)) λ(c:Fi)=>LO.jn c (λd=>aj d.1 (aj
 (D.aI (ak b.2.2.1.4) 0) (Z ((D.aI (ak b.2.2.1.3) 0,()),())) (uP n)) (uP n)) (λ_ _=>Y) (λ_ e=>Z (e,())) λ_ _=>
 Y))
def alh(n:Nat):OC:=⟨106,⟨ahQ,K4,J,F106 n⟩,cx [afE n,afD n,acj n] [(106,1000008,⟨[(69,cX)],[],[],0⟩),(106,1000009,⟨[(69,cX)],[],[],0⟩)] n 10 106⟩
def pX(n:Nat):Option fH:=
 Z ((J,()),())
def F67:Y58:=
 λn b=>aj (D.aI b.2.2.1.1 6) (ai (F106 n b) λc=>Z c) (aj (D.aI b.2.2.1.1 5) (aj (D.aI b.2.2.1.2 0) (aj (D.aI (ak b.2.2.1.3) 0)
 (aj (D.bN 0 (ak b.2.2.1.4)) (ai (F107 n (b.1,b.2.1,b.2.2.1.4,())) λc=>aj c.1.1 (ai (F108 n (b.1,b.2.2.1.4,ak b.2.2.1.4,())) λd
 =>aj d.1.1 (aC (av 0 b.2.2.1.4) (aC (av (aR b.2.2.1.4 (ah 0) aU).1 b.1.1) (Z ((D.aI (aR b.1.1 (ah (aR b.2.2.1.4 (ah 0)
 aU).1) aN).1 26,()),())))) (pX n)) (pX n)) (pX n)) (pX n)) (pX n)) (aj (D.aO (D.aI (ak b.2.2.1.4) 0)) (pX n)
 (aj (D.aI b.2.2.1.1 1) (ai (F55 n (b.2.2.1.2,0,D.dI .i64 (ak b.1.4) 1,())) λc=>aj c.1.1 (aC (av b.2.2.1.2 b.1.4) (aj (D.aI (ak
 b.2.2.1.3) (aR b.1.4 (ah b.2.2.1.2) bx).2) (ai (F109 n (b.1,b.2.1,b.2.2.1.3,3,())) λd=>Z d) (pX n))) (pX n)) (aj (D.aI
 b.2.2.1.1 2) (ai (F55 n (b.2.2.1.2,0,D.dI .i64 (ak b.1.1) 1,())) λc=>aj c.1.1 (aC (av b.2.2.1.2 b.1.1) (aj (D.aI (aR b.1.1 (ah
 b.2.2.1.2) aN).1 5) (ai (F109 n (b.1,b.2.1,b.2.2.1.3,30,())) λd=>Z d) (pX n))) (pX n)) (aj (D.aI b.2.2.1.1 3) (aj (D.aI
 b.2.2.1.2 0) (aj (D.aI (ak b.2.2.1.3) 1) (ai (F109 n (b.1,b.2.1,b.2.2.1.3,1,())) λc=>Z c) (pX n)) (pX n)) (aj (D.aI b.2.2.1.1
 4) (aj (D.aI b.2.2.1.2 0) (ai (F109 n (b.1,b.2.1,b.2.2.1.3,4,())) λc=>Z c) (pX n)) (pX n)))))))
def k67(n:Nat):OC:=⟨67,⟨ahQ,K4,J,F67 n⟩,cx [k55 n,alh n,afE n,afD n,acj n] [] n 10 67⟩
def wM(n:Nat):Option fH:=
 Z ((J,()),())
def F36:Y21:=
 λn b=>aj (D.bN 120 (ak b.2.1.1)) (wM n) (aj (D.bN 100 (ak b.2.1.3)) (wM n) (ai (F16 n (b.2.1.4,50,())) λc=>aj (D.aO
 c.1.1) (wM n) (ai (F55 n (b.2.1.5,0,1000000000,())) λd=>aj (D.aO d.1.1) (wM n) (ai (F66 n b.2) λe=>aj (D.aO e.1.1) (wM n)
 (ai (@iter (Int×Unit) (Bool×Unit) (Unit) (Any) (λg=>aj (D.bN g.1 (ak b.2.1.1)) (aC (av g.1 b.2.1.1) (ai (F67 n (b.1,b.2.1,aR
 b.2.1.1 (ah g.1) aT,())) λh=>aj (D.aO h.1.1) (Z (LO.ret () (J,()))) (Z (LO.next (D.add .i64 g.1 1,()))))) (Z (LO.out 0
 g))) n (0,())) λg=>LO.el g (λ_ _=>ai (@iter (Int×Unit) (Bool×Unit) (Unit) (Any) (λj=>aj (D.bN j.1 (ak b.2.1.3)) (aC (av j.1
 b.2.1.3) (ai (F55 n ((aR b.2.1.3 (ah j.1) gx).1,0,3,())) λk=>aj (D.aO k.1.1) (Z (LO.ret () (J,()))) (aC (av j.1
 b.2.1.3) (ai (F55 n ((aR b.2.1.3 (ah j.1) gx).2,(-1000000000),1000000000,())) λl=>aj (D.aO l.1.1) (Z (LO.ret () (J,())))
 (Z (LO.next (D.add .i64 j.1 1,()))))))) (Z (LO.out 0 j))) n (0,())) λj=>LO.el j (λ_ _=>Z ((W,()),())) (λ_ l=>Z (l,
 ())) λ_ _=>Y) (λ_ i=>Z (i,())) λ_ _=>Y)))))
def k36(n:Nat):OC:=⟨36,⟨P67,K4,J,F36 n⟩,cx [k16 n,k55 n,k66 n,k67 n] [(36,0,⟨[(5,de)],[],[],0⟩),(36,2,⟨[(6,de)],[],[],0⟩)] n 10 36⟩
def F22:Y21:=
 λn b=>ai (F15 n (b.1,())) λc=>aj c.1.1 (ai (F36 n b) λd=>Z d) (Z ((J,()),()))
def k22(n:Nat):OC:=⟨22,⟨P67,K4,J,F22 n⟩,cx [k15 n,k36 n] [] n 10 22⟩
def F39:Nat->Y17->Option Y18:=
 λn b=>ai (@iter (X5) (List Int×Unit) (Unit) (Any) (λc=>aj (D.bN c.2.1 (ak b.2.1.2)) (ai (F40 n (b.1,b.2.1,c.2)) λd=>aj
 (D.aO (D.aI d.1.1.2 2)) (aC (cZ c.1 [c.2.1]) (Z (LO.next (cP c.1 [c.2.1],D.add .i64 c.2.1 1,())))) (Z (LO.next (c.1,D.add .i64 c.2.1
 1,())))) (Z (LO.out 0 c))) n ([],0,())) λc=>LO.el c (λ_ e=>Z ((e.1,()),())) (λ_ e=>Z (e,())) λ_ _=>Y
def k39(n:Nat):OC:=⟨39,⟨P67,K63,J,F39 n⟩,cx [k40 n] [(39,0,⟨[(5,.one (.own (.int .i64))),(6,de)],[],[],0⟩)] n 10 39⟩
def F64:Nat->Int×Int×Unit->FN:=
 λn b=>aC (nzI b.2.1) (aj (D.bN (D.rem b.1 b.2.1) 0) (Z ((D.add .i64 (D.rem b.1 b.2.1) b.2.1,()),())) (Z ((D.rem b.1 b.2.1,()),())))
def k64(n:Nat):OC:=⟨64,⟨an5,K2,J,F64 n⟩,cx [] [] n 10 64⟩
def Nl(n:Nat)(c:Y73):Option Y75:=
 Z ((c.1.1,aZ,0,8,()),())
def F34:ahC:=
 λn b=>ai (F33 n (b.1,b.2.1,0,())) λc=>aj (D.aO c.1.2.2.1) (Nl n c) (ai (F39 n (b.1,c.1.1,())) λd=>aj (D.aI (ak d.1.1)
 0) (Z ((c.1.1,aZ,0,5,()),())) (ai (F64 n (b.2.2.1,ak d.1.1,())) λe=>aC (av e.1.1 d.1.1) (ai (F40 n (b.1,c.1.1,aR d.1.1
 (ah e.1.1) 0,())) λg=>ai (F33 n (b.1,g.1.1.1,D.add .i64 c.1.2.1 1,())) λh=>aj (D.aO h.1.2.2.1) (Nl n h) (aj (D.bN 5000
 h.1.2.1) (Nl n h) (Z ((h.1.1,g.1.1.3,h.1.2.1,0,()),()))))))
def k34(n:Nat):OC:=⟨34,⟨P68,K69,J,F34 n⟩,cx [k33 n,k39 n,k40 n,k64 n] [] n 10 34⟩
def Xx(d:ahm):aa:=
 aa.mk d.2.2.1.1 d.2.2.1.2.1 d.2.2.1.2.2.1 d.2.2.1.2.2.2.1 d.2.2.1.2.2.2.2.1
def Ip(e:Y75):wH:=
 (e.1.1.1,e.1.1.2,e.1.1.3,e.1.1.4,e.1.1.5,())
def ah0(c:Y73):wH:=
 (c.1.1.1,c.1.1.2,c.1.1.3,c.1.1.4,c.1.1.5,())
def F23:ahJ:=
 λn b=>ai (F33 n (b.1,b.2.1,0,())) λc=>aj (D.aO c.1.2.2.1) (Z ((c.1.1,[],8,()),())) (ai (@iter (ahm) (ahI) (wH×wH×Unit)
 (Any) (λd=>aj (D.bN d.2.1 (ak b.2.2.1)) (aC (av d.2.1 b.2.2.1) (ai (F34 n (b.1,Xx d,aR b.2.2.1 (ah d.2.1) 0,())) λe=>aj
 (D.aI e.1.2.2.2.1 5) (Z (LO.ret (d.2.2.1,d.2.2.1,()) (d.1,0,()))) (aj (D.aO (D.aI e.1.2.2.2.1 0)) (Z (LO.ret (d.2.2.1,Ip e,()) ([],
 e.1.2.2.2))) (aC (cZ d.1 [e.1.2.1]) (Z (LO.next (cP d.1 [e.1.2.1],D.add .i64 d.2.1 1,Ip e,d.2.2.2))))))) (Z (LO.out 0 d))) n ([],0,
 ah0 c,([],[],[],[],0,()),())) λd=>LO.el d (λ_ g=>Z ((Xx g,g.1,0,()),())) (λe g=>Z ((aa.mk e.2.1.1 e.2.1.2.1
 e.2.1.2.2.1 e.2.1.2.2.2.1 e.2.1.2.2.2.2.1,g),())) λ_ _=>Y)
def k23(n:Nat):OC:=⟨23,⟨P65,K66,J,F23 n⟩,cx [k33 n,k34 n] [(23,0,⟨[(11,.one (.own (.st 9))),(12,de),(0,b4z),(0,b4z)],[.slot 4,.slot 6],[],0⟩)] n 10 23⟩
def Io(b:Y35)(c:Int×Unit):aE:=
 aR b.2.1 (ah c.1) aZ
def F24:Nat->Y35->Option fH:=
 λn b=>aj (D.aO (D.aI (ak b.1) (ak b.2.1))) (Z ((J,()),())) (ai (@iter (Int×Unit) (Bool×Unit) (Unit) (Any) (λc=>aj
 (D.bN c.1 (ak b.1)) (aC (av c.1 b.1) (aC (av c.1 b.2.1) (aj (D.aO (D.fA (D.aI (aR b.1 (ah c.1) aZ).1 (Io b c).1) (D.fA
 (D.aI (aR b.1 (ah c.1) aZ).2 (Io b c).2) (D.fA (D.aI (aR b.1 (ah c.1) aZ).3 (Io b c).3) (D.fA (D.aI (aR b.1 (ah
 c.1) aZ).4.1 (Io b c).4.1) (D.fA (D.aI (aR b.1 (ah c.1) aZ).4.2 (Io b c).4.2) W)))))) (Z (LO.ret () (J,())))
 (Z (LO.next (D.add .i64 c.1 1,())))))) (Z (LO.out 0 c))) n (0,())) λc=>LO.el c (λ_ _=>Z ((W,()),())) (λ_ e=>Z (e,
 ())) λ_ _=>Y)
def k24(n:Nat):OC:=⟨24,⟨an4,K4,J,F24 n⟩,cx [] [(24,0,⟨[(5,de)],[],[],0⟩)] n 10 24⟩


end Mn
end
section
namespace TL
open Go
section
def Ev{α:Type}(f:Nat->Option α)(r:α):Prop:=∃N,∀n,N<=n->f n=Z r
section
variable {α β γ:Type}
def Ev.pure(r:α):Ev (λ_=>Z r) r:=⟨0,λ_ _=>rfl⟩
def Ev.of_eq{f:Nat->Option α}{r:α}(h:∀n,f n=Z r):Ev f r:=⟨0,λn _=>h n⟩
def Ev.congr{f g:Nat->Option α}{r:α}(h:∀n,f n=g n)(b:Ev g r):Ev f r:=(funext h:f=g)▸b
def Ev.ai{f:Nat->Option α}{a:α}{g:Nat->α->Option β}{r:β}(h:Ev f a)(b:Ev (λn=>g n a) r):Ev (λn=>ai (f n) (g n)) r:=by obtain⟨N,h⟩:=h;obtain⟨M,b⟩:=b;refine⟨max N M,λn d=>?_⟩;show TL.ai (f n) (g n)=Z r;rw[h n (fC (Nat.le_max_left ..) d)];exact b n (fC (Nat.le_max_right ..) d)
end
def wP{α β:Type}(f:Nat->Nat->α->Option β)(x:α)(r:β):Prop:=∀d,Ev (λn=>f n (n-d) x) r
def wP.step{α β:Type}{f:Nat->Nat->α->Option β}{g:Nat->(α->Option β)->α->Option β}{x:α}{r:β}(h:∀n k,f n (k+1)=g n (f n k))
  (b:∀d,Ev (λn=>g n (f n (n-d)) x) r):wP f x r:=by
 intro d;obtain⟨N,i⟩:=b (d+1);refine⟨max N (d+1),λn j=>?_⟩;have e:n-d=(n-(d+1))+1:=by omega
 show f n (n-d) x=Z r;rw[e,h];exact i n (by omega)
section
variable {X R B P:Type}
inductive eL(F:Nat->X->Option (LO X R B P)):X->LO X R B P->Prop
 |next {x y:X} {o:LO X R B P}:Ev (λn=>F n x) (.next y)->eL F y o->eL F x o
 |out {x y:X} {j:Nat}:Ev (λn=>F n x) (.out j y)->eL F x (.out j y)
 |ret {x:X} {b:B} {r:R}:Ev (λn=>F n x) (.ret b r)->eL F x (.ret b r)
 |dh {x:X} {b:B} {p:P}:Ev (λn=>F n x) (.dh b p)->eL F x (.dh b p)
def eL.last{F:Nat->X->Option (LO X R B P)}{x:X}{o:LO X R B P}(h:Ev (λn=>F n x) o)(hn:∀y,o≠.next y):eL F x o:=by cases o with|next y=>exact absurd rfl (hn y)|out j y=>exact .out h|ret b r=>exact .ret h|dh b p=>exact .dh h
def eL.fuel{F:Nat->X->Option (LO X R B P)}{x:X}{o:LO X R B P}(h:eL F x o):∃N,∀n k,N<=n->N<=k->iter (F n) k x=Z o:=by
 induction h with
 |next h _ b=>
  obtain⟨N,h⟩:=h;obtain⟨M,b⟩:=b;refine⟨max N M+1,λn k d e=>?_⟩;cases k with|zero=>omega|succ k=>unfold iter;rw[show F n _=_ from h n (by omega)];exact b n k (by omega) (by omega)
 |out h=>
  obtain⟨N,h⟩:=h;refine⟨N+1,λn k d e=>?_⟩;cases k with|zero=>omega|succ k=>unfold iter;rw[show F n _=_ from h n (by omega)]
 |ret h=>
  obtain⟨N,h⟩:=h;refine⟨N+1,λn k d e=>?_⟩;cases k with|zero=>omega|succ k=>unfold iter;rw[show F n _=_ from h n (by omega)]
 |dh h=>
  obtain⟨N,h⟩:=h;refine⟨N+1,λn k d e=>?_⟩;cases k with|zero=>omega|succ k=>unfold iter;rw[show F n _=_ from h n (by omega)]
def Ev.iter{F:Nat->X->Option (LO X R B P)}{x:X}{o:LO X R B P}(h:eL F x o):Ev (λn=>TL.iter (F n) n x) o:=by obtain⟨N,h⟩:=h.fuel;exact⟨N,λn b=>h n n b b⟩
def Ev.aP{β:Type}{F:Nat->X->Option (LO X R B P)}{x:X}{o:LO X R B P}(h:eL F x o)(g:Nat->LO X R B P->Option β)(r:β)(b:Ev (λn=>g n o) r):Ev (λn=>TL.ai (TL.iter (F n) n x) (g n)) r:=(Ev.iter h).ai b
def eL.many{F:Nat->X->Option (LO X R B P)}{o:LO X R B P}:∀(k:Nat)(s:Nat->X),(∀i,i<k->Ev (λn=>F n (s i)) (.next (s (i+1))))->eL F (s k) o->eL F (s 0) o
 |0,_,_,h=>h
 |k+1,s,b,h=>.next (b 0 (by omega)) (eL.many k (λi=>s (i+1)) (λi hi=>b (i+1) (by omega)) h)
def n5{F:Nat->X->Option (LO X R B P)}(len:Nat)(s:Nat->X)(q:Nat->Bool)(bad:Nat->LO X R B P)(p:Nat)(t:∀i y,bad i≠.next y)
  (h:∀i,i<len->(∀j,j<i->q j=W)->Ev (λn=>F n (s i)) (bif q i then .next (s (i+1))else bad i))
  (u:(∀j,j<len->q j=W)->Ev (λn=>F n (s len)) (.out p (s len))) :
  ((∀i,i<len->q i=W)∧eL F (s 0) (.out p (s len)))∨∃i,i<len∧q i=J∧(∀j,j<i->q j=W)∧eL F (s 0) (bad i):=by
 have key:∀m i,i+m=len->(∀j,j<i->q j=W)->((∀i,i<len->q i=W)∧eL F (s i) (.out p (s len)))∨∃k,k<len∧q k=J∧(∀j,j<k->q j=W)∧eL F (s i) (bad k):=by
  intro m
  induction m with
  |zero=>
   intro i hi e;have:i=len:=by omega
   subst this;exact .inl ⟨e,.out (u e)⟩
  |succ m v=>
   intro i hi e;have g:=h i (by omega) e;cases l:q i with
   |false=>rw[l]at g;exact .inr ⟨i,by omega,l,e,.last g (t i)⟩
   |true=>
    rw[l]at g;rcases v (i+1) (by omega) (λj w=>by
     by_cases r:j=i
     .rw[r];exact l
     .exact e j (by omega))with⟨a,b⟩|⟨k,a,b,c,d⟩
    .exact .inl ⟨a,.next g b⟩
    .exact .inr ⟨k,a,b,c,.next g d⟩
 exact key len 0 (by omega) (λj w=>by omega)
def j9{F:Nat->X->Option (LO X R B P)}(len:Nat)(s:Nat->X)(b:Nat)(h:∀i,i<len->Ev (λn=>F n (s i)) (.next (s (i+1))))(d:Ev (λn=>F n (s len)) (.out b (s len))):eL F (s 0) (.out b (s len)):=
 eL.many len s h (.out d)
end
section
def xT{n:Int}(h1:-9223372036854775808<=n)(h2:n<=9223372036854775807):IntKind.wrap .i64 n=n:=by unfold IntKind.wrap;simp[IntKind.bits,IntKind.signed];omega
def bF{a b:Int}(h1:-9223372036854775808<=a+b)(h2:a+b<=9223372036854775807):D.add .i64 a b=a+b:=xT h1 h2
def cV{a b:Int}(h1:-9223372036854775808<=a-b)(h2:a-b<=9223372036854775807):D.dI .i64 a b=a-b:=xT h1 h2
def U3{a b:Int}(h1:-9223372036854775808<=a*b)(h2:a*b<=9223372036854775807):D.mul .i64 a b=a*b:=xT h1 h2
def Za{α:Type}{n:Int}{l:List α}:av n l=W↔0<=n∧n<l.length:=by simp[av]
def Vz{α:Type}{k:Nat}{l:List α}:ct k l=W↔k<l.length:=by simp[ct]
def ZY{lo hi len:Int}:ff lo hi len=W↔0<=lo∧lo<=hi∧hi<=len:=by simp[ff]
def Eu{α:Type}{a b:List α}:cZ a b=W↔a.length+b.length<=17179869184:=by simp[cZ]
def QB{a b:Int}:D.aI a b=W↔a=b:=by simp[D.aI]
def vn{a b:Int}:D.bN a b=W↔a<b:=by simp[D.bN]
end
section
variable {α β:Type}
theorem H6(a:α)(f:α->Option β):ai (Z a) f=f a:=rfl
theorem agL{R P:Type}(r:R)(f:R->Option α)(g:P->Option α):Rx.el (.ok r) f g=f r:=rfl
theorem ac9{R P:Type}(p:P)(f:R->Option α)(g:P->Option α):Rx.el (.dh p) f g=g p:=rfl
theorem ME(x:Option α):aC W x=x:=rfl
theorem KF(x y:Option α):aj W x y=x:=rfl
theorem PX(x y:Option α):aj J x y=y:=rfl
def ze{γ:Type}{i:Int}{l:List γ}(h1:0<=i)(h2:i<(l.length:Int))(x:Option α):aC (av i l) x=x:=by rw[Za.2 ⟨h1,h2⟩];rfl
def WA{γ:Type}{k:Nat}{l:List γ}(h:k<l.length)(x:Option α):aC (ct k l) x=x:=by rw[Vz.2 h];rfl
def Z0{a b c:Int}(h1:0<=a)(h2:a<=b)(h3:b<=c)(x:Option α):aC (ff a b c) x=x:=by rw[ZY.2 ⟨h1,h2,h3⟩];rfl
def QU{γ:Type}{a b:List γ}(h:a.length+b.length<=17179869184)(x:Option α):aC (cZ a b) x=x:=by rw[Eu.2 h];rfl
def JC(a b:Bool)(x:Option α):aC (Ch a b) x=aC a (aC b x):=by cases a<;>rfl
def JB{a b:Int}(h:a=b)(x:Option α):aC (ia a b) x=x:=by subst h;simp[ia,aC]
def Yf{a b:Int}(h:a=b)(x y:Option α):aj (ia a b) x y=x:=by subst h;simp[ia,aj]
def Ua{a b:Int}(h:a≠b)(x y:Option α):aj (ia a b) x y=y:=by simp[ia,aj,h]
def mX{a b:Int}(h:a<b)(x y:Option α):aj (D.bN a b) x y=x:=by rw[vn.2 h];rfl
def rE{a b:Int}(h:b<=a)(x y:Option α):aj (D.bN a b) x y=y:=by simp[aj,D.bN,Int.not_lt.2 h]
def rF{a b:Int}(h:a<=b)(x y:Option α):aj (D.ek a b) x y=x:=by simp[aj,D.ek,h]
def ID{a b:Int}(h:b<a)(x y:Option α):aj (D.ek a b) x y=y:=by simp[aj,D.ek,Int.not_le.2 h]
def Ub{a b:Int}(h:a=b)(x y:Option α):aj (D.aI a b) x y=x:=by rw[QB.2 h];rfl
def IE{a b:Int}(h:a≠b)(x y:Option α):aj (D.aI a b) x y=y:=by rw[show D.aI a b=J by simp[D.aI,h]];rfl
def nD(a:Bool)(x y:Option α):aj (D.aO a) x y=aj a y x:=by cases a<;>rfl
def ae7{a b:Int}(h:a<b):D.bN a b=W:=vn.2 h
def ajx{a b:Int}(h:b<=a):D.bN a b=J:=by simp[D.bN,Int.not_lt.2 h]
def YM{a b:Int}(h:a<=b):D.ek a b=W:=by simp[D.ek,h]
def ab3{a b:Int}(h:b<a):D.ek a b=J:=by simp[D.ek,Int.not_le.2 h]
def ke{a b:Int}(h:a=b):D.aI a b=W:=QB.2 h
def jK{a b:Int}(h:a≠b):D.aI a b=J:=by simp[D.aI,h]
theorem adk(x y:α):(bif W then x else y)=x:=rfl
theorem adl(x y:α):(bif J then x else y)=y:=rfl
def T2(l:List α):ey l 0 (l.length:Int)=l:=by simp[ey]
def u0(l:List α)(k:Int):ey l k (l.length:Int)=l.drop k.toNat:=by simp[ey]
def nA(l:List α)(k:Int):ey l 0 k=l.take k.toNat:=by simp[ey]
theorem yJ(k:Nat):ah (k:Int)=k:=rfl
theorem Cy(l:List α):ak l=(l.length:Int):=rfl
theorem Wh(l:List α)(k:Nat)(z:α):aR l k z=l.getD k z:=rfl
theorem YC(n:Int):ah n=n.toNat:=rfl
theorem Z2(a b:List α):cP a b=a++b:=rfl
theorem Yr(l:List α)(k:Nat)(x:α):dO l k x=l.set k x:=rfl
def YJ(a b:List α):(a++b).length=a.length+b.length:=iq
def Vi(a:α)(l:List α):(a::l).length=l.length+1:=fc
theorem YI:([]:List α).length=0:=rfl
def U2(k:Nat):Int.toNat (k:Int)=k:=FY k
theorem U1:Int.toNat 0=0:=rfl
theorem YB:Int.toNat 1=1:=rfl
end
def kS:(∀{α:Type}(a b:List α),(a++b).length=a.length+b.length)∧(∀{α:Type}(a:α)(l:List α),(a::l).length=l.length+1)∧(∀{α:Type},([]:List α).length=0)∧
 (∀{α:Type}(k:Nat)(l:List α),(l.drop k).length=l.length-k)∧(∀{α:Type}(k:Nat)(l:List α),(l.take k).length=min k l.length)∧(∀{α:Type}(k:Nat)(x:α)(l:List α),(l.set k x).length=l.length):=
 ⟨λ_ _=>iq,λ_ _=>rfl,rfl,λ_ _=>KP,λ_ _=>zV,λ_ _ _=>zT⟩
def aQ:(∀{α:Type}{β:Type}(a:α)(f:α->Option β),ai (Z a) f=f a)∧
 (∀{α:Type}{R P:Type}(r:R)(f:R->Option α)(g:P->Option α),Rx.el (.ok r) f g=f r)∧
 (∀{α:Type}{R P:Type}(p:P)(f:R->Option α)(g:P->Option α),Rx.el (.dh p) f g=g p)∧
 (∀{α:Type}(x:Option α),aC W x=x)∧
 (∀{α:Type}(x y:Option α),aj W x y=x)∧
 (∀{α:Type}(x y:Option α),aj J x y=y)∧
 (∀{α:Type}{γ:Type}{i:Int}{l:List γ}(h1:0<=i)(h2:i<(l.length:Int))(x:Option α),aC (av i l) x=x)∧
 (∀{α:Type}{γ:Type}{k:Nat}{l:List γ}(h:k<l.length)(x:Option α),aC (ct k l) x=x)∧
 (∀{α:Type}{a b c:Int}(h1:0<=a)(h2:a<=b)(h3:b<=c)(x:Option α),aC (ff a b c) x=x)∧
 (∀{α:Type}{γ:Type}{a b:List γ}(h:a.length+b.length<=17179869184)(x:Option α),aC (cZ a b) x=x)∧
 (∀{α:Type}(a b:Bool)(x:Option α),aC (Ch a b) x=aC a (aC b x))∧
 (∀{α:Type}{a b:Int}(h:a=b)(x:Option α),aC (ia a b) x=x)∧
 (∀{α:Type}{a b:Int}(h:a=b)(x y:Option α),aj (ia a b) x y=x)∧
 (∀{α:Type}{a b:Int}(h:a≠b)(x y:Option α),aj (ia a b) x y=y)∧
 (∀{α:Type}{a b:Int}(h:a<b)(x y:Option α),aj (D.bN a b) x y=x)∧
 (∀{α:Type}{a b:Int}(h:b<=a)(x y:Option α),aj (D.bN a b) x y=y)∧
 (∀{α:Type}{a b:Int}(h:a<=b)(x y:Option α),aj (D.ek a b) x y=x)∧
 (∀{α:Type}{a b:Int}(h:b<a)(x y:Option α),aj (D.ek a b) x y=y)∧
 (∀{α:Type}{a b:Int}(h:a=b)(x y:Option α),aj (D.aI a b) x y=x)∧
 (∀{α:Type}{a b:Int}(h:a≠b)(x y:Option α),aj (D.aI a b) x y=y)∧
 (∀{α:Type}(a:Bool)(x y:Option α),aj (D.aO a) x y=aj a y x)∧
 (∀{a b:Int}(h:a<b),D.bN a b=W)∧
 (∀{a b:Int}(h:b<=a),D.bN a b=J)∧
 (∀{a b:Int}(h:a<=b),D.ek a b=W)∧
 (∀{a b:Int}(h:b<a),D.ek a b=J)∧
 (∀{a b:Int}(h:a=b),D.aI a b=W)∧
 (∀{a b:Int}(h:a≠b),D.aI a b=J)∧
 (∀{α:Type}(x y:α),(bif W then x else y)=x)∧
 (∀{α:Type}(x y:α),(bif J then x else y)=y)∧
 (∀{α:Type}(l:List α),ey l 0 (l.length:Int)=l)∧
 (∀{α:Type}(l:List α),ak l=(l.length:Int))∧
 (∀{α:Type}(l:List α)(k:Nat)(z:α),aR l k z=l.getD k z)∧
 (∀(n:Int),ah n=n.toNat)∧
 (∀{α:Type}(a b:List α),cP a b=a++b)∧
 (∀{α:Type}(l:List α)(k:Nat)(x:α),dO l k x=l.set k x)∧
 (∀{α:Type}(a b:List α),(a++b).length=a.length+b.length)∧
 (∀{α:Type}(a:α)(l:List α),(a::l).length=l.length+1)∧
 (∀{α:Type},([]:List α).length=0)∧
 (∀(k:Nat),Int.toNat (k:Int)=k)∧
 (Int.toNat 0=0)∧
 (Int.toNat 1=1):=
 ⟨@H6,@agL,@ac9,@ME,@KF,@PX,@ze,@WA,@Z0,@QU,@JC,@JB,@Yf,@Ua,@mX,@rE,@rF,@ID,@Ub,@IE,@nD,@ae7,@ajx,@YM,@ab3,@ke,@jK,@adk,@adl,@T2,@Cy,@Wh,@YC,@Z2,@Yr,@YJ,@Vi,@YI,@U2,@U1,@YB⟩
end
end TL
end
section
namespace Mn
open Go TL
def vH(a b:aq):Bool:=a.Kind==b.Kind&&a.N==b.N
def gF(n:Int):aq:=⟨1,n⟩
def iy(b:Bool):aq:=⟨2,bif b then 1 else 0⟩
def fu:aq:=⟨3,0⟩
def tJ(n:Int):aq:=⟨5,n⟩
def oI(v:aq):aq:=if v.Kind=4∨v.Kind=5 then tJ 0 else v
def dL:List Nat:=[0,0,0,0,0,0,2,1,1,2,2,2,2,2,0,1,1,1,2,1,1,0,2,1,1,0,1,0,0]
def jh(n:bp):Int:=if n.Op=14 then n.Kids.length else(dL.getD n.Op.toNat 0:Nat)
def nodeAt(p:aA)(n:Int):bp:=p.aV.getD n.toNat aN
def cn(w:aa)(n:Int):aD:=w.aW.getD n.toNat aT
def bT(w:aa)(at_:Int):Int:=w.bf.getD at_.toNat 0
def bS(l:List aq)(n:Nat):aq:=l.getD n ax
def lH(w:aa)(n:Int)(o:aD):aa:=⟨w.aW.set n.toNat o,w.bf,w.gH,w.uI,w.Used⟩
inductive o8 where
 |fail (s:Int)
 |waits
 |go (w:aa) (fr:List au) (bk:List aq) (e:Option aE)
def fD(w:aa)(left:List au)(v:aq):o8:=.go w left [v] Y
def jf(w:aa)(left:List au)(node:Int)(env:List aq):o8:=
 if 40<=left.length∨30<env.length then .fail 4 else .go w (left++[⟨node,env,[]⟩]) [] Y
def fO(w:aa)(o:aD):aa:=⟨w.aW++[o],w.bf,w.gH,w.uI,w.Used⟩
def lN(w:aa)(left:List au)(o:aD):o8:=
 if 120<=w.aW.length then .fail 4 else fD (fO w o) left (tJ w.aW.length)
def evS(at_:Int)(op n:Int)(v:aq):o8->o8
 | .go w fr bk _=>.go w fr bk (Z ⟨at_,op,n,oI v⟩)
 |r=>r
def gM(w:aa)(v:aq)(b:Int):Option aD:=
 if v.Kind=5∧(cn w v.N).Form=b then Z (cn w v.N)else Y
def g8(p:aA)(w:aa)(f v:aq):Option au:=
 if f.Kind=4 then Z ⟨p.dx.getD f.N.toNat 0,[v],[]⟩
 else match gM w f 2 with
  |some o=>Z ⟨(nodeAt p o.N).Kids.getD 0 0,o.bH++[v],[]⟩
  |none=>Y
def AG(p:aA)(w:aa)(left:List au)(f v:aq):o8:=
 match gM w f 5 with
 |some o=>if 40<left.length+o.Frames.length then .fail 4 else fD w (left++o.Frames) v
 |none=>match g8 p w f v with
  |none=>.fail 2
  |some b=>jf w left b.Node b.Env
def gG(n:Int):Bool:=decide (-1000000000<=n)&&decide (n<=1000000000)
def um(w:aa)(left:List au)(op:Int)(u v:aq):o8:=
 if op=13 then(if u.Kind≠v.Kind∨3<u.Kind then .fail 2 else fD w left (iy (vH u v)))
 else if u.Kind≠1∨v.Kind≠1 then .fail 2
 else if op=12 then fD w left (iy (decide (u.N<v.N)))
 else
  let n:=if op=9 then u.N+v.N else if op=10 then u.N-v.N else u.N*v.N
  if gG n=W then fD w left (gF n)else .fail 4
mutual
def iw(w:aa):aB->aq->Option (List aq)
 |⟨b,n,text,parts⟩,v=>
  if b=1 then Z []else if b=2 then Z [v]
  else if b=3 then(if vH v (gF n)then Z []else Y)
  else if b=4 then(if vH v (iy (n==1))then Z []else Y)
  else if b=5 then(if vH v fu then Z []else Y)
  else match gM w v 1 with
   |none=>Y
   |some o=>if o.N≠n∨o.bH.length≠parts.length then Y else eI w parts o.bH
def eI(w:aa):List aB->List aq->Option (List aq)
 |q::b,v::d=>match iw w q v with
  |none=>Y
  |some l=>match eI w b d with
   |none=>Y
   |some m=>Z (l++m)
 |_,_=>Z []
end
def mc(w:aa)(left:List au)(env:List aq)(u:aq):List aB->List Int->o8
 |q::b,k::d=>match iw w q u with
  |some l=>jf w left k (env++l)
  |none=>mc w left env u b d
 |_,_=>.fail 3
def ic{α:Type}(q:α->Bool):List α->Option Nat
 |[]=>Y
 |a::l=>match ic q l with
  |some k=>Z (k+1)
  |none=>bif q a then Z 0 else Y
def zQ(p:aA)(w:aa)(left:List au)(b:Int)(env:List aq):o8:=
 match ic (λf:au=>(nodeAt p f.Node).Op==26) left with
 |none=>.fail 3
 |some k=>if 120<=w.aW.length then .fail 4
  else jf (fO w ⟨5,0,[],left.drop k⟩) (left.take (k+1)) b (env++[tJ w.aW.length])
def zN(p:aA)(w:aa)(at_:Int)(left:List au)(f:aq):o8:=
 let mk (o:aD):o8:=if 120<=w.aW.length then .fail 4
  else .go ⟨w.aW++[o],w.bf++[(w.aW.length:Int)],w.gH,w.uI,w.Used⟩ left [tJ w.aW.length] (Z ⟨at_,19,0,fu⟩)
 match gM w f 5 with
 |some k=>mk ⟨6,0,[fu],k.Frames⟩
 |none=>match g8 p w f fu with
  |none=>.fail 2
  |some b=>if 30<b.Env.length then .fail 4 else mk ⟨6,0,[],[b]⟩
def SL(w:aa)(at_:Int)(left:List au)(v:aq):o8:=match gM w v 3 with
 |none=>.fail 2
 |some o=>.go w left [bS o.bH 0] (Z ⟨at_,17,0,oI (bS o.bH 0)⟩)
def hY(w:aa)(at_:Int)(left:List au)(c v:aq):o8:=match gM w c 3 with
 |none=>.fail 2
 |some o=>.go (lH w c.N ⟨3,0,[v],[]⟩) left [fu] (Z ⟨at_,18,0,oI v⟩)
def GM(w:aa)(at_:Int)(left:List au)(c v:aq):o8:=match gM w c 4 with
 |none=>.fail 2
 |some o=>if 4<=o.bH.length then .waits else .go (lH w c.N ⟨4,0,o.bH++[v],[]⟩) left [fu] (Z ⟨at_,22,0,oI v⟩)
def GI(w:aa)(at_:Int)(left:List au)(c:aq):o8:=match gM w c 4 with
 |none=>.fail 2
 |some o=>match o.bH with
  |[]=>.waits
  |v::l=>.go (lH w c.N ⟨4,0,l,[]⟩) left [v] (Z ⟨at_,23,0,oI v⟩)
def HB(w:aa)(at_:Int)(left:List au)(v:aq):o8:=match gM w v 6 with
 |none=>.fail 2
 |some o=>if o.N=0 then .waits else if o.N≠1 then .fail o.N else .go w left [bS o.bH 0] (Z ⟨at_,20,0,oI (bS o.bH 0)⟩)
def RU(w:aa)(at_:Int)(left:List au)(port:Int)(v:aq):o8:=
 if v.Kind≠1 then .fail 2 else if 100<=w.gH.length then .fail 4
 else .go ⟨w.aW,w.bf,w.gH++[⟨port,v.N⟩],w.uI,w.Used⟩ left [fu] (Z ⟨at_,24,port,oI v⟩)
def inS(w:aa)(at_:Int)(left:List au):o8:=match w.uI with
 |[]=>.waits
 |i::l=>if 1000000000<=w.Used then .fail 4 else .go ⟨w.aW,w.bf,w.gH,l,w.Used+1⟩ left [gF i] (Z ⟨at_,25,0,gF i⟩)
def iI(p:aA)(w:aa)(at_:Int)(left:List au)(f:au):o8:=
 let n:=nodeAt p f.Node
 let l:=f.bH
 match n.Op.toNat with
 |1=>fD w left (gF n.N)
 |2=>fD w left (iy (n.N==1))
 |3=>fD w left fu
 |4=>if n.N<0 then fD w left ⟨4,-1-n.N⟩else if f.Env.length<=n.N then .fail 2 else fD w left (bS f.Env n.N.toNat)
 |5=>lN w left ⟨2,f.Node,f.Env,[]⟩
 |6=>AG p w left (bS l 0) (bS l 1)
 |7=>jf w left (n.Kids.getD 1 0) (f.Env++[bS l 0])
 |8=>if(bS l 0).Kind≠2 then .fail 2 else jf w left (n.Kids.getD (2-(bS l 0).N).toNat 0) f.Env
 |9|10|11|12|13=>um w left n.Op (bS l 0) (bS l 1)
 |14=>lN w left ⟨1,n.N,l,[]⟩
 |15=>mc w left f.Env (bS l 0) n.cu (n.Kids.drop 1)
 |16=>evS at_ 16 0 (bS l 0) (lN w left ⟨3,0,[bS l 0],[]⟩)
 |17=>SL w at_ left (bS l 0)
 |18=>hY w at_ left (bS l 0) (bS l 1)
 |19=>zN p w at_ left (bS l 0)
 |20=>HB w at_ left (bS l 0)
 |21=>evS at_ 21 0 fu (lN w left ⟨4,0,[],[]⟩)
 |22=>GM w at_ left (bS l 0) (bS l 1)
 |23=>GI w at_ left (bS l 0)
 |24=>RU w at_ left n.N (bS l 0)
 |25=>inS w at_ left
 |26=>fD w left (bS l 0)
 |27=>zQ p w left (n.Kids.getD 0 0) f.Env
 |_=>.go w left [fu] (Z ⟨at_,28,0,fu⟩)
def V3(p:aA)(w:aa)(at_:Int)(o:aD):o8:=
 let top:=o.Frames.length-1
 let f:=o.Frames.getD top aU
 match o.bH with
 |v::_=>.go w (o.Frames.take top++[⟨f.Node,f.Env,f.bH++[v]⟩]) [] Y
 |[]=>if(f.bH.length:Int)<jh (nodeAt p f.Node)then jf w o.Frames ((nodeAt p f.Node).Kids.getD f.bH.length 0) f.Env
  else iI p w at_ (o.Frames.take top) f
def gw(p:aA)(w:aa)(at_:Int):Option (aa×Option aE):=
 let t:=bT w at_
 let o:=cn w t
 if o.N≠0 then Y
 else if o.Frames=[]then Z (lH w t ⟨6,1,[bS o.bH 0],[]⟩,Z ⟨at_,0,1,oI (bS o.bH 0)⟩)
 else match V3 p w at_ o with
  | .waits=>Y
  | .fail s=>Z (lH w t ⟨6,s,[],[]⟩,Z ⟨at_,0,s,ax⟩)
  | .go b fr bk e=>Z (lH b t ⟨6,0,bk,fr⟩,e)
section
def cC(p:aA)(k:Nat)(v:aq):Prop:=
 (v.Kind=1∧gG v.N=W)∨(v.Kind=2∧(v.N=0∨v.N=1))∨(v.Kind=3∧v.N=0)∨(v.Kind=4∧0<=v.N∧v.N<p.dx.length)∨(v.Kind=5∧0<=v.N∧v.N<k)
structure eG(p:aA)(k:Nat)(f:au):Prop where
 lo:0<=f.Node
 hi:f.Node<p.aV.length
 el:f.Env.length<=30
 env:∀v∈f.Env,cC p k v
 vl:(f.bH.length:Int)<=jh (nodeAt p f.Node)
 vals:∀v∈f.bH,cC p k v
def sN(p:aA)(f:au):Prop:=(f.bH.length:Int)<jh (nodeAt p f.Node)
inductive gr(p:aA)(k:Nat):aD->Prop
 |data {n:Int} {vs}:0<=n->n<p.Cons.length->(vs.length:Int)=(p.Cons.getD n.toNat bx).o6->(∀v∈vs,cC p k v)->gr p k ⟨1,n,vs,[]⟩
 |func {n:Int} {vs}:0<=n->n<p.aV.length->(nodeAt p n).Op=5->vs.length<=30->(∀v∈vs,cC p k v)->gr p k ⟨2,n,vs,[]⟩
 |cell {v}:cC p k v->gr p k ⟨3,0,[v],[]⟩
 |chan {vs}:vs.length<=4->(∀v∈vs,cC p k v)->gr p k ⟨4,0,vs,[]⟩
 |BZ {f fs}:fs.length<40->(∀g∈f::fs,eG p k g∧sN p g)->(nodeAt p f.Node).Op=26->gr p k ⟨5,0,[],f::fs⟩
 |vQ {fs f}:fs.length<40->(∀g∈fs,eG p k g∧sN p g)->eG p k f->gr p k ⟨6,0,[],fs++[f]⟩
 |back {fs v}:fs.length<=40->(∀g∈fs,eG p k g∧sN p g)->cC p k v->gr p k ⟨6,0,[v],fs⟩
 |done {v}:cC p k v->gr p k ⟨6,1,[v],[]⟩
 |dead {s}:s=2∨s=3∨s=4->gr p k ⟨6,s,[],[]⟩
structure gu(p:aA)(w:aa):Prop where
 len:w.aW.length<=120
 obs:∀o∈w.aW,gr p w.aW.length o
 outs:w.gH.length<=100
 out:∀o∈w.gH,0<=o.Port∧o.Port<=3∧gG o.N=W
 ins:w.uI.length<=50
 inn:∀i∈w.uI,gG i=W
 used:0<=w.Used∧w.Used<=1000000000
 vT:w.bf.Nodup
 tl:w.bf.length<=w.aW.length
 task:∀t∈w.bf,0<=t∧t<w.aW.length∧(cn w t).Form=6
 all:∀i:Nat,i<w.aW.length->(cn w i).Form=6->(i:Int)∈w.bf
mutual
def pw:aB->Nat
 |⟨_,_,_,parts⟩=>1+qt parts
def qt:List aB->Nat
 |[]=>0
 |q::b=>pw q+qt b
end
mutual
def pf:aB->Bool
 |⟨b,_,_,parts⟩=>(decide (1<=b)&&decide (b<=6))&&pfs parts
def pfs:List aB->Bool
 |[]=>W
 |q::b=>pf q&&pfs b
end
def qR:List Nat:=[0,0,0,0,0,1,2,2,3,2,2,2,2,2,0,0,1,1,2,1,1,0,2,1,1,0,1,1,0]
structure Pa(p:aA)(n:bp):Prop where
 lo:1<=n.Op
 hi:n.Op<=28
 kids:∀k∈n.Kids,0<=k∧k<p.aV.length
 many:n.Op≠14->n.Op≠15->n.Kids.length=qR.getD n.Op.toNat 0
 con:n.Op=14->0<=n.N∧n.N<p.Cons.length∧(n.Kids.length:Int)=(p.Cons.getD n.N.toNat bx).o6
 mat:n.Op=15->n.Kids.length=1+n.cu.length∧n.cu.length<=5
 int:n.Op=1->gG n.N=W
 bool:n.Op=2->n.N=0∨n.N=1
 name:n.Op=4->-(p.dx.length:Int)<=n.N∧n.N<=29
 port:n.Op=24->0<=n.N∧n.N<=3
 pats:∀q∈n.cu,pw q<=12∧pf q=W
structure mW(p:aA):Prop where
 len:p.aV.length<=300
 vN:∀n∈p.aV,Pa p n
 xu:∀f∈p.dx,0<=f∧f<p.aV.length
 fl:p.dx.length<=300
 main:0<=p.Main∧p.Main<p.dx.length
 cons:∀c∈p.Cons,0<=c.o6∧c.o6<=3
def bX{α:Type}{l:List α}{i:Nat}(d:α)(h:i<l.length):l.getD i d∈l:=by rw[j6,fP h];exact FX h
variable {p:aA}{n:Int}{w:aa}{v:aq}{o:aD}{k k':Nat}
def mW.nd(h:mW p)(h1:0<=n)(h2:n<p.aV.length):Pa p (nodeAt p n):=h.vN _ (bX _ (by omega))
def gu.ob(h:gu p w)(h1:0<=n)(h2:n<w.aW.length):gr p w.aW.length (cn w n):=h.obs _ (bX _ (by omega))
def dS(h:gu p w)(g:cC p w.aW.length v){b:Int}(d:gM w v b=Z o) :
  o.Form=b∧gr p w.aW.length o∧v.Kind=5∧0<=v.N∧v.N<w.aW.length∧o=cn w v.N:=by
 unfold gM at d;split at d<;>rename_i e
 .cases d;have:0<=v.N∧v.N<w.aW.length:=by rcases g with h|h|h|h|h<;>first|exact h.2|(have:=h.1;have:=e.1;omega)
  exact⟨e.2,h.ob this.1 this.2,e.1,this.1,this.2,rfl⟩
 .cases d
def cC.ref(d:cC p k v)(h:v.Kind=5):0<=v.N∧v.N<k:=by rcases d with b|b|b|b|b<;>first|exact b.2|(have:=b.1;omega)
def cC.code(d:cC p k v)(h:v.Kind=4):0<=v.N∧v.N<p.dx.length:=by rcases d with b|b|b|b|b<;>first|exact b.2|(have:=b.1;omega)
def cC.TX(d:cC p k v)(h:v.Kind=2):v.N=0∨v.N=1:=by rcases d with b|b|b|b|b<;>first|exact b.2|(have:=b.1;omega)
def cC.int(d:cC p k v)(h:v.Kind=1):gG v.N=W:=by rcases d with b|b|b|b|b<;>first|exact b.2|(have:=b.1;omega)
def cC.mono(d:k<=k')(b:cC p k v):cC p k' v:=by
 rcases b with h|h|h|h|h
 .exact .inl h
 .exact .inr (.inl h)
 .exact .inr (.inr (.inl h))
 .exact .inr (.inr (.inr (.inl h)))
 .exact .inr (.inr (.inr (.inr ⟨h.1,h.2.1,by omega⟩)))
def eG.mono{p:aA}{k k':Nat}{f:au}(d:k<=k')(h:eG p k f):eG p k' f:=
 ⟨h.lo,h.hi,h.el,λv b=>(h.env v b).mono d,h.vl,λv b=>(h.vals v b).mono d⟩
def gr.vals(h:gr p k o):∀v∈o.bH,cC p k v:=by
 have one:∀{u:aq},cC p k u->∀v∈[u],cC p k v:=λd v b=>by rw[kX.1 b];exact d
 cases h with
 |data _ _ _ h=>exact h
 |func _ _ _ _ h=>exact h
 |cell h=>exact one h
 |chan _ h=>exact h
 |BZ=>intro v b;cases b
 |vQ=>intro v b;cases b
 |back _ _ h=>exact one h
 |done h=>exact one h
 |dead=>intro v b;cases b
def gr.mono{p:aA}{k k':Nat}{o:aD}(i:k<=k')(h:gr p k o):gr p k' o:=by
 cases h with
 |data a b c d=>exact .data a b c λv l=>(d v l).mono i
 |func a b c d e=>exact .func a b c d λv l=>(e v l).mono i
 |cell a=>exact .cell (a.mono i)
 |chan a b=>exact .chan a λv l=>(b v l).mono i
 |BZ a b c=>exact .BZ a (λg j=>⟨(b g j).1.mono i,(b g j).2⟩) c
 |vQ a b c=>exact .vQ a (λg j=>⟨(b g j).1.mono i,(b g j).2⟩) (c.mono i)
 |back a b c=>exact .back a (λg j=>⟨(b g j).1.mono i,(b g j).2⟩) (c.mono i)
 |done a=>exact .done (a.mono i)
 |dead a=>exact .dead a
end
section
structure Cx(p:aA)(w:aa)(left:List au)(f:au):Prop where
 hp:mW p
 hw:gu p w
 hf:eG p w.aW.length f
 full:(f.bH.length:Int)=jh (nodeAt p f.Node)
 ll:left.length<40
 left:∀g∈left,eG p w.aW.length g∧sN p g
section
variable {p:aA}{w w':aa}{left:List au}{f:au}{at_:Int}
def Cx.nd(c:Cx p w left f):Pa p (nodeAt p f.Node):=c.hp.nd c.hf.lo c.hf.hi
variable {i k k':Nat}{n:Int}{o:aD}{fr:List au}{bk:List aq}{e:Option aE}{v u:aq}
def Cx.val(c:Cx p w left f)(h:i<f.bH.length):cC p w.aW.length (bS f.bH i):=c.hf.vals _ (bX _ h)
def Cx.vl(c:Cx p w left f){k:Int}(h:(nodeAt p f.Node).Op=k)(b:k≠14):f.bH.length=dL.getD k.toNat 0:=by
 have:=c.full;unfold jh at this;rw[h,br b]at this
 exact_mod_cast this
def CH(n:bp):0<=jh n:=by unfold jh;split<;>omega
def Hr(hn:0<=n)(b:n<w.aW.length):cn (lH w n o) i=if(i:Int)=n then o else cn w i:=by
 unfold cn lH;simp only[FY,j6,Dq];by_cases h:(i:Int)=n
 .rw[bJ h,bJ (by omega),bJ (by omega)];rfl
 .rw[br h,br (by omega)]
def qM:cn (fO w o) i=if i=w.aW.length then o else cn w i:=by
 unfold cn fO;simp only[FY,j6,kY];by_cases h:i=w.aW.length
 .rw[bJ h,br (by omega),h];simp
 .rw[br h];split
  .rfl
  .rw[Gb (by simp;omega),Gb (by omega)]
def gu.set(h:gu p w)(hn:0<=n)(k:n<w.aW.length)(m:gr p w.aW.length o)(hf:o.Form=6↔(cn w n).Form=6):gu p (lH w n o):=by
 have g:(lH w n o).aW.length=w.aW.length:=by unfold lH;simp
 have b:∀i:Nat,i<w.aW.length->((cn (lH w n o) i).Form=6↔(cn w i).Form=6):=by
  intro i hi;rw[Hr hn k];by_cases d:(i:Int)=n
  .rw[bJ d,d];exact hf
  .rw[br d]
 refine⟨by rw[g];exact h.len,λx j=>?_,h.outs,h.out,h.ins,h.inn,h.used,h.vT,by rw[g];exact h.tl,λt q=>?_,λi hi l=>?_⟩
 .rw[g];rcases Ll j with j|j
  .exact h.obs x j
  .rw[j];exact m
 .obtain ⟨h1,h2,h3⟩:=h.task t q;refine⟨h1,by rw[g];exact h2,?_⟩;have e:((t.toNat:Nat):Int)=t:=by omega
  have:=(b t.toNat (by omega)).2 (by rw[e];exact h3);rwa [e]at this
 .rw[g]at hi;exact h.all i hi ((b i hi).1 l)
def gu.add(h:gu p w)(hl:w.aW.length<120)(k:gr p w.aW.length o)(hf:o.Form≠6):gu p (fO w o):=by
 have j:(fO w o).aW.length=w.aW.length+1:=by unfold fO;simp
 refine⟨by omega,λx d=>?_,h.outs,h.out,h.ins,h.inn,h.used,h.vT,by have:=h.tl;unfold fO;simp;omega,λt l=>?_,λi hi b=>?_⟩
 .rw[j];rcases dY.1 d with d|d
  .exact (h.obs x d).mono (by omega)
  .rw[kX.1 d];exact k.mono (by omega)
 .obtain ⟨h1,h2,h3⟩:=h.task t l;refine⟨h1,by omega,?_⟩;have e:((t.toNat:Nat):Int)=t:=by omega
  rw[<-e,qM,br (by omega),e];exact h3
 .rw[qM]at b;by_cases g:i=w.aW.length
  .rw[bJ g]at b;exact absurd b hf
  .rw[br g]at b;exact h.all i (by omega) b
abbrev zp(w:aa)(o:aD):aa:=⟨w.aW++[o],w.bf++[(w.aW.length:Int)],w.gH,w.uI,w.Used⟩
def gu.spawn(h:gu p w)(hl:w.aW.length<120)(q:gr p w.aW.length o)(hf:o.Form=6):gu p (zp w o):=by
 have m:(zp w o).aW.length=w.aW.length+1:=by simp
 have g:∀i:Nat,cn (zp w o) i=if i=w.aW.length then o else cn w i:=λi=>qM (w:=w) (o:=o) (i:=i)
 refine⟨by omega,λx j=>?_,h.outs,h.out,h.ins,h.inn,h.used,?_,by have:=h.tl;simp;omega,λt k=>?_,λi hi d=>?_⟩
 .rw[m];rcases dY.1 j with j|j
  .exact (h.obs x j).mono (by omega)
  .rw[kX.1 j];exact q.mono (by omega)
 .refine GZ.2 ⟨h.vT,UC _ _,λa g b r=>?_⟩;rw[kX.1 r];have:=(h.task a g).2.1;omega
 .rcases dY.1 k with k|k
  .obtain ⟨h1,h2,h3⟩:=h.task t k;refine⟨h1,by omega,?_⟩;have e:((t.toNat:Nat):Int)=t:=by omega
   rw[<-e,g,br (by omega),e];exact h3
  .rw[kX.1 k];refine⟨by omega,by omega,?_⟩;rw[g,bJ rfl];exact hf
 .rw[g]at d;by_cases l:i=w.aW.length
  .exact iS _ (by rw[l];exact List.mem_singleton_self _)
  .rw[br l]at d;exact eH _ (h.all i (by omega) d)
structure pg(p:aA)(w w':aa)(fr:List au)(bk:List aq)(e:Option aE):Prop where
 ok:gu p w'
 tk:∃l,w'.bf=w.bf++l
 tn:e=Y->w'.bf=w.bf
 ln:w.aW.length<=w'.aW.length
 fm:∀i:Nat,i<w.aW.length->((cn w' i).Form=6↔(cn w i).Form=6)
 ob:gr p w'.aW.length ⟨6,0,bk,fr⟩
def sX(p:aA)(w:aa):o8->Prop
 | .fail s=>s=2∨s=3∨s=4
 | .waits=>True
 | .go w' fr bk e=>pg p w w' fr bk e
def pg.same(h:gu p w)(b:gr p w.aW.length ⟨6,0,bk,fr⟩):pg p w w fr bk e:=
 ⟨h,⟨[],by simp⟩,λ_=>rfl,bP _,λ_ _=>qF,b⟩
def pg.set(h:gu p w){fr:List au}{bk:List aq}{e:Option aE}{n:Int}{o:aD}(hn:0<=n)(d:n<w.aW.length)(j:gr p w.aW.length o)(hf:o.Form≠6)(g:(cn w n).Form≠6)
  (k:gr p w.aW.length ⟨6,0,bk,fr⟩):pg p w (lH w n o) fr bk e:=by
 have l:(lH w n o).aW.length=w.aW.length:=by unfold lH;simp
 refine⟨h.set hn d j ⟨λh=>absurd h hf,λh=>absurd h g⟩,⟨[],by simp[lH]⟩,λ_=>rfl,by omega,λi hi=>?_,by rw[l];exact k⟩;rw[Hr hn d];by_cases b:(i:Int)=n
 .rw[bJ b,b];exact⟨λh=>absurd h hf,λh=>absurd h g⟩
 .rw[br b]
def pg.add(h:gu p w){fr:List au}{bk:List aq}{e:Option aE}{o:aD}(hl:w.aW.length<120)(d:gr p w.aW.length o)(hf:o.Form≠6)
  (g:gr p (w.aW.length+1) ⟨6,0,bk,fr⟩):pg p w (fO w o) fr bk e:=by
 have b:(fO w o).aW.length=w.aW.length+1:=by unfold fO;simp
 refine⟨h.add hl d hf,⟨[],by simp[fO]⟩,λ_=>rfl,by omega,λi hi=>?_,by rw[b];exact g⟩;rw[qM,br (by omega)]
def sv(d:k<=k')(hl:left.length<=40)(h:∀g∈left,eG p k g∧sN p g)(e:cC p k' v):gr p k' ⟨6,0,[v],left⟩:=
 .back hl (λg b=>⟨(h g b).1.mono d,(h g b).2⟩) e
def Vw(h:gG n=W):cC p k (gF n):=.inl ⟨rfl,h⟩
def OU{b:Bool}:cC p k (iy b):=.inr (.inl ⟨rfl,by cases b<;>simp[iy]⟩)
def wS:cC p k fu:=.inr (.inr (.inl ⟨rfl,rfl⟩))
def Uj(h:k<k'):cC p k' (tJ k):=.inr (.inr (.inr (.inr ⟨rfl,by simp[tJ],by simp[tJ];omega⟩)))
def yL(c:Cx p w left f)(b:gr p w.aW.length o)(hf:o.Form≠6):sX p w (lN w left o):=by
 unfold lN;split
 .exact .inr (.inr rfl)
 .exact pg.add c.hw (by omega) b hf (sv (by omega) (by have:=c.ll;omega) c.left (Uj (by omega)))
def V9{r:o8}{a b d:Int}(h:sX p w r):sX p w (evS a b d v r):=by cases r with|go w' fr bk e=>exact⟨h.ok,h.tk,(λg=>by cases g),h.ln,h.fm,h.ob⟩|_=>exact h
def tP{k:Int}{env:List aq}{w1:aa}(h1:∀fr,gr p w1.aW.length ⟨6,0,[],fr⟩->pg p w w1 fr [] Y)(d:w.aW.length<=w1.aW.length)(hl:∀g∈left,eG p w.aW.length g∧sN p g)
  (hn:0<=k∧k<p.aV.length) (e:∀v∈env,cC p w1.aW.length v):sX p w (jf w1 left k env):=by
 unfold jf;split
 .exact .inr (.inr rfl)
 .exact h1 _ (.vQ (by omega) (λg b=>⟨(hl g b).1.mono d,(hl g b).2⟩) ⟨hn.1,hn.2,by simp only;omega,e,CH _,λv i=>by cases i⟩)
def An{l:List aq}(h:∀u∈l,cC p k u)(d:cC p k v):∀u∈l++[v],cC p k u:=by
 intro u b;rcases dY.1 b with b|b
 .exact h u b
 .rw[kX.1 b];exact d
def MS(hp:mW p)(hw:gu p w)(j:cC p w.aW.length u)(k:cC p w.aW.length v){b:au}(i:g8 p w u v=Z b) :
  (0<=b.Node∧b.Node<p.aV.length)∧(∀x∈b.Env,cC p w.aW.length x)∧b.bH=[]:=by
 unfold g8 at i;split at i
 .rename_i h4;cases i;obtain⟨h1,h2⟩:=j.code h4;exact⟨hp.xu _ (bX _ (by omega)),An (l:=[]) (by simp) k,rfl⟩
 .split at i
  .rename_i o r;cases i;obtain⟨h1,h2,_⟩:=dS hw j r;cases h2 with|func a b d e g=>have m:=hp.nd a b;have q:=m.many (by omega) (by omega);rw[d]at q;exact⟨m.kids _ (bX _ (by rw[q];decide)),An g k,rfl⟩|_=>cases h1
  .cases i
mutual
def LG(hw:gu p w):∀(q:aB)(v:aq)(l:List aq),cC p w.aW.length v->iw w q v=Z l->∀u∈l,cC p w.aW.length u
 |⟨b,n,text,parts⟩,v,l,e,h=>by
  unfold iw at h;by_cases h1:b=1
  .rw[bJ h1]at h;cases h;intro u d;cases d
  rw[br h1]at h;by_cases h2:b=2
  .rw[bJ h2]at h;cases h;intro u d;rw[kX.1 d];exact e
  rw[br h2]at h;by_cases h3:b=3
  .rw[bJ h3]at h;split at h<;>cases h;intro u d;cases d
  rw[br h3]at h;by_cases h4:b=4
  .rw[bJ h4]at h;split at h<;>cases h;intro u d;cases d
  rw[br h4]at h;by_cases h5:b=5
  .rw[bJ h5]at h;split at h<;>cases h;intro u d;cases d
  rw[br h5]at h;split at h
  .cases h
  .rename_i o g;split at h
   .cases h
   .exact DS hw parts o.bH l (dS hw e g).2.1.vals h
def DS(hw:gu p w):∀(qs:List aB)(vs:List aq)(l:List aq),(∀v∈vs,cC p w.aW.length v)->eI w qs vs=Z l->∀u∈l,cC p w.aW.length u
 |[],vs,l,d,h=>by unfold eI at h;cases h;intro u b;cases b
 |q::qs,[],l,d,h=>by unfold eI at h;cases h;intro u b;cases b
 |q::qs,v::vs,l,d,h=>by
  unfold eI at h;split at h
  .cases h
  .rename_i i e;split at h
   .cases h
   .rename_i j g;cases h;intro u b;rcases dY.1 b with b|b
    .exact LG hw q v i (d v ez) e u b
    .exact DS hw qs vs j (λx k=>d x (gJ _ k)) g u b
end
def MI(c:Cx p w left f){u:aq}(e:cC p w.aW.length u):∀(qs:List aB)(b:List Int),(∀k∈b,0<=k∧k<p.aV.length)->sX p w (mc w left f.Env u qs b)
 |[],b,_=>by cases b<;>exact .inr (.inl rfl)
 |q::qs,[],_=>.inr (.inl rfl)
 |q::qs,k::b,g=>by
  unfold mc;split
  .rename_i l i;refine tP (λfr h=>pg.same c.hw h) (bP _) c.left (g k ez) λv d=>?_;rcases dY.1 d with d|d
   .exact c.hf.env v d
   .exact LG c.hw q u l e i v d
  .exact MI c e qs b λx j=>g x (gJ _ j)
def mu{op:o8}(c:Cx p w left f)(b:cC p w.aW.length v):sX p w (fD w left v):=
 pg.same c.hw (sv (bP _) (by have:=c.ll;omega) c.left b)
def DY{α:Type}{q:α->Bool}:∀{l:List α}{k:Nat},ic q l=Z k->∃h:k<l.length,q l[k]=W
 |a::l,k,h=>by
  unfold ic at h;cases b:ic q l with
  |some j=>rw[b]at h;obtain⟨h1,h2⟩:=DY b;simp only[bg]at h;subst h;exact⟨by simp only[fc];omega,h2⟩
  |none=>rw[b]at h;simp only at h;cases d:q a<;>rw[d]at h<;>simp at h;subst h;exact⟨by simp,d⟩
def abU(c:Cx p w left f):sX p w (iI p w at_ left f):=by
 have nd:=c.nd;have U:=c.hw.len;have VK:=c.ll;have h1:=nd.lo;have h2:=nd.hi;have r:∀{i:Nat},i<(nodeAt p f.Node).Kids.length->0<=(nodeAt p f.Node).Kids.getD i 0∧(nodeAt p f.Node).Kids.getD i 0<p.aV.length:=λh=>nd.kids _ (bX _ h);have many:∀k:Int,(nodeAt p f.Node).Op=k->k≠14->k≠15->(nodeAt p f.Node).Kids.length=qR.getD k.toNat 0:=by intro k h h14 h15;have:=nd.many (by omega) (by omega);rwa [h]at this
 have ref:∀{o:aD}{v:aq},cC p w.aW.length v->sX p w (fD w left v):=λq=>mu (op:=.waits) c q;have same:∀{v:aq}{e:Option aE},cC p w.aW.length v->sX p w (.go w left [v] e):=λq=>pg.same c.hw (sv (bP _) (by omega) c.left q);obtain⟨k,j⟩:∃k:Nat,(nodeAt p f.Node).Op=k:=⟨_,(zW (by omega)).symm⟩;have H:1<=k:=by omega
 have I:k<=28:=by omega
 unfold iI;simp only[j,FY]
 match k,j,H,I with
 |1,j,_,_=>exact mu (op:=.waits) c (Vw (nd.int j))
 |2,j,_,_=>exact mu (op:=.waits) c OU
 |3,j,_,_=>exact mu (op:=.waits) c wS
 |4,j,_,_=>
  have hn:=nd.name j;simp only;split
  .refine mu (op:=.waits) c (.inr (.inr (.inr (.inl ⟨rfl,?_,?_⟩))))<;>simp only<;>omega
  .split
   .exact .inl rfl
   .exact mu (op:=.waits) c (c.hf.env _ (bX _ (by omega)))
 |5,j,_,_=>exact yL c (.func c.hf.lo c.hf.hi j c.hf.el c.hf.env) (by simp)
 |6,j,_,_=>
  have q:=c.vl j (by decide);simp[dL]at q;have v0:=c.val (i:=0) (by omega);have v1:=c.val (i:=1) (by omega);simp only;unfold AG;split
  .rename_i o ho;obtain⟨h3,h4,_⟩:=dS c.hw v0 ho;split
   .exact .inr (.inr rfl)
   .refine pg.same c.hw (.back (by rw[iq];omega) (λg hg=>?_) v1);rcases dY.1 hg with hg|hg
    .exact c.left g hg
    .cases h4 with|BZ a b d=>exact b g hg|_=>cases h3
  .split
   .exact .inl rfl
   .rename_i b K;obtain⟨h3,h4,h5⟩:=MS c.hp c.hw v0 v1 K;exact tP (λfr h=>pg.same c.hw h) (bP _) c.left h3 h4
 |7,j,_,_=>have q:=c.vl j (by decide);simp[dL]at q;have t:=many _ j (by decide) (by decide);exact tP (λfr h=>pg.same c.hw h) (bP _) c.left (r (by rw[t];decide)) (An c.hf.env (c.val (by omega)))
 |8,j,_,_=>
  have q:=c.vl j (by decide);simp[dL]at q;have t:=many _ j (by decide) (by decide);simp only;split
  .exact .inl rfl
  .rename_i h3;have:=(c.val (i:=0) (by omega)).TX (by omega);refine tP (λfr h=>pg.same c.hw h) (bP _) c.left (r ?_) c.hf.env;rw[t];show _<3;omega
 |9,j,_,_|10,j,_,_|11,j,_,_|12,j,_,_|13,j,_,_=>
  simp only;have L:∀m:Int,sX p w (if gG m=W then fD w left (gF m)else .fail 4):=by
   intro m;split
   .exact mu (op:=.waits) c (Vw (by assumption))
   .exact .inr (.inr rfl)
  unfold um;split
  .split
   .exact .inl rfl
   .exact mu (op:=.waits) c OU
  .split
   .exact .inl rfl
   .split
    .exact mu (op:=.waits) c OU
    .exact L _
 |14,j,_,_=>obtain⟨a,b,d⟩:=nd.con j;have hf:=c.full;unfold jh at hf;rw[bJ (show(nodeAt p f.Node).Op=14 from j)]at hf;exact yL c (.data a b (by omega) c.hf.vals) (by simp)
 |15,j,_,_=>have q:=c.vl j (by decide);simp[dL]at q;exact MI c (c.val (by omega)) _ _ λx M=>nd.kids _ (List.mem_of_mem_drop M)
 |16,j,_,_=>have q:=c.vl j (by decide);simp[dL]at q;exact V9 (yL c (.cell (c.val (by omega))) (by simp))
 |17,j,_,_=>
  have q:=c.vl j (by decide);simp[dL]at q;simp only;unfold SL;split
  .exact .inl rfl
  .rename_i o ho;obtain⟨h3,h4,_⟩:=dS c.hw (c.val (by omega)) ho;have:0<o.bH.length:=by cases h4<;>first|(cases h3;done)|simp
   exact same (h4.vals _ (bX _ this))
 |18,j,_,_=>
  have q:=c.vl j (by decide);simp[dL]at q;simp only;unfold hY;split
  .exact .inl rfl
  .rename_i o ho;obtain⟨h3,h4,h5,h6,y,z⟩:=dS c.hw (c.val (by omega)) ho;exact pg.set c.hw h6 y (.cell (c.val (by omega))) (by simp) (by rw[<-z];omega) (sv (bP _) (by omega) c.left wS)
 |19,j,_,_=>
  have q:=c.vl j (by decide);simp[dL]at q;simp only;have mk:∀{o:aD},gr p w.aW.length o->o.Form=6->sX p w (if 120<=w.aW.length then .fail 4 else .go (zp w o) left [tJ w.aW.length] (Z ⟨at_,19,0,fu⟩)):=by
   intro o ho hf;split
   .exact .inr (.inr rfl)
   .refine ⟨c.hw.spawn (by omega) ho hf,⟨_,rfl⟩,(λh=>by cases h),by simp,λi hi=>?_,sv (k:=w.aW.length) (by simp) (by omega) c.left (Uj (by simp))⟩;rw[show cn (zp w o) i=if i=w.aW.length then o else cn w i from qM (w:=w) (o:=o) (i:=i),br (by omega)]
  unfold zN;simp only;split
  .rename_i o ho;obtain⟨h3,h4,_⟩:=dS c.hw (c.val (by omega)) ho;cases h4 with|BZ a b d=>exact mk (.back (by simp only[fc];omega) b wS) rfl|_=>cases h3
  .split
   .exact .inl rfl
   .rename_i b K;obtain⟨h3,h4,h5⟩:=MS c.hp c.hw (c.val (by omega)) wS K;split
    .exact .inr (.inr rfl)
    .exact mk (.vQ (fs:=[]) (by simp) (by simp) ⟨h3.1,h3.2,by omega,h4,by rw[h5];exact CH _,by rw[h5];simp⟩) rfl
 |20,j,_,_=>
  have q:=c.vl j (by decide);simp[dL]at q;simp only;unfold HB;split
  .exact .inl rfl
  .rename_i o ho;obtain⟨h3,h4,_⟩:=dS c.hw (c.val (by omega)) ho;split
   .trivial
   .split
    .cases h4 with|dead a=>exact a|done a=>exact absurd rfl ‹_›|vQ a b d=>exact absurd rfl ‹¬_=(0:Int)›|back a b d=>exact absurd rfl ‹¬_=(0:Int)›|_=>cases h3
    .have:0<o.bH.length:=by cases h4 with|done a=>exact Nat.one_pos|dead a=>exact absurd ‹¬_› (by dsimp only;omega)|vQ a b d=>exact absurd rfl ‹¬_=(0:Int)›|back a b d=>exact Nat.one_pos|_=>cases h3
     exact same (h4.vals _ (bX _ this))
 |21,j,_,_=>exact V9 (yL c (.chan (by simp) (by simp)) (by simp))
 |22,j,_,_=>
  have q:=c.vl j (by decide);simp[dL]at q;simp only;unfold GM;split
  .exact .inl rfl
  .rename_i o ho;obtain⟨h3,h4,h5,h6,y,z⟩:=dS c.hw (c.val (by omega)) ho;split
   .trivial
   .exact pg.set c.hw h6 y (.chan (by rw[iq];simp only[mZ];omega) (An h4.vals (c.val (by omega)))) (by simp) (by rw[<-z];omega) (sv (bP _) (by omega) c.left wS)
 |23,j,_,_=>
  have q:=c.vl j (by decide);simp[dL]at q;simp only;unfold GI;split
  .exact .inl rfl
  .rename_i o ho;obtain⟨h3,h4,h5,h6,y,z⟩:=dS c.hw (c.val (by omega)) ho;have s:=h4.vals;have B:o.bH.length<=4:=by cases h4<;>first|(cases h3;done)|assumption
   split
   .trivial
   .rename_i v l O;rw[O]at s B;exact pg.set c.hw h6 y (.chan (by simp only[fc]at B;omega) λu X=>s u (gJ _ X)) (by simp) (by rw[<-z];omega) (sv (bP _) (by omega) c.left (s v ez))
 |24,j,_,_=>
  have q:=c.vl j (by decide);simp[dL]at q;have v0:=c.val (i:=0) (by omega);have hp:=nd.port j;simp only;unfold RU;split
  .exact .inl rfl
  .split
   .exact .inr (.inr rfl)
   .rename_i h3 h4;refine⟨⟨c.hw.len,c.hw.obs,by simp only[iq,mZ];omega,λo ho=>?_,c.hw.ins,c.hw.inn,c.hw.used,c.hw.vT,c.hw.tl,c.hw.task,c.hw.all⟩,⟨[],by simp⟩,λ_=>rfl,bP _,λ_ _=>qF,sv (bP _) (by omega) c.left wS⟩;rcases dY.1 ho with ho|ho
    .exact c.hw.out o ho
    .rw[kX.1 ho];exact⟨hp.1,hp.2,v0.int (by omega)⟩
 |25,j,_,_=>
  have hi:=c.hw.inn;have C:=c.hw.ins;have X:=c.hw.used;simp only;unfold inS;split
  .trivial
  .rename_i i l hl;rw[hl]at hi C;split
   .exact .inr (.inr rfl)
   .exact ⟨⟨c.hw.len,c.hw.obs,c.hw.outs,c.hw.out,by simp only[fc]at C;simp only;omega,λx M=>hi x (gJ _ M),by simp only;omega,c.hw.vT,c.hw.tl,c.hw.task,c.hw.all⟩,⟨[],by simp⟩,λ_=>rfl,bP _,λ_ _=>qF,sv (bP _) (by omega) c.left (Vw (hi i ez))⟩
 |26,j,_,_=>have q:=c.vl j (by decide);simp[dL]at q;exact mu (op:=.waits) c (c.val (by omega))
 |27,j,_,_=>
  have t:=many _ j (by decide) (by decide);simp only;unfold zQ;split
  .exact .inr (.inl rfl)
  .rename_i k R;obtain⟨h3,h4⟩:=DY R;split
   .exact .inr (.inr rfl)
   .have hd:left.drop k=left[k]::left.drop (k+1):=Qj h3;have S:gr p w.aW.length ⟨5,0,[],left.drop k⟩:=by rw[hd];refine .BZ (by rw[KP];omega) (λg hg=>?_) (by simpa using h4);exact c.left g (List.mem_of_mem_drop (i:=k) (by rw[hd];exact hg))
    have G:(fO w ⟨5,0,[],left.drop k⟩).aW.length=w.aW.length+1:=by simp[fO]
    refine tP (λfr h=>pg.add c.hw (by omega) S (by simp) (by rw[G]at h;exact h)) (by omega) (λg hg=>c.left g (Qf hg)) (r (by rw[t];decide)) ?_;rw[G];exact An (λv q=>(c.hf.env v q).mono (by omega)) (Uj (by omega))
 |28,j,_,_=>exact same wS
 |k+29,j,_,h=>omega
end
end
section
abbrev TB:=Unit×Int×List au×Int×List aq×List aq×Int×Int×List Int×List aB×List aq×Unit
abbrev RB:=List bp×List Int×Int×List cw×List aD×List Int×List dV×List Int×Int×Unit
abbrev tb(place:Int)(fr:List au)(node:Int)(env vals:List aq)(nd:bp)(bk:List aq):TB:=
 ((),place,fr,node,env,vals,nd.Op,nd.N,nd.Kids,nd.cu,bk,())
abbrev rb(p:aA)(w:aa):RB:=
 (p.aV,p.dx,p.Main,p.Cons,w.aW,w.bf,w.gH,w.uI,w.Used,())
abbrev fl(s:Int):Any:=Any.a0 ⟨s⟩
section
variable {n:Nat}{place node:Int}{fr l:List au}{env vals bk:List aq}{nd:bp}{p:aA}{w:aa}{T:TB}{v u:aq}{form:Int}{o:aD}
def kB(b:Bool)(s:Int):F219 n (b,s,())=bif b then Z (.ok ((),()))else Z (.dh (fl s,())):=by cases b<;>rfl
theorem QM:F48 n ()=Z ((fu,()),()):=rfl
theorem S2(k:Int):F272 n (k,())=Z ((gF k,()),()):=rfl
def ZN(b:Bool):F273 n (b,())=Z ((iy b,()),()):=by cases b<;>rfl
def agR(k:Int):F273 n (D.aI k 1,())=Z ((iy (k==1),()),()):=ZN _
def adh:F112 n (v,())=Z ((oI v,()),()):=by
 unfold F112 oI;by_cases h:v.Kind=4
 .simp[h,aQ];rfl
 .by_cases b:v.Kind=5
  .simp[b,aQ];rfl
  .simp (disch:=omega)only[aQ,h,b,or_self,eP]
def ZQ(l:List aD):F170 n (l,())=Z ((l,()),()):=by rfl
def ZR(l:List au):F160 n (l,())=Z ((l,()),()):=by rfl
theorem ang(s:Int):F114 n (⟨s⟩,())=Z ((⟨0,0,s,ax⟩,()),()):=rfl
def Wl(h1:fr.length<=1000)(h2:l.length<=1000):F171 n (tb place fr node env vals nd bk,rb p w,l,())=
  if fr.length+l.length<=40 then Z (.ok ((),tb place (fr++l) node env vals nd bk,rb p w,()))else Z (.dh (fl 4,tb place fr node env vals nd bk,rb p w,())):=by
 unfold F171;split
 .simp (disch:=omega)only[aQ,kB,bF]
 .simp (disch:=omega)only[aQ,kB,bF]
def Wk{R:RB}(h1:T.2.2.1.length<=1000)(h2:l.length<=1000):F171 n (T,R,l,())=
  if T.2.2.1.length+l.length<=40 then Z (.ok ((),((),T.2.1,T.2.2.1++l,T.2.2.2),R,()))else Z (.dh (fl 4,T,R,())):=by
 unfold F171;split
 .simp (disch:=omega)only[aQ,kB,bF]
 .simp (disch:=omega)only[aQ,kB,bF]
theorem Gp:F271 n (tb place fr node env vals nd bk,rb p w,v,())=Z ((bZ.a3 ⟨⟩,()),tb place fr node env vals nd [v],rb p w,()):=rfl
variable {k:Int}
def ZO{b:List aq}(e:0<=k)(d:k<nd.Kids.length)(h1:fr.length<=1000):F174 n (tb place fr node env vals nd bk,rb p w,k,b,())=
  if fr.length+1<=40 then Z (.ok ((bZ.a3 ⟨⟩,()),tb place (fr++[⟨nd.Kids.getD k.toNat 0,b,[]⟩]) node env vals nd bk,rb p w,()))else Z (.dh (fl 4,tb place fr node env vals nd bk,rb p w,())):=by
 unfold F174;split<;>rename_i h
 .simp (disch:=first|omega|simp only[kS];omega)only[aQ,Wl,mZ,h,fR]
 .simp (disch:=first|omega|simp only[kS];omega)only[aQ,Wl,mZ,h,eP]
def OH{a b:List aq}(h1:a.length<=1000)(h2:b.length<=1000):F277 n (a,b,())=
  if a.length+b.length<=30 then Z (.ok ((a++b,()),()))else Z (.dh (fl 4,())):=by
 unfold F277;split
 .simp (disch:=omega)only[aQ,kB,bF]
 .simp (disch:=omega)only[aQ,kB,bF]
def bw:(∀(l:List aq)(k:Nat),l.getD k ax=bS l k)∧(∀(p:aA)(k:Int),p.aV.getD k.toNat aN=nodeAt p k)∧(∀(w:aa)(k:Int),w.aW.getD k.toNat aT=cn w k):=
 ⟨λ_ _=>rfl,λ_ _=>rfl,λ_ _=>rfl⟩
def qx{α:Type}(a:α)(l:List α)(k:Int)(b:k=((l.length+1:Nat):Int)):ey (a::l) 1 k=l:=by subst b;simp[ey]
def gN:Option aD->aD×Bool×Unit
 |some o=>(o,W,())
 |none=>(aT,J,())
def S0(d:v.Kind=5->0<=v.N∧v.N<w.aW.length):F298 n (T,rb p w,v,form,())=Z (gN (gM w v form),T,rb p w,()):=by
 unfold F298 gM cn;by_cases h:v.Kind=5
 .obtain ⟨h1,h2⟩:=d h;by_cases b:(w.aW.getD v.N.toNat aT).Form=form
  .simp (disch:=omega)only[aQ,h,b,and_self,fR,gN]
  .simp (disch:=omega)only[aQ,h,b,and_false,eP,gN]
 .simp (disch:=omega)only[aQ,h,false_and,eP,gN]
def qX(b:v.Kind=5->0<=v.N∧v.N<w.aW.length):F276 n (T,rb p w,v,form,())=match gM w v form with
  |some o=>Z (.ok ((o,()),T,rb p w,()))
  |none=>Z (.dh (fl 2,T,rb p w,())):=by
 unfold F276;rw[S0 b];cases gM w v form<;>simp only[aQ,kB,gN]
def As:w.aW.length<=1000->F274 n (T,rb p w,o,())=
  if w.aW.length<120 then Z (.ok ((tJ w.aW.length,()),T,rb p (fO w o),()))else Z (.dh (fl 4,T,rb p w,())):=by
 intro h1;unfold F274 sH;split
 .simp (disch:=first|omega|simp only[kS];omega)only[aQ,kB,fO,iq,mZ,dW];rw[cV (by omega) (by omega)];simp[tJ,cZ,aC]
 .simp (disch:=omega)only[aQ,kB]
def Mw:F280 n (tb place fr node env vals nd bk,rb p w,v,u,())=
  Z ((bZ.a1 ⟨⟨place,nd.Op,if nd.Op=24 then nd.N else 0,oI u⟩⟩,()),tb place fr node env vals nd [v],rb p w,()):=by
 unfold F280 JZ;rw[adh];by_cases h:nd.Op=24
 .simp only[aQ,h,fR,tb]
 .simp (disch:=omega)only[aQ,h,eP]
def QN{at_:Int}{fr:List au}{R:RB}:F280 n (tb at_ fr node env vals nd bk,R,v,u,())=
  Z ((bZ.a1 ⟨⟨at_,nd.Op,if nd.Op=24 then nd.N else 0,oI u⟩⟩,()),tb at_ fr node env vals nd [v],R,()):=by
 unfold F280 JZ;rw[adh];by_cases h:nd.Op=24
 .simp only[aQ,h,fR,tb]
 .simp (disch:=omega)only[aQ,h,eP]
def ada(d:0<=k)(b:k<w.aW.length):F281 n (T,rb p w,k,o,())=Z ((),T,rb p (lH w k o),()):=by unfold F281;simp(disch:=omega)only[aQ,ZQ,lH]
def S1(hl:2<=vals.length):F278 n (tb place fr node env vals nd bk,rb p w,())=
  if(bS vals 0).Kind=1∧(bS vals 1).Kind=1 then Z (.ok (((bS vals 0).N,(bS vals 1).N,()),tb place fr node env vals nd bk,rb p w,()))else Z (.dh (fl 2,tb place fr node env vals nd bk,rb p w,())):=by
 unfold F278 Ph bS;have z0:ah 0=0:=rfl;have b:ah 1=1:=rfl;by_cases h:(vals.getD 0 ax).Kind=1
 .by_cases d:(vals.getD 1 ax).Kind=1
  .simp (disch:=omega)only[aQ,z0,b,h,d,and_self,fR,kB]
  .simp (disch:=omega)only[aQ,z0,b,h,d,and_false,eP,kB]
 .simp (disch:=omega)only[aQ,z0,b,h,false_and,eP,kB]
def EI(hf:u.Kind=4->0<=u.N∧u.N<p.dx.length)(d:u.Kind=5->0<=u.N∧u.N<w.aW.length)
  (hn:∀o,gM w u 2=Z o->0<=o.N∧o.N<p.aV.length∧0<(nodeAt p o.N).Kids.length∧o.bH.length<=1000) :
  F275 n (T,rb p w,u,v,())=match g8 p w u v with
   |none=>Z (.ok ((aU,J,()),T,rb p w,()))
   |some b=>if b.Env.length<=30 then Z (.ok ((b,W,()),T,rb p w,()))else Z (.dh (fl 4,T,rb p w,())):=by
 unfold F275 g8;by_cases h:u.Kind=4
 .obtain ⟨h1,h2⟩:=hf h;simp(disch:=omega)only[aQ,h,fR,mZ,Nat.reduceLeDiff]
 .simp (disch:=omega)only[aQ,h,eP];rw[S0 d];cases e:gM w u 2 with
  |none=>simp only[aQ,gN]
  |some o=>
   obtain⟨h1,h2,h3,h4⟩:=hn o e;unfold nodeAt at h3 ⊢;simp(disch:=omega)only[aQ,gN];rw[OH (by omega) (by simp)];by_cases h5:o.bH.length+1<=30
   .simp only[iq,mZ,h5,fR,aQ]
   .simp only[iq,mZ,h5,eP,aQ]
end
end
section
def ac8:Option aE->bZ
 |none=>bZ.a3 ⟨⟩
 |some e=>bZ.a1 ⟨e⟩
abbrev Out:=Rx ((bZ×Unit)×TB×RB×Unit) (Any×TB×RB×Unit)
def JM(p:aA)(w:aa)(r:o8)(y:Out):Prop:=match r with
 | .fail s=>∃T w1,y=.dh (fl s,T,rb p w1,())
 | .waits=>∃T,y=.ok ((bZ.a0 ⟨⟩,()),T,rb p w,())
 | .go w' fr bk e=>∃pl node env vals nd,y=.ok ((ac8 e,()),tb pl fr node env vals nd bk,rb p w',())
def gi(p:aA)(w:aa)(r:o8)(f:Nat->Option Out):Prop:=∃y,Ev f y∧JM p w r y
def gi.of_eq{p:aA}{w:aa}{r:o8}{f:Nat->Option Out}{y:Out}(h:∀n,f n=Z y)(b:JM p w r y):gi p w r f:=⟨y,Ev.of_eq h,b⟩
section
variable {p:aA}{w:aa}{left:List au}{f:au}{at_:Int}
abbrev xS(at_:Int)(left:List au)(p:aA)(f:au):TB:=tb at_ left f.Node f.Env f.bH (nodeAt p f.Node) []
variable {pl node:Int}{env vals:List aq}{nd:bp}
def Cw{k:Nat->Option ((bZ×Unit)×TB×RB×Unit)}{v:aq}
  (h:∀n,k n=Z ((bZ.a3 ⟨⟩,()),tb pl left node env vals nd [v],rb p w,())):gi p w (fD w left v) (λn=>ai (k n) λg=>Z (Rx.ok g)):=
 .of_eq (y:=.ok ((bZ.a3 ⟨⟩,()),tb pl left node env vals nd [v],rb p w,())) (λn=>by rw[h n];rfl) ⟨_,_,_,_,_,rfl⟩
def ab1(c:Cx p w left f)(b:(nodeAt p f.Node).Op=1∨(nodeAt p f.Node).Op=2∨(nodeAt p f.Node).Op=3) :
  gi p w (iI p w at_ left f) (λn=>ai (F221 n (xS at_ left p f,rb p w,())) λg=>Z (Rx.ok g)):=by
 unfold iI F221 J1;rcases b with h|h|h
 .simp only[h,Int.reduceToNat];exact Cw λn=>by simp only[aQ,bw,S2,Gp,h];rfl
 .simp only[h,Int.reduceToNat];exact Cw λn=>by simp(disch:=omega)only[aQ,bw,ZN,Gp,h];rfl
 .simp only[h,Int.reduceToNat];exact Cw λn=>by simp(disch:=omega)only[aQ,bw,QM,Gp,h];rfl
def ajv(c:Cx p w left f)(h:(nodeAt p f.Node).Op=4):gi p w (iI p w at_ left f) (λn=>F222 n (xS at_ left p f,rb p w,())):=by
 have b:=c.nd.name h;have d:=c.hp.fl;unfold iI F222;simp only[h,Int.reduceToNat];by_cases h1:(nodeAt p f.Node).N<0
 .rw[bJ h1];exact .of_eq (λn=>by simp(disch:=omega)only[aQ,bw,Gp,cV]<;>rfl) ⟨_,_,_,_,_,rfl⟩
 .rw[br h1];by_cases h2:(f.Env.length:Int)<=(nodeAt p f.Node).N
  .rw[bJ h2];exact .of_eq (λn=>by simp(disch:=omega)only[aQ,bw,kB]<;>rfl) ⟨_,_,rfl⟩
  .rw[br h2];exact .of_eq (λn=>by simp(disch:=omega)only[aQ,bw,kB,Gp]<;>rfl) ⟨_,_,_,_,_,rfl⟩
def Va{o:aD}{F:Nat->Option Out}{bk:List aq}(hw:gu p w)
  (h:∀n,F n=ai (F274 n (tb pl left node env vals nd bk,rb p w,o,())) λc=>Rx.el c (λd=>ai (F271 n (d.2.1,d.2.2.1,d.1)) λe=>Z (Rx.ok e)) λd=>Z (Rx.dh d)) :
  gi p w (lN w left o) F:=by
 have:=hw.len;unfold lN;by_cases h1:120<=w.aW.length
 .rw[bJ h1];exact .of_eq (λn=>by rw[h,As (by omega),br (by omega)];rfl) ⟨_,_,rfl⟩
 .rw[br h1];exact .of_eq (λn=>by rw[h,As (by omega),bJ (by omega)];simp only[aQ,bw,Gp]<;>rfl) ⟨_,_,_,_,_,rfl⟩
def aju(c:Cx p w left f)(h:(nodeAt p f.Node).Op=5):gi p w (iI p w at_ left f) (λn=>F223 n (xS at_ left p f,rb p w,())):=by unfold iI;simp only[h,Int.reduceToNat];exact Va c.hw λn=>rfl
def ajo(c:Cx p w left f)(h:(nodeAt p f.Node).Op=14):gi p w (iI p w at_ left f) (λn=>F230 n (xS at_ left p f,rb p w,())):=by unfold iI;simp only[h,Int.reduceToNat];exact Va c.hw λn=>rfl
def N4{k:Int}{b:List aq}{F:Nat->Option Out}(pl node:Int)(env vals:List aq){w':aa}(h1:left.length<=1000)(h2:b.length<=30)(i:0<=k)(d:k<nd.Kids.length)
  (h:∀n,F n=ai (F174 n (tb pl left node env vals nd [],rb p w',k,b,())) λe=>Rx.el e (λg=>Z (Rx.ok g)) λg=>Z (Rx.dh g)) :
  gi p w (jf w' left (nd.Kids.getD k.toNat 0) b) F:=by
 unfold jf;by_cases h3:40<=left.length
 .rw[bJ (.inl h3)];exact .of_eq (λn=>by rw[h,ZO i d h1,br (by omega)];rfl) ⟨_,_,rfl⟩
 .rw[br (by omega)];exact .of_eq (λn=>by rw[h,ZO i d h1,bJ (by omega)];rfl) ⟨_,_,_,_,_,rfl⟩
def ajs(c:Cx p w left f)(h:(nodeAt p f.Node).Op=7):gi p w (iI p w at_ left f) (λn=>F225 n (xS at_ left p f,rb p w,())):=by
 have b:=c.nd.many (by omega) (by omega);have d:=c.vl h (by decide);have g:=c.hf.el;have e:=c.ll;rw[h]at b;simp[qR]at b;simp[dL]at d;unfold iI F225;simp only[h,Int.reduceToNat];by_cases h1:f.Env.length+1<=30
 .refine N4 (k:=1) at_ f.Node f.Env f.bH (by omega) (by simp;omega) (by omega) (by omega) λn=>?_;simp(disch:=first|omega|simp only[kS];omega)only[aQ,bw,OH,h1,fR]<;>rfl
 .unfold jf;rw[bJ (by simp;omega)];exact .of_eq (λn=>by simp(disch:=first|omega|simp only[kS];omega)only[aQ,bw,OH,h1,eP]<;>rfl) ⟨_,_,rfl⟩
def ajr(c:Cx p w left f)(h:(nodeAt p f.Node).Op=8):gi p w (iI p w at_ left f) (λn=>F226 n (xS at_ left p f,rb p w,())):=by
 have b:=c.nd.many (by omega) (by omega);have d:=c.vl h (by decide);have e:=c.hf.el;have g:=c.ll;rw[h]at b;simp[qR]at b;simp[dL]at d;have v0:=c.val (i:=0) (by omega);unfold iI F226;simp only[h,Int.reduceToNat];by_cases h1:(bS f.bH 0).Kind=2
 .rw[br (by omega)];have j:=v0.TX h1;refine N4 (k:=2-(bS f.bH 0).N) at_ f.Node f.Env f.bH (by omega) e (by omega) (by omega) λn=>?_;simp(disch:=omega)only[aQ,bw,kB,cV]<;>rfl
 .rw[bJ h1];exact .of_eq (λn=>by simp(disch:=omega)only[aQ,bw,kB]<;>rfl) ⟨_,_,rfl⟩
def ajt(c:Cx p w left f)(h:(nodeAt p f.Node).Op=6):gi p w (iI p w at_ left f) (λn=>F224 n (xS at_ left p f,rb p w,())):=by
 have s:=c.vl h (by decide);simp[dL]at s;have t:=c.ll;have v0:=c.val (i:=0) (by omega);have k:∀o,gM w (bS f.bH 0) 2=Z o->0<=o.N∧o.N<p.aV.length∧0<(nodeAt p o.N).Kids.length∧o.bH.length<=1000:=by
  intro o u;obtain⟨h1,h2,_⟩:=dS c.hw v0 u;cases h2 with
  |func a b d e g=>
   refine⟨a,b,?_,by simp only;omega⟩;have:=(c.hp.nd a b).many (by omega) (by omega);rw[this,d]
   decide
  |_=>cases h1
 unfold iI F224 AG;simp only[h,Int.reduceToNat];cases l:gM w (bS f.bH 0) 5 with
 |some o=>
  dsimp only;obtain⟨h1,h2,h3,h4,h5,h6⟩:=dS c.hw v0 l;have j:g8 p w (bS f.bH 0) (bS f.bH 1)=Y:=by unfold g8 gM;rw[br (by omega),<-h6,br (by omega)]
  have v:o.Frames.length<=40:=by cases h2<;>first|(simp;done)|(simp only[fc,iq,w4];omega)
  by_cases m:40<left.length+o.Frames.length
  .rw[bJ m];exact .of_eq (λn=>by simp(disch:=omega)only[aQ,bw,EI (v0.code) (v0.ref) k,j,qX (v0.ref),l,Wl,br (yu.2 m)]<;>rfl) ⟨_,_,rfl⟩
  .rw[br m];exact .of_eq (λn=>by simp(disch:=omega)only[aQ,bw,EI (v0.code) (v0.ref) k,j,qX (v0.ref),l,Wl,bJ (Bf.1 m),Gp]<;>rfl) ⟨_,_,_,_,_,rfl⟩
 |none=>
  cases j:g8 p w (bS f.bH 0) (bS f.bH 1)with
  |none=>dsimp only;exact .of_eq (λn=>by simp(disch:=omega)only[aQ,bw,EI (v0.code) (v0.ref) k,j,qX (v0.ref),l]<;>rfl) ⟨_,_,rfl⟩
  |some b=>
   dsimp only;by_cases r:b.Env.length<=30
   .unfold jf;by_cases y:40<=left.length
    .omega
    .rw[br (by omega)];have q:b.bH=[]:=by
      unfold g8 at j;split at j
      .cases j;rfl
      .split at j<;>cases j;rfl
     obtain⟨z,B,C⟩:=b;subst q;exact .of_eq (λn=>by simp(disch:=first|omega|simp only[kS];omega)only[aQ,bw,EI (v0.code) (v0.ref) k,j,bJ r,Wl,bJ (show left.length+1<=40 by omega)]<;>rfl) ⟨_,_,_,_,_,rfl⟩
   .unfold jf;rw[bJ (by omega)];exact .of_eq (λn=>by simp(disch:=omega)only[aQ,bw,EI (v0.code) (v0.ref) k,j,br r]<;>rfl) ⟨_,_,rfl⟩
def ajq(c:Cx p w left f)(h:(nodeAt p f.Node).Op=12):gi p w (iI p w at_ left f) (λn=>F228 n (xS at_ left p f,rb p w,())):=by
 have b:=c.vl h (by decide);simp[dL]at b;unfold iI F228 um;simp only[h,Int.reduceToNat,Int.reduceEq,eP,fR];by_cases h1:(bS f.bH 0).Kind=1∧(bS f.bH 1).Kind=1
 .rw[br (by omega)];exact .of_eq (λn=>by simp(disch:=omega)only[aQ,bw,S1,bJ h1,ZN,Gp]<;>rfl) ⟨_,_,_,_,_,rfl⟩
 .rw[bJ (by omega)];exact .of_eq (λn=>by simp(disch:=omega)only[aQ,bw,S1,br h1]<;>rfl) ⟨_,_,rfl⟩
theorem bG{X R B P α:Type}(x:X)(e:X->Option α)(f:Nat->X->Option α)(g:B->R->Option α)(h:B->P->Option α):LO.jn (.next x) e f g h=e x:=rfl
theorem ack{X R B P α:Type}(b:B)(q:P)(e:X->Option α)(f:Nat->X->Option α)(g:B->R->Option α)(h:B->P->Option α):LO.jn (.dh b q) e f g h=h b q:=rfl
def e69{n:Nat}(a:Int):F69 n (a,(-1000000000),1000000000,())=Z ((gG a,()),()):=by unfold F69 gG;by_cases h1:-1000000000<=a<;>by_cases h2:a<=1000000000<;>simp[aj,D.ek,h1,h2]
def ae5{a b:Int}(h1:gG a=W)(h2:gG b=W):-1000000000000000000<=a*b∧a*b<=1000000000000000000:=by
 simp only[gG,dR,jR]at h1 h2;have h3:(a*b).natAbs<=1000000000*1000000000:=by rw[Int.natAbs_mul];exact KX (by omega) (by omega)
 omega
def ab0(c:Cx p w left f)(b:(nodeAt p f.Node).Op=9∨(nodeAt p f.Node).Op=10∨(nodeAt p f.Node).Op=11):gi p w (iI p w at_ left f) (λn=>ai (F227 n (xS at_ left p f,rb p w,())) λg=>Rx.el g (λh=>Z (Rx.ok h)) λh=>Z (Rx.dh h)):=by
 have q:f.bH.length=2:=by rcases b with h|h|h<;>exact c.vl h (by decide)
 have v0:=c.val (i:=0) (by omega);have v1:=c.val (i:=1) (by omega);unfold iI F227 um;by_cases h1:(bS f.bH 0).Kind=1∧(bS f.bH 1).Kind=1
 .have e:=v0.int h1.1;have j:=v1.int h1.2;have r:=ae5 e j;simp only[gG,dR,jR]at e j;have d:∀k,∀F:Nat->Option Out,(∀n,F n=bif gG k then Z (.ok ((bZ.a3 ⟨⟩,()),tb at_ left f.Node f.Env f.bH (nodeAt p f.Node) [gF k],rb p w,()))else Z (.dh (fl 4,xS at_ left p f,rb p w,())))->
    gi p w (if gG k=W then fD w left (gF k)else .fail 4) F:=by
   intro k F l;cases m:gG k with|true=>rw[bJ rfl];exact .of_eq (λn=>by rw[l,m];rfl) ⟨_,_,_,_,_,rfl⟩|false=>rw[br (by decide)];exact .of_eq (λn=>by rw[l,m];rfl) ⟨_,_,rfl⟩
  rcases b with h|h|h
  .simp only[h,Int.reduceToNat,Int.reduceEq,eP,fR];rw[br (by omega)];refine d _ _ λn=>?_;simp(disch:=omega)only[aQ,bw,S1,bJ h1,h,bG,bF,e69,kB];cases gG ((bS f.bH 0).N+(bS f.bH 1).N)<;>simp only[aQ,S2,gF,h,tb,xS]<;>rfl
  .simp only[h,Int.reduceToNat,Int.reduceEq,eP,fR];rw[br (by omega)];refine d _ _ λn=>?_;simp(disch:=omega)only[aQ,bw,S1,bJ h1,h,bG,cV,e69,kB];cases gG ((bS f.bH 0).N-(bS f.bH 1).N)<;>simp only[aQ,S2,gF,h,tb,xS]<;>rfl
  .simp only[h,Int.reduceToNat,Int.reduceEq,eP,fR];rw[br (by omega)];refine d _ _ λn=>?_;simp(disch:=omega)only[aQ,bw,S1,bJ h1,h,bG,U3,e69,kB];cases gG ((bS f.bH 0).N*(bS f.bH 1).N)<;>simp only[aQ,S2,gF,h,tb,xS]<;>rfl
 .rcases b with h|h|h;all_goals
   simp only[h,Int.reduceToNat,Int.reduceEq,eP,fR];rw[bJ (by omega)];exact .of_eq (λn=>by simp(disch:=omega)only[aQ,bw,S1,br h1]<;>rfl) ⟨_,_,rfl⟩
def JH(x:Bool):D.fA W x=x:=by cases x<;>rfl
def AF(x:Bool):D.fA x W=x:=by cases x<;>rfl
def ajp(c:Cx p w left f)(h:(nodeAt p f.Node).Op=13):gi p w (iI p w at_ left f) (λn=>F229 n (xS at_ left p f,rb p w,())):=by
 have b:=c.vl h (by decide);simp[dL]at b;unfold iI F229 Pm Pn um;simp only[h,Int.reduceToNat,Int.reduceEq,eP,fR];by_cases h1:(bS f.bH 0).Kind=(bS f.bH 1).Kind
 .by_cases h2:(bS f.bH 0).Kind<=3
  .rw[br (by omega)];rw[show vH (bS f.bH 0) (bS f.bH 1)=D.aI (bS f.bH 0).N (bS f.bH 1).N by simp only[vH,h1,beq_self_eq_true,dM];rfl];exact .of_eq (λn=>by simp(disch:=omega)only[aQ,bw,JH,AF,kB,ZN,Gp]<;>rfl) ⟨_,_,_,_,_,rfl⟩
  .rw[bJ (by omega)];exact .of_eq (λn=>by simp(disch:=omega)only[aQ,bw,kB]<;>rfl) ⟨_,_,rfl⟩
 .rw[bJ (by omega)];exact .of_eq (λn=>by simp(disch:=omega)only[aQ,bw,kB]<;>rfl) ⟨_,_,rfl⟩
def ajc(c:Cx p w left f)(h:(nodeAt p f.Node).Op=26):gi p w (iI p w at_ left f) (λn=>ai (F242 n (xS at_ left p f,rb p w,())) λg=>Z (Rx.ok g)):=by have b:=c.vl h (by decide);simp[dL]at b;unfold iI F242;simp only[h,Int.reduceToNat];exact Cw λn=>by simp(disch:=omega)only[aQ,bw,Gp]<;>rfl
def aja(c:Cx p w left f)(h:(nodeAt p f.Node).Op=28):gi p w (iI p w at_ left f) (λn=>ai (F244 n (xS at_ left p f,rb p w,())) λg=>Z (Rx.ok g)):=by unfold iI F244;simp only[h,Int.reduceToNat];exact .of_eq (λn=>by simp only[aQ,bw,QM,Mw,h,Int.reduceEq,eP]<;>rfl) ⟨_,_,_,_,_,rfl⟩
end
end
section
section
variable {p:aA}{w:aa}{left:List au}{f:au}{at_:Int}
def ajm(c:Cx p w left f)(h:(nodeAt p f.Node).Op=16):gi p w (iI p w at_ left f) (λn=>F232 n (xS at_ left p f,rb p w,())):=by
 have b:=c.vl h (by decide);simp[dL]at b;have d:=c.hw.len;unfold iI F232 lN;simp only[h,Int.reduceToNat];by_cases h1:120<=w.aW.length
 .rw[bJ h1];exact .of_eq (λn=>by simp(disch:=omega)only[aQ,bw,As,br (Bf.2 h1)]<;>rfl) ⟨_,_,rfl⟩
 .rw[br h1];exact .of_eq (λn=>by simp(disch:=omega)only[aQ,bw,As,bJ (yu.1 h1),Mw,h,Int.reduceEq,eP]<;>rfl) ⟨_,_,_,_,_,rfl⟩
def ajh(c:Cx p w left f)(h:(nodeAt p f.Node).Op=21):gi p w (iI p w at_ left f) (λn=>F237 n (xS at_ left p f,rb p w,())):=by
 have b:=c.hw.len;unfold iI F237 lN;simp only[h,Int.reduceToNat];by_cases h1:120<=w.aW.length
 .rw[bJ h1];exact .of_eq (λn=>by simp(disch:=omega)only[aQ,bw,As,br (Bf.2 h1)]<;>rfl) ⟨_,_,rfl⟩
 .rw[br h1];exact .of_eq (λn=>by simp(disch:=omega)only[aQ,bw,As,bJ (yu.1 h1),QM,Mw,h,Int.reduceEq,eP]<;>rfl) ⟨_,_,_,_,_,rfl⟩
def ajl(c:Cx p w left f)(h:(nodeAt p f.Node).Op=17):gi p w (iI p w at_ left f) (λn=>F233 n (xS at_ left p f,rb p w,())):=by
 have d:=c.vl h (by decide);simp[dL]at d;have v0:=c.val (i:=0) (by omega);unfold iI F233 SL;simp only[h,Int.reduceToNat];cases b:gM w (bS f.bH 0) 3 with
 |none=>exact .of_eq (λn=>by simp(disch:=omega)only[aQ,bw,qX v0.ref,b]<;>rfl) ⟨_,_,rfl⟩
 |some o=>
  obtain⟨h1,h2,h3,h4,h5,h6⟩:=dS c.hw v0 b;have e:0<o.bH.length:=by cases h2<;>first|(cases h1;done)|simp
  exact .of_eq (λn=>by simp(disch:=omega)only[aQ,bw,qX v0.ref,b,Mw,h,Int.reduceEq,eP]<;>rfl) ⟨_,_,_,_,_,rfl⟩
def ajk(c:Cx p w left f)(h:(nodeAt p f.Node).Op=18):gi p w (iI p w at_ left f) (λn=>F234 n (xS at_ left p f,rb p w,())):=by have d:=c.vl h (by decide);simp[dL]at d;have v0:=c.val (i:=0) (by omega);unfold iI F234 hY;simp only[h,Int.reduceToNat];cases b:gM w (bS f.bH 0) 3 with|none=>exact .of_eq (λn=>by simp(disch:=omega)only[aQ,bw,qX v0.ref,b]<;>rfl) ⟨_,_,rfl⟩|some o=>obtain⟨h1,h2,h3,h4,h5,h6⟩:=dS c.hw v0 b;exact .of_eq (λn=>by simp(disch:=omega)only[aQ,bw,qX v0.ref,b,ada,QM,Mw,h,Int.reduceEq,eP]<;>rfl) ⟨_,_,_,_,_,rfl⟩
def ajg(c:Cx p w left f)(h:(nodeAt p f.Node).Op=22):gi p w (iI p w at_ left f) (λn=>F238 n (xS at_ left p f,rb p w,())):=by
 have g:=c.vl h (by decide);simp[dL]at g;have v0:=c.val (i:=0) (by omega);unfold iI F238 GM;simp only[h,Int.reduceToNat];cases d:gM w (bS f.bH 0) 4 with
 |none=>exact .of_eq (λn=>by simp(disch:=omega)only[aQ,bw,qX v0.ref,d]<;>rfl) ⟨_,_,rfl⟩
 |some o=>
  obtain⟨h1,h2,h3,h4,h5,h6⟩:=dS c.hw v0 d;cases h2 with
  |chan a b=>
   rename_i j;clear h6;by_cases e:4<=j.length
   .dsimp only;rw[bJ e];exact .of_eq (λn=>by simp(disch:=omega)only[aQ,bw,qX v0.ref,d]<;>rfl) ⟨_,rfl⟩
   .dsimp only;rw[br e];exact .of_eq (λn=>by simp(disch:=first|omega|simp only[kS];omega)only[aQ,bw,qX v0.ref,d,ada,QM,Mw,h,Int.reduceEq,eP]<;>rfl) ⟨_,_,_,_,_,rfl⟩
  |_=>cases h1
def ajf(c:Cx p w left f)(h:(nodeAt p f.Node).Op=23):gi p w (iI p w at_ left f) (λn=>F239 n (xS at_ left p f,rb p w,())):=by
 have g:=c.vl h (by decide);simp[dL]at g;have v0:=c.val (i:=0) (by omega);unfold iI F239 GI;simp only[h,Int.reduceToNat];cases d:gM w (bS f.bH 0) 4 with
 |none=>exact .of_eq (λn=>by simp(disch:=omega)only[aQ,bw,qX v0.ref,d]<;>rfl) ⟨_,_,rfl⟩
 |some o=>
  obtain⟨h1,h2,h3,h4,h5,h6⟩:=dS c.hw v0 d;cases h2 with
  |chan a b=>
   rename_i e;clear h6;cases e with|nil=>exact .of_eq (λn=>by simp(disch:=omega)only[aQ,bw,qX v0.ref,d]<;>rfl) ⟨_,rfl⟩|cons v e=>exact .of_eq (λn=>by simp(disch:=first|omega|simp only[kS];omega)only[aQ,bw,qX v0.ref,d,qx,ada,QM,Mw,h,Int.reduceEq,eP]<;>rfl) ⟨_,_,_,_,_,rfl⟩
  |_=>cases h1
def aji(c:Cx p w left f)(h:(nodeAt p f.Node).Op=20):gi p w (iI p w at_ left f) (λn=>F236 n (xS at_ left p f,rb p w,())):=by
 have e:=c.vl h (by decide);simp[dL]at e;have v0:=c.val (i:=0) (by omega);unfold iI F236 HB;simp only[h,Int.reduceToNat];cases b:gM w (bS f.bH 0) 6 with
 |none=>exact .of_eq (λn=>by simp(disch:=omega)only[aQ,bw,qX v0.ref,b]<;>rfl) ⟨_,_,rfl⟩
 |some o=>
  obtain⟨h1,h2,h3,h4,h5,h6⟩:=dS c.hw v0 b;dsimp only;by_cases d:o.N=0
  .rw[bJ d];exact .of_eq (λn=>by simp(disch:=omega)only[aQ,bw,qX v0.ref,b]<;>rfl) ⟨_,rfl⟩
  .rw[br d];by_cases g:o.N=1
   .have j:0<o.bH.length:=by cases h2<;>first|(cases h1;done)|exact Nat.one_pos|exact absurd rfl d|(dsimp only at g;omega)
    rw[br (by omega)];exact .of_eq (λn=>by simp(disch:=omega)only[aQ,bw,qX v0.ref,b,Mw,h,Int.reduceEq,eP]<;>rfl) ⟨_,_,_,_,_,rfl⟩
   .rw[bJ (by omega)];exact .of_eq (λn=>by simp(disch:=omega)only[aQ,bw,qX v0.ref,b]<;>rfl) ⟨_,_,rfl⟩
def aje(c:Cx p w left f)(h:(nodeAt p f.Node).Op=24):gi p w (iI p w at_ left f) (λn=>F240 n (xS at_ left p f,rb p w,())):=by
 have b:=c.vl h (by decide);simp[dL]at b;have d:=c.hw.outs;unfold iI F240 Fv uK RU;simp only[h,Int.reduceToNat];by_cases h1:(bS f.bH 0).Kind=1
 .rw[br (by omega)];by_cases h2:100<=w.gH.length
  .rw[bJ h2];exact .of_eq (λn=>by simp(disch:=omega)only[aQ,bw,kB]<;>rfl) ⟨_,_,rfl⟩
  .rw[br h2];exact .of_eq (λn=>by simp(disch:=first|omega|simp only[kS];omega)only[aQ,bw,kB,QM,QN (at_:=at_),h,fR]<;>rfl) ⟨_,_,_,_,_,rfl⟩
 .rw[bJ h1];exact .of_eq (λn=>by simp(disch:=omega)only[aQ,bw,kB]<;>rfl) ⟨_,_,rfl⟩
def ajd(c:Cx p w left f)(h:(nodeAt p f.Node).Op=25):gi p w (iI p w at_ left f) (λn=>F241 n (xS at_ left p f,rb p w,())):=by
 have d:=c.hw.used;have b:=c.hw.ins;unfold iI F241 Fu inS;simp only[h,Int.reduceToNat];cases hi:w.uI with
 |nil=>exact .of_eq (λn=>by simp(disch:=omega)only[aQ,bw,hi]<;>rfl) ⟨_,rfl⟩
 |cons i l=>
  dsimp only;by_cases h2:1000000000<=w.Used
  .rw[bJ h2];exact .of_eq (λn=>by simp(disch:=omega)only[aQ,bw,hi,kB]<;>rfl) ⟨_,_,rfl⟩
  .rw[br h2];rw[hi]at b;simp only[fc]at b;exact .of_eq (λn=>by simp(disch:=first|omega|simp only[kS];omega)only[aQ,bw,hi,kB,qx,S2,bF,QN (at_:=at_),h,Int.reduceEq,eP]<;>rfl) ⟨_,_,_,_,_,rfl⟩
end
end
section
section
variable {p:aA}{w:aa}{left:List au}{f:au}{at_:Int}
def Ox(hp:mW p)(hw:gu p w){v:aq}(i:cC p w.aW.length v):∀o,gM w v 2=Z o->0<=o.N∧o.N<p.aV.length∧0<(nodeAt p o.N).Kids.length∧o.bH.length<=1000:=by
 intro o j;obtain⟨h1,h2,_⟩:=dS hw i j;cases h2 with
 |func a b d e g=>
  refine⟨a,b,?_,by simp only;omega⟩;have:=(hp.nd a b).many (by omega) (by omega);rw[this,d]
  decide
 |_=>cases h1
def ajj(c:Cx p w left f)(h:(nodeAt p f.Node).Op=19):gi p w (iI p w at_ left f) (λn=>F235 n (xS at_ left p f,rb p w,())):=by
 have l:=c.vl h (by decide);simp[dL]at l;have v0:=c.val (i:=0) (by omega);have g:=Ox c.hp c.hw v0;have m:=c.hw.len;have q:=c.hw.tl;unfold iI F235 xJ zN;simp only[h,Int.reduceToNat];cases j:gM w (bS f.bH 0) 5 with
 |some o=>
  dsimp only;obtain⟨h1,h2,h3,h4,h5,h6⟩:=dS c.hw v0 j;have e:g8 p w (bS f.bH 0) fu=Y:=by unfold g8 gM;rw[br (by omega),<-h6,br (by omega)]
  by_cases d:120<=w.aW.length
  .rw[bJ d];exact .of_eq (λn=>by simp(disch:=omega)only[aQ,bw,QM,EI v0.code v0.ref g,e,qX v0.ref,j,bG,As,br (Bf.2 d)]<;>rfl) ⟨_,_,rfl⟩
  .rw[br d];exact .of_eq (λn=>by simp(disch:=first|omega|simp only[kS];omega)only[aQ,bw,QM,EI v0.code v0.ref g,e,qX v0.ref,j,bG,As,bJ (yu.1 d),tJ,fO,QN (at_:=at_),h,Int.reduceEq,eP]<;>rfl) ⟨_,_,_,_,_,rfl⟩
 |none=>
  dsimp only;cases e:g8 p w (bS f.bH 0) fu with
  |none=>exact .of_eq (λn=>by simp(disch:=omega)only[aQ,bw,QM,EI v0.code v0.ref g,e,qX v0.ref,j,ack]<;>rfl) ⟨_,_,rfl⟩
  |some b=>
   dsimp only;by_cases k:b.Env.length<=30
   .rw[br (by omega)];by_cases d:120<=w.aW.length
    .rw[bJ d];exact .of_eq (λn=>by simp(disch:=omega)only[aQ,bw,QM,EI v0.code v0.ref g,e,bJ k,bG,As,br (Bf.2 d)]<;>rfl) ⟨_,_,rfl⟩
    .rw[br d];exact .of_eq (λn=>by simp(disch:=first|omega|simp only[kS];omega)only[aQ,bw,QM,EI v0.code v0.ref g,e,bJ k,bG,As,bJ (yu.1 d),tJ,fO,QN (at_:=at_),h,Int.reduceEq,eP]<;>rfl) ⟨_,_,_,_,_,rfl⟩
   .rw[bJ (by omega)];exact .of_eq (λn=>by simp(disch:=omega)only[aQ,bw,QM,EI v0.code v0.ref g,e,br k]<;>rfl) ⟨_,_,rfl⟩
def rY{α:Type}{q:α->Bool}:∀{l:List α},(∀j(h:j<l.length),q l[j]=J)->ic q l=Y
 |[],_=>rfl
 |a::l,h=>by unfold ic;rw[rY λj b=>h (j+1) (by simpa using b)];simp only;have:=h 0 (by simp);simp only[UB]at this;rw[this];rfl
def yO{α:Type}{q:α->Bool}:∀{l:List α}{m:Nat}(d:m<l.length),q l[m]=W->(∀j(h:j<l.length),m<j->q l[j]=J)->ic q l=Z m
 |a::l,0,_,h1,h=>by unfold ic;rw[rY λj b=>h (j+1) (by simpa using b) (by omega)];simp only[UB]at h1;simp only[h1];rfl
 |a::l,m+1,d,h1,h=>by unfold ic;rw[yO (l:=l) (m:=m) (by simpa using d) (by simpa using h1) λj b e=>h (j+1) (by simpa using b) (by omega)]
def xj{α:Type}{q:α->Bool}:∀{l:List α}{k:Nat},ic q l=Z k->k<l.length
 |a::l,k,h=>by unfold ic at h;cases b:ic q l with|some j=>rw[b]at h;have:=xj b;simp only[bg]at h;simp only[fc];omega|none=>rw[b]at h;simp only at h;cases d:q a<;>rw[d]at h<;>simp at h;simp only[fc];omega
def wV(hf:∀g∈left,0<=g.Node∧g.Node<p.aV.length)(hl:left.length<40){R B P:Type}{F:Nat->Int×Unit->Option (LO (Int×Unit) R B P)}
  (i:∀n c,F n c=aj (D.ek 0 c.1) (aC (av c.1 left) (aC (av (aR left (ah c.1) aU).Node p.aV) (aj (D.aO (D.aI (aR p.aV (ah (aR left (ah c.1) aU).Node) aN).Op 26)) (Z (.next (D.dI .i64 c.1 1,()))) (Z (.out 0 c))))) (Z (.out 0 c))) :
  ∀m:Nat,m<=left.length->(∀j(h:j<left.length),m<=j->(nodeAt p left[j].Node).Op≠26)->
  eL F ((m:Int)-1,()) (.out 0 (match ic (λf:au=>(nodeAt p f.Node).Op==26) left with|some k=>(k:Int)|none=>-1,()))
 |0,_,h=>by rw[rY λj b=>by simpa using h j b (BP _)];exact .out (Ev.of_eq λn=>by rw[i];simp(disch:=omega)only[aQ];rfl)
 |m+1,s,h=>by
  have t:=hf left[m] (FX _);have e:left.getD m aU=left[m]:=by rw[j6,fP (by omega)];rfl
  have r:(((m+1:Nat):Int)-1).toNat=m:=by omega
  by_cases l:(nodeAt p left[m].Node).Op=26
  .rw[yO (m:=m) (by omega) (by simpa using l) λj b d=>by simpa using h j b d];refine .out (Ev.of_eq λn=>?_);rw[i];simp(disch:=omega)only[aQ,bw,r,e,l];simp
  .refine .next (y:=((m:Int)-1,())) (Ev.of_eq λn=>?_) (wV hf hl i m (by omega) λj b d=>?_)
   .rw[i];simp(disch:=omega)only[aQ,bw,r,e,l,cV];simp
   .by_cases q:j=m
    .subst q;exact l
    .exact h j b (by omega)
def ajb(c:Cx p w left f)(h:(nodeAt p f.Node).Op=27):gi p w (iI p w at_ left f) (λn=>F243 n (xS at_ left p f,rb p w,())):=by
 have l:=c.nd.many (by omega) (by omega);rw[h]at l;simp[qR]at l;have H:=c.hw.len;have i:=c.ll;have I:=c.hf.el;have e0:D.dI .i64 (ak left) 1=(left.length:Int)-1:=cV (by simp only[ak];omega) (by simp only[ak];omega);unfold iI F243 Pj zQ;simp only[h,Int.reduceToNat,e0];have d:=λ(R B P:Type)=>@wV p left (λg m=>⟨(c.left g m).1.lo,(c.left g m).1.hi⟩) i R B P _ (λn c=>rfl) left.length (bP _) (λj K v=>by omega);have b:∀(k:Int)(G:Nat->Int×Unit->Option Out)(r:o8),(∃y,Ev (λn=>G n (k,())) y∧JM p w r y)->∀(R B P:Type)(F:Nat->Int×Unit->Option (LO (Int×Unit) R B P))(q:Nat->B->R->Option Out)(s:Nat->B->P->Option Out)(x:Int×Unit),
   eL F x (.out 0 (k,()))->gi p w r (λn=>ai (iter (F n) n x) λc=>LO.el c (λ_ e=>G n e) (q n) (s n)):=by
  intro k G r ⟨y,h1,h2⟩ R B P F q s x z;exact⟨y,Ev.aP z _ _ h1,h2⟩
 cases hi:ic (λf:au=>(nodeAt p f.Node).Op==26) left with
 |none=>simp only[hi]at d;refine b _ _ (.fail 3) ?_ _ _ _ _ _ _ _ (d _ _ _);exact⟨_,Ev.of_eq λn=>by simp(disch:=omega)only[aQ,kB]<;>rfl,_,_,rfl⟩
 |some k=>
  have C:=xj hi;simp only[hi]at d;refine b _ (λn e=>_) _ ?_ _ _ _ _ _ _ _ (d _ _ _);dsimp only;have t:(left.take (k+1)).length=k+1:=by rw[zV];omega
  have u:((k:Int)+1).toNat=k+1:=by omega
  by_cases h1:120<=w.aW.length
  .rw[bJ h1];exact⟨_,Ev.of_eq λn=>by simp(disch:=omega)only[aQ,kB,u0,ZR,As,br (Bf.2 h1)]<;>rfl,_,_,rfl⟩
  .rw[br h1];unfold jf;by_cases h2:f.Env.length+1<=30
   .rw[br (by rw[t];simp only[iq,mZ];omega)];exact⟨_,Ev.of_eq λn=>by simp(disch:=first|omega|simp only[kS];omega)only[aQ,kB,u0,nA,ZR,As,bJ (yu.1 h1),bF,u,tJ,OH,bJ h2,ZO,t,bJ (show k+1+1<=40 by omega)]<;>rfl,_,_,_,_,_,rfl⟩
   .rw[bJ (by simp only[iq,mZ];omega)];exact⟨_,Ev.of_eq λn=>by simp(disch:=first|omega|simp only[kS];omega)only[aQ,kB,u0,nA,ZR,As,bJ (yu.1 h1),bF,u,tJ,OH,br h2]<;>rfl,_,_,rfl⟩
end
end
section
abbrev adZ:=(Bool×Unit)×TB×RB×(List aq×Unit)×Unit
def Aj(T:TB)(R:RB)(l b:List aq):Option (List aq)->adZ
 |some m=>((W,()),T,R,(l++m,()),())
 |none=>((J,()),T,R,(b,()),())
def Fits(p:aA)(w:aa)(T:TB)(q:aB):Prop:=∀(v:aq)(l:List aq),cC p w.aW.length v->l.length+pw q<=1000->
 ∃b,wP R279 (T,rb p w,q,v,(l,()),()) (Aj T (rb p w) l b (iw w q v))
section
variable {p:aA}{w:aa}{T:TB}
def oH:∀(q:aB)(v:aq)(m:List aq),iw w q v=Z m->m.length<=pw q
 |⟨b,n,text,parts⟩,v,m,h=>by
  unfold iw at h;unfold pw;by_cases h1:b=1
  .rw[bJ h1]at h;cases h;simp
  rw[br h1]at h;by_cases h2:b=2
  .rw[bJ h2]at h;cases h;simp
  rw[br h2]at h;by_cases h3:b=3
  .rw[bJ h3]at h;split at h<;>cases h;simp
  rw[br h3]at h;by_cases h4:b=4
  .rw[bJ h4]at h;split at h<;>cases h;simp
  rw[br h4]at h;by_cases h5:b=5
  .rw[bJ h5]at h;split at h<;>cases h;simp
  rw[br h5]at h;split at h
  .cases h
  .split at h
   .cases h
   .have:=lens parts _ m h;omega
where
 lens:∀(qs:List aB)(vs:List aq)(m:List aq),eI w qs vs=Z m->m.length<=qt qs
 |[],vs,m,h=>by unfold eI at h;cases h;simp
 |q::qs,[],m,h=>by unfold eI at h;cases h;simp
 |q::qs,v::vs,m,h=>by
  unfold eI at h;unfold qt;split at h
  .cases h
  .rename_i l hl;split at h
   .cases h
   .rename_i m' hm;cases h;have a:=oH q v l hl;have b:=lens qs vs m' hm;rw[iq];omega
def eV{α:Type}(a:List α)(x:α)(b:List α)(d:α):(a++x::b).getD a.length d=x:=by rw[j6,UJ (bP _),Nat.sub_self];rfl
def SW(q:aB):aB.mk q.Form q.N q.Text q.BJ=q:=by cases q;rfl
def HM{P:Type}:∀(qs:List aB)(vs:List aq)(pre:List aB)(b:List aq)(l:List aq),qs.length=vs.length->pre.length=b.length->pre.length+qs.length<=1000->
  (∀q∈qs,Fits p w T q)->(∀v∈vs,cC p w.aW.length v)->l.length+qt qs<=1000->
  ∃C,∀(d:Nat)(F:Nat->Int×TB×RB×(List aq×Unit)×Unit->Option (LO (Int×TB×RB×(List aq×Unit)×Unit) (Bool×Unit) (TB×RB×(List aq×Unit)×Unit) P)),
  (∀n e,F n e=aj (D.bN e.1 (ak (pre++qs))) (aC (av e.1 (pre++qs)) (aC (av e.1 (b++vs)) (ai (R279 n (n-d) (e.2.1,e.2.2.1,aB.mk (aR (pre++qs) (ah e.1) aL).1 (aR (pre++qs) (ah e.1) aL).2
   (aR (pre++qs) (ah e.1) aL).3 (aR (pre++qs) (ah e.1) aL).4,@aR aq (b++vs) (ah e.1) ax,e.2.2.2)) λg=>aj (D.aO g.1.1) (Z (LO.ret g.2 (J,()))) (Z (LO.next (D.add .i64 e.1 1,g.2)))))) (Z (LO.out 0 e)))->
  eL F ((pre.length:Int),T,rb p w,(l,()),()) (match eI w qs vs with
   |some m=>.out 0 (((pre++qs).length:Int),T,rb p w,(l++m,()),())
   |none=>.ret (T,rb p w,(C,()),()) (J,()))
 |[],[],pre,b,l,_,_,s,_,_,_=>by refine⟨[],λd F i=>?_⟩;unfold eI;refine .out (Ev.of_eq λn=>?_);rw[i];simp(disch:=omega)only[aQ,iT]<;>rfl
 |q::qs,v::vs,pre,b,l,G,hp,s,t,u,hw=>by
  unfold qt at hw;simp only[fc]at s;obtain⟨H,h1⟩:=t q ez v l (u v ez) (by omega);have z:(pre++q::qs).getD pre.length aL=q:=eV ..;have B:(b++v::vs).getD pre.length ax=v:=by rw[hp];exact eV ..
  unfold eI;cases k:iw w q v with
  |none=>rw[k]at h1;refine⟨H,λd F i=>.ret ?_⟩;obtain⟨N,h1⟩:=h1 d;refine⟨N,λn r=>?_⟩;have:=h1 n r;simp only at this;show F n _=_;rw[i];simp(disch:=first|omega|simp only[kS];omega)only[aQ,z,B,SW];exact(mJ (λx=>ai x _) this).trans rfl
  |some m=>
   rw[k]at h1;have I:=oH q v m k;obtain⟨K,h2⟩:=HM (P:=P) qs vs (pre++[q]) (b++[v]) (l++m) (by simpa using G) (by simp;omega) (by simp;omega) (λL h=>t L (gJ _ h)) (λM h=>u M (gJ _ h))
    (by simp;omega)
   refine⟨K,λd F i=>?_⟩;have h2:=h2 d F (λn e=>by rw[i];simp only[p8,yq]<;>rfl);refine(.next (y:=(((pre++[q]).length:Int),T,rb p w,(l++m,()),())) ?_ ?_)
   .obtain ⟨N,h1⟩:=h1 d;refine⟨N,λn r=>?_⟩;have:=h1 n r;simp only at this;show F n _=_;rw[i];simp(disch:=first|omega|simp only[kS];omega)only[aQ,z,B,SW,bF,dW,eg];exact(mJ (λx=>ai x _) this).trans rfl
   .simp only;cases j:eI w qs vs with|none=>rw[j]at h2;exact h2|some O=>rw[j]at h2;simpa only[p8,yq]using h2
theorem kO(n k:Nat):R279 n (k+1)=B279 n (R279 n k):=rfl
def fits:∀(q:aB),pf q=W->pw q<=1000->∀(hw:gu p w),Fits p w T q
 |⟨b,n0,text,parts⟩,hf,r,hw=>by
  intro v l k C;unfold pf at hf;unfold pw at C r;simp only[dR,jR]at hf;obtain⟨⟨G,H⟩,s⟩:=hf;unfold iw;by_cases h1:b=1
  .refine ⟨[],wP.step kO λd=>Ev.of_eq λn=>?_⟩;unfold B279;simp(disch:=omega)only[aQ,h1,fR,Aj,iT]<;>rfl
  rw[br h1];by_cases h2:b=2
  .refine ⟨[],wP.step kO λd=>Ev.of_eq λn=>?_⟩;unfold B279;simp(disch:=first|omega|simp only[kS];omega)only[aQ,h2,fR,Aj]<;>rfl
  rw[br h2];have cmp:∀u:aq,∃t,(if vH v u=W then Z ([]:List aq)else Y)=Y∧D.fA (D.aI v.Kind u.Kind) (D.fA (D.aI v.N u.N) W)=J∨(if vH v u=W then Z ([]:List aq)else Y)=Z []∧D.fA (D.aI v.Kind u.Kind) (D.fA (D.aI v.N u.N) W)=W∧t=l:=by
   intro u;have:D.fA (D.aI v.Kind u.Kind) (D.fA (D.aI v.N u.N) W)=vH v u:=by rw[AF];rfl
   rw[this];refine⟨l,?_⟩;cases vH v u<;>simp
  by_cases h3:b=3
  .rw[bJ h3];refine⟨l,wP.step kO λd=>Ev.of_eq λn=>?_⟩;unfold B279 A3;obtain⟨_,⟨i,j⟩|⟨i,j,_⟩⟩:=cmp (gF n0)<;>rw[i]<;>simp(disch:=omega)only[aQ,h3,S2,j,Aj,iT]<;>rfl
  rw[br h3];by_cases h4:b=4
  .rw[bJ h4];refine⟨l,wP.step kO λd=>Ev.of_eq λn=>?_⟩;unfold B279 A3;obtain⟨_,⟨i,j⟩|⟨i,j,_⟩⟩:=cmp (iy (n0==1))<;>rw[i]<;>simp(disch:=omega)only[aQ,h4,agR,j,Aj,iT]<;>rfl
  rw[br h4];by_cases h5:b=5
  .rw[bJ h5];refine⟨l,wP.step kO λd=>Ev.of_eq λn=>?_⟩;unfold B279 A3;obtain⟨_,⟨i,j⟩|⟨i,j,_⟩⟩:=cmp fu<;>rw[i]<;>simp(disch:=omega)only[aQ,h5,QM,j,Aj,iT]<;>rfl
  rw[br h5];have h6:b=6:=by omega
  cases m:gM w v 1 with
  |none=>refine⟨l,wP.step kO λd=>Ev.of_eq λn=>?_⟩;unfold B279 FI;simp(disch:=omega)only[aQ,h6,S0 k.ref,m,gN,Aj]<;>rfl
  |some o=>
   dsimp only;obtain⟨_,I,_⟩:=dS hw k m;by_cases B:o.N≠n0∨o.bH.length≠parts.length
   .rw[bJ B];refine⟨l,wP.step kO λd=>Ev.of_eq λn=>?_⟩;unfold B279 FI;by_cases O:o.N=n0
    .simp (disch:=omega)only[aQ,h6,S0 k.ref,m,gN,Aj]<;>rfl
    .simp (disch:=omega)only[aQ,h6,S0 k.ref,m,gN,Aj]<;>rfl
   .rw[br B];have y:=I.vals;have K:parts.length<=qt parts:=ae8 parts;obtain⟨t,z⟩:=HM (p:=p) (w:=w) (T:=T) (P:=Any) parts o.bH [] [] l (by omega) rfl (by simp only[w4];omega)
      (λq L=>aaX parts s (by omega) hw q L) y (by omega)
    refine⟨t,wP.step kO λd=>?_⟩;have M:∀n,B279 n (R279 n (n-d)) (T,rb p w,⟨b,n0,text,parts⟩,v,(l,()),())=ai (iter (λe=>aj (D.bN e.1 (ak parts)) (aC (av e.1 parts) (aC (av e.1 o.bH) (ai (R279 n (n-d) (e.2.1,e.2.2.1,aB.mk (aR parts (ah e.1) aL).1 (aR parts (ah e.1) aL).2
   (aR parts (ah e.1) aL).3 (aR parts (ah e.1) aL).4,@aR aq o.bH (ah e.1) ax,e.2.2.2)) λg=>aj (D.aO g.1.1) (Z (LO.ret g.2 (J,()))) (Z (LO.next (D.add .i64 e.1 1,g.2)))))) (Z (LO.out 0 e))) n (0,T,rb p w,(l,()),())) λe=>LO.el e (λ_ h=>Z ((W,()),h.2)) (λg h=>Z (h,g)) λ_(_:Any)=>Y:=by intro n;unfold B279;simp(disch:=omega)only[aQ,h6,S0 k.ref,m,gN];rfl
    refine Ev.congr M (Ev.aP (z d _ λn e=>rfl) (λn e=>_) _ ?_);cases eI w parts o.bH<;>exact Ev.of_eq λn=>rfl
where
 ae8:∀qs:List aB,qs.length<=qt qs
 |[]=>BP _
 |⟨_,_,_,_⟩::qs=>by unfold qt pw;have:=ae8 qs;simp only[fc];omega
 aaX:∀(qs:List aB),pfs qs=W->qt qs<=1000->∀(hw:gu p w),∀q∈qs,Fits p w T q
 |[],_,_,_,_,h=>by cases h
 |q::qs,hf,hp,hw,q',h=>by
  unfold pfs at hf;unfold qt at hp;simp only[dR]at hf;rcases eR.1 h with h|h
  .rw[h];exact fits q hf.1 (by omega) hw
  .exact aaX qs hf.2 (by omega) hw q' h
def amU{q:aB}(hf:pf q=W)(d:pw q<=1000)(hw:gu p w){v:aq}(e:cC p w.aW.length v):∃b,Ev (λn=>F279 n (T,rb p w,q,v,([],()),())) (Aj T (rb p w) [] b (iw w q v)):=by obtain⟨b,h⟩:=fits (T:=T) q hf d hw v [] e (by simp only[w4];omega);exact⟨b,h 0⟩
variable {left:List au}{f:au}{at_:Int}
abbrev abZ(o:LO (Int×TB×RB×Unit) (bZ×Unit) (TB×RB×Unit) Any):Option Out:=LO.el o (λ_ e=>Z (Rx.dh (Any.a0 (fW.mk 3),e.2))) (λd e=>Z (Rx.ok (e,d))) λd e=>Z (Rx.dh (e,d))
def DT(hp:mW p)(hw:gu p w){u:aq}{node:Int}{env vals:List aq}{nd:bp}(C:cC p w.aW.length u)(hl:left.length<40)(H:env.length<=30)(I:0<vals.length)(r:bS vals 0=u)
  (F:Nat->Int×TB×RB×Unit->Option (LO (Int×TB×RB×Unit) (bZ×Unit) (TB×RB×Unit) Any))
  (t:∀n c,F n c=aj (D.bN c.1 (ak nd.cu)) (aC (av c.1 nd.cu) (aC (av 0 c.2.1.2.2.2.2.2.1) (ai (F279 n (c.2.1,c.2.2.1,aB.mk (aR nd.cu (ah c.1) aL).1 (aR nd.cu (ah c.1) aL).2 (aR nd.cu (ah c.1) aL).3 (aR nd.cu (ah c.1) aL).4,
   @aR aq c.2.1.2.2.2.2.2.1 (ah 0) ax,([],()),())) λd=>aj d.1.1 (ai (F277 n (d.2.1.2.2.2.2.1,d.2.2.2.1)) λe=>Rx.el e (λg=>ai (F174 n (d.2.1,d.2.2.1,D.add .i64 c.1 1,g.1)) λh=>Rx.el h (λi=>Z (LO.ret i.2 i.1)) λi=>Z (LO.dh i.2 i.1)) λg=>Z (LO.dh (d.2.1,d.2.2.1,()) g.1))
   (Z (LO.next (D.add .i64 c.1 1,d.2.1,d.2.2.1,())))))) (Z (LO.out 0 c))) :
  ∀(qs:List aB)(l:List Int)(pre:List aB)(b:List Int),nd.cu=pre++qs->nd.Kids=b++l->b.length=pre.length+1->l.length=qs.length->pre.length+qs.length<=1000->(∀q∈qs,pw q<=12∧pf q=W)->
  ∃o y,eL F ((pre.length:Int),tb at_ left node env vals nd [],rb p w,()) o∧abZ o=Z y∧JM p w (mc w left env u qs l) y
 |[],l,pre,b,h1,h2,h3,h4,h5,h6=>by
  refine⟨_,_,.out (j:=0) (y:=((pre.length:Int),tb at_ left node env vals nd [],rb p w,())) (Ev.of_eq λn=>?_),rfl,?_⟩
  .rw[t];simp(disch:=omega)only[aQ,h1,iT]<;>rfl
  .cases l<;>exact⟨_,_,rfl⟩
 |q::qs,[],pre,b,h1,h2,h3,h4,h5,h6=>by simp at h4
 |q::qs,k::l,pre,b,h1,h2,h3,h4,h5,h6=>by
  simp only[fc]at h4 h5;have K:nd.cu.length=pre.length+(qs.length+1):=by rw[h1];simp
  have L:nd.Kids.length=b.length+(l.length+1):=by rw[h2];simp
  have M:nd.cu.getD pre.length aL=q:=by rw[h1];exact eV ..
  have O:nd.Kids.getD (pre.length+1) 0=k:=by rw[h2,<-h3];exact eV ..
  obtain⟨R,v⟩:=h6 q ez;obtain⟨l',s⟩:=amU (T:=tb at_ left node env vals nd []) v (by omega) hw C;have S:((pre.length:Int)+1).toNat=pre.length+1:=by omega
  have z:∀n,F n ((pre.length:Int),tb at_ left node env vals nd [],rb p w,())=ai (F279 n (tb at_ left node env vals nd [],rb p w,q,u,([],()),())) λd=>aj d.1.1 (ai (F277 n (d.2.1.2.2.2.2.1,d.2.2.2.1)) λe=>Rx.el e (λg=>ai (F174 n (d.2.1,d.2.2.1,D.add .i64 pre.length 1,g.1)) λh=>Rx.el h (λi=>Z (LO.ret i.2 i.1)) λi=>Z (LO.dh i.2 i.1)) λg=>Z (LO.dh (d.2.1,d.2.2.1,()) g.1))
   (Z (LO.next (D.add .i64 pre.length 1,d.2.1,d.2.2.1,()))):=by
   intro n;rw[t];simp(disch:=omega)only[aQ,M,bw,r,SW]<;>rfl
  unfold mc;cases B:iw w q u with
  |none=>rw[B]at s;obtain⟨o,y,U,X,r3⟩:=DT hp hw C hl H I r F t qs l (pre++[q]) (b++[k]) (by rw[h1];simp) (by rw[h2];simp) (by simp;omega) (by omega) (by simp;omega) (λq' h=>h6 q' (gJ _ h));refine⟨o,y,.next ?_ U,X,r3⟩;refine Ev.congr z (Ev.ai s (Ev.of_eq λn=>?_));simp(disch:=omega)only[aQ,Aj,bF,dW,eg]<;>rfl
  |some m=>
   rw[B]at s;have hml:=oH q u m B;dsimp only;unfold jf;by_cases G:env.length+m.length<=30
   .rw[br (by rw[iq];omega)];refine⟨.ret (tb at_ (left++[⟨k,env++m,[]⟩]) node env vals nd [],rb p w,()) (bZ.a3 ⟨⟩,()),_,.ret ?_,rfl,_,_,_,_,_,rfl⟩;refine Ev.congr z (Ev.ai s (Ev.of_eq λn=>?_));simp(disch:=omega)only[aQ,Aj,w6,OH,bJ G,bF,ZO,bJ (show left.length+1<=40 by omega),S,O]<;>rfl
   .rw[bJ (by rw[iq];omega)];refine⟨.dh (tb at_ left node env vals nd [],rb p w,()) (fl 4),_,.dh ?_,rfl,_,_,rfl⟩;refine Ev.congr z (Ev.ai s (Ev.of_eq λn=>?_));simp(disch:=omega)only[aQ,Aj,w6,OH,br G]<;>rfl
def ajn(c:Cx p w left f)(h:(nodeAt p f.Node).Op=15):gi p w (iI p w at_ left f) (λn=>F231 n (xS at_ left p f,rb p w,())):=by
 have j:=c.vl h (by decide);simp[dL]at j;have v0:=c.val (i:=0) (by omega);obtain⟨g,k⟩:=c.nd.mat h;have m:=c.nd.pats;unfold iI F231 Fw;simp only[h,Int.reduceToNat];obtain⟨b,d⟩:∃b,(nodeAt p f.Node).Kids=[b]++(nodeAt p f.Node).Kids.drop 1:=by cases q:(nodeAt p f.Node).Kids with|nil=>rw[q]at g;simp at g;omega|cons a l=>exact⟨a,rfl⟩
 obtain⟨o,y,r,s,t⟩:=DT (at_:=at_) (node:=f.Node) c.hp c.hw v0 c.ll c.hf.el (vals:=f.bH) (by omega) rfl _ (λn e=>rfl) (nodeAt p f.Node).cu ((nodeAt p f.Node).Kids.drop 1) [] [b] rfl d rfl (by rw[KP];omega) (by simp only[w4];omega) m;exact⟨y,Ev.aP (F:=λn c=>_) r (λn c=>_) _ (Ev.of_eq λn=>s),t⟩
end
end
section
variable {n k:Nat}{l:List au}{nd:bp}{o:aD}
def ZP(nd:bp)(h1:1<=nd.Op)(h2:nd.Op<=28):F173 n (nd,())=Z ((jh nd,()),()):=by
 obtain⟨op,m,kids,pats⟩:=nd;dsimp only at h1 h2;obtain⟨k,rfl⟩:∃k:Nat,op=k:=⟨_,(zW (by omega)).symm⟩;have b:k<=28:=by omega
 match k,b with
 |0,_=>omega
 |1,_|2,_|3,_|4,_|5,_|6,_|7,_|8,_|9,_|10,_|11,_|12,_|13,_|14,_|15,_|16,_|17,_|18,_|19,_|20,_|21,_|22,_|23,_|24,_|25,_|26,_|27,_|28,_=>rfl
 |k+29,h=>omega
section
variable {p:aA}{w:aa}{left:List au}{f:au}{at_:Int}
noncomputable def opF(k:Nat)(n:Nat)(x:TB×RB×Unit):Option Out:=
 match k with
 |1|2|3=>ai (F221 n x) λg=>Z (Rx.ok g)
 |9|10|11=>ai (F227 n x) λg=>Rx.el g (λh=>Z (Rx.ok h)) λh=>Z (Rx.dh h)
 |26=>ai (F242 n x) λg=>Z (Rx.ok g)
 |28=>ai (F244 n x) λg=>Z (Rx.ok g)
 |4=>F222 n x|5=>F223 n x|6=>F224 n x|7=>F225 n x|8=>F226 n x|12=>F228 n x|13=>F229 n x|14=>F230 n x|15=>F231 n x|16=>F232 n x
 |17=>F233 n x|18=>F234 n x|19=>F235 n x|20=>F236 n x|21=>F237 n x|22=>F238 n x|23=>F239 n x|24=>F240 n x|25=>F241 n x|27=>F243 n x
 |_=>Y
def Sb(c:Cx p w left f):gi p w (iI p w at_ left f) (λn=>opF (nodeAt p f.Node).Op.toNat n (xS at_ left p f,rb p w,())):=by
 have h1:=c.nd.lo;have h2:=c.nd.hi;obtain⟨k,e⟩:∃k:Nat,(nodeAt p f.Node).Op=k:=⟨_,(zW (by omega)).symm⟩;have b:1<=k:=by omega
 have d:k<=28:=by omega
 rw[e,FY]
 match k,e,b,d with
 |1,h,_,_=>exact ab1 c (.inl h)
 |2,h,_,_=>exact ab1 c (.inr (.inl h))
 |3,h,_,_=>exact ab1 c (.inr (.inr h))
 |4,h,_,_=>exact ajv c h
 |5,h,_,_=>exact aju c h
 |6,h,_,_=>exact ajt c h
 |7,h,_,_=>exact ajs c h
 |8,h,_,_=>exact ajr c h
 |9,h,_,_=>exact ab0 c (.inl h)
 |10,h,_,_=>exact ab0 c (.inr (.inl h))
 |11,h,_,_=>exact ab0 c (.inr (.inr h))
 |12,h,_,_=>exact ajq c h
 |13,h,_,_=>exact ajp c h
 |14,h,_,_=>exact ajo c h
 |15,h,_,_=>exact ajn c h
 |16,h,_,_=>exact ajm c h
 |17,h,_,_=>exact ajl c h
 |18,h,_,_=>exact ajk c h
 |19,h,_,_=>exact ajj c h
 |20,h,_,_=>exact aji c h
 |21,h,_,_=>exact ajh c h
 |22,h,_,_=>exact ajg c h
 |23,h,_,_=>exact ajf c h
 |24,h,_,_=>exact aje c h
 |25,h,_,_=>exact ajd c h
 |26,h,_,_=>exact ajc c h
 |27,h,_,_=>exact ajb c h
 |28,h,_,_=>exact aja c h
 |k+29,_,_,h=>omega
def Wt{α:Type}(x:Int)(h1:1<=x)(h2:x<=28)(g:Nat->Option α) :
  aj (ia x 1) (g 1) (aj (ia x 2) (g 2) (aj (ia x 3) (g 3) (aj (ia x 4) (g 4) (aj (ia x 5) (g 5) (aj (ia x 6) (g 6) (aj (ia x 7) (g 7) (aj (ia x 8) (g 8)
  (aj (ia x 9) (g 9) (aj (ia x 10) (g 10) (aj (ia x 11) (g 11) (aj (ia x 12) (g 12) (aj (ia x 13) (g 13) (aj (ia x 14) (g 14) (aj (ia x 15) (g 15)
  (aj (ia x 16) (g 16) (aj (ia x 17) (g 17) (aj (ia x 18) (g 18) (aj (ia x 19) (g 19) (aj (ia x 20) (g 20) (aj (ia x 21) (g 21) (aj (ia x 22) (g 22)
  (aj (ia x 23) (g 23) (aj (ia x 24) (g 24) (aj (ia x 25) (g 25) (aj (ia x 26) (g 26) (aj (ia x 27) (g 27) (aj (ia x 28) (g 28) (aC J Y))))))))))))))))))))))))))))=g x.toNat:=by
 obtain⟨k,rfl⟩:∃k:Nat,x=k:=⟨_,(zW (by omega)).symm⟩;have b:1<=k:=by omega
 have d:k<=28:=by omega
 match k,b,d with
 |1,_,_|2,_,_|3,_,_|4,_,_|5,_,_|6,_,_|7,_,_|8,_,_|9,_,_|10,_,_|11,_,_|12,_,_|13,_,_|14,_,_|15,_,_|16,_,_|17,_,_|18,_,_|19,_,_|20,_,_|21,_,_|22,_,_|23,_,_|24,_,_|25,_,_|26,_,_|27,_,_|28,_,_=>rfl
 |k+29,_,h=>omega
def agM(c:Option Out):(ai c λg=>Rx.el g (λh=>Z (Rx.ok h)) λh=>Z (Rx.dh h))=c:=by cases c with|none=>rfl|some y=>cases y<;>rfl
abbrev T0(at_:Int):TB:=((),at_,[],0,[],[],0,0,[],[],[],())
def vo(h:l≠[]):l=l.take (l.length-1)++[l.getD (l.length-1) aU]:=by
 have b:l.length-1<l.length:=by have:=Ds.2 h;omega
 rw[j6,fP b];simp only[zU];rw[<-List.dropLast_eq_take,List.getElem_length_sub_one_eq_getLast];exact(List.dropLast_concat_getLast h).symm
def n8(h:Pa p nd):jh nd<=nd.Kids.length:=by
 unfold jh;split
 .exact Int.le_refl _
 .rename_i d;by_cases b:nd.Op=15
  .have:=(h.mat b).1;rw[b,this];simp[dL];omega
  .rw[h.many d b];have h1:=h.lo;have h2:=h.hi;have:∀k,k<29->k≠15->dL.getD k 0<=qR.getD k 0:=by decide
   exact_mod_cast this _ (by omega) (by omega)
def yP(hp:mW p)(h:Pa p nd):nd.Kids.length<=6:=by
 by_cases e:nd.Op=14
 .obtain ⟨a,b,d⟩:=h.con e;have:=(hp.cons _ (bX bx (show nd.N.toNat<p.Cons.length by omega))).2;omega
 .by_cases g:nd.Op=15
  .have:=h.mat g;omega
  .rw[h.many e g];have h1:=h.lo;have h2:=h.hi;have:∀k,k<29->qR.getD k 0<=6:=by decide
   exact this _ (by omega)
def yF{g:au}:∀{o:aD},gr p k o->o.Form=6->o.N=0->o.Frames=l++[g]->
  eG p k g∧(∀x∈l,eG p k x∧sN p x)∧l.length<40∧(o.bH=[]∨∃v,o.bH=[v]∧cC p k v∧sN p g)
 |_,.vQ a b c,_,_,h=>by have d:=List.append_inj' h rfl;have h1:=d.1;have h2:=(List.cons.inj d.2).1;subst h1;subst h2;exact⟨c,b,a,.inl rfl⟩
 |_,.back a b c,_,_,h=>by dsimp only at h;subst h;exact⟨(b g (by simp)).1,λx e=>b x (by simp[e]),by simp at a;omega,.inr ⟨_,rfl,c,(b g (by simp)).2⟩⟩
 |_,.done _,_,h,_=>by cases h
 |_,.dead a,_,h,_=>by dsimp only at h;omega
 |_,.data ..,h,_,_=>by cases h
 |_,.func ..,h,_,_=>by cases h
 |_,.cell _,h,_,_=>by cases h
 |_,.chan ..,h,_,_=>by cases h
 |_,.BZ ..,h,_,_=>by cases h
def ajw(hp:mW p)(hw:gu p w)(hf:o.Form=6)(hn:o.N=0)(q:o.Frames≠[])(L:gr p w.aW.length o):gi p w (V3 p w at_ o) (λn=>F115 n (T0 at_,rb p w,o,())):=by
 obtain⟨l,g,i⟩:∃l g,o.Frames=l++[g]:=⟨_,_,vo q⟩;obtain⟨e,M,r,s⟩:=yF L hf hn i;have b:=hp.nd e.lo e.hi;have m:(l++[g]).length-1=l.length:=by simp
 have d:(l++[g]).take l.length=l:=KU;have cL:(l++[g]).getD l.length aU=g:=eV ..;have I:sK (T0 at_,rb p w,o,())=(l.length:Int):=by unfold sK;simp only[i];simp(disch:=omega)only[aQ,cV];omega
 have t:iB (T0 at_,rb p w,o,())=g:=by unfold iB;rw[I];simp only[i,Wh,yJ];exact cL
 have u:xQ (T0 at_,rb p w,o,())=nodeAt p g.Node:=by unfold xQ;rw[t];rfl
 have O:g.bH.length<=1000:=by have h1:=e.vl;have h2:=n8 b;have h3:=yP hp b;omega
 unfold V3 F115;simp only[i,m,d,cL,I,t,u];rcases s with z|⟨v,z,R,S⟩
 .simp only[z];by_cases K:(g.bH.length:Int)<jh (nodeAt p g.Node)
  .rw[bJ K];have:=n8 b;refine N4 (k:=(g.bH.length:Int)) at_ 0 [] [] (left:=l++[g]) (by simp;omega) e.el (by omega) (by omega) λn=>?_;unfold Kf;simp only[u];have B:=e.lo;have C:=e.hi;simp(disch:=first|omega|simp only[kS];omega)only[aQ,ZP _ b.lo b.hi,Wk,jl,w6,bJ (show l.length+1<=40 by omega)]<;>rfl
  .rw[br K];have B:=e.lo;have C:=e.hi;have c:Cx p w l g:=⟨hp,hw,e,by have:=e.vl;omega,r,M⟩;obtain⟨y,h1,h2⟩:=Sb (at_:=at_) c;refine⟨y,Ev.congr (λn=>?_) h1,h2⟩;have G:=b.lo;have H:=b.hi;rw[<-Wt (nodeAt p g.Node).Op G H (λj=>opF j n (xS at_ l p g,rb p w,()))];unfold Kf Ke Kc fX;simp only[t,u];simp(disch:=first|omega|simp only[kS];omega)only[aQ,ZP _ b.lo b.hi,nA,d,Wk,jl,w6,bJ (show l.length<=40 by omega)];simp only[agM,opF]
 .simp only[z];exact .of_eq (λn=>by simp(disch:=first|omega|simp only[kS];omega)only[aQ,nA,d,Wk,jl,w6,BT,List.getD_cons_zero,bJ (show l.length<=40 by omega),bJ (show l.length+1<=40 by omega)]<;>rfl) ⟨_,_,_,_,aN,rfl⟩
def KA(p:aA)(w:aa):Option (aa×Option aE)->(bZ×Unit)×RB×Unit
 |none=>((bZ.a0 ⟨⟩,()),rb p w,())
 |some (b,e)=>((ac8 e,()),rb p b,())
theorem agQ{n:Nat}:F71 n (bZ.a0 ⟨⟩,())=Z ((2,()),()):=rfl
def ZM(e:Option aE):F71 n (ac8 e,())=Z ((match e with|none=>0|some _=>1,()),()):=by cases e<;>rfl
def V2(hp:mW p)(hw:gu p w)(hf:o.Form=6)(hn:o.N=0)(s:o.Frames≠[])(C:gr p w.aW.length o):sX p w (V3 p w at_ o):=by
 obtain⟨l,g,e⟩:∃l g,o.Frames=l++[g]:=⟨_,_,vo s⟩;obtain⟨b,t,i,u⟩:=yF C hf hn e;have j:=hp.nd b.lo b.hi;have k:(l++[g]).length-1=l.length:=by simp
 have d:(l++[g]).take l.length=l:=KU;have cL:(l++[g]).getD l.length aU=g:=eV ..;unfold V3;simp only[e,k,d,cL];rcases u with m|⟨v,m,y,z⟩
 .simp only[m];split
  .rename_i B;have:=n8 j;unfold jf;split
   .exact .inr (.inr rfl)
   .rename_i G;have q:=j.kids _ (bX 0 (show g.bH.length<(nodeAt p g.Node).Kids.length by omega));refine pg.same hw (.vQ (by omega) (λx r=>?_) ⟨q.1,q.2,b.el,b.env,CH _,λv m=>by cases m⟩);rcases dY.1 r with r|r
    .exact t x r
    .rw[kX.1 r];exact⟨b,B⟩
  .rename_i B;exact abU ⟨hp,hw,b,by have:=b.vl;omega,i,t⟩
 .simp only[m];refine pg.same hw (.vQ i t ⟨b.lo,b.hi,b.el,b.env,?_,An b.vals y⟩);unfold sN at z;simp only[iq,mZ];omega
def EL:∀{o:aD},gr p k o->o.Form=6->o.N=0->o.Frames=[]->∃v,o.bH=[v]∧cC p k v
 |_,.vQ a b c,_,_,h=>by simp at h
 |_,.back a b c,_,_,h=>⟨_,rfl,c⟩
 |_,.done a,_,_,h=>⟨_,rfl,a⟩
 |_,.dead a,_,h,_=>by dsimp only at h;omega
 |_,.data ..,h,_,_=>by cases h
 |_,.func ..,h,_,_=>by cases h
 |_,.cell _,h,_,_=>by cases h
 |_,.chan ..,h,_,_=>by cases h
 |_,.BZ ..,h,_,_=>by cases h
def mI(hp:mW p)(hw:gu p w)(t:0<=at_)(h1:at_<w.bf.length){w':aa}{e:Option aE}(hs:gw p w at_=Z (w',e)) :
  gu p w'∧(∃l,w'.bf=w.bf++l)∧(e=Y->w'.bf=w.bf):=by
 have m:=hw.task _ (bX 0 (show at_.toNat<w.bf.length by omega));obtain⟨t1,t2,t3⟩:=m;have i:=hw.ob t1 t2;unfold gw at hs;simp only at hs;change 0<=bT w at_ at t1;change bT w at_<_ at t2;change(cn w (bT w at_)).Form=6 at t3;change gr p _ (cn w (bT w at_))at i;split at hs
 .cases hs
 .rename_i j;have j:(cn w (bT w at_)).N=0:=by omega
  split at hs
  .rename_i d;cases hs;refine⟨hw.set t1 t2 (.done ?_) ⟨λ_=>t3,λ_=>rfl⟩,⟨[],by simp[lH]⟩,λ_=>rfl⟩;obtain⟨v,q,k⟩:=EL i t3 j d;rw[q];exact k
  .rename_i d;have b:=V2 (at_:=at_) hp hw t3 j d i;split at hs
   .cases hs
   .rename_i s g;rw[g]at b;cases hs;exact⟨hw.set t1 t2 (.dead b) ⟨λ_=>t3,λ_=>rfl⟩,⟨[],by simp[lH]⟩,λ_=>rfl⟩
   .rename_i u fr bk y g;rw[g]at b;cases hs;have r:=b.ln;have e0:(((bT w at_).toNat:Nat):Int)=bT w at_:=by omega
    refine⟨b.ok.set t1 (by omega) b.ob ⟨λ_=>?_,λ_=>rfl⟩,b.tk,b.tn⟩;have:=b.fm (bT w at_).toNat (by omega);rw[e0]at this;exact this.2 t3
def e70(hp:mW p)(hw:gu p w)(K:0<=at_)(h1:at_<w.bf.length):Ev (λn=>F70 n (rb p w,at_,())) (KA p w (gw p w at_)):=by
 obtain⟨t1,t2,t3⟩:=hw.task _ (bX 0 (show at_.toNat<w.bf.length by omega));have j:=hw.ob t1 t2;change 0<=bT w at_ at t1;change bT w at_<_ at t2;change(cn w (bT w at_)).Form=6 at t3;change gr p _ (cn w (bT w at_))at j;have z:zC (rb p w,at_,())=bT w at_:=rfl;have B:Fp (rb p w,at_,())=cn w (bT w at_):=rfl;unfold gw F70;simp only[z,B];by_cases i:(cn w (bT w at_)).N=0
 .rw[br (by omega)];by_cases b:(cn w (bT w at_)).Frames=[]
  .rw[bJ b];obtain⟨v,r,C⟩:=EL j t3 i b;rw[r];exact Ev.of_eq λn=>by simp(disch:=first|omega|simp only[kS];omega)only[aQ,i,b,r,ZQ,adh]<;>rfl
  .rw[br b];obtain⟨y,k,d⟩:=ajw (at_:=at_) hp hw t3 i b j;have t:0<(cn w (bT w at_)).Frames.length:=Ds.2 b;have m:=V2 (at_:=at_) hp hw t3 i b j;simp(disch:=omega)only[aQ,i];refine Ev.ai k ?_;cases g:V3 p w at_ (cn w (bT w at_))with
   |waits=>rw[g]at d;obtain⟨T,rfl⟩:=d;exact Ev.of_eq λn=>by simp only[aQ,agQ]<;>rfl
   |fail s=>rw[g]at d;obtain⟨T,q,rfl⟩:=d;exact Ev.of_eq λn=>by simp(disch:=omega)only[aQ,ZQ,ang]<;>rfl
   |go q fr bk e=>
    rw[g]at d m;obtain⟨pl,node,env,vals,nd,rfl⟩:=d;obtain⟨l,u⟩:=m.tk;have G:=m.ln;have H:q.bf.getD at_.toNat 0=bT w at_:=by rw[u,j6,Lj (by omega)];rfl
    have I:at_<q.bf.length:=by rw[u,iq];omega
    exact Ev.of_eq λn=>by cases e<;>simp(disch:=omega)only[aQ,ZM,ZQ,H]<;>rfl
 .rw[bJ i];exact Ev.of_eq λn=>by simp(disch:=omega)only[aQ]<;>rfl
end
end
section
def dK(w:aa)(at_ t:Int):o8->az
 | .fail s=>⟨lH w t ⟨6,s,[],[]⟩,1,⟨at_,0,s,ax⟩⟩
 | .waits=>⟨w,2,aZ⟩
 | .go b fr bk Y=>⟨lH b t ⟨6,0,bk,fr⟩,0,aZ⟩
 | .go b fr bk (Z e)=>⟨lH b t ⟨6,0,bk,fr⟩,1,e⟩
section
variable {n:Nat}{p:aA}{w:aa}{left:List au}{f:au}{at_:Int}{v u:aq}{form:Int}
theorem Jx(k:Int):F117 n (k,())=Z ((tJ k,()),()):=rfl
theorem QL:F97 n ()=Z ((fu,()),()):=rfl
theorem e25(k:Int):F25 n (k,())=Z ((gF k,()),()):=rfl
def adg(b:Bool):F120 n (b,())=Z ((iy b,()),()):=by cases b<;>rfl
def aa1(k:Int):F120 n (D.aI k 1,())=Z ((iy (k==1),()),()):=adg _
def e73:F73 n (v,())=Z ((oI v,()),()):=by
 unfold F73 oI;by_cases h:v.Kind=4
 .simp[h,aQ,Jx]
 .by_cases b:v.Kind=5
  .simp[b,aQ,Jx]
  .simp (disch:=omega)only[aQ,h,b,or_self,eP]
def e74{l:List aq}(h:l.length<=1000):F74 n (l,v,())=Z ((l++[v],()),()):=by unfold F74;simp(disch:=first|omega|simp only[kS];omega)only[aQ]
def e75(nd:bp)(h1:1<=nd.Op)(h2:nd.Op<=28):F75 n (nd,())=Z ((jh nd,()),()):=by
 obtain⟨op,m,kids,pats⟩:=nd;dsimp only at h1 h2;obtain⟨k,rfl⟩:∃k:Nat,op=k:=⟨_,(zW (by omega)).symm⟩;have b:k<=28:=by omega
 match k,b with
 |0,_=>omega
 |1,_|2,_|3,_|4,_|5,_|6,_|7,_|8,_|9,_|10,_|11,_|12,_|13,_|14,_|15,_|16,_|17,_|18,_|19,_|20,_|21,_|22,_|23,_|24,_|25,_|26,_|27,_|28,_=>rfl
 |k+29,h=>omega
variable {op:Int}
def vS{d:az}{k:Int}:F129 n (d,at_,op,k,v,())=if d.aam=1 then Z ((d,()),())else Z ((⟨d.W,1,⟨at_,op,k,oI v⟩⟩,()),()):=by
 unfold F129;split<;>rename_i h
 .simp only[aQ,h]
 .simp (disch:=omega)only[aQ,h,e73]
def lB(d:v.Kind=5->0<=v.N∧v.N<w.aW.length):F176 n (w,v,form,())=Z (gN (gM w v form),()):=by
 unfold F176 gM cn;by_cases h:v.Kind=5
 .obtain ⟨h1,h2⟩:=d h;by_cases b:(w.aW.getD v.N.toNat aT).Form=form
  .simp (disch:=omega)only[aQ,h,b,and_self,fR,gN]
  .simp (disch:=omega)only[aQ,h,b,and_false,eP,gN]
 .simp (disch:=omega)only[aQ,h,false_and,eP,gN]
def X1:Option au->au×Bool×Unit
 |some b=>(b,W,())
 |none=>(aU,J,())
def S3(hf:u.Kind=4->0<=u.N∧u.N<p.dx.length)(b:u.Kind=5->0<=u.N∧u.N<w.aW.length)
  (hn:∀o,gM w u 2=Z o->0<=o.N∧o.N<p.aV.length∧0<(nodeAt p o.N).Kids.length∧o.bH.length<=1000) :
  F177 n (p,w,u,v,())=Z (X1 (g8 p w u v),()):=by
 unfold F177 g8;by_cases h:u.Kind=4
 .obtain ⟨h1,h2⟩:=hf h;simp(disch:=omega)only[aQ,h,fR,X1]
 .simp (disch:=omega)only[aQ,h,eP];rw[lB b];cases d:gM w u 2 with|none=>simp only[aQ,gN,X1]|some o=>obtain⟨h1,h2,h3,h4⟩:=hn o d;unfold nodeAt at h3 ⊢;simp(disch:=omega)only[aQ,gN,e74,X1]
structure At(w:aa)(at_:Int):Prop where
 lo:0<=at_
 hi:at_<w.bf.length
 tlo:0<=bT w at_
 thi:bT w at_<w.aW.length
theorem cI(w:aa)(k:Int):w.bf.getD k.toNat 0=bT w k:=rfl
def e76{node:Int}{env:List aq}(a:At w at_)(hl:left.length<=1000)(b:env.length<=1000):F76 n (w,at_,left,node,env,())=Z ((dK w at_ (bT w at_) (jf w left node env),()),()):=by
 obtain⟨a1,a2,a3,d⟩:=a;unfold F76 Xb jf;by_cases h1:40<=left.length
 .simp (disch:=omega)only[aQ,cI,bJ (show 40<=left.length∨30<env.length from .inl h1),dK]<;>rfl
 .by_cases h2:30<env.length
  .simp (disch:=omega)only[aQ,cI,bJ (show 40<=left.length∨30<env.length from .inr h2),dK]<;>rfl
  .simp (disch:=first|omega|simp only[kS];omega)only[aQ,cI,br (show ¬(40<=left.length∨30<env.length)by omega),dK]<;>rfl
def anf(a:At w at_)(hp:mW p)(hw:gu p w)(d:cC p w.aW.length u)(hl:left.length<=100):F122 n (p,w,at_,left,u,v,())=Z ((dK w at_ (bT w at_) (AG p w left u v),()),()):=by
 obtain⟨a1,a2,a3,k⟩:=a;unfold F122 Kb xP AG;cases g:gM w u 5 with
 |some o=>
  obtain⟨h1,h2,_⟩:=dS hw d g;have l:o.Frames.length<=40:=by cases h2<;>first|(simp;done)|(simp only[fc,iq,w4];omega)
  dsimp only;by_cases h3:40<left.length+o.Frames.length
  .simp (disch:=omega)only[aQ,lB d.ref,g,gN,cI,bJ h3,dK]<;>rfl
  .simp (disch:=omega)only[aQ,lB d.ref,g,gN,cI,br h3,dK,fD]<;>rfl
 |none=>
  dsimp only;have j:=Ox hp hw d;cases e:g8 p w u v with
  |none=>simp(disch:=omega)only[aQ,lB d.ref,g,gN,cI,S3 d.code d.ref j,e,X1,dK]<;>rfl
  |some b=>
   have m:b.Env.length<=1000:=by
    unfold g8 at e;split at e
    .cases e;simp
    .split at e
     .rename_i q i;cases e;have h4:=(dS hw d i).2.1;have h5:=(dS hw d i).1;cases h4<;>first|(cases h5;done)|(simp only[iq,mZ];omega)
     .cases e
   simp only[aQ,lB d.ref,g,gN,S3 d.code d.ref j,e,X1,e76 ⟨a1,a2,a3,k⟩ (show left.length<=1000 by omega) m]<;>rfl
def e55(a:Int):F55 n (a,(-1000000000),1000000000,())=Z ((gG a,()),()):=by unfold F55 gG;by_cases h1:-1000000000<=a<;>by_cases h2:a<=1000000000<;>simp[aj,D.ek,h1,h2]
def Wp(a:At w at_)(e:op=9∨op=10∨op=11∨op=12∨op=13)(l:cC p w.aW.length u)(m:cC p w.aW.length v):F123 n (w,at_,left,op,u,v,())=Z ((dK w at_ (bT w at_) (um w left op u v),()),()):=by
 obtain⟨a1,a2,a3,q⟩:=a;unfold F123 FH J9 Ka xO um;by_cases b:op=13
 .subst b;rw[bJ rfl];by_cases h1:u.Kind=v.Kind
  .by_cases h2:u.Kind<=3
   .rw[br (by omega),show vH u v=D.aI u.N v.N by simp only[vH,h1,beq_self_eq_true,dM];rfl];simp(disch:=omega)only[aQ,cI,JH,AF,adg,dK,fD]<;>rfl
   .rw[bJ (by omega)];simp(disch:=omega)only[aQ,cI,dK]<;>rfl
  .rw[bJ (by omega)];simp(disch:=omega)only[aQ,cI,dK]<;>rfl
 .rw[br b];by_cases h1:u.Kind=1∧v.Kind=1
  .obtain ⟨d,g⟩:=h1;have i:=l.int d;have j:=m.int g;have r:=ae5 i j;simp only[gG,dR,jR]at i j;rw[br (by omega)];rcases e with h|h|h|h|h
   .subst h;simp only[Int.reduceEq,eP,fR];simp(disch:=omega)only[aQ,cI,bG,bF,e55];cases k:gG (u.N+v.N)<;>simp only[aQ,cI,e25,dK,fD,eP,fR,reduceCtorEq]<;>rfl
   .subst h;simp only[Int.reduceEq,eP,fR];simp(disch:=omega)only[aQ,cI,bG,cV,e55];cases k:gG (u.N-v.N)<;>simp only[aQ,cI,e25,dK,fD,eP,fR,reduceCtorEq]<;>rfl
   .subst h;simp only[Int.reduceEq,eP,fR];simp(disch:=omega)only[aQ,cI,bG,U3,e55];cases k:gG (u.N*v.N)<;>simp only[aQ,cI,e25,dK,fD,eP,fR,reduceCtorEq]<;>rfl
   .subst h;simp only[Int.reduceEq,eP,fR];simp(disch:=omega)only[aQ,cI,adg,dK,fD]<;>rfl
   .exact absurd h b
  .rw[bJ (by omega)];by_cases d:u.Kind=1
   .simp (disch:=omega)only[aQ,cI,dK]<;>rfl
   .simp (disch:=omega)only[aQ,cI,dK]<;>rfl
end
end
section
section
variable {n:Nat}{p:aA}{w:aa}{left:List au}{f:au}{at_:Int}{v u:aq}{form:Int}
variable {vals:List aq}{nd:bp}
def S6(a:At w at_)(hw:gu p w)(b:0<vals.length):F126 n (w,at_,left,16,vals,())=Z ((dK w at_ (bT w at_) (evS at_ 16 0 (bS vals 0) (lN w left ⟨3,0,[bS vals 0],[]⟩)),()),()):=by
 obtain⟨a1,a2,a3,d⟩:=a;have e:=hw.len;unfold F126 xM A1 jd o4 lN;by_cases h1:120<=w.aW.length
 .simp (disch:=omega)only[aQ,bw,cI,vS,dK,evS,bJ h1,fR]<;>rfl
 .simp (disch:=first|omega|simp only[kS];omega)only[aQ,bw,cI,Jx,cV,vS,dK,evS,br h1,Int.reduceEq,eP,fD,jl,dW,eg,Dw]<;>rfl
def Wo(a:At w at_)(hw:gu p w)(e:0<vals.length)(b:cC p w.aW.length (bS vals 0)):F126 n (w,at_,left,17,vals,())=Z ((dK w at_ (bT w at_) (SL w at_ left (bS vals 0)),()),()):=by
 obtain⟨a1,a2,a3,g⟩:=a;unfold F126 xM A1 jd o4 SL;cases d:gM w (bS vals 0) 3 with
 |none=>simp(disch:=omega)only[aQ,bw,cI,lB b.ref,d,gN,dK]<;>rfl
 |some o=>
  obtain⟨h1,h2,h3,h4,h5,h6⟩:=dS hw b d;have i:0<o.bH.length:=by cases h2<;>first|(cases h1;done)|simp
  simp(disch:=omega)only[aQ,bw,cI,lB b.ref,d,gN,vS,Int.reduceEq,eP,dK]<;>rfl
def Wn(a:At w at_)(hw:gu p w)(e:1<vals.length)(b:cC p w.aW.length (bS vals 0)):F126 n (w,at_,left,18,vals,())=Z ((dK w at_ (bT w at_) (hY w at_ left (bS vals 0) (bS vals 1)),()),()):=by obtain⟨a1,a2,a3,g⟩:=a;unfold F126 xM A1 jd o4 hY;cases d:gM w (bS vals 0) 3 with|none=>simp(disch:=omega)only[aQ,bw,cI,lB b.ref,d,gN,dK]<;>rfl|some o=>obtain⟨h1,h2,h3,h4,h5,h6⟩:=dS hw b d;simp(disch:=first|omega|simp only[kS];omega)only[aQ,bw,cI,lB b.ref,d,gN,QL,vS,Int.reduceEq,eP,dK]<;>rfl
def ana(a:At w at_)(hw:gu p w)(b:cC p w.aW.length u):F128 n (w,at_,left,u,())=Z ((dK w at_ (bT w at_) (HB w at_ left u),()),()):=by
 obtain⟨a1,a2,a3,i⟩:=a;unfold F128 J6 xL HB;cases d:gM w u 6 with
 |none=>simp(disch:=omega)only[aQ,bw,cI,lB b.ref,d,gN,dK]<;>rfl
 |some o=>
  obtain⟨h1,h2,h3,h4,h5,h6⟩:=dS hw b d;dsimp only;by_cases e:o.N=0
  .simp (disch:=omega)only[aQ,bw,cI,lB b.ref,d,gN,bJ e,dK]<;>rfl
  .by_cases g:o.N=1
   .have j:0<o.bH.length:=by cases h2<;>first|(cases h1;done)|exact Nat.one_pos|exact absurd rfl e|(dsimp only at g;omega)
    simp(disch:=omega)only[aQ,bw,cI,lB b.ref,d,gN,br e,br (show ¬o.N≠1 by omega),vS,Int.reduceEq,eP,dK]<;>rfl
   .simp (disch:=omega)only[aQ,bw,cI,lB b.ref,d,gN,br e,bJ (show o.N≠1 by omega),dK]<;>rfl
def S5(a:At w at_)(hw:gu p w)(g:1<vals.length)(b:cC p w.aW.length (bS vals 0)):F130 n (w,at_,left,22,vals,())=Z ((dK w at_ (bT w at_) (GM w at_ left (bS vals 0) (bS vals 1)),()),()):=by
 obtain⟨a1,a2,a3,i⟩:=a;unfold F130 FC FB o3 AZ GM;cases d:gM w (bS vals 0) 4 with
 |none=>simp(disch:=omega)only[aQ,bw,cI,lB b.ref,d,gN,dK]<;>rfl
 |some o=>
  obtain⟨h1,h2,h3,h4,h5,h6⟩:=dS hw b d;have j:o.bH.length<=4:=by cases h2<;>first|(cases h1;done)|assumption
  dsimp only;by_cases e:4<=o.bH.length
  .simp (disch:=omega)only[aQ,bw,cI,lB b.ref,d,gN,bJ e,dK]<;>rfl
  .simp (disch:=first|omega|simp only[kS];omega)only[aQ,bw,cI,lB b.ref,d,gN,br e,e74,QL,vS,Int.reduceEq,eP,dK]<;>rfl
def S4(a:At w at_)(hw:gu p w)(g:0<vals.length)(d:cC p w.aW.length (bS vals 0)):F130 n (w,at_,left,23,vals,())=Z ((dK w at_ (bT w at_) (GI w at_ left (bS vals 0)),()),()):=by
 obtain⟨a1,a2,a3,i⟩:=a;unfold F130 FC FB o3 AZ GI;cases e:gM w (bS vals 0) 4 with
 |none=>simp(disch:=omega)only[aQ,bw,cI,lB d.ref,e,gN,dK]<;>rfl
 |some o=>
  obtain⟨h1,h2,h3,h4,h5,h6⟩:=dS hw d e;dsimp only;cases b:o.bH with|nil=>simp(disch:=omega)only[aQ,bw,cI,lB d.ref,e,gN,b,dK]<;>rfl|cons v j=>simp(disch:=first|omega|simp only[kS];omega)only[aQ,bw,cI,lB d.ref,e,gN,b,qx,vS,Int.reduceEq,eP,dK]<;>rfl
def ZS(a:At w at_)(hw:gu p w)(h:nd.Op=25):F131 n (w,at_,left,nd,vals,())=Z ((dK w at_ (bT w at_) (inS w at_ left),()),()):=by
 obtain⟨a1,a2,a3,d⟩:=a;have e:=hw.used;have b:=hw.ins;unfold F131 J5 AY AX AW xK inS;cases hi:w.uI with
 |nil=>simp(disch:=omega)only[aQ,bw,cI,hi,dK]<;>rfl
 |cons i l=>
  dsimp only;rw[hi]at b;simp only[fc]at b;by_cases h2:1000000000<=w.Used
  .simp (disch:=first|omega|simp only[kS];omega)only[aQ,bw,cI,hi,e25,bJ h2,dK,lH]<;>rfl
  .simp (disch:=first|omega|simp only[kS];omega)only[aQ,bw,cI,hi,e25,br h2,qx,bF,vS,h,Int.reduceEq,eP,dK]<;>rfl
def Wm(a:At w at_)(hw:gu p w)(h:nd.Op=24)(b:0<vals.length):F131 n (w,at_,left,nd,vals,())=Z ((dK w at_ (bT w at_) (RU w at_ left nd.N (bS vals 0)),()),()):=by
 obtain⟨a1,a2,a3,d⟩:=a;have e:=hw.outs;unfold F131 J5 AY AX AW xK RU;by_cases h1:(bS vals 0).Kind=1
 .by_cases h2:100<=w.gH.length
  .simp (disch:=omega)only[aQ,bw,cI,br (show ¬(bS vals 0).Kind≠1 by omega),bJ h2,dK]<;>rfl
  .simp (disch:=first|omega|simp only[kS];omega)only[aQ,bw,cI,br (show ¬(bS vals 0).Kind≠1 by omega),br h2,QL,vS,h,Int.reduceEq,eP,dK]<;>rfl
 .simp (disch:=omega)only[aQ,bw,cI,bJ h1,dK]<;>rfl
def anb(a:At w at_)(hp:mW p)(hw:gu p w)(d:cC p w.aW.length u):F127 n (p,w,at_,left,u,())=Z ((dK w at_ (bT w at_) (zN p w at_ left u),()),()):=by
 obtain⟨a1,a2,a3,k⟩:=a;have i:=Ox hp hw d;have l:=hw.len;have m:=hw.tl;unfold F127 FD FE Po FF A0 uO J7 FG Pp zN;cases e:gM w u 5 with
 |some o=>
  dsimp only;by_cases g:120<=w.aW.length
  .simp (disch:=omega)only[aQ,bw,cI,lB d.ref,e,gN,QL,bG,vS,bJ g,fR,dK]<;>rfl
  .simp (disch:=first|omega|simp only[kS];omega)only[aQ,bw,cI,lB d.ref,e,gN,QL,bG,Jx,zT,cV,vS,br g,Int.reduceEq,eP,jl,dW,eg,Dw,dK]<;>rfl
 |none=>
  dsimp only;cases j:g8 p w u fu with
  |none=>simp(disch:=first|omega|simp only[kS];omega)only[aQ,bw,cI,lB d.ref,e,gN,QL,S3 d.code d.ref i,j,X1,dK]<;>rfl
  |some b=>
   dsimp only;by_cases q:b.Env.length<=30
   .rw[br (by omega)];by_cases g:120<=w.aW.length
    .simp (disch:=omega)only[aQ,bw,cI,lB d.ref,e,gN,QL,S3 d.code d.ref i,j,X1,bG,vS,bJ g,fR,dK]<;>rfl
    .simp (disch:=first|omega|simp only[kS];omega)only[aQ,bw,cI,lB d.ref,e,gN,QL,S3 d.code d.ref i,j,X1,bG,Jx,zT,cV,vS,br g,Int.reduceEq,eP,jl,dW,eg,Dw,dK]<;>rfl
   .rw[bJ (by omega)];simp(disch:=first|omega|simp only[kS];omega)only[aQ,bw,cI,lB d.ref,e,gN,QL,S3 d.code d.ref i,j,X1,dK]<;>rfl
def anc{b:Int}{env:List aq}(a:At w at_)(hw:gu p w)(hl:left.length<40)(hf:∀g∈left,0<=g.Node∧g.Node<p.aV.length)(t:env.length<=900):Ev (λn=>F125 n (p,w,at_,left,b,env,())) ((dK w at_ (bT w at_) (zQ p w left b env),()),()):=by
 have l:=hw.len;have u:=a;obtain⟨a1,a2,a3,v⟩:=a;have e0:D.dI .i64 (ak left) 1=(left.length:Int)-1:=cV (by simp only[ak];omega) (by simp only[ak];omega);unfold F125 Pq J8 xN zQ;simp only[e0];have e:=λ(R B P:Type)=>@wV p left hf hl R B P _ (λn c=>rfl) left.length (bP _) (λj y q=>by omega);cases hi:ic (λf:au=>(nodeAt p f.Node).Op==26) left with
 |none=>simp only[hi]at e;refine Ev.aP (F:=λn c=>_) (e _ _ _) (λn c=>_) _ (Ev.of_eq λn=>?_);show TL.aj _ _ _=_;simp(disch:=omega)only[aQ,cI,dK]<;>rfl
 |some k=>
  have r:=xj hi;simp only[hi]at e;refine Ev.aP (F:=λn c=>_) (e _ _ _) (λn c=>_) _ (Ev.of_eq λn=>?_);show TL.aj _ _ _=_;dsimp only;have m:(left.take (k+1)).length=k+1:=by rw[zV];omega
  have s:((k:Int)+1).toNat=k+1:=by omega
  by_cases h1:120<=w.aW.length
  .simp (disch:=omega)only[aQ,cI,bJ h1,dK]<;>rfl
  .have i:At (fO w ⟨5,0,[],left.drop k⟩) at_:=⟨a1,a2,a3,by unfold fO;simp only[iq,mZ];show bT w at_<_;omega⟩;have d:=e76 (n:=n) (left:=left.take (k+1)) (node:=b) (env:=env++[tJ w.aW.length]) i (by omega) (by simp;omega);unfold fO at d;rw[br h1];simp(disch:=first|omega|simp only[kS];omega)only[aQ,cI,u0,nA,bF,s,Jx,cV,jl,dW,eg,Dw,e74,d];unfold jf;by_cases h2:30<env.length+1
   .rw[bJ (.inr (by simp only[iq,mZ];omega)),bJ (.inr (by simp only[iq,mZ];omega))];simp only[aQ,dK]<;>rfl
   .rw[br (by rw[m];simp only[iq,mZ];omega),br (by rw[m];simp only[iq,mZ];omega)];simp(disch:=omega)only[aQ,dK]<;>rfl
end
end
section
abbrev aov:=(List aq×Bool×Unit)×Unit
def BW:Option (List aq)->aov
 |some m=>((m,W,()),())
 |none=>(([],J,()),())
def adX(p:aA)(w:aa)(q:aB):Prop:=∀(v:aq),cC p w.aW.length v->wP R178 (w,q,v,()) (BW (iw w q v))
section
variable {p:aA}{w:aa}{left:List au}{f:au}{at_:Int}{v u:aq}{form:Int}
def LH{B P:Type}(d:Nat):∀(qs:List aB)(vs:List aq)(pre:List aB)(b:List aq)(l:List aq),qs.length=vs.length->pre.length=b.length->pre.length+qs.length<=1000->
  (∀q∈qs,adX p w q)->(∀v∈vs,cC p w.aW.length v)->l.length+qt qs<=1000->
  ∀(F:Nat->List aq×Int×Unit->Option (LO (List aq×Int×Unit) (List aq×Bool×Unit) Unit P)),
  (∀n e,F n e=aj (D.bN e.2.1 (ak (pre++qs))) (aC (av e.2.1 (pre++qs)) (aC (av e.2.1 (b++vs)) (ai (R178 n (n-d) (w,@aR aB (pre++qs) (ah e.2.1) aL,@aR aq (b++vs) (ah e.2.1) ax,())) λg=>aj (D.aO g.1.2.1) (Z (LO.ret () ([],J,())))
   (aC (cZ e.1 g.1.1) (Z (LO.next (cP e.1 g.1.1,D.add .i64 e.2.1 1,()))))))) (Z (LO.out 0 e)))->
  eL F (l,(pre.length:Int),()) (match eI w qs vs with
   |some m=>.out 0 (l++m,((pre++qs).length:Int),())
   |none=>.ret () ([],J,()))
 |[],[],pre,b,l,_,_,s,_,_,_,F,i=>by unfold eI;refine .out (Ev.of_eq λn=>?_);rw[i];simp(disch:=omega)only[aQ,iT]<;>rfl
 |q::qs,v::vs,pre,b,l,G,hp,s,t,u,hw,F,i=>by
  unfold qt at hw;simp only[fc]at s;have h1:=t q ez v (u v ez);have z:(pre++q::qs).getD pre.length aL=q:=eV ..;have C:(b++v::vs).getD pre.length ax=v:=by rw[hp];exact eV ..
  unfold eI;cases k:iw w q v with
  |none=>rw[k]at h1;refine .ret ?_;obtain⟨N,h1⟩:=h1 d;refine⟨N,λn r=>?_⟩;have:=h1 n r;simp only at this;show F n _=_;rw[i];simp(disch:=first|omega|simp only[kS];omega)only[aQ,z,C];exact(mJ (λx=>ai x _) this).trans rfl
  |some m=>
   rw[k]at h1;have H:=oH q v m k;have h2:=LH (B:=B) (P:=P) d qs vs (pre++[q]) (b++[v]) (l++m) (by simpa using G) (by simp;omega) (by simp;omega) (λI h=>t I (gJ _ h)) (λK h=>u K (gJ _ h))
    (by simp;omega) F (λn e=>by rw[i];simp only[p8,yq]<;>rfl)
   refine(.next (y:=(l++m,((pre++[q]).length:Int),())) ?_ ?_)
   .obtain ⟨N,h1⟩:=h1 d;refine⟨N,λn r=>?_⟩;have:=h1 n r;simp only at this;show F n _=_;rw[i];simp(disch:=first|omega|simp only[kS];omega)only[aQ,z,C,bF,dW,eg];refine(mJ (λx=>ai x _) this).trans ?_;show TL.aC (cZ l m) (Z (LO.next (l++m,(pre.length:Int)+1,())))=_;rw[QU (by omega)];simp
   .simp only;cases j:eI w qs vs with|none=>rw[j]at h2;exact h2|some L=>rw[j]at h2;simpa only[p8,yq]using h2
theorem kP(n k:Nat):R178 n (k+1)=B178 n (R178 n k):=rfl
def ae6:∀(q:aB),pw q<=1000->∀(hw:gu p w),adX p w q
 |⟨form,n0,text,parts⟩,l,hw=>by
  intro v j;unfold pw at l;unfold iw;by_cases h1:form=1
  .refine wP.step kP λd=>Ev.of_eq λn=>?_;unfold B178;simp only[aQ,h1,fR,BW]<;>rfl
  rw[br h1];by_cases h2:form=2
  .refine wP.step kP λd=>Ev.of_eq λn=>?_;unfold B178;simp(disch:=omega)only[aQ,h2,fR,BW]<;>rfl
  rw[br h2];have cmp:∀u:aq,(if vH v u=W then Z ([]:List aq)else Y)=Y∧D.fA (D.aI v.Kind u.Kind) (D.fA (D.aI v.N u.N) W)=J∨(if vH v u=W then Z ([]:List aq)else Y)=Z []∧D.fA (D.aI v.Kind u.Kind) (D.fA (D.aI v.N u.N) W)=W:=by
   intro u;have:D.fA (D.aI v.Kind u.Kind) (D.fA (D.aI v.N u.N) W)=vH v u:=by rw[AF];rfl
   rw[this];cases vH v u<;>simp
  by_cases h3:form=3
  .rw[bJ h3];refine wP.step kP λd=>Ev.of_eq λn=>?_;unfold B178 A5;obtain⟨b,i⟩|⟨b,i⟩:=cmp (gF n0)<;>rw[b]<;>simp(disch:=omega)only[aQ,h3,e25,i,BW]<;>rfl
  rw[br h3];by_cases h4:form=4
  .rw[bJ h4];refine wP.step kP λd=>Ev.of_eq λn=>?_;unfold B178 A5;obtain⟨b,i⟩|⟨b,i⟩:=cmp (iy (n0==1))<;>rw[b]<;>simp(disch:=omega)only[aQ,h4,aa1,i,BW]<;>rfl
  rw[br h4];by_cases h5:form=5
  .rw[bJ h5];refine wP.step kP λd=>Ev.of_eq λn=>?_;unfold B178 A5;obtain⟨b,i⟩|⟨b,i⟩:=cmp fu<;>rw[b]<;>simp(disch:=omega)only[aQ,h5,QL,i,BW]<;>rfl
  rw[br h5];cases k:gM w v 1 with
  |none=>refine wP.step kP λd=>Ev.of_eq λn=>?_;unfold B178;simp(disch:=omega)only[aQ,lB j.ref,k,gN,BW]<;>rfl
  |some o=>
   dsimp only;obtain⟨_,s,_⟩:=dS hw j k;by_cases r:o.N≠n0∨o.bH.length≠parts.length
   .rw[bJ r];refine wP.step kP λd=>Ev.of_eq λn=>?_;unfold B178;by_cases G:o.N=n0
    .simp (disch:=omega)only[aQ,lB j.ref,k,gN,BW]<;>rfl
    .simp (disch:=omega)only[aQ,lB j.ref,k,gN,BW]<;>rfl
   .rw[br r];have m:=s.vals;have t:parts.length<=qt parts:=aaG parts;refine wP.step kP λd=>?_;have y:=LH (p:=p) (w:=w) (B:=Unit) (P:=Any) d parts o.bH [] [] [] (by omega) rfl (by simp only[w4];omega)
      (λq z=>aaF parts (by omega) hw q z) m (by simp only[w4];omega) _ (λn e=>rfl)
    have C:∀n,B178 n (R178 n (n-d)) (w,⟨form,n0,text,parts⟩,v,())=ai (iter (λe=>aj (D.bN e.2.1 (ak parts)) (aC (av e.2.1 parts) (aC (av e.2.1 o.bH) (ai (R178 n (n-d) (w,@aR aB parts (ah e.2.1) aL,@aR aq o.bH (ah e.2.1) ax,())) λg=>aj (D.aO g.1.2.1) (Z (LO.ret () ([],J,())))
   (aC (cZ e.1 g.1.1) (Z (LO.next (cP e.1 g.1.1,D.add .i64 e.2.1 1,()))))))) (Z (LO.out 0 e))) n ([],0,())) λe=>LO.el e (λ_ h=>Z ((h.1,W,()),())) (λ_ h=>Z (h,())) λ_(_:Any)=>Y:=by intro n;unfold B178;simp(disch:=omega)only[aQ,lB j.ref,k,gN]<;>rfl
    refine Ev.congr C (Ev.aP y (λn e=>_) _ ?_);cases eI w parts o.bH<;>exact Ev.of_eq λn=>rfl
where
 aaG:∀qs:List aB,qs.length<=qt qs
 |[]=>BP _
 |⟨_,_,_,_⟩::qs=>by unfold qt pw;have:=aaG qs;simp only[fc];omega
 aaF:∀(qs:List aB),qt qs<=1000->∀(hw:gu p w),∀q∈qs,adX p w q
 |[],_,_,_,h=>by cases h
 |q::qs,hp,hw,q',h=>by
  unfold qt at hp;rcases eR.1 h with h|h
  .rw[h];exact ae6 q (by omega) hw
  .exact aaF qs (by omega) hw q' h
def am1{q:aB}(b:pw q<=1000)(hw:gu p w){v:aq}(d:cC p w.aW.length v):Ev (λn=>F178 n (w,q,v,())) (BW (iw w q v)):=ae6 q b hw v d 0
abbrev Z12:=List aD×List Int×List dV×List Int×Int×Int×Int×Int×Int×Int×Int×Unit
def flat(d:az):Z12:=(d.1.1,d.1.2,d.1.3,d.1.4,d.1.5,d.2,d.3.1,d.3.2,d.3.3,d.3.4.1,d.3.4.2,())
def EY{P:Type}(a:At w at_)(hw:gu p w)(t:cC p w.aW.length u)(hl:left.length<40){env:List aq}(B:env.length<=30){nd:bp}{z:Z12}
  (F:Nat->Int×Z12×Unit->Option (LO (Int×Z12×Unit) Unit (Z12×Unit) P))
  (l:∀n c,F n c=aj (D.bN c.1 (ak nd.cu)) (aC (av c.1 nd.cu) (ai (F178 n (w,@aR aB nd.cu (ah c.1) aL,u,())) λd=>aj d.1.2.1 (aC (av (D.add .i64 1 c.1) nd.Kids) (aC (cZ env d.1.1) (ai (F76 n (w,at_,left,aR nd.Kids (ah (D.add .i64 1 c.1)) 0,cP env d.1.1,())) λe=>Z (LO.ret (flat e.1.1,()) ()))))
   (Z (LO.next (D.add .i64 c.1 1,c.2))))) (Z (LO.out 0 c))) :
  ∀(qs:List aB)(g:List Int)(pre:List aB)(b:List Int),nd.cu=pre++qs->nd.Kids=b++g->b.length=pre.length+1->g.length=qs.length->pre.length+qs.length<=1000->(∀q∈qs,pw q<=12)->
  eL F ((pre.length:Int),z,()) (.out 0 ((nd.cu.length:Int),z,()))∧mc w left env u qs g=.fail 3∨eL F ((pre.length:Int),z,()) (.ret (flat (dK w at_ (bT w at_) (mc w left env u qs g)),()) ())
 |[],g,pre,b,h1,h2,h3,h4,h5,h6=>by
  have i:nd.cu.length=pre.length:=by rw[h1];simp
  refine .inl ⟨?_,by cases g<;>rfl⟩;rw[i];refine .out (Ev.of_eq λn=>?_);rw[l];simp(disch:=omega)only[aQ,h1,iT]<;>rfl
 |q::qs,[],pre,b,h1,h2,h3,h4,h5,h6=>by simp at h4
 |q::qs,k::g,pre,b,h1,h2,h3,h4,h5,h6=>by
  simp only[fc]at h4 h5;have i:nd.cu.length=pre.length+(qs.length+1):=by rw[h1];simp
  have C:nd.Kids.length=b.length+(g.length+1):=by rw[h2];simp
  have G:nd.cu.getD pre.length aL=q:=by rw[h1];exact eV ..
  have H:nd.Kids.getD (pre.length+1) 0=k:=by rw[h2,<-h3];exact eV ..
  have I:=h6 q ez;have j:=am1 (p:=p) (show pw q<=1000 by omega) hw t;have K:(1+(pre.length:Int)).toNat=pre.length+1:=by omega
  have v:∀n,F n ((pre.length:Int),z,())=ai (F178 n (w,q,u,())) λd=>aj d.1.2.1 (aC (av (D.add .i64 1 pre.length) nd.Kids) (aC (cZ env d.1.1) (ai (F76 n (w,at_,left,aR nd.Kids (ah (D.add .i64 1 pre.length)) 0,cP env d.1.1,())) λe=>Z (LO.ret (flat e.1.1,()) ()))))
   (Z (LO.next (D.add .i64 pre.length 1,z,()))):=by
   intro n;rw[l];simp(disch:=omega)only[aQ,G]<;>rfl
  unfold mc;cases s:iw w q u with
  |none=>
   rw[s]at j;have L:=EY (z:=z) a hw t hl B F l qs g (pre++[q]) (b++[k]) (by rw[h1];simp) (by rw[h2];simp) (by simp;omega) (by omega) (by simp;omega) (λM h=>h6 M (gJ _ h));have y:Ev (λn=>F n ((pre.length:Int),z,())) (.next (((pre++[q]).length:Int),z,())):=by refine Ev.congr v (Ev.ai j (Ev.of_eq λn=>?_));simp(disch:=omega)only[aQ,BW,bF,dW,eg]<;>rfl
   rcases L with⟨O,R⟩|r
   .exact .inl ⟨.next y O,R⟩
   .exact .inr (.next y r)
  |some m=>rw[s]at j;have S:=oH q u m s;dsimp only;refine .inr (.ret ?_);refine Ev.congr v (Ev.ai j (Ev.of_eq λn=>?_));simp(disch:=omega)only[aQ,BW,bF,K,H,e76 a (show left.length<=1000 by omega) (show(env++m).length<=1000 by rw[iq];omega)]<;>rfl
variable {env:List aq}{nd:bp}
def ane(a:At w at_)(hp:mW p)(hw:gu p w)(i:cC p w.aW.length u)(hl:left.length<40)(j:env.length<=30)(hn:Pa p nd)(h:nd.Op=15) :
  Ev (λn=>F124 n (w,at_,left,nd,env,u,())) ((dK w at_ (bT w at_) (mc w left env u nd.cu (nd.Kids.drop 1)),()),()):=by
 obtain⟨g,k⟩:=hn.mat h;obtain⟨b,d⟩:∃b,nd.Kids=[b]++nd.Kids.drop 1:=by cases m:nd.Kids with|nil=>rw[m]at g;simp at g;omega|cons a l=>exact⟨a,rfl⟩
 have r:=λ(P:Type)=>EY (P:=P) (nd:=nd) (z:=([],[],[],[],0,0,0,0,0,0,0,())) a hw i hl j _ (λn c=>rfl) nd.cu (nd.Kids.drop 1) [] [b] rfl d rfl (by rw[KP];omega) (by simp only[w4];omega) (λq s=>(hn.pats q s).1);unfold F124;obtain⟨a1,a2,a3,v⟩:=a;rcases r Any with⟨e,t⟩|e
 .rw[t];refine Ev.aP (F:=λn c=>_) e (λn c=>_) _ (Ev.of_eq λn=>?_);show TL.aC _ _=_;simp(disch:=omega)only[aQ,cI,dK]<;>rfl
 .exact Ev.aP (F:=λn c=>_) e (λn c=>_) _ (Ev.of_eq λn=>rfl)
end
end
section
section
variable {p:aA}{w:aa}{left:List au}{f:au}{at_:Int}{v u:aq}{form:Int}
theorem aaW(n:Int):p.aV.getD n.toNat aN=nodeAt p n:=rfl
abbrev D77(p:aA)(w:aa)(at_:Int)(left:List au)(f:au):Prop:=Ev (λn=>F77 n (p,w,at_,left,f,())) ((dK w at_ (bT w at_) (iI p w at_ left f),()),())
def d77(c:Cx p w left f)(a:At w at_):D77 p w at_ left f:=by
 have nd:=c.nd;have hw:=c.hw;have hp:=c.hp;have s:=c.hw.len;have l:=c.ll;have h1:=nd.lo;have h2:=nd.hi;have u:=c.hf.lo;have v:=c.hf.hi;have m:=c.hf.el;have y:=hp.fl;have e:=a;obtain⟨a1,a2,a3,G⟩:=a;have many:∀k:Int,(nodeAt p f.Node).Op=k->k≠14->k≠15->(nodeAt p f.Node).Kids.length=qR.getD k.toNat 0:=by intro k h z B;have:=nd.many (by omega) (by omega);rwa [h]at this
 obtain⟨k,b⟩:∃k:Nat,(nodeAt p f.Node).Op=k:=⟨_,(zW (by omega)).symm⟩;have q:1<=k:=by omega
 have r:k<=28:=by omega
 unfold D77 iI;simp only[b,FY]
 match k,b,q,r with
 |1,b,_,_=>have b:(nodeAt p f.Node).Op=1:=b;refine Ev.of_eq λn=>?_;unfold F77 rm s4 pW lS lT iA ki cr;simp(disch:=omega)only[aQ,bw,b,e25,cI,dK,fD]<;>rfl
 |2,b,_,_=>have b:(nodeAt p f.Node).Op=2:=b;refine Ev.of_eq λn=>?_;unfold F77 rm s4 pW lS lT iA ki cr;simp(disch:=omega)only[aQ,bw,b,aa1,cI,dK,fD]<;>rfl
 |3,b,_,_=>have b:(nodeAt p f.Node).Op=3:=b;refine Ev.of_eq λn=>?_;unfold F77 rm s4 pW lS lT iA ki cr;simp(disch:=omega)only[aQ,bw,b,QL,cI,dK,fD]<;>rfl
 |4,b,_,_=>
  have b:(nodeAt p f.Node).Op=4:=b;have H:=nd.name b;refine Ev.of_eq λn=>?_;unfold F77 BM rm s4 pW lS lT iA ki cr;simp only;by_cases h3:(nodeAt p f.Node).N<0
  .rw[bJ h3];simp(disch:=omega)only[aQ,bw,b,cV,cI,dK,fD]<;>rfl
  .rw[br h3];by_cases h4:(f.Env.length:Int)<=(nodeAt p f.Node).N
   .rw[bJ h4];simp(disch:=omega)only[aQ,bw,b,cI,dK,fD]<;>rfl
   .rw[br h4];simp(disch:=omega)only[aQ,bw,b,cI,dK,fD]<;>rfl
 |5,b,_,_=>
  have b:(nodeAt p f.Node).Op=5:=b;refine Ev.of_eq λn=>?_;unfold F77 Fm JS Fo BM rm s4 pW lS lT iA ki cr lN;simp only;by_cases h3:120<=w.aW.length
  .rw[bJ h3];simp(disch:=omega)only[aQ,bw,b,cI,dK]<;>rfl
  .rw[br h3];simp(disch:=first|omega|simp only[kS];omega)only[aQ,bw,b,cI,Jx,cV,jl,dW,eg,Dw,dK,fD]<;>rfl
 |6,b,_,_=>have b:(nodeAt p f.Node).Op=6:=b;have d:=c.vl b (by decide);simp[dL]at d;refine Ev.of_eq λn=>?_;unfold F77 gO hJ cr;simp(disch:=omega)only[aQ,bw,b,anf e hp hw (c.val (i:=0) (by omega)) (show left.length<=100 by omega)]<;>rfl
 |7,b,_,_=>have b:(nodeAt p f.Node).Op=7:=b;have d:=c.vl b (by decide);simp[dL]at d;have j:=many _ b (by decide) (by decide);have j:(nodeAt p f.Node).Kids.length=2:=j;refine Ev.of_eq λn=>?_;unfold F77 gO hJ cr;simp(disch:=omega)only[aQ,bw,b,e74,e76 e (show left.length<=1000 by omega) (show(f.Env++[bS f.bH 0]).length<=1000 by simp;omega)]<;>rfl
 |8,b,_,_=>
  have b:(nodeAt p f.Node).Op=8:=b;have d:=c.vl b (by decide);simp[dL]at d;have j:=many _ b (by decide) (by decide);have j:(nodeAt p f.Node).Kids.length=3:=j;refine Ev.of_eq λn=>?_;unfold F77 gO hJ BM rm s4 pW lS lT iA ki cr;simp only;by_cases h3:(bS f.bH 0).Kind=2
  .have:=(c.val (i:=0) (by omega)).TX h3;rw[br (by omega)];simp(disch:=omega)only[aQ,bw,b,cV,e76 e (show left.length<=1000 by omega) (show f.Env.length<=1000 by omega)]<;>rfl
  .rw[bJ h3];simp(disch:=omega)only[aQ,bw,b,cI,dK]<;>rfl
 |9,b,_,_=>have d:=c.vl b (by decide);simp[dL]at d;refine Ev.of_eq λn=>?_;unfold F77 gz gO hJ cr;simp(disch:=omega)only[aQ,bw,b,bG,Wp (left:=left) (op:=((9:Nat):Int)) e (by omega) (c.val (i:=0) (by omega)) (c.val (i:=1) (by omega))]<;>rfl
 |10,b,_,_=>have d:=c.vl b (by decide);simp[dL]at d;refine Ev.of_eq λn=>?_;unfold F77 gz gO hJ cr;simp(disch:=omega)only[aQ,bw,b,bG,Wp (left:=left) (op:=((10:Nat):Int)) e (by omega) (c.val (i:=0) (by omega)) (c.val (i:=1) (by omega))]<;>rfl
 |11,b,_,_=>have d:=c.vl b (by decide);simp[dL]at d;refine Ev.of_eq λn=>?_;unfold F77 gz gO hJ cr;simp(disch:=omega)only[aQ,bw,b,bG,Wp (left:=left) (op:=((11:Nat):Int)) e (by omega) (c.val (i:=0) (by omega)) (c.val (i:=1) (by omega))]<;>rfl
 |12,b,_,_=>have d:=c.vl b (by decide);simp[dL]at d;refine Ev.of_eq λn=>?_;unfold F77 gz gO hJ cr;simp(disch:=omega)only[aQ,bw,b,bG,Wp (left:=left) (op:=((12:Nat):Int)) e (by omega) (c.val (i:=0) (by omega)) (c.val (i:=1) (by omega))]<;>rfl
 |13,b,_,_=>have d:=c.vl b (by decide);simp[dL]at d;refine Ev.of_eq λn=>?_;unfold F77 gz gO hJ cr;simp(disch:=omega)only[aQ,bw,b,bG,Wp (left:=left) (op:=((13:Nat):Int)) e (by omega) (c.val (i:=0) (by omega)) (c.val (i:=1) (by omega))]<;>rfl
 |14,b,_,_=>
  have b:(nodeAt p f.Node).Op=14:=b;refine Ev.of_eq λn=>?_;have C:=yP hp nd;have hf:=c.full;unfold jh at hf;rw[bJ (show(nodeAt p f.Node).Op=14 from b)]at hf;unfold F77 Fl gz JS Fo BM rm s4 pW lS lT iA ki cr lN;simp only;by_cases h3:120<=w.aW.length
  .rw[bJ h3];simp(disch:=omega)only[aQ,bw,b,bG,cI,dK]<;>rfl
  .rw[br h3];simp(disch:=first|omega|simp only[kS];omega)only[aQ,bw,b,bG,cI,Jx,cV,jl,dW,eg,Dw,dK,fD]<;>rfl
 |15,b,_,_=>have b:(nodeAt p f.Node).Op=15:=b;have d:=c.vl b (by decide);simp[dL]at d;unfold F77 gz gO hJ cr;simp(disch:=omega)only[aQ,bw,b,bG];exact Ev.ai (ane e hp hw (c.val (i:=0) (by omega)) l m nd b) (Ev.pure _)
 |16,b,_,_=>have b:(nodeAt p f.Node).Op=16:=b;have d:=c.vl b (by decide);simp[dL]at d;refine Ev.of_eq λn=>?_;unfold F77 xG gz cr;simp(disch:=omega)only[aQ,bw,b,bG,S6 e hw (show 0<f.bH.length by omega)]<;>rfl
 |17,b,_,_=>have b:(nodeAt p f.Node).Op=17:=b;have d:=c.vl b (by decide);simp[dL]at d;refine Ev.of_eq λn=>?_;unfold F77 xG gz cr;simp(disch:=omega)only[aQ,bw,b,bG,Wo e hw (show 0<f.bH.length by omega) (c.val (i:=0) (by omega))]<;>rfl
 |18,b,_,_=>have b:(nodeAt p f.Node).Op=18:=b;have d:=c.vl b (by decide);simp[dL]at d;refine Ev.of_eq λn=>?_;unfold F77 xG gz cr;simp(disch:=omega)only[aQ,bw,b,bG,Wn e hw (show 1<f.bH.length by omega) (c.val (i:=0) (by omega))]<;>rfl
 |19,b,_,_=>have b:(nodeAt p f.Node).Op=19:=b;have d:=c.vl b (by decide);simp[dL]at d;refine Ev.of_eq λn=>?_;unfold F77 gz gO hJ cr;simp(disch:=omega)only[aQ,bw,b,bG,anb e hp hw (c.val (i:=0) (by omega))]<;>rfl
 |20,b,_,_=>have b:(nodeAt p f.Node).Op=20:=b;have d:=c.vl b (by decide);simp[dL]at d;refine Ev.of_eq λn=>?_;unfold F77 gz gO hJ cr;simp(disch:=omega)only[aQ,bw,b,bG,ana e hw (c.val (i:=0) (by omega))]<;>rfl
 |21,b,_,_=>
  have b:(nodeAt p f.Node).Op=21:=b;refine Ev.of_eq λn=>?_;unfold F77 Fk gz Fo BM rm s4 pW lS lT iA ki cr lN;simp only;by_cases h3:120<=w.aW.length
  .rw[bJ h3];simp(disch:=omega)only[aQ,bw,b,bG,cI,QL,vS,fR,dK]<;>rfl
  .rw[br h3];simp(disch:=first|omega|simp only[kS];omega)only[aQ,bw,b,bG,cI,QL,Jx,cV,jl,dW,eg,Dw,vS,Int.reduceEq,if_false,dK,fD]<;>rfl
 |22,b,_,_=>have b:(nodeAt p f.Node).Op=22:=b;have d:=c.vl b (by decide);simp[dL]at d;refine Ev.of_eq λn=>?_;unfold F77 xG gz cr;simp(disch:=omega)only[aQ,bw,b,bG,S5 e hw (show 1<f.bH.length by omega) (c.val (i:=0) (by omega))]<;>rfl
 |23,b,_,_=>have b:(nodeAt p f.Node).Op=23:=b;have d:=c.vl b (by decide);simp[dL]at d;refine Ev.of_eq λn=>?_;unfold F77 xG gz cr;simp(disch:=omega)only[aQ,bw,b,bG,S4 e hw (show 0<f.bH.length by omega) (c.val (i:=0) (by omega))]<;>rfl
 |24,b,_,_=>have b:(nodeAt p f.Node).Op=24:=b;have d:=c.vl b (by decide);simp[dL]at d;refine Ev.of_eq λn=>?_;unfold F77 gz cr;simp(disch:=omega)only[aQ,bw,b,bG,Wm e hw b (show 0<f.bH.length by omega)]<;>rfl
 |25,b,_,_=>have b:(nodeAt p f.Node).Op=25:=b;refine Ev.of_eq λn=>?_;unfold F77 gz cr;simp(disch:=omega)only[aQ,bw,b,bG,ZS e hw b]<;>rfl
 |26,b,_,_=>have b:(nodeAt p f.Node).Op=26:=b;have d:=c.vl b (by decide);simp[dL]at d;refine Ev.of_eq λn=>?_;unfold F77 gz gO hJ BM rm s4 pW lS lT iA ki cr;simp(disch:=omega)only[aQ,bw,b,bG,cI,dK,fD]<;>rfl
 |27,b,_,_=>have b:(nodeAt p f.Node).Op=27:=b;have j:=many _ b (by decide) (by decide);have j:(nodeAt p f.Node).Kids.length=1:=j;unfold F77 gz cr;simp(disch:=omega)only[aQ,bw,b,bG];exact Ev.ai (anc e hw l (λg t=>⟨(c.left g t).1.lo,(c.left g t).1.hi⟩) (by omega)) (Ev.pure _)
 |28,b,_,_=>have b:(nodeAt p f.Node).Op=28:=b;refine Ev.of_eq λn=>?_;unfold F77 gz rm s4 pW lS lT iA ki cr;simp(disch:=omega)only[aQ,bw,b,bG,cI,QL,vS,Int.reduceEq,eP,dK,fD]<;>rfl
 |k+29,b,_,h=>omega
def Au(w:aa):Option (aa×Option aE)->az
 |none=>⟨w,2,aZ⟩
 |some (b,Y)=>⟨b,0,aZ⟩
 |some (b,Z e)=>⟨b,1,e⟩
def T9{l:List au}{g x:au}:(l++[g]).set l.length x=l++[x]:=by rw[List.set_append_right _ _ (bP _),Nat.sub_self];rfl
def d40(hp:mW p)(hw:gu p w)(H:0<=at_)(h1:at_<w.bf.length):Ev (λn=>F40 n (p,w,at_,())) ((Au w (gw p w at_),()),()):=by
 obtain⟨t1,t2,t3⟩:=hw.task _ (bX 0 (show at_.toNat<w.bf.length by omega));have y:=hw.ob t1 t2;change 0<=bT w at_ at t1;change bT w at_<_ at t2;change(cn w (bT w at_)).Form=6 at t3;change gr p _ (cn w (bT w at_))at y;have r:kQ (p,w,at_,())=(bT w at_).toNat:=rfl;have L:Re (p,w,at_,())=av (bT w at_) w.aW:=rfl;unfold gw F40 Rd rq;simp only[L];by_cases k:(cn w (bT w at_)).N=0
 .rw[br (by omega)];by_cases d:(cn w (bT w at_)).Frames=[]
  .rw[bJ d];obtain⟨v,m,z⟩:=EL y t3 k d;have t:s6 (p,w,at_,())=-1:=by unfold s6;simp only[r];simp only[aQ,bw,d];rfl
   refine Ev.of_eq λn=>?_;simp(disch:=first|omega|simp only[kS];omega)only[aQ,r,t,bw,k,d,m,e73,cI,List.getD_cons_zero]<;>rfl
  .rw[br d];obtain⟨l,g,i⟩:∃l g,(cn w (bT w at_)).Frames=l++[g]:=⟨_,_,vo d⟩;obtain⟨q,M,B,C⟩:=yF y t3 k i;have b:=hp.nd q.lo q.hi;have u:(l++[g]).length-1=l.length:=by simp
   have j:(l++[g]).take l.length=l:=KU;have cL:(l++[g]).getD l.length aU=g:=eV ..;have t:s6 (p,w,at_,())=(l.length:Int):=by unfold s6;simp only[r];simp(disch:=omega)only[aQ,bw,i,cV];omega
   have O:=q.lo;have R:=q.hi;have S:g.bH.length<=1000:=by have h1:=q.vl;have h2:=n8 b;have h3:=yP hp b;omega
   unfold V3;simp only[i,u,j,cL];rcases C with m|⟨v,m,z,U⟩
   .simp only[m];by_cases I:(g.bH.length:Int)<jh (nodeAt p g.Node)
    .rw[bJ I];have:=n8 b;have G:=λn=>e76 (n:=n) (w:=w) (at_:=at_) (left:=l++[g]) (node:=(nodeAt p g.Node).Kids.getD g.bH.length 0) (env:=g.Env) ⟨H,h1,t1,t2⟩ (by simp;omega) (by have:=q.el;omega);refine Ev.of_eq λn=>?_;simp(disch:=first|omega|simp only[kS];omega)only[aQ,r,t,bw,k,i,m,cL,yJ,aaW,e75 _ b.lo b.hi,G];unfold jf;split<;>rfl
    .rw[br I];have c:Cx p w l g:=⟨hp,hw,q,by have:=q.vl;omega,B,M⟩;have K:=d77 c ⟨H,h1,t1,t2⟩;unfold D77 at K;simp(disch:=first|omega|simp only[kS];omega)only[aQ,r,t,bw,k,i,m,cL,yJ,aaW,e75 _ b.lo b.hi,nA,j];refine Ev.ai K ?_;cases iI p w at_ l g with|waits=>exact Ev.pure _|fail s=>exact Ev.pure _|go X fr bk e=>cases e<;>exact Ev.pure _
   .simp only[m];refine Ev.of_eq λn=>?_;simp(disch:=first|omega|simp only[kS];omega)only[aQ,r,t,bw,k,i,m,cL,yJ,cI,List.getD_cons_zero,e74,T9]<;>rfl
 .rw[bJ k];refine Ev.of_eq λn=>?_;simp(disch:=omega)only[aQ,r,bw,k]<;>rfl
end
end
section
def yg(p:aA)(at_:Int):Nat->aa->Nat->Option (aa×Nat)
 |0,_,_=>Y
 |k+1,w,s=>match gw p w at_ with
  |some (b,Y)=>if 5000<s+1 then Y else yg p at_ k b (s+1)
  |_=>Z (w,s)
def en(p:aA):Nat->Nat->aa->Nat->Option (aa×Nat)
 |0,_,w,s=>Z (w,s)
 |m+1,i,w,s=>match yg p i 5002 w s with
  |none=>Y
  |some (b,d)=>en p m (i+1) b d
section
variable {p:aA}{w:aa}{at_:Int}
def yf(hp:mW p):∀(k:Nat)(w:aa)(s:Nat)(w':aa)(s':Nat),gu p w->0<=at_->at_<w.bf.length->yg p at_ k w s=Z (w',s')->gu p w'∧w'.bf=w.bf∧s<=s'∧(s'<=s∨s'<=5000)
 |0,w,s,w',s',hw,g,h1,h=>by cases h
 |k+1,w,s,w',s',hw,g,h1,h=>by
  unfold yg at h;cases i:gw p w at_ with
  |none=>rw[i]at h;cases h;exact⟨hw,rfl,bP _,.inl (bP _)⟩
  |some r=>
   obtain⟨l,e⟩:=r;rw[i]at h;cases e with
   |some e=>cases h;exact⟨hw,rfl,bP _,.inl (bP _)⟩
   |none=>
    obtain⟨m,t,q⟩:=mI hp hw g h1 i;have j:=q rfl;simp only at h;split at h
    .cases h
    .rename_i h5;obtain⟨a,b,c,d⟩:=yf hp k l (s+1) w' s' m g (by rw[j];exact h1) h;exact⟨a,b.trans j,by omega,by omega⟩
def Db(hp:mW p):∀(m i:Nat)(w:aa)(s:Nat)(w':aa)(s':Nat),gu p w->i+m<=w.bf.length->en p m i w s=Z (w',s')->gu p w'∧w'.bf=w.bf∧s<=s'∧(s'<=s∨s'<=5000)
 |0,i,w,s,w',s',hw,hi,h=>by cases h;exact⟨hw,rfl,bP _,.inl (bP _)⟩
 |m+1,i,w,s,w',s',hw,hi,h=>by
  unfold en at h;split at h
  .cases h
  .rename_i e g j;obtain⟨a,b,c,d⟩:=yf hp _ w s e g hw (by omega) (by omega) j;obtain⟨k,l,q,r⟩:=Db hp m (i+1) e g w' s' a (by rw[b];omega) h;exact⟨k,l.trans b,by omega,by omega⟩
def KI(hp:mW p)(F:Nat->Int×RB×Unit->Option (LO (Int×RB×Unit) (Int×Bool×Unit) (RB×Unit) Any))
  (l:∀n d,F n d=ai (F70 n (d.2.1,at_,())) λe=>ai (F71 n e.1) λg=>aj (D.aO (D.aI g.1.1 0)) (Z (LO.out 0 d)) (aj (D.bN 5000 (D.add .i64 d.1 1)) (Z (LO.ret d.2 (0,J,()))) (Z (LO.next (D.add .i64 d.1 1,e.2))))) :
  ∀(k:Nat)(w:aa)(s:Nat),gu p w->0<=at_->at_<w.bf.length->s<=5001->5002<=k+s->
  (∃w' s',yg p at_ k w s=Z (w',s')∧eL F ((s:Int),rb p w,()) (.out 0 ((s':Int),rb p w',())))∨
  (yg p at_ k w s=Y∧∃R,eL F ((s:Int),rb p w,()) (.ret R (0,J,())))
 |0,w,s,hw,m,h1,u,v=>by omega
 |k+1,w,s,hw,m,h1,u,v=>by
  have j:=e70 hp hw m h1;unfold yg;cases i:gw p w at_ with
  |none=>rw[i]at j;refine .inl ⟨w,s,rfl,.out ?_⟩;refine Ev.congr (λn=>l n _) (Ev.ai j (Ev.of_eq λn=>?_));simp(disch:=omega)only[aQ,KA,agQ]<;>rfl
  |some r=>
   obtain⟨q,e⟩:=r;rw[i]at j;cases e with
   |some e=>refine .inl ⟨w,s,rfl,.out ?_⟩;refine Ev.congr (λn=>l n _) (Ev.ai j (Ev.of_eq λn=>?_));simp(disch:=omega)only[aQ,KA,ZM]<;>rfl
   |none=>
    obtain⟨y,C,z⟩:=mI hp hw m h1 i;have B:=z rfl;simp only;by_cases h5:5000<s+1
    .rw[bJ h5];refine .inr ⟨rfl,(rb p w,()),.ret ?_⟩;refine Ev.congr (λn=>l n _) (Ev.ai j (Ev.of_eq λn=>?_));simp(disch:=omega)only[aQ,KA,ZM,bF]<;>rfl
    .rw[br h5];have t:Ev (λn=>F n ((s:Int),rb p w,())) (.next (((s+1:Nat):Int),rb p q,())):=by refine Ev.congr (λn=>l n _) (Ev.ai j (Ev.of_eq λn=>?_));simp(disch:=omega)only[aQ,KA,ZM,bF,dW,eg]<;>rfl
     rcases KI hp F l k q (s+1) y m (by rw[B];exact h1) (by omega) (by omega)with⟨w',s',a,b⟩|⟨a,R,b⟩
     .exact .inl ⟨w',s',a,.next t b⟩
     .exact .inr ⟨a,R,.next t b⟩
theorem ec{X R B P α:Type}(j:Nat)(x:X)(f:Nat->X->Option α)(g:B->R->Option α)(h:B->P->Option α):LO.el (.out j x) f g h=f j x:=rfl
theorem oS{X R B P α:Type}(b:B)(r:R)(f:Nat->X->Option α)(g:B->R->Option α)(h:B->P->Option α):LO.el (.ret b r) f g h=g b r:=rfl
theorem Vs{X R B P α:Type}(b:B)(r:R)(e:X->Option α)(f:Nat->X->Option α)(g:B->R->Option α)(h:B->P->Option α):LO.jn (.ret b r) e f g h=g b r:=rfl
def A8(hp:mW p){N0:Nat}(F:Nat->Int×Int×RB×Unit->Option (LO (Int×Int×RB×Unit) (Int×Bool×Unit) (RB×Unit) Any))
  (j:∀n c,F n c=aj (D.bN c.2.1 (N0:Int)) (ai (iter (λd:Int×RB×Unit=>ai (F70 n (d.2.1,c.2.1,())) λe=>ai (F71 n e.1) λg=>aj (D.aO (D.aI g.1.1 0)) (Z (LO.out 0 d)) (aj (D.bN 5000 (D.add .i64 d.1 1)) (Z (LO.ret (P:=Any) d.2 (0,J,()))) (Z (LO.next (D.add .i64 d.1 1,e.2))))) n (c.1,c.2.2)) λd=>LO.el d (λ_ g=>Z (LO.next (g.1,D.add .i64 c.2.1 1,g.2))) (λe g=>Z (LO.ret e g)) λ_ _=>Y) (Z (LO.out 0 c))) :
  ∀(m i:Nat)(w:aa)(s:Nat),gu p w->i+m=N0->N0=w.bf.length->s<=5001->
  (∃w' s',en p m i w s=Z (w',s')∧eL F ((s:Int),(i:Int),rb p w,()) (.out 0 ((s':Int),(N0:Int),rb p w',())))∨
  (en p m i w s=Y∧∃R,eL F ((s:Int),(i:Int),rb p w,()) (.ret R (0,J,())))
 |0,i,w,s,hw,hi,q,r=>by
  refine .inl ⟨w,s,rfl,?_⟩;have:i=N0:=by omega
  subst this;refine .out (Ev.of_eq λn=>?_);rw[j];simp(disch:=omega)only[aQ]<;>rfl
 |m+1,i,w,s,hw,hi,q,r=>by
  have B:=hw.tl;have u:=hw.len;unfold en;rcases KI (at_:=(i:Int)) hp _ (λn d=>rfl) 5002 w s hw (by omega) (by omega) r (by omega)with⟨k,l,a,b⟩|⟨a,R,b⟩
  .rw[a];simp only;obtain⟨v,z,C,G⟩:=yf hp _ w s k l hw (by omega) (by omega) a;have t:Ev (λn=>F n ((s:Int),(i:Int),rb p w,())) (.next ((l:Int),((i+1:Nat):Int),rb p k,())):=by refine Ev.congr (λn=>(j n _).trans (mX (by simp only;omega) _ _)) ?_;refine Ev.aP b (λn c=>_) _ (Ev.of_eq λn=>?_);rw[ec];simp(disch:=omega)only[aQ,bF,dW,eg]
   rcases A8 hp F j m (i+1) k l v (by omega) (by rw[z];exact q) (by omega)with⟨w',s',x,y⟩|⟨x,R,y⟩
   .exact .inl ⟨w',s',x,.next t y⟩
   .exact .inr ⟨x,R,.next t y⟩
  .rw[a];refine .inr ⟨rfl,R,.ret ?_⟩;refine Ev.congr (λn=>(j n _).trans (mX (by simp only;omega) _ _)) ?_;refine Ev.aP b (λn c=>_) _ (Ev.of_eq λn=>?_);rw[oS]
variable {N0 s:Nat}
def e50(hp:mW p)(hw:gu p w)(hs:s<=5001) :
  (∃w' s',en p w.bf.length 0 w s=Z (w',s')∧Ev (λn=>F50 n (rb p w,(s:Int),())) (((s':Int),W,()),rb p w',()))∨
  (en p w.bf.length 0 w s=Y∧∃R,Ev (λn=>F50 n (rb p w,(s:Int),())) ((0,J,()),R)):=by
 unfold F50;rcases A8 hp (N0:=w.bf.length) _ (λn c=>rfl) w.bf.length 0 w s hw (by omega) rfl hs with⟨w',s',a,b⟩|⟨a,R,b⟩
 .exact .inl ⟨w',s',a,Ev.aP (F:=λn c=>_) b (λn c=>_) _ (Ev.of_eq λn=>rfl)⟩
 .exact .inr ⟨a,R,Ev.aP (F:=λn c=>_) b (λn c=>_) _ (Ev.of_eq λn=>rfl)⟩
abbrev Z5:=List aD×List Int×List dV×List Int×Int×Unit
abbrev w5(w:aa):Z5:=(w.aW,w.bf,w.gH,w.uI,w.Used,())
def Mz(hp:mW p){z:Z5}(F:Nat->Int×Z5×Z5×Z12×Unit->Option (LO (Int×Z5×Z5×Z12×Unit) (Int×Bool×Unit) (Z5×Z5×Z12×Unit) Any))
  (i:∀n e,F n e=aj (D.aI e.2.2.2.1.2.2.2.2.2.1 0) (aj (D.bN 5000 (D.add .i64 e.1 1)) (Z (LO.ret (e.2.1,e.2.1,e.2.2.2) (D.add .i64 e.1 1,J,()))) (ai (F40 n (p,aa.mk e.2.2.2.1.1 e.2.2.2.1.2.1 e.2.2.2.1.2.2.1 e.2.2.2.1.2.2.2.1 e.2.2.2.1.2.2.2.2.1,at_,())) λg=>Z (LO.next (D.add .i64 e.1 1,(e.2.2.2.1.1,e.2.2.2.1.2.1,e.2.2.2.1.2.2.1,e.2.2.2.1.2.2.2.1,e.2.2.2.1.2.2.2.2.1,()),e.2.2.1,Im g)))) (Z (LO.out 0 e))) :
  ∀(k:Nat)(w:aa)(s:Nat),gu p w->0<=at_->at_<w.bf.length->s<=5001->5002<=k+s->
  (∃w' s' q,yg p at_ k w s=Z (w',s')∧eL F ((s:Int),w5 w,z,flat (Au w (gw p w at_)),()) (.out 0 ((s':Int),w5 w',z,q,())))∨
  (yg p at_ k w s=Y∧∃R s',eL F ((s:Int),w5 w,z,flat (Au w (gw p w at_)),()) (.ret R (s',J,())))
 |0,w,s,hw,j,h1,v,y=>by omega
 |k+1,w,s,hw,j,h1,v,y=>by
  unfold yg;cases l:gw p w at_ with
  |none=>refine .inl ⟨w,s,flat (Au w Y),rfl,.out (Ev.of_eq λn=>?_)⟩;rw[i];simp(disch:=omega)only[aQ,flat,Au]<;>rfl
  |some r=>
   obtain⟨d,e⟩:=r;cases e with
   |some e=>refine .inl ⟨w,s,flat (Au w (Z (d,Z e))),rfl,.out (Ev.of_eq λn=>?_)⟩;rw[i];simp(disch:=omega)only[aQ,flat,Au]<;>rfl
   |none=>
    obtain⟨m,G,B⟩:=mI hp hw j h1 l;have t:=B rfl;simp only;by_cases h5:5000<s+1
    .rw[bJ h5];refine .inr ⟨rfl,(w5 w,w5 w,flat (Au w (Z (d,Y))),()),((s+1:Nat):Int),.ret (Ev.of_eq λn=>?_)⟩;rw[i];simp(disch:=omega)only[aQ,flat,Au,bF,dW,eg]<;>rfl
    .rw[br h5];have C:=d40 hp m j (show at_<d.bf.length by rw[t];exact h1);have u:Ev (λn=>F n ((s:Int),w5 w,z,flat (Au w (Z (d,Y))),())) (.next (((s+1:Nat):Int),w5 d,z,flat (Au d (gw p d at_)),())):=by
      refine Ev.congr (g:=λn=>ai (F40 n (p,d,at_,())) λg=>Z (LO.next ((s:Int)+1,w5 d,z,Im g))) (λn=>?_) (Ev.ai C (Ev.of_eq λn=>?_))
      .rw[i];simp(disch:=omega)only[aQ,flat,Au,bF,dW,eg]<;>rfl
      .simp only[dW,eg];rfl
     rcases Mz hp F i k d (s+1) m j (by rw[t];exact h1) (by omega) (by omega)with⟨w',s',q,a,b⟩|⟨a,R,s',b⟩
     .exact .inl ⟨w',s',q,a,.next u b⟩
     .exact .inr ⟨a,R,s',.next u b⟩
def HS(hp:mW p){N0:Nat}{z:Z5}(F:Nat->Int×Int×Z5×Z5×Unit->Option (LO (Int×Int×Z5×Z5×Unit) (Int×Bool×Unit) (Z5×Z5×Unit) Any))
  (k:∀n c,F n c=aj (D.bN c.2.1 (ak c.2.2.1.2.1)) (ai (F40 n (p,Xp c,c.2.1,())) λd=>ai (iter (λe:Int×Z5×Z5×Z12×Unit=>aj (D.aI e.2.2.2.1.2.2.2.2.2.1 0) (aj (D.bN 5000 (D.add .i64 e.1 1)) (Z (LO.ret (P:=Any) (e.2.1,e.2.1,e.2.2.2) (D.add .i64 e.1 1,J,()))) (ai (F40 n (p,aa.mk e.2.2.2.1.1 e.2.2.2.1.2.1 e.2.2.2.1.2.2.1 e.2.2.2.1.2.2.2.1 e.2.2.2.1.2.2.2.2.1,c.2.1,())) λg=>Z (LO.next (D.add .i64 e.1 1,(e.2.2.2.1.1,e.2.2.2.1.2.1,e.2.2.2.1.2.2.1,e.2.2.2.1.2.2.2.1,e.2.2.2.1.2.2.2.2.1,()),e.2.2.1,Im g)))) (Z (LO.out 0 e))) n (c.1,c.2.2.1,c.2.2.2.1,Im d)) λe=>LO.el e (λ_ h=>Z (LO.next (h.1,D.add .i64 c.2.1 1,h.2.1,h.2.2.1,()))) (λg h=>Z (LO.ret (g.1,g.2.1,()) h)) λ_ _=>Y) (Z (LO.out 0 c))) :
  ∀(m i:Nat)(w:aa)(s:Nat),gu p w->i+m=N0->N0=w.bf.length->s<=5001->
  (∃w' s',en p m i w s=Z (w',s')∧eL F ((s:Int),(i:Int),w5 w,z,()) (.out 0 ((s':Int),(N0:Int),w5 w',z,())))∨
  (en p m i w s=Y∧∃R s',eL F ((s:Int),(i:Int),w5 w,z,()) (.ret R (s',J,())))
 |0,i,w,s,hw,hi,r,t=>by
  refine .inl ⟨w,s,rfl,?_⟩;have:i=N0:=by omega
  subst this;refine .out (Ev.of_eq λn=>?_);rw[k];simp(disch:=omega)only[aQ]<;>rfl
 |m+1,i,w,s,hw,hi,r,t=>by
  have H:=hw.tl;have B:=hw.len;have u:=d40 (at_:=(i:Int)) hp hw (by omega) (by omega);unfold en;rcases Mz (at_:=(i:Int)) (z:=z) hp _ (λn d=>rfl) 5002 w s hw (by omega) (by omega) t (by omega)with⟨l,j,q,a,b⟩|⟨a,R,j,b⟩
  .rw[a];simp only;obtain⟨C,G,I,K⟩:=yf hp _ w s l j hw (by omega) (by omega) a;have v:Ev (λn=>F n ((s:Int),(i:Int),w5 w,z,())) (.next ((j:Int),((i+1:Nat):Int),w5 l,z,())):=by refine Ev.congr (λn=>(k n _).trans (mX (by simp only[ak];omega) _ _)) ?_;refine Ev.ai u ?_;refine Ev.aP b (λn c=>_) _ (Ev.of_eq λn=>?_);rw[ec];simp(disch:=omega)only[aQ,bF,dW,eg]
   rcases HS (N0:=N0) (z:=z) hp F k m (i+1) l j C (by omega) (by rw[G];exact r) (by omega)with⟨w',s',x,y⟩|⟨x,R,s',y⟩
   .exact .inl ⟨w',s',x,.next v y⟩
   .exact .inr ⟨x,R,s',.next v y⟩
  .rw[a];refine .inr ⟨rfl,(R.1,R.2.1,()),j,.ret ?_⟩;refine Ev.congr (λn=>(k n _).trans (mX (by simp only[ak];omega) _ _)) ?_;refine Ev.ai u ?_;refine Ev.aP b (λn c=>_) _ (Ev.of_eq λn=>?_);rw[oS]
def e33(hp:mW p)(hw:gu p w)(hs:s<=5001) :
  (∃w' s',en p w.bf.length 0 w s=Z (w',s')∧Ev (λn=>F33 n (p,w,(s:Int),())) ((w',(s':Int),W,()),()))∨
  (en p w.bf.length 0 w s=Y∧∃w' s',Ev (λn=>F33 n (p,w,(s:Int),())) ((w',s',J,()),())):=by
 unfold F33;rcases HS hp (N0:=w.bf.length) (z:=([],[],[],[],0,())) _ (λn c=>rfl) w.bf.length 0 w s hw (by omega) rfl hs with⟨w',s',a,b⟩|⟨a,R,s',b⟩
 .exact .inl ⟨w',s',a,Ev.aP (F:=λn c=>_) b (λn c=>_) _ (Ev.of_eq λn=>rfl)⟩
 .exact .inr ⟨a,_,s',Ev.aP (F:=λn c=>_) b (λn c=>_) _ (Ev.of_eq λn=>rfl)⟩
end
end
section
section
variable {n:Nat}{p:aA}{w:aa}{at_:Int}
theorem e49(l:List Int):F49 n (l,())=Z ((l,()),()):=rfl
theorem e90(l:List dV):F90 n (l,())=Z ((l,()),()):=rfl
theorem e92(k:Int):F92 n (k,())=Z ((k,()),()):=rfl
variable {i:Nat}{o:aD}
def KE{α:Type}{l:List α}{d x:α}(h:i<l.length)(b:x=l.getD i d):l.set i x=l:=by subst b;rw[j6,fP h];exact List.set_getElem_self h
theorem amO(v:au):au.mk v.Node v.Env v.bH=v:=rfl
def Aw{l:List aq}(hl:l.length<=1000):Ev (λn=>s5 n ((l,()),())) (.out 0 (l,(l.length:Int),())):=by
 unfold s5;refine Ev.iter (F:=λn c=>_) (j9 (s:=λi=>(l,(i:Int),())) l.length 0 (λi hi=>Ev.of_eq λn=>?_) (Ev.of_eq λn=>?_))
 .by_cases h5:(l.getD i ax).Kind=5
  .simp (disch:=omega)only[aQ,h5,e92,bF,dW,eg];rw[KE hi (by rw[<-h5])]
  .simp (disch:=omega)only[aQ,h5,bF,dW,eg]<;>rfl
 .simp (disch:=omega)only[aQ]<;>rfl
def MA{l:List au}{a b:Int}{vs:List aq}(hl:l.length<=1000)(hf:∀g∈l,g.Env.length<=1000∧g.bH.length<=1000)(F:Nat->Int×(Int×Int×List aq×List au×Unit)×Unit->Option (LO (Int×(Int×Int×List aq×List au×Unit)×Unit) Unit ((Int×Int×List aq×List au×Unit)×Unit) Any))
  (d:∀n m,F n m=aj (D.bN m.1 (ak l)) (aC (av m.1 m.2.1.2.2.2.1) (aC (ct (ah m.1) m.2.1.2.2.2.1) (ai (F159 n ((wL m).2,())) λo=>ai (s5 n o) λp=>LO.el p (λ_ r=>Rc n m r) (λ_ r=>Rb n m r) λ_ _=>Y))) (Z (LO.out 0 m))) :
  eL F (0,(a,b,vs,l,()),()) (.out 0 ((l.length:Int),(a,b,vs,l,()),())):=by
 refine j9 (s:=λi=>((i:Int),(a,b,vs,l,()),())) l.length 0 (λi hi=>?_) (Ev.of_eq λn=>?_)
 .have e:=hf _ (bX aU hi);refine Ev.congr (g:=λn=>ai (s5 n (((l.getD i aU).Env,()),())) λp=>LO.el p (λ_ r=>Rc n ((i:Int),(a,b,vs,l,()),()) r) (λ_ r=>Rb n ((i:Int),(a,b,vs,l,()),()) r) λ_ _=>Y) (λn=>?_) ?_
  .rw[d];simp(disch:=omega)only[aQ]<;>rfl
  .refine Ev.ai (Aw e.1) ?_;refine Ev.congr (g:=λn=>ai (s5 n (((l.getD i aU).bH,()),())) λt=>LO.el t (λ_ v=>Xo n ((i:Int),(a,b,vs,l,()),()) ((l.getD i aU).Env,((l.getD i aU).Env.length:Int),()) v) (λ_ v=>abe n ((i:Int),(a,b,vs,l,()),()) ((l.getD i aU).Env,((l.getD i aU).Env.length:Int),()) v) λ_ _=>Y) (λn=>rfl) ?_;refine Ev.ai (Aw e.2) (Ev.of_eq λn=>?_);rw[ec];unfold Xo wL;simp(disch:=omega)only[aQ,bF,dW,eg,amO];rw[KE hi rfl]
 .rw[d];simp(disch:=omega)only[aQ]<;>rfl
def gr.small(hp:mW p){k:Nat}(h:gr p k o):o.bH.length<=1000∧o.Frames.length<=1000∧∀g∈o.Frames,g.Env.length<=1000∧g.bH.length<=1000:=by
 have fr:∀{g:au},eG p k g->g.Env.length<=1000∧g.bH.length<=1000:=by intro g i;have h1:=i.vl;have j:=hp.nd i.lo i.hi;have h2:=n8 j;have h3:=yP hp j;have:=i.el;omega
 cases h with
 | @data n l a b c d=>have:=(hp.cons _ (bX bx (show n.toNat<p.Cons.length by omega))).2;exact⟨by simp only;omega,by simp,by simp⟩
 |func a b c d e=>exact⟨by simp only;omega,by simp,by simp⟩
 |cell a=>exact⟨by simp,by simp,by simp⟩
 |chan a b=>exact⟨by simp only;omega,by simp,by simp⟩
 |BZ a b c=>exact⟨by simp,by simp only[fc];omega,λg i=>fr (b g i).1⟩
 |vQ a b c=>
  refine⟨by simp,by simp;omega,λg i=>?_⟩;rcases dY.1 i with i|i
  .exact fr (b g i).1
  .rw[kX.1 i];exact fr c
 |back a b c=>exact⟨by simp,by simp only;omega,λg i=>fr (b g i).1⟩
 |done a=>exact⟨by simp,by simp,by simp⟩
 |dead a=>exact⟨by simp,by simp,by simp⟩
def take_succ{α:Type}{l:List α}(d:α)(h:i<l.length):l.take i++[l.getD i d]=l.take (i+1):=by rw[j6,fP h,UL h];rfl
theorem amN(o:aD):aD.mk o.Form o.N o.bH o.Frames=o:=rfl
def e51(hp:mW p)(hw:gu p w):Ev (λn=>F51 n (rb p w,())) ((w,()),rb p w,()):=by
 have l:=hw.len;have d:eL (λn g=>aj (D.bN g.1 (ak w.aW)) (aC (av g.1 w.aW) (ai (F159 n ((zE (rb p w,()) g).3,())) λh=>ai (s5 n h) λi=>LO.el i (λ_ k=>JU n (rb p w,()) g k) (λ_ k=>Pc n (rb p w,()) g k) λ_ _=>Y)) (Z (LO.out 0 g)))
   (0,([],w.bf,w.gH,w.uI,w.Used,()),()) (.out 0 ((w.aW.length:Int),(w.aW.take w.aW.length,w.bf,w.gH,w.uI,w.Used,()),())):=by
  refine j9 (s:=λi=>((i:Int),(w.aW.take i,w.bf,w.gH,w.uI,w.Used,()),())) w.aW.length 0 (λi hi=>?_) (Ev.of_eq λn=>?_)
  .have e:=(hw.obs _ (bX aT hi)).small hp;obtain⟨h1,h2,h3⟩:=e;refine Ev.congr (g:=λn=>ai (s5 n (((w.aW.getD i aT).bH,()),())) λk=>LO.el k (λ_ k=>JU n (rb p w,()) ((i:Int),(w.aW.take i,w.bf,w.gH,w.uI,w.Used,()),()) k) (λ_ k=>Pc n (rb p w,()) ((i:Int),(w.aW.take i,w.bf,w.gH,w.uI,w.Used,()),()) k) λ_ _=>Y) (λn=>?_) ?_
   .simp (disch:=omega)only[aQ]<;>rfl
   .refine Ev.ai (Aw h1) ?_;refine Ev.congr (λn=>ec ..) ?_;unfold JU;have j:zE (rb p w,()) ((i:Int),(w.aW.take i,w.bf,w.gH,w.uI,w.Used,()),())=w.aW.getD i aT:=rfl;simp only[j];refine Ev.ai (Ev.of_eq λn=>ZR (w.aW.getD i aT).Frames) ?_;refine Ev.aP (MA (a:=(w.aW.getD i aT).Form) (b:=(w.aW.getD i aT).N) (vs:=(w.aW.getD i aT).bH) h2 h3 _ (λn m=>rfl)) (λn m=>_) _ (Ev.of_eq λn=>?_);rw[ec];simp(disch:=first|omega|simp only[kS];omega)only[aQ,bF,dW,eg,amN];rw[take_succ aT hi]
  .simp (disch:=omega)only[aQ]<;>rfl
 unfold F51;refine Ev.ai (Ev.of_eq λn=>e49 w.bf) (Ev.ai (Ev.of_eq λn=>e90 w.gH) (Ev.ai (Ev.of_eq λn=>e49 w.uI) ?_));refine Ev.aP d (λn m=>_) _ (Ev.of_eq λn=>?_);rw[ec];simp only[BT]
def qA{R B P:Type}(len:Nat)(hl:len<=1000000){F:Nat->Int×Unit->Option (LO (Int×Unit) R B P)}(h:∀i,i<len->Ev (λn=>F n ((i:Int),())) (.next (((i+1:Nat):Int),())))(b:∀n,F n ((len:Int),())=Z (.out 0 ((len:Int),()))) :
  eL F (0,()) (.out 0 ((len:Int),())):=j9 (s:=λi=>((i:Int),())) len 0 h (Ev.of_eq b)
def e26{l:List Int}(hl:l.length<=1000):Ev (λn=>F26 n (l,l,())) ((W,()),()):=by
 unfold F26;simp only[aQ];refine Ev.aP (F:=λn c=>_) (qA l.length (by omega) (λi hi=>Ev.of_eq λn=>?_) λn=>?_) (λn c=>_) _ (Ev.of_eq λn=>rfl)
 .simp (disch:=omega)only[aQ,bF,dW,eg]<;>rfl
 .simp (disch:=omega)only[aQ]<;>rfl
def e27{l:List dV}(hl:l.length<=1000):Ev (λn=>F27 n (l,l,())) ((W,()),()):=by
 unfold F27;simp only[aQ];refine Ev.aP (F:=λn c=>_) (qA l.length (by omega) (λi hi=>Ev.of_eq λn=>?_) λn=>?_) (λn c=>_) _ (Ev.of_eq λn=>rfl)
 .simp (disch:=omega)only[aQ,JH,AF,bF,dW,eg]<;>rfl
 .simp (disch:=omega)only[aQ]<;>rfl
def e98{l:List aq}(hl:l.length<=1000):Ev (λn=>F98 n (l,l,())) ((W,()),()):=by
 unfold F98;simp only[aQ];refine Ev.aP (F:=λn c=>_) (qA l.length (by omega) (λi hi=>Ev.of_eq λn=>?_) λn=>?_) (λn c=>_) _ (Ev.of_eq λn=>rfl)
 .simp (disch:=omega)only[aQ,JH,AF,bF,dW,eg]<;>rfl
 .simp (disch:=omega)only[aQ]<;>rfl
def e57(h1:o.bH.length<=1000)(h2:o.Frames.length<=1000)(h3:∀g∈o.Frames,g.Env.length<=1000∧g.bH.length<=1000):Ev (λn=>F57 n (o,o,())) ((W,()),()):=by
 unfold F57;simp only[aQ];refine Ev.ai (e98 h1) ?_;simp only[aQ];refine Ev.aP (F:=λn c=>_) (qA o.Frames.length (by omega) (λi hi=>?_) λn=>?_) (λn c=>_) _ (Ev.of_eq λn=>rfl)
 .have b:=h3 _ (bX aU hi);simp(disch:=omega)only[aQ];refine Ev.ai (e98 b.1) ?_;simp only[aQ];refine Ev.ai (e98 b.2) (Ev.of_eq λn=>?_);simp(disch:=omega)only[aQ,bF,dW,eg]<;>rfl
 .simp (disch:=omega)only[aQ]<;>rfl
def e19(hp:mW p)(hw:gu p w):Ev (λn=>F19 n (w,w,())) ((W,()),()):=by
 have b:=hw.len;have d:=hw.tl;have e:=hw.outs;have hi:=hw.ins;unfold F19;simp only[aQ];refine Ev.ai (e26 (by omega)) ?_;simp only[aQ];refine Ev.ai (e27 (by omega)) ?_;simp only[aQ];refine Ev.ai (e26 (by omega)) ?_;simp only[aQ];refine Ev.aP (F:=λn c=>_) (qA w.aW.length (by omega) (λi hi=>?_) λn=>?_) (λn c=>_) _ (Ev.of_eq λn=>rfl)
 .obtain ⟨h1,h2,h3⟩:=(hw.obs _ (bX aT hi)).small hp;simp(disch:=omega)only[aQ];refine Ev.ai (e57 h1 h2 h3) (Ev.of_eq λn=>?_);simp(disch:=omega)only[aQ,bF,dW,eg]<;>rfl
 .simp (disch:=omega)only[aQ]<;>rfl
end
end
section
section
def IW:∀q:aB,1<=pw q
 |⟨_,_,_,_⟩=>by unfold pw;omega
def yA:∀qs:List aB,qs.length<=qt qs
 |[]=>BP _
 |q::qs=>by unfold qt;have:=yA qs;have:=IW q;simp only[fc];omega
def jg(left:Int)(k:Nat):Int:=if left<0 then -1 else if(k:Int)<=left then left-k else -1
variable {left:Int}{k a:Nat}
def z8(h:left<0):jg left k=-1:=bJ h
def mN(h:(k:Int)<=left):jg left k=left-k:=by unfold jg;rw[br (by omega),bJ h]
def mO(h:left<(k:Int)):jg left k=-1:=by
 unfold jg;by_cases b:left<0
 .rw[bJ b]
 .rw[br b,br (by omega)]
def Vj(d:1<=a)(h:0<=left):jg left a<=left-1∧-1<=jg left a:=by
 by_cases b:(a:Int)<=left
 .rw[mN b];omega
 .rw[mO (by omega)];omega
def Hy{b:Nat}:jg (jg left a) b=jg left (a+b):=by
 by_cases h:(a:Int)<=left
 .rw[mN h];by_cases d:(b:Int)<=left-a
  .rw[mN d,mN (by omega)];omega
  .rw[mO (by omega),mO (by omega)]
 .rw[mO (left:=left) (k:=a) (by omega),z8 (by omega),mO (by omega)]
def N9(h:-1<=left):jg left 0=left:=by
 by_cases b:left<0
 .rw[z8 b];omega
 .rw[mN (by omega)];omega
theorem W3(n k:Nat):R83 n (k+1)=B83 n (R83 n k):=rfl
def O7(q:aB):Prop:=∀left:Int,-1<=left->left<=1000->wP R83 (q,left,()) ((jg left (pw q),()),())
def CO{P:Type}(d:Nat):∀(qs pre:List aB)(left:Int),-1<=left->(pre.length:Int)+left<=1000->(∀q∈qs,O7 q)->
  ∀F:Nat->Int×Int×Unit->Option (LO (Int×Int×Unit) (Int×Unit) Unit P),
  (∀n b,F n b=aj (D.bN b.2.1 (ak (pre++qs))) (aj (D.ek 0 b.1) (aC (av b.2.1 (pre++qs)) (ai (R83 n (n-d) (@aR aB (pre++qs) (ah b.2.1) aL,b.1,())) λe=>Z (LO.next (e.1.1,D.add .i64 b.2.1 1,())))) (Z (LO.out 0 b))) (Z (LO.out 0 b)))->
  ∃j,eL F (left,(pre.length:Int),()) (.out 0 (jg left (qt qs),j,()))
 |[],pre,left,h1,h2,i,F,g=>by refine⟨(pre.length:Int),.out (Ev.of_eq λn=>?_)⟩;rw[g];have e:jg left (qt [])=left:=N9 h1;rw[e];simp(disch:=omega)only[aQ,iT]<;>rfl
 |q::qs,pre,left,h1,h2,i,F,g=>by
  by_cases p:left<0
  .refine ⟨(pre.length:Int),.out (Ev.of_eq λn=>?_)⟩;rw[g];have e:jg left (qt (q::qs))=left:=by rw[z8 p];omega
   rw[e];simp(disch:=omega)only[aQ]<;>rfl
  .have r:(pre++q::qs).getD pre.length aL=q:=eV ..;have hp:=IW q;have hw:=i q ez left h1 (by omega);have k:=Vj (left:=left) hp (by omega);obtain⟨j,m⟩:=CO d qs (pre++[q]) (jg left (pw q)) k.2 (by simp;omega) (λs h=>i s (gJ _ h)) F (λn e=>by rw[g];simp only[p8,yq]<;>rfl);have e:jg (jg left (pw q)) (qt qs)=jg left (qt (q::qs)):=Hy;rw[e]at m;refine⟨j,.next (y:=((jg left (pw q)),((pre++[q]).length:Int),())) ?_ m⟩;obtain⟨N,t⟩:=hw d;refine⟨N,λn l=>?_⟩;show F n _=_;rw[g];simp(disch:=first|omega|simp only[kS];omega)only[aQ,r,bF,dW,eg,jl];exact(mJ (λx=>ai x _) (t n l)).trans rfl
def TR:∀q:aB,O7 q
 |⟨b,n0,text,parts⟩=>by
  intro left h1 h2;refine wP.step W3 λd=>?_;by_cases h3:left<1
  .rw[mO (by have:=IW ⟨b,n0,text,parts⟩;omega)];refine Ev.of_eq λn=>?_;unfold B83;simp(disch:=omega)only[aQ]<;>rfl
  .obtain ⟨j,l⟩:=CO (P:=Any) d parts [] (left-1) (by omega) (by simp;omega) (PG parts) _ (λn e=>rfl);have e:jg (left-1) (qt parts)=jg left (pw ⟨b,n0,text,parts⟩):=by rw[show left-1=jg left 1 from(mN (k:=1) (Int.not_lt.1 h3)).symm,Hy];rfl
   rw[<-e];have m:∀n,B83 n (R83 n (n-d)) (⟨b,n0,text,parts⟩,left,())=ai (iter (λi=>aj (D.bN i.2.1 (ak parts)) (aj (D.ek 0 i.1) (aC (av i.2.1 parts) (ai (R83 n (n-d) (@aR aB parts (ah i.2.1) aL,i.1,())) λe=>Z (LO.next (e.1.1,D.add .i64 i.2.1 1,())))) (Z (LO.out 0 i))) (Z (LO.out 0 i))) n (left-1,0,())) λe=>LO.el (B:=Unit) (P:=Any) e (λ_ g=>Z ((g.1,()),())) (λ_ g=>Z (g,())) λ_ _=>Y:=by intro n;unfold B83;simp(disch:=omega)only[aQ,cV]<;>rfl
   exact Ev.congr m (Ev.aP l (λn e=>_) _ (Ev.of_eq λn=>rfl))
where
 PG:∀qs:List aB,∀q∈qs,O7 q
 |[],_,h=>by cases h
 |q::qs,q',h=>by
  rcases eR.1 h with h|h
  .rw[h];exact TR q
  .exact PG qs q' h
def e83(q:aB)(h1:1<=left)(h2:left<=1000):Ev (λn=>F83 n (q,left,())) ((jg left (pw q),()),()):=by exact TR q left (by omega) h2 0
mutual
def sp:aB->Bool
 |⟨_,_,text,parts⟩=>sps parts&&decide (text.length<=30)
def sps:List aB->Bool
 |[]=>W
 |q::b=>sp q&&sps b
end
def Iw:∀{qs:List aB},sps qs=W↔∀q∈qs,sp q=W
 |[]=>by simp[sps]
 |q::qs=>by simp[sps,Iw (qs:=qs)]
theorem W1(n k:Nat):R84 n (k+1)=B84 n (R84 n k):=rfl
def short:∀q:aB,pw q<=1000->wP R84 (q,()) ((sp q,()),())
 |⟨b,n0,text,parts⟩,j=>by
  unfold pw at j;have t:=yA parts;have l:=T8 parts (by omega);refine wP.step W1 λd=>?_;unfold B84;have m:∀(i:Nat)(y:Int×Unit),(LO.ret () (J,()):LO (Int×Unit) (Bool×Unit) Unit Any)≠.next y:=λ_ _ h=>by cases h
  have step:∀i,i<parts.length->Ev (λn=>aj (D.bN (i:Int) (ak parts)) (aC (av (i:Int) parts) (ai (R84 n (n-d) (@aR aB parts (ah (i:Int)) aL,())) λe=>aj (D.aO e.1.1) (Z (LO.ret () (J,()))) (Z (LO.next (D.add .i64 (i:Int) 1,()))))) (Z (LO.out 0 ((i:Int),())))) (bif sp (parts.getD i aL)then .next (((i+1:Nat):Int),())else(LO.ret () (J,()):LO (Int×Unit) (Bool×Unit) Unit Any)):=by intro i hi;obtain⟨N,p⟩:=l _ (bX aL hi) d;refine⟨N,λn s=>?_⟩;show TL.aj _ _ _=_;simp(disch:=omega)only[aQ,bF,dW,eg,jl];refine(mJ (λx=>ai x _) (p n s)).trans ?_;cases k:sp (parts.getD i aL)<;>rfl
  rcases n5 (F:=λn g=>aj (D.bN g.1 (ak parts)) (aC (av g.1 parts) (ai (R84 n (n-d) (@aR aB parts (ah g.1) aL,())) λe=>aj (D.aO e.1.1) (Z (LO.ret () (J,()))) (Z (LO.next (D.add .i64 g.1 1,()))))) (Z (LO.out 0 g)))
   parts.length (λi=>((i:Int),())) (λi=>sp (parts.getD i aL)) (λ_=>(LO.ret () (J,()):LO (Int×Unit) (Bool×Unit) Unit Any)) 0 m (λi hi _=>step i hi) (λ_=>Ev.of_eq λn=>by simp(disch:=omega)only[aQ]<;>rfl)with⟨a,r⟩|⟨i,hi,a,_,r⟩
  .have e:sp ⟨b,n0,text,parts⟩=decide (text.length<=30):=by unfold sp;rw[Iw.2 λq j=>?_,dM];obtain⟨i,hi,rfl⟩:=s9 j;have:=a i hi;rwa [j6,fP hi]at this
   rw[e];refine Ev.aP r (λn e=>_) _ (Ev.of_eq λn=>?_);show Z ((D.ek (ak text) 30,()),())=_;simp only[D.ek,ak]
   congr 3
   exact decide_eq_decide.2 (by omega)
  .have e:sp ⟨b,n0,text,parts⟩=J:=by unfold sp;cases k:sps parts with|false=>rfl|true=>rw[Iw.1 k _ (bX aL hi)]at a;cases a
   rw[e];exact Ev.aP r (λn e=>_) _ (Ev.of_eq λn=>rfl)
where
 T8:∀qs:List aB,qt qs<=1000->∀q∈qs,wP R84 (q,()) ((sp q,()),())
 |[],_,_,h=>by cases h
 |q::qs,hp,q',h=>by
  unfold qt at hp;rcases eR.1 h with h|h
  .rw[h];exact short q (by omega)
  .exact T8 qs (by omega) q' h
def zO(q:aB):Bool:=decide (pw q<=16)&&sp q
def agK(q:aB):aB.mk q.1 q.2 q.3 q.4=q:=by cases q;rfl
def e44(q:aB):Ev (λn=>F44 n (q,())) ((zO q,()),()):=by
 unfold F44;simp only[agK];refine Ev.ai (e83 q (by omega) (by omega)) ?_;unfold zO;by_cases h:pw q<=16
 .have b:((pw q:Nat):Int)<=16:=by omega
  rw[mN b,fI h,dM];simp(disch:=omega)only[aQ];exact Ev.ai (short q (by omega) 0) (Ev.pure _)
 .have b:¬((pw q:Nat):Int)<=16:=by omega
  rw[mO (by omega),gj h,fG];exact Ev.of_eq λn=>by simp(disch:=omega)only[aQ]<;>rfl
end
end
section
def eF{R B P:Type}(len:Nat)(q:Nat->Bool)(bad:Nat->LO (Int×Unit) R B P){F:Nat->Int×Unit->Option (LO (Int×Unit) R B P)}(b:∀i y,bad i≠.next y)
  (h:∀i,i<len->Ev (λn=>F n ((i:Int),())) (bif q i then .next (((i+1:Nat):Int),())else bad i)) (d:∀n,F n ((len:Int),())=Z (.out 0 ((len:Int),()))) :
  ((∀i,i<len->q i=W)∧eL F (0,()) (.out 0 ((len:Int),())))∨∃i,i<len∧q i=J∧eL F (0,()) (bad i):=by
 rcases n5 len (λi=>((i:Int),())) q bad 0 b (λi hi _=>h i hi) (λ_=>Ev.of_eq d)with⟨a,r⟩|⟨i,hi,a,_,r⟩
 .exact .inl ⟨a,r⟩
 .exact .inr ⟨i,hi,a,r⟩
structure Small(p:aA):Prop where
 nodes:p.aV.length<=320
 xu:p.dx.length<=320
 cons:p.Cons.length<=25
 names:∀c∈p.Cons,c.Name.length<=40
 vN:∀nd∈p.aV,nd.Kids.length<=10∧nd.cu.length<=10∧∀q∈nd.cu,pw q<=16
def gU{α:Type}{l:List α}{d:α}{Q:α->Prop}(h:∀i,i<l.length->Q (l.getD i d)):∀a∈l,Q a:=by intro a b;obtain⟨i,hi,rfl⟩:=s9 b;have:=h i hi;rwa [j6,fP hi]at this
def lg(nd:bp):Bool:=(decide (nd.Kids.length<=10)&&decide (nd.cu.length<=10))&&nd.cu.all zO
def rj{α:Type}{l:List α}{d:α}{q:α->Bool}(h:∀i,i<l.length->q (l.getD i d)=W):l.all q=W:=eA.2 (gU (d:=d) h)
def jH{α:Type}{l:List α}{d:α}{q:α->Bool}{i:Nat}(hi:i<l.length)(h:q (l.getD i d)=J):l.all q=J:=by cases b:l.all q with|false=>rfl|true=>rw[eA.1 b _ (bX d hi)]at h;cases h
abbrev G12(p:aA)(n:Nat)(g:Int×Unit):Option (LO (Int×Unit) (Bool×Unit) Unit Any):=
 aj (D.bN g.1 (p.aV.length:Int)) (aC (av g.1 p.aV) (aj (D.bN 10 ((p.aV.getD g.1.toNat aN).Kids.length:Int)) (Z (LO.ret () (J,()))) (aj (D.bN 10 ((p.aV.getD g.1.toNat aN).cu.length:Int)) (Z (LO.ret () (J,()))) (ai (iter (λh:Int×Unit=>aj (D.bN h.1 ((p.aV.getD g.1.toNat aN).cu.length:Int)) (aC (av h.1 (p.aV.getD g.1.toNat aN).cu) (ai (F44 n ((p.aV.getD g.1.toNat aN).cu.getD h.1.toNat aL,())) λi=>aj i.1.1 (Z (LO.next (D.add .i64 h.1 1,()))) (Z (LO.ret (B:=Unit) (P:=Any) () (J,()))))) (Z (LO.out 0 h))) n (0,())) λh=>LO.el h (λ_ _=>Z (LO.next (D.add .i64 g.1 1,()))) (λ_ j=>Z (LO.ret () j)) λ_ _=>Y)))) (Z (LO.out 0 g))
def e12(p:aA):∃b,Ev (λn=>F12 n (p,())) ((b,()),())∧(b=W->Small p):=by
 unfold F12;by_cases h1:320<p.aV.length
 .exact ⟨J,Ev.of_eq λn=>by simp(disch:=omega)only[aQ]<;>rfl,λh=>by cases h⟩
 by_cases h2:320<p.dx.length
 .exact ⟨J,Ev.of_eq λn=>by simp(disch:=omega)only[aQ]<;>rfl,λh=>by cases h⟩
 by_cases h3:25<p.Cons.length
 .exact ⟨J,Ev.of_eq λn=>by simp(disch:=omega)only[aQ]<;>rfl,λh=>by cases h⟩
 simp(disch:=omega)only[aQ];have k:∀{P:Type}(i:Nat)(y:Int×Unit),(LO.ret () (J,()):LO (Int×Unit) (Bool×Unit) Unit P)≠.next y:=λ_ _ h=>by cases h
 rcases eF p.Cons.length (λi=>decide ((p.Cons.getD i bx).Name.length<=40)) (λ_=>(LO.ret () (J,()):LO (Int×Unit) (Bool×Unit) Unit Any)) (F:=λn c=>aj (D.bN c.1 (p.Cons.length:Int)) (aC (av c.1 p.Cons) (aj (D.bN 40 ((p.Cons.getD c.1.toNat bx).Name.length:Int)) (Z (LO.ret () (J,()))) (Z (LO.next (D.add .i64 c.1 1,()))))) (Z (LO.out 0 c))) k
  (λi hi=>Ev.of_eq λn=>by
   by_cases l:(p.Cons.getD i bx).Name.length<=40
   .simp (disch:=omega)only[aQ,fI l,bF,dW,eg]
   .simp (disch:=omega)only[aQ,gj l]) (λn=>by simp(disch:=omega)only[aQ])with⟨a,r⟩|⟨i,hi,a,r⟩
 .have step:∀g:Nat,g<p.aV.length->Ev (λn=>G12 p n ((g:Int),())) (bif lg (p.aV.getD g aN)then .next (((g+1:Nat):Int),())else(LO.ret () (J,()):LO (Int×Unit) (Bool×Unit) Unit Any)):=by
   intro g u;by_cases m:10<(p.aV.getD g aN).Kids.length
   .rw[show lg (p.aV.getD g aN)=J by simp only[lg,gj (yu.2 m),fG]];exact Ev.of_eq λn=>by simp(disch:=omega)only[aQ]
   by_cases s:10<(p.aV.getD g aN).cu.length
   .rw[show lg (p.aV.getD g aN)=J by simp only[lg,gj (yu.2 s),BS,fG]];exact Ev.of_eq λn=>by simp(disch:=omega)only[aQ]
   rcases eF (p.aV.getD g aN).cu.length (λi=>zO ((p.aV.getD g aN).cu.getD i aL)) (λ_=>(LO.ret () (J,()):LO (Int×Unit) (Bool×Unit) Unit Any)) (F:=λn h=>aj (D.bN h.1 ((p.aV.getD g aN).cu.length:Int)) (aC (av h.1 (p.aV.getD g aN).cu) (ai (F44 n ((p.aV.getD g aN).cu.getD h.1.toNat aL,())) λi=>aj i.1.1 (Z (LO.next (D.add .i64 h.1 1,()))) (Z (LO.ret () (J,()))))) (Z (LO.out 0 h))) k
    (λi hi=>by
     simp(disch:=omega)only[aQ];refine Ev.ai (e44 _) (Ev.of_eq λn=>?_);cases zO ((p.aV.getD g aN).cu.getD i aL)<;>simp(disch:=omega)only[aQ,bF,dW,eg]) (λn=>by simp(disch:=omega)only[aQ])with⟨j,e⟩|⟨i,hi,j,e⟩
   .rw[show lg (p.aV.getD g aN)=W by simp only[lg,fI (Bf.1 m),fI (Bf.1 s),rj j,vI]];simp(disch:=omega)only[aQ];refine Ev.aP e (λn c=>_) _ (Ev.of_eq λn=>?_);rw[ec];simp(disch:=omega)only[aQ,bF,dW,eg]
   .rw[show lg (p.aV.getD g aN)=J by simp only[lg,jH hi j,BS]];simp(disch:=omega)only[aQ];exact Ev.aP e (λn c=>_) _ (Ev.of_eq λn=>rfl)
  rcases eF p.aV.length (λg=>lg (p.aV.getD g aN)) (λ_=>(LO.ret () (J,()):LO (Int×Unit) (Bool×Unit) Unit Any)) (F:=λn g=>G12 p n g) k step (λn=>by simp(disch:=omega)only[aQ])with⟨j,e⟩|⟨i,hi,j,e⟩
  .refine ⟨W,Ev.aP r (λn c=>_) _ ?_,λ_=>⟨by omega,by omega,by omega,gU (d:=bx) λi hi=>BU (a i hi),gU (d:=aN) λi hi=>?_⟩⟩
   .refine Ev.congr (λn=>ec ..) ?_;exact Ev.aP e (λn c=>_) _ (Ev.of_eq λn=>rfl)
   .have:=j i hi;simp only[lg,dR,jR,eA,zO]at this;exact⟨this.1.1,this.1.2,λq t=>(this.2 q t).1⟩
  .refine ⟨J,Ev.aP r (λn c=>_) _ ?_,λh=>by cases h⟩;refine Ev.congr (λn=>ec ..) ?_;exact Ev.aP e (λn c=>_) _ (Ev.of_eq λn=>rfl)
 .exact ⟨J,Ev.aP r (λn c=>_) _ (Ev.of_eq λn=>rfl),λh=>by cases h⟩
end
section
section
theorem Ts(n k:Nat):R202 n (k+1)=B202 n (R202 n k):=rfl
def adR(k:Nat)(b r:Int):Prop:=((k:Int)<=b->r=k)∧(b<k->b<r)∧1<=r∧r<=k
def WZ(q:aB):Prop:=∀b:Int,0<=b->b<=1000->∃r,wP R202 (q,b,()) ((r,()),())∧adR (pw q) b r
def GJ{R B P:Type}{b:Int}(u:0<=b)(k:b<=1000):∀(qs pre:List aB)(s:Int),1<=s->s+qt qs<=1000->pre.length+qs.length<=1000->(∀q∈qs,WZ q)->
  ∃r j,((s+qt qs<=b->r=s+qt qs)∧(b<s+qt qs->b<r)∧s<=r∧r<=s+qt qs)∧∀(d:Nat)(F:Nat->Int×Int×Unit->Option (LO (Int×Int×Unit) R B P)),
  (∀n g,F n g=aj (D.bN g.2.1 (ak (pre++qs))) (aC (av g.2.1 (pre++qs)) (aj (D.bN b g.1) (Z (LO.out 0 g)) (ai (R202 n (n-d) (aB.mk (@aR aB (pre++qs) (ah g.2.1) aL).1 (@aR aB (pre++qs) (ah g.2.1) aL).2 (@aR aB (pre++qs) (ah g.2.1) aL).3 (@aR aB (pre++qs) (ah g.2.1) aL).4,D.dI .i64 b g.1,())) λe=>Z (LO.next (D.add .i64 g.1 e.1.1,D.add .i64 g.2.1 1,()))))) (Z (LO.out 0 g)))->
  eL F (s,(pre.length:Int),()) (.out 0 (r,j,()))
 |[],pre,s,h1,h2,h3,l=>by refine⟨s,(pre.length:Int),by simp[qt],λd F i=>.out (Ev.of_eq λn=>?_)⟩;rw[i];simp(disch:=omega)only[aQ,iT]<;>rfl
 |q::qs,pre,s,h1,h2,h3,l=>by
  have hp:=IW q;have v:qt (q::qs)=pw q+qt qs:=rfl;rw[v]at h2 ⊢;simp only[fc]at h3;by_cases H:b<s
  .refine ⟨s,(pre.length:Int),⟨by omega,by omega,by omega,by omega⟩,λd F i=>.out (Ev.of_eq λn=>?_)⟩;rw[i];simp(disch:=first|omega|simp only[kS];omega)only[aQ]<;>rfl
  .have w:(pre++q::qs).getD pre.length aL=q:=eV ..;obtain⟨m,p,I,K,L,M⟩:=l q ez (b-s) (by omega) (by omega);obtain⟨r,j,⟨a1,a2,a3,O⟩,z⟩:=GJ (R:=R) (B:=B) (P:=P) u k qs (pre++[q]) (s+m) (by omega) (by omega) (by simp;omega) (λC h=>l C (gJ _ h));refine⟨r,j,⟨by omega,by omega,by omega,by omega⟩,λd F i=>?_⟩;refine .next (y:=(s+m,((pre++[q]).length:Int),())) ?_ (z d F λn e=>by rw[i];simp only[p8,yq]<;>rfl)
   obtain⟨N,G⟩:=p d;refine⟨N,λn t=>?_⟩;show F n _=_;rw[i];simp(disch:=first|omega|simp only[kS];omega)only[aQ,w,SW,cV,bF,dW,eg,jl];refine(mJ (λx=>ai x _) (G n t)).trans ?_;show Z (LO.next (D.add .i64 s m,_,()))=_;rw[bF (by omega) (by omega)]
def sizes:∀q:aB,pw q<=1000->WZ q
 |⟨g,n0,text,parts⟩,k=>by intro i l b;unfold pw at k ⊢;have p:=yA parts;obtain⟨r,j,⟨a1,a2,a3,s⟩,m⟩:=GJ (R:=Int×Unit) (B:=Unit) (P:=Any) l b parts [] 1 (by omega) (by omega) (by simp;omega) (T7 parts (by omega));refine⟨r,wP.step Ts λd=>?_,by omega,by omega,by omega,by omega⟩;unfold B202;exact Ev.aP (F:=λn e=>_) (m d _ λn e=>rfl) (λn e=>_) _ (Ev.of_eq λn=>rfl)
where
 T7:∀qs:List aB,qt qs<=1000->∀q∈qs,WZ q
 |[],_,_,h=>by cases h
 |q::qs,hp,q',h=>by
  unfold qt at hp;rcases eR.1 h with h|h
  .rw[h];exact sizes q (by omega)
  .exact T7 qs (by omega) q' h
def RQ(cons:List cw)(b n:Int)(k:Nat):Bool:=
 if b=1∨b=2∨b=5 then decide (n=0)&&decide (k=0)
 else if b=3 then gG n&&decide (k=0)
 else if b=4 then decide (0<=n∧n<=1)&&decide (k=0)
 else if b=6 then decide (0<=n∧n<cons.length)&&decide ((k:Int)=(cons.getD n.toNat bx).o6)
 else J
mutual
def nG(cons:List cw):aB->Bool
 |⟨b,n,text,parts⟩=>(decide (text=[])&&qI cons parts)&&RQ cons b n parts.length
def qI(cons:List cw):List aB->Bool
 |[]=>W
 |q::b=>nG cons q&&qI cons b
end
def zY{cons:List cw}:∀{qs:List aB},qI cons qs=W↔∀q∈qs,nG cons q=W
 |[]=>by simp[qI]
 |q::qs=>by simp[qI,zY (qs:=qs)]
variable {cons:List cw}{n:Nat}
def DD:∀q:aB,nG cons q=W->pf q=W
 |⟨b,n,text,parts⟩,h=>by
  unfold nG at h;simp only[dR]at h;unfold pf;have d:=go parts h.1.2;have:1<=b∧b<=6:=by
   have h2:=h.2;unfold RQ at h2;by_cases e:b=1∨b=2∨b=5
   .omega
   .rw[br e]at h2;by_cases g:b=3
    .omega
    .rw[br g]at h2;by_cases i:b=4
     .omega
     .rw[br i]at h2;by_cases j:b=6
      .omega
      .rw[br j]at h2;cases h2
  simp only[d,fI this.1,fI this.2,vI]
where
 go:∀qs:List aB,qI cons qs=W->pfs qs=W
 |[],_=>rfl
 |q::qs,h=>by unfold qI at h;simp only[dR]at h;unfold pfs;rw[DD q h.1,go qs h.2];rfl
def vR(a lo hi:Int):F146 n (a,lo,hi,())=Z ((decide (lo<=a∧a<=hi),()),()):=by
 unfold F146;by_cases h1:lo<=a
 .simp (disch:=omega)only[aQ];simp[D.ek,h1]
 .simp (disch:=omega)only[aQ];simp[h1]
def Gn(a lo hi:Int):F52 n (a,lo,hi,())=Z ((decide (lo<=a∧a<=hi),()),()):=vR (n:=n) a lo hi
def agS(a:Int):F259 n (a,())=Z ((gG a,()),()):=by unfold F259;rw[vR];simp only[aQ,gG,Bool.decide_and]
theorem Tq(n k:Nat):R203 n (k+1)=B203 n (R203 n k):=rfl
def j3(l:List UInt8):fZ l []=decide (l=[]):=by cases l<;>rfl
def adq{f:_}{p:aA}(r:p.Cons.length<=1000){d n0:Int}{text:List UInt8}{parts:List aB}(hl:parts.length<=1000) :
  A4 n f (⟨p⟩,⟨d,n0,text,parts⟩,())=Z ((RQ p.Cons d n0 parts.length,()),()):=by
 unfold A4 PB o5 RQ;have g:(D.aI (parts.length:Int) 0)=decide (parts.length=0):=by by_cases h:parts.length=0<;>simp[D.aI,h]
 have i:(D.aI n0 0)=decide (n0=0):=by by_cases h:n0=0<;>simp[D.aI,h]
 have e:∀b:Bool,aj b (Z ((decide (parts.length=0),()),())) (Z ((J,()),()))=(Z ((b&&decide (parts.length=0),()),()):Option ((Bool×Unit)×Unit)):=λb=>by cases b<;>rfl
 by_cases j:d=1∨d=2∨d=5
 .rw[bJ j];rcases j with c|c|c<;>subst c<;>simp(disch:=omega)only[aQ,bG,g,i,e]
 .rw[br j];by_cases k:d=3
  .rw[bJ k];subst k;simp(disch:=omega)only[aQ,bG,agS,g,e]
  .rw[br k];by_cases l:d=4
   .rw[bJ l];subst l;simp(disch:=omega)only[aQ,bG,vR,g,e]
   .rw[br l];by_cases m:d=6
    .rw[bJ m];subst m;by_cases q:0<=n0∧n0<p.Cons.length
     .rw[fI q,dM];simp(disch:=omega)only[aQ,bG,vR,cV,fI (show 0<=n0∧n0<=(p.Cons.length:Int)-1 by omega)];rw[show D.aI (parts.length:Int) (p.Cons.getD n0.toNat bx).o6=decide ((parts.length:Int)=(p.Cons.getD n0.toNat bx).o6)by simp only[D.aI];exact(Bool.beq_eq_decide_eq ..)]
     .rw[gj q,fG];simp(disch:=omega)only[aQ,bG,vR,cV,gj (show ¬(0<=n0∧n0<=(p.Cons.length:Int)-1)by omega)]
    .rw[br m];simp(disch:=omega)only[aQ,bG]
end
end
section
section
variable {p:aA}
def UQ(l:p.Cons.length<=1000):∀q:aB,pw q<=1000->wP R203 (⟨p⟩,q,()) ((nG p.Cons q,()),())
 |⟨b,n0,text,parts⟩,s=>by
  unfold pw at s;have z:=yA parts;have t:=UP parts (by omega);refine wP.step Tq λd=>?_;by_cases k:text=[]
  .subst k;have u:∀(i:Nat)(y:Int×Unit),(LO.ret () ((i:Int),()):LO (Int×Unit) (Int×Unit) Unit Any)≠.next y:=λ_ _ h=>by cases h
   have step:∀i,i<parts.length->Ev (λn=>aj (D.bN (i:Int) (ak parts)) (aC (av (i:Int) parts) (ai (R203 n (n-d) (⟨p⟩,aB.mk (@aR aB parts (ah (i:Int)) aL).1 (@aR aB parts (ah (i:Int)) aL).2 (@aR aB parts (ah (i:Int)) aL).3 (@aR aB parts (ah (i:Int)) aL).4,())) λe=>aj (D.aO e.1.1) (Z (LO.ret () ((i:Int),()))) (Z (LO.next (D.add .i64 (i:Int) 1,()))))) (Z (LO.out 0 ((i:Int),())))) (bif nG p.Cons (parts.getD i aL)then .next (((i+1:Nat):Int),())else(LO.ret () ((i:Int),()):LO (Int×Unit) (Int×Unit) Unit Any)):=by intro i hi;obtain⟨N,v⟩:=t _ (bX aL hi) d;refine⟨N,λn w=>?_⟩;show TL.aj _ _ _=_;simp(disch:=omega)only[aQ,SW,bF,dW,eg,jl];refine(mJ (λx=>ai x _) (v n w)).trans ?_;cases l:nG p.Cons (parts.getD i aL)<;>rfl
   have m:∀n,B203 n (R203 n (n-d)) (⟨p⟩,⟨b,n0,[],parts⟩,())=ai (iter (λj=>aj (D.bN j.1 (ak parts)) (aC (av j.1 parts) (ai (R203 n (n-d) (⟨p⟩,aB.mk (@aR aB parts (ah j.1) aL).1 (@aR aB parts (ah j.1) aL).2 (@aR aB parts (ah j.1) aL).3 (@aR aB parts (ah j.1) aL).4,())) λe=>aj (D.aO e.1.1) (Z (LO.ret () j)) (Z (LO.next (D.add .i64 j.1 1,()))))) (Z (LO.out 0 j))) n (0,())) λj=>LO.el (X:=Int×Unit) (R:=Int×Unit) (B:=Unit) (P:=Any) j (λ_ _=>aj (D.aO (D.aO J)) (o5 n (R203 n (n-d))) (A4 n (R203 n (n-d)) (⟨p⟩,⟨b,n0,[],parts⟩,()))) (λ_ g=>aj (D.aO (D.aO (D.ek 0 g.1))) (o5 n (R203 n (n-d))) (A4 n (R203 n (n-d)) (⟨p⟩,⟨b,n0,[],parts⟩,()))) λ_ _=>Y:=λn=>rfl;rcases eF (F:=λn j=>aj (D.bN j.1 (ak parts)) (aC (av j.1 parts) (ai (R203 n (n-d) (⟨p⟩,aB.mk (@aR aB parts (ah j.1) aL).1 (@aR aB parts (ah j.1) aL).2 (@aR aB parts (ah j.1) aL).3 (@aR aB parts (ah j.1) aL).4,())) λe=>aj (D.aO e.1.1) (Z (LO.ret () j)) (Z (LO.next (D.add .i64 j.1 1,()))))) (Z (LO.out 0 j)))
    parts.length (λi=>nG p.Cons (parts.getD i aL)) (λi=>(LO.ret () ((i:Int),()):LO (Int×Unit) (Int×Unit) Unit Any)) u step (λn=>by simp(disch:=omega)only[aQ]<;>rfl)with⟨a,r⟩|⟨i,hi,a,r⟩
   .have e:nG p.Cons ⟨b,n0,[],parts⟩=RQ p.Cons b n0 parts.length:=by unfold nG;rw[zY.2 (gU (d:=aL) a)];rfl
    rw[e];refine Ev.congr m (Ev.aP r (λn e=>_) _ (Ev.of_eq λn=>?_));rw[ec];exact adq l (by omega)
   .have e:nG p.Cons ⟨b,n0,[],parts⟩=J:=by unfold nG;cases hp:qI p.Cons parts with|false=>rfl|true=>rw[zY.1 hp _ (bX aL hi)]at a;cases a
    rw[e];refine Ev.congr m (Ev.aP r (λn e=>_) _ (Ev.of_eq λn=>?_));rw[oS];simp(disch:=omega)only[aQ]<;>rfl
  .have e:nG p.Cons ⟨b,n0,text,parts⟩=J:=by unfold nG;rw[gj k];rfl
   rw[e];refine Ev.of_eq λn=>?_;unfold B203 o5;simp only[aQ,j3,gj k]<;>rfl
where
 UP:∀qs:List aB,qt qs<=1000->∀q∈qs,wP R203 (⟨p⟩,q,()) ((nG p.Cons q,()),())
 |[],_,_,h=>by cases h
 |q::qs,hp,q',h=>by
  unfold qt at hp;rcases eR.1 h with h|h
  .rw[h];exact UQ l q (by omega)
  .exact UP qs (by omega) q' h
theorem W0(n k:Nat):R95 n (k+1)=B95 n (R95 n k):=rfl
def W5(cons:List cw)(q:aB):Prop:=wP R95 (q,cons,()) ((nG cons q,()),())
def Ue{R B P:Type}{cons:List cw}(d:Nat):∀(qs pre:List aB)(b:Bool),pre.length+qs.length<=1000->(∀q∈qs,W5 cons q)->
  ∀(F:Nat->Bool×Int×Unit->Option (LO (Bool×Int×Unit) R B P)),
  (∀n i,F n i=aj (D.bN i.2.1 (ak (pre++qs))) (aj i.1 (aC (av i.2.1 (pre++qs)) (ai (R95 n (n-d) (@aR aB (pre++qs) (ah i.2.1) aL,cons,())) λj=>Z (LO.next (j.1.1,D.add .i64 i.2.1 1,())))) (Z (LO.out 0 i))) (Z (LO.out 0 i)))->
  ∃j,eL F (b,(pre.length:Int),()) (.out 0 (b&&qI cons qs,j,()))
 |[],pre,b,h3,k,F,g=>by refine⟨(pre.length:Int),.out (Ev.of_eq λn=>?_)⟩;rw[g];simp(disch:=omega)only[aQ,iT,qI,vI]<;>rfl
 |q::qs,pre,b,h3,k,F,g=>by simp only[fc]at h3;cases b with|false=>refine⟨(pre.length:Int),.out (Ev.of_eq λn=>?_)⟩;rw[g];simp(disch:=omega)only[aQ,fG]<;>rfl|true=>have m:(pre++q::qs).getD pre.length aL=q:=eV ..;obtain⟨j,p⟩:=Ue d qs (pre++[q]) (nG cons q) (by simp;omega) (λr h=>k r (gJ _ h)) F (λn e=>by rw[g];simp only[p8,yq]<;>rfl);refine⟨j,.next (y:=(nG cons q,((pre++[q]).length:Int),())) ?_ (by unfold qI;rw[dM];exact p)⟩;obtain⟨N,s⟩:=k q ez d;refine⟨N,λn l=>?_⟩;show F n _=_;rw[g];simp(disch:=first|omega|simp only[kS];omega)only[aQ,m,bF,dW,eg,jl];exact(mJ (λx=>ai x _) (s n l)).trans rfl
variable {cons:List cw}
def aaC(w:cons.length<=1000):∀q:aB,pw q<=1000->W5 cons q
 |⟨g,n0,text,parts⟩,u=>by
  unfold pw at u;have y:=yA parts;have v:=UP parts (by omega);refine wP.step W0 λd=>?_;have run:∀b:Bool,Ev (λn=>ai (iter (Ns n (R95 n (n-d)) (⟨g,n0,text,parts⟩,cons,())) n (b,0,())) (Nr n (R95 n (n-d)))) ((b&&qI cons parts,()),()):=by intro b;obtain⟨j,m⟩:=Ue (cons:=cons) d parts [] b (by simp;omega) v _ (λn e=>rfl);exact Ev.aP (F:=λn c=>_) m (λn e=>_) _ (Ev.of_eq λn=>rfl)
  have i:∀b:Bool,Ev (λn=>aj b (ai (iter (Ns n (R95 n (n-d)) (⟨g,n0,text,parts⟩,cons,())) n (decide (text=[]),0,())) (Nr n (R95 n (n-d)))) (ai (iter (Ns n (R95 n (n-d)) (⟨g,n0,text,parts⟩,cons,())) n (J,0,())) (Nr n (R95 n (n-d))))) (((decide (text=[])&&qI cons parts)&&b,()),()):=by intro b;cases b with|true=>rw[vI];exact run _|false=>rw[BS];exact run J
  unfold nG RQ;have l:(D.aI n0 0)=decide (n0=0):=by by_cases h:n0=0<;>simp[D.aI,h]
  unfold B95;by_cases p:g=1∨g=2∨g=5
  .rw[bJ p];by_cases k:parts.length=0
   .rw[fI k,vI];rcases p with c|c|c<;>subst c<;>simp(disch:=omega)only[aQ,bG,l,j3]<;>exact i _
   .rw[gj k,BS];rcases p with c|c|c<;>subst c<;>simp(disch:=omega)only[aQ,bG,l,j3]<;>exact i J
  .rw[br p];by_cases r:g=3
   .rw[bJ r];subst r;by_cases k:parts.length=0
    .rw[fI k,vI];simp(disch:=omega)only[aQ,bG,Gn,j3];have:=i (gG n0);simp only[gG,Bool.decide_and]at this ⊢;exact this
    .rw[gj k,BS];simp(disch:=omega)only[aQ,bG,j3];exact i J
   .rw[br r];by_cases s:g=4
    .rw[bJ s];subst s;by_cases k:parts.length=0
     .rw[fI k,vI];simp(disch:=omega)only[aQ,bG,Gn,j3];exact i _
     .rw[gj k,BS];simp(disch:=omega)only[aQ,bG,j3];exact i J
    .rw[br s];by_cases t:g=6
     .rw[bJ t];subst t;by_cases m:0<=n0∧n0<cons.length
      .rw[fI m,dM];simp(disch:=omega)only[aQ,bG,Gn,cV,fI (show 0<=n0∧n0<=(cons.length:Int)-1 by omega),j3];rw[show D.aI (parts.length:Int) (cons.getD n0.toNat bx).o6=decide ((parts.length:Int)=(cons.getD n0.toNat bx).o6)by simp only[D.aI];exact(Bool.beq_eq_decide_eq ..)];exact i _
      .rw[gj m,fG];simp(disch:=omega)only[aQ,bG,Gn,cV,gj (show ¬(0<=n0∧n0<=(cons.length:Int)-1)by omega),j3];exact i J
     .rw[br t];simp(disch:=omega)only[aQ,bG,j3];exact i J
where
 UP:∀qs:List aB,qt qs<=1000->∀q∈qs,W5 cons q
 |[],_,_,h=>by cases h
 |q::qs,hp,q',h=>by
  unfold qt at hp;rcases eR.1 h with h|h
  .rw[h];exact aaC w q (by omega)
  .exact UP qs (by omega) q' h
end
end
section
section
variable {p:aA}{nd:bp}
def Oc(op:Int):cJ:=if op=15 then .a0 ⟨⟩else if op=14 then .a2 ⟨⟩else if 1<=op∧op<=28 then .a1 (qR.getD op.toNat 0:Nat)else .none
variable {n:Nat}
def amZ(op:Int):F200 n (op,())=Z ((Oc op,()),()):=by
 by_cases h:1<=op∧op<=28
 .obtain ⟨k,rfl⟩:∃k:Nat,op=k:=⟨_,(zW (by omega)).symm⟩;have b:k<=28:=by omega
  match k,b with
  |0,_=>omega
  |1,_|2,_|3,_|4,_|5,_|6,_|7,_|8,_|9,_|10,_|11,_|12,_|13,_|14,_|15,_|16,_|17,_|18,_|19,_|20,_|21,_|22,_|23,_|24,_|25,_|26,_|27,_|28,_=>rfl
  |k+29,h=>omega
 .unfold F200 AT uM uL Oc;rw[br (by omega),br (by omega),br h];simp(disch:=omega)only[aQ,bG]
def BV(p:aA)(nd:bp):Bool:=
 if nd.Op=1 then gG nd.N else if nd.Op=2 then decide (0<=nd.N∧nd.N<=1)else if nd.Op=24 then decide (0<=nd.N∧nd.N<=3)
 else if nd.Op=4 then decide (-(p.dx.length:Int)<=nd.N∧nd.N<=29)else if nd.Op=14 then W else decide (nd.N=0)
def LP(p:aA)(nd:bp):Bool:=
 if nd.Op=15 then decide (1<=(nd.cu.length:Int)∧(nd.cu.length:Int)<=5)&&decide ((nd.Kids.length:Int)=1+nd.cu.length)
 else if nd.Op=14 then decide (0<=nd.N∧nd.N<p.Cons.length)&&decide ((nd.Kids.length:Int)=(p.Cons.getD nd.N.toNat bx).o6)
 else if 1<=nd.Op∧nd.Op<=28 then decide ((nd.Kids.length:Int)=(qR.getD nd.Op.toNat 0:Nat))else J
def npB(nd:bp):Bool:=decide (nd.Op=15∨nd.cu.length=0)
def qB(p:aA)(q:aB):Bool:=decide (pw q<=12)&&nG p.Cons q
def lf(p:aA)(nd:bp):Bool:=((npB nd&&LP p nd)&&BV p nd)&&nd.cu.all (qB p)
def mz(a b:Int):D.aI a b=decide (a=b):=by by_cases h:a=b<;>simp[D.aI,h]
def YY(b c:Bool):aj b (Z ((c,()),())) (Z ((J,()),()))=(Z ((b&&c,()),()):Option ((Bool×Unit)×Unit)):=by cases b<;>rfl
def amY(hf:p.dx.length<=1000):F204 n (⟨p⟩,nd,())=Z ((BV p nd,()),()):=by
 have b:D.neg .i64 (p.dx.length:Int)=-(p.dx.length:Int):=xT (by omega) (by omega);unfold F204 BV;by_cases h1:nd.Op=1
 .rw[bJ h1];simp only[aQ,h1,agS]
 rw[br h1];by_cases h2:nd.Op=2
 .rw[bJ h2];simp(disch:=omega)only[aQ,h2,vR]
 rw[br h2];by_cases h3:nd.Op=24
 .rw[bJ h3];simp(disch:=omega)only[aQ,h3,vR]
 rw[br h3];by_cases h4:nd.Op=4
 .rw[bJ h4];simp(disch:=omega)only[aQ,h4,b,vR]
 rw[br h4];by_cases h5:nd.Op=14
 .rw[bJ h5];simp(disch:=omega)only[aQ,h5]
 rw[br h5];simp(disch:=omega)only[aQ];rw[mz]
def Yt(hs:Small p)(g:∀q∈nd.cu,pw q<=16)(hl:nd.cu.length<=10)(b:Bool):Ev (λn=>uN n (⟨p⟩,nd,()) ((b,()),())) (((b&&BV p nd)&&nd.cu.all (qB p),()),()):=by
 have hf:=hs.xu;have t:=hs.cons;unfold uN sI;cases b with
 |false=>exact Ev.of_eq λn=>by simp only[aQ,fG]
 |true=>
  simp only[aQ,amY (p:=p) (nd:=nd) (show p.dx.length<=1000 by omega),dM];cases l:BV p nd with
  |false=>exact Ev.of_eq λn=>by simp only[aQ,fG]
  |true=>
   simp only[aQ,dM];have m:∀(i:Nat)(y:Int×Unit),(LO.ret () ((i:Int),()):LO (Int×Unit) (Int×Unit) Unit Any)≠.next y:=λ_ _ h=>by cases h
   rcases eF (F:=λn i=>aj (D.bN i.1 (nd.cu.length:Int)) (aC (av i.1 nd.cu) (ai (F202 n (aB.mk (nd.cu.getD i.1.toNat aL).1 (nd.cu.getD i.1.toNat aL).2 (nd.cu.getD i.1.toNat aL).3 (nd.cu.getD i.1.toNat aL).4,12,())) λj=>aj (D.ek j.1.1 12) (ai (F203 n (⟨p⟩,aB.mk (nd.cu.getD i.1.toNat aL).1 (nd.cu.getD i.1.toNat aL).2 (nd.cu.getD i.1.toNat aL).3 (nd.cu.getD i.1.toNat aL).4,())) λk=>aj k.1.1 (Z (LO.next (D.add .i64 i.1 1,()))) (Z (LO.ret () i))) (Z (LO.ret () i)))) (Z (LO.out 0 i)))
    nd.cu.length (λi=>qB p (nd.cu.getD i aL)) (λi=>(LO.ret () ((i:Int),()):LO (Int×Unit) (Int×Unit) Unit Any)) m (λi hi=>by
     have hw:=g _ (bX aL hi);obtain⟨r,s,u,v,_,_⟩:=sizes (nd.cu.getD i aL) (by omega) 12 (by omega) (by omega);simp(disch:=omega)only[aQ,SW];refine Ev.ai (s 0) ?_;unfold qB;by_cases e:pw (nd.cu.getD i aL)<=12
     .rw[fI e,dM];simp(disch:=omega)only[aQ];refine Ev.ai (UQ (p:=p) (by omega) (nd.cu.getD i aL) (by omega) 0) (Ev.of_eq λn=>?_);cases nG p.Cons (nd.cu.getD i aL)<;>simp(disch:=omega)only[aQ,bF,dW,eg]
     .rw[gj e,fG];exact Ev.of_eq λn=>by simp(disch:=omega)only[aQ]) (λn=>by simp(disch:=omega)only[aQ])with⟨a,r⟩|⟨i,hi,a,r⟩
   .rw[rj (d:=aL) a];exact Ev.aP r (λn c=>_) _ (Ev.of_eq λn=>rfl)
   .rw[jH (d:=aL) hi a];refine Ev.aP r (λn c=>_) _ (Ev.of_eq λn=>?_);rw[oS];simp(disch:=omega)only[aQ]<;>rfl
def am6(hs:Small p)(k:∀q∈nd.cu,pw q<=16)(hl:nd.cu.length<=10):Ev (λn=>F153 n (⟨p⟩,nd,())) ((lf p nd,()),()):=by
 have m:=hs.cons;have i:=Yt hs k hl;unfold F153 sJ lf;simp only[aQ,amZ];unfold Oc LP npB;by_cases e:nd.Op=15
 .rw[bJ e,bJ e,fI (Or.inl e),dM];have h1:isNil [(274,Ty.st 27),(297,Ty.int .i64),(298,Ty.st 28)] (eN 29 (cJ.a0 ⟨⟩))=J:=rfl;have h2:iG [(274,Ty.st 27),(297,Ty.int .i64),(298,Ty.st 28)] 0 (eN 29 (cJ.a0 ⟨⟩))=W:=rfl;refine Ev.congr (g:=λn=>uN n (⟨p⟩,nd,()) ((decide (1<=(nd.cu.length:Int)∧(nd.cu.length:Int)<=5)&&decide ((nd.Kids.length:Int)=1+nd.cu.length),()),())) (λn=>?_) (i _);simp only[h1,h2];unfold F338;simp(disch:=omega)only[aQ,bG,vR,bF,mz,YY]
 .rw[br e,br e];by_cases l:nd.cu.length=0
  .rw[fI (Or.inr l),dM];by_cases b:nd.Op=14
   .rw[bJ b,bJ b];have h1:isNil [(274,Ty.st 27),(297,Ty.int .i64),(298,Ty.st 28)] (eN 29 (cJ.a2 ⟨⟩))=J:=rfl;have h2:iG [(274,Ty.st 27),(297,Ty.int .i64),(298,Ty.st 28)] 0 (eN 29 (cJ.a2 ⟨⟩))=J:=rfl;have h3:iG [(274,Ty.st 27),(297,Ty.int .i64),(298,Ty.st 28)] 1 (eN 29 (cJ.a2 ⟨⟩))=J:=rfl;have h4:iG [(274,Ty.st 27),(297,Ty.int .i64),(298,Ty.st 28)] 2 (eN 29 (cJ.a2 ⟨⟩))=W:=rfl;refine Ev.congr (g:=λn=>uN n (⟨p⟩,nd,()) ((decide (0<=nd.N∧nd.N<p.Cons.length)&&decide ((nd.Kids.length:Int)=(p.Cons.getD nd.N.toNat bx).o6),()),())) (λn=>?_) (i _);simp only[h1,h2,h3,h4];unfold F340;by_cases j:0<=nd.N∧nd.N<p.Cons.length
    .rw[fI j,dM];simp(disch:=omega)only[aQ,bG,vR,cV,fI (show 0<=nd.N∧nd.N<=(p.Cons.length:Int)-1 by omega),mz]
    .rw[gj j,fG];simp(disch:=omega)only[aQ,bG,vR,cV,gj (show ¬(0<=nd.N∧nd.N<=(p.Cons.length:Int)-1)by omega)]
   .rw[br b,br b];by_cases d:1<=nd.Op∧nd.Op<=28
    .rw[bJ d,bJ d];generalize((qR.getD nd.Op.toNat 0:Nat):Int)=K;have h1:isNil [(274,Ty.st 27),(297,Ty.int .i64),(298,Ty.st 28)] (eN 29 (cJ.a1 K))=J:=rfl;have h2:iG [(274,Ty.st 27),(297,Ty.int .i64),(298,Ty.st 28)] 0 (eN 29 (cJ.a1 K))=J:=rfl;have h3:iG [(274,Ty.st 27),(297,Ty.int .i64),(298,Ty.st 28)] 1 (eN 29 (cJ.a1 K))=W:=rfl;refine Ev.congr (g:=λn=>uN n (⟨p⟩,nd,()) ((decide ((nd.Kids.length:Int)=K),()),())) (λn=>?_) (i _);simp only[h1,h2,h3];unfold F339;simp(disch:=omega)only[aQ,bG,<-mz];rfl
    .rw[br d,br d];have h1:isNil [(274,Ty.st 27),(297,Ty.int .i64),(298,Ty.st 28)] (eN 29 cJ.none)=W:=rfl;simp only[h1];exact Ev.of_eq λn=>by simp only[aQ,fG]
  .rw[show decide (nd.Op=15∨nd.cu.length=0)=J from gj (by omega),fG,fG,fG];by_cases b:nd.Op=14
   .rw[bJ b];have h1:isNil [(274,Ty.st 27),(297,Ty.int .i64),(298,Ty.st 28)] (eN 29 (cJ.a2 ⟨⟩))=J:=rfl;have h2:iG [(274,Ty.st 27),(297,Ty.int .i64),(298,Ty.st 28)] 0 (eN 29 (cJ.a2 ⟨⟩))=J:=rfl;simp only[h1,h2];exact Ev.of_eq λn=>by simp(disch:=omega)only[aQ,Vs]<;>rfl
   .rw[br b];by_cases d:1<=nd.Op∧nd.Op<=28
    .rw[bJ d];generalize((qR.getD nd.Op.toNat 0:Nat):Int)=K;have h1:isNil [(274,Ty.st 27),(297,Ty.int .i64),(298,Ty.st 28)] (eN 29 (cJ.a1 K))=J:=rfl;have h2:iG [(274,Ty.st 27),(297,Ty.int .i64),(298,Ty.st 28)] 0 (eN 29 (cJ.a1 K))=J:=rfl;simp only[h1,h2];exact Ev.of_eq λn=>by simp(disch:=omega)only[aQ,Vs]<;>rfl
    .rw[br d];have h1:isNil [(274,Ty.st 27),(297,Ty.int .i64),(298,Ty.st 28)] (eN 29 cJ.none)=W:=rfl;simp only[h1];exact Ev.of_eq λn=>by simp only[aQ]<;>rfl
end
end
section
section
variable {p:aA}{nd:bp}
def wv(op pats args:Int):Int:=if op=15 then 1+pats else if op=14 then args else if 1<=op∧op<=28 then(qR.getD op.toNat 0:Nat)else -1
def e96{n:Nat}(op:Int){pats args:Int}(h1:0<=pats)(h2:pats<=1000):F96 n (op,pats,args,())=Z ((wv op pats args,()),()):=by
 by_cases h:1<=op∧op<=28
 .by_cases b:op=15
  .subst b;unfold F96 Fj zB zA wv;rw[bJ rfl];simp(disch:=omega)only[aQ,bG,bF]
  .obtain ⟨k,rfl⟩:∃k:Nat,op=k:=⟨_,(zW (by omega)).symm⟩;have d:k<=28:=by omega
   match k,d,b with
   |0,_,_=>omega
   |1,_,_|2,_,_|3,_,_|4,_,_|5,_,_|6,_,_|7,_,_|8,_,_|9,_,_|10,_,_|11,_,_|12,_,_|13,_,_|14,_,_|16,_,_|17,_,_|18,_,_|19,_,_|20,_,_|21,_,_|22,_,_|23,_,_|24,_,_|25,_,_|26,_,_|27,_,_|28,_,_=>rfl
   |15,_,h=>exact absurd rfl h
   |k+29,h,_=>omega
 .unfold F96 Fj zB zA wv;rw[br (by omega),br (by omega),br h];simp(disch:=omega)only[aQ,bG]
def Uf{R B P:Type}{cons:List cw}(p:cons.length<=1000):∀(qs pre:List aB)(b:Bool),pre.length+qs.length<=1000->(∀q∈qs,pw q<=16)->
  ∀(F:Nat->Bool×Int×Unit->Option (LO (Bool×Int×Unit) R B P)),
  (∀n h,F n h=aj (D.bN h.2.1 (ak (pre++qs))) (aj h.1 (aC (av h.2.1 (pre++qs)) (ai (F83 n (@aR aB (pre++qs) (ah h.2.1) aL,12,())) λi=>aj (D.ek 0 i.1.1) (aC (av h.2.1 (pre++qs)) (ai (F95 n (@aR aB (pre++qs) (ah h.2.1) aL,cons,())) λj=>Z (LO.next (j.1.1,D.add .i64 h.2.1 1,())))) (Z (LO.next (J,D.add .i64 h.2.1 1,()))))) (Z (LO.out 0 h))) (Z (LO.out 0 h)))->
  ∃j,eL F (b,(pre.length:Int),()) (.out 0 (b&&qs.all (λq=>decide (pw q<=12)&&nG cons q),j,()))
 |[],pre,b,h3,m,F,d=>by refine⟨(pre.length:Int),.out (Ev.of_eq λn=>?_)⟩;rw[d];simp(disch:=omega)only[aQ,iT,List.all_nil,vI]<;>rfl
 |q::qs,pre,b,h3,m,F,d=>by
  simp only[fc]at h3;cases b with
  |false=>refine⟨(pre.length:Int),.out (Ev.of_eq λn=>?_)⟩;rw[d];simp(disch:=omega)only[aQ,fG]<;>rfl
  |true=>
   have hw:=m q ez;have r:(pre++q::qs).getD pre.length aL=q:=eV ..;obtain⟨j,s⟩:=Uf p qs (pre++[q]) (decide (pw q<=12)&&nG cons q) (by simp;omega) (λt h=>m t (gJ _ h)) F (λn e=>by rw[d];simp only[p8,yq]<;>rfl);refine⟨j,.next (y:=(decide (pw q<=12)&&nG cons q,((pre++[q]).length:Int),())) ?_ (by rw[Dv,dM];exact s)⟩;refine Ev.congr (g:=λn=>ai (F83 n (q,12,())) λi=>aj (D.ek 0 i.1.1) (ai (F95 n (q,cons,())) λj=>Z (LO.next (j.1.1,(pre.length:Int)+1,()))) (Z (LO.next (J,(pre.length:Int)+1,())))) (λn=>?_) (Ev.ai (e83 q (by omega) (by omega)) ?_)
   .rw[d];simp(disch:=first|omega|simp only[kS];omega)only[aQ,r,bF]<;>rfl
   .by_cases k:pw q<=12
    .have l:((pw q:Nat):Int)<=12:=by omega
     rw[mN l,fI k,dM];simp(disch:=omega)only[aQ];refine Ev.ai (aaC p q (by omega) 0) (Ev.of_eq λn=>?_);simp only[aQ,dW,eg,jl]
    .rw[mO (by omega),gj k,fG];exact Ev.of_eq λn=>by simp(disch:=omega)only[aQ,dW,eg,jl]
abbrev NC(p:aA)(nd:bp)(args:Int)(n:Nat)(b:Bool):Option ((Bool×Unit)×Unit):=
 ai (iter (λh:Bool×Int×Unit=>aj (D.bN h.2.1 (ak nd.cu)) (aj h.1 (aC (av h.2.1 nd.cu) (ai (F83 n (@aR aB nd.cu (ah h.2.1) aL,12,())) λi=>aj (D.ek 0 i.1.1) (aC (av h.2.1 nd.cu) (ai (F95 n (@aR aB nd.cu (ah h.2.1) aL,p.Cons,())) λj=>Z (LO.next (j.1.1,D.add .i64 h.2.1 1,())))) (Z (LO.next (J,D.add .i64 h.2.1 1,()))))) (Z (LO.out 0 h))) (Z (LO.out 0 h))) n (b,0,()))
  λh=>LO.el (R:=Bool×Unit) (B:=Unit) (P:=Any) h (λ_ j=>aj j.1 (ai (F96 n (nd.Op,ak nd.cu,args,())) λk=>Z ((D.aI (ak nd.Kids) k.1.1,()),())) (Z ((J,()),()))) (λ_ j=>Z (j,())) λ_ _=>Y
def Wi(hs:Small p)(d:∀q∈nd.cu,pw q<=16)(hl:nd.cu.length<=10)(args:Int)(b:Bool):Ev (λn=>NC p nd args n b) (((b&&nd.cu.all (qB p))&&decide ((nd.Kids.length:Int)=wv nd.Op nd.cu.length args),()),()):=by have g:=hs.cons;obtain⟨j,e⟩:=Uf (R:=Bool×Unit) (B:=Unit) (P:=Any) (cons:=p.Cons) (by omega) nd.cu [] b (by simp;omega) d _ (λn h=>rfl);refine Ev.aP (F:=λn h=>_) e (λn c=>_) _ (Ev.of_eq λn=>?_);rw[ec];show TL.aj (b&&nd.cu.all (qB p)) _ _=_;cases b&&nd.cu.all (qB p)with|false=>simp only[aQ,fG]|true=>simp(disch:=omega)only[aQ,e96,mz,dM]
def e54(hs:Small p)(z:∀q∈nd.cu,pw q<=16)(hl:nd.cu.length<=10):Ev (λn=>F54 n (p,nd,())) ((lf p nd,()),()):=by
 have K:=hs.cons;have hf:=hs.xu;have C:D.neg .i64 (p.dx.length:Int)=-(p.dx.length:Int):=xT (by omega) (by omega);have g:D.aI (nd.cu.length:Int) 0=decide ((nd.cu.length:Int)=0):=mz ..;have w:=Wi (p:=p) (nd:=nd) hs z hl;have d:∀n args b,(ai (iter (λh:Bool×Int×Unit=>aj (D.bN h.2.1 (nd.cu.length:Int)) (aj h.1 (aC (av h.2.1 nd.cu) (ai (F83 n (nd.cu.getD h.2.1.toNat aL,12,())) λi=>aj (D.ek 0 i.1.1) (aC (av h.2.1 nd.cu) (ai (F95 n (nd.cu.getD h.2.1.toNat aL,p.Cons,())) λj=>Z (LO.next (j.1.1,D.add .i64 h.2.1 1,())))) (Z (LO.next (J,D.add .i64 h.2.1 1,()))))) (Z (LO.out 0 h))) (Z (LO.out 0 h))) n (b,0,()))
  λh=>LO.el (R:=Bool×Unit) (B:=Unit) (P:=Any) h (λ_ j=>aj j.1 (ai (F96 n (nd.Op,(nd.cu.length:Int),args,())) λk=>Z ((D.aI (nd.Kids.length:Int) k.1.1,()),())) (Z ((J,()),()))) (λ_ j=>Z (j,())) λ_ _=>Y)=NC p nd args n b:=λ_ _ _=>rfl
 have v:∀{G:Nat->Option ((Bool×Unit)×Unit)}(args:Int)(b r:Bool),(∀n,G n=NC p nd args n b)->((b&&nd.cu.all (qB p))&&decide ((nd.Kids.length:Int)=wv nd.Op nd.cu.length args))=r->Ev G ((r,()),()):=by intro G args b r h1 h2;rw[<-h2];exact Ev.congr h1 (w args b)
 unfold F54;by_cases t:nd.Op=15
 .refine v 0 (decide (nd.N=0)&&decide (1<=(nd.cu.length:Int)∧(nd.cu.length:Int)<=5)) _ (λn=>?_) ?_
  .cases l:decide (nd.N=0)<;>(have u:D.aI nd.N 0=_:=(mz ..).trans l)<;>simp(disch:=omega)only[aQ,bG,u,Gn,fG,dM]<;>exact d ..
  .unfold lf npB LP BV wv;simp only[t,Int.reduceEq,fR,eP,true_or,decide_true,dM]
   ac_rfl
 .have pats:∀b:Bool,(b&&decide ((nd.cu.length:Int)=0))=(b&&npB nd):=by
   intro b;unfold npB
   congr 1
   exact decide_eq_decide.2 (by omega)
  by_cases m:nd.Op=14
  .by_cases y:0<=nd.N∧nd.N<p.Cons.length
   .refine v (p.Cons.getD nd.N.toNat bx).o6 (decide ((nd.cu.length:Int)=0)) _ (λn=>?_) ?_
    .simp (disch:=omega)only[aQ,bG,Gn,cV,fI (show 0<=nd.N∧nd.N<=(p.Cons.length:Int)-1 by omega),g];exact d ..
    .have:=pats W;rw[dM,dM]at this;rw[this];unfold lf LP BV wv;simp only[m,Int.reduceEq,fR,eP,fI y,dM,vI]
     ac_rfl
   .refine v 0 J _ (λn=>?_) ?_
    .simp (disch:=omega)only[aQ,bG,Gn,cV,gj (show ¬(0<=nd.N∧nd.N<=(p.Cons.length:Int)-1)by omega)];exact d ..
    .unfold lf LP BV;simp only[m,Int.reduceEq,fR,eP,gj y,fG,BS]
  .have last:∀b:Bool,BV p nd=b->((b&&decide ((nd.cu.length:Int)=0))&&nd.cu.all (qB p)&&decide ((nd.Kids.length:Int)=wv nd.Op nd.cu.length 0))=lf p nd:=by
    intro b H;rw[pats];unfold lf;rw[H];have I:LP p nd=decide ((nd.Kids.length:Int)=wv nd.Op nd.cu.length 0):=by
     unfold LP wv;rw[br t,br m,br t,br m];by_cases s:1<=nd.Op∧nd.Op<=28
     .rw[bJ s,bJ s]
     .rw[br s,br s];exact(gj (by omega)).symm
    rw[I]
    ac_rfl
   refine v 0 (BV p nd&&decide ((nd.cu.length:Int)=0)) _ (λn=>?_) (last _ rfl);unfold BV;by_cases h1:nd.Op=1
   .rw[bJ h1];have e:decide (-1000000000<=nd.N∧nd.N<=1000000000)=gG nd.N:=by simp only[gG,Bool.decide_and]
    cases l:gG nd.N<;>simp(disch:=omega)only[aQ,bG,Gn,e,l,g,fG,dM]<;>exact d ..
   rw[br h1];by_cases h2:nd.Op=2
   .rw[bJ h2];cases l:decide (0<=nd.N∧nd.N<=1)<;>simp(disch:=omega)only[aQ,bG,Gn,l,g,fG,dM]<;>exact d ..
   rw[br h2];by_cases h3:nd.Op=24
   .rw[bJ h3];cases l:decide (0<=nd.N∧nd.N<=3)<;>simp(disch:=omega)only[aQ,bG,Gn,l,g,fG,dM]<;>exact d ..
   rw[br h3];by_cases h4:nd.Op=4
   .rw[bJ h4];cases l:decide (-(p.dx.length:Int)<=nd.N∧nd.N<=29)<;>simp(disch:=omega)only[aQ,C,bG,Gn,l,g,fG,dM]<;>exact d ..
   rw[br h4,br m];cases l:decide (nd.N=0)<;>(have u:D.aI nd.N 0=_:=(mz ..).trans l)<;>simp(disch:=omega)only[aQ,bG,u,g,fG,dM]<;>exact d ..
end
end
section
section
def BX(b:UInt8):Bool:=decide (97<=b.toNat∧b.toNat<=122)
def xo(s:List UInt8):Bool:=match s with
 |[]=>J
 |a::l=>(decide (l.length<=7)&&decide (65<=a.toNat∧a.toNat<=90))&&l.all BX
theorem uc(a:UInt8)(l:List UInt8):xo (a::l)=((decide (l.length<=7)&&decide (65<=a.toNat∧a.toNat<=90))&&l.all BX):=rfl
theorem IF(l:List UInt8)(i:Nat):kW l i=((l.getD i 0).toNat:Int):=rfl
variable {l s:List UInt8}
def am5(hl:l.length<=1000):Ev (λn=>F161 n (l,())) ((l.all BX,()),()):=by
 unfold F161;have b:∀(i:Nat)(y:Int×Unit),(LO.ret () (J,()):LO (Int×Unit) (Bool×Unit) Unit Any)≠.next y:=λ_ _ h=>by cases h
 rcases eF (F:=λn c=>aj (D.bN c.1 (ak l)) (aC (av c.1 l) (aj (D.bN (kW l c.1) 97) (Z (LO.ret () (J,()))) (aC (av c.1 l) (aj (D.bN 122 (kW l c.1)) (Z (LO.ret () (J,()))) (Z (LO.next (D.add .i64 c.1 1,()))))))) (Z (LO.out 0 c))) l.length (λi=>BX (l.getD i 0)) (λ_=>(LO.ret () (J,()):LO (Int×Unit) (Bool×Unit) Unit Any)) b (λi hi=>Ev.of_eq λn=>by
   unfold BX;by_cases h1:97<=(l.getD i 0).toNat
   .by_cases h2:(l.getD i 0).toNat<=122
    .simp (disch:=omega)only[aQ,IF,fI (And.intro h1 h2),bF,dW,eg]
    .simp (disch:=omega)only[aQ,IF,gj (λh:97<=(l.getD i 0).toNat∧(l.getD i 0).toNat<=122=>h2 h.2)]
   .simp (disch:=omega)only[aQ,IF,gj (λh:97<=(l.getD i 0).toNat∧(l.getD i 0).toNat<=122=>h1 h.1)]) (λn=>by simp(disch:=omega)only[aQ]<;>rfl)with⟨a,r⟩|⟨i,hi,a,r⟩
 .rw[rj (d:=(0:UInt8)) a];exact Ev.aP r (λn c=>_) _ (Ev.of_eq λn=>rfl)
 .rw[jH (d:=(0:UInt8)) hi a];exact Ev.aP r (λn c=>_) _ (Ev.of_eq λn=>rfl)
def Ug(l:List UInt8)(pos:Nat)(h:pos<l.length):(BX l[pos]=W∧sM l pos=(l[pos].toNat:Int)∧FO l pos=1)∨(BX l[pos]=J∧(sM l pos<97∨122<sM l pos)):=by
 have b:pos<(bI l).size:=by simpa[bI,ByteArray.size]using h
 have d:(bI l)[pos]'b=l[pos]:=rfl;unfold BX sM FO;by_cases h1:l[pos].toNat<128
 .have e:=decode_ascii (bI l) pos b (by rw[d];exact h1);rw[e,d];simp only;by_cases h2:97<=l[pos].toNat∧l[pos].toNat<=122
  .exact .inl ⟨fI h2,rfl,trivial⟩
  .exact .inr ⟨gj h2,by omega⟩
 .have e:=decode_high (bI l) pos b (by rw[d];omega);exact .inr ⟨gj (by omega),by omega⟩
def Dc(F:Nat->(List UInt8×Nat)×Unit->Option (LO ((List UInt8×Nat)×Unit) (Bool×Unit) ((List UInt8×Nat)×Unit) Any))
  (d:∀n c,F n c=aj (NU c.1.2 c.1.1) (aj (D.bN (sM c.1.1 c.1.2) 97) (J0 n c) (aj (D.bN 122 (sM c.1.1 c.1.2)) (J0 n c) (Z (LO.next ((c.1.1,aaa c.1.2 (FO c.1.1 c.1.2)),()))))) (Z (LO.out 0 c))) :
  ∀(k:Nat)(l:List UInt8)(pos:Nat),pos+k=l.length->((l.drop pos).all BX=W∧∃c,eL F ((l,pos),()) (.out 0 c))∨((l.drop pos).all BX=J∧∃c,eL F ((l,pos),()) (.ret c (J,())))
 |0,l,pos,h=>by refine .inl ⟨by rw[List.drop_eq_nil_of_le (by omega)];rfl,((l,pos),()),.out (Ev.of_eq λn=>?_)⟩;rw[d];have:NU pos l=J:=gj (by omega);simp only[aQ,this]
 |k+1,l,pos,h=>by
  have hp:pos<l.length:=by omega
  have i:l.drop pos=l[pos]::l.drop (pos+1):=Qj hp;have e:NU pos l=W:=fI hp;rw[i,Dv];rcases Ug l pos hp with⟨a,b,c⟩|⟨a,b⟩
  .have j:97<=l[pos].toNat∧l[pos].toNat<=122:=BU a;rw[a,dM];have g:Ev (λn=>F n ((l,pos),())) (.next ((l,pos+1),())):=Ev.of_eq λn=>by rw[d];simp(disch:=omega)only[aQ,e,b,c];rfl
   rcases Dc F d k l (pos+1) (by omega)with⟨x,y,z⟩|⟨x,y,z⟩
   .exact .inl ⟨x,y,.next g z⟩
   .exact .inr ⟨x,y,.next g z⟩
  .rw[a,fG];refine .inr ⟨rfl,((l,aaa pos (FO l pos)),()),.ret (Ev.of_eq λn=>?_)⟩;rw[d];rcases b with b|b
   .simp (disch:=omega)only[aQ,e]<;>rfl
   .by_cases m:sM l pos<97
    .simp (disch:=omega)only[aQ,e]<;>rfl
    .simp (disch:=omega)only[aQ,e]<;>rfl
def amW(l:List UInt8):Ev (λn=>F257 n (l,())) ((l.all BX,()),()):=by
 unfold F257;rcases Dc _ (λn c=>rfl) l.length l 0 (by omega)with⟨a,c,r⟩|⟨a,c,r⟩
 .rw[List.drop_zero]at a;rw[a];exact Ev.aP (F:=λn c=>_) r (λn c=>_) _ (Ev.of_eq λn=>rfl)
 .rw[List.drop_zero]at a;rw[a];exact Ev.aP (F:=λn c=>_) r (λn c=>_) _ (Ev.of_eq λn=>rfl)
def Eo{G:Nat->List UInt8->Option ((Bool×Unit)×Unit)}{a:UInt8}(h:Ev (λn=>G n l) ((l.all BX,()),()))(hl:l.length<=7) :
  Ev (λn=>aC (av 0 (a::l)) (aj (D.ek 65 (kW (a::l) 0)) (aC (av 0 (a::l)) (aj (D.ek (kW (a::l) 0) 90) (aC (ff 1 (ak (a::l)) (ak (a::l))) (ai (G n (ey (a::l) 1 (ak (a::l)))) λc=>Z c)) (Z ((J,()),())))) (Z ((J,()),())))) ((xo (a::l),()),()):=by
 rw[uc,fI hl,dM];have e:kW (a::l) 0=(a.toNat:Int):=rfl;by_cases h1:65<=a.toNat
 .by_cases h2:a.toNat<=90
  .rw[fI (And.intro h1 h2),dM];simp(disch:=first|omega|simp only[kS];omega)only[aQ,e,qx];exact Ev.ai h (Ev.pure _)
  .rw[gj (λh:65<=a.toNat∧a.toNat<=90=>h2 h.2),fG];exact Ev.of_eq λn=>by simp(disch:=first|omega|simp only[kS];omega)only[aQ,e]
 .rw[gj (λh:65<=a.toNat∧a.toNat<=90=>h1 h.1),fG];exact Ev.of_eq λn=>by simp(disch:=first|omega|simp only[kS];omega)only[aQ,e]
def e93(hs:s.length<=1000):Ev (λn=>F93 n (s,())) ((xo s,()),()):=by
 unfold F93;cases s with
 |nil=>exact Ev.of_eq λn=>by simp(disch:=omega)only[aQ]<;>rfl
 |cons a l=>
  simp only[fc]at hs;by_cases h:l.length<=7
  .have:=Eo (G:=λn l=>F161 n (l,())) (a:=a) (am5 (l:=l) (by omega)) h;refine Ev.congr (λn=>?_) this;simp only[ak,fc];rw[rF (by omega),rF (by omega)]
  .rw[uc,gj h,fG,fG];exact Ev.of_eq λn=>by simp(disch:=omega)only[aQ]
def am0(hs:s.length<=1000):Ev (λn=>F197 n (s,())) ((xo s,()),()):=by
 unfold F197;cases s with
 |nil=>exact Ev.of_eq λn=>rfl
 |cons a l=>
  simp only[fc]at hs;have b:fZ (a::l) []=J:=rfl;by_cases h:l.length<=7
  .have:=Eo (G:=λn l=>F257 n (l,())) (a:=a) (amW l) h;refine Ev.congr (λn=>?_) this;simp only[b];rw[nD,PX,rF (by simp only[ak,fc];omega)]
  .rw[uc,gj h,fG,fG];exact Ev.of_eq λn=>by simp(disch:=omega)only[aQ,b]
def EU(c:cw):Bool:=xo c.Name&&decide (0<=c.o6∧c.o6<=3)
def am8{c:cw}(hs:c.Name.length<=1000):Ev (λn=>F148 n (c,())) ((EU c,()),()):=by unfold F148 EU;refine Ev.ai (am0 hs) (Ev.of_eq λn=>?_);cases xo c.Name<;>simp only[aQ,vR,dM,fG]
def xd{α:Type}{l:List α}{i:Nat}(d:α)(h:i<l.length):(l.take (i+1)).Nodup↔(l.take i).Nodup∧l.getD i d∉l.take i:=by
 rw[<-take_succ d h,GZ];constructor
 .rintro ⟨a,_,b⟩
  exact⟨a,λe=>b _ e _ (List.mem_singleton_self _) rfl⟩
 .rintro ⟨a,b⟩
  refine⟨a,UC _ _,λx g y j=>?_⟩;rw[kX.1 j];exact λh=>b (h▸g)
def am9{l:List (List UInt8)}(hl:l.length<=1000):Ev (λn=>F142 n (l,s,())) ((decide (s∈l),()),()):=by
 unfold F142;have b:∀(i:Nat)(y:Int×Unit),(LO.ret () (W,()):LO (Int×Unit) (Bool×Unit) Unit Any)≠.next y:=λ_ _ h=>by cases h
 rcases eF (F:=λn c=>aj (D.bN c.1 (ak l)) (aC (av c.1 l) (aj (fZ (aR l (ah c.1) []) s) (Z (LO.ret () (W,()))) (Z (LO.next (D.add .i64 c.1 1,()))))) (Z (LO.out 0 c))) l.length (λi=>!(fZ (l.getD i []) s)) (λ_=>(LO.ret () (W,()):LO (Int×Unit) (Bool×Unit) Unit Any)) b (λi hi=>Ev.of_eq λn=>by
   cases e:fZ (l.getD i []) s<;>simp(disch:=omega)only[aQ,e,bF,dW,eg,BR,yz]) (λn=>by simp(disch:=omega)only[aQ]<;>rfl)with⟨a,r⟩|⟨i,hi,a,r⟩
 .have:s∉l:=by intro g;have:=gU (d:=([]:List UInt8)) (Q:=λx=>(!(fZ x s))=W) a s g;simp[fZ]at this
  rw[gj this];exact Ev.aP r (λn c=>_) _ (Ev.of_eq λn=>rfl)
 .have:s∈l:=by
   have j:l.getD i []=s:=by simpa[fZ]using a
   rw[<-j];exact bX _ hi
  rw[fI this];exact Ev.aP r (λn c=>_) _ (Ev.of_eq λn=>rfl)
def e94{l:List (List UInt8)}(hl:l.length<=1000):∃b,Ev (λn=>F94 n (l,())) ((b,()),())∧(b=W↔l.Nodup):=by
 unfold F94;have e:∀(i:Nat)(y:Int×Unit),(LO.ret () (J,()):LO (Int×Unit) (Bool×Unit) Unit Any)≠.next y:=λ_ _ h=>by cases h
 rcases eF (F:=λn c=>aj (D.bN c.1 (ak l)) (aC (ff 0 c.1 (ak l)) (aC (av c.1 l) (ai (F142 n (ey l 0 c.1,aR l (ah c.1) [],())) λd=>aj d.1.1 (Z (LO.ret () (J,()))) (Z (LO.next (D.add .i64 c.1 1,())))))) (Z (LO.out 0 c))) l.length (λi=>!(decide (l.getD i []∈l.take i))) (λ_=>(LO.ret () (J,()):LO (Int×Unit) (Bool×Unit) Unit Any)) e (λi hi=>by
   simp(disch:=omega)only[aQ,nA];refine Ev.ai (am9 (by rw[zV];omega)) (Ev.of_eq λn=>?_);cases m:decide (l.getD i []∈l.take i)<;>simp(disch:=omega)only[aQ,bF,dW,eg,BR,yz]) (λn=>by simp(disch:=omega)only[aQ]<;>rfl)with⟨a,r⟩|⟨i,hi,a,r⟩
 .refine ⟨W,Ev.aP r (λn c=>_) _ (Ev.of_eq λn=>rfl),λ_=>?_,λ_=>rfl⟩;have:∀i,i<=l.length->(l.take i).Nodup:=by
   intro i
   induction i with|zero=>intro _;simp|succ i g=>intro hi;refine(xd [] (by omega)).2 ⟨g (by omega),λj=>?_⟩;have:=a i (by omega);rw[fI j]at this;cases this
  have:=this l.length (bP _);rwa [BT]at this
 .refine ⟨J,Ev.aP r (λn c=>_) _ (Ev.of_eq λn=>rfl),(λh=>by cases h),λk=>?_⟩;have h1:(l.take (i+1)).Nodup:=List.Nodup.sublist (List.take_sublist _ _) k;have h2:=((xd [] hi).1 h1).2;rw[gj h2]at a;cases a
end
end
end Mn
end
end
