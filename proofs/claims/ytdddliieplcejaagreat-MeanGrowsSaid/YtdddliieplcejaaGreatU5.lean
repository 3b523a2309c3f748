import Derived.KernelRfl
import Derived.Laws.RangeAny
import Derived.Test.YtdddliieplcejaaGreatU4
set_option linter.all false
set_option maxRecDepth 100000
set_option maxHeartbeats 0
noncomputable section
open Option renaming some->Z,none->Y
open Bool renaming true->W,false->J
section
namespace Mn
open Go TL
def aiU(b:dZ×U)(k:Int×Kf×U):aiw:=
 (Term.mk (aR b.1.3 (ah k.1) dL).5.1 (aR b.1.3 (ah k.1) dL).5.2 (aR b.1.3 (ah k.1) dL).5.3 (aR b.1.3 (ah k.1)
 dL).5.4 (aR b.1.3 (ah k.1) dL).5.5,[(aR b.1.3 (ah k.1) dL).2],())
def II(k:Int×Kf×U):Kf×U:=
 (([],[],k.2.1.2.2.1,[],()),())
def XM(p:aeA):L bp:=
 ja (S:=sg) 1 2 (Ty.int .i64) p.2.2.1.2.2.1 (xS (S:=sg) 1 2 (Ty.int .i64) p.2.2.1.2.2.1)
def aiT(b:dZ×U)(p:aeA):aiw:=
 (Term.mk (aR b.1.3 (ah p.1) dL).5.1 (aR b.1.3 (ah p.1) dL).5.2 (aR b.1.3 (ah p.1) dL).5.3 (aR b.1.3 (ah p.1)
 dL).5.4 (aR b.1.3 (ah p.1) dL).5.5,[(aR b.1.3 (ah p.1) dL).2],())
def F86:Nat->dZ×U->O ((ax×Int×U)×U):=
 λn b=>ai (F138 n b) λc=>aj (D.aK c.1.1) (Z ((kT,2,()),())) (ai (F139 n b) λd=>ai (F140 n b) λe=>ai (F94 n d.1)
 λg=>aj (D.aK g.1.1) (Z ((kT,7,()),())) (ai (F141 n e.1) λh=>ai (F94 n h.1) λi=>aj (D.aK i.1.1) (Z ((kT,
 7,()),())) (ai (F142 n (d.1.1,[109,97,105,110],())) λj=>aj (D.aK j.1.1) (Z ((kT,7,()),())) (ai (@iter (Int×Kf×U)
 (Int×U) (Kf×U) (Any) (λk=>aj (D.bO k.1 (ak b.1.3)) (aD (av k.1 b.1.3) (aD (av k.1 b.1.3) (ai (F143 n (dG.mk
 d.1.1 e.1.1 [],aiU b k)) λl=>aj (D.aK l.1.1) (Z (LO.ret (([],[],0,[],()),()) (7,()))) (Z (LO.next (D.add .i64 k.1 1,II
 k)))))) (Z (LO.out 0 (k.1,II k)))) n (0,([],[],0,[],()),())) λk=>LO.el k (λ_ m=>ai (F144 n (d.1.1,[109,97,105,110],()))
 λo=>ai (@iter (aeA) (Int×U) (Kf×zT×U) (Any) (λp=>aj (D.bO p.1 (ak b.1.3)) (aD (cX p.2.1.2.1 [ak p.2.2.1.2.2.1])
 (aD (av p.1 b.1.3) (aD (av p.1 b.1.3) (ai (F145 n ((p.2.2.1.1,p.2.2.1.2.1,XM p,()),aiT b p)) λq=>Z (LO.next (D.add .i64 p.1 1,
 ([],cM p.2.1.2.1 [ak p.2.2.1.2.2.1],p.2.1.2.2),(q.2.1.1,q.2.1.2.1,ja (S:=sg) 1 2 (Ty.int .i64) q.2.1.2.2.1 (xS (S:=sg) 1 2 (Ty.int .i64)
 q.2.1.2.2.1),()),())))))) (Z (LO.out 0 (p.1,([],p.2.1.2),(p.2.2.1.1,p.2.2.1.2.1,XM p,()),())))) n (0,([],[],o.1.1,e.1),(d.1.1,
 e.1.1,[],()),())) λp=>LO.el p (λ_ r=>ai (@iter (Int×Kf×U) (Int×U) (Kf×U) (Any) (λs=>aj (D.bO s.1 (ak
 r.2.2.1.2.2.1)) (aD (av s.1 r.2.2.1.2.2.1) (aD (cz (ah s.1) r.2.2.1.2.2.1) (aj (D.aG (aR r.2.2.1.2.2.1 (ah s.1) aP).1 4) (aD (av
 s.1 r.2.2.1.2.2.1) (aD (cz (ah s.1) r.2.2.1.2.2.1) (aj (D.ep 30 (aR r.2.2.1.2.2.1 (ah s.1) aP).2) (Z (LO.ret (([],[],0,[],()),
 ()) (3,()))) (Z (LO.next (D.add .i64 s.1 1,II s)))))) (Z (LO.next (D.add .i64 s.1 1,II s)))))) (Z (LO.out 0 (s.1,II s)))) n (0,
 II m)) λs=>LO.el s (λ_ _=>Z ((ax.mk (XM r) r.2.1.2.1 r.2.1.2.2.1 r.2.1.2.2.2.1,0,()),())) (λt u=>Z ((ax.mk []
 [] t.1.2.2.1 [],u),())) λ_ _=>Y) (λ_ r=>Z ((ax.mk [] [] m.2.1.2.2.1 [],r),())) λ_ _=>Y) (λl m=>Z
 ((ax.mk [] [] l.1.2.2.1 [],m),())) λ_ _=>Y))))
def k86(n:Nat):OC:=⟨86,⟨P98,K109,J,F86 n⟩,ct [k94 n,agA n,al3 n,al0 n,alZ n,ZI n,alY n,agz n,alX n] [(86,0,⟨[(5,de),(0,ah2)],[.slot 2],[],0⟩),(86,2,⟨[(7,de),(0,.box (.cells [.nil (.st 1),.own (.int .i64),lQ,b8y])),(0,TY)],[.slot 6,.slot 18],[],0⟩),(86,4,⟨[(8,de),(0,ah2)],[.slot 2],[],0⟩)] n 10 86⟩
def F45:Nat->L UInt8×U->aim:=
 λn b=>ai (F85 n b) λc=>ai (F86 n (c.1.1,())) λd=>Z ((d.1.1,()),())
def k45(n:Nat):OC:=⟨45,⟨P7,K110,J,F45 n⟩,ct [k85 n,k86 n] [] n 10 45⟩
def abZ(n:Nat):aim:=
 F45 n ([109,111,100,117,108,101,32,97,32,123,32,102,117,110,32,109,97,105,110,40,117,32,58,32,117,110,105,116,41,32,58,
 32,105,110,116,32,61,32,108,101,116,32,99,32,61,32,99,101,108,108,40,49,41,32,105,110,32,108,101,116,32,120,32,61,32,
 111,117,116,40,48,44,32,103,101,116,40,99,41,41,32,105,110,32,108,101,116,32,121,32,61,32,112,117,116,40,99,44,32,105,
 110,112,117,116,41,32,105,110,32,103,101,116,40,99,41,32,43,32,49,59,32,125],())
def w9(n:Nat):O fc:=
 Z ((J,()),())
def NQ(e:Y80):aA:=
 aR e.1.2.1 (ah 2) aH
def NP(e:Y80):aA:=
 aR e.1.2.1 (ah 5) aH
def F13:Nat->U->O fc:=
 λn _=>ai (F45 n ([109,111,100,117,108,101,32,98,32,123,32,102,117,110,32,119,111,114,107,40,99,32,58,32,99,104,97,110,
 32,105,110,116,41,32,58,32,117,110,105,116,32,61,32,108,101,116,32,120,32,61,32,115,101,110,100,40,99,44,32,53,41,32,
 105,110,32,115,101,110,100,40,99,44,32,54,41,59,32,102,117,110,32,109,97,105,110,40,117,32,58,32,117,110,105,116,41,
 32,58,32,105,110,116,32,61,32,108,101,116,32,99,32,61,32,99,104,97,110,32,105,110,32,108,101,116,32,116,32,61,32,115,
 112,97,119,110,40,102,117,110,32,117,32,61,62,32,119,111,114,107,32,99,41,32,105,110,32,116,97,107,101,40,99,41,32,43,
 32,114,101,115,101,116,40,49,32,43,32,40,115,104,105,102,116,32,107,32,61,62,32,107,32,40,107,32,49,48,41,41,41,59,
 32,125],())) λc=>ai (F14 n (c.1.1,[],())) λd=>ai (F21 n (c.1.1,d.1.1,[0,0,1,1,0,0,1],())) λe=>ai (F28 n (c.1.1,e.1.1,
 ())) λg=>ai (abZ n) λh=>ai (F14 n (h.1.1,[],())) λi=>ai (abZ n) λj=>ai (F32 n (j.1.1,i.1.1,0,())) λk=>aj (D.aK
 (D.aG d.1.2.1 0)) (w9 n) (aj (D.aK (D.aG e.1.2.2.1 0)) (w9 n) (aj (D.aK (D.aG g.1.2.1 0)) (w9 n) (aj (D.aK (D.aG i.1.2.1 0))
 (w9 n) (aj (D.aK (D.aG k.1.2.2.2.1 0)) (w9 n) (aj (D.aK (D.aG (ak e.1.2.1) 7)) (w9 n) (aD (av 2 e.1.2.1) (ai (F25 n (5,())) λ
 l=>aj (D.dz (D.aG (NQ e).1 1) (D.dz (D.aG (NQ e).2 22) (D.dz (D.aG (NQ e).3 0) (D.dz (D.aG (NQ e).4.1 l.1.1.1) (D.dz
 (D.aG (NQ e).4.2 l.1.1.2) W))))) (aD (av 5 e.1.2.1) (ai (F25 n (17,())) λm=>aj (D.dz (D.aG (NP e).1 0) (D.dz (D.aG (NP
 e).2 0) (D.dz (D.aG (NP e).3 1) (D.dz (D.aG (NP e).4.1 m.1.1.1) (D.dz (D.aG (NP e).4.2 m.1.1.2) W))))) (aj (D.aG (ak g.1.1.1)
 2) (ai (F25 n (1,())) λo=>aj (D.dz (D.aG k.1.2.1.1 0) (D.dz (D.aG k.1.2.1.2 16) (D.dz (D.aG k.1.2.1.3 0) (D.dz (D.aG k.1.2.1.4.1
 o.1.1.1) (D.dz (D.aG k.1.2.1.4.2 o.1.1.2) W))))) (Z ((D.aG k.1.2.2.1 8,()),())) (w9 n)) (w9 n)) (w9 n))) (w9 n))))))))
def k13(n:Nat):OC:=⟨13,⟨[],K4,J,F13 n⟩,ct [k14 n,k21 n,k25 n,k28 n,k32 n,k45 n] [] n 10 13⟩
def F52:Y69:=
 λn b=>aj (D.ep b.2.1 b.1) (Z ((D.ep b.1 b.2.2.1,()),())) (Z ((J,()),()))
def k52(n:Nat):OC:=⟨52,⟨P6,K4,J,F52 n⟩,ct [] [] n 10 52⟩
def F53:Nat->L cB×U->O fc:=
 λn b=>ai (@iter (T7) (Bool×U) (U) (Any) (λc=>aj (D.bO c.2.1 (ak b.1)) (aD (av c.2.1 b.1) (ai (F93 n ((aR b.1 (ah c.2.1)
 bx).1,())) λd=>aj (D.aK d.1.1) (Z (LO.ret () (J,()))) (aD (av c.2.1 b.1) (ai (F52 n ((aR b.1 (ah c.2.1) bx).2,0,
 3,())) λe=>aj (D.aK e.1.1) (Z (LO.ret () (J,()))) (aD (av c.2.1 b.1) (aD (cX c.1 [(aR b.1 (ah c.2.1) bx).1]) (Z
 (LO.next (cM c.1 [(aR b.1 (ah c.2.1) bx).1],D.add .i64 c.2.1 1,()))))))))) (Z (LO.out 0 c))) n ([],0,())) λc=>LO.el c (λ_ e
 =>aj (D.ep (ak b.1) 20) (ai (F94 n (e.1,())) λg=>Z g) (Z ((J,()),()))) (λ_ e=>Z (e,())) λ_ _=>Y
def k53(n:Nat):OC:=⟨53,⟨aiO,K4,J,F53 n⟩,ct [k52 n,k93 n,k94 n] [(53,0,⟨[(3,.one (.own (.str))),(4,de)],[],[],0⟩)] n 10 53⟩
abbrev q95(F:Fn Ue K4 J):kC sg:=⟨Ue,K4,J,F⟩
def NU(n:Nat)(f95:Y52->O fc)(c:Y52):Bool×Int×U->O Y53:=
 λi=>aj (D.bO i.2.1 (ak c.1.4)) (aj i.1 (aD (av i.2.1 c.1.4) (ai (f95 (aR c.1.4 (ah i.2.1) aN,c.2)) λj=>Z (LO.next
 (j.1.1,D.add .i64 i.2.1 1,())))) (Z (LO.out 0 i))) (Z (LO.out 0 i))
def NT(n:Nat)(f95:Y52->O fc):Y53->O fc:=
 λi=>LO.el i (λ_ k=>Z ((k.1,()),())) (λ_ k=>Z (k,())) λ_ _=>Y
def B95:Nat->(Y52->O fc)->Y52->O fc:=
 λn f95 c=>ai (aj (D.aG c.1.1 1) (Z (LO.next (W,()))) (ai (aj (D.aG c.1.1 2) (Z (LO.next (W,()))) (Z (LO.next (D.aG c.1.1
 5,())))) λ(d:FH)=>LO.jn d (λe=>Z (LO.next e)) (λ_ _=>Y) (λ_ g=>Z (LO.ret () g)) λ_ _=>Y)) λ(d:FH)=>
 LO.jn d (λe=>ai (aj e.1 (aj (D.aG (ak c.1.4) 0) (Z (LO.next (D.aG c.1.2 0,W,()))) (Z (LO.next (J,W,())))) (ai (aj
 (D.aG c.1.1 3) (aj (D.aG (ak c.1.4) 0) (ai (F52 n (c.1.2,(-1000000000),1000000000,())) λg=>Z (LO.next (g.1.1,W,()))) (Z
 (LO.next (J,W,())))) (ai (aj (D.aG c.1.1 4) (aj (D.aG (ak c.1.4) 0) (ai (F52 n (c.1.2,0,1,())) λg=>Z (LO.next (g.1.1,W,
 ()))) (Z (LO.next (J,W,())))) (ai (aj (D.aG c.1.1 6) (ai (F52 n (c.1.2,0,D.dH .i64 (ak c.2.1) 1,())) λg=>aj g.1.1 (aD
 (av c.1.2 c.2.1) (Z (LO.next (D.aG (ak c.1.4) (aR c.2.1 (ah c.1.2) bx).2,W,())))) (Z (LO.next (J,W,())))) (Z
 (LO.next (J,J,())))) λ(g:KP)=>LO.jn g (λh=>Z (LO.next (h.1,J,()))) (λ_ _=>Y) (λ_ i=>Z (LO.ret () i))
 λ_ _=>Y)) λ(g:KP)=>LO.jn g (λh=>Z (LO.next (h.1,J,()))) (λ_ _=>Y) (λ_ i=>Z (LO.ret () i)) λ_ _=>
 Y)) λ(g:KP)=>LO.jn g (λh=>Z (LO.next (h.1,J,()))) (λ_ _=>Y) (λ_ i=>Z (LO.ret () i)) λ_ _=>Y)) λ(g :
 KP)=>LO.jn g (λh=>aj h.1 (ai (@iter (Bool×Int×U) (Bool×U) (U) (Any) (NU n f95 c) n (gn c.1.3 [],0,())) (NT n f95))
 (ai (@iter (Bool×Int×U) (Bool×U) (U) (Any) (NU n f95 c) n (J,0,())) (NT n f95))) (λ_ _=>Y) (λ_ i=>Z (i,
 ())) λ_ _=>Y) (λ_ _=>Y) (λ_ g=>Z (g,())) λ_ _=>Y
def D95(n:Nat)(f95:Fn Ue K4 J)(a:bz prog 95 (q95 f95)):bz prog 95 (q95 (B95 n f95)):=ct [k52 n,⟨95,q95 f95,a⟩] [(95,1,⟨[(5,cZ),(7,de)],[],[],0⟩),(95,1000005,⟨[(13,cZ)],[],[],0⟩),(95,1000006,⟨[(13,cZ)],[],[],0⟩),(95,1000007,⟨[(5,cZ),(13,cZ)],[],[],0⟩),(95,1000009,⟨[(5,cZ),(24,cZ)],[],[],0⟩),(95,1000011,⟨[(5,cZ),(33,cZ)],[],[],0⟩),(95,1000013,⟨[(5,cZ),(42,cZ)],[],[],0⟩)] n 10 95
def R95(n k:Nat):(Fn Ue K4 J):=Nat.rec (motive:=λ_=>(Fn Ue K4 J)) (λ_=>Y) (λ_ r=>B95 n r) k
def F95(n:Nat):Fn Ue K4 J:=(R95 n n)
def aiZ(n:Nat):∀k,bz prog 95 (q95 (R95 n k))
 |0=>bZ (enters 95 (by kernel_rfl))
 |k+1=>have a:=aiZ n k
  D95 n _ a
def k95(n:Nat):OC:=⟨95,q95 (F95 n),(aiZ n n)⟩
def FI(n:Nat):PI->O PI:=
 λc=>LO.jn c (λd=>Z (LO.next d)) (λ_ _=>Y) (λ_ e=>Z (LO.ret () e)) λ_ _=>Y
def zY(n:Nat):PI->O PI:=
 λe=>LO.jn e (λg=>Z (LO.next g)) (λ_ _=>Y) (λ_ h=>Z (LO.ret () h)) λ_ _=>Y
def zX(n:Nat):PI->O PI:=
 λh=>LO.jn h (λi=>Z (LO.next i)) (λ_ _=>Y) (λ_ j=>Z (LO.ret () j)) λ_ _=>Y
def F96:Nat->Y68->Gn:=
 λn b=>ai (aj (D.aG b.1 1) (Z (LO.next (W,()))) (ai (aj (D.aG b.1 2) (Z (LO.next (W,()))) (ai (aj (D.aG b.1 3) (Z
 (LO.next (W,()))) (ai (aj (D.aG b.1 4) (Z (LO.next (W,()))) (ai (aj (D.aG b.1 21) (Z (LO.next (W,()))) (ai (aj (D.aG b.1 25)
 (Z (LO.next (W,()))) (Z (LO.next (D.aG b.1 28,())))) (FI n))) (FI n))) (FI n))) (FI n))) (FI n))) λ(c:PI)=>LO.jn c
 (λd=>aj d.1 (Z ((0,()),())) (ai (aj (D.aG b.1 5) (Z (LO.next (W,()))) (ai (aj (D.aG b.1 27) (Z (LO.next (W,()))) (ai
 (aj (D.aG b.1 16) (Z (LO.next (W,()))) (ai (aj (D.aG b.1 17) (Z (LO.next (W,()))) (ai (aj (D.aG b.1 19) (Z (LO.next (W,
 ()))) (ai (aj (D.aG b.1 20) (Z (LO.next (W,()))) (ai (aj (D.aG b.1 23) (Z (LO.next (W,()))) (ai (aj (D.aG b.1 26) (Z (LO.next
 (W,()))) (Z (LO.next (D.aG b.1 24,())))) (zY n))) (zY n))) (zY n))) (zY n))) (zY n))) (zY n))) (zY n))) λ(e:PI)=>
 LO.jn e (λg=>aj g.1 (Z ((1,()),())) (ai (aj (D.aG b.1 6) (Z (LO.next (W,()))) (ai (aj (D.aG b.1 7) (Z (LO.next (W,())))
 (ai (aj (D.aG b.1 9) (Z (LO.next (W,()))) (ai (aj (D.aG b.1 10) (Z (LO.next (W,()))) (ai (aj (D.aG b.1 11) (Z (LO.next (W,
 ()))) (ai (aj (D.aG b.1 12) (Z (LO.next (W,()))) (ai (aj (D.aG b.1 13) (Z (LO.next (W,()))) (ai (aj (D.aG b.1 18) (Z (LO.next
 (W,()))) (Z (LO.next (D.aG b.1 22,())))) (zX n))) (zX n))) (zX n))) (zX n))) (zX n))) (zX n))) (zX n))) λ(h:PI)=>
 LO.jn h (λi=>aj i.1 (Z ((2,()),())) (aj (D.aG b.1 8) (Z ((3,()),())) (aj (D.aG b.1 15) (Z ((D.add .i64 1 b.2.1,()),())) (aj
 (D.aG b.1 14) (Z (b.2.2,())) (Z (((-1),()),())))))) (λ_ _=>Y) (λ_ j=>Z (j,())) λ_ _=>Y)) (λ_ _=>Y) (λ_ h
 =>Z (h,())) λ_ _=>Y)) (λ_ _=>Y) (λ_ e=>Z (e,())) λ_ _=>Y
def k96(n:Nat):OC:=⟨96,⟨P6,K2,J,F96 n⟩,ct [] [(96,1000003,⟨[(8,cZ)],[],[],0⟩),(96,1000004,⟨[(8,cZ)],[],[],0⟩),(96,1000005,⟨[(8,cZ)],[],[],0⟩),(96,1000006,⟨[(8,cZ)],[],[],0⟩),(96,1000007,⟨[(8,cZ)],[],[],0⟩),(96,1000008,⟨[(8,cZ)],[],[],0⟩),(96,1000011,⟨[(16,cZ)],[],[],0⟩),(96,1000012,⟨[(16,cZ)],[],[],0⟩),(96,1000013,⟨[(16,cZ)],[],[],0⟩),(96,1000014,⟨[(16,cZ)],[],[],0⟩),(96,1000015,⟨[(16,cZ)],[],[],0⟩),(96,1000016,⟨[(16,cZ)],[],[],0⟩),(96,1000017,⟨[(16,cZ)],[],[],0⟩),(96,1000018,⟨[(16,cZ)],[],[],0⟩),(96,1000021,⟨[(26,cZ)],[],[],0⟩),(96,1000022,⟨[(26,cZ)],[],[],0⟩),(96,1000023,⟨[(26,cZ)],[],[],0⟩),(96,1000024,⟨[(26,cZ)],[],[],0⟩),(96,1000025,⟨[(26,cZ)],[],[],0⟩),(96,1000026,⟨[(26,cZ)],[],[],0⟩),(96,1000027,⟨[(26,cZ)],[],[],0⟩),(96,1000028,⟨[(26,cZ)],[],[],0⟩)] n 10 96⟩
def F54:Nat->ax×bp×U->O fc:=
 λn b=>ai (aj (D.aG b.2.1.1 1) (ai (F52 n (b.2.1.2,(-1000000000),1000000000,())) λc=>Z (LO.next (0,c.1.1,W,()))) (ai (aj
 (D.aG b.2.1.1 2) (ai (F52 n (b.2.1.2,0,1,())) λc=>Z (LO.next (0,c.1.1,W,()))) (ai (aj (D.aG b.2.1.1 4) (ai (F52 n (b.2.1.2,
 D.neg .i64 (ak b.1.2),29,())) λc=>Z (LO.next (0,c.1.1,W,()))) (ai (aj (D.aG b.2.1.1 24) (ai (F52 n (b.2.1.2,0,3,())) λc=>
 Z (LO.next (0,c.1.1,W,()))) (ai (aj (D.aG b.2.1.1 14) (ai (F52 n (b.2.1.2,0,D.dH .i64 (ak b.1.4) 1,())) λc=>ai (aj c.1.1
 (aD (av b.2.1.2 b.1.4) (Z (LO.next ((aR b.1.4 (ah b.2.1.2) bx).2,W,())))) (Z (LO.next (0,J,())))) λ(d:LO (Int×Bool
 ×U) (Bool×U) U Any)=>LO.jn d (λe=>Z (LO.next (e.1,c.1.1,W,()))) (λ_ _=>Y) (λ_ g=>Z (LO.ret () g)) λ_ _
 =>Y) (Z (LO.next (0,D.aG b.2.1.2 0,J,())))) λ(c:Y70)=>LO.jn c (λd=>Z (LO.next (d.1,d.2.1,J,()))) (λ_ _=>Y)
 (λ_ e=>Z (LO.ret () e)) λ_ _=>Y)) λ(c:Y70)=>LO.jn c (λd=>Z (LO.next (d.1,d.2.1,J,()))) (λ_ _=>Y) (λ_ e
 =>Z (LO.ret () e)) λ_ _=>Y)) λ(c:Y70)=>LO.jn c (λd=>Z (LO.next (d.1,d.2.1,J,()))) (λ_ _=>Y) (λ_ e=>Z
 (LO.ret () e)) λ_ _=>Y)) λ(c:Y70)=>LO.jn c (λd=>Z (LO.next (d.1,d.2.1,J,()))) (λ_ _=>Y) (λ_ e=>Z (LO.ret
 () e)) λ_ _=>Y)) λ(c:Y70)=>LO.jn c (λd=>ai (aj (D.aG b.2.1.1 15) (aj d.2.1 (ai (F52 n (ak b.2.1.4,1,5,())) λe=>Z
 (LO.next (e.1.1,W,()))) (Z (LO.next (J,W,())))) (aj d.2.1 (Z (LO.next (D.aG (ak b.2.1.4) 0,J,()))) (Z (LO.next (J,
 J,()))))) λ(e:KP)=>LO.jn e (λg=>ai (@iter (Bool×Int×U) (Bool×U) (U) (Any) (λh=>aj (D.bO h.2.1 (ak b.2.1.4))
 (aj h.1 (aD (av h.2.1 b.2.1.4) (ai (F83 n (aR b.2.1.4 (ah h.2.1) aN,12,())) λi=>aj (D.ep 0 i.1.1) (aD (av h.2.1 b.2.1.4) (ai
 (F95 n (aR b.2.1.4 (ah h.2.1) aN,b.1.4,())) λj=>Z (LO.next (j.1.1,D.add .i64 h.2.1 1,())))) (Z (LO.next (J,D.add .i64
 h.2.1 1,()))))) (Z (LO.out 0 h))) (Z (LO.out 0 h))) n (g.1,0,())) λh=>LO.el h (λ_ j=>aj j.1 (ai (F96 n (b.2.1.1,ak b.2.1.4,
 d.1,())) λk=>Z ((D.aG (ak b.2.1.3) k.1.1,()),())) (Z ((J,()),()))) (λ_ j=>Z (j,())) λ_ _=>Y) (λ_ _=>Y)
 (λ_ h=>Z (h,())) λ_ _=>Y) (λ_ _=>Y) (λ_ e=>Z (e,())) λ_ _=>Y
def k54(n:Nat):OC:=⟨54,⟨apn,K4,J,F54 n⟩,ct [k52 n,k83 n,k95 n,k96 n] [(54,1,⟨[(6,cZ),(7,de)],[],[],0⟩),(54,1000005,⟨[(5,de),(6,cZ),(13,cZ)],[],[],0⟩),(54,1000007,⟨[(5,de),(6,cZ),(18,cZ)],[],[],0⟩),(54,1000009,⟨[(5,de),(6,cZ),(23,cZ)],[],[],0⟩),(54,1000011,⟨[(5,de),(6,cZ),(32,cZ)],[],[],0⟩),(54,1000013,⟨[(5,de),(6,cZ),(37,cZ)],[],[],0⟩),(54,1000015,⟨[(5,de),(46,cZ)],[],[],0⟩),(54,1000017,⟨[(6,cZ),(56,cZ)],[],[],0⟩)] n 10 54⟩
def Ci(b:ax×U)(j:Xw)(l:Xw):Int:=
 aR (aR b.1.1 (ah j.2.1) aP).3 (ah l.2.1) 0
def F15:Y83:=
 λn b=>aj (D.bO 300 (ak b.1.1)) (Z ((J,()),())) (ai (F52 n (ak b.1.2,1,ak b.1.1,())) λc=>aj (D.aK c.1.1) (Z
 ((J,()),())) (ai (F52 n (b.1.3,0,D.dH .i64 (ak b.1.2) 1,())) λd=>aj (D.aK d.1.1) (Z ((J,()),())) (ai (F53 n (b.1.4,
 ())) λe=>aj (D.aK e.1.1) (Z ((J,()),())) (aD (CA (Zn (ak b.1.1)) (iq (ak b.1.1) (ak b.1.1))) (ai (@iter (Xw) (Bool×
 U) (U) (Any) (λg=>aj (D.bO g.2.1 (ak b.1.2)) (aD (av g.2.1 b.1.2) (ai (F52 n (aR b.1.2 (ah g.2.1) 0,0,D.dH .i64 (ak b.1.1)
 1,())) λh=>aj (D.aK h.1.1) (Z (LO.ret () (J,()))) (aD (av g.2.1 b.1.2) (aD (av (aR b.1.2 (ah g.2.1) 0) g.1) (aD (cz (ah
 (aR b.1.2 (ah g.2.1) 0)) g.1) (aj (aR g.1 (ah (aR b.1.2 (ah g.2.1) 0)) J) (Z (LO.ret () (J,()))) (aD (av g.2.1 b.1.2) (aD
 (av (aR b.1.2 (ah g.2.1) 0) g.1) (aD (cz (ah (aR b.1.2 (ah g.2.1) 0)) g.1) (Z (LO.next (dV g.1 (ah (aR b.1.2 (ah g.2.1) 0))
 W,D.add .i64 g.2.1 1,())))))))))))) (Z (LO.out 0 g))) n (Jg (ah (ak b.1.1)) J,0,())) λg=>LO.el g (λ_ i=>ai (@iter (Xw)
 (Bool×U) (U) (Any) (λj=>aj (D.bO j.2.1 (ak b.1.1)) (aD (av j.2.1 b.1.1) (ai (F54 n (b.1,aR b.1.1 (ah j.2.1) aP,()))
 λk=>aj (D.aK k.1.1) (Z (LO.ret () (J,()))) (ai (@iter (Xw) (Bool×U) (U) (Any) (λl=>aD (av j.2.1 b.1.1) (aj (D.bO
 l.2.1 (ak (aR b.1.1 (ah j.2.1) aP).3)) (aD (av j.2.1 b.1.1) (aD (av l.2.1 (aR b.1.1 (ah j.2.1) aP).3) (ai (F52 n (Ci b
 j l,D.add .i64 j.2.1 1,D.dH .i64 (ak b.1.1) 1,())) λm=>aj (D.aK m.1.1) (Z (LO.ret () (J,()))) (aD (av (Ci b j l) l.1) (aD
 (cz (ah (Ci b j l)) l.1) (aj (aR l.1 (ah (Ci b j l)) J) (Z (LO.ret () (J,()))) (aD (av (Ci b j l) l.1) (aD (cz (ah
 (Ci b j l)) l.1) (Z (LO.next (dV l.1 (ah (Ci b j l)) W,D.add .i64 l.2.1 1,()))))))))))) (Z (LO.out 0 l)))) n (j.1,0,())) λl
 =>LO.el l (λ_ o=>Z (LO.next (o.1,D.add .i64 j.2.1 1,()))) (λ_ o=>Z (LO.ret () o)) λ_ _=>Y))) (Z (LO.out 0 j))) n (i.1,0,
 ())) λj=>LO.el j (λ_ l=>ai (@iter (Int×U) (Bool×U) (U) (Any) (λm=>aj (D.bO m.1 (ak b.1.1)) (aD (av m.1 l.1) (aD
 (cz (ah m.1) l.1) (aj (D.aK (aR l.1 (ah m.1) J)) (Z (LO.ret () (J,()))) (Z (LO.next (D.add .i64 m.1 1,())))))) (Z (LO.out
 0 m))) n (0,())) λm=>LO.el m (λ_ _=>Z ((W,()),())) (λ_ p=>Z (p,())) λ_ _=>Y) (λ_ l=>Z (l,())) λ_ _=>
 Y) (λ_ i=>Z (i,())) λ_ _=>Y)))))
def k15(n:Nat):OC:=⟨15,⟨P5,K4,J,F15 n⟩,ct [k52 n,k53 n,k54 n] [(15,0,⟨[(4,.one (.own (.bool))),(5,de)],[],[],0⟩),(15,2,⟨[(4,.one (.own (.bool))),(6,de)],[],[],0⟩),(15,4,⟨[(4,.one (.own (.bool))),(7,de)],[],[],0⟩),(15,6,⟨[(9,de)],[],[],0⟩)] n 10 15⟩
def F55:Y69:=
 λn b=>aj (D.ep b.2.1 b.1) (Z ((D.ep b.1 b.2.2.1,()),())) (Z ((J,()),()))
def k55(n:Nat):OC:=⟨55,⟨P6,K4,J,F55 n⟩,ct [] [] n 10 55⟩
def F16:aiB:=
 λn b=>ai (@iter (Int×U) (Bool×U) (U) (Any) (λc=>aj (D.bO c.1 (ak b.1)) (aj (D.ep c.1 b.2.1) (aD (av c.1 b.1) (ai (F55
 n (aR b.1 (ah c.1) 0,(-1000000000),1000000000,())) λd=>aj (D.aK d.1.1) (Z (LO.ret () (J,()))) (Z (LO.next (D.add .i64 c.1 1,
 ()))))) (Z (LO.out 0 c))) (Z (LO.out 0 c))) n (0,())) λc=>LO.el c (λ_ _=>Z ((D.ep (ak b.1) b.2.1,()),())) (λ_ e=>Z (e,
 ())) λ_ _=>Y
def k16(n:Nat):OC:=⟨16,⟨aiN,K4,J,F16 n⟩,ct [k55 n] [(16,0,⟨[(5,de)],[],[],0⟩)] n 10 16⟩
def F26:Nat->L Int×L Int×U->O fc:=
 λn b=>aj (D.aK (D.aG (ak b.1) (ak b.2.1))) (Z ((J,()),())) (ai (@iter (Int×U) (Bool×U) (U) (Any) (λc=>aj
 (D.bO c.1 (ak b.1)) (aD (av c.1 b.1) (aD (av c.1 b.2.1) (aj (D.aK (D.aG (aR b.1 (ah c.1) 0) (aR b.2.1 (ah c.1) 0))) (Z (LO.ret ()
 (J,()))) (Z (LO.next (D.add .i64 c.1 1,())))))) (Z (LO.out 0 c))) n (0,())) λc=>LO.el c (λ_ _=>Z ((W,()),())) (λ_ e
 =>Z (e,())) λ_ _=>Y)
def k26(n:Nat):OC:=⟨26,⟨apm,K4,J,F26 n⟩,ct [] [(26,0,⟨[(5,de)],[],[],0⟩)] n 10 26⟩
def F27:Nat->L cS×L cS×U->O fc:=
 λn b=>aj (D.aK (D.aG (ak b.1) (ak b.2.1))) (Z ((J,()),())) (ai (@iter (Int×U) (Bool×U) (U) (Any) (λc=>aj
 (D.bO c.1 (ak b.1)) (aD (av c.1 b.1) (aD (av c.1 b.2.1) (aj (D.aK (D.dz (D.aG (aR b.1 (ah c.1) gF).1 (aR b.2.1 (ah c.1)
 gF).1) (D.dz (D.aG (aR b.1 (ah c.1) gF).2 (aR b.2.1 (ah c.1) gF).2) W))) (Z (LO.ret () (J,()))) (Z (LO.next
 (D.add .i64 c.1 1,())))))) (Z (LO.out 0 c))) n (0,())) λc=>LO.el c (λ_ _=>Z ((W,()),())) (λ_ e=>Z (e,())) λ_ _=>
 Y)
def k27(n:Nat):OC:=⟨27,⟨apl,K4,J,F27 n⟩,ct [] [(27,0,⟨[(5,de)],[],[],0⟩)] n 10 27⟩
def F98:Nat->Y99->O fc:=
 λn b=>aj (D.aK (D.aG (ak b.1) (ak b.2.1))) (Z ((J,()),())) (ai (@iter (Int×U) (Bool×U) (U) (Any) (λc=>aj
 (D.bO c.1 (ak b.1)) (aD (av c.1 b.1) (aD (av c.1 b.2.1) (aj (D.aK (D.dz (D.aG (aR b.1 (ah c.1) az).1 (aR b.2.1 (ah c.1)
 az).1) (D.dz (D.aG (aR b.1 (ah c.1) az).2 (aR b.2.1 (ah c.1) az).2) W))) (Z (LO.ret () (J,()))) (Z (LO.next
 (D.add .i64 c.1 1,())))))) (Z (LO.out 0 c))) n (0,())) λc=>LO.el c (λ_ _=>Z ((W,()),())) (λ_ e=>Z (e,())) λ_ _=>
 Y)
def k98(n:Nat):OC:=⟨98,⟨P34,K4,J,F98 n⟩,ct [] [(98,0,⟨[(5,de)],[],[],0⟩)] n 10 98⟩
def F57:aoI:=
 λn b=>aj (D.aK (D.aG b.1.1 b.2.1.1)) (Z ((J,()),())) (aj (D.aK (D.aG b.1.2 b.2.1.2)) (Z ((J,()),())) (ai (F98 n (b.1.3,
 b.2.1.3,())) λc=>aj (D.aK c.1.1) (Z ((J,()),())) (aj (D.aK (D.aG (ak b.1.4) (ak b.2.1.4))) (Z ((J,()),())) (ai
 (@iter (Int×U) (Bool×U) (U) (Any) (λd=>aj (D.bO d.1 (ak b.1.4)) (aD (av d.1 b.1.4) (aD (av d.1 b.2.1.4) (aj (D.aK (D.aG
 (aR b.1.4 (ah d.1) aV).1 (aR b.2.1.4 (ah d.1) aV).1)) (Z (LO.ret () (J,()))) (ai (F98 n ((aR b.1.4 (ah d.1)
 aV).2,(aR b.2.1.4 (ah d.1) aV).2,())) λe=>aj (D.aK e.1.1) (Z (LO.ret () (J,()))) (ai (F98 n ((aR b.1.4 (ah
 d.1) aV).3,(aR b.2.1.4 (ah d.1) aV).3,())) λg=>aj (D.aK g.1.1) (Z (LO.ret () (J,()))) (Z (LO.next (D.add .i64
 d.1 1,())))))))) (Z (LO.out 0 d))) n (0,())) λd=>LO.el d (λ_ _=>Z ((W,()),())) (λ_ g=>Z (g,())) λ_ _=>Y))))
def k57(n:Nat):OC:=⟨57,⟨apk,K4,J,F57 n⟩,ct [k98 n] [(57,0,⟨[(5,de)],[],[],0⟩)] n 10 57⟩
def NO(n:Nat):O fc:=
 Z ((J,()),())
def F19:aoL:=
 λn b=>aj (D.aK (D.aG (ak b.1.1) (ak b.2.1.1))) (NO n) (ai (F26 n (b.1.2,b.2.1.2,())) λc=>aj (D.aK c.1.1) (NO n) (ai (F27
 n (b.1.3,b.2.1.3,())) λd=>aj (D.aK d.1.1) (NO n) (ai (F26 n (b.1.4,b.2.1.4,())) λe=>aj (D.aK e.1.1) (NO n) (aj (D.aK
 (D.aG b.1.5 b.2.1.5)) (NO n) (ai (@iter (Int×U) (Bool×U) (U) (Any) (λg=>aj (D.bO g.1 (ak b.1.1)) (aD (av g.1 b.1.1) (aD
 (av g.1 b.2.1.1) (ai (F57 n (aR b.1.1 (ah g.1) aU,aR b.2.1.1 (ah g.1) aU,())) λh=>aj (D.aK h.1.1) (Z (LO.ret ()
 (J,()))) (Z (LO.next (D.add .i64 g.1 1,())))))) (Z (LO.out 0 g))) n (0,())) λg=>LO.el g (λ_ _=>Z ((W,()),())) (λ_ i
 =>Z (i,())) λ_ _=>Y)))))
def k19(n:Nat):OC:=⟨19,⟨apj,K4,J,F19 n⟩,ct [k26 n,k27 n,k57 n] [(19,0,⟨[(5,de)],[],[],0⟩)] n 10 19⟩
def F17:Y90:=
 λn b=>ai (F19 n (b.1,bF,())) λc=>Z c
def k17(n:Nat):OC:=⟨17,⟨aeM,K4,J,F17 n⟩,ct [k19 n] [] n 10 17⟩
def F117:aet:=
 λn b=>Z ((aq.mk 5 b.1,()),())
def V3(n:Nat):OC:=⟨117,⟨P11,K17,J,F117 n⟩,ct [] [] n 10 117⟩
def F73:Y62:=
 λn b=>aj (D.aG b.1.1 4) (ai (F117 n (0,())) λc=>Z c) (aj (D.aG b.1.1 5) (ai (F117 n (0,())) λc=>Z c) (Z (b,())))
def k73(n:Nat):OC:=⟨73,⟨P22,K17,J,F73 n⟩,ct [V3 n] [] n 10 73⟩
def F74:Nat->L aq×aq×U->O Y44:=
 λn b=>aD (cX b.1 [b.2.1]) (Z ((cM b.1 [b.2.1],()),()))
def k74(n:Nat):OC:=⟨74,⟨api,K35,J,F74 n⟩,ct [] [] n 10 74⟩
def IJ(n:Nat):PI->O PI:=
 λc=>LO.jn c (λd=>Z (LO.next d)) (λ_ _=>Y) (λ_ e=>Z (LO.ret () e)) λ_ _=>Y
def w6(n:Nat):Gn:=
 Z ((1,()),())
def F75:Y16:=
 λn b=>ai (aj (D.aG b.1.1 6) (Z (LO.next (W,()))) (ai (aj (D.aG b.1.1 9) (Z (LO.next (W,()))) (ai (aj (D.aG b.1.1 10) (Z
 (LO.next (W,()))) (ai (aj (D.aG b.1.1 11) (Z (LO.next (W,()))) (ai (aj (D.aG b.1.1 12) (Z (LO.next (W,()))) (ai (aj (D.aG
 b.1.1 13) (Z (LO.next (W,()))) (ai (aj (D.aG b.1.1 18) (Z (LO.next (W,()))) (Z (LO.next (D.aG b.1.1 22,())))) (IJ n))) (IJ
 n))) (IJ n))) (IJ n))) (IJ n))) (IJ n))) λ(c:PI)=>LO.jn c (λd=>aj d.1 (Z ((2,()),())) (aj (D.aG b.1.1 14) (Z ((ak
 b.1.3,()),())) (aj (D.aG b.1.1 7) (w6 n) (aj (D.aG b.1.1 8) (w6 n) (aj (D.aG b.1.1 15) (w6 n) (aj (D.aG b.1.1 16) (w6 n) (aj
 (D.aG b.1.1 17) (w6 n) (aj (D.aG b.1.1 19) (w6 n) (aj (D.aG b.1.1 20) (w6 n) (aj (D.aG b.1.1 23) (w6 n) (aj (D.aG b.1.1 24) (w6
 n) (aj (D.aG b.1.1 26) (w6 n) (Z ((0,()),())))))))))))))) (λ_ _=>Y) (λ_ e=>Z (e,())) λ_ _=>Y
def k75(n:Nat):OC:=⟨75,⟨P27,K2,J,F75 n⟩,ct [] [(75,1000003,⟨[(5,cZ)],[],[],0⟩),(75,1000004,⟨[(5,cZ)],[],[],0⟩),(75,1000005,⟨[(5,cZ)],[],[],0⟩),(75,1000006,⟨[(5,cZ)],[],[],0⟩),(75,1000007,⟨[(5,cZ)],[],[],0⟩),(75,1000008,⟨[(5,cZ)],[],[],0⟩),(75,1000009,⟨[(5,cZ)],[],[],0⟩)] n 10 75⟩
def XN(n:Nat)(b:Xq):O IF:=
 aD (av b.2.1 b.1.2) (aD (av (aR b.1.2 (ah b.2.1) 0) b.1.1) (aD (cz (ah (aR b.1.2 (ah b.2.1) 0)) b.1.1) (Z ((aB.mk
 (aa.mk (dV b.1.1 (ah (aR b.1.2 (ah b.2.1) 0)) (aE.mk 6 4 [] [])) b.1.2 b.1.3 b.1.4 b.1.5) 1 (aA.mk b.2.1 0 4 az),()),
 ()))))
def F76:Y88:=
 λn b=>aj (D.ep 40 (ak b.2.2.1)) (XN n b) (aj (D.bO 30 (ak b.2.2.2.2.1)) (XN n b) (aD (cX b.2.2.1 [au.mk b.2.2.2.1
 b.2.2.2.2.1 []]) (aD (av b.2.1 b.1.2) (aD (av (aR b.1.2 (ah b.2.1) 0) b.1.1) (aD (cz (ah (aR b.1.2 (ah b.2.1) 0)) b.1.1) (Z
 ((aB.mk (aa.mk (dV b.1.1 (ah (aR b.1.2 (ah b.2.1) 0)) (aE.mk 6 0 [] (cM b.2.2.1 [au.mk b.2.2.2.1 b.2.2.2.2.1
 []]))) b.1.2 b.1.3 b.1.4 b.1.5) 0 aH,()),())))))))
def k76(n:Nat):OC:=⟨76,⟨aeL,K121,J,F76 n⟩,ct [] [] n 10 76⟩
def F97:Y59:=
 λn _=>Z ((aq.mk 3 0,()),())
def k97(n:Nat):OC:=⟨97,⟨[],K17,J,F97 n⟩,ct [] [] n 10 97⟩
def F120:aiu:=
 λn b=>aj b.1 (Z ((aq.mk 2 1,()),())) (Z ((aq.mk 2 0,()),()))
def ac6(n:Nat):OC:=⟨120,⟨P31,K17,J,F120 n⟩,ct [] [] n 10 120⟩
def F176:Nat->aa×aq×Int×U->O (Y34×U):=
 λn b=>aj (D.aK (D.aG b.2.1.1 5)) (Z ((aU,J,()),())) (aD (av b.2.1.2 b.1.1) (aj (D.aK (D.aG (aR b.1.1 (ah b.2.1.2)
 aU).1 b.2.2.1)) (Z ((aU,J,()),())) (aD (av b.2.1.2 b.1.1) (Z ((aR b.1.1 (ah b.2.1.2) aU,W,()),())))))
def OM(n:Nat):OC:=⟨176,⟨aph,K37,J,F176 n⟩,ct [] [] n 10 176⟩
def F177:Nat->ax×aa×aq×aq×U->O (Y56×U):=
 λn b=>aj (D.aG b.2.2.1.1 4) (aD (av b.2.2.1.2 b.1.2) (Z ((au.mk (aR b.1.2 (ah b.2.2.1.2) 0) [b.2.2.2.1] [],W,()),())))
 (ai (F176 n (b.2.1,b.2.2.1,2,())) λc=>aj (D.aK c.1.2.1) (Z ((aV,J,()),())) (aD (av c.1.1.2 b.1.1) (aD (av 0 (aR
 b.1.1 (ah c.1.1.2) aP).3) (ai (F74 n (c.1.1.3,b.2.2.2)) λd=>Z ((au.mk (aR (aR b.1.1 (ah c.1.1.2) aP).3 (ah 0) 0)
 d.1.1 [],W,()),())))))
def agv(n:Nat):OC:=⟨177,⟨apg,K39,J,F177 n⟩,ct [k74 n,OM n] [] n 10 177⟩
def KG(b:aes):Bool:=
 av (aR b.2.1.2 (ah b.2.2.1) 0) b.2.1.1
def yj(b:aes):Nat:=
 ah (aR b.2.1.2 (ah b.2.2.1) 0)
def F122:Nat->aes->O IF:=
 λn b=>ai (F176 n (b.2.1,b.2.2.2.2.1,5,())) λc=>aj c.1.2.1 (aD (cX b.2.2.2.1 c.1.1.4) (aj (D.bO 40 (ak (cM b.2.2.2.1 c.1.1.4)))
 (aD (av b.2.2.1 b.2.1.2) (aD (KG b) (aD (cz (yj b) b.2.1.1) (Z ((aB.mk (aa.mk (dV b.2.1.1 (yj b) (aE.mk
 6 4 [] [])) b.2.1.2 b.2.1.3 b.2.1.4 b.2.1.5) 1 (aA.mk b.2.2.1 0 4 az),()),()))))) (aD (av b.2.2.1 b.2.1.2) (aD (KG b) (aD (cz
 (yj b) b.2.1.1) (Z ((aB.mk (aa.mk (dV b.2.1.1 (yj b) (aE.mk 6 0 [b.2.2.2.2.2.1] (cM b.2.2.2.1 c.1.1.4))) b.2.1.2
 b.2.1.3 b.2.1.4 b.2.1.5) 0 aH,()),()))))))) (ai (F177 n (b.1,b.2.1,b.2.2.2.2)) λd=>aj (D.aK d.1.2.1) (aD (av b.2.2.1 b.2.1.2)
 (aD (KG b) (aD (cz (yj b) b.2.1.1) (Z ((aB.mk (aa.mk (dV b.2.1.1 (yj b) (aE.mk 6 2 [] [])) b.2.1.2 b.2.1.3
 b.2.1.4 b.2.1.5) 1 (aA.mk b.2.2.1 0 2 az),()),()))))) (ai (F76 n (b.2.1,b.2.2.1,b.2.2.2.1,d.1.1.1,d.1.1.2,())) λe=>Z e))
def ame(n:Nat):OC:=⟨122,⟨apf,K121,J,F122 n⟩,ct [k76 n,OM n,agv n] [] n 10 122⟩
def KF(b:Xy):Bool:=
 av (aR b.1.2 (ah b.2.1) 0) b.1.1
def yh(b:Xy):Nat:=
 ah (aR b.1.2 (ah b.2.1) 0)
def Gg(n:Nat)(b:Xy):O IF:=
 aD (av b.2.1 b.1.2) (aD (KF b) (aD (cz (yh b) b.1.1) (Z ((aB.mk (aa.mk (dV b.1.1 (yh b) (aE.mk 6 2 []
 [])) b.1.2 b.1.3 b.1.4 b.1.5) 1 (aA.mk b.2.1 0 2 az),()),()))))
def KE(n:Nat)(b:Xy):T5->O IF:=
 λc=>aD (av b.2.1 b.1.2) (aD (KF b) (aD (cz (yh b) b.1.1) (Z ((aB.mk (aa.mk (dV b.1.1 (yh b) (aE.mk
 6 0 [c.1.1] b.2.2.1)) b.1.2 b.1.3 b.1.4 b.1.5) 0 aH,()),()))))
def F123:Nat->Xy->O IF:=
 λn b=>aj (D.aG b.2.2.2.1 13) (aj (D.aK (D.aG b.2.2.2.2.1.1 b.2.2.2.2.2.1.1)) (Gg n b) (aj (D.bO 3 b.2.2.2.2.1.1) (Gg n b) (ai
 (F120 n (D.dz (D.aG b.2.2.2.2.1.1 b.2.2.2.2.2.1.1) (D.dz (D.aG b.2.2.2.2.1.2 b.2.2.2.2.2.1.2) W),())) (KE n b)))) (aj (D.aK (D.aG
 b.2.2.2.2.1.1 1)) (Gg n b) (aj (D.aK (D.aG b.2.2.2.2.2.1.1 1)) (Gg n b) (aj (D.aG b.2.2.2.1 12) (ai (F120 n (D.bO b.2.2.2.2.1.2
 b.2.2.2.2.2.1.2,())) (KE n b)) (ai (aj (D.aG b.2.2.2.1 9) (Z (LO.next (D.add .i64 b.2.2.2.2.1.2 b.2.2.2.2.2.1.2,W,()))) (ai (aj
 (D.aG b.2.2.2.1 10) (Z (LO.next (D.dH .i64 b.2.2.2.2.1.2 b.2.2.2.2.2.1.2,W,()))) (ai (aj (D.aG b.2.2.2.1 11) (Z (LO.next (D.mul .i64
 b.2.2.2.2.1.2 b.2.2.2.2.2.1.2,W,()))) (Z (LO.next (0,J,())))) λ(c:aaW)=>LO.jn c (λd=>Z (LO.next (d.1,J,()))) (λ_
 _=>Y) (λ_ _=>Z (LO.ret () ())) λ_ _=>Y)) λ(c:aaW)=>LO.jn c (λd=>Z (LO.next (d.1,J,()))) (λ_ _=>Y)
 (λ_ _=>Z (LO.ret () ())) λ_ _=>Y)) λ(c:aaW)=>LO.jn c (λd=>ai (F55 n (d.1,(-1000000000),1000000000,())) λe=>aj
 (D.aK e.1.1) (aD (av b.2.1 b.1.2) (aD (KF b) (aD (cz (yh b) b.1.1) (Z ((aB.mk (aa.mk (dV b.1.1 (yh b)
 (aE.mk 6 4 [] [])) b.1.2 b.1.3 b.1.4 b.1.5) 1 (aA.mk b.2.1 0 4 az),()),()))))) (ai (F25 n (d.1,())) (KE n b))) (λ_ _=>
 Y) (λ_ _=>Z ((jb,()),())) λ_ _=>Y))))
def amd(n:Nat):OC:=⟨123,⟨ape,K121,J,F123 n⟩,ct [k25 n,k55 n,ac6 n] [(123,1000012,⟨[(13,de),(61,cZ)],[],[],0⟩),(123,1000014,⟨[(13,de),(68,cZ)],[],[],0⟩),(123,1000016,⟨[(13,de),(75,cZ)],[],[],0⟩)] n 10 123⟩
abbrev Vh(F:Fn Ud K127 J):kC sg:=⟨Ud,K127,J,F⟩
def Br(n:Nat)(f178:aaU->aaT)(c:aaU):T5->aaT:=
 λd=>Z (([],D.dz (D.aG c.2.2.1.1 d.1.1.1) (D.dz (D.aG c.2.2.1.2 d.1.1.2) W),()),())
def B178:Nat->(aaU->aaT)->aaU->aaT:=
 λn f178 c=>aj (D.aG c.2.1.1 1) (Z (([],W,()),())) (aj (D.aG c.2.1.1 2) (Z (([c.2.2.1],W,()),())) (aj (D.aG c.2.1.1 3) (ai
 (F25 n (c.2.1.2,())) (Br n f178 c)) (aj (D.aG c.2.1.1 4) (ai (F120 n (D.aG c.2.1.2 1,())) (Br n f178 c)) (aj (D.aG c.2.1.1 5) (ai (F97
 n ()) (Br n f178 c)) (ai (F176 n (c.1,c.2.2.1,1,())) λd=>aj (D.aK d.1.2.1) (Z (([],J,()),())) (aj (D.aK (D.aG d.1.1.2
 c.2.1.2)) (Z (([],J,()),())) (aj (D.aK (D.aG (ak d.1.1.3) (ak c.2.1.4))) (Z (([],J,()),())) (ai (@iter (N1) (aiy) (U)
 (Any) (λe=>aj (D.bO e.2.1 (ak c.2.1.4)) (aD (av e.2.1 c.2.1.4) (aD (av e.2.1 d.1.1.3) (ai (f178 (c.1,aR c.2.1.4 (ah e.2.1)
 aN,aR d.1.1.3 (ah e.2.1) az,())) λg=>aj (D.aK g.1.2.1) (Z (LO.ret () ([],J,()))) (aD (cX e.1 g.1.1) (Z (LO.next
 (cM e.1 g.1.1,D.add .i64 e.2.1 1,()))))))) (Z (LO.out 0 e))) n ([],0,())) λe=>LO.el e (λ_ h=>Z ((h.1,W,()),())) (λ_ h=>
 Z (h,())) λ_ _=>Y))))))))
def D178(n:Nat)(f178:Fn Ud K127 J)(a:bz prog 178 (Vh f178)):bz prog 178 (Vh (B178 n f178)):=ct [k25 n,k97 n,ac6 n,OM n,⟨178,Vh f178,a⟩] [(178,1,⟨[(10,.one (.own (.st 4))),(11,de)],[],[],0⟩)] n 10 178
def R178(n k:Nat):(Fn Ud K127 J):=Nat.rec (motive:=λ_=>(Fn Ud K127 J)) (λ_=>Y) (λ_ r=>B178 n r) k
def F178(n:Nat):Fn Ud K127 J:=(R178 n n)
def acj(n:Nat):∀k,bz prog 178 (Vh (R178 n k))
 |0=>bZ (enters 178 (by kernel_rfl))
 |k+1=>have a:=acj n k
  D178 n _ a
def alM(n:Nat):OC:=⟨178,Vh (F178 n),(acj n n)⟩
def F124:Nat->aa×Int×L au×bp×L aq×aq×U->O IF:=
 λn b=>ai (@iter (Int×Y72×U) (U) (Y72×U) (Any) (λc=>aj (D.bO c.1 (ak b.2.2.2.1.4)) (aD (av c.1 b.2.2.2.1.4) (ai (F178
 n (b.1,aR b.2.2.2.1.4 (ah c.1) aN,b.2.2.2.2.2)) λd=>aj d.1.2.1 (aD (av (D.add .i64 1 c.1) b.2.2.2.1.3) (aD (cX b.2.2.2.2.1
 d.1.1) (ai (F76 n (b.1,b.2.1,b.2.2.1,aR b.2.2.2.1.3 (ah (D.add .i64 1 c.1)) 0,cM b.2.2.2.2.1 d.1.1,())) λe=>Z (LO.ret ((e.1.1.1.1,
 e.1.1.1.2,e.1.1.1.3,e.1.1.1.4,e.1.1.1.5,e.1.1.2,e.1.1.3.1,e.1.1.3.2,e.1.1.3.3,e.1.1.3.4.1,e.1.1.3.4.2,()),()) ())))) (Z (LO.next (D.add .i64
 c.1 1,c.2))))) (Z (LO.out 0 c))) n (0,([],[],[],[],0,0,0,0,0,0,0,()),())) λc=>LO.el c (λ_ _=>aD (av b.2.1 b.1.2) (aD
 (av (aR b.1.2 (ah b.2.1) 0) b.1.1) (aD (cz (ah (aR b.1.2 (ah b.2.1) 0)) b.1.1) (Z ((aB.mk (aa.mk (dV b.1.1 (ah
 (aR b.1.2 (ah b.2.1) 0)) (aE.mk 6 3 [] [])) b.1.2 b.1.3 b.1.4 b.1.5) 1 (aA.mk b.2.1 0 3 az),()),()))))) (λd _=>Z
 ((aB.mk (aa.mk d.1.1 d.1.2.1 d.1.2.2.1 d.1.2.2.2.1 d.1.2.2.2.2.1) d.1.2.2.2.2.2.1 (aA.mk d.1.2.2.2.2.2.2.1
 d.1.2.2.2.2.2.2.2.1 d.1.2.2.2.2.2.2.2.2.1 (aq.mk d.1.2.2.2.2.2.2.2.2.2.1 d.1.2.2.2.2.2.2.2.2.2.2.1)),()),())) λ_ _=>Y
def amc(n:Nat):OC:=⟨124,⟨apd,K121,J,F124 n⟩,ct [k76 n,alM n] [(124,0,⟨[(13,de),(0,b0z)],[.slot 12],[],0⟩)] n 10 124⟩
def KD(b:aaR):Bool:=
 av (aR b.2.1.2 (ah b.2.2.1) 0) b.2.1.1
def yg(b:aaR):Nat:=
 ah (aR b.2.1.2 (ah b.2.2.1) 0)
def Qe(b:aaR)(e:Int×U):L aE:=
 cM b.2.1.1 [aE.mk 5 0 [] (eo b.2.2.2.1 e.1 (ak b.2.2.2.1))]
def F125:Nat->aaR->O IF:=
 λn b=>ai (@iter (Int×U) (U) (U) (Any) (λc=>aj (D.ep 0 c.1) (aD (av c.1 b.2.2.2.1) (aD (av (aR b.2.2.2.1 (ah c.1)
 aV).1 b.1.1) (aj (D.aK (D.aG (aR b.1.1 (ah (aR b.2.2.2.1 (ah c.1) aV).1) aP).1 26)) (Z (LO.next (D.dH .i64 c.1 1,
 ()))) (Z (LO.out 0 c))))) (Z (LO.out 0 c))) n (D.dH .i64 (ak b.2.2.2.1) 1,())) λc=>LO.el c (λ_ e=>aj (D.bO e.1 0) (aD (av
 b.2.2.1 b.2.1.2) (aD (KD b) (aD (cz (yg b) b.2.1.1) (Z ((aB.mk (aa.mk (dV b.2.1.1 (yg b) (aE.mk 6 3 []
 [])) b.2.1.2 b.2.1.3 b.2.1.4 b.2.1.5) 1 (aA.mk b.2.2.1 0 3 az),()),()))))) (aj (D.ep 120 (ak b.2.1.1)) (aD (av b.2.2.1 b.2.1.2)
 (aD (KD b) (aD (cz (yg b) b.2.1.1) (Z ((aB.mk (aa.mk (dV b.2.1.1 (yg b) (aE.mk 6 4 [] [])) b.2.1.2 b.2.1.3
 b.2.1.4 b.2.1.5) 1 (aA.mk b.2.2.1 0 4 az),()),()))))) (aD (eS e.1 (ak b.2.2.2.1) (ak b.2.2.2.1)) (aD (cX b.2.1.1 [aE.mk 5
 0 [] (eo b.2.2.2.1 e.1 (ak b.2.2.2.1))]) (aD (eS 0 (D.add .i64 e.1 1) (ak b.2.2.2.1)) (ai (F117 n (D.dH .i64 (ak (Qe b e)) 1,()))
 λg=>ai (F74 n (b.2.2.2.2.2.1,g.1)) λh=>ai (F76 n (aa.mk (Qe b e) b.2.1.2 b.2.1.3 b.2.1.4 b.2.1.5,b.2.2.1,eo b.2.2.2.1 0
 (D.add .i64 e.1 1),b.2.2.2.2.1,h.1)) λi=>aj (D.aG i.1.1.2 1) (aD (av b.2.2.1 b.2.1.2) (aD (KD b) (aD (cz (yg b) b.2.1.1) (Z
 ((aB.mk (aa.mk (dV b.2.1.1 (yg b) (aE.mk 6 i.1.1.3.3 [] [])) b.2.1.2 b.2.1.3 b.2.1.4 b.2.1.5) 1 (aA.mk b.2.2.1 0
 i.1.1.3.3 az),()),()))))) (Z i))))))) (λ_ _=>Z ((jb,()),())) λ_ _=>Y
def amb(n:Nat):OC:=⟨125,⟨apc,K121,J,F125 n⟩,ct [k74 n,k76 n,V3 n] [(125,0,⟨[(13,de)],[],[],0⟩)] n 10 125⟩
def F129:Nat->aB×Int×Int×Int×aq×U->O IF:=
 λn b=>aj (D.aG b.1.2 1) (Z ((b.1,()),())) (ai (F73 n b.2.2.2.2) λc=>Z ((aB.mk b.1.1 1 (aA.mk b.2.1 b.2.2.1
 b.2.2.2.1 c.1.1),()),()))
def Te(n:Nat):OC:=⟨129,⟨apb,K121,J,F129 n⟩,ct [k73 n] [] n 10 129⟩
def jh(b:Xq):Int:=
 aR b.1.2 (ah b.2.1) 0
def pE(b:Xq):aq:=
 aR b.2.2.2.2.1 (ah 0) az
def yf(b:Xq):L aE:=
 cM b.1.1 [aE.mk 3 0 [pE b] []]
def Bn(b:Xq):L aE:=
 dV b.1.1 (ah (pE b).2) (aE.mk 3 0 [aR b.2.2.2.2.1 (ah 1) az] [])
def F126:Y88:=
 λn b=>aj (D.aG b.2.2.2.1 16) (aD (av 0 b.2.2.2.2.1) (aD (av 0 b.2.2.2.2.1) (aj (D.ep 120 (ak b.1.1)) (aD (av b.2.1 b.1.2) (aD
 (av (jh b) b.1.1) (aD (cz (ah (jh b)) b.1.1) (ai (F129 n (aB.mk (aa.mk (dV b.1.1 (ah (jh b)) (aE.mk 6 4
 [] [])) b.1.2 b.1.3 b.1.4 b.1.5) 1 (aA.mk b.2.1 0 4 az),b.2.1,b.2.2.2.1,0,pE b,())) λc=>Z c)))) (aD (cX b.1.1
 [aE.mk 3 0 [pE b] []]) (ai (F117 n (D.dH .i64 (ak (yf b)) 1,())) λc=>aD (av b.2.1 b.1.2) (aD (cz (ah b.2.1) b.1.2) (aD
 (av (jh b) (yf b)) (aD (cz (ah (jh b)) (yf b)) (ai (F129 n (aB.mk (aa.mk (dV (yf b) (ah (jh b))
 (aE.mk 6 0 [c.1.1] b.2.2.1)) b.1.2 b.1.3 b.1.4 b.1.5) 0 aH,b.2.1,b.2.2.2.1,0,pE b,())) λd=>Z d))))))))) (aD (av 0
 b.2.2.2.2.1) (ai (F176 n (b.1,pE b,3,())) λc=>aj (D.aK c.1.2.1) (aD (av b.2.1 b.1.2) (aD (av (jh b) b.1.1) (aD (cz (ah
 (jh b)) b.1.1) (Z ((aB.mk (aa.mk (dV b.1.1 (ah (jh b)) (aE.mk 6 2 [] [])) b.1.2 b.1.3 b.1.4 b.1.5) 1
 (aA.mk b.2.1 0 2 az),()),()))))) (aj (D.aG b.2.2.2.1 17) (aD (av 0 c.1.1.3) (aD (av 0 c.1.1.3) (aD (av b.2.1 b.1.2) (aD
 (av (jh b) b.1.1) (aD (cz (ah (jh b)) b.1.1) (ai (F129 n (aB.mk (aa.mk (dV b.1.1 (ah (jh b)) (aE.mk 6 0
 [aR c.1.1.3 (ah 0) az] b.2.2.1)) b.1.2 b.1.3 b.1.4 b.1.5) 0 aH,b.2.1,b.2.2.2.1,0,aR c.1.1.3 (ah 0) az,())) λd=>Z
 d)))))) (aD (av 0 b.2.2.2.2.1) (aD (av 1 b.2.2.2.2.1) (aD (av (pE b).2 b.1.1) (aD (cz (ah (pE b).2) b.1.1) (ai (F97 n ()) λd
 =>aD (av 1 b.2.2.2.2.1) (aD (av b.2.1 b.1.2) (aD (cz (ah b.2.1) b.1.2) (aD (av (jh b) (Bn b)) (aD (cz (ah (jh b))
 (Bn b)) (ai (F129 n (aB.mk (aa.mk (dV (Bn b) (ah (jh b)) (aE.mk 6 0 [d.1.1] b.2.2.1)) b.1.2 b.1.3 b.1.4 b.1.5)
 0 aH,b.2.1,b.2.2.2.1,0,aR b.2.2.2.2.1 (ah 1) az,())) λe=>Z e)))))))))))))
def ama(n:Nat):OC:=⟨126,⟨aeL,K121,J,F126 n⟩,ct [k97 n,V3 n,Te n,OM n] [] n 10 126⟩
def Qd:Y72:=
 ([],[],[],[],0,0,0,0,0,0,0,())
def Gf(b:Nw):Bool:=
 av b.2.2.1 b.2.1.2
def KC(b:Nw):Bool:=
 av (aR b.2.1.2 (ah b.2.2.1) 0) b.2.1.1
def u0(b:Nw):Nat:=
 ah (aR b.2.1.2 (ah b.2.2.1) 0)
def Bm(b:Nw):L aE:=
 dV b.2.1.1 (u0 b) (aE.mk 6 4 [] [])
def Ge(b:Nw)(g:T5):Int×Int×Int×aq×U:=
 (b.2.2.1,19,0,g.1)
def Qc(e:aaO):L aE:=
 [aE.mk e.2.2.1.1 e.2.2.1.2.1 e.2.2.1.2.2.1 e.2.2.1.2.2.2.1]
def Gd(b:Nw)(e:aaO):L aE:=
 cM b.2.1.1 (Qc e)
def Gc(b:Nw)(e:aaO)(g:T5):L aE:=
 dV (Gd b e) (u0 b) (aE.mk 6 0 [g.1.1] b.2.2.2.1)
def F127:Nat->Nw->O IF:=
 λn b=>ai (F176 n (b.2.1,b.2.2.2.2.1,5,())) λc=>ai (aj c.1.2.1 (ai (F97 n ()) λd=>Z (LO.next (W,Qd,(6,0,[d.1.1],
 c.1.1.4,()),()))) (ai (F97 n ()) λd=>ai (F177 n (b.1,b.2.1,b.2.2.2.2.1,d.1)) λe=>aj (D.aK e.1.2.1) (aD (Gf b) (aD (KC b)
 (aD (cz (u0 b) b.2.1.1) (Z (LO.ret ((dV b.2.1.1 (u0 b) (aE.mk 6 2 [] []),b.2.1.2,b.2.1.3,b.2.1.4,b.2.1.5,1,b.2.2.1,0,2,0,
 0,()),(6,0,[],[],()),()) ()))))) (aj (D.bO 30 (ak e.1.1.2)) (aD (Gf b) (aD (KC b) (aD (cz (u0 b) b.2.1.1) (Z (LO.ret
 ((Bm b,b.2.1.2,b.2.1.3,b.2.1.4,b.2.1.5,1,b.2.2.1,0,4,0,0,()),(6,0,[],[],()),()) ()))))) (Z (LO.next (J,Qd,(6,0,[],
 [e.1.1],()),())))))) λ(d:LO aaO U (Y72×Ab×U) Any)=>LO.jn d (λe=>aj (D.ep 120 (ak b.2.1.1)) (aD (Gf b) (aD (KC
 b) (aD (cz (u0 b) b.2.1.1) (aj (D.aK W) (aD (cX b.2.1.2 [D.dH .i64 (ak (Bm b)) 1]) (ai (F97 n ()) λg=>ai (F129 n
 (aB.mk (aa.mk (Bm b) (cM b.2.1.2 [D.dH .i64 (ak (Bm b)) 1]) b.2.1.3 b.2.1.4 b.2.1.5) 1 (aA.mk b.2.2.1 0 4
 az),Ge b g)) λh=>Z h)) (ai (F97 n ()) λg=>ai (F129 n (aB.mk (aa.mk (Bm b) b.2.1.2 b.2.1.3 b.2.1.4
 b.2.1.5) 1 (aA.mk b.2.2.1 0 4 az),Ge b g)) λh=>Z h))))) (aD (cX b.2.1.1 (Qc e)) (ai (F117 n (D.dH .i64 (ak
 (Gd b e)) 1,())) λg=>aD (Gf b) (aD (cz (ah b.2.2.1) b.2.1.2) (aD (av (aR b.2.1.2 (ah b.2.2.1) 0) (Gd b e)) (aD (cz
 (u0 b) (Gd b e)) (aj (D.aK J) (aD (cX b.2.1.2 [D.dH .i64 (ak (Gc b e g)) 1]) (ai (F97 n ()) λh=>ai (F129 n
 (aB.mk (aa.mk (Gc b e g) (cM b.2.1.2 [D.dH .i64 (ak (Gc b e g)) 1]) b.2.1.3 b.2.1.4 b.2.1.5) 0 aH,Ge b
 h)) λi=>Z i)) (ai (F97 n ()) λh=>ai (F129 n (aB.mk (aa.mk (Gc b e g) b.2.1.2 b.2.1.3 b.2.1.4 b.2.1.5) 0
 aH,Ge b h)) λi=>Z i)))))))) (λ_ _=>Y) (λe _=>Z ((aB.mk (aa.mk e.1.1 e.1.2.1 e.1.2.2.1
 e.1.2.2.2.1 e.1.2.2.2.2.1) e.1.2.2.2.2.2.1 (aA.mk e.1.2.2.2.2.2.2.1 e.1.2.2.2.2.2.2.2.1 e.1.2.2.2.2.2.2.2.2.1 (aq.mk
 e.1.2.2.2.2.2.2.2.2.2.1 e.1.2.2.2.2.2.2.2.2.2.2.1)),()),())) λ_ _=>Y
def al9(n:Nat):OC:=⟨127,⟨apa,K121,J,F127 n⟩,ct [k97 n,V3 n,Te n,OM n,agv n] [(127,1000004,⟨[(24,cZ),(0,b0z),(0,ah4)],[.slot 10,.slot 11],[],0⟩)] n 10 127⟩
def KB(b:aeq):Bool:=
 av (aR b.1.2 (ah b.2.1) 0) b.1.1
def ye(b:aeq):Nat:=
 ah (aR b.1.2 (ah b.2.1) 0)
def F128:Nat->aeq->O IF:=
 λn b=>ai (F176 n (b.1,b.2.2.2.1,6,())) λc=>aj (D.aK c.1.2.1) (aD (av b.2.1 b.1.2) (aD (KB b) (aD (cz (ye b) b.1.1)
 (Z ((aB.mk (aa.mk (dV b.1.1 (ye b) (aE.mk 6 2 [] [])) b.1.2 b.1.3 b.1.4 b.1.5) 1 (aA.mk b.2.1 0 2 az),
 ()),()))))) (aj (D.aG c.1.1.2 0) (Z ((aB.mk b.1 2 aH,()),())) (aj (D.aK (D.aG c.1.1.2 1)) (aD (av b.2.1 b.1.2) (aD
 (KB b) (aD (cz (ye b) b.1.1) (Z ((aB.mk (aa.mk (dV b.1.1 (ye b) (aE.mk 6 c.1.1.2 [] [])) b.1.2 b.1.3 b.1.4
 b.1.5) 1 (aA.mk b.2.1 0 c.1.1.2 az),()),()))))) (aD (av 0 c.1.1.3) (aD (av 0 c.1.1.3) (aD (av b.2.1 b.1.2) (aD (KB b) (aD
 (cz (ye b) b.1.1) (ai (F129 n (aB.mk (aa.mk (dV b.1.1 (ye b) (aE.mk 6 0 [aR c.1.1.3 (ah 0) az] b.2.2.1))
 b.1.2 b.1.3 b.1.4 b.1.5) 0 aH,b.2.1,20,0,aR c.1.1.3 (ah 0) az,())) λd=>Z d))))))))
def al8(n:Nat):OC:=⟨128,⟨ao9,K121,J,F128 n⟩,ct [Te n,OM n] [] n 10 128⟩
def pz(b:Xq):Int:=
 aR b.1.2 (ah b.2.1) 0
def Bl(b:Xq):Nat:=
 ah (aR b.2.2.2.2.1 (ah 0) az).2
def Gb(b:Xq)(d:Y44):L aE:=
 dV b.1.1 (Bl b) (aE.mk 4 0 d.1.1 [])
def Ga(b:Xq)(c:Y34×U):L aE:=
 dV b.1.1 (Bl b) (aE.mk 4 0 (eo c.1.1.3 1 (ak c.1.1.3)) [])
def F130:Y88:=
 λn b=>aD (av 0 b.2.2.2.2.1) (ai (F176 n (b.1,aR b.2.2.2.2.1 (ah 0) az,4,())) λc=>aj (D.aK c.1.2.1) (aD (av b.2.1 b.1.2)
 (aD (av (pz b) b.1.1) (aD (cz (ah (pz b)) b.1.1) (Z ((aB.mk (aa.mk (dV b.1.1 (ah (pz b)) (aE.mk 6 2
 [] [])) b.1.2 b.1.3 b.1.4 b.1.5) 1 (aA.mk b.2.1 0 2 az),()),()))))) (aj (D.aG b.2.2.2.1 22) (aj (D.ep 4 (ak c.1.1.3)) (Z
 ((aB.mk b.1 2 aH,()),())) (aD (av 0 b.2.2.2.2.1) (aD (av 1 b.2.2.2.2.1) (ai (F74 n (c.1.1.3,aR b.2.2.2.2.1 (ah 1)
 az,())) λd=>aD (av (aR b.2.2.2.2.1 (ah 0) az).2 b.1.1) (aD (cz (Bl b) b.1.1) (ai (F97 n ()) λe=>aD (av 1
 b.2.2.2.2.1) (aD (av b.2.1 b.1.2) (aD (cz (ah b.2.1) b.1.2) (aD (av (pz b) (Gb b d)) (aD (cz (ah (pz b)) (Gb b d)) (ai
 (F129 n (aB.mk (aa.mk (dV (Gb b d) (ah (pz b)) (aE.mk 6 0 [e.1.1] b.2.2.1)) b.1.2 b.1.3 b.1.4 b.1.5) 0 aH,
 b.2.1,b.2.2.2.1,0,aR b.2.2.2.2.1 (ah 1) az,())) λg=>Z g))))))))))) (aj (D.aG (ak c.1.1.3) 0) (Z ((aB.mk b.1 2
 aH,()),())) (aD (av 0 b.2.2.2.2.1) (aD (eS 1 (ak c.1.1.3) (ak c.1.1.3)) (aD (av (aR b.2.2.2.2.1 (ah 0) az).2 b.1.1)
 (aD (cz (Bl b) b.1.1) (aD (av 0 c.1.1.3) (aD (av 0 c.1.1.3) (aD (av b.2.1 b.1.2) (aD (cz (ah b.2.1) b.1.2) (aD (av (pz b)
 (Ga b c)) (aD (cz (ah (pz b)) (Ga b c)) (ai (F129 n (aB.mk (aa.mk (dV (Ga b c) (ah (pz b)) (aE.mk
 6 0 [aR c.1.1.3 (ah 0) az] b.2.2.1)) b.1.2 b.1.3 b.1.4 b.1.5) 0 aH,b.2.1,b.2.2.2.1,0,aR c.1.1.3 (ah 0) az,())) λd=>
 Z d))))))))))))))
def al7(n:Nat):OC:=⟨130,⟨aeL,K121,J,F130 n⟩,ct [k74 n,k97 n,Te n,OM n] [] n 10 130⟩
def Bj(b:T6):Bool:=
 cz (ah b.2.1) b.1.2
def Bi(b:T6):Bool:=
 av (aR b.1.2 (ah b.2.1) 0) b.1.1
def yd(b:T6):Nat:=
 ah (aR b.1.2 (ah b.2.1) 0)
def Bh(b:T6):Bool:=
 cz (yd b) b.1.1
def KA(n:Nat)(b:T6):O IF:=
 aD (av b.2.1 b.1.2) (aD (Bj b) (aD (Bi b) (aD (Bh b) (Z ((aB.mk (aa.mk (dV b.1.1 (yd b) (aE.mk 6 4
 [] [])) b.1.2 b.1.3 b.1.4 b.1.5) 1 (aA.mk b.2.1 0 4 az),()),())))))
def F131:Nat->T6->O IF:=
 λn b=>aj (D.aG b.2.2.2.1.1 25) (aj (D.aG (ak b.1.4) 0) (Z ((aB.mk b.1 2 aH,()),())) (aD (av 0 b.1.4) (aD (cz
 (ah 0) b.1.4) (ai (F25 n (aR b.1.4 (ah 0) 0,())) λc=>aj (D.ep 1000000000 b.1.5) (KA n b) (aD (eS 1 (ak b.1.4) (ak b.1.4)) (aD
 (av b.2.1 b.1.2) (aD (Bj b) (aD (Bi b) (aD (Bh b) (ai (F129 n (aB.mk (aa.mk (dV b.1.1 (yd b) (aE.mk 6 0
 [c.1.1] b.2.2.1)) b.1.2 b.1.3 (eo b.1.4 1 (ak b.1.4)) (D.add .i64 b.1.5 1)) 0 aH,b.2.1,b.2.2.2.1.1,0,c.1)) λd=>Z d))))))))))
 (aD (av 0 b.2.2.2.2.1) (aj (D.aK (D.aG (aR b.2.2.2.2.1 (ah 0) az).1 1)) (aD (av b.2.1 b.1.2) (aD (Bj b) (aD (Bi b) (aD
 (Bh b) (Z ((aB.mk (aa.mk (dV b.1.1 (yd b) (aE.mk 6 2 [] [])) b.1.2 b.1.3 b.1.4 b.1.5) 1 (aA.mk b.2.1 0 2
 az),()),())))))) (aj (D.ep 100 (ak b.1.3)) (KA n b) (aD (av 0 b.2.2.2.2.1) (aD (cX b.1.3 [cS.mk b.2.2.2.1.2 (aR b.2.2.2.2.1
 (ah 0) az).2]) (ai (F97 n ()) λc=>aD (av 0 b.2.2.2.2.1) (aD (av b.2.1 b.1.2) (aD (Bj b) (aD (Bi b) (aD (Bh b) (ai
 (F129 n (aB.mk (aa.mk (dV b.1.1 (yd b) (aE.mk 6 0 [c.1.1] b.2.2.1)) b.1.2 (cM b.1.3 [cS.mk b.2.2.2.1.2 (aR
 b.2.2.2.2.1 (ah 0) az).2]) b.1.4 b.1.5) 0 aH,b.2.1,b.2.2.2.1.1,b.2.2.2.1.2,aR b.2.2.2.2.1 (ah 0) az,())) λd=>Z
 d)))))))))))
def al6(n:Nat):OC:=⟨131,⟨ao8,K121,J,F131 n⟩,ct [k25 n,k97 n,Te n] [] n 10 131⟩
def cw(b:tM):bp:=
 aR b.1.1 (ah b.2.2.2.2.1.1) aP
def kA(b:tM):Bool:=
 av b.2.2.1 b.2.1.2
def iF(b:tM):Int:=
 aR b.2.1.2 (ah b.2.2.1) 0
def l7(b:tM):Bool:=
 av (iF b) b.2.1.1
def l6(b:tM):Bool:=
 cz (ah (iF b)) b.2.1.1
def qd(b:tM)(c:T5):aE:=
 aE.mk 6 0 [c.1.1] b.2.2.2.1
def tw(b:tM)(c:T5):aB:=
 aB.mk (aa.mk (dV b.2.1.1 (ah (iF b)) (qd b c)) b.2.1.2 b.2.1.3 b.2.1.4 b.2.1.5) 0 aH
def rG(n:Nat)(b:tM):T5->O IF:=
 λc=>aD (kA b) (aD (l7 b) (aD (l6 b) (Z ((tw b c,()),()))))
def Cf(n:Nat)(b:tM):O IF:=
 aD (kA b) (aD (l7 b) (aD (l6 b) (Z ((aB.mk (aa.mk (dV b.2.1.1 (ah (iF b)) (aE.mk 6 2 [] [])) b.2.1.2
 b.2.1.3 b.2.1.4 b.2.1.5) 1 (aA.mk b.2.2.1 0 2 az),()),()))))
def FM(b:tM):aB:=
 aB.mk (aa.mk (dV b.2.1.1 (ah (iF b)) (aE.mk 6 4 [] [])) b.2.1.2 b.2.1.3 b.2.1.4 b.2.1.5) 1 (aA.mk b.2.2.1 0 4
 az)
def Kn(n:Nat)(b:tM):O IF:=
 aD (kA b) (aD (l7 b) (aD (l6 b) (Z ((FM b,()),()))))
def FL(b:tM):L aE:=
 cM b.2.1.1 [aE.mk 2 b.2.2.2.2.1.1 b.2.2.2.2.1.2 []]
def ie(b:tM):Bool:=
 av 0 b.2.2.2.2.1.3
def gT(b:tM):aq:=
 aR b.2.2.2.2.1.3 (ah 0) az
def gG(n:Nat):Nx->O Nx:=
 λc=>LO.jn c (λd=>Z (LO.next d)) (λ_ _=>Y) (λ_ _=>Z (LO.ret () ())) λ_ _=>Y
def FK(b:tM):L aE:=
 cM b.2.1.1 [aE.mk 1 (cw b).2 b.2.2.2.2.1.3 []]
def xZ(b:tM):Xq:=
 (b.2.1,b.2.2.1,b.2.2.2.1,(cw b).1,b.2.2.2.2.1.3,())
def FJ(b:tM):L aE:=
 cM b.2.1.1 [aE.mk 4 0 [] []]
def Km(n:Nat):U->U->O IF:=
 λ_ _=>Z ((jb,()),())
def F77:Nat->tM->O IF:=
 λn b=>aD (av b.2.2.2.2.1.1 b.1.1) (aj (D.aG (cw b).1 1) (ai (F25 n ((cw b).2,())) (rG n b)) (aj (D.aG (cw b).1 2) (ai (F120
 n (D.aG (cw b).2 1,())) (rG n b)) (aj (D.aG (cw b).1 3) (ai (F97 n ()) (rG n b)) (aj (D.aG (cw b).1 4) (aj (D.bO (cw b).2 0)
 (aD (kA b) (aD (l7 b) (aD (l6 b) (Z ((aB.mk (aa.mk (dV b.2.1.1 (ah (iF b)) (aE.mk 6 0 [aq.mk 4
 (D.dH .i64 (-1) (cw b).2)] b.2.2.2.1)) b.2.1.2 b.2.1.3 b.2.1.4 b.2.1.5) 0 aH,()),()))))) (aj (D.ep (ak b.2.2.2.2.1.2) (cw b).2)
 (Cf n b) (aD (av (cw b).2 b.2.2.2.2.1.2) (aD (kA b) (aD (l7 b) (aD (l6 b) (Z ((aB.mk (aa.mk (dV b.2.1.1
 (ah (iF b)) (aE.mk 6 0 [aR b.2.2.2.2.1.2 (ah (cw b).2) az] b.2.2.2.1)) b.2.1.2 b.2.1.3 b.2.1.4 b.2.1.5) 0 aH,()),
 ())))))))) (aj (D.aG (cw b).1 5) (aj (D.ep 120 (ak b.2.1.1)) (Kn n b) (aD (cX b.2.1.1 [aE.mk 2 b.2.2.2.2.1.1 b.2.2.2.2.1.2 []])
 (ai (F117 n (D.dH .i64 (ak (FL b)) 1,())) λc=>aD (kA b) (aD (cz (ah b.2.2.1) b.2.1.2) (aD (av (iF b) (FL b)) (aD
 (cz (ah (iF b)) (FL b)) (Z ((aB.mk (aa.mk (dV (FL b) (ah (iF b)) (qd b c)) b.2.1.2 b.2.1.3 b.2.1.4
 b.2.1.5) 0 aH,()),())))))))) (aj (D.aG (cw b).1 6) (aD (ie b) (aD (av 1 b.2.2.2.2.1.3) (ai (F122 n (b.1,b.2.1,b.2.2.1,
 b.2.2.2.1,gT b,aR b.2.2.2.2.1.3 (ah 1) az,())) λc=>Z c))) (aj (D.aG (cw b).1 7) (aD (av 1 (cw b).3) (aD (ie b)
 (ai (F74 n (b.2.2.2.2.1.2,gT b,())) λc=>ai (F76 n (b.2.1,b.2.2.1,b.2.2.2.1,aR (cw b).3 (ah 1) 0,c.1)) λd=>Z d))) (aj
 (D.aG (cw b).1 8) (aD (ie b) (aj (D.aK (D.aG (gT b).1 2)) (Cf n b) (aD (ie b) (aD (av (D.dH .i64 2 (gT b).2) (cw
 b).3) (ai (F76 n (b.2.1,b.2.2.1,b.2.2.2.1,aR (cw b).3 (ah (D.dH .i64 2 (gT b).2)) 0,b.2.2.2.2.1.2,())) λc=>Z c))))) (ai (aj
 (D.aG (cw b).1 9) (Z (LO.next (W,()))) (ai (aj (D.aG (cw b).1 10) (Z (LO.next (W,()))) (ai (aj (D.aG (cw b).1 11) (Z
 (LO.next (W,()))) (ai (aj (D.aG (cw b).1 12) (Z (LO.next (W,()))) (Z (LO.next (D.aG (cw b).1 13,())))) (gG n))) (gG
 n))) (gG n))) λ(c:Nx)=>LO.jn c (λd=>aj d.1 (aD (ie b) (aD (av 1 b.2.2.2.2.1.3) (ai (F123 n (b.2.1,b.2.2.1,b.2.2.2.1,
 (cw b).1,gT b,aR b.2.2.2.2.1.3 (ah 1) az,())) λe=>Z e))) (aj (D.aG (cw b).1 14) (aj (D.ep 120 (ak b.2.1.1)) (Kn
 n b) (aD (cX b.2.1.1 [aE.mk 1 (cw b).2 b.2.2.2.2.1.3 []]) (ai (F117 n (D.dH .i64 (ak (FK b)) 1,())) λe=>aD (kA b) (aD
 (cz (ah b.2.2.1) b.2.1.2) (aD (av (iF b) (FK b)) (aD (cz (ah (iF b)) (FK b)) (Z ((aB.mk (aa.mk (dV
 (FK b) (ah (iF b)) (qd b e)) b.2.1.2 b.2.1.3 b.2.1.4 b.2.1.5) 0 aH,()),())))))))) (aj (D.aG (cw b).1 15) (aD (ie b)
 (ai (F124 n (b.2.1,b.2.2.1,b.2.2.2.1,cw b,b.2.2.2.2.1.2,gT b,())) λe=>Z e)) (aj (D.aG (cw b).1 26) (aD (ie b) (aD
 (kA b) (aD (l7 b) (aD (l6 b) (Z ((aB.mk (aa.mk (dV b.2.1.1 (ah (iF b)) (aE.mk 6 0 [gT b] b.2.2.2.1))
 b.2.1.2 b.2.1.3 b.2.1.4 b.2.1.5) 0 aH,()),())))))) (aj (D.aG (cw b).1 27) (aD (av 0 (cw b).3) (ai (F125 n (b.1,b.2.1,b.2.2.1,
 b.2.2.2.1,aR (cw b).3 (ah 0) 0,b.2.2.2.2.1.2,())) λe=>Z e)) (ai (aj (D.aG (cw b).1 16) (Z (LO.next (W,()))) (ai (aj
 (D.aG (cw b).1 17) (Z (LO.next (W,()))) (Z (LO.next (D.aG (cw b).1 18,())))) λ(e:Nx)=>LO.jn e (λg=>Z (LO.next g))
 (λ_ _=>Y) (λ_ _=>Z (LO.ret () ())) λ_ _=>Y)) λ(e:Nx)=>LO.jn e (λg=>aj g.1 (ai (F126 n (xZ b)) λh=>Z
 h) (aj (D.aG (cw b).1 19) (aD (ie b) (ai (F127 n (b.1,b.2.1,b.2.2.1,b.2.2.2.1,gT b,())) λh=>Z h)) (aj (D.aG (cw b).1
 20) (aD (ie b) (ai (F128 n (b.2.1,b.2.2.1,b.2.2.2.1,gT b,())) λh=>Z h)) (aj (D.aG (cw b).1 21) (aj (D.ep 120 (ak
 b.2.1.1)) (aD (kA b) (aD (l7 b) (aD (l6 b) (ai (F97 n ()) λh=>ai (F129 n (FM b,b.2.2.1,(cw b).1,0,h.1)) λi=>Z
 i)))) (aD (cX b.2.1.1 [aE.mk 4 0 [] []]) (ai (F117 n (D.dH .i64 (ak (FJ b)) 1,())) λh=>aD (kA b) (aD (cz (ah b.2.2.1)
 b.2.1.2) (aD (av (iF b) (FJ b)) (aD (cz (ah (iF b)) (FJ b)) (ai (F97 n ()) λi=>ai (F129 n (aB.mk (aa.mk
 (dV (FJ b) (ah (iF b)) (qd b h)) b.2.1.2 b.2.1.3 b.2.1.4 b.2.1.5) 0 aH,b.2.2.1,(cw b).1,0,i.1)) λj=>Z j)))))))
 (ai (aj (D.aG (cw b).1 22) (Z (LO.next (W,()))) (Z (LO.next (D.aG (cw b).1 23,())))) λ(h:Nx)=>LO.jn h (λi=>aj i.1
 (ai (F130 n (xZ b)) λj=>Z j) (ai (aj (D.aG (cw b).1 24) (Z (LO.next (W,()))) (Z (LO.next (D.aG (cw b).1 25,())))) λ
 (j:Nx)=>LO.jn j (λk=>aj k.1 (ai (F131 n (b.2.1,b.2.2.1,b.2.2.2.1,cw b,b.2.2.2.2.1.3,())) λl=>Z l) (ai (F97 n ()) λl=>
 aD (kA b) (aD (l7 b) (aD (l6 b) (ai (F97 n ()) λm=>ai (F129 n (tw b l,b.2.2.1,28,0,m.1)) λo=>Z o))))) (λ_ _=>
 Y) (Km n) λ_ _=>Y)) (λ_ _=>Y) (Km n) λ_ _=>Y))))) (λ_ _=>Y) (Km n) λ_ _=>Y)))))) (λ_ _=>
 Y) (Km n) λ_ _=>Y)))))))))
def k77(n:Nat):OC:=⟨77,⟨ao7,K121,J,F77 n⟩,ct [k25 n,k74 n,k76 n,k97 n,V3 n,ac6 n,ame n,amd n,amc n,amb n,ama n,al9 n,al8 n,Te n,al7 n,al6 n] [(77,1000026,⟨[(146,cZ)],[],[],0⟩),(77,1000027,⟨[(146,cZ)],[],[],0⟩),(77,1000028,⟨[(146,cZ)],[],[],0⟩),(77,1000029,⟨[(146,cZ)],[],[],0⟩),(77,1000040,⟨[(208,cZ)],[],[],0⟩),(77,1000041,⟨[(208,cZ)],[],[],0⟩),(77,1000050,⟨[(250,cZ)],[],[],0⟩),(77,1000053,⟨[(260,cZ)],[],[],0⟩)] n 10 77⟩
def RY(b:Xr):Bool:=
 av (aR b.2.1.2 (ah b.2.2.1) 0) b.2.1.1
def kZ(b:Xr):Nat:=
 ah (aR b.2.1.2 (ah b.2.2.1) 0)
def tB(b:Xr):Int:=
 D.dH .i64 (ak (aR b.2.1.1 (kZ b) aU).4) 1
def RX(b:Xr):Bool:=
 av (tB b) (aR b.2.1.1 (kZ b) aU).4
def rH(b:Xr):au:=
 aR (aR b.2.1.1 (kZ b) aU).4 (ah (tB b)) aV
def F40:Nat->Xr->O IF:=
 λn b=>aD (av b.2.2.1 b.2.1.2) (aD (RY b) (aj (D.aK (D.aG (aR b.2.1.1 (kZ b) aU).2 0)) (Z ((aB.mk b.2.1 2
 aH,()),())) (aj (D.aG (ak (aR b.2.1.1 (kZ b) aU).3) 1) (aD (av 0 (aR b.2.1.1 (kZ b) aU).3) (aj (D.bO (tB b)
 0) (aD (av b.2.2.1 b.2.1.2) (aD (RY b) (aD (cz (kZ b) b.2.1.1) (ai (F73 n (aR (aR b.2.1.1 (kZ b) aU).3 (ah 0) az,()))
 λc=>Z ((aB.mk (aa.mk (dV b.2.1.1 (kZ b) (aE.mk 6 1 [aR (aR b.2.1.1 (kZ b) aU).3 (ah 0) az] []))
 b.2.1.2 b.2.1.3 b.2.1.4 b.2.1.5) 1 (aA.mk b.2.2.1 0 1 c.1.1),()),()))))) (aD (RX b) (aD (cz (ah (tB b)) (aR b.2.1.1 (kZ b)
 aU).4) (ai (F74 n ((rH b).3,aR (aR b.2.1.1 (kZ b) aU).3 (ah 0) az,())) λc=>aD (RX b) (aD (cz (ah (tB
 b)) (aR b.2.1.1 (kZ b) aU).4) (aD (av b.2.2.1 b.2.1.2) (aD (RY b) (aD (cz (kZ b) b.2.1.1) (Z ((aB.mk
 (aa.mk (dV b.2.1.1 (kZ b) (aE.mk 6 0 [] (dV (aR b.2.1.1 (kZ b) aU).4 (ah (tB b)) (au.mk (rH b).1 (rH
 b).2 c.1.1)))) b.2.1.2 b.2.1.3 b.2.1.4 b.2.1.5) 0 aH,()),()))))))))))) (aD (RX b) (aD (av (rH b).1 b.1.1) (ai (F75 n (aR b.1.1
 (ah (rH b).1) aP,())) λc=>aj (D.bO (ak (rH b).3) c.1.1) (aD (av (ak (rH b).3) (aR b.1.1 (ah (rH b).1)
 aP).3) (ai (F76 n (b.2.1,b.2.2.1,(aR b.2.1.1 (kZ b) aU).4,aR (aR b.1.1 (ah (rH b).1) aP).3 (ah (ak (rH b).3))
 0,(rH b).2,())) λd=>Z d)) (aD (eS 0 (tB b) (ak (aR b.2.1.1 (kZ b) aU).4)) (ai (F77 n (b.1,b.2.1,b.2.2.1,eo (aR
 b.2.1.1 (kZ b) aU).4 0 (tB b),rH b,())) λd=>Z d))))))))
def k40(n:Nat):OC:=⟨40,⟨P68,K121,J,F40 n⟩,ct [k73 n,k74 n,k75 n,k76 n,k77 n] [] n 10 40⟩
def X1(c:Y71):aa:=
 aa.mk c.2.2.1.1 c.2.2.1.2.1 c.2.2.1.2.2.1 c.2.2.1.2.2.2.1 c.2.2.1.2.2.2.2.1
def IN(g:IF):Y72×U:=
 ((g.1.1.1.1,g.1.1.1.2,g.1.1.1.3,g.1.1.1.4,g.1.1.1.5,g.1.1.2,g.1.1.3.1,g.1.1.3.2,g.1.1.3.3,g.1.1.3.4.1,g.1.1.3.4.2,()),())
def F33:Nat->Xr->O Y73:=
 λn b=>ai (@iter (Y71) (Int×Bool×U) (wY×wY×U) (Any) (λc=>aj (D.bO c.2.1 (ak c.2.2.1.2.1)) (ai (F40 n (b.1,X1 c,
 c.2.1,())) λd=>ai (@iter (Int×wY×wY×Y72×U) (Int×Bool×U) (wY×wY×Y72×U) (Any) (λe=>aj (D.aG
 e.2.2.2.1.2.2.2.2.2.1 0) (aj (D.bO 5000 (D.add .i64 e.1 1)) (Z (LO.ret (e.2.1,e.2.1,e.2.2.2) (D.add .i64 e.1 1,J,()))) (ai (F40 n (b.1,
 aa.mk e.2.2.2.1.1 e.2.2.2.1.2.1 e.2.2.2.1.2.2.1 e.2.2.2.1.2.2.2.1 e.2.2.2.1.2.2.2.2.1,c.2.1,())) λg=>Z (LO.next (D.add .i64 e.1 1,
 (e.2.2.2.1.1,e.2.2.2.1.2.1,e.2.2.2.1.2.2.1,e.2.2.2.1.2.2.2.1,e.2.2.2.1.2.2.2.2.1,()),e.2.2.1,IN g)))) (Z (LO.out 0 e))) n (c.1,c.2.2.1,
 c.2.2.2.1,IN d)) λe=>LO.el e (λ_ h=>Z (LO.next (h.1,D.add .i64 c.2.1 1,h.2.1,h.2.2.1,()))) (λg h=>Z (LO.ret (g.1,g.2.1,
 ()) h)) λ_ _=>Y) (Z (LO.out 0 c))) n (b.2.2.1,0,(b.2.1.1,b.2.1.2,b.2.1.3,b.2.1.4,b.2.1.5,()),([],[],[],[],0,()),())) λc=>
 LO.el c (λ_ e=>Z ((X1 e,e.1,W,()),())) (λd e=>Z ((aa.mk d.2.1.1 d.2.1.2.1 d.2.1.2.2.1 d.2.1.2.2.2.1 d.2.1.2.2.2.2.1,
 e),())) λ_ _=>Y
def k33(n:Nat):OC:=⟨33,⟨P68,K135,J,F33 n⟩,ct [k40 n] [(33,0,⟨[(2,de),(9,de),(0,b4z),(0,b4z)],[.slot 4,.slot 6],[],0⟩),(33,2,⟨[(2,de),(0,b4z),(0,b4z),(0,b0z)],[.slot 4,.slot 6,.slot 10],[],0⟩)] n 10 33⟩
def F65:Nat->L aq×U->O fc:=
 λn b=>Z ((D.ep (ak b.1) 40,()),())
def k65(n:Nat):OC:=⟨65,⟨P50,K4,J,F65 n⟩,ct [] [] n 10 65⟩
def F35:Y90:=
 λn b=>aj (D.bO 130 (ak b.1.1)) (Z ((J,()),())) (aj (D.bO 130 (ak b.1.2)) (Z ((J,()),())) (aj (D.bO 110 (ak b.1.3))
 (Z ((J,()),())) (aj (D.bO 60 (ak b.1.4)) (Z ((J,()),())) (ai (@iter (Int×U) (Bool×U) (U) (Any) (λc=>aj (D.bO
 c.1 (ak b.1.1)) (aD (av c.1 b.1.1) (ai (F65 n ((aR b.1.1 (ah c.1) aU).3,())) λd=>aj (D.aK d.1.1) (Z (LO.ret () (J,())))
 (aj (D.bO 50 (ak (aR b.1.1 (ah c.1) aU).4)) (Z (LO.ret () (J,()))) (ai (@iter (Int×U) (Bool×U) (U) (Any) (λe=>
 aj (D.bO e.1 (ak (aR b.1.1 (ah c.1) aU).4)) (aD (av e.1 (aR b.1.1 (ah c.1) aU).4) (ai (F65 n ((aR (aR b.1.1 (ah c.1)
 aU).4 (ah e.1) aV).2,())) λg=>aj (D.aK g.1.1) (Z (LO.ret () (J,()))) (aD (av e.1 (aR b.1.1 (ah c.1) aU).4)
 (ai (F65 n ((aR (aR b.1.1 (ah c.1) aU).4 (ah e.1) aV).3,())) λh=>aj (D.aK h.1.1) (Z (LO.ret () (J,()))) (Z
 (LO.next (D.add .i64 e.1 1,()))))))) (Z (LO.out 0 e))) n (0,())) λe=>LO.el e (λ_ _=>Z (LO.next (D.add .i64 c.1 1,()))) (λ_ h=>
 Z (LO.ret () h)) λ_ _=>Y)))) (Z (LO.out 0 c))) n (0,())) λc=>LO.el c (λ_ _=>Z ((W,()),())) (λ_ e=>Z (e,()))
 λ_ _=>Y))))
def k35(n:Nat):OC:=⟨35,⟨aeM,K4,J,F35 n⟩,ct [k65 n] [(35,0,⟨[(3,de)],[],[],0⟩),(35,2,⟨[(5,de)],[],[],0⟩)] n 10 35⟩
def F20:Y21:=
 λn b=>ai (F12 n (b.1,())) λc=>aj c.1.1 (ai (F35 n b.2) λd=>Z d) (Z ((J,()),()))
def k20(n:Nat):OC:=⟨20,⟨P67,K4,J,F20 n⟩,ct [k12 n,k35 n] [] n 10 20⟩
def F105:aiB:=
 λn b=>ai (@iter (Int×U) (Bool×U) (U) (Any) (λc=>aj (D.bO c.1 (ak b.1)) (aD (av c.1 b.1) (aj (D.aG (aR b.1 (ah c.1)
 0) b.2.1) (Z (LO.ret () (W,()))) (Z (LO.next (D.add .i64 c.1 1,()))))) (Z (LO.out 0 c))) n (0,())) λc=>LO.el c (λ_ _=>Z
 ((J,()),())) (λ_ e=>Z (e,())) λ_ _=>Y
def ami(n:Nat):OC:=⟨105,⟨aiN,K4,J,F105 n⟩,ct [] [(105,0,⟨[(5,de)],[],[],0⟩)] n 10 105⟩
def NL(b:aa×U)(g:Int×U):Int:=
 aR b.1.2 (ah g.1) 0
def F66:Y90:=
 λn b=>ai (@iter (Int×Int×U) (Bool×U) (U) (Any) (λc=>aj (D.bO c.2.1 (ak b.1.1)) (aD (av c.2.1 b.1.1) (aj (D.aG (aR
 b.1.1 (ah c.2.1) aU).1 6) (Z (LO.next (D.add .i64 c.1 1,D.add .i64 c.2.1 1,()))) (Z (LO.next (c.1,D.add .i64 c.2.1 1,()))))) (Z
 (LO.out 0 c))) n (0,0,())) λc=>LO.el c (λ_ e=>aj (D.aK (D.aG (ak b.1.2) e.1)) (Z ((J,()),())) (ai (@iter (Int×U) (Bool
 ×U) (U) (Any) (λg=>aj (D.bO g.1 e.1) (aD (av g.1 b.1.2) (ai (F55 n (NL b g,0,D.dH .i64 (ak b.1.1) 1,())) λh=>aj
 (D.aK h.1.1) (Z (LO.ret () (J,()))) (aD (av (NL b g) b.1.1) (aj (D.aK (D.aG (aR b.1.1 (ah (NL b g)) aU).1 6)) (Z
 (LO.ret () (J,()))) (aD (eS 0 g.1 (ak b.1.2)) (ai (F105 n (eo b.1.2 0 g.1,NL b g,())) λi=>aj i.1.1 (Z (LO.ret () (J,
 ()))) (Z (LO.next (D.add .i64 g.1 1,()))))))))) (Z (LO.out 0 g))) n (0,())) λg=>LO.el g (λ_ _=>Z ((W,()),())) (λ_ i=>
 Z (i,())) λ_ _=>Y)) (λ_ e=>Z (e,())) λ_ _=>Y
def k66(n:Nat):OC:=⟨66,⟨aeM,K4,J,F66 n⟩,ct [k55 n,ami n] [(66,0,⟨[(3,de),(4,de)],[],[],0⟩),(66,2,⟨[(5,de)],[],[],0⟩)] n 10 66⟩
def F169:Nat->ax×aa×aq×U->O fc:=
 λn b=>aj (D.aG b.2.2.1.1 1) (ai (F55 n (b.2.2.1.2,(-1000000000),1000000000,())) λc=>Z c) (aj (D.aG b.2.2.1.1 2) (ai (F55 n
 (b.2.2.1.2,0,1,())) λc=>Z c) (aj (D.aG b.2.2.1.1 3) (Z ((D.aG b.2.2.1.2 0,()),())) (aj (D.aG b.2.2.1.1 4) (ai (F55 n (b.2.2.1.2,
 0,D.dH .i64 (ak b.1.2) 1,())) λc=>Z c) (aj (D.aG b.2.2.1.1 5) (ai (F55 n (b.2.2.1.2,0,D.dH .i64 (ak b.2.1.1) 1,())) λc=>
 Z c) (Z ((J,()),()))))))
def alO(n:Nat):OC:=⟨169,⟨ao6,K4,J,F169 n⟩,ct [k55 n] [] n 10 169⟩
def F109:Nat->ax×aa×L aq×Int×U->O fc:=
 λn b=>ai (@iter (Int×U) (Bool×U) (U) (Any) (λc=>aj (D.bO c.1 (ak b.2.2.1)) (aj (D.ep c.1 b.2.2.2.1) (aD (av c.1
 b.2.2.1) (ai (F169 n (b.1,b.2.1,aR b.2.2.1 (ah c.1) az,())) λd=>aj (D.aK d.1.1) (Z (LO.ret () (J,()))) (Z (LO.next
 (D.add .i64 c.1 1,()))))) (Z (LO.out 0 c))) (Z (LO.out 0 c))) n (0,())) λc=>LO.el c (λ_ _=>Z ((D.ep (ak b.2.2.1) b.2.2.2.1,
 ()),())) (λ_ e=>Z (e,())) λ_ _=>Y
def ac8(n:Nat):OC:=⟨109,⟨ao5,K4,J,F109 n⟩,ct [alO n] [(109,0,⟨[(9,de)],[],[],0⟩)] n 10 109⟩
def F107:Nat->ax×aa×L au×U->O fc:=
 λn b=>ai (@iter (Int×U) (Bool×U) (U) (Any) (λc=>aj (D.bO c.1 (ak b.2.2.1)) (aj (D.ep c.1 40) (aD (av c.1 b.2.2.1) (ai
 (F55 n ((aR b.2.2.1 (ah c.1) aV).1,0,D.dH .i64 (ak b.1.1) 1,())) λd=>aj (D.aK d.1.1) (Z (LO.ret () (J,()))) (ai
 (F109 n (b.1,b.2.1,(aR b.2.2.1 (ah c.1) aV).2,30,())) λe=>aj (D.aK e.1.1) (Z (LO.ret () (J,()))) (aD (av (aR b.2.2.1
 (ah c.1) aV).1 b.1.1) (ai (F75 n (aR b.1.1 (ah (aR b.2.2.1 (ah c.1) aV).1) aP,())) λg=>ai (F109 n (b.1,b.2.1,
 (aR b.2.2.1 (ah c.1) aV).3,g.1)) λh=>aj (D.aK h.1.1) (Z (LO.ret () (J,()))) (Z (LO.next (D.add .i64 c.1 1,()))))))))
 (Z (LO.out 0 c))) (Z (LO.out 0 c))) n (0,())) λc=>LO.el c (λ_ _=>Z ((D.ep (ak b.2.2.1) 40,()),())) (λ_ e=>Z (e,()))
 λ_ _=>Y
def agD(n:Nat):OC:=⟨107,⟨ao4,K4,J,F107 n⟩,ct [k55 n,k75 n,ac8 n] [(107,0,⟨[(7,de)],[],[],0⟩)] n 10 107⟩
def F108:Nat->ax×L au×Int×U->O fc:=
 λn b=>ai (@iter (Int×U) (Bool×U) (U) (Any) (λc=>aj (D.bO c.1 b.2.2.1) (aD (av c.1 b.2.1) (aD (av c.1 b.2.1) (aD (av
 (aR b.2.1 (ah c.1) aV).1 b.1.1) (ai (F75 n (aR b.1.1 (ah (aR b.2.1 (ah c.1) aV).1) aP,())) λd=>aj (D.ep d.1.1
 (ak (aR b.2.1 (ah c.1) aV).3)) (Z (LO.ret () (J,()))) (Z (LO.next (D.add .i64 c.1 1,()))))))) (Z (LO.out 0 c))) n (0,()))
 λc=>LO.el c (λ_ _=>Z ((W,()),())) (λ_ e=>Z (e,())) λ_ _=>Y
def agC(n:Nat):OC:=⟨108,⟨ao3,K4,J,F108 n⟩,ct [k75 n] [(108,0,⟨[(7,de)],[],[],0⟩)] n 10 108⟩
def u5(n:Nat):O fc:=
 Z ((J,()),())
def F106:Y58:=
 λn b=>aj (D.aG b.2.2.1.2 0) (ai (F107 n (b.1,b.2.1,b.2.2.1.4,())) λc=>aj c.1.1 (ai (F109 n (b.1,b.2.1,b.2.2.1.3,1,())) λd=>
 aj d.1.1 (aj (D.bO 0 (D.add .i64 (ak b.2.2.1.4) (ak b.2.2.1.3))) (ai (F108 n (b.1,b.2.2.1.4,OA (ak b.2.2.1.4) (El 0 (D.add .i64 (D.dH .i64
 (ak b.2.2.1.4) 1) (ak b.2.2.1.3))),())) λe=>Z e) (u5 n)) (u5 n)) (u5 n)) (aj (D.aG b.2.2.1.2 1) (aj (D.aG (ak b.2.2.1.4)
 0) (aj (D.aG (ak b.2.2.1.3) 1) (ai (F109 n (b.1,b.2.1,b.2.2.1.3,1,())) λc=>Z c) (u5 n)) (u5 n)) (ai (aj (D.aG b.2.2.1.2 2)
 (Z (LO.next (W,()))) (ai (aj (D.aG b.2.2.1.2 3) (Z (LO.next (W,()))) (Z (LO.next (D.aG b.2.2.1.2 4,())))) λ(c:FH)=>LO.jn
 c (λd=>Z (LO.next d)) (λ_ _=>Y) (λ_ e=>Z (LO.ret () e)) λ_ _=>Y)) λ(c:FH)=>LO.jn c (λd=>aj d.1 (aj
 (D.aG (ak b.2.2.1.4) 0) (Z ((D.aG (ak b.2.2.1.3) 0,()),())) (u5 n)) (u5 n)) (λ_ _=>Y) (λ_ e=>Z (e,())) λ_ _=>
 Y))
def amh(n:Nat):OC:=⟨106,⟨aiM,K4,J,F106 n⟩,ct [agD n,agC n,ac8 n] [(106,1000008,⟨[(69,cZ)],[],[],0⟩),(106,1000009,⟨[(69,cZ)],[],[],0⟩)] n 10 106⟩
def qe(n:Nat):O fc:=
 Z ((J,()),())
def F67:Y58:=
 λn b=>aj (D.aG b.2.2.1.1 6) (ai (F106 n b) λc=>Z c) (aj (D.aG b.2.2.1.1 5) (aj (D.aG b.2.2.1.2 0) (aj (D.aG (ak b.2.2.1.3) 0)
 (aj (D.bO 0 (ak b.2.2.1.4)) (ai (F107 n (b.1,b.2.1,b.2.2.1.4,())) λc=>aj c.1.1 (ai (F108 n (b.1,b.2.2.1.4,ak b.2.2.1.4,())) λd
 =>aj d.1.1 (aD (av 0 b.2.2.1.4) (aD (av (aR b.2.2.1.4 (ah 0) aV).1 b.1.1) (Z ((D.aG (aR b.1.1 (ah (aR b.2.2.1.4 (ah 0)
 aV).1) aP).1 26,()),())))) (qe n)) (qe n)) (qe n)) (qe n)) (qe n)) (aj (D.aK (D.aG (ak b.2.2.1.4) 0)) (qe n)
 (aj (D.aG b.2.2.1.1 1) (ai (F55 n (b.2.2.1.2,0,D.dH .i64 (ak b.1.4) 1,())) λc=>aj c.1.1 (aD (av b.2.2.1.2 b.1.4) (aj (D.aG (ak
 b.2.2.1.3) (aR b.1.4 (ah b.2.2.1.2) bx).2) (ai (F109 n (b.1,b.2.1,b.2.2.1.3,3,())) λd=>Z d) (qe n))) (qe n)) (aj (D.aG
 b.2.2.1.1 2) (ai (F55 n (b.2.2.1.2,0,D.dH .i64 (ak b.1.1) 1,())) λc=>aj c.1.1 (aD (av b.2.2.1.2 b.1.1) (aj (D.aG (aR b.1.1 (ah
 b.2.2.1.2) aP).1 5) (ai (F109 n (b.1,b.2.1,b.2.2.1.3,30,())) λd=>Z d) (qe n))) (qe n)) (aj (D.aG b.2.2.1.1 3) (aj (D.aG
 b.2.2.1.2 0) (aj (D.aG (ak b.2.2.1.3) 1) (ai (F109 n (b.1,b.2.1,b.2.2.1.3,1,())) λc=>Z c) (qe n)) (qe n)) (aj (D.aG b.2.2.1.1
 4) (aj (D.aG b.2.2.1.2 0) (ai (F109 n (b.1,b.2.1,b.2.2.1.3,4,())) λc=>Z c) (qe n)) (qe n)))))))
def k67(n:Nat):OC:=⟨67,⟨aiM,K4,J,F67 n⟩,ct [k55 n,amh n,agD n,agC n,ac8 n] [] n 10 67⟩
def w8(n:Nat):O fc:=
 Z ((J,()),())
def F36:Y21:=
 λn b=>aj (D.bO 120 (ak b.2.1.1)) (w8 n) (aj (D.bO 100 (ak b.2.1.3)) (w8 n) (ai (F16 n (b.2.1.4,50,())) λc=>aj (D.aK
 c.1.1) (w8 n) (ai (F55 n (b.2.1.5,0,1000000000,())) λd=>aj (D.aK d.1.1) (w8 n) (ai (F66 n b.2) λe=>aj (D.aK e.1.1) (w8 n)
 (ai (@iter (Int×U) (Bool×U) (U) (Any) (λg=>aj (D.bO g.1 (ak b.2.1.1)) (aD (av g.1 b.2.1.1) (ai (F67 n (b.1,b.2.1,aR
 b.2.1.1 (ah g.1) aU,())) λh=>aj (D.aK h.1.1) (Z (LO.ret () (J,()))) (Z (LO.next (D.add .i64 g.1 1,()))))) (Z (LO.out 0
 g))) n (0,())) λg=>LO.el g (λ_ _=>ai (@iter (Int×U) (Bool×U) (U) (Any) (λj=>aj (D.bO j.1 (ak b.2.1.3)) (aD (av j.1
 b.2.1.3) (ai (F55 n ((aR b.2.1.3 (ah j.1) gF).1,0,3,())) λk=>aj (D.aK k.1.1) (Z (LO.ret () (J,()))) (aD (av j.1
 b.2.1.3) (ai (F55 n ((aR b.2.1.3 (ah j.1) gF).2,(-1000000000),1000000000,())) λl=>aj (D.aK l.1.1) (Z (LO.ret () (J,())))
 (Z (LO.next (D.add .i64 j.1 1,()))))))) (Z (LO.out 0 j))) n (0,())) λj=>LO.el j (λ_ _=>Z ((W,()),())) (λ_ l=>Z (l,
 ())) λ_ _=>Y) (λ_ i=>Z (i,())) λ_ _=>Y)))))
def k36(n:Nat):OC:=⟨36,⟨P67,K4,J,F36 n⟩,ct [k16 n,k55 n,k66 n,k67 n] [(36,0,⟨[(5,de)],[],[],0⟩),(36,2,⟨[(6,de)],[],[],0⟩)] n 10 36⟩
def F22:Y21:=
 λn b=>ai (F15 n (b.1,())) λc=>aj c.1.1 (ai (F36 n b) λd=>Z d) (Z ((J,()),()))
def k22(n:Nat):OC:=⟨22,⟨P67,K4,J,F22 n⟩,ct [k15 n,k36 n] [] n 10 22⟩
def F39:Nat->Y17->O Y18:=
 λn b=>ai (@iter (Xs) (L Int×U) (U) (Any) (λc=>aj (D.bO c.2.1 (ak b.2.1.2)) (ai (F40 n (b.1,b.2.1,c.2)) λd=>aj
 (D.aK (D.aG d.1.1.2 2)) (aD (cX c.1 [c.2.1]) (Z (LO.next (cM c.1 [c.2.1],D.add .i64 c.2.1 1,())))) (Z (LO.next (c.1,D.add .i64 c.2.1
 1,())))) (Z (LO.out 0 c))) n ([],0,())) λc=>LO.el c (λ_ e=>Z ((e.1,()),())) (λ_ e=>Z (e,())) λ_ _=>Y
def k39(n:Nat):OC:=⟨39,⟨P67,K63,J,F39 n⟩,ct [k40 n] [(39,0,⟨[(5,.one (.own (.int .i64))),(6,de)],[],[],0⟩)] n 10 39⟩
def F64:Nat->Int×Int×U->Gn:=
 λn b=>aD (nzI b.2.1) (aj (D.bO (D.rem b.1 b.2.1) 0) (Z ((D.add .i64 (D.rem b.1 b.2.1) b.2.1,()),())) (Z ((D.rem b.1 b.2.1,()),())))
def k64(n:Nat):OC:=⟨64,⟨ao2,K2,J,F64 n⟩,ct [] [] n 10 64⟩
def NN(n:Nat)(c:Y73):O Y75:=
 Z ((c.1.1,aH,0,8,()),())
def F34:aiz:=
 λn b=>ai (F33 n (b.1,b.2.1,0,())) λc=>aj (D.aK c.1.2.2.1) (NN n c) (ai (F39 n (b.1,c.1.1,())) λd=>aj (D.aG (ak d.1.1)
 0) (Z ((c.1.1,aH,0,5,()),())) (ai (F64 n (b.2.2.1,ak d.1.1,())) λe=>aD (av e.1.1 d.1.1) (ai (F40 n (b.1,c.1.1,aR d.1.1
 (ah e.1.1) 0,())) λg=>ai (F33 n (b.1,g.1.1.1,D.add .i64 c.1.2.1 1,())) λh=>aj (D.aK h.1.2.2.1) (NN n h) (aj (D.bO 5000
 h.1.2.1) (NN n h) (Z ((h.1.1,g.1.1.3,h.1.2.1,0,()),()))))))
def k34(n:Nat):OC:=⟨34,⟨P68,K69,J,F34 n⟩,ct [k33 n,k39 n,k40 n,k64 n] [] n 10 34⟩
def X9(d:aij):aa:=
 aa.mk d.2.2.1.1 d.2.2.1.2.1 d.2.2.1.2.2.1 d.2.2.1.2.2.2.1 d.2.2.1.2.2.2.2.1
def IQ(e:Y75):wY:=
 (e.1.1.1,e.1.1.2,e.1.1.3,e.1.1.4,e.1.1.5,())
def aiX(c:Y73):wY:=
 (c.1.1.1,c.1.1.2,c.1.1.3,c.1.1.4,c.1.1.5,())
def F23:aiG:=
 λn b=>ai (F33 n (b.1,b.2.1,0,())) λc=>aj (D.aK c.1.2.2.1) (Z ((c.1.1,[],8,()),())) (ai (@iter (aij) (aiF) (wY×wY×U)
 (Any) (λd=>aj (D.bO d.2.1 (ak b.2.2.1)) (aD (av d.2.1 b.2.2.1) (ai (F34 n (b.1,X9 d,aR b.2.2.1 (ah d.2.1) 0,())) λe=>aj
 (D.aG e.1.2.2.2.1 5) (Z (LO.ret (d.2.2.1,d.2.2.1,()) (d.1,0,()))) (aj (D.aK (D.aG e.1.2.2.2.1 0)) (Z (LO.ret (d.2.2.1,IQ e,()) ([],
 e.1.2.2.2))) (aD (cX d.1 [e.1.2.1]) (Z (LO.next (cM d.1 [e.1.2.1],D.add .i64 d.2.1 1,IQ e,d.2.2.2))))))) (Z (LO.out 0 d))) n ([],0,
 aiX c,([],[],[],[],0,()),())) λd=>LO.el d (λ_ g=>Z ((X9 g,g.1,0,()),())) (λe g=>Z ((aa.mk e.2.1.1 e.2.1.2.1
 e.2.1.2.2.1 e.2.1.2.2.2.1 e.2.1.2.2.2.2.1,g),())) λ_ _=>Y)
def k23(n:Nat):OC:=⟨23,⟨P65,K66,J,F23 n⟩,ct [k33 n,k34 n] [(23,0,⟨[(11,.one (.own (.st 9))),(12,de),(0,b4z),(0,b4z)],[.slot 4,.slot 6],[],0⟩)] n 10 23⟩
def IP(b:Y35)(c:Int×U):aA:=
 aR b.2.1 (ah c.1) aH
def F24:Nat->Y35->O fc:=
 λn b=>aj (D.aK (D.aG (ak b.1) (ak b.2.1))) (Z ((J,()),())) (ai (@iter (Int×U) (Bool×U) (U) (Any) (λc=>aj
 (D.bO c.1 (ak b.1)) (aD (av c.1 b.1) (aD (av c.1 b.2.1) (aj (D.aK (D.dz (D.aG (aR b.1 (ah c.1) aH).1 (IP b c).1) (D.dz
 (D.aG (aR b.1 (ah c.1) aH).2 (IP b c).2) (D.dz (D.aG (aR b.1 (ah c.1) aH).3 (IP b c).3) (D.dz (D.aG (aR b.1 (ah
 c.1) aH).4.1 (IP b c).4.1) (D.dz (D.aG (aR b.1 (ah c.1) aH).4.2 (IP b c).4.2) W)))))) (Z (LO.ret () (J,())))
 (Z (LO.next (D.add .i64 c.1 1,())))))) (Z (LO.out 0 c))) n (0,())) λc=>LO.el c (λ_ _=>Z ((W,()),())) (λ_ e=>Z (e,
 ())) λ_ _=>Y)
def k24(n:Nat):OC:=⟨24,⟨ao1,K4,J,F24 n⟩,ct [] [(24,0,⟨[(5,de)],[],[],0⟩)] n 10 24⟩
def F31:Nat->Y17->O ((aa×Int×Int×U)×U):=
 λn b=>ai (F46 n (b.1,())) λc=>aj (D.aK (D.aG c.1.1 0)) (Z ((bF,0,2,()),())) (ai (F99 n (cq.mk b.1 b.2.1,()))
 λd=>aj (D.aK d.1.1) (Z ((bF,0,2,()),())) (ai (F50 n ((b.1.1,b.1.2,b.1.3,b.1.4,b.2.1.1,b.2.1.2,b.2.1.3,b.2.1.4,b.2.1.5,
 ()),0,())) λe=>aj (D.aK e.1.2.1) (Z ((bF,0,8,()),())) (ai (F51 n e.2) λg=>Z ((g.1.1,e.1.1,0,()),()))))
def k31(n:Nat):OC:=⟨31,⟨P67,K147,J,F31 n⟩,ct [k46 n,k50 n,k51 n,k99 n] [] n 10 31⟩
def F37:Nat->Y17->O (Xs×U):=
 λn b=>ai (F46 n (b.1,())) λc=>aj (D.aK (D.aG c.1.1 0)) (Z (([],2,()),())) (ai (F99 n (cq.mk b.1 b.2.1,())) λd=>aj
 (D.aK d.1.1) (Z (([],2,()),())) (ai (F68 n ((b.1.1,b.1.2,b.1.3,b.1.4,b.2.1.1,b.2.1.2,b.2.1.3,b.2.1.4,b.2.1.5,()),())) λe=>Z
 ((e.1.1,0,()),())))
def k37(n:Nat):OC:=⟨37,⟨P67,K149,J,F37 n⟩,ct [k46 n,k68 n,k99 n] [] n 10 37⟩
def RZ(n:Nat):O Xt:=
 Z ((bF,aH,2,()),())
def nJ:L (Nat×Ty):=
 [(170,Ty.st 12),(173,Ty.st 13),(175,Ty.st 14),(181,Ty.st 15)]
def Ch(n:Nat)(i:Y50):Y39->O Xt:=
 λj=>Z ((i.1.1,j.1.1,0,()),())
def F38:Nat->Xr->O Xt:=
 λn b=>ai (F46 n (b.1,())) λc=>aj (D.aK (D.aG c.1.1 0)) (RZ n) (ai (F99 n (cq.mk b.1 b.2.1,())) λd=>aj (D.aK d.1.1)
 (RZ n) (ai (F69 n (b.2.2.1,0,D.dH .i64 (ak b.2.1.2) 1,())) λe=>aj (D.aK e.1.1) (RZ n) (ai (F70 n ((b.1.1,b.1.2,b.1.3,b.1.4,
 b.2.1.1,b.2.1.2,b.2.1.3,b.2.1.4,b.2.1.5,()),b.2.2)) λg=>ai (F71 n g.1) λh=>aj (D.aG h.1.1 2) (Z ((bF,aH,5,()),
 ())) (ai (F51 n g.2) λi=>aj (fW nJ 0 (dj 16 g.1.1)) (ai (F335 n (gi (Sg.zero sg) nJ 0 (dj 16 g.1.1),())) (Ch n i)) (aj
 (fW nJ 1 (dj 16 g.1.1)) (ai (F336 n (gi (Sg.zero sg) nJ 1 (dj 16 g.1.1),())) (Ch n i)) (aj (fW nJ 2 (dj 16 g.1.1))
 (ai (F114 n (gi (Sg.zero sg) nJ 2 (dj 16 g.1.1),())) (Ch n i)) (aj (fW nJ 3 (dj 16 g.1.1)) (ai (F337 n (gi (Sg.zero sg)
 nJ 3 (dj 16 g.1.1),())) (Ch n i)) Y)))))))
def k38(n:Nat):OC:=⟨38,⟨P68,K150,J,F38 n⟩,ct [k46 n,k51 n,ZB n,k70 n,k71 n,k99 n,ac7 n,agb n,aga n,af9 n] [] n 10 38⟩

end Mn
end
section
namespace TL
open Go
section
def Ev{α:Type}(f:Nat->O α)(r:α):Prop:=∃N,∀n,N<=n->f n=Z r
section
variable {α β γ:Type}
def Ev.pure(r:α):Ev (λ_=>Z r) r:=⟨0,λ_ _=>rfl⟩
def Ev.of_eq{f:Nat->O α}{r:α}(h:∀n,f n=Z r):Ev f r:=⟨0,λn _=>h n⟩
def Ev.congr{f g:Nat->O α}{r:α}(h:∀n,f n=g n)(a:Ev g r):Ev f r:=(funext h:f=g)▸a
def Ev.ai{f:Nat->O α}{a:α}{g:Nat->α->O β}{r:β}(h:Ev f a)(b:Ev (λn=>g n a) r):Ev (λn=>ai (f n) (g n)) r:=by obtain⟨N,h⟩:=h;obtain⟨M,b⟩:=b;refine⟨max N M,λn c=>?_⟩;show TL.ai (f n) (g n)=Z r;rw[h n (fJ (Nat.le_max_left ..) c)];exact b n (fJ (Nat.le_max_right ..) c)
end
def xd{α β:Type}(f:Nat->Nat->α->O β)(x:α)(r:β):Prop:=∀d,Ev (λn=>f n (n-d) x) r
def xd.step{α β:Type}{f:Nat->Nat->α->O β}{g:Nat->(α->O β)->α->O β}{x:α}{r:β}(h:∀n k,f n (k+1)=g n (f n k))
  (a:∀d,Ev (λn=>g n (f n (n-d)) x) r):xd f x r:=by
 intro d;obtain⟨N,b⟩:=a (d+1);refine⟨max N (d+1),λn c=>?_⟩;have e:n-d=(n-(d+1))+1:=by omega
 show f n (n-d) x=Z r;rw[e,h];exact b n (by omega)
section
variable {X R B P:Type}
inductive eM(F:Nat->X->Option (LO X R B P)):X->LO X R B P->Prop
 |next {x y:X} {o:LO X R B P}:Ev (λn=>F n x) (.next y)->eM F y o->eM F x o
 |out {x y:X} {j:Nat}:Ev (λn=>F n x) (.out j y)->eM F x (.out j y)
 |ret {x:X} {b:B} {r:R}:Ev (λn=>F n x) (.ret b r)->eM F x (.ret b r)
 |dm {x:X} {b:B} {p:P}:Ev (λn=>F n x) (.dm b p)->eM F x (.dm b p)
def eM.last{F:Nat->X->O (LO X R B P)}{x:X}{o:LO X R B P}(h:Ev (λn=>F n x) o)(hn:∀y,o≠.next y):eM F x o:=by cases o with|next y=>exact absurd rfl (hn y)|out j y=>exact .out h|ret b r=>exact .ret h|dm b p=>exact .dm h
def eM.fuel{F:Nat->X->O (LO X R B P)}{x:X}{o:LO X R B P}(h:eM F x o):∃N,∀n k,N<=n->N<=k->iter (F n) k x=Z o:=by
 induction h with
 |next h _ a=>
  obtain⟨N,h⟩:=h;obtain⟨M,a⟩:=a;refine⟨max N M+1,λn k b c=>?_⟩;cases k with|zero=>omega|succ k=>unfold iter;rw[show F n _=_ from h n (by omega)];exact a n k (by omega) (by omega)
 |out h=>
  obtain⟨N,h⟩:=h;refine⟨N+1,λn k b c=>?_⟩;cases k with|zero=>omega|succ k=>unfold iter;rw[show F n _=_ from h n (by omega)]
 |ret h=>
  obtain⟨N,h⟩:=h;refine⟨N+1,λn k b c=>?_⟩;cases k with|zero=>omega|succ k=>unfold iter;rw[show F n _=_ from h n (by omega)]
 |dm h=>
  obtain⟨N,h⟩:=h;refine⟨N+1,λn k b c=>?_⟩;cases k with|zero=>omega|succ k=>unfold iter;rw[show F n _=_ from h n (by omega)]
def Ev.iter{F:Nat->X->O (LO X R B P)}{x:X}{o:LO X R B P}(h:eM F x o):Ev (λn=>TL.iter (F n) n x) o:=by obtain⟨N,h⟩:=h.fuel;exact⟨N,λn a=>h n n a a⟩
def Ev.aQ{β:Type}{F:Nat->X->O (LO X R B P)}{x:X}{o:LO X R B P}(h:eM F x o)(g:Nat->LO X R B P->O β)(r:β)(a:Ev (λn=>g n o) r):Ev (λn=>TL.ai (TL.iter (F n) n x) (g n)) r:=(Ev.iter h).ai a
def eM.many{F:Nat->X->O (LO X R B P)}{o:LO X R B P}:∀(k:Nat)(s:Nat->X),(∀i,i<k->Ev (λn=>F n (s i)) (.next (s (i+1))))->eM F (s k) o->eM F (s 0) o
 |0,_,_,h=>h
 |k+1,s,a,h=>.next (a 0 (by omega)) (eM.many k (λi=>s (i+1)) (λi b=>a (i+1) (by omega)) h)
def og{F:Nat->X->O (LO X R B P)}(len:Nat)(s:Nat->X)(q:Nat->Bool)(bad:Nat->LO X R B P)(l:Nat)(p:∀i y,bad i≠.next y)
  (h:∀i,i<len->(∀j,j<i->q j=W)->Ev (λn=>F n (s i)) (bif q i then .next (s (i+1))else bad i))
  (r:(∀j,j<len->q j=W)->Ev (λn=>F n (s len)) (.out l (s len))) :
  ((∀i,i<len->q i=W)∧eM F (s 0) (.out l (s len)))∨∃i,i<len∧q i=J∧(∀j,j<i->q j=W)∧eM F (s 0) (bad i):=by
 have key:∀m i,i+m=len->(∀j,j<i->q j=W)->((∀i,i<len->q i=W)∧eM F (s i) (.out l (s len)))∨∃k,k<len∧q k=J∧(∀j,j<k->q j=W)∧eM F (s i) (bad k):=by
  intro m
  induction m with
  |zero=>
   intro i t e;have:i=len:=by omega
   subst this;exact .inl ⟨e,.out (r e)⟩
  |succ m u=>
   intro i t e;have f:=h i (by omega) e;cases g:q i with
   |false=>rw[g]at f;exact .inr ⟨i,by omega,g,e,.last f (p i)⟩
   |true=>
    rw[g]at f;rcases u (i+1) (by omega) (λj v=>by
     by_cases o:j=i
     .rw[o];exact g
     .exact e j (by omega))with⟨a,b⟩|⟨k,a,b,c,d⟩
    .exact .inl ⟨a,.next f b⟩
    .exact .inr ⟨k,a,b,c,.next f d⟩
 exact key len 0 (by omega) (λj v=>by omega)
def jy{F:Nat->X->O (LO X R B P)}(len:Nat)(s:Nat->X)(a:Nat)(h:∀i,i<len->Ev (λn=>F n (s i)) (.next (s (i+1))))(b:Ev (λn=>F n (s len)) (.out a (s len))):eM F (s 0) (.out a (s len)):=
 eM.many len s h (.out b)
end
section
def yq{n:Int}(h1:-9223372036854775808<=n)(h2:n<=9223372036854775807):IntKind.wrap .i64 n=n:=by unfold IntKind.wrap;simp[IntKind.bits,IntKind.signed];omega
def bE{a b:Int}(h1:-9223372036854775808<=a+b)(h2:a+b<=9223372036854775807):D.add .i64 a b=a+b:=yq h1 h2
def cT{a b:Int}(h1:-9223372036854775808<=a-b)(h2:a-b<=9223372036854775807):D.dH .i64 a b=a-b:=yq h1 h2
def VG{a b:Int}(h1:-9223372036854775808<=a*b)(h2:a*b<=9223372036854775807):D.mul .i64 a b=a*b:=yq h1 h2
def ZL{α:Type}{n:Int}{l:L α}:av n l=W↔0<=n∧n<l.length:=by simp[av]
def Wd{α:Type}{k:Nat}{l:L α}:cz k l=W↔k<l.length:=by simp[cz]
def aaD{lo a len:Int}:eS lo a len=W↔0<=lo∧lo<=a∧a<=len:=by simp[eS]
def ET{α:Type}{a b:L α}:cX a b=W↔a.length+b.length<=17179869184:=by simp[cX]
def Rh{a b:Int}:D.aG a b=W↔a=b:=by simp[D.aG]
def vK{a b:Int}:D.bO a b=W↔a<b:=by simp[D.bO]
end
section
variable {α β:Type}
theorem Fu(a:α)(f:α->O β):ai (Z a) f=f a:=rfl
theorem ahF{R P:Type}(r:R)(f:R->O α)(g:P->O α):Rx.el (.ok r) f g=f r:=rfl
theorem ad1{R P:Type}(p:P)(f:R->O α)(g:P->O α):Rx.el (.dm p) f g=g p:=rfl
theorem M6(x:O α):aD W x=x:=rfl
theorem DA(x y:O α):aj W x y=x:=rfl
theorem QH(x y:O α):aj J x y=y:=rfl
def zH{γ:Type}{i:Int}{l:L γ}(h1:0<=i)(h2:i<(l.length:Int))(x:O α):aD (av i l) x=x:=by rw[ZL.2 ⟨h1,h2⟩];rfl
def Xc{γ:Type}{k:Nat}{l:L γ}(h:k<l.length)(x:O α):aD (cz k l) x=x:=by rw[Wd.2 h];rfl
def J5{a b c:Int}(h1:0<=a)(h2:a<=b)(h3:b<=c)(x:O α):aD (eS a b c) x=x:=by rw[aaD.2 ⟨h1,h2,h3⟩];rfl
def CZ{γ:Type}{a b:L γ}(h:a.length+b.length<=17179869184)(x:O α):aD (cX a b) x=x:=by rw[ET.2 h];rfl
def J6(a b:Bool)(x:O α):aD (CA a b) x=aD a (aD b x):=by cases a<;>rfl
def J4{a b:Int}(h:a=b)(x:O α):aD (iq a b) x=x:=by subst h;simp[iq,aD]
def YP{a b:Int}(h:a=b)(x y:O α):aj (iq a b) x y=x:=by subst h;simp[iq,aj]
def UP{a b:Int}(h:a≠b)(x y:O α):aj (iq a b) x y=y:=by simp[iq,aj,h]
def jZ{a b:Int}(h:a<b)(x y:O α):aj (D.bO a b) x y=x:=by rw[vK.2 h];rfl
def jk{a b:Int}(h:b<=a)(x y:O α):aj (D.bO a b) x y=y:=by simp[aj,D.bO,Int.not_lt.2 h]
def qg{a b:Int}(h:a<=b)(x y:O α):aj (D.ep a b) x y=x:=by simp[aj,D.ep,h]
def CL{a b:Int}(h:b<a)(x y:O α):aj (D.ep a b) x y=y:=by simp[aj,D.ep,Int.not_le.2 h]
def I8{a b:Int}(h:a=b)(x y:O α):aj (D.aG a b) x y=x:=by rw[Rh.2 h];rfl
def I7{a b:Int}(h:a≠b)(x y:O α):aj (D.aG a b) x y=y:=by rw[show D.aG a b=J by simp[D.aG,h]];rfl
def mH(a:Bool)(x y:O α):aj (D.aK a) x y=aj a y x:=by cases a<;>rfl
def af0{a b:Int}(h:a<b):D.bO a b=W:=vK.2 h
def akr{a b:Int}(h:b<=a):D.bO a b=J:=by simp[D.bO,Int.not_lt.2 h]
def Zw{a b:Int}(h:a<=b):D.ep a b=W:=by simp[D.ep,h]
def acT{a b:Int}(h:b<a):D.ep a b=J:=by simp[D.ep,Int.not_le.2 h]
def jB{a b:Int}(h:a=b):D.aG a b=W:=Rh.2 h
def jS{a b:Int}(h:a≠b):D.aG a b=J:=by simp[D.aG,h]
theorem aea(x y:α):(bif W then x else y)=x:=rfl
theorem aeb(x y:α):(bif J then x else y)=y:=rfl
def UH(l:L α):eo l 0 (l.length:Int)=l:=by simp[eo]
def qG(l:L α)(k:Int):eo l k (l.length:Int)=l.drop k.toNat:=by simp[eo]
def mF(l:L α)(k:Int):eo l 0 k=l.take k.toNat:=by simp[eo]
theorem y7(k:Nat):ah (k:Int)=k:=rfl
theorem vI(l:L α):ak l=(l.length:Int):=rfl
theorem WS(l:L α)(k:Nat)(z:α):aR l k z=l.getD k z:=rfl
theorem Zm(n:Int):ah n=n.toNat:=rfl
theorem aaG(a b:L α):cM a b=a++b:=rfl
theorem Zb(l:L α)(k:Nat)(x:α):dV l k x=l.set k x:=rfl
def Zt(a b:L α):(a++b).length=a.length+b.length:=gw
def VV(a:α)(l:L α):(a::l).length=l.length+1:=eV
theorem Zs:([]:L α).length=0:=rfl
def VF(k:Nat):Int.toNat (k:Int)=k:=Gy k
theorem VE:Int.toNat 0=0:=rfl
theorem Zl:Int.toNat 1=1:=rfl
end
def lq:(∀{α:Type}(a b:L α),(a++b).length=a.length+b.length)∧(∀{α:Type}(a:α)(l:L α),(a::l).length=l.length+1)∧(∀{α:Type},([]:L α).length=0)∧
 (∀{α:Type}(k:Nat)(l:L α),(l.drop k).length=l.length-k)∧(∀{α:Type}(k:Nat)(l:L α),(l.take k).length=min k l.length)∧(∀{α:Type}(k:Nat)(x:α)(l:L α),(l.set k x).length=l.length):=
 ⟨λ_ _=>gw,λ_ _=>rfl,rfl,λ_ _=>BC,λ_ _=>xz,λ_ _ _=>Ak⟩
def aS:(∀{α:Type}{β:Type}(a:α)(f:α->O β),ai (Z a) f=f a)∧
 (∀{α:Type}{R P:Type}(r:R)(f:R->O α)(g:P->O α),Rx.el (.ok r) f g=f r)∧
 (∀{α:Type}{R P:Type}(p:P)(f:R->O α)(g:P->O α),Rx.el (.dm p) f g=g p)∧
 (∀{α:Type}(x:O α),aD W x=x)∧
 (∀{α:Type}(x y:O α),aj W x y=x)∧
 (∀{α:Type}(x y:O α),aj J x y=y)∧
 (∀{α:Type}{γ:Type}{i:Int}{l:L γ}(h1:0<=i)(h2:i<(l.length:Int))(x:O α),aD (av i l) x=x)∧
 (∀{α:Type}{γ:Type}{k:Nat}{l:L γ}(h:k<l.length)(x:O α),aD (cz k l) x=x)∧
 (∀{α:Type}{a b c:Int}(h1:0<=a)(h2:a<=b)(h3:b<=c)(x:O α),aD (eS a b c) x=x)∧
 (∀{α:Type}{γ:Type}{a b:L γ}(h:a.length+b.length<=17179869184)(x:O α),aD (cX a b) x=x)∧
 (∀{α:Type}(a b:Bool)(x:O α),aD (CA a b) x=aD a (aD b x))∧
 (∀{α:Type}{a b:Int}(h:a=b)(x:O α),aD (iq a b) x=x)∧
 (∀{α:Type}{a b:Int}(h:a=b)(x y:O α),aj (iq a b) x y=x)∧
 (∀{α:Type}{a b:Int}(h:a≠b)(x y:O α),aj (iq a b) x y=y)∧
 (∀{α:Type}{a b:Int}(h:a<b)(x y:O α),aj (D.bO a b) x y=x)∧
 (∀{α:Type}{a b:Int}(h:b<=a)(x y:O α),aj (D.bO a b) x y=y)∧
 (∀{α:Type}{a b:Int}(h:a<=b)(x y:O α),aj (D.ep a b) x y=x)∧
 (∀{α:Type}{a b:Int}(h:b<a)(x y:O α),aj (D.ep a b) x y=y)∧
 (∀{α:Type}{a b:Int}(h:a=b)(x y:O α),aj (D.aG a b) x y=x)∧
 (∀{α:Type}{a b:Int}(h:a≠b)(x y:O α),aj (D.aG a b) x y=y)∧
 (∀{α:Type}(a:Bool)(x y:O α),aj (D.aK a) x y=aj a y x)∧
 (∀{a b:Int}(h:a<b),D.bO a b=W)∧
 (∀{a b:Int}(h:b<=a),D.bO a b=J)∧
 (∀{a b:Int}(h:a<=b),D.ep a b=W)∧
 (∀{a b:Int}(h:b<a),D.ep a b=J)∧
 (∀{a b:Int}(h:a=b),D.aG a b=W)∧
 (∀{a b:Int}(h:a≠b),D.aG a b=J)∧
 (∀{α:Type}(x y:α),(bif W then x else y)=x)∧
 (∀{α:Type}(x y:α),(bif J then x else y)=y)∧
 (∀{α:Type}(l:L α),eo l 0 (l.length:Int)=l)∧
 (∀{α:Type}(l:L α),ak l=(l.length:Int))∧
 (∀{α:Type}(l:L α)(k:Nat)(z:α),aR l k z=l.getD k z)∧
 (∀(n:Int),ah n=n.toNat)∧
 (∀{α:Type}(a b:L α),cM a b=a++b)∧
 (∀{α:Type}(l:L α)(k:Nat)(x:α),dV l k x=l.set k x)∧
 (∀{α:Type}(a b:L α),(a++b).length=a.length+b.length)∧
 (∀{α:Type}(a:α)(l:L α),(a::l).length=l.length+1)∧
 (∀{α:Type},([]:L α).length=0)∧
 (∀(k:Nat),Int.toNat (k:Int)=k)∧
 (Int.toNat 0=0)∧
 (Int.toNat 1=1):=
 ⟨@Fu,@ahF,@ad1,@M6,@DA,@QH,@zH,@Xc,@J5,@CZ,@J6,@J4,@YP,@UP,@jZ,@jk,@qg,@CL,@I8,@I7,@mH,@af0,@akr,@Zw,@acT,@jB,@jS,@aea,@aeb,@UH,@vI,@WS,@Zm,@aaG,@Zb,@Zt,@VV,@Zs,@VF,@VE,@Zl⟩
end
end TL
end
section
namespace Mn
open Go TL
def vV(a b:aq):Bool:=a.Kind==b.Kind&&a.N==b.N
def gf(n:Int):aq:=⟨1,n⟩
def iD(b:Bool):aq:=⟨2,bif b then 1 else 0⟩
def fq:aq:=⟨3,0⟩
def tE(n:Int):aq:=⟨5,n⟩
def mX(v:aq):aq:=if v.Kind=4∨v.Kind=5 then tE 0 else v
def dP:L Nat:=[0,0,0,0,0,0,2,1,1,2,2,2,2,2,0,1,1,1,2,1,1,0,2,1,1,0,1,0,0]
def jo(n:bp):Int:=if n.Op=14 then n.Kids.length else(dP.getD n.Op.toNat 0:Nat)
def nodeAt(p:ax)(n:Int):bp:=p.aW.getD n.toNat aP
def cr(w:aa)(n:Int):aE:=w.aY.getD n.toNat aU
def bT(w:aa)(at_:Int):Int:=w.aX.getD at_.toNat 0
def bU(l:L aq)(n:Nat):aq:=l.getD n az
def lB(w:aa)(n:Int)(o:aE):aa:=⟨w.aY.set n.toNat o,w.aX,w.fe,w.kM,w.Used⟩
inductive ou where
 |fail (s:Int)
 |waits
 |go (w:aa) (fr:List au) (bk:List aq) (e:Option aA)
def fH(w:aa)(left:L au)(v:aq):ou:=.go w left [v] Y
def iM(w:aa)(left:L au)(node:Int)(env:L aq):ou:=
 if 40<=left.length∨30<env.length then .fail 4 else .go w (left++[⟨node,env,[]⟩]) [] Y
def fA(w:aa)(o:aE):aa:=⟨w.aY++[o],w.aX,w.fe,w.kM,w.Used⟩
def jY(w:aa)(left:L au)(o:aE):ou:=
 if 120<=w.aY.length then .fail 4 else fH (fA w o) left (tE w.aY.length)
def evS(at_:Int)(op n:Int)(v:aq):ou->ou
 | .go w a b _=>.go w a b (Z ⟨at_,op,n,mX v⟩)
 |r=>r
def gR(w:aa)(v:aq)(a:Int):O aE:=
 if v.Kind=5∧(cr w v.N).Form=a then Z (cr w v.N)else Y
def hY(p:ax)(w:aa)(f v:aq):O au:=
 if f.Kind=4 then Z ⟨p.dA.getD f.N.toNat 0,[v],[]⟩
 else match gR w f 2 with
  |some o=>Z ⟨(nodeAt p o.N).Kids.getD 0 0,o.bI++[v],[]⟩
  |none=>Y
def xX(p:ax)(w:aa)(left:L au)(f v:aq):ou:=
 match gR w f 5 with
 |some o=>if 40<left.length+o.Frames.length then .fail 4 else fH w (left++o.Frames) v
 |none=>match hY p w f v with
  |none=>.fail 2
  |some b=>iM w left b.Node b.Env
def gN(n:Int):Bool:=decide (-1000000000<=n)&&decide (n<=1000000000)
def mw(w:aa)(left:L au)(op:Int)(u v:aq):ou:=
 if op=13 then(if u.Kind≠v.Kind∨3<u.Kind then .fail 2 else fH w left (iD (vV u v)))
 else if u.Kind≠1∨v.Kind≠1 then .fail 2
 else if op=12 then fH w left (iD (decide (u.N<v.N)))
 else
  let n:=if op=9 then u.N+v.N else if op=10 then u.N-v.N else u.N*v.N
  if gN n=W then fH w left (gf n)else .fail 4
mutual
def iC(w:aa):aC->aq->O (L aq)
 |⟨a,n,text,parts⟩,v=>
  if a=1 then Z []else if a=2 then Z [v]
  else if a=3 then(if vV v (gf n)then Z []else Y)
  else if a=4 then(if vV v (iD (n==1))then Z []else Y)
  else if a=5 then(if vV v fq then Z []else Y)
  else match gR w v 1 with
   |none=>Y
   |some o=>if o.N≠n∨o.bI.length≠parts.length then Y else eu w parts o.bI
def eu(w:aa):L aC->L aq->O (L aq)
 |q::a,v::b=>match iC w q v with
  |none=>Y
  |some l=>match eu w a b with
   |none=>Y
   |some m=>Z (l++m)
 |_,_=>Z []
end
def kK(w:aa)(left:L au)(env:L aq)(u:aq):L aC->L Int->ou
 |q::a,k::b=>match iC w q u with
  |some l=>iM w left k (env++l)
  |none=>kK w left env u a b
 |_,_=>.fail 3
def ir{α:Type}(q:α->Bool):L α->O Nat
 |[]=>Y
 |a::l=>match ir q l with
  |some k=>Z (k+1)
  |none=>bif q a then Z 0 else Y
def xm(p:ax)(w:aa)(left:L au)(a:Int)(env:L aq):ou:=
 match ir (λf:au=>(nodeAt p f.Node).Op==26) left with
 |none=>.fail 3
 |some k=>if 120<=w.aY.length then .fail 4
  else iM (fA w ⟨5,0,[],left.drop k⟩) (left.take (k+1)) a (env++[tE w.aY.length])
def xk(p:ax)(w:aa)(at_:Int)(left:L au)(f:aq):ou:=
 let mk (o:aE):ou:=if 120<=w.aY.length then .fail 4
  else .go ⟨w.aY++[o],w.aX++[(w.aY.length:Int)],w.fe,w.kM,w.Used⟩ left [tE w.aY.length] (Z ⟨at_,19,0,fq⟩)
 match gR w f 5 with
 |some k=>mk ⟨6,0,[fq],k.Frames⟩
 |none=>match hY p w f fq with
  |none=>.fail 2
  |some b=>if 30<b.Env.length then .fail 4 else mk ⟨6,0,[],[b]⟩
def O3(w:aa)(at_:Int)(left:L au)(v:aq):ou:=match gR w v 3 with
 |none=>.fail 2
 |some o=>.go w left [bU o.bI 0] (Z ⟨at_,17,0,mX (bU o.bI 0)⟩)
def g9(w:aa)(at_:Int)(left:L au)(c v:aq):ou:=match gR w c 3 with
 |none=>.fail 2
 |some o=>.go (lB w c.N ⟨3,0,[v],[]⟩) left [fq] (Z ⟨at_,18,0,mX v⟩)
def Dz(w:aa)(at_:Int)(left:L au)(c v:aq):ou:=match gR w c 4 with
 |none=>.fail 2
 |some o=>if 4<=o.bI.length then .waits else .go (lB w c.N ⟨4,0,o.bI++[v],[]⟩) left [fq] (Z ⟨at_,22,0,mX v⟩)
def Dq(w:aa)(at_:Int)(left:L au)(c:aq):ou:=match gR w c 4 with
 |none=>.fail 2
 |some o=>match o.bI with
  |[]=>.waits
  |v::l=>.go (lB w c.N ⟨4,0,l,[]⟩) left [v] (Z ⟨at_,23,0,mX v⟩)
def ED(w:aa)(at_:Int)(left:L au)(v:aq):ou:=match gR w v 6 with
 |none=>.fail 2
 |some o=>if o.N=0 then .waits else if o.N≠1 then .fail o.N else .go w left [bU o.bI 0] (Z ⟨at_,20,0,mX (bU o.bI 0)⟩)
def Ou(w:aa)(at_:Int)(left:L au)(a:Int)(v:aq):ou:=
 if v.Kind≠1 then .fail 2 else if 100<=w.fe.length then .fail 4
 else .go ⟨w.aY,w.aX,w.fe++[⟨a,v.N⟩],w.kM,w.Used⟩ left [fq] (Z ⟨at_,24,a,mX v⟩)
def inS(w:aa)(at_:Int)(left:L au):ou:=match w.kM with
 |[]=>.waits
 |i::l=>if 1000000000<=w.Used then .fail 4 else .go ⟨w.aY,w.aX,w.fe,l,w.Used+1⟩ left [gf i] (Z ⟨at_,25,0,gf i⟩)
def iI(p:ax)(w:aa)(at_:Int)(left:L au)(f:au):ou:=
 let n:=nodeAt p f.Node
 let l:=f.bI
 match n.Op.toNat with
 |1=>fH w left (gf n.N)
 |2=>fH w left (iD (n.N==1))
 |3=>fH w left fq
 |4=>if n.N<0 then fH w left ⟨4,-1-n.N⟩else if f.Env.length<=n.N then .fail 2 else fH w left (bU f.Env n.N.toNat)
 |5=>jY w left ⟨2,f.Node,f.Env,[]⟩
 |6=>xX p w left (bU l 0) (bU l 1)
 |7=>iM w left (n.Kids.getD 1 0) (f.Env++[bU l 0])
 |8=>if(bU l 0).Kind≠2 then .fail 2 else iM w left (n.Kids.getD (2-(bU l 0).N).toNat 0) f.Env
 |9|10|11|12|13=>mw w left n.Op (bU l 0) (bU l 1)
 |14=>jY w left ⟨1,n.N,l,[]⟩
 |15=>kK w left f.Env (bU l 0) n.cA (n.Kids.drop 1)
 |16=>evS at_ 16 0 (bU l 0) (jY w left ⟨3,0,[bU l 0],[]⟩)
 |17=>O3 w at_ left (bU l 0)
 |18=>g9 w at_ left (bU l 0) (bU l 1)
 |19=>xk p w at_ left (bU l 0)
 |20=>ED w at_ left (bU l 0)
 |21=>evS at_ 21 0 fq (jY w left ⟨4,0,[],[]⟩)
 |22=>Dz w at_ left (bU l 0) (bU l 1)
 |23=>Dq w at_ left (bU l 0)
 |24=>Ou w at_ left n.N (bU l 0)
 |25=>inS w at_ left
 |26=>fH w left (bU l 0)
 |27=>xm p w left (n.Kids.getD 0 0) f.Env
 |_=>.go w left [fq] (Z ⟨at_,28,0,fq⟩)
def Tu(p:ax)(w:aa)(at_:Int)(o:aE):ou:=
 let top:=o.Frames.length-1
 let f:=o.Frames.getD top aV
 match o.bI with
 |v::_=>.go w (o.Frames.take top++[⟨f.Node,f.Env,f.bI++[v]⟩]) [] Y
 |[]=>if(f.bI.length:Int)<jo (nodeAt p f.Node)then iM w o.Frames ((nodeAt p f.Node).Kids.getD f.bI.length 0) f.Env
  else iI p w at_ (o.Frames.take top) f
def fL(p:ax)(w:aa)(at_:Int):O (aa×O aA):=
 let t:=bT w at_
 let o:=cr w t
 if o.N≠0 then Y
 else if o.Frames=[]then Z (lB w t ⟨6,1,[bU o.bI 0],[]⟩,Z ⟨at_,0,1,mX (bU o.bI 0)⟩)
 else match Tu p w at_ o with
  | .waits=>Y
  | .fail s=>Z (lB w t ⟨6,s,[],[]⟩,Z ⟨at_,0,s,az⟩)
  | .go a b c e=>Z (lB a t ⟨6,0,c,b⟩,e)
section
def cD(p:ax)(k:Nat)(v:aq):Prop:=
 (v.Kind=1∧gN v.N=W)∨(v.Kind=2∧(v.N=0∨v.N=1))∨(v.Kind=3∧v.N=0)∨(v.Kind=4∧0<=v.N∧v.N<p.dA.length)∨(v.Kind=5∧0<=v.N∧v.N<k)
structure eF(p:ax)(k:Nat)(f:au):Prop where
 lo:0<=f.Node
 hi:f.Node<p.aW.length
 el:f.Env.length<=30
 env:∀v∈f.Env,cD p k v
 vl:(f.bI.length:Int)<=jo (nodeAt p f.Node)
 vals:∀v∈f.bI,cD p k v
def sZ(p:ax)(f:au):Prop:=(f.bI.length:Int)<jo (nodeAt p f.Node)
inductive gE(p:ax)(k:Nat):aE->Prop
 |data {n:Int} {vs}:0<=n->n<p.Cons.length->(vs.length:Int)=(p.Cons.getD n.toNat bx).pG->(∀v∈vs,cD p k v)->gE p k ⟨1,n,vs,[]⟩
 |func {n:Int} {vs}:0<=n->n<p.aW.length->(nodeAt p n).Op=5->vs.length<=30->(∀v∈vs,cD p k v)->gE p k ⟨2,n,vs,[]⟩
 |cell {v}:cD p k v->gE p k ⟨3,0,[v],[]⟩
 |chan {vs}:vs.length<=4->(∀v∈vs,cD p k v)->gE p k ⟨4,0,vs,[]⟩
 |Av {f fs}:fs.length<40->(∀g∈f::fs,eF p k g∧sZ p g)->(nodeAt p f.Node).Op=26->gE p k ⟨5,0,[],f::fs⟩
 |uv {fs f}:fs.length<40->(∀g∈fs,eF p k g∧sZ p g)->eF p k f->gE p k ⟨6,0,[],fs++[f]⟩
 |back {fs v}:fs.length<=40->(∀g∈fs,eF p k g∧sZ p g)->cD p k v->gE p k ⟨6,0,[v],fs⟩
 |done {v}:cD p k v->gE p k ⟨6,1,[v],[]⟩
 |dead {s}:s=2∨s=3∨s=4->gE p k ⟨6,s,[],[]⟩
structure fD(p:ax)(w:aa):Prop where
 len:w.aY.length<=120
 obs:∀o∈w.aY,gE p w.aY.length o
 outs:w.fe.length<=100
 out:∀o∈w.fe,0<=o.Port∧o.Port<=3∧gN o.N=W
 ins:w.kM.length<=50
 inn:∀i∈w.kM,gN i=W
 used:0<=w.Used∧w.Used<=1000000000
 wm:w.aX.Nodup
 tl:w.aX.length<=w.aY.length
 task:∀t∈w.aX,0<=t∧t<w.aY.length∧(cr w t).Form=6
 all:∀i:Nat,i<w.aY.length->(cr w i).Form=6->(i:Int)∈w.aX
mutual
def pw:aC->Nat
 |⟨_,_,_,parts⟩=>1+qC parts
def qC:L aC->Nat
 |[]=>0
 |q::a=>pw q+qC a
end
mutual
def pf:aC->Bool
 |⟨a,_,_,parts⟩=>(decide (1<=a)&&decide (a<=6))&&pfs parts
def pfs:L aC->Bool
 |[]=>W
 |q::a=>pf q&&pfs a
end
def rj:L Nat:=[0,0,0,0,0,1,2,2,3,2,2,2,2,2,0,0,1,1,2,1,1,0,2,1,1,0,1,1,0]
structure PN(p:ax)(n:bp):Prop where
 lo:1<=n.Op
 hi:n.Op<=28
 kids:∀k∈n.Kids,0<=k∧k<p.aW.length
 many:n.Op≠14->n.Op≠15->n.Kids.length=rj.getD n.Op.toNat 0
 con:n.Op=14->0<=n.N∧n.N<p.Cons.length∧(n.Kids.length:Int)=(p.Cons.getD n.N.toNat bx).pG
 mat:n.Op=15->n.Kids.length=1+n.cA.length∧n.cA.length<=5
 int:n.Op=1->gN n.N=W
 bool:n.Op=2->n.N=0∨n.N=1
 name:n.Op=4->-(p.dA.length:Int)<=n.N∧n.N<=29
 port:n.Op=24->0<=n.N∧n.N<=3
 pats:∀q∈n.cA,pw q<=12∧pf q=W
structure lY(p:ax):Prop where
 len:p.aW.length<=300
 Yv:∀n∈p.aW,PN p n
 xO:∀f∈p.dA,0<=f∧f<p.aW.length
 fl:p.dA.length<=300
 main:0<=p.Main∧p.Main<p.dA.length
 cons:∀c∈p.Cons,0<=c.pG∧c.pG<=3
def bX{α:Type}{l:L α}{i:Nat}(d:α)(h:i<l.length):l.getD i d∈l:=by rw[jq,fN h];exact Gx h
variable {p:ax}{n:Int}{w:aa}{v:aq}{o:aE}{k k':Nat}
def lY.nd(h:lY p)(h1:0<=n)(h2:n<p.aW.length):PN p (nodeAt p n):=h.Yv _ (bX _ (by omega))
def fD.ob(h:fD p w)(h1:0<=n)(h2:n<w.aY.length):gE p w.aY.length (cr w n):=h.obs _ (bX _ (by omega))
def eg(h:fD p w)(d:cD p w.aY.length v){a:Int}(b:gR w v a=Z o) :
  o.Form=a∧gE p w.aY.length o∧v.Kind=5∧0<=v.N∧v.N<w.aY.length∧o=cr w v.N:=by
 unfold gR at b;split at b<;>rename_i c
 .cases b;have:0<=v.N∧v.N<w.aY.length:=by rcases d with h|h|h|h|h<;>first|exact h.2|(have:=h.1;have:=c.1;omega)
  exact⟨c.2,h.ob this.1 this.2,c.1,this.1,this.2,rfl⟩
 .cases b
def cD.ref(b:cD p k v)(h:v.Kind=5):0<=v.N∧v.N<k:=by rcases b with a|a|a|a|a<;>first|exact a.2|(have:=a.1;omega)
def cD.code(b:cD p k v)(h:v.Kind=4):0<=v.N∧v.N<p.dA.length:=by rcases b with a|a|a|a|a<;>first|exact a.2|(have:=a.1;omega)
def cD.UD(b:cD p k v)(h:v.Kind=2):v.N=0∨v.N=1:=by rcases b with a|a|a|a|a<;>first|exact a.2|(have:=a.1;omega)
def cD.int(b:cD p k v)(h:v.Kind=1):gN v.N=W:=by rcases b with a|a|a|a|a<;>first|exact a.2|(have:=a.1;omega)
def cD.mono(b:k<=k')(a:cD p k v):cD p k' v:=by
 rcases a with h|h|h|h|h
 .exact .inl h
 .exact .inr (.inl h)
 .exact .inr (.inr (.inl h))
 .exact .inr (.inr (.inr (.inl h)))
 .exact .inr (.inr (.inr (.inr ⟨h.1,h.2.1,by omega⟩)))
def eF.mono{p:ax}{k k':Nat}{f:au}(b:k<=k')(h:eF p k f):eF p k' f:=
 ⟨h.lo,h.hi,h.el,λv a=>(h.env v a).mono b,h.vl,λv a=>(h.vals v a).mono b⟩
def gE.vals(h:gE p k o):∀v∈o.bI,cD p k v:=by
 have one:∀{u:aq},cD p k u->∀v∈[u],cD p k v:=λb v a=>by rw[lg.1 a];exact b
 cases h with
 |data _ _ _ h=>exact h
 |func _ _ _ _ h=>exact h
 |cell h=>exact one h
 |chan _ h=>exact h
 |Av=>intro v a;cases a
 |uv=>intro v a;cases a
 |back _ _ h=>exact one h
 |done h=>exact one h
 |dead=>intro v a;cases a
def gE.mono{p:ax}{k k':Nat}{o:aE}(f:k<=k')(h:gE p k o):gE p k' o:=by
 cases h with
 |data a b c d=>exact .data a b c λv j=>(d v j).mono f
 |func a b c d e=>exact .func a b c d λv j=>(e v j).mono f
 |cell a=>exact .cell (a.mono f)
 |chan a b=>exact .chan a λv j=>(b v j).mono f
 |Av a b c=>exact .Av a (λg i=>⟨(b g i).1.mono f,(b g i).2⟩) c
 |uv a b c=>exact .uv a (λg i=>⟨(b g i).1.mono f,(b g i).2⟩) (c.mono f)
 |back a b c=>exact .back a (λg i=>⟨(b g i).1.mono f,(b g i).2⟩) (c.mono f)
 |done a=>exact .done (a.mono f)
 |dead a=>exact .dead a
end
section
structure Cx(p:ax)(w:aa)(left:List au)(f:au):Prop where
 hp:lY p
 hw:fD p w
 hf:eF p w.aY.length f
 full:(f.bI.length:Int)=jo (nodeAt p f.Node)
 ll:left.length<40
 left:∀g∈left,eF p w.aY.length g∧sZ p g
section
variable {p:ax}{w w':aa}{left:List au}{f:au}{at_:Int}
def Cx.nd(c:Cx p w left f):PN p (nodeAt p f.Node):=c.hp.nd c.hf.lo c.hf.hi
variable {i k k':Nat}{n:Int}{o:aE}{fr:List au}{bk:List aq}{e:Option aA}{v u:aq}
def Cx.val(c:Cx p w left f)(h:i<f.bI.length):cD p w.aY.length (bU f.bI i):=c.hf.vals _ (bX _ h)
def Cx.vl(c:Cx p w left f){k:Int}(h:(nodeAt p f.Node).Op=k)(a:k≠14):f.bI.length=dP.getD k.toNat 0:=by
 have:=c.full;unfold jo at this;rw[h,br a]at this
 exact_mod_cast this
def Dc(n:bp):0<=jo n:=by unfold jo;split<;>omega
def HS(hn:0<=n)(a:n<w.aY.length):cr (lB w n o) i=if(i:Int)=n then o else cr w i:=by
 unfold cr lB;simp only[Gy,jq,DL];by_cases h:(i:Int)=n
 .rw[bJ h,bJ (by omega),bJ (by omega)];rfl
 .rw[br h,br (by omega)]
def qW:cr (fA w o) i=if i=w.aY.length then o else cr w i:=by
 unfold cr fA;simp only[Gy,jq,lD];by_cases h:i=w.aY.length
 .rw[bJ h,br (by omega),h];simp
 .rw[br h];split
  .rfl
  .rw[GB (by simp;omega),GB (by omega)]
def fD.set(h:fD p w)(hn:0<=n)(g:n<w.aY.length)(k:gE p w.aY.length o)(hf:o.Form=6↔(cr w n).Form=6):fD p (lB w n o):=by
 have c:(lB w n o).aY.length=w.aY.length:=by unfold lB;simp
 have a:∀i:Nat,i<w.aY.length->((cr (lB w n o) i).Form=6↔(cr w i).Form=6):=by
  intro i f;rw[HS hn g];by_cases b:(i:Int)=n
  .rw[bJ b,b];exact hf
  .rw[br b]
 refine⟨by rw[c];exact h.len,λx d=>?_,h.outs,h.out,h.ins,h.inn,h.used,h.wm,by rw[c];exact h.tl,λt l=>?_,λi f j=>?_⟩
 .rw[c];rcases LL d with d|d
  .exact h.obs x d
  .rw[d];exact k
 .obtain ⟨h1,h2,h3⟩:=h.task t l;refine⟨h1,by rw[c];exact h2,?_⟩;have e:((t.toNat:Nat):Int)=t:=by omega
  have:=(a t.toNat (by omega)).2 (by rw[e];exact h3);rwa [e]at this
 .rw[c]at f;exact h.all i f ((a i f).1 j)
def fD.add(h:fD p w)(hl:w.aY.length<120)(f:gE p w.aY.length o)(hf:o.Form≠6):fD p (fA w o):=by
 have d:(fA w o).aY.length=w.aY.length+1:=by unfold fA;simp
 refine⟨by omega,λx b=>?_,h.outs,h.out,h.ins,h.inn,h.used,h.wm,by have:=h.tl;unfold fA;simp;omega,λt g=>?_,λi j a=>?_⟩
 .rw[d];rcases ef.1 b with b|b
  .exact (h.obs x b).mono (by omega)
  .rw[lg.1 b];exact f.mono (by omega)
 .obtain ⟨h1,h2,h3⟩:=h.task t g;refine⟨h1,by omega,?_⟩;have e:((t.toNat:Nat):Int)=t:=by omega
  rw[<-e,qW,br (by omega),e];exact h3
 .rw[qW]at a;by_cases c:i=w.aY.length
  .rw[bJ c]at a;exact absurd a hf
  .rw[br c]at a;exact h.all i (by omega) a
abbrev zS(w:aa)(o:aE):aa:=⟨w.aY++[o],w.aX++[(w.aY.length:Int)],w.fe,w.kM,w.Used⟩
def fD.spawn(h:fD p w)(hl:w.aY.length<120)(l:gE p w.aY.length o)(hf:o.Form=6):fD p (zS w o):=by
 have k:(zS w o).aY.length=w.aY.length+1:=by simp
 have d:∀i:Nat,cr (zS w o) i=if i=w.aY.length then o else cr w i:=λi=>qW (w:=w) (o:=o) (i:=i)
 refine⟨by omega,λx f=>?_,h.outs,h.out,h.ins,h.inn,h.used,?_,by have:=h.tl;simp;omega,λt g=>?_,λi n c=>?_⟩
 .rw[k];rcases ef.1 f with f|f
  .exact (h.obs x f).mono (by omega)
  .rw[lg.1 f];exact l.mono (by omega)
 .refine HG.2 ⟨h.wm,Vj _ _,λa d b m=>?_⟩;rw[lg.1 m];have:=(h.task a d).2.1;omega
 .rcases ef.1 g with g|g
  .obtain ⟨h1,h2,h3⟩:=h.task t g;refine⟨h1,by omega,?_⟩;have e:((t.toNat:Nat):Int)=t:=by omega
   rw[<-e,d,br (by omega),e];exact h3
  .rw[lg.1 g];refine⟨by omega,by omega,?_⟩;rw[d,bJ rfl];exact hf
 .rw[d]at c;by_cases j:i=w.aY.length
  .exact iX _ (by rw[j];exact List.mem_singleton_self _)
  .rw[br j]at c;exact eL _ (h.all i (by omega) c)
structure pK(p:ax)(w w':aa)(fr:List au)(bk:List aq)(e:Option aA):Prop where
 ok:fD p w'
 tk:∃l,w'.aX=w.aX++l
 tn:e=Y->w'.aX=w.aX
 ln:w.aY.length<=w'.aY.length
 fm:∀i:Nat,i<w.aY.length->((cr w' i).Form=6↔(cr w i).Form=6)
 ob:gE p w'.aY.length ⟨6,0,bk,fr⟩
def tj(p:ax)(w:aa):ou->Prop
 | .fail s=>s=2∨s=3∨s=4
 | .waits=>True
 | .go w' fr bk e=>pK p w w' fr bk e
def pK.same(h:fD p w)(a:gE p w.aY.length ⟨6,0,bk,fr⟩):pK p w w fr bk e:=
 ⟨h,⟨[],by simp⟩,λ_=>rfl,bQ _,λ_ _=>qP,a⟩
def pK.set(h:fD p w){fr:L au}{bk:L aq}{e:O aA}{n:Int}{o:aE}(hn:0<=n)(b:n<w.aY.length)(d:gE p w.aY.length o)(hf:o.Form≠6)(c:(cr w n).Form≠6)
  (f:gE p w.aY.length ⟨6,0,bk,fr⟩):pK p w (lB w n o) fr bk e:=by
 have g:(lB w n o).aY.length=w.aY.length:=by unfold lB;simp
 refine⟨h.set hn b d ⟨λh=>absurd h hf,λh=>absurd h c⟩,⟨[],by simp[lB]⟩,λ_=>rfl,by omega,λi j=>?_,by rw[g];exact f⟩;rw[HS hn b];by_cases a:(i:Int)=n
 .rw[bJ a,a];exact⟨λh=>absurd h hf,λh=>absurd h c⟩
 .rw[br a]
def pK.add(h:fD p w){fr:L au}{bk:L aq}{e:O aA}{o:aE}(hl:w.aY.length<120)(b:gE p w.aY.length o)(hf:o.Form≠6)
  (c:gE p (w.aY.length+1) ⟨6,0,bk,fr⟩):pK p w (fA w o) fr bk e:=by
 have a:(fA w o).aY.length=w.aY.length+1:=by unfold fA;simp
 refine⟨h.add hl b hf,⟨[],by simp[fA]⟩,λ_=>rfl,by omega,λi d=>?_,by rw[a];exact c⟩;rw[qW,br (by omega)]
def sI(b:k<=k')(hl:left.length<=40)(h:∀g∈left,eF p k g∧sZ p g)(c:cD p k' v):gE p k' ⟨6,0,[v],left⟩:=
 .back hl (λg a=>⟨(h g a).1.mono b,(h g a).2⟩) c
def V9(h:gN n=W):cD p k (gf n):=.inl ⟨rfl,h⟩
def Pw{b:Bool}:cD p k (iD b):=.inr (.inl ⟨rfl,by cases b<;>simp[iD]⟩)
def xh:cD p k fq:=.inr (.inr (.inl ⟨rfl,rfl⟩))
def U0(h:k<k'):cD p k' (tE k):=.inr (.inr (.inr (.inr ⟨rfl,by simp[tE],by simp[tE];omega⟩)))
def y9(c:Cx p w left f)(a:gE p w.aY.length o)(hf:o.Form≠6):tj p w (jY w left o):=by
 unfold jY;split
 .exact .inr (.inr rfl)
 .exact pK.add c.hw (by omega) a hf (sI (by omega) (by have:=c.ll;omega) c.left (U0 (by omega)))
def WI{r:ou}{a b d:Int}(h:tj p w r):tj p w (evS a b d v r):=by cases r with|go w' fr bk e=>exact⟨h.ok,h.tk,(λc=>by cases c),h.ln,h.fm,h.ob⟩|_=>exact h
def ud{k:Int}{env:L aq}{w1:aa}(h1:∀fr,gE p w1.aY.length ⟨6,0,[],fr⟩->pK p w w1 fr [] Y)(b:w.aY.length<=w1.aY.length)(hl:∀g∈left,eF p w.aY.length g∧sZ p g)
  (hn:0<=k∧k<p.aW.length) (c:∀v∈env,cD p w1.aY.length v):tj p w (iM w1 left k env):=by
 unfold iM;split
 .exact .inr (.inr rfl)
 .exact h1 _ (.uv (by omega) (λg a=>⟨(hl g a).1.mono b,(hl g a).2⟩) ⟨hn.1,hn.2,by simp only;omega,c,Dc _,λv d=>by cases d⟩)
def AK{l:L aq}(h:∀u∈l,cD p k u)(b:cD p k v):∀u∈l++[v],cD p k u:=by
 intro u a;rcases ef.1 a with a|a
 .exact h u a
 .rw[lg.1 a];exact b
def Nl(f:lY p)(m:fD p w)(h:cD p w.aY.length u)(i:cD p w.aY.length v){b:au}(c:hY p w u v=Z b) :
  (0<=b.Node∧b.Node<p.aW.length)∧(∀x∈b.Env,cD p w.aY.length x)∧b.bI=[]:=by
 unfold hY at c;split at c
 .rename_i h4;cases c;obtain⟨h1,h2⟩:=h.code h4;exact⟨f.xO _ (bX _ (by omega)),AK (l:=[]) (by simp) i,rfl⟩
 .split at c
  .rename_i o n;cases c;obtain⟨h1,h2,_⟩:=eg m h n;cases h2 with|func a b d e g=>have j:=f.nd a b;have k:=j.many (by omega) (by omega);rw[d]at k;exact⟨j.kids _ (bX _ (by rw[k];decide)),AK g i,rfl⟩|_=>cases h1
  .cases c
mutual
def Mi(c:fD p w):∀(q:aC)(v:aq)(l:L aq),cD p w.aY.length v->iC w q v=Z l->∀u∈l,cD p w.aY.length u
 |⟨a,n,text,parts⟩,v,l,d,h=>by
  unfold iC at h;by_cases h1:a=1
  .rw[bJ h1]at h;cases h;intro u b;cases b
  rw[br h1]at h;by_cases h2:a=2
  .rw[bJ h2]at h;cases h;intro u b;rw[lg.1 b];exact d
  rw[br h2]at h;by_cases h3:a=3
  .rw[bJ h3]at h;split at h<;>cases h;intro u b;cases b
  rw[br h3]at h;by_cases h4:a=4
  .rw[bJ h4]at h;split at h<;>cases h;intro u b;cases b
  rw[br h4]at h;by_cases h5:a=5
  .rw[bJ h5]at h;split at h<;>cases h;intro u b;cases b
  rw[br h5]at h;split at h
  .cases h
  .rename_i o e;split at h
   .cases h
   .exact Em c parts o.bI l (eg c d e).2.1.vals h
def Em(e:fD p w):∀(qs:L aC)(vs:L aq)(l:L aq),(∀v∈vs,cD p w.aY.length v)->eu w qs vs=Z l->∀u∈l,cD p w.aY.length u
 |[],vs,l,b,h=>by unfold eu at h;cases h;intro u a;cases a
 |q::qs,[],l,b,h=>by unfold eu at h;cases h;intro u a;cases a
 |q::qs,v::vs,l,b,h=>by
  unfold eu at h;split at h
  .cases h
  .rename_i f c;split at h
   .cases h
   .rename_i g d;cases h;intro u a;rcases ef.1 a with a|a
    .exact Mi e q v f (b v eD) c u a
    .exact Em e qs vs g (λx i=>b x (gO _ i)) d u a
end
def Na(c:Cx p w left f){u:aq}(d:cD p w.aY.length u):∀(qs:L aC)(a:L Int),(∀k∈a,0<=k∧k<p.aW.length)->tj p w (kK w left f.Env u qs a)
 |[],a,_=>by cases a<;>exact .inr (.inl rfl)
 |q::qs,[],_=>.inr (.inl rfl)
 |q::qs,k::a,e=>by
  unfold kK;split
  .rename_i l g;refine ud (λfr h=>pK.same c.hw h) (bQ _) c.left (e k eD) λv b=>?_;rcases ef.1 b with b|b
   .exact c.hf.env v b
   .exact Mi c.hw q u l d g v b
  .exact Na c d qs a λx i=>e x (gO _ i)
def mI{op:ou}(c:Cx p w left f)(a:cD p w.aY.length v):tj p w (fH w left v):=
 pK.same c.hw (sI (bQ _) (by have:=c.ll;omega) c.left a)
def Eu{α:Type}{q:α->Bool}:∀{l:L α}{k:Nat},ir q l=Z k->∃h:k<l.length,q l[k]=W
 |a::l,k,h=>by
  unfold ir at h;cases b:ir q l with
  |some j=>rw[b]at h;obtain⟨h1,h2⟩:=Eu b;simp only[bg]at h;subst h;exact⟨by simp only[eV];omega,h2⟩
  |none=>rw[b]at h;simp only at h;cases c:q a<;>rw[c]at h<;>simp at h;subst h;exact⟨by simp,c⟩
def acJ(c:Cx p w left f):tj p w (iI p w at_ left f):=by
 have nd:=c.nd;have R:=c.hw.len;have hll:=c.ll;have h1:=nd.lo;have h2:=nd.hi;have q:∀{i:Nat},i<(nodeAt p f.Node).Kids.length->0<=(nodeAt p f.Node).Kids.getD i 0∧(nodeAt p f.Node).Kids.getD i 0<p.aW.length:=λh=>nd.kids _ (bX _ h);have many:∀k:Int,(nodeAt p f.Node).Op=k->k≠14->k≠15->(nodeAt p f.Node).Kids.length=rj.getD k.toNat 0:=by intro k h h14 h15;have:=nd.many (by omega) (by omega);rwa [h]at this
 have ref:∀{o:aE}{v:aq},cD p w.aY.length v->tj p w (fH w left v):=λn=>mI (op:=.waits) c n;have same:∀{v:aq}{e:O aA},cD p w.aY.length v->tj p w (.go w left [v] e):=λn=>pK.same c.hw (sI (bQ _) (by omega) c.left n);obtain⟨k,j⟩:∃k:Nat,(nodeAt p f.Node).Op=k:=⟨_,(Al (by omega)).symm⟩;have F:1<=k:=by omega
 have G:k<=28:=by omega
 unfold iI;simp only[j,Gy]
 match k,j,F,G with
 |1,j,_,_=>exact mI (op:=.waits) c (V9 (nd.int j))
 |2,j,_,_=>exact mI (op:=.waits) c Pw
 |3,j,_,_=>exact mI (op:=.waits) c xh
 |4,j,_,_=>
  have hn:=nd.name j;simp only;split
  .refine mI (op:=.waits) c (.inr (.inr (.inr (.inl ⟨rfl,?_,?_⟩))))<;>simp only<;>omega
  .split
   .exact .inl rfl
   .exact mI (op:=.waits) c (c.hf.env _ (bX _ (by omega)))
 |5,j,_,_=>exact y9 c (.func c.hf.lo c.hf.hi j c.hf.el c.hf.env) (by simp)
 |6,j,_,_=>
  have n:=c.vl j (by decide);simp[dP]at n;have v0:=c.val (i:=0) (by omega);have v1:=c.val (i:=1) (by omega);simp only;unfold xX;split
  .rename_i o ho;obtain⟨h3,h4,_⟩:=eg c.hw v0 ho;split
   .exact .inr (.inr rfl)
   .refine pK.same c.hw (.back (by rw[gw];omega) (λg hg=>?_) v1);rcases ef.1 hg with hg|hg
    .exact c.left g hg
    .cases h4 with|Av a b d=>exact b g hg|_=>cases h3
  .split
   .exact .inl rfl
   .rename_i b H;obtain⟨h3,h4,h5⟩:=Nl c.hp c.hw v0 v1 H;exact ud (λfr h=>pK.same c.hw h) (bQ _) c.left h3 h4
 |7,j,_,_=>have n:=c.vl j (by decide);simp[dP]at n;have s:=many _ j (by decide) (by decide);exact ud (λfr h=>pK.same c.hw h) (bQ _) c.left (q (by rw[s];decide)) (AK c.hf.env (c.val (by omega)))
 |8,j,_,_=>
  have n:=c.vl j (by decide);simp[dP]at n;have s:=many _ j (by decide) (by decide);simp only;split
  .exact .inl rfl
  .rename_i h3;have:=(c.val (i:=0) (by omega)).UD (by omega);refine ud (λfr h=>pK.same c.hw h) (bQ _) c.left (q ?_) c.hf.env;rw[s];show _<3;omega
 |9,j,_,_|10,j,_,_|11,j,_,_|12,j,_,_|13,j,_,_=>
  simp only;have I:∀m:Int,tj p w (if gN m=W then fH w left (gf m)else .fail 4):=by
   intro m;split
   .exact mI (op:=.waits) c (V9 (by assumption))
   .exact .inr (.inr rfl)
  unfold mw;split
  .split
   .exact .inl rfl
   .exact mI (op:=.waits) c Pw
  .split
   .exact .inl rfl
   .split
    .exact mI (op:=.waits) c Pw
    .exact I _
 |14,j,_,_=>obtain⟨a,b,d⟩:=nd.con j;have C:=c.full;unfold jo at C;rw[bJ (show(nodeAt p f.Node).Op=14 from j)]at C;exact y9 c (.data a b (by omega) c.hf.vals) (by simp)
 |15,j,_,_=>have n:=c.vl j (by decide);simp[dP]at n;exact Na c (c.val (by omega)) _ _ λx K=>nd.kids _ (List.mem_of_mem_drop K)
 |16,j,_,_=>have n:=c.vl j (by decide);simp[dP]at n;exact WI (y9 c (.cell (c.val (by omega))) (by simp))
 |17,j,_,_=>
  have n:=c.vl j (by decide);simp[dP]at n;simp only;unfold O3;split
  .exact .inl rfl
  .rename_i o ho;obtain⟨h3,h4,_⟩:=eg c.hw (c.val (by omega)) ho;have:0<o.bI.length:=by cases h4<;>first|(cases h3;done)|simp
   exact same (h4.vals _ (bX _ this))
 |18,j,_,_=>
  have n:=c.vl j (by decide);simp[dP]at n;simp only;unfold g9;split
  .exact .inl rfl
  .rename_i o ho;obtain⟨h3,h4,h5,h6,t,y⟩:=eg c.hw (c.val (by omega)) ho;exact pK.set c.hw h6 t (.cell (c.val (by omega))) (by simp) (by rw[<-y];omega) (sI (bQ _) (by omega) c.left xh)
 |19,j,_,_=>
  have n:=c.vl j (by decide);simp[dP]at n;simp only;have mk:∀{o:aE},gE p w.aY.length o->o.Form=6->tj p w (if 120<=w.aY.length then .fail 4 else .go (zS w o) left [tE w.aY.length] (Z ⟨at_,19,0,fq⟩)):=by
   intro o ho C;split
   .exact .inr (.inr rfl)
   .refine ⟨c.hw.spawn (by omega) ho C,⟨_,rfl⟩,(λh=>by cases h),by simp,λi E=>?_,sI (k:=w.aY.length) (by simp) (by omega) c.left (U0 (by simp))⟩;rw[show cr (zS w o) i=if i=w.aY.length then o else cr w i from qW (w:=w) (o:=o) (i:=i),br (by omega)]
  unfold xk;simp only;split
  .rename_i o ho;obtain⟨h3,h4,_⟩:=eg c.hw (c.val (by omega)) ho;cases h4 with|Av a b d=>exact mk (.back (by simp only[eV];omega) b xh) rfl|_=>cases h3
  .split
   .exact .inl rfl
   .rename_i b H;obtain⟨h3,h4,h5⟩:=Nl c.hp c.hw (c.val (by omega)) xh H;split
    .exact .inr (.inr rfl)
    .exact mk (.uv (fs:=[]) (by simp) (by simp) ⟨h3.1,h3.2,by omega,h4,by rw[h5];exact Dc _,by rw[h5];simp⟩) rfl
 |20,j,_,_=>
  have n:=c.vl j (by decide);simp[dP]at n;simp only;unfold ED;split
  .exact .inl rfl
  .rename_i o ho;obtain⟨h3,h4,_⟩:=eg c.hw (c.val (by omega)) ho;split
   .trivial
   .split
    .cases h4 with|dead a=>exact a|done a=>exact absurd rfl ‹_›|uv a b d=>exact absurd rfl ‹¬_=(0:Int)›|back a b d=>exact absurd rfl ‹¬_=(0:Int)›|_=>cases h3
    .have:0<o.bI.length:=by cases h4 with|done a=>exact Nat.one_pos|dead a=>exact absurd ‹¬_› (by dsimp only;omega)|uv a b d=>exact absurd rfl ‹¬_=(0:Int)›|back a b d=>exact Nat.one_pos|_=>cases h3
     exact same (h4.vals _ (bX _ this))
 |21,j,_,_=>exact WI (y9 c (.chan (by simp) (by simp)) (by simp))
 |22,j,_,_=>
  have n:=c.vl j (by decide);simp[dP]at n;simp only;unfold Dz;split
  .exact .inl rfl
  .rename_i o ho;obtain⟨h3,h4,h5,h6,t,y⟩:=eg c.hw (c.val (by omega)) ho;split
   .trivial
   .exact pK.set c.hw h6 t (.chan (by rw[gw];simp only[nq];omega) (AK h4.vals (c.val (by omega)))) (by simp) (by rw[<-y];omega) (sI (bQ _) (by omega) c.left xh)
 |23,j,_,_=>
  have n:=c.vl j (by decide);simp[dP]at n;simp only;unfold Dq;split
  .exact .inl rfl
  .rename_i o ho;obtain⟨h3,h4,h5,h6,t,y⟩:=eg c.hw (c.val (by omega)) ho;have r:=h4.vals;have z:o.bI.length<=4:=by cases h4<;>first|(cases h3;done)|assumption
   split
   .trivial
   .rename_i v l M;rw[M]at r z;exact pK.set c.hw h6 t (.chan (by simp only[eV]at z;omega) λu S=>r u (gO _ S)) (by simp) (by rw[<-y];omega) (sI (bQ _) (by omega) c.left (r v eD))
 |24,j,_,_=>
  have n:=c.vl j (by decide);simp[dP]at n;have v0:=c.val (i:=0) (by omega);have X:=nd.port j;simp only;unfold Ou;split
  .exact .inl rfl
  .split
   .exact .inr (.inr rfl)
   .rename_i h3 h4;refine⟨⟨c.hw.len,c.hw.obs,by simp only[gw,nq];omega,λo ho=>?_,c.hw.ins,c.hw.inn,c.hw.used,c.hw.wm,c.hw.tl,c.hw.task,c.hw.all⟩,⟨[],by simp⟩,λ_=>rfl,bQ _,λ_ _=>qP,sI (bQ _) (by omega) c.left xh⟩;rcases ef.1 ho with ho|ho
    .exact c.hw.out o ho
    .rw[lg.1 ho];exact⟨X.1,X.2,v0.int (by omega)⟩
 |25,j,_,_=>
  have E:=c.hw.inn;have A:=c.hw.ins;have S:=c.hw.used;simp only;unfold inS;split
  .trivial
  .rename_i i l hl;rw[hl]at E A;split
   .exact .inr (.inr rfl)
   .exact ⟨⟨c.hw.len,c.hw.obs,c.hw.outs,c.hw.out,by simp only[eV]at A;simp only;omega,λx K=>E x (gO _ K),by simp only;omega,c.hw.wm,c.hw.tl,c.hw.task,c.hw.all⟩,⟨[],by simp⟩,λ_=>rfl,bQ _,λ_ _=>qP,sI (bQ _) (by omega) c.left (V9 (E i eD))⟩
 |26,j,_,_=>have n:=c.vl j (by decide);simp[dP]at n;exact mI (op:=.waits) c (c.val (by omega))
 |27,j,_,_=>
  have s:=many _ j (by decide) (by decide);simp only;unfold xm;split
  .exact .inr (.inl rfl)
  .rename_i k N;obtain⟨h3,h4⟩:=Eu N;split
   .exact .inr (.inr rfl)
   .have hd:left.drop k=left[k]::left.drop (k+1):=QW h3;have P:gE p w.aY.length ⟨5,0,[],left.drop k⟩:=by rw[hd];refine .Av (by rw[BC];omega) (λg hg=>?_) (by simpa using h4);exact c.left g (List.mem_of_mem_drop (i:=k) (by rw[hd];exact hg))
    have B:(fA w ⟨5,0,[],left.drop k⟩).aY.length=w.aY.length+1:=by simp[fA]
    refine ud (λfr h=>pK.add c.hw (by omega) P (by simp) (by rw[B]at h;exact h)) (by omega) (λg hg=>c.left g (QS hg)) (q (by rw[s];decide)) ?_;rw[B];exact AK (λv n=>(c.hf.env v n).mono (by omega)) (U0 (by omega))
 |28,j,_,_=>exact same xh
 |k+29,j,_,h=>omega
end
end
section
abbrev TB:=U×Int×L au×Int×L aq×L aq×Int×Int×L Int×L aC×L aq×U
abbrev RB:=L bp×L Int×Int×L cB×L aE×L Int×L cS×L Int×Int×U
abbrev tb(place:Int)(fr:L au)(node:Int)(env vals:L aq)(nd:bp)(bk:L aq):TB:=
 ((),place,fr,node,env,vals,nd.Op,nd.N,nd.Kids,nd.cA,bk,())
abbrev rb(p:ax)(w:aa):RB:=
 (p.aW,p.dA,p.Main,p.Cons,w.aY,w.aX,w.fe,w.kM,w.Used,())
abbrev fl(s:Int):Any:=Any.a0 ⟨s⟩
section
variable {n:Nat}{place node:Int}{fr l:List au}{env vals bk:List aq}{nd:bp}{p:ax}{w:aa}{T:TB}{v u:aq}{form:Int}{o:aE}
def kI(b:Bool)(s:Int):F219 n (b,s,())=bif b then Z (.ok ((),()))else Z (.dm (fl s,())):=by cases b<;>rfl
theorem Rt:F48 n ()=Z ((fq,()),()):=rfl
theorem TN(k:Int):F272 n (k,())=Z ((gf k,()),()):=rfl
def aas(b:Bool):F273 n (b,())=Z ((iD b,()),()):=by cases b<;>rfl
def ahL(k:Int):F273 n (D.aG k 1,())=Z ((iD (k==1),()),()):=aas _
def ad7:F112 n (v,())=Z ((mX v,()),()):=by
 unfold F112 mX;by_cases h:v.Kind=4
 .simp[h,aS];rfl
 .by_cases a:v.Kind=5
  .simp[a,aS];rfl
  .simp (disch:=omega)only[aS,h,a,or_self,eT]
def aav(l:L aE):F170 n (l,())=Z ((l,()),()):=by rfl
def aaw(l:L au):F160 n (l,())=Z ((l,()),()):=by rfl
theorem aof(s:Int):F114 n (⟨s⟩,())=Z ((⟨0,0,s,az⟩,()),()):=rfl
def WW(h1:fr.length<=1000)(h2:l.length<=1000):F171 n (tb place fr node env vals nd bk,rb p w,l,())=
  if fr.length+l.length<=40 then Z (.ok ((),tb place (fr++l) node env vals nd bk,rb p w,()))else Z (.dm (fl 4,tb place fr node env vals nd bk,rb p w,())):=by
 unfold F171;split
 .simp (disch:=omega)only[aS,kI,bE]
 .simp (disch:=omega)only[aS,kI,bE]
def WV{R:RB}(h1:T.2.2.1.length<=1000)(h2:l.length<=1000):F171 n (T,R,l,())=
  if T.2.2.1.length+l.length<=40 then Z (.ok ((),((),T.2.1,T.2.2.1++l,T.2.2.2),R,()))else Z (.dm (fl 4,T,R,())):=by
 unfold F171;split
 .simp (disch:=omega)only[aS,kI,bE]
 .simp (disch:=omega)only[aS,kI,bE]
theorem GN:F271 n (tb place fr node env vals nd bk,rb p w,v,())=Z ((cg.a3 ⟨⟩,()),tb place fr node env vals nd [v],rb p w,()):=rfl
variable {k:Int}
def aat{a:L aq}(c:0<=k)(b:k<nd.Kids.length)(h1:fr.length<=1000):F174 n (tb place fr node env vals nd bk,rb p w,k,a,())=
  if fr.length+1<=40 then Z (.ok ((cg.a3 ⟨⟩,()),tb place (fr++[⟨nd.Kids.getD k.toNat 0,a,[]⟩]) node env vals nd bk,rb p w,()))else Z (.dm (fl 4,tb place fr node env vals nd bk,rb p w,())):=by
 unfold F174;split<;>rename_i h
 .simp (disch:=first|omega|simp only[lq];omega)only[aS,WW,nq,h,fY]
 .simp (disch:=first|omega|simp only[lq];omega)only[aS,WW,nq,h,eT]
def Pe{a b:L aq}(h1:a.length<=1000)(h2:b.length<=1000):F277 n (a,b,())=
  if a.length+b.length<=30 then Z (.ok ((a++b,()),()))else Z (.dm (fl 4,())):=by
 unfold F277;split
 .simp (disch:=omega)only[aS,kI,bE]
 .simp (disch:=omega)only[aS,kI,bE]
def bw:(∀(l:L aq)(k:Nat),l.getD k az=bU l k)∧(∀(p:ax)(k:Int),p.aW.getD k.toNat aP=nodeAt p k)∧(∀(w:aa)(k:Int),w.aY.getD k.toNat aU=cr w k):=
 ⟨λ_ _=>rfl,λ_ _=>rfl,λ_ _=>rfl⟩
def qH{α:Type}(a:α)(l:L α)(k:Int)(b:k=((l.length+1:Nat):Int)):eo (a::l) 1 k=l:=by subst b;simp[eo]
def gS:O aE->aE×Bool×U
 |some o=>(o,W,())
 |none=>(aU,J,())
def TK(b:v.Kind=5->0<=v.N∧v.N<w.aY.length):F298 n (T,rb p w,v,form,())=Z (gS (gR w v form),T,rb p w,()):=by
 unfold F298 gR cr;by_cases h:v.Kind=5
 .obtain ⟨h1,h2⟩:=b h;by_cases a:(w.aY.getD v.N.toNat aU).Form=form
  .simp (disch:=omega)only[aS,h,a,and_self,fY,gS]
  .simp (disch:=omega)only[aS,h,a,and_false,eT,gS]
 .simp (disch:=omega)only[aS,h,false_and,eT,gS]
def rA(a:v.Kind=5->0<=v.N∧v.N<w.aY.length):F276 n (T,rb p w,v,form,())=match gR w v form with
  |some o=>Z (.ok ((o,()),T,rb p w,()))
  |none=>Z (.dm (fl 2,T,rb p w,())):=by
 unfold F276;rw[TK a];cases gR w v form<;>simp only[aS,kI,gS]
def AQ:w.aY.length<=1000->F274 n (T,rb p w,o,())=
  if w.aY.length<120 then Z (.ok ((tE w.aY.length,()),T,rb p (fA w o),()))else Z (.dm (fl 4,T,rb p w,())):=by
 intro h1;unfold F274 sS;split
 .simp (disch:=first|omega|simp only[lq];omega)only[aS,kI,fA,gw,nq,dU];rw[cT (by omega) (by omega)];simp[tE,cX,aD]
 .simp (disch:=omega)only[aS,kI]
def MX:F280 n (tb place fr node env vals nd bk,rb p w,v,u,())=
  Z ((cg.a1 ⟨⟨place,nd.Op,if nd.Op=24 then nd.N else 0,mX u⟩⟩,()),tb place fr node env vals nd [v],rb p w,()):=by
 unfold F280 Ku;rw[ad7];by_cases h:nd.Op=24
 .simp only[aS,h,fY,tb]
 .simp (disch:=omega)only[aS,h,eT]
def Ru{at_:Int}{fr:L au}{R:RB}:F280 n (tb at_ fr node env vals nd bk,R,v,u,())=
  Z ((cg.a1 ⟨⟨at_,nd.Op,if nd.Op=24 then nd.N else 0,mX u⟩⟩,()),tb at_ fr node env vals nd [v],R,()):=by
 unfold F280 Ku;rw[ad7];by_cases h:nd.Op=24
 .simp only[aS,h,fY,tb]
 .simp (disch:=omega)only[aS,h,eT]
def ad2(b:0<=k)(a:k<w.aY.length):F281 n (T,rb p w,k,o,())=Z ((),T,rb p (lB w k o),()):=by unfold F281;simp(disch:=omega)only[aS,aav,lB]
def TM(hl:2<=vals.length):F278 n (tb place fr node env vals nd bk,rb p w,())=
  if(bU vals 0).Kind=1∧(bU vals 1).Kind=1 then Z (.ok (((bU vals 0).N,(bU vals 1).N,()),tb place fr node env vals nd bk,rb p w,()))else Z (.dm (fl 2,tb place fr node env vals nd bk,rb p w,())):=by
 unfold F278 PY bU;have z0:ah 0=0:=rfl;have a:ah 1=1:=rfl;by_cases h:(vals.getD 0 az).Kind=1
 .by_cases b:(vals.getD 1 az).Kind=1
  .simp (disch:=omega)only[aS,z0,a,h,b,and_self,fY,kI]
  .simp (disch:=omega)only[aS,z0,a,h,b,and_false,eT,kI]
 .simp (disch:=omega)only[aS,z0,a,h,false_and,eT,kI]
def E5(hf:u.Kind=4->0<=u.N∧u.N<p.dA.length)(a:u.Kind=5->0<=u.N∧u.N<w.aY.length)
  (hn:∀o,gR w u 2=Z o->0<=o.N∧o.N<p.aW.length∧0<(nodeAt p o.N).Kids.length∧o.bI.length<=1000) :
  F275 n (T,rb p w,u,v,())=match hY p w u v with
   |none=>Z (.ok ((aV,J,()),T,rb p w,()))
   |some b=>if b.Env.length<=30 then Z (.ok ((b,W,()),T,rb p w,()))else Z (.dm (fl 4,T,rb p w,())):=by
 unfold F275 hY;by_cases h:u.Kind=4
 .obtain ⟨h1,h2⟩:=hf h;simp(disch:=omega)only[aS,h,fY,nq,Nat.reduceLeDiff]
 .simp (disch:=omega)only[aS,h,eT];rw[TK a];cases c:gR w u 2 with
  |none=>simp only[aS,gS]
  |some o=>
   obtain⟨h1,h2,h3,h4⟩:=hn o c;unfold nodeAt at h3 ⊢;simp(disch:=omega)only[aS,gS];rw[Pe (by omega) (by simp)];by_cases h5:o.bI.length+1<=30
   .simp only[gw,nq,h5,fY,aS]
   .simp only[gw,nq,h5,eT,aS]
end
end
section
def ad0:O aA->cg
 |none=>cg.a3 ⟨⟩
 |some e=>cg.a1 ⟨e⟩
abbrev Out:=Rx ((cg×U)×TB×RB×U) (Any×TB×RB×U)
def Kh(p:ax)(w:aa)(r:ou)(y:Out):Prop:=match r with
 | .fail s=>∃T w1,y=.dm (fl s,T,rb p w1,())
 | .waits=>∃T,y=.ok ((cg.a0 ⟨⟩,()),T,rb p w,())
 | .go w' fr a e=>∃pl node env vals nd,y=.ok ((ad0 e,()),tb pl fr node env vals nd a,rb p w',())
def gr(p:ax)(w:aa)(r:ou)(f:Nat->O Out):Prop:=∃y,Ev f y∧Kh p w r y
def gr.of_eq{p:ax}{w:aa}{r:ou}{f:Nat->O Out}{y:Out}(h:∀n,f n=Z y)(a:Kh p w r y):gr p w r f:=⟨y,Ev.of_eq h,a⟩
section
variable {p:ax}{w:aa}{left:List au}{f:au}{at_:Int}
abbrev yp(at_:Int)(left:L au)(p:ax)(f:au):TB:=tb at_ left f.Node f.Env f.bI (nodeAt p f.Node) []
variable {pl node:Int}{env vals:List aq}{nd:bp}
def CS{k:Nat->O ((cg×U)×TB×RB×U)}{v:aq}
  (h:∀n,k n=Z ((cg.a3 ⟨⟩,()),tb pl left node env vals nd [v],rb p w,())):gr p w (fH w left v) (λn=>ai (k n) λg=>Z (Rx.ok g)):=
 .of_eq (y:=.ok ((cg.a3 ⟨⟩,()),tb pl left node env vals nd [v],rb p w,())) (λn=>by rw[h n];rfl) ⟨_,_,_,_,_,rfl⟩
def acR(c:Cx p w left f)(a:(nodeAt p f.Node).Op=1∨(nodeAt p f.Node).Op=2∨(nodeAt p f.Node).Op=3) :
  gr p w (iI p w at_ left f) (λn=>ai (F221 n (yp at_ left p f,rb p w,())) λg=>Z (Rx.ok g)):=by
 unfold iI F221 Kw;rcases a with h|h|h
 .simp only[h,Int.reduceToNat];exact CS λn=>by simp only[aS,bw,TN,GN,h];rfl
 .simp only[h,Int.reduceToNat];exact CS λn=>by simp(disch:=omega)only[aS,bw,aas,GN,h];rfl
 .simp only[h,Int.reduceToNat];exact CS λn=>by simp(disch:=omega)only[aS,bw,Rt,GN,h];rfl
def akp(c:Cx p w left f)(h:(nodeAt p f.Node).Op=4):gr p w (iI p w at_ left f) (λn=>F222 n (yp at_ left p f,rb p w,())):=by
 have a:=c.nd.name h;have b:=c.hp.fl;unfold iI F222;simp only[h,Int.reduceToNat];by_cases h1:(nodeAt p f.Node).N<0
 .rw[bJ h1];exact .of_eq (λn=>by simp(disch:=omega)only[aS,bw,GN,cT]<;>rfl) ⟨_,_,_,_,_,rfl⟩
 .rw[br h1];by_cases h2:(f.Env.length:Int)<=(nodeAt p f.Node).N
  .rw[bJ h2];exact .of_eq (λn=>by simp(disch:=omega)only[aS,bw,kI]<;>rfl) ⟨_,_,rfl⟩
  .rw[br h2];exact .of_eq (λn=>by simp(disch:=omega)only[aS,bw,kI,GN]<;>rfl) ⟨_,_,_,_,_,rfl⟩
def VN{o:aE}{F:Nat->O Out}{a:L aq}(b:fD p w)
  (h:∀n,F n=ai (F274 n (tb pl left node env vals nd a,rb p w,o,())) λc=>Rx.el c (λd=>ai (F271 n (d.2.1,d.2.2.1,d.1)) λe=>Z (Rx.ok e)) λd=>Z (Rx.dm d)) :
  gr p w (jY w left o) F:=by
 have:=b.len;unfold jY;by_cases h1:120<=w.aY.length
 .rw[bJ h1];exact .of_eq (λn=>by rw[h,AQ (by omega),br (by omega)];rfl) ⟨_,_,rfl⟩
 .rw[br h1];exact .of_eq (λn=>by rw[h,AQ (by omega),bJ (by omega)];simp only[aS,bw,GN]<;>rfl) ⟨_,_,_,_,_,rfl⟩
def ako(c:Cx p w left f)(h:(nodeAt p f.Node).Op=5):gr p w (iI p w at_ left f) (λn=>F223 n (yp at_ left p f,rb p w,())):=by unfold iI;simp only[h,Int.reduceToNat];exact VN c.hw λn=>rfl
def aki(c:Cx p w left f)(h:(nodeAt p f.Node).Op=14):gr p w (iI p w at_ left f) (λn=>F230 n (yp at_ left p f,rb p w,())):=by unfold iI;simp only[h,Int.reduceToNat];exact VN c.hw λn=>rfl
def OB{k:Int}{a:L aq}{F:Nat->O Out}(pl node:Int)(env vals:L aq){w':aa}(h1:left.length<=1000)(h2:a.length<=30)(c:0<=k)(b:k<nd.Kids.length)
  (h:∀n,F n=ai (F174 n (tb pl left node env vals nd [],rb p w',k,a,())) λe=>Rx.el e (λg=>Z (Rx.ok g)) λg=>Z (Rx.dm g)) :
  gr p w (iM w' left (nd.Kids.getD k.toNat 0) a) F:=by
 unfold iM;by_cases h3:40<=left.length
 .rw[bJ (.inl h3)];exact .of_eq (λn=>by rw[h,aat c b h1,br (by omega)];rfl) ⟨_,_,rfl⟩
 .rw[br (by omega)];exact .of_eq (λn=>by rw[h,aat c b h1,bJ (by omega)];rfl) ⟨_,_,_,_,_,rfl⟩
def akm(c:Cx p w left f)(h:(nodeAt p f.Node).Op=7):gr p w (iI p w at_ left f) (λn=>F225 n (yp at_ left p f,rb p w,())):=by
 have a:=c.nd.many (by omega) (by omega);have b:=c.vl h (by decide);have e:=c.hf.el;have d:=c.ll;rw[h]at a;simp[rj]at a;simp[dP]at b;unfold iI F225;simp only[h,Int.reduceToNat];by_cases h1:f.Env.length+1<=30
 .refine OB (k:=1) at_ f.Node f.Env f.bI (by omega) (by simp;omega) (by omega) (by omega) λn=>?_;simp(disch:=first|omega|simp only[lq];omega)only[aS,bw,Pe,h1,fY]<;>rfl
 .unfold iM;rw[bJ (by simp;omega)];exact .of_eq (λn=>by simp(disch:=first|omega|simp only[lq];omega)only[aS,bw,Pe,h1,eT]<;>rfl) ⟨_,_,rfl⟩
def akl(c:Cx p w left f)(h:(nodeAt p f.Node).Op=8):gr p w (iI p w at_ left f) (λn=>F226 n (yp at_ left p f,rb p w,())):=by
 have a:=c.nd.many (by omega) (by omega);have b:=c.vl h (by decide);have d:=c.hf.el;have e:=c.ll;rw[h]at a;simp[rj]at a;simp[dP]at b;have v0:=c.val (i:=0) (by omega);unfold iI F226;simp only[h,Int.reduceToNat];by_cases h1:(bU f.bI 0).Kind=2
 .rw[br (by omega)];have g:=v0.UD h1;refine OB (k:=2-(bU f.bI 0).N) at_ f.Node f.Env f.bI (by omega) d (by omega) (by omega) λn=>?_;simp(disch:=omega)only[aS,bw,kI,cT]<;>rfl
 .rw[bJ h1];exact .of_eq (λn=>by simp(disch:=omega)only[aS,bw,kI]<;>rfl) ⟨_,_,rfl⟩
def akn(c:Cx p w left f)(h:(nodeAt p f.Node).Op=6):gr p w (iI p w at_ left f) (λn=>F224 n (yp at_ left p f,rb p w,())):=by
 have s:=c.vl h (by decide);simp[dP]at s;have t:=c.ll;have v0:=c.val (i:=0) (by omega);have k:∀o,gR w (bU f.bI 0) 2=Z o->0<=o.N∧o.N<p.aW.length∧0<(nodeAt p o.N).Kids.length∧o.bI.length<=1000:=by
  intro o u;obtain⟨h1,h2,_⟩:=eg c.hw v0 u;cases h2 with
  |func a b d e g=>
   refine⟨a,b,?_,by simp only;omega⟩;have:=(c.hp.nd a b).many (by omega) (by omega);rw[this,d]
   decide
  |_=>cases h1
 unfold iI F224 xX;simp only[h,Int.reduceToNat];cases l:gR w (bU f.bI 0) 5 with
 |some o=>
  dsimp only;obtain⟨h1,h2,h3,h4,h5,h6⟩:=eg c.hw v0 l;have j:hY p w (bU f.bI 0) (bU f.bI 1)=Y:=by unfold hY gR;rw[br (by omega),<-h6,br (by omega)]
  have v:o.Frames.length<=40:=by cases h2<;>first|(simp;done)|(simp only[eV,gw,xy];omega)
  by_cases m:40<left.length+o.Frames.length
  .rw[bJ m];exact .of_eq (λn=>by simp(disch:=omega)only[aS,bw,E5 (v0.code) (v0.ref) k,j,rA (v0.ref),l,WW,br (yO.2 m)]<;>rfl) ⟨_,_,rfl⟩
  .rw[br m];exact .of_eq (λn=>by simp(disch:=omega)only[aS,bw,E5 (v0.code) (v0.ref) k,j,rA (v0.ref),l,WW,bJ (BA.1 m),GN]<;>rfl) ⟨_,_,_,_,_,rfl⟩
 |none=>
  cases j:hY p w (bU f.bI 0) (bU f.bI 1)with
  |none=>dsimp only;exact .of_eq (λn=>by simp(disch:=omega)only[aS,bw,E5 (v0.code) (v0.ref) k,j,rA (v0.ref),l]<;>rfl) ⟨_,_,rfl⟩
  |some b=>
   dsimp only;by_cases r:b.Env.length<=30
   .unfold iM;by_cases x:40<=left.length
    .omega
    .rw[br (by omega)];have q:b.bI=[]:=by
      unfold hY at j;split at j
      .cases j;rfl
      .split at j<;>cases j;rfl
     obtain⟨y,z,A⟩:=b;subst q;exact .of_eq (λn=>by simp(disch:=first|omega|simp only[lq];omega)only[aS,bw,E5 (v0.code) (v0.ref) k,j,bJ r,WW,bJ (show left.length+1<=40 by omega)]<;>rfl) ⟨_,_,_,_,_,rfl⟩
   .unfold iM;rw[bJ (by omega)];exact .of_eq (λn=>by simp(disch:=omega)only[aS,bw,E5 (v0.code) (v0.ref) k,j,br r]<;>rfl) ⟨_,_,rfl⟩
def akk(c:Cx p w left f)(h:(nodeAt p f.Node).Op=12):gr p w (iI p w at_ left f) (λn=>F228 n (yp at_ left p f,rb p w,())):=by
 have a:=c.vl h (by decide);simp[dP]at a;unfold iI F228 mw;simp only[h,Int.reduceToNat,Int.reduceEq,eT,fY];by_cases h1:(bU f.bI 0).Kind=1∧(bU f.bI 1).Kind=1
 .rw[br (by omega)];exact .of_eq (λn=>by simp(disch:=omega)only[aS,bw,TM,bJ h1,aas,GN]<;>rfl) ⟨_,_,_,_,_,rfl⟩
 .rw[bJ (by omega)];exact .of_eq (λn=>by simp(disch:=omega)only[aS,bw,TM,br h1]<;>rfl) ⟨_,_,rfl⟩
theorem bH{X R B P α:Type}(x:X)(e:X->O α)(f:Nat->X->O α)(g:B->R->O α)(h:B->P->O α):LO.jn (.next x) e f g h=e x:=rfl
theorem ac9{X R B P α:Type}(b:B)(q:P)(e:X->O α)(f:Nat->X->O α)(g:B->R->O α)(h:B->P->O α):LO.jn (.dm b q) e f g h=h b q:=rfl
def e69{n:Nat}(a:Int):F69 n (a,(-1000000000),1000000000,())=Z ((gN a,()),()):=by unfold F69 gN;by_cases h1:-1000000000<=a<;>by_cases h2:a<=1000000000<;>simp[aj,D.ep,h1,h2]
def afY{a b:Int}(h1:gN a=W)(h2:gN b=W):-1000000000000000000<=a*b∧a*b<=1000000000000000000:=by
 simp only[gN,ec,jL]at h1 h2;have h3:(a*b).natAbs<=1000000000*1000000000:=by rw[Int.natAbs_mul];exact LA (by omega) (by omega)
 omega
def acQ(c:Cx p w left f)(a:(nodeAt p f.Node).Op=9∨(nodeAt p f.Node).Op=10∨(nodeAt p f.Node).Op=11):gr p w (iI p w at_ left f) (λn=>ai (F227 n (yp at_ left p f,rb p w,())) λg=>Rx.el g (λh=>Z (Rx.ok h)) λh=>Z (Rx.dm h)):=by
 have m:f.bI.length=2:=by rcases a with h|h|h<;>exact c.vl h (by decide)
 have v0:=c.val (i:=0) (by omega);have v1:=c.val (i:=1) (by omega);unfold iI F227 mw;by_cases h1:(bU f.bI 0).Kind=1∧(bU f.bI 1).Kind=1
 .have d:=v0.int h1.1;have e:=v1.int h1.2;have o:=afY d e;simp only[gN,ec,jL]at d e;have b:∀k,∀F:Nat->O Out,(∀n,F n=bif gN k then Z (.ok ((cg.a3 ⟨⟩,()),tb at_ left f.Node f.Env f.bI (nodeAt p f.Node) [gf k],rb p w,()))else Z (.dm (fl 4,yp at_ left p f,rb p w,())))->
    gr p w (if gN k=W then fH w left (gf k)else .fail 4) F:=by
   intro k F j;cases l:gN k with|true=>rw[bJ rfl];exact .of_eq (λn=>by rw[j,l];rfl) ⟨_,_,_,_,_,rfl⟩|false=>rw[br (by decide)];exact .of_eq (λn=>by rw[j,l];rfl) ⟨_,_,rfl⟩
  rcases a with h|h|h
  .simp only[h,Int.reduceToNat,Int.reduceEq,eT,fY];rw[br (by omega)];refine b _ _ λn=>?_;simp(disch:=omega)only[aS,bw,TM,bJ h1,h,bH,bE,e69,kI];cases gN ((bU f.bI 0).N+(bU f.bI 1).N)<;>simp only[aS,TN,gf,h,tb,yp]<;>rfl
  .simp only[h,Int.reduceToNat,Int.reduceEq,eT,fY];rw[br (by omega)];refine b _ _ λn=>?_;simp(disch:=omega)only[aS,bw,TM,bJ h1,h,bH,cT,e69,kI];cases gN ((bU f.bI 0).N-(bU f.bI 1).N)<;>simp only[aS,TN,gf,h,tb,yp]<;>rfl
  .simp only[h,Int.reduceToNat,Int.reduceEq,eT,fY];rw[br (by omega)];refine b _ _ λn=>?_;simp(disch:=omega)only[aS,bw,TM,bJ h1,h,bH,VG,e69,kI];cases gN ((bU f.bI 0).N*(bU f.bI 1).N)<;>simp only[aS,TN,gf,h,tb,yp]<;>rfl
 .rcases a with h|h|h;all_goals
   simp only[h,Int.reduceToNat,Int.reduceEq,eT,fY];rw[bJ (by omega)];exact .of_eq (λn=>by simp(disch:=omega)only[aS,bw,TM,br h1]<;>rfl) ⟨_,_,rfl⟩
def Kb(x:Bool):D.dz W x=x:=by cases x<;>rfl
def A0(x:Bool):D.dz x W=x:=by cases x<;>rfl
def akj(c:Cx p w left f)(h:(nodeAt p f.Node).Op=13):gr p w (iI p w at_ left f) (λn=>F229 n (yp at_ left p f,rb p w,())):=by
 have a:=c.vl h (by decide);simp[dP]at a;unfold iI F229 Qa Qb mw;simp only[h,Int.reduceToNat,Int.reduceEq,eT,fY];by_cases h1:(bU f.bI 0).Kind=(bU f.bI 1).Kind
 .by_cases h2:(bU f.bI 0).Kind<=3
  .rw[br (by omega)];rw[show vV (bU f.bI 0) (bU f.bI 1)=D.aG (bU f.bI 0).N (bU f.bI 1).N by simp only[vV,h1,beq_self_eq_true,dQ];rfl];exact .of_eq (λn=>by simp(disch:=omega)only[aS,bw,Kb,A0,kI,aas,GN]<;>rfl) ⟨_,_,_,_,_,rfl⟩
  .rw[bJ (by omega)];exact .of_eq (λn=>by simp(disch:=omega)only[aS,bw,kI]<;>rfl) ⟨_,_,rfl⟩
 .rw[bJ (by omega)];exact .of_eq (λn=>by simp(disch:=omega)only[aS,bw,kI]<;>rfl) ⟨_,_,rfl⟩
def aj6(c:Cx p w left f)(h:(nodeAt p f.Node).Op=26):gr p w (iI p w at_ left f) (λn=>ai (F242 n (yp at_ left p f,rb p w,())) λg=>Z (Rx.ok g)):=by have a:=c.vl h (by decide);simp[dP]at a;unfold iI F242;simp only[h,Int.reduceToNat];exact CS λn=>by simp(disch:=omega)only[aS,bw,GN]<;>rfl
def aj4(c:Cx p w left f)(h:(nodeAt p f.Node).Op=28):gr p w (iI p w at_ left f) (λn=>ai (F244 n (yp at_ left p f,rb p w,())) λg=>Z (Rx.ok g)):=by unfold iI F244;simp only[h,Int.reduceToNat];exact .of_eq (λn=>by simp only[aS,bw,Rt,MX,h,Int.reduceEq,eT]<;>rfl) ⟨_,_,_,_,_,rfl⟩
end
end
section
section
variable {p:ax}{w:aa}{left:List au}{f:au}{at_:Int}
def akg(c:Cx p w left f)(h:(nodeAt p f.Node).Op=16):gr p w (iI p w at_ left f) (λn=>F232 n (yp at_ left p f,rb p w,())):=by
 have a:=c.vl h (by decide);simp[dP]at a;have b:=c.hw.len;unfold iI F232 jY;simp only[h,Int.reduceToNat];by_cases h1:120<=w.aY.length
 .rw[bJ h1];exact .of_eq (λn=>by simp(disch:=omega)only[aS,bw,AQ,br (BA.2 h1)]<;>rfl) ⟨_,_,rfl⟩
 .rw[br h1];exact .of_eq (λn=>by simp(disch:=omega)only[aS,bw,AQ,bJ (yO.1 h1),MX,h,Int.reduceEq,eT]<;>rfl) ⟨_,_,_,_,_,rfl⟩
def akb(c:Cx p w left f)(h:(nodeAt p f.Node).Op=21):gr p w (iI p w at_ left f) (λn=>F237 n (yp at_ left p f,rb p w,())):=by
 have a:=c.hw.len;unfold iI F237 jY;simp only[h,Int.reduceToNat];by_cases h1:120<=w.aY.length
 .rw[bJ h1];exact .of_eq (λn=>by simp(disch:=omega)only[aS,bw,AQ,br (BA.2 h1)]<;>rfl) ⟨_,_,rfl⟩
 .rw[br h1];exact .of_eq (λn=>by simp(disch:=omega)only[aS,bw,AQ,bJ (yO.1 h1),Rt,MX,h,Int.reduceEq,eT]<;>rfl) ⟨_,_,_,_,_,rfl⟩
def akf(c:Cx p w left f)(h:(nodeAt p f.Node).Op=17):gr p w (iI p w at_ left f) (λn=>F233 n (yp at_ left p f,rb p w,())):=by
 have b:=c.vl h (by decide);simp[dP]at b;have v0:=c.val (i:=0) (by omega);unfold iI F233 O3;simp only[h,Int.reduceToNat];cases a:gR w (bU f.bI 0) 3 with
 |none=>exact .of_eq (λn=>by simp(disch:=omega)only[aS,bw,rA v0.ref,a]<;>rfl) ⟨_,_,rfl⟩
 |some o=>
  obtain⟨h1,h2,h3,h4,h5,h6⟩:=eg c.hw v0 a;have d:0<o.bI.length:=by cases h2<;>first|(cases h1;done)|simp
  exact .of_eq (λn=>by simp(disch:=omega)only[aS,bw,rA v0.ref,a,MX,h,Int.reduceEq,eT]<;>rfl) ⟨_,_,_,_,_,rfl⟩
def ake(c:Cx p w left f)(h:(nodeAt p f.Node).Op=18):gr p w (iI p w at_ left f) (λn=>F234 n (yp at_ left p f,rb p w,())):=by have b:=c.vl h (by decide);simp[dP]at b;have v0:=c.val (i:=0) (by omega);unfold iI F234 g9;simp only[h,Int.reduceToNat];cases a:gR w (bU f.bI 0) 3 with|none=>exact .of_eq (λn=>by simp(disch:=omega)only[aS,bw,rA v0.ref,a]<;>rfl) ⟨_,_,rfl⟩|some o=>obtain⟨h1,h2,h3,h4,h5,h6⟩:=eg c.hw v0 a;exact .of_eq (λn=>by simp(disch:=omega)only[aS,bw,rA v0.ref,a,ad2,Rt,MX,h,Int.reduceEq,eT]<;>rfl) ⟨_,_,_,_,_,rfl⟩
def aka(c:Cx p w left f)(h:(nodeAt p f.Node).Op=22):gr p w (iI p w at_ left f) (λn=>F238 n (yp at_ left p f,rb p w,())):=by
 have g:=c.vl h (by decide);simp[dP]at g;have v0:=c.val (i:=0) (by omega);unfold iI F238 Dz;simp only[h,Int.reduceToNat];cases d:gR w (bU f.bI 0) 4 with
 |none=>exact .of_eq (λn=>by simp(disch:=omega)only[aS,bw,rA v0.ref,d]<;>rfl) ⟨_,_,rfl⟩
 |some o=>
  obtain⟨h1,h2,h3,h4,h5,h6⟩:=eg c.hw v0 d;cases h2 with
  |chan a b=>
   rename_i j;clear h6;by_cases e:4<=j.length
   .dsimp only;rw[bJ e];exact .of_eq (λn=>by simp(disch:=omega)only[aS,bw,rA v0.ref,d]<;>rfl) ⟨_,rfl⟩
   .dsimp only;rw[br e];exact .of_eq (λn=>by simp(disch:=first|omega|simp only[lq];omega)only[aS,bw,rA v0.ref,d,ad2,Rt,MX,h,Int.reduceEq,eT]<;>rfl) ⟨_,_,_,_,_,rfl⟩
  |_=>cases h1
def aj9(c:Cx p w left f)(h:(nodeAt p f.Node).Op=23):gr p w (iI p w at_ left f) (λn=>F239 n (yp at_ left p f,rb p w,())):=by
 have g:=c.vl h (by decide);simp[dP]at g;have v0:=c.val (i:=0) (by omega);unfold iI F239 Dq;simp only[h,Int.reduceToNat];cases d:gR w (bU f.bI 0) 4 with
 |none=>exact .of_eq (λn=>by simp(disch:=omega)only[aS,bw,rA v0.ref,d]<;>rfl) ⟨_,_,rfl⟩
 |some o=>
  obtain⟨h1,h2,h3,h4,h5,h6⟩:=eg c.hw v0 d;cases h2 with
  |chan a b=>
   rename_i e;clear h6;cases e with|nil=>exact .of_eq (λn=>by simp(disch:=omega)only[aS,bw,rA v0.ref,d]<;>rfl) ⟨_,rfl⟩|cons v e=>exact .of_eq (λn=>by simp(disch:=first|omega|simp only[lq];omega)only[aS,bw,rA v0.ref,d,qH,ad2,Rt,MX,h,Int.reduceEq,eT]<;>rfl) ⟨_,_,_,_,_,rfl⟩
  |_=>cases h1
def akc(c:Cx p w left f)(h:(nodeAt p f.Node).Op=20):gr p w (iI p w at_ left f) (λn=>F236 n (yp at_ left p f,rb p w,())):=by
 have d:=c.vl h (by decide);simp[dP]at d;have v0:=c.val (i:=0) (by omega);unfold iI F236 ED;simp only[h,Int.reduceToNat];cases a:gR w (bU f.bI 0) 6 with
 |none=>exact .of_eq (λn=>by simp(disch:=omega)only[aS,bw,rA v0.ref,a]<;>rfl) ⟨_,_,rfl⟩
 |some o=>
  obtain⟨h1,h2,h3,h4,h5,h6⟩:=eg c.hw v0 a;dsimp only;by_cases b:o.N=0
  .rw[bJ b];exact .of_eq (λn=>by simp(disch:=omega)only[aS,bw,rA v0.ref,a]<;>rfl) ⟨_,rfl⟩
  .rw[br b];by_cases e:o.N=1
   .have g:0<o.bI.length:=by cases h2<;>first|(cases h1;done)|exact Nat.one_pos|exact absurd rfl b|(dsimp only at e;omega)
    rw[br (by omega)];exact .of_eq (λn=>by simp(disch:=omega)only[aS,bw,rA v0.ref,a,MX,h,Int.reduceEq,eT]<;>rfl) ⟨_,_,_,_,_,rfl⟩
   .rw[bJ (by omega)];exact .of_eq (λn=>by simp(disch:=omega)only[aS,bw,rA v0.ref,a]<;>rfl) ⟨_,_,rfl⟩
def aj8(c:Cx p w left f)(h:(nodeAt p f.Node).Op=24):gr p w (iI p w at_ left f) (λn=>F240 n (yp at_ left p f,rb p w,())):=by
 have a:=c.vl h (by decide);simp[dP]at a;have b:=c.hw.outs;unfold iI F240 FU uW Ou;simp only[h,Int.reduceToNat];by_cases h1:(bU f.bI 0).Kind=1
 .rw[br (by omega)];by_cases h2:100<=w.fe.length
  .rw[bJ h2];exact .of_eq (λn=>by simp(disch:=omega)only[aS,bw,kI]<;>rfl) ⟨_,_,rfl⟩
  .rw[br h2];exact .of_eq (λn=>by simp(disch:=first|omega|simp only[lq];omega)only[aS,bw,kI,Rt,Ru (at_:=at_),h,fY]<;>rfl) ⟨_,_,_,_,_,rfl⟩
 .rw[bJ h1];exact .of_eq (λn=>by simp(disch:=omega)only[aS,bw,kI]<;>rfl) ⟨_,_,rfl⟩
def aj7(c:Cx p w left f)(h:(nodeAt p f.Node).Op=25):gr p w (iI p w at_ left f) (λn=>F241 n (yp at_ left p f,rb p w,())):=by
 have d:=c.hw.used;have b:=c.hw.ins;unfold iI F241 FT inS;simp only[h,Int.reduceToNat];cases a:w.kM with
 |nil=>exact .of_eq (λn=>by simp(disch:=omega)only[aS,bw,a]<;>rfl) ⟨_,rfl⟩
 |cons i l=>
  dsimp only;by_cases h2:1000000000<=w.Used
  .rw[bJ h2];exact .of_eq (λn=>by simp(disch:=omega)only[aS,bw,a,kI]<;>rfl) ⟨_,_,rfl⟩
  .rw[br h2];rw[a]at b;simp only[eV]at b;exact .of_eq (λn=>by simp(disch:=first|omega|simp only[lq];omega)only[aS,bw,a,kI,qH,TN,bE,Ru (at_:=at_),h,Int.reduceEq,eT]<;>rfl) ⟨_,_,_,_,_,rfl⟩
end
end
section
section
variable {p:ax}{w:aa}{left:List au}{f:au}{at_:Int}
def O4(c:lY p)(f:fD p w){v:aq}(h:cD p w.aY.length v):∀o,gR w v 2=Z o->0<=o.N∧o.N<p.aW.length∧0<(nodeAt p o.N).Kids.length∧o.bI.length<=1000:=by
 intro o i;obtain⟨h1,h2,_⟩:=eg f h i;cases h2 with
 |func a b d e g=>
  refine⟨a,b,?_,by simp only;omega⟩;have:=(c.nd a b).many (by omega) (by omega);rw[this,d]
  decide
 |_=>cases h1
def akd(c:Cx p w left f)(h:(nodeAt p f.Node).Op=19):gr p w (iI p w at_ left f) (λn=>F235 n (yp at_ left p f,rb p w,())):=by
 have k:=c.vl h (by decide);simp[dP]at k;have v0:=c.val (i:=0) (by omega);have e:=O4 c.hp c.hw v0;have l:=c.hw.len;have m:=c.hw.tl;unfold iI F235 yc xk;simp only[h,Int.reduceToNat];cases g:gR w (bU f.bI 0) 5 with
 |some o=>
  dsimp only;obtain⟨h1,h2,h3,h4,h5,h6⟩:=eg c.hw v0 g;have d:hY p w (bU f.bI 0) fq=Y:=by unfold hY gR;rw[br (by omega),<-h6,br (by omega)]
  by_cases a:120<=w.aY.length
  .rw[bJ a];exact .of_eq (λn=>by simp(disch:=omega)only[aS,bw,Rt,E5 v0.code v0.ref e,d,rA v0.ref,g,bH,AQ,br (BA.2 a)]<;>rfl) ⟨_,_,rfl⟩
  .rw[br a];exact .of_eq (λn=>by simp(disch:=first|omega|simp only[lq];omega)only[aS,bw,Rt,E5 v0.code v0.ref e,d,rA v0.ref,g,bH,AQ,bJ (yO.1 a),tE,fA,Ru (at_:=at_),h,Int.reduceEq,eT]<;>rfl) ⟨_,_,_,_,_,rfl⟩
 |none=>
  dsimp only;cases d:hY p w (bU f.bI 0) fq with
  |none=>exact .of_eq (λn=>by simp(disch:=omega)only[aS,bw,Rt,E5 v0.code v0.ref e,d,rA v0.ref,g,ac9]<;>rfl) ⟨_,_,rfl⟩
  |some b=>
   dsimp only;by_cases j:b.Env.length<=30
   .rw[br (by omega)];by_cases a:120<=w.aY.length
    .rw[bJ a];exact .of_eq (λn=>by simp(disch:=omega)only[aS,bw,Rt,E5 v0.code v0.ref e,d,bJ j,bH,AQ,br (BA.2 a)]<;>rfl) ⟨_,_,rfl⟩
    .rw[br a];exact .of_eq (λn=>by simp(disch:=first|omega|simp only[lq];omega)only[aS,bw,Rt,E5 v0.code v0.ref e,d,bJ j,bH,AQ,bJ (yO.1 a),tE,fA,Ru (at_:=at_),h,Int.reduceEq,eT]<;>rfl) ⟨_,_,_,_,_,rfl⟩
   .rw[bJ (by omega)];exact .of_eq (λn=>by simp(disch:=omega)only[aS,bw,Rt,E5 v0.code v0.ref e,d,br j]<;>rfl) ⟨_,_,rfl⟩
def sj{α:Type}{q:α->Bool}:∀{l:L α},(∀j(h:j<l.length),q l[j]=J)->ir q l=Y
 |[],_=>rfl
 |a::l,h=>by unfold ir;rw[sj λj b=>h (j+1) (by simpa using b)];simp only;have:=h 0 (by simp);simp only[Vi]at this;rw[this];rfl
def zc{α:Type}{q:α->Bool}:∀{l:L α}{m:Nat}(c:m<l.length),q l[m]=W->(∀j(h:j<l.length),m<j->q l[j]=J)->ir q l=Z m
 |a::l,0,_,h1,h=>by unfold ir;rw[sj λj b=>h (j+1) (by simpa using b) (by omega)];simp only[Vi]at h1;simp only[h1];rfl
 |a::l,m+1,c,h1,h=>by unfold ir;rw[zc (l:=l) (m:=m) (by simpa using c) (by simpa using h1) λj b d=>h (j+1) (by simpa using b) (by omega)]
def xJ{α:Type}{q:α->Bool}:∀{l:L α}{k:Nat},ir q l=Z k->k<l.length
 |a::l,k,h=>by unfold ir at h;cases b:ir q l with|some j=>rw[b]at h;have:=xJ b;simp only[bg]at h;simp only[eV];omega|none=>rw[b]at h;simp only at h;cases c:q a<;>rw[c]at h<;>simp at h;simp only[eV];omega
def xl(hf:∀g∈left,0<=g.Node∧g.Node<p.aW.length)(hl:left.length<40){R B P:Type}{F:Nat->Int×U->O (LO (Int×U) R B P)}
  (d:∀n c,F n c=aj (D.ep 0 c.1) (aD (av c.1 left) (aD (av (aR left (ah c.1) aV).Node p.aW) (aj (D.aK (D.aG (aR p.aW (ah (aR left (ah c.1) aV).Node) aP).Op 26)) (Z (.next (D.dH .i64 c.1 1,()))) (Z (.out 0 c))))) (Z (.out 0 c))) :
  ∀m:Nat,m<=left.length->(∀j(h:j<left.length),m<=j->(nodeAt p left[j].Node).Op≠26)->
  eM F ((m:Int)-1,()) (.out 0 (match ir (λf:au=>(nodeAt p f.Node).Op==26) left with|some k=>(k:Int)|none=>-1,()))
 |0,_,h=>by rw[sj λj a=>by simpa using h j a (Cj _)];exact .out (Ev.of_eq λn=>by rw[d];simp(disch:=omega)only[aS];rfl)
 |m+1,q,h=>by
  have r:=hf left[m] (Gx _);have e:left.getD m aV=left[m]:=by rw[jq,fN (by omega)];rfl
  have o:(((m+1:Nat):Int)-1).toNat=m:=by omega
  by_cases i:(nodeAt p left[m].Node).Op=26
  .rw[zc (m:=m) (by omega) (by simpa using i) λj a b=>by simpa using h j a b];refine .out (Ev.of_eq λn=>?_);rw[d];simp(disch:=omega)only[aS,bw,o,e,i];simp
  .refine .next (y:=((m:Int)-1,())) (Ev.of_eq λn=>?_) (xl hf hl d m (by omega) λj a b=>?_)
   .rw[d];simp(disch:=omega)only[aS,bw,o,e,i,cT];simp
   .by_cases l:j=m
    .subst l;exact i
    .exact h j a (by omega)
def aj5(c:Cx p w left f)(h:(nodeAt p f.Node).Op=27):gr p w (iI p w at_ left f) (λn=>F243 n (yp at_ left p f,rb p w,())):=by
 have l:=c.nd.many (by omega) (by omega);rw[h]at l;simp[rj]at l;have A:=c.hw.len;have d:=c.ll;have C:=c.hf.el;have e0:D.dH .i64 (ak left) 1=(left.length:Int)-1:=cT (by simp only[ak];omega) (by simp only[ak];omega);unfold iI F243 PZ xm;simp only[h,Int.reduceToNat,e0];have b:=λ(R B P:Type)=>@xl p left (λg m=>⟨(c.left g m).1.lo,(c.left g m).1.hi⟩) d R B P _ (λn c=>rfl) left.length (bQ _) (λj E u=>by omega);have a:∀(k:Int)(G:Nat->Int×U->O Out)(r:ou),(∃y,Ev (λn=>G n (k,())) y∧Kh p w r y)->∀(R B P:Type)(F:Nat->Int×U->O (LO (Int×U) R B P))(o:Nat->B->R->O Out)(q:Nat->B->P->O Out)(x:Int×U),
   eM F x (.out 0 (k,()))->gr p w r (λn=>ai (iter (F n) n x) λc=>LO.el c (λ_ e=>G n e) (o n) (q n)):=by
  intro k G r ⟨y,h1,h2⟩ R B P F o q x v;exact⟨y,Ev.aQ v _ _ h1,h2⟩
 cases i:ir (λf:au=>(nodeAt p f.Node).Op==26) left with
 |none=>simp only[i]at b;refine a _ _ (.fail 3) ?_ _ _ _ _ _ _ _ (b _ _ _);exact⟨_,Ev.of_eq λn=>by simp(disch:=omega)only[aS,kI]<;>rfl,_,_,rfl⟩
 |some k=>
  have z:=xJ i;simp only[i]at b;refine a _ (λn e=>_) _ ?_ _ _ _ _ _ _ _ (b _ _ _);dsimp only;have s:(left.take (k+1)).length=k+1:=by rw[xz];omega
  have t:((k:Int)+1).toNat=k+1:=by omega
  by_cases h1:120<=w.aY.length
  .rw[bJ h1];exact⟨_,Ev.of_eq λn=>by simp(disch:=omega)only[aS,kI,qG,aaw,AQ,br (BA.2 h1)]<;>rfl,_,_,rfl⟩
  .rw[br h1];unfold iM;by_cases h2:f.Env.length+1<=30
   .rw[br (by rw[s];simp only[gw,nq];omega)];exact⟨_,Ev.of_eq λn=>by simp(disch:=first|omega|simp only[lq];omega)only[aS,kI,qG,mF,aaw,AQ,bJ (yO.1 h1),bE,t,tE,Pe,bJ h2,aat,s,bJ (show k+1+1<=40 by omega)]<;>rfl,_,_,_,_,_,rfl⟩
   .rw[bJ (by simp only[gw,nq];omega)];exact⟨_,Ev.of_eq λn=>by simp(disch:=first|omega|simp only[lq];omega)only[aS,kI,qG,mF,aaw,AQ,bJ (yO.1 h1),bE,t,tE,Pe,br h2]<;>rfl,_,_,rfl⟩
end
end
section
abbrev aeS:=(Bool×U)×TB×RB×(L aq×U)×U
def AG(T:TB)(R:RB)(l a:L aq):O (L aq)->aeS
 |some m=>((W,()),T,R,(l++m,()),())
 |none=>((J,()),T,R,(a,()),())
def Fits(p:ax)(w:aa)(T:TB)(q:aC):Prop:=∀(v:aq)(l:L aq),cD p w.aY.length v->l.length+pw q<=1000->
 ∃a,xd R279 (T,rb p w,q,v,(l,()),()) (AG T (rb p w) l a (iC w q v))
section
variable {p:ax}{w:aa}{T:TB}
def oQ:∀(q:aC)(v:aq)(m:L aq),iC w q v=Z m->m.length<=pw q
 |⟨c,n,text,parts⟩,v,m,h=>by
  unfold iC at h;unfold pw;by_cases h1:c=1
  .rw[bJ h1]at h;cases h;simp
  rw[br h1]at h;by_cases h2:c=2
  .rw[bJ h2]at h;cases h;simp
  rw[br h2]at h;by_cases h3:c=3
  .rw[bJ h3]at h;split at h<;>cases h;simp
  rw[br h3]at h;by_cases h4:c=4
  .rw[bJ h4]at h;split at h<;>cases h;simp
  rw[br h4]at h;by_cases h5:c=5
  .rw[bJ h5]at h;split at h<;>cases h;simp
  rw[br h5]at h;split at h
  .cases h
  .split at h
   .cases h
   .have:=lens parts _ m h;omega
where
 lens:∀(d:L aC)(e:L aq)(m:L aq),eu w d e=Z m->m.length<=qC d
 |[],e,m,h=>by unfold eu at h;cases h;simp
 |q::d,[],m,h=>by unfold eu at h;cases h;simp
 |q::d,v::e,m,h=>by
  unfold eu at h;unfold qC;split at h
  .cases h
  .rename_i l f;split at h
   .cases h
   .rename_i g i;cases h;have a:=oQ q v l f;have b:=lens d e g i;rw[gw];omega
def eZ{α:Type}(a:L α)(x:α)(b:L α)(d:α):(a++x::b).getD a.length d=x:=by rw[jq,QX (bQ _),Nat.sub_self];rfl
def TG(q:aC):aC.mk q.Form q.N q.Text q.Cc=q:=by cases q;rfl
def Ik{P:Type}:∀(qs:L aC)(vs:L aq)(pre:L aC)(a:L aq)(l:L aq),qs.length=vs.length->pre.length=a.length->pre.length+qs.length<=1000->
  (∀q∈qs,Fits p w T q)->(∀v∈vs,cD p w.aY.length v)->l.length+qC qs<=1000->
  ∃t,∀(d:Nat)(F:Nat->Int×TB×RB×(L aq×U)×U->O (LO (Int×TB×RB×(L aq×U)×U) (Bool×U) (TB×RB×(L aq×U)×U) P)),
  (∀n e,F n e=aj (D.bO e.1 (ak (pre++qs))) (aD (av e.1 (pre++qs)) (aD (av e.1 (a++vs)) (ai (R279 n (n-d) (e.2.1,e.2.2.1,aC.mk (aR (pre++qs) (ah e.1) aN).1 (aR (pre++qs) (ah e.1) aN).2
   (aR (pre++qs) (ah e.1) aN).3 (aR (pre++qs) (ah e.1) aN).4,@aR aq (a++vs) (ah e.1) az,e.2.2.2)) λg=>aj (D.aK g.1.1) (Z (LO.ret g.2 (J,()))) (Z (LO.next (D.add .i64 e.1 1,g.2)))))) (Z (LO.out 0 e)))->
  eM F ((pre.length:Int),T,rb p w,(l,()),()) (match eu w qs vs with
   |some m=>.out 0 (((pre++qs).length:Int),T,rb p w,(l++m,()),())
   |none=>.ret (T,rb p w,(t,()),()) (J,()))
 |[],[],pre,a,l,_,_,j,_,_,_=>by refine⟨[],λd F b=>?_⟩;unfold eu;refine .out (Ev.of_eq λn=>?_);rw[b];simp(disch:=omega)only[aS,ij]<;>rfl
 |q::qs,v::vs,pre,a,l,u,z,j,k,o,A=>by
  unfold qC at A;simp only[eV]at j;obtain⟨B,h1⟩:=k q eD v l (o v eD) (by omega);have r:(pre++q::qs).getD pre.length aN=q:=eZ ..;have s:(a++v::vs).getD pre.length az=v:=by rw[z];exact eZ ..
  unfold eu;cases f:iC w q v with
  |none=>rw[f]at h1;refine⟨B,λd F b=>.ret ?_⟩;obtain⟨N,h1⟩:=h1 d;refine⟨N,λn i=>?_⟩;have:=h1 n i;simp only at this;show F n _=_;rw[b];simp(disch:=first|omega|simp only[lq];omega)only[aS,r,s,TG];exact(lS (λx=>ai x _) this).trans rfl
  |some m=>
   rw[f]at h1;have C:=oQ q v m f;obtain⟨E,h2⟩:=Ik (P:=P) qs vs (pre++[q]) (a++[v]) (l++m) (by simpa using u) (by simp;omega) (by simp;omega) (λG h=>k G (gO _ h)) (λH h=>o H (gO _ h))
    (by simp;omega)
   refine⟨E,λd F b=>?_⟩;have h2:=h2 d F (λn e=>by rw[b];simp only[nk,yN]<;>rfl);refine(.next (y:=(((pre++[q]).length:Int),T,rb p w,(l++m,()),())) ?_ ?_)
   .obtain ⟨N,h1⟩:=h1 d;refine⟨N,λn i=>?_⟩;have:=h1 n i;simp only at this;show F n _=_;rw[b];simp(disch:=first|omega|simp only[lq];omega)only[aS,r,s,TG,bE,dU,dX];exact(lS (λx=>ai x _) this).trans rfl
   .simp only;cases c:eu w qs vs with|none=>rw[c]at h2;exact h2|some I=>rw[c]at h2;simpa only[nk,yN]using h2
theorem kX(n k:Nat):R279 n (k+1)=B279 n (R279 n k):=rfl
def fits:∀(q:aC),pf q=W->pw q<=1000->∀(j:fD p w),Fits p w T q
 |⟨a,n0,text,parts⟩,c,r,j=>by
  intro v l k A;unfold pf at c;unfold pw at A r;simp only[ec,jL]at c;obtain⟨⟨B,C⟩,s⟩:=c;unfold iC;by_cases h1:a=1
  .refine ⟨[],xd.step kX λd=>Ev.of_eq λn=>?_⟩;unfold B279;simp(disch:=omega)only[aS,h1,fY,AG,ij]<;>rfl
  rw[br h1];by_cases h2:a=2
  .refine ⟨[],xd.step kX λd=>Ev.of_eq λn=>?_⟩;unfold B279;simp(disch:=first|omega|simp only[lq];omega)only[aS,h2,fY,AG]<;>rfl
  rw[br h2];have cmp:∀u:aq,∃t,(if vV v u=W then Z ([]:L aq)else Y)=Y∧D.dz (D.aG v.Kind u.Kind) (D.dz (D.aG v.N u.N) W)=J∨(if vV v u=W then Z ([]:L aq)else Y)=Z []∧D.dz (D.aG v.Kind u.Kind) (D.dz (D.aG v.N u.N) W)=W∧t=l:=by
   intro u;have:D.dz (D.aG v.Kind u.Kind) (D.dz (D.aG v.N u.N) W)=vV v u:=by rw[A0];rfl
   rw[this];refine⟨l,?_⟩;cases vV v u<;>simp
  by_cases h3:a=3
  .rw[bJ h3];refine⟨l,xd.step kX λd=>Ev.of_eq λn=>?_⟩;unfold B279 Bp;obtain⟨_,⟨f,i⟩|⟨f,i,_⟩⟩:=cmp (gf n0)<;>rw[f]<;>simp(disch:=omega)only[aS,h3,TN,i,AG,ij]<;>rfl
  rw[br h3];by_cases h4:a=4
  .rw[bJ h4];refine⟨l,xd.step kX λd=>Ev.of_eq λn=>?_⟩;unfold B279 Bp;obtain⟨_,⟨f,i⟩|⟨f,i,_⟩⟩:=cmp (iD (n0==1))<;>rw[f]<;>simp(disch:=omega)only[aS,h4,ahL,i,AG,ij]<;>rfl
  rw[br h4];by_cases h5:a=5
  .rw[bJ h5];refine⟨l,xd.step kX λd=>Ev.of_eq λn=>?_⟩;unfold B279 Bp;obtain⟨_,⟨f,i⟩|⟨f,i,_⟩⟩:=cmp fq<;>rw[f]<;>simp(disch:=omega)only[aS,h5,Rt,i,AG,ij]<;>rfl
  rw[br h5];have h6:a=6:=by omega
  cases m:gR w v 1 with
  |none=>refine⟨l,xd.step kX λd=>Ev.of_eq λn=>?_⟩;unfold B279 Gi;simp(disch:=omega)only[aS,h6,TK k.ref,m,gS,AG]<;>rfl
  |some o=>
   dsimp only;obtain⟨_,E,_⟩:=eg j k m;by_cases z:o.N≠n0∨o.bI.length≠parts.length
   .rw[bJ z];refine⟨l,xd.step kX λd=>Ev.of_eq λn=>?_⟩;unfold B279 Gi;by_cases M:o.N=n0
    .simp (disch:=omega)only[aS,h6,TK k.ref,m,gS,AG]<;>rfl
    .simp (disch:=omega)only[aS,h6,TK k.ref,m,gS,AG]<;>rfl
   .rw[br z];have x:=E.vals;have F:parts.length<=qC parts:=af2 parts;obtain⟨t,y⟩:=Ik (p:=p) (w:=w) (T:=T) (P:=Any) parts o.bI [] [] l (by omega) rfl (by simp only[xy];omega)
      (λq G=>abD parts s (by omega) j q G) x (by omega)
    refine⟨t,xd.step kX λd=>?_⟩;have H:∀n,B279 n (R279 n (n-d)) (T,rb p w,⟨a,n0,text,parts⟩,v,(l,()),())=ai (iter (λe=>aj (D.bO e.1 (ak parts)) (aD (av e.1 parts) (aD (av e.1 o.bI) (ai (R279 n (n-d) (e.2.1,e.2.2.1,aC.mk (aR parts (ah e.1) aN).1 (aR parts (ah e.1) aN).2
   (aR parts (ah e.1) aN).3 (aR parts (ah e.1) aN).4,@aR aq o.bI (ah e.1) az,e.2.2.2)) λg=>aj (D.aK g.1.1) (Z (LO.ret g.2 (J,()))) (Z (LO.next (D.add .i64 e.1 1,g.2)))))) (Z (LO.out 0 e))) n (0,T,rb p w,(l,()),())) λe=>LO.el e (λ_ h=>Z ((W,()),h.2)) (λg h=>Z (h,g)) λ_(_:Any)=>Y:=by intro n;unfold B279;simp(disch:=omega)only[aS,h6,TK k.ref,m,gS];rfl
    refine Ev.congr H (Ev.aQ (y d _ λn e=>rfl) (λn e=>_) _ ?_);cases eu w parts o.bI<;>exact Ev.of_eq λn=>rfl
where
 af2:∀b:L aC,b.length<=qC b
 |[]=>Cj _
 |⟨_,_,_,_⟩::b=>by unfold qC pw;have:=af2 b;simp only[eV];omega
 abD:∀(b:L aC),pfs b=W->qC b<=1000->∀(j:fD p w),∀q∈b,Fits p w T q
 |[],_,_,_,_,h=>by cases h
 |q::b,c,I,j,K,h=>by
  unfold pfs at c;unfold qC at I;simp only[ec]at c;rcases eU.1 h with h|h
  .rw[h];exact fits q c.1 (by omega) j
  .exact abD b c.2 (by omega) j K h
def anT{q:aC}(hf:pf q=W)(b:pw q<=1000)(c:fD p w){v:aq}(d:cD p w.aY.length v):∃a,Ev (λn=>F279 n (T,rb p w,q,v,([],()),())) (AG T (rb p w) [] a (iC w q v)):=by obtain⟨a,h⟩:=fits (T:=T) q hf b c v [] d (by simp only[xy];omega);exact⟨a,h 0⟩
variable {left:List au}{f:au}{at_:Int}
abbrev acP(o:LO (Int×TB×RB×U) (cg×U) (TB×RB×U) Any):O Out:=LO.el o (λ_ e=>Z (Rx.dm (Any.a0 (gj.mk 3),e.2))) (λd e=>Z (Rx.ok (e,d))) λd e=>Z (Rx.dm (e,d))
def Eo(B:lY p)(x:fD p w){u:aq}{node:Int}{env vals:L aq}{nd:bp}(z:cD p w.aY.length u)(hl:left.length<40)(C:env.length<=30)(E:0<vals.length)(f:bU vals 0=u)
  (F:Nat->Int×TB×RB×U->O (LO (Int×TB×RB×U) (cg×U) (TB×RB×U) Any))
  (r:∀n c,F n c=aj (D.bO c.1 (ak nd.cA)) (aD (av c.1 nd.cA) (aD (av 0 c.2.1.2.2.2.2.2.1) (ai (F279 n (c.2.1,c.2.2.1,aC.mk (aR nd.cA (ah c.1) aN).1 (aR nd.cA (ah c.1) aN).2 (aR nd.cA (ah c.1) aN).3 (aR nd.cA (ah c.1) aN).4,
   @aR aq c.2.1.2.2.2.2.2.1 (ah 0) az,([],()),())) λd=>aj d.1.1 (ai (F277 n (d.2.1.2.2.2.2.1,d.2.2.2.1)) λe=>Rx.el e (λg=>ai (F174 n (d.2.1,d.2.2.1,D.add .i64 c.1 1,g.1)) λh=>Rx.el h (λi=>Z (LO.ret i.2 i.1)) λi=>Z (LO.dm i.2 i.1)) λg=>Z (LO.dm (d.2.1,d.2.2.1,()) g.1))
   (Z (LO.next (D.add .i64 c.1 1,d.2.1,d.2.2.1,())))))) (Z (LO.out 0 c))) :
  ∀(qs:L aC)(b:L Int)(pre:L aC)(a:L Int),nd.cA=pre++qs->nd.Kids=a++b->a.length=pre.length+1->b.length=qs.length->pre.length+qs.length<=1000->(∀q∈qs,pw q<=12∧pf q=W)->
  ∃o y,eM F ((pre.length:Int),tb at_ left node env vals nd [],rb p w,()) o∧acP o=Z y∧Kh p w (kK w left env u qs b) y
 |[],b,pre,a,h1,h2,h3,h4,h5,h6=>by
  refine⟨_,_,.out (j:=0) (y:=((pre.length:Int),tb at_ left node env vals nd [],rb p w,())) (Ev.of_eq λn=>?_),rfl,?_⟩
  .rw[r];simp(disch:=omega)only[aS,h1,ij]<;>rfl
  .cases b<;>exact⟨_,_,rfl⟩
 |q::qs,[],pre,a,h1,h2,h3,h4,h5,h6=>by simp at h4
 |q::qs,k::b,pre,a,h1,h2,h3,h4,h5,h6=>by
  simp only[eV]at h4 h5;have G:nd.cA.length=pre.length+(qs.length+1):=by rw[h1];simp
  have H:nd.Kids.length=a.length+(b.length+1):=by rw[h2];simp
  have I:nd.cA.getD pre.length aN=q:=by rw[h1];exact eZ ..
  have K:nd.Kids.getD (pre.length+1) 0=k:=by rw[h2,<-h3];exact eZ ..
  obtain⟨M,s⟩:=h6 q eD;obtain⟨l',l⟩:=anT (T:=tb at_ left node env vals nd []) s (by omega) x z;have N:((pre.length:Int)+1).toNat=pre.length+1:=by omega
  have t:∀n,F n ((pre.length:Int),tb at_ left node env vals nd [],rb p w,())=ai (F279 n (tb at_ left node env vals nd [],rb p w,q,u,([],()),())) λd=>aj d.1.1 (ai (F277 n (d.2.1.2.2.2.2.1,d.2.2.2.1)) λe=>Rx.el e (λg=>ai (F174 n (d.2.1,d.2.2.1,D.add .i64 pre.length 1,g.1)) λh=>Rx.el h (λi=>Z (LO.ret i.2 i.1)) λi=>Z (LO.dm i.2 i.1)) λg=>Z (LO.dm (d.2.1,d.2.2.1,()) g.1))
   (Z (LO.next (D.add .i64 pre.length 1,d.2.1,d.2.2.1,()))):=by
   intro n;rw[r];simp(disch:=omega)only[aS,I,bw,f,TG]<;>rfl
  unfold kK;cases v:iC w q u with
  |none=>rw[v]at l;obtain⟨o,y,P,R,S⟩:=Eo B x z hl C E f F r qs b (pre++[q]) (a++[k]) (by rw[h1];simp) (by rw[h2];simp) (by simp;omega) (by omega) (by simp;omega) (λX h=>h6 X (gO _ h));refine⟨o,y,.next ?_ P,R,S⟩;refine Ev.congr t (Ev.ai l (Ev.of_eq λn=>?_));simp(disch:=omega)only[aS,AG,bE,dU,dX]<;>rfl
  |some m=>
   rw[v]at l;have hml:=oQ q u m v;dsimp only;unfold iM;by_cases A:env.length+m.length<=30
   .rw[br (by rw[gw];omega)];refine⟨.ret (tb at_ (left++[⟨k,env++m,[]⟩]) node env vals nd [],rb p w,()) (cg.a3 ⟨⟩,()),_,.ret ?_,rfl,_,_,_,_,_,rfl⟩;refine Ev.congr t (Ev.ai l (Ev.of_eq λn=>?_));simp(disch:=omega)only[aS,AG,vX,Pe,bJ A,bE,aat,bJ (show left.length+1<=40 by omega),N,K]<;>rfl
   .rw[bJ (by rw[gw];omega)];refine⟨.dm (tb at_ left node env vals nd [],rb p w,()) (fl 4),_,.dm ?_,rfl,_,_,rfl⟩;refine Ev.congr t (Ev.ai l (Ev.of_eq λn=>?_));simp(disch:=omega)only[aS,AG,vX,Pe,br A]<;>rfl
def akh(c:Cx p w left f)(h:(nodeAt p f.Node).Op=15):gr p w (iI p w at_ left f) (λn=>F231 n (yp at_ left p f,rb p w,())):=by
 have j:=c.vl h (by decide);simp[dP]at j;have v0:=c.val (i:=0) (by omega);obtain⟨g,k⟩:=c.nd.mat h;have m:=c.nd.pats;unfold iI F231 FV;simp only[h,Int.reduceToNat];obtain⟨b,d⟩:∃b,(nodeAt p f.Node).Kids=[b]++(nodeAt p f.Node).Kids.drop 1:=by cases q:(nodeAt p f.Node).Kids with|nil=>rw[q]at g;simp at g;omega|cons a l=>exact⟨a,rfl⟩
 obtain⟨o,y,r,s,t⟩:=Eo (at_:=at_) (node:=f.Node) c.hp c.hw v0 c.ll c.hf.el (vals:=f.bI) (by omega) rfl _ (λn e=>rfl) (nodeAt p f.Node).cA ((nodeAt p f.Node).Kids.drop 1) [] [b] rfl d rfl (by rw[BC];omega) (by simp only[xy];omega) m;exact⟨y,Ev.aQ (F:=λn c=>_) r (λn c=>_) _ (Ev.of_eq λn=>s),t⟩
end
end
section
variable {n k:Nat}{l:List au}{nd:bp}{o:aE}
def aau(nd:bp)(h1:1<=nd.Op)(h2:nd.Op<=28):F173 n (nd,())=Z ((jo nd,()),()):=by
 obtain⟨op,m,b,c⟩:=nd;dsimp only at h1 h2;obtain⟨k,rfl⟩:∃k:Nat,op=k:=⟨_,(Al (by omega)).symm⟩;have a:k<=28:=by omega
 match k,a with
 |0,_=>omega
 |1,_|2,_|3,_|4,_|5,_|6,_|7,_|8,_|9,_|10,_|11,_|12,_|13,_|14,_|15,_|16,_|17,_|18,_|19,_|20,_|21,_|22,_|23,_|24,_|25,_|26,_|27,_|28,_=>rfl
 |k+29,h=>omega
section
variable {p:ax}{w:aa}{left:List au}{f:au}{at_:Int}
noncomputable def opF(k:Nat)(n:Nat)(x:TB×RB×U):O Out:=
 match k with
 |1|2|3=>ai (F221 n x) λg=>Z (Rx.ok g)
 |9|10|11=>ai (F227 n x) λg=>Rx.el g (λh=>Z (Rx.ok h)) λh=>Z (Rx.dm h)
 |26=>ai (F242 n x) λg=>Z (Rx.ok g)
 |28=>ai (F244 n x) λg=>Z (Rx.ok g)
 |4=>F222 n x|5=>F223 n x|6=>F224 n x|7=>F225 n x|8=>F226 n x|12=>F228 n x|13=>F229 n x|14=>F230 n x|15=>F231 n x|16=>F232 n x
 |17=>F233 n x|18=>F234 n x|19=>F235 n x|20=>F236 n x|21=>F237 n x|22=>F238 n x|23=>F239 n x|24=>F240 n x|25=>F241 n x|27=>F243 n x
 |_=>Y
def SZ(c:Cx p w left f):gr p w (iI p w at_ left f) (λn=>opF (nodeAt p f.Node).Op.toNat n (yp at_ left p f,rb p w,())):=by
 have h1:=c.nd.lo;have h2:=c.nd.hi;obtain⟨k,d⟩:∃k:Nat,(nodeAt p f.Node).Op=k:=⟨_,(Al (by omega)).symm⟩;have a:1<=k:=by omega
 have b:k<=28:=by omega
 rw[d,Gy]
 match k,d,a,b with
 |1,h,_,_=>exact acR c (.inl h)
 |2,h,_,_=>exact acR c (.inr (.inl h))
 |3,h,_,_=>exact acR c (.inr (.inr h))
 |4,h,_,_=>exact akp c h
 |5,h,_,_=>exact ako c h
 |6,h,_,_=>exact akn c h
 |7,h,_,_=>exact akm c h
 |8,h,_,_=>exact akl c h
 |9,h,_,_=>exact acQ c (.inl h)
 |10,h,_,_=>exact acQ c (.inr (.inl h))
 |11,h,_,_=>exact acQ c (.inr (.inr h))
 |12,h,_,_=>exact akk c h
 |13,h,_,_=>exact akj c h
 |14,h,_,_=>exact aki c h
 |15,h,_,_=>exact akh c h
 |16,h,_,_=>exact akg c h
 |17,h,_,_=>exact akf c h
 |18,h,_,_=>exact ake c h
 |19,h,_,_=>exact akd c h
 |20,h,_,_=>exact akc c h
 |21,h,_,_=>exact akb c h
 |22,h,_,_=>exact aka c h
 |23,h,_,_=>exact aj9 c h
 |24,h,_,_=>exact aj8 c h
 |25,h,_,_=>exact aj7 c h
 |26,h,_,_=>exact aj6 c h
 |27,h,_,_=>exact aj5 c h
 |28,h,_,_=>exact aj4 c h
 |k+29,_,_,h=>omega
def W5{α:Type}(x:Int)(h1:1<=x)(h2:x<=28)(g:Nat->O α) :
  aj (iq x 1) (g 1) (aj (iq x 2) (g 2) (aj (iq x 3) (g 3) (aj (iq x 4) (g 4) (aj (iq x 5) (g 5) (aj (iq x 6) (g 6) (aj (iq x 7) (g 7) (aj (iq x 8) (g 8)
  (aj (iq x 9) (g 9) (aj (iq x 10) (g 10) (aj (iq x 11) (g 11) (aj (iq x 12) (g 12) (aj (iq x 13) (g 13) (aj (iq x 14) (g 14) (aj (iq x 15) (g 15)
  (aj (iq x 16) (g 16) (aj (iq x 17) (g 17) (aj (iq x 18) (g 18) (aj (iq x 19) (g 19) (aj (iq x 20) (g 20) (aj (iq x 21) (g 21) (aj (iq x 22) (g 22)
  (aj (iq x 23) (g 23) (aj (iq x 24) (g 24) (aj (iq x 25) (g 25) (aj (iq x 26) (g 26) (aj (iq x 27) (g 27) (aj (iq x 28) (g 28) (aD J Y))))))))))))))))))))))))))))=g x.toNat:=by
 obtain⟨k,rfl⟩:∃k:Nat,x=k:=⟨_,(Al (by omega)).symm⟩;have a:1<=k:=by omega
 have b:k<=28:=by omega
 match k,a,b with
 |1,_,_|2,_,_|3,_,_|4,_,_|5,_,_|6,_,_|7,_,_|8,_,_|9,_,_|10,_,_|11,_,_|12,_,_|13,_,_|14,_,_|15,_,_|16,_,_|17,_,_|18,_,_|19,_,_|20,_,_|21,_,_|22,_,_|23,_,_|24,_,_|25,_,_|26,_,_|27,_,_|28,_,_=>rfl
 |k+29,_,h=>omega
def ahG(c:O Out):(ai c λg=>Rx.el g (λh=>Z (Rx.ok h)) λh=>Z (Rx.dm h))=c:=by cases c with|none=>rfl|some y=>cases y<;>rfl
abbrev T0(at_:Int):TB:=((),at_,[],0,[],[],0,0,[],[],[],())
def vL(h:l≠[]):l=l.take (l.length-1)++[l.getD (l.length-1) aV]:=by
 have a:l.length-1<l.length:=by have:=DN.2 h;omega
 rw[jq,fN a];simp only[vY];rw[<-List.dropLast_eq_take,List.getElem_length_sub_one_eq_getLast];exact(List.dropLast_concat_getLast h).symm
def oq(h:PN p nd):jo nd<=nd.Kids.length:=by
 unfold jo;split
 .exact Int.le_refl _
 .rename_i b;by_cases a:nd.Op=15
  .have:=(h.mat a).1;rw[a,this];simp[dP];omega
  .rw[h.many b a];have h1:=h.lo;have h2:=h.hi;have:∀k,k<29->k≠15->dP.getD k 0<=rj.getD k 0:=by decide
   exact_mod_cast this _ (by omega) (by omega)
def zd(f:lY p)(h:PN p nd):nd.Kids.length<=6:=by
 by_cases c:nd.Op=14
 .obtain ⟨a,b,d⟩:=h.con c;have:=(f.cons _ (bX bx (show nd.N.toNat<p.Cons.length by omega))).2;omega
 .by_cases e:nd.Op=15
  .have:=h.mat e;omega
  .rw[h.many c e];have h1:=h.lo;have h2:=h.hi;have:∀k,k<29->rj.getD k 0<=6:=by decide
   exact this _ (by omega)
def yZ{g:au}:∀{o:aE},gE p k o->o.Form=6->o.N=0->o.Frames=l++[g]->
  eF p k g∧(∀x∈l,eF p k x∧sZ p x)∧l.length<40∧(o.bI=[]∨∃v,o.bI=[v]∧cD p k v∧sZ p g)
 |_,.uv a b c,_,_,h=>by have d:=List.append_inj' h rfl;have h1:=d.1;have h2:=(List.cons.inj d.2).1;subst h1;subst h2;exact⟨c,b,a,.inl rfl⟩
 |_,.back a b c,_,_,h=>by dsimp only at h;subst h;exact⟨(b g (by simp)).1,λx e=>b x (by simp[e]),by simp at a;omega,.inr ⟨_,rfl,c,(b g (by simp)).2⟩⟩
 |_,.done _,_,h,_=>by cases h
 |_,.dead a,_,h,_=>by dsimp only at h;omega
 |_,.data ..,h,_,_=>by cases h
 |_,.func ..,h,_,_=>by cases h
 |_,.cell _,h,_,_=>by cases h
 |_,.chan ..,h,_,_=>by cases h
 |_,.Av ..,h,_,_=>by cases h
def akq(h:lY p)(E:fD p w)(hf:o.Form=6)(hn:o.N=0)(i:o.Frames≠[])(F:gE p w.aY.length o):gr p w (Tu p w at_ o) (λn=>F115 n (T0 at_,rb p w,o,())):=by
 obtain⟨l,g,e⟩:∃l g,o.Frames=l++[g]:=⟨_,_,vL i⟩;obtain⟨d,G,m,q⟩:=yZ F hf hn e;have a:=h.nd d.lo d.hi;have f:(l++[g]).length-1=l.length:=by simp
 have b:(l++[g]).take l.length=l:=Lx;have cJ:(l++[g]).getD l.length aV=g:=eZ ..;have B:sW (T0 at_,rb p w,o,())=(l.length:Int):=by unfold sW;simp only[e];simp(disch:=omega)only[aS,cT];omega
 have r:iG (T0 at_,rb p w,o,())=g:=by unfold iG;rw[B];simp only[e,WS,y7];exact cJ
 have s:ym (T0 at_,rb p w,o,())=nodeAt p g.Node:=by unfold ym;rw[r];rfl
 have H:g.bI.length<=1000:=by have h1:=d.vl;have h2:=oq a;have h3:=zd h a;omega
 unfold Tu F115;simp only[e,f,b,cJ,B,r,s];rcases q with t|⟨v,t,I,K⟩
 .simp only[t];by_cases C:(g.bI.length:Int)<jo (nodeAt p g.Node)
  .rw[bJ C];have:=oq a;refine OB (k:=(g.bI.length:Int)) at_ 0 [] [] (left:=l++[g]) (by simp;omega) d.el (by omega) (by omega) λn=>?_;unfold KJ;simp only[s];have u:=d.lo;have x:=d.hi;simp(disch:=first|omega|simp only[lq];omega)only[aS,aau _ a.lo a.hi,WV,js,vX,bJ (show l.length+1<=40 by omega)]<;>rfl
  .rw[br C];have u:=d.lo;have x:=d.hi;have c:Cx p w l g:=⟨h,E,d,by have:=d.vl;omega,m,G⟩;obtain⟨y,h1,h2⟩:=SZ (at_:=at_) c;refine⟨y,Ev.congr (λn=>?_) h1,h2⟩;have z:=a.lo;have A:=a.hi;rw[<-W5 (nodeAt p g.Node).Op z A (λj=>opF j n (yp at_ l p g,rb p w,()))];unfold KJ KI KH gk;simp only[r,s];simp(disch:=first|omega|simp only[lq];omega)only[aS,aau _ a.lo a.hi,mF,b,WV,js,vX,bJ (show l.length<=40 by omega)];simp only[ahG,opF]
 .simp only[t];exact .of_eq (λn=>by simp(disch:=first|omega|simp only[lq];omega)only[aS,mF,b,WV,js,vX,Cn,List.getD_cons_zero,bJ (show l.length<=40 by omega),bJ (show l.length+1<=40 by omega)]<;>rfl) ⟨_,_,_,_,aP,rfl⟩
def Lb(p:ax)(w:aa):O (aa×O aA)->(cg×U)×RB×U
 |none=>((cg.a0 ⟨⟩,()),rb p w,())
 |some (a,e)=>((ad0 e,()),rb p a,())
theorem ahK{n:Nat}:F71 n (cg.a0 ⟨⟩,())=Z ((2,()),()):=rfl
def WT(e:O aA):F71 n (ad0 e,())=Z ((match e with|none=>0|some _=>1,()),()):=by cases e<;>rfl
def WA(t:lY p)(k:fD p w)(hf:o.Form=6)(hn:o.N=0)(m:o.Frames≠[])(y:gE p w.aY.length o):tj p w (Tu p w at_ o):=by
 obtain⟨l,g,c⟩:∃l g,o.Frames=l++[g]:=⟨_,_,vL m⟩;obtain⟨a,n,d,q⟩:=yZ y hf hn c;have e:=t.nd a.lo a.hi;have f:(l++[g]).length-1=l.length:=by simp
 have b:(l++[g]).take l.length=l:=Lx;have cJ:(l++[g]).getD l.length aV=g:=eZ ..;unfold Tu;simp only[c,f,b,cJ];rcases q with h|⟨v,h,r,s⟩
 .simp only[h];split
  .rename_i u;have:=oq e;unfold iM;split
   .exact .inr (.inr rfl)
   .rename_i z;have i:=e.kids _ (bX 0 (show g.bI.length<(nodeAt p g.Node).Kids.length by omega));refine pK.same k (.uv (by omega) (λx j=>?_) ⟨i.1,i.2,a.el,a.env,Dc _,λv h=>by cases h⟩);rcases ef.1 j with j|j
    .exact n x j
    .rw[lg.1 j];exact⟨a,u⟩
  .rename_i u;exact acJ ⟨t,k,a,by have:=a.vl;omega,d,n⟩
 .simp only[h];refine pK.same k (.uv d n ⟨a.lo,a.hi,a.el,a.env,?_,AK a.vals r⟩);unfold sZ at s;simp only[gw,nq];omega
def E8:∀{o:aE},gE p k o->o.Form=6->o.N=0->o.Frames=[]->∃v,o.bI=[v]∧cD p k v
 |_,.uv a b c,_,_,h=>by simp at h
 |_,.back a b c,_,_,h=>⟨_,rfl,c⟩
 |_,.done a,_,_,h=>⟨_,rfl,a⟩
 |_,.dead a,_,h,_=>by dsimp only at h;omega
 |_,.data ..,h,_,_=>by cases h
 |_,.func ..,h,_,_=>by cases h
 |_,.cell _,h,_,_=>by cases h
 |_,.chan ..,h,_,_=>by cases h
 |_,.Av ..,h,_,_=>by cases h
def kf(i:lY p)(d:fD p w)(n:0<=at_)(h1:at_<w.aX.length){w':aa}{e:O aA}(hs:fL p w at_=Z (w',e)) :
  fD p w'∧(∃l,w'.aX=w.aX++l)∧(e=Y->w'.aX=w.aX):=by
 have j:=d.task _ (bX 0 (show at_.toNat<w.aX.length by omega));obtain⟨t1,t2,t3⟩:=j;have f:=d.ob t1 t2;unfold fL at hs;simp only at hs;change 0<=bT w at_ at t1;change bT w at_<_ at t2;change(cr w (bT w at_)).Form=6 at t3;change gE p _ (cr w (bT w at_))at f;split at hs
 .cases hs
 .rename_i g;have g:(cr w (bT w at_)).N=0:=by omega
  split at hs
  .rename_i b;cases hs;refine⟨d.set t1 t2 (.done ?_) ⟨λ_=>t3,λ_=>rfl⟩,⟨[],by simp[lB]⟩,λ_=>rfl⟩;obtain⟨v,k,h⟩:=E8 f t3 g b;rw[k];exact h
  .rename_i b;have a:=WA (at_:=at_) i d t3 g b f;split at hs
   .cases hs
   .rename_i s c;rw[c]at a;cases hs;exact⟨d.set t1 t2 (.dead a) ⟨λ_=>t3,λ_=>rfl⟩,⟨[],by simp[lB]⟩,λ_=>rfl⟩
   .rename_i o q r t c;rw[c]at a;cases hs;have m:=a.ln;have e0:(((bT w at_).toNat:Nat):Int)=bT w at_:=by omega
    refine⟨a.ok.set t1 (by omega) a.ob ⟨λ_=>?_,λ_=>rfl⟩,a.tk,a.tn⟩;have:=a.fm (bT w at_).toNat (by omega);rw[e0]at this;exact this.2 t3
def e70(k:lY p)(f:fD p w)(B:0<=at_)(h1:at_<w.aX.length):Ev (λn=>F70 n (rb p w,at_,())) (Lb p w (fL p w at_)):=by
 obtain⟨t1,t2,t3⟩:=f.task _ (bX 0 (show at_.toNat<w.aX.length by omega));have g:=f.ob t1 t2;change 0<=bT w at_ at t1;change bT w at_<_ at t2;change(cr w (bT w at_)).Form=6 at t3;change gE p _ (cr w (bT w at_))at g;have r:zZ (rb p w,at_,())=bT w at_:=rfl;have t:FN (rb p w,at_,())=cr w (bT w at_):=rfl;unfold fL F70;simp only[r,t];by_cases d:(cr w (bT w at_)).N=0
 .rw[br (by omega)];by_cases a:(cr w (bT w at_)).Frames=[]
  .rw[bJ a];obtain⟨v,m,u⟩:=E8 g t3 d a;rw[m];exact Ev.of_eq λn=>by simp(disch:=first|omega|simp only[lq];omega)only[aS,d,a,m,aav,ad7]<;>rfl
  .rw[br a];obtain⟨y,h,b⟩:=akq (at_:=at_) k f t3 d a g;have o:0<(cr w (bT w at_)).Frames.length:=DN.2 a;have i:=WA (at_:=at_) k f t3 d a g;simp(disch:=omega)only[aS,d];refine Ev.ai h ?_;cases c:Tu p w at_ (cr w (bT w at_))with
   |waits=>rw[c]at b;obtain⟨T,rfl⟩:=b;exact Ev.of_eq λn=>by simp only[aS,ahK]<;>rfl
   |fail s=>rw[c]at b;obtain⟨T,j,rfl⟩:=b;exact Ev.of_eq λn=>by simp(disch:=omega)only[aS,aav,aof]<;>rfl
   |go j C E e=>
    rw[c]at b i;obtain⟨F,node,env,vals,nd,rfl⟩:=b;obtain⟨l,q⟩:=i.tk;have x:=i.ln;have z:j.aX.getD at_.toNat 0=bT w at_:=by rw[q,jq,SI (by omega)];rfl
    have A:at_<j.aX.length:=by rw[q,gw];omega
    exact Ev.of_eq λn=>by cases e<;>simp(disch:=omega)only[aS,WT,aav,z]<;>rfl
 .rw[bJ d];exact Ev.of_eq λn=>by simp(disch:=omega)only[aS]<;>rfl
end
end
section
def dO(w:aa)(at_ t:Int):ou->aB
 | .fail s=>⟨lB w t ⟨6,s,[],[]⟩,1,⟨at_,0,s,az⟩⟩
 | .waits=>⟨w,2,aH⟩
 | .go a b c Y=>⟨lB a t ⟨6,0,c,b⟩,0,aH⟩
 | .go a b c (Z e)=>⟨lB a t ⟨6,0,c,b⟩,1,e⟩
section
variable {n:Nat}{p:ax}{w:aa}{left:List au}{f:au}{at_:Int}{v u:aq}{form:Int}
theorem J0(k:Int):F117 n (k,())=Z ((tE k,()),()):=rfl
theorem Rs:F97 n ()=Z ((fq,()),()):=rfl
theorem e25(k:Int):F25 n (k,())=Z ((gf k,()),()):=rfl
def ad6(b:Bool):F120 n (b,())=Z ((iD b,()),()):=by cases b<;>rfl
def abL(k:Int):F120 n (D.aG k 1,())=Z ((iD (k==1),()),()):=ad6 _
def e73:F73 n (v,())=Z ((mX v,()),()):=by
 unfold F73 mX;by_cases h:v.Kind=4
 .simp[h,aS,J0]
 .by_cases a:v.Kind=5
  .simp[a,aS,J0]
  .simp (disch:=omega)only[aS,h,a,or_self,eT]
def e74{l:L aq}(h:l.length<=1000):F74 n (l,v,())=Z ((l++[v],()),()):=by unfold F74;simp(disch:=first|omega|simp only[lq];omega)only[aS]
def e75(nd:bp)(h1:1<=nd.Op)(h2:nd.Op<=28):F75 n (nd,())=Z ((jo nd,()),()):=by
 obtain⟨op,m,b,c⟩:=nd;dsimp only at h1 h2;obtain⟨k,rfl⟩:∃k:Nat,op=k:=⟨_,(Al (by omega)).symm⟩;have a:k<=28:=by omega
 match k,a with
 |0,_=>omega
 |1,_|2,_|3,_|4,_|5,_|6,_|7,_|8,_|9,_|10,_|11,_|12,_|13,_|14,_|15,_|16,_|17,_|18,_|19,_|20,_|21,_|22,_|23,_|24,_|25,_|26,_|27,_|28,_=>rfl
 |k+29,h=>omega
variable {op:Int}
def wk{d:aB}{k:Int}:F129 n (d,at_,op,k,v,())=if d.aaX=1 then Z ((d,()),())else Z ((⟨d.W,1,⟨at_,op,k,mX v⟩⟩,()),()):=by
 unfold F129;split<;>rename_i h
 .simp only[aS,h]
 .simp (disch:=omega)only[aS,h,e73]
def lM(b:v.Kind=5->0<=v.N∧v.N<w.aY.length):F176 n (w,v,form,())=Z (gS (gR w v form),()):=by
 unfold F176 gR cr;by_cases h:v.Kind=5
 .obtain ⟨h1,h2⟩:=b h;by_cases a:(w.aY.getD v.N.toNat aU).Form=form
  .simp (disch:=omega)only[aS,h,a,and_self,fY,gS]
  .simp (disch:=omega)only[aS,h,a,and_false,eT,gS]
 .simp (disch:=omega)only[aS,h,false_and,eT,gS]
def YB:O au->au×Bool×U
 |some b=>(b,W,())
 |none=>(aV,J,())
def TO(hf:u.Kind=4->0<=u.N∧u.N<p.dA.length)(a:u.Kind=5->0<=u.N∧u.N<w.aY.length)
  (hn:∀o,gR w u 2=Z o->0<=o.N∧o.N<p.aW.length∧0<(nodeAt p o.N).Kids.length∧o.bI.length<=1000) :
  F177 n (p,w,u,v,())=Z (YB (hY p w u v),()):=by
 unfold F177 hY;by_cases h:u.Kind=4
 .obtain ⟨h1,h2⟩:=hf h;simp(disch:=omega)only[aS,h,fY,YB]
 .simp (disch:=omega)only[aS,h,eT];rw[lM a];cases b:gR w u 2 with|none=>simp only[aS,gS,YB]|some o=>obtain⟨h1,h2,h3,h4⟩:=hn o b;unfold nodeAt at h3 ⊢;simp(disch:=omega)only[aS,gS,e74,YB]
structure At(w:aa)(at_:Int):Prop where
 lo:0<=at_
 hi:at_<w.aX.length
 tlo:0<=bT w at_
 thi:bT w at_<w.aY.length
theorem cL(w:aa)(k:Int):w.aX.getD k.toNat 0=bT w k:=rfl
def e76{node:Int}{env:L aq}(a:At w at_)(hl:left.length<=1000)(b:env.length<=1000):F76 n (w,at_,left,node,env,())=Z ((dO w at_ (bT w at_) (iM w left node env),()),()):=by
 obtain⟨a1,a2,a3,c⟩:=a;unfold F76 XN iM;by_cases h1:40<=left.length
 .simp (disch:=omega)only[aS,cL,bJ (show 40<=left.length∨30<env.length from .inl h1),dO]<;>rfl
 .by_cases h2:30<env.length
  .simp (disch:=omega)only[aS,cL,bJ (show 40<=left.length∨30<env.length from .inr h2),dO]<;>rfl
  .simp (disch:=first|omega|simp only[lq];omega)only[aS,cL,br (show ¬(40<=left.length∨30<env.length)by omega),dO]<;>rfl
def aoe(a:At w at_)(i:lY p)(g:fD p w)(c:cD p w.aY.length u)(hl:left.length<=100):F122 n (p,w,at_,left,u,v,())=Z ((dO w at_ (bT w at_) (xX p w left u v),()),()):=by
 obtain⟨a1,a2,a3,j⟩:=a;unfold F122 KG yj xX;cases e:gR w u 5 with
 |some o=>
  obtain⟨h1,h2,_⟩:=eg g c e;have k:o.Frames.length<=40:=by cases h2<;>first|(simp;done)|(simp only[eV,gw,xy];omega)
  dsimp only;by_cases h3:40<left.length+o.Frames.length
  .simp (disch:=omega)only[aS,lM c.ref,e,gS,cL,bJ h3,dO]<;>rfl
  .simp (disch:=omega)only[aS,lM c.ref,e,gS,cL,br h3,dO,fH]<;>rfl
 |none=>
  dsimp only;have h:=O4 i g c;cases d:hY p w u v with
  |none=>simp(disch:=omega)only[aS,lM c.ref,e,gS,cL,TO c.code c.ref h,d,YB,dO]<;>rfl
  |some b=>
   have l:b.Env.length<=1000:=by
    unfold hY at d;split at d
    .cases d;simp
    .split at d
     .rename_i m f;cases d;have h4:=(eg g c f).2.1;have h5:=(eg g c f).1;cases h4<;>first|(cases h5;done)|(simp only[gw,nq];omega)
     .cases d
   simp only[aS,lM c.ref,e,gS,TO c.code c.ref h,d,YB,e76 ⟨a1,a2,a3,j⟩ (show left.length<=1000 by omega) l]<;>rfl
def e55(a:Int):F55 n (a,(-1000000000),1000000000,())=Z ((gN a,()),()):=by unfold F55 gN;by_cases h1:-1000000000<=a<;>by_cases h2:a<=1000000000<;>simp[aj,D.ep,h1,h2]
def W0(a:At w at_)(d:op=9∨op=10∨op=11∨op=12∨op=13)(j:cD p w.aY.length u)(k:cD p w.aY.length v):F123 n (w,at_,left,op,u,v,())=Z ((dO w at_ (bT w at_) (mw w left op u v),()),()):=by
 obtain⟨a1,a2,a3,l⟩:=a;unfold F123 Gg KE KF yh mw;by_cases b:op=13
 .subst b;rw[bJ rfl];by_cases h1:u.Kind=v.Kind
  .by_cases h2:u.Kind<=3
   .rw[br (by omega),show vV u v=D.aG u.N v.N by simp only[vV,h1,beq_self_eq_true,dQ];rfl];simp(disch:=omega)only[aS,cL,Kb,A0,ad6,dO,fH]<;>rfl
   .rw[bJ (by omega)];simp(disch:=omega)only[aS,cL,dO]<;>rfl
  .rw[bJ (by omega)];simp(disch:=omega)only[aS,cL,dO]<;>rfl
 .rw[br b];by_cases h1:u.Kind=1∧v.Kind=1
  .obtain ⟨c,e⟩:=h1;have f:=j.int c;have g:=k.int e;have m:=afY f g;simp only[gN,ec,jL]at f g;rw[br (by omega)];rcases d with h|h|h|h|h
   .subst h;simp only[Int.reduceEq,eT,fY];simp(disch:=omega)only[aS,cL,bH,bE,e55];cases i:gN (u.N+v.N)<;>simp only[aS,cL,e25,dO,fH,eT,fY,reduceCtorEq]<;>rfl
   .subst h;simp only[Int.reduceEq,eT,fY];simp(disch:=omega)only[aS,cL,bH,cT,e55];cases i:gN (u.N-v.N)<;>simp only[aS,cL,e25,dO,fH,eT,fY,reduceCtorEq]<;>rfl
   .subst h;simp only[Int.reduceEq,eT,fY];simp(disch:=omega)only[aS,cL,bH,VG,e55];cases i:gN (u.N*v.N)<;>simp only[aS,cL,e25,dO,fH,eT,fY,reduceCtorEq]<;>rfl
   .subst h;simp only[Int.reduceEq,eT,fY];simp(disch:=omega)only[aS,cL,ad6,dO,fH]<;>rfl
   .exact absurd h b
  .rw[bJ (by omega)];by_cases c:u.Kind=1
   .simp (disch:=omega)only[aS,cL,dO]<;>rfl
   .simp (disch:=omega)only[aS,cL,dO]<;>rfl
end
end
section
section
variable {n:Nat}{p:ax}{w:aa}{left:List au}{f:au}{at_:Int}{v u:aq}{form:Int}
variable {vals:List aq}{nd:bp}
def TR(a:At w at_)(b:fD p w)(c:0<vals.length):F126 n (w,at_,left,16,vals,())=Z ((dO w at_ (bT w at_) (evS at_ 16 0 (bU vals 0) (jY w left ⟨3,0,[bU vals 0],[]⟩)),()),()):=by
 obtain⟨a1,a2,a3,d⟩:=a;have e:=b.len;unfold F126 yf Bn jh pE jY;by_cases h1:120<=w.aY.length
 .simp (disch:=omega)only[aS,bw,cL,wk,dO,evS,bJ h1,fY]<;>rfl
 .simp (disch:=first|omega|simp only[lq];omega)only[aS,bw,cL,J0,cT,wk,dO,evS,br h1,Int.reduceEq,eT,fH,js,dU,dX,DR]<;>rfl
def WZ(a:At w at_)(d:fD p w)(e:0<vals.length)(b:cD p w.aY.length (bU vals 0)):F126 n (w,at_,left,17,vals,())=Z ((dO w at_ (bT w at_) (O3 w at_ left (bU vals 0)),()),()):=by
 obtain⟨a1,a2,a3,f⟩:=a;unfold F126 yf Bn jh pE O3;cases c:gR w (bU vals 0) 3 with
 |none=>simp(disch:=omega)only[aS,bw,cL,lM b.ref,c,gS,dO]<;>rfl
 |some o=>
  obtain⟨h1,h2,h3,h4,h5,h6⟩:=eg d b c;have g:0<o.bI.length:=by cases h2<;>first|(cases h1;done)|simp
  simp(disch:=omega)only[aS,bw,cL,lM b.ref,c,gS,wk,Int.reduceEq,eT,dO]<;>rfl
def WY(a:At w at_)(d:fD p w)(e:1<vals.length)(b:cD p w.aY.length (bU vals 0)):F126 n (w,at_,left,18,vals,())=Z ((dO w at_ (bT w at_) (g9 w at_ left (bU vals 0) (bU vals 1)),()),()):=by obtain⟨a1,a2,a3,f⟩:=a;unfold F126 yf Bn jh pE g9;cases c:gR w (bU vals 0) 3 with|none=>simp(disch:=omega)only[aS,bw,cL,lM b.ref,c,gS,dO]<;>rfl|some o=>obtain⟨h1,h2,h3,h4,h5,h6⟩:=eg d b c;simp(disch:=first|omega|simp only[lq];omega)only[aS,bw,cL,lM b.ref,c,gS,Rs,wk,Int.reduceEq,eT,dO]<;>rfl
def aoa(a:At w at_)(e:fD p w)(b:cD p w.aY.length u):F128 n (w,at_,left,u,())=Z ((dO w at_ (bT w at_) (ED w at_ left u),()),()):=by
 obtain⟨a1,a2,a3,g⟩:=a;unfold F128 KB ye ED;cases c:gR w u 6 with
 |none=>simp(disch:=omega)only[aS,bw,cL,lM b.ref,c,gS,dO]<;>rfl
 |some o=>
  obtain⟨h1,h2,h3,h4,h5,h6⟩:=eg e b c;dsimp only;by_cases d:o.N=0
  .simp (disch:=omega)only[aS,bw,cL,lM b.ref,c,gS,bJ d,dO]<;>rfl
  .by_cases f:o.N=1
   .have h:0<o.bI.length:=by cases h2<;>first|(cases h1;done)|exact Nat.one_pos|exact absurd rfl d|(dsimp only at f;omega)
    simp(disch:=omega)only[aS,bw,cL,lM b.ref,c,gS,br d,br (show ¬o.N≠1 by omega),wk,Int.reduceEq,eT,dO]<;>rfl
   .simp (disch:=omega)only[aS,bw,cL,lM b.ref,c,gS,br d,bJ (show o.N≠1 by omega),dO]<;>rfl
def TQ(a:At w at_)(e:fD p w)(f:1<vals.length)(b:cD p w.aY.length (bU vals 0)):F130 n (w,at_,left,22,vals,())=Z ((dO w at_ (bT w at_) (Dz w at_ left (bU vals 0) (bU vals 1)),()),()):=by
 obtain⟨a1,a2,a3,g⟩:=a;unfold F130 Gb Ga pz Bl Dz;cases c:gR w (bU vals 0) 4 with
 |none=>simp(disch:=omega)only[aS,bw,cL,lM b.ref,c,gS,dO]<;>rfl
 |some o=>
  obtain⟨h1,h2,h3,h4,h5,h6⟩:=eg e b c;have h:o.bI.length<=4:=by cases h2<;>first|(cases h1;done)|assumption
  dsimp only;by_cases d:4<=o.bI.length
  .simp (disch:=omega)only[aS,bw,cL,lM b.ref,c,gS,bJ d,dO]<;>rfl
  .simp (disch:=first|omega|simp only[lq];omega)only[aS,bw,cL,lM b.ref,c,gS,br d,e74,Rs,wk,Int.reduceEq,eT,dO]<;>rfl
def TP(a:At w at_)(e:fD p w)(f:0<vals.length)(c:cD p w.aY.length (bU vals 0)):F130 n (w,at_,left,23,vals,())=Z ((dO w at_ (bT w at_) (Dq w at_ left (bU vals 0)),()),()):=by
 obtain⟨a1,a2,a3,g⟩:=a;unfold F130 Gb Ga pz Bl Dq;cases d:gR w (bU vals 0) 4 with
 |none=>simp(disch:=omega)only[aS,bw,cL,lM c.ref,d,gS,dO]<;>rfl
 |some o=>
  obtain⟨h1,h2,h3,h4,h5,h6⟩:=eg e c d;dsimp only;cases b:o.bI with|nil=>simp(disch:=omega)only[aS,bw,cL,lM c.ref,d,gS,b,dO]<;>rfl|cons v h=>simp(disch:=first|omega|simp only[lq];omega)only[aS,bw,cL,lM c.ref,d,gS,b,qH,wk,Int.reduceEq,eT,dO]<;>rfl
def aax(a:At w at_)(c:fD p w)(h:nd.Op=25):F131 n (w,at_,left,nd,vals,())=Z ((dO w at_ (bT w at_) (inS w at_ left),()),()):=by
 obtain⟨a1,a2,a3,e⟩:=a;have f:=c.used;have d:=c.ins;unfold F131 KA Bj Bi Bh yd inS;cases b:w.kM with
 |nil=>simp(disch:=omega)only[aS,bw,cL,b,dO]<;>rfl
 |cons i l=>
  dsimp only;rw[b]at d;simp only[eV]at d;by_cases h2:1000000000<=w.Used
  .simp (disch:=first|omega|simp only[lq];omega)only[aS,bw,cL,b,e25,if_pos h2,dO,lB]<;>rfl
  .simp (disch:=first|omega|simp only[lq];omega)only[aS,bw,cL,b,e25,if_neg h2,qH,bE,wk,h,Int.reduceEq,eT,dO]<;>rfl
def WX(a:At w at_)(b:fD p w)(h:nd.Op=24)(c:0<vals.length):F131 n (w,at_,left,nd,vals,())=Z ((dO w at_ (bT w at_) (Ou w at_ left nd.N (bU vals 0)),()),()):=by
 obtain⟨a1,a2,a3,d⟩:=a;have e:=b.outs;unfold F131 KA Bj Bi Bh yd Ou;by_cases h1:(bU vals 0).Kind=1
 .by_cases h2:100<=w.fe.length
  .simp (disch:=omega)only[aS,bw,cL,br (show ¬(bU vals 0).Kind≠1 by omega),bJ h2,dO]<;>rfl
  .simp (disch:=first|omega|simp only[lq];omega)only[aS,bw,cL,br (show ¬(bU vals 0).Kind≠1 by omega),br h2,Rs,wk,h,Int.reduceEq,eT,dO]<;>rfl
 .simp (disch:=omega)only[aS,bw,cL,bJ h1,dO]<;>rfl
def aob(a:At w at_)(i:lY p)(h:fD p w)(c:cD p w.aY.length u):F127 n (p,w,at_,left,u,())=Z ((dO w at_ (bT w at_) (xk p w at_ left u),()),()):=by
 obtain⟨a1,a2,a3,j⟩:=a;have f:=O4 i h c;have k:=h.len;have l:=h.tl;unfold F127 Gc Gd Qc Ge Bm u0 KC Gf Qd xk;cases d:gR w u 5 with
 |some o=>
  dsimp only;by_cases e:120<=w.aY.length
  .simp (disch:=omega)only[aS,bw,cL,lM c.ref,d,gS,Rs,bH,wk,bJ e,fY,dO]<;>rfl
  .simp (disch:=first|omega|simp only[lq];omega)only[aS,bw,cL,lM c.ref,d,gS,Rs,bH,J0,Ak,cT,wk,br e,Int.reduceEq,eT,js,dU,dX,DR,dO]<;>rfl
 |none=>
  dsimp only;cases g:hY p w u fq with
  |none=>simp(disch:=first|omega|simp only[lq];omega)only[aS,bw,cL,lM c.ref,d,gS,Rs,TO c.code c.ref f,g,YB,dO]<;>rfl
  |some b=>
   dsimp only;by_cases m:b.Env.length<=30
   .rw[br (by omega)];by_cases e:120<=w.aY.length
    .simp (disch:=omega)only[aS,bw,cL,lM c.ref,d,gS,Rs,TO c.code c.ref f,g,YB,bH,wk,bJ e,fY,dO]<;>rfl
    .simp (disch:=first|omega|simp only[lq];omega)only[aS,bw,cL,lM c.ref,d,gS,Rs,TO c.code c.ref f,g,YB,bH,J0,Ak,cT,wk,br e,Int.reduceEq,eT,js,dU,dX,DR,dO]<;>rfl
   .rw[bJ (by omega)];simp(disch:=first|omega|simp only[lq];omega)only[aS,bw,cL,lM c.ref,d,gS,Rs,TO c.code c.ref f,g,YB,dO]<;>rfl
def aoc{b:Int}{env:L aq}(a:At w at_)(o:fD p w)(hl:left.length<40)(hf:∀g∈left,0<=g.Node∧g.Node<p.aW.length)(t:env.length<=900):Ev (λn=>F125 n (p,w,at_,left,b,env,())) ((dO w at_ (bT w at_) (xm p w left b env),()),()):=by
 have l:=o.len;have u:=a;obtain⟨a1,a2,a3,v⟩:=a;have e0:D.dH .i64 (ak left) 1=(left.length:Int)-1:=cT (by simp only[ak];omega) (by simp only[ak];omega);unfold F125 Qe KD yg xm;simp only[e0];have e:=λ(R B P:Type)=>@xl p left hf hl R B P _ (λn c=>rfl) left.length (bQ _) (λj x q=>by omega);cases h:ir (λf:au=>(nodeAt p f.Node).Op==26) left with
 |none=>simp only[h]at e;refine Ev.aQ (F:=λn c=>_) (e _ _ _) (λn c=>_) _ (Ev.of_eq λn=>?_);show TL.aj _ _ _=_;simp(disch:=omega)only[aS,cL,dO]<;>rfl
 |some k=>
  have r:=xJ h;simp only[h]at e;refine Ev.aQ (F:=λn c=>_) (e _ _ _) (λn c=>_) _ (Ev.of_eq λn=>?_);show TL.aj _ _ _=_;dsimp only;have m:(left.take (k+1)).length=k+1:=by rw[xz];omega
  have s:((k:Int)+1).toNat=k+1:=by omega
  by_cases h1:120<=w.aY.length
  .simp (disch:=omega)only[aS,cL,bJ h1,dO]<;>rfl
  .have i:At (fA w ⟨5,0,[],left.drop k⟩) at_:=⟨a1,a2,a3,by unfold fA;simp only[gw,nq];show bT w at_<_;omega⟩;have d:=e76 (n:=n) (left:=left.take (k+1)) (node:=b) (env:=env++[tE w.aY.length]) i (by omega) (by simp;omega);unfold fA at d;rw[br h1];simp(disch:=first|omega|simp only[lq];omega)only[aS,cL,qG,mF,bE,s,J0,cT,js,dU,dX,DR,e74,d];unfold iM;by_cases h2:30<env.length+1
   .rw[bJ (.inr (by simp only[gw,nq];omega)),bJ (.inr (by simp only[gw,nq];omega))];simp only[aS,dO]<;>rfl
   .rw[br (by rw[m];simp only[gw,nq];omega),br (by rw[m];simp only[gw,nq];omega)];simp(disch:=omega)only[aS,dO]<;>rfl
end
end
section
abbrev apt:=(L aq×Bool×U)×U
def Cq:O (L aq)->apt
 |some m=>((m,W,()),())
 |none=>(([],J,()),())
def aeQ(p:ax)(w:aa)(q:aC):Prop:=∀(v:aq),cD p w.aY.length v->xd R178 (w,q,v,()) (Cq (iC w q v))
section
variable {p:ax}{w:aa}{left:List au}{f:au}{at_:Int}{v u:aq}{form:Int}
def Ml{B P:Type}(d:Nat):∀(qs:L aC)(vs:L aq)(pre:L aC)(a:L aq)(l:L aq),qs.length=vs.length->pre.length=a.length->pre.length+qs.length<=1000->
  (∀q∈qs,aeQ p w q)->(∀v∈vs,cD p w.aY.length v)->l.length+qC qs<=1000->
  ∀(F:Nat->L aq×Int×U->O (LO (L aq×Int×U) (L aq×Bool×U) U P)),
  (∀n e,F n e=aj (D.bO e.2.1 (ak (pre++qs))) (aD (av e.2.1 (pre++qs)) (aD (av e.2.1 (a++vs)) (ai (R178 n (n-d) (w,@aR aC (pre++qs) (ah e.2.1) aN,@aR aq (a++vs) (ah e.2.1) az,())) λg=>aj (D.aK g.1.2.1) (Z (LO.ret () ([],J,())))
   (aD (cX e.1 g.1.1) (Z (LO.next (cM e.1 g.1.1,D.add .i64 e.2.1 1,()))))))) (Z (LO.out 0 e)))->
  eM F (l,(pre.length:Int),()) (match eu w qs vs with
   |some m=>.out 0 (l++m,((pre++qs).length:Int),())
   |none=>.ret () ([],J,()))
 |[],[],pre,a,l,_,_,j,_,_,_,F,b=>by unfold eu;refine .out (Ev.of_eq λn=>?_);rw[b];simp(disch:=omega)only[aS,ij]<;>rfl
 |q::qs,v::vs,pre,a,l,t,u,j,k,o,z,F,b=>by
  unfold qC at z;simp only[eV]at j;have h1:=k q eD v (o v eD);have r:(pre++q::qs).getD pre.length aN=q:=eZ ..;have s:(a++v::vs).getD pre.length az=v:=by rw[u];exact eZ ..
  unfold eu;cases f:iC w q v with
  |none=>rw[f]at h1;refine .ret ?_;obtain⟨N,h1⟩:=h1 d;refine⟨N,λn i=>?_⟩;have:=h1 n i;simp only at this;show F n _=_;rw[b];simp(disch:=first|omega|simp only[lq];omega)only[aS,r,s];exact(lS (λx=>ai x _) this).trans rfl
  |some m=>
   rw[f]at h1;have A:=oQ q v m f;have h2:=Ml (B:=B) (P:=P) d qs vs (pre++[q]) (a++[v]) (l++m) (by simpa using t) (by simp;omega) (by simp;omega) (λC h=>k C (gO _ h)) (λE h=>o E (gO _ h))
    (by simp;omega) F (λn e=>by rw[b];simp only[nk,yN]<;>rfl)
   refine(.next (y:=(l++m,((pre++[q]).length:Int),())) ?_ ?_)
   .obtain ⟨N,h1⟩:=h1 d;refine⟨N,λn i=>?_⟩;have:=h1 n i;simp only at this;show F n _=_;rw[b];simp(disch:=first|omega|simp only[lq];omega)only[aS,r,s,bE,dU,dX];refine(lS (λx=>ai x _) this).trans ?_;show TL.aD (cX l m) (Z (LO.next (l++m,(pre.length:Int)+1,())))=_;rw[CZ (by omega)];simp
   .simp only;cases c:eu w qs vs with|none=>rw[c]at h2;exact h2|some G=>rw[c]at h2;simpa only[nk,yN]using h2
theorem kY(n k:Nat):R178 n (k+1)=B178 n (R178 n k):=rfl
def afZ:∀(q:aC),pw q<=1000->∀(f:fD p w),aeQ p w q
 |⟨form,n0,text,parts⟩,k,f=>by
  intro v i;unfold pw at k;unfold iC;by_cases h1:form=1
  .refine xd.step kY λd=>Ev.of_eq λn=>?_;unfold B178;simp only[aS,h1,if_true,Cq]<;>rfl
  rw[br h1];by_cases h2:form=2
  .refine xd.step kY λd=>Ev.of_eq λn=>?_;unfold B178;simp(disch:=omega)only[aS,h2,fY,Cq]<;>rfl
  rw[br h2];have cmp:∀u:aq,(if vV v u=W then Z ([]:L aq)else Y)=Y∧D.dz (D.aG v.Kind u.Kind) (D.dz (D.aG v.N u.N) W)=J∨(if vV v u=W then Z ([]:L aq)else Y)=Z []∧D.dz (D.aG v.Kind u.Kind) (D.dz (D.aG v.N u.N) W)=W:=by
   intro u;have:D.dz (D.aG v.Kind u.Kind) (D.dz (D.aG v.N u.N) W)=vV v u:=by rw[A0];rfl
   rw[this];cases vV v u<;>simp
  by_cases h3:form=3
  .rw[bJ h3];refine xd.step kY λd=>Ev.of_eq λn=>?_;unfold B178 Br;obtain⟨b,c⟩|⟨b,c⟩:=cmp (gf n0)<;>rw[b]<;>simp(disch:=omega)only[aS,h3,e25,c,Cq]<;>rfl
  rw[br h3];by_cases h4:form=4
  .rw[bJ h4];refine xd.step kY λd=>Ev.of_eq λn=>?_;unfold B178 Br;obtain⟨b,c⟩|⟨b,c⟩:=cmp (iD (n0==1))<;>rw[b]<;>simp(disch:=omega)only[aS,h4,abL,c,Cq]<;>rfl
  rw[br h4];by_cases h5:form=5
  .rw[bJ h5];refine xd.step kY λd=>Ev.of_eq λn=>?_;unfold B178 Br;obtain⟨b,c⟩|⟨b,c⟩:=cmp fq<;>rw[b]<;>simp(disch:=omega)only[aS,h5,Rs,c,Cq]<;>rfl
  rw[br h5];cases j:gR w v 1 with
  |none=>refine xd.step kY λd=>Ev.of_eq λn=>?_;unfold B178;simp(disch:=omega)only[aS,lM i.ref,j,gS,Cq]<;>rfl
  |some o=>
   dsimp only;obtain⟨_,r,_⟩:=eg f i j;by_cases m:o.N≠n0∨o.bI.length≠parts.length
   .rw[bJ m];refine xd.step kY λd=>Ev.of_eq λn=>?_;unfold B178;by_cases C:o.N=n0
    .simp (disch:=omega)only[aS,lM i.ref,j,gS,Cq]<;>rfl
    .simp (disch:=omega)only[aS,lM i.ref,j,gS,Cq]<;>rfl
   .rw[br m];have l:=r.vals;have s:parts.length<=qC parts:=abk parts;refine xd.step kY λd=>?_;have t:=Ml (p:=p) (w:=w) (B:=U) (P:=Any) d parts o.bI [] [] [] (by omega) rfl (by simp only[xy];omega)
      (λq x=>abj parts (by omega) f q x) l (by simp only[xy];omega) _ (λn e=>rfl)
    have y:∀n,B178 n (R178 n (n-d)) (w,⟨form,n0,text,parts⟩,v,())=ai (iter (λe=>aj (D.bO e.2.1 (ak parts)) (aD (av e.2.1 parts) (aD (av e.2.1 o.bI) (ai (R178 n (n-d) (w,@aR aC parts (ah e.2.1) aN,@aR aq o.bI (ah e.2.1) az,())) λg=>aj (D.aK g.1.2.1) (Z (LO.ret () ([],J,())))
   (aD (cX e.1 g.1.1) (Z (LO.next (cM e.1 g.1.1,D.add .i64 e.2.1 1,()))))))) (Z (LO.out 0 e))) n ([],0,())) λe=>LO.el e (λ_ h=>Z ((h.1,W,()),())) (λ_ h=>Z (h,())) λ_(_:Any)=>Y:=by intro n;unfold B178;simp(disch:=omega)only[aS,lM i.ref,j,gS]<;>rfl
    refine Ev.congr y (Ev.aQ t (λn e=>_) _ ?_);cases eu w parts o.bI<;>exact Ev.of_eq λn=>rfl
where
 abk:∀a:L aC,a.length<=qC a
 |[]=>Cj _
 |⟨_,_,_,_⟩::a=>by unfold qC pw;have:=abk a;simp only[eV];omega
 abj:∀(a:L aC),qC a<=1000->∀(f:fD p w),∀q∈a,aeQ p w q
 |[],_,_,_,h=>by cases h
 |q::a,z,f,A,h=>by
  unfold qC at z;rcases eU.1 h with h|h
  .rw[h];exact afZ q (by omega) f
  .exact abj a (by omega) f A h
def an1{q:aC}(a:pw q<=1000)(b:fD p w){v:aq}(c:cD p w.aY.length v):Ev (λn=>F178 n (w,q,v,())) (Cq (iC w q v)):=afZ q a b v c 0
abbrev Z12:=L aE×L Int×L cS×L Int×Int×Int×Int×Int×Int×Int×Int×U
def flat(d:aB):Z12:=(d.1.1,d.1.2,d.1.3,d.1.4,d.1.5,d.2,d.3.1,d.3.2,d.3.3,d.3.4.1,d.3.4.2,())
def Fl{P:Type}(a:At w at_)(o:fD p w)(s:cD p w.aY.length u)(hl:left.length<40){env:L aq}(x:env.length<=30){nd:bp}{z:Z12}
  (F:Nat->Int×Z12×U->O (LO (Int×Z12×U) U (Z12×U) P))
  (j:∀n c,F n c=aj (D.bO c.1 (ak nd.cA)) (aD (av c.1 nd.cA) (ai (F178 n (w,@aR aC nd.cA (ah c.1) aN,u,())) λd=>aj d.1.2.1 (aD (av (D.add .i64 1 c.1) nd.Kids) (aD (cX env d.1.1) (ai (F76 n (w,at_,left,aR nd.Kids (ah (D.add .i64 1 c.1)) 0,cM env d.1.1,())) λe=>Z (LO.ret (flat e.1.1,()) ()))))
   (Z (LO.next (D.add .i64 c.1 1,c.2))))) (Z (LO.out 0 c))) :
  ∀(qs:L aC)(f:L Int)(pre:L aC)(b:L Int),nd.cA=pre++qs->nd.Kids=b++f->b.length=pre.length+1->f.length=qs.length->pre.length+qs.length<=1000->(∀q∈qs,pw q<=12)->
  eM F ((pre.length:Int),z,()) (.out 0 ((nd.cA.length:Int),z,()))∧kK w left env u qs f=.fail 3∨eM F ((pre.length:Int),z,()) (.ret (flat (dO w at_ (bT w at_) (kK w left env u qs f)),()) ())
 |[],f,pre,b,h1,h2,h3,h4,h5,h6=>by
  have g:nd.cA.length=pre.length:=by rw[h1];simp
  refine .inl ⟨?_,by cases f<;>rfl⟩;rw[g];refine .out (Ev.of_eq λn=>?_);rw[j];simp(disch:=omega)only[aS,h1,ij]<;>rfl
 |q::qs,[],pre,b,h1,h2,h3,h4,h5,h6=>by simp at h4
 |q::qs,k::f,pre,b,h1,h2,h3,h4,h5,h6=>by
  simp only[eV]at h4 h5;have g:nd.cA.length=pre.length+(qs.length+1):=by rw[h1];simp
  have y:nd.Kids.length=b.length+(f.length+1):=by rw[h2];simp
  have A:nd.cA.getD pre.length aN=q:=by rw[h1];exact eZ ..
  have B:nd.Kids.getD (pre.length+1) 0=k:=by rw[h2,<-h3];exact eZ ..
  have C:=h6 q eD;have i:=an1 (p:=p) (show pw q<=1000 by omega) o s;have E:(1+(pre.length:Int)).toNat=pre.length+1:=by omega
  have t:∀n,F n ((pre.length:Int),z,())=ai (F178 n (w,q,u,())) λd=>aj d.1.2.1 (aD (av (D.add .i64 1 pre.length) nd.Kids) (aD (cX env d.1.1) (ai (F76 n (w,at_,left,aR nd.Kids (ah (D.add .i64 1 pre.length)) 0,cM env d.1.1,())) λe=>Z (LO.ret (flat e.1.1,()) ()))))
   (Z (LO.next (D.add .i64 pre.length 1,z,()))):=by
   intro n;rw[j];simp(disch:=omega)only[aS,A]<;>rfl
  unfold kK;cases l:iC w q u with
  |none=>
   rw[l]at i;have G:=Fl (z:=z) a o s hl x F j qs f (pre++[q]) (b++[k]) (by rw[h1];simp) (by rw[h2];simp) (by simp;omega) (by omega) (by simp;omega) (λH h=>h6 H (gO _ h));have v:Ev (λn=>F n ((pre.length:Int),z,())) (.next (((pre++[q]).length:Int),z,())):=by refine Ev.congr t (Ev.ai i (Ev.of_eq λn=>?_));simp(disch:=omega)only[aS,Cq,bE,dU,dX]<;>rfl
   rcases G with⟨I,K⟩|r
   .exact .inl ⟨.next v I,K⟩
   .exact .inr (.next v r)
  |some m=>rw[l]at i;have M:=oQ q u m l;dsimp only;refine .inr (.ret ?_);refine Ev.congr t (Ev.ai i (Ev.of_eq λn=>?_));simp(disch:=omega)only[aS,Cq,bE,E,B,e76 a (show left.length<=1000 by omega) (show(env++m).length<=1000 by rw[gw];omega)]<;>rfl
variable {env:List aq}{nd:bp}
def aod(a:At w at_)(t:lY p)(g:fD p w)(i:cD p w.aY.length u)(hl:left.length<40)(j:env.length<=30)(hn:PN p nd)(h:nd.Op=15) :
  Ev (λn=>F124 n (w,at_,left,nd,env,u,())) ((dO w at_ (bT w at_) (kK w left env u nd.cA (nd.Kids.drop 1)),()),()):=by
 obtain⟨f,k⟩:=hn.mat h;obtain⟨b,d⟩:∃b,nd.Kids=[b]++nd.Kids.drop 1:=by cases m:nd.Kids with|nil=>rw[m]at f;simp at f;omega|cons a l=>exact⟨a,rfl⟩
 have o:=λ(P:Type)=>Fl (P:=P) (nd:=nd) (z:=([],[],[],[],0,0,0,0,0,0,0,())) a g i hl j _ (λn c=>rfl) nd.cA (nd.Kids.drop 1) [] [b] rfl d rfl (by rw[BC];omega) (by simp only[xy];omega) (λq r=>(hn.pats q r).1);unfold F124;obtain⟨a1,a2,a3,v⟩:=a;rcases o Any with⟨e,s⟩|e
 .rw[s];refine Ev.aQ (F:=λn c=>_) e (λn c=>_) _ (Ev.of_eq λn=>?_);show TL.aD _ _=_;simp(disch:=omega)only[aS,cL,dO]<;>rfl
 .exact Ev.aQ (F:=λn c=>_) e (λn c=>_) _ (Ev.of_eq λn=>rfl)
end
end
section
section
variable {p:ax}{w:aa}{left:List au}{f:au}{at_:Int}{v u:aq}{form:Int}
theorem abC(n:Int):p.aW.getD n.toNat aP=nodeAt p n:=rfl
abbrev D77(p:ax)(w:aa)(at_:Int)(left:L au)(f:au):Prop:=Ev (λn=>F77 n (p,w,at_,left,f,())) ((dO w at_ (bT w at_) (iI p w at_ left f),()),())
def d77(c:Cx p w left f)(a:At w at_):D77 p w at_ left f:=by
 have nd:=c.nd;have j:=c.hw;have m:=c.hp;have t:=c.hw.len;have o:=c.ll;have h1:=nd.lo;have h2:=nd.hi;have x:=c.hf.lo;have y:=c.hf.hi;have q:=c.hf.el;have z:=m.fl;have e:=a;obtain⟨a1,a2,a3,E⟩:=a;have many:∀k:Int,(nodeAt p f.Node).Op=k->k≠14->k≠15->(nodeAt p f.Node).Kids.length=rj.getD k.toNat 0:=by intro k h A B;have:=nd.many (by omega) (by omega);rwa [h]at this
 obtain⟨k,b⟩:∃k:Nat,(nodeAt p f.Node).Op=k:=⟨_,(Al (by omega)).symm⟩;have r:1<=k:=by omega
 have s:k<=28:=by omega
 unfold D77 iI;simp only[b,Gy]
 match k,b,r,s with
 |1,b,_,_=>have b:(nodeAt p f.Node).Op=1:=b;refine Ev.of_eq λn=>?_;unfold F77 rG tw qd l6 l7 iF kA cw;simp(disch:=omega)only[aS,bw,b,e25,cL,dO,fH]<;>rfl
 |2,b,_,_=>have b:(nodeAt p f.Node).Op=2:=b;refine Ev.of_eq λn=>?_;unfold F77 rG tw qd l6 l7 iF kA cw;simp(disch:=omega)only[aS,bw,b,abL,cL,dO,fH]<;>rfl
 |3,b,_,_=>have b:(nodeAt p f.Node).Op=3:=b;refine Ev.of_eq λn=>?_;unfold F77 rG tw qd l6 l7 iF kA cw;simp(disch:=omega)only[aS,bw,b,Rs,cL,dO,fH]<;>rfl
 |4,b,_,_=>
  have b:(nodeAt p f.Node).Op=4:=b;have F:=nd.name b;refine Ev.of_eq λn=>?_;unfold F77 Cf rG tw qd l6 l7 iF kA cw;simp only;by_cases h3:(nodeAt p f.Node).N<0
  .rw[bJ h3];simp(disch:=omega)only[aS,bw,b,cT,cL,dO,fH]<;>rfl
  .rw[br h3];by_cases h4:(f.Env.length:Int)<=(nodeAt p f.Node).N
   .rw[bJ h4];simp(disch:=omega)only[aS,bw,b,cL,dO,fH]<;>rfl
   .rw[br h4];simp(disch:=omega)only[aS,bw,b,cL,dO,fH]<;>rfl
 |5,b,_,_=>
  have b:(nodeAt p f.Node).Op=5:=b;refine Ev.of_eq λn=>?_;unfold F77 FL Kn FM Cf rG tw qd l6 l7 iF kA cw jY;simp only;by_cases h3:120<=w.aY.length
  .rw[bJ h3];simp(disch:=omega)only[aS,bw,b,cL,dO]<;>rfl
  .rw[br h3];simp(disch:=first|omega|simp only[lq];omega)only[aS,bw,b,cL,J0,cT,js,dU,dX,DR,dO,fH]<;>rfl
 |6,b,_,_=>have b:(nodeAt p f.Node).Op=6:=b;have d:=c.vl b (by decide);simp[dP]at d;refine Ev.of_eq λn=>?_;unfold F77 gT ie cw;simp(disch:=omega)only[aS,bw,b,aoe e m j (c.val (i:=0) (by omega)) (show left.length<=100 by omega)]<;>rfl
 |7,b,_,_=>have b:(nodeAt p f.Node).Op=7:=b;have d:=c.vl b (by decide);simp[dP]at d;have l:=many _ b (by decide) (by decide);have l:(nodeAt p f.Node).Kids.length=2:=l;refine Ev.of_eq λn=>?_;unfold F77 gT ie cw;simp(disch:=omega)only[aS,bw,b,e74,e76 e (show left.length<=1000 by omega) (show(f.Env++[bU f.bI 0]).length<=1000 by simp;omega)]<;>rfl
 |8,b,_,_=>
  have b:(nodeAt p f.Node).Op=8:=b;have d:=c.vl b (by decide);simp[dP]at d;have l:=many _ b (by decide) (by decide);have l:(nodeAt p f.Node).Kids.length=3:=l;refine Ev.of_eq λn=>?_;unfold F77 gT ie Cf rG tw qd l6 l7 iF kA cw;simp only;by_cases h3:(bU f.bI 0).Kind=2
  .have:=(c.val (i:=0) (by omega)).UD h3;rw[br (by omega)];simp(disch:=omega)only[aS,bw,b,cT,e76 e (show left.length<=1000 by omega) (show f.Env.length<=1000 by omega)]<;>rfl
  .rw[bJ h3];simp(disch:=omega)only[aS,bw,b,cL,dO]<;>rfl
 |9,b,_,_=>have d:=c.vl b (by decide);simp[dP]at d;refine Ev.of_eq λn=>?_;unfold F77 gG gT ie cw;simp(disch:=omega)only[aS,bw,b,bH,W0 (left:=left) (op:=((9:Nat):Int)) e (by omega) (c.val (i:=0) (by omega)) (c.val (i:=1) (by omega))]<;>rfl
 |10,b,_,_=>have d:=c.vl b (by decide);simp[dP]at d;refine Ev.of_eq λn=>?_;unfold F77 gG gT ie cw;simp(disch:=omega)only[aS,bw,b,bH,W0 (left:=left) (op:=((10:Nat):Int)) e (by omega) (c.val (i:=0) (by omega)) (c.val (i:=1) (by omega))]<;>rfl
 |11,b,_,_=>have d:=c.vl b (by decide);simp[dP]at d;refine Ev.of_eq λn=>?_;unfold F77 gG gT ie cw;simp(disch:=omega)only[aS,bw,b,bH,W0 (left:=left) (op:=((11:Nat):Int)) e (by omega) (c.val (i:=0) (by omega)) (c.val (i:=1) (by omega))]<;>rfl
 |12,b,_,_=>have d:=c.vl b (by decide);simp[dP]at d;refine Ev.of_eq λn=>?_;unfold F77 gG gT ie cw;simp(disch:=omega)only[aS,bw,b,bH,W0 (left:=left) (op:=((12:Nat):Int)) e (by omega) (c.val (i:=0) (by omega)) (c.val (i:=1) (by omega))]<;>rfl
 |13,b,_,_=>have d:=c.vl b (by decide);simp[dP]at d;refine Ev.of_eq λn=>?_;unfold F77 gG gT ie cw;simp(disch:=omega)only[aS,bw,b,bH,W0 (left:=left) (op:=((13:Nat):Int)) e (by omega) (c.val (i:=0) (by omega)) (c.val (i:=1) (by omega))]<;>rfl
 |14,b,_,_=>
  have b:(nodeAt p f.Node).Op=14:=b;refine Ev.of_eq λn=>?_;have C:=zd m nd;have u:=c.full;unfold jo at u;rw[bJ (show(nodeAt p f.Node).Op=14 from b)]at u;unfold F77 FK gG Kn FM Cf rG tw qd l6 l7 iF kA cw jY;simp only;by_cases h3:120<=w.aY.length
  .rw[bJ h3];simp(disch:=omega)only[aS,bw,b,bH,cL,dO]<;>rfl
  .rw[br h3];simp(disch:=first|omega|simp only[lq];omega)only[aS,bw,b,bH,cL,J0,cT,js,dU,dX,DR,dO,fH]<;>rfl
 |15,b,_,_=>have b:(nodeAt p f.Node).Op=15:=b;have d:=c.vl b (by decide);simp[dP]at d;unfold F77 gG gT ie cw;simp(disch:=omega)only[aS,bw,b,bH];exact Ev.ai (aod e m j (c.val (i:=0) (by omega)) o q nd b) (Ev.pure _)
 |16,b,_,_=>have b:(nodeAt p f.Node).Op=16:=b;have d:=c.vl b (by decide);simp[dP]at d;refine Ev.of_eq λn=>?_;unfold F77 xZ gG cw;simp(disch:=omega)only[aS,bw,b,bH,TR e j (show 0<f.bI.length by omega)]<;>rfl
 |17,b,_,_=>have b:(nodeAt p f.Node).Op=17:=b;have d:=c.vl b (by decide);simp[dP]at d;refine Ev.of_eq λn=>?_;unfold F77 xZ gG cw;simp(disch:=omega)only[aS,bw,b,bH,WZ e j (show 0<f.bI.length by omega) (c.val (i:=0) (by omega))]<;>rfl
 |18,b,_,_=>have b:(nodeAt p f.Node).Op=18:=b;have d:=c.vl b (by decide);simp[dP]at d;refine Ev.of_eq λn=>?_;unfold F77 xZ gG cw;simp(disch:=omega)only[aS,bw,b,bH,WY e j (show 1<f.bI.length by omega) (c.val (i:=0) (by omega))]<;>rfl
 |19,b,_,_=>have b:(nodeAt p f.Node).Op=19:=b;have d:=c.vl b (by decide);simp[dP]at d;refine Ev.of_eq λn=>?_;unfold F77 gG gT ie cw;simp(disch:=omega)only[aS,bw,b,bH,aob e m j (c.val (i:=0) (by omega))]<;>rfl
 |20,b,_,_=>have b:(nodeAt p f.Node).Op=20:=b;have d:=c.vl b (by decide);simp[dP]at d;refine Ev.of_eq λn=>?_;unfold F77 gG gT ie cw;simp(disch:=omega)only[aS,bw,b,bH,aoa e j (c.val (i:=0) (by omega))]<;>rfl
 |21,b,_,_=>
  have b:(nodeAt p f.Node).Op=21:=b;refine Ev.of_eq λn=>?_;unfold F77 FJ gG FM Cf rG tw qd l6 l7 iF kA cw jY;simp only;by_cases h3:120<=w.aY.length
  .rw[bJ h3];simp(disch:=omega)only[aS,bw,b,bH,cL,Rs,wk,fY,dO]<;>rfl
  .rw[br h3];simp(disch:=first|omega|simp only[lq];omega)only[aS,bw,b,bH,cL,Rs,J0,cT,js,dU,dX,DR,wk,Int.reduceEq,if_false,dO,fH]<;>rfl
 |22,b,_,_=>have b:(nodeAt p f.Node).Op=22:=b;have d:=c.vl b (by decide);simp[dP]at d;refine Ev.of_eq λn=>?_;unfold F77 xZ gG cw;simp(disch:=omega)only[aS,bw,b,bH,TQ e j (show 1<f.bI.length by omega) (c.val (i:=0) (by omega))]<;>rfl
 |23,b,_,_=>have b:(nodeAt p f.Node).Op=23:=b;have d:=c.vl b (by decide);simp[dP]at d;refine Ev.of_eq λn=>?_;unfold F77 xZ gG cw;simp(disch:=omega)only[aS,bw,b,bH,TP e j (show 0<f.bI.length by omega) (c.val (i:=0) (by omega))]<;>rfl
 |24,b,_,_=>have b:(nodeAt p f.Node).Op=24:=b;have d:=c.vl b (by decide);simp[dP]at d;refine Ev.of_eq λn=>?_;unfold F77 gG cw;simp(disch:=omega)only[aS,bw,b,bH,WX e j b (show 0<f.bI.length by omega)]<;>rfl
 |25,b,_,_=>have b:(nodeAt p f.Node).Op=25:=b;refine Ev.of_eq λn=>?_;unfold F77 gG cw;simp(disch:=omega)only[aS,bw,b,bH,aax e j b]<;>rfl
 |26,b,_,_=>have b:(nodeAt p f.Node).Op=26:=b;have d:=c.vl b (by decide);simp[dP]at d;refine Ev.of_eq λn=>?_;unfold F77 gG gT ie Cf rG tw qd l6 l7 iF kA cw;simp(disch:=omega)only[aS,bw,b,bH,cL,dO,fH]<;>rfl
 |27,b,_,_=>have b:(nodeAt p f.Node).Op=27:=b;have l:=many _ b (by decide) (by decide);have l:(nodeAt p f.Node).Kids.length=1:=l;unfold F77 gG cw;simp(disch:=omega)only[aS,bw,b,bH];exact Ev.ai (aoc e j o (λg v=>⟨(c.left g v).1.lo,(c.left g v).1.hi⟩) (by omega)) (Ev.pure _)
 |28,b,_,_=>have b:(nodeAt p f.Node).Op=28:=b;refine Ev.of_eq λn=>?_;unfold F77 gG rG tw qd l6 l7 iF kA cw;simp(disch:=omega)only[aS,bw,b,bH,cL,Rs,wk,Int.reduceEq,eT,dO,fH]<;>rfl
 |k+29,b,_,h=>omega
def zB(w:aa):O (aa×O aA)->aB
 |none=>⟨w,2,aH⟩
 |some (a,Y)=>⟨a,0,aH⟩
 |some (a,Z e)=>⟨a,1,e⟩
def UO{l:L au}{g x:au}:(l++[g]).set l.length x=l++[x]:=by rw[List.set_append_right _ _ (bQ _),Nat.sub_self];rfl
def d40(q:lY p)(r:fD p w)(A:0<=at_)(h1:at_<w.aX.length):Ev (λn=>F40 n (p,w,at_,())) ((zB w (fL p w at_),()),()):=by
 obtain⟨t1,t2,t3⟩:=r.task _ (bX 0 (show at_.toNat<w.aX.length by omega));have t:=r.ob t1 t2;change 0<=bT w at_ at t1;change bT w at_<_ at t2;change(cr w (bT w at_)).Form=6 at t3;change gE p _ (cr w (bT w at_))at t;have k:kZ (p,w,at_,())=(bT w at_).toNat:=rfl;have E:RY (p,w,at_,())=av (bT w at_) w.aY:=rfl;unfold fL F40 RX rH;simp only[E];by_cases h:(cr w (bT w at_)).N=0
 .rw[br (by omega)];by_cases b:(cr w (bT w at_)).Frames=[]
  .rw[bJ b];obtain⟨v,i,u⟩:=E8 t t3 h b;have m:tB (p,w,at_,())=-1:=by unfold tB;simp only[k];simp only[aS,bw,b];rfl
   refine Ev.of_eq λn=>?_;simp(disch:=first|omega|simp only[lq];omega)only[aS,k,m,bw,h,b,i,e73,cL,List.getD_cons_zero]<;>rfl
  .rw[br b];obtain⟨l,g,d⟩:∃l g,(cr w (bT w at_)).Frames=l++[g]:=⟨_,_,vL b⟩;obtain⟨j,F,x,y⟩:=yZ t t3 h d;have a:=q.nd j.lo j.hi;have o:(l++[g]).length-1=l.length:=by simp
   have f:(l++[g]).take l.length=l:=Lx;have cJ:(l++[g]).getD l.length aV=g:=eZ ..;have m:tB (p,w,at_,())=(l.length:Int):=by unfold tB;simp only[k];simp(disch:=omega)only[aS,bw,d,cT];omega
   have G:=j.lo;have H:=j.hi;have I:g.bI.length<=1000:=by have h1:=j.vl;have h2:=oq a;have h3:=zd q a;omega
   unfold Tu;simp only[d,o,f,cJ];rcases y with i|⟨v,i,u,K⟩
   .simp only[i];by_cases B:(g.bI.length:Int)<jo (nodeAt p g.Node)
    .rw[bJ B];have:=oq a;have z:=λn=>e76 (n:=n) (w:=w) (at_:=at_) (left:=l++[g]) (node:=(nodeAt p g.Node).Kids.getD g.bI.length 0) (env:=g.Env) ⟨A,h1,t1,t2⟩ (by simp;omega) (by have:=j.el;omega);refine Ev.of_eq λn=>?_;simp(disch:=first|omega|simp only[lq];omega)only[aS,k,m,bw,h,d,i,cJ,y7,abC,e75 _ a.lo a.hi,z];unfold iM;split<;>rfl
    .rw[br B];have c:Cx p w l g:=⟨q,r,j,by have:=j.vl;omega,x,F⟩;have C:=d77 c ⟨A,h1,t1,t2⟩;unfold D77 at C;simp(disch:=first|omega|simp only[lq];omega)only[aS,k,m,bw,h,d,i,cJ,y7,abC,e75 _ a.lo a.hi,mF,f];refine Ev.ai C ?_;cases iI p w at_ l g with|waits=>exact Ev.pure _|fail s=>exact Ev.pure _|go M N P e=>cases e<;>exact Ev.pure _
   .simp only[i];refine Ev.of_eq λn=>?_;simp(disch:=first|omega|simp only[lq];omega)only[aS,k,m,bw,h,d,i,cJ,y7,cL,List.getD_cons_zero,e74,UO]<;>rfl
 .rw[bJ h];refine Ev.of_eq λn=>?_;simp(disch:=omega)only[aS,k,bw,h]<;>rfl
end
end
section
def vW(p:ax)(at_:Int):Nat->aa->Nat->O (aa×Nat)
 |0,_,_=>Y
 |k+1,w,s=>match fL p w at_ with
  |some (a,Y)=>if 5000<s+1 then Y else vW p at_ k a (s+1)
  |_=>Z (w,s)
def dD(p:ax):Nat->Nat->aa->Nat->O (aa×Nat)
 |0,_,w,s=>Z (w,s)
 |m+1,i,w,s=>match vW p i 5002 w s with
  |none=>Y
  |some (a,b)=>dD p m (i+1) a b
section
variable {p:ax}{w:aa}{at_:Int}
def yI(j:lY p):∀(k:Nat)(w:aa)(s:Nat)(w':aa)(s':Nat),fD p w->0<=at_->at_<w.aX.length->vW p at_ k w s=Z (w',s')->fD p w'∧w'.aX=w.aX∧s<=s'∧(s'<=s∨s'<=5000)
 |0,w,s,w',s',f,g,h1,h=>by cases h
 |k+1,w,s,w',s',f,g,h1,h=>by
  unfold vW at h;cases i:fL p w at_ with
  |none=>rw[i]at h;cases h;exact⟨f,rfl,bQ _,.inl (bQ _)⟩
  |some r=>
   obtain⟨m,e⟩:=r;rw[i]at h;cases e with
   |some e=>cases h;exact⟨f,rfl,bQ _,.inl (bQ _)⟩
   |none=>
    obtain⟨n,q,o⟩:=kf j f g h1 i;have l:=o rfl;simp only at h;split at h
    .cases h
    .rename_i h5;obtain⟨a,b,c,d⟩:=yI j k m (s+1) w' s' n g (by rw[l];exact h1) h;exact⟨a,b.trans l,by omega,by omega⟩
def Dy(f:lY p):∀(m i:Nat)(w:aa)(s:Nat)(w':aa)(s':Nat),fD p w->i+m<=w.aX.length->dD p m i w s=Z (w',s')->fD p w'∧w'.aX=w.aX∧s<=s'∧(s'<=s∨s'<=5000)
 |0,i,w,s,w',s',e,k,h=>by cases h;exact⟨e,rfl,bQ _,.inl (bQ _)⟩
 |m+1,i,w,s,w',s',e,k,h=>by
  unfold dD at h;split at h
  .cases h
  .rename_i g j l;obtain⟨a,b,c,d⟩:=yI f _ w s g j e (by omega) (by omega) l;obtain⟨n,o,q,r⟩:=Dy f m (i+1) g j w' s' a (by rw[b];omega) h;exact⟨n,o.trans b,by omega,by omega⟩
def Lj(j:lY p)(F:Nat->Int×RB×U->O (LO (Int×RB×U) (Int×Bool×U) (RB×U) Any))
  (h:∀n d,F n d=ai (F70 n (d.2.1,at_,())) λe=>ai (F71 n e.1) λg=>aj (D.aK (D.aG g.1.1 0)) (Z (LO.out 0 d)) (aj (D.bO 5000 (D.add .i64 d.1 1)) (Z (LO.ret d.2 (0,J,()))) (Z (LO.next (D.add .i64 d.1 1,e.2))))) :
  ∀(k:Nat)(w:aa)(s:Nat),fD p w->0<=at_->at_<w.aX.length->s<=5001->5002<=k+s->
  (∃w' s',vW p at_ k w s=Z (w',s')∧eM F ((s:Int),rb p w,()) (.out 0 ((s':Int),rb p w',())))∨
  (vW p at_ k w s=Y∧∃R,eM F ((s:Int),rb p w,()) (.ret R (0,J,())))
 |0,w,s,l,i,h1,q,t=>by omega
 |k+1,w,s,l,i,h1,q,t=>by
  have f:=e70 j l i h1;unfold vW;cases c:fL p w at_ with
  |none=>rw[c]at f;refine .inl ⟨w,s,rfl,.out ?_⟩;refine Ev.congr (λn=>h n _) (Ev.ai f (Ev.of_eq λn=>?_));simp(disch:=omega)only[aS,Lb,ahK]<;>rfl
  |some r=>
   obtain⟨m,e⟩:=r;rw[c]at f;cases e with
   |some e=>refine .inl ⟨w,s,rfl,.out ?_⟩;refine Ev.congr (λn=>h n _) (Ev.ai f (Ev.of_eq λn=>?_));simp(disch:=omega)only[aS,Lb,WT]<;>rfl
   |none=>
    obtain⟨u,y,v⟩:=kf j l i h1 c;have x:=v rfl;simp only;by_cases h5:5000<s+1
    .rw[bJ h5];refine .inr ⟨rfl,(rb p w,()),.ret ?_⟩;refine Ev.congr (λn=>h n _) (Ev.ai f (Ev.of_eq λn=>?_));simp(disch:=omega)only[aS,Lb,WT,bE]<;>rfl
    .rw[br h5];have o:Ev (λn=>F n ((s:Int),rb p w,())) (.next (((s+1:Nat):Int),rb p m,())):=by refine Ev.congr (λn=>h n _) (Ev.ai f (Ev.of_eq λn=>?_));simp(disch:=omega)only[aS,Lb,WT,bE,dU,dX]<;>rfl
     rcases Lj j F h k m (s+1) u i (by rw[x];exact h1) (by omega) (by omega)with⟨w',s',a,b⟩|⟨a,R,b⟩
     .exact .inl ⟨w',s',a,.next o b⟩
     .exact .inr ⟨a,R,.next o b⟩
theorem dY{X R B P α:Type}(j:Nat)(x:X)(f:Nat->X->O α)(g:B->R->O α)(h:B->P->O α):LO.el (.out j x) f g h=f j x:=rfl
theorem o3{X R B P α:Type}(b:B)(r:R)(f:Nat->X->O α)(g:B->R->O α)(h:B->P->O α):LO.el (.ret b r) f g h=g b r:=rfl
theorem V5{X R B P α:Type}(b:B)(r:R)(e:X->O α)(f:Nat->X->O α)(g:B->R->O α)(h:B->P->O α):LO.jn (.ret b r) e f g h=g b r:=rfl
def Bu(j:lY p){N0:Nat}(F:Nat->Int×Int×RB×U->O (LO (Int×Int×RB×U) (Int×Bool×U) (RB×U) Any))
  (h:∀n c,F n c=aj (D.bO c.2.1 (N0:Int)) (ai (iter (λd:Int×RB×U=>ai (F70 n (d.2.1,c.2.1,())) λe=>ai (F71 n e.1) λg=>aj (D.aK (D.aG g.1.1 0)) (Z (LO.out 0 d)) (aj (D.bO 5000 (D.add .i64 d.1 1)) (Z (LO.ret (P:=Any) d.2 (0,J,()))) (Z (LO.next (D.add .i64 d.1 1,e.2))))) n (c.1,c.2.2)) λd=>LO.el d (λ_ g=>Z (LO.next (g.1,D.add .i64 c.2.1 1,g.2))) (λe g=>Z (LO.ret e g)) λ_ _=>Y) (Z (LO.out 0 c))) :
  ∀(m i:Nat)(w:aa)(s:Nat),fD p w->i+m=N0->N0=w.aX.length->s<=5001->
  (∃w' s',dD p m i w s=Z (w',s')∧eM F ((s:Int),(i:Int),rb p w,()) (.out 0 ((s':Int),(N0:Int),rb p w',())))∨
  (dD p m i w s=Y∧∃R,eM F ((s:Int),(i:Int),rb p w,()) (.ret R (0,J,())))
 |0,i,w,s,f,t,o,q=>by
  refine .inl ⟨w,s,rfl,?_⟩;have:i=N0:=by omega
  subst this;refine .out (Ev.of_eq λn=>?_);rw[h];simp(disch:=omega)only[aS]<;>rfl
 |m+1,i,w,s,f,t,o,q=>by
  have A:=f.tl;have u:=f.len;unfold dD;rcases Lj (at_:=(i:Int)) j _ (λn d=>rfl) 5002 w s f (by omega) (by omega) q (by omega)with⟨k,l,a,b⟩|⟨a,R,b⟩
  .rw[a];simp only;obtain⟨v,z,B,C⟩:=yI j _ w s k l f (by omega) (by omega) a;have r:Ev (λn=>F n ((s:Int),(i:Int),rb p w,())) (.next ((l:Int),((i+1:Nat):Int),rb p k,())):=by refine Ev.congr (λn=>(h n _).trans (jZ (by simp only;omega) _ _)) ?_;refine Ev.aQ b (λn c=>_) _ (Ev.of_eq λn=>?_);rw[dY];simp(disch:=omega)only[aS,bE,dU,dX]
   rcases Bu j F h m (i+1) k l v (by omega) (by rw[z];exact o) (by omega)with⟨w',s',x,y⟩|⟨x,R,y⟩
   .exact .inl ⟨w',s',x,.next r y⟩
   .exact .inr ⟨x,R,.next r y⟩
  .rw[a];refine .inr ⟨rfl,R,.ret ?_⟩;refine Ev.congr (λn=>(h n _).trans (jZ (by simp only;omega) _ _)) ?_;refine Ev.aQ b (λn c=>_) _ (Ev.of_eq λn=>?_);rw[o3]
variable {N0 s:Nat}
def e50(d:lY p)(e:fD p w)(hs:s<=5001) :
  (∃w' s',dD p w.aX.length 0 w s=Z (w',s')∧Ev (λn=>F50 n (rb p w,(s:Int),())) (((s':Int),W,()),rb p w',()))∨
  (dD p w.aX.length 0 w s=Y∧∃R,Ev (λn=>F50 n (rb p w,(s:Int),())) ((0,J,()),R)):=by
 unfold F50;rcases Bu d (N0:=w.aX.length) _ (λn c=>rfl) w.aX.length 0 w s e (by omega) rfl hs with⟨w',s',a,b⟩|⟨a,R,b⟩
 .exact .inl ⟨w',s',a,Ev.aQ (F:=λn c=>_) b (λn c=>_) _ (Ev.of_eq λn=>rfl)⟩
 .exact .inr ⟨a,R,Ev.aQ (F:=λn c=>_) b (λn c=>_) _ (Ev.of_eq λn=>rfl)⟩
abbrev Z5:=L aE×L Int×L cS×L Int×Int×U
abbrev w5(w:aa):Z5:=(w.aY,w.aX,w.fe,w.kM,w.Used,())
def M0(h:lY p){z:Z5}(F:Nat->Int×Z5×Z5×Z12×U->O (LO (Int×Z5×Z5×Z12×U) (Int×Bool×U) (Z5×Z5×Z12×U) Any))
  (d:∀n e,F n e=aj (D.aG e.2.2.2.1.2.2.2.2.2.1 0) (aj (D.bO 5000 (D.add .i64 e.1 1)) (Z (LO.ret (e.2.1,e.2.1,e.2.2.2) (D.add .i64 e.1 1,J,()))) (ai (F40 n (p,aa.mk e.2.2.2.1.1 e.2.2.2.1.2.1 e.2.2.2.1.2.2.1 e.2.2.2.1.2.2.2.1 e.2.2.2.1.2.2.2.2.1,at_,())) λg=>Z (LO.next (D.add .i64 e.1 1,(e.2.2.2.1.1,e.2.2.2.1.2.1,e.2.2.2.1.2.2.1,e.2.2.2.1.2.2.2.1,e.2.2.2.1.2.2.2.2.1,()),e.2.2.1,IN g)))) (Z (LO.out 0 e))) :
  ∀(k:Nat)(w:aa)(s:Nat),fD p w->0<=at_->at_<w.aX.length->s<=5001->5002<=k+s->
  (∃w' s' q,vW p at_ k w s=Z (w',s')∧eM F ((s:Int),w5 w,z,flat (zB w (fL p w at_)),()) (.out 0 ((s':Int),w5 w',z,q,())))∨
  (vW p at_ k w s=Y∧∃R s',eM F ((s:Int),w5 w,z,flat (zB w (fL p w at_)),()) (.ret R (s',J,())))
 |0,w,s,j,f,h1,t,u=>by omega
 |k+1,w,s,j,f,h1,t,u=>by
  unfold vW;cases i:fL p w at_ with
  |none=>refine .inl ⟨w,s,flat (zB w Y),rfl,.out (Ev.of_eq λn=>?_)⟩;rw[d];simp(disch:=omega)only[aS,flat,zB]<;>rfl
  |some r=>
   obtain⟨c,e⟩:=r;cases e with
   |some e=>refine .inl ⟨w,s,flat (zB w (Z (c,Z e))),rfl,.out (Ev.of_eq λn=>?_)⟩;rw[d];simp(disch:=omega)only[aS,flat,zB]<;>rfl
   |none=>
    obtain⟨l,y,v⟩:=kf h j f h1 i;have m:=v rfl;simp only;by_cases h5:5000<s+1
    .rw[bJ h5];refine .inr ⟨rfl,(w5 w,w5 w,flat (zB w (Z (c,Y))),()),((s+1:Nat):Int),.ret (Ev.of_eq λn=>?_)⟩;rw[d];simp(disch:=omega)only[aS,flat,zB,bE,dU,dX]<;>rfl
    .rw[br h5];have x:=d40 h l f (show at_<c.aX.length by rw[m];exact h1);have o:Ev (λn=>F n ((s:Int),w5 w,z,flat (zB w (Z (c,Y))),())) (.next (((s+1:Nat):Int),w5 c,z,flat (zB c (fL p c at_)),())):=by
      refine Ev.congr (g:=λn=>ai (F40 n (p,c,at_,())) λg=>Z (LO.next ((s:Int)+1,w5 c,z,IN g))) (λn=>?_) (Ev.ai x (Ev.of_eq λn=>?_))
      .rw[d];simp(disch:=omega)only[aS,flat,zB,bE,dU,dX]<;>rfl
      .simp only[dU,dX];rfl
     rcases M0 h F d k c (s+1) l f (by rw[m];exact h1) (by omega) (by omega)with⟨w',s',q,a,b⟩|⟨a,R,s',b⟩
     .exact .inl ⟨w',s',q,a,.next o b⟩
     .exact .inr ⟨a,R,s',.next o b⟩
def Ir(k:lY p){N0:Nat}{z:Z5}(F:Nat->Int×Int×Z5×Z5×U->O (LO (Int×Int×Z5×Z5×U) (Int×Bool×U) (Z5×Z5×U) Any))
  (l:∀n c,F n c=aj (D.bO c.2.1 (ak c.2.2.1.2.1)) (ai (F40 n (p,X1 c,c.2.1,())) λd=>ai (iter (λe:Int×Z5×Z5×Z12×U=>aj (D.aG e.2.2.2.1.2.2.2.2.2.1 0) (aj (D.bO 5000 (D.add .i64 e.1 1)) (Z (LO.ret (P:=Any) (e.2.1,e.2.1,e.2.2.2) (D.add .i64 e.1 1,J,()))) (ai (F40 n (p,aa.mk e.2.2.2.1.1 e.2.2.2.1.2.1 e.2.2.2.1.2.2.1 e.2.2.2.1.2.2.2.1 e.2.2.2.1.2.2.2.2.1,c.2.1,())) λg=>Z (LO.next (D.add .i64 e.1 1,(e.2.2.2.1.1,e.2.2.2.1.2.1,e.2.2.2.1.2.2.1,e.2.2.2.1.2.2.2.1,e.2.2.2.1.2.2.2.2.1,()),e.2.2.1,IN g)))) (Z (LO.out 0 e))) n (c.1,c.2.2.1,c.2.2.2.1,IN d)) λe=>LO.el e (λ_ h=>Z (LO.next (h.1,D.add .i64 c.2.1 1,h.2.1,h.2.2.1,()))) (λg h=>Z (LO.ret (g.1,g.2.1,()) h)) λ_ _=>Y) (Z (LO.out 0 c))) :
  ∀(m i:Nat)(w:aa)(s:Nat),fD p w->i+m=N0->N0=w.aX.length->s<=5001->
  (∃w' s',dD p m i w s=Z (w',s')∧eM F ((s:Int),(i:Int),w5 w,z,()) (.out 0 ((s':Int),(N0:Int),w5 w',z,())))∨
  (dD p m i w s=Y∧∃R s',eM F ((s:Int),(i:Int),w5 w,z,()) (.ret R (s',J,())))
 |0,i,w,s,f,A,r,t=>by
  refine .inl ⟨w,s,rfl,?_⟩;have:i=N0:=by omega
  subst this;refine .out (Ev.of_eq λn=>?_);rw[l];simp(disch:=omega)only[aS]<;>rfl
 |m+1,i,w,s,f,A,r,t=>by
  have G:=f.tl;have B:=f.len;have u:=d40 (at_:=(i:Int)) k f (by omega) (by omega);unfold dD;rcases M0 (at_:=(i:Int)) (z:=z) k _ (λn d=>rfl) 5002 w s f (by omega) (by omega) t (by omega)with⟨o,j,q,a,b⟩|⟨a,R,j,b⟩
  .rw[a];simp only;obtain⟨C,E,H,I⟩:=yI k _ w s o j f (by omega) (by omega) a;have v:Ev (λn=>F n ((s:Int),(i:Int),w5 w,z,())) (.next ((j:Int),((i+1:Nat):Int),w5 o,z,())):=by refine Ev.congr (λn=>(l n _).trans (jZ (by simp only[ak];omega) _ _)) ?_;refine Ev.ai u ?_;refine Ev.aQ b (λn c=>_) _ (Ev.of_eq λn=>?_);rw[dY];simp(disch:=omega)only[aS,bE,dU,dX]
   rcases Ir (N0:=N0) (z:=z) k F l m (i+1) o j C (by omega) (by rw[E];exact r) (by omega)with⟨w',s',x,y⟩|⟨x,R,s',y⟩
   .exact .inl ⟨w',s',x,.next v y⟩
   .exact .inr ⟨x,R,s',.next v y⟩
  .rw[a];refine .inr ⟨rfl,(R.1,R.2.1,()),j,.ret ?_⟩;refine Ev.congr (λn=>(l n _).trans (jZ (by simp only[ak];omega) _ _)) ?_;refine Ev.ai u ?_;refine Ev.aQ b (λn c=>_) _ (Ev.of_eq λn=>?_);rw[o3]
def e33(d:lY p)(e:fD p w)(hs:s<=5001) :
  (∃w' s',dD p w.aX.length 0 w s=Z (w',s')∧Ev (λn=>F33 n (p,w,(s:Int),())) ((w',(s':Int),W,()),()))∨
  (dD p w.aX.length 0 w s=Y∧∃w' s',Ev (λn=>F33 n (p,w,(s:Int),())) ((w',s',J,()),())):=by
 unfold F33;rcases Ir d (N0:=w.aX.length) (z:=([],[],[],[],0,())) _ (λn c=>rfl) w.aX.length 0 w s e (by omega) rfl hs with⟨w',s',a,b⟩|⟨a,R,s',b⟩
 .exact .inl ⟨w',s',a,Ev.aQ (F:=λn c=>_) b (λn c=>_) _ (Ev.of_eq λn=>rfl)⟩
 .exact .inr ⟨a,_,s',Ev.aQ (F:=λn c=>_) b (λn c=>_) _ (Ev.of_eq λn=>rfl)⟩
end
end
section
section
variable {n:Nat}{p:ax}{w:aa}{at_:Int}
theorem e49(l:L Int):F49 n (l,())=Z ((l,()),()):=rfl
theorem e90(l:L cS):F90 n (l,())=Z ((l,()),()):=rfl
theorem e92(k:Int):F92 n (k,())=Z ((k,()),()):=rfl
variable {i:Nat}{o:aE}
def Lf{α:Type}{l:L α}{d x:α}(h:i<l.length)(a:x=l.getD i d):l.set i x=l:=by subst a;rw[jq,fN h];exact List.set_getElem_self h
theorem anJ(v:au):au.mk v.Node v.Env v.bI=v:=rfl
def AS{l:L aq}(hl:l.length<=1000):Ev (λn=>tA n ((l,()),())) (.out 0 (l,(l.length:Int),())):=by
 unfold tA;refine Ev.iter (F:=λn c=>_) (jy (s:=λi=>(l,(i:Int),())) l.length 0 (λi a=>Ev.of_eq λn=>?_) (Ev.of_eq λn=>?_))
 .by_cases h5:(l.getD i az).Kind=5
  .simp (disch:=omega)only[aS,h5,e92,bE,dU,dX];rw[Lf a (by rw[<-h5])]
  .simp (disch:=omega)only[aS,h5,bE,dU,dX]<;>rfl
 .simp (disch:=omega)only[aS]<;>rfl
def M1{l:L au}{a b:Int}{vs:L aq}(hl:l.length<=1000)(hf:∀g∈l,g.Env.length<=1000∧g.bI.length<=1000)(F:Nat->Int×(Int×Int×L aq×L au×U)×U->O (LO (Int×(Int×Int×L aq×L au×U)×U) U ((Int×Int×L aq×L au×U)×U) Any))
  (c:∀n m,F n m=aj (D.bO m.1 (ak l)) (aD (av m.1 m.2.1.2.2.2.1) (aD (cz (ah m.1) m.2.1.2.2.2.1) (ai (F159 n ((w7 m).2,())) λo=>ai (tA n o) λp=>LO.el p (λ_ r=>RW n m r) (λ_ r=>RV n m r) λ_ _=>Y))) (Z (LO.out 0 m))) :
  eM F (0,(a,b,vs,l,()),()) (.out 0 ((l.length:Int),(a,b,vs,l,()),())):=by
 refine jy (s:=λi=>((i:Int),(a,b,vs,l,()),())) l.length 0 (λi d=>?_) (Ev.of_eq λn=>?_)
 .have e:=hf _ (bX aV d);refine Ev.congr (g:=λn=>ai (tA n (((l.getD i aV).Env,()),())) λp=>LO.el p (λ_ r=>RW n ((i:Int),(a,b,vs,l,()),()) r) (λ_ r=>RV n ((i:Int),(a,b,vs,l,()),()) r) λ_ _=>Y) (λn=>?_) ?_
  .rw[c];simp(disch:=omega)only[aS]<;>rfl
  .refine Ev.ai (AS e.1) ?_;refine Ev.congr (g:=λn=>ai (tA n (((l.getD i aV).bI,()),())) λt=>LO.el t (λ_ v=>X0 n ((i:Int),(a,b,vs,l,()),()) ((l.getD i aV).Env,((l.getD i aV).Env.length:Int),()) v) (λ_ v=>abY n ((i:Int),(a,b,vs,l,()),()) ((l.getD i aV).Env,((l.getD i aV).Env.length:Int),()) v) λ_ _=>Y) (λn=>rfl) ?_;refine Ev.ai (AS e.2) (Ev.of_eq λn=>?_);rw[dY];unfold X0 w7;simp(disch:=omega)only[aS,bE,dU,dX,anJ];rw[Lf d rfl]
 .rw[c];simp(disch:=omega)only[aS]<;>rfl
def gE.small(l:lY p){k:Nat}(h:gE p k o):o.bI.length<=1000∧o.Frames.length<=1000∧∀g∈o.Frames,g.Env.length<=1000∧g.bI.length<=1000:=by
 have j:∀{g:au},eF p k g->g.Env.length<=1000∧g.bI.length<=1000:=by intro g f;have h1:=f.vl;have i:=l.nd f.lo f.hi;have h2:=oq i;have h3:=zd l i;have:=f.el;omega
 cases h with
 | @data n m a b c d=>have:=(l.cons _ (bX bx (show n.toNat<p.Cons.length by omega))).2;exact⟨by simp only;omega,by simp,by simp⟩
 |func a b c d e=>exact⟨by simp only;omega,by simp,by simp⟩
 |cell a=>exact⟨by simp,by simp,by simp⟩
 |chan a b=>exact⟨by simp only;omega,by simp,by simp⟩
 |Av a b c=>exact⟨by simp,by simp only[eV];omega,λg f=>j (b g f).1⟩
 |uv a b c=>
  refine⟨by simp,by simp;omega,λg f=>?_⟩;rcases ef.1 f with f|f
  .exact j (b g f).1
  .rw[lg.1 f];exact j c
 |back a b c=>exact⟨by simp,by simp only;omega,λg f=>j (b g f).1⟩
 |done a=>exact⟨by simp,by simp,by simp⟩
 |dead a=>exact⟨by simp,by simp,by simp⟩
def take_succ{α:Type}{l:L α}(d:α)(h:i<l.length):l.take i++[l.getD i d]=l.take (i+1):=by rw[jq,fN h,QZ h];rfl
theorem anI(o:aE):aE.mk o.Form o.N o.bI o.Frames=o:=rfl
def e51(e:lY p)(c:fD p w):Ev (λn=>F51 n (rb p w,())) ((w,()),rb p w,()):=by
 have o:=c.len;have f:eM (λn g=>aj (D.bO g.1 (ak w.aY)) (aD (av g.1 w.aY) (ai (F159 n ((z4 (rb p w,()) g).3,())) λh=>ai (tA n h) λi=>LO.el i (λ_ k=>Kp n (rb p w,()) g k) (λ_ k=>PS n (rb p w,()) g k) λ_ _=>Y)) (Z (LO.out 0 g)))
   (0,([],w.aX,w.fe,w.kM,w.Used,()),()) (.out 0 ((w.aY.length:Int),(w.aY.take w.aY.length,w.aX,w.fe,w.kM,w.Used,()),())):=by
  refine jy (s:=λi=>((i:Int),(w.aY.take i,w.aX,w.fe,w.kM,w.Used,()),())) w.aY.length 0 (λi d=>?_) (Ev.of_eq λn=>?_)
  .have j:=(c.obs _ (bX aU d)).small e;obtain⟨h1,h2,h3⟩:=j;refine Ev.congr (g:=λn=>ai (tA n (((w.aY.getD i aU).bI,()),())) λk=>LO.el k (λ_ k=>Kp n (rb p w,()) ((i:Int),(w.aY.take i,w.aX,w.fe,w.kM,w.Used,()),()) k) (λ_ k=>PS n (rb p w,()) ((i:Int),(w.aY.take i,w.aX,w.fe,w.kM,w.Used,()),()) k) λ_ _=>Y) (λn=>?_) ?_
   .simp (disch:=omega)only[aS]<;>rfl
   .refine Ev.ai (AS h1) ?_;refine Ev.congr (λn=>dY ..) ?_;unfold Kp;have l:z4 (rb p w,()) ((i:Int),(w.aY.take i,w.aX,w.fe,w.kM,w.Used,()),())=w.aY.getD i aU:=rfl;simp only[l];refine Ev.ai (Ev.of_eq λn=>aaw (w.aY.getD i aU).Frames) ?_;refine Ev.aQ (M1 (a:=(w.aY.getD i aU).Form) (b:=(w.aY.getD i aU).N) (vs:=(w.aY.getD i aU).bI) h2 h3 _ (λn m=>rfl)) (λn m=>_) _ (Ev.of_eq λn=>?_);rw[dY];simp(disch:=first|omega|simp only[lq];omega)only[aS,bE,dU,dX,anI];rw[take_succ aU d]
  .simp (disch:=omega)only[aS]<;>rfl
 unfold F51;refine Ev.ai (Ev.of_eq λn=>e49 w.aX) (Ev.ai (Ev.of_eq λn=>e90 w.fe) (Ev.ai (Ev.of_eq λn=>e49 w.kM) ?_));refine Ev.aQ f (λn m=>_) _ (Ev.of_eq λn=>?_);rw[dY];simp only[Cn]
def qK{R B P:Type}(len:Nat)(hl:len<=1000000){F:Nat->Int×U->O (LO (Int×U) R B P)}(h:∀i,i<len->Ev (λn=>F n ((i:Int),())) (.next (((i+1:Nat):Int),())))(a:∀n,F n ((len:Int),())=Z (.out 0 ((len:Int),()))) :
  eM F (0,()) (.out 0 ((len:Int),())):=jy (s:=λi=>((i:Int),())) len 0 h (Ev.of_eq a)
def e26{l:L Int}(hl:l.length<=1000):Ev (λn=>F26 n (l,l,())) ((W,()),()):=by
 unfold F26;simp only[aS];refine Ev.aQ (F:=λn c=>_) (qK l.length (by omega) (λi a=>Ev.of_eq λn=>?_) λn=>?_) (λn c=>_) _ (Ev.of_eq λn=>rfl)
 .simp (disch:=omega)only[aS,bE,dU,dX]<;>rfl
 .simp (disch:=omega)only[aS]<;>rfl
def e27{l:L cS}(hl:l.length<=1000):Ev (λn=>F27 n (l,l,())) ((W,()),()):=by
 unfold F27;simp only[aS];refine Ev.aQ (F:=λn c=>_) (qK l.length (by omega) (λi a=>Ev.of_eq λn=>?_) λn=>?_) (λn c=>_) _ (Ev.of_eq λn=>rfl)
 .simp (disch:=omega)only[aS,Kb,A0,bE,dU,dX]<;>rfl
 .simp (disch:=omega)only[aS]<;>rfl
def e98{l:L aq}(hl:l.length<=1000):Ev (λn=>F98 n (l,l,())) ((W,()),()):=by
 unfold F98;simp only[aS];refine Ev.aQ (F:=λn c=>_) (qK l.length (by omega) (λi a=>Ev.of_eq λn=>?_) λn=>?_) (λn c=>_) _ (Ev.of_eq λn=>rfl)
 .simp (disch:=omega)only[aS,Kb,A0,bE,dU,dX]<;>rfl
 .simp (disch:=omega)only[aS]<;>rfl
def e57(h1:o.bI.length<=1000)(h2:o.Frames.length<=1000)(h3:∀g∈o.Frames,g.Env.length<=1000∧g.bI.length<=1000):Ev (λn=>F57 n (o,o,())) ((W,()),()):=by
 unfold F57;simp only[aS];refine Ev.ai (e98 h1) ?_;simp only[aS];refine Ev.aQ (F:=λn c=>_) (qK o.Frames.length (by omega) (λi b=>?_) λn=>?_) (λn c=>_) _ (Ev.of_eq λn=>rfl)
 .have a:=h3 _ (bX aV b);simp(disch:=omega)only[aS];refine Ev.ai (e98 a.1) ?_;simp only[aS];refine Ev.ai (e98 a.2) (Ev.of_eq λn=>?_);simp(disch:=omega)only[aS,bE,dU,dX]<;>rfl
 .simp (disch:=omega)only[aS]<;>rfl
def e19(d:lY p)(a:fD p w):Ev (λn=>F19 n (w,w,())) ((W,()),()):=by
 have e:=a.len;have f:=a.tl;have g:=a.outs;have b:=a.ins;unfold F19;simp only[aS];refine Ev.ai (e26 (by omega)) ?_;simp only[aS];refine Ev.ai (e27 (by omega)) ?_;simp only[aS];refine Ev.ai (e26 (by omega)) ?_;simp only[aS];refine Ev.aQ (F:=λn c=>_) (qK w.aY.length (by omega) (λi b=>?_) λn=>?_) (λn c=>_) _ (Ev.of_eq λn=>rfl)
 .obtain ⟨h1,h2,h3⟩:=(a.obs _ (bX aU b)).small d;simp(disch:=omega)only[aS];refine Ev.ai (e57 h1 h2 h3) (Ev.of_eq λn=>?_);simp(disch:=omega)only[aS,bE,dU,dX]<;>rfl
 .simp (disch:=omega)only[aS]<;>rfl
end
end
section
section
def Jq:∀q:aC,1<=pw q
 |⟨_,_,_,_⟩=>by unfold pw;omega
def yS:∀qs:L aC,qs.length<=qC qs
 |[]=>Cj _
 |q::qs=>by unfold qC;have:=yS qs;have:=Jq q;simp only[eV];omega
def jm(left:Int)(k:Nat):Int:=if left<0 then -1 else if(k:Int)<=left then left-k else -1
variable {left:Int}{k a:Nat}
def As(h:left<0):jm left k=-1:=bJ h
def mY(h:(k:Int)<=left):jm left k=left-k:=by unfold jm;rw[br (by omega),bJ h]
def mZ(h:left<(k:Int)):jm left k=-1:=by
 unfold jm;by_cases a:left<0
 .rw[bJ a]
 .rw[br a,br (by omega)]
def VW(c:1<=a)(h:0<=left):jm left a<=left-1∧-1<=jm left a:=by
 by_cases b:(a:Int)<=left
 .rw[mY b];omega
 .rw[mZ (by omega)];omega
def H6{b:Nat}:jm (jm left a) b=jm left (a+b):=by
 by_cases h:(a:Int)<=left
 .rw[mY h];by_cases c:(b:Int)<=left-a
  .rw[mY c,mY (by omega)];omega
  .rw[mZ (by omega),mZ (by omega)]
 .rw[mZ (left:=left) (k:=a) (by omega),As (by omega),mZ (by omega)]
def OH(h:-1<=left):jm left 0=left:=by
 by_cases a:left<0
 .rw[As a];omega
 .rw[mY (by omega)];omega
theorem XD(n k:Nat):R83 n (k+1)=B83 n (R83 n k):=rfl
def PK(q:aC):Prop:=∀left:Int,-1<=left->left<=1000->xd R83 (q,left,()) ((jm left (pw q),()),())
def Dj{P:Type}(d:Nat):∀(qs pre:L aC)(left:Int),-1<=left->(pre.length:Int)+left<=1000->(∀q∈qs,PK q)->
  ∀F:Nat->Int×Int×U->O (LO (Int×Int×U) (Int×U) U P),
  (∀n a,F n a=aj (D.bO a.2.1 (ak (pre++qs))) (aj (D.ep 0 a.1) (aD (av a.2.1 (pre++qs)) (ai (R83 n (n-d) (@aR aC (pre++qs) (ah a.2.1) aN,a.1,())) λe=>Z (LO.next (e.1.1,D.add .i64 a.2.1 1,())))) (Z (LO.out 0 a))) (Z (LO.out 0 a)))->
  ∃j,eM F (left,(pre.length:Int),()) (.out 0 (jm left (qC qs),j,()))
 |[],pre,left,h1,h2,c,F,b=>by refine⟨(pre.length:Int),.out (Ev.of_eq λn=>?_)⟩;rw[b];have e:jm left (qC [])=left:=OH h1;rw[e];simp(disch:=omega)only[aS,ij]<;>rfl
 |q::qs,pre,left,h1,h2,c,F,b=>by
  by_cases k:left<0
  .refine ⟨(pre.length:Int),.out (Ev.of_eq λn=>?_)⟩;rw[b];have e:jm left (qC (q::qs))=left:=by rw[As k];omega
   rw[e];simp(disch:=omega)only[aS]<;>rfl
  .have l:(pre++q::qs).getD pre.length aN=q:=eZ ..;have m:=Jq q;have o:=c q eD left h1 (by omega);have f:=VW (left:=left) m (by omega);obtain⟨j,i⟩:=Dj d qs (pre++[q]) (jm left (pw q)) f.2 (by simp;omega) (λp h=>c p (gO _ h)) F (λn e=>by rw[b];simp only[nk,yN]<;>rfl);have e:jm (jm left (pw q)) (qC qs)=jm left (qC (q::qs)):=H6;rw[e]at i;refine⟨j,.next (y:=((jm left (pw q)),((pre++[q]).length:Int),())) ?_ i⟩;obtain⟨N,r⟩:=o d;refine⟨N,λn g=>?_⟩;show F n _=_;rw[b];simp(disch:=first|omega|simp only[lq];omega)only[aS,l,bE,dU,dX,js];exact(lS (λx=>ai x _) (r n g)).trans rfl
def Uy:∀q:aC,PK q
 |⟨a,n0,text,parts⟩=>by
  intro left h1 h2;refine xd.step XD λd=>?_;by_cases h3:left<1
  .rw[mZ (by have:=Jq ⟨a,n0,text,parts⟩;omega)];refine Ev.of_eq λn=>?_;unfold B83;simp(disch:=omega)only[aS]<;>rfl
  .obtain ⟨j,f⟩:=Dj (P:=Any) d parts [] (left-1) (by omega) (by simp;omega) (Qs parts) _ (λn e=>rfl);have e:jm (left-1) (qC parts)=jm left (pw ⟨a,n0,text,parts⟩):=by rw[show left-1=jm left 1 from(mY (k:=1) (Int.not_lt.1 h3)).symm,H6];rfl
   rw[<-e];have i:∀n,B83 n (R83 n (n-d)) (⟨a,n0,text,parts⟩,left,())=ai (iter (λb=>aj (D.bO b.2.1 (ak parts)) (aj (D.ep 0 b.1) (aD (av b.2.1 parts) (ai (R83 n (n-d) (@aR aC parts (ah b.2.1) aN,b.1,())) λe=>Z (LO.next (e.1.1,D.add .i64 b.2.1 1,())))) (Z (LO.out 0 b))) (Z (LO.out 0 b))) n (left-1,0,())) λe=>LO.el (B:=U) (P:=Any) e (λ_ g=>Z ((g.1,()),())) (λ_ g=>Z (g,())) λ_ _=>Y:=by intro n;unfold B83;simp(disch:=omega)only[aS,cT]<;>rfl
   exact Ev.congr i (Ev.aQ f (λn e=>_) _ (Ev.of_eq λn=>rfl))
where
 Qs:∀c:L aC,∀q∈c,PK q
 |[],_,h=>by cases h
 |q::c,l,h=>by
  rcases eU.1 h with h|h
  .rw[h];exact Uy q
  .exact Qs c l h
def e83(q:aC)(h1:1<=left)(h2:left<=1000):Ev (λn=>F83 n (q,left,())) ((jm left (pw q),()),()):=by exact Uy q left (by omega) h2 0
mutual
def sp:aC->Bool
 |⟨_,_,text,parts⟩=>sps parts&&decide (text.length<=30)
def sps:L aC->Bool
 |[]=>W
 |q::a=>sp q&&sps a
end
def I0:∀{qs:L aC},sps qs=W↔∀q∈qs,sp q=W
 |[]=>by simp[sps]
 |q::qs=>by simp[sps,I0 (qs:=qs)]
theorem XC(n k:Nat):R84 n (k+1)=B84 n (R84 n k):=rfl
def short:∀q:aC,pw q<=1000->xd R84 (q,()) ((sp q,()),())
 |⟨b,n0,text,parts⟩,j=>by
  unfold pw at j;have u:=yS parts;have l:=UN parts (by omega);refine xd.step XC λd=>?_;unfold B84;have m:∀(i:Nat)(y:Int×U),(LO.ret () (J,()):LO (Int×U) (Bool×U) U Any)≠.next y:=λ_ _ h=>by cases h
  have step:∀i,i<parts.length->Ev (λn=>aj (D.bO (i:Int) (ak parts)) (aD (av (i:Int) parts) (ai (R84 n (n-d) (@aR aC parts (ah (i:Int)) aN,())) λe=>aj (D.aK e.1.1) (Z (LO.ret () (J,()))) (Z (LO.next (D.add .i64 (i:Int) 1,()))))) (Z (LO.out 0 ((i:Int),())))) (bif sp (parts.getD i aN)then .next (((i+1:Nat):Int),())else(LO.ret () (J,()):LO (Int×U) (Bool×U) U Any)):=by intro i c;obtain⟨N,o⟩:=l _ (bX aN c) d;refine⟨N,λn p=>?_⟩;show TL.aj _ _ _=_;simp(disch:=omega)only[aS,bE,dU,dX,js];refine(lS (λx=>ai x _) (o n p)).trans ?_;cases k:sp (parts.getD i aN)<;>rfl
  rcases og (F:=λn f=>aj (D.bO f.1 (ak parts)) (aD (av f.1 parts) (ai (R84 n (n-d) (@aR aC parts (ah f.1) aN,())) λe=>aj (D.aK e.1.1) (Z (LO.ret () (J,()))) (Z (LO.next (D.add .i64 f.1 1,()))))) (Z (LO.out 0 f)))
   parts.length (λi=>((i:Int),())) (λi=>sp (parts.getD i aN)) (λ_=>(LO.ret () (J,()):LO (Int×U) (Bool×U) U Any)) 0 m (λi c _=>step i c) (λ_=>Ev.of_eq λn=>by simp(disch:=omega)only[aS]<;>rfl)with⟨a,r⟩|⟨i,c,a,_,r⟩
  .have e:sp ⟨b,n0,text,parts⟩=decide (text.length<=30):=by unfold sp;rw[I0.2 λq j=>?_,dQ];obtain⟨i,c,rfl⟩:=tF j;have:=a i c;rwa [jq,fN c]at this
   rw[e];refine Ev.aQ r (λn e=>_) _ (Ev.of_eq λn=>?_);show Z ((D.ep (ak text) 30,()),())=_;simp only[D.ep,ak]
   congr 3
   exact decide_eq_decide.2 (by omega)
  .have e:sp ⟨b,n0,text,parts⟩=J:=by unfold sp;cases k:sps parts with|false=>rfl|true=>rw[I0.1 k _ (bX aN c)]at a;cases a
   rw[e];exact Ev.aQ r (λn e=>_) _ (Ev.of_eq λn=>rfl)
where
 UN:∀g:L aC,qC g<=1000->∀q∈g,xd R84 (q,()) ((sp q,()),())
 |[],_,_,h=>by cases h
 |q::g,s,t,h=>by
  unfold qC at s;rcases eU.1 h with h|h
  .rw[h];exact short q (by omega)
  .exact UN g (by omega) t h
def Ae(q:aC):Bool:=decide (pw q<=16)&&sp q
def ahE(q:aC):aC.mk q.1 q.2 q.3 q.4=q:=by cases q;rfl
def e44(q:aC):Ev (λn=>F44 n (q,())) ((Ae q,()),()):=by
 unfold F44;simp only[ahE];refine Ev.ai (e83 q (by omega) (by omega)) ?_;unfold Ae;by_cases h:pw q<=16
 .have a:((pw q:Nat):Int)<=16:=by omega
  rw[mY a,fP h,dQ];simp(disch:=omega)only[aS];exact Ev.ai (short q (by omega) 0) (Ev.pure _)
 .have a:¬((pw q:Nat):Int)<=16:=by omega
  rw[mZ (by omega),gu h,fO];exact Ev.of_eq λn=>by simp(disch:=omega)only[aS]<;>rfl
end
end
section
def eJ{R B P:Type}(len:Nat)(q:Nat->Bool)(bad:Nat->LO (Int×U) R B P){F:Nat->Int×U->O (LO (Int×U) R B P)}(c:∀i y,bad i≠.next y)
  (h:∀i,i<len->Ev (λn=>F n ((i:Int),())) (bif q i then .next (((i+1:Nat):Int),())else bad i)) (d:∀n,F n ((len:Int),())=Z (.out 0 ((len:Int),()))) :
  ((∀i,i<len->q i=W)∧eM F (0,()) (.out 0 ((len:Int),())))∨∃i,i<len∧q i=J∧eM F (0,()) (bad i):=by
 rcases og len (λi=>((i:Int),())) q bad 0 c (λi b _=>h i b) (λ_=>Ev.of_eq d)with⟨a,r⟩|⟨i,b,a,_,r⟩
 .exact .inl ⟨a,r⟩
 .exact .inr ⟨i,b,a,r⟩
structure Small(p:ax):Prop where
 nodes:p.aW.length<=320
 xO:p.dA.length<=320
 cons:p.Cons.length<=25
 names:∀c∈p.Cons,c.Name.length<=40
 Yv:∀nd∈p.aW,nd.Kids.length<=10∧nd.cA.length<=10∧∀q∈nd.cA,pw q<=16
def gY{α:Type}{l:L α}{d:α}{Q:α->Prop}(h:∀i,i<l.length->Q (l.getD i d)):∀a∈l,Q a:=by intro a c;obtain⟨i,b,rfl⟩:=tF c;have:=h i b;rwa [jq,fN b]at this
def lG(nd:bp):Bool:=(decide (nd.Kids.length<=10)&&decide (nd.cA.length<=10))&&nd.cA.all Ae
def rF{α:Type}{l:L α}{d:α}{q:α->Bool}(h:∀i,i<l.length->q (l.getD i d)=W):l.all q=W:=eC.2 (gY (d:=d) h)
def jP{α:Type}{l:L α}{d:α}{q:α->Bool}{i:Nat}(a:i<l.length)(h:q (l.getD i d)=J):l.all q=J:=by cases b:l.all q with|false=>rfl|true=>rw[eC.1 b _ (bX d a)]at h;cases h
abbrev G12(p:ax)(n:Nat)(g:Int×U):O (LO (Int×U) (Bool×U) U Any):=
 aj (D.bO g.1 (p.aW.length:Int)) (aD (av g.1 p.aW) (aj (D.bO 10 ((p.aW.getD g.1.toNat aP).Kids.length:Int)) (Z (LO.ret () (J,()))) (aj (D.bO 10 ((p.aW.getD g.1.toNat aP).cA.length:Int)) (Z (LO.ret () (J,()))) (ai (iter (λh:Int×U=>aj (D.bO h.1 ((p.aW.getD g.1.toNat aP).cA.length:Int)) (aD (av h.1 (p.aW.getD g.1.toNat aP).cA) (ai (F44 n ((p.aW.getD g.1.toNat aP).cA.getD h.1.toNat aN,())) λi=>aj i.1.1 (Z (LO.next (D.add .i64 h.1 1,()))) (Z (LO.ret (B:=U) (P:=Any) () (J,()))))) (Z (LO.out 0 h))) n (0,())) λh=>LO.el h (λ_ _=>Z (LO.next (D.add .i64 g.1 1,()))) (λ_ j=>Z (LO.ret () j)) λ_ _=>Y)))) (Z (LO.out 0 g))
def e12(p:ax):∃b,Ev (λn=>F12 n (p,())) ((b,()),())∧(b=W->Small p):=by
 unfold F12;by_cases h1:320<p.aW.length
 .exact ⟨J,Ev.of_eq λn=>by simp(disch:=omega)only[aS]<;>rfl,λh=>by cases h⟩
 by_cases h2:320<p.dA.length
 .exact ⟨J,Ev.of_eq λn=>by simp(disch:=omega)only[aS]<;>rfl,λh=>by cases h⟩
 by_cases h3:25<p.Cons.length
 .exact ⟨J,Ev.of_eq λn=>by simp(disch:=omega)only[aS]<;>rfl,λh=>by cases h⟩
 simp(disch:=omega)only[aS];have k:∀{P:Type}(i:Nat)(y:Int×U),(LO.ret () (J,()):LO (Int×U) (Bool×U) U P)≠.next y:=λ_ _ h=>by cases h
 rcases eJ p.Cons.length (λi=>decide ((p.Cons.getD i bx).Name.length<=40)) (λ_=>(LO.ret () (J,()):LO (Int×U) (Bool×U) U Any)) (F:=λn c=>aj (D.bO c.1 (p.Cons.length:Int)) (aD (av c.1 p.Cons) (aj (D.bO 40 ((p.Cons.getD c.1.toNat bx).Name.length:Int)) (Z (LO.ret () (J,()))) (Z (LO.next (D.add .i64 c.1 1,()))))) (Z (LO.out 0 c))) k
  (λi e=>Ev.of_eq λn=>by
   by_cases l:(p.Cons.getD i bx).Name.length<=40
   .simp (disch:=omega)only[aS,fP l,bE,dU,dX]
   .simp (disch:=omega)only[aS,gu l]) (λn=>by simp(disch:=omega)only[aS])with⟨a,r⟩|⟨i,e,a,r⟩
 .have step:∀g:Nat,g<p.aW.length->Ev (λn=>G12 p n ((g:Int),())) (bif lG (p.aW.getD g aP)then .next (((g+1:Nat):Int),())else(LO.ret () (J,()):LO (Int×U) (Bool×U) U Any)):=by
   intro g t;by_cases m:10<(p.aW.getD g aP).Kids.length
   .rw[show lG (p.aW.getD g aP)=J by simp only[lG,gu (yO.2 m),fO]];exact Ev.of_eq λn=>by simp(disch:=omega)only[aS]
   by_cases o:10<(p.aW.getD g aP).cA.length
   .rw[show lG (p.aW.getD g aP)=J by simp only[lG,gu (yO.2 o),Cm,fO]];exact Ev.of_eq λn=>by simp(disch:=omega)only[aS]
   rcases eJ (p.aW.getD g aP).cA.length (λi=>Ae ((p.aW.getD g aP).cA.getD i aN)) (λ_=>(LO.ret () (J,()):LO (Int×U) (Bool×U) U Any)) (F:=λn h=>aj (D.bO h.1 ((p.aW.getD g aP).cA.length:Int)) (aD (av h.1 (p.aW.getD g aP).cA) (ai (F44 n ((p.aW.getD g aP).cA.getD h.1.toNat aN,())) λi=>aj i.1.1 (Z (LO.next (D.add .i64 h.1 1,()))) (Z (LO.ret () (J,()))))) (Z (LO.out 0 h))) k
    (λi e=>by
     simp(disch:=omega)only[aS];refine Ev.ai (e44 _) (Ev.of_eq λn=>?_);cases Ae ((p.aW.getD g aP).cA.getD i aN)<;>simp(disch:=omega)only[aS,bE,dU,dX]) (λn=>by simp(disch:=omega)only[aS])with⟨j,f⟩|⟨i,e,j,f⟩
   .rw[show lG (p.aW.getD g aP)=W by simp only[lG,fP (BA.1 m),fP (BA.1 o),rF j,rU]];simp(disch:=omega)only[aS];refine Ev.aQ f (λn c=>_) _ (Ev.of_eq λn=>?_);rw[dY];simp(disch:=omega)only[aS,bE,dU,dX]
   .rw[show lG (p.aW.getD g aP)=J by simp only[lG,jP e j,Cm]];simp(disch:=omega)only[aS];exact Ev.aQ f (λn c=>_) _ (Ev.of_eq λn=>rfl)
  rcases eJ p.aW.length (λg=>lG (p.aW.getD g aP)) (λ_=>(LO.ret () (J,()):LO (Int×U) (Bool×U) U Any)) (F:=λn g=>G12 p n g) k step (λn=>by simp(disch:=omega)only[aS])with⟨j,f⟩|⟨i,e,j,f⟩
  .refine ⟨W,Ev.aQ r (λn c=>_) _ ?_,λ_=>⟨by omega,by omega,by omega,gY (d:=bx) λi e=>Co (a i e),gY (d:=aP) λi e=>?_⟩⟩
   .refine Ev.congr (λn=>dY ..) ?_;exact Ev.aQ f (λn c=>_) _ (Ev.of_eq λn=>rfl)
   .have:=j i e;simp only[lG,ec,jL,eC,Ae]at this;exact⟨this.1.1,this.1.2,λq s=>(this.2 q s).1⟩
  .refine ⟨J,Ev.aQ r (λn c=>_) _ ?_,λh=>by cases h⟩;refine Ev.congr (λn=>dY ..) ?_;exact Ev.aQ f (λn c=>_) _ (Ev.of_eq λn=>rfl)
 .exact ⟨J,Ev.aQ r (λn c=>_) _ (Ev.of_eq λn=>rfl),λh=>by cases h⟩
end
section
section
theorem Uc(n k:Nat):R202 n (k+1)=B202 n (R202 n k):=rfl
def aeI(k:Nat)(a r:Int):Prop:=((k:Int)<=a->r=k)∧(a<k->a<r)∧1<=r∧r<=k
def XA(q:aC):Prop:=∀a:Int,0<=a->a<=1000->∃r,xd R202 (q,a,()) ((r,()),())∧aeI (pw q) a r
def Hp{R B P:Type}{a:Int}(m:0<=a)(f:a<=1000):∀(qs pre:L aC)(s:Int),1<=s->s+qC qs<=1000->pre.length+qs.length<=1000->(∀q∈qs,XA q)->
  ∃r j,((s+qC qs<=a->r=s+qC qs)∧(a<s+qC qs->a<r)∧s<=r∧r<=s+qC qs)∧∀(d:Nat)(F:Nat->Int×Int×U->O (LO (Int×Int×U) R B P)),
  (∀n b,F n b=aj (D.bO b.2.1 (ak (pre++qs))) (aD (av b.2.1 (pre++qs)) (aj (D.bO a b.1) (Z (LO.out 0 b)) (ai (R202 n (n-d) (aC.mk (@aR aC (pre++qs) (ah b.2.1) aN).1 (@aR aC (pre++qs) (ah b.2.1) aN).2 (@aR aC (pre++qs) (ah b.2.1) aN).3 (@aR aC (pre++qs) (ah b.2.1) aN).4,D.dH .i64 a b.1,())) λe=>Z (LO.next (D.add .i64 b.1 e.1.1,D.add .i64 b.2.1 1,()))))) (Z (LO.out 0 b)))->
  eM F (s,(pre.length:Int),()) (.out 0 (r,j,()))
 |[],pre,s,h1,h2,h3,g=>by refine⟨s,(pre.length:Int),by simp[qC],λd F c=>.out (Ev.of_eq λn=>?_)⟩;rw[c];simp(disch:=omega)only[aS,ij]<;>rfl
 |q::qs,pre,s,h1,h2,h3,g=>by
  have w:=Jq q;have o:qC (q::qs)=pw q+qC qs:=rfl;rw[o]at h2 ⊢;simp only[eV]at h3;by_cases z:a<s
  .refine ⟨s,(pre.length:Int),⟨by omega,by omega,by omega,by omega⟩,λd F c=>.out (Ev.of_eq λn=>?_)⟩;rw[c];simp(disch:=first|omega|simp only[lq];omega)only[aS]<;>rfl
  .have p:(pre++q::qs).getD pre.length aN=q:=eZ ..;obtain⟨i,k,A,C,E,G⟩:=g q eD (a-s) (by omega) (by omega);obtain⟨r,j,⟨a1,a2,a3,H⟩,t⟩:=Hp (R:=R) (B:=B) (P:=P) m f qs (pre++[q]) (s+i) (by omega) (by omega) (by simp;omega) (λu h=>g u (gO _ h));refine⟨r,j,⟨by omega,by omega,by omega,by omega⟩,λd F c=>?_⟩;refine .next (y:=(s+i,((pre++[q]).length:Int),())) ?_ (t d F λn e=>by rw[c];simp only[nk,yN]<;>rfl)
   obtain⟨N,v⟩:=k d;refine⟨N,λn l=>?_⟩;show F n _=_;rw[c];simp(disch:=first|omega|simp only[lq];omega)only[aS,p,TG,cT,bE,dU,dX,js];refine(lS (λx=>ai x _) (v n l)).trans ?_;show Z (LO.next (D.add .i64 s i,_,()))=_;rw[bE (by omega) (by omega)]
def sizes:∀q:aC,pw q<=1000->XA q
 |⟨c,n0,text,parts⟩,g=>by intro f i b;unfold pw at g ⊢;have o:=yS parts;obtain⟨r,j,⟨a1,a2,a3,p⟩,k⟩:=Hp (R:=Int×U) (B:=U) (P:=Any) i b parts [] 1 (by omega) (by omega) (by simp;omega) (UM parts (by omega));refine⟨r,xd.step Uc λd=>?_,by omega,by omega,by omega,by omega⟩;unfold B202;exact Ev.aQ (F:=λn e=>_) (k d _ λn e=>rfl) (λn e=>_) _ (Ev.of_eq λn=>rfl)
where
 UM:∀a:L aC,qC a<=1000->∀q∈a,XA q
 |[],_,_,h=>by cases h
 |q::a,l,m,h=>by
  unfold qC at l;rcases eU.1 h with h|h
  .rw[h];exact sizes q (by omega)
  .exact UM a (by omega) m h
def SP(cons:L cB)(a n:Int)(k:Nat):Bool:=
 if a=1∨a=2∨a=5 then decide (n=0)&&decide (k=0)
 else if a=3 then gN n&&decide (k=0)
 else if a=4 then decide (0<=n∧n<=1)&&decide (k=0)
 else if a=6 then decide (0<=n∧n<cons.length)&&decide ((k:Int)=(cons.getD n.toNat bx).pG)
 else J
mutual
def nO(cons:L cB):aC->Bool
 |⟨a,n,text,parts⟩=>(decide (text=[])&&qS cons parts)&&SP cons a n parts.length
def qS(cons:L cB):L aC->Bool
 |[]=>W
 |q::a=>nO cons q&&qS cons a
end
def An{cons:L cB}:∀{qs:L aC},qS cons qs=W↔∀q∈qs,nO cons q=W
 |[]=>by simp[qS]
 |q::qs=>by simp[qS,An (qs:=qs)]
variable {cons:List cB}{n:Nat}
def DX:∀q:aC,nO cons q=W->pf q=W
 |⟨a,n,text,parts⟩,h=>by
  unfold nO at h;simp only[ec]at h;unfold pf;have c:=go parts h.1.2;have:1<=a∧a<=6:=by
   have h2:=h.2;unfold SP at h2;by_cases d:a=1∨a=2∨a=5
   .omega
   .rw[br d]at h2;by_cases e:a=3
    .omega
    .rw[br e]at h2;by_cases f:a=4
     .omega
     .rw[br f]at h2;by_cases g:a=6
      .omega
      .rw[br g]at h2;cases h2
  simp only[c,fP this.1,fP this.2,rU]
where
 go:∀b:L aC,qS cons b=W->pfs b=W
 |[],_=>rfl
 |q::b,h=>by unfold qS at h;simp only[ec]at h;unfold pfs;rw[DX q h.1,go b h.2];rfl
def wj(a lo b:Int):F146 n (a,lo,b,())=Z ((decide (lo<=a∧a<=b),()),()):=by
 unfold F146;by_cases h1:lo<=a
 .simp (disch:=omega)only[aS];simp[D.ep,h1]
 .simp (disch:=omega)only[aS];simp[h1]
def GM(a lo b:Int):F52 n (a,lo,b,())=Z ((decide (lo<=a∧a<=b),()),()):=wj (n:=n) a lo b
def ahM(a:Int):F259 n (a,())=Z ((gN a,()),()):=by unfold F259;rw[wj];simp only[aS,gN,Bool.decide_and]
theorem Ub(n k:Nat):R203 n (k+1)=B203 n (R203 n k):=rfl
def kg(l:L UInt8):gn l []=decide (l=[]):=by cases l<;>rfl
def aeg{f:_}{p:ax}(o:p.Cons.length<=1000){a n0:Int}{text:L UInt8}{parts:L aC}(hl:parts.length<=1000) :
  Bq n f (⟨p⟩,⟨a,n0,text,parts⟩,())=Z ((SP p.Cons a n0 parts.length,()),()):=by
 unfold Bq Qn pF SP;have e:(D.aG (parts.length:Int) 0)=decide (parts.length=0):=by by_cases h:parts.length=0<;>simp[D.aG,h]
 have g:(D.aG n0 0)=decide (n0=0):=by by_cases h:n0=0<;>simp[D.aG,h]
 have d:∀b:Bool,aj b (Z ((decide (parts.length=0),()),())) (Z ((J,()),()))=(Z ((b&&decide (parts.length=0),()),()):O ((Bool×U)×U)):=λb=>by cases b<;>rfl
 by_cases i:a=1∨a=2∨a=5
 .rw[bJ i];rcases i with c|c|c<;>subst c<;>simp(disch:=omega)only[aS,bH,e,g,d]
 .rw[br i];by_cases j:a=3
  .rw[bJ j];subst j;simp(disch:=omega)only[aS,bH,ahM,e,d]
  .rw[br j];by_cases k:a=4
   .rw[bJ k];subst k;simp(disch:=omega)only[aS,bH,wj,e,d]
   .rw[br k];by_cases l:a=6
    .rw[bJ l];subst l;by_cases m:0<=n0∧n0<p.Cons.length
     .rw[fP m,dQ];simp(disch:=omega)only[aS,bH,wj,cT,fP (show 0<=n0∧n0<=(p.Cons.length:Int)-1 by omega)];rw[show D.aG (parts.length:Int) (p.Cons.getD n0.toNat bx).pG=decide ((parts.length:Int)=(p.Cons.getD n0.toNat bx).pG)by simp only[D.aG];exact(Bool.beq_eq_decide_eq ..)]
     .rw[gu m,fO];simp(disch:=omega)only[aS,bH,wj,cT,gu (show ¬(0<=n0∧n0<=(p.Cons.length:Int)-1)by omega)]
    .rw[br l];simp(disch:=omega)only[aS,bH]
end
end
section
section
variable {p:ax}
def Vu(j:p.Cons.length<=1000):∀q:aC,pw q<=1000->xd R203 (⟨p⟩,q,()) ((nO p.Cons q,()),())
 |⟨b,n0,text,parts⟩,s=>by
  unfold pw at s;have A:=yS parts;have t:=Vt parts (by omega);refine xd.step Ub λd=>?_;by_cases k:text=[]
  .subst k;have u:∀(i:Nat)(y:Int×U),(LO.ret () ((i:Int),()):LO (Int×U) (Int×U) U Any)≠.next y:=λ_ _ h=>by cases h
   have step:∀i,i<parts.length->Ev (λn=>aj (D.bO (i:Int) (ak parts)) (aD (av (i:Int) parts) (ai (R203 n (n-d) (⟨p⟩,aC.mk (@aR aC parts (ah (i:Int)) aN).1 (@aR aC parts (ah (i:Int)) aN).2 (@aR aC parts (ah (i:Int)) aN).3 (@aR aC parts (ah (i:Int)) aN).4,())) λe=>aj (D.aK e.1.1) (Z (LO.ret () ((i:Int),()))) (Z (LO.next (D.add .i64 (i:Int) 1,()))))) (Z (LO.out 0 ((i:Int),())))) (bif nO p.Cons (parts.getD i aN)then .next (((i+1:Nat):Int),())else(LO.ret () ((i:Int),()):LO (Int×U) (Int×U) U Any)):=by intro i l;obtain⟨N,v⟩:=t _ (bX aN l) d;refine⟨N,λn w=>?_⟩;show TL.aj _ _ _=_;simp(disch:=omega)only[aS,TG,bE,dU,dX,js];refine(lS (λx=>ai x _) (v n w)).trans ?_;cases j:nO p.Cons (parts.getD i aN)<;>rfl
   have o:∀n,B203 n (R203 n (n-d)) (⟨p⟩,⟨b,n0,[],parts⟩,())=ai (iter (λc=>aj (D.bO c.1 (ak parts)) (aD (av c.1 parts) (ai (R203 n (n-d) (⟨p⟩,aC.mk (@aR aC parts (ah c.1) aN).1 (@aR aC parts (ah c.1) aN).2 (@aR aC parts (ah c.1) aN).3 (@aR aC parts (ah c.1) aN).4,())) λe=>aj (D.aK e.1.1) (Z (LO.ret () c)) (Z (LO.next (D.add .i64 c.1 1,()))))) (Z (LO.out 0 c))) n (0,())) λc=>LO.el (X:=Int×U) (R:=Int×U) (B:=U) (P:=Any) c (λ_ _=>aj (D.aK (D.aK J)) (pF n (R203 n (n-d))) (Bq n (R203 n (n-d)) (⟨p⟩,⟨b,n0,[],parts⟩,()))) (λ_ g=>aj (D.aK (D.aK (D.ep 0 g.1))) (pF n (R203 n (n-d))) (Bq n (R203 n (n-d)) (⟨p⟩,⟨b,n0,[],parts⟩,()))) λ_ _=>Y:=λn=>rfl;rcases eJ (F:=λn c=>aj (D.bO c.1 (ak parts)) (aD (av c.1 parts) (ai (R203 n (n-d) (⟨p⟩,aC.mk (@aR aC parts (ah c.1) aN).1 (@aR aC parts (ah c.1) aN).2 (@aR aC parts (ah c.1) aN).3 (@aR aC parts (ah c.1) aN).4,())) λe=>aj (D.aK e.1.1) (Z (LO.ret () c)) (Z (LO.next (D.add .i64 c.1 1,()))))) (Z (LO.out 0 c)))
    parts.length (λi=>nO p.Cons (parts.getD i aN)) (λi=>(LO.ret () ((i:Int),()):LO (Int×U) (Int×U) U Any)) u step (λn=>by simp(disch:=omega)only[aS]<;>rfl)with⟨a,r⟩|⟨i,l,a,r⟩
   .have e:nO p.Cons ⟨b,n0,[],parts⟩=SP p.Cons b n0 parts.length:=by unfold nO;rw[An.2 (gY (d:=aN) a)];rfl
    rw[e];refine Ev.congr o (Ev.aQ r (λn e=>_) _ (Ev.of_eq λn=>?_));rw[dY];exact aeg j (by omega)
   .have e:nO p.Cons ⟨b,n0,[],parts⟩=J:=by unfold nO;cases m:qS p.Cons parts with|false=>rfl|true=>rw[An.1 m _ (bX aN l)]at a;cases a
    rw[e];refine Ev.congr o (Ev.aQ r (λn e=>_) _ (Ev.of_eq λn=>?_));rw[o3];simp(disch:=omega)only[aS]<;>rfl
  .have e:nO p.Cons ⟨b,n0,text,parts⟩=J:=by unfold nO;rw[gu k];rfl
   rw[e];refine Ev.of_eq λn=>?_;unfold B203 pF;simp only[aS,kg,gu k]<;>rfl
where
 Vt:∀f:L aC,qC f<=1000->∀q∈f,xd R203 (⟨p⟩,q,()) ((nO p.Cons q,()),())
 |[],_,_,h=>by cases h
 |q::f,m,z,h=>by
  unfold qC at m;rcases eU.1 h with h|h
  .rw[h];exact Vu j q (by omega)
  .exact Vt f (by omega) z h
theorem XB(n k:Nat):R95 n (k+1)=B95 n (R95 n k):=rfl
def XF(cons:L cB)(q:aC):Prop:=xd R95 (q,cons,()) ((nO cons q,()),())
def UT{R B P:Type}{cons:L cB}(d:Nat):∀(qs pre:L aC)(b:Bool),pre.length+qs.length<=1000->(∀q∈qs,XF cons q)->
  ∀(F:Nat->Bool×Int×U->O (LO (Bool×Int×U) R B P)),
  (∀n i,F n i=aj (D.bO i.2.1 (ak (pre++qs))) (aj i.1 (aD (av i.2.1 (pre++qs)) (ai (R95 n (n-d) (@aR aC (pre++qs) (ah i.2.1) aN,cons,())) λj=>Z (LO.next (j.1.1,D.add .i64 i.2.1 1,())))) (Z (LO.out 0 i))) (Z (LO.out 0 i)))->
  ∃j,eM F (b,(pre.length:Int),()) (.out 0 (b&&qS cons qs,j,()))
 |[],pre,b,h3,c,F,a=>by refine⟨(pre.length:Int),.out (Ev.of_eq λn=>?_)⟩;rw[a];simp(disch:=omega)only[aS,ij,qS,rU]<;>rfl
 |q::qs,pre,b,h3,c,F,a=>by simp only[eV]at h3;cases b with|false=>refine⟨(pre.length:Int),.out (Ev.of_eq λn=>?_)⟩;rw[a];simp(disch:=omega)only[aS,fO]<;>rfl|true=>have g:(pre++q::qs).getD pre.length aN=q:=eZ ..;obtain⟨j,k⟩:=UT d qs (pre++[q]) (nO cons q) (by simp;omega) (λl h=>c l (gO _ h)) F (λn e=>by rw[a];simp only[nk,yN]<;>rfl);refine⟨j,.next (y:=(nO cons q,((pre++[q]).length:Int),())) ?_ (by unfold qS;rw[dQ];exact k)⟩;obtain⟨N,m⟩:=c q eD d;refine⟨N,λn f=>?_⟩;show F n _=_;rw[a];simp(disch:=first|omega|simp only[lq];omega)only[aS,g,bE,dU,dX,js];exact(lS (λx=>ai x _) (m n f)).trans rfl
variable {cons:List cB}
def abg(s:cons.length<=1000):∀q:aC,pw q<=1000->XF cons q
 |⟨a,n0,text,parts⟩,t=>by
  unfold pw at t;have x:=yS parts;have u:=Vt parts (by omega);refine xd.step XB λd=>?_;have run:∀b:Bool,Ev (λn=>ai (iter (NU n (R95 n (n-d)) (⟨a,n0,text,parts⟩,cons,())) n (b,0,())) (NT n (R95 n (n-d)))) ((b&&qS cons parts,()),()):=by intro b;obtain⟨j,k⟩:=UT (cons:=cons) d parts [] b (by simp;omega) u _ (λn e=>rfl);exact Ev.aQ (F:=λn c=>_) k (λn e=>_) _ (Ev.of_eq λn=>rfl)
  have f:∀b:Bool,Ev (λn=>aj b (ai (iter (NU n (R95 n (n-d)) (⟨a,n0,text,parts⟩,cons,())) n (decide (text=[]),0,())) (NT n (R95 n (n-d)))) (ai (iter (NU n (R95 n (n-d)) (⟨a,n0,text,parts⟩,cons,())) n (J,0,())) (NT n (R95 n (n-d))))) (((decide (text=[])&&qS cons parts)&&b,()),()):=by intro b;cases b with|true=>rw[rU];exact run _|false=>rw[Cm];exact run J
  unfold nO SP;have i:(D.aG n0 0)=decide (n0=0):=by by_cases h:n0=0<;>simp[D.aG,h]
  unfold B95;by_cases l:a=1∨a=2∨a=5
  .rw[bJ l];by_cases g:parts.length=0
   .rw[fP g,rU];rcases l with c|c|c<;>subst c<;>simp(disch:=omega)only[aS,bH,i,kg]<;>exact f _
   .rw[gu g,Cm];rcases l with c|c|c<;>subst c<;>simp(disch:=omega)only[aS,bH,i,kg]<;>exact f J
  .rw[br l];by_cases o:a=3
   .rw[bJ o];subst o;by_cases g:parts.length=0
    .rw[fP g,rU];simp(disch:=omega)only[aS,bH,GM,kg];have:=f (gN n0);simp only[gN,Bool.decide_and]at this ⊢;exact this
    .rw[gu g,Cm];simp(disch:=omega)only[aS,bH,kg];exact f J
   .rw[br o];by_cases p:a=4
    .rw[bJ p];subst p;by_cases g:parts.length=0
     .rw[fP g,rU];simp(disch:=omega)only[aS,bH,GM,kg];exact f _
     .rw[gu g,Cm];simp(disch:=omega)only[aS,bH,kg];exact f J
    .rw[br p];by_cases r:a=6
     .rw[bJ r];subst r;by_cases k:0<=n0∧n0<cons.length
      .rw[fP k,dQ];simp(disch:=omega)only[aS,bH,GM,cT,fP (show 0<=n0∧n0<=(cons.length:Int)-1 by omega),kg];rw[show D.aG (parts.length:Int) (cons.getD n0.toNat bx).pG=decide ((parts.length:Int)=(cons.getD n0.toNat bx).pG)by simp only[D.aG];exact(Bool.beq_eq_decide_eq ..)];exact f _
      .rw[gu k,fO];simp(disch:=omega)only[aS,bH,GM,cT,gu (show ¬(0<=n0∧n0<=(cons.length:Int)-1)by omega),kg];exact f J
     .rw[br r];simp(disch:=omega)only[aS,bH,kg];exact f J
where
 Vt:∀m:L aC,qC m<=1000->∀q∈m,XF cons q
 |[],_,_,h=>by cases h
 |q::m,v,w,h=>by
  unfold qC at v;rcases eU.1 h with h|h
  .rw[h];exact abg s q (by omega)
  .exact Vt m (by omega) w h
end
end
section
section
variable {p:ax}{nd:bp}
def OJ(op:Int):cN:=if op=15 then .a0 ⟨⟩else if op=14 then .a2 ⟨⟩else if 1<=op∧op<=28 then .a1 (rj.getD op.toNat 0:Nat)else .none
variable {n:Nat}
def anZ(op:Int):F200 n (op,())=Z ((OJ op,()),()):=by
 by_cases h:1<=op∧op<=28
 .obtain ⟨k,rfl⟩:∃k:Nat,op=k:=⟨_,(Al (by omega)).symm⟩;have a:k<=28:=by omega
  match k,a with
  |0,_=>omega
  |1,_|2,_|3,_|4,_|5,_|6,_|7,_|8,_|9,_|10,_|11,_|12,_|13,_|14,_|15,_|16,_|17,_|18,_|19,_|20,_|21,_|22,_|23,_|24,_|25,_|26,_|27,_|28,_=>rfl
  |k+29,h=>omega
 .unfold F200 Be uY uX OJ;rw[br (by omega),br (by omega),br h];simp(disch:=omega)only[aS,bH]
def Cp(p:ax)(nd:bp):Bool:=
 if nd.Op=1 then gN nd.N else if nd.Op=2 then decide (0<=nd.N∧nd.N<=1)else if nd.Op=24 then decide (0<=nd.N∧nd.N<=3)
 else if nd.Op=4 then decide (-(p.dA.length:Int)<=nd.N∧nd.N<=29)else if nd.Op=14 then W else decide (nd.N=0)
def Mt(p:ax)(nd:bp):Bool:=
 if nd.Op=15 then decide (1<=(nd.cA.length:Int)∧(nd.cA.length:Int)<=5)&&decide ((nd.Kids.length:Int)=1+nd.cA.length)
 else if nd.Op=14 then decide (0<=nd.N∧nd.N<p.Cons.length)&&decide ((nd.Kids.length:Int)=(p.Cons.getD nd.N.toNat bx).pG)
 else if 1<=nd.Op∧nd.Op<=28 then decide ((nd.Kids.length:Int)=(rj.getD nd.Op.toNat 0:Nat))else J
def npB(nd:bp):Bool:=decide (nd.Op=15∨nd.cA.length=0)
def qB(p:ax)(q:aC):Bool:=decide (pw q<=12)&&nO p.Cons q
def lF(p:ax)(nd:bp):Bool:=((npB nd&&Mt p nd)&&Cp p nd)&&nd.cA.all (qB p)
def mK(a b:Int):D.aG a b=decide (a=b):=by by_cases h:a=b<;>simp[D.aG,h]
def ZJ(b c:Bool):aj b (Z ((c,()),())) (Z ((J,()),()))=(Z ((b&&c,()),()):O ((Bool×U)×U)):=by cases b<;>rfl
def anY(hf:p.dA.length<=1000):F204 n (⟨p⟩,nd,())=Z ((Cp p nd,()),()):=by
 have a:D.neg .i64 (p.dA.length:Int)=-(p.dA.length:Int):=yq (by omega) (by omega);unfold F204 Cp;by_cases h1:nd.Op=1
 .rw[bJ h1];simp only[aS,h1,ahM]
 rw[br h1];by_cases h2:nd.Op=2
 .rw[bJ h2];simp(disch:=omega)only[aS,h2,wj]
 rw[br h2];by_cases h3:nd.Op=24
 .rw[bJ h3];simp(disch:=omega)only[aS,h3,wj]
 rw[br h3];by_cases h4:nd.Op=4
 .rw[bJ h4];simp(disch:=omega)only[aS,h4,a,wj]
 rw[br h4];by_cases h5:nd.Op=14
 .rw[bJ h5];simp(disch:=omega)only[aS,h5]
 rw[br h5];simp(disch:=omega)only[aS];rw[mK]
def Ze(hs:Small p)(g:∀q∈nd.cA,pw q<=16)(hl:nd.cA.length<=10)(b:Bool):Ev (λn=>uZ n (⟨p⟩,nd,()) ((b,()),())) (((b&&Cp p nd)&&nd.cA.all (qB p),()),()):=by
 have s:=hs.xO;have t:=hs.cons;unfold uZ sU;cases b with
 |false=>exact Ev.of_eq λn=>by simp only[aS,fO]
 |true=>
  simp only[aS,anY (p:=p) (nd:=nd) (show p.dA.length<=1000 by omega),dQ];cases l:Cp p nd with
  |false=>exact Ev.of_eq λn=>by simp only[aS,fO]
  |true=>
   simp only[aS,dQ];have m:∀(i:Nat)(y:Int×U),(LO.ret () ((i:Int),()):LO (Int×U) (Int×U) U Any)≠.next y:=λ_ _ h=>by cases h
   rcases eJ (F:=λn i=>aj (D.bO i.1 (nd.cA.length:Int)) (aD (av i.1 nd.cA) (ai (F202 n (aC.mk (nd.cA.getD i.1.toNat aN).1 (nd.cA.getD i.1.toNat aN).2 (nd.cA.getD i.1.toNat aN).3 (nd.cA.getD i.1.toNat aN).4,12,())) λj=>aj (D.ep j.1.1 12) (ai (F203 n (⟨p⟩,aC.mk (nd.cA.getD i.1.toNat aN).1 (nd.cA.getD i.1.toNat aN).2 (nd.cA.getD i.1.toNat aN).3 (nd.cA.getD i.1.toNat aN).4,())) λk=>aj k.1.1 (Z (LO.next (D.add .i64 i.1 1,()))) (Z (LO.ret () i))) (Z (LO.ret () i)))) (Z (LO.out 0 i)))
    nd.cA.length (λi=>qB p (nd.cA.getD i aN)) (λi=>(LO.ret () ((i:Int),()):LO (Int×U) (Int×U) U Any)) m (λi f=>by
     have u:=g _ (bX aN f);obtain⟨r,o,v,w,_,_⟩:=sizes (nd.cA.getD i aN) (by omega) 12 (by omega) (by omega);simp(disch:=omega)only[aS,TG];refine Ev.ai (o 0) ?_;unfold qB;by_cases e:pw (nd.cA.getD i aN)<=12
     .rw[fP e,dQ];simp(disch:=omega)only[aS];refine Ev.ai (Vu (p:=p) (by omega) (nd.cA.getD i aN) (by omega) 0) (Ev.of_eq λn=>?_);cases nO p.Cons (nd.cA.getD i aN)<;>simp(disch:=omega)only[aS,bE,dU,dX]
     .rw[gu e,fO];exact Ev.of_eq λn=>by simp(disch:=omega)only[aS]) (λn=>by simp(disch:=omega)only[aS])with⟨a,r⟩|⟨i,f,a,r⟩
   .rw[rF (d:=aN) a];exact Ev.aQ r (λn c=>_) _ (Ev.of_eq λn=>rfl)
   .rw[jP (d:=aN) f a];refine Ev.aQ r (λn c=>_) _ (Ev.of_eq λn=>?_);rw[o3];simp(disch:=omega)only[aS]<;>rfl
def an6(hs:Small p)(f:∀q∈nd.cA,pw q<=16)(hl:nd.cA.length<=10):Ev (λn=>F153 n (⟨p⟩,nd,())) ((lF p nd,()),()):=by
 have i:=hs.cons;have d:=Ze hs f hl;unfold F153 sV lF;simp only[aS,anZ];unfold OJ Mt npB;by_cases c:nd.Op=15
 .rw[bJ c,bJ c,fP (Or.inl c),dQ];have h1:isNil [(274,Ty.st 27),(297,Ty.int .i64),(298,Ty.st 28)] (dj 29 (cN.a0 ⟨⟩))=J:=rfl;have h2:fW [(274,Ty.st 27),(297,Ty.int .i64),(298,Ty.st 28)] 0 (dj 29 (cN.a0 ⟨⟩))=W:=rfl;refine Ev.congr (g:=λn=>uZ n (⟨p⟩,nd,()) ((decide (1<=(nd.cA.length:Int)∧(nd.cA.length:Int)<=5)&&decide ((nd.Kids.length:Int)=1+nd.cA.length),()),())) (λn=>?_) (d _);simp only[h1,h2];unfold F338;simp(disch:=omega)only[aS,bH,wj,bE,mK,ZJ]
 .rw[br c,br c];by_cases h:nd.cA.length=0
  .rw[fP (Or.inr h),dQ];by_cases a:nd.Op=14
   .rw[bJ a,bJ a];have h1:isNil [(274,Ty.st 27),(297,Ty.int .i64),(298,Ty.st 28)] (dj 29 (cN.a2 ⟨⟩))=J:=rfl;have h2:fW [(274,Ty.st 27),(297,Ty.int .i64),(298,Ty.st 28)] 0 (dj 29 (cN.a2 ⟨⟩))=J:=rfl;have h3:fW [(274,Ty.st 27),(297,Ty.int .i64),(298,Ty.st 28)] 1 (dj 29 (cN.a2 ⟨⟩))=J:=rfl;have h4:fW [(274,Ty.st 27),(297,Ty.int .i64),(298,Ty.st 28)] 2 (dj 29 (cN.a2 ⟨⟩))=W:=rfl;refine Ev.congr (g:=λn=>uZ n (⟨p⟩,nd,()) ((decide (0<=nd.N∧nd.N<p.Cons.length)&&decide ((nd.Kids.length:Int)=(p.Cons.getD nd.N.toNat bx).pG),()),())) (λn=>?_) (d _);simp only[h1,h2,h3,h4];unfold F340;by_cases e:0<=nd.N∧nd.N<p.Cons.length
    .rw[fP e,dQ];simp(disch:=omega)only[aS,bH,wj,cT,fP (show 0<=nd.N∧nd.N<=(p.Cons.length:Int)-1 by omega),mK]
    .rw[gu e,fO];simp(disch:=omega)only[aS,bH,wj,cT,gu (show ¬(0<=nd.N∧nd.N<=(p.Cons.length:Int)-1)by omega)]
   .rw[br a,br a];by_cases b:1<=nd.Op∧nd.Op<=28
    .rw[bJ b,bJ b];generalize((rj.getD nd.Op.toNat 0:Nat):Int)=K;have h1:isNil [(274,Ty.st 27),(297,Ty.int .i64),(298,Ty.st 28)] (dj 29 (cN.a1 K))=J:=rfl;have h2:fW [(274,Ty.st 27),(297,Ty.int .i64),(298,Ty.st 28)] 0 (dj 29 (cN.a1 K))=J:=rfl;have h3:fW [(274,Ty.st 27),(297,Ty.int .i64),(298,Ty.st 28)] 1 (dj 29 (cN.a1 K))=W:=rfl;refine Ev.congr (g:=λn=>uZ n (⟨p⟩,nd,()) ((decide ((nd.Kids.length:Int)=K),()),())) (λn=>?_) (d _);simp only[h1,h2,h3];unfold F339;simp(disch:=omega)only[aS,bH,<-mK];rfl
    .rw[br b,br b];have h1:isNil [(274,Ty.st 27),(297,Ty.int .i64),(298,Ty.st 28)] (dj 29 cN.none)=W:=rfl;simp only[h1];exact Ev.of_eq λn=>by simp only[aS,fO]
  .rw[show decide (nd.Op=15∨nd.cA.length=0)=J from gu (by omega),fO,fO,fO];by_cases a:nd.Op=14
   .rw[bJ a];have h1:isNil [(274,Ty.st 27),(297,Ty.int .i64),(298,Ty.st 28)] (dj 29 (cN.a2 ⟨⟩))=J:=rfl;have h2:fW [(274,Ty.st 27),(297,Ty.int .i64),(298,Ty.st 28)] 0 (dj 29 (cN.a2 ⟨⟩))=J:=rfl;simp only[h1,h2];exact Ev.of_eq λn=>by simp(disch:=omega)only[aS,V5]<;>rfl
   .rw[br a];by_cases b:1<=nd.Op∧nd.Op<=28
    .rw[bJ b];generalize((rj.getD nd.Op.toNat 0:Nat):Int)=K;have h1:isNil [(274,Ty.st 27),(297,Ty.int .i64),(298,Ty.st 28)] (dj 29 (cN.a1 K))=J:=rfl;have h2:fW [(274,Ty.st 27),(297,Ty.int .i64),(298,Ty.st 28)] 0 (dj 29 (cN.a1 K))=J:=rfl;simp only[h1,h2];exact Ev.of_eq λn=>by simp(disch:=omega)only[aS,V5]<;>rfl
    .rw[br b];have h1:isNil [(274,Ty.st 27),(297,Ty.int .i64),(298,Ty.st 28)] (dj 29 cN.none)=W:=rfl;simp only[h1];exact Ev.of_eq λn=>by simp only[aS]<;>rfl
end
end
section
section
variable {p:ax}{nd:bp}
def wP(op a args:Int):Int:=if op=15 then 1+a else if op=14 then args else if 1<=op∧op<=28 then(rj.getD op.toNat 0:Nat)else -1
def e96{n:Nat}(op:Int){a args:Int}(h1:0<=a)(h2:a<=1000):F96 n (op,a,args,())=Z ((wP op a args,()),()):=by
 by_cases h:1<=op∧op<=28
 .by_cases b:op=15
  .subst b;unfold F96 FI zY zX wP;rw[bJ rfl];simp(disch:=omega)only[aS,bH,bE]
  .obtain ⟨k,rfl⟩:∃k:Nat,op=k:=⟨_,(Al (by omega)).symm⟩;have c:k<=28:=by omega
   match k,c,b with
   |0,_,_=>omega
   |1,_,_|2,_,_|3,_,_|4,_,_|5,_,_|6,_,_|7,_,_|8,_,_|9,_,_|10,_,_|11,_,_|12,_,_|13,_,_|14,_,_|16,_,_|17,_,_|18,_,_|19,_,_|20,_,_|21,_,_|22,_,_|23,_,_|24,_,_|25,_,_|26,_,_|27,_,_|28,_,_=>rfl
   |15,_,h=>exact absurd rfl h
   |k+29,h,_=>omega
 .unfold F96 FI zY zX wP;rw[br (by omega),br (by omega),br h];simp(disch:=omega)only[aS,bH]
def UU{R B P:Type}{cons:L cB}(k:cons.length<=1000):∀(qs pre:L aC)(b:Bool),pre.length+qs.length<=1000->(∀q∈qs,pw q<=16)->
  ∀(F:Nat->Bool×Int×U->O (LO (Bool×Int×U) R B P)),
  (∀n h,F n h=aj (D.bO h.2.1 (ak (pre++qs))) (aj h.1 (aD (av h.2.1 (pre++qs)) (ai (F83 n (@aR aC (pre++qs) (ah h.2.1) aN,12,())) λi=>aj (D.ep 0 i.1.1) (aD (av h.2.1 (pre++qs)) (ai (F95 n (@aR aC (pre++qs) (ah h.2.1) aN,cons,())) λj=>Z (LO.next (j.1.1,D.add .i64 h.2.1 1,())))) (Z (LO.next (J,D.add .i64 h.2.1 1,()))))) (Z (LO.out 0 h))) (Z (LO.out 0 h)))->
  ∃j,eM F (b,(pre.length:Int),()) (.out 0 (b&&qs.all (λq=>decide (pw q<=12)&&nO cons q),j,()))
 |[],pre,b,h3,f,F,a=>by refine⟨(pre.length:Int),.out (Ev.of_eq λn=>?_)⟩;rw[a];simp(disch:=omega)only[aS,ij,List.all_nil,rU]<;>rfl
 |q::qs,pre,b,h3,f,F,a=>by
  simp only[eV]at h3;cases b with
  |false=>refine⟨(pre.length:Int),.out (Ev.of_eq λn=>?_)⟩;rw[a];simp(disch:=omega)only[aS,fO]<;>rfl
  |true=>
   have p:=f q eD;have l:(pre++q::qs).getD pre.length aN=q:=eZ ..;obtain⟨j,m⟩:=UU k qs (pre++[q]) (decide (pw q<=12)&&nO cons q) (by simp;omega) (λo h=>f o (gO _ h)) F (λn e=>by rw[a];simp only[nk,yN]<;>rfl);refine⟨j,.next (y:=(decide (pw q<=12)&&nO cons q,((pre++[q]).length:Int),())) ?_ (by rw[DQ,dQ];exact m)⟩;refine Ev.congr (g:=λn=>ai (F83 n (q,12,())) λi=>aj (D.ep 0 i.1.1) (ai (F95 n (q,cons,())) λj=>Z (LO.next (j.1.1,(pre.length:Int)+1,()))) (Z (LO.next (J,(pre.length:Int)+1,())))) (λn=>?_) (Ev.ai (e83 q (by omega) (by omega)) ?_)
   .rw[a];simp(disch:=first|omega|simp only[lq];omega)only[aS,l,bE]<;>rfl
   .by_cases c:pw q<=12
    .have d:((pw q:Nat):Int)<=12:=by omega
     rw[mY d,fP c,dQ];simp(disch:=omega)only[aS];refine Ev.ai (abg k q (by omega) 0) (Ev.of_eq λn=>?_);simp only[aS,dU,dX,js]
    .rw[mZ (by omega),gu c,fO];exact Ev.of_eq λn=>by simp(disch:=omega)only[aS,dU,dX,js]
abbrev N6(p:ax)(nd:bp)(args:Int)(n:Nat)(b:Bool):O ((Bool×U)×U):=
 ai (iter (λh:Bool×Int×U=>aj (D.bO h.2.1 (ak nd.cA)) (aj h.1 (aD (av h.2.1 nd.cA) (ai (F83 n (@aR aC nd.cA (ah h.2.1) aN,12,())) λi=>aj (D.ep 0 i.1.1) (aD (av h.2.1 nd.cA) (ai (F95 n (@aR aC nd.cA (ah h.2.1) aN,p.Cons,())) λj=>Z (LO.next (j.1.1,D.add .i64 h.2.1 1,())))) (Z (LO.next (J,D.add .i64 h.2.1 1,()))))) (Z (LO.out 0 h))) (Z (LO.out 0 h))) n (b,0,()))
  λh=>LO.el (R:=Bool×U) (B:=U) (P:=Any) h (λ_ j=>aj j.1 (ai (F96 n (nd.Op,ak nd.cA,args,())) λk=>Z ((D.aG (ak nd.Kids) k.1.1,()),())) (Z ((J,()),()))) (λ_ j=>Z (j,())) λ_ _=>Y
def WU(hs:Small p)(a:∀q∈nd.cA,pw q<=16)(hl:nd.cA.length<=10)(args:Int)(b:Bool):Ev (λn=>N6 p nd args n b) (((b&&nd.cA.all (qB p))&&decide ((nd.Kids.length:Int)=wP nd.Op nd.cA.length args),()),()):=by have e:=hs.cons;obtain⟨j,d⟩:=UU (R:=Bool×U) (B:=U) (P:=Any) (cons:=p.Cons) (by omega) nd.cA [] b (by simp;omega) a _ (λn h=>rfl);refine Ev.aQ (F:=λn h=>_) d (λn c=>_) _ (Ev.of_eq λn=>?_);rw[dY];show TL.aj (b&&nd.cA.all (qB p)) _ _=_;cases b&&nd.cA.all (qB p)with|false=>simp only[aS,fO]|true=>simp(disch:=omega)only[aS,e96,mK,dQ]
def e54(hs:Small p)(u:∀q∈nd.cA,pw q<=16)(hl:nd.cA.length<=10):Ev (λn=>F54 n (p,nd,())) ((lF p nd,()),()):=by
 have y:=hs.cons;have z:=hs.xO;have v:D.neg .i64 (p.dA.length:Int)=-(p.dA.length:Int):=yq (by omega) (by omega);have c:D.aG (nd.cA.length:Int) 0=decide ((nd.cA.length:Int)=0):=mK ..;have s:=WU (p:=p) (nd:=nd) hs u hl;have a:∀n args b,(ai (iter (λh:Bool×Int×U=>aj (D.bO h.2.1 (nd.cA.length:Int)) (aj h.1 (aD (av h.2.1 nd.cA) (ai (F83 n (nd.cA.getD h.2.1.toNat aN,12,())) λi=>aj (D.ep 0 i.1.1) (aD (av h.2.1 nd.cA) (ai (F95 n (nd.cA.getD h.2.1.toNat aN,p.Cons,())) λj=>Z (LO.next (j.1.1,D.add .i64 h.2.1 1,())))) (Z (LO.next (J,D.add .i64 h.2.1 1,()))))) (Z (LO.out 0 h))) (Z (LO.out 0 h))) n (b,0,()))
  λh=>LO.el (R:=Bool×U) (B:=U) (P:=Any) h (λ_ j=>aj j.1 (ai (F96 n (nd.Op,(nd.cA.length:Int),args,())) λk=>Z ((D.aG (nd.Kids.length:Int) k.1.1,()),())) (Z ((J,()),()))) (λ_ j=>Z (j,())) λ_ _=>Y)=N6 p nd args n b:=λ_ _ _=>rfl
 have ev:∀{G:Nat->O ((Bool×U)×U)}(args:Int)(b r:Bool),(∀n,G n=N6 p nd args n b)->((b&&nd.cA.all (qB p))&&decide ((nd.Kids.length:Int)=wP nd.Op nd.cA.length args))=r->Ev G ((r,()),()):=by intro G args b r h1 h2;rw[<-h2];exact Ev.congr h1 (s args b)
 unfold F54;by_cases m:nd.Op=15
 .refine ev 0 (decide (nd.N=0)&&decide (1<=(nd.cA.length:Int)∧(nd.cA.length:Int)<=5)) _ (λn=>?_) ?_
  .cases d:decide (nd.N=0)<;>(have o:D.aG nd.N 0=_:=(mK ..).trans d)<;>simp(disch:=omega)only[aS,bH,o,GM,fO,dQ]<;>exact a ..
  .unfold lF npB Mt Cp wP;simp only[m,Int.reduceEq,fY,eT,true_or,decide_true,dQ]
   ac_rfl
 .have l:∀b:Bool,(b&&decide ((nd.cA.length:Int)=0))=(b&&npB nd):=by
   intro b;unfold npB
   congr 1
   exact decide_eq_decide.2 (by omega)
  by_cases f:nd.Op=14
  .by_cases t:0<=nd.N∧nd.N<p.Cons.length
   .refine ev (p.Cons.getD nd.N.toNat bx).pG (decide ((nd.cA.length:Int)=0)) _ (λn=>?_) ?_
    .simp (disch:=omega)only[aS,bH,GM,cT,fP (show 0<=nd.N∧nd.N<=(p.Cons.length:Int)-1 by omega),c];exact a ..
    .have:=l W;rw[dQ,dQ]at this;rw[this];unfold lF Mt Cp wP;simp only[f,Int.reduceEq,fY,eT,fP t,dQ,rU]
     ac_rfl
   .refine ev 0 J _ (λn=>?_) ?_
    .simp (disch:=omega)only[aS,bH,GM,cT,gu (show ¬(0<=nd.N∧nd.N<=(p.Cons.length:Int)-1)by omega)];exact a ..
    .unfold lF Mt Cp;simp only[f,Int.reduceEq,fY,eT,gu t,fO,Cm]
  .have last:∀b:Bool,Cp p nd=b->((b&&decide ((nd.cA.length:Int)=0))&&nd.cA.all (qB p)&&decide ((nd.Kids.length:Int)=wP nd.Op nd.cA.length 0))=lF p nd:=by
    intro b w;rw[l];unfold lF;rw[w];have x:Mt p nd=decide ((nd.Kids.length:Int)=wP nd.Op nd.cA.length 0):=by
     unfold Mt wP;rw[br m,br f,br m,br f];by_cases g:1<=nd.Op∧nd.Op<=28
     .rw[bJ g,bJ g]
     .rw[br g,br g];exact(gu (by omega)).symm
    rw[x]
    ac_rfl
   refine ev 0 (Cp p nd&&decide ((nd.cA.length:Int)=0)) _ (λn=>?_) (last _ rfl);unfold Cp;by_cases h1:nd.Op=1
   .rw[bJ h1];have e:decide (-1000000000<=nd.N∧nd.N<=1000000000)=gN nd.N:=by simp only[gN,Bool.decide_and]
    cases d:gN nd.N<;>simp(disch:=omega)only[aS,bH,GM,e,d,c,fO,dQ]<;>exact a ..
   rw[br h1];by_cases h2:nd.Op=2
   .rw[bJ h2];cases d:decide (0<=nd.N∧nd.N<=1)<;>simp(disch:=omega)only[aS,bH,GM,d,c,fO,dQ]<;>exact a ..
   rw[br h2];by_cases h3:nd.Op=24
   .rw[bJ h3];cases d:decide (0<=nd.N∧nd.N<=3)<;>simp(disch:=omega)only[aS,bH,GM,d,c,fO,dQ]<;>exact a ..
   rw[br h3];by_cases h4:nd.Op=4
   .rw[bJ h4];cases d:decide (-(p.dA.length:Int)<=nd.N∧nd.N<=29)<;>simp(disch:=omega)only[aS,v,bH,GM,d,c,fO,dQ]<;>exact a ..
   rw[br h4,br f];cases d:decide (nd.N=0)<;>(have o:D.aG nd.N 0=_:=(mK ..).trans d)<;>simp(disch:=omega)only[aS,bH,o,c,fO,dQ]<;>exact a ..
end
end
section
section
def Cr(b:UInt8):Bool:=decide (97<=b.toNat∧b.toNat<=122)
def xL(s:L UInt8):Bool:=match s with
 |[]=>J
 |a::l=>(decide (l.length<=7)&&decide (65<=a.toNat∧a.toNat<=90))&&l.all Cr
theorem uu(a:UInt8)(l:L UInt8):xL (a::l)=((decide (l.length<=7)&&decide (65<=a.toNat∧a.toNat<=90))&&l.all Cr):=rfl
theorem I9(l:L UInt8)(i:Nat):lC l i=((l.getD i 0).toNat:Int):=rfl
variable {l s:List UInt8}
def an5(hl:l.length<=1000):Ev (λn=>F161 n (l,())) ((l.all Cr,()),()):=by
 unfold F161;have e:∀(i:Nat)(y:Int×U),(LO.ret () (J,()):LO (Int×U) (Bool×U) U Any)≠.next y:=λ_ _ h=>by cases h
 rcases eJ (F:=λn c=>aj (D.bO c.1 (ak l)) (aD (av c.1 l) (aj (D.bO (lC l c.1) 97) (Z (LO.ret () (J,()))) (aD (av c.1 l) (aj (D.bO 122 (lC l c.1)) (Z (LO.ret () (J,()))) (Z (LO.next (D.add .i64 c.1 1,()))))))) (Z (LO.out 0 c))) l.length (λi=>Cr (l.getD i 0)) (λ_=>(LO.ret () (J,()):LO (Int×U) (Bool×U) U Any)) e (λi b=>Ev.of_eq λn=>by
   unfold Cr;by_cases h1:97<=(l.getD i 0).toNat
   .by_cases h2:(l.getD i 0).toNat<=122
    .simp (disch:=omega)only[aS,I9,fP (And.intro h1 h2),bE,dU,dX]
    .simp (disch:=omega)only[aS,I9,gu (λh:97<=(l.getD i 0).toNat∧(l.getD i 0).toNat<=122=>h2 h.2)]
   .simp (disch:=omega)only[aS,I9,gu (λh:97<=(l.getD i 0).toNat∧(l.getD i 0).toNat<=122=>h1 h.1)]) (λn=>by simp(disch:=omega)only[aS]<;>rfl)with⟨a,r⟩|⟨i,b,a,r⟩
 .rw[rF (d:=(0:UInt8)) a];exact Ev.aQ r (λn c=>_) _ (Ev.of_eq λn=>rfl)
 .rw[jP (d:=(0:UInt8)) b a];exact Ev.aQ r (λn c=>_) _ (Ev.of_eq λn=>rfl)
def UW(l:L UInt8)(pos:Nat)(h:pos<l.length):(Cr l[pos]=W∧sY l pos=(l[pos].toNat:Int)∧Gp l pos=1)∨(Cr l[pos]=J∧(sY l pos<97∨122<sY l pos)):=by
 have a:pos<(bK l).size:=by simpa[bK,ByteArray.size]using h
 have b:(bK l)[pos]'a=l[pos]:=rfl;unfold Cr sY Gp;by_cases h1:l[pos].toNat<128
 .have c:=decode_ascii (bK l) pos a (by rw[b];exact h1);rw[c,b];simp only;by_cases h2:97<=l[pos].toNat∧l[pos].toNat<=122
  .exact .inl ⟨fP h2,rfl,trivial⟩
  .exact .inr ⟨gu h2,by omega⟩
 .have c:=decode_high (bK l) pos a (by rw[b];omega);exact .inr ⟨gu (by omega),by omega⟩
def DB(F:Nat->(L UInt8×Nat)×U->O (LO ((L UInt8×Nat)×U) (Bool×U) ((L UInt8×Nat)×U) Any))
  (d:∀n c,F n c=aj (Oo c.1.2 c.1.1) (aj (D.bO (sY c.1.1 c.1.2) 97) (Kv n c) (aj (D.bO 122 (sY c.1.1 c.1.2)) (Kv n c) (Z (LO.next ((c.1.1,aaM c.1.2 (Gp c.1.1 c.1.2)),()))))) (Z (LO.out 0 c))) :
  ∀(k:Nat)(l:L UInt8)(pos:Nat),pos+k=l.length->((l.drop pos).all Cr=W∧∃c,eM F ((l,pos),()) (.out 0 c))∨((l.drop pos).all Cr=J∧∃c,eM F ((l,pos),()) (.ret c (J,())))
 |0,l,pos,h=>by refine .inl ⟨by rw[List.drop_eq_nil_of_le (by omega)];rfl,((l,pos),()),.out (Ev.of_eq λn=>?_)⟩;rw[d];have:Oo pos l=J:=gu (by omega);simp only[aS,this]
 |k+1,l,pos,h=>by
  have f:pos<l.length:=by omega
  have i:l.drop pos=l[pos]::l.drop (pos+1):=QW f;have e:Oo pos l=W:=fP f;rw[i,DQ];rcases UW l pos f with⟨a,b,c⟩|⟨a,b⟩
  .have j:97<=l[pos].toNat∧l[pos].toNat<=122:=Co a;rw[a,dQ];have g:Ev (λn=>F n ((l,pos),())) (.next ((l,pos+1),())):=Ev.of_eq λn=>by rw[d];simp(disch:=omega)only[aS,e,b,c];rfl
   rcases DB F d k l (pos+1) (by omega)with⟨x,y,z⟩|⟨x,y,z⟩
   .exact .inl ⟨x,y,.next g z⟩
   .exact .inr ⟨x,y,.next g z⟩
  .rw[a,fO];refine .inr ⟨rfl,((l,aaM pos (Gp l pos)),()),.ret (Ev.of_eq λn=>?_)⟩;rw[d];rcases b with b|b
   .simp (disch:=omega)only[aS,e]<;>rfl
   .by_cases m:sY l pos<97
    .simp (disch:=omega)only[aS,e]<;>rfl
    .simp (disch:=omega)only[aS,e]<;>rfl
def anW(l:L UInt8):Ev (λn=>F257 n (l,())) ((l.all Cr,()),()):=by
 unfold F257;rcases DB _ (λn c=>rfl) l.length l 0 (by omega)with⟨a,c,r⟩|⟨a,c,r⟩
 .rw[List.drop_zero]at a;rw[a];exact Ev.aQ (F:=λn c=>_) r (λn c=>_) _ (Ev.of_eq λn=>rfl)
 .rw[List.drop_zero]at a;rw[a];exact Ev.aQ (F:=λn c=>_) r (λn c=>_) _ (Ev.of_eq λn=>rfl)
def EN{G:Nat->L UInt8->O ((Bool×U)×U)}{a:UInt8}(h:Ev (λn=>G n l) ((l.all Cr,()),()))(hl:l.length<=7) :
  Ev (λn=>aD (av 0 (a::l)) (aj (D.ep 65 (lC (a::l) 0)) (aD (av 0 (a::l)) (aj (D.ep (lC (a::l) 0) 90) (aD (eS 1 (ak (a::l)) (ak (a::l))) (ai (G n (eo (a::l) 1 (ak (a::l)))) λc=>Z c)) (Z ((J,()),())))) (Z ((J,()),())))) ((xL (a::l),()),()):=by
 rw[uu,fP hl,dQ];have e:lC (a::l) 0=(a.toNat:Int):=rfl;by_cases h1:65<=a.toNat
 .by_cases h2:a.toNat<=90
  .rw[fP (And.intro h1 h2),dQ];simp(disch:=first|omega|simp only[lq];omega)only[aS,e,qH];exact Ev.ai h (Ev.pure _)
  .rw[gu (λh:65<=a.toNat∧a.toNat<=90=>h2 h.2),fO];exact Ev.of_eq λn=>by simp(disch:=first|omega|simp only[lq];omega)only[aS,e]
 .rw[gu (λh:65<=a.toNat∧a.toNat<=90=>h1 h.1),fO];exact Ev.of_eq λn=>by simp(disch:=first|omega|simp only[lq];omega)only[aS,e]
def e93(hs:s.length<=1000):Ev (λn=>F93 n (s,())) ((xL s,()),()):=by
 unfold F93;cases s with
 |nil=>exact Ev.of_eq λn=>by simp(disch:=omega)only[aS]<;>rfl
 |cons a l=>
  simp only[eV]at hs;by_cases h:l.length<=7
  .have:=EN (G:=λn l=>F161 n (l,())) (a:=a) (an5 (l:=l) (by omega)) h;refine Ev.congr (λn=>?_) this;simp only[ak,eV];rw[qg (by omega),qg (by omega)]
  .rw[uu,gu h,fO,fO];exact Ev.of_eq λn=>by simp(disch:=omega)only[aS]
def an0(hs:s.length<=1000):Ev (λn=>F197 n (s,())) ((xL s,()),()):=by
 unfold F197;cases s with
 |nil=>exact Ev.of_eq λn=>rfl
 |cons a l=>
  simp only[eV]at hs;have b:gn (a::l) []=J:=rfl;by_cases h:l.length<=7
  .have:=EN (G:=λn l=>F257 n (l,())) (a:=a) (anW l) h;refine Ev.congr (λn=>?_) this;simp only[b];rw[mH,QH,qg (by simp only[ak,eV];omega)]
  .rw[uu,gu h,fO,fO];exact Ev.of_eq λn=>by simp(disch:=omega)only[aS,b]
def Fh(c:cB):Bool:=xL c.Name&&decide (0<=c.pG∧c.pG<=3)
def an8{c:cB}(hs:c.Name.length<=1000):Ev (λn=>F148 n (c,())) ((Fh c,()),()):=by unfold F148 Fh;refine Ev.ai (an0 hs) (Ev.of_eq λn=>?_);cases xL c.Name<;>simp only[aS,wj,dQ,fO]
def xF{α:Type}{l:L α}{i:Nat}(d:α)(h:i<l.length):(l.take (i+1)).Nodup↔(l.take i).Nodup∧l.getD i d∉l.take i:=by
 rw[<-take_succ d h,HG];constructor
 .rintro ⟨a,_,b⟩
  exact⟨a,λc=>b _ c _ (List.mem_singleton_self _) rfl⟩
 .rintro ⟨a,b⟩
  refine⟨a,Vj _ _,λx e y f=>?_⟩;rw[lg.1 f];exact λh=>b (h▸e)
def an9{l:L (L UInt8)}(hl:l.length<=1000):Ev (λn=>F142 n (l,s,())) ((decide (s∈l),()),()):=by
 unfold F142;have e:∀(i:Nat)(y:Int×U),(LO.ret () (W,()):LO (Int×U) (Bool×U) U Any)≠.next y:=λ_ _ h=>by cases h
 rcases eJ (F:=λn c=>aj (D.bO c.1 (ak l)) (aD (av c.1 l) (aj (gn (aR l (ah c.1) []) s) (Z (LO.ret () (W,()))) (Z (LO.next (D.add .i64 c.1 1,()))))) (Z (LO.out 0 c))) l.length (λi=>!(gn (l.getD i []) s)) (λ_=>(LO.ret () (W,()):LO (Int×U) (Bool×U) U Any)) e (λi b=>Ev.of_eq λn=>by
   cases f:gn (l.getD i []) s<;>simp(disch:=omega)only[aS,f,bE,dU,dX,Ai,yR]) (λn=>by simp(disch:=omega)only[aS]<;>rfl)with⟨a,r⟩|⟨i,b,a,r⟩
 .have:s∉l:=by intro g;have:=gY (d:=([]:L UInt8)) (Q:=λx=>(!(gn x s))=W) a s g;simp[gn]at this
  rw[gu this];exact Ev.aQ r (λn c=>_) _ (Ev.of_eq λn=>rfl)
 .have:s∈l:=by
   have j:l.getD i []=s:=by simpa[gn]using a
   rw[<-j];exact bX _ b
  rw[fP this];exact Ev.aQ r (λn c=>_) _ (Ev.of_eq λn=>rfl)
def e94{l:L (L UInt8)}(hl:l.length<=1000):∃b,Ev (λn=>F94 n (l,())) ((b,()),())∧(b=W↔l.Nodup):=by
 unfold F94;have f:∀(i:Nat)(y:Int×U),(LO.ret () (J,()):LO (Int×U) (Bool×U) U Any)≠.next y:=λ_ _ h=>by cases h
 rcases eJ (F:=λn c=>aj (D.bO c.1 (ak l)) (aD (eS 0 c.1 (ak l)) (aD (av c.1 l) (ai (F142 n (eo l 0 c.1,aR l (ah c.1) [],())) λd=>aj d.1.1 (Z (LO.ret () (J,()))) (Z (LO.next (D.add .i64 c.1 1,())))))) (Z (LO.out 0 c))) l.length (λi=>!(decide (l.getD i []∈l.take i))) (λ_=>(LO.ret () (J,()):LO (Int×U) (Bool×U) U Any)) f (λi e=>by
   simp(disch:=omega)only[aS,mF];refine Ev.ai (an9 (by rw[xz];omega)) (Ev.of_eq λn=>?_);cases m:decide (l.getD i []∈l.take i)<;>simp(disch:=omega)only[aS,bE,dU,dX,Ai,yR]) (λn=>by simp(disch:=omega)only[aS]<;>rfl)with⟨a,r⟩|⟨i,e,a,r⟩
 .refine ⟨W,Ev.aQ r (λn c=>_) _ (Ev.of_eq λn=>rfl),λ_=>?_,λ_=>rfl⟩;have:∀i,i<=l.length->(l.take i).Nodup:=by
   intro i
   induction i with|zero=>intro _;simp|succ i g=>intro e;refine(xF [] (by omega)).2 ⟨g (by omega),λj=>?_⟩;have:=a i (by omega);rw[fP j]at this;cases this
  have:=this l.length (bQ _);rwa [Cn]at this
 .refine ⟨J,Ev.aQ r (λn c=>_) _ (Ev.of_eq λn=>rfl),(λh=>by cases h),λk=>?_⟩;have h1:(l.take (i+1)).Nodup:=List.Nodup.sublist (List.take_sublist _ _) k;have h2:=((xF [] e).1 h1).2;rw[gu h2]at a;cases a
end
end
section
section
def YF(n:Nat)(o:L Int)(ks:L Int):Prop:=o.length=n∧∀i:Nat,i<n->o.getD i 0=(ks.count (i:Int):Nat)
def Hf(n:Nat)(u:L Bool)(ks:L Int):Prop:=u.length=n∧∀i:Nat,i<n->(u.getD i J=W↔(i:Int)∈ks)
variable {n N:Nat}{ks:List Int}{k lo:Int}
def YF.step{o:L Int}(h:YF n o ks)(g:0<=k)(h1:k<n):YF n (o.set k.toNat (o.getD k.toNat 0+1)) (ks++[k]):=by
 obtain⟨a,b⟩:=h;refine⟨by rw[Ak];exact a,λi d=>?_⟩;rw[List.count_append,List.count_singleton];have f:=b k.toNat (by omega);by_cases c:i=k.toNat
 .have e:(k==(i:Int))=W:=by simp;omega
  rw[e,bJ rfl];rw[jq,c,Lu (by omega)];simp only[vY];rw[f,<-c];simp
 .have e:(k==(i:Int))=J:=by simp;omega
  rw[e];simp only[Bool.false_eq_true,eT,wJ];rw[jq,Lt (by omega),<-jq];exact b i d
def Hf.step{u:L Bool}(h:Hf n u ks)(e:0<=k)(h1:k<n):Hf n (u.set k.toNat W) (ks++[k]):=by
 obtain⟨a,b⟩:=h;refine⟨by rw[Ak];exact a,λi d=>?_⟩;rw[ef,lg];by_cases c:i=k.toNat
 .rw[jq,c,Lu (by omega)];simp only[vY,true_iff];exact .inr (by omega)
 .rw[jq,Lt (by omega),<-jq,b i d];exact⟨.inl,λh=>h.elim id λh=>absurd h (by omega)⟩
abbrev Ma(N:Nat)(l:L Int)(lo:Int)(n:Nat)(c:L Int×Int×U):O (LO (L Int×Int×U) (Bool×U) U Any):=
 aj (D.bO c.2.1 (ak l)) (aD (av c.2.1 l) (ai (F146 n (aR l (ah c.2.1) 0,lo,(N:Int)-1,())) λq=>aj (D.aK q.1.1) (Z (LO.ret () (J,()))) (aD (av (aR l (ah c.2.1) 0) c.1) (aD (cz (ah (aR l (ah c.2.1) 0)) c.1) (aD (av (aR l (ah c.2.1) 0) c.1) (aD (cz (ah (aR l (ah c.2.1) 0)) c.1)
  (Z (LO.next (dV c.1 (ah (aR l (ah c.2.1) 0)) (D.add .i64 (aR c.1 (ah (aR l (ah c.2.1) 0)) 0) 1),D.add .i64 c.2.1 1,()))))))))) (Z (LO.out 0 c))
def Ea{N:Nat}{lo:Int}(hlo:0<=lo):∀(l pre:L Int)(o ks:L Int),YF N o ks->ks.length+l.length<=100000->pre.length+l.length<=100000->
  ((∀k∈l,lo<=k∧k<N)∧∃e,YF N e (ks++l)∧eM (λn c=>Ma N (pre++l) lo n c) (o,(pre.length:Int),()) (.out 0 (e,((pre++l).length:Int),())))∨
  (¬(∀k∈l,lo<=k∧k<N)∧eM (λn c=>Ma N (pre++l) lo n c) (o,(pre.length:Int),()) (.ret () (J,())))
 |[],pre,o,ks,d,h1,h2=>by refine .inl ⟨by simp,o,by rw[ij];exact d,.out (Ev.of_eq λn=>?_)⟩;simp(disch:=omega)only[aS,Ma,ij]
 |k::l,pre,o,ks,d,h1,h2=>by
  simp only[eV]at h1 h2;have g:(pre++k::l).getD pre.length 0=k:=eZ ..;have j:=d.1;by_cases f:lo<=k∧k<N
  .have p:=d.2 k.toNat (by omega);have m:=List.count_le_length (a:=((k.toNat:Nat):Int)) (l:=ks);have i:Ev (λn=>Ma N (pre++k::l) lo n (o,(pre.length:Int),())) (.next (o.set k.toNat (o.getD k.toNat 0+1),((pre++[k]).length:Int),())):=by refine Ev.of_eq λn=>?_;simp(disch:=first|omega|simp only[lq];omega)only[aS,Ma,g,wj,fP (show lo<=k∧k<=(N:Int)-1 by omega),bE,dU,dX,js]
   rcases Ea hlo l (pre++[k]) _ (ks++[k]) (d.step (by omega) f.2) (by simp;omega) (by simp;omega)with⟨a,e,b,c⟩|⟨a,c⟩
   .refine .inl ⟨λx hx=>?_,e,by simpa only[nk,yN]using b,.next i (by simpa only[nk,yN]using c)⟩;rcases eU.1 hx with hx|hx
    .rw[hx];exact f
    .exact a x hx
   .exact .inr ⟨λh=>a λx hx=>h x (gO _ hx),.next i (by simpa only[nk,yN]using c)⟩
  .refine .inr ⟨λh=>f (h k eD),.ret (Ev.of_eq λn=>?_)⟩;simp(disch:=first|omega|simp only[lq];omega)only[aS,Ma,g,wj,gu (show ¬(lo<=k∧k<=(N:Int)-1)by omega)]
abbrev ry(N:Nat)(l:L Int)(lo:Int)(n:Nat)(c:L Bool×Int×U):O (LO (L Bool×Int×U) (Bool×U) U Any):=
 aj (D.bO c.2.1 (ak l)) (aD (av c.2.1 l) (ai (F52 n (aR l (ah c.2.1) 0,lo,(N:Int)-1,())) λh=>aj (D.aK h.1.1) (Z (LO.ret () (J,()))) (aD (av (aR l (ah c.2.1) 0) c.1) (aD (cz (ah (aR l (ah c.2.1) 0)) c.1) (aj (aR c.1 (ah (aR l (ah c.2.1) 0)) J) (Z (LO.ret () (J,())))
  (aD (av (aR l (ah c.2.1) 0) c.1) (aD (cz (ah (aR l (ah c.2.1) 0)) c.1) (Z (LO.next (dV c.1 (ah (aR l (ah c.2.1) 0)) W,D.add .i64 c.2.1 1,())))))))))) (Z (LO.out 0 c))
def AF{N:Nat}{lo:Int}(hlo:0<=lo):∀(l pre:L Int)(u:L Bool)(ks:L Int),Hf N u ks->ks.Nodup->pre.length+l.length<=100000->
  (((∀k∈l,lo<=k∧k<N)∧(ks++l).Nodup)∧∃q,Hf N q (ks++l)∧eM (λn c=>ry N (pre++l) lo n c) (u,(pre.length:Int),()) (.out 0 (q,((pre++l).length:Int),())))∨
  (¬((∀k∈l,lo<=k∧k<N)∧(ks++l).Nodup)∧eM (λn c=>ry N (pre++l) lo n c) (u,(pre.length:Int),()) (.ret () (J,())))
 |[],pre,u,ks,d,g,h2=>by refine .inl ⟨⟨by simp,by rw[ij];exact g⟩,u,by rw[ij];exact d,.out (Ev.of_eq λn=>?_)⟩;simp(disch:=omega)only[aS,ry,ij]
 |k::l,pre,u,ks,d,g,h2=>by
  simp only[eV]at h2;have i:(pre++k::l).getD pre.length 0=k:=eZ ..;have t:=d.1;by_cases j:lo<=k∧k<N
  .have m:=d.2 k.toNat (by omega);rw[show((k.toNat:Nat):Int)=k by omega]at m;cases e:u.getD k.toNat J with
   |true=>
    refine .inr ⟨λh=>?_,.ret (Ev.of_eq λn=>?_)⟩
    .have:=(HG.1 h.2).2.2 k (m.1 e) k eD;exact this rfl
    .simp (disch:=first|omega|simp only[lq];omega)only[aS,ry,i,GM,fP (show lo<=k∧k<=(N:Int)-1 by omega),e]
   |false=>
    have o:k∉ks:=λh=>by rw[m.2 h]at e;cases e
    have p:(ks++[k]).Nodup:=HG.2 ⟨g,Vj _ _,λa v b w=>by
     rw[lg.1 w];exact λh=>o (h▸v)⟩
    have r:Ev (λn=>ry N (pre++k::l) lo n (u,(pre.length:Int),())) (.next (u.set k.toNat W,((pre++[k]).length:Int),())):=by refine Ev.of_eq λn=>?_;simp(disch:=first|omega|simp only[lq];omega)only[aS,ry,i,GM,fP (show lo<=k∧k<=(N:Int)-1 by omega),e,bE,dU,dX,js]
    have f:ks++[k]++l=ks++k::l:=by simp
    rcases AF hlo l (pre++[k]) _ (ks++[k]) (d.step (by omega) j.2) p (by simp;omega)with⟨⟨a,s⟩,y,b,c⟩|⟨a,c⟩
    .rw[f]at s b;refine .inl ⟨⟨λx hx=>?_,s⟩,y,b,.next r (by simpa only[nk,yN]using c)⟩;rcases eU.1 hx with hx|hx
     .rw[hx];exact j
     .exact a x hx
    .rw[f]at a;exact .inr ⟨λh=>a ⟨λx hx=>h.1 x (gO _ hx),h.2⟩,.next r (by simpa only[nk,yN]using c)⟩
  .refine .inr ⟨λh=>j (h.1 k eD),.ret (Ev.of_eq λn=>?_)⟩;simp(disch:=first|omega|simp only[lq];omega)only[aS,ry,i,GM,gu (show ¬(lo<=k∧k<=(N:Int)-1)by omega)]
def YF.zero(N:Nat):YF N (Jg N 0) []:=⟨by simp[Jg],λi a=>by simp[Jg,jq,List.getElem?_replicate,a]⟩
def Hf.zero(N:Nat):Hf N (Jg N J) []:=⟨by simp[Jg],λi a=>by simp[Jg,jq,List.getElem?_replicate,a]⟩
def nB(N:Nat):Nat->L bp->Prop
 |_,[]=>True
 |i,nd::l=>(∀k∈nd.Kids,(i:Int)+1<=k∧k<N)∧nB N (i+1) l
end
end
section
section
variable {p:ax}
def Mu{k:L UInt8}:∀m:L (L UInt8×Bool),((nu (A:=sg.A) Ty.str k W m).map Prod.fst)=if k∈m.map Prod.fst then m.map Prod.fst else m.map Prod.fst++[k]
 |[]=>by simp[nu]
 |q::m=>by
  have b:H8 (A:=sg.A) Ty.str k q.1=decide (k=q.1):=by show gn k q.1=_;by_cases h:k=q.1<;>simp[gn,h]
  unfold nu;rw[b];by_cases h:k=q.1
  .rw[fP h];simp[h]
  .rw[gu h];simp only[dS,lT];rw[Mu m];by_cases a:k∈m.map Prod.fst
   .rw[bJ a,bJ (gO _ a)]
   .rw[br a,br (by simp only[eU,not_or];exact⟨h,a⟩)];rfl
structure Kl(l:List (List UInt8))(i:Nat)(m:List (List UInt8×Bool)):Prop where
 mem:∀x,x∈m.map Prod.fst↔x∈l.take i
 le:m.length<=i
 eq:m.length=i↔(l.take i).Nodup
variable {l:List (List UInt8)}
def Kl.step{i:Nat}{m:L (L UInt8×Bool)}(h:Kl l i m)(e:i<l.length):Kl l (i+1) (nu (A:=sg.A) Ty.str (l.getD i []) W m):=by
 have f:=Mu (k:=l.getD i []) m;have b:(nu (A:=sg.A) Ty.str (l.getD i []) W m).length=if l.getD i []∈m.map Prod.fst then m.length else m.length+1:=by have:=lS List.length f;rw[Aj]at this;rw[this];split<;>simp
 have g:=xF ([]:L UInt8) e;refine⟨λx=>?_,?_,?_⟩
 .rw[f,<-take_succ [] e,ef,lg];split
  .rename_i c;rw[h.mem];exact⟨.inl,λa=>a.elim id λa=>by rw[a];exact(h.mem _).1 c⟩
  .rw[ef,lg,h.mem]
 .rw[b];have:=h.le;split<;>omega
 .rw[b,g];have:=h.le;by_cases c:l.getD i []∈m.map Prod.fst
  .rw[bJ c];exact⟨λa=>by omega,λa=>absurd ((h.mem _).1 c) a.2⟩
  .rw[br c];have d:l.getD i []∉l.take i:=λa=>c ((h.mem _).2 a);rw[<-h.eq];exact⟨λa=>⟨by omega,d⟩,λa=>by omega⟩
def an7(hl:l.length<=1000):∃b,Ev (λn=>F149 n (l,())) ((b,()),())∧(b=W↔l.Nodup):=by
 unfold F149
 let M:Nat->L (L UInt8×Bool):=λi=>Nat.rec [] (λi m=>nu (A:=sg.A) Ty.str (l.getD i []) W m) i
 have a:∀i,i<=l.length->Kl l i (M i):=by
  intro i
  induction i with|zero=>intro _;rw[show M 0=[]from rfl];exact⟨by simp,by simp,by simp⟩|succ i d=>intro e;exact(d (by omega)).step (by omega)
 have f:=jy (F:=λn c=>aj (D.bO c.1 (ak l)) (aD (av c.1 l) (Z (LO.next (D.add .i64 c.1 1,nu (A:=sg.A) Ty.str (aR l (ah c.1) []) W c.2.1,())))) (Z (LO.out (R:=Bool×U) (B:=L (L UInt8×Bool)×U) (P:=Any) 0 c))) l.length (λi=>((i:Int),M i,())) 0 (λi e=>Ev.of_eq λn=>by simp(disch:=omega)only[aS,bE,dU,dX]<;>rfl) (Ev.of_eq λn=>by simp(disch:=omega)only[aS]<;>rfl);have g:=a l.length (bQ _);refine⟨decide ((M l.length).length=l.length),Ev.aQ f (λn c=>_) _ (Ev.of_eq λn=>?_),?_⟩
 .rw[dY];simp only[mK,ak]
  congr 3
  exact decide_eq_decide.2 (by omega)
 .rw[decide_eq_true_iff,g.eq,Cn]
def e53{l:L cB}(hl:l.length<=1000)(hs:∀c∈l,c.Name.length<=1000):∃b,Ev (λn=>F53 n (l,())) ((b,()),())∧(b=W↔(∀c∈l,Fh c=W)∧l.length<=20∧(l.map cB.Name).Nodup):=by
 unfold F53;have q:∀(i:Nat)(y:L (L UInt8)×Int×U),(LO.ret () (J,()):LO (L (L UInt8)×Int×U) (Bool×U) U Any)≠.next y:=λ_ _ h=>by cases h
 rcases og (F:=λn c=>aj (D.bO c.2.1 (ak l)) (aD (av c.2.1 l) (ai (F93 n ((aR l (ah c.2.1) bx).1,())) λd=>aj (D.aK d.1.1) (Z (LO.ret () (J,()))) (aD (av c.2.1 l) (ai (F52 n ((aR l (ah c.2.1) bx).2,0,3,())) λe=>aj (D.aK e.1.1) (Z (LO.ret () (J,()))) (aD (av c.2.1 l) (aD (cX c.1 [(aR l (ah c.2.1) bx).1]) (Z (LO.next (cM c.1 [(aR l (ah c.2.1) bx).1],D.add .i64 c.2.1 1,()))))))))) (Z (LO.out 0 c)))
  l.length (λi=>((l.take i).map cB.Name,(i:Int),())) (λi=>Fh (l.getD i bx)) (λ_=>(LO.ret () (J,()):LO (L (L UInt8)×Int×U) (Bool×U) U Any)) 0 q (λi k _=>by
   simp(disch:=omega)only[aS];refine Ev.ai (e93 (hs _ (bX bx k))) ?_;unfold Fh;cases xL (l.getD i bx).Name with
   |false=>exact Ev.of_eq λn=>by simp only[aS,fO]
   |true=>
    refine Ev.of_eq λn=>?_;have f:cX (List.map cB.Name (List.take i l)) [(l.getD i bx).Name]=W:=ET.2 (by simp;omega);cases p:decide (0<=(l.getD i bx).pG∧(l.getD i bx).pG<=3)with
    |false=>simp only[aS,GM,p,dQ]
    |true=>
     simp(disch:=omega)only[aS,GM,p,dQ,f,bE,dU,dX];rw[<-take_succ bx k,HE];rfl) (λ_=>Ev.of_eq λn=>by simp(disch:=omega)only[aS]<;>rfl)with⟨a,r⟩|⟨i,k,a,_,r⟩
 .rw[Cn]at r;obtain⟨b,m,o⟩:=e94 (l:=l.map cB.Name) (by rw[Aj];exact hl);have g:∀c∈l,Fh c=W:=gY (d:=bx) a;by_cases j:l.length<=20
  .refine ⟨b,Ev.aQ r (λn c=>_) _ ?_,by rw[o];exact⟨λh=>⟨g,j,h⟩,λh=>h.2.2⟩⟩;refine Ev.congr (λn=>dY ..) ?_;simp(disch:=omega)only[aS];exact Ev.ai m (Ev.pure _)
  .refine ⟨J,Ev.aQ r (λn c=>_) _ (Ev.of_eq λn=>?_),(λh=>by cases h),λh=>absurd h.2.1 j⟩;rw[dY];simp(disch:=omega)only[aS]
 .refine ⟨J,Ev.aQ r (λn c=>_) _ (Ev.of_eq λn=>rfl),(λh=>by cases h),λh=>?_⟩;rw[h.1 _ (bX bx k)]at a;cases a
structure FP(p:ax):Prop where
 nodes:p.aW.length<=300
 xO:1<=p.dA.length∧p.dA.length<=p.aW.length
 main:0<=p.Main∧p.Main<p.dA.length
 Rp:p.Cons.length<=20
 cons:∀c∈p.Cons,Fh c=W
 names:(p.Cons.map cB.Name).Nodup
 Yv:∀nd∈p.aW,lF p nd=W
 fr:∀k∈p.dA,0<=k∧k<p.aW.length
 kr:nB p.aW.length 0 p.aW
 wm:(p.dA++p.aW.flatMap bp.Kids).Nodup
 all:∀i:Nat,i<p.aW.length->(i:Int)∈p.dA++p.aW.flatMap bp.Kids
abbrev OK(p:ax)(n:Nat)(s:L Int×Int×U):O (LO (L Int×Int×U) (Bool×U) U Any):=
 aj (D.bO s.2.1 (ak p.aW)) (aD (av s.2.1 p.aW) (ai (iter (Ma p.aW.length (aR p.aW (ah s.2.1) aP).3 (D.add .i64 s.2.1 1) n) n (s.1,0,())) λt=>LO.el t (λ_ v=>Z (LO.next (v.1,D.add .i64 s.2.1 1,()))) (λ_ v=>Z (LO.ret () v)) λ_ _=>Y)) (Z (LO.out 0 s))
def VY{l:L bp}(h:∀nd∈l,nd.Kids.length<=10):(l.flatMap bp.Kids).length<=10*l.length:=by
 induction l with|nil=>simp|cons a l b=>have:=h a eD;have:=b λx c=>h x (gO _ c);simp only[HF,gw,eV];omega
def Mr(hs:Small p):∀(g pre:L bp)(o i:L Int),p.aW=pre++g->YF p.aW.length o i->i.length+10*g.length<=100000->
  (nB p.aW.length pre.length g∧∃l,YF p.aW.length l (i++g.flatMap bp.Kids)∧eM (λn c=>OK p n c) (o,(pre.length:Int),()) (.out 0 (l,(p.aW.length:Int),())))∨
  (¬nB p.aW.length pre.length g∧eM (λn c=>OK p n c) (o,(pre.length:Int),()) (.ret () (J,())))
 |[],pre,o,i,j,k,m=>by
  have:p.aW.length=pre.length:=by rw[j];simp
  refine .inl ⟨trivial,o,by simpa using k,?_⟩;rw[this];refine .out (Ev.of_eq λn=>?_);simp(disch:=omega)only[aS,OK,this]
 |nd::g,pre,o,i,j,k,m=>by
  have t:=hs.nodes;have w:p.aW.length=pre.length+(g.length+1):=by rw[j];simp
  have q:p.aW.getD pre.length aP=nd:=by rw[j];exact eZ ..
  have u:=(hs.Yv nd (by rw[j];simp)).1;simp only[eV]at m;unfold nB;rcases Ea (N:=p.aW.length) (lo:=(pre.length:Int)+1) (by omega) nd.Kids [] o i k (by omega) (by simp;omega)with⟨a,r,b,c⟩|⟨a,c⟩
  .have s:Ev (λn=>OK p n (o,(pre.length:Int),())) (.next (r,((pre++[nd]).length:Int),())):=by simp(disch:=omega)only[aS,OK,q,bE];refine Ev.aQ c (λn c=>_) _ (Ev.of_eq λn=>?_);rw[dY];simp only[aS,dU,dX,js]
   rcases Mr hs g (pre++[nd]) r (i++nd.Kids) (by rw[j];simp) b (by simp;omega)with⟨d,v,e,f⟩|⟨d,f⟩
   .rw[show(pre++[nd]).length=pre.length+1 by simp]at d;exact .inl ⟨⟨a,d⟩,v,by simpa only[HF,nk]using e,.next s f⟩
   .rw[show(pre++[nd]).length=pre.length+1 by simp]at d;exact .inr ⟨λh=>d h.2,.next s f⟩
  .refine .inr ⟨λh=>a h.1,.ret ?_⟩;simp(disch:=omega)only[aS,OK,q,bE];exact Ev.aQ c (λn c=>_) _ (Ev.of_eq λn=>rfl)
abbrev Ms(p:ax)(n:Nat)(j:L Bool×Int×U):O (LO (L Bool×Int×U) (Bool×U) U Any):=
 aj (D.bO j.2.1 (ak p.aW)) (aD (av j.2.1 p.aW) (ai (F54 n (p,aR p.aW (ah j.2.1) aP,())) λk=>aj (D.aK k.1.1) (Z (LO.ret () (J,()))) (ai (iter (ry p.aW.length (aR p.aW (ah j.2.1) aP).3 (D.add .i64 j.2.1 1) n) n (j.1,0,())) λl=>LO.el l (λ_ o=>Z (LO.next (o.1,D.add .i64 j.2.1 1,()))) (λ_ o=>Z (LO.ret () o)) λ_ _=>Y))) (Z (LO.out 0 j))
def H7(hs:Small p):∀(g pre:L bp)(u:L Bool)(i:L Int),p.aW=pre++g->Hf p.aW.length u i->i.Nodup->
  (((∀nd∈g,lF p nd=W)∧nB p.aW.length pre.length g∧(i++g.flatMap bp.Kids).Nodup)∧∃w,Hf p.aW.length w (i++g.flatMap bp.Kids)∧eM (λn c=>Ms p n c) (u,(pre.length:Int),()) (.out 0 (w,(p.aW.length:Int),())))∨
  (¬((∀nd∈g,lF p nd=W)∧nB p.aW.length pre.length g∧(i++g.flatMap bp.Kids).Nodup)∧eM (λn c=>Ms p n c) (u,(pre.length:Int),()) (.ret () (J,())))
 |[],pre,u,i,m,r,s=>by
  have:p.aW.length=pre.length:=by rw[m];simp
  refine .inl ⟨⟨by simp,trivial,by simpa using s⟩,u,by simpa using r,?_⟩;rw[this];refine .out (Ev.of_eq λn=>?_);simp(disch:=omega)only[aS,Ms,this]
 |nd::g,pre,u,i,m,r,s=>by
  have z:=hs.nodes;have G:p.aW.length=pre.length+(g.length+1):=by rw[m];simp
  have A:p.aW.getD pre.length aP=nd:=by rw[m];exact eZ ..
  obtain⟨B,t,v⟩:=hs.Yv nd (by rw[m];simp);have C:=e54 hs v t;unfold nB;have j:∀{o:LO (L Bool×Int×U) (Bool×U) U Any},Ev (λn=>aj (D.aK (lF p nd)) (Z (LO.ret () (J,()))) (ai (iter (ry p.aW.length nd.Kids ((pre.length:Int)+1) n) n (u,0,())) λl=>LO.el l (λ_ o=>Z (LO.next (o.1,(pre.length:Int)+1,()))) (λ_ o=>Z (LO.ret () o)) λ_ _=>Y)) o->Ev (λn=>Ms p n (u,(pre.length:Int),())) o:=by intro o h;simp(disch:=omega)only[aS,Ms,A,bE];refine Ev.ai C ?_;rw[show(λn=>aj (D.aK (lF p nd)) (Z (LO.ret () (J,()))) (ai (iter (ry p.aW.length nd.Kids ((pre.length:Int)+1) n) n (u,0,())) λl=>LO.el l (λ_ o=>Z (LO.next (o.1,(pre.length:Int)+1,()))) (λ_ o=>Z (LO.ret () o)) λ_ _=>Y))=_ from rfl]at h;simpa only[aS]using h
  cases k:lF p nd with
  |false=>
   refine .inr ⟨λh=>?_,.ret (j ?_)⟩
   .have:=h.1 nd eD;rw[k]at this;cases this
   .rw[k];exact Ev.of_eq λn=>rfl
  |true=>
   rw[k]at j;rcases AF (N:=p.aW.length) (lo:=(pre.length:Int)+1) (by omega) nd.Kids [] u i r s (by simp;omega)with⟨⟨a,E⟩,y,b,c⟩|⟨a,c⟩
   .have hx:Ev (λn=>Ms p n (u,(pre.length:Int),())) (.next (y,((pre++[nd]).length:Int),())):=by refine j ?_;simp only[aS];refine Ev.aQ c (λn c=>_) _ (Ev.of_eq λn=>?_);rw[dY];simp only[aS,dU,dX,js]
    have q:i++nd.Kids++g.flatMap bp.Kids=i++(nd::g).flatMap bp.Kids:=by simp
    rcases H7 hs g (pre++[nd]) y (i++nd.Kids) (by rw[m];simp) b E with⟨⟨d1,d2,d3⟩,F,e,f⟩|⟨d,f⟩
    .rw[show(pre++[nd]).length=pre.length+1 by simp]at d2;rw[q]at d3 e;refine .inl ⟨⟨λx hx=>?_,⟨a,d2⟩,d3⟩,F,e,.next hx f⟩;rcases eU.1 hx with hx|hx
     .rw[hx];exact k
     .exact d1 x hx
    .rw[show(pre++[nd]).length=pre.length+1 by simp,q]at d;exact .inr ⟨λh=>d ⟨λx hx=>h.1 x (gO _ hx),h.2.1.2,h.2.2⟩,.next hx f⟩
   .refine .inr ⟨λh=>a ⟨h.2.1.1,?_⟩,.ret (j ?_)⟩
    .have:=h.2.2;rw[HF,<-nk]at this;exact(HG.1 this).1
    .simp only[aS];exact Ev.aQ c (λn c=>_) _ (Ev.of_eq λn=>rfl)
end
end
end Mn
end
end
