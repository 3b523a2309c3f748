import Derived.KernelRfl
import Derived.Laws.RangeAny
import Derived.Test.YtdddliieplcejaaGreatV4
set_option linter.all false
set_option maxRecDepth 100000
set_option maxHeartbeats 0
noncomputable section
open Option renaming some->Z,none->Y
open Bool renaming true->W,false->J
section
namespace Mn
open Go TL
def F305:Nat->Y62->aeE:=
 λn b=>af (F311 n ()) λc=>af (@iter (Int×U) (L UInt8×U) (U) (Any) (λd=>ah (D.bM d.1 (aj c.1.1)) (aP (az d.1
 c.1.1) (ah (D.eu (aj (aT c.1.1 (ai d.1) [])) (D.eD .i64 (aj b.1) b.2.1)) (aP (az d.1 c.1.1) (aP (iz b.2.1 (D.add .i64 b.2.1 (aj (aT
 c.1.1 (ai d.1) []))) (aj b.1)) (aP (az d.1 c.1.1) (ah (fO (eZ b.1 b.2.1 (D.add .i64 b.2.1 (aj (aT c.1.1 (ai d.1) [])))) (aT c.1.1
 (ai d.1) [])) (aP (az d.1 c.1.1) (Z (LO.ret () (aT c.1.1 (ai d.1) [],())))) (Z (LO.next (D.add .i64 d.1 1,()))))))) (Z (LO.next
 (D.add .i64 d.1 1,()))))) (Z (LO.out 0 d))) n (0,())) λd=>LO.el d (λ_ _=>Z (([],()),())) (λ_ g=>Z (g,())) λ_ _=>Y
def agI(n:Nat):OC:=⟨305,⟨P70,K10,J,F305 n⟩,cx [agF n] [(305,0,⟨[(6,cR)],[],[],0⟩)] n 10 305⟩
def MX(b:Y62)(d:(Int×U)×U):Bool:=
 iz b.2.1 (D.add .i64 b.2.1 d.1.1) (aj b.1)
def wA(b:Y62)(d:(Int×U)×U):L UInt8:=
 eZ b.1 b.2.1 (D.add .i64 b.2.1 d.1.1)
def MW(n:Nat):Bool×Y63×U->Y64:=
 λh=>Z ((eM.mk h.2.1.1 h.2.1.2.1 h.2.1.2.2.1 h.2.1.2.2.2.1,()),())
def UA(n:Nat)(b:Y62):Y64:=
 af (F303 n b) λg=>af (ah (D.bM 0 g.1.1) (aP (MX b g) (aP (MX b g) (af (F304 n (wA b g,())) λh=>Z (LO.next (W,(4,
 wA b g,h.1.1,b.2),()))))) (Z (LO.next (J,(0,[],0,b.2),())))) λ(h:Y65)=>LO.jn h (MW n) (λ_ _=>Y) (λ_ _=>Z
 ((cX,()),())) λ_ _=>Y
def F285:Nat->Y62->Y64:=
 λn b=>aP (az b.2.1 b.1) (af (F299 n (kA b.1 b.2.1,())) λc=>ah c.1.1 (af (F300 n (b.1,b.2.1,J,())) λd=>aP (MX b d)
 (af (F250 n (wA b d,())) λe=>af (ah e.1.1 (Z (LO.next (W,(3,wA b d,0,b.2),()))) (af (ah (D.eu (aj (wA b d)) 8)
 (Z (LO.next (W,(1,wA b d,0,b.2),()))) (Z (LO.next (J,(0,wA b d,0,b.2),())))) λ(g:Y65)=>LO.jn g (λh=>Z
 (LO.next (J,h.2))) (λ_ _=>Y) (λh _=>Z (LO.ret h ())) λ_ _=>Y)) λ(g:Y65)=>LO.jn g (MW n) (λ_ _=>Y) (λ
 _ _=>Z ((cX,()),())) λ_ _=>Y)) (aP (az b.2.1 b.1) (af (F301 n (kA b.1 b.2.1,())) λd=>ah d.1.1 (af (F300 n (b.1,
 D.add .i64 b.2.1 1,J,())) λe=>aP (iz b.2.1 (D.add .i64 (D.add .i64 b.2.1 1) e.1.1) (aj b.1)) (af (ah (D.eu (aj (eZ b.1 b.2.1
 (D.add .i64 (D.add .i64 b.2.1 1) e.1.1))) 8) (Z (LO.next (W,(2,eZ b.1 b.2.1 (D.add .i64 (D.add .i64 b.2.1 1) e.1.1),0,b.2),()))) (Z
 (LO.next (J,(0,eZ b.1 b.2.1 (D.add .i64 (D.add .i64 b.2.1 1) e.1.1),0,b.2),())))) λ(g:Y65)=>LO.jn g (MW n) (λ_ _=>Y) (λ
 _ _=>Z ((cX,()),())) λ_ _=>Y)) (aP (az b.2.1 b.1) (af (F302 n (kA b.1 b.2.1,())) λe=>ah e.1.1 (UA n b) (aP
 (az b.2.1 b.1) (ah (D.aH (kA b.1 b.2.1) 126) (UA n b) (af (F305 n b) λg=>ah (D.aK (fO g.1.1 [])) (Z ((eM.mk 5 g.1.1 0
 b.2.1,()),())) (Z ((eM.mk 0 g.1.1 0 b.2.1,()),()))))))))))
def agP(n:Nat):OC:=⟨285,⟨P70,K75,J,F285 n⟩,cx [ack n,acf n,ace n,agL n,acd n,agK n,agJ n,agI n] [(285,1000005,⟨[(24,cV),(0,Xc)],[.slot 5],[],0⟩),(285,1000007,⟨[(29,cV),(0,Xc)],[.slot 5],[],0⟩),(285,1000012,⟨[(50,cV),(0,Xc)],[.slot 5],[],0⟩),(285,1000017,⟨[(67,cV),(0,Xc)],[.slot 5],[],0⟩)] n 10 285⟩
def F245:Y59:=
 λn b=>af (F284 n (b.1,0,())) λc=>af (@iter (Y58) (Y58) (U) (Any) (λd=>ah (D.bM d.2.1 (aj b.1)) (af (F285 n (b.1,d.2)) λe
 =>ah (D.aH e.1.1.1 0) (Z (LO.ret () d)) (aP (dR d.1 [e.1.1]) (af (F284 n (b.1,D.add .i64 d.2.1 (aj e.1.1.2),())) λg=>Z (LO.next
 (dj d.1 [e.1.1],g.1))))) (Z (LO.out 0 d))) n ([],c.1)) λd=>LO.el d (λ_ g=>Z ((g.1,aj b.1,()),())) (λ_ g=>Z (g,()))
 λ_ _=>Y
def ag1(n:Nat):OC:=⟨245,⟨P7,K76,J,F245 n⟩,cx [agQ n,agP n] [(245,0,⟨[(4,.one (.own (.st 25))),(5,cR)],[],[],0⟩)] n 10 245⟩
def F179:Y59:=
 λn b=>ah (D.bM 8000 (aj b.1)) (Z (([],3,()),())) (af (F245 n b) λc=>ah (D.bM c.1.2.1 (aj b.1)) (Z (([],4,()),())) (Z
 ((c.1.1,0,()),())))
def ahD(n:Nat):OC:=⟨179,⟨P7,K76,J,F179 n⟩,cx [ag1 n] [] n 10 179⟩
def F247:Nat->bB×L UInt8×U->O fm:=
 λn b=>ah b.1.3 (Z ((J,()),())) (ah (D.eu (aj b.1.1) b.1.2) (Z ((J,()),())) (aP (az b.1.2 b.1.1) (ah (D.aH (aT b.1.1
 (ai b.1.2) cX).1 5) (Z ((fO (aT b.1.1 (ai b.1.2) cX).2 b.2.1,()),())) (ah (D.aH (aT b.1.1 (ai b.1.2) cX).1 3)
 (Z ((fO (aT b.1.1 (ai b.1.2) cX).2 b.2.1,()),())) (Z ((J,()),()))))))
def Zk(n:Nat):OC:=⟨247,⟨P77,K4,J,F247 n⟩,cx [] [] n 10 247⟩
def F182:Nat->aeZ->O aaQ:=
 λn b=>af (F247 n (bB.mk b.1.1 b.1.2.1 b.1.2.2.1,b.2)) λc=>ah c.1.1 (Z (c.1,(b.1.1,D.add .i64 b.1.2.1 1,b.1.2.2),()))
 (Z (c.1,b.1,()))
def CA(n:Nat):OC:=⟨182,⟨P78,K4,J,F182 n⟩,cx [Zk n] [] n 10 182⟩
def F180:Nat->aeZ->Xl:=
 λn b=>af (F182 n b) λc=>ah (D.aK c.1.1) (Z ((),(c.2.1.1,c.2.1.2.1,W,()),())) (Z ((),c.2))
def CB(n:Nat):OC:=⟨180,⟨P78,[],J,F180 n⟩,cx [CA n] [] n 10 180⟩
def F246:Nat->bB×Int×U->O fm:=
 λn b=>ah (D.aK b.1.3) (ah (D.bM b.1.2 (aj b.1.1)) (aP (az b.1.2 b.1.1) (Z ((D.aH (aT b.1.1 (ai b.1.2) cX).1 b.2.1,()),
 ()))) (Z ((J,()),()))) (Z ((J,()),()))
def Zl(n:Nat):OC:=⟨246,⟨P79,K4,J,F246 n⟩,cx [] [] n 10 246⟩
def F181:Nat->Y7×Int×U->O ((eM×U)×Y7×U):=
 λn b=>af (F246 n (bB.mk b.1.1 b.1.2.1 b.1.2.2.1,b.2)) λc=>ah (D.aK c.1.1) (Z ((cX,()),(b.1.1,b.1.2.1,W,
 ()),())) (aP (az b.1.2.1 b.1.1) (Z ((aT b.1.1 (ai b.1.2.1) cX,()),(b.1.1,D.add .i64 b.1.2.1 1,b.1.2.2),())))
def Hl(n:Nat):OC:=⟨181,⟨Kt,K75,J,F181 n⟩,cx [Zl n] [] n 10 181⟩
abbrev Lq(F:Fn jX K82 J):j0 sg:=⟨jX,K82,J,F⟩
def Nb(e:X9):bR:=
 bR.mk e.1.1.1 e.1.1.2 e.1.1.3 e.1.1.4
def B248:Nat->Y94->Y94->Y7×U->O X9:=
 λn f248 f286 d=>af (f286 d) λe=>af (F182 n (e.2.1,[45,62],())) λg=>ah g.1.1 (af (f248 g.2) λh=>Z ((bR.mk 4 0 []
 [Nb e,Nb h],()),h.2)) (Z ((Nb e,()),g.2))
abbrev Po(F:Fn jX K82 J):j0 sg:=⟨jX,K82,J,F⟩
def M8(n:Nat)(f248:Y94)(f306:aeR):X9->O X9:=
 λj=>Z ((bR.mk j.1.1.1 j.1.1.2 j.1.1.3 j.1.1.4,()),j.2)
def B286:Nat->Y94->aeR->Y7×U->O X9:=
 λn f248 f306 d=>af (F182 n (d.1,[105,110,116],())) λe=>ah e.1.1 (Z ((bR.mk 1 0 [] [],()),e.2)) (af (F182 n (e.2.1,[98,
 111,111,108],())) λg=>ah g.1.1 (Z ((bR.mk 2 0 [] [],()),g.2)) (af (F182 n (g.2.1,[117,110,105,116],())) λh=>ah h.1.1
 (Z ((bR.mk 3 0 [] [],()),h.2)) (af (F182 n (h.2.1,[99,101,108,108],())) λi=>ah i.1.1 (af (f306 (i.2.1,5,())) (M8 n f248
 f306)) (af (F182 n (i.2.1,[99,104,97,110],())) λj=>ah j.1.1 (af (f306 (j.2.1,6,())) (M8 n f248 f306)) (af (F182 n (j.2.1,[116,97,
 115,107],())) λk=>ah k.1.1 (af (f306 (k.2.1,7,())) (M8 n f248 f306)) (af (F182 n (k.2.1,[63],())) λl=>ah l.1.1 (af (F181 n
 (l.2.1,4,())) λm=>Z ((bR.mk 9 m.1.1.3 [] [],()),m.2)) (af (F182 n (l.2.1,[40],())) λm=>ah m.1.1 (af (f248 m.2) λo=>af
 (F180 n (o.2.1,[41],())) λp=>Z ((bR.mk o.1.1.1 o.1.1.2 o.1.1.3 o.1.1.4,()),p.2)) (af (F181 n (m.2.1,2,())) λo=>Z
 ((bR.mk 8 0 o.1.1.2 [],()),o.2)))))))))
abbrev VF(F:Fn Kt K82 J):j0 sg:=⟨Kt,K82,J,F⟩
def B306:Nat->Y94->Y7×Int×U->O X9:=
 λn f286 c=>af (f286 (c.1,())) λd=>Z ((bR.mk c.2.1 0 [] [bR.mk d.1.1.1 d.1.1.2 d.1.1.3 d.1.1.4],()),d.2)
def D248(n:Nat)(f248:Fn jX K82 J)(f286:Fn jX K82 J)(a:bw prog 248 (Lq f248))(b:bw prog 286 (Po f286)):bw prog 248 (Lq (B248 n f248 f286)):=cx [CA n,⟨248,Lq f248,a⟩,⟨286,Po f286,b⟩] [] n 10 248
def D286(n:Nat)(f248:Fn jX K82 J)(f306:Fn Kt K82 J)(a:bw prog 248 (Lq f248))(b:bw prog 306 (VF f306)):bw prog 286 (Po (B286 n f248 f306)):=cx [CB n,Hl n,CA n,⟨248,Lq f248,a⟩,⟨306,VF f306,b⟩] [] n 10 286
def D306(n:Nat)(f286:Fn jX K82 J)(a:bw prog 286 (Po f286)):bw prog 306 (VF (B306 n f286)):=cx [⟨286,Po f286,a⟩] [] n 10 306
def R248(n k:Nat):(Fn jX K82 J)×(Fn jX K82 J)×(Fn Kt K82 J):=Nat.rec (motive:=λ_=>(Fn jX K82 J)×(Fn jX K82 J)×(Fn Kt K82 J)) ((λ_=>Y,λ_=>Y,λ_=>Y)) (λ_ r=>(B248 n r.1 r.2.1,B286 n r.1 r.2.2,B306 n r.2.1)) k
def F248(n:Nat):Fn jX K82 J:=(R248 n n).1
def Yv(n:Nat):∀k,bw prog 248 (Lq (R248 n k).1)∧bw prog 286 (Po (R248 n k).2.1)∧bw prog 306 (VF (R248 n k).2.2)
 |0=>⟨bW (enters 248 (by kernel_rfl)),bW (enters 286 (by kernel_rfl)),bW (enters 306 (by kernel_rfl))⟩
 |k+1=>have a:=Yv n k
  ⟨D248 n _ _ a.1 a.2.1,D286 n _ _ a.1 a.2.2,D306 n _ a.2.1⟩
def acm(n:Nat):OC:=⟨248,Lq (F248 n),(Yv n n).1⟩
def F183:Nat->Y7×U->O ((jd×U)×Y7×U):=
 λn b=>af (F181 n (b.1,2,())) λc=>af (F180 n (c.2.1,[61],())) λd=>af (@iter (Bool×Y7×aeY×U) (U) (Y7×aeY×U)
 (Any) (λe=>ah e.1 (ah (D.aK e.2.1.2.2.1) (af (F181 n (e.2.1,2,())) λg=>af (F182 n (g.2.1,[40],())) λh=>af (ah h.1.1 (af
 (@iter (aeX) (U) (Y7×aaP×U) (Any) (λi=>ah i.1 (ah (D.aK i.2.1.2.2.1) (af (F248 n (i.2.1,())) λj=>aP (dR i.2.2.1.2.1
 [bR.mk j.1.1.1 j.1.1.2 j.1.1.3 j.1.1.4]) (af (F182 n (j.2.1,[44],())) λk=>Z (LO.next (k.1.1,k.2.1,(i.2.2.1.1,dj i.2.2.1.2.1
 [bR.mk j.1.1.1 j.1.1.2 j.1.1.3 j.1.1.4],()),())))) (Z (LO.out 0 i))) (Z (LO.out 0 i))) n (W,h.2.1,(g.1.1.2,[],()),())) λi=>
 LO.el i (λ_ k=>af (F180 n (k.2.1,[41],())) λl=>Z (LO.next (W,l.2.1,k.2.2))) (λj _=>Z (LO.ret j ())) λ_ _=>Y) (Z
 (LO.next (J,h.2.1,(g.1.1.2,[],()),())))) λ(i:LO aeX U (Y7×aaP×U) Any)=>LO.jn i (λj=>aP (dR e.2.2.1.2.1
 [gL.mk j.2.2.1.1 j.2.2.1.2.1]) (af (F182 n (j.2.1,[124],())) λk=>Z (LO.next (k.1.1,k.2.1,(e.2.2.1.1,dj e.2.2.1.2.1
 [gL.mk j.2.2.1.1 j.2.2.1.2.1],()),())))) (λ_ _=>Y) (λj _=>Z (LO.ret (j.1,e.2.2) ())) λ_ _=>Y) (Z (LO.out 0 e)))
 (Z (LO.out 0 e))) n (W,d.2.1,(c.1.1.2,[],()),())) λe=>LO.el e (λ_ h=>af (F180 n (h.2.1,[59],())) λi=>Z ((jd.mk
 h.2.2.1.1 h.2.2.1.2.1,()),i.2)) (λg _=>Z ((j9,()),g.1,())) λ_ _=>Y
def ahC(n:Nat):OC:=⟨183,⟨jX,K83,J,F183 n⟩,cx [CB n,Hl n,CA n,acm n] [(183,0,⟨[(4,cV),(0,uL),(0,.box (.cells [.dat (.str),.own (.st 18)]))],[.slot 0,.slot 3],[],0⟩),(183,2,⟨[(6,cV),(0,uL),(0,aem)],[.slot 0,.slot 5],[],0⟩),(183,1000007,⟨[(27,cV),(0,uL),(0,aem)],[.slot 0,.slot 5],[],0⟩)] n 10 183⟩
def F289:Nat->Int×Term×Term×U->O Uf:=
 λn b=>Z ((Term.mk b.1 0 [] [Term.mk b.2.1.1 b.2.1.2 b.2.1.3 b.2.1.4 b.2.1.5,Term.mk b.2.2.1.1 b.2.2.1.2 b.2.2.1.3 b.2.2.1.4 b.2.2.1.5] [],
 ()),())
def Wd(n:Nat):OC:=⟨289,⟨P84,K85,J,F289 n⟩,cx [] [] n 10 289⟩
abbrev RM(F:Fn jX K86 J):j0 sg:=⟨jX,K86,J,F⟩
def B319:Nat->(Y7×U->O Y8)->Y7×U->O Y8:=
 λn f319 c=>af (F182 n (c.1,[95],())) λd=>ah d.1.1 (Z ((aG.mk 1 0 [] [],()),d.2)) (af (F246 n (bB.mk d.2.1.1
 d.2.1.2.1 d.2.1.2.2.1,1,())) λe=>ah e.1.1 (af (F181 n (d.2.1,1,())) λg=>Z ((aG.mk 2 0 g.1.1.2 [],()),g.2)) (af (F246 n
 (bB.mk d.2.1.1 d.2.1.2.1 d.2.1.2.2.1,4,())) λg=>ah g.1.1 (af (F181 n (d.2.1,4,())) λh=>Z ((aG.mk 3 h.1.1.3 []
 [],()),h.2)) (af (F182 n (d.2.1,[116,114,117,101],())) λh=>ah h.1.1 (Z ((aG.mk 4 1 [] [],()),h.2)) (af (F182 n (h.2.1,[102,
 97,108,115,101],())) λi=>ah i.1.1 (Z ((aG.mk 4 0 [] [],()),i.2)) (af (F182 n (i.2.1,[40],())) λj=>ah j.1.1 (af (F180 n
 (j.2.1,[41],())) λk=>Z ((aG.mk 5 0 [] [],()),k.2)) (af (F181 n (j.2.1,2,())) λk=>af (F182 n (k.2.1,[40],())) λl=>ah
 l.1.1 (af (@iter (Bool×Y7×Y9×U) (U) (Y7×Y9×U) (Any) (λm=>ah m.1 (ah (D.aK m.2.1.2.2.1) (af (f319 (m.2.1,())) λo=>
 aP (dR m.2.2.1.2.2.2.1 [aG.mk o.1.1.1 o.1.1.2 o.1.1.3 o.1.1.4]) (af (F182 n (o.2.1,[44],())) λp=>Z (LO.next (p.1.1,p.2.1,
 (m.2.2.1.1,m.2.2.1.2.1,m.2.2.1.2.2.1,dj m.2.2.1.2.2.2.1 [aG.mk o.1.1.1 o.1.1.2 o.1.1.3 o.1.1.4],()),())))) (Z (LO.out 0 m))) (Z
 (LO.out 0 m))) n (W,l.2.1,(6,0,k.1.1.2,[],()),())) λm=>LO.el m (λ_ p=>af (F180 n (p.2.1,[41],())) λq=>Z ((aG.mk
 p.2.2.1.1 p.2.2.1.2.1 p.2.2.1.2.2.1 p.2.2.1.2.2.2.1,()),q.2)) (λo _=>Z ((aR,()),o.1,())) λ_ _=>Y) (Z ((aG.mk 6 0
 k.1.1.2 [],()),l.2))))))))
def D319(n:Nat)(f319:Fn jX K86 J)(a:bw prog 319 (RM f319)):bw prog 319 (RM (B319 n f319)):=cx [CB n,Hl n,CA n,Zl n,⟨319,RM f319,a⟩] [(319,1,⟨[(4,cV),(0,uL),(0,aay)],[.slot 0,.slot 3],[],0⟩)] n 10 319
def R319(n k:Nat):(Fn jX K86 J):=Nat.rec (motive:=λ_=>(Fn jX K86 J)) (λ_=>Y) (λ_ r=>B319 n r) k
def F319(n:Nat):Fn jX K86 J:=(R319 n n)
def Yl(n:Nat):∀k,bw prog 319 (RM (R319 n k))
 |0=>bW (enters 319 (by kernel_rfl))
 |k+1=>have a:=Yl n k
  D319 n _ a
def agD(n:Nat):OC:=⟨319,RM (F319 n),(Yl n n)⟩
def F318:Nat->L UInt8×U->O aeM:=
 λn b=>ah (fO b.1 [99,101,108,108]) (Z ((16,1,()),())) (ah (fO b.1 [103,101,116]) (Z ((17,1,()),())) (ah (fO b.1 [112,
 117,116]) (Z ((18,2,()),())) (ah (fO b.1 [115,112,97,119,110]) (Z ((19,1,()),())) (ah (fO b.1 [106,111,105,110]) (Z ((20,
 1,()),())) (ah (fO b.1 [99,104,97,110]) (Z ((21,0,()),())) (ah (fO b.1 [115,101,110,100]) (Z ((22,2,()),())) (ah (fO b.1
 [116,97,107,101]) (Z ((23,1,()),())) (ah (fO b.1 [111,117,116]) (Z ((24,(-1),()),())) (ah (fO b.1 [105,110,112,117,116])
 (Z ((25,0,()),())) (ah (fO b.1 [114,101,115,101,116]) (Z ((26,1,()),())) (ah (fO b.1 [112,97,117,115,101]) (Z ((28,0,
 ()),())) (Z ((0,0,()),())))))))))))))
def ab9(n:Nat):OC:=⟨318,⟨P7,K41,J,F318 n⟩,cx [] [] n 10 318⟩
def F314:Y87:=
 λn b=>ah b.1.3 (Z ((J,()),())) (ah (D.eu (aj b.1.1) b.1.2) (Z ((J,()),())) (aP (az b.1.2 b.1.1) (ah (D.aH (aT b.1.1
 (ai b.1.2) cX).1 3) (af (F318 n ((aT b.1.1 (ai b.1.2) cX).2,())) λc=>ah (D.aK (D.aH c.1.1 0)) (Z ((W,()),()))
 (ah (fO (aT b.1.1 (ai b.1.2) cX).2 [116,114,117,101]) (Z ((W,()),())) (ah (fO (aT b.1.1 (ai b.1.2) cX).2 [102,
 97,108,115,101]) (Z ((W,()),())) (Z ((fO (aT b.1.1 (ai b.1.2) cX).2 [109,97,116,99,104],()),()))))) (ah (D.aK
 (D.aH (aT b.1.1 (ai b.1.2) cX).1 5)) (Z ((W,()),())) (Z ((fO (aT b.1.1 (ai b.1.2) cX).2 [40],()),()))))))
def agE(n:Nat):OC:=⟨314,⟨P87,K4,J,F314 n⟩,cx [ab9 n] [] n 10 314⟩
abbrev vU(F:Fn jX K85 J):j0 sg:=⟨jX,K85,J,F⟩
def mO(h:sE):Term:=
 Term.mk h.1.1.1 h.1.1.2 h.1.1.3 h.1.1.4 h.1.1.5
def UY(o:Uf):Term:=
 Term.mk o.1.1.1 o.1.1.2 o.1.1.3 o.1.1.4 o.1.1.5
def B249:Nat->sC->(Y7×Int×U->O sE)->sC->Y7×U->O sE:=
 λn f249 f287 f288 e=>af (F182 n (e.1,[102,117,110],())) λg=>ah g.1.1 (af (f287 (g.2.1,5,())) λh=>Z ((mO h,()),h.2))
 (af (F182 n (g.2.1,[115,104,105,102,116],())) λh=>ah h.1.1 (af (f287 (h.2.1,27,())) λi=>Z ((mO i,()),i.2)) (af (F182 n
 (h.2.1,[108,101,116],())) λi=>ah i.1.1 (af (F181 n (i.2.1,1,())) λj=>af (F180 n (j.2.1,[61],())) λk=>af (f249 k.2) λl=>
 af (F180 n (l.2.1,[105,110],())) λm=>af (f249 m.2) λo=>Z ((Term.mk 7 0 j.1.1.2 [mO l,mO o] [],()),o.2)) (af (F182 n
 (i.2.1,[105,102],())) λj=>ah j.1.1 (af (f249 j.2) λk=>af (F180 n (k.2.1,[116,104,101,110],())) λl=>af (f249 l.2) λm=>
 af (F180 n (m.2.1,[101,108,115,101],())) λo=>af (f249 o.2) λp=>Z ((Term.mk 8 0 [] [mO k,mO m,mO p] [],()),p.2))
 (af (f288 j.2) λk=>af (F182 n (k.2.1,[60],())) λl=>ah l.1.1 (af (f288 l.2) λm=>af (F289 n (12,mO k,mO m,())) λo=>
 Z ((UY o,()),m.2)) (af (F182 n (l.2.1,[61,61],())) λm=>ah m.1.1 (af (f288 m.2) λo=>af (F289 n (13,mO k,mO o,()))
 λp=>Z ((UY p,()),o.2)) (Z ((mO k,()),m.2)))))))
abbrev VH(F:Fn Kt K85 J):j0 sg:=⟨Kt,K85,J,F⟩
def B287:Nat->sC->Y7×Int×U->O sE:=
 λn f249 c=>af (F181 n (c.1,1,())) λd=>af (F180 n (d.2.1,[61,62],())) λe=>af (f249 e.2) λg=>Z ((Term.mk c.2.1 0 d.1.1.2
 [Term.mk g.1.1.1 g.1.1.2 g.1.1.3 g.1.1.4 g.1.1.5] [],()),g.2)
abbrev VG(F:Fn jX K85 J):j0 sg:=⟨jX,K85,J,F⟩
def UX(e:Y7×pT×U):Term:=
 Term.mk e.2.1.1 e.2.1.2.1 e.2.1.2.2.1 e.2.1.2.2.2.1 e.2.1.2.2.2.2.1
def abb(l:Uf):pT×U:=
 ((l.1.1.1,l.1.1.2,l.1.1.3,l.1.1.4,l.1.1.5,()),())
def UW(n:Nat)(f307:sC)(e:Y7×pT×U):O (LO (Y7×pT×U) U (Y7×pT×U) Any):=
 af (F247 n (bB.mk e.1.1 e.1.2.1 e.1.2.2.1,[43],())) λh=>af (ah h.1.1 (Z (LO.next (9,W,()))) (Z (LO.next (10,J,
 ())))) λ(i:akl)=>LO.jn i (λj=>af (f307 ((e.1.1,D.add .i64 e.1.2.1 1,e.1.2.2),())) λk=>af (F289 n (j.1,UX e,Term.mk k.1.1.1
 k.1.1.2 k.1.1.3 k.1.1.4 k.1.1.5,())) λl=>Z (LO.next (k.2.1,abb l))) (λ_ _=>Y) (λ_ _=>Z (LO.ret e ())) λ_ _=>Y
def aba(d:sE):pT×U:=
 ((d.1.1.1,d.1.1.2,d.1.1.3,d.1.1.4,d.1.1.5,()),())
def B288:Xn:=
 λn f307 c=>af (f307 c) λd=>af (@iter (Y7×pT×U) (U) (Y7×pT×U) (Any) (λe=>ah (D.aK e.1.2.2.1) (af (F247 n
 (bB.mk e.1.1 e.1.2.1 e.1.2.2.1,[43],())) λg=>ah g.1.1 (UW n f307 e) (af (F247 n (bB.mk e.1.1 e.1.2.1
 e.1.2.2.1,[45],())) λh=>ah h.1.1 (UW n f307 e) (Z (LO.out 0 e)))) (Z (LO.out 0 e))) n (d.2.1,aba d)) λe=>LO.el e (λ_ h=>
 Z ((UX h,()),h.1,())) (λg _=>Z ((oZ,()),g.1,())) λ_ _=>Y
abbrev VE(F:Fn jX K85 J):j0 sg:=⟨jX,K85,J,F⟩
def UU(e:Y7×pT×U):Term:=
 Term.mk e.2.1.1 e.2.1.2.1 e.2.1.2.2.1 e.2.1.2.2.2.1 e.2.1.2.2.2.2.1
def aa9(i:Uf):pT×U:=
 ((i.1.1.1,i.1.1.2,i.1.1.3,i.1.1.4,i.1.1.5,()),())
def aa8(d:sE):pT×U:=
 ((d.1.1.1,d.1.1.2,d.1.1.3,d.1.1.4,d.1.1.5,()),())
def B307:Xn:=
 λn f312 c=>af (f312 c) λd=>af (@iter (Y7×pT×U) (U) (Y7×pT×U) (Any) (λe=>af (F182 n (e.1,[42],())) λg=>ah
 g.1.1 (af (f312 g.2) λh=>af (F289 n (11,UU e,Term.mk h.1.1.1 h.1.1.2 h.1.1.3 h.1.1.4 h.1.1.5,())) λi=>Z (LO.next (h.2.1,aa9
 i))) (Z (LO.out 0 (g.2.1,e.2)))) n (d.2.1,aa8 d)) λe=>LO.el e (λ_ h=>Z ((UU h,()),h.1,())) (λg _=>Z ((oZ,()),
 g.1,())) λ_ _=>Y
abbrev VD(F:Fn jX K85 J):j0 sg:=⟨jX,K85,J,F⟩
def UT(e:Y7×pT×U):Term:=
 Term.mk e.2.1.1 e.2.1.2.1 e.2.1.2.2.1 e.2.1.2.2.2.1 e.2.1.2.2.2.2.1
def aa7(i:Uf):pT×U:=
 ((i.1.1.1,i.1.1.2,i.1.1.3,i.1.1.4,i.1.1.5,()),())
def aa6(d:sE):pT×U:=
 ((d.1.1.1,d.1.1.2,d.1.1.3,d.1.1.4,d.1.1.5,()),())
def B312:Xn:=
 λn f313 c=>af (f313 c) λd=>af (@iter (Y7×pT×U) (U) (Y7×pT×U) (Any) (λe=>af (F314 n (bB.mk e.1.1
 e.1.2.1 e.1.2.2.1,())) λg=>ah g.1.1 (af (f313 (e.1,())) λh=>af (F289 n (6,UT e,Term.mk h.1.1.1 h.1.1.2 h.1.1.3 h.1.1.4 h.1.1.5,
 ())) λi=>Z (LO.next (h.2.1,aa7 i))) (Z (LO.out 0 e))) n (d.2.1,aa6 d)) λe=>LO.el e (λ_ h=>Z ((UT h,()),h.1,()))
 (λg _=>Z ((oZ,()),g.1,())) λ_ _=>Y
abbrev VC(F:Fn jX K85 J):j0 sg:=⟨jX,K85,J,F⟩
def M7(g:Y7×U):bB:=
 bB.mk g.1.1 g.1.2.1 g.1.2.2.1
def US(n:Nat)(f249:sC)(f315:aaS)(f316:sC)(f317:sC):sE->O sE:=
 λo=>Z ((Term.mk o.1.1.1 o.1.1.2 o.1.1.3 o.1.1.4 o.1.1.5,()),o.2)
def B313:Nat->sC->aaS->sC->sC->Y7×U->O sE:=
 λn f249 f315 f316 f317 g=>af (F246 n (M7 g,4,())) λh=>ah h.1.1 (af (F181 n (g.1,4,())) λi=>Z ((Term.mk 1 i.1.1.3 [] [] [],
 ()),i.2)) (af (F246 n (M7 g,1,())) λi=>ah i.1.1 (af (F181 n (g.1,1,())) λj=>Z ((Term.mk 4 0 j.1.1.2 [] [],()),j.2)) (af
 (F246 n (M7 g,2,())) λj=>ah j.1.1 (af (F181 n (g.1,2,())) λk=>af (F247 n (bB.mk k.2.1.1 k.2.1.2.1 k.2.1.2.2.1,
 [40],())) λl=>af (ah l.1.1 (af (f315 (k.2.1,(-1),())) λm=>Z (LO.next (W,m.2.1,(14,0,k.1.1.2,m.1.1,[],()),()))) (Z
 (LO.next (J,k.2.1,(14,0,k.1.1.2,[],[],()),())))) λ(m:LO ae0 U (Y7×pT×U) Any)=>LO.jn m (λo=>Z ((Term.mk
 o.2.2.1.1 o.2.2.1.2.1 o.2.2.1.2.2.1 o.2.2.1.2.2.2.1 [],()),o.2.1,())) (λ_ _=>Y) (λo _=>Z ((oZ,()),o.1,())) λ_ _=>Y)
 (af (F182 n (g.1,[116,114,117,101],())) λk=>ah k.1.1 (Z ((Term.mk 2 1 [] [] [],()),k.2)) (af (F182 n (k.2.1,[102,97,108,115,
 101],())) λl=>ah l.1.1 (Z ((Term.mk 2 0 [] [] [],()),l.2)) (af (F182 n (l.2.1,[109,97,116,99,104],())) λm=>ah m.1.1 (af (f316
 m.2) (US n f249 f315 f316 f317)) (af (F182 n (m.2.1,[40],())) λo=>ah o.1.1 (af (F182 n (o.2.1,[41],())) λp=>ah p.1.1 (Z
 ((Term.mk 3 0 [] [] [],()),p.2)) (af (f249 p.2) λq=>af (F180 n (q.2.1,[41],())) λr=>Z ((Term.mk q.1.1.1 q.1.1.2 q.1.1.3 q.1.1.4
 q.1.1.5,()),r.2))) (af (F246 n (bB.mk o.2.1.1 o.2.1.2.1 o.2.1.2.2.1,3,())) λp=>ah p.1.1 (af (f317 o.2) (US n f249 f315
 f316 f317)) (Z ((oZ,()),(o.2.1.1,o.2.1.2.1,W,()),())))))))))
abbrev Pn(F:Fn Kt K88 J):j0 sg:=⟨Kt,K88,J,F⟩
def Ie(n:Nat)(f249:sC)(c:Y7×Int×U)(g:aaQ):O Uc:=
 ah (D.bM 0 c.2.1) (af (F180 n (g.2.1,[44],())) λh=>Z (LO.next (W,h.2))) (Z (LO.next (J,g.2)))
def mN(e:sE):L Term:=
 [Term.mk e.1.1.1 e.1.1.2 e.1.1.3 e.1.1.4 e.1.1.5]
def M6(n:Nat)(f249:sC)(k:Ub):Uc->O (LO Ub (L Term×U) (Y7×U) Any):=
 λm=>LO.jn m (λo=>af (f249 o.2) λp=>aP (dR k.1 (mN p)) (Z (LO.next (dj k.1 (mN p),p.2)))) (λ_ _=>Y) (λo p=>
 Z (LO.ret o p)) λ_ _=>Y
def aa5(n:Nat)(f249:sC)(c:Y7×Int×U)(k:Ub):O Uc:=
 ah (D.bM 0 c.2.1) (af (F180 n (k.2.1,[44],())) λl=>Z (LO.next (W,l.2))) (Z (LO.next (J,k.2)))
def aa4(n:Nat)(m:Ub):Xl:=
 F180 n (m.2.1,[41],())
def M5(n:Nat)(f249:sC)(c:Y7×Int×U)(e:sE):Uc->aaT:=
 λh=>LO.jn h (λi=>af (f249 i.2) λj=>aP (dR (mN e) (mN j)) (af (@iter (Ub) (L Term×U) (Y7×U) (Any) (λk=>
 ah (D.bM c.2.1 0) (af (F182 n (k.2.1,[44],())) λl=>ah l.1.1 (af (Ie n f249 c l) (M6 n f249 k)) (ah (D.bM (aj k.1) c.2.1) (ah
 (D.aK l.2.1.2.2.1) (af (Ie n f249 c l) (M6 n f249 k)) (Z (LO.out 0 (k.1,l.2)))) (Z (LO.out 0 (k.1,l.2))))) (ah (D.bM (aj k.1)
 c.2.1) (ah (D.aK k.2.1.2.2.1) (af (aa5 n f249 c k) (M6 n f249 k)) (Z (LO.out 0 k))) (Z (LO.out 0 k)))) n (dj (mN e) (mN j),
 j.2)) λk=>LO.el k (λ_ m=>af (aa4 n m) λo=>Z ((m.1,()),o.2)) (λl m=>Z (m,l)) λ_ _=>Y)) (λ_ _=>Y) (λi
 j=>Z (j,i)) λ_ _=>Y
def UQ(n:Nat)(g:aaQ):Xl:=
 F180 n (g.2.1,[41],())
def aa3(n:Nat)(f249:sC)(c:Y7×Int×U)(e:sE):O Uc:=
 ah (D.bM 0 c.2.1) (af (F180 n (e.2.1,[44],())) λg=>Z (LO.next (W,g.2))) (Z (LO.next (J,e.2)))
def UP(n:Nat)(e:sE):Xl:=
 F180 n (e.2.1,[41],())
def B315:Nat->sC->Y7×Int×U->aaT:=
 λn f249 c=>af (F180 n (c.1,[40],())) λd=>af (f249 d.2) λe=>ah (D.bM c.2.1 0) (af (F182 n (e.2.1,[44],())) λg=>ah g.1.1
 (af (Ie n f249 c g) (M5 n f249 c e)) (ah (D.bM (aj (mN e)) c.2.1) (ah (D.aK g.2.1.2.2.1) (af (Ie n f249 c g) (M5 n f249 c
 e)) (af (UQ n g) λh=>Z ((mN e,()),h.2))) (af (UQ n g) λh=>Z ((mN e,()),h.2)))) (ah (D.bM (aj (mN e))
 c.2.1) (ah (D.aK e.2.1.2.2.1) (af (aa3 n f249 c e) (M5 n f249 c e)) (af (UP n e) λg=>Z ((mN e,()),g.2))) (af (UP n
 e) λg=>Z ((mN e,()),g.2)))
abbrev VB(F:Fn jX K85 J):j0 sg:=⟨jX,K85,J,F⟩
def wD(d:sE):L Term:=
 [Term.mk d.1.1.1 d.1.1.2 d.1.1.3 d.1.1.4 d.1.1.5]
def M4(l:Y8):L aG:=
 [aG.mk l.1.1.1 l.1.1.2 l.1.1.3 l.1.1.4]
def B316:Xn:=
 λn f249 c=>af (f249 c) λd=>af (F180 n (d.2.1,[123],())) λe=>ah (D.aK e.2.1.2.2.1) (af (F319 n e.2) λg=>af (F180 n (g.2.1,
 [45,62],())) λh=>af (f249 h.2) λi=>aP (dR (wD d) (wD i)) (af (F182 n (i.2.1,[124],())) λj=>af (@iter (ae0) (U) (Y7
 ×pT×U) (Any) (λk=>ah k.1 (ah (D.aK k.2.1.2.2.1) (af (F319 n (k.2.1,())) λl=>af (F180 n (l.2.1,[45,62],())) λm=>af
 (f249 m.2) λo=>aP (dR k.2.2.1.2.2.2.2.1 (M4 l)) (aP (dR k.2.2.1.2.2.2.1 (wD o)) (af (F182 n (o.2.1,[124],())) λp=>Z
 (LO.next (p.1.1,p.2.1,(k.2.2.1.1,k.2.2.1.2.1,k.2.2.1.2.2.1,dj k.2.2.1.2.2.2.1 (wD o),dj k.2.2.1.2.2.2.2.1 (M4 l),()),()))))) (Z
 (LO.out 0 k))) (Z (LO.out 0 k))) n (j.1.1,j.2.1,(15,0,[],dj (wD d) (wD i),M4 g,()),())) λk=>LO.el k (λ_ m=>af (F180
 n (m.2.1,[125],())) λo=>Z ((Term.mk m.2.2.1.1 m.2.2.1.2.1 m.2.2.1.2.2.1 m.2.2.1.2.2.2.1 m.2.2.1.2.2.2.2.1,()),o.2)) (λl _=>Z
 ((oZ,()),l.1,())) λ_ _=>Y)) (af (F180 n (e.2.1,[125],())) λg=>Z ((Term.mk 15 0 [] (wD d) [],()),g.2))
abbrev VA(F:Fn jX K85 J):j0 sg:=⟨jX,K85,J,F⟩
def M3(d:Y7×U):Y7:=
 (d.1.1,D.add .i64 d.1.2.1 1,d.1.2.2)
def B317:Nat->sC->aaS->Y7×U->O sE:=
 λn f249 f315 d=>aP (az d.1.2.1 d.1.1) (af (F318 n ((aT d.1.1 (ai d.1.2.1) cX).2,())) λe=>ah (D.aH e.1.1 0) (Z ((oZ,
 ()),(d.1.1,d.1.2.1,W,()),())) (ah (D.bM 0 e.1.2.1) (af (f315 (M3 d,e.1.2)) λg=>Z ((Term.mk e.1.1 0 [] g.1.1 [],()),g.2)) (ah
 (D.bM e.1.2.1 0) (af (F180 n (M3 d,[40],())) λg=>af (F181 n (g.2.1,4,())) λh=>af (F180 n (h.2.1,[44],())) λi=>af (f249
 i.2) λj=>af (F180 n (j.2.1,[41],())) λk=>Z ((Term.mk e.1.1 h.1.1.3 [] [Term.mk j.1.1.1 j.1.1.2 j.1.1.3 j.1.1.4 j.1.1.5] [],()),k.2))
 (Z ((Term.mk e.1.1 0 [] [] [],()),M3 d,())))))
def D249(n:Nat)(f249:Fn jX K85 J)(f287:Fn Kt K85 J)(f288:Fn jX K85 J)(a:bw prog 249 (vU f249))(b:bw prog 287 (VH f287))(c:bw prog 288 (VG f288)):bw prog 249 (vU (B249 n f249 f287 f288)):=cx [CB n,Hl n,CA n,⟨249,vU f249,a⟩,⟨287,VH f287,b⟩,⟨288,VG f288,c⟩,Wd n] [] n 10 249
def D287(n:Nat)(f249:Fn jX K85 J)(a:bw prog 249 (vU f249)):bw prog 287 (VH (B287 n f249)):=cx [CB n,Hl n,⟨249,vU f249,a⟩] [] n 10 287
def D288(n:Nat)(f307:Fn jX K85 J)(a:bw prog 307 (VE f307)):bw prog 288 (VG (B288 n f307)):=cx [Zk n,Wd n,⟨307,VE f307,a⟩] [(288,0,⟨[(0,uL),(0,b7z)],[.slot 0,.slot 3],[],0⟩),(288,1000005,⟨[(4,cR),(22,cV)],[],[],0⟩)] n 10 288
def D307(n:Nat)(f312:Fn jX K85 J)(a:bw prog 312 (VD f312)):bw prog 307 (VE (B307 n f312)):=cx [CA n,Wd n,⟨312,VD f312,a⟩] [(307,0,⟨[(0,uL),(0,b7z)],[.slot 0,.slot 3],[],0⟩)] n 10 307
def D312(n:Nat)(f313:Fn jX K85 J)(a:bw prog 313 (VC f313)):bw prog 312 (VD (B312 n f313)):=cx [Wd n,⟨313,VC f313,a⟩,agE n] [(312,0,⟨[(0,uL),(0,b7z)],[.slot 0,.slot 3],[],0⟩)] n 10 312
def D313(n:Nat)(f249:Fn jX K85 J)(f315:Fn Kt K88 J)(f316:Fn jX K85 J)(f317:Fn jX K85 J)(a:bw prog 249 (vU f249))(b:bw prog 315 (Pn f315))(c:bw prog 316 (VB f316))(d:bw prog 317 (VA f317)):bw prog 313 (VC (B313 n f249 f315 f316 f317)):=cx [CB n,Hl n,CA n,Zl n,Zk n,⟨249,vU f249,a⟩,⟨315,Pn f315,b⟩,⟨316,VB f316,c⟩,⟨317,VA f317,d⟩] [(313,1000008,⟨[(27,cV),(0,uL),(0,.box (.cells [kq,kq,.dat (.str),.dat (.sl (.st 20)),.nil (.st 0)]))],[.slot 0,.slot 3],[],0⟩)] n 10 313
def D315(n:Nat)(f249:Fn jX K85 J)(a:bw prog 249 (vU f249)):bw prog 315 (Pn (B315 n f249)):=cx [CB n,CA n,⟨249,vU f249,a⟩] [(315,0,⟨[(6,.one (.own (.st 20))),(0,uL)],[.slot 0],[],1⟩),(315,1000006,⟨[(34,cV),(0,uL)],[.slot 0],[],0⟩)] n 10 315
def D316(n:Nat)(f249:Fn jX K85 J)(a:bw prog 249 (vU f249)):bw prog 316 (VB (B316 n f249)):=cx [CB n,CA n,⟨249,vU f249,a⟩,agD n] [(316,0,⟨[(5,cV),(0,uL),(0,.box (.cells [kq,kq,.dat (.str),.own (.st 20),.own (.st 0)]))],[.slot 0,.slot 4],[],1⟩)] n 10 316
def D317(n:Nat)(f249:Fn jX K85 J)(f315:Fn Kt K88 J)(a:bw prog 249 (vU f249))(b:bw prog 315 (Pn f315)):bw prog 317 (VA (B317 n f249 f315)):=cx [CB n,Hl n,⟨249,vU f249,a⟩,⟨315,Pn f315,b⟩,ab9 n] [] n 10 317
def R249(n k:Nat):(Fn jX K85 J)×(Fn Kt K85 J)×(Fn jX K85 J)×(Fn jX K85 J)×(Fn jX K85 J)×(Fn jX K85 J)×(Fn Kt K88 J)×(Fn jX K85 J)×(Fn jX K85 J):=Nat.rec (motive:=λ_=>(Fn jX K85 J)×(Fn Kt K85 J)×(Fn jX K85 J)×(Fn jX K85 J)×(Fn jX K85 J)×(Fn jX K85 J)×(Fn Kt K88 J)×(Fn jX K85 J)×(Fn jX K85 J)) ((λ_=>Y,λ_=>Y,λ_=>Y,λ_=>Y,λ_=>Y,λ_=>Y,λ_=>Y,λ_=>Y,λ_=>Y)) (λ_ r=>(B249 n r.1 r.2.1 r.2.2.1,B287 n r.1,B288 n r.2.2.2.1,B307 n r.2.2.2.2.1,B312 n r.2.2.2.2.2.1,B313 n r.1 r.2.2.2.2.2.2.1 r.2.2.2.2.2.2.2.1 r.2.2.2.2.2.2.2.2,B315 n r.1,B316 n r.1,B317 n r.1 r.2.2.2.2.2.2.1)) k
def F249(n:Nat):Fn jX K85 J:=(R249 n n).1
def Yu(n:Nat):∀k,bw prog 249 (vU (R249 n k).1)∧bw prog 287 (VH (R249 n k).2.1)∧bw prog 288 (VG (R249 n k).2.2.1)∧bw prog 307 (VE (R249 n k).2.2.2.1)∧bw prog 312 (VD (R249 n k).2.2.2.2.1)∧bw prog 313 (VC (R249 n k).2.2.2.2.2.1)∧bw prog 315 (Pn (R249 n k).2.2.2.2.2.2.1)∧bw prog 316 (VB (R249 n k).2.2.2.2.2.2.2.1)∧bw prog 317 (VA (R249 n k).2.2.2.2.2.2.2.2)
 |0=>⟨bW (enters 249 (by kernel_rfl)),bW (enters 287 (by kernel_rfl)),bW (enters 288 (by kernel_rfl)),bW (enters 307 (by kernel_rfl)),bW (enters 312 (by kernel_rfl)),bW (enters 313 (by kernel_rfl)),bW (enters 315 (by kernel_rfl)),bW (enters 316 (by kernel_rfl)),bW (enters 317 (by kernel_rfl))⟩
 |k+1=>have a:=Yu n k
  ⟨D249 n _ _ _ a.1 a.2.1 a.2.2.1,D287 n _ a.1,D288 n _ a.2.2.2.1,D307 n _ a.2.2.2.2.1,D312 n _ a.2.2.2.2.2.1,D313 n _ _ _ _ a.1 a.2.2.2.2.2.2.1 a.2.2.2.2.2.2.2.1 a.2.2.2.2.2.2.2.2,D315 n _ a.1,D316 n _ a.1,D317 n _ _ a.1 a.2.2.2.2.2.2.1⟩
def ag0(n:Nat):OC:=⟨249,vU (F249 n),(Yu n n).1⟩
def F184:Nat->Y7×U->O aeO:=
 λn b=>af (F181 n (b.1,1,())) λc=>af (F180 n (c.2.1,[40],())) λd=>af (F181 n (d.2.1,1,())) λe=>af (F180 n (e.2.1,[58],
 ())) λg=>af (F248 n g.2) λh=>af (F180 n (h.2.1,[41],())) λi=>af (F180 n (i.2.1,[58],())) λj=>af (F248 n j.2) λk=>af
 (F180 n (k.2.1,[61],())) λl=>af (F249 n l.2) λm=>af (F180 n (m.2.1,[59],())) λo=>Z ((cq.mk c.1.1.2 e.1.1.2 (bR.mk
 h.1.1.1 h.1.1.2 h.1.1.3 h.1.1.4) (bR.mk k.1.1.1 k.1.1.2 k.1.1.3 k.1.1.4) (Term.mk m.1.1.1 m.1.1.2 m.1.1.3 m.1.1.4 m.1.1.5),()),o.2)
def ahB(n:Nat):OC:=⟨184,⟨jX,K89,J,F184 n⟩,cx [CB n,Hl n,acm n,ag0 n] [] n 10 184⟩
def UM(l:aeO):L cq:=
 [cq.mk l.1.1.1 l.1.1.2 (bR.mk l.1.1.3.1 l.1.1.3.2 l.1.1.3.3 l.1.1.3.4) (bR.mk l.1.1.4.1 l.1.1.4.2 l.1.1.4.3 l.1.1.4.4) (Term.mk
 l.1.1.5.1 l.1.1.5.2 l.1.1.5.3 l.1.1.5.4 l.1.1.5.5)]
def F136:Nat->Y7×U->O ((dK×U)×Y7×U):=
 λn b=>af (F180 n (b.1,[109,111,100,117,108,101],())) λc=>af (F181 n (c.2.1,1,())) λd=>af (F180 n (d.2.1,[123],())) λe
 =>af (@iter (Xk) (U) (Xk) (Any) (λg=>af (F182 n (g.1,[116,121,112,101],())) λh=>ah h.1.1 (af (F183 n h.2) λi=>aP (dR
 g.2.1.2.1 [i.1.1]) (Z (LO.next (i.2.1,(g.2.1.1,dj g.2.1.2.1 [i.1.1],g.2.1.2.2),())))) (Z (LO.out 0 (h.2.1,g.2)))) n (e.2.1,(d.1.1.2,[],
 [],()),())) λg=>LO.el g (λ_ i=>af (@iter (Xk) (U) (Xk) (Any) (λj=>af (F182 n (j.1,[102,117,110],())) λk=>ah k.1.1
 (af (F184 n k.2) λl=>aP (dR j.2.1.2.2.1 (UM l)) (Z (LO.next (l.2.1,(j.2.1.1,j.2.1.2.1,dj j.2.1.2.2.1 (UM l),()),())))) (Z
 (LO.out 0 (k.2.1,j.2)))) n i) λj=>LO.el j (λ_ l=>af (F180 n (l.1,[125],())) λm=>Z ((dK.mk l.2.1.1 l.2.1.2.1 l.2.1.2.2.1,
 ()),m.2)) (λk _=>Z ((iZ,()),k.1,())) λ_ _=>Y) (λh _=>Z ((iZ,()),h.1,())) λ_ _=>Y
def ahT(n:Nat):OC:=⟨136,⟨jX,K90,J,F136 n⟩,cx [CB n,Hl n,CA n,ahC n,ahB n] [(136,0,⟨[(0,uL),(0,aen)],[.slot 0,.slot 3],[],0⟩),(136,2,⟨[(0,uL),(0,aen)],[.slot 0,.slot 3],[],0⟩)] n 10 136⟩
def F137:Y87:=
 λn b=>ah (D.aK b.1.3) (Z ((D.aH b.1.2 (aj b.1.1),()),())) (Z ((J,()),()))
def ahS(n:Nat):OC:=⟨137,⟨P87,K4,J,F137 n⟩,cx [] [] n 10 137⟩
def F161:Y33:=
 λn b=>af (@iter (Int×U) (Bool×U) (U) (Any) (λc=>ah (D.bM c.1 (aj b.1)) (aP (az c.1 b.1) (ah (D.bM (kA b.1 c.1) 97)
 (Z (LO.ret () (J,()))) (aP (az c.1 b.1) (ah (D.bM 122 (kA b.1 c.1)) (Z (LO.ret () (J,()))) (Z (LO.next (D.add .i64 c.1 1,
 ()))))))) (Z (LO.out 0 c))) n (0,())) λc=>LO.el c (λ_ _=>Z ((W,()),())) (λ_ e=>Z (e,())) λ_ _=>Y
def acu(n:Nat):OC:=⟨161,⟨P7,K4,J,F161 n⟩,cx [] [(161,0,⟨[(3,cR)],[],[],0⟩)] n 10 161⟩
def F185:Y33:=
 λn b=>ah (D.eu 1 (aj b.1)) (ah (D.eu (aj b.1) 8) (af (F161 n b) λc=>ah c.1.1 (af (F250 n b) λd=>Z ((D.aK d.1.1,()),
 ())) (Z ((J,()),()))) (Z ((J,()),()))) (Z ((J,()),()))
def Zm(n:Nat):OC:=⟨185,⟨P7,K4,J,F185 n⟩,cx [acu n,ack n] [] n 10 185⟩
def F186:Y67:=
 λn b=>ah (D.eu b.2.1 b.1) (Z ((D.eu b.1 b.2.2.1,()),())) (Z ((J,()),()))
def SW(n:Nat):OC:=⟨186,⟨P6,K4,J,F186 n⟩,cx [] [] n 10 186⟩
def F93:Y33:=
 λn b=>ah (D.eu 1 (aj b.1)) (ah (D.eu (aj b.1) 8) (aP (az 0 b.1) (ah (D.eu 65 (kA b.1 0)) (aP (az 0 b.1) (ah (D.eu (kA b.1 0)
 90) (aP (iz 1 (aj b.1) (aj b.1)) (af (F161 n (eZ b.1 1 (aj b.1),())) λc=>Z c)) (Z ((J,()),())))) (Z ((J,()),
 ())))) (Z ((J,()),()))) (Z ((J,()),()))
def k93(n:Nat):OC:=⟨93,⟨P7,K4,J,F93 n⟩,cx [acu n] [] n 10 93⟩
abbrev RV(F:Fn P91 K2 J):j0 sg:=⟨P91,K2,J,F⟩
def B251:Nat->(aez->DF)->aez->DF:=
 λn f251 c=>ah (D.bM c.2.1 1) (Z (((-1),()),())) (af (@iter (Int×Int×U) (Int×U) (U) (Any) (λd=>ah (D.bM d.2.1 (aj
 c.1.4)) (ah (D.eu 0 d.1) (aP (az d.2.1 c.1.4) (af (f251 (aT c.1.4 (ai d.2.1) lC,d.1,())) λe=>Z (LO.next (e.1.1,D.add .i64
 d.2.1 1,())))) (Z (LO.out 0 d))) (Z (LO.out 0 d))) n (D.eD .i64 c.2.1 1,0,())) λd=>LO.el d (λ_ g=>Z ((g.1,()),())) (λ_ g
 =>Z (g,())) λ_ _=>Y)
def D251(n:Nat)(f251:Fn P91 K2 J)(a:bw prog 251 (RV f251)):bw prog 251 (RV (B251 n f251)):=cx [⟨251,RV f251,a⟩] [(251,0,⟨[(1,cR),(5,cR)],[],[],0⟩)] n 10 251
def R251(n k:Nat):(Fn P91 K2 J):=Nat.rec (motive:=λ_=>(Fn P91 K2 J)) (λ_=>Y) (λ_ r=>B251 n r) k
def F251(n:Nat):Fn P91 K2 J:=(R251 n n)
def Yt(n:Nat):∀k,bw prog 251 (RV (R251 n k))
 |0=>bW (enters 251 (by kernel_rfl))
 |k+1=>have a:=Yt n k
  D251 n _ a
def agZ(n:Nat):OC:=⟨251,RV (F251 n),(Yt n n)⟩
abbrev RU(F:Fn P92 K4 J):j0 sg:=⟨P92,K4,J,F⟩
def B252:Nat->(aeV->O fm)->aeV->O fm:=
 λn f252 c=>af (ah (D.aH c.1.1 1) (Z (LO.next (W,()))) (af (ah (D.aH c.1.1 2) (Z (LO.next (W,()))) (Z (LO.next (D.aH c.1.1
 3,())))) λ(d:DE)=>LO.jn d (λe=>Z (LO.next e)) (λ_ _=>Y) (λ_ g=>Z (LO.ret () g)) λ_ _=>Y)) λ(d:DE)=>
 LO.jn d (λe=>af (ah e.1 (ah (D.aH (aj c.1.4) 0) (ah (D.aH c.1.2 0) (Z (LO.next (fO c.1.3 [],W,()))) (Z (LO.next (J,W,
 ())))) (Z (LO.next (J,W,())))) (af (ah (D.aH c.1.1 4) (ah (D.aH (aj c.1.4) 2) (ah (D.aH c.1.2 0) (Z (LO.next (fO c.1.3 [],
 W,()))) (Z (LO.next (J,W,())))) (Z (LO.next (J,W,())))) (af (ah (D.aH c.1.1 5) (Z (LO.next (W,()))) (af (ah
 (D.aH c.1.1 6) (Z (LO.next (W,()))) (Z (LO.next (D.aH c.1.1 7,())))) λ(g:DE)=>LO.jn g (λh=>Z (LO.next h)) (λ_ _=>
 Y) (λ_ i=>Z (LO.ret () i)) λ_ _=>Y)) λ(g:DE)=>LO.jn g (λh=>af (ah h.1 (ah (D.aH (aj c.1.4) 1) (ah (D.aH c.1.2
 0) (Z (LO.next (fO c.1.3 [],W,()))) (Z (LO.next (J,W,())))) (Z (LO.next (J,W,())))) (af (ah (D.aH c.1.1 8) (ah
 (D.aH (aj c.1.4) 0) (ah (D.aH c.1.2 0) (af (F93 n (c.1.3,())) λi=>Z (LO.next (i.1.1,W,()))) (Z (LO.next (J,W,()))))
 (Z (LO.next (J,W,())))) (af (ah (D.aH c.1.1 9) (ah c.2.1 (ah (D.aH (aj c.1.4) 0) (ah (fO c.1.3 []) (af (F186 n (c.1.2,0,99,
 ())) λi=>Z (LO.next (i.1.1,W,()))) (Z (LO.next (J,W,())))) (Z (LO.next (J,W,())))) (Z (LO.next (J,W,
 ())))) (Z (LO.next (J,J,())))) λ(i:Ij)=>LO.jn i (λj=>Z (LO.next (j.1,J,()))) (λ_ _=>Y) (λ_ k=>Z
 (LO.ret () k)) λ_ _=>Y)) λ(i:Ij)=>LO.jn i (λj=>Z (LO.next (j.1,J,()))) (λ_ _=>Y) (λ_ k=>Z (LO.ret () k))
 λ_ _=>Y)) λ(i:Ij)=>LO.jn i (λj=>Z (LO.next (j.1,J,()))) (λ_ _=>Y) (λ_ k=>Z (LO.ret () k)) λ_ _=>
 Y) (λ_ _=>Y) (λ_ i=>Z (LO.ret () i)) λ_ _=>Y)) λ(g:Ij)=>LO.jn g (λh=>Z (LO.next (h.1,J,()))) (λ_ _
 =>Y) (λ_ i=>Z (LO.ret () i)) λ_ _=>Y)) λ(g:Ij)=>LO.jn g (λh=>af (@iter (Bool×Int×U) (Bool×U) (U) (Any)
 (λi=>ah (D.bM i.2.1 (aj c.1.4)) (ah i.1 (aP (az i.2.1 c.1.4) (af (f252 (aT c.1.4 (ai i.2.1) lC,c.2)) λj=>Z (LO.next
 (j.1.1,D.add .i64 i.2.1 1,())))) (Z (LO.out 0 i))) (Z (LO.out 0 i))) n (h.1,0,())) λi=>LO.el i (λ_ k=>Z ((k.1,()),())) (λ_
 k=>Z (k,())) λ_ _=>Y) (λ_ _=>Y) (λ_ i=>Z (i,())) λ_ _=>Y) (λ_ _=>Y) (λ_ g=>Z (g,())) λ_ _=>
 Y
def D252(n:Nat)(f252:Fn P92 K4 J)(a:bw prog 252 (RU f252)):bw prog 252 (RU (B252 n f252)):=cx [k93 n,SW n,⟨252,RU f252,a⟩] [(252,1,⟨[(6,cV),(7,cR)],[],[],0⟩),(252,1000005,⟨[(13,cV)],[],[],0⟩),(252,1000006,⟨[(13,cV)],[],[],0⟩),(252,1000007,⟨[(6,cV),(13,cV)],[],[],0⟩),(252,1000009,⟨[(6,cV),(29,cV)],[],[],0⟩),(252,1000011,⟨[(43,cV)],[],[],0⟩),(252,1000012,⟨[(43,cV)],[],[],0⟩),(252,1000013,⟨[(6,cV),(43,cV)],[],[],0⟩),(252,1000015,⟨[(6,cV),(59,cV)],[],[],0⟩),(252,1000017,⟨[(6,cV),(73,cV)],[],[],0⟩)] n 10 252
def R252(n k:Nat):(Fn P92 K4 J):=Nat.rec (motive:=λ_=>(Fn P92 K4 J)) (λ_=>Y) (λ_ r=>B252 n r) k
def F252(n:Nat):Fn P92 K4 J:=(R252 n n)
def Ys(n:Nat):∀k,bw prog 252 (RU (R252 n k))
 |0=>bW (enters 252 (by kernel_rfl))
 |k+1=>have a:=Ys n k
  D252 n _ a
def agY(n:Nat):OC:=⟨252,RU (F252 n),(Ys n n)⟩
def F188:Nat->bR×U->O fm:=
 λn b=>af (F251 n (bR.mk b.1.1 b.1.2 b.1.3 b.1.4,12,())) λc=>ah (D.eu 0 c.1.1) (af (F252 n (bR.mk b.1.1 b.1.2 b.1.3 b.1.4,
 J,())) λd=>Z d) (Z ((J,()),()))
def acr(n:Nat):OC:=⟨188,⟨P93,K4,J,F188 n⟩,cx [agZ n,agY n] [] n 10 188⟩
def F187:Nat->jd×U->O fm:=
 λn b=>af (F93 n (b.1.1,())) λc=>ah (D.aK c.1.1) (Z ((J,()),())) (af (F186 n (aj b.1.2,1,5,())) λd=>ah (D.aK
 d.1.1) (Z ((J,()),())) (af (@iter (Int×U) (Bool×U) (U) (Any) (λe=>ah (D.bM e.1 (aj b.1.2)) (aP (az e.1 b.1.2) (af
 (F93 n ((aT b.1.2 (ai e.1) gA).1,())) λg=>ah (D.aK g.1.1) (Z (LO.ret () (J,()))) (ah (D.bM 3 (aj (aT b.1.2 (ai e.1)
 gA).2)) (Z (LO.ret () (J,()))) (af (@iter (Int×U) (Bool×U) (U) (Any) (λh=>ah (D.bM h.1 (aj (aT b.1.2 (ai
 e.1) gA).2)) (aP (az h.1 (aT b.1.2 (ai e.1) gA).2) (af (F188 n (aT (aT b.1.2 (ai e.1) gA).2 (ai h.1) lC,
 ())) λi=>ah (D.aK i.1.1) (Z (LO.ret () (J,()))) (Z (LO.next (D.add .i64 h.1 1,()))))) (Z (LO.out 0 h))) n (0,())) λh=>
 LO.el h (λ_ _=>Z (LO.next (D.add .i64 e.1 1,()))) (λ_ j=>Z (LO.ret () j)) λ_ _=>Y)))) (Z (LO.out 0 e))) n (0,())) λe=>
 LO.el e (λ_ _=>Z ((W,()),())) (λ_ h=>Z (h,())) λ_ _=>Y))
def ahA(n:Nat):OC:=⟨187,⟨P94,K4,J,F187 n⟩,cx [k93 n,SW n,acr n] [(187,0,⟨[(3,cR)],[],[],0⟩),(187,2,⟨[(5,cR)],[],[],0⟩)] n 10 187⟩
abbrev RS(F:Fn P95 K2 J):j0 sg:=⟨P95,K2,J,F⟩
def B253:Nat->(Y55->DF)->Y55->DF:=
 λn f253 c=>ah (D.bM c.2.1 1) (Z (((-1),()),())) (ah (D.bM c.2.2.1 1) (Z (((-1),()),())) (af (@iter (Int×Int×U) (Int×U)
 (U) (Any) (λd=>ah (D.bM d.2.1 (aj c.1.4)) (ah (D.eu 0 d.1) (aP (az d.2.1 c.1.4) (af (f253 (aT c.1.4 (ai d.2.1) oZ,d.1,D.eD .i64
 c.2.2.1 1,())) λe=>Z (LO.next (e.1.1,D.add .i64 d.2.1 1,())))) (Z (LO.out 0 d))) (Z (LO.out 0 d))) n (D.eD .i64 c.2.1 1,0,())) λ
 d=>LO.el d (λ_ g=>Z ((g.1,()),())) (λ_ g=>Z (g,())) λ_ _=>Y))
def D253(n:Nat)(f253:Fn P95 K2 J)(a:bw prog 253 (RS f253)):bw prog 253 (RS (B253 n f253)):=cx [⟨253,RS f253,a⟩] [(253,0,⟨[(1,cR),(7,cR)],[],[],0⟩)] n 10 253
def R253(n k:Nat):(Fn P95 K2 J):=Nat.rec (motive:=λ_=>(Fn P95 K2 J)) (λ_=>Y) (λ_ r=>B253 n r) k
def F253(n:Nat):Fn P95 K2 J:=(R253 n n)
def Yr(n:Nat):∀k,bw prog 253 (RS (R253 n k))
 |0=>bW (enters 253 (by kernel_rfl))
 |k+1=>have a:=Yr n k
  D253 n _ a
def agX(n:Nat):OC:=⟨253,RS (F253 n),(Yr n n)⟩
def Ux(n:Nat)(b:aaO):O fm:=
 ah b.2.2.2.1 (Z ((W,()),())) (Z ((D.aH (aj b.1.5) 0,()),()))
def Uw(n:Nat)(b:aaO):O fm:=
 ah b.2.2.1 (Ux n b) (ah (fO b.1.3 []) (Ux n b) (Z ((J,()),())))
def F308:Nat->aaO->O fm:=
 λn b=>ah b.2.1 (Uw n b) (ah (D.aH b.1.2 0) (Uw n b) (Z ((J,()),())))
def agH(n:Nat):OC:=⟨308,⟨P96,K4,J,F308 n⟩,cx [] [] n 10 308⟩
def DL(b:Term×U):Term:=
 Term.mk b.1.1 b.1.2 b.1.3 b.1.4 b.1.5
def MV(n:Nat)(b:Term×U):O fm:=
 F308 n (DL b,W,J,J,())
def iq(n:Nat):O fm:=
 Z ((J,()),())
def Uz(n:Nat):DE->O DE:=
 λc=>LO.jn c (λd=>Z (LO.next d)) (λ_ _=>Y) (λ_ e=>Z (LO.ret () e)) λ_ _=>Y
def HX(n:Nat)(b:Term×U):O fm:=
 af (F308 n (DL b,J,J,J,())) λe=>Z e
def MU(n:Nat)(b:Term×U):O fm:=
 af (F308 n (DL b,J,W,J,())) λe=>ah e.1.1 (af (F185 n (b.1.3,())) λg=>Z g) (iq n)
def HW(n:Nat):DE->O DE:=
 λh=>LO.jn h (λi=>Z (LO.next i)) (λ_ _=>Y) (λ_ j=>Z (LO.ret () j)) λ_ _=>Y
def zj(n:Nat):DE->O DE:=
 λj=>LO.jn j (λk=>Z (LO.next k)) (λ_ _=>Y) (λ_ l=>Z (LO.ret () l)) λ_ _=>Y
def HV(n:Nat):U->Bool×U->O fm:=
 λ_ l=>Z (l,())
def F291:Y84:=
 λn b=>ah (D.aH b.1.1 1) (ah (D.aH (aj b.1.4) 0) (af (MV n b) λc=>ah c.1.1 (af (F186 n (b.1.2,(-1000000000),1000000000,()))
 λd=>Z d) (iq n)) (iq n)) (ah (D.aH b.1.1 2) (ah (D.aH (aj b.1.4) 0) (af (MV n b) λc=>ah c.1.1 (af (F186 n (b.1.2,0,
 1,())) λd=>Z d) (iq n)) (iq n)) (af (ah (D.aH b.1.1 3) (Z (LO.next (W,()))) (af (ah (D.aH b.1.1 21) (Z (LO.next (W,
 ()))) (af (ah (D.aH b.1.1 25) (Z (LO.next (W,()))) (Z (LO.next (D.aH b.1.1 28,())))) (Uz n))) (Uz n))) λ(c:DE)=>LO.jn c
 (λd=>ah d.1 (ah (D.aH (aj b.1.4) 0) (HX n b) (iq n)) (ah (D.aH b.1.1 4) (ah (D.aH (aj b.1.4) 0) (MU n b) (iq n)) (af
 (ah (D.aH b.1.1 5) (Z (LO.next (W,()))) (Z (LO.next (D.aH b.1.1 27,())))) λ(e:DE)=>LO.jn e (λg=>ah g.1 (ah (D.aH (aj
 b.1.4) 1) (MU n b) (iq n)) (ah (D.aH b.1.1 7) (ah (D.aH (aj b.1.4) 2) (MU n b) (iq n)) (ah (D.aH b.1.1 8) (ah (D.aH (aj
 b.1.4) 3) (HX n b) (iq n)) (ah (D.aH b.1.1 14) (ah (D.eu (aj b.1.4) 3) (af (F308 n (DL b,J,W,J,())) λh=>ah
 h.1.1 (af (F93 n (b.1.3,())) λi=>Z i) (iq n)) (iq n)) (ah (D.aH b.1.1 15) (af (F186 n (aj b.1.5,1,5,())) λh=>ah h.1.1
 (ah (D.aH (aj b.1.4) (D.add .i64 1 (aj b.1.5))) (af (F308 n (DL b,J,J,W,())) λi=>Z i) (iq n)) (iq n)) (af
 (ah (D.aH b.1.1 16) (Z (LO.next (W,()))) (af (ah (D.aH b.1.1 17) (Z (LO.next (W,()))) (af (ah (D.aH b.1.1 19) (Z (LO.next
 (W,()))) (af (ah (D.aH b.1.1 20) (Z (LO.next (W,()))) (af (ah (D.aH b.1.1 23) (Z (LO.next (W,()))) (Z (LO.next (D.aH b.1.1
 26,())))) (HW n))) (HW n))) (HW n))) (HW n))) λ(h:DE)=>LO.jn h (λi=>ah i.1 (ah (D.aH (aj b.1.4) 1) (HX n b)
 (iq n)) (ah (D.aH b.1.1 24) (ah (D.aH (aj b.1.4) 1) (af (MV n b) λj=>ah j.1.1 (af (F186 n (b.1.2,0,3,())) λk=>Z k)
 (iq n)) (iq n)) (af (ah (D.aH b.1.1 6) (Z (LO.next (W,()))) (af (ah (D.aH b.1.1 9) (Z (LO.next (W,()))) (af (ah (D.aH
 b.1.1 10) (Z (LO.next (W,()))) (af (ah (D.aH b.1.1 11) (Z (LO.next (W,()))) (af (ah (D.aH b.1.1 12) (Z (LO.next (W,())))
 (af (ah (D.aH b.1.1 13) (Z (LO.next (W,()))) (af (ah (D.aH b.1.1 18) (Z (LO.next (W,()))) (Z (LO.next (D.aH b.1.1 22,()))))
 (zj n))) (zj n))) (zj n))) (zj n))) (zj n))) (zj n))) λ(j:DE)=>LO.jn j (λk=>ah k.1 (ah (D.aH (aj b.1.4) 2)
 (HX n b) (iq n)) (iq n)) (λ_ _=>Y) (HV n) λ_ _=>Y))) (λ_ _=>Y) (HV n) λ_ _=>Y)))))) (λ_ _=>
 Y) (HV n) λ_ _=>Y))) (λ_ _=>Y) (HV n) λ_ _=>Y))
def agN(n:Nat):OC:=⟨291,⟨Yc,K4,J,F291 n⟩,cx [k93 n,Zm n,SW n,agH n] [(291,1000008,⟨[(35,cV)],[],[],0⟩),(291,1000009,⟨[(35,cV)],[],[],0⟩),(291,1000010,⟨[(35,cV)],[],[],0⟩),(291,1000015,⟨[(59,cV)],[],[],0⟩),(291,1000026,⟨[(125,cV)],[],[],0⟩),(291,1000027,⟨[(125,cV)],[],[],0⟩),(291,1000028,⟨[(125,cV)],[],[],0⟩),(291,1000029,⟨[(125,cV)],[],[],0⟩),(291,1000030,⟨[(125,cV)],[],[],0⟩),(291,1000035,⟨[(151,cV)],[],[],0⟩),(291,1000036,⟨[(151,cV)],[],[],0⟩),(291,1000037,⟨[(151,cV)],[],[],0⟩),(291,1000038,⟨[(151,cV)],[],[],0⟩),(291,1000039,⟨[(151,cV)],[],[],0⟩),(291,1000040,⟨[(151,cV)],[],[],0⟩),(291,1000041,⟨[(151,cV)],[],[],0⟩)] n 10 291⟩
def F94:aeB:=
 λn b=>af (@iter (Int×U) (Bool×U) (U) (Any) (λc=>ah (D.bM c.1 (aj b.1)) (aP (iz 0 c.1 (aj b.1)) (aP (az c.1 b.1)
 (af (F142 n (eZ b.1 0 c.1,aT b.1 (ai c.1) [],())) λd=>ah d.1.1 (Z (LO.ret () (J,()))) (Z (LO.next (D.add .i64 c.1 1,()))))))
 (Z (LO.out 0 c))) n (0,())) λc=>LO.el c (λ_ _=>Z ((W,()),())) (λ_ e=>Z (e,())) λ_ _=>Y
def k94(n:Nat):OC:=⟨94,⟨P9,K4,J,F94 n⟩,cx [Wj n] [(94,0,⟨[(3,cR)],[],[],0⟩)] n 10 94⟩
abbrev RQ(F:Fn P3 K72 J):j0 sg:=⟨P3,K72,J,F⟩
def B255:Nat->(aG×U->O (QL×U))->aG×U->O (QL×U):=
 λn f255 c=>ah (D.aH c.1.1 2) (Z (([c.1.3],()),())) (af (@iter (QM) (QL) (U) (Any) (λd=>ah (D.bM d.2.1 (aj c.1.4)) (aP
 (az d.2.1 c.1.4) (af (f255 (aT c.1.4 (ai d.2.1) aR,())) λe=>aP (dR d.1 e.1.1) (Z (LO.next (dj d.1 e.1.1,D.add .i64 d.2.1 1,
 ()))))) (Z (LO.out 0 d))) n ([],0,())) λd=>LO.el d (λ_ g=>Z ((g.1,()),())) (λ_ g=>Z (g,())) λ_ _=>Y)
def D255(n:Nat)(f255:Fn P3 K72 J)(a:bw prog 255 (RQ f255)):bw prog 255 (RQ (B255 n f255)):=cx [⟨255,RQ f255,a⟩] [(255,0,⟨[(3,.one (.own (.str))),(4,cR)],[],[],0⟩)] n 10 255
def R255(n k:Nat):(Fn P3 K72 J):=Nat.rec (motive:=λ_=>(Fn P3 K72 J)) (λ_=>Y) (λ_ r=>B255 n r) k
def F255(n:Nat):Fn P3 K72 J:=(R255 n n)
def Yp(n:Nat):∀k,bw prog 255 (RQ (R255 n k))
 |0=>bW (enters 255 (by kernel_rfl))
 |k+1=>have a:=Yp n k
  D255 n _ a
def acj(n:Nat):OC:=⟨255,RQ (F255 n),(Yp n n)⟩
abbrev RN(F:Fn P3 K4 J):j0 sg:=⟨P3,K4,J,F⟩
def B309:Y37:=
 λn f309 c=>af (ah (D.aH c.1.1 1) (Z (LO.next (W,()))) (Z (LO.next (D.aH c.1.1 5,())))) λ(d:DE)=>LO.jn d (λe=>af (ah
 e.1 (ah (D.aH (aj c.1.4) 0) (ah (D.aH c.1.2 0) (Z (LO.next (fO c.1.3 [],W,()))) (Z (LO.next (J,W,())))) (Z (LO.next
 (J,W,())))) (af (ah (D.aH c.1.1 2) (ah (D.aH (aj c.1.4) 0) (ah (D.aH c.1.2 0) (af (F185 n (c.1.3,())) λg=>Z (LO.next
 (g.1.1,W,()))) (Z (LO.next (J,W,())))) (Z (LO.next (J,W,())))) (af (ah (D.aH c.1.1 3) (ah (D.aH (aj c.1.4) 0) (ah
 (fO c.1.3 []) (af (F186 n (c.1.2,(-1000000000),1000000000,())) λg=>Z (LO.next (g.1.1,W,()))) (Z (LO.next (J,W,()))))
 (Z (LO.next (J,W,())))) (af (ah (D.aH c.1.1 4) (ah (D.aH (aj c.1.4) 0) (ah (fO c.1.3 []) (af (F186 n (c.1.2,0,1,())) λg=>
 Z (LO.next (g.1.1,W,()))) (Z (LO.next (J,W,())))) (Z (LO.next (J,W,())))) (af (ah (D.aH c.1.1 6) (ah (D.eu (aj
 c.1.4) 3) (ah (D.aH c.1.2 0) (af (F93 n (c.1.3,())) λg=>Z (LO.next (g.1.1,W,()))) (Z (LO.next (J,W,())))) (Z (LO.next
 (J,W,())))) (Z (LO.next (J,J,())))) λ(g:Ij)=>LO.jn g (λh=>Z (LO.next (h.1,J,()))) (λ_ _=>Y) (λ_
 i=>Z (LO.ret () i)) λ_ _=>Y)) λ(g:Ij)=>LO.jn g (λh=>Z (LO.next (h.1,J,()))) (λ_ _=>Y) (λ_ i=>Z
 (LO.ret () i)) λ_ _=>Y)) λ(g:Ij)=>LO.jn g (λh=>Z (LO.next (h.1,J,()))) (λ_ _=>Y) (λ_ i=>Z (LO.ret () i))
 λ_ _=>Y)) λ(g:Ij)=>LO.jn g (λh=>Z (LO.next (h.1,J,()))) (λ_ _=>Y) (λ_ i=>Z (LO.ret () i)) λ_ _=>
 Y)) λ(g:Ij)=>LO.jn g (λh=>af (@iter (Bool×Int×U) (Bool×U) (U) (Any) (λi=>ah (D.bM i.2.1 (aj c.1.4)) (ah i.1
 (aP (az i.2.1 c.1.4) (af (f309 (aT c.1.4 (ai i.2.1) aR,())) λj=>Z (LO.next (j.1.1,D.add .i64 i.2.1 1,())))) (Z (LO.out 0
 i))) (Z (LO.out 0 i))) n (h.1,0,())) λi=>LO.el i (λ_ k=>Z ((k.1,()),())) (λ_ k=>Z (k,())) λ_ _=>Y) (λ_ _=>
 Y) (λ_ i=>Z (i,())) λ_ _=>Y) (λ_ _=>Y) (λ_ g=>Z (g,())) λ_ _=>Y
def D309(n:Nat)(f309:Fn P3 K4 J)(a:bw prog 309 (RN f309)):bw prog 309 (RN (B309 n f309)):=cx [k93 n,Zm n,SW n,⟨309,RN f309,a⟩] [(309,1,⟨[(4,cV),(5,cR)],[],[],0⟩),(309,1000005,⟨[(11,cV)],[],[],0⟩),(309,1000006,⟨[(4,cV),(11,cV)],[],[],0⟩),(309,1000008,⟨[(4,cV),(26,cV)],[],[],0⟩),(309,1000010,⟨[(4,cV),(40,cV)],[],[],0⟩),(309,1000012,⟨[(4,cV),(54,cV)],[],[],0⟩),(309,1000014,⟨[(4,cV),(68,cV)],[],[],0⟩)] n 10 309
def R309(n k:Nat):(Fn P3 K4 J):=Nat.rec (motive:=λ_=>(Fn P3 K4 J)) (λ_=>Y) (λ_ r=>B309 n r) k
def F309(n:Nat):Fn P3 K4 J:=(R309 n n)
def Ym(n:Nat):∀k,bw prog 309 (RN (R309 n k))
 |0=>bW (enters 309 (by kernel_rfl))
 |k+1=>have a:=Ym n k
  D309 n _ a
def agG(n:Nat):OC:=⟨309,RN (F309 n),(Ym n n)⟩
def F292:Y11:=
 λn b=>af (F83 n (aG.mk b.1.1 b.1.2 b.1.3 b.1.4,12,())) λc=>ah (D.eu 0 c.1.1) (af (F309 n (aG.mk b.1.1 b.1.2 b.1.3 b.1.4,()))
 λd=>ah d.1.1 (af (F255 n (aG.mk b.1.1 b.1.2 b.1.3 b.1.4,())) λe=>af (F94 n e.1) λg=>Z g) (Z ((J,()),()))) (Z
 ((J,()),()))
def agM(n:Nat):OC:=⟨292,⟨P3,K4,J,F292 n⟩,cx [k83 n,k94 n,acj n,agG n] [] n 10 292⟩
abbrev RR(F:Fn Yc K4 J):j0 sg:=⟨Yc,K4,J,F⟩
def B254:Nat->(Term×U->O fm)->Term×U->O fm:=
 λn f254 c=>af (F291 n (Term.mk c.1.1 c.1.2 c.1.3 c.1.4 c.1.5,())) λd=>ah (D.aK d.1.1) (Z ((J,()),())) (af (@iter (Int×U)
 (Bool×U) (U) (Any) (λe=>ah (D.bM e.1 (aj c.1.5)) (aP (az e.1 c.1.5) (af (F292 n (aT c.1.5 (ai e.1) aR,())) λg=>ah
 (D.aK g.1.1) (Z (LO.ret () (J,()))) (Z (LO.next (D.add .i64 e.1 1,()))))) (Z (LO.out 0 e))) n (0,())) λe=>LO.el e (λ_ _=>
 af (@iter (Int×U) (Bool×U) (U) (Any) (λi=>ah (D.bM i.1 (aj c.1.4)) (aP (az i.1 c.1.4) (af (f254 (aT c.1.4 (ai i.1) oZ,
 ())) λj=>ah (D.aK j.1.1) (Z (LO.ret () (J,()))) (Z (LO.next (D.add .i64 i.1 1,()))))) (Z (LO.out 0 i))) n (0,())) λi=>
 LO.el i (λ_ _=>Z ((W,()),())) (λ_ k=>Z (k,())) λ_ _=>Y) (λ_ h=>Z (h,())) λ_ _=>Y)
def D254(n:Nat)(f254:Fn Yc K4 J)(a:bw prog 254 (RR f254)):bw prog 254 (RR (B254 n f254)):=cx [⟨254,RR f254,a⟩,agN n,agM n] [(254,0,⟨[(3,cR)],[],[],0⟩),(254,2,⟨[(4,cR)],[],[],0⟩)] n 10 254
def R254(n k:Nat):(Fn Yc K4 J):=Nat.rec (motive:=λ_=>(Fn Yc K4 J)) (λ_=>Y) (λ_ r=>B254 n r) k
def F254(n:Nat):Fn Yc K4 J:=(R254 n n)
def Yq(n:Nat):∀k,bw prog 254 (RR (R254 n k))
 |0=>bW (enters 254 (by kernel_rfl))
 |k+1=>have a:=Yq n k
  D254 n _ a
def agW(n:Nat):OC:=⟨254,RR (F254 n),(Yq n n)⟩
def F189:Y84:=
 λn b=>af (F253 n (Term.mk b.1.1 b.1.2 b.1.3 b.1.4 b.1.5,60,14,())) λc=>ah (D.eu 0 c.1.1) (af (F254 n (Term.mk b.1.1 b.1.2 b.1.3 b.1.4
 b.1.5,())) λd=>Z d) (Z ((J,()),()))
def ahz(n:Nat):OC:=⟨189,⟨Yc,K4,J,F189 n⟩,cx [agX n,agW n] [] n 10 189⟩
def jY(b:dK×U)(i:Int×U):cq:=
 aT b.1.3 (ai i.1) dh
def DQ(n:Nat):O (LO (Int×U) (Bool×U) U Any):=
 Z (LO.ret () (J,()))
def F138:Nat->dK×U->O fm:=
 λn b=>af (F185 n (b.1.1,())) λc=>ah (D.aK c.1.1) (Z ((J,()),())) (ah (D.bM 4 (aj b.1.2)) (Z ((J,()),())) (af
 (F186 n (aj b.1.3,1,5,())) λd=>ah (D.aK d.1.1) (Z ((J,()),())) (af (@iter (Int×U) (Bool×U) (U) (Any) (λe=>ah
 (D.bM e.1 (aj b.1.2)) (aP (az e.1 b.1.2) (af (F187 n (aT b.1.2 (ai e.1) j9,())) λg=>ah (D.aK g.1.1) (Z (LO.ret () (J,
 ()))) (Z (LO.next (D.add .i64 e.1 1,()))))) (Z (LO.out 0 e))) n (0,())) λe=>LO.el e (λ_ _=>af (@iter (Int×U) (Bool×U)
 (U) (Any) (λi=>ah (D.bM i.1 (aj b.1.3)) (aP (az i.1 b.1.3) (af (F185 n ((jY b i).1,())) λj=>ah (D.aK j.1.1) (DQ n)
 (af (F185 n ((jY b i).2,())) λk=>ah (D.aK k.1.1) (DQ n) (af (F188 n (bR.mk (jY b i).3.1 (jY b i).3.2 (jY b i).3.3
 (jY b i).3.4,())) λl=>ah (D.aK l.1.1) (DQ n) (af (F188 n (bR.mk (jY b i).4.1 (jY b i).4.2 (jY b i).4.3 (jY b
 i).4.4,())) λm=>ah (D.aK m.1.1) (DQ n) (af (F189 n (Term.mk (jY b i).5.1 (jY b i).5.2 (jY b i).5.3 (jY b i).5.4 (jY b
 i).5.5,())) λo=>ah (D.aK o.1.1) (DQ n) (Z (LO.next (D.add .i64 i.1 1,()))))))))) (Z (LO.out 0 i))) n (0,())) λi=>LO.el i (λ
 _ _=>Z ((W,()),())) (λ_ k=>Z (k,())) λ_ _=>Y) (λ_ h=>Z (h,())) λ_ _=>Y)))
def acw(n:Nat):OC:=⟨138,⟨P98,K4,J,F138 n⟩,cx [Zm n,SW n,ahA n,acr n,ahz n] [(138,0,⟨[(3,cR)],[],[],0⟩),(138,2,⟨[(4,cR)],[],[],0⟩)] n 10 138⟩
def F85:Nat->L UInt8×U->O ((dK×Int×U)×U):=
 λn b=>af (F179 n b) λc=>ah (D.aK (D.aH c.1.2.1 0)) (Z ((iZ,c.1.2),())) (af (F136 n ((c.1.1,0,J,()),())) λd=>
 af (F137 n (bB.mk d.2.1.1 d.2.1.2.1 d.2.1.2.2.1,())) λe=>ah (D.aK e.1.1) (Z ((iZ,4,()),())) (af (F138 n d.1)
 λg=>ah (D.aK g.1.1) (Z ((iZ,2,()),())) (Z ((d.1.1,0,()),()))))
def k85(n:Nat):OC:=⟨85,⟨P7,K99,J,F85 n⟩,cx [ahT n,ahS n,acw n,ahD n] [] n 10 85⟩
def F139:Nat->dK×U->O (QL×U):=
 λn b=>af (@iter (QM) (QL) (U) (Any) (λc=>ah (D.bM c.2.1 (aj b.1.3)) (aP (az c.2.1 b.1.3) (aP (dR c.1 [(aT b.1.3 (ai
 c.2.1) dh).1]) (Z (LO.next (dj c.1 [(aT b.1.3 (ai c.2.1) dh).1],D.add .i64 c.2.1 1,()))))) (Z (LO.out 0 c))) n ([],0,
 ())) λc=>LO.el c (λ_ e=>Z ((e.1,()),())) (λ_ e=>Z (e,())) λ_ _=>Y
def ahR(n:Nat):OC:=⟨139,⟨P98,K72,J,F139 n⟩,cx [] [(139,0,⟨[(3,.one (.own (.str))),(4,cR)],[],[],0⟩)] n 10 139⟩
def UL(b:dK×U)(c:Xm)(d:Xm):L ck:=
 [ck.mk (aT (aT b.1.2 (ai c.2.1) j9).2 (ai d.2.1) gA).1 (aj (aT (aT b.1.2 (ai c.2.1) j9).2 (ai d.2.1)
 gA).2)]
def F140:Nat->dK×U->O ((L ck×U)×U):=
 λn b=>af (@iter (Xm) (L ck×U) (U) (Any) (λc=>ah (D.bM c.2.1 (aj b.1.2)) (af (@iter (Xm) (L ck×U)
 (U) (Any) (λd=>aP (az c.2.1 b.1.2) (ah (D.bM d.2.1 (aj (aT b.1.2 (ai c.2.1) j9).2)) (aP (az c.2.1 b.1.2) (aP (az d.2.1
 (aT b.1.2 (ai c.2.1) j9).2) (aP (dR d.1 (UL b c d)) (Z (LO.next (dj d.1 (UL b c d),D.add .i64 d.2.1 1,())))))) (Z
 (LO.out 0 d)))) n (c.1,0,())) λd=>LO.el d (λ_ g=>Z (LO.next (g.1,D.add .i64 c.2.1 1,()))) (λ_ g=>Z (LO.ret () g)) λ_ _=>
 Y) (Z (LO.out 0 c))) n ([],0,())) λc=>LO.el c (λ_ e=>Z ((e.1,()),())) (λ_ e=>Z (e,())) λ_ _=>Y
def ahQ(n:Nat):OC:=⟨140,⟨P98,K100,J,F140 n⟩,cx [] [(140,0,⟨[(3,.one (.own (.st 2))),(4,cR)],[],[],0⟩),(140,2,⟨[(3,.one (.own (.st 2))),(5,cR)],[],[],0⟩)] n 10 140⟩
def F141:Nat->L ck×U->O (QL×U):=
 λn b=>af (@iter (QM) (QL) (U) (Any) (λc=>ah (D.bM c.2.1 (aj b.1)) (aP (az c.2.1 b.1) (aP (dR c.1 [(aT b.1 (ai c.2.1)
 bu).1]) (Z (LO.next (dj c.1 [(aT b.1 (ai c.2.1) bu).1],D.add .i64 c.2.1 1,()))))) (Z (LO.out 0 c))) n ([],0,())) λc=>
 LO.el c (λ_ e=>Z ((e.1,()),())) (λ_ e=>Z (e,())) λ_ _=>Y
def ahP(n:Nat):OC:=⟨141,⟨afa,K72,J,F141 n⟩,cx [] [(141,0,⟨[(3,.one (.own (.str))),(4,cR)],[],[],0⟩)] n 10 141⟩
def F190:Nat->L ck×L UInt8×U->DF:=
 λn b=>af (@iter (Int×U) (Int×U) (U) (Any) (λc=>ah (D.bM c.1 (aj b.1)) (aP (az c.1 b.1) (ah (fO (aT b.1 (ai c.1)
 bu).1 b.2.1) (Z (LO.ret () c)) (Z (LO.next (D.add .i64 c.1 1,()))))) (Z (LO.out 0 c))) n (0,())) λc=>LO.el c (λ_ _=>Z
 (((-1),()),())) (λ_ e=>Z (e,())) λ_ _=>Y
def Wh(n:Nat):OC:=⟨190,⟨akQ,K2,J,F190 n⟩,cx [] [(190,0,⟨[(5,cR)],[],[],0⟩)] n 10 190⟩
abbrev RZ(F:Fn QZ K4 J):j0 sg:=⟨QZ,K4,J,F⟩
def B191:Nat->(Y12->O fm)->Y12->O fm:=
 λn f191 c=>af (ah (D.aH c.2.1.1 6) (af (F190 n (c.1.2,c.2.1.3,())) λd=>ah (D.bM d.1.1 0) (Z (LO.ret () (J,()))) (aP (az
 d.1.1 c.1.2) (ah (D.aK (D.aH (aT c.1.2 (ai d.1.1) bu).2 (aj c.2.1.4))) (Z (LO.ret () (J,()))) (Z (LO.next (J,W,
 ())))))) (Z (LO.next (J,J,())))) λ(d:Ij)=>LO.jn d (λ_=>af (@iter (Int×U) (Bool×U) (U) (Any) (λg=>ah
 (D.bM g.1 (aj c.2.1.4)) (aP (az g.1 c.2.1.4) (af (f191 (c.1,aT c.2.1.4 (ai g.1) aR,())) λh=>ah (D.aK h.1.1) (Z (LO.ret ()
 (J,()))) (Z (LO.next (D.add .i64 g.1 1,()))))) (Z (LO.out 0 g))) n (0,())) λg=>LO.el g (λ_ _=>Z ((W,()),())) (λ_ i=>
 Z (i,())) λ_ _=>Y) (λ_ _=>Y) (λ_ g=>Z (g,())) λ_ _=>Y
def D191(n:Nat)(f191:Fn QZ K4 J)(a:bw prog 191 (RZ f191)):bw prog 191 (RZ (B191 n f191)):=cx [Wh n,⟨191,RZ f191,a⟩] [(191,0,⟨[(6,cR)],[],[],0⟩),(191,1000002,⟨[(4,cV),(9,cV)],[],[],0⟩)] n 10 191
def R191(n k:Nat):(Fn QZ K4 J):=Nat.rec (motive:=λ_=>(Fn QZ K4 J)) (λ_=>Y) (λ_ r=>B191 n r) k
def F191(n:Nat):Fn QZ K4 J:=(R191 n n)
def Yz(n:Nat):∀k,bw prog 191 (RZ (R191 n k))
 |0=>bW (enters 191 (by kernel_rfl))
 |k+1=>have a:=Yz n k
  D191 n _ a
def ahx(n:Nat):OC:=⟨191,RZ (F191 n),(Yz n n)⟩
def F192:Nat->L (L UInt8)×L (L UInt8)×U->O (QL×U):=
 λn b=>aP (dR b.1 b.2.1) (Z ((dj b.1 b.2.1,()),()))
def acq(n:Nat):OC:=⟨192,⟨akP,K72,J,F192 n⟩,cx [] [] n 10 192⟩
def F193:Nat->Term×Int×U->O (QL×U):=
 λn b=>af (ah (D.aH b.1.1 5) (Z (LO.next (W,()))) (Z (LO.next (D.aH b.1.1 27,())))) λ(c:LO (Bool×U) QL U Any)=>LO.jn
 c (λd=>ah d.1 (Z (([b.1.3],()),())) (ah (D.aH b.1.1 7) (ah (D.aH b.2.1 1) (Z (([b.1.3],()),())) (Z (([],()),()))) (ah (D.aH
 b.1.1 15) (ah (D.bM 0 b.2.1) (aP (az (D.eD .i64 b.2.1 1) b.1.5) (af (F255 n (aT b.1.5 (ai (D.eD .i64 b.2.1 1)) aR,())) λe=>
 Z e)) (Z (([],()),()))) (Z (([],()),()))))) (λ_ _=>Y) (λ_ e=>Z (e,())) λ_ _=>Y
def acp(n:Nat):OC:=⟨193,⟨akO,K72,J,F193 n⟩,cx [acj n] [(193,1000003,⟨[(7,cV)],[],[],0⟩)] n 10 193⟩
abbrev Sd(F:Fn QY K4 J):j0 sg:=⟨QY,K4,J,F⟩
def B143:Nat->(aeK->O fm)->aeK->O fm:=
 λn f143 c=>ah (D.aH c.2.1.1 4) (af (F142 n (c.2.2.1,c.2.1.3,())) λd=>ah d.1.1 (Z ((W,()),())) (af (F142 n (c.1.1,c.2.1.3,
 ())) λe=>Z e)) (af (ah (D.aH c.2.1.1 14) (af (F190 n (c.1.2,c.2.1.3,())) λd=>ah (D.bM d.1.1 0) (Z (LO.ret () (J,()))) (aP
 (az d.1.1 c.1.2) (ah (D.aK (D.aH (aT c.1.2 (ai d.1.1) bu).2 (aj c.2.1.4))) (Z (LO.ret () (J,()))) (Z (LO.next (J,W,
 ())))))) (Z (LO.next (J,J,())))) λ(d:Ij)=>LO.jn d (λ_=>af (@iter (Int×U) (Bool×U) (U) (Any) (λg=>ah
 (D.bM g.1 (aj c.2.1.5)) (aP (az g.1 c.2.1.5) (af (F191 n (c.1,aT c.2.1.5 (ai g.1) aR,())) λh=>ah (D.aK h.1.1) (Z (LO.ret
 () (J,()))) (Z (LO.next (D.add .i64 g.1 1,()))))) (Z (LO.out 0 g))) n (0,())) λg=>LO.el g (λ_ _=>af (@iter (Int×U) (Bool×
 U) (U) (Any) (λj=>ah (D.bM j.1 (aj c.2.1.4)) (aP (az j.1 c.2.1.4) (af (F193 n (Term.mk c.2.1.1 c.2.1.2 c.2.1.3 c.2.1.4 c.2.1.5,j))
 λk=>af (F192 n (c.2.2.1,k.1)) λl=>af (f143 (c.1,aT c.2.1.4 (ai j.1) oZ,l.1)) λm=>ah (D.aK m.1.1) (Z (LO.ret () (J,
 ()))) (Z (LO.next (D.add .i64 j.1 1,()))))) (Z (LO.out 0 j))) n (0,())) λj=>LO.el j (λ_ _=>Z ((W,()),())) (λ_ l=>Z
 (l,())) λ_ _=>Y) (λ_ i=>Z (i,())) λ_ _=>Y) (λ_ _=>Y) (λ_ g=>Z (g,())) λ_ _=>Y)
def D143(n:Nat)(f143:Fn QY K4 J)(a:bw prog 143 (Sd f143)):bw prog 143 (Sd (B143 n f143)):=cx [Wj n,⟨143,Sd f143,a⟩,Wh n,ahx n,acq n,acp n] [(143,0,⟨[(8,cR)],[],[],0⟩),(143,2,⟨[(9,cR)],[],[],0⟩),(143,1000004,⟨[(6,cV),(28,cV)],[],[],0⟩)] n 10 143
def R143(n k:Nat):(Fn QY K4 J):=Nat.rec (motive:=λ_=>(Fn QY K4 J)) (λ_=>Y) (λ_ r=>B143 n r) k
def F143(n:Nat):Fn QY K4 J:=(R143 n n)
def YB(n:Nat):∀k,bw prog 143 (Sd (R143 n k))
 |0=>bW (enters 143 (by kernel_rfl))
 |k+1=>have a:=YB n k
  D143 n _ a
def ahO(n:Nat):OC:=⟨143,Sd (F143 n),(YB n n)⟩
def F144:Nat->aeS->DF:=
 λn b=>af (@iter (Int×U) (Int×U) (U) (Any) (λc=>ah (D.eu 0 c.1) (aP (az c.1 b.1) (ah (fO (aT b.1 (ai c.1) []) b.2.1)
 (Z (LO.ret () c)) (Z (LO.next (D.eD .i64 c.1 1,()))))) (Z (LO.out 0 c))) n (D.eD .i64 (aj b.1) 1,())) λc=>LO.el c (λ_ _=>
 Z (((-1),()),())) (λ_ e=>Z (e,())) λ_ _=>Y
def acv(n:Nat):OC:=⟨144,⟨P71,K2,J,F144 n⟩,cx [] [(144,0,⟨[(5,cR)],[],[],0⟩)] n 10 144⟩
abbrev RY(F:Fn QX K86 J):j0 sg:=⟨QX,K86,J,F⟩
def Nd(g:Y24):ya:=
 (g.2.1.1,g.2.1.2.1,iy (S:=sg) 1 2 (Ty.int .i64) g.2.1.2.2.1 (wm (S:=sg) 1 2 (Ty.int .i64) g.2.1.2.2.1),())
def abd(h:Y25):ya:=
 (h.2.1.1,h.2.1.2.1,iy (S:=sg) 1 2 (Ty.int .i64) h.2.1.2.2.1 (wm (S:=sg) 1 2 (Ty.int .i64) h.2.1.2.2.1),())
def UZ(c:Y26):ya:=
 (c.1.1,c.1.2.1,iy (S:=sg) 1 2 (Ty.int .i64) c.1.2.2.1 (wm (S:=sg) 1 2 (Ty.int .i64) c.1.2.2.1),())
def abc(h:ya×Y9×U):ya:=
 (h.1.1,h.1.2.1,iy (S:=sg) 1 2 (Ty.int .i64) h.1.2.2.1 (wm (S:=sg) 1 2 (Ty.int .i64) h.1.2.2.1),())
def B194:Nat->(Y26->O Y25)->Y26->O Y25:=
 λn f194 c=>af (ah (D.aH c.2.1.1 6) (af (F190 n (c.1.2.1,c.2.1.3,())) λd=>Z (LO.next (W,(c.2.1.1,d.1.1,[],[],()),()))) (Z
 (LO.next (J,(c.2.1.1,c.2.1.2,[],[],()),())))) λ(d:LO (Bool×Y9×U) U (Y9×U) Any)=>LO.jn d (λe=>af (@iter (Y24)
 (U) (ya×Y9×U) (Any) (λg=>ah (D.bM g.1 (aj c.2.1.4)) (aP (az g.1 c.2.1.4) (af (f194 (Nd g,aT c.2.1.4 (ai g.1) aR,
 ())) λh=>aP (dR g.2.2.1.2.2.2.1 [h.1.1]) (Z (LO.next (D.add .i64 g.1 1,abd h,(g.2.2.1.1,g.2.2.1.2.1,g.2.2.1.2.2.1,dj
 g.2.2.1.2.2.2.1 [h.1.1],()),()))))) (Z (LO.out 0 (g.1,Nd g,g.2.2)))) n (0,UZ c,e.2)) λg=>LO.el g (λ_ i=>Z ((aG.mk
 i.2.2.1.1 i.2.2.1.2.1 i.2.2.1.2.2.1 i.2.2.1.2.2.2.1,()),Nd i,())) (λh _=>Z ((aR,()),abc h,())) λ_ _=>Y) (λ_ _=>
 Y) (λ_ _=>Z ((aR,()),UZ c,())) λ_ _=>Y
def D194(n:Nat)(f194:Fn QX K86 J)(a:bw prog 194 (RY f194)):bw prog 194 (RY (B194 n f194)):=cx [Wh n,⟨194,RY f194,a⟩] [(194,0,⟨[(6,cR),(0,QF),(0,aay)],[.slot 0,.slot 5],[],0⟩),(194,1000003,⟨[(14,cV),(0,aay)],[.slot 5],[],0⟩)] n 10 194
def R194(n k:Nat):(Fn QX K86 J):=Nat.rec (motive:=λ_=>(Fn QX K86 J)) (λ_=>Y) (λ_ r=>B194 n r) k
def F194(n:Nat):Fn QX K86 J:=(R194 n n)
def Yy(n:Nat):∀k,bw prog 194 (RY (R194 n k))
 |0=>bW (enters 194 (by kernel_rfl))
 |k+1=>have a:=Yy n k
  D194 n _ a
def ahw(n:Nat):OC:=⟨194,RY (F194 n),(Yy n n)⟩
abbrev Sc(F:Fn QW K2 J):j0 sg:=⟨QW,K2,J,F⟩
def Nh(g:Bool×Kr×U):Kr×U:=
 ((g.2.1.1,g.2.1.2.1,[],g.2.1.2.2.2),())
def Ng(i:aaJ):L (L Int):=
 wm (S:=sg) 1 2 (Ty.int .i64) i.2.1.2.2.1
def U1(i:aaJ):ya:=
 (i.2.1.1,i.2.1.2.1,iy (S:=sg) 1 2 (Ty.int .i64) i.2.1.2.2.1 (Ng i),())
def abg(j:Y25):L (L Int):=
 wm (S:=sg) 1 2 (Ty.int .i64) j.2.1.2.2.1
def abf(j:Y25):ya:=
 (j.2.1.1,j.2.1.2.1,iy (S:=sg) 1 2 (Ty.int .i64) j.2.1.2.2.1 (abg j),())
def U0(c:Kq):ya:=
 (c.1.1,c.1.2.1,iy (S:=sg) 1 2 (Ty.int .i64) c.1.2.2.1 (wm (S:=sg) 1 2 (Ty.int .i64) c.1.2.2.1),())
def abe(l:Int×ya×U):L (L Int):=
 wm (S:=sg) 1 2 (Ty.int .i64) l.2.1.2.2.1
def Nf(l:Int×ya×U):ya:=
 (l.2.1.1,l.2.1.2.1,iy (S:=sg) 1 2 (Ty.int .i64) l.2.1.2.2.1 (abe l),())
def tX(c:Kq):Nat:=
 ai (aj c.1.2.2.1)
def Bb(p:ML):L (L Int):=
 wm (S:=sg) 1 2 (Ty.int .i64) p.2.1.2.2.1
def Xw(m:ya×U):ya:=
 (m.1.1,m.1.2.1,iy (S:=sg) 1 2 (Ty.int .i64) m.1.2.2.1 (wm (S:=sg) 1 2 (Ty.int .i64) m.1.2.2.1),())
def Xv(n:Nat)(f145:Kq->O ML)(m:ya×U):aaI:=
 λo=>Z (o,Xw m,())
def Xu(j:ya×Kr×U):ya:=
 (j.1.1,j.1.2.1,iy (S:=sg) 1 2 (Ty.int .i64) j.1.2.2.1 (wm (S:=sg) 1 2 (Ty.int .i64) j.1.2.2.1),())
def Xt(n:Nat)(f145:Kq->O ML)(j:ya×Kr×U):aaI:=
 λk=>Z (k,Xu j,())
def OP(n:Nat)(f145:Kq->O ML)(c:Kq):aaI:=
 λi=>Z (i,U0 c,())
def B145:Nat->(Kq->O ML)->Kq->O ML:=
 λn f145 c=>af (ah (D.aH c.2.1.1 4) (af (F144 n (c.2.2.1,c.2.1.3,())) λd=>af (ah (D.bM d.1.1 0) (af (F144 n (c.1.1,c.2.1.3,()))
 λe=>Z (LO.next (W,(c.2.1.1,D.eD .i64 (-1) e.1.1,[],[],()),()))) (Z (LO.next (J,(c.2.1.1,d.1.1,[],[],()),())))) λ(e :
 aaH)=>LO.jn e (λg=>Z (LO.next (W,Nh g))) (λ_ _=>Y) (λg h=>Z (LO.ret ((g.1.1,g.1.2.1,[],g.1.2.2.2),()) h)) λ_
 _=>Y) (Z (LO.next (J,(c.2.1.1,c.2.1.2,[],[],()),())))) λ(d:aaH)=>LO.jn d (λe=>af (ah (D.aH c.2.1.1 14) (af (F190 n
 (c.1.2.1,c.2.1.3,())) λg=>Z (LO.next (W,(e.2.1.1,g.1.1,[],e.2.1.2.2.2),()))) (Z (LO.next (J,Nh e)))) λ(g:aaH)=>
 LO.jn g (λh=>af (@iter (aaJ) (Int×U) (ya×Kr×U) (Any) (λi=>ah (D.bM i.1 (aj c.2.1.5)) (aP (az i.1 c.2.1.5) (af (F194
 n (U1 i,aT c.2.1.5 (ai i.1) aR,())) λj=>aP (dR i.2.2.1.2.2.2.1 [j.1.1]) (Z (LO.next (D.add .i64 i.1 1,abf j,(i.2.2.1.1,
 i.2.2.1.2.1,[],dj i.2.2.1.2.2.2.1 [j.1.1],()),()))))) (Z (LO.out 0 (i.1,U1 i,(i.2.2.1.1,i.2.2.1.2.1,[],i.2.2.1.2.2.2),())))) n (0,
 U0 c,Nh h)) λi=>LO.el i (λ_ k=>aP (D.eJ (V5 k.2.1.2.2.1 (Ng k)) (dR k.2.1.2.2.1 [bp.mk k.2.2.1.1 k.2.2.1.2.1 []
 k.2.2.1.2.2.2.1])) (af (@iter (Int×ya×U) (Int×U) (ya×U) (Any) (λl=>ah (D.bM l.1 (aj c.2.1.4)) (aP (az l.1 c.2.1.4) (af
 (F193 n (Term.mk c.2.1.1 c.2.1.2 c.2.1.3 c.2.1.4 c.2.1.5,l.1,())) λm=>af (F192 n (c.2.2.1,m.1)) λo=>af (f145 (Nf l,aT c.2.1.4
 (ai l.1) oZ,o.1)) λp=>aP (az (aj c.1.2.2.1) p.2.1.2.2.1) (aP (ef (tX c) p.2.1.2.2.1) (aP (D.eJ (ef (tX c) (Bb p))
 (dR (aT (Bb p) (tX c) []) [p.1.1])) (aP (az (aj c.1.2.2.1) p.2.1.2.2.1) (aP (Ta (tX c) p.2.1.2.2.1 (tX c) (tX c))
 (Z (LO.next (D.add .i64 l.1 1,(p.2.1.1,p.2.1.2.1,iy (S:=sg) 1 2 (Ty.int .i64) p.2.1.2.2.1 (jP (Bb p) (tX c) (dj (aT (Bb
 p) (tX c) []) [p.1.1])),()),()))))))))) (Z (LO.out 0 (l.1,Nf l,())))) n (0,(k.2.1.1,k.2.1.2.1,iy (S:=sg) 1 2 (Ty.int .i64) (dj
 k.2.1.2.2.1 [bp.mk k.2.2.1.1 k.2.2.1.2.1 [] k.2.2.1.2.2.2.1]) (dj (Ng k) [[]]),()),())) λl=>LO.el l (λ_ o=>Z ((aj
 c.1.2.2.1,()),Nf o,())) (λm=>Xv n f145 m) λ_ _=>Y)) (λj=>Xt n f145 j) λ_ _=>Y) (λ_ _=>Y) (λ_=>
 OP n f145 c) λ_ _=>Y) (λ_ _=>Y) (λ_=>OP n f145 c) λ_ _=>Y
def D145(n:Nat)(f145:Fn QW K2 J)(a:bw prog 145 (Sc f145)):bw prog 145 (Sc (B145 n f145)):=cx [acv n,⟨145,Sc f145,a⟩,Wh n,acq n,acp n,ahw n] [(145,0,⟨[(9,cR),(0,QF),(0,Xd)],[.slot 0,.slot 8],[],0⟩),(145,2,⟨[(10,cR),(0,QF)],[.slot 0],[],0⟩),(145,1000004,⟨[(24,cV),(0,Xd)],[.slot 8],[],0⟩),(145,1000006,⟨[(32,cV),(0,Xd)],[.slot 8],[],0⟩),(145,1000008,⟨[(44,cV),(0,Xd)],[.slot 8],[],0⟩)] n 10 145
def R145(n k:Nat):(Fn QW K2 J):=Nat.rec (motive:=λ_=>(Fn QW K2 J)) (λ_=>Y) (λ_ r=>B145 n r) k
def F145(n:Nat):Fn QW K2 J:=(R145 n n)
def YA(n:Nat):∀k,bw prog 145 (Sc (R145 n k))
 |0=>bW (enters 145 (by kernel_rfl))
 |k+1=>have a:=YA n k
  D145 n _ a
def ahN(n:Nat):OC:=⟨145,Sc (F145 n),(YA n n)⟩
def afh(b:dK×U)(k:Int×HR×U):aeT:=
 (Term.mk (aT b.1.3 (ai k.1) dh).5.1 (aT b.1.3 (ai k.1) dh).5.2 (aT b.1.3 (ai k.1) dh).5.3 (aT b.1.3 (ai k.1)
 dh).5.4 (aT b.1.3 (ai k.1) dh).5.5,[(aT b.1.3 (ai k.1) dh).2],())
def Gb(k:Int×HR×U):HR×U:=
 (([],[],k.2.1.2.2.1,[],()),())
def Us(p:aaN):L bp:=
 iy (S:=sg) 1 2 (Ty.int .i64) p.2.2.1.2.2.1 (wm (S:=sg) 1 2 (Ty.int .i64) p.2.2.1.2.2.1)
def afg(b:dK×U)(p:aaN):aeT:=
 (Term.mk (aT b.1.3 (ai p.1) dh).5.1 (aT b.1.3 (ai p.1) dh).5.2 (aT b.1.3 (ai p.1) dh).5.3 (aT b.1.3 (ai p.1)
 dh).5.4 (aT b.1.3 (ai p.1) dh).5.5,[(aT b.1.3 (ai p.1) dh).2],())
def F86:Nat->dK×U->O ((av×Int×U)×U):=
 λn b=>af (F138 n b) λc=>ah (D.aK c.1.1) (Z ((ke,2,()),())) (af (F139 n b) λd=>af (F140 n b) λe=>af (F94 n d.1)
 λg=>ah (D.aK g.1.1) (Z ((ke,7,()),())) (af (F141 n e.1) λh=>af (F94 n h.1) λi=>ah (D.aK i.1.1) (Z ((ke,
 7,()),())) (af (F142 n (d.1.1,[109,97,105,110],())) λj=>ah (D.aK j.1.1) (Z ((ke,7,()),())) (af (@iter (Int×HR×U)
 (Int×U) (HR×U) (Any) (λk=>ah (D.bM k.1 (aj b.1.3)) (aP (az k.1 b.1.3) (aP (az k.1 b.1.3) (af (F143 n (cZ.mk
 d.1.1 e.1.1 [],afh b k)) λl=>ah (D.aK l.1.1) (Z (LO.ret (([],[],0,[],()),()) (7,()))) (Z (LO.next (D.add .i64 k.1 1,Gb
 k)))))) (Z (LO.out 0 (k.1,Gb k)))) n (0,([],[],0,[],()),())) λk=>LO.el k (λ_ m=>af (F144 n (d.1.1,[109,97,105,110],()))
 λo=>af (@iter (aaN) (Int×U) (HR×ya×U) (Any) (λp=>ah (D.bM p.1 (aj b.1.3)) (aP (dR p.2.1.2.1 [aj p.2.2.1.2.2.1])
 (aP (az p.1 b.1.3) (aP (az p.1 b.1.3) (af (F145 n ((p.2.2.1.1,p.2.2.1.2.1,Us p,()),afg b p)) λq=>Z (LO.next (D.add .i64 p.1 1,
 ([],dj p.2.1.2.1 [aj p.2.2.1.2.2.1],p.2.1.2.2),(q.2.1.1,q.2.1.2.1,iy (S:=sg) 1 2 (Ty.int .i64) q.2.1.2.2.1 (wm (S:=sg) 1 2 (Ty.int .i64)
 q.2.1.2.2.1),()),())))))) (Z (LO.out 0 (p.1,([],p.2.1.2),(p.2.2.1.1,p.2.2.1.2.1,Us p,()),())))) n (0,([],[],o.1.1,e.1),(d.1.1,
 e.1.1,[],()),())) λp=>LO.el p (λ_ r=>af (@iter (Int×HR×U) (Int×U) (HR×U) (Any) (λs=>ah (D.bM s.1 (aj
 r.2.2.1.2.2.1)) (aP (az s.1 r.2.2.1.2.2.1) (aP (ef (ai s.1) r.2.2.1.2.2.1) (ah (D.aH (aT r.2.2.1.2.2.1 (ai s.1) aN).1 4) (aP (az
 s.1 r.2.2.1.2.2.1) (aP (ef (ai s.1) r.2.2.1.2.2.1) (ah (D.eu 30 (aT r.2.2.1.2.2.1 (ai s.1) aN).2) (Z (LO.ret (([],[],0,[],()),
 ()) (3,()))) (Z (LO.next (D.add .i64 s.1 1,Gb s)))))) (Z (LO.next (D.add .i64 s.1 1,Gb s)))))) (Z (LO.out 0 (s.1,Gb s)))) n (0,
 Gb m)) λs=>LO.el s (λ_ _=>Z ((av.mk (Us r) r.2.1.2.1 r.2.1.2.2.1 r.2.1.2.2.2.1,0,()),())) (λt u=>Z ((av.mk []
 [] t.1.2.2.1 [],u),())) λ_ _=>Y) (λ_ r=>Z ((av.mk [] [] m.2.1.2.2.1 [],r),())) λ_ _=>Y) (λl m=>Z
 ((av.mk [] [] l.1.2.2.1 [],m),())) λ_ _=>Y))))
def k86(n:Nat):OC:=⟨86,⟨P98,K109,J,F86 n⟩,cx [k94 n,acw n,ahR n,ahQ n,ahP n,Wj n,ahO n,acv n,ahN n] [(86,0,⟨[(5,cR),(0,aeo)],[.slot 2],[],0⟩),(86,2,⟨[(7,cR),(0,.box (.cells [.nil (.st 1),.own (.int .i64),kq,X7])),(0,QF)],[.slot 6,.slot 18],[],0⟩),(86,4,⟨[(8,cR),(0,aeo)],[.slot 2],[],0⟩)] n 10 86⟩
def F45:Nat->L UInt8×U->aeF:=
 λn b=>af (F85 n b) λc=>af (F86 n (c.1.1,())) λd=>Z ((d.1.1,()),())
def k45(n:Nat):OC:=⟨45,⟨P7,K110,J,F45 n⟩,cx [k85 n,k86 n] [] n 10 45⟩
def Yj(n:Nat):aeF:=
 F45 n ([109,111,100,117,108,101,32,97,32,123,32,102,117,110,32,109,97,105,110,40,117,32,58,32,117,110,105,116,41,32,58,
 32,105,110,116,32,61,32,108,101,116,32,99,32,61,32,99,101,108,108,40,49,41,32,105,110,32,108,101,116,32,120,32,61,32,
 111,117,116,40,48,44,32,103,101,116,40,99,41,41,32,105,110,32,108,101,116,32,121,32,61,32,112,117,116,40,99,44,32,105,
 110,112,117,116,41,32,105,110,32,103,101,116,40,99,41,32,43,32,49,59,32,125],())
def vH(n:Nat):O fm:=
 Z ((J,()),())
def KG(e:Y78):bL:=
 aT e.1.2.1 (ai 2) eG
def KF(e:Y78):bL:=
 aT e.1.2.1 (ai 5) eG
def F13:Nat->U->O fm:=
 λn _=>af (F45 n ([109,111,100,117,108,101,32,98,32,123,32,102,117,110,32,119,111,114,107,40,99,32,58,32,99,104,97,110,
 32,105,110,116,41,32,58,32,117,110,105,116,32,61,32,108,101,116,32,120,32,61,32,115,101,110,100,40,99,44,32,53,41,32,
 105,110,32,115,101,110,100,40,99,44,32,54,41,59,32,102,117,110,32,109,97,105,110,40,117,32,58,32,117,110,105,116,41,
 32,58,32,105,110,116,32,61,32,108,101,116,32,99,32,61,32,99,104,97,110,32,105,110,32,108,101,116,32,116,32,61,32,115,
 112,97,119,110,40,102,117,110,32,117,32,61,62,32,119,111,114,107,32,99,41,32,105,110,32,116,97,107,101,40,99,41,32,43,
 32,114,101,115,101,116,40,49,32,43,32,40,115,104,105,102,116,32,107,32,61,62,32,107,32,40,107,32,49,48,41,41,41,59,
 32,125],())) λc=>af (F14 n (c.1.1,[],())) λd=>af (F21 n (c.1.1,d.1.1,[0,0,1,1,0,0,1],())) λe=>af (F28 n (c.1.1,e.1.1,
 ())) λg=>af (Yj n) λh=>af (F14 n (h.1.1,[],())) λi=>af (Yj n) λj=>af (F32 n (j.1.1,i.1.1,0,())) λk=>ah (D.aK
 (D.aH d.1.2.1 0)) (vH n) (ah (D.aK (D.aH e.1.2.2.1 0)) (vH n) (ah (D.aK (D.aH g.1.2.1 0)) (vH n) (ah (D.aK (D.aH i.1.2.1 0))
 (vH n) (ah (D.aK (D.aH k.1.2.2.2.1 0)) (vH n) (ah (D.aK (D.aH (aj e.1.2.1) 7)) (vH n) (aP (az 2 e.1.2.1) (af (F25 n (5,())) λ
 l=>ah (D.eJ (D.aH (KG e).1 1) (D.eJ (D.aH (KG e).2 22) (D.eJ (D.aH (KG e).3 0) (D.eJ (D.aH (KG e).4.1 l.1.1.1) (D.eJ
 (D.aH (KG e).4.2 l.1.1.2) W))))) (aP (az 5 e.1.2.1) (af (F25 n (17,())) λm=>ah (D.eJ (D.aH (KF e).1 0) (D.eJ (D.aH (KF
 e).2 0) (D.eJ (D.aH (KF e).3 1) (D.eJ (D.aH (KF e).4.1 m.1.1.1) (D.eJ (D.aH (KF e).4.2 m.1.1.2) W))))) (ah (D.aH (aj g.1.1.1)
 2) (af (F25 n (1,())) λo=>ah (D.eJ (D.aH k.1.2.1.1 0) (D.eJ (D.aH k.1.2.1.2 16) (D.eJ (D.aH k.1.2.1.3 0) (D.eJ (D.aH k.1.2.1.4.1
 o.1.1.1) (D.eJ (D.aH k.1.2.1.4.2 o.1.1.2) W))))) (Z ((D.aH k.1.2.2.1 8,()),())) (vH n)) (vH n)) (vH n))) (vH n))))))))
def k13(n:Nat):OC:=⟨13,⟨[],K4,J,F13 n⟩,cx [k14 n,k21 n,k25 n,k28 n,k32 n,k45 n] [] n 10 13⟩
def F52:Y67:=
 λn b=>ah (D.eu b.2.1 b.1) (Z ((D.eu b.1 b.2.2.1,()),())) (Z ((J,()),()))
def k52(n:Nat):OC:=⟨52,⟨P6,K4,J,F52 n⟩,cx [] [] n 10 52⟩
def F53:Nat->L ck×U->O fm:=
 λn b=>af (@iter (QM) (Bool×U) (U) (Any) (λc=>ah (D.bM c.2.1 (aj b.1)) (aP (az c.2.1 b.1) (af (F93 n ((aT b.1 (ai c.2.1)
 bu).1,())) λd=>ah (D.aK d.1.1) (Z (LO.ret () (J,()))) (aP (az c.2.1 b.1) (af (F52 n ((aT b.1 (ai c.2.1) bu).2,0,
 3,())) λe=>ah (D.aK e.1.1) (Z (LO.ret () (J,()))) (aP (az c.2.1 b.1) (aP (dR c.1 [(aT b.1 (ai c.2.1) bu).1]) (Z
 (LO.next (dj c.1 [(aT b.1 (ai c.2.1) bu).1],D.add .i64 c.2.1 1,()))))))))) (Z (LO.out 0 c))) n ([],0,())) λc=>LO.el c (λ_ e
 =>ah (D.eu (aj b.1) 20) (af (F94 n (e.1,())) λg=>Z g) (Z ((J,()),()))) (λ_ e=>Z (e,())) λ_ _=>Y
def k53(n:Nat):OC:=⟨53,⟨afa,K4,J,F53 n⟩,cx [k52 n,k93 n,k94 n] [(53,0,⟨[(3,.one (.own (.str))),(4,cR)],[],[],0⟩)] n 10 53⟩
abbrev q95(F:Fn QV K4 J):j0 sg:=⟨QV,K4,J,F⟩
def KK(n:Nat)(f95:Y50->O fm)(c:Y50):Bool×Int×U->O Y51:=
 λi=>ah (D.bM i.2.1 (aj c.1.4)) (ah i.1 (aP (az i.2.1 c.1.4) (af (f95 (aT c.1.4 (ai i.2.1) aR,c.2)) λj=>Z (LO.next
 (j.1.1,D.add .i64 i.2.1 1,())))) (Z (LO.out 0 i))) (Z (LO.out 0 i))
def KJ(n:Nat)(f95:Y50->O fm):Y51->O fm:=
 λi=>LO.el i (λ_ k=>Z ((k.1,()),())) (λ_ k=>Z (k,())) λ_ _=>Y
def B95:Nat->(Y50->O fm)->Y50->O fm:=
 λn f95 c=>af (ah (D.aH c.1.1 1) (Z (LO.next (W,()))) (af (ah (D.aH c.1.1 2) (Z (LO.next (W,()))) (Z (LO.next (D.aH c.1.1
 5,())))) λ(d:DE)=>LO.jn d (λe=>Z (LO.next e)) (λ_ _=>Y) (λ_ g=>Z (LO.ret () g)) λ_ _=>Y)) λ(d:DE)=>
 LO.jn d (λe=>af (ah e.1 (ah (D.aH (aj c.1.4) 0) (Z (LO.next (D.aH c.1.2 0,W,()))) (Z (LO.next (J,W,())))) (af (ah
 (D.aH c.1.1 3) (ah (D.aH (aj c.1.4) 0) (af (F52 n (c.1.2,(-1000000000),1000000000,())) λg=>Z (LO.next (g.1.1,W,()))) (Z
 (LO.next (J,W,())))) (af (ah (D.aH c.1.1 4) (ah (D.aH (aj c.1.4) 0) (af (F52 n (c.1.2,0,1,())) λg=>Z (LO.next (g.1.1,W,
 ()))) (Z (LO.next (J,W,())))) (af (ah (D.aH c.1.1 6) (af (F52 n (c.1.2,0,D.eD .i64 (aj c.2.1) 1,())) λg=>ah g.1.1 (aP
 (az c.1.2 c.2.1) (Z (LO.next (D.aH (aj c.1.4) (aT c.2.1 (ai c.1.2) bu).2,W,())))) (Z (LO.next (J,W,())))) (Z
 (LO.next (J,J,())))) λ(g:Ij)=>LO.jn g (λh=>Z (LO.next (h.1,J,()))) (λ_ _=>Y) (λ_ i=>Z (LO.ret () i))
 λ_ _=>Y)) λ(g:Ij)=>LO.jn g (λh=>Z (LO.next (h.1,J,()))) (λ_ _=>Y) (λ_ i=>Z (LO.ret () i)) λ_ _=>
 Y)) λ(g:Ij)=>LO.jn g (λh=>Z (LO.next (h.1,J,()))) (λ_ _=>Y) (λ_ i=>Z (LO.ret () i)) λ_ _=>Y)) λ(g :
 Ij)=>LO.jn g (λh=>ah h.1 (af (@iter (Bool×Int×U) (Bool×U) (U) (Any) (KK n f95 c) n (fO c.1.3 [],0,())) (KJ n f95))
 (af (@iter (Bool×Int×U) (Bool×U) (U) (Any) (KK n f95 c) n (J,0,())) (KJ n f95))) (λ_ _=>Y) (λ_ i=>Z (i,
 ())) λ_ _=>Y) (λ_ _=>Y) (λ_ g=>Z (g,())) λ_ _=>Y
def D95(n:Nat)(f95:Fn QV K4 J)(a:bw prog 95 (q95 f95)):bw prog 95 (q95 (B95 n f95)):=cx [k52 n,⟨95,q95 f95,a⟩] [(95,1,⟨[(5,cV),(7,cR)],[],[],0⟩),(95,1000005,⟨[(13,cV)],[],[],0⟩),(95,1000006,⟨[(13,cV)],[],[],0⟩),(95,1000007,⟨[(5,cV),(13,cV)],[],[],0⟩),(95,1000009,⟨[(5,cV),(24,cV)],[],[],0⟩),(95,1000011,⟨[(5,cV),(33,cV)],[],[],0⟩),(95,1000013,⟨[(5,cV),(42,cV)],[],[],0⟩)] n 10 95
def R95(n k:Nat):(Fn QV K4 J):=Nat.rec (motive:=λ_=>(Fn QV K4 J)) (λ_=>Y) (λ_ r=>B95 n r) k
def F95(n:Nat):Fn QV K4 J:=(R95 n n)
def afo(n:Nat):∀k,bw prog 95 (q95 (R95 n k))
 |0=>bW (enters 95 (by kernel_rfl))
 |k+1=>have a:=afo n k
  D95 n _ a
def k95(n:Nat):OC:=⟨95,q95 (F95 n),(afo n n)⟩
def DJ(n:Nat):MM->O MM:=
 λc=>LO.jn c (λd=>Z (LO.next d)) (λ_ _=>Y) (λ_ e=>Z (LO.ret () e)) λ_ _=>Y
def yf(n:Nat):MM->O MM:=
 λe=>LO.jn e (λg=>Z (LO.next g)) (λ_ _=>Y) (λ_ h=>Z (LO.ret () h)) λ_ _=>Y
def ye(n:Nat):MM->O MM:=
 λh=>LO.jn h (λi=>Z (LO.next i)) (λ_ _=>Y) (λ_ j=>Z (LO.ret () j)) λ_ _=>Y
def F96:Nat->Y66->DF:=
 λn b=>af (ah (D.aH b.1 1) (Z (LO.next (W,()))) (af (ah (D.aH b.1 2) (Z (LO.next (W,()))) (af (ah (D.aH b.1 3) (Z
 (LO.next (W,()))) (af (ah (D.aH b.1 4) (Z (LO.next (W,()))) (af (ah (D.aH b.1 21) (Z (LO.next (W,()))) (af (ah (D.aH b.1 25)
 (Z (LO.next (W,()))) (Z (LO.next (D.aH b.1 28,())))) (DJ n))) (DJ n))) (DJ n))) (DJ n))) (DJ n))) λ(c:MM)=>LO.jn c
 (λd=>ah d.1 (Z ((0,()),())) (af (ah (D.aH b.1 5) (Z (LO.next (W,()))) (af (ah (D.aH b.1 27) (Z (LO.next (W,()))) (af
 (ah (D.aH b.1 16) (Z (LO.next (W,()))) (af (ah (D.aH b.1 17) (Z (LO.next (W,()))) (af (ah (D.aH b.1 19) (Z (LO.next (W,
 ()))) (af (ah (D.aH b.1 20) (Z (LO.next (W,()))) (af (ah (D.aH b.1 23) (Z (LO.next (W,()))) (af (ah (D.aH b.1 26) (Z (LO.next
 (W,()))) (Z (LO.next (D.aH b.1 24,())))) (yf n))) (yf n))) (yf n))) (yf n))) (yf n))) (yf n))) (yf n))) λ(e:MM)=>
 LO.jn e (λg=>ah g.1 (Z ((1,()),())) (af (ah (D.aH b.1 6) (Z (LO.next (W,()))) (af (ah (D.aH b.1 7) (Z (LO.next (W,())))
 (af (ah (D.aH b.1 9) (Z (LO.next (W,()))) (af (ah (D.aH b.1 10) (Z (LO.next (W,()))) (af (ah (D.aH b.1 11) (Z (LO.next (W,
 ()))) (af (ah (D.aH b.1 12) (Z (LO.next (W,()))) (af (ah (D.aH b.1 13) (Z (LO.next (W,()))) (af (ah (D.aH b.1 18) (Z (LO.next
 (W,()))) (Z (LO.next (D.aH b.1 22,())))) (ye n))) (ye n))) (ye n))) (ye n))) (ye n))) (ye n))) (ye n))) λ(h:MM)=>
 LO.jn h (λi=>ah i.1 (Z ((2,()),())) (ah (D.aH b.1 8) (Z ((3,()),())) (ah (D.aH b.1 15) (Z ((D.add .i64 1 b.2.1,()),())) (ah
 (D.aH b.1 14) (Z (b.2.2,())) (Z (((-1),()),())))))) (λ_ _=>Y) (λ_ j=>Z (j,())) λ_ _=>Y)) (λ_ _=>Y) (λ_ h
 =>Z (h,())) λ_ _=>Y)) (λ_ _=>Y) (λ_ e=>Z (e,())) λ_ _=>Y
def k96(n:Nat):OC:=⟨96,⟨P6,K2,J,F96 n⟩,cx [] [(96,1000003,⟨[(8,cV)],[],[],0⟩),(96,1000004,⟨[(8,cV)],[],[],0⟩),(96,1000005,⟨[(8,cV)],[],[],0⟩),(96,1000006,⟨[(8,cV)],[],[],0⟩),(96,1000007,⟨[(8,cV)],[],[],0⟩),(96,1000008,⟨[(8,cV)],[],[],0⟩),(96,1000011,⟨[(16,cV)],[],[],0⟩),(96,1000012,⟨[(16,cV)],[],[],0⟩),(96,1000013,⟨[(16,cV)],[],[],0⟩),(96,1000014,⟨[(16,cV)],[],[],0⟩),(96,1000015,⟨[(16,cV)],[],[],0⟩),(96,1000016,⟨[(16,cV)],[],[],0⟩),(96,1000017,⟨[(16,cV)],[],[],0⟩),(96,1000018,⟨[(16,cV)],[],[],0⟩),(96,1000021,⟨[(26,cV)],[],[],0⟩),(96,1000022,⟨[(26,cV)],[],[],0⟩),(96,1000023,⟨[(26,cV)],[],[],0⟩),(96,1000024,⟨[(26,cV)],[],[],0⟩),(96,1000025,⟨[(26,cV)],[],[],0⟩),(96,1000026,⟨[(26,cV)],[],[],0⟩),(96,1000027,⟨[(26,cV)],[],[],0⟩),(96,1000028,⟨[(26,cV)],[],[],0⟩)] n 10 96⟩
def F54:Nat->av×bp×U->O fm:=
 λn b=>af (ah (D.aH b.2.1.1 1) (af (F52 n (b.2.1.2,(-1000000000),1000000000,())) λc=>Z (LO.next (0,c.1.1,W,()))) (af (ah
 (D.aH b.2.1.1 2) (af (F52 n (b.2.1.2,0,1,())) λc=>Z (LO.next (0,c.1.1,W,()))) (af (ah (D.aH b.2.1.1 4) (af (F52 n (b.2.1.2,
 D.neg .i64 (aj b.1.2),29,())) λc=>Z (LO.next (0,c.1.1,W,()))) (af (ah (D.aH b.2.1.1 24) (af (F52 n (b.2.1.2,0,3,())) λc=>
 Z (LO.next (0,c.1.1,W,()))) (af (ah (D.aH b.2.1.1 14) (af (F52 n (b.2.1.2,0,D.eD .i64 (aj b.1.4) 1,())) λc=>af (ah c.1.1
 (aP (az b.2.1.2 b.1.4) (Z (LO.next ((aT b.1.4 (ai b.2.1.2) bu).2,W,())))) (Z (LO.next (0,J,())))) λ(d:LO (Int×Bool
 ×U) (Bool×U) U Any)=>LO.jn d (λe=>Z (LO.next (e.1,c.1.1,W,()))) (λ_ _=>Y) (λ_ g=>Z (LO.ret () g)) λ_ _
 =>Y) (Z (LO.next (0,D.aH b.2.1.2 0,J,())))) λ(c:Y68)=>LO.jn c (λd=>Z (LO.next (d.1,d.2.1,J,()))) (λ_ _=>Y)
 (λ_ e=>Z (LO.ret () e)) λ_ _=>Y)) λ(c:Y68)=>LO.jn c (λd=>Z (LO.next (d.1,d.2.1,J,()))) (λ_ _=>Y) (λ_ e
 =>Z (LO.ret () e)) λ_ _=>Y)) λ(c:Y68)=>LO.jn c (λd=>Z (LO.next (d.1,d.2.1,J,()))) (λ_ _=>Y) (λ_ e=>Z
 (LO.ret () e)) λ_ _=>Y)) λ(c:Y68)=>LO.jn c (λd=>Z (LO.next (d.1,d.2.1,J,()))) (λ_ _=>Y) (λ_ e=>Z (LO.ret
 () e)) λ_ _=>Y)) λ(c:Y68)=>LO.jn c (λd=>af (ah (D.aH b.2.1.1 15) (ah d.2.1 (af (F52 n (aj b.2.1.4,1,5,())) λe=>Z
 (LO.next (e.1.1,W,()))) (Z (LO.next (J,W,())))) (ah d.2.1 (Z (LO.next (D.aH (aj b.2.1.4) 0,J,()))) (Z (LO.next (J,
 J,()))))) λ(e:Ij)=>LO.jn e (λg=>af (@iter (Bool×Int×U) (Bool×U) (U) (Any) (λh=>ah (D.bM h.2.1 (aj b.2.1.4))
 (ah h.1 (aP (az h.2.1 b.2.1.4) (af (F83 n (aT b.2.1.4 (ai h.2.1) aR,12,())) λi=>ah (D.eu 0 i.1.1) (aP (az h.2.1 b.2.1.4) (af
 (F95 n (aT b.2.1.4 (ai h.2.1) aR,b.1.4,())) λj=>Z (LO.next (j.1.1,D.add .i64 h.2.1 1,())))) (Z (LO.next (J,D.add .i64
 h.2.1 1,()))))) (Z (LO.out 0 h))) (Z (LO.out 0 h))) n (g.1,0,())) λh=>LO.el h (λ_ j=>ah j.1 (af (F96 n (b.2.1.1,aj b.2.1.4,
 d.1,())) λk=>Z ((D.aH (aj b.2.1.3) k.1.1,()),())) (Z ((J,()),()))) (λ_ j=>Z (j,())) λ_ _=>Y) (λ_ _=>Y)
 (λ_ h=>Z (h,())) λ_ _=>Y) (λ_ _=>Y) (λ_ e=>Z (e,())) λ_ _=>Y
def k54(n:Nat):OC:=⟨54,⟨akN,K4,J,F54 n⟩,cx [k52 n,k83 n,k95 n,k96 n] [(54,1,⟨[(6,cV),(7,cR)],[],[],0⟩),(54,1000005,⟨[(5,cR),(6,cV),(13,cV)],[],[],0⟩),(54,1000007,⟨[(5,cR),(6,cV),(18,cV)],[],[],0⟩),(54,1000009,⟨[(5,cR),(6,cV),(23,cV)],[],[],0⟩),(54,1000011,⟨[(5,cR),(6,cV),(32,cV)],[],[],0⟩),(54,1000013,⟨[(5,cR),(6,cV),(37,cV)],[],[],0⟩),(54,1000015,⟨[(5,cR),(46,cV)],[],[],0⟩),(54,1000017,⟨[(6,cV),(56,cV)],[],[],0⟩)] n 10 54⟩
def Am(b:av×U)(j:Ud)(l:Ud):Int:=
 aT (aT b.1.1 (ai j.2.1) aN).3 (ai l.2.1) 0
def F15:Y81:=
 λn b=>ah (D.bM 300 (aj b.1.1)) (Z ((J,()),())) (af (F52 n (aj b.1.2,1,aj b.1.1,())) λc=>ah (D.aK c.1.1) (Z
 ((J,()),())) (af (F52 n (b.1.3,0,D.eD .i64 (aj b.1.2) 1,())) λd=>ah (D.aK d.1.1) (Z ((J,()),())) (af (F53 n (b.1.4,
 ())) λe=>ah (D.aK e.1.1) (Z ((J,()),())) (aP (AI (VW (aj b.1.1)) (kT (aj b.1.1) (aj b.1.1))) (af (@iter (Ud) (Bool×
 U) (U) (Any) (λg=>ah (D.bM g.2.1 (aj b.1.2)) (aP (az g.2.1 b.1.2) (af (F52 n (aT b.1.2 (ai g.2.1) 0,0,D.eD .i64 (aj b.1.1)
 1,())) λh=>ah (D.aK h.1.1) (Z (LO.ret () (J,()))) (aP (az g.2.1 b.1.2) (aP (az (aT b.1.2 (ai g.2.1) 0) g.1) (aP (ef (ai
 (aT b.1.2 (ai g.2.1) 0)) g.1) (ah (aT g.1 (ai (aT b.1.2 (ai g.2.1) 0)) J) (Z (LO.ret () (J,()))) (aP (az g.2.1 b.1.2) (aP
 (az (aT b.1.2 (ai g.2.1) 0) g.1) (aP (ef (ai (aT b.1.2 (ai g.2.1) 0)) g.1) (Z (LO.next (jP g.1 (ai (aT b.1.2 (ai g.2.1) 0))
 W,D.add .i64 g.2.1 1,())))))))))))) (Z (LO.out 0 g))) n (GF (ai (aj b.1.1)) J,0,())) λg=>LO.el g (λ_ i=>af (@iter (Ud)
 (Bool×U) (U) (Any) (λj=>ah (D.bM j.2.1 (aj b.1.1)) (aP (az j.2.1 b.1.1) (af (F54 n (b.1,aT b.1.1 (ai j.2.1) aN,()))
 λk=>ah (D.aK k.1.1) (Z (LO.ret () (J,()))) (af (@iter (Ud) (Bool×U) (U) (Any) (λl=>aP (az j.2.1 b.1.1) (ah (D.bM
 l.2.1 (aj (aT b.1.1 (ai j.2.1) aN).3)) (aP (az j.2.1 b.1.1) (aP (az l.2.1 (aT b.1.1 (ai j.2.1) aN).3) (af (F52 n (Am b
 j l,D.add .i64 j.2.1 1,D.eD .i64 (aj b.1.1) 1,())) λm=>ah (D.aK m.1.1) (Z (LO.ret () (J,()))) (aP (az (Am b j l) l.1) (aP
 (ef (ai (Am b j l)) l.1) (ah (aT l.1 (ai (Am b j l)) J) (Z (LO.ret () (J,()))) (aP (az (Am b j l) l.1) (aP (ef (ai
 (Am b j l)) l.1) (Z (LO.next (jP l.1 (ai (Am b j l)) W,D.add .i64 l.2.1 1,()))))))))))) (Z (LO.out 0 l)))) n (j.1,0,())) λl
 =>LO.el l (λ_ o=>Z (LO.next (o.1,D.add .i64 j.2.1 1,()))) (λ_ o=>Z (LO.ret () o)) λ_ _=>Y))) (Z (LO.out 0 j))) n (i.1,0,
 ())) λj=>LO.el j (λ_ l=>af (@iter (Int×U) (Bool×U) (U) (Any) (λm=>ah (D.bM m.1 (aj b.1.1)) (aP (az m.1 l.1) (aP
 (ef (ai m.1) l.1) (ah (D.aK (aT l.1 (ai m.1) J)) (Z (LO.ret () (J,()))) (Z (LO.next (D.add .i64 m.1 1,())))))) (Z (LO.out
 0 m))) n (0,())) λm=>LO.el m (λ_ _=>Z ((W,()),())) (λ_ p=>Z (p,())) λ_ _=>Y) (λ_ l=>Z (l,())) λ_ _=>
 Y) (λ_ i=>Z (i,())) λ_ _=>Y)))))
def k15(n:Nat):OC:=⟨15,⟨P5,K4,J,F15 n⟩,cx [k52 n,k53 n,k54 n] [(15,0,⟨[(4,.one (.own (.bool))),(5,cR)],[],[],0⟩),(15,2,⟨[(4,.one (.own (.bool))),(6,cR)],[],[],0⟩),(15,4,⟨[(4,.one (.own (.bool))),(7,cR)],[],[],0⟩),(15,6,⟨[(9,cR)],[],[],0⟩)] n 10 15⟩
def F55:Y67:=
 λn b=>ah (D.eu b.2.1 b.1) (Z ((D.eu b.1 b.2.2.1,()),())) (Z ((J,()),()))
def k55(n:Nat):OC:=⟨55,⟨P6,K4,J,F55 n⟩,cx [] [] n 10 55⟩
def F16:aeW:=
 λn b=>af (@iter (Int×U) (Bool×U) (U) (Any) (λc=>ah (D.bM c.1 (aj b.1)) (ah (D.eu c.1 b.2.1) (aP (az c.1 b.1) (af (F55
 n (aT b.1 (ai c.1) 0,(-1000000000),1000000000,())) λd=>ah (D.aK d.1.1) (Z (LO.ret () (J,()))) (Z (LO.next (D.add .i64 c.1 1,
 ()))))) (Z (LO.out 0 c))) (Z (LO.out 0 c))) n (0,())) λc=>LO.el c (λ_ _=>Z ((D.eu (aj b.1) b.2.1,()),())) (λ_ e=>Z (e,
 ())) λ_ _=>Y
def k16(n:Nat):OC:=⟨16,⟨aaW,K4,J,F16 n⟩,cx [k55 n] [(16,0,⟨[(5,cR)],[],[],0⟩)] n 10 16⟩
def F26:Nat->L Int×L Int×U->O fm:=
 λn b=>ah (D.aK (D.aH (aj b.1) (aj b.2.1))) (Z ((J,()),())) (af (@iter (Int×U) (Bool×U) (U) (Any) (λc=>ah
 (D.bM c.1 (aj b.1)) (aP (az c.1 b.1) (aP (az c.1 b.2.1) (ah (D.aK (D.aH (aT b.1 (ai c.1) 0) (aT b.2.1 (ai c.1) 0))) (Z (LO.ret ()
 (J,()))) (Z (LO.next (D.add .i64 c.1 1,())))))) (Z (LO.out 0 c))) n (0,())) λc=>LO.el c (λ_ _=>Z ((W,()),())) (λ_ e
 =>Z (e,())) λ_ _=>Y)
def k26(n:Nat):OC:=⟨26,⟨akM,K4,J,F26 n⟩,cx [] [(26,0,⟨[(5,cR)],[],[],0⟩)] n 10 26⟩
def F27:Nat->L dW×L dW×U->O fm:=
 λn b=>ah (D.aK (D.aH (aj b.1) (aj b.2.1))) (Z ((J,()),())) (af (@iter (Int×U) (Bool×U) (U) (Any) (λc=>ah
 (D.bM c.1 (aj b.1)) (aP (az c.1 b.1) (aP (az c.1 b.2.1) (ah (D.aK (D.eJ (D.aH (aT b.1 (ai c.1) eg).1 (aT b.2.1 (ai c.1)
 eg).1) (D.eJ (D.aH (aT b.1 (ai c.1) eg).2 (aT b.2.1 (ai c.1) eg).2) W))) (Z (LO.ret () (J,()))) (Z (LO.next
 (D.add .i64 c.1 1,())))))) (Z (LO.out 0 c))) n (0,())) λc=>LO.el c (λ_ _=>Z ((W,()),())) (λ_ e=>Z (e,())) λ_ _=>
 Y)
def k27(n:Nat):OC:=⟨27,⟨akL,K4,J,F27 n⟩,cx [] [(27,0,⟨[(5,cR)],[],[],0⟩)] n 10 27⟩
def F98:Nat->Y97->O fm:=
 λn b=>ah (D.aK (D.aH (aj b.1) (aj b.2.1))) (Z ((J,()),())) (af (@iter (Int×U) (Bool×U) (U) (Any) (λc=>ah
 (D.bM c.1 (aj b.1)) (aP (az c.1 b.1) (aP (az c.1 b.2.1) (ah (D.aK (D.eJ (D.aH (aT b.1 (ai c.1) aB).1 (aT b.2.1 (ai c.1)
 aB).1) (D.eJ (D.aH (aT b.1 (ai c.1) aB).2 (aT b.2.1 (ai c.1) aB).2) W))) (Z (LO.ret () (J,()))) (Z (LO.next
 (D.add .i64 c.1 1,())))))) (Z (LO.out 0 c))) n (0,())) λc=>LO.el c (λ_ _=>Z ((W,()),())) (λ_ e=>Z (e,())) λ_ _=>
 Y)
def k98(n:Nat):OC:=⟨98,⟨P34,K4,J,F98 n⟩,cx [] [(98,0,⟨[(5,cR)],[],[],0⟩)] n 10 98⟩
def F57:aeI:=
 λn b=>ah (D.aK (D.aH b.1.1 b.2.1.1)) (Z ((J,()),())) (ah (D.aK (D.aH b.1.2 b.2.1.2)) (Z ((J,()),())) (af (F98 n (b.1.3,
 b.2.1.3,())) λc=>ah (D.aK c.1.1) (Z ((J,()),())) (ah (D.aK (D.aH (aj b.1.4) (aj b.2.1.4))) (Z ((J,()),())) (af
 (@iter (Int×U) (Bool×U) (U) (Any) (λd=>ah (D.bM d.1 (aj b.1.4)) (aP (az d.1 b.1.4) (aP (az d.1 b.2.1.4) (ah (D.aK (D.aH
 (aT b.1.4 (ai d.1) aF).1 (aT b.2.1.4 (ai d.1) aF).1)) (Z (LO.ret () (J,()))) (af (F98 n ((aT b.1.4 (ai d.1)
 aF).2,(aT b.2.1.4 (ai d.1) aF).2,())) λe=>ah (D.aK e.1.1) (Z (LO.ret () (J,()))) (af (F98 n ((aT b.1.4 (ai
 d.1) aF).3,(aT b.2.1.4 (ai d.1) aF).3,())) λg=>ah (D.aK g.1.1) (Z (LO.ret () (J,()))) (Z (LO.next (D.add .i64
 d.1 1,())))))))) (Z (LO.out 0 d))) n (0,())) λd=>LO.el d (λ_ _=>Z ((W,()),())) (λ_ g=>Z (g,())) λ_ _=>Y))))
def k57(n:Nat):OC:=⟨57,⟨ae9,K4,J,F57 n⟩,cx [k98 n] [(57,0,⟨[(5,cR)],[],[],0⟩)] n 10 57⟩
def Gf(n:Nat):O fm:=
 Z ((J,()),())
def F19:aeQ:=
 λn b=>ah (D.aK (D.aH (aj b.1.1) (aj b.2.1.1))) (Gf n) (af (F26 n (b.1.2,b.2.1.2,())) λc=>ah (D.aK c.1.1) (Gf n) (af (F27
 n (b.1.3,b.2.1.3,())) λd=>ah (D.aK d.1.1) (Gf n) (af (F26 n (b.1.4,b.2.1.4,())) λe=>ah (D.aK e.1.1) (Gf n) (ah (D.aK
 (D.aH b.1.5 b.2.1.5)) (Gf n) (af (@iter (Int×U) (Bool×U) (U) (Any) (λg=>ah (D.bM g.1 (aj b.1.1)) (aP (az g.1 b.1.1) (aP
 (az g.1 b.2.1.1) (af (F57 n (aT b.1.1 (ai g.1) aS,aT b.2.1.1 (ai g.1) aS,())) λh=>ah (D.aK h.1.1) (Z (LO.ret ()
 (J,()))) (Z (LO.next (D.add .i64 g.1 1,())))))) (Z (LO.out 0 g))) n (0,())) λg=>LO.el g (λ_ _=>Z ((W,()),())) (λ_ i
 =>Z (i,())) λ_ _=>Y)))))
def k19(n:Nat):OC:=⟨19,⟨ae8,K4,J,F19 n⟩,cx [k26 n,k27 n,k57 n] [(19,0,⟨[(5,cR)],[],[],0⟩)] n 10 19⟩
def F17:Y88:=
 λn b=>af (F19 n (b.1,cm,())) λc=>Z c
def k17(n:Nat):OC:=⟨17,⟨Un,K4,J,F17 n⟩,cx [k19 n] [] n 10 17⟩
def Gc(n:Nat):MM->O MM:=
 λc=>LO.jn c (λd=>Z (LO.next d)) (λ_ _=>Y) (λ_ e=>Z (LO.ret () e)) λ_ _=>Y
def vC(n:Nat):DF:=
 Z ((1,()),())
def F75:Y16:=
 λn b=>af (ah (D.aH b.1.1 6) (Z (LO.next (W,()))) (af (ah (D.aH b.1.1 9) (Z (LO.next (W,()))) (af (ah (D.aH b.1.1 10) (Z
 (LO.next (W,()))) (af (ah (D.aH b.1.1 11) (Z (LO.next (W,()))) (af (ah (D.aH b.1.1 12) (Z (LO.next (W,()))) (af (ah (D.aH
 b.1.1 13) (Z (LO.next (W,()))) (af (ah (D.aH b.1.1 18) (Z (LO.next (W,()))) (Z (LO.next (D.aH b.1.1 22,())))) (Gc n))) (Gc
 n))) (Gc n))) (Gc n))) (Gc n))) (Gc n))) λ(c:MM)=>LO.jn c (λd=>ah d.1 (Z ((2,()),())) (ah (D.aH b.1.1 14) (Z ((aj
 b.1.3,()),())) (ah (D.aH b.1.1 7) (vC n) (ah (D.aH b.1.1 8) (vC n) (ah (D.aH b.1.1 15) (vC n) (ah (D.aH b.1.1 16) (vC n) (ah
 (D.aH b.1.1 17) (vC n) (ah (D.aH b.1.1 19) (vC n) (ah (D.aH b.1.1 20) (vC n) (ah (D.aH b.1.1 23) (vC n) (ah (D.aH b.1.1 24) (vC
 n) (ah (D.aH b.1.1 26) (vC n) (Z ((0,()),())))))))))))))) (λ_ _=>Y) (λ_ e=>Z (e,())) λ_ _=>Y
def k75(n:Nat):OC:=⟨75,⟨P27,K2,J,F75 n⟩,cx [] [(75,1000003,⟨[(5,cV)],[],[],0⟩),(75,1000004,⟨[(5,cV)],[],[],0⟩),(75,1000005,⟨[(5,cV)],[],[],0⟩),(75,1000006,⟨[(5,cV)],[],[],0⟩),(75,1000007,⟨[(5,cV)],[],[],0⟩),(75,1000008,⟨[(5,cV)],[],[],0⟩),(75,1000009,⟨[(5,cV)],[],[],0⟩)] n 10 75⟩

def F65:Nat->L aJ×U->O fm:=
 λn b=>Z ((D.eu (aj b.1) 40,()),())
def k65(n:Nat):OC:=⟨65,⟨P50,K4,J,F65 n⟩,cx [] [] n 10 65⟩
def F35:Y88:=
 λn b=>ah (D.bM 130 (aj b.1.1)) (Z ((J,()),())) (ah (D.bM 130 (aj b.1.2)) (Z ((J,()),())) (ah (D.bM 110 (aj b.1.3))
 (Z ((J,()),())) (ah (D.bM 60 (aj b.1.4)) (Z ((J,()),())) (af (@iter (Int×U) (Bool×U) (U) (Any) (λc=>ah (D.bM
 c.1 (aj b.1.1)) (aP (az c.1 b.1.1) (af (F65 n ((aT b.1.1 (ai c.1) aS).3,())) λd=>ah (D.aK d.1.1) (Z (LO.ret () (J,())))
 (ah (D.bM 50 (aj (aT b.1.1 (ai c.1) aS).4)) (Z (LO.ret () (J,()))) (af (@iter (Int×U) (Bool×U) (U) (Any) (λe=>
 ah (D.bM e.1 (aj (aT b.1.1 (ai c.1) aS).4)) (aP (az e.1 (aT b.1.1 (ai c.1) aS).4) (af (F65 n ((aT (aT b.1.1 (ai c.1)
 aS).4 (ai e.1) aF).2,())) λg=>ah (D.aK g.1.1) (Z (LO.ret () (J,()))) (aP (az e.1 (aT b.1.1 (ai c.1) aS).4)
 (af (F65 n ((aT (aT b.1.1 (ai c.1) aS).4 (ai e.1) aF).3,())) λh=>ah (D.aK h.1.1) (Z (LO.ret () (J,()))) (Z
 (LO.next (D.add .i64 e.1 1,()))))))) (Z (LO.out 0 e))) n (0,())) λe=>LO.el e (λ_ _=>Z (LO.next (D.add .i64 c.1 1,()))) (λ_ h=>
 Z (LO.ret () h)) λ_ _=>Y)))) (Z (LO.out 0 c))) n (0,())) λc=>LO.el c (λ_ _=>Z ((W,()),())) (λ_ e=>Z (e,()))
 λ_ _=>Y))))
def k35(n:Nat):OC:=⟨35,⟨Un,K4,J,F35 n⟩,cx [k65 n] [(35,0,⟨[(3,cR)],[],[],0⟩),(35,2,⟨[(5,cR)],[],[],0⟩)] n 10 35⟩
def F20:Y21:=
 λn b=>af (F12 n (b.1,())) λc=>ah c.1.1 (af (F35 n b.2) λd=>Z d) (Z ((J,()),()))
def k20(n:Nat):OC:=⟨20,⟨P67,K4,J,F20 n⟩,cx [k12 n,k35 n] [] n 10 20⟩
def F105:aeW:=
 λn b=>af (@iter (Int×U) (Bool×U) (U) (Any) (λc=>ah (D.bM c.1 (aj b.1)) (aP (az c.1 b.1) (ah (D.aH (aT b.1 (ai c.1)
 0) b.2.1) (Z (LO.ret () (W,()))) (Z (LO.next (D.add .i64 c.1 1,()))))) (Z (LO.out 0 c))) n (0,())) λc=>LO.el c (λ_ _=>Z
 ((J,()),())) (λ_ e=>Z (e,())) λ_ _=>Y
def acC(n:Nat):OC:=⟨105,⟨aaW,K4,J,F105 n⟩,cx [] [(105,0,⟨[(5,cR)],[],[],0⟩)] n 10 105⟩
def KB(b:ak×U)(g:Int×U):Int:=
 aT b.1.2 (ai g.1) 0
def F66:Y88:=
 λn b=>af (@iter (Int×Int×U) (Bool×U) (U) (Any) (λc=>ah (D.bM c.2.1 (aj b.1.1)) (aP (az c.2.1 b.1.1) (ah (D.aH (aT
 b.1.1 (ai c.2.1) aS).1 6) (Z (LO.next (D.add .i64 c.1 1,D.add .i64 c.2.1 1,()))) (Z (LO.next (c.1,D.add .i64 c.2.1 1,()))))) (Z
 (LO.out 0 c))) n (0,0,())) λc=>LO.el c (λ_ e=>ah (D.aK (D.aH (aj b.1.2) e.1)) (Z ((J,()),())) (af (@iter (Int×U) (Bool
 ×U) (U) (Any) (λg=>ah (D.bM g.1 e.1) (aP (az g.1 b.1.2) (af (F55 n (KB b g,0,D.eD .i64 (aj b.1.1) 1,())) λh=>ah
 (D.aK h.1.1) (Z (LO.ret () (J,()))) (aP (az (KB b g) b.1.1) (ah (D.aK (D.aH (aT b.1.1 (ai (KB b g)) aS).1 6)) (Z
 (LO.ret () (J,()))) (aP (iz 0 g.1 (aj b.1.2)) (af (F105 n (eZ b.1.2 0 g.1,KB b g,())) λi=>ah i.1.1 (Z (LO.ret () (J,
 ()))) (Z (LO.next (D.add .i64 g.1 1,()))))))))) (Z (LO.out 0 g))) n (0,())) λg=>LO.el g (λ_ _=>Z ((W,()),())) (λ_ i=>
 Z (i,())) λ_ _=>Y)) (λ_ e=>Z (e,())) λ_ _=>Y
def k66(n:Nat):OC:=⟨66,⟨Un,K4,J,F66 n⟩,cx [k55 n,acC n] [(66,0,⟨[(3,cR),(4,cR)],[],[],0⟩),(66,2,⟨[(5,cR)],[],[],0⟩)] n 10 66⟩
def F169:Nat->av×ak×aJ×U->O fm:=
 λn b=>ah (D.aH b.2.2.1.1 1) (af (F55 n (b.2.2.1.2,(-1000000000),1000000000,())) λc=>Z c) (ah (D.aH b.2.2.1.1 2) (af (F55 n
 (b.2.2.1.2,0,1,())) λc=>Z c) (ah (D.aH b.2.2.1.1 3) (Z ((D.aH b.2.2.1.2 0,()),())) (ah (D.aH b.2.2.1.1 4) (af (F55 n (b.2.2.1.2,
 0,D.eD .i64 (aj b.1.2) 1,())) λc=>Z c) (ah (D.aH b.2.2.1.1 5) (af (F55 n (b.2.2.1.2,0,D.eD .i64 (aj b.2.1.1) 1,())) λc=>
 Z c) (Z ((J,()),()))))))
def ahE(n:Nat):OC:=⟨169,⟨akK,K4,J,F169 n⟩,cx [k55 n] [] n 10 169⟩
def F109:Nat->av×ak×L aJ×Int×U->O fm:=
 λn b=>af (@iter (Int×U) (Bool×U) (U) (Any) (λc=>ah (D.bM c.1 (aj b.2.2.1)) (ah (D.eu c.1 b.2.2.2.1) (aP (az c.1
 b.2.2.1) (af (F169 n (b.1,b.2.1,aT b.2.2.1 (ai c.1) aB,())) λd=>ah (D.aK d.1.1) (Z (LO.ret () (J,()))) (Z (LO.next
 (D.add .i64 c.1 1,()))))) (Z (LO.out 0 c))) (Z (LO.out 0 c))) n (0,())) λc=>LO.el c (λ_ _=>Z ((D.eu (aj b.2.2.1) b.2.2.2.1,
 ()),())) (λ_ e=>Z (e,())) λ_ _=>Y
def Zq(n:Nat):OC:=⟨109,⟨akJ,K4,J,F109 n⟩,cx [ahE n] [(109,0,⟨[(9,cR)],[],[],0⟩)] n 10 109⟩
def F107:Nat->av×ak×L aD×U->O fm:=
 λn b=>af (@iter (Int×U) (Bool×U) (U) (Any) (λc=>ah (D.bM c.1 (aj b.2.2.1)) (ah (D.eu c.1 40) (aP (az c.1 b.2.2.1) (af
 (F55 n ((aT b.2.2.1 (ai c.1) aF).1,0,D.eD .i64 (aj b.1.1) 1,())) λd=>ah (D.aK d.1.1) (Z (LO.ret () (J,()))) (af
 (F109 n (b.1,b.2.1,(aT b.2.2.1 (ai c.1) aF).2,30,())) λe=>ah (D.aK e.1.1) (Z (LO.ret () (J,()))) (aP (az (aT b.2.2.1
 (ai c.1) aF).1 b.1.1) (af (F75 n (aT b.1.1 (ai (aT b.2.2.1 (ai c.1) aF).1) aN,())) λg=>af (F109 n (b.1,b.2.1,
 (aT b.2.2.1 (ai c.1) aF).3,g.1)) λh=>ah (D.aK h.1.1) (Z (LO.ret () (J,()))) (Z (LO.next (D.add .i64 c.1 1,()))))))))
 (Z (LO.out 0 c))) (Z (LO.out 0 c))) n (0,())) λc=>LO.el c (λ_ _=>Z ((D.eu (aj b.2.2.1) 40,()),())) (λ_ e=>Z (e,()))
 λ_ _=>Y
def acB(n:Nat):OC:=⟨107,⟨akI,K4,J,F107 n⟩,cx [k55 n,k75 n,Zq n] [(107,0,⟨[(7,cR)],[],[],0⟩)] n 10 107⟩
def F108:Nat->av×L aD×Int×U->O fm:=
 λn b=>af (@iter (Int×U) (Bool×U) (U) (Any) (λc=>ah (D.bM c.1 b.2.2.1) (aP (az c.1 b.2.1) (aP (az c.1 b.2.1) (aP (az
 (aT b.2.1 (ai c.1) aF).1 b.1.1) (af (F75 n (aT b.1.1 (ai (aT b.2.1 (ai c.1) aF).1) aN,())) λd=>ah (D.eu d.1.1
 (aj (aT b.2.1 (ai c.1) aF).3)) (Z (LO.ret () (J,()))) (Z (LO.next (D.add .i64 c.1 1,()))))))) (Z (LO.out 0 c))) n (0,()))
 λc=>LO.el c (λ_ _=>Z ((W,()),())) (λ_ e=>Z (e,())) λ_ _=>Y
def acA(n:Nat):OC:=⟨108,⟨akH,K4,J,F108 n⟩,cx [k75 n] [(108,0,⟨[(7,cR)],[],[],0⟩)] n 10 108⟩
def tT(n:Nat):O fm:=
 Z ((J,()),())
def F106:Y56:=
 λn b=>ah (D.aH b.2.2.1.2 0) (af (F107 n (b.1,b.2.1,b.2.2.1.4,())) λc=>ah c.1.1 (af (F109 n (b.1,b.2.1,b.2.2.1.3,1,())) λd=>
 ah d.1.1 (ah (D.bM 0 (D.add .i64 (aj b.2.2.1.4) (aj b.2.2.1.3))) (af (F108 n (b.1,b.2.2.1.4,Lz (aj b.2.2.1.4) (Cp 0 (D.add .i64 (D.eD .i64
 (aj b.2.2.1.4) 1) (aj b.2.2.1.3))),())) λe=>Z e) (tT n)) (tT n)) (tT n)) (ah (D.aH b.2.2.1.2 1) (ah (D.aH (aj b.2.2.1.4)
 0) (ah (D.aH (aj b.2.2.1.3) 1) (af (F109 n (b.1,b.2.1,b.2.2.1.3,1,())) λc=>Z c) (tT n)) (tT n)) (af (ah (D.aH b.2.2.1.2 2)
 (Z (LO.next (W,()))) (af (ah (D.aH b.2.2.1.2 3) (Z (LO.next (W,()))) (Z (LO.next (D.aH b.2.2.1.2 4,())))) λ(c:DE)=>LO.jn
 c (λd=>Z (LO.next d)) (λ_ _=>Y) (λ_ e=>Z (LO.ret () e)) λ_ _=>Y)) λ(c:DE)=>LO.jn c (λd=>ah d.1 (ah
 (D.aH (aj b.2.2.1.4) 0) (Z ((D.aH (aj b.2.2.1.3) 0,()),())) (tT n)) (tT n)) (λ_ _=>Y) (λ_ e=>Z (e,())) λ_ _=>
 Y))
def ahX(n:Nat):OC:=⟨106,⟨ae7,K4,J,F106 n⟩,cx [acB n,acA n,Zq n] [(106,1000008,⟨[(69,cV)],[],[],0⟩),(106,1000009,⟨[(69,cV)],[],[],0⟩)] n 10 106⟩
def pg(n:Nat):O fm:=
 Z ((J,()),())
def F67:Y56:=
 λn b=>ah (D.aH b.2.2.1.1 6) (af (F106 n b) λc=>Z c) (ah (D.aH b.2.2.1.1 5) (ah (D.aH b.2.2.1.2 0) (ah (D.aH (aj b.2.2.1.3) 0)
 (ah (D.bM 0 (aj b.2.2.1.4)) (af (F107 n (b.1,b.2.1,b.2.2.1.4,())) λc=>ah c.1.1 (af (F108 n (b.1,b.2.2.1.4,aj b.2.2.1.4,())) λd
 =>ah d.1.1 (aP (az 0 b.2.2.1.4) (aP (az (aT b.2.2.1.4 (ai 0) aF).1 b.1.1) (Z ((D.aH (aT b.1.1 (ai (aT b.2.2.1.4 (ai 0)
 aF).1) aN).1 26,()),())))) (pg n)) (pg n)) (pg n)) (pg n)) (pg n)) (ah (D.aK (D.aH (aj b.2.2.1.4) 0)) (pg n)
 (ah (D.aH b.2.2.1.1 1) (af (F55 n (b.2.2.1.2,0,D.eD .i64 (aj b.1.4) 1,())) λc=>ah c.1.1 (aP (az b.2.2.1.2 b.1.4) (ah (D.aH (aj
 b.2.2.1.3) (aT b.1.4 (ai b.2.2.1.2) bu).2) (af (F109 n (b.1,b.2.1,b.2.2.1.3,3,())) λd=>Z d) (pg n))) (pg n)) (ah (D.aH
 b.2.2.1.1 2) (af (F55 n (b.2.2.1.2,0,D.eD .i64 (aj b.1.1) 1,())) λc=>ah c.1.1 (aP (az b.2.2.1.2 b.1.1) (ah (D.aH (aT b.1.1 (ai
 b.2.2.1.2) aN).1 5) (af (F109 n (b.1,b.2.1,b.2.2.1.3,30,())) λd=>Z d) (pg n))) (pg n)) (ah (D.aH b.2.2.1.1 3) (ah (D.aH
 b.2.2.1.2 0) (ah (D.aH (aj b.2.2.1.3) 1) (af (F109 n (b.1,b.2.1,b.2.2.1.3,1,())) λc=>Z c) (pg n)) (pg n)) (ah (D.aH b.2.2.1.1
 4) (ah (D.aH b.2.2.1.2 0) (af (F109 n (b.1,b.2.1,b.2.2.1.3,4,())) λc=>Z c) (pg n)) (pg n)))))))
def k67(n:Nat):OC:=⟨67,⟨ae7,K4,J,F67 n⟩,cx [k55 n,ahX n,acB n,acA n,Zq n] [] n 10 67⟩
def vF(n:Nat):O fm:=
 Z ((J,()),())
def F36:Y21:=
 λn b=>ah (D.bM 120 (aj b.2.1.1)) (vF n) (ah (D.bM 100 (aj b.2.1.3)) (vF n) (af (F16 n (b.2.1.4,50,())) λc=>ah (D.aK
 c.1.1) (vF n) (af (F55 n (b.2.1.5,0,1000000000,())) λd=>ah (D.aK d.1.1) (vF n) (af (F66 n b.2) λe=>ah (D.aK e.1.1) (vF n)
 (af (@iter (Int×U) (Bool×U) (U) (Any) (λg=>ah (D.bM g.1 (aj b.2.1.1)) (aP (az g.1 b.2.1.1) (af (F67 n (b.1,b.2.1,aT
 b.2.1.1 (ai g.1) aS,())) λh=>ah (D.aK h.1.1) (Z (LO.ret () (J,()))) (Z (LO.next (D.add .i64 g.1 1,()))))) (Z (LO.out 0
 g))) n (0,())) λg=>LO.el g (λ_ _=>af (@iter (Int×U) (Bool×U) (U) (Any) (λj=>ah (D.bM j.1 (aj b.2.1.3)) (aP (az j.1
 b.2.1.3) (af (F55 n ((aT b.2.1.3 (ai j.1) eg).1,0,3,())) λk=>ah (D.aK k.1.1) (Z (LO.ret () (J,()))) (aP (az j.1
 b.2.1.3) (af (F55 n ((aT b.2.1.3 (ai j.1) eg).2,(-1000000000),1000000000,())) λl=>ah (D.aK l.1.1) (Z (LO.ret () (J,())))
 (Z (LO.next (D.add .i64 j.1 1,()))))))) (Z (LO.out 0 j))) n (0,())) λj=>LO.el j (λ_ _=>Z ((W,()),())) (λ_ l=>Z (l,
 ())) λ_ _=>Y) (λ_ i=>Z (i,())) λ_ _=>Y)))))
def k36(n:Nat):OC:=⟨36,⟨P67,K4,J,F36 n⟩,cx [k16 n,k55 n,k66 n,k67 n] [(36,0,⟨[(5,cR)],[],[],0⟩),(36,2,⟨[(6,cR)],[],[],0⟩)] n 10 36⟩
def F22:Y21:=
 λn b=>af (F15 n (b.1,())) λc=>ah c.1.1 (af (F36 n b) λd=>Z d) (Z ((J,()),()))
def k22(n:Nat):OC:=⟨22,⟨P67,K4,J,F22 n⟩,cx [k15 n,k36 n] [] n 10 22⟩
def F29:Nat->Y17->DF:=
 λn b=>af (F46 n (b.1,())) λc=>ah (D.aK (D.aH c.1.1 0)) (Z ((2,()),())) (af (F99 n (bY.mk b.1 b.2.1,())) λd=>ah
 (D.aK d.1.1) (Z ((2,()),())) (Z ((0,()),())))
def k29(n:Nat):OC:=⟨29,⟨P67,K2,J,F29 n⟩,cx [k46 n,k99 n] [] n 10 29⟩
def F103:Nat->MK->O Y18:=
 λn b=>af (F105 n b) λc=>ah c.1.1 (Z ((b.1,()),())) (aP (dR b.1 [b.2.1]) (Z ((dj b.1 [b.2.1],()),())))
def acD(n:Nat):OC:=⟨103,⟨akG,K18,J,F103 n⟩,cx [acC n] [] n 10 103⟩
def F104:Nat->L Int×L aJ×U->O Y18:=
 λn b=>af (@iter (MK) (L Int×U) (U) (Any) (λc=>ah (D.bM c.2.1 (aj b.2.1)) (aP (az c.2.1 b.2.1) (ah (D.aH (aT b.2.1
 (ai c.2.1) aB).1 5) (aP (az c.2.1 b.2.1) (af (F103 n (c.1,(aT b.2.1 (ai c.2.1) aB).2,())) λd=>Z (LO.next (d.1.1,D.add .i64
 c.2.1 1,())))) (Z (LO.next (c.1,D.add .i64 c.2.1 1,()))))) (Z (LO.out 0 c))) n (b.1,0,())) λc=>LO.el c (λ_ e=>Z ((e.1,()),
 ())) (λ_ _=>Y) λ_ _=>Y
def ahY(n:Nat):OC:=⟨104,⟨akF,K18,J,F104 n⟩,cx [acD n] [(104,0,⟨[(0,.one (.own (.int .i64))),(5,cR)],[],[],0⟩)] n 10 104⟩
def F61:Nat->ak×U->O Y18:=
 λn b=>af (@iter (MK) (L Int×U) (U) (Any) (λc=>ah (D.bM c.2.1 (aj b.1.2)) (aP (az c.2.1 b.1.2) (af (F103 n (c.1,aT
 b.1.2 (ai c.2.1) 0,())) λd=>Z (LO.next (d.1.1,D.add .i64 c.2.1 1,())))) (Z (LO.out 0 c))) n ([],0,())) λc=>LO.el c (λ_ e=>
 af (@iter (MK) (L Int×U) (U) (Any) (λg=>ah (D.bM g.2.1 (aj g.1)) (aP (az g.2.1 g.1) (aP (ef (ai g.2.1) g.1) (aP (az
 (aT g.1 (ai g.2.1) 0) b.1.1) (af (F104 n (g.1,(aT b.1.1 (ai (aT g.1 (ai g.2.1) 0)) aS).3,())) λh=>af (@iter (MK) (L Int×
 U) (U) (Any) (λi=>ah (D.bM i.2.1 (aj (aT b.1.1 (ai (aT g.1 (ai g.2.1) 0)) aS).4)) (aP (az i.2.1 (aT b.1.1 (ai (aT g.1
 (ai g.2.1) 0)) aS).4) (aP (az i.2.1 (aT b.1.1 (ai (aT g.1 (ai g.2.1) 0)) aS).4) (af (F104 n (i.1,(aT (aT b.1.1 (ai (aT
 g.1 (ai g.2.1) 0)) aS).4 (ai i.2.1) aF).2,())) λj=>af (F104 n (j.1.1,(aT (aT b.1.1 (ai (aT g.1 (ai g.2.1) 0))
 aS).4 (ai i.2.1) aF).3,())) λk=>Z (LO.next (k.1.1,D.add .i64 i.2.1 1,()))))) (Z (LO.out 0 i))) n (h.1.1,0,())) λi=>
 LO.el i (λ_ k=>Z (LO.next (k.1,D.add .i64 g.2.1 1,()))) (λ_ k=>Z (LO.ret () k)) λ_ _=>Y)))) (Z (LO.out 0 g))) n (e.1,0,
 ())) λg=>LO.el g (λ_ i=>Z ((i.1,()),())) (λ_ i=>Z (i,())) λ_ _=>Y) (λ_ e=>Z (e,())) λ_ _=>Y
def k61(n:Nat):OC:=⟨61,⟨Un,K63,J,F61 n⟩,cx [acD n,ahY n] [(61,0,⟨[(3,.one (.own (.int .i64))),(4,cR)],[],[],0⟩),(61,2,⟨[(3,.one (.own (.int .i64))),(5,cR)],[],[],0⟩),(61,4,⟨[(3,.one (.own (.int .i64))),(7,cR)],[],[],0⟩)] n 10 61⟩
def F63:Nat->MK->DF:=
 λn b=>af (@iter (Int×U) (Int×U) (U) (Any) (λc=>ah (D.bM c.1 (aj b.1)) (aP (az c.1 b.1) (ah (D.aK (D.aH (aT b.1
 (ai c.1) 0) b.2.1)) (Z (LO.next (D.add .i64 c.1 1,()))) (Z (LO.out 0 c)))) (Z (LO.out 0 c))) n (0,())) λc=>LO.el c (λ_ e=>Z
 (e,())) (λ_ e=>Z (e,())) λ_ _=>Y
def k63(n:Nat):OC:=⟨63,⟨aaW,K2,J,F63 n⟩,cx [] [(63,0,⟨[(5,cR)],[],[],0⟩)] n 10 63⟩
def F62:Nat->L aJ×L Int×U->O Y44:=
 λn b=>af (@iter (KS) (L aJ×U) (U) (Any) (λc=>ah (D.bM c.2.1 (aj b.1)) (aP (az c.2.1 b.1) (af (ah (D.aH (aT b.1
 (ai c.2.1) aB).1 5) (af (F63 n (b.2.1,(aT b.1 (ai c.2.1) aB).2,())) λd=>Z (LO.next (W,((aT b.1 (ai c.2.1)
 aB).1,d.1),()))) (Z (LO.next (J,((aT b.1 (ai c.2.1) aB).1,(aT b.1 (ai c.2.1) aB).2,()),())))) λ(d:LO (Bool×
 (Int×Int×U)×U) (L aJ×U) aeM Any)=>LO.jn d (λe=>aP (dR c.1 [aJ.mk e.2.1.1 e.2.1.2.1]) (Z (LO.next (dj c.1
 [aJ.mk e.2.1.1 e.2.1.2.1],D.add .i64 c.2.1 1,())))) (λ_ _=>Y) (λ_ g=>Z (LO.ret () g)) λ_ _=>Y)) (Z (LO.out 0 c))) n
 ([],0,())) λc=>LO.el c (λ_ e=>Z ((e.1,()),())) (λ_ e=>Z (e,())) λ_ _=>Y
def k62(n:Nat):OC:=⟨62,⟨akE,K35,J,F62 n⟩,cx [k63 n] [(62,0,⟨[(5,.one (.own (.st 4))),(6,cR)],[],[],0⟩),(62,1000007,⟨[(20,cV),(0,.box (.cells [kq,kq]))],[.slot 7],[],0⟩)] n 10 62⟩
def vG(b:ak×U)(c:Y18)(d:Int×zh×U):aZ:=
 aT b.1.1 (ai (aT c.1.1 (ai d.1) 0)) aS
def F30:Nat->ak×U->Y38:=
 λn b=>af (F61 n b) λc=>af (@iter (Int×zh×U) (U) (zh×U) (Any) (λd=>ah (D.bM d.1 (aj c.1.1)) (aP (az d.1 c.1.1)
 (aP (az (aT c.1.1 (ai d.1) 0) b.1.1) (af (F62 n ((vG b c d).3,c.1)) λe=>af (@iter (Int×uN×U) (U) (uN×U) (Any) (λg
 =>ah (D.bM g.1 (aj (vG b c d).4)) (aP (az g.1 (vG b c d).4) (af (F62 n ((aT (vG b c d).4 (ai g.1) aF).2,c.1)) λh=>
 af (F62 n ((aT (vG b c d).4 (ai g.1) aF).3,c.1)) λi=>aP (dR g.2.1.2.2.2.1 [aD.mk (aT (vG b c d).4 (ai g.1)
 aF).1 h.1.1 i.1.1]) (Z (LO.next (D.add .i64 g.1 1,(g.2.1.1,g.2.1.2.1,g.2.1.2.2.1,dj g.2.1.2.2.2.1 [aD.mk (aT (vG b c d).4
 (ai g.1) aF).1 h.1.1 i.1.1],()),()))))) (Z (LO.out 0 g))) n (0,((vG b c d).1,(vG b c d).2,e.1.1,[],()),())) λg=>LO.el g
 (λ_ i=>aP (dR d.2.1.1 [aZ.mk i.2.1.1 i.2.1.2.1 i.2.1.2.2.1 i.2.1.2.2.2.1]) (Z (LO.next (D.add .i64 d.1 1,(dj d.2.1.1 [aZ.mk
 i.2.1.1 i.2.1.2.1 i.2.1.2.2.1 i.2.1.2.2.2.1],d.2.1.2),())))) (λ_ _=>Z (LO.ret d.2 ())) λ_ _=>Y))) (Z (LO.out 0 d))) n (0,([],[],
 b.1.3,b.1.4,b.1.5,()),())) λd=>LO.el d (λ_ g=>af (@iter (Int×zh×U) (U) (zh×U) (Any) (λh=>ah (D.bM h.1 (aj
 b.1.2)) (aP (az h.1 b.1.2) (af (F63 n (c.1.1,aT b.1.2 (ai h.1) 0,())) λi=>aP (dR h.2.1.2.1 [i.1.1]) (Z (LO.next (D.add .i64 h.1 1,
 (h.2.1.1,dj h.2.1.2.1 [i.1.1],h.2.1.2.2),()))))) (Z (LO.out 0 h))) n (0,g.2)) λh=>LO.el h (λ_ j=>Z ((ak.mk j.2.1.1
 j.2.1.2.1 j.2.1.2.2.1 j.2.1.2.2.2.1 j.2.1.2.2.2.2.1,()),())) (λ_ _=>Z ((cm,()),())) λ_ _=>Y) (λ_ _=>Z ((cm,
 ()),())) λ_ _=>Y
def k30(n:Nat):OC:=⟨30,⟨Un,K53,J,F30 n⟩,cx [k61 n,k62 n,k63 n] [(30,0,⟨[(5,cR),(0,b6z)],[.slot 4],[],0⟩),(30,2,⟨[(8,cR),(0,aaz)],[.slot 7],[],0⟩),(30,4,⟨[(10,cR),(0,b6z)],[.slot 4],[],0⟩)] n 10 30⟩
def Ic(n:Nat)(b:Y61):O fm:=
 ah (D.aK (D.aH (aj b.1.3) (aj b.2.1.3))) (Z ((J,()),())) (af (@iter (Int×U) (Bool×U) (U) (Any) (λg=>ah (D.bM g.1
 (aj b.1.3)) (aP (az g.1 b.1.3) (aP (az g.1 b.2.1.3) (ah (D.aK (D.eJ (D.aH (aT b.1.3 (ai g.1) aB).1 (aT b.2.1.3 (ai g.1)
 aB).1) (D.eJ (D.aH (aT b.1.3 (ai g.1) aB).2 (aT b.2.1.3 (ai g.1) aB).2) W))) (Z (LO.ret () (J,()))) (Z
 (LO.next (D.add .i64 g.1 1,())))))) (Z (LO.out 0 g))) n (0,())) λg=>LO.el g (λ_ _=>Z ((W,()),())) (λ_ i=>Z (i,())) λ
 _ _=>Y)
def F134:Nat->Y61->O fm:=
 λn b=>ah (D.aH b.1.1 b.2.1.1) (ah (D.aK (D.aH (aj b.1.2) (aj b.2.1.2))) (Z ((J,()),())) (af (@iter (Int×U) (Bool×U)
 (U) (Any) (λc=>ah (D.bM c.1 (aj b.1.2)) (aP (az c.1 b.1.2) (aP (az c.1 b.2.1.2) (ah (D.aK (D.eJ (D.aH (aT b.1.2 (ai c.1)
 aB).1 (aT b.2.1.2 (ai c.1) aB).1) (D.eJ (D.aH (aT b.1.2 (ai c.1) aB).2 (aT b.2.1.2 (ai c.1) aB).2) W))) (Z
 (LO.ret () (J,()))) (Z (LO.next (D.add .i64 c.1 1,())))))) (Z (LO.out 0 c))) n (0,())) λc=>LO.el c (λ_ _=>Ic n b) (λ_ e
 =>ah e.1 (Ic n b) (Z ((J,()),()))) λ_ _=>Y)) (Z ((J,()),()))
def ahU(n:Nat):OC:=⟨134,⟨akD,K4,J,F134 n⟩,cx [] [(132,0,⟨[(13,cR)],[],[],0⟩)] n 10 134⟩
def KA(n:Nat):O fm:=
 Z ((J,()),())
def OJ(n:Nat)(b:aeJ):O fm:=
 ah (D.aK (D.aH (aj b.1.4) (aj b.2.1.4))) (KA n) (af (@iter (Int×U) (Bool×U) (U) (Any) (λg=>ah (D.bM g.1 (aj b.1.4))
 (aP (az g.1 b.1.4) (aP (az g.1 b.2.1.4) (af (F134 n (aT b.1.4 (ai g.1) aF,aT b.2.1.4 (ai g.1) aF,())) λh=>ah
 (D.aK h.1.1) (Z (LO.ret () (J,()))) (Z (LO.next (D.add .i64 g.1 1,())))))) (Z (LO.out 0 g))) n (0,())) λg=>LO.el g (λ_ _=>
 Z ((W,()),())) (λ_ i=>Z (i,())) λ_ _=>Y)
def F79:aeI:=
 λn b=>ah (D.aH b.1.1 b.2.1.1) (ah (D.aH b.1.2 b.2.1.2) (ah (D.aK (D.aH (aj b.1.3) (aj b.2.1.3))) (KA n) (af (@iter (Int×U)
 (Bool×U) (U) (Any) (λc=>ah (D.bM c.1 (aj b.1.3)) (aP (az c.1 b.1.3) (aP (az c.1 b.2.1.3) (ah (D.aK (D.eJ (D.aH (aT b.1.3
 (ai c.1) aB).1 (aT b.2.1.3 (ai c.1) aB).1) (D.eJ (D.aH (aT b.1.3 (ai c.1) aB).2 (aT b.2.1.3 (ai c.1) aB).2)
 W))) (Z (LO.ret () (J,()))) (Z (LO.next (D.add .i64 c.1 1,())))))) (Z (LO.out 0 c))) n (0,())) λc=>LO.el c (λ_ _=>OJ n
 b) (λ_ e=>ah e.1 (OJ n b) (KA n)) λ_ _=>Y)) (KA n)) (KA n)
def k79(n:Nat):OC:=⟨79,⟨ae9,K4,J,F79 n⟩,cx [ahU n] [(132,0,⟨[(13,cR)],[],[],0⟩),(133,0,⟨[(17,cR)],[],[],0⟩)] n 10 79⟩
def vE(n:Nat):O Y89:=
 Z ((J,0,()),())
def OM(n:Nat)(c:Ya)(d:Ya):O Y89:=
 ah (D.aK (D.aH (aj c.1.1.4) (aj d.1.1.4))) (vE n) (af (@iter (Int×U) (Bool×U) (U) (Any) (λp=>ah (D.bM p.1 (aj
 c.1.1.4)) (aP (az p.1 c.1.1.4) (aP (az p.1 d.1.1.4) (ah (D.aK (D.aH (aT c.1.1.4 (ai p.1) 0) (aT d.1.1.4 (ai p.1) 0))) (Z (LO.ret ()
 (J,()))) (Z (LO.next (D.add .i64 p.1 1,())))))) (Z (LO.out 0 p))) n (0,())) λp=>LO.el p (λ_ _=>Z ((D.aH c.1.1.5 d.1.1.5,0,
 ()),())) (λ_ r=>ah r.1 (Z ((D.aH c.1.1.5 d.1.1.5,0,()),())) (vE n)) λ_ _=>Y)
def OL(n:Nat)(c:Ya)(d:Ya):O Y89:=
 ah (D.aK (D.aH (aj c.1.1.3) (aj d.1.1.3))) (vE n) (af (@iter (Int×U) (Bool×U) (U) (Any) (λl=>ah (D.bM l.1 (aj
 c.1.1.3)) (aP (az l.1 c.1.1.3) (aP (az l.1 d.1.1.3) (ah (D.aK (D.eJ (D.aH (aT c.1.1.3 (ai l.1) eg).1 (aT d.1.1.3 (ai l.1)
 eg).1) (D.eJ (D.aH (aT c.1.1.3 (ai l.1) eg).2 (aT d.1.1.3 (ai l.1) eg).2) W))) (Z (LO.ret () (J,()))) (Z
 (LO.next (D.add .i64 l.1 1,())))))) (Z (LO.out 0 l))) n (0,())) λl=>LO.el l (λ_ _=>OM n c d) (λ_ o=>ah o.1 (OM n c d) (vE
 n)) λ_ _=>Y)
def Ge(n:Nat)(c:Ya)(d:Ya):O Y89:=
 ah (D.aK (D.aH (aj c.1.1.2) (aj d.1.1.2))) (vE n) (af (@iter (Int×U) (Bool×U) (U) (Any) (λi=>ah (D.bM i.1 (aj
 c.1.1.2)) (aP (az i.1 c.1.1.2) (aP (az i.1 d.1.1.2) (ah (D.aK (D.aH (aT c.1.1.2 (ai i.1) 0) (aT d.1.1.2 (ai i.1) 0))) (Z (LO.ret ()
 (J,()))) (Z (LO.next (D.add .i64 i.1 1,())))))) (Z (LO.out 0 i))) n (0,())) λi=>LO.el i (λ_ _=>OL n c d) (λ_ k=>ah k.1
 (OL n c d) (vE n)) λ_ _=>Y)
def F41:Nat->Y90->O Y89:=
 λn b=>af (F28 n (b.1,b.2.1,())) λc=>af (F28 n (b.1,b.2.2)) λd=>ah (D.aK (D.aH c.1.2.1 0)) (Z ((J,2,()),())) (ah
 (D.aK (D.aH d.1.2.1 0)) (Z ((J,2,()),())) (ah (D.aK (D.aH (aj c.1.1.1) (aj d.1.1.1))) (vE n) (af (@iter (Int×U) (Bool×
 U) (U) (Any) (λe=>ah (D.bM e.1 (aj c.1.1.1)) (aP (az e.1 c.1.1.1) (aP (az e.1 d.1.1.1) (af (F79 n (aT c.1.1.1 (ai e.1)
 aS,aT d.1.1.1 (ai e.1) aS,())) λg=>ah (D.aK g.1.1) (Z (LO.ret () (J,()))) (Z (LO.next (D.add .i64 e.1 1,()))))))
 (Z (LO.out 0 e))) n (0,())) λe=>LO.el e (λ_ _=>Ge n c d) (λ_ h=>ah h.1 (Ge n c d) (vE n)) λ_ _=>Y)))
def k41(n:Nat):OC:=⟨41,⟨ae6,K153,J,F41 n⟩,cx [k28 n,k79 n] [(78,0,⟨[(17,cR)],[],[],0⟩),(80,0,⟨[(13,cR)],[],[],0⟩),(81,0,⟨[(13,cR)],[],[],0⟩)] n 10 41⟩
def F42:aeQ:=
 λn b=>af (F30 n (b.1,())) λc=>af (F30 n b.2) λd=>af (F19 n (c.1.1,d.1)) λe=>Z e
def k42(n:Nat):OC:=⟨42,⟨ae8,K4,J,F42 n⟩,cx [k19 n,k30 n] [] n 10 42⟩
end Mn
end
section
namespace TL
open Go
section
def Ev{α:Type}(f:Nat->O α)(r:α):Prop:=∃N,∀n,N<=n->f n=Z r
section
variable {α β γ:Type}
def Ev.pure(r:α):Ev (λ_=>Z r) r:=⟨0,λ_ _=>rfl⟩
def Ev.of_eq{f:Nat->O α}{r:α}(h:∀n,f n=Z r):Ev f r:=⟨0,λn _=>h n⟩
def Ev.congr{f g:Nat->O α}{r:α}(h:∀n,f n=g n)(a:Ev g r):Ev f r:=(funext h:f=g)▸a
def Ev.af{f:Nat->O α}{a:α}{g:Nat->α->O β}{r:β}(h:Ev f a)(b:Ev (λn=>g n a) r):Ev (λn=>af (f n) (g n)) r:=by obtain⟨N,h⟩:=h;obtain⟨M,b⟩:=b;refine⟨max N M,λn c=>?_⟩;show TL.af (f n) (g n)=Z r;rw[h n (eO (Nat.le_max_left ..) c)];exact b n (eO (Nat.le_max_right ..) c)
end
def ON{α β:Type}(f:Nat->Nat->α->O β)(x:α)(r:β):Prop:=∀d,Ev (λn=>f n (n-d) x) r
def ON.step{α β:Type}{f:Nat->Nat->α->O β}{g:Nat->(α->O β)->α->O β}{x:α}{r:β}(h:∀n k,f n (k+1)=g n (f n k))
  (a:∀d,Ev (λn=>g n (f n (n-d)) x) r):ON f x r:=by
 intro d;obtain⟨N,b⟩:=a (d+1);refine⟨max N (d+1),λn c=>?_⟩;have e:n-d=(n-(d+1))+1:=by omega
 show f n (n-d) x=Z r;rw[e,h];exact b n (by omega)
section
variable {X R B P:Type}
inductive gM(F:Nat->X->Option (LO X R B P)):X->LO X R B P->Prop
 |next {x y:X} {o:LO X R B P}:Ev (λn=>F n x) (.next y)->gM F y o->gM F x o
 |out {x y:X} {j:Nat}:Ev (λn=>F n x) (.out j y)->gM F x (.out j y)
 |ret {x:X} {b:B} {r:R}:Ev (λn=>F n x) (.ret b r)->gM F x (.ret b r)
 |dP {x:X} {b:B} {p:P}:Ev (λn=>F n x) (.dP b p)->gM F x (.dP b p)
def gM.last{F:Nat->X->O (LO X R B P)}{x:X}{o:LO X R B P}(h:Ev (λn=>F n x) o)(hn:∀y,o≠.next y):gM F x o:=by cases o with|next y=>exact absurd rfl (hn y)|out j y=>exact .out h|ret b r=>exact .ret h|dP b p=>exact .dP h
def gM.fuel{F:Nat->X->O (LO X R B P)}{x:X}{o:LO X R B P}(h:gM F x o):∃N,∀n k,N<=n->N<=k->iter (F n) k x=Z o:=by
 induction h with
 |next h _ a=>
  obtain⟨N,h⟩:=h;obtain⟨M,a⟩:=a;refine⟨max N M+1,λn k b c=>?_⟩;cases k with|zero=>omega|succ k=>unfold iter;rw[show F n _=_ from h n (by omega)];exact a n k (by omega) (by omega)
 |out h=>
  obtain⟨N,h⟩:=h;refine⟨N+1,λn k b c=>?_⟩;cases k with|zero=>omega|succ k=>unfold iter;rw[show F n _=_ from h n (by omega)]
 |ret h=>
  obtain⟨N,h⟩:=h;refine⟨N+1,λn k b c=>?_⟩;cases k with|zero=>omega|succ k=>unfold iter;rw[show F n _=_ from h n (by omega)]
 |dP h=>
  obtain⟨N,h⟩:=h;refine⟨N+1,λn k b c=>?_⟩;cases k with|zero=>omega|succ k=>unfold iter;rw[show F n _=_ from h n (by omega)]
def Ev.iter{F:Nat->X->O (LO X R B P)}{x:X}{o:LO X R B P}(h:gM F x o):Ev (λn=>TL.iter (F n) n x) o:=by obtain⟨N,h⟩:=h.fuel;exact⟨N,λn a=>h n n a a⟩
def Ev.aM{β:Type}{F:Nat->X->O (LO X R B P)}{x:X}{o:LO X R B P}(h:gM F x o)(g:Nat->LO X R B P->O β)(r:β)(a:Ev (λn=>g n o) r):Ev (λn=>TL.af (TL.iter (F n) n x) (g n)) r:=(Ev.iter h).af a
def gM.many{F:Nat->X->O (LO X R B P)}{o:LO X R B P}:∀(k:Nat)(s:Nat->X),(∀i,i<k->Ev (λn=>F n (s i)) (.next (s (i+1))))->gM F (s k) o->gM F (s 0) o
 |0,_,_,h=>h
 |k+1,s,a,h=>.next (a 0 (by omega)) (gM.many k (λi=>s (i+1)) (λi b=>a (i+1) (by omega)) h)
def lu{F:Nat->X->O (LO X R B P)}(len:Nat)(s:Nat->X)(q:Nat->Bool)(bad:Nat->LO X R B P)(l:Nat)(p:∀i y,bad i≠.next y)
  (h:∀i,i<len->(∀j,j<i->q j=W)->Ev (λn=>F n (s i)) (bif q i then .next (s (i+1))else bad i))
  (r:(∀j,j<len->q j=W)->Ev (λn=>F n (s len)) (.out l (s len))) :
  ((∀i,i<len->q i=W)∧gM F (s 0) (.out l (s len)))∨∃i,i<len∧q i=J∧(∀j,j<i->q j=W)∧gM F (s 0) (bad i):=by
 have key:∀m i,i+m=len->(∀j,j<i->q j=W)->((∀i,i<len->q i=W)∧gM F (s i) (.out l (s len)))∨∃k,k<len∧q k=J∧(∀j,j<k->q j=W)∧gM F (s i) (bad k):=by
  intro m
  induction m with
  |zero=>
   intro i t e;have:i=len:=by omega
   subst this;exact .inl ⟨e,.out (r e)⟩
  |succ m u=>
   intro i t e;have f:=h i (by omega) e;cases g:q i with
   |false=>rw[g]at f;exact .inr ⟨i,by omega,g,e,.last f (p i)⟩
   |true=>
    rw[g]at f;rcases u (i+1) (by omega) (λj v=>by
     by_cases o:j=i
     .rw[o];exact g
     .exact e j (by omega))with⟨a,b⟩|⟨k,a,b,c,d⟩
    .exact .inl ⟨a,.next f b⟩
    .exact .inr ⟨k,a,b,c,.next f d⟩
 exact key len 0 (by omega) (λj v=>by omega)
def e8{F:Nat->X->O (LO X R B P)}(len:Nat)(s:Nat->X)(a:Nat)(h:∀i,i<len->Ev (λn=>F n (s i)) (.next (s (i+1))))(b:Ev (λn=>F n (s len)) (.out a (s len))):gM F (s 0) (.out a (s len)):=
 gM.many len s h (.out b)
end
section
def AP{n:Int}(h1:-9223372036854775808<=n)(h2:n<=9223372036854775807):IntKind.wrap .i64 n=n:=by unfold IntKind.wrap;simp[IntKind.bits,IntKind.signed];omega
def bO{a b:Int}(h1:-9223372036854775808<=a+b)(h2:a+b<=9223372036854775807):D.add .i64 a b=a+b:=AP h1 h2
def ff{a b:Int}(h1:-9223372036854775808<=a-b)(h2:a-b<=9223372036854775807):D.eD .i64 a b=a-b:=AP h1 h2
def N3{α:Type}{n:Int}{l:L α}:az n l=W↔0<=n∧n<l.length:=by simp[az]
def S5{α:Type}{k:Nat}{l:L α}:ef k l=W↔k<l.length:=by simp[ef]
def Ok{lo a len:Int}:iz lo a len=W↔0<=lo∧lo<=a∧a<=len:=by simp[iz]
def CQ{α:Type}{a b:L α}:dR a b=W↔a.length+b.length<=17179869184:=by simp[dR]
def oT{a b:Int}:D.aH a b=W↔a=b:=by simp[D.aH]
def xl{a b:Int}:D.bM a b=W↔a<b:=by simp[D.bM]
end
section
variable {α β:Type}
theorem FR(a:α)(f:α->O β):af (Z a) f=f a:=rfl
theorem ad1{R P:Type}(r:R)(f:R->O α)(g:P->O α):Rx.el (.ok r) f g=f r:=rfl
theorem aaj{R P:Type}(p:P)(f:R->O α)(g:P->O α):Rx.el (.dP p) f g=g p:=rfl
theorem FM(x:O α):aP W x=x:=rfl
theorem Br(x y:O α):ah W x y=x:=rfl
theorem Bs(x y:O α):ah J x y=y:=rfl
def W8{γ:Type}{i:Int}{l:L γ}(h1:0<=i)(h2:i<(l.length:Int))(x:O α):aP (az i l) x=x:=by rw[N3.2 ⟨h1,h2⟩];rfl
def TV{γ:Type}{k:Nat}{l:L γ}(h:k<l.length)(x:O α):aP (ef k l) x=x:=by rw[S5.2 h];rfl
def W9{a b c:Int}(h1:0<=a)(h2:a<=b)(h3:b<=c)(x:O α):aP (iz a b c) x=x:=by rw[Ok.2 ⟨h1,h2,h3⟩];rfl
def HH{γ:Type}{a b:L γ}(h:a.length+b.length<=17179869184)(x:O α):aP (dR a b) x=x:=by rw[CQ.2 h];rfl
def HJ(a b:Bool)(x:O α):aP (AI a b) x=aP a (aP b x):=by cases a<;>rfl
def HI{a b:Int}(h:a=b)(x:O α):aP (kT a b) x=x:=by subst h;simp[kT,aP]
def Vt{a b:Int}(h:a=b)(x y:O α):ah (kT a b) x y=x:=by subst h;simp[kT,ah]
def Ry{a b:Int}(h:a≠b)(x y:O α):ah (kT a b) x y=y:=by simp[kT,ah,h]
def YM{a b:Int}(h:a<b)(x y:O α):ah (D.bM a b) x y=x:=by rw[xl.2 h];rfl
def AS{a b:Int}(h:b<=a)(x y:O α):ah (D.bM a b) x y=y:=by simp[ah,D.bM,Int.not_lt.2 h]
def qM{a b:Int}(h:a<=b)(x y:O α):ah (D.eu a b) x y=x:=by simp[ah,D.eu,h]
def Gx{a b:Int}(h:b<a)(x y:O α):ah (D.eu a b) x y=y:=by simp[ah,D.eu,Int.not_le.2 h]
def nM{a b:Int}(h:a=b)(x y:O α):ah (D.aH a b) x y=x:=by rw[oT.2 h];rfl
def lK{a b:Int}(h:a≠b)(x y:O α):ah (D.aH a b) x y=y:=by rw[show D.aH a b=J by simp[D.aH,h]];rfl
def dz(a:Bool)(x y:O α):ah (D.aK a) x y=ah a y x:=by cases a<;>rfl
def agm{a b:Int}(h:a<b):D.bM a b=W:=xl.2 h
def agn{a b:Int}(h:b<=a):D.bM a b=J:=by simp[D.bM,Int.not_lt.2 h]
def V7{a b:Int}(h:a<=b):D.eu a b=W:=by simp[D.eu,h]
def Zf{a b:Int}(h:b<a):D.eu a b=J:=by simp[D.eu,Int.not_le.2 h]
def gZ{a b:Int}(h:a=b):D.aH a b=W:=oT.2 h
def gR{a b:Int}(h:a≠b):D.aH a b=J:=by simp[D.aH,h]
theorem aar(x y:α):(bif W then x else y)=x:=rfl
theorem aas(x y:α):(bif J then x else y)=y:=rfl
def Rn(l:L α):eZ l 0 (l.length:Int)=l:=by simp[eZ]
def O1(l:L α)(k:Int):eZ l k (l.length:Int)=l.drop k.toNat:=by simp[eZ]
def Gn(l:L α)(k:Int):eZ l 0 k=l.take k.toNat:=by simp[eZ]
theorem AY(l:L α):aj l=(l.length:Int):=rfl
theorem aak(l:L α)(k:Nat)(z:α):aT l k z=l.getD k z:=rfl
theorem VV(n:Int):ai n=n.toNat:=rfl
theorem Ou(a b:L α):dj a b=a++b:=rfl
theorem VI(l:L α)(k:Nat)(x:α):jP l k x=l.set k x:=rfl
def V4(a b:L α):(a++b).length=a.length+b.length:=su
def SO(a:α)(l:L α):(a::l).length=l.length+1:=gi
theorem V3:([]:L α).length=0:=rfl
def SA(k:Nat):Int.toNat (k:Int)=k:=NC k
theorem Sz:Int.toNat 0=0:=rfl
theorem VU:Int.toNat 1=1:=rfl
end
def DU:(∀{α:Type}(a b:L α),(a++b).length=a.length+b.length)∧(∀{α:Type}(a:α)(l:L α),(a::l).length=l.length+1)∧(∀{α:Type},([]:L α).length=0)∧
 (∀{α:Type}(k:Nat)(l:L α),(l.drop k).length=l.length-k)∧(∀{α:Type}(k:Nat)(l:L α),(l.take k).length=min k l.length)∧(∀{α:Type}(k:Nat)(x:α)(l:L α),(l.set k x).length=l.length):=
 ⟨λ_ _=>su,λ_ _=>rfl,rfl,λ_ _=>BP,λ_ _=>qh,λ_ _ _=>BH⟩
def bx:(∀{α:Type}{β:Type}(a:α)(f:α->O β),af (Z a) f=f a)∧
 (∀{α:Type}{R P:Type}(r:R)(f:R->O α)(g:P->O α),Rx.el (.ok r) f g=f r)∧
 (∀{α:Type}{R P:Type}(p:P)(f:R->O α)(g:P->O α),Rx.el (.dP p) f g=g p)∧
 (∀{α:Type}(x:O α),aP W x=x)∧
 (∀{α:Type}(x y:O α),ah W x y=x)∧
 (∀{α:Type}(x y:O α),ah J x y=y)∧
 (∀{α:Type}{γ:Type}{i:Int}{l:L γ}(h1:0<=i)(h2:i<(l.length:Int))(x:O α),aP (az i l) x=x)∧
 (∀{α:Type}{γ:Type}{k:Nat}{l:L γ}(h:k<l.length)(x:O α),aP (ef k l) x=x)∧
 (∀{α:Type}{a b c:Int}(h1:0<=a)(h2:a<=b)(h3:b<=c)(x:O α),aP (iz a b c) x=x)∧
 (∀{α:Type}{γ:Type}{a b:L γ}(h:a.length+b.length<=17179869184)(x:O α),aP (dR a b) x=x)∧
 (∀{α:Type}(a b:Bool)(x:O α),aP (AI a b) x=aP a (aP b x))∧
 (∀{α:Type}{a b:Int}(h:a=b)(x:O α),aP (kT a b) x=x)∧
 (∀{α:Type}{a b:Int}(h:a=b)(x y:O α),ah (kT a b) x y=x)∧
 (∀{α:Type}{a b:Int}(h:a≠b)(x y:O α),ah (kT a b) x y=y)∧
 (∀{α:Type}{a b:Int}(h:a<b)(x y:O α),ah (D.bM a b) x y=x)∧
 (∀{α:Type}{a b:Int}(h:b<=a)(x y:O α),ah (D.bM a b) x y=y)∧
 (∀{α:Type}{a b:Int}(h:a<=b)(x y:O α),ah (D.eu a b) x y=x)∧
 (∀{α:Type}{a b:Int}(h:b<a)(x y:O α),ah (D.eu a b) x y=y)∧
 (∀{α:Type}{a b:Int}(h:a=b)(x y:O α),ah (D.aH a b) x y=x)∧
 (∀{α:Type}{a b:Int}(h:a≠b)(x y:O α),ah (D.aH a b) x y=y)∧
 (∀{α:Type}(a:Bool)(x y:O α),ah (D.aK a) x y=ah a y x)∧
 (∀{a b:Int}(h:a<b),D.bM a b=W)∧
 (∀{a b:Int}(h:b<=a),D.bM a b=J)∧
 (∀{a b:Int}(h:a<=b),D.eu a b=W)∧
 (∀{a b:Int}(h:b<a),D.eu a b=J)∧
 (∀{a b:Int}(h:a=b),D.aH a b=W)∧
 (∀{a b:Int}(h:a≠b),D.aH a b=J)∧
 (∀{α:Type}(x y:α),(bif W then x else y)=x)∧
 (∀{α:Type}(x y:α),(bif J then x else y)=y)∧
 (∀{α:Type}(l:L α),eZ l 0 (l.length:Int)=l)∧
 (∀{α:Type}(l:L α),aj l=(l.length:Int))∧
 (∀{α:Type}(l:L α)(k:Nat)(z:α),aT l k z=l.getD k z)∧
 (∀(n:Int),ai n=n.toNat)∧
 (∀{α:Type}(a b:L α),dj a b=a++b)∧
 (∀{α:Type}(l:L α)(k:Nat)(x:α),jP l k x=l.set k x)∧
 (∀{α:Type}(a b:L α),(a++b).length=a.length+b.length)∧
 (∀{α:Type}(a:α)(l:L α),(a::l).length=l.length+1)∧
 (∀{α:Type},([]:L α).length=0)∧
 (∀(k:Nat),Int.toNat (k:Int)=k)∧
 (Int.toNat 0=0)∧
 (Int.toNat 1=1):=
 ⟨@FR,@ad1,@aaj,@FM,@Br,@Bs,@W8,@TV,@W9,@HH,@HJ,@HI,@Vt,@Ry,@YM,@AS,@qM,@Gx,@nM,@lK,@dz,@agm,@agn,@V7,@Zf,@gZ,@gR,@aar,@aas,@Rn,@AY,@aak,@VV,@Ou,@VI,@V4,@SO,@V3,@SA,@Sz,@VU⟩
end
end TL
end
section
namespace Mn
open Go TL
def T3:L Nat:=[0,0,0,0,0,0,2,1,1,2,2,2,2,2,0,1,1,1,2,1,1,0,2,1,1,0,1,0,0]
def mS(n:bp):Int:=if n.Op=14 then n.Kids.length else(T3.getD n.Op.toNat 0:Nat)
def nodeAt(p:av)(n:Int):bp:=p.aQ.getD n.toNat aN
def eU(w:ak)(n:Int):aZ:=w.bC.getD n.toNat aS
def kS(n:Int):Bool:=decide (-1000000000<=n)&&decide (n<=1000000000)
section
def iN(p:av)(k:Nat)(v:aJ):Prop:=
 (v.Kind=1∧kS v.N=W)∨(v.Kind=2∧(v.N=0∨v.N=1))∨(v.Kind=3∧v.N=0)∨(v.Kind=4∧0<=v.N∧v.N<p.dw.length)∨(v.Kind=5∧0<=v.N∧v.N<k)
structure fe(p:av)(k:Nat)(f:aD):Prop where
 lo:0<=f.Node
 hi:f.Node<p.aQ.length
 el:f.Env.length<=30
 env:∀v∈f.Env,iN p k v
 vl:(f.cw.length:Int)<=mS (nodeAt p f.Node)
 vals:∀v∈f.cw,iN p k v
def Ff(p:av)(f:aD):Prop:=(f.cw.length:Int)<mS (nodeAt p f.Node)
inductive pV(p:av)(k:Nat):aZ->Prop
 |data {n:Int} {vs}:0<=n->n<p.Cons.length->(vs.length:Int)=(p.Cons.getD n.toNat bu).oF->(∀v∈vs,iN p k v)->pV p k ⟨1,n,vs,[]⟩
 |func {n:Int} {vs}:0<=n->n<p.aQ.length->(nodeAt p n).Op=5->vs.length<=30->(∀v∈vs,iN p k v)->pV p k ⟨2,n,vs,[]⟩
 |cell {v}:iN p k v->pV p k ⟨3,0,[v],[]⟩
 |chan {vs}:vs.length<=4->(∀v∈vs,iN p k v)->pV p k ⟨4,0,vs,[]⟩
 |LI {f fs}:fs.length<40->(∀g∈f::fs,fe p k g∧Ff p g)->(nodeAt p f.Node).Op=26->pV p k ⟨5,0,[],f::fs⟩
 |JE {fs f}:fs.length<40->(∀g∈fs,fe p k g∧Ff p g)->fe p k f->pV p k ⟨6,0,[],fs++[f]⟩
 |back {fs v}:fs.length<=40->(∀g∈fs,fe p k g∧Ff p g)->iN p k v->pV p k ⟨6,0,[v],fs⟩
 |done {v}:iN p k v->pV p k ⟨6,1,[v],[]⟩
 |dead {s}:s=2∨s=3∨s=4->pV p k ⟨6,s,[],[]⟩
structure sH(p:av)(w:ak):Prop where
 len:w.bC.length<=120
 obs:∀o∈w.bC,pV p w.bC.length o
 outs:w.fI.length<=100
 out:∀o∈w.fI,0<=o.Port∧o.Port<=3∧kS o.N=W
 ins:w.qG.length<=50
 inn:∀i∈w.qG,kS i=W
 used:0<=w.Used∧w.Used<=1000000000
 Ez:w.bz.Nodup
 tl:w.bz.length<=w.bC.length
 task:∀t∈w.bz,0<=t∧t<w.bC.length∧(eU w t).Form=6
 all:∀i:Nat,i<w.bC.length->(eU w i).Form=6->(i:Int)∈w.bz
mutual
def pw:aG->Nat
 |⟨_,_,_,parts⟩=>1+zG parts
def zG:L aG->Nat
 |[]=>0
 |q::a=>pw q+zG a
end
mutual
def pf:aG->Bool
 |⟨a,_,_,parts⟩=>(decide (1<=a)&&decide (a<=6))&&pfs parts
def pfs:L aG->Bool
 |[]=>W
 |q::a=>pf q&&pfs a
end
def zS:L Nat:=[0,0,0,0,0,1,2,2,3,2,2,2,2,2,0,0,1,1,2,1,1,0,2,1,1,0,1,1,0]
structure Up(p:av)(n:bp):Prop where
 lo:1<=n.Op
 hi:n.Op<=28
 kids:∀k∈n.Kids,0<=k∧k<p.aQ.length
 many:n.Op≠14->n.Op≠15->n.Kids.length=zS.getD n.Op.toNat 0
 con:n.Op=14->0<=n.N∧n.N<p.Cons.length∧(n.Kids.length:Int)=(p.Cons.getD n.N.toNat bu).oF
 mat:n.Op=15->n.Kids.length=1+n.cN.length∧n.cN.length<=5
 int:n.Op=1->kS n.N=W
 bool:n.Op=2->n.N=0∨n.N=1
 name:n.Op=4->-(p.dw.length:Int)<=n.N∧n.N<=29
 port:n.Op=24->0<=n.N∧n.N<=3
 pats:∀q∈n.cN,pw q<=12∧pf q=W
structure DH(p:av):Prop where
 len:p.aQ.length<=300
 U6:∀n∈p.aQ,Up p n
 xu:∀f∈p.dw,0<=f∧f<p.aQ.length
 fl:p.dw.length<=300
 main:0<=p.Main∧p.Main<p.dw.length
 cons:∀c∈p.Cons,0<=c.oF∧c.oF<=3
def cG{α:Type}{l:L α}{i:Nat}(d:α)(h:i<l.length):l.getD i d∈l:=by rw[jO,eS h];exact BI h
variable {p:av}
def DH.nd(h:DH p){n:Int}(h1:0<=n)(h2:n<p.aQ.length):Up p (nodeAt p n):=h.U6 _ (cG _ (by omega))
def pV.vals{k:Nat}{o:aZ}(h:pV p k o):∀v∈o.cw,iN p k v:=by
 have one:∀{u:aJ},iN p k u->∀v∈[u],iN p k v:=λb v a=>by rw[ko.1 a];exact b
 cases h with
 |data _ _ _ h=>exact h
 |func _ _ _ _ h=>exact h
 |cell h=>exact one h
 |chan _ h=>exact h
 |LI=>intro v a;cases a
 |JE=>intro v a;cases a
 |back _ _ h=>exact one h
 |done h=>exact one h
 |dead=>intro v a;cases a
end
section
section
variable {p:av}{w w':ak}{left:List aD}{f:aD}{at_:Int}
def Xf(n:bp):0<=mS n:=by unfold mS;split<;>omega
end
end
section
abbrev RB:=L bp×L Int×Int×L ck×L aZ×L Int×L dW×L Int×Int×U
abbrev rb(p:av)(w:ak):RB:=
 (p.aQ,p.dw,p.Main,p.Cons,w.bC,w.bz,w.fI,w.qG,w.Used,())
section
variable {n:Nat}{place node:Int}{fr l:List aD}{env vals bk:List aJ}{nd:bp}{p:av}{w:ak}{v u:aJ}{form:Int}{o:aZ}
def ajP(l:L aD):F160 n (l,())=Z ((l,()),()):=by rfl
def O2{α:Type}(a:α)(l:L α)(k:Int)(b:k=((l.length+1:Nat):Int)):eZ (a::l) 1 k=l:=by subst b;simp[eZ]
end
end
section
section
variable {p:av}{w:ak}{left:List aD}{f:aD}{at_:Int}
theorem dA{X R B P α:Type}(x:X)(e:X->O α)(f:Nat->X->O α)(g:B->R->O α)(h:B->P->O α):LO.jn (.next x) e f g h=e x:=rfl
def e69{n:Nat}(a:Int):F69 n (a,(-1000000000),1000000000,())=Z ((kS a,()),()):=by unfold F69 kS;by_cases h1:-1000000000<=a<;>by_cases h2:a<=1000000000<;>simp[ah,D.eu,h1,h2]
def aj2(x:Bool):D.eJ x W=x:=by cases x<;>rfl
end
end
section
section
variable {p:av}{w:ak}{left:List aD}{f:aD}{at_:Int}
end
end
section
section
variable {p:av}{w:ak}{left:List aD}{f:aD}{at_:Int}
end
end
section
section
variable {p:av}{w:ak}
def mc{α:Type}(a:L α)(x:α)(b:L α)(d:α):(a++x::b).getD a.length d=x:=by rw[jO,NM (bS _),E1];rfl
def aai(q:aG):aG.mk q.Form q.N q.Text q.Af=q:=by cases q;rfl
variable {left:List aD}{f:aD}{at_:Int}
end
end
section
def aeb{n:Nat}(nd:bp)(h1:1<=nd.Op)(h2:nd.Op<=28):F173 n (nd,())=Z ((mS nd,()),()):=by
 obtain⟨op,m,b,c⟩:=nd;dsimp only at h1 h2;obtain⟨k,rfl⟩:∃k:Nat,op=k:=⟨_,(IG (by omega)).symm⟩;have a:k<=28:=by omega
 match k,a with
 |0,_=>omega
 |1,_|2,_|3,_|4,_|5,_|6,_|7,_|8,_|9,_|10,_|11,_|12,_|13,_|14,_|15,_|16,_|17,_|18,_|19,_|20,_|21,_|22,_|23,_|24,_|25,_|26,_|27,_|28,_=>rfl
 |k+29,h=>omega
section
variable {p:av}{w:ak}{left:List aD}{f:aD}{at_:Int}
variable {nd:bp}
def QH(h:Up p nd):mS nd<=nd.Kids.length:=by
 unfold mS;split
 .exact Int.le_refl _
 .rename_i b;by_cases a:nd.Op=15
  .have:=(h.mat a).1;rw[a,this];simp[T3];omega
  .rw[h.many b a];have h1:=h.lo;have h2:=h.hi;have:∀k,k<29->k≠15->T3.getD k 0<=zS.getD k 0:=by decide
   exact_mod_cast this _ (by omega) (by omega)
def SS(f:DH p)(h:Up p nd):nd.Kids.length<=6:=by
 by_cases c:nd.Op=14
 .obtain ⟨a,b,d⟩:=h.con c;have:=(f.cons _ (cG bu (show nd.N.toNat<p.Cons.length by omega))).2;omega
 .by_cases e:nd.Op=15
  .have:=h.mat e;omega
  .rw[h.many c e];have h1:=h.lo;have h2:=h.hi;have:∀k,k<29->zS.getD k 0<=6:=by decide
   exact this _ (by omega)
end
end
section
section
variable {n:Nat}{p:av}{w:ak}{left:List aD}{f:aD}{at_:Int}{v u:aJ}{form:Int}
def e75(nd:bp)(h1:1<=nd.Op)(h2:nd.Op<=28):F75 n (nd,())=Z ((mS nd,()),()):=by
 obtain⟨op,m,b,c⟩:=nd;dsimp only at h1 h2;obtain⟨k,rfl⟩:∃k:Nat,op=k:=⟨_,(IG (by omega)).symm⟩;have a:k<=28:=by omega
 match k,a with
 |0,_=>omega
 |1,_|2,_|3,_|4,_|5,_|6,_|7,_|8,_|9,_|10,_|11,_|12,_|13,_|14,_|15,_|16,_|17,_|18,_|19,_|20,_|21,_|22,_|23,_|24,_|25,_|26,_|27,_|28,_=>rfl
 |k+29,h=>omega
def e55(a:Int):F55 n (a,(-1000000000),1000000000,())=Z ((kS a,()),()):=by unfold F55 kS;by_cases h1:-1000000000<=a<;>by_cases h2:a<=1000000000<;>simp[ah,D.eu,h1,h2]
end
end
section
section
variable {n:Nat}{p:av}{w:ak}{left:List aD}{f:aD}{at_:Int}{v u:aJ}{form:Int}
end
end
section
section
variable {p:av}{w:ak}{left:List aD}{f:aD}{at_:Int}{v u:aJ}{form:Int}
end
end
section
section
variable {p:av}{w:ak}{left:List aD}{f:aD}{at_:Int}{v u:aJ}{form:Int}
end
end
section
section
variable {p:av}{w:ak}{at_:Int}
theorem cF{X R B P α:Type}(j:Nat)(x:X)(f:Nat->X->O α)(g:B->R->O α)(h:B->P->O α):LO.el (.out j x) f g h=f j x:=rfl
theorem rH{X R B P α:Type}(b:B)(r:R)(f:Nat->X->O α)(g:B->R->O α)(h:B->P->O α):LO.el (.ret b r) f g h=g b r:=rfl
theorem SZ{X R B P α:Type}(b:B)(r:R)(e:X->O α)(f:Nat->X->O α)(g:B->R->O α)(h:B->P->O α):LO.jn (.ret b r) e f g h=g b r:=rfl
end
end
section
section
variable {n:Nat}{p:av}{w:ak}{at_:Int}
theorem e49(l:L Int):F49 n (l,())=Z ((l,()),()):=rfl
theorem e90(l:L dW):F90 n (l,())=Z ((l,()),()):=rfl
variable {i:Nat}
def Rw{α:Type}{l:L α}{d x:α}(h:i<l.length)(a:x=l.getD i d):l.set i x=l:=by subst a;rw[jO,eS h];exact List.set_getElem_self h
def pV.small(l:DH p){k:Nat}{o:aZ}(h:pV p k o):o.cw.length<=1000∧o.Frames.length<=1000∧∀g∈o.Frames,g.Env.length<=1000∧g.cw.length<=1000:=by
 have j:∀{g:aD},fe p k g->g.Env.length<=1000∧g.cw.length<=1000:=by intro g f;have h1:=f.vl;have i:=l.nd f.lo f.hi;have h2:=QH i;have h3:=SS l i;have:=f.el;omega
 cases h with
 | @data n m a b c d=>have:=(l.cons _ (cG bu (show n.toNat<p.Cons.length by omega))).2;exact⟨by simp only;omega,by simp,by simp⟩
 |func a b c d e=>exact⟨by simp only;omega,by simp,by simp⟩
 |cell a=>exact⟨by simp,by simp,by simp⟩
 |chan a b=>exact⟨by simp only;omega,by simp,by simp⟩
 |LI a b c=>exact⟨by simp,by simp only[gi];omega,λg f=>j (b g f).1⟩
 |JE a b c=>
  refine⟨by simp,by simp;omega,λg f=>?_⟩;rcases dy.1 f with f|f
  .exact j (b g f).1
  .rw[ko.1 f];exact j c
 |back a b c=>exact⟨by simp,by simp only;omega,λg f=>j (b g f).1⟩
 |done a=>exact⟨by simp,by simp,by simp⟩
 |dead a=>exact⟨by simp,by simp,by simp⟩
def take_succ{α:Type}{l:L α}(d:α)(h:i<l.length):l.take i++[l.getD i d]=l.take (i+1):=by rw[jO,eS h,Si h];rfl
def ET{R B P:Type}(len:Nat)(hl:len<=1000000){F:Nat->Int×U->O (LO (Int×U) R B P)}(h:∀i,i<len->Ev (λn=>F n ((i:Int),())) (.next (((i+1:Nat):Int),())))(a:∀n,F n ((len:Int),())=Z (.out 0 ((len:Int),()))) :
  gM F (0,()) (.out 0 ((len:Int),())):=e8 (s:=λi=>((i:Int),())) len 0 h (Ev.of_eq a)
def e26{l:L Int}(hl:l.length<=1000):Ev (λn=>F26 n (l,l,())) ((W,()),()):=by
 unfold F26;simp only[bx];refine Ev.aM (F:=λn c=>_) (ET l.length (by omega) (λi a=>Ev.of_eq λn=>?_) λn=>?_) (λn c=>_) _ (Ev.of_eq λn=>rfl)
 .simp (disch:=omega)only[bx,bO,er,ep]<;>rfl
 .simp (disch:=omega)only[bx]<;>rfl
def e27{l:L dW}(hl:l.length<=1000):Ev (λn=>F27 n (l,l,())) ((W,()),()):=by
 unfold F27;simp only[bx];refine Ev.aM (F:=λn c=>_) (ET l.length (by omega) (λi a=>Ev.of_eq λn=>?_) λn=>?_) (λn c=>_) _ (Ev.of_eq λn=>rfl)
 .simp (disch:=omega)only[bx,bO,er,ep]<;>rfl
 .simp (disch:=omega)only[bx]<;>rfl
end
end
section
section
def GO:∀q:aG,1<=pw q
 |⟨_,_,_,_⟩=>by unfold pw;omega
def w4:∀qs:L aG,qs.length<=zG qs
 |[]=>yA _
 |q::qs=>by unfold zG;have:=w4 qs;have:=GO q;simp only[gi];omega
def iI(left:Int)(k:Nat):Int:=if left<0 then -1 else if(k:Int)<=left then left-k else -1
variable {left:Int}{k a:Nat}
def yM(h:left<0):iI left k=-1:=aY h
def l7(h:(k:Int)<=left):iI left k=left-k:=by unfold iI;rw[bK (by omega),aY h]
def l8(h:left<(k:Int)):iI left k=-1:=by
 unfold iI;by_cases a:left<0
 .rw[aY a]
 .rw[bK a,bK (by omega)]
def SP(c:1<=a)(h:0<=left):iI left a<=left-1∧-1<=iI left a:=by
 by_cases b:(a:Int)<=left
 .rw[l7 b];omega
 .rw[l8 (by omega)];omega
def Fq{b:Nat}:iI (iI left a) b=iI left (a+b):=by
 by_cases h:(a:Int)<=left
 .rw[l7 h];by_cases c:(b:Int)<=left-a
  .rw[l7 c,l7 (by omega)];omega
  .rw[l8 (by omega),l8 (by omega)]
 .rw[l8 (left:=left) (k:=a) (by omega),yM (by omega),l8 (by omega)]
def LG(h:-1<=left):iI left 0=left:=by
 by_cases a:left<0
 .rw[yM a];omega
 .rw[l7 (by omega)];omega
theorem Uk(n k:Nat):R83 n (k+1)=B83 n (R83 n k):=rfl
def MN(q:aG):Prop:=∀left:Int,-1<=left->left<=1000->ON R83 (q,left,()) ((iI left (pw q),()),())
def Be{P:Type}(d:Nat):∀(qs pre:L aG)(left:Int),-1<=left->(pre.length:Int)+left<=1000->(∀q∈qs,MN q)->
  ∀F:Nat->Int×Int×U->O (LO (Int×Int×U) (Int×U) U P),
  (∀n a,F n a=ah (D.bM a.2.1 (aj (pre++qs))) (ah (D.eu 0 a.1) (aP (az a.2.1 (pre++qs)) (af (R83 n (n-d) (@aT aG (pre++qs) (ai a.2.1) aR,a.1,())) λe=>Z (LO.next (e.1.1,D.add .i64 a.2.1 1,())))) (Z (LO.out 0 a))) (Z (LO.out 0 a)))->
  ∃j,gM F (left,(pre.length:Int),()) (.out 0 (iI left (zG qs),j,()))
 |[],pre,left,h1,h2,c,F,b=>by refine⟨(pre.length:Int),.out (Ev.of_eq λn=>?_)⟩;rw[b];have e:iI left (zG [])=left:=LG h1;rw[e];simp(disch:=omega)only[bx,mD]<;>rfl
 |q::qs,pre,left,h1,h2,c,F,b=>by
  by_cases k:left<0
  .refine ⟨(pre.length:Int),.out (Ev.of_eq λn=>?_)⟩;rw[b];have e:iI left (zG (q::qs))=left:=by rw[yM k];omega
   rw[e];simp(disch:=omega)only[bx]<;>rfl
  .have l:(pre++q::qs).getD pre.length aR=q:=mc ..;have m:=GO q;have o:=c q dX left h1 (by omega);have f:=SP (left:=left) m (by omega);obtain⟨j,i⟩:=Be d qs (pre++[q]) (iI left (pw q)) f.2 (by simp;omega) (λp h=>c p (gl _ h)) F (λn e=>by rw[b];simp only[nS,Ek]<;>rfl);have e:iI (iI left (pw q)) (zG qs)=iI left (zG (q::qs)):=Fq;rw[e]at i;refine⟨j,.next (y:=((iI left (pw q)),((pre++[q]).length:Int),())) ?_ i⟩;obtain⟨N,r⟩:=o d;refine⟨N,λn g=>?_⟩;show F n _=_;rw[b];simp(disch:=first|omega|simp only[DU];omega)only[bx,l,bO,er,ep,lY];exact(oI (λx=>af x _) (r n g)).trans rfl
def Rf:∀q:aG,MN q
 |⟨a,n0,text,parts⟩=>by
  intro left h1 h2;refine ON.step Uk λd=>?_;by_cases h3:left<1
  .rw[l8 (by have:=GO ⟨a,n0,text,parts⟩;omega)];refine Ev.of_eq λn=>?_;unfold B83;simp(disch:=omega)only[bx]<;>rfl
  .obtain ⟨j,f⟩:=Be (P:=Any) d parts [] (left-1) (by omega) (by simp;omega) (Ni parts) _ (λn e=>rfl);have e:iI (left-1) (zG parts)=iI left (pw ⟨a,n0,text,parts⟩):=by rw[show left-1=iI left 1 from(l7 (k:=1) (Int.not_lt.1 h3)).symm,Fq];rfl
   rw[<-e];have i:∀n,B83 n (R83 n (n-d)) (⟨a,n0,text,parts⟩,left,())=af (iter (λb=>ah (D.bM b.2.1 (aj parts)) (ah (D.eu 0 b.1) (aP (az b.2.1 parts) (af (R83 n (n-d) (@aT aG parts (ai b.2.1) aR,b.1,())) λe=>Z (LO.next (e.1.1,D.add .i64 b.2.1 1,())))) (Z (LO.out 0 b))) (Z (LO.out 0 b))) n (left-1,0,())) λe=>LO.el (B:=U) (P:=Any) e (λ_ g=>Z ((g.1,()),())) (λ_ g=>Z (g,())) λ_ _=>Y:=by intro n;unfold B83;simp(disch:=omega)only[bx,ff]<;>rfl
   exact Ev.congr i (Ev.aM f (λn e=>_) _ (Ev.of_eq λn=>rfl))
where
 Ni:∀c:L aG,∀q∈c,MN q
 |[],_,h=>by cases h
 |q::c,l,h=>by
  rcases ej.1 h with h|h
  .rw[h];exact Rf q
  .exact Ni c l h
def e83(q:aG)(h1:1<=left)(h2:left<=1000):Ev (λn=>F83 n (q,left,())) ((iI left (pw q),()),()):=by exact Rf q left (by omega) h2 0
mutual
def sp:aG->Bool
 |⟨_,_,text,parts⟩=>sps parts&&decide (text.length<=30)
def sps:L aG->Bool
 |[]=>W
 |q::a=>sp q&&sps a
end
def Gq:∀{qs:L aG},sps qs=W↔∀q∈qs,sp q=W
 |[]=>by simp[sps]
 |q::qs=>by simp[sps,Gq (qs:=qs)]
theorem Uj(n k:Nat):R84 n (k+1)=B84 n (R84 n k):=rfl
def short:∀q:aG,pw q<=1000->ON R84 (q,()) ((sp q,()),())
 |⟨b,n0,text,parts⟩,j=>by
  unfold pw at j;have u:=w4 parts;have l:=Rt parts (by omega);refine ON.step Uj λd=>?_;unfold B84;have m:∀(i:Nat)(y:Int×U),(LO.ret () (J,()):LO (Int×U) (Bool×U) U Any)≠.next y:=λ_ _ h=>by cases h
  have step:∀i,i<parts.length->Ev (λn=>ah (D.bM (i:Int) (aj parts)) (aP (az (i:Int) parts) (af (R84 n (n-d) (@aT aG parts (ai (i:Int)) aR,())) λe=>ah (D.aK e.1.1) (Z (LO.ret () (J,()))) (Z (LO.next (D.add .i64 (i:Int) 1,()))))) (Z (LO.out 0 ((i:Int),())))) (bif sp (parts.getD i aR)then .next (((i+1:Nat):Int),())else(LO.ret () (J,()):LO (Int×U) (Bool×U) U Any)):=by intro i c;obtain⟨N,o⟩:=l _ (cG aR c) d;refine⟨N,λn p=>?_⟩;show TL.ah _ _ _=_;simp(disch:=omega)only[bx,bO,er,ep,lY];refine(oI (λx=>af x _) (o n p)).trans ?_;cases k:sp (parts.getD i aR)<;>rfl
  rcases lu (F:=λn f=>ah (D.bM f.1 (aj parts)) (aP (az f.1 parts) (af (R84 n (n-d) (@aT aG parts (ai f.1) aR,())) λe=>ah (D.aK e.1.1) (Z (LO.ret () (J,()))) (Z (LO.next (D.add .i64 f.1 1,()))))) (Z (LO.out 0 f)))
   parts.length (λi=>((i:Int),())) (λi=>sp (parts.getD i aR)) (λ_=>(LO.ret () (J,()):LO (Int×U) (Bool×U) U Any)) 0 m (λi c _=>step i c) (λ_=>Ev.of_eq λn=>by simp(disch:=omega)only[bx]<;>rfl)with⟨a,r⟩|⟨i,c,a,_,r⟩
  .have e:sp ⟨b,n0,text,parts⟩=decide (text.length<=30):=by unfold sp;rw[Gq.2 λq j=>?_,dF];obtain⟨i,c,rfl⟩:=oJ j;have:=a i c;rwa [jO,eS c]at this
   rw[e];refine Ev.aM r (λn e=>_) _ (Ev.of_eq λn=>?_);show Z ((D.eu (aj text) 30,()),())=_;simp only[D.eu,aj]
   congr 3
   exact decide_eq_decide.2 (by omega)
  .have e:sp ⟨b,n0,text,parts⟩=J:=by unfold sp;cases k:sps parts with|false=>rfl|true=>rw[Gq.1 k _ (cG aR c)]at a;cases a
   rw[e];exact Ev.aM r (λn e=>_) _ (Ev.of_eq λn=>rfl)
where
 Rt:∀g:L aG,zG g<=1000->∀q∈g,ON R84 (q,()) ((sp q,()),())
 |[],_,_,h=>by cases h
 |q::g,s,t,h=>by
  unfold zG at s;rcases ej.1 h with h|h
  .rw[h];exact short q (by omega)
  .exact Rt g (by omega) t h
def yq(q:aG):Bool:=decide (pw q<=16)&&sp q
def ad0(q:aG):aG.mk q.1 q.2 q.3 q.4=q:=by cases q;rfl
def e44(q:aG):Ev (λn=>F44 n (q,())) ((yq q,()),()):=by
 unfold F44;simp only[ad0];refine Ev.af (e83 q (by omega) (by omega)) ?_;unfold yq;by_cases h:pw q<=16
 .have a:((pw q:Nat):Int)<=16:=by omega
  rw[l7 a,ez h,dF];simp(disch:=omega)only[bx];exact Ev.af (short q (by omega) 0) (Ev.pure _)
 .have a:¬((pw q:Nat):Int)<=16:=by omega
  rw[l8 (by omega),eP h,fu];exact Ev.of_eq λn=>by simp(disch:=omega)only[bx]<;>rfl
end
end
section
def dZ{R B P:Type}(len:Nat)(q:Nat->Bool)(bad:Nat->LO (Int×U) R B P){F:Nat->Int×U->O (LO (Int×U) R B P)}(c:∀i y,bad i≠.next y)
  (h:∀i,i<len->Ev (λn=>F n ((i:Int),())) (bif q i then .next (((i+1:Nat):Int),())else bad i)) (d:∀n,F n ((len:Int),())=Z (.out 0 ((len:Int),()))) :
  ((∀i,i<len->q i=W)∧gM F (0,()) (.out 0 ((len:Int),())))∨∃i,i<len∧q i=J∧gM F (0,()) (bad i):=by
 rcases lu len (λi=>((i:Int),())) q bad 0 c (λi b _=>h i b) (λ_=>Ev.of_eq d)with⟨a,r⟩|⟨i,b,a,_,r⟩
 .exact .inl ⟨a,r⟩
 .exact .inr ⟨i,b,a,r⟩
structure Small(p:av):Prop where
 nodes:p.aQ.length<=320
 xu:p.dw.length<=320
 cons:p.Cons.length<=25
 names:∀c∈p.Cons,c.Name.length<=40
 U6:∀nd∈p.aQ,nd.Kids.length<=10∧nd.cN.length<=10∧∀q∈nd.cN,pw q<=16
def gz{α:Type}{l:L α}{d:α}{Q:α->Prop}(h:∀i,i<l.length->Q (l.getD i d)):∀a∈l,Q a:=by intro a c;obtain⟨i,b,rfl⟩:=oJ c;have:=h i b;rwa [jO,eS b]at this
def kF(nd:bp):Bool:=(decide (nd.Kids.length<=10)&&decide (nd.cN.length<=10))&&nd.cN.all yq
def qD{α:Type}{l:L α}{d:α}{q:α->Bool}(h:∀i,i<l.length->q (l.getD i d)=W):l.all q=W:=dU.2 (gz (d:=d) h)
def jo{α:Type}{l:L α}{d:α}{q:α->Bool}{i:Nat}(a:i<l.length)(h:q (l.getD i d)=J):l.all q=J:=by cases b:l.all q with|false=>rfl|true=>rw[dU.1 b _ (cG d a)]at h;cases h
abbrev G12(p:av)(n:Nat)(g:Int×U):O (LO (Int×U) (Bool×U) U Any):=
 ah (D.bM g.1 (p.aQ.length:Int)) (aP (az g.1 p.aQ) (ah (D.bM 10 ((p.aQ.getD g.1.toNat aN).Kids.length:Int)) (Z (LO.ret () (J,()))) (ah (D.bM 10 ((p.aQ.getD g.1.toNat aN).cN.length:Int)) (Z (LO.ret () (J,()))) (af (iter (λh:Int×U=>ah (D.bM h.1 ((p.aQ.getD g.1.toNat aN).cN.length:Int)) (aP (az h.1 (p.aQ.getD g.1.toNat aN).cN) (af (F44 n ((p.aQ.getD g.1.toNat aN).cN.getD h.1.toNat aR,())) λi=>ah i.1.1 (Z (LO.next (D.add .i64 h.1 1,()))) (Z (LO.ret (B:=U) (P:=Any) () (J,()))))) (Z (LO.out 0 h))) n (0,())) λh=>LO.el h (λ_ _=>Z (LO.next (D.add .i64 g.1 1,()))) (λ_ j=>Z (LO.ret () j)) λ_ _=>Y)))) (Z (LO.out 0 g))
def e12(p:av):∃b,Ev (λn=>F12 n (p,())) ((b,()),())∧(b=W->Small p):=by
 unfold F12;by_cases h1:320<p.aQ.length
 .exact ⟨J,Ev.of_eq λn=>by simp(disch:=omega)only[bx]<;>rfl,λh=>by cases h⟩
 by_cases h2:320<p.dw.length
 .exact ⟨J,Ev.of_eq λn=>by simp(disch:=omega)only[bx]<;>rfl,λh=>by cases h⟩
 by_cases h3:25<p.Cons.length
 .exact ⟨J,Ev.of_eq λn=>by simp(disch:=omega)only[bx]<;>rfl,λh=>by cases h⟩
 simp(disch:=omega)only[bx];have k:∀{P:Type}(i:Nat)(y:Int×U),(LO.ret () (J,()):LO (Int×U) (Bool×U) U P)≠.next y:=λ_ _ h=>by cases h
 rcases dZ p.Cons.length (λi=>decide ((p.Cons.getD i bu).Name.length<=40)) (λ_=>(LO.ret () (J,()):LO (Int×U) (Bool×U) U Any)) (F:=λn c=>ah (D.bM c.1 (p.Cons.length:Int)) (aP (az c.1 p.Cons) (ah (D.bM 40 ((p.Cons.getD c.1.toNat bu).Name.length:Int)) (Z (LO.ret () (J,()))) (Z (LO.next (D.add .i64 c.1 1,()))))) (Z (LO.out 0 c))) k
  (λi e=>Ev.of_eq λn=>by
   by_cases l:(p.Cons.getD i bu).Name.length<=40
   .simp (disch:=omega)only[bx,ez l,bO,er,ep]
   .simp (disch:=omega)only[bx,eP l]) (λn=>by simp(disch:=omega)only[bx])with⟨a,r⟩|⟨i,e,a,r⟩
 .have step:∀g:Nat,g<p.aQ.length->Ev (λn=>G12 p n ((g:Int),())) (bif kF (p.aQ.getD g aN)then .next (((g+1:Nat):Int),())else(LO.ret () (J,()):LO (Int×U) (Bool×U) U Any)):=by
   intro g t;by_cases m:10<(p.aQ.getD g aN).Kids.length
   .rw[show kF (p.aQ.getD g aN)=J by simp only[kF,eP (Nat.not_le.2 m),fu]];exact Ev.of_eq λn=>by simp(disch:=omega)only[bx]
   by_cases o:10<(p.aQ.getD g aN).cN.length
   .rw[show kF (p.aQ.getD g aN)=J by simp only[kF,eP (Nat.not_le.2 o),Ap,fu]];exact Ev.of_eq λn=>by simp(disch:=omega)only[bx]
   rcases dZ (p.aQ.getD g aN).cN.length (λi=>yq ((p.aQ.getD g aN).cN.getD i aR)) (λ_=>(LO.ret () (J,()):LO (Int×U) (Bool×U) U Any)) (F:=λn h=>ah (D.bM h.1 ((p.aQ.getD g aN).cN.length:Int)) (aP (az h.1 (p.aQ.getD g aN).cN) (af (F44 n ((p.aQ.getD g aN).cN.getD h.1.toNat aR,())) λi=>ah i.1.1 (Z (LO.next (D.add .i64 h.1 1,()))) (Z (LO.ret () (J,()))))) (Z (LO.out 0 h))) k
    (λi e=>by
     simp(disch:=omega)only[bx];refine Ev.af (e44 _) (Ev.of_eq λn=>?_);cases yq ((p.aQ.getD g aN).cN.getD i aR)<;>simp(disch:=omega)only[bx,bO,er,ep]) (λn=>by simp(disch:=omega)only[bx])with⟨j,f⟩|⟨i,e,j,f⟩
   .rw[show kF (p.aQ.getD g aN)=W by simp only[kF,ez (Nat.not_lt.1 m),ez (Nat.not_lt.1 o),qD j,vR]];simp(disch:=omega)only[bx];refine Ev.aM f (λn c=>_) _ (Ev.of_eq λn=>?_);rw[cF];simp(disch:=omega)only[bx,bO,er,ep]
   .rw[show kF (p.aQ.getD g aN)=J by simp only[kF,jo e j,Ap]];simp(disch:=omega)only[bx];exact Ev.aM f (λn c=>_) _ (Ev.of_eq λn=>rfl)
  rcases dZ p.aQ.length (λg=>kF (p.aQ.getD g aN)) (λ_=>(LO.ret () (J,()):LO (Int×U) (Bool×U) U Any)) (F:=λn g=>G12 p n g) k step (λn=>by simp(disch:=omega)only[bx])with⟨j,f⟩|⟨i,e,j,f⟩
  .refine ⟨W,Ev.aM r (λn c=>_) _ ?_,λ_=>⟨by omega,by omega,by omega,gz (d:=bu) λi e=>Ar (a i e),gz (d:=aN) λi e=>?_⟩⟩
   .refine Ev.congr (λn=>cF ..) ?_;exact Ev.aM f (λn c=>_) _ (Ev.of_eq λn=>rfl)
   .have:=j i e;simp only[kF,dI,kj,dU,yq]at this;exact⟨this.1.1,this.1.2,λq s=>(this.2 q s).1⟩
  .refine ⟨J,Ev.aM r (λn c=>_) _ ?_,λh=>by cases h⟩;refine Ev.congr (λn=>cF ..) ?_;exact Ev.aM f (λn c=>_) _ (Ev.of_eq λn=>rfl)
 .exact ⟨J,Ev.aM r (λn c=>_) _ (Ev.of_eq λn=>rfl),λh=>by cases h⟩
end
section
section
theorem QU(n k:Nat):R202 n (k+1)=B202 n (R202 n k):=rfl
def aaV(k:Nat)(a r:Int):Prop:=((k:Int)<=a->r=k)∧(a<k->a<r)∧1<=r∧r<=k
def Uh(q:aG):Prop:=∀a:Int,0<=a->a<=1000->∃r,ON R202 (q,a,()) ((r,()),())∧aaV (pw q) a r
def ER{R B P:Type}{a:Int}(m:0<=a)(f:a<=1000):∀(qs pre:L aG)(s:Int),1<=s->s+zG qs<=1000->pre.length+qs.length<=1000->(∀q∈qs,Uh q)->
  ∃r j,((s+zG qs<=a->r=s+zG qs)∧(a<s+zG qs->a<r)∧s<=r∧r<=s+zG qs)∧∀(d:Nat)(F:Nat->Int×Int×U->O (LO (Int×Int×U) R B P)),
  (∀n b,F n b=ah (D.bM b.2.1 (aj (pre++qs))) (aP (az b.2.1 (pre++qs)) (ah (D.bM a b.1) (Z (LO.out 0 b)) (af (R202 n (n-d) (aG.mk (@aT aG (pre++qs) (ai b.2.1) aR).1 (@aT aG (pre++qs) (ai b.2.1) aR).2 (@aT aG (pre++qs) (ai b.2.1) aR).3 (@aT aG (pre++qs) (ai b.2.1) aR).4,D.eD .i64 a b.1,())) λe=>Z (LO.next (D.add .i64 b.1 e.1.1,D.add .i64 b.2.1 1,()))))) (Z (LO.out 0 b)))->
  gM F (s,(pre.length:Int),()) (.out 0 (r,j,()))
 |[],pre,s,h1,h2,h3,g=>by refine⟨s,(pre.length:Int),by simp[zG],λd F c=>.out (Ev.of_eq λn=>?_)⟩;rw[c];simp(disch:=omega)only[bx,mD]<;>rfl
 |q::qs,pre,s,h1,h2,h3,g=>by
  have w:=GO q;have o:zG (q::qs)=pw q+zG qs:=rfl;rw[o]at h2 ⊢;simp only[gi]at h3;by_cases z:a<s
  .refine ⟨s,(pre.length:Int),⟨by omega,by omega,by omega,by omega⟩,λd F c=>.out (Ev.of_eq λn=>?_)⟩;rw[c];simp(disch:=first|omega|simp only[DU];omega)only[bx]<;>rfl
  .have p:(pre++q::qs).getD pre.length aR=q:=mc ..;obtain⟨i,k,A,C,E,G⟩:=g q dX (a-s) (by omega) (by omega);obtain⟨r,j,⟨a1,a2,a3,H⟩,t⟩:=ER (R:=R) (B:=B) (P:=P) m f qs (pre++[q]) (s+i) (by omega) (by omega) (by simp;omega) (λu h=>g u (gl _ h));refine⟨r,j,⟨by omega,by omega,by omega,by omega⟩,λd F c=>?_⟩;refine .next (y:=(s+i,((pre++[q]).length:Int),())) ?_ (t d F λn e=>by rw[c];simp only[nS,Ek]<;>rfl)
   obtain⟨N,v⟩:=k d;refine⟨N,λn l=>?_⟩;show F n _=_;rw[c];simp(disch:=first|omega|simp only[DU];omega)only[bx,p,aai,ff,bO,er,ep,lY];refine(oI (λx=>af x _) (v n l)).trans ?_;show Z (LO.next (D.add .i64 s i,_,()))=_;rw[bO (by omega) (by omega)]
def sizes:∀q:aG,pw q<=1000->Uh q
 |⟨c,n0,text,parts⟩,g=>by intro f i b;unfold pw at g ⊢;have o:=w4 parts;obtain⟨r,j,⟨a1,a2,a3,p⟩,k⟩:=ER (R:=Int×U) (B:=U) (P:=Any) i b parts [] 1 (by omega) (by omega) (by simp;omega) (Rs parts (by omega));refine⟨r,ON.step QU λd=>?_,by omega,by omega,by omega,by omega⟩;unfold B202;exact Ev.aM (F:=λn e=>_) (k d _ λn e=>rfl) (λn e=>_) _ (Ev.of_eq λn=>rfl)
where
 Rs:∀a:L aG,zG a<=1000->∀q∈a,Uh q
 |[],_,_,h=>by cases h
 |q::a,l,m,h=>by
  unfold zG at l;rcases ej.1 h with h|h
  .rw[h];exact sizes q (by omega)
  .exact Rs a (by omega) m h
def Pu(cons:L ck)(a n:Int)(k:Nat):Bool:=
 if a=1∨a=2∨a=5 then decide (n=0)&&decide (k=0)
 else if a=3 then kS n&&decide (k=0)
 else if a=4 then decide (0<=n∧n<=1)&&decide (k=0)
 else if a=6 then decide (0<=n∧n<cons.length)&&decide ((k:Int)=(cons.getD n.toNat bu).oF)
 else J
mutual
def mX(cons:L ck):aG->Bool
 |⟨a,n,text,parts⟩=>(decide (text=[])&&ql cons parts)&&Pu cons a n parts.length
def ql(cons:L ck):L aG->Bool
 |[]=>W
 |q::a=>mX cons q&&ql cons a
end
def yE{cons:L ck}:∀{qs:L aG},ql cons qs=W↔∀q∈qs,mX cons q=W
 |[]=>by simp[ql]
 |q::qs=>by simp[ql,yE (qs:=qs)]
variable {cons:List ck}{n:Nat}
def BY:∀q:aG,mX cons q=W->pf q=W
 |⟨a,n,text,parts⟩,h=>by
  unfold mX at h;simp only[dI]at h;unfold pf;have c:=go parts h.1.2;have:1<=a∧a<=6:=by
   have h2:=h.2;unfold Pu at h2;by_cases d:a=1∨a=2∨a=5
   .omega
   .rw[bK d]at h2;by_cases e:a=3
    .omega
    .rw[bK e]at h2;by_cases f:a=4
     .omega
     .rw[bK f]at h2;by_cases g:a=6
      .omega
      .rw[bK g]at h2;cases h2
  simp only[c,ez this.1,ez this.2,vR]
where
 go:∀b:L aG,ql cons b=W->pfs b=W
 |[],_=>rfl
 |q::b,h=>by unfold ql at h;simp only[dI]at h;unfold pfs;rw[BY q h.1,go b h.2];rfl
def uJ(a lo b:Int):F146 n (a,lo,b,())=Z ((decide (lo<=a∧a<=b),()),()):=by
 unfold F146;by_cases h1:lo<=a
 .simp (disch:=omega)only[bx];simp[D.eu,h1]
 .simp (disch:=omega)only[bx];simp[h1]
def Ex(a lo b:Int):F52 n (a,lo,b,())=Z ((decide (lo<=a∧a<=b),()),()):=uJ (n:=n) a lo b
def ad8(a:Int):F259 n (a,())=Z ((kS a,()),()):=by unfold F259;rw[uJ];simp only[bx,kS,Bool.decide_and]
theorem QT(n k:Nat):R203 n (k+1)=B203 n (R203 n k):=rfl
def jG(l:L UInt8):fO l []=decide (l=[]):=by cases l<;>rfl
def aax{f:_}{p:av}(o:p.Cons.length<=1000){a n0:Int}{text:L UInt8}{parts:L aG}(hl:parts.length<=1000) :
  zp n f (⟨p⟩,⟨a,n0,text,parts⟩,())=Z ((Pu p.Cons a n0 parts.length,()),()):=by
 unfold zp Nc oE Pu;have e:(D.aH (parts.length:Int) 0)=decide (parts.length=0):=by by_cases h:parts.length=0<;>simp[D.aH,h]
 have g:(D.aH n0 0)=decide (n0=0):=by by_cases h:n0=0<;>simp[D.aH,h]
 have d:∀b:Bool,ah b (Z ((decide (parts.length=0),()),())) (Z ((J,()),()))=(Z ((b&&decide (parts.length=0),()),()):O ((Bool×U)×U)):=λb=>by cases b<;>rfl
 by_cases i:a=1∨a=2∨a=5
 .rw[aY i];rcases i with c|c|c<;>subst c<;>simp(disch:=omega)only[bx,dA,e,g,d]
 .rw[bK i];by_cases j:a=3
  .rw[aY j];subst j;simp(disch:=omega)only[bx,dA,ad8,e,d]
  .rw[bK j];by_cases k:a=4
   .rw[aY k];subst k;simp(disch:=omega)only[bx,dA,uJ,e,d]
   .rw[bK k];by_cases l:a=6
    .rw[aY l];subst l;by_cases m:0<=n0∧n0<p.Cons.length
     .rw[ez m,dF];simp(disch:=omega)only[bx,dA,uJ,ff,ez (show 0<=n0∧n0<=(p.Cons.length:Int)-1 by omega)];rw[show D.aH (parts.length:Int) (p.Cons.getD n0.toNat bu).oF=decide ((parts.length:Int)=(p.Cons.getD n0.toNat bu).oF)by simp only[D.aH];exact(Bool.beq_eq_decide_eq ..)]
     .rw[eP m,fu];simp(disch:=omega)only[bx,dA,uJ,ff,eP (show ¬(0<=n0∧n0<=(p.Cons.length:Int)-1)by omega)]
    .rw[bK l];simp(disch:=omega)only[bx,dA]
end
end
section
section
variable {p:av}
def Sp(j:p.Cons.length<=1000):∀q:aG,pw q<=1000->ON R203 (⟨p⟩,q,()) ((mX p.Cons q,()),())
 |⟨b,n0,text,parts⟩,s=>by
  unfold pw at s;have A:=w4 parts;have t:=So parts (by omega);refine ON.step QT λd=>?_;by_cases k:text=[]
  .subst k;have u:∀(i:Nat)(y:Int×U),(LO.ret () ((i:Int),()):LO (Int×U) (Int×U) U Any)≠.next y:=λ_ _ h=>by cases h
   have step:∀i,i<parts.length->Ev (λn=>ah (D.bM (i:Int) (aj parts)) (aP (az (i:Int) parts) (af (R203 n (n-d) (⟨p⟩,aG.mk (@aT aG parts (ai (i:Int)) aR).1 (@aT aG parts (ai (i:Int)) aR).2 (@aT aG parts (ai (i:Int)) aR).3 (@aT aG parts (ai (i:Int)) aR).4,())) λe=>ah (D.aK e.1.1) (Z (LO.ret () ((i:Int),()))) (Z (LO.next (D.add .i64 (i:Int) 1,()))))) (Z (LO.out 0 ((i:Int),())))) (bif mX p.Cons (parts.getD i aR)then .next (((i+1:Nat):Int),())else(LO.ret () ((i:Int),()):LO (Int×U) (Int×U) U Any)):=by intro i l;obtain⟨N,v⟩:=t _ (cG aR l) d;refine⟨N,λn w=>?_⟩;show TL.ah _ _ _=_;simp(disch:=omega)only[bx,aai,bO,er,ep,lY];refine(oI (λx=>af x _) (v n w)).trans ?_;cases j:mX p.Cons (parts.getD i aR)<;>rfl
   have o:∀n,B203 n (R203 n (n-d)) (⟨p⟩,⟨b,n0,[],parts⟩,())=af (iter (λc=>ah (D.bM c.1 (aj parts)) (aP (az c.1 parts) (af (R203 n (n-d) (⟨p⟩,aG.mk (@aT aG parts (ai c.1) aR).1 (@aT aG parts (ai c.1) aR).2 (@aT aG parts (ai c.1) aR).3 (@aT aG parts (ai c.1) aR).4,())) λe=>ah (D.aK e.1.1) (Z (LO.ret () c)) (Z (LO.next (D.add .i64 c.1 1,()))))) (Z (LO.out 0 c))) n (0,())) λc=>LO.el (X:=Int×U) (R:=Int×U) (B:=U) (P:=Any) c (λ_ _=>ah (D.aK (D.aK J)) (oE n (R203 n (n-d))) (zp n (R203 n (n-d)) (⟨p⟩,⟨b,n0,[],parts⟩,()))) (λ_ g=>ah (D.aK (D.aK (D.eu 0 g.1))) (oE n (R203 n (n-d))) (zp n (R203 n (n-d)) (⟨p⟩,⟨b,n0,[],parts⟩,()))) λ_ _=>Y:=λn=>rfl;rcases dZ (F:=λn c=>ah (D.bM c.1 (aj parts)) (aP (az c.1 parts) (af (R203 n (n-d) (⟨p⟩,aG.mk (@aT aG parts (ai c.1) aR).1 (@aT aG parts (ai c.1) aR).2 (@aT aG parts (ai c.1) aR).3 (@aT aG parts (ai c.1) aR).4,())) λe=>ah (D.aK e.1.1) (Z (LO.ret () c)) (Z (LO.next (D.add .i64 c.1 1,()))))) (Z (LO.out 0 c)))
    parts.length (λi=>mX p.Cons (parts.getD i aR)) (λi=>(LO.ret () ((i:Int),()):LO (Int×U) (Int×U) U Any)) u step (λn=>by simp(disch:=omega)only[bx]<;>rfl)with⟨a,r⟩|⟨i,l,a,r⟩
   .have e:mX p.Cons ⟨b,n0,[],parts⟩=Pu p.Cons b n0 parts.length:=by unfold mX;rw[yE.2 (gz (d:=aR) a)];rfl
    rw[e];refine Ev.congr o (Ev.aM r (λn e=>_) _ (Ev.of_eq λn=>?_));rw[cF];exact aax j (by omega)
   .have e:mX p.Cons ⟨b,n0,[],parts⟩=J:=by unfold mX;cases m:ql p.Cons parts with|false=>rfl|true=>rw[yE.1 m _ (cG aR l)]at a;cases a
    rw[e];refine Ev.congr o (Ev.aM r (λn e=>_) _ (Ev.of_eq λn=>?_));rw[rH];simp(disch:=omega)only[bx]<;>rfl
  .have e:mX p.Cons ⟨b,n0,text,parts⟩=J:=by unfold mX;rw[eP k];rfl
   rw[e];refine Ev.of_eq λn=>?_;unfold B203 oE;simp only[bx,jG,eP k]<;>rfl
where
 So:∀f:L aG,zG f<=1000->∀q∈f,ON R203 (⟨p⟩,q,()) ((mX p.Cons q,()),())
 |[],_,_,h=>by cases h
 |q::f,m,z,h=>by
  unfold zG at m;rcases ej.1 h with h|h
  .rw[h];exact Sp j q (by omega)
  .exact So f (by omega) z h
theorem Ui(n k:Nat):R95 n (k+1)=B95 n (R95 n k):=rfl
def Um(cons:L ck)(q:aG):Prop:=ON R95 (q,cons,()) ((mX cons q,()),())
def RC{R B P:Type}{cons:L ck}(d:Nat):∀(qs pre:L aG)(b:Bool),pre.length+qs.length<=1000->(∀q∈qs,Um cons q)->
  ∀(F:Nat->Bool×Int×U->O (LO (Bool×Int×U) R B P)),
  (∀n i,F n i=ah (D.bM i.2.1 (aj (pre++qs))) (ah i.1 (aP (az i.2.1 (pre++qs)) (af (R95 n (n-d) (@aT aG (pre++qs) (ai i.2.1) aR,cons,())) λj=>Z (LO.next (j.1.1,D.add .i64 i.2.1 1,())))) (Z (LO.out 0 i))) (Z (LO.out 0 i)))->
  ∃j,gM F (b,(pre.length:Int),()) (.out 0 (b&&ql cons qs,j,()))
 |[],pre,b,h3,c,F,a=>by refine⟨(pre.length:Int),.out (Ev.of_eq λn=>?_)⟩;rw[a];simp(disch:=omega)only[bx,mD,ql,vR]<;>rfl
 |q::qs,pre,b,h3,c,F,a=>by simp only[gi]at h3;cases b with|false=>refine⟨(pre.length:Int),.out (Ev.of_eq λn=>?_)⟩;rw[a];simp(disch:=omega)only[bx,fu]<;>rfl|true=>have g:(pre++q::qs).getD pre.length aR=q:=mc ..;obtain⟨j,k⟩:=RC d qs (pre++[q]) (mX cons q) (by simp;omega) (λl h=>c l (gl _ h)) F (λn e=>by rw[a];simp only[nS,Ek]<;>rfl);refine⟨j,.next (y:=(mX cons q,((pre++[q]).length:Int),())) ?_ (by unfold ql;rw[dF];exact k)⟩;obtain⟨N,m⟩:=c q dX d;refine⟨N,λn f=>?_⟩;show F n _=_;rw[a];simp(disch:=first|omega|simp only[DU];omega)only[bx,g,bO,er,ep,lY];exact(oI (λx=>af x _) (m n f)).trans rfl
variable {cons:List ck}
def XG(s:cons.length<=1000):∀q:aG,pw q<=1000->Um cons q
 |⟨a,n0,text,parts⟩,t=>by
  unfold pw at t;have x:=w4 parts;have u:=So parts (by omega);refine ON.step Ui λd=>?_;have run:∀b:Bool,Ev (λn=>af (iter (KK n (R95 n (n-d)) (⟨a,n0,text,parts⟩,cons,())) n (b,0,())) (KJ n (R95 n (n-d)))) ((b&&ql cons parts,()),()):=by intro b;obtain⟨j,k⟩:=RC (cons:=cons) d parts [] b (by simp;omega) u _ (λn e=>rfl);exact Ev.aM (F:=λn c=>_) k (λn e=>_) _ (Ev.of_eq λn=>rfl)
  have f:∀b:Bool,Ev (λn=>ah b (af (iter (KK n (R95 n (n-d)) (⟨a,n0,text,parts⟩,cons,())) n (decide (text=[]),0,())) (KJ n (R95 n (n-d)))) (af (iter (KK n (R95 n (n-d)) (⟨a,n0,text,parts⟩,cons,())) n (J,0,())) (KJ n (R95 n (n-d))))) (((decide (text=[])&&ql cons parts)&&b,()),()):=by intro b;cases b with|true=>rw[vR];exact run _|false=>rw[Ap];exact run J
  unfold mX Pu;have i:(D.aH n0 0)=decide (n0=0):=by by_cases h:n0=0<;>simp[D.aH,h]
  unfold B95;by_cases l:a=1∨a=2∨a=5
  .rw[aY l];by_cases g:parts.length=0
   .rw[ez g,vR];rcases l with c|c|c<;>subst c<;>simp(disch:=omega)only[bx,dA,i,jG]<;>exact f _
   .rw[eP g,Ap];rcases l with c|c|c<;>subst c<;>simp(disch:=omega)only[bx,dA,i,jG]<;>exact f J
  .rw[bK l];by_cases o:a=3
   .rw[aY o];subst o;by_cases g:parts.length=0
    .rw[ez g,vR];simp(disch:=omega)only[bx,dA,Ex,jG];have:=f (kS n0);simp only[kS,Bool.decide_and]at this ⊢;exact this
    .rw[eP g,Ap];simp(disch:=omega)only[bx,dA,jG];exact f J
   .rw[bK o];by_cases p:a=4
    .rw[aY p];subst p;by_cases g:parts.length=0
     .rw[ez g,vR];simp(disch:=omega)only[bx,dA,Ex,jG];exact f _
     .rw[eP g,Ap];simp(disch:=omega)only[bx,dA,jG];exact f J
    .rw[bK p];by_cases r:a=6
     .rw[aY r];subst r;by_cases k:0<=n0∧n0<cons.length
      .rw[ez k,dF];simp(disch:=omega)only[bx,dA,Ex,ff,ez (show 0<=n0∧n0<=(cons.length:Int)-1 by omega),jG];rw[show D.aH (parts.length:Int) (cons.getD n0.toNat bu).oF=decide ((parts.length:Int)=(cons.getD n0.toNat bu).oF)by simp only[D.aH];exact(Bool.beq_eq_decide_eq ..)];exact f _
      .rw[eP k,fu];simp(disch:=omega)only[bx,dA,Ex,ff,eP (show ¬(0<=n0∧n0<=(cons.length:Int)-1)by omega),jG];exact f J
     .rw[bK r];simp(disch:=omega)only[bx,dA,jG];exact f J
where
 So:∀m:L aG,zG m<=1000->∀q∈m,Um cons q
 |[],_,_,h=>by cases h
 |q::m,v,w,h=>by
  unfold zG at v;rcases ej.1 h with h|h
  .rw[h];exact XG s q (by omega)
  .exact So m (by omega) w h
end
end
section
section
variable {p:av}{nd:bp}
def LJ(op:Int):cA:=if op=15 then .a0 ⟨⟩else if op=14 then .a2 ⟨⟩else if 1<=op∧op<=28 then .a1 (zS.getD op.toNat 0:Nat)else .none
variable {n:Nat}
def ajI(op:Int):F200 n (op,())=Z ((LJ op,()),()):=by
 by_cases h:1<=op∧op<=28
 .obtain ⟨k,rfl⟩:∃k:Nat,op=k:=⟨_,(IG (by omega)).symm⟩;have a:k<=28:=by omega
  match k,a with
  |0,_=>omega
  |1,_|2,_|3,_|4,_|5,_|6,_|7,_|8,_|9,_|10,_|11,_|12,_|13,_|14,_|15,_|16,_|17,_|18,_|19,_|20,_|21,_|22,_|23,_|24,_|25,_|26,_|27,_|28,_=>rfl
  |k+29,h=>omega
 .unfold F200 zl tR tQ LJ;rw[bK (by omega),bK (by omega),bK h];simp(disch:=omega)only[bx,dA]
def Aw(p:av)(nd:bp):Bool:=
 if nd.Op=1 then kS nd.N else if nd.Op=2 then decide (0<=nd.N∧nd.N<=1)else if nd.Op=24 then decide (0<=nd.N∧nd.N<=3)
 else if nd.Op=4 then decide (-(p.dw.length:Int)<=nd.N∧nd.N<=29)else if nd.Op=14 then W else decide (nd.N=0)
def Jq(p:av)(nd:bp):Bool:=
 if nd.Op=15 then decide (1<=(nd.cN.length:Int)∧(nd.cN.length:Int)<=5)&&decide ((nd.Kids.length:Int)=1+nd.cN.length)
 else if nd.Op=14 then decide (0<=nd.N∧nd.N<p.Cons.length)&&decide ((nd.Kids.length:Int)=(p.Cons.getD nd.N.toNat bu).oF)
 else if 1<=nd.Op∧nd.Op<=28 then decide ((nd.Kids.length:Int)=(zS.getD nd.Op.toNat 0:Nat))else J
def npB(nd:bp):Bool:=decide (nd.Op=15∨nd.cN.length=0)
def qB(p:av)(q:aG):Bool:=decide (pw q<=12)&&mX p.Cons q
def kE(p:av)(nd:bp):Bool:=((npB nd&&Jq p nd)&&Aw p nd)&&nd.cN.all (qB p)
def lN(a b:Int):D.aH a b=decide (a=b):=by by_cases h:a=b<;>simp[D.aH,h]
def Wk(b c:Bool):ah b (Z ((c,()),())) (Z ((J,()),()))=(Z ((b&&c,()),()):O ((Bool×U)×U)):=by cases b<;>rfl
def ajH(hf:p.dw.length<=1000):F204 n (⟨p⟩,nd,())=Z ((Aw p nd,()),()):=by
 have a:D.neg .i64 (p.dw.length:Int)=-(p.dw.length:Int):=AP (by omega) (by omega);unfold F204 Aw;by_cases h1:nd.Op=1
 .rw[aY h1];simp only[bx,h1,ad8]
 rw[bK h1];by_cases h2:nd.Op=2
 .rw[aY h2];simp(disch:=omega)only[bx,h2,uJ]
 rw[bK h2];by_cases h3:nd.Op=24
 .rw[aY h3];simp(disch:=omega)only[bx,h3,uJ]
 rw[bK h3];by_cases h4:nd.Op=4
 .rw[aY h4];simp(disch:=omega)only[bx,h4,a,uJ]
 rw[bK h4];by_cases h5:nd.Op=14
 .rw[aY h5];simp(disch:=omega)only[bx,h5]
 rw[bK h5];simp(disch:=omega)only[bx];rw[lN]
def VL(hs:Small p)(g:∀q∈nd.cN,pw q<=16)(hl:nd.cN.length<=10)(b:Bool):Ev (λn=>tS n (⟨p⟩,nd,()) ((b,()),())) (((b&&Aw p nd)&&nd.cN.all (qB p),()),()):=by
 have s:=hs.xu;have t:=hs.cons;unfold tS rS;cases b with
 |false=>exact Ev.of_eq λn=>by simp only[bx,fu]
 |true=>
  simp only[bx,ajH (p:=p) (nd:=nd) (show p.dw.length<=1000 by omega),dF];cases l:Aw p nd with
  |false=>exact Ev.of_eq λn=>by simp only[bx,fu]
  |true=>
   simp only[bx,dF];have m:∀(i:Nat)(y:Int×U),(LO.ret () ((i:Int),()):LO (Int×U) (Int×U) U Any)≠.next y:=λ_ _ h=>by cases h
   rcases dZ (F:=λn i=>ah (D.bM i.1 (nd.cN.length:Int)) (aP (az i.1 nd.cN) (af (F202 n (aG.mk (nd.cN.getD i.1.toNat aR).1 (nd.cN.getD i.1.toNat aR).2 (nd.cN.getD i.1.toNat aR).3 (nd.cN.getD i.1.toNat aR).4,12,())) λj=>ah (D.eu j.1.1 12) (af (F203 n (⟨p⟩,aG.mk (nd.cN.getD i.1.toNat aR).1 (nd.cN.getD i.1.toNat aR).2 (nd.cN.getD i.1.toNat aR).3 (nd.cN.getD i.1.toNat aR).4,())) λk=>ah k.1.1 (Z (LO.next (D.add .i64 i.1 1,()))) (Z (LO.ret () i))) (Z (LO.ret () i)))) (Z (LO.out 0 i)))
    nd.cN.length (λi=>qB p (nd.cN.getD i aR)) (λi=>(LO.ret () ((i:Int),()):LO (Int×U) (Int×U) U Any)) m (λi f=>by
     have u:=g _ (cG aR f);obtain⟨r,o,v,w,_,_⟩:=sizes (nd.cN.getD i aR) (by omega) 12 (by omega) (by omega);simp(disch:=omega)only[bx,aai];refine Ev.af (o 0) ?_;unfold qB;by_cases e:pw (nd.cN.getD i aR)<=12
     .rw[ez e,dF];simp(disch:=omega)only[bx];refine Ev.af (Sp (p:=p) (by omega) (nd.cN.getD i aR) (by omega) 0) (Ev.of_eq λn=>?_);cases mX p.Cons (nd.cN.getD i aR)<;>simp(disch:=omega)only[bx,bO,er,ep]
     .rw[eP e,fu];exact Ev.of_eq λn=>by simp(disch:=omega)only[bx]) (λn=>by simp(disch:=omega)only[bx])with⟨a,r⟩|⟨i,f,a,r⟩
   .rw[qD (d:=aR) a];exact Ev.aM r (λn c=>_) _ (Ev.of_eq λn=>rfl)
   .rw[jo (d:=aR) f a];refine Ev.aM r (λn c=>_) _ (Ev.of_eq λn=>?_);rw[rH];simp(disch:=omega)only[bx]<;>rfl
def ajQ(hs:Small p)(f:∀q∈nd.cN,pw q<=16)(hl:nd.cN.length<=10):Ev (λn=>F153 n (⟨p⟩,nd,())) ((kE p nd,()),()):=by
 have i:=hs.cons;have d:=VL hs f hl;unfold F153 rT kE;simp only[bx,ajI];unfold LJ Jq npB;by_cases c:nd.Op=15
 .rw[aY c,aY c,ez (Or.inl c),dF];have h1:isNil [(274,Ty.st 27),(297,Ty.int .i64),(298,Ty.st 28)] (eB 29 (cA.a0 ⟨⟩))=J:=rfl;have h2:g9 [(274,Ty.st 27),(297,Ty.int .i64),(298,Ty.st 28)] 0 (eB 29 (cA.a0 ⟨⟩))=W:=rfl;refine Ev.congr (g:=λn=>tS n (⟨p⟩,nd,()) ((decide (1<=(nd.cN.length:Int)∧(nd.cN.length:Int)<=5)&&decide ((nd.Kids.length:Int)=1+nd.cN.length),()),())) (λn=>?_) (d _);simp only[h1,h2];unfold F338;simp(disch:=omega)only[bx,dA,uJ,bO,lN,Wk]
 .rw[bK c,bK c];by_cases h:nd.cN.length=0
  .rw[ez (Or.inr h),dF];by_cases a:nd.Op=14
   .rw[aY a,aY a];have h1:isNil [(274,Ty.st 27),(297,Ty.int .i64),(298,Ty.st 28)] (eB 29 (cA.a2 ⟨⟩))=J:=rfl;have h2:g9 [(274,Ty.st 27),(297,Ty.int .i64),(298,Ty.st 28)] 0 (eB 29 (cA.a2 ⟨⟩))=J:=rfl;have h3:g9 [(274,Ty.st 27),(297,Ty.int .i64),(298,Ty.st 28)] 1 (eB 29 (cA.a2 ⟨⟩))=J:=rfl;have h4:g9 [(274,Ty.st 27),(297,Ty.int .i64),(298,Ty.st 28)] 2 (eB 29 (cA.a2 ⟨⟩))=W:=rfl;refine Ev.congr (g:=λn=>tS n (⟨p⟩,nd,()) ((decide (0<=nd.N∧nd.N<p.Cons.length)&&decide ((nd.Kids.length:Int)=(p.Cons.getD nd.N.toNat bu).oF),()),())) (λn=>?_) (d _);simp only[h1,h2,h3,h4];unfold F340;by_cases e:0<=nd.N∧nd.N<p.Cons.length
    .rw[ez e,dF];simp(disch:=omega)only[bx,dA,uJ,ff,ez (show 0<=nd.N∧nd.N<=(p.Cons.length:Int)-1 by omega),lN]
    .rw[eP e,fu];simp(disch:=omega)only[bx,dA,uJ,ff,eP (show ¬(0<=nd.N∧nd.N<=(p.Cons.length:Int)-1)by omega)]
   .rw[bK a,bK a];by_cases b:1<=nd.Op∧nd.Op<=28
    .rw[aY b,aY b];generalize((zS.getD nd.Op.toNat 0:Nat):Int)=K;have h1:isNil [(274,Ty.st 27),(297,Ty.int .i64),(298,Ty.st 28)] (eB 29 (cA.a1 K))=J:=rfl;have h2:g9 [(274,Ty.st 27),(297,Ty.int .i64),(298,Ty.st 28)] 0 (eB 29 (cA.a1 K))=J:=rfl;have h3:g9 [(274,Ty.st 27),(297,Ty.int .i64),(298,Ty.st 28)] 1 (eB 29 (cA.a1 K))=W:=rfl;refine Ev.congr (g:=λn=>tS n (⟨p⟩,nd,()) ((decide ((nd.Kids.length:Int)=K),()),())) (λn=>?_) (d _);simp only[h1,h2,h3];unfold F339;simp(disch:=omega)only[bx,dA,<-lN];rfl
    .rw[bK b,bK b];have h1:isNil [(274,Ty.st 27),(297,Ty.int .i64),(298,Ty.st 28)] (eB 29 cA.none)=W:=rfl;simp only[h1];exact Ev.of_eq λn=>by simp only[bx,fu]
  .rw[show decide (nd.Op=15∨nd.cN.length=0)=J from eP (by omega),fu,fu,fu];by_cases a:nd.Op=14
   .rw[aY a];have h1:isNil [(274,Ty.st 27),(297,Ty.int .i64),(298,Ty.st 28)] (eB 29 (cA.a2 ⟨⟩))=J:=rfl;have h2:g9 [(274,Ty.st 27),(297,Ty.int .i64),(298,Ty.st 28)] 0 (eB 29 (cA.a2 ⟨⟩))=J:=rfl;simp only[h1,h2];exact Ev.of_eq λn=>by simp(disch:=omega)only[bx,SZ]<;>rfl
   .rw[bK a];by_cases b:1<=nd.Op∧nd.Op<=28
    .rw[aY b];generalize((zS.getD nd.Op.toNat 0:Nat):Int)=K;have h1:isNil [(274,Ty.st 27),(297,Ty.int .i64),(298,Ty.st 28)] (eB 29 (cA.a1 K))=J:=rfl;have h2:g9 [(274,Ty.st 27),(297,Ty.int .i64),(298,Ty.st 28)] 0 (eB 29 (cA.a1 K))=J:=rfl;simp only[h1,h2];exact Ev.of_eq λn=>by simp(disch:=omega)only[bx,SZ]<;>rfl
    .rw[bK b];have h1:isNil [(274,Ty.st 27),(297,Ty.int .i64),(298,Ty.st 28)] (eB 29 cA.none)=W:=rfl;simp only[h1];exact Ev.of_eq λn=>by simp only[bx]<;>rfl
end
end
section
section
variable {p:av}{nd:bp}
def u5(op a args:Int):Int:=if op=15 then 1+a else if op=14 then args else if 1<=op∧op<=28 then(zS.getD op.toNat 0:Nat)else -1
def e96{n:Nat}(op:Int){a args:Int}(h1:0<=a)(h2:a<=1000):F96 n (op,a,args,())=Z ((u5 op a args,()),()):=by
 by_cases h:1<=op∧op<=28
 .by_cases b:op=15
  .subst b;unfold F96 DJ yf ye u5;rw[aY rfl];simp(disch:=omega)only[bx,dA,bO]
  .obtain ⟨k,rfl⟩:∃k:Nat,op=k:=⟨_,(IG (by omega)).symm⟩;have c:k<=28:=by omega
   match k,c,b with
   |0,_,_=>omega
   |1,_,_|2,_,_|3,_,_|4,_,_|5,_,_|6,_,_|7,_,_|8,_,_|9,_,_|10,_,_|11,_,_|12,_,_|13,_,_|14,_,_|16,_,_|17,_,_|18,_,_|19,_,_|20,_,_|21,_,_|22,_,_|23,_,_|24,_,_|25,_,_|26,_,_|27,_,_|28,_,_=>rfl
   |15,_,h=>exact absurd rfl h
   |k+29,h,_=>omega
 .unfold F96 DJ yf ye u5;rw[bK (by omega),bK (by omega),bK h];simp(disch:=omega)only[bx,dA]
def RD{R B P:Type}{cons:L ck}(k:cons.length<=1000):∀(qs pre:L aG)(b:Bool),pre.length+qs.length<=1000->(∀q∈qs,pw q<=16)->
  ∀(F:Nat->Bool×Int×U->O (LO (Bool×Int×U) R B P)),
  (∀n h,F n h=ah (D.bM h.2.1 (aj (pre++qs))) (ah h.1 (aP (az h.2.1 (pre++qs)) (af (F83 n (@aT aG (pre++qs) (ai h.2.1) aR,12,())) λi=>ah (D.eu 0 i.1.1) (aP (az h.2.1 (pre++qs)) (af (F95 n (@aT aG (pre++qs) (ai h.2.1) aR,cons,())) λj=>Z (LO.next (j.1.1,D.add .i64 h.2.1 1,())))) (Z (LO.next (J,D.add .i64 h.2.1 1,()))))) (Z (LO.out 0 h))) (Z (LO.out 0 h)))->
  ∃j,gM F (b,(pre.length:Int),()) (.out 0 (b&&qs.all (λq=>decide (pw q<=12)&&mX cons q),j,()))
 |[],pre,b,h3,f,F,a=>by refine⟨(pre.length:Int),.out (Ev.of_eq λn=>?_)⟩;rw[a];simp(disch:=omega)only[bx,mD,List.all_nil,vR]<;>rfl
 |q::qs,pre,b,h3,f,F,a=>by
  simp only[gi]at h3;cases b with
  |false=>refine⟨(pre.length:Int),.out (Ev.of_eq λn=>?_)⟩;rw[a];simp(disch:=omega)only[bx,fu]<;>rfl
  |true=>
   have p:=f q dX;have l:(pre++q::qs).getD pre.length aR=q:=mc ..;obtain⟨j,m⟩:=RD k qs (pre++[q]) (decide (pw q<=12)&&mX cons q) (by simp;omega) (λo h=>f o (gl _ h)) F (λn e=>by rw[a];simp only[nS,Ek]<;>rfl);refine⟨j,.next (y:=(decide (pw q<=12)&&mX cons q,((pre++[q]).length:Int),())) ?_ (by rw[BM,dF];exact m)⟩;refine Ev.congr (g:=λn=>af (F83 n (q,12,())) λi=>ah (D.eu 0 i.1.1) (af (F95 n (q,cons,())) λj=>Z (LO.next (j.1.1,(pre.length:Int)+1,()))) (Z (LO.next (J,(pre.length:Int)+1,())))) (λn=>?_) (Ev.af (e83 q (by omega) (by omega)) ?_)
   .rw[a];simp(disch:=first|omega|simp only[DU];omega)only[bx,l,bO]<;>rfl
   .by_cases c:pw q<=12
    .have d:((pw q:Nat):Int)<=12:=by omega
     rw[l7 d,ez c,dF];simp(disch:=omega)only[bx];refine Ev.af (XG k q (by omega) 0) (Ev.of_eq λn=>?_);simp only[bx,er,ep,lY]
    .rw[l8 (by omega),eP c,fu];exact Ev.of_eq λn=>by simp(disch:=omega)only[bx,er,ep,lY]
abbrev KW(p:av)(nd:bp)(args:Int)(n:Nat)(b:Bool):O ((Bool×U)×U):=
 af (iter (λh:Bool×Int×U=>ah (D.bM h.2.1 (aj nd.cN)) (ah h.1 (aP (az h.2.1 nd.cN) (af (F83 n (@aT aG nd.cN (ai h.2.1) aR,12,())) λi=>ah (D.eu 0 i.1.1) (aP (az h.2.1 nd.cN) (af (F95 n (@aT aG nd.cN (ai h.2.1) aR,p.Cons,())) λj=>Z (LO.next (j.1.1,D.add .i64 h.2.1 1,())))) (Z (LO.next (J,D.add .i64 h.2.1 1,()))))) (Z (LO.out 0 h))) (Z (LO.out 0 h))) n (b,0,()))
  λh=>LO.el (R:=Bool×U) (B:=U) (P:=Any) h (λ_ j=>ah j.1 (af (F96 n (nd.Op,aj nd.cN,args,())) λk=>Z ((D.aH (aj nd.Kids) k.1.1,()),())) (Z ((J,()),()))) (λ_ j=>Z (j,())) λ_ _=>Y
def TK(hs:Small p)(a:∀q∈nd.cN,pw q<=16)(hl:nd.cN.length<=10)(args:Int)(b:Bool):Ev (λn=>KW p nd args n b) (((b&&nd.cN.all (qB p))&&decide ((nd.Kids.length:Int)=u5 nd.Op nd.cN.length args),()),()):=by have e:=hs.cons;obtain⟨j,d⟩:=RD (R:=Bool×U) (B:=U) (P:=Any) (cons:=p.Cons) (by omega) nd.cN [] b (by simp;omega) a _ (λn h=>rfl);refine Ev.aM (F:=λn h=>_) d (λn c=>_) _ (Ev.of_eq λn=>?_);rw[cF];show TL.ah (b&&nd.cN.all (qB p)) _ _=_;cases b&&nd.cN.all (qB p)with|false=>simp only[bx,fu]|true=>simp(disch:=omega)only[bx,e96,lN,dF]
def e54(hs:Small p)(v:∀q∈nd.cN,pw q<=16)(hl:nd.cN.length<=10):Ev (λn=>F54 n (p,nd,())) ((kE p nd,()),()):=by
 have z:=hs.cons;have A:=hs.xu;have w:D.neg .i64 (p.dw.length:Int)=-(p.dw.length:Int):=AP (by omega) (by omega);have c:D.aH (nd.cN.length:Int) 0=decide ((nd.cN.length:Int)=0):=lN ..;have t:=TK (p:=p) (nd:=nd) hs v hl;have a:∀n args b,(af (iter (λh:Bool×Int×U=>ah (D.bM h.2.1 (nd.cN.length:Int)) (ah h.1 (aP (az h.2.1 nd.cN) (af (F83 n (nd.cN.getD h.2.1.toNat aR,12,())) λi=>ah (D.eu 0 i.1.1) (aP (az h.2.1 nd.cN) (af (F95 n (nd.cN.getD h.2.1.toNat aR,p.Cons,())) λj=>Z (LO.next (j.1.1,D.add .i64 h.2.1 1,())))) (Z (LO.next (J,D.add .i64 h.2.1 1,()))))) (Z (LO.out 0 h))) (Z (LO.out 0 h))) n (b,0,()))
  λh=>LO.el (R:=Bool×U) (B:=U) (P:=Any) h (λ_ j=>ah j.1 (af (F96 n (nd.Op,(nd.cN.length:Int),args,())) λk=>Z ((D.aH (nd.Kids.length:Int) k.1.1,()),())) (Z ((J,()),()))) (λ_ j=>Z (j,())) λ_ _=>Y)=KW p nd args n b:=λ_ _ _=>rfl
 have s:∀{G:Nat->O ((Bool×U)×U)}(args:Int)(b r:Bool),(∀n,G n=KW p nd args n b)->((b&&nd.cN.all (qB p))&&decide ((nd.Kids.length:Int)=u5 nd.Op nd.cN.length args))=r->Ev G ((r,()),()):=by intro G args b r h1 h2;rw[<-h2];exact Ev.congr h1 (t args b)
 unfold F54;by_cases m:nd.Op=15
 .refine s 0 (decide (nd.N=0)&&decide (1<=(nd.cN.length:Int)∧(nd.cN.length:Int)<=5)) _ (λn=>?_) ?_
  .cases d:decide (nd.N=0)<;>(have o:D.aH nd.N 0=_:=(lN ..).trans d)<;>simp(disch:=omega)only[bx,dA,o,Ex,fu,dF]<;>exact a ..
  .unfold kE npB Jq Aw u5;simp only[m,Int.reduceEq,qg,if_false,true_or,decide_true,dF]
   ac_rfl
 .have l:∀b:Bool,(b&&decide ((nd.cN.length:Int)=0))=(b&&npB nd):=by
   intro b;unfold npB
   congr 1
   exact decide_eq_decide.2 (by omega)
  by_cases f:nd.Op=14
  .by_cases u:0<=nd.N∧nd.N<p.Cons.length
   .refine s (p.Cons.getD nd.N.toNat bu).oF (decide ((nd.cN.length:Int)=0)) _ (λn=>?_) ?_
    .simp (disch:=omega)only[bx,dA,Ex,ff,ez (show 0<=nd.N∧nd.N<=(p.Cons.length:Int)-1 by omega),c];exact a ..
    .have:=l W;rw[dF,dF]at this;rw[this];unfold kE Jq Aw u5;simp only[f,Int.reduceEq,qg,if_false,ez u,dF,vR]
     ac_rfl
   .refine s 0 J _ (λn=>?_) ?_
    .simp (disch:=omega)only[bx,dA,Ex,ff,eP (show ¬(0<=nd.N∧nd.N<=(p.Cons.length:Int)-1)by omega)];exact a ..
    .unfold kE Jq Aw;simp only[f,Int.reduceEq,qg,if_false,eP u,fu,Ap]
  .have last:∀b:Bool,Aw p nd=b->((b&&decide ((nd.cN.length:Int)=0))&&nd.cN.all (qB p)&&decide ((nd.Kids.length:Int)=u5 nd.Op nd.cN.length 0))=kE p nd:=by
    intro b x;rw[l];unfold kE;rw[x];have y:Jq p nd=decide ((nd.Kids.length:Int)=u5 nd.Op nd.cN.length 0):=by
     unfold Jq u5;rw[bK m,bK f,bK m,bK f];by_cases g:1<=nd.Op∧nd.Op<=28
     .rw[aY g,aY g]
     .rw[bK g,bK g];exact(eP (by omega)).symm
    rw[y]
    ac_rfl
   refine s 0 (Aw p nd&&decide ((nd.cN.length:Int)=0)) _ (λn=>?_) (last _ rfl);unfold Aw;by_cases h1:nd.Op=1
   .rw[aY h1];have e:decide (-1000000000<=nd.N∧nd.N<=1000000000)=kS nd.N:=by simp only[kS,Bool.decide_and]
    cases d:kS nd.N<;>simp(disch:=omega)only[bx,dA,Ex,e,d,c,fu,dF]<;>exact a ..
   rw[bK h1];by_cases h2:nd.Op=2
   .rw[aY h2];cases d:decide (0<=nd.N∧nd.N<=1)<;>simp(disch:=omega)only[bx,dA,Ex,d,c,fu,dF]<;>exact a ..
   rw[bK h2];by_cases h3:nd.Op=24
   .rw[aY h3];cases d:decide (0<=nd.N∧nd.N<=3)<;>simp(disch:=omega)only[bx,dA,Ex,d,c,fu,dF]<;>exact a ..
   rw[bK h3];by_cases h4:nd.Op=4
   .rw[aY h4];cases d:decide (-(p.dw.length:Int)<=nd.N∧nd.N<=29)<;>simp(disch:=omega)only[bx,w,dA,Ex,d,c,fu,dF]<;>exact a ..
   rw[bK h4,bK f];cases d:decide (nd.N=0)<;>(have o:D.aH nd.N 0=_:=(lN ..).trans d)<;>simp(disch:=omega)only[bx,dA,o,c,fu,dF]<;>exact a ..
end
end
section
section
def Ax(b:UInt8):Bool:=decide (97<=b.toNat∧b.toNat<=122)
def we(s:L UInt8):Bool:=match s with
 |[]=>J
 |a::l=>(decide (l.length<=7)&&decide (65<=a.toNat∧a.toNat<=90))&&l.all Ax
theorem s6(a:UInt8)(l:L UInt8):we (a::l)=((decide (l.length<=7)&&decide (65<=a.toNat∧a.toNat<=90))&&l.all Ax):=rfl
theorem Gy(l:L UInt8)(i:Nat):kA l i=((l.getD i 0).toNat:Int):=rfl
variable {l s:List UInt8}
def ajO(hl:l.length<=1000):Ev (λn=>F161 n (l,())) ((l.all Ax,()),()):=by
 unfold F161;have e:∀(i:Nat)(y:Int×U),(LO.ret () (J,()):LO (Int×U) (Bool×U) U Any)≠.next y:=λ_ _ h=>by cases h
 rcases dZ (F:=λn c=>ah (D.bM c.1 (aj l)) (aP (az c.1 l) (ah (D.bM (kA l c.1) 97) (Z (LO.ret () (J,()))) (aP (az c.1 l) (ah (D.bM 122 (kA l c.1)) (Z (LO.ret () (J,()))) (Z (LO.next (D.add .i64 c.1 1,()))))))) (Z (LO.out 0 c))) l.length (λi=>Ax (l.getD i 0)) (λ_=>(LO.ret () (J,()):LO (Int×U) (Bool×U) U Any)) e (λi b=>Ev.of_eq λn=>by
   unfold Ax;by_cases h1:97<=(l.getD i 0).toNat
   .by_cases h2:(l.getD i 0).toNat<=122
    .simp (disch:=omega)only[bx,Gy,ez (And.intro h1 h2),bO,er,ep]
    .simp (disch:=omega)only[bx,Gy,eP (λh:97<=(l.getD i 0).toNat∧(l.getD i 0).toNat<=122=>h2 h.2)]
   .simp (disch:=omega)only[bx,Gy,eP (λh:97<=(l.getD i 0).toNat∧(l.getD i 0).toNat<=122=>h1 h.1)]) (λn=>by simp(disch:=omega)only[bx]<;>rfl)with⟨a,r⟩|⟨i,b,a,r⟩
 .rw[qD (d:=(0:UInt8)) a];exact Ev.aM r (λn c=>_) _ (Ev.of_eq λn=>rfl)
 .rw[jo (d:=(0:UInt8)) b a];exact Ev.aM r (λn c=>_) _ (Ev.of_eq λn=>rfl)
def RE(l:L UInt8)(pos:Nat)(h:pos<l.length):(Ax l[pos]=W∧rX l pos=(l[pos].toNat:Int)∧DY l pos=1)∨(Ax l[pos]=J∧(rX l pos<97∨122<rX l pos)):=by
 have a:pos<(bD l).size:=by simpa[bD,ByteArray.size]using h
 have b:(bD l)[pos]'a=l[pos]:=rfl;unfold Ax rX DY;by_cases h1:l[pos].toNat<128
 .have c:=decode_ascii (bD l) pos a (by rw[b];exact h1);rw[c,b];simp only;by_cases h2:97<=l[pos].toNat∧l[pos].toNat<=122
  .exact .inl ⟨ez h2,rfl,trivial⟩
  .exact .inr ⟨eP h2,by omega⟩
 .have c:=decode_high (bD l) pos a (by rw[b];omega);exact .inr ⟨eP (by omega),by omega⟩
def Bu(F:Nat->(L UInt8×Nat)×U->O (LO ((L UInt8×Nat)×U) (Bool×U) ((L UInt8×Nat)×U) Any))
  (d:∀n c,F n c=ah (Ls c.1.2 c.1.1) (ah (D.bM (rX c.1.1 c.1.2) 97) (HZ n c) (ah (D.bM 122 (rX c.1.1 c.1.2)) (HZ n c) (Z (LO.next ((c.1.1,Xj c.1.2 (DY c.1.1 c.1.2)),()))))) (Z (LO.out 0 c))) :
  ∀(k:Nat)(l:L UInt8)(pos:Nat),pos+k=l.length->((l.drop pos).all Ax=W∧∃c,gM F ((l,pos),()) (.out 0 c))∨((l.drop pos).all Ax=J∧∃c,gM F ((l,pos),()) (.ret c (J,())))
 |0,l,pos,h=>by refine .inl ⟨by rw[List.drop_eq_nil_of_le (by omega)];rfl,((l,pos),()),.out (Ev.of_eq λn=>?_)⟩;rw[d];have:Ls pos l=J:=eP (by omega);simp only[bx,this]
 |k+1,l,pos,h=>by
  have f:pos<l.length:=by omega
  have i:l.drop pos=l[pos]::l.drop (pos+1):=NL f;have e:Ls pos l=W:=ez f;rw[i,BM];rcases RE l pos f with⟨a,b,c⟩|⟨a,b⟩
  .have j:97<=l[pos].toNat∧l[pos].toNat<=122:=Ar a;rw[a,dF];have g:Ev (λn=>F n ((l,pos),())) (.next ((l,pos+1),())):=Ev.of_eq λn=>by rw[d];simp(disch:=omega)only[bx,e,b,c];rfl
   rcases Bu F d k l (pos+1) (by omega)with⟨x,y,z⟩|⟨x,y,z⟩
   .exact .inl ⟨x,y,.next g z⟩
   .exact .inr ⟨x,y,.next g z⟩
  .rw[a,fu];refine .inr ⟨rfl,((l,Xj pos (DY l pos)),()),.ret (Ev.of_eq λn=>?_)⟩;rw[d];rcases b with b|b
   .simp (disch:=omega)only[bx,e]<;>rfl
   .by_cases m:rX l pos<97
    .simp (disch:=omega)only[bx,e]<;>rfl
    .simp (disch:=omega)only[bx,e]<;>rfl
def ajF(l:L UInt8):Ev (λn=>F257 n (l,())) ((l.all Ax,()),()):=by
 unfold F257;rcases Bu _ (λn c=>rfl) l.length l 0 (by omega)with⟨a,c,r⟩|⟨a,c,r⟩
 .rw[List.drop_zero]at a;rw[a];exact Ev.aM (F:=λn c=>_) r (λn c=>_) _ (Ev.of_eq λn=>rfl)
 .rw[List.drop_zero]at a;rw[a];exact Ev.aM (F:=λn c=>_) r (λn c=>_) _ (Ev.of_eq λn=>rfl)
def CJ{G:Nat->L UInt8->O ((Bool×U)×U)}{a:UInt8}(h:Ev (λn=>G n l) ((l.all Ax,()),()))(hl:l.length<=7) :
  Ev (λn=>aP (az 0 (a::l)) (ah (D.eu 65 (kA (a::l) 0)) (aP (az 0 (a::l)) (ah (D.eu (kA (a::l) 0) 90) (aP (iz 1 (aj (a::l)) (aj (a::l))) (af (G n (eZ (a::l) 1 (aj (a::l)))) λc=>Z c)) (Z ((J,()),())))) (Z ((J,()),())))) ((we (a::l),()),()):=by
 rw[s6,ez hl,dF];have e:kA (a::l) 0=(a.toNat:Int):=rfl;by_cases h1:65<=a.toNat
 .by_cases h2:a.toNat<=90
  .rw[ez (And.intro h1 h2),dF];simp(disch:=first|omega|simp only[DU];omega)only[bx,e,O2];exact Ev.af h (Ev.pure _)
  .rw[eP (λh:65<=a.toNat∧a.toNat<=90=>h2 h.2),fu];exact Ev.of_eq λn=>by simp(disch:=first|omega|simp only[DU];omega)only[bx,e]
 .rw[eP (λh:65<=a.toNat∧a.toNat<=90=>h1 h.1),fu];exact Ev.of_eq λn=>by simp(disch:=first|omega|simp only[DU];omega)only[bx,e]
def e93(hs:s.length<=1000):Ev (λn=>F93 n (s,())) ((we s,()),()):=by
 unfold F93;cases s with
 |nil=>exact Ev.of_eq λn=>by simp(disch:=omega)only[bx]<;>rfl
 |cons a l=>
  simp only[gi]at hs;by_cases h:l.length<=7
  .have:=CJ (G:=λn l=>F161 n (l,())) (a:=a) (ajO (l:=l) (by omega)) h;refine Ev.congr (λn=>?_) this;simp only[aj,gi];rw[qM (by omega),qM (by omega)]
  .rw[s6,eP h,fu,fu];exact Ev.of_eq λn=>by simp(disch:=omega)only[bx]
def ajJ(hs:s.length<=1000):Ev (λn=>F197 n (s,())) ((we s,()),()):=by
 unfold F197;cases s with
 |nil=>exact Ev.of_eq λn=>rfl
 |cons a l=>
  simp only[gi]at hs;have b:fO (a::l) []=J:=rfl;by_cases h:l.length<=7
  .have:=CJ (G:=λn l=>F257 n (l,())) (a:=a) (ajF l) h;refine Ev.congr (λn=>?_) this;simp only[b];rw[dz,Bs,qM (by simp only[aj,gi];omega)]
  .rw[s6,eP h,fu,fu];exact Ev.of_eq λn=>by simp(disch:=omega)only[bx,b]
def Dj(c:ck):Bool:=we c.Name&&decide (0<=c.oF∧c.oF<=3)
def ajS{c:ck}(hs:c.Name.length<=1000):Ev (λn=>F148 n (c,())) ((Dj c,()),()):=by unfold F148 Dj;refine Ev.af (ajJ hs) (Ev.of_eq λn=>?_);cases we c.Name<;>simp only[bx,uJ,dF,fu]
def vY{α:Type}{l:L α}{i:Nat}(d:α)(h:i<l.length):(l.take (i+1)).Nodup↔(l.take i).Nodup∧l.getD i d∉l.take i:=by
 rw[<-take_succ d h,BQ];constructor
 .rintro ⟨a,_,b⟩
  exact⟨a,λc=>b _ c _ (List.mem_singleton_self _) rfl⟩
 .rintro ⟨a,b⟩
  refine⟨a,List.pairwise_singleton _ _,λx e y f=>?_⟩;rw[ko.1 f];exact λh=>b (h▸e)
def ajT{l:L (L UInt8)}(hl:l.length<=1000):Ev (λn=>F142 n (l,s,())) ((decide (s∈l),()),()):=by
 unfold F142;have e:∀(i:Nat)(y:Int×U),(LO.ret () (W,()):LO (Int×U) (Bool×U) U Any)≠.next y:=λ_ _ h=>by cases h
 rcases dZ (F:=λn c=>ah (D.bM c.1 (aj l)) (aP (az c.1 l) (ah (fO (aT l (ai c.1) []) s) (Z (LO.ret () (W,()))) (Z (LO.next (D.add .i64 c.1 1,()))))) (Z (LO.out 0 c))) l.length (λi=>!(fO (l.getD i []) s)) (λ_=>(LO.ret () (W,()):LO (Int×U) (Bool×U) U Any)) e (λi b=>Ev.of_eq λn=>by
   cases f:fO (l.getD i []) s<;>simp(disch:=omega)only[bx,f,bO,er,ep,BG,zE]) (λn=>by simp(disch:=omega)only[bx]<;>rfl)with⟨a,r⟩|⟨i,b,a,r⟩
 .have:s∉l:=by intro g;have:=gz (d:=([]:L UInt8)) (Q:=λx=>(!(fO x s))=W) a s g;simp[fO]at this
  rw[eP this];exact Ev.aM r (λn c=>_) _ (Ev.of_eq λn=>rfl)
 .have:s∈l:=by
   have j:l.getD i []=s:=by simpa[fO]using a
   rw[<-j];exact cG _ b
  rw[ez this];exact Ev.aM r (λn c=>_) _ (Ev.of_eq λn=>rfl)
def e94{l:L (L UInt8)}(hl:l.length<=1000):∃b,Ev (λn=>F94 n (l,())) ((b,()),())∧(b=W↔l.Nodup):=by
 unfold F94;have f:∀(i:Nat)(y:Int×U),(LO.ret () (J,()):LO (Int×U) (Bool×U) U Any)≠.next y:=λ_ _ h=>by cases h
 rcases dZ (F:=λn c=>ah (D.bM c.1 (aj l)) (aP (iz 0 c.1 (aj l)) (aP (az c.1 l) (af (F142 n (eZ l 0 c.1,aT l (ai c.1) [],())) λd=>ah d.1.1 (Z (LO.ret () (J,()))) (Z (LO.next (D.add .i64 c.1 1,())))))) (Z (LO.out 0 c))) l.length (λi=>!(decide (l.getD i []∈l.take i))) (λ_=>(LO.ret () (J,()):LO (Int×U) (Bool×U) U Any)) f (λi e=>by
   simp(disch:=omega)only[bx,Gn];refine Ev.af (ajT (by rw[qh];omega)) (Ev.of_eq λn=>?_);cases m:decide (l.getD i []∈l.take i)<;>simp(disch:=omega)only[bx,bO,er,ep,BG,zE]) (λn=>by simp(disch:=omega)only[bx]<;>rfl)with⟨a,r⟩|⟨i,e,a,r⟩
 .refine ⟨W,Ev.aM r (λn c=>_) _ (Ev.of_eq λn=>rfl),λ_=>?_,λ_=>rfl⟩;have:∀i,i<=l.length->(l.take i).Nodup:=by
   intro i
   induction i with|zero=>intro _;simp|succ i g=>intro e;refine(vY [] (by omega)).2 ⟨g (by omega),λj=>?_⟩;have:=a i (by omega);rw[ez j]at this;cases this
  have:=this l.length (bS _);rwa [mE]at this
 .refine ⟨J,Ev.aM r (λn c=>_) _ (Ev.of_eq λn=>rfl),(λh=>by cases h),λk=>?_⟩;have h1:(l.take (i+1)).Nodup:=List.Nodup.sublist (List.take_sublist _ _) k;have h2:=((vY [] e).1 h1).2;rw[eP h2]at a;cases a
end
end
section
section
def Vg(n:Nat)(o:L Int)(ks:L Int):Prop:=o.length=n∧∀i:Nat,i<n->o.getD i 0=(ks.count (i:Int):Nat)
def EK(n:Nat)(u:L Bool)(ks:L Int):Prop:=u.length=n∧∀i:Nat,i<n->(u.getD i J=W↔(i:Int)∈ks)
variable {n N:Nat}{ks:List Int}{k lo:Int}
def Vg.step{o:L Int}(h:Vg n o ks)(g:0<=k)(h1:k<n):Vg n (o.set k.toNat (o.getD k.toNat 0+1)) (ks++[k]):=by
 obtain⟨a,b⟩:=h;refine⟨by rw[BH];exact a,λi d=>?_⟩;rw[List.count_append,List.count_singleton];have f:=b k.toNat (by omega);by_cases c:i=k.toNat
 .have e:(k==(i:Int))=W:=by simp;omega
  rw[e,aY rfl];rw[jO,c,IL (by omega)];simp only[Aq];rw[f,<-c];simp
 .have e:(k==(i:Int))=J:=by simp;omega
  rw[e];simp only[Bool.false_eq_true,if_false,wZ];rw[jO,IJ (by omega),<-jO];exact b i d
def EK.step{u:L Bool}(h:EK n u ks)(e:0<=k)(h1:k<n):EK n (u.set k.toNat W) (ks++[k]):=by
 obtain⟨a,b⟩:=h;refine⟨by rw[BH];exact a,λi d=>?_⟩;rw[dy,ko];by_cases c:i=k.toNat
 .rw[jO,c,IL (by omega)];simp only[Aq,true_iff];exact .inr (by omega)
 .rw[jO,IJ (by omega),<-jO,b i d];exact⟨.inl,λh=>h.elim id λh=>absurd h (by omega)⟩
abbrev Jb(N:Nat)(l:L Int)(lo:Int)(n:Nat)(c:L Int×Int×U):O (LO (L Int×Int×U) (Bool×U) U Any):=
 ah (D.bM c.2.1 (aj l)) (aP (az c.2.1 l) (af (F146 n (aT l (ai c.2.1) 0,lo,(N:Int)-1,())) λq=>ah (D.aK q.1.1) (Z (LO.ret () (J,()))) (aP (az (aT l (ai c.2.1) 0) c.1) (aP (ef (ai (aT l (ai c.2.1) 0)) c.1) (aP (az (aT l (ai c.2.1) 0) c.1) (aP (ef (ai (aT l (ai c.2.1) 0)) c.1)
  (Z (LO.next (jP c.1 (ai (aT l (ai c.2.1) 0)) (D.add .i64 (aT c.1 (ai (aT l (ai c.2.1) 0)) 0) 1),D.add .i64 c.2.1 1,()))))))))) (Z (LO.out 0 c))
def Cb{N:Nat}{lo:Int}(hlo:0<=lo):∀(l pre:L Int)(o ks:L Int),Vg N o ks->ks.length+l.length<=100000->pre.length+l.length<=100000->
  ((∀k∈l,lo<=k∧k<N)∧∃e,Vg N e (ks++l)∧gM (λn c=>Jb N (pre++l) lo n c) (o,(pre.length:Int),()) (.out 0 (e,((pre++l).length:Int),())))∨
  (¬(∀k∈l,lo<=k∧k<N)∧gM (λn c=>Jb N (pre++l) lo n c) (o,(pre.length:Int),()) (.ret () (J,())))
 |[],pre,o,ks,d,h1,h2=>by refine .inl ⟨by simp,o,by rw[mD];exact d,.out (Ev.of_eq λn=>?_)⟩;simp(disch:=omega)only[bx,Jb,mD]
 |k::l,pre,o,ks,d,h1,h2=>by
  simp only[gi]at h1 h2;have g:(pre++k::l).getD pre.length 0=k:=mc ..;have j:=d.1;by_cases f:lo<=k∧k<N
  .have p:=d.2 k.toNat (by omega);have m:=List.count_le_length (a:=((k.toNat:Nat):Int)) (l:=ks);have i:Ev (λn=>Jb N (pre++k::l) lo n (o,(pre.length:Int),())) (.next (o.set k.toNat (o.getD k.toNat 0+1),((pre++[k]).length:Int),())):=by refine Ev.of_eq λn=>?_;simp(disch:=first|omega|simp only[DU];omega)only[bx,Jb,g,uJ,ez (show lo<=k∧k<=(N:Int)-1 by omega),bO,er,ep,lY]
   rcases Cb hlo l (pre++[k]) _ (ks++[k]) (d.step (by omega) f.2) (by simp;omega) (by simp;omega)with⟨a,e,b,c⟩|⟨a,c⟩
   .refine .inl ⟨λx hx=>?_,e,by simpa only[nS,Ek]using b,.next i (by simpa only[nS,Ek]using c)⟩;rcases ej.1 hx with hx|hx
    .rw[hx];exact f
    .exact a x hx
   .exact .inr ⟨λh=>a λx hx=>h x (gl _ hx),.next i (by simpa only[nS,Ek]using c)⟩
  .refine .inr ⟨λh=>f (h k dX),.ret (Ev.of_eq λn=>?_)⟩;simp(disch:=first|omega|simp only[DU];omega)only[bx,Jb,g,uJ,eP (show ¬(lo<=k∧k<=(N:Int)-1)by omega)]
abbrev qx(N:Nat)(l:L Int)(lo:Int)(n:Nat)(c:L Bool×Int×U):O (LO (L Bool×Int×U) (Bool×U) U Any):=
 ah (D.bM c.2.1 (aj l)) (aP (az c.2.1 l) (af (F52 n (aT l (ai c.2.1) 0,lo,(N:Int)-1,())) λh=>ah (D.aK h.1.1) (Z (LO.ret () (J,()))) (aP (az (aT l (ai c.2.1) 0) c.1) (aP (ef (ai (aT l (ai c.2.1) 0)) c.1) (ah (aT c.1 (ai (aT l (ai c.2.1) 0)) J) (Z (LO.ret () (J,())))
  (aP (az (aT l (ai c.2.1) 0) c.1) (aP (ef (ai (aT l (ai c.2.1) 0)) c.1) (Z (LO.next (jP c.1 (ai (aT l (ai c.2.1) 0)) W,D.add .i64 c.2.1 1,())))))))))) (Z (LO.out 0 c))
def yW{N:Nat}{lo:Int}(hlo:0<=lo):∀(l pre:L Int)(u:L Bool)(ks:L Int),EK N u ks->ks.Nodup->pre.length+l.length<=100000->
  (((∀k∈l,lo<=k∧k<N)∧(ks++l).Nodup)∧∃q,EK N q (ks++l)∧gM (λn c=>qx N (pre++l) lo n c) (u,(pre.length:Int),()) (.out 0 (q,((pre++l).length:Int),())))∨
  (¬((∀k∈l,lo<=k∧k<N)∧(ks++l).Nodup)∧gM (λn c=>qx N (pre++l) lo n c) (u,(pre.length:Int),()) (.ret () (J,())))
 |[],pre,u,ks,d,g,h2=>by refine .inl ⟨⟨by simp,by rw[mD];exact g⟩,u,by rw[mD];exact d,.out (Ev.of_eq λn=>?_)⟩;simp(disch:=omega)only[bx,qx,mD]
 |k::l,pre,u,ks,d,g,h2=>by
  simp only[gi]at h2;have i:(pre++k::l).getD pre.length 0=k:=mc ..;have t:=d.1;by_cases j:lo<=k∧k<N
  .have m:=d.2 k.toNat (by omega);rw[show((k.toNat:Nat):Int)=k by omega]at m;cases e:u.getD k.toNat J with
   |true=>
    refine .inr ⟨λh=>?_,.ret (Ev.of_eq λn=>?_)⟩
    .have:=(BQ.1 h.2).2.2 k (m.1 e) k dX;exact this rfl
    .simp (disch:=first|omega|simp only[DU];omega)only[bx,qx,i,Ex,ez (show lo<=k∧k<=(N:Int)-1 by omega),e]
   |false=>
    have o:k∉ks:=λh=>by rw[m.2 h]at e;cases e
    have p:(ks++[k]).Nodup:=BQ.2 ⟨g,List.pairwise_singleton _ _,λa v b w=>by
     rw[ko.1 w];exact λh=>o (h▸v)⟩
    have r:Ev (λn=>qx N (pre++k::l) lo n (u,(pre.length:Int),())) (.next (u.set k.toNat W,((pre++[k]).length:Int),())):=by refine Ev.of_eq λn=>?_;simp(disch:=first|omega|simp only[DU];omega)only[bx,qx,i,Ex,ez (show lo<=k∧k<=(N:Int)-1 by omega),e,bO,er,ep,lY]
    have f:ks++[k]++l=ks++k::l:=by simp
    rcases yW hlo l (pre++[k]) _ (ks++[k]) (d.step (by omega) j.2) p (by simp;omega)with⟨⟨a,s⟩,y,b,c⟩|⟨a,c⟩
    .rw[f]at s b;refine .inl ⟨⟨λx hx=>?_,s⟩,y,b,.next r (by simpa only[nS,Ek]using c)⟩;rcases ej.1 hx with hx|hx
     .rw[hx];exact j
     .exact a x hx
    .rw[f]at a;exact .inr ⟨λh=>a ⟨λx hx=>h.1 x (gl _ hx),h.2⟩,.next r (by simpa only[nS,Ek]using c)⟩
  .refine .inr ⟨λh=>j (h.1 k dX),.ret (Ev.of_eq λn=>?_)⟩;simp(disch:=first|omega|simp only[DU];omega)only[bx,qx,i,Ex,eP (show ¬(lo<=k∧k<=(N:Int)-1)by omega)]
def Vg.zero(N:Nat):Vg N (GF N 0) []:=⟨by simp[GF],λi a=>by simp[GF,jO,List.getElem?_replicate,a]⟩
def EK.zero(N:Nat):EK N (GF N J) []:=⟨by simp[GF],λi a=>by simp[GF,jO,List.getElem?_replicate,a]⟩
def mM(N:Nat):Nat->L bp->Prop
 |_,[]=>True
 |i,nd::l=>(∀k∈nd.Kids,(i:Int)+1<=k∧k<N)∧mM N (i+1) l
end
end
section
section
variable {p:av}
def Jr{k:L UInt8}:∀m:L (L UInt8×Bool),((lz (A:=sg.A) Ty.str k W m).map Prod.fst)=if k∈m.map Prod.fst then m.map Prod.fst else m.map Prod.fst++[k]
 |[]=>by simp[lz]
 |q::m=>by
  have b:Fu (A:=sg.A) Ty.str k q.1=decide (k=q.1):=by show fO k q.1=_;by_cases h:k=q.1<;>simp[fO,h]
  unfold lz;rw[b];by_cases h:k=q.1
  .rw[ez h];simp[h]
  .rw[eP h];simp only[cM,jh];rw[Jr m];by_cases a:k∈m.map Prod.fst
   .rw[aY a,aY (gl _ a)]
   .rw[bK a,bK (by simp only[ej,not_or];exact⟨h,a⟩)];rfl
structure HT(l:List (List UInt8))(i:Nat)(m:List (List UInt8×Bool)):Prop where
 mem:∀x,x∈m.map Prod.fst↔x∈l.take i
 le:m.length<=i
 eq:m.length=i↔(l.take i).Nodup
variable {l:List (List UInt8)}
def HT.step{i:Nat}{m:L (L UInt8×Bool)}(h:HT l i m)(e:i<l.length):HT l (i+1) (lz (A:=sg.A) Ty.str (l.getD i []) W m):=by
 have f:=Jr (k:=l.getD i []) m;have b:(lz (A:=sg.A) Ty.str (l.getD i []) W m).length=if l.getD i []∈m.map Prod.fst then m.length else m.length+1:=by have:=oI List.length f;rw[mC]at this;rw[this];split<;>simp
 have g:=vY ([]:L UInt8) e;refine⟨λx=>?_,?_,?_⟩
 .rw[f,<-take_succ [] e,dy,ko];split
  .rename_i c;rw[h.mem];exact⟨.inl,λa=>a.elim id λa=>by rw[a];exact(h.mem _).1 c⟩
  .rw[dy,ko,h.mem]
 .rw[b];have:=h.le;split<;>omega
 .rw[b,g];have:=h.le;by_cases c:l.getD i []∈m.map Prod.fst
  .rw[aY c];exact⟨λa=>by omega,λa=>absurd ((h.mem _).1 c) a.2⟩
  .rw[bK c];have d:l.getD i []∉l.take i:=λa=>c ((h.mem _).2 a);rw[<-h.eq];exact⟨λa=>⟨by omega,d⟩,λa=>by omega⟩
def ajR(hl:l.length<=1000):∃b,Ev (λn=>F149 n (l,())) ((b,()),())∧(b=W↔l.Nodup):=by
 unfold F149
 let M:Nat->L (L UInt8×Bool):=λi=>Nat.rec [] (λi m=>lz (A:=sg.A) Ty.str (l.getD i []) W m) i
 have a:∀i,i<=l.length->HT l i (M i):=by
  intro i
  induction i with|zero=>intro _;rw[show M 0=[]from rfl];exact⟨by simp,by simp,by simp⟩|succ i d=>intro e;exact(d (by omega)).step (by omega)
 have f:=e8 (F:=λn c=>ah (D.bM c.1 (aj l)) (aP (az c.1 l) (Z (LO.next (D.add .i64 c.1 1,lz (A:=sg.A) Ty.str (aT l (ai c.1) []) W c.2.1,())))) (Z (LO.out (R:=Bool×U) (B:=L (L UInt8×Bool)×U) (P:=Any) 0 c))) l.length (λi=>((i:Int),M i,())) 0 (λi e=>Ev.of_eq λn=>by simp(disch:=omega)only[bx,bO,er,ep]<;>rfl) (Ev.of_eq λn=>by simp(disch:=omega)only[bx]<;>rfl);have g:=a l.length (bS _);refine⟨decide ((M l.length).length=l.length),Ev.aM f (λn c=>_) _ (Ev.of_eq λn=>?_),?_⟩
 .rw[cF];simp only[lN,aj]
  congr 3
  exact decide_eq_decide.2 (by omega)
 .rw[IY,g.eq,mE]
def e53{l:L ck}(hl:l.length<=1000)(hs:∀c∈l,c.Name.length<=1000):∃b,Ev (λn=>F53 n (l,())) ((b,()),())∧(b=W↔(∀c∈l,Dj c=W)∧l.length<=20∧(l.map ck.Name).Nodup):=by
 unfold F53;have q:∀(i:Nat)(y:L (L UInt8)×Int×U),(LO.ret () (J,()):LO (L (L UInt8)×Int×U) (Bool×U) U Any)≠.next y:=λ_ _ h=>by cases h
 rcases lu (F:=λn c=>ah (D.bM c.2.1 (aj l)) (aP (az c.2.1 l) (af (F93 n ((aT l (ai c.2.1) bu).1,())) λd=>ah (D.aK d.1.1) (Z (LO.ret () (J,()))) (aP (az c.2.1 l) (af (F52 n ((aT l (ai c.2.1) bu).2,0,3,())) λe=>ah (D.aK e.1.1) (Z (LO.ret () (J,()))) (aP (az c.2.1 l) (aP (dR c.1 [(aT l (ai c.2.1) bu).1]) (Z (LO.next (dj c.1 [(aT l (ai c.2.1) bu).1],D.add .i64 c.2.1 1,()))))))))) (Z (LO.out 0 c)))
  l.length (λi=>((l.take i).map ck.Name,(i:Int),())) (λi=>Dj (l.getD i bu)) (λ_=>(LO.ret () (J,()):LO (L (L UInt8)×Int×U) (Bool×U) U Any)) 0 q (λi k _=>by
   simp(disch:=omega)only[bx];refine Ev.af (e93 (hs _ (cG bu k))) ?_;unfold Dj;cases we (l.getD i bu).Name with
   |false=>exact Ev.of_eq λn=>by simp only[bx,fu]
   |true=>
    refine Ev.of_eq λn=>?_;have f:dR (List.map ck.Name (List.take i l)) [(l.getD i bu).Name]=W:=CQ.2 (by simp;omega);cases p:decide (0<=(l.getD i bu).oF∧(l.getD i bu).oF<=3)with
    |false=>simp only[bx,Ex,p,dF]
    |true=>
     simp(disch:=omega)only[bx,Ex,p,dF,f,bO,er,ep];rw[<-take_succ bu k,vS];rfl) (λ_=>Ev.of_eq λn=>by simp(disch:=omega)only[bx]<;>rfl)with⟨a,r⟩|⟨i,k,a,_,r⟩
 .rw[mE]at r;obtain⟨b,m,o⟩:=e94 (l:=l.map ck.Name) (by rw[mC];exact hl);have g:∀c∈l,Dj c=W:=gz (d:=bu) a;by_cases j:l.length<=20
  .refine ⟨b,Ev.aM r (λn c=>_) _ ?_,by rw[o];exact⟨λh=>⟨g,j,h⟩,λh=>h.2.2⟩⟩;refine Ev.congr (λn=>cF ..) ?_;simp(disch:=omega)only[bx];exact Ev.af m (Ev.pure _)
  .refine ⟨J,Ev.aM r (λn c=>_) _ (Ev.of_eq λn=>?_),(λh=>by cases h),λh=>absurd h.2.1 j⟩;rw[cF];simp(disch:=omega)only[bx]
 .refine ⟨J,Ev.aM r (λn c=>_) _ (Ev.of_eq λn=>rfl),(λh=>by cases h),λh=>?_⟩;rw[h.1 _ (cG bu k)]at a;cases a
structure FP(p:av):Prop where
 nodes:p.aQ.length<=300
 xu:1<=p.dw.length∧p.dw.length<=p.aQ.length
 main:0<=p.Main∧p.Main<p.dw.length
 Of:p.Cons.length<=20
 cons:∀c∈p.Cons,Dj c=W
 names:(p.Cons.map ck.Name).Nodup
 U6:∀nd∈p.aQ,kE p nd=W
 fr:∀k∈p.dw,0<=k∧k<p.aQ.length
 kr:mM p.aQ.length 0 p.aQ
 Ez:(p.dw++p.aQ.flatMap bp.Kids).Nodup
 all:∀i:Nat,i<p.aQ.length->(i:Int)∈p.dw++p.aQ.flatMap bp.Kids
abbrev LK(p:av)(n:Nat)(s:L Int×Int×U):O (LO (L Int×Int×U) (Bool×U) U Any):=
 ah (D.bM s.2.1 (aj p.aQ)) (aP (az s.2.1 p.aQ) (af (iter (Jb p.aQ.length (aT p.aQ (ai s.2.1) aN).3 (D.add .i64 s.2.1 1) n) n (s.1,0,())) λt=>LO.el t (λ_ v=>Z (LO.next (v.1,D.add .i64 s.2.1 1,()))) (λ_ v=>Z (LO.ret () v)) λ_ _=>Y)) (Z (LO.out 0 s))
def SR{l:L bp}(h:∀nd∈l,nd.Kids.length<=10):(l.flatMap bp.Kids).length<=10*l.length:=by
 induction l with|nil=>simp|cons a l b=>have:=h a dX;have:=b λx c=>h x (gl _ c);simp only[Nz,su,gi];omega
def Jo(hs:Small p):∀(g pre:L bp)(o i:L Int),p.aQ=pre++g->Vg p.aQ.length o i->i.length+10*g.length<=100000->
  (mM p.aQ.length pre.length g∧∃l,Vg p.aQ.length l (i++g.flatMap bp.Kids)∧gM (λn c=>LK p n c) (o,(pre.length:Int),()) (.out 0 (l,(p.aQ.length:Int),())))∨
  (¬mM p.aQ.length pre.length g∧gM (λn c=>LK p n c) (o,(pre.length:Int),()) (.ret () (J,())))
 |[],pre,o,i,j,k,m=>by
  have:p.aQ.length=pre.length:=by rw[j];simp
  refine .inl ⟨trivial,o,by simpa using k,?_⟩;rw[this];refine .out (Ev.of_eq λn=>?_);simp(disch:=omega)only[bx,LK,this]
 |nd::g,pre,o,i,j,k,m=>by
  have t:=hs.nodes;have w:p.aQ.length=pre.length+(g.length+1):=by rw[j];simp
  have q:p.aQ.getD pre.length aN=nd:=by rw[j];exact mc ..
  have u:=(hs.U6 nd (by rw[j];simp)).1;simp only[gi]at m;unfold mM;rcases Cb (N:=p.aQ.length) (lo:=(pre.length:Int)+1) (by omega) nd.Kids [] o i k (by omega) (by simp;omega)with⟨a,r,b,c⟩|⟨a,c⟩
  .have s:Ev (λn=>LK p n (o,(pre.length:Int),())) (.next (r,((pre++[nd]).length:Int),())):=by simp(disch:=omega)only[bx,LK,q,bO];refine Ev.aM c (λn c=>_) _ (Ev.of_eq λn=>?_);rw[cF];simp only[bx,er,ep,lY]
   rcases Jo hs g (pre++[nd]) r (i++nd.Kids) (by rw[j];simp) b (by simp;omega)with⟨d,v,e,f⟩|⟨d,f⟩
   .rw[show(pre++[nd]).length=pre.length+1 by simp]at d;exact .inl ⟨⟨a,d⟩,v,by simpa only[Nz,nS]using e,.next s f⟩
   .rw[show(pre++[nd]).length=pre.length+1 by simp]at d;exact .inr ⟨λh=>d h.2,.next s f⟩
  .refine .inr ⟨λh=>a h.1,.ret ?_⟩;simp(disch:=omega)only[bx,LK,q,bO];exact Ev.aM c (λn c=>_) _ (Ev.of_eq λn=>rfl)
abbrev Jp(p:av)(n:Nat)(j:L Bool×Int×U):O (LO (L Bool×Int×U) (Bool×U) U Any):=
 ah (D.bM j.2.1 (aj p.aQ)) (aP (az j.2.1 p.aQ) (af (F54 n (p,aT p.aQ (ai j.2.1) aN,())) λk=>ah (D.aK k.1.1) (Z (LO.ret () (J,()))) (af (iter (qx p.aQ.length (aT p.aQ (ai j.2.1) aN).3 (D.add .i64 j.2.1 1) n) n (j.1,0,())) λl=>LO.el l (λ_ o=>Z (LO.next (o.1,D.add .i64 j.2.1 1,()))) (λ_ o=>Z (LO.ret () o)) λ_ _=>Y))) (Z (LO.out 0 j))
def Ft(hs:Small p):∀(g pre:L bp)(u:L Bool)(i:L Int),p.aQ=pre++g->EK p.aQ.length u i->i.Nodup->
  (((∀nd∈g,kE p nd=W)∧mM p.aQ.length pre.length g∧(i++g.flatMap bp.Kids).Nodup)∧∃w,EK p.aQ.length w (i++g.flatMap bp.Kids)∧gM (λn c=>Jp p n c) (u,(pre.length:Int),()) (.out 0 (w,(p.aQ.length:Int),())))∨
  (¬((∀nd∈g,kE p nd=W)∧mM p.aQ.length pre.length g∧(i++g.flatMap bp.Kids).Nodup)∧gM (λn c=>Jp p n c) (u,(pre.length:Int),()) (.ret () (J,())))
 |[],pre,u,i,m,r,s=>by
  have:p.aQ.length=pre.length:=by rw[m];simp
  refine .inl ⟨⟨by simp,trivial,by simpa using s⟩,u,by simpa using r,?_⟩;rw[this];refine .out (Ev.of_eq λn=>?_);simp(disch:=omega)only[bx,Jp,this]
 |nd::g,pre,u,i,m,r,s=>by
  have z:=hs.nodes;have G:p.aQ.length=pre.length+(g.length+1):=by rw[m];simp
  have A:p.aQ.getD pre.length aN=nd:=by rw[m];exact mc ..
  obtain⟨B,t,v⟩:=hs.U6 nd (by rw[m];simp);have C:=e54 hs v t;unfold mM;have j:∀{o:LO (L Bool×Int×U) (Bool×U) U Any},Ev (λn=>ah (D.aK (kE p nd)) (Z (LO.ret () (J,()))) (af (iter (qx p.aQ.length nd.Kids ((pre.length:Int)+1) n) n (u,0,())) λl=>LO.el l (λ_ o=>Z (LO.next (o.1,(pre.length:Int)+1,()))) (λ_ o=>Z (LO.ret () o)) λ_ _=>Y)) o->Ev (λn=>Jp p n (u,(pre.length:Int),())) o:=by intro o h;simp(disch:=omega)only[bx,Jp,A,bO];refine Ev.af C ?_;rw[show(λn=>ah (D.aK (kE p nd)) (Z (LO.ret () (J,()))) (af (iter (qx p.aQ.length nd.Kids ((pre.length:Int)+1) n) n (u,0,())) λl=>LO.el l (λ_ o=>Z (LO.next (o.1,(pre.length:Int)+1,()))) (λ_ o=>Z (LO.ret () o)) λ_ _=>Y))=_ from rfl]at h;simpa only[bx]using h
  cases k:kE p nd with
  |false=>
   refine .inr ⟨λh=>?_,.ret (j ?_)⟩
   .have:=h.1 nd dX;rw[k]at this;cases this
   .rw[k];exact Ev.of_eq λn=>rfl
  |true=>
   rw[k]at j;rcases yW (N:=p.aQ.length) (lo:=(pre.length:Int)+1) (by omega) nd.Kids [] u i r s (by simp;omega)with⟨⟨a,E⟩,y,b,c⟩|⟨a,c⟩
   .have hx:Ev (λn=>Jp p n (u,(pre.length:Int),())) (.next (y,((pre++[nd]).length:Int),())):=by refine j ?_;simp only[bx];refine Ev.aM c (λn c=>_) _ (Ev.of_eq λn=>?_);rw[cF];simp only[bx,er,ep,lY]
    have q:i++nd.Kids++g.flatMap bp.Kids=i++(nd::g).flatMap bp.Kids:=by simp
    rcases Ft hs g (pre++[nd]) y (i++nd.Kids) (by rw[m];simp) b E with⟨⟨d1,d2,d3⟩,F,e,f⟩|⟨d,f⟩
    .rw[show(pre++[nd]).length=pre.length+1 by simp]at d2;rw[q]at d3 e;refine .inl ⟨⟨λx hx=>?_,⟨a,d2⟩,d3⟩,F,e,.next hx f⟩;rcases ej.1 hx with hx|hx
     .rw[hx];exact k
     .exact d1 x hx
    .rw[show(pre++[nd]).length=pre.length+1 by simp,q]at d;exact .inr ⟨λh=>d ⟨λx hx=>h.1 x (gl _ hx),h.2.1.2,h.2.2⟩,.next hx f⟩
   .refine .inr ⟨λh=>a ⟨h.2.1.1,?_⟩,.ret (j ?_)⟩
    .have:=h.2.2;rw[Nz,<-nS]at this;exact(BQ.1 this).1
    .simp only[bx];exact Ev.aM c (λn c=>_) _ (Ev.of_eq λn=>rfl)
end
end
section
section
variable {p:av}
def sx{Q:Prop}{F:Nat->O ((Bool×U)×U)}(hn:¬Q)(h:Ev F ((J,()),())):∃b,Ev F ((b,()),())∧(b=W↔Q):=⟨J,h,λh=>(by cases h),λh=>absurd h hn⟩
variable {N:Nat}
def FK{c:L Int}(f:∀k∈c,0<=k∧k<N):(∀i:Nat,i<N->c.count (i:Int)=1)↔c.Nodup∧∀i:Nat,i<N->(i:Int)∈c:=by
 constructor
 .intro h;refine⟨List.nodup_iff_count.2 λa=>?_,λi d=>List.count_pos_iff.1 (by rw[h i d];omega)⟩;by_cases e:a∈c
  .have:=f a e;have:=h a.toNat (by omega);rw[show((a.toNat:Nat):Int)=a by omega]at this;omega
  .rw[List.count_eq_zero.2 e];omega
 .rintro ⟨h1,h2⟩ i d
  have a:=List.nodup_iff_count.1 h1 (i:Int);have b:=List.count_pos_iff.2 (h2 i d);omega
def Cy{N:Nat}:∀{l:L bp}{i:Nat},mM N i l->∀k∈l.flatMap bp.Kids,0<=k∧k<N
 |[],_,_,k,h=>by simp at h
 |nd::l,i,a,k,h=>by
  rw[Nz]at h;rcases dy.1 h with h|h
  .have:=a.1 k h;omega
  .exact Cy a.2 k h
def ad3(hs:Small p):∃b,Ev (λn=>Ky n (⟨p⟩,())) ((b,()),())∧(b=W↔(∀k∈p.dw,0<=k∧k<p.aQ.length)∧mM p.aQ.length 0 p.aQ∧(p.dw++p.aQ.flatMap bp.Kids).Nodup∧∀i:Nat,i<p.aQ.length->(i:Int)∈p.dw++p.aQ.flatMap bp.Kids):=by
 have h1:=hs.nodes;have h2:=hs.xu;have G:D.eD .i64 (aj p.aQ) 1=(p.aQ.length:Int)-1:=ff (a:=(p.aQ.length:Int)) (by omega) (by omega);have mk:VW (aj p.aQ)=W:=by unfold VW aj;rw[ez (by omega),ez (by omega)];rfl
 have H:ai (aj p.aQ)=p.aQ.length:=rfl;have start:∀{r:(Bool×U)×U},Ev (λn=>af (iter (Jb p.aQ.length p.dw 0 n) n (GF p.aQ.length 0,0,())) λq=>LO.el q (λ_ r=>af (iter (LK p n) n (r.1,0,())) λs=>LO.el s (λ_ u=>af (iter (λv:Int×U=>ah (D.bM v.1 (aj u.1)) (aP (az v.1 u.1) (aP (ef (ai v.1) u.1) (af (F155 n (aT u.1 (ai v.1) 0,())) λw=>ah (D.aK w.1.1) (Z (LO.ret (B:=U) (P:=Any) () v)) (Z (LO.next (D.add .i64 v.1 1,())))))) (Z (LO.out 0 v))) n (0,())) λv=>LO.el v (λ_ _=>Z ((D.aK J,()),())) (λ_ x=>Z ((D.aK (D.eu 0 x.1),()),())) λ_ _=>Y) (λ_ u=>Z (u,())) λ_ _=>Y) (λ_ r=>Z (r,())) λ_ _=>Y) r->Ev (λn=>Ky n (⟨p⟩,())) r:=by intro r h;refine Ev.congr (λn=>?_) h;unfold Ky Ah OI Kz;simp only[mk,G,H];rw[HJ,FM,HI rfl]
 rcases Cb (N:=p.aQ.length) (lo:=0) (by omega) p.dw [] _ [] (Vg.zero _) (by simp;omega) (by simp;omega)with⟨a,I,b,c⟩|⟨a,c⟩
 .rcases Jo hs p.aQ [] I _ rfl b (by simp;omega)with⟨d,m,e,f⟩|⟨d,f⟩
  .have K:=SR (l:=p.aQ) λnd A=>(hs.U6 nd A).1;have j:∀k∈p.dw++p.aQ.flatMap bp.Kids,0<=k∧k<p.aQ.length:=λk o=>by
    rcases dy.1 o with o|o
    .exact a k o
    .exact Cy d k o
   have z:=e;rw[Ei]at z;have M:∀(i:Nat)(y:Int×U),(LO.ret () ((i:Int),()):LO (Int×U) (Int×U) U Any)≠.next y:=λ_ _ h=>by cases h
   have Q:=z.1;rcases dZ (F:=λn v=>ah (D.bM v.1 (aj m)) (aP (az v.1 m) (aP (ef (ai v.1) m) (af (F155 n (aT m (ai v.1) 0,())) λw=>ah (D.aK w.1.1) (Z (LO.ret () v)) (Z (LO.next (D.add .i64 v.1 1,())))))) (Z (LO.out 0 v))) m.length (λi=>decide (m.getD i 0=1)) (λi=>(LO.ret () ((i:Int),()):LO (Int×U) (Int×U) U Any)) M (λi C=>Ev.of_eq λn=>by
     unfold F155;cases R:decide (m.getD i 0=1)<;>(have E:D.aH (m.getD i 0) 1=_:=(lN ..).trans R)<;>simp(disch:=omega)only[bx,E,bO,er,ep]) (λn=>by simp(disch:=omega)only[bx]<;>rfl)with⟨g,r⟩|⟨i,C,g,r⟩
   .have t:∀i:Nat,i<p.aQ.length->(p.dw++p.aQ.flatMap bp.Kids).count (i:Int)=1:=λi C=>by have h3:=Ar (g i (by omega));have h4:=z.2 i C;omega
    have:=(FK j).1 t;refine⟨W,start (Ev.aM c (λn q=>_) _ ?_),λ_=>⟨a,d,this.1,this.2⟩,λ_=>rfl⟩;refine Ev.congr (λn=>cF ..) (Ev.aM f (λn q=>_) _ ?_);refine Ev.congr (λn=>cF ..) (Ev.aM r (λn q=>_) _ (Ev.of_eq λn=>rfl))
   .refine sx (λh=>?_) (start (Ev.aM c (λn q=>_) _ ?_))
    .have h3:=(FK j).2 ⟨h.2.2.1,h.2.2.2⟩ i (by omega);have h4:=z.2 i (by omega);have h5:=of_decide_eq_false g;omega
    .refine Ev.congr (λn=>cF ..) (Ev.aM f (λn q=>_) _ ?_);refine Ev.congr (λn=>cF ..) (Ev.aM r (λn q=>_) _ (Ev.of_eq λn=>?_));rw[rH];simp(disch:=omega)only[bx]<;>rfl
  .refine sx (λh=>d h.2.1) (start (Ev.aM c (λn q=>_) _ ?_));exact Ev.congr (λn=>cF ..) (Ev.aM f (λn q=>_) _ (Ev.of_eq λn=>rfl))
 .exact sx (λh=>a h.1) (start (Ev.aM c (λn q=>_) _ (Ev.of_eq λn=>rfl)))
def ad2(hs:Small p)(b:Bool):∃e,Ev (λn=>OH n (⟨p⟩,()) ((b,()),())) ((e,()),())∧(e=W↔b=W∧(∀nd∈p.aQ,kE p nd=W)∧(∀k∈p.dw,0<=k∧k<p.aQ.length)∧mM p.aQ.length 0 p.aQ∧(p.dw++p.aQ.flatMap bp.Kids).Nodup∧∀i:Nat,i<p.aQ.length->(i:Int)∈p.dw++p.aQ.flatMap bp.Kids):=by
 have h1:=hs.nodes;unfold OH;cases b with
 |false=>exact sx (λh=>by cases h.1) (Ev.of_eq λn=>rfl)
 |true=>
  have o:∀(i:Nat)(y:Int×U),(LO.ret () ((i:Int),()):LO (Int×U) (Int×U) U Any)≠.next y:=λ_ _ h=>by cases h
  have s:∀{Q:Prop}{G:Nat->O ((Bool×U)×U)},(∃b,Ev G ((b,()),())∧(b=W↔Q))->∃b,Ev (λn=>ah (D.aK W) (kX n) (G n)) ((b,()),())∧(b=W↔Q):=λh=>h;refine s ?_;rcases dZ (F:=λn l=>ah (D.bM l.1 (aj p.aQ)) (aP (az l.1 p.aQ) (af (F153 n (⟨p⟩,aT p.aQ (ai l.1) aN,())) λm=>ah (D.aK m.1.1) (Z (LO.ret () l)) (Z (LO.next (D.add .i64 l.1 1,()))))) (Z (LO.out 0 l))) p.aQ.length (λi=>kE p (p.aQ.getD i aN)) (λi=>(LO.ret () ((i:Int),()):LO (Int×U) (Int×U) U Any)) o (λi f=>by
    obtain⟨_,t,u⟩:=hs.U6 _ (cG aN f);simp(disch:=omega)only[bx];refine Ev.af (ajQ hs u t) (Ev.of_eq λn=>?_);cases kE p (p.aQ.getD i aN)<;>simp(disch:=omega)only[bx,bO,er,ep]) (λn=>by simp(disch:=omega)only[bx]<;>rfl)with⟨a,r⟩|⟨i,f,a,r⟩
  .obtain ⟨e,g,j⟩:=ad3 hs;have c:∀nd∈p.aQ,kE p nd=W:=gz (d:=aN) a;refine⟨e,Ev.aM r (λn q=>_) _ g,?_⟩;rw[j];exact⟨λh=>⟨rfl,c,h⟩,λh=>h.2.2⟩
  .refine sx (λh=>?_) (Ev.aM r (λn q=>_) _ (Ev.of_eq λn=>?_))
   .have:=h.2.1 _ (cG aN f);rw[a]at this;cases this
   .rw[rH];unfold kX;simp(disch:=omega)only[bx]
def e87(hs:Small p):∃b,Ev (λn=>F87 n (⟨p⟩,())) ((b,()),())∧(b=W↔FP p):=by
 have h1:=hs.nodes;have h2:=hs.xu;have h3:=hs.cons;unfold F87;by_cases K:300<p.aQ.length
 .exact sx (λh=>by have:=h.nodes;omega) (Ev.of_eq λn=>by unfold kX;simp(disch:=omega)only[bx])
 by_cases M:p.dw.length<1
 .exact sx (λh=>by have:=h.xu;omega) (Ev.of_eq λn=>by unfold kX;simp(disch:=omega)only[bx])
 by_cases N:p.aQ.length<p.dw.length
 .exact sx (λh=>by have:=h.xu;omega) (Ev.of_eq λn=>by unfold kX;simp(disch:=omega)only[bx])
 by_cases Q:20<p.Cons.length
 .exact sx (λh=>by have:=h.Of;omega) (Ev.of_eq λn=>by unfold kX;simp(disch:=omega)only[bx])
 by_cases v:0<=p.Main∧p.Main<p.dw.length
 .have m:=ez (show 0<=p.Main∧p.Main<=(p.dw.length:Int)-1 by omega);have x:∀(i:Nat)(y:Int×U),(LO.ret () ((i:Int),()):LO (Int×U) (Int×U) U Any)≠.next y:=λ_ _ h=>by cases h
  simp(disch:=omega)only[bx,ff,uJ,m];rcases dZ (F:=λn d=>ah (D.bM d.1 (p.Cons.length:Int)) (aP (az d.1 p.Cons) (af (F148 n (p.Cons.getD d.1.toNat bu,())) λe=>ah e.1.1 (Z (LO.next (D.add .i64 d.1 1,()))) (Z (LO.ret () d)))) (Z (LO.out 0 d))) p.Cons.length (λi=>Dj (p.Cons.getD i bu)) (λi=>(LO.ret () ((i:Int),()):LO (Int×U) (Int×U) U Any)) x (λi f=>by
    have S:=hs.names _ (cG bu f);simp(disch:=omega)only[bx];refine Ev.af (ajS (by omega)) (Ev.of_eq λn=>?_);cases Dj (p.Cons.getD i bu)<;>simp(disch:=omega)only[bx,bO,er,ep]) (λn=>by simp(disch:=omega)only[bx])with⟨a,r⟩|⟨i,f,a,r⟩
  .have j:∀c∈p.Cons,Dj c=W:=gz (d:=bu) a;obtain⟨b,o,s⟩:=ajR (l:=p.Cons.map ck.Name) (by rw[mC];omega);obtain⟨z,t,u⟩:=ad2 hs b;refine⟨z,Ev.aM r (λn q=>_) _ ?_,?_⟩
   .rw[show(λn=>LO.el (LO.out 0 ((p.Cons.length:Int),()):LO (Int×U) (Int×U) U Any) _ _ _)=_ from rfl];refine Ev.congr (g:=λn=>OG n (⟨p⟩,())) (λn=>rfl) ?_;unfold OG Ye;have w:=e8 (F:=λn h=>ah (D.bM h.2.1 (aj p.Cons)) (aP (az h.2.1 p.Cons) (af (F151 n (aT p.Cons (ai h.2.1) bu,())) λi=>aP (dR h.1 [i.1.1]) (Z (LO.next (dj h.1 [i.1.1],D.add .i64 h.2.1 1,()))))) (Z (LO.out (R:=L (L UInt8)×U) (B:=U) (P:=Any) 0 h))) p.Cons.length (λi=>((p.Cons.take i).map ck.Name,(i:Int),())) 0 (λi f=>Ev.of_eq λn=>by
     unfold F151;have k:dR (List.map ck.Name (List.take i p.Cons)) [(p.Cons.getD i bu).Name]=W:=CQ.2 (by simp;omega);simp(disch:=omega)only[bx,k,bO,er,ep];rw[<-take_succ bu f,vS];rfl) (Ev.of_eq λn=>by simp(disch:=omega)only[bx]<;>rfl)
    rw[mE]at w;refine Ev.aM w (λn q=>_) _ ?_;exact Ev.af o t
   .rw[u,s];exact⟨λ⟨A,C,E,G,H,I⟩=>⟨by omega,by omega,v,by omega,j,A,C,E,G,H,I⟩,λh=>⟨h.names,h.U6,h.fr,h.kr,h.Ez,h.all⟩⟩
  .refine sx (λh=>?_) (Ev.aM r (λn q=>_) _ (Ev.of_eq λn=>?_))
   .have:=h.cons _ (cG bu f);rw[a]at this;cases this
   .rw[rH];unfold kX;simp(disch:=omega)only[bx]
 .have m:=eP (show ¬(0<=p.Main∧p.Main<=(p.dw.length:Int)-1)by omega);exact sx (λh=>v h.main) (Ev.of_eq λn=>by unfold kX;simp(disch:=omega)only[bx,ff,uJ,m])
end
end
section
section
variable {p:av}
def e15(hs:Small p):∃b,Ev (λn=>F15 n (p,())) ((b,()),())∧(b=W↔FP p):=by
 have h1:=hs.nodes;have h2:=hs.xu;have h3:=hs.cons;have I:D.eD .i64 (aj p.aQ) 1=(p.aQ.length:Int)-1:=ff (a:=(p.aQ.length:Int)) (by omega) (by omega);have M:D.eD .i64 (aj p.dw) 1=(p.dw.length:Int)-1:=ff (a:=(p.dw.length:Int)) (by omega) (by omega);have mk:VW (aj p.aQ)=W:=by unfold VW aj;rw[ez (by omega),ez (by omega)];rfl
 have R:ai (aj p.aQ)=p.aQ.length:=rfl;have s:aj p.aQ=(p.aQ.length:Int):=rfl;have v:aj p.dw=(p.dw.length:Int):=rfl;unfold F15 Am;simp only[mk,I,M,R];by_cases c1:300<p.aQ.length
 .exact sx (λh=>by have:=h.nodes;omega) (Ev.of_eq λn=>by simp(disch:=omega)only[bx])
 by_cases E:1<=p.dw.length∧p.dw.length<=p.aQ.length
 .have d2:=ez (show 1<=aj p.dw∧aj p.dw<=aj p.aQ by rw[s,v];omega);by_cases H:0<=p.Main∧p.Main<p.dw.length
  .have d5:=ez (show 0<=p.Main∧p.Main<=(p.dw.length:Int)-1 by omega);obtain⟨b,A,w⟩:=e53 (l:=p.Cons) (by omega) (λc C=>by have:=hs.names c C;omega);have S:∀{Q:Prop}{G:Nat->O ((Bool×U)×U)}{K:Nat->((Bool×U)×U)->O ((Bool×U)×U)},(∃t,Ev (λn=>K n ((b,()),())) ((t,()),())∧(t=W↔Q))->(∀n,G n=af (F53 n (p.Cons,())) (K n))->∃t,Ev G ((t,()),())∧(t=W↔Q):=by intro Q G K ⟨t,x,y⟩ h;exact⟨t,Ev.congr h (Ev.af A x),y⟩
   refine S ?_ (λn=>by
    rw[AS (by rw[s];omega),Ex,d2,FR,dz,Br,Ex,d5,FR,dz,Br])
   simp only[];cases b with
   |false=>exact sx (λh=>by have:=w.2 ⟨h.cons,h.Of,h.names⟩;cases this) (Ev.of_eq λn=>rfl)
   |true=>
    obtain⟨X,k2,k3⟩:=w.1 rfl;have s2:∀{Q:Prop}{G:Nat->O ((Bool×U)×U)},(∃b,Ev G ((b,()),())∧(b=W↔Q))->∃b,Ev (λn=>ah (D.aK W) (Z ((J,()),())) (aP (AI W (kT (aj p.aQ) (aj p.aQ))) (G n))) ((b,()),())∧(b=W↔Q):=by intro Q G h;obtain⟨b,x,y⟩:=h;exact⟨b,Ev.congr (λn=>by rw[dz,Br,HJ,FM,HI rfl]) x,y⟩
    refine s2 ?_;have fF:∀n c,qx p.aQ.length p.dw 0 n c=ah (D.bM c.2.1 (aj p.dw)) (aP (az c.2.1 p.dw) (af (F52 n (aT p.dw (ai c.2.1) 0,0,(p.aQ.length:Int)-1,())) λh=>ah (D.aK h.1.1) (Z (LO.ret () (J,()))) (aP (az c.2.1 p.dw) (aP (az (aT p.dw (ai c.2.1) 0) c.1) (aP (ef (ai (aT p.dw (ai c.2.1) 0)) c.1) (ah (aT c.1 (ai (aT p.dw (ai c.2.1) 0)) J) (Z (LO.ret () (J,()))) (aP (az c.2.1 p.dw) (aP (az (aT p.dw (ai c.2.1) 0) c.1) (aP (ef (ai (aT p.dw (ai c.2.1) 0)) c.1) (Z (LO.next (jP c.1 (ai (aT p.dw (ai c.2.1) 0)) W,D.add .i64 c.2.1 1,())))))))))))) (Z (LO.out 0 c)):=by intro n c;unfold qx;cases hz:az c.2.1 p.dw with|false=>rfl|true=>simp only[FM]
    have fK:∀n j,Jp p n j=ah (D.bM j.2.1 (aj p.aQ)) (aP (az j.2.1 p.aQ) (af (F54 n (p,aT p.aQ (ai j.2.1) aN,())) λk=>ah (D.aK k.1.1) (Z (LO.ret () (J,()))) (af (iter (λl:L Bool×Int×U=>aP (az j.2.1 p.aQ) (ah (D.bM l.2.1 (aj (aT p.aQ (ai j.2.1) aN).3)) (aP (az j.2.1 p.aQ) (aP (az l.2.1 (aT p.aQ (ai j.2.1) aN).3) (af (F52 n (aT (aT p.aQ (ai j.2.1) aN).3 (ai l.2.1) 0,D.add .i64 j.2.1 1,(p.aQ.length:Int)-1,())) λm=>ah (D.aK m.1.1) (Z (LO.ret () (J,()))) (aP (az (aT (aT p.aQ (ai j.2.1) aN).3 (ai l.2.1) 0) l.1) (aP (ef (ai (aT (aT p.aQ (ai j.2.1) aN).3 (ai l.2.1) 0)) l.1) (ah (aT l.1 (ai (aT (aT p.aQ (ai j.2.1) aN).3 (ai l.2.1) 0)) J) (Z (LO.ret () (J,()))) (aP (az (aT (aT p.aQ (ai j.2.1) aN).3 (ai l.2.1) 0) l.1) (aP (ef (ai (aT (aT p.aQ (ai j.2.1) aN).3 (ai l.2.1) 0)) l.1) (Z (LO.next (jP l.1 (ai (aT (aT p.aQ (ai j.2.1) aN).3 (ai l.2.1) 0)) W,D.add .i64 l.2.1 1,()))))))))))) (Z (LO.out (P:=Any) (B:=U) 0 l)))) n (j.1,0,())) λl=>LO.el l (λ_ o=>Z (LO.next (o.1,D.add .i64 j.2.1 1,()))) (λ_ o=>Z (LO.ret () o)) λ_ _=>Y))) (Z (LO.out 0 j)):=by intro n j;unfold Jp qx;cases hz:az j.2.1 p.aQ with|false=>rfl|true=>simp only[FM]
    simp only[<-fF,<-fK];rcases yW (N:=p.aQ.length) (lo:=0) (by omega) p.dw [] _ [] (EK.zero _) (by simp) (by simp;omega)with⟨⟨a,a'⟩,u1,b,c⟩|⟨a,c⟩
    .rcases Ft hs p.aQ [] u1 _ rfl b a' with⟨⟨d1,d2,d3⟩,z,e,f⟩|⟨d,f⟩
     .have hb:∀(i:Nat)(y:Int×U),(LO.ret () (J,()):LO (Int×U) (Bool×U) U Any)≠.next y:=λ_ _ h=>by cases h
      have hul:=e.1;rcases dZ (F:=λn m=>ah (D.bM m.1 (aj p.aQ)) (aP (az m.1 z) (aP (ef (ai m.1) z) (ah (D.aK (aT z (ai m.1) J)) (Z (LO.ret () (J,()))) (Z (LO.next (D.add .i64 m.1 1,())))))) (Z (LO.out 0 m))) p.aQ.length (λi=>z.getD i J) (λ_=>(LO.ret () (J,()):LO (Int×U) (Bool×U) U Any)) hb (λi u=>Ev.of_eq λn=>by
        cases C:z.getD i J<;>simp(disch:=omega)only[bx,C,bO,er,ep]) (λn=>by simp(disch:=omega)only[bx]<;>rfl)with⟨g,r⟩|⟨i,u,g,r⟩
      .rw[Ei]at d3 e;refine⟨W,Ev.aM c (λn q=>_) _ ?_,λ_=>⟨by omega,E,H,k2,X,k3,d1,a,d2,d3,λi u=>(e.2 i u).1 (g i u)⟩,λ_=>rfl⟩;refine Ev.congr (λn=>cF ..) (Ev.aM f (λn q=>_) _ ?_);refine Ev.congr (λn=>cF ..) (Ev.aM r (λn q=>_) _ (Ev.of_eq λn=>rfl))
      .rw[Ei]at e;refine sx (λh=>?_) (Ev.aM c (λn q=>_) _ ?_)
       .have:=(e.2 i u).2 (h.all i u);rw[g]at this;cases this
       .refine Ev.congr (λn=>cF ..) (Ev.aM f (λn q=>_) _ ?_);refine Ev.congr (λn=>cF ..) (Ev.aM r (λn q=>_) _ (Ev.of_eq λn=>rfl))
     .rw[Ei]at d;refine sx (λh=>d ⟨h.U6,h.kr,h.Ez⟩) (Ev.aM c (λn q=>_) _ ?_);exact Ev.congr (λn=>cF ..) (Ev.aM f (λn q=>_) _ (Ev.of_eq λn=>rfl))
    .refine sx (λh=>a ⟨h.fr,?_⟩) (Ev.aM c (λn q=>_) _ (Ev.of_eq λn=>rfl));rw[Ei];exact(BQ.1 h.Ez).1
  .have d5:=eP (show ¬(0<=p.Main∧p.Main<=(p.dw.length:Int)-1)by omega);refine sx (λh=>H h.main) (Ev.of_eq λn=>?_);rw[AS (by rw[s];omega),Ex,d2,FR,dz,Br,Ex,d5,FR,dz,Bs]
 .have d2:=eP (show ¬(1<=aj p.dw∧aj p.dw<=aj p.aQ)by rw[s,v];omega);refine sx (λh=>E h.xu) (Ev.of_eq λn=>?_);rw[AS (by rw[s];omega),Ex,d2,FR,dz,Bs]
def e46{b:Bool}(h:Ev (λn=>F87 n (⟨p⟩,())) ((b,()),())):Ev (λn=>F46 n (p,())) ((if b=W then 0 else 2,()),()):=by unfold F46;refine Ev.af h (Ev.of_eq λn=>?_);cases b<;>rfl
def FP.ok(h:FP p):DH p:=by
 have u:∀{l:L bp}{i:Nat},mM p.aQ.length i l->∀nd∈l,∀k∈nd.Kids,0<=k∧k<p.aQ.length:=by
  intro l
  induction l with
  |nil=>intro i _ nd b;cases b
  |cons a l v=>
   intro i n nd b k m;rcases ej.1 b with h|h
   .subst h;have:=n.1 k m;omega
   .exact v n.2 nd h k m
 refine⟨h.nodes,λnd b=>?_,h.fr,by have:=h.xu;have:=h.nodes;omega,h.main,λc w=>?_⟩
 .have o:=h.U6 nd b;unfold kE at o;simp only[dI]at o;obtain⟨⟨⟨B,d⟩,g⟩,z⟩:=o;have r:∀q∈nd.cN,pw q<=12∧pf q=W:=λq A=>by have:=dU.1 z q A;unfold qB at this;simp only[dI,kj]at this;exact⟨this.1,BY q this.2⟩
  unfold Jq at d;unfold Aw at g;have j:1<=nd.Op∧nd.Op<=28:=by
   by_cases e:nd.Op=15
   .omega
   .rw[bK e]at d;by_cases f:nd.Op=14
    .omega
    .rw[bK f]at d;by_cases t:1<=nd.Op∧nd.Op<=28
     .exact t
     .rw[bK t]at d;cases d
  refine⟨j.1,j.2,λk n=>u h.kr nd b k n,λf e=>?_,λf=>?_,λe=>?_,λh1=>?_,λh2=>?_,λh4=>?_,λs=>?_,r⟩
  .rw[bK e,bK f,aY j]at d;have:=Ar d;omega
  .rw[bK (by omega),aY f,dI]at d;have x:=Ar d.1;have y:=Ar d.2;exact⟨x.1,x.2,y⟩
  .rw[aY e,dI]at d;have x:=Ar d.1;have y:=Ar d.2;omega
  .rw[aY h1]at g;exact g
  .rw[bK (by omega),aY h2]at g;have:=Ar g;omega
  .rw[bK (by omega),bK (by omega),bK (by omega),aY h4]at g;exact Ar g
  .rw[bK (by omega),bK (by omega),aY s]at g;exact Ar g
 .have:=h.cons c w;unfold Dj at this;simp only[dI,kj]at this;exact this.2
end
end
section
set_option maxRecDepth 1000000
def agp:F13 300 ()=Z ((W,()),()):=by kernel_rfl
def kn:Fn [] K4 J:=λ_=>Z ((W,()),())
abbrev cK:j0 sg:=⟨[],K4,J,kn⟩
def CK:bw prog 13 cK:=by
 have h:=(k13 300).h;have e:F13 300=kn:=funext λx=>by cases x;exact agp
 have h:bw prog 13 (⟨[],K4,J,F13 300⟩:j0 sg):=h;rw[e]at h;exact h
end
section
section
variable {p:av}
def yP(l:L Int):Bool:=decide (l.length<=50)&&l.all kS
variable {l:List Int}
def e47(hl:l.length<=60):Ev (λn=>F47 n (l,())) ((yP l,()),()):=by
 unfold F47 yP;by_cases h:l.length<=50
 .rw[ez h,dF];simp(disch:=omega)only[bx];have e:∀(i:Nat)(y:Int×U),(LO.ret () ((i:Int),()):LO (Int×U) (Int×U) U Any)≠.next y:=λ_ _ h=>by cases h
  rcases dZ (F:=λn c=>ah (D.bM c.1 (l.length:Int)) (aP (az c.1 l) (af (F69 n (l.getD c.1.toNat 0,(-1000000000),1000000000,())) λd=>ah d.1.1 (Z (LO.next (D.add .i64 c.1 1,()))) (Z (LO.ret () c)))) (Z (LO.out 0 c))) l.length (λi=>kS (l.getD i 0)) (λi=>(LO.ret () ((i:Int),()):LO (Int×U) (Int×U) U Any)) e (λi b=>Ev.of_eq λn=>by
    simp(disch:=omega)only[bx,e69];cases kS (l.getD i 0)<;>simp(disch:=omega)only[bx,bO,er,ep]) (λn=>by simp(disch:=omega)only[bx])with⟨a,r⟩|⟨i,b,a,r⟩
  .rw[qD (d:=(0:Int)) a];exact Ev.aM r (λn c=>_) _ (Ev.of_eq λn=>rfl)
  .rw[jo (d:=(0:Int)) b a];refine Ev.aM r (λn c=>_) _ (Ev.of_eq λn=>?_);rw[rH];simp(disch:=omega)only[bx]<;>rfl
 .rw[eP h,fu];exact Ev.of_eq λn=>by simp(disch:=omega)only[bx]
def e16(hl:l.length<=60):Ev (λn=>F16 n (l,50,())) ((yP l,()),()):=by
 unfold F16 yP;have e:∀(i:Nat)(y:Int×U),(LO.ret () (J,()):LO (Int×U) (Bool×U) U Any)≠.next y:=λ_ _ h=>by cases h
 have step:∀i,i<l.length->i<=50->Ev (λn=>ah (D.bM (i:Int) (aj l)) (ah (D.eu (i:Int) 50) (aP (az (i:Int) l) (af (F55 n (aT l (ai (i:Int)) 0,(-1000000000),1000000000,())) λd=>ah (D.aK d.1.1) (Z (LO.ret () (J,()))) (Z (LO.next (D.add .i64 (i:Int) 1,()))))) (Z (LO.out 0 ((i:Int),())))) (Z (LO.out 0 ((i:Int),())))) (bif kS (l.getD i 0)then .next (((i+1:Nat):Int),())else(LO.ret () (J,()):LO (Int×U) (Bool×U) U Any)):=by intro i b f;refine Ev.of_eq λn=>?_;simp(disch:=omega)only[bx,e55];cases kS (l.getD i 0)<;>simp(disch:=omega)only[bx,bO,er,ep]
 by_cases h:l.length<=50
 .rw[ez h,dF];rcases dZ (F:=λn c=>ah (D.bM c.1 (aj l)) (ah (D.eu c.1 50) (aP (az c.1 l) (af (F55 n (aT l (ai c.1) 0,(-1000000000),1000000000,())) λd=>ah (D.aK d.1.1) (Z (LO.ret () (J,()))) (Z (LO.next (D.add .i64 c.1 1,()))))) (Z (LO.out 0 c))) (Z (LO.out 0 c))) l.length (λi=>kS (l.getD i 0)) (λi=>(LO.ret () (J,()):LO (Int×U) (Bool×U) U Any)) e (λi b=>step i b (by omega)) (λn=>by simp(disch:=omega)only[bx]<;>rfl)with⟨a,r⟩|⟨i,b,a,r⟩
  .rw[qD (d:=(0:Int)) a];refine Ev.aM r (λn c=>_) _ (Ev.of_eq λn=>?_);rw[cF];show Z ((D.eu (l.length:Int) 50,()),())=_;rw[V7 (by omega)]
  .rw[jo (d:=(0:Int)) b a];exact Ev.aM r (λn c=>_) _ (Ev.of_eq λn=>rfl)
 .rw[eP h,fu];rcases lu (F:=λn c=>ah (D.bM c.1 (aj l)) (ah (D.eu c.1 50) (aP (az c.1 l) (af (F55 n (aT l (ai c.1) 0,(-1000000000),1000000000,())) λd=>ah (D.aK d.1.1) (Z (LO.ret () (J,()))) (Z (LO.next (D.add .i64 c.1 1,()))))) (Z (LO.out 0 c))) (Z (LO.out 0 c))) 51 (λi=>((i:Int),())) (λi=>kS (l.getD i 0)) (λi=>(LO.ret () (J,()):LO (Int×U) (Bool×U) U Any)) 0 e (λi b _=>step i (by omega) (by omega)) (λ_=>Ev.of_eq λn=>by
    show TL.ah (D.bM (51:Int) (l.length:Int)) (TL.ah (D.eu (51:Int) 50) _ _) _=_;rw[Gx (show(50:Int)<51 by decide)];cases D.bM (51:Int) (l.length:Int)<;>rfl)with⟨a,r⟩|⟨i,b,a,_,r⟩
  .refine Ev.aM r (λn c=>_) _ (Ev.of_eq λn=>?_);rw[cF];show Z ((D.eu (l.length:Int) 50,()),())=_;rw[Zf (by omega)]
  .exact Ev.aM r (λn c=>_) _ (Ev.of_eq λn=>rfl)
def e17:Ev (λn=>F17 n (cm,())) ((W,()),()):=by unfold F17 F19;refine Ev.af (a:=((W,()),())) ?_ (Ev.pure _);have z:aj cm.1=0:=rfl;have b:D.aH cm.5 cm.5=W:=rfl;simp only[z,b];simp only[bx];refine Ev.af (e26 (l:=[]) (by simp)) ?_;simp only[bx];refine Ev.af (e27 (l:=[]) (by simp)) ?_;simp only[bx];refine Ev.af (e26 (l:=[]) (by simp)) ?_;simp only[bx];refine Ev.aM (F:=λn c=>_) (gM.out (j:=0) (y:=(0,())) (Ev.of_eq λn=>?_)) (λn c=>_) _ (Ev.of_eq λn=>rfl);simp(disch:=omega)only[bx]
end
end
section
variable {m:Int}
section
variable {α β R B P:Type}
def Ev.all{l:L α}(d:α)(q:α->Bool)(bad:Nat->LO (Int×U) R B P){F:Nat->Int×U->O (LO (Int×U) R B P)}{g:Nat->LO (Int×U) R B P->O β}{r:β}
  (e:∀i y,bad i≠.next y)
  (hs:∀i,i<l.length->Ev (λn=>F n ((i:Int),())) (bif q (l.getD i d)then .next (((i+1:Nat):Int),())else bad i))
  (f:∀n,F n ((l.length:Int),())=Z (.out 0 ((l.length:Int),())))
  (h1:l.all q=W->Ev (λn=>g n (.out 0 ((l.length:Int),()))) r) (h2:∀i,i<l.length->l.all q=J->Ev (λn=>g n (bad i)) r) :
  Ev (λn=>af (iter (F n) n (0,())) (g n)) r:=by
 rcases dZ l.length (λi=>q (l.getD i d)) bad e hs f with⟨a,b⟩|⟨i,c,a,b⟩
 .exact Ev.aM b g _ (h1 (qD (d:=d) a))
 .exact Ev.aM b g _ (h2 i c (jo (d:=d) c a))
def Ev.Kl{l:L α}(d:α)(q:α->Bool)(T:Nat->α->O ((Bool×U)×U))(bad:Int×U->LO (Int×U) R B P){F:Nat->Int×U->O (LO (Int×U) R B P)}{g:Nat->LO (Int×U) R B P->O β}{r:β}
  (b:∀n c,F n c=ah (D.bM c.1 (aj l)) (aP (az c.1 l) (af (T n (aT l (ai c.1) d)) λx=>ah (D.aK x.1.1) (Z (bad c)) (Z (LO.next (D.add .i64 c.1 1,()))))) (Z (LO.out 0 c)))
  (hl:l.length<=1000000) (e:∀c y,bad c≠.next y) (f:∀a∈l,Ev (λn=>T n a) ((q a,()),()))
  (h1:l.all q=W->Ev (λn=>g n (.out 0 ((l.length:Int),()))) r) (h2:l.all q=J->∀i:Nat,Ev (λn=>g n (bad ((i:Int),()))) r) :
  Ev (λn=>af (iter (F n) n (0,())) (g n)) r:=by
 refine Ev.all d q (λi=>bad ((i:Int),())) (λi y=>e _ y) (λi j=>?_) (λn=>by rw[b];simp(disch:=omega)only[bx]) h1 (λi _ h=>h2 h i);refine Ev.congr (λn=>b n _) ?_;simp(disch:=omega)only[bx];refine Ev.af (f _ (cG d j)) (Ev.of_eq λn=>?_);cases q (l.getD i d)<;>simp(disch:=omega)only[bx,bO,er,ep]
def Ev.cap{l:L α}(d:α)(q:α->Bool)(o:0<=m)(p:m<=1000000){F:Nat->Int×U->O (LO (Int×U) (Bool×U) U P)}
  (hs:∀i,i<l.length->(i:Int)<=m->Ev (λn=>F n ((i:Int),())) (bif q (l.getD i d)then .next (((i+1:Nat):Int),())else .ret () (J,())))
  (g:∀n(i:Nat),l.length<=i∨m<i->F n ((i:Int),())=Z (.out 0 ((i:Int),()))) :
  Ev (λn=>af (iter (F n) n (0,())) λc=>LO.el c (λ_ _=>Z ((D.eu (aj l) m,()),())) (λ_ e=>Z (e,())) λ_ _=>Y) ((decide ((l.length:Int)<=m)&&l.all q,()),()):=by
 have j:∀(i:Nat)(y:Int×U),(LO.ret () (J,()):LO (Int×U) (Bool×U) U P)≠.next y:=λ_ _ h=>by cases h
 by_cases h:(l.length:Int)<=m
 .rw[ez h,dF];refine Ev.all d q (λ_=>.ret () (J,())) j (λi b=>hs i b (by omega)) (λn=>g n _ (.inl (bS _))) (λf=>?_) (λi b f=>?_)
  .refine Ev.of_eq λn=>?_;rw[cF,f,AY,V7 h]
  .rw[f];exact Ev.of_eq λn=>rfl
 .rw[eP h,fu];obtain⟨k,rfl⟩:∃k:Nat,m=k:=⟨_,(IG o).symm⟩;rcases lu (F:=F) (k+1) (λi=>((i:Int),())) (λi=>q (l.getD i d)) (λi=>.ret () (J,())) 0 j (λi b _=>hs i (by omega) (by omega)) (λ_=>Ev.of_eq λn=>g n (k+1) (.inr (by omega)))with⟨a,r⟩|⟨i,b,a,_,r⟩
  .refine Ev.aM r (λn c=>_) _ (Ev.of_eq λn=>?_);rw[cF,AY,Zf (by omega)]
  .exact Ev.aM r (λn c=>_) _ (Ev.of_eq λn=>rfl)
end
def sY(a lo b:Int):Bool:=decide (lo<=a)&&decide (a<=b)
def gx{a lo b:Int}:sY a lo b=W↔lo<=a∧a<=b:=by simp[sY]
def HE(n:Nat)(a lo b:Int):F55 n (a,lo,b,())=Z ((sY a lo b,()),()):=by unfold F55 sY;by_cases h1:lo<=a<;>by_cases h2:a<=b<;>simp[ah,D.eu,h1,h2]
def Qy(n:Nat)(a lo b:Int):F69 n (a,lo,b,())=Z ((sY a lo b,()),()):=HE n a lo b
section
variable {p:av}{w:ak}{v:aJ}{f:aD}{o:aZ}
def vB(p:av)(k:Nat)(v:aJ):Bool:=
 bif D.aH v.Kind 1 then sY v.N (-1000000000) 1000000000 else bif D.aH v.Kind 2 then sY v.N 0 1 else bif D.aH v.Kind 3 then D.aH v.N 0
 else bif D.aH v.Kind 4 then sY v.N 0 (p.dw.length-1)else bif D.aH v.Kind 5 then sY v.N 0 (k-1)else J
def Rh{k:Nat}:vB p k v=W↔iN p k v:=by
 obtain⟨a,b⟩:=v;unfold vB iN;simp only;by_cases h1:a=1
 .subst h1;simp[D.aH,sY,kS]
 by_cases h2:a=2
 .subst h2;simp[D.aH,sY];omega
 by_cases h3:a=3
 .subst h3;simp[D.aH]
 by_cases h4:a=4
 .subst h4;simp[D.aH,sY];omega
 by_cases h5:a=5
 .subst h5;simp[D.aH,sY];omega
 simp[D.aH,h1,h2,h3,h4,h5]
def aec(n:Nat)(a:p.dw.length<=1000)(b:w.bC.length<=1000)(v:aJ):F169 n (p,w,v,())=Z ((vB p w.bC.length v,()),()):=by unfold F169 vB;simp(disch:=omega)only[bx,ff,HE];cases D.aH v.Kind 1<;>cases D.aH v.Kind 2<;>cases D.aH v.Kind 3<;>cases D.aH v.Kind 4<;>cases D.aH v.Kind 5<;>rfl
def aam(n:Nat)(a:p.dw.length<=1000)(b:w.bC.length<=1000)(v:aJ):F211 n (⟨p,w⟩,v,())=Z ((vB p w.bC.length v,()),()):=aec n a b v
def JY(b:p.dw.length<=1000)(c:w.bC.length<=1000){l:L aJ}(d:0<=m)(a:m<=1000000):Ev (λn=>F109 n (p,w,l,m,())) ((decide ((l.length:Int)<=m)&&l.all (vB p w.bC.length),()),()):=by
 unfold F109;refine Ev.cap (l:=l) aB _ d a (λi g e=>Ev.of_eq λn=>?_) (λn i h=>?_)
 .simp (disch:=omega)only[bx,aec n b c];cases vB p w.bC.length (l.getD i aB)<;>simp(disch:=omega)only[bx,bO,er,ep]
 .rcases h with h|h
  .simp (disch:=omega)only[bx]
  .cases f:D.bM (i:Int) (l.length:Int)<;>simp(disch:=omega)only[bx,f]
end
end
section
section
variable {p:av}{w:ak}{f:aD}{o:aZ}{k:Nat}
def Xg(i:DH p){n:bp}(h:Up p n):mS n<=3:=by
 unfold mS;split
 .rename_i d;obtain⟨a,b,c⟩:=h.con d;have:=(i.cons _ (cG bu (show n.N.toNat<p.Cons.length by omega))).2;omega
 .have h1:=h.lo;have h2:=h.hi;obtain⟨op,m,f,g⟩:=n;dsimp only at h1 h2 ⊢;obtain⟨j,rfl⟩:∃j:Nat,op=j:=⟨_,(IG (by omega)).symm⟩;have e:j<=28:=by omega
  match j,e with
  |0,_|1,_|2,_|3,_|4,_|5,_|6,_|7,_|8,_|9,_|10,_|11,_|12,_|13,_|14,_|15,_|16,_|17,_|18,_|19,_|20,_|21,_|22,_|23,_|24,_|25,_|26,_|27,_|28,_=>decide
  |j+29,h=>omega
def KP(p:av)(k:Nat)(f:aD):Bool:=
 sY f.Node 0 (p.aQ.length-1)&&((decide ((f.Env.length:Int)<=30)&&f.Env.all (vB p k))&&(decide ((f.cw.length:Int)<=mS (nodeAt p f.Node))&&f.cw.all (vB p k)))
def NU(p:av)(f:aD):Bool:=decide ((f.cw.length:Int)<mS (nodeAt p f.Node))
def xA:KP p k f=W↔fe p k f:=by unfold KP;simp only[dI,gx,kj,dU,Rh];exact⟨λ⟨⟨a,b⟩,⟨c,d⟩,e,g⟩=>⟨a,by omega,by omega,d,e,g⟩,λh=>⟨⟨h.lo,by have:=h.hi;omega⟩,⟨by have:=h.el;omega,h.env⟩,h.vl,h.vals⟩⟩
def VR:NU p f=W↔Ff p f:=by unfold NU Ff;exact IY
variable {l fs:List aD}{vs:List aJ}
def JF:l.all (KP p k)=W↔∀f∈l,fe p k f:=by simp only[dU,xA]
def Je:l.all (NU p)=W↔∀f∈l,Ff p f:=by simp only[dU,VR]
def ku{l:L aJ}:l.all (vB p k)=W↔∀v∈l,iN p k v:=by simp only[dU,Rh]
def JD(p:av)(k:Nat)(o:aZ):Bool:=
 ((decide ((o.Frames.length:Int)<=40)&&o.Frames.all (KP p k))&&(decide ((o.cw.length:Int)<=1)&&o.cw.all (vB p k)))&&(decide (0<o.Frames.length+o.cw.length)&&(o.Frames.take (o.Frames.length-(1-o.cw.length))).all (NU p))
def Qj:JD p k ⟨6,0,vs,fs⟩=W↔pV p k ⟨6,0,vs,fs⟩:=by
 unfold JD;simp only[dI,kj,JF,Je,ku];constructor
 .rintro ⟨⟨⟨a,b⟩,c,d⟩,e,g⟩
  match vs,c with
  |[],_=>
   have i:fs≠[]:=by rintro rfl;simp at e
   rw[<-List.dropLast_concat_getLast i]at a b g ⊢;simp only[su,IK,BO]at a e g;rw[show fs.dropLast.length+1-(1-0)=fs.dropLast.length by omega,List.take_left]at g;exact .JE (by omega) (λq f=>⟨b q (dH _ f),g q f⟩) (b _ (by simp))
  |[v],_=>simp only[IK,E1,Nat.sub_zero,mE]at g;exact .back (by omega) (λq f=>⟨b q f,g q f⟩) (d v (by simp))
  |_::_::_,h=>simp at h;omega
 .intro h;cases h with
  |JE a b c=>
   refine⟨⟨⟨by simp;omega,λq f=>?_⟩,by simp,by simp⟩,by simp,?_⟩
   .rcases dy.1 f with h|h
    .exact (b q h).1
    .rw[ko.1 h];exact c
   .simp only[su,IK,BO];rw[show ∀m:Nat,m+1-(1-0)=m by intro m;omega,List.take_left];exact λq f=>(b q f).2
  |back a b c=>refine⟨⟨⟨by omega,λq f=>(b q f).1⟩,by simp,λq f=>by rw[ko.1 f];exact c⟩,by simp,λq f=>(b q (E9 f)).2⟩
  |dead h=>omega
def Bi(p:av)(k:Nat)(o:aZ):Bool:=
 bif D.aH o.N 0 then JD p k o else bif D.aH o.N 1 then D.aH o.Frames.length 0&&(D.aH o.cw.length 1&&o.cw.all (vB p k))
 else(D.aH o.N 2||(D.aH o.N 3||D.aH o.N 4))&&(D.aH o.Frames.length 0&&D.aH o.cw.length 0)
def NV(p:av)(k:Nat)(o:aZ):Bool:=
 bif D.aH o.Form 6 then Bi p k o
 else bif D.aH o.Form 5 then D.aH o.N 0&&(D.aH o.cw.length 0&&(D.bM 0 o.Frames.length&&((decide ((o.Frames.length:Int)<=40)&&o.Frames.all (KP p k))&&(o.Frames.all (NU p)&&D.aH (nodeAt p (o.Frames.getD 0 aF).Node).Op 26))))
 else D.aH o.Frames.length 0&&(bif D.aH o.Form 1 then sY o.N 0 (p.Cons.length-1)&&(D.aH o.cw.length (p.Cons.getD o.N.toNat bu).oF&&o.cw.all (vB p k))
 else bif D.aH o.Form 2 then sY o.N 0 (p.aQ.length-1)&&(D.aH (nodeAt p o.N).Op 5&&(decide ((o.cw.length:Int)<=30)&&o.cw.all (vB p k)))
 else bif D.aH o.Form 3 then D.aH o.N 0&&(D.aH o.cw.length 1&&o.cw.all (vB p k))
 else bif D.aH o.Form 4 then D.aH o.N 0&&(decide ((o.cw.length:Int)<=4)&&o.cw.all (vB p k))else J)
def mH{a b:Int}:D.aH a b=W↔a=b:=by simp[D.aH]
def OY{s:Int}:Bi p k ⟨6,s,vs,fs⟩=W↔pV p k ⟨6,s,vs,fs⟩:=by
 unfold Bi;simp only;by_cases d:s=0
 .subst d;exact Qj
 rw[gR d,cM];by_cases h1:s=1
 .subst h1;rw[gZ rfl,cn];simp only[dI,mH,ku];constructor
  .rintro ⟨a,b,c⟩
   obtain rfl:=qU (show fs.length=0 by omega)
   match vs,b with
   |[v],_=>exact .done (c v (by simp))
   |[],h=>simp at h
   |_::_::_,h=>simp at h;omega
  .intro h;cases h with|done h=>exact⟨rfl,rfl,λv e=>by rw[ko.1 e];exact h⟩|dead h=>omega
 rw[gR h1,cM];simp only[dI,ir,mH];constructor
 .rintro ⟨a,b,c⟩
  obtain rfl:=qU (show fs.length=0 by omega);obtain rfl:=qU (show vs.length=0 by omega);exact .dead a
 .intro h;cases h with|JE=>exact absurd rfl d|back=>exact absurd rfl d|done=>exact absurd rfl h1|dead h=>exact⟨h,rfl,rfl⟩
def AW:NV p k o=W↔pV p k o:=by
 obtain⟨i,s,vs,fs⟩:=o;unfold NV;simp only;by_cases h6:i=6
 .subst h6;exact OY
 rw[gR h6,cM];by_cases h5:i=5
 .subst h5;rw[gZ rfl,cn];simp only[dI,mH,JF,Je,kj,xl];constructor
  .rintro ⟨rfl,b,c,⟨d,e⟩,g,h⟩
   obtain rfl:=qU (show vs.length=0 by omega)
   match fs,c with
   |f::fs,_=>exact .LI (by simp at d;omega) (λq j=>⟨e q j,g q j⟩) h
   |[],h=>simp at h
  .intro h;cases h with|LI a b c=>exact⟨rfl,rfl,by simp,⟨by simp;omega,λq j=>(b q j).1⟩,λq j=>(b q j).2,c⟩
 rw[gR h5,cM];simp only[dI,mH];constructor
 .rintro ⟨a,b⟩
  obtain rfl:=qU (show fs.length=0 by omega);by_cases h1:i=1
  .subst h1;simp only[gZ,cn,dI,mH,ku,gx]at b;exact .data b.1.1 (by omega) b.2.1 b.2.2
  rw[gR h1,cM]at b;by_cases h2:i=2
  .subst h2;simp only[gZ,cn,dI,mH,ku,gx,kj]at b;exact .func b.1.1 (by omega) b.2.1 (by omega) b.2.2.2
  rw[gR h2,cM]at b;by_cases h3:i=3
  .subst h3;simp only[gZ,cn,dI,mH,ku]at b;obtain⟨rfl,b,c⟩:=b
   match vs,b with
   |[v],_=>exact .cell (c v (by simp))
   |[],h=>simp at h
   |_::_::_,h=>simp at h;omega
  rw[gR h3,cM]at b;by_cases h4:i=4
  .subst h4;simp only[gZ,cn,dI,mH,ku,kj]at b;obtain⟨rfl,b,c⟩:=b;exact .chan (by omega) c
  rw[gR h4]at b;cases b
 .intro h;cases h with|data a b c d=>exact⟨rfl,by simp only[gZ,cn,dI,mH,ku,gx];exact⟨⟨a,by omega⟩,c,d⟩⟩|func a b c d e=>exact⟨rfl,by rw[gR (by decide),cM];simp only[gZ,cn,dI,mH,ku,gx,kj];exact⟨⟨a,by omega⟩,c,by omega,e⟩⟩|cell a=>exact⟨rfl,by rw[gR (by decide),cM,gR (by decide),cM];simp only[gZ,cn,dI,mH,ku];exact⟨trivial,rfl,λv l=>by rw[ko.1 l];exact a⟩⟩|chan a b=>exact⟨rfl,by rw[gR (by decide),cM,gR (by decide),cM,gR (by decide),cM];simp only[gZ,cn,dI,mH,ku,kj];exact⟨trivial,by omega,b⟩⟩|LI=>exact absurd rfl h5|JE=>exact absurd rfl h6|back=>exact absurd rfl h6|done=>exact absurd rfl h6|dead=>exact absurd rfl h6
end
end
section
def Qk{α:Type}{l:L α}{k i:Nat}{d:α}(h:i<k):(l.take k).getD i d=l.getD i d:=by simp only[jO,uF,aY h]
section
variable {p:av}{w:ak}{f:aD}{o:aZ}
structure Bd(p:av)(w:ak):Prop where
 ok:DH p
 cl:p.Cons.length<=1000
 wl:w.bC.length<=1000
def Bd.fl(h:Bd p w):p.dw.length<=1000:=by have:=h.ok.fl;omega
def Bd.nl(h:Bd p w):p.aQ.length<=1000:=by have:=h.ok.len;omega
def aef(b:Bd p w)(l:L aD):Ev (λn=>F107 n (p,w,l,())) ((decide ((l.length:Int)<=40)&&l.all (KP p w.bC.length),()),()):=by
 have f:=b.ok;have s:=b.nl;unfold F107;refine Ev.cap (l:=l) aF _ (by decide) (by decide) (λi t j=>?_) (λn i h=>?_)
 .generalize k:l.getD i aF=g;have c:aT l (ai (i:Int)) aF=g:=k;refine Ev.congr (g:=λn=>af (F55 n (g.Node,0,D.eD .i64 (aj p.aQ) 1,())) λd=>ah (D.aK d.1.1) (Z (LO.ret () (J,()))) (af (F109 n (p,w,g.Env,30,())) λe=>ah (D.aK e.1.1) (Z (LO.ret () (J,()))) (aP (az g.Node p.aQ) (af (F75 n (aT p.aQ (ai g.Node) aN,())) λq=>af (F109 n (p,w,g.cw,q.1)) λh=>ah (D.aK h.1.1) (Z (LO.ret () (J,()))) (Z (LO.next (D.add .i64 (i:Int) 1,()))))))) (λn=>?_) ?_
  .simp only[c];simp(disch:=omega)only[bx]
  .unfold KP;simp(disch:=omega)only[bx,ff,HE];cases h1:sY g.Node 0 ((p.aQ.length:Int)-1)with
   |false=>simp only[bx,fu];exact Ev.pure _
   |true=>
    have o:=gx.1 h1;have a:=f.nd o.1 (show g.Node<p.aQ.length by omega);simp(disch:=omega)only[bx,dF];refine Ev.af (JY b.fl b.wl (by decide) (by decide)) ?_;cases h2:decide ((g.Env.length:Int)<=30)&&g.Env.all (vB p w.bC.length)with|false=>simp only[bx,fu];exact Ev.pure _|true=>simp only[bx,dF];simp only[show p.aQ.getD g.Node.toNat aN=nodeAt p g.Node from rfl];refine Ev.af (Ev.of_eq λn=>e75 _ a.lo a.hi) ?_;refine Ev.af (JY (m:=mS (nodeAt p g.Node)) b.fl b.wl (Xf _) (by have:=Xg f a;omega)) (Ev.of_eq λn=>?_);cases decide ((g.cw.length:Int)<=mS (nodeAt p g.Node))&&g.cw.all (vB p w.bC.length)<;>simp(disch:=omega)only[bx,bO,er,ep]
 .rcases h with h|h
  .simp (disch:=omega)only[bx]
  .cases r:D.bM (i:Int) (l.length:Int)<;>simp(disch:=omega)only[bx,r]
def aee(b:Bd p w){l:L aD}{m:Nat}(o:m<=l.length)(hl:l.length<=1000)(h:l.all (KP p w.bC.length)=W):Ev (λn=>F108 n (p,l,(m:Int),())) (((l.take m).all (NU p),()),()):=by
 have q:=b.ok;unfold F108;refine Ev.all (l:=l.take m) aF (NU p) (λ_=>.ret () (J,())) (λ_ _ h=>by cases h) (λi g=>Ev.of_eq λn=>?_) (λn=>?_) (λc=>?_) (λi g c=>?_)
 .have d:i<m:=by simp at g;omega
  rw[Qk d];have j:=xA.1 (dU.1 h _ (cG aF (show i<l.length by omega)));have e:=j.lo;have f:=j.hi;have a:=q.nd e f;simp(disch:=omega)only[bx];rw[show p.aQ.getD (l.getD i aF).Node.toNat aN=nodeAt p (l.getD i aF).Node from rfl,e75 _ a.lo a.hi];unfold NU;by_cases k:((l.getD i aF).cw.length:Int)<mS (nodeAt p (l.getD i aF).Node)
  .simp (disch:=omega)only[bx,ez k,bO,er,ep]
  .simp (disch:=omega)only[bx,eP k]
 .rw[qh,Nat.min_eq_left o];simp(disch:=omega)only[bx]
 .rw[c];exact Ev.of_eq λn=>rfl
 .rw[c];exact Ev.of_eq λn=>rfl
def ajU(b:Bd p w){o:aZ}(h:o.cw.length<=1000):Ev (λn=>F106 n (p,w,o,())) ((Bi p w.bC.length o,()),()):=by
 obtain⟨j,s,d,c⟩:=o;have i:∀{f:Bool},Ev (λn=>tT n) ((f&&J,()),()):=λ{f}=>Ev.of_eq λn=>by rw[Ap];rfl
 unfold F106 Bi;simp only at h ⊢;by_cases g:s=0
 .subst g;rw[gZ rfl,cn];unfold JD;simp only[bx];refine Ev.af (aef b c) ?_;simp only;cases h1:decide ((c.length:Int)<=40)&&c.all (KP p w.bC.length)with
  |false=>exact Ev.of_eq λn=>rfl
  |true=>
   simp only[bx,dF];refine Ev.af (JY b.fl b.wl (by decide) (by decide)) ?_;simp only;cases h2:decide ((d.length:Int)<=1)&&d.all (vB p w.bC.length)with
   |false=>exact Ev.of_eq λn=>rfl
   |true=>
    simp only[dI,kj]at h1 h2;simp(disch:=omega)only[bx,dF,bO,ff];by_cases h3:0<c.length+d.length
    .rw[ez h3,dF];simp(disch:=omega)only[bx];have e:Lz (c.length:Int) (Cp 0 ((c.length:Int)-1+(d.length:Int)))=((c.length-(1-d.length):Nat):Int):=by
      simp only[Lz,Cp,D.bM,Bool.cond_decide]
      repeat' split
      all_goals omega
     rw[e];exact Ev.af (aee b (by omega) (by omega) h1.2) (Ev.pure _)
    .rw[eP h3,fu];simp(disch:=omega)only[bx];exact Ev.of_eq λn=>rfl
 rw[gR g,cM];by_cases h1:s=1
 .subst h1;rw[gZ rfl,cn];simp only[bx];by_cases a:c.length=0
  .rw[gZ (show((c.length:Nat):Int)=0 by omega),dF];simp only[bx];by_cases k:d.length=1
   .rw[gZ (show((d.length:Nat):Int)=1 by omega),dF];simp only[bx];refine Ev.af (JY b.fl b.wl (by decide) (by decide)) (Ev.of_eq λn=>?_);rw[ez (show(d.length:Int)<=1 by omega),dF]
   .rw[gR (show ¬((d.length:Nat):Int)=1 by omega)];exact Ev.of_eq λn=>rfl
  .rw[gR (show ¬((c.length:Nat):Int)=0 by omega)];exact Ev.of_eq λn=>rfl
 rw[gR h1,cM];refine Ev.of_eq λn=>?_;simp only[bx];cases D.aH s 2<;>cases D.aH s 3<;>cases D.aH s 4<;>cases D.aH (c.length:Int) 0<;>cases D.aH (d.length:Int) 0<;>rfl
def e67(b:Bd p w){o:aZ}(f:o.cw.length<=1000)(d:o.Frames.length<=1000):Ev (λn=>F67 n (p,w,o,())) ((NV p w.bC.length o,()),()):=by
 have h:=b.cl;have i:=b.nl;obtain⟨c,s,e,a⟩:=o;unfold F67 NV;simp only at f d ⊢;by_cases h6:c=6
 .subst h6;rw[gZ rfl,cn];simp only[bx];exact Ev.af (ajU b f) (Ev.pure _)
 rw[gR h6,cM];by_cases h5:c=5
 .subst h5;rw[gZ rfl,cn];simp only[bx];cases D.aH s 0 with
  |false=>exact Ev.of_eq λn=>rfl
  |true=>
  cases D.aH (e.length:Int) 0 with
  |false=>exact Ev.of_eq λn=>rfl
  |true=>
  cases h3:D.bM 0 (a.length:Int)with
  |false=>exact Ev.of_eq λn=>rfl
  |true=>
  simp only[bx,dF];refine Ev.af (aef b a) ?_;simp only;cases h1:decide ((a.length:Int)<=40)&&a.all (KP p w.bC.length)with
  |false=>exact Ev.of_eq λn=>rfl
  |true=>
  simp only[dI,kj]at h1;simp only[bx,dF];refine Ev.af (aee b (bS _) d h1.2) ?_;rw[mE];simp only;cases h2:a.all (NU p)with
  |false=>exact Ev.of_eq λn=>rfl
  |true=>have h3:=xl.1 h3;have g:=xA.1 (dU.1 h1.2 _ (cG aF (show 0<a.length by omega)));have j:=g.lo;have k:=g.hi;simp(disch:=omega)only[bx,dF];exact Ev.of_eq λn=>rfl
 rw[gR h5,cM];simp only[bx];cases D.aH (a.length:Int) 0 with
 |false=>exact Ev.of_eq λn=>rfl
 |true=>
 simp only[bx,dF];by_cases h1:c=1
 .subst h1;rw[gZ rfl,cn];simp(disch:=omega)only[bx,ff,HE];cases h1:sY s 0 ((p.Cons.length:Int)-1)with
  |false=>exact Ev.of_eq λn=>rfl
  |true=>
  have l:=gx.1 h1;have m:=b.ok.cons _ (cG bu (show s.toNat<p.Cons.length by omega));simp(disch:=omega)only[bx,dF];cases h2:D.aH (e.length:Int) (p.Cons.getD s.toNat bu).oF with
  |false=>exact Ev.of_eq λn=>rfl
  |true=>
  have h2:=mH.1 h2;simp only[bx,dF];refine Ev.af (JY b.fl b.wl (by decide) (by decide)) (Ev.of_eq λn=>?_);rw[ez (show(e.length:Int)<=3 by omega),dF]
 rw[gR h1,cM];by_cases h2:c=2
 .subst h2;rw[gZ rfl,cn];simp(disch:=omega)only[bx,ff,HE];cases h1:sY s 0 ((p.aQ.length:Int)-1)with
  |false=>exact Ev.of_eq λn=>rfl
  |true=>
  have l:=gx.1 h1;simp(disch:=omega)only[bx,dF];rw[show p.aQ.getD s.toNat aN=nodeAt p s from rfl];cases D.aH (nodeAt p s).Op 5 with
  |false=>exact Ev.of_eq λn=>rfl
  |true=>exact Ev.af (JY b.fl b.wl (by decide) (by decide)) (Ev.pure _)
 rw[gR h2,cM];by_cases h3:c=3
 .subst h3;rw[gZ rfl,cn];simp only[bx];cases D.aH s 0 with
  |false=>exact Ev.of_eq λn=>rfl
  |true=>
  cases h2:D.aH (e.length:Int) 1 with
  |false=>exact Ev.of_eq λn=>rfl
  |true=>
  have h2:=mH.1 h2;simp only[bx,dF];refine Ev.af (JY b.fl b.wl (by decide) (by decide)) (Ev.of_eq λn=>?_);rw[ez (show(e.length:Int)<=1 by omega),dF]
 rw[gR h3,cM];by_cases h4:c=4
 .subst h4;rw[gZ rfl,cn];simp only[bx];cases D.aH s 0 with
  |false=>exact Ev.of_eq λn=>rfl
  |true=>exact Ev.af (JY b.fl b.wl (by decide) (by decide)) (Ev.pure _)
 rw[gR h4,cM];simp only[bx];exact Ev.of_eq λn=>rfl
end
end
section
def Ev.allI{β R B P X:Type}(len:Nat)(s:Nat->X)(q:Nat->Bool)(bad:Nat->LO X R B P){F:Nat->X->O (LO X R B P)}{g:Nat->LO X R B P->O β}{r:β}(c:∀i y,bad i≠.next y)
  (hs:∀i,i<len->(∀j,j<i->q j=W)->Ev (λn=>F n (s i)) (bif q i then .next (s (i+1))else bad i)) (d:∀n,F n (s len)=Z (.out 0 (s len)))
  (h1:(∀i,i<len->q i=W)->Ev (λn=>g n (.out 0 (s len))) r) (h2:∀i,i<len->q i=J->Ev (λn=>g n (bad i)) r):Ev (λn=>af (iter (F n) n (s 0)) (g n)) r:=by
 rcases lu len s q bad 0 c hs (λ_=>Ev.of_eq d)with⟨a,b⟩|⟨i,e,a,_,b⟩
 .exact Ev.aM b g _ (h1 a)
 .exact Ev.aM b g _ (h2 i e a)
def wL:∀{T S:L Int},T.Nodup->(∀x∈T,x∈S)->T.length<=S.length
 |[],_,_,_=>yA _
 |t::T,S,a,h=>by have a:=Eh.1 a;have h1:=wL (S:=S.erase t) a.2 (λx b=>(List.mem_erase_of_ne (λe=>a.1 (by rw[<-e];exact b))).2 (h x (gl _ b)));have h2:=List.length_erase_of_mem (h t dX);have h3:=List.length_pos_of_mem (h t dX);simp only[gi];omega
variable {l:List Int}{x:Int}
def Ji:l.Nodup↔∀i,i<l.length->(l.take i).contains (l.getD i 0)=J:=by
 rw[List.Nodup,Lo];constructor
 .intro h i b;cases c:(l.take i).contains (l.getD i 0)with|false=>rfl|true=>rw[BJ]at c;obtain⟨j,a,e⟩:=oJ c;simp only[qh]at a;rw[List.getElem_take,jO,eS b,Aq]at e;exact absurd e (h j i (by omega) b (by omega))
 .intro h i j b a f e;have:=h j a;rw[jO,eS a,Aq,<-e]at this;have d:l[i]∈l.take j:=List.mem_take_iff_getElem.2 ⟨i,by omega,rfl⟩;rw[<-BJ,this]at d;cases d
section
variable {p:av}{w:ak}
structure AJ(w:ak):Prop where
 Ez:w.bz.Nodup
 task:∀t∈w.bz,0<=t∧t<w.bC.length∧(eU w t).Form=6
 all:∀i:Nat,i<w.bC.length->(eU w i).Form=6->(i:Int)∈w.bz
def Bh(w:ak):L Int:=((List.range w.bC.length).filter λi:Nat=>D.aH (eU w i).Form 6).map λi:Nat=>(i:Int)
def xe:x∈Bh w↔0<=x∧x<w.bC.length∧(eU w x).Form=6:=by
 unfold Bh;simp only[sr,List.mem_filter,IQ,mH];constructor
 .rintro ⟨i,⟨h1,h2⟩,rfl⟩
  exact⟨by omega,by omega,h2⟩
 .rintro ⟨h1,h2,h3⟩
  obtain⟨i,rfl⟩:∃i:Nat,x=i:=⟨_,(IG h1).symm⟩;exact⟨i,⟨by omega,h3⟩,rfl⟩
def KU:(Bh w).Nodup:=by unfold Bh;exact List.Pairwise.map _ (λa b h e=>h (by omega)) ((List.nodup_range).filter _)
def Rm:(Bh w).length=w.bC.countP λo=>D.aH o.Form 6:=by
 unfold Bh;rw[mC,<-List.countP_eq_length_filter];have e:w.bC=(List.range w.bC.length).map λi:Nat=>eU w (i:Int):=by
  apply List.ext_getElem
  .simp
  .intro i h1 h2;simp[eU,eS h1]
 conv=>rhs;rw[e,List.countP_map]
 rfl
def AJ.len(h:AJ w):w.bz.length=(Bh w).length:=Nat.le_antisymm (wL h.Ez λx a=>xe.2 (h.task x a)) (wL KU λx a=>by
 obtain⟨h1,h2,h3⟩:=xe.1 a;obtain⟨i,rfl⟩:∃i:Nat,x=i:=⟨_,(IG h1).symm⟩;exact h.all i (by omega) h3)
def AJ.Za(h1:w.bz.Nodup)(h2:∀t∈w.bz,0<=t∧t<w.bC.length∧(eU w t).Form=6)(h3:w.bz.length=(Bh w).length):AJ w:=by
 refine⟨h1,h2,λi d b=>NI λc=>?_⟩;have:=wL (T:=(i:Int)::w.bz) (S:=Bh w) (Eh.2 ⟨c,h1⟩) (λx a=>by
  rcases ej.1 a with rfl|a
  .exact xe.2 ⟨by omega,by omega,b⟩
  .exact xe.2 (h2 x a))
 simp only[gi]at this;omega
def AJ.tl(h:AJ w):w.bz.length<=w.bC.length:=by rw[h.len];unfold Bh;rw[mC];exact eO (List.length_filter_le _ _) (by simp)
def OV(w:ak)(i:Nat):Bool:=sY (w.bz.getD i 0) 0 (w.bC.length-1)&&(D.aH (eU w (w.bz.getD i 0)).Form 6&&!(w.bz.take i).contains (w.bz.getD i 0))
def ua:(∀i,i<w.bz.length->OV w i=W)↔w.bz.Nodup∧∀t∈w.bz,0<=t∧t<w.bC.length∧(eU w t).Form=6:=by
 rw[Ji];unfold OV;simp only[dI,gx,mH,As];constructor
 .intro h;exact⟨λi a=>(h i a).2.2,gz (d:=0) λi a=>⟨(h i a).1.1,by have:=(h i a).1.2;omega,(h i a).2.1⟩⟩
 .rintro ⟨h1,h2⟩ i a
  have:=h2 _ (cG 0 a);exact⟨⟨this.1,by omega⟩,this.2.2,h1 i a⟩
def aeg(hl:l.length<=1000):Ev (λn=>F105 n (l,x,())) ((l.contains x,()),()):=by
 unfold F105;refine Ev.all (l:=l) 0 (λa=>!(D.aH a x)) (λ_=>.ret () (W,())) (λ_ _ h=>by cases h) (λi d=>Ev.of_eq λn=>?_) (λn=>by simp(disch:=omega)only[bx]) (λb=>?_) (λi d b=>?_)
 .simp (disch:=omega)only[bx];cases D.aH (l.getD i 0) x<;>simp(disch:=omega)only[bx,bO,er,ep,BG,zE]
 .rw[show l.contains x=J from ?_]
  .exact Ev.of_eq λn=>rfl
  .cases c:l.contains x with|false=>rfl|true=>have:=dU.1 b x (BJ.1 c);rw[gZ rfl]at this;cases this
 .rw[show l.contains x=W from ?_]
  .exact Ev.of_eq λn=>rfl
  .rw[List.all_eq_false]at b;obtain⟨a,e,h⟩:=b;rw[BJ];have:D.aH a x=W:=by cases c:D.aH a x with|true=>rfl|false=>rw[c]at h;exact absurd rfl h
   rw[<-mH.1 this];exact e
def e66(q:w.bC.length<=1000)(r:w.bz.length<=1000):∃b,Ev (λn=>F66 n (w,())) ((b,()),())∧(b=W↔AJ w):=by
 have a:∀i,i<w.bC.length->(w.bC.take (i+1)).countP (λo=>D.aH o.Form 6)=(w.bC.take i).countP (λo=>D.aH o.Form 6)+(bif D.aH (w.bC.getD i aS).Form 6 then 1 else 0):=by intro i d;rw[Si d,List.countP_append,List.countP_singleton];rw[jO,eS d,Aq,Bool.cond_eq_ite]
 have run:=e8 (F:=λn(c:Int×Int×U)=>ah (D.bM c.2.1 (aj w.bC)) (aP (az c.2.1 w.bC) (ah (D.aH (aT w.bC (ai c.2.1) aS).Form 6) (Z (LO.next (R:=Bool×U) (B:=U) (P:=Any) (D.add .i64 c.1 1,D.add .i64 c.2.1 1,()))) (Z (LO.next (c.1,D.add .i64 c.2.1 1,()))))) (Z (LO.out 0 c)))
  w.bC.length (λi=>((((w.bC.take i).countP λo=>D.aH o.Form 6:Nat):Int),(i:Int),())) 0 (λi d=>Ev.of_eq λn=>by
   have h1:=List.countP_le_length (p:=λo:aZ=>D.aH o.Form 6) (l:=w.bC.take i);rw[qh]at h1;simp only[a i d];cases m:D.aH (w.bC.getD i aS).Form 6<;>simp(disch:=omega)only[bx,m,bO,er,ep,Int.natCast_zero,Int.add_zero,wZ]) (Ev.of_eq λn=>by simp(disch:=omega)only[bx])
 simp only[List.take_zero,List.countP_nil,mE,<-Rm]at run;by_cases g:w.bz.length=(Bh w).length
 .have f:∀{b:Bool},(b=W↔∀i,i<w.bz.length->OV w i=W)->(b=W↔AJ w):=λ{b}h=>h.trans ⟨λh=>AJ.Za (ua.1 h).1 (ua.1 h).2 g,λh=>ua.2 ⟨h.Ez,h.task⟩⟩;have step:∀b:Bool,((∀i,i<w.bz.length->OV w i=W)->b=W)->((∃i,i<w.bz.length∧OV w i=J)->b=J)->Ev (λn=>F66 n (w,())) ((b,()),()):=by
   intro b j k;unfold F66;refine Ev.aM run (λn c=>_) _ (Ev.congr (λn=>cF ..) ?_);rw[<-g];simp only[bx];refine Ev.allI w.bz.length (λi=>((i:Int),())) (OV w) (λ_=>.ret () (J,())) (λ_ _ h=>by cases h) (λi d _=>?_) (λn=>by simp(disch:=omega)only[bx]) (λe=>?_) (λi d e=>?_)
   .unfold OV KB;simp(disch:=omega)only[bx,HE,ff];cases h1:sY (w.bz.getD i 0) 0 ((w.bC.length:Int)-1)with
    |false=>simp only[bx,fu];exact Ev.pure _
    |true=>
     have s:=gx.1 h1;simp(disch:=omega)only[bx,dF];rw[show w.bC.getD (w.bz.getD i 0).toNat aS=eU w (w.bz.getD i 0)from rfl];cases D.aH (eU w (w.bz.getD i 0)).Form 6 with|false=>simp only[bx,fu];exact Ev.pure _|true=>simp only[bx,dF,Gn];refine Ev.af (aeg (by rw[qh];omega)) (Ev.of_eq λn=>?_);cases(w.bz.take i).contains (w.bz.getD i 0)<;>simp(disch:=omega)only[bx,bO,er,ep,BG,zE]
   .rw[j e];exact Ev.of_eq λn=>rfl
   .rw[k ⟨i,d,e⟩];exact Ev.of_eq λn=>rfl
  by_cases e:∀i,i<w.bz.length->OV w i=W
  .exact ⟨W,step W (λ_=>rfl) (λ⟨i,d,h⟩=>by rw[e i d]at h;cases h),f ⟨λ_=>e,λ_=>rfl⟩⟩
  .exact ⟨J,step J (λh=>absurd h e) (λ_=>rfl),f ⟨(λh=>by cases h),λh=>absurd h e⟩⟩
 .unfold F66;refine⟨J,Ev.aM run (λn c=>_) _ (Ev.of_eq λn=>?_),(λh=>by cases h),λh=>absurd h.len g⟩;rw[cF];simp(disch:=omega)only[bx]
end
end
section
section
variable {p:av}{w:ak}
structure mL(w:ak):Prop where
 Zb:w.bC.length<=130
 tasks:w.bz.length<=130
 outs:w.fI.length<=110
 ins:w.qG.length<=60
 parts:∀o∈w.bC,o.cw.length<=40∧o.Frames.length<=50∧∀f∈o.Frames,f.Env.length<=40∧f.cw.length<=40
def TA(f:aD):Bool:=decide ((f.Env.length:Int)<=40)&&decide ((f.cw.length:Int)<=40)
def Sv(o:aZ):Bool:=decide ((o.cw.length:Int)<=40)&&(decide ((o.Frames.length:Int)<=50)&&o.Frames.all TA)
theorem e65(n:Nat)(l:L aJ):F65 n (l,())=Z ((decide ((l.length:Int)<=40),()),()):=rfl
def e35(w:ak):∃b,Ev (λn=>F35 n (w,())) ((b,()),())∧(b=W↔mL w):=by
 have no:¬mL w->(J=W↔mL w):=λh=>⟨(λh=>by cases h),λe=>absurd e h⟩;by_cases h1:130<w.bC.length
 .exact ⟨J,Ev.of_eq λn=>by unfold F35;simp(disch:=omega)only[bx],no λh=>by have:=h.Zb;omega⟩
 by_cases h2:130<w.bz.length
 .exact ⟨J,Ev.of_eq λn=>by unfold F35;simp(disch:=omega)only[bx],no λh=>by have:=h.tasks;omega⟩
 by_cases h3:110<w.fI.length
 .exact ⟨J,Ev.of_eq λn=>by unfold F35;simp(disch:=omega)only[bx],no λh=>by have:=h.outs;omega⟩
 by_cases h4:60<w.qG.length
 .exact ⟨J,Ev.of_eq λn=>by unfold F35;simp(disch:=omega)only[bx],no λh=>by have:=h.ins;omega⟩
 refine⟨w.bC.all Sv,?_,λh=>⟨by omega,by omega,by omega,by omega,λo d=>?_⟩,λh=>dU.2 λo d=>?_⟩
 .unfold F35;simp(disch:=omega)only[bx];refine Ev.all (l:=w.bC) aS Sv (λ_=>.ret () (J,())) (λ_ _ h=>by cases h) (λi g=>?_) (λn=>by simp(disch:=omega)only[bx]) (λa=>?_) (λi g a=>?_)
  .generalize k:w.bC.getD i aS=o;unfold Sv;simp(disch:=omega)only[bx,k,e65];cases decide ((o.cw.length:Int)<=40)with
   |false=>simp only[bx,fu];exact Ev.pure _
   |true=>
   by_cases h5:50<o.Frames.length
   .rw[eP (show ¬(o.Frames.length:Int)<=50 by omega)];simp(disch:=omega)only[bx,fu,Ap];exact Ev.pure _
   .rw[ez (show(o.Frames.length:Int)<=50 by omega)];simp(disch:=omega)only[bx,dF];refine Ev.all (l:=o.Frames) aF TA (λ_=>.ret () (J,())) (λ_ _ h=>by cases h) (λj m=>Ev.of_eq λn=>?_) (λn=>by simp(disch:=omega)only[bx]) (λa=>?_) (λj m a=>?_)
    .unfold TA;simp(disch:=omega)only[bx,e65];cases decide (((o.Frames.getD j aF).Env.length:Int)<=40)<;>cases decide (((o.Frames.getD j aF).cw.length:Int)<=40)<;>simp(disch:=omega)only[bx,bO,er,ep,dF,fu]
    .rw[a,cF];exact Ev.of_eq λn=>by simp(disch:=omega)only[bx,bO,er,ep]
    .rw[a];exact Ev.of_eq λn=>rfl
  .rw[a];exact Ev.of_eq λn=>rfl
  .rw[a];exact Ev.of_eq λn=>rfl
 .have:=dU.1 h o d;simp only[Sv,TA,dI,kj,dU]at this;exact⟨by omega,by omega,λf c=>⟨by have:=(this.2.2 f c).1;omega,by have:=(this.2.2 f c).2;omega⟩⟩
 .have:=h.parts o d;simp only[Sv,TA,dI,kj,dU];exact⟨by omega,by omega,λf c=>⟨by have:=(this.2.2 f c).1;omega,by have:=(this.2.2 f c).2;omega⟩⟩
def e20(p:av)(w:ak):∃b,Ev (λn=>F20 n (p,w,())) ((b,()),())∧(b=W->Small p∧mL w):=by
 obtain⟨a,h1,c⟩:=e12 p;obtain⟨d,h2,e⟩:=e35 w;refine⟨a&&d,?_,λh=>?_⟩
 .unfold F20;refine Ev.af h1 ?_;cases a with
  |false=>exact Ev.of_eq λn=>rfl
  |true=>exact Ev.af h2 (Ev.pure _)
 .simp only[dI]at h;exact⟨c h.1,e.1 h.2⟩
def Cd(o:dW):Bool:=sY o.Port 0 3&&sY o.N (-1000000000) 1000000000
def CE{l:L Int}:yP l=W↔l.length<=50∧∀i∈l,kS i=W:=by unfold yP;simp only[dI,kj,dU]
def Jc{o:dW}:Cd o=W↔0<=o.Port∧o.Port<=3∧kS o.N=W:=by unfold Cd kS;simp only[dI,gx,kj,and_assoc]
def OB:sH p w↔w.bC.length<=120∧(∀o∈w.bC,pV p w.bC.length o)∧AJ w∧w.fI.length<=100∧(∀o∈w.fI,Cd o=W)∧yP w.qG=W∧sY w.Used 0 1000000000=W:=by
 constructor
 .intro h;exact⟨h.len,h.obs,⟨h.Ez,h.task,h.all⟩,h.outs,λo i=>Jc.2 (h.out o i),CE.2 ⟨h.ins,h.inn⟩,gx.2 h.used⟩
 .rintro ⟨a,b,c,d,e,f,g⟩
  exact⟨a,b,d,λo i=>Jc.1 (e o i),(CE.1 f).1,(CE.1 f).2,gx.1 g,c.Ez,c.tl,c.task,c.all⟩
def e36(z:DH p)(hs:Small p)(o:mL w):∃b,Ev (λn=>F36 n (p,w,())) ((b,()),())∧(b=W↔sH p w):=by
 have F:=o.Zb;have G:=o.outs;have A:Bd p w:=⟨z,by have:=hs.cons;omega,by omega⟩;have bad:∀{q:Prop},¬q->(J=W↔q):=λh=>⟨(λh=>by cases h),λB=>absurd B h⟩;obtain⟨C,t,u⟩:=e66 (w:=w) (by omega) (by have:=o.tasks;omega);rw[OB];by_cases h1:120<w.bC.length
 .exact ⟨J,Ev.of_eq λn=>by unfold F36;simp(disch:=omega)only[bx]<;>rfl,bad λh=>by omega⟩
 by_cases h2:100<w.fI.length
 .exact ⟨J,Ev.of_eq λn=>by unfold F36;simp(disch:=omega)only[bx]<;>rfl,bad λh=>by omega⟩
 have start:∀{r:(Bool×U)×U},Ev (λn=>af (F16 n (w.qG,50,())) λc=>ah (D.aK c.1.1) (vF n) (af (F55 n (w.Used,0,1000000000,())) λd=>ah (D.aK d.1.1) (vF n) (af (F66 n (w,())) λe=>ah (D.aK e.1.1) (vF n) (af (iter (λg:Int×U=>ah (D.bM g.1 (aj w.bC)) (aP (az g.1 w.bC) (af (F67 n (p,w,aT w.bC (ai g.1) aS,())) λh=>ah (D.aK h.1.1) (Z (LO.ret () (J,()))) (Z (LO.next (D.add .i64 g.1 1,()))))) (Z (LO.out 0 g))) n (0,())) λg=>LO.el g (λ_ _=>af (iter (λj:Int×U=>ah (D.bM j.1 (aj w.fI)) (aP (az j.1 w.fI) (af (F55 n ((aT w.fI (ai j.1) eg).1,0,3,())) λk=>ah (D.aK k.1.1) (Z (LO.ret () (J,()))) (aP (az j.1 w.fI) (af (F55 n ((aT w.fI (ai j.1) eg).2,(-1000000000),1000000000,())) λl=>ah (D.aK l.1.1) (Z (LO.ret () (J,()))) (Z (LO.next (D.add .i64 j.1 1,()))))))) (Z (LO.out 0 j))) n (0,())) λj=>LO.el j (λ_ _=>Z ((W,()),())) (λ_ l=>Z (l,())) λ_(_:Any)=>Y) (λ_ i=>Z (i,())) λ_(_:Any)=>Y)))) r->Ev (λn=>F36 n (p,w,())) r:=λh=>Ev.congr (λn=>by unfold F36;simp(disch:=omega)only[bx]<;>rfl) h;cases v:yP w.qG with
 |false=>exact⟨J,start (Ev.af (e16 o.ins) (Ev.of_eq λn=>by rw[v];rfl)),bad λh=>by have:=h.2.2.2.2.2.1;cases this⟩
 |true=>
 cases x:sY w.Used 0 1000000000 with
 |false=>exact⟨J,start (Ev.af (e16 o.ins) (Ev.of_eq λn=>by rw[v];simp only[bx,HE,x]<;>rfl)),bad λh=>by have:=h.2.2.2.2.2.2;cases this⟩
 |true=>
 have m:∀{f:Nat->O ((Bool×U)×U)}{r:(Bool×U)×U},Ev f r->Ev (λn=>ah (D.aK (yP w.qG)) (vF n) (af (F55 n (w.Used,0,1000000000,())) λd=>ah (D.aK d.1.1) (vF n) (f n))) r:=λ{f r}h=>by simp only[bx,v,HE,x];exact h
 cases C with
 |false=>exact⟨J,start (Ev.af (e16 o.ins) (m (Ev.af t (Ev.of_eq λn=>rfl)))),bad λh=>by have:=u.2 h.2.2.1;cases this⟩
 |true=>
 refine⟨w.bC.all (NV p w.bC.length)&&w.fI.all Cd,start (Ev.af (e16 o.ins) (m (Ev.af t ?_))),?_⟩
 .show Ev (λn=>af (iter _ n (0,())) _) _;refine Ev.Kl (l:=w.bC) aS (NV p w.bC.length) (λn a=>F67 n (p,w,a,())) (λ_=>.ret () (J,())) (λn c=>by rfl) (by omega) (λ_ _ h=>by cases h) (λa y=>e67 A (by have:=(o.parts a y).1;omega) (by have:=(o.parts a y).2.1;omega)) (λs=>?_) (λs i=>?_)
  .rw[s,dF];refine Ev.congr (λn=>cF ..) ?_;refine Ev.all (l:=w.fI) eg Cd (λ_=>.ret () (J,())) (λ_ _ h=>by cases h) (λj E=>Ev.of_eq λn=>?_) (λn=>by simp(disch:=omega)only[bx]) (λs=>?_) (λj E s=>?_)
   .unfold Cd;simp(disch:=omega)only[bx,HE];cases sY (w.fI.getD j eg).Port 0 3<;>cases sY (w.fI.getD j eg).N (-1000000000) 1000000000<;>simp(disch:=omega)only[bx,bO,er,ep,dF,fu]
   .rw[s];exact Ev.of_eq λn=>rfl
   .rw[s];exact Ev.of_eq λn=>rfl
  .rw[s];exact Ev.of_eq λn=>rfl
 .simp only[dI,dU,AW];exact⟨λ⟨a,b⟩=>⟨by omega,a,u.1 rfl,by omega,b,trivial,trivial⟩,λ⟨_,a,_,_,b,_⟩=>⟨a,b⟩⟩
def e22(hs:Small p)(e:mL w):∃b,Ev (λn=>F22 n (p,w,())) ((b,()),())∧(b=W↔FP p∧sH p w):=by obtain⟨f,h1,a⟩:=e15 hs;cases f with|false=>exact⟨J,by unfold F22;exact Ev.af h1 (Ev.of_eq λn=>rfl),(λh=>by cases h),λh=>by have:=a.2 h.1;cases this⟩|true=>have c:=a.1 rfl;obtain⟨g,h2,d⟩:=e36 c.ok hs e;exact⟨g,by unfold F22;exact Ev.af h1 (Ev.af h2 (Ev.pure _)),λh=>⟨c,d.1 h⟩,λh=>d.2 h.2⟩
end
end
section
section
variable {p:av}{w:ak}
def vN{X R B P:Type}{b:B}{r:X->R}:∀(c y:X),(LO.ret b (r c):LO X R B P)≠.next y:=λ_ _ h=>by cases h
def PG(i:Nat):D.aK (D.eu 0 (i:Int))=J:=by rw[V7 (by omega)];rfl
def ajE(b:Bd p w){f:aD}(hl:f.Env.length<=1000)(g:f.cw.length<=1000):Ev (λn=>F266 n (⟨p,w⟩,f,())) ((KP p w.bC.length f,()),()):=by
 have h:=b.nl;unfold F266 KP;simp(disch:=omega)only[bx,Qy,ff];cases h1:sY f.Node 0 ((p.aQ.length:Int)-1)with
 |false=>exact Ev.of_eq λn=>rfl
 |true=>
 have e:=gx.1 h1;have d:=b.ok.nd e.1 (show f.Node<p.aQ.length by omega);simp(disch:=omega)only[bx,dF];by_cases h2:f.Env.length<=30
 .rw[ez (show(f.Env.length:Int)<=30 by omega)];simp(disch:=omega)only[bx,dF,show p.aQ.getD f.Node.toNat aN=nodeAt p f.Node from rfl,aeb _ d.lo d.hi];by_cases h3:(f.cw.length:Int)<=mS (nodeAt p f.Node)
  .rw[ez h3,dF];refine Ev.congr (λn=>qM h3 _ _) ?_;refine Ev.Kl (l:=f.Env) aB (vB p w.bC.length) (λn v=>F211 n (⟨p,w⟩,v,())) (λc=>.ret () c) (λn c=>rfl) (by omega) vN (λv _=>Ev.of_eq λn=>aam n b.fl b.wl v) (λa=>?_) (λa i=>?_)
   .rw[a,dF];refine Ev.Kl (l:=f.cw) aB (vB p w.bC.length) (λn v=>F211 n (⟨p,w⟩,v,())) (λc=>.ret () c) (λn c=>rfl) (by omega) vN (λv _=>Ev.of_eq λn=>aam n b.fl b.wl v) (λa=>?_) (λa i=>?_)
    .rw[a];exact Ev.of_eq λn=>rfl
    .rw[a];exact Ev.of_eq λn=>by rw[rH,PG]
   .rw[a];exact Ev.of_eq λn=>(qM (Int.natCast_nonneg i) _ _).trans rfl
  .rw[eP h3];simp only[fu,Ap];exact Ev.congr (λn=>Gx (by omega) _ _) (Ev.of_eq λn=>rfl)
 .rw[eP (show ¬(f.Env.length:Int)<=30 by omega)];simp(disch:=omega)only[bx,fu];exact Ev.of_eq λn=>rfl
def ad9(b:Bd p w){l:L aD}{m:Nat}(q:m<=1)(hl:l.length<=1000)(hf:∀f∈l,f.Env.length<=1000∧f.cw.length<=1000) :
  Ev (λn=>F212 n (⟨p,w⟩,l,(m:Int),())) (((decide ((l.length:Int)<=40)&&l.all (KP p w.bC.length))&&(l.take (l.length-m)).all (NU p),()),()):=by
 unfold F212;by_cases h1:l.length<=40
 .rw[ez (show(l.length:Int)<=40 by omega)];simp(disch:=omega)only[bx,dF];refine Ev.Kl (l:=l) aF (KP p w.bC.length) (λn v=>F266 n (⟨p,w⟩,v,())) (λc=>.ret () c) (λn c=>rfl) (by omega) vN (λv g=>ajE b (hf v g).1 (hf v g).2) (λa=>?_) (λa i=>?_)
  .rw[a,dF];have e:Cp 0 (D.eD .i64 (aj l) (m:Int))=((l.length-m:Nat):Int):=by
    rw[AY,ff (by omega) (by omega)];simp only[Cp,D.bM,Bool.cond_decide]
    repeat' split
    all_goals omega
   have o:DO ((⟨p,w⟩:bY),l,(m:Int),())=l.take (l.length-m):=by unfold DO;simp only[e,Gn];rfl
   show Ev (λn=>Ia n (⟨p,w⟩,l,(m:Int),())) _;unfold Ia;rw[o,e];simp(disch:=omega)only[bx];refine Ev.Kl (l:=l.take (l.length-m)) aF (NU p) (λn v=>F267 n (⟨p,w⟩,v,())) (λc=>.ret () c) (λn c=>by rfl) (by rw[qh];omega) vN (λv g=>Ev.of_eq λn=>?_) (λa=>?_) (λa i=>?_)
   .have k:=xA.1 (dU.1 a v (E9 g));have h:=k.lo;have j:=k.hi;have d:=b.ok.nd h j;unfold F267 NU;simp(disch:=omega)only[bx,show p.aQ.getD v.Node.toNat aN=nodeAt p v.Node from rfl,aeb _ d.lo d.hi];rfl
   .rw[a];exact Ev.of_eq λn=>rfl
   .rw[a];exact Ev.of_eq λn=>by rw[rH,PG]
  .rw[a];exact Ev.of_eq λn=>(qM (Int.natCast_nonneg i) _ _).trans rfl
 .rw[eP (show ¬(l.length:Int)<=40 by omega)];simp(disch:=omega)only[bx,fu];exact Ev.of_eq λn=>rfl
def aaX(o:aZ):Prop:=o.cw.length<=1000∧o.Frames.length<=1000∧∀f∈o.Frames,f.Env.length<=1000∧f.cw.length<=1000
variable {o:aZ}
def ajG(b:Bd p w)(hs:aaX o)(d:o.cw.all (vB p w.bC.length)=W):Ev (λn=>F213 n (⟨p,w⟩,o,())) ((Bi p w.bC.length o,()),()):=by
 obtain⟨h,s,a,c⟩:=o;obtain⟨i,e,f⟩:=hs;unfold F213 Bi;simp only at d i e f ⊢;by_cases g:s=0
 .subst g;rw[gZ rfl,cn];unfold JD;simp only[d,vR];simp only[bx];by_cases h1:1<a.length
  .rw[eP (show ¬(a.length:Int)<=1 by omega)];simp(disch:=omega)only[bx,Ap,fu];exact Ev.of_eq λn=>rfl
  rw[ez (show(a.length:Int)<=1 by omega),vR];simp(disch:=omega)only[bx];have go:Ev (λn=>H9 n (⟨p,w⟩,⟨h,0,a,c⟩,())) (((decide ((c.length:Int)<=40)&&c.all (KP p w.bC.length))&&(c.take (c.length-(1-a.length))).all (NU p),()),()):=by unfold H9;simp(disch:=omega)only[bx,ff];rw[show(1:Int)-(a.length:Int)=((1-a.length:Nat):Int)by omega];exact Ev.af (ad9 b (by omega) e f) (Ev.pure _)
  by_cases h2:0<c.length+a.length
  .rw[ez h2,dF];by_cases h3:c.length=0
   .have h4:¬a.length=0:=by omega
    simp(disch:=omega)only[bx];exact go
   .simp (disch:=omega)only[bx];exact go
  .rw[eP h2,fu,Ap];have h3:c.length=0:=by omega
   have h4:a.length=0:=by omega
   simp(disch:=omega)only[bx];exact Ev.of_eq λn=>rfl
 rw[gR g,cM];by_cases h1:s=1
 .subst h1;rw[gZ rfl,cn,d,vR];simp only[bx];refine Ev.of_eq λn=>?_;cases D.aH (c.length:Int) 0<;>cases D.aH (a.length:Int) 1<;>rfl
 rw[gR h1,cM];refine Ev.of_eq λn=>?_;simp only[bx];cases D.aH s 2<;>cases D.aH s 3<;>cases D.aH s 4<;>cases D.aH (c.length:Int) 0<;>cases D.aH (a.length:Int) 0<;>rfl
def ajN(b:Bd p w)(hs:aaX o):Ev (λn=>F163 n (⟨p,w⟩,o,())) ((NV p w.bC.length o,()),()):=by
 have j:=b.cl;have k:=b.nl;unfold F163;refine Ev.Kl (l:=o.cw) aB (vB p w.bC.length) (λn v=>F211 n (⟨p,w⟩,v,())) (λc=>.ret () c) (λn c=>rfl) (by have:=hs.1;omega) vN (λv _=>Ev.of_eq λn=>aam n b.fl b.wl v) (λd=>?_) (λd i=>?_);rotate_left
 .rw[show NV p w.bC.length o=J from ?_]
  .refine Ev.of_eq λn=>?_;rw[rH,PG];rfl
  .cases q:NV p w.bC.length o with|false=>rfl|true=>rw[ku.2 (AW.1 q).vals]at d;cases d
 show Ev (λn=>Ib n (⟨p,w⟩,o,())) _;have r:=ajG b hs d;obtain⟨e,s,t,a⟩:=o;obtain⟨u,f,g⟩:=hs;unfold Ib NV;simp only at d u f g ⊢;by_cases h6:e=6
 .subst h6;rw[gZ rfl,cn];simp(disch:=omega)only[bx];exact Ev.af r (Ev.pure _)
 rw[gR h6,cM];by_cases h5:e=5
 .subst h5;rw[gZ rfl,cn];simp(disch:=omega)only[bx];cases D.aH s 0 with
  |false=>exact Ev.of_eq λn=>rfl
  |true=>
  cases D.aH (t.length:Int) 0 with
  |false=>exact Ev.of_eq λn=>rfl
  |true=>
  cases h3:D.bM 0 (a.length:Int)with
  |false=>exact Ev.of_eq λn=>rfl
  |true=>
  simp only[bx,dF];refine Ev.af (ad9 (m:=0) b (by omega) f g) ?_;rw[Nat.sub_zero,mE];cases h1:decide ((a.length:Int)<=40)&&a.all (KP p w.bC.length)with
  |false=>exact Ev.of_eq λn=>rfl
  |true=>
  cases h2:a.all (NU p)with
  |false=>exact Ev.of_eq λn=>rfl
  |true=>have h3:=xl.1 h3;simp only[dI,kj]at h1;have h:=xA.1 (dU.1 h1.2 _ (cG aF (show 0<a.length by omega)));have x:=h.lo;have y:=h.hi;simp(disch:=omega)only[bx,dF];exact Ev.of_eq λn=>rfl
 rw[gR h5,cM];refine Ev.of_eq λn=>?_;simp only[bx,d,vR];by_cases h1:e=1
 .subst h1;rw[gZ rfl,cn];simp(disch:=omega)only[bx,ff,Qy];cases D.aH (a.length:Int) 0 with
  |false=>rfl
  |true=>
  cases h1:sY s 0 ((p.Cons.length:Int)-1)with
  |false=>rfl
  |true=>
  have z:=gx.1 h1;simp(disch:=omega)only[bx,dF]
 rw[gR h1,cM];by_cases h2:e=2
 .subst h2;rw[gZ rfl,cn];simp(disch:=omega)only[bx,ff,Qy];cases D.aH (a.length:Int) 0 with
  |false=>rfl
  |true=>
  cases h1:sY s 0 ((p.aQ.length:Int)-1)with
  |false=>rfl
  |true=>
  have z:=gx.1 h1;simp(disch:=omega)only[bx,dF];rw[show p.aQ.getD s.toNat aN=nodeAt p s from rfl];cases D.aH (nodeAt p s).Op 5<;>rfl
 rw[gR h2,cM];by_cases h3:e=3
 .subst h3;rw[gZ rfl,cn];simp only[bx];cases D.aH (a.length:Int) 0<;>cases D.aH s 0<;>rfl
 rw[gR h3,cM];by_cases h4:e=4
 .subst h4;rw[gZ rfl,cn];simp only[bx];cases D.aH (a.length:Int) 0<;>cases D.aH s 0<;>rfl
 rw[gR h4,cM];simp only[bx];cases D.aH (a.length:Int) 0<;>rfl
end
end
section
section
variable {p:av}{w:ak}
abbrev SK(x:Int)(l:L (Int×Bool)):Bool:=Ct (A:=sg.A) (Ty.int .i64) J x l
abbrev S3(x:Int)(l:L (Int×Bool)):L (Int×Bool):=lz (A:=sg.A) (Ty.int .i64) x W l
def SJ(x k:Int):∀l:L (Int×Bool),SK x (S3 k l)=(D.aH x k||SK x l)
 |[]=>by show(bif D.aH x k then W else J)=(D.aH x k||J);cases D.aH x k<;>rfl
 |q::l=>by
  have a:=SJ x k l;show SK x (bif D.aH k q.1 then(k,W)::l else q::S3 k l)=(D.aH x k||(bif D.aH x q.1 then q.2 else SK x l));cases h1:D.aH k q.1 with
  |true=>have h1:=mH.1 h1;show(bif D.aH x k then W else SK x l)=_;rw[<-h1];cases D.aH x k<;>rfl
  |false=>
   show(bif D.aH x q.1 then q.2 else SK x (S3 k l))=_;rw[a];cases h2:D.aH x q.1 with|false=>rfl|true=>rw[mH.1 h2,show D.aH q.1 k=J from gR λe=>by rw[e,gZ rfl]at h1;cases h1];rfl
def met(w:ak):Nat->L (Int×Bool)
 |0=>[]
 |i+1=>S3 (w.bz.getD i 0) (met w i)
def GZ(x:Int):∀i,i<=w.bz.length->SK x (met w i)=(w.bz.take i).contains x
 |0,_=>rfl
 |i+1,h=>by show SK x (S3 (w.bz.getD i 0) (met w i))=_;rw[SJ,GZ x i (by omega),Si (by omega),jO,eS (by omega),Aq];rw[IS];simp only[ir,mH,BJ,dy,ko];exact or_comm
def yJ(n:Nat):L Int:=(List.range n).map λi:Nat=>(i:Int)
def Jg(n:Nat):(yJ n).length=n:=by simp[yJ]
def PE(n:Nat):yJ (n+1)=yJ n++[(n:Int)]:=by simp[yJ,List.range_succ]
def Jh{n i:Nat}(h:i<n):(yJ n).getD i 0=(i:Int):=by simp[yJ,jO,gj,Lj h]
def ajM(v:w.bC.length<=1000)(y:w.bz.length<=1000):∃b,Ev (λn=>F164 n (⟨p,w⟩,())) ((b,()),())∧(b=W↔AJ w):=by
 let f:Int->Bool:=λx=>SK x (met w w.bz.length)||!(D.aH (eU w x).Form 6)
 have key:∀b:Bool,((∀i,i<w.bz.length->OV w i=W)->b=(yJ w.bC.length).all f)->((∃i,i<w.bz.length∧OV w i=J)->b=J)->Ev (λn=>F164 n (⟨p,w⟩,())) ((b,()),()):=by
  intro b m o;unfold F164;refine Ev.allI w.bz.length (λi=>((i:Int),met w i,())) (OV w) (λi=>.ret (met w i,()) (J,())) (λ_ _ h=>by cases h) (λi d _=>Ev.of_eq λn=>?_) (λn=>by simp(disch:=omega)only[bx]) (λa=>?_) (λi d a=>?_)
  .unfold OV zn;simp(disch:=omega)only[bx,Qy,ff];cases h1:sY (w.bz.getD i 0) 0 ((w.bC.length:Int)-1)with
   |false=>simp only[bx,fu]
   |true=>
    have z:=gx.1 h1;simp(disch:=omega)only[bx,dF];rw[show w.bC.getD (w.bz.getD i 0).toNat aS=eU w (w.bz.getD i 0)from rfl];cases D.aH (eU w (w.bz.getD i 0)).Form 6 with|false=>simp only[bx,fu]|true=>rw[show Ct (A:=sg.A) (Ty.int .i64) J (w.bz.getD i 0) (met w i)=_ from GZ _ i (by omega)];cases(w.bz.take i).contains (w.bz.getD i 0)<;>simp(disch:=omega)only[bx,bO,er,ep,BG,zE,dF];rfl
  .rw[m a];refine Ev.congr (λn=>cF ..) ?_;refine Ev.aM (e8 w.bC.length (λi=>((i:Int),(yJ i,()),())) 0 (λi d=>Ev.of_eq λn=>?_) (Ev.of_eq λn=>?_)) (λn c=>_) _ ?_
   .have q:=Jg i;simp(disch:=first|omega|simp only[DU];omega)only[bx,bO,er,ep,PE]
   .simp (disch:=omega)only[bx]
   .refine Ev.congr (λn=>cF ..) ?_;refine Ev.all (l:=yJ w.bC.length) 0 f (λj=>.ret () ((j:Int),())) (λ_ _ h=>by cases h) (λj k=>Ev.of_eq λn=>?_) (λn=>by simp(disch:=omega)only[bx]) (λa=>?_) (λj k a=>?_)
    .have q:=Jg w.bC.length;rw[q]at k;rw[Jh k];show _=Z (bif SK (j:Int) (met w w.bz.length)||!(D.aH (eU w (j:Int)).Form 6)then _ else _);have r:aT (yJ w.bC.length) (ai (j:Int)) 0=(j:Int):=Jh k;have s:aT w.bC (ai (j:Int)) aS=eU w (j:Int):=rfl;unfold DP;simp only[r,s];cases e:SK (j:Int) (met w w.bz.length)with|true=>have e:Ct (A:=sg.A) (Ty.int .i64) J (j:Int) (met w w.bz.length)=W:=e;simp(disch:=omega)only[bx,e,bO,er,ep,Bool.true_or]|false=>have e:Ct (A:=sg.A) (Ty.int .i64) J (j:Int) (met w w.bz.length)=J:=e;cases t:D.aH (eU w (j:Int)).Form 6<;>simp(disch:=omega)only[bx,e,t,bO,er,ep,E5,BG,zE]
    .rw[a];exact Ev.of_eq λn=>rfl
    .rw[a];exact Ev.of_eq λn=>by show Z ((D.aK (D.eu 0 (j:Int)),()),())=_;rw[PG]
  .rw[o ⟨i,d,a⟩];exact Ev.of_eq λn=>rfl
 have g:(yJ w.bC.length).all f=W↔∀i:Nat,i<w.bC.length->(eU w i).Form=6->(i:Int)∈w.bz:=by
  simp only[dU,yJ,sr,IQ];constructor
  .intro h i d u;have:=h i ⟨i,d,rfl⟩;simp only[f,GZ _ _ (bS _),mE,gZ u,BG,Bool.or_false,BJ]at this;exact this
  .rintro h x ⟨i,d,rfl⟩
   simp only[f,GZ _ _ (bS _),mE,ir,BJ];cases e:D.aH (eU w (i:Int)).Form 6 with|false=>exact .inr rfl|true=>exact .inl (h i d (mH.1 e))
 by_cases a:∀i,i<w.bz.length->OV w i=W
 .refine ⟨_,key _ (λ_=>rfl) (λ⟨i,d,h⟩=>by rw[a i d]at h;cases h),g.trans ⟨λh=>⟨(ua.1 a).1,(ua.1 a).2,h⟩,λh=>h.all⟩⟩
 .exact ⟨J,key J (λh=>absurd h a) (λ_=>rfl),(λh=>by cases h),λh=>absurd (ua.2 ⟨h.Ez,h.task⟩) a⟩
def ajL(n:Nat)(o:dW):F166 n (o,())=Z ((Cd o,()),()):=by unfold F166 Cd;simp only[bx,Qy];cases sY o.Port 0 3<;>rfl
def e99(x:DH p)(hs:Small p)(e:mL w):∃b,Ev (λn=>F99 n (⟨p,w⟩,())) ((b,()),())∧(b=W↔sH p w):=by
 have F:=e.Zb;have G:=e.outs;have y:Bd p w:=⟨x,by have:=hs.cons;omega,by omega⟩;have bad:∀{q:Prop},¬q->(J=W↔q):=λh=>⟨(λh=>by cases h),λz=>absurd z h⟩;obtain⟨A,g,k⟩:=ajM (p:=p) (w:=w) (by omega) (by have:=e.tasks;omega);have sm:∀o∈w.bC,aaX o:=λo d=>⟨by have:=(e.parts o d).1;omega,by have:=(e.parts o d).2.1;omega,λf u=>⟨by have:=((e.parts o d).2.2 f u).1;omega,by have:=((e.parts o d).2.2 f u).2;omega⟩⟩;rw[OB];by_cases h1:120<w.bC.length
 .exact ⟨J,Ev.of_eq λn=>by unfold F99;simp(disch:=omega)only[bx]<;>rfl,bad λh=>by omega⟩
 have go:∀{r:(Bool×U)×U},(w.bC.all (NV p w.bC.length)=W->Ev (λn=>Ag n (⟨p,w⟩,())) r)->(w.bC.all (NV p w.bC.length)=J->((J,()),())=r)->Ev (λn=>F99 n (⟨p,w⟩,())) r:=by intro r B C;unfold F99;refine Ev.congr (λn=>qM (show(w.bC.length:Int)<=120 by omega) _ _) ?_;refine Ev.Kl (l:=w.bC) aS (NV p w.bC.length) (λn a=>F163 n (⟨p,w⟩,a,())) (λc=>.ret () c) (λn c=>rfl) (by omega) vN (λa v=>ajN y (sm a v)) (λj=>B j) (λj i=>?_);rw[<-C j];exact Ev.of_eq λn=>by show TL.ah (D.aK (D.eu 0 (i:Int))) (Ag n (⟨p,w⟩,())) (vA n)=_;rw[PG];rfl
 cases d:w.bC.all (NV p w.bC.length)with
 |false=>exact⟨J,go (λh=>by rw[d]at h;cases h) (λ_=>rfl),bad λh=>by rw[dU.2 λo m=>AW.2 (h.2.1 o m)]at d;cases d⟩
 |true=>
 have s:∀o∈w.bC,pV p w.bC.length o:=λo m=>AW.1 (dU.1 d o m)
 suffices h:∃b,Ev (λn=>Ag n (⟨p,w⟩,())) ((b,()),())∧(b=W↔AJ w∧w.fI.length<=100∧(∀o∈w.fI,Cd o=W)∧yP w.qG=W∧sY w.Used 0 1000000000=W)by obtain⟨b,E,m⟩:=h;exact⟨b,go (λ_=>E) (λh=>by rw[d]at h;cases h),m.trans ⟨λh=>⟨by omega,s,h⟩,λh=>h.2.2⟩⟩
 cases A with
 |false=>exact⟨J,by unfold Ag;exact Ev.af g (Ev.of_eq λn=>rfl),bad λh=>by have:=k.2 h.1;cases this⟩
 |true=>
 by_cases h2:100<w.fI.length
 .exact ⟨J,by unfold Ag;exact Ev.af g (Ev.of_eq λn=>by simp(disch:=omega)only[bx]<;>rfl),bad λh=>by omega⟩
 have t:Ev (λn=>Kx n (⟨p,w⟩,())) ((yP w.qG&&sY w.Used 0 1000000000,()),()):=by unfold Kx;refine Ev.af (e47 e.ins) (Ev.of_eq λn=>?_);simp only[bx,Qy];cases yP w.qG<;>rfl
 refine⟨w.fI.all Cd&&(yP w.qG&&sY w.Used 0 1000000000),?_,?_⟩
 .unfold Ag;refine Ev.af g (Ev.congr (λn=>qM (show(w.fI.length:Int)<=100 by omega) _ _) ?_);refine Ev.Kl (l:=w.fI) eg Cd (λn a=>F166 n (a,())) (λc=>.ret () c) (λn c=>rfl) (by omega) vN (λa v=>Ev.of_eq λn=>ajL n a) (λj=>?_) (λj i=>?_)
  .rw[j,dF];exact t
  .rw[j,fu];exact Ev.of_eq λn=>by show TL.ah (D.aK (D.eu 0 (i:Int))) (Kx n (⟨p,w⟩,())) (vA n)=_;rw[PG];rfl
 .simp only[dI,dU];exact⟨λ⟨a,b,c⟩=>⟨k.1 rfl,by omega,a,b,c⟩,λ⟨_,_,a,b,c⟩=>⟨a,b,c⟩⟩
end
end
section
section
variable {p:av}{w:ak}{at_:Int}
end
end
section
section
variable {p:av}{w w':ak}{left:List aD}{f:aD}{at_ t:Int}{v u:aJ}
end
end
section
section
variable {p:av}{w:ak}
end
end
section
section
variable {p:av}{w:ak}
end
end
section
section
variable {p:av}{w:ak}
def EV(hs:Small p)(k:mL w){α:Type}{bad rest:Nat->O α}{r:α}(h1:FP p∧sH p w->Ev rest r)(h2:¬(FP p∧sH p w)->Ev bad r) :
  Ev (λn=>af (F46 n (p,())) λc=>ah (D.aK (D.aH c.1.1 0)) (bad n) (af (F99 n (⟨p,w⟩,())) λd=>ah (D.aK d.1.1) (bad n) (rest n))) r:=by
 obtain⟨c,g,a⟩:=e87 hs;have e:=e46 g;cases c with
 |false=>exact Ev.af e (h2 λh=>by have:=a.2 h.1;cases this)
 |true=>
  have j:=a.1 rfl;obtain⟨b,i,f⟩:=e99 j.ok hs k;refine Ev.af e (Ev.af i ?_);cases b with
  |false=>exact h2 λh=>by have:=f.2 h.2;cases this
  |true=>exact h1 ⟨j,f.1 rfl⟩
end
end
section
def pH(l:L Int)(x:Int):L Int:=bif l.contains x then l else l++[x]
def dN(l ns:L Int):L Int:=ns.foldl pH l
def ct:L aJ->L Int
 |[]=>[]
 |v::l=>bif D.aH v.Kind 5 then v.N::ct l else ct l
def fh:L aD->L Int
 |[]=>[]
 |f::l=>ct f.Env++(ct f.cw++fh l)
def kU(o:aZ):L Int:=ct o.cw++fh o.Frames
def gQ:L Int->Int->Nat
 |[],_=>0
 |a::l,x=>bif D.aH a x then 0 else gQ l x+1
def iS(g:Int->Int)(v:aJ):aJ:=bif D.aH v.Kind 5 then⟨v.Kind,g v.N⟩else v
def sy(g:Int->Int)(f:aD):aD:=⟨f.Node,f.Env.map (iS g),f.cw.map (iS g)⟩
def n4(g:Int->Int)(o:aZ):aZ:=⟨o.Form,o.N,o.cw.map (iS g),o.Frames.map (sy g)⟩
def nQ(a:L aZ):Nat->Nat->L Int->L Int
 |0,_,l=>l
 |m+1,i,l=>if i<l.length then nQ a m (i+1) (dN l (kU (a.getD (l.getD i 0).toNat aS)))else l
def qQ(w:ak):L Int:=nQ w.bC (w.bC.length+1) 0 (dN [] w.bz)
def l5(w:ak):ak:=⟨(qQ w).map (λn=>n4 (λx=>gQ (qQ w) x) (eU w n)),w.bz.map (λn=>(gQ (qQ w) n:Int)),w.fI,w.qG,w.Used⟩
def uk(l a b:L Int):dN l (a++b)=dN (dN l a) b:=List.foldl_append ..
def BS(l a:L Int)(x:Int):dN l (a++[x])=pH (dN l a) x:=by rw[uk];rfl
def yx:∀a b:L aJ,ct (a++b)=ct a++ct b
 |[],b=>rfl
 |v::a,b=>by show(bif D.aH v.Kind 5 then v.N::ct (a++b)else ct (a++b))=(bif D.aH v.Kind 5 then v.N::ct a else ct a)++ct b;rw[yx a b];cases D.aH v.Kind 5<;>rfl
theorem Pg(v:aJ):ct [v]=bif D.aH v.Kind 5 then[v.N]else[]:=rfl
def vO:∀a b:L aD,fh (a++b)=fh a++fh b
 |[],b=>rfl
 |f::a,b=>by show ct f.Env++(ct f.cw++fh (a++b))=(ct f.Env++(ct f.cw++fh a))++fh b;rw[vO a b,nS,nS]
def BA(f:aD):fh [f]=ct f.Env++ct f.cw:=by simp[fh]
variable {l:List Int}{x:Int}{vs:List aJ}
def aeh(a:l.length<=1000):Ev (λn=>F103 n (l,x,())) ((pH l x,()),()):=by
 unfold F103 pH;refine Ev.af (aeg a) ?_;cases l.contains x with
 |true=>exact Ev.of_eq λn=>rfl
 |false=>exact Ev.of_eq λn=>by simp(disch:=first|omega|simp only[DU];omega)only[bx]
def ajV(h:vs.length<=1000)(b:∀i,(dN l (ct (vs.take i))).length<=1000):Ev (λn=>F104 n (l,vs,())) ((dN l (ct vs),()),()):=by
 unfold F104;have e:gM (R:=(L Int)×U) (B:=U) (P:=Any) (λn c=>ah (D.bM c.2.1 (aj vs)) (aP (az c.2.1 vs) (ah (D.aH (aT vs (ai c.2.1) aB).1 5) (aP (az c.2.1 vs) (af (F103 n (c.1,(aT vs (ai c.2.1) aB).2,())) λd=>Z (LO.next (d.1.1,D.add .i64 c.2.1 1,())))) (Z (LO.next (c.1,D.add .i64 c.2.1 1,()))))) (Z (LO.out 0 c)))
   (l,0,()) (.out 0 (dN l (ct (vs.take vs.length)),(vs.length:Int),())):=by
  refine e8 (s:=λi=>(dN l (ct (vs.take i)),(i:Int),())) vs.length 0 (λi f=>?_) (Ev.of_eq λn=>?_)
  .have a:dN l (ct (vs.take (i+1)))=bif D.aH (vs.getD i aB).Kind 5 then pH (dN l (ct (vs.take i))) (vs.getD i aB).N else dN l (ct (vs.take i)):=by rw[<-take_succ aB f,yx,Pg];cases D.aH (vs.getD i aB).Kind 5 with|true=>rw[cn,cn,BS]|false=>rw[cM,cM,mD]
   rw[a];refine Ev.congr (g:=λn=>ah (D.aH (vs.getD i aB).Kind 5) (af (F103 n (dN l (ct (vs.take i)),(vs.getD i aB).N,())) λd=>Z (LO.next (d.1.1,(((i+1:Nat):Int)),()))) (Z (LO.next (dN l (ct (vs.take i)),((i+1:Nat):Int),())))) (λn=>?_) ?_
   .simp (disch:=omega)only[bx,bO,er,ep]
   .cases D.aH (vs.getD i aB).Kind 5 with|true=>exact Ev.af (aeh (b i)) (Ev.of_eq λn=>rfl)|false=>exact Ev.of_eq λn=>rfl
  .simp (disch:=omega)only[bx]<;>rfl
 refine Ev.aM e (λn c=>_) _ (Ev.of_eq λn=>?_);rw[cF,mE]
def N5:∀{l:L Int}{x:Int}{i:Nat},i<l.length->l.getD i 0=x->(∀j,j<i->l.getD j 0≠x)->gQ l x=i
 |[],_,i,h,_,_=>absurd h (Nat.not_lt_zero _)
 |a::l,x,0,_,h,_=>by have h:a=x:=h;unfold gQ;rw[gZ h];rfl
 |a::l,x,i+1,c,h,b=>by have d:a≠x:=b 0 (by omega);unfold gQ;rw[gR d,cond_false,N5 (l:=l) (x:=x) (i:=i) (by simpa using c) (by simpa using h) (λj e=>by have:=b (j+1) (by omega);simpa using this)]
def Fv:∀{l:L Int}{x:Int},(∀j,j<l.length->l.getD j 0≠x)->gQ l x=l.length
 |[],_,_=>rfl
 |a::l,x,c=>by have d:a≠x:=c 0 (by simp);unfold gQ;rw[gR d,cM,Fv (l:=l) (x:=x) (λj b=>by have:=c (j+1) (by simpa using b);simpa using this),gi]
def e63(hl:l.length<=1000):Ev (λn=>F63 n (l,x,())) (((gQ l x:Int),()),()):=by
 unfold F63;rcases lu (R:=Int×U) (B:=U) (P:=Any) (F:=λn c=>ah (D.bM c.1 (aj l)) (aP (az c.1 l) (ah (D.aK (D.aH (aT l (ai c.1) 0) x)) (Z (LO.next (D.add .i64 c.1 1,()))) (Z (LO.out 0 c)))) (Z (LO.out 0 c))) l.length (λi=>((i:Int),())) (λi=>!(D.aH (l.getD i 0) x)) (λi=>.out 0 ((i:Int),())) 0 (λ_ _ h=>by cases h)
  (λi e _=>Ev.of_eq λn=>by
   simp(disch:=omega)only[bx];cases D.aH (l.getD i 0) x<;>simp(disch:=omega)only[bx,bO,er,ep,BG,zE]) (λ_=>Ev.of_eq λn=>by simp(disch:=omega)only[bx]<;>rfl)with⟨a,r⟩|⟨i,e,a,b,r⟩
 .refine Ev.aM r (λn c=>_) _ (Ev.of_eq λn=>?_);rw[cF,Fv (λj d h=>by have:=a j d;rw[gZ h]at this;cases this)]
 .refine Ev.aM r (λn c=>_) _ (Ev.of_eq λn=>?_);have h1:l.getD i 0=x:=by cases f:D.aH (l.getD i 0) x with|true=>exact oT.1 f|false=>rw[f]at a;cases a
  rw[cF,N5 e h1 (λj d h=>by have:=b j d;rw[gZ h]at this;cases this)]
def e62{a:L Int}(hl:vs.length<=1000)(f:a.length<=1000):Ev (λn=>F62 n (vs,a,())) ((vs.map (iS λx=>gQ a x),()),()):=by
 unfold F62;have h:∀i,i<vs.length->(vs.take (i+1)).map (iS λx=>gQ a x)=(vs.take i).map (iS λx=>gQ a x)++[iS (λx=>gQ a x) (vs.getD i aB)]:=λi b=>by rw[<-take_succ aB b,vS];rfl
 refine Ev.aM (F:=λn c=>_) (o:=.out 0 ((vs.take vs.length).map (iS λx=>gQ a x),(vs.length:Int),())) (e8 (s:=λi=>((vs.take i).map (iS λx=>gQ a x),(i:Int),())) vs.length 0 (λi b=>?_) (Ev.of_eq λn=>?_)) (λn c=>_) _ (Ev.of_eq λn=>?_)
 .rw[h i b];have j:((vs.take i).map (iS λx=>gQ a x)).length<=1000:=by rw[mC,qh];omega
  by_cases h5:(vs.getD i aB).Kind=5
  .refine Ev.congr (g:=λn=>af (af (F63 n (a,(vs.getD i aB).N,())) λd=>Z (LO.next (W,((vs.getD i aB).Kind,d.1),()))) λ(d:LO (Bool×(Int×Int×U)×U) ((L aJ)×U) ((Int×Int×U)×U) Any)=>LO.jn d (λe=>aP (dR ((vs.take i).map (iS λx=>gQ a x)) [aJ.mk e.2.1.1 e.2.1.2.1]) (Z (LO.next (dj ((vs.take i).map (iS λx=>gQ a x)) [aJ.mk e.2.1.1 e.2.1.2.1],((i+1:Nat):Int),())))) (λ_ _=>Y) (λ_ g=>Z (LO.ret () g)) λ_ _=>Y) (λn=>?_) ?_
   .simp (disch:=omega)only[bx,bO,er,ep]
   .refine Ev.af (Ev.af (e63 f) (Ev.of_eq λn=>rfl)) (Ev.of_eq λn=>?_);show aP (dR _ [_]) (Z (LO.next (dj _ [_],_)))=_;rw[HH (by simp only[IK];omega),Ou];unfold iS;rw[gZ h5];rfl
  .refine Ev.of_eq λn=>?_;simp(disch:=first|omega|simp only[DU];omega)only[bx,h5,bO,er,ep];unfold iS;rw[gR h5];rfl
 .simp (disch:=omega)only[bx]<;>rfl
 .rw[cF,mE]
end
section
def Ga(k:Nat)(l:L Int):Prop:=l.Nodup∧∀x∈l,0<=x∧x<k
variable {k i:Nat}{l:List Int}{x:Int}{o:aZ}
def Ga.len(h:Ga k l):l.length<=k:=by
 have:=wL (S:=(List.range k).map Int.ofNat) h.1 (λx c=>by
  obtain⟨a,b⟩:=h.2 x c;exact sr.2 ⟨x.toNat,IQ.2 (by omega),by show((x.toNat:Nat):Int)=x;omega⟩)
 simpa using this
def Ga.put(h:Ga k l)(h1:0<=x∧x<k):Ga k (pH l x):=by
 unfold pH;cases e:l.contains x with
 |true=>exact h
 |false=>
  have f:x∉l:=λg=>by rw[BJ.2 g]at e;cases e
  refine⟨BQ.2 ⟨h.1,by simp,λa i b j c=>?_⟩,λy d=>?_⟩
  .rw[ko.1 j]at c;exact f (c▸i)
  .rcases dy.1 d with d|d
   .exact h.2 y d
   .rw[ko.1 d];exact h1
def Ga.I1{k:Nat}:∀{ns l:L Int},Ga k l->(∀x∈ns,0<=x∧x<k)->Ga k (dN l ns)
 |[],_,h,_=>h
 |x::ns,l,h,a=>Ga.I1 (ns:=ns) (h.put (a x dX)) (λy b=>a y (gl _ b))
def VJ(l:L Int)(x:Int):l.length<=(pH l x).length:=by unfold pH;cases l.contains x<;>simp
def BT:∀(ns l:L Int),l.length<=(dN l ns).length
 |[],l=>bS _
 |x::ns,l=>eO (VJ l x) (BT ns (pH l x))
def kB{p:av}{k:Nat}:∀{vs:L aJ},(∀v∈vs,iN p k v)->∀x∈ct vs,0<=x∧x<k
 |[],_,x,a=>by cases a
 |v::vs,h,x,a=>by
  have c:=kB (vs:=vs) (λv d=>h v (gl _ d));unfold ct at a;cases b:D.aH v.Kind 5 with
  |true=>
   rw[b,cond_true]at a;rcases ej.1 a with rfl|a
   .have h5:=oT.1 b;rcases h v dX with h|h|h|h|h<;>omega
   .exact c x a
  |false=>rw[b,cM]at a;exact c x a
def Lh(vs:L aJ)(i:Nat):∀x∈ct (vs.take i),x∈ct vs:=λx a=>by
 have:ct vs=ct (vs.take i)++ct (vs.drop i):=by rw[<-yx,Ll]
 rw[this];exact dH _ a
structure Sm(p:av)(k:Nat)(o:aZ):Prop where
 v:∀v∈o.cw,iN p k v
 f:∀f∈o.Frames,(∀v∈f.Env,iN p k v)∧∀v∈f.cw,iN p k v
 vl:o.cw.length<=1000
 fl:o.Frames.length<=1000
 el:∀f∈o.Frames,f.Env.length<=1000∧f.cw.length<=1000
def pV.sm{p:av}(g:DH p)(h:pV p k o):Sm p k o:=by
 obtain⟨a,b,c⟩:=h.small g;refine⟨?_,?_,a,b,c⟩
 .cases h with
  |data _ _ _ h=>exact h
  |func _ _ _ _ h=>exact h
  |cell h=>exact λv d=>by rw[ko.1 d];exact h
  |chan _ h=>exact h
  |LI=>exact λv d=>by cases d
  |JE=>exact λv d=>by cases d
  |back _ _ h=>exact λv d=>by rw[ko.1 d];exact h
  |done h=>exact λv d=>by rw[ko.1 d];exact h
  |dead=>exact λv d=>by cases d
 .have key:∀{f:aD},fe p k f->(∀v∈f.Env,iN p k v)∧∀v∈f.cw,iN p k v:=λh=>⟨h.env,h.vals⟩;cases h with
  |data=>exact λv d=>by cases d
  |func=>exact λv d=>by cases d
  |cell=>exact λv d=>by cases d
  |chan=>exact λv d=>by cases d
  |LI _ h=>exact λf e=>key (h f e).1
  |JE _ h i=>
   intro f e;rcases dy.1 e with e|e
   .exact key (h f e).1
   .rw[ko.1 e];exact key i
  |back _ h=>exact λf e=>key (h f e).1
  |done=>exact λv d=>by cases d
  |dead=>exact λv d=>by cases d
def ug{p:av}{k:Nat}:∀{b:L aD},(∀f∈b,(∀v∈f.Env,iN p k v)∧∀v∈f.cw,iN p k v)->∀x∈fh b,0<=x∧x<k
 |[],_,x,a=>by cases a
 |f::b,h,x,a=>by
  unfold fh at a;rcases dy.1 a with a|a
  .exact kB (h f dX).1 x a
  .rcases dy.1 a with a|a
   .exact kB (h f dX).2 x a
   .exact ug (λf c=>h f (gl _ c)) x a
def Sm.refs{p:av}(h:Sm p k o):∀x∈kU o,0<=x∧x<k:=λx a=>by
 rcases dy.1 a with a|a
 .exact kB h.v x a
 .exact ug h.f x a
section
variable {p:av}{w:ak}
def TM(a:k<=1000){vs:L aJ}(b:vs.length<=1000)(hl:Ga k l)(h:∀v∈vs,iN p k v):Ev (λn=>F104 n (l,vs,())) ((dN l (ct vs),()),()):=
 ajV b λi=>eO (hl.I1 (λx c=>kB h x (Lh vs i x c))).len a
def Vz(n:Nat)(b:ak×U)(g:L Int×Int×U):O (LO (L Int×Int×U) (L Int×U) U Any):=
 ah (D.bM g.2.1 (aj g.1)) (aP (az g.2.1 g.1) (aP (ef (ai g.2.1) g.1) (aP (az (aT g.1 (ai g.2.1) 0) b.1.1) (af (F104 n (g.1,(aT b.1.1 (ai (aT g.1 (ai g.2.1) 0)) aS).3,())) λh=>af (@iter (L Int×Int×U) (L Int×U) U Any (λi=>ah (D.bM i.2.1 (aj (aT b.1.1 (ai (aT g.1 (ai g.2.1) 0)) aS).4)) (aP (az i.2.1 (aT b.1.1 (ai (aT g.1 (ai g.2.1) 0)) aS).4) (aP (az i.2.1 (aT b.1.1 (ai (aT g.1 (ai g.2.1) 0)) aS).4) (af (F104 n (i.1,(aT (aT b.1.1 (ai (aT g.1 (ai g.2.1) 0)) aS).4 (ai i.2.1) aF).2,())) λj=>af (F104 n (j.1.1,(aT (aT b.1.1 (ai (aT g.1 (ai g.2.1) 0)) aS).4 (ai i.2.1) aF).3,())) λk=>Z (LO.next (k.1.1,D.add .i64 i.2.1 1,()))))) (Z (LO.out 0 i))) n (h.1.1,0,())) λi=>LO.el i (λ_ k=>Z (LO.next (k.1,D.add .i64 g.2.1 1,()))) (λ_ k=>Z (LO.ret () k)) λ_ _=>Y)))) (Z (LO.out 0 g))
def yI(hl:Ga w.bC.length l)(a:i<l.length):0<=l.getD i 0∧l.getD i 0<w.bC.length:=hl.2 _ (cG 0 a)
def yH(a:DH p)(b:sH p w)(h:0<=x∧x<w.bC.length):Sm p w.bC.length (w.bC.getD x.toNat aS):=(b.obs _ (cG aS (by omega))).sm a
def RK(q:DH p)(h:sH p w)(hl:Ga w.bC.length l)(r:i<l.length) :
  Ev (λn=>Vz n (w,()) (l,(i:Int),())) (.next (dN l (kU (w.bC.getD (l.getD i 0).toNat aS)),((i+1:Nat):Int),())):=by
 have y:=h.len;have t:=yI hl r;have a:=yH q h t;have u:=hl.len;generalize v:w.bC.getD (l.getD i 0).toNat aS=o at a;have h1:Ga w.bC.length (dN l (ct o.cw)):=hl.I1 (kB a.v);have g:∀j,Ga w.bC.length (dN (dN l (ct o.cw)) (fh (o.Frames.take j))):=λj=>h1.I1 (ug λf g=>a.f f (E9 g));unfold Vz;simp(disch:=omega)only[bx,v];refine Ev.af (TM (by omega) a.vl hl a.v) ?_;refine Ev.aM (F:=λn c=>_) (o:=.out 0 (dN (dN l (ct o.cw)) (fh (o.Frames.take o.Frames.length)),(o.Frames.length:Int),())) (e8 (s:=λj=>(dN (dN l (ct o.cw)) (fh (o.Frames.take j)),(j:Int),())) o.Frames.length 0 (λj k=>?_) (Ev.of_eq λn=>?_)) (λn c=>_) _ (Ev.of_eq λn=>?_)
 .have x:=a.fl;have m:=cG aF k;have b:=a.f _ m;have d:=a.el _ m;have e:dN (dN l (ct o.cw)) (fh (o.Frames.take (j+1)))=dN (dN (dN (dN l (ct o.cw)) (fh (o.Frames.take j))) (ct (o.Frames.getD j aF).Env)) (ct (o.Frames.getD j aF).cw):=by rw[<-take_succ aF k,vO,uk,BA,uk]
  rw[e];simp(disch:=omega)only[bx];refine Ev.af (TM (by omega) d.1 (g j) b.1) (Ev.af (TM (by omega) d.2 ((g j).I1 (kB b.1)) b.2) (Ev.of_eq λn=>?_));simp(disch:=omega)only[bx,bO,er,ep]
 .simp (disch:=omega)only[bx]<;>rfl
 .rw[cF,mE];simp(disch:=omega)only[bx,bO,er,ep];rw[<-uk];rfl
def BE(e:DH p)(d:sH p w):∀(m i:Nat)(l:L Int),Ga w.bC.length l->i<=l.length->w.bC.length+1<=i+m->
  Ga w.bC.length (nQ w.bC m i l)∧gM (λn g=>Vz n (w,()) g) (l,(i:Int),()) (.out 0 (nQ w.bC m i l,((nQ w.bC m i l).length:Int),()))
 |0,i,l,c,f,j=>by have:=c.len;omega
 |m+1,i,l,c,f,j=>by
  unfold nQ;by_cases h:i<l.length
  .rw[aY h];have k:=yI c h;have o:=yH e d k;have q:=BT (kU (w.bC.getD (l.getD i 0).toNat aS)) l;obtain⟨a,b⟩:=BE e d m (i+1) _ (c.I1 o.refs) (by omega) (by omega);exact⟨a,.next (RK e d c h) b⟩
  .rw[bK h];have:i=l.length:=by omega
   subst this;refine⟨c,.out (Ev.of_eq λn=>?_)⟩;unfold Vz;have:=c.len;have:=d.len;simp(disch:=omega)only[bx]
def wJ(b:sH p w)(i:Nat):Ga w.bC.length (dN [] (w.bz.take i)):=
 Ga.I1 ⟨.nil,λx a=>by cases a⟩ λx a=>by have:=b.task x (E9 a);exact⟨this.1,this.2.1⟩
def EZ(b:DH p)(a:sH p w):Ga w.bC.length (qQ w):=by have:=wJ a w.bz.length;rw[mE]at this;exact(BE b a (w.bC.length+1) 0 _ this (yA _) (by omega)).1
def e61(d:DH p)(a:sH p w):Ev (λn=>F61 n (w,())) ((qQ w,()),()):=by
 have g:=a.len;have e:=a.tl;have b:=wJ a w.bz.length;rw[mE]at b;unfold F61;refine Ev.aM (F:=λn c=>_) (o:=.out 0 (dN [] (w.bz.take w.bz.length),(w.bz.length:Int),())) (e8 (s:=λi=>(dN [] (w.bz.take i),(i:Int),())) w.bz.length 0 (λi f=>?_) (Ev.of_eq λn=>?_)) (λn c=>_) _ ?_
 .have:=(wJ a i).len;rw[<-take_succ 0 f,BS];simp(disch:=omega)only[bx];refine Ev.af (aeh (by omega)) (Ev.of_eq λn=>?_);simp(disch:=omega)only[bx,bO,er,ep]
 .simp (disch:=omega)only[bx]<;>rfl
 .rw[mE];refine Ev.congr (λn=>cF ..) ?_;exact Ev.aM (BE d a (w.bC.length+1) 0 _ b (yA _) (by omega)).2 (λn c=>_) _ (Ev.of_eq λn=>rfl)
end
end
end Mn
end
end
