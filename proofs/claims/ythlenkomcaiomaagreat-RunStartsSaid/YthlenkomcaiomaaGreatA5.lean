import Derived.KernelRfl
import Derived.Test.YthlenkomcaiomaaGreatA4
set_option linter.all false
set_option maxRecDepth 100000
set_option maxHeartbeats 0
noncomputable section
open Option renaming some->Z,none->Y
open Bool renaming true->W,false->J
open Nat renaming beq->Nq,ble->Nl,blt->Nt,succ->Ns,add->Na
open TL.LO renaming next->N,ret->X,out->H
open TL.Rx renaming ok->G,iJ->M
section
namespace Mn
open Go TL
def OV(b:agx)(d:Int×U):ai:=
 bn b.1.4 (az d.1) bz
def OU(b:agx)(d:Int×U):ai:=
 bn b.2.1.4 (az d.1) bz
def F55:arw:=
 λn b=>aj (au (aa b.1.1 b.2.1.1)) (Z ((J,()),())) (aj (au (aa b.1.2 b.2.1.2)) (Z ((J,()),())) (ah (F110 n
 (b.1.3,b.2.1.3,())) λc=>aj (au c.1.1) (Z ((J,()),())) (aj (au (aa (aq b.1.4) (aq b.2.1.4))) (Z ((J,()),()))
 (ah (aQ (Int×U) (Bool×U) (U) (λd=>aj (aE d.1 (aq b.1.4)) (aO (aI d.1 b.1.4) (aO (aI d.1 b.2.1.4) (aj (au
 (aa (OV b d).1 (OU b d).1)) (Z (X () (J,()))) (aj (au (o7 (OV b d).4 (OU b d).4)) (Z (X () (J,())))
 (ah (F110 n ((OV b d).2,(OU b d).2,())) λe=>aj (au e.1.1) (Z (X () (J,()))) (ah (F110 n ((OV b d).3,(OU b d).3,
 ())) λg=>aj (au g.1.1) (Z (X () (J,()))) (Z (N (aG .i64 d.1 1,()))))))))) (Z (H 0 d))) n (0,())) λd=>
 bK d (λ_ _=>Z ((W,()),())) (λ_ g=>Z (g,())) λ_ _=>Y))))
def k55(n:Nat):OC:=⟨55,⟨ar8,K4,J,F55 n⟩,cS [aoV n] [(55,0,⟨[(5,dy)],[],[],0⟩)] n 10 55⟩
def OW(n:Nat):O Y4:=
 Z ((J,()),())
def F18:Y25:=
 λn b=>aj (au (aa (aq b.1.1) (aq b.2.1.1))) (OW n) (ah (F35 n (b.1.2,b.2.1.2,())) λc=>aj (au c.1.1) (OW n) (ah (F54
 n (b.1.3,b.2.1.3,())) λd=>aj (au d.1.1) (OW n) (ah (F35 n (b.1.4,b.2.1.4,())) λe=>aj (au e.1.1) (OW n) (aj (au
 (aa b.1.5 b.2.1.5)) (OW n) (ah (aQ (Int×U) (Bool×U) (U) (λg=>aj (aE g.1 (aq b.1.1)) (aO (aI g.1 b.1.1) (aO
 (aI g.1 b.2.1.1) (ah (F55 n (bn b.1.1 (az g.1) bL,bn b.2.1.1 (az g.1) bL,())) λh=>aj (au h.1.1) (Z (X () (J,
 ()))) (Z (N (aG .i64 g.1 1,())))))) (Z (H 0 g))) n (0,())) λg=>bK g (λ_ _=>Z ((W,()),())) (λ_ i=>Z
 (i,())) λ_ _=>Y)))))
def k18(n:Nat):OC:=⟨18,⟨ar7,K4,J,F18 n⟩,cS [k35 n,k54 n,k55 n] [(18,0,⟨[(5,dy)],[],[],0⟩)] n 10 18⟩
def F16:ary:=
 λn b=>ah (F18 n (b.1,cY,())) λc=>Z c
def k16(n:Nat):OC:=⟨16,⟨ar6,K4,J,F16 n⟩,cS [k18 n] [] n 10 16⟩
def DH(n:Nat):VW->O VW:=
 λc=>ck c (λd=>Z (N d)) (λ_ _=>Y) (λ_ e=>Z (X () e)) λ_ _=>Y
def Bm(n:Nat):VW->O VW:=
 λe=>ck e (λg=>Z (N g)) (λ_ _=>Y) (λ_ h=>Z (X () h)) λ_ _=>Y
def F69:Nat->bD×bN×U->Hq:=
 λn b=>ah (aj (aa b.2.1.1 7) (Z (N (W,()))) (ah (aj (aa b.2.1.1 8) (Z (N (W,()))) (ah (aj (aa b.2.1.1 13)
 (Z (N (W,()))) (ah (aj (aa b.2.1.1 14) (Z (N (W,()))) (ah (aj (aa b.2.1.1 15) (Z (N (W,()))) (ah (aj
 (aa b.2.1.1 16) (Z (N (W,()))) (ah (aj (aa b.2.1.1 17) (Z (N (W,()))) (ah (aj (aa b.2.1.1 23) (Z (N
 (W,()))) (Z (N (aa b.2.1.1 27,())))) (DH n))) (DH n))) (DH n))) (DH n))) (DH n))) (DH n))) (DH n))) λ(c:VW)
 =>ck c (λd=>aj d.1 (Z ((2,()),())) (ah (aj (aa b.2.1.1 9) (Z (N (W,()))) (ah (aj (aa b.2.1.1 12) (Z (N
 (W,()))) (ah (aj (aa b.2.1.1 19) (Z (N (W,()))) (ah (aj (aa b.2.1.1 21) (Z (N (W,()))) (ah (aj (aa b.2.1.1
 22) (Z (N (W,()))) (ah (aj (aa b.2.1.1 24) (Z (N (W,()))) (ah (aj (aa b.2.1.1 25) (Z (N (W,()))) (ah
 (aj (aa b.2.1.1 28) (Z (N (W,()))) (ah (aj (aa b.2.1.1 29) (Z (N (W,()))) (Z (N (aa b.2.1.1 34,()))))
 (Bm n))) (Bm n))) (Bm n))) (Bm n))) (Bm n))) (Bm n))) (Bm n))) (Bm n))) λ(e:VW)=>ck e (λg=>aj g.1 (Z ((1,
 ()),())) (aj (aa b.2.1.1 18) (aO (aI b.2.1.2 b.1.1.5) (Z (((bn b.1.1.5 (az b.2.1.2) aY).2,()),()))) (Z ((0,()),())))) (λ_
 _=>Y) (λ_ h=>Z (h,())) λ_ _=>Y)) (λ_ _=>Y) (λ_ e=>Z (e,())) λ_ _=>Y
def k69(n:Nat):OC:=⟨69,⟨ar5,K2,J,F69 n⟩,cS [] [(69,1000003,⟨[(7,dg)],[],[],0⟩),(69,1000004,⟨[(7,dg)],[],[],0⟩),(69,1000005,⟨[(7,dg)],[],[],0⟩),(69,1000006,⟨[(7,dg)],[],[],0⟩),(69,1000007,⟨[(7,dg)],[],[],0⟩),(69,1000008,⟨[(7,dg)],[],[],0⟩),(69,1000009,⟨[(7,dg)],[],[],0⟩),(69,1000010,⟨[(7,dg)],[],[],0⟩),(69,1000013,⟨[(17,dg)],[],[],0⟩),(69,1000014,⟨[(17,dg)],[],[],0⟩),(69,1000015,⟨[(17,dg)],[],[],0⟩),(69,1000016,⟨[(17,dg)],[],[],0⟩),(69,1000017,⟨[(17,dg)],[],[],0⟩),(69,1000018,⟨[(17,dg)],[],[],0⟩),(69,1000019,⟨[(17,dg)],[],[],0⟩),(69,1000020,⟨[(17,dg)],[],[],0⟩),(69,1000021,⟨[(17,dg)],[],[],0⟩)] n 10 69⟩
def F70:Nat->L ai×ai×U->O (VX×U):=
 λn b=>aO (de b.1 [b.2.1]) (Z ((cZ b.1 [b.2.1],()),()))
def k70(n:Nat):OC:=⟨70,⟨ar4,K40,J,F70 n⟩,cS [] [] n 10 70⟩
def F79:Nat->akL->O Y2:=
 λn b=>aO (aI b.2.1 b.1.2) (aO (aI (bn b.1.2 (az b.2.1) 0) b.1.1) (aO (dV (az (bn b.1.2 (az b.2.1) 0)) b.1.1) (Z
 ((aZ.mk (ak.mk (lE b.1.1 (az (bn b.1.2 (az b.2.1) 0)) (bx.mk 6 b.2.2.1 [] [])) b.1.2 b.1.3 b.1.4 b.1.5) 1 (aP.mk
 b.2.1 0 b.2.2.1 bq),()),()))))
def Xy(n:Nat):OC:=⟨79,⟨ar3,K132,J,F79 n⟩,cS [] [] n 10 79⟩
def F71:Nat->ak×Int×L ai×U->O Y2:=
 λn b=>aj (aE 40 (aq b.2.2.1)) (ah (F79 n (b.1,b.2.1,4,())) λc=>Z c) (aO (aI b.2.1 b.1.2) (aO (aI (bn b.1.2 (az b.2.1)
 0) b.1.1) (aO (dV (az (bn b.1.2 (az b.2.1) 0)) b.1.1) (Z ((aZ.mk (ak.mk (lE b.1.1 (az (bn b.1.2 (az b.2.1) 0))
 (bx.mk 6 0 [] b.2.2.1)) b.1.2 b.1.3 b.1.4 b.1.5) 0 cN,()),())))))
def k71(n:Nat):OC:=⟨71,⟨ar2,K132,J,F71 n⟩,cS [Xy n] [] n 10 71⟩
def F124:Nat->L ax×ax×U->O Y57:=
 λn b=>aO (de b.1 [b.2.1]) (Z ((cZ b.1 [b.2.1],()),()))
def XC(n:Nat):OC:=⟨124,⟨ar1,K135,J,F124 n⟩,cS [] [] n 10 124⟩
def OR(b:akT):ai:=
 bn b.1 (az (bf .i64 (aq b.1) 1)) bz
def F72:Nat->akT->O (VX×U):=
 λn b=>aO (aI (bf .i64 (aq b.1) 1) b.1) (aO (dV (az (bf .i64 (aq b.1) 1)) b.1) (ah (F124 n ((OR b).3,b.2)) λc=>aO
 (aI (bf .i64 (aq b.1) 1) b.1) (aO (dV (az (bf .i64 (aq b.1) 1)) b.1) (Z ((lE b.1 (az (bf .i64 (aq b.1) 1)) (ai.mk
 (OR b).1 (OR b).2 c.1.1 (OR b).4),()),())))))
def k72(n:Nat):OC:=⟨72,⟨ar0,K40,J,F72 n⟩,cS [XC n] [] n 10 72⟩
def F73:Y66:=
 λn b=>aj b.1 (Z ((ax.mk 2 1,()),())) (Z ((ax.mk 2 0,()),()))
def k73(n:Nat):OC:=⟨73,⟨P27,K20,J,F73 n⟩,cS [] [] n 10 73⟩
def F74:akY:=
 λn _=>Z ((ax.mk 3 0,()),())
def k74(n:Nat):OC:=⟨74,⟨[],K20,J,F74 n⟩,cS [] [] n 10 74⟩
def F126:Y92:=
 λn b=>Z ((ax.mk 5 b.1,()),())
def abx(n:Nat):OC:=⟨126,⟨P26,K20,J,F126 n⟩,cS [] [] n 10 126⟩
def F75:Nat->ak×Int×L ai×bx×U->O Y2:=
 λn b=>aj (br 120 (aq b.1.1)) (ah (F79 n (b.1,b.2.1,4,())) λc=>Z c) (aO (de b.1.1 [b.2.2.2.1]) (ah (F126 n (bf .i64 (aq
 (cZ b.1.1 [b.2.2.2.1])) 1,())) λc=>ah (F72 n (b.2.2.1,c.1)) λd=>ah (F71 n (ak.mk (cZ b.1.1 [b.2.2.2.1]) b.1.2 b.1.3 b.1.4
 b.1.5,b.2.1,d.1)) λe=>Z e))
def k75(n:Nat):OC:=⟨75,⟨arZ,K132,J,F75 n⟩,cS [k71 n,k72 n,Xy n,abx n] [] n 10 75⟩
def F127:Nat->ak×ax×Int×U->O (akI×U):=
 λn b=>aj (au (aa b.2.1.1 5)) (Z ((bL,J,()),())) (aO (aI b.2.1.2 b.1.1) (aj (au (aa (bn b.1.1 (az b.2.1.2)
 bL).1 b.2.2.1)) (Z ((bL,J,()),())) (aO (aI b.2.1.2 b.1.1) (Z ((bn b.1.1 (az b.2.1.2) bL,W,()),())))))
def Qa(n:Nat):OC:=⟨127,⟨arY,K33,J,F127 n⟩,cS [] [] n 10 127⟩
def F128:Nat->bD×ak×ax×ax×U->O (Y74×U):=
 λn b=>aj (aa b.2.2.1.1 4) (aO (aI b.2.2.1.2 b.1.1.3) (Z ((ai.mk (bn b.1.1.3 (az b.2.2.1.2) 0) [b.2.2.2.1] [] J,W,()),
 ()))) (ah (F127 n (b.2.1,b.2.2.1,2,())) λc=>aj (au c.1.2.1) (Z ((bz,J,()),())) (ah (F124 n (c.1.1.3,b.2.2.2)) λd=>
 Z ((ai.mk c.1.1.2 d.1.1 [] J,W,()),())))
def aiA(n:Nat):OC:=⟨128,⟨arX,K35,J,F128 n⟩,cS [XC n,Qa n] [] n 10 128⟩
def F76:Nat->bD×ak×Int×L ai×ax×ax×Bool×U->O Y2:=
 λn b=>ah (F127 n (b.2.1,b.2.2.2.2.1,5,())) λc=>aj c.1.2.1 (aO (de b.2.2.2.1 c.1.1.4) (ah (F72 n (cZ b.2.2.2.1 c.1.1.4,
 b.2.2.2.2.2.1,())) λd=>ah (F71 n (b.2.1,b.2.2.1,d.1)) λe=>Z e)) (ah (F128 n (b.1,b.2.1,b.2.2.2.2.1,b.2.2.2.2.2.1,())) λd=>
 aj (au d.1.2.1) (ah (F79 n (b.2.1,b.2.2.1,2,())) λe=>Z e) (ah (F70 n (b.2.2.2.1,ai.mk d.1.1.1 d.1.1.2 d.1.1.3 b.2.2.2.2.2.2.1,
 ())) λe=>ah (F71 n (b.2.1,b.2.2.1,e.1)) λg=>Z g))
def k76(n:Nat):OC:=⟨76,⟨arW,K132,J,F76 n⟩,cS [k70 n,k71 n,k72 n,Xy n,Qa n,aiA n] [] n 10 76⟩
abbrev WS(F:Fn VH K44 J):lI sg:=⟨VH,K44,J,F⟩
def CJ(n:Nat)(f129:acN->acL)(c:acN):Y46->acL:=
 λd=>Z (([],bZ (aa c.2.2.1.1 d.1.1.1) (bZ (aa c.2.2.1.2 d.1.1.2) W),()),())
def B129:Nat->(acN->acL)->acN->acL:=
 λn f129 c=>aj (aa c.2.1.1 1) (Z (([],W,()),())) (aj (aa c.2.1.1 2) (Z (([c.2.2.1],W,()),())) (aj (aa c.2.1.1 3) (ah
 (F43 n (c.2.1.2,())) (CJ n f129 c)) (aj (aa c.2.1.1 4) (ah (F73 n (aa c.2.1.2 1,())) (CJ n f129 c)) (aj (aa c.2.1.1 5) (ah (F74
 n ()) (CJ n f129 c)) (ah (F127 n (c.1,c.2.2.1,1,())) λd=>aj (au d.1.2.1) (Z (([],J,()),())) (aj (au (aa d.1.1.2
 c.2.1.2)) (Z (([],J,()),())) (aj (au (aa (aq d.1.1.3) (aq c.2.1.4))) (Z (([],J,()),())) (ah (aQ (Y58) (acM) (U) (λe=>aj (aE e.2.1 (aq c.2.1.4)) (aO (aI e.2.1 c.2.1.4) (aO (aI e.2.1 d.1.1.3) (ah (f129 (c.1,bn c.2.1.4 (az e.2.1)
 aK,bn d.1.1.3 (az e.2.1) bq,())) λg=>aj (au g.1.2.1) (Z (X () ([],J,()))) (aO (de e.1 g.1.1) (Z (N
 (cZ e.1 g.1.1,aG .i64 e.2.1 1,()))))))) (Z (H 0 e))) n ([],0,())) λe=>bK e (λ_ h=>Z ((h.1,W,()),())) (λ_ h=>
 Z (h,())) λ_ _=>Y))))))))
def D129(n:Nat)(f129:Fn VH K44 J)(a:bC prog 129 (WS f129)):bC prog 129 (WS (B129 n f129)):=cS [k43 n,k73 n,k74 n,Qa n,⟨129,WS f129,a⟩] [(129,1,⟨[(10,.one (.own (.st 4))),(11,dy)],[],[],0⟩)] n 10 129
def R129(n k:Nat):(Fn VH K44 J):=Nat.rec (motive:=λ_=>(Fn VH K44 J)) (λ_=>Y) (λ_ r=>B129 n r) k
def F129(n:Nat):Fn VH K44 J:=(R129 n n)
def aee(n:Nat):∀k,bC prog 129 (WS (R129 n k))
 |0=>cm (enters 129 (by kernel_rfl))
 |k+1=>have a:=aee n k
  D129 n _ a
def aoU(n:Nat):OC:=⟨129,WS (F129 n),(aee n n)⟩
def JZ(b:IC):Int:=
 bf .i64 (aq b.2.2.2.1) 1
def DG(b:IC):Bool:=
 aI 0 b.2.2.2.2.2.1
def jO(b:IC):ai:=
 bn b.2.2.2.1 (az (JZ b)) bz
def OQ(b:IC):ax×U:=
 (bn b.2.2.2.2.2.1 (az 0) bq,())
def DF(b:IC):Bool:=
 eK 0 (JZ b) (aq b.2.2.2.1)
def DE(b:IC):L ai:=
 cG b.2.2.2.1 0 (JZ b)
def xg(n:Nat)(b:IC):Y45:=
 λd=>ah (F71 n (b.2.1,b.2.2.1,d.1)) λe=>Z e
def Tn(n:Nat)(b:IC):O Y2:=
 aO (DF b) (ah (F70 n (DE b,ai.mk b.2.2.2.2.1.2 (jO b).2 (jO b).3 (jO b).4,())) (xg n b))
def Zy(n:Nat)(b:IC):O Y2:=
 aO (DF b) (ah (F70 n (DE b,jO b,())) (xg n b))
def F77:Nat->IC->O Y2:=
 λn b=>aO (aI (JZ b) b.2.2.2.1) (aj (aa b.2.2.2.2.1.1 9) (aO (DG b) (ah (F124 n ((jO b).2,OQ b)) λc=>aO (DF b) (ah
 (F70 n (DE b,ai.mk (jO b).1 c.1.1 (jO b).3 (jO b).4,())) (xg n b)))) (aj (aa b.2.2.2.2.1.1 10) (aO (eK 0 (bf .i64
 (aq (jO b).2) b.2.2.2.2.1.2) (aq (jO b).2)) (aO (DF b) (ah (F70 n (DE b,ai.mk (jO b).1 (cG (jO b).2 0 (bf .i64
 (aq (jO b).2) b.2.2.2.2.1.2)) (jO b).3 (jO b).4,())) (xg n b)))) (aj (aa b.2.2.2.2.1.1 11) (Tn n b) (aj (aa b.2.2.2.2.1.1 12)
 (aO (DG b) (aj (au (aa (bn b.2.2.2.2.2.1 (az 0) bq).1 2)) (ah (F79 n (b.2.1,b.2.2.1,2,())) λc=>Z c) (aO (DG b)
 (aj (aa (bn b.2.2.2.2.2.1 (az 0) bq).2 0) (Tn n b) (Zy n b))))) (aj (aa b.2.2.2.2.1.1 19) (aO (aI b.2.2.2.2.1.2 b.1.1.2) (aO
 (DG b) (ah (F129 n (b.2.1,bn b.1.1.2 (az b.2.2.2.2.1.2) aK,OQ b)) λc=>aj c.1.2.1 (aO (de (jO b).2 c.1.1) (aO (DF b)
 (ah (F70 n (DE b,ai.mk (jO b).1 (cZ (jO b).2 c.1.1) (jO b).3 (jO b).4,())) (xg n b)))) (aO (DG b) (ah (F124 n ((jO
 b).3,OQ b)) λd=>aO (DF b) (ah (F70 n (DE b,ai.mk b.2.2.2.2.1.3 (jO b).2 d.1.1 (jO b).4,())) (xg n b))))))) (Zy n
 b))))))
def k77(n:Nat):OC:=⟨77,⟨arV,K132,J,F77 n⟩,cS [k70 n,k71 n,Xy n,XC n,aoU n] [] n 10 77⟩
def F63:Y41:=
 λn b=>aj (br b.2.1 b.1) (Z ((br b.1 b.2.2.1,()),())) (Z ((J,()),()))
def k63(n:Nat):OC:=⟨63,⟨P6,K4,J,F63 n⟩,cS [] [] n 10 63⟩
def OP(n:Nat)(b:Y53):O Y2:=
 ah (F79 n (b.1,b.2.1,2,())) λc=>Z c
def Tm(n:Nat)(b:Y53):Y46->O Y2:=
 λc=>ah (F72 n (b.2.2.1,c.1)) λd=>ah (F71 n (b.1,b.2.1,d.1)) λe=>Z e
def F78:Nat->Y53->O Y2:=
 λn b=>aj (aa b.2.2.2.1 17) (aj (au (aa b.2.2.2.2.1.1 b.2.2.2.2.2.1.1)) (OP n b) (aj (aE 3 b.2.2.2.2.1.1) (OP n b) (ah (F73
 n (bZ (aa b.2.2.2.2.1.1 b.2.2.2.2.2.1.1) (bZ (aa b.2.2.2.2.1.2 b.2.2.2.2.2.1.2) W),())) (Tm n b)))) (aj (au (aa
 b.2.2.2.2.1.1 1)) (OP n b) (aj (au (aa b.2.2.2.2.2.1.1 1)) (OP n b) (aj (aa b.2.2.2.1 16) (ah (F73 n (aE b.2.2.2.2.1.2
 b.2.2.2.2.2.1.2,())) (Tm n b)) (ah (aj (aa b.2.2.2.1 13) (Z (N (aG .i64 b.2.2.2.2.1.2 b.2.2.2.2.2.1.2,W,()))) (ah (aj
 (aa b.2.2.2.1 14) (Z (N (bf .i64 b.2.2.2.2.1.2 b.2.2.2.2.2.1.2,W,()))) (ah (aj (aa b.2.2.2.1 15) (Z (N (HL .i64
 b.2.2.2.2.1.2 b.2.2.2.2.2.1.2,W,()))) (Z (N (0,J,())))) λ(c:Y54)=>ck c (λd=>Z (N (d.1,J,()))) (λ_
 _=>Y) (λ_ _=>Z (X () ())) λ_ _=>Y)) λ(c:Y54)=>ck c (λd=>Z (N (d.1,J,()))) (λ_ _=>Y)
 (λ_ _=>Z (X () ())) λ_ _=>Y)) λ(c:Y54)=>ck c (λd=>ah (F63 n (d.1,(-1000000000),1000000000,())) λe=>aj
 (au e.1.1) (ah (F79 n (b.1,b.2.1,4,())) λg=>Z g) (ah (F43 n (d.1,())) (Tm n b))) (λ_ _=>Y) (λ_ _=>Z
 ((jN,()),())) λ_ _=>Y))))
def k78(n:Nat):OC:=⟨78,⟨arU,K132,J,F78 n⟩,cS [k43 n,k63 n,k71 n,k72 n,k73 n,Xy n] [(78,1000012,⟨[(13,dy),(63,dg)],[],[],0⟩),(78,1000014,⟨[(13,dy),(70,dg)],[],[],0⟩),(78,1000016,⟨[(13,dy),(77,dg)],[],[],0⟩)] n 10 78⟩
def F88:ak5:=
 λn b=>aj (aa b.1.1 4) (ah (F126 n (0,())) λc=>Z c) (aj (aa b.1.1 5) (ah (F126 n (0,())) λc=>Z c) (Z (b,())))
def k88(n:Nat):OC:=⟨88,⟨P45,K20,J,F88 n⟩,cS [abx n] [] n 10 88⟩
def F83:Nat->aZ×Int×Int×Int×ax×U->O Y2:=
 λn b=>aj (aa b.1.2 1) (Z ((b.1,()),())) (ah (F88 n b.2.2.2.2) λc=>Z ((aZ.mk b.1.1 1 (aP.mk b.2.1 b.2.2.1
 b.2.2.2.1 c.1.1),()),()))
def k83(n:Nat):OC:=⟨83,⟨arT,K132,J,F83 n⟩,cS [k88 n] [] n 10 83⟩
def Bl(b:Y1):ax:=
 bn b.2.2.2.2.1 (az 0) bq
def F80:Y3:=
 λn b=>aj (aa b.2.2.2.1 21) (aO (aI 0 b.2.2.2.2.1) (ah (F75 n (b.1,b.2.1,b.2.2.1,bx.mk 3 0 [Bl b] [],())) λc=>aO (aI 0
 b.2.2.2.2.1) (ah (F83 n (c.1.1,b.2.1,16,0,Bl b,())) λd=>Z d))) (aO (aI 0 b.2.2.2.2.1) (ah (F127 n (b.1,Bl b,3,())) λc=>
 aj (au c.1.2.1) (ah (F79 n (b.1,b.2.1,2,())) λd=>Z d) (aj (aa b.2.2.2.1 22) (aO (aI 0 c.1.1.3) (ah (F72 n (b.2.2.1,bn
 c.1.1.3 (az 0) bq,())) λd=>ah (F71 n (b.1,b.2.1,d.1)) λe=>aO (aI 0 c.1.1.3) (ah (F83 n (e.1.1,b.2.1,17,0,bn c.1.1.3
 (az 0) bq,())) λg=>Z g))) (aO (aI 0 b.2.2.2.2.1) (aO (aI 1 b.2.2.2.2.1) (aO (aI (Bl b).2 b.1.1) (aO (dV (az (Bl
 b).2) b.1.1) (ah (F74 n ()) λd=>ah (F72 n (b.2.2.1,d.1)) λe=>aO (aI 1 b.2.2.2.2.1) (ah (F71 n (ak.mk (lE b.1.1 (az (Bl
 b).2) (bx.mk 3 0 [bn b.2.2.2.2.1 (az 1) bq] [])) b.1.2 b.1.3 b.1.4 b.1.5,b.2.1,e.1)) λg=>ah (F83 n (g.1.1,b.2.1,18,0,bn
 b.2.2.2.2.1 (az 1) bq,())) λh=>Z h)))))))))
def k80(n:Nat):OC:=⟨80,⟨alj,K132,J,F80 n⟩,cS [k71 n,k72 n,k74 n,k75 n,Xy n,k83 n,Qa n] [] n 10 80⟩
def adP:Vz:=
 ([],[],[],[],0,0,0,0,0,0,0,())
def OO(b:OA):Bool:=
 aI b.2.2.1 b.2.1.2
def Bj(b:OA):Nat:=
 az (bn b.2.1.2 (az b.2.2.1) 0)
def ON(b:OA):L bx:=
 lE b.2.1.1 (Bj b) (bx.mk 6 4 [] [])
def Hy(b:OA)(g:Y46):Int×Int×Int×ax×U:=
 (b.2.2.1,19,0,g.1)
def DD(b:OA)(e:acI):L bx:=
 cZ b.2.1.1 [bx.mk e.2.2.1.1 e.2.2.1.2.1 [] e.2.2.1.2.2.2.1]
def OM(b:OA)(e:acI):L bx:=
 lE (DD b e) (Bj b) (bx.mk 6 4 [] [])
def OL(b:OA)(e:acI)(h:VX×U):L bx:=
 lE (DD b e) (Bj b) (bx.mk 6 0 [] h.1.1)
def F81:Nat->OA->O Y2:=
 λn b=>ah (F127 n (b.2.1,b.2.2.2.2.1,5,())) λc=>ah (aj c.1.2.1 (ah (F74 n ()) λd=>ah (F72 n (c.1.1.4,d.1)) λe=>Z
 (N (W,adP,(6,0,[],e.1),()))) (ah (F74 n ()) λd=>ah (F128 n (b.1,b.2.1,b.2.2.2.2.1,d.1)) λe=>aj (au e.1.2.1) (aO
 (OO b) (aO (aI (bn b.2.1.2 (az b.2.2.1) 0) b.2.1.1) (aO (dV (Bj b) b.2.1.1) (Z (X ((lE b.2.1.1 (Bj b) (bx.mk 6 2 []
 []),b.2.1.2,b.2.1.3,b.2.1.4,b.2.1.5,1,b.2.2.1,0,2,0,0,()),(6,0,[],[],()),()) ()))))) (Z (N (J,adP,(6,0,[],[e.1.1],
 ()),()))))) λ(d:LO acI U (Vz×JU×U) Any)=>ck d (λe=>aj (br 120 (aq b.2.1.1)) (aO (OO b) (aO (aI (bn b.2.1.2
 (az b.2.2.1) 0) b.2.1.1) (aO (dV (Bj b) b.2.1.1) (aj (au W) (aO (de b.2.1.2 [bf .i64 (aq (ON b)) 1]) (ah (F74 n ()) λg
 =>ah (F83 n (aZ.mk (ak.mk (ON b) (cZ b.2.1.2 [bf .i64 (aq (ON b)) 1]) b.2.1.3 b.2.1.4 b.2.1.5) 1 (aP.mk
 b.2.2.1 0 4 bq),Hy b g)) λh=>Z h)) (ah (F74 n ()) λg=>ah (F83 n (aZ.mk (ak.mk (ON b) b.2.1.2 b.2.1.3
 b.2.1.4 b.2.1.5) 1 (aP.mk b.2.2.1 0 4 bq),Hy b g)) λh=>Z h))))) (aO (de b.2.1.1 [bx.mk e.2.2.1.1 e.2.2.1.2.1 []
 e.2.2.1.2.2.2.1]) (ah (F126 n (bf .i64 (aq (DD b e)) 1,())) λg=>ah (F72 n (b.2.2.2.1,g.1)) λh=>aj (aE 40 (aq h.1.1)) (aO
 (OO b) (aO (dV (az b.2.2.1) b.2.1.2) (aO (aI (bn b.2.1.2 (az b.2.2.1) 0) (DD b e)) (aO (dV (Bj b) (DD b e)) (aj (au
 W) (aO (de b.2.1.2 [bf .i64 (aq (OM b e)) 1]) (ah (F74 n ()) λi=>ah (F83 n (aZ.mk (ak.mk (OM b e) (cZ
 b.2.1.2 [bf .i64 (aq (OM b e)) 1]) b.2.1.3 b.2.1.4 b.2.1.5) 1 (aP.mk b.2.2.1 0 4 bq),Hy b i)) λj=>Z j)) (ah (F74 n
 ()) λi=>ah (F83 n (aZ.mk (ak.mk (OM b e) b.2.1.2 b.2.1.3 b.2.1.4 b.2.1.5) 1 (aP.mk b.2.2.1 0 4 bq),Hy b i))
 λj=>Z j)))))) (aO (OO b) (aO (dV (az b.2.2.1) b.2.1.2) (aO (aI (bn b.2.1.2 (az b.2.2.1) 0) (DD b e)) (aO (dV (Bj b)
 (DD b e)) (aj (au J) (aO (de b.2.1.2 [bf .i64 (aq (OL b e h)) 1]) (ah (F74 n ()) λi=>ah (F83 n (aZ.mk
 (ak.mk (OL b e h) (cZ b.2.1.2 [bf .i64 (aq (OL b e h)) 1]) b.2.1.3 b.2.1.4 b.2.1.5) 0 cN,Hy b i)) λj=>Z j))
 (ah (F74 n ()) λi=>ah (F83 n (aZ.mk (ak.mk (OL b e h) b.2.1.2 b.2.1.3 b.2.1.4 b.2.1.5) 0 cN,Hy b i)) λj=>
 Z j))))))))) (λ_ _=>Y) (λe _=>Z ((aZ.mk (ak.mk e.1.1 e.1.2.1 e.1.2.2.1 e.1.2.2.2.1 e.1.2.2.2.2.1) e.1.2.2.2.2.2.1
 (aP.mk e.1.2.2.2.2.2.2.1 e.1.2.2.2.2.2.2.2.1 e.1.2.2.2.2.2.2.2.2.1 (ax.mk e.1.2.2.2.2.2.2.2.2.2.1 e.1.2.2.2.2.2.2.2.2.2.2.1)),()),()))
 λ_ _=>Y
def k81(n:Nat):OC:=⟨81,⟨arS,K132,J,F81 n⟩,cS [k72 n,k74 n,k83 n,abx n,Qa n,aiA n] [(81,1000004,⟨[(24,dg),(0,b2z),(0,akr)],[.slot 10,.slot 11],[],0⟩)] n 10 81⟩
def F82:Nat->ak×Int×L ai×ax×U->O Y2:=
 λn b=>ah (F127 n (b.1,b.2.2.2.1,6,())) λc=>aj (au c.1.2.1) (ah (F79 n (b.1,b.2.1,2,())) λd=>Z d) (aj (aa c.1.1.2 0)
 (Z ((aZ.mk b.1 2 cN,()),())) (aj (au (aa c.1.1.2 1)) (ah (F79 n (b.1,b.2.1,c.1.1.2,())) λd=>Z d) (aO
 (aI 0 c.1.1.3) (ah (F72 n (b.2.2.1,bn c.1.1.3 (az 0) bq,())) λd=>ah (F71 n (b.1,b.2.1,d.1)) λe=>aO (aI 0 c.1.1.3) (ah
 (F83 n (e.1.1,b.2.1,20,0,bn c.1.1.3 (az 0) bq,())) λg=>Z g)))))
def k82(n:Nat):OC:=⟨82,⟨arR,K132,J,F82 n⟩,cS [k71 n,k72 n,Xy n,k83 n,Qa n] [] n 10 82⟩
def JY(b:Y1):Nat:=
 az (bn b.2.2.2.2.1 (az 0) bq).2
def F84:Y3:=
 λn b=>aO (aI 0 b.2.2.2.2.1) (ah (F127 n (b.1,bn b.2.2.2.2.1 (az 0) bq,4,())) λc=>aj (au c.1.2.1) (ah (F79 n (b.1,
 b.2.1,2,())) λd=>Z d) (aj (aa b.2.2.2.1 27) (aj (br 4 (aq c.1.1.3)) (Z ((aZ.mk b.1 2 cN,()),())) (aO
 (aI 0 b.2.2.2.2.1) (aO (aI 1 b.2.2.2.2.1) (ah (F124 n (c.1.1.3,bn b.2.2.2.2.1 (az 1) bq,())) λd=>aO (aI (bn b.2.2.2.2.1 (az
 0) bq).2 b.1.1) (aO (dV (JY b) b.1.1) (ah (F74 n ()) λe=>ah (F72 n (b.2.2.1,e.1)) λg=>aO (aI 1 b.2.2.2.2.1) (ah (F71 n
 (ak.mk (lE b.1.1 (JY b) (bx.mk 4 0 d.1.1 [])) b.1.2 b.1.3 b.1.4 b.1.5,b.2.1,g.1)) λh=>ah (F83 n (h.1.1,b.2.1,22,0,bn
 b.2.2.2.2.1 (az 1) bq,())) λi=>Z i))))))) (aj (aa (aq c.1.1.3) 0) (Z ((aZ.mk b.1 2 cN,()),())) (aO
 (aI 0 b.2.2.2.2.1) (aO (eK 1 (aq c.1.1.3) (aq c.1.1.3)) (aO (aI (bn b.2.2.2.2.1 (az 0) bq).2 b.1.1) (aO (dV (JY b) b.1.1)
 (aO (aI 0 c.1.1.3) (ah (F72 n (b.2.2.1,bn c.1.1.3 (az 0) bq,())) λd=>aO (aI 0 c.1.1.3) (ah (F71 n (ak.mk (lE b.1.1
 (JY b) (bx.mk 4 0 (cG c.1.1.3 1 (aq c.1.1.3)) [])) b.1.2 b.1.3 b.1.4 b.1.5,b.2.1,d.1)) λe=>ah (F83 n (e.1.1,b.2.1,23,0,bn
 c.1.1.3 (az 0) bq,())) λg=>Z g))))))))))
def k84(n:Nat):OC:=⟨84,⟨alj,K132,J,F84 n⟩,cS [k71 n,k72 n,k74 n,Xy n,k83 n,XC n,Qa n] [] n 10 84⟩
def F85:Nat->Y48->O Y2:=
 λn b=>aj (aa b.2.2.2.1.1 30) (aj (aa (aq b.1.4) 0) (Z ((aZ.mk b.1 2 cN,()),())) (aO (aI 0 b.1.4) (aO (dV
 (az 0) b.1.4) (ah (F43 n (bn b.1.4 (az 0) 0,())) λc=>aj (br 1000000000 b.1.5) (ah (F79 n (b.1,b.2.1,4,())) λd=>Z d) (aO
 (eK 1 (aq b.1.4) (aq b.1.4)) (ah (F72 n (b.2.2.1,c.1)) λd=>ah (F71 n (ak.mk b.1.1 b.1.2 b.1.3 (cG b.1.4 1 (aq b.1.4)) (aG .i64
 b.1.5 1),b.2.1,d.1)) λe=>ah (F83 n (e.1.1,b.2.1,25,0,c.1)) λg=>Z g)))))) (aO (aI 0 b.2.2.2.2.1) (aj (au (aa (bn
 b.2.2.2.2.1 (az 0) bq).1 1)) (ah (F79 n (b.1,b.2.1,2,())) λc=>Z c) (aj (br 100 (aq b.1.3)) (ah (F79 n (b.1,b.2.1,4,()))
 λc=>Z c) (aO (aI 0 b.2.2.2.2.1) (aO (de b.1.3 [ei.mk b.2.2.2.1.2 (bn b.2.2.2.2.1 (az 0) bq).2]) (ah (F74 n ()) λc=>
 ah (F72 n (b.2.2.1,c.1)) λd=>aO (aI 0 b.2.2.2.2.1) (ah (F71 n (ak.mk b.1.1 b.1.2 (cZ b.1.3 [ei.mk b.2.2.2.1.2 (bn b.2.2.2.2.1
 (az 0) bq).2]) b.1.4 b.1.5,b.2.1,d.1)) λe=>ah (F83 n (e.1.1,b.2.1,24,b.2.2.2.1.2,bn b.2.2.2.2.1 (az 0) bq,())) λg=>
 Z g)))))))
def k85(n:Nat):OC:=⟨85,⟨arQ,K132,J,F85 n⟩,cS [k43 n,k71 n,k72 n,k74 n,Xy n,k83 n] [] n 10 85⟩
def F86:Nat->ak×Int×L ai×Int×U->O Y2:=
 λn b=>aO (aI (bf .i64 (aq b.2.2.1) 1) b.2.2.1) (ah (aQ (Int×U) (U) (U) (λc=>aj (br 0 c.1) (aO (aI c.1
 b.2.2.1) (aj (au (bn b.2.2.1 (az c.1) bz).4) (Z (N (bf .i64 c.1 1,()))) (Z (H 0 c)))) (Z (H 0 c))) n
 (bf .i64 (aq b.2.2.1) 1,())) λc=>bK c (λ_ e=>aj (aE e.1 0) (ah (F79 n (b.1,b.2.1,3,())) λg=>Z g) (aj (br 120
 (aq b.1.1)) (ah (F79 n (b.1,b.2.1,4,())) λg=>Z g) (aO (eK e.1 (aq b.2.2.1) (aq b.2.2.1)) (aO (de b.1.1 [bx.mk 5 0 [] (cG
 b.2.2.1 e.1 (aq b.2.2.1))]) (aO (eK 0 e.1 (aq b.2.2.1)) (ah (F126 n (bf .i64 (aq (cZ b.1.1 [bx.mk 5 0 [] (cG b.2.2.1 e.1 (aq
 b.2.2.1))])) 1,())) λg=>ah (F124 n ((bn b.2.2.1 (az (bf .i64 (aq b.2.2.1) 1)) bz).2,g.1)) λh=>ah (F70 n (cG b.2.2.1 0
 e.1,ai.mk b.2.2.2.1 h.1.1 [] W,())) λi=>ah (F71 n (ak.mk (cZ b.1.1 [bx.mk 5 0 [] (cG b.2.2.1 e.1 (aq b.2.2.1))]) b.1.2
 b.1.3 b.1.4 b.1.5,b.2.1,i.1)) λj=>Z j)))))) (λ_ _=>Z ((jN,()),())) λ_ _=>Y)
def k86(n:Nat):OC:=⟨86,⟨arP,K132,J,F86 n⟩,cS [k70 n,k71 n,Xy n,XC n,abx n] [(86,0,⟨[(9,dy)],[],[],0⟩)] n 10 86⟩
def xh(b:Vu):Nat:=
 az (bn b.2.1.2 (az b.2.2.1) 0)
def vF(b:Vu):Int:=
 bf .i64 (aq (bn b.2.1.1 (xh b) bL).4) 1
def mM(b:Vu):ai:=
 bn (bn b.2.1.1 (xh b) bL).4 (az (vF b)) bz
def ek(b:Vu):bN:=
 bn b.1.1.1 (az (mM b).1) bY
def Hz(b:Vu)(c:(Int×U)×U):Int:=
 bf .i64 (aq (mM b).3) c.1.1
def fR(n:Nat)(b:Vu):Y45:=
 λg=>ah (F71 n (b.2.1,b.2.2.1,g.1)) λh=>Z h
def gk(n:Nat)(b:Vu)(d:VX×U):Y46->O Y2:=
 λe=>ah (F72 n (d.1.1,e.1)) (fR n b)
def lV(b:Vu)(c:(Int×U)×U):L ax:=
 cG (mM b).3 (Hz b c) (aq (mM b).3)
def yT(b:Vu)(c:(Int×U)×U):ax:=
 bn (lV b c) (az 0) bq
def ef(n:Nat):YX->O YX:=
 λe=>ck e (λg=>Z (N g)) (λ_ _=>Y) (λ_ _=>Z (X () ())) λ_ _=>Y
def er(b:Vu)(c:(Int×U)×U)(d:VX×U):Y48:=
 (b.2.1,b.2.2.1,d.1.1,ek b,lV b c,())
def ee(n:Nat):YX->O YX:=
 λh=>ck h (λi=>Z (N i)) (λ_ _=>Y) (λ_ _=>Z (X () ())) λ_ _=>Y
def ep(b:Vu)(c:(Int×U)×U)(d:VX×U):Y1:=
 (b.2.1,b.2.2.1,d.1.1,(ek b).1,lV b c,())
def dS(n:Nat):U->U->O Y2:=
 λ_ _=>Z ((jN,()),())
def F37:Nat->Vu->O Y2:=
 λn b=>aO (aI b.2.2.1 b.2.1.2) (aO (aI (bn b.2.1.2 (az b.2.2.1) 0) b.2.1.1) (aj (au (aa (bn b.2.1.1 (xh b) bL).2 0))
 (Z ((aZ.mk b.2.1 2 cN,()),())) (aO (aI (vF b) (bn b.2.1.1 (xh b) bL).4) (aO (aI (mM b).1 b.1.1.1) (ah
 (F69 n (b.1,ek b,())) λc=>aO (eK (Hz b c) (aq (mM b).3) (aq (mM b).3)) (aO (eK 0 (vF b) (aq (bn b.2.1.1 (xh b)
 bL).4)) (aO (eK 0 (Hz b c) (aq (mM b).3)) (ah (F70 n (cG (bn b.2.1.1 (xh b) bL).4 0 (vF b),ai.mk (aG .i64
 (mM b).1 1) (mM b).2 (cG (mM b).3 0 (Hz b c)) (mM b).4,())) λd=>aj (aa (ek b).1 1) (ah (F43 n ((ek b).2,())) (gk
 n b d)) (aj (aa (ek b).1 2) (ah (F73 n (aa (ek b).2 1,())) (gk n b d)) (aj (aa (ek b).1 3) (ah (F74 n ()) (gk n b d)) (aj
 (aa (ek b).1 4) (aO (aI (ek b).2 (mM b).2) (ah (F72 n (d.1.1,bn (mM b).2 (az (ek b).2) bq,())) (fR n b))) (aj
 (aa (ek b).1 5) (ah (F72 n (d.1.1,ax.mk 4 (ek b).2,())) (fR n b)) (aj (aa (ek b).1 6) (ah (F75 n (b.2.1,b.2.2.1,d.1.1,
 bx.mk 2 (ek b).2 (mM b).2 [],())) λe=>Z e) (aj (aa (ek b).1 7) (aO (aI 0 (lV b c)) (aO (aI 1 (lV b c)) (ah (F76
 n (b.1,b.2.1,b.2.2.1,d.1.1,yT b c,bn (lV b c) (az 1) bq,J,())) λe=>Z e))) (aj (aa (ek b).1 8) (aO (eK 0
 (vF b) (aq d.1.1)) (aO (aI 0 (lV b c)) (aO (aI 1 (lV b c)) (ah (F76 n (b.1,b.2.1,b.2.2.1,cG d.1.1 0 (vF b),yT b c,bn
 (lV b c) (az 1) bq,(mM b).4,())) λe=>Z e)))) (ah (aj (aa (ek b).1 9) (Z (N (W,()))) (ah (aj (aa
 (ek b).1 10) (Z (N (W,()))) (ah (aj (aa (ek b).1 11) (Z (N (W,()))) (ah (aj (aa (ek b).1 12) (Z
 (N (W,()))) (Z (N (aa (ek b).1 19,())))) (ef n))) (ef n))) (ef n))) λ(e:YX)=>ck e (λg=>aj g.1
 (ah (F77 n (b.1,er b c d)) λh=>Z h) (ah (aj (aa (ek b).1 13) (Z (N (W,()))) (ah (aj (aa (ek b).1 14) (Z
 (N (W,()))) (ah (aj (aa (ek b).1 15) (Z (N (W,()))) (ah (aj (aa (ek b).1 16) (Z (N (W,()))) (Z
 (N (aa (ek b).1 17,())))) (ee n))) (ee n))) (ee n))) λ(h:YX)=>ck h (λi=>aj i.1 (aO (aI 0 (lV b c)) (aO
 (aI 1 (lV b c)) (ah (F78 n (b.2.1,b.2.2.1,d.1.1,(ek b).1,yT b c,bn (lV b c) (az 1) bq,())) λj=>Z j))) (aj (aa
 (ek b).1 18) (ah (F75 n (b.2.1,b.2.2.1,d.1.1,bx.mk 1 (ek b).2 (lV b c) [],())) λj=>Z j) (aj (aa (ek b).1 20) (ah (F79
 n (b.2.1,b.2.2.1,3,())) λj=>Z j) (ah (aj (aa (ek b).1 21) (Z (N (W,()))) (ah (aj (aa (ek b).1 22) (Z
 (N (W,()))) (Z (N (aa (ek b).1 23,())))) λ(j:YX)=>ck j (λk=>Z (N k)) (λ_ _=>Y) (λ_ _=>
 Z (X () ())) λ_ _=>Y)) λ(j:YX)=>ck j (λk=>aj k.1 (ah (F80 n (ep b c d)) λl=>Z l) (aj (aa (ek b).1
 24) (aO (aI 0 (lV b c)) (ah (F81 n (b.1,b.2.1,b.2.2.1,d.1.1,yT b c,())) λl=>Z l)) (aj (aa (ek b).1 25) (aO (aI 0
 (lV b c)) (ah (F82 n (b.2.1,b.2.2.1,d.1.1,yT b c,())) λl=>Z l)) (aj (aa (ek b).1 26) (ah (F75 n (b.2.1,b.2.2.1,d.1.1,
 bx.mk 4 0 [] [],())) λl=>ah (F74 n ()) λm=>ah (F83 n (l.1.1,b.2.2.1,21,0,m.1)) λo=>Z o) (ah (aj (aa (ek b).1 27)
 (Z (N (W,()))) (Z (N (aa (ek b).1 28,())))) λ(l:YX)=>ck l (λm=>aj m.1 (ah (F84 n (ep b c d)) λo
 =>Z o) (ah (aj (aa (ek b).1 29) (Z (N (W,()))) (Z (N (aa (ek b).1 30,())))) λ(o:YX)=>ck o (λp=>
 aj p.1 (ah (F85 n (er b c d)) λq=>Z q) (aj (aa (ek b).1 31) (ah (F70 n (d.1.1,ai.mk (ek b).2 (mM b).2 [] W,()))
 (fR n b)) (aj (aa (ek b).1 32) (ah (F86 n (b.2.1,b.2.2.1,d.1.1,(ek b).2,())) λq=>Z q) (aj (aa (ek b).1 33) (ah (F74 n
 ()) λq=>ah (F72 n (d.1.1,q.1)) λr=>ah (F71 n (b.2.1,b.2.2.1,r.1)) λs=>ah (F74 n ()) λt=>ah (F83 n (s.1.1,b.2.2.1,28,0,
 t.1)) λu=>Z u) (aj (aa (vF b) 0) (aO (aI b.2.2.1 b.2.1.2) (aO (aI 0 (lV b c)) (aO (aI 0 (lV b c)) (aO (aI (bn b.2.1.2
 (az b.2.2.1) 0) b.2.1.1) (aO (dV (xh b) b.2.1.1) (ah (F88 n (yT b c,())) λq=>Z ((aZ.mk (ak.mk (lE b.2.1.1
 (xh b) (bx.mk 6 1 [yT b c] [])) b.2.1.2 b.2.1.3 b.2.1.4 b.2.1.5) 1 (aP.mk b.2.2.1 0 1 q.1.1),()),()))))))) (aO (eK 0 (vF b)
 (aq d.1.1)) (aO (aI 0 (lV b c)) (ah (F72 n (cG d.1.1 0 (vF b),yT b c,())) (fR n b))))))))) (λ_ _=>Y) (dS n) λ_ _
 =>Y)) (λ_ _=>Y) (dS n) λ_ _=>Y))))) (λ_ _=>Y) (dS n) λ_ _=>Y)))) (λ_ _=>Y) (dS n) λ_ _=>
 Y)) (λ_ _=>Y) (dS n) λ_ _=>Y))))))))))))))))
def k37(n:Nat):OC:=⟨37,⟨ali,K132,J,F37 n⟩,cS [k43 n,k69 n,k70 n,k71 n,k72 n,k73 n,k74 n,k75 n,k76 n,k77 n,k78 n,Xy n,k80 n,k81 n,k82 n,k83 n,k84 n,k85 n,k86 n,k88 n] [(37,1000028,⟨[(167,dg)],[],[],0⟩),(37,1000029,⟨[(167,dg)],[],[],0⟩),(37,1000030,⟨[(167,dg)],[],[],0⟩),(37,1000031,⟨[(167,dg)],[],[],0⟩),(37,1000034,⟨[(180,dg)],[],[],0⟩),(37,1000035,⟨[(180,dg)],[],[],0⟩),(37,1000036,⟨[(180,dg)],[],[],0⟩),(37,1000037,⟨[(180,dg)],[],[],0⟩),(37,1000044,⟨[(213,dg)],[],[],0⟩),(37,1000045,⟨[(213,dg)],[],[],0⟩),(37,1000054,⟨[(253,dg)],[],[],0⟩),(37,1000057,⟨[(263,dg)],[],[],0⟩)] n 10 37⟩
def ZH(c:akw):ak:=
 ak.mk c.2.2.1.1 c.2.2.1.2.1 c.2.2.1.2.2.1 c.2.2.1.2.2.2.1 c.2.2.1.2.2.2.2.1
def J2(g:Y2):Vz×U:=
 ((g.1.1.1.1,g.1.1.1.2,g.1.1.1.3,g.1.1.1.4,g.1.1.1.5,g.1.1.2,g.1.1.3.1,g.1.1.3.2,g.1.1.3.3,g.1.1.3.4.1,g.1.1.3.4.2,()),())
def F29:Nat->Vu->O Y39:=
 λn b=>ah (aQ (akw) (Int×Bool×U) (Hp×Hp×U) (λc=>aj (aE c.2.1 (aq c.2.2.1.2.1)) (ah (F37 n (b.1,ZH c,
 c.2.1,())) λd=>ah (aQ (Int×Hp×Hp×Vz×U) (Int×Bool×U) (Hp×Hp×Vz×U) (λe=>aj (aa
 e.2.2.2.1.2.2.2.2.2.1 0) (aj (aE 5000 (aG .i64 e.1 1)) (Z (X (e.2.1,e.2.1,e.2.2.2) (aG .i64 e.1 1,J,()))) (ah (F37 n (b.1,
 ak.mk e.2.2.2.1.1 e.2.2.2.1.2.1 e.2.2.2.1.2.2.1 e.2.2.2.1.2.2.2.1 e.2.2.2.1.2.2.2.2.1,c.2.1,())) λg=>Z (N (aG .i64 e.1 1,
 (e.2.2.2.1.1,e.2.2.2.1.2.1,e.2.2.2.1.2.2.1,e.2.2.2.1.2.2.2.1,e.2.2.2.1.2.2.2.2.1,()),e.2.2.1,J2 g)))) (Z (H 0 e))) n (c.1,c.2.2.1,
 c.2.2.2.1,J2 d)) λe=>bK e (λ_ h=>Z (N (h.1,aG .i64 c.2.1 1,h.2.1,h.2.2.1,()))) (λg h=>Z (X (g.1,g.2.1,
 ()) h)) λ_ _=>Y) (Z (H 0 c))) n (b.2.2.1,0,(b.2.1.1,b.2.1.2,b.2.1.3,b.2.1.4,b.2.1.5,()),([],[],[],[],0,()),())) λc=>
 bK c (λ_ e=>Z ((ZH e,e.1,W,()),())) (λd e=>Z ((ak.mk d.2.1.1 d.2.1.2.1 d.2.1.2.2.1 d.2.1.2.2.2.1 d.2.1.2.2.2.2.1,
 e),())) λ_ _=>Y
def k29(n:Nat):OC:=⟨29,⟨ali,K151,J,F29 n⟩,cS [k37 n] [(29,0,⟨[(2,dy),(9,dy),(0,b4z),(0,b4z)],[.slot 4,.slot 6],[],0⟩),(29,2,⟨[(2,dy),(0,b4z),(0,b4z),(0,b2z)],[.slot 4,.slot 6,.slot 10],[],0⟩)] n 10 29⟩
def F53:Nat->ak2->arq:=
 λn b=>aO (aI b.1.1.4 b.1.1.3) (ah (F74 n ()) λc=>Z ((ak.mk [bx.mk 6 0 [] [ai.mk (bn b.1.1.3 (az b.1.1.4) 0) [c.1.1]
 [] J]] [0] [] b.2.1 0,()),()))
def k53(n:Nat):OC:=⟨53,⟨alh,K54,J,F53 n⟩,cS [k74 n] [] n 10 53⟩
def F17:Nat->ak2->O ((ak×Bool×U)×U):=
 λn b=>ah (F53 n b) λc=>ah (F29 n (b.1,c.1.1,0,())) λd=>Z ((d.1.1,d.1.2.2),())
def k17(n:Nat):OC:=⟨17,⟨alh,K153,J,F17 n⟩,cS [k29 n,k53 n] [] n 10 17⟩
def F171:Nat->bD×ak×ax×U->O Y4:=
 λn b=>aj (aa b.2.2.1.1 1) (ah (F63 n (b.2.2.1.2,(-1000000000),1000000000,())) λc=>Z c) (aj (aa b.2.2.1.1 2) (ah (F63 n
 (b.2.2.1.2,0,1,())) λc=>Z c) (aj (aa b.2.2.1.1 3) (Z ((aa b.2.2.1.2 0,()),())) (aj (aa b.2.2.1.1 4) (ah (F63 n (b.2.2.1.2,
 0,bf .i64 (aq b.1.1.3) 1,())) λc=>Z c) (aj (aa b.2.2.1.1 5) (ah (F63 n (b.2.2.1.2,0,bf .i64 (aq b.2.1.1) 1,())) λc=>
 Z c) (Z ((J,()),()))))))
def F118:Nat->bD×ak×L ax×Int×U->O Y4:=
 λn b=>aj (au (aa (aq b.2.2.1) b.2.2.2.1)) (Z ((J,()),())) (ah (aQ (Int×U) (Bool×U) (U) (λc=>aj
 (aE c.1 b.2.2.2.1) (aO (aI c.1 b.2.2.1) (ah (F171 n (b.1,b.2.1,bn b.2.2.1 (az c.1) bq,())) λd=>aj (au d.1.1) (Z (X
 () (J,()))) (Z (N (aG .i64 c.1 1,()))))) (Z (H 0 c))) n (0,())) λc=>bK c (λ_ _=>Z ((W,()),())) (λ_ e
 =>Z (e,())) λ_ _=>Y)
def CC(n:Nat):ags:=
 Z (X () (J,()))
def LI(b:acP)(d:Int×U):Bool:=
 aI (bn b.2.2.1 (az d.1) bz).1 b.1.2
def CA(b:acP)(d:Int×U):av:=
 bn b.1.2 (az (bn b.2.2.1 (az d.1) bz).1) aU
def Ro(n:Nat)(b:acP)(d:Int×U):LO (Int×Bool×U) (Bool×U) U Any->ags:=
 λg=>ck g (λh=>aO (LI b d) (ah (F118 n (b.1,b.2.1,(bn b.2.2.1 (az d.1) bz).2,(CA b d).3,())) λi=>aj (au
 i.1.1) (CC n) (aj (aE h.1 0) (CC n) (ah (F118 n (b.1,b.2.1,(bn b.2.2.1 (az d.1) bz).3,h.1,())) λj=>aj (au j.1.1)
 (CC n) (Z (N (aG .i64 d.1 1,()))))))) (λ_ _=>Y) (λ_ i=>Z (X () i)) λ_ _=>Y
def F117:Nat->acP->O Y4:=
 λn b=>ah (F63 n (aq b.2.2.1,1,40,())) λc=>aj (au c.1.1) (Z ((J,()),())) (ah (aQ (Int×U) (Bool×U) (U) (λd=>aj (aE d.1 (aq b.2.2.1)) (aO (aI d.1 b.2.2.1) (ah (F63 n ((bn b.2.2.1 (az d.1) bz).1,0,bf .i64 (aq b.1.1.1)
 1,())) λe=>aj (au e.1.1) (CC n) (aO (LI b d) (aj (au (CA b d).1) (CC n) (aO (LI b d) (aj (au b.2.2.2.1) (ah
 (Z (N (bf .i64 (CA b d).2 1,W,()))) (Ro n b d)) (ah (aj (aE d.1 (bf .i64 (aq b.2.2.1) 1)) (Z (N (bf .i64
 (CA b d).2 1,W,()))) (Z (N ((CA b d).2,J,())))) (Ro n b d)))))))) (Z (H 0 d))) n (0,())) λd=>bK d (λ
 _ _=>Z ((W,()),())) (λ_ g=>Z (g,())) λ_ _=>Y)


end Mn
end
section
namespace TL
open Go
section
def Ev{α:Type}(f:Nat->O α)(r:α):Prop:=∃a,∀n,a<=n->f n=Z r
section
variable {α β γ:Type}
def Ev.pure(r:α):Ev (λ_=>Z r) r:=⟨0,λ_ _=>rfl⟩
def Ev.of_eq{f:Nat->O α}{r:α}(h:∀n,f n=Z r):Ev f r:=⟨0,λn _=>h n⟩
def Ev.vQ{f g:Nat->O α}{r:α}(h:∀n,f n=g n)(a:Ev g r):Ev f r:=(funext h:f=g)▸a
theorem Ev.ah{f:Nat->O α}{a:α}{g:Nat->α->O β}{r:β}(h:Ev f a)(d:Ev (λn=>g n a) r):Ev (λn=>ah (f n) (g n)) r:=by
 let ⟨b,h⟩:=h
 let ⟨c,d⟩:=d
 refine⟨max b c,λn e=>?_⟩
 grind[TL.ah]
end
def vR{α β:Type}(f:Nat->Nat->α->O β)(x:α)(r:β):Prop:=∀d,Ev (λn=>f n (n-d) x) r
theorem vR.step{α β:Type}{f:Nat->Nat->α->O β}{g:Nat->(α->O β)->α->O β}{x:α}{r:β}(h:∀n k,f n (k+1)=g n (f n k))
  (b:∀d,Ev (λn=>g n (f n (n-d)) x) r):vR f x r:=by
 intro d
 let ⟨a,c⟩:=b (d+1)
 refine⟨max a (d+1),λn i=>?_⟩;have e:n-d=(n-(d+1))+1:=by omega
 grind
section
variable {X R B P:Type}
inductive fY(F:Nat->X->Option (LO X R B P)):X->LO X R B P->Prop
 |next {x y:X} {o:LO X R B P}:Ev (λn=>F n x) (.next y)->fY F y o->fY F x o|out {x y:X} {j:Nat}:Ev (λn=>F n x) (.out j y)->fY F x (.out j y)|ret {x:X} {b:B} {r:R}:Ev (λn=>F n x) (.ret b r)->fY F x (.ret b r)|iJ {x:X} {b:B} {p:P}:Ev (λn=>F n x) (.iJ b p)->fY F x (.iJ b p)
def fY.last{F:Nat->X->O (LO X R B P)}{x:X}{o:LO X R B P}(h:Ev (λn=>F n x) o)(hn:∀y,o≠.next y):fY F x o:=by cases o with|next y=>simp_all|out j y=>exact .out h|ret b r=>exact .ret h|iJ b p=>exact .iJ h
theorem fY.fuel{F:Nat->X->O (LO X R B P)}{x:X}{o:LO X R B P}(h:fY F x o):∃a,∀n k,a<=n->a<=k->iter (F n) k x=Z o:=by
 induction h with
 |next h _ e=>
  let ⟨a,h⟩:=h
  let ⟨b,e⟩:=e
  refine⟨max a b+1,λn k c d=>?_⟩;cases k with
  |zero=>omega|succ k=>
   grind[iter]
 |out h=>
  let ⟨a,h⟩:=h
  refine⟨a+1,λn k c d=>?_⟩;cases k with|zero=>omega|succ k=>unfold iter;rw[show F n _=_ from h n (by omega)]
 |ret h=>
  let ⟨a,h⟩:=h
  refine⟨a+1,λn k c d=>?_⟩;cases k with|zero=>omega|succ k=>unfold iter;rw[show F n _=_ from h n (by omega)]
 |iJ h=>
  let ⟨a,h⟩:=h
  refine⟨a+1,λn k c d=>?_⟩;cases k with|zero=>omega|succ k=>unfold iter;rw[show F n _=_ from h n (by omega)]
theorem Ev.iter{F:Nat->X->O (LO X R B P)}{x:X}{o:LO X R B P}(h:fY F x o):Ev (λn=>TL.iter (F n) n x) o:=by
 let ⟨a,h⟩:=h.fuel
 exact⟨a,λn b=>h n n b b⟩
def Ev.bw{β:Type}{F:Nat->X->O (LO X R B P)}{x:X}{o:LO X R B P}(h:fY F x o)(g:Nat->LO X R B P->O β)(r:β)(a:Ev (λn=>g n o) r):Ev (λn=>TL.ah (TL.iter (F n) n x) (g n)) r:=(Ev.iter h).ah a
def fY.many{F:Nat->X->O (LO X R B P)}{o:LO X R B P}:∀(k:Nat)(s:Nat->X),(∀i,i<k->Ev (λn=>F n (s i)) (.next (s (i+1))))->fY F (s k) o->fY F (s 0) o
 |0,_,_,h=>h|k+1,s,a,h=>.next (a 0 (by omega)) (fY.many k (λi=>s (i+1)) (λi b=>a (i+1) (by omega)) h)
theorem qg{F:Nat->X->O (LO X R B P)}(len:Nat)(s:Nat->X)(q:Nat->Bool)(bad:Nat->LO X R B P)(g:Nat)(o:∀i y,bad i≠.next y)
  (h:∀i,i<len->(∀j,j<i->q j=W)->Ev (λn=>F n (s i)) (bif q i then .next (s (i+1))else bad i))
  (p:(∀j,j<len->q j=W)->Ev (λn=>F n (s len)) (.out g (s len))) :
  ((∀i,i<len->q i=W)∧fY F (s 0) (.out g (s len)))∨∃i,i<len∧q i=J∧(∀j,j<i->q j=W)∧fY F (s 0) (bad i):=by
 have key:∀m i,i+m=len->(∀j,j<i->q j=W)->((∀i,i<len->q i=W)∧fY F (s i) (.out g (s len)))∨∃k,k<len∧q k=J∧(∀j,j<k->q j=W)∧fY F (s i) (bad k):=by
  intro m
  induction m with
  |zero=>
   intro i r e;have:i=len:=by omega
   subst this;exact .inl ⟨e,.out (p e)⟩
  |succ m t=>
   intro i r e;have f:=h i (by omega) e;cases l:q i with
   |false=>rw[l]at f;exact .inr ⟨i,by omega,l,e,.last f (o i)⟩
   |true=>
    rw[l]at f;rcases t (i+1) (by omega) (λj u=>by
     grind)with⟨a,b⟩|⟨k,a,b,c,d⟩
    .exact .inl ⟨a,.next f b⟩
    .exact .inr ⟨k,a,b,c,.next f d⟩
 simp_all
def qP{F:Nat->X->O (LO X R B P)}(len:Nat)(s:Nat->X)(a:Nat)(h:∀i,i<len->Ev (λn=>F n (s i)) (.next (s (i+1))))(b:Ev (λn=>F n (s len)) (.out a (s len))):fY F (s 0) (.out a (s len)):=
 fY.many len s h (.out b)
def fY.inv{F:Nat->X->O (LO X R B P)}(I:X->Prop)(m:X->Nat)(Q:LO X R B P->Prop)
  (h:∀x,I x->(∃y,Ev (λn=>F n x) (.next y)∧I y∧m y<m x)∨∃o,(∀y,o≠.next y)∧Ev (λn=>F n x) o∧Q o):∀x,I x->∃o,fY F x o∧Q o:=by
 intro x
 induction b:m x using Nat.strongRecOn generalizing x with
 |ind k c=>
  intro d;subst b;obtain⟨y,e,f,a⟩|⟨o,g,i,j⟩:=h x d
  .let ⟨o,h1,h2⟩:=c (m y) a y rfl f
   exact⟨o,.next e h1,h2⟩
  .exact ⟨o,.last i g,j⟩
end
section
theorem Ef{n:Int}(h1:-9223372036854775808<=n)(h2:n<=9223372036854775807):IntKind.wrap .i64 n=n:=by
 grind[IntKind.wrap,IntKind.bits,IntKind.signed]
theorem ct{a b:Int}(h1:-9223372036854775808<=a+b)(h2:a+b<=9223372036854775807):aG .i64 a b=a+b:=Ef h1 h2
theorem dh{a b:Int}(h1:-9223372036854775808<=a-b)(h2:a-b<=9223372036854775807):bf .i64 a b=a-b:=Ef h1 h2
def KB{a b:Int}(h1:-9223372036854775808<=a*b)(h2:a*b<=9223372036854775807):HL .i64 a b=a*b:=Ef h1 h2
def ie{α:Type}{n:Int}{l:L α}:aI n l=W↔0<=n∧n<l.length:=by simp[aI]
def XJ{α:Type}{k:Nat}{l:L α}:dV k l=W↔k<l.length:=by simp[dV]
def uQ{lo hi len:Int}:eK lo hi len=W↔0<=lo∧lo<=hi∧hi<=len:=by simp[eK]
def Gv{α:Type}{a b:L α}:de a b=W↔a.length+b.length<=17179869184:=by simp[de]
theorem xM{a b:Int}:aa a b=W↔a=b:=by simp[aa]
def Ey{a b:Int}:aE a b=W↔a<b:=by simp[aE]
end
section
variable {α β:Type}
theorem tU(a:α)(f:α->O β):ah (Z a) f=f a:=rfl
theorem akc{R P:Type}(r:R)(f:R->O α)(g:P->O α):cz (.ok r) f g=f r:=rfl
theorem afW{R P:Type}(p:P)(f:R->O α)(g:P->O α):cz (.iJ p) f g=g p:=rfl
theorem YH(x:O α):aO W x=x:=rfl
theorem RV(x y:O α):aj W x y=x:=rfl
theorem ahy(x y:O α):aj J x y=y:=rfl
def S9{γ:Type}{i:Int}{l:L γ}(h1:0<=i)(h2:i<(l.length:Int))(x:O α):aO (aI i l) x=x:=by rw[ie.2 ⟨h1,h2⟩];rfl
def YI{γ:Type}{k:Nat}{l:L γ}(h:k<l.length)(x:O α):aO (dV k l) x=x:=by rw[XJ.2 h];rfl
def Ta{a b c:Int}(h1:0<=a)(h2:a<=b)(h3:b<=c)(x:O α):aO (eK a b c) x=x:=by rw[uQ.2 ⟨h1,h2,h3⟩];rfl
def AX{γ:Type}{a b:L γ}(h:a.length+b.length<=17179869184)(x:O α):aO (de a b) x=x:=by rw[Gv.2 h];rfl
def acr(a b:Bool)(x:O α):aO (nR a b) x=aO a (aO b x):=by cases a<;>rfl
def acq{a b:Int}(h:a=b)(x:O α):aO (gi a b) x=x:=by subst h;simp[gi,aO]
def aaC{a b:Int}(h:a=b)(x y:O α):aj (gi a b) x y=x:=by subst h;simp[gi,aj]
def We{a b:Int}(h:a≠b)(x y:O α):aj (gi a b) x y=y:=by simp[gi,aj,h]
def y7{a b:Int}(h:a<b)(x y:O α):aj (aE a b) x y=x:=by rw[Ey.2 h];rfl
def El{a b:Int}(h:b<=a)(x y:O α):aj (aE a b) x y=y:=by simp[aj,aE,Int.not_lt.2 h]
def Ph{a b:Int}(h:a<=b)(x y:O α):aj (br a b) x y=x:=by simp[aj,br,h]
def aaB{a b:Int}(h:b<a)(x y:O α):aj (br a b) x y=y:=by simp[aj,br,Int.not_le.2 h]
def aeq{a b:Int}(h:a=b)(x y:O α):aj (aa a b) x y=x:=by rw[xM.2 h];rfl
def RY{a b:Int}(h:a≠b)(x y:O α):aj (aa a b) x y=y:=by rw[show aa a b=J by simp[aa,h]];rfl
def RW(a:Bool)(x y:O α):aj (au a) x y=aj a y x:=by cases a<;>rfl
theorem ahV{a b:Int}(h:a<b):aE a b=W:=Ey.2 h
def ahW{a b:Int}(h:b<=a):aE a b=J:=by simp[aE,Int.not_lt.2 h]
def anm{a b:Int}(h:a<=b):br a b=W:=by simp[br,h]
def ah1{a b:Int}(h:b<a):br a b=J:=by simp[br,Int.not_le.2 h]
theorem aqz{a b:Int}(h:a=b):aa a b=W:=xM.2 h
theorem akb{a b:Int}(h:a≠b):aa a b=J:=by simp[aa,h]
theorem af7(x y:α):(bif W then x else y)=x:=rfl
theorem af8(x y:α):(bif J then x else y)=y:=rfl
def Mp(l:L α):cG l 0 (l.length:Int)=l:=by simp[cG]
def Bx(l:L α)(k:Int):cG l k (l.length:Int)=l.drop k.toNat:=by simp[cG]
def Ei(l:L α)(k:Int):cG l 0 k=l.take k.toNat:=by simp[cG]
theorem Xi(k:Nat):az (k:Int)=k:=rfl
theorem Ex(l:L α):aq l=(l.length:Int):=rfl
theorem afX(l:L α)(k:Nat)(z:α):bn l k z=l.getD k z:=rfl
theorem aa0(n:Int):az n=n.toNat:=rfl
theorem acu(a b:L α):cZ a b=a++b:=rfl
theorem aaR(l:L α)(k:Nat)(x:α):lE l k x=l.set k x:=rfl
def abd(a b:L α):(a++b).length=a.length+b.length:=lD
def Xv(a:α)(l:L α):(a::l).length=l.length+1:=lQ
theorem abc:([]:L α).length=0:=rfl
def Xh(k:Nat):Int.toNat (k:Int)=k:=vZ k
theorem Xg:Int.toNat 0=0:=rfl
theorem aaZ:Int.toNat 1=1:=rfl
end
def hJ:(∀{α:Type}(a b:L α),(a++b).length=a.length+b.length)∧(∀{α:Type}(a:α)(l:L α),(a::l).length=l.length+1)∧(∀{α:Type},([]:L α).length=0)∧
 (∀{α:Type}(k:Nat)(l:L α),(l.drop k).length=l.length-k)∧(∀{α:Type}(k:Nat)(l:L α),(l.take k).length=min k l.length)∧(∀{α:Type}(k:Nat)(x:α)(l:L α),(l.set k x).length=l.length):=
 ⟨λ_ _=>lD,λ_ _=>rfl,rfl,λ_ _=>Sj,λ_ _=>MZ,λ_ _ _=>Kr⟩
def aT:(∀{α:Type}{β:Type}(a:α)(f:α->O β),ah (Z a) f=f a)∧
 (∀{α:Type}{R P:Type}(r:R)(f:R->O α)(g:P->O α),cz (.ok r) f g=f r)∧
 (∀{α:Type}{R P:Type}(p:P)(f:R->O α)(g:P->O α),cz (.iJ p) f g=g p)∧
 (∀{α:Type}(x:O α),aO W x=x)∧
 (∀{α:Type}(x y:O α),aj W x y=x)∧
 (∀{α:Type}(x y:O α),aj J x y=y)∧
 (∀{α:Type}{γ:Type}{i:Int}{l:L γ}(h1:0<=i)(h2:i<(l.length:Int))(x:O α),aO (aI i l) x=x)∧
 (∀{α:Type}{γ:Type}{k:Nat}{l:L γ}(h:k<l.length)(x:O α),aO (dV k l) x=x)∧
 (∀{α:Type}{a b c:Int}(h1:0<=a)(h2:a<=b)(h3:b<=c)(x:O α),aO (eK a b c) x=x)∧
 (∀{α:Type}{γ:Type}{a b:L γ}(h:a.length+b.length<=17179869184)(x:O α),aO (de a b) x=x)∧
 (∀{α:Type}(a b:Bool)(x:O α),aO (nR a b) x=aO a (aO b x))∧
 (∀{α:Type}{a b:Int}(h:a=b)(x:O α),aO (gi a b) x=x)∧
 (∀{α:Type}{a b:Int}(h:a=b)(x y:O α),aj (gi a b) x y=x)∧
 (∀{α:Type}{a b:Int}(h:a≠b)(x y:O α),aj (gi a b) x y=y)∧
 (∀{α:Type}{a b:Int}(h:a<b)(x y:O α),aj (aE a b) x y=x)∧
 (∀{α:Type}{a b:Int}(h:b<=a)(x y:O α),aj (aE a b) x y=y)∧
 (∀{α:Type}{a b:Int}(h:a<=b)(x y:O α),aj (br a b) x y=x)∧
 (∀{α:Type}{a b:Int}(h:b<a)(x y:O α),aj (br a b) x y=y)∧
 (∀{α:Type}{a b:Int}(h:a=b)(x y:O α),aj (aa a b) x y=x)∧
 (∀{α:Type}{a b:Int}(h:a≠b)(x y:O α),aj (aa a b) x y=y)∧
 (∀{α:Type}(a:Bool)(x y:O α),aj (au a) x y=aj a y x)∧
 (∀{a b:Int}(h:a<b),aE a b=W)∧
 (∀{a b:Int}(h:b<=a),aE a b=J)∧
 (∀{a b:Int}(h:a<=b),br a b=W)∧
 (∀{a b:Int}(h:b<a),br a b=J)∧
 (∀{a b:Int}(h:a=b),aa a b=W)∧
 (∀{a b:Int}(h:a≠b),aa a b=J)∧
 (∀{α:Type}(x y:α),(bif W then x else y)=x)∧
 (∀{α:Type}(x y:α),(bif J then x else y)=y)∧
 (∀{α:Type}(l:L α),cG l 0 (l.length:Int)=l)∧
 (∀{α:Type}(l:L α),aq l=(l.length:Int))∧
 (∀{α:Type}(l:L α)(k:Nat)(z:α),bn l k z=l.getD k z)∧
 (∀(n:Int),az n=n.toNat)∧
 (∀{α:Type}(a b:L α),cZ a b=a++b)∧
 (∀{α:Type}(l:L α)(k:Nat)(x:α),lE l k x=l.set k x)∧
 (∀{α:Type}(a b:L α),(a++b).length=a.length+b.length)∧
 (∀{α:Type}(a:α)(l:L α),(a::l).length=l.length+1)∧
 (∀{α:Type},([]:L α).length=0)∧
 (∀(k:Nat),Int.toNat (k:Int)=k)∧
 (Int.toNat 0=0)∧
 (Int.toNat 1=1):=
 ⟨@tU,@akc,@afW,@YH,@RV,@ahy,@S9,@YI,@Ta,@AX,@acr,@acq,@aaC,@We,@y7,@El,@Ph,@aaB,@aeq,@RY,@RW,@ahV,@ahW,@anm,@ah1,@aqz,@akb,@af7,@af8,@Mp,@Ex,@afX,@aa0,@acu,@aaR,@abd,@Xv,@abc,@Xh,@Xg,@aaZ⟩
theorem bG{α:Type}{f:Nat->O α}{r:α}(h:∀n,f n=Z r):Ev f r:=.of_eq h
theorem fc{α:Type}{f:Nat->O α}{r:α}(h:∀n,f n=Z r:=by intro n;rfl):Ev f r:=.of_eq h
end
end TL
end
section
namespace Mn
open Go TL
def EP(a b:ax):Bool:=a.Kind==b.Kind&&a.N==b.N
def g7(n:Int):ax:=⟨1,n⟩
def iD(b:Bool):ax:=⟨2,bif b then 1 else 0⟩
def dU:ax:=⟨3,0⟩
def vJ(n:Int):ax:=⟨5,n⟩
def kA(v:ax):ax:=if v.Kind=4∨v.Kind=5 then vJ 0 else v
def lY(c:aA)(n:Int):Int:=(c.Cons.getD n.toNat aY).lg
def nF:L Nat:=[0,0,0,0,0,0,0,2,2,1,0,0,1,2,2,2,2,2,0,1,0,1,1,2,1,1,0,2,1,1,0,0,0,0,1]
def cr(c:aA)(i:bN):Nat:=if i.Op=18 then(lY c i.A).toNat else nF.getD i.Op.toNat 0
def aX(c:aA)(n:Int):bN:=c.dL.getD n.toNat bY
def iZ(c:aA)(n:Int):aB:=c.eC.getD n.toNat aK
def eu(w:ak)(n:Int):bx:=w.aS.getD n.toNat bL
def bA(w:ak)(at_:Int):Int:=w.cq.getD at_.toNat 0
def eW(l:L ax)(n:Nat):ax:=l.getD n bq
def gJ(w:ak)(n:Int)(o:bx):ak:=⟨w.aS.set n.toNat o,w.cq,w.nV,w.dL,w.Used⟩
def hY(w:ak)(o:bx):ak:=⟨w.aS++[o],w.cq,w.nV,w.dL,w.Used⟩
inductive ue where
 |fail (s:Int)|waits|done (v:ax)|go (w:ak) (fr:List ai) (e:Option aP)
def lR(f:ai)(v:ax):ai:=⟨f.At,f.Env,f.Stack++[v],f.dI⟩
def fG(w:ak)(left:L ai)(f:ai)(v:ax)(e:O aP:=Y):ue:=.go w (left++[lR f v]) e
def oq(w:ak)(left:L ai)(f:ai)(o:bx)(e:O aP:=Y):ue:=
 if 120<=w.aS.length then .fail 4 else fG (hY w o) left f (vJ w.aS.length) e
def gQ(w:ak)(v:ax)(a:Int):O bx:=
 if v.Kind=5∧(eu w v.N).Form=a then Z (eu w v.N)else Y
def jE(c:aA)(w:ak)(f v:ax):O ai:=
 if f.Kind=4 then Z ⟨c.cX.getD f.N.toNat 0,[v],[],J⟩
 else match gQ w f 2 with
  |some o=>Z ⟨o.N,o.gu++[v],[],J⟩|none=>Y
def kN:L ai->ax->L ai
 |[],_=>[]|[f],v=>[lR f v]|f::l,v=>f::kN l v
def kH(w:ak)(left l:L ai):ue:=if 40<left.length+l.length then .fail 4 else .go w (left++l) Y
def sN(c:aA)(w:ak)(left:L ai)(f v:ax)(reset:Bool):ue:=
 match jE c w f v with
 |some b=>kH w left [⟨b.At,b.Env,b.Stack,reset⟩]|none=>match gQ w f 5 with
  |some o=>kH w left (kN o.Frames v)|none=>.fail 2
def jD(n:Int):Bool:=decide (-1000000000<=n)&&decide (n<=1000000000)
def sJ(w:ak)(left:L ai)(f:ai)(op:Int)(u v:ax):ue:=
 if op=17 then(if u.Kind≠v.Kind∨3<u.Kind then .fail 2 else fG w left f (iD (u.N==v.N)))
 else if u.Kind≠1∨v.Kind≠1 then .fail 2
 else if op=16 then fG w left f (iD (decide (u.N<v.N)))
 else
  let n:=if op=13 then u.N+v.N else if op=14 then u.N-v.N else u.N*v.N
  if jD n=W then fG w left f (g7 n)else .fail 4
mutual
def jA(w:ak):aB->ax->O (L ax)
 |⟨a,n,text,parts⟩,v=>
  if a=1 then Z []else if a=2 then Z [v]
  else if a=3 then(if EP v (g7 n)then Z []else Y)
  else if a=4 then(if EP v (iD (n==1))then Z []else Y)
  else if a=5 then(if EP v dU then Z []else Y)
  else match gQ w v 1 with
   |none=>Y|some o=>if o.N≠n∨o.gu.length≠parts.length then Y else fI w parts o.gu
def fI(w:ak):L aB->L ax->O (L ax)
 |q::a,v::b=>match jA w q v with
  |none=>Y|some l=>match fI w a b with
   |none=>Y|some m=>Z (l++m)
 |_,_=>Z []
end
def j3{α:Type}(q:α->Bool):L α->O Nat
 |[]=>Y|a::l=>match j3 q l with
  |some k=>Z (k+1)|none=>bif q a then Z 0 else Y
def E4(w:ak)(left:L ai)(f:ai)(start:Int):ue:=
 match j3 (λf:ai=>f.dI) (left++[f])with
 |none=>.fail 3|some k=>if 120<=w.aS.length then .fail 4
  else .go (hY w ⟨5,0,[],(left++[f]).drop k⟩) ((left++[f]).take k++[⟨start,f.Env++[vJ w.aS.length],[],W⟩]) Y
def By(c:aA)(w:ak)(at_:Int)(left:L ai)(f:ai)(g:ax):ue:=
 let mk (l:L ai):ue:=if 120<=w.aS.length then .fail 4
  else fG ⟨w.aS++[⟨6,0,[],l⟩],w.cq++[(w.aS.length:Int)],w.nV,w.dL,w.Used⟩ left f (vJ w.aS.length) (Z ⟨at_,19,0,dU⟩)
 match jE c w g dU with
 |some b=>mk [b]|none=>match gQ w g 5 with
  |some k=>mk (kN k.Frames dU)|none=>.fail 2
def Gl(w:ak)(at_:Int)(left:L ai)(f:ai)(v:ax):ue:=match gQ w v 3 with
 |none=>.fail 2|some o=>fG w left f (eW o.gu 0) (Z ⟨at_,17,0,kA (eW o.gu 0)⟩)
def jm(w:ak)(at_:Int)(left:L ai)(f:ai)(c v:ax):ue:=match gQ w c 3 with
 |none=>.fail 2|some o=>fG (gJ w c.N ⟨3,0,[v],[]⟩) left f dU (Z ⟨at_,18,0,kA v⟩)
def IT(w:ak)(at_:Int)(left:L ai)(f:ai)(c v:ax):ue:=match gQ w c 4 with
 |none=>.fail 2|some o=>if 4<=o.gu.length then .waits else fG (gJ w c.N ⟨4,0,o.gu++[v],[]⟩) left f dU (Z ⟨at_,22,0,kA v⟩)
def IN(w:ak)(at_:Int)(left:L ai)(f:ai)(c:ax):ue:=match gQ w c 4 with
 |none=>.fail 2|some o=>match o.gu with
  |[]=>.waits|v::l=>fG (gJ w c.N ⟨4,0,l,[]⟩) left f v (Z ⟨at_,23,0,kA v⟩)
def Jl(w:ak)(at_:Int)(left:L ai)(f:ai)(v:ax):ue:=match gQ w v 6 with
 |none=>.fail 2|some o=>if o.N=0 then .waits else if o.N≠1 then .fail o.N else fG w left f (eW o.gu 0) (Z ⟨at_,20,0,kA (eW o.gu 0)⟩)
def Uh(w:ak)(at_:Int)(left:L ai)(f:ai)(a:Int)(v:ax):ue:=
 if v.Kind≠1 then .fail 2 else if 100<=w.nV.length then .fail 4
 else fG ⟨w.aS,w.cq,w.nV++[⟨a,v.N⟩],w.dL,w.Used⟩ left f dU (Z ⟨at_,24,a,kA v⟩)
def inS(w:ak)(at_:Int)(left:L ai)(f:ai):ue:=match w.dL with
 |[]=>.waits|i::l=>if 1000000000<=w.Used then .fail 4 else fG ⟨w.aS,w.cq,w.nV,l,w.Used+1⟩ left f (g7 i) (Z ⟨at_,25,0,g7 i⟩)
def aeu(w:ak)(left:L ai)(v:ax):ue:=match left with
 |[]=>.done v|_::_=>.go w (left.take (left.length-1)++[lR (left.getD (left.length-1) bz) v]) Y
theorem Fe{w:ak}{l:L ai}{g:ai}{v:ax}:aeu w (l++[g]) v=.go w (l++[lR g v]) Y:=by
 unfold aeu;split
 .simp_all
 grind
def eX(c:aA)(w:ak)(at_:Int)(left:L ai)(i:bN)(f:ai)(l:L ax):ue:=
 match i.Op.toNat with
 |1=>fG w left f (g7 i.A)|2=>fG w left f (iD (i.A==1))|3=>fG w left f dU|4=>fG w left f (eW f.Env i.A.toNat)|5=>fG w left f ⟨4,i.A⟩|6=>oq w left f ⟨2,i.A,f.Env,[]⟩|7=>sN c w (left++[f]) (eW l 0) (eW l 1) J|8=>sN c w left (eW l 0) (eW l 1) f.dI|9=>.go w (left++[⟨f.At,f.Env++[eW l 0],f.Stack,f.dI⟩]) Y|10=>.go w (left++[⟨f.At,f.Env.take (f.Env.length-i.A.toNat),f.Stack,f.dI⟩]) Y|11=>.go w (left++[⟨i.A,f.Env,f.Stack,f.dI⟩]) Y|12=>if(eW l 0).Kind≠2 then .fail 2 else .go w (left++[⟨if(eW l 0).N=0 then i.A else f.At,f.Env,f.Stack,f.dI⟩]) Y|13|14|15|16|17=>sJ w left f i.Op (eW l 0) (eW l 1)|18=>oq w left f ⟨1,i.A,l,[]⟩|19=>match jA w (iZ c i.A) (eW l 0)with
  |some b=>.go w (left++[⟨f.At,f.Env++b,f.Stack,f.dI⟩]) Y|none=>.go w (left++[⟨i.B,f.Env,f.Stack++[eW l 0],f.dI⟩]) Y
 |20=>.fail 3|21=>oq w left f ⟨3,0,[eW l 0],[]⟩ (Z ⟨at_,16,0,kA (eW l 0)⟩)|22=>Gl w at_ left f (eW l 0)|23=>jm w at_ left f (eW l 0) (eW l 1)|24=>By c w at_ left f (eW l 0)|25=>Jl w at_ left f (eW l 0)|26=>oq w left f ⟨4,0,[],[]⟩ (Z ⟨at_,21,0,dU⟩)|27=>IT w at_ left f (eW l 0) (eW l 1)|28=>IN w at_ left f (eW l 0)|29=>Uh w at_ left f i.A (eW l 0)|30=>inS w at_ left f|31=>kH w (left++[f]) [⟨i.A,f.Env,[],W⟩]|32=>E4 w left f i.A|33=>fG w left f dU (Z ⟨at_,28,0,dU⟩)|_=>aeu w left (eW l 0)
def goS(c:aA)(w:ak)(at_:Int)(o:bx):ue:=
 let top:=o.Frames.length-1
 let f:=o.Frames.getD top bz
 let i:=aX c f.At
 let n:=f.Stack.length-cr c i
 eX c w at_ (o.Frames.take top) i ⟨f.At+1,f.Env,f.Stack.take n,f.dI⟩ (f.Stack.drop n)
def qy(c:aA)(w:ak)(at_:Int):O (ak×O aP):=
 let t:=bA w at_
 let o:=eu w t
 if o.N≠0 then Y
 else match goS c w at_ o with
  |.waits=>Y|.fail s=>Z (gJ w t ⟨6,s,[],[]⟩,Z ⟨at_,0,s,bq⟩)|.done v=>Z (gJ w t ⟨6,1,[v],[]⟩,Z ⟨at_,0,1,kA v⟩)|.go a fr e=>Z (gJ a t ⟨6,0,[],fr⟩,e)
def bW(s e:Int):av:=⟨W,s,e⟩
mutual
def fX:aB->Int
 |⟨a,_,_,parts⟩=>if a=2 then 1 else n7 parts
def n7:L aB->Int
 |[]=>0|q::a=>fX q+n7 a
end
def yE(c:aA)(i:bN)(d:av):Prop:=
 (cr c i:Int)<=d.Stack∧(i.Op=4->i.A<d.Env)∧(i.Op=10->i.A<=d.Env)∧(i.Op=8->d.Stack=2)∧(i.Op=34->d.Stack=1)
def fW(c:aA)(i:bN)(d:av):Int:=
 d.Stack-(cr c i:Int)+(if i.Op=9∨i.Op=10∨i.Op=11∨i.Op=12∨i.Op=19 then 0 else 1)
def dM(c:aA)(n:Int)(d:av):L (Int×av):=
 let i:=aX c n;let s:=fW c i d
 match i.Op.toNat with
 |8|20|34=>[]|9=>[(n+1,bW s (d.Env+1))]|10=>[(n+1,bW s (d.Env-i.A))]|11=>[(i.A,d)]|12=>[(n+1,bW s d.Env),(i.A,bW s d.Env)]|19=>[(n+1,bW s (d.Env+fX (iZ c i.A))),(i.B,d)]|6|32=>[(n+1,bW s d.Env),(i.A,bW 0 (d.Env+1))]|31=>[(n+1,bW s d.Env),(i.A,bW 0 d.Env)]|_=>[(n+1,bW s d.Env)]
inductive LK(c:aA):Int->av->Prop
 |root {f}:f∈c.cX->LK c f (bW 0 1)|next {n d x}:LK c n d->x∈dM c n d->LK c x.1 x.2
def eV(D:L av)(n:Int):av:=D.getD n.toNat aU
structure VY(c:aA)(D:List av):Prop where
 len:D.length=c.dL.length
 root:∀f∈c.cX,eV D f=bW 0 1
 ok:∀n:Int,0<=n->n<c.dL.length->(eV D n).Reached=W->(eV D n).Stack<=60∧(eV D n).Env<=30∧yE c (aX c n) (eV D n)
 step:∀n:Int,0<=n->n<c.dL.length->(eV D n).Reached=W->∀x∈dM c n (eV D n),0<=x.1∧x.1<c.dL.length∧eV D x.1=x.2
 der:∀n:Int,0<=n->n<c.dL.length->(eV D n).Reached=W->LK c n (eV D n)
 zero:∀n:Int,0<=n->n<c.dL.length->(eV D n).Reached=J->eV D n=aU
mutual
def pw:aB->Nat
 |⟨_,_,_,parts⟩=>1+qc parts
def qc:L aB->Nat
 |[]=>0|q::a=>pw q+qc a
end
mutual
def tw(cons:L cw):aB->Prop
 |⟨a,n,text,parts⟩=>text=[]∧(a=1∨a=2∨a=5)∧n=0∧parts=[]∨text=[]∧a=3∧jD n=W∧parts=[]∨text=[]∧a=4∧(n=0∨n=1)∧parts=[]∨
  text=[]∧a=6∧0<=n∧n<cons.length∧(parts.length:Int)=(cons.getD n.toNat aY).lg∧oN cons parts
def oN(cons:L cw):L aB->Prop
 |[]=>True|q::a=>tw cons q∧oN cons a
end
structure OJ(c:aA)(i:bN):Prop where
 lo:1<=i.Op
 hi:i.Op<=34
 int:i.Op=1->jD i.A=W
 bool:i.Op=2->i.A=0∨i.A=1
 place:i.Op=4->0<=i.A∧i.A<=29
 code:i.Op=5->0<=i.A∧i.A<c.cX.length
 goto:i.Op=6∨i.Op=11∨i.Op=12∨i.Op=31∨i.Op=32->0<=i.A∧i.A<c.dL.length
 drop:i.Op=10->1<=i.A∧i.A<=30
 con:i.Op=18->0<=i.A∧i.A<c.Cons.length
 AY:i.Op=19->0<=i.A∧i.A<c.eC.length∧0<=i.B∧i.B<c.dL.length
 port:i.Op=29->0<=i.A∧i.A<=3
structure Bt(c:aA)(D:List av):Prop where
 len:1<=c.dL.length∧c.dL.length<=1500
 ins:∀i∈c.dL,OJ c i
 pats:∀q∈c.eC,tw c.Cons q∧pw q<=12
 pl:c.eC.length<=100
 qV:∀f∈c.cX,0<=f∧f<c.dL.length
 fl:1<=c.cX.length∧c.cX.length<=300
 main:0<=c.Main∧c.Main<c.cX.length
 cons:∀k∈c.Cons,0<=k.lg∧k.lg<=3
 dep:VY c D
theorem bV{α:Type}{l:L α}{i:Nat}(d:α)(h:i<l.length):l.getD i d∈l:=by
 simp_all
theorem Au{c:aA}{n:Int}{d:av}{x:Int×av}(a:x∈dM c n d)(h:d.Reached=W):x.2.Reached=W:=by unfold dM at a;dsimp only at a;split at a<;>simp only[ga,List.not_mem_nil,or_false]at a<;>first|exact a.elim|(subst a;first|rfl|exact h)|(cases a<;>rename_i a<;>subst a<;>first|rfl|exact h)
def VY.PM{c:aA}{D:L av}(h:VY c D)(hf:∀f∈c.cX,0<=f∧f<c.dL.length){n:Int}{d:av}(j:LK c n d) :
  0<=n∧n<c.dL.length∧eV D n=d∧d.Reached=W:=by
 induction j with
 |root g=>exact⟨(hf _ g).1,(hf _ g).2,h.root _ g,rfl⟩| @next n d x m i k=>
  let ⟨l,h1,h2,h3⟩:=k
  subst h2
  let ⟨a,b,e⟩:=h.step n l h1 h3 x i
  exact⟨a,b,e,Au i h3⟩
def cT(c:aA)(k:Nat)(v:ax):Prop:=
 (v.Kind=1∧jD v.N=W)∨(v.Kind=2∧(v.N=0∨v.N=1))∨(v.Kind=3∧v.N=0)∨(v.Kind=4∧0<=v.N∧v.N<c.cX.length)∨(v.Kind=5∧0<=v.N∧v.N<k)
structure dW(c:aA)(D:List av)(k:Nat)(less:Int)(f:ai):Prop where
 lo:0<=f.At
 hi:f.At<c.dL.length
 re:(eV D f.At).Reached=W
 el:(f.Env.length:Int)=(eV D f.At).Env
 env:∀v∈f.Env,cT c k v
 sl:(f.Stack.length:Int)=(eV D f.At).Stack-less
 stack:∀v∈f.Stack,cT c k v
def S7(c:aA)(D:L av)(n:Int):Prop:=∃i:Int,0<=i∧i<c.dL.length∧(aX c i).Op=6∧(eV D i).Reached=W∧(aX c i).A=n
inductive jF(c:aA)(D:List av)(k:Nat):bx->Prop
 |data {n:Int} {vs}:0<=n->n<c.Cons.length->(vs.length:Int)=(lY c n)->(∀v∈vs,cT c k v)->jF c D k ⟨1,n,vs,[]⟩|func {n:Int} {vs}:S7 c D n->(vs.length:Int)=(eV D n).Env-1->(∀v∈vs,cT c k v)->jF c D k ⟨2,n,vs,[]⟩|cell {v}:cT c k v->jF c D k ⟨3,0,[v],[]⟩|chan {vs}:vs.length<=4->(∀v∈vs,cT c k v)->jF c D k ⟨4,0,vs,[]⟩|Il {f fs}:fs.length<40->(∀g∈f::fs,dW c D k 1 g)->f.dI=W->jF c D k ⟨5,0,[],f::fs⟩|wF {fs f}:fs.length<40->(∀g∈fs,dW c D k 1 g)->dW c D k 0 f->jF c D k ⟨6,0,[],fs++[f]⟩|done {v}:cT c k v->jF c D k ⟨6,1,[v],[]⟩|dead {s}:s=2∨s=3∨s=4->jF c D k ⟨6,s,[],[]⟩
structure rC(c:aA)(D:List av)(w:ak):Prop where
 len:w.aS.length<=120
 obs:∀o∈w.aS,jF c D w.aS.length o
 outs:w.nV.length<=100
 out:∀o∈w.nV,0<=o.Port∧o.Port<=3∧jD o.N=W
 ins:w.dL.length<=50
 inn:∀i∈w.dL,jD i=W
 used:0<=w.Used∧w.Used<=1000000000
 Yy:w.cq.Nodup
 tl:w.cq.length<=w.aS.length
 task:∀t∈w.cq,0<=t∧t<w.aS.length∧(eu w t).Form=6
 all:∀i:Nat,i<w.aS.length->(eu w i).Form=6->(i:Int)∈w.cq
section
section
variable {c:aA}{D:List av}{w w':ak}{k k':Nat}{f g:ai}{v u:ax}{o:bx}{form:Int}{left:List ai}{at_:Int}
def rC.ob(h:rC c D w){n:Int}(h1:0<=n)(h2:n<w.aS.length):jF c D w.aS.length (eu w n):=h.obs _ (bV _ (by omega))
def eE(h:rC c D w)(d:cT c w.aS.length v)(a:gQ w v form=Z o) :
  o.Form=form∧jF c D w.aS.length o∧v.Kind=5∧0<=v.N∧v.N<w.aS.length∧o=eu w v.N:=by
 unfold gQ at a;split at a<;>rename_i b
 .cases a;have:0<=v.N∧v.N<w.aS.length:=by obtain h|h|h|h|h:=d<;>first|exact h.2|(have:=h.1;have:=b.1;omega)
  exact⟨b.2,h.ob this.1 this.2,b.1,this.1,this.2,rfl⟩
 .cases a
def cT.ref(b:cT c k v)(h:v.Kind=5):0<=v.N∧v.N<k:=by obtain a|a|a|a|a:=b<;>first|exact a.2|(have:=a.1;omega)
def cT.code(b:cT c k v)(h:v.Kind=4):0<=v.N∧v.N<c.cX.length:=by obtain a|a|a|a|a:=b<;>first|exact a.2|(have:=a.1;omega)
def cT.int(b:cT c k v)(h:v.Kind=1):jD v.N=W:=by obtain a|a|a|a|a:=b<;>first|exact a.2|(have:=a.1;omega)
theorem cT.mono(b:k<=k')(a:cT c k v):cT c k' v:=by
 obtain h|h|h|h|h:=a
 .exact .inl h
 .exact .inr (.inl h)
 .exact .inr (.inr (.inl h))
 .exact .inr (.inr (.inr (.inl h)))
 .exact .inr (.inr (.inr (.inr ⟨h.1,h.2.1,by omega⟩)))
theorem dW.mono{l:Int}(b:k<=k')(h:dW c D k l f):dW c D k' l f:=
 ⟨h.lo,h.hi,h.re,h.el,λv a=>(h.env v a).mono b,h.sl,λv a=>(h.stack v a).mono b⟩
theorem yY{l:L ax}(h:∀u∈l,cT c k u)(a:cT c k v):∀u∈l++[v],cT c k u:=by
 grind
theorem dW.push(h:dW c D k 1 f)(a:cT c k v):dW c D k 0 (lR f v):=
 ⟨h.lo,h.hi,h.re,h.el,h.env,by have:=h.sl;grind[lR],yY h.stack a⟩
def jF.vals(h:jF c D k o):∀v∈o.gu,cT c k v:=by
 have one:∀{u:ax},cT c k u->∀v∈[u],cT c k v:=λa v b=>by simp_all
 cases h with|data _ _ _ h=>exact h|func _ _ h=>exact h|cell h=>exact one h|chan _ h=>exact h|Il=>simp_all|wF=>simp_all|done h=>exact one h|dead=>simp_all
theorem jF.mono(f:k<=k')(h:jF c D k o):jF c D k' o:=by
 cases h with
 |data a b e d=>exact .data a b e λv i=>(d v i).mono f|func a b e=>exact .func a b λv i=>(e v i).mono f|cell a=>exact .cell (a.mono f)|chan a b=>exact .chan a λv i=>(b v i).mono f|Il a b e=>exact .Il a (λg j=>(b g j).mono f) e|wF a b e=>exact .wF a (λg j=>(b g j).mono f) (e.mono f)|done a=>exact .done (a.mono f)|dead a=>exact .dead a
theorem xH{n:Int}(hn:0<=n)(a:n<w.aS.length){i:Nat}:eu (gJ w n o) i=if(i:Int)=n then o else eu w i:=by
 unfold eu gJ
 grind
theorem qf{i:Nat}:eu (hY w o) i=if i=w.aS.length then o else eu w i:=by
 unfold eu hY
 grind
theorem rC.set(h:rC c D w){n:Int}(hn:0<=n)(g:n<w.aS.length)(l:jF c D w.aS.length o)(hf:o.Form=6↔(eu w n).Form=6):rC c D (gJ w n o):=by
 have b:(gJ w n o).aS.length=w.aS.length:=by unfold gJ;simp
 have a:∀i:Nat,i<w.aS.length->((eu (gJ w n o) i).Form=6↔(eu w i).Form=6):=by
  intro i d;rw[xH hn g]
  grind
 refine⟨by rw[b];exact h.len,λx f=>?_,h.outs,h.out,h.ins,h.inn,h.used,h.Yy,by rw[b];exact h.tl,λt k=>?_,λi d j=>?_⟩
 .rw[b];obtain f|f:=Ws f
  .exact h.obs x f
  simp_all
 .let ⟨h1,h2,h3⟩:=h.task t k
  refine⟨h1,by omega,?_⟩;have e:((t.toNat:Nat):Int)=t:=by omega
  have:=(a t.toNat (by omega)).2 (by grind);rwa [e]at this
 .rw[b]at d;exact h.all i d ((a i d).1 j)
theorem rC.add(h:rC c D w)(hl:w.aS.length<120)(f:jF c D w.aS.length o)(hf:o.Form≠6):rC c D (hY w o):=by
 have g:(hY w o).aS.length=w.aS.length+1:=by unfold hY;simp
 refine⟨by omega,λx b=>?_,h.outs,h.out,h.ins,h.inn,h.used,h.Yy,by have:=h.tl;unfold hY;simp;omega,λt j=>?_,λi k a=>?_⟩
 .obtain b|b:=eZ.1 b
  .exact (h.obs x b).mono (by omega)
  .rw[rL.1 b];exact f.mono (by omega)
 .let ⟨h1,h2,h3⟩:=h.task t j
  refine⟨h1,by omega,?_⟩;have e:((t.toNat:Nat):Int)=t:=by omega
  rw[<-e,qf,bO (by omega),e];exact h3
 .rw[qf]at a;by_cases d:i=w.aS.length
  .simp_all
  .rw[bO d]at a;exact h.all i (by omega) a
abbrev xT(w:ak)(o:bx):ak:=⟨w.aS++[o],w.cq++[(w.aS.length:Int)],w.nV,w.dL,w.Used⟩
theorem rC.spawn(h:rC c D w)(hl:w.aS.length<120)(l:jF c D w.aS.length o)(hf:o.Form=6):rC c D (xT w o):=by
 have m:(xT w o).aS.length=w.aS.length+1:=by simp
 have j:∀i:Nat,eu (xT w o) i=if i=w.aS.length then o else eu w i:=λi=>qf (w:=w) (o:=o) (i:=i)
 refine⟨by omega,λx f=>?_,h.outs,h.out,h.ins,h.inn,h.used,?_,by have:=h.tl;simp;omega,λt g=>?_,λi p d=>?_⟩
 .obtain f|f:=eZ.1 f
  .exact (h.obs x f).mono (by omega)
  .rw[rL.1 f];exact l.mono (by omega)
 .refine List.nodup_append.2 ⟨h.Yy,List.pairwise_singleton _ _,λa j b n=>?_⟩;rw[rL.1 n];have:=(h.task a j).2.1;omega
 .obtain g|g:=eZ.1 g
  .let ⟨h1,h2,h3⟩:=h.task t g
   refine⟨h1,by omega,?_⟩;have e:((t.toNat:Nat):Int)=t:=by omega
   grind
  grind
 .rw[j]at d;by_cases k:i=w.aS.length
  .simp_all
  .rw[bO k]at d;exact fU _ (h.all i (by omega) d)
structure yp(c:aA)(D:List av)(w w':ak)(fr:List ai)(e:Option aP):Prop where
 ok:rC c D w'
 tk:∃l,w'.cq=w.cq++l
 tn:e=Y->w'.cq=w.cq
 ln:w.aS.length<=w'.aS.length
 fm:∀i:Nat,i<w.aS.length->((eu w' i).Form=6↔(eu w i).Form=6)
 ob:jF c D w'.aS.length ⟨6,0,[],fr⟩
 sm:∀i:Nat,i<w.aS.length->(eu w i).Form=6->eu w' i=eu w i
def Be(c:aA)(D:L av)(w:ak):ue->Prop
 |.fail s=>s=2∨s=3∨s=4|.waits=>True|.done v=>cT c w.aS.length v|.go w' fr e=>yp c D w w' fr e
variable {e:Option aP}
def yp.same(h:rC c D w){fr:L ai}(a:jF c D w.aS.length ⟨6,0,[],fr⟩):yp c D w w fr e:=
 ⟨h,⟨[],by simp⟩,λ_=>rfl,eR _,λ_ _=>vK,a,λ_ _ _=>rfl⟩
theorem yp.set(h:rC c D w){fr:L ai}{e:O aP}{n:Int}(hn:0<=n)(a:n<w.aS.length)(d:jF c D w.aS.length o)(hf:o.Form≠6)(b:(eu w n).Form≠6)
  (g:jF c D w.aS.length ⟨6,0,[],fr⟩):yp c D w (gJ w n o) fr e:=by
 have j:(gJ w n o).aS.length=w.aS.length:=by unfold gJ;simp
 refine⟨h.set hn a d ⟨λh=>absurd h hf,λh=>absurd h b⟩,⟨[],by simp[gJ]⟩,λ_=>rfl,by omega,λi f=>?_,by grind,λi f h6=>?_⟩
 .rw[xH hn a]
  grind
 .rw[xH hn a,bO]
  grind
theorem yp.add(h:rC c D w){fr:L ai}{e:O aP}(hl:w.aS.length<120)(a:jF c D w.aS.length o)(hf:o.Form≠6)
  (f:jF c D (w.aS.length+1) ⟨6,0,[],fr⟩):yp c D w (hY w o) fr e:=by
 have b:(hY w o).aS.length=w.aS.length+1:=by unfold hY;simp
 refine⟨h.add hl a hf,⟨[],by simp[hY]⟩,λ_=>rfl,by omega,λi d=>?_,by grind,λi d _=>?_⟩
 .rw[qf,bO (by omega)]
 .rw[qf,bO (by omega)]
def XH{n:Int}(h:jD n=W):cT c k (g7 n):=.inl ⟨rfl,h⟩
def QT{b:Bool}:cT c k (iD b):=.inr (.inl ⟨rfl,by cases b<;>simp[iD]⟩)
theorem vS:cT c k dU:=.inr (.inr (.inl ⟨rfl,rfl⟩))
def Wl(h:k<k'):cT c k' (vJ k):=.inr (.inr (.inr (.inr ⟨rfl,by simp[vJ],by simp[vJ];omega⟩)))
structure Cx(c:aA)(D:List av)(w:ak)(left:List ai)(i:bN)(f:ai)(l:List ax)(n:Int):Prop where
 hp:Bt c D
 hw:rC c D w
 n0:0<=n
 n1:n<c.dL.length
 re:(eV D n).Reached=W
 hi:i=aX c n
 zo:f.At=n+1
 el:(f.Env.length:Int)=(eV D n).Env
 env:∀v∈f.Env,cT c w.aS.length v
 sl:(f.Stack.length:Int)+cr c i=(eV D n).Stack
 stack:∀v∈f.Stack,cT c w.aS.length v
 ll:l.length=cr c i
 vals:∀v∈l,cT c w.aS.length v
 fl:left.length<40
 left:∀g∈left,dW c D w.aS.length 1 g
variable {i:bN}{l:List ax}{n:Int}
def Bt.aiJ(h:Bt c D)(a:0<=n)(h1:n<c.dL.length):OJ c (aX c n):=h.ins _ (bV _ (by omega))
def Cx.io(x:Cx c D w left i f l n):OJ c i:=x.hi▸x.hp.aiJ x.n0 x.n1
def Cx.nd(x:Cx c D w left i f l n):yE c i (eV D n):=x.hi▸(x.hp.dep.ok n x.n0 x.n1 x.re).2.2
def Cx.nx(x:Cx c D w left i f l n){y:Int×av}(d:y∈dM c n (eV D n)):0<=y.1∧y.1<c.dL.length∧eV D y.1=y.2∧(eV D y.1).Reached=W:=by
 let ⟨a,b,e⟩:=x.hp.dep.step n x.n0 x.n1 x.re y d
 exact⟨a,b,e,by rw[e];exact Au d x.re⟩
def Cx.val(x:Cx c D w left i f l n){j:Nat}(h:j<l.length):cT c w.aS.length (eW l j):=x.vals _ (bV _ h)
theorem Cx.tl(x:Cx c D w left i f l n){q:Int}(h:i.Op=q)(a:q≠18):l.length=nF.getD q.toNat 0:=by rw[x.ll];unfold cr;rw[h,bO a]
def Cx.fr(x:Cx c D w left i f l n){p s e:Int}(j:(p,bW s e)∈dM c n (eV D n)){g:ai}(m:w.aS.length<=k)(h1:g.At=p)(h2:(g.Env.length:Int)=e)(h3:∀v∈g.Env,cT c k v)
  {d:Int} (h4:(g.Stack.length:Int)=s-d) (h5:∀v∈g.Stack,cT c k v):dW c D k d g:=by
 let ⟨a,b,h,r⟩:=x.nx j
 subst h1;exact⟨a,b,r,by rw[h,h2];rfl,h3,by rw[h,h4];rfl,h5⟩
def Yc(a:k<=k')(hl:left.length<40)(h:∀g∈left,dW c D k 1 g)(b:dW c D k' 0 g):jF c D k' ⟨6,0,[],left++[g]⟩:=
 .wF hl (λx d=>(h x d).mono a) b
def dP(q:Int):Prop:=q=1∨q=2∨q=3∨q=4∨q=5∨q=6∨q=7∨(13<=q∧q<=18)∨(21<=q∧q<=33)
def Ni(hi:i=aX c n){d:av}(h:dP i.Op):(n+1,bW (d.Stack-cr c i+1) d.Env)∈dM c n d:=by
 subst hi;have a:¬((aX c n).Op=9∨(aX c n).Op=10∨(aX c n).Op=11∨(aX c n).Op=12∨(aX c n).Op=19):=by unfold dP at h;omega
 unfold dM fW;simp[a,jS];split<;>first|exact eJ|(exfalso;unfold dP at h;omega)
def Cx.wait(x:Cx c D w left i f l n)(h:dP i.Op):dW c D w.aS.length 1 f:=
 x.fr (Ni x.hi h) (eR _) x.zo x.el x.env (by have:=x.sl;omega) x.stack
theorem Cx.push(x:Cx c D w left i f l n)(h:dP i.Op)(a:w.aS.length<=k)(b:cT c k v):jF c D k ⟨6,0,[],left++[lR f v]⟩:=
 Yc a x.fl x.left (((x.wait h).mono a).push b)
def Cx.fG(x:Cx c D w left i f l n)(h:dP i.Op)(a:cT c w.aS.length v){e:O aP}:Be c D w (fG w left f v e):=yp.same x.hw (x.push h (eR _) a)
theorem Cx.made(x:Cx c D w left i f l n)(h:dP i.Op){e:O aP}(a:jF c D w.aS.length o)(hf:o.Form≠6):Be c D w (oq w left f o e):=by
 unfold oq;split
 .exact .inr (.inr rfl)
 .exact yp.add x.hw (by omega) a hf (x.push h (by omega) (Wl (by omega)))
theorem GO(d:Bt c D)(h:S7 c D n):0<=n∧n<c.dL.length∧(eV D n).Reached=W∧(eV D n).Stack=0:=by
 let ⟨i,f,h1,h2,h3,h4⟩:=h
 have g:(n,bW 0 ((eV D i).Env+1))∈dM c i (eV D i):=by
  grind[dM]
 let ⟨a,b,e⟩:=d.dep.step i f h1 h3 _ g
 exact⟨a,b,by rw[e];rfl,by rw[e];rfl⟩
theorem Ok(f:Bt c D)(n:rC c D w)(h:cT c w.aS.length u)(j:cT c w.aS.length v){b:ai}{r:Bool}(e:jE c w u v=Z b):dW c D w.aS.length 0 ⟨b.At,b.Env,b.Stack,r⟩:=by
 unfold jE at e;split at e
 .rename_i h4;cases e
  let ⟨h1,h2⟩:=h.code h4
  have k:=bV (l:=c.cX) (i:=u.N.toNat) 0 (by omega);have m:=f.qV _ k;have g:=f.dep.root _ k;exact⟨m.1,m.2,by rw[g];rfl,by rw[g];rfl,yY (l:=[]) (by simp) j,by rw[g];rfl,by simp⟩
 .split at e
  .rename_i o;cases e
   let ⟨h1,h2,_⟩:=eE n h o
   cases h2 with
   |func a b d=>
    let ⟨h3,h4,h5,h6⟩:=GO f a
    exact⟨h3,h4,h5,by simp_all,yY d j,by grind,by simp⟩
   |_=>cases h1
  .cases e
theorem pg:∀(f:ai)(fs:L ai)(v:ax),∃l g,f::fs=l++[g]∧kN (f::fs) v=l++[lR g v]
 |f,[],v=>⟨[],f,rfl,rfl⟩|f,g::fs,v=>by
  let ⟨l,h,h1,h2⟩:=pg g fs v
  grind[kN]
theorem IX{fs:L ai}(a:left.length+(f::fs).length<=40)(hl:∀g∈left,dW c D k 1 g)(h:∀g∈f::fs,dW c D k 1 g)(b:cT c k v):jF c D k ⟨6,0,[],left++kN (f::fs) v⟩:=by
 let ⟨l,g,h1,h2⟩:=pg f fs v
 rw[h2,<-v5];rw[h1]at h a;refine .wF (by grind) (λx d=>?_) ((h g (by simp)).push b)
 grind
theorem Fg{fs:L ai}:(kN fs v).length=fs.length:=by
 cases fs with
 |nil=>rfl|cons f fs=>
  let ⟨l,g,h1,h2⟩:=pg f fs v
  grind
theorem GB(a:rC c D w){l:L ai}(h:left.length+l.length<=40->jF c D w.aS.length ⟨6,0,[],left++l⟩):Be c D w (kH w left l):=by
 unfold kH;split
 .exact .inr (.inr rfl)
 .exact yp.same a (h (by omega))
theorem Oo(i:Bt c D)(e:rC c D w)(hl:∀g∈left,dW c D w.aS.length 1 g)(f:cT c w.aS.length u)(j:cT c w.aS.length v){r:Bool}:Be c D w (sN c w left u v r):=by
 unfold sN;split
 .rename_i b k;exact GB e λh=>.wF (by grind) hl (Ok i e f j k)
 .split
  .rename_i l
   let ⟨h1,h2,_⟩:=eE e f l
   cases h2 with|Il a b d=>grind[GB,IX,Fg]|_=>cases h1
  .exact .inl rfl
mutual
theorem Nn(e:rC c D w):∀(q:aB)(v:ax)(l:L ax),cT c w.aS.length v->tw c.Cons q->jA w q v=Z l->(∀u∈l,cT c w.aS.length u)∧(l.length:Int)=fX q
 |⟨form,n,text,parts⟩,v,l,f,b,h=>by
  unfold jA at h;unfold fX;by_cases h1:form=1
  .rw[bB h1]at h;cases h;obtain rfl:parts=[]:=by obtain h|h|h|h:=b<;>first|exact h.2.2.2|omega
   rw[bO (by omega)];exact⟨(λu a=>by cases a),rfl⟩
  rw[bO h1]at h;by_cases h2:form=2
  .grind
  rw[bO h2]at h ⊢;have nil:form≠6->parts=[]:=λh6=>by obtain h|h|h|h:=b<;>first|exact h.2.2.2|omega
  by_cases h3:form=3
  .rw[bB h3]at h;rw[nil (by omega)];split at h<;>cases h;exact⟨(λu a=>by cases a),rfl⟩
  rw[bO h3]at h;by_cases h4:form=4
  .rw[bB h4]at h;rw[nil (by omega)];split at h<;>cases h;exact⟨(λu a=>by cases a),rfl⟩
  rw[bO h4]at h;by_cases h5:form=5
  .rw[bB h5]at h;rw[nil (by omega)];split at h<;>cases h;exact⟨(λu a=>by cases a),rfl⟩
  rw[bO h5]at h;split at h
  .cases h
  .rename_i o g;split at h
   .cases h
   .have d:oN c.Cons parts:=by obtain h|h|h|h:=b<;>first|exact h.2.2.2.2.2|(exfalso;have:=h.2.1;omega)
    exact FK e parts o.gu l (eE e f g).2.1.vals d (by omega) h
theorem FK(i:rC c D w):∀(qs:L aB)(vs:L ax)(l:L ax),(∀v∈vs,cT c w.aS.length v)->oN c.Cons qs->vs.length=qs.length->fI w qs vs=Z l->
  (∀u∈l,cT c w.aS.length u)∧(l.length:Int)=n7 qs
 |[],vs,l,d,_,_,h=>by cases h;exact⟨(λu k=>by cases k),rfl⟩
 |q::qs,[],l,d,_,e,h=>by cases e
 |q::qs,v::vs,l,d,j,e,h=>by
  unfold fI at h;unfold n7;split at h
  .cases h
  .rename_i m f;split at h
   .cases h
   .rename_i n g;cases h;have a:=Nn i q v m (d v eJ) j.1 f;have b:=FK i qs vs n (λx o=>d x (ic _ o)) j.2 (by simpa using e) g
    grind
end
theorem uD{α:Type}{q:α->Bool}:∀{l:L α}{k:Nat},j3 q l=Z k->∃h:k<l.length,q l[k]=W
 |a::l,k,h=>by
  unfold j3 at h;cases b:j3 q l with
  |some j=>
   let ⟨h1,h2⟩:=uD b
   grind
  |none=>
   grind
end
end
section
section
variable {c:aA}{D:List av}{w w':ak}{f:ai}{v u:ax}{o:bx}{left:List ai}{at_:Int}{i:bN}{l:List ax}{n:Int}
def Cx.goto(x:Cx c D w left i f l n){p s e:Int}(a:(p,bW s e)∈dM c n (eV D n)){g:ai}{b:O aP}(h1:g.At=p)(h2:(g.Env.length:Int)=e)(h3:∀v∈g.Env,cT c w.aS.length v)
  (h4:(g.Stack.length:Int)=s) (h5:∀v∈g.Stack,cT c w.aS.length v):Be c D w (.go w (left++[g]) b):=
 yp.same x.hw (Yc (eR _) x.fl x.left (x.fr a (eR _) h1 h2 h3 (by omega) h5))
def Ld{d:av}(h:d.Reached=W):d=bW d.Stack d.Env:=by cases d;subst h;rfl
def aeI(x:Cx c D w left i f l n):Be c D w (eX c w at_ left i f l):=by
 have io:=x.io;have nd:=x.nd;have hlen:=x.hw.len;have h1:=io.lo;have h2:=io.hi;have O3:=x.sl;have hel:=x.el;have hfl:=x.fl;obtain⟨q,z⟩:∃q:Nat,i.Op=q:=⟨_,(Kt (by omega)).symm⟩;have hq1:1<=q:=by omega
 have hq2:q<=34:=by omega
 have A:(aX c n).Op=q:=by rw[<-x.hi];exact z
 have tl:q≠18->l.length=nF.getD q 0:=λh=>by rw[x.tl z (by omega)];rfl
 have K:q≠18->cr c i=nF.getD q 0:=λh=>by rw[<-x.ll];exact tl h
 have t:dP q->dP i.Op:=λh=>by rw[z];exact h
 have R:(aX c n).A=i.A:=by rw[<-x.hi]
 have ib:(aX c n).B=i.B:=by rw[<-x.hi]
 have E:fW c (aX c n) (eV D n)=(eV D n).Stack-(cr c i:Int)+(if(q:Int)=9∨(q:Int)=10∨(q:Int)=11∨(q:Int)=12∨(q:Int)=19 then 0 else 1):=by unfold fW;rw[<-x.hi,z]
 unfold eX;simp only[z,vZ]
 match q,z,hq1,hq2,A,tl,K,t,E with
 |1,z,_,_,_,_,_,t,_=>exact x.fG (t (by unfold dP;omega)) (XH (io.int z))
 |2,z,_,_,_,_,_,t,_=>exact x.fG (t (by unfold dP;omega)) QT
 |3,z,_,_,_,_,_,t,_=>exact x.fG (t (by unfold dP;omega)) vS
 |4,z,_,_,_,_,_,t,_=>have:=nd.2.1 z;have:=io.place z;exact x.fG (t (by unfold dP;omega)) (x.env _ (bV _ (by omega)))
 |5,z,_,_,_,_,_,t,_=>exact x.fG (t (by unfold dP;omega)) (.inr (.inr (.inr (.inl ⟨rfl,io.code z⟩))))
 |6,z,_,_,A,_,_,t,E=>
  have hm:(i.A,bW 0 ((eV D n).Env+1))∈dM c n (eV D n):=by unfold dM;simp only[A,vZ,R];exact ic _ eJ
  let ⟨a,b,e,r⟩:=x.nx hm
  exact x.made (t (by unfold dP;omega)) (.func ⟨n,x.n0,x.n1,A,x.re,R⟩ (by rw[e];simp only[bW];omega) x.env) (by simp)
 |7,z,_,_,_,tl,_,t,_=>
  have P:l.length=2:=tl (by decide);refine Oo x.hp x.hw (λg B=>?_) (x.val (by omega)) (x.val (by omega));obtain B|B:=eZ.1 B
  .exact x.left g B
  .rw[rL.1 B];exact x.wait (t (by unfold dP;omega))
 |8,z,_,_,_,tl,_,t,_=>have P:l.length=2:=tl (by decide);exact Oo x.hp x.hw x.left (x.val (by omega)) (x.val (by omega))
 |9,z,_,_,A,tl,K,t,E=>have hk:cr c i=1:=K (by decide);refine x.goto (p:=n+1) (s:=fW c (aX c n) (eV D n)) (e:=(eV D n).Env+1) (by unfold dM;simp only[A,vZ];exact eJ) x.zo (by simp only[lD,pF];omega) (yY x.env (x.val (by omega))) ?_ x.stack;rw[E];simp;omega
 |10,z,_,_,A,_,K,t,E=>
  have hA:=nd.2.2.1 z;have hB:=io.drop z;refine x.goto (p:=n+1) (s:=fW c (aX c n) (eV D n)) (e:=(eV D n).Env-i.A) (by unfold dM;simp only[A,vZ,R];exact eJ) x.zo ?_ (λv Q=>x.env v (So Q)) ?_ x.stack
  .simp only[MZ];omega
  .rw[E];simp;omega
 |11,z,_,_,A,_,K,t,E=>have hk:cr c i=0:=K (by decide);refine x.goto (p:=i.A) (s:=(eV D n).Stack) (e:=(eV D n).Env) (by rw[<-Ld x.re];unfold dM;simp only[A,vZ,R];exact eJ) rfl x.el x.env (by simp only;omega) x.stack
 |12,z,_,_,A,tl,K,t,E=>
  simp only;split
  .exact .inl rfl
  .have hs:(f.Stack.length:Int)=fW c (aX c n) (eV D n):=by rw[E];simp;omega
   by_cases h0:(eW l 0).N=0
   .rw[bB h0];exact x.goto (p:=i.A) (by unfold dM;simp only[A,vZ,R];exact ic _ eJ) rfl x.el x.env hs x.stack
   .rw[bO h0];exact x.goto (p:=n+1) (by unfold dM;simp only[A,vZ];exact eJ) x.zo x.el x.env hs x.stack
 |13,z,_,_,_,_,_,t,_|14,z,_,_,_,_,_,t,_|15,z,_,_,_,_,_,t,_|16,z,_,_,_,_,_,t,_|17,z,_,_,_,_,_,t,_=>
  have F:=t (by unfold dP;omega);simp only;have fin:∀m:Int,Be c D w (if jD m=W then fG w left f (g7 m)else .fail 4):=by
   intro m;split
   .exact x.fG F (XH (by assumption))
   .exact .inr (.inr rfl)
  unfold sJ;split
  .split
   .exact .inl rfl
   .exact x.fG F QT
  .split
   .exact .inl rfl
   .split
    .exact x.fG F QT
    .exact fin _
 |18,z,_,_,_,_,_,t,_=>
  let ⟨a,b⟩:=io.con z
  have S:=x.ll;unfold cr at S;rw[bB (show i.Op=18 from z)]at S;have:=x.hp.cons _ (bV aY (show i.A.toNat<c.Cons.length by omega));exact x.made (t (by unfold dP;omega)) (.data a b (by rw[S];unfold lY;omega) x.vals) (by simp)
 |19,z,_,_,A,tl,K,t,E=>
  have hk:cr c i=1:=K (by decide)
  let ⟨a,b,_⟩:=io.AY z
  have v0:=x.val (j:=0) (by omega);simp only;split
  .rename_i hb
   let ⟨h3,h4⟩:=Nn x.hw _ _ _ v0 (x.hp.pats _ (bV _ (by omega))).1 hb
   refine x.goto (p:=n+1) (s:=fW c (aX c n) (eV D n)) (e:=(eV D n).Env+fX (iZ c i.A)) (by unfold dM;simp only[A,vZ,R];exact eJ) x.zo ?_ (λv Q=>?_) (by rw[E];simp;omega) x.stack
   .simp only[lD];unfold iZ;omega
   .obtain Q|Q:=eZ.1 Q
    .exact x.env v Q
    .exact h3 v Q
  .exact x.goto (p:=i.B) (s:=(eV D n).Stack) (e:=(eV D n).Env) (by rw[<-Ld x.re];unfold dM;simp only[A,vZ,ib];exact ic _ eJ) rfl x.el x.env
    (by simp only[lD,pF];omega) (yY x.stack v0)
 |20,z,_,_,_,_,_,_,_=>exact .inr (.inl rfl)|21,z,_,_,_,tl,_,t,_=>have P:l.length=1:=tl (by decide);exact x.made (t (by unfold dP;omega)) (.cell (x.val (by omega))) (by simp)
 |22,z,_,_,_,tl,_,t,_=>
  have P:l.length=1:=tl (by decide);simp only;unfold Gl;split
  .exact .inl rfl
  .rename_i o C
   let ⟨h3,h4,_⟩:=eE x.hw (x.val (by omega)) C
   have:0<o.gu.length:=by cases h4<;>first|(cases h3;done)|simp
   exact x.fG (t (by unfold dP;omega)) (h4.vals _ (bV _ this))
 |23,z,_,_,_,tl,_,t,_=>
  have P:l.length=2:=tl (by decide);simp only;unfold jm;split
  .exact .inl rfl
  .rename_i o C
   let ⟨h3,h4,h5,h6,h7,h8⟩:=eE x.hw (x.val (by omega)) C
   exact yp.set x.hw h6 h7 (.cell (x.val (by omega))) (by simp) (by rw[<-h8];omega) (x.push (t (by unfold dP;omega)) (eR _) vS)
 |24,z,_,_,_,tl,_,t,_=>
  have P:l.length=1:=tl (by decide);have F:=t (by unfold dP;omega);have mk:∀{fr:L ai},jF c D w.aS.length ⟨6,0,[],fr⟩->Be c D w (if 120<=w.aS.length then .fail 4 else fG (xT w ⟨6,0,[],fr⟩) left f (vJ w.aS.length) (Z ⟨at_,19,0,dU⟩)):=by
   intro fr C;split
   .exact .inr (.inr rfl)
   .refine ⟨x.hw.spawn (by omega) C rfl,⟨_,rfl⟩,(λh=>by cases h),by simp,λj hj=>?_,x.push (k:=(xT w ⟨6,0,[],fr⟩).aS.length) F (by simp) (Wl (by simp)),λj hj _=>?_⟩<;>
    rw[show eu (xT w ⟨6,0,[],fr⟩) j=if j=w.aS.length then _ else eu w j from qf (w:=w),bO (by omega)]
  unfold By;simp only;split
  .rename_i b hb;have:=Ok (r:=b.dI) x.hp x.hw (x.val (by omega)) vS hb;exact mk (.wF (fs:=[]) (by simp) (by simp) this)
  .split
   .rename_i o C
    let ⟨h3,h4,_⟩:=eE x.hw (x.val (by omega)) C
    cases h4 with|Il a b d=>exact mk (IX (left:=[]) (by simp only[M3,lQ];omega) (by simp) b vS)|_=>cases h3
   .exact .inl rfl
 |25,z,_,_,_,tl,_,t,_=>
  have P:l.length=1:=tl (by decide);simp only;unfold Jl;split
  .exact .inl rfl
  .rename_i o C
   let ⟨h3,h4,_⟩:=eE x.hw (x.val (by omega)) C
   split
   .trivial
   .split
    .cases h4 with|dead a=>exact a|done a=>exact absurd rfl ‹_›|wF a b d=>exact absurd rfl ‹¬_=(0:Int)›|_=>cases h3
    .have:0<o.gu.length:=by cases h4 with|done a=>exact Nat.one_pos|dead a=>exact absurd ‹¬_› (by dsimp only;omega)|wF a b d=>exact absurd rfl ‹¬_=(0:Int)›|_=>cases h3
     exact x.fG (t (by unfold dP;omega)) (h4.vals _ (bV _ this))
 |26,z,_,_,_,_,_,t,_=>exact x.made (t (by unfold dP;omega)) (.chan (by simp) (by simp)) (by simp)
 |27,z,_,_,_,tl,_,t,_=>
  have P:l.length=2:=tl (by decide);simp only;unfold IT;split
  .exact .inl rfl
  .rename_i o C
   let ⟨h3,h4,h5,h6,h7,h8⟩:=eE x.hw (x.val (by omega)) C
   split
   .trivial
   .exact yp.set x.hw h6 h7 (.chan (by rw[lD];simp only[pF];omega) (yY h4.vals (x.val (by omega)))) (by simp) (by rw[<-h8];omega) (x.push (t (by unfold dP;omega)) (eR _) vS)
 |28,z,_,_,_,tl,_,t,_=>
  have P:l.length=1:=tl (by decide);simp only;unfold IN;split
  .exact .inl rfl
  .rename_i o C
   let ⟨h3,h4,h5,h6,h7,h8⟩:=eE x.hw (x.val (by omega)) C
   have hvs:=h4.vals;have hl4:o.gu.length<=4:=by cases h4<;>first|(cases h3;done)|assumption
   split
   .trivial
   .rename_i v l' hvl;rw[hvl]at hvs hl4;exact yp.set x.hw h6 h7 (.chan (by simp only[lQ]at hl4;omega) λu hu=>hvs u (ic _ hu)) (by simp) (by rw[<-h8];omega) (x.push (t (by unfold dP;omega)) (eR _) (hvs v eJ))
 |29,z,_,_,_,tl,_,t,_=>
  have P:l.length=1:=tl (by decide);have v0:=x.val (j:=0) (by omega);have hp:=io.port z;simp only;unfold Uh;split
  .exact .inl rfl
  .split
   .exact .inr (.inr rfl)
   .refine ⟨⟨x.hw.len,x.hw.obs,by simp only[lD,pF];omega,λo C=>?_,x.hw.ins,x.hw.inn,x.hw.used,x.hw.Yy,x.hw.tl,x.hw.task,x.hw.all⟩,⟨[],by simp⟩,λ_=>rfl,eR _,λ_ _=>vK,x.push (t (by unfold dP;omega)) (eR _) vS,λ_ _ _=>rfl⟩;obtain C|C:=eZ.1 C
    .exact x.hw.out o C
    .rw[rL.1 C];exact⟨hp.1,hp.2,v0.int (by omega)⟩
 |30,z,_,_,_,_,_,t,_=>
  have hi:=x.hw.inn;have hil:=x.hw.ins;have hu:=x.hw.used;simp only;unfold inS;split
  .trivial
  .rename_i j l' hl';rw[hl']at hi hil;split
   .exact .inr (.inr rfl)
   .exact ⟨⟨x.hw.len,x.hw.obs,x.hw.outs,x.hw.out,by simp only[lQ]at hil;simp only;omega,λy hy=>hi y (ic _ hy),by simp only;omega,x.hw.Yy,x.hw.tl,x.hw.task,x.hw.all⟩,⟨[],by simp⟩,λ_=>rfl,eR _,λ_ _=>vK,x.push (t (by unfold dP;omega)) (eR _) (XH (hi j eJ)),λ_ _ _=>rfl⟩
 |31,z,_,_,A,_,_,t,E=>
  refine GB x.hw λh=>.wF (by simp only[lD,pF]at h ⊢;omega) (λg B=>?_) ?_
  .obtain B|B:=eZ.1 B
   .exact x.left g B
   .rw[rL.1 B];exact x.wait (t (by unfold dP;omega))
  .exact x.fr (g:=⟨i.A,f.Env,[],W⟩) (p:=i.A) (s:=0) (e:=(eV D n).Env) (by unfold dM;simp only[A,vZ,R];exact ic _ eJ) (eR _) rfl x.el x.env (by simp) (by simp)
 |32,z,_,_,A,_,_,t,E=>
  have all:∀g∈left++[f],dW c D w.aS.length 1 g:=λg B=>by
   obtain B|B:=eZ.1 B
   .exact x.left g B
   .rw[rL.1 B];exact x.wait (t (by unfold dP;omega))
  simp only;unfold E4;split
  .exact .inr (.inl rfl)
  .rename_i k hk'
   let ⟨h3,h4⟩:=uD hk'
   split
   .exact .inr (.inr rfl)
   .have hlf:(left++[f]).length=left.length+1:=by simp
    have hd:(left++[f]).drop k=(left++[f])[k]::(left++[f]).drop (k+1):=aaG h3;have hko:jF c D w.aS.length ⟨5,0,[],(left++[f]).drop k⟩:=by rw[hd];refine .Il (by rw[Sj];omega) (λg B=>?_) h4;exact all g (List.mem_of_mem_drop (i:=k) (by rw[hd];exact B))
    refine yp.add x.hw (by omega) hko (by simp) (.wF (by rw[MZ];omega) (λg B=>(all g (So B)).mono (by omega)) ?_);exact x.fr (p:=i.A) (s:=0) (e:=(eV D n).Env+1) (by unfold dM;simp only[A,vZ,R];exact ic _ eJ) (by omega) rfl (by simp only[lD,pF];omega)
     (yY (λv Q=>(x.env v Q).mono (by omega)) (Wl (by omega))) (by simp) (by simp)
 |33,z,_,_,_,_,_,t,_=>exact x.fG (t (by unfold dP;omega)) vS
 |34,z,_,_,_,tl,_,t,_=>
  have P:l.length=1:=tl (by decide);have v0:=x.val (j:=0) (by omega);have I:=x.left;obtain rfl|⟨l',g,rfl⟩:=Sq left
  .exact v0
  .rw[Sp]at *
   rw[Fe];simp at hfl;exact yp.same x.hw (.wF (by omega) (λg B=>I g (fU _ B)) ((I g (by simp)).push v0))
 |q+35,z,hq1,hq2,A,tl,K,t,E=>omega
theorem Gk(e:jF c D w.aS.length o)(h6:o.Form=6)(h:o.N=0):∃fs f,o=⟨6,0,[],fs++[f]⟩∧fs.length<40∧(∀g∈fs,dW c D w.aS.length 1 g)∧dW c D w.aS.length 0 f:=by
 cases e with
 |wF a b d=>grind|done=>cases h
 |dead a=>simp_all|_=>cases h6
theorem YD(b:Bt c D)(d:rC c D w){fs:L ai}{f:ai}(h1:fs.length<40)(h2:∀g∈fs,dW c D w.aS.length 1 g)(h3:dW c D w.aS.length 0 f) :
  Cx c D w fs (aX c f.At) ⟨f.At+1,f.Env,f.Stack.take (f.Stack.length-cr c (aX c f.At)),f.dI⟩ (f.Stack.drop (f.Stack.length-cr c (aX c f.At))) f.At:=by
 have nd:=(b.dep.ok f.At h3.lo h3.hi h3.re).2.2.1;have sl:=h3.sl;exact⟨b,d,h3.lo,h3.hi,h3.re,rfl,rfl,h3.el,h3.env,by grind,λv a=>h3.stack v (So a),by grind,
  λv a=>h3.stack v (List.mem_of_mem_drop a),h1,h2⟩
theorem Qu{fs:L ai}{f:ai}:goS c w at_ ⟨6,0,[],fs++[f]⟩=
  eX c w at_ fs (aX c f.At) ⟨f.At+1,f.Env,f.Stack.take (f.Stack.length-cr c (aX c f.At)),f.dI⟩ (f.Stack.drop (f.Stack.length-cr c (aX c f.At))):=by
 grind[goS]
def Yd(a:Bt c D)(b:rC c D w)(d:jF c D w.aS.length o)(h6:o.Form=6)(e:o.N=0):Be c D w (goS c w at_ o):=by obtain⟨g,f,rfl,h1,h2,h3⟩:=Gk d h6 e;rw[Qu];exact aeI (YD a b h1 h2 h3)
def J9(g:Bt c D)(d:rC c D w)(i:0<=at_)(h1:at_<w.cq.length){e:O aP}(hs:qy c w at_=Z (w',e)) :
  rC c D w'∧(∃l,w'.cq=w.cq++l)∧(e=Y->w'.cq=w.cq):=by
 let ⟨t1,t2,t3⟩:=d.task _ (bV 0 (show at_.toNat<w.cq.length by omega))
 have f:=d.ob t1 t2;change 0<=bA w at_ at t1;change bA w at_<_ at t2;change(eu w (bA w at_)).Form=6 at t3;change jF c D _ (eu w (bA w at_))at f;unfold qy at hs;simp only at hs;split at hs
 .cases hs
 .have a:=Yd (at_:=at_) g d f t3 (by omega);split at hs
  .cases hs
  .rename_i b;rw[b]at a;cases hs;exact⟨d.set t1 t2 (.dead a) ⟨λ_=>t3,λ_=>rfl⟩,⟨[],by simp[gJ]⟩,λ_=>rfl⟩
  .rename_i b;rw[b]at a;cases hs;exact⟨d.set t1 t2 (.done a) ⟨λ_=>t3,λ_=>rfl⟩,⟨[],by simp[gJ]⟩,λ_=>rfl⟩
  .rename_i b;rw[b]at a;cases hs;have h:=a.ln;have e0:(((bA w at_).toNat:Nat):Int)=bA w at_:=by omega
   refine⟨a.ok.set t1 (by omega) a.ob ⟨λ_=>?_,λ_=>rfl⟩,a.tk,a.tn⟩;have:=a.fm (bA w at_).toNat (by omega)
   simp_all
end
end
section
abbrev SB:=U×Int×L ai×Int×L ax×L ax×Bool×Int×Int×Int×O aP×U
abbrev MB:=(L bx×L Int×L ei×L Int×Int×L bN×L aB×L Int×Int×L cw×L av×U)×U
abbrev MP:=L (Int×Bool)
abbrev tb(a:Int)(bl:L ai)(p:Int)(env st:L ax)(rs:Bool)(op A B:Int)(e:O aP):SB:=((),a,bl,p,env,st,rs,op,A,B,e,())
abbrev mb(c:aA)(dd:L av)(w:ak):MB:=((w.aS,w.cq,w.nV,w.dL,w.Used,c.dL,c.eC,c.cX,c.Main,c.Cons,dd,()),())
abbrev fl(s:Int):Any:=Any.a0 ⟨J,s⟩
abbrev wt:Any:=Any.a0 ⟨W,0⟩
section
variable {n:Nat}{a p op A B form:Int}{bl fr:List ai}{env st l:List ax}{rs:Bool}{e:Option aP}{T:SB}{R:MB}{M:MP}{c:aA}{dd:List av}{w:ak}{u v:ax}{o:bx}
theorem VS:F46 n ()=Z ((dU,()),()):=rfl
theorem Vd(k:Int):F252 n (k,())=Z ((g7 k,()),()):=rfl
def Yu(b:Bool):F253 n (b,())=Z ((iD b,()),()):=by cases b<;>rfl
def adH(k:Int):F253 n (aa k 1,())=Z ((iD (k==1),()),()):=Yu _
def jM(b:Bool)(s:Int):F259 n (b,s,())=bif b then Z (.ok ((),()))else Z (.iJ (fl s,())):=by cases b<;>rfl
def Iu(b:Bool):F268 n (b,())=bif b then Z (.ok ((),()))else Z (.iJ (wt,())):=by cases b<;>rfl
def Ce:F301 n (v,())=Z ((kA v,()),()):=by
 unfold F301 kA;by_cases h:v.Kind=4
 .simp[h,aT];rfl
 .by_cases a:v.Kind=5
  .simp[a,aT];rfl
  simp_all[aT]
theorem ake(l:L bx):F172 n (l,())=Z ((l,()),()):=rfl
theorem acg(l:L ai):F238 n (l,())=Z ((l,()),()):=rfl
theorem acf(l:L ax):F239 n (l,())=Z ((l,()),()):=rfl
theorem e47(l:L Int):F47 n (l,())=Z ((l,()),()):=rfl
theorem aqL(l:L ei):F156 n (l,())=Z ((l,()),()):=rfl
def p8{α:Type}(a:α)(l:L α)(k:Int)(b:k=((l.length+1:Nat):Int)):cG (a::l) 1 k=l:=by subst b;simp[cG]
variable {k:Int}{g:ai}
def jJ{α:Type}(l m:L α)(a:k=(l.length:Int)):cG (l++m) 0 k=l:=by subst a;simp[cG]
def hU{α:Type}(l:L α)(a d:α)(m:L α){k:Nat}(b:k=l.length):(l++a::m).getD k d=a:=by simp_all
def H9{k:Nat}(h:k<=100000):bf .i64 ((k+(0+1):Nat):Int) 1=(k:Int):=by rw[dh]<;>omega
def nN(h:st.length<=1000)(b:l.length<=1000):F251 n (tb a bl p env st rs op A B e,R,M,l,())=Z ((),tb a bl p env (st++l) rs op A B e,R,M,()):=by unfold F251 zP;simp(disch:=omega) [aT]
def nq(h:st.length<=1000):F260 n (tb a bl p env (st++[v]) rs op A B e,R,M,())=Z ((v,()),tb a bl p env st rs op A B e,R,M,()):=by unfold F260 HB;simp(disch:=first|omega|simp only[hJ];omega)only[aT,H9,hU,jJ]
def tM(h:st.length<=900):F255 n (tb a bl p env (st++[u,v]) rs op A B e,R,M,())=Z ((u,v,()),tb a bl p env st rs op A B e,R,M,()):=by unfold F255;rw[show st++[u,v]=(st++[u])++[v]by simp,nq (by simp;omega)];simp[aT];rw[nq (by omega)];rfl
def jo:O bx->bx×Bool×U
 |some o=>(o,W,())|none=>(bL,J,())
def Yt(a:v.Kind=5->0<=v.N∧v.N<w.aS.length):F300 n (T,mb c dd w,M,v,form,())=Z (jo (gQ w v form),T,mb c dd w,M,()):=by
 unfold F300 gQ eu;by_cases h:v.Kind=5
 .let ⟨h1,h2⟩:=a h
  by_cases b:(w.aS.getD v.N.toNat bL).Form=form
  .simp_all[aT,jo]
  simp_all[aT,jo]
 simp_all[aT,jo]
def zx(a:v.Kind=5->0<=v.N∧v.N<w.aS.length):F265 n (T,mb c dd w,M,v,form,())=match gQ w v form with
  |some o=>Z (.ok ((o,()),T,mb c dd w,M,()))|none=>Z (.iJ (fl 2,T,mb c dd w,M,())):=by
 unfold F265;rw[Yt a];cases gQ w v form<;>simp only[aT,jM,jo]
theorem Cf(h1:w.aS.length<=1000):F254 n (T,mb c dd w,M,o,())=
  if 120<=w.aS.length then Z (.iJ (fl 4,T,mb c dd w,M,()))else Z (.ok ((vJ w.aS.length,()),T,mb c dd (hY w o),M,())):=by
 unfold F254;split
 .simp (disch:=omega) [aT,jM]
 .simp (disch:=first|omega|simp only[hJ];omega)only[aT,jM,hY,iV]
  grind[dh,vJ]
def afY(b:0<=k)(a:k<w.aS.length):F266 n (T,mb c dd w,M,k,o,())=Z ((),T,mb c dd (gJ w k o),M,()):=by
 simp_all[F266,aT,ake,gJ]
def af1(d:0<=k)(a:k<w.cq.length)(e:0<=bA w k)(b:bA w k<w.aS.length):F121 n (mb c dd w,M,k,o,())=Z ((),mb c dd (gJ w (bA w k) o),M,()):=by
 simp_all[bA,F121,aT,ake,gJ]
def akd(h1:bl.length<=1000)(h2:fr.length<=1000):F257 n (tb a bl p env st rs op A B e,R,M,fr++[g],())=
  if 40<bl.length+1+(fr.length+1)then Z (.iJ (fl 4,tb a bl p env st rs op A B e,R,M,()))
  else Z (.ok ((),tb a (bl++[⟨p,env,st,rs⟩]++fr) g.At g.Env g.Stack g.dI op A B e,R,M,())):=by
 unfold F257 zO LC HC;split
 .simp (disch:=omega) [aT,jM,ct]
 .simp (disch:=first|omega|simp only[hJ];omega)only[aT,jM,ct,H9,hU,jJ,zO]
def DT(hf:u.Kind=4->0<=u.N∧u.N<c.cX.length)(a:u.Kind=5->0<=u.N∧u.N<w.aS.length)(hn:∀o,gQ w u 2=Z o->o.gu.length<=1000) :
  F256 n (T,mb c dd w,M,u,v,())=match jE c w u v with
   |none=>Z ((bz,J,()),T,mb c dd w,M,())|some b=>Z ((b,W,()),T,mb c dd w,M,()):=by
 unfold F256 jE;by_cases h:u.Kind=4
 .simp_all[aT]
 .simp (disch:=omega) [aT,h,jS];rw[Yt a];cases d:gQ w u 2 with|none=>rfl|some o=>have:=hn o d;simp(disch:=first|omega|simp[hJ];omega) [aT,jo]
def Ff{l:L ai}:∀{m:L ai},m=l++[g]->kN m v=l++[lR g v]:=by
 intro m b;subst b
 induction l with
 |nil=>rfl|cons a l c=>
  simp_all[kN]
def N4(b:v.Kind=5->0<=v.N∧v.N<w.aS.length)(hn:∀o,gQ w v 5=Z o->o.Frames≠[]∧o.Frames.length<=1000∧∀g∈o.Frames,g.Stack.length<=1000) :
  F258 n (T,mb c dd w,M,v,u,())=match gQ w v 5 with
   |none=>Z (.iJ (fl 2,T,mb c dd w,M,()))|some o=>Z (.ok ((kN o.Frames u,()),T,mb c dd w,M,())):=by
 unfold F258;rw[zx b];cases d:gQ w v 5 with
 |none=>rfl|some o=>
  let ⟨h1,h2,h3⟩:=hn o d
  obtain⟨l,g,a⟩:∃l g,o.Frames=l++[g]:=⟨_,_,(List.dropLast_concat_getLast h1).symm⟩;have f:=h3 g (by rw[a];simp);rw[a]at h2;simp only[lD,pF]at h2;have e:∀x:ai,(l++[g]).set l.length x=l++[x]:=λx=>by simp_all
  simp only;rw[Ff a];simp(disch:=first|omega|simp only[hJ];omega)only[aT,acg,a,oS,H9,hU,e,lR]
end
end
section
abbrev Out:=Rx (U×SB×MB×MP×U) (Any×SB×MB×MP×U)
def Hs(c:aA)(dd:L av)(M:MP)(w:ak)(a op A B:Int)(r:ue)(y:Out):Prop:=match r with
 |.fail s=>∃T w1,y=.iJ (fl s,T,mb c dd w1,M,())|.waits=>∃T w1,y=.iJ (wt,T,mb c dd w1,M,())|.done v=>∃(bl:L ai)(g:ai),y=.ok ((),tb a bl g.At g.Env g.Stack g.dI op A B (Z ⟨a,0,1,kA v⟩),mb c dd (gJ w (bA w a) ⟨6,1,[v],[]⟩),M,())|.go w' fr e=>∃(bl:L ai)(g:ai),fr=bl++[g]∧bl.length<=1000∧y=.ok ((),tb a bl g.At g.Env g.Stack g.dI op A B e,mb c dd w',M,())
def dY(c:aA)(dd:L av)(M:MP)(w:ak)(a op A B:Int)(r:ue)(f:Nat->O Out):Prop:=∃y,Ev f y∧Hs c dd M w a op A B r y
def dY.of_eq{c:aA}{dd:L av}{M:MP}{w:ak}{a op A B:Int}{r:ue}{f:Nat->O Out}{y:Out}(h:∀n,f n=Z y)(b:Hs c dd M w a op A B r y):dY c dd M w a op A B r f:=⟨y,bG h,b⟩
def DM(x:O (U×SB×MB×MP×U)):O Out:=ah x λr=>Z (.ok r)
section
variable {c:aA}{dd:List av}{M:MP}{w:ak}{left:List ai}{i:bN}{f:ai}{l:List ax}{m a:Int}
abbrev s4(a:Int)(left:L ai)(f:ai)(l:L ax)(i:bN):SB:=tb a left f.At f.Env (f.Stack++l) f.dI i.Op i.A i.B Y
structure Sx(c:aA)(dd:List av)(w:ak)(left:List ai)(i:bN)(f:ai)(l:List ax)(m a:Int):Prop where
 cx:Cx c dd w left i f l m
 a0:0<=a
 a1:a<w.cq.length
def Sx.st(x:Sx c dd w left i f l m a):f.Stack.length<=60∧f.Env.length<=30:=by have:=x.cx.sl;have:=x.cx.el;have:=(x.cx.hp.dep.ok m x.cx.n0 x.cx.n1 x.cx.re);omega
variable {q:Int}{e:Option aP}
def Sx.one(x:Sx c dd w left i f l m a)(h:i.Op=q)(b:q≠18)(d:nF.getD q.toNat 0=1):∃v,l=[v]∧cT c w.aS.length v:=by
 have:=x.cx.tl h b;rw[d]at this
 match l,this,x.cx.vals with
 |[v],_,e=>simp_all
theorem Sx.two(x:Sx c dd w left i f l m a){q:Int}(h:i.Op=q)(b:q≠18)(d:nF.getD q.toNat 0=2):∃u v,l=[u,v]∧cT c w.aS.length u∧cT c w.aS.length v:=by
 have:=x.cx.tl h b;rw[d]at this
 match l,this,x.cx.vals with
 |[u,v],_,e=>grind
def Sx.nil(x:Sx c dd w left i f l m a)(h:i.Op=q)(b:q≠18)(d:nF.getD q.toNat 0=0):l=[]:=by
 have:=x.cx.tl h b
 simp_all
def xG(x:Sx c dd w left i f l m a):w.aS.length<=120:=x.cx.hw.len
theorem l8(x:Sx c dd w left i f l m a){u:ax}(b:cT c w.aS.length u):∀o,gQ w u 2=Z o->o.gu.length<=1000:=by
 intro o d
 let ⟨h1,h2,_⟩:=eE x.cx.hw b d
 cases h2 with
 |func p q r=>
  let ⟨h3,h4,h5,_⟩:=GO x.cx.hp p
  have:=x.cx.hp.dep.ok _ h3 h4 h5
  grind
 |_=>cases h1
def SS(x:Sx c dd w left i f l m a){b:Int}{g:ai}(hl:0<=b)(h:dW c dd w.aS.length b g):g.Stack.length<=60∧g.Env.length<=30:=by have:=x.cx.hp.dep.ok _ h.lo h.hi h.re;have:=h.sl;have:=h.el;omega
theorem pO(x:Sx c dd w left i f l m a){u:ax}(b:cT c w.aS.length u):∀o,gQ w u 5=Z o->o.Frames≠[]∧o.Frames.length<=1000∧∀g∈o.Frames,g.Stack.length<=1000:=by
 intro o d
 let ⟨h1,h2,_⟩:=eE x.cx.hw b d
 cases h2 with|Il p q r=>exact⟨by simp,by grind,λg e=>by have:=(SS x (by omega) (q g e)).1;omega⟩|_=>cases h1
def jB{w':ak}{v:ax}{y:Out}(hl:left.length<=1000)(h:y=.ok ((),tb a left f.At f.Env (f.Stack++[v]) f.dI i.Op i.A i.B e,mb c dd w',M,())):Hs c dd M w a i.Op i.A i.B (fG w' left f v e) y:=
 ⟨left,lR f v,rfl,hl,h⟩
def aa7(x:Sx c dd w left i f l m a)(b:i.Op=1∨i.Op=2∨i.Op=3∨i.Op=5):dY c dd M w a i.Op i.A i.B (eX c w a left i f l) (λn=>DM (F173 n (s4 a left f l i,mb c dd w,M,()))):=by
 have g:=x.st;have d:l=[]:=by obtain h|h|h|h:=b<;>exact x.nil h (by decide) rfl
 have e:=x.cx.fl;subst d;unfold eX;obtain h|h|h|h:=b<;>simp only[show i.Op.toNat=_ from cU Int.toNat h,Int.reduceToNat]<;>refine .of_eq (λn=>?_) (jB (by omega) rfl)<;>unfold F173 LF DM
 .simp (disch:=first|omega|simp only[hJ];omega)only[aT,kj,Vd,nN]<;>rfl
 .simp (disch:=first|omega|simp only[hJ];omega)only[aT,kj,adH,nN]<;>rfl
 .simp (disch:=first|omega|simp only[hJ];omega)only[aT,kj,VS,nN]<;>rfl
 .simp (disch:=first|omega|simp only[hJ];omega)only[aT,kj,nN]<;>rfl
def ank(x:Sx c dd w left i f l m a)(h:i.Op=4):dY c dd M w a i.Op i.A i.B (eX c w a left i f l) (λn=>DM (F174 n (s4 a left f l i,mb c dd w,M,()))):=by have e:=x.st;have b:=x.nil h (by decide) rfl;have d:=x.cx.fl;have h1:=x.cx.nd.2.1 h;have h2:=x.cx.io.place h;have h3:=x.cx.el;subst b;unfold eX;simp[show i.Op.toNat=4 from cU Int.toNat h];exact .of_eq (λn=>by unfold F174 DM;simp(disch:=first|omega|simp only[hJ];omega)only[aT,kj,nN]<;>rfl) (jB (by omega) rfl)
def aa6{o:bx}{k:Nat->O (Rx ((ax×U)×SB×MB×MP×U) (Any×SB×MB×MP×U))}{T:SB}(g:Nat->(ax×U)×SB×MB×MP×U->O Out)(hl:left.length<=1000)
  (h:∀n,k n=if 120<=w.aS.length then Z (.iJ (fl 4,T,mb c dd w,M,()))else Z (.ok ((vJ w.aS.length,()),T,mb c dd (hY w o),M,())))
  (b:∀n,g n ((vJ w.aS.length,()),T,mb c dd (hY w o),M,())=Z (.ok ((),tb a left f.At f.Env (f.Stack++[vJ w.aS.length]) f.dI i.Op i.A i.B e,mb c dd (hY w o),M,()))) :
  dY c dd M w a i.Op i.A i.B (oq w left f o e) (λn=>ah (k n) λy=>cz y (g n) λd=>Z (Rx.iJ d)):=by
 unfold oq;split
 .exact .of_eq (y:=.iJ (fl 4,T,mb c dd w,M,())) (λn=>by rw[h,bB (by assumption)];rfl) ⟨_,_,rfl⟩
 .exact .of_eq (λn=>by rw[h,bO (by assumption)];exact b n) (jB hl rfl)
def anj(x:Sx c dd w left i f l m a)(h:i.Op=6):dY c dd M w a i.Op i.A i.B (eX c w a left i f l) (λn=>F175 n (s4 a left f l i,mb c dd w,M,())):=by have g:=x.st;have b:=x.nil h (by decide) rfl;have e:=x.cx.fl;have j:=xG x;subst b;unfold eX;simp[show i.Op.toNat=6 from cU Int.toNat h];refine aa6 (k:=λn=>_) (λn d=>_) (by omega) (λn=>Cf (by omega)) λn=>?_;simp(disch:=first|omega|simp only[hJ];omega)only[aT,kj,nN]
end
end
section
section
variable {c:aA}{dd:List av}{M:MP}{w:ak}{left fr:List ai}{i:bN}{f g:ai}{l:List ax}{m a op A B:Int}{u v:ax}
theorem aN{X R B P α:Type}(x:X)(e:X->O α)(f:Nat->X->O α)(g:B->R->O α)(h:B->P->O α):ck (.next x) e f g h=e x:=rfl
theorem ae2{X R B P α:Type}(b:B)(q:P)(e:X->O α)(f:Nat->X->O α)(g:B->R->O α)(h:B->P->O α):ck (.iJ b q) e f g h=h b q:=rfl
theorem QV{b:ai}(h:jE c w u v=Z b):b=⟨b.At,b.Env,[],J⟩:=by
 grind[jE]
def KG(h1:left.length<=900)(h2:fr.length<=900):dY c dd M w a op A B (kH w (left++[f]) (fr++[g]))
  (λn=>ah (F257 n (tb a left f.At f.Env f.Stack f.dI op A B Y,mb c dd w,M,fr++[g],())) λy=>cz y (λx=>Z (G x)) λx=>Z (Rx.iJ x)):=by
 unfold kH;split
 .rename_i h;simp at h;exact .of_eq (λn=>by rw[akd (by omega) (by omega),bB (by omega)];rfl) ⟨_,_,rfl⟩
 .rename_i h;simp only[lD,pF]at h;exact .of_eq (y:=.ok ((),tb a (left++[f]++fr) g.At g.Env g.Stack g.dI op A B Y,mb c dd w,M,())) (λn=>by rw[akd (by omega) (by omega),bO (by omega)];rfl)
   ⟨left++[f]++fr,g,by simp,by simp;omega,rfl⟩
theorem FU(x:Sx c dd w left i f l m a)(d:cT c w.aS.length u){o:bx}(e:gQ w u 5=Z o):∃b g,kN o.Frames v=b++[g]∧b.length<=40:=by
 let ⟨h1,h2,h3⟩:=pO x d o e
 let ⟨h,j,_⟩:=eE x.cx.hw d e
 cases j with
 |Il p q r=>
  obtain⟨b,n,s,k⟩:=pg _ _ v;refine⟨b,_,k,?_⟩
  grind
 |_=>cases h
theorem ani(x:Sx c dd w left i f l m a)(h:i.Op=7):dY c dd M w a i.Op i.A i.B (eX c w a left i f l) (λn=>F176 n (s4 a left f l i,mb c dd w,M,())):=by
 obtain⟨u,v,rfl,d,t⟩:=x.two h (by decide) rfl;have z:=x.st;have k:=x.cx.fl;unfold eX F176;simp[show i.Op.toNat=7 from cU Int.toNat h];show dY _ _ _ _ _ _ _ _ (sN c w (left++[f]) u v J) _;unfold sN;cases e:jE c w u v with
 |some b=>
  have p:=QV e;simp only
  let ⟨y,h1,h2⟩:=KG (c:=c) (dd:=dd) (M:=M) (w:=w) (left:=left) (fr:=[]) (f:=f) (g:=b) (a:=a) (op:=i.Op) (A:=i.A) (B:=i.B) (by omega) (by simp)
  rw[MI]at h1 h2;refine⟨y,Ev.vQ (λn=>?_) h1,by grind⟩;simp(disch:=omega) [aT,tM,DT (λh=>d.code h) (λh=>d.ref h) (l8 x d),e]<;>rfl
 |none=>
  cases j:gQ w u 5 with
  |none=>exact .of_eq (λn=>by simp(disch:=omega)only[aT,tM,DT (λh=>d.code h) (λh=>d.ref h) (l8 x d),e,N4 (λh=>d.ref h) (pO x d),j]<;>rfl) ⟨_,_,rfl⟩
  |some o=>
   let ⟨q,r,s,C⟩:=FU (v:=v) x d j
   simp only
   let ⟨y,h1,h2⟩:=KG (c:=c) (dd:=dd) (M:=M) (w:=w) (left:=left) (fr:=q) (f:=f) (g:=r) (a:=a) (op:=i.Op) (A:=i.A) (B:=i.B) (by omega) (by omega)
   rw[<-s]at h1 h2;refine⟨y,Ev.vQ (λn=>?_) h1,h2⟩;simp(disch:=omega) [aT,tM,DT (λh=>d.code h) (λh=>d.ref h) (l8 x d),e,N4 (λh=>d.ref h) (pO x d),j]<;>rfl
def anh(x:Sx c dd w left i f l m a)(h:i.Op=8):dY c dd M w a i.Op i.A i.B (eX c w a left i f l) (λn=>F177 n (s4 a left f l i,mb c dd w,M,())):=by
 obtain⟨u,v,rfl,d,s⟩:=x.two h (by decide) rfl;have t:=x.st;have p:=x.cx.fl;unfold eX F177;simp[show i.Op.toNat=8 from cU Int.toNat h];show dY _ _ _ _ _ _ _ _ (sN c w left u v f.dI) _;unfold sN;cases e:jE c w u v with
 |some b=>simp only;unfold kH;rw[bO (by simp;omega)];exact .of_eq (λn=>by simp(disch:=omega) [aT,tM,DT (λh=>d.code h) (λh=>d.ref h) (l8 x d),e]<;>rfl) ⟨left,⟨b.At,b.Env,b.Stack,f.dI⟩,rfl,by omega,rfl⟩
 |none=>
  cases g:gQ w u 5 with
  |none=>exact .of_eq (λn=>by simp(disch:=omega)only[aT,tM,DT (λh=>d.code h) (λh=>d.ref h) (l8 x d),e,N4 (λh=>d.ref h) (pO x d),g]<;>rfl) ⟨_,_,rfl⟩
  |some o=>
   let ⟨q,r,j,y⟩:=FU (v:=v) x d g
   simp only;rw[j];unfold kH;split<;>rename_i k<;>simp only[lD,pF]at k
   .exact .of_eq (λn=>by simp(disch:=omega)only[aT,tM,DT (λh=>d.code h) (λh=>d.ref h) (l8 x d),e,N4 (λh=>d.ref h) (pO x d),g,j,jM,ct]<;>rfl) ⟨_,_,rfl⟩
   .exact .of_eq (λn=>by simp(disch:=first|omega|simp only[hJ];omega)only[aT,tM,DT (λh=>d.code h) (λh=>d.ref h) (l8 x d),e,N4 (λh=>d.ref h) (pO x d),g,j,jM,ct,HH,H9,hU,jJ]<;>rfl)
     ⟨left++q,r,by simp,by simp;omega,rfl⟩
variable {e:Option aP}{k:Int}
def BM{g:ai}{y:Out}(hl:left.length<=1000)(h:y=.ok ((),tb a left g.At g.Env g.Stack g.dI op A B e,mb c dd w,M,())):Hs c dd M w a op A B (.go w (left++[g]) e) y:=
 ⟨left,g,rfl,hl,h⟩
def ang(x:Sx c dd w left i f l m a)(h:i.Op=9):dY c dd M w a i.Op i.A i.B (eX c w a left i f l) (λn=>DM (F178 n (s4 a left f l i,mb c dd w,M,()))):=by obtain⟨v,rfl,d⟩:=x.one h (by decide) rfl;have e:=x.st;have b:=x.cx.fl;unfold eX F178 DM;simp[show i.Op.toNat=9 from cU Int.toNat h];exact .of_eq (λn=>by simp(disch:=first|omega|simp only[hJ];omega)only[aT,nq,zT]<;>rfl) (BM (by omega) rfl)
def anf(x:Sx c dd w left i f l m a)(h:i.Op=10):dY c dd M w a i.Op i.A i.B (eX c w a left i f l) (λn=>DM (F179 n (s4 a left f l i,mb c dd w,M,()))):=by have b:=x.nil h (by decide) rfl;have e:=x.st;have d:=x.cx.fl;have h1:=x.cx.io.drop h;have h2:=x.cx.nd.2.2.1 h;have h3:=x.cx.el;subst b;unfold eX F179 DM;simp only[show i.Op.toNat=10 from cU Int.toNat h];refine .of_eq (λn=>by simp(disch:=omega)only[aT,kj,dh]<;>rfl) (BM (by omega) ?_);rw[Ei,show((f.Env.length:Int)-i.A).toNat=f.Env.length-i.A.toNat by omega]
def ane(x:Sx c dd w left i f l m a)(h:i.Op=11):dY c dd M w a i.Op i.A i.B (eX c w a left i f l) (λn=>DM (F180 n (s4 a left f l i,mb c dd w,M,()))):=by have b:=x.nil h (by decide) rfl;have d:=x.cx.fl;subst b;unfold eX F180 DM;simp only[show i.Op.toNat=11 from cU Int.toNat h];exact .of_eq (λn=>by simp[aT,kj]<;>rfl) (BM (by omega) rfl)
def anc(x:Sx c dd w left i f l m a)(h:i.Op=12):dY c dd M w a i.Op i.A i.B (eX c w a left i f l) (λn=>F181 n (s4 a left f l i,mb c dd w,M,())):=by
 obtain⟨v,rfl,g⟩:=x.one h (by decide) rfl;have j:=x.st;have d:=x.cx.fl;unfold eX F181;simp only[show i.Op.toNat=12 from cU Int.toNat h];show dY _ _ _ _ _ _ _ _ (if v.Kind≠2 then _ else .go w (left++[⟨if v.N=0 then _ else _,_,_,_⟩]) Y) _;by_cases e:v.Kind=2
 .rw[bO (by omega)];by_cases b:v.N=0
  .exact .of_eq (λn=>by simp(disch:=omega)only[aT,nq,jM]<;>rfl) (BM (by omega) (by rw[bB b]))
  .exact .of_eq (λn=>by simp(disch:=omega)only[aT,nq,jM]<;>rfl) (BM (by omega) (by rw[bO b]))
 .rw[bB e];exact .of_eq (λn=>by simp(disch:=omega)only[aT,nq,jM]<;>rfl) ⟨_,_,rfl⟩
def ace{n:Nat}{p:Int}{bl:L ai}{env st:L ax}{b:Bool}{R:MB}(h:st.length<=900):F262 n (tb a bl p env (st++[u,v]) b op A B e,R,M,())=
  if u.Kind=1∧v.Kind=1 then Z (.ok ((u.N,v.N,()),tb a bl p env st b op A B e,R,M,()))else Z (.iJ (fl 2,tb a bl p env st b op A B e,R,M,())):=by
 unfold F262 Rn;by_cases h1:u.Kind=1
 .by_cases h2:v.Kind=1
  .simp_all[aT,tM,jM]
  simp_all[aT,tM,jM]
 simp_all[aT,tM,jM]
def ahU{F:Nat->O Out}(hl:left.length<=1000)(h:∀n,F n=if jD k=W then Z (.ok ((),tb a left f.At f.Env (f.Stack++[g7 k]) f.dI i.Op i.A i.B Y,mb c dd w,M,()))else Z (.iJ (fl 4,tb a left f.At f.Env f.Stack f.dI i.Op i.A i.B Y,mb c dd w,M,()))) :
  dY c dd M w a i.Op i.A i.B (if jD k=W then fG w left f (g7 k)else .fail 4) F:=by
 split
 .exact .of_eq (λn=>by rw[h,bB (by assumption)]) (jB hl rfl)
 .exact .of_eq (λn=>by rw[h,bO (by assumption)]) ⟨_,_,rfl⟩
def xL(h:-1000000000<=k):jD k=decide (k<=1000000000):=by simp[jD,h]
def KO(h:k< -1000000000):jD k=J:=by simp[jD];omega
def Xj{x y:Int}(h1:jD x=W)(h2:jD y=W):-1000000000000000000<=x*y∧x*y<=1000000000000000000:=by
 simp[jD,fF,qE]at h1 h2;have h3:(x*y).natAbs<=1000000000*1000000000:=by rw[Int.natAbs_mul];exact MS (by omega) (by omega)
 omega
def aeM(x:Sx c dd w left i f l m a)(e:i.Op=13∨i.Op=14∨i.Op=15):dY c dd M w a i.Op i.A i.B (eX c w a left i f l) (λn=>F182 n (s4 a left f l i,mb c dd w,M,())):=by
 obtain⟨u,v,rfl,o,p⟩:∃u v,l=[u,v]∧cT c w.aS.length u∧cT c w.aS.length v:=by obtain h|h|h:=e<;>exact x.two h (by decide) rfl
 have s:=x.st;have q:=x.cx.fl;have r:eX c w a left i f [u,v]=sJ w left f i.Op u v:=by unfold eX;obtain h|h|h:=e<;>simp only[show i.Op.toNat=_ from cU Int.toNat h,Int.reduceToNat]<;>rfl
 rw[r];unfold sJ F182;rw[bO (by omega)];by_cases g:u.Kind=1∧v.Kind=1
 .rw[bO (by omega),bO (by omega)];have j:=o.int g.1;have k:=p.int g.2;have t:=Xj j k;simp[jD,fF,qE]at j k;simp only;refine ahU (by omega) λn=>?_;obtain h|h|h:=e
  all_goals
   simp only[h,ki,Int.reduceEq,jS];rw[ace (by omega),bB g]
  .by_cases b:-1000000000<=u.N+v.N
   .by_cases d:u.N+v.N<=1000000000
    .simp (disch:=first|omega|simp only[hJ];omega)only[aT,h,ct,aN,rG,jM,Vd,nN,xL b,kO d,ki]
    .simp (disch:=omega) [aT,h,ct,aN,rG,jM,xL b,jl d,MJ,jS]
   .simp (disch:=omega) [aT,h,ct,aN,rG,jM,KO (Int.not_le.1 b),MJ,jS]
  .by_cases b:-1000000000<=u.N-v.N
   .by_cases d:u.N-v.N<=1000000000
    .simp (disch:=first|omega|simp only[hJ];omega)only[aT,h,dh,aN,rG,jM,Vd,nN,xL b,kO d,ki]
    .simp (disch:=omega) [aT,h,dh,aN,rG,jM,xL b,jl d,MJ,jS]
   .simp (disch:=omega) [aT,h,dh,aN,rG,jM,KO (Int.not_le.1 b),MJ,jS]
  .by_cases b:-1000000000<=u.N*v.N
   .by_cases d:u.N*v.N<=1000000000
    .simp (disch:=first|omega|simp only[hJ];omega)only[aT,h,KB,aN,rG,jM,Vd,nN,xL b,kO d,ki]
    .simp (disch:=omega) [aT,h,KB,aN,rG,jM,xL b,jl d,MJ,jS]
   .simp (disch:=omega) [aT,h,KB,aN,rG,jM,KO (Int.not_le.1 b),MJ,jS]
 .rw[bB (by omega)];exact .of_eq (λn=>by rw[ace (by omega),bO g];rfl) ⟨_,_,rfl⟩
def anb(x:Sx c dd w left i f l m a)(h:i.Op=16):dY c dd M w a i.Op i.A i.B (eX c w a left i f l) (λn=>F183 n (s4 a left f l i,mb c dd w,M,())):=by
 obtain⟨u,v,rfl,e,g⟩:=x.two h (by decide) rfl;have j:=x.st;have d:=x.cx.fl;unfold eX F183;simp[show i.Op.toNat=16 from cU Int.toNat h];show dY _ _ _ _ _ _ _ _ (sJ w left f i.Op u v) _;unfold sJ;rw[bO (by omega)];by_cases b:u.Kind=1∧v.Kind=1
 .rw[bO (by omega),bB h];exact .of_eq (λn=>by rw[ace (by omega),bB b];simp(disch:=first|omega|simp only[hJ];omega)only[aT,Yu,nN]<;>rfl) (jB (by omega) rfl)
 .rw[bB (by omega)];exact .of_eq (λn=>by rw[ace (by omega),bO b];rfl) ⟨_,_,rfl⟩
def ana(x:Sx c dd w left i f l m a)(h:i.Op=17):dY c dd M w a i.Op i.A i.B (eX c w a left i f l) (λn=>F184 n (s4 a left f l i,mb c dd w,M,())):=by
 obtain⟨u,v,rfl,b,g⟩:=x.two h (by decide) rfl;have j:=x.st;have d:=x.cx.fl;have e:1<=u.Kind:=by obtain h|h|h|h|h:=b<;>(have:=h.1;omega)
 unfold eX F184 HG;simp[show i.Op.toNat=17 from cU Int.toNat h];show dY _ _ _ _ _ _ _ _ (sJ w left f i.Op u v) _;unfold sJ;rw[bB h];have k:iD (aa u.N v.N)=iD (u.N==v.N):=rfl;by_cases o:u.Kind=v.Kind
 .by_cases h3:3<u.Kind
  .rw[bB (by omega)];exact .of_eq (λn=>by simp(disch:=omega)only[aT,tM,jM]<;>rfl) ⟨_,_,rfl⟩
  .rw[bO (by omega)];refine .of_eq (λn=>?_) (jB (by omega) rfl);by_cases p:u.Kind=1
   .simp (disch:=first|omega|simp only[hJ];omega)only[aT,tM,jM,Yu,nN]<;>rfl
   .by_cases q:u.Kind=2
    .simp (disch:=first|omega|simp only[hJ];omega)only[aT,tM,jM,Yu,nN]<;>rfl
    .simp (disch:=first|omega|simp only[hJ];omega)only[aT,tM,jM,Yu,nN]<;>rfl
 .rw[bB (by omega)];exact .of_eq (λn=>by simp(disch:=omega)only[aT,tM,jM]<;>rfl) ⟨_,_,rfl⟩
def am7(x:Sx c dd w left i f l m a)(h:i.Op=20):dY c dd M w a i.Op i.A i.B (eX c w a left i f l) (λn=>F187 n (s4 a left f l i,mb c dd w,M,())):=by unfold eX F187;simp[show i.Op.toNat=20 from cU Int.toNat h];exact .of_eq (λn=>by simp only[aT,jM]<;>rfl) ⟨_,_,rfl⟩
def amW(x:Sx c dd w left i f l m a)(h:i.Op=31):dY c dd M w a i.Op i.A i.B (eX c w a left i f l) (λn=>F198 n (s4 a left f l i,mb c dd w,M,())):=by
 have b:=x.nil h (by decide) rfl;have d:=x.cx.fl;subst b;unfold eX F198;simp[show i.Op.toNat=31 from cU Int.toNat h]
 let ⟨y,h1,h2⟩:=KG (c:=c) (dd:=dd) (M:=M) (w:=w) (left:=left) (fr:=[]) (f:=f) (g:=⟨i.A,f.Env,[],W⟩) (a:=a) (op:=i.Op) (A:=i.A) (B:=i.B) (by omega) (by simp)
 refine⟨y,Ev.vQ (λn=>?_) h1,h2⟩;simp only[s4,tb,kj]<;>rfl
def amU(x:Sx c dd w left i f l m a)(h:i.Op=33):dY c dd M w a i.Op i.A i.B (eX c w a left i f l) (λn=>DM (F200 n (s4 a left f l i,mb c dd w,M,()))):=by have b:=x.nil h (by decide) rfl;have e:=x.st;have d:=x.cx.fl;subst b;unfold eX F200 DM;simp[show i.Op.toNat=33 from cU Int.toNat h];exact .of_eq (λn=>by simp(disch:=first|omega|simp only[hJ];omega)only[aT,kj,VS,nN,Ce]<;>rfl) (jB (by omega) rfl)
end
end
section
section
variable {c:aA}{dd:List av}{M:MP}{w:ak}{left fr:List ai}{i:bN}{f g:ai}{l:List ax}{m a op A B:Int}{u v:ax}
theorem am9(x:Sx c dd w left i f l m a)(h:i.Op=18):dY c dd M w a i.Op i.A i.B (eX c w a left i f l) (λn=>F185 n (s4 a left f l i,mb c dd w,M,())):=by
 have e:=x.st;have d:=x.cx.fl;have g:=xG x
 let ⟨h1,h2⟩:=x.cx.io.con h
 have b:=x.cx.ll;unfold cr lY at b;rw[bB h]at b;have j:=x.cx.hp.cons _ (bV aY (show i.A.toNat<c.Cons.length by omega));have h3:bf .i64 ((f.Stack.length+l.length:Nat):Int) (c.Cons.getD i.A.toNat aY).lg=f.Stack.length:=by rw[dh]<;>omega
 have h4:cG (f.Stack++l) (f.Stack.length:Int) ((f.Stack.length+l.length:Nat):Int)=l:=by unfold cG;rw[show(((f.Stack.length+l.length:Nat):Int).toNat)=(f.Stack++l).length by grind,MY];simp
 unfold eX;simp[show i.Op.toNat=18 from cU Int.toNat h];unfold oq F185 HF Cy;split
 .exact .of_eq (λn=>by simp(disch:=omega)only[aT,h3,acf,Cf,bB (show 120<=w.aS.length by assumption)]<;>rfl) ⟨_,_,rfl⟩
 .exact .of_eq (λn=>by simp(disch:=first|omega|simp only[hJ];omega)only[aT,h3,h4,acf,Cf,bO (show ¬120<=w.aS.length by assumption),jJ,nN]<;>rfl) (jB (by omega) rfl)
def am6(x:Sx c dd w left i f l m a)(h:i.Op=21):dY c dd M w a i.Op i.A i.B (eX c w a left i f l) (λn=>F188 n (s4 a left f l i,mb c dd w,M,())):=by
 obtain⟨v,rfl,d⟩:=x.one h (by decide) rfl;have e:=x.st;have b:=x.cx.fl;have g:=xG x;unfold eX;simp[show i.Op.toNat=21 from cU Int.toNat h];unfold oq F188;split
 .exact .of_eq (λn=>by simp(disch:=omega)only[aT,nq,Cf,bB (show 120<=w.aS.length by assumption)]<;>rfl) ⟨_,_,rfl⟩
 .exact .of_eq (λn=>by simp(disch:=first|omega|simp only[hJ];omega)only[aT,nq,Cf,bO (show ¬120<=w.aS.length by assumption),nN,Ce]<;>rfl) (jB (by omega) rfl)
def am1(x:Sx c dd w left i f l m a)(h:i.Op=26):dY c dd M w a i.Op i.A i.B (eX c w a left i f l) (λn=>F193 n (s4 a left f l i,mb c dd w,M,())):=by
 have b:=x.nil h (by decide) rfl;have e:=x.st;have d:=x.cx.fl;have g:=xG x;subst b;unfold eX;simp[show i.Op.toNat=26 from cU Int.toNat h];unfold oq F193;split
 .exact .of_eq (λn=>by simp(disch:=omega)only[aT,Cf,bB (show 120<=w.aS.length by assumption)]<;>rfl) ⟨_,_,rfl⟩
 .exact .of_eq (λn=>by simp(disch:=first|omega|simp only[hJ];omega)only[aT,kj,Cf,bO (show ¬120<=w.aS.length by assumption),nN,VS,Ce]<;>rfl) (jB (by omega) rfl)
def am5(x:Sx c dd w left i f l m a)(h:i.Op=22):dY c dd M w a i.Op i.A i.B (eX c w a left i f l) (λn=>F189 n (s4 a left f l i,mb c dd w,M,())):=by
 obtain⟨v,rfl,b⟩:=x.one h (by decide) rfl;have g:=x.st;have e:=x.cx.fl;unfold eX;simp[show i.Op.toNat=22 from cU Int.toNat h];show dY _ _ _ _ _ _ _ _ (Gl w a left f v) _;unfold Gl F189;cases d:gQ w v 3 with
 |none=>exact .of_eq (λn=>by simp(disch:=omega)only[aT,nq,zx (λh=>b.ref h),d]<;>rfl) ⟨_,_,rfl⟩
 |some o=>
  let ⟨h3,h4,_⟩:=eE x.cx.hw b d
  have j:0<o.gu.length:=by cases h4<;>first|(cases h3;done)|simp
  exact .of_eq (λn=>by simp(disch:=first|omega|simp only[hJ];omega)only[aT,nq,zx (λh=>b.ref h),d,nN,Ce]<;>rfl) (jB (by omega) rfl)
def am4(x:Sx c dd w left i f l m a)(h:i.Op=23):dY c dd M w a i.Op i.A i.B (eX c w a left i f l) (λn=>F190 n (s4 a left f l i,mb c dd w,M,())):=by
 obtain⟨u,v,rfl,b,j⟩:=x.two h (by decide) rfl;have k:=x.st;have e:=x.cx.fl;unfold eX;simp[show i.Op.toNat=23 from cU Int.toNat h];show dY _ _ _ _ _ _ _ _ (jm w a left f u v) _;unfold jm F190;cases d:gQ w u 3 with
 |none=>exact .of_eq (λn=>by simp(disch:=omega)only[aT,tM,zx (λh=>b.ref h),d]<;>rfl) ⟨_,_,rfl⟩
 |some o=>
  let ⟨h3,h4,h5,h6,g,_⟩:=eE x.cx.hw b d
  exact .of_eq (λn=>by simp(disch:=first|omega|simp only[hJ];omega)only[aT,tM,zx (λh=>b.ref h),d,afY h6 g,VS,nN,Ce]<;>rfl) (jB (by omega) rfl)
def am0(x:Sx c dd w left i f l m a)(h:i.Op=27):dY c dd M w a i.Op i.A i.B (eX c w a left i f l) (λn=>F194 n (s4 a left f l i,mb c dd w,M,())):=by
 obtain⟨u,v,rfl,b,r⟩:=x.two h (by decide) rfl;have s:=x.st;have g:=x.cx.fl;unfold eX;simp[show i.Op.toNat=27 from cU Int.toNat h];show dY _ _ _ _ _ _ _ _ (IT w a left f u v) _;unfold IT F194;cases d:gQ w u 4 with
 |none=>exact .of_eq (λn=>by simp(disch:=omega)only[aT,tM,zx (λh=>b.ref h),d]<;>rfl) ⟨_,_,rfl⟩
 |some o=>
  let ⟨h3,h4,h5,h6,j,_⟩:=eE x.cx.hw b d
  obtain⟨e,t,y⟩:o=⟨4,0,o.gu,[]⟩∧o.gu.length<=4∧True:=by cases h4<;>first|(cases h3;done)|simp_all
  have k:o.Form=4:=h3;have p:o.N=0:=by rw[e]
  have q:o.Frames=[]:=by rw[e]
  simp only;split
  .exact .of_eq (λn=>by simp(disch:=omega)only[aT,tM,zx (λh=>b.ref h),d,Iu]<;>rfl) ⟨_,_,rfl⟩
  .exact .of_eq (λn=>by simp(disch:=first|omega|simp only[hJ];omega)only[aT,tM,zx (λh=>b.ref h),d,Iu,k,p,q,afY h6 j,VS,nN,Ce]<;>rfl) (jB (by omega) rfl)
def amZ(x:Sx c dd w left i f l m a)(h:i.Op=28):dY c dd M w a i.Op i.A i.B (eX c w a left i f l) (λn=>F195 n (s4 a left f l i,mb c dd w,M,())):=by
 obtain⟨u,rfl,d⟩:=x.one h (by decide) rfl;have z:=x.st;have q:=x.cx.fl;unfold eX;simp[show i.Op.toNat=28 from cU Int.toNat h];show dY _ _ _ _ _ _ _ _ (IN w a left f u) _;unfold IN F195;cases e:gQ w u 4 with
 |none=>exact .of_eq (λn=>by simp(disch:=omega)only[aT,nq,zx (λh=>d.ref h),e]<;>rfl) ⟨_,_,rfl⟩
 |some o=>
  let ⟨h3,h4,h5,h6,r,_⟩:=eE x.cx.hw d e
  obtain⟨j,k,A⟩:o=⟨4,0,o.gu,[]⟩∧o.gu.length<=4∧True:=by cases h4<;>first|(cases h3;done)|simp_all
  have s:o.Form=4:=h3;have t:o.N=0:=by rw[j]
  have y:o.Frames=[]:=by rw[j]
  simp only;cases b:o.gu with|nil=>exact .of_eq (λn=>by simp(disch:=omega)only[aT,nq,zx (λh=>d.ref h),e,Iu,b]<;>rfl) ⟨_,_,rfl⟩|cons v g=>rw[b]at k;simp only[lQ]at k;have p:cG (v::g) 1 (((v::g).length:Nat):Int)=g:=p8 v g _ rfl;simp only[lQ]at p;refine .of_eq (λn=>?_) (jB (by omega) rfl);simp(disch:=first|omega|simp only[hJ];omega)only[aT,nq,zx (λh=>d.ref h),e,Iu,b,s,t,y,afY h6 r,nN,Ce,kP];rw[p]
theorem am2(x:Sx c dd w left i f l m a)(h:i.Op=25):dY c dd M w a i.Op i.A i.B (eX c w a left i f l) (λn=>F192 n (s4 a left f l i,mb c dd w,M,())):=by
 obtain⟨u,rfl,b⟩:=x.one h (by decide) rfl;have j:=x.st;have g:=x.cx.fl;unfold eX;simp[show i.Op.toNat=25 from cU Int.toNat h];show dY _ _ _ _ _ _ _ _ (Jl w a left f u) _;unfold Jl F192;cases d:gQ w u 6 with
 |none=>exact .of_eq (λn=>by simp(disch:=omega)only[aT,nq,zx (λh=>b.ref h),d]<;>rfl) ⟨_,_,rfl⟩
 |some o=>
  let ⟨h3,h4,_⟩:=eE x.cx.hw b d
  simp only;by_cases e:o.N=0
  .rw[bB e];exact .of_eq (λn=>by simp(disch:=omega)only[aT,nq,zx (λh=>b.ref h),d,Iu]<;>rfl) ⟨_,_,rfl⟩
  .rw[bO e];by_cases h1:o.N=1
   .rw[bO (by omega)];have k:0<o.gu.length:=by cases h4 with|done=>grind|dead p=>simp_all|wF=>grind|_=>cases h3
    exact .of_eq (λn=>by simp(disch:=first|omega|simp only[hJ];omega)only[aT,nq,zx (λh=>b.ref h),d,Iu,jM,nN,Ce]<;>rfl) (jB (by omega) rfl)
   .rw[bB h1];exact .of_eq (λn=>by simp(disch:=omega) [aT,nq,zx (λh=>b.ref h),d,Iu,jM]<;>rfl) ⟨_,_,rfl⟩
def amY(x:Sx c dd w left i f l m a)(h:i.Op=29):dY c dd M w a i.Op i.A i.B (eX c w a left i f l) (λn=>F196 n (s4 a left f l i,mb c dd w,M,())):=by
 obtain⟨v,rfl,e⟩:=x.one h (by decide) rfl;have g:=x.st;have b:=x.cx.fl;unfold eX;simp[show i.Op.toNat=29 from cU Int.toNat h];show dY _ _ _ _ _ _ _ _ (Uh w a left f i.A v) _;unfold Uh F196 xk;by_cases d:v.Kind=1
 .rw[bO (by omega)];split
  .exact .of_eq (λn=>by simp(disch:=omega)only[aT,nq,jM]<;>rfl) ⟨_,_,rfl⟩
  .exact .of_eq (λn=>by simp(disch:=first|omega|simp only[hJ];omega)only[aT,nq,jM,VS,nN,Ce]<;>rfl) (jB (by omega) rfl)
 .rw[bB d];exact .of_eq (λn=>by simp(disch:=omega)only[aT,nq,jM]<;>rfl) ⟨_,_,rfl⟩
def amX(x:Sx c dd w left i f l m a)(h:i.Op=30):dY c dd M w a i.Op i.A i.B (eX c w a left i f l) (λn=>F197 n (s4 a left f l i,mb c dd w,M,())):=by
 have j:=x.nil h (by decide) rfl;have q:=x.st;have o:=x.cx.fl;have e:=x.cx.hw.ins;have r:=x.cx.hw.used;subst j;unfold eX;simp only[show i.Op.toNat=30 from cU Int.toNat h];unfold inS F197 HE;cases b:w.dL with
 |nil=>exact .of_eq (y:=.iJ (wt,s4 a left f [] i,mb c dd w,M,())) (λn=>by simp(disch:=omega)only[aT,kj,b,Iu]<;>simp only[mb,b]<;>rfl) ⟨_,_,rfl⟩
 |cons k d=>
  rw[b]at e;simp only[lQ]at e;have g:cG (k::d) 1 (((k::d).length:Nat):Int)=d:=p8 k d _ rfl;simp only[lQ]at g;have p:kA (g7 k)=g7 k:=rfl;simp only;split
  .exact .of_eq (y:=.iJ (fl 4,s4 a left f [] i,mb c dd w,M,())) (λn=>by simp(disch:=omega)only[aT,kj,b,Iu,jM]<;>simp only[mb,b]<;>rfl) ⟨_,_,rfl⟩
  .refine .of_eq (λn=>?_) (jB (by omega) rfl);simp(disch:=first|omega|simp only[hJ];omega)only[aT,kj,b,Iu,jM,kP,Vd,ct];rw[g];simp(disch:=first|omega|simp only[hJ];omega)only[aT,nN,Ce,p]<;>simp only[kj]<;>rfl
end
end
section
abbrev arz:=(L ax×Bool×U)×SB×MB×MP×U
def H8(T:SB)(R:MB)(M:MP):O (L ax)->arz
 |some m=>((m,W,()),T,R,M,())|none=>(([],J,()),T,R,M,())
def agA(c:aA)(dd:L av)(M:MP)(w:ak)(T:SB)(q:aB):Prop:=∀(v:ax),cT c w.aS.length v->vR R263 (T,mb c dd w,M,q,v,()) (H8 T (mb c dd w) M (jA w q v))
section
variable {c:aA}{dd:List av}{M:MP}{w:ak}{left fr:List ai}{i:bN}{f g:ai}{l:List ax}{m a op A B:Int}{u v:ax}{T:SB}
def Lm(x:Bool):bZ x W=x:=by cases x<;>rfl
def aj9(q:aB):aB.mk q.Form q.N q.Text q.Bf=q:=by cases q;rfl
def qU{α:Type}(a:L α)(x:α)(b:L α)(d:α):(a++x::b).getD a.length d=x:=hU a x d b rfl
theorem qO:∀(q:aB)(v:ax)(m:L ax),jA w q v=Z m->m.length<=pw q
 |⟨c,n,text,parts⟩,v,m,h=>by
  unfold jA at h;unfold pw;by_cases h1:c=1
  .simp_all
  rw[bO h1]at h;by_cases h2:c=2
  .grind
  rw[bO h2]at h;by_cases h3:c=3
  .simp_all
  rw[bO h3]at h;by_cases h4:c=4
  .simp_all
  rw[bO h4]at h;by_cases h5:c=5
  .simp_all
  rw[bO h5]at h;split at h
  .cases h
  .split at h
   .cases h
   .have:=lens parts _ m h;omega
where
 lens:∀(d:L aB)(e:L ax)(m:L ax),fI w d e=Z m->m.length<=qc d
 |[],e,m,h=>by unfold fI at h;cases h;simp
 |q::d,[],m,h=>by unfold fI at h;cases h;simp
 |q::d,v::e,m,h=>by
  unfold fI at h;unfold qc;split at h
  .cases h
  .rename_i l f;split at h
   .cases h
   .rename_i g i;cases h;have a:=qO q v l f;have b:=lens d e g i
    grind
theorem Mo{P:Type}(d:Nat):∀(qs:L aB)(vs:L ax)(pre:L aB)(b:L ax)(l:L ax),qs.length=vs.length->pre.length=b.length->pre.length+qs.length<=1000->
  (∀q∈qs,agA c dd M w T q)->(∀v∈vs,cT c w.aS.length v)->l.length+qc qs<=1000->
  ∀(F:Nat->L ax×Int×SB×MB×MP×U->O (LO (L ax×Int×SB×MB×MP×U) (L ax×Bool×U) (SB×MB×MP×U) P)),
  (∀n e,F n e=aj (aE e.2.1 (aq (pre++qs))) (aO (aI e.2.1 (pre++qs)) (aO (aI e.2.1 (b++vs)) (ah (R263 n (n-d) (e.2.2.1,e.2.2.2.1,e.2.2.2.2.1,aB.mk (@bn aB (pre++qs) (az e.2.1) aK).1 (@bn aB (pre++qs) (az e.2.1) aK).2 (@bn aB (pre++qs) (az e.2.1) aK).3 (@bn aB (pre++qs) (az e.2.1) aK).4,@bn ax (b++vs) (az e.2.1) bq,())) λg=>aj (au g.1.2.1) (Z (X g.2 ([],J,())))
   (aO (de e.1 g.1.1) (Z (N (cZ e.1 g.1.1,aG .i64 e.2.1 1,g.2))))))) (Z (H 0 e)))->
  fY F (l,(pre.length:Int),T,mb c dd w,M,()) (match fI w qs vs with
   |some m=>.out 0 (l++m,((pre++qs).length:Int),T,mb c dd w,M,())|none=>.ret (T,mb c dd w,M,()) ([],J,()))
 |[],[],pre,b,l,_,_,k,_,_,_,F,f=>by unfold fI;refine .out (bG λn=>?_);rw[f];simp(disch:=omega)only[aT,kj]<;>rfl
 |q::qs,v::vs,pre,b,l,t,C,k,o,p,u,F,f=>by
  unfold qc at u;simp only[lQ]at k;have h1:=o q eJ v (p v eJ);have r:(pre++q::qs).getD pre.length aK=q:=qU ..;have s:(b++v::vs).getD pre.length bq=v:=by simp_all
  unfold fI;cases i:jA w q v with
  |none=>rw[i]at h1;refine .ret ?_;obtain⟨a,h1⟩:=h1 d;refine⟨a,λn j=>?_⟩;have:=h1 n j;simp only at this;show F n _=_;rw[f];simp(disch:=first|omega|simp only[hJ];omega)only[aT,r,s,aj9];exact(cU (λx=>ah x _) this).trans rfl
  |some m=>
   rw[i]at h1;have z:=qO q v m i;have h2:=Mo (P:=P) d qs vs (pre++[q]) (b++[v]) (l++m) (by simpa using t) (by simp;omega) (by simp;omega) (λA h=>o A (ic _ h)) (λB h=>p B (ic _ h))
    (by simp;omega) F (λn e=>by rw[f];simp only[v5,Ku]<;>rfl)
   refine(.next (y:=(l++m,((pre++[q]).length:Int),T,mb c dd w,M,())) ?_ ?_)
   .obtain ⟨a,h1⟩:=h1 d;refine⟨a,λn j=>?_⟩;have:=h1 n j;simp only at this;show F n _=_;rw[f];simp(disch:=first|omega|simp only[hJ];omega)only[aT,r,s,aj9,ct,iV,iX];refine(cU (λx=>ah x _) this).trans ?_;show TL.aO (de l m) (Z (N (l++m,(pre.length:Int)+1,T,mb c dd w,M,())))=_;rw[AX (by omega)];simp<;>rfl
   grind
theorem mK(n k:Nat):R263 n (k+1)=B263 n (R263 n k):=rfl
theorem ahx:∀(q:aB),pw q<=1000->tw c.Cons q->∀(k:rC c dd w),agA c dd M w T q
 |⟨a,n0,text,parts⟩,p,l,k=>by
  intro v m;unfold pw at p;unfold jA;by_cases h1:a=1
  .refine vR.step mK λd=>bG λn=>?_;unfold B263 xu;simp only[aT,h1,ki,H8]<;>rfl
  rw[bO h1];by_cases h2:a=2
  .refine vR.step mK λd=>bG λn=>?_;unfold B263 xu;simp(disch:=omega)only[aT,h2,ki,H8]<;>rfl
  rw[bO h2];have cmp:∀u:ax,(if EP v u=W then Z ([]:L ax)else Y)=Y∧bZ (aa v.Kind u.Kind) (bZ (aa v.N u.N) W)=J∨(if EP v u=W then Z ([]:L ax)else Y)=Z []∧bZ (aa v.Kind u.Kind) (bZ (aa v.N u.N) W)=W:=by
   intro u;have:bZ (aa v.Kind u.Kind) (bZ (aa v.N u.N) W)=EP v u:=by rw[Lm];rfl
   rw[this];cases EP v u<;>simp
  by_cases h3:a=3
  .rw[bB h3];refine vR.step mK λd=>bG λn=>?_;unfold B263 CG xu;obtain⟨f,i⟩|⟨f,i⟩:=cmp (g7 n0)<;>rw[f]<;>simp(disch:=omega)only[aT,h3,Vd,i,H8]<;>rfl
  rw[bO h3];by_cases h4:a=4
  .rw[bB h4];refine vR.step mK λd=>bG λn=>?_;unfold B263 CG xu;obtain⟨f,i⟩|⟨f,i⟩:=cmp (iD (n0==1))<;>rw[f]<;>simp(disch:=omega)only[aT,h4,adH,i,H8]<;>rfl
  rw[bO h4];by_cases h5:a=5
  .rw[bB h5];refine vR.step mK λd=>bG λn=>?_;unfold B263 CG xu;obtain⟨f,i⟩|⟨f,i⟩:=cmp dU<;>rw[f]<;>simp(disch:=omega)only[aT,h5,VS,i,H8]<;>rfl
  rw[bO h5];unfold tw at l;obtain⟨q1,q2,q3⟩:(parts.length:Int)=(c.Cons.getD n0.toNat aY).lg∧oN c.Cons parts∧True:=by obtain h|h|h|h:=l<;>first|exact⟨h.2.2.2.2.1,h.2.2.2.2.2,trivial⟩|(exfalso;have:=h.2.1;omega)
  cases j:gQ w v 1 with
  |none=>refine vR.step mK λd=>bG λn=>?_;unfold B263;simp(disch:=omega)only[aT,Yt m.ref,j,jo,H8]<;>rfl|some o=>
   dsimp only;obtain⟨r,x,_⟩:=eE k m j;by_cases y:o.N≠n0
   .rw[bB (.inl y)];refine vR.step mK λd=>bG λn=>?_;unfold B263;simp(disch:=omega)only[aT,Yt m.ref,j,jo,H8]<;>rfl
   .have s:(o.gu.length:Int)=lY c o.N:=by cases x<;>first|(cases r;done)|assumption
    have s:o.gu.length=parts.length:=by rw[Decidable.not_not.1 y]at s;unfold lY at s;omega
    rw[bO (by omega)];have t:=x.vals;have z:parts.length<=qc parts:=Aw parts;refine vR.step mK λd=>?_;have A:=Mo (c:=c) (dd:=dd) (M:=M) (w:=w) (T:=T) (P:=Any) d parts o.gu [] [] [] (by omega) rfl (by grind)
      (λq B=>ac4 parts (by omega) q2 k q B) t (by grind) _ (λn e=>rfl)
    have C:∀n,B263 n (R263 n (n-d)) (T,mb c dd w,M,⟨a,n0,text,parts⟩,v,())=ah (iter (λe=>aj (aE e.2.1 (aq parts)) (aO (aI e.2.1 parts) (aO (aI e.2.1 o.gu) (ah (R263 n (n-d) (e.2.2.1,e.2.2.2.1,e.2.2.2.2.1,aB.mk (@bn aB parts (az e.2.1) aK).1 (@bn aB parts (az e.2.1) aK).2 (@bn aB parts (az e.2.1) aK).3 (@bn aB parts (az e.2.1) aK).4,@bn ax o.gu (az e.2.1) bq,())) λg=>aj (au g.1.2.1) (Z (X g.2 ([],J,())))
   (aO (de e.1 g.1.1) (Z (N (cZ e.1 g.1.1,aG .i64 e.2.1 1,g.2))))))) (Z (H 0 e))) n ([],0,T,mb c dd w,M,())) λe=>bK e (λ_ h=>Z ((h.1,W,()),h.2.2)) (λg h=>Z (h,g)) λ_(_:Any)=>Y:=by intro n;unfold B263 HN;simp(disch:=omega)only[aT,Yt m.ref,j,jo]<;>rfl
    refine Ev.vQ C (Ev.bw A (λn e=>_) _ ?_);cases fI w parts o.gu<;>exact fc
where
 Aw:∀b:L aB,b.length<=qc b
 |[]=>Ih _|⟨_,_,_,_⟩::b=>by unfold qc pw;have:=Aw b;grind
 ac4:∀(b:L aB),qc b<=1000->oN c.Cons b->∀(k:rC c dd w),∀q∈b,agA c dd M w T q
 |[],_,_,_,_,h=>by cases h
 |q::b,E,j,k,F,h=>by
  unfold qc at E;unfold oN at j;obtain h|h:=ga.1 h
  .rw[h];exact ahx q (by omega) j.1 k
  .exact ac4 b (by omega) j.2 k F h
def aqF(x:Sx c dd w left i f l m a)(h:i.Op=19)(b:cT c w.aS.length v):Ev (λn=>F263 n (T,mb c dd w,M,iZ c i.A,v,())) (H8 T (mb c dd w) M (jA w (iZ c i.A) v)):=by have h1:=x.cx.io.AY h;obtain⟨h2,h3⟩:=x.cx.hp.pats _ (bV aK (show i.A.toNat<c.eC.length by omega));exact ahx _ (by omega) h2 x.cx.hw v b 0
def am8(x:Sx c dd w left i f l m a)(h:i.Op=19):dY c dd M w a i.Op i.A i.B (eX c w a left i f l) (λn=>DM (F186 n (s4 a left f l i,mb c dd w,M,()))):=by
 obtain⟨v,rfl,p⟩:=x.one h (by decide) rfl;have s:=x.st;have q:=x.cx.fl;have h1:=x.cx.io.AY h;have h2:=(x.cx.hp.pats _ (bV aK (show i.A.toNat<c.eC.length by omega))).2;unfold eX F186 DM;simp only[show i.Op.toNat=19 from cU Int.toNat h];show dY _ _ _ _ _ _ _ _ (match jA w (iZ c i.A) v with|some b=>_|none=>.go w (left++[⟨_,_,f.Stack++[v],_⟩]) Y) _;have j:=aqF (M:=M) (T:=s4 a left f [v] i) x h p;have k:@bn ax (f.Stack++[v]) f.Stack.length bq=v:=hU _ _ _ _ rfl;obtain⟨d,j⟩:=j;have e:∀n,d<=n->F263 n (s4 a left f [v] i,mb c dd w,M,iZ c i.A,@bn ax (f.Stack++[v]) f.Stack.length bq,())=Z (H8 (s4 a left f [v] i) (mb c dd w) M (jA w (iZ c i.A) v)):=λn g=>by rw[k];exact j n g
 cases o:jA w (iZ c i.A) v with|none=>rw[o]at e;refine⟨.ok ((),tb a left i.B f.Env (f.Stack++[v]) f.dI i.Op i.A i.B Y,mb c dd w,M,()),⟨d,λn g=>?_⟩,left,⟨i.B,f.Env,f.Stack++[v],f.dI⟩,rfl,by omega,rfl⟩;simp(disch:=first|omega|simp only[hJ];omega)only[aT,H9,hU];exact(cU (λx=>ah (ah x _) _) (e n g)).trans rfl|some b=>rw[o]at e;have r:=qO _ _ _ o;unfold iZ at r;refine⟨.ok ((),tb a left f.At (f.Env++b) f.Stack f.dI i.Op i.A i.B Y,mb c dd w,M,()),⟨d,λn g=>?_⟩,left,⟨f.At,f.Env++b,f.Stack,f.dI⟩,rfl,by omega,rfl⟩;simp(disch:=first|omega|simp only[hJ];omega)only[aT,H9,hU];refine(cU (λx=>ah (ah x _) _) (e n g)).trans ?_;show ah (ah (F260 n (tb a left f.At f.Env (f.Stack++[v]) f.dI i.Op i.A i.B Y,mb c dd w,M,())) _) _=_;refine(cU (λx=>ah (ah x _) _) (nq (by omega))).trans ?_;show ah (TL.aO (eK 0 (aq f.Env) (aq f.Env)) (TL.aO (de (cG f.Env 0 (aq f.Env)) b) (Z ((),((),a,left,f.At,cZ (cG f.Env 0 (aq f.Env)) b,f.Stack,f.dI,i.Op,i.A,i.B,Y,()),mb c dd w,M,())))) _=_;rw[show cG f.Env 0 (aq f.Env)=f.Env from Mp _,Ta (Ig 0) (show 0<=aq f.Env from Int.natCast_nonneg _) (Ig _),AX (by omega)];rfl
end
end
section
section
variable {c:aA}{dd:List av}{M:MP}{w:ak}{left fr:List ai}{i:bN}{f g:ai}{l:List ax}{m a op A B:Int}{u v:ax}{T:SB}
def am3(x:Sx c dd w left i f l m a)(h:i.Op=24):dY c dd M w a i.Op i.A i.B (eX c w a left i f l) (λn=>F191 n (s4 a left f l i,mb c dd w,M,())):=by
 obtain⟨u,rfl,d⟩:=x.one h (by decide) rfl;have p:=x.st;have k:=x.cx.fl;have q:=xG x;have r:=x.cx.hw.tl;have j:kA dU=dU:=rfl;unfold eX;simp[show i.Op.toNat=24 from cU Int.toNat h];show dY _ _ _ _ _ _ _ _ (By c w a left f u) _;unfold By F191 zS;simp only;cases e:jE c w u dU with
 |some b=>
  simp only;split
  .exact .of_eq (λn=>by simp(disch:=omega)only[aT,nq,VS,DT (λh=>d.code h) (λh=>d.ref h) (l8 x d),e,aN,Cf,bB (show 120<=w.aS.length by assumption)]<;>rfl) ⟨_,_,rfl⟩
  .exact .of_eq (λn=>by simp(disch:=first|omega|simp only[hJ];omega)only[aT,nq,VS,DT (λh=>d.code h) (λh=>d.ref h) (l8 x d),e,aN,Cf,bO (show ¬120<=w.aS.length by assumption),hY,nN,Ce,j]<;>rfl) (jB (by omega) rfl)
 |none=>
  cases g:gQ w u 5 with
  |none=>exact .of_eq (λn=>by simp(disch:=omega)only[aT,nq,VS,DT (λh=>d.code h) (λh=>d.ref h) (l8 x d),e,N4 (λh=>d.ref h) (pO x d),g,ae2]<;>rfl) ⟨_,_,rfl⟩
  |some o=>
   simp only;split
   .exact .of_eq (λn=>by simp(disch:=omega)only[aT,nq,VS,DT (λh=>d.code h) (λh=>d.ref h) (l8 x d),e,N4 (λh=>d.ref h) (pO x d),g,aN,Cf,bB (show 120<=w.aS.length by assumption)]<;>rfl) ⟨_,_,rfl⟩
   .exact .of_eq (λn=>by simp(disch:=first|omega|simp only[hJ];omega)only[aT,nq,VS,DT (λh=>d.code h) (λh=>d.ref h) (l8 x d),e,N4 (λh=>d.ref h) (pO x d),g,aN,Cf,bO (show ¬120<=w.aS.length by assumption),hY,nN,Ce,j]<;>rfl) (jB (by omega) rfl)
def pN{α:Type}{q:α->Bool}:∀{l:L α},(∀j(h:j<l.length),q l[j]=J)->j3 q l=Y
 |[],_=>rfl|a::l,h=>by
  unfold j3;rw[pN λj b=>h (j+1) (by simpa using b)];have:=h 0 (by simp)
  simp_all
def uC{α:Type}{q:α->Bool}:∀{l:L α}{m:Nat}(c:m<l.length),q l[m]=W->(∀j(h:j<l.length),m<j->q l[j]=J)->j3 q l=Z m
 |a::l,0,_,h1,h=>by
  unfold j3;rw[pN λj b=>h (j+1) (by simpa using b) (by omega)]
  simp_all
 |a::l,m+1,c,h1,h=>by unfold j3;rw[uC (l:=l) (m:=m) (by simpa using c) (by simpa using h1) λj b d=>h (j+1) (by simpa using b) (by omega)]
theorem E3{a:L ai}(hl:a.length<=40){R B P:Type}{F:Nat->Int×Int×U->O (LO (Int×Int×U) R B P)}
  (g:∀n c,F n c=aj (br 0 c.2.1) (aO (aI c.2.1 a) (aO (dV (az c.2.1) a) (aj (bn a (az c.2.1) bz).4 (Z (.out 0 (c.2.1,c.2))) (Z (.next (c.1,bf .i64 c.2.1 1,())))))) (Z (.out 0 c))) :
  ∀m:Nat,m<=a.length->(∀j(h:j<a.length),m<=j->a[j].dI=J)->
  fY F (-1,(m:Int)-1,()) (.out 0 (match j3 (λf:ai=>f.dI) a with|some k=>((k:Int),(k:Int),())|none=>(-1,-1,())))
 |0,_,h=>by rw[pN λj d=>h j d (Ih _)];exact .out (bG λn=>by simp_all[aT])
 |m+1,o,h=>by
  have e:a.getD m bz=a[m]:=by grind
  have b:((m+1:Nat):Int)-1=(m:Int):=by omega
  cases i:a[m].dI with
  |true=>rw[uC (m:=m) (by omega) i λj d l=>h j d (by omega)];refine .out (bG λn=>?_);rw[g,b];simp(disch:=omega) [aT,e,i]<;>rfl
  |false=>
   refine .next (y:=(-1,(m:Int)-1,())) (bG λn=>?_) (E3 hl g m (by omega) λj d l=>?_)
   .rw[g,b];simp(disch:=omega) [aT,e,i,dh]<;>rfl
   grind
theorem amV(x:Sx c dd w left i f l m a)(h:i.Op=32):dY c dd M w a i.Op i.A i.B (eX c w a left i f l) (λn=>F199 n (s4 a left f l i,mb c dd w,M,())):=by
 have z:=x.nil h (by decide) rfl;have g:=x.st;have A:=x.cx.fl;have Q:=xG x;subst z;have C:oU (s4 a left f [] i,mb c dd w,M,())=left++[f]:=by unfold oU Cv;simp only[aT,kj]<;>rfl
 have e0:bf .i64 (aq (left++[f])) 1=(((left++[f]).length:Nat):Int)-1:=by
  grind[dh,aq]
 have h1:de left (Cv (s4 a left f [] i,mb c dd w,M,()))=W:=Gv.2 (by grind[Cv,List.length_singleton]);have o:(left++[f]).length<=40:=by simp;omega
 unfold eX;simp only[show i.Op.toNat=32 from cU Int.toNat h];unfold E4 F199;simp only[C,e0];have g:=λ(R B P:Type)=>@E3 (left++[f]) o R B P _ (λn c=>rfl) (left++[f]).length (eR _) (λj S E=>by omega);have p:∀(k:Int×Int×U)(b:Nat->Int×Int×U->O Out)(r:ue),(∃y,Ev (λn=>b n k) y∧Hs c dd M w a i.Op i.A i.B r y)->∀(R B P:Type)(F:Nat->Int×Int×U->O (LO (Int×Int×U) R B P))(u:Nat->B->R->O Out)(v:Nat->B->P->O Out)(x:Int×Int×U),
   fY F x (.out 0 k)->dY c dd M w a i.Op i.A i.B r (λn=>ah (iter (F n) n x) λc=>bK c (λ_ e=>b n e) (u n) (v n)):=by
  intro k b r ⟨y,h1,h2⟩ R B P F u v x I;exact⟨y,Ev.bw I _ _ h1,h2⟩
 have d:∀{r:ue}{F:Nat->O Out},dY c dd M w a i.Op i.A i.B r F->dY c dd M w a i.Op i.A i.B r (λn=>TL.aO (nR (eK 0 (aq left) (aq left)) (gi (aq left) (aq left))) (TL.aO (de (cG left 0 (aq left)) (Cv (s4 a left f [] i,mb c dd w,M,()))) (F n))):=by
  simp_all[Ev.vQ,aT]
 refine d ?_;cases q:j3 (λf:ai=>f.dI) (left++[f])with
 |none=>simp only[q]at g;refine p _ _ (.fail 3) ?_ _ _ _ _ _ _ _ (g _ _ _);exact⟨_,bG λn=>by simp(disch:=omega)only[aT,jM]<;>rfl,_,_,rfl⟩
 |some k=>
  obtain⟨s,_⟩:=uD q;simp only[q]at g;refine p _ (λn e=>_) _ ?_ _ _ _ _ _ _ _ (g _ _ _);simp only;have t:cG (left++[f]) (k:Int) (((left++[f]).length:Nat):Int)=(left++[f]).drop k:=by rw[Bx];rfl
  have K:cG (left++[f]) 0 (k:Int)=(left++[f]).take k:=by rfl
  simp only[lD,pF]at s t;split
  .exact ⟨_,bG λn=>by simp(disch:=omega)only[aT,jM,t,acg,Cf,bB (show 120<=w.aS.length by assumption)]<;>rfl,_,_,rfl⟩
  .exact ⟨_,bG λn=>by simp(disch:=first|omega|simp only[hJ];omega)only[aT,jM,t,K,acg,Cf,bO (show ¬120<=w.aS.length by assumption),zR]<;>rfl,(left++[f]).take k,⟨i.A,f.Env++[vJ w.aS.length],[],W⟩,rfl,by grind,rfl⟩
def amT(x:Sx c dd w left i f l m a)(h:i.Op=34):dY c dd M w a i.Op i.A i.B (eX c w a left i f l) (λn=>DM (F201 n (s4 a left f l i,mb c dd w,M,()))):=by
 obtain⟨v,rfl,e⟩:=x.one h (by decide) rfl;have j:=x.st;have d:=x.cx.fl;have b:=x.cx.left;have a0:=x.a0;have a1:=x.a1
 let ⟨t1,t2,t3⟩:=x.cx.hw.task _ (bV 0 (show a.toNat<w.cq.length by omega))
 unfold eX DM;simp[show i.Op.toNat=34 from cU Int.toNat h];unfold F201 zQ;obtain rfl|⟨k,g,rfl⟩:=Sq left
 .exact .of_eq (y:=.ok ((),tb a [] f.At f.Env f.Stack f.dI i.Op i.A i.B (Z ⟨a,0,1,kA v⟩),mb c dd (gJ w (bA w a) ⟨6,1,[v],[]⟩),M,())) (λn=>by simp(disch:=omega) [aT,nq,dh,Ce,af1 a0 a1 t1 t2]<;>rfl) ⟨[],f,rfl⟩
 .rw[Sp]at *
  have o:=(SS x (by omega) (b g (by simp))).1;simp at d;rw[Fe];exact .of_eq (λn=>by simp(disch:=first|omega|simp only[hJ];omega)only[aT,nq,H9,HD,zQ,hU,jJ,nN]<;>rfl) (BM (g:=lR g v) (by omega) rfl)
end
end
section
section
variable {c:aA}{dd:List av}{M:MP}{w w':ak}{left fr:List ai}{i:bN}{f g:ai}{l:List ax}{m a op A B:Int}{u v:ax}{T:SB}
abbrev SX:=SB×MB×MP×U
noncomputable def opF(k:Nat)(n:Nat)(x:SX):O Out:=
 match k with
 |1|2|3|5=>DM (F173 n x)|4=>DM (F174 n x)|6=>F175 n x|7=>F176 n x|8=>F177 n x|9=>DM (F178 n x)|10=>DM (F179 n x)|11=>DM (F180 n x)|12=>F181 n x|13|14|15=>F182 n x|16=>F183 n x|17=>F184 n x|18=>F185 n x|19=>DM (F186 n x)|20=>F187 n x|21=>F188 n x|22=>F189 n x|23=>F190 n x|24=>F191 n x|25=>F192 n x|26=>F193 n x|27=>F194 n x|28=>F195 n x|29=>F196 n x|30=>F197 n x|31=>F198 n x|32=>F199 n x|33=>DM (F200 n x)|34=>DM (F201 n x)|_=>Y
def Uo(x:Sx c dd w left i f l m a):dY c dd M w a i.Op i.A i.B (eX c w a left i f l) (λn=>opF i.Op.toNat n (s4 a left f l i,mb c dd w,M,())):=by
 have h1:=x.cx.io.lo;have h2:=x.cx.io.hi;obtain⟨k,e⟩:∃k:Nat,i.Op=k:=⟨_,(Kt (by omega)).symm⟩;have b:1<=k:=by omega
 have d:k<=34:=by omega
 rw[show i.Op.toNat=k by omega]
 match k,e,b,d with
 |1,h,_,_=>exact aa7 x (.inl h)|2,h,_,_=>exact aa7 x (.inr (.inl h))|3,h,_,_=>exact aa7 x (.inr (.inr (.inl h)))|4,h,_,_=>exact ank x h|5,h,_,_=>exact aa7 x (.inr (.inr (.inr h)))|6,h,_,_=>exact anj x h|7,h,_,_=>exact ani x h|8,h,_,_=>exact anh x h|9,h,_,_=>exact ang x h|10,h,_,_=>exact anf x h|11,h,_,_=>exact ane x h|12,h,_,_=>exact anc x h|13,h,_,_=>exact aeM x (.inl h)|14,h,_,_=>exact aeM x (.inr (.inl h))|15,h,_,_=>exact aeM x (.inr (.inr h))|16,h,_,_=>exact anb x h|17,h,_,_=>exact ana x h|18,h,_,_=>exact am9 x h|19,h,_,_=>exact am8 x h|20,h,_,_=>exact am7 x h|21,h,_,_=>exact am6 x h|22,h,_,_=>exact am5 x h|23,h,_,_=>exact am4 x h|24,h,_,_=>exact am3 x h|25,h,_,_=>exact am2 x h|26,h,_,_=>exact am1 x h|27,h,_,_=>exact am0 x h|28,h,_,_=>exact amZ x h|29,h,_,_=>exact amY x h|30,h,_,_=>exact amX x h|31,h,_,_=>exact amW x h|32,h,_,_=>exact amV x h|33,h,_,_=>exact amU x h|34,h,_,_=>exact amT x h|k+35,h,_,g=>omega
def Mq(c:aA)(dd:L av)(M:MP)(w:ak):O (ak×O aP)->(fS×U)×MB×MP×U
 |none=>((fS.a0 ⟨⟩,()),mb c dd w,M,())|some (w',Y)=>((fS.a2 ⟨⟩,()),mb c dd w',M,())|some (w',Z e)=>((fS.a1 ⟨e⟩,()),mb c dd w',M,())
def amO{n:Nat}{x:O (U×SB×MB×MP×U)}{α:Type}(p:U×SB×MB×MP×U->O α)(q:Any×SB×MB×MP×U->O α):ah (DM x) (λc=>cz c p q)=ah x p:=by cases x<;>rfl
variable {n:Nat}
def choose{α:Type}{k:Nat}(h1:1<=k)(h2:k<=34)(x:SX)(p:U×SB×MB×MP×U->O α)(q:Any×SB×MB×MP×U->O α) :
 (aj (gi (k:Int) 0) Y (aj (gi (k:Int) 1) (ah (F173 n x) p) (aj (gi (k:Int) 2) (ah (F173 n x) p) (aj (gi (k:Int) 3) (ah (F173 n x) p) (aj (gi (k:Int) 4) (ah (F174 n x) p) (aj (gi (k:Int) 5) (ah (F173 n x) p) (aj (gi (k:Int) 6) (ah (F175 n x) λc=>cz c p q) (aj (gi (k:Int) 7) (ah (F176 n x) λc=>cz c p q) (aj (gi (k:Int) 8) (ah (F177 n x) λc=>cz c p q) (aj (gi (k:Int) 9) (ah (F178 n x) p) (aj (gi (k:Int) 10) (ah (F179 n x) p) (aj (gi (k:Int) 11) (ah (F180 n x) p) (aj (gi (k:Int) 12) (ah (F181 n x) λc=>cz c p q) (aj (gi (k:Int) 13) (ah (F182 n x) λc=>cz c p q) (aj (gi (k:Int) 14) (ah (F182 n x) λc=>cz c p q) (aj (gi (k:Int) 15) (ah (F182 n x) λc=>cz c p q) (aj (gi (k:Int) 16) (ah (F183 n x) λc=>cz c p q) (aj (gi (k:Int) 17) (ah (F184 n x) λc=>cz c p q) (aj (gi (k:Int) 18) (ah (F185 n x) λc=>cz c p q) (aj (gi (k:Int) 19) (ah (F186 n x) p) (aj (gi (k:Int) 20) (ah (F187 n x) λc=>cz c p q) (aj (gi (k:Int) 21) (ah (F188 n x) λc=>cz c p q) (aj (gi (k:Int) 22) (ah (F189 n x) λc=>cz c p q) (aj (gi (k:Int) 23) (ah (F190 n x) λc=>cz c p q) (aj (gi (k:Int) 24) (ah (F191 n x) λc=>cz c p q) (aj (gi (k:Int) 25) (ah (F192 n x) λc=>cz c p q) (aj (gi (k:Int) 26) (ah (F193 n x) λc=>cz c p q) (aj (gi (k:Int) 27) (ah (F194 n x) λc=>cz c p q) (aj (gi (k:Int) 28) (ah (F195 n x) λc=>cz c p q) (aj (gi (k:Int) 29) (ah (F196 n x) λc=>cz c p q) (aj (gi (k:Int) 30) (ah (F197 n x) λc=>cz c p q) (aj (gi (k:Int) 31) (ah (F198 n x) λc=>cz c p q) (aj (gi (k:Int) 32) (ah (F199 n x) λc=>cz c p q) (aj (gi (k:Int) 33) (ah (F200 n x) p) (aj (gi (k:Int) 34) (ah (F201 n x) p) (aO J Y))))))))))))))))))))))))))))))))))))=
 ah (opF k n x) λc=>cz c p q:=by
 match k,h1,h2 with
 |1,_,_|2,_,_|3,_,_|4,_,_|5,_,_|9,_,_|10,_,_|19,_,_|33,_,_|34,_,_=>exact(amO (n:=n) p q).symm|11,_,_=>rfl|6,_,_|7,_,_|8,_,_|12,_,_|13,_,_|14,_,_|15,_,_|16,_,_|17,_,_|18,_,_|20,_,_|21,_,_|22,_,_|23,_,_|24,_,_|25,_,_|26,_,_|27,_,_|28,_,_|29,_,_|30,_,_|31,_,_|32,_,_=>rfl|k+35,_,h=>omega
end
end
section
section
variable {n:Nat}{c:aA}{dd:List av}{M:MP}{w w':ak}{bl:List ai}{f g:ai}{a op A B s:Int}{u v:ax}{T:SB}{e:Option aP}{R:MB}
def aqA:O aP->fS
 |none=>fS.a2 ⟨⟩|some e=>fS.a1 ⟨e⟩
def afR(d:0<=a)(h1:a<w'.cq.length)(t1:0<=bA w' a)(t2:bA w' a<w'.aS.length)(f:(eu w' (bA w' a)).N=0)(hl:bl.length<=1000) :
  gN n (R,M,a,()) ((),tb a bl g.At g.Env g.Stack g.dI op A B e,mb c dd w',M,())=Z ((aqA e,()),mb c dd (gJ w' (bA w' a) ⟨6,0,[],bl++[g]⟩),M,()):=by
 have b:=λo=>af1 (n:=n) (c:=c) (dd:=dd) (M:=M) (o:=o) d h1 t1 t2;unfold bA eu at *
 unfold gN Zz;cases e<;>simp(disch:=first|omega|simp only[hJ];omega)only[aT,b,f,aN,Aa,Gl]<;>rfl
def Yj(b:0<=a)(h1:a<w'.cq.length)(t1:0<=bA w' a)(t2:bA w' a<w'.aS.length)(d:(eu w' (bA w' a)).N≠0){e:aP} :
  gN n (R,M,a,()) ((),tb a bl g.At g.Env g.Stack g.dI op A B (Z e),mb c dd w',M,())=Z ((fS.a1 ⟨e⟩,()),mb c dd w',M,()):=by
 unfold bA eu at *
 unfold gN;simp(disch:=omega)only[aT,aN,Aa]<;>rfl
def Yi(d:0<=a)(h1:a<w.cq.length)(t1:0<=bA w a)(t2:bA w a<w.aS.length):j7 n (mb c dd w,M,a,()) (fl s,T,mb c dd w',M,())=Z ((fS.a1 ⟨⟨a,0,s,bq⟩⟩,()),mb c dd (gJ w (bA w a) ⟨6,s,[],[]⟩),M,()):=by have b:=λo=>af1 (n:=n) (c:=c) (dd:=dd) (M:=M) (o:=o) d h1 t1 t2;show ah (F121 n (mb c dd w,M,a,⟨6,s,[],[]⟩,())) (λh=>Z ((fS.a1 (iI.mk (aP.mk a 0 s bq)),()),h.2))=_;rw[b];rfl
theorem Yh:j7 n (mb c dd w,M,a,()) (wt,T,mb c dd w',M,())=Z ((fS.a0 ⟨⟩,()),mb c dd w,M,()):=rfl
theorem e67(x:Bt c dd)(m:rC c dd w)(z:0<=a)(h1:a<w.cq.length):Ev (λn=>F67 n (mb c dd w,M,a,())) (Mq c dd M w (qy c w a)):=by
 let ⟨t1,t2,t3⟩:=m.task _ (bV 0 (show a.toNat<w.cq.length by omega))
 have E:=m.ob t1 t2;change 0<=bA w a at t1;change bA w a<_ at t2;change(eu w (bA w a)).Form=6 at t3;change jF c dd _ (eu w (bA w a))at E;have tl:=m.tl;have ol:=m.len;unfold qy;simp only;by_cases p:(eu w (bA w a)).N=0
 .rw[bO (by omega)]
  let ⟨h,f,j,k1,k2,q⟩:=Gk E t3 p
  have C:=Yd (at_:=a) x m E t3 p;have F:=q.lo;have I:=q.hi;have r:=x.dep.ok f.At F I q.re;have t:=q.sl;have nd:=r.2.2.1;have hx:Sx c dd w h (aX c f.At) ⟨f.At+1,f.Env,f.Stack.take (f.Stack.length-cr c (aX c f.At)),f.dI⟩ (f.Stack.drop (f.Stack.length-cr c (aX c f.At))) f.At a:=⟨YD x m k1 k2 q,z,h1⟩
  let ⟨y,hy,b⟩:=Uo (M:=M) hx
  rw[<-Qu (w:=w) (at_:=a)]at b;rw[<-j]at b;have io:=hx.cx.io;have i1:=io.lo;have i2:=io.hi;have K:f.Stack.take (f.Stack.length-cr c (aX c f.At))++f.Stack.drop (f.Stack.length-cr c (aX c f.At))=f.Stack:=Wv ..;have b1:OT (mb c dd w,M,a,())=(h.length:Int):=by show bf .i64 (aq (eu w (bA w a)).Frames) 1=_;rw[j];show bf .i64 (((h++[f]).length:Nat):Int) 1=_;rw[lD,pF,dh]<;>omega
  have P:DJ (mb c dd w,M,a,())=f:=by
   unfold DJ;show(eu w (bA w a)).Frames.getD _ _=_
   grind[az]
  have b3:fH (mb c dd w,M,a,())=aX c f.At:=by unfold fH;rw[P];rfl
  have b4:gY (mb c dd w,M,a,())=(s4 a h ⟨f.At+1,f.Env,f.Stack.take (f.Stack.length-cr c (aX c f.At)),f.dI⟩ (f.Stack.drop (f.Stack.length-cr c (aX c f.At))) (aX c f.At),mb c dd w,M,()):=by
   unfold gY;rw[b1,P,b3];have e1:cG (bn w.aS (az (bn w.cq (az a) 0)) bL).4 0 (h.length:Int)=h:=by show cG (eu w (bA w a)).Frames 0 _=_;rw[j];exact jJ _ _ rfl
   have e2:aG .i64 f.At 1=f.At+1:=ct (by omega) (by have:=x.len;omega);show(((),a,cG (bn w.aS (az (bn w.cq (az a) 0)) bL).4 0 (h.length:Int),aG .i64 f.At 1,f.Env,f.Stack,_),_)=_;rw[e1,e2];unfold s4;rw[K]
  have hF:∀n,F67 n (mb c dd w,M,a,())=ah (opF (aX c f.At).Op.toNat n (gY (mb c dd w,M,a,()))) λy=>cz y (gN n (mb c dd w,M,a,())) (j7 n (mb c dd w,M,a,())):=by
   intro n;have hlen:(w.aS.getD (w.cq.getD a.toNat 0).toNat bL).Frames.length=h.length+1:=by
    grind[eu,bA]
   have Q:(w.aS.getD (w.cq.getD a.toNat 0).toNat bL).N=0:=p;unfold bA at t1 t2;obtain⟨k,hk⟩:∃k:Nat,(aX c f.At).Op=k:=⟨_,(Kt (by omega)).symm⟩;rw[hk,vZ,<-choose (by omega) (by omega)];unfold F67 OS Lw;rw[b1,P,b3,hk];simp(disch:=omega)only[aT]
  refine Ev.vQ hF ?_;rw[b4];refine Ev.ah hy ?_;cases d:goS c w a (eu w (bA w a))with
  |waits=>rw[d]at b;obtain⟨T,u,rfl⟩:=b;exact bG λn=>Yh
  |fail s=>rw[d]at b;obtain⟨T,u,rfl⟩:=b;exact bG λn=>Yi z h1 t1 t2
  |done v=>
   rw[d]at b;obtain⟨bl,g,rfl⟩:=b;have t:(gJ w (bA w a) ⟨6,1,[v],[]⟩).aS.length=w.aS.length:=by unfold gJ;simp
   have e0:(((bA w a).toNat:Nat):Int)=bA w a:=by omega
   have S:=xH (w:=w) (o:=⟨6,1,[v],[]⟩) (i:=(bA w a).toNat) t1 t2;exact bG λn=>Yj (w':=gJ w (bA w a) ⟨6,1,[v],[]⟩) z h1 t1 (by rw[t];exact t2) (by grind[gJ,bA])
  |go u fr e=>
   rw[d]at b C;obtain⟨bl,g,rfl,LY,rfl⟩:=b
   let ⟨l,hl⟩:=C.tk
   have hln:=C.ln;have e0:(((bA w a).toNat:Nat):Int)=bA w a:=by omega
   have ht:bA u a=bA w a:=by
    grind[bA]
   have S:eu u (bA w a)=eu w (bA w a):=by
    have:=C.sm (bA w a).toNat (by omega)
    simp_all
   have htl:a<u.cq.length:=by grind
   have:=λn=>afR (n:=n) (c:=c) (dd:=dd) (M:=M) (R:=mb c dd w) (op:=(aX c f.At).Op) (A:=(aX c f.At).A) (B:=(aX c f.At).B) (e:=e) (g:=g) z htl (by omega) (by rw[ht];omega) (by simp_all) LY;rw[ht]at this;cases e<;>exact bG this
 .rw[bB p];have Q:(w.aS.getD (w.cq.getD a.toNat 0).toNat bL).N≠0:=p;unfold bA at t1 t2;exact bG λn=>by unfold F67;simp(disch:=omega)only[aT]<;>rfl
end
end
section
def je(w:ak)(a t:Int):ue->aZ
 |.fail s=>⟨gJ w t ⟨6,s,[],[]⟩,1,⟨a,0,s,bq⟩⟩|.waits=>⟨w,2,cN⟩|.done v=>⟨gJ w t ⟨6,1,[v],[]⟩,1,⟨a,0,1,kA v⟩⟩|.go w' fr Y=>⟨gJ w' t ⟨6,0,[],fr⟩,0,cN⟩|.go w' fr (Z e)=>⟨gJ w' t ⟨6,0,[],fr⟩,1,e⟩
structure At(w:ak)(a:Int):Prop where
 lo:0<=a
 hi:a<w.cq.length
 tlo:0<=bA w a
 thi:bA w a<w.aS.length
section
variable {n:Nat}{c:aA}{dd:List av}{w w':ak}{left fr:List ai}{f g:ai}{a op s form:Int}{v u:ax}{o:bx}
theorem foldt(w:ak)(k:Int):w.cq.getD k.toNat 0=bA w k:=rfl
theorem d126(k:Int):F126 n (k,())=Z ((vJ k,()),()):=rfl
theorem d74:F74 n ()=Z ((dU,()),()):=rfl
theorem d43(k:Int):F43 n (k,())=Z ((g7 k,()),()):=rfl
def d73(b:Bool):F73 n (b,())=Z ((iD b,()),()):=by cases b<;>rfl
def akg(k:Int):F73 n (aa k 1,())=Z ((iD (k==1),()),()):=d73 _
def d88:F88 n (v,())=Z ((kA v,()),()):=by
 unfold F88 kA;by_cases h:v.Kind=4
 .simp[h,aT,d126]
 .by_cases a:v.Kind=5
  .simp[a,aT,d126]
  simp_all[aT,or_self,jS]
def d124{l:L ax}(h:l.length<=1000):F124 n (l,v,())=Z ((l++[v],()),()):=by unfold F124;simp(disch:=first|omega|simp only[hJ];omega)only[aT]
def d70(h:left.length<=1000):F70 n (left,f,())=Z ((left++[f],()),()):=by unfold F70;simp(disch:=first|omega|simp only[hJ];omega)only[aT]
def d63(k:Int):F63 n (k,(-1000000000),1000000000,())=Z ((jD k,()),()):=by unfold F63 jD;by_cases h1:-1000000000<=k<;>by_cases h2:k<=1000000000<;>simp[aj,br,h1,h2]
def d83{d:aZ}{k:Int}:F83 n (d,a,op,k,v,())=if d.agz=1 then Z ((d,()),())else Z ((⟨d.W,1,⟨a,op,k,kA v⟩⟩,()),()):=by
 unfold F83;split<;>rename_i h
 .simp only[aT,h]
 simp_all[aT,d88]
def d127(a:v.Kind=5->0<=v.N∧v.N<w.aS.length):F127 n (w,v,form,())=Z (jo (gQ w v form),()):=by
 unfold F127 gQ eu;by_cases h:v.Kind=5
 .obtain ⟨h1,h2⟩:=a h;by_cases b:(w.aS.getD v.N.toNat bL).Form=form
  .simp_all[aT,and_self,ki,jo]
  simp_all[aT,and_false,jS,jo]
 simp_all[aT,false_and,jS,jo]
def frR:O ai->ai×Bool×U
 |some b=>(b,W,())|none=>(bz,J,())
def d128(hf:u.Kind=4->0<=u.N∧u.N<c.cX.length)(a:u.Kind=5->0<=u.N∧u.N<w.aS.length)(hn:∀o,gQ w u 2=Z o->o.gu.length<=1000) :
  F128 n (⟨c,dd⟩,w,u,v,())=Z (frR (jE c w u v),()):=by
 unfold F128 jE;by_cases h:u.Kind=4
 .simp_all[h1,h2,aT,ki,frR]
 .simp (disch:=omega)only[aT,h,jS];rw[d127 a];cases b:gQ w u 2 with
  |none=>rfl|some o=>
   simp_all[aT,jo,d124,frR]
def d79(t:At w a):F79 n (w,a,s,())=Z ((je w a (bA w a) (.fail s),()),()):=by
 obtain⟨a1,a2,b,c⟩:=t
 simp_all[F79,bA,aT,je,gJ]
def d71(t:At w a)(h:fr.length<=1000):F71 n (w,a,fr,())=Z ((je w a (bA w a) (kH w [] fr),()),()):=by
 have b:=λs=>d79 (n:=n) (s:=s) t;obtain⟨a1,a2,c,d⟩:=t;unfold F71 kH;simp only[M3,ya,MI];unfold bA at c d;split
 .simp (disch:=omega)only[aT,b]
 .simp (disch:=omega)only[aT,je,gJ,bA]
def YC(t:At w a)(h:fr.length<=40):F71 n (w,a,fr,())=Z ((⟨gJ w (bA w a) ⟨6,0,[],fr⟩,0,cN⟩,()),()):=by rw[d71 t (by omega)];unfold kH;rw[bO (by simp_all)];rfl
def d72(h:left.length<=1000)(b:g.Stack.length<=1000):F72 n (left++[g],v,())=Z ((left++[lR g v],()),()):=by
 have a:∀x:ai,(left++[g]).set left.length x=left++[x]:=λx=>by simp_all
 unfold F72;simp(disch:=first|omega|simp only[hJ];omega)only[aT,OR,H9,hU,d124,a,lR]
def akh(h:left.length<=900)(d:fr.length<=90)(b:fr≠[])(hs:∀g∈fr,g.Stack.length<=1000):F72 n (left++fr,v,())=Z ((left++kN fr v,()),()):=by obtain⟨l,g,a⟩:∃l g,fr=l++[g]:=⟨_,_,(List.dropLast_concat_getLast b).symm⟩;have c:=hs g (by rw[a];simp);have:=cU List.length a;simp only[lD,pF]at this;rw[Ff a,a,<-v5,d72 (by simp;omega) c,v5]
def Lq{w':ak}(t:At w a)(h1:w'.cq=w.cq)(h2:w.aS.length<=w'.aS.length):At w' a∧bA w' a=bA w a:=by
 have e:bA w' a=bA w a:=by unfold bA;rw[h1]
 exact⟨⟨t.lo,by rw[h1];exact t.hi,by rw[e];exact t.tlo,by rw[e];have:=t.thi;omega⟩,e⟩
def d75(t:At w a)(hl:w.aS.length<=1000)(h:left.length<40)(c:f.Stack.length<=900):F75 n (w,a,left++[f],o,())=Z ((je w a (bA w a) (oq w left f o),()),()):=by
 have b:=Lq (w':=hY w o) t rfl (by simp[hY]);unfold F75 oq;split
 .simp (disch:=omega)only[aT,d79 t]
 .simp (disch:=first|omega|simp only[hJ];omega)only[aT,d126,lD,pF];rw[show bf .i64 ((w.aS.length+1:Nat):Int) 1=(w.aS.length:Int)by rw[dh]<;>omega];simp(disch:=omega)only[aT,d72];have:=YC (n:=n) (fr:=left++[lR f (vJ w.aS.length)]) b.1 (by simp;omega);rw[b.2]at this;exact(cU (λx=>ah x _) this).trans rfl
def I4{e:O aP}(t:At w a)(h:left.length<40)(h1:w'.cq=w.cq)(h2:w.aS.length<=w'.aS.length) :
  F71 n (w',a,left++[lR f v],())=Z ((⟨gJ w' (bA w a) ⟨6,0,[],left++[lR f v]⟩,0,cN⟩,()),()):=by
 obtain⟨h3,h4⟩:=Lq t h1 h2;rw[YC h3 (by simp;omega),h4]
theorem d76(t:At w a)(m:Bt c dd)(i:rC c dd w)(d:cT c w.aS.length u)(hn:∀o,gQ w u 2=Z o->o.gu.length<=1000)
  (j:∀o,gQ w u 5=Z o->o.Frames≠[]∧o.Frames.length<=40∧∀g∈o.Frames,g.Stack.length<=1000) (h:left.length<=40) {r:Bool} :
  F76 n (⟨c,dd⟩,w,a,left,u,v,r,())=Z ((je w a (bA w a) (sN c w left u v r),()),()):=by
 unfold F76 sN;cases e:gQ w u 5 with
 |some o=>
  obtain⟨h1,h2,h3,h4,h5,h6⟩:=eE i d e;have f:jE c w u v=Y:=by unfold jE gQ;rw[bO (by omega),<-h6,bO (by omega)]
  obtain⟨k,p,l⟩:=j o e;have q:=Fg (v:=v) (fs:=o.Frames);simp(disch:=omega)only[aT,d127 (λh=>d.ref h),e,jo,akh (left:=left) (v:=v) (show left.length<=900 by omega) (show o.Frames.length<=90 by omega) k l,f];rw[d71 t (by grind)];unfold kH;simp only[M3,ya,MI,lD];rfl
 |none=>
  cases f:jE c w u v with|none=>simp only[aT,d127 (λh=>d.ref h),e,jo,d128 (λh=>d.code h) (λh=>d.ref h) hn,f,frR,d79 t]|some b=>simp(disch:=omega)only[aT,d127 (λh=>d.ref h),e,jo,d128 (λh=>d.code h) (λh=>d.ref h) hn,f,frR,d70];rw[d71 t (by simp;omega)];unfold kH;simp only[M3,ya,MI,lD];rfl
def d78(t:At w a)(k:op=13∨op=14∨op=15∨op=16∨op=17)(q:cT c w.aS.length u)(r:cT c w.aS.length v)(h:left.length<40)(s:f.Stack.length<=900) :
  F78 n (w,a,left++[f],op,u,v,())=Z ((je w a (bA w a) (sJ w left f op u v),()),()):=by
 have d:=λx=>I4 (n:=n) (w':=w) (f:=f) (v:=x) (e:=Y) t h rfl (eR _);have b:=λx=>d72 (n:=n) (left:=left) (g:=f) (v:=x) (by omega) (by omega);unfold F78 OP Tm sJ;by_cases i:op=17
 .subst i;rw[bB rfl];by_cases h1:u.Kind=v.Kind
  .by_cases h2:u.Kind<=3
   .rw[bO (by omega)];simp(disch:=omega)only[aT,show ∀x,bZ W x=x from λ_=>rfl,Lm,d73,b,d]<;>rfl
   simp_all[bB,aT,d79]
  simp_all[bB,aT,d79]
 .rw[bO i];by_cases h1:u.Kind=1∧v.Kind=1
  .obtain ⟨j,l⟩:=h1;have m:=q.int j;have o:=r.int l;have y:=Xj m o;simp only[jD,fF,qE]at m o;rw[bO (by omega)];obtain h|h|h|h|h:=k
   .subst h;simp only[Int.reduceEq,jS,ki];simp(disch:=omega)only[aT,aN,ct,d63];cases p:jD (u.N+v.N)<;>simp only[aT,d43,b,d,d79 t,jS,ki,reduceCtorEq]<;>rfl
   .subst h;simp only[Int.reduceEq,jS,ki];simp(disch:=omega)only[aT,aN,dh,d63];cases p:jD (u.N-v.N)<;>simp only[aT,d43,b,d,d79 t,jS,ki,reduceCtorEq]<;>rfl
   .subst h;simp only[Int.reduceEq,jS,ki];simp(disch:=omega)only[aT,aN,KB,d63];cases p:jD (u.N*v.N)<;>simp only[aT,d43,b,d,d79 t,jS,ki,reduceCtorEq]<;>rfl
   .subst h;simp only[Int.reduceEq,jS,ki];simp(disch:=omega)only[aT,d73,b,d]<;>rfl
   omega
  .rw[bB (by omega)];by_cases j:u.Kind=1
   .simp (disch:=omega)only[aT,d79 t]<;>rfl
   simp_all[aT,d79]
end
end
section
section
variable {n:Nat}{c:aA}{dd:List av}{w w':ak}{left fr:List ai}{f g:ai}{a op s form A B:Int}{v u:ax}{o:bx}
structure Fx(c:aA)(dd:List av)(w:ak)(left:List ai)(f:ai)(a:Int):Prop where
 at_:At w a
 hp:Bt c dd
 hw:rC c dd w
 h:left.length<40
 h':f.Stack.length<=60
 e:f.Env.length<=30
def Fx.PC(x:Fx c dd w left f a)(v:ax):F72 n (left++[f],v,())=Z ((left++[lR f v],()),()):=d72 (by have:=x.h;omega) (by have:=x.h';omega)
def Fx.p71(x:Fx c dd w left f a)(v:ax)(h1:w'.cq=w.cq)(h2:w.aS.length<=w'.aS.length):F71 n (w',a,left++[lR f v],())=Z ((⟨gJ w' (bA w a) ⟨6,0,[],left++[lR f v]⟩,0,cN⟩,()),()):=
 I4 (e:=Y) x.at_ x.h h1 h2
def Ki{k:Int}:(gJ w k o).aS.length=w.aS.length:=by unfold gJ;simp
variable {l:List ax}
def aq1(x:Fx c dd w left f a)(hl:l=[v]):F80 n (w,a,left++[f],21,l,())=Z ((je w a (bA w a) (oq w left f ⟨3,0,[v],[]⟩ (Z ⟨a,16,0,kA v⟩)),()),()):=by
 have ol:=x.hw.len;subst hl;unfold F80 Bl;simp(disch:=first|omega|simp only[hJ];omega)only[aT,kP,d75 x.at_ (show w.aS.length<=1000 by omega) x.h (show f.Stack.length<=900 by have:=x.h';omega)];unfold oq;by_cases h:120<=w.aS.length
 .rw[bB h,bB h];simp only[aT,d83,je,ki]<;>rfl
 simp_all[bO,fG,aT,d83,je,Int.reduceEq,jS]
def aq0(x:Fx c dd w left f a)(hl:l=[v])(b:cT c w.aS.length v):F80 n (w,a,left++[f],22,l,())=Z ((je w a (bA w a) (Gl w a left f v),()),()):=by
 subst hl;unfold F80 Bl Gl;cases d:gQ w v 3 with
 |none=>simp(disch:=first|omega|simp only[hJ];omega)only[aT,kP,d127 (λh=>b.ref h),d,jo,d79 x.at_]
 |some o=>
  obtain⟨h3,h4,_⟩:=eE x.hw b d;have g:0<o.gu.length:=by cases h4<;>first|(cases h3;done)|simp
  have e:=λu=>x.p71 (n:=n) (w':=w) u rfl (eR _);simp(disch:=first|omega|simp only[hJ];omega)only[aT,kP,d127 (λh=>b.ref h),d,jo,x.PC,e,d83,Int.reduceEq,jS,je]<;>rfl
def aqZ(x:Fx c dd w left f a)(hl:l=[u,v])(d:cT c w.aS.length u):F80 n (w,a,left++[f],23,l,())=Z ((je w a (bA w a) (jm w a left f u v),()),()):=by subst hl;unfold F80 Bl jm;cases e:gQ w u 3 with|none=>simp(disch:=first|omega|simp only[hJ];omega)only[aT,kP,d127 (λh=>d.ref h),e,jo,d79 x.at_]|some o=>obtain⟨h3,h4,h5,h6,g,_⟩:=eE x.hw d e;have b:=λq=>x.p71 (n:=n) (w':=gJ w u.N ⟨3,0,[v],[]⟩) q rfl (by rw[Ki];omega);unfold gJ at b;simp(disch:=first|omega|simp only[hJ];omega)only[aT,kP,Ks,d127 (λh=>d.ref h),e,jo,d74,x.PC,b,d83,Int.reduceEq,jS,je]<;>rfl
theorem d82(x:Fx c dd w left f a)(b:cT c w.aS.length u):F82 n (w,a,left++[f],u,())=Z ((je w a (bA w a) (Jl w a left f u),()),()):=by
 unfold F82 Jl;cases d:gQ w u 6 with
 |none=>simp only[aT,d127 (λh=>b.ref h),d,jo,d79 x.at_]|some o=>
  obtain⟨h3,h4,_⟩:=eE x.hw b d;simp only;by_cases g:o.N=0
  .simp_all[bB,aT,d127,jo,je]
  .rw[bO g];by_cases h1:o.N=1
   .rw[bO (by omega)];have i:0<o.gu.length:=by cases h4 with|done=>grind|dead p=>simp_all|wF=>grind|_=>cases h3
    have e:=λu=>x.p71 (n:=n) (w':=w) u rfl (eR _);simp(disch:=omega)only[aT,d127 (λh=>b.ref h),d,jo,x.PC,e,d83,Int.reduceEq,jS,je]<;>rfl
   .rw[bB h1];simp(disch:=omega)only[aT,d127 (λh=>b.ref h),d,jo,d79 x.at_]
def aqY(x:Fx c dd w left f a)(hl:l=[u,v])(d:cT c w.aS.length u):F84 n (w,a,left++[f],27,l,())=Z ((je w a (bA w a) (IT w a left f u v),()),()):=by
 subst hl;unfold F84 JY IT;cases e:gQ w u 4 with
 |none=>simp(disch:=first|omega|simp only[hJ];omega)only[aT,kP,d127 (λh=>d.ref h),e,jo,d79 x.at_]
 |some o=>
  obtain⟨h3,h4,h5,h6,i,_⟩:=eE x.hw d e;simp only;by_cases g:4<=o.gu.length
  .rw[bB g];simp(disch:=first|omega|simp only[hJ];omega)only[aT,kP,d127 (λh=>d.ref h),e,jo,je]
  .rw[bO g];have b:=λq=>x.p71 (n:=n) (w':=gJ w u.N ⟨4,0,o.gu++[v],[]⟩) q rfl (by rw[Ki];omega);unfold gJ at b;simp(disch:=first|omega|simp only[hJ];omega)only[aT,kP,Ks,d127 (λh=>d.ref h),e,jo,d124,d74,x.PC,b,d83,Int.reduceEq,jS,je]<;>rfl
def aqX(x:Fx c dd w left f a)(hl:l=[u])(g:cT c w.aS.length u):F84 n (w,a,left++[f],28,l,())=Z ((je w a (bA w a) (IN w a left f u),()),()):=by
 subst hl;unfold F84 JY IN;cases i:gQ w u 4 with
 |none=>simp(disch:=first|omega|simp only[hJ];omega)only[aT,kP,d127 (λh=>g.ref h),i,jo,d79 x.at_]
 |some o=>
  obtain⟨h3,h4,h5,h6,m,_⟩:=eE x.hw g i;have j:o.gu.length<=4:=by cases h4<;>first|(cases h3;done)|assumption
  cases b:o.gu with|nil=>simp_all[hJ,aT,kP,d127,jo,je]|cons v d=>rw[b]at j;simp only[lQ]at j;have k:cG (v::d) 1 (((v::d).length:Nat):Int)=d:=p8 v d _ rfl;simp only[lQ]at k;have e:=λq=>x.p71 (n:=n) (w':=gJ w u.N ⟨4,0,d,[]⟩) q rfl (by rw[Ki];omega);unfold gJ at e;simp(disch:=first|omega|simp only[hJ];omega)only[aT,kP,d127 (λh=>g.ref h),i,jo,b,x.PC,k];simp only[aT,e,d83,Int.reduceEq,jS,je]<;>rfl
def aqV(x:Fx c dd w left f a)(hl:l=[v]):F85 n (w,a,left++[f],⟨29,A,B⟩,l,())=Z ((je w a (bA w a) (Uh w a left f A v),()),()):=by
 subst hl;unfold F85 Uh;by_cases d:v.Kind=1
 .rw[bO (by omega)];split
  .simp (disch:=first|omega|simp only[hJ];omega)only[aT,kP,d79 x.at_]
  .have b:=λq=>x.p71 (n:=n) (w':=⟨w.aS,w.cq,w.nV++[⟨A,v.N⟩],w.dL,w.Used⟩) q rfl (eR _);simp(disch:=first|omega|simp only[hJ];omega)only[aT,kP,d74,x.PC,b,d83,Int.reduceEq,jS,je]<;>rfl
 .rw[bB d];simp(disch:=first|omega|simp only[hJ];omega)only[aT,kP,d79 x.at_]
def aqW(x:Fx c dd w left f a):F85 n (w,a,left++[f],⟨30,A,B⟩,l,())=Z ((je w a (bA w a) (inS w a left f),()),()):=by
 have g:=x.hw.ins;have j:=x.hw.used;unfold F85 inS;cases b:w.dL with
 |nil=>rfl|cons k d=>
  rw[b]at g;simp only[lQ]at g;have h:cG (k::d) 1 (((k::d).length:Nat):Int)=d:=p8 k d _ rfl;simp only[lQ]at h;have i:kA (g7 k)=g7 k:=rfl;simp only;split
  .simp (disch:=first|omega|simp only[hJ];omega)only[aT,b,d43,d79 x.at_]
  .have e:=λq=>x.p71 (n:=n) (w':=⟨w.aS,w.cq,w.nV,d,w.Used+1⟩) q rfl (eR _);simp(disch:=first|omega|simp only[hJ];omega)only[aT,b,d43,kP,x.PC,ct,h];simp only[aT,e,d83,i,Int.reduceEq,jS,je]<;>rfl
theorem Dt{a:L ai}(hl:a.length<=41){R B P:Type}{F:Nat->Int×U->O (LO (Int×U) R B P)}
  (g:∀n c,F n c=aj (br 0 c.1) (aO (aI c.1 a) (aj (au (bn a (az c.1) bz).4) (Z (.next (bf .i64 c.1 1,()))) (Z (.out 0 c)))) (Z (.out 0 c))) :
  ∀m:Nat,m<=a.length->(∀j(h:j<a.length),m<=j->a[j].dI=J)->
  fY F ((m:Int)-1,()) (.out 0 (match j3 (λf:ai=>f.dI) a with|some k=>(k:Int)|none=>-1,()))
 |0,_,h=>by rw[pN λj d=>h j d (Ih _)];exact .out (bG λn=>by simp_all[aT])
 |m+1,o,h=>by
  have e:a.getD m bz=a[m]:=by grind
  have b:((m+1:Nat):Int)-1=(m:Int):=by omega
  cases i:a[m].dI with
  |true=>rw[uC (m:=m) (by omega) i λj d l=>h j d (by omega)];refine .out (bG λn=>?_);rw[g,b];simp(disch:=omega)only[aT,e,i]<;>rfl
  |false=>
   refine .next (y:=((m:Int)-1,())) (bG λn=>?_) (Dt hl g m (by omega) λj d l=>?_)
   .rw[g,b];simp(disch:=omega)only[aT,e,i,dh]<;>rfl
   grind
def d86(x:Fx c dd w left f a):Ev (λn=>F86 n (w,a,left++[f],A,())) ((je w a (bA w a) (E4 w left f A),()),()):=by
 have t:=x.h;have u:=x.e;have m:(left++[f]).length=left.length+1:=by simp
 have e0:bf .i64 (aq (left++[f])) 1=(((left++[f]).length:Nat):Int)-1:=dh (by simp only[aq];omega) (by simp only[aq];omega);have d:=λ(R B P:Type)=>@Dt (left++[f]) (by omega) R B P _ (λn c=>rfl) (left++[f]).length (eR _) (λj I v=>by omega);have o:∀(k:Int)(r:(aZ×U)×U){b:Nat->Int×U->O ((aZ×U)×U)},Ev (λn=>b n (k,())) r->∀(R B P:Type)(F:Nat->Int×U->O (LO (Int×U) R B P))(p:Nat->B->R->O ((aZ×U)×U))(q:Nat->B->P->O ((aZ×U)×U))(y:Int×U),
   fY F y (.out 0 (k,()))->Ev (λn=>ah (iter (F n) n y) λc=>bK c (λ_ e=>b n e) (p n) (q n)) r:=by
  intro k r b h R B P F p q y z;exact Ev.bw z _ _ h
 unfold F86 E4;simp only[e0];refine Ev.vQ (λn=>by rw[show aI ((((left++[f]).length:Nat):Int)-1) (left++[f])=W from ie.2 (by omega)]) ?_;cases g:j3 (λf:ai=>f.dI) (left++[f])with
 |none=>simp only[g]at d;refine o _ _ ?_ _ _ _ _ _ _ _ (d _ _ _);exact bG λn=>by simp(disch:=omega)only[aT,d79 x.at_]
 |some k=>
  obtain⟨i,_⟩:=uD g;simp only[g]at d;refine o _ _ ?_ _ _ _ _ _ _ _ (d _ _ _);simp only;have s:cG (left++[f]) (k:Int) (((left++[f]).length:Nat):Int)=(left++[f]).drop k:=by rw[Bx];rfl
  have C:cG (left++[f]) 0 (k:Int)=(left++[f]).take k:=by rfl
  have E:(left++[f]).getD left.length bz=f:=hU _ _ _ _ rfl;simp only[lD,pF]at i s;split
  .exact bG λn=>by simp(disch:=omega)only[aT,d79 x.at_]
  .obtain ⟨h3,h4⟩:=Lq (w':=hY w ⟨5,0,[],(left++[f]).drop k⟩) x.at_ rfl (by simp[hY]);have l:=λn=>YC (n:=n) (fr:=(left++[f]).take k++[⟨A,f.Env++[vJ w.aS.length],[],W⟩]) h3 (by simp;omega);refine bG λn=>?_;simp(disch:=first|omega|simp only[hJ];omega)only[aT,s,C,H9,show(((left.length+(0+1):Nat):Int)-1).toNat=left.length by omega,d126,E,d124,d70];exact(cU (λx=>ah x _) (l n)).trans rfl
end
end
section
abbrev asm:=(L ax×Bool×U)×U
def Ik:O (L ax)->asm
 |some m=>((m,W,()),())|none=>(([],J,()),())
def agD(c:aA)(w:ak)(q:aB):Prop:=∀(v:ax),cT c w.aS.length v->vR R129 (w,q,v,()) (Ik (jA w q v))
section
variable {n:Nat}{c:aA}{dd:List av}{w w':ak}{left fr:List ai}{f g:ai}{a op s form A B:Int}{v u:ax}{o:bx}{i:bN}{l:List ax}{m:Int}
theorem No{B P:Type}(d:Nat):∀(qs:L aB)(vs:L ax)(pre:L aB)(b:L ax)(l:L ax),qs.length=vs.length->pre.length=b.length->pre.length+qs.length<=1000->
  (∀q∈qs,agD c w q)->(∀v∈vs,cT c w.aS.length v)->l.length+qc qs<=1000->
  ∀(F:Nat->L ax×Int×U->O (LO (L ax×Int×U) (L ax×Bool×U) U P)),
  (∀n e,F n e=aj (aE e.2.1 (aq (pre++qs))) (aO (aI e.2.1 (pre++qs)) (aO (aI e.2.1 (b++vs)) (ah (R129 n (n-d) (w,@bn aB (pre++qs) (az e.2.1) aK,@bn ax (b++vs) (az e.2.1) bq,())) λg=>aj (au g.1.2.1) (Z (X () ([],J,())))
   (aO (de e.1 g.1.1) (Z (N (cZ e.1 g.1.1,aG .i64 e.2.1 1,()))))))) (Z (H 0 e)))->
  fY F (l,(pre.length:Int),()) (match fI w qs vs with
   |some m=>.out 0 (l++m,((pre++qs).length:Int),())|none=>.ret () ([],J,()))
 |[],[],pre,b,l,_,_,k,_,_,_,F,f=>by unfold fI;refine .out (bG λn=>?_);rw[f];simp(disch:=omega)only[aT,kj]<;>rfl
 |q::qs,v::vs,pre,b,l,t,E,k,o,p,u,F,f=>by
  unfold qc at u;simp only[lQ]at k;have h1:=o q eJ v (p v eJ);have r:(pre++q::qs).getD pre.length aK=q:=qU ..;have s:(b++v::vs).getD pre.length bq=v:=by simp_all
  unfold fI;cases i:jA w q v with
  |none=>rw[i]at h1;refine .ret ?_;obtain⟨a,h1⟩:=h1 d;refine⟨a,λn j=>?_⟩;have:=h1 n j;simp only at this;show F n _=_;rw[f];simp(disch:=first|omega|simp only[hJ];omega)only[aT,r,s];exact(cU (λx=>ah x _) this).trans rfl
  |some m=>
   rw[i]at h1;have z:=qO q v m i;have h2:=No (B:=B) (P:=P) d qs vs (pre++[q]) (b++[v]) (l++m) (by simpa using t) (by simp;omega) (by simp;omega) (λA h=>o A (ic _ h)) (λC h=>p C (ic _ h))
    (by simp;omega) F (λn e=>by rw[f];simp only[v5,Ku]<;>rfl)
   refine(.next (y:=(l++m,((pre++[q]).length:Int),())) ?_ ?_)
   .obtain ⟨a,h1⟩:=h1 d;refine⟨a,λn j=>?_⟩;have:=h1 n j;simp only at this;show F n _=_;rw[f];simp(disch:=first|omega|simp only[hJ];omega)only[aT,r,s,ct,iV,iX];refine(cU (λx=>ah x _) this).trans ?_;show TL.aO (de l m) (Z (N (l++m,(pre.length:Int)+1,())))=_;rw[AX (by omega)];simp<;>rfl
   grind
theorem mL(n k:Nat):R129 n (k+1)=B129 n (R129 n k):=rfl
theorem ahT:∀(q:aB),pw q<=1000->∀(i:rC c dd w),agD c w q
 |⟨form,n0,text,parts⟩,l,i=>by
  intro v j;unfold pw at l;unfold jA;by_cases h1:form=1
  .refine vR.step mL λd=>bG λn=>?_;unfold B129;simp only[aT,h1,ki,Ik]<;>rfl
  rw[bO h1];by_cases h2:form=2
  .refine vR.step mL λd=>bG λn=>?_;unfold B129;simp(disch:=omega)only[aT,h2,ki,Ik]<;>rfl
  rw[bO h2];have cmp:∀u:ax,(if EP v u=W then Z ([]:L ax)else Y)=Y∧bZ (aa v.Kind u.Kind) (bZ (aa v.N u.N) W)=J∨(if EP v u=W then Z ([]:L ax)else Y)=Z []∧bZ (aa v.Kind u.Kind) (bZ (aa v.N u.N) W)=W:=by
   intro u;have:bZ (aa v.Kind u.Kind) (bZ (aa v.N u.N) W)=EP v u:=by rw[Lm];rfl
   rw[this];cases EP v u<;>simp
  by_cases h3:form=3
  .rw[bB h3];refine vR.step mL λd=>bG λn=>?_;unfold B129 CJ;obtain⟨b,f⟩|⟨b,f⟩:=cmp (g7 n0)<;>rw[b]<;>simp(disch:=omega)only[aT,h3,d43,f,Ik]<;>rfl
  rw[bO h3];by_cases h4:form=4
  .rw[bB h4];refine vR.step mL λd=>bG λn=>?_;unfold B129 CJ;obtain⟨b,f⟩|⟨b,f⟩:=cmp (iD (n0==1))<;>rw[b]<;>simp(disch:=omega)only[aT,h4,akg,f,Ik]<;>rfl
  rw[bO h4];by_cases h5:form=5
  .rw[bB h5];refine vR.step mL λd=>bG λn=>?_;unfold B129 CJ;obtain⟨b,f⟩|⟨b,f⟩:=cmp dU<;>rw[b]<;>simp(disch:=omega)only[aT,h5,d74,f,Ik]<;>rfl
  rw[bO h5];cases k:gQ w v 1 with
  |none=>refine vR.step mL λd=>bG λn=>?_;unfold B129;simp(disch:=omega)only[aT,d127 j.ref,k,jo,Ik]<;>rfl|some o=>
   dsimp only;obtain⟨_,r,_⟩:=eE i j k;by_cases p:o.N≠n0∨o.gu.length≠parts.length
   .rw[bB p];refine vR.step mL λd=>bG λn=>?_;unfold B129;by_cases C:o.N=n0
    .simp (disch:=omega)only[aT,d127 j.ref,k,jo,Ik]<;>rfl
    .simp (disch:=omega)only[aT,d127 j.ref,k,jo,Ik]<;>rfl
   .rw[bO p];have m:=r.vals;have s:parts.length<=qc parts:=Aw parts;refine vR.step mL λd=>?_;have t:=No (c:=c) (w:=w) (B:=U) (P:=Any) d parts o.gu [] [] [] (by omega) rfl (by grind)
      (λq x=>adl parts (by omega) i q x) m (by grind) _ (λn e=>rfl)
    have y:∀n,B129 n (R129 n (n-d)) (w,⟨form,n0,text,parts⟩,v,())=ah (iter (λe=>aj (aE e.2.1 (aq parts)) (aO (aI e.2.1 parts) (aO (aI e.2.1 o.gu) (ah (R129 n (n-d) (w,@bn aB parts (az e.2.1) aK,@bn ax o.gu (az e.2.1) bq,())) λg=>aj (au g.1.2.1) (Z (X () ([],J,())))
   (aO (de e.1 g.1.1) (Z (N (cZ e.1 g.1.1,aG .i64 e.2.1 1,()))))))) (Z (H 0 e))) n ([],0,())) λe=>bK e (λ_ h=>Z ((h.1,W,()),())) (λ_ h=>Z (h,())) λ_(_:Any)=>Y:=by intro n;unfold B129;simp(disch:=omega)only[aT,d127 j.ref,k,jo]<;>rfl
    refine Ev.vQ y (Ev.bw t (λn e=>_) _ ?_);cases fI w parts o.gu<;>exact fc
where
 Aw:∀a:L aB,a.length<=qc a
 |[]=>Ih _|⟨_,_,_,_⟩::a=>by unfold qc pw;have:=Aw a;grind
 adl:∀(a:L aB),qc a<=1000->∀(i:rC c dd w),∀q∈a,agD c w q
 |[],_,_,_,h=>by cases h
 |q::a,z,i,A,h=>by
  unfold qc at z;obtain h|h:=ga.1 h
  .rw[h];exact ahT q (by omega) i
  .exact adl a (by omega) i A h
def d69(h1:1<=i.Op)(h2:i.Op<=34)(f:i.Op=18->0<=i.A∧i.A<c.Cons.length∧0<=(c.Cons.getD i.A.toNat aY).lg):F69 n (⟨c,dd⟩,i,())=Z (((cr c i:Int),()),()):=by
 by_cases a:i.Op=18
 .obtain ⟨g,j,l⟩:=f a;unfold F69 DH Bm cr lY;rw[bB a];simp(disch:=omega)only[aT,a,aN];rw[show(((c.Cons.getD i.A.toNat aY).lg.toNat:Nat):Int)=(c.Cons.getD i.A.toNat aY).lg by omega]
 .obtain ⟨k,b⟩:∃k:Nat,i.Op=k:=⟨_,(Kt (by omega)).symm⟩;have d:1<=k:=by omega
  have e:k<=34:=by omega
  unfold cr;rw[bO a,show i.Op.toNat=k by omega];unfold F69;simp only[b]
  match k,d,e,b with
  |18,_,_,b=>omega
  |1,_,_,_|2,_,_,_|3,_,_,_|4,_,_,_|5,_,_,_|6,_,_,_|7,_,_,_|8,_,_,_|9,_,_,_|10,_,_,_|11,_,_,_|12,_,_,_|13,_,_,_|14,_,_,_|15,_,_,_|16,_,_,_|17,_,_,_
  |19,_,_,_|20,_,_,_|21,_,_,_|22,_,_,_|23,_,_,_|24,_,_,_|25,_,_,_|26,_,_,_|27,_,_,_|28,_,_,_|29,_,_,_|30,_,_,_|31,_,_,_|32,_,_,_|33,_,_,_|34,_,_,_=>rfl|k+35,_,h,_=>omega
end
end
section
section
variable {n:Nat}{c:aA}{dd:List av}{w w':ak}{left fr:List ai}{f g:ai}{a op s form A B:Int}{v u:ax}{o:bx}{i:bN}{l:List ax}{m:Int}
theorem Fx.on(x:Fx c dd w left f a)(g:ai):F71 n (w,a,left++[g],())=Z ((je w a (bA w a) (.go w (left++[g]) Y),()),()):=by have:=x.h;rw[YC x.at_ (by simp;omega)];rfl
def d77(x:Fx c dd w left f a)(S:c.eC.length<=100000)(io:OJ c i)(hl:∀q∈l,cT c w.aS.length q)(A:i.Op=19->pw (iZ c i.A)<=12)(B:i.Op=10->i.A<=f.Env.length)(hn:i.Op=9∨i.Op=12∨i.Op=19->l.length=1)
  (t:i.Op=9∨i.Op=10∨i.Op=11∨i.Op=12∨i.Op=19):Ev (λn=>F77 n (⟨c,dd⟩,w,a,left++[f],i,l,())) ((je w a (bA w a) (eX c w a left i f l),()),()):=by
 have C:=x.h;have E:=x.e;have F:=x.h';have e:=λ(n:Nat)g=>d70 (n:=n) (left:=left) (f:=g) (by omega);have on:=λ(n:Nat)g=>x.on (n:=n) g;have one:i.Op=9∨i.Op=12∨i.Op=19->∃v,l=[v]:=λh=>by
  have:=hn h
  match l,this with
  |[v],_=>exact⟨v,rfl⟩
 have m:JZ (⟨c,dd⟩,w,a,left++[f],i,l,())=(left.length:Int):=by unfold JZ;simp(disch:=omega)only[aT,H9]
 have o:jO (⟨c,dd⟩,w,a,left++[f],i,l,())=f:=by unfold jO;rw[m];exact hU _ _ _ _ rfl
 have p:DF (⟨c,dd⟩,w,a,left++[f],i,l,())=W:=by unfold DF;exact uQ.2 (by simp only[aq,lD,pF];omega)
 have r:DE (⟨c,dd⟩,w,a,left++[f],i,l,())=left:=by unfold DE;rw[m];exact jJ _ _ rfl
 have k:aI (left.length:Int) (left++[f])=W:=ie.2 (by simp;omega);unfold eX;obtain h|h|h|h|h:=t
 .obtain ⟨v,rfl⟩:=one (.inl h);simp[show i.Op.toNat=9 from cU Int.toNat h];refine bG λn=>?_;unfold F77 xg DG OQ;rw[m,o,p,r];simp(disch:=omega)only[aT,k,d124,e,on,kP]<;>rfl
 .have hA:=io.drop h;have I:=B h;simp[show i.Op.toNat=10 from cU Int.toNat h];have K:cG f.Env 0 ((f.Env.length:Int)-i.A)=f.Env.take (f.Env.length-i.A.toNat):=by rw[Ei,show((f.Env.length:Int)-i.A).toNat=f.Env.length-i.A.toNat by omega]
  refine bG λn=>?_;unfold F77 xg;rw[m,o,p,r];simp(disch:=omega) [aT,k,dh,K,e,on]<;>rfl
 .simp[show i.Op.toNat=11 from cU Int.toNat h];refine bG λn=>?_;unfold F77 Tn xg;rw[m,o,p,r];simp(disch:=omega) [aT,k,e,on]<;>rfl
 .obtain ⟨v,rfl⟩:=one (.inr (.inl h));simp only[show i.Op.toNat=12 from cU Int.toNat h];show Ev _ ((je _ _ _ (if v.Kind≠2 then _ else .go w (left++[⟨if v.N=0 then _ else _,_,_,_⟩]) Y),()),());refine bG λn=>?_;unfold F77 Zy Tn xg DG;rw[m,o,p,r];by_cases P:v.Kind=2
  .rw[bO (by omega)];by_cases z:v.N=0
   .simp (disch:=omega) [aT,k,e,on,kP,bB z]<;>rfl
   .simp (disch:=omega) [aT,k,e,on,kP,bO z]<;>rfl
  .rw[bB P];simp(disch:=omega) [aT,k,kP,d79 x.at_]<;>rfl
 .obtain ⟨v,rfl⟩:=one (.inr (.inr h));have hc:=io.AY h;have Q:=hl v eJ;have u:=ahT (c:=c) (dd:=dd) (w:=w) (iZ c i.A) (by omega) x.hw v Q 0
  let ⟨d,u⟩:=u
  have j:∀n,d<=n->F129 n (w,iZ c i.A,v,())=Z (Ik (jA w (iZ c i.A) v)):=u;unfold iZ at A;simp[show i.Op.toNat=19 from cU Int.toNat h];show Ev _ ((je _ _ _ (match jA w (iZ c i.A) v with|some b=>_|none=>.go w (left++[⟨_,_,f.Stack++[v],_⟩]) Y),()),());refine⟨d,λn s=>?_⟩;unfold F77 xg DG OQ;rw[m,o,p,r];cases y:jA w (iZ c i.A) v with|none=>rw[y]at j;simp(disch:=omega) [aT,k,kP,d124,e,on];exact(cU (λx=>ah x _) (j n s)).trans rfl|some b=>have R:=qO _ _ _ y;rw[y]at j;unfold iZ at R;simp(disch:=omega) [aT,k,kP,e,on];refine(cU (λx=>ah x _) (j n s)).trans ?_;show TL.aO (de f.Env b) _=_;rw[AX (by omega)];rfl
end
end
section
section
variable {n:Nat}{c:aA}{dd:List av}{w w':ak}{left fr:List ai}{f g:ai}{a op s form A B:Int}{v u:ax}{o:bx}{i:bN}{l:List ax}{m:Int}
theorem ae1{X R B P α:Type}(b:B)(r:R)(e:X->O α)(f:Nat->X->O α)(g:B->R->O α)(h:B->P->O α):ck (.ret b r) e f g h=g b r:=rfl
def aki(b:fr.length<=90)(a:fr≠[])(hs:∀g∈fr,g.Stack.length<=1000):F72 n (fr,v,())=Z ((kN fr v,()),()):=akh (left:=[]) (by simp) b a hs
def d81(x:Fx c dd w left f a)(d:cT c w.aS.length u)(hn:∀o,gQ w u 2=Z o->o.gu.length<=1000)
  (p:∀o,gQ w u 5=Z o->o.Frames≠[]∧o.Frames.length<=40∧∀g∈o.Frames,g.Stack.length<=1000):F81 n (⟨c,dd⟩,w,a,left++[f],u,())=Z ((je w a (bA w a) (By c w a left f u),()),()):=by
 let ⟨a1,a2,r,s⟩:=x.at_
 have t:=x.h;have ol:=x.hw.len;have tl:=x.hw.tl;have j:kA dU=dU:=rfl;have y:∀(q:L bx),bf .i64 ((((w.aS.length+(0+1):Nat)):Int)) 1=(w.aS.length:Int):=λq=>by rw[dh]<;>omega
 have k:=y [];have z:(left++[lR f (vJ w.aS.length)]).length=left.length+1:=by simp
 unfold F81 OL OM DD Hy ON Bj OO By;unfold bA at r s;cases e:gQ w u 5 with
 |some o=>
  let ⟨h1,h2,h3,h4,h5,h6⟩:=eE x.hw d e
  have i:jE c w u dU=Y:=by unfold jE gQ;rw[bO (by omega),<-h6,bO (by omega)]
  let ⟨l,A,m⟩:=p o e
  simp[i];split
  .simp (disch:=omega)only[aT,d127 (λh=>d.ref h),e,jo,d74,aki (v:=dU) (show o.Frames.length<=90 by omega) l m,aN,d83,ki,je,gJ,bA]
  .simp (disch:=first|omega|simp only[hJ];omega)only[aT,d127 (λh=>d.ref h),e,jo,d74,aki (v:=dU) (show o.Frames.length<=90 by omega) l m,aN,k,d126,x.PC,d83,Int.reduceEq,jS,j,je,fG,gJ,bA,Kr]<;>rfl
 |none=>
  cases i:jE c w u dU with
  |none=>simp(disch:=omega)only[aT,d127 (λh=>d.ref h),e,jo,d74,d128 (λh=>d.code h) (λh=>d.ref h) hn,i,frR,ae1,je,gJ,bA]<;>rfl|some b=>
   split
   .simp (disch:=omega)only[aT,d127 (λh=>d.ref h),e,jo,d74,d128 (λh=>d.code h) (λh=>d.ref h) hn,i,frR,aN,d83,ki,je,gJ,bA]
   .simp (disch:=first|omega|simp only[hJ];omega)only[aT,d127 (λh=>d.ref h),e,jo,d74,d128 (λh=>d.code h) (λh=>d.ref h) hn,i,frR,aN,k,d126,x.PC,d83,Int.reduceEq,jS,j,je,fG,gJ,bA,Kr]<;>rfl
end
end
section
def eB{α:Type}(x:O α):ah x (λh=>Z h)=x:=by cases x<;>rfl
section
variable {n:Nat}{c:aA}{dd:List av}{w w':ak}{left fr:List ai}{f g f0:ai}{a op s form A B:Int}{v u:ax}{o:bx}{i:bN}{l:List ax}{m:Int}
structure Dx(c:aA)(dd:List av)(w:ak)(left:List ai)(i:bN)(f f0:ai)(l:List ax)(m a:Int):Prop where
 sx:Sx c dd w left i f l m a
 at_:At w a
 hf:f=⟨f0.At+1,f0.Env,f0.Stack.take (f0.Stack.length-l.length),f0.dI⟩
 hl:l=f0.Stack.drop (f0.Stack.length-l.length)
 hi:i=aX c f0.At
 hle:l.length<=f0.Stack.length
 hm:f0.At=m
 hof:eu w (bA w a)=⟨6,0,[],left++[f0]⟩
def Dx.fx(x:Dx c dd w left i f f0 l m a):Fx c dd w left f a:=⟨x.at_,x.sx.cx.hp,x.sx.cx.hw,x.sx.cx.fl,x.sx.st.1,x.sx.st.2⟩
theorem Dx.kt(x:Dx c dd w left i f f0 l m a){u:ax}(b:cT c w.aS.length u):∀o,gQ w u 5=Z o->o.Frames≠[]∧o.Frames.length<=40∧∀g∈o.Frames,g.Stack.length<=1000:=by intro o d;obtain⟨h1,h2,_⟩:=eE x.sx.cx.hw b d;cases h2 with|Il p q r=>exact⟨by simp,by grind,λg e=>by have:=(SS x.sx (by omega) (q g e)).1;omega⟩|_=>cases h1
structure Dp(n:Nat)(c:aA)(dd:List av)(w:ak)(left:List ai)(i:bN)(f f0:ai)(l:List ax)(a:Int):Prop where
 b1:xh (⟨c,dd⟩,w,a,())=(bA w a).toNat
 b2:vF (⟨c,dd⟩,w,a,())=(left.length:Int)
 b3:mM (⟨c,dd⟩,w,a,())=f0
 b4:ek (⟨c,dd⟩,w,a,())=i
 d69:F69 n (⟨c,dd⟩,i,())=Z (((l.length:Int),()),())
 b5:Hz (⟨c,dd⟩,w,a,()) (((l.length:Int),()),())=((f0.Stack.length-l.length:Nat):Int)
 b8:lV (⟨c,dd⟩,w,a,()) (((l.length:Int),()),())=l
 b9:yT (⟨c,dd⟩,w,a,()) (((l.length:Int),()),())=eW l 0
 t1:aI a w.cq=W
 t2:aI (w.cq.getD a.toNat 0) w.aS=W
 o2:(w.aS.getD (bA w a).toNat bL).N=0
 o4:(w.aS.getD (bA w a).toNat bL).Frames=left++[f0]
 i2:aI (left.length:Int) (left++[f0])=W
 i3:aI f0.At c.dL=W
 k1:eK ((f0.Stack.length-l.length:Nat):Int) (aq f0.Stack) (aq f0.Stack)=W
 k2:eK 0 (left.length:Int) (aq (left++[f0]))=W
 k3:eK 0 ((f0.Stack.length-l.length:Nat):Int) (aq f0.Stack)=W
 s1:cG (left++[f0]) 0 (left.length:Int)=left
 s2:(⟨aG .i64 f0.At 1,f0.Env,cG f0.Stack 0 ((f0.Stack.length-l.length:Nat):Int),f0.dI⟩:ai)=f
 d70:F70 n (left,f,())=Z ((left++[f],()),())
theorem Dx.parts(x:Dx c dd w left i f f0 l m a):Dp n c dd w left i f f0 l a:=by
 have q:=x.sx.cx.fl;have r:=x.sx.st;have s:=x.sx.cx.n0;have t:=x.sx.cx.n1;have u:=x.sx.cx.hp.len;have v:=x.hle;have g:=x.sx.cx.ll;have A:=x.hm;have d:=x.at_;have fl:f.Stack.length=f0.Stack.length-l.length:=by rw[x.hf];simp
 have y:f0.Stack.length<=60:=by have:=x.sx.cx.sl;have:=(x.sx.cx.hp.dep.ok m x.sx.cx.n0 x.sx.cx.n1 x.sx.cx.re);omega
 have b:bn w.aS (bA w a).toNat bL=⟨6,0,[],left++[f0]⟩:=x.hof;have j:xh (⟨c,dd⟩,w,a,())=(bA w a).toNat:=rfl;have k:vF (⟨c,dd⟩,w,a,())=(left.length:Int):=by unfold vF;rw[j,b];show bf .i64 (((left++[f0]).length:Nat):Int) 1=_;rw[lD,pF,dh]<;>omega
 have e:mM (⟨c,dd⟩,w,a,())=f0:=by unfold mM;rw[k,j,b];exact hU _ _ _ _ (by simp[az])
 have z:ek (⟨c,dd⟩,w,a,())=i:=by unfold ek;rw[e,x.hi];rfl
 have o:Hz (⟨c,dd⟩,w,a,()) (((l.length:Int),()),())=((f0.Stack.length-l.length:Nat):Int):=by unfold Hz;rw[e];show bf .i64 ((f0.Stack.length:Nat):Int) (l.length:Int)=_;rw[dh]<;>omega
 have p:lV (⟨c,dd⟩,w,a,()) (((l.length:Int),()),())=l:=by unfold lV;rw[e,o];show cG f0.Stack _ ((f0.Stack.length:Nat):Int)=_;rw[Bx,vZ];exact x.hl.symm
 have io:=x.sx.cx.io;refine⟨j,k,e,z,?_,o,p,by unfold yT;rw[p];rfl,ie.2 ⟨d.lo,d.hi⟩,ie.2 ⟨d.tlo,d.thi⟩,by show(bn w.aS (bA w a).toNat bL).N=0;rw[b],by show(bn w.aS (bA w a).toNat bL).Frames=_;rw[b],ie.2 (by simp;omega),ie.2 (by omega),uQ.2 (by simp only[aq];omega),uQ.2 (by grind[aq,List.length_append,List.length_singleton]),
  uQ.2 (by simp only[aq];omega),jJ _ _ rfl,?_,d70 (by omega)⟩
 .rw[d69 io.lo io.hi (λh=>⟨(io.con h).1,(io.con h).2,(x.sx.cx.hp.cons _ (bV _ (by have:=io.con h;omega))).1⟩),g]
 .rw[x.hf,Ei,vZ,ct (by omega) (by omega)]
abbrev D37(c:aA)(dd:L av)(w:ak)(left:L ai)(i:bN)(f:ai)(l:L ax)(a:Int):Prop:=Ev (λn=>F37 n (⟨c,dd⟩,w,a,())) ((je w a (bA w a) (eX c w a left i f l),()),())
def q1(x:Dx c dd w left i f f0 l m a)(h:i.Op=1):D37 c dd w left i f l a:=by have io:=x.sx.cx.io;have nd:=x.sx.cx.nd;have fx:=x.fx;have b:=fx.h;have d:=fx.h';have e:=fx.e;have j:=x.sx.cx.hw.len;have on:=λ(n:Nat)g=>fx.on (n:=n) g;unfold D37 eX;simp only[show i.Op.toNat=1 from cU Int.toNat h];refine bG λn=>?_;have p:=x.parts (n:=n);unfold F37 gk fR ef er ee ep dS;simp only[p.b1,p.b2,p.b3,p.b4];simp(disch:=omega)only[aT,h,p.t1,p.t2,p.o2,p.o4,p.i2,p.i3,p.d69,p.b5,p.b8,p.b9,p.k1,p.k2,p.k3,p.s1,p.s2,p.d70,aN,d43,fx.PC,on]<;>rfl
def q2(x:Dx c dd w left i f f0 l m a)(h:i.Op=2):D37 c dd w left i f l a:=by have io:=x.sx.cx.io;have nd:=x.sx.cx.nd;have fx:=x.fx;have b:=fx.h;have d:=fx.h';have e:=fx.e;have j:=x.sx.cx.hw.len;have on:=λ(n:Nat)g=>fx.on (n:=n) g;unfold D37 eX;simp only[show i.Op.toNat=2 from cU Int.toNat h];refine bG λn=>?_;have p:=x.parts (n:=n);unfold F37 gk fR ef er ee ep dS;simp only[p.b1,p.b2,p.b3,p.b4];simp(disch:=omega)only[aT,h,p.t1,p.t2,p.o2,p.o4,p.i2,p.i3,p.d69,p.b5,p.b8,p.b9,p.k1,p.k2,p.k3,p.s1,p.s2,p.d70,aN,akg,fx.PC,on]<;>rfl
def q3(x:Dx c dd w left i f f0 l m a)(h:i.Op=3):D37 c dd w left i f l a:=by have io:=x.sx.cx.io;have nd:=x.sx.cx.nd;have fx:=x.fx;have b:=fx.h;have d:=fx.h';have e:=fx.e;have j:=x.sx.cx.hw.len;have on:=λ(n:Nat)g=>fx.on (n:=n) g;unfold D37 eX;simp only[show i.Op.toNat=3 from cU Int.toNat h];refine bG λn=>?_;have p:=x.parts (n:=n);unfold F37 gk fR ef er ee ep dS;simp only[p.b1,p.b2,p.b3,p.b4];simp(disch:=omega)only[aT,h,p.t1,p.t2,p.o2,p.o4,p.i2,p.i3,p.d69,p.b5,p.b8,p.b9,p.k1,p.k2,p.k3,p.s1,p.s2,p.d70,aN,d74,fx.PC,on]<;>rfl
def q4(x:Dx c dd w left i f f0 l m a)(h:i.Op=4):D37 c dd w left i f l a:=by
 have io:=x.sx.cx.io;have nd:=x.sx.cx.nd;have fx:=x.fx;have e:=fx.h;have j:=fx.h';have k:=fx.e;have o:=x.sx.cx.hw.len;have on:=λ(n:Nat)g=>fx.on (n:=n) g;unfold D37 eX;simp only[show i.Op.toNat=4 from cU Int.toNat h];have s:=io.place h;have q:=nd.2.1 h;have d:f.Env=f0.Env:=by rw[x.hf]
 have b:=x.sx.cx.el;rw[d]at b;have r:aI i.A f0.Env=W:=ie.2 (by omega);rw[d];refine bG λn=>?_;have p:=x.parts (n:=n);unfold F37 gk fR ef er ee ep dS;simp only[p.b1,p.b2,p.b3,p.b4];simp(disch:=omega)only[aT,h,p.t1,p.t2,p.o2,p.o4,p.i2,p.i3,p.d69,p.b5,p.b8,p.b9,p.k1,p.k2,p.k3,p.s1,p.s2,p.d70,aN,r,fx.PC,on]<;>rfl
def q5(x:Dx c dd w left i f f0 l m a)(h:i.Op=5):D37 c dd w left i f l a:=by have io:=x.sx.cx.io;have nd:=x.sx.cx.nd;have fx:=x.fx;have b:=fx.h;have d:=fx.h';have e:=fx.e;have j:=x.sx.cx.hw.len;have on:=λ(n:Nat)g=>fx.on (n:=n) g;unfold D37 eX;simp only[show i.Op.toNat=5 from cU Int.toNat h];refine bG λn=>?_;have p:=x.parts (n:=n);unfold F37 gk fR ef er ee ep dS;simp only[p.b1,p.b2,p.b3,p.b4];simp(disch:=omega)only[aT,h,p.t1,p.t2,p.o2,p.o4,p.i2,p.i3,p.d69,p.b5,p.b8,p.b9,p.k1,p.k2,p.k3,p.s1,p.s2,p.d70,aN,fx.PC,on]<;>rfl
def q6(x:Dx c dd w left i f f0 l m a)(h:i.Op=6):D37 c dd w left i f l a:=by
 have io:=x.sx.cx.io;have nd:=x.sx.cx.nd;have fx:=x.fx;have b:=fx.h;have d:=fx.h';have e:=fx.e;have j:=x.sx.cx.hw.len;have on:=λ(n:Nat)g=>fx.on (n:=n) g;unfold D37 eX;simp only[show i.Op.toNat=6 from cU Int.toNat h];have k:f.Env=f0.Env:=by rw[x.hf]
 rw[k];refine bG λn=>?_;have p:=x.parts (n:=n);unfold F37 gk fR ef er ee ep dS;simp only[p.b1,p.b2,p.b3,p.b4];simp(disch:=omega)only[aT,h,p.t1,p.t2,p.o2,p.o4,p.i2,p.i3,p.d69,p.b5,p.b8,p.b9,p.k1,p.k2,p.k3,p.s1,p.s2,p.d70,aN,d75 fx.at_ (show w.aS.length<=1000 by omega) fx.h (show f.Stack.length<=900 by omega)]<;>rfl
end
end
section
section
variable {n:Nat}{c:aA}{dd:List av}{w w':ak}{left fr:List ai}{f g f0:ai}{a op s form A B:Int}{v u:ax}{o:bx}{i:bN}{l:List ax}{m:Int}
def q7(x:Dx c dd w left i f f0 l m a)(h:i.Op=7):D37 c dd w left i f l a:=by have io:=x.sx.cx.io;have nd:=x.sx.cx.nd;have fx:=x.fx;have e:=fx.h;have j:=fx.h';have k:=fx.e;have o:=x.sx.cx.hw.len;have on:=λ(n:Nat)g=>fx.on (n:=n) g;unfold D37 eX;simp only[show i.Op.toNat=7 from cU Int.toNat h];obtain⟨u,v,b,d,q⟩:=x.sx.two h (by decide) rfl;refine bG λn=>?_;have p:=x.parts (n:=n);unfold F37 gk fR ef er ee ep dS;simp only[p.b1,p.b2,p.b3,p.b4];simp(disch:=omega)only[aT,h,p.t1,p.t2,p.o2,p.o4,p.i2,p.i3,p.d69,p.b5,p.b8,p.b9,p.k1,p.k2,p.k3,p.s1,p.s2,p.d70,aN];clear p;subst b;simp(disch:=first|omega|simp only[hJ];omega)only[aT,aN,kP,Ks,eW,d76 (v:=v) (r:=J) (left:=left++[f]) fx.at_ fx.hp fx.hw d (l8 x.sx d) (x.kt d) (by simp;omega)]<;>rfl
def q8(x:Dx c dd w left i f f0 l m a)(h:i.Op=8):D37 c dd w left i f l a:=by
 have io:=x.sx.cx.io;have nd:=x.sx.cx.nd;have fx:=x.fx;have e:=fx.h;have j:=fx.h';have k:=fx.e;have o:=x.sx.cx.hw.len;have on:=λ(n:Nat)g=>fx.on (n:=n) g;unfold D37 eX;simp only[show i.Op.toNat=8 from cU Int.toNat h];obtain⟨u,v,b,d,s⟩:=x.sx.two h (by decide) rfl;have q:f.dI=f0.dI:=by rw[x.hf]
 rw[q];have r:cG (left++[f]) 0 (left.length:Int)=left:=jJ _ _ rfl;refine bG λn=>?_;have p:=x.parts (n:=n);unfold F37 gk fR ef er ee ep dS;simp only[p.b1,p.b2,p.b3,p.b4];simp(disch:=omega)only[aT,h,p.t1,p.t2,p.o2,p.o4,p.i2,p.i3,p.d69,p.b5,p.b8,p.b9,p.k1,p.k2,p.k3,p.s1,p.s2,p.d70,aN];clear p;subst b;simp(disch:=first|omega|simp only[hJ];omega)only[aT,aN,kP,Ks,eW,r,d76 (v:=v) (left:=left) fx.at_ fx.hp fx.hw d (l8 x.sx d) (x.kt d) (by omega)]<;>rfl
def q9(x:Dx c dd w left i f f0 l m a)(h:i.Op=9):D37 c dd w left i f l a:=by
 have io:=x.sx.cx.io;have nd:=x.sx.cx.nd;have fx:=x.fx;have d:=fx.h;have e:=fx.h';have j:=fx.e;have k:=x.sx.cx.hw.len;have on:=λ(n:Nat)g=>fx.on (n:=n) g;unfold D37 eX;simp only[show i.Op.toNat=9 from cU Int.toNat h];have b:=d77 fx (i:=i) (l:=l) (by have:=fx.hp.pl;omega) io x.sx.cx.vals (λh=>(fx.hp.pats _ (bV _ (by omega))).2) (λh=>by omega)
  (λh=>by obtain h|h|h:=h<;>exact x.sx.cx.tl h (by decide)) (by omega)
 unfold eX at b;simp only[show i.Op.toNat=9 from cU Int.toNat h]at b;refine Ev.vQ (g:=λn=>F77 n (⟨c,dd⟩,w,a,left++[f],i,l,())) (λn=>?_) b;have p:=x.parts (n:=n);unfold F37 gk fR ef er ee ep dS;simp only[p.b1,p.b2,p.b3,p.b4];simp(disch:=omega)only[aT,h,p.t1,p.t2,p.o2,p.o4,p.i2,p.i3,p.d69,p.b5,p.b8,p.b9,p.k1,p.k2,p.k3,p.s1,p.s2,p.d70,aN];exact eB _
def q10(x:Dx c dd w left i f f0 l m a)(h:i.Op=10):D37 c dd w left i f l a:=by
 have io:=x.sx.cx.io;have nd:=x.sx.cx.nd;have fx:=x.fx;have d:=fx.h;have e:=fx.h';have j:=fx.e;have k:=x.sx.cx.hw.len;have on:=λ(n:Nat)g=>fx.on (n:=n) g;unfold D37 eX;simp only[show i.Op.toNat=10 from cU Int.toNat h];have b:=d77 fx (i:=i) (l:=l) (by have:=fx.hp.pl;omega) io x.sx.cx.vals (λh=>(fx.hp.pats _ (bV _ (by omega))).2) (λh=>by have:=nd.2.2.1 h;have:=x.sx.cx.el;omega)
  (λh=>by obtain h|h|h:=h<;>exact x.sx.cx.tl h (by decide)) (by omega)
 unfold eX at b;simp only[show i.Op.toNat=10 from cU Int.toNat h]at b;refine Ev.vQ (g:=λn=>F77 n (⟨c,dd⟩,w,a,left++[f],i,l,())) (λn=>?_) b;have p:=x.parts (n:=n);unfold F37 gk fR ef er ee ep dS;simp only[p.b1,p.b2,p.b3,p.b4];simp(disch:=omega)only[aT,h,p.t1,p.t2,p.o2,p.o4,p.i2,p.i3,p.d69,p.b5,p.b8,p.b9,p.k1,p.k2,p.k3,p.s1,p.s2,p.d70,aN];exact eB _
def q11(x:Dx c dd w left i f f0 l m a)(h:i.Op=11):D37 c dd w left i f l a:=by
 have io:=x.sx.cx.io;have nd:=x.sx.cx.nd;have fx:=x.fx;have d:=fx.h;have e:=fx.h';have j:=fx.e;have k:=x.sx.cx.hw.len;have on:=λ(n:Nat)g=>fx.on (n:=n) g;unfold D37 eX;simp only[show i.Op.toNat=11 from cU Int.toNat h];have b:=d77 fx (i:=i) (l:=l) (by have:=fx.hp.pl;omega) io x.sx.cx.vals (λh=>(fx.hp.pats _ (bV _ (by omega))).2) (λh=>by omega)
  (λh=>by obtain h|h|h:=h<;>exact x.sx.cx.tl h (by decide)) (by omega)
 unfold eX at b;simp only[show i.Op.toNat=11 from cU Int.toNat h]at b;refine Ev.vQ (g:=λn=>F77 n (⟨c,dd⟩,w,a,left++[f],i,l,())) (λn=>?_) b;have p:=x.parts (n:=n);unfold F37 gk fR ef er ee ep dS;simp only[p.b1,p.b2,p.b3,p.b4];simp(disch:=omega)only[aT,h,p.t1,p.t2,p.o2,p.o4,p.i2,p.i3,p.d69,p.b5,p.b8,p.b9,p.k1,p.k2,p.k3,p.s1,p.s2,p.d70,aN];exact eB _
def q12(x:Dx c dd w left i f f0 l m a)(h:i.Op=12):D37 c dd w left i f l a:=by
 have io:=x.sx.cx.io;have nd:=x.sx.cx.nd;have fx:=x.fx;have d:=fx.h;have e:=fx.h';have j:=fx.e;have k:=x.sx.cx.hw.len;have on:=λ(n:Nat)g=>fx.on (n:=n) g;unfold D37 eX;simp only[show i.Op.toNat=12 from cU Int.toNat h];have b:=d77 fx (i:=i) (l:=l) (by have:=fx.hp.pl;omega) io x.sx.cx.vals (λh=>(fx.hp.pats _ (bV _ (by omega))).2) (λh=>by omega)
  (λh=>by obtain h|h|h:=h<;>exact x.sx.cx.tl h (by decide)) (by omega)
 unfold eX at b;simp only[show i.Op.toNat=12 from cU Int.toNat h]at b;refine Ev.vQ (g:=λn=>F77 n (⟨c,dd⟩,w,a,left++[f],i,l,())) (λn=>?_) b;have p:=x.parts (n:=n);unfold F37 gk fR ef er ee ep dS;simp only[p.b1,p.b2,p.b3,p.b4];simp(disch:=omega)only[aT,h,p.t1,p.t2,p.o2,p.o4,p.i2,p.i3,p.d69,p.b5,p.b8,p.b9,p.k1,p.k2,p.k3,p.s1,p.s2,p.d70,aN];exact eB _
def q13(x:Dx c dd w left i f f0 l m a)(h:i.Op=13):D37 c dd w left i f l a:=by have io:=x.sx.cx.io;have nd:=x.sx.cx.nd;have fx:=x.fx;have e:=fx.h;have j:=fx.h';have k:=fx.e;have o:=x.sx.cx.hw.len;have on:=λ(n:Nat)g=>fx.on (n:=n) g;unfold D37 eX;simp only[show i.Op.toNat=13 from cU Int.toNat h];obtain⟨u,v,d,q,r⟩:=x.sx.two h (by decide) rfl;have b:=λn=>d78 (n:=n) (left:=left) (f:=f) (op:=i.Op) fx.at_ (.inl h) q r fx.h (by omega);rw[h]at b;rw[h];refine bG λn=>?_;have p:=x.parts (n:=n);unfold F37 gk fR ef er ee ep dS;simp only[p.b1,p.b2,p.b3,p.b4];simp(disch:=omega)only[aT,h,p.t1,p.t2,p.o2,p.o4,p.i2,p.i3,p.d69,p.b5,p.b8,p.b9,p.k1,p.k2,p.k3,p.s1,p.s2,p.d70,aN];clear p;subst d;simp(disch:=first|omega|simp only[hJ];omega)only[aT,aN,kP,Ks,eW,b]<;>rfl
end
end
section
section
variable {n:Nat}{c:aA}{dd:List av}{w w':ak}{left fr:List ai}{f g f0:ai}{a op s form A B:Int}{v u:ax}{o:bx}{i:bN}{l:List ax}{m:Int}
def q14(x:Dx c dd w left i f f0 l m a)(h:i.Op=14):D37 c dd w left i f l a:=by have io:=x.sx.cx.io;have nd:=x.sx.cx.nd;have fx:=x.fx;have e:=fx.h;have j:=fx.h';have k:=fx.e;have o:=x.sx.cx.hw.len;have on:=λ(n:Nat)g=>fx.on (n:=n) g;unfold D37 eX;simp only[show i.Op.toNat=14 from cU Int.toNat h];obtain⟨u,v,d,q,r⟩:=x.sx.two h (by decide) rfl;have b:=λn=>d78 (n:=n) (left:=left) (f:=f) (op:=i.Op) fx.at_ (.inr (.inl h)) q r fx.h (by omega);rw[h]at b;rw[h];refine bG λn=>?_;have p:=x.parts (n:=n);unfold F37 gk fR ef er ee ep dS;simp only[p.b1,p.b2,p.b3,p.b4];simp(disch:=omega)only[aT,h,p.t1,p.t2,p.o2,p.o4,p.i2,p.i3,p.d69,p.b5,p.b8,p.b9,p.k1,p.k2,p.k3,p.s1,p.s2,p.d70,aN];clear p;subst d;simp(disch:=first|omega|simp only[hJ];omega)only[aT,aN,kP,Ks,eW,b]<;>rfl
def q15(x:Dx c dd w left i f f0 l m a)(h:i.Op=15):D37 c dd w left i f l a:=by have io:=x.sx.cx.io;have nd:=x.sx.cx.nd;have fx:=x.fx;have e:=fx.h;have j:=fx.h';have k:=fx.e;have o:=x.sx.cx.hw.len;have on:=λ(n:Nat)g=>fx.on (n:=n) g;unfold D37 eX;simp only[show i.Op.toNat=15 from cU Int.toNat h];obtain⟨u,v,d,q,r⟩:=x.sx.two h (by decide) rfl;have b:=λn=>d78 (n:=n) (left:=left) (f:=f) (op:=i.Op) fx.at_ (.inr (.inr (.inl h))) q r fx.h (by omega);rw[h]at b;rw[h];refine bG λn=>?_;have p:=x.parts (n:=n);unfold F37 gk fR ef er ee ep dS;simp only[p.b1,p.b2,p.b3,p.b4];simp(disch:=omega)only[aT,h,p.t1,p.t2,p.o2,p.o4,p.i2,p.i3,p.d69,p.b5,p.b8,p.b9,p.k1,p.k2,p.k3,p.s1,p.s2,p.d70,aN];clear p;subst d;simp(disch:=first|omega|simp only[hJ];omega)only[aT,aN,kP,Ks,eW,b]<;>rfl
def q16(x:Dx c dd w left i f f0 l m a)(h:i.Op=16):D37 c dd w left i f l a:=by have io:=x.sx.cx.io;have nd:=x.sx.cx.nd;have fx:=x.fx;have e:=fx.h;have j:=fx.h';have k:=fx.e;have o:=x.sx.cx.hw.len;have on:=λ(n:Nat)g=>fx.on (n:=n) g;unfold D37 eX;simp only[show i.Op.toNat=16 from cU Int.toNat h];obtain⟨u,v,d,q,r⟩:=x.sx.two h (by decide) rfl;have b:=λn=>d78 (n:=n) (left:=left) (f:=f) (op:=i.Op) fx.at_ (.inr (.inr (.inr (.inl h)))) q r fx.h (by omega);rw[h]at b;rw[h];refine bG λn=>?_;have p:=x.parts (n:=n);unfold F37 gk fR ef er ee ep dS;simp only[p.b1,p.b2,p.b3,p.b4];simp(disch:=omega)only[aT,h,p.t1,p.t2,p.o2,p.o4,p.i2,p.i3,p.d69,p.b5,p.b8,p.b9,p.k1,p.k2,p.k3,p.s1,p.s2,p.d70,aN];clear p;subst d;simp(disch:=first|omega|simp only[hJ];omega)only[aT,aN,kP,Ks,eW,b]<;>rfl
def q17(x:Dx c dd w left i f f0 l m a)(h:i.Op=17):D37 c dd w left i f l a:=by have io:=x.sx.cx.io;have nd:=x.sx.cx.nd;have fx:=x.fx;have e:=fx.h;have j:=fx.h';have k:=fx.e;have o:=x.sx.cx.hw.len;have on:=λ(n:Nat)g=>fx.on (n:=n) g;unfold D37 eX;simp only[show i.Op.toNat=17 from cU Int.toNat h];obtain⟨u,v,d,q,r⟩:=x.sx.two h (by decide) rfl;have b:=λn=>d78 (n:=n) (left:=left) (f:=f) (op:=i.Op) fx.at_ (.inr (.inr (.inr (.inr h)))) q r fx.h (by omega);rw[h]at b;rw[h];refine bG λn=>?_;have p:=x.parts (n:=n);unfold F37 gk fR ef er ee ep dS;simp only[p.b1,p.b2,p.b3,p.b4];simp(disch:=omega)only[aT,h,p.t1,p.t2,p.o2,p.o4,p.i2,p.i3,p.d69,p.b5,p.b8,p.b9,p.k1,p.k2,p.k3,p.s1,p.s2,p.d70,aN];clear p;subst d;simp(disch:=first|omega|simp only[hJ];omega)only[aT,aN,kP,Ks,eW,b]<;>rfl
def q18(x:Dx c dd w left i f f0 l m a)(h:i.Op=18):D37 c dd w left i f l a:=by have io:=x.sx.cx.io;have nd:=x.sx.cx.nd;have fx:=x.fx;have b:=fx.h;have d:=fx.h';have e:=fx.e;have j:=x.sx.cx.hw.len;have on:=λ(n:Nat)g=>fx.on (n:=n) g;unfold D37 eX;simp only[show i.Op.toNat=18 from cU Int.toNat h];refine bG λn=>?_;have p:=x.parts (n:=n);unfold F37 gk fR ef er ee ep dS;simp only[p.b1,p.b2,p.b3,p.b4];simp(disch:=omega)only[aT,h,p.t1,p.t2,p.o2,p.o4,p.i2,p.i3,p.d69,p.b5,p.b8,p.b9,p.k1,p.k2,p.k3,p.s1,p.s2,p.d70,aN,d75 fx.at_ (show w.aS.length<=1000 by omega) fx.h (show f.Stack.length<=900 by omega)]<;>rfl
def q19(x:Dx c dd w left i f f0 l m a)(h:i.Op=19):D37 c dd w left i f l a:=by
 have io:=x.sx.cx.io;have nd:=x.sx.cx.nd;have fx:=x.fx;have d:=fx.h;have e:=fx.h';have j:=fx.e;have k:=x.sx.cx.hw.len;have on:=λ(n:Nat)g=>fx.on (n:=n) g;unfold D37 eX;simp only[show i.Op.toNat=19 from cU Int.toNat h];have b:=d77 fx (i:=i) (l:=l) (by have:=fx.hp.pl;omega) io x.sx.cx.vals (λh=>(fx.hp.pats _ (bV _ (by have:=io.AY h;omega))).2) (λh=>by omega)
  (λh=>by obtain h|h|h:=h<;>exact x.sx.cx.tl h (by decide)) (by omega)
 unfold eX at b;simp only[show i.Op.toNat=19 from cU Int.toNat h]at b;refine Ev.vQ (g:=λn=>F77 n (⟨c,dd⟩,w,a,left++[f],i,l,())) (λn=>?_) b;have p:=x.parts (n:=n);unfold F37 gk fR ef er ee ep dS;simp only[p.b1,p.b2,p.b3,p.b4];simp(disch:=omega)only[aT,h,p.t1,p.t2,p.o2,p.o4,p.i2,p.i3,p.d69,p.b5,p.b8,p.b9,p.k1,p.k2,p.k3,p.s1,p.s2,p.d70,aN];exact eB _
def q20(x:Dx c dd w left i f f0 l m a)(h:i.Op=20):D37 c dd w left i f l a:=by have io:=x.sx.cx.io;have nd:=x.sx.cx.nd;have fx:=x.fx;have b:=fx.h;have d:=fx.h';have e:=fx.e;have j:=x.sx.cx.hw.len;have on:=λ(n:Nat)g=>fx.on (n:=n) g;unfold D37 eX;simp only[show i.Op.toNat=20 from cU Int.toNat h];refine bG λn=>?_;have p:=x.parts (n:=n);unfold F37 gk fR ef er ee ep dS;simp only[p.b1,p.b2,p.b3,p.b4];simp(disch:=omega)only[aT,h,p.t1,p.t2,p.o2,p.o4,p.i2,p.i3,p.d69,p.b5,p.b8,p.b9,p.k1,p.k2,p.k3,p.s1,p.s2,p.d70,aN,d79 fx.at_]<;>rfl
def q21(x:Dx c dd w left i f f0 l m a)(h:i.Op=21):D37 c dd w left i f l a:=by have io:=x.sx.cx.io;have nd:=x.sx.cx.nd;have fx:=x.fx;have d:=fx.h;have e:=fx.h';have j:=fx.e;have k:=x.sx.cx.hw.len;have on:=λ(n:Nat)g=>fx.on (n:=n) g;unfold D37 eX;simp only[show i.Op.toNat=21 from cU Int.toNat h];obtain⟨v,b,o⟩:=x.sx.one h (by decide) rfl;refine bG λn=>?_;have p:=x.parts (n:=n);unfold F37 gk fR ef er ee ep dS;simp only[p.b1,p.b2,p.b3,p.b4];simp(disch:=omega)only[aT,h,p.t1,p.t2,p.o2,p.o4,p.i2,p.i3,p.d69,p.b5,p.b8,p.b9,p.k1,p.k2,p.k3,p.s1,p.s2,p.d70,aN];clear p;subst b;simp only[aT,aN,aq1 fx rfl]<;>rfl
def q22(x:Dx c dd w left i f f0 l m a)(h:i.Op=22):D37 c dd w left i f l a:=by have io:=x.sx.cx.io;have nd:=x.sx.cx.nd;have fx:=x.fx;have d:=fx.h;have e:=fx.h';have j:=fx.e;have k:=x.sx.cx.hw.len;have on:=λ(n:Nat)g=>fx.on (n:=n) g;unfold D37 eX;simp only[show i.Op.toNat=22 from cU Int.toNat h];obtain⟨v,b,o⟩:=x.sx.one h (by decide) rfl;refine bG λn=>?_;have p:=x.parts (n:=n);unfold F37 gk fR ef er ee ep dS;simp only[p.b1,p.b2,p.b3,p.b4];simp(disch:=omega)only[aT,h,p.t1,p.t2,p.o2,p.o4,p.i2,p.i3,p.d69,p.b5,p.b8,p.b9,p.k1,p.k2,p.k3,p.s1,p.s2,p.d70,aN];clear p;subst b;simp only[aT,aN,aq0 fx rfl o]<;>rfl
def q23(x:Dx c dd w left i f f0 l m a)(h:i.Op=23):D37 c dd w left i f l a:=by have io:=x.sx.cx.io;have nd:=x.sx.cx.nd;have fx:=x.fx;have d:=fx.h;have e:=fx.h';have j:=fx.e;have k:=x.sx.cx.hw.len;have on:=λ(n:Nat)g=>fx.on (n:=n) g;unfold D37 eX;simp only[show i.Op.toNat=23 from cU Int.toNat h];obtain⟨u,v,b,o,q⟩:=x.sx.two h (by decide) rfl;refine bG λn=>?_;have p:=x.parts (n:=n);unfold F37 gk fR ef er ee ep dS;simp only[p.b1,p.b2,p.b3,p.b4];simp(disch:=omega)only[aT,h,p.t1,p.t2,p.o2,p.o4,p.i2,p.i3,p.d69,p.b5,p.b8,p.b9,p.k1,p.k2,p.k3,p.s1,p.s2,p.d70,aN];clear p;subst b;simp only[aT,aN,aqZ fx rfl o]<;>rfl
end
end
section
section
variable {n:Nat}{c:aA}{dd:List av}{w w':ak}{left fr:List ai}{f g f0:ai}{a op s form A B:Int}{v u:ax}{o:bx}{i:bN}{l:List ax}{m:Int}
def q24(x:Dx c dd w left i f f0 l m a)(h:i.Op=24):D37 c dd w left i f l a:=by have io:=x.sx.cx.io;have nd:=x.sx.cx.nd;have fx:=x.fx;have e:=fx.h;have j:=fx.h';have k:=fx.e;have o:=x.sx.cx.hw.len;have on:=λ(n:Nat)g=>fx.on (n:=n) g;unfold D37 eX;simp only[show i.Op.toNat=24 from cU Int.toNat h];obtain⟨v,b,d⟩:=x.sx.one h (by decide) rfl;refine bG λn=>?_;have p:=x.parts (n:=n);unfold F37 gk fR ef er ee ep dS;simp only[p.b1,p.b2,p.b3,p.b4];simp(disch:=omega)only[aT,h,p.t1,p.t2,p.o2,p.o4,p.i2,p.i3,p.d69,p.b5,p.b8,p.b9,p.k1,p.k2,p.k3,p.s1,p.s2,p.d70,aN];clear p;subst b;simp(disch:=first|omega|simp only[hJ];omega)only[aT,aN,kP,eW,d81 fx d (l8 x.sx d) (x.kt d)]<;>rfl
def q25(x:Dx c dd w left i f f0 l m a)(h:i.Op=25):D37 c dd w left i f l a:=by have io:=x.sx.cx.io;have nd:=x.sx.cx.nd;have fx:=x.fx;have d:=fx.h;have e:=fx.h';have j:=fx.e;have k:=x.sx.cx.hw.len;have on:=λ(n:Nat)g=>fx.on (n:=n) g;unfold D37 eX;simp only[show i.Op.toNat=25 from cU Int.toNat h];obtain⟨v,b,o⟩:=x.sx.one h (by decide) rfl;refine bG λn=>?_;have p:=x.parts (n:=n);unfold F37 gk fR ef er ee ep dS;simp only[p.b1,p.b2,p.b3,p.b4];simp(disch:=omega)only[aT,h,p.t1,p.t2,p.o2,p.o4,p.i2,p.i3,p.d69,p.b5,p.b8,p.b9,p.k1,p.k2,p.k3,p.s1,p.s2,p.d70,aN];clear p;subst b;simp(disch:=first|omega|simp only[hJ];omega)only[aT,aN,kP,eW,d82 fx o]<;>rfl
def q26(x:Dx c dd w left i f f0 l m a)(h:i.Op=26):D37 c dd w left i f l a:=by have io:=x.sx.cx.io;have nd:=x.sx.cx.nd;have fx:=x.fx;have b:=fx.h;have d:=fx.h';have e:=fx.e;have j:=x.sx.cx.hw.len;have on:=λ(n:Nat)g=>fx.on (n:=n) g;unfold D37 eX;simp only[show i.Op.toNat=26 from cU Int.toNat h];have k:kA dU=dU:=rfl;unfold oq;refine bG λn=>?_;have p:=x.parts (n:=n);unfold F37 gk fR ef er ee ep dS;simp only[p.b1,p.b2,p.b3,p.b4];simp(disch:=omega)only[aT,h,p.t1,p.t2,p.o2,p.o4,p.i2,p.i3,p.d69,p.b5,p.b8,p.b9,p.k1,p.k2,p.k3,p.s1,p.s2,p.d70,aN,d75 fx.at_ (show w.aS.length<=1000 by omega) fx.h (show f.Stack.length<=900 by omega),d74,d83]<;>(unfold oq;split<;>simp[je,fG,k,eB])
def q27(x:Dx c dd w left i f f0 l m a)(h:i.Op=27):D37 c dd w left i f l a:=by have io:=x.sx.cx.io;have nd:=x.sx.cx.nd;have fx:=x.fx;have d:=fx.h;have e:=fx.h';have j:=fx.e;have k:=x.sx.cx.hw.len;have on:=λ(n:Nat)g=>fx.on (n:=n) g;unfold D37 eX;simp only[show i.Op.toNat=27 from cU Int.toNat h];obtain⟨u,v,b,o,q⟩:=x.sx.two h (by decide) rfl;refine bG λn=>?_;have p:=x.parts (n:=n);unfold F37 gk fR ef er ee ep dS;simp only[p.b1,p.b2,p.b3,p.b4];simp(disch:=omega)only[aT,h,p.t1,p.t2,p.o2,p.o4,p.i2,p.i3,p.d69,p.b5,p.b8,p.b9,p.k1,p.k2,p.k3,p.s1,p.s2,p.d70,aN];clear p;subst b;simp only[aT,aN,aqY fx rfl o]<;>rfl
def q28(x:Dx c dd w left i f f0 l m a)(h:i.Op=28):D37 c dd w left i f l a:=by have io:=x.sx.cx.io;have nd:=x.sx.cx.nd;have fx:=x.fx;have d:=fx.h;have e:=fx.h';have j:=fx.e;have k:=x.sx.cx.hw.len;have on:=λ(n:Nat)g=>fx.on (n:=n) g;unfold D37 eX;simp only[show i.Op.toNat=28 from cU Int.toNat h];obtain⟨v,b,o⟩:=x.sx.one h (by decide) rfl;refine bG λn=>?_;have p:=x.parts (n:=n);unfold F37 gk fR ef er ee ep dS;simp only[p.b1,p.b2,p.b3,p.b4];simp(disch:=omega)only[aT,h,p.t1,p.t2,p.o2,p.o4,p.i2,p.i3,p.d69,p.b5,p.b8,p.b9,p.k1,p.k2,p.k3,p.s1,p.s2,p.d70,aN];clear p;subst b;simp only[aT,aN,aqX fx rfl o]<;>rfl
def q29(x:Dx c dd w left i f f0 l m a)(h:i.Op=29):D37 c dd w left i f l a:=by have io:=x.sx.cx.io;have nd:=x.sx.cx.nd;have fx:=x.fx;have d:=fx.h;have e:=fx.h';have j:=fx.e;have k:=x.sx.cx.hw.len;have on:=λ(n:Nat)g=>fx.on (n:=n) g;unfold D37 eX;simp only[show i.Op.toNat=29 from cU Int.toNat h];obtain⟨v,b,o⟩:=x.sx.one h (by decide) rfl;obtain⟨q,r,s⟩:=i;dsimp only at h;subst h;refine bG λn=>?_;have p:=x.parts (n:=n);unfold F37 gk fR ef er ee ep dS;simp only[p.b1,p.b2,p.b3,p.b4];simp(disch:=omega)only[aT,p.t1,p.t2,p.o2,p.o4,p.i2,p.i3,p.d69,p.b5,p.b8,p.b9,p.k1,p.k2,p.k3,p.s1,p.s2,p.d70,aN];clear p;subst b;simp only[aT,aN,aqV fx rfl]<;>rfl
def q30(x:Dx c dd w left i f f0 l m a)(h:i.Op=30):D37 c dd w left i f l a:=by have io:=x.sx.cx.io;have nd:=x.sx.cx.nd;have fx:=x.fx;have b:=fx.h;have d:=fx.h';have e:=fx.e;have j:=x.sx.cx.hw.len;have on:=λ(n:Nat)g=>fx.on (n:=n) g;unfold D37 eX;simp only[show i.Op.toNat=30 from cU Int.toNat h];obtain⟨k,o,q⟩:=i;dsimp only at h;subst h;refine bG λn=>?_;have p:=x.parts (n:=n);unfold F37 gk fR ef er ee ep dS;simp only[p.b1,p.b2,p.b3,p.b4];simp(disch:=omega)only[aT,p.t1,p.t2,p.o2,p.o4,p.i2,p.i3,p.d69,p.b5,p.b8,p.b9,p.k1,p.k2,p.k3,p.s1,p.s2,p.d70,aN,aqW fx]<;>rfl
def q31(x:Dx c dd w left i f f0 l m a)(h:i.Op=31):D37 c dd w left i f l a:=by
 have io:=x.sx.cx.io;have nd:=x.sx.cx.nd;have fx:=x.fx;have d:=fx.h;have e:=fx.h';have j:=fx.e;have k:=x.sx.cx.hw.len;have on:=λ(n:Nat)g=>fx.on (n:=n) g;unfold D37 eX;simp only[show i.Op.toNat=31 from cU Int.toNat h];have o:f.Env=f0.Env:=by rw[x.hf]
 rw[o];have b:=λn g=>d71 (n:=n) (fr:=left++[f]++[g]) fx.at_ (by simp;omega);have q:kH w (left++[f]) [⟨i.A,f0.Env,[],W⟩]=kH w [] (left++[f]++[⟨i.A,f0.Env,[],W⟩]):=by unfold kH;simp
 rw[q];refine bG λn=>?_;have p:=x.parts (n:=n);unfold F37 gk fR ef er ee ep dS;simp only[p.b1,p.b2,p.b3,p.b4];simp(disch:=first|omega|simp only[hJ];omega)only[aT,h,p.t1,p.t2,p.o2,p.o4,p.i2,p.i3,p.d69,p.b5,p.b8,p.b9,p.k1,p.k2,p.k3,p.s1,p.s2,p.d70,aN,d70 (left:=left++[f]),b]<;>rfl
def q32(x:Dx c dd w left i f f0 l m a)(h:i.Op=32):D37 c dd w left i f l a:=by have io:=x.sx.cx.io;have nd:=x.sx.cx.nd;have fx:=x.fx;have b:=fx.h;have d:=fx.h';have e:=fx.e;have j:=x.sx.cx.hw.len;have on:=λ(n:Nat)g=>fx.on (n:=n) g;unfold D37 eX;simp only[show i.Op.toNat=32 from cU Int.toNat h];have k:=d86 (A:=i.A) fx;refine Ev.vQ (g:=λn=>F86 n (w,a,left++[f],i.A,())) (λn=>?_) k;have p:=x.parts (n:=n);unfold F37 gk fR ef er ee ep dS;simp only[p.b1,p.b2,p.b3,p.b4];simp(disch:=omega)only[aT,h,p.t1,p.t2,p.o2,p.o4,p.i2,p.i3,p.d69,p.b5,p.b8,p.b9,p.k1,p.k2,p.k3,p.s1,p.s2,p.d70,aN];exact eB _
def q33(x:Dx c dd w left i f f0 l m a)(h:i.Op=33):D37 c dd w left i f l a:=by have io:=x.sx.cx.io;have nd:=x.sx.cx.nd;have fx:=x.fx;have b:=fx.h;have d:=fx.h';have e:=fx.e;have j:=x.sx.cx.hw.len;have on:=λ(n:Nat)g=>fx.on (n:=n) g;unfold D37 eX;simp only[show i.Op.toNat=33 from cU Int.toNat h];have k:kA dU=dU:=rfl;refine bG λn=>?_;have p:=x.parts (n:=n);unfold F37 gk fR ef er ee ep dS;simp only[p.b1,p.b2,p.b3,p.b4];simp(disch:=omega)only[aT,h,p.t1,p.t2,p.o2,p.o4,p.i2,p.i3,p.d69,p.b5,p.b8,p.b9,p.k1,p.k2,p.k3,p.s1,p.s2,p.d70,aN,d74,fx.PC,on,d83]<;>simp[je,fG,k,eB]
end
end
section
section
variable {n:Nat}{c:aA}{dd:List av}{w w':ak}{left fr:List ai}{f g f0:ai}{a op s form A B:Int}{v u:ax}{o:bx}{i:bN}{l:List ax}{m:Int}
theorem q34(x:Dx c dd w left i f f0 l m a)(h:i.Op=34):D37 c dd w left i f l a:=by
 have fx:=x.fx;have d:=fx.h;have b:=x.sx.cx.left;obtain⟨v,e,r⟩:=x.sx.one h (by decide) rfl;unfold D37 eX;simp only[show i.Op.toNat=34 from cU Int.toNat h];have j:cG (left++[f]) 0 (left.length:Int)=left:=jJ _ _ rfl;have s:eK 0 (left.length:Int) (aq (left++[f]))=W:=uQ.2 (by grind[aq,List.length_append,List.length_singleton]);have t3:=fx.at_.tlo;have t4:=fx.at_.thi;refine bG λn=>?_;have p:=x.parts (n:=n);unfold F37 gk fR ef er ee ep dS;simp only[p.b1,p.b2,p.b3,p.b4];simp(disch:=omega)only[aT,h,p.t1,p.t2,p.o2,p.o4,p.i2,p.i3,p.d69,p.b5,p.b8,p.b9,p.k1,p.k2,p.k3,p.s1,p.s2,p.d70,aN,j];have t1:=p.t1;have t2:=p.t2;have o:=x.hle;clear p;subst e;obtain rfl|⟨k,g,rfl⟩:=Sq left
 .simp (disch:=first|omega|simp only[hJ];omega)only[aT,aN,kP,eW,d88,t1,t2]<;>rfl
 .rw[Sp]at *
  have t:=(SS x.sx (by omega) (b g (by simp))).1;simp only[lD,pF]at d;have on:=λq=>YC (n:=n) (fr:=k++[q]) fx.at_ (by simp;omega);rw[Fe];simp(disch:=first|omega|simp only[hJ];omega)only[aT,aN,kP,eW,t1,t2,j,d72 (left:=k) (g:=g) (v:=v) (by omega) (by omega),on]<;>rfl
def af3(x:Dx c dd w left i f f0 l m a):D37 c dd w left i f l a:=by
 have h1:=x.sx.cx.io.lo;have h2:=x.sx.cx.io.hi;obtain⟨k,e⟩:∃k:Nat,i.Op=k:=⟨_,(Kt (by omega)).symm⟩;have b:1<=k:=by omega
 have d:k<=34:=by omega
 match k,e,b,d with
 |1,h,_,_=>exact q1 x h|2,h,_,_=>exact q2 x h|3,h,_,_=>exact q3 x h|4,h,_,_=>exact q4 x h|5,h,_,_=>exact q5 x h|6,h,_,_=>exact q6 x h|7,h,_,_=>exact q7 x h|8,h,_,_=>exact q8 x h|9,h,_,_=>exact q9 x h|10,h,_,_=>exact q10 x h|11,h,_,_=>exact q11 x h|12,h,_,_=>exact q12 x h|13,h,_,_=>exact q13 x h|14,h,_,_=>exact q14 x h|15,h,_,_=>exact q15 x h|16,h,_,_=>exact q16 x h|17,h,_,_=>exact q17 x h|18,h,_,_=>exact q18 x h|19,h,_,_=>exact q19 x h|20,h,_,_=>exact q20 x h|21,h,_,_=>exact q21 x h|22,h,_,_=>exact q22 x h|23,h,_,_=>exact q23 x h|24,h,_,_=>exact q24 x h|25,h,_,_=>exact q25 x h|26,h,_,_=>exact q26 x h|27,h,_,_=>exact q27 x h|28,h,_,_=>exact q28 x h|29,h,_,_=>exact q29 x h|30,h,_,_=>exact q30 x h|31,h,_,_=>exact q31 x h|32,h,_,_=>exact q32 x h|33,h,_,_=>exact q33 x h|34,h,_,_=>exact q34 x h|k+35,_,h,g=>omega
def DU(w:ak):O (ak×O aP)->aZ
 |none=>⟨w,2,cN⟩|some (w',Y)=>⟨w',0,cN⟩|some (w',Z e)=>⟨w',1,e⟩
theorem d37(p:Bt c dd)(h:rC c dd w)(i:0<=a)(h1:a<w.cq.length):Ev (λn=>F37 n (⟨c,dd⟩,w,a,())) ((DU w (qy c w a),()),()):=by
 obtain⟨t1,t2,t3⟩:=h.task _ (bV 0 (show a.toNat<w.cq.length by omega));have l:=h.ob t1 t2;change 0<=bA w a at t1;change bA w a<_ at t2;change(eu w (bA w a)).Form=6 at t3;change jF c dd _ (eu w (bA w a))at l;unfold qy;simp only;by_cases j:(eu w (bA w a)).N=0
 .rw[bO (by omega)];obtain⟨m,f,d,q,t,u⟩:=Gk l t3 j;have o:=YD p h q t u;have g:=o.ll;have y:cr c (aX c f.At)<=f.Stack.length:=by
   grind
  have x:Dx c dd w m (aX c f.At) ⟨f.At+1,f.Env,f.Stack.take (f.Stack.length-cr c (aX c f.At)),f.dI⟩ f (f.Stack.drop (f.Stack.length-cr c (aX c f.At))) f.At a:=
   ⟨⟨o,i,h1⟩,⟨i,h1,t1,t2⟩,by rw[g],by rw[g],rfl,by omega,rfl,d⟩
  have b:=af3 x;unfold D37 at b;rw[d,Qu]
  revert b
  generalize eX c w a m (aX c f.At) _ _=r;intro b;cases r with|waits=>exact b|fail s=>exact b|done v=>exact b|go w' fr e=>cases e<;>exact b
 .rw[bB j];refine bG λn=>?_;have z:xh (⟨c,dd⟩,w,a,())=(bA w a).toNat:=rfl;have k:(w.aS.getD (bA w a).toNat bL).N≠0:=j;have A:aI a w.cq=W:=ie.2 ⟨i,h1⟩;have B:aI (w.cq.getD a.toNat 0) w.aS=W:=ie.2 ⟨t1,t2⟩;unfold F37;rw[z];simp(disch:=omega)only[aT,k,A,B]<;>rfl
end
end
section
section
variable {c:aA}{D out:List av}{n:Int}{d:av}
structure Bu(c:aA):Prop where
 len:1<=c.dL.length∧c.dL.length<=1500
 ins:∀i∈c.dL,OJ c i
 pats:∀q∈c.eC,tw c.Cons q∧pw q<=12
 pl:c.eC.length<=100
 qV:∀f∈c.cX,0<=f∧f<c.dL.length
 fl:1<=c.cX.length∧c.cX.length<=300
 main:0<=c.Main∧c.Main<c.cX.length
 cons:∀k∈c.Cons,0<=k.lg∧k.lg<=3
def Bu.pok(h:Bu c)(a:VY c D):Bt c D:=⟨h.len,h.ins,h.pats,h.pl,h.qV,h.fl,h.main,h.cons,a⟩
structure Good(c:aA)(n:Int)(d:av):Prop where
 lo:0<=n
 hi:n<c.dL.length
 st:d.Stack<=60
 en:d.Env<=30
 ne:yE c (aX c n) d
 re:d.Reached=W
def NoD(c:aA):Prop:=¬∃D,VY c D
theorem Ar(g:Bu c)(h:LK c n d)(i:¬Good c n d):NoD c:=λ⟨D,f⟩=>by obtain⟨a,b,e,r⟩:=f.PM g.qV h;obtain⟨x,y,z⟩:=f.ok n a b (by grind);rw[e]at x y z;exact i ⟨a,b,x,y,z,r⟩
def Xd(a:Bu c){b:av}(h:LK c n d)(g:LK c n b)(i:d≠b):NoD c:=λ⟨D,f⟩=>by
 obtain⟨_,_,e,_⟩:=f.PM a.qV h;obtain⟨_,_,j,_⟩:=f.PM a.qV g
 simp_all
theorem EF{n:Int}(hn:0<=n)(a:n<out.length){m:Int}(b:0<=m):eV (out.set n.toNat d) m=if m=n then d else eV out m:=by
 unfold eV
 grind
def qR(out:L av):Nat:=out.countP λd=>!d.Reached
theorem Nv:qR out<=out.length:=List.countP_le_length
theorem Jk:∀{out:L av}{k:Nat},k<out.length->(out.getD k aU).Reached=J->d.Reached=W->qR (out.set k d)+1=qR out
 |a::out,0,_,h,b=>by
  grind[List.getD_cons_zero,qR]
 |a::out,k+1,c,h,b=>by
  grind[qR]
structure PI(c:aA)(T:Int->Prop)(out:List av):Prop where
 len:out.length=c.dL.length
 re:∀n:Int,0<=n->n<c.dL.length->(eV out n).Reached=W->LK c n (eV out n)∧Good c n (eV out n)
 fo:∀n:Int,0<=n->n<c.dL.length->(eV out n).Reached=W->¬T n->∀x∈dM c n (eV out n),0<=x.1∧x.1<c.dL.length∧eV out x.1=x.2
 zero:∀n:Int,0<=n->n<c.dL.length->(eV out n).Reached=J->eV out n=aU
theorem PI.mono{T d:Int->Prop}(h:PI c T out)(e:∀n,T n->d n):PI c d out:=⟨h.len,h.re,λn a b r f=>h.fo n a b r λg=>f (e n g),h.zero⟩
def PI.done(h:PI c (λ_=>False) out)(d:∀f∈c.cX,eV out f=bW 0 1):VY c out:=
 ⟨h.len,d,λn a b r=>⟨(h.re n a b r).2.st,(h.re n a b r).2.en,(h.re n a b r).2.ne⟩,λn a b r=>h.fo n a b r id,λn a b r=>(h.re n a b r).1,h.zero⟩
theorem PI.set{T:Int->Prop}(h:PI c T out)(q:LK c n d)(i:Good c n d)(s:(eV out n).Reached=J):PI c (λm=>T m∨m=n) (out.set n.toNat d):=by
 have l:=h.len;have e:∀{m:Int},0<=m->eV (out.set n.toNat d) m=if m=n then d else eV out m:=λf=>EF i.lo (by rw[l];exact i.hi) f
 refine⟨by simp_all,λm a b r=>?_,λm a b r j x g=>?_,λm a b r=>?_⟩
 .rw[e a]at r ⊢;by_cases f:m=n
  .simp_all
  .rw[bO f]at r ⊢;exact h.re m a b r
 .have f:m≠n:=λf=>j (.inr f);rw[e a,bO f]at r g;obtain⟨k,o,p⟩:=h.fo m a b r (λg=>j (.inl g)) x g;refine⟨k,o,?_⟩;rw[e k,bO]
  .exact p
  grind[Au]
 .rw[e a]at r ⊢;by_cases f:m=n
  .rw[bB f,i.re]at r;cases r
  .rw[bO f]at r ⊢;exact h.zero m a b r
def j6(out a:L av):Prop:=∀m:Int,0<=m->(eV out m).Reached=W->eV a m=eV out m
theorem j6.refl:j6 out out:=λ_ _ _=>rfl
def j6.trans{a b e:L av}(h:j6 a b)(d:j6 b e):j6 a e:=λm c r=>(d m c (by rw[h m c r];exact r)).trans (h m c r)
theorem UF(hl:out.length=c.dL.length)(a:Good c n d)(e:(eV out n).Reached=J):j6 out (out.set n.toNat d):=λm b r=>by
 rw[EF a.lo (by rw[hl];exact a.hi) b,bO]
 grind
end
end
section
section
variable {n:Nat}{c:aA}{dd:List av}{i:bN}{d:av}{m:Int}{op s e:Int}
theorem VF(n k:Nat):R163 n (k+1)=B163 n (R163 n k):=rfl
mutual
theorem wg:∀q:aB,0<=fX q∧fX q<=pw q
 |⟨b,_,_,parts⟩=>by have:=zzA parts;unfold fX pw;omega
theorem zzA:∀qs:L aB,0<=n7 qs∧n7 qs<=qc qs
 |[]=>by unfold n7 qc;omega|q::qs=>by have:=wg q;have:=zzA qs;unfold n7 qc;omega
end
theorem Aw:∀qs:L aB,qs.length<=qc qs
 |[]=>Ih _|⟨_,_,_,_⟩::qs=>by unfold qc pw;have:=Aw qs;grind
def Names(q:aB):Prop:=vR R163 (q,()) ((fX q,()),())
theorem Je{R B P:Type}(d:Nat):∀(qs pre:L aB)(k:Int),0<=k->k+(qc qs:Int)<=100000->pre.length+qs.length<=100000->(∀q∈qs,Names q)->
  ∀F:Nat->Int×Int×U->O (LO (Int×Int×U) R B P),
  (∀n g,F n g=aj (aE g.2.1 (aq (pre++qs))) (aO (aI g.2.1 (pre++qs)) (ah (R163 n (n-d) (@bn aB (pre++qs) (az g.2.1) aK,())) λh=>Z (N (aG .i64 g.1 h.1.1,aG .i64 g.2.1 1,())))) (Z (H 0 g)))->
  fY F (k,(pre.length:Int),()) (.out 0 (k+n7 qs,((pre++qs).length:Int),()))
 |[],pre,k,_,_,_,_,F,b=>by unfold n7;refine .out (bG λn=>?_);rw[b];simp(disch:=omega) [aT,kj,I0]<;>rfl
 |q::qs,pre,k,l,h1,e,c,F,b=>by
  unfold qc at h1;simp at e;have m:=wg q;have f:(pre++q::qs).getD pre.length aK=q:=qU ..;have h2:=Je (R:=R) (B:=B) (P:=P) d qs (pre++[q]) (k+fX q) (by omega) (by omega) (by simp;omega) (λi h=>c i (ic _ h)) F (λn g=>by rw[b];simp<;>rfl);have h3:=c q eJ d;simp only[v5,Ku]at h2;unfold n7;rw[<-Int.add_assoc];refine .next (y:=(k+fX q,((pre++[q]).length:Int),())) ?_ h2
  let ⟨a,h3⟩:=h3
  refine⟨a,λn j=>?_⟩;have:=h3 n j;show F n _=_;rw[b];simp(disch:=first|omega|simp only[hJ];omega)only[aT,f,iV,iX];refine(cU (λx=>ah x _) this).trans ?_;show Z (N (aG .i64 k (fX q),aG .i64 (pre.length:Int) 1,()))=_
  grind[ct]
theorem names{cons:L cw}:∀q:aB,pw q<=1000->tw cons q->Names q
 |⟨a,n0,text,parts⟩,o,f=>by
  have j:a=2->parts=[]:=by
   grind[tw]
  have l:oN cons parts:=by
   obtain b|b|b|b:=f
   .rw[b.2.2.2];trivial
   .rw[b.2.2.2];trivial
   .rw[b.2.2.2];trivial
   simp_all
  unfold pw at o;have v:=Aw parts;refine vR.step VF λd=>?_;have m:=λ(k:Int)(p:0<=k)(h1:k<=1)=>Je (R:=Int×U) (B:=U) (P:=Any) d parts [] k p (by omega) (by grind) (λq r=>names' parts (by omega) l q r) _ (λn g=>rfl);have s:∀n,B163 n (R163 n (n-d)) (⟨a,n0,text,parts⟩,())=ah (@iter (Int×Int×U) (Int×U) U Any (λg=>aj (aE g.2.1 (aq parts)) (aO (aI g.2.1 parts) (ah (R163 n (n-d) (@bn aB parts (az g.2.1) aK,())) λh=>Z (N (aG .i64 g.1 h.1.1,aG .i64 g.2.1 1,())))) (Z (H 0 g))) n ((if a=2 then 1 else 0),0,())) λg=>bK g (λ_ i=>Z ((i.1,()),())) (λ_ i=>Z (i,())) λ_(_:Any)=>Y:=by
   intro n;unfold B163;by_cases h:a=2
   .simp only[aT,h,ki,aN]<;>rfl
   .simp (disch:=omega)only[aT,h,jS,aN]<;>rfl
  refine Ev.vQ s ?_;by_cases h:a=2
  .rw[bB h];refine Ev.bw (m 1 (by omega) (by omega)) (λn e=>_) _ ?_;exact bG λn=>by unfold fX;rw[bB h,j h];rfl
  .rw[bO h];refine Ev.bw (m 0 (by omega) (by omega)) (λn e=>_) _ ?_;exact bG λn=>by unfold fX;rw[bO h,Int.zero_add];rfl
where
 names':∀(c:L aB),qc c<=1000->oN cons c->∀q∈c,Names q
 |[],_,_,_,h=>by cases h
 |q::c,t,f,u,h=>by
  unfold qc at t;obtain h|h:=ga.1 h
  .rw[h];exact names q (by omega) f.1
  .exact names' c (by omega) f.2 u h
def He(c:aA)(i:bN):Int:=if i.Op=8 then -3 else if i.Op=34 then -2 else cr c i
def d160(h1:1<=i.Op)(h2:i.Op<=34)(f:i.Op=18->0<=i.A∧i.A<c.Cons.length∧0<=(c.Cons.getD i.A.toNat aY).lg):F160 n (c,i,())=Z ((He c i,()),()):=by
 by_cases a:i.Op=18
 .let ⟨g,j,l⟩:=f a
  unfold F160 zU xl He cr lY;rw[bB a,bO (by omega),bO (by omega)];simp(disch:=omega)only[aT,aN];rw[show(((c.Cons.getD i.A.toNat aY).lg.toNat:Nat):Int)=(c.Cons.getD i.A.toNat aY).lg by omega]
 .obtain ⟨k,b⟩:∃k:Nat,i.Op=k:=⟨_,(Kt (by omega)).symm⟩;have d:1<=k:=by omega
  have e:k<=34:=by omega
  unfold He cr;rw[bO a,show i.Op.toNat=k by omega];unfold F160;simp only[b]
  match k,d,e,b with
  |18,_,_,b=>omega
  |1,_,_,_|2,_,_,_|3,_,_,_|4,_,_,_|5,_,_,_|6,_,_,_|7,_,_,_|8,_,_,_|9,_,_,_|10,_,_,_|11,_,_,_|12,_,_,_|13,_,_,_|14,_,_,_|15,_,_,_|16,_,_,_|17,_,_,_
  |19,_,_,_|20,_,_,_|21,_,_,_|22,_,_,_|23,_,_,_|24,_,_,_|25,_,_,_|26,_,_,_|27,_,_,_|28,_,_,_|29,_,_,_|30,_,_,_|31,_,_,_|32,_,_,_|33,_,_,_|34,_,_,_=>rfl|k+35,_,h,_=>omega
theorem d108:F108 n (s,e,())=Z ((bW s e,()),()):=rfl
def BD(l:L (Int×av)):L bh:=l.map λx=>⟨x.1,x.2⟩
def d161:F161 n (op,())=Z ((decide (op=8∨op=20∨op=34),()),()):=by
 unfold F161;by_cases h1:op=8
 .simp only[aT,h1]<;>rfl
 by_cases h2:op=20
 .simp (disch:=omega)only[aT,h2]<;>rfl
 simp(disch:=omega)only[aT,h1,h2,false_or]<;>rfl
def d162:F162 n (op,())=Z ((!decide (op=9∨op=10∨op=11∨op=12∨op=19),()),()):=by
 unfold F162 Cz;by_cases h1:op=9
 .simp only[aT,h1]<;>rfl
 by_cases h2:op=10
 .simp (disch:=omega)only[aT,h2]<;>rfl
 by_cases h3:op=11
 .simp (disch:=omega)only[aT,h3]<;>rfl
 by_cases h4:op=12
 .simp (disch:=omega)only[aT,h4]<;>rfl
 by_cases h5:op=19
 .simp (disch:=omega)only[aT,h5]<;>rfl
 simp(disch:=omega) [aT,h1,h2,h3,h4,h5,or_self,decide_false,MR]<;>rfl
structure Lo(d:av):Prop where
 re:d.Reached=W
 s:0<=d.Stack
 e:0<=d.Env
def Bu.io(h:Bu c)(a:0<=m)(h1:m<c.dL.length):OJ c (aX c m):=h.ins _ (bV _ (by omega))
def Bu.cn(h:Bu c)(a:0<=m)(h1:m<c.dL.length):(aX c m).Op=18->0<=(aX c m).A∧(aX c m).A<c.Cons.length∧0<=(c.Cons.getD (aX c m).A.toNat aY).lg:=
 λb=>by have:=(h.io a h1).con b;exact⟨this.1,this.2,(h.cons _ (bV _ (by omega))).1⟩
def EU(h:Bu c)(b:0<=m)(h1:m<c.dL.length):cr c (aX c m)<=3:=by
 unfold cr lY;split
 .rename_i a;have:=(h.io b h1).con a;have:=(h.cons _ (bV aY (show(aX c m).A.toNat<c.Cons.length by omega)));omega
 .have:∀k:Nat,nF.getD k 0<=3:=by
   intro k;by_cases a:k<35
   .have:∀k:Fin 35,nF.getD k.1 0<=3:=by decide
    exact this ⟨k,a⟩
   simp_all[nF]
  exact this _
def akj(j:Bu c)(l:0<=m)(h1:m<c.dL.length)(hn:¬yE c (aX c m) d):F109 n (c,m,d,())=Z (([],J,()),()):=by
 have io:=j.io l h1;have a:=d160 (n:=n) (c:=c) (i:=aX c m) io.lo io.hi (j.cn l h1);have e:ia (c,m,d,())=aX c m:=rfl;generalize aX c m=i at *
 have o:∀k:Nat,i.Op=k->k≠18->cr c i=nF.getD k 0:=λk h q=>by unfold cr;rw[bO (by omega),show i.Op.toNat=k by omega]
 unfold F109;unfold He at a;unfold yE at hn;by_cases f:i.Op=8
 .rw[bB f]at a;have:=o 8 f (by decide);have g:cr c i=2:=this;have p:d.Stack≠2:=λh=>hn ⟨by omega,by omega,by omega,λ_=>h,by omega⟩;simp(disch:=omega) [aT,e,a,show bf .i64 (-1) (-3)=2 from rfl]<;>rfl
 by_cases b:i.Op=34
 .rw[bO f,bB b]at a;have g:cr c i=1:=o 34 b (by decide);have p:d.Stack≠1:=λh=>hn ⟨by omega,by omega,by omega,by omega,λ_=>h⟩;simp(disch:=omega) [aT,e,a,show bf .i64 (-1) (-2)=1 from rfl]<;>rfl
 by_cases r:d.Stack<(cr c i:Int)
 .simp (disch:=omega) [aT,e,a]<;>rfl
 by_cases s:i.Op=4
 .have p:d.Env<=i.A:=by omega
  simp(disch:=omega) [aT,e,a]<;>rfl
 simp_all[CD,aT]
def d109(r:Bu c)(w:0<=m)(h1:m<c.dL.length)(hn:yE c (aX c m) d)(I:Lo d)(hs:d.Stack<=60)(he:d.Env<=30):Ev (λn=>F109 n (c,m,d,())) ((BD (dM c m d),W,()),()):=by
 have io:=r.io w h1;have K:=r.len;have b:=λn=>d160 (n:=n) (c:=c) (i:=aX c m) io.lo io.hi (r.cn w h1);have g:ia (c,m,d,())=aX c m:=rfl;have hi:aI m c.dL=W:=ie.2 ⟨w,h1⟩;have ht:=EU r w h1;have t:dM c m d=(let i:=aX c m;let s:=fW c i d
  match i.Op.toNat with
  |8|20|34=>[]|9=>[(m+1,bW s (d.Env+1))]|10=>[(m+1,bW s (d.Env-i.A))]|11=>[(i.A,d)]|12=>[(m+1,bW s d.Env),(i.A,bW s d.Env)]|19=>[(m+1,bW s (d.Env+fX (iZ c i.A))),(i.B,d)]|6|32=>[(m+1,bW s d.Env),(i.A,bW 0 (d.Env+1))]|31=>[(m+1,bW s d.Env),(i.A,bW 0 d.Env)]|_=>[(m+1,bW s d.Env)]):=by rfl
 rw[t];clear t;generalize aX c m=i at *
 have tk:∀k:Nat,i.Op=k->k≠18->cr c i=nF.getD k 0:=λk h Q=>by unfold cr;rw[bO (by omega),show i.Op.toNat=k by omega]
 let ⟨n1,n2,n3,R,S⟩:=hn
 have hs0:=I.s;have he0:=I.e;have am:aG .i64 m 1=m+1:=ct (by omega) (by omega);simp only;by_cases A:i.Op=8
 .rw[show i.Op.toNat=8 by omega];refine bG λn=>?_;have b:=b n;unfold He at b;rw[bB A]at b;have:=R A;unfold F109;simp(disch:=omega)only[aT,g,b,show bf .i64 (-1) (-3)=2 from rfl]<;>rfl
 by_cases u:i.Op=34
 .rw[show i.Op.toNat=34 by omega];refine bG λn=>?_;have b:=b n;unfold He at b;rw[bO A,bB u]at b;have:=S u;unfold F109;simp(disch:=omega)only[aT,g,b,show bf .i64 (-1) (-2)=1 from rfl]<;>rfl
 have red:∀n,F109 n (c,m,d,())=nk n (c,m,d,()) (((cr c i:Int),()),()):=by
  intro n;unfold He at b;unfold F109;by_cases k4:i.Op=4
  .simp_all[CD,aT]
  .by_cases j:i.Op=10
   .simp_all[CD,aT]
   simp_all[CD,aT]
 refine Ev.vQ red ?_;clear red;by_cases k20:i.Op=20
 .rw[show i.Op.toNat=20 by omega];refine bG λn=>?_;unfold nk;simp(disch:=omega)only[aT,g,d161,k20]<;>rfl
 have f:=λn=>d161 (n:=n) (op:=i.Op);rw[jl (show ¬(i.Op=8∨i.Op=20∨i.Op=34)by omega)]at f;have sl:bf .i64 d.Stack (cr c i:Int)=d.Stack-(cr c i:Int):=dh (by omega) (by omega);have l:aG .i64 (d.Stack-(cr c i:Int)) 1=d.Stack-(cr c i:Int)+1:=ct (by omega) (by omega);have y:∀k:Int,0<=k->k<=1000->aG .i64 d.Env k=d.Env+k:=λk _ _=>ct (by omega) (by omega);have q:(i.Op=9∨i.Op=10∨i.Op=11∨i.Op=12∨i.Op=19)->fW c i d=d.Stack-(cr c i:Int):=λh=>by unfold fW;omega
 have lo:¬(i.Op=9∨i.Op=10∨i.Op=11∨i.Op=12∨i.Op=19)->fW c i d=d.Stack-(cr c i:Int)+1:=λh=>by unfold fW;rw[bO h]
 have e:=λn=>d162 (n:=n) (op:=i.Op);by_cases z:i.Op=9∨i.Op=10∨i.Op=11∨i.Op=12∨i.Op=19
 .rw[kO z]at e;have q:=q z;by_cases P:i.Op=9
  .rw[show i.Op.toNat=9 by omega,q];refine bG λn=>?_;unfold nk oV;simp(disch:=omega) [aT,g,sl,P,y 1 (by omega) (by omega),d108,am]<;>rfl
  by_cases j:i.Op=10
  .rw[show i.Op.toNat=10 by omega,q];have:=io.drop j;have sa:bf .i64 d.Env i.A=d.Env-i.A:=dh (by omega) (by omega);refine bG λn=>?_;unfold nk oV;simp(disch:=omega) [aT,g,sl,j,sa,d108,am]<;>rfl
  by_cases k11:i.Op=11
  .rw[show i.Op.toNat=11 by omega];refine bG λn=>?_;unfold nk oV;simp(disch:=omega) [aT,g,sl,k11]<;>rfl
  by_cases k12:i.Op=12
  .rw[show i.Op.toNat=12 by omega,q];refine bG λn=>?_;unfold nk oV u9 rH;simp(disch:=omega) [aT,g,sl,k12,d108,am]<;>rfl
  have o:i.Op=19:=by omega
  rw[show i.Op.toNat=19 by omega,q];have hp:=io.AY o;have B:=r.pats _ (bV aK (show i.A.toNat<c.eC.length by omega));have C:=wg (c.eC.getD i.A.toNat aK)
  let ⟨a,p⟩:=names _ (by omega) B.1 0
  have v:∀n,a<=n->F163 n (c.eC.getD i.A.toNat aK,())=Z ((fX (c.eC.getD i.A.toNat aK),()),()):=p;refine⟨a,λn hn=>?_⟩;have p:=v n hn;show nk n _ _=_;rw[o]at f e;unfold nk oV u9 rH;simp(disch:=omega) [aT,g,f,e,I2,aN,sl,o,d108,am];refine(cU (λx=>ah x _) p).trans ?_;show Z ((([(⟨m+1,bW (d.Stack-(cr c i:Int)) (aG .i64 d.Env (fX (c.eC.getD i.A.toNat aK)))⟩:bh),⟨i.B,d⟩]:L bh),W,()),())=_;rw[y _ C.1 (by omega)];rfl
 .rw[jl z]at e;have lo:=lo z;by_cases k6:i.Op=6
  .rw[show i.Op.toNat=6 by omega,lo];refine bG λn=>?_;unfold nk oV u9 rH;simp(disch:=omega) [aT,g,aN,sl,l,k6,y 1 (by omega) (by omega),d108,am]<;>rfl
  by_cases E:i.Op=32
  .rw[show i.Op.toNat=32 by omega,lo];refine bG λn=>?_;unfold nk oV u9 rH;simp(disch:=omega) [aT,g,aN,sl,l,E,y 1 (by omega) (by omega),d108,am]<;>rfl
  by_cases F:i.Op=31
  .rw[show i.Op.toNat=31 by omega,lo];refine bG λn=>?_;unfold nk oV u9 rH;simp(disch:=omega) [aT,g,aN,sl,l,F,d108,am]<;>rfl
  have P:i.Op≠9:=by omega
  have j:i.Op≠10:=by omega
  have k11:i.Op≠11:=by omega
  have k12:i.Op≠12:=by omega
  have o:i.Op≠19:=by omega
  have hk:(match i.Op.toNat with
   |8|20|34=>[]|9=>[(m+1,bW (fW c i d) (d.Env+1))]|10=>[(m+1,bW (fW c i d) (d.Env-i.A))]|11=>[(i.A,d)]|12=>[(m+1,bW (fW c i d) d.Env),(i.A,bW (fW c i d) d.Env)]|19=>[(m+1,bW (fW c i d) (d.Env+fX (iZ c i.A))),(i.B,d)]|6|32=>[(m+1,bW (fW c i d) d.Env),(i.A,bW 0 (d.Env+1))]|31=>[(m+1,bW (fW c i d) d.Env),(i.A,bW 0 d.Env)]|_=>[(m+1,bW (fW c i d) d.Env)]:L (Int×av))=[(m+1,bW (fW c i d) d.Env)]:=by
   split<;>first|rfl|(exfalso;omega)
  rw[hk,lo];refine bG λn=>?_;unfold nk oV u9 rH;simp(disch:=omega)only[aT,g,f,e,MR,aN,sl,l,d108,am]<;>rfl
end
end
section
section
variable {n:Nat}{c:aA}{i:bN}{d:av}{m:Int}{op s e:Int}
def Yq{a b:av}(h:a=b):bZ (o7 a.1 b.1) (bZ (aa a.2 b.2) (bZ (aa a.3 b.3) W))=W:=by
 subst h
 let ⟨r,s,e⟩:=a
 cases r<;>simp[bZ,o7,aa]
theorem adF{a b:av}(h:a≠b):bZ (o7 a.1 b.1) (bZ (aa a.2 b.2) (bZ (aa a.3 b.3) W))=J:=by
 let ⟨r,s,e⟩:=a
 let ⟨c,d,f⟩:=b
 grind[bZ,o7,aa]
theorem Nj(g:Bu c)(i:0<=m)(h1:m<c.dL.length)(hn:yE c (aX c m) d)(e:Lo d){x:Int×av}(a:x∈dM c m d):0<=x.1∧Lo x.2:=by
 have io:=g.io i h1;have j:=Au a e.re;have h2:=e.s;have h3:=e.e
 let ⟨n1,l,n,o,p⟩:=hn
 have b:0<=fW c (aX c m) d:=by unfold fW;split<;>omega
 have k:=io.goto;have f:=io.AY
 suffices h:0<=x.1∧0<=x.2.Stack∧0<=x.2.Env from⟨h.1,j,h.2.1,h.2.2⟩
 unfold dM at a;dsimp only at a;split at a<;>rename_i q<;>simp only[ga,List.not_mem_nil,or_false]at a
 .subst a;exact⟨by omega,b,by show 0<=d.Env+1;omega⟩
 .subst a;exact⟨by omega,b,by show 0<=d.Env-_;omega⟩
 .grind
 .obtain a|a:=a<;>subst a
  .exact ⟨by omega,b,h3⟩
  .exact ⟨by omega,b,h3⟩
 .have:=f (by omega);obtain a|a:=a<;>subst a
  .exact ⟨by omega,b,by show 0<=d.Env+_;have:=(wg (iZ c (aX c m).A)).1;omega⟩
  simp_all
 .obtain a|a:=a<;>subst a
  .exact ⟨by omega,b,h3⟩
  .exact ⟨by omega,Ig _,by show 0<=d.Env+1;omega⟩
 .obtain a|a:=a<;>subst a
  .exact ⟨by omega,b,h3⟩
  .exact ⟨by omega,Ig _,by show 0<=d.Env+1;omega⟩
 .obtain a|a:=a<;>subst a
  .exact ⟨by omega,b,h3⟩
  .exact ⟨by omega,Ig _,h3⟩
 .subst a;exact⟨by omega,b,h3⟩
def Us:(dM c m d).length<=2:=by unfold dM;dsimp only;split<;>simp
abbrev DX:=L av×L bh×Int×U
structure DI(c:aA)(x:DX):Prop where
 k:0<=x.2.2.1∧x.2.2.1<=x.2.1.length
 wk:∀r∈x.2.1,LK c r.At r.jP∧Lo r.jP∧0<=r.At
 aeA:∀j:Nat,(j:Int)<x.2.2.1->(x.2.1.getD j aW).At<c.dL.length∧eV x.1 (x.2.1.getD j aW).At=(x.2.1.getD j aW).jP
 len:x.1.length=c.dL.length
 re:∀n:Int,0<=n->n<c.dL.length->(eV x.1 n).Reached=W->LK c n (eV x.1 n)∧Good c n (eV x.1 n)
 fo:∀n:Int,0<=n->n<c.dL.length->(eV x.1 n).Reached=W->∀y∈dM c n (eV x.1 n),(⟨y.1,y.2⟩:bh)∈x.2.1
 zero:∀n:Int,0<=n->n<c.dL.length->(eV x.1 n).Reached=J->eV x.1 n=aU
 fl:∀f∈c.cX,(⟨f,bW 0 1⟩:bh)∈x.2.1
 sz:x.2.1.length+2*qR x.1<=c.cX.length+2*c.dL.length
def DI.done{x:DX}(h:DI c x)(k:x.2.2.1=x.2.1.length):VY c x.1:=by
 have key:∀r∈x.2.1,0<=r.At∧r.At<c.dL.length∧eV x.1 r.At=r.jP:=by intro r d;obtain⟨j,e,rfl⟩:=rM d;have:=h.aeA j (by omega);rw[MN,jr e]at this;exact⟨(h.wk _ d).2.2,this.1,this.2⟩
 exact PI.done (c:=c) ⟨h.len,h.re,λn a b r _ y g=>key _ (h.fo n a b r y g),h.zero⟩ λf i=>(key _ (h.fl f i)).2.2
def DQ(c:aA)(o:LO DX (L av×Bool×U) U Any):Prop:=
 (∃x:DX,o=.out 0 x∧VY c x.1)∨(o=.ret () ([],J,())∧NoD c)
theorem Vh(s:Bu c)(F:Nat->DX->O (LO DX (L av×Bool×U) U Any))
  (v:∀n g,F n g=aj (aE g.2.2.1 (aq g.2.1)) (aO (aI g.2.2.1 g.2.1) (aO (dV (az g.2.2.1) g.2.1) (aO (aI g.2.2.1 g.2.1) (aO (dV (az g.2.2.1) g.2.1) (aj (br (aq c.1) (bn g.2.1 (az g.2.2.1) aW).1) (nC n) (aj (aE 60 (bn g.2.1 (az g.2.2.1) aW).2.2) (nC n) (aj (aE 30 (bn g.2.1 (az g.2.2.1) aW).2.3) (nC n) (aO (vE g) (aO (dV (jv g) g.1) (aj (bn g.1 (jv g) aU).1 (aO (vE g) (aO (dV (jv g) g.1) (aj (au (bZ (o7 (bn g.1 (jv g) aU).1 (bn g.2.1 (az g.2.2.1) aW).2.1) (bZ (aa (bn g.1 (jv g) aU).2 (bn g.2.1 (az g.2.2.1) aW).2.2) (bZ (aa (bn g.1 (jv g) aU).3 (bn g.2.1 (az g.2.2.1) aW).2.3) W)))) (nC n) (Bn n (c,()) g)))) (Bn n (c,()) g))))))))))) (Z (H 0 g)))
  (x:DX) (h:DI c x):(∃y,Ev (λn=>F n x) (.next y)∧DI c y∧2*qR y.1+(y.2.1.length-y.2.2.1.toNat)<2*qR x.1+(x.2.1.length-x.2.2.1.toNat))∨∃o,(∀y,o≠.next y)∧Ev (λn=>F n x) o∧DQ c o:=by
 let ⟨out,b,kk,⟨⟩⟩:=x
 obtain⟨k,hk⟩:∃k:Nat,kk=k:=⟨_,(Kt h.k.1).symm⟩;subst hk;have hkl:k<=b.length:=by have:=h.k.2;simp_all
 have hlen:out.length=c.dL.length:=h.len;have hcl:=s.len;have hfl:=s.fl;have hsz:=h.sz;simp only at hsz;have bad:∀{o:LO DX (L av×Bool×U) U Any},o=.ret () ([],J,())->∀y,o≠.next y:=λh y=>by simp_all
 by_cases VR:k=b.length
 .subst VR;refine .inr ⟨.out 0 (out,b,(b.length:Int),()),(λy h=>by cases h),bG λn=>?_,.inl ⟨_,rfl,h.done rfl⟩⟩;rw[v];simp(disch:=omega) [aT]<;>rfl
 .have hk':k<b.length:=by omega
  have I:b.getD k aW∈b:=bV _ hk'
  let ⟨C,r2,E⟩:=h.wk _ I
  have K:=r2.re;generalize A:b.getD k aW=r at *
  have no:∀{Q:Prop},NoD c->(∀n,F n (out,b,(k:Int),())=Z (.ret () ([],J,())))->Q∨∃o,(∀y,o≠.next y)∧Ev (λn=>F n (out,b,(k:Int),())) o∧DQ c o:=
   λh1 h2=>.inr ⟨.ret () ([],J,()),bad rfl,bG h2,.inr ⟨rfl,h1⟩⟩
  by_cases b1:(c.dL.length:Int)<=r.At
  .refine no (Ar s C λg=>by have:=g.hi;omega) λn=>?_;rw[v];simp(disch:=omega)only[aT,A,nC]<;>rfl
  by_cases b2:60<r.jP.Stack
  .refine no (Ar s C λg=>by have:=g.st;omega) λn=>?_;rw[v];simp(disch:=omega)only[aT,A,nC]<;>rfl
  by_cases b3:30<r.jP.Env
  .refine no (Ar s C λg=>by have:=g.en;omega) λn=>?_;rw[v];simp(disch:=omega)only[aT,A,nC]<;>rfl
  have S:(out.getD r.At.toNat aU)=eV out r.At:=rfl;cases t:(eV out r.At).Reached with
  |true=>
   by_cases b5:eV out r.At=r.jP
   .have P:=Yq b5;rw[t]at P;refine .inl ⟨(out,b,(k:Int)+1,()),bG λn=>?_,⟨by grind,h.wk,?_,h.len,h.re,h.fo,h.zero,h.fl,h.sz⟩,by grind⟩
    .rw[v];unfold Bn jv vE;simp(disch:=omega)only[aT,A,S,t,P,ct]<;>rfl
    .intro j hj;by_cases hjk:j=k
     .simp_all
     .exact h.aeA j (by grind)
   .have P:=adF b5;rw[t]at P;refine no (Xd s (h.re _ E (by omega) t).1 C b5) λn=>?_;rw[v];unfold jv vE;simp(disch:=omega)only[aT,A,S,t,P,nC]<;>rfl
  |false=>
   by_cases R:yE c (aX c r.At) r.jP
   .have hg:Good c r.At r.jP:=⟨E,by omega,by omega,by omega,R,K⟩
    let ⟨a,i⟩:=d109 s E (by omega) R r2 (by omega) (by omega)
    have B:∀n,a<=n->F109 n (c,r.At,r.jP,())=Z ((BD (dM c r.At r.jP),W,()),()):=i;have hl0:=Jk (out:=out) (k:=r.At.toNat) (d:=r.jP) (by omega) t K;have hnl:=Us (c:=c) (m:=r.At) (d:=r.jP);have hrl:(BD (dM c r.At r.jP)).length=(dM c r.At r.jP).length:=by simp[BD]
    have u:=λ(q:Int)(e:0<=q)=>EF (d:=r.jP) (out:=out) E (by omega) e;refine .inl ⟨(out.set r.At.toNat r.jP,b++BD (dM c r.At r.jP),(k:Int)+1,()),⟨a,λn hn=>?_⟩,⟨by grind,?_,?_,by simp_all,?_,?_,?_,?_,?_⟩,?_⟩
    .show F n _=_;rw[v];unfold Bn jv vE;simp(disch:=omega)only[aT,A,S,t,B n hn,ct]<;>rfl
    .intro q e;obtain e|e:=eZ.1 e
     .exact h.wk q e
     .obtain ⟨y,w,rfl⟩:=zc.1 e;have:=Nj s E (by omega) R r2 w;exact⟨.next C w,this.2,this.1⟩
    .intro j hj;simp only at hj ⊢;have hgd:(b++BD (dM c r.At r.jP)).getD j aW=b.getD j aW:=by rw[MN,MN,List.getElem?_append_left (by omega)]
     rw[hgd];by_cases hjk:j=k
     .simp_all
     .have hp:=h.aeA j (by grind);have hw:=h.wk _ (bV (l:=b) aW (show j<b.length by omega));refine⟨hp.1,?_⟩;rw[u _ hw.2.2,bO]
      .exact hp.2
      .intro hne;rw[hne]at hp;rw[hp.2,hw.2.1.re]at t;cases t
    .intro q z q1 p;rw[u q z]at p ⊢;by_cases e:q=r.At
     .simp_all
     .rw[bO e]at p ⊢;exact h.re q z q1 p
    .intro q z q1 p y w;rw[u q z]at p w;by_cases e:q=r.At
     .subst e;rw[bB rfl]at w;exact eY _ (zc.2 ⟨y,w,rfl⟩)
     .rw[bO e]at p w;exact fU _ (h.fo q z q1 p y w)
    .intro q z q1 p;rw[u q z]at p ⊢;by_cases e:q=r.At
     .simp_all
     .rw[bO e]at p ⊢;exact h.zero q z q1 p
    .exact λf hf=>fU _ (h.fl f hf)
    .grind
    grind
   .refine no (Ar s C λg=>R g.ne) λn=>?_;have i:=akj (n:=n) s E (by omega) R;rw[v];unfold Bn jv vE;simp(disch:=omega)only[aT,A,S,t,i,nC]<;>rfl
theorem d51(a:Bu c):(∃D,VY c D∧Ev (λn=>F51 n (c,())) ((D,W,()),()))∨(NoD c∧Ev (λn=>F51 n (c,())) (([],J,()),())):=by
 have t:=a.len;have u:=a.fl;have mk:PR (aq c.1)=W:=by
  unfold PR aq
  grind
 have h1:∀(R B P:Type)(F:Nat->L bh×Int×U->O (LO (L bh×Int×U) R B P)),
   (∀n x,F n x=aj (aE x.2.1 (aq c.3)) (aO (aI x.2.1 c.3) (ah (F108 n (0,1,())) λd=>aO (de x.1 [bh.mk (bn c.3 (az x.2.1) 0) d.1.1]) (Z (N (cZ x.1 [bh.mk (bn c.3 (az x.2.1) 0) d.1.1],aG .i64 x.2.1 1,()))))) (Z (H 0 x)))->
   fY F ([],0,()) (.out 0 (c.cX.map (λf=>(⟨f,bW 0 1⟩:bh)),(c.cX.length:Int),())):=by
  intro R B P F p;have:=qP (F:=F) c.cX.length (λk=>(((c.cX.take k).map (λf=>(⟨f,bW 0 1⟩:bh))),(k:Int),())) 0 (λk C=>bG λn=>by
   rw[p];have e:(c.cX.take (k+1)).map (λf=>(⟨f,bW 0 1⟩:bh))=(c.cX.take k).map (λf=>(⟨f,bW 0 1⟩:bh))++[⟨c.cX.getD k 0,bW 0 1⟩]:=by
    grind[List.take_succ_eq_append_getElem]
   have E:((c.cX.take k).map (λf=>(⟨f,bW 0 1⟩:bh))).length<=1000:=by simp;omega
   simp(disch:=first|omega|simp only[hJ];omega)only[aT,d108,ct,e]<;>rfl) (bG λn=>by
   rw[p];simp(disch:=omega) [aT]<;>rfl)
  simp_all
 have v:DI c (List.replicate c.dL.length aU,c.cX.map (λf=>(⟨f,bW 0 1⟩:bh)),0,()):=by
  have l:∀q:Int,eV (List.replicate c.dL.length aU) q=aU:=λq=>by unfold eV;rw[MN,List.getElem?_replicate];split<;>rfl
  refine⟨⟨Ig _,by grind⟩,?_,λj I=>by grind,by simp,λq _ _ r=>?_,λq _ _ r=>?_,λq _ _ _=>l q,λf b=>zc.2 ⟨f,b,rfl⟩,?_⟩
  .intro r w;obtain⟨f,b,rfl⟩:=zc.1 w;exact⟨.root b,⟨rfl,Ig _,show(0:Int)<=1 by decide⟩,(a.qV f b).1⟩
  .simp[l]at r;cases r
  .simp[l]at r;cases r
  grind[Nv]
 have start:∀{r:(L av×Bool×U)×U},Ev (λn=>ah (@iter DX (L av×Bool×U) U Any (λg=>aj (aE g.2.2.1 (aq g.2.1)) (aO (aI g.2.2.1 g.2.1) (aO (dV (az g.2.2.1) g.2.1) (aO (aI g.2.2.1 g.2.1) (aO (dV (az g.2.2.1) g.2.1) (aj (br (aq c.1) (bn g.2.1 (az g.2.2.1) aW).1) (nC n) (aj (aE 60 (bn g.2.1 (az g.2.2.1) aW).2.2) (nC n) (aj (aE 30 (bn g.2.1 (az g.2.2.1) aW).2.3) (nC n) (aO (vE g) (aO (dV (jv g) g.1) (aj (bn g.1 (jv g) aU).1 (aO (vE g) (aO (dV (jv g) g.1) (aj (au (bZ (o7 (bn g.1 (jv g) aU).1 (bn g.2.1 (az g.2.2.1) aW).2.1) (bZ (aa (bn g.1 (jv g) aU).2 (bn g.2.1 (az g.2.2.1) aW).2.2) (bZ (aa (bn g.1 (jv g) aU).3 (bn g.2.1 (az g.2.2.1) aW).2.3) W)))) (nC n) (Bn n (c,()) g)))) (Bn n (c,()) g))))))))))) (Z (H 0 g))) n (aev (az (aq c.1)) aU,c.cX.map (λf=>(⟨f,bW 0 1⟩:bh)),0,())) λg=>bK g (λ_ i=>Z ((i.1,W,()),())) (λ_ i=>Z (i,())) λ_ _=>Y) r->Ev (λn=>F51 n (c,())) r:=by
  intro r h;have y:nR (PR (aq c.1)) (gi (aq c.1) (aq c.1))=W:=by rw[mk];simp[nR,gi]
  show Ev (λn=>aO (nR (PR (aq c.1)) (gi (aq c.1) (aq c.1))) _) r;rw[y];refine Ev.bw (h1 (L av×Bool×U) U Any _ (λn x=>rfl)) _ r ?_;exact h
 let ⟨o,s,z⟩:=fY.inv (F:=λn=>_) (DI c) (λx=>2*qR x.1+(x.2.1.length-x.2.2.1.toNat)) (DQ c) (Vh a _ (λn g=>rfl)) _ v
 obtain⟨x,rfl,A⟩|⟨rfl,m⟩:=z
 .exact .inl ⟨x.1,A,start (Ev.bw s (λn e=>_) _ fc)⟩
 .exact .inr ⟨m,start (Ev.bw s (λn e=>_) _ fc)⟩
end
end
section
section
variable {n:Nat}{c:aA}{i:bN}{d:av}{m:Int}{op s e:Int}{out:List av}{todo:List Int}
def sZ(c:aA)(i:bN):eD:=
 if i.Op=4 then .a0 ⟨i.A+1⟩else if i.Op=10 then .a0 ⟨i.A⟩else if i.Op=8 then .a2 ⟨2⟩else if i.Op=34 then .a2 ⟨1⟩else .a1 ⟨(cr c i:Int)⟩
def aeC(io:OJ c i)(f:i.Op=18->0<=i.A∧i.A<c.Cons.length∧0<=(c.Cons.getD i.A.toNat aY).lg):F149 n (c,i,())=Z ((sZ c i,()),()):=by
 have h1:=io.lo;have h2:=io.hi;by_cases a:i.Op=18
 .obtain ⟨g,j,l⟩:=f a;unfold F149 zV xm sZ cr lY;rw[bO (by omega),bO (by omega),bO (by omega),bO (by omega),bB a];simp(disch:=omega)only[aT,a,aN];rw[show(((c.Cons.getD i.A.toNat aY).lg.toNat:Nat):Int)=(c.Cons.getD i.A.toNat aY).lg by omega]
 by_cases h4:i.Op=4
 .have:=io.place h4;unfold F149 sZ;rw[bB h4];simp(disch:=omega)only[aT,h4,ct]
 .obtain ⟨k,b⟩:∃k:Nat,i.Op=k:=⟨_,(Kt (by omega)).symm⟩;have d:1<=k:=by omega
  have e:k<=34:=by omega
  unfold sZ cr;rw[bO h4,bO a,show i.Op.toNat=k by omega];unfold F149;simp only[b]
  match k,d,e,b with
  |18,_,_,b=>omega|4,_,_,b=>omega
  |1,_,_,_|2,_,_,_|3,_,_,_|5,_,_,_|6,_,_,_|7,_,_,_|8,_,_,_|9,_,_,_|10,_,_,_|11,_,_,_|12,_,_,_|13,_,_,_|14,_,_,_|15,_,_,_|16,_,_,_|17,_,_,_
  |19,_,_,_|20,_,_,_|21,_,_,_|22,_,_,_|23,_,_,_|24,_,_,_|25,_,_,_|26,_,_,_|27,_,_,_|28,_,_,_|29,_,_,_|30,_,_,_|31,_,_,_|32,_,_,_|33,_,_,_|34,_,_,_=>rfl|k+35,_,h,_=>omega
def Uu(c:aA)(i:bN)(d:av):Bool:=match sZ c i with
 |.a0 x=>br x.env d.Env|.a1 x=>br x.stack d.Stack|.a2 x=>aa d.Stack x.stack|.none=>J
def KD(g:Lo d):Uu c i d=W↔yE c i d:=by
 have m:=g.s;have a:∀k:Nat,i.Op=k->k≠18->cr c i=nF.getD k 0:=λk h j=>by unfold cr;rw[bO (by omega),show i.Op.toNat=k by omega]
 unfold Uu sZ yE;by_cases h4:i.Op=4
 .have b:cr c i=0:=a 4 h4 (by decide);rw[bB h4];simp only[br,qE];omega
 by_cases e:i.Op=10
 .have b:cr c i=0:=a 10 e (by decide)
  simp_all[bO,bB,br,qE]
 by_cases l:i.Op=8
 .have b:cr c i=2:=a 8 l (by decide)
  simp_all[bO,bB,aa,xM]
 by_cases f:i.Op=34
 .have b:cr c i=1:=a 34 f (by decide)
  simp_all[bO,bB,aa,xM]
 simp_all[bO,br,qE]
abbrev CB:=(L bN)×(L aB)×(L Int)×Int×(L cw)×U
def cb(c:aA):CB:=(c.1,c.2,c.3,c.4,c.5,())
def QZ(f:Bu c)(b:0<=m)(h1:m<c.dL.length):xX n (m,d,(out,()),cb c,(todo,()),())=qt (m,d,(out,()),cb c,(todo,()),()) ((Uu c (aX c m) d,()),()):=by have a:=aeC (n:=n) (f.io b h1) (f.cn b h1);have g:aI m c.dL=W:=ie.2 ⟨b,h1⟩;unfold xX;show TL.aO (aI m c.dL) (ah (F149 n (c,aX c m,())) _)=_;rw[g,a];unfold Uu;cases e:sZ c (aX c m)with|a0 x=>rfl|a1 x=>rfl|a2 x=>rfl|none=>unfold sZ at e;(repeat' (split at e))<;>cases e
abbrev RX:=Int×av×((L av)×U)×CB×((L Int)×U)×U
def rx(c:aA)(m:Int)(d:av)(out:L av)(todo:L Int):RX:=(m,d,(out,()),cb c,(todo,()),())
theorem ME(l:Bu c)(hl:out.length=c.dL.length)(i:0<=m)(j:Lo d)(q:¬Good c m d∨((eV out m).Reached=W∧eV out m≠d)){dp:Nat} :
  ej n (dp+1) (rx c m d out todo)=Z ((J,()),(out,()),cb c,(todo,()),()):=by
 rw[zL];unfold xY rx;have f:out.getD m.toNat aU=eV out m:=rfl;by_cases o:(out.length:Int)<=m
 .unfold lf;simp only[aT,o]<;>rfl
 by_cases r:60<d.Stack
 .unfold lf;simp(disch:=omega)only[aT]<;>rfl
 by_cases s:30<d.Env
 .unfold lf;simp(disch:=omega)only[aT]<;>rfl
 have fail:(eV out m).Reached=W->eV out m≠d->xY n dp (m,d,(out,()),cb c,(todo,()),())=Z ((J,()),(out,()),cb c,(todo,()),()):=λh1 h2=>by have a:=adF h2;rw[h1]at a;unfold xY lf jk;simp(disch:=omega)only[aT,f,h1,a]<;>rfl
 have h5:=QZ (n:=n) (d:=d) (out:=out) (todo:=todo) l i (by omega);have b:¬Good c m d->Uu c (aX c m) d=J:=λh=>by cases p:Uu c (aX c m) d with|false=>rfl|true=>exact absurd ⟨i,by omega,by omega,by omega,(KD j).1 p,j.re⟩ h
 cases e:(eV out m).Reached with
 |true=>
  by_cases k:eV out m=d
  .have g:¬Good c m d:=by
    simp_all
   have a:=Yq k;rw[e]at a;rw[b g]at h5;unfold jk;simp(disch:=omega)only[aT,f,e,a,h5]<;>rfl
  .exact fail e k
 |false=>
  have g:¬Good c m d:=by
   simp_all
  rw[b g]at h5;unfold jk;simp(disch:=omega)only[aT,f,e,h5]<;>rfl
variable {dp:Nat}
def T0(g:Bu c)(hl:out.length=c.dL.length)(h:Lo d)(a:Good c m d)(b:eV out m=d) :
  ej n (dp+1) (rx c m d out todo)=Z ((W,()),(out,()),cb c,(todo,()),()):=by
 have i:=a.lo;have h1:=a.hi;have h2:=a.st;have h3:=a.en;rw[zL];unfold xY rx;have f:out.getD m.toNat aU=eV out m:=rfl;have h5:=QZ (n:=n) (d:=d) (out:=out) (todo:=todo) g i h1;rw[(KD h).2 a.ne]at h5;have e:(eV out m).Reached=W:=by rw[b];exact a.re
 have b:=Yq b;rw[e]at b;unfold jk;simp(disch:=omega)only[aT,f,e,b,h5];unfold qt jk;simp(disch:=omega)only[aT,f,e]<;>rfl
def T1(f:Bu c)(hl:out.length=c.dL.length)(g:Lo d)(a:Good c m d)(b:(eV out m).Reached=J)(i:todo.length<=100000) :
  ej n (dp+1) (rx c m d out todo)=Z ((W,()),(out.set m.toNat d,()),cb c,(todo++[m],()),()):=by
 have h:=a.lo;have h1:=a.hi;have h2:=a.st;have h3:=a.en;rw[zL];unfold xY rx;have e:out.getD m.toNat aU=eV out m:=rfl;have h5:=QZ (n:=n) (d:=d) (out:=out) (todo:=todo) f h h1;rw[(KD g).2 a.ne]at h5;unfold jk;simp(disch:=omega)only[aT,e,b,h5];unfold qt jk;simp(disch:=first|omega|simp only[hJ];omega)only[aT,e,b]<;>rfl
end
end
section
section
variable {n:Nat}{c:aA}{i:bN}{d:av}{m:Int}{op s e:Int}{out:List av}{todo:List Int}
theorem VC(n k:Nat):R290 n (k+1)=B290 n (R290 n k):=rfl
def aka:∀q:aB,aB.mk q.Form q.N q.Text q.Bf=q
 |⟨_,_,_,_⟩=>rfl
def Re(q:aB):Prop:=vR R290 (q,()) ((fX q,()),())
theorem Fu{R B P:Type}(d:Nat):∀(qs pre:L aB)(k:Int),0<=k->k+(qc qs:Int)<=100000->pre.length+qs.length<=100000->(∀q∈qs,Re q)->
  ∀F:Nat->Int×Int×U->O (LO (Int×Int×U) R B P),
  (∀n g,F n g=aj (aE g.2.1 (aq (pre++qs))) (aO (aI g.2.1 (pre++qs)) (ah (R290 n (n-d) (@bn aB (pre++qs) (az g.2.1) aK,())) λh=>Z (N (aG .i64 g.1 h.1.1,aG .i64 g.2.1 1,())))) (Z (H 0 g)))->
  fY F (k,(pre.length:Int),()) (.out 0 (k+n7 qs,((pre++qs).length:Int),()))
 |[],pre,k,_,_,_,_,F,b=>by unfold n7;refine .out (bG λn=>?_);rw[b];simp(disch:=omega)only[aT,kj,I0]<;>rfl
 |q::qs,pre,k,l,h1,e,c,F,b=>by
  unfold qc at h1;simp only[lQ]at e;have m:=wg q;have f:(pre++q::qs).getD pre.length aK=q:=qU ..;have h2:=Fu (R:=R) (B:=B) (P:=P) d qs (pre++[q]) (k+fX q) (by omega) (by omega) (by simp;omega) (λi h=>c i (ic _ h)) F (λn g=>by rw[b];simp only[v5,Ku]<;>rfl);have h3:=c q eJ d;simp only[v5,Ku]at h2;unfold n7;rw[<-Int.add_assoc];refine .next (y:=(k+fX q,((pre++[q]).length:Int),())) ?_ h2
  obtain⟨a,h3⟩:=h3;refine⟨a,λn j=>?_⟩;have:=h3 n j;show F n _=_;rw[b];simp(disch:=first|omega|simp only[hJ];omega)only[aT,f,lD,pF,iV,iX];refine(cU (λx=>ah x _) this).trans ?_;show Z (N (aG .i64 k (fX q),aG .i64 (pre.length:Int) 1,()))=_
  grind[ct]
theorem WY{cons:L cw}:∀q:aB,pw q<=1000->tw cons q->Re q
 |⟨a,n0,text,parts⟩,o,b=>by
  have j:a=2->parts=[]:=by
   grind[tw]
  have l:oN cons parts:=by
   unfold tw at b;obtain c|c|c|c:=b
   .rw[c.2.2.2];trivial
   .rw[c.2.2.2];trivial
   .rw[c.2.2.2];trivial
   simp_all
  unfold pw at o;have v:=Aw parts;refine vR.step VC λd=>?_;have m:=λ(k:Int)(p:0<=k)(h1:k<=1)=>Fu (R:=Int×U) (B:=U) (P:=Any) d parts [] k p (by omega) (by grind) (λq r=>names' parts (by omega) l q r) _ (λn g=>rfl);have s:∀n,B290 n (R290 n (n-d)) (⟨a,n0,text,parts⟩,())=ah (@iter (Int×Int×U) (Int×U) U Any (λg=>aj (aE g.2.1 (aq parts)) (aO (aI g.2.1 parts) (ah (R290 n (n-d) (@bn aB parts (az g.2.1) aK,())) λh=>Z (N (aG .i64 g.1 h.1.1,aG .i64 g.2.1 1,())))) (Z (H 0 g))) n ((if a=2 then 1 else 0),0,())) λg=>bK g (λ_ i=>Z ((i.1,()),())) (λ_ i=>Z (i,())) λ_(_:Any)=>Y:=by
   intro n;unfold B290 HM;by_cases h:a=2
   .simp only[aT,h,ki,aN,aka]<;>rfl
   .simp (disch:=omega)only[aT,h,jS,aN,aka]<;>rfl
  refine Ev.vQ s ?_;by_cases h:a=2
  .rw[bB h];refine Ev.bw (m 1 (by omega) (by omega)) (λn e=>_) _ ?_;exact bG λn=>by unfold fX;rw[bB h,j h];rfl
  .rw[bO h];refine Ev.bw (m 0 (by omega) (by omega)) (λn e=>_) _ ?_;exact bG λn=>by unfold fX;rw[bO h,Int.zero_add];rfl
where
 names':∀(f:L aB),qc f<=1000->oN cons f->∀q∈f,Re q
 |[],_,_,_,h=>by cases h
 |q::f,t,b,u,h=>by
  unfold qc at t;unfold oN at b;obtain h|h:=ga.1 h
  .rw[h];exact WY q (by omega) b.1
  .exact names' f (by omega) b.2 u h
def o5(c:aA)(i:bN):Int:=if i.Op=8∨i.Op=20∨i.Op=34 then 0 else(if i.Op=9∨i.Op=10∨i.Op=11∨i.Op=12∨i.Op=19 then 0 else 1)-(cr c i:Int)
def lu(c:aA)(i:bN):Int:=if i.Op=9 then 1 else if i.Op=10 then -i.A else if i.Op=19 then fX (iZ c i.A)else 0
theorem amL(o:Bu c)(p:0<=m)(h1:m<c.dL.length)(hi:aX c m=i):Ev (λn=>F235 n (c,i,())) ((o5 c i,lu c i,()),()):=by
 have io:=o.io p h1;have cn:=o.cn p h1;have tl:=EU o p h1;rw[hi]at io cn tl;have w:=io.lo;have y:=io.hi;by_cases b:i.Op=18
 .obtain ⟨z,A,B⟩:=cn b;refine bG λn=>?_;have g:(cr c i:Int)=(c.Cons.getD i.A.toNat aY).lg:=by unfold cr lY;grind
  have u:o5 c i=1-(c.Cons.getD i.A.toNat aY).lg:=by unfold o5;rw[bO (by omega),bO (by omega),g]
  have ge:lu c i=0:=by unfold lu;rw[bO (by omega),bO (by omega),bO (by omega)]
  unfold F235 oT sR;simp(disch:=omega)only[aT,b,aN,dh,u,ge]<;>rfl
 by_cases d:i.Op=10
 .have C:=io.drop d;have q:OY .i64 i.A=-i.A:=by show IntKind.wrap .i64 (-i.A)=_;exact Ef (by omega) (by omega)
  refine bG λn=>?_;have g:cr c i=0:=by unfold cr;rw[bO b,show i.Op.toNat=10 by omega];rfl
  unfold F235 oT sR o5 lu;rw[bO (by omega),bB (by omega),g,bO (by omega),bB d];simp(disch:=omega)only[aT,d,aN,q]<;>rfl
 by_cases e:i.Op=19
 .have E:=io.AY e;have r:=o.pats _ (bV aK (show i.A.toNat<c.eC.length by omega));obtain⟨a,f⟩:=WY _ (by omega) r.1 0;have j:∀n,a<=n->F290 n (c.eC.getD i.A.toNat aK,())=Z ((fX (c.eC.getD i.A.toNat aK),()),()):=f;have g:cr c i=1:=by unfold cr;rw[bO b,show i.Op.toNat=19 by omega];rfl
  refine⟨a,λn v=>?_⟩;have f:=j n v;show F235 n _=_;unfold F235 oT sR o5 lu;rw[bO (by omega),bB (by omega),g,bO (by omega),bO d,bB e];simp(disch:=omega)only[aT,e,aN];exact(cU (λx=>ah x _) f).trans rfl
 .obtain ⟨k,l⟩:∃k:Nat,i.Op=k:=⟨_,(Kt (by omega)).symm⟩;have s:1<=k:=by omega
  have t:k<=34:=by omega
  refine bG λn=>?_;unfold o5 lu cr;rw[bO b,show i.Op.toNat=k by omega];unfold F235;simp only[l]
  match k,s,t,l with
  |18,_,_,l=>omega|10,_,_,l=>omega|19,_,_,l=>omega
  |1,_,_,_|2,_,_,_|3,_,_,_|4,_,_,_|5,_,_,_|6,_,_,_|7,_,_,_|8,_,_,_|9,_,_,_|11,_,_,_|12,_,_,_|13,_,_,_|14,_,_,_|15,_,_,_|16,_,_,_|17,_,_,_
  |20,_,_,_|21,_,_,_|22,_,_,_|23,_,_,_|24,_,_,_|25,_,_,_|26,_,_,_|27,_,_,_|28,_,_,_|29,_,_,_|30,_,_,_|31,_,_,_|32,_,_,_|33,_,_,_|34,_,_,_=>rfl|k+35,_,h,_=>omega
theorem ahL(io:OJ c i):F236 n (i,sZ c i,())=Z ((decide (i.Op=8∨i.Op=20∨i.Op=34),()),()):=by
 unfold F236 sZ;have y:∀x,mG [(315,Ty.st 31),(317,Ty.st 32),(318,Ty.st 33)] 2 (jt 34 (eD.a0 x))=J:=λ_=>rfl;have z:∀x,mG [(315,Ty.st 31),(317,Ty.st 32),(318,Ty.st 33)] 2 (jt 34 (eD.a1 x))=J:=λ_=>rfl;have u:∀x,mG [(315,Ty.st 31),(317,Ty.st 32),(318,Ty.st 33)] 2 (jt 34 (eD.a2 x))=W:=λ_=>rfl;by_cases h4:i.Op=4
 .rw[bB h4,y,jl (by omega)];simp(disch:=omega)only[aT,h4]<;>rfl
 by_cases a:i.Op=10
 .rw[bO h4,bB a,y,jl (by omega)];simp(disch:=omega)only[aT,a]<;>rfl
 by_cases d:i.Op=8
 .rw[bO h4,bO a,bB d,u,kO (.inl d)];rfl
 by_cases b:i.Op=34
 .rw[bO h4,bO a,bO d,bB b,u,kO (.inr (.inr b))];rfl
 rw[bO h4,bO a,bO d,bO b,z];show Z ((aa i.Op 20,()),())=_
 grind[decide_eq_true,xM,decide_eq_false,aa]
end
end
section
section
variable {n:Nat}{c:aA}{i:bN}{d e:av}{m x:Int}{out:List av}{todo:List Int}{mm:Int->Prop}
abbrev PX:=((L av)×U)×CB×((L Int)×U)×(Bool×U)×U
abbrev PO:=LO PX (L av×Int×U) PX Any
def px(c:aA)(out:L av)(todo:L Int)(b:Bool):PX:=((out,()),cb c,(todo,()),(b,()),())
structure PJ(c:aA)(mm:Int->Prop)(out:List av)(todo:List Int):Prop where
 pi:PI c (λn=>n∈todo∨mm n) out
 td:∀n∈todo,0<=n∧n<c.dL.length∧(eV out n).Reached=W
 sz:todo.length+qR out<=c.dL.length
 lo:∀n:Int,0<=n->n<c.dL.length->(eV out n).Reached=W->Lo (eV out n)
structure Got(c:aA)(mm:Int->Prop)(l:List (Int×av))(out:List av)(todo:List Int)(out':List av)(todo':List Int):Prop where
 pj:PJ c mm out' todo'
 keep:j6 out out'
 all:∀y∈l,0<=y.1∧y.1<c.dL.length∧eV out' y.1=y.2∧y.2.Reached=W
 le:2*qR out'+todo'.length<=2*qR out+todo.length
theorem za(o:Bu c)(h:PJ c mm out todo)(f:LK c x d)(hlo:Lo d)(g:0<=x) :
  (∃i b,(∀n l,ej n (l+1) (rx c x d out todo)=Z ((W,()),(i,()),cb c,(b,()),()))∧Got c mm [(x,d)] out todo i b)∨
  (NoD c∧∀n l,ej n (l+1) (rx c x d out todo)=Z ((J,()),(out,()),cb c,(todo,()),())):=by
 have p:=h.pi.len;have z:=h.sz;have v:=o.len;by_cases a:Good c x d
 .cases m:(eV out x).Reached with
  |true=>
   by_cases r:eV out x=d
   .refine .inl ⟨out,todo,λn l=>T0 o p hlo a r,h,j6.refl,λy s=>?_,eR _⟩;rw[rL.1 s];exact⟨g,a.hi,r,a.re⟩
   .exact .inr ⟨Xd o (h.pi.re x g a.hi m).1 f r,λn l=>ME o p g hlo (.inr ⟨m,r⟩)⟩
  |false=>
   have w:=Jk (out:=out) (k:=x.toNat) (d:=d) (by have:=a.hi;omega) m a.re;have j:=λ(q:Int)(e:0<=q)=>EF (d:=d) (out:=out) g (by have:=a.hi;omega) e;refine .inl ⟨out.set x.toNat d,todo++[x],λn l=>T1 o p hlo a m (by omega),⟨(h.pi.set f a m).mono λq e=>?_,λq e=>?_,by grind,λq u q1 t=>?_⟩,UF p a m,λy s=>?_,by grind⟩
   .grind
   .obtain e|e:=eZ.1 e
    .have:=h.td q e
     grind
    .rw[rL.1 e];exact⟨g,a.hi,by rw[j x g,bB rfl];exact a.re⟩
   .rw[j q u]at t ⊢;by_cases e:q=x
    .simp_all
    .rw[bO e]at t ⊢;exact h.lo q u q1 t
   .rw[rL.1 s];exact⟨g,a.hi,by rw[j x g,bB rfl],a.re⟩
 grind[Ar,ME]
noncomputable def Up(n a:Nat)(x:RX):O PO:=ah (ej n (a+8) x) (oR n)
noncomputable def Mh(n a:Nat)(i:PX)(x:RX)(k:(av×U)×U):O PO:=
 ah (ej n (a+8) x) λl=>aj (au l.1.1) (DC n l) (ah (F149 n (nB i)) λm=>ah (ni n i m) λo=>aj (au o.1.1) (ah (ej n (a+8) (sQ i k l)) (oR n)) (DB n l))
def RQ(c:aA)(mm:Int->Prop)(l:L (Int×av))(out:L av)(todo:L Int)(o:PO):Prop:=
 (∃b a,o=.next (px c b a W)∧Got c mm l out todo b a)∨(∃b a,o=.out 0 (px c b a J)∧NoD c)
def Xa(g:Bu c)(h:PJ c mm out todo)(e:LK c x d)(hlo:Lo d)(i:0<=x):∃o,(∀n f,Up n f (rx c x d out todo)=Z o)∧RQ c mm [(x,d)] out todo o:=by
 obtain⟨b,a,h1,h2⟩|⟨h1,h2⟩:=za g h e hlo i
 .refine ⟨.next (px c b a W),λn f=>?_,.inl ⟨b,a,rfl,h2⟩⟩;unfold Up;rw[h1 n (f+7)];rfl
 .refine ⟨.out 0 (px c out todo J),λn f=>?_,.inr ⟨out,todo,rfl,h1⟩⟩;unfold Up;rw[h2 n (f+7)];rfl
theorem ahw(l:Bu c)(h:PJ c mm out todo)(p:LK c x d)(hlo:Lo d)(z:0<=x){i:PX}{k:(av×U)×U}(hi:jg i=aX c m)(h4:nB i=(c,aX c m,()))(t:0<=m)(u:m<c.dL.length)
  (A:¬((aX c m).Op=8∨(aX c m).Op=20∨(aX c m).Op=34)) (h2:ij i=m) (B:k.1.1=e) (f:LK c (m+1) e) (q:Lo e) :
  ∃o,(∀n j,Mh n j i (rx c x d out todo) k=Z o)∧RQ c mm [(m+1,e),(x,d)] out todo o:=by
 have C:=l.len;obtain⟨b,a,h1,g⟩|⟨h1,g⟩:=za l h p hlo z
 .have E:=λn=>aeC (n:=n) (l.io t u) (l.cn t u);have w:=λn=>ahL (n:=n) (l.io t u);rw[jl A]at w;obtain⟨o,F,v⟩:=Xa l g.pj f q (show 0<=m+1 by omega);have I:sQ i k ((W,()),(b,()),cb c,(a,()),())=rx c (m+1) e b a:=by unfold sQ;rw[h2,B,ct (by omega) (by omega)];rfl
  refine⟨o,λn j=>?_,?_⟩
  .have:=F n j;unfold Up at this;unfold Mh;rw[h1 n (j+7),h4];show ah (F149 n (c,aX c m,())) _=_;rw[E];show ah (ni n i _) _=_;unfold ni;rw[hi];show ah (F236 n (aX c m,sZ c (aX c m),())) _=_;rw[w];show ah (ej n (j+8) (sQ i k ((W,()),(b,()),cb c,(a,()),()))) _=_
   simp_all
  .obtain ⟨K,t2,P,r⟩|v:=v
   .refine .inl ⟨K,t2,P,r.pj,g.keep.trans r.keep,λy s=>?_,gD r.le g.le⟩;obtain s|s:=ga.1 s
    .exact r.all y (by simp_all)
    .have:=g.all y s;exact⟨this.1,this.2.1,by rw[r.keep y.1 this.1 (by simp_all)];grind,this.2.2.2⟩
   .exact .inr v
 .refine ⟨.out 0 (px c out todo J),λn j=>?_,.inr ⟨out,todo,rfl,h1⟩⟩;unfold Mh;rw[g n (j+7)];rfl
theorem PJ.pop{rest:L Int}(h:PJ c (λ_=>False) out (rest++[m])):PJ c (λq=>q=m) out rest:=
 ⟨h.pi.mono λq a=>by
  simp_all,λq a=>h.td q (fU _ a),by have:=h.sz;grind,h.lo⟩
theorem PJ.ahv(h:PJ c (λq=>q=m) out todo)(hn:∀y∈dM c m (eV out m),0<=y.1∧y.1<c.dL.length∧eV out y.1=y.2):PJ c (λ_=>False) out todo:=
 ⟨⟨h.pi.len,h.pi.re,λq a q1 b e y d=>by
  by_cases f:q=m
  .grind
  .exact h.pi.fo q a q1 b (λg=>by
    simp_all) y d,h.pi.zero⟩,h.td,h.sz,h.lo⟩
end
end
section
section
variable {n:Nat}{c:aA}{i:bN}{d e:av}{m x:Int}{out:List av}{todo rest:List Int}{mm:Int->Prop}
noncomputable def Ir(n a:Nat)(i:PX)(k:(av×U)×U):O PO:=
 aj (aa (jg i).1 11) (Up n a (tY i k)) (aj (aa (jg i).1 12) (Mh n a i (tY i k) k) (aj (aa (jg i).1 19) (Mh n a i (Hx i) k)
 (aj (aa (jg i).1 6) (ah (F152 n (0,aG .i64 (bn i.1.1 (az (ij i)) aU).3 1,())) λl=>Mh n a i (tY i l) k) (aj (aa (jg i).1 32) (ah (F152 n (0,aG .i64 (bn i.1.1 (az (ij i)) aU).3 1,())) λl=>Mh n a i (tY i l) k)
 (aj (aa (jg i).1 31) (ah (F152 n (0,(bn i.1.1 (az (ij i)) aU).3,())) λl=>Mh n a i (tY i l) k)
 (ah (F149 n (nB i)) λl=>ah (ni n i l) λm=>aj (au m.1.1) (Up n a (aG .i64 (ij i) 1,k.1.1,Hv i)) (Hw n i)))))))
noncomputable def TY(n a:Nat)(i:PX):O PO:=
 aj (aE 0 (aq i.2.2.1.1)) (aO (aI (sj i) i.2.2.1.1) (aO (dV (az (sj i)) i.2.2.1.1) (aO (eK 0 (sj i) (aq i.2.2.1.1)) (aO (aI (ij i) i.1.1) (aO (dV (az (ij i)) i.1.1) (aO (aI (ij i) i.2.1.1) (ah (F235 n (nB i)) λj=>ah (JW n i j) λk=>Ir n a i k))))))) (Z (H 0 i))
theorem aj7(A:Bu c)(h:PJ c (λ_=>False) out (rest++[m])){k:(av×U)×U}(w:k.1.1=bW ((eV out m).Stack+o5 c (aX c m)) ((eV out m).Env+lu c (aX c m))) :
  ∃o,(∀n f,Ir n f (px c out (rest++[m]) W) k=Z o)∧RQ c (λq=>q=m) (dM c m (eV out m)) out rest o:=by
 obtain⟨B,C,mr⟩:=h.td m (by simp);obtain⟨E,S⟩:=h.pi.re m B C mr;have io:=A.io B C;have hcl:=A.len;have Q:=h.pop;have hsz:=h.sz;rw[lD,pF]at hsz;have b1:sj (px c out (rest++[m]) W)=(rest.length:Int):=by show bf .i64 (((rest++[m]).length:Nat):Int) 1=_;rw[lD,pF,dh]<;>omega
 have F:ij (px c out (rest++[m]) W)=m:=by unfold ij;rw[b1];exact hU rest m 0 [] rfl
 have p:jg (px c out (rest++[m]) W)=aX c m:=by unfold jg;rw[F];rfl
 have b4:nB (px c out (rest++[m]) W)=(c,aX c m,()):=by unfold nB;rw[p];rfl
 have b6:Hv (px c out (rest++[m]) W)=((out,()),cb c,(rest,()),()):=by unfold Hv;rw[b1];show((out,()),cb c,(cG (rest++[m]) 0 (rest.length:Int),()),())=_;rw[jJ _ _ rfl]
 have I:∀l:(av×U)×U,tY (px c out (rest++[m]) W) l=rx c (aX c m).A l.1.1 out rest:=λl=>by unfold tY;rw[p,b6];rfl
 have b13:Hx (px c out (rest++[m]) W)=rx c (aX c m).B (eV out m) out rest:=by unfold Hx;rw[p,b6,F];rfl
 have be:(bn (px c out (rest++[m]) W).1.1 (az (ij (px c out (rest++[m]) W))) aU).3=(eV out m).Env:=by rw[F];rfl
 have b16:∀n,Hw n (px c out (rest++[m]) W)=Z (.next (px c out rest W)):=by intro n;unfold Hw;rw[b1];show Z (N ((out,()),cb c,(cG (rest++[m]) 0 (rest.length:Int),()),((W,()),())))=_;rw[jJ _ _ rfl];rfl
 have K:∀n,F149 n (c,aX c m,())=Z ((sZ c (aX c m),()),()):=λn=>aeC io (A.cn B C);have u:∀n,ni n (px c out (rest++[m]) W) ((sZ c (aX c m),()),())=Z ((decide ((aX c m).Op=8∨(aX c m).Op=20∨(aX c m).Op=34),()),()):=λn=>by
  grind[ni,ahL]
 have lo:=h.lo m B C mr;have nl:=λy R=>Nj A B C S.ne lo (x:=y) R;have nd:=λ(y:Int×av)R=>LK.next E (x:=y) R
 generalize hG:eV out m=a at *
 have hGe:a=bW a.Stack a.Env:=Ld S.re;by_cases g:(aX c m).Op=8∨(aX c m).Op=20∨(aX c m).Op=34
 .have i:dM c m a=[]:=by unfold dM;obtain h|h|h:=g<;>simp only[show ∀k:Nat,(aX c m).Op=k->(aX c m).Op.toNat=k from λk h=>by omega,h]<;>rfl
  refine⟨.next (px c out rest W),λn f=>?_,.inl ⟨out,rest,rfl,Q,j6.refl,λy R=>?_,eR _⟩⟩
  .unfold Ir;rw[p,b4];rw[kO g]at u;have n1:(aX c m).Op≠11:=by omega
   have n2:(aX c m).Op≠12:=by omega
   have n3:(aX c m).Op≠19:=by omega
   have n4:(aX c m).Op≠6:=by omega
   have n5:(aX c m).Op≠32:=by omega
   have n6:(aX c m).Op≠31:=by omega
   simp(disch:=omega)only[aT,n1,n2,n3,n4,n5,n6,K,u];exact b16 n
  grind
 rw[jl g]at u;have gl:a.Stack+o5 c (aX c m)=fW c (aX c m) a:=by unfold o5 fW;omega
 rw[gl]at w;have two:=λ{x:Int}{d e:av}(hd:LK c x d)(hl:Lo d)(hx:0<=x)(k:(av×U)×U)(w:k.1.1=e)(hd':LK c (m+1) e)(hl':Lo e)=>ahw (k:=k) A Q hd hl hx p b4 B C g F w hd' hl';by_cases k11:(aX c m).Op=11
 .have i:dM c m a=[((aX c m).A,a)]:=by
   grind[dM,aX]
  have b:k.1.1=a:=by
   have tk:cr c (aX c m)=0:=by unfold cr;rw[bO (by omega),show(aX c m).Op.toNat=11 by omega];rfl
   have l1:fW c (aX c m) a=a.Stack:=by unfold fW;omega
   have g1:lu c (aX c m)=0:=by unfold lu;rw[bO (by omega),bO (by omega),bO (by omega)]
   grind
  rw[i]at nl nd ⊢;obtain⟨o,j,r⟩:=Xa A Q (nd _ (uo _)) (nl _ (uo _)).2 (nl _ (uo _)).1;refine⟨o,λn f=>?_,r⟩;unfold Ir;rw[p];simp only[aT,k11,I,b];exact j n f
 by_cases k12:(aX c m).Op=12
 .have i:dM c m a=[(m+1,bW (fW c (aX c m) a) a.Env),((aX c m).A,bW (fW c (aX c m) a) a.Env)]:=by
   grind[dM,aX]
  have b:k.1.1=bW (fW c (aX c m) a) a.Env:=by rw[w];unfold lu;rw[bO (by omega),bO (by omega),bO (by omega),I0]
  rw[i]at nl nd ⊢;obtain⟨o,j,r⟩:=two (nd _ (ic _ (uo _))) (nl _ (ic _ (uo _))).2 (nl _ (ic _ (uo _))).1 k b (nd _ eJ) (nl _ eJ).2;refine⟨o,λn f=>?_,r⟩;unfold Ir;rw[p];simp(disch:=omega)only[aT,k11,k12,I,b];exact j n f
 by_cases v:(aX c m).Op=19
 .have i:dM c m a=[(m+1,bW (fW c (aX c m) a) (a.Env+fX (iZ c (aX c m).A))),((aX c m).B,a)]:=by
   grind[dM,aX]
  have b:k.1.1=bW (fW c (aX c m) a) (a.Env+fX (iZ c (aX c m).A)):=by rw[w];unfold lu;rw[bO (by omega),bO (by omega),bB v]
  rw[i]at nl nd ⊢;obtain⟨o,j,r⟩:=two (nd _ (ic _ (uo _))) (nl _ (ic _ (uo _))).2 (nl _ (ic _ (uo _))).1 k b (nd _ eJ) (nl _ eJ).2;refine⟨o,λn f=>?_,r⟩;unfold Ir;rw[p];simp(disch:=omega)only[aT,v,b13];exact j n f
 have t:∀n s e,F152 n (s,e,())=Z ((bW s e,()),()):=λ_ _ _=>rfl;have ae:aG .i64 a.Env 1=a.Env+1:=ct (by have:=lo.e;omega) (by have:=S.en;omega);by_cases z:(aX c m).Op=6∨(aX c m).Op=32
 .have i:dM c m a=[(m+1,bW (fW c (aX c m) a) a.Env),((aX c m).A,bW 0 (a.Env+1))]:=by unfold dM;obtain h|h:=z<;>simp only[show ∀k:Nat,(aX c m).Op=k->(aX c m).Op.toNat=k from λk h=>by omega,h]<;>rfl
  have b:k.1.1=bW (fW c (aX c m) a) a.Env:=by rw[w];unfold lu;rw[bO (by omega),bO (by omega),bO (by omega),I0]
  rw[i]at nl nd ⊢;obtain⟨o,j,r⟩:=two (nd _ (ic _ (uo _))) (nl _ (ic _ (uo _))).2 (nl _ (ic _ (uo _))).1 k b (nd _ eJ) (nl _ eJ).2;refine⟨o,λn f=>?_,r⟩;unfold Ir;rw[p,be];obtain h|h:=z
  .simp (disch:=omega)only[aT,h,ae,t,I];exact j n f
  .simp (disch:=omega)only[aT,h,ae,t,I];exact j n f
 by_cases P:(aX c m).Op=31
 .have i:dM c m a=[(m+1,bW (fW c (aX c m) a) a.Env),((aX c m).A,bW 0 a.Env)]:=by
   grind[dM,aX]
  have b:k.1.1=bW (fW c (aX c m) a) a.Env:=by rw[w];unfold lu;rw[bO (by omega),bO (by omega),bO (by omega),I0]
  rw[i]at nl nd ⊢;obtain⟨o,j,r⟩:=two (nd _ (ic _ (uo _))) (nl _ (ic _ (uo _))).2 (nl _ (ic _ (uo _))).1 k b (nd _ eJ) (nl _ eJ).2;refine⟨o,λn f=>?_,r⟩;unfold Ir;rw[p,be];simp(disch:=omega)only[aT,P,t,I];exact j n f
 have k6:(aX c m).Op≠6:=by omega
 have k32:(aX c m).Op≠32:=by omega
 have i:dM c m a=[(m+1,bW (fW c (aX c m) a) (a.Env+lu c (aX c m)))]:=by
  unfold lu dM;have:=io.lo;dsimp only;by_cases k9:(aX c m).Op=9
  .grind
  by_cases k10:(aX c m).Op=10
  .grind
  rw[bO k9,bO k10,bO v,I0];split<;>first|rfl|(exfalso;omega)
 rw[i]at nl nd ⊢;obtain⟨o,j,r⟩:=Xa A Q (nd _ (uo _)) (nl _ (uo _)).2 (nl _ (uo _)).1;refine⟨o,λn f=>?_,r⟩;unfold Ir;rw[p,b4];have am:aG .i64 m 1=m+1:=ct (by omega) (by omega);simp(disch:=omega)only[aT,k11,k12,v,k6,k32,P,K,u,F,am,b6,w];exact j n f
end
end
section
section
variable {n:Nat}{c:aA}{i:bN}{d e:av}{m x:Int}{out:List av}{todo rest:List Int}{mm:Int->Prop}
def ahC(a:Bu c)(h:PJ c (λ_=>False) out (rest++[m])):∃o,Ev (λn=>TY n n (px c out (rest++[m]) W)) o∧RQ c (λq=>q=m) (dM c m (eV out m)) out rest o:=by
 obtain⟨b,d,i⟩:=h.td m (by simp);obtain⟨l,p⟩:=h.pi.re m b d i;have lo:=h.lo m b d i;have Q:=h.pi.len;have s:=a.len;have e:=h.sz;have t:=EU a b d;rw[lD,pF]at e;have r:sj (px c out (rest++[m]) W)=(rest.length:Int):=by show bf .i64 (((rest++[m]).length:Nat):Int) 1=_;rw[lD,pF,dh]<;>omega
 have f:ij (px c out (rest++[m]) W)=m:=by unfold ij;rw[r];exact hU rest m 0 [] rfl
 have u:jg (px c out (rest++[m]) W)=aX c m:=by unfold jg;rw[f];rfl
 have v:nB (px c out (rest++[m]) W)=(c,aX c m,()):=by unfold nB;rw[u];rfl
 have R:-3<=o5 c (aX c m)∧o5 c (aX c m)<=1:=by unfold o5;split<;>(try split)<;>omega
 have io:=a.io b d;have S:-30<=lu c (aX c m)∧lu c (aX c m)<=12:=by
  unfold lu;split
  .omega
  split
  .have:=io.drop (by assumption);omega
  split
  .have hp:=io.AY (by assumption);have w:=a.pats _ (bV aK (show(aX c m).A.toNat<c.eC.length by omega));have x:=wg (iZ c (aX c m).A);unfold iZ at *
   omega
  .omega
 have y:∀n,JW n (px c out (rest++[m]) W) ((o5 c (aX c m),lu c (aX c m),()),())=Z ((bW ((eV out m).Stack+o5 c (aX c m)) ((eV out m).Env+lu c (aX c m)),()),()):=by intro n;have:=lo.s;have:=lo.e;have:=p.st;have:=p.en;unfold JW;rw[f];show Z ((bW (aG .i64 (eV out m).Stack (o5 c (aX c m))) (aG .i64 (eV out m).Env (lu c (aX c m))),()),())=_;rw[ct (by omega) (by omega),ct (by omega) (by omega)]
 obtain⟨o,z,A⟩:=aj7 a h (k:=((bW ((eV out m).Stack+o5 c (aX c m)) ((eV out m).Env+lu c (aX c m)),()),())) rfl;refine⟨o,?_,A⟩;refine Ev.vQ (g:=λn=>ah (F235 n (c,aX c m,())) λj=>ah (JW n (px c out (rest++[m]) W) j) λk=>Ir n n (px c out (rest++[m]) W) k) (λn=>?_) (Ev.ah (amL a b d rfl) ?_)
 .unfold TY;rw[r,f,v];have B:aE 0 (aq (px c out (rest++[m]) W).2.2.1.1)=W:=Ey.2 (by show(0:Int)<(((rest++[m]).length:Nat):Int);simp<;>omega);have C:aI (rest.length:Int) (px c out (rest++[m]) W).2.2.1.1=W:=ie.2 (by show _∧_<(((rest++[m]).length:Nat):Int);simp<;>omega);have E:dV (az (rest.length:Int)) (px c out (rest++[m]) W).2.2.1.1=W:=by show decide (rest.length<(rest++[m]).length)=W;simp
  have F:eK 0 (rest.length:Int) (aq (px c out (rest++[m]) W).2.2.1.1)=W:=uQ.2 (by show _∧_∧_<=(((rest++[m]).length:Nat):Int);simp<;>omega);have I:aI m (px c out (rest++[m]) W).1.1=W:=ie.2 (by show _∧_<((out.length:Nat):Int);omega);have K:dV (az m) (px c out (rest++[m]) W).1.1=W:=by show decide (m.toNat<out.length)=W;simp<;>omega
  have P:aI m (px c out (rest++[m]) W).2.1.1=W:=ie.2 (by show _∧_<((c.dL.length:Nat):Int);omega);rw[B,C,E,F,I,K,P];rfl
 .refine bG λn=>?_;rw[y];exact z n n
structure PK(c:aA)(x:PX):Prop where
 st:∃out todo,x=px c out todo W∧PJ c (λ_=>False) out todo∧∀f∈c.cX,eV out f=bW 0 1
def PQ(c:aA)(o:PO):Prop:=(∃out todo,o=.out 0 (px c out todo W)∧VY c out)∨(∃out todo,o=.out 0 (px c out todo J)∧NoD c)
theorem ahX(k:Bu c){x':PX}(h:PK c x'):∃o,fY (λn=>TY n n) x' o∧PQ c o:=by
 refine fY.inv (F:=λn=>TY n n) (PK c) (λx=>2*qR x.1.1+x.2.2.1.1.length) (PQ c) (λx t=>?_) x' h;obtain⟨out,todo,rfl,d,e⟩:=t.st;obtain rfl|⟨rest,m,rfl⟩:=Sq todo
 .refine .inr ⟨.out 0 (px c out [] W),(λy h=>by cases h),bG λn=>?_,.inl ⟨out,[],rfl,?_⟩⟩
  .rfl
  .exact PI.done (d.pi.mono λq l=>by
    simp_all) e
 .rw[Sp]at *
  obtain⟨o,p,l⟩:=ahC k d;obtain⟨b,a,rfl,g⟩|⟨b,a,rfl,i⟩:=l
  .have r:=d.td m (by simp);refine .inl ⟨_,p,⟨⟨b,a,rfl,g.pj.ahv λy s=>?_,λf j=>?_⟩⟩,?_⟩
   .rw[g.keep m r.1 r.2.2]at s;have:=g.all y s
    simp_all
   .rw[g.keep f (k.qV f j).1 (by rw[e f j];rfl)];exact e f j
   .have:=g.le;show 2*qR b+a.length<2*qR out+(rest++[m]).length
    grind
  .exact .inr ⟨_,(λy h=>by cases h),p,.inr ⟨b,a,rfl,i⟩⟩
abbrev QX:=Int×((L av)×U)×CB×((L Int)×U)×U
abbrev QS:=((L av)×U)×CB×((L Int)×U)×U
noncomputable def MC(c:aA)(n a:Nat)(e:QX):O (LO QX (Int×U) QS Any):=
 aj (aE e.1 (aq c.3)) (aO (aI e.1 c.3) (ah (F152 n (0,1,())) λg=>ah (ej n (a+5) (bn c.3 (az e.1) 0,g.1.1,e.2)) λh=>aj (au h.1.1) (Z (X h.2 (e.1,()))) (Z (N (aG .i64 e.1 1,h.2))))) (Z (H 0 e))
structure QK(c:aA)(x:QX):Prop where
 st:∃(k:Nat)(out:List av)(todo:List Int),x=((k:Int),(out,()),cb c,(todo,()),())∧k<=c.cX.length∧PJ c (λ_=>False) out todo∧∀j:Nat,j<k->eV out (c.cX.getD j 0)=bW 0 1
def QQ(c:aA)(o:LO QX (Int×U) QS Any):Prop:=
 (∃(k:Int)(out:L av)(todo:L Int),o=.out 0 (k,(out,()),cb c,(todo,()),())∧PJ c (λ_=>False) out todo∧∀f∈c.cX,eV out f=bW 0 1)∨∃(s:QS)(k:Nat),o=.ret s ((k:Int),())∧NoD c
theorem ahY(e:Bu c){x:QX}(h:QK c x):∃o,fY (λn=>MC c n n) x o∧QQ c o:=by
 refine fY.inv (F:=λn=>MC c n n) (QK c) (λx=>c.cX.length-x.1.toNat) (QQ c) (λx t=>?_) x h;obtain⟨k,out,todo,rfl,z,r,u⟩:=t.st;have v:=e.fl;by_cases i:k=c.cX.length
 .subst i;refine .inr ⟨.out 0 ((c.cX.length:Int),(out,()),cb c,(todo,()),()),(λy h=>by cases h),bG λn=>?_,.inl ⟨(c.cX.length:Int),out,todo,rfl,r,λf w=>?_⟩⟩
  .unfold MC;simp(disch:=omega)only[aT]<;>rfl
  .obtain ⟨j,l,rfl⟩:=rM w
   simp_all
 .have m:k<c.cX.length:=by omega
  have s:c.cX.getD k 0∈c.cX:=bV _ m;have b:∀n,MC c n n ((k:Int),(out,()),cb c,(todo,()),())=ah (ej n (n+5) (rx c (c.cX.getD k 0) (bW 0 1) out todo)) λh=>aj (au h.1.1) (Z (X h.2 ((k:Int),()))) (Z (N (aG .i64 (k:Int) 1,h.2))):=by intro n;unfold MC;rw[show aE (k:Int) (aq c.3)=W from Ey.2 (by simp only[aq];omega),show aI (k:Int) c.3=W from ie.2 (by omega)];rfl
  obtain⟨d,a,h1,g⟩|⟨h1,g⟩:=za e r (.root s) ⟨rfl,Ig _,show(0:Int)<=1 by decide⟩ (e.qV _ s).1
  .have a1:aG .i64 (k:Int) 1=((k+1:Nat):Int):=by grind[ct]
   refine .inl ⟨(((k+1:Nat):Int),(d,()),cb c,(a,()),()),bG λn=>?_,⟨k+1,d,a,rfl,by omega,g.pj,λj l=>?_⟩,by omega⟩
   .rw[b,h1 n (n+4),<-a1];rfl
   .by_cases p:j=k
    .subst p;exact(g.all _ (uo _)).2.2.1
    .have q:c.cX.getD j 0∈c.cX:=bV _ (by omega);have:=u j (by omega);rw[g.keep _ (e.qV _ q).1 (by rw[this];rfl)];exact this
  .refine .inr ⟨.ret ((out,()),cb c,(todo,()),()) ((k:Int),()),(λy h=>by cases h),bG λn=>?_,.inr ⟨_,k,rfl,h1⟩⟩;rw[b,g n (n+4)];rfl
end
end
section
section
variable {n:Nat}{c:aA}{out:List av}{todo:List Int}
theorem PJ.zero:PJ c (λ_=>False) (List.replicate c.dL.length aU) []:=by
 have a:∀q:Int,eV (List.replicate c.dL.length aU) q=aU:=λq=>by unfold eV;rw[MN,List.getElem?_replicate];split<;>rfl
 refine⟨⟨by simp,λq _ _ r=>?_,λq _ _ r=>?_,λq _ _ _=>a q⟩,λq b=>(by cases b),?_,λq _ _ r=>?_⟩
 .rw[a]at r;cases r
 .rw[a]at r;cases r
 .grind[Nv,List.replicate,aU,List.length_replicate,List.length_nil]
 .rw[a]at r;cases r
theorem e99(g:Bu c)(a:Ev (λn=>F147 n (c,())) ((0,()),())):(∃D,VY c D∧Ev (λn=>F99 n (c,())) ((D,0,()),()))∨(NoD c∧Ev (λn=>F99 n (c,())) (([],7,()),())):=by
 have p:=g.len;have h:nR (PR (aq c.1)) (gi (aq c.1) (aq c.1))=W:=by
  have:PR (aq c.1)=W:=by
   unfold PR aq
   grind
  rw[this];simp[nR,gi]
 obtain⟨o,i,q⟩:=ahY g (x:=(0,(List.replicate c.dL.length aU,()),cb c,([],()),())) ⟨⟨0,_,[],rfl,Ih _,PJ.zero,λj l=>absurd l (Nat.not_lt_zero _)⟩⟩;obtain⟨k,out,todo,rfl,l,r⟩|⟨s,k,rfl,d⟩:=q
 .obtain ⟨u,f,m⟩:=ahX g (x':=px c out todo W) ⟨⟨out,todo,rfl,l,r⟩⟩;obtain⟨b,e,rfl,t⟩|⟨b,e,rfl,d⟩:=m
  .refine .inl ⟨b,t,?_⟩;unfold F99 G99;refine Ev.ah a ?_;show Ev (λn=>TL.aO (nR (PR (aq c.1)) (gi (aq c.1) (aq c.1))) _) _;rw[h];show Ev (λn=>ah _ _) _;refine Ev.bw (F:=λn=>MC c n n) i _ _ ?_;show Ev (λn=>ah _ _) _;refine Ev.bw (F:=λn=>TY n n) f _ _ ?_;exact fc
  .refine .inr ⟨d,?_⟩;unfold F99 G99;refine Ev.ah a ?_;show Ev (λn=>TL.aO (nR (PR (aq c.1)) (gi (aq c.1) (aq c.1))) _) _;rw[h];show Ev (λn=>ah _ _) _;refine Ev.bw (F:=λn=>MC c n n) i _ _ ?_;show Ev (λn=>ah _ _) _;refine Ev.bw (F:=λn=>TY n n) f _ _ ?_;exact fc
 .refine .inr ⟨d,?_⟩;unfold F99 G99;refine Ev.ah a ?_;show Ev (λn=>TL.aO (nR (PR (aq c.1)) (gi (aq c.1) (aq c.1))) _) _;rw[h];show Ev (λn=>ah _ _) _;refine Ev.bw (F:=λn=>MC c n n) i _ _ ?_;refine bG λn=>?_;rfl
end
end
section
theorem Fp:∀q:aB,1<=pw q
 |⟨_,_,_,_⟩=>by unfold pw;omega
theorem En:∀qs:L aB,qs.length<=qc qs
 |[]=>Ih _|q::qs=>by unfold qc;have:=En qs;grind[Fp,List.length_cons]
def gf(left:Int)(k:Nat):Int:=if left<0 then -1 else if(k:Int)<=left then left-k else -1
theorem tF{left:Int}{k:Nat}(h:left<0):gf left k=-1:=bB h
theorem ou{left:Int}{k:Nat}(h:(k:Int)<=left):gf left k=left-k:=by unfold gf;rw[bO (by omega),bB h]
theorem qQ{left:Int}{k:Nat}(h:left<(k:Int)):gf left k=-1:=by
 simp_all[gf,bB,bO]
theorem Nu{left:Int}{a:Nat}(b:1<=a)(h:0<=left):gf left a<=left-1∧-1<=gf left a:=by
 grind[ou,qQ]
theorem xI{left:Int}{a b:Nat}:gf (gf left a) b=gf left (a+b):=by
 grind[ou,qQ,tF]
theorem FR{left:Int}(h:-1<=left):gf left 0=left:=by
 grind[tF,ou]
theorem Zl(n k:Nat):R94 n (k+1)=B94 n (R94 n k):=rfl
def Q9(q:aB):Prop:=∀left:Int,-1<=left->left<=1000->vR R94 (q,left,()) ((gf left (pw q),()),())
def EO{P:Type}(d:Nat):∀(qs pre:L aB)(left:Int),-1<=left->(pre.length:Int)+left<=1000->(∀q∈qs,Q9 q)->
  ∀F:Nat->Int×Int×U->O (LO (Int×Int×U) (Int×U) U P),
  (∀n b,F n b=aj (aE b.2.1 (aq (pre++qs))) (aj (br 0 b.1) (aO (aI b.2.1 (pre++qs)) (ah (R94 n (n-d) (@bn aB (pre++qs) (az b.2.1) aK,b.1,())) λe=>Z (N (e.1.1,aG .i64 b.2.1 1,())))) (Z (H 0 b))) (Z (H 0 b)))->
  ∃j,fY F (left,(pre.length:Int),()) (.out 0 (gf left (qc qs),j,()))
 |[],pre,left,h1,h2,f,F,c=>by refine⟨(pre.length:Int),.out (bG λn=>?_)⟩;rw[c];have e:gf left (qc [])=left:=FR h1;rw[e];simp(disch:=omega)only[aT,kj]<;>rfl
 |q::qs,pre,left,h1,h2,f,F,c=>by
  by_cases l:left<0
  .refine ⟨(pre.length:Int),.out (bG λn=>?_)⟩;rw[c];have e:gf left (qc (q::qs))=left:=by rw[tF l];omega
   rw[e];simp(disch:=omega)only[aT]<;>rfl
  .have m:(pre++q::qs).getD pre.length aK=q:=qU ..;have o:=Fp q;have p:=f q eJ left h1 (by omega);have g:=Nu (left:=left) o (by omega);obtain⟨j,k⟩:=EO d qs (pre++[q]) (gf left (pw q)) g.2 (by simp;omega) (λr h=>f r (ic _ h)) F (λn e=>by rw[c];simp only[v5,Ku]<;>rfl);have e:gf (gf left (pw q)) (qc qs)=gf left (qc (q::qs)):=xI;rw[e]at k;refine⟨j,.next (y:=((gf left (pw q)),((pre++[q]).length:Int),())) ?_ k⟩;obtain⟨a,s⟩:=p d;refine⟨a,λn i=>?_⟩;show F n _=_;rw[c];simp(disch:=first|omega|simp only[hJ];omega)only[aT,m,ct,iV,iX,ya];exact(cU (λx=>ah x _) (s n i)).trans rfl
theorem V2:∀q:aB,Q9 q
 |⟨a,n0,text,parts⟩=>by
  intro left h1 h2;refine vR.step Zl λd=>?_;by_cases h3:left<1
  .rw[qQ (by grind[Fp])];refine bG λn=>?_;unfold B94;simp(disch:=omega)only[aT]<;>rfl
  .obtain ⟨j,f⟩:=EO (P:=Any) d parts [] (left-1) (by omega) (by simp;omega) (RJ parts) _ (λn e=>rfl);have e:gf (left-1) (qc parts)=gf left (pw ⟨a,n0,text,parts⟩):=by rw[show left-1=gf left 1 from(ou (k:=1) (Int.not_lt.1 h3)).symm,xI];rfl
   rw[<-e];have i:∀n,B94 n (R94 n (n-d)) (⟨a,n0,text,parts⟩,left,())=ah (iter (λb=>aj (aE b.2.1 (aq parts)) (aj (br 0 b.1) (aO (aI b.2.1 parts) (ah (R94 n (n-d) (@bn aB parts (az b.2.1) aK,b.1,())) λe=>Z (N (e.1.1,aG .i64 b.2.1 1,())))) (Z (H 0 b))) (Z (H 0 b))) n (left-1,0,())) λe=>bK (B:=U) (P:=Any) e (λ_ g=>Z ((g.1,()),())) (λ_ g=>Z (g,())) λ_ _=>Y:=by intro n;unfold B94;simp(disch:=omega)only[aT,dh]<;>rfl
   exact Ev.vQ i (Ev.bw f (λn e=>_) _ fc)
where
 RJ:∀c:L aB,∀q∈c,Q9 q
 |[],_,h=>by cases h
 |q::c,l,h=>by
  obtain h|h:=ga.1 h
  .rw[h];exact V2 q
  .exact RJ c l h
def e94(q:aB){left:Int}(h1:1<=left)(h2:left<=1000):Ev (λn=>F94 n (q,left,())) ((gf left (pw q),()),()):=by exact V2 q left (by omega) h2 0
mutual
def sp:aB->Bool
 |⟨_,_,text,parts⟩=>sps parts&&decide (text.length<=30)
def sps:L aB->Bool
 |[]=>W|q::a=>sp q&&sps a
end
theorem Kb:∀{qs:L aB},sps qs=W↔∀q∈qs,sp q=W
 |[]=>by simp[sps]
 |q::qs=>by simp[sps,Kb (qs:=qs)]
theorem Zk(n k:Nat):R95 n (k+1)=B95 n (R95 n k):=rfl
theorem short:∀q:aB,pw q<=1000->vR R95 (q,()) ((sp q,()),())
 |⟨c,n0,text,parts⟩,k=>by
  unfold pw at k;have u:=En parts;have l:=Wc parts (by omega);refine vR.step Zk λd=>?_;unfold B95;have m:∀(i:Nat)(y:Int×U),(X () (J,()):LO (Int×U) (Bool×U) U Any)≠.next y:=λ_ _ h=>by cases h
  have step:∀i,i<parts.length->Ev (λn=>aj (aE (i:Int) (aq parts)) (aO (aI (i:Int) parts) (ah (R95 n (n-d) (@bn aB parts (az (i:Int)) aK,())) λe=>aj (au e.1.1) (Z (X () (J,()))) (Z (N (aG .i64 (i:Int) 1,()))))) (Z (H 0 ((i:Int),())))) (bif sp (parts.getD i aK)then .next (((i+1:Nat):Int),())else(X () (J,()):LO (Int×U) (Bool×U) U Any)):=by intro i f;obtain⟨b,o⟩:=l _ (bV aK f) d;refine⟨b,λn p=>?_⟩;show TL.aj _ _ _=_;simp(disch:=omega)only[aT,ct,iV,iX,ya];refine(cU (λx=>ah x _) (o n p)).trans ?_;cases v:sp (parts.getD i aK)<;>rfl
  rcases qg (F:=λn g=>aj (aE g.1 (aq parts)) (aO (aI g.1 parts) (ah (R95 n (n-d) (@bn aB parts (az g.1) aK,())) λe=>aj (au e.1.1) (Z (X () (J,()))) (Z (N (aG .i64 g.1 1,()))))) (Z (H 0 g)))
   parts.length (λi=>((i:Int),())) (λi=>sp (parts.getD i aK)) (λ_=>(X () (J,()):LO (Int×U) (Bool×U) U Any)) 0 m (λi f _=>step i f) (λ_=>bG λn=>by simp(disch:=omega)only[aT]<;>rfl)with⟨a,r⟩|⟨i,f,a,_,r⟩
  .have e:sp ⟨c,n0,text,parts⟩=decide (text.length<=30):=by unfold sp;rw[Kb.2 λq k=>?_,sr];obtain⟨i,f,rfl⟩:=rM k;have:=a i f;rwa [MN,jr f]at this
   rw[e];refine Ev.bw r (λn e=>_) _ (bG λn=>?_);show Z ((br (aq text) 30,()),())=_;simp only[br,aq]
   grind
  .have e:sp ⟨c,n0,text,parts⟩=J:=by
    grind[sp,sps,Kb,bV,aK]
   rw[e];exact Ev.bw r (λn e=>_) _ fc
where
 Wc:∀j:L aB,qc j<=1000->∀q∈j,vR R95 (q,()) ((sp q,()),())
 |[],_,_,h=>by cases h
 |q::j,s,t,h=>by
  unfold qc at s;obtain h|h:=ga.1 h
  .rw[h];exact short q (by omega)
  .exact Wc j (by omega) t h
def E0(q:aB):Bool:=decide (pw q<=16)&&sp q
def NX(q:aB):aB.mk q.1 q.2 q.3 q.4=q:=by cases q;rfl
def e41(q:aB):Ev (λn=>F41 n (q,())) ((E0 q,()),()):=by
 unfold F41;simp only[NX];refine Ev.ah (e94 q (by omega) (by omega)) ?_;unfold E0;by_cases h:pw q<=16
 .have a:((pw q:Nat):Int)<=16:=by omega
  rw[ou a,kO h,sr];simp(disch:=omega)only[aT];exact Ev.ah (short q (by omega) 0) (Ev.pure _)
 .have a:¬((pw q:Nat):Int)<=16:=by omega
  simp_all[qQ,jl,rK,bG,aT]
end
section
theorem iP{R B P:Type}(len:Nat)(q:Nat->Bool)(bad:Nat->LO (Int×U) R B P){F:Nat->Int×U->O (LO (Int×U) R B P)}(c:∀i y,bad i≠.next y)
  (h:∀i,i<len->Ev (λn=>F n ((i:Int),())) (bif q i then .next (((i+1:Nat):Int),())else bad i)) (d:∀n,F n ((len:Int),())=Z (.out 0 ((len:Int),()))) :
  ((∀i,i<len->q i=W)∧fY F (0,()) (.out 0 ((len:Int),())))∨∃i,i<len∧q i=J∧fY F (0,()) (bad i):=by
 obtain⟨a,r⟩|⟨i,b,a,_,r⟩:=qg len (λi=>((i:Int),())) q bad 0 c (λi b _=>h i b) (λ_=>bG d)
 .simp_all
 grind
structure Small(c:aA):Prop where
 ins:c.dL.length<=1600
 pl:c.eC.length<=120
 qV:c.cX.length<=320
 cl:c.Cons.length<=30
 names:∀k∈c.Cons,k.Name.length<=30
 pats:∀q∈c.eC,pw q<=16
def iB{α:Type}{l:L α}{d:α}{Q:α->Prop}(h:∀i,i<l.length->Q (l.getD i d)):∀a∈l,Q a:=by intro a c;obtain⟨i,b,rfl⟩:=rM c;have:=h i b;rwa [MN,jr b]at this
def Bb{α:Type}{l:L α}{d:α}{q:α->Bool}(h:∀i,i<l.length->q (l.getD i d)=W):l.all q=W:=lB.2 (iB (d:=d) h)
theorem pK{α:Type}{l:L α}{d:α}{q:α->Bool}{i:Nat}(hi:i<l.length)(h:q (l.getD i d)=J):l.all q=J:=by
 grind
def e11(c:aA):∃b,Ev (λn=>F11 n (c,())) ((b,()),())∧(b=W->Small c):=by
 unfold F11;by_cases h1:1600<c.dL.length
 .exact ⟨J,bG λn=>by simp(disch:=omega)only[aT]<;>rfl,λh=>by cases h⟩
 by_cases h2:120<c.eC.length
 .exact ⟨J,bG λn=>by simp(disch:=omega)only[aT]<;>rfl,λh=>by cases h⟩
 by_cases h3:320<c.cX.length
 .exact ⟨J,bG λn=>by simp(disch:=omega)only[aT]<;>rfl,λh=>by cases h⟩
 by_cases h4:30<c.Cons.length
 .exact ⟨J,bG λn=>by simp(disch:=omega)only[aT]<;>rfl,λh=>by cases h⟩
 simp(disch:=omega)only[aT];have j:∀{P:Type}(i:Nat)(y:Int×U),(X () (J,()):LO (Int×U) (Bool×U) U P)≠.next y:=λ_ _ h=>by cases h
 rcases iP c.eC.length (λi=>E0 (c.eC.getD i aK)) (λ_=>(X () (J,()):LO (Int×U) (Bool×U) U Any)) (F:=λn g=>aj (aE g.1 (c.eC.length:Int)) (aO (aI g.1 c.eC) (ah (F41 n (c.eC.getD g.1.toNat aK,())) λd=>aj d.1.1 (Z (N (aG .i64 g.1 1,()))) (Z (X () (J,()))))) (Z (H 0 g))) j
  (λi e=>by
   simp(disch:=omega)only[aT];refine Ev.ah (e41 _) (bG λn=>?_);cases E0 (c.eC.getD i aK)<;>simp(disch:=omega)only[aT,ct,iV,iX]) (λn=>by simp(disch:=omega)only[aT])with⟨a,r⟩|⟨i,e,a,r⟩
 .rcases iP c.Cons.length (λi=>decide ((c.Cons.getD i aY).Name.length<=30)) (λ_=>(X () (J,()):LO (Int×U) (Bool×U) U Any)) (F:=λn g=>aj (aE g.1 (c.Cons.length:Int)) (aO (aI g.1 c.Cons) (aj (aE 30 ((c.Cons.getD g.1.toNat aY).Name.length:Int)) (Z (X () (J,()))) (Z (N (aG .i64 g.1 1,()))))) (Z (H 0 g))) j
   (λi e=>bG λn=>by
    by_cases k:(c.Cons.getD i aY).Name.length<=30
    .simp (disch:=omega)only[aT,kO k,ct,iV,iX]
    .simp (disch:=omega)only[aT,jl k]) (λn=>by simp(disch:=omega)only[aT])with⟨l,f⟩|⟨i,e,l,f⟩
  .refine ⟨W,?_,λ_=>⟨by omega,by omega,by omega,by omega,iB (d:=aY) λi e=>M0 (l i e),iB (d:=aK) λi e=>?_⟩⟩
   .refine Ev.bw r _ _ ?_;refine Ev.bw f _ _ ?_;exact fc
   simp_all[E0,fF,qE]
  .refine ⟨J,?_,λh=>by cases h⟩;refine Ev.bw r _ _ ?_;refine Ev.bw f _ _ ?_;exact fc
 .refine ⟨J,?_,λh=>by cases h⟩;refine Ev.bw r _ _ ?_;exact fc
end
section
theorem VE(n k:Nat):R228 n (k+1)=B228 n (R228 n k):=rfl
def agE(q:aB):Prop:=∀left:Int,0<=left->left<=1000->vR R228 (q,left,()) ((gf left (pw q),()),())
def NP{P:Type}(d:Nat):∀(qs pre:L aB)(left:Int),-1<=left->(pre.length:Int)+left<=1000->(∀q∈qs,agE q)->
  ∀F:Nat->Int×Int×U->O (LO (Int×Int×U) (Int×U) U P),
  (∀n b,F n b=aj (aE b.2.1 (aq (pre++qs))) (aO (aI b.2.1 (pre++qs)) (aj (aE b.1 0) (Z (H 0 b)) (ah (R228 n (n-d) (@bn aB (pre++qs) (az b.2.1) aK,b.1,())) λe=>Z (N (e.1.1,aG .i64 b.2.1 1,()))))) (Z (H 0 b)))->
  ∃j,fY F (left,(pre.length:Int),()) (.out 0 (gf left (qc qs),j,()))
 |[],pre,left,h1,h2,f,F,c=>by refine⟨(pre.length:Int),.out (bG λn=>?_)⟩;rw[c];have e:gf left (qc [])=left:=FR h1;rw[e];simp(disch:=omega)only[aT,kj]<;>rfl
 |q::qs,pre,left,h1,h2,f,F,c=>by
  by_cases l:left<0
  .refine ⟨(pre.length:Int),.out (bG λn=>?_)⟩;rw[c];have e:gf left (qc (q::qs))=left:=by rw[tF l];omega
   rw[e];simp(disch:=first|omega|simp only[hJ];omega)only[aT]<;>rfl
  .have m:(pre++q::qs).getD pre.length aK=q:=qU ..;have o:=Fp q;have p:=f q eJ left (by omega) (by omega);have g:=Nu (left:=left) o (by omega);obtain⟨j,k⟩:=NP d qs (pre++[q]) (gf left (pw q)) g.2 (by simp;omega) (λr h=>f r (ic _ h)) F (λn e=>by rw[c];simp only[v5,Ku]<;>rfl);have e:gf (gf left (pw q)) (qc qs)=gf left (qc (q::qs)):=xI;rw[e]at k;refine⟨j,.next (y:=((gf left (pw q)),((pre++[q]).length:Int),())) ?_ k⟩;obtain⟨a,s⟩:=p d;refine⟨a,λn i=>?_⟩;show F n _=_;rw[c];simp(disch:=first|omega|simp only[hJ];omega)only[aT,m,ct,iV,iX,ya];exact(cU (λx=>ah x _) (s n i)).trans rfl
theorem aj8:∀q:aB,agE q
 |⟨a,n0,text,parts⟩=>by
  intro left h1 h2;refine vR.step VE λd=>?_;obtain⟨j,f⟩:=NP (P:=Any) d parts [] (left-1) (by omega) (by simp;omega) (adC parts) _ (λn e=>rfl);have e:gf (left-1) (qc parts)=gf left (pw ⟨a,n0,text,parts⟩):=by
   by_cases h3:left<1
   .rw[tF (by omega),qQ (by grind[Fp])]
   .rw[show left-1=gf left 1 from(ou (k:=1) (Int.not_lt.1 h3)).symm,xI];rfl
  rw[<-e];have i:∀n,B228 n (R228 n (n-d)) (⟨a,n0,text,parts⟩,left,())=ah (iter (λb=>aj (aE b.2.1 (aq parts)) (aO (aI b.2.1 parts) (aj (aE b.1 0) (Z (H 0 b)) (ah (R228 n (n-d) (@bn aB parts (az b.2.1) aK,b.1,())) λe=>Z (N (e.1.1,aG .i64 b.2.1 1,()))))) (Z (H 0 b))) n (left-1,0,())) λe=>bK (B:=U) (P:=Any) e (λ_ g=>Z ((g.1,()),())) (λ_ g=>Z (g,())) λ_ _=>Y:=by intro n;unfold B228 HP;simp(disch:=omega)only[aT,dh,NX]<;>rfl
  exact Ev.vQ i (Ev.bw f (λn e=>_) _ fc)
where
 adC:∀c:L aB,∀q∈c,agE q
 |[],_,h=>by cases h
 |q::c,l,h=>by
  obtain h|h:=ga.1 h
  .rw[h];exact aj8 q
  .exact adC c l h
def aqI(q:aB){left:Int}(h1:0<=left)(h2:left<=1000):Ev (λn=>F228 n (q,left,())) ((gf left (pw q),()),()):=aj8 q left h1 h2 0
end
section
section
def aaT(cons:L cw)(a n:Int)(k:Nat):Bool:=
 if a=1∨a=2∨a=5 then decide (n=0)&&decide (k=0)
 else if a=3 then jD n&&decide (k=0)
 else if a=4 then decide (0<=n∧n<=1)&&decide (k=0)
 else if a=6 then decide (0<=n∧n<cons.length)&&decide ((k:Int)=(cons.getD n.toNat aY).lg)
 else J
mutual
def pG(cons:L cw):aB->Bool
 |⟨a,n,text,parts⟩=>(decide (text=[])&&rQ cons parts)&&aaT cons a n parts.length
def rQ(cons:L cw):L aB->Bool
 |[]=>W|q::a=>pG cons q&&rQ cons a
end
theorem BG{cons:L cw}:∀{qs:L aB},rQ cons qs=W↔∀q∈qs,pG cons q=W
 |[]=>by simp[rQ]
 |q::qs=>by simp[rQ,BG (qs:=qs)]
def rng(n:Nat)(a lo hi:Int):(aj (br lo a) (Z ((br a hi,()),())) (Z ((J,()),())))=(Z ((decide (lo<=a∧a<=hi),()),()):O ((Bool×U)×U)):=by
 by_cases h1:lo<=a
 .simp_all[aT,br]
 .simp (disch:=omega)only[aT];simp[h1]
variable {n:Nat}{cons:List cw}
def rm(a lo hi:Int):F223 n (a,lo,hi,())=Z ((decide (lo<=a∧a<=hi),()),()):=rng n a lo hi
def Ve(a lo hi:Int):F241 n (a,lo,hi,())=Z ((decide (lo<=a∧a<=hi),()),()):=rng n a lo hi
def wM(a lo hi:Int):F104 n (a,lo,hi,())=Z ((decide (lo<=a∧a<=hi),()),()):=rng n a lo hi
theorem kg(l:L UInt8):gC l []=decide (l=[]):=by cases l<;>rfl
theorem VG(n k:Nat):R159 n (k+1)=B159 n (R159 n k):=rfl
def Rb(cons:L cw)(q:aB):Prop:=vR R159 (q,cons,()) ((pG cons q,()),())
def Sb{R B P:Type}{cons:L cw}(d:Nat):∀(qs pre:L aB)(b:Bool),pre.length+qs.length<=1000->(∀q∈qs,Rb cons q)->
  ∀(F:Nat->Bool×Int×U->O (LO (Bool×Int×U) R B P)),
  (∀n i,F n i=aj (aE i.2.1 (aq (pre++qs))) (aj i.1 (aO (aI i.2.1 (pre++qs)) (ah (R159 n (n-d) (@bn aB (pre++qs) (az i.2.1) aK,cons,())) λj=>Z (N (j.1.1,aG .i64 i.2.1 1,())))) (Z (H 0 i))) (Z (H 0 i)))->
  ∃j,fY F (b,(pre.length:Int),()) (.out 0 (b&&rQ cons qs,j,()))
 |[],pre,b,h3,f,F,c=>by refine⟨(pre.length:Int),.out (bG λn=>?_)⟩;rw[c];simp(disch:=omega)only[aT,kj,rQ,Pw]<;>rfl
 |q::qs,pre,b,h3,f,F,c=>by simp only[lQ]at h3;cases b with|false=>refine⟨(pre.length:Int),.out (bG λn=>?_)⟩;rw[c];simp(disch:=omega)only[aT,rK]<;>rfl|true=>have k:(pre++q::qs).getD pre.length aK=q:=qU ..;obtain⟨j,o⟩:=Sb d qs (pre++[q]) (pG cons q) (by simp;omega) (λl h=>f l (ic _ h)) F (λn e=>by rw[c];simp only[v5,Ku]<;>rfl);refine⟨j,.next (y:=(pG cons q,((pre++[q]).length:Int),())) ?_ (by simp_all[rQ,sr])⟩;obtain⟨a,m⟩:=f q eJ d;refine⟨a,λn g=>?_⟩;show F n _=_;rw[c];simp(disch:=first|omega|simp only[hJ];omega)only[aT,k,ct,iV,iX,ya];exact(cU (λx=>ah x _) (m n g)).trans rfl
def W4(s:cons.length<=1000):∀q:aB,pw q<=1000->Rb cons q
 |⟨a,n0,text,parts⟩,t=>by
  unfold pw at t;have x:=En parts;have u:=W1 parts (by omega);refine vR.step VG λd=>?_;have run:∀b:Bool,Ev (λn=>ah (iter (HR n (R159 n (n-d)) (⟨a,n0,text,parts⟩,cons,())) n (b,0,())) (HQ n (R159 n (n-d)))) ((b&&rQ cons parts,()),()):=by intro b;obtain⟨j,k⟩:=Sb (cons:=cons) d parts [] b (by simp;omega) u _ (λn e=>rfl);exact Ev.bw (F:=λn c=>_) k (λn e=>_) _ fc
  have f:∀b:Bool,Ev (λn=>aj b (ah (iter (HR n (R159 n (n-d)) (⟨a,n0,text,parts⟩,cons,())) n (decide (text=[]),0,())) (HQ n (R159 n (n-d)))) (ah (iter (HR n (R159 n (n-d)) (⟨a,n0,text,parts⟩,cons,())) n (J,0,())) (HQ n (R159 n (n-d))))) (((decide (text=[])&&rQ cons parts)&&b,()),()):=by intro b;cases b with|true=>rw[Pw];exact run _|false=>rw[Kq];exact run J
  unfold pG aaT;have i:(aa n0 0)=decide (n0=0):=by by_cases h:n0=0<;>simp[aa,h]
  unfold B159;by_cases l:a=1∨a=2∨a=5
  .rw[bB l];by_cases g:parts.length=0
   .rw[kO g,Pw];obtain c|c|c:=l<;>subst c<;>simp(disch:=omega)only[aT,aN,i,kg]<;>exact f _
   .rw[jl g,Kq];obtain c|c|c:=l<;>subst c<;>simp(disch:=omega)only[aT,aN,i,kg]<;>exact f J
  .rw[bO l];by_cases o:a=3
   .rw[bB o];subst o;by_cases g:parts.length=0
    .rw[kO g,Pw];simp(disch:=omega)only[aT,aN,Ve,kg];have:=f (jD n0);simp only[jD,Bool.decide_and]at this ⊢;exact this
    .rw[jl g,Kq];simp(disch:=omega)only[aT,aN,kg];exact f J
   .rw[bO o];by_cases p:a=4
    .rw[bB p];subst p;by_cases g:parts.length=0
     .rw[kO g,Pw];simp(disch:=omega)only[aT,aN,Ve,kg];exact f _
     .rw[jl g,Kq];simp(disch:=omega)only[aT,aN,kg];exact f J
    .rw[bO p];by_cases r:a=6
     .rw[bB r];subst r;by_cases k:0<=n0∧n0<cons.length
      .rw[kO k,sr];simp(disch:=omega)only[aT,aN,Ve,dh,kO (show 0<=n0∧n0<=(cons.length:Int)-1 by omega),kg];rw[show aa (parts.length:Int) (cons.getD n0.toNat aY).lg=decide ((parts.length:Int)=(cons.getD n0.toNat aY).lg)by rfl];exact f _
      .rw[jl k,rK];simp(disch:=omega)only[aT,aN,Ve,dh,jl (show ¬(0<=n0∧n0<=(cons.length:Int)-1)by omega),kg];exact f J
     .rw[bO r];simp(disch:=omega)only[aT,aN,kg];exact f J
where
 W1:∀m:L aB,qc m<=1000->∀q∈m,Rb cons q
 |[],_,_,h=>by cases h
 |q::m,v,w,h=>by
  unfold qc at v;obtain h|h:=ga.1 h
  .rw[h];exact W4 s q (by omega)
  .exact W1 m (by omega) w h
def aqR(a:cons.length<=1000)(q:aB)(b:pw q<=1000):Ev (λn=>F106 n (q,cons,())) ((pG cons q,()),()):=by unfold F106;simp only[NX];exact Ev.ah (W4 a q b 0) (Ev.pure _)
end
end
section
theorem VD(n k:Nat):R229 n (k+1)=B229 n (R229 n k):=rfl
theorem W3{cons:L cw}(z:cons.length<=1000):∀q:aB,pw q<=1000->vR R229 (q,cons,()) ((pG cons q,()),())
 |⟨g,n0,text,parts⟩,K=>by
  unfold pw at K;have hl:=En parts;have P:=W1 parts (by omega);refine vR.step VD λd=>?_;have Q:∀(i:Nat)(y:Int×U),(X () ((i:Int),()):LO (Int×U) (Int×U) U Any)≠.next y:=λ_ _ h=>by cases h
  have m:Ev (λn=>RB n (R229 n (n-d)) (⟨g,n0,text,parts⟩,cons,())) ((rQ cons parts,()),()):=by
   have step:∀i,i<parts.length->Ev (λn=>aj (aE (i:Int) (aq parts)) (aO (aI (i:Int) parts) (ah (R229 n (n-d) (aB.mk (@bn aB parts (az (i:Int)) aK).1 (@bn aB parts (az (i:Int)) aK).2 (@bn aB parts (az (i:Int)) aK).3 (@bn aB parts (az (i:Int)) aK).4,cons,())) λe=>aj (au e.1.1) (Z (X () ((i:Int),()))) (Z (N (aG .i64 (i:Int) 1,()))))) (Z (H 0 ((i:Int),())))) (bif pG cons (parts.getD i aK)then .next (((i+1:Nat):Int),())else(X () ((i:Int),()):LO (Int×U) (Int×U) U Any)):=by intro i s;obtain⟨f,R⟩:=P _ (bV aK s) d;refine⟨f,λn S=>?_⟩;show TL.aj _ _ _=_;simp(disch:=omega)only[aT,NX,ct,iV,iX,ya];refine(cU (λx=>ah x _) (R n S)).trans ?_;cases z:pG cons (parts.getD i aK)<;>rfl
   rcases iP (F:=λn l=>aj (aE l.1 (aq parts)) (aO (aI l.1 parts) (ah (R229 n (n-d) (aB.mk (@bn aB parts (az l.1) aK).1 (@bn aB parts (az l.1) aK).2 (@bn aB parts (az l.1) aK).3 (@bn aB parts (az l.1) aK).4,cons,())) λe=>aj (au e.1.1) (Z (X () l)) (Z (N (aG .i64 l.1 1,()))))) (Z (H 0 l)))
    parts.length (λi=>pG cons (parts.getD i aK)) (λi=>(X () ((i:Int),()):LO (Int×U) (Int×U) U Any)) Q step (λn=>by simp(disch:=omega)only[aT]<;>rfl)with⟨a,r⟩|⟨i,s,a,r⟩
   .rw[BG.2 (iB (d:=aK) a)];refine Ev.bw r _ _ (bG λn=>?_);rfl
   .have e:rQ cons parts=J:=by
     grind[rQ,BG,bV,aK]
    rw[e];refine Ev.bw r _ _ (bG λn=>?_);rfl
  have A:∀{k:Bool}{F:Nat->O ((Bool×U)×U)},Ev F ((k,()),())->∀t:Bool,Ev (λn=>aj t (F n) (Z ((J,()),()))) ((t&&k,()),()):=by intro k F h t;cases t with|true=>exact h|false=>exact Ev.pure _
  have j:Ev (λn=>HO n (R229 n (n-d)) (⟨g,n0,text,parts⟩,cons,())) ((decide (text=[])&&(decide (parts.length=0)&&rQ cons parts),()),()):=by
   unfold HO sW;have k0:(aa (aq parts) 0)=decide (parts.length=0):=by by_cases h:parts.length=0<;>simp[aa,h,aq]
   grind[kg]
  unfold pG aaT;have u:∀t k p b:Bool,(t&&(k&&p))=((t&&p)&&(W&&k)):=λt k p b=>by cases t<;>cases k<;>cases p<;>rfl
  unfold B229;by_cases v:g=1∨g=2∨g=5
  .rw[bB v];by_cases o:n0=0
   .rw[kO o,<-u _ _ _ W];obtain c|c|c:=v<;>subst c<;>simp(disch:=omega)only[aT,aN,o]<;>(subst o;exact j)
   .rw[jl o,rK,Kq];obtain c|c|c:=v<;>subst c<;>simp(disch:=omega)only[aT,aN,o]<;>exact Ev.pure _
  .rw[bO v];by_cases B:g=3
   .rw[bB B];have s:(decide (-1000000000<=n0∧n0<=1000000000))=jD n0:=by simp only[jD,Bool.decide_and]
    simp(disch:=omega)only[aT,aN,rm,s];cases jD n0 with|true=>rw[<-u _ _ _ W];exact j|false=>rw[rK,Kq];exact Ev.pure _
   .rw[bO B];by_cases C:g=4
    .rw[bB C];simp(disch:=omega)only[aT,aN,rm];cases decide (0<=n0∧n0<=1)with|true=>rw[<-u _ _ _ W];exact j|false=>rw[rK,Kq];exact Ev.pure _
    .rw[bO C];by_cases E:g=6
     .rw[bB E];by_cases I:0<=n0∧n0<cons.length
      .rw[kO I,<-u _ _ _ W];simp(disch:=omega)only[aT,aN,rm,dh,kO (show 0<=n0∧n0<=(cons.length:Int)-1 by omega),kg];exact A (A m _) _
      .rw[jl I,rK,Kq];simp(disch:=omega)only[aT,aN,rm,dh,jl (show ¬(0<=n0∧n0<=(cons.length:Int)-1)by omega)];exact Ev.pure _
     .rw[bO E,Kq];simp(disch:=omega)only[aT,aN];exact Ev.pure _
where
 W1:∀w:L aB,qc w<=1000->∀q∈w,vR R229 (q,cons,()) ((pG cons q,()),())
 |[],_,_,h=>by cases h
 |q::w,hp,q',h=>by
  unfold qc at hp;obtain h|h:=ga.1 h
  .rw[h];exact W3 z q (by omega)
  .exact W1 w (by omega) q' h
end
section
section
variable {n:Nat}{c:aA}{i:bN}
def LU(x:Int×Int)(a:Int):Bool:=decide (x.1<=a∧a<=x.2)
def fA(c:aA)(op:Int):Int×Int:=
 if op=1 then(-1000000000,1000000000)else if op=2 then(0,1)else if op=4 then(0,29)else if op=5 then(0,(c.cX.length:Int)-1)
 else if op=6∨op=11∨op=12∨op=31∨op=32 then(0,(c.dL.length:Int)-1)else if op=10 then(1,30)else if op=18 then(0,(c.Cons.length:Int)-1)
 else if op=19 then(0,(c.eC.length:Int)-1)else if op=29 then(0,3)else(0,0)
def fB(c:aA)(op:Int):Int×Int:=if op=19 then(0,(c.dL.length:Int)-1)else(0,0)
def wz(c:aA)(i:bN):Bool:=decide (1<=i.Op∧i.Op<=34)&&(LU (fA c i.Op) i.A&&LU (fB c i.Op) i.B)
theorem aqQ(hs:Small c):F107 n (c,i,())=Z ((wz c i,()),()):=by
 have h1:=hs.ins;have h2:=hs.qV;have h3:=hs.cl;have h4:=hs.pl;obtain⟨op,A,B⟩:=i;have u:∀x y:Int,decide (x=y)=LU (y,y) x:=λx y=>by unfold LU;by_cases h:x=y<;>simp[h]<;>omega
 have d0:∀x:Int,aa x 0=LU (0,0) x:=λx=>by simp_all[aa,Bool.beq_eq_decide_eq]
 by_cases a:op=19
 .subst a;have r:wz c ⟨19,A,B⟩=(decide (0<=A∧A<=(c.eC.length:Int)-1)&&decide (0<=B∧B<=(c.dL.length:Int)-1)):=rfl;rw[r];unfold F107 LJ HJ;simp(disch:=omega)only[aT,aN,wM,dh];cases decide (0<=A∧A<=(c.eC.length:Int)-1)<;>simp only[aT,sr,rK]
 have v:fB c op=(0,0):=bO a;by_cases q:B=0
 .subst q;have w:∀b:Bool,(b&&LU (0,0) 0)=b:=λb=>by cases b<;>rfl
  have r:wz c ⟨op,A,0⟩=(decide (1<=op∧op<=34)&&LU (fA c op) A):=by
   unfold wz
   grind
  rw[r];unfold F107 LJ HJ;by_cases f:op=1
  .subst f;simp(disch:=omega)only[aT,aN,wM]<;>rfl
  by_cases g:op=2
  .subst g;simp(disch:=omega)only[aT,aN,wM]<;>rfl
  by_cases j:op=4
  .subst j;simp(disch:=omega)only[aT,aN,wM]<;>rfl
  by_cases k:op=5
  .subst k;simp(disch:=omega)only[aT,aN,wM,dh]<;>rfl
  by_cases d:op=6∨op=11∨op=12∨op=31∨op=32
  .obtain h|h|h|h|h:=d<;>subst h<;>simp(disch:=omega)only[aT,aN,wM,dh]<;>rfl
  by_cases e:op=10
  .subst e;simp(disch:=omega)only[aT,aN,wM]<;>rfl
  by_cases k18:op=18
  .subst k18;simp(disch:=omega)only[aT,aN,wM,dh]<;>rfl
  by_cases k29:op=29
  .subst k29;simp(disch:=omega)only[aT,aN,wM]<;>rfl
  have s:fA c op=(0,0):=by unfold fA;rw[bO f,bO g,bO j,bO k,bO d,bO e,bO k18,bO a,bO k29]
  rw[s];have t:op≠6:=λh=>d (.inl h);have l:op≠11:=λh=>d (.inr (.inl h));have m:op≠12:=λh=>d (.inr (.inr (.inl h)));have o:op≠31:=λh=>d (.inr (.inr (.inr (.inl h))));have p:op≠32:=λh=>d (.inr (.inr (.inr (.inr h))));simp(disch:=omega)only[aT,aN,wM,a,f,g,j,k,t,l,m,o,p,e,k18,k29,d0];cases decide (1<=op∧op<=34)<;>rfl
 .have r:wz c ⟨op,A,B⟩=J:=by
   unfold wz
   grind
  rw[r];unfold F107;simp(disch:=omega)only[aT,a,q]<;>rfl
end
end
section
section
variable {n:Nat}{c:aA}{op:Int}
def aqH(hs:Small c):∃x y,∀n,F232 n (c,op,())=Z ((⟨(fA c op).1,(fA c op).2,x⟩,⟨(fB c op).1,(fB c op).2,y⟩,decide (1<=op∧op<=34),()),()):=by
 have h1:=hs.ins;have h2:=hs.qV;have h3:=hs.cl;have h4:=hs.pl;by_cases a:op=19
 .subst a;exact⟨W,W,λn=>by unfold F232 jh nW;simp(disch:=omega)only[aT,aN,rm,dh]<;>rfl⟩
 by_cases e:op=1
 .subst e;exact⟨W,J,λn=>by unfold F232 jh nW;simp only[aT,aN,rm]<;>rfl⟩
 by_cases f:op=2
 .subst f;exact⟨W,J,λn=>by unfold F232 jh nW;simp(disch:=omega)only[aT,aN,rm]<;>rfl⟩
 by_cases g:op=4
 .subst g;exact⟨W,J,λn=>by unfold F232 jh nW;simp(disch:=omega)only[aT,aN,rm]<;>rfl⟩
 by_cases i:op=5
 .subst i;exact⟨W,J,λn=>by unfold F232 jh nW;simp(disch:=omega)only[aT,aN,rm,dh]<;>rfl⟩
 by_cases b:op=6∨op=11∨op=12∨op=31∨op=32
 .obtain h|h|h|h|h:=b<;>subst h<;>exact⟨W,J,λn=>by unfold F232 jh nW;simp(disch:=omega)only[aT,aN,rm,dh]<;>rfl⟩
 by_cases d:op=10
 .subst d;exact⟨W,J,λn=>by unfold F232 jh nW;simp(disch:=omega)only[aT,aN,rm]<;>rfl⟩
 by_cases k18:op=18
 .subst k18;exact⟨W,J,λn=>by unfold F232 jh nW;simp(disch:=omega)only[aT,aN,rm,dh]<;>rfl⟩
 by_cases k29:op=29
 .subst k29;exact⟨W,J,λn=>by unfold F232 jh nW;simp(disch:=omega)only[aT,aN,rm]<;>rfl⟩
 have o:fA c op=(0,0):=by unfold fA;rw[bO e,bO f,bO g,bO i,bO b,bO d,bO k18,bO a,bO k29]
 have p:fB c op=(0,0):=bO a;rw[o,p];have q:op≠6:=λh=>b (.inl h);have j:op≠11:=λh=>b (.inr (.inl h));have k:op≠12:=λh=>b (.inr (.inr (.inl h)));have l:op≠31:=λh=>b (.inr (.inr (.inr (.inl h))));have m:op≠32:=λh=>b (.inr (.inr (.inr (.inr h))));exact⟨J,J,λn=>by
  unfold F232 jh nW;simp(disch:=omega)only[aT,aN,rm,a,e,f,g,i,q,j,k,l,m,d,k18,k29]<;>rfl⟩
def af0(hs:Small c):Ev (λn=>LH n (c,())) ((bif c.dL.all (wz c)then 0 else 2,()),()):=by
 have h1:=hs.ins;have f:∀(i:Nat)(y:Int×U),(X () ((i:Int),()):LO (Int×U) (Int×U) U Any)≠.next y:=λ_ _ h=>by cases h
 unfold LH nX;rcases iP (F:=λn(o:Int×U)=>aj (aE o.1 (aq c.1)) (aO (aI o.1 c.1) (ah (F232 n (c,(bn c.1 (az o.1) bY).1,())) λp=>aj p.1.2.2.1 (ah (F223 n ((bn c.1 (az o.1) bY).2,p.1.1.1,p.1.1.2,())) λq=>aj q.1.1 (ah (F223 n ((bn c.1 (az o.1) bY).3,p.1.2.1.1,p.1.2.1.2,())) λr=>aj (au r.1.1) (Z (X () o)) (Z (N (aG .i64 o.1 1,())))) (Z (X () o))) (Z (X () o)))) (Z (H 0 o)))
  c.dL.length (λi=>wz c (c.dL.getD i bY)) (λi=>(X () ((i:Int),()):LO (Int×U) (Int×U) U Any)) f
  (λi e=>by
   obtain⟨x,y,b⟩:=aqH (op:=(c.dL.getD i bY).Op) hs;refine bG λn=>?_;simp(disch:=omega)only[aT,b,rm,ct,iV,iX,ya];unfold wz LU;cases decide (1<=(c.dL.getD i bY).Op∧(c.dL.getD i bY).Op<=34)with
   |false=>rfl|true=>
    cases decide ((fA c (c.dL.getD i bY).Op).1<=(c.dL.getD i bY).A∧(c.dL.getD i bY).A<=(fA c (c.dL.getD i bY).Op).2)with
    |false=>rfl|true=>
     cases decide ((fB c (c.dL.getD i bY).Op).1<=(c.dL.getD i bY).B∧(c.dL.getD i bY).B<=(fB c (c.dL.getD i bY).Op).2)<;>rfl) (λn=>by simp(disch:=omega)only[aT]<;>rfl)with⟨a,r⟩|⟨i,e,a,r⟩
 .rw[Bb (d:=bY) a];refine Ev.bw r _ _ (bG λn=>?_);rfl
 .rw[pK (d:=bY) e a];refine Ev.bw r _ _ (bG λn=>?_);rfl
end
end
section
section
def FN(b:UInt8):Bool:=decide (97<=b.toNat∧b.toNat<=122)
def zp(s:L UInt8):Bool:=match s with
 |[]=>J|a::l=>(decide (l.length<=7)&&decide (65<=a.toNat∧a.toNat<=90))&&l.all FN
theorem rW(a:UInt8)(l:L UInt8):zp (a::l)=((decide (l.length<=7)&&decide (65<=a.toNat∧a.toNat<=90))&&l.all FN):=rfl
theorem Kj(l:L UInt8)(i:Nat):mO l i=((l.getD i 0).toNat:Int):=rfl
variable {l:List UInt8}
def aqE(hl:l.length<=1000):Ev (λn=>F275 n (l,())) ((l.all FN,()),()):=by
 unfold F275;have e:∀(i:Nat)(y:Int×U),(X () (J,()):LO (Int×U) (Bool×U) U Any)≠.next y:=λ_ _ h=>by cases h
 rcases iP (F:=λn c=>aj (aE c.1 (aq l)) (aO (aI c.1 l) (aj (aE (mO l c.1) 97) (Z (X () (J,()))) (aO (aI c.1 l) (aj (aE 122 (mO l c.1)) (Z (X () (J,()))) (Z (N (aG .i64 c.1 1,()))))))) (Z (H 0 c))) l.length (λi=>FN (l.getD i 0)) (λ_=>(X () (J,()):LO (Int×U) (Bool×U) U Any)) e (λi b=>bG λn=>by
   unfold FN;by_cases h1:97<=(l.getD i 0).toNat
   .by_cases h2:(l.getD i 0).toNat<=122
    .simp (disch:=omega)only[aT,Kj,kO (And.intro h1 h2),ct,iV,iX]
    .simp (disch:=omega)only[aT,Kj,jl (λh:97<=(l.getD i 0).toNat∧(l.getD i 0).toNat<=122=>h2 h.2)]
   .simp (disch:=omega)only[aT,Kj,jl (λh:97<=(l.getD i 0).toNat∧(l.getD i 0).toNat<=122=>h1 h.1)]) (λn=>by simp(disch:=omega)only[aT]<;>rfl)with⟨a,r⟩|⟨i,b,a,r⟩
 .rw[Bb (d:=(0:UInt8)) a];exact Ev.bw r (λn c=>_) _ fc
 .rw[pK (d:=(0:UInt8)) b a];exact Ev.bw r (λn c=>_) _ fc
theorem Wh(l:L UInt8)(pos:Nat)(h:pos<l.length):(FN l[pos]=W∧vw l pos=(l[pos].toNat:Int)∧HY l pos=1)∨(FN l[pos]=J∧(vw l pos<97∨122<vw l pos)):=by
 have a:pos<(cg l).size:=by simpa[cg,ByteArray.size]using h
 have b:(cg l)[pos]'a=l[pos]:=rfl;unfold FN vw HY;by_cases h1:l[pos].toNat<128
 .have c:=decode_ascii (cg l) pos a (by grind)
  grind
 grind[decode_high,cg,decide_eq_false]
def E8(F:Nat->(L UInt8×Nat)×U->O (LO ((L UInt8×Nat)×U) (Bool×U) ((L UInt8×Nat)×U) Any))
  (e:∀n c,F n c=aj (PB c.1.2 c.1.1) (aj (aE (vw c.1.1 c.1.2) 97) (LB n c) (aj (aE 122 (vw c.1.1 c.1.2)) (LB n c) (Z (N ((c.1.1,acE c.1.2 (HY c.1.1 c.1.2)),()))))) (Z (H 0 c))) :
  ∀(k:Nat)(l:L UInt8)(pos:Nat),pos+k=l.length->((l.drop pos).all FN=W∧∃c,fY F ((l,pos),()) (.out 0 c))∨((l.drop pos).all FN=J∧∃c,fY F ((l,pos),()) (.ret c (J,())))
 |0,l,pos,h=>by
  refine .inl ⟨by simp_all,((l,pos),()),.out (bG λn=>?_)⟩
  simp_all[PB,jl,aT]
 |k+1,l,pos,h=>by
  have f:pos<l.length:=by omega
  have i:l.drop pos=l[pos]::l.drop (pos+1):=aaG f;have d:PB pos l=W:=kO f;rw[i,List.all_cons];obtain⟨a,b,c⟩|⟨a,b⟩:=Wh l pos f
  .have j:97<=l[pos].toNat∧l[pos].toNat<=122:=M0 a;rw[a,sr];have g:Ev (λn=>F n ((l,pos),())) (.next ((l,pos+1),())):=bG λn=>by rw[e];simp(disch:=omega)only[aT,d,b,c];rfl
   obtain⟨x,y,z⟩|⟨x,y,z⟩:=E8 F e k l (pos+1) (by omega)
   .exact .inl ⟨x,y,.next g z⟩
   .exact .inr ⟨x,y,.next g z⟩
  .rw[a,rK];refine .inr ⟨rfl,((l,acE pos (HY l pos)),()),.ret (bG λn=>?_)⟩;rw[e];obtain b|b:=b
   .simp (disch:=omega)only[aT,d]<;>rfl
   .by_cases m:vw l pos<97
    .simp (disch:=omega)only[aT,d]<;>rfl
    .simp (disch:=omega)only[aT,d]<;>rfl
def Qt{G:Nat->L UInt8->O ((Bool×U)×U)}{a:UInt8}(h:Ev (λn=>G n l) ((l.all FN,()),()))(hl:l.length<=7) :
  Ev (λn=>aO (aI 0 (a::l)) (aj (br 65 (mO (a::l) 0)) (aO (aI 0 (a::l)) (aj (br (mO (a::l) 0) 90) (aO (eK 1 (aq (a::l)) (aq (a::l))) (ah (G n (cG (a::l) 1 (aq (a::l)))) λc=>Z c)) (Z ((J,()),())))) (Z ((J,()),())))) ((zp (a::l),()),()):=by
 rw[rW,kO hl,sr];have e:mO (a::l) 0=(a.toNat:Int):=rfl;by_cases h1:65<=a.toNat
 .by_cases h2:a.toNat<=90
  .rw[kO (And.intro h1 h2),sr];simp(disch:=first|omega|simp only[hJ];omega)only[aT,e,p8];exact Ev.ah h (Ev.pure _)
  .rw[jl (λh:65<=a.toNat∧a.toNat<=90=>h2 h.2),rK];exact bG λn=>by simp(disch:=first|omega|simp only[hJ];omega)only[aT,e]
 .rw[jl (λh:65<=a.toNat∧a.toNat<=90=>h1 h.1),rK];exact bG λn=>by simp(disch:=first|omega|simp only[hJ];omega)only[aT,e]
def aqG{s:L UInt8}(hs:s.length<=1000):Ev (λn=>F240 n (s,())) ((zp s,()),()):=by
 unfold F240;cases s with
 |nil=>exact bG λn=>by simp(disch:=omega)only[aT]<;>rfl
 |cons a l=>
  simp only[lQ]at hs;by_cases h:l.length<=7
  .have:=Qt (G:=λn l=>F275 n (l,())) (a:=a) (aqE (l:=l) (by omega)) h;refine Ev.vQ (λn=>?_) this;simp only[aq,lQ];rw[Ph (by omega),Ph (by omega)]
  .rw[rW,jl h,rK,rK];exact bG λn=>by simp(disch:=omega)only[aT]
def Lf(c:cw):Bool:=zp c.Name&&decide (0<=c.lg∧c.lg<=3)
theorem take_succ{α:Type}{l:L α}{i:Nat}(d:α)(h:i<l.length):l.take i++[l.getD i d]=l.take (i+1):=by
 simp_all
theorem qI{α:Type}{l:L α}{i:Nat}(d:α)(h:i<l.length):(l.take (i+1)).Nodup↔(l.take i).Nodup∧l.getD i d∉l.take i:=by
 rw[<-take_succ d h,List.nodup_append]
 grind
theorem aqN{l:L (L UInt8)}{s:L UInt8}(hl:l.length<=1000):Ev (λn=>F141 n (l,s,())) ((decide (s∈l),()),()):=by
 unfold F141;have b:∀(i:Nat)(y:Int×U),(X () (W,()):LO (Int×U) (Bool×U) U Any)≠.next y:=λ_ _ h=>by cases h
 rcases iP (F:=λn c=>aj (aE c.1 (aq l)) (aO (aI c.1 l) (aj (gC (bn l (az c.1) []) s) (Z (X () (W,()))) (Z (N (aG .i64 c.1 1,()))))) (Z (H 0 c))) l.length (λi=>!(gC (l.getD i []) s)) (λ_=>(X () (W,()):LO (Int×U) (Bool×U) U Any)) b (λi e=>bG λn=>by
   cases f:gC (l.getD i []) s<;>simp(disch:=omega)only[aT,f,ct,iV,iX,I2,MR]) (λn=>by simp(disch:=omega)only[aT]<;>rfl)with⟨a,r⟩|⟨i,e,a,r⟩
 .have:s∉l:=by intro g;have:=iB (d:=([]:L UInt8)) (Q:=λx=>(!(gC x s))=W) a s g;simp[gC]at this
  rw[jl this];exact Ev.bw r (λn c=>_) _ fc
 .have:s∈l:=by
   grind[gC,bV]
  rw[kO this];exact Ev.bw r (λn c=>_) _ fc
theorem aqO{l:L (L UInt8)}(hl:l.length<=1000):∃b,Ev (λn=>F139 n (l,())) ((b,()),())∧(b=W↔l.Nodup):=by
 unfold F139;have e:∀(i:Nat)(y:Int×U),(X () (J,()):LO (Int×U) (Bool×U) U Any)≠.next y:=λ_ _ h=>by cases h
 rcases iP (F:=λn c=>aj (aE c.1 (aq l)) (aO (eK 0 c.1 (aq l)) (aO (aI c.1 l) (ah (F141 n (cG l 0 c.1,bn l (az c.1) [],())) λd=>aj d.1.1 (Z (X () (J,()))) (Z (N (aG .i64 c.1 1,())))))) (Z (H 0 c))) l.length (λi=>!(decide (l.getD i []∈l.take i))) (λ_=>(X () (J,()):LO (Int×U) (Bool×U) U Any)) e (λi f=>by
   simp(disch:=omega)only[aT,Ei];refine Ev.ah (aqN (by grind)) (bG λn=>?_);cases j:decide (l.getD i []∈l.take i)<;>simp(disch:=omega)only[aT,ct,iV,iX,I2,MR]) (λn=>by simp(disch:=omega)only[aT]<;>rfl)with⟨a,r⟩|⟨i,f,a,r⟩
 .refine ⟨W,Ev.bw r (λn c=>_) _ fc,λ_=>?_,λ_=>rfl⟩;have:∀i,i<=l.length->(l.take i).Nodup:=by
   intro i
   induction i with
   |zero=>intro _;simp
   |succ i k=>
    grind[qI,decide_eq_true]
  have:=this l.length (eR _);rwa [MY]at this
 .refine ⟨J,Ev.bw r (λn c=>_) _ fc,(λh=>by cases h),λg=>?_⟩;have h1:(l.take (i+1)).Nodup:=List.Nodup.sublist (List.take_sublist _ _) g
  grind[h2,qI,decide_eq_false]
end
end
section
def aqD(s:L UInt8):Ev (λn=>F284 n (s,())) ((zp s,()),()):=by
 unfold F284;cases s with
 |nil=>exact fc|cons a l=>
  have b:gC (a::l) []=J:=rfl;have e:mO (a::l) 0=(a.toNat:Int):=rfl;by_cases h:l.length<=7
  .rw[rW,kO h,sr];by_cases h1:65<=a.toNat
   .by_cases h2:a.toNat<=90
    .rw[kO (And.intro h1 h2),sr];simp(disch:=first|omega|simp only[hJ];omega)only[aT,b,e,p8];obtain⟨a,c,r⟩|⟨a,c,r⟩:=E8 _ (λn c=>rfl) l.length l 0 (by omega)
     .rw[List.drop_zero]at a;rw[a];exact Ev.bw (F:=λn c=>_) r (λn c=>_) _ fc
     .rw[List.drop_zero]at a;rw[a];exact Ev.bw (F:=λn c=>_) r (λn c=>_) _ fc
    .rw[jl (λh:65<=a.toNat∧a.toNat<=90=>h2 h.2),rK];exact bG λn=>by simp(disch:=first|omega|simp only[hJ];omega)only[aT,b,e]
   .rw[jl (λh:65<=a.toNat∧a.toNat<=90=>h1 h.1),rK];exact bG λn=>by simp(disch:=first|omega|simp only[hJ];omega)only[aT,b,e]
  .rw[rW,jl h,rK,rK];exact bG λn=>by simp(disch:=omega)only[aT,b]
end
section
theorem rj{X R B P α:Type}(j:Nat)(x:X)(f:Nat->X->O α)(g:B->R->O α)(h:B->P->O α):bK (.out j x) f g h=f j x:=rfl
theorem afV{X R B P α:Type}(b:B)(r:R)(f:Nat->X->O α)(g:B->R->O α)(h:B->P->O α):bK (.ret b r) f g h=g b r:=rfl
theorem aqK{l:L cw}(hl:l.length<=1000)(hs:∀c∈l,c.Name.length<=1000):∃b,Ev (λn=>F158 n (l,())) ((b,()),())∧(b=W↔(∀c∈l,Lf c=W)∧l.length<=20∧(l.map cw.Name).Nodup):=by
 unfold F158;have p:∀(i:Nat)(y:L (L UInt8)×Int×U),(X () (J,()):LO (L (L UInt8)×Int×U) (Bool×U) U Any)≠.next y:=λ_ _ h=>by cases h
 rcases qg (F:=λn c=>aj (aE c.2.1 (aq l)) (aO (aI c.2.1 l) (ah (F240 n ((bn l (az c.2.1) aY).1,())) λd=>aj (au d.1.1) (Z (X () (J,()))) (aO (aI c.2.1 l) (ah (F241 n ((bn l (az c.2.1) aY).2,0,3,())) λe=>aj (au e.1.1) (Z (X () (J,()))) (aO (aI c.2.1 l) (aO (de c.1 [(bn l (az c.2.1) aY).1]) (Z (N (cZ c.1 [(bn l (az c.2.1) aY).1],aG .i64 c.2.1 1,()))))))))) (Z (H 0 c)))
  l.length (λi=>((l.take i).map cw.Name,(i:Int),())) (λi=>Lf (l.getD i aY)) (λ_=>(X () (J,()):LO (L (L UInt8)×Int×U) (Bool×U) U Any)) 0 p (λi k _=>by
   simp(disch:=omega)only[aT];refine Ev.ah (aqG (hs _ (bV aY k))) ?_;unfold Lf;cases zp (l.getD i aY).Name with
   |false=>simp_all[bG,aT,rK]|true=>
    refine bG λn=>?_;have f:de (List.map cw.Name (List.take i l)) [(l.getD i aY).Name]=W:=Gv.2 (by simp;omega);cases m:decide (0<=(l.getD i aY).lg∧(l.getD i aY).lg<=3)with
    |false=>simp only[aT,Ve,m,sr]|true=>
     simp(disch:=omega)only[aT,Ve,m,sr,f,ct,iV,iX]
     grind[take_succ,aY]) (λ_=>bG λn=>by simp(disch:=omega)only[aT]<;>rfl)with⟨a,r⟩|⟨i,k,a,_,r⟩
 .rw[MY]at r;obtain⟨b,g,q⟩:=aqO (l:=l.map cw.Name) (by simp_all);have o:∀c∈l,Lf c=W:=iB (d:=aY) a;by_cases j:l.length<=20
  .refine ⟨b,Ev.bw r (λn c=>_) _ ?_,by simp_all⟩;refine Ev.vQ (λn=>rj ..) ?_;simp(disch:=omega)only[aT];exact Ev.ah g (Ev.pure _)
  .refine ⟨J,Ev.bw r (λn c=>_) _ (bG λn=>?_),(λh=>by cases h),λh=>absurd h.2.1 j⟩;rw[rj];simp(disch:=omega)only[aT]
 .refine ⟨J,Ev.bw r (λn c=>_) _ fc,(λh=>by cases h),λh=>?_⟩
  simp_all
end
end Mn
end
end
